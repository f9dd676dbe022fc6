/- Lemmas. Conditions: none. -/
import Derived.Test.YtnlohpcinfedjaaGreatDoorP08
import Derived.Test.YtnlohpcinfedjaaGreatDoorChecked
import Derived.LaidEql
import Derived.Stop.Asserts
import Derived.RowKitTokens
import Derived.Stop.LaidTwo
import Derived.LaidMore
import Derived.LaidOnce
import Derived.Lib.LaidTab
import Derived.Lay
import Derived.OpenVars
import Derived.ChangeVars
import Derived.ChangeSame
import Derived.Stop.LaidErr
import Derived.LaidMore
import Derived.Stop.Joined
import Derived.Shelf.Strconv.Itoa4
import Derived.Shelf.Strings.Builder1
import Derived.Lib.ItoaLen
set_option linter.all false
set_option maxHeartbeats 8000000
set_option maxRecDepth 100000
namespace Go.Ae
open Go Go.Proofs Go.RowKit Go.Extern.Stop Go.Stop Go.Extern
def rW(v:Value)(w:World):(Extern.ReflectliteType.typeOf #[.iface 304 v]).run Tryz.prog w= .ok (.iface 227 (.agg #[.pointer (some ⟨5,304,none⟩)])) w:=by kernel_rfl
def iU:Array Value->Sem Value:=Extern.ReflectliteType.method λt=>do Extern.Rtype.noPackHeld "Comparable" t;pure (.bool (<-typeInfo t).comparable)
def rZ(w:World):(iU #[.agg #[.pointer (some ⟨5,304,none⟩)]]).run Tryz.prog w= .ok (.bool true) w:=by kernel_rfl
def rX(v:Value)(w:World):(Go.method 443 227 v "Comparable").run Tryz.prog w= .ok (242,v) w:=by kernel_rfl
def Me:(Tryz.prog.info? 304).map (·.comparable)=some true:=by kernel_rfl
def Mf:(Tryz.prog.info? 331).map (·.size)=some 1:=by kernel_rfl
def Yx(v:Value)(z:TypeId)(w:World):(Instr.typeAssert (.iface 304 v) z 229 true).run Tryz.prog w= .ok (.tuple #[.nilIface,.bool false]) w:=run_typeAssert_lacksB Tryz.underlying229 (by kernel_rfl) (by kernel_rfl) v z w
def Qaoa(v:Value)(z:TypeId)(w:World):(Instr.typeAssert (.iface 304 v) z 232 true).run Tryz.prog w= .ok (.tuple #[.nilIface,.bool false]) w:=run_typeAssert_lacksB Tryz.underlying232 (by kernel_rfl) (by kernel_rfl) v z w
def Qan5(v:Value)(z:TypeId)(w:World):(Instr.typeAssert (.iface 304 v) z 234 true).run Tryz.prog w= .ok (.tuple #[.nilIface,.bool false]) w:=run_typeAssert_lacksB Tryz.underlying234 (by kernel_rfl) (by kernel_rfl) v z w
def Yy(a:Addr)(w:World):Calls Tryz.prog 96 #[.iface 304 (.pointer (some a)),.iface 304 (.pointer (some a))] w λe w'=>e= .returned (.bool true)/\w'=w:=by
 obtain⟨i,Q,z⟩:=Da.1 Me;obtain⟨j,Z,aa⟩:=Da.1 Mf;have h8:= @run_callFunc_extern Tryz.prog 126 _ Extern.ReflectliteType.typeOf Tryz.func126 (by kernel_rfl) (by kernel_rfl) (by kernel_rfl) (by kernel_rfl);have G:= @run_callFunc_extern Tryz.prog 242 _ iU Tryz.func242 (by kernel_rfl) (by kernel_rfl) (by kernel_rfl) (by kernel_rfl);have tT:=rW;have cT:=rZ;have mR:=rX;have O:=run_eql_iface_ptr_same (P:=Tryz.prog) w a Tryz.underlying147 Tryz.underlying304 Q z Z
 go_enter Tryz.func96,Tryz.ntmps96
 go_wp2
 refine wp_loop_rounds 1 ?_;rw[rounds_succ]
 go_wp2
 go_ret
 exact⟨rfl,rfl⟩
def jB(b:Addr)(w:World):Calls Tryz.prog 96 #[.nilIface,.iface 304 (.pointer (some b))] w λe w'=>e= .returned (.bool false)/\w'=w:=by
 have hn:=run_eql_iface_nil_left (P:=Tryz.prog) w 304 (.pointer (some b)) Tryz.underlying147
 go_enter Tryz.func96,Tryz.ntmps96
 go_wp2
 go_ret
 exact⟨rfl,rfl⟩
def SQ(a b:Addr)(ca Q:Array Value)(ta tb:TypeId)(w:World)(O:a≠b)(ha:w.heap[a.block]? =some (.cells ca ta (0,0)))(hb:w.heap[b.block]? =some (.cells Q tb (0,0))):
 Calls Tryz.prog 96 #[.iface 304 (.pointer (some a)),.iface 304 (.pointer (some b))] w λe w'=>e= .returned (.bool false)/\w'=w:=by
 obtain⟨i,hi,z⟩:=Da.1 Me;obtain⟨j,hj,G⟩:=Da.1 Mf;have h8:= @run_callFunc_extern Tryz.prog 126 _ Extern.ReflectliteType.typeOf Tryz.func126 (by kernel_rfl) (by kernel_rfl) (by kernel_rfl) (by kernel_rfl);have Z:= @run_callFunc_extern Tryz.prog 242 _ iU Tryz.func242 (by kernel_rfl) (by kernel_rfl) (by kernel_rfl) (by kernel_rfl);have tT:=rW;have cT:=rZ;have mR:=rX;have nE:=Yx;have uE:=Qaoa;have vE:=Qan5;have aa:=run_eql_iface_ptr_other (P:=Tryz.prog) w Tryz.underlying147 Tryz.underlying304 hi z hj (by rw[G];decide) O ha hb
 go_enter Tryz.func96,Tryz.ntmps96
 go_wp2
 refine wp_loop_rounds 1 ?_;rw[rounds_succ]
 go_wp2
 go_ret
 exact⟨rfl,rfl⟩
def Of(K:Aj):List AV->Prop
 |[.im .nili,.im (.tok g)]=>J3 g=true/\K (.im (.bool false)) {}
 |[.im (.tok a),.im (.tok g)]=>J3 a=true/\J3 g=true/\K (.im (.bool (a==g))) {}
 |_=>False
def errIs.row:AG:=λargs _ _ K=>Of K args
def errIs.q(args:List AV)(h:Nat->Option Au)(nx:Nat)(K:Aj):errIs.row args h nx K=Of K args:=rfl
def eM{ok:Nat->Prop}{hp:Nat->Option Obj}{g:Nat}{a:Addr}{v:Value}(h:GE ok hp g a)(O:rd ok hp (.tok g) v):v= .iface 304 (.pointer (some a)):=by
 simp only[rd] at O;obtain⟨_,_,T,fr,Z⟩:=O;obtain⟨_,⟨T2,Q,z⟩,_⟩:=h;rw[Z] at z;have G:=AC z;simp only[Obj.cells.injEq] at G;simpa using G.1
def errIs.ok:AJ 96 errIs.row:=by
 intro args h nx K G;have hE: ∀S:Ay,S.h=({}:B4).appf S.h:=λS=>by funext m;simp[B4.appf,hget]
 rw[errIs.q] at G;unfold Of at G;split at G
 .rename_i g;obtain⟨hg,hK⟩:=G;refine⟨Oy (by kernel_rfl),_,_,?_,hK⟩;intro C S vs R hW ad Q Z z O;simp only[AR,Aa] at z;obtain⟨v0,r0,hv,h0,v1,r1,aa,h1,ab⟩:=z;obtain⟨a,ga,gn⟩:=hW.gp.err;have e1:=eM (ga g hg) h1;simp only[rd] at h0;subst ab aa e1 h0;have ac:vs= #[.nilIface,.iface 304 (.pointer (some (a g)))]:=by apply KM;simpa using hv
  subst ac;refine (jB (a g) S.w).mono ?_;rintro e w' ⟨rfl,rfl⟩;exact O _ S hW (hE S) (BA.refl _ _) (by simp only[Aa,rd])
 .rename_i b g;obtain⟨hb,hg,hK⟩:=G;refine⟨Oy (by kernel_rfl),_,_,?_,hK⟩;intro C S vs R hW ad Q Z z O;simp only[AR,Aa] at z;obtain⟨v0,r0,hv,h0,v1,r1,aa,h1,ab⟩:=z;obtain⟨a,ga,gn⟩:=hW.gp.err;have e1:=eM (ga g hg) h1;have e0:=eM (ga b hb) h0;subst ab aa e1 e0;have ac:vs= #[.iface 304 (.pointer (some (a b))),.iface 304 (.pointer (some (a g)))]:=by apply KM;simpa using hv
  subst ac;by_cases c:b=g
  .subst c;refine (Yy (a b) S.w).mono ?_;rintro e w' ⟨rfl,rfl⟩;exact O _ S hW (hE S) (BA.refl _ _) (by simp only[Aa,rd,wQ])
  .obtain⟨_,_,_,cb,tb,k1⟩:=ga b hb;obtain⟨_,_,_,cg,tg,k2⟩:=ga g hg;refine (SQ (a b) (a g) cb cg tb tg S.w (gn b g hb hg c) k1 k2).mono ?_;rintro e w' ⟨rfl,rfl⟩;exact O _ S hW (hE S) (BA.refl _ _) (by simp only[Aa,rd];simp[c])
 .exact G.elim
end Go.Ae
namespace Go.Ae
open Go Go.Proofs Go.RowKit Go.ChangeShapes Go.WideShapes
abbrev K5:List (String×DataW Unit):=Go.Proofs.YtnlohpcinfedjaaGreatDoor.Rows.fnExactGrowSortedRow.laid
def gP:Tryz.prog.globalNamed "internal/strconv.uint64pow10" =some 2:=by kernel_rfl
def gPt:(Tryz.prog.globals[2]?).map (·.type)=some 246:=by kernel_rfl
def gT:Tryz.prog.globalNamed "loop.example/g01081/impl.errTerminal" =some 0:=by kernel_rfl
def gN:Tryz.prog.globalNamed "loop.example/g01081/impl.errNoSpace" =some 1:=by kernel_rfl
def gTt:(Tryz.prog.globals[0]?).map (·.type)=some 147:=by kernel_rfl
def gNt:(Tryz.prog.globals[1]?).map (·.type)=some 147:=by kernel_rfl
def dD: "*" ++ "errors.errorString" = "*errors.errorString" :=by decide
def yS(u:TypeId)(h:Tryz.prog.typeName? 3 u=some "*errors.errorString"):u=304:=
 typeName_ptr_named (nm:= "errors.errorString") (by rw[dD];kernel_rfl) (by kernel_rfl) (by decide) u (by rw[dD];exact h)
def Xf{W:World}{n:String}{g:Nat}{cs:Array Value}(G:Tryz.prog.globalNamed n=some g)(h:W.var? Tryz.prog n=some cs): ∃T z,W.heap[g]? =some (.cells cs T z):=by
 unfold World.var? at h;rw[G] at h;simp only[G8] at h;split at h
 .rename_i c T z e;obtain rfl:=AC h;exact⟨T,z,e⟩
 .cases h
def Oh{W:World}{b:Nat}{o:Obj}(h:W.heap[b]? =some o):b<W.heap.size:=(RL.1 h).1
def YJ{W:World}(h:laidMetH Tryz.prog K5 W):GP (λb=>b<W.heap.size) (λb=>W.heap[b]?):=by
 rw[MakeChecks.laidMetH_plain _ _ _ (by kernel_rfl)] at h;have hT:Lib.TabIs Tryz.prog W "internal/strconv.uint64pow10" .u64 Lib.pow10Tab:=Lib.tabIs_of_head gP gPt Tryz.underlying246 Tryz.underlying202 (by kernel_rfl) (by kernel_rfl) h.tail.tail;obtain⟨Tt,ft,et⟩:=Xf gP hT;refine⟨?_,Oh et,Tt,ft,et⟩;obtain⟨a0,a1,s0,s1,c0,c1,t0,t1,aa,ab,ac,af,ah,ad,ag,ai,Z,z,G⟩:=laid_sentinels2 h.tail.tail.tail gT gTt gN gNt Tryz.underlying147 yS Tryz.underlying304 Tryz.underlying331 rfl rfl Tryz.underlying9 (by kernel_rfl) (by kernel_rfl);obtain⟨T0,f0,g0⟩:=Xf gT aa;obtain⟨T1,f1,g1⟩:=Xf gN ab;refine⟨λg=>if g=0 then a0 else a1,λg O=> ?_,λg g' O Q hn=> ?_⟩
 .simp only[J3,Ic,QO] at O;rcases O with rfl|rfl
  .exact⟨Oh g0,⟨T0,f0,g0⟩,Oh z,c0,t0,z⟩
  .exact⟨Oh g1,⟨T1,f1,g1⟩,Oh G,c1,t1,G⟩
 .simp only[J3,Ic,QO] at O Q;rcases O with rfl|rfl<;>rcases Q with rfl|rfl
  .exact absurd rfl hn
  .exact Z
  .exact λe=>Z e.symm
  .exact absurd rfl hn
abbrev yY:List String:=["loop.example/g01081/impl.errTerminal", "loop.example/g01081/impl.errNoSpace"]
def Qw{H:Type}{enc:TypeId×Value->H}{W:World}{sp:Nat->Bool}{gs:List (DataW H)}{q:List MemPlace}(h:laidMetH Tryz.prog K5 W)(hV:DataW.TrodVars enc Tryz.prog W sp yY gs q):
 ∃O Q:Value,IsIface O/\IsIface Q/\W.var? Tryz.prog "loop.example/g01081/impl.errTerminal" =some #[O]/\W.var? Tryz.prog "loop.example/g01081/impl.errNoSpace" =some #[Q]/\gs=[tok enc O,tok enc Q]/\q=[.cell 0 0,.cell 1 0]:=by
 rw[MakeChecks.laidMetH_plain _ _ _ (by kernel_rfl)] at h;obtain⟨Z,a1,s0,s1,c0,c1,t0,t1,z,G,_⟩:=laid_sentinels2 h.tail.tail.tail gT gTt gN gNt Tryz.underlying147 yS Tryz.underlying304 Tryz.underlying331 rfl rfl Tryz.underlying9 (by kernel_rfl) (by kernel_rfl);obtain⟨r1,r2⟩:=hV.unique (vars_read2 enc gT gTt Tryz.underlying147 z trivial gN gNt Tryz.underlying147 G trivial _);exact⟨.iface _ (.pointer (some Z)),.iface _ (.pointer (some a1)),trivial,trivial,z,G,r1,r2⟩
def rY{W W':World}(O:Below W.heap.size W W'){n:String}{g:Nat}{cs:Array Value}(z:Tryz.prog.globalNamed n=some g)(h:W.var? Tryz.prog n=some cs):W'.var? Tryz.prog n=some cs:=by
 obtain⟨T,Q,e⟩:=Xf z h;have G:=(O.block g (Oh e)).trans e;unfold World.var?;rw[z];simp only[G8,G]
def ZW{H:Type}(enc:TypeId×Value->H){W W':World}(O:Below W.heap.size W W'){z G:Value}(i0:IsIface z)(i1:IsIface G)(h0:W.var? Tryz.prog "loop.example/g01081/impl.errTerminal" =some #[z])(Z:W.var? Tryz.prog "loop.example/g01081/impl.errNoSpace" =some #[G])(Q:Nat->Bool):
 DataW.TrodVars enc Tryz.prog W' Q yY [tok enc z,tok enc G] [.cell 0 0,.cell 1 0]:=
 vars_read2 enc gT gTt Tryz.underlying147 (rY O gT h0) i0 gN gNt Tryz.underlying147 (rY O gN Z) i1 Q
def SF(os:Os)(args:Array Value):laidMetH Tryz.prog K5 ((World.doorLaid Tryz.prog 62 os).forCall (λ_ _=>0) ⟨#[],args,[]⟩).memory:=
 laidMetH_of_parts3 (fuel:=80) (laidMet_of_run' 80 (by kernel_rfl) (by kernel_rfl)) (by kernel_rfl) (by kernel_rfl)
end Go.Ae
namespace Go.Proofs
open Go.Shelf
def Tryz.fmtL_ren:Go.Shelf.Ren:=⟨λ|173=>89|246=>117|283=>142|284=>143|285=>144|286=>145|129=>166|317=>165|318=>167|319=>168|320=>169|337=>190|338=>191|n=>n,λ|2=>2|3=>3|9=>9|4=>4|171=>201|0=>0|53=>202|37=>121|5=>5|173=>205|212=>246|51=>247|20=>20|213=>248|46=>195|232=>285|233=>286|n=>n,λ|17=>2|18=>3|19=>4|n=>n⟩
def Tryz.fmtL:Go.Proofs.LaysM.n173 Tryz.prog Tryz.fmtL_ren:={
 mixed:=by kernel_rfl
 f129:=Tryz.func166.trans (Cl some (by kernel_rfl))
 f173:=Tryz.func89.trans (Cl some (by kernel_rfl))
 f246:=Tryz.func117.trans (Cl some (by kernel_rfl))
 f283:=Tryz.func142.trans (Cl some (by kernel_rfl))
 f284:=Tryz.func143.trans (Cl some (by kernel_rfl))
 f285:=Tryz.func144.trans (Cl some (by kernel_rfl))
 f286:=Tryz.func145.trans (Cl some (by kernel_rfl))
 f317:=Tryz.func165.trans (Cl some (by kernel_rfl))
 f318:=Tryz.func167.trans (Cl some (by kernel_rfl))
 f319:=Tryz.func168.trans (Cl some (by kernel_rfl))
 f320:=Tryz.func169.trans (Cl some (by kernel_rfl))
 f337:=Tryz.func190.trans (Cl some (by kernel_rfl))
 f338:=Tryz.func191.trans (Cl some (by kernel_rfl))
 t0:=Tryz.underlying0
 a0:=Tryz.isAgg0
 z0:=Tryz.sizeOf0
 v0:=Tryz.zeroValue0
 t2:=Tryz.underlying2
 a2:=Tryz.isAgg2
 z2:=Tryz.sizeOf2
 v2:=Tryz.zeroValue2
 t3:=Tryz.underlying3
 a3:=Tryz.isAgg3
 z3:=Tryz.sizeOf3
 v3:=Tryz.zeroValue3
 t4:=Tryz.underlying4
 a4:=Tryz.isAgg4
 z4:=Tryz.sizeOf4
 v4:=Tryz.zeroValue4
 t5:=Tryz.underlying5
 a5:=Tryz.isAgg5
 z5:=Tryz.sizeOf5
 v5:=Tryz.zeroValue5
 t9:=Tryz.underlying9
 a9:=Tryz.isAgg9
 z9:=Tryz.sizeOf9
 v9:=Tryz.zeroValue9
 t20:=Tryz.underlying20
 a20:=Tryz.isAgg20
 z20:=Tryz.sizeOf20
 v20:=Tryz.zeroValue20
 t37:=Tryz.underlying121
 a37:=Tryz.isAgg121
 z37:=Tryz.sizeOf121
 v37:=Tryz.zeroValue121
 t46:=Tryz.underlying195
 a46:=Tryz.isAgg195
 z46:=Tryz.sizeOf195
 v46:=Tryz.zeroValue195
 t51:=Tryz.underlying247
 a51:=Tryz.isAgg247
 z51:=Tryz.sizeOf247
 v51:=Tryz.zeroValue247
 t53:=Tryz.underlying202
 a53:=Tryz.isAgg202
 z53:=Tryz.sizeOf202
 v53:=Tryz.zeroValue202
 t171:=Tryz.underlying201
 a171:=Tryz.isAgg201
 z171:=Tryz.sizeOf201
 v171:=Tryz.zeroValue201
 t173:=Tryz.underlying205
 a173:=Tryz.isAgg205
 z173:=Tryz.sizeOf205
 v173:=Tryz.zeroValue205
 t212:=Tryz.underlying246
 a212:=Tryz.isAgg246
 z212:=Tryz.sizeOf246
 v212:=Tryz.zeroValue246
 t213:=Tryz.underlying248
 a213:=Tryz.isAgg248
 z213:=Tryz.sizeOf248
 t232:=Tryz.underlying285
 a232:=Tryz.isAgg285
 z232:=Tryz.sizeOf285
 v232:=Tryz.zeroValue285
 t233:=Tryz.underlying286
 a233:=Tryz.isAgg286
 z233:=Tryz.sizeOf286
 v233:=Tryz.zeroValue286
 g17:=by kernel_rfl
 g18:=by kernel_rfl
 g19:=by kernel_rfl
 i0:=by kernel_rfl
 i2:=by kernel_rfl
 i3:=by kernel_rfl
 i4:=by kernel_rfl
 i5:=by kernel_rfl
 i9:=by kernel_rfl
 i20:=by kernel_rfl
 i37:=by kernel_rfl
 i46:=by kernel_rfl
 i51:=by kernel_rfl
 i53:=by kernel_rfl
 i171:=by kernel_rfl
 i173:=by kernel_rfl
 i212:=by kernel_rfl
 i232:=by kernel_rfl
 i233:=by kernel_rfl
 m17:=by kernel_rfl
 m18:=by kernel_rfl
 m19:=by kernel_rfl}
end Go.Proofs
namespace Go.Ae
open Go.Proofs Go.Lib
def ES(n:Int):ByteArray:=⟨(Lib.itoa n).toArray⟩
def lF{C:Ba}{S:Ay}(hW:Wf C S):Lib.TabIs Tryz.prog S.w "internal/strconv.uint64pow10" .u64 Lib.pow10Tab:=by
 obtain⟨_,T,z,h⟩:=hW.gp.tab;have G:Tryz.prog.globalNamed "internal/strconv.uint64pow10" =some 2:=by kernel_rfl
 have h':S.w.heap[2]? =some (.cells lE T z):=h;unfold Lib.TabIs World.var?;rw[G];simp only[G8,h'];rfl
def SU{C:Ba}{S:Ay}(hW:Wf C S){W':World}(O:S.w.heap.size<=W'.heap.size)(ab:W'.os=S.w.os)(ht:W'.tape=S.w.tape)(G:W'.output=S.w.output)(aa:S.w.drawn<=W'.drawn)(hk: ∀b,b<S.w.heap.size->W'.heap[b]? =S.w.heap[b]?):
 ∃(Q:Ba) (S1:Ay),Q.w=S.w/\Q.ok=S.ok/\(∀b,¬Q.M b)/\Wf Q S1/\S1.w=W':=by
 refine⟨⟨S.w,λ_=>False,S.ok,0,λ_=>none,λ_=>none,[]⟩,⟨λ_=>none,S.ok,λ_=>none,W'⟩,rfl,rfl,λ_ h=>h,?_,rfl⟩;exact⟨ab,ht,G,aa,O,λb Z _=>hk b Z,λ_ h=>h,λ_ h=> .inl h,λb Z=>FC (hW.oks b Z) O,λo e z=>(by cases z),λo e l z=>(by cases z),λo o' e e' l l' z=>(by cases z),hW.glN λ_ h=>h.elim⟩
def fmt_.fv(a:Int×Int):ByteArray:=(λn _=>ES n) (a.1) (a.2)
def fmt_.row:AG:=CY (b2 qI qI) rT (λa=> -9223372036854775808<=a.1/\a.1<=9223372036854775807/\a.2=10) fmt_.fv
def fmt_.q:=CD (R:=fmt_.row) rfl
def fmt_.ok:AJ 89 fmt_.row:=by
 refine Quy (by kernel_rfl) (b2 qI qI).l rT.l λa G C S vs RR hW O z=> ?_
 obtain⟨n,b⟩:=a;obtain⟨Z,h2,h3⟩:=G;simp only at Z h2 h3;subst h3;simp only[b2,qI,EV,I4,rd] at O;obtain⟨v0,r0,hv,rfl,v1,r1,rfl,rfl,rfl⟩:=O;have Q:vs= #[.int .i64 n,.int .i64 10]:=by apply KM;simpa using hv
 subst Q;refine (Any.strconv_FormatInt_10 Tryz.fmtL n Z h2 S.w (lF hW)).mono ?_;rintro e w' ⟨rfl,k,os,rfl⟩;obtain⟨C0,S1,e1,e2,e3,e4,e5⟩:=SU hW (W':=Sort.grow (S.w.drewN k) os) (by simp[Sort.grow]) rfl rfl rfl (wO _ _) (λb hb=>by
  simp only[Sort.grow];rw[Zdh (by simpa using hb)]
  rfl)
 have:=z (.string (ES n)) C0 S1 (.str (ES n)) e1 e2 e3 e4 rfl (by simp only[rd])
 rw[e5] at this;exact this
def Nu{s:UInt8}: ∀{a b r q:List UInt8},(∀c∈a,c≠s)->(∀c∈b,c≠s)->a++s::r=b++s::q->a=b/\r=q
 |[],[],r,q,_,_,h=>by simpa using h
 |[],y::b,r,q,_,G,h=>by
  simp only[Dv,Ci,Wz] at h;exact absurd h.1.symm (G y (BS ..))
 |x::a,[],r,q,z,_,h=>by
  simp only[Dv,Ci,Wz] at h;exact absurd h.1 (z x (BS ..))
 |x::a,y::b,r,q,z,G,h=>by
  simp only[Ci,Wz] at h;obtain⟨Q,Z⟩:=Nu (λc O=>z c (BW _ O)) (λc O=>G c (BW _ O)) h.2;exact⟨by rw[h.1,Q],Z⟩
def ZV(l:List UInt8):Nat:=l.foldl (λa c=>10*a+(c.toNat - 48)) 0
def eQ{d:Nat}(h:d<10):(UInt8.ofNat (48+d)).toNat=48+d:=by
 rcases (by omega:d=0\/d=1\/d=2\/d=3\/d=4\/d=5\/d=6\/d=7\/d=8\/d=9) with rfl|rfl|rfl|rfl|rfl|rfl|rfl|rfl|rfl|rfl<;>rfl
def Rq: ∀(n u:Nat),u<=n->ZV (decDigits u)=u/\(∀c∈decDigits u,48<=c.toNat/\c.toNat<=57)/\decDigits u≠[]
 |0,u,h=>by
  obtain rfl:u=0:=by omega
  rw[decDigits,dif_pos (by omega)];refine⟨by decide,λc z=> ?_,by simp⟩;rw[BL] at z;subst z;decide
 |n+1,u,h=>by
  rw[decDigits];split
  .rename_i G
   have:=eQ G
   refine⟨by simp only[ZV,KN,XU,this];omega,λc z=> ?_,by simp⟩;rw[BL] at z;subst z;omega
  .rename_i G;obtain⟨O,Q,Z⟩:=Rq n (u/10) (by omega)
   have:=eQ (d:=u % 10) (by omega)
   refine⟨?_,λc z=> ?_,by simp⟩
   .simp only[ZV] at O;simp only[ZV,Zeg,KN,XU,O,this];omega
   .rcases B2.1 z with z|z
    .exact Q c z
    .rw[BL] at z;subst z;omega
def Md{u v:Nat}(h:decDigits u=decDigits v):u=v:=by
 have z:=(Rq u u (AU _)).1;have G:=(Rq v v (AU _)).1;rw[h] at z;omega
def Rp{m n:Int}(h:itoa m=itoa n):m=n:=by
 unfold itoa at h;have hd: ∀u,decDigits u=45::decDigits u->False:=λu G=>by
  have:=Cl List.length G
  simp at this
 have z: ∀u v,¬(45::decDigits u=decDigits v):=λu v e=>by
  have:=(Rq v v (AU _)).2.1 45 (by rw[<-e];exact BS ..)
  exact absurd this.1 (by decide)
 split at h<;>split at h
 .have:=Md (xB h).2
  omega
 .exact absurd h (z _ _)
 .exact absurd h.symm (z _ _)
 .have:=Md h
  omega
def M6{n:Int}(h0: -9223372036854775808<=n)(z:n<=9223372036854775807):(itoa n).length<=21:=itoa_length_le n h0 z
def dcm_.fv(a:Int):ByteArray:=(ES) a
def dcm_.row:AG:=CY (b1 qI) rT (λa=> -9223372036854775808<=a/\a<=9223372036854775807) dcm_.fv
def dcm_.q:=CD (R:=dcm_.row) rfl
def dcm_.ok:AJ 65 dcm_.row:=by
 refine FM (tC fmt_.ok tN) Tryz.func65 ?_;intro a z;simp only[Tryz.f65,Option.getD];simp(disch:=omega)only[ZZ,simprocAttr,Ab,dcm_.fv,fmt_.q,fmt_.fv,BD,D.sc,D.scs,B6,AP];exact z
def Dr{n:Int}(h0: -9223372036854775808<=n)(z:n<=9223372036854775807):(ES n).size<=21:=M6 h0 z
end Go.Ae
namespace Go.Ae
open Go.Proofs
def fU(p:Ad)(k:Int):Ad×Ad:=(⟨p.X/k,p.Y/k⟩,⟨p.X % k,p.Y % k⟩)
def l02Index.fv(a:AE×Int):Bool:=(λs t=>Bj t 0 (s.Tiles.length - 1)) (a.1) (a.2)
def l02Index.row:AG:=vK (b2 (qP 2 AE.d_le) qI) rB (λa=>True) l02Index.fv
def l02Index.q:=B3 (R:=l02Index.row) rfl
def l02Index.ok:AJ 80 l02Index.row:=by
 refine vw (tC l00In.ok tN) Tryz.func80 ?_;intro a z;simp only[Tryz.f80,Option.getD];simp only[ZZ,simprocAttr,Ab,l02Index.fv,l00In.q,l00In.fv];intro h;rw[AH (by omega) (by omega)]
def isTile.fv(a:AE×Int):Bool:=(λs t=>Bj t 0 (s.Tiles.length - 1)) (a.1) (a.2)
def isTile.row:AG:=vK (b2 (qR AE.d_le) qI) rB (λa=>True) isTile.fv
def isTile.q:=B3 (R:=isTile.row) rfl
def isTile.ok:AJ 102 isTile.row:=by
 refine vw (tC isIndex.ok tN) Tryz.func102 ?_;intro a z;simp only[Tryz.f102,Option.getD];simp only[ZZ,simprocAttr,Ab,isTile.fv,isIndex.q,isIndex.fv];intro h;simp only[I64];omega
def opposite_.fv(a:Int):Int:=(λd=>(d+2) % 4) a
def opposite_.row:AG:=vK (b1 qI) rI (λa=>0<=a/\a<=3) opposite_.fv
def opposite_.q:=B3 (R:=opposite_.row) rfl
def opposite_.ok:AJ 174 opposite_.row:=by
 refine vw tN Tryz.func174 ?_;intro a z;simp only[Tryz.f174,Option.getD];simp only[ZZ,simprocAttr,Ab,opposite_.fv];rw[AH (by omega) (by omega)]
 have:(0:Int)<=a+2:=by omega
 rw[iD this]
def l01Dir.fv(a:Int):Bool:=(λd=>Bj d 0 3) a
def l01Dir.row:AG:=vK (b1 qI) rB (λa=>True) l01Dir.fv
def l01Dir.q:=B3 (R:=l01Dir.row) rfl
def l01Dir.ok:AJ 141 l01Dir.row:=by
 refine vw (tC l00In.ok tN) Tryz.func141 ?_;intro a z;simp only[Tryz.f141,Option.getD];simp only[ZZ,simprocAttr,Ab,l01Dir.fv,l00In.q,l00In.fv]
def Opposite_.fv(a:Int):Int:=(λd=>(d+2) % 4) a
def Opposite_.row:AG:=vK (b1 qI) rI (λa=>0<=a/\a<=3) Opposite_.fv
def Opposite_.q:=B3 (R:=Opposite_.row) rfl
def Opposite_.ok:AJ 115 Opposite_.row:=by
 refine vw (tC l01Dir.ok tN) Tryz.func115 ?_;intro a z;simp only[Tryz.f115,Option.getD];simp only[ZZ,simprocAttr,Ab,Opposite_.fv,l01Dir.q,l01Dir.fv];have h:Bj a 0 3=true:=by simp[Bj,z]
 rw[h,Ag (by simp),AH (by omega) (by omega)]
 have:(0:Int)<=a+2:=by omega
 rw[iD this]
def l07Temperature.fv(a:Int):Bool:=(λt=>Bj t 1 16) a
def l07Temperature.row:AG:=vK (b1 qI) rB (λa=>True) l07Temperature.fv
def l07Temperature.q:=B3 (R:=l07Temperature.row) rfl
def l07Temperature.ok:AJ 58 l07Temperature.row:=by
 refine vw (tC l00In.ok tN) Tryz.func58 ?_;intro a z;simp only[Tryz.f58,Option.getD];simp only[ZZ,simprocAttr,Ab,l07Temperature.fv,l00In.q,l00In.fv]
def isTemperature.fv(a:Int):Bool:=(λt=>Bj t 1 16) a
def isTemperature.row:AG:=vK (b1 qI) rB (λa=>True) isTemperature.fv
def isTemperature.q:=B3 (R:=isTemperature.row) rfl
def isTemperature.ok:AJ 90 isTemperature.row:=by
 refine vw (tC within_.ok tN) Tryz.func90 ?_;intro a z;simp only[Tryz.f90,Option.getD];simp only[ZZ,simprocAttr,Ab,isTemperature.fv,within_.q,within_.fv]
def C5(s:AE):Prop:=s.Glues.length<=140737488355328/\(∀t∈s.Tiles,t.Sides.length=4/\ ∀g∈t.Sides,0<=g/\g<=s.Glues.length)/\ ∀g∈s.Glues,1<=g.Strength/\g.Strength<=4
def ID(s:AE)(z G:Int):Int:=((((s.Tiles[z.toNat]?).map Tile.Sides).getD [])[G.toNat]?).getD 0
def Q6(s:AE)(g:Int):Int:=if 0<g then ((s.Glues[(g - 1).toNat]?).map Ak.Strength).getD 0 else 0
def LC(s:AE)(a z b:Int):Int:=if ID s a z=ID s b ((z+2) % 4) then Q6 s (ID s a z) else 0
def GO(s:AE)(t:Int):Prop:=0<=t/\t<s.Tiles.length
def SE(d:Int):Prop:=0<=d/\d<=3
def XC{s:AE}{t d:Int}{x:Tile}{g:Int}(G:s.Tiles[t.toNat]? =some x)(z:x.Sides[d.toNat]? =some g):ID s t d=g:=by
 simp[ID,G,z]
def Mt{s:AE}{g:Int}{x:Ak}(h:0<g)(z:s.Glues[(g - 1).toNat]? =some x):Q6 s g=x.Strength:=by
 simp only[Q6,Al h,z];rfl
def Mu{s:AE}{g:Int}(h: ¬0<g):Q6 s g=0:=by
 simp[Q6,h]
def bA{s:AE}(h:C5 s){t:Int}{x:Tile}(z:s.Tiles[t.toNat]? =some x):x.Sides.length=4:=(h.2.1 x (Bh z)).1
def Qvv{s:AE}(h:C5 s){t d:Int}{x:Tile}{g:Int}(G:s.Tiles[t.toNat]? =some x)(z:x.Sides[d.toNat]? =some g):0<=g/\g<=s.Glues.length:=(h.2.1 x (Bh G)).2 g (Bh z)
def l02Strength.fv(a:AE×Int):Int:=(Q6) (a.1) (a.2)
def l02Strength.row:AG:=vK (b2 (qP 2 AE.d_le) qI) rI (λa=>0<=a.2/\a.2<=a.1.Glues.length/\a.1.Glues.length<=140737488355328) l02Strength.fv
def l02Strength.q:=B3 (R:=l02Strength.row) rfl
def l02Strength.ok:AJ 116 l02Strength.row:=by
 refine vw tN Tryz.func116 ?_;intro a z;simp only[Tryz.f116,Option.getD];simp only[ZZ,simprocAttr,Ab,l02Strength.fv];obtain⟨O,Q,Z⟩:=z
 split<;>rename_i h
 .simp[Q6,h]
 .rw[AH (by omega) (by omega)];exact⟨by omega,by omega,λx G=>(Mt (by omega) G).symm⟩
def strength_.fv(a:AE×Int×Int):Int:=(λs t d=>Q6 s (ID s t d)) (a.1) (a.2.1) (a.2.2)
def strength_.row:AG:=vK (b3 (qR AE.d_le) qI qI) rI (λa=>C5 a.1/\GO a.1 a.2.1/\SE a.2.2) strength_.fv
def strength_.q:=B3 (R:=strength_.row) rfl
def strength_.ok:AJ 175 strength_.row:=by
 refine vw tN Tryz.func175 ?_;intro a z;simp only[Tryz.f175,Option.getD];simp only[ZZ,simprocAttr,Ab,strength_.fv];obtain⟨G,Q,Z⟩:=z;refine⟨Q.1,Q.2,λx O=>⟨Z.1,?_,λg hg=> ?_⟩⟩
 .rw[bA G O];have:=Z.2;omega
 .have aa:=Qvv G O hg
  have:=G.1
  rw[XC O hg]
  split<;>rename_i h
  .rw[AH (by omega) (by omega)];exact⟨by omega,by omega,λy hy=>(Mt h hy).symm⟩
  .exact (Mu h).symm
def bond_.rc:D->Option (Int):=DG
def bond_.re:Int->D:=D.int .i64
def bond_.rle: ∀d b,bond_.rc d=some b->Le d (bond_.re b):=Q2
def bond_.ar:List PK->Option (AE×Int×Int×Int):=a4 (kR AE.d) kI kI kI
def bond_.fv(a:AE×Int×Int×Int):Int:=(LC) (a.1) (a.2.1) (a.2.2.1) (a.2.2.2)
def bond_.row:AG:=vK (b4 (qR AE.d_le) qI qI qI) (RK.mk bond_.rc bond_.re bond_.rle) (λa=>C5 a.1/\GO a.1 a.2.1/\SE a.2.2.1/\GO a.1 a.2.2.2) bond_.fv
def bond_.q:=B3 (R:=bond_.row) rfl
def bond_.ok:AJ 151 bond_.row:=by
 refine vw (tC opposite_.ok (tC strength_.ok tN)) Tryz.func151 ?_;intro a G;simp only[Tryz.f151,Option.getD];simp only[ZZ,simprocAttr,Ab,bond_.fv,bond_.rc,opposite_.q,opposite_.fv,strength_.q,strength_.fv];obtain⟨O,Q,z,h4⟩:=G;have h5:=z.1;have h6:=z.2;refine⟨Q.1,Q.2,λx hx=>⟨z.1,by rw[bA O hx];omega,λg hg=>⟨h4.1,h4.2,λy hy=>⟨z,by omega,by rw[bA O hy];omega,λg' Z=> ?_⟩⟩⟩⟩;simp only[LC,XC hx hg,XC hy Z];split
 .exact⟨⟨O,Q,z⟩,rfl⟩
 .rfl
def l02Bond.fv(a:AE×Int×Int×Int):Int:=(LC) (a.1) (a.2.1) (a.2.2.1) (a.2.2.2)
def l02Bond.row:AG:=vK (b4 (qP 2 AE.d_le) qI qI qI) rI (λa=>C5 a.1/\GO a.1 a.2.1/\SE a.2.2.1/\GO a.1 a.2.2.2) l02Bond.fv
def l02Bond.q:=B3 (R:=l02Bond.row) rfl
def l02Bond.ok:AJ 109 l02Bond.row:=by
 refine vw (tC Opposite_.ok (tC l02Strength.ok tN)) Tryz.func109 ?_;intro a O;simp only[Tryz.f109,Option.getD];simp only[ZZ,simprocAttr,Ab,l02Bond.fv,Opposite_.q,Opposite_.fv,l02Strength.q,l02Strength.fv];obtain⟨z,h2,Q,h4⟩:=O;have h5:=Q.1;have h6:=Q.2;refine⟨h2.1,h2.2,λx hx=>⟨Q.1,by rw[bA z hx];omega,λg hg=>⟨h4.1,h4.2,λy hy=>⟨Q,by omega,by rw[bA z hy];omega,λg' Z=> ?_⟩⟩⟩⟩;have G:=Qvv z hx hg
 have:=z.1
 simp only[LC,XC hx hg,XC hy Z]
 split<;>rename_i h
 .first|rw[Ag h]|rfl
 .rw[Al (HJ.1 h)];exact⟨⟨G.1,G.2,z.1⟩,rfl⟩
def Ed:Option Ad->List Aq->Bool
 |_,[]=>true
 |q,x::r=>F7 x.At && (Bj x.Tile 0 159 && ((match q with|none=>true|some p=>Bv p x.At) && Ed (some x.At) r))
def Xn(q:Option Ad)(x:Aq)(r:List Aq):Ed q (x::r)=(F7 x.At && (Bj x.Tile 0 159 && ((match q with|none=>true|some p=>Bv p x.At) && Ed (some x.At) r))):=by cases q<;>rfl
def Qik(q:Option Ad):Ed q []=true:=by cases q<;>rfl
def GS(l:List Aq)(k:Nat):Option Ad:=if k=0 then none else (l[k - 1]?).map (·.At)
def Qn2{l:List Aq}{k:Nat}{x:Aq}(z:l[k]? =some x):GS l (k+1)=some x.At:=by
 simp[GS,z]
def GQ{A:Type}{l:List A}{k:Nat}{x:A}(z:l[k]? =some x):l.drop k=x::l.drop (k+1):=by
 have G:k<l.length:=(CL.1 z).1;rw[XP G];rw[BB G] at z;rw[AC z]
def hasForm_.fv(a:Ao):Bool:=(λa=>Ed none a.Tiles && decide (a.Tiles.length<=500)) a
def hasForm_.row:AG:=vK (b1 (qR Ao.d_le)) rB (λa=>True) hasForm_.fv
def hasForm_.q:=B3 (R:=hasForm_.row) rfl
def Yac:=J @hasForm_.fv.eq_1<|J @ValidPoint.q<|J @ValidPoint.fv.eq_1<|J @isIndex.q<|J @isIndex.fv.eq_1<|J @impl_LessPoint.q @impl_LessPoint.fv.eq_1
def hasForm_.ok:AJ 99 hasForm_.row:=by
 refine vw (tC ValidPoint.ok (tC isIndex.ok (tC impl_LessPoint.ok tN))) Tryz.func99 ?_;intro a ab;simp only[Tryz.f99,Option.getD];simp only[ZZ,simprocAttr,Ab,Yac];intro aa;refine AZ.old ⟨{k:Nat//k<=a.Tiles.length/\Ed (GS a.Tiles k) (a.Tiles.drop k)=Ed none a.Tiles},λk=>⟨[(8,.im (.int .i64 k.1)),(7,.im (.int .i64 a.Tiles.length)),(6,.im (.sl false 3 (a.Tiles.map Aq.c))),(1,.ptr 0 0),(2,.im (.bool false))],[(0,(true,.cells 25 [.im (.sl false 3 (a.Tiles.map Aq.c))]))],1⟩,λk=>a.Tiles.length - k.1,λk=>⟨by simp[ZG],AU _⟩,⟨⟨0,by simp[GS]⟩,by simp only[ZZ,simprocAttr,Ab,Yac,sub]⟩,λk=> ?_⟩;obtain⟨k,ac,G⟩:=k;simp only[ZZ,simprocAttr,Ab,Yac,sub,AS];refine⟨λhk=>⟨hk,λx hx=> ?_⟩,λhk=> ?_⟩
 .rw[GQ hx,Xn] at G;have O:(F7 x.At && (Bj x.Tile 0 159 && (match GS a.Tiles k with|none=>true|some p=>Bv p x.At)))=false->false=(Ed none a.Tiles && decide (a.Tiles.length<=500)):=by
   intro h;rw[<-G];revert h;cases F7 x.At<;>cases Bj x.Tile 0 159<;>cases (match GS a.Tiles k with|none=>true|some p=>Bv p x.At)<;>simp
  have z:(F7 x.At && (Bj x.Tile 0 159 && (match GS a.Tiles k with|none=>true|some p=>Bv p x.At)))=true->Ed (GS a.Tiles (k+1)) (a.Tiles.drop (k+1))=Ed none a.Tiles:=by
   intro h;rw[<-G,Qn2 hx];simp only[Bc] at h;simp[h.1,h.2.1,h.2.2]
  refine⟨λQ=>⟨by simp[I64],⟨λZ=>⟨λh3=> ?_,λh3=> ?_⟩,λZ=>O (by simp[Z])⟩⟩,λQ=>O (by simp[Q])⟩
  .rw[AH (x:=(k:Int) - 1) (by omega) (by omega)];refine⟨by omega,by omega,λy hy=> ?_⟩;have hp:GS a.Tiles k=some y.At:=by
    have e:((k:Int) - 1).toNat=k - 1:=by omega
    rw[e] at hy;simp[GS,hy,show k≠0 by omega]
   rw[hp] at O z;exact⟨λh4=>O (by simp[h4]),λh4=>JW hk (by omega) ⟨by omega,z (by simp[Q,Z];simpa using h4)⟩⟩
  .have hp:GS a.Tiles k=none:=by simp[GS,show k=0 by omega]
   rw[hp] at z;exact JW hk (by omega) ⟨by omega,z (by simp[Q,Z])⟩
 .rw[Ee (by omega),Qik] at G;simp only[<-G,ED]
  grind
def l03Form.fv(a:Ao):Bool:=(λa=>Ed none a.Tiles && decide (a.Tiles.length<=500)) a
def l03Form.row:AG:=vK (b1 (qP 1 Ao.d_le)) rB (λa=>True) l03Form.fv
def l03Form.q:=B3 (R:=l03Form.row) rfl
def Yad:=J @l03Form.fv.eq_1<|J @l01Point.q<|J @l01Point.fv.eq_1<|J @l00In.q<|J @l00In.fv.eq_1<|J @l_LessPoint.q @l_LessPoint.fv.eq_1
def l03Form.ok:AJ 79 l03Form.row:=by
 refine vw (tC l01Point.ok (tC l00In.ok (tC l_LessPoint.ok tN))) Tryz.func79 ?_;intro a ab;simp only[Tryz.f79,Option.getD];simp only[ZZ,simprocAttr,Ab,Yad];intro aa;simp only[AS];refine⟨λh=> ?_,λh=> ?_⟩
 .have: ¬a.Tiles.length<=500:=by omega
  simp[this]
 refine AZ.old ⟨{k:Nat//k<=a.Tiles.length/\Ed (GS a.Tiles k) (a.Tiles.drop k)=Ed none a.Tiles},λk=>⟨[(3,.im (.int .i64 k.1)),(0,.ptr 0 0),(2,.im (.bool false))],[(0,(false,.view [.sl false 3 (a.Tiles.map Aq.c)]))],1⟩,λk=>a.Tiles.length - k.1,λk=>⟨by simp[ZG],AU _⟩,⟨⟨0,by simp[GS]⟩,by simp only[ZZ,simprocAttr,Ab,Yad,sub]⟩,λk=> ?_⟩;obtain⟨k,ac,G⟩:=k;simp only[ZZ,simprocAttr,Ab,Yad,sub,AS];intro _;refine⟨λhk=>⟨hk,λx hx=> ?_⟩,λhk=> ?_⟩
 .rw[GQ hx,Xn] at G;have O:(F7 x.At && (Bj x.Tile 0 159 && (match GS a.Tiles k with|none=>true|some p=>Bv p x.At)))=false->false=(Ed none a.Tiles && decide (a.Tiles.length<=500)):=by
   intro h;rw[<-G];revert h;cases F7 x.At<;>cases Bj x.Tile 0 159<;>cases (match GS a.Tiles k with|none=>true|some p=>Bv p x.At)<;>simp
  have z:(F7 x.At && (Bj x.Tile 0 159 && (match GS a.Tiles k with|none=>true|some p=>Bv p x.At)))=true->Ed (GS a.Tiles (k+1)) (a.Tiles.drop (k+1))=Ed none a.Tiles:=by
   intro h;rw[<-G,Qn2 hx];simp only[Bc] at h;simp[h.1,h.2.1,h.2.2]
  refine⟨λQ=>⟨λZ=>⟨λh3=> ?_,λh3=> ?_⟩,λZ=>O (by simp[Z])⟩,λQ=>O (by simp[Q])⟩
  .rw[AH (x:=(k:Int) - 1) (by omega) (by omega)];refine⟨by omega,by omega,λy hy=> ?_⟩;have hp:GS a.Tiles k=some y.At:=by
    have e:((k:Int) - 1).toNat=k - 1:=by omega
    rw[e] at hy;simp[GS,hy,show k≠0 by omega]
   rw[hp] at O z;exact⟨λh4=>O (by simp[h4]),λh4=>JW hk (by omega) ⟨by omega,z (by simp[Q,Z];simpa using h4)⟩⟩
  .have hp:GS a.Tiles k=none:=by simp[GS,show k=0 by omega]
   rw[hp] at z;exact JW hk (by omega) ⟨by omega,z (by simp[Q,Z])⟩
 .rw[Ee (by omega),Qik] at G;simp only[<-G,ED]
  grind
def B0{A:Type}(p:A->Bool):Nat->List A->Int
 |_,[]=> -1
 |i,x::r=>if p x=true then i else B0 p (i+1) r
def l02Glue.fv(a:AE×ByteArray):Int:=(λs n=>B0 (λg=>decide (g.Name=n)) 0 s.Glues+1) (a.1) (a.2)
def l02Glue.row:AG:=vK (b2 (qP 2 AE.d_le) qT) rI (λa=>True) l02Glue.fv
def l02Glue.q:=B3 (R:=l02Glue.row) rfl
def l02Glue.ok:AJ 75 l02Glue.row:=by
 refine vw tN Tryz.func75 ?_;intro a O;simp only[Tryz.f75,Option.getD];simp only[ZZ,simprocAttr,Ab,l02Glue.fv];refine AZ.old ⟨{k:Nat//k<=a.1.Glues.length/\B0 (λg:Ak=>decide (g.Name=a.2)) k (a.1.Glues.drop k)=B0 (λg:Ak=>decide (g.Name=a.2)) 0 a.1.Glues},λk=>⟨[(5,.im (.int .i64 k.1)),(4,.im (.int .i64 0)),(0,.ptr 0 0),(1,.im (.str a.2))],[(0,(false,.view [.sl false 2 (a.1.Glues.map Ak.c),.sl false 2 (a.1.Tiles.map Tile.c)]))],1⟩,λk=>a.1.Glues.length - k.1,λk=>⟨by simp[ZG],AU _⟩,⟨⟨0,by simp⟩,by simp only[ZZ,simprocAttr,Ab,l02Glue.fv,sub]⟩,λk=> ?_⟩;obtain⟨k,Q,z⟩:=k;simp only[ZZ,simprocAttr,Ab,l02Glue.fv,sub,AS];intro hn;refine⟨λG=>⟨G,λx Z=> ?_⟩,λG=> ?_⟩
 .rw[GQ Z,B0] at z;refine⟨λh=> ?_,λh=>JW G hn ⟨by omega,by rw[<-z,Ag (by simpa using h)]⟩⟩;rw[Al (by simpa using h)] at z;rw[<-z,AH (by omega) (by omega)]
 .rw[Ee (by omega),B0] at z;omega
def VA1.fv(a:Aq×AE):Bool:=(λx s=> !Bj x.Tile 0 (s.Tiles.length - 1)) (a.1) (a.2)
def VA1.row:AG:=vK (b2 (qR Aq.d_le) (qP 2 AE.d_le)) rB (λa=>True) VA1.fv
def VA1.q:=B3 (R:=VA1.row) rfl
def VA1.ok:AJ 101 VA1.row:=by
 refine vw (tC isTile.ok tN) Tryz.func101 ?_;intro a z;simp only[Tryz.f101,Option.getD];simp only[ZZ,simprocAttr,Ab,VA1.fv,isTile.q,isTile.fv]
def IdxVA.ar:List PK->Option ((List Aq)×AE)
 |[.val (.sl _ _ O),.val (.fn 101 [] [.ref z])]=>(AX Aq.d O).bind λQ=>(AE.d (z.take 2)).bind λG=>some (Q,G)
 |_=>none
def IdxVA.ae(a:(List Aq)×AE):List PK:=[.val (.sl false 3 (a.1.map Aq.c)),.val (.fn 101 [] [.ref (AE.c a.2)])]
def IdxVA.le: ∀G a,IdxVA.ar G=some a->BY G (IdxVA.ae a):=by
 intro G a h;unfold IdxVA.ar at h;split at h
 .simp only[Fi,AO] at h;obtain⟨Q,h0,O,z,rfl⟩:=h;exact⟨Fh (EZ Aq.d_le _ _ h0) (by simp only[BF];rintro r ⟨y,_,rfl⟩;rfl),Wr ⟨aY (HO.trans_take (AE.d_le _ _ z)),trivial⟩,trivial⟩
 .cases h
def IdxVA.fv(a:(List Aq)×AE):Int:=(λl s=>B0 (λx=> !Bj x.Tile 0 (s.Tiles.length - 1)) 0 l) (a.1) (a.2)
def IdxVA.row:AG:=Ff IdxVA.ar (λa=>True) (λa=>(D.int .i64) (IdxVA.fv a))
def IdxVA.q:=vq IdxVA.row rfl
def IdxVA.ok:AJ 137 IdxVA.row:=by
 refine aG D3 (tC VA1.ok tN) Tryz.func137 rfl (by kernel_rfl) (by kernel_rfl) (ar:=IdxVA.ar) (ae:=IdxVA.ae) IdxVA.le (n:=2) (λ_=>rfl) (by decide) (rc:=(DG)) (re:=(D.int .i64)) (Q2) (f:=IdxVA.fv) ?_;intro a O;simp only[Tryz.f137,Option.getD];simp only[ZZ,simprocAttr,Ab,IdxVA.ae,IdxVA.fv,VA1.q,VA1.fv];intro hn;refine AZ.old ⟨{k:Nat//k<=a.1.length/\B0 (λx:Aq=> !Bj x.Tile 0 (a.2.Tiles.length - 1)) k (a.1.drop k)=B0 (λx:Aq=> !Bj x.Tile 0 (a.2.Tiles.length - 1)) 0 a.1},λk=>⟨[(8,.im (.int .i64 k.1)),(7,.im (.int .i64 a.1.length)),(6,.im (.sl false 3 (a.1.map Aq.c))),(4,.im (.int .i64 0)),(0,.im (.sl false 3 (a.1.map Aq.c))),(1,.im (.fn 101 [] [.ref (AE.c a.2)]))],[],0⟩,λk=>a.1.length - k.1,λk=>⟨by simp[ZG],AU _⟩,⟨⟨0,by simp⟩,by simp only[ZZ,simprocAttr,Ab,IdxVA.ae,IdxVA.fv,VA1.q,VA1.fv,sub]⟩,λk=> ?_⟩;obtain⟨k,Q,z⟩:=k;simp only[ZZ,simprocAttr,Ab,IdxVA.ae,IdxVA.fv,VA1.q,VA1.fv,sub,AS];refine⟨λG=>⟨G,λx Z=> ?_⟩,λG=> ?_⟩
 .rw[GQ Z,B0] at z;refine⟨λh=> ?_,λh=>JW G hn ⟨by omega,by rw[<-z,Ag (by simpa using h)]⟩⟩;rw[Al (by simpa using h)] at z;exact z
 .rw[Ee (by omega),B0] at z;exact z
def Qyg{A:Type}(p:A->Bool): ∀(l:List A) (i:Nat),(0<=B0 p i l↔l.any p=true)/\ -1<=B0 p i l/\B0 p i l<(i+l.length:Nat)\/(l=[]/\B0 p i l= -1):=by
 intro l;induction l with
 |nil=>intro i;exact .inr ⟨rfl,rfl⟩
 |cons x r ih=>
  intro i;refine .inl ?_;simp only[B0,List.any_cons,CR]
  split<;>rename_i h
  .simp[h];omega
  .rcases ih (i+1) with ⟨G,z,O⟩|⟨rfl,z⟩
   .simp only[QN] at h;rw[h,ZeS];exact⟨G,z,by omega⟩
   .simp[z,h];omega
def vL{A:Type}(p:A->Bool)(l:List A):decide (0<=B0 p 0 l)=l.any p:=by
 rw[iJ];rcases Qyg p l 0 with ⟨z,_⟩|⟨rfl,G⟩
 .simpa using z
 .simp[G]
def ContVA.ar:List PK->Option ((List Aq)×AE)
 |[.val (.sl _ _ O),.val (.fn 101 [] [.ref z])]=>(AX Aq.d O).bind λQ=>(AE.d (z.take 2)).bind λG=>some (Q,G)
 |_=>none
def ContVA.ae(a:(List Aq)×AE):List PK:=[.val (.sl false 3 (a.1.map Aq.c)),.val (.fn 101 [] [.ref (AE.c a.2)])]
def ContVA.le: ∀G a,ContVA.ar G=some a->BY G (ContVA.ae a):=by
 intro G a h;unfold ContVA.ar at h;split at h
 .simp only[Fi,AO] at h;obtain⟨Q,h0,O,z,rfl⟩:=h;exact⟨Fh (EZ Aq.d_le _ _ h0) (by simp only[BF];rintro r ⟨y,_,rfl⟩;rfl),Wr ⟨aY (HO.trans_take (AE.d_le _ _ z)),trivial⟩,trivial⟩
 .cases h
def ContVA.fv(a:(List Aq)×AE):Bool:=(λl s=>l.any (λx=> !Bj x.Tile 0 (s.Tiles.length - 1))) (a.1) (a.2)
def ContVA.row:AG:=Ff ContVA.ar (λa=>True) (λa=>(D.bool) (ContVA.fv a))
def ContVA.q:=vq ContVA.row rfl
def ContVA.ok:AJ 100 ContVA.row:=by
 refine aG D3 (tC IdxVA.ok tN) Tryz.func100 rfl (by kernel_rfl) (by kernel_rfl) (ar:=ContVA.ar) (ae:=ContVA.ae) ContVA.le (n:=2) (λ_=>rfl) (by decide) (rc:=(Re)) (re:=(D.bool)) (eP) (f:=ContVA.fv) ?_;intro a z;simp only[Tryz.f100,Option.getD];simp only[ZZ,simprocAttr,Ab,ContVA.ae,ContVA.fv,IdxVA.q,IdxVA.ar,IdxVA.fv];exact vL _ _
def l03Ok.fv(a:AE×Ao):Bool:=(λs a=>(Ed none a.Tiles && decide (a.Tiles.length<=500)) && a.Tiles.all (λx=>Bj x.Tile 0 (s.Tiles.length - 1))) (a.1) (a.2)
def l03Ok.row:AG:=vK (b2 (qP 2 AE.d_le) (qP 1 Ao.d_le)) rB (λa=>True) l03Ok.fv
def l03Ok.q:=B3 (R:=l03Ok.row) rfl
def Yae:=J @l03Ok.fv.eq_1<|J @l03Form.q<|J @l03Form.fv.eq_1<|J @l02Index.q @l02Index.fv.eq_1
def l03Ok.ok:AJ 57 l03Ok.row:=by
 refine vw (tC l03Form.ok (tC l02Index.ok tN)) Tryz.func57 ?_;intro a Q;simp only[Tryz.f57,Option.getD];simp only[ZZ,simprocAttr,Ab,Yae];simp only[AS];refine⟨λh=>by simp[h],λh=> ?_⟩;simp only[Jg] at h;refine AZ.old ⟨{k:Nat//k<=a.2.Tiles.length/\(a.2.Tiles.drop k).all (λx=>Bj x.Tile 0 (a.1.Tiles.length - 1))=a.2.Tiles.all (λx=>Bj x.Tile 0 (a.1.Tiles.length - 1))},λk=>⟨[(5,.im (.int .i64 k.1)),(4,.im (.bool false)),(0,.ptr 0 0),(1,.ptr 1 0)],[(0,(false,.view (AE.c a.1))),(1,(false,.view (Ao.c a.2)))],2⟩,λk=>a.2.Tiles.length - k.1,λk=>⟨by simp[ZG],AU _⟩,⟨⟨0,by simp⟩,by simp only[ZZ,simprocAttr,Ab,Yae,sub]⟩,λk=> ?_⟩;obtain⟨k,Z,z⟩:=k;simp only[ZZ,simprocAttr,Ab,Yae,sub,AS];intro hn;refine⟨λO=>⟨O,λx hx=> ?_⟩,λO=> ?_⟩
 .rw[GQ hx,EE] at z;refine⟨λG=> ?_,λG=>JW O hn ⟨by omega,?_⟩⟩
  .rw[G] at z;simp only[FT] at z;rw[h,<-z];rfl
  .simp only[Jg] at G;rw[G,ED] at z;exact z
 .rw[Ee (by omega)] at z;rw[h,<-z];rfl
end Go.Ae
namespace Go.Ae
open Go.Proofs Go.Lib
def WA(c:UInt8):Bool:=decide (c.toNat<48)||decide (57<c.toNat)
def yN(r:List UInt8):Prop:= ∀c,r.head? =some c->WA c=false
def Rr: ∀{w r:List UInt8},(∀c∈w,WA c=true)->yN r->(w++r).takeWhile WA=w
 |[],[],_,_=>rfl
 |[],c::r,_,h=>by
  have:=h c rfl
  simp[bT,this]
 |c::w,r,z,h=>by
  have G:=Rr (w:=w) (r:=r) (λx O=>z x (BW _ O)) h
  have:=z c (BS ..)
  simp[bT,this,G]
abbrev lO:=List UInt8×List (List UInt8)
def GB(b:lO):List (List UInt8):=b.2.map (b.1++ ·)
def K8(b:lO):Prop:=(∀c∈b.1,WA c=true)/\b.2.Nodup/\ ∀r∈b.2,yN r
def eZ: ∀(bs:List lO),(bs.map Prod.fst).Nodup->(∀b∈bs,K8 b)->(bs.flatMap GB).Nodup
 |[],_,_=>by simp
 |b::bs,hn,h=>by
  rw[Bf,KO] at hn;rw[FD,Jh];obtain⟨h1,h2,h3⟩:=h b (BS ..);refine⟨ZeQ _ (λa c G e=>G (Zea e)) h2,eZ bs hn.2 λx Q=>h x (BW _ Q),?_⟩;intro x Q y Z e;obtain⟨r,hr,rfl⟩:=BF.1 Q;obtain⟨b',z,Z⟩:=bW.1 Z;obtain⟨r',O,rfl⟩:=BF.1 Z;obtain⟨g1,g2,g3⟩:=h b' (BW _ z)
  have:=Rr h1 (h3 r hr)
  rw[e,Rr g1 (g3 r' O)] at this;exact hn.1 (BF.2 ⟨b',z,this⟩)
def Lc(k:Nat):(∀c∈itoa (k:Int),WA c=false)/\itoa (k:Int)≠[]:=by
 unfold itoa;rw[Ag (by omega),B5];obtain⟨_,z,G⟩:=Rq k k (AU _);refine⟨λc O=> ?_,G⟩
 have:=z c O
 simp only[WA,Zfj,Jk];omega
def Ld(k:Nat)(r:List UInt8):yN (itoa (k:Int)++r):=by
 obtain⟨G,O⟩:=Lc k;intro c z;cases h:itoa (k:Int) with
 |nil=>exact absurd h O
 |cons x t=>
  rw[h] at z;simp at z;subst z;exact G x (by rw[h];exact BS ..)
def Gm:List (List UInt8):=[[]]
def Fz(n:Nat):List (List UInt8):=(List.range n).map λ(k:Nat)=>itoa (k:Int)
def lI(n:Nat):List (List UInt8):=(List.range n).flatMap λ(v:Nat)=>(List.range n).map λ(w:Nat)=>itoa (v:Int)++95::itoa (w:Int)
def Om{w:List UInt8}(h:w.all WA=true):K8 (w,Gm):=
 ⟨λc z=>Fk.1 h c z,by simp[Gm],λr G=>by simp only[Gm,BL] at G;subst G;intro c z;cases z⟩
def HS{w:List UInt8}(n:Nat)(h:w.all WA=true):K8 (w,Fz n):=by
 refine⟨λc G=>Fk.1 h c G,ZeQ _ (λa b z e=>z (by have:=Rp e;omega)) Zep,λr O=> ?_⟩;obtain⟨k,_,rfl⟩:=BF.1 O
 have:=Ld k []
 rwa [Ck] at this
def NB{a b c d:Nat}(h:itoa (a:Int)++95::itoa (b:Int)=itoa (c:Int)++95::itoa (d:Int)):a=c/\b=d:=by
 have z: ∀k:Nat,∀c∈itoa (k:Int),c≠95:=λk c z e=>by
  have:=(Lc k).1 c z
  subst e;revert this;decide
 obtain⟨G,O⟩:=Nu (z a) (z c) h;have Q:=Rp G;have Z:=Rp O;omega
def lJ{w:List UInt8}(n:Nat)(h:w.all WA=true):K8 (w,lI n):=by
 refine⟨λc Z=>Fk.1 h c Z,?_,λr G=> ?_⟩
 .have Q: ∀l:List Nat,l.Nodup->(l.flatMap λ(v:Nat)=>(List.range n).map λ(w:Nat)=>itoa (v:Int)++95::itoa (w:Int)).Nodup:=by
   intro l;induction l with
   |nil=>intro _;simp
   |cons v l ih=>
    intro hn;rw[KO] at hn;rw[FD,Jh];refine⟨ZeQ _ (λa b z e=>z (NB e).2) Zep,ih hn.2,λx hx y O e=> ?_⟩;obtain⟨a,_,rfl⟩:=BF.1 hx;obtain⟨u,hu,O⟩:=bW.1 O;obtain⟨b,_,rfl⟩:=BF.1 O;exact hn.1 ((NB e).1▸hu)
  exact Q _ Zep
 .obtain⟨v,_,G⟩:=bW.1 G;obtain⟨u,_,rfl⟩:=BF.1 G;exact Ld v _
def Ac(w:ByteArray)(n:Int):ByteArray:=w++ES n
def Cz(w:ByteArray)(a b:Int):ByteArray:=Ac w a++⟨#[95]⟩++ES b
def EG(b:ByteArray):List UInt8:=b.data.toList
def Ol(w:ByteArray)(n:Int):EG (Ac w n)=EG w++itoa n:=by simp[EG,Ac,ES]
def Zg(w:ByteArray)(a b:Int):EG (Cz w a b)=EG w++(itoa a++95::itoa b):=by simp[EG,Cz,Ac,ES]
def MQ{l:List ByteArray}(h:(l.map EG).Nodup):l.Nodup:=List.Pairwise.of_map EG (λ_ _ hn e=>hn (Cl EG e)) h
def fE{w:ByteArray}{n:Int}(h0: -9223372036854775808<=n)(z:n<=9223372036854775807):(Ac w n).size<=w.size+21:=by
 have:=Dr h0 z
 simp only[Ac,nP];omega
def UG{w:ByteArray}{a b:Int}(h0: -9223372036854775808<=a)(z:a<=9223372036854775807)(G: -9223372036854775808<=b)(O:b<=9223372036854775807):(Cz w a b).size<=w.size+43:=by
 have Q:=fE (w:=w) h0 z;have Z:=Dr G O;have e3:(⟨#[95]⟩:ByteArray).size=1:=rfl;simp only[Cz,nP];omega
def Bu(g:List Ak)(nm:ByteArray):Int:=B0 (λx=>decide (x.Name=nm)) 0 g+1
def Kj(g:List Ak)(x:Ak):List Ak:=if Bu g x.Name=0 then g++[x] else g
def lH(t:List Tile)(nm:ByteArray):Int:=B0 (λx=>decide (x.Name=nm)) 0 t
def EU(t:List Tile)(x:Tile):List Tile:=if lH t x.Name<0 then t++[x] else t
def Gp(t:List Tile)(nm:ByteArray):Int:=if lH t nm<0 then t.length else lH t nm
def Cn(g:List Ak):List (D×D):=(g.foldl (λ(s:List (D×D)×Int) x=>(Eg s.1 (.str x.Name) (.int .i64 (s.2+1)),s.2+1)) ([(.str ⟨#[45]⟩,.int .i64 0)],0)).1
def Uw(g:List Ak)(m:List (D×D))(k:Int):(g.foldl (λ(s:List (D×D)×Int) x=>(Eg s.1 (.str x.Name) (.int .i64 (s.2+1)),s.2+1)) (m,k)).2=k+g.length:=by
 induction g generalizing m k with
 |nil=>simp
 |cons x g ih=>simp only[KN,ih,CR];omega
def sM(g:List Ak)(x:Ak):Cn (g++[x])=Eg (Cn g) (.str x.Name) (.int .i64 (g.length+1:Nat)):=by
 have:=Uw g [(.str ⟨#[45]⟩,.int .i64 0)] 0
 simp only[Cn,Zeg,KN,XU,this];congr 2;omega
def Ot(m:List (D×D))(nm:ByteArray):Int:=match lk m (.str nm) with
 |some (.int _ n)=>n
 |_=>0
def BX(g:List Ak)(nm:ByteArray):Int:=Ot (Cn g) nm
def TX(m:List (D×D))(a b:ByteArray)(v:D)(z: ∀e∈m,∃s,e.1= .str s):lk (Eg m (.str a) v) (.str b)=if b=a then some v else lk m (.str b):=by
 induction m with
 |nil=>
  simp only[Eg,lk,D.beq,bH];by_cases c:b=a
  .rw[Al c,W0 c];rfl
  .rw[Ag c,Jj c];rfl
 |cons e m ih=>
  obtain⟨s,G⟩:=z e (BS ..);obtain⟨k,w⟩:=e;simp only at G;subst G;have ih:=ih λe O=>z e (BW _ O)
  simp only[Eg,D.beq,bH];by_cases c1:a=s
  .subst c1;rw[W0 rfl];simp only[C8,lk,D.beq,bH];by_cases c:b=a
   .rw[Al c,W0 c];rfl
   .rw[Ag c,Jj c];rfl
  .rw[Jj c1];simp only[Cy,lk,D.beq,bH];by_cases c:b=s
   .subst c;rw[W0 rfl,Ag (λh=>c1 h.symm)];rfl
   .rw[Jj c];simp only[Cy];exact ih
def ZR(m:List (D×D))(a:ByteArray)(v:D)(G: ∀e∈m,∃s,e.1= .str s): ∀e∈Eg m (.str a) v,∃s,e.1= .str s:=by
 induction m with
 |nil=>intro e z;simp only[Eg,BL] at z;subst z;exact⟨a,rfl⟩
 |cons x m ih=>
  intro e z;obtain⟨k,w⟩:=x;simp only[Eg] at z;cases h:D.beq (.str a) k with
  |true=>
   rw[h] at z;rcases Bw.1 z with rfl|z
   .exact⟨a,rfl⟩
   .exact G e (BW _ z)
  |false=>
   rw[h] at z;rcases Bw.1 z with rfl|z
   .exact G (k,w) (BS ..)
   .exact ih (λe z=>G e (BW _ z)) e z
def Ux(g:List Ak): ∀e∈Cn g,∃s,e.1=D.str s:=by
 have z: ∀(g:List Ak) (m:List (D×D)) (k:Int),(∀e∈m,∃s,e.1=D.str s)-> ∀e∈(g.foldl (λ(s:List (D×D)×Int) x=>(Eg s.1 (.str x.Name) (.int .i64 (s.2+1)),s.2+1)) (m,k)).1,∃s,e.1=D.str s:=by
  intro g;induction g with
  |nil=>intro m k h;exact h
  |cons x g ih=>intro m k h;exact ih _ _ (ZR m x.Name _ h)
 refine z g _ 0 λe G=> ?_
 simp only[BL] at G;subst G;exact⟨_,rfl⟩
def sI{A:Type}{p:A->Bool}{x:A}(G:p x=true): ∀(l:List A) (o:Nat),(∀y∈l,p y=false)->B0 p o (l++[x])=((o+l.length:Nat):Int)
 |[],o,_=>by
  simp only[Dv,B0];rw[Al G];rfl
 |y::l,o,h=>by
  simp only[Ci,B0];rw[Ag (by rw[h y (BS ..)];decide),sI G l (o+1) λz O=>h z (BW _ O),CR,show o+1+l.length=o+(l.length+1) by omega]
def sN{A:Type}{p:A->Bool}{x:A}(z:p x=false): ∀(l:List A) (o:Nat),B0 p o (l++[x])=B0 p o l
 |[],o=>by
  simp only[Dv,B0];rw[Ag (by rw[z];decide)]
 |y::l,o=>by
  simp only[Ci,B0,sN z l (o+1)]
def M4{A:Type}{p:A->Bool}{l:List A}:B0 p 0 l<0↔ ∀x∈l,p x=false:=by
 have h:=vL p l;constructor
 .intro hn x G;cases z:p x with
  |false=>rfl
  |true=>
   have:l.any p=true:=wN.2 ⟨x,G,z⟩
   rw[this,C7] at h;omega
 .intro hn
  have:l.any p=false:=by
   rw[QL];intro c;obtain⟨x,G,z⟩:=wN.1 c;rw[hn x G] at z;cases z
  rw[this,Jk] at h;omega
def T9{A:Type}(p:A->Bool): ∀(l:List A) (o:Nat),-1<=B0 p o l
 |[],o=>by simp[B0]
 |y::l,o=>by
  simp only[B0];split
  .omega
  .exact T9 p l (o+1)
def Xj{g:List Ak}{nm:ByteArray}(h:nm∉g.map Ak.Name):Bu g nm=0:=by
 have G:B0 (λx:Ak=>decide (x.Name=nm)) 0 g<0:=M4.2 λx z=>Jj λe=>h (BF.2 ⟨x,z,e⟩)
 have O:=T9 (λx:Ak=>decide (x.Name=nm)) g 0;simp only[Bu];omega
def sE{t:List Tile}{nm:ByteArray}(h:nm∉t.map Tile.Name):lH t nm<0:=M4.2 λx z=>Jj λe=>h (BF.2 ⟨x,z,e⟩)
def V2: ∀(n:Nat) {g:List Ak},g.length=n->(g.map Ak.Name).Nodup->(⟨#[45]⟩:ByteArray)∉g.map Ak.Name-> ∀(nm:ByteArray),BX g nm=if nm=⟨#[45]⟩ then 0 else Bu g nm
 |0,g,z,_,_,nm=>by
  obtain rfl:=RN.1 z;simp only[BX,Ot,Cn,XU,lk,D.beq,bH];by_cases c:nm=⟨#[45]⟩
  .rw[Al c,W0 c];rfl
  .rw[Ag c,Jj c];rfl
 |n+1,g',z,hn,hd,nm=>by
  rcases List.eq_nil_or_concat g' with rfl|⟨g,x,rfl⟩
  .simp at z
  rw[List.concat_eq_append] at z hn hd⊢;rw[CV,List.map_singleton] at hn hd;rw[Jh] at hn;have ih:=V2 n (g:=g) (by simpa using z) hn.1 (λh=>hd (IG _ h));have Q:x.Name∉g.map Ak.Name:=λh=>hn.2.2 _ h _ (BL.2 rfl) rfl
  have O:x.Name≠⟨#[45]⟩:=λh=>hd (OB _ (BL.2 h.symm))
  simp only[BX,Ot,sM,TX _ _ _ _ (Ux g)];by_cases c:nm=x.Name
  .subst c;rw[Al rfl,Ag O];simp only[Bu];rw[sI (p:=λy:Ak=>decide (y.Name=x.Name)) (by simp) g 0 λy Z=>Jj λe=>Q (BF.2 ⟨y,Z,e⟩),FS];rfl
  .rw[Ag c]
   have:=ih nm
   simp only[BX,Ot] at this;rw[this];by_cases G:nm=⟨#[45]⟩
   .rw[Al G,Al G]
   .rw[Ag G,Ag G];simp only[Bu];rw[sN (p:=λy:Ak=>decide (y.Name=nm)) (Jj λe=>c e.symm)]
def fB: ∀(l g:List Ak),((g++l).map Ak.Name).Nodup->l.foldl Kj g=g++l
 |[],g,_=>by simp
 |x::l,g,h=>by
  have z:((g++[x])++l).map Ak.Name=(g++x::l).map Ak.Name:=by rw[Ej];rfl
  have O:x.Name∉g.map Ak.Name:=by
   rw[CV,Bf,Jh] at h;exact λG=>h.2.2 _ G _ (BS ..) rfl
  rw[KN,show Kj g x=g++[x] from Al (Xj O),fB l (g++[x]) (by rw[z];exact h),Ej];rfl
def eY: ∀(l g:List Tile),((g++l).map Tile.Name).Nodup->l.foldl EU g=g++l
 |[],g,_=>by simp
 |x::l,g,h=>by
  have z:((g++[x])++l).map Tile.Name=(g++x::l).map Tile.Name:=by rw[Ej];rfl
  have O:x.Name∉g.map Tile.Name:=by
   rw[CV,Bf,Jh] at h;exact λG=>h.2.2 _ G _ (BS ..) rfl
  rw[KN,show EU g x=g++[x] from Al (sE O),eY l (g++[x]) (by rw[z];exact h),Ej];rfl
def AY(w:ByteArray)(n:Nat)(st:Int):List Ak:=(List.range n).map λk=>⟨Ac w (k:Nat),st⟩
def CO(b n:Nat):List Ak:=AY ⟨#[118]⟩ b 1++[⟨⟨#[118,120]⟩,1⟩]++AY ⟨#[99]⟩ b 1++[⟨⟨#[99,120]⟩,1⟩]++[⟨⟨#[115,105,100,101]⟩,1⟩]++AY ⟨#[109,97,120]⟩ b 1++AY ⟨#[114]⟩ n 2
def BO(b n:Nat):List Ak:=CO b n++AY ⟨#[115]⟩ (n+1) 2
def Il(b n:Nat):List lO:=[([118],Fz b),([118,120],Gm),([99],Fz b),([99,120],Gm),([115,105,100,101],Gm),([109,97,120],Fz b),([114],Fz n)]
def Vi(w:ByteArray)(n:Nat)(st:Int):(AY w n st).map (λx=>EG x.Name)=GB (EG w,Fz n):=by
 simp only[AY,GB,Fz,RT];exact QJ λk _=>Ol w k
def kE(w:ByteArray)(st:Int):[(⟨w,st⟩:Ak)].map (λx=>EG x.Name)=GB (EG w,Gm):=by simp[GB,Gm]
def VI(b n:Nat):(CO b n).map (λx=>EG x.Name)=(Il b n).flatMap GB:=by
 simp only[CO,CV,Vi,kE,Il,FD,IE,Ck,Ej];rfl
def Lx(b n:Nat):(BO b n).map (λx=>EG x.Name)=(Il b n++[([115],Fz (n+1))]).flatMap GB:=by
 simp only[BO,CV,VI,wV,Vi,FD,IE,Ck];rfl
def Xm(b n:Nat): ∀x∈Il b n++[([115],Fz (n+1))],K8 x:=by
 intro x z;simp only[Il,B2,Bw,G7,Gd] at z;rcases z with (rfl|rfl|rfl|rfl|rfl|rfl|rfl)|rfl
 .exact HS b (by decide)
 .exact Om (by decide)
 .exact HS b (by decide)
 .exact Om (by decide)
 .exact Om (by decide)
 .exact HS b (by decide)
 .exact HS n (by decide)
 .exact HS (n+1) (by decide)
def Qawg{g:List Ak}(h:(g.map λx=>EG x.Name).Nodup):(g.map Ak.Name).Nodup:=MQ (by rw[RT];exact h)
def eU(b n:Nat):((BO b n).map Ak.Name).Nodup:=by
 refine Qawg ?_;rw[Lx];exact eZ _ (by simp only[Il,Ci,Dv,Bf,Bg];decide) (Xm b n)
def sK(b n:Nat):((CO b n).map Ak.Name).Nodup:=by
 have:=eU b n
 rw[BO,CV,Jh] at this;exact this.1
def fC{g:List Ak}{bs:List lO}(hL:g.map (λx=>EG x.Name)=bs.flatMap GB)(hb: ∀b∈bs,K8 b){w r:List UInt8}{nm:ByteArray}(e:EG nm=w++r)(hw:w.all WA=true)(hr:yN r)(hn: ∀b∈bs,b.1=w->r∉b.2):nm∉g.map Ak.Name:=by
 intro hm;obtain⟨x,hx,rfl⟩:=BF.1 hm;have h1:EG x.Name∈bs.flatMap GB:=by rw[<-hL];exact BF.2 ⟨x,hx,rfl⟩
 obtain⟨b,z,h2⟩:=bW.1 h1;obtain⟨r',G,Z⟩:=BF.1 h2;obtain⟨g1,g2,g3⟩:=hb b z;rw[e] at Z;have O:=Rr g1 (g3 r' G);have e2:=Rr (λc hc=>Fk.1 hw c hc) hr;have Q:b.1++r'=w++r:=Z;rw[Q,e2] at O;rw[<-O] at Q;exact hn b z O.symm ((Zea Q)▸G)
def Uu:yN []:=λc z=>by cases z
def fF(b n:Nat):(⟨#[45]⟩:ByteArray)∉(BO b n).map Ak.Name/\ByteArray.empty∉(BO b n).map Ak.Name:=by
 constructor
 .refine fC (Lx b n) (Xm b n) (w:=[45]) (r:=[]) rfl (by decide) Uu λx z G=> ?_
  simp only[Il,B2,Bw,G7,Gd] at z;rcases z with (rfl|rfl|rfl|rfl|rfl|rfl|rfl)|rfl<;>simp at G
 .refine fC (Lx b n) (Xm b n) (w:=[]) (r:=[]) rfl (by decide) Uu λx z G=> ?_
  simp only[Il,B2,Bw,G7,Gd] at z;rcases z with (rfl|rfl|rfl|rfl|rfl|rfl|rfl)|rfl<;>simp at G
def fD(b n:Nat):(⟨#[45]⟩:ByteArray)∉(CO b n).map Ak.Name/\ByteArray.empty∉(CO b n).map Ak.Name/\Ac ⟨#[114]⟩ (n:Int)∉(CO b n).map Ak.Name:=by
 obtain⟨G,O⟩:=fF b n;rw[BO,CV,B2,XV] at G O;refine⟨G.1,O.1,?_⟩;refine fC (VI b n) (λx z=>Xm b n x (IG _ z)) (w:=[114]) (r:=itoa (n:Int)) (Ol _ _) (by decide) (by have:=Ld n [];rwa [Ck] at this) λx z Q=> ?_
 simp only[Il,Bw,G7,Gd] at z;rcases z with rfl|rfl|rfl|rfl|rfl|rfl|rfl
 all_goals first
  |(simp at Q;done)
  |(intro hr
    obtain⟨k,Z,e⟩:=BF.1 hr
    have:=Rp e
    rw[CS] at Z
    omega)
def AL(z:ByteArray->Int)(nm a b c d:ByteArray):Tile:=⟨nm,[z a,z b,z c,z d]⟩
def ET(z:ByteArray->Int)(nx:Nat->ByteArray)(e:ByteArray)(b n:Nat):List Tile:=
 [AL z ⟨#[104,111,108,101]⟩ ⟨#[118,120]⟩ ⟨#[99,120]⟩ ⟨#[118,120]⟩ ⟨#[99,120]⟩]
 ++(List.range b).map (λv=>AL z (Ac ⟨#[116,97,107,101]⟩ (v:Nat)) ⟨#[118,120]⟩ (Ac ⟨#[99]⟩ (v:Nat)) (Ac ⟨#[118]⟩ (v:Nat)) ⟨#[99,120]⟩)
 ++(List.range b).flatMap (λv=>(List.range b).map λw=>AL z (Cz ⟨#[107]⟩ (v:Nat) (w:Nat)) (Ac ⟨#[118]⟩ (Bt (v:Nat) (w:Nat))) (Ac ⟨#[99]⟩ (Bo (v:Nat) (w:Nat))) (Ac ⟨#[118]⟩ (w:Nat)) (Ac ⟨#[99]⟩ (v:Nat)))
 ++(List.range b).map (λv=>AL z (Ac ⟨#[103,105,118,101]⟩ (v:Nat)) ⟨#[115,105,100,101]⟩ (Ac ⟨#[109,97,120]⟩ (v:Nat)) ⟨#[115,105,100,101]⟩ (Ac ⟨#[99]⟩ (v:Nat)))
 ++(List.range n).map (λk=>AL z (Ac ⟨#[114,111,119]⟩ (k:Nat)) (nx k) ⟨#[99,120]⟩ (Ac ⟨#[114]⟩ (k:Nat)) e)
def DF(z:ByteArray->Int)(e G O:ByteArray)(l:List Int):List Tile:=
 [AL z ⟨#[108,101,102,116]⟩ G (Ac ⟨#[115]⟩ 0) e e]
 ++(List.range l.length).map (λk=>AL z (Ac ⟨#[115,116,97,114,116]⟩ (k:Nat)) (Ac ⟨#[118]⟩ ((l[k]?).getD 0)) (Ac ⟨#[115]⟩ ((k:Nat)+1:Int)) e (Ac ⟨#[115]⟩ (k:Nat)))
 ++[AL z ⟨#[114,105,103,104,116]⟩ O e e (Ac ⟨#[115]⟩ (l.length:Nat))]
def Sl(b n:Nat):List lO:=[([104,111,108,101],Gm),([116,97,107,101],Fz b),([107],lI b),([103,105,118,101],Fz b),([114,111,119],Fz n),([108,101,102,116],Gm),([115,116,97,114,116],Fz n),([114,105,103,104,116],Gm)]
def Ye(b n:Nat): ∀x∈Sl b n,K8 x:=by
 intro x z;simp only[Sl,Bw,G7,Gd] at z;rcases z with rfl|rfl|rfl|rfl|rfl|rfl|rfl|rfl
 .exact Om (by decide)
 .exact HS b (by decide)
 .exact lJ b (by decide)
 .exact HS b (by decide)
 .exact HS n (by decide)
 .exact Om (by decide)
 .exact HS n (by decide)
 .exact Om (by decide)
def lB(Q z:ByteArray->Int)(nx:Nat->ByteArray)(e e' G O:ByteArray)(b:Nat)(l:List Int):(ET Q nx e b l.length++DF z e' G O l).map (λx=>EG x.Name)=(Sl b l.length).flatMap GB:=by
 simp only[ET,DF,CV,Bf,Bg,RT,List.map_flatMap,Sl,FD,IE,GB,Gm,Fz,lI,AL,Function.comp_def,Ol,Zg,Ck,Ej];rfl
def Qav3{g:List Tile}(h:(g.map λx=>EG x.Name).Nodup):(g.map Tile.Name).Nodup:=MQ (by rw[RT];exact h)
def Qawf(Q z:ByteArray->Int)(nx:Nat->ByteArray)(e e' G O:ByteArray)(b:Nat)(l:List Int):((ET Q nx e b l.length++DF z e' G O l).map Tile.Name).Nodup:=by
 refine Qav3 ?_;rw[lB];exact eZ _ (by simp only[Sl,Bf,Bg];decide) (Ye b l.length)
def Lw(t n:Nat):List Aq:=(List.range (n+2)).map λ(i:Nat)=>⟨⟨(i:Int) - 1,0⟩,((t+i:Nat):Int)⟩
def WC(k:Nat):ByteArray:=Ac ⟨#[114]⟩ ((k:Nat)+1:Int)
def JD(n:Nat)(k:Nat):ByteArray:=if (k:Int)=(n:Int) - 1 then ⟨#[45]⟩ else WC k
def EA(b:Nat)(l:List Int):AF:=
 ⟨⟨BO b l.length,ET (Bu (CO b l.length)) WC ByteArray.empty b l.length++DF (Bu (BO b l.length)) ByteArray.empty (Ac ⟨#[114]⟩ 0) ⟨#[115,105,100,101]⟩ l⟩,⟨Lw (ET (Bu (CO b l.length)) WC ByteArray.empty b l.length).length l.length⟩,2⟩
def VJ(b:Nat)(l:List Int):AF:=
 ⟨⟨BO b l.length,ET (BX (CO b l.length)) (JD l.length) ⟨#[45]⟩ b l.length++DF (BX (BO b l.length)) ⟨#[45]⟩ (Ac ⟨#[114]⟩ 0) ⟨#[115,105,100,101]⟩ l⟩,⟨Lw (ET (Bu (CO b l.length)) WC ByteArray.empty b l.length).length l.length⟩,2⟩
def Oo(w:ByteArray)(n:Int):Ac w n≠⟨#[45]⟩\/n<0:=by
 by_cases h:n<0
 .exact .inr h
 .left;intro e;have z:=Cl EG e;rw[Ol] at z;obtain⟨k,rfl⟩: ∃k:Nat,n=k:=⟨n.toNat,by omega⟩;obtain⟨Q,Z⟩:=Lc k;obtain⟨c,O⟩:=List.exists_mem_of_ne_nil _ Z;have G:c∈EG w++itoa (k:Int):=OB _ O;rw[z] at G;have h5:=Q c O;obtain rfl:c=45:=by simpa[EG] using G
  revert h5;decide
def ZE(b:Nat)(l:List Int)(hl: ∀x∈l,0<=x):VJ b l=EA b l:=by
 have eA: ∀nm,BX (CO b l.length) nm=if nm=⟨#[45]⟩ then 0 else Bu (CO b l.length) nm:=V2 _ rfl (sK b _) (fD b _).1
 have eG: ∀nm,BX (BO b l.length) nm=if nm=⟨#[45]⟩ then 0 else Bu (BO b l.length) nm:=V2 _ rfl (eU b _) (fF b _).1
 have zA:Bu (CO b l.length) ByteArray.empty=0:=Xj (fD b _).2.1;have zG:Bu (BO b l.length) ByteArray.empty=0:=Xj (fF b _).2;have zR:Bu (CO b l.length) (Ac ⟨#[114]⟩ (l.length:Int))=0:=Xj (fD b _).2.2;have G: ∀(w:ByteArray) (k:Nat),¬Ac w (k:Nat)=⟨#[45]⟩:=λw k=>(Oo w k).resolve_right (by omega)
 have z: ∀(w:ByteArray) (k:Nat),¬Ac w ((k:Nat)+1:Int)=⟨#[45]⟩:=λw k=>(Oo w _).resolve_right (by omega)
 have O: ∀(w:ByteArray),¬Ac w 0=⟨#[45]⟩:=λw=>(Oo w _).resolve_right (by omega)
 have Z: ∀(w:ByteArray) (k v:Nat),¬Ac w (Bt (k:Nat) (v:Nat))=⟨#[45]⟩:=λw k v=>(Oo w _).resolve_right (by simp only[Bt];split<;>omega)
 have aa: ∀(w:ByteArray) (k v:Nat),¬Ac w (Bo (k:Nat) (v:Nat))=⟨#[45]⟩:=λw k v=>(Oo w _).resolve_right (by simp only[Bo];split<;>omega)
 have Q: ∀(w:ByteArray) (k:Nat),¬Ac w ((l[k]?).getD 0)=⟨#[45]⟩:=λw k=>(Oo w _).resolve_right (by
  cases h:l[k]? with
  |none=>simp
  |some x=>have:=hl x (Bh h);simp;omega)
 have n1: ¬(⟨#[118,120]⟩:ByteArray)=⟨#[45]⟩:=by decide
 have n2: ¬(⟨#[99,120]⟩:ByteArray)=⟨#[45]⟩:=by decide
 have n3: ¬(⟨#[115,105,100,101]⟩:ByteArray)=⟨#[45]⟩:=by decide
 have hT:ET (BX (CO b l.length)) (JD l.length) ⟨#[45]⟩ b l.length=ET (Bu (CO b l.length)) WC ByteArray.empty b l.length:=by
  simp only[ET];congr 1
  .simp only[AL,eA,Ag n1,Ag n2,Ag n3,Ag (G _ _),Ag (Z _ _ _),Ag (aa _ _ _)]
  .refine QJ λk hk=> ?_
   rw[CS] at hk;simp only[AL,eA,Ag n2,Ag (G _ _),Bb,zA,JD];by_cases c:(k:Int)=(l.length:Int) - 1
   .rw[Al c,Al rfl,WC,show (k:Int)+1=(l.length:Int) by omega,zR]
   .rw[Ag c,WC,Ag (z _ _)]
 have hS:DF (BX (BO b l.length)) ⟨#[45]⟩ (Ac ⟨#[114]⟩ 0) ⟨#[115,105,100,101]⟩ l=DF (Bu (BO b l.length)) ByteArray.empty (Ac ⟨#[114]⟩ 0) ⟨#[115,105,100,101]⟩ l:=by
  simp only[DF,AL,eG,Ag n3,Ag (G _ _),Ag (O _),Ag (z _ _),Ag (Q _ _),Bb,zG]
 simp only[VJ,EA,hT,hS]
end Go.Ae
namespace Go.Ae
open Go.Proofs
def lU{a b c:Ad}(z:Bv a b=true)(G:Bv b c=true):Bv a c=true:=by
 simp only[Bv,Ic,Bc,C7] at*;omega
def uC(a:Ad):Bv a a=false:=by simp[Bv]
def lR: ∀(l:List Aq) (q:Option Ad),Ed q l=true->(∀p,q=some p-> ∀(i:Nat) (x:Aq),l[i]? =some x->Bv p x.At=true)/\
 ∀(i j:Nat) (x y:Aq),i<j->l[i]? =some x->l[j]? =some y->Bv x.At y.At=true
 |[],q,_=>⟨λ_ _ i x h=>by simp at h,λi j x y _ h=>by simp at h⟩
 |z::r,q,h=>by
  rw[Xn] at h;simp only[Bc] at h;obtain⟨_,_,Q,h4⟩:=h;obtain⟨Z,i2⟩:=lR r (some z.At) h4;refine⟨?_,?_⟩
  .rintro p rfl i x G;cases i with
   |zero=>
    simp only[Hn,AO] at G;subst G;exact Q
   |succ i=>
    simp only[Kf] at G;exact lU Q (Z _ rfl i x G)
  .intro i j x y aa G O;cases j with
   |zero=>omega
   |succ j=>
    simp only[Kf] at O;cases i with
    |zero=>
     simp only[Hn,AO] at G;subst G;exact Z _ rfl j y O
    |succ i=>
     simp only[Kf] at G;exact i2 i j x y (by omega) G O
def Qtf{A:Type}(p:A->Bool): ∀(l:List A) (o k:Nat) (x:A),l[k]? =some x->p x=true->(∀i y,i<k->l[i]? =some y->p y=false)->B0 p o l=((o+k:Nat):Int)
 |[],o,k,x,h,_,_=>by simp at h
 |z::r,o,k,x,h,hp,hn=>by
  simp only[B0];cases k with
  |zero=>
   simp only[Hn,AO] at h;subst h;rw[Al hp];rfl
  |succ k=>
   have:=hn 0 z (by omega) (by simp)
   rw[Ag (by simp[this])];rw[Qtf p r (o+1) k x (by simpa using h) hp (λi y O G=>hn (i+1) y (by omega) (by simpa using G))];congr 1;omega
def Qrf{A:Type}(p:A->Bool): ∀(l:List A) (o:Nat),(∀(i:Nat) (y:A),l[i]? =some y->p y=false)->B0 p o l= -1
 |[],o,_=>rfl
 |z::r,o,hn=>by
  simp only[B0]
  have:=hn 0 z (by simp)
  rw[Ag (by simp[this])];exact Qrf p r (o+1) (λi y G=>hn (i+1) y (by simpa using G))
def l03Index.fv(a:Ao×Ad):Int:=(λa p=>B0 (λx=>decide (x.At=p)) 0 a.Tiles) (a.1) (a.2)
def l03Index.row:AG:=vK (b2 (qP 1 Ao.d_le) (qR Ad.d_le)) rI (λa=>Ed none a.1.Tiles=true) l03Index.fv
def l03Index.q:=B3 (R:=l03Index.row) rfl
def Yaf:=J @l03Index.fv.eq_1 (J @l_LessPoint.q @l_LessPoint.fv.eq_1)
def l03Index.ok:AJ 63 l03Index.row:=by
 refine vw (tC l_LessPoint.ok tN) Tryz.func63 ?_;intro a ac;simp only[Tryz.f63,Option.getD];simp only[ZZ,simprocAttr,Ab,Yaf];intro hn;refine AZ.old ⟨{p:Nat×Nat//p.1<=p.2/\p.2<=a.1.Tiles.length/\(∀i x,i<p.1->a.1.Tiles[i]? =some x->Bv x.At a.2=true)/\(∀i x,p.2<=i->a.1.Tiles[i]? =some x->Bv x.At a.2=false)},λp=>⟨[(5,.im (.int .i64 p.1.1)),(6,.im (.int .i64 p.1.2)),(4,.im (.int .i64 0)),(3,.ptr 1 0),(0,.ptr 0 0)],[(1,(true,.cells 62 [.im (.int .i64 a.2.X),.im (.int .i64 a.2.Y)])),(0,(false,.view [.sl false 3 (a.1.Tiles.map Aq.c)]))],2⟩,λp=>p.1.2 - p.1.1,λp=>⟨by simp[ZG],AU _⟩,⟨⟨(0,a.1.Tiles.length),by simp,by simp,by simp,?_⟩,by simp only[ZZ,simprocAttr,Ab,Yaf,sub]⟩,λp=> ?_⟩
 .intro i x G Q
  have:=(CL.1 Q).1
  simp only at G;omega
 obtain⟨⟨lo,G⟩,h1,h2,h3,h4⟩:=p;simp only at h1 h2 h3 h4;simp only[ZZ,simprocAttr,Ab,Yaf,sub,AS];obtain⟨_,O⟩:=lR _ _ ac;have ab: ∀(i:Nat) (x:Aq),i<lo->a.1.Tiles[i]? =some x->x.At≠a.2:=by
  intro i x G Q he
  have:=h3 i x G Q
  rw[he,uC] at this;cases this
 refine⟨λad=> ?_,λad=>⟨λhl=>⟨hl,λx Q=>⟨λhe=> ?_,λhe=> ?_⟩⟩,λhl=> ?_⟩⟩
 .have hm:IntKind.wrap .i64 ((IntKind.wrap .i64 ((lo:Int)+G)).tdiv 2)=(((lo+G)/2:Nat):Int):=by
   rw[AH (x:=(lo:Int)+G) (by omega) (by omega),ZeC (by omega),AH (by omega) (by omega)];omega
  rw[hm];refine⟨by omega,by omega,λx Q=>⟨λhb=> ?_,λhb=> ?_⟩⟩
  .rw[B5] at Q;refine⟨⟨((lo+G)/2+1,G),by simp only;omega,h2,λi y aa z=> ?_,h4⟩,by simp only;omega,?_,rfl⟩
   .simp only at aa;rcases FR i ((lo+G)/2) with h|h
    .exact lU (O i _ y x h z Q) hb
    .have:i=(lo+G)/2:=by omega
     subst this;rw[Q] at z;exact AC z▸hb
   .rw[AH (by omega) (by omega)];simp only;omega
  .rw[B5] at Q;refine⟨⟨(lo,(lo+G)/2),by simp only;omega,by simp only;omega,h3,λi y aa z=> ?_⟩,by simp only;omega,rfl,rfl⟩;simp only at aa;rcases FR ((lo+G)/2) i with h|h
   .cases hl:Bv y.At a.2 with
    |false=>rfl
    |true=>exact absurd (lU (O _ i x y h Q z) hl) hb
   .have:i=(lo+G)/2:=by omega
    subst this;rw[Q] at z;obtain rfl:=AC z;simpa using hb
 .have af:x.At=a.2:=by
   obtain⟨e1,e2⟩:=he;have e1:x.At.X=a.2.X:=by simpa using e1
   have e2:x.At.Y=a.2.Y:=by simpa using e2
   rw[<-Ad.eta x.At,<-Ad.eta a.2,e1,e2]
  rw[Qtf _ a.1.Tiles 0 lo x Q (by simp[af]) (λi y G z=>by simp[ab i y G z])];simp
 .refine (Qrf _ _ _ ?_).symm;intro i y z;rcases wM i lo with h|h|h
  .simp[ab i y h z]
  .subst h;rw[Q] at z;obtain rfl:=AC z;simp only[Jk];intro h9;exact he (by simp[h9])
  .simp only[Jk];intro h9;have Z:=O lo i x y h Q z;rw[h9] at Z
   have:=h4 lo x (by omega) Q
   rw[this] at Z;cases Z
 .refine (Qrf _ _ _ ?_).symm;intro i y z
  have:=(CL.1 z).1
  simp[ab i y (by omega) z]
def Hk(p:Ad)(t:Int):Bool->List Aq->List Aq
 |_,[]=>[]
 |false,x::r=>if Bv p x.At=true then ⟨p,t⟩::x::Hk p t true r else x::Hk p t false r
 |true,x::r=>x::Hk p t true r
def IY(p:Ad):List Aq->Bool
 |[]=>false
 |x::r=>if Bv p x.At=true then true else IY p r
def Dg(a:Ao)(p:Ad)(t:Int):Ao:=⟨Hk p t false a.Tiles++(if IY p a.Tiles=true then [] else [⟨p,t⟩])⟩
def vG(p:Ad)(t:Int): ∀(l:List Aq),Hk p t true l=l
 |[]=>rfl
 |x::r=>by simp only[Hk,vG p t r]
def zW(p:Ad)(t:Int)(x:Aq): ∀(l:List Aq),Hk p t false (l++[x])=Hk p t false l++(if IY p l=true then [x] else if Bv p x.At=true then [⟨p,t⟩,x] else [x])
 |[]=>by simp only[Dv,Hk,IY];split<;>simp[Hk]
 |y::r=>by
  simp only[Ci,Hk,IY];split
  .rw[vG,vG];simp
  .rw[zW p t x r];simp
def zI(p:Ad)(x:Aq): ∀(l:List Aq),IY p (l++[x])=(IY p l||Bv p x.At)
 |[]=>by simp only[Dv,IY];split<;>simp_all
 |y::r=>by
  simp only[Ci,IY];split
  .simp
  .exact zI p x r
def Qua(p:Ad)(t:Int): ∀(l:List Aq),(Hk p t false l).length<=l.length+1
 |[]=>by simp[Hk]
 |y::r=>by
  simp only[Hk];split
  .rw[vG];simp
  .have:=Qua p t r
   simp;omega
def l03Put.fv(a:Ao×Ad×Int):Ao:=(Dg) (a.1) (a.2.1) (a.2.2)
def l03Put.row:AG:=vK (b3 (qP 1 Ao.d_le) (qR Ad.d_le) qI) (rA Ao.d_le) (λa=>a.1.Tiles.length<=1000000) l03Put.fv
def l03Put.q:=B3 (R:=l03Put.row) rfl
def nN:=J @l03Put.fv.eq_1 (J @l_LessPoint.q @l_LessPoint.fv.eq_1)
def l03Put.ok:AJ 86 l03Put.row:=by
 refine vw (tC l_LessPoint.ok tN) Tryz.func86 ?_;intro a ab;simp only[Tryz.f86,Option.getD];simp only[ZZ,simprocAttr,Ab,nN];refine AZ.ren ⟨{k:Nat//k<=a.1.Tiles.length},λk=>⟨[(9,.im (.int .i64 k.1)),(8,.im (.bool (IY a.2.1 (a.1.Tiles.take k.1)))),(7,.ptr 3 0),(6,.ptr 2 0),(4,.ptr 1 0),(0,.ptr 0 0),(2,.im (.int .i64 a.2.2))],[(3,(true,.cells 25 [.own 4])),(4,(true,.arr 88 3 ((Hk a.2.1 a.2.2 false (a.1.Tiles.take k.1)).map Aq.c))),(2,(true,.cells 25 [.im (.sl true 0 [])])),(1,(true,.cells 62 [.im (.int .i64 a.2.1.X),.im (.int .i64 a.2.1.Y)])),(0,(false,.view [.sl false 3 (a.1.Tiles.map Aq.c)]))],5⟩,λk=>a.1.Tiles.length - k.1,λk=>⟨by simp[ZG],by simp⟩,⟨⟨0,by simp⟩,[(4,none)],?_⟩,λk=> ?_⟩
 .simp only[Am];simp only[ZZ,simprocAttr,Ab,nN,AN,AM,Hp,Hk,IY,Bg]
  try simp
 obtain⟨k,ac⟩:=k;simp only[ZZ,simprocAttr,Ab,nN,AS];intro _;have Z:=Qua a.2.1 a.2.2 (a.1.Tiles.take k);have aa:(a.1.Tiles.take k).length<=k:=by simp;omega
 refine⟨λQ=>⟨λhd=>⟨Q,λx O=>⟨λG=> ?_,λG=> ?_⟩⟩,λhd=> ?_⟩,λQ=> ?_⟩
 .have z:a.1.Tiles.take (k+1)=a.1.Tiles.take k++[x]:=by rw[Ji,O];rfl
  refine⟨by simp[Cj,BZ,D.one],by omega,Q,λy hy=>⟨by simp[Cj,BZ,D.one],by simp;omega,⟨⟨k+1,by omega⟩,[(4,some 8)],by simp only;omega,?_⟩⟩⟩;rw[O] at hy;obtain rfl:=AC hy;simp only[Am];simp only[ZZ,simprocAttr,Ab,nN];refine⟨by simp,⟨?_,?_⟩,?_⟩
  .rw[AH (by omega) (by omega)];omega
  .rw[z,zI,hd,G];rfl
  .rw[z,zW,hd,G];simp[Aq.c]
 .have z:a.1.Tiles.take (k+1)=a.1.Tiles.take k++[x]:=by rw[Ji,O];rfl
  refine⟨Q,λy hy=>⟨by simp[Cj,BZ,D.one],by omega,⟨⟨k+1,by omega⟩,[(4,some 6)],by simp only;omega,?_⟩⟩⟩;rw[O] at hy;obtain rfl:=AC hy;simp only[QN] at G;simp only[Am];simp only[ZZ,simprocAttr,Ab,nN];refine⟨by simp,⟨?_,?_⟩,?_⟩
  .rw[AH (by omega) (by omega)];omega
  .rw[z,zI,hd,G];rfl
  .rw[z,zW,hd,G];simp[Aq.c]
 .simp only[Jg] at hd;refine⟨Q,λx O=>⟨by simp[Cj,BZ,D.one],by omega,⟨⟨k+1,by omega⟩,[(4,some 6)],by simp only;omega,?_⟩⟩⟩;have z:a.1.Tiles.take (k+1)=a.1.Tiles.take k++[x]:=by rw[Ji,O];rfl
  simp only[Am];simp only[ZZ,simprocAttr,Ab,nN];refine⟨by simp,⟨?_,?_⟩,?_⟩
  .rw[AH (by omega) (by omega)];omega
  .rw[z,zI,hd];rfl
  .rw[z,zW,hd];simp[Aq.c]
 .rw[GW (by omega)] at Z aa⊢;refine⟨λhd=>⟨by simp[Cj,BZ,D.one],by omega,?_⟩,λhd=> ?_⟩
  .have e:List.map Aq.c (Hk a.2.1 a.2.2 false a.1.Tiles)++[[D.int .i64 a.2.1.X,D.int .i64 a.2.1.Y,D.int .i64 a.2.2]]=List.map Aq.c (Hk a.2.1 a.2.2 false a.1.Tiles++[⟨a.2.1,a.2.2⟩]):=by simp[Aq.c]
   rw[e,Aq.d_R];simp[Dg,hd]
  .simp only[Jg] at hd;simp[Dg,hd]
def BM(a:Ao)(p:Ad):Int:=((a.Tiles.find? (λx=>decide (x.At=p))).map Aq.Tile).getD (-1)
def aP{A:Type}(p:A->Bool): ∀(l:List A) (o:Nat),(l.find? p=none/\B0 p o l= -1)\/ ∃(i:Nat) (x:A),l.find? p=some x/\B0 p o l=((o+i:Nat):Int)/\l[i]? =some x
 |[],o=> .inl ⟨rfl,rfl⟩
 |z::r,o=>by
  simp only[B0,Zew];cases h:p z
  .rcases aP p r (o+1) with ⟨G,O⟩|⟨i,x,G,O,Q⟩
   .exact .inl ⟨by simpa using G,by simpa using O⟩
   .exact .inr ⟨i+1,x,by simpa using G,by simp[O];omega,by simpa using Q⟩
  .exact .inr ⟨0,z,rfl,by simp,by simp⟩
def l03At.fv(a:Ao×Ad):Int:=(BM) (a.1) (a.2)
def l03At.row:AG:=vK (b2 (qP 1 Ao.d_le) (qR Ad.d_le)) rI (λa=>Ed none a.1.Tiles=true) l03At.fv
def l03At.q:=B3 (R:=l03At.row) rfl
def l03At.ok:AJ 30 l03At.row:=by
 refine vw (tC l03Index.ok tN) Tryz.func30 ?_;intro a z;simp only[Tryz.f30,Option.getD];simp only[ZZ,simprocAttr,Ab,l03At.fv,l03Index.q,l03Index.fv];refine⟨z,?_⟩;rcases aP (λx=>decide (x.At=a.2)) a.1.Tiles 0 with ⟨G,O⟩|⟨i,x,G,O,Q⟩
 .rw[O,Al (by omega)];simp[BM,G]
 .have hi:=(CL.1 Q).1;rw[O,Ag (by omega)];refine⟨by omega,by omega,λy Z=> ?_⟩
  have:((0+i:Nat):Int).toNat=i:=by omega
  rw[this,Q] at Z;obtain rfl:=AC Z;simp[BM,G]
def l02Tile.fv(a:AE×ByteArray):Int:=(λs n=>B0 (λg=>decide (g.Name=n)) 0 s.Tiles) (a.1) (a.2)
def l02Tile.row:AG:=vK (b2 (qP 2 AE.d_le) qT) rI (λa=>True) l02Tile.fv
def l02Tile.q:=B3 (R:=l02Tile.row) rfl
def l02Tile.ok:AJ 76 l02Tile.row:=by
 refine vw tN Tryz.func76 ?_;intro a O;simp only[Tryz.f76,Option.getD];simp only[ZZ,simprocAttr,Ab,l02Tile.fv];refine AZ.old ⟨{k:Nat//k<=a.1.Tiles.length/\B0 (λg:Tile=>decide (g.Name=a.2)) k (a.1.Tiles.drop k)=B0 (λg:Tile=>decide (g.Name=a.2)) 0 a.1.Tiles},λk=>⟨[(5,.im (.int .i64 k.1)),(4,.im (.int .i64 0)),(0,.ptr 0 0),(1,.im (.str a.2))],[(0,(false,.view (AE.c a.1)))],1⟩,λk=>a.1.Tiles.length - k.1,λk=>⟨by simp[ZG],AU _⟩,⟨⟨0,by simp⟩,by simp only[ZZ,simprocAttr,Ab,l02Tile.fv,sub]⟩,λk=> ?_⟩;obtain⟨k,Q,z⟩:=k;simp only[ZZ,simprocAttr,Ab,l02Tile.fv,sub,AS];intro hn;refine⟨λG=>⟨G,λx Z=> ?_⟩,λG=> ?_⟩
 .rw[GQ Z,B0] at z;refine⟨λh=> ?_,λh=>JW G hn ⟨by omega,by rw[<-z,Ag (by simpa using h)]⟩⟩;rw[Al (by simpa using h)] at z;exact z
 .rw[Ee (by omega),B0] at z;omega
def Ij(a:Ao)(o:Be):Ao×Int:=if 500<=a.Tiles.length then (⟨[]⟩,4) else (Dg a o.At o.Tile,0)
def l08Attach.fv(a:Ao×Be):Ao×Int:=(Ij) (a.1) (a.2)
def l08Attach.row:AG:=vK (b2 (qP 1 Ao.d_le) (qR Be.d_le)) (r2 (rA Ao.d_le) rI) (λa=>True) l08Attach.fv
def l08Attach.q:=B3 (R:=l08Attach.row) rfl
def l08Attach.ok:AJ 62 l08Attach.row:=by
 refine vw (tC l03Put.ok tN) Tryz.func62 ?_;intro a z;simp only[Tryz.f62,Option.getD];simp only[ZZ,simprocAttr,Ab,l08Attach.fv,l03Put.q,l03Put.fv];intro _;simp only[AS];refine⟨λh=> ?_,λh=>⟨by omega,?_⟩⟩
 .simp only[Ij];rw[Al (by omega)]
 .simp only[Ij];rw[Ag (by omega)]
def yW(s:AE)(a:Ao)(p:Ad)(t:Int)(d:Int):Int:=if 0<=BM a (CF p d) then LC s t d (BM a (CF p d)) else 0
def LS(s:AE)(a:Ao)(p:Ad)(t:Int):Nat->Int
 |0=>0
 |k+1=>LS s a p t k+yW s a p t k
def HG(s:AE)(a:Ao):Prop:=Ed none a.Tiles=true/\ ∀x∈a.Tiles,GO s x.Tile
def WP{s:AE}{a:Ao}(h:HG s a)(p:Ad)(h0:0<=BM a p):GO s (BM a p):=by
 simp only[BM] at h0⊢;cases hf:a.Tiles.find? (λx=>decide (x.At=p)) with
 |none=>rw[hf] at h0;simp at h0
 |some x=>exact h.2 x (Zdp hf)
def Qp1{s:AE}(h:C5 s)(g:Int):0<=Q6 s g/\Q6 s g<=4:=by
 simp only[Q6];split
 .cases hx:s.Glues[(g - 1).toNat]? with
  |none=>simp
  |some x=>have:=h.2.2 x (Bh hx);simp;omega
 .omega
def tW{p:Ad}(h:F7 p=true):I7 p:=by
 simp only[F7,Bj,Bc,C7] at h;simp only[I7];omega
def zK: ∀(l:List Aq) (q:Option Ad),Ed q l=true-> ∀x∈l,F7 x.At=true/\Bj x.Tile 0 159=true
 |[],_,_,x,G=>by cases G
 |z::r,q,h,x,G=>by
  rw[Xn] at h;simp only[Bc] at h;rcases Bw.1 G with rfl|G
  .exact⟨h.1,h.2.1⟩
  .exact zK r _ h.2.2.2 x G
def Hw(a:Ao)(i d:Int):Int:=B0 (λx=>decide (x.At=CF ((a.Tiles[i.toNat]?.map Aq.At).getD ⟨0,0⟩) d)) 0 a.Tiles
def l06Neighbor.fv(a:Ao×Int×Int):Int:=(Hw) (a.1) (a.2.1) (a.2.2)
def l06Neighbor.row:AG:=vK (b3 (qP 1 Ao.d_le) qI qI) rI (λa=>Ed none a.1.Tiles=true/\0<=a.2.1/\a.2.1<a.1.Tiles.length/\0<=a.2.2/\a.2.2<=3) l06Neighbor.fv
def l06Neighbor.q:=B3 (R:=l06Neighbor.row) rfl
def l06Neighbor.ok:AJ 108 l06Neighbor.row:=by
 refine vw (tC l01Step.ok (tC l03Index.ok tN)) Tryz.func108 ?_;intro a z;simp only[Tryz.f108,Option.getD];simp only[ZZ,simprocAttr,Ab,l06Neighbor.fv,l01Step.q,l01Step.fv,l03Index.q,l03Index.fv];obtain⟨G,Q,Z,h4,h5⟩:=z;refine⟨Q,Z,λx O=>⟨⟨tW (zK _ _ G x (Bh O)).1,h4,h5⟩,G,?_⟩⟩;simp only[Hw];rw[O];rfl
def oL:PK->Prop
 | .ptr _=>True
 | .val d=>FV d= .val d
def kK(d:D):oL (FV d):=by cases d<;>simp[FV,oL]
def kJ{h:Nat->Option Au}{x:AV}{p:PK}(hp:Ec h x=some p):oL p:=by
 cases x with
 |im d=>
  simp only[Ec,AO] at hp;subst hp;exact kK d
 |ptr o off=>
  simp only[Ec,JH,Da] at hp;obtain⟨_,_,rfl⟩:=hp;trivial
 |eptr o i off=>
  simp only[Ec,JH,Da] at hp;obtain⟨_,_,rfl⟩:=hp;trivial
 |own o=>
  simp only[Ec,E6,bk,Da] at hp;obtain⟨d,hd,rfl⟩:=hp;unfold RE at hd;split at hd
  .obtain rfl:=AC hd;rfl
  .simp only[Da] at hd;obtain⟨_,_,rfl⟩:=hd;rfl
  .cases hd
 |mp o=>
  simp only[Ec,E6,bk,Da] at hp;obtain⟨d,hd,rfl⟩:=hp;unfold LV at hd;split at hd
  .obtain rfl:=AC hd;rfl
  .cases hd
 |agg z=>
  simp only[Ec,E6,bk,Da] at hp;obtain⟨d,⟨_,_,rfl⟩,rfl⟩:=hp;rfl
 |tup z=>
  simp only[Ec,E6,bk,Da] at hp;obtain⟨d,⟨_,_,rfl⟩,rfl⟩:=hp;rfl
 |clo f a c=>
  simp only[Ec,E6,bk,Da] at hp;obtain⟨d,hd,rfl⟩:=hp;unfold OQ at hd;split at hd
  .obtain rfl:=AC hd;rfl
  .cases hd
  .cases hd
 |_=>cases hp
def MX{h:Nat->Option Au}: ∀(xs:List AV) (ps:List PK),Cp h xs=some ps-> ∀p∈ps,oL p
 |[],ps,hp=>by
  simp only[Cp,AO] at hp;subst hp;intro p z;cases z
 |x::xs,ps,hp=>by
  simp only[Cp] at hp;cases hx:Ec h x with
  |none=>rw[hx] at hp;cases hp
  |some p=>
   cases hr:Cp h xs with
   |none=>rw[hx,hr] at hp;cases hp
   |some qs=>
    rw[hx,hr] at hp;simp only[Gz,AO] at hp;subst hp;intro q hq;rcases Bw.1 hq with rfl|hq
    .exact kJ hx
    .exact MX xs qs hr q hq
def eS: ∀(ps:List PK) (j:Nat) (H:Nat->Option Au),(∀p∈ps,oL p)->(∀n e,hget (Dm j ps) n=some e->H n=some e)->Kp H (Dn j ps)=some (ps,[])
 |[],_,_,_,_=>rfl
 | .val d::r,j,H,hn,hH=>by
   have z:=hn _ (BS ..);simp only[oL] at z;simp only[Dn,Kp,IL,z,eS r j H (λp hp=>hn p (BW _ hp)) (by simpa only[Dm] using hH),X8,Ck]
 | .ptr O::r,j,H,hn,hH=>by
   have z:=hH j (false,.view O) (by simp only[Dm,hget,wQ,C8]);have Q:=eS r (j+1) H (λp hp=>hn p (BW _ hp)) (λn e G=>hH n e (by
    have Z:=(G3 (j+1) r n e G).1;have hq:(j==n)=false:=by rw[Ih];omega
    simp only[Dm,hget,hq,Cy];exact G))
   simp only[Dn,Kp,IL,z,QV,Ie,Q,X8,Ck]
def NG{P:Program}{g:FuncId}{A B:Type}{k:AK A}{r:RK B}{pre:A->Prop}{f:A->B}(hr: ∀b,(r.e b).scs=true)(h:H6 P g (vK k r pre f)):H6 P g (CY k r pre f):=by
 intro args hh nx K z;unfold CY LB at z;cases hp:Cp hh args with
 |none=>rw[hp] at z;exact z.elim
 |some O=>
  rw[hp] at z;simp only[Xq] at z;cases ha:k.r O with
  |none=>rw[ha] at z;exact z.elim
  |some a=>
   rw[ha] at z;simp only[EQ] at z;obtain⟨ai,hK⟩:=z;have au:=eS O 0 (hget (Dm 0 O)) (MX args O hp) (λ_ _ h=>h);obtain⟨ab,r',E,hT,aw,hE⟩:=h (Dn 0 O) (hget (Dm 0 O)) (BT O) (λx E=>x= .im (r.e (f a))/\E={use:=Ax (Dn 0 O)}) (by
    unfold vK Ff;rw[au];simp only[aE,ha,EQ,Tb];exact⟨ai,by trivial,by trivial⟩)
   subst aw hE;refine⟨ab,_,_,?_,hK⟩;intro C S vs RR hW aj ak am aa ag;have av:=Qtx hW args O vs.toList (λm hm=>aj m (IG _ hm)) hp aa;have af:=nK hW;obtain⟨ls,ah,ab⟩:=nA O vs.toList 0 av
   let S0:Ay:=⟨ls,S.froz.ok,hget (Dm 0 O),S.w⟩
   let C0:Ba:=⟨S.w,λ_=>False,S.froz.ok,0,λ_=>none,λ_=>none,[]⟩
   have ao:Wf C0 S0:=by
    refine⟨rfl,rfl,rfl,AU _,AU _,λ_ _ _=>rfl,λ_ Z=>Z,λ_ Z=> .inl Z,af.oks,?_,?_,?_,af.glN λ_ h=>h.elim⟩
    .intro n e he;obtain⟨l,h1,_,h3⟩:=ah n e he;have h4:S0.ρ n=some l:=h1;rw[h4];obtain⟨_,cs,rfl⟩:=G3 0 O n e he;simp only[Ap] at h3⊢;exact h3
    .intro n e l he hl;obtain⟨l',h1,h2,h3⟩:=ah n e he;have h4:S0.ρ n=some l':=h1;rw[h4] at hl;obtain rfl:=AC hl;obtain⟨_,cs,rfl⟩:=G3 0 O n e he;exact⟨h2,.inr rfl⟩
    .intro n n' e e' l l' he ac hl az ay aq;obtain⟨_,cs,rfl⟩:=G3 0 O n e he;obtain⟨_,ax,rfl⟩:=G3 0 O n' e' ac;simp at aq
   refine hT C0 S0 vs RR ao (λ_ _=>rfl) (λn hn=>absurd hn (by unfold Fr;simp)) (λn e _ m _=>by unfold Fr;simp) (ab S0 rfl rfl (λn _=>⟨rfl,rfl⟩)) ?_;intro v S1 Q _ _ hv;have G: ∀b,b<S.w.heap.size->S1.w.heap[b]? =S.w.heap[b]? :=λb Z=>Q.keep b Z (λh=>h)
   have ad:S.w.heap.size<=S1.w.heap.size:=Q.size
   let S':Ay:={S with w:=S1.w}
   have hp':BA (λ_=>True) S S':=⟨λb Z=>⟨Z,G b (hW.oks b Z)⟩,λo _ e' ac=>⟨e',ac,rfl,rfl,rfl⟩⟩;have an:Wf C S':=by
    refine⟨?_,?_,?_,CW hW.dr Q.dr,CW hW.size ad,?_,hW.ok0,hW.ok1,?_,?_,?_,hW.inj,hW.gl⟩
    .exact Q.os.trans hW.os
    .exact Q.tape.trans hW.tape
    .exact Q.output.trans hW.output
    .intro b Z hM;exact (G b (FC Z hW.size)).trans (hW.keep b Z hM)
    .intro b Z;exact FC (hW.oks b Z) ad
    .intro o e he;exact H9 hp' (λlc hl=>G lc.b (hW.loc o e lc he hl).1) _ (λ_ _=>trivial) (hW.obj o e he)
    .intro o e l he hl;obtain⟨h2,h3⟩:=hW.loc o e l he hl;exact⟨FC h2 ad,h3⟩
   refine ag v S' an ?_ ⟨hp'.ok,λo _=>hp'.nm o trivial⟩ ?_
   .show S.h=_;funext m;simp[B4.appf,hget]
   .simp only[Aa] at hv⊢;exact Xh (hr _) hv
def L6(s:AE):Nat->List Ak->Bool
 |_,[]=>true
 |i,g::r=>(IZ g.Name && (Bj g.Strength 1 4 && decide (B0 (λx=>decide (x.Name=g.Name)) 0 s.Glues=i))) && L6 s (i+1) r
def JY(s:AE):Nat->List Tile->Bool
 |_,[]=>true
 |i,x::r=>(IZ x.Name && (decide (x.Sides.length=4) && (decide (B0 (λy=>decide (y.Name=x.Name)) 0 s.Tiles=i) && x.Sides.all (λg=>Bj g 0 s.Glues.length)))) && JY s (i+1) r
def FO(s:AE):Bool:=(decide (s.Glues.length<=200) && Bj s.Tiles.length 1 160) && (L6 s 0 s.Glues && JY s 0 s.Tiles)
def l02Ok.fv(a:AE):Bool:=(FO) a
def l02Ok.row:AG:=vK (b1 (qP 2 AE.d_le)) rB (λa=>True) l02Ok.fv
def l02Ok.q:=B3 (R:=l02Ok.row) rfl
def gX:=J @l02Ok.fv.eq_1<|J @spec_IsName.q<|J @spec_IsName.fv.eq_1<|J @l00In.q<|J @l00In.fv.eq_1<|J @l02Glue.q<|J @l02Glue.fv.eq_1<|J @l02Tile.q @l02Tile.fv.eq_1
def l02Ok.ok:AJ 56 l02Ok.row:=by
 refine vw (tC spec_IsName.ok (tC l00In.ok (tC l02Glue.ok (tC l02Tile.ok tN)))) Tryz.func56 ?_;intro a ac;simp only[Tryz.f56,Option.getD];simp only[ZZ,simprocAttr,Ab,gX];intro hg;simp only[AS];refine⟨λc1 ht=>⟨λc2 _=>⟨λc3=> ?_,λc3=> ?_⟩,λc2=> ?_⟩,λc1=> ?_⟩
 .have: ¬(a.Tiles.length:Int)<=160:=by omega
  simp[FO,Bj,this]
 .have c0:FO a=(L6 a 0 a.Glues && JY a 0 a.Tiles):=by
   have e1:a.Glues.length<=200:=by omega
   have e2:(1:Int)<=a.Tiles.length:=by omega
   have e3:(a.Tiles.length:Int)<=160:=by omega
   simp[FO,Bj,e1,e2,e3]
  refine AZ.old ⟨{k:Nat//k<=a.Glues.length/\L6 a k (a.Glues.drop k)=L6 a 0 a.Glues},λk=>⟨[(3,.im (.int .i64 k.1)),(2,.im (.bool false)),(0,.ptr 0 0)],[(0,(false,.view (AE.c a)))],1⟩,λk=>a.Glues.length - k.1,λk=>⟨by simp[ZG],AU _⟩,⟨⟨0,by simp⟩,by simp only[ZZ,simprocAttr,Ab,gX,sub]⟩,λk=> ?_⟩;obtain⟨k,ab,z⟩:=k;simp only[ZZ,simprocAttr,Ab,gX,sub,AS];intro _;refine⟨λhk=>⟨hk,λx hx=> ?_⟩,λhk=> ?_⟩
  .rw[GQ hx,L6] at z;have G:(IZ x.Name && (Bj x.Strength 1 4 && decide (B0 (λg:Ak=>decide (g.Name=x.Name)) 0 a.Glues=k)))=false->false=FO a:=by
    intro h;rw[h,FT] at z;rw[c0,<-z];rfl
   refine⟨λZ=>⟨λh2=>⟨λQ=> ?_,λQ=>JW hk hg ⟨by omega,?_⟩⟩,λh2=>G (by simp[h2])⟩,λZ=>G (by simp[Z])⟩
   .rw[AH (by omega) (by omega)] at Q;exact G (by simp;intro _ _;omega)
   .rw[HJ,AH (by omega) (by omega)] at Q;have h4:B0 (λg:Ak=>decide (g.Name=x.Name)) 0 a.Glues=k:=by omega
    rw[Z,h2,h4] at z;simpa using z
  .rw[Ee (by omega),L6] at z;have c9:FO a=JY a 0 a.Tiles:=by rw[c0,<-z,ED]
   refine AZ.old ⟨{k:Nat//k<=a.Tiles.length/\JY a k (a.Tiles.drop k)=JY a 0 a.Tiles},λk=>⟨[(5,.im (.int .i64 k.1)),(2,.im (.bool false)),(0,.ptr 0 0)],[(0,(false,.view (AE.c a)))],1⟩,λk=>a.Tiles.length - k.1,λk=>⟨by simp[ZG],AU _⟩,⟨⟨0,by simp⟩,by simp only[ZZ,simprocAttr,Ab,gX,sub]⟩,λk=> ?_⟩;obtain⟨k,ab,z⟩:=k;simp only[ZZ,simprocAttr,Ab,gX,sub,AS];intro _;refine⟨λhk=>⟨hk,λx hx=> ?_⟩,λhk=> ?_⟩
   .rw[GQ hx,JY] at z;have G:(IZ x.Name && (decide (x.Sides.length=4) && (decide (B0 (λy:Tile=>decide (y.Name=x.Name)) 0 a.Tiles=k) && x.Sides.all (λg=>Bj g 0 a.Glues.length))))=false->false=FO a:=by
     intro h;rw[h,FT] at z;rw[c9,<-z]
    refine⟨λZ hs=>⟨λh2=>⟨λQ=>G (by simp[Q]),λQ=> ?_⟩,λh2=>G (by simp;intro _ h9;omega)⟩,λZ=>G (by simp[Z])⟩;rw[HJ] at Q;have aa:x.Sides.length=4:=by omega
    refine AZ.old ⟨{j:Nat//j<=4/\(x.Sides.drop j).all (λg=>Bj g 0 a.Glues.length)=x.Sides.all (λg=>Bj g 0 a.Glues.length)},λj=>⟨[(7,.im (.int .i64 j.1)),(5,.im (.int .i64 k)),(6,.ptr 1 0),(2,.im (.bool false)),(0,.ptr 0 0)],[(1,(true,.cells 64 ((Tile.c x).map .im))),(0,(false,.view (AE.c a)))],2⟩,λj=>4 - j.1,λj=>⟨by simp[ZG,Tile.c],by simp⟩,⟨⟨0,by simp⟩,by simp only[ZZ,simprocAttr,Ab,gX,sub]⟩,λj=> ?_⟩;obtain⟨j,ad,O⟩:=j;simp only[ZZ,simprocAttr,Ab,gX,sub,AS];refine⟨λhj=>⟨by omega,λy hy=> ?_⟩,λhj=>JW hk ht ⟨by omega,?_⟩⟩
    .rw[GQ hy,EE] at O;refine⟨λh=>G ?_,λh=>⟨⟨j+1,by omega,?_⟩,by simp only;omega,?_⟩⟩
     .rw[h,FT] at O;rw[<-O];simp
     .rw[Jg] at h;rw[h,ED] at O;exact O
     .rw[AH (by omega) (by omega)];simp only;omega
    .rw[Ee (by omega)] at O;rw[<-z,<-O,Z,aa,Q];simp
   .rw[Ee (by omega),JY] at z;rw[c9,<-z]
 .have: ¬(1:Int)<=a.Tiles.length:=by omega
  simp[FO,Bj,this]
 .have: ¬a.Glues.length<=200:=by omega
  simp[FO,this]
def VS1.fv(a:Int×AE):Bool:=(λg s=> !Bj g 0 s.Glues.length) (a.1) (a.2)
def VS1.row:AG:=vK (b2 qI (qP 2 AE.d_le)) rB (λa=>True) VS1.fv
def VS1.q:=B3 (R:=VS1.row) rfl
def VS1.ok:AJ 133 VS1.row:=by
 refine vw (tC within_.ok tN) Tryz.func133 ?_;intro a z;simp only[Tryz.f133,Option.getD];simp only[ZZ,simprocAttr,Ab,VS1.fv,within_.q,within_.fv];intro _;trivial
def IdxVS.ar:List PK->Option ((List Int)×AE)
 |[.val (.sl _ _ O),.val (.fn 133 [] [.ref z])]=>(AX Ch O).bind λQ=>(AE.d (z.take 2)).bind λG=>some (Q,G)
 |_=>none
def IdxVS.ae(a:(List Int)×AE):List PK:=[.val (.sl false 1 (a.1.map Af)),.val (.fn 133 [] [.ref (AE.c a.2)])]
def IdxVS.le: ∀G a,IdxVS.ar G=some a->BY G (IdxVS.ae a):=by
 intro G a h;unfold IdxVS.ar at h;split at h
 .simp only[Fi,AO] at h;obtain⟨Q,h0,O,z,rfl⟩:=h;exact⟨Fh (EZ Dj _ _ h0) (by simp only[BF];rintro r ⟨y,_,rfl⟩;rfl),Wr ⟨aY (HO.trans_take (AE.d_le _ _ z)),trivial⟩,trivial⟩
 .cases h
def IdxVS.fv(a:(List Int)×AE):Int:=(λl s=>B0 (λg=> !Bj g 0 s.Glues.length) 0 l) (a.1) (a.2)
def IdxVS.row:AG:=Ff IdxVS.ar (λa=>True) (λa=>(D.int .i64) (IdxVS.fv a))
def IdxVS.q:=vq IdxVS.row rfl
def IdxVS.ok:AJ 92 IdxVS.row:=by
 refine aG D3 (tC VS1.ok tN) Tryz.func92 rfl (by kernel_rfl) (by kernel_rfl) (ar:=IdxVS.ar) (ae:=IdxVS.ae) IdxVS.le (n:=2) (λ_=>rfl) (by decide) (rc:=(DG)) (re:=(D.int .i64)) (Q2) (f:=IdxVS.fv) ?_;intro a O;simp only[Tryz.f92,Option.getD];simp only[ZZ,simprocAttr,Ab,IdxVS.ae,IdxVS.fv,VS1.q,VS1.fv];intro hn;refine AZ.old ⟨{k:Nat//k<=a.1.length/\B0 (λg:Int=> !Bj g 0 a.2.Glues.length) k (a.1.drop k)=B0 (λg:Int=> !Bj g 0 a.2.Glues.length) 0 a.1},λk=>⟨[(8,.im (.int .i64 k.1)),(7,.im (.int .i64 a.1.length)),(6,.im (.sl false 1 (a.1.map Af))),(4,.im (.int .i64 0)),(0,.im (.sl false 1 (a.1.map Af))),(1,.im (.fn 133 [] [.ref (AE.c a.2)]))],[],0⟩,λk=>a.1.length - k.1,λk=>⟨by simp[ZG],AU _⟩,⟨⟨0,by simp⟩,by simp only[ZZ,simprocAttr,Ab,IdxVS.ae,IdxVS.fv,VS1.q,VS1.fv,sub]⟩,λk=> ?_⟩;obtain⟨k,Q,z⟩:=k;simp only[ZZ,simprocAttr,Ab,IdxVS.ae,IdxVS.fv,VS1.q,VS1.fv,sub,AS];refine⟨λG=>⟨G,λx Z=> ?_⟩,λG=> ?_⟩
 .rw[GQ Z,B0] at z;refine⟨λh=> ?_,λh=>JW G hn ⟨by omega,by rw[<-z,Ag (by simpa using h)]⟩⟩;rw[Al (by simpa using h)] at z;exact z
 .rw[Ee (by omega),B0] at z;exact z
def ContVS.ar:List PK->Option ((List Int)×AE)
 |[.val (.sl _ _ O),.val (.fn 133 [] [.ref z])]=>(AX Ch O).bind λQ=>(AE.d (z.take 2)).bind λG=>some (Q,G)
 |_=>none
def ContVS.ae(a:(List Int)×AE):List PK:=[.val (.sl false 1 (a.1.map Af)),.val (.fn 133 [] [.ref (AE.c a.2)])]
def ContVS.le: ∀G a,ContVS.ar G=some a->BY G (ContVS.ae a):=by
 intro G a h;unfold ContVS.ar at h;split at h
 .simp only[Fi,AO] at h;obtain⟨Q,h0,O,z,rfl⟩:=h;exact⟨Fh (EZ Dj _ _ h0) (by simp only[BF];rintro r ⟨y,_,rfl⟩;rfl),Wr ⟨aY (HO.trans_take (AE.d_le _ _ z)),trivial⟩,trivial⟩
 .cases h
def ContVS.fv(a:(List Int)×AE):Bool:=(λl s=>l.any (λg=> !Bj g 0 s.Glues.length)) (a.1) (a.2)
def ContVS.row:AG:=Ff ContVS.ar (λa=>True) (λa=>(D.bool) (ContVS.fv a))
def ContVS.q:=vq ContVS.row rfl
def ContVS.ok:AJ 67 ContVS.row:=by
 refine aG D3 (tC IdxVS.ok tN) Tryz.func67 rfl (by kernel_rfl) (by kernel_rfl) (ar:=ContVS.ar) (ae:=ContVS.ae) ContVS.le (n:=2) (λ_=>rfl) (by decide) (rc:=(Re)) (re:=(D.bool)) (eP) (f:=ContVS.fv) ?_;intro a z;simp only[Tryz.f67,Option.getD];simp only[ZZ,simprocAttr,Ab,ContVS.ae,ContVS.fv,IdxVS.q,IdxVS.ar,IdxVS.fv];exact vL _ _
def Oz(z:List ByteArray):List (D×D):=z.map λn=>(.str n,.bool true)
def xJ(n m:ByteArray):(n==m)=decide (n=m):=by
 rw[bH]
def MH(n:ByteArray): ∀(z:List ByteArray),(n∈z->lk (Oz z) (.str n)=some (.bool true))/\(n∉z->lk (Oz z) (.str n)=none)
 |[]=>⟨λh=>by simp at h,λ_=>rfl⟩
 |m::r=>by
  obtain⟨G,O⟩:=MH n r;simp only[Oz] at G O;simp only[Oz,Bf,lk,D.beq,Bw,xJ];by_cases h:n=m
  .simp[h]
  .simp only[h,Zfh,Cy,false_or];exact⟨G,O⟩
def Qum(n:ByteArray)(G:List ByteArray)(Ks:D->Prop)(Kn:Prop):FW (Oz G) (.str n) Ks Kn=((n∈G->Ks (.bool true))/\(n∉G->Kn)):=by
 obtain⟨Z,i2⟩:=MH n G;apply propext;unfold FW;constructor
 .rintro⟨O,Q⟩;exact⟨λh=>O _ (Z h),λh=>Q (i2 h)⟩
 .rintro⟨O,Q⟩;by_cases h:n∈G
  .refine⟨λv z=> ?_,λz=> ?_⟩
   .rw[Z h] at z;exact AC z▸O h
   .rw[Z h] at z;cases z
  .refine⟨λv z=> ?_,λ_=>Q h⟩;rw[i2 h] at z;cases z
def Qru(n:ByteArray): ∀(z:List ByteArray),n∉z->Eg (Oz z) (.str n) (.bool true)=Oz (z++[n])
 |[],_=>rfl
 |m::r,h=>by
  simp only[Bw,XV] at h
  have:=Qru n r h.2
  simp only[Oz] at this;simp only[Oz,Bf,Eg,D.beq,xJ,h.1,Zfh,Cy,Ci,this]
def oY{A:Type}(f:A->ByteArray)(l:List A)(k:Nat)(x:A)(hx:l[k]? =some x):B0 (λy=>decide (f y=f x)) 0 l=(k:Int)↔f x∉(l.take k).map f:=by
 constructor
 .intro h hm;obtain⟨y,hy,O⟩:=BF.1 hm;obtain⟨i,Q,aa⟩:=hC.1 hy;have ab:i<k:=by simp at Q;omega
  have Z:l[i]? =some y:=by
   rw[<-aa,List.getElem_take];exact BB _
  have G: ∀(l:List A) (o i:Nat) (y:A),l[i]? =some y->(decide (f y=f x))=true->B0 (λy=>decide (f y=f x)) o l<=((o+i:Nat):Int):=by
   intro l;induction l with
   |nil=>intro o i y h;simp at h
   |cons z r ih=>
    intro o i y h hp;simp only[B0];split
    .omega
    .rename_i hz;cases i with
     |zero=>
      simp only[Hn,AO] at h;subst h;exact absurd hp hz
     |succ i=>
      have:=ih (o+1) i y (by simpa using h) hp
      omega
  have:=G l 0 i y Z (by simpa using O)
  omega
 .intro h;rw[Qtf _ l 0 k x hx (by simp) ?_]
  .simp
  .intro i y Q hy;simp only[Jk];intro O;apply h;rw[<-O];refine BF.2 ⟨y,?_,rfl⟩;exact Bh (i:=i) (by rw[bU,Al Q];exact hy)
def R2(s:AE):Prop:=(∀g∈s.Glues,g.Name.size<=140737488355328)/\ ∀t∈s.Tiles,t.Name.size<=140737488355328
def ValidSet_.fv(a:AE):Bool:=(FO) a
def ValidSet_.row:AG:=vK (b1 (qR AE.d_le)) rB (λa=>R2 a) ValidSet_.fv
def ValidSet_.q:=B3 (R:=ValidSet_.row) rfl
def wD:=J @ValidSet_.fv.eq_1<|J @within_.q<|J @within_.fv.eq_1<|J @impl_IsName.q<|J @impl_IsName.fv.eq_1<|J @ContVS.q @ContVS.fv.eq_1
def ValidSet_.ok:AJ 98 ValidSet_.row:=by
 refine vw (tC within_.ok (tC impl_IsName.ok (tC ContVS.ok tN))) Tryz.func98 ?_;intro a ab;simp only[Tryz.f98,Option.getD];simp only[ZZ,simprocAttr,Ab,wD,ContVS.ar];obtain⟨ad,af⟩:=ab;intro hg;simp only[AS];refine⟨λc1 ht=>⟨λc2=> ?_,λc2 _=> ?_⟩,λc1=> ?_⟩
 .simp[FO,c2]
 .rw[Jg] at c2;have c0:FO a=(L6 a 0 a.Glues && JY a 0 a.Tiles):=by
   have e1:a.Glues.length<=200:=by omega
   simp[FO,e1,c2]
  refine AZ.old ⟨{k:Nat//k<=a.Glues.length/\L6 a k (a.Glues.drop k)=L6 a 0 a.Glues},λk=>⟨[(24,.im (.int .i64 k.1)),(23,.im (.int .i64 a.Glues.length)),(22,.im (.sl false 2 (a.Glues.map Ak.c))),(3,.mp 1),(1,.ptr 0 0),(2,.im (.bool false))],[(1,(true,.map ⟨false,[.str]⟩ (Oz ((a.Glues.take k.1).map Ak.Name)))),(0,(true,.cells 37 ((AE.c a).map .im)))],2⟩,λk=>a.Glues.length - k.1,λk=>⟨by simp[ZG,AE.c],AU _⟩,⟨⟨0,by simp⟩,by simp only[ZZ,simprocAttr,Ab,wD,ContVS.ar,sub,Oz,Hp]⟩,λk=> ?_⟩;obtain⟨k,ac,z⟩:=k;simp only[ZZ,simprocAttr,Ab,wD,ContVS.ar,sub,AS,Qum];refine⟨λhk=>⟨hk,λx Q=>⟨ad x (Bh Q),?_⟩⟩,λhk _=> ?_⟩
  .rw[GQ Q,L6] at z;have hu:=oY Ak.Name a.Glues k x Q;have G:(IZ x.Name && (Bj x.Strength 1 4 && decide (B0 (λg:Ak=>decide (g.Name=x.Name)) 0 a.Glues=k)))=false->false=FO a:=by
    intro h;rw[h,FT] at z;rw[c0,<-z];rfl
   refine⟨λZ=>⟨λO=>G ?_,λO=>⟨λh3=>G (by simp[h3]),λh3=>⟨⟨k+1,by omega,?_⟩,by simp only;omega,?_,?_⟩⟩⟩,λZ=>G (by simp[Z])⟩
   .simp only[ZdC,Jk];exact .inr (.inr λh9=>(hu.1 h9) O)
   .rw[Jg] at h3;rw[Z,h3,hu.2 O] at z;simpa using z
   .rw[AH (by omega) (by omega)];simp only;omega
   .rw[Qru _ _ O,Ji,Q];simp
  .rw[Ee (by omega),L6] at z;have c9:FO a=JY a 0 a.Tiles:=by rw[c0,<-z,ED]
   refine AZ.frz [0] ⟨{k:Nat//k<=a.Tiles.length/\JY a k (a.Tiles.drop k)=JY a 0 a.Tiles},λk=>⟨[(52,.im (.int .i64 k.1)),(51,.im (.int .i64 a.Tiles.length)),(50,.im (.sl false 2 (a.Tiles.map Tile.c))),(6,.mp 2),(1,.ptr 0 0),(2,.im (.bool false))],[(2,(true,.map ⟨false,[.str]⟩ (Oz ((a.Tiles.take k.1).map Tile.Name)))),(0,(false,.cells 37 ((AE.c a).map .im)))],3⟩,λk=>a.Tiles.length - k.1,λk=>⟨by simp[ZG,AE.c],AU _⟩,⟨⟨0,by simp⟩,by simp only[ZZ,simprocAttr,Ab,wD,ContVS.ar,sub,Oz,Hp]⟩,λk=> ?_⟩;obtain⟨k,ac,z⟩:=k;simp only[ZZ,simprocAttr,Ab,wD,ContVS.ar,sub,AS,Qum];refine⟨λhk=>⟨hk,λx Q=>⟨af x (Bh Q),?_⟩⟩,λhk=> ?_⟩
   .rw[GQ Q,JY] at z;have hu:=oY Tile.Name a.Tiles k x Q;have G:(IZ x.Name && (decide (x.Sides.length=4) && (decide (B0 (λy:Tile=>decide (y.Name=x.Name)) 0 a.Tiles=k) && x.Sides.all (λg=>Bj g 0 a.Glues.length))))=false->false=FO a:=by
     intro h;rw[h,FT] at z;rw[c9,<-z]
    have aa:(x.Sides.any λg=> !Bj g 0 a.Glues.length)= !x.Sides.all (λg=>Bj g 0 a.Glues.length):=by
     simp[List.not_all_eq_any_not]
    rw[aa];refine⟨λZ=>⟨λO=>G ?_,λO _=>⟨λh3=>G ?_,λh3=>⟨λh4=>G ?_,λh4=>⟨⟨k+1,by omega,?_⟩,by simp only;omega,?_,?_⟩⟩⟩⟩,λZ=>G (by simp[Z])⟩
    .simp only[ZdC,Jk];exact .inr (.inr (.inl λh9=>(hu.1 h9) O))
    .have: ¬x.Sides.length=4:=by omega
     simp[this]
    .simp only[LL] at h4;simp only[h4,nT]
    .have h5:x.Sides.length=4:=by omega
     simp only[LL,Jg] at h4;rw[Z,h5,hu.2 O,h4] at z;simpa using z
    .rw[AH (by omega) (by omega)];simp only;omega
    .rw[Qru _ _ O,Ji,Q];simp
   .rw[Ee (by omega),JY] at z;rw[c9,<-z]
 .have: ¬a.Glues.length<=200:=by omega
  simp[FO,this]
def HA(s:AE)(a:Ao):Bool:=(Ed none a.Tiles && decide (a.Tiles.length<=500)) && a.Tiles.all (λx=>Bj x.Tile 0 (s.Tiles.length - 1))
def ValidAssembly_.fv(a:AE×Ao):Bool:=(λs a=>FO s && HA s a) (a.1) (a.2)
def ValidAssembly_.row:AG:=vK (b2 (qR AE.d_le) (qR Ao.d_le)) rB (λa=>R2 a.1) ValidAssembly_.fv
def ValidAssembly_.q:=B3 (R:=ValidAssembly_.row) rfl
def ValidAssembly_.ok:AJ 72 ValidAssembly_.row:=by
 refine vw (tC ValidSet_.ok (tC hasForm_.ok (tC ContVA.ok tN))) Tryz.func72 ?_;intro a z;simp only[Tryz.f72,Option.getD];simp only[ZZ,simprocAttr,Ab,ValidAssembly_.fv,ValidSet_.q,ValidSet_.fv,hasForm_.q,hasForm_.fv,ContVA.q,ContVA.ar,ContVA.fv];refine⟨z,?_⟩
 split<;>rename_i O
 .split<;>rename_i G
  .simp[O,HA,G.1,G.2,List.not_any_eq_all_not]
  .have Q:(Ed none a.2.Tiles && decide (a.2.Tiles.length<=500))=false:=by
    rw[QL];intro h;simp only[Bc,C7] at h;exact G h
   simp[HA,Q]
 .simp[O]
def comparePlaced.fv(a:Aq×Ad):Int:=(λa p=>Q8 [FF a.At.Y p.Y,FF a.At.X p.X]) (a.1) (a.2)
def comparePlaced.row:AG:=vK (b2 (qR Aq.d_le) (qR Ad.d_le)) rI (λa=>True) comparePlaced.fv
def comparePlaced.q:=B3 (R:=comparePlaced.row) rfl
def comparePlaced.ok:AJ 104 comparePlaced.row:=by
 refine vw (tC comparePoints.ok tN) Tryz.func104 ?_;intro a z;simp only[Tryz.f104,Option.getD];simp only[ZZ,simprocAttr,Ab,comparePlaced.fv,comparePoints.q,comparePoints.fv]
def Ik(l:List Aq)(p:Ad):Nat:=(l.takeWhile (λx=>Bv x.At p)).length
def Qyx(p:Ad): ∀(l:List Aq) (lo:Nat),lo<=l.length->(∀(i:Nat) (x:Aq),i<lo->l[i]? =some x->Bv x.At p=true)->(∀(i:Nat) (x:Aq),lo<=i->l[i]? =some x->Bv x.At p=false)->Ik l p=lo
 |[],lo,h,_,_=>by simp at h;simp[Ik,h]
 |x::r,0,_,_,h=>by
  have:=h 0 x (by omega) (by simp)
  simp[Ik,bT,this]
 |x::r,lo+1,hl,G,Q=>by
  have Z:=G 0 x (by omega) (by simp);have O:=Qyx p r lo (by simpa using hl) (λi y hi z=>G (i+1) y (by omega) (by simpa using z)) (λi y hi z=>Q (i+1) y (by omega) (by simpa using z));simp only[Ik] at O;simp[Ik,bT,Z,O]
def St(a b:Ad):(Q8 [FF a.Y b.Y,FF a.X b.X]<0)↔Bv a b=true:=by
 simp only[Bv,Q8,FF]
 grind
def iV(a b:Ad):(Q8 [FF a.Y b.Y,FF a.X b.X]=0)↔a=b:=by
 obtain⟨x,y⟩:=a;obtain⟨z,w⟩:=b;simp only[Q8,FF,Ad.mk.injEq]
 grind
def midU(lo z:Nat)(h:lo+z<=562949953421312):IntKind.wrap .i64 ((IntKind.wrap .u64 (IntKind.wrap .i64 ((lo:Int)+z))).fdiv (2^min 1 IntKind.u64.bits))=(((lo+z)/2:Nat):Int):=by
 rw[AH (x:=(lo:Int)+z) (by omega) (by omega)];have G:IntKind.wrap .u64 ((lo:Int)+z)=(lo:Int)+z:=by
  simp only[IntKind.wrap,IntKind.signed,IntKind.bits];simp;omega
 have O:(2:Int)^min 1 IntKind.u64.bits=2:=by decide
 rw[G,O,ZeB _ (by omega),AH (by omega) (by omega)];omega
def BinP.ar:List PK->Option ((List Aq)×Ad×Unit)
 |[.val (.sl _ _ z),.val (.agg G),.val (.fn 104 [] [])]=>(AX Aq.d z).bind λO=>(Ad.d G).bind λQ=>some (O,Q,())
 |_=>none
def BinP.ae(a:(List Aq)×Ad×Unit):List PK:=[.val (.sl false 3 (a.1.map Aq.c)),.val (.agg (Ad.c a.2.1)),.val (.fn 104 [] [])]
def BinP.le: ∀z a,BinP.ar z=some a->BY z (BinP.ae a):=by
 intro z a h;unfold BinP.ar at h;split at h
 .simp only[Fi,AO] at h;obtain⟨O,h0,Q,G,rfl⟩:=h;exact⟨Fh (EZ Aq.d_le _ _ h0) (by simp only[BF];rintro r ⟨y,_,rfl⟩;rfl),aH (Ad.d_le _ _ G),C9.refl _,trivial⟩
 .cases h
def BinP.fv(a:(List Aq)×Ad×Unit):Int×Bool:=(λl p _=>((Ik l p:Int),l.any (λx=>decide (x.At=p)))) (a.1) (a.2.1) (a.2.2)
def BinP.row:AG:=Ff BinP.ar (λa=>Ed none a.1=true) (λa=>(λb=>D.tup [(D.int .i64) (b.1),(D.bool) (b.2)]) (BinP.fv a))
def BinP.q:=vq BinP.row rfl
def Yaj:=J @BinP.ae.eq_1<|J @BinP.fv.eq_1<|J @comparePlaced.q @comparePlaced.fv.eq_1
def BinP.ok:AJ 103 BinP.row:=by
 refine aG D3 (tC comparePlaced.ok tN) Tryz.func103 rfl (by kernel_rfl) (by kernel_rfl) (ar:=BinP.ar) (ae:=BinP.ae) BinP.le (n:=3) (λ_=>rfl) (by decide) (rc:=(lX (DG) (Re))) (re:=(λb=>D.tup [(D.int .i64) (b.1),(D.bool) (b.2)])) (Qbz (Q2) (eP)) (f:=BinP.fv) ?_;intro a af;simp only[Tryz.f103,Option.getD];simp only[ZZ,simprocAttr,Ab,Yaj];intro hn;refine AZ.old ⟨{p:Nat×Nat//p.1<=p.2/\p.2<=a.1.length/\(∀i x,i<p.1->a.1[i]? =some x->Bv x.At a.2.1=true)/\(∀i x,p.2<=i->a.1[i]? =some x->Bv x.At a.2.1=false)},λp=>⟨[(9,.im (.int .i64 p.1.1)),(10,.im (.int .i64 p.1.2)),(8,.im (.int .i64 a.1.length)),(6,.im (.int .i64 0)),(7,.im (.bool false)),(4,.ptr 0 0),(0,.im (.sl false 3 (a.1.map Aq.c))),(2,.im (.fn 104 [] []))],[(0,(true,.cells 62 [.im (.int .i64 a.2.1.X),.im (.int .i64 a.2.1.Y)]))],1⟩,λp=>p.1.2 - p.1.1,λp=>⟨by simp[ZG],AU _⟩,⟨⟨(0,a.1.length),by simp,by simp,by simp,?_⟩,by simp only[ZZ,simprocAttr,Ab,Yaj,sub]⟩,λp=> ?_⟩
 .intro i x hi Q
  have:=(CL.1 Q).1
  simp only at hi;omega
 obtain⟨⟨lo,hi⟩,h1,h2,h3,h4⟩:=p;simp only at h1 h2 h3 h4;simp only[ZZ,simprocAttr,Ab,Yaj,sub,AS];obtain⟨_,O⟩:=lR _ _ af;have ad: ∀(i:Nat) (x:Aq),i<lo->a.1[i]? =some x->x.At≠a.2.1:=by
  intro i x hi Q he
  have:=h3 i x hi Q
  rw[he,uC] at this;cases this
 rw[midU lo hi (by omega)];simp only[St,iV];refine⟨λag=> ?_,λag=>⟨λhl=>⟨hl,λx Q=> ?_⟩,λhl=> ?_⟩⟩
 .refine⟨by omega,by omega,λx Q=>⟨λhb=> ?_,λhb=> ?_⟩⟩
  .rw[B5] at Q;refine⟨⟨((lo+hi)/2+1,hi),by simp only;omega,h2,λi y G Z=> ?_,h4⟩,by simp only;omega,?_,rfl⟩
   .simp only at G;rcases FR i ((lo+hi)/2) with h|h
    .exact lU (O i _ y x h Z Q) hb
    .have:i=(lo+hi)/2:=by omega
     subst this;rw[Q] at Z;exact AC Z▸hb
   .rw[AH (by omega) (by omega)];simp only;omega
  .rw[B5] at Q;refine⟨⟨(lo,(lo+hi)/2),by simp only;omega,by simp only;omega,h3,λi y G Z=> ?_⟩,by simp only;omega,rfl,rfl⟩;simp only at G;rcases FR ((lo+hi)/2) i with h|h
   .cases hl:Bv y.At a.2.1 with
    |false=>rfl
    |true=>exact absurd (lU (O _ i x y h Q Z) hl) hb
   .have:i=(lo+hi)/2:=by omega
    subst this;rw[Q] at Z;obtain rfl:=AC Z;simpa using hb
 .have aa:=Qyx a.2.1 a.1 lo (by omega) h3 (λi y G Z=>h4 i y (by omega) Z);refine⟨by rw[aa],?_⟩;rw[iJ];simp only[C7,wN];refine⟨λhe=>⟨x,Bh Q,he⟩,?_⟩;rintro⟨y,Z,he⟩;obtain⟨i,G,ac⟩:=hC.1 Z;have z:a.1[i]? =some y:=by rw[BB G,ac]
  rcases wM i lo with h|h|h
  .exact absurd he (ad i y h z)
  .subst h;rw[Q] at z;exact AC z▸he
  .have ab:=O lo i x y h Q z;rw[he] at ab
   have:=h4 lo x (by omega) Q
   rw[this] at ab;cases ab
 .have aa:=Qyx a.2.1 a.1 lo (by omega) h3 (λi y G Z=>h4 i y (by omega) Z);refine⟨by rw[aa],?_⟩;symm;simp only[List.any_eq_false,C7];intro y Z he;obtain⟨i,G,ac⟩:=hC.1 Z;have z:a.1[i]? =some y:=by rw[BB G,ac]
  exact ad i y (by omega) z he
def OM{l:List Aq}{p:Ad}(h:Ed none l=true){i:Nat}{x:Aq}(O:l[i]? =some x)(Q:x.At=p):Ik l p=i:=by
 obtain⟨_,z⟩:=lR _ _ h;have hi:=(CL.1 O).1;refine Qyx p l i (by omega) (λj y hj G=> ?_) (λj y hj G=> ?_)
 .have:=z j i y x hj G O
  rwa [Q] at this
 .rcases FR i j with Z|Z
  .have h2:=z i j x y Z O G;rw[Q] at h2;cases h3:Bv y.At p with
   |false=>rfl
   |true=>
    have:=lU h2 h3
    rw[uC] at this;cases this
  .have:j=i:=by omega
   subst this;rw[O] at G;obtain rfl:=AC G;rw[Q,uC]
def Qz4{l:List Aq}{p:Ad}(h:Ed none l=true):(l.any (λx=>decide (x.At=p))=true/\ ∃x,l[Ik l p]? =some x/\x.At=p/\l.find? (λx=>decide (x.At=p))=some x/\B0 (λx=>decide (x.At=p)) 0 l=(Ik l p:Int))\/
 (l.any (λx=>decide (x.At=p))=false/\l.find? (λx=>decide (x.At=p))=none/\B0 (λx=>decide (x.At=p)) 0 l= -1):=by
 rcases aP (λx=>decide (x.At=p)) l 0 with ⟨z,G⟩|⟨i,x,z,G,O⟩
 .refine .inr ⟨?_,z,G⟩;simpa[wL] using z
 .have Q:x.At=p:=by simpa using nS z
  have Z:=OM h O Q;refine .inl ⟨?_,x,by rw[Z];exact O,Q,z,by rw[G,Z,FS]⟩;simp only[wN,C7];exact⟨x,Bh O,Q⟩
def at_.fv(a:Ao×Ad):Int:=(BM) (a.1) (a.2)
def at_.row:AG:=vK (b2 (qR Ao.d_le) (qR Ad.d_le)) rI (λa=>Ed none a.1.Tiles=true) at_.fv
def at_.q:=B3 (R:=at_.row) rfl
def at_.ok:AJ 73 at_.row:=by
 refine vw (tC BinP.ok tN) Tryz.func73 ?_;intro a z;simp only[Tryz.f73,Option.getD];simp only[ZZ,simprocAttr,Ab,at_.fv,BinP.q,BinP.ar,BinP.fv];refine⟨z,?_⟩;rcases Qz4 (p:=a.2) z with ⟨O,x,G,Z,h4,h5⟩|⟨O,G,Z⟩
 .rw[Al O];refine⟨(CL.1 G).1,λy Q=> ?_⟩;rw[G] at Q;obtain rfl:=AC Q;simp[BM,h4]
 .rw[O,Ag (by simp)];simp[BM,G]
def placeAt.rc:D->Option (Int):=DG
def placeAt.re:Int->D:=D.int .i64
def placeAt.rle: ∀d b,placeAt.rc d=some b->Le d (placeAt.re b):=Q2
def placeAt.ar:List PK->Option (Ao×Ad):=a2 (kR Ao.d) (kR Ad.d)
def placeAt.fv(a:Ao×Ad):Int:=(λa p=>B0 (λx=>decide (x.At=p)) 0 a.Tiles) (a.1) (a.2)
def placeAt.row:AG:=vK (b2 (qR Ao.d_le) (qR Ad.d_le)) (RK.mk placeAt.rc placeAt.re placeAt.rle) (λa=>Ed none a.1.Tiles=true) placeAt.fv
def placeAt.q:=B3 (R:=placeAt.row) rfl
def placeAt.ok:AJ 173 placeAt.row:=by
 refine vw (tC BinP.ok tN) Tryz.func173 ?_;intro a z;simp only[Tryz.f173,Option.getD];simp only[ZZ,simprocAttr,Ab,placeAt.fv,placeAt.rc,BinP.q,BinP.ar,BinP.fv];refine⟨z,?_⟩;rcases Qz4 (p:=a.2) z with ⟨G,x,Q,O,h4,Z⟩|⟨G,Q,O⟩
 .rw[Al G,Z]
 .rw[G,Ag (by simp),O]
def BP{β:Type}:List (Ad×β)->Ad->Option β
 |[],_=>none
 |(k,v)::r,p=>if p=k then some v else BP r p
def Lq(p q:Ad):D.beql (Ad.c p) (Ad.c q)=decide (p=q):=by
 cases p;cases q;simp only[Ad.c,D.beql,D.beq,Ad.mk.injEq,EL];rw[iJ];simp
def cP{β:Type}(e:Ad×β->D×D)(g:β->D)(z: ∀p,e p=(.agg (Ad.c p.1),g p.2))(x y:Int): ∀(l:List (Ad×β)),lk (l.map e) (.agg [.int .i64 x,.int .i64 y])=(BP l ⟨x,y⟩).map g
 |[]=>rfl
 |q::r=>by
  have G:D.beq (.agg [.int .i64 x,.int .i64 y]) (.agg (Ad.c q.1))=decide ((⟨x,y⟩:Ad)=q.1):=Lq ⟨x,y⟩ q.1;obtain⟨k,v⟩:=q;simp only[Bf,z,lk,BP,G];by_cases h:(⟨x,y⟩:Ad)=k
  .simp[h]
  .simp[h,cP e g z x y r]
def ME{β:Type}(e:Ad×β->D×D)(g:β->D)(Q: ∀p,e p=(.agg (Ad.c p.1),g p.2))(x y:Int)(l:List (Ad×β))(Ks:D->Prop)(Kn:Prop):
 FW (l.map e) (.agg [.int .i64 x,.int .i64 y]) Ks Kn=((∀v,BP l ⟨x,y⟩=some v->Ks (g v))/\(BP l ⟨x,y⟩=none->Kn)):=by
 apply propext;unfold FW;rw[cP e g Q];constructor
 .rintro⟨G,O⟩;exact⟨λv z=>G _ (by rw[z];rfl),λh=>O (by rw[h];rfl)⟩
 .rintro⟨G,O⟩;refine⟨λv z=> ?_,λh=>O (by simpa using h)⟩;simp only[Da] at z;obtain⟨w,Z,rfl⟩:=z;exact G w Z
def YN(x y:Int)(l:List (Ad×Int))(Ks:D->Prop)(Kn:Prop):FW (l.map Fg) (.agg [.int .i64 x,.int .i64 y]) Ks Kn=((∀v,BP l ⟨x,y⟩=some v->Ks (.int .i64 v))/\(BP l ⟨x,y⟩=none->Kn)):=
 ME Fg (.int .i64) (λ_=>rfl) x y l Ks Kn
def YO(x y:Int)(l:List (Ad×List Int))(Ks:D->Prop)(Kn:Prop):FW (l.map D9) (.agg [.int .i64 x,.int .i64 y]) Ks Kn=((∀v,BP l ⟨x,y⟩=some v->Ks (.sl false 1 (v.map Af)))/\(BP l ⟨x,y⟩=none->Kn)):=
 ME D9 (λv=> .sl false 1 (v.map Af)) (λ_=>rfl) x y l Ks Kn
def Dl(l:List (Ad×Int))(p:Ad):Int:=(BP l p).getD (-1)
def catC.fv(a:Cw×Ad):Int:=(λc p=>Dl c.Tl p) (a.1) (a.2)
def catC.row:AG:=CY (b2 (qP 6 Cw.d_le) (qR Ad.d_le)) rI (λa=>True) catC.fv
def catC.q:=CD (R:=catC.row) rfl
def catC.ok:AJ 155 catC.row:=by
 refine FM tN Tryz.func155 ?_;intro a G;simp only[Tryz.f155,Option.getD];simp only[ZZ,simprocAttr,Ab,catC.fv,BD,D.sc,D.scs,B6,AP];simp only[ZZ,simprocAttr,Ab,catC.fv,BD,D.sc,D.scs,B6,AP,YN];simp only[Dl];exact⟨λv z=>by rw[show BP a.1.Tl a.2=some v from z];rfl,λz=>by rw[show BP a.1.Tl a.2=none from z];rfl⟩
def QD(s:AE)(f:Ad->Int)(p:Ad)(t:Int)(d:Int):Int:=if 0<=f (CF p d) then LC s t d (f (CF p d)) else 0
def F3(s:AE)(f:Ad->Int)(p:Ad)(t:Int):Nat->Int
 |0=>0
 |k+1=>F3 s f p t k+QD s f p t k
def LR(s:AE)(a:Ao)(p:Ad)(t:Int): ∀k,F3 s (BM a) p t k=LS s a p t k
 |0=>rfl
 |k+1=>by simp only[F3,LS,LR s a p t k];rfl
def cJ(s:AE)(f:Ad->Int):Prop:= ∀p,0<=f p->GO s (f p)
def Qxd{s:AE}(h:C5 s)(f:Ad->Int)(p:Ad)(t d:Int):0<=QD s f p t d/\QD s f p t d<=4:=by
 simp only[QD,LC];split
 .split
  .exact Qp1 h _
  .omega
 .omega
def Qwy{s:AE}(h:C5 s)(f:Ad->Int)(p:Ad)(t:Int): ∀(k:Nat),0<=F3 s f p t k/\F3 s f p t k<=4*k
 |0=>by simp[F3]
 |k+1=>by
  have z:=Qwy h f p t k;have G:=Qxd h f p t k;simp only[F3];omega
def bindC.ar:List PK->Option (AE×Ad×Int×Cw)
 |[.val (.agg z),.val (.agg G),.val (.int .i64 O),.val (.fn 155 [.ref Q] [])]=>(AE.d z).bind λZ=>(Ad.d G).bind λy1=>(Cw.d (Q.take 6)).bind λy3=>some (Z,y1,O,y3)
 |_=>none
def bindC.ae(a:AE×Ad×Int×Cw):List PK:=[.val (.agg (AE.c a.1)),.val (.agg (Ad.c a.2.1)),.val (.int .i64 a.2.2.1),.val (.fn 155 [.ref (Cw.c a.2.2.2)] [])]
def bindC.le: ∀z a,bindC.ar z=some a->BY z (bindC.ae a):=by
 intro z a h;unfold bindC.ar at h;split at h
 .simp only[Fi,AO] at h;obtain⟨Q,h0,Z,G,y3,O,rfl⟩:=h;exact⟨aH (AE.d_le _ _ h0),aH (Ad.d_le _ _ G),C9.refl _,TR ⟨aY (HO.trans_take (Cw.d_le _ _ O)),trivial⟩,trivial⟩
 .cases h
def bindC.fv(a:AE×Ad×Int×Cw):Int:=(λs p t c=>F3 s (Dl c.Tl) p t 4) (a.1) (a.2.1) (a.2.2.1) (a.2.2.2)
def bindC.row:AG:=LB bindC.ar (λa=>C5 a.1/\cJ a.1 (Dl a.2.2.2.Tl)/\I7 a.2.1/\GO a.1 a.2.2.1) (λa=>(D.int .i64) (bindC.fv a))
def bindC.q:=oM bindC.row rfl
def Yak:=J @bindC.ae.eq_1<|J @bindC.fv.eq_1<|J @step_.q<|J @step_.fv.eq_1<|J @step_.re.eq_1<|J @bond_.q<|J @bond_.fv.eq_1<|J @bond_.re.eq_1<|J @catC.q @catC.fv.eq_1
def bindC.ok:AJ 156 bindC.row:=by
 refine lP D3 (tC step_.ok (tC bond_.ok (tC catC.ok tN))) Tryz.func156 rfl (by kernel_rfl) (by kernel_rfl) (ar:=bindC.ar) (ae:=bindC.ae) bindC.le (n:=4) (λ_=>rfl) (by decide) (rc:=(DG)) (re:=(D.int .i64)) (Q2) (f:=bindC.fv) ?_;intro a z;simp only[Tryz.f156,Option.getD];simp only[ZZ,simprocAttr,Ab,Yak,BD,D.sc,D.scs,B6,AP];obtain⟨G,O,Q,Z⟩:=z;refine AZ.old ⟨{k:Nat//k<=4},λk=>⟨[(12,.im (.int .i64 k.1)),(9,.im (.int .i64 (F3 a.1 (Dl a.2.2.2.Tl) a.2.1 a.2.2.1 k.1))),(8,.im (.int .i64 0)),(5,.ptr 1 0),(4,.ptr 0 0),(2,.im (.int .i64 a.2.2.1)),(3,.im (.fn 155 [.ref (Cw.c a.2.2.2)] []))],[(1,(true,.cells 62 [.im (.int .i64 a.2.1.X),.im (.int .i64 a.2.1.Y)])),(0,(true,.cells 37 ((AE.c a.1).map .im)))],2⟩,λk=>4 - k.1,λk=>⟨by simp[ZG,AE.c],AU _⟩,⟨⟨0,by simp⟩,by simp only[ZZ,simprocAttr,Ab,Yak,BD,D.sc,D.scs,B6,AP,sub,F3]⟩,λk=> ?_⟩;obtain⟨k,aa⟩:=k;simp only[ZZ,simprocAttr,Ab,Yak,BD,D.sc,D.scs,B6,AP,sub,AS];have hb:=Qwy G (Dl a.2.2.2.Tl) a.2.1 a.2.2.1 k;have ht:=Qxd G (Dl a.2.2.2.Tl) a.2.1 a.2.2.1 k;refine⟨λhk=>⟨⟨Q,by omega⟩,λhp=>⟨⟨G,Z,⟨by omega,by omega⟩,O _ hp⟩,⟨⟨k+1,by omega⟩,by simp only;omega,?_,?_⟩⟩,λhp=>⟨⟨k+1,by omega⟩,by simp only;omega,?_,?_⟩⟩,λhk=> ?_⟩
 .rw[AH (by omega) (by omega)];simp only;omega
 .simp only[F3];simp only[QD,Al hp] at ht⊢;rw[AH (by omega) (by omega)]
 .rw[AH (by omega) (by omega)];simp only;omega
 .simp only[F3,QD,Ag hp];omega
 .have:k=4:=by omega
  rw[this]
def bindA.ar:List PK->Option (AE×Ad×Int×Ao)
 |[.val (.agg z),.val (.agg G),.val (.int .i64 O),.val (.fn 73 [.agg Q] [])]=>(AE.d z).bind λZ=>(Ad.d G).bind λy1=>(Ao.d Q).bind λy3=>some (Z,y1,O,y3)
 |_=>none
def bindA.ae(a:AE×Ad×Int×Ao):List PK:=[.val (.agg (AE.c a.1)),.val (.agg (Ad.c a.2.1)),.val (.int .i64 a.2.2.1),.val (.fn 73 [.agg (Ao.c a.2.2.2)] [])]
def bindA.le: ∀z a,bindA.ar z=some a->BY z (bindA.ae a):=by
 intro z a h;unfold bindA.ar at h;split at h
 .simp only[Fi,AO] at h;obtain⟨Q,h0,Z,G,y3,O,rfl⟩:=h;exact⟨aH (AE.d_le _ _ h0),aH (Ad.d_le _ _ G),C9.refl _,TR ⟨aH (Ao.d_le _ _ O),trivial⟩,trivial⟩
 .cases h
def bindA.fv(a:AE×Ad×Int×Ao):Int:=(λs p t c=>F3 s (BM c) p t 4) (a.1) (a.2.1) (a.2.2.1) (a.2.2.2)
def bindA.row:AG:=LB bindA.ar (λa=>C5 a.1/\cJ a.1 (BM a.2.2.2)/\I7 a.2.1/\GO a.1 a.2.2.1/\Ed none a.2.2.2.Tiles=true) (λa=>(D.int .i64) (bindA.fv a))
def bindA.q:=oM bindA.row rfl
def Yal:=J @bindA.ae.eq_1<|J @bindA.fv.eq_1<|J @step_.q<|J @step_.fv.eq_1<|J @step_.re.eq_1<|J @bond_.q<|J @bond_.fv.eq_1<|J @bond_.re.eq_1<|J @at_.q @at_.fv.eq_1
def bindA.ok:AJ 156 bindA.row:=by
 refine lP D3 (tC step_.ok (tC bond_.ok (tC at_.ok tN))) Tryz.func156 rfl (by kernel_rfl) (by kernel_rfl) (ar:=bindA.ar) (ae:=bindA.ae) bindA.le (n:=4) (λ_=>rfl) (by decide) (rc:=(DG)) (re:=(D.int .i64)) (Q2) (f:=bindA.fv) ?_;intro a z;simp only[Tryz.f156,Option.getD];simp only[ZZ,simprocAttr,Ab,Yal,BD,D.sc,D.scs,B6,AP];obtain⟨G,O,Q,Z,h5⟩:=z;refine AZ.old ⟨{k:Nat//k<=4},λk=>⟨[(12,.im (.int .i64 k.1)),(9,.im (.int .i64 (F3 a.1 (BM a.2.2.2) a.2.1 a.2.2.1 k.1))),(8,.im (.int .i64 0)),(5,.ptr 1 0),(4,.ptr 0 0),(2,.im (.int .i64 a.2.2.1)),(3,.im (.fn 73 [.agg (Ao.c a.2.2.2)] []))],[(1,(true,.cells 62 [.im (.int .i64 a.2.1.X),.im (.int .i64 a.2.1.Y)])),(0,(true,.cells 37 ((AE.c a.1).map .im)))],2⟩,λk=>4 - k.1,λk=>⟨by simp[ZG,AE.c],AU _⟩,⟨⟨0,by simp⟩,by simp only[ZZ,simprocAttr,Ab,Yal,BD,D.sc,D.scs,B6,AP,sub,F3]⟩,λk=> ?_⟩;obtain⟨k,aa⟩:=k;simp only[ZZ,simprocAttr,Ab,Yal,BD,D.sc,D.scs,B6,AP,sub,AS];have hb:=Qwy G (BM a.2.2.2) a.2.1 a.2.2.1 k;have ht:=Qxd G (BM a.2.2.2) a.2.1 a.2.2.1 k;refine⟨λhk=>⟨⟨Q,by omega⟩,h5,λhp=>⟨⟨G,Z,⟨by omega,by omega⟩,O _ hp⟩,⟨⟨k+1,by omega⟩,by simp only;omega,?_,?_⟩⟩,λhp=>⟨⟨k+1,by omega⟩,by simp only;omega,?_,?_⟩⟩,λhk=> ?_⟩
 .rw[AH (by omega) (by omega)];simp only;omega
 .simp only[F3];simp only[QD,Al hp] at ht⊢;rw[AH (by omega) (by omega)]
 .rw[AH (by omega) (by omega)];simp only;omega
 .simp only[F3,QD,Ag hp];omega
 .have:k=4:=by omega
  rw[this]
def binding_.row:AG:=orR bindC.row bindA.row
def binding_.ok:AJ 156 binding_.row:=UA bindC.ok bindA.ok
def O4(s:AF)(f:Ad->Int)(p:Ad)(t:Int):Bool:=F7 p && (decide (f p<0) && decide (s.Temperature<=F3 s.Set f p t 4))
def fitsC.fv(a:Cw×Ad×Int):Bool:=(λc p t=>O4 c.Sys (Dl c.Tl) p t) (a.1) (a.2.1) (a.2.2)
def fitsC.row:AG:=CY (b3 (qP 6 Cw.d_le) (qR Ad.d_le) qI) rB (λa=>C5 a.1.Sys.Set/\cJ a.1.Sys.Set (Dl a.1.Tl)/\GO a.1.Sys.Set a.2.2) fitsC.fv
def fitsC.q:=CD (R:=fitsC.row) rfl
def fitsC.ok:AJ 122 fitsC.row:=by
 refine FM (tC ValidPoint.ok (tC catC.ok (tC binding_.ok tN))) Tryz.func122 ?_;intro a z;simp only[Tryz.f122,Option.getD];simp(disch:=omega)only[ZZ,simprocAttr,Ab,fitsC.fv,ValidPoint.q,ValidPoint.fv,catC.q,catC.fv,binding_.row,orR,bindC.q,bindC.ar,bindC.fv,bindA.q,bindA.ar,bindA.fv,BD,D.sc,D.scs,B6,AP];obtain⟨G,O,Q⟩:=z;cases e1:F7 a.2.1
 .simp[O4,e1]
 .rw[Al rfl]
  split<;>rename_i h
  .exact .inl ⟨⟨G,O,tW e1,Q⟩,by simp[O4,e1,h]⟩
  .simp[O4,e1,h]
def BJ{β:Type}:List (Ad×β)->Ad->β->List (Ad×β)
 |[],p,v=>[(p,v)]
 |(k,w)::r,p,v=>if p=k then (p,v)::r else (k,w)::BJ r p v
def E3{β:Type}:List (Ad×β)->Ad->List (Ad×β)
 |[],_=>[]
 |(k,w)::r,p=>if p=k then r else (k,w)::E3 r p
def L3{β:Type}(e:Ad×β->D×D)(g:β->D)(z: ∀p,e p=(.agg (Ad.c p.1),g p.2))(x y:Int)(v:β): ∀(l:List (Ad×β)),Eg (l.map e) (.agg [.int .i64 x,.int .i64 y]) (g v)=(BJ l ⟨x,y⟩ v).map e
 |[]=>by simp[Eg,BJ,z,Ad.c]
 |q::r=>by
  have G:D.beq (.agg [.int .i64 x,.int .i64 y]) (.agg (Ad.c q.1))=decide ((⟨x,y⟩:Ad)=q.1):=Lq ⟨x,y⟩ q.1;obtain⟨k,w⟩:=q;simp only[Bf,z,Eg,BJ,G];by_cases h:(⟨x,y⟩:Ad)=k
  .simp[h,z,Ad.c];exact⟨by rw[<-h],by rw[<-h]⟩
  .simp[h,z,L3 e g z x y v r]
def SD{β:Type}(e:Ad×β->D×D)(g:β->D)(z: ∀p,e p=(.agg (Ad.c p.1),g p.2))(x y:Int): ∀(l:List (Ad×β)),Ju (l.map e) (.agg [.int .i64 x,.int .i64 y])=(E3 l ⟨x,y⟩).map e
 |[]=>rfl
 |q::r=>by
  have G:D.beq (.agg [.int .i64 x,.int .i64 y]) (.agg (Ad.c q.1))=decide ((⟨x,y⟩:Ad)=q.1):=Lq ⟨x,y⟩ q.1;obtain⟨k,w⟩:=q;simp only[Bf,z,Ju,E3,G];by_cases h:(⟨x,y⟩:Ad)=k
  .simp[h]
  .simp[h,z,SD e g z x y r]
def lK(x y:Int)(v:List Int)(l:List (Ad×List Int)):Eg (l.map D9) (.agg [.int .i64 x,.int .i64 y]) (.sl false 1 (v.map Af))=(BJ l ⟨x,y⟩ v).map D9:=
 L3 D9 (λv=> .sl false 1 (v.map Af)) (λ_=>rfl) x y v l
def VR(x y v:Int)(l:List (Ad×Int)):Eg (l.map Fg) (.agg [.int .i64 x,.int .i64 y]) (.int .i64 v)=(BJ l ⟨x,y⟩ v).map Fg:=
 L3 Fg (.int .i64) (λ_=>rfl) x y v l
def SC(x y:Int)(l:List (Ad×List Int)):Ju (l.map D9) (.agg [.int .i64 x,.int .i64 y])=(E3 l ⟨x,y⟩).map D9:=
 SD D9 (λv=> .sl false 1 (v.map Af)) (λ_=>rfl) x y l
def G5(s:AF)(f:Ad->Int)(q:Ad):Nat->List Int
 |0=>[]
 |k+1=>G5 s f q k++(if O4 s f q k=true then [(k:Int)] else [])
def Qus(s:AF)(f:Ad->Int)(q:Ad): ∀k,(G5 s f q k).length<=k
 |0=>by simp[G5]
 |k+1=>by
  have:=Qus s f q k
  simp only[G5,Bz]
  split<;>simp<;>omega
def K2(s:AF)(f:Ad->Int)(op:List (Ad×List Int))(q:Ad):List (Ad×List Int):=
 if G5 s f q s.Set.Tiles.length=[] then E3 op q else BJ op q (G5 s f q s.Set.Tiles.length)
def Hm(s:AF)(f:Ad->Int)(op:List (Ad×List Int))(p:Ad):Nat->List (Ad×List Int)
 |0=>op
 |k+1=>K2 s f (Hm s f op p k) (CF p k)
def Bq(s:AF):List AV:=[.im (.sl false 2 (s.Set.Glues.map Ak.c)),.im (.sl false 2 (s.Set.Tiles.map Tile.c)),.im (.sl false 3 (s.Seed.Tiles.map Aq.c)),.im (.int .i64 s.Temperature),.mp 1,.mp 2]
def yE:KT:=⟨true,[.int .i64,.int .i64]⟩
def AT(c:Cw):Ar:=[(0,(true,.cells 143 (Bq c.Sys))),(1,(true,.map ⟨true,[.int .i64,.int .i64]⟩ (c.Tl.map Fg))),(2,(true,.map ⟨true,[.int .i64,.int .i64]⟩ (c.Op.map D9)))]
def Kw(c:Cw)(j:Nat):An (AT c) j=true↔j<3:=by
 simp only[An,AT,hget];by_cases h0:j=0
 .subst h0;simp
 .by_cases Q:j=1
  .subst Q;simp
  .by_cases Z:j=2
   .subst Z;simp
   .have z:(0==j)=false:=by simp;omega
    have G:(1==j)=false:=by simp;omega
    have O:(2==j)=false:=by simp;omega
    simp[z,G,O];omega
def KR(c:Cw):Prop:=C5 c.Sys.Set/\cJ c.Sys.Set (Dl c.Tl)/\c.Sys.Set.Tiles.length<=1000000
def lookC.ca(a:Cw×Ad):List AV:=[.ptr 0 0,.im (.agg [.int .i64 a.2.X,.int .i64 a.2.Y])]
def lookC.H1(a:Cw×Ad):Ar:=[(2,(true,.map ⟨true,[.int .i64,.int .i64]⟩ ((Hm a.1.Sys (Dl a.1.Tl) a.1.Op a.2 4).map D9)))]
def Po(j:Nat):Bool:=j==2
def lookC.row:AG:=Az lookC.ca (λa=>AT a.1) 3 (λa=>KR a.1/\I7 a.2) Po (λ_=> .im (.tup [])) lookC.H1 0
def gY:=J @step_.q<|J @step_.fv.eq_1<|J @step_.re.eq_1<|J @fitsC.q @fitsC.fv.eq_1
def lookC.ok:AJ 93 lookC.row:=by
 refine ow (tC step_.ok (tC fitsC.ok tN)) Tryz.func93 (exB:=λ_=>false) (R:=λ_ r=>r= .im (.tup [])) (λ_=>rfl)
  (λa=>by simp[lookC.ca,AT,Bq,lookC.H1,Po,AQ,AV.bel,AB,Cg,Cs,Ah.nms,Ax,AV.nms,An,hget]) (λa p hp=> ?_) (λa r h=>by subst h;exact D2.refl _) ?_
 rotate_left
 intro a G;simp only[Tryz.f93,Option.getD,lookC.ca,AT,Bq,lookC.H1,Po];simp only[ZZ,simprocAttr,Ab,gY,Av,lookC.ca,AT,Bq,lookC.H1,Po];obtain⟨⟨Q,Z,ad⟩,z⟩:=G;refine AZ.old ⟨{k:Nat//k<=4},λk=>⟨[(8,.im (.int .i64 k.1)),(3,.ptr 3 0),(0,.ptr 0 0)],[(3,(true,.cells 62 [.im (.int .i64 a.2.X),.im (.int .i64 a.2.Y)])),(0,(true,.cells 143 (Bq a.1.Sys))),(1,(true,.map ⟨true,[.int .i64,.int .i64]⟩ (a.1.Tl.map Fg))),(2,(true,.map ⟨true,[.int .i64,.int .i64]⟩ ((Hm a.1.Sys (Dl a.1.Tl) a.1.Op a.2 k.1).map D9)))],4⟩,λk=>4 - k.1,λk=>⟨by simp[ZG,Bq],AU _⟩,⟨⟨0,by simp⟩,by simp only[ZZ,simprocAttr,Ab,gY,Av,lookC.ca,AT,Bq,lookC.H1,Po,sub,Hm,Bq]⟩,λk=> ?_⟩;obtain⟨k,ac⟩:=k;simp only[Bq];simp only[ZZ,simprocAttr,Ab,gY,Av,lookC.ca,AT,Bq,lookC.H1,Po,sub,AS];have hq:I7 a.2:=z;refine⟨λhk=>⟨⟨z,by omega⟩,λhn=> ?_⟩,λhk=> ?_⟩
 .refine AZ.ren ⟨{j:Nat//j<=a.1.Sys.Set.Tiles.length},λj=>⟨[(21,.im (.int .i64 j.1)),(20,.im (.int .i64 a.1.Sys.Set.Tiles.length)),(6,.own 6),(5,.ptr 4 0),(8,.im (.int .i64 k)),(3,.ptr 3 0),(0,.ptr 0 0)],[(6,(true,.arr 2 1 ((G5 a.1.Sys (Dl a.1.Tl) (CF a.2 k) j.1).map Af))),(4,(true,.cells 62 [.im (.int .i64 (CF a.2 k).X),.im (.int .i64 (CF a.2 k).Y)])),(3,(true,.cells 62 [.im (.int .i64 a.2.X),.im (.int .i64 a.2.Y)])),(0,(true,.cells 143 (Bq a.1.Sys))),(1,(true,.map ⟨true,[.int .i64,.int .i64]⟩ (a.1.Tl.map Fg))),(2,(true,.map ⟨true,[.int .i64,.int .i64]⟩ ((Hm a.1.Sys (Dl a.1.Tl) a.1.Op a.2 k).map D9)))],7⟩,λj=>a.1.Sys.Set.Tiles.length - j.1,λj=>⟨by simp[ZG,Bq],by simp⟩,⟨⟨0,by simp⟩,[(6,some 5)],?_⟩,λj=> ?_⟩
  .simp only[Am,Bq];simp only[ZZ,simprocAttr,Ab,gY,Av,lookC.ca,AT,Bq,lookC.H1,Po,AN,AM,G5,Bg]
   try simp
  obtain⟨j,ab⟩:=j;simp only[Bq];simp only[ZZ,simprocAttr,Ab,gY,Av,lookC.ca,AT,Bq,lookC.H1,Po,AS,sub];have aa:=Qus a.1.Sys (Dl a.1.Tl) (CF a.2 k) j;refine⟨λhj=>⟨⟨Q,Z,by omega,by omega⟩,λhf=>⟨by omega,⟨j+1,by omega⟩,[(6,some 8)],by simp only;omega,?_⟩,λhf=>⟨⟨j+1,by omega⟩,[(6,some 6)],by simp only;omega,?_⟩⟩,λhj=> ?_⟩
  .simp only[Am];simp only[ZZ,simprocAttr,Ab,gY,Av,lookC.ca,AT,Bq,lookC.H1,Po,AN,AM];refine⟨?_,?_⟩
   .rw[AH (by omega) (by omega)];omega
   .simp[G5,hf,Af]
  .simp only[Am];simp only[ZZ,simprocAttr,Ab,gY,Av,lookC.ca,AT,Bq,lookC.H1,Po,AN,AM];refine⟨?_,?_⟩
   .rw[AH (by omega) (by omega)];omega
   .simp[G5,hf]
  have O:j=a.1.Sys.Set.Tiles.length:=by omega
  subst O;rw[lK,SC];have hl:(0:Int)<((G5 a.1.Sys (Dl a.1.Tl) (CF a.2 k) a.1.Sys.Set.Tiles.length).length:Int)↔G5 a.1.Sys (Dl a.1.Tl) (CF a.2 k) a.1.Sys.Set.Tiles.length≠[]:=by
   rw[<-hZ];omega
  intro _;refine⟨λh0=>⟨⟨k+1,by omega⟩,by simp only;omega,?_,?_⟩,λh0=>⟨⟨k+1,by omega⟩,by simp only;omega,?_,?_⟩⟩
  .rw[AH (by omega) (by omega)];simp only;omega
  .simp only[Hm,K2];rw[Ag (hl.1 h0)]
  .rw[AH (by omega) (by omega)];simp only;omega
  .simp only[Hm,K2];rw[Al (HJ.1 (λh=>h0 (hl.2 h)))]
 .have:k=4:=by omega
  subst this;simp[Po]
 simp[lookC.H1] at hp;subst hp;exact .inl ⟨by omega,rfl,rfl⟩
def nL{β:Type}(p q:Ad)(v:β): ∀(l:List (Ad×β)),BP (BJ l p v) q=if q=p then some v else BP l q
 |[]=>by simp[BJ,BP]
 |(k,w)::r=>by
  simp only[BJ];by_cases h:p=k
  .subst h;rw[Al rfl];simp only[BP];by_cases z:q=p
   .rw[Al z,Al z]
   .rw[Ag z,Ag z,Ag z]
  .rw[Ag h];simp only[BP,nL p q v r];by_cases z:q=k
   .rw[Al z,Al z,Ag (λG=>h (G.symm.trans z))]
   .rw[Ag z,Ag z]
def D1(l:List Aq):List (Ad×Int):=l.foldl (λt x=>BJ t x.At x.Tile) []
def Qp(l:List Aq)(x:Aq):D1 (l++[x])=BJ (D1 l) x.At x.Tile:=by simp[D1]
def Iy(s:AF)(f:Ad->Int)(l:List Aq):List (Ad×List Int):=l.foldl (λo x=>Hm s f o x.At 4) []
def P0(s:AF)(f:Ad->Int)(l:List Aq)(x:Aq):Iy s f (l++[x])=Hm s f (Iy s f l) x.At 4:=by simp[Iy]
def ZP{s:AE}: ∀(l:List Aq),(∀x∈l,GO s x.Tile)->cJ s (Dl (D1 l)):=by
 intro l;have G: ∀(l:List Aq) (t:List (Ad×Int)),(∀p v,BP t p=some v->GO s v)->(∀x∈l,GO s x.Tile)-> ∀p v,BP (l.foldl (λt x=>BJ t x.At x.Tile) t) p=some v->GO s v:=by
  intro l;induction l with
  |nil=>intro t h _;exact h
  |cons x r ih=>
   intro t h O;refine ih _ ?_ (λy Q=>O y (BW _ Q));intro p v z;rw[nL] at z;split at z
   .cases z;exact O x (BS ..)
   .exact h p v z
 intro h p hp
 have:=G l [] (by intro p v h;simp[BP] at h) h p
 simp only[Dl,D1] at hp⊢;cases hq:BP (l.foldl (λt x=>BJ t x.At x.Tile) []) p with
 |none=>rw[hq] at hp;simp at hp
 |some v=>exact this v hq
def Ww{α:Type}{l:List α}{k:Nat}{x:α}(h:l[k]? =some x):l.take (k+1)=l.take k++[x]:=by rw[Ji,h];rfl
def gK(s:AF)(a:Ao):Cw:=⟨s,D1 a.Tiles,Iy s (Dl (D1 a.Tiles)) a.Tiles⟩
def newC.ca(a:AF×Ao):List AV:=[.im (.agg (AF.c a.1)),.im (.agg (Ao.c a.2))]
def newC.H1(a:AF×Ao):Ar:=[(4,(true,.cells 143 [.im (.sl false 2 (a.1.Set.Glues.map Ak.c)),.im (.sl false 2 (a.1.Set.Tiles.map Tile.c)),.im (.sl false 3 (a.1.Seed.Tiles.map Aq.c)),.im (.int .i64 a.1.Temperature),.mp 2,.mp 3])),
 (2,(true,.map ⟨true,[.int .i64,.int .i64]⟩ ((gK a.1 a.2).Tl.map Fg))),(3,(true,.map ⟨true,[.int .i64,.int .i64]⟩ ((gK a.1 a.2).Op.map D9)))]
def newC.pre(a:AF×Ao):Prop:=C5 a.1.Set/\a.1.Set.Tiles.length<=1000000/\ ∀x∈a.2.Tiles,GO a.1.Set x.Tile/\I7 x.At
def newC.ex(j:Nat):Bool:=j==2||(j==3||j==4)
def WB(_:Nat):Bool:=false
def newC.row:AG:=Az newC.ca (λ_=>[]) 0 newC.pre WB (λ_=> .ptr 4 0) newC.H1 5
def newC.ok:AJ 69 newC.row:=by
 refine ow (tC lookC.ok tN) Tryz.func69 (exB:=newC.ex) (R:=λ_ r=>r= .ptr 4 0) (λ_=>rfl)
  (λa=>by simp[newC.ca,newC.H1,newC.ex,WB,AF.c,Ao.c,AQ,AV.bel,AB,Cg,Cs,Ah.nms,Ax,AV.nms,An,hget]) (λa p hp=> ?_) (λa r h=>by subst h;exact D2.refl _) ?_
 rotate_left
 intro a O;simp only[Tryz.f69,Option.getD,newC.ca,newC.H1,newC.ex,WB,AF.c,Ao.c];simp only[ZZ,simprocAttr,Ab,Av,newC.ca,newC.H1,newC.ex,WB,AF.c,Ao.c];obtain⟨aa,ab,G⟩:=O;intro hn;refine AZ.old ⟨{k:Nat//k<=a.2.Tiles.length},λk=>⟨[(18,.im (.int .i64 k.1)),(17,.im (.int .i64 a.2.Tiles.length)),(16,.im (.sl false 3 (a.2.Tiles.map Aq.c))),(5,.ptr 4 0),(4,.im .nilp),(3,.ptr 1 0)],[(4,(true,.cells 143 [.im (.sl false 2 (a.1.Set.Glues.map Ak.c)),.im (.sl false 2 (a.1.Set.Tiles.map Tile.c)),.im (.sl false 3 (a.1.Seed.Tiles.map Aq.c)),.im (.int .i64 a.1.Temperature),.mp 2,.mp 3])),(3,(true,.map ⟨true,[.int .i64,.int .i64]⟩ ([]))),(2,(true,.map ⟨true,[.int .i64,.int .i64]⟩ ((D1 (a.2.Tiles.take k.1)).map Fg))),(1,(true,.cells 25 [.im (.sl false 3 (a.2.Tiles.map Aq.c))]))],5⟩,λk=>a.2.Tiles.length - k.1,λk=>⟨by simp[ZG],AU _⟩,⟨⟨0,by simp⟩,by simp only[ZZ,simprocAttr,Ab,Av,newC.ca,newC.H1,newC.ex,WB,AF.c,Ao.c,sub,D1,Hp,XU]⟩,λk=> ?_⟩;obtain⟨k,Z⟩:=k;simp only[ZZ,simprocAttr,Ab,Av,newC.ca,newC.H1,newC.ex,WB,AF.c,Ao.c,sub,AS];refine⟨λz=>⟨z,λx Q=> ?_⟩,λz=> ?_⟩
 .refine⟨⟨k+1,by omega⟩,by simp only;omega,?_,?_⟩
  .rw[AH (by omega) (by omega)];simp only;omega
  .rw[VR,Ww Q,Qp]
 rw[GW (by omega)];intro _;refine AZ.old ⟨{k:Nat//k<=a.2.Tiles.length},λk=>⟨[(34,.im (.int .i64 k.1)),(33,.im (.int .i64 a.2.Tiles.length)),(32,.im (.sl false 3 (a.2.Tiles.map Aq.c))),(5,.ptr 4 0),(4,.im .nilp),(3,.ptr 1 0)],[(4,(true,.cells 143 [.im (.sl false 2 (a.1.Set.Glues.map Ak.c)),.im (.sl false 2 (a.1.Set.Tiles.map Tile.c)),.im (.sl false 3 (a.1.Seed.Tiles.map Aq.c)),.im (.int .i64 a.1.Temperature),.mp 2,.mp 3])),(3,(true,.map ⟨true,[.int .i64,.int .i64]⟩ ((Iy a.1 (Dl (D1 a.2.Tiles)) (a.2.Tiles.take k.1)).map D9))),(2,(true,.map ⟨true,[.int .i64,.int .i64]⟩ ((D1 a.2.Tiles).map Fg))),(1,(true,.cells 25 [.im (.sl false 3 (a.2.Tiles.map Aq.c))]))],5⟩,λk=>a.2.Tiles.length - k.1,λk=>⟨by simp[ZG],AU _⟩,⟨⟨0,by simp⟩,by simp only[ZZ,simprocAttr,Ab,Av,newC.ca,newC.H1,newC.ex,WB,AF.c,Ao.c,sub,Iy,Hp,XU]⟩,λk=> ?_⟩;obtain⟨k,Z⟩:=k;simp only[ZZ,simprocAttr,Ab,Av,newC.ca,newC.H1,newC.ex,WB,AF.c,Ao.c,sub,AS];refine⟨λz=>⟨z,λx Q=> ?_⟩,λz=> ?_⟩
 .refine Az.os (⟨a.1,D1 a.2.Tiles,Iy a.1 (Dl (D1 a.2.Tiles)) (a.2.Tiles.take k)⟩,x.At) [4,2,3] ⟨⟨aa,ZP _ (λy hy=>(G y hy).1),ab⟩,(G x (Bh Q)).2⟩ (λj=>Kw _ j) rfl rfl ?_ ?_
  .simp only[ZZ,simprocAttr,Ab,Av,newC.ca,newC.H1,newC.ex,WB,AF.c,Ao.c,lookC.ca,AT,Bq,Bb]
  .simp only[ZZ,simprocAttr,Ab,Av,newC.ca,newC.H1,newC.ex,WB,AF.c,Ao.c,lookC.H1,Po,sub];refine⟨⟨k+1,by omega⟩,by simp only;omega,?_,?_⟩
   .rw[AH (by omega) (by omega)];simp only;omega
   .rw[Ww Q,P0]
 .rw[GW (by omega)];exact⟨rfl,rfl⟩
 simp[newC.H1] at hp;rcases hp with rfl|rfl|rfl
 .exact .inr ⟨by omega,by simp,rfl,rfl⟩
 .exact .inr ⟨by omega,by simp,rfl,rfl⟩
 .exact .inr ⟨by omega,by simp,rfl,rfl⟩
def GR(a:Ao)(i:Int):Int:=(a.Tiles[i.toNat]?.map Aq.Tile).getD (-1)
def XD(s:AE)(a:Ao)(i:Nat)(d:Int):List Ai:=
 if 0<=Hw a i d then if 0<LC s (GR a i) d (GR a (Hw a i d)) then [⟨i,Hw a i d,LC s (GR a i) d (GR a (Hw a i d))⟩] else [] else []
def KC(s:AE)(a:Ao)(i:Nat):Nat->List Ai
 |0=>[]
 |k+1=>KC s a i k++XD s a i (1 - k)
def FY(s:AE)(a:Ao):Nat->List Ai
 |0=>[]
 |k+1=>FY s a k++KC s a k 2
def OS(s:AE)(a:Ao)(i:Nat)(d:Int):(XD s a i d).length<=1:=by
 simp only[XD];split
 .split<;>simp
 .simp
def Ql7(s:AE)(a:Ao)(i:Nat): ∀k,(KC s a i k).length<=k
 |0=>by simp[KC]
 |k+1=>by
  have z:=Ql7 s a i k;have G:=OS s a i (1 - k);simp only[KC,Bz];omega
def tE(s:AE)(a:Ao): ∀k,(FY s a k).length<=2*k
 |0=>by simp[FY]
 |k+1=>by
  have z:=tE s a k;have G:=Ql7 s a k 2;simp only[FY,Bz];omega
def jJ{A:Type}(p:A->Bool)(l:List A):B0 p 0 l<(l.length:Int):=by
 rcases aP p l 0 with ⟨_,h⟩|⟨i,x,_,h,z⟩
 .omega
 .have:=(CL.1 z).1
  omega
def Lm(a:Ao)(i d:Int):Hw a i d<(a.Tiles.length:Int):=jJ _ _
def l06Bonds.fv(a:AE×Ao):List Ai:=(λs a=>FY s a a.Tiles.length) (a.1) (a.2)
def l06Bonds.row:AG:=vK (b2 (qP 2 AE.d_le) (qP 1 Ao.d_le)) (rS Ai.d_le Ai.c_n) (λa=>C5 a.1/\HG a.1 a.2/\a.2.Tiles.length<=1000000) l06Bonds.fv
def l06Bonds.q:=B3 (R:=l06Bonds.row) rfl
def XM:=J @l06Bonds.fv.eq_1<|J @l06Neighbor.q<|J @l06Neighbor.fv.eq_1<|J @l02Bond.q @l02Bond.fv.eq_1
def l06Bonds.ok:AJ 82 l06Bonds.row:=by
 refine vw (tC l06Neighbor.ok (tC l02Bond.ok tN)) Tryz.func82 ?_;intro a z;simp only[Tryz.f82,Option.getD];simp only[ZZ,simprocAttr,Ab,XM];obtain⟨h1,Q,h3⟩:=z;refine AZ.ren ⟨{k:Nat//k<=a.2.Tiles.length},λk=>⟨[(6,.im (.int .i64 k.1)),(5,.own 4),(0,.ptr 0 0),(1,.ptr 1 0)],[(4,(true,.arr 161 3 ((FY a.1 a.2 k.1).map Ai.c))),(0,(false,.view (AE.c a.1))),(1,(false,.view (Ao.c a.2)))],5⟩,λk=>a.2.Tiles.length - k.1,λk=>⟨by simp[ZG],by simp⟩,⟨⟨0,by simp⟩,[(4,some 3)],?_⟩,λk=> ?_⟩
 .simp only[Am];simp only[ZZ,simprocAttr,Ab,XM,AN,AM,FY,Bg]
 obtain⟨k,af⟩:=k;simp only[ZZ,simprocAttr,Ab,XM,sub,AS];intro ac;refine⟨λhk=> ?_,λhk=> ?_⟩
 .refine AZ.ren ⟨{j:Nat//j<=2},λj=>⟨[(7,.im (.int .i64 (1 - (j.1:Int)))),(6,.im (.int .i64 k)),(5,.own 5),(0,.ptr 0 0),(1,.ptr 1 0)],[(5,(true,.arr 161 3 ((FY a.1 a.2 k++KC a.1 a.2 k j.1).map Ai.c))),(0,(false,.view (AE.c a.1))),(1,(false,.view (Ao.c a.2)))],6⟩,λj=>2 - j.1,λj=>⟨by simp[ZG],by simp⟩,⟨⟨0,by simp⟩,[(5,some 4)],?_⟩,λj=> ?_⟩
  .simp only[Am];simp only[ZZ,simprocAttr,Ab,XM,AN,AM,KC,Ck]
   try simp
  obtain⟨j,ad⟩:=j;simp only[ZZ,simprocAttr,Ab,XM,sub,AS,Oc,NZ,Ob,BZ,D.one,EL,Fu,Jn];have ab:=Lm a.2 k (1 - j);have ag:=tE a.1 a.2 k;have ah:=Ql7 a.1 a.2 k j;refine⟨λhd=>⟨⟨Q.1,hk,hd,by omega⟩,λhn=>⟨⟨j+1,by omega⟩,[(5,some 5)],by simp only;omega,?_⟩,λhn=>⟨hk,λx hx=>⟨by omega,ab,λy hy=>⟨⟨h1,Q.2 x (Bh hx),⟨by omega,by omega⟩,Q.2 y (Bh hy)⟩,λZ=>⟨by simp only[Bz];omega,⟨j+1,by omega⟩,[(5,some 7)],by simp only;omega,?_⟩,λZ=>⟨⟨j+1,by omega⟩,[(5,some 5)],by simp only;omega,?_⟩⟩⟩⟩⟩,λhd=>⟨⟨k+1,by omega⟩,[(4,some 5)],by simp only;omega,?_⟩⟩
  .simp only[Am];simp only[ZZ,simprocAttr,Ab,XM,AN,AM];refine⟨?_,?_⟩
   .rw[AH (by omega) (by omega)];omega
   .simp only[KC,XD];rw[Ag (by omega),Ck]
  .simp only[Am];simp only[ZZ,simprocAttr,Ab,XM,AN,AM];refine⟨?_,?_⟩
   .rw[AH (by omega) (by omega)];omega
   .have G:GR a.2 k=x.Tile:=by simp[GR,hx]
    have O:GR a.2 (Hw a.2 k (1 - j))=y.Tile:=by simp only[GR];rw[hy];rfl
    simp only[KC,XD];rw[Al (by omega),G,O,Al Z];simp[Ai.c]
  .simp only[Am];simp only[ZZ,simprocAttr,Ab,XM,AN,AM];refine⟨?_,?_⟩
   .rw[AH (by omega) (by omega)];omega
   .have G:GR a.2 k=x.Tile:=by simp[GR,hx]
    have O:GR a.2 (Hw a.2 k (1 - j))=y.Tile:=by simp only[GR];rw[hy];rfl
    simp only[KC,XD];rw[Al (by omega),G,O,Ag Z,Ck]
  .simp only[Am];simp only[ZZ,simprocAttr,Ab,XM,AN,AM];have aa:j=2:=by omega
   subst aa;refine⟨?_,?_⟩
   .rw[AH (by omega) (by omega)];omega
   .simp only[FY]
 .have:k=a.2.Tiles.length:=by omega
  rw[this]
def Jp:List Int->List Int->Bool
 |x::r,y::s=>if x=y then Jp r s else decide (x<y)
 |_,_=>false
def GA(v:Int)(l:List Int)(w:Int)(m:List Int):Bool:=if v=w then if l.length=m.length then Jp l m else decide (l.length<m.length) else decide (v<w)
def l07Before.fv(a:Int×(List Int)×Int×(List Int)):Bool:=(GA) (a.1) (a.2.1) (a.2.2.1) (a.2.2.2)
def l07Before.row:AG:=vK (b4 qI (qS Dj Ct) qI (qS Dj Ct)) rB (λa=>True) l07Before.fv
def l07Before.q:=B3 (R:=l07Before.row) rfl
def l07Before.ok:AJ 112 l07Before.row:=by
 refine vw tN Tryz.func112 ?_;intro a aa;simp only[Tryz.f112,Option.getD];simp only[ZZ,simprocAttr,Ab,l07Before.fv]
 split<;>rename_i h
 .simp only[GA];rw[Ag h]
 intro ac ad
 split<;>rename_i h2
 .intro _ _;simp only[GA];rw[Al (HJ.1 h),Ag (by omega)]
 have hn:a.2.1.length=a.2.2.2.length:=by omega
 have hb:GA a.1 a.2.1 a.2.2.1 a.2.2.2=Jp a.2.1 a.2.2.2:=by simp only[GA];rw[Al (HJ.1 h),Al hn]
 rw[hb];refine AZ.old ⟨{k:Nat//k<=a.2.1.length/\Jp (a.2.1.drop k) (a.2.2.2.drop k)=Jp a.2.1 a.2.2.2},λk=>⟨[(9,.im (.int .i64 k.1)),(8,.im (.bool false)),(0,.im (.int .i64 a.1)),(1,.im (.sl false 1 (a.2.1.map Af))),(2,.im (.int .i64 a.2.2.1)),(3,.im (.sl false 1 (a.2.2.2.map Af)))],[],0⟩,λk=>a.2.1.length - k.1,λk=>⟨by simp[ZG],AU _⟩,⟨⟨0,by simp⟩,by simp only[ZZ,simprocAttr,Ab,l07Before.fv,sub]⟩,λk=> ?_⟩;obtain⟨k,ab,z⟩:=k;simp only[ZZ,simprocAttr,Ab,l07Before.fv,sub,AS];intro _;refine⟨λQ=>⟨Q,λx hx=>⟨by omega,λy hy=>⟨λZ=>⟨Q,λx' G=>⟨by omega,λy' O=> ?_⟩⟩,λhe=> ?_⟩⟩⟩,λQ=> ?_⟩
 .rw[hx] at G;rw[hy] at O;obtain rfl:=AC G;obtain rfl:=AC O;rw[GQ hx,GQ hy,Jp,Ag Z] at z;exact z
 .rw[GQ hx,GQ hy,Jp,Al (HJ.1 he)] at z;refine⟨⟨k+1,by omega,z⟩,by simp only;omega,?_⟩;rw[AH (by omega) (by omega)];simp only;omega
 .rw[Ee (by omega),Jp] at z
  .exact z
  .intros;simp_all
def Qix{l:List Aq}(h:Ed none l=true):(l.map Aq.At).Nodup:=by
 have z:=(lR _ _ h).2;clear h;revert z;induction l with
 |nil=>intro _;simp
 |cons x r ih=>
  intro z;simp only[Bf,KO];refine⟨λhm=> ?_,ih (λi j a b aa G O=>z (i+1) (j+1) a b (by omega) (by simpa using G) (by simpa using O))⟩;obtain⟨y,hy,Q⟩:=BF.1 hm;obtain⟨i,Z⟩:=W1.1 hy
  have:=z 0 (i+1) x y (by omega) rfl (by simpa using Z)
  rw[Q,uC] at this;cases this
def YC:Bm []=[]:=rfl
def Qxu(n:Nat)(rows:List (List D)):(Bm rows).all (AQ n)=true:=by
 simp only[Bm,List.all_map,Fk,Function.comp];intro r z;clear z;induction r with
 |nil=>simp[AQ]
 |cons x r ih=>simp[AQ,AV.bel,ih]
def Mq(F:List Nat)(H:Ar): ∀(r:List D),DX F H (r.map .im)=r.map .im
 |[]=>rfl
 |x::r=>by simp only[Bf,DX,AV.fzA,Mq F H r]
def Mr(F:List Nat)(H:Ar): ∀(rows:List (List D)),DY F H (Bm rows)=Bm rows
 |[]=>rfl
 |x::r=>by
  have:=Mr F H r
  simp only[Bm] at this;simp only[Bm,Bf,DY,Mq,this]
def Qzl(F:List Nat)(H:Ar): ∀(a b:List (List AV)),DY F H (a++b)=DY F H a++DY F H b
 |[],b=>rfl
 |x::r,b=>by simp only[Ci,DY,Qzl F H r b]
def Ul(π:List (Nat×Option Nat)): ∀(r:List D),Es π (r.map .im) (r.map .im)
 |[]=>by simp[Es]
 |x::r=>by simp only[Bf,Es,mt,Ul π r,Fu]
def Qzo(π:List (Nat×Option Nat)): ∀(rows:List (List D)),GZ π (Bm rows) (Bm rows)
 |[]=>by simp[GZ,Bm]
 |x::r=>by
  have:=Qzo π r
  simp only[Bm] at this;simp only[Bm,Bf,GZ,Ul,this,Fu]
def Qzb(F:List Nat)(H:Ar)(rows:List (List D)):DY F H (rows.map λr=>r.map AV.im)=rows.map λr=>r.map AV.im:=Mr F H rows
def Qsg(π:List (Nat×Option Nat))(rows:List (List D)):GZ π (rows.map λr=>r.map AV.im) (rows.map λr=>r.map AV.im)=True:=iM (Qzo π rows)
def qC(n:Nat)(rows:List (List D)):(rows.map λr=>r.map AV.im).all (AQ n)=true:=Qxu n rows
def Qtl{α β:Type}{f:α->Option β}{g:β->α}(h: ∀y,f (g y)=some y): ∀(l:List β),AA f (l.map g)=some l
 |[]=>rfl
 |x::r=>by simp only[Bf,AA,h,Qtl h r]
def Yn(h:Nat->Option Au)(kx:Nat->Option Nat)(n:Nat)(rows:List (List D)):AA (AA λx=>EM (Bs h kx (n+1) x)) (rows.map λr=>r.map AV.im)=some rows:=
 Qtl (g:=λr=>r.map AV.im) (λy=>Qtl (g:=AV.im) (λ_=>rfl) y) rows
def I9{A:Type}(f:A->A):Nat->List A->List A
 |0,l=>l
 |_+1,[]=>[]
 |k+1,x::r=>f x::I9 f k r
def Qwq{A:Type}(f:A->A): ∀(k:Nat) (l:List A),(I9 f k l).length=l.length
 |0,_=>rfl
 |_+1,[]=>rfl
 |k+1,x::r=>by simp only[I9,CR,Qwq f k r]
def Qoo{A:Type}(f:A->A): ∀(k:Nat) (l:List A),(I9 f k l)[k]? =l[k]?
 |0,_=>rfl
 |_+1,[]=>by simp[I9]
 |k+1,x::r=>by simp only[I9,Kf,Qoo f k r]
def Qn5{A:Type}(f:A->A): ∀(k:Nat) (l:List A) (x:A),l[k]? =some x->(I9 f k l).set k (f x)=I9 f (k+1) l
 |0,[],x,h=>by simp at h
 |0,y::r,x,h=>by
  simp only[Hn,AO] at h;subst h;simp[I9]
 |k+1,[],x,h=>by simp at h
 |k+1,y::r,x,h=>by
  have:=Qn5 f k r x (by simpa using h)
  rw[I9,I9,nW,this]
def Qabf{A:Type}(f:A->A)(k:Nat)(l:List A)(x:A)(h:l[k]? =some x)(hf:f x=x):I9 f (k+1) l=I9 f k l:=by
 rw[<-Qn5 f k l x h,hf];have z:(I9 f k l)[k]? =some x:=by rw[Qoo,h]
 obtain⟨G,O⟩:=CL.1 z;rw[<-O];exact List.set_getElem_self G
def Qvd{A:Type}(f:A->A): ∀(k:Nat) (l:List A),l.length<=k->I9 f k l=l.map f
 |0,[],_=>rfl
 |0,x::r,h=>by simp at h
 |_+1,[],_=>rfl
 |k+1,x::r,h=>by simp only[I9,Bf,Qvd f k r (by simpa using h)]
def XG:Nat->List Int
 |0=>[]
 |k+1=>XG k++[(k:Int)]
def fP: ∀k,(XG k).length=k
 |0=>rfl
 |k+1=>by simp[XG,fP k]
def Ka(x y v:Int):Int:=if v=Bo x y then Bt x y else v
def uP(own:List Int)(b:Ai):List Int:=own.map (Ka (own[b.A.toNat]?.getD 0) (own[b.B.toNat]?.getD 0))
def Cu(n:Nat)(bs:List Ai):Nat->List Int
 |0=>XG n
 |k+1=>match bs[k]? with
  |some b=>uP (Cu n bs k) b
  |none=>Cu n bs k
def Qto(n:Nat)(bs:List Ai): ∀k,(Cu n bs k).length=n
 |0=>fP n
 |k+1=>by
  simp only[Cu];split
  .simp[uP,Qto n bs k]
  .exact Qto n bs k
def DB(own:List Int)(i:Nat):Nat->List Int
 |0=>[]
 |k+1=>DB own i k++(if own[i+k]? =some (i:Int) then [((i+k:Nat):Int)] else [])
def Qsd(own:List Int)(i:Nat): ∀k,(DB own i k).length<=k
 |0=>by simp[DB]
 |k+1=>by
  have:=Qsd own i k
  simp only[DB,Bz]
  split<;>simp<;>omega
def BK(own:List Int)(n:Nat):Nat->List (List Int)
 |0=>[]
 |k+1=>BK own n k++(if own[k]? =some (k:Int) then [DB own k (n - k)] else [])
def tM(own:List Int)(n:Nat): ∀k,(BK own n k).length<=k
 |0=>by simp[BK]
 |k+1=>by
  have:=tM own n k
  simp only[BK,Bz]
  split<;>simp<;>omega
def Wl(n:Int)(bs:List Ai):List (List Int):=BK (Cu n.toNat bs bs.length) n.toNat n.toNat
def LA(n:Int)(bs:List Ai):Prop:= ∀b∈bs,0<=b.A/\b.A<n/\0<=b.B/\b.B<n
def l06Groups.fv(a:Int×(List Ai)):List (List Int):=(Wl) (a.1) (a.2)
def l06Groups.row:AG:=vK (b2 qI (qS Ai.d_le Ai.c_n)) (rS gC Nx) (λa=>0<=a.1/\a.1<=1000000/\LA a.1 a.2) l06Groups.fv
def l06Groups.q:=B3 (R:=l06Groups.row) rfl
def Jd:=J @l06Groups.fv.eq_1<|J @l00Min.q<|J @l00Min.fv.eq_1<|J @l00Max.q @l00Max.fv.eq_1
def l06Groups.ok:AJ 107 l06Groups.row:=by
 refine vw (tC l00Min.ok (tC l00Max.ok tN)) Tryz.func107 ?_;intro a ad;simp only[Tryz.f107,Option.getD];simp only[ZZ,simprocAttr,Ab,Jd];obtain⟨aj,ak,Z⟩:=ad;obtain⟨n,hn⟩: ∃n:Nat,a.1=n:=⟨a.1.toNat,by omega⟩;simp only[Wl,hn,B5];rw[hn] at aj ak Z;refine AZ.ren ⟨{k:Nat//k<=n},λk=>⟨[(6,.im (.int .i64 k.1)),(5,.own 2),(0,.im (.int .i64 n)),(1,.im (.sl false 3 (a.2.map Ai.c)))],[(2,(true,.arr 2 1 ((XG k.1).map Af)))],3⟩,λk=>n - k.1,λk=>⟨by simp[ZG],by simp⟩,⟨⟨0,by simp⟩,[(2,some 1)],?_⟩,λk=> ?_⟩
 .simp only[Am];simp only[ZZ,simprocAttr,Ab,Jd,AN,AM,XG,Bg,hn]
  try simp
 obtain⟨k,Q⟩:=k;simp only[ZZ,simprocAttr,Ab,Jd,sub,AS,Oc,NZ,Ob,BZ,D.one,EL,Fu,Jn];have ab:=fP k;refine⟨λz=>⟨by rw[ab];omega,⟨k+1,by omega⟩,[(2,some 4)],by simp only;omega,?_⟩,λz=> ?_⟩
 .simp only[Am];simp only[ZZ,simprocAttr,Ab,Jd,AN,AM];refine⟨by rw[AH (by omega) (by omega)];omega,by simp[XG,Af]⟩
 have ag:n=k:=by omega
 subst ag;clear ab z Q;refine AZ.old ⟨{k:Nat//k<=a.2.length},λk=>⟨[(7,.im (.int .i64 k.1)),(5,.own 2),(0,.im (.int .i64 n)),(1,.im (.sl false 3 (a.2.map Ai.c)))],[(2,(true,.arr 2 1 ((Cu n a.2 k.1).map Af)))],3⟩,λk=>a.2.length - k.1,λk=>⟨by simp[ZG],by simp⟩,⟨⟨0,by simp⟩,by simp only[ZZ,simprocAttr,Ab,Jd,sub,Cu]⟩,λk=> ?_⟩;obtain⟨k,Q⟩:=k;have G:=Qto n a.2 k;simp only[ZZ,simprocAttr,Ab,Jd,sub,AS,G];intro _;refine⟨λz=>⟨z,λb hb=> ?_⟩,λz=> ?_⟩
 .obtain⟨b1,b2,b3,b4⟩:=Z b (Bh hb);refine⟨b1,b2,by omega,λx hx=>⟨z,λb' aa=> ?_⟩⟩;rw[hb] at aa;obtain rfl:=AC aa;refine⟨b3,b4,by omega,λy hy=> ?_⟩;refine AZ.old ⟨{j:Nat//j<=n},λj=>⟨[(10,.im (.int .i64 j.1)),(9,.im (.int .i64 y)),(8,.im (.int .i64 x)),(7,.im (.int .i64 k)),(5,.own 2),(0,.im (.int .i64 n)),(1,.im (.sl false 3 (a.2.map Ai.c)))],[(2,(true,.arr 2 1 ((I9 (Ka x y) j.1 (Cu n a.2 k)).map Af)))],3⟩,λj=>n - j.1,λj=>⟨by simp[ZG],by simp⟩,⟨⟨0,by simp⟩,by simp only[ZZ,simprocAttr,Ab,Jd,sub,I9]⟩,λj=> ?_⟩;obtain⟨j,ao⟩:=j;have ac:=Qwq (Ka x y) j (Cu n a.2 k);rw[G] at ac;have ah:=Qoo (Ka x y) j (Cu n a.2 k);simp only[ZZ,simprocAttr,Ab,Jd,sub,AS,ac];intro _;refine⟨λhj=>⟨hj,hj,λv hv=> ?_⟩,λhj=> ?_⟩
  .have av:=hv;rw[ah] at hv;refine⟨λO=>⟨hj,hj,λv' au=>⟨⟨j+1,by omega⟩,by simp only;omega,by rw[AH (by omega) (by omega)];simp only;omega,?_⟩⟩,λO=>⟨⟨j+1,by omega⟩,by simp only;omega,by rw[AH (by omega) (by omega)];simp only;omega,?_⟩⟩
   .rw[<-Qn5 _ _ _ _ hv,RU];simp only[Ka,O,Bb,Af]
   .rw[Qabf _ _ _ _ hv (by simp only[Ka];rw[Ag O])]
  .refine⟨⟨k+1,by omega⟩,by simp only;omega,by rw[AH (by omega) (by omega)];simp only;omega,?_⟩;rw[Qvd _ _ _ (by omega)];simp only[Cu,hb,uP,hx,hy,AW]
 have af:k=a.2.length:=by omega
 subst af;clear z Q Z;refine AZ.frr ⟨{k:Nat//k<=n},λk=>⟨[(12,.im (.int .i64 k.1)),(11,.own 4),(5,.own 2),(0,.im (.int .i64 n))],[(4,(true,.arrA 22 1 (Bm ((BK (Cu n a.2 a.2.length) n k.1).map DA)))),(2,(true,.arr 2 1 ((Cu n a.2 a.2.length).map Af)))],5⟩,λk=>n - k.1,λk=>⟨by simp[ZG,Qxu],by simp⟩,⟨⟨0,by simp⟩,[],[(4,some 3)],?_⟩,λk=> ?_⟩
 .simp only[Am];simp only[ZZ,simprocAttr,Ab,Jd,AN,AM,BK,Bg,YC]
  try simp
 obtain⟨k,Q⟩:=k;obtain⟨own,hown⟩: ∃own,own=Cu n a.2 a.2.length:=⟨_,rfl⟩;simp only[<-hown] at G⊢;have am:=tM own n k;simp only[ZZ,simprocAttr,Ab,Jd,sub,AS,G];refine⟨λz=>⟨z,z,λx hx=>⟨λO=>⟨⟨k+1,by omega⟩,[],[(4,some 4)],by simp only;omega,?_⟩,λO=> ?_⟩⟩,λz=> ?_⟩
 .have e1:BK own n (k+1)=BK own n k:=by
   simp only[BK];rw[Ag (by rw[hx];simpa using O),Ck]
  simp only[Am];simp only[ZZ,simprocAttr,Ab,Jd,AN,AM,Qzb,Qsg,e1];rw[AH (by omega) (by omega)];simp
 .have O:=HJ.1 O;refine AZ.ren ⟨{m:Nat//m<=n - k},λm=>⟨[(14,.im (.int .i64 ((k+m.1:Nat):Int))),(13,.own 6),(12,.im (.int .i64 k)),(11,.own 4),(5,.own 2),(0,.im (.int .i64 n))],[(6,(true,.arr 2 1 ((DB own k m.1).map Af))),(4,(true,.arrA 22 1 (Bm ((BK own n k).map DA)))),(2,(true,.arr 2 1 (own.map Af)))],7⟩,λm=>n - k - m.1,λm=>⟨by simp[ZG,Qxu],by simp⟩,⟨⟨0,by simp⟩,[(6,some 5)],?_⟩,λm=> ?_⟩
  .simp only[Am];simp only[ZZ,simprocAttr,Ab,Jd,AN,AM,DB,Bg,Qsg]
   try simp
  obtain⟨m,aq⟩:=m;have an:=Qsd own k m;simp only[ZZ,simprocAttr,Ab,Jd,sub,AS,G,Oc,NZ,Ob,BZ,D.one,EL,Fu,Jn];refine⟨λhm=>⟨hm,hm,λv hv=>⟨λh=>⟨by omega,⟨m+1,by omega⟩,[(6,some 8)],by simp only;omega,?_⟩,λh=>⟨⟨m+1,by omega⟩,[(6,some 6)],by simp only;omega,?_⟩⟩⟩,λhm=>⟨by simp[AQ,AV.bel],by omega,by rw[nR,qC];simp[AQ,AV.bel],⟨k+1,by omega⟩,[6],[(4,some 8)],by simp only;omega,?_⟩⟩
  .simp only[Am];simp only[ZZ,simprocAttr,Ab,Jd,AN,AM,Qsg];refine⟨?_,?_⟩
   .rw[AH (by omega) (by omega)];omega
   .subst h;simp only[DB];rw[Al hv];simp[Af]
  .simp only[Am];simp only[ZZ,simprocAttr,Ab,Jd,AN,AM,Qsg];refine⟨?_,?_⟩
   .rw[AH (by omega) (by omega)];omega
   .simp only[DB];rw[Ag (by rw[hv];simpa using h),Ck]
  .have ai:m=n - k:=by omega
   have e1:BK own n (k+1)=BK own n k++[DB own k m]:=by
    simp only[BK];rw[Al (by rw[hx,O]),ai]
   simp only[Am];simp only[ZZ,simprocAttr,Ab,Jd,AN,AM,Qzl,Qzb,e1,CV,Bf,Bg];rw[AH (by omega) (by omega)];refine⟨by simp,?_⟩
   have:=Qzo [(4,some 8)] ((BK own n k).map DA++[[D.sl false 1 ((DB own k m).map Af)]])
   simpa only[Bm,CV,Bf,Bg] using this
 .have:k=n:=by omega
  subst this;simp only[ZZ,simprocAttr,Ab,Jd,Yn]
end Go.Ae
namespace Go.Ae
open Go.Proofs Go.Lib
def DS(f:AV->List Nat)(z:Bool)(T:TypeId)(k:Nat)(rows:List (List D)):Iz f (some (z,.arr T k rows))=[]:=rfl
def DJ(x:List (List AV)): ∀(rows:List (List D)),B7 ((rows.map λr=>r.map AV.im)++x)=B7 x
 |[]=>rfl
 |r::rows=>by
  have h: ∀l:List D,Ax (l.map AV.im)=[]:=by
   intro l;induction l with
   |nil=>rfl
   |cons d l ih=>simp only[Bf,Ax,AV.nms,ih,Ck]
  simp only[Bf,Ci,B7,h,Dv];exact DJ x rows
def DT(n:Nat)(x:List (List AV))(rows:List (List D)):((rows.map λr=>r.map AV.im)++x).all (AQ n)=x.all (AQ n):=by
 rw[nR,qC,ED]
def decm_.fv(a:Int):ByteArray:=(ES) a
def decm_.row:AG:=CY (b1 qI) rT (λa=>0<=a/\a<=9223372036854775807) decm_.fv
def decm_.q:=CD (R:=decm_.row) rfl
def decm_.ok:AJ 50 decm_.row:=by
 refine FM tN Tryz.func50 ?_;intro a G;simp only[Tryz.f50,Option.getD];simp(disch:=omega)only[ZZ,simprocAttr,Ab,decm_.fv,BD,D.sc,D.scs,B6,AP];refine AZ.old ⟨{q:Int×ByteArray//0<=q.1/\q.1<=a/\(if q.1=0 then [] else itoa q.1)++EG q.2=if a=0 then [] else itoa a},λq=>⟨[(4,.im (.int .i64 q.1.1)),(3,.im (.str q.1.2)),(2,.im (.str ByteArray.empty)),(0,.im (.int .i64 a))],[],0⟩,λq=>q.1.1.toNat,λq=>⟨by simp[ZG],by simp⟩,⟨⟨(a,ByteArray.empty),G.1,RV _,by simp[EG]⟩,by simp(disch:=omega)only[ZZ,simprocAttr,Ab,decm_.fv,BD,D.sc,D.scs,B6,AP,sub];rfl⟩,λq=> ?_⟩;obtain⟨⟨m,s⟩,Q,h2,z⟩:=q;simp only at Q h2 z;have h3:s.size<=21:=by
  have l1:=Cl List.length z;have l2:=M6 (n:=a) (by omega) (by omega);have l3:(EG s).length=s.size:=by rw[EG,Fj];rfl
  rw[Bz,l3] at l1;have l4:(if a=0 then [] else itoa a).length<=21:=by
   by_cases c:a=0
   .rw[Al c];exact BV _
   .rw[Ag c];exact l2
  omega
 have e1:m.tmod 10=m % 10:=iD Q;have O:m.tdiv 10=m/10:=ZeC Q;have e3:IntKind.i64.wrap (48+m % 10)=48+m % 10:=AH (by omega) (by omega);have e4:IntKind.u8.wrap (48+m % 10)=48+m % 10:=by
  unfold IntKind.wrap;have e:IntKind.u8.bits=8:=rfl;have O:IntKind.u8.signed=false:=rfl;simp only[e,O,FT,Dp,CN];omega
 simp(disch:=omega)only[ZZ,simprocAttr,Ab,decm_.fv,BD,D.sc,D.scs,B6,AP,sub,AS,e1,O,e3,e4];have e5:(⟨#[UInt8.ofNat (48+m % 10).toNat]⟩:ByteArray).size=1:=rfl;refine⟨λZ=>⟨λh=>by omega,λ_=>⟨by rw[e5];omega,⟨⟨(m/10,⟨#[UInt8.ofNat (48+m % 10).toNat]⟩++s),by simp only;omega,by simp only;omega,?_⟩,by simp only;omega,AH (by omega) (by omega),rfl⟩⟩⟩,λZ=>⟨λh=> ?_,λh=>⟨λh2=>by omega,λ_=> ?_⟩⟩⟩
 .simp only;rw[Ag Z] at z;rw[<-z];obtain⟨k,rfl⟩: ∃k:Nat,m=k:=⟨m.toNat,by omega⟩;have e6:EG (⟨#[UInt8.ofNat (48+(k:Int) % 10).toNat]⟩++s)=UInt8.ofNat (48+k % 10)::EG s:=by
   have:(48+(k:Int) % 10).toNat=48+k % 10:=by omega
   rw[this];simp[EG]
  rw[e6];have e7:itoa ((k:Nat):Int)=decDigits k:=by
   unfold itoa;rw[Ag (by omega),B5]
  have e8:itoa ((k:Nat)/10:Int)=decDigits (k/10):=by
   unfold itoa;rw[Ag (by omega)];congr 1
  rw[e7,e8]
  conv=>rhs;rw[decDigits]
  by_cases c:k<10
  .rw[dif_pos c,Al (by omega),Nat.mod_eq_of_lt c];rfl
  .rw[dif_neg c,Ag (by omega)];simp
 .subst h;simp[ES,itoa,decDigits]
 .rw[Al (HJ.1 Z),Ag h] at z
  have:s=ES a:=by
   have h5:EG s=itoa a:=by simpa using z
   cases s with|mk d=>cases d with|mk l=>simp[EG] at h5;subst h5;rfl
  exact this
def Cf(g:List Ak)(t:List Tile):Ar:=[(0,(true,.cells 91 [.own 1,.own 2])),(1,(true,.arr 66 2 (g.map Ak.c))),(2,(true,.arr 64 2 (t.map Tile.c)))]
abbrev Mk:=List Ak×List Tile
def glN(g:List Ak)(nm:ByteArray):Int:=if Bu g nm=0 then (g.length:Int)+1 else Bu g nm
def Eu(g:List Ak)(t:List Tile)(j:Nat):An (Cf g t) j=true↔j<3:=by
 simp only[An,Cf,hget];by_cases h0:j=0
 .subst h0;simp
 by_cases z:j=1
 .subst z;simp
 by_cases G:j=2
 .subst G;simp
 have O:(0==j)=false:=by simpa using λh=>h0 h.symm
 have Q:(1==j)=false:=by simpa using λh=>z h.symm
 have Z:(2==j)=false:=by simpa using λh=>G h.symm
 simp[O,Q,Z];omega
def l02GF.fv(a:AE×ByteArray):Int:=(λs n=>Bu s.Glues n) (a.1) (a.2)
def l02GF.row:AG:=CY (b2 (qP 2 AE.d_le) qT) rI (λa=>True) l02GF.fv
def l02GF.q:=CD (R:=l02GF.row) rfl
def l02GF.ok:AJ 75 l02GF.row:=NG (λ_=>rfl) l02Glue.ok
def l02TF.fv(a:AE×ByteArray):Int:=(λs n=>lH s.Tiles n) (a.1) (a.2)
def l02TF.row:AG:=CY (b2 (qP 2 AE.d_le) qT) rI (λa=>True) l02TF.fv
def l02TF.q:=CD (R:=l02TF.row) rfl
def l02TF.ok:AJ 76 l02TF.row:=NG (λ_=>rfl) l02Tile.ok
def sid_.fv(a:AE×ByteArray):Int:=(λs n=>Bu s.Glues n) (a.1) (a.2)
def sid_.row:AG:=CY (b2 (qP 2 AE.d_le) qT) rI (λa=>True) sid_.fv
def sid_.q:=CD (R:=sid_.row) rfl
def sid_.ok:AJ 77 sid_.row:=by
 refine FM (tC l02GF.ok tN) Tryz.func77 ?_;intro a z;simp only[Tryz.f77,Option.getD];simp(disch:=omega)only[ZZ,simprocAttr,Ab,sid_.fv,l02GF.q,l02GF.fv,BD,D.sc,D.scs,B6,AP]
def sgC.ca(a:Mk×Ak):List AV:=[.ptr 0 0,.im (.str a.2.Name),.im (.int .i64 a.2.Strength)]
def sgC.H0(a:Mk×Ak):Ar:=Cf a.1.1 a.1.2
def sgC.H1(a:Mk×Ak):Ar:=[(0,(true,.cells 91 [.own 3,.own 2])),(3,(true,.arr 66 2 ((Kj a.1.1 a.2).map Ak.c)))]
def El(j:Nat):Bool:=j==0||j==1
def sgC.row:AG:=Az sgC.ca sgC.H0 3 (λa=>a.1.1.length<=1000000) El (λa=> .im (.int .i64 (glN a.1.1 a.2.Name))) sgC.H1 20
def wE:=J @l02GF.q @l02GF.fv.eq_1
def sgC.ok:AJ 49 sgC.row:=by
 refine Ha (tC l02GF.ok tN) Tryz.func49 (exB:=λj=>j==3) (R:=λa r=>r= .im (.int .i64 (glN a.1.1 a.2.Name))) (λ_=>rfl)
  (λa=>by simp[sgC.ca,sgC.H0,sgC.H1,Cf,El,AQ,AV.bel,AB,Cg,Cs,Ah.nms,Ax,AV.nms,An,hget]) (λa p hp=> ?_) (λa r h=>by subst h;exact D2.refl _) ?_
 rotate_left
 intro a z;simp only[Tryz.f49,Option.getD,sgC.ca,sgC.H0,sgC.H1,Cf,El];simp(disch:=omega)only[ZZ,simprocAttr,Ab,wE,AD,Av,sgC.ca,sgC.H0,sgC.H1,Cf,El];rotate_left
 .simp only[sgC.H1,Bw,G7,Gd] at hp;rcases hp with rfl|rfl
  .exact .inl ⟨by omega,rfl,rfl⟩
  .exact .inr ⟨by omega,by omega,rfl,rfl⟩
 obtain⟨⟨g,t⟩,x⟩:=a;simp only at z⊢
 split<;>rename_i c
 .have G:List.map Ak.c g++[[D.str x.Name,D.int .i64 x.Strength]]=(Kj g x).map Ak.c:=by rw[show Kj g x=g++[x] from Al c,CV];rfl
  have Q:((((Kj g x).map Ak.c).length:Nat):Int)=glN g x.Name:=by rw[show Kj g x=g++[x] from Al c,glN,Al c];simp
  rw[G,Q];refine⟨by omega,λ_=> ?_⟩;refine⟨[],[(3,some 4)],⟨[(6,.im (.int .i64 (glN g x.Name)))],[(0,(true,.cells 91 [.own 3,.own 2])),(3,(true,.arr 66 2 ((Kj g x).map Ak.c))),(2,(true,.arr 64 2 (t.map Tile.c)))],4⟩,?_,by simp[ZG],by simp,?_⟩
  .simp only[Am];simp(disch:=omega)only[ZZ,simprocAttr,Ab,wE,AD,Av,sgC.ca,sgC.H0,sgC.H1,Cf,El,AN,AM]
  .simp(disch:=omega)only[ZZ,simprocAttr,Ab,wE,AD,Av,sgC.ca,sgC.H0,sgC.H1,Cf,El,sgC.H1,El]
 .have O:glN g x.Name=Bu g x.Name:=Ag c;have G:Kj g x=g:=Ag c;rw[O];refine⟨[],[(3,some 1)],⟨[(6,.im (.int .i64 (Bu g x.Name)))],[(0,(true,.cells 91 [.own 3,.own 2])),(3,(true,.arr 66 2 (g.map Ak.c))),(2,(true,.arr 64 2 (t.map Tile.c)))],4⟩,?_,by simp[ZG],by simp,?_⟩
  .simp only[Am];simp(disch:=omega)only[ZZ,simprocAttr,Ab,wE,AD,Av,sgC.ca,sgC.H0,sgC.H1,Cf,El,AN,AM]
  .simp(disch:=omega)only[ZZ,simprocAttr,Ab,wE,AD,Av,sgC.ca,sgC.H0,sgC.H1,Cf,El,sgC.H1,El,G]
def stC.ca(a:Mk×ByteArray×ByteArray×ByteArray×ByteArray×ByteArray):List AV:=[.ptr 0 0,.im (.str a.2.1),.im (.str a.2.2.1),.im (.str a.2.2.2.1),.im (.str a.2.2.2.2.1),.im (.str a.2.2.2.2.2)]
def VN(a:Mk×ByteArray×ByteArray×ByteArray×ByteArray×ByteArray):Tile:=AL (Bu a.1.1) a.2.1 a.2.2.1 a.2.2.2.1 a.2.2.2.2.1 a.2.2.2.2.2
def stC.H0(a:Mk×ByteArray×ByteArray×ByteArray×ByteArray×ByteArray):Ar:=Cf a.1.1 a.1.2
def stC.H1(a:Mk×ByteArray×ByteArray×ByteArray×ByteArray×ByteArray):Ar:=[(0,(true,.cells 91 [.own 1,.own 3])),(3,(true,.arr 64 2 ((EU a.1.2 (VN a)).map Tile.c)))]
def BC(j:Nat):Bool:=j==0||j==2
def stC.row:AG:=Az stC.ca stC.H0 3 (λa=>a.1.2.length<=1000000) BC (λa=> .im (.int .i64 (Gp a.1.2 a.2.1))) stC.H1 20
def wF:=J @l02TF.q<|J @l02TF.fv.eq_1<|J @sid_.q @sid_.fv.eq_1
def stC.ok:AJ 51 stC.row:=by
 refine Ha (tC l02TF.ok (tC sid_.ok tN)) Tryz.func51 (exB:=λj=>j==3) (R:=λa r=>r= .im (.int .i64 (Gp a.1.2 a.2.1))) (λ_=>rfl)
  (λa=>by simp[stC.ca,stC.H0,stC.H1,Cf,BC,DS,DJ,DT,EE,Hr,Gc,AQ,AV.bel,AB,Cg,Cs,Ah.nms,Ax,AV.nms,An,hget]) (λa p hp=> ?_) (λa r h=>by subst h;exact D2.refl _) ?_
 rotate_left
 intro a z;simp only[Tryz.f51,Option.getD,stC.ca,stC.H0,stC.H1,Cf,BC,DS,DJ,DT,EE,Hr,Gc];simp(disch:=omega)only[ZZ,simprocAttr,Ab,wF,AD,Av,stC.ca,stC.H0,stC.H1,Cf,BC,DS,DJ,DT,EE,Hr,Gc];rotate_left
 .simp only[stC.H1,Bw,G7,Gd] at hp;rcases hp with rfl|rfl
  .exact .inl ⟨by omega,rfl,rfl⟩
  .exact .inr ⟨by omega,by omega,rfl,rfl⟩
 obtain⟨⟨g,t⟩,x,a,b,c,d⟩:=a;simp only at z⊢
 split<;>rename_i h
 .have e:EU t (AL (Bu g) x a b c d)=t++[AL (Bu g) x a b c d]:=Al h;have G:(List.map Tile.c (EU t (AL (Bu g) x a b c d))).map (λr=>r.map AV.im)=(t.map Tile.c).map (λr=>r.map AV.im)++[[.im (.str x),.im (.sl false 1 [[D.int .i64 (Bu g a)],[D.int .i64 (Bu g b)],[D.int .i64 (Bu g c)],[D.int .i64 (Bu g d)]])]]:=by rw[e,CV,CV];rfl
  have Q:IntKind.i64.wrap ((((t.map Tile.c).map (λr=>r.map AV.im)++[[AV.im (.str x),AV.own 3]]).length:Nat) - 1:Int)=Gp t x:=by
   simp only[Bz,Du,RQ];rw[Gp,Al h,AH (by omega) (by omega)];omega
  rw[Q];refine⟨by omega,λ_=> ?_⟩;refine⟨[3],[(3,some 5)],⟨[(12,.im (.int .i64 (Gp t x)))],[(0,(true,.cells 91 [.own 1,.own 3])),(1,(true,.arr 66 2 (g.map Ak.c))),(3,(true,.arr 64 2 ((EU t (AL (Bu g) x a b c d)).map Tile.c)))],4⟩,?_,by simp[ZG],by simp,?_⟩
  .simp only[Am];simp(disch:=omega)only[ZZ,simprocAttr,Ab,wF,AD,Av,stC.ca,stC.H0,stC.H1,Cf,BC,DS,DJ,DT,EE,Hr,Gc,AN,AM,Qzl,Qzb,G]
  .simp(disch:=omega)only[ZZ,simprocAttr,Ab,wF,AD,Av,stC.ca,stC.H0,stC.H1,Cf,BC,DS,DJ,DT,EE,Hr,Gc,stC.H1,BC,VN]
 .have O:Gp t x=lH t x:=Ag h;have G:EU t (AL (Bu g) x a b c d)=t:=Ag h;rw[O];refine⟨[],[(3,some 2)],⟨[(12,.im (.int .i64 (lH t x)))],[(0,(true,.cells 91 [.own 1,.own 3])),(1,(true,.arr 66 2 (g.map Ak.c))),(3,(true,.arr 64 2 (t.map Tile.c)))],4⟩,?_,by simp[ZG],by simp,?_⟩
  .simp only[Am];simp(disch:=omega)only[ZZ,simprocAttr,Ab,wF,AD,Av,stC.ca,stC.H0,stC.H1,Cf,BC,DS,DJ,DT,EE,Hr,Gc,AN,AM]
  .simp(disch:=omega)only[ZZ,simprocAttr,Ab,wF,AD,Av,stC.ca,stC.H0,stC.H1,Cf,BC,DS,DJ,DT,EE,Hr,Gc,stC.H1,BC,VN,G]
def Ef(g l:List Ak):List Ak:=l.foldl Kj g
def Dh(t l:List Tile):List Tile:=l.foldl EU t
def Oi(g l:List Ak)(x:Ak):Kj (Ef g l) x=Ef g (l++[x]):=by simp[Ef]
def Xk(t l:List Tile)(x:Tile):EU (Dh t l) x=Dh t (l++[x]):=by simp[Dh]
def HR(g l:List Ak):(Ef g l).length<=g.length+l.length:=by
 induction l generalizing g with
 |nil=>simp[Ef]
 |cons x l ih=>
  have:=ih (Kj g x)
  simp only[Ef] at this;simp only[Ef,KN,CR];have z:(Kj g x).length<=g.length+1:=by
   simp only[Kj]
   split<;>simp
  omega
def K7(g l:List Tile):(Dh g l).length<=g.length+l.length:=by
 induction l generalizing g with
 |nil=>simp[Dh]
 |cons x l ih=>
  have:=ih (EU g x)
  simp only[Dh] at this;simp only[Dh,KN,CR];have z:(EU g x).length<=g.length+1:=by
   simp only[EU]
   split<;>simp
  omega
def I1(t:List Tile):List Tile->List Int
 |[]=>[]
 |x::r=>Gp t x.Name::I1 (EU t x) r
def sP(t:List Tile)(l:List Tile)(x:Tile):I1 t (l++[x])=I1 t l++[Gp (Dh t l) x.Name]:=by
 induction l generalizing t with
 |nil=>rfl
 |cons y l ih=>simp only[Ci,I1,ih,Dh,KN]
def N9(t l:List Tile):(I1 t l).length=l.length:=by
 induction l generalizing t with
 |nil=>rfl
 |cons y l ih=>simp only[I1,CR,ih]
def Oj(w:ByteArray)(n:Nat)(st:Int):AY w (n+1) st=AY w n st++[⟨Ac w (n:Nat),st⟩]:=by simp[AY,XQ]
def EK(w:ByteArray)(n:Nat)(st:Int):(AY w n st).length=n:=by simp[AY]
def G1{A:Type}(f:Nat->A)(n:Nat):(List.range (n+1)).map f=(List.range n).map f++[f n]:=by simp[XQ]
abbrev Sd:=Mk×List Int×ByteArray×ByteArray
def kQ(a:Sd):List Ak:=Ef a.1.1 (AY ⟨#[115]⟩ (a.2.1.length+1) 2)
def EY(z:ByteArray->Int)(e G:ByteArray)(l:List Int)(k:Nat):List Tile:=
 [AL z ⟨#[108,101,102,116]⟩ G (Ac ⟨#[115]⟩ 0) e e]++(List.range k).map (λk=>AL z (Ac ⟨#[115,116,97,114,116]⟩ (k:Nat)) (Ac ⟨#[118]⟩ ((l[k]?).getD 0)) (Ac ⟨#[115]⟩ ((k:Nat)+1:Int)) e (Ac ⟨#[115]⟩ (k:Nat)))
def Xi(z:ByteArray->Int)(e G O:ByteArray)(l:List Int):DF z e G O l=EY z e G l l.length++[AL z ⟨#[114,105,103,104,116]⟩ O e e (Ac ⟨#[115]⟩ (l.length:Nat))]:=rfl
def sO(z:ByteArray->Int)(e G:ByteArray)(l:List Int)(k:Nat):EY z e G l (k+1)=EY z e G l k++[AL z (Ac ⟨#[115,116,97,114,116]⟩ (k:Nat)) (Ac ⟨#[118]⟩ ((l[k]?).getD 0)) (Ac ⟨#[115]⟩ ((k:Nat)+1:Int)) e (Ac ⟨#[115]⟩ (k:Nat))]:=by
 simp only[EY];rw[G1,Ej]
def Rt(G:ByteArray->Int)(e z:ByteArray)(l:List Int)(k:Nat):(EY G e z l k).length=k+1:=by simp[EY]
def PP(a:Sd):List Tile:=DF (Bu (kQ a)) ByteArray.empty a.2.2.1 a.2.2.2 a.2.1
def ssC.ca(a:Sd):List AV:=[.ptr 0 0,.im (.sl false 1 (a.2.1.map Af)),.im (.str a.2.2.1),.im (.str a.2.2.2)]
def ssC.H0(a:Sd):Ar:=Cf a.1.1 a.1.2
def ssC.H1(a:Sd):Ar:=[(0,(true,.cells 91 [.own 3,.own 4])),(3,(true,.arr 66 2 ((kQ a).map Ak.c))),(4,(true,.arr 64 2 ((Dh a.1.2 (PP a)).map Tile.c))),(5,(true,.arr 2 1 ((I1 a.1.2 (PP a)).map Af)))]
def Ds(j:Nat):Bool:=j==0||(j==1||j==2)
def ssC.row:AG:=Az ssC.ca ssC.H0 3 (λa=>a.1.1.length<=1000/\a.1.2.length<=1000/\a.2.1.length<=100/\ ∀x∈a.2.1,0<=x/\x<=100) Ds (λ_=> .own 5) ssC.H1 100
def G2(w:ByteArray)(n:Int):w++ES n=Ac w n:=rfl
def yK:ES 0=⟨#[48]⟩:=by simp[ES,itoa,decDigits]
def Vp:(⟨#[115,48]⟩:ByteArray)=Ac ⟨#[115]⟩ 0:=by rw[Ac,yK];rfl
def Jv:(⟨#[]⟩:ByteArray)=ByteArray.empty:=rfl
def D8(j:Nat):Bool:=j==3||(j==4||j==5)
def Je:=J @decm_.q @decm_.fv.eq_1
def ssC.ok:AJ 55 ssC.row:=by
 refine Ha (tC decm_.ok (tC sgC.ok (tC stC.ok tN))) Tryz.func55 (exB:=D8) (R:=λa r=>r= .own 5) (λ_=>rfl)
  (λa=>by simp[ssC.ca,ssC.H0,ssC.H1,Cf,Ds,D8,AQ,AV.bel,AB,Cg,Cs,Ah.nms,Ax,AV.nms,An,hget]) (λa p hp=> ?_) (λa r h=>by subst h;exact D2.refl _) ?_
 rotate_left
 intro a aa;simp only[Tryz.f55,Option.getD,ssC.ca,ssC.H0,ssC.H1,Cf,Ds,D8];simp(disch:=omega)only[ZZ,simprocAttr,Ab,Je,AD,Av,ssC.ca,ssC.H0,ssC.H1,Cf,Ds,D8];rotate_left
 .simp only[ssC.H1,Bw,G7,Gd] at hp;rcases hp with rfl|rfl|rfl|rfl
  .exact .inl ⟨by omega,rfl,rfl⟩
  .exact .inr ⟨by omega,by omega,rfl,rfl⟩
  .exact .inr ⟨by omega,by omega,rfl,rfl⟩
  .exact .inr ⟨by omega,by omega,rfl,rfl⟩
 obtain⟨⟨g,t⟩,l,z,O⟩:=a;obtain⟨p1,p2,p3,p4⟩:=aa;simp only at p1 p2 p3 p4⊢;have s1:(⟨#[115]⟩:ByteArray).size=1:=rfl;intro _;refine AZ.ren ⟨{k:Nat//k<=l.length+1},λk=>⟨[(10,.im (.int .i64 k.1)),(9,.im (.int .i64 l.length)),(0,.ptr 0 0),(1,.im (.sl false 1 (l.map Af))),(2,.im (.str z)),(3,.im (.str O))],[(0,(true,.cells 91 [.own 4,.own 2])),(4,(true,.arr 66 2 ((Ef g (AY ⟨#[115]⟩ k.1 2)).map Ak.c))),(2,(true,.arr 64 2 (t.map Tile.c)))],5⟩,λk=>l.length+1 - k.1,λk=>⟨by simp[ZG],by simp⟩,⟨⟨0,BV _⟩,[(4,some 1)],?_⟩,λk=> ?_⟩
 .simp only[Am];simp(disch:=omega)only[ZZ,simprocAttr,Ab,Je,AD,Av,ssC.ca,ssC.H0,ssC.H1,Cf,Ds,D8,AN,AM,AY,Ef,Ho,Bg,XU]
 obtain⟨k,hk⟩:=k;have ac:=HR g (AY ⟨#[115]⟩ k 2);rw[EK] at ac;have ik:=Dr (n:=(k:Int)) (by omega) (by omega);simp(disch:=omega)only[ZZ,simprocAttr,Ab,Je,AD,Av,ssC.ca,ssC.H0,ssC.H1,Cf,Ds,D8,sub,AS];refine⟨λQ=>⟨by omega,by omega,?_⟩,λQ=> ?_⟩
 .simp only[G2];refine Az.os ((Ef g (AY ⟨#[115]⟩ k 2),t),(⟨Ac ⟨#[115]⟩ k,2⟩:Ak)) [0,4,2] (by simp only;omega) (λj=>Eu _ _ j) rfl rfl ?_ ?_
  .simp(disch:=omega)only[ZZ,simprocAttr,Ab,Je,AD,Av,ssC.ca,ssC.H0,ssC.H1,Cf,Ds,D8,sgC.ca,sgC.H0,Cf,Bb,Br,Bx]
   try exact⟨rfl,rfl⟩
  have hw:IntKind.i64.wrap ((k:Int)+1)=((k+1:Nat):Int):=by rw[AH (by omega) (by omega)];omega
  have hs:=Oi g (AY ⟨#[115]⟩ k 2) ⟨Ac ⟨#[115]⟩ k,2⟩;rw[<-Oj] at hs;simp(disch:=omega)only[ZZ,simprocAttr,Ab,Je,AD,Av,ssC.ca,ssC.H0,ssC.H1,Cf,Ds,D8,sgC.H1,El,sub,hw,hs];refine⟨⟨k+1,by omega⟩,[(4,some 5)],by simp only;omega,?_⟩;simp only[Am];simp(disch:=omega)only[ZZ,simprocAttr,Ab,Je,AD,Av,ssC.ca,ssC.H0,ssC.H1,Cf,Ds,D8,AN,AM]
 obtain rfl:k=l.length+1:=by omega
 obtain⟨G,hG⟩: ∃G,G=Ef g (AY ⟨#[115]⟩ (l.length+1) 2):=⟨_,rfl⟩;simp only[<-hG,Vp,Jv];refine Az.os ((G,t),⟨#[108,101,102,116]⟩,z,Ac ⟨#[115]⟩ 0,ByteArray.empty,ByteArray.empty) [0,4,2] (by simp only;omega) (λj=>Eu _ _ j) rfl rfl ?_ ?_
 .simp(disch:=omega)only[ZZ,simprocAttr,Ab,Je,AD,Av,ssC.ca,ssC.H0,ssC.H1,Cf,Ds,D8,stC.ca,stC.H0,Cf,Bb,Br,Bx]
  try exact⟨rfl,rfl⟩
 simp(disch:=omega)only[ZZ,simprocAttr,Ab,Je,AD,Av,ssC.ca,ssC.H0,ssC.H1,Cf,Ds,D8,stC.H1,VN,BC,sub];have ab:EU t (AL (Bu G) ⟨#[108,101,102,116]⟩ z (Ac ⟨#[115]⟩ 0) ByteArray.empty ByteArray.empty)=Dh t (EY (Bu G) ByteArray.empty z l 0):=rfl;have ai:I1 t (EY (Bu G) ByteArray.empty z l 0)=[Gp t ⟨#[108,101,102,116]⟩]:=rfl;refine AZ.ren ⟨{k:Nat//k<=l.length},λk=>⟨[(12,.im (.int .i64 k.1)),(11,.own 27),(9,.im (.int .i64 l.length)),(0,.ptr 0 0),(1,.im (.sl false 1 (l.map Af))),(2,.im (.str z)),(3,.im (.str O))],[(0,(true,.cells 91 [.own 4,.own 26])),(4,(true,.arr 66 2 (G.map Ak.c))),(26,(true,.arr 64 2 ((Dh t (EY (Bu G) ByteArray.empty z l k.1)).map Tile.c))),(27,(true,.arr 2 1 ((I1 t (EY (Bu G) ByteArray.empty z l k.1)).map Af)))],28⟩,λk=>l.length - k.1,λk=>⟨by simp[ZG],by simp⟩,⟨⟨0,BV _⟩,[(26,some 5),(27,some 25)],?_⟩,λk=> ?_⟩
 .simp only[Am];simp(disch:=omega)only[ZZ,simprocAttr,Ab,Je,AD,Av,ssC.ca,ssC.H0,ssC.H1,Cf,Ds,D8,AN,AM,ab,ai]
 obtain⟨k,hk⟩:=k;have ag:=K7 t (EY (Bu G) ByteArray.empty z l k);rw[Rt] at ag;have aj:=N9 t (EY (Bu G) ByteArray.empty z l k);rw[Rt] at aj;have ik:=Dr (n:=(k:Int)) (by omega) (by omega);have ak:=Dr (n:=(k:Int)+1) (by omega) (by omega);have hw:IntKind.i64.wrap ((k:Int)+1)=(k:Int)+1:=AH (by omega) (by omega);have s2:(⟨#[115,116,97,114,116]⟩:ByteArray).size=5:=rfl;have s3:(⟨#[118]⟩:ByteArray).size=1:=rfl;simp(disch:=omega)only[ZZ,simprocAttr,Ab,Je,AD,Av,ssC.ca,ssC.H0,ssC.H1,Cf,Ds,D8,sub,AS,hw,Jv];refine⟨λQ=>⟨by omega,by omega,Q,λx hx=> ?_⟩,λQ=> ?_⟩
 .obtain⟨x1,x2⟩:=p4 x (Bh hx);have ix:=Dr (n:=x) (by omega) (by omega);refine⟨⟨by omega,by omega⟩,by omega,⟨by omega,by omega⟩,by omega,by omega,by omega,?_⟩;simp only[G2];refine Az.os ((G,Dh t (EY (Bu G) ByteArray.empty z l k)),Ac ⟨#[115,116,97,114,116]⟩ k,Ac ⟨#[118]⟩ x,Ac ⟨#[115]⟩ ((k:Int)+1),ByteArray.empty,Ac ⟨#[115]⟩ k) [0,4,26] (by simp only;omega) (λj=>Eu _ _ j) rfl rfl ?_ ?_
  .simp(disch:=omega)only[ZZ,simprocAttr,Ab,Je,AD,Av,ssC.ca,ssC.H0,ssC.H1,Cf,Ds,D8,stC.ca,stC.H0,Cf,Bb,Br,Bx]
   try exact⟨rfl,rfl⟩
  have hs:=sO (Bu G) ByteArray.empty z l k;rw[hx,AW] at hs;have hT:=Xk t (EY (Bu G) ByteArray.empty z l k) (AL (Bu G) (Ac ⟨#[115,116,97,114,116]⟩ k) (Ac ⟨#[118]⟩ x) (Ac ⟨#[115]⟩ ((k:Int)+1)) ByteArray.empty (Ac ⟨#[115]⟩ k));have hX:=sP t (EY (Bu G) ByteArray.empty z l k) (AL (Bu G) (Ac ⟨#[115,116,97,114,116]⟩ k) (Ac ⟨#[118]⟩ x) (Ac ⟨#[115]⟩ ((k:Int)+1)) ByteArray.empty (Ac ⟨#[115]⟩ k));rw[<-hs] at hT hX;have Z:(I1 t (EY (Bu G) ByteArray.empty z l k)).map Af++[[D.int .i64 (Gp (Dh t (EY (Bu G) ByteArray.empty z l k)) (Ac ⟨#[115,116,97,114,116]⟩ k))]]=(I1 t (EY (Bu G) ByteArray.empty z l (k+1))).map Af:=by rw[hX,CV];rfl
  simp(disch:=omega)only[ZZ,simprocAttr,Ab,Je,AD,Av,ssC.ca,ssC.H0,ssC.H1,Cf,Ds,D8,stC.H1,VN,BC,sub,hT,Z];have ah:IntKind.i64.wrap ((k:Int)+1)=((k+1:Nat):Int):=by rw[hw];omega
  refine⟨by omega,⟨k+1,by omega⟩,[(26,some 28),(27,some 49)],by simp only;omega,?_⟩;simp only[Am];simp(disch:=omega)only[ZZ,simprocAttr,Ab,Je,AD,Av,ssC.ca,ssC.H0,ssC.H1,Cf,Ds,D8,AN,AM,ah]
 .obtain rfl:k=l.length:=by omega
  refine⟨by omega,by omega,?_⟩;simp only[G2];refine Az.os ((G,Dh t (EY (Bu G) ByteArray.empty z l l.length)),⟨#[114,105,103,104,116]⟩,O,ByteArray.empty,ByteArray.empty,Ac ⟨#[115]⟩ (l.length:Nat)) [0,4,26] (by simp only;omega) (λj=>Eu _ _ j) rfl rfl ?_ ?_
  .simp(disch:=omega)only[ZZ,simprocAttr,Ab,Je,AD,Av,ssC.ca,ssC.H0,ssC.H1,Cf,Ds,D8,stC.ca,stC.H0,Cf,Bb,Br,Bx]
   try exact⟨rfl,rfl⟩
  have hs:=Xi (Bu G) ByteArray.empty z O l;have hT:=Xk t (EY (Bu G) ByteArray.empty z l l.length) (AL (Bu G) ⟨#[114,105,103,104,116]⟩ O ByteArray.empty ByteArray.empty (Ac ⟨#[115]⟩ (l.length:Nat)));have hX:=sP t (EY (Bu G) ByteArray.empty z l l.length) (AL (Bu G) ⟨#[114,105,103,104,116]⟩ O ByteArray.empty ByteArray.empty (Ac ⟨#[115]⟩ (l.length:Nat)));rw[<-hs] at hT hX;have Z:(I1 t (EY (Bu G) ByteArray.empty z l l.length)).map Af++[[D.int .i64 (Gp (Dh t (EY (Bu G) ByteArray.empty z l l.length)) ⟨#[114,105,103,104,116]⟩)]]=(I1 t (DF (Bu G) ByteArray.empty z O l)).map Af:=by rw[hX,CV];rfl
  have ad:PP ((g,t),l,z,O)=DF (Bu G) ByteArray.empty z O l:=by rw[hG];rfl
  have af:kQ ((g,t),l,z,O)=G:=by rw[hG];rfl
  simp(disch:=omega)only[ZZ,simprocAttr,Ab,Je,AD,Av,ssC.ca,ssC.H0,ssC.H1,Cf,Ds,D8,stC.H1,VN,BC,sub,hT,Z];refine⟨by omega,?_⟩;refine⟨[],[(3,some 4),(4,some 28),(5,some 49)],⟨[(8,.own 5)],[(0,(true,.cells 91 [.own 3,.own 4])),(3,(true,.arr 66 2 (G.map Ak.c))),(4,(true,.arr 64 2 ((Dh t (DF (Bu G) ByteArray.empty z O l)).map Tile.c))),(5,(true,.arr 2 1 ((I1 t (DF (Bu G) ByteArray.empty z O l)).map Af)))],6⟩,?_,by simp[ZG],by simp,?_⟩
  .simp only[Am];simp(disch:=omega)only[ZZ,simprocAttr,Ab,Je,AD,Av,ssC.ca,ssC.H0,ssC.H1,Cf,Ds,D8,AN,AM]
  .simp(disch:=omega)only[ZZ,simprocAttr,Ab,Je,AD,Av,ssC.ca,ssC.H0,ssC.H1,Cf,Ds,D8,ssC.H1,Ds,D8,ad,af]
end Go.Ae
namespace Go.Ae
def CJ(b n:Nat)(f:Nat->Au):Ar:=(List.range n).map λi=>(b+i,f i)
def Pa(b n:Nat)(f:Nat->Au):CJ b (n+1) f=CJ b n f++[(b+n,f n)]:=by
 simp only[CJ,XQ,CV,Bf,Bg]
def Qm4(b:Nat)(f:Nat->Au)(m:Nat): ∀(n:Nat),hget (CJ b n f) m=if b<=m/\m<b+n then some (f (m - b)) else none
 |0=>by rw[Ag (by omega)];rfl
 |n+1=>by
  rw[Pa,Qm2,Qm4 b f m n];simp only[hget];by_cases h:b<=m/\m<b+n
  .rw[Al h,Al (by omega)]
  .rw[Ag h];by_cases z:b+n=m
   .subst z;rw[Al (by omega),show b+n - b=n by omega];simp
   .have:(b+n==m)=false:=by simpa using z
    rw[this,Ag (by omega)];rfl
def aJ(b n:Nat)(f:Nat->Au)(j:Nat)(h:j<n):hget (CJ b n f) (b+j)=some (f j):=by
 rw[Qm4,Al (by omega),show b+j - b=j by omega]
def Qmh(b n:Nat)(f:Nat->Au)(m:Nat)(h:m<b\/b+n<=m):hget (CJ b n f) m=none:=by
 rw[Qm4,Ag (by omega)]
def Xv(m:Nat)(ks:List Nat): ∀(x:Ar),hget (Cb x ks) m=if ks.contains m then none else hget x m
 |[]=>by simp[Cb,hget]
 |(q,e)::r=>by
  simp only[Cb];have ih:=Xv m ks r;cases hq:ks.contains q
  .simp only[Cy,hget];cases hqm:q==m
   .simpa using ih
   .have:q=m:=by simpa using hqm
    subst this;simp only[C8,hq];rfl
  .simp only[C8,ih,hget];cases hqm:q==m
   .simp
   .have:q=m:=by simpa using hqm
    subst this;rw[Al hq,Al hq]
def Qns(π:List (Nat×Option Nat))(s:A8)(y:Ar): ∀(x:Ar),HC π s (x++y)=(HC π s x/\HC π s y)
 |[]=>by simp[HC]
 |(q,(z,e))::r=>by simp only[Ci,HC,Qns π s y r,oC]
def mF(π:List (Nat×Option Nat))(s:A8)(b n:Nat)(f:Nat->Au):HC π s (CJ b n f)↔ ∀i,i<n->Fa s π (f i).1 (f i).2 (pm π (b+i)):=by
 have: ∀(l:List Nat),HC π s (l.map λi=>(b+i,f i))↔ ∀i∈l,Fa s π (f i).1 (f i).2 (pm π (b+i)):=by
  intro l;induction l with
  |nil=>simp[HC]
  |cons i r ih=>simp only[Bf,HC,ih,Bw,ZeW]
 rw[CJ,this];simp only[CS]
def FQ:Ar->List Nat
 |[]=>[]
 |(n,_)::r=>n::FQ r
def mN(π:List (Nat×Option Nat)): ∀(H:Ar),Pk π H=(FQ H).map (pm π)
 |[]=>rfl
 |(n,e)::r=>by simp only[Pk,FQ,Bf,mN π r]
def fI(b n:Nat)(f:Nat->Au):FQ (CJ b n f)=(List.range n).map (b+ ·):=by
 have: ∀(l:List Nat),FQ (l.map λi=>(b+i,f i))=l.map (b+ ·):=by
  intro l;induction l with
  |nil=>rfl
  |cons i r ih=>simp only[Bf,FQ,ih]
 exact this _
def mQ(g:Nat->Option Nat): ∀(l:List Nat),l.Nodup->(∀x∈l,∀y∈l,∀m,g x=some m->g y=some m->x=y)->Fy (l.map g)=true
 |[],_,_=>rfl
 |x::r,h,G=>by
  simp only[KO] at h;have ih:=mQ g r h.2 (λa Q b Z=>G a (BW _ Q) b (BW _ Z));simp only[Bf];cases hx:g x with
  |none=>simpa only[Fy] using ih
  |some m=>
   simp only[Fy,ih,EL,LL];rw[QL];intro hc;obtain⟨y,O,z⟩:=BF.1 (Jl.1 hc)
   have:=G x (BS ..) y (BW _ O) m hx z
   exact h.1 (this▸O)
def mS(π:List (Nat×Option Nat)): ∀(a b:List (List AV)),GZ π a b↔a.length=b.length/\ ∀(i:Nat) x y,a[i]? =some x->b[i]? =some y->Es π x y
 |[],[]=>by simp[GZ]
 |[],_::_=>by simp[GZ]
 |_::_,[]=>by simp[GZ]
 |x::r,y::s=>by
  simp only[GZ,mS π r s,CR,Nat.add_right_cancel_iff];constructor
  .rintro⟨Z,Q,O⟩;refine⟨Q,λi x' y' z G=> ?_⟩;cases i with
   |zero=>
    simp only[Hn,AO] at z G;subst z;subst G;exact Z
   |succ i=>exact O i x' y' (by simpa using z) (by simpa using G)
  .rintro⟨Q,O⟩;exact⟨O 0 x y rfl rfl,Q,λi x' y' z G=>O (i+1) x' y' (by simpa using z) (by simpa using G)⟩
def mJ(nx b:Nat)(f:Nat->Au)(hf: ∀i,AB nx [(b+i,f i)]=true)(n:Nat):AB nx (CJ b n f)=true:=by
 have G: ∀(x y:Ar),AB nx (x++y)=(AB nx x && AB nx y):=by
  intro x y;induction x with
  |nil=>simp[AB]
  |cons z r ih=>
   obtain⟨q,Q,e⟩:=z;cases e<;>simp[AB,ih,ZeN]
 have: ∀(l:List Nat),AB nx (l.map λi=>(b+i,f i))=true:=by
  intro l;induction l with
  |nil=>rfl
  |cons i r ih=>
   have O:=G [(b+i,f i)] (r.map λi=>(b+i,f i));rw[Bf,show (b+i,f i)::(r.map λi=>(b+i,f i))=[(b+i,f i)]++(r.map λi=>(b+i,f i)) from rfl,O,hf i,ih];rfl
 exact this _
def fH(nx b n:Nat)(f:Nat->Au)(h:b+n<=nx):Cg nx (CJ b n f)=true:=by
 have: ∀(l:List Nat),(∀i∈l,i<n)->Cg nx (l.map λi=>(b+i,f i))=true:=by
  intro l;induction l with
  |nil=>intro _;rfl
  |cons i r ih=>
   intro z;simp only[Bf,Cg,ih (λj O=>z j (BW _ O)),EL];rw[F5]
   have:=z i (BS ..)
   omega
 exact this _ (λi G=>CS.1 G)
def Jy(b n:Nat):List (Nat×Option Nat):=(List.range n).map λi=>(b+i,none)
def mV(b n m:Nat):pm (Jy b n) m=if b<=m/\m<b+n then none else some m:=by
 have: ∀(l:List Nat),pm (l.map λi=>(b+i,none)) m=if b<=m/\m - b∈l then none else some m:=by
  intro l;induction l with
  |nil=>simp[pm]
  |cons i r ih=>
   simp only[Bf,pm,ih,Bw];by_cases h:b+i=m
   .rw[Al h,Al ⟨by omega,.inl (by omega)⟩]
   .rw[Ag h];by_cases z:b<=m/\m - b∈r
    .rw[Al z,Al ⟨z.1,.inr z.2⟩]
    .rw[Ag z,Ag (by rintro⟨O,G|G⟩;exact h (by omega);exact z ⟨O,G⟩)]
 rw[Jy,this];simp only[CS];by_cases h:b<=m/\m<b+n
 .rw[Al h,Al (by omega)]
 .rw[Ag h,Ag (by omega)]
def Tk(lo b n:Nat)(h:lo<=b):W7 lo (Jy b n):=by
 have: ∀(l:List Nat),W7 lo (l.map λi=>(b+i,none)):=by
  intro l;induction l with
  |nil=>trivial
  |cons i r ih=>simp only[Bf,W7];exact⟨by omega,ih⟩
 exact this _
def Sh(k b j:Nat)(h:k<b):(k==b+j)=false:=by simp;omega
def ON(k b j:Nat)(h:k<b):(b+j==k)=false:=by simp;omega
end Go.Ae
namespace Go.Ae
open Go.Proofs
def DH(n:Bi)(v i:Int):Int×Int:=match n.Bonds[i.toNat]? with
 |some b=>if b.A=v then (b.Strength - n.Flow[i.toNat]?.getD 0,b.B) else (b.Strength+n.Flow[i.toNat]?.getD 0,b.A)
 |none=>(0,0)
structure DK(n:Bi):Prop where
 c0:0<=n.Cnt
 c1:n.Cnt<=1000000
 fl:n.Flow.length=n.Bonds.length
 al:(n.At.length:Int)=n.Cnt
 bs:LA n.Cnt n.Bonds
 at_: ∀(v:Nat) (r:List Int),n.At[v]? =some r-> ∀i∈r,0<=i/\ ∃b,n.Bonds[i.toNat]? =some b/\(b.A=v\/b.B=v)
 f: ∀x∈n.Flow,-1000000<=x/\x<=1000000
 st: ∀b∈n.Bonds,0<=b.Strength/\b.Strength<=1000000
 all: ∀(i:Nat) b,n.Bonds[i]? =some b->(∃r,n.At[b.A.toNat]? =some r/\(i:Int)∈r)/\ ∃r,n.At[b.B.toNat]? =some r/\(i:Int)∈r
 ne: ∀b∈n.Bonds,b.A≠b.B
def roomC.fv(a:Bi×Int×Int):Int×Int:=(DH) (a.1) (a.2.1) (a.2.2)
def roomC.row:AG:=CY (b3 (qP 4 Bi.d_le) qI qI) (r2 rI rI) (λa=>DK a.1/\0<=a.2.2/\a.2.2<a.1.Bonds.length) roomC.fv
def roomC.q:=CD (R:=roomC.row) rfl
def roomC.ok:AJ 163 roomC.row:=by
 refine FM tN Tryz.func163 ?_;intro a z;simp only[Tryz.f163,Option.getD];simp only[ZZ,simprocAttr,Ab,roomC.fv,BD,D.sc,D.scs,B6,AP];obtain⟨G,O,h3⟩:=z;have aa:=G.fl;refine⟨O,h3,λb Q=> ?_⟩;have ab:=G.st b (Bh Q)
 split<;>rename_i h
 .refine⟨O,by omega,λf hf=> ?_⟩;have Z:=G.f f (Bh hf);rw[AH (by omega) (by omega)];simp only[DH,Q,hf,AW];rw[Al h]
 .refine⟨O,by omega,λf hf=> ?_⟩;have Z:=G.f f (Bh hf);rw[AH (by omega) (by omega)];simp only[DH,Q,hf,AW];rw[Ag h]
def DN(n:Bi)(v i:Int):Int:=match n.Bonds[i.toNat]? with
 |some b=>b.A+b.B - v
 |none=>0
def BH(n:Bi)(v:Int)(s:List Int×List Int)(i:Int):List Int×List Int:=
 if s.1[(DN n v i).toNat]?.getD 0<0/\0<(DH n (DN n v i) i).1 then (s.1.set (DN n v i).toNat (s.1[v.toNat]?.getD 0+1),s.2++[DN n v i]) else s
def CK(n:Bi)(q:Int):Nat->List Int×List Int
 |0=>((List.replicate n.Cnt.toNat (-1)).set q.toNat 0,[q])
 |k+1=>match (CK n q k).2[k]? with
  |none=>CK n q k
  |some v=>(n.At[v.toNat]?.getD []).foldl (BH n v) (CK n q k)
def F8(n:Bi)(q:Int):List Int:=(CK n q n.Cnt.toNat).1
structure X5(n:Bi)(s:List Int×List Int):Prop where
 len:s.1.length=n.Cnt.toNat
 rng: ∀x∈s.1,-1<=x/\x<=s.2.length
 q: ∀x∈s.2,0<=x/\x<n.Cnt
 cnt:(s.1.filter (λx=>decide (0<=x))).length=s.2.length
def Qlu{A:Type}(p:A->Bool): ∀(l:List A) (w:Nat) (x y:A),l[w]? =some x->p x=false->p y=true->((l.set w y).filter p).length=(l.filter p).length+1
 |[],w,x,y,h,_,_=>by simp at h
 |z::r,0,x,y,h,G,O=>by
  simp only[Hn,AO] at h;subst h;simp[Zeo,G,O]
 |z::r,w+1,x,y,h,G,O=>by
  have:=Qlu p r w x y (by simpa using h) G O
  simp only[nW,Zeo];split
  .simp only[CR,this]
  .exact this
def Qkx{n:Bi}(h0:0<=n.Cnt){s:List Int×List Int}(h:X5 n s):(s.2.length:Int)<=n.Cnt:=by
 have z:=h.cnt;have G:=Zfb (λx=>decide (0<=x)) s.1;have O:=h.len;omega
def gA{n:Bi}(hn:DK n){v:Nat}{r:List Int}(Q:n.At[v]? =some r){i:Int}(O:i∈r):0<=i/\i<n.Bonds.length/\0<=DN n v i/\DN n v i<n.Cnt:=by
 obtain⟨h0,b,z,hv⟩:=hn.at_ v r Q i O;have G:=hn.bs b (Bh z);have Z:=(CL.1 z).1;simp only[DN,z];omega
def Qtm{n:Bi}(hn:DK n){v:Nat}{r:List Int}(Z:n.At[v]? =some r){i:Int}(Q:i∈r){s:List Int×List Int}(hs:X5 n s):X5 n (BH n v s i):=by
 obtain⟨_,_,o1,o2⟩:=gA hn Z Q;simp only[BH];split
 .rename_i h;have G:(DN n v i).toNat<s.1.length:=by rw[hs.len];omega
  obtain⟨x,hx⟩: ∃x,s.1[(DN n v i).toNat]? =some x:=⟨_,BB G⟩;have aa:x<0:=by have:=h.1;rw[hx] at this;simpa using this
  have O:0<=s.1[(v:Int).toNat]?.getD 0+1/\s.1[(v:Int).toNat]?.getD 0+1<=s.2.length+1:=by
   cases hv:s.1[(v:Int).toNat]? with
   |none=>simp;omega
   |some y=>have:=hs.rng y (Bh hv);simp only[AW];omega
  refine⟨by simpa using hs.len,λy z=> ?_,λy z=> ?_,?_⟩
  .simp only[Bz,CR,DQ];rcases bY z with z|z
   .have:=hs.rng y z;omega
   .subst z;omega
  .rcases B2.1 z with z|z
   .exact hs.q y z
   .rw[BL] at z;subst z;exact⟨o1,o2⟩
  .rw[Qlu _ _ _ x _ hx (by rw[Jk];omega) (by rw[C7];exact O.1),hs.cnt];simp
 .exact hs
def Qs1{n:Bi}(hn:DK n){v:Nat}{r:List Int}(O:n.At[v]? =some r): ∀(l:List Int) (s:List Int×List Int),(∀i∈l,i∈r)->X5 n s->X5 n (l.foldl (BH n v) s)
 |[],s,_,z=>z
 |i::l,s,G,z=>Qs1 hn O l _ (λj Q=>G j (BW _ Q)) (Qtm hn O (G i (BS ..)) z)
def Xy{n:Bi}(hn:DK n){q:Int}(h0:0<=q)(G:q<n.Cnt): ∀k,X5 n (CK n q k)
 |0=>by
  have hq:q.toNat<n.Cnt.toNat:=by omega
  refine⟨by simp[CK],λx z=> ?_,λx z=> ?_,?_⟩
  .simp only[CK] at z⊢;rcases bY z with z|z
   .have:=QH z;simp;omega
   .subst z;simp
  .simp only[CK,BL] at z;subst z;exact⟨h0,G⟩
  .simp only[CK];rw[Qlu _ _ _ (-1) _ (by rw[O9,Al hq]) (by simp) (by simp)]
   have:(List.replicate n.Cnt.toNat (-1:Int)).filter (λx=>decide (0<=x))=[]:=by
    rw[List.filter_eq_nil_iff];intro x z;rw[QH z];simp
   rw[this];rfl
 |k+1=>by
  have ih:=Xy hn h0 G k;simp only[CK];split
  .exact ih
  .rename_i v Q;have Z:=ih.q v (Bh Q);obtain⟨m,rfl⟩: ∃m:Nat,v=m:=⟨v.toNat,by omega⟩;have O:m<n.At.length:=by have:=hn.al;omega
   obtain⟨r,hr⟩: ∃r,n.At[m]? =some r:=⟨_,BB O⟩;simp only[B5,hr,AW];exact Qs1 hn hr r _ (λ_ h=>h) ih
def LQ(n:Bi)(q:Int): ∀(m k:Nat),(CK n q k).2.length<=k->CK n q (k+m)=CK n q k
 |0,k,_=>rfl
 |m+1,k,h=>by
  have z:CK n q (k+1)=CK n q k:=by
   rw[CK,HK h]
  have G:=LQ n q m (k+1) (by rw[z];omega);rw[show k+(m+1)=k+1+m by omega,G,z]
def Qwn(n:Bi)(v:Int): ∀(l:List Int) (s:List Int×List Int),s.2.length<=(l.foldl (BH n v) s).2.length
 |[],s=>AU _
 |i::l,s=>by
  have z:s.2.length<=(BH n v s i).2.length:=by
   simp only[BH];split
   .simp
   .exact AU _
  exact CW z (Qwn n v l _)
def stepsC.fv(a:Bi×Int):List Int:=(F8) (a.1) (a.2)
def stepsC.row:AG:=CY (b2 (qP 4 Bi.d_le) qI) (rS Dj Ct) (λa=>DK a.1/\0<=a.2/\a.2<a.1.Cnt) stepsC.fv
def stepsC.q:=CD (R:=stepsC.row) rfl
def QF:=J @stepsC.fv.eq_1 (J @roomC.q @roomC.fv.eq_1)
def stepsC.ok:AJ 140 stepsC.row:=by
 refine FM (tC roomC.ok tN) Tryz.func140 ?_;intro a ag;simp only[Tryz.f140,Option.getD];simp only[ZZ,simprocAttr,Ab,QF,BD,D.sc,D.scs,B6,AP];obtain⟨hn,ah,ao⟩:=ag;have aw:=hn.c1;obtain⟨c,hc⟩: ∃c:Nat,a.1.Cnt=c:=⟨a.1.Cnt.toNat,by omega⟩;refine AZ.ren ⟨{k:Nat//k<=c},λk=>⟨[(6,.im (.int .i64 k.1)),(5,.own 3),(0,.ptr 0 0),(1,.im (.int .i64 a.2))],[(3,(true,.arr 2 1 ((List.replicate k.1 (-1:Int)).map Af))),(0,(false,.view (Bi.c a.1)))],4⟩,λk=>c - k.1,λk=>⟨by simp[ZG],by simp⟩,⟨⟨0,by simp⟩,[(3,some 2)],?_⟩,λk=> ?_⟩
 .simp only[Am];simp only[ZZ,simprocAttr,Ab,QF,BD,D.sc,D.scs,B6,AP,AN,AM,List.replicate_zero,Bg]
  try simp
 obtain⟨k,am⟩:=k;simp only[ZZ,simprocAttr,Ab,QF,BD,D.sc,D.scs,B6,AP,sub,AS,hc,OA];refine⟨λhk=>⟨by omega,⟨k+1,by omega⟩,[(3,some 5)],by simp only;omega,?_⟩,λhk=> ?_⟩
 .simp only[Am];simp only[ZZ,simprocAttr,Ab,QF,BD,D.sc,D.scs,B6,AP,AN,AM];refine⟨by rw[AH (by omega) (by omega)];omega,?_⟩;rw[List.replicate_succ'];simp[Af]
 have an:c=k:=by omega
 subst an;refine⟨ah,by omega,by omega,λ_ _=> ?_⟩;have au:=hn.al;have ac:=Xy hn ah ao;refine AZ.ren ⟨{k:Nat//k<=(CK a.1 a.2 k).2.length},λk=>⟨[(8,.im (.int .i64 k.1)),(7,.own 5),(5,.own 3),(0,.ptr 0 0),(1,.im (.int .i64 a.2))],[(5,(true,.arr 2 1 ((CK a.1 a.2 k.1).2.map Af))),(3,(true,.arr 2 1 ((CK a.1 a.2 k.1).1.map Af))),(0,(false,.view (Bi.c a.1)))],6⟩,λk=>c - k.1,λk=>⟨by simp[ZG],by simp⟩,⟨⟨0,by simp⟩,[(5,some 4)],?_⟩,λk=> ?_⟩
 .simp only[Am];simp only[ZZ,simprocAttr,Ab,QF,BD,D.sc,D.scs,B6,AP,AN,AM,hc,CK];simp[hc,Af,RU]
 obtain⟨k,am⟩:=k;have hi:=ac k;have ai:=hi.len;have ay:=Qkx (by omega) hi;simp only[ZZ,simprocAttr,Ab,QF,BD,D.sc,D.scs,B6,AP,sub,AS,hc,ai];intro _;refine⟨λhk=>⟨hk,hk,λv hv=> ?_⟩,λhk=> ?_⟩
 .have a8:=hi.q v (Bh hv);obtain⟨m,rfl⟩: ∃m:Nat,v=m:=⟨v.toNat,by omega⟩;have hm:m<a.1.At.length:=by omega
  obtain⟨r,hr⟩: ∃r,a.1.At[m]? =some r:=⟨_,BB hm⟩;have O:CK a.1 a.2 (k+1)=r.foldl (BH a.1 m) (CK a.1 a.2 k):=by
   simp only[CK,hv,B5,hr,AW]
  refine AZ.ren ⟨{j:Nat//j<=r.length},λj=>⟨[(10,.im (.int .i64 j.1)),(9,.im (.int .i64 m)),(8,.im (.int .i64 k)),(7,.own 6),(5,.own 3),(0,.ptr 0 0),(1,.im (.int .i64 a.2))],[(6,(true,.arr 2 1 (((r.take j.1).foldl (BH a.1 m) (CK a.1 a.2 k)).2.map Af))),(3,(true,.arr 2 1 (((r.take j.1).foldl (BH a.1 m) (CK a.1 a.2 k)).1.map Af))),(0,(false,.view (Bi.c a.1)))],7⟩,λj=>r.length - j.1,λj=>⟨by simp[ZG],by simp⟩,⟨⟨0,by simp⟩,[(6,some 5)],?_⟩,λj=> ?_⟩
  .simp only[Am];simp only[ZZ,simprocAttr,Ab,QF,BD,D.sc,D.scs,B6,AP,AN,AM,hc,Hp,XU]
   try simp
  obtain⟨j,ax⟩:=j;have hs:=Qs1 hn hr (r.take j) _ (λi hi=>ZdK hi) hi;obtain⟨s,hsd⟩: ∃s,s=(r.take j).foldl (BH a.1 m) (CK a.1 a.2 k):=⟨_,rfl⟩;rw[<-hsd] at hs;have aq:=hs.len;have a0:=Qkx (by omega) hs;simp only[<-hsd];have af:(⟨(c:Int),a.1.Bonds,a.1.At,a.1.Flow⟩:Bi)=a.1:=by rw[<-hc]
  simp only[ZZ,simprocAttr,Ab,QF,BD,D.sc,D.scs,B6,AP,sub,AS,hc,af,aq,Oc,NZ,Ob,BZ,D.one,EL,Fu,Jn];refine⟨hm,λr' G=> ?_⟩;rw[hr] at G;obtain rfl:=AC G;intro az;refine⟨λhj=>⟨hm,λr' G=> ?_⟩,λhj=> ?_⟩
  .rw[hr] at G;obtain rfl:=AC G;refine⟨hj,λi ab=> ?_⟩;have aj:=Bh ab;obtain⟨i0,i1,o0,o1⟩:=gA hn hr aj;have z:(r.take (j+1)).foldl (BH a.1 m) (CK a.1 a.2 k)=BH a.1 m s i:=by
    rw[Ji,ab,Zeg,<-hsd];rfl
   refine⟨i0,i1,λb hb=>⟨i0,i1,λb' aa=> ?_⟩⟩;rw[hb] at aa;obtain rfl:=AC aa;have av:=hn.bs b (Bh hb);have hw:IntKind.wrap .i64 (IntKind.wrap .i64 (b.A+b.B) - m)=DN a.1 m i:=by
    rw[AH (x:=b.A+b.B) (by omega) (by omega),AH (by omega) (by omega)];simp only[DN,hb]
   rw[hw];have ad:(DN a.1 m i).toNat<c:=by omega
   refine⟨⟨hn,i0,i1⟩,o0,by omega,ad,λx hx=>⟨λZ=>⟨λQ=>⟨by omega,by omega,λy hy=>⟨o0,by omega,ad,λ_ _=>⟨by omega,⟨j+1,by omega⟩,[(6,some 8)],by simp only;omega,?_⟩⟩⟩,λQ=>⟨⟨j+1,by omega⟩,[(6,some 6)],by simp only;omega,?_⟩⟩,λZ=>⟨⟨j+1,by omega⟩,[(6,some 6)],by simp only;omega,?_⟩⟩⟩
   .have e1:BH a.1 m s i=(s.1.set (DN a.1 m i).toNat (y+1),s.2++[DN a.1 m i]):=by
     simp only[BH];rw[Al ⟨by rw[hx];exact Z,Q⟩,B5,hy];rfl
    have a9:=hs.rng y (Bh hy);simp only[Am,z,e1];simp only[ZZ,simprocAttr,Ab,QF,BD,D.sc,D.scs,B6,AP,AN,AM,hc];rw[AH (x:=y+1) (by omega) (by omega)];refine⟨by rw[AH (by omega) (by omega)];omega,?_,?_⟩
    .simp[Af]
    .simp[Af,RU]
   .have e1:BH a.1 m s i=s:=by
     simp only[BH];rw[Ag (λh=>Q h.2)]
    simp only[Am,z,e1];simp only[ZZ,simprocAttr,Ab,QF,BD,D.sc,D.scs,B6,AP,AN,AM,hc];rw[AH (by omega) (by omega)];simp
   .have e1:BH a.1 m s i=s:=by
     simp only[BH];rw[Ag (λh=>Z (by have:=h.1;rw[hx] at this;exact this))]
    simp only[Am,z,e1];simp only[ZZ,simprocAttr,Ab,QF,BD,D.sc,D.scs,B6,AP,AN,AM,hc];rw[AH (by omega) (by omega)];simp
  .have ak:j=r.length:=by omega
   subst ak;rw[IF] at hsd;refine⟨⟨k+1,by
    have:=Qwn a.1 m r (CK a.1 a.2 k)
    rw[O];omega⟩,[(5,some 6)],by simp only;omega,?_⟩
   simp only[Am,O,<-hsd];simp only[ZZ,simprocAttr,Ab,QF,BD,D.sc,D.scs,B6,AP,AN,AM,hc];rw[AH (by omega) (by omega)];simp
 .rw[F8,hc,B5]
  have:=LQ a.1 a.2 (c - k) k (by omega)
  rw[show k+(c - k)=c by omega] at this;rw[this]
def bN(l:List Int):Nat->List Int
 |0=>[]
 |k+1=>bN l k++(if 0<=l[k]?.getD (-1) then [(k:Int)] else [])
def Qu8(l:List Int): ∀k,(bN l k).length<=k
 |0=>AU _
 |k+1=>by
  have:=Qu8 l k
  simp only[bN,Bz]
  split<;>simp<;>omega
def gQ(n:Bi)(q:Int):List Int:=bN (F8 n q) n.Cnt.toNat
def tA{n:Bi}(hn:DK n){q:Int}(h0:0<=q)(z:q<n.Cnt):(F8 n q).length=n.Cnt.toNat:=(Xy hn h0 z _).len
def sideC.fv(a:Bi×Int):List Int:=(gQ) (a.1) (a.2)
def sideC.row:AG:=CY (b2 (qP 4 Bi.d_le) qI) (rS Dj Ct) (λa=>DK a.1/\0<=a.2/\a.2<a.1.Cnt) sideC.fv
def sideC.q:=CD (R:=sideC.row) rfl
def wG:=J @sideC.fv.eq_1 (J @stepsC.q @stepsC.fv.eq_1)
def sideC.ok:AJ 111 sideC.row:=by
 refine FM (tC stepsC.ok tN) Tryz.func111 ?_;intro a z;simp only[Tryz.f111,Option.getD];simp only[ZZ,simprocAttr,Ab,wG,BD,D.sc,D.scs,B6,AP];refine⟨z,?_⟩;obtain⟨hn,O,Q⟩:=z;have aa:=hn.c1;obtain⟨c,hc⟩: ∃c:Nat,a.1.Cnt=c:=⟨a.1.Cnt.toNat,by omega⟩;have G:=tA hn O Q;rw[hc,B5] at G;simp only[gQ,hc,B5];obtain⟨l,hl⟩: ∃l,l=F8 a.1 a.2:=⟨_,rfl⟩;simp only[<-hl] at G⊢;refine AZ.ren ⟨{k:Nat//k<=c},λk=>⟨[(7,.im (.int .i64 k.1)),(6,.own 3),(5,.im (.sl false 1 (l.map Af))),(0,.ptr 0 0)],[(3,(true,.arr 2 1 ((bN l k.1).map Af))),(0,(false,.view (Bi.c a.1)))],4⟩,λk=>c - k.1,λk=>⟨by simp[ZG],by simp⟩,⟨⟨0,by simp⟩,[(3,some 2)],?_⟩,λk=> ?_⟩
 .simp only[Am];simp only[ZZ,simprocAttr,Ab,wG,BD,D.sc,D.scs,B6,AP,AN,AM,hc,bN,Bg]
  try simp
 obtain⟨k,ab⟩:=k;have ac:=Qu8 l k;simp only[ZZ,simprocAttr,Ab,wG,BD,D.sc,D.scs,B6,AP,sub,AS,hc,G,Oc,NZ,Ob,BZ,D.one,EL,Fu,Jn];refine⟨λZ=>⟨Z,λx hx=>⟨λh=>⟨by omega,⟨k+1,by omega⟩,[(3,some 5)],by simp only;omega,?_⟩,λh=>⟨⟨k+1,by omega⟩,[(3,some 3)],by simp only;omega,?_⟩⟩⟩,λZ=> ?_⟩
 .simp only[Am];simp only[ZZ,simprocAttr,Ab,wG,BD,D.sc,D.scs,B6,AP,AN,AM,hc];refine⟨by rw[AH (by omega) (by omega)];omega,?_⟩;simp only[bN,hx,AW];rw[Al h];simp[Af]
 .simp only[Am];simp only[ZZ,simprocAttr,Ab,wG,BD,D.sc,D.scs,B6,AP,AN,AM,hc];refine⟨by rw[AH (by omega) (by omega)];omega,?_⟩;simp only[bN,hx,AW];rw[Ag h,Ck]
 .rw[show k=c by omega]
def I8(n:Bi)(v i:Int):Bi:=⟨n.Cnt,n.Bonds,n.At,match n.Bonds[i.toNat]? with
 |some b=>n.Flow.set i.toNat (if b.A=v then n.Flow[i.toNat]?.getD 0+1 else n.Flow[i.toNat]?.getD 0 - 1)
 |none=>n.Flow⟩
def Gy(n:Bi):List AV:=[.im (.int .i64 n.Cnt),.im (.sl false 3 (n.Bonds.map Ai.c)),.im (.sl false 1 (n.At.map DA)),.own 1]
def Em(n:Bi):Ar:=[(0,(true,.cells 199 (Gy n))),(1,(true,.arr 2 1 (n.Flow.map Af)))]
def pE(n:Bi)(j:Nat):An (Em n) j=true↔j<2:=by
 simp only[An,Em,hget];by_cases h0:j=0
 .subst h0;simp
 .by_cases O:j=1
  .subst O;simp
  .have z:(0==j)=false:=by simp;omega
   have G:(1==j)=false:=by simp;omega
   simp[z,G];omega
def Kl(j:Nat):Bool:=j==1
def pushC.ca(a:Bi×Int×Int):List AV:=[.ptr 0 0,.im (.int .i64 a.2.1),.im (.int .i64 a.2.2)]
def pushC.H1(a:Bi×Int×Int):Ar:=[(1,(true,.arr 2 1 ((I8 a.1 a.2.1 a.2.2).Flow.map Af)))]
def pushC.row:AG:=Az pushC.ca (λa=>Em a.1) 2 (λa=>DK a.1/\0<=a.2.2/\a.2.2<a.1.Bonds.length) Kl (λ_=> .im (.tup [])) pushC.H1 0
def pushC.ok:AJ 164 pushC.row:=by
 refine ow tN Tryz.func164 (exB:=λ_=>false) (R:=λ_ r=>r= .im (.tup [])) (λ_=>rfl)
  (λa=>by simp[pushC.ca,Em,Gy,pushC.H1,Kl,AQ,AV.bel,AB,Cg,Cs,Ah.nms,Ax,AV.nms,An,hget]) (λa p hp=> ?_) (λa r h=>by subst h;exact D2.refl _) ?_
 rotate_left
 intro a z;simp only[Tryz.f164,Option.getD,pushC.ca,Em,Gy,pushC.H1,Kl];simp only[ZZ,simprocAttr,Ab,Av,pushC.ca,Em,Gy,pushC.H1,Kl];obtain⟨hn,h0,Q⟩:=z;have Z:=hn.fl;refine⟨h0,Q,λb O=> ?_⟩
 split<;>rename_i h
 .refine⟨h0,by omega,by omega,λf hf=>⟨h0,by omega,by omega,λ_ _=> ?_⟩⟩;have G:=hn.f f (Bh hf);rw[AH (by omega) (by omega)];simp only[I8,O,hf,AW,Al h,RU];rfl
 .refine⟨h0,by omega,by omega,λf hf=>⟨h0,by omega,by omega,λ_ _=> ?_⟩⟩;have G:=hn.f f (Bh hf);rw[AH (by omega) (by omega)];simp only[I8,O,hf,AW,Ag h,RU];rfl
 simp[pushC.H1] at hp;subst hp;exact .inl ⟨by omega,rfl,rfl⟩
structure Gf(n:Bi)(q:Int)(s:List Int×List Int):Prop where
 zero:s.1[q.toNat]? =some 0
 uniq: ∀(w:Nat),s.1[w]? =some 0->w=q.toNat
 prev: ∀(w:Nat) (x:Int),s.1[w]? =some x->0<x-> ∃(v:Nat) (r:List Int) (i:Int),s.1[v]? =some (x - 1)/\n.At[v]? =some r/\i∈r/\DN n v i=w/\0<(DH n w i).1
 qs: ∀v∈s.2,∃y,s.1[v.toNat]? =some y/\0<=y
def tD(n:Bi)(v:Int)(s:List Int×List Int)(i:Int)(u:Nat)(y:Int)(h:s.1[u]? =some y)(h0:0<=y):(BH n v s i).1[u]? =some y:=by
 simp only[BH];split
 .rename_i G;have z:(DN n v i).toNat≠u:=by
   intro O;rw[O,h] at G
   have:=G.1
   simp at this;omega
  simp only;rw[Ep z];exact h
 .exact h
def Qor(n:Bi)(v:Int)(u:Nat)(y:Int)(h0:0<=y): ∀(l:List Int) (s:List Int×List Int),s.1[u]? =some y->(l.foldl (BH n v) s).1[u]? =some y
 |[],_,h=>h
 |i::l,s,h=>Qor n v u y h0 l _ (tD n v s i u y h h0)
def iQ{n:Bi}(hn:DK n){q:Int}{v:Nat}{r:List Int}(hr:n.At[v]? =some r){i:Int}(hi:i∈r){s:List Int×List Int}(hs:X5 n s)(hp:Gf n q s){y:Int}(hv:s.1[v]? =some y)(hy:0<=y):Gf n q (BH n v s i):=by
 obtain⟨_,_,o1,o2⟩:=gA hn hr hi;have keep:=λu z h h0=>tD n v s i u z h h0
 have Z:(DN n v i).toNat<s.1.length:=by rw[hs.len];omega
 by_cases hc:s.1[(DN n v i).toNat]?.getD 0<0/\0<(DH n (DN n v i) i).1
 .have Q:BH n v s i=(s.1.set (DN n v i).toNat (y+1),s.2++[DN n v i]):=by
   simp only[BH];rw[Al hc,B5,hv];rfl
  have hget: ∀(w:Nat) (x:Int),(BH n v s i).1[w]? =some x->(w=(DN n v i).toNat/\x=y+1)\/s.1[w]? =some x:=by
   intro w x G;rw[Q] at G;simp only at G;by_cases hw:(DN n v i).toNat=w
   .subst hw;rw[Ey Z] at G;exact .inl ⟨rfl,(AC G).symm⟩
   .rw[Ep hw] at G;exact .inr G
  refine⟨keep _ _ hp.zero (by omega),λw hw=> ?_,λw x G h0=> ?_,λu O=> ?_⟩
  .rcases hget w 0 hw with ⟨_,h⟩|h
   .omega
   .exact hp.uniq w h
  .rcases hget w x G with ⟨h1,h2⟩|h
   .refine⟨v,r,i,keep _ _ (by rw[hv];congr 1;omega) (by omega),hr,hi,by omega,?_⟩
    have:(w:Int)=DN n v i:=by omega
    rw[this];exact hc.2
   .obtain⟨v',r',i',g1,g2,g3,g4,g5⟩:=hp.prev w x h h0;exact⟨v',r',i',keep _ _ g1 (by omega),g2,g3,g4,g5⟩
  .rw[Q] at O;rcases B2.1 O with O|O
   .obtain⟨z,h1,h2⟩:=hp.qs u O;exact⟨z,keep _ _ h1 h2,h2⟩
   .rw[BL] at O;subst O;refine⟨y+1,?_,by omega⟩;rw[Q];exact Ey Z
 .have Q:BH n v s i=s:=by simp only[BH];rw[Ag hc]
  rw[Q];exact hp
def Si{n:Bi}(hn:DK n){q:Int}{v:Nat}{r:List Int}(G:n.At[v]? =some r){y:Int}(O:0<=y): ∀(l:List Int) (s:List Int×List Int),(∀i∈l,i∈r)->X5 n s->Gf n q s->s.1[v]? =some y->Gf n q (l.foldl (BH n v) s)
 |[],s,_,_,hp,_=>hp
 |i::l,s,z,Q,hp,Z=>Si hn G O l _ (λj hj=>z j (BW _ hj)) (Qtm hn G (z i (BS ..)) Q) (iQ hn G (z i (BS ..)) Q hp Z O) (tD n v s i v y Z O)
def NX{n:Bi}(hn:DK n){q:Int}(h0:0<=q)(h1:q<n.Cnt): ∀k,Gf n q (CK n q k)
 |0=>by
  have hq:q.toNat<n.Cnt.toNat:=by omega
  have z:q.toNat<(List.replicate n.Cnt.toNat (-1:Int)).length:=by rw[OA];exact hq
  have hget: ∀(w:Nat) (x:Int),((List.replicate n.Cnt.toNat (-1:Int)).set q.toNat 0)[w]? =some x->(w=q.toNat/\x=0)\/x= -1:=by
   intro w x G;by_cases Q:q.toNat=w
   .subst Q;rw[Ey z] at G;exact .inl ⟨rfl,(AC G).symm⟩
   .rw[Ep Q] at G;exact .inr (QH (Bh G))
  refine⟨Ey z,λw Q=> ?_,λw x G aa=> ?_,λv O=> ?_⟩
  .rcases hget w 0 Q with h|h
   .exact h.1
   .omega
  .rcases hget w x G with h|h<;>omega
  .simp only[CK,BL] at O;subst O;exact⟨0,Ey z,RV _⟩
 |k+1=>by
  have ih:=NX hn h0 h1 k;have hi:=Xy hn h0 h1 k;simp only[CK];split
  .exact ih
  .rename_i v O;have ab:=hi.q v (Bh O);obtain⟨m,rfl⟩: ∃m:Nat,v=m:=⟨v.toNat,by omega⟩;have hm:m<n.At.length:=by have:=hn.al;omega
   obtain⟨r,hr⟩: ∃r,n.At[m]? =some r:=⟨_,BB hm⟩;obtain⟨y,hy,Z⟩:=ih.qs _ (Bh O);simp only[B5,hr,AW];exact Si hn hr Z r _ (λ_ h=>h) hi ih (by simpa using hy)
def Jb(n:Bi):Prop:= ∀(i:Nat) b f,n.Bonds[i]? =some b->n.Flow[i]? =some f-> -b.Strength<=f/\f<=b.Strength
def Gu(n:Bi)(st:List Int)(v:Int)(acc:Int×Int)(i:Int):Int×Int:=
 if 0<(DH n v i).1/\st[(DH n v i).2.toNat]?.getD 0=st[v.toNat]?.getD 0 - 1/\(acc.1<0\/(DH n v i).2<acc.1) then ((DH n v i).2,i) else acc
def Hi(n:Bi)(st:List Int)(v:Int):Int×Int:=(n.At[v.toNat]?.getD []).foldl (Gu n st v) (-1,0)
def Ce(n:Bi)(st:List Int)(p:Int):Nat->Bi×Int
 |0=>(n,p)
 |k+1=>(I8 (Ce n st p k).1 (Ce n st p k).2 (Hi (Ce n st p k).1 st (Ce n st p k).2).2,(Hi (Ce n st p k).1 st (Ce n st p k).2).1)
def F9(n:Bi)(p q:Int):Bi×Bool:=
 if (F8 n q)[p.toNat]?.getD 0<0 then (n,false) else ((Ce n (F8 n q) p ((F8 n q)[p.toNat]?.getD 0).toNat).1,true)
def vM{n:Bi}(hn:DK n){v:Nat}{r:List Int}(Q:n.At[v]? =some r){i:Int}(O:i∈r):0<=(DH n v i).2/\(DH n v i).2<n.Cnt:=by
 obtain⟨h0,b,z,Z⟩:=hn.at_ v r Q i O;have G:=hn.bs b (Bh z);simp only[DH,z]
 split<;>simp only<;>omega
def Mv(n:Bi)(st:List Int)(v:Int)(r:List Int)(w:Int×Int):Prop:=w.2∈r/\0<(DH n v w.2).1/\(DH n v w.2).2=w.1/\st[w.1.toNat]?.getD 0=st[v.toNat]?.getD 0 - 1/\0<=w.1
def Qq8{n:Bi}(hn:DK n)(st:List Int){v:Nat}{r:List Int}(O:n.At[v]? =some r): ∀(l:List Int) (acc:Int×Int),(∀i∈l,i∈r)->(acc.1<0\/Mv n st v r acc)->(l.foldl (Gu n st v) acc).1<0\/Mv n st v r (l.foldl (Gu n st v) acc)
 |[],acc,_,h=>h
 |i::l,acc,z,h=>by
  refine Qq8 hn st O l _ (λj Q=>z j (BW _ Q)) ?_;simp only[Gu];split
  .rename_i G;exact .inr ⟨z i (BS ..),G.1,rfl,G.2.1,(vM hn O (z i (BS ..))).1⟩
  .exact h
def P7{n:Bi}(hn:DK n)(st:List Int){v:Nat}{r:List Int}(G:n.At[v]? =some r){i:Int}(z:i∈r)(acc:Int×Int)(h:0<=acc.1):0<=(Gu n st v acc i).1:=by
 simp only[Gu];split
 .exact (vM hn G z).1
 .exact h
def Qvo{n:Bi}(hn:DK n)(st:List Int){v:Nat}{r:List Int}(G:n.At[v]? =some r): ∀(l:List Int) (acc:Int×Int),(∀i∈l,i∈r)->0<=acc.1->0<=(l.foldl (Gu n st v) acc).1
 |[],_,_,h=>h
 |i::l,acc,z,h=>Qvo hn st G l _ (λj O=>z j (BW _ O)) (P7 hn st G (z i (BS ..)) acc h)
def Qqh{n:Bi}(hn:DK n)(st:List Int){v:Nat}{r:List Int}(O:n.At[v]? =some r){i:Int}(Q:0<(DH n v i).1)(Z:st[(DH n v i).2.toNat]?.getD 0=st[(v:Int).toNat]?.getD 0 - 1): ∀(l:List Int) (acc:Int×Int),(∀i∈l,i∈r)->i∈l->0<=(l.foldl (Gu n st v) acc).1
 |[],_,_,h=>by cases h
 |j::l,acc,hl,h=>by
  simp only[KN];have z:=λk hk=>hl k (BW _ hk)
  rcases Bw.1 h with rfl|h
  .refine Qvo hn st O l _ z ?_;have hb:=vM hn O (hl _ (BS ..));simp only[Gu];split
   .exact hb.1
   .rename_i hc;rcases Int.lt_or_le acc.1 0 with G|G
    .exact absurd ⟨Q,Z,.inl G⟩ hc
    .exact G
  .exact Qqh hn st O Q Z l _ z h
def P8{n:Bi}(hn:DK n)(st:List Int){v:Nat}{r:List Int}(z:n.At[v]? =some r){i:Int}(Q:i∈r)(G:0<(DH n v i).1)(O:st[(DH n v i).2.toNat]?.getD 0=st[(v:Int).toNat]?.getD 0 - 1):Mv n st v r (Hi n st v):=by
 have e:Hi n st v=r.foldl (Gu n st v) (-1,0):=by simp only[Hi,B5,z,AW]
 rw[e];have Z:=Qqh hn st z G O r (-1,0) (λ_ h=>h) Q;rcases Qq8 hn st z r (-1,0) (λ_ h=>h) (.inl (by decide)) with h|h
 .omega
 .exact h
def Zi{n:Bi}(hn:DK n)(hc:Jb n){v:Nat}{i:Int}(h0:0<=i)(z:0<(DH n v i).1):DK (I8 n v i)/\Jb (I8 n v i):=by
 obtain⟨m,rfl⟩: ∃m:Nat,i=m:=⟨i.toNat,by omega⟩;have O:Jb (I8 n v m):=by
  intro j b f G hf;simp only[I8,B5] at G hf;simp only[DH,B5] at z;cases hbm:n.Bonds[m]? with
  |none=>rw[hbm] at hf;exact hc j b f G hf
  |some b'=>
   rw[hbm] at hf z;simp only at hf z;by_cases Q:m=j
   .subst Q;rw[G] at hbm;obtain rfl:=AC hbm;have Z:m<n.Flow.length:=by
     have:=(CL.1 hf).1
     simpa using this
    rw[Ey Z] at hf;have hf:=AC hf;obtain⟨g,hg⟩: ∃g,n.Flow[m]? =some g:=⟨_,BB Z⟩;have ab:=hc m b g G hg;rw[hg] at hf z;simp only[AW] at hf z;split at hf<;>rename_i hA
    .rw[Al hA] at z;simp only at z;omega
    .rw[Ag hA] at z;simp only at z;omega
   .rw[Ep Q] at hf;exact hc j b f G hf
 refine⟨⟨hn.c0,hn.c1,?_,hn.al,hn.bs,hn.at_,?_,hn.st,hn.all,hn.ne⟩,O⟩
 .have:=hn.fl
  simp only[I8];split
  .simpa using this
  .exact this
 .intro x hx;obtain⟨j,Q⟩:=W1.1 hx;have ac:=(CL.1 Q).1;have aa:(I8 n v m).Flow.length=n.Bonds.length:=by
   rw[<-hn.fl];simp only[I8];split
   .simp
   .rfl
  obtain⟨b,G⟩: ∃b,n.Bonds[j]? =some b:=⟨_,BB (by omega)⟩;have h1:=O j b x G Q;have h2:=hn.st b (Bh G);omega
def Qabc(n:Bi)(v i:Int)(j:Nat)(h:i.toNat≠j):(I8 n v i).Flow[j]? =n.Flow[j]? :=by
 simp only[I8];split
 .exact Ep h
 .rfl
def PJ{n n':Bi}(z:n'.Bonds=n.Bonds)(i:Int)(hf:n'.Flow[i.toNat]? =n.Flow[i.toNat]?)(v:Int):DH n' v i=DH n v i:=by
 simp only[DH,z,hf]
structure dF(n:Bi)(st:List Int)(p:Int)(d k:Nat):Prop where
 ok:DK (Ce n st p k).1
 cap:Jb (Ce n st p k).1
 cnt:(Ce n st p k).1.Cnt=n.Cnt
 bs:(Ce n st p k).1.Bonds=n.Bonds
 at_:(Ce n st p k).1.At=n.At
 v: ∃m:Nat,(Ce n st p k).2=m/\(m:Int)<n.Cnt/\st[m]? =some ((d:Int) - k)
 fl: ∀(i:Nat) b,n.Bonds[i]? =some b->st[b.A.toNat]?.getD 0<=(d:Int) - k->st[b.B.toNat]?.getD 0<=(d:Int) - k->(Ce n st p k).1.Flow[i]? =n.Flow[i]?
def Qk0{n:Bi}(hn:DK n){q:Int}{st qu:List Int}(ag:st.length=n.Cnt.toNat)(hP:Gf n q (st,qu)){p:Int}{d k:Nat}(hk:k<d)(Z:dF n st p d k):
 ∃(m:Nat) (r:List Int),(Ce n st p k).2=m/\n.At[m]? =some r/\Mv (Ce n st p k).1 st m r (Hi (Ce n st p k).1 st m)/\st[m]? =some ((d:Int) - k)/\(Hi (Ce n st p k).1 st m).1<n.Cnt:=by
 obtain⟨m,hm,aj,O⟩:=Z.v;have af:m<n.At.length:=by have:=hn.al;omega
 obtain⟨r,hr⟩: ∃r,n.At[m]? =some r:=⟨_,BB af⟩;have ab:(Ce n st p k).1.At[m]? =some r:=by rw[Z.at_];exact hr
 obtain⟨v',r',i,g1,g2,g3,g4,g5⟩:=hP.prev m _ O (by omega);simp only at g1;obtain⟨ai,b,hb,aa⟩:=hn.at_ v' r' g2 i g3;have ah:=hn.bs b (Bh hb);have ac:b.A+b.B - v'=m:=by simpa only[DN,hb] using g4
 have z:=hn.all i.toNat b hb;rw[show ((i.toNat:Nat):Int)=i by omega] at z;have ad:i∈r:=by
  rcases aa with h|h
  .obtain⟨r2,Q,h3⟩:=z.2;rw[show b.B.toNat=m by omega,hr] at Q;obtain rfl:=AC Q;exact h3
  .obtain⟨r2,Q,h3⟩:=z.1;rw[show b.A.toNat=m by omega,hr] at Q;obtain rfl:=AC Q;exact h3
 have ak:=hn.ne b (Bh hb);have G:DH (Ce n st p k).1 m i=DH n m i:=by
  refine PJ Z.bs i (Z.fl i.toNat b hb ?_ ?_) m
  .rcases aa with h|h
   .rw[show b.A.toNat=v' by omega,g1];simp only[AW];omega
   .rw[show b.A.toNat=m by omega,O];simp only[AW];omega
  .rcases aa with h|h
   .rw[show b.B.toNat=m by omega,O];simp only[AW];omega
   .rw[show b.B.toNat=v' by omega,g1];simp only[AW];omega
 have Q:(DH n m i).2=v':=by
  simp only[DH,hb]
  split<;>simp only<;>omega
 have hg:=P8 Z.ok st ab ad (by rw[G];exact g5) (by rw[G,Q,B5,g1,B5,O];simp only[AW]);refine⟨m,r,hm,hr,hg,O,?_⟩
 have:=(vM Z.ok ab hg.1).2
 rw[hg.2.2.1,Z.cnt] at this;exact this
def mM{n:Bi}(hn:DK n)(hc:Jb n){q:Int}{st qu:List Int}(G:st.length=n.Cnt.toNat)(hP:Gf n q (st,qu)){p:Int}(ac:0<=p)(ad:p<n.Cnt){d:Nat}(hd:st[p.toNat]? =some (d:Int)): ∀k,k<=d->dF n st p d k
 |0,_=>⟨hn,hc,rfl,rfl,rfl,⟨p.toNat,by simp only[Ce];omega,by omega,by rw[hd];simp⟩,λi b _ _ _=>rfl⟩
 |k+1,hk=>by
  have ih:=mM hn hc G hP ac ad hd k (by omega);obtain⟨m,r,O,hr,hg,Q,ag⟩:=Qk0 hn G hP (by omega) ih;obtain⟨h1,h2⟩:=Zi ih.ok ih.cap (i:=(Hi (Ce n st p k).1 st m).2) (ih.ok.at_ m r (by rw[ih.at_];exact hr) _ hg.1).1 hg.2.1;obtain⟨j0,b,hb,ab⟩:=hn.at_ m r hr _ hg.1;have af:=hg.2.2.2.2;have Z:=hg.2.2.2.1;rw[B5,Q,AW] at Z;obtain⟨z,hz⟩: ∃z,st[(Hi (Ce n st p k).1 st m).1.toNat]? =some z:=⟨_,BB (by omega)⟩;rw[hz,AW] at Z;refine⟨?_,?_,?_,?_,?_,⟨(Hi (Ce n st p k).1 st m).1.toNat,?_,by omega,by rw[hz,Z];congr 1;omega⟩,?_⟩
  .simp only[Ce,O];exact h1
  .simp only[Ce,O];exact h2
  .simp only[Ce,O];exact ih.cnt
  .simp only[Ce,O];exact ih.bs
  .simp only[Ce,O];exact ih.at_
  .simp only[Ce,O];omega
  .intro i b' aa hA hB;simp only[Ce,O];rw[Qabc]
   .exact ih.fl i b' aa (by omega) (by omega)
   .intro he;rw[he,aa] at hb;obtain rfl:=AC hb;rcases ab with h|h
    .rw[h,B5,Q] at hA;simp only[AW] at hA;omega
    .rw[h,B5,Q] at hB;simp only[AW] at hB;omega
def growC.ca(a:Bi×Int×Int):List AV:=[.ptr 0 0,.im (.int .i64 a.2.1),.im (.int .i64 a.2.2)]
def growC.H1(a:Bi×Int×Int):Ar:=[(1,(true,.arr 2 1 ((F9 a.1 a.2.1 a.2.2).1.Flow.map Af)))]
def growC.r0(a:Bi×Int×Int):AV:= .im (.bool (F9 a.1 a.2.1 a.2.2).2)
def YA(a:Bi×Int×Int):Prop:=DK a.1/\Jb a.1/\0<=a.2.1/\a.2.1<a.1.Cnt/\0<=a.2.2/\a.2.2<a.1.Cnt
def growC.row:AG:=Az growC.ca (λa=>Em a.1) 2 YA Kl growC.r0 growC.H1 0
def gZ:=J @stepsC.q<|J @stepsC.fv.eq_1<|J @roomC.q @roomC.fv.eq_1
def growC.ok:AJ 139 growC.row:=by
 refine ow (tC stepsC.ok (tC roomC.ok (tC pushC.ok tN))) Tryz.func139 (exB:=λ_=>false) (R:=λa r=>r=growC.r0 a) (λ_=>rfl)
  (λa=>by simp[growC.ca,Em,Gy,growC.H1,Kl,AQ,AV.bel,AB,Cg,Cs,Ah.nms,Ax,AV.nms,An,hget]) (λa p hp=> ?_) (λa r h=>by subst h;exact D2.refl _) ?_
 rotate_left
 intro a a9;simp only[Tryz.f139,Option.getD,growC.ca,Em,Gy,growC.H1,Kl];simp only[ZZ,simprocAttr,Ab,gZ,Av,growC.ca,Em,Gy,growC.H1,Kl];obtain⟨hn,ax,a0,bi,aj,ak⟩:=a9;refine⟨⟨hn,aj,ak⟩,a0,?_⟩;have bn:=hn.c1;have ah:=tA hn aj ak;have hP:=NX hn aj ak a.1.Cnt.toNat;have aa:=(Xy hn aj ak a.1.Cnt.toNat).rng;have bu:=Qkx hn.c0 (Xy hn aj ak a.1.Cnt.toNat);refine⟨by omega,λx hx=> ?_⟩
 split<;>rename_i ai
 .have e:F9 a.1 a.2.1 a.2.2=(a.1,false):=by simp only[F9];rw[hx];simp only[AW];rw[Al ai]
  exact⟨by simp only[growC.r0,e],by rw[e]⟩
 obtain⟨d,rfl⟩: ∃d:Nat,x=d:=⟨x.toNat,by omega⟩;have e:F9 a.1 a.2.1 a.2.2=((Ce a.1 (F8 a.1 a.2.2) a.2.1 d).1,true):=by simp only[F9];rw[hx];simp only[AW];rw[Ag ai,B5]
 simp only[growC.r0,e];have bb:(CK a.1 a.2.2 a.1.Cnt.toNat).1=F8 a.1 a.2.2:=rfl;have O:Gf a.1 a.2.2 (F8 a.1 a.2.2,(CK a.1 a.2.2 a.1.Cnt.toNat).2):=hP;have bo:=aa (d:Int) (Bh hx);clear e hP ai;obtain⟨st,hst⟩: ∃st,st=F8 a.1 a.2.2:=⟨_,rfl⟩;rw[bb] at aa;simp only[<-hst] at ah O hx aa⊢;have aw:=λk hk=>mM hn ax ah O a0 bi hx k hk
 refine AZ.old ⟨{k:Nat//k<=d},λk=>⟨[(8,.im (.int .i64 (Ce a.1 st a.2.1 k.1).2)),(7,.im (.sl false 1 (st.map Af))),(0,.ptr 0 0),(1,.im (.int .i64 a.2.1)),(2,.im (.int .i64 a.2.2))],[(0,(true,.cells 199 (Gy a.1))),(1,(true,.arr 2 1 ((Ce a.1 st a.2.1 k.1).1.Flow.map Af)))],2⟩,λk=>d - k.1,λk=>⟨by simp[ZG,Gy],AU _⟩,⟨⟨0,by simp⟩,by simp only[ZZ,simprocAttr,Ab,gZ,Av,growC.ca,Em,Gy,growC.H1,Kl,sub,Ce,Gy]⟩,λk=> ?_⟩;obtain⟨k,be⟩:=k;have hI:=aw k be;obtain⟨m,hm,br,ba⟩:=hI.v;simp only[Gy,hm];simp only[ZZ,simprocAttr,Ab,gZ,Av,growC.ca,Em,Gy,growC.H1,Kl,sub,AS];refine⟨λbt=> ?_,λhe=> ?_⟩
 .have bf:k<d:=by
   rcases FR k d with h|h
   .exact h
   .have:=O.uniq m (by rw[ba];congr 1;omega)
    omega
  obtain⟨m',r,bg,hr,hg,_,bl⟩:=Qk0 hn ah O bf hI;rw[hm] at bg;have bh:m'=m:=by omega
  subst bh;have Z:Ce a.1 st a.2.1 (k+1)=(I8 (Ce a.1 st a.2.1 k).1 m' (Hi (Ce a.1 st a.2.1 k).1 st m').2,(Hi (Ce a.1 st a.2.1 k).1 st m').1):=by simp only[Ce,hm]
  have a8:Hi (Ce a.1 st a.2.1 k).1 st m'=r.foldl (Gu (Ce a.1 st a.2.1 k).1 st m') (-1,0):=by simp only[Hi,B5,hI.at_,hr,AW]
  have Q:=hI.ok;have af:=hI.cnt;have av:=hI.bs;have an:=hI.at_;obtain⟨N,hN⟩: ∃N,N=(Ce a.1 st a.2.1 k).1:=⟨_,rfl⟩;simp only[<-hN] at Z a8 Q af av an hg bl⊢;have au:N.At[m']? =some r:=by rw[an];exact hr
  have az:(⟨a.1.Cnt,a.1.Bonds,a.1.At,N.Flow⟩:Bi)=N:=by rw[<-af,<-av,<-an]
  have aq:m'<a.1.At.length:=(CL.1 hr).1;refine AZ.old ⟨{j:Nat//j<=r.length},λj=>⟨[(11,.im (.int .i64 j.1)),(10,.im (.int .i64 ((r.take j.1).foldl (Gu N st m') (-1,0)).2)),(9,.im (.int .i64 ((r.take j.1).foldl (Gu N st m') (-1,0)).1)),(8,.im (.int .i64 m')),(7,.im (.sl false 1 (st.map Af))),(0,.ptr 0 0),(1,.im (.int .i64 a.2.1)),(2,.im (.int .i64 a.2.2))],[(0,(true,.cells 199 (Gy a.1))),(1,(true,.arr 2 1 (N.Flow.map Af)))],2⟩,λj=>r.length - j.1,λj=>⟨by simp[ZG,Gy],AU _⟩,⟨⟨0,by simp⟩,by simp only[ZZ,simprocAttr,Ab,gZ,Av,growC.ca,Em,Gy,growC.H1,Kl,sub,Gy,Hp,XU]⟩,λj=> ?_⟩;obtain⟨j,bq⟩:=j;obtain⟨acc,hacc⟩: ∃acc,acc=(r.take j).foldl (Gu N st m') (-1,0):=⟨_,rfl⟩;simp only[Gy,<-hacc];simp only[ZZ,simprocAttr,Ab,gZ,Av,growC.ca,Em,Gy,growC.H1,Kl,sub,AS,az];refine⟨aq,λr1 G=> ?_⟩;rw[hr] at G;obtain rfl:=AC G;intro bv;refine⟨λhj=>⟨aq,λr1 G=> ?_⟩,λhj=> ?_⟩
  .rw[hr] at G;obtain rfl:=AC G;refine⟨hj,λi ao=> ?_⟩;have ay:=Bh ao;obtain⟨i0,i1,_,_⟩:=gA Q au ay;have bj:=vM Q au ay;have z:(r.take (j+1)).foldl (Gu N st m') (-1,0)=Gu N st m' acc i:=by
    rw[Ji,ao,Zeg,<-hacc];rfl
   have ab:0<(DH N m' i).1->st[(DH N m' i).2.toNat]?.getD 0=st[(m':Int).toNat]?.getD 0 - 1->(acc.1<0\/(DH N m' i).2<acc.1)->Gu N st m' acc i=((DH N m' i).2,i):=by
    intro h1 h2 h3;simp only[Gu];rw[Al ⟨h1,h2,h3⟩]
   have am:IntKind.wrap .i64 ((j:Int)+1)=((j+1:Nat):Int):=by rw[AH (by omega) (by omega)];omega
   refine⟨⟨Q,i0,i1⟩,λh1=>⟨bj.1,by omega,λx' bm=>⟨by omega,λy' bc=> ?_⟩⟩,λh1=>⟨⟨j+1,by omega⟩,by simp only;omega,am,?_,?_⟩⟩
   .have bw:=aa y' (Bh bc);rw[AH (x:=y' - 1) (by omega) (by omega)];have ac:st[(DH N m' i).2.toNat]?.getD 0=x':=by rw[bm];rfl
    have ad:st[(m':Int).toNat]?.getD 0=y':=by rw[B5,bc];rfl
    refine⟨λh2=>⟨λh3=>⟨λh4=>⟨aq,λr1 G=> ?_⟩,λh4=>⟨⟨j+1,by omega⟩,by simp only;omega,am,?_,?_⟩⟩,λh3=>⟨aq,λr1 G=> ?_⟩⟩,λh2=>⟨⟨j+1,by omega⟩,by simp only;omega,am,?_,?_⟩⟩
    .rw[hr] at G;obtain rfl:=AC G;refine⟨hj,λi' ag=>⟨⟨j+1,by omega⟩,by simp only;omega,am,?_,?_⟩⟩
     .rw[ao] at ag;obtain rfl:=AC ag;simp only[z];rw[ab h1 (by rw[ac,ad,h2]) (.inr h4)]
     .simp only[z];rw[ab h1 (by rw[ac,ad,h2]) (.inr h4)]
    .simp only[z,Gu];rw[Ag (λh=>by rcases h.2.2 with h|h<;>omega)]
    .simp only[z,Gu];rw[Ag (λh=>by rcases h.2.2 with h|h<;>omega)]
    .rw[hr] at G;obtain rfl:=AC G;refine⟨hj,λi' ag=>⟨⟨j+1,by omega⟩,by simp only;omega,am,?_,?_⟩⟩
     .rw[ao] at ag;obtain rfl:=AC ag;simp only[z];rw[ab h1 (by rw[ac,ad,h2]) (.inl (HJ.1 h3))]
     .simp only[z];rw[ab h1 (by rw[ac,ad,h2]) (.inl (HJ.1 h3))]
    .simp only[z,Gu];rw[Ag (λh=>h2 (by rw[<-ac,<-ad];exact h.2.1))]
    .simp only[z,Gu];rw[Ag (λh=>h2 (by rw[<-ac,<-ad];exact h.2.1))]
   .simp only[z,Gu];rw[Ag (λh=>h1 h.1)]
   .simp only[z,Gu];rw[Ag (λh=>h1 h.1)]
  .have bd:j=r.length:=by omega
   subst bd;rw[IF] at hacc;rw[<-a8] at hacc;subst hacc;have bp:=Q.at_ m' r au _ hg.1;obtain⟨i0,i1,_,_⟩:=gA Q au hg.1;refine Az.os (N,(m':Int),(Hi N st m').2) [0,1] ⟨Q,i0,i1⟩ (λj=>pE _ j) rfl rfl ?_ ?_
   .simp only[ZZ,simprocAttr,Ab,gZ,Av,growC.ca,Em,Gy,growC.H1,Kl,pushC.ca,Em,Gy,Bb];rw[af,av,an];exact⟨rfl,rfl,rfl⟩
   .simp only[ZZ,simprocAttr,Ab,gZ,Av,growC.ca,Em,Gy,growC.H1,Kl,pushC.H1,Kl,sub];exact⟨⟨k+1,by omega⟩,by simp only;omega,by simp only[Z],by simp only[Z]⟩
 .have:k=d:=by
   have h1:=O.zero;rw[show a.2.2.toNat=m by omega,ba] at h1
   have:=AC h1
   omega
  rw[this]
 simp[growC.H1] at hp;subst hp;exact .inl ⟨by omega,rfl,rfl⟩
def Cr(a b:Nat)(h:a≠b):(a==b)=false:=by simpa using h
def Qnl{α β γ:Type}{f:α->Option β}{g:γ->α}{k:γ->β}: ∀(l:List γ),(∀i∈l,f (g i)=some (k i))->AA f (l.map g)=some (l.map k)
 |[],_=>rfl
 |x::r,h=>by simp only[Bf,AA,h x (BS ..),Qnl r (λi z=>h i (BW _ z))]
def Y1{H:Nat->Option Au}{kx:Nat->Option Nat}{m b n T:Nat}(f:Nat->List Int)(G: ∀i,i<n->kx (b+i)=none)(hH: ∀i,i<n->H (b+i)=some (true,.arr T 1 ((f i).map Af))):
 AA (AA λx=>EM (Bs H kx (m+1) x)) ((List.range n).map λi=>[AV.own (b+i)])=some (((List.range n).map f).map DA):=by
 rw[RT];refine Qnl _ (λi z=> ?_);have z:=CS.1 z;simp only[AA,Bs,G i z,hH i z,Q9,kp,Ez,EM,AV.asD,Function.comp,DA]
def Q4(H:Ar)(a b:Nat)(h:a≠b):hget (Cb H [a]) b=hget H b:=by
 rw[Xv,Ag];simp;omega
def Wp{α:Type}{a b:Nat}{x y:α}(h:a≠b):(if a=b then x else y)=y:=Ag h
def Cx: ∀(x:Ar),Cb x []=x
 |[]=>rfl
 |(m,e)::r=>by simp[Cb,Cx r]
def lT(L:List Nat)(b n:Nat)(h:L.Nodup)(z: ∀x∈L,x<b):(L++(List.range n).map (b+ ·)).Nodup:=by
 rw[Jh];refine⟨h,?_,?_⟩
 .rw[ZeE,List.pairwise_map];exact ZeP (λh Q=>h (by omega)) (ZeE.1 Zep)
 .intro x G y O Z;obtain⟨i,_,rfl⟩:=BF.1 O
  have:=z x G
  omega
def II(bs:List Ai)(i:Nat):Nat->List Int
 |0=>[]
 |k+1=>II bs i k++(match bs[k]? with
  |some b=>(if b.A=i then [(k:Int)] else [])++(if b.B=i then [(k:Int)] else [])
  |none=>[])
def Qwx(bs:List Ai)(i:Nat): ∀k,(II bs i k).length<=2*k
 |0=>AU _
 |k+1=>by
  have:=Qwx bs i k
  simp only[II,Bz];split
  .simp only[Bz]
   split<;>split<;>simp<;>omega
  .simp;omega
def Dz(n:Int)(bs:List Ai):Bi:=⟨n,bs,(List.range n.toNat).map (λi=>II bs i bs.length),List.replicate bs.length 0⟩
def newNC.ca(a:Int×List Ai):List AV:=[.im (.int .i64 a.1),.im (.sl false 3 (a.2.map Ai.c))]
def newNC.H1(a:Int×List Ai):Ar:=[(0,(true,.cells 199 [.im (.int .i64 a.1),.im (.sl false 3 (a.2.map Ai.c)),.im (.sl false 1 ((Dz a.1 a.2).At.map DA)),.own 2])),(2,(true,.arr 2 1 ((Dz a.1 a.2).Flow.map Af)))]
def aV(a:Int×List Ai):Prop:=0<=a.1/\a.1<=1000/\a.2.length<=1000000/\LA a.1 a.2/\ ∀b∈a.2,b.A≠b.B
def EX(j:Nat):Bool:=j==0||j==2
def newNC.row:AG:=Az newNC.ca (λ_=>[]) 0 aV (λ_=>false) (λ_=> .ptr 0 0) newNC.H1 3010
def newNC.ok:AJ 138 newNC.row:=by
 refine ow tN Tryz.func138 (exB:=EX) (R:=λ_ r=>r= .ptr 0 0) (λ_=>rfl)
  (λa=>by simp[newNC.ca,newNC.H1,EX,AQ,AV.bel,AB,Cg,Cs,Ah.nms,Ax,AV.nms,An,hget]) (λa p hp=> ?_) (λa r h=>by subst h;exact D2.refl _) ?_
 rotate_left
 intro a ay;simp only[Tryz.f138,Option.getD,newNC.ca,newNC.H1,EX];simp(disch:=omega)only[ZZ,simprocAttr,Ab,Av,newNC.ca,newNC.H1,EX];obtain⟨ax,bb,hl,an,bc⟩:=ay;refine⟨ax,RV _,by omega,λ_=>⟨by omega,?_⟩⟩;obtain⟨n,hn⟩: ∃n:Nat,a.1=n:=⟨a.1.toNat,by omega⟩;rw[hn] at ax bb an;simp only[hn,B5];refine AZ.ren ⟨{k:Nat//k<=a.2.length},λk=>⟨[(6,.im (.int .i64 k.1)),(5,.ptr 0 0),(1,.im (.sl false 3 (a.2.map Ai.c)))],(0,(true,.cells 199 [.im (.int .i64 n),.im (.sl false 3 (a.2.map Ai.c)),.own 1,.own 2]))::(2,(true,.arr 2 1 ((List.replicate a.2.length (0:Int)).map Af)))::(1,(true,.arrA 22 1 ((List.range n).map λi=>[AV.own (1000+i)])))::CJ 1000 n (λi=>(true,.arr 2 1 ((II a.2 i k.1).map Af))),3000⟩,λk=>a.2.length - k.1,λk=>⟨?_,by simp⟩,⟨⟨0,by simp⟩,Jy 1000 n,?_⟩,λk=> ?_⟩
 .simp only[ZG,EL,ED];rw[mJ _ _ _ (λi=>by simp[AB]),fH _ _ _ _ (by omega)];simp[AQ,AV.bel];omega
 .refine⟨Tk _ _ _ (by simp),?_,?_,?_⟩
  .rw[mN];simp only[FQ,fI];refine mQ _ _ (lT [0,2,1] 1000 n (by simp) (by simp)) ?_;intro x hx y hy m G z;rw[mV] at G z;split at G
   .cases G
   .split at z
    .cases z
    .exact (AC G).trans (AC z).symm
  .simp only[RC,A9];simp(disch:=omega)only[ZZ,simprocAttr,Ab,Av,newNC.ca,newNC.H1,EX,mV,Hl];simp[Hl]
  .have p0:pm (Jy 1000 n) 0=some 0:=by rw[mV,Ag (by omega)]
   have p1:pm (Jy 1000 n) 1=some 1:=by rw[mV,Ag (by omega)]
   have p2:pm (Jy 1000 n) 2=some 2:=by rw[mV,Ag (by omega)]
   have pf: ∀i,i<n->pm (Jy 1000 n) (1000+i)=none:=by intro i O;rw[mV,Al (by omega)]
   simp only[HC,mF];refine⟨?_,?_,?_,λi O=> ?_⟩
   .simp(disch:=omega)only[ZZ,simprocAttr,Ab,Av,newNC.ca,newNC.H1,EX,p0,p1,p2]
   .simp(disch:=omega)only[ZZ,simprocAttr,Ab,Av,newNC.ca,newNC.H1,EX,p0,p1,p2];simp[Af]
   .simp(disch:=omega)only[ZZ,simprocAttr,Ab,Av,newNC.ca,newNC.H1,EX,p0,p1,p2];rw[mS];refine⟨by simp,λi x y hx hy=> ?_⟩;simp only[Gb,Da] at hx hy;obtain⟨i',ah,rfl⟩:=hx;obtain⟨w,hw,rfl⟩:=hy;have bf:=QH (Bh hw);subst bf
    have:=CS.1 (Bh ah)
    simp(disch:=omega)only[ZZ,simprocAttr,Ab,Av,newNC.ca,newNC.H1,EX,pf i' this]
   .rw[pf i O];simp(disch:=omega)only[ZZ,simprocAttr,Ab,Av,newNC.ca,newNC.H1,EX,II,Bg]
 obtain⟨k,bj⟩:=k;simp(disch:=omega)only[ZZ,simprocAttr,Ab,Av,newNC.ca,newNC.H1,EX,sub,AS,Sh,ON,Cx];intro _;refine⟨λhk=>⟨hk,λb hb=>⟨hk,λb' Z=> ?_⟩⟩,λhk=> ?_⟩
 .rw[hb] at Z;obtain rfl:=AC Z;obtain⟨b1,b2,b3,b4⟩:=an b (Bh hb);have bi:=bc b (Bh hb);refine⟨b1,by rw[FE];exact b2,by rw[FE];omega,λx hx=> ?_⟩;obtain⟨az,bg⟩:=CL.1 hx;rw[FE] at az;rw[ZeL] at bg;have bq:x<n:=by omega
  refine⟨by omega,?_,?_⟩
  .simp;omega
  have am:(1000+x<3000\/3000<=1000+x)=True:=iM (by omega);have bn:(1000+x==0)=false:=Cr _ _ (by omega);have bo:(1000+x==1)=false:=Cr _ _ (by omega);have bp:(1000+x==2)=false:=Cr _ _ (by omega);have bl:=Qwx a.2 x k;simp(disch:=omega)only[ZZ,simprocAttr,Ab,Av,newNC.ca,newNC.H1,EX,sub,AS,Wp,aJ,Cx,am,Cr];refine⟨by omega,by omega,?_⟩;refine⟨b1,by rw[FE];exact b2,by rw[FE];exact az,λ_ _=> ?_⟩;have Q: ∀N,3001<N->((List.map (λi=>[AV.own (1000+i)]) (List.range n)).set b.A.toNat [AV.own 3001]).all (AQ N)=true:=by
   intro N hN;rw[Fk];intro r hr;rcases bY hr with hr|hr
   .obtain⟨i,O,rfl⟩:=BF.1 hr
    have:=CS.1 O
    simp[AQ,AV.bel];omega
   .subst hr;simp[AQ,AV.bel];omega
  refine⟨Q _ (by omega),⟨by simp,by simp,by simp⟩,hk,λb' Z=>⟨hk,λb'' ag=> ?_⟩⟩;rw[hb] at Z ag;obtain rfl:=AC Z;obtain rfl:=AC ag;obtain⟨y,hy⟩: ∃y:Nat,b.B=y:=⟨b.B.toNat,by omega⟩;have br:y≠x:=by omega
  have bh:y<n:=by omega
  have a8:b.B.toNat=y:=by omega
  refine⟨b3,by simp;omega,by simp;omega,λrow aa=> ?_⟩;have ak:row=[AV.own (1000+y)]:=by
   rw[a8,Ep (by omega),Gb,IH bh] at aa;exact (AC aa).symm
  subst ak;have a0:(1000+y<3002\/3002<=1000+y)=True:=iM (by omega);have bm:=Qwx a.2 y k;simp(disch:=omega)only[ZZ,simprocAttr,Ab,Av,newNC.ca,newNC.H1,EX,sub,AS,Wp,aJ,Cx,am,a0,Cr,Q4];refine⟨by omega,by omega,by omega,b3,by simp;omega,by simp;omega,λrow ab=> ?_⟩;rw[aa] at ab;obtain rfl:=AC ab;simp only[ZZ,simprocAttr,Ab,Av,newNC.ca,newNC.H1,EX,sub,AS,Wp,aJ,Cx,am,a0,Cr,Q4];refine⟨?_,⟨by simp,by simp,by simp⟩,⟨k+1,by omega⟩,[(1000+x,some 3001),(1000+y,some 3003)],by simp only;omega,?_⟩
  .rw[Fk];intro r hr;rcases bY hr with hr|hr
   .exact Fk.1 (Q 3004 (by omega)) r hr
   .subst hr;simp[AQ,AV.bel]
  obtain⟨g,hg⟩: ∃g,g=pm [(1000+x,some 3001),(1000+y,some 3003)]:=⟨_,rfl⟩;have qx:g (1000+x)=some 3001:=by rw[hg];simp[pm]
  have qy:g (1000+y)=some 3003:=by rw[hg];simp only[pm];rw[Ag (by omega)];simp
  have qo: ∀u,u≠1000+x->u≠1000+y->g u=some u:=by intro u G z;rw[hg];simp only[pm];rw[Ag (by omega),Ag (by omega)]
  have a9: ∀i,i<n->II a.2 i (k+1)=if i=x\/i=y then II a.2 i k++[(k:Int)] else II a.2 i k:=by
   intro i O;simp only[II,hb];by_cases G:i=x
   .subst G;rw[Al (by omega),Ag (by omega),Al (.inl rfl),Ck]
   .by_cases z:i=y
    .subst z;rw[Ag (by omega),Al (by omega),Al (.inr rfl),Dv]
    .rw[Ag (by omega),Ag (by omega),Ag (by omega)];simp
  refine⟨⟨by omega,by omega,trivial⟩,?_,?_,?_⟩
  .rw[mN,<-hg];simp only[FQ,fI];refine mQ _ _ (lT [0,2,1] 1000 n (by simp) (by simp)) ?_;have au: ∀u∈[0,2,1]++(List.range n).map (1000+ ·),u<2000:=by
    intro u hu;rcases B2.1 hu with hu|hu
    .simp at hu;omega
    .obtain⟨i,O,rfl⟩:=BF.1 hu
     have:=CS.1 O
     show 1000+i<2000;omega
   have hc: ∀u,u<2000->(u=1000+x/\g u=some 3001)\/(u=1000+y/\g u=some 3003)\/g u=some u:=by
    intro u _;by_cases G:u=1000+x
    .exact .inl ⟨G,G▸qx⟩
    .by_cases z:u=1000+y
     .exact .inr (.inl ⟨z,z▸qy⟩)
     .exact .inr (.inr (qo u G z))
   intro u hu v hv m av aw;have bd:=au u hu;have be:=au v hv;rcases hc u bd with ⟨e1,e2⟩|⟨e1,e2⟩|e2<;>rcases hc v be with ⟨f1,f2⟩|⟨f1,f2⟩|f2<;>rw[e2] at av<;>rw[f2] at aw<;>simp only[AO] at av aw<;>omega
  .have q0:pm [(1000+x,some 3001),(1000+y,some 3003)] 0=some 0:=by rw[<-hg];exact qo 0 (by omega) (by omega)
   simp only[RC,A9];simp only[ZZ,simprocAttr,Ab,Av,newNC.ca,newNC.H1,EX,q0];rw[AH (by omega) (by omega)];simp
  .have q0:pm [(1000+x,some 3001),(1000+y,some 3003)] 0=some 0:=by rw[<-hg];exact qo 0 (by omega) (by omega)
   have q1:pm [(1000+x,some 3001),(1000+y,some 3003)] 1=some 1:=by rw[<-hg];exact qo 1 (by omega) (by omega)
   have q2:pm [(1000+x,some 3001),(1000+y,some 3003)] 2=some 2:=by rw[<-hg];exact qo 2 (by omega) (by omega)
   have ad:=qx;have af:=qy;have ac:=qo;rw[hg] at ad af ac;simp only[HC,mF];refine⟨?_,?_,?_,λi O=> ?_⟩
   .simp only[ZZ,simprocAttr,Ab,Av,newNC.ca,newNC.H1,EX,q0,q1,q2]
   .simp only[ZZ,simprocAttr,Ab,Av,newNC.ca,newNC.H1,EX,q0,q1,q2]
   .simp only[ZZ,simprocAttr,Ab,Av,newNC.ca,newNC.H1,EX,q0,q1,q2];rw[mS];refine⟨by simp,λi r1 r2 G z=> ?_⟩;simp only[Gb,Da] at G;obtain⟨i',ah,rfl⟩:=G;obtain⟨aq,ao⟩:=CL.1 ah;rw[FE] at aq;rw[ZeL] at ao;subst ao;rw[a8,show b.A.toNat=x by omega] at z;by_cases aj:i=y
    .subst aj;rw[Ey (by simp;omega)] at z;obtain rfl:=AC z;simp only[Es,mt,af,H2,Fu]
    .rw[Ep (by omega)] at z;by_cases ai:i=x
     .subst ai;rw[Ey (by simp;omega)] at z;obtain rfl:=AC z;simp only[Es,mt,ad,H2,Fu]
     .rw[Ep (by omega),Gb,IH aq] at z;obtain rfl:=AC z;simp only[Es,mt,ac (1000+i) (by omega) (by omega),H2,Fu]
   .show Fa _ _ true (.arr 2 1 ((II a.2 i (k+1)).map Af)) _;rw[a9 i O];by_cases aj:i=y
    .subst aj;rw[af,Al (.inr rfl)];simp only[ZZ,simprocAttr,Ab,Av,newNC.ca,newNC.H1,EX];simp[Af]
    .by_cases ai:i=x
     .subst ai;rw[ad,Al (.inl rfl)];simp only[ZZ,simprocAttr,Ab,Av,newNC.ca,newNC.H1,EX];simp[Af]
     .rw[ac (1000+i) (by omega) (by omega),Ag (by omega)];have e: ∀(H:Ar),hget H (1000+i)=some (true,.arr 2 1 ((II a.2 i k).map Af))->KS [(1000+x,some 3001),(1000+y,some 3003)] true (.arr 2 1 ((II a.2 i k).map Af)) (hget H (1000+i)):=by
       intro H hH;rw[hH];exact⟨rfl,by simp only[Er]⟩
      refine e _ ?_;simp only[hget,Cr _ _ (show 1≠1000+i by omega),Cr _ _ (show 3003≠1000+i by omega),Cr _ _ (show 3002≠1000+i by omega),Cr _ _ (show 3001≠1000+i by omega),Cr _ _ (show 3000≠1000+i by omega),Cr _ _ (show 0≠1000+i by omega),Cr _ _ (show 2≠1000+i by omega),Cy];rw[Q4 _ _ _ (by omega),Q4 _ _ _ (by omega),Q4 _ _ _ (by omega),Q4 _ _ _ (by omega),aJ _ _ _ _ O]
 .have ba:k=a.2.length:=by omega
  subst ba;rw[Y1 (T:=2) (λi=>II a.2 i a.2.length)]
  .simp[Dz]
  .intro i O;have e:EX (1000+i)=false:=by simp only[EX,Cr _ _ (show 1000+i≠0 by omega),Cr _ _ (show 1000+i≠2 by omega),QI]
   simp[YI,An,hget,e]
  .intro i O;simp only[hget,Cr _ _ (show 1≠1000+i by omega),Cr _ _ (show 0≠1000+i by omega),Cr _ _ (show 2≠1000+i by omega),Cy];exact aJ _ _ _ _ O
 simp[newNC.H1] at hp;rcases hp with rfl|rfl
 .exact .inr ⟨by omega,by simp,rfl,rfl⟩
 .exact .inr ⟨by omega,by simp,rfl,rfl⟩
def Kg(p:Int)(b:Ai)(f:Int):Int:=if b.A=p then f else if b.B=p then -f else 0
def DC(n:Bi)(p:Int):Int:=(List.zipWith (Kg p) n.Bonds n.Flow).sum
def NL(p:Int): ∀(bs:List Ai) (O:List Int) (j:Nat) (b:Ai) (f f':Int),bs[j]? =some b->O[j]? =some f->(List.zipWith (Kg p) bs (O.set j f')).sum=(List.zipWith (Kg p) bs O).sum - Kg p b f+Kg p b f'
 |[],_,_,_,_,_,h,_=>by simp at h
 |_::_,[],_,_,_,_,_,h=>by simp at h
 |x::r,y::s,0,b,f,f',z,G=>by
  simp only[Hn,AO] at z G;subst z;subst G;simp only[iB,iF,RO];omega
 |x::r,y::s,j+1,b,f,f',z,G=>by
  have:=NL p r s j b f f' (by simpa using z) (by simpa using G)
  simp only[nW,iF,RO,this];omega
def Qzc{n:Bi}(hn:DK n){v:Nat}{r:List Int}(hr:n.At[v]? =some r){i:Int}(O:i∈r)(p:Int):DC (I8 n v i) p=DC n p+(if (v:Int)=p then 1 else if (DH n v i).2=p then -1 else 0):=by
 obtain⟨h0,b,z,hv⟩:=hn.at_ v r hr i O;have Z:=hn.ne b (Bh z);have Q:=(CL.1 z).1;obtain⟨f,hf⟩: ∃f,n.Flow[i.toNat]? =some f:=⟨_,BB (by rw[hn.fl];exact Q)⟩;simp only[DC,I8,z,DH];rw[NL p _ _ _ b f _ z hf,hf];simp only[AW,Kg];rcases hv with h|h
 .simp only[Al h]
  repeat' split
  all_goals omega
 .have G: ¬b.A=v:=by omega
  simp only[Ag G]
  repeat' split
  all_goals omega
def L4(p:Int): ∀(bs:List Ai) (O:List Int),(∀(i:Nat) b f,bs[i]? =some b->O[i]? =some f-> -b.Strength<=f/\f<=b.Strength)->(∀b∈bs,0<=b.Strength)->(List.zipWith (Kg p) bs O).sum<=(bs.map Ai.Strength).sum
 |[],_,_,_=>by simp
 |x::r,[],_,z=>by
  have Q:=L4 p r [] (λi b f _ h=>by simp at h) (λb G=>z b (BW _ G));have h2:=z x (BS ..);simp only[Zee,Zfc,Bf,RO] at Q⊢;omega
 |x::r,y::s,Z,z=>by
  have Q:=L4 p r s (λi b f h h'=>Z (i+1) b f (by simpa using h) (by simpa using h')) (λb G=>z b (BW _ G));have h2:=z x (BS ..);have h3:=Z 0 x y rfl rfl;simp only[iF,Bf,RO,Kg];split
  .omega
  .split<;>omega
def UF{n:Bi}(hn:DK n)(G:Jb n)(p:Int):DC n p<=(n.Bonds.map Ai.Strength).sum:=L4 p _ _ G (λb z=>(hn.st b z).1)
def VX{n:Bi}(hn:DK n)(hc:Jb n){q:Int}{st qu:List Int}(z:st.length=n.Cnt.toNat)(hP:Gf n q (st,qu)){p:Int}(aa:0<=p)(ab:p<n.Cnt){d:Nat}(hd:st[p.toNat]? =some (d:Int)): ∀k,k<d->DC (Ce n st p (k+1)).1 p=DC n p+1:=by
 have step: ∀k,k<d->DC (Ce n st p (k+1)).1 p=DC (Ce n st p k).1 p+(if k=0 then 1 else 0):=by
  intro k Q;have Z:=mM hn hc z hP aa ab hd k (by omega);obtain⟨m,r,hm,hr,hg,G,af⟩:=Qk0 hn z hP Q Z;have ac:(Ce n st p k).1.At[m]? =some r:=by rw[Z.at_];exact hr
  have e:(Ce n st p (k+1)).1=I8 (Ce n st p k).1 m (Hi (Ce n st p k).1 st m).2:=by simp only[Ce,hm]
  rw[e,Qzc Z.ok ac hg.1,hg.2.2.1];have O:=hg.2.2.2.1;rw[B5,G,AW] at O;have ad:(Hi (Ce n st p k).1 st m).1≠p:=by
   intro he;rw[he,hd,AW] at O;omega
  by_cases h0:k=0
  .subst h0
   have:(m:Int)=p:=by rw[<-hm];rfl
   rw[Al this,Al rfl]
  .have:(m:Int)≠p:=by
    intro he
    have:m=p.toNat:=by omega
    rw[this,hd] at G
    have:=AC G
    omega
   rw[Ag this,Ag ad,Ag h0]
 intro k Q;induction k with
 |zero=>rw[step 0 Q];simp[Ce]
 |succ k ih=>rw[step (k+1) Q,Ag (by omega),ih (by omega)];omega
def Qr2(bs:List Ai)(i:Nat)(z:Int): ∀k,z∈II bs i k↔ ∃(j:Nat) (b:Ai),j<k/\z=j/\bs[j]? =some b/\(b.A=i\/b.B=i)
 |0=>by simp[II]
 |k+1=>by
  have ih:=Qr2 bs i z k;simp only[II,B2,ih];constructor
  .rintro (⟨j,b,Z,O,Q,G⟩|h)
   .exact⟨j,b,by omega,O,Q,G⟩
   .cases hb:bs[k]? with
    |none=>rw[hb] at h;simp at h
    |some b=>
     rw[hb] at h;simp only[B2] at h;refine⟨k,b,by omega,?_,hb,?_⟩
     .rcases h with h|h<;>split at h<;>simp at h<;>exact h
     .rcases h with h|h
      .split at h
       .exact .inl (by assumption)
       .simp at h
      .split at h
       .exact .inr (by assumption)
       .simp at h
  .rintro⟨j,b,Z,O,Q,G⟩;by_cases hj:j=k
   .subst hj;refine .inr ?_;rw[Q];simp only[B2];rcases G with G|G
    .exact .inl (by rw[Al G,O];exact BL.2 rfl)
    .exact .inr (by rw[Al G,O];exact BL.2 rfl)
   .exact .inl ⟨j,b,by omega,O,Q,G⟩
def QA(bs:List Ai):Prop:= ∀b∈bs,0<=b.Strength/\b.Strength<=1000000
def Qxo{n:Int}{bs:List Ai}(v:Nat)(z:v<n.toNat):(Dz n bs).At[v]? =some (II bs v bs.length):=by
 simp only[Dz,Gb,IH z,Ez]
def MN{n:Int}{bs:List Ai}(h:aV (n,bs))(hs:QA bs):DK (Dz n bs)/\Jb (Dz n bs):=by
 obtain⟨h0,h1,h2,G,Z⟩:=h;simp only at h0 h1 h2 G Z;have hz: ∀(i:Nat) f,(Dz n bs).Flow[i]? =some f->f=0:=by
  intro i f hf;exact QH (Bh hf)
 refine⟨⟨h0,by show n<=1000000;omega,by simp[Dz],by simp[Dz];omega,G,?_,?_,hs,?_,Z⟩,?_⟩
 .intro v r Q i O;have hv:v<n.toNat:=by
   have:=(CL.1 Q).1
   simpa[Dz] using this
  rw[Qxo v hv] at Q;obtain rfl:=AC Q;obtain⟨j,b,g1,g2,g3,g4⟩:=(Qr2 bs v i bs.length).1 O;exact⟨by omega,b,by rw[g2,B5];exact g3,g4⟩
 .intro x hx;obtain⟨i,O⟩:=W1.1 hx
  have:=hz i x O
  omega
 .intro i b z;have hl:=(CL.1 z).1;have aa:=G b (Bh z);refine⟨⟨_,Qxo _ (by omega),(Qr2 bs _ _ _).2 ⟨i,b,hl,rfl,z,.inl (by omega)⟩⟩,⟨_,Qxo _ (by omega),(Qr2 bs _ _ _).2 ⟨i,b,hl,rfl,z,.inr (by omega)⟩⟩⟩
 .intro i b f z hf
  have:=hz i f hf
  have:=hs b (Bh z)
  omega
def Qtg{n:Int}{bs:List Ai}(p:Int):DC (Dz n bs) p=0:=by
 simp only[DC,Dz]
 have: ∀(l:List Ai) (m:Nat),(List.zipWith (Kg p) l (List.replicate m 0)).sum=0:=by
  intro l;induction l with
  |nil=>intro m;simp
  |cons x r ih=>
   intro m;cases m with
   |zero=>simp
   |succ m=>
    simp only[Zex,iF,RO,ih m,Kg];split
    .rfl
    .split<;>rfl
 exact this _ _
def GV(p q:Int):Nat->Bi->Bi×Int
 |0,n=>(n,0)
 |m+1,n=>if (F9 n p q).2=true then ((GV p q m (F9 n p q).1).1,(GV p q m (F9 n p q).1).2+1) else (n,0)
def Ew(n:Int)(bs:List Ai)(p q:Int):Bi×Int:=GV p q ((bs.map Ai.Strength).sum.toNat+1) (Dz n bs)
def Mx{n:Bi}(hn:DK n)(hc:Jb n){p q:Int}(O:0<=p)(Q:p<n.Cnt)(Z:0<=q)(aa:q<n.Cnt)(ab:p≠q)(hg:(F9 n p q).2=true):
 DK (F9 n p q).1/\Jb (F9 n p q).1/\(F9 n p q).1.Cnt=n.Cnt/\(F9 n p q).1.Bonds=n.Bonds/\(F9 n p q).1.At=n.At/\DC (F9 n p q).1 p=DC n p+1:=by
 have z:=tA hn Z aa;have hP:Gf n q (F8 n q,(CK n q n.Cnt.toNat).2):=NX hn Z aa n.Cnt.toNat;obtain⟨x,hx⟩: ∃x,(F8 n q)[p.toNat]? =some x:=⟨_,BB (by omega)⟩;simp only[F9,hx,AW] at hg⊢;by_cases h:x<0
 .rw[Al h] at hg;simp at hg
 .obtain⟨d,rfl⟩: ∃d:Nat,x=d:=⟨x.toNat,by omega⟩;rw[Ag h,B5];have hd:0<d:=by
   rcases nX d with h0|h0
   .subst h0
    have:=hP.uniq p.toNat hx
    omega
   .exact h0
  have G:=mM hn hc z hP O Q hx d (AU _);have ho:=VX hn hc z hP O Q hx (d - 1) (by omega);rw[show d - 1+1=d by omega] at ho;exact⟨G.ok,G.cap,G.cnt,G.bs,G.at_,ho⟩
abbrev oQ:=Int×List Ai×Int×Int
def flC.net(a:oQ):Bi:=(Ew a.1 a.2.1 a.2.2.1 a.2.2.2).1
def flC.ca(a:oQ):List AV:=[.im (.int .i64 a.1),.im (.sl false 3 (a.2.1.map Ai.c)),.im (.int .i64 a.2.2.1),.im (.int .i64 a.2.2.2)]
def flC.H1(a:oQ):Ar:=[(0,(true,.cells 199 [.im (.int .i64 a.1),.im (.sl false 3 (a.2.1.map Ai.c)),.im (.sl false 1 ((Dz a.1 a.2.1).At.map DA)),.own 2])),(2,(true,.arr 2 1 ((flC.net a).Flow.map Af)))]
def flC.r0(a:oQ):AV:= .tup [.ptr 0 0,.im (.int .i64 (Ew a.1 a.2.1 a.2.2.1 a.2.2.2).2)]
def flC.pre(a:oQ):Prop:=aV (a.1,a.2.1)/\QA a.2.1/\0<=a.2.2.1/\a.2.2.1<a.1/\0<=a.2.2.2/\a.2.2.2<a.1/\a.2.2.1≠a.2.2.2
def flC.row:AG:=Az flC.ca (λ_=>[]) 0 flC.pre (λ_=>false) flC.r0 flC.H1 3010
def flC.ok:AJ 110 flC.row:=by
 refine ow (tC newNC.ok (tC growC.ok tN)) Tryz.func110 (exB:=EX) (R:=λa r=>r=flC.r0 a) (λ_=>rfl)
  (λa=>by simp[flC.ca,flC.H1,EX,AQ,AV.bel,AB,Cg,Cs,Ah.nms,Ax,AV.nms,An,hget]) (λa p hp=> ?_) (λa r h=>by subst h;exact D2.refl _) ?_
 rotate_left
 intro a ab;simp only[Tryz.f110,Option.getD,flC.ca,flC.H1,EX];simp only[ZZ,simprocAttr,Ab,Av,flC.ca,flC.H1,EX];obtain⟨G,ad,aa,ak,ac,am,ag⟩:=ab;obtain⟨Z,z⟩:=MN G ad;have ah:=Qtg (n:=a.1) (bs:=a.2.1) a.2.2.1;refine Az.os (a.1,a.2.1) [] G (λj=>by simp[An,hget]) rfl rfl ?_ ?_
 .simp only[ZZ,simprocAttr,Ab,Av,flC.ca,flC.H1,EX,newNC.ca,Bb]
 .simp only[ZZ,simprocAttr,Ab,Av,flC.ca,flC.H1,EX,newNC.H1,sub];obtain⟨F,hF⟩: ∃F,F=(a.2.1.map Ai.Strength).sum.toNat+1:=⟨_,rfl⟩;refine AZ.old ⟨{k:Nat×Bi//DK k.2/\Jb k.2/\k.2.Cnt=a.1/\k.2.Bonds=a.2.1/\k.2.At=(Dz a.1 a.2.1).At/\DC k.2 a.2.2.1=k.1/\k.1<=F/\Ew a.1 a.2.1 a.2.2.1 a.2.2.2=((GV a.2.2.1 a.2.2.2 (F - k.1) k.2).1,(GV a.2.2.1 a.2.2.2 (F - k.1) k.2).2+k.1)},λk=>⟨[(11,.im (.int .i64 k.1.1)),(10,.ptr 0 0),(2,.im (.int .i64 a.2.2.1)),(3,.im (.int .i64 a.2.2.2))],[(0,(true,.cells 199 [.im (.int .i64 a.1),.im (.sl false 3 (a.2.1.map Ai.c)),.im (.sl false 1 ((Dz a.1 a.2.1).At.map DA)),.own 2])),(2,(true,.arr 2 1 (k.1.2.Flow.map Af)))],3010⟩,λk=>F - k.1.1,λk=>⟨by simp[ZG],AU _⟩,⟨⟨(0,Dz a.1 a.2.1),Z,z,rfl,rfl,rfl,ah,BV _,by simp[Ew,hF]⟩,by simp only[ZZ,simprocAttr,Ab,Av,flC.ca,flC.H1,EX,sub]⟩,λk=> ?_⟩;obtain⟨⟨k,N⟩,i1,i2,i3,i4,i5,i6,i7,O⟩:=k;simp only at i1 i2 i3 i4 i5 i6 i7 O;have af:=UF i1 i2 a.2.2.1;rw[i4,i6] at af;have aj:k<F:=by omega
  have ai:F<=1000000000001:=by
   have h2: ∀(l:List Ai),(∀b∈l,b.Strength<=1000000)->(l.map Ai.Strength).sum<=1000000*(l.length:Int):=by
    intro l;induction l with
    |nil=>intro _;simp
    |cons x r ih=>
     intro h;have h3:=ih (λb hb=>h b (BW _ hb));have h4:=h x (BS ..);simp only[Bf,RO,CR];omega
   have h3:=h2 a.2.1 (λb hb=>(ad b hb).2);have h4:=G.2.2.1;simp only at h4;omega
  obtain⟨m,hm⟩: ∃m,F - k=m+1:=⟨F - k - 1,by omega⟩;rw[hm,GV] at O;simp only[ZZ,simprocAttr,Ab,Av,flC.ca,flC.H1,EX,sub,AS];refine Az.os (N,a.2.2.1,a.2.2.2) [0,2] ⟨i1,i2,aa,by simp only;omega,ac,by simp only;omega⟩ (λj=>pE _ j) rfl rfl ?_ ?_
  .simp only[ZZ,simprocAttr,Ab,Av,flC.ca,flC.H1,EX,growC.ca,Em,Gy,Bb];rw[i3,i4,i5];exact⟨rfl,rfl,rfl⟩
  .simp only[ZZ,simprocAttr,Ab,Av,flC.ca,flC.H1,EX,growC.H1,growC.r0,Kl,sub,AS];refine⟨λQ=> ?_,λQ=> ?_⟩
   .rw[Al Q] at O;obtain⟨g1,g2,g3,g4,g5,g6⟩:=Mx i1 i2 aa (by omega) ac (by omega) ag Q;refine⟨⟨(k+1,(F9 N a.2.2.1 a.2.2.2).1),g1,g2,g3.trans i3,g4.trans i4,g5.trans i5,by simp only;omega,by simp only;omega,?_⟩,by simp only;omega,?_,rfl⟩
    .simp only;rw[show F - (k+1)=m by omega,O];simp only[EF,Jn];omega
    .rw[AH (by omega) (by omega)];simp only;omega
   .rw[Ag Q] at O;have e:(F9 N a.2.2.1 a.2.2.2).1=N:=by
     revert Q;simp only[F9];split
     .intro _;rfl
     .intro h;simp at h
    refine⟨?_,?_⟩
    .simp only[flC.r0,O];simp
    .rw[e];simp only[flC.net,O]
 simp[flC.H1] at hp;rcases hp with rfl|rfl
 .exact .inr ⟨by omega,by simp,rfl,rfl⟩
 .exact .inr ⟨by omega,by simp,rfl,rfl⟩
def Qv:D->Option Int
 | .int .u64 n=>some n
 |_=>none
def Qs3: ∀d x,Qv d=some x->Le d (.int .u64 x):=by
 intro d x h;unfold Qv at h;split at h
 .simp only[AO] at h;subst h;exact Le.refl _
 .cases h
def Qw1{a:Int}(h0:0<=a)(G:a<4294967296):XW .u64 a 4294967295=a:=by
 simp only[XW];obtain⟨n,rfl⟩: ∃n:Nat,a=n:=⟨a.toNat,by omega⟩;have hn:n<4294967296:=by omega
 have:(BitVec.ofInt IntKind.u64.bits (n:Int) &&& BitVec.ofInt IntKind.u64.bits 4294967295).toNat=n:=by
  have e:IntKind.u64.bits=64:=rfl;rw[e];simp only[BitVec.toNat_and,BitVec.toNat_ofInt];rw[show ((n:Int) % ((2^64:Nat):Int)).toNat=n by omega,show ((4294967295:Int) % ((2^64:Nat):Int)).toNat=2^32 - 1 by decide];rw[Nat.and_two_pow_sub_one_eq_mod];omega
 rw[this];unfold IntKind.wrap;have e:IntKind.u64.bits=64:=rfl;have z:IntKind.u64.signed=false:=rfl;simp only[e,z,FT,Dp,CN];omega
def NK{a:Int}(h0:0<=a)(G:a<18446744073709551616):IntKind.u64.wrap a=a:=by
 unfold IntKind.wrap;have e:IntKind.u64.bits=64:=rfl;have z:IntKind.u64.signed=false:=rfl;simp only[e,z,FT,Dp,CN];omega
def Mh{a:Int}(h0:0<=a)(z:a<4294967296):a.fdiv (2^min 32 IntKind.u64.bits)=0:=by
 have e:IntKind.u64.bits=64:=rfl;rw[e,show (2:Int)^min 32 64=4294967296 by decide,ZeB _ (by decide)];omega
def mul64.fv(a:Int×Int):Int×Int:=(λ_ y=>(0,y)) (a.1) (a.2)
def mul64.row:AG:=vK (b2 qU qU) (r2 (RK.mk (Qv) (D.int .u64) (Qs3)) (RK.mk (Qv) (D.int .u64) (Qs3))) (λa=>a.1=1/\0<=a.2/\a.2<=1000000) mul64.fv
def mul64.q:=B3 (R:=mul64.row) rfl
def mul64.ok:AJ 213 mul64.row:=by
 refine vw tN Tryz.func213 ?_;intro a z;simp only[Tryz.f213,Option.getD];simp only[ZZ,simprocAttr,Ab,mul64.fv];obtain⟨O,G,Q⟩:=z;rw[O,Qw1 (by omega) (by omega),Qw1 (by omega) (by omega),Mh (by omega) (by omega),Mh G (by omega),Int.zero_mul,Int.one_mul,Int.zero_mul,Int.mul_zero];simp only[NK G (show a.2<18446744073709551616 by omega),Mh G (show a.2<4294967296 by omega),NK (RV 0) (by decide),Int.add_zero,Mh (RV 0) (by decide),Qw1 (RV 0) (by decide)];rfl
def mul_.fv(a:Int×Int):Int×Int:=(λ_ y=>(0,y)) (a.1) (a.2)
def mul_.row:AG:=vK (b2 qU qU) (r2 (RK.mk (Qv) (D.int .u64) (Qs3)) (RK.mk (Qv) (D.int .u64) (Qs3))) (λa=>a.1=1/\0<=a.2/\a.2<=1000000) mul_.fv
def mul_.q:=B3 (R:=mul_.row) rfl
def mul_.ok:AJ 202 mul_.row:=by
 refine vw (tC mul64.ok tN) Tryz.func202 ?_;intro a z;simp only[Tryz.f202,Option.getD];simp only[ZZ,simprocAttr,Ab,mul_.fv,mul64.q,mul64.fv];exact⟨z,rfl⟩
def En(x:Int)(m n:Nat):List (List D):=List.replicate m [.int .i64 x]++List.replicate (n - m) [.int .i64 0]
def UY(x:Int){m n:Nat}(h:m<=n):(En x m n).length=n:=by simp[En];omega
def UZ(x:Int)(n:Nat):En x (min 1 n) n=List.take (min 1 n) [[.int .i64 x]]++List.drop (min 1 n) (List.replicate n [.int .i64 0]):=by
 cases n with
 |zero=>rfl
 |succ n=>
  rw[show min 1 (n+1)=1 by omega];simp[En]
def NM(x:Int)(k m n:Nat):Cj BZ (List.take k (En x m n)):=by
 intro r z
 have:=ZdK z
 rcases B2.1 this with h|h<;>rw[QH h]<;>rfl
def PE(x:Int){m n:Nat}(h:m<n):List.take m (En x m n)++List.take (min m (n - m)) (List.take m (En x m n))++List.drop (m+min m (n - m)) (En x m n)=En x (m+min m (n - m)) n:=by
 have e:List.take m (En x m n)=List.replicate m [.int .i64 x]:=by simp[En]
 rw[e];have z:List.drop (m+min m (n - m)) (En x m n)=List.replicate (n - (m+min m (n - m))) [.int .i64 0]:=by
  simp only[En];rw[Wy,Ee (by simp),Dv,OA,List.drop_replicate];congr 1;omega
 rw[z,En,<-List.replicate_append_replicate];congr 2;rw[List.take_replicate];congr 1;omega
def rept.ca(a:Int×Int):List AV:=[.own 0,.im (.int .i64 a.2)]
def rept.H0(a:Int×Int):Ar:=[(0,(true,.arr 3 1 [[.int .i64 a.1]]))]
def rept.H1(a:Int×Int):Ar:=[(1,(true,.arr 3 1 (List.replicate a.2.toNat [.int .i64 a.1])))]
def rept.pre(a:Int×Int):Prop:=0<=a.2/\a.2<=1000000
def rept.row:AG:=Az rept.ca rept.H0 1 rept.pre (λ_=>false) (λ_=> .own 1) rept.H1 20
def XN:=J @mul_.q @mul_.fv.eq_1
def rept.ok:AJ 192 rept.row:=by
 refine Ha (tC mul_.ok tN) Tryz.func192 (exB:=λj=>j==1) (R:=λa r=>r= .own 1) (λ_=>rfl)
  (λa=>by simp[rept.ca,rept.H0,rept.H1,AQ,AV.bel,AB,Cg,Cs,Ah.nms,Ax,AV.nms,An,hget]) (λa p hp=> ?_) (λa r h=>by subst h;exact D2.refl _) ?_
 rotate_left
 intro a G;simp only[Tryz.f192,Option.getD,rept.ca,rept.H0,rept.H1];simp only[ZZ,simprocAttr,Ab,XN,AD,Av,rept.ca,rept.H0,rept.H1];obtain⟨h0,Z⟩:=G;rw[Ag (by omega)];simp only[ZZ,simprocAttr,Ab,XN,AD,Av,rept.ca,rept.H0,rept.H1,NK (show (0:Int)<=1 by decide) (show (1:Int)<18446744073709551616 by decide),NK h0 (show a.2<18446744073709551616 by omega)];refine⟨⟨h0,Z⟩,?_⟩;rw[Ag (by omega)];simp only[ZZ,simprocAttr,Ab,XN,AD,Av,rept.ca,rept.H0,rept.H1,AH (show -9223372036854775808<=a.2 by omega) (show a.2<=9223372036854775807 by omega)];refine⟨h0,RV _,by omega,?_⟩;obtain⟨n,hn⟩: ∃n:Nat,a.2=n:=⟨a.2.toNat,by omega⟩;obtain⟨x,hx⟩: ∃x,x=a.1:=⟨_,rfl⟩;simp only[hn,B5,OA,<-hx];rw[hn] at h0 Z;refine AZ.old ⟨{m:Nat//m<=n/\(m=0->n=0)},λm=>⟨[(8,.im (.int .i64 m.1)),(7,.own 1)],[(1,(true,.arr 3 1 (En x m.1 n))),(0,(true,.arr 3 1 [[.int .i64 x]]))],2⟩,λm=>n - m.1,λm=>⟨by simp[ZG],by simp⟩,⟨⟨min 1 n,by omega,by omega⟩,?_⟩,λm=> ?_⟩
 .simp only[ZZ,simprocAttr,Ab,XN,AD,Av,rept.ca,rept.H0,rept.H1,sub];exact (UZ x n).symm
 obtain⟨m,Q,ab⟩:=m;have z:=UY x Q;simp only[ZZ,simprocAttr,Ab,XN,AD,Av,rept.ca,rept.H0,rept.H1,sub,AS,z];intro aa;refine⟨λhm=>⟨by omega,false,?_⟩,λhm=> ?_⟩
 .simp only[ZZ,simprocAttr,Ab,XN,AD,Av,rept.ca,rept.H0,rept.H1,z];refine⟨by omega,false,?_⟩;simp only[ZZ,simprocAttr,Ab,XN,AD,Av,rept.ca,rept.H0,rept.H1,z,sub];obtain⟨k,hk⟩: ∃k,min (List.take ((m:Int) - 0).toNat (En x m n)).length ((n:Int) - m).toNat=k:=⟨_,rfl⟩;have O:k=min m (n - m):=by rw[<-hk,CB,z];omega
  rw[hk,show ((m:Int) - 0).toNat=m by omega];refine⟨NM x _ _ _,⟨m+k,by omega,by omega⟩,by simp only;omega,by rw[AH (by omega) (by omega)];simp only;omega,?_⟩;subst O;exact PE x hm
 .refine⟨[],[],⟨[(4,.own 1)],[(1,(true,.arr 3 1 (En x m n))),(0,(true,.arr 3 1 [[.int .i64 x]]))],2⟩,?_,by simp[ZG],by simp,?_⟩
  .simp only[Am];simp only[ZZ,simprocAttr,Ab,XN,AD,Av,rept.ca,rept.H0,rept.H1,AN,AM]
  .simp only[ZZ,simprocAttr,Ab,XN,AD,Av,rept.ca,rept.H0,rept.H1]
   have:m=n:=by omega
   subst this;simp[En]
 simp[rept.H1] at hp;subst hp;exact .inr ⟨by omega,by omega,rfl,rfl⟩
end Go.Ae
