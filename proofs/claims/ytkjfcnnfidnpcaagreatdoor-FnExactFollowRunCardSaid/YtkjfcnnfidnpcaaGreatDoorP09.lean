/- Lemmas. Conditions: none. -/
import Derived.Test.YtkjfcnnfidnpcaaGreatDoorP08
import Derived.Test.YtkjfcnnfidnpcaaGreatDoorChecked
import Derived.LaidEql
import Derived.Stop.Asserts
import Derived.RowKitTokens
import Derived.Stop.LaidTwo
import Derived.LaidMore
import Derived.LaidOnce
import Derived.ChangeVars
import Derived.ChangeSame
import Derived.Stop.LaidErr
import Derived.LaidMore
import Derived.Stop.Joined
set_option linter.all false
set_option maxHeartbeats 8000000
set_option maxRecDepth 100000
namespace Go.Ae
open Go Go.Proofs Go.RowKit Go.Extern.Stop Go.Stop Go.Extern
def qW(v:Value)(w:World):(Extern.ReflectliteType.typeOf #[.iface 331 v]).run Tryz.prog w= .ok (.iface 267 (.agg #[.pointer (some ⟨2,331,none⟩)])) w:=by kernel_rfl
def gU:Array Value->Sem Value:=Extern.ReflectliteType.method λt=>do Extern.Rtype.noPackHeld "Comparable" t;pure (.bool (<-typeInfo t).comparable)
def rC(w:World):(gU #[.agg #[.pointer (some ⟨2,331,none⟩)]]).run Tryz.prog w= .ok (.bool true) w:=by kernel_rfl
def qX(v:Value)(w:World):(Go.method 470 267 v "Comparable").run Tryz.prog w= .ok (266,v) w:=by kernel_rfl
def LB:(Tryz.prog.info? 331).map (·.comparable)=some true:=by kernel_rfl
def LC:(Tryz.prog.info? 358).map (·.size)=some 1:=by kernel_rfl
def X2(v:Value)(z:TypeId)(w:World):(Instr.typeAssert (.iface 331 v) z 269 true).run Tryz.prog w= .ok (.tuple #[.nilIface,.bool false]) w:=run_typeAssert_lacksB Tryz.underlying269 (by kernel_rfl) (by kernel_rfl) v z w
def Qaoa(v:Value)(z:TypeId)(w:World):(Instr.typeAssert (.iface 331 v) z 272 true).run Tryz.prog w= .ok (.tuple #[.nilIface,.bool false]) w:=run_typeAssert_lacksB Tryz.underlying272 (by kernel_rfl) (by kernel_rfl) v z w
def Qan5(v:Value)(z:TypeId)(w:World):(Instr.typeAssert (.iface 331 v) z 274 true).run Tryz.prog w= .ok (.tuple #[.nilIface,.bool false]) w:=run_typeAssert_lacksB Tryz.underlying274 (by kernel_rfl) (by kernel_rfl) v z w
def X3(a:Addr)(w:World):Calls Tryz.prog 135 #[.iface 331 (.pointer (some a)),.iface 331 (.pointer (some a))] w λe w'=>e= .returned (.bool true)/\w'=w:=by
 obtain⟨i,Z,z⟩:=D9.1 LB;obtain⟨j,hj,aa⟩:=D9.1 LC;have h8:= @run_callFunc_extern Tryz.prog 172 _ Extern.ReflectliteType.typeOf Tryz.func172 (by kernel_rfl) (by kernel_rfl) (by kernel_rfl) (by kernel_rfl);have O:= @run_callFunc_extern Tryz.prog 266 _ gU Tryz.func266 (by kernel_rfl) (by kernel_rfl) (by kernel_rfl) (by kernel_rfl);have tT:=qW;have cT:=rC;have mR:=qX;have Q:=run_eql_iface_ptr_same (P:=Tryz.prog) w a Tryz.underlying197 Tryz.underlying331 Z z hj
 go_enter Tryz.func135,Tryz.ntmps135
 go_wp2
 refine wp_loop_rounds 1 ?_;rw[rounds_succ]
 go_wp2
 go_ret
 exact⟨rfl,rfl⟩
def hZ(b:Addr)(w:World):Calls Tryz.prog 135 #[.nilIface,.iface 331 (.pointer (some b))] w λe w'=>e= .returned (.bool false)/\w'=w:=by
 have hn:=run_eql_iface_nil_left (P:=Tryz.prog) w 331 (.pointer (some b)) Tryz.underlying197
 go_enter Tryz.func135,Tryz.ntmps135
 go_wp2
 go_ret
 exact⟨rfl,rfl⟩
def Se(a b:Addr)(ca Z:Array Value)(ta tb:TypeId)(w:World)(Q:a≠b)(ha:w.heap[a.block]? =some (.cells ca ta (0,0)))(hb:w.heap[b.block]? =some (.cells Z tb (0,0))):
 Calls Tryz.prog 135 #[.iface 331 (.pointer (some a)),.iface 331 (.pointer (some b))] w λe w'=>e= .returned (.bool false)/\w'=w:=by
 obtain⟨i,hi,z⟩:=D9.1 LB;obtain⟨j,hj,O⟩:=D9.1 LC;have h8:= @run_callFunc_extern Tryz.prog 172 _ Extern.ReflectliteType.typeOf Tryz.func172 (by kernel_rfl) (by kernel_rfl) (by kernel_rfl) (by kernel_rfl);have aa:= @run_callFunc_extern Tryz.prog 266 _ gU Tryz.func266 (by kernel_rfl) (by kernel_rfl) (by kernel_rfl) (by kernel_rfl);have tT:=qW;have cT:=rC;have mR:=qX;have nE:=X2;have uE:=Qaoa;have vE:=Qan5;have ab:=run_eql_iface_ptr_other (P:=Tryz.prog) w Tryz.underlying197 Tryz.underlying331 hi z hj (by rw[O];decide) Q ha hb
 go_enter Tryz.func135,Tryz.ntmps135
 go_wp2
 refine wp_loop_rounds 1 ?_;rw[rounds_succ]
 go_wp2
 go_ret
 exact⟨rfl,rfl⟩
def NN(K:Ai):List AV->Prop
 |[.im .nili,.im (.tok g)]=>Me g=true/\K (.im (.bool false)) {}
 |[.im (.tok a),.im (.tok g)]=>Me a=true/\Me g=true/\K (.im (.bool (a==g))) {}
 |_=>False
def errIs.row:Ay:=λargs _ _ K=>NN K args
def errIs.q(args:List AV)(h:Nat->Option An)(nx:Nat)(K:Ai):errIs.row args h nx K=NN K args:=rfl
def dC{ok:Nat->Prop}{hp:Nat->Option Obj}{g:Nat}{a:Addr}{v:Value}(h:GE ok hp g a)(Q:rd ok hp (.tok g) v):v= .iface 331 (.pointer (some a)):=by
 simp only[rd] at Q;obtain⟨_,_,T,fr,h1⟩:=Q;obtain⟨_,⟨T2,Z,z⟩,_⟩:=h;rw[h1] at z;have O:=A7 z;simp only[Obj.cells.injEq] at O;simpa using O.1
def errIs.ok:A9 135 errIs.row:=by
 intro args h nx K O;have hE: ∀S:Ax,S.h=({}:Bo).appf S.h:=λS=>by funext m;simp[Bo.appf,hget]
 rw[errIs.q] at O;unfold NN at O;split at O
 .rename_i g;obtain⟨hg,hK⟩:=O;refine⟨Lq (by kernel_rfl),_,_,?_,hK⟩;intro C S vs R hW ad Z aa z Q;simp only[AM,Aa] at z;obtain⟨v0,r0,hv,h0,v1,r1,ab,h1,ac⟩:=z;obtain⟨a,ga,gn⟩:=hW.gp;have e1:=dC (ga g hg) h1;simp only[rd] at h0;subst ac ab e1 h0;have hvs:vs= #[.nilIface,.iface 331 (.pointer (some (a g)))]:=by apply Ly;simpa using hv
  subst hvs;refine (hZ (a g) S.w).mono ?_;rintro e w' ⟨rfl,rfl⟩;exact Q _ S hW (hE S) (B4.refl _ _) (by simp only[Aa,rd])
 .rename_i b g;obtain⟨hb,hg,hK⟩:=O;refine⟨Lq (by kernel_rfl),_,_,?_,hK⟩;intro C S vs R hW ad Z aa z Q;simp only[AM,Aa] at z;obtain⟨v0,r0,hv,h0,v1,r1,ab,h1,ac⟩:=z;obtain⟨a,ga,gn⟩:=hW.gp;have e1:=dC (ga g hg) h1;have e0:=dC (ga b hb) h0;subst ac ab e1 e0;have hvs:vs= #[.iface 331 (.pointer (some (a b))),.iface 331 (.pointer (some (a g)))]:=by apply Ly;simpa using hv
  subst hvs;by_cases c:b=g
  .subst c;refine (X3 (a b) S.w).mono ?_;rintro e w' ⟨rfl,rfl⟩;exact Q _ S hW (hE S) (B4.refl _ _) (by simp only[Aa,rd,ZS])
  .obtain⟨_,_,_,cb,tb,k1⟩:=ga b hb;obtain⟨_,_,_,cg,tg,k2⟩:=ga g hg;refine (Se (a b) (a g) cb cg tb tg S.w (gn b g hb hg c) k1 k2).mono ?_;rintro e w' ⟨rfl,rfl⟩;exact Q _ S hW (hE S) (B4.refl _ _) (by simp only[Aa,rd];simp[c])
 .exact O.elim
end Go.Ae
namespace Go.Ae
open Go Go.Proofs Go.RowKit Go.ChangeShapes Go.WideShapes
abbrev Ka:List (String×DataW Unit):=[("loop.example/g01081/impl.errTerminal",Go.Proofs.YtkjfcnnfidnpcaaGreatDoor.Rows.laid_loop_example_g01081_impl_errTerminal),("loop.example/g01081/impl.errNoSpace",Go.Proofs.YtkjfcnnfidnpcaaGreatDoor.Rows.laid_loop_example_g01081_impl_errNoSpace)]
def gT:Tryz.prog.globalNamed "loop.example/g01081/impl.errTerminal" =some 0:=by kernel_rfl
def gN:Tryz.prog.globalNamed "loop.example/g01081/impl.errNoSpace" =some 1:=by kernel_rfl
def gTt:(Tryz.prog.globals[0]?).map (·.type)=some 197:=by kernel_rfl
def gNt:(Tryz.prog.globals[1]?).map (·.type)=some 197:=by kernel_rfl
def bF: "*" ++ "errors.errorString" = "*errors.errorString" :=by decide
def xQ(u:TypeId)(h:Tryz.prog.typeName? 3 u=some "*errors.errorString"):u=331:=
 typeName_ptr_named (nm:= "errors.errorString") (by rw[bF];kernel_rfl) (by kernel_rfl) (by decide) u (by rw[bF];exact h)
def dB{W:World}{n:String}{g:Nat}{cs:Array Value}(O:Tryz.prog.globalNamed n=some g)(h:W.var? Tryz.prog n=some cs): ∃T z,W.heap[g]? =some (.cells cs T z):=by
 unfold World.var? at h;rw[O] at h;simp only[FR] at h;split at h
 .rename_i c T z e;obtain rfl:=A7 h;exact⟨T,z,e⟩
 .cases h
def QG{W:World}{b:Nat}{o:Obj}(h:W.heap[b]? =some o):b<W.heap.size:=(Ri.1 h).1
def XT{W:World}(h:laidMetH Tryz.prog Ka W):GP (λb=>b<W.heap.size) (λb=>W.heap[b]?):=by
 rw[MakeChecks.laidMetH_plain _ _ _ (by kernel_rfl)] at h;obtain⟨a0,a1,s0,s1,c0,c1,t0,t1,ab,ac,ad,ag,ai,af,ah,aj,aa,z,O⟩:=laid_sentinels2 h gT gTt gN gNt Tryz.underlying197 xQ Tryz.underlying331 Tryz.underlying358 rfl rfl Tryz.underlying9 (by kernel_rfl) (by kernel_rfl);obtain⟨T0,f0,g0⟩:=dB gT ab;obtain⟨T1,f1,g1⟩:=dB gN ac;refine⟨λg=>if g=0 then a0 else a1,λg Q=> ?_,λg g' Q Z hn=> ?_⟩
 .simp only[Me,H8,Qm] at Q;rcases Q with rfl|rfl
  .exact⟨QG g0,⟨T0,f0,g0⟩,QG z,c0,t0,z⟩
  .exact⟨QG g1,⟨T1,f1,g1⟩,QG O,c1,t1,O⟩
 .simp only[Me,H8,Qm] at Q Z;rcases Q with rfl|rfl<;>rcases Z with rfl|rfl
  .exact absurd rfl hn
  .exact aa
  .exact λe=>aa e.symm
  .exact absurd rfl hn
abbrev xX:List String:=["loop.example/g01081/impl.errTerminal", "loop.example/g01081/impl.errNoSpace"]
def PI{H:Type}{enc:TypeId×Value->H}{W:World}{sp:Nat->Bool}{gs:List (DataW H)}{q:List MemPlace}(h:laidMetH Tryz.prog Ka W)(hV:DataW.TrodVars enc Tryz.prog W sp xX gs q):
 ∃Q Z:Value,IsIface Q/\IsIface Z/\W.var? Tryz.prog "loop.example/g01081/impl.errTerminal" =some #[Q]/\W.var? Tryz.prog "loop.example/g01081/impl.errNoSpace" =some #[Z]/\gs=[tok enc Q,tok enc Z]/\q=[.cell 0 0,.cell 1 0]:=by
 rw[MakeChecks.laidMetH_plain _ _ _ (by kernel_rfl)] at h;obtain⟨a0,a1,s0,s1,c0,c1,t0,t1,z,O,_⟩:=laid_sentinels2 h gT gTt gN gNt Tryz.underlying197 xQ Tryz.underlying331 Tryz.underlying358 rfl rfl Tryz.underlying9 (by kernel_rfl) (by kernel_rfl);obtain⟨r1,r2⟩:=hV.unique (vars_read2 enc gT gTt Tryz.underlying197 z trivial gN gNt Tryz.underlying197 O trivial _);exact⟨.iface _ (.pointer (some a0)),.iface _ (.pointer (some a1)),trivial,trivial,z,O,r1,r2⟩
def qZ{W W':World}(Q:Below W.heap.size W W'){n:String}{g:Nat}{cs:Array Value}(z:Tryz.prog.globalNamed n=some g)(h:W.var? Tryz.prog n=some cs):W'.var? Tryz.prog n=some cs:=by
 obtain⟨T,Z,e⟩:=dB z h;have O:=(Q.block g (QG e)).trans e;unfold World.var?;rw[z];simp only[FR,O]
def Za{H:Type}(enc:TypeId×Value->H){W W':World}(Q:Below W.heap.size W W'){z O:Value}(i0:IsIface z)(i1:IsIface O)(h0:W.var? Tryz.prog "loop.example/g01081/impl.errTerminal" =some #[z])(h1:W.var? Tryz.prog "loop.example/g01081/impl.errNoSpace" =some #[O])(Z:Nat->Bool):
 DataW.TrodVars enc Tryz.prog W' Z xX [tok enc z,tok enc O] [.cell 0 0,.cell 1 0]:=
 vars_read2 enc gT gTt Tryz.underlying197 (qZ Q gT h0) i0 gN gNt Tryz.underlying197 (qZ Q gN h1) i1 Z
def RT(os:Os)(args:Array Value):laidMetH Tryz.prog Ka ((World.doorLaid Tryz.prog 47 os).forCall (λ_ _=>0) ⟨#[],args,[]⟩).memory:=
 laidMetH_of_parts3 (fuel:=8) (laidMet_of_run' 8 (by kernel_rfl) (by kernel_rfl)) (by kernel_rfl) (by kernel_rfl)
end Go.Ae
namespace Go.Ae
open Go.Proofs
def tq(a k:Int)(Z:1<=k):(a.tmod k<0->a.tdiv k - 1=a/k/\a.tmod k+k=a % k)/\(¬a.tmod k<0->a.tdiv k=a/k/\a.tmod k=a % k):=by
 have O:=gB a (show k≠0 by omega);have Q:=mT a (show 0<k by omega);have z:k.sign=1:=Int.sign_eq_one_of_pos (by omega);rw[Int.tdiv_eq_ediv,Int.tmod_eq_emod]
 split<;>rename_i h
 .omega
 .rw[z];omega
def fq(a k:Int)(Z:1<=k): -((-a+k - 1)/k)=a/k:=by
 have z:=gB a (show k≠0 by omega);have O:=mT a (show 0<k by omega);have Q:=Zee a k
 have:=(Int.ediv_emod_unique (a:= -a+k - 1) (b:=k) (q:= -(a/k)) (r:=k - 1 - a % k) (by omega)).2 ⟨by rw[Int.mul_neg];omega,by omega,by omega⟩
 omega
def bq(a k:Int)(z:1<=k):(0<=a->0<=a/k/\a/k<=a)/\(a<0->a<=a/k/\a/k<0):=by
 refine⟨λh=>⟨Int.ediv_nonneg h (by omega),Int.ediv_le_self k h⟩,λh=>⟨?_,Int.ediv_neg_of_neg_of_pos h (by omega)⟩⟩;refine Int.le_ediv_of_mul_le (by omega) ?_
 have:=Int.mul_le_mul_of_nonpos_left (a:=a) (b:=k) (c:=1) (by omega) (by omega)
 omega
def l26Floor.fv(a:Int×Int):Int×Int:=(λn k=>(n/k,n % k)) (a.1) (a.2)
def l26Floor.row:Ay:=vK (b2 qI qI) (r2 rI rI) (λa=> -1000000000<=a.1/\a.1<=1000000000/\1<=a.2/\a.2<=1000000000) l26Floor.fv
def l26Floor.q:=AT (R:=l26Floor.row) rfl
def l26Floor.ok:A9 124 l26Floor.row:=by
 refine vw tN Tryz.func124 ?_;intro a z;simp only[Tryz.f124];simp only[ZA,simprocAttr,l26Floor.fv];obtain⟨h1,h2,h3,h4⟩:=z;have hq:=tq a.1 a.2 h3;have O:=bq a.1 a.2 h3;have hm:=gB a.1 (show a.2≠0 by omega);have aa:=mT a.1 (show 0<a.2 by omega);refine⟨by omega,by omega,?_⟩
 split<;>rename_i h
 .obtain⟨Z,Q⟩:=hq.1 h;have e3:a.1.tdiv a.2=a.1/a.2+1:=by omega
  have hl: -1000000000<=a.1/a.2/\a.1/a.2<=1000000000:=by
   rcases Zfr a.1 0 with h|h
   .have:=O.2 h;omega
   .have:=O.1 h;omega
  rw[e3,Q,AC (x:=a.1/a.2+1) (by omega) (by omega),AC (x:=a.1 % a.2) (by omega) (by omega),AC (by omega) (by omega)];omega
 .obtain⟨Z,Q⟩:=hq.2 h;have hl: -1000000000<=a.1/a.2/\a.1/a.2<=1000000000:=by
   rcases Zfr a.1 0 with h|h
   .have:=O.2 h;omega
   .have:=O.1 h;omega
  rw[Z,Q,AC (by omega) (by omega)];exact⟨rfl,rfl⟩
def floorDiv.fv(a:Int×Int):Int:=(λn k=>n/k) (a.1) (a.2)
def floorDiv.row:Ay:=vK (b2 qI qI) rI (λa=> -1000000000<=a.1/\a.1<=1000000000/\1<=a.2/\a.2<=1000000000) floorDiv.fv
def floorDiv.q:=AT (R:=floorDiv.row) rfl
def floorDiv.ok:A9 136 floorDiv.row:=by
 refine vw tN Tryz.func136 ?_;intro a z;simp only[Tryz.f136];simp only[ZA,simprocAttr,floorDiv.fv];obtain⟨h1,h2,O,h4⟩:=z;have Q:=bq a.1 a.2 O
 split<;>rename_i h
 .refine⟨by omega,?_⟩;have Z:=Q.2 h;rw[AC (x:= -a.1) (by omega) (by omega),AC (x:= -a.1+a.2) (by omega) (by omega),AC (x:= -a.1+a.2 - 1) (by omega) (by omega),Zdg (by omega)];have h6:=fq a.1 a.2 O;rw[AC (x:=(-a.1+a.2 - 1)/a.2) (by omega) (by omega),AC (by omega) (by omega)];exact h6
 .refine⟨by omega,?_⟩;have Z:=Q.1 (by omega);rw[Zdg (by omega),AC (by omega) (by omega)]
def NS(p:Ab)(k:Int):Ab×Ab:=(⟨p.X/k,p.Y/k⟩,⟨p.X % k,p.Y % k⟩)
def l26Block.fv(a:Ab×Int):Ab×Ab:=(NS) (a.1) (a.2)
def l26Block.row:Ay:=vK (b2 (qR Ab.d_le) qI) (r2 (rA Ab.d_le) (rA Ab.d_le)) (λa=>G4 a.1/\1<=a.2/\a.2<=1000000000) l26Block.fv
def l26Block.q:=AT (R:=l26Block.row) rfl
def l26Block.ok:A9 82 l26Block.row:=by
 refine vw (tC l26Floor.ok tN) Tryz.func82 ?_;intro a z;simp only[Tryz.f82];simp only[ZA,simprocAttr,l26Block.fv,l26Floor.q,l26Floor.fv];obtain⟨⟨Z,h2,h3,h4⟩,O,Q⟩:=z;exact⟨⟨Z,h2,O,Q⟩,⟨h3,h4,O,Q⟩,rfl⟩
def blockOf.fv(a:Ab×Int):Ab×Ab:=(NS) (a.1) (a.2)
def blockOf.row:Ay:=vK (b2 (qR Ab.d_le) qI) (r2 (rA Ab.d_le) (rA Ab.d_le)) (λa=>G4 a.1/\1<=a.2/\a.2<=1000000000) blockOf.fv
def blockOf.q:=AT (R:=blockOf.row) rfl
def blockOf.ok:A9 95 blockOf.row:=by
 refine vw (tC floorDiv.ok tN) Tryz.func95 ?_;intro a z;simp only[Tryz.f95];simp only[ZA,simprocAttr,blockOf.fv,floorDiv.q,floorDiv.fv];obtain⟨⟨Z,h2,h3,h4⟩,O,Q⟩:=z;refine⟨⟨Z,h2,O,Q⟩,⟨h3,h4,O,Q⟩,?_⟩;have e1:=Zee a.1.X a.2;have e2:=Zee a.1.Y a.2;have m1:=gB a.1.X (show a.2≠0 by omega);have m2:=mT a.1.X (show 0<a.2 by omega);have m3:=gB a.1.Y (show a.2≠0 by omega);have m4:=mT a.1.Y (show 0<a.2 by omega);rw[AC (x:=a.2*(a.1.X/a.2)) (by omega) (by omega),AC (x:=a.2*(a.1.Y/a.2)) (by omega) (by omega),AC (by omega) (by omega),AC (by omega) (by omega)];simp only[NS,Ep,Ab.mk.injEq,mW];omega
def l02Index.fv(a:Az×Int):Bool:=(λs t=>AW t 0 (s.Tiles.length - 1)) (a.1) (a.2)
def l02Index.row:Ay:=vK (b2 (qP 2 Az.d_le) qI) rB (λa=>True) l02Index.fv
def l02Index.q:=AT (R:=l02Index.row) rfl
def l02Index.ok:A9 85 l02Index.row:=by
 refine vw (tC l00In.ok tN) Tryz.func85 ?_;intro a z;simp only[Tryz.f85];simp only[ZA,simprocAttr,l02Index.fv,l00In.q,l00In.fv];intro h;rw[AC (by omega) (by omega)]
def isTile.fv(a:Az×Int):Bool:=(λs t=>AW t 0 (s.Tiles.length - 1)) (a.1) (a.2)
def isTile.row:Ay:=vK (b2 (qR Az.d_le) qI) rB (λa=>True) isTile.fv
def isTile.q:=AT (R:=isTile.row) rfl
def isTile.ok:A9 165 isTile.row:=by
 refine vw (tC isIndex.ok tN) Tryz.func165 ?_;intro a z;simp only[Tryz.f165];simp only[ZA,simprocAttr,isTile.fv,isIndex.q,isIndex.fv];intro h;simp only[I64];omega
def opposite_.fv(a:Int):Int:=(λd=>(d+2) % 4) a
def opposite_.row:Ay:=vK (b1 qI) rI (λa=>0<=a/\a<=3) opposite_.fv
def opposite_.q:=AT (R:=opposite_.row) rfl
def opposite_.ok:A9 181 opposite_.row:=by
 refine vw tN Tryz.func181 ?_;intro a z;simp only[Tryz.f181];simp only[ZA,simprocAttr,opposite_.fv];rw[AC (by omega) (by omega)]
 have:(0:Int)<=a+2:=by omega
 rw[fS this]
def l01Dir.fv(a:Int):Bool:=(λd=>AW d 0 3) a
def l01Dir.row:Ay:=vK (b1 qI) rB (λa=>True) l01Dir.fv
def l01Dir.q:=AT (R:=l01Dir.row) rfl
def l01Dir.ok:A9 186 l01Dir.row:=by
 refine vw (tC l00In.ok tN) Tryz.func186 ?_;intro a z;simp only[Tryz.f186];simp only[ZA,simprocAttr,l01Dir.fv,l00In.q,l00In.fv]
def Opposite_.fv(a:Int):Int:=(λd=>(d+2) % 4) a
def Opposite_.row:Ay:=vK (b1 qI) rI (λa=>0<=a/\a<=3) Opposite_.fv
def Opposite_.q:=AT (R:=Opposite_.row) rfl
def Opposite_.ok:A9 160 Opposite_.row:=by
 refine vw (tC l01Dir.ok tN) Tryz.func160 ?_;intro a z;simp only[Tryz.f160];simp only[ZA,simprocAttr,Opposite_.fv,l01Dir.q,l01Dir.fv];have h:AW a 0 3=true:=by simp[AW,z]
 rw[h,Ad (by simp),AC (by omega) (by omega)]
 have:(0:Int)<=a+2:=by omega
 rw[fS this]
def l07Temperature.fv(a:Int):Bool:=(λt=>AW t 1 16) a
def l07Temperature.row:Ay:=vK (b1 qI) rB (λa=>True) l07Temperature.fv
def l07Temperature.q:=AT (R:=l07Temperature.row) rfl
def l07Temperature.ok:A9 78 l07Temperature.row:=by
 refine vw (tC l00In.ok tN) Tryz.func78 ?_;intro a z;simp only[Tryz.f78];simp only[ZA,simprocAttr,l07Temperature.fv,l00In.q,l00In.fv]
def isTemperature.fv(a:Int):Bool:=(λt=>AW t 1 16) a
def isTemperature.row:Ay:=vK (b1 qI) rB (λa=>True) isTemperature.fv
def isTemperature.q:=AT (R:=isTemperature.row) rfl
def isTemperature.ok:A9 131 isTemperature.row:=by
 refine vw (tC within_.ok tN) Tryz.func131 ?_;intro a z;simp only[Tryz.f131];simp only[ZA,simprocAttr,isTemperature.fv,within_.q,within_.fv]
def blockSizeOk.fv(a:Int):Bool:=(λt=>AW t 1 4) a
def blockSizeOk.row:Ay:=vK (b1 qI) rB (λa=>True) blockSizeOk.fv
def blockSizeOk.q:=AT (R:=blockSizeOk.row) rfl
def blockSizeOk.ok:A9 54 blockSizeOk.row:=by
 refine vw (tC within_.ok tN) Tryz.func54 ?_;intro a z;simp only[Tryz.f54];simp only[ZA,simprocAttr,blockSizeOk.fv,within_.q,within_.fv]
def BO(s:Az):Prop:=s.Glues.length<=140737488355328/\(∀t∈s.Tiles,t.Sides.length=4/\ ∀g∈t.Sides,0<=g/\g<=s.Glues.length)/\ ∀g∈s.Glues,1<=g.Strength/\g.Strength<=4
def Km(s:Az)(z O:Int):Int:=((((s.Tiles[z.toNat]?).map Tile.Sides).getD [])[O.toNat]?).getD 0
def PS(s:Az)(g:Int):Int:=if 0<g then ((s.Glues[(g - 1).toNat]?).map Am.Strength).getD 0 else 0
def Kf(s:Az)(a z b:Int):Int:=if Km s a z=Km s b ((z+2) % 4) then PS s (Km s a z) else 0
def Fi(s:Az)(t:Int):Prop:=0<=t/\t<s.Tiles.length
def RS(d:Int):Prop:=0<=d/\d<=3
def fC{s:Az}{t d:Int}{x:Tile}{g:Int}(O:s.Tiles[t.toNat]? =some x)(z:x.Sides[d.toNat]? =some g):Km s t d=g:=by
 simp[Km,O,z]
def LS{s:Az}{g:Int}{x:Am}(h:0<g)(z:s.Glues[(g - 1).toNat]? =some x):PS s g=x.Strength:=by
 simp only[PS,Ak h,z];rfl
def LU{s:Az}{g:Int}(h: ¬0<g):PS s g=0:=by
 simp[PS,h]
def sM{s:Az}(h:BO s){t:Int}{x:Tile}(z:s.Tiles[t.toNat]? =some x):x.Sides.length=4:=(h.2.1 x (Ba z)).1
def Qvv{s:Az}(h:BO s){t d:Int}{x:Tile}{g:Int}(O:s.Tiles[t.toNat]? =some x)(z:x.Sides[d.toNat]? =some g):0<=g/\g<=s.Glues.length:=(h.2.1 x (Ba O)).2 g (Ba z)
def l02Strength.fv(a:Az×Int):Int:=(PS) (a.1) (a.2)
def l02Strength.row:Ay:=vK (b2 (qP 2 Az.d_le) qI) rI (λa=>0<=a.2/\a.2<=a.1.Glues.length/\a.1.Glues.length<=140737488355328) l02Strength.fv
def l02Strength.q:=AT (R:=l02Strength.row) rfl
def l02Strength.ok:A9 161 l02Strength.row:=by
 refine vw tN Tryz.func161 ?_;intro a z;simp only[Tryz.f161];simp only[ZA,simprocAttr,l02Strength.fv];obtain⟨Q,Z,h3⟩:=z
 split<;>rename_i h
 .simp[PS,h]
 .rw[AC (by omega) (by omega)];exact⟨by omega,by omega,λx O=>(LS (by omega) O).symm⟩
def strength_.fv(a:Az×Int×Int):Int:=(λs t d=>PS s (Km s t d)) (a.1) (a.2.1) (a.2.2)
def strength_.row:Ay:=vK (b3 (qR Az.d_le) qI qI) rI (λa=>BO a.1/\Fi a.1 a.2.1/\RS a.2.2) strength_.fv
def strength_.q:=AT (R:=strength_.row) rfl
def strength_.ok:A9 182 strength_.row:=by
 refine vw tN Tryz.func182 ?_;intro a z;simp only[Tryz.f182];simp only[ZA,simprocAttr,strength_.fv];obtain⟨O,Z,h3⟩:=z;refine⟨Z.1,Z.2,λx Q=>⟨h3.1,?_,λg hg=> ?_⟩⟩
 .rw[sM O Q];have:=h3.2;omega
 .have aa:=Qvv O Q hg
  have:=O.1
  rw[fC Q hg]
  split<;>rename_i h
  .rw[AC (by omega) (by omega)];exact⟨by omega,by omega,λy hy=>(LS h hy).symm⟩
  .exact (LU h).symm
def bond_.rc:D->Option (Int):=D0
def bond_.re:Int->D:=D.int .i64
def bond_.rle: ∀d b,bond_.rc d=some b->Le d (bond_.re b):=Lg
def bond_.fv(a:Az×Int×Int×Int):Int:=(Kf) (a.1) (a.2.1) (a.2.2.1) (a.2.2.2)
def bond_.row:Ay:=vK (b4 (qR Az.d_le) qI qI qI) (RK.mk bond_.rc bond_.re bond_.rle) (λa=>BO a.1/\Fi a.1 a.2.1/\RS a.2.2.1/\Fi a.1 a.2.2.2) bond_.fv
def bond_.q:=AT (R:=bond_.row) rfl
def bond_.ok:A9 146 bond_.row:=by
 refine vw (tC opposite_.ok (tC strength_.ok tN)) Tryz.func146 ?_;intro a O;simp only[Tryz.f146];simp only[ZA,simprocAttr,bond_.fv,bond_.rc,opposite_.q,opposite_.fv,strength_.q,strength_.fv];obtain⟨Q,Z,z,h4⟩:=O;have h5:=z.1;have h6:=z.2;refine⟨Z.1,Z.2,λx hx=>⟨z.1,by rw[sM Q hx];omega,λg hg=>⟨h4.1,h4.2,λy hy=>⟨z,by omega,by rw[sM Q hy];omega,λg' aa=> ?_⟩⟩⟩⟩;simp only[Kf,fC hx hg,fC hy aa];split
 .exact⟨⟨Q,Z,z⟩,rfl⟩
 .rfl
def l02Bond.fv(a:Az×Int×Int×Int):Int:=(Kf) (a.1) (a.2.1) (a.2.2.1) (a.2.2.2)
def l02Bond.row:Ay:=vK (b4 (qP 2 Az.d_le) qI qI qI) rI (λa=>BO a.1/\Fi a.1 a.2.1/\RS a.2.2.1/\Fi a.1 a.2.2.2) l02Bond.fv
def l02Bond.q:=AT (R:=l02Bond.row) rfl
def l02Bond.ok:A9 126 l02Bond.row:=by
 refine vw (tC Opposite_.ok (tC l02Strength.ok tN)) Tryz.func126 ?_;intro a Q;simp only[Tryz.f126];simp only[ZA,simprocAttr,l02Bond.fv,Opposite_.q,Opposite_.fv,l02Strength.q,l02Strength.fv];obtain⟨z,h2,Z,h4⟩:=Q;have h5:=Z.1;have h6:=Z.2;refine⟨h2.1,h2.2,λx hx=>⟨Z.1,by rw[sM z hx];omega,λg hg=>⟨h4.1,h4.2,λy hy=>⟨Z,by omega,by rw[sM z hy];omega,λg' aa=> ?_⟩⟩⟩⟩;have O:=Qvv z hx hg
 have:=z.1
 simp only[Kf,fC hx hg,fC hy aa]
 split<;>rename_i h
 .first|rw[Ad h]|rfl
 .rw[Ak (Gi.1 h)];exact⟨⟨O.1,O.2,z.1⟩,rfl⟩
def Cd:Option Ab->List Ah->Bool
 |_,[]=>true
 |q,x::r=>DY x.At && (AW x.Tile 0 159 && ((match q with|none=>true|some p=>Bl p x.At) && Cd (some x.At) r))
def Vo(q:Option Ab)(x:Ah)(r:List Ah):Cd q (x::r)=(DY x.At && (AW x.Tile 0 159 && ((match q with|none=>true|some p=>Bl p x.At) && Cd (some x.At) r))):=by cases q<;>rfl
def Qik(q:Option Ab):Cd q []=true:=by cases q<;>rfl
def G2(l:List Ah)(k:Nat):Option Ab:=if k=0 then none else (l[k - 1]?).map (·.At)
def Qn2{l:List Ah}{k:Nat}{x:Ah}(z:l[k]? =some x):G2 l (k+1)=some x.At:=by
 simp[G2,z]
def E9{A:Type}{l:List A}{k:Nat}{x:A}(z:l[k]? =some x):l.drop k=x::l.drop (k+1):=by
 have O:k<l.length:=(Cx.1 z).1;rw[V3 O];rw[Bk O] at z;rw[A7 z]
def hasForm_.fv(a:Af):Bool:=(λa=>Cd none a.Tiles && decide (a.Tiles.length<=500)) a
def hasForm_.row:Ay:=vK (b1 (qR Af.d_le)) rB (λa=>True) hasForm_.fv
def hasForm_.q:=AT (R:=hasForm_.row) rfl
def hasForm_.ok:A9 142 hasForm_.row:=by
 refine vw (tC ValidPoint.ok (tC isIndex.ok (tC impl_LessPoint.ok tN))) Tryz.func142 ?_;intro a ab;simp only[Tryz.f142];simp only[ZA,simprocAttr,hasForm_.fv];intro aa;refine AU.old ⟨{k:Nat//k<=a.Tiles.length/\Cd (G2 a.Tiles k) (a.Tiles.drop k)=Cd none a.Tiles},λk=>⟨[(8,.im (.int .i64 k.1)),(7,.im (.int .i64 a.Tiles.length)),(6,.im (.sl false 3 (a.Tiles.map Ah.c))),(1,.ptr 0 0),(2,.im (.bool false))],[(0,(true,.cells 38 [.im (.sl false 3 (a.Tiles.map Ah.c))]))],1⟩,λk=>a.Tiles.length - k.1,λk=>⟨by simp[ZG],AN _⟩,⟨⟨0,by simp[G2]⟩,by simp only[ZA,simprocAttr,sub]⟩,λk=> ?_⟩;obtain⟨k,ac,O⟩:=k;simp only[ZA,simprocAttr,ValidPoint.q,ValidPoint.fv,isIndex.q,isIndex.fv,impl_LessPoint.q,impl_LessPoint.fv,sub,AR];refine⟨λhk=>⟨hk,λx hx=> ?_⟩,λhk=> ?_⟩
 .rw[E9 hx,Vo] at O;have Q:(DY x.At && (AW x.Tile 0 159 && (match G2 a.Tiles k with|none=>true|some p=>Bl p x.At)))=false->false=(Cd none a.Tiles && decide (a.Tiles.length<=500)):=by
   intro h;rw[<-O];revert h;cases DY x.At<;>cases AW x.Tile 0 159<;>cases (match G2 a.Tiles k with|none=>true|some p=>Bl p x.At)<;>simp
  have z:(DY x.At && (AW x.Tile 0 159 && (match G2 a.Tiles k with|none=>true|some p=>Bl p x.At)))=true->Cd (G2 a.Tiles (k+1)) (a.Tiles.drop (k+1))=Cd none a.Tiles:=by
   intro h;rw[<-O,Qn2 hx];simp only[AL] at h;simp[h.1,h.2.1,h.2.2]
  refine⟨λZ=>⟨by simp[I64],⟨λh2=>⟨λh3=> ?_,λh3=> ?_⟩,λh2=>Q (by simp[h2])⟩⟩,λZ=>Q (by simp[Z])⟩
  .rw[AC (x:=(k:Int) - 1) (by omega) (by omega)];refine⟨by omega,by omega,λy hy=> ?_⟩;have hp:G2 a.Tiles k=some y.At:=by
    have e:((k:Int) - 1).toNat=k - 1:=by omega
    rw[e] at hy;simp[G2,hy,show k≠0 by omega]
   rw[hp] at Q z;exact⟨λh4=>Q (by simp[h4]),λh4=>F8 hk (by omega) ⟨by omega,z (by simp[Z,h2];simpa using h4)⟩⟩
  .have hp:G2 a.Tiles k=none:=by simp[G2,show k=0 by omega]
   rw[hp] at z;exact F8 hk (by omega) ⟨by omega,z (by simp[Z,h2])⟩
 .rw[CG (by omega),Qik] at O;simp only[<-O,DB]
  grind
def l03Form.fv(a:Af):Bool:=(λa=>Cd none a.Tiles && decide (a.Tiles.length<=500)) a
def l03Form.row:Ay:=vK (b1 (qP 1 Af.d_le)) rB (λa=>True) l03Form.fv
def l03Form.q:=AT (R:=l03Form.row) rfl
def l03Form.ok:A9 118 l03Form.row:=by
 refine vw (tC l01Point.ok (tC l00In.ok (tC l_LessPoint.ok tN))) Tryz.func118 ?_;intro a ab;simp only[Tryz.f118];simp only[ZA,simprocAttr,l03Form.fv];intro aa;simp only[AR];refine⟨λh=> ?_,λh=> ?_⟩
 .have: ¬a.Tiles.length<=500:=by omega
  simp[this]
 refine AU.old ⟨{k:Nat//k<=a.Tiles.length/\Cd (G2 a.Tiles k) (a.Tiles.drop k)=Cd none a.Tiles},λk=>⟨[(3,.im (.int .i64 k.1)),(0,.ptr 0 0),(2,.im (.bool false))],[(0,(false,.view [.sl false 3 (a.Tiles.map Ah.c)]))],1⟩,λk=>a.Tiles.length - k.1,λk=>⟨by simp[ZG],AN _⟩,⟨⟨0,by simp[G2]⟩,by simp only[ZA,simprocAttr,sub]⟩,λk=> ?_⟩;obtain⟨k,ac,O⟩:=k;simp only[ZA,simprocAttr,l01Point.q,l01Point.fv,l00In.q,l00In.fv,l_LessPoint.q,l_LessPoint.fv,sub,AR];intro _;refine⟨λhk=>⟨hk,λx hx=> ?_⟩,λhk=> ?_⟩
 .rw[E9 hx,Vo] at O;have Q:(DY x.At && (AW x.Tile 0 159 && (match G2 a.Tiles k with|none=>true|some p=>Bl p x.At)))=false->false=(Cd none a.Tiles && decide (a.Tiles.length<=500)):=by
   intro h;rw[<-O];revert h;cases DY x.At<;>cases AW x.Tile 0 159<;>cases (match G2 a.Tiles k with|none=>true|some p=>Bl p x.At)<;>simp
  have z:(DY x.At && (AW x.Tile 0 159 && (match G2 a.Tiles k with|none=>true|some p=>Bl p x.At)))=true->Cd (G2 a.Tiles (k+1)) (a.Tiles.drop (k+1))=Cd none a.Tiles:=by
   intro h;rw[<-O,Qn2 hx];simp only[AL] at h;simp[h.1,h.2.1,h.2.2]
  refine⟨λZ=>⟨λh2=>⟨λh3=> ?_,λh3=> ?_⟩,λh2=>Q (by simp[h2])⟩,λZ=>Q (by simp[Z])⟩
  .rw[AC (x:=(k:Int) - 1) (by omega) (by omega)];refine⟨by omega,by omega,λy hy=> ?_⟩;have hp:G2 a.Tiles k=some y.At:=by
    have e:((k:Int) - 1).toNat=k - 1:=by omega
    rw[e] at hy;simp[G2,hy,show k≠0 by omega]
   rw[hp] at Q z;exact⟨λh4=>Q (by simp[h4]),λh4=>F8 hk (by omega) ⟨by omega,z (by simp[Z,h2];simpa using h4)⟩⟩
  .have hp:G2 a.Tiles k=none:=by simp[G2,show k=0 by omega]
   rw[hp] at z;exact F8 hk (by omega) ⟨by omega,z (by simp[Z,h2])⟩
 .rw[CG (by omega),Qik] at O;simp only[<-O,DB]
  grind
def JH(a b:Af):a=b↔a.Tiles=b.Tiles:=by
 obtain⟨x⟩:=a;obtain⟨y⟩:=b;simp
def Qrb(x y:Ah):(x.At.X==y.At.X && (x.At.Y==y.At.Y && x.Tile==y.Tile))=decide (x=y):=by
 obtain⟨⟨a,b⟩,c⟩:=x;obtain⟨⟨d,e⟩,f⟩:=y;rw[WW];simp[gJ]
def l03Same.fv(a:Af×Af):Bool:=(λa b=>decide (a=b)) (a.1) (a.2)
def l03Same.row:Ay:=vK (b2 (qP 1 Af.d_le) (qP 1 Af.d_le)) rB (λa=>True) l03Same.fv
def l03Same.q:=AT (R:=l03Same.row) rfl
def l03Same.ok:A9 46 l03Same.row:=by
 refine vw tN Tryz.func46 ?_;intro a aa;simp only[Tryz.f46];simp only[ZA,simprocAttr,l03Same.fv];simp only[AR];refine⟨λO=> ?_,λO=> ?_⟩
 .have:a.1≠a.2:=λh=>O (by rw[h])
  simp[this]
 have O:a.1.Tiles.length=a.2.Tiles.length:=by omega
 refine AU.old ⟨{k:Nat//k<=a.1.Tiles.length/\a.1.Tiles.take k=a.2.Tiles.take k},λk=>⟨[(5,.im (.int .i64 k.1)),(4,.im (.bool false)),(0,.ptr 0 0),(1,.ptr 1 0)],[(0,(false,.view [.sl false 3 (a.1.Tiles.map Ah.c)])),(1,(false,.view [.sl false 3 (a.2.Tiles.map Ah.c)]))],2⟩,λk=>a.1.Tiles.length - k.1,λk=>⟨by simp[ZG],AN _⟩,⟨⟨0,by simp⟩,by simp only[ZA,simprocAttr,sub]⟩,λk=> ?_⟩;obtain⟨k,Z,z⟩:=k;simp only[ZA,simprocAttr,sub,AR];intro h1;refine⟨λQ=>⟨Q,λx hx=>⟨by omega,λy hy=> ?_⟩⟩,λQ=> ?_⟩
 .obtain⟨g1,g2⟩:=Zn O Z z hx hy;simp only[ZA,Qrb];refine⟨λh=> ?_,λh=>F8 Q h1 ⟨by omega,g1 (by simpa using h)⟩⟩
  have:=g2 (by simpa using h)
  simp[JH,this]
 .rw[D8 (by omega),D8 (by omega)] at z;simp[JH,z]
def EqualP.fv(a:(List Ah)×(List Ah)):Bool:=(λa b=>decide (a=b)) (a.1) (a.2)
def EqualP.row:Ay:=vK (b2 (qS Ah.d_le Ah.c_n) (qS Ah.d_le Ah.c_n)) rB (λa=>True) EqualP.fv
def EqualP.q:=AT (R:=EqualP.row) rfl
def EqualP.ok:A9 97 EqualP.row:=by
 refine vw tN Tryz.func97 ?_;intro a aa;simp only[Tryz.f97];simp only[ZA,simprocAttr,EqualP.fv];intro h1 h2;simp only[AR];refine⟨λO=> ?_,λO=> ?_⟩
 .have:a.1≠a.2:=λh=>O (by rw[h])
  simp[this]
 have O:a.1.length=a.2.length:=by omega
 intro _;refine AU.old ⟨{k:Nat//k<=a.1.length/\a.1.take k=a.2.take k},λk=>⟨[(13,.im (.int .i64 k.1)),(12,.im (.int .i64 a.1.length)),(11,.im (.sl false 3 (a.1.map Ah.c))),(4,.im (.bool false)),(0,.im (.sl false 3 (a.1.map Ah.c))),(1,.im (.sl false 3 (a.2.map Ah.c)))],[],0⟩,λk=>a.1.length - k.1,λk=>⟨by simp[ZG],AN _⟩,⟨⟨0,by simp⟩,by simp only[ZA,simprocAttr,sub]⟩,λk=> ?_⟩;obtain⟨k,Z,z⟩:=k;simp only[ZA,simprocAttr,sub,AR,Qrb];refine⟨λQ=>⟨Q,λx hx=>⟨by omega,λy hy=> ?_⟩⟩,λQ=> ?_⟩
 .obtain⟨g1,g2⟩:=Zn O Z z hx hy;refine⟨λh=> ?_,λh=>F8 Q h1 ⟨by omega,g1 (by simpa using h)⟩⟩
  have:=g2 (by simpa using h)
  simp[this]
 .rw[D8 (by omega),D8 (by omega)] at z;simp[z]
def Bm{A:Type}(p:A->Bool):Nat->List A->Int
 |_,[]=> -1
 |i,x::r=>if p x=true then i else Bm p (i+1) r
def l02Glue.fv(a:Az×ByteArray):Int:=(λs n=>Bm (λg=>decide (g.Name=n)) 0 s.Glues+1) (a.1) (a.2)
def l02Glue.row:Ay:=vK (b2 (qP 2 Az.d_le) qT) rI (λa=>True) l02Glue.fv
def l02Glue.q:=AT (R:=l02Glue.row) rfl
def l02Glue.ok:A9 116 l02Glue.row:=by
 refine vw tN Tryz.func116 ?_;intro a Q;simp only[Tryz.f116];simp only[ZA,simprocAttr,l02Glue.fv];refine AU.old ⟨{k:Nat//k<=a.1.Glues.length/\Bm (λg:Am=>decide (g.Name=a.2)) k (a.1.Glues.drop k)=Bm (λg:Am=>decide (g.Name=a.2)) 0 a.1.Glues},λk=>⟨[(5,.im (.int .i64 k.1)),(4,.im (.int .i64 0)),(0,.ptr 0 0),(1,.im (.str a.2))],[(0,(false,.view [.sl false 2 (a.1.Glues.map Am.c),.sl false 2 (a.1.Tiles.map Tile.c)]))],1⟩,λk=>a.1.Glues.length - k.1,λk=>⟨by simp[ZG],AN _⟩,⟨⟨0,by simp⟩,by simp only[ZA,simprocAttr,sub]⟩,λk=> ?_⟩;obtain⟨k,Z,z⟩:=k;simp only[ZA,simprocAttr,sub,AR];intro hn;refine⟨λO=>⟨O,λx hx=> ?_⟩,λO=> ?_⟩
 .rw[E9 hx,Bm] at z;refine⟨λh=> ?_,λh=>F8 O hn ⟨by omega,by rw[<-z,Ad (by simpa using h)]⟩⟩;rw[Ak (by simpa using h)] at z;rw[<-z,AC (by omega) (by omega)]
 .rw[CG (by omega),Bm] at z;omega
def VA1.fv(a:Ah×Az):Bool:=(λx s=> !AW x.Tile 0 (s.Tiles.length - 1)) (a.1) (a.2)
def VA1.row:Ay:=vK (b2 (qR Ah.d_le) (qP 2 Az.d_le)) rB (λa=>True) VA1.fv
def VA1.q:=AT (R:=VA1.row) rfl
def VA1.ok:A9 164 VA1.row:=by
 refine vw (tC isTile.ok tN) Tryz.func164 ?_;intro a z;simp only[Tryz.f164];simp only[ZA,simprocAttr,VA1.fv,isTile.q,isTile.fv]
def IdxVA.ar:List PK->Option ((List Ah)×Az)
 |[.val (.sl _ _ Q),.val (.fn 164 [] [.ref z])]=>(AQ Ah.d Q).bind λZ=>(Az.d (z.take 2)).bind λO=>some (Z,O)
 |_=>none
def IdxVA.ae(a:(List Ah)×Az):List PK:=[.val (.sl false 3 (a.1.map Ah.c)),.val (.fn 164 [] [.ref (Az.c a.2)])]
def IdxVA.le: ∀O a,IdxVA.ar O=some a->BE O (IdxVA.ae a):=by
 intro O a h;unfold IdxVA.ar at h;split at h
 .simp only[Ei,AI] at h;obtain⟨Z,h0,Q,z,rfl⟩:=h;exact⟨D2 (Dr Ah.d_le _ _ h0) (by simp only[Bh];rintro r ⟨y,_,rfl⟩;rfl),NY ⟨NT (FM.trans_take (Az.d_le _ _ z)),trivial⟩,trivial⟩
 .cases h
def IdxVA.fv(a:(List Ah)×Az):Int:=(λl s=>Bm (λx=> !AW x.Tile 0 (s.Tiles.length - 1)) 0 l) (a.1) (a.2)
def IdxVA.row:Ay:=Dj IdxVA.ar (λa=>True) (λa=>(D.int .i64) (IdxVA.fv a))
def IdxVA.q:=vq IdxVA.row rfl
def IdxVA.ok:A9 102 IdxVA.row:=by
 refine NI CF (tC VA1.ok tN) Tryz.func102 rfl (by kernel_rfl) (by kernel_rfl) (ar:=IdxVA.ar) (ae:=IdxVA.ae) IdxVA.le (n:=2) (λ_=>rfl) (by decide) (rc:=(D0)) (re:=(D.int .i64)) (Lg) (f:=IdxVA.fv) ?_;intro a Q;simp only[Tryz.f102];simp only[ZA,simprocAttr,IdxVA.ae,IdxVA.fv];intro hn;refine AU.old ⟨{k:Nat//k<=a.1.length/\Bm (λx:Ah=> !AW x.Tile 0 (a.2.Tiles.length - 1)) k (a.1.drop k)=Bm (λx:Ah=> !AW x.Tile 0 (a.2.Tiles.length - 1)) 0 a.1},λk=>⟨[(8,.im (.int .i64 k.1)),(7,.im (.int .i64 a.1.length)),(6,.im (.sl false 3 (a.1.map Ah.c))),(4,.im (.int .i64 0)),(0,.im (.sl false 3 (a.1.map Ah.c))),(1,.im (.fn 164 [] [.ref (Az.c a.2)]))],[],0⟩,λk=>a.1.length - k.1,λk=>⟨by simp[ZG],AN _⟩,⟨⟨0,by simp⟩,by simp only[ZA,simprocAttr,sub]⟩,λk=> ?_⟩;obtain⟨k,Z,z⟩:=k;simp only[ZA,simprocAttr,VA1.q,VA1.fv,sub,AR];refine⟨λO=>⟨O,λx hx=> ?_⟩,λO=> ?_⟩
 .rw[E9 hx,Bm] at z;refine⟨λh=> ?_,λh=>F8 O hn ⟨by omega,by rw[<-z,Ad (by simpa using h)]⟩⟩;rw[Ak (by simpa using h)] at z;exact z
 .rw[CG (by omega),Bm] at z;exact z
def Qyg{A:Type}(p:A->Bool): ∀(l:List A) (i:Nat),(0<=Bm p i l↔l.any p=true)/\ -1<=Bm p i l/\Bm p i l<(i+l.length:Nat)\/(l=[]/\Bm p i l= -1):=by
 intro l;induction l with
 |nil=>intro i;exact .inr ⟨rfl,rfl⟩
 |cons x r ih=>
  intro i;refine .inl ?_;simp only[Bm,List.any_cons,CQ]
  split<;>rename_i h
  .simp[h];omega
  .rcases ih (i+1) with ⟨O,z,Q⟩|⟨rfl,z⟩
   .simp only[IF] at h;rw[h,mN];exact⟨O,z,by omega⟩
   .simp[z,h];omega
def uK{A:Type}(p:A->Bool)(l:List A):decide (0<=Bm p 0 l)=l.any p:=by
 rw[WW];rcases Qyg p l 0 with ⟨z,_⟩|⟨rfl,O⟩
 .simpa using z
 .simp[O]
def ContVA.ar:List PK->Option ((List Ah)×Az)
 |[.val (.sl _ _ Q),.val (.fn 164 [] [.ref z])]=>(AQ Ah.d Q).bind λZ=>(Az.d (z.take 2)).bind λO=>some (Z,O)
 |_=>none
def ContVA.ae(a:(List Ah)×Az):List PK:=[.val (.sl false 3 (a.1.map Ah.c)),.val (.fn 164 [] [.ref (Az.c a.2)])]
def ContVA.le: ∀O a,ContVA.ar O=some a->BE O (ContVA.ae a):=by
 intro O a h;unfold ContVA.ar at h;split at h
 .simp only[Ei,AI] at h;obtain⟨Z,h0,Q,z,rfl⟩:=h;exact⟨D2 (Dr Ah.d_le _ _ h0) (by simp only[Bh];rintro r ⟨y,_,rfl⟩;rfl),NY ⟨NT (FM.trans_take (Az.d_le _ _ z)),trivial⟩,trivial⟩
 .cases h
def ContVA.fv(a:(List Ah)×Az):Bool:=(λl s=>l.any (λx=> !AW x.Tile 0 (s.Tiles.length - 1))) (a.1) (a.2)
def ContVA.row:Ay:=Dj ContVA.ar (λa=>True) (λa=>(D.bool) (ContVA.fv a))
def ContVA.q:=vq ContVA.row rfl
def ContVA.ok:A9 143 ContVA.row:=by
 refine NI CF (tC IdxVA.ok tN) Tryz.func143 rfl (by kernel_rfl) (by kernel_rfl) (ar:=ContVA.ar) (ae:=ContVA.ae) ContVA.le (n:=2) (λ_=>rfl) (by decide) (rc:=(PO)) (re:=(D.bool)) (Ze) (f:=ContVA.fv) ?_;intro a z;simp only[Tryz.f143];simp only[ZA,simprocAttr,ContVA.ae,ContVA.fv,IdxVA.q,IdxVA.ar,IdxVA.fv];exact uK _ _
def SameAsm.fv(a:Af×Af):Bool:=(λa b=>decide (a=b)) (a.1) (a.2)
def SameAsm.row:Ay:=vK (b2 (qR Af.d_le) (qR Af.d_le)) rB (λa=>True) SameAsm.fv
def SameAsm.q:=AT (R:=SameAsm.row) rfl
def SameAsm.ok:A9 61 SameAsm.row:=by
 refine vw (tC EqualP.ok tN) Tryz.func61 ?_;intro a z;simp only[Tryz.f61];simp only[ZA,simprocAttr,SameAsm.fv,EqualP.q,EqualP.fv];simp only[JH]
def l03Ok.fv(a:Az×Af):Bool:=(λs a=>(Cd none a.Tiles && decide (a.Tiles.length<=500)) && a.Tiles.all (λx=>AW x.Tile 0 (s.Tiles.length - 1))) (a.1) (a.2)
def l03Ok.row:Ay:=vK (b2 (qP 2 Az.d_le) (qP 1 Af.d_le)) rB (λa=>True) l03Ok.fv
def l03Ok.q:=AT (R:=l03Ok.row) rfl
def l03Ok.ok:A9 77 l03Ok.row:=by
 refine vw (tC l03Form.ok (tC l02Index.ok tN)) Tryz.func77 ?_;intro a Z;simp only[Tryz.f77];simp only[ZA,simprocAttr,Af.d,l03Ok.fv,l03Form.q,l03Form.fv];simp only[AR];refine⟨λh=>by simp[h],λh=> ?_⟩;simp only[Hq] at h;refine AU.old ⟨{k:Nat//k<=a.2.Tiles.length/\(a.2.Tiles.drop k).all (λx=>AW x.Tile 0 (a.1.Tiles.length - 1))=a.2.Tiles.all (λx=>AW x.Tile 0 (a.1.Tiles.length - 1))},λk=>⟨[(5,.im (.int .i64 k.1)),(4,.im (.bool false)),(0,.ptr 0 0),(1,.ptr 1 0)],[(0,(false,.view (Az.c a.1))),(1,(false,.view (Af.c a.2)))],2⟩,λk=>a.2.Tiles.length - k.1,λk=>⟨by simp[ZG],AN _⟩,⟨⟨0,by simp⟩,by simp only[ZA,simprocAttr,sub]⟩,λk=> ?_⟩;obtain⟨k,aa,z⟩:=k;simp only[ZA,simprocAttr,l02Index.q,l02Index.fv,sub,AR];intro hn;refine⟨λQ=>⟨Q,λx hx=> ?_⟩,λQ=> ?_⟩
 .rw[E9 hx,J8] at z;refine⟨λO=> ?_,λO=>F8 Q hn ⟨by omega,?_⟩⟩
  .rw[O] at z;simp only[Fo] at z;rw[h,<-z];rfl
  .simp only[Hq] at O;rw[O,DB] at z;exact z
 .rw[CG (by omega)] at z;rw[h,<-z];rfl
def dR{a b c:Ab}(z:Bl a b=true)(O:Bl b c=true):Bl a c=true:=by
 simp only[Bl,H8,AL,B3] at*;omega
def lN(a:Ab):Bl a a=false:=by simp[Bl]
def dN: ∀(l:List Ah) (q:Option Ab),Cd q l=true->(∀p,q=some p-> ∀(i:Nat) (x:Ah),l[i]? =some x->Bl p x.At=true)/\
 ∀(i j:Nat) (x y:Ah),i<j->l[i]? =some x->l[j]? =some y->Bl x.At y.At=true
 |[],q,_=>⟨λ_ _ i x h=>by simp at h,λi j x y _ h=>by simp at h⟩
 |z::r,q,h=>by
  rw[Vo] at h;simp only[AL] at h;obtain⟨_,_,Z,h4⟩:=h;obtain⟨i1,i2⟩:=dN r (some z.At) h4;refine⟨?_,?_⟩
  .rintro p rfl i x O;cases i with
   |zero=>
    simp only[Ho,AI] at O;subst O;exact Z
   |succ i=>
    simp only[J7] at O;exact dR Z (i1 _ rfl i x O)
  .intro i j x y aa O Q;cases j with
   |zero=>omega
   |succ j=>
    simp only[J7] at Q;cases i with
    |zero=>
     simp only[Ho,AI] at O;subst O;exact i1 _ rfl j y Q
    |succ i=>
     simp only[J7] at O;exact i2 i j x y (by omega) O Q
def Qtf{A:Type}(p:A->Bool): ∀(l:List A) (o k:Nat) (x:A),l[k]? =some x->p x=true->(∀i y,i<k->l[i]? =some y->p y=false)->Bm p o l=((o+k:Nat):Int)
 |[],o,k,x,h,_,_=>by simp at h
 |z::r,o,k,x,h,hp,hn=>by
  simp only[Bm];cases k with
  |zero=>
   simp only[Ho,AI] at h;subst h;rw[Ak hp];rfl
  |succ k=>
   have:=hn 0 z (by omega) (by simp)
   rw[Ad (by simp[this])];rw[Qtf p r (o+1) k x (by simpa using h) hp (λi y Q O=>hn (i+1) y (by omega) (by simpa using O))];congr 1;omega
def Qrf{A:Type}(p:A->Bool): ∀(l:List A) (o:Nat),(∀(i:Nat) (y:A),l[i]? =some y->p y=false)->Bm p o l= -1
 |[],o,_=>rfl
 |z::r,o,hn=>by
  simp only[Bm]
  have:=hn 0 z (by simp)
  rw[Ad (by simp[this])];exact Qrf p r (o+1) (λi y O=>hn (i+1) y (by simpa using O))
def l03Index.fv(a:Af×Ab):Int:=(λa p=>Bm (λx=>decide (x.At=p)) 0 a.Tiles) (a.1) (a.2)
def l03Index.row:Ay:=vK (b2 (qP 1 Af.d_le) (qR Ab.d_le)) rI (λa=>Cd none a.1.Tiles=true) l03Index.fv
def l03Index.q:=AT (R:=l03Index.row) rfl
def l03Index.ok:A9 49 l03Index.row:=by
 refine vw (tC l_LessPoint.ok tN) Tryz.func49 ?_;intro a ad;simp only[Tryz.f49];simp only[ZA,simprocAttr,l03Index.fv];intro hn;refine AU.old ⟨{p:Nat×Nat//p.1<=p.2/\p.2<=a.1.Tiles.length/\(∀i x,i<p.1->a.1.Tiles[i]? =some x->Bl x.At a.2=true)/\(∀i x,p.2<=i->a.1.Tiles[i]? =some x->Bl x.At a.2=false)},λp=>⟨[(5,.im (.int .i64 p.1.1)),(6,.im (.int .i64 p.1.2)),(4,.im (.int .i64 0)),(3,.ptr 1 0),(0,.ptr 0 0)],[(1,(true,.cells 70 [.im (.int .i64 a.2.X),.im (.int .i64 a.2.Y)])),(0,(false,.view [.sl false 3 (a.1.Tiles.map Ah.c)]))],2⟩,λp=>p.1.2 - p.1.1,λp=>⟨by simp[ZG],AN _⟩,⟨⟨(0,a.1.Tiles.length),by simp,by simp,by simp,?_⟩,by simp only[ZA,simprocAttr,sub]⟩,λp=> ?_⟩
 .intro i x O Z
  have:=(Cx.1 Z).1
  simp only at O;omega
 obtain⟨⟨lo,O⟩,h1,h2,h3,h4⟩:=p;simp only at h1 h2 h3 h4;simp only[ZA,simprocAttr,l_LessPoint.q,l_LessPoint.fv,sub,AR];obtain⟨_,Q⟩:=dN _ _ ad;have ac: ∀(i:Nat) (x:Ah),i<lo->a.1.Tiles[i]? =some x->x.At≠a.2:=by
  intro i x O Z he
  have:=h3 i x O Z
  rw[he,lN] at this;cases this
 refine⟨λaf=> ?_,λaf=>⟨λhl=>⟨hl,λx Z=>⟨λhe=> ?_,λhe=> ?_⟩⟩,λhl=> ?_⟩⟩
 .have hm:IntKind.wrap .i64 ((IntKind.wrap .i64 ((lo:Int)+O)).tdiv 2)=(((lo+O)/2:Nat):Int):=by
   rw[AC (x:=(lo:Int)+O) (by omega) (by omega),Zdg (by omega),AC (by omega) (by omega)];omega
  rw[hm];refine⟨by omega,by omega,λx Z=>⟨λhb=> ?_,λhb=> ?_⟩⟩
  .rw[B5] at Z;refine⟨⟨((lo+O)/2+1,O),by simp only;omega,h2,λi y ab z=> ?_,h4⟩,by simp only;omega,?_,rfl⟩
   .simp only at ab;rcases EI i ((lo+O)/2) with h|h
    .exact dR (Q i _ y x h z Z) hb
    .have:i=(lo+O)/2:=by omega
     subst this;rw[Z] at z;exact A7 z▸hb
   .rw[AC (by omega) (by omega)];simp only;omega
  .rw[B5] at Z;refine⟨⟨(lo,(lo+O)/2),by simp only;omega,by simp only;omega,h3,λi y ab z=> ?_⟩,by simp only;omega,rfl,rfl⟩;simp only at ab;rcases EI ((lo+O)/2) i with h|h
   .cases hl:Bl y.At a.2 with
    |false=>rfl
    |true=>exact absurd (dR (Q _ i x y h Z z) hl) hb
   .have:i=(lo+O)/2:=by omega
    subst this;rw[Z] at z;obtain rfl:=A7 z;simpa using hb
 .have ag:x.At=a.2:=by
   obtain⟨e1,e2⟩:=he;have e1:x.At.X=a.2.X:=by simpa using e1
   have e2:x.At.Y=a.2.Y:=by simpa using e2
   rw[<-Ab.eta x.At,<-Ab.eta a.2,e1,e2]
  rw[Qtf _ a.1.Tiles 0 lo x Z (by simp[ag]) (λi y O z=>by simp[ac i y O z])];simp
 .refine (Qrf _ _ _ ?_).symm;intro i y z;rcases vI i lo with h|h|h
  .simp[ac i y h z]
  .subst h;rw[Z] at z;obtain rfl:=A7 z;simp only[Lw];intro h9;exact he (by simp[h9])
  .simp only[Lw];intro h9;have aa:=Q lo i x y h Z z;rw[h9] at aa
   have:=h4 lo x (by omega) Z
   rw[this] at aa;cases aa
 .refine (Qrf _ _ _ ?_).symm;intro i y z
  have:=(Cx.1 z).1
  simp[ac i y (by omega) z]
def GR(p:Ab)(t:Int):Bool->List Ah->List Ah
 |_,[]=>[]
 |false,x::r=>if Bl p x.At=true then ⟨p,t⟩::x::GR p t true r else x::GR p t false r
 |true,x::r=>x::GR p t true r
def I6(p:Ab):List Ah->Bool
 |[]=>false
 |x::r=>if Bl p x.At=true then true else I6 p r
def BJ(a:Af)(p:Ab)(t:Int):Af:=⟨GR p t false a.Tiles++(if I6 p a.Tiles=true then [] else [⟨p,t⟩])⟩
def uC(p:Ab)(t:Int): ∀(l:List Ah),GR p t true l=l
 |[]=>rfl
 |x::r=>by simp only[GR,uC p t r]
def yW(p:Ab)(t:Int)(x:Ah): ∀(l:List Ah),GR p t false (l++[x])=GR p t false l++(if I6 p l=true then [x] else if Bl p x.At=true then [⟨p,t⟩,x] else [x])
 |[]=>by simp only[FC,GR,I6];split<;>simp[GR]
 |y::r=>by
  simp only[De,GR,I6];split
  .rw[uC,uC];simp
  .rw[yW p t x r];simp
def yK(p:Ab)(x:Ah): ∀(l:List Ah),I6 p (l++[x])=(I6 p l||Bl p x.At)
 |[]=>by simp only[FC,I6];split<;>simp_all
 |y::r=>by
  simp only[De,I6];split
  .simp
  .exact yK p x r
def Qua(p:Ab)(t:Int): ∀(l:List Ah),(GR p t false l).length<=l.length+1
 |[]=>by simp[GR]
 |y::r=>by
  simp only[GR];split
  .rw[uC];simp
  .have:=Qua p t r
   simp;omega
def l03Put.fv(a:Af×Ab×Int):Af:=(BJ) (a.1) (a.2.1) (a.2.2)
def l03Put.row:Ay:=vK (b3 (qP 1 Af.d_le) (qR Ab.d_le) qI) (rA Af.d_le) (λa=>a.1.Tiles.length<=1000000) l03Put.fv
def l03Put.q:=AT (R:=l03Put.row) rfl
def l03Put.ok:A9 25 l03Put.row:=by
 refine vw (tC l_LessPoint.ok tN) Tryz.func25 ?_;intro a ac;simp only[Tryz.f25];simp only[ZA,simprocAttr,l03Put.fv];refine AU.ren ⟨{k:Nat//k<=a.1.Tiles.length},λk=>⟨[(9,.im (.int .i64 k.1)),(8,.im (.bool (I6 a.2.1 (a.1.Tiles.take k.1)))),(7,.ptr 3 0),(6,.ptr 2 0),(4,.ptr 1 0),(0,.ptr 0 0),(2,.im (.int .i64 a.2.2))],[(3,(true,.cells 38 [.own 4])),(4,(true,.arr 97 3 ((GR a.2.1 a.2.2 false (a.1.Tiles.take k.1)).map Ah.c))),(2,(true,.cells 38 [.im (.sl true 0 [])])),(1,(true,.cells 70 [.im (.int .i64 a.2.1.X),.im (.int .i64 a.2.1.Y)])),(0,(false,.view [.sl false 3 (a.1.Tiles.map Ah.c)]))],5⟩,λk=>a.1.Tiles.length - k.1,λk=>⟨by simp[ZG],by simp⟩,⟨⟨0,by simp⟩,[(4,none)],?_⟩,λk=> ?_⟩
 .simp only[Aw];simp only[ZA,simprocAttr,Br,Qh,GR,I6]
  try simp
 obtain⟨k,ad⟩:=k;simp only[ZA,simprocAttr,Af.d,l_LessPoint.q,l_LessPoint.fv,AR];intro _;have aa:=Qua a.2.1 a.2.2 (a.1.Tiles.take k);have ab:(a.1.Tiles.take k).length<=k:=by simp;omega
 refine⟨λZ=>⟨λhd=>⟨Z,λx Q=>⟨λO=> ?_,λO=> ?_⟩⟩,λhd=> ?_⟩,λZ=> ?_⟩
 .have z:a.1.Tiles.take (k+1)=a.1.Tiles.take k++[x]:=by rw[Ib,Q];rfl
  refine⟨by simp[BY,BK,D.one],by omega,Z,λy hy=>⟨by simp[BY,BK,D.one],by simp;omega,⟨⟨k+1,by omega⟩,[(4,some 8)],by simp only;omega,?_⟩⟩⟩;rw[Q] at hy;obtain rfl:=A7 hy;simp only[Aw];simp only[ZA,simprocAttr];refine⟨by simp,⟨?_,?_⟩,?_⟩
  .rw[AC (by omega) (by omega)];omega
  .rw[z,yK,hd,O];rfl
  .rw[z,yW,hd,O];simp[Ah.c]
 .have z:a.1.Tiles.take (k+1)=a.1.Tiles.take k++[x]:=by rw[Ib,Q];rfl
  refine⟨Z,λy hy=>⟨by simp[BY,BK,D.one],by omega,⟨⟨k+1,by omega⟩,[(4,some 6)],by simp only;omega,?_⟩⟩⟩;rw[Q] at hy;obtain rfl:=A7 hy;simp only[IF] at O;simp only[Aw];simp only[ZA,simprocAttr];refine⟨by simp,⟨?_,?_⟩,?_⟩
  .rw[AC (by omega) (by omega)];omega
  .rw[z,yK,hd,O];rfl
  .rw[z,yW,hd,O];simp[Ah.c]
 .simp only[Hq] at hd;refine⟨Z,λx Q=>⟨by simp[BY,BK,D.one],by omega,⟨⟨k+1,by omega⟩,[(4,some 6)],by simp only;omega,?_⟩⟩⟩;have z:a.1.Tiles.take (k+1)=a.1.Tiles.take k++[x]:=by rw[Ib,Q];rfl
  simp only[Aw];simp only[ZA,simprocAttr];refine⟨by simp,⟨?_,?_⟩,?_⟩
  .rw[AC (by omega) (by omega)];omega
  .rw[z,yK,hd];rfl
  .rw[z,yW,hd];simp[Ah.c]
 .rw[D8 (by omega)] at aa ab⊢;refine⟨λhd=>⟨by simp[BY,BK,D.one],by omega,?_⟩,λhd=> ?_⟩
  .have e:List.map Ah.c (GR a.2.1 a.2.2 false a.1.Tiles)++[[D.int .i64 a.2.1.X,D.int .i64 a.2.1.Y,D.int .i64 a.2.2]]=List.map Ah.c (GR a.2.1 a.2.2 false a.1.Tiles++[⟨a.2.1,a.2.2⟩]):=by simp[Ah.c]
   rw[e,Ah.d_R];simp[BJ,hd]
  .simp only[Hq] at hd;simp[BJ,hd]
def Bj(a:Af)(p:Ab):Int:=((a.Tiles.find? (λx=>decide (x.At=p))).map Ah.Tile).getD (-1)
def W4{A:Type}(p:A->Bool): ∀(l:List A) (o:Nat),(l.find? p=none/\Bm p o l= -1)\/ ∃(i:Nat) (x:A),l.find? p=some x/\Bm p o l=((o+i:Nat):Int)/\l[i]? =some x
 |[],o=> .inl ⟨rfl,rfl⟩
 |z::r,o=>by
  simp only[Bm,Zen];cases h:p z
  .rcases W4 p r (o+1) with ⟨O,Q⟩|⟨i,x,O,Q,Z⟩
   .exact .inl ⟨by simpa using O,by simpa using Q⟩
   .exact .inr ⟨i+1,x,by simpa using O,by simp[Q];omega,by simpa using Z⟩
  .exact .inr ⟨0,z,rfl,by simp,by simp⟩
def l03At.fv(a:Af×Ab):Int:=(Bj) (a.1) (a.2)
def l03At.row:Ay:=vK (b2 (qP 1 Af.d_le) (qR Ab.d_le)) rI (λa=>Cd none a.1.Tiles=true) l03At.fv
def l03At.q:=AT (R:=l03At.row) rfl
def l03At.ok:A9 83 l03At.row:=by
 refine vw (tC l03Index.ok tN) Tryz.func83 ?_;intro a z;simp only[Tryz.f83];simp only[ZA,simprocAttr,Af.d,l03At.fv,l03Index.q,l03Index.fv];refine⟨z,?_⟩;rcases W4 (λx=>decide (x.At=a.2)) a.1.Tiles 0 with ⟨O,Q⟩|⟨i,x,O,Q,Z⟩
 .rw[Q,Ak (by omega)];simp[Bj,O]
 .have hi:=(Cx.1 Z).1;rw[Q,Ad (by omega)];refine⟨by omega,by omega,λy hy=> ?_⟩
  have:((0+i:Nat):Int).toNat=i:=by omega
  rw[this,Z] at hy;obtain rfl:=A7 hy;simp[Bj,O]
def l02Tile.fv(a:Az×ByteArray):Int:=(λs n=>Bm (λg=>decide (g.Name=n)) 0 s.Tiles) (a.1) (a.2)
def l02Tile.row:Ay:=vK (b2 (qP 2 Az.d_le) qT) rI (λa=>True) l02Tile.fv
def l02Tile.q:=AT (R:=l02Tile.row) rfl
def l02Tile.ok:A9 117 l02Tile.row:=by
 refine vw tN Tryz.func117 ?_;intro a Q;simp only[Tryz.f117];simp only[ZA,simprocAttr,l02Tile.fv];refine AU.old ⟨{k:Nat//k<=a.1.Tiles.length/\Bm (λg:Tile=>decide (g.Name=a.2)) k (a.1.Tiles.drop k)=Bm (λg:Tile=>decide (g.Name=a.2)) 0 a.1.Tiles},λk=>⟨[(5,.im (.int .i64 k.1)),(4,.im (.int .i64 0)),(0,.ptr 0 0),(1,.im (.str a.2))],[(0,(false,.view (Az.c a.1)))],1⟩,λk=>a.1.Tiles.length - k.1,λk=>⟨by simp[ZG],AN _⟩,⟨⟨0,by simp⟩,by simp only[ZA,simprocAttr,sub]⟩,λk=> ?_⟩;obtain⟨k,Z,z⟩:=k;simp only[ZA,simprocAttr,sub,AR];intro hn;refine⟨λO=>⟨O,λx hx=> ?_⟩,λO=> ?_⟩
 .rw[E9 hx,Bm] at z;refine⟨λh=> ?_,λh=>F8 O hn ⟨by omega,by rw[<-z,Ad (by simpa using h)]⟩⟩;rw[Ak (by simpa using h)] at z;exact z
 .rw[CG (by omega),Bm] at z;omega
def HB(a:Af)(o:AD):Af×Int:=if 500<=a.Tiles.length then (⟨[]⟩,4) else (BJ a o.At o.Tile,0)
def l08Attach.fv(a:Af×AD):Af×Int:=(HB) (a.1) (a.2)
def l08Attach.row:Ay:=vK (b2 (qP 1 Af.d_le) (qR AD.d_le)) (r2 (rA Af.d_le) rI) (λa=>True) l08Attach.fv
def l08Attach.q:=AT (R:=l08Attach.row) rfl
def l08Attach.ok:A9 81 l08Attach.row:=by
 refine vw (tC l03Put.ok tN) Tryz.func81 ?_;intro a z;simp only[Tryz.f81];simp only[ZA,simprocAttr,Af.d,l08Attach.fv,l03Put.q,l03Put.fv];intro _;simp only[AR];refine⟨λh=> ?_,λh=>⟨by omega,?_⟩⟩
 .simp only[HB];rw[Ak (by omega)]
 .simp only[HB];rw[Ad (by omega)]
def ND(s:Az)(a:Af)(p:Ab)(t:Int)(d:Int):Int:=if 0<=Bj a (Cw p d) then Kf s t d (Bj a (Cw p d)) else 0
def Lr(s:Az)(a:Af)(p:Ab)(t:Int):Nat->Int
 |0=>0
 |k+1=>Lr s a p t k+ND s a p t k
def FB(s:Az)(a:Af):Prop:=Cd none a.Tiles=true/\ ∀x∈a.Tiles,Fi s x.Tile
def Kx{s:Az}{a:Af}(h:FB s a)(p:Ab)(h0:0<=Bj a p):Fi s (Bj a p):=by
 simp only[Bj] at h0⊢;cases hf:a.Tiles.find? (λx=>decide (x.At=p)) with
 |none=>rw[hf] at h0;simp at h0
 |some x=>exact h.2 x (Qg hf)
def Qp1{s:Az}(h:BO s)(g:Int):0<=PS s g/\PS s g<=4:=by
 simp only[PS];split
 .cases hx:s.Glues[(g - 1).toNat]? with
  |none=>simp
  |some x=>have:=h.2.2 x (Ba hx);simp;omega
 .omega
def Nj{s:Az}(h:BO s)(a:Af)(p:Ab)(t d:Int):0<=ND s a p t d/\ND s a p t d<=4:=by
 simp only[ND,Kf];split
 .split
  .exact Qp1 h _
  .omega
 .omega
def L3{s:Az}(h:BO s)(a:Af)(p:Ab)(t:Int): ∀(k:Nat),0<=Lr s a p t k/\Lr s a p t k<=4*k
 |0=>by simp[Lr]
 |k+1=>by
  have z:=L3 h a p t k;have O:=Nj h a p t k;simp only[Lr];omega
def l06Binding.fv(a:Az×Af×Ab×Int):Int:=(λs a p t=>Lr s a p t 4) (a.1) (a.2.1) (a.2.2.1) (a.2.2.2)
def l06Binding.row:Ay:=vK (b4 (qP 2 Az.d_le) (qP 1 Af.d_le) (qR Ab.d_le) qI) rI (λa=>BO a.1/\FB a.1 a.2.1/\G4 a.2.2.1/\Fi a.1 a.2.2.2) l06Binding.fv
def l06Binding.q:=AT (R:=l06Binding.row) rfl
def l06Binding.ok:A9 86 l06Binding.row:=by
 refine vw (tC l03At.ok (tC l01Step.ok (tC l02Bond.ok tN))) Tryz.func86 ?_;intro a z;simp only[Tryz.f86];simp only[ZA,simprocAttr,l06Binding.fv];obtain⟨O,Q,Z,h4⟩:=z;refine AU.old ⟨{k:Nat//k<=4},λk=>⟨[(10,.im (.int .i64 k.1)),(9,.im (.int .i64 (Lr a.1 a.2.1 a.2.2.1 a.2.2.2 k.1))),(8,.im (.int .i64 0)),(6,.ptr 2 0),(0,.ptr 0 0),(1,.ptr 1 0),(3,.im (.int .i64 a.2.2.2))],[(2,(true,.cells 70 [.im (.int .i64 a.2.2.1.X),.im (.int .i64 a.2.2.1.Y)])),(0,(false,.view (Az.c a.1))),(1,(false,.view (Af.c a.2.1)))],3⟩,λk=>4 - k.1,λk=>⟨by simp[ZG],AN _⟩,⟨⟨0,by simp⟩,by simp only[ZA,simprocAttr,sub,Lr]⟩,λk=> ?_⟩;obtain⟨k,aa⟩:=k;simp only[ZA,simprocAttr,Af.d,l03At.q,l03At.fv,l01Step.q,l01Step.fv,l02Bond.q,l02Bond.fv,sub,AR];have hb:=L3 O a.2.1 a.2.2.1 a.2.2.2 k;have ht:=Nj O a.2.1 a.2.2.1 a.2.2.2 k;refine⟨λhk=>⟨⟨Z,by omega⟩,Q.1,λhp=>⟨⟨O,h4,⟨by omega,by omega⟩,Kx Q _ hp⟩,⟨⟨k+1,by omega⟩,by simp only;omega,?_,?_⟩⟩,λhp=>⟨⟨k+1,by omega⟩,by simp only;omega,?_,?_⟩⟩,λhk=> ?_⟩
 .rw[AC (by omega) (by omega)];simp only;omega
 .simp only[Lr];simp only[ND,Ak hp] at ht⊢;rw[AC (by omega) (by omega)]
 .rw[AC (by omega) (by omega)];simp only;omega
 .simp only[Lr,ND,Ad hp];omega
 .have:k=4:=by omega
  rw[this]
def Z1{p:Ab}(h:DY p=true):G4 p:=by
 simp only[DY,AW,AL,B3] at h;simp only[G4];omega
def Vw: ∀(l:List Ah) (q:Option Ab),Cd q l=true-> ∀x∈l,DY x.At=true/\AW x.Tile 0 159=true
 |[],_,_,x,O=>by cases O
 |z::r,q,h,x,O=>by
  rw[Vo] at h;simp only[AL] at h;rcases Be.1 O with rfl|O
  .exact⟨h.1,h.2.1⟩
  .exact Vw r _ h.2.2.2 x O
def Hd(a:Af)(i d:Int):Int:=Bm (λx=>decide (x.At=Cw ((a.Tiles[i.toNat]?.map Ah.At).getD ⟨0,0⟩) d)) 0 a.Tiles
def l06Neighbor.fv(a:Af×Int×Int):Int:=(Hd) (a.1) (a.2.1) (a.2.2)
def l06Neighbor.row:Ay:=vK (b3 (qP 1 Af.d_le) qI qI) rI (λa=>Cd none a.1.Tiles=true/\0<=a.2.1/\a.2.1<a.1.Tiles.length/\0<=a.2.2/\a.2.2<=3) l06Neighbor.fv
def l06Neighbor.q:=AT (R:=l06Neighbor.row) rfl
def l06Neighbor.ok:A9 155 l06Neighbor.row:=by
 refine vw (tC l01Step.ok (tC l03Index.ok tN)) Tryz.func155 ?_;intro a z;simp only[Tryz.f155];simp only[ZA,simprocAttr,Af.d,l06Neighbor.fv,l01Step.q,l01Step.fv,l03Index.q,l03Index.fv];obtain⟨O,Z,h3,h4,h5⟩:=z;refine⟨Z,h3,λx Q=>⟨⟨Z1 (Vw _ _ O x (Ba Q)).1,h4,h5⟩,O,?_⟩⟩;simp only[Hd];rw[Q];rfl
def l08Can.fv(a:AG×Af×AD):Bool:=(λs a o=>DY o.At && (AW o.Tile 0 (s.Set.Tiles.length - 1) && (decide (Bm (λx=>decide (x.At=o.At)) 0 a.Tiles<0) && decide (s.Temperature<=Lr s.Set a o.At o.Tile 4)))) (a.1) (a.2.1) (a.2.2)
def l08Can.row:Ay:=vK (b3 (qP 4 AG.d_le) (qP 1 Af.d_le) (qR AD.d_le)) rB (λa=>BO a.1.Set/\FB a.1.Set a.2.1) l08Can.fv
def l08Can.q:=AT (R:=l08Can.row) rfl
def l08Can.ok:A9 50 l08Can.row:=by
 refine vw (tC l01Point.ok (tC l02Index.ok (tC l03Index.ok (tC l06Binding.ok tN)))) Tryz.func50 ?_;intro a z;simp only[Tryz.f50];simp only[ZA,simprocAttr,Af.d,l08Can.fv,l01Point.q,l01Point.fv,l02Index.q,l02Index.fv,l03Index.q,l03Index.fv,l06Binding.q,l06Binding.fv];obtain⟨Q,O⟩:=z;cases e1:DY a.2.2.At
 .simp
 cases e2:AW a.2.2.Tile 0 (a.1.Set.Tiles.length - 1)
 .simp
 rw[Ak rfl,Ak rfl];refine⟨O.1,?_⟩
 split<;>rename_i h
 .refine⟨⟨Q,O,Z1 e1,?_⟩,by simp[h]⟩;simp only[AW,AL,B3] at e2;simp only[Fi];omega
 .simp[h]
def Lh(s:Az):Nat->List Am->Bool
 |_,[]=>true
 |i,g::r=>(I7 g.Name && (AW g.Strength 1 4 && decide (Bm (λx=>decide (x.Name=g.Name)) 0 s.Glues=i))) && Lh s (i+1) r
def Jx(s:Az):Nat->List Tile->Bool
 |_,[]=>true
 |i,x::r=>(I7 x.Name && (decide (x.Sides.length=4) && (decide (Bm (λy=>decide (y.Name=x.Name)) 0 s.Tiles=i) && x.Sides.all (λg=>AW g 0 s.Glues.length)))) && Jx s (i+1) r
def Eg(s:Az):Bool:=(decide (s.Glues.length<=200) && AW s.Tiles.length 1 160) && (Lh s 0 s.Glues && Jx s 0 s.Tiles)
def l03Within.fv(a:Af×Af):Bool:=(λa b=>a.Tiles.all (λx=>decide (Bj b x.At=x.Tile))) (a.1) (a.2)
def l03Within.row:Ay:=vK (b2 (qP 1 Af.d_le) (qP 1 Af.d_le)) rB (λa=>Cd none a.2.Tiles=true) l03Within.fv
def l03Within.q:=AT (R:=l03Within.row) rfl
def l03Within.ok:A9 48 l03Within.row:=by
 refine vw (tC l03At.ok tN) Tryz.func48 ?_;intro a O;simp only[Tryz.f48];simp only[ZA,simprocAttr,l03Within.fv];refine AU.old ⟨{k:Nat//k<=a.1.Tiles.length/\(a.1.Tiles.drop k).all (λx=>decide (Bj a.2 x.At=x.Tile))=a.1.Tiles.all (λx=>decide (Bj a.2 x.At=x.Tile))},λk=>⟨[(5,.im (.int .i64 k.1)),(4,.im (.bool false)),(0,.ptr 0 0),(1,.ptr 1 0)],[(0,(false,.view (Af.c a.1))),(1,(false,.view (Af.c a.2)))],2⟩,λk=>a.1.Tiles.length - k.1,λk=>⟨by simp[ZG],AN _⟩,⟨⟨0,by simp⟩,by simp only[ZA,simprocAttr,sub]⟩,λk=> ?_⟩;obtain⟨k,aa,z⟩:=k;simp only[ZA,simprocAttr,Af.d,l03At.q,l03At.fv,sub,AR];intro hn;refine⟨λQ=>⟨Q,λx hx=>⟨O,Q,λy hy=> ?_⟩⟩,λQ=> ?_⟩
 .rw[hx] at hy;obtain rfl:=A7 hy;rw[E9 hx,J8] at z;refine⟨λZ=> ?_,λZ=>F8 Q hn ⟨by omega,?_⟩⟩
  .rw[<-z];simp[Z]
  .rw[<-z];simp[Gi.1 Z]
 .rw[CG (by omega)] at z;exact z
def l02Ok.fv(a:Az):Bool:=(Eg) a
def l02Ok.row:Ay:=vK (b1 (qP 2 Az.d_le)) rB (λa=>True) l02Ok.fv
def l02Ok.q:=AT (R:=l02Ok.row) rfl
def l02Ok.ok:A9 76 l02Ok.row:=by
 refine vw (tC spec_IsName.ok (tC l00In.ok (tC l02Glue.ok (tC l02Tile.ok tN)))) Tryz.func76 ?_;intro a ac;simp only[Tryz.f76];simp only[ZA,simprocAttr,l02Ok.fv];intro hg;simp only[AR];refine⟨λc1 ht=>⟨λc2 _=>⟨λc3=> ?_,λc3=> ?_⟩,λc2=> ?_⟩,λc1=> ?_⟩
 .have: ¬(a.Tiles.length:Int)<=160:=by omega
  simp[Eg,AW,this]
 .have c0:Eg a=(Lh a 0 a.Glues && Jx a 0 a.Tiles):=by
   have e1:a.Glues.length<=200:=by omega
   have e2:(1:Int)<=a.Tiles.length:=by omega
   have e3:(a.Tiles.length:Int)<=160:=by omega
   simp[Eg,AW,e1,e2,e3]
  refine AU.old ⟨{k:Nat//k<=a.Glues.length/\Lh a k (a.Glues.drop k)=Lh a 0 a.Glues},λk=>⟨[(3,.im (.int .i64 k.1)),(2,.im (.bool false)),(0,.ptr 0 0)],[(0,(false,.view (Az.c a)))],1⟩,λk=>a.Glues.length - k.1,λk=>⟨by simp[ZG],AN _⟩,⟨⟨0,by simp⟩,by simp only[ZA,simprocAttr,sub]⟩,λk=> ?_⟩;obtain⟨k,ab,z⟩:=k;simp only[ZA,simprocAttr,spec_IsName.q,spec_IsName.fv,l00In.q,l00In.fv,l02Glue.q,l02Glue.fv,sub,AR];intro _;refine⟨λhk=>⟨hk,λx hx=> ?_⟩,λhk=> ?_⟩
  .rw[E9 hx,Lh] at z;have O:(I7 x.Name && (AW x.Strength 1 4 && decide (Bm (λg:Am=>decide (g.Name=x.Name)) 0 a.Glues=k)))=false->false=Eg a:=by
    intro h;rw[h,Fo] at z;rw[c0,<-z];rfl
   refine⟨λh1=>⟨λh2=>⟨λZ=> ?_,λZ=>F8 hk hg ⟨by omega,?_⟩⟩,λh2=>O (by simp[h2])⟩,λh1=>O (by simp[h1])⟩
   .rw[AC (by omega) (by omega)] at Z;exact O (by simp;intro _ _;omega)
   .rw[Gi,AC (by omega) (by omega)] at Z;have h4:Bm (λg:Am=>decide (g.Name=x.Name)) 0 a.Glues=k:=by omega
    rw[h1,h2,h4] at z;simpa using z
  .rw[CG (by omega),Lh] at z;have c9:Eg a=Jx a 0 a.Tiles:=by rw[c0,<-z,DB]
   refine AU.old ⟨{k:Nat//k<=a.Tiles.length/\Jx a k (a.Tiles.drop k)=Jx a 0 a.Tiles},λk=>⟨[(5,.im (.int .i64 k.1)),(2,.im (.bool false)),(0,.ptr 0 0)],[(0,(false,.view (Az.c a)))],1⟩,λk=>a.Tiles.length - k.1,λk=>⟨by simp[ZG],AN _⟩,⟨⟨0,by simp⟩,by simp only[ZA,simprocAttr,sub]⟩,λk=> ?_⟩;obtain⟨k,ab,z⟩:=k;simp only[ZA,simprocAttr,spec_IsName.q,spec_IsName.fv,l02Tile.q,l02Tile.fv,AR];intro _;refine⟨λhk=>⟨hk,λx hx=> ?_⟩,λhk=> ?_⟩
   .rw[E9 hx,Jx] at z;have O:(I7 x.Name && (decide (x.Sides.length=4) && (decide (Bm (λy:Tile=>decide (y.Name=x.Name)) 0 a.Tiles=k) && x.Sides.all (λg=>AW g 0 a.Glues.length))))=false->false=Eg a:=by
     intro h;rw[h,Fo] at z;rw[c9,<-z]
    refine⟨λh1 hs=>⟨λh2=>⟨λZ=>O (by simp[Z]),λZ=> ?_⟩,λh2=>O (by simp;intro _ h9;omega)⟩,λh1=>O (by simp[h1])⟩;rw[Gi] at Z;have aa:x.Sides.length=4:=by omega
    refine AU.old ⟨{j:Nat//j<=4/\(x.Sides.drop j).all (λg=>AW g 0 a.Glues.length)=x.Sides.all (λg=>AW g 0 a.Glues.length)},λj=>⟨[(7,.im (.int .i64 j.1)),(5,.im (.int .i64 k)),(6,.ptr 1 0),(2,.im (.bool false)),(0,.ptr 0 0)],[(1,(true,.cells 170 ((Tile.c x).map .im))),(0,(false,.view (Az.c a)))],2⟩,λj=>4 - j.1,λj=>⟨by simp[ZG,Tile.c],by simp⟩,⟨⟨0,by simp⟩,by simp only[ZA,simprocAttr,sub]⟩,λj=> ?_⟩;obtain⟨j,ad,Q⟩:=j;simp only[ZA,simprocAttr,l00In.q,l00In.fv,sub,AR];refine⟨λhj=>⟨by omega,λy hy=> ?_⟩,λhj=>F8 hk ht ⟨by omega,?_⟩⟩
    .rw[E9 hy,J8] at Q;refine⟨λh=>O ?_,λh=>⟨⟨j+1,by omega,?_⟩,by simp only;omega,?_⟩⟩
     .rw[h,Fo] at Q;rw[<-Q];simp
     .rw[Hq] at h;rw[h,DB] at Q;exact Q
     .rw[AC (by omega) (by omega)];simp only;omega
    .rw[CG (by omega)] at Q;rw[<-z,<-Q,h1,aa,Z];simp
   .rw[CG (by omega),Jx] at z;rw[c9,<-z]
 .have: ¬(1:Int)<=a.Tiles.length:=by omega
  simp[Eg,AW,this]
 .have: ¬a.Glues.length<=200:=by omega
  simp[Eg,this]
def VS1.fv(a:Int×Az):Bool:=(λg s=> !AW g 0 s.Glues.length) (a.1) (a.2)
def VS1.row:Ay:=vK (b2 qI (qP 2 Az.d_le)) rB (λa=>True) VS1.fv
def VS1.q:=AT (R:=VS1.row) rfl
def VS1.ok:A9 188 VS1.row:=by
 refine vw (tC within_.ok tN) Tryz.func188 ?_;intro a z;simp only[Tryz.f188];simp only[ZA,simprocAttr,VS1.fv,within_.q,within_.fv];intro _;trivial
def IdxVS.ar:List PK->Option ((List Int)×Az)
 |[.val (.sl _ _ Q),.val (.fn 188 [] [.ref z])]=>(AQ Cl Q).bind λZ=>(Az.d (z.take 2)).bind λO=>some (Z,O)
 |_=>none
def IdxVS.ae(a:(List Int)×Az):List PK:=[.val (.sl false 1 (a.1.map Aj)),.val (.fn 188 [] [.ref (Az.c a.2)])]
def IdxVS.le: ∀O a,IdxVS.ar O=some a->BE O (IdxVS.ae a):=by
 intro O a h;unfold IdxVS.ar at h;split at h
 .simp only[Ei,AI] at h;obtain⟨Z,h0,Q,z,rfl⟩:=h;exact⟨D2 (Dr DO _ _ h0) (by simp only[Bh];rintro r ⟨y,_,rfl⟩;rfl),NY ⟨NT (FM.trans_take (Az.d_le _ _ z)),trivial⟩,trivial⟩
 .cases h
def IdxVS.fv(a:(List Int)×Az):Int:=(λl s=>Bm (λg=> !AW g 0 s.Glues.length) 0 l) (a.1) (a.2)
def IdxVS.row:Ay:=Dj IdxVS.ar (λa=>True) (λa=>(D.int .i64) (IdxVS.fv a))
def IdxVS.q:=vq IdxVS.row rfl
def IdxVS.ok:A9 91 IdxVS.row:=by
 refine NI CF (tC VS1.ok tN) Tryz.func91 rfl (by kernel_rfl) (by kernel_rfl) (ar:=IdxVS.ar) (ae:=IdxVS.ae) IdxVS.le (n:=2) (λ_=>rfl) (by decide) (rc:=(D0)) (re:=(D.int .i64)) (Lg) (f:=IdxVS.fv) ?_;intro a Q;simp only[Tryz.f91];simp only[ZA,simprocAttr,IdxVS.ae,IdxVS.fv];intro hn;refine AU.old ⟨{k:Nat//k<=a.1.length/\Bm (λg:Int=> !AW g 0 a.2.Glues.length) k (a.1.drop k)=Bm (λg:Int=> !AW g 0 a.2.Glues.length) 0 a.1},λk=>⟨[(8,.im (.int .i64 k.1)),(7,.im (.int .i64 a.1.length)),(6,.im (.sl false 1 (a.1.map Aj))),(4,.im (.int .i64 0)),(0,.im (.sl false 1 (a.1.map Aj))),(1,.im (.fn 188 [] [.ref (Az.c a.2)]))],[],0⟩,λk=>a.1.length - k.1,λk=>⟨by simp[ZG],AN _⟩,⟨⟨0,by simp⟩,by simp only[ZA,simprocAttr,sub]⟩,λk=> ?_⟩;obtain⟨k,Z,z⟩:=k;simp only[ZA,simprocAttr,VS1.q,VS1.fv,sub,AR];refine⟨λO=>⟨O,λx hx=> ?_⟩,λO=> ?_⟩
 .rw[E9 hx,Bm] at z;refine⟨λh=> ?_,λh=>F8 O hn ⟨by omega,by rw[<-z,Ad (by simpa using h)]⟩⟩;rw[Ak (by simpa using h)] at z;exact z
 .rw[CG (by omega),Bm] at z;exact z
def ContVS.ar:List PK->Option ((List Int)×Az)
 |[.val (.sl _ _ Q),.val (.fn 188 [] [.ref z])]=>(AQ Cl Q).bind λZ=>(Az.d (z.take 2)).bind λO=>some (Z,O)
 |_=>none
def ContVS.ae(a:(List Int)×Az):List PK:=[.val (.sl false 1 (a.1.map Aj)),.val (.fn 188 [] [.ref (Az.c a.2)])]
def ContVS.le: ∀O a,ContVS.ar O=some a->BE O (ContVS.ae a):=by
 intro O a h;unfold ContVS.ar at h;split at h
 .simp only[Ei,AI] at h;obtain⟨Z,h0,Q,z,rfl⟩:=h;exact⟨D2 (Dr DO _ _ h0) (by simp only[Bh];rintro r ⟨y,_,rfl⟩;rfl),NY ⟨NT (FM.trans_take (Az.d_le _ _ z)),trivial⟩,trivial⟩
 .cases h
def ContVS.fv(a:(List Int)×Az):Bool:=(λl s=>l.any (λg=> !AW g 0 s.Glues.length)) (a.1) (a.2)
def ContVS.row:Ay:=Dj ContVS.ar (λa=>True) (λa=>(D.bool) (ContVS.fv a))
def ContVS.q:=vq ContVS.row rfl
def ContVS.ok:A9 55 ContVS.row:=by
 refine NI CF (tC IdxVS.ok tN) Tryz.func55 rfl (by kernel_rfl) (by kernel_rfl) (ar:=ContVS.ar) (ae:=ContVS.ae) ContVS.le (n:=2) (λ_=>rfl) (by decide) (rc:=(PO)) (re:=(D.bool)) (Ze) (f:=ContVS.fv) ?_;intro a z;simp only[Tryz.f55];simp only[ZA,simprocAttr,ContVS.ae,ContVS.fv,IdxVS.q,IdxVS.ar,IdxVS.fv];exact uK _ _
def NU(z:List ByteArray):List (D×D):=z.map λn=>(.str n,.bool true)
def wC(n m:ByteArray):(n==m)=decide (n=m):=by
 rw[Qpj]
def Mp(n:ByteArray): ∀(z:List ByteArray),(n∈z->lk (NU z) (.str n)=some (.bool true))/\(n∉z->lk (NU z) (.str n)=none)
 |[]=>⟨λh=>by simp at h,λ_=>rfl⟩
 |m::r=>by
  obtain⟨O,Q⟩:=Mp n r;simp only[NU] at O Q;simp only[NU,Bg,lk,D.beq,Be,wC];by_cases h:n=m
  .simp[h]
  .simp only[h,Zff,Bq,false_or];exact⟨O,Q⟩
def Qum(n:ByteArray)(O:List ByteArray)(Ks:D->Prop)(Kn:Prop):FW (NU O) (.str n) Ks Kn=((n∈O->Ks (.bool true))/\(n∉O->Kn)):=by
 obtain⟨i1,i2⟩:=Mp n O;apply propext;unfold FW;constructor
 .rintro⟨Q,Z⟩;exact⟨λh=>Q _ (i1 h),λh=>Z (i2 h)⟩
 .rintro⟨Q,Z⟩;by_cases h:n∈O
  .refine⟨λv z=> ?_,λz=> ?_⟩
   .rw[i1 h] at z;exact A7 z▸Q h
   .rw[i1 h] at z;cases z
  .refine⟨λv z=> ?_,λ_=>Z h⟩;rw[i2 h] at z;cases z
def Qru(n:ByteArray): ∀(z:List ByteArray),n∉z->Gy (NU z) (.str n) (.bool true)=NU (z++[n])
 |[],_=>rfl
 |m::r,h=>by
  simp only[Be,ZX] at h
  have:=Qru n r h.2
  simp only[NU] at this;simp only[NU,Bg,Gy,D.beq,wC,h.1,Zff,Bq,De,this]
def nU{A:Type}(f:A->ByteArray)(l:List A)(k:Nat)(x:A)(hx:l[k]? =some x):Bm (λy=>decide (f y=f x)) 0 l=(k:Int)↔f x∉(l.take k).map f:=by
 constructor
 .intro h hm;obtain⟨y,hy,Q⟩:=Bh.1 hm;obtain⟨i,Z,ab⟩:=fO.1 hy;have ac:i<k:=by simp at Z;omega
  have aa:l[i]? =some y:=by
   rw[<-ab,List.getElem_take];exact Bk _
  have O: ∀(l:List A) (o i:Nat) (y:A),l[i]? =some y->(decide (f y=f x))=true->Bm (λy=>decide (f y=f x)) o l<=((o+i:Nat):Int):=by
   intro l;induction l with
   |nil=>intro o i y h;simp at h
   |cons z r ih=>
    intro o i y h hp;simp only[Bm];split
    .omega
    .rename_i hz;cases i with
     |zero=>
      simp only[Ho,AI] at h;subst h;exact absurd hp hz
     |succ i=>
      have:=ih (o+1) i y (by simpa using h) hp
      omega
  have:=O l 0 i y aa (by simpa using Q)
  omega
 .intro h;rw[Qtf _ l 0 k x hx (by simp) ?_]
  .simp
  .intro i y Z hy;simp only[Lw];intro Q;apply h;rw[<-Q];refine Bh.2 ⟨y,?_,rfl⟩;exact Ba (i:=i) (by rw[Xa,Ak Z];exact hy)
def QQ(s:Az):Prop:=(∀g∈s.Glues,g.Name.size<=140737488355328)/\ ∀t∈s.Tiles,t.Name.size<=140737488355328
def ValidSet_.fv(a:Az):Bool:=(Eg) a
def ValidSet_.row:Ay:=vK (b1 (qR Az.d_le)) rB (λa=>QQ a) ValidSet_.fv
def ValidSet_.q:=AT (R:=ValidSet_.row) rfl
def ValidSet_.ok:A9 163 ValidSet_.row:=by
 refine vw (tC within_.ok (tC impl_IsName.ok (tC ContVS.ok tN))) Tryz.func163 ?_;intro a ab;simp only[Tryz.f163];simp only[ZA,simprocAttr,ValidSet_.fv,within_.q,within_.fv];obtain⟨ad,af⟩:=ab;intro hg;simp only[AR];refine⟨λc1 ht=>⟨λc2=> ?_,λc2 _=> ?_⟩,λc1=> ?_⟩
 .simp[Eg,c2]
 .rw[Hq] at c2;have c0:Eg a=(Lh a 0 a.Glues && Jx a 0 a.Tiles):=by
   have e1:a.Glues.length<=200:=by omega
   simp[Eg,e1,c2]
  refine AU.old ⟨{k:Nat//k<=a.Glues.length/\Lh a k (a.Glues.drop k)=Lh a 0 a.Glues},λk=>⟨[(24,.im (.int .i64 k.1)),(23,.im (.int .i64 a.Glues.length)),(22,.im (.sl false 2 (a.Glues.map Am.c))),(3,.mp 1),(1,.ptr 0 0),(2,.im (.bool false))],[(1,(true,.map ⟨false,[.str]⟩ (NU ((a.Glues.take k.1).map Am.Name)))),(0,(true,.cells 44 ((Az.c a).map .im)))],2⟩,λk=>a.Glues.length - k.1,λk=>⟨by simp[ZG,Az.c],AN _⟩,⟨⟨0,by simp⟩,by simp only[ZA,simprocAttr,sub,NU]⟩,λk=> ?_⟩;obtain⟨k,ac,z⟩:=k;simp only[ZA,simprocAttr,within_.q,within_.fv,impl_IsName.q,impl_IsName.fv,sub,AR,Qum];refine⟨λhk=>⟨hk,λx Z=>⟨ad x (Ba Z),?_⟩⟩,λhk _=> ?_⟩
  .rw[E9 Z,Lh] at z;have hu:=nU Am.Name a.Glues k x Z;have O:(I7 x.Name && (AW x.Strength 1 4 && decide (Bm (λg:Am=>decide (g.Name=x.Name)) 0 a.Glues=k)))=false->false=Eg a:=by
    intro h;rw[h,Fo] at z;rw[c0,<-z];rfl
   refine⟨λh1=>⟨λQ=>O ?_,λQ=>⟨λh3=>O (by simp[h3]),λh3=>⟨⟨k+1,by omega,?_⟩,by simp only;omega,?_,?_⟩⟩⟩,λh1=>O (by simp[h1])⟩
   .simp only[Zed,Lw];exact .inr (.inr λh9=>(hu.1 h9) Q)
   .rw[Hq] at h3;rw[h1,h3,hu.2 Q] at z;simpa using z
   .rw[AC (by omega) (by omega)];simp only;omega
   .rw[Qru _ _ Q,Ib,Z];simp
  .rw[CG (by omega),Lh] at z;have c9:Eg a=Jx a 0 a.Tiles:=by rw[c0,<-z,DB]
   refine AU.frz [0] ⟨{k:Nat//k<=a.Tiles.length/\Jx a k (a.Tiles.drop k)=Jx a 0 a.Tiles},λk=>⟨[(52,.im (.int .i64 k.1)),(51,.im (.int .i64 a.Tiles.length)),(50,.im (.sl false 2 (a.Tiles.map Tile.c))),(6,.mp 2),(1,.ptr 0 0),(2,.im (.bool false))],[(2,(true,.map ⟨false,[.str]⟩ (NU ((a.Tiles.take k.1).map Tile.Name)))),(0,(false,.cells 44 ((Az.c a).map .im)))],3⟩,λk=>a.Tiles.length - k.1,λk=>⟨by simp[ZG,Az.c],AN _⟩,⟨⟨0,by simp⟩,by simp only[ZA,simprocAttr,sub,NU]⟩,λk=> ?_⟩;obtain⟨k,ac,z⟩:=k;simp only[ZA,simprocAttr,impl_IsName.q,impl_IsName.fv,ContVS.q,ContVS.ar,ContVS.fv,sub,AR,Qum];refine⟨λhk=>⟨hk,λx Z=>⟨af x (Ba Z),?_⟩⟩,λhk=> ?_⟩
   .rw[E9 Z,Jx] at z;have hu:=nU Tile.Name a.Tiles k x Z;have O:(I7 x.Name && (decide (x.Sides.length=4) && (decide (Bm (λy:Tile=>decide (y.Name=x.Name)) 0 a.Tiles=k) && x.Sides.all (λg=>AW g 0 a.Glues.length))))=false->false=Eg a:=by
     intro h;rw[h,Fo] at z;rw[c9,<-z]
    have aa:(x.Sides.any λg=> !AW g 0 a.Glues.length)= !x.Sides.all (λg=>AW g 0 a.Glues.length):=by
     simp[List.not_all_eq_any_not]
    rw[aa];refine⟨λh1=>⟨λQ=>O ?_,λQ _=>⟨λh3=>O ?_,λh3=>⟨λh4=>O ?_,λh4=>⟨⟨k+1,by omega,?_⟩,by simp only;omega,?_,?_⟩⟩⟩⟩,λh1=>O (by simp[h1])⟩
    .simp only[Zed,Lw];exact .inr (.inr (.inl λh9=>(hu.1 h9) Q))
    .have: ¬x.Sides.length=4:=by omega
     simp[this]
    .simp only[Qk] at h4;simp only[h4,gG]
    .have h5:x.Sides.length=4:=by omega
     simp only[Qk,Hq] at h4;rw[h1,h5,hu.2 Q,h4] at z;simpa using z
    .rw[AC (by omega) (by omega)];simp only;omega
    .rw[Qru _ _ Q,Ib,Z];simp
   .rw[CG (by omega),Jx] at z;rw[c9,<-z]
 .have: ¬a.Glues.length<=200:=by omega
  simp[Eg,this]
def E8(s:Az)(a:Af):Bool:=(Cd none a.Tiles && decide (a.Tiles.length<=500)) && a.Tiles.all (λx=>AW x.Tile 0 (s.Tiles.length - 1))
def ValidAssembly_.fv(a:Az×Af):Bool:=(λs a=>Eg s && E8 s a) (a.1) (a.2)
def ValidAssembly_.row:Ay:=vK (b2 (qR Az.d_le) (qR Af.d_le)) rB (λa=>QQ a.1) ValidAssembly_.fv
def ValidAssembly_.q:=AT (R:=ValidAssembly_.row) rfl
def ValidAssembly_.ok:A9 130 ValidAssembly_.row:=by
 refine vw (tC ValidSet_.ok (tC hasForm_.ok (tC ContVA.ok tN))) Tryz.func130 ?_;intro a z;simp only[Tryz.f130];simp only[ZA,simprocAttr,Af.d,ValidAssembly_.fv,ValidSet_.q,ValidSet_.fv,hasForm_.q,hasForm_.fv,ContVA.q,ContVA.ar,ContVA.fv];refine⟨z,?_⟩
 split<;>rename_i Q
 .split<;>rename_i O
  .simp[Q,E8,O.1,O.2,ZeL]
  .have Z:(Cd none a.2.Tiles && decide (a.2.Tiles.length<=500))=false:=by
    rw[Oh];intro h;simp only[AL,B3] at h;exact O h
   simp[E8,Z]
 .simp[Q]
def comparePlaced.fv(a:Ah×Ab):Int:=(λa p=>PV [Fq a.At.Y p.Y,Fq a.At.X p.X]) (a.1) (a.2)
def comparePlaced.row:Ay:=vK (b2 (qR Ah.d_le) (qR Ab.d_le)) rI (λa=>True) comparePlaced.fv
def comparePlaced.q:=AT (R:=comparePlaced.row) rfl
def comparePlaced.ok:A9 63 comparePlaced.row:=by
 refine vw (tC comparePoints.ok tN) Tryz.func63 ?_;intro a z;simp only[Tryz.f63];simp only[ZA,simprocAttr,comparePlaced.fv,comparePoints.q,comparePoints.fv]
def EQ(l:List Ah)(p:Ab):Nat:=(l.takeWhile (λx=>Bl x.At p)).length
def Qyx(p:Ab): ∀(l:List Ah) (lo:Nat),lo<=l.length->(∀(i:Nat) (x:Ah),i<lo->l[i]? =some x->Bl x.At p=true)->(∀(i:Nat) (x:Ah),lo<=i->l[i]? =some x->Bl x.At p=false)->EQ l p=lo
 |[],lo,h,_,_=>by simp at h;simp[EQ,h]
 |x::r,0,_,_,h=>by
  have:=h 0 x (by omega) (by simp)
  simp[EQ,this]
 |x::r,lo+1,hl,O,Z=>by
  have h3:=O 0 x (by omega) (by simp);have Q:=Qyx p r lo (by simpa using hl) (λi y hi z=>O (i+1) y (by omega) (by simpa using z)) (λi y hi z=>Z (i+1) y (by omega) (by simpa using z));simp only[EQ] at Q;simp[EQ,h3,Q]
def R9(a b:Ab):(PV [Fq a.Y b.Y,Fq a.X b.X]<0)↔Bl a b=true:=by
 simp only[Bl,PV,Fq]
 grind
def gV(a b:Ab):(PV [Fq a.Y b.Y,Fq a.X b.X]=0)↔a=b:=by
 obtain⟨x,y⟩:=a;obtain⟨z,w⟩:=b;simp only[PV,Fq,Ab.mk.injEq]
 grind
def midU(lo z:Nat)(h:lo+z<=562949953421312):IntKind.wrap .i64 ((IntKind.wrap .u64 (IntKind.wrap .i64 ((lo:Int)+z))).fdiv (2^min 1 IntKind.u64.bits))=(((lo+z)/2:Nat):Int):=by
 rw[AC (x:=(lo:Int)+z) (by omega) (by omega)];have O:IntKind.wrap .u64 ((lo:Int)+z)=(lo:Int)+z:=by
  simp only[IntKind.wrap,IntKind.signed,IntKind.bits];simp;omega
 have Q:(2:Int)^min 1 IntKind.u64.bits=2:=by decide
 rw[O,Q,Zeq _ (by omega),AC (by omega) (by omega)];omega
def BinP.ar:List PK->Option ((List Ah)×Ab×Unit)
 |[.val (.sl _ _ z),.val (.agg O),.val (.fn 63 [] [])]=>(AQ Ah.d z).bind λQ=>(Ab.d O).bind λZ=>some (Q,Z,())
 |_=>none
def BinP.ae(a:(List Ah)×Ab×Unit):List PK:=[.val (.sl false 3 (a.1.map Ah.c)),.val (.agg (Ab.c a.2.1)),.val (.fn 63 [] [])]
def BinP.le: ∀z a,BinP.ar z=some a->BE z (BinP.ae a):=by
 intro z a h;unfold BinP.ar at h;split at h
 .simp only[Ei,AI] at h;obtain⟨Q,h0,Z,O,rfl⟩:=h;exact⟨D2 (Dr Ah.d_le _ _ h0) (by simp only[Bh];rintro r ⟨y,_,rfl⟩;rfl),Zf (Ab.d_le _ _ O),Cr.refl _,trivial⟩
 .cases h
def BinP.fv(a:(List Ah)×Ab×Unit):Int×Bool:=(λl p _=>((EQ l p:Int),l.any (λx=>decide (x.At=p)))) (a.1) (a.2.1) (a.2.2)
def BinP.row:Ay:=Dj BinP.ar (λa=>Cd none a.1=true) (λa=>(λb=>D.tup [(D.int .i64) (b.1),(D.bool) (b.2)]) (BinP.fv a))
def BinP.q:=vq BinP.row rfl
def BinP.ok:A9 62 BinP.row:=by
 refine NI CF (tC comparePlaced.ok tN) Tryz.func62 rfl (by kernel_rfl) (by kernel_rfl) (ar:=BinP.ar) (ae:=BinP.ae) BinP.le (n:=3) (λ_=>rfl) (by decide) (rc:=(kW (D0) (PO))) (re:=(λb=>D.tup [(D.int .i64) (b.1),(D.bool) (b.2)])) (Qbz (Lg) (Ze)) (f:=BinP.fv) ?_;intro a af;simp only[Tryz.f62];simp only[ZA,simprocAttr,BinP.ae,BinP.fv];intro hn;refine AU.old ⟨{p:Nat×Nat//p.1<=p.2/\p.2<=a.1.length/\(∀i x,i<p.1->a.1[i]? =some x->Bl x.At a.2.1=true)/\(∀i x,p.2<=i->a.1[i]? =some x->Bl x.At a.2.1=false)},λp=>⟨[(9,.im (.int .i64 p.1.1)),(10,.im (.int .i64 p.1.2)),(8,.im (.int .i64 a.1.length)),(6,.im (.int .i64 0)),(7,.im (.bool false)),(4,.ptr 0 0),(0,.im (.sl false 3 (a.1.map Ah.c))),(2,.im (.fn 63 [] []))],[(0,(true,.cells 70 [.im (.int .i64 a.2.1.X),.im (.int .i64 a.2.1.Y)]))],1⟩,λp=>p.1.2 - p.1.1,λp=>⟨by simp[ZG],AN _⟩,⟨⟨(0,a.1.length),by simp,by simp,by simp,?_⟩,by simp only[ZA,simprocAttr,sub]⟩,λp=> ?_⟩
 .intro i x hi Z
  have:=(Cx.1 Z).1
  simp only at hi;omega
 obtain⟨⟨lo,hi⟩,h1,h2,h3,h4⟩:=p;simp only at h1 h2 h3 h4;simp only[ZA,simprocAttr,comparePlaced.q,comparePlaced.fv,sub,AR];obtain⟨_,Q⟩:=dN _ _ af;have ad: ∀(i:Nat) (x:Ah),i<lo->a.1[i]? =some x->x.At≠a.2.1:=by
  intro i x hi Z he
  have:=h3 i x hi Z
  rw[he,lN] at this;cases this
 rw[midU lo hi (by omega)];simp only[R9,gV];refine⟨λag=> ?_,λag=>⟨λhl=>⟨hl,λx Z=> ?_⟩,λhl=> ?_⟩⟩
 .refine⟨by omega,by omega,λx Z=>⟨λhb=> ?_,λhb=> ?_⟩⟩
  .rw[B5] at Z;refine⟨⟨((lo+hi)/2+1,hi),by simp only;omega,h2,λi y O hy=> ?_,h4⟩,by simp only;omega,?_,rfl⟩
   .simp only at O;rcases EI i ((lo+hi)/2) with h|h
    .exact dR (Q i _ y x h hy Z) hb
    .have:i=(lo+hi)/2:=by omega
     subst this;rw[Z] at hy;exact A7 hy▸hb
   .rw[AC (by omega) (by omega)];simp only;omega
  .rw[B5] at Z;refine⟨⟨(lo,(lo+hi)/2),by simp only;omega,by simp only;omega,h3,λi y O hy=> ?_⟩,by simp only;omega,rfl,rfl⟩;simp only at O;rcases EI ((lo+hi)/2) i with h|h
   .cases hl:Bl y.At a.2.1 with
    |false=>rfl
    |true=>exact absurd (dR (Q _ i x y h Z hy) hl) hb
   .have:i=(lo+hi)/2:=by omega
    subst this;rw[Z] at hy;obtain rfl:=A7 hy;simpa using hb
 .have aa:=Qyx a.2.1 a.1 lo (by omega) h3 (λi y O hy=>h4 i y (by omega) hy);refine⟨by rw[aa],?_⟩;rw[WW];simp only[B3,ZeO];refine⟨λhe=>⟨x,Ba Z,he⟩,?_⟩;rintro⟨y,hy,he⟩;obtain⟨i,O,ac⟩:=fO.1 hy;have z:a.1[i]? =some y:=by rw[Bk O,ac]
  rcases vI i lo with h|h|h
  .exact absurd he (ad i y h z)
  .subst h;rw[Z] at z;exact A7 z▸he
  .have ab:=Q lo i x y h Z z;rw[he] at ab
   have:=h4 lo x (by omega) Z
   rw[this] at ab;cases ab
 .have aa:=Qyx a.2.1 a.1 lo (by omega) h3 (λi y O hy=>h4 i y (by omega) hy);refine⟨by rw[aa],?_⟩;symm;simp only[List.any_eq_false,B3];intro y hy he;obtain⟨i,O,ac⟩:=fO.1 hy;have z:a.1[i]? =some y:=by rw[Bk O,ac]
  exact ad i y (by omega) z he
def Ov{l:List Ah}{p:Ab}(h:Cd none l=true){i:Nat}{x:Ah}(Q:l[i]? =some x)(Z:x.At=p):EQ l p=i:=by
 obtain⟨_,z⟩:=dN _ _ h;have hi:=(Cx.1 Q).1;refine Qyx p l i (by omega) (λj y hj O=> ?_) (λj y hj O=> ?_)
 .have:=z j i y x hj O Q
  rwa [Z] at this
 .rcases EI i j with h1|h1
  .have h2:=z i j x y h1 Q O;rw[Z] at h2;cases h3:Bl y.At p with
   |false=>rfl
   |true=>
    have:=dR h2 h3
    rw[lN] at this;cases this
  .have:j=i:=by omega
   subst this;rw[Q] at O;obtain rfl:=A7 O;rw[Z,lN]
def Qz4{l:List Ah}{p:Ab}(h:Cd none l=true):(l.any (λx=>decide (x.At=p))=true/\ ∃x,l[EQ l p]? =some x/\x.At=p/\l.find? (λx=>decide (x.At=p))=some x/\Bm (λx=>decide (x.At=p)) 0 l=(EQ l p:Int))\/
 (l.any (λx=>decide (x.At=p))=false/\l.find? (λx=>decide (x.At=p))=none/\Bm (λx=>decide (x.At=p)) 0 l= -1):=by
 rcases W4 (λx=>decide (x.At=p)) l 0 with ⟨z,O⟩|⟨i,x,z,O,Q⟩
 .refine .inr ⟨?_,z,O⟩;simpa[ZO] using z
 .have Z:x.At=p:=by simpa using Ql z
  have hb:=Ov h Q Z;refine .inl ⟨?_,x,by rw[hb];exact Q,Z,z,by rw[O,hb,Gg]⟩;simp only[ZeO,B3];exact⟨x,Ba Q,Z⟩
def at_.fv(a:Af×Ab):Int:=(Bj) (a.1) (a.2)
def at_.row:Ay:=vK (b2 (qR Af.d_le) (qR Ab.d_le)) rI (λa=>Cd none a.1.Tiles=true) at_.fv
def at_.q:=AT (R:=at_.row) rfl
def at_.ok:A9 104 at_.row:=by
 refine vw (tC BinP.ok tN) Tryz.func104 ?_;intro a z;simp only[Tryz.f104];simp only[ZA,simprocAttr,at_.fv,BinP.q,BinP.ar,BinP.fv];refine⟨z,?_⟩;rcases Qz4 (p:=a.2) z with ⟨Q,x,O,h3,h4,h5⟩|⟨Q,O,h3⟩
 .rw[Ak Q];refine⟨(Cx.1 O).1,λy Z=> ?_⟩;rw[O] at Z;obtain rfl:=A7 Z;simp[Bj,h4]
 .rw[Q,Ad (by simp)];simp[Bj,O]
def placeAt.rc:D->Option (Int):=D0
def placeAt.re:Int->D:=D.int .i64
def placeAt.rle: ∀d b,placeAt.rc d=some b->Le d (placeAt.re b):=Lg
def placeAt.fv(a:Af×Ab):Int:=(λa p=>Bm (λx=>decide (x.At=p)) 0 a.Tiles) (a.1) (a.2)
def placeAt.row:Ay:=vK (b2 (qR Af.d_le) (qR Ab.d_le)) (RK.mk placeAt.rc placeAt.re placeAt.rle) (λa=>Cd none a.1.Tiles=true) placeAt.fv
def placeAt.q:=AT (R:=placeAt.row) rfl
def placeAt.ok:A9 213 placeAt.row:=by
 refine vw (tC BinP.ok tN) Tryz.func213 ?_;intro a z;simp only[Tryz.f213];simp only[ZA,simprocAttr,placeAt.fv,placeAt.rc,BinP.q,BinP.ar,BinP.fv];refine⟨z,?_⟩;rcases Qz4 (p:=a.2) z with ⟨O,x,Z,Q,h4,h5⟩|⟨O,Z,Q⟩
 .rw[Ak O,h5]
 .rw[O,Ad (by simp),Q]
def mF(b:Af)(x:Ah):Bool:= !decide (Bj b x.At=x.Tile)
def IW1.fv(a:Ah×Af):Bool:=(λx b=>mF b x) (a.1) (a.2)
def IW1.row:Ay:=vK (b2 (qR Ah.d_le) (qP 1 Af.d_le)) rB (λa=>Cd none a.2.Tiles=true) IW1.fv
def IW1.q:=AT (R:=IW1.row) rfl
def IW1.ok:A9 144 IW1.row:=by
 refine vw (tC at_.ok tN) Tryz.func144 ?_;intro a z;simp only[Tryz.f144];simp only[ZA,simprocAttr,Af.d,IW1.fv,at_.q,at_.fv];exact⟨z,rfl⟩
def IdxIW.ar:List PK->Option ((List Ah)×Af)
 |[.val (.sl _ _ Q),.val (.fn 144 [] [.ref z])]=>(AQ Ah.d Q).bind λZ=>(Af.d (z.take 1)).bind λO=>some (Z,O)
 |_=>none
def IdxIW.ae(a:(List Ah)×Af):List PK:=[.val (.sl false 3 (a.1.map Ah.c)),.val (.fn 144 [] [.ref (Af.c a.2)])]
def IdxIW.le: ∀O a,IdxIW.ar O=some a->BE O (IdxIW.ae a):=by
 intro O a h;unfold IdxIW.ar at h;split at h
 .simp only[Ei,AI] at h;obtain⟨Z,h0,Q,z,rfl⟩:=h;exact⟨D2 (Dr Ah.d_le _ _ h0) (by simp only[Bh];rintro r ⟨y,_,rfl⟩;rfl),NY ⟨NT (FM.trans_take (Af.d_le _ _ z)),trivial⟩,trivial⟩
 .cases h
def IdxIW.fv(a:(List Ah)×Af):Int:=(λl b=>Bm (mF b) 0 l) (a.1) (a.2)
def IdxIW.row:Ay:=Dj IdxIW.ar (λa=>Cd none a.2.Tiles=true) (λa=>(D.int .i64) (IdxIW.fv a))
def IdxIW.q:=vq IdxIW.row rfl
def IdxIW.ok:A9 102 IdxIW.row:=by
 refine NI CF (tC IW1.ok tN) Tryz.func102 rfl (by kernel_rfl) (by kernel_rfl) (ar:=IdxIW.ar) (ae:=IdxIW.ae) IdxIW.le (n:=2) (λ_=>rfl) (by decide) (rc:=(D0)) (re:=(D.int .i64)) (Lg) (f:=IdxIW.fv) ?_;intro a O;simp only[Tryz.f102];simp only[ZA,simprocAttr,IdxIW.ae,IdxIW.fv];intro hn;refine AU.old ⟨{k:Nat//k<=a.1.length/\Bm (mF a.2) k (a.1.drop k)=Bm (mF a.2) 0 a.1},λk=>⟨[(8,.im (.int .i64 k.1)),(7,.im (.int .i64 a.1.length)),(6,.im (.sl false 3 (a.1.map Ah.c))),(4,.im (.int .i64 0)),(0,.im (.sl false 3 (a.1.map Ah.c))),(1,.im (.fn 144 [] [.ref (Af.c a.2)]))],[],0⟩,λk=>a.1.length - k.1,λk=>⟨by simp[ZG],AN _⟩,⟨⟨0,by simp⟩,by simp only[ZA,simprocAttr,sub]⟩,λk=> ?_⟩;obtain⟨k,Z,z⟩:=k;simp only[ZA,simprocAttr,Af.d,IW1.q,IW1.fv,sub,AR];refine⟨λQ=>⟨Q,λx hx=> ?_⟩,λQ=> ?_⟩
 .rw[E9 hx,Bm] at z;refine⟨O,λh=> ?_,λh=>F8 Q hn ⟨by omega,by rw[<-z,Ad (by simpa using h)]⟩⟩;rw[Ak (by simpa using h)] at z;exact z
 .rw[CG (by omega),Bm] at z;exact z
def ContIW.ar:List PK->Option ((List Ah)×Af)
 |[.val (.sl _ _ Q),.val (.fn 144 [] [.ref z])]=>(AQ Ah.d Q).bind λZ=>(Af.d (z.take 1)).bind λO=>some (Z,O)
 |_=>none
def ContIW.ae(a:(List Ah)×Af):List PK:=[.val (.sl false 3 (a.1.map Ah.c)),.val (.fn 144 [] [.ref (Af.c a.2)])]
def ContIW.le: ∀O a,ContIW.ar O=some a->BE O (ContIW.ae a):=by
 intro O a h;unfold ContIW.ar at h;split at h
 .simp only[Ei,AI] at h;obtain⟨Z,h0,Q,z,rfl⟩:=h;exact⟨D2 (Dr Ah.d_le _ _ h0) (by simp only[Bh];rintro r ⟨y,_,rfl⟩;rfl),NY ⟨NT (FM.trans_take (Af.d_le _ _ z)),trivial⟩,trivial⟩
 .cases h
def ContIW.fv(a:(List Ah)×Af):Bool:=(λl b=>l.any (mF b)) (a.1) (a.2)
def ContIW.row:Ay:=Dj ContIW.ar (λa=>Cd none a.2.Tiles=true) (λa=>(D.bool) (ContIW.fv a))
def ContIW.q:=vq ContIW.row rfl
def ContIW.ok:A9 143 ContIW.row:=by
 refine NI CF (tC IdxIW.ok tN) Tryz.func143 rfl (by kernel_rfl) (by kernel_rfl) (ar:=ContIW.ar) (ae:=ContIW.ae) ContIW.le (n:=2) (λ_=>rfl) (by decide) (rc:=(PO)) (re:=(D.bool)) (Ze) (f:=ContIW.fv) ?_;intro a z;simp only[Tryz.f143];simp only[ZA,simprocAttr,Af.d,ContIW.ae,ContIW.fv,IdxIW.q,IdxIW.ar,IdxIW.fv];exact⟨z,uK _ _⟩
def QT(a b:Af):Bool:=(Cd none a.Tiles && decide (a.Tiles.length<=500)) && ((Cd none b.Tiles && decide (b.Tiles.length<=500)) && a.Tiles.all (λx=>decide (Bj b x.At=x.Tile)))
def IsWithin_.fv(a:Af×Af):Bool:=(QT) (a.1) (a.2)
def IsWithin_.row:Ay:=vK (b2 (qR Af.d_le) (qR Af.d_le)) rB (λa=>True) IsWithin_.fv
def IsWithin_.q:=AT (R:=IsWithin_.row) rfl
def IsWithin_.ok:A9 101 IsWithin_.row:=by
 refine vw (tC hasForm_.ok (tC ContIW.ok tN)) Tryz.func101 ?_;intro a Q;simp only[Tryz.f101];simp only[ZA,simprocAttr,Af.d,IsWithin_.fv,hasForm_.q,hasForm_.fv,ContIW.q,ContIW.ar,ContIW.fv];have hf: ∀x:Af,¬(Cd none x.Tiles=true/\x.Tiles.length<=500)->(Cd none x.Tiles && decide (x.Tiles.length<=500))=false:=by
  intro x Z;rw[Oh];intro h;simp only[AL,B3] at h;exact Z h
 split<;>rename_i O
 .split<;>rename_i z
  .refine⟨z.1,?_⟩
   have:(mF a.2)=λx=> !decide (Bj a.2 x.At=x.Tile):=rfl
   simp[QT,O.1,O.2,z.1,z.2,this,ZeL]
  .simp only[QT,hf _ z,Fo,gG]
 .simp only[QT,hf _ O,Fo]
def eX(s:AF)(g:Int):Bool:= !AW g (-1) (s.Small.Set.Tiles.length - 1)
def VM1.fv(a:Int×AF):Bool:=(λg s=>eX s g) (a.1) (a.2)
def VM1.row:Ay:=vK (b2 qI (qP 10 AF.d_le)) rB (λa=>True) VM1.fv
def VM1.q:=AT (R:=VM1.row) rfl
def VM1.ok:A9 56 VM1.row:=by
 refine vw (tC within_.ok tN) Tryz.func56 ?_;intro a z;simp only[Tryz.f56];simp only[ZA,simprocAttr,VM1.fv,within_.q,within_.fv];intro h;rw[AC (by omega) (by omega)];rfl
def IdxVM.ar:List PK->Option ((List Int)×AF)
 |[.val (.sl _ _ Q),.val (.fn 56 [] [.ref z])]=>(AQ Cl Q).bind λZ=>(AF.d (z.take 10)).bind λO=>some (Z,O)
 |_=>none
def IdxVM.ae(a:(List Int)×AF):List PK:=[.val (.sl false 1 (a.1.map Aj)),.val (.fn 56 [] [.ref (AF.c a.2)])]
def IdxVM.le: ∀O a,IdxVM.ar O=some a->BE O (IdxVM.ae a):=by
 intro O a h;unfold IdxVM.ar at h;split at h
 .simp only[Ei,AI] at h;obtain⟨Z,h0,Q,z,rfl⟩:=h;exact⟨D2 (Dr DO _ _ h0) (by simp only[Bh];rintro r ⟨y,_,rfl⟩;rfl),NY ⟨NT (FM.trans_take (AF.d_le _ _ z)),trivial⟩,trivial⟩
 .cases h
def IdxVM.fv(a:(List Int)×AF):Int:=(λl s=>Bm (eX s) 0 l) (a.1) (a.2)
def IdxVM.row:Ay:=Dj IdxVM.ar (λa=>True) (λa=>(D.int .i64) (IdxVM.fv a))
def IdxVM.q:=vq IdxVM.row rfl
def IdxVM.ok:A9 91 IdxVM.row:=by
 refine NI CF (tC VM1.ok tN) Tryz.func91 rfl (by kernel_rfl) (by kernel_rfl) (ar:=IdxVM.ar) (ae:=IdxVM.ae) IdxVM.le (n:=2) (λ_=>rfl) (by decide) (rc:=(D0)) (re:=(D.int .i64)) (Lg) (f:=IdxVM.fv) ?_;intro a Q;simp only[Tryz.f91];simp only[ZA,simprocAttr,IdxVM.ae,IdxVM.fv];intro hn;refine AU.old ⟨{k:Nat//k<=a.1.length/\Bm (eX a.2) k (a.1.drop k)=Bm (eX a.2) 0 a.1},λk=>⟨[(8,.im (.int .i64 k.1)),(7,.im (.int .i64 a.1.length)),(6,.im (.sl false 1 (a.1.map Aj))),(4,.im (.int .i64 0)),(0,.im (.sl false 1 (a.1.map Aj))),(1,.im (.fn 56 [] [.ref (AF.c a.2)]))],[],0⟩,λk=>a.1.length - k.1,λk=>⟨by simp[ZG],AN _⟩,⟨⟨0,by simp⟩,by simp only[ZA,simprocAttr,sub]⟩,λk=> ?_⟩;obtain⟨k,Z,z⟩:=k;simp only[ZA,simprocAttr,VM1.q,VM1.fv,sub,AR];refine⟨λO=>⟨O,λx hx=> ?_⟩,λO=> ?_⟩
 .rw[E9 hx,Bm] at z;refine⟨λh=> ?_,λh=>F8 O hn ⟨by omega,by rw[<-z,Ad (by simpa using h)]⟩⟩;rw[Ak (by simpa using h)] at z;exact z
 .rw[CG (by omega),Bm] at z;exact z
def ContVM.ar:List PK->Option ((List Int)×AF)
 |[.val (.sl _ _ Q),.val (.fn 56 [] [.ref z])]=>(AQ Cl Q).bind λZ=>(AF.d (z.take 10)).bind λO=>some (Z,O)
 |_=>none
def ContVM.ae(a:(List Int)×AF):List PK:=[.val (.sl false 1 (a.1.map Aj)),.val (.fn 56 [] [.ref (AF.c a.2)])]
def ContVM.le: ∀O a,ContVM.ar O=some a->BE O (ContVM.ae a):=by
 intro O a h;unfold ContVM.ar at h;split at h
 .simp only[Ei,AI] at h;obtain⟨Z,h0,Q,z,rfl⟩:=h;exact⟨D2 (Dr DO _ _ h0) (by simp only[Bh];rintro r ⟨y,_,rfl⟩;rfl),NY ⟨NT (FM.trans_take (AF.d_le _ _ z)),trivial⟩,trivial⟩
 .cases h
def ContVM.fv(a:(List Int)×AF):Bool:=(λl s=>l.any (eX s)) (a.1) (a.2)
def ContVM.row:Ay:=Dj ContVM.ar (λa=>True) (λa=>(D.bool) (ContVM.fv a))
def ContVM.q:=vq ContVM.row rfl
def ContVM.ok:A9 55 ContVM.row:=by
 refine NI CF (tC IdxVM.ok tN) Tryz.func55 rfl (by kernel_rfl) (by kernel_rfl) (ar:=ContVM.ar) (ae:=ContVM.ae) ContVM.le (n:=2) (λ_=>rfl) (by decide) (rc:=(PO)) (re:=(D.bool)) (Ze) (f:=ContVM.fv) ?_;intro a z;simp only[Tryz.f55];simp only[ZA,simprocAttr,ContVM.ae,ContVM.fv,IdxVM.q,IdxVM.ar,IdxVM.fv];exact uK _ _
def Bz{β:Type}:List (Ab×β)->Ab->Option β
 |[],_=>none
 |(k,v)::r,p=>if p=k then some v else Bz r p
def KP(p q:Ab):D.beql (Ab.c p) (Ab.c q)=decide (p=q):=by
 cases p;cases q;simp only[Ab.c,D.beql,D.beq,Ab.mk.injEq,F5];rw[WW];simp
def aS{β:Type}(e:Ab×β->D×D)(g:β->D)(z: ∀p,e p=(.agg (Ab.c p.1),g p.2))(x y:Int): ∀(l:List (Ab×β)),lk (l.map e) (.agg [.int .i64 x,.int .i64 y])=(Bz l ⟨x,y⟩).map g
 |[]=>rfl
 |q::r=>by
  have O:D.beq (.agg [.int .i64 x,.int .i64 y]) (.agg (Ab.c q.1))=decide ((⟨x,y⟩:Ab)=q.1):=KP ⟨x,y⟩ q.1;obtain⟨k,v⟩:=q;simp only[Bg,z,lk,Bz,O];by_cases h:(⟨x,y⟩:Ab)=k
  .simp[h]
  .simp[h,aS e g z x y r]
def Mm{β:Type}(e:Ab×β->D×D)(g:β->D)(Z: ∀p,e p=(.agg (Ab.c p.1),g p.2))(x y:Int)(l:List (Ab×β))(Ks:D->Prop)(Kn:Prop):
 FW (l.map e) (.agg [.int .i64 x,.int .i64 y]) Ks Kn=((∀v,Bz l ⟨x,y⟩=some v->Ks (g v))/\(Bz l ⟨x,y⟩=none->Kn)):=by
 apply propext;unfold FW;rw[aS e g Z];constructor
 .rintro⟨O,Q⟩;exact⟨λv z=>O _ (by rw[z];rfl),λh=>Q (by rw[h];rfl)⟩
 .rintro⟨O,Q⟩;refine⟨λv z=> ?_,λh=>Q (by simpa using h)⟩;simp only[D9] at z;obtain⟨w,hw,rfl⟩:=z;exact O w hw
def Ml(x y:Int)(l:List (Ab×Int))(Ks:D->Prop)(Kn:Prop):FW (l.map Em) (.agg [.int .i64 x,.int .i64 y]) Ks Kn=((∀v,Bz l ⟨x,y⟩=some v->Ks (.int .i64 v))/\(Bz l ⟨x,y⟩=none->Kn)):=
 Mm Em (.int .i64) (λ_=>rfl) x y l Ks Kn
def XX(x y:Int)(l:List (Ab×List Int))(Ks:D->Prop)(Kn:Prop):FW (l.map Dd) (.agg [.int .i64 x,.int .i64 y]) Ks Kn=((∀v,Bz l ⟨x,y⟩=some v->Ks (.sl false 1 (v.map Aj)))/\(Bz l ⟨x,y⟩=none->Kn)):=
 Mm Dd (λv=> .sl false 1 (v.map Aj)) (λ_=>rfl) x y l Ks Kn
def C5(l:List (Ab×Int))(p:Ab):Int:=(Bz l p).getD (-1)
def catC.fv(a:Cp×Ab):Int:=(λc p=>C5 c.Tl p) (a.1) (a.2)
def catC.row:Ay:=D1 (b2 (qP 6 Cp.d_le) (qR Ab.d_le)) rI (λa=>True) catC.fv
def catC.q:=DX (R:=catC.row) rfl
def catC.ok:A9 107 catC.row:=by
 refine GF tN Tryz.func107 ?_;intro a O;simp only[Tryz.f107];simp only[ZA,simprocAttr,catC.fv,D.sc,D.scs,BC];simp only[ZA,simprocAttr,D.sc,D.scs,BC,Ml];simp only[C5];exact⟨λv z=>by rw[show Bz a.1.Tl a.2=some v from z];rfl,λz=>by rw[show Bz a.1.Tl a.2=none from z];rfl⟩
def Qd(s:Az)(f:Ab->Int)(p:Ab)(t:Int)(d:Int):Int:=if 0<=f (Cw p d) then Kf s t d (f (Cw p d)) else 0
def Fa(s:Az)(f:Ab->Int)(p:Ab)(t:Int):Nat->Int
 |0=>0
 |k+1=>Fa s f p t k+Qd s f p t k
def bY(s:Az)(a:Af)(p:Ab)(t:Int): ∀k,Fa s (Bj a) p t k=Lr s a p t k
 |0=>rfl
 |k+1=>by simp only[Fa,Lr,bY s a p t k];rfl
def aK(s:Az)(f:Ab->Int):Prop:= ∀p,0<=f p->Fi s (f p)
def Qxd{s:Az}(h:BO s)(f:Ab->Int)(p:Ab)(t d:Int):0<=Qd s f p t d/\Qd s f p t d<=4:=by
 simp only[Qd,Kf];split
 .split
  .exact Qp1 h _
  .omega
 .omega
def Qwy{s:Az}(h:BO s)(f:Ab->Int)(p:Ab)(t:Int): ∀(k:Nat),0<=Fa s f p t k/\Fa s f p t k<=4*k
 |0=>by simp[Fa]
 |k+1=>by
  have z:=Qwy h f p t k;have O:=Qxd h f p t k;simp only[Fa];omega
def bindC.ar:List PK->Option (Az×Ab×Int×Cp)
 |[.val (.agg z),.val (.agg O),.val (.int .i64 Q),.val (.fn 107 [.ref Z] [])]=>(Az.d z).bind λy0=>(Ab.d O).bind λy1=>(Cp.d (Z.take 6)).bind λy3=>some (y0,y1,Q,y3)
 |_=>none
def bindC.ae(a:Az×Ab×Int×Cp):List PK:=[.val (.agg (Az.c a.1)),.val (.agg (Ab.c a.2.1)),.val (.int .i64 a.2.2.1),.val (.fn 107 [.ref (Cp.c a.2.2.2)] [])]
def bindC.le: ∀z a,bindC.ar z=some a->BE z (bindC.ae a):=by
 intro z a h;unfold bindC.ar at h;split at h
 .simp only[Ei,AI] at h;obtain⟨Z,h0,y1,O,y3,Q,rfl⟩:=h;exact⟨Zf (Az.d_le _ _ h0),Zf (Ab.d_le _ _ O),Cr.refl _,SS ⟨NT (FM.trans_take (Cp.d_le _ _ Q)),trivial⟩,trivial⟩
 .cases h
def bindC.fv(a:Az×Ab×Int×Cp):Int:=(λs p t c=>Fa s (C5 c.Tl) p t 4) (a.1) (a.2.1) (a.2.2.1) (a.2.2.2)
def bindC.row:Ay:=NR bindC.ar (λa=>BO a.1/\aK a.1 (C5 a.2.2.2.Tl)/\G4 a.2.1/\Fi a.1 a.2.2.1) (λa=>(D.int .i64) (bindC.fv a))
def bindC.q:=vqF bindC.row rfl
def bindC.ok:A9 108 bindC.row:=by
 refine yC CF (tC step_.ok (tC bond_.ok (tC catC.ok tN))) Tryz.func108 rfl (by kernel_rfl) (by kernel_rfl) (ar:=bindC.ar) (ae:=bindC.ae) bindC.le (n:=4) (λ_=>rfl) (by decide) (rc:=(D0)) (re:=(D.int .i64)) (Lg) (f:=bindC.fv) ?_;intro a z;simp only[Tryz.f108];simp only[ZA,simprocAttr,bindC.ae,bindC.fv];obtain⟨O,Q,Z,h4⟩:=z;refine AU.old ⟨{k:Nat//k<=4},λk=>⟨[(12,.im (.int .i64 k.1)),(9,.im (.int .i64 (Fa a.1 (C5 a.2.2.2.Tl) a.2.1 a.2.2.1 k.1))),(8,.im (.int .i64 0)),(5,.ptr 1 0),(4,.ptr 0 0),(2,.im (.int .i64 a.2.2.1)),(3,.im (.fn 107 [.ref (Cp.c a.2.2.2)] []))],[(1,(true,.cells 70 [.im (.int .i64 a.2.1.X),.im (.int .i64 a.2.1.Y)])),(0,(true,.cells 44 ((Az.c a.1).map .im)))],2⟩,λk=>4 - k.1,λk=>⟨by simp[ZG,Az.c],AN _⟩,⟨⟨0,by simp⟩,by simp only[ZA,simprocAttr,sub,Fa]⟩,λk=> ?_⟩;obtain⟨k,aa⟩:=k;simp only[ZA,simprocAttr,CS,step_.q,step_.fv,step_.re,bond_.q,bond_.fv,bond_.re,catC.q,catC.fv,D.sc,D.scs,BC,sub,AR];have hb:=Qwy O (C5 a.2.2.2.Tl) a.2.1 a.2.2.1 k;have ht:=Qxd O (C5 a.2.2.2.Tl) a.2.1 a.2.2.1 k;refine⟨λhk=>⟨⟨Z,by omega⟩,λhp=>⟨⟨O,h4,⟨by omega,by omega⟩,Q _ hp⟩,⟨⟨k+1,by omega⟩,by simp only;omega,?_,?_⟩⟩,λhp=>⟨⟨k+1,by omega⟩,by simp only;omega,?_,?_⟩⟩,λhk=> ?_⟩
 .rw[AC (by omega) (by omega)];simp only;omega
 .simp only[Fa];simp only[Qd,Ak hp] at ht⊢;rw[AC (by omega) (by omega)]
 .rw[AC (by omega) (by omega)];simp only;omega
 .simp only[Fa,Qd,Ad hp];omega
 .have:k=4:=by omega
  rw[this]
def bindA.ar:List PK->Option (Az×Ab×Int×Af)
 |[.val (.agg z),.val (.agg O),.val (.int .i64 Q),.val (.fn 104 [.agg Z] [])]=>(Az.d z).bind λy0=>(Ab.d O).bind λy1=>(Af.d Z).bind λy3=>some (y0,y1,Q,y3)
 |_=>none
def bindA.ae(a:Az×Ab×Int×Af):List PK:=[.val (.agg (Az.c a.1)),.val (.agg (Ab.c a.2.1)),.val (.int .i64 a.2.2.1),.val (.fn 104 [.agg (Af.c a.2.2.2)] [])]
def bindA.le: ∀z a,bindA.ar z=some a->BE z (bindA.ae a):=by
 intro z a h;unfold bindA.ar at h;split at h
 .simp only[Ei,AI] at h;obtain⟨Z,h0,y1,O,y3,Q,rfl⟩:=h;exact⟨Zf (Az.d_le _ _ h0),Zf (Ab.d_le _ _ O),Cr.refl _,SS ⟨Zf (Af.d_le _ _ Q),trivial⟩,trivial⟩
 .cases h
def bindA.fv(a:Az×Ab×Int×Af):Int:=(λs p t c=>Fa s (Bj c) p t 4) (a.1) (a.2.1) (a.2.2.1) (a.2.2.2)
def bindA.row:Ay:=NR bindA.ar (λa=>BO a.1/\aK a.1 (Bj a.2.2.2)/\G4 a.2.1/\Fi a.1 a.2.2.1/\Cd none a.2.2.2.Tiles=true) (λa=>(D.int .i64) (bindA.fv a))
def bindA.q:=vqF bindA.row rfl
def bindA.ok:A9 108 bindA.row:=by
 refine yC CF (tC step_.ok (tC bond_.ok (tC at_.ok tN))) Tryz.func108 rfl (by kernel_rfl) (by kernel_rfl) (ar:=bindA.ar) (ae:=bindA.ae) bindA.le (n:=4) (λ_=>rfl) (by decide) (rc:=(D0)) (re:=(D.int .i64)) (Lg) (f:=bindA.fv) ?_;intro a z;simp only[Tryz.f108];simp only[ZA,simprocAttr,bindA.ae,bindA.fv];obtain⟨O,Q,Z,h4,h5⟩:=z;refine AU.old ⟨{k:Nat//k<=4},λk=>⟨[(12,.im (.int .i64 k.1)),(9,.im (.int .i64 (Fa a.1 (Bj a.2.2.2) a.2.1 a.2.2.1 k.1))),(8,.im (.int .i64 0)),(5,.ptr 1 0),(4,.ptr 0 0),(2,.im (.int .i64 a.2.2.1)),(3,.im (.fn 104 [.agg (Af.c a.2.2.2)] []))],[(1,(true,.cells 70 [.im (.int .i64 a.2.1.X),.im (.int .i64 a.2.1.Y)])),(0,(true,.cells 44 ((Az.c a.1).map .im)))],2⟩,λk=>4 - k.1,λk=>⟨by simp[ZG,Az.c],AN _⟩,⟨⟨0,by simp⟩,by simp only[ZA,simprocAttr,sub,Fa]⟩,λk=> ?_⟩;obtain⟨k,aa⟩:=k;simp only[ZA,simprocAttr,Af.d,step_.q,step_.fv,step_.re,bond_.q,bond_.fv,bond_.re,at_.q,at_.fv,D.sc,D.scs,BC,sub,AR];have hb:=Qwy O (Bj a.2.2.2) a.2.1 a.2.2.1 k;have ht:=Qxd O (Bj a.2.2.2) a.2.1 a.2.2.1 k;refine⟨λhk=>⟨⟨Z,by omega⟩,h5,λhp=>⟨⟨O,h4,⟨by omega,by omega⟩,Q _ hp⟩,⟨⟨k+1,by omega⟩,by simp only;omega,?_,?_⟩⟩,λhp=>⟨⟨k+1,by omega⟩,by simp only;omega,?_,?_⟩⟩,λhk=> ?_⟩
 .rw[AC (by omega) (by omega)];simp only;omega
 .simp only[Fa];simp only[Qd,Ak hp] at ht⊢;rw[AC (by omega) (by omega)]
 .rw[AC (by omega) (by omega)];simp only;omega
 .simp only[Fa,Qd,Ad hp];omega
 .have:k=4:=by omega
  rw[this]
def binding_.row:Ay:=xJ bindC.row bindA.row
def binding_.ok:A9 108 binding_.row:=KM bindC.ok bindA.ok
def IC(s:AG)(f:Ab->Int)(p:Ab)(t:Int):Bool:=DY p && (decide (f p<0) && decide (s.Temperature<=Fa s.Set f p t 4))
def fitsC.fv(a:Cp×Ab×Int):Bool:=(λc p t=>IC c.Sys (C5 c.Tl) p t) (a.1) (a.2.1) (a.2.2)
def fitsC.row:Ay:=D1 (b3 (qP 6 Cp.d_le) (qR Ab.d_le) qI) rB (λa=>BO a.1.Sys.Set/\aK a.1.Sys.Set (C5 a.1.Tl)/\Fi a.1.Sys.Set a.2.2) fitsC.fv
def fitsC.q:=DX (R:=fitsC.row) rfl
def fitsC.ok:A9 68 fitsC.row:=by
 refine GF (tC ValidPoint.ok (tC catC.ok (tC binding_.ok tN))) Tryz.func68 ?_;intro a z;simp only[Tryz.f68];simp(disch:=omega)only[ZA,simprocAttr,Af.d,CS,fitsC.fv,ValidPoint.q,ValidPoint.fv,catC.q,catC.fv,binding_.row,xJ,bindC.q,bindC.ar,bindC.fv,bindA.q,bindA.ar,bindA.fv,D.sc,D.scs,BC];obtain⟨O,Q,Z⟩:=z;cases e1:DY a.2.1
 .simp[IC,e1]
 .rw[Ak rfl]
  split<;>rename_i h
  .exact .inl ⟨⟨O,Q,Z1 e1,Z⟩,by simp[IC,e1,h]⟩
  .simp[IC,e1,h]
def Bt{β:Type}:List (Ab×β)->Ab->β->List (Ab×β)
 |[],p,v=>[(p,v)]
 |(k,w)::r,p,v=>if p=k then (p,v)::r else (k,w)::Bt r p v
def Ed{β:Type}:List (Ab×β)->Ab->List (Ab×β)
 |[],_=>[]
 |(k,w)::r,p=>if p=k then r else (k,w)::Ed r p
def Lb{β:Type}(e:Ab×β->D×D)(g:β->D)(z: ∀p,e p=(.agg (Ab.c p.1),g p.2))(x y:Int)(v:β): ∀(l:List (Ab×β)),Gy (l.map e) (.agg [.int .i64 x,.int .i64 y]) (g v)=(Bt l ⟨x,y⟩ v).map e
 |[]=>by simp[Gy,Bt,z,Ab.c]
 |q::r=>by
  have O:D.beq (.agg [.int .i64 x,.int .i64 y]) (.agg (Ab.c q.1))=decide ((⟨x,y⟩:Ab)=q.1):=KP ⟨x,y⟩ q.1;obtain⟨k,w⟩:=q;simp only[Bg,z,Gy,Bt,O];by_cases h:(⟨x,y⟩:Ab)=k
  .simp[h,z,Ab.c];exact⟨by rw[<-h],by rw[<-h]⟩
  .simp[h,z,Lb e g z x y v r]
def RQ{β:Type}(e:Ab×β->D×D)(g:β->D)(z: ∀p,e p=(.agg (Ab.c p.1),g p.2))(x y:Int): ∀(l:List (Ab×β)),IR (l.map e) (.agg [.int .i64 x,.int .i64 y])=(Ed l ⟨x,y⟩).map e
 |[]=>rfl
 |q::r=>by
  have O:D.beq (.agg [.int .i64 x,.int .i64 y]) (.agg (Ab.c q.1))=decide ((⟨x,y⟩:Ab)=q.1):=KP ⟨x,y⟩ q.1;obtain⟨k,w⟩:=q;simp only[Bg,z,IR,Ed,O];by_cases h:(⟨x,y⟩:Ab)=k
  .simp[h]
  .simp[h,z,RQ e g z x y r]
def kG(x y:Int)(v:List Int)(l:List (Ab×List Int)):Gy (l.map Dd) (.agg [.int .i64 x,.int .i64 y]) (.sl false 1 (v.map Aj))=(Bt l ⟨x,y⟩ v).map Dd:=
 Lb Dd (λv=> .sl false 1 (v.map Aj)) (λ_=>rfl) x y v l
def Wt(x y v:Int)(l:List (Ab×Int)):Gy (l.map Em) (.agg [.int .i64 x,.int .i64 y]) (.int .i64 v)=(Bt l ⟨x,y⟩ v).map Em:=
 Lb Em (.int .i64) (λ_=>rfl) x y v l
def RP(x y:Int)(l:List (Ab×List Int)):IR (l.map Dd) (.agg [.int .i64 x,.int .i64 y])=(Ed l ⟨x,y⟩).map Dd:=
 RQ Dd (λv=> .sl false 1 (v.map Aj)) (λ_=>rfl) x y l
def Gb(s:AG)(f:Ab->Int)(q:Ab):Nat->List Int
 |0=>[]
 |k+1=>Gb s f q k++(if IC s f q k=true then [(k:Int)] else [])
def Qus(s:AG)(f:Ab->Int)(q:Ab): ∀k,(Gb s f q k).length<=k
 |0=>by simp[Gb]
 |k+1=>by
  have:=Qus s f q k
  simp only[Gb,CD]
  split<;>simp<;>omega
def JY(s:AG)(f:Ab->Int)(op:List (Ab×List Int))(q:Ab):List (Ab×List Int):=
 if Gb s f q s.Set.Tiles.length=[] then Ed op q else Bt op q (Gb s f q s.Set.Tiles.length)
def GV(s:AG)(f:Ab->Int)(op:List (Ab×List Int))(p:Ab):Nat->List (Ab×List Int)
 |0=>op
 |k+1=>JY s f (GV s f op p k) (Cw p k)
def C4(s:AG):List AV:=[.im (.sl false 2 (s.Set.Glues.map Am.c)),.im (.sl false 2 (s.Set.Tiles.map Tile.c)),.im (.sl false 3 (s.Seed.Tiles.map Ah.c)),.im (.int .i64 s.Temperature),.mp 1,.mp 2]
def wV:KT:=⟨true,[.int .i64,.int .i64]⟩
def BZ(c:Cp):Ao:=[(0,(true,.cells 154 (C4 c.Sys))),(1,(true,.map ⟨true,[.int .i64,.int .i64]⟩ (c.Tl.map Em))),(2,(true,.map ⟨true,[.int .i64,.int .i64]⟩ (c.Op.map Dd)))]
def JR(c:Cp)(j:Nat):Al (BZ c) j=true↔j<3:=by
 simp only[Al,BZ,hget];by_cases h0:j=0
 .subst h0;simp
 .by_cases Z:j=1
  .subst Z;simp
  .by_cases h2:j=2
   .subst h2;simp
   .have z:(0==j)=false:=by simp;omega
    have O:(1==j)=false:=by simp;omega
    have Q:(2==j)=false:=by simp;omega
    simp[z,O,Q];omega
def VL(c:Cp):Prop:=BO c.Sys.Set/\aK c.Sys.Set (C5 c.Tl)/\c.Sys.Set.Tiles.length<=1000000
def lookC.ca(a:Cp×Ab):List AV:=[.ptr 0 0,.im (.agg [.int .i64 a.2.X,.int .i64 a.2.Y])]
def lookC.H1(a:Cp×Ab):Ao:=[(2,(true,.map ⟨true,[.int .i64,.int .i64]⟩ ((GV a.1.Sys (C5 a.1.Tl) a.1.Op a.2 4).map Dd)))]
def wU(j:Nat):Bool:=j==2
def lookC.row:Ay:=AA lookC.ca (λa=>BZ a.1) 3 (λa=>VL a.1/\G4 a.2) wU (λ_=> .im (.tup [])) lookC.H1 0
def lookC.ok:A9 105 lookC.row:=by
 refine ow (tC step_.ok (tC fitsC.ok tN)) Tryz.func105 (exB:=λ_=>false) (R:=λ_ r=>r= .im (.tup [])) (λ_=>rfl)
  (λa=>by simp[lookC.ca,BZ,C4,AE,AV.bel,Au,BB,BU,Ac.nms,AB,AV.nms,Al,hget]) (λa p hp=> ?_) (λa r h=>by subst h;exact CN.refl _) ?_
 rotate_left
 intro a O;simp only[Tryz.f105,lookC.ca,BZ,C4,lookC.H1];simp only[ZA,simprocAttr];obtain⟨⟨Z,aa,af⟩,z⟩:=O;refine AU.old ⟨{k:Nat//k<=4},λk=>⟨[(8,.im (.int .i64 k.1)),(3,.ptr 3 0),(0,.ptr 0 0)],[(3,(true,.cells 70 [.im (.int .i64 a.2.X),.im (.int .i64 a.2.Y)])),(0,(true,.cells 154 (C4 a.1.Sys))),(1,(true,.map ⟨true,[.int .i64,.int .i64]⟩ (a.1.Tl.map Em))),(2,(true,.map ⟨true,[.int .i64,.int .i64]⟩ ((GV a.1.Sys (C5 a.1.Tl) a.1.Op a.2 k.1).map Dd)))],4⟩,λk=>4 - k.1,λk=>⟨by simp[ZG,C4],AN _⟩,⟨⟨0,by simp⟩,by simp only[ZA,simprocAttr,C4,sub,GV,C4]⟩,λk=> ?_⟩;obtain⟨k,ad⟩:=k;simp only[C4];simp only[ZA,simprocAttr,step_.q,step_.fv,step_.re,wU,AR];have hq:G4 a.2:=z;refine⟨λhk=>⟨⟨z,by omega⟩,λhn=> ?_⟩,λhk=> ?_⟩
 .refine AU.ren ⟨{j:Nat//j<=a.1.Sys.Set.Tiles.length},λj=>⟨[(21,.im (.int .i64 j.1)),(20,.im (.int .i64 a.1.Sys.Set.Tiles.length)),(6,.own 6),(5,.ptr 4 0),(8,.im (.int .i64 k)),(3,.ptr 3 0),(0,.ptr 0 0)],[(6,(true,.arr 2 1 ((Gb a.1.Sys (C5 a.1.Tl) (Cw a.2 k) j.1).map Aj))),(4,(true,.cells 70 [.im (.int .i64 (Cw a.2 k).X),.im (.int .i64 (Cw a.2 k).Y)])),(3,(true,.cells 70 [.im (.int .i64 a.2.X),.im (.int .i64 a.2.Y)])),(0,(true,.cells 154 (C4 a.1.Sys))),(1,(true,.map ⟨true,[.int .i64,.int .i64]⟩ (a.1.Tl.map Em))),(2,(true,.map ⟨true,[.int .i64,.int .i64]⟩ ((GV a.1.Sys (C5 a.1.Tl) a.1.Op a.2 k).map Dd)))],7⟩,λj=>a.1.Sys.Set.Tiles.length - j.1,λj=>⟨by simp[ZG,C4],by simp⟩,⟨⟨0,by simp⟩,[(6,some 5)],?_⟩,λj=> ?_⟩
  .simp only[Aw,C4];simp only[ZA,simprocAttr,Br,Gb]
   try simp
  obtain⟨j,ac⟩:=j;simp only[C4];simp only[ZA,simprocAttr,CS,fitsC.q,fitsC.fv,DL,AR,sub];have ab:=Qus a.1.Sys (C5 a.1.Tl) (Cw a.2 k) j;refine⟨λhj=>⟨⟨Z,aa,by omega,by omega⟩,λhf=>⟨by omega,⟨j+1,by omega⟩,[(6,some 8)],by simp only;omega,?_⟩,λhf=>⟨⟨j+1,by omega⟩,[(6,some 6)],by simp only;omega,?_⟩⟩,λhj=> ?_⟩
  .simp only[Aw];simp only[ZA,simprocAttr,Br];refine⟨?_,?_⟩
   .rw[AC (by omega) (by omega)];omega
   .simp[Gb,hf,Aj]
  .simp only[Aw];simp only[ZA,simprocAttr,Br];refine⟨?_,?_⟩
   .rw[AC (by omega) (by omega)];omega
   .simp[Gb,hf]
  have Q:j=a.1.Sys.Set.Tiles.length:=by omega
  subst Q;rw[kG,RP];have hl:(0:Int)<((Gb a.1.Sys (C5 a.1.Tl) (Cw a.2 k) a.1.Sys.Set.Tiles.length).length:Int)↔Gb a.1.Sys (C5 a.1.Tl) (Cw a.2 k) a.1.Sys.Set.Tiles.length≠[]:=by
   rw[<-mQ];omega
  intro _;refine⟨λh0=>⟨⟨k+1,by omega⟩,by simp only;omega,?_,?_⟩,λh0=>⟨⟨k+1,by omega⟩,by simp only;omega,?_,?_⟩⟩
  .rw[AC (by omega) (by omega)];simp only;omega
  .simp only[GV,JY];rw[Ad (hl.1 h0)]
  .rw[AC (by omega) (by omega)];simp only;omega
  .simp only[GV,JY];rw[Ak (Gi.1 (λh=>h0 (hl.2 h)))]
 .have:k=4:=by omega
  subst this;simp[wU]
 simp[lookC.H1] at hp;subst hp;exact .inl ⟨by omega,rfl,rfl⟩
def fN{β:Type}(p q:Ab)(v:β): ∀(l:List (Ab×β)),Bz (Bt l p v) q=if q=p then some v else Bz l q
 |[]=>by simp[Bt,Bz]
 |(k,w)::r=>by
  simp only[Bt];by_cases h:p=k
  .subst h;rw[Ak rfl];simp only[Bz];by_cases z:q=p
   .rw[Ak z,Ak z]
   .rw[Ad z,Ad z,Ad z]
  .rw[Ad h];simp only[Bz,fN p q v r];by_cases z:q=k
   .rw[Ak z,Ak z,Ad (λO=>h (O.symm.trans z))]
   .rw[Ad z,Ad z]
def CC(l:List Ah):List (Ab×Int):=l.foldl (λt x=>Bt t x.At x.Tile) []
def PC(l:List Ah)(x:Ah):CC (l++[x])=Bt (CC l) x.At x.Tile:=by simp[CC]
def HL(s:AG)(f:Ab->Int)(l:List Ah):List (Ab×List Int):=l.foldl (λo x=>GV s f o x.At 4) []
def OV(s:AG)(f:Ab->Int)(l:List Ah)(x:Ah):HL s f (l++[x])=GV s f (HL s f l) x.At 4:=by simp[HL]
def Nq{s:Az}: ∀(l:List Ah),(∀x∈l,Fi s x.Tile)->aK s (C5 (CC l)):=by
 intro l;have O: ∀(l:List Ah) (t:List (Ab×Int)),(∀p v,Bz t p=some v->Fi s v)->(∀x∈l,Fi s x.Tile)-> ∀p v,Bz (l.foldl (λt x=>Bt t x.At x.Tile) t) p=some v->Fi s v:=by
  intro l;induction l with
  |nil=>intro t h _;exact h
  |cons x r ih=>
   intro t h Q;refine ih _ ?_ (λy Z=>Q y (BQ _ Z));intro p v z;rw[fN] at z;split at z
   .cases z;exact Q x (BR ..)
   .exact h p v z
 intro h p hp
 have:=O l [] (by intro p v h;simp[Bz] at h) h p
 simp only[C5,CC] at hp⊢;cases hq:Bz (l.foldl (λt x=>Bt t x.At x.Tile) []) p with
 |none=>rw[hq] at hp;simp at hp
 |some v=>exact this v hq
def ZL{α:Type}{l:List α}{k:Nat}{x:α}(h:l[k]? =some x):l.take (k+1)=l.take k++[x]:=by rw[Ib,h];rfl
def Qe(s:AG)(a:Af):Cp:=⟨s,CC a.Tiles,HL s (C5 (CC a.Tiles)) a.Tiles⟩
def newC.ca(a:AG×Af):List AV:=[.im (.agg (AG.c a.1)),.im (.agg (Af.c a.2))]
def newC.H1(a:AG×Af):Ao:=[(4,(true,.cells 154 [.im (.sl false 2 (a.1.Set.Glues.map Am.c)),.im (.sl false 2 (a.1.Set.Tiles.map Tile.c)),.im (.sl false 3 (a.1.Seed.Tiles.map Ah.c)),.im (.int .i64 a.1.Temperature),.mp 2,.mp 3])),
 (2,(true,.map ⟨true,[.int .i64,.int .i64]⟩ ((Qe a.1 a.2).Tl.map Em))),(3,(true,.map ⟨true,[.int .i64,.int .i64]⟩ ((Qe a.1 a.2).Op.map Dd)))]
def newC.pre(a:AG×Af):Prop:=BO a.1.Set/\a.1.Set.Tiles.length<=1000000/\ ∀x∈a.2.Tiles,Fi a.1.Set x.Tile/\G4 x.At
def newC.ex(j:Nat):Bool:=j==2||(j==3||j==4)
def noB(_:Nat):Bool:=false
def newC.row:Ay:=AA newC.ca (λ_=>[]) 0 newC.pre noB (λ_=> .ptr 4 0) newC.H1 5
def newC.ok:A9 67 newC.row:=by
 refine ow (tC lookC.ok tN) Tryz.func67 (exB:=newC.ex) (R:=λ_ r=>r= .ptr 4 0) (λ_=>rfl)
  (λa=>by simp[newC.ca,AG.c,Af.c,AE,AV.bel,Au,BB,BU]) (λa p hp=> ?_) (λa r h=>by subst h;exact CN.refl _) ?_
 rotate_left
 intro a Q;simp only[Tryz.f67,newC.ca,newC.H1,AG.c,Af.c];simp only[ZA,simprocAttr];obtain⟨ab,ac,O⟩:=Q;intro hn;refine AU.old ⟨{k:Nat//k<=a.2.Tiles.length},λk=>⟨[(18,.im (.int .i64 k.1)),(17,.im (.int .i64 a.2.Tiles.length)),(16,.im (.sl false 3 (a.2.Tiles.map Ah.c))),(5,.ptr 4 0),(4,.im .nilp),(3,.ptr 1 0)],[(4,(true,.cells 154 [.im (.sl false 2 (a.1.Set.Glues.map Am.c)),.im (.sl false 2 (a.1.Set.Tiles.map Tile.c)),.im (.sl false 3 (a.1.Seed.Tiles.map Ah.c)),.im (.int .i64 a.1.Temperature),.mp 2,.mp 3])),(3,(true,.map ⟨true,[.int .i64,.int .i64]⟩ ([]))),(2,(true,.map ⟨true,[.int .i64,.int .i64]⟩ ((CC (a.2.Tiles.take k.1)).map Em))),(1,(true,.cells 38 [.im (.sl false 3 (a.2.Tiles.map Ah.c))]))],5⟩,λk=>a.2.Tiles.length - k.1,λk=>⟨by simp[ZG],AN _⟩,⟨⟨0,by simp⟩,by simp only[ZA,simprocAttr,sub,CC,ZeC]⟩,λk=> ?_⟩;obtain⟨k,aa⟩:=k;simp only[ZA,simprocAttr,sub,AR];refine⟨λz=>⟨z,λx Z=> ?_⟩,λz=> ?_⟩
 .refine⟨⟨k+1,by omega⟩,by simp only;omega,?_,?_⟩
  .rw[AC (by omega) (by omega)];simp only;omega
  .rw[Wt,ZL Z,PC]
 rw[D8 (by omega)];intro _;refine AU.old ⟨{k:Nat//k<=a.2.Tiles.length},λk=>⟨[(34,.im (.int .i64 k.1)),(33,.im (.int .i64 a.2.Tiles.length)),(32,.im (.sl false 3 (a.2.Tiles.map Ah.c))),(5,.ptr 4 0),(4,.im .nilp),(3,.ptr 1 0)],[(4,(true,.cells 154 [.im (.sl false 2 (a.1.Set.Glues.map Am.c)),.im (.sl false 2 (a.1.Set.Tiles.map Tile.c)),.im (.sl false 3 (a.1.Seed.Tiles.map Ah.c)),.im (.int .i64 a.1.Temperature),.mp 2,.mp 3])),(3,(true,.map ⟨true,[.int .i64,.int .i64]⟩ ((HL a.1 (C5 (CC a.2.Tiles)) (a.2.Tiles.take k.1)).map Dd))),(2,(true,.map ⟨true,[.int .i64,.int .i64]⟩ ((CC a.2.Tiles).map Em))),(1,(true,.cells 38 [.im (.sl false 3 (a.2.Tiles.map Ah.c))]))],5⟩,λk=>a.2.Tiles.length - k.1,λk=>⟨by simp[ZG],AN _⟩,⟨⟨0,by simp⟩,by simp only[ZA,simprocAttr,sub,HL,ZeC]⟩,λk=> ?_⟩;obtain⟨k,aa⟩:=k;simp only[ZA,simprocAttr,newC.ex,AR];refine⟨λz=>⟨z,λx Z=> ?_⟩,λz=> ?_⟩
 .refine AA.os (⟨a.1,CC a.2.Tiles,HL a.1 (C5 (CC a.2.Tiles)) (a.2.Tiles.take k)⟩,x.At) [4,2,3] ⟨⟨ab,Nq _ (λy hy=>(O y hy).1),ac⟩,(O x (Ba Z)).2⟩ (λj=>JR _ j) rfl rfl ?_ ?_
  .simp only[ZA,simprocAttr,DL,lookC.ca,BZ,C4]
  .simp only[ZA,simprocAttr,DL,lookC.H1,wU,sub];refine⟨⟨k+1,by omega⟩,by simp only;omega,?_,?_⟩
   .rw[AC (by omega) (by omega)];simp only;omega
   .rw[ZL Z,OV]
 .rw[D8 (by omega)];exact⟨rfl,rfl⟩
 simp[newC.H1] at hp;rcases hp with rfl|rfl|rfl
 .exact .inr ⟨by omega,by simp,rfl,rfl⟩
 .exact .inr ⟨by omega,by simp,rfl,rfl⟩
 .exact .inr ⟨by omega,by simp,rfl,rfl⟩
def O1{a:AG×Af}(h:newC.pre a):VL (Qe a.1 a.2):=⟨h.1,Nq _ (λy z=>(h.2.2 y z).1),h.2.1⟩
def G0(a:Af)(i:Int):Int:=(a.Tiles[i.toNat]?.map Ah.Tile).getD (-1)
def WM(s:Az)(a:Af)(i:Nat)(d:Int):List Ag:=
 if 0<=Hd a i d then if 0<Kf s (G0 a i) d (G0 a (Hd a i d)) then [⟨i,Hd a i d,Kf s (G0 a i) d (G0 a (Hd a i d))⟩] else [] else []
def Ke(s:Az)(a:Af)(i:Nat):Nat->List Ag
 |0=>[]
 |k+1=>Ke s a i k++WM s a i (1 - k)
def F9(s:Az)(a:Af):Nat->List Ag
 |0=>[]
 |k+1=>F9 s a k++Ke s a k 2
def Ox(s:Az)(a:Af)(i:Nat)(d:Int):(WM s a i d).length<=1:=by
 simp only[WM];split
 .split<;>simp
 .simp
def Ql7(s:Az)(a:Af)(i:Nat): ∀k,(Ke s a i k).length<=k
 |0=>by simp[Ke]
 |k+1=>by
  have z:=Ql7 s a i k;have O:=Ox s a i (1 - k);simp only[Ke,CD];omega
def sC(s:Az)(a:Af): ∀k,(F9 s a k).length<=2*k
 |0=>by simp[F9]
 |k+1=>by
  have z:=sC s a k;have O:=Ql7 s a k 2;simp only[F9,CD];omega
def iI{A:Type}(p:A->Bool)(l:List A):Bm p 0 l<(l.length:Int):=by
 rcases W4 p l 0 with ⟨_,h⟩|⟨i,x,_,h,z⟩
 .omega
 .have:=(Cx.1 z).1
  omega
def KH(a:Af)(i d:Int):Hd a i d<(a.Tiles.length:Int):=iI _ _
def l06Bonds.fv(a:Az×Af):List Ag:=(λs a=>F9 s a a.Tiles.length) (a.1) (a.2)
def l06Bonds.row:Ay:=vK (b2 (qP 2 Az.d_le) (qP 1 Af.d_le)) (rS Ag.d_le Ag.c_n) (λa=>BO a.1/\FB a.1 a.2/\a.2.Tiles.length<=1000000) l06Bonds.fv
def l06Bonds.q:=AT (R:=l06Bonds.row) rfl
def l06Bonds.ok:A9 120 l06Bonds.row:=by
 refine vw (tC l06Neighbor.ok (tC l02Bond.ok tN)) Tryz.func120 ?_;intro a z;simp only[Tryz.f120];simp only[ZA,simprocAttr,l06Bonds.fv];obtain⟨h1,Z,h3⟩:=z;refine AU.ren ⟨{k:Nat//k<=a.2.Tiles.length},λk=>⟨[(6,.im (.int .i64 k.1)),(5,.own 4),(0,.ptr 0 0),(1,.ptr 1 0)],[(4,(true,.arr 214 3 ((F9 a.1 a.2 k.1).map Ag.c))),(0,(false,.view (Az.c a.1))),(1,(false,.view (Af.c a.2)))],5⟩,λk=>a.2.Tiles.length - k.1,λk=>⟨by simp[ZG],by simp⟩,⟨⟨0,by simp⟩,[(4,some 3)],?_⟩,λk=> ?_⟩
 .simp only[Aw];simp only[ZA,simprocAttr,Br,F9]
 obtain⟨k,af⟩:=k;simp only[ZA,simprocAttr,AR];intro ac;refine⟨λhk=> ?_,λhk=> ?_⟩
 .refine AU.ren ⟨{j:Nat//j<=2},λj=>⟨[(7,.im (.int .i64 (1 - (j.1:Int)))),(6,.im (.int .i64 k)),(5,.own 5),(0,.ptr 0 0),(1,.ptr 1 0)],[(5,(true,.arr 214 3 ((F9 a.1 a.2 k++Ke a.1 a.2 k j.1).map Ag.c))),(0,(false,.view (Az.c a.1))),(1,(false,.view (Af.c a.2)))],6⟩,λj=>2 - j.1,λj=>⟨by simp[ZG],by simp⟩,⟨⟨0,by simp⟩,[(5,some 4)],?_⟩,λj=> ?_⟩
  .simp only[Aw];simp only[ZA,simprocAttr,Br,Ke]
   try simp
  obtain⟨j,ad⟩:=j;simp only[ZA,simprocAttr,Af.d,l06Neighbor.q,l06Neighbor.fv,l02Bond.q,l02Bond.fv,AR,NG,NE,BK,D.one];have ab:=KH a.2 k (1 - j);have ag:=sC a.1 a.2 k;have ah:=Ql7 a.1 a.2 k j;refine⟨λhd=>⟨⟨Z.1,hk,hd,by omega⟩,λhn=>⟨⟨j+1,by omega⟩,[(5,some 5)],by simp only;omega,?_⟩,λhn=>⟨hk,λx hx=>⟨by omega,ab,λy hy=>⟨⟨h1,Z.2 x (Ba hx),⟨by omega,by omega⟩,Z.2 y (Ba hy)⟩,λhb=>⟨by simp only[CD];omega,⟨j+1,by omega⟩,[(5,some 7)],by simp only;omega,?_⟩,λhb=>⟨⟨j+1,by omega⟩,[(5,some 5)],by simp only;omega,?_⟩⟩⟩⟩⟩,λhd=>⟨⟨k+1,by omega⟩,[(4,some 5)],by simp only;omega,?_⟩⟩
  .simp only[Aw];simp only[ZA,simprocAttr,Br];refine⟨?_,?_⟩
   .rw[AC (by omega) (by omega)];omega
   .simp only[Ke,WM];rw[Ad (by omega),DA]
  .simp only[Aw];simp only[ZA,simprocAttr,Br];refine⟨?_,?_⟩
   .rw[AC (by omega) (by omega)];omega
   .have O:G0 a.2 k=x.Tile:=by simp[G0,hx]
    have Q:G0 a.2 (Hd a.2 k (1 - j))=y.Tile:=by simp only[G0];rw[hy];rfl
    simp only[Ke,WM];rw[Ak (by omega),O,Q,Ak hb];simp[Ag.c]
  .simp only[Aw];simp only[ZA,simprocAttr,Br];refine⟨?_,?_⟩
   .rw[AC (by omega) (by omega)];omega
   .have O:G0 a.2 k=x.Tile:=by simp[G0,hx]
    have Q:G0 a.2 (Hd a.2 k (1 - j))=y.Tile:=by simp only[G0];rw[hy];rfl
    simp only[Ke,WM];rw[Ak (by omega),O,Q,Ad hb,DA]
  .simp only[Aw];simp only[ZA,simprocAttr,Br];have aa:j=2:=by omega
   subst aa;refine⟨?_,?_⟩
   .rw[AC (by omega) (by omega)];omega
   .simp only[F9]
 .have:k=a.2.Tiles.length:=by omega
  rw[this]
def IL:List Int->List Int->Bool
 |x::r,y::s=>if x=y then IL r s else decide (x<y)
 |_,_=>false
def Gk(v:Int)(l:List Int)(w:Int)(m:List Int):Bool:=if v=w then if l.length=m.length then IL l m else decide (l.length<m.length) else decide (v<w)
def l07Before.fv(a:Int×(List Int)×Int×(List Int)):Bool:=(Gk) (a.1) (a.2.1) (a.2.2.1) (a.2.2.2)
def l07Before.row:Ay:=vK (b4 qI (qS DO Dc) qI (qS DO Dc)) rB (λa=>True) l07Before.fv
def l07Before.q:=AT (R:=l07Before.row) rfl
def l07Before.ok:A9 158 l07Before.row:=by
 refine vw tN Tryz.func158 ?_;intro a ab;simp only[Tryz.f158];simp only[ZA,simprocAttr,l07Before.fv]
 split<;>rename_i h
 .simp only[Gk];rw[Ad h]
 intro ad af
 split<;>rename_i h2
 .intro _ _;simp only[Gk];rw[Ak (Gi.1 h),Ad (by omega)]
 have hn:a.2.1.length=a.2.2.2.length:=by omega
 have hb:Gk a.1 a.2.1 a.2.2.1 a.2.2.2=IL a.2.1 a.2.2.2:=by simp only[Gk];rw[Ak (Gi.1 h),Ak hn]
 rw[hb];refine AU.old ⟨{k:Nat//k<=a.2.1.length/\IL (a.2.1.drop k) (a.2.2.2.drop k)=IL a.2.1 a.2.2.2},λk=>⟨[(9,.im (.int .i64 k.1)),(8,.im (.bool false)),(0,.im (.int .i64 a.1)),(1,.im (.sl false 1 (a.2.1.map Aj))),(2,.im (.int .i64 a.2.2.1)),(3,.im (.sl false 1 (a.2.2.2.map Aj)))],[],0⟩,λk=>a.2.1.length - k.1,λk=>⟨by simp[ZG],AN _⟩,⟨⟨0,by simp⟩,by simp only[ZA,simprocAttr,sub]⟩,λk=> ?_⟩;obtain⟨k,ac,z⟩:=k;simp only[ZA,simprocAttr,sub,AR];intro _;refine⟨λZ=>⟨Z,λx hx=>⟨by omega,λy hy=>⟨λaa=>⟨Z,λx' O=>⟨by omega,λy' Q=> ?_⟩⟩,λhe=> ?_⟩⟩⟩,λZ=> ?_⟩
 .rw[hx] at O;rw[hy] at Q;obtain rfl:=A7 O;obtain rfl:=A7 Q;rw[E9 hx,E9 hy,IL,Ad aa] at z;exact z
 .rw[E9 hx,E9 hy,IL,Ak (Gi.1 he)] at z;refine⟨⟨k+1,by omega,z⟩,by simp only;omega,?_⟩;rw[AC (by omega) (by omega)];simp only;omega
 .rw[CG (by omega),IL] at z
  .exact z
  .intros;simp_all
def Rf(a:Af)(x:Ah):Bool:=decide (Bj a x.At<0)
def G1.fv(a:Ah×Af):Bool:=(λx b=>Rf b x) (a.1) (a.2)
def G1.row:Ay:=vK (b2 (qR Ah.d_le) (qP 1 Af.d_le)) rB (λa=>Cd none a.2.Tiles=true) G1.fv
def G1.q:=AT (R:=G1.row) rfl
def G1.ok:A9 103 G1.row:=by
 refine vw (tC at_.ok tN) Tryz.func103 ?_;intro a z;simp only[Tryz.f103];simp only[ZA,simprocAttr,Af.d,G1.fv,at_.q,at_.fv];exact⟨z,rfl⟩
def IdxG.ar:List PK->Option ((List Ah)×Af)
 |[.val (.sl _ _ Q),.val (.fn 103 [] [.ref z])]=>(AQ Ah.d Q).bind λZ=>(Af.d (z.take 1)).bind λO=>some (Z,O)
 |_=>none
def IdxG.ae(a:(List Ah)×Af):List PK:=[.val (.sl false 3 (a.1.map Ah.c)),.val (.fn 103 [] [.ref (Af.c a.2)])]
def IdxG.le: ∀O a,IdxG.ar O=some a->BE O (IdxG.ae a):=by
 intro O a h;unfold IdxG.ar at h;split at h
 .simp only[Ei,AI] at h;obtain⟨Z,h0,Q,z,rfl⟩:=h;exact⟨D2 (Dr Ah.d_le _ _ h0) (by simp only[Bh];rintro r ⟨y,_,rfl⟩;rfl),NY ⟨NT (FM.trans_take (Af.d_le _ _ z)),trivial⟩,trivial⟩
 .cases h
def IdxG.fv(a:(List Ah)×Af):Int:=(λl b=>Bm (Rf b) 0 l) (a.1) (a.2)
def IdxG.row:Ay:=Dj IdxG.ar (λa=>Cd none a.2.Tiles=true) (λa=>(D.int .i64) (IdxG.fv a))
def IdxG.q:=vq IdxG.row rfl
def IdxG.ok:A9 102 IdxG.row:=by
 refine NI CF (tC G1.ok tN) Tryz.func102 rfl (by kernel_rfl) (by kernel_rfl) (ar:=IdxG.ar) (ae:=IdxG.ae) IdxG.le (n:=2) (λ_=>rfl) (by decide) (rc:=(D0)) (re:=(D.int .i64)) (Lg) (f:=IdxG.fv) ?_;intro a O;simp only[Tryz.f102];simp only[ZA,simprocAttr,IdxG.ae,IdxG.fv];intro hn;refine AU.old ⟨{k:Nat//k<=a.1.length/\Bm (Rf a.2) k (a.1.drop k)=Bm (Rf a.2) 0 a.1},λk=>⟨[(8,.im (.int .i64 k.1)),(7,.im (.int .i64 a.1.length)),(6,.im (.sl false 3 (a.1.map Ah.c))),(4,.im (.int .i64 0)),(0,.im (.sl false 3 (a.1.map Ah.c))),(1,.im (.fn 103 [] [.ref (Af.c a.2)]))],[],0⟩,λk=>a.1.length - k.1,λk=>⟨by simp[ZG],AN _⟩,⟨⟨0,by simp⟩,by simp only[ZA,simprocAttr,sub]⟩,λk=> ?_⟩;obtain⟨k,Z,z⟩:=k;simp only[ZA,simprocAttr,Af.d,G1.q,G1.fv,sub,AR];refine⟨λQ=>⟨Q,λx hx=> ?_⟩,λQ=> ?_⟩
 .rw[E9 hx,Bm] at z;refine⟨O,λh=> ?_,λh=>F8 Q hn ⟨by omega,by rw[<-z,Ad (by simpa using h)]⟩⟩;rw[Ak (by simpa using h)] at z;exact z
 .rw[CG (by omega),Bm] at z;exact z
def Qpo: ∀(l m:List Ab),l.Nodup->(∀x∈l,x∈m)->l.length<=m.length
 |[],_,_,_=>CR _
 |x::r,m,z,Q=>by
  simp only[IH] at z;have hx:x∈m:=Q x (BR ..)
  have:=Qpo r (m.erase x) z.2 (λy hy=>by
   have O:y≠x:=λh=>z.1 (h▸hy)
   exact (List.mem_erase_of_ne O).2 (Q y (BQ _ hy)))
  rw[List.length_erase_of_mem hx] at this;have Z:0<m.length:=ZeS hx;simp only[CQ];omega
def eG{l:List Ah}(h:Cd none l=true):(l.map Ah.At).Nodup:=by
 have z:=(dN _ _ h).2;clear h;revert z;induction l with
 |nil=>intro _;simp
 |cons x r ih=>
  intro z;simp only[Bg,IH];refine⟨λhm=> ?_,ih (λi j a b aa O Q=>z (i+1) (j+1) a b (by omega) (by simpa using O) (by simpa using Q))⟩;obtain⟨y,hy,Z⟩:=Bh.1 hm;obtain⟨i,hi⟩:=V4.1 hy
  have:=z 0 (i+1) x y (by omega) rfl (by simpa using hi)
  rw[Z,lN] at this;cases this
def Kb(a b:Af):AD×Bool:=if b.Tiles.length=a.Tiles.length+1/\QT a b=true then (((b.Tiles.find? (Rf a)).map λx=>(⟨x.At,x.Tile⟩:AD)).getD ⟨⟨0,0⟩,0⟩,true) else (⟨⟨0,0⟩,0⟩,false)
def zA{a b:Af}(h1:Cd none a.Tiles=true)(h2:Cd none b.Tiles=true)(h3:b.Tiles.length=a.Tiles.length+1): ∃(i:Nat) (x:Ah),b.Tiles.find? (Rf a)=some x/\Bm (Rf a) 0 b.Tiles=(i:Int)/\b.Tiles[i]? =some x:=by
 rcases W4 (Rf a) b.Tiles 0 with ⟨h,_⟩|⟨i,x,O,Q,Z⟩
 .exfalso
  have:=Qpo (b.Tiles.map Ah.At) (a.Tiles.map Ah.At) (eG h2) (by
   intro p hp;obtain⟨y,hy,rfl⟩:=Bh.1 hp;have hn:=ZO.1 h y hy;have hn: ¬Bj a y.At<0:=by simpa[Rf] using hn
   simp only[Bj] at hn;cases hf:a.Tiles.find? (λx=>decide (x.At=y.At)) with
   |none=>rw[hf] at hn;simp at hn
   |some z=>
    have:=Ql hf
    simp only[B3] at this;rw[<-this];exact WZ (Qg hf))
  simp only[F7] at this;omega
 .exact⟨i,x,O,by simpa using Q,Z⟩
def gained_.fv(a:Af×Af):AD×Bool:=(Kb) (a.1) (a.2)
def gained_.row:Ay:=vK (b2 (qR Af.d_le) (qR Af.d_le)) (r2 (rA AD.d_le) rB) (λa=>True) gained_.fv
def gained_.q:=AT (R:=gained_.row) rfl
def gained_.ok:A9 66 gained_.row:=by
 refine vw (tC IsWithin_.ok (tC IdxG.ok tN)) Tryz.func66 ?_;intro a Z;simp only[Tryz.f66];simp only[ZA,simprocAttr,Af.d,gained_.fv,IsWithin_.q,IsWithin_.fv,IdxG.q,IdxG.ar,IdxG.fv];intro aa ab;rw[AC (by omega) (by omega)]
 split<;>rename_i h
 .split<;>rename_i z
  .simp[Kb,z]
  .rw[Hq] at z;have O:=z;simp only[QT,AL] at O;obtain⟨i,x,e1,e2,Q⟩:=zA O.1.1 O.2.1.1 (by omega);have hi:=(Cx.1 Q).1;refine⟨O.1.1,by omega,by omega,λy hy=> ?_⟩;rw[e2,B5,Q] at hy;obtain rfl:=A7 hy;simp only[Kb];rw[Ak ⟨by omega,z⟩,e1];rfl
 .simp only[Kb];rw[Ad (by omega)]
def Qxu(n:Nat)(rows:List (List D)):(Bp rows).all (AE n)=true:=by
 simp only[Bp,List.all_map,C6,Function.comp];intro r z;clear z;induction r with
 |nil=>simp[AE]
 |cons x r ih=>simp[AE,AV.bel,ih]
def LP(F:List Nat)(H:Ao): ∀(r:List D),DF F H (r.map .im)=r.map .im
 |[]=>rfl
 |x::r=>by simp only[Bg,DF,AV.fzA,LP F H r]
def LQ(F:List Nat)(H:Ao): ∀(rows:List (List D)),DG F H (Bp rows)=Bp rows
 |[]=>rfl
 |x::r=>by
  have:=LQ F H r
  simp only[Bp] at this;simp only[Bp,Bg,DG,LP,this]
def Qzl(F:List Nat)(H:Ao): ∀(a b:List (List AV)),DG F H (a++b)=DG F H a++DG F H b
 |[],b=>rfl
 |x::r,b=>by simp only[De,DG,Qzl F H r b]
def Tn(π:List (Nat×Option Nat)): ∀(r:List D),DI π (r.map .im) (r.map .im)
 |[]=>by simp[DI]
 |x::r=>by simp only[Bg,DI,mt,Tn π r,Hr]
def Qzo(π:List (Nat×Option Nat)): ∀(rows:List (List D)),GA π (Bp rows) (Bp rows)
 |[]=>by simp[GA,Bp]
 |x::r=>by
  have:=Qzo π r
  simp only[Bp] at this;simp only[Bp,Bg,GA,Tn,this,Hr]
def Qzb(F:List Nat)(H:Ao)(rows:List (List D)):DG F H (rows.map λr=>r.map AV.im)=rows.map λr=>r.map AV.im:=LQ F H rows
def uJ(π:List (Nat×Option Nat))(rows:List (List D)):GA π (rows.map λr=>r.map AV.im) (rows.map λr=>r.map AV.im)=True:=gK (Qzo π rows)
def Rp(n:Nat)(rows:List (List D)):(rows.map λr=>r.map AV.im).all (AE n)=true:=Qxu n rows
def Qtl{α β:Type}{f:α->Option β}{g:β->α}(h: ∀y,f (g y)=some y): ∀(l:List β),Ar f (l.map g)=some l
 |[]=>rfl
 |x::r=>by simp only[Bg,Ar,h,Qtl h r]
def Xs(h:Nat->Option An)(kx:Nat->Option Nat)(n:Nat)(rows:List (List D)):Ar (Ar λx=>Er (Bb h kx (n+1) x)) (rows.map λr=>r.map AV.im)=some rows:=
 Qtl (g:=λr=>r.map AV.im) (λy=>Qtl (g:=AV.im) (λ_=>rfl) y) rows
def HY{A:Type}(f:A->A):Nat->List A->List A
 |0,l=>l
 |_+1,[]=>[]
 |k+1,x::r=>f x::HY f k r
def Qwq{A:Type}(f:A->A): ∀(k:Nat) (l:List A),(HY f k l).length=l.length
 |0,_=>rfl
 |_+1,[]=>rfl
 |k+1,x::r=>by simp only[HY,CQ,Qwq f k r]
def Qoo{A:Type}(f:A->A): ∀(k:Nat) (l:List A),(HY f k l)[k]? =l[k]?
 |0,_=>rfl
 |_+1,[]=>by simp[HY]
 |k+1,x::r=>by simp only[HY,J7,Qoo f k r]
def Qn5{A:Type}(f:A->A): ∀(k:Nat) (l:List A) (x:A),l[k]? =some x->(HY f k l).set k (f x)=HY f (k+1) l
 |0,[],x,h=>by simp at h
 |0,y::r,x,h=>by
  simp only[Ho,AI] at h;subst h;simp[HY]
 |k+1,[],x,h=>by simp at h
 |k+1,y::r,x,h=>by
  have:=Qn5 f k r x (by simpa using h)
  rw[HY,HY,mU,this]
def Qabf{A:Type}(f:A->A)(k:Nat)(l:List A)(x:A)(h:l[k]? =some x)(hf:f x=x):HY f (k+1) l=HY f k l:=by
 rw[<-Qn5 f k l x h,hf];have z:(HY f k l)[k]? =some x:=by rw[Qoo,h]
 obtain⟨O,Q⟩:=Cx.1 z;rw[<-Q];exact List.set_getElem_self O
def Qvd{A:Type}(f:A->A): ∀(k:Nat) (l:List A),l.length<=k->HY f k l=l.map f
 |0,[],_=>rfl
 |0,x::r,h=>by simp at h
 |_+1,[],_=>rfl
 |k+1,x::r,h=>by simp only[HY,Bg,Qvd f k r (by simpa using h)]
def WO:Nat->List Int
 |0=>[]
 |k+1=>WO k++[(k:Int)]
def dW: ∀k,(WO k).length=k
 |0=>rfl
 |k+1=>by simp[WO,dW k]
def J2(x y v:Int):Int:=if v=Ey x y then ET x y else v
def tL(own:List Int)(b:Ag):List Int:=own.map (J2 (own[b.A.toNat]?.getD 0) (own[b.B.toNat]?.getD 0))
def Cm(n:Nat)(bs:List Ag):Nat->List Int
 |0=>WO n
 |k+1=>match bs[k]? with
  |some b=>tL (Cm n bs k) b
  |none=>Cm n bs k
def Qto(n:Nat)(bs:List Ag): ∀k,(Cm n bs k).length=n
 |0=>dW n
 |k+1=>by
  simp only[Cm];split
  .simp[tL,Qto n bs k]
  .exact Qto n bs k
def Df(own:List Int)(i:Nat):Nat->List Int
 |0=>[]
 |k+1=>Df own i k++(if own[i+k]? =some (i:Int) then [((i+k:Nat):Int)] else [])
def Qsd(own:List Int)(i:Nat): ∀k,(Df own i k).length<=k
 |0=>by simp[Df]
 |k+1=>by
  have:=Qsd own i k
  simp only[Df,CD]
  split<;>simp<;>omega
def BA(own:List Int)(n:Nat):Nat->List (List Int)
 |0=>[]
 |k+1=>BA own n k++(if own[k]? =some (k:Int) then [Df own k (n - k)] else [])
def sI(own:List Int)(n:Nat): ∀k,(BA own n k).length<=k
 |0=>by simp[BA]
 |k+1=>by
  have:=sI own n k
  simp only[BA,CD]
  split<;>simp<;>omega
def Vu(n:Int)(bs:List Ag):List (List Int):=BA (Cm n.toNat bs bs.length) n.toNat n.toNat
def Lm(n:Int)(bs:List Ag):Prop:= ∀b∈bs,0<=b.A/\b.A<n/\0<=b.B/\b.B<n
def l06Groups.fv(a:Int×(List Ag)):List (List Int):=(Vu) (a.1) (a.2)
def l06Groups.row:Ay:=vK (b2 qI (qS Ag.d_le Ag.c_n)) (rS eH MT) (λa=>0<=a.1/\a.1<=1000000/\Lm a.1 a.2) l06Groups.fv
def l06Groups.q:=AT (R:=l06Groups.row) rfl
def l06Groups.ok:A9 152 l06Groups.row:=by
 refine vw (tC l00Min.ok (tC l00Max.ok tN)) Tryz.func152 ?_;intro a af;simp only[Tryz.f152];simp only[ZA,simprocAttr,l06Groups.fv];obtain⟨ak,am,aa⟩:=af;obtain⟨n,hn⟩: ∃n:Nat,a.1=n:=⟨a.1.toNat,by omega⟩;simp only[Vu,hn,B5];rw[hn] at ak am aa;refine AU.ren ⟨{k:Nat//k<=n},λk=>⟨[(6,.im (.int .i64 k.1)),(5,.own 2),(0,.im (.int .i64 n)),(1,.im (.sl false 3 (a.2.map Ag.c)))],[(2,(true,.arr 2 1 ((WO k.1).map Aj)))],3⟩,λk=>n - k.1,λk=>⟨by simp[ZG],by simp⟩,⟨⟨0,by simp⟩,[(2,some 1)],?_⟩,λk=> ?_⟩
 .simp only[Aw];simp only[ZA,simprocAttr,WO]
  try simp
 obtain⟨k,Z⟩:=k;simp only[ZA,simprocAttr,AR,NG,NE,BK,D.one];have ac:=dW k;refine⟨λz=>⟨by rw[ac];omega,⟨k+1,by omega⟩,[(2,some 4)],by simp only;omega,?_⟩,λz=> ?_⟩
 .simp only[Aw];simp only[ZA,simprocAttr];refine⟨by rw[AC (by omega) (by omega)];omega,by simp[WO,Aj]⟩
 have ah:n=k:=by omega
 subst ah;clear ac z Z;refine AU.old ⟨{k:Nat//k<=a.2.length},λk=>⟨[(7,.im (.int .i64 k.1)),(5,.own 2),(0,.im (.int .i64 n)),(1,.im (.sl false 3 (a.2.map Ag.c)))],[(2,(true,.arr 2 1 ((Cm n a.2 k.1).map Aj)))],3⟩,λk=>a.2.length - k.1,λk=>⟨by simp[ZG],by simp⟩,⟨⟨0,by simp⟩,by simp only[ZA,simprocAttr,sub,Cm]⟩,λk=> ?_⟩;obtain⟨k,Z⟩:=k;have O:=Qto n a.2 k;simp only[ZA,simprocAttr,AR,O];intro _;refine⟨λz=>⟨z,λb hb=> ?_⟩,λz=> ?_⟩
 .obtain⟨b1,b2,b3,b4⟩:=aa b (Ba hb);refine⟨b1,b2,by omega,λx hx=>⟨z,λb' ab=> ?_⟩⟩;rw[hb] at ab;obtain rfl:=A7 ab;refine⟨b3,b4,by omega,λy hy=> ?_⟩;refine AU.old ⟨{j:Nat//j<=n},λj=>⟨[(10,.im (.int .i64 j.1)),(9,.im (.int .i64 y)),(8,.im (.int .i64 x)),(7,.im (.int .i64 k)),(5,.own 2),(0,.im (.int .i64 n)),(1,.im (.sl false 3 (a.2.map Ag.c)))],[(2,(true,.arr 2 1 ((HY (J2 x y) j.1 (Cm n a.2 k)).map Aj)))],3⟩,λj=>n - j.1,λj=>⟨by simp[ZG],by simp⟩,⟨⟨0,by simp⟩,by simp only[ZA,simprocAttr,sub,HY]⟩,λj=> ?_⟩;obtain⟨j,aq⟩:=j;have ad:=Qwq (J2 x y) j (Cm n a.2 k);rw[O] at ad;have ai:=Qoo (J2 x y) j (Cm n a.2 k);simp only[ZA,simprocAttr,l00Min.q,l00Min.fv,l00Max.q,l00Max.fv,sub,AR,ad];intro _;refine⟨λhj=>⟨hj,hj,λv hv=> ?_⟩,λhj=> ?_⟩
  .have aw:=hv;rw[ai] at hv;refine⟨λQ=>⟨hj,hj,λv' av=>⟨⟨j+1,by omega⟩,by simp only;omega,by rw[AC (by omega) (by omega)];simp only;omega,?_⟩⟩,λQ=>⟨⟨j+1,by omega⟩,by simp only;omega,by rw[AC (by omega) (by omega)];simp only;omega,?_⟩⟩
   .rw[<-Qn5 _ _ _ _ hv,Of];simp only[J2,Q,BM,Aj]
   .rw[Qabf _ _ _ _ hv (by simp only[J2];rw[Ad Q])]
  .refine⟨⟨k+1,by omega⟩,by simp only;omega,by rw[AC (by omega) (by omega)];simp only;omega,?_⟩;rw[Qvd _ _ _ (by omega)];simp only[Cm,hb,tL,hx,hy,AO]
 have ag:k=a.2.length:=by omega
 subst ag;clear z Z aa;refine AU.frr ⟨{k:Nat//k<=n},λk=>⟨[(12,.im (.int .i64 k.1)),(11,.own 4),(5,.own 2),(0,.im (.int .i64 n))],[(4,(true,.arrA 31 1 (Bp ((BA (Cm n a.2 a.2.length) n k.1).map CK)))),(2,(true,.arr 2 1 ((Cm n a.2 a.2.length).map Aj)))],5⟩,λk=>n - k.1,λk=>⟨by simp[ZG,Qxu],by simp⟩,⟨⟨0,by simp⟩,[],[(4,some 3)],?_⟩,λk=> ?_⟩
 .simp only[Aw];simp only[ZA,simprocAttr,Br,BA]
  try simp
 obtain⟨k,Z⟩:=k;obtain⟨own,hown⟩: ∃own,own=Cm n a.2 a.2.length:=⟨_,rfl⟩;simp only[<-hown] at O⊢;have an:=sI own n k;simp only[ZA,simprocAttr,AR,O];refine⟨λz=>⟨z,z,λx hx=>⟨λQ=>⟨⟨k+1,by omega⟩,[],[(4,some 4)],by simp only;omega,?_⟩,λQ=> ?_⟩⟩,λz=> ?_⟩
 .have e1:BA own n (k+1)=BA own n k:=by
   simp only[BA];rw[Ad (by rw[hx];simpa using Q),DA]
  simp only[Aw];simp only[ZA,simprocAttr,Br,Qzb,uJ,e1];rw[AC (by omega) (by omega)];simp
 .have Q:=Gi.1 Q;refine AU.ren ⟨{m:Nat//m<=n - k},λm=>⟨[(14,.im (.int .i64 ((k+m.1:Nat):Int))),(13,.own 6),(12,.im (.int .i64 k)),(11,.own 4),(5,.own 2),(0,.im (.int .i64 n))],[(6,(true,.arr 2 1 ((Df own k m.1).map Aj))),(4,(true,.arrA 31 1 (Bp ((BA own n k).map CK)))),(2,(true,.arr 2 1 (own.map Aj)))],7⟩,λm=>n - k - m.1,λm=>⟨by simp[ZG,Qxu],by simp⟩,⟨⟨0,by simp⟩,[(6,some 5)],?_⟩,λm=> ?_⟩
  .simp only[Aw];simp only[ZA,simprocAttr,Br,Df,uJ]
   try simp
  obtain⟨m,au⟩:=m;have ao:=Qsd own k m;simp only[ZA,simprocAttr,AR,O,NG,NE,BK,D.one];refine⟨λhm=>⟨hm,hm,λv hv=>⟨λh=>⟨by omega,⟨m+1,by omega⟩,[(6,some 8)],by simp only;omega,?_⟩,λh=>⟨⟨m+1,by omega⟩,[(6,some 6)],by simp only;omega,?_⟩⟩⟩,λhm=>⟨by simp[AE,AV.bel],by omega,by rw[vM,Rp];simp[AE,AV.bel],⟨k+1,by omega⟩,[6],[(4,some 8)],by simp only;omega,?_⟩⟩
  .simp only[Aw];simp only[ZA,simprocAttr,Br,uJ];refine⟨?_,?_⟩
   .rw[AC (by omega) (by omega)];omega
   .subst h;simp only[Df];rw[Ak hv];simp[Aj]
  .simp only[Aw];simp only[ZA,simprocAttr,Br,uJ];refine⟨?_,?_⟩
   .rw[AC (by omega) (by omega)];omega
   .simp only[Df];rw[Ad (by rw[hv];simpa using h),DA]
  .have aj:m=n - k:=by omega
   have e1:BA own n (k+1)=BA own n k++[Df own k m]:=by
    simp only[BA];rw[Ak (by rw[hx,Q]),aj]
   simp only[Aw];simp only[ZZ,simprocAttr,Br,Qzl,Qzb,e1,FT];rw[AC (by omega) (by omega)];refine⟨by simp,?_⟩
   have:=Qzo [(4,some 8)] ((BA own n k).map CK++[[D.sl false 1 ((Df own k m).map Aj)]])
   simpa only[Bp,FT,Bg,GX] using this
 .have:k=n:=by omega
  subst this;simp only[ZZ,simprocAttr,Xs]
end Go.Ae
namespace Go.Ae
def AS(b n:Nat)(f:Nat->An):Ao:=(List.range n).map λi=>(b+i,f i)
def O6(b n:Nat)(f:Nat->An):AS b (n+1) f=AS b n f++[(b+n,f n)]:=by
 simp only[AS,mL,FT,Bg,GX]
def eU(b:Nat)(f:Nat->An)(m:Nat): ∀(n:Nat),hget (AS b n f) m=if b<=m/\m<b+n then some (f (m - b)) else none
 |0=>by rw[Ad (by omega)];rfl
 |n+1=>by
  rw[O6,zO,eU b f m n];simp only[hget];by_cases h:b<=m/\m<b+n
  .rw[Ak h,Ak (by omega)]
  .rw[Ad h];by_cases z:b+n=m
   .subst z;rw[Ak (by omega),show b+n - b=n by omega];simp
   .have:(b+n==m)=false:=by simpa using z
    rw[this,Ad (by omega)];rfl
def GK(b n:Nat)(f:Nat->An)(j:Nat)(h:j<n):hget (AS b n f) (b+j)=some (f j):=by
 rw[eU,Ak (by omega),show b+j - b=j by omega]
def Qmh(b n:Nat)(f:Nat->An)(m:Nat)(h:m<b\/b+n<=m):hget (AS b n f) m=none:=by
 rw[eU,Ad (by omega)]
def W0(m:Nat)(ks:List Nat): ∀(x:Ao),hget (Bi x ks) m=if ks.contains m then none else hget x m
 |[]=>by simp[Bi,hget]
 |(q,e)::r=>by
  simp only[Bi];have ih:=W0 m ks r;cases hq:ks.contains q
  .simp only[Bq,hget];cases hqm:q==m
   .simpa using ih
   .have:q=m:=by simpa using hqm
    subst this;simp only[Cg,hq];rfl
  .simp only[Cg,ih,hget];cases hqm:q==m
   .simp
   .have:q=m:=by simpa using hqm
    subst this;rw[Ak hq,Ak hq]
def VO(b n:Nat)(f:Nat->An)(ks:List Nat)(h: ∀k∈ks,k<b\/b+n<=k):Bi (AS b n f) ks=AS b n f:=by
 have: ∀(l:List Nat),(∀i∈l,i<n)->Bi (l.map λi=>(b+i,f i)) ks=l.map λi=>(b+i,f i):=by
  intro l;induction l with
  |nil=>intro _;rfl
  |cons i r ih=>
   intro Q;have O:=Q i (BR ..);have z:ks.contains (b+i)=false:=by
    rw[Oh];intro z
    have:=h _ (Hp.1 z)
    omega
   simp only[Bg,Bi,z,Bq,ih (λj Z=>Q j (BQ _ Z))]
 exact this _ (λi O=>Bv.1 O)
def Qns(π:List (Nat×Option Nat))(s:Av)(y:Ao): ∀(x:Ao),GU π s (x++y)=(GU π s x/\GU π s y)
 |[]=>by simp[GU]
 |(q,(z,e))::r=>by simp only[De,GU,Qns π s y r,gJ]
def dZ(π:List (Nat×Option Nat))(s:Av)(b n:Nat)(f:Nat->An):GU π s (AS b n f)↔ ∀i,i<n->Eu s π (f i).1 (f i).2 (pm π (b+i)):=by
 have: ∀(l:List Nat),GU π s (l.map λi=>(b+i,f i))↔ ∀i∈l,Eu s π (f i).1 (f i).2 (pm π (b+i)):=by
  intro l;induction l with
  |nil=>simp[GU]
  |cons i r ih=>simp only[Bg,GU,ih,Be,vL]
 rw[AS,this];simp only[Bv]
def Fk:Ao->List Nat
 |[]=>[]
 |(n,_)::r=>n::Fk r
def eF(π:List (Nat×Option Nat)): ∀(H:Ao),OF π H=(Fk H).map (pm π)
 |[]=>rfl
 |(n,e)::r=>by simp only[OF,Fk,Bg,eF π r]
def Zk(b n:Nat)(f:Nat->An):Fk (AS b n f)=(List.range n).map (b+ ·):=by
 have: ∀(l:List Nat),Fk (l.map λi=>(b+i,f i))=l.map (b+ ·):=by
  intro l;induction l with
  |nil=>rfl
  |cons i r ih=>simp only[Bg,Fk,ih]
 exact this _
def eP(g:Nat->Option Nat): ∀(l:List Nat),l.Nodup->(∀x∈l,∀y∈l,∀m,g x=some m->g y=some m->x=y)->EU (l.map g)=true
 |[],_,_=>rfl
 |x::r,h,O=>by
  simp only[IH] at h;have ih:=eP g r h.2 (λa Z b hb=>O a (BQ _ Z) b (BQ _ hb));simp only[Bg];cases hx:g x with
  |none=>simpa only[EU] using ih
  |some m=>
   simp only[EU,ih,F5,Qk];rw[Oh];intro hc;obtain⟨y,Q,z⟩:=Bh.1 (Hp.1 hc)
   have:=O x (BR ..) y (BQ _ Q) m hx z
   exact h.1 (this▸Q)
def eQ(π:List (Nat×Option Nat)): ∀(a b:List (List AV)),GA π a b↔a.length=b.length/\ ∀(i:Nat) x y,a[i]? =some x->b[i]? =some y->DI π x y
 |[],[]=>by simp[GA]
 |[],_::_=>by simp[GA]
 |_::_,[]=>by simp[GA]
 |x::r,y::s=>by
  simp only[GA,eQ π r s,CQ,Nat.add_right_cancel_iff];constructor
  .rintro⟨h1,Z,Q⟩;refine⟨Z,λi x' y' z O=> ?_⟩;cases i with
   |zero=>
    simp only[Ho,AI] at z O;subst z;subst O;exact h1
   |succ i=>exact Q i x' y' (by simpa using z) (by simpa using O)
  .rintro⟨Z,Q⟩;exact⟨Q 0 x y rfl rfl,Z,λi x' y' z O=>Q (i+1) x' y' (by simpa using z) (by simpa using O)⟩
def QW(nx b:Nat)(f:Nat->An)(hf: ∀i,Au nx [(b+i,f i)]=true)(n:Nat):Au nx (AS b n f)=true:=by
 have O: ∀(x y:Ao),Au nx (x++y)=(Au nx x && Au nx y):=by
  intro x y;induction x with
  |nil=>simp[Au]
  |cons z r ih=>
   obtain⟨q,Z,e⟩:=z;cases e<;>simp[Au,ih,ZeB]
 have: ∀(l:List Nat),Au nx (l.map λi=>(b+i,f i))=true:=by
  intro l;induction l with
  |nil=>rfl
  |cons i r ih=>
   have Q:=O [(b+i,f i)] (r.map λi=>(b+i,f i));rw[Bg,show (b+i,f i)::(r.map λi=>(b+i,f i))=[(b+i,f i)]++(r.map λi=>(b+i,f i)) from rfl,Q,hf i,ih];rfl
 exact this _
def QJ(nx b n:Nat)(f:Nat->An)(h:b+n<=nx):BB nx (AS b n f)=true:=by
 have: ∀(l:List Nat),(∀i∈l,i<n)->BB nx (l.map λi=>(b+i,f i))=true:=by
  intro l;induction l with
  |nil=>intro _;rfl
  |cons i r ih=>
   intro z;simp only[Bg,BB,ih (λj Q=>z j (BQ _ Q)),F5];rw[E4]
   have:=z i (BR ..)
   omega
 exact this _ (λi O=>Bv.1 O)
def IU(b n:Nat):List (Nat×Option Nat):=(List.range n).map λi=>(b+i,none)
def lU(b n m:Nat):pm (IU b n) m=if b<=m/\m<b+n then none else some m:=by
 have: ∀(l:List Nat),pm (l.map λi=>(b+i,none)) m=if b<=m/\m - b∈l then none else some m:=by
  intro l;induction l with
  |nil=>simp[pm]
  |cons i r ih=>
   simp only[Bg,pm,ih,Be];by_cases h:b+i=m
   .rw[Ak h,Ak ⟨by omega,.inl (by omega)⟩]
   .rw[Ad h];by_cases z:b<=m/\m - b∈r
    .rw[Ak z,Ak ⟨z.1,.inr z.2⟩]
    .rw[Ad z,Ad (by rintro⟨Q,O|O⟩;exact h (by omega);exact z ⟨Q,O⟩)]
 rw[IU,this];simp only[Bv];by_cases h:b<=m/\m<b+n
 .rw[Ak h,Ak (by omega)]
 .rw[Ad h,Ad (by omega)]
def Su(lo b n:Nat)(h:lo<=b):V9 lo (IU b n):=by
 have: ∀(l:List Nat),V9 lo (l.map λi=>(b+i,none)):=by
  intro l;induction l with
  |nil=>trivial
  |cons i r ih=>simp only[Bg,V9];exact⟨by omega,ih⟩
 exact this _
end Go.Ae
namespace Go.Ae
open Go.Proofs
def Dl(n:Bc)(v i:Int):Int×Int:=match n.Bonds[i.toNat]? with
 |some b=>if b.A=v then (b.Strength - n.Flow[i.toNat]?.getD 0,b.B) else (b.Strength+n.Flow[i.toNat]?.getD 0,b.A)
 |none=>(0,0)
structure Ds(n:Bc):Prop where
 c0:0<=n.Cnt
 c1:n.Cnt<=1000000
 fl:n.Flow.length=n.Bonds.length
 al:(n.At.length:Int)=n.Cnt
 bs:Lm n.Cnt n.Bonds
 at_: ∀(v:Nat) (r:List Int),n.At[v]? =some r-> ∀i∈r,0<=i/\ ∃b,n.Bonds[i.toNat]? =some b/\(b.A=v\/b.B=v)
 f: ∀x∈n.Flow,-1000000<=x/\x<=1000000
 st: ∀b∈n.Bonds,0<=b.Strength/\b.Strength<=1000000
 all: ∀(i:Nat) b,n.Bonds[i]? =some b->(∃r,n.At[b.A.toNat]? =some r/\(i:Int)∈r)/\ ∃r,n.At[b.B.toNat]? =some r/\(i:Int)∈r
 ne: ∀b∈n.Bonds,b.A≠b.B
def roomC.fv(a:Bc×Int×Int):Int×Int:=(Dl) (a.1) (a.2.1) (a.2.2)
def roomC.row:Ay:=D1 (b3 (qP 4 Bc.d_le) qI qI) (r2 rI rI) (λa=>Ds a.1/\0<=a.2.2/\a.2.2<a.1.Bonds.length) roomC.fv
def roomC.q:=DX (R:=roomC.row) rfl
def roomC.ok:A9 208 roomC.row:=by
 refine GF tN Tryz.func208 ?_;intro a z;simp only[Tryz.f208];simp only[ZZ,simprocAttr,roomC.fv,D.sc,D.scs,BC];obtain⟨O,Q,h3⟩:=z;have ab:=O.fl;refine⟨Q,h3,λb Z=> ?_⟩;have ac:=O.st b (Ba Z)
 split<;>rename_i h
 .refine⟨Q,by omega,λf hf=> ?_⟩;have aa:=O.f f (Ba hf);rw[AC (by omega) (by omega)];simp only[Dl,Z,hf,AO];rw[Ak h]
 .refine⟨Q,by omega,λf hf=> ?_⟩;have aa:=O.f f (Ba hf);rw[AC (by omega) (by omega)];simp only[Dl,Z,hf,AO];rw[Ad h]
def D3(n:Bc)(v i:Int):Int:=match n.Bonds[i.toNat]? with
 |some b=>b.A+b.B - v
 |none=>0
def B6(n:Bc)(v:Int)(s:List Int×List Int)(i:Int):List Int×List Int:=
 if s.1[(D3 n v i).toNat]?.getD 0<0/\0<(Dl n (D3 n v i) i).1 then (s.1.set (D3 n v i).toNat (s.1[v.toNat]?.getD 0+1),s.2++[D3 n v i]) else s
def CA(n:Bc)(q:Int):Nat->List Int×List Int
 |0=>((List.replicate n.Cnt.toNat (-1)).set q.toNat 0,[q])
 |k+1=>match (CA n q k).2[k]? with
  |none=>CA n q k
  |some v=>(n.At[v.toNat]?.getD []).foldl (B6 n v) (CA n q k)
def Fh(n:Bc)(q:Int):List Int:=(CA n q n.Cnt.toNat).1
structure WG(n:Bc)(s:List Int×List Int):Prop where
 len:s.1.length=n.Cnt.toNat
 rng: ∀x∈s.1,-1<=x/\x<=s.2.length
 q: ∀x∈s.2,0<=x/\x<n.Cnt
 cnt:(s.1.filter (λx=>decide (0<=x))).length=s.2.length
def Qlu{A:Type}(p:A->Bool): ∀(l:List A) (w:Nat) (x y:A),l[w]? =some x->p x=false->p y=true->((l.set w y).filter p).length=(l.filter p).length+1
 |[],w,x,y,h,_,_=>by simp at h
 |z::r,0,x,y,h,O,Q=>by
  simp only[Ho,AI] at h;subst h;simp[O,Q]
 |z::r,w+1,x,y,h,O,Q=>by
  have:=Qlu p r w x y (by simpa using h) O Q
  simp only[mU,ZeP];split
  .simp only[CQ,this]
  .exact this
def zJ{n:Bc}(h0:0<=n.Cnt){s:List Int×List Int}(h:WG n s):(s.2.length:Int)<=n.Cnt:=by
 have z:=h.cnt;have O:=Zfa (λx=>decide (0<=x)) s.1;have Q:=h.len;omega
def eD{n:Bc}(hn:Ds n){v:Nat}{r:List Int}(Z:n.At[v]? =some r){i:Int}(Q:i∈r):0<=i/\i<n.Bonds.length/\0<=D3 n v i/\D3 n v i<n.Cnt:=by
 obtain⟨h0,b,z,hv⟩:=hn.at_ v r Z i Q;have O:=hn.bs b (Ba z);have hl:=(Cx.1 z).1;simp only[D3,z];omega
def Qtm{n:Bc}(hn:Ds n){v:Nat}{r:List Int}(Z:n.At[v]? =some r){i:Int}(Q:i∈r){s:List Int×List Int}(hs:WG n s):WG n (B6 n v s i):=by
 obtain⟨_,_,o1,o2⟩:=eD hn Z Q;simp only[B6];split
 .rename_i h;have O:(D3 n v i).toNat<s.1.length:=by rw[hs.len];omega
  obtain⟨x,hx⟩: ∃x,s.1[(D3 n v i).toNat]? =some x:=⟨_,Bk O⟩;have aa:x<0:=by have:=h.1;rw[hx] at this;simpa using this
  have hvb:0<=s.1[(v:Int).toNat]?.getD 0+1/\s.1[(v:Int).toNat]?.getD 0+1<=s.2.length+1:=by
   cases hv:s.1[(v:Int).toNat]? with
   |none=>simp;omega
   |some y=>have:=hs.rng y (Ba hv);simp only[AO];omega
  refine⟨by simpa using hs.len,λy z=> ?_,λy z=> ?_,?_⟩
  .simp only[CD,CQ,FS];rcases WU z with z|z
   .have:=hs.rng y z;omega
   .subst z;omega
  .rcases Bs.1 z with z|z
   .exact hs.q y z
   .rw[BS] at z;subst z;exact⟨o1,o2⟩
  .rw[Qlu _ _ _ x _ hx (by rw[Lw];omega) (by rw[B3];exact hvb.1),hs.cnt];simp
 .exact hs
def Qs1{n:Bc}(hn:Ds n){v:Nat}{r:List Int}(Q:n.At[v]? =some r): ∀(l:List Int) (s:List Int×List Int),(∀i∈l,i∈r)->WG n s->WG n (l.foldl (B6 n v) s)
 |[],s,_,z=>z
 |i::l,s,O,z=>Qs1 hn Q l _ (λj Z=>O j (BQ _ Z)) (Qtm hn Q (O i (BR ..)) z)
def W6{n:Bc}(hn:Ds n){q:Int}(h0:0<=q)(O:q<n.Cnt): ∀k,WG n (CA n q k)
 |0=>by
  have hq:q.toNat<n.Cnt.toNat:=by omega
  refine⟨by simp[CA],λx z=> ?_,λx z=> ?_,?_⟩
  .simp only[CA] at z⊢;rcases WU z with z|z
   .have:=Od z;simp;omega
   .subst z;simp
  .simp only[CA,BS] at z;subst z;exact⟨h0,O⟩
  .simp only[CA];rw[Qlu _ _ _ (-1) _ (by rw[Lv,Ak hq]) (by simp) (by simp)]
   have:(List.replicate n.Cnt.toNat (-1:Int)).filter (λx=>decide (0<=x))=[]:=by
    rw[List.filter_eq_nil_iff];intro x z;rw[Od z];simp
   rw[this];rfl
 |k+1=>by
  have ih:=W6 hn h0 O k;simp only[CA];split
  .exact ih
  .rename_i v Z;have aa:=ih.q v (Ba Z);obtain⟨m,rfl⟩: ∃m:Nat,v=m:=⟨v.toNat,by omega⟩;have Q:m<n.At.length:=by have:=hn.al;omega
   obtain⟨r,hr⟩: ∃r,n.At[m]? =some r:=⟨_,Bk Q⟩;simp only[B5,hr,AO];exact Qs1 hn hr r _ (λ_ h=>h) ih
def L2(n:Bc)(q:Int): ∀(m k:Nat),(CA n q k).2.length<=k->CA n q (k+m)=CA n q k
 |0,k,_=>rfl
 |m+1,k,h=>by
  have z:CA n q (k+1)=CA n q k:=by
   rw[CA,Fm h]
  have O:=L2 n q m (k+1) (by rw[z];omega);rw[show k+(m+1)=k+1+m by omega,O,z]
def Qwn(n:Bc)(v:Int): ∀(l:List Int) (s:List Int×List Int),s.2.length<=(l.foldl (B6 n v) s).2.length
 |[],s=>AN _
 |i::l,s=>by
  have z:s.2.length<=(B6 n v s i).2.length:=by
   simp only[B6];split
   .simp
   .exact AN _
  exact DR z (Qwn n v l _)
def stepsC.fv(a:Bc×Int):List Int:=(Fh) (a.1) (a.2)
def stepsC.row:Ay:=D1 (b2 (qP 4 Bc.d_le) qI) (rS DO Dc) (λa=>Ds a.1/\0<=a.2/\a.2<a.1.Cnt) stepsC.fv
def stepsC.q:=DX (R:=stepsC.row) rfl
def stepsC.ok:A9 185 stepsC.row:=by
 refine GF (tC roomC.ok tN) Tryz.func185 ?_;intro a ah;simp only[Tryz.f185];simp only[ZZ,simprocAttr,stepsC.fv];obtain⟨hn,ai,ao⟩:=ah;have aw:=hn.c1;obtain⟨c,hc⟩: ∃c:Nat,a.1.Cnt=c:=⟨a.1.Cnt.toNat,by omega⟩;refine AU.ren ⟨{k:Nat//k<=c},λk=>⟨[(6,.im (.int .i64 k.1)),(5,.own 3),(0,.ptr 0 0),(1,.im (.int .i64 a.2))],[(3,(true,.arr 2 1 ((List.replicate k.1 (-1:Int)).map Aj))),(0,(false,.view (Bc.c a.1)))],4⟩,λk=>c - k.1,λk=>⟨by simp[ZG],by simp⟩,⟨⟨0,by simp⟩,[(3,some 2)],?_⟩,λk=> ?_⟩
 .simp only[Aw];simp only[ZZ,simprocAttr,Br,List.replicate_zero]
  try simp
 obtain⟨k,am⟩:=k;simp only[ZZ,simprocAttr,JM,AR,hc,Ob];refine⟨λhk=>⟨by omega,⟨k+1,by omega⟩,[(3,some 5)],by simp only;omega,?_⟩,λhk=> ?_⟩
 .simp only[Aw];simp only[ZA,simprocAttr,Br];refine⟨by rw[AC (by omega) (by omega)];omega,?_⟩;rw[List.replicate_succ'];simp[Aj]
 have an:c=k:=by omega
 subst an;refine⟨ai,by omega,by omega,λ_ _=> ?_⟩;have au:=hn.al;have ad:=W6 hn ai ao;refine AU.ren ⟨{k:Nat//k<=(CA a.1 a.2 k).2.length},λk=>⟨[(8,.im (.int .i64 k.1)),(7,.own 5),(5,.own 3),(0,.ptr 0 0),(1,.im (.int .i64 a.2))],[(5,(true,.arr 2 1 ((CA a.1 a.2 k.1).2.map Aj))),(3,(true,.arr 2 1 ((CA a.1 a.2 k.1).1.map Aj))),(0,(false,.view (Bc.c a.1)))],6⟩,λk=>c - k.1,λk=>⟨by simp[ZG],by simp⟩,⟨⟨0,by simp⟩,[(5,some 4)],?_⟩,λk=> ?_⟩
 .simp only[Aw];simp only[ZZ,simprocAttr,Br,hc,CA];simp[Aj,Of]
 obtain⟨k,am⟩:=k;have hi:=ad k;have ax:=hi.len;have az:=zJ (by omega) hi;simp only[ZZ,simprocAttr,JM,D.sc,Qt,BC,AR,hc];intro _;refine⟨λhk=>⟨hk,hk,λv hv=> ?_⟩,λhk=> ?_⟩
 .have a9:=hi.q v (Ba hv);obtain⟨m,rfl⟩: ∃m:Nat,v=m:=⟨v.toNat,by omega⟩;have hm:m<a.1.At.length:=by omega
  obtain⟨r,hr⟩: ∃r,a.1.At[m]? =some r:=⟨_,Bk hm⟩;have Q:CA a.1 a.2 (k+1)=r.foldl (B6 a.1 m) (CA a.1 a.2 k):=by
   simp only[CA,hv,B5,hr,AO]
  refine AU.ren ⟨{j:Nat//j<=r.length},λj=>⟨[(10,.im (.int .i64 j.1)),(9,.im (.int .i64 m)),(8,.im (.int .i64 k)),(7,.own 6),(5,.own 3),(0,.ptr 0 0),(1,.im (.int .i64 a.2))],[(6,(true,.arr 2 1 (((r.take j.1).foldl (B6 a.1 m) (CA a.1 a.2 k)).2.map Aj))),(3,(true,.arr 2 1 (((r.take j.1).foldl (B6 a.1 m) (CA a.1 a.2 k)).1.map Aj))),(0,(false,.view (Bc.c a.1)))],7⟩,λj=>r.length - j.1,λj=>⟨by simp[ZG],by simp⟩,⟨⟨0,by simp⟩,[(6,some 5)],?_⟩,λj=> ?_⟩
  .simp only[Aw];simp only[ZZ,simprocAttr,Br,hc,ZeC]
   try simp
  obtain⟨j,ay⟩:=j;have hs:=Qs1 hn hr (r.take j) _ (λi hi=>ZdK hi) hi;obtain⟨s,hsd⟩: ∃s,s=(r.take j).foldl (B6 a.1 m) (CA a.1 a.2 k):=⟨_,rfl⟩;rw[<-hsd] at hs;have aq:=hs.len;have a8:=zJ (by omega) hs;simp only[<-hsd];have ag:(⟨(c:Int),a.1.Bonds,a.1.At,a.1.Flow⟩:Bc)=a.1:=by rw[<-hc]
  simp only[ZZ,simprocAttr,CS,roomC.q,roomC.fv,JM,AR,hc,ag,aq,NG,NE,xZ,BK,D.one];refine⟨hm,λr' O=> ?_⟩;rw[hr] at O;obtain rfl:=A7 O;intro a0;refine⟨λhj=>⟨hm,λr' O=> ?_⟩,λhj=> ?_⟩
  .rw[hr] at O;obtain rfl:=A7 O;refine⟨hj,λi ac=> ?_⟩;have aj:=Ba ac;obtain⟨i0,i1,o0,o1⟩:=eD hn hr aj;have z:(r.take (j+1)).foldl (B6 a.1 m) (CA a.1 a.2 k)=B6 a.1 m s i:=by
    rw[Ib,ac,List.foldl_append,<-hsd];rfl
   refine⟨i0,i1,λb hb=>⟨i0,i1,λb' ab=> ?_⟩⟩;rw[hb] at ab;obtain rfl:=A7 ab;have av:=hn.bs b (Ba hb);have hw:IntKind.wrap .i64 (IntKind.wrap .i64 (b.A+b.B) - m)=D3 a.1 m i:=by
    rw[AC (x:=b.A+b.B) (by omega) (by omega),AC (by omega) (by omega)];simp only[D3,hb]
   rw[hw];have af:(D3 a.1 m i).toNat<c:=by omega
   refine⟨⟨hn,i0,i1⟩,o0,by omega,af,λx hx=>⟨λaa=>⟨λZ=>⟨by omega,by omega,λy hy=>⟨o0,by omega,af,λ_ _=>⟨by omega,⟨j+1,by omega⟩,[(6,some 8)],by simp only;omega,?_⟩⟩⟩,λZ=>⟨⟨j+1,by omega⟩,[(6,some 6)],by simp only;omega,?_⟩⟩,λaa=>⟨⟨j+1,by omega⟩,[(6,some 6)],by simp only;omega,?_⟩⟩⟩
   .have e1:B6 a.1 m s i=(s.1.set (D3 a.1 m i).toNat (y+1),s.2++[D3 a.1 m i]):=by
     simp only[B6];rw[Ak ⟨by rw[hx];exact aa,Z⟩,B5,hy];rfl
    have ba:=hs.rng y (Ba hy);simp only[Aw,z,e1];simp only[ZA,simprocAttr,Br];rw[AC (x:=y+1) (by omega) (by omega)];refine⟨by rw[AC (by omega) (by omega)];omega,?_,?_⟩
    .simp[Aj]
    .simp[Aj,Of]
   .have e1:B6 a.1 m s i=s:=by
     simp only[B6];rw[Ad (λh=>Z h.2)]
    simp only[Aw,z,e1];simp only[ZA,simprocAttr,Br];rw[AC (by omega) (by omega)];simp
   .have e1:B6 a.1 m s i=s:=by
     simp only[B6];rw[Ad (λh=>aa (by have:=h.1;rw[hx] at this;exact this))]
    simp only[Aw,z,e1];simp only[ZA,simprocAttr,Br];rw[AC (by omega) (by omega)];simp
  .have ak:j=r.length:=by omega
   subst ak;rw[IG] at hsd;refine⟨⟨k+1,by
    have:=Qwn a.1 m r (CA a.1 a.2 k)
    rw[Q];omega⟩,[(5,some 6)],by simp only;omega,?_⟩
   simp only[Aw,Q,<-hsd];simp only[ZA,simprocAttr,Br];rw[AC (by omega) (by omega)];simp
 .rw[Fh,hc,B5]
  have:=L2 a.1 a.2 (c - k) k (by omega)
  rw[show k+(c - k)=c by omega] at this;rw[this]
def ZM(l:List Int):Nat->List Int
 |0=>[]
 |k+1=>ZM l k++(if 0<=l[k]?.getD (-1) then [(k:Int)] else [])
def Qu8(l:List Int): ∀k,(ZM l k).length<=k
 |0=>AN _
 |k+1=>by
  have:=Qu8 l k
  simp only[ZM,CD]
  split<;>simp<;>omega
def fI(n:Bc)(q:Int):List Int:=ZM (Fh n q) n.Cnt.toNat
def rZ{n:Bc}(hn:Ds n){q:Int}(h0:0<=q)(z:q<n.Cnt):(Fh n q).length=n.Cnt.toNat:=(W6 hn h0 z _).len
def sideC.fv(a:Bc×Int):List Int:=(fI) (a.1) (a.2)
def sideC.row:Ay:=D1 (b2 (qP 4 Bc.d_le) qI) (rS DO Dc) (λa=>Ds a.1/\0<=a.2/\a.2<a.1.Cnt) sideC.fv
def sideC.q:=DX (R:=sideC.row) rfl
def sideC.ok:A9 157 sideC.row:=by
 refine GF (tC stepsC.ok tN) Tryz.func157 ?_;intro a z;simp only[Tryz.f157];simp only[ZZ,simprocAttr,CS,sideC.fv,stepsC.q,stepsC.fv];refine⟨z,?_⟩;obtain⟨hn,Q,Z⟩:=z;have aa:=hn.c1;obtain⟨c,hc⟩: ∃c:Nat,a.1.Cnt=c:=⟨a.1.Cnt.toNat,by omega⟩;have O:=rZ hn Q Z;rw[hc,B5] at O;simp only[fI,hc,B5];obtain⟨l,hl⟩: ∃l,l=Fh a.1 a.2:=⟨_,rfl⟩;simp only[<-hl] at O⊢;refine AU.ren ⟨{k:Nat//k<=c},λk=>⟨[(7,.im (.int .i64 k.1)),(6,.own 3),(5,.im (.sl false 1 (l.map Aj))),(0,.ptr 0 0)],[(3,(true,.arr 2 1 ((ZM l k.1).map Aj))),(0,(false,.view (Bc.c a.1)))],4⟩,λk=>c - k.1,λk=>⟨by simp[ZG],by simp⟩,⟨⟨0,by simp⟩,[(3,some 2)],?_⟩,λk=> ?_⟩
 .simp only[Aw];simp only[ZZ,simprocAttr,Br,hc,ZM]
  try simp
 obtain⟨k,ab⟩:=k;have ac:=Qu8 l k;simp only[ZZ,simprocAttr,JM,D.sc,Qt,BC,AR,hc,O,NG,NE,xZ,BK,D.one];refine⟨λhk=>⟨hk,λx hx=>⟨λh=>⟨by omega,⟨k+1,by omega⟩,[(3,some 5)],by simp only;omega,?_⟩,λh=>⟨⟨k+1,by omega⟩,[(3,some 3)],by simp only;omega,?_⟩⟩⟩,λhk=> ?_⟩
 .simp only[Aw];simp only[ZA,simprocAttr,Br];refine⟨by rw[AC (by omega) (by omega)];omega,?_⟩;simp only[ZM,hx,AO];rw[Ak h];simp[Aj]
 .simp only[Aw];simp only[ZA,simprocAttr,Br];refine⟨by rw[AC (by omega) (by omega)];omega,?_⟩;simp only[ZM,hx,AO];rw[Ad h,DA]
 .rw[show k=c by omega]
def HW(n:Bc)(v i:Int):Bc:=⟨n.Cnt,n.Bonds,n.At,match n.Bonds[i.toNat]? with
 |some b=>n.Flow.set i.toNat (if b.A=v then n.Flow[i.toNat]?.getD 0+1 else n.Flow[i.toNat]?.getD 0 - 1)
 |none=>n.Flow⟩
def HP(n:Bc):List AV:=[.im (.int .i64 n.Cnt),.im (.sl false 3 (n.Bonds.map Ag.c)),.im (.sl false 1 (n.At.map CK)),.own 1]
def Gq(n:Bc):Ao:=[(0,(true,.cells 249 (HP n))),(1,(true,.arr 2 1 (n.Flow.map Aj)))]
def oA(n:Bc)(j:Nat):Al (Gq n) j=true↔j<2:=by
 simp only[Al,Gq,hget];by_cases h0:j=0
 .subst h0;simp
 .by_cases Q:j=1
  .subst Q;simp
  .have z:(0==j)=false:=by simp;omega
   have O:(1==j)=false:=by simp;omega
   simp[z,O];omega
def aO(j:Nat):Bool:=j==1
def pushC.ca(a:Bc×Int×Int):List AV:=[.ptr 0 0,.im (.int .i64 a.2.1),.im (.int .i64 a.2.2)]
def pushC.H1(a:Bc×Int×Int):Ao:=[(1,(true,.arr 2 1 ((HW a.1 a.2.1 a.2.2).Flow.map Aj)))]
def pushC.row:Ay:=AA pushC.ca (λa=>Gq a.1) 2 (λa=>Ds a.1/\0<=a.2.2/\a.2.2<a.1.Bonds.length) aO (λ_=> .im (.tup [])) pushC.H1 0
def pushC.ok:A9 209 pushC.row:=by
 refine ow tN Tryz.func209 (exB:=λ_=>false) (R:=λ_ r=>r= .im (.tup [])) (λ_=>rfl)
  (λa=>by simp[pushC.ca,Gq,HP,AE,AV.bel,Au,BB,BU,Ac.nms,AB,AV.nms,Al,hget]) (λa p hp=> ?_) (λa r h=>by subst h;exact CN.refl _) ?_
 rotate_left
 intro a z;simp only[Tryz.f209,pushC.ca,Gq,HP,pushC.H1];simp only[ZA,simprocAttr,aO];obtain⟨hn,h0,Z⟩:=z;have aa:=hn.fl;refine⟨h0,Z,λb Q=> ?_⟩
 split<;>rename_i h
 .refine⟨h0,by omega,by omega,λf hf=>⟨h0,by omega,by omega,λ_ _=> ?_⟩⟩;have O:=hn.f f (Ba hf);rw[AC (by omega) (by omega)];simp only[HW,Q,hf,AO,Ak h,Of];rfl
 .refine⟨h0,by omega,by omega,λf hf=>⟨h0,by omega,by omega,λ_ _=> ?_⟩⟩;have O:=hn.f f (Ba hf);rw[AC (by omega) (by omega)];simp only[HW,Q,hf,AO,Ad h,Of];rfl
 simp[pushC.H1] at hp;subst hp;exact .inl ⟨by omega,rfl,rfl⟩
structure FD(n:Bc)(q:Int)(s:List Int×List Int):Prop where
 zero:s.1[q.toNat]? =some 0
 uniq: ∀(w:Nat),s.1[w]? =some 0->w=q.toNat
 prev: ∀(w:Nat) (x:Int),s.1[w]? =some x->0<x-> ∃(v:Nat) (r:List Int) (i:Int),s.1[v]? =some (x - 1)/\n.At[v]? =some r/\i∈r/\D3 n v i=w/\0<(Dl n w i).1
 qs: ∀v∈s.2,∃y,s.1[v.toNat]? =some y/\0<=y
def sB(n:Bc)(v:Int)(s:List Int×List Int)(i:Int)(u:Nat)(y:Int)(h:s.1[u]? =some y)(h0:0<=y):(B6 n v s i).1[u]? =some y:=by
 simp only[B6];split
 .rename_i O;have z:(D3 n v i).toNat≠u:=by
   intro Q;rw[Q,h] at O
   have:=O.1
   simp at this;omega
  simp only;rw[DM z];exact h
 .exact h
def Qor(n:Bc)(v:Int)(u:Nat)(y:Int)(h0:0<=y): ∀(l:List Int) (s:List Int×List Int),s.1[u]? =some y->(l.foldl (B6 n v) s).1[u]? =some y
 |[],_,h=>h
 |i::l,s,h=>Qor n v u y h0 l _ (sB n v s i u y h h0)
def gP{n:Bc}(hn:Ds n){q:Int}{v:Nat}{r:List Int}(hr:n.At[v]? =some r){i:Int}(hi:i∈r){s:List Int×List Int}(hs:WG n s)(hp:FD n q s){y:Int}(hv:s.1[v]? =some y)(hy:0<=y):FD n q (B6 n v s i):=by
 obtain⟨_,_,o1,o2⟩:=eD hn hr hi;have keep:=λu z h h0=>sB n v s i u z h h0
 have aa:(D3 n v i).toNat<s.1.length:=by rw[hs.len];omega
 by_cases hc:s.1[(D3 n v i).toNat]?.getD 0<0/\0<(Dl n (D3 n v i) i).1
 .have Z:B6 n v s i=(s.1.set (D3 n v i).toNat (y+1),s.2++[D3 n v i]):=by
   simp only[B6];rw[Ak hc,B5,hv];rfl
  have hget: ∀(w:Nat) (x:Int),(B6 n v s i).1[w]? =some x->(w=(D3 n v i).toNat/\x=y+1)\/s.1[w]? =some x:=by
   intro w x O;rw[Z] at O;simp only at O;by_cases hw:(D3 n v i).toNat=w
   .subst hw;rw[Dv aa] at O;exact .inl ⟨rfl,(A7 O).symm⟩
   .rw[DM hw] at O;exact .inr O
  refine⟨keep _ _ hp.zero (by omega),λw hw=> ?_,λw x O h0=> ?_,λu Q=> ?_⟩
  .rcases hget w 0 hw with ⟨_,h⟩|h
   .omega
   .exact hp.uniq w h
  .rcases hget w x O with ⟨h1,h2⟩|h
   .refine⟨v,r,i,keep _ _ (by rw[hv];congr 1;omega) (by omega),hr,hi,by omega,?_⟩
    have:(w:Int)=D3 n v i:=by omega
    rw[this];exact hc.2
   .obtain⟨v',r',i',g1,g2,g3,g4,g5⟩:=hp.prev w x h h0;exact⟨v',r',i',keep _ _ g1 (by omega),g2,g3,g4,g5⟩
  .rw[Z] at Q;rcases Bs.1 Q with Q|Q
   .obtain⟨z,h1,h2⟩:=hp.qs u Q;exact⟨z,keep _ _ h1 h2,h2⟩
   .rw[BS] at Q;subst Q;refine⟨y+1,?_,by omega⟩;rw[Z];exact Dv aa
 .have Z:B6 n v s i=s:=by simp only[B6];rw[Ad hc]
  rw[Z];exact hp
def Ry{n:Bc}(hn:Ds n){q:Int}{v:Nat}{r:List Int}(O:n.At[v]? =some r){y:Int}(Q:0<=y): ∀(l:List Int) (s:List Int×List Int),(∀i∈l,i∈r)->WG n s->FD n q s->s.1[v]? =some y->FD n q (l.foldl (B6 n v) s)
 |[],s,_,_,hp,_=>hp
 |i::l,s,z,Z,hp,hv=>Ry hn O Q l _ (λj hj=>z j (BQ _ hj)) (Qtm hn O (z i (BR ..)) Z) (gP hn O (z i (BR ..)) Z hp hv Q) (sB n v s i v y hv Q)
def NC{n:Bc}(hn:Ds n){q:Int}(h0:0<=q)(h1:q<n.Cnt): ∀k,FD n q (CA n q k)
 |0=>by
  have hq:q.toNat<n.Cnt.toNat:=by omega
  have z:q.toNat<(List.replicate n.Cnt.toNat (-1:Int)).length:=by rw[Ob];exact hq
  have hget: ∀(w:Nat) (x:Int),((List.replicate n.Cnt.toNat (-1:Int)).set q.toNat 0)[w]? =some x->(w=q.toNat/\x=0)\/x= -1:=by
   intro w x O;by_cases Z:q.toNat=w
   .subst Z;rw[Dv z] at O;exact .inl ⟨rfl,(A7 O).symm⟩
   .rw[DM Z] at O;exact .inr (Od (Ba O))
  refine⟨Dv z,λw Z=> ?_,λw x O ab=> ?_,λv Q=> ?_⟩
  .rcases hget w 0 Z with h|h
   .exact h.1
   .omega
  .rcases hget w x O with h|h<;>omega
  .simp only[CA,BS] at Q;subst Q;exact⟨0,Dv z,Og _⟩
 |k+1=>by
  have ih:=NC hn h0 h1 k;have hi:=W6 hn h0 h1 k;simp only[CA];split
  .exact ih
  .rename_i v Q;have ac:=hi.q v (Ba Q);obtain⟨m,rfl⟩: ∃m:Nat,v=m:=⟨v.toNat,by omega⟩;have hm:m<n.At.length:=by have:=hn.al;omega
   obtain⟨r,hr⟩: ∃r,n.At[m]? =some r:=⟨_,Bk hm⟩;obtain⟨y,hy,aa⟩:=ih.qs _ (Ba Q);simp only[B5,hr,AO];exact Ry hn hr aa r _ (λ_ h=>h) hi ih (by simpa using hy)
def I9(n:Bc):Prop:= ∀(i:Nat) b f,n.Bonds[i]? =some b->n.Flow[i]? =some f-> -b.Strength<=f/\f<=b.Strength
def FP(n:Bc)(st:List Int)(v:Int)(acc:Int×Int)(i:Int):Int×Int:=
 if 0<(Dl n v i).1/\st[(Dl n v i).2.toNat]?.getD 0=st[v.toNat]?.getD 0 - 1/\(acc.1<0\/(Dl n v i).2<acc.1) then ((Dl n v i).2,i) else acc
def GO(n:Bc)(st:List Int)(v:Int):Int×Int:=(n.At[v.toNat]?.getD []).foldl (FP n st v) (-1,0)
def BP(n:Bc)(st:List Int)(p:Int):Nat->Bc×Int
 |0=>(n,p)
 |k+1=>(HW (BP n st p k).1 (BP n st p k).2 (GO (BP n st p k).1 st (BP n st p k).2).2,(GO (BP n st p k).1 st (BP n st p k).2).1)
def Fj(n:Bc)(p q:Int):Bc×Bool:=
 if (Fh n q)[p.toNat]?.getD 0<0 then (n,false) else ((BP n (Fh n q) p ((Fh n q)[p.toNat]?.getD 0).toNat).1,true)
def uM{n:Bc}(hn:Ds n){v:Nat}{r:List Int}(Z:n.At[v]? =some r){i:Int}(Q:i∈r):0<=(Dl n v i).2/\(Dl n v i).2<n.Cnt:=by
 obtain⟨h0,b,z,hv⟩:=hn.at_ v r Z i Q;have O:=hn.bs b (Ba z);simp only[Dl,z]
 split<;>simp only<;>omega
def LV(n:Bc)(st:List Int)(v:Int)(r:List Int)(w:Int×Int):Prop:=w.2∈r/\0<(Dl n v w.2).1/\(Dl n v w.2).2=w.1/\st[w.1.toNat]?.getD 0=st[v.toNat]?.getD 0 - 1/\0<=w.1
def Qq8{n:Bc}(hn:Ds n)(st:List Int){v:Nat}{r:List Int}(Q:n.At[v]? =some r): ∀(l:List Int) (acc:Int×Int),(∀i∈l,i∈r)->(acc.1<0\/LV n st v r acc)->(l.foldl (FP n st v) acc).1<0\/LV n st v r (l.foldl (FP n st v) acc)
 |[],acc,_,h=>h
 |i::l,acc,z,h=>by
  refine Qq8 hn st Q l _ (λj Z=>z j (BQ _ Z)) ?_;simp only[FP];split
  .rename_i O;exact .inr ⟨z i (BR ..),O.1,rfl,O.2.1,(uM hn Q (z i (BR ..))).1⟩
  .exact h
def Pa{n:Bc}(hn:Ds n)(st:List Int){v:Nat}{r:List Int}(O:n.At[v]? =some r){i:Int}(z:i∈r)(acc:Int×Int)(h:0<=acc.1):0<=(FP n st v acc i).1:=by
 simp only[FP];split
 .exact (uM hn O z).1
 .exact h
def Qvo{n:Bc}(hn:Ds n)(st:List Int){v:Nat}{r:List Int}(O:n.At[v]? =some r): ∀(l:List Int) (acc:Int×Int),(∀i∈l,i∈r)->0<=acc.1->0<=(l.foldl (FP n st v) acc).1
 |[],_,_,h=>h
 |i::l,acc,z,h=>Qvo hn st O l _ (λj Q=>z j (BQ _ Q)) (Pa hn st O (z i (BR ..)) acc h)
def Qqh{n:Bc}(hn:Ds n)(st:List Int){v:Nat}{r:List Int}(Q:n.At[v]? =some r){i:Int}(Z:0<(Dl n v i).1)(h2:st[(Dl n v i).2.toNat]?.getD 0=st[(v:Int).toNat]?.getD 0 - 1): ∀(l:List Int) (acc:Int×Int),(∀i∈l,i∈r)->i∈l->0<=(l.foldl (FP n st v) acc).1
 |[],_,_,h=>by cases h
 |j::l,acc,hl,h=>by
  simp only[gD];have z:=λk hk=>hl k (BQ _ hk)
  rcases Be.1 h with rfl|h
  .refine Qvo hn st Q l _ z ?_;have hb:=uM hn Q (hl _ (BR ..));simp only[FP];split
   .exact hb.1
   .rename_i hc;rcases Zfr acc.1 0 with O|O
    .exact absurd ⟨Z,h2,.inl O⟩ hc
    .exact O
  .exact Qqh hn st Q Z h2 l _ z h
def Pb{n:Bc}(hn:Ds n)(st:List Int){v:Nat}{r:List Int}(z:n.At[v]? =some r){i:Int}(Z:i∈r)(O:0<(Dl n v i).1)(Q:st[(Dl n v i).2.toNat]?.getD 0=st[(v:Int).toNat]?.getD 0 - 1):LV n st v r (GO n st v):=by
 have e:GO n st v=r.foldl (FP n st v) (-1,0):=by simp only[GO,B5,z,AO]
 rw[e];have h3:=Qqh hn st z O Q r (-1,0) (λ_ h=>h) Z;rcases Qq8 hn st z r (-1,0) (λ_ h=>h) (.inl (by decide)) with h|h
 .omega
 .exact h
def Yp{n:Bc}(hn:Ds n)(hc:I9 n){v:Nat}{i:Int}(h0:0<=i)(z:0<(Dl n v i).1):Ds (HW n v i)/\I9 (HW n v i):=by
 obtain⟨m,rfl⟩: ∃m:Nat,i=m:=⟨i.toNat,by omega⟩;have Q:I9 (HW n v m):=by
  intro j b f O hf;simp only[HW,B5] at O hf;simp only[Dl,B5] at z;cases hbm:n.Bonds[m]? with
  |none=>rw[hbm] at hf;exact hc j b f O hf
  |some b'=>
   rw[hbm] at hf z;simp only at hf z;by_cases Z:m=j
   .subst Z;rw[O] at hbm;obtain rfl:=A7 hbm;have aa:m<n.Flow.length:=by
     have:=(Cx.1 hf).1
     simpa using this
    rw[Dv aa] at hf;have hf:=A7 hf;obtain⟨g,hg⟩: ∃g,n.Flow[m]? =some g:=⟨_,Bk aa⟩;have ac:=hc m b g O hg;rw[hg] at hf z;simp only[AO] at hf z;split at hf<;>rename_i hA
    .rw[Ak hA] at z;simp only at z;omega
    .rw[Ad hA] at z;simp only at z;omega
   .rw[DM Z] at hf;exact hc j b f O hf
 refine⟨⟨hn.c0,hn.c1,?_,hn.al,hn.bs,hn.at_,?_,hn.st,hn.all,hn.ne⟩,Q⟩
 .have:=hn.fl
  simp only[HW];split
  .simpa using this
  .exact this
 .intro x hx;obtain⟨j,Z⟩:=V4.1 hx;have ad:=(Cx.1 Z).1;have ab:(HW n v m).Flow.length=n.Bonds.length:=by
   rw[<-hn.fl];simp only[HW];split
   .simp
   .rfl
  obtain⟨b,O⟩: ∃b,n.Bonds[j]? =some b:=⟨_,Bk (by omega)⟩;have h1:=Q j b x O Z;have h2:=hn.st b (Ba O);omega
def Qabc(n:Bc)(v i:Int)(j:Nat)(h:i.toNat≠j):(HW n v i).Flow[j]? =n.Flow[j]? :=by
 simp only[HW];split
 .exact DM h
 .rfl
def Pk{n n':Bc}(z:n'.Bonds=n.Bonds)(i:Int)(hf:n'.Flow[i.toNat]? =n.Flow[i.toNat]?)(v:Int):Dl n' v i=Dl n v i:=by
 simp only[Dl,z,hf]
structure bH(n:Bc)(st:List Int)(p:Int)(d k:Nat):Prop where
 ok:Ds (BP n st p k).1
 cap:I9 (BP n st p k).1
 cnt:(BP n st p k).1.Cnt=n.Cnt
 bs:(BP n st p k).1.Bonds=n.Bonds
 at_:(BP n st p k).1.At=n.At
 v: ∃m:Nat,(BP n st p k).2=m/\(m:Int)<n.Cnt/\st[m]? =some ((d:Int) - k)
 fl: ∀(i:Nat) b,n.Bonds[i]? =some b->st[b.A.toNat]?.getD 0<=(d:Int) - k->st[b.B.toNat]?.getD 0<=(d:Int) - k->(BP n st p k).1.Flow[i]? =n.Flow[i]?
def zB{n:Bc}(hn:Ds n){q:Int}{st qu:List Int}(ag:st.length=n.Cnt.toNat)(hP:FD n q (st,qu)){p:Int}{d k:Nat}(hk:k<d)(hI:bH n st p d k):
 ∃(m:Nat) (r:List Int),(BP n st p k).2=m/\n.At[m]? =some r/\LV (BP n st p k).1 st m r (GO (BP n st p k).1 st m)/\st[m]? =some ((d:Int) - k)/\(GO (BP n st p k).1 st m).1<n.Cnt:=by
 obtain⟨m,hm,aj,Q⟩:=hI.v;have af:m<n.At.length:=by have:=hn.al;omega
 obtain⟨r,hr⟩: ∃r,n.At[m]? =some r:=⟨_,Bk af⟩;have ab:(BP n st p k).1.At[m]? =some r:=by rw[hI.at_];exact hr
 obtain⟨v',r',i,g1,g2,g3,g4,g5⟩:=hP.prev m _ Q (by omega);simp only at g1;obtain⟨ai,b,hb,aa⟩:=hn.at_ v' r' g2 i g3;have ah:=hn.bs b (Ba hb);have ac:b.A+b.B - v'=m:=by simpa only[D3,hb] using g4
 have z:=hn.all i.toNat b hb;rw[show ((i.toNat:Nat):Int)=i by omega] at z;have ad:i∈r:=by
  rcases aa with h|h
  .obtain⟨r2,Z,h3⟩:=z.2;rw[show b.B.toNat=m by omega,hr] at Z;obtain rfl:=A7 Z;exact h3
  .obtain⟨r2,Z,h3⟩:=z.1;rw[show b.A.toNat=m by omega,hr] at Z;obtain rfl:=A7 Z;exact h3
 have ak:=hn.ne b (Ba hb);have O:Dl (BP n st p k).1 m i=Dl n m i:=by
  refine Pk hI.bs i (hI.fl i.toNat b hb ?_ ?_) m
  .rcases aa with h|h
   .rw[show b.A.toNat=v' by omega,g1];simp only[AO];omega
   .rw[show b.A.toNat=m by omega,Q];simp only[AO];omega
  .rcases aa with h|h
   .rw[show b.B.toNat=m by omega,Q];simp only[AO];omega
   .rw[show b.B.toNat=v' by omega,g1];simp only[AO];omega
 have Z:(Dl n m i).2=v':=by
  simp only[Dl,hb]
  split<;>simp only<;>omega
 have hg:=Pb hI.ok st ab ad (by rw[O];exact g5) (by rw[O,Z,B5,g1,B5,Q];simp only[AO]);refine⟨m,r,hm,hr,hg,Q,?_⟩
 have:=(uM hI.ok ab hg.1).2
 rw[hg.2.2.1,hI.cnt] at this;exact this
def lK{n:Bc}(hn:Ds n)(hc:I9 n){q:Int}{st qu:List Int}(O:st.length=n.Cnt.toNat)(hP:FD n q (st,qu)){p:Int}(ad:0<=p)(af:p<n.Cnt){d:Nat}(hd:st[p.toNat]? =some (d:Int)): ∀k,k<=d->bH n st p d k
 |0,_=>⟨hn,hc,rfl,rfl,rfl,⟨p.toNat,by simp only[BP];omega,by omega,by rw[hd];simp⟩,λi b _ _ _=>rfl⟩
 |k+1,hk=>by
  have ih:=lK hn hc O hP ad af hd k (by omega);obtain⟨m,r,Q,hr,hg,Z,ah⟩:=zB hn O hP (by omega) ih;obtain⟨h1,h2⟩:=Yp ih.ok ih.cap (i:=(GO (BP n st p k).1 st m).2) (ih.ok.at_ m r (by rw[ih.at_];exact hr) _ hg.1).1 hg.2.1;obtain⟨j0,b,hb,ac⟩:=hn.at_ m r hr _ hg.1;have ag:=hg.2.2.2.2;have aa:=hg.2.2.2.1;rw[B5,Z,AO] at aa;obtain⟨z,hz⟩: ∃z,st[(GO (BP n st p k).1 st m).1.toNat]? =some z:=⟨_,Bk (by omega)⟩;rw[hz,AO] at aa;refine⟨?_,?_,?_,?_,?_,⟨(GO (BP n st p k).1 st m).1.toNat,?_,by omega,by rw[hz,aa];congr 1;omega⟩,?_⟩
  .simp only[BP,Q];exact h1
  .simp only[BP,Q];exact h2
  .simp only[BP,Q];exact ih.cnt
  .simp only[BP,Q];exact ih.bs
  .simp only[BP,Q];exact ih.at_
  .simp only[BP,Q];omega
  .intro i b' ab hA hB;simp only[BP,Q];rw[Qabc]
   .exact ih.fl i b' ab (by omega) (by omega)
   .intro he;rw[he,ab] at hb;obtain rfl:=A7 hb;rcases ac with h|h
    .rw[h,B5,Z] at hA;simp only[AO] at hA;omega
    .rw[h,B5,Z] at hB;simp only[AO] at hB;omega
def growC.ca(a:Bc×Int×Int):List AV:=[.ptr 0 0,.im (.int .i64 a.2.1),.im (.int .i64 a.2.2)]
def growC.H1(a:Bc×Int×Int):Ao:=[(1,(true,.arr 2 1 ((Fj a.1 a.2.1 a.2.2).1.Flow.map Aj)))]
def growC.r0(a:Bc×Int×Int):AV:= .im (.bool (Fj a.1 a.2.1 a.2.2).2)
def XL(a:Bc×Int×Int):Prop:=Ds a.1/\I9 a.1/\0<=a.2.1/\a.2.1<a.1.Cnt/\0<=a.2.2/\a.2.2<a.1.Cnt
def growC.row:Ay:=AA growC.ca (λa=>Gq a.1) 2 XL aO growC.r0 growC.H1 0
def growC.ok:A9 184 growC.row:=by
 refine ow (tC stepsC.ok (tC roomC.ok (tC pushC.ok tN))) Tryz.func184 (exB:=λ_=>false) (R:=λa r=>r=growC.r0 a) (λ_=>rfl)
  (λa=>by simp[growC.ca,Gq,HP,AE,AV.bel,Au,BB,BU,Ac.nms,AB,AV.nms,Al,hget]) (λa p hp=> ?_) (λa r h=>by subst h;exact CN.refl _) ?_
 rotate_left
 intro a ba;simp only[Tryz.f184,growC.ca,Gq,HP,growC.H1];simp only[ZZ,simprocAttr,CS,stepsC.q,stepsC.fv,aO];obtain⟨hn,ay,a8,bj,ak,am⟩:=ba;refine⟨⟨hn,ak,am⟩,a8,?_⟩;have bo:=hn.c1;have ai:=rZ hn ak am;have hP:=NC hn ak am a.1.Cnt.toNat;have ab:=(W6 hn ak am a.1.Cnt.toNat).rng;have bw:=zJ hn.c0 (W6 hn ak am a.1.Cnt.toNat);refine⟨by omega,λx hx=> ?_⟩
 split<;>rename_i aj
 .have e:Fj a.1 a.2.1 a.2.2=(a.1,false):=by simp only[Fj];rw[hx];simp only[AO];rw[Ak aj]
  exact⟨by simp only[growC.r0,e],by rw[e]⟩
 obtain⟨d,rfl⟩: ∃d:Nat,x=d:=⟨x.toNat,by omega⟩;have e:Fj a.1 a.2.1 a.2.2=((BP a.1 (Fh a.1 a.2.2) a.2.1 d).1,true):=by simp only[Fj];rw[hx];simp only[AO];rw[Ad aj,B5]
 simp only[growC.r0,e];have bc:(CA a.1 a.2.2 a.1.Cnt.toNat).1=Fh a.1 a.2.2:=rfl;have Q:FD a.1 a.2.2 (Fh a.1 a.2.2,(CA a.1 a.2.2 a.1.Cnt.toNat).2):=hP;have bp:=ab (d:Int) (Ba hx);clear e hP aj;obtain⟨st,hst⟩: ∃st,st=Fh a.1 a.2.2:=⟨_,rfl⟩;rw[bc] at ab;simp only[<-hst] at ai Q hx ab⊢;have ax:=λk hk=>lK hn ay ai Q a8 bj hx k hk
 refine AU.old ⟨{k:Nat//k<=d},λk=>⟨[(8,.im (.int .i64 (BP a.1 st a.2.1 k.1).2)),(7,.im (.sl false 1 (st.map Aj))),(0,.ptr 0 0),(1,.im (.int .i64 a.2.1)),(2,.im (.int .i64 a.2.2))],[(0,(true,.cells 249 (HP a.1))),(1,(true,.arr 2 1 ((BP a.1 st a.2.1 k.1).1.Flow.map Aj)))],2⟩,λk=>d - k.1,λk=>⟨by simp[ZG,HP],AN _⟩,⟨⟨0,by simp⟩,by simp only[ZA,simprocAttr,HP,sub,BP,HP]⟩,λk=> ?_⟩;obtain⟨k,bf⟩:=k;have hI:=ax k bf;obtain⟨m,hm,bu,bb⟩:=hI.v;simp only[HP,hm];simp only[ZA,simprocAttr,aO,AR];refine⟨λbv=> ?_,λhe=> ?_⟩
 .have bg:k<d:=by
   rcases EI k d with h|h
   .exact h
   .have:=Q.uniq m (by rw[bb];congr 1;omega)
    omega
  obtain⟨m',r,bh,hr,hg,_,bm⟩:=zB hn ai Q bg hI;rw[hm] at bh;have bi:m'=m:=by omega
  subst bi;have aa:BP a.1 st a.2.1 (k+1)=(HW (BP a.1 st a.2.1 k).1 m' (GO (BP a.1 st a.2.1 k).1 st m').2,(GO (BP a.1 st a.2.1 k).1 st m').1):=by simp only[BP,hm]
  have a9:GO (BP a.1 st a.2.1 k).1 st m'=r.foldl (FP (BP a.1 st a.2.1 k).1 st m') (-1,0):=by simp only[GO,B5,hI.at_,hr,AO]
  have Z:=hI.ok;have ag:=hI.cnt;have aw:=hI.bs;have ao:=hI.at_;obtain⟨N,hN⟩: ∃N,N=(BP a.1 st a.2.1 k).1:=⟨_,rfl⟩;simp only[<-hN] at aa a9 Z ag aw ao hg bm⊢;have av:N.At[m']? =some r:=by rw[ao];exact hr
  have a0:(⟨a.1.Cnt,a.1.Bonds,a.1.At,N.Flow⟩:Bc)=N:=by rw[<-ag,<-aw,<-ao]
  have au:m'<a.1.At.length:=(Cx.1 hr).1;refine AU.old ⟨{j:Nat//j<=r.length},λj=>⟨[(11,.im (.int .i64 j.1)),(10,.im (.int .i64 ((r.take j.1).foldl (FP N st m') (-1,0)).2)),(9,.im (.int .i64 ((r.take j.1).foldl (FP N st m') (-1,0)).1)),(8,.im (.int .i64 m')),(7,.im (.sl false 1 (st.map Aj))),(0,.ptr 0 0),(1,.im (.int .i64 a.2.1)),(2,.im (.int .i64 a.2.2))],[(0,(true,.cells 249 (HP a.1))),(1,(true,.arr 2 1 (N.Flow.map Aj)))],2⟩,λj=>r.length - j.1,λj=>⟨by simp[ZG,HP],AN _⟩,⟨⟨0,by simp⟩,by simp only[ZA,simprocAttr,HP,sub,HP,ZeC]⟩,λj=> ?_⟩;obtain⟨j,bt⟩:=j;obtain⟨acc,hacc⟩: ∃acc,acc=(r.take j).foldl (FP N st m') (-1,0):=⟨_,rfl⟩;simp only[HP,<-hacc];simp only[ZZ,simprocAttr,CS,roomC.q,roomC.fv,sub,AR,a0];refine⟨au,λr1 O=> ?_⟩;rw[hr] at O;obtain rfl:=A7 O;intro bx;refine⟨λhj=>⟨au,λr1 O=> ?_⟩,λhj=> ?_⟩
  .rw[hr] at O;obtain rfl:=A7 O;refine⟨hj,λi aq=> ?_⟩;have az:=Ba aq;obtain⟨i0,i1,_,_⟩:=eD Z av az;have bl:=uM Z av az;have z:(r.take (j+1)).foldl (FP N st m') (-1,0)=FP N st m' acc i:=by
    rw[Ib,aq,List.foldl_append,<-hacc];rfl
   have ac:0<(Dl N m' i).1->st[(Dl N m' i).2.toNat]?.getD 0=st[(m':Int).toNat]?.getD 0 - 1->(acc.1<0\/(Dl N m' i).2<acc.1)->FP N st m' acc i=((Dl N m' i).2,i):=by
    intro h1 h2 h3;simp only[FP];rw[Ak ⟨h1,h2,h3⟩]
   have an:IntKind.wrap .i64 ((j:Int)+1)=((j+1:Nat):Int):=by rw[AC (by omega) (by omega)];omega
   refine⟨⟨Z,i0,i1⟩,λh1=>⟨bl.1,by omega,λx' bn=>⟨by omega,λy' bd=> ?_⟩⟩,λh1=>⟨⟨j+1,by omega⟩,by simp only;omega,an,?_,?_⟩⟩
   .have bz:=ab y' (Ba bd);rw[AC (x:=y' - 1) (by omega) (by omega)];have ad:st[(Dl N m' i).2.toNat]?.getD 0=x':=by rw[bn];rfl
    have af:st[(m':Int).toNat]?.getD 0=y':=by rw[B5,bd];rfl
    refine⟨λh2=>⟨λh3=>⟨λh4=>⟨au,λr1 O=> ?_⟩,λh4=>⟨⟨j+1,by omega⟩,by simp only;omega,an,?_,?_⟩⟩,λh3=>⟨au,λr1 O=> ?_⟩⟩,λh2=>⟨⟨j+1,by omega⟩,by simp only;omega,an,?_,?_⟩⟩
    .rw[hr] at O;obtain rfl:=A7 O;refine⟨hj,λi' ah=>⟨⟨j+1,by omega⟩,by simp only;omega,an,?_,?_⟩⟩
     .rw[aq] at ah;obtain rfl:=A7 ah;simp only[z];rw[ac h1 (by rw[ad,af,h2]) (.inr h4)]
     .simp only[z];rw[ac h1 (by rw[ad,af,h2]) (.inr h4)]
    .simp only[z,FP];rw[Ad (λh=>by rcases h.2.2 with h|h<;>omega)]
    .simp only[z,FP];rw[Ad (λh=>by rcases h.2.2 with h|h<;>omega)]
    .rw[hr] at O;obtain rfl:=A7 O;refine⟨hj,λi' ah=>⟨⟨j+1,by omega⟩,by simp only;omega,an,?_,?_⟩⟩
     .rw[aq] at ah;obtain rfl:=A7 ah;simp only[z];rw[ac h1 (by rw[ad,af,h2]) (.inl (Gi.1 h3))]
     .simp only[z];rw[ac h1 (by rw[ad,af,h2]) (.inl (Gi.1 h3))]
    .simp only[z,FP];rw[Ad (λh=>h2 (by rw[<-ad,<-af];exact h.2.1))]
    .simp only[z,FP];rw[Ad (λh=>h2 (by rw[<-ad,<-af];exact h.2.1))]
   .simp only[z,FP];rw[Ad (λh=>h1 h.1)]
   .simp only[z,FP];rw[Ad (λh=>h1 h.1)]
  .have be:j=r.length:=by omega
   subst be;rw[IG] at hacc;rw[<-a9] at hacc;subst hacc;have br:=Z.at_ m' r av _ hg.1;obtain⟨i0,i1,_,_⟩:=eD Z av hg.1;refine AA.os (N,(m':Int),(GO N st m').2) [0,1] ⟨Z,i0,i1⟩ (λj=>oA _ j) rfl rfl ?_ ?_
   .simp only[ZA,simprocAttr,DL,Gq,HP,pushC.ca,Gq,HP];rw[ag,aw,ao];exact⟨rfl,rfl,rfl⟩
   .simp only[ZA,simprocAttr,DL,aO,pushC.H1,aO,sub];exact⟨⟨k+1,by omega⟩,by simp only;omega,by simp only[aa],by simp only[aa]⟩
 .have:k=d:=by
   have h1:=Q.zero;rw[show a.2.2.toNat=m by omega,bb] at h1
   have:=A7 h1
   omega
  rw[this]
 simp[growC.H1] at hp;subst hp;exact .inl ⟨by omega,rfl,rfl⟩
def AX(a b:Nat)(h:a≠b):(a==b)=false:=by simpa using h
def Rb{α β γ:Type}{f:α->Option β}{g:γ->α}{k:γ->β}: ∀(l:List γ),(∀i∈l,f (g i)=some (k i))->Ar f (l.map g)=some (l.map k)
 |[],_=>rfl
 |x::r,h=>by simp only[Bg,Ar,h x (BR ..),Rb r (λi z=>h i (BQ _ z))]
def X7{H:Nat->Option An}{kx:Nat->Option Nat}{m b n T:Nat}(f:Nat->List Int)(O: ∀i,i<n->kx (b+i)=none)(hH: ∀i,i<n->H (b+i)=some (true,.arr T 1 ((f i).map Aj))):
 Ar (Ar λx=>Er (Bb H kx (m+1) x)) ((List.range n).map λi=>[AV.own (b+i)])=some (((List.range n).map f).map CK):=by
 rw[Oe];refine Rb _ (λi z=> ?_);have z:=Bv.1 z;simp only[Ar,Bb,O i z,hH i z,PW,kp,CY,Er,AV.asD,Function.comp,CK]
def Lj(H:Ao)(a b:Nat)(h:a≠b):hget (Bi H [a]) b=hget H b:=by
 rw[W0,Ad];simp;omega
def WC{α:Type}{a b:Nat}{x y:α}(h:a≠b):(if a=b then x else y)=y:=Ad h
def Bu: ∀(x:Ao),Bi x []=x
 |[]=>rfl
 |(m,e)::r=>by simp[Bi,Bu r]
def dQ(L:List Nat)(b n:Nat)(h:L.Nodup)(z: ∀x∈L,x<b):(L++(List.range n).map (b+ ·)).Nodup:=by
 rw[WV];refine⟨h,?_,?_⟩
 .rw[Zes,List.pairwise_map];exact ZeH (λh Z=>h (by omega)) (Zes.1 List.nodup_range)
 .intro x O y Q he;obtain⟨i,_,rfl⟩:=Bh.1 Q
  have:=z x O
  omega
def Ig(bs:List Ag)(i:Nat):Nat->List Int
 |0=>[]
 |k+1=>Ig bs i k++(match bs[k]? with
  |some b=>(if b.A=i then [(k:Int)] else [])++(if b.B=i then [(k:Int)] else [])
  |none=>[])
def Qwx(bs:List Ag)(i:Nat): ∀k,(Ig bs i k).length<=2*k
 |0=>AN _
 |k+1=>by
  have:=Qwx bs i k
  simp only[Ig,CD];split
  .simp only[CD]
   split<;>split<;>simp<;>omega
  .simp;omega
def CW(n:Int)(bs:List Ag):Bc:=⟨n,bs,(List.range n.toNat).map (λi=>Ig bs i bs.length),List.replicate bs.length 0⟩
def newNC.ca(a:Int×List Ag):List AV:=[.im (.int .i64 a.1),.im (.sl false 3 (a.2.map Ag.c))]
def newNC.H1(a:Int×List Ag):Ao:=[(0,(true,.cells 249 [.im (.int .i64 a.1),.im (.sl false 3 (a.2.map Ag.c)),.im (.sl false 1 ((CW a.1 a.2).At.map CK)),.own 2])),(2,(true,.arr 2 1 ((CW a.1 a.2).Flow.map Aj)))]
def Zw(a:Int×List Ag):Prop:=0<=a.1/\a.1<=1000/\a.2.length<=1000000/\Lm a.1 a.2/\ ∀b∈a.2,b.A≠b.B
def nA(j:Nat):Bool:=j==0||j==2
def newNC.row:Ay:=AA newNC.ca (λ_=>[]) 0 Zw (λ_=>false) (λ_=> .ptr 0 0) newNC.H1 3010
def newNC.ok:A9 183 newNC.row:=by
 refine ow tN Tryz.func183 (exB:=nA) (R:=λ_ r=>r= .ptr 0 0) (λ_=>rfl)
  (λa=>by simp[newNC.ca,AE,AV.bel,Au,BB,BU]) (λa p hp=> ?_) (λa r h=>by subst h;exact CN.refl _) ?_
 rotate_left
 intro a ay;simp only[Tryz.f183,newNC.ca,newNC.H1];simp(disch:=omega)only[ZA,simprocAttr];obtain⟨ax,ba,hl,an,bb⟩:=ay;refine⟨ax,Og _,by omega,λ_=>⟨by omega,?_⟩⟩;obtain⟨n,hn⟩: ∃n:Nat,a.1=n:=⟨a.1.toNat,by omega⟩;rw[hn] at ax ba an;simp only[hn,B5];refine AU.ren ⟨{k:Nat//k<=a.2.length},λk=>⟨[(6,.im (.int .i64 k.1)),(5,.ptr 0 0),(1,.im (.sl false 3 (a.2.map Ag.c)))],(0,(true,.cells 249 [.im (.int .i64 n),.im (.sl false 3 (a.2.map Ag.c)),.own 1,.own 2]))::(2,(true,.arr 2 1 ((List.replicate a.2.length (0:Int)).map Aj)))::(1,(true,.arrA 31 1 ((List.range n).map λi=>[AV.own (1000+i)])))::AS 1000 n (λi=>(true,.arr 2 1 ((Ig a.2 i k.1).map Aj))),3000⟩,λk=>a.2.length - k.1,λk=>⟨?_,by simp⟩,⟨⟨0,by simp⟩,IU 1000 n,?_⟩,λk=> ?_⟩
 .simp only[ZG,F5,DB];rw[QW _ _ _ (λi=>by simp[Au]),QJ _ _ _ _ (by omega)];simp[AE,AV.bel];omega
 .refine⟨Su _ _ _ (by simp),?_,?_,?_⟩
  .rw[eF];simp only[Fk,Zk];refine eP _ _ (dQ [0,2,1] 1000 n (by simp) (by simp)) ?_;intro x hx y hy m O z;rw[lU] at O z;split at O
   .cases O
   .split at z
    .cases z
    .exact (A7 O).trans (A7 z).symm
  .simp only[Qb,A8];simp(disch:=omega)only[ZA,simprocAttr,lU,GS];simp[GS]
  .have p0:pm (IU 1000 n) 0=some 0:=by rw[lU,Ad (by omega)]
   have p1:pm (IU 1000 n) 1=some 1:=by rw[lU,Ad (by omega)]
   have p2:pm (IU 1000 n) 2=some 2:=by rw[lU,Ad (by omega)]
   have pf: ∀i,i<n->pm (IU 1000 n) (1000+i)=none:=by intro i Q;rw[lU,Ak (by omega)]
   simp only[GU,dZ];refine⟨?_,?_,?_,λi Q=> ?_⟩
   .simp(disch:=omega)only[ZA,simprocAttr,p0,p1,p2]
   .simp(disch:=omega)only[ZA,simprocAttr,p2];simp[Aj]
   .simp(disch:=omega)only[ZA,simprocAttr,p1];rw[eQ];refine⟨by simp,λi x y hx hy=> ?_⟩;simp only[Du,D9] at hx hy;obtain⟨i',ai,rfl⟩:=hx;obtain⟨w,hw,rfl⟩:=hy;have be:=Od (Ba hw);subst be
    have:=Bv.1 (Ba ai)
    simp(disch:=omega)only[ZA,simprocAttr,pf i' this]
   .rw[pf i Q];simp(disch:=omega)only[ZA,simprocAttr,Ig]
 obtain⟨k,bl⟩:=k;simp(disch:=omega)only[ZA,simprocAttr,DL,nA,AR,Bu];intro _;refine⟨λhk=>⟨hk,λb hb=>⟨hk,λb' aa=> ?_⟩⟩,λhk=> ?_⟩
 .rw[hb] at aa;obtain rfl:=A7 aa;obtain⟨b1,b2,b3,b4⟩:=an b (Ba hb);have bj:=bb b (Ba hb);refine⟨b1,by rw[ZP];exact b2,by rw[ZP];omega,λx hx=> ?_⟩;obtain⟨az,bg⟩:=Cx.1 hx;rw[ZP] at az;rw[Zew] at bg;have bt:x<n:=by omega
  refine⟨by omega,?_,?_⟩
  .simp;omega
  have bf:(1000+x<3000\/3000<=1000+x)=True:=gK (by omega);have bo:(1000+x==0)=false:=AX _ _ (by omega);have bp:(1000+x==1)=false:=AX _ _ (by omega);have br:(1000+x==2)=false:=AX _ _ (by omega);have bm:=Qwx a.2 x k;simp(disch:=omega)only[ZA,simprocAttr,WC,GK,Bu,bf,AX];refine⟨by omega,by omega,?_⟩;refine⟨b1,by rw[ZP];exact b2,by rw[ZP];exact az,λ_ _=> ?_⟩;have Z: ∀N,3001<N->((List.map (λi=>[AV.own (1000+i)]) (List.range n)).set b.A.toNat [AV.own 3001]).all (AE N)=true:=by
   intro N hN;rw[C6];intro r hr;rcases WU hr with hr|hr
   .obtain⟨i,Q,rfl⟩:=Bh.1 hr
    have:=Bv.1 Q
    simp[AE,AV.bel];omega
   .subst hr;simp[AE,AV.bel];omega
  refine⟨Z _ (by omega),⟨by simp,by simp,by simp⟩,hk,λb' aa=>⟨hk,λb'' ah=> ?_⟩⟩;rw[hb] at aa ah;obtain rfl:=A7 aa;obtain rfl:=A7 ah;obtain⟨y,hy⟩: ∃y:Nat,b.B=y:=⟨b.B.toNat,by omega⟩;have bu:y≠x:=by omega
  have bi:y<n:=by omega
  have a0:b.B.toNat=y:=by omega
  refine⟨b3,by simp;omega,by simp;omega,λrow ab=> ?_⟩;have am:row=[AV.own (1000+y)]:=by
   rw[a0,DM (by omega),Du,Ic bi] at ab;exact (A7 ab).symm
  subst am;have bh:(1000+y<3002\/3002<=1000+y)=True:=gK (by omega);have bn:=Qwx a.2 y k;simp(disch:=omega)only[ZA,simprocAttr,DL,WC,GK,Bu,bh,AX,Lj];refine⟨by omega,by omega,by omega,b3,by simp;omega,by simp;omega,λrow ac=> ?_⟩;rw[ab] at ac;obtain rfl:=A7 ac;simp only[ZA,simprocAttr,Bu,AX];refine⟨?_,⟨by simp,by simp,by simp⟩,⟨k+1,by omega⟩,[(1000+x,some 3001),(1000+y,some 3003)],by simp only;omega,?_⟩
  .rw[C6];intro r hr;rcases WU hr with hr|hr
   .exact C6.1 (Z 3004 (by omega)) r hr
   .subst hr;simp[AE,AV.bel]
  obtain⟨g,hg⟩: ∃g,g=pm [(1000+x,some 3001),(1000+y,some 3003)]:=⟨_,rfl⟩;have qx:g (1000+x)=some 3001:=by rw[hg];simp[pm]
  have qy:g (1000+y)=some 3003:=by rw[hg];simp only[pm];rw[Ad (by omega)];simp
  have qo: ∀u,u≠1000+x->u≠1000+y->g u=some u:=by intro u O z;rw[hg];simp only[pm];rw[Ad (by omega),Ad (by omega)]
  have a8: ∀i,i<n->Ig a.2 i (k+1)=if i=x\/i=y then Ig a.2 i k++[(k:Int)] else Ig a.2 i k:=by
   intro i Q;simp only[Ig,hb];by_cases O:i=x
   .subst O;rw[Ak (by omega),Ad (by omega),Ak (.inl rfl),DA]
   .by_cases z:i=y
    .subst z;rw[Ad (by omega),Ak (by omega),Ak (.inr rfl),FC]
    .rw[Ad (by omega),Ad (by omega),Ad (by omega)];simp
  refine⟨⟨by omega,by omega,trivial⟩,?_,?_,?_⟩
  .rw[eF,<-hg];simp only[Fk,Zk];refine eP _ _ (dQ [0,2,1] 1000 n (by simp) (by simp)) ?_;have au: ∀u∈[0,2,1]++(List.range n).map (1000+ ·),u<2000:=by
    intro u hu;rcases Bs.1 hu with hu|hu
    .simp at hu;omega
    .obtain⟨i,Q,rfl⟩:=Bh.1 hu
     have:=Bv.1 Q
     show 1000+i<2000;omega
   have hc: ∀u,u<2000->(u=1000+x/\g u=some 3001)\/(u=1000+y/\g u=some 3003)\/g u=some u:=by
    intro u _;by_cases O:u=1000+x
    .exact .inl ⟨O,O▸qx⟩
    .by_cases z:u=1000+y
     .exact .inr (.inl ⟨z,z▸qy⟩)
     .exact .inr (.inr (qo u O z))
   intro u hu v hv m av aw;have bc:=au u hu;have bd:=au v hv;rcases hc u bc with ⟨e1,e2⟩|⟨e1,e2⟩|e2<;>rcases hc v bd with ⟨f1,f2⟩|⟨f1,f2⟩|f2<;>rw[e2] at av<;>rw[f2] at aw<;>simp only[AI] at av aw<;>omega
  .have q0:pm [(1000+x,some 3001),(1000+y,some 3003)] 0=some 0:=by rw[<-hg];exact qo 0 (by omega) (by omega)
   simp only[Qb,A8];simp only[ZA,simprocAttr,q0];rw[AC (by omega) (by omega)];simp
  .have q0:pm [(1000+x,some 3001),(1000+y,some 3003)] 0=some 0:=by rw[<-hg];exact qo 0 (by omega) (by omega)
   have q1:pm [(1000+x,some 3001),(1000+y,some 3003)] 1=some 1:=by rw[<-hg];exact qo 1 (by omega) (by omega)
   have q2:pm [(1000+x,some 3001),(1000+y,some 3003)] 2=some 2:=by rw[<-hg];exact qo 2 (by omega) (by omega)
   have af:=qx;have ag:=qy;have ad:=qo;rw[hg] at af ag ad;simp only[GU,dZ];refine⟨?_,?_,?_,λi Q=> ?_⟩
   .simp only[ZA,simprocAttr,q0,q1,q2]
   .simp only[ZA,simprocAttr,q2]
   .simp only[ZA,simprocAttr,q1];rw[eQ];refine⟨by simp,λi r1 r2 O z=> ?_⟩;simp only[Du,D9] at O;obtain⟨i',ai,rfl⟩:=O;obtain⟨aq,ao⟩:=Cx.1 ai;rw[ZP] at aq;rw[Zew] at ao;subst ao;rw[a0,show b.A.toNat=x by omega] at z;by_cases ak:i=y
    .subst ak;rw[Dv (by simp;omega)] at z;obtain rfl:=A7 z;simp only[DI,mt,ag,FK,Hr]
    .rw[DM (by omega)] at z;by_cases aj:i=x
     .subst aj;rw[Dv (by simp;omega)] at z;obtain rfl:=A7 z;simp only[DI,mt,af,FK,Hr]
     .rw[DM (by omega),Du,Ic aq] at z;obtain rfl:=A7 z;simp only[DI,mt,ad (1000+i) (by omega) (by omega),FK,Hr]
   .show Eu _ _ true (.arr 2 1 ((Ig a.2 i (k+1)).map Aj)) _;rw[a8 i Q];by_cases ak:i=y
    .subst ak;rw[ag,Ak (.inr rfl)];simp only[ZA,simprocAttr];simp[Aj]
    .by_cases aj:i=x
     .subst aj;rw[af,Ak (.inl rfl)];simp only[ZA,simprocAttr];simp[Aj]
     .rw[ad (1000+i) (by omega) (by omega),Ad (by omega)];have e: ∀(H:Ao),hget H (1000+i)=some (true,.arr 2 1 ((Ig a.2 i k).map Aj))->K1 [(1000+x,some 3001),(1000+y,some 3003)] true (.arr 2 1 ((Ig a.2 i k).map Aj)) (hget H (1000+i)):=by
       intro H hH;rw[hH];exact⟨rfl,by simp only[EK]⟩
      refine e _ ?_;simp only[hget,AX _ _ (show 1≠1000+i by omega),AX _ _ (show 3003≠1000+i by omega),AX _ _ (show 3002≠1000+i by omega),AX _ _ (show 3001≠1000+i by omega),AX _ _ (show 3000≠1000+i by omega),AX _ _ (show 0≠1000+i by omega),AX _ _ (show 2≠1000+i by omega),Bq];rw[Lj _ _ _ (by omega),Lj _ _ _ (by omega),Lj _ _ _ (by omega),Lj _ _ _ (by omega),GK _ _ _ _ Q]
 .have a9:k=a.2.length:=by omega
  subst a9;rw[X7 (T:=2) (λi=>Ig a.2 i a.2.length)]
  .simp[CW]
  .intro i Q;have e:nA (1000+i)=false:=by simp only[nA,AX _ _ (show 1000+i≠0 by omega),AX _ _ (show 1000+i≠2 by omega),Rl]
   simp[Ii,Al,hget,e]
  .intro i Q;simp only[hget,AX _ _ (show 1≠1000+i by omega),AX _ _ (show 0≠1000+i by omega),AX _ _ (show 2≠1000+i by omega),Bq];exact GK _ _ _ _ Q
 simp[newNC.H1] at hp;rcases hp with rfl|rfl
 .exact .inr ⟨by omega,by simp,rfl,rfl⟩
 .exact .inr ⟨by omega,by simp,rfl,rfl⟩
def J9(p:Int)(b:Ag)(f:Int):Int:=if b.A=p then f else if b.B=p then -f else 0
def Dg(n:Bc)(p:Int):Int:=(List.zipWith (J9 p) n.Bonds n.Flow).sum
def Nz(p:Int): ∀(bs:List Ag) (Q:List Int) (j:Nat) (b:Ag) (f f':Int),bs[j]? =some b->Q[j]? =some f->(List.zipWith (J9 p) bs (Q.set j f')).sum=(List.zipWith (J9 p) bs Q).sum - J9 p b f+J9 p b f'
 |[],_,_,_,_,_,h,_=>by simp at h
 |_::_,[],_,_,_,_,_,h=>by simp at h
 |x::r,y::s,0,b,f,f',z,O=>by
  simp only[Ho,AI] at z O;subst z;subst O;simp only[fQ,fV,Lx];omega
 |x::r,y::s,j+1,b,f,f',z,O=>by
  have:=Nz p r s j b f f' (by simpa using z) (by simpa using O)
  simp only[mU,fV,Lx,this];omega
def Qzc{n:Bc}(hn:Ds n){v:Nat}{r:List Int}(hr:n.At[v]? =some r){i:Int}(Q:i∈r)(p:Int):Dg (HW n v i) p=Dg n p+(if (v:Int)=p then 1 else if (Dl n v i).2=p then -1 else 0):=by
 obtain⟨h0,b,z,hv⟩:=hn.at_ v r hr i Q;have aa:=hn.ne b (Ba z);have Z:=(Cx.1 z).1;obtain⟨f,hf⟩: ∃f,n.Flow[i.toNat]? =some f:=⟨_,Bk (by rw[hn.fl];exact Z)⟩;simp only[Dg,HW,z,Dl];rw[Nz p _ _ _ b f _ z hf,hf];simp only[AO,J9];rcases hv with h|h
 .simp only[Ak h]
  repeat' split
  all_goals omega
 .have O: ¬b.A=v:=by omega
  simp only[Ad O]
  repeat' split
  all_goals omega
def Lc(p:Int): ∀(bs:List Ag) (Q:List Int),(∀(i:Nat) b f,bs[i]? =some b->Q[i]? =some f-> -b.Strength<=f/\f<=b.Strength)->(∀b∈bs,0<=b.Strength)->(List.zipWith (J9 p) bs Q).sum<=(bs.map Ag.Strength).sum
 |[],_,_,_=>by simp
 |x::r,[],_,z=>by
  have Z:=Lc p r [] (λi b f _ h=>by simp at h) (λb O=>z b (BQ _ O));have h2:=z x (BR ..);simp only[Zea,Zfc,Bg,Lx] at Z⊢;omega
 |x::r,y::s,hc,z=>by
  have Z:=Lc p r s (λi b f h h'=>hc (i+1) b f (by simpa using h) (by simpa using h')) (λb O=>z b (BQ _ O));have h2:=z x (BR ..);have h3:=hc 0 x y rfl rfl;simp only[fV,Bg,Lx,J9];split
  .omega
  .split<;>omega
def TJ{n:Bc}(hn:Ds n)(O:I9 n)(p:Int):Dg n p<=(n.Bonds.map Ag.Strength).sum:=Lc p _ _ O (λb z=>(hn.st b z).1)
def Vh{n:Bc}(hn:Ds n)(hc:I9 n){q:Int}{st qu:List Int}(z:st.length=n.Cnt.toNat)(hP:FD n q (st,qu)){p:Int}(aa:0<=p)(ab:p<n.Cnt){d:Nat}(hd:st[p.toNat]? =some (d:Int)): ∀k,k<d->Dg (BP n st p (k+1)).1 p=Dg n p+1:=by
 have step: ∀k,k<d->Dg (BP n st p (k+1)).1 p=Dg (BP n st p k).1 p+(if k=0 then 1 else 0):=by
  intro k Z;have hI:=lK hn hc z hP aa ab hd k (by omega);obtain⟨m,r,hm,hr,hg,O,af⟩:=zB hn z hP Z hI;have ac:(BP n st p k).1.At[m]? =some r:=by rw[hI.at_];exact hr
  have e:(BP n st p (k+1)).1=HW (BP n st p k).1 m (GO (BP n st p k).1 st m).2:=by simp only[BP,hm]
  rw[e,Qzc hI.ok ac hg.1,hg.2.2.1];have Q:=hg.2.2.2.1;rw[B5,O,AO] at Q;have ad:(GO (BP n st p k).1 st m).1≠p:=by
   intro he;rw[he,hd,AO] at Q;omega
  by_cases h0:k=0
  .subst h0
   have:(m:Int)=p:=by rw[<-hm];rfl
   rw[Ak this,Ak rfl]
  .have:(m:Int)≠p:=by
    intro he
    have:m=p.toNat:=by omega
    rw[this,hd] at O
    have:=A7 O
    omega
   rw[Ad this,Ad ad,Ad h0]
 intro k Z;induction k with
 |zero=>rw[step 0 Z];simp[BP]
 |succ k ih=>rw[step (k+1) Z,Ad (by omega),ih (by omega)];omega
def Qr2(bs:List Ag)(i:Nat)(z:Int): ∀k,z∈Ig bs i k↔ ∃(j:Nat) (b:Ag),j<k/\z=j/\bs[j]? =some b/\(b.A=i\/b.B=i)
 |0=>by simp[Ig]
 |k+1=>by
  have ih:=Qr2 bs i z k;simp only[Ig,Bs,ih];constructor
  .rintro (⟨j,b,h1,Q,Z,O⟩|h)
   .exact⟨j,b,by omega,Q,Z,O⟩
   .cases hb:bs[k]? with
    |none=>rw[hb] at h;simp at h
    |some b=>
     rw[hb] at h;simp only[Bs] at h;refine⟨k,b,by omega,?_,hb,?_⟩
     .rcases h with h|h<;>split at h<;>simp at h<;>exact h
     .rcases h with h|h
      .split at h
       .exact .inl (by assumption)
       .simp at h
      .split at h
       .exact .inr (by assumption)
       .simp at h
  .rintro⟨j,b,h1,Q,Z,O⟩;by_cases hj:j=k
   .subst hj;refine .inr ?_;rw[Z];simp only[Bs];rcases O with O|O
    .exact .inl (by rw[Ak O,Q];exact BS.2 rfl)
    .exact .inr (by rw[Ak O,Q];exact BS.2 rfl)
   .exact .inl ⟨j,b,by omega,Q,Z,O⟩
def PX(bs:List Ag):Prop:= ∀b∈bs,0<=b.Strength/\b.Strength<=1000000
def Qxo{n:Int}{bs:List Ag}(v:Nat)(z:v<n.toNat):(CW n bs).At[v]? =some (Ig bs v bs.length):=by
 simp only[CW,Du,Ic z,CY]
def Mv{n:Int}{bs:List Ag}(h:Zw (n,bs))(hs:PX bs):Ds (CW n bs)/\I9 (CW n bs):=by
 obtain⟨h0,h1,h2,O,h4⟩:=h;simp only at h0 h1 h2 O h4;have hz: ∀(i:Nat) f,(CW n bs).Flow[i]? =some f->f=0:=by
  intro i f hf;exact Od (Ba hf)
 refine⟨⟨h0,by show n<=1000000;omega,by simp[CW],by simp[CW];omega,O,?_,?_,hs,?_,h4⟩,?_⟩
 .intro v r Z i Q;have hv:v<n.toNat:=by
   have:=(Cx.1 Z).1
   simpa[CW] using this
  rw[Qxo v hv] at Z;obtain rfl:=A7 Z;obtain⟨j,b,g1,g2,g3,g4⟩:=(Qr2 bs v i bs.length).1 Q;exact⟨by omega,b,by rw[g2,B5];exact g3,g4⟩
 .intro x hx;obtain⟨i,Q⟩:=V4.1 hx
  have:=hz i x Q
  omega
 .intro i b z;have hl:=(Cx.1 z).1;have aa:=O b (Ba z);refine⟨⟨_,Qxo _ (by omega),(Qr2 bs _ _ _).2 ⟨i,b,hl,rfl,z,.inl (by omega)⟩⟩,⟨_,Qxo _ (by omega),(Qr2 bs _ _ _).2 ⟨i,b,hl,rfl,z,.inr (by omega)⟩⟩⟩
 .intro i b f z hf
  have:=hz i f hf
  have:=hs b (Ba z)
  omega
def Qtg{n:Int}{bs:List Ag}(p:Int):Dg (CW n bs) p=0:=by
 simp only[Dg,CW]
 have: ∀(l:List Ag) (m:Nat),(List.zipWith (J9 p) l (List.replicate m 0)).sum=0:=by
  intro l;induction l with
  |nil=>intro m;simp
  |cons x r ih=>
   intro m;cases m with
   |zero=>simp
   |succ m=>
    simp only[Zeo,fV,Lx,ih m,J9];split
    .rfl
    .split<;>rfl
 exact this _ _
def G5(p q:Int):Nat->Bc->Bc×Int
 |0,n=>(n,0)
 |m+1,n=>if (Fj n p q).2=true then ((G5 p q m (Fj n p q).1).1,(G5 p q m (Fj n p q).1).2+1) else (n,0)
def Eb(n:Int)(bs:List Ag)(p q:Int):Bc×Int:=G5 p q ((bs.map Ag.Strength).sum.toNat+1) (CW n bs)
def LY{n:Bc}(hn:Ds n)(hc:I9 n){p q:Int}(Q:0<=p)(Z:p<n.Cnt)(aa:0<=q)(ab:q<n.Cnt)(ac:p≠q)(hg:(Fj n p q).2=true):
 Ds (Fj n p q).1/\I9 (Fj n p q).1/\(Fj n p q).1.Cnt=n.Cnt/\(Fj n p q).1.Bonds=n.Bonds/\(Fj n p q).1.At=n.At/\Dg (Fj n p q).1 p=Dg n p+1:=by
 have z:=rZ hn aa ab;have hP:FD n q (Fh n q,(CA n q n.Cnt.toNat).2):=NC hn aa ab n.Cnt.toNat;obtain⟨x,hx⟩: ∃x,(Fh n q)[p.toNat]? =some x:=⟨_,Bk (by omega)⟩;simp only[Fj,hx,AO] at hg⊢;by_cases h:x<0
 .rw[Ak h] at hg;simp at hg
 .obtain⟨d,rfl⟩: ∃d:Nat,x=d:=⟨x.toNat,by omega⟩;rw[Ad h,B5];have hd:0<d:=by
   rcases mV d with h0|h0
   .subst h0
    have:=hP.uniq p.toNat hx
    omega
   .exact h0
  have O:=lK hn hc z hP Q Z hx d (AN _);have ho:=Vh hn hc z hP Q Z hx (d - 1) (by omega);rw[show d - 1+1=d by omega] at ho;exact⟨O.ok,O.cap,O.cnt,O.bs,O.at_,ho⟩
abbrev nM:=Int×List Ag×Int×Int
def flC.net(a:nM):Bc:=(Eb a.1 a.2.1 a.2.2.1 a.2.2.2).1
def flC.ca(a:nM):List AV:=[.im (.int .i64 a.1),.im (.sl false 3 (a.2.1.map Ag.c)),.im (.int .i64 a.2.2.1),.im (.int .i64 a.2.2.2)]
def flC.H1(a:nM):Ao:=[(0,(true,.cells 249 [.im (.int .i64 a.1),.im (.sl false 3 (a.2.1.map Ag.c)),.im (.sl false 1 ((CW a.1 a.2.1).At.map CK)),.own 2])),(2,(true,.arr 2 1 ((flC.net a).Flow.map Aj)))]
def flC.r0(a:nM):AV:= .tup [.ptr 0 0,.im (.int .i64 (Eb a.1 a.2.1 a.2.2.1 a.2.2.2).2)]
def flC.pre(a:nM):Prop:=Zw (a.1,a.2.1)/\PX a.2.1/\0<=a.2.2.1/\a.2.2.1<a.1/\0<=a.2.2.2/\a.2.2.2<a.1/\a.2.2.1≠a.2.2.2
def flC.row:Ay:=AA flC.ca (λ_=>[]) 0 flC.pre (λ_=>false) flC.r0 flC.H1 3010
def flC.ok:A9 156 flC.row:=by
 refine ow (tC newNC.ok (tC growC.ok tN)) Tryz.func156 (exB:=nA) (R:=λa r=>r=flC.r0 a) (λ_=>rfl)
  (λa=>by simp[flC.ca,AE,AV.bel,Au,BB,BU]) (λa p hp=> ?_) (λa r h=>by subst h;exact CN.refl _) ?_
 rotate_left
 intro a ac;simp only[Tryz.f156,flC.ca,flC.H1];simp only[ZA,simprocAttr];obtain⟨O,af,ab,am,ad,an,ah⟩:=ac;obtain⟨aa,z⟩:=Mv O af;have ai:=Qtg (n:=a.1) (bs:=a.2.1) a.2.2.1;refine AA.os (a.1,a.2.1) [] O (λj=>by simp[Al,hget]) rfl rfl ?_ ?_
 .simp only[ZA,simprocAttr,newNC.ca]
 .simp only[ZA,simprocAttr,newNC.H1];obtain⟨F,hF⟩: ∃F,F=(a.2.1.map Ag.Strength).sum.toNat+1:=⟨_,rfl⟩;refine AU.old ⟨{k:Nat×Bc//Ds k.2/\I9 k.2/\k.2.Cnt=a.1/\k.2.Bonds=a.2.1/\k.2.At=(CW a.1 a.2.1).At/\Dg k.2 a.2.2.1=k.1/\k.1<=F/\Eb a.1 a.2.1 a.2.2.1 a.2.2.2=((G5 a.2.2.1 a.2.2.2 (F - k.1) k.2).1,(G5 a.2.2.1 a.2.2.2 (F - k.1) k.2).2+k.1)},λk=>⟨[(11,.im (.int .i64 k.1.1)),(10,.ptr 0 0),(2,.im (.int .i64 a.2.2.1)),(3,.im (.int .i64 a.2.2.2))],[(0,(true,.cells 249 [.im (.int .i64 a.1),.im (.sl false 3 (a.2.1.map Ag.c)),.im (.sl false 1 ((CW a.1 a.2.1).At.map CK)),.own 2])),(2,(true,.arr 2 1 (k.1.2.Flow.map Aj)))],3010⟩,λk=>F - k.1.1,λk=>⟨by simp[ZG],AN _⟩,⟨⟨(0,CW a.1 a.2.1),aa,z,rfl,rfl,rfl,ai,CR _,by simp[Eb,hF]⟩,by simp only[ZA,simprocAttr,sub]⟩,λk=> ?_⟩;obtain⟨⟨k,N⟩,i1,i2,i3,i4,i5,i6,i7,Q⟩:=k;simp only at i1 i2 i3 i4 i5 i6 i7 Q;have ag:=TJ i1 i2 a.2.2.1;rw[i4,i6] at ag;have ak:k<F:=by omega
  have aj:F<=1000000000001:=by
   have h2: ∀(l:List Ag),(∀b∈l,b.Strength<=1000000)->(l.map Ag.Strength).sum<=1000000*(l.length:Int):=by
    intro l;induction l with
    |nil=>intro _;simp
    |cons x r ih=>
     intro h;have h3:=ih (λb hb=>h b (BQ _ hb));have h4:=h x (BR ..);simp only[Bg,Lx,CQ];omega
   have h3:=h2 a.2.1 (λb hb=>(af b hb).2);have h4:=O.2.2.1;simp only at h4;omega
  obtain⟨m,hm⟩: ∃m,F - k=m+1:=⟨F - k - 1,by omega⟩;rw[hm,G5] at Q;simp only[ZA,simprocAttr];refine AA.os (N,a.2.2.1,a.2.2.2) [0,2] ⟨i1,i2,ab,by simp only;omega,ad,by simp only;omega⟩ (λj=>oA _ j) rfl rfl ?_ ?_
  .simp only[ZA,simprocAttr,DL,growC.ca,Gq,HP];rw[i3,i4,i5];exact⟨rfl,rfl,rfl⟩
  .simp only[ZA,simprocAttr,DL,nA,growC.H1,growC.r0,aO,sub,AR];refine⟨λZ=> ?_,λZ=> ?_⟩
   .rw[Ak Z] at Q;obtain⟨g1,g2,g3,g4,g5,g6⟩:=LY i1 i2 ab (by omega) ad (by omega) ah Z;refine⟨⟨(k+1,(Fj N a.2.2.1 a.2.2.2).1),g1,g2,g3.trans i3,g4.trans i4,g5.trans i5,by simp only;omega,by simp only;omega,?_⟩,by simp only;omega,?_,rfl⟩
    .simp only;rw[show F - (k+1)=m by omega,Q];simp only[Ep,mW];omega
    .rw[AC (by omega) (by omega)];simp only;omega
   .rw[Ad Z] at Q;have e:(Fj N a.2.2.1 a.2.2.2).1=N:=by
     revert Z;simp only[Fj];split
     .intro _;rfl
     .intro h;simp at h
    refine⟨?_,?_⟩
    .simp only[flC.r0,Q];simp
    .rw[e];simp only[flC.net,Q]
 simp[flC.H1] at hp;rcases hp with rfl|rfl
 .exact .inr ⟨by omega,by simp,rfl,rfl⟩
 .exact .inr ⟨by omega,by simp,rfl,rfl⟩
def PH:D->Option Int
 | .int .u64 n=>some n
 |_=>none
def Qs3: ∀d x,PH d=some x->Le d (.int .u64 x):=by
 intro d x h;unfold PH at h;split at h
 .simp only[AI] at h;subst h;exact Le.refl _
 .cases h
def Qw1{a:Int}(h0:0<=a)(O:a<4294967296):Xd .u64 a 4294967295=a:=by
 simp only[Xd];obtain⟨n,rfl⟩: ∃n:Nat,a=n:=⟨a.toNat,by omega⟩;have hn:n<4294967296:=by omega
 have:(BitVec.ofInt IntKind.u64.bits (n:Int) &&& BitVec.ofInt IntKind.u64.bits 4294967295).toNat=n:=by
  have e:IntKind.u64.bits=64:=rfl;rw[e];simp only[BitVec.toNat_and,BitVec.toNat_ofInt];rw[show ((n:Int) % ((2^64:Nat):Int)).toNat=n by omega,show ((4294967295:Int) % ((2^64:Nat):Int)).toNat=2^32 - 1 by decide];rw[Nat.and_two_pow_sub_one_eq_mod];omega
 rw[this];unfold IntKind.wrap;have e:IntKind.u64.bits=64:=rfl;have z:IntKind.u64.signed=false:=rfl;simp only[e,z,Fo,CP,CB];omega
def Ny{a:Int}(h0:0<=a)(O:a<18446744073709551616):IntKind.u64.wrap a=a:=by
 unfold IntKind.wrap;have e:IntKind.u64.bits=64:=rfl;have z:IntKind.u64.signed=false:=rfl;simp only[e,z,Fo,CP,CB];omega
def LF{a:Int}(h0:0<=a)(z:a<4294967296):a.fdiv (2^min 32 IntKind.u64.bits)=0:=by
 have e:IntKind.u64.bits=64:=rfl;rw[e,show (2:Int)^min 32 64=4294967296 by decide,Zeq _ (by decide)];omega
def mul64.fv(a:Int×Int):Int×Int:=(λ_ y=>(0,y)) (a.1) (a.2)
def mul64.row:Ay:=vK (b2 qU qU) (r2 (RK.mk (PH) (D.int .u64) (Qs3)) (RK.mk (PH) (D.int .u64) (Qs3))) (λa=>a.1=1/\0<=a.2/\a.2<=1000000) mul64.fv
def mul64.q:=AT (R:=mul64.row) rfl
def mul64.ok:A9 239 mul64.row:=by
 refine vw tN Tryz.func239 ?_;intro a z;simp only[Tryz.f239];simp only[ZA,simprocAttr,mul64.fv];obtain⟨Q,O,Z⟩:=z;rw[Q,Qw1 (by omega) (by omega),Qw1 (by omega) (by omega),LF (by omega) (by omega),LF O (by omega),Int.zero_mul,Int.one_mul,Int.zero_mul,Int.mul_zero];simp only[Ny O (show a.2<18446744073709551616 by omega),LF O (show a.2<4294967296 by omega),Ny (Og 0) (by decide),Int.add_zero,LF (Og 0) (by decide),Qw1 (Og 0) (by decide)];rfl
def mul_.fv(a:Int×Int):Int×Int:=(λ_ y=>(0,y)) (a.1) (a.2)
def mul_.row:Ay:=vK (b2 qU qU) (r2 (RK.mk (PH) (D.int .u64) (Qs3)) (RK.mk (PH) (D.int .u64) (Qs3))) (λa=>a.1=1/\0<=a.2/\a.2<=1000000) mul_.fv
def mul_.q:=AT (R:=mul_.row) rfl
def mul_.ok:A9 229 mul_.row:=by
 refine vw (tC mul64.ok tN) Tryz.func229 ?_;intro a z;simp only[Tryz.f229];simp only[ZA,simprocAttr,mul_.fv,mul64.q,mul64.fv];exact⟨z,rfl⟩
def DU(x:Int)(m n:Nat):List (List D):=List.replicate m [.int .i64 x]++List.replicate (n - m) [.int .i64 0]
def Ub(x:Int){m n:Nat}(h:m<=n):(DU x m n).length=n:=by simp[DU];omega
def Uc(x:Int)(n:Nat):DU x (min 1 n) n=List.take (min 1 n) [[.int .i64 x]]++List.drop (min 1 n) (List.replicate n [.int .i64 0]):=by
 cases n with
 |zero=>rfl
 |succ n=>
  rw[show min 1 (n+1)=1 by omega];simp[DU]
def N0(x:Int)(k m n:Nat):BY BK (List.take k (DU x m n)):=by
 intro r z
 have:=ZdK z
 rcases Bs.1 this with h|h<;>rw[Od h]<;>rfl
def Pf(x:Int){m n:Nat}(h:m<n):List.take m (DU x m n)++List.take (min m (n - m)) (List.take m (DU x m n))++List.drop (m+min m (n - m)) (DU x m n)=DU x (m+min m (n - m)) n:=by
 have e:List.take m (DU x m n)=List.replicate m [.int .i64 x]:=by simp[DU]
 rw[e];have z:List.drop (m+min m (n - m)) (DU x m n)=List.replicate (n - (m+min m (n - m))) [.int .i64 0]:=by
  simp only[DU];rw[V7,CG (by simp),FC,Ob,List.drop_replicate];congr 1;omega
 rw[z,DU,<-List.replicate_append_replicate];congr 2;rw[List.take_replicate];congr 1;omega
def rept.ca(a:Int×Int):List AV:=[.own 0,.im (.int .i64 a.2)]
def rept.H0(a:Int×Int):Ao:=[(0,(true,.arr 3 1 [[.int .i64 a.1]]))]
def rept.H1(a:Int×Int):Ao:=[(1,(true,.arr 3 1 (List.replicate a.2.toNat [.int .i64 a.1])))]
def rept.pre(a:Int×Int):Prop:=0<=a.2/\a.2<=1000000
def rept.row:Ay:=AA rept.ca rept.H0 1 rept.pre (λ_=>false) (λ_=> .own 1) rept.H1 20
def rept.ok:A9 223 rept.row:=by
 refine Qr (tC mul_.ok tN) Tryz.func223 (exB:=λj=>j==1) (R:=λa r=>r= .own 1) (λ_=>rfl)
  (λa=>by simp[rept.ca,rept.H0,AE,AV.bel,Au,BB,BU,Ac.nms,Al,hget]) (λa p hp=> ?_) (λa r h=>by subst h;exact CN.refl _) ?_
 rotate_left
 intro a O;simp only[Tryz.f223,rept.ca,rept.H0,rept.H1];simp only[ZA,simprocAttr,mul_.q,mul_.fv,JM,Eo,G6];obtain⟨h0,h1⟩:=O;rw[Ad (by omega)];simp only[ZA,simprocAttr,Ny (show (0:Int)<=1 by decide) (show (1:Int)<18446744073709551616 by decide),Ny h0 (show a.2<18446744073709551616 by omega)];refine⟨⟨h0,h1⟩,?_⟩;rw[Ad (by omega)];simp only[simprocAttr,AC (show -9223372036854775808<=a.2 by omega) (show a.2<=9223372036854775807 by omega)];refine⟨h0,Og _,by omega,?_⟩;obtain⟨n,hn⟩: ∃n:Nat,a.2=n:=⟨a.2.toNat,by omega⟩;obtain⟨x,hx⟩: ∃x,x=a.1:=⟨_,rfl⟩;simp only[hn,B5,Ob,<-hx];rw[hn] at h0 h1;refine AU.old ⟨{m:Nat//m<=n/\(m=0->n=0)},λm=>⟨[(8,.im (.int .i64 m.1)),(7,.own 1)],[(1,(true,.arr 3 1 (DU x m.1 n))),(0,(true,.arr 3 1 [[.int .i64 x]]))],2⟩,λm=>n - m.1,λm=>⟨by simp[ZG],by simp⟩,⟨⟨min 1 n,by omega,by omega⟩,?_⟩,λm=> ?_⟩
 .simp only[ZA,simprocAttr,sub];exact (Uc x n).symm
 obtain⟨m,Z,ab⟩:=m;have z:=Ub x Z;simp only[ZA,simprocAttr,F3,AR,z];intro aa;refine⟨λhm=>⟨by omega,false,?_⟩,λhm=> ?_⟩
 .simp only[ZA,simprocAttr,z];refine⟨by omega,false,?_⟩;simp only[ZA,simprocAttr,sub];obtain⟨k,hk⟩: ∃k,min (List.take ((m:Int) - 0).toNat (DU x m n)).length ((n:Int) - m).toNat=k:=⟨_,rfl⟩;have Q:k=min m (n - m):=by rw[<-hk,BH,z];omega
  rw[hk,show ((m:Int) - 0).toNat=m by omega];refine⟨N0 x _ _ _,⟨m+k,by omega,by omega⟩,by simp only;omega,by rw[AC (by omega) (by omega)];simp only;omega,?_⟩;subst Q;exact Pf x hm
 .refine⟨[],[],⟨[(4,.own 1)],[(1,(true,.arr 3 1 (DU x m n))),(0,(true,.arr 3 1 [[.int .i64 x]]))],2⟩,?_,by simp[ZG],by simp,?_⟩
  .simp only[Aw];simp only[ZA,simprocAttr,Br]
  .simp only[ZA,simprocAttr]
   have:m=n:=by omega
   subst this;simp[DU]
 simp[rept.H1] at hp;subst hp;exact .inr ⟨by omega,by omega,rfl,rfl⟩
def Qyw(x:Bd)(u v:Int):Int:=(x.Room[u.toNat]?.getD [])[v.toNat]?.getD 0
def Qzr(x:Bd)(u v:Int):Int:=(x.Flow[u.toNat]?.getD [])[v.toNat]?.getD 0
def Vz(x:Bd)(u v:Int):Bool:=decide (Qzr x u v<Qyw x u v)
structure Kk(x:Bd)(n:Nat):Prop where
 r:x.Room.length=n
 f:x.Flow.length=n
 rr: ∀l∈x.Room,l.length=n
 ff: ∀l∈x.Flow,l.length=n
def Hh(x:Bd)(u:Int)(s:List Int×List Int)(v:Nat):List Int×List Int:=
 if s.1[v]?.getD 0<0/\Vz x u v=true then (s.1.set v u,s.2++[(v:Int)]) else s
def CJ(x:Bd)(u:Int)(s:List Int×List Int):Nat->List Int×List Int
 |0=>s
 |k+1=>Hh x u (CJ x u s k) k
def CU(x:Bd)(n:Nat)(p:Int):Nat->List Int×List Int
 |0=>((List.replicate n (-1)).set p.toNat p,[p])
 |k+1=>match (CU x n p k).2[k]? with
  |none=>CU x n p k
  |some u=>CJ x u (CU x n p k) n
structure Gz(x:Bd)(n:Nat)(p:Int)(s:List Int×List Int):Prop where
 len:s.1.length=n
 q: ∀v∈s.2,0<=v/\v<n
 nd:s.2.Nodup
 hd:s.2[0]? =some p
 pp:s.1[p.toNat]? =some p
 mem: ∀(v:Nat) (y:Int),s.1[v]? =some y->(0<=y↔(v:Int)∈s.2)
 prev: ∀(i:Nat) (v:Int),s.2[i]? =some v->0<i-> ∃(j:Nat) (u:Int),j<i/\s.2[j]? =some u/\s.1[v.toNat]? =some u/\Vz x u v=true
def Qtz: ∀(n:Nat) (l:List Int),l.Nodup->(∀v∈l,0<=v/\v<n)->l.length<=n
 |0,[],_,_=>AN _
 |0,x::r,_,h=>by have:=h x (BR ..);omega
 |n+1,l,h,O=>by
  have Z:=Qtz n (l.erase (n:Int)) (h.erase _) (λv Q=>by
   have z:=(h.mem_erase_iff).1 Q;have h3:=O v z.2
   have:=z.1
   omega)
  have z:=List.length_erase (a:=(n:Int)) (l:=l);split at z<;>omega
def Qr3{x:Bd}{n:Nat}{p:Int}{s:List Int×List Int}(h:Gz x n p s):s.2.length<=n:=Qtz n s.2 h.nd h.q
def kH{x:Bd}{n:Nat}{p:Int}{s:List Int×List Int}(h:Gz x n p s){u:Int}{k v:Nat}(hu:s.2[k]? =some u)(hv:v<n):Gz x n p (Hh x u s v)/\ ∃r,(Hh x u s v).2=s.2++r:=by
 simp only[Hh];split
 .rename_i hc;obtain⟨ac,ad⟩:=hc;have hvl:v<s.1.length:=by rw[h.len];exact hv
  obtain⟨y,hy⟩: ∃y,s.1[v]? =some y:=⟨_,Bk hvl⟩;rw[hy,AO] at ac;have Q:(v:Int)∉s.2:=λhm=>by have:=(h.mem v y hy).2 hm;omega
  have aa:p∈s.2:=Ba h.hd;have ah:p.toNat≠v:=by
   intro he
   have:=h.q p aa
   exact Q (by rw[show (v:Int)=p by omega];exact aa)
  have ai:=h.q u (Ba hu);refine⟨⟨by simpa using h.len,λw O=> ?_,?_,?_,?_,λw z hz=> ?_,λi w O hi=> ?_⟩,_,rfl⟩
  .rcases Bs.1 O with O|O
   .exact h.q w O
   .rw[BS] at O;subst O;omega
  .rw[WV];refine⟨h.nd,by simp,λa ha b hb=> ?_⟩;rw[BS] at hb;subst hb;exact λhe=>Q (he▸ha)
  .have:=h.hd
   rw[EA (Cx.1 this).1];exact this
  .simp only;rw[DM (EJ ah)];exact h.pp
  .simp only at hz⊢;rw[Bs,BS];by_cases ab:v=w
   .subst ab;rw[Dv hvl] at hz;obtain rfl:=A7 hz;exact⟨λ_=> .inr rfl,λ_=>ai.1⟩
   .rw[DM ab] at hz;rw[h.mem w z hz];constructor
    .exact .inl
    .rintro (h1|h1)
     .exact h1
     .omega
  .simp only at O⊢;by_cases ag:i<s.2.length
   .rw[EA ag] at O;obtain⟨j,z,h1,h2,h3,h4⟩:=h.prev i w O hi;refine⟨j,z,h1,by rw[EA (by omega)];exact h2,?_,h4⟩;have aj:=h.q w (Ba O);rw[DM]
    .exact h3
    .intro he;exact Q (by rw[show (v:Int)=w by omega];exact Ba O)
   .have af:i=s.2.length:=by
     have:=(Cx.1 O).1
     simp only[CD,CQ,FS] at this;omega
    subst af;rw[FQ (AN _),HA,Ho] at O;obtain rfl:=A7 O;have Z:=(Cx.1 hu).1;refine⟨k,u,Z,by rw[EA Z];exact hu,?_,ad⟩;rw[B5,Dv hvl]
 .exact⟨h,[],by simp⟩
def Qoj(x:Bd)(u:Int)(s:List Int×List Int)(v w:Nat)(y:Int)(h:s.1[w]? =some y)(h0:0<=y):(Hh x u s v).1[w]? =some y:=by
 simp only[Hh];split
 .rename_i z;rw[DM]
  .exact h
  .intro O;subst O
   have:=z.1
   rw[h,AO] at this;omega
 .exact h
def Qvl(x:Bd)(u:Int)(s:List Int×List Int)(w:Nat)(y:Int)(h:s.1[w]? =some y)(h0:0<=y): ∀k,(CJ x u s k).1[w]? =some y
 |0=>h
 |k+1=>Qoj x u _ k w y (Qvl x u s w y h h0 k) h0
def uW{x:Bd}{n:Nat}{p:Int}{s:List Int×List Int}(h:Gz x n p s){u:Int}{i:Nat}(O:s.2[i]? =some u): ∀k,k<=n->Gz x n p (CJ x u s k)/\ ∃r,(CJ x u s k).2=s.2++r
 |0,_=>⟨h,[],by simp[CJ]⟩
 |k+1,hk=>by
  obtain⟨h1,r,Z⟩:=uW h O k (by omega);have Q:=(Cx.1 O).1;obtain⟨h2,r',z⟩:=kH h1 (u:=u) (k:=i) (v:=k) (by rw[Z,EA Q];exact O) (by omega);exact⟨h2,r++r',by rw[CJ,z,Z,Fb]⟩
def Qz6{x:Bd}{n:Nat}{p:Int}{s:List Int×List Int}(h:Gz x n p s){u:Int}{i:Nat}(O:s.2[i]? =some u): ∀k,k<=n-> ∀v,v<k->Vz x u v=true-> ∃y,(CJ x u s k).1[v]? =some y/\0<=y
 |0,_,v,hv,_=>by omega
 |k+1,hk,v,hv,hf=>by
  by_cases Z:v<k
  .obtain⟨y,h1,h2⟩:=Qz6 h O k (by omega) v Z hf;exact⟨y,Qoj x u _ k v y h1 h2,h2⟩
  .have:v=k:=by omega
   subst this;have hP:=(uW h O v (by omega)).1;obtain⟨y,hy⟩: ∃y,(CJ x u s v).1[v]? =some y:=⟨_,Bk (by rw[hP.len];omega)⟩;by_cases z:0<=y
   .exact⟨y,Qoj x u _ v v y hy z,z⟩
   .have Q:=h.q u (Ba O);refine⟨u,?_,Q.1⟩;rw[CJ,Hh,Ak ⟨by rw[hy,AO];omega,hf⟩];exact Dv (by rw[hP.len];omega)
def Rc{x:Bd}{n:Nat}{p:Int}(h0:0<=p)(Z:p<n): ∀k,Gz x n p (CU x n p k)
 |0=>by
  have hq:p.toNat<(List.replicate n (-1:Int)).length:=by rw[Ob];omega
  refine⟨by simp[CU],λv z=> ?_,by simp[CU],rfl,Dv hq,λv y O=> ?_,λi v z hi=> ?_⟩
  .simp only[CU,BS] at z;subst z;omega
  .simp only[CU,BS] at O⊢;by_cases Q:p.toNat=v
   .subst Q;rw[Dv hq] at O;obtain rfl:=A7 O;omega
   .rw[DM Q] at O
    have:=Od (Ba O)
    omega
  .simp only[CU] at z;cases i with
   |zero=>omega
   |succ i=>simp at z
 |k+1=>by
  have ih:=Rc (x:=x) h0 Z k;simp only[CU];split
  .exact ih
  .rename_i u hu;exact (uW ih hu n (AN _)).1
def nQ(x:Bd)(n:Nat)(p:Int)(w:Nat)(y:Int)(h0:0<=y)(k:Nat)(h:(CU x n p k).1[w]? =some y): ∀m,(CU x n p (k+m)).1[w]? =some y
 |0=>h
 |m+1=>by
  have ih:=nQ x n p w y h0 k h m;rw[show k+(m+1)=k+m+1 by omega,CU];split
  .exact ih
  .exact Qvl x _ _ w y ih h0 n
def Vk(x:Bd){n:Nat}{p:Int}(h0:0<=p)(z:p<n)(k:Nat): ∃r,(CU x n p (k+1)).2=(CU x n p k).2++r:=by
 rw[CU];split
 .exact⟨[],by simp⟩
 .rename_i u O;exact (uW (Rc (x:=x) h0 z k) O n (AN _)).2
def Nv(x:Bd)(n:Nat)(p:Int): ∀(m k:Nat),(CU x n p k).2.length<=k->CU x n p (k+m)=CU x n p k
 |0,k,_=>rfl
 |m+1,k,h=>by
  have z:CU x n p (k+1)=CU x n p k:=by
   rw[CU,Fm h]
  have O:=Nv x n p m (k+1) (by rw[z];omega);rw[show k+(m+1)=k+1+m by omega,O,z]
def Qzh(x:Bd){n:Nat}{p:Int}(h0:0<=p)(O:p<n): ∀(k:Nat) (j:Nat) (u:Int),j<k->(CU x n p k).2[j]? =some u-> ∀v,v<n->Vz x u v=true-> ∃y,(CU x n p k).1[v]? =some y/\0<=y
 |0,j,_,hj,_,_,_,_=>by omega
 |k+1,j,u,hj,z,v,hv,hf=>by
  obtain⟨r,hr⟩:=Vk x h0 O k;by_cases Z:j<(CU x n p k).2.length
  .rw[hr,EA Z] at z;by_cases Q:j<k
   .obtain⟨y,g1,g2⟩:=Qzh x h0 O k j u Q z v hv hf;exact⟨y,nQ x n p v y g2 k g1 1,g2⟩
   .have:j=k:=by omega
    subst this;obtain⟨y,g1,g2⟩:=Qz6 (Rc (x:=x) h0 O j) z n (AN _) v hv hf;exact⟨y,by rw[CU,z];exact g1,g2⟩
  .have e:CU x n p (k+1)=CU x n p k:=by
    rw[CU,Fm (by omega)]
   rw[e] at z
   have:=(Cx.1 z).1
   omega
def Bw(x:Bd)(n:Nat)(p:Int):List Int×List Int:=CU x n p n
def Qww(x:Bd){n:Nat}{p:Int}(h0:0<=p)(O:p<n){u v:Nat}{y:Int}(hu:(Bw x n p).1[u]? =some y)(hy:0<=y)(hv:v<n)(hf:Vz x u v=true): ∃z,(Bw x n p).1[v]? =some z/\0<=z:=by
 have Q:=Rc (x:=x) h0 O n;have hm:=(Q.mem u y hu).1 hy;obtain⟨j,Z⟩:=V4.1 hm;have hl:=Qr3 Q;have aa:=(Cx.1 Z).1;exact Qzh x h0 O n j u (by omega) Z v hv hf
def D4(z:List Int)(q:Int):Nat->Int
 |0=>q
 |k+1=>z[(D4 z q k).toNat]?.getD 0
def uD(z:List Int)(p q:Int)(n:Nat):Nat:=((List.range (n+1)).find? λk=>decide (D4 z q k=p)).getD 0
def HZ(z:List Int)(q:Int)(k:Nat):List Int:=(List.range (k+1)).map (D4 z q)
def Cu(x:Bd)(n:Nat)(p q:Int):List Int:=
 if (Bw x n p).1[q.toNat]?.getD 0<0 then [] else (HZ (Bw x n p).1 q (uD (Bw x n p).1 p q n)).reverse
def sV{x:Bd}{n:Nat}{p:Int}{s:List Int×List Int}(h:Gz x n p s){q:Int}{i:Nat}(hq:s.2[i]? =some q): ∀k,(∀j,j<k->D4 s.1 q j≠p)-> ∃j,j+k<=i/\s.2[j]? =some (D4 s.1 q k)
 |0,_=>⟨i,by omega,hq⟩
 |k+1,z=>by
  obtain⟨j,h1,O⟩:=sV h hq k (λj hj=>z j (by omega));have Q:0<j:=by
   rcases mV j with h0|h0
   .subst h0;rw[h.hd] at O;exact absurd (A7 O).symm (z k (by omega))
   .exact h0
  obtain⟨j',u,g1,g2,Z,g4⟩:=h.prev j _ O Q;exact⟨j',by omega,by rw[D4,Z,AO];exact g2⟩
def Ou{x:Bd}{n:Nat}{p:Int}{s:List Int×List Int}(h:Gz x n p s){q:Int}{i:Nat}(hq:s.2[i]? =some q){k:Nat}(z: ∀j,j<k+1->D4 s.1 q j≠p):Vz x (D4 s.1 q (k+1)) (D4 s.1 q k)=true/\ ∃y,s.1[(D4 s.1 q k).toNat]? =some y/\D4 s.1 q (k+1)=y:=by
 obtain⟨j,h1,O⟩:=sV h hq k (λj hj=>z j (by omega));have Q:0<j:=by
  rcases mV j with h0|h0
  .subst h0;rw[h.hd] at O;exact absurd (A7 O).symm (z k (by omega))
  .exact h0
 obtain⟨j',u,g1,g2,Z,g4⟩:=h.prev j _ O Q;have e:D4 s.1 q (k+1)=u:=by rw[D4,Z,AO]
 exact⟨by rw[e];exact g4,u,Z,e⟩
def Qq3{x:Bd}{n:Nat}{p:Int}{s:List Int×List Int}(h:Gz x n p s){q:Int}{i:Nat}(hq:s.2[i]? =some q): ∃d,d<=i/\D4 s.1 q d=p/\ ∀j,j<d->D4 s.1 q j≠p:=by
 have Z: ∀m,(∃d,d<=m/\D4 s.1 q d=p/\ ∀j,j<d->D4 s.1 q j≠p)\/ ∀j,j<=m->D4 s.1 q j≠p:=by
  intro m;induction m with
  |zero=>
   by_cases h0:D4 s.1 q 0=p
   .exact .inl ⟨0,AN _,h0,λj O=>by omega⟩
   .exact .inr λj O=>by rw[show j=0 by omega];exact h0
  |succ m ih=>
   rcases ih with ⟨d,z,h2,h3⟩|ih
   .exact .inl ⟨d,by omega,h2,h3⟩
   .by_cases h0:D4 s.1 q (m+1)=p
    .exact .inl ⟨m+1,AN _,h0,λj O=>ih j (by omega)⟩
    .refine .inr λj O=> ?_
     by_cases Q:j<=m
     .exact ih j Q
     .rw[show j=m+1 by omega];exact h0
 rcases Z i with z|z
 .exact z
 .obtain⟨j,g1,g2⟩:=sV h hq (i+1) (λj O=>z j (by omega));omega
def Qqr{z:List Int}{p q:Int}{n d:Nat}(hd:d<=n)(O:D4 z q d=p)(Q: ∀j,j<d->D4 z q j≠p):uD z p q n=d:=by
 have: ∀(m s:Nat),s<=d->d<s+m->((List.range' s m).find? λk=>decide (D4 z q k=p))=some d:=by
  intro m;induction m with
  |zero=>intro s Z h4;omega
  |succ m ih=>
   intro s Z h4;rw[List.range'_succ,Zen];by_cases hs:s=d
   .subst hs;simp[O]
   .rw[show decide (D4 z q s=p)=false from mM (Q s (by omega))];exact ih (s+1) (by omega) (by omega)
 rw[uD,Zej,this _ 0 (by omega) (by omega),AO]
def AH(f:Nat->Int):Nat->Int
 |0=>0
 |n+1=>AH f n+f n
def F2{f g:Nat->Int}: ∀{n:Nat},(∀i,i<n->f i=g i)->AH f n=AH g n
 |0,_=>rfl
 |n+1,h=>by simp only[AH];rw[F2 (λi z=>h i (by omega)),h n (by omega)]
def QM(f g:Nat->Int): ∀n,AH (λi=>f i+g i) n=AH f n+AH g n
 |0=>rfl
 |n+1=>by simp only[AH];rw[QM f g n];omega
def sO(f:Nat->Int): ∀n,AH (λi=> - f i) n= - AH f n
 |0=>rfl
 |n+1=>by simp only[AH];rw[sO f n];omega
def QI: ∀n,AH (λ_=>0) n=0
 |0=>rfl
 |n+1=>by simp only[AH];rw[QI n];rfl
def Qxf{f g:Nat->Int}: ∀{n:Nat},(∀i,i<n->f i<=g i)->AH f n<=AH g n
 |0,_=>Og _
 |n+1,h=>by
  have z:=Qxf (f:=f) (g:=g) (n:=n) (λi Q=>h i (by omega));have O:=h n (by omega);simp only[AH];omega
def Qt3(f:Nat->Nat->Int)(m:Nat): ∀n,AH (λi=>AH (λj=>f i j) m) n=AH (λj=>AH (λi=>f i j) n) m
 |0=>by simp only[AH];exact (QI m).symm
 |n+1=>by simp only[AH];rw[Qt3 f m n,<-QM]
def W3(k:Nat)(c:Int): ∀n,AH (λi=>if i=k then c else 0) n=if k<n then c else 0
 |0=>rfl
 |n+1=>by
  simp only[AH];rw[W3 k c n];by_cases z:n=k
  .subst z;rw[Ad (by omega),Ak rfl,Ak (by omega)];omega
  .rw[Ad z];by_cases O:k<n
   .rw[Ak O,Ak (by omega)];omega
   .rw[Ad O,Ad (by omega)];omega
def PA(a:Nat->Nat->Int)(n:Nat)(h: ∀u w,u<n->w<n->a u w= - a w u):AH (λu=>AH (λw=>a u w) n) n=0:=by
 have Q:AH (λu=>AH (λw=>a u w) n) n= - AH (λu=>AH (λw=>a u w) n) n:=by
  rw[<-sO]
  conv=>lhs;rw[Qt3]
  refine F2 λu z=> ?_
  rw[<-sO];exact F2 λw O=>h w u O z
 omega
structure QR(rm fl:Nat->Nat->Int)(n p q:Nat)(v:Int):Prop where
 anti: ∀u w,u<n->w<n->fl u w= - fl w u
 cap: ∀u w,u<n->w<n->fl u w<=rm u w
 cons: ∀u,u<n->u≠p->u≠q->AH (fl u) n=0
 val:AH (fl p) n=v
def Et(rm:Nat->Nat->Int)(n:Nat)(S:Nat->Bool):Int:=AH (λu=>AH (λw=>if S u=true/\S w=false then rm u w else 0) n) n
def nV{rm fl:Nat->Nat->Int}{n p q:Nat}{v:Int}(h:QR rm fl n p q v)(hp:p<n){S:Nat->Bool}(hS:S p=true)(hT:S q=false):Et fl n S=v:=by
 have h1:AH (λu=>AH (λw=>if S u=true then fl u w else 0) n) n=v:=by
  have:AH (λu=>AH (λw=>if S u=true then fl u w else 0) n) n=AH (λu=>if u=p then v else 0) n:=by
   refine F2 λu Q=> ?_
   by_cases z:u=p
   .subst z;rw[Ak rfl,<-h.val];exact F2 λw _=>Ak hS
   .rw[Ad z];cases hSu:S u with
    |false=>exact (F2 λw _=>Ad (by simp)).trans (QI n)
    |true=>
     have Z:u≠q:=λhe=>by rw[he,hT] at hSu;cases hSu
     exact (F2 λw _=>Ak rfl).trans (h.cons u Q z Z)
  rw[this,W3,Ak hp]
 have h2:AH (λu=>AH (λw=>if S u=true/\S w=true then fl u w else 0) n) n=0:=by
  refine PA _ n λu w Q hw=> ?_
  by_cases O:S u=true/\S w=true
  .rw[Ak O,Ak ⟨O.2,O.1⟩];exact h.anti u w Q hw
  .rw[Ad O,Ad (λh=>O ⟨h.2,h.1⟩)];rfl
 have h3:AH (λu=>AH (λw=>if S u=true then fl u w else 0) n) n=AH (λu=>AH (λw=>if S u=true/\S w=true then fl u w else 0) n) n+Et fl n S:=by
  rw[Et,<-QM];refine F2 λu _=> ?_
  rw[<-QM];refine F2 λw _=> ?_
  cases S u<;>cases S w<;>simp
 omega
def Qw8{rm fl:Nat->Nat->Int}{n p q:Nat}{v:Int}(h:QR rm fl n p q v)(hp:p<n){S:Nat->Bool}(z:S p=true)(O:S q=false):v<=Et rm n S:=by
 rw[<-nV h hp z O];refine Qxf λu Q=>Qxf λw Z=> ?_
 split
 .exact h.cap u w Q Z
 .exact Og _
def Qxp{rm fl:Nat->Nat->Int}{n p q:Nat}{v:Int}(h:QR rm fl n p q v)(hp:p<n){S:Nat->Bool}(hS:S p=true)(hT:S q=false)(z: ∀u w,u<n->w<n->S u=true->S w=false->rm u w<=fl u w):v=Et rm n S:=by
 rw[<-nV h hp hS hT];refine F2 λu Q=>F2 λw Z=> ?_
 split
 .rename_i O;have h1:=h.cap u w Q Z;have h2:=z u w Q Z O.1 O.2;omega
 .rfl
def Hk(L:Nat->Nat)(a b j:Nat):Int:=if L j=a/\L (j+1)=b then 1 else 0
def rR(L:Nat->Nat)(a b:Nat): ∀i,0<=AH (Hk L a b) i
 |0=>Og _
 |i+1=>by
  have:=rR L a b i
  simp only[AH,Hk]
  split<;>omega
def Qr1{L:Nat->Nat}{m:Nat}(z: ∀i j,i<=m->j<=m->L i=L j->i=j)(a b:Nat): ∀i,i<=m->AH (Hk L a b) i<=1/\(0<AH (Hk L a b) i-> ∃j,j<i/\L j=a/\L (j+1)=b)
 |0,_=>⟨by simp[AH],λh=>by simp[AH] at h⟩
 |i+1,hi=>by
  obtain⟨h1,h2⟩:=Qr1 z a b i (by omega);have h0:=rR L a b i;simp only[AH];by_cases Q:L i=a/\L (i+1)=b
  .have hz: ¬0<AH (Hk L a b) i:=by
    intro O;obtain⟨j,hj,Z,_⟩:=h2 O
    have:=z j i (by omega) (by omega) (Z.trans Q.1.symm)
    omega
   simp only[Hk] at hz h0⊢;rw[Ak Q];exact⟨by omega,λ_=>⟨i,by omega,Q⟩⟩
  .have e:Hk L a b i=0:=Ad Q;rw[e];refine⟨by omega,λO=> ?_⟩;obtain⟨j,hj,Z⟩:=h2 (by omega);exact⟨j,by omega,Z⟩
def nZ{L:Nat->Nat}{n m:Nat}(z: ∀i,i<=m->L i<n)(a:Nat): ∀i,i<=m->AH (λb=>AH (Hk L a b) i - AH (Hk L b a) i) n=(if L 0=a then 1 else 0) - (if L i=a then 1 else 0)
 |0,_=>by simp only[AH,Int.sub_self];exact QI n
 |i+1,hi=>by
  have ih:=nZ z a i (by omega);have e:AH (λb=>AH (Hk L a b) (i+1) - AH (Hk L b a) (i+1)) n=AH (λb=>AH (Hk L a b) i - AH (Hk L b a) i) n+(AH (λb=>if b=L (i+1) then (if L i=a then 1 else 0) else 0) n+ - AH (λb=>if b=L i then (if L (i+1)=a then 1 else 0) else 0) n):=by
   rw[<-sO,<-QM,<-QM];refine F2 λb _=> ?_
   simp only[AH,Hk];by_cases c1:L i=a<;>by_cases O:L (i+1)=a<;>by_cases Q:b=L i<;>by_cases Z:b=L (i+1)<;>simp[c1,O,Q,Z,eq_comm]<;>omega
  rw[e,ih,W3,W3,Ak (z _ hi),Ak (z _ (by omega))];omega
def O9{rm fl Z:Nat->Nat->Int}{n p q:Nat}{v:Int}(h:QR rm fl n p q v){L:Nat->Nat}{m:Nat}(ab: ∀i j,i<=m->j<=m->L i=L j->i=j)(hr: ∀i,i<=m->L i<n)
 (h0:L 0=p)(hm:L m=q)(ad:p≠q)(hp:p<n)(aa: ∀i,i<m->fl (L i) (L (i+1))<rm (L i) (L (i+1)))
 (z: ∀a b,a<n->b<n->Z a b=fl a b+(AH (Hk L a b) m - AH (Hk L b a) m)):QR rm Z n p q (v+1):=by
 have Q: ∀a,a<n->AH (Z a) n=AH (fl a) n+((if L 0=a then 1 else 0) - (if L m=a then 1 else 0)):=by
  intro a ha;rw[<-nZ hr a m (AN _),<-QM];exact F2 λb hb=>z a b ha hb
 refine⟨λu w O hw=> ?_,λu w O hw=> ?_,λu O h1 h2=> ?_,?_⟩
 .rw[z u w O hw,z w u hw O]
  have:=h.anti u w O hw
  omega
 .rw[z u w O hw];obtain⟨e1,e2⟩:=Qr1 ab u w m (AN _);have e3:=rR L w u m;have e4:=h.cap u w O hw;by_cases ac:0<AH (Hk L u w) m
  .obtain⟨j,hj,g1,g2⟩:=e2 ac
   have:=aa j hj
   rw[g1,g2] at this;omega
  .omega
 .rw[Q u O,h.cons u O h1 h2,h0,hm,Ad (EJ h1),Ad (EJ h2)];rfl
 .rw[Q p hp,h.val,h0,hm,Ak rfl,Ad (EJ ad)];omega
def Lp(l:List (List Int))(u v:Int)(d:Int):List (List Int):=l.set u.toNat ((l[u.toNat]?.getD []).set v.toNat ((l[u.toNat]?.getD [])[v.toNat]?.getD 0+d))
def GN(l:List (List Int))(a b:Nat):Int:=(l[a]?.getD [])[b]?.getD 0
def Zj(l:List (List Int))(u v d:Int):(Lp l u v d).length=l.length:=by simp[Lp]
def Zh{l:List (List Int)}{n:Nat}(h: ∀r∈l,r.length=n)(u v d:Int)(O:u.toNat<l.length): ∀r∈Lp l u v d,r.length=n:=by
 intro r z;rcases WU z with z|z
 .exact h r z
 .subst z;rw[Fc,Bk O,AO];exact h _ (Rn O)
def dM{l:List (List Int)}{n:Nat}(Z:l.length=n)(h: ∀r∈l,r.length=n){u v:Nat}(d:Int)(hu:u<n)(hv:v<n)(a b:Nat):GN (Lp l u v d) a b=GN l a b+if a=u/\b=v then d else 0:=by
 simp only[GN,Lp,B5];by_cases z:u=a
 .subst z;rw[Dv (by omega),AO];have Q:(l[u]?.getD []).length=n:=by
   rw[Bk (by omega),AO];exact h _ (Rn (by omega))
  by_cases O:v=b
  .subst O;rw[Dv (by omega),AO,Ak ⟨rfl,rfl⟩]
  .rw[DM O,Ad (λh=>O h.2.symm)];omega
 .rw[DM z,Ad (λh=>z h.1.symm)];omega
def N4(x:Bd)(u v:Int):Bd:=⟨x.Room,Lp (Lp x.Flow u v 1) v u (-1)⟩
def Hl(x:Bd)(L:List Int):Nat->Bd
 |0=>x
 |i+1=>N4 (Hl x L i) (L[i]?.getD 0) (L[i+1]?.getD 0)
def Ql3(x:Bd)(L:List Int): ∀i,(Hl x L i).Room=x.Room
 |0=>rfl
 |i+1=>Ql3 x L i
def O8(x:Bd)(u v:Int):Qzr x u v=GN x.Flow u.toNat v.toNat:=rfl
def Pj(x:Bd)(u v:Int):Qyw x u v=GN x.Room u.toNat v.toNat:=rfl
def TO{x:Bd}{n:Nat}(h:Kk x n){u v:Int}(z:u.toNat<n)(O:v.toNat<n):Kk (N4 x u v) n:=by
 refine⟨h.r,by simp only[N4,Zj];exact h.f,h.rr,?_⟩;exact Zh (Zh h.ff u v 1 (by rw[h.f];exact z)) v u (-1) (by rw[Zj,h.f];exact O)
def zP{x:Bd}{n:Nat}(h:Kk x n){L:List Int}(z: ∀y∈L,0<=y/\y<n): ∀i,i<L.length->Kk (Hl x L i) n
 |0,_=>h
 |i+1,O=>by
  have ih:=zP h z i (by omega);refine TO ih ?_ ?_
  .rw[Bk (by omega),AO]
   have:=z _ (Rn (show i<L.length by omega))
   omega
  .rw[Bk O,AO]
   have:=z _ (Rn O)
   omega
def Lf(L:List Int)(i:Nat):Nat:=(L[i]?.getD 0).toNat
def Qso{x:Bd}{n:Nat}(h:Kk x n){L:List Int}(O: ∀y∈L,0<=y/\y<n)(a b:Nat): ∀i,i<L.length->GN (Hl x L i).Flow a b=GN x.Flow a b+(AH (Hk (Lf L) a b) i - AH (Hk (Lf L) b a) i)
 |0,_=>by simp[Hl,AH]
 |i+1,hi=>by
  have ih:=Qso h O a b i (by omega);have z:=zP h O i (by omega);obtain⟨u,hu⟩: ∃u,L[i]? =some u:=⟨_,Bk (by omega)⟩;obtain⟨v,hv⟩: ∃v,L[i+1]? =some v:=⟨_,Bk hi⟩;have aa:=O u (Ba hu);have hvb:=O v (Ba hv);obtain⟨u',rfl⟩: ∃u':Nat,u=u':=⟨u.toNat,by omega⟩;obtain⟨v',rfl⟩: ∃v':Nat,v=v':=⟨v.toNat,by omega⟩;simp only[Hl,N4,hu,hv,AO];rw[dM (n:=n) (by rw[Zj];exact z.f) (Zh z.ff _ _ _ (by rw[z.f];simp;omega)) _ (by omega) (by omega),
   dM z.f z.ff _ (by omega) (by omega),ih]
  have e1:Lf L i=u':=by simp[Lf,hu]
  have e2:Lf L (i+1)=v':=by simp[Lf,hv]
  simp only[AH,Hk,e1,e2];by_cases c1:a=u'<;>by_cases Q:b=v'<;>by_cases Z:a=v'<;>by_cases c4:b=u'<;>simp[c1,Q,Z,c4,eq_comm]<;>omega
structure SG(x:Bd)(n:Nat)(p q:Int)(L:List Int):Prop where
 pos:0<L.length
 inb: ∀y∈L,0<=y/\y<n
 hd:L[0]? =some p
 lst:L[L.length - 1]? =some q
 nd: ∀i j,i<L.length->j<L.length->Lf L i=Lf L j->i=j
 free: ∀i,i+1<L.length->Vz x (L[i]?.getD 0) (L[i+1]?.getD 0)=true
def Vl{x:Bd}{n:Nat}{p q:Int}(an:0<=p)(ao:p<n)(a8:0<=q)(a9:q<n)(am:Cu x n p q≠[]):SG x n p q (Cu x n p q):=by
 have hP:Gz x n p (Bw x n p):=Rc an ao n;have ax:=hP.len;obtain⟨y,hy⟩: ∃y,(Bw x n p).1[q.toNat]? =some y:=⟨_,Bk (by omega)⟩;have av: ¬y<0:=by
  intro h;apply am;simp only[Cu,hy,AO];rw[Ak h]
 have aq:q∈(Bw x n p).2:=by
  have:=(hP.mem q.toNat y hy).1 (by omega)
  rwa [show (q.toNat:Int)=q by omega] at this
 obtain⟨i,hi⟩:=V4.1 aq;obtain⟨d,ay,ah,ab⟩:=Qq3 hP hi;have az:=(Cx.1 hi).1;have a0:=Qr3 hP;have au:uD (Bw x n p).1 p q n=d:=Qqr (by omega) ah ab;have hW:Cu x n p q=(HZ (Bw x n p).1 q d).reverse:=by
  simp only[Cu,hy,AO];rw[Ad av,au]
 rw[hW];have Q:(HZ (Bw x n p).1 q d).length=d+1:=by simp[HZ]
 have hget: ∀k,k<=d->(HZ (Bw x n p).1 q d).reverse[k]? =some (D4 (Bw x n p).1 q (d - k)):=by
  intro k O;rw[ZeY (by rw[Q];omega),Q,show d+1 - 1 - k=d - k by omega,HZ,Du,Ic (by omega)];rfl
 have ac: ∀k,k<=d-> ∃j,j+k<=i/\(Bw x n p).2[j]? =some (D4 (Bw x n p).1 q k):=λk O=>sV hP hi k (λj hj=>ab j (by omega))
 have Z: ∀k,k<=d->0<=D4 (Bw x n p).1 q k/\D4 (Bw x n p).1 q k<n:=by
  intro k O;obtain⟨j,_,h2⟩:=ac k O;exact hP.q _ (Ba h2)
 have af: ∀k,k<=d-> ∀e,e<=k-> ∀j j',(Bw x n p).2[j]? =some (D4 (Bw x n p).1 q k)->(Bw x n p).2[j']? =some (D4 (Bw x n p).1 q e)->j+(k - e)<=j':=by
  intro k O e he j j' hj aj;have aw: ∀m,e+m<=d-> ∃j2,j2+m<=j'/\(Bw x n p).2[j2]? =some (D4 (Bw x n p).1 q (e+m)):=by
   intro m;induction m with
   |zero=>intro _;exact⟨j',by omega,aj⟩
   |succ m ih=>
    intro hm;obtain⟨j2,g1,g2⟩:=ih (by omega);have h0:0<j2:=by
     rcases mV j2 with h0|h0
     .subst h0;rw[hP.hd] at g2;exact absurd (A7 g2).symm (ab _ (by omega))
     .exact h0
    obtain⟨j3,u,q1,q2,q3,q4⟩:=hP.prev j2 _ g2 h0;refine⟨j3,by omega,?_⟩;rw[show e+(m+1)=e+m+1 by omega,D4,q3,AO];exact q2
  obtain⟨j2,g1,g2⟩:=aw (k - e) (by omega);rw[show e+(k - e)=k by omega] at g2
  have:=(List.getElem?_inj (Cx.1 hj).1 hP.nd).1 (hj.trans g2.symm)
  omega
 have ad: ∀k e,k<=d->e<k->D4 (Bw x n p).1 q k≠D4 (Bw x n p).1 q e:=by
  intro k e O he ai;obtain⟨j,_,h2⟩:=ac k O
  have:=af k O e (by omega) j j h2 (ai▸h2)
  omega
 have aa: ∀k,k<=d->(HZ (Bw x n p).1 q d).reverse[k]?.getD 0=D4 (Bw x n p).1 q (d - k):=λk O=>by rw[hget k O,AO]
 refine⟨by rw[mS,Q];omega,λz hz=> ?_,?_,?_,λk e O he hL=> ?_,λk O=> ?_⟩
 .obtain⟨k,O⟩:=V4.1 hz;have ak:=(Cx.1 O).1;rw[mS,Q] at ak;rw[hget k (by omega)] at O;obtain rfl:=A7 O;exact Z _ (by omega)
 .rw[hget 0 (by omega),ZU,ah]
 .rw[mS,Q,hget (d+1 - 1) (by omega),show d - (d+1 - 1)=0 by omega];rfl
 .rw[mS,Q] at O he;simp only[Lf] at hL;rw[aa k (by omega),aa e (by omega)] at hL;have b1:=Z (d - k) (by omega);have b2:=Z (d - e) (by omega);have ag:D4 (Bw x n p).1 q (d - k)=D4 (Bw x n p).1 q (d - e):=by omega
  rcases vI (d - k) (d - e) with h|h|h
  .exact absurd ag.symm (ad _ _ (by omega) h)
  .omega
  .exact absurd ag (ad _ _ (by omega) h)
 .rw[mS,Q] at O;rw[aa k (by omega),aa (k+1) (by omega),show d - k=d - (k+1)+1 by omega];exact (Ou hP hi (λj hj=>ab j (by omega))).1
def FO(n:Nat)(p q:Int):Nat->Bd->Int
 |0,_=>0
 |m+1,x=>if Cu x n p q=[] then 0 else FO n p q m (Hl x (Cu x n p q) ((Cu x n p q).length - 1))+1
def DV(x:Bd)(a b:Nat):Int:=GN x.Room a b
def JB(x:Bd)(a b:Nat):Int:=GN x.Flow a b
def Qun{x:Bd}{n:Nat}(h:Kk x n){p q:Int}(aa:0<=p)(ab:p<n)(ac:p≠q)(ad:0<=q){v:Int}(hf:QR (DV x) (JB x) n p.toNat q.toNat v){L:List Int}(z:SG x n p q L):
 Kk (Hl x L (L.length - 1)) n/\QR (DV x) (JB (Hl x L (L.length - 1))) n p.toNat q.toNat (v+1):=by
 have Z:=z.pos;have Q: ∀i,i<L.length->(L[i]?.getD 0).toNat=Lf L i/\Lf L i<n:=by
  intro i O;refine⟨rfl,?_⟩;simp only[Lf];rw[Bk O,AO]
  have:=z.inb _ (Rn O)
  omega
 refine⟨zP h z.inb _ (by omega),O9 (m:=L.length - 1) (L:=Lf L) hf (λi j O hj=>z.nd i j (by omega) (by omega)) (λi O=>(Q i (by omega)).2) ?_ ?_ (by omega) (by omega) (λi O=> ?_) (λa b _ _=>Qso h z.inb a b _ (by omega))⟩
 .simp only[Lf,z.hd,AO]
 .simp only[Lf,z.lst,AO]
 .exact of_decide_eq_true (z.free i (by omega))
def nS{n:Nat}{p q:Int}(O:0<=p)(Q:p<n)(ad:p≠q)(ab:0<=q)(af:q<n): ∀(m:Nat) (x:Bd) (v:Int),Kk x n->QR (DV x) (JB x) n p.toNat q.toNat v->
 (FO n p q m x=m/\ ∀S:Nat->Bool,S p.toNat=true->S q.toNat=false->v+m<=Et (DV x) n S)\/(FO n p q m x<m/\ ∃S:Nat->Bool,S p.toNat=true/\S q.toNat=false/\Et (DV x) n S=v+FO n p q m x)
 |0,x,v,h,hf=> .inl ⟨rfl,λS h1 h2=>by have:=Qw8 hf (by omega) h1 h2;simpa using this⟩
 |m+1,x,v,h,hf=>by
  by_cases Z:Cu x n p q=[]
  .refine .inr ?_;have e:FO n p q (m+1) x=0:=by simp only[FO];rw[Ak Z]
   rw[e];refine⟨by omega,λu=>decide (0<=(Bw x n p).1[u]?.getD (-1)),?_,?_,?_⟩
   .have:=(Rc (x:=x) O Q n).pp
    simp only[Bw,this,AO,B3];exact O
   .have aa:=(Rc (x:=x) O Q n).len;obtain⟨y,hy⟩: ∃y,(Bw x n p).1[q.toNat]? =some y:=⟨_,Bk (by simp only[Bw];omega)⟩;simp only[hy,AO,Lw];intro h0;simp only[Cu,hy,AO] at Z;rw[Ad (by omega)] at Z;simp[HZ] at Z
   .have:=Qxp (S:=λu=>decide (0<=(Bw x n p).1[u]?.getD (-1))) hf (by omega) ?_ ?_ ?_
    .omega
    .have:=(Rc (x:=x) O Q n).pp
     simp only[Bw,this,AO,B3];exact O
    .have aa:=(Rc (x:=x) O Q n).len;obtain⟨y,hy⟩: ∃y,(Bw x n p).1[q.toNat]? =some y:=⟨_,Bk (by simp only[Bw];omega)⟩;simp only[hy,AO,Lw];intro h0;simp only[Cu,hy,AO] at Z;rw[Ad (by omega)] at Z;simp[HZ] at Z
    .intro u w hu ah h1 h2;simp only[B3,Lw] at h1 h2;have aa:=(Rc (x:=x) O Q n).len;obtain⟨y,hy⟩: ∃y,(Bw x n p).1[u]? =some y:=⟨_,Bk (by simp only[Bw];omega)⟩;rw[hy,AO] at h1;by_cases ac:Vz x u w=true
     .obtain⟨z,g1,g2⟩:=Qww x O Q hy h1 ah ac;rw[g1,AO] at h2;omega
     .have h3: ¬(Qzr x u w<Qyw x u w):=λh=>ac (Oi h)
      rw[O8,Pj,B5,B5] at h3;simp only[DV,JB];omega
  .have hW:=Vl O Q ab af Z;obtain⟨g1,g2⟩:=Qun h O Q ad ab hf hW;have ag:DV (Hl x (Cu x n p q) ((Cu x n p q).length - 1))=DV x:=by funext a b;simp only[DV,Ql3]
   rw[<-ag] at g2;have ih:=nS O Q ad ab af m _ _ g1 g2;rw[ag] at ih;have e:FO n p q (m+1) x=FO n p q m (Hl x (Cu x n p q) ((Cu x n p q).length - 1))+1:=by simp only[FO];rw[Ad Z]
   rw[e];rcases ih with ⟨h1,h2⟩|⟨h1,S,h2,h3,h4⟩
   .exact .inl ⟨by omega,λS hS hT=>by have:=h2 S hS hT;omega⟩
   .exact .inr ⟨by omega,S,h2,h3,by omega⟩
def KI(n:Nat):Bd:=⟨List.replicate n (List.replicate n 0),List.replicate n (List.replicate n 0)⟩
def Kw(x:Bd)(b:Ag):Bd:=⟨Lp (Lp x.Room b.A b.B b.Strength) b.B b.A b.Strength,x.Flow⟩
def Cb(n:Nat)(bs:List Ag):Nat->Bd
 |0=>KI n
 |k+1=>match bs[k]? with
  |some b=>Kw (Cb n bs k) b
  |none=>Cb n bs k
def DJ(n:Nat)(bs:List Ag):Bd:=Cb n bs bs.length
def W8{n:Nat}{bs:List Ag}(Z:Lm n bs): ∀k,Kk (Cb n bs k) n/\(Cb n bs k).Flow=List.replicate n (List.replicate n 0)
 |0=>⟨⟨by simp[Cb,KI],by simp[Cb,KI],λl Q=>by rw[Od Q];simp,λl Q=>by rw[Od Q];simp⟩,rfl⟩
 |k+1=>by
  obtain⟨ih,z⟩:=W8 Z k;simp only[Cb];split
  .rename_i b O;obtain⟨b1,b2,b3,b4⟩:=Z b (Ba O);refine⟨⟨by simp only[Kw,Zj];exact ih.r,ih.f,?_,ih.ff⟩,z⟩;exact Zh (Zh ih.rr _ _ _ (by rw[ih.r];omega)) _ _ _ (by rw[Zj,ih.r];omega)
  .exact⟨ih,z⟩
def CI(S:Nat->Bool):List Ag->Int
 |[]=>0
 |b::r=>(if S b.A.toNat=S b.B.toNat then 0 else b.Strength)+CI S r
def oK(S:Nat->Bool): ∀(a b:List Ag),CI S (a++b)=CI S a+CI S b
 |[],b=>by simp[CI]
 |x::r,b=>by simp only[De,CI,oK S r b];omega
def YN(n u v:Nat)(hu:u<n)(hv:v<n)(c:Int)(g:Nat->Nat->Bool):AH (λa=>AH (λb=>if g a b=true then (if a=u/\b=v then c else 0) else 0) n) n=if g u v=true then c else 0:=by
 have Q:AH (λa=>AH (λb=>if g a b=true then (if a=u/\b=v then c else 0) else 0) n) n=AH (λa=>if a=u then (if g u v=true then c else 0) else 0) n:=by
  refine F2 λa _=> ?_
  by_cases z:a=u
  .subst z;rw[Ak rfl];have Z:AH (λb=>if g a b=true then (if a=a/\b=v then c else 0) else 0) n=AH (λb=>if b=v then (if g a v=true then c else 0) else 0) n:=by
    refine F2 λb _=> ?_
    by_cases O:b=v
    .subst O;simp
    .simp[O]
   rw[Z,W3,Ak hv]
  .rw[Ad z];refine (F2 λb _=> ?_).trans (QI n);simp[z]
 rw[Q,W3,Ak hu]
def Qnz{l:List (List Int)}{n:Nat}(hl:l.length=n)(h: ∀r∈l,r.length=n){u v:Nat}(d:Int)(O:u<n)(Q:v<n)(S:Nat->Bool):
 Et (λa b=>GN (Lp l u v d) a b) n S=Et (λa b=>GN l a b) n S+if S u=true/\S v=false then d else 0:=by
 have z:AH (λa=>AH (λb=>if (S a && !S b)=true then (if a=u/\b=v then d else 0) else 0) n) n=if (S u && !S v)=true then d else 0:=YN n u v O Q d (λa b=>S a && !S b)
 have Z:(if (S u && !S v)=true then d else 0)=if S u=true/\S v=false then d else 0:=by
  cases S u<;>cases S v<;>simp
 rw[Z] at z;rw[<-z,Et,Et,<-QM];refine F2 λa _=> ?_
 rw[<-QM];refine F2 λb _=> ?_
 rw[dM hl h d O Q a b];cases S a<;>cases S b<;>simp
def LA{n:Nat}{bs:List Ag}(O:Lm n bs)(S:Nat->Bool): ∀k,k<=bs.length->Et (DV (Cb n bs k)) n S=CI S (bs.take k)
 |0,_=>by
  simp only[ZV,CI,Et];refine (F2 λu hu=> ?_).trans (QI n);refine (F2 λw hw=> ?_).trans (QI n)
  have:DV (Cb n bs 0) u w=0:=by
   simp only[DV,Cb,KI,GN];rw[Lv,Ak hu,AO,Lv,Ak hw,AO]
  rw[this];split<;>rfl
 |k+1,Z=>by
  obtain⟨b,hbk⟩: ∃b,bs[k]? =some b:=⟨_,Bk Z⟩;have ih:=LA O S k (by omega);obtain⟨z,_⟩:=W8 O k;obtain⟨b1,b2,b3,b4⟩:=O b (Ba hbk);have e:bs.take (k+1)=bs.take k++[b]:=by rw[Ib,hbk];rfl
  rw[e,oK,<-ih];have Q:DV (Cb n bs (k+1))=λx y=>GN (Lp (Lp (Cb n bs k).Room (b.A.toNat:Int) (b.B.toNat:Int) b.Strength) (b.B.toNat:Int) (b.A.toNat:Int) b.Strength) x y:=by
   funext x y;simp only[DV,Cb,hbk,Kw];rw[show ((b.A.toNat:Nat):Int)=b.A by omega,show ((b.B.toNat:Nat):Int)=b.B by omega]
  rw[Q,Qnz (by rw[Zj];exact z.r) (Zh z.rr _ _ _ (by rw[z.r];simp;omega)) _ (by omega) (by omega),Qnz z.r z.rr _ (by omega) (by omega)];simp only[CI]
  have:Et (λa b=>GN (Cb n bs k).Room a b) n S=Et (DV (Cb n bs k)) n S:=rfl
  rw[this];cases S b.A.toNat<;>cases S b.B.toNat<;>simp<;>omega
def RF{n:Nat}{bs:List Ag}(z:Lm n bs)(S:Nat->Bool):Et (DV (DJ n bs)) n S=CI S bs:=by
 rw[DJ,LA z S _ (AN _),IG]
def Qpz{n:Nat}{bs:List Ag}(O:Lm n bs)(hs:PX bs)(a b:Nat): ∀k,0<=DV (Cb n bs k) a b
 |0=>by
  simp only[DV,Cb,KI,GN,Lv];split
  .rw[AO,Lv];split<;>simp
  .simp
 |k+1=>by
  have ih:=Qpz O hs a b k;obtain⟨z,_⟩:=W8 O k;simp only[DV,Cb] at ih⊢;split
  .rename_i x Q;obtain⟨b1,b2,b3,b4⟩:=O x (Ba Q);have h0:=(hs x (Ba Q)).1;simp only[Kw];rw[show x.A=(x.A.toNat:Int) by omega,show x.B=(x.B.toNat:Int) by omega];rw[dM (n:=n) (by rw[Zj];exact z.r) (Zh z.rr _ _ _ (by rw[z.r];simp;omega)) _ (by omega) (by omega),dM z.r z.rr _ (by omega) (by omega)]
   split<;>split<;>omega
  .exact ih
def nX{n:Nat}{bs:List Ag}(O:Lm n bs)(hs:PX bs)(p q:Nat):QR (DV (DJ n bs)) (JB (DJ n bs)) n p q 0:=by
 have z: ∀a b,JB (DJ n bs) a b=0:=by
  intro a b;simp only[JB,DJ,(W8 O bs.length).2,GN,Lv];split
  .rw[AO,Lv];split<;>simp
  .simp
 refine⟨λu w _ _=>by rw[z,z];rfl,λu w _ _=> ?_,λu _ _ _=>(F2 λi _=>z u i).trans (QI n),(F2 λi _=>z p i).trans (QI n)⟩;rw[z];exact Qpz O hs u w bs.length
def WF(n:Nat)(bs:List Ag)(t:Int)(k:Nat):Prop:= ∀S:Nat->Bool,S 0=true->(∃y,0<y/\y<=k/\y<n/\S y=false)->t<=CI S bs
def QY(n:Nat)(bs:List Ag)(t:Int):Nat->Bool
 |0=>true
 |k+1=>QY n bs t k && decide (t<=FO n 0 ((k:Int)+1) t.toNat (DJ n bs))
def Qtt{n:Nat}{bs:List Ag}(Q:Lm n bs)(hs:PX bs){t:Int}(ht:0<=t): ∀k,k<n->(QY n bs t k=true↔WF n bs t k)
 |0,_=>by
  simp only[QY,true_iff];rintro S _ ⟨y,h1,z,_⟩;omega
 |k+1,hk=>by
  have ih:=Qtt Q hs ht k (by omega);have hl:=nS (n:=n) (p:=0) (q:=(k:Int)+1) (by omega) (by omega) (by omega) (by omega) (by omega) t.toNat (DJ n bs) 0 (W8 Q bs.length).1 (nX Q hs _ _);simp only[Int.toNat_zero,show ((k:Int)+1).toNat=k+1 by omega,Int.zero_add,RF Q] at hl;simp only[QY,AL,B3,ih];rcases hl with ⟨h1,z⟩|⟨h1,S,z,h3,h4⟩
  .constructor
   .rintro⟨g1,g2⟩ S O ⟨y,y1,y2,y3,Z⟩;by_cases hy:y<=k
    .exact g1 S O ⟨y,y1,hy,y3,Z⟩
    .have:=z S O (by rw[show k+1=y by omega];exact Z)
     omega
   .intro h;exact⟨λS O ⟨y,y1,y2,y3,Z⟩=>h S O ⟨y,y1,by omega,y3,Z⟩,by omega⟩
  .constructor
   .rintro⟨_,g2⟩;omega
   .intro h
    have:=h S z ⟨k+1,by omega,by omega,hk,h3⟩
    omega
end Go.Ae
