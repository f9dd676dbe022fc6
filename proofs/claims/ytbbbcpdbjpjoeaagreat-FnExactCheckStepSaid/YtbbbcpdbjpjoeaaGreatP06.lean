/- What is proved: the law FnExactCheckStep returns true for every input, and each argument reads afterwards as it read before. Conditions: none. -/
import Derived.Test.YtbbbcpdbjpjoeaaGreatP05
import Derived.Test.YtbbbcpdbjpjoeaaGreatProg
set_option linter.all false
set_option maxHeartbeats 8000000
set_option maxRecDepth 100000
namespace Go.Ae
open Go.Proofs
theorem TY0:
 (tI Tryz.prog 2=some {size:=1,bytes:=8,agg:=false,kind:= .int .i64,zero:=[.int .i64 0]})∧
 (tI Tryz.prog 3=some {size:=1,bytes:=8,agg:=false,kind:= .int .i64,zero:=[.int .i64 0]})∧
 (tI Tryz.prog 4=some {size:=1,bytes:=1,agg:=false,kind:= .bool,zero:=[.bool false]})∧
 (tI Tryz.prog 5=some {size:=1,bytes:=1,agg:=false,kind:= .int .u8,zero:=[.int .u8 0]})∧
 (tI Tryz.prog 9=some {size:=1,bytes:=16,agg:=false,kind:= .str,zero:=[.str ByteArray.empty]})∧
 (tI Tryz.prog 22=some {size:=1,bytes:=24,agg:=false,kind:= .slice 160,zero:=[.sl true 0 []]})∧
 (tI Tryz.prog 23=some {size:=1,bytes:=24,agg:=false,kind:= .slice 163,zero:=[.sl true 0 []]})∧
 (tI Tryz.prog 25=some {size:=2,bytes:=48,agg:=true,kind:= .struct [(0,1),(1,1)],zero:=[.sl true 0 [],.sl true 0 []]})∧
 (tI Tryz.prog 26=some {size:=1,bytes:=24,agg:=false,kind:= .slice 107,zero:=[.sl true 0 []]})∧
 (tI Tryz.prog 28=some {size:=1,bytes:=24,agg:=true,kind:= .struct [(0,1)],zero:=[.sl true 0 []]})∧
 (tI Tryz.prog 30=some {size:=4,bytes:=80,agg:=true,kind:= .struct [(0,2),(2,1),(3,1)],zero:=[.sl true 0 [],.sl true 0 [],.sl true 0 [],.int .i64 0]})∧
 (tI Tryz.prog 31=some {size:=1,bytes:=24,agg:=false,kind:= .slice 2,zero:=[.sl true 0 []]})∧
 (tI Tryz.prog 33=some {size:=10,bytes:=192,agg:=true,kind:= .struct [(0,4),(4,4),(8,1),(9,1)],zero:=[.sl true 0 [],.sl true 0 [],.sl true 0 [],.int .i64 0,.sl true 0 [],.sl true 0 [],.sl true 0 [],.int .i64 0,.int .i64 0,.sl true 0 []]})∧
 (tI Tryz.prog 35=some {size:=2,bytes:=16,agg:=true,kind:= .struct [(0,1),(1,1)],zero:=[.int .i64 0,.int .i64 0]})∧
 (tI Tryz.prog 37=some {size:=3,bytes:=24,agg:=true,kind:= .struct [(0,2),(2,1)],zero:=[.int .i64 0,.int .i64 0,.int .i64 0]})∧
 (tI Tryz.prog 41=some {size:=1,bytes:=24,agg:=false,kind:= .slice 170,zero:=[.sl true 0 []]})∧
 (tI Tryz.prog 42=some {size:=1,bytes:=24,agg:=false,kind:= .slice 167,zero:=[.sl true 0 []]})∧
 (tI Tryz.prog 44=some {size:=2,bytes:=48,agg:=true,kind:= .struct [(0,1),(1,1)],zero:=[.sl true 0 [],.sl true 0 []]})∧
 (tI Tryz.prog 45=some {size:=1,bytes:=24,agg:=false,kind:= .slice 101,zero:=[.sl true 0 []]})∧
 (tI Tryz.prog 47=some {size:=1,bytes:=24,agg:=true,kind:= .struct [(0,1)],zero:=[.sl true 0 []]}):=
 ⟨by kernel_rfl,by kernel_rfl,by kernel_rfl,by kernel_rfl,by kernel_rfl,by kernel_rfl,by kernel_rfl,by kernel_rfl,by kernel_rfl,by kernel_rfl,by kernel_rfl,by kernel_rfl,by kernel_rfl,by kernel_rfl,by kernel_rfl,by kernel_rfl,by kernel_rfl,by kernel_rfl,by kernel_rfl,by kernel_rfl⟩
theorem TY1:
 (tI Tryz.prog 49=some {size:=4,bytes:=80,agg:=true,kind:= .struct [(0,2),(2,1),(3,1)],zero:=[.sl true 0 [],.sl true 0 [],.sl true 0 [],.int .i64 0]})∧
 (tI Tryz.prog 51=some {size:=10,bytes:=192,agg:=true,kind:= .struct [(0,4),(4,4),(8,1),(9,1)],zero:=[.sl true 0 [],.sl true 0 [],.sl true 0 [],.int .i64 0,.sl true 0 [],.sl true 0 [],.sl true 0 [],.int .i64 0,.int .i64 0,.sl true 0 []]})∧
 (tI Tryz.prog 54=some {size:=2,bytes:=16,agg:=true,kind:= .struct [(0,1),(1,1)],zero:=[.int .i64 0,.int .i64 0]})∧
 (tI Tryz.prog 56=some {size:=3,bytes:=24,agg:=true,kind:= .struct [(0,2),(2,1)],zero:=[.int .i64 0,.int .i64 0,.int .i64 0]})∧
 (tI Tryz.prog 65=some {size:=1,bytes:=8,agg:=false,kind:= .ptr 51,zero:=[.nilp]})∧
 (tI Tryz.prog 66=some {size:=1,bytes:=8,agg:=false,kind:= .ptr 47,zero:=[.nilp]})∧
 (tI Tryz.prog 68=some {size:=1,bytes:=8,agg:=false,kind:= .ptr 49,zero:=[.nilp]})∧
 (tI Tryz.prog 80=some {size:=1,bytes:=8,agg:=false,kind:= .other,zero:=[.nilf]})∧
 (tI Tryz.prog 81=some {size:=1,bytes:=8,agg:=false,kind:= .ptr 114,zero:=[.nilp]})∧
 (tI Tryz.prog 85=some {size:=1,bytes:=24,agg:=false,kind:= .slice 56,zero:=[.sl true 0 []]})∧
 (tI Tryz.prog 95=some {size:=1,bytes:=8,agg:=false,kind:= .ptr 44,zero:=[.nilp]})∧
 (tI Tryz.prog 101=some {size:=3,bytes:=24,agg:=true,kind:= .struct [(0,2),(2,1)],zero:=[.int .i64 0,.int .i64 0,.int .i64 0]})∧
 (tI Tryz.prog 107=some {size:=3,bytes:=24,agg:=true,kind:= .struct [(0,2),(2,1)],zero:=[.int .i64 0,.int .i64 0,.int .i64 0]})∧
 (tI Tryz.prog 111=some {size:=1,bytes:=8,agg:=false,kind:= .map 54 2,zero:=[.nilm]})∧
 (tI Tryz.prog 112=some {size:=1,bytes:=8,agg:=false,kind:= .map 54 31,zero:=[.nilm]})∧
 (tI Tryz.prog 114=some {size:=6,bytes:=96,agg:=true,kind:= .struct [(0,4),(4,1),(5,1)],zero:=[.sl true 0 [],.sl true 0 [],.sl true 0 [],.int .i64 0,.nilm,.nilm]})∧
 (tI Tryz.prog 116=some {size:=1,bytes:=8,agg:=false,kind:= .other,zero:=[.nilf]})∧
 (tI Tryz.prog 124=some {size:=1,bytes:=8,agg:=false,kind:= .other,zero:=[.nilf]})∧
 (tI Tryz.prog 146=some {size:=1,bytes:=8,agg:=false,kind:= .other,zero:=[.nilf]})∧
 (tI Tryz.prog 152=some {size:=1,bytes:=8,agg:=false,kind:= .other,zero:=[.nilf]}):=
 ⟨by kernel_rfl,by kernel_rfl,by kernel_rfl,by kernel_rfl,by kernel_rfl,by kernel_rfl,by kernel_rfl,by kernel_rfl,by kernel_rfl,by kernel_rfl,by kernel_rfl,by kernel_rfl,by kernel_rfl,by kernel_rfl,by kernel_rfl,by kernel_rfl,by kernel_rfl,by kernel_rfl,by kernel_rfl,by kernel_rfl⟩
theorem TY2:
 (tI Tryz.prog 154=some {size:=1,bytes:=8,agg:=false,kind:= .int .u64,zero:=[.int .u64 0]})∧
 (tI Tryz.prog 160=some {size:=2,bytes:=24,agg:=true,kind:= .struct [(0,1),(1,1)],zero:=[.str ByteArray.empty,.int .i64 0]})∧
 (tI Tryz.prog 163=some {size:=2,bytes:=40,agg:=true,kind:= .struct [(0,1),(1,1)],zero:=[.str ByteArray.empty,.sl true 0 []]})∧
 (tI Tryz.prog 167=some {size:=2,bytes:=40,agg:=true,kind:= .struct [(0,1),(1,1)],zero:=[.str ByteArray.empty,.sl true 0 []]})∧
 (tI Tryz.prog 170=some {size:=2,bytes:=24,agg:=true,kind:= .struct [(0,1),(1,1)],zero:=[.str ByteArray.empty,.int .i64 0]})∧
 (tI Tryz.prog 175=some {size:=1,bytes:=8,agg:=false,kind:= .map 9 4,zero:=[.nilm]})∧
 (tI Tryz.prog 177=some {size:=8,bytes:=64,agg:=true,kind:= .array 4 54,zero:=[.int .i64 0,.int .i64 0,.int .i64 0,.int .i64 0,.int .i64 0,.int .i64 0,.int .i64 0,.int .i64 0]})∧
 (tI Tryz.prog 186=some {size:=1,bytes:=24,agg:=false,kind:= .slice 209,zero:=[.sl true 0 []]})∧
 (tI Tryz.prog 195=some {size:=1,bytes:=8,agg:=false,kind:= .int .i64,zero:=[.int .i64 0]})∧
 (tI Tryz.prog 202=some {size:=1,bytes:=4,agg:=false,kind:= .int .u32,zero:=[.int .u32 0]})∧
 (tI Tryz.prog 204=some {size:=1,bytes:=8,agg:=false,kind:= .int .u64,zero:=[.int .u64 0]})∧
 (tI Tryz.prog 205=some {size:=1,bytes:=24,agg:=false,kind:= .slice 3,zero:=[.sl true 0 []]})∧
 (tI Tryz.prog 209=some {size:=3,bytes:=24,agg:=true,kind:= .struct [(0,1),(1,1),(2,1)],zero:=[.int .i64 0,.int .i64 0,.int .i64 0]})∧
 (tI Tryz.prog 210=some {size:=1,bytes:=24,agg:=false,kind:= .slice 31,zero:=[.sl true 0 []]})∧
 (tI Tryz.prog 213=some {size:=1,bytes:=8,agg:=false,kind:= .ptr 231,zero:=[.nilp]})∧
 (tI Tryz.prog 222=some {size:=1,bytes:=8,agg:=false,kind:= .int .u64,zero:=[.int .u64 0]})∧
 (tI Tryz.prog 226=some {size:=1,bytes:=8,agg:=false,kind:= .ptr 3,zero:=[.nilp]})∧
 (tI Tryz.prog 231=some {size:=4,bytes:=80,agg:=true,kind:= .struct [(0,1),(1,1),(2,1),(3,1)],zero:=[.int .i64 0,.sl true 0 [],.sl true 0 [],.sl true 0 []]})∧
 (tI Tryz.prog 235=some {size:=1,bytes:=8,agg:=false,kind:= .other,zero:=[.nilf]})∧
 (tI Tryz.prog 237=some {size:=1,bytes:=8,agg:=false,kind:= .other,zero:=[.nilf]}):=
 ⟨by kernel_rfl,by kernel_rfl,by kernel_rfl,by kernel_rfl,by kernel_rfl,by kernel_rfl,by kernel_rfl,by kernel_rfl,by kernel_rfl,by kernel_rfl,by kernel_rfl,by kernel_rfl,by kernel_rfl,by kernel_rfl,by kernel_rfl,by kernel_rfl,by kernel_rfl,by kernel_rfl,by kernel_rfl,by kernel_rfl⟩
theorem TY3:
 (tI Tryz.prog 239=some {size:=2,bytes:=16,agg:=true,kind:= .array 2 2,zero:=[.int .i64 0,.int .i64 0]})∧
 (tI Tryz.prog 240=some {size:=1,bytes:=8,agg:=false,kind:= .ptr 256,zero:=[.nilp]})∧
 (tI Tryz.prog 247=some {size:=1,bytes:=24,agg:=false,kind:= .slice 248,zero:=[.sl true 0 []]})∧
 (tI Tryz.prog 248=some {size:=1,bytes:=8,agg:=false,kind:= .ptr 250,zero:=[.nilp]})∧
 (tI Tryz.prog 250=some {size:=2,bytes:=16,agg:=true,kind:= .struct [(0,1),(1,1)],zero:=[.nilp,.int .i64 0]})∧
 (tI Tryz.prog 252=some {size:=1,bytes:=8,agg:=false,kind:= .map 2 3,zero:=[.nilm]})∧
 (tI Tryz.prog 256=some {size:=2,bytes:=48,agg:=true,kind:= .struct [(0,1),(1,1)],zero:=[.sl true 0 [],.sl true 0 []]})∧
 (tI Tryz.prog 259=some {size:=1,bytes:=8,agg:=false,kind:= .other,zero:=[.nilc]}):=
 ⟨by kernel_rfl,by kernel_rfl,by kernel_rfl,by kernel_rfl,by kernel_rfl,by kernel_rfl,by kernel_rfl,by kernel_rfl⟩
theorem KY0:
 (keyT Tryz.prog 2=some ⟨false,[.int .i64]⟩)∧
 (keyT Tryz.prog 3=some ⟨false,[.int .i64]⟩)∧
 (keyT Tryz.prog 4=some ⟨false,[.bool]⟩)∧
 (keyT Tryz.prog 5=some ⟨false,[.int .u8]⟩)∧
 (keyT Tryz.prog 9=some ⟨false,[.str]⟩)∧
 (keyT Tryz.prog 35=some ⟨true,[.int .i64,.int .i64]⟩)∧
 (Tryz.prog.eqGuardType Tryz.prog.depth 35=false)∧
 (keyT Tryz.prog 37=some ⟨true,[.int .i64,.int .i64,.int .i64]⟩)∧
 (Tryz.prog.eqGuardType Tryz.prog.depth 37=false)∧
 (keyT Tryz.prog 54=some ⟨true,[.int .i64,.int .i64]⟩)∧
 (Tryz.prog.eqGuardType Tryz.prog.depth 54=false)∧
 (keyT Tryz.prog 56=some ⟨true,[.int .i64,.int .i64,.int .i64]⟩)∧
 (Tryz.prog.eqGuardType Tryz.prog.depth 56=false)∧
 (keyT Tryz.prog 101=some ⟨true,[.int .i64,.int .i64,.int .i64]⟩)∧
 (Tryz.prog.eqGuardType Tryz.prog.depth 101=false)∧
 (keyT Tryz.prog 107=some ⟨true,[.int .i64,.int .i64,.int .i64]⟩)∧
 (Tryz.prog.eqGuardType Tryz.prog.depth 107=false)∧
 (keyT Tryz.prog 154=some ⟨false,[.int .u64]⟩)∧
 (keyT Tryz.prog 160=some ⟨true,[.str,.int .i64]⟩)∧
 (Tryz.prog.eqGuardType Tryz.prog.depth 160=false):=
 ⟨by kernel_rfl,by kernel_rfl,by kernel_rfl,by kernel_rfl,by kernel_rfl,by kernel_rfl,by kernel_rfl,by kernel_rfl,by kernel_rfl,by kernel_rfl,by kernel_rfl,by kernel_rfl,by kernel_rfl,by kernel_rfl,by kernel_rfl,by kernel_rfl,by kernel_rfl,by kernel_rfl,by kernel_rfl,by kernel_rfl⟩
theorem KY1:
 (keyT Tryz.prog 170=some ⟨true,[.str,.int .i64]⟩)∧
 (Tryz.prog.eqGuardType Tryz.prog.depth 170=false)∧
 (keyT Tryz.prog 195=some ⟨false,[.int .i64]⟩)∧
 (keyT Tryz.prog 202=some ⟨false,[.int .u32]⟩)∧
 (keyT Tryz.prog 204=some ⟨false,[.int .u64]⟩)∧
 (keyT Tryz.prog 209=some ⟨true,[.int .i64,.int .i64,.int .i64]⟩)∧
 (Tryz.prog.eqGuardType Tryz.prog.depth 209=false)∧
 (keyT Tryz.prog 222=some ⟨false,[.int .u64]⟩):=
 ⟨by kernel_rfl,by kernel_rfl,by kernel_rfl,by kernel_rfl,by kernel_rfl,by kernel_rfl,by kernel_rfl,by kernel_rfl⟩
theorem CY0:
 (Qp9 Tryz.prog 259=some 3)∧True:=
 ⟨by kernel_rfl,trivial⟩
theorem Qaq:Tryz.prog.follows .mixedOrders=true:=by kernel_rfl
end Go.Ae
namespace Go.Ae
theorem tN{P:Program}:Qkj P (tab []):=Qaaq [] (by simp)
theorem tC{P:Program}{g:Nat}{r:Row}{l:List (Nat×Row)}(h:Qas P g r)(hl:Qkj P (tab l)):Qkj P (tab ((g,r)::l)):=by
 intro g' args h' nx K hk;simp only[tab] at hk;split at hk
 ·rename_i he;subst he;exact h _ _ _ _ hk
 ·exact hl _ _ _ _ _ hk
def ZA0:=J @VC0 (J @VC1 (J @VC2 (J @VC3 (J @VC4 (J @VC5 (J @VC6 (J @VC7 (J @VC8 (J @VC9 (J @VC10 (J @VC11 (J @VC12 (J @VC13 (J @VC14 (J @VC15 (J @VC16 (J @VC17 (J @VC18 (J @VC19 (J @VC20 (J @VC21 (J @VC22 (@VC23)))))))))))))))))))))))
def ZA1:=J @VC24 (J @VC25 (J @VC26 (J @VC27 (J @VC28 (J @VC29 (J @VC30 (J @VC31 (J @VC32 (J @VC33 (J @VC34 (J @VC35 (J @VC36 (J @VC37 (J @VC38 (J @VC39 (J @VC40 (J @VC41 (J @List.getElem?_toArray.{0} (J @Bool.not_eq_true' (J @Bool.not_eq_false' (J @AV.im.injEq (J @D.int.injEq (@D.bool.injEq)))))))))))))))))))))))
def ZA2:=J @D.str.injEq (J @D.sl.injEq (J @D.agg.injEq (J @AV.own.injEq (J @AV.ptr.injEq (J @Prod.mk.injEq.{0,0} (J @AObj.cells.injEq (J @AObj.arr.injEq (J @List.cons.injEq.{0} (J @Int.cast_ofNat_Int (J @Int.ofNat_lt (J @Int.ofNat_le (J @Int.natCast_nonneg (J @Nat.zero_mul (J @Nat.one_mul (J @Bool.and_eq_true (J @Bool.or_eq_true (J @blt_dec (J @ble_dec (J @decide_true (J @decide_false (J @decide_eq_true_eq (J @decide_eq_false_iff_not (@and_self)))))))))))))))))))))))
def ZA3:=J @List.map_cons.{0,0} (J @List.map_nil.{0,0} (J @List.drop_succ_cons.{0} (J @List.drop_zero.{0} (J @List.take_succ_cons.{0} (J @List.take_zero.{0} (J @List.drop_nil.{0} (J @List.take_nil.{0} (J @cond_true.{1} (J @cond_false.{1} (J @List.getElem?_cons_zero.{0} (J @List.getElem?_cons_succ.{0} (J @ne_eq.{1} (J @List.nil_append.{0} (J @List.cons_append.{0} (J @List.append_nil.{0} (J @List.length_cons.{0} (J @List.length_nil.{0} (J @and_true (J @true_and (J @not_false_eq_true (J @not_true_eq_false (J @or_true (@true_or)))))))))))))))))))))))
def ZA4:=J @Nat.zero_le (J @Nat.zero_add (J @Nat.add_zero (J @or_false (J @false_or (J @List.contains_cons.{0} (J @List.contains_nil.{0} (J @Bool.or_false (J @Bool.or_true (J @Bool.true_or (J @Bool.false_or (J @Bool.not_true (J @Bool.not_false (J @true_implies (J @false_implies (J @Option.bind_some.{0,0} (J @Bool.and_true (J @Bool.true_and (J @Bool.false_and (J @Bool.and_false (J @Option.isSome_none.{0} (J @Option.isSome_some.{0} (J @Bool.false_bne (@Bool.true_bne)))))))))))))))))))))))
def ZA5:=J @Bool.not_not (J @Nat.le_refl (J @Int.toNat_natCast (J @eq_self.{1} (J @beq_self_eq_true.{0} (J @Bool.true_eq_false (J @Bool.false_eq_true (J @TY0 (J @TY1 (J @TY2 (J @TY3 (J @KY0 (J @KY1 (J @CY0 (J @decR.eq_1 (J @decR.eq_2 (J @RowVC_map (J @intD.eq_1 (J @intD.eq_2 (J @strD.eq_1 (J @strD.eq_2 (J @intC.eq_1 (J @strC.eq_1 (@Qmp)))))))))))))))))))))))
def ZA6:=J @strD_R (J @vInt.eq_1 (J @vInt.eq_2 (J @vStr.eq_1 (J @vStr.eq_2 (J @Qa8.eq_1 (J @Qa8.eq_2 (J @vSl.eq_1 (J @vSl.eq_2 (J @vAgg.eq_1 (J @vAgg.eq_2 (J @Qfa.eq_1 (J @Qfa.eq_2 (J @vTup3.eq_1 (J @vTup3.eq_2 (J @Qae.c.eq_1 (J @Qae.d.eq_1 (J @Qae.d.eq_2 (J @Qab.c.eq_1 (J @Qab.d.eq_1 (J @Qab.d.eq_2 (J @Qab.d_R (J @Asm.c.eq_1 (@Glue.c.eq_1)))))))))))))))))))))))
def ZA7:=J @Glue.d.eq_1 (J @Glue.d.eq_2 (J @Glue.d_R (J @Tile.c.eq_1 (J @Tile.d.eq_1 (J @Tile.d.eq_2 (J @Tile.d_R (J @Qaa.c.eq_1 (J @Qaa.d.eq_1 (J @Qaa.d.eq_2 (J @Qar.c.eq_1 (J @Qar.d.eq_1 (J @Qar.d.eq_2 (J @Opt.c.eq_1 (J @Opt.d.eq_1 (J @Opt.d.eq_2 (J @Opt.d_R (J @Sim.c.eq_1 (J @Sim.d.eq_1 (J @Sim.d.eq_2 (J @Bond.c.eq_1 (J @Bond.d.eq_1 (J @Bond.d.eq_2 (@Bond.d_R)))))))))))))))))))))))
def ZA8:=J @Option.map_some.{0,0} (J @Option.some.injEq.{0} (J @List.length_map.{0,0} (J @Qae.d_R (J @Qae.eta (J @Qab.eta (J @Asm.eta (J @Glue.eta (J @Tile.eta (J @Qaa.eta (J @Qar.eta (J @Opt.eta (J @Sim.eta (J @Bond.eta (J @Cry.c.eq_1 (J @Cry.d.eq_1 (J @Cry.d.eq_2 (J @Cry.eta (J @Qmt (J @Qk8 (J @Qqj (J @rchL_nil (J @rchL_cons (@rchE.eq_1)))))))))))))))))))))))
def ZA9:=J @rchE.eq_2 (J @rchE.eq_3 (J @List.flatMap_cons.{0,0} (@List.flatMap_nil.{0,0})))
def ZA:=J @ZA0 (J @ZA1 (J @ZA2 (J @ZA3 (J @ZA4 (J @ZA5 (J @ZA6 (J @ZA7 (J @ZA8 (@ZA9)))))))))
def ZT0:=J @ChVC.eq_1 (J @Qcd.eq_1 (J @Qpb.eq_1 (J @Qpb.eq_2 (J @Qxv (J @Net.c.eq_1 (J @Net.d.eq_1 (J @Net.d.eq_2 (J @Net.eta (J @Nwk.c.eq_1 (J @Nwk.d.eq_1 (J @Nwk.d.eq_2 (@Nwk.eta))))))))))))
def ZT:= @ZT0
end Go.Ae
namespace Go.Ae
open Go.Proofs
def Qau(n lo hi:Int):Bool:=decide (lo≤n) && decide (n≤hi)
def within_.ar:List PK→Option (Int×Int×Int)
 |[.val (.int .i64 x0),.val (.int .i64 x1),.val (.int .i64 x2)]=>some (x0,x1,x2)
 |_=>none
def within_.ae(a:Int×Int×Int):List PK:=[.val (.int .i64 a.1),.val (.int .i64 a.2.1),.val (.int .i64 a.2.2)]
theorem within_.le: ∀ps a,within_.ar ps=some a→LeKL ps (within_.ae a):=by
 intro ps a h;unfold within_.ar at h;split at h
 ·simp only[Option.some.injEq] at h;subst h;exact⟨LeK.refl _,LeK.refl _,LeK.refl _,trivial⟩
 ·cases h
def within_.fv(a:Int×Int×Int):Bool:=(Qau) (a.1) (a.2.1) (a.2.2)
def within_.row:Row:=vrow within_.ar (fun a=>True) (fun a=>(D.bool) (within_.fv a))
def within_.q(a:List AV)(h:Nat→Option Ent)(n:Nat)(K:Kont):=show within_.row a h n K=Qa1 _ _ _ (nmsL a) K (pkL h a) from rfl
theorem within_.ok:Qas Tryz.prog 81 within_.row:=by
 refine Qaj Qaq tN Tryz.func81 rfl (by kernel_rfl) (by kernel_rfl) within_.le (n:=3) (fun _=>rfl) (by decide) (rc:=(Qa8)) (re:=(D.bool)) (Qat) (f:=within_.fv) ?_;intro a hpre;simp only[Tryz.f81,Option.getD];simp (config:={maxSteps:=10000000}) (disch:=omega) only[ZA,ZT,simprocAttr,Asm.d,rch,within_.ae,within_.fv];simp only[Qau];grind
def l00In.ar:List PK→Option (Int×Int×Int)
 |[.val (.int .i64 x0),.val (.int .i64 x1),.val (.int .i64 x2)]=>some (x0,x1,x2)
 |_=>none
def l00In.ae(a:Int×Int×Int):List PK:=[.val (.int .i64 a.1),.val (.int .i64 a.2.1),.val (.int .i64 a.2.2)]
theorem l00In.le: ∀ps a,l00In.ar ps=some a→LeKL ps (l00In.ae a):=by
 intro ps a h;unfold l00In.ar at h;split at h
 ·simp only[Option.some.injEq] at h;subst h;exact⟨LeK.refl _,LeK.refl _,LeK.refl _,trivial⟩
 ·cases h
def l00In.fv(a:Int×Int×Int):Bool:=(Qau) (a.1) (a.2.1) (a.2.2)
def l00In.row:Row:=vrow l00In.ar (fun a=>True) (fun a=>(D.bool) (l00In.fv a))
def l00In.q(a:List AV)(h:Nat→Option Ent)(n:Nat)(K:Kont):=show l00In.row a h n K=Qa1 _ _ _ (nmsL a) K (pkL h a) from rfl
theorem l00In.ok:Qas Tryz.prog 69 l00In.row:=by
 refine Qaj Qaq tN Tryz.func69 rfl (by kernel_rfl) (by kernel_rfl) l00In.le (n:=3) (fun _=>rfl) (by decide) (rc:=(Qa8)) (re:=(D.bool)) (Qat) (f:=l00In.fv) ?_;intro a hpre;simp only[Tryz.f69,Option.getD];simp (config:={maxSteps:=10000000}) (disch:=omega) only[ZA,ZT,simprocAttr,Asm.d,rch,l00In.ae,l00In.fv];simp only[Qau];grind
def I64(n:Int):Prop:= -9223372036854775808≤n∧n≤9223372036854775807
def isIndex.ar:List PK→Option (Int×Int)
 |[.val (.int .i64 x0),.val (.int .i64 x1)]=>some (x0,x1)
 |_=>none
def isIndex.ae(a:Int×Int):List PK:=[.val (.int .i64 a.1),.val (.int .i64 a.2)]
theorem isIndex.le: ∀ps a,isIndex.ar ps=some a→LeKL ps (isIndex.ae a):=by
 intro ps a h;unfold isIndex.ar at h;split at h
 ·simp only[Option.some.injEq] at h;subst h;exact⟨LeK.refl _,LeK.refl _,trivial⟩
 ·cases h
def isIndex.fv(a:Int×Int):Bool:=Qau a.1 0 (a.2 - 1)
def isIndex.row:Row:=vrow isIndex.ar (fun a=>0≤a.2∧I64 a.2) (fun a=>(D.bool) (isIndex.fv a))
def isIndex.q(a:List AV)(h:Nat→Option Ent)(n:Nat)(K:Kont):=show isIndex.row a h n K=Qa1 _ _ _ (nmsL a) K (pkL h a) from rfl
theorem isIndex.ok:Qas Tryz.prog 51 isIndex.row:=by
 refine Qaj Qaq (tC within_.ok tN) Tryz.func51 rfl (by kernel_rfl) (by kernel_rfl) isIndex.le (n:=2) (fun _=>rfl) (by decide) (rc:=(Qa8)) (re:=(D.bool)) (Qat) (f:=isIndex.fv) ?_;intro a hpre;simp only[Tryz.f51,Option.getD];simp (config:={maxSteps:=10000000}) (disch:=omega) only[ZA,ZT,simprocAttr,Asm.d,rch,isIndex.ae,isIndex.fv,within_.q,within_.ar,within_.fv];obtain⟨h1,h2,h3⟩:=hpre;rw[Qak (by omega) (by omega)]
def Qbi(p:Qae):Bool:=Qau p.X (-60) 60 && Qau p.Y (-60) 60
def ValidPoint.ar:List PK→Option (Qae)
 |[.val (.agg x0)]=>(Qae.d x0).bind fun y0=>some y0
 |_=>none
def ValidPoint.ae(a:Qae):List PK:=[.val (.agg (Qae.c a))]
theorem ValidPoint.le: ∀ps a,ValidPoint.ar ps=some a→LeKL ps (ValidPoint.ae a):=by
 intro ps a h;unfold ValidPoint.ar at h;split at h
 ·simp only[Option.bind_eq_some_iff,Option.some.injEq] at h;obtain⟨y0,h0,rfl⟩:=h;exact⟨Qav (Qae.d_le _ _ h0),trivial⟩
 ·cases h
def ValidPoint.fv(a:Qae):Bool:=(Qbi) a
def ValidPoint.row:Row:=vrow ValidPoint.ar (fun a=>True) (fun a=>(D.bool) (ValidPoint.fv a))
def ValidPoint.q(a:List AV)(h:Nat→Option Ent)(n:Nat)(K:Kont):=show ValidPoint.row a h n K=Qa1 _ _ _ (nmsL a) K (pkL h a) from rfl
theorem ValidPoint.ok:Qas Tryz.prog 53 ValidPoint.row:=by
 refine Qaj Qaq (tC within_.ok tN) Tryz.func53 rfl (by kernel_rfl) (by kernel_rfl) ValidPoint.le (n:=1) (fun _=>rfl) (by decide) (rc:=(Qa8)) (re:=(D.bool)) (Qat) (f:=ValidPoint.fv) ?_;intro a hpre;simp only[Tryz.f53,Option.getD];simp (config:={maxSteps:=10000000}) (disch:=omega) only[ZA,ZT,simprocAttr,Asm.d,rch,ValidPoint.ae,ValidPoint.fv,within_.q,within_.ar,within_.fv];simp only[Qbi];grind
def l01Point.ar:List PK→Option (Qae)
 |[.val (.agg x0)]=>(Qae.d x0).bind fun y0=>some y0
 |_=>none
def l01Point.ae(a:Qae):List PK:=[.val (.agg (Qae.c a))]
theorem l01Point.le: ∀ps a,l01Point.ar ps=some a→LeKL ps (l01Point.ae a):=by
 intro ps a h;unfold l01Point.ar at h;split at h
 ·simp only[Option.bind_eq_some_iff,Option.some.injEq] at h;obtain⟨y0,h0,rfl⟩:=h;exact⟨Qav (Qae.d_le _ _ h0),trivial⟩
 ·cases h
def l01Point.fv(a:Qae):Bool:=(Qbi) a
def l01Point.row:Row:=vrow l01Point.ar (fun a=>True) (fun a=>(D.bool) (l01Point.fv a))
def l01Point.q(a:List AV)(h:Nat→Option Ent)(n:Nat)(K:Kont):=show l01Point.row a h n K=Qa1 _ _ _ (nmsL a) K (pkL h a) from rfl
theorem l01Point.ok:Qas Tryz.prog 38 l01Point.row:=by
 refine Qaj Qaq (tC l00In.ok tN) Tryz.func38 rfl (by kernel_rfl) (by kernel_rfl) l01Point.le (n:=1) (fun _=>rfl) (by decide) (rc:=(Qa8)) (re:=(D.bool)) (Qat) (f:=l01Point.fv) ?_;intro a hpre;simp only[Tryz.f38,Option.getD];simp (config:={maxSteps:=10000000}) (disch:=omega) only[ZA,ZT,simprocAttr,Asm.d,rch,l01Point.ae,l01Point.fv,l00In.q,l00In.ar,l00In.fv];simp only[Qbi];grind
def isNaN.ar:List PK→Option (Int)
 |[.val (.int .i64 x0)]=>some x0
 |_=>none
def isNaN.ae(a:Int):List PK:=[.val (.int .i64 a)]
theorem isNaN.le: ∀ps a,isNaN.ar ps=some a→LeKL ps (isNaN.ae a):=by
 intro ps a h;unfold isNaN.ar at h;split at h
 ·simp only[Option.some.injEq] at h;subst h;exact⟨LeK.refl _,trivial⟩
 ·cases h
def isNaN.fv(a:Int):Bool:=false && a==0
def isNaN.row:Row:=vrow isNaN.ar (fun a=>True) (fun a=>(D.bool) (isNaN.fv a))
def isNaN.q(a:List AV)(h:Nat→Option Ent)(n:Nat)(K:Kont):=show isNaN.row a h n K=Qa1 _ _ _ (nmsL a) K (pkL h a) from rfl
theorem isNaN.ok:Qas Tryz.prog 146 isNaN.row:=by
 refine Qaj Qaq tN Tryz.func146 rfl (by kernel_rfl) (by kernel_rfl) isNaN.le (n:=1) (fun _=>rfl) (by decide) (rc:=(Qa8)) (re:=(D.bool)) (Qat) (f:=isNaN.fv) ?_;intro a hpre;simp only[Tryz.f146,Option.getD];simp (config:={maxSteps:=10000000}) (disch:=omega) only[ZA,ZT,simprocAttr,Asm.d,rch,isNaN.ae,isNaN.fv]
 try simp
def cmpI(a b:Int):Int:=if a<b then -1 else if b<a then 1 else 0
def Compare.ar:List PK→Option (Int×Int)
 |[.val (.int .i64 x0),.val (.int .i64 x1)]=>some (x0,x1)
 |_=>none
def Compare.ae(a:Int×Int):List PK:=[.val (.int .i64 a.1),.val (.int .i64 a.2)]
theorem Compare.le: ∀ps a,Compare.ar ps=some a→LeKL ps (Compare.ae a):=by
 intro ps a h;unfold Compare.ar at h;split at h
 ·simp only[Option.some.injEq] at h;subst h;exact⟨LeK.refl _,LeK.refl _,trivial⟩
 ·cases h
def Compare.fv(a:Int×Int):Int:=(cmpI) (a.1) (a.2)
def Compare.row:Row:=vrow Compare.ar (fun a=>True) (fun a=>(D.int .i64) (Compare.fv a))
def Compare.q(a:List AV)(h:Nat→Option Ent)(n:Nat)(K:Kont):=show Compare.row a h n K=Qa1 _ _ _ (nmsL a) K (pkL h a) from rfl
theorem Compare.ok:Qas Tryz.prog 122 Compare.row:=by
 refine Qaj Qaq (tC isNaN.ok tN) Tryz.func122 rfl (by kernel_rfl) (by kernel_rfl) Compare.le (n:=2) (fun _=>rfl) (by decide) (rc:=(vInt)) (re:=(D.int .i64)) (Qa3) (f:=Compare.fv) ?_;intro a hpre;simp only[Tryz.f122,Option.getD];simp (config:={maxSteps:=10000000}) (disch:=omega) only[ZA,ZT,simprocAttr,Asm.d,rch,Compare.ae,Compare.fv,isNaN.q,isNaN.ar,isNaN.fv];simp only[cmpI];grind
def Qap(a b:Qae):Bool:=decide (a.Y<b.Y)||(decide (a.Y=b.Y) && decide (a.X<b.X))
def l_LessPoint.ar:List PK→Option (Qae×Qae)
 |[.val (.agg x0),.val (.agg x1)]=>(Qae.d x0).bind fun y0=>(Qae.d x1).bind fun y1=>some (y0,y1)
 |_=>none
def l_LessPoint.ae(a:Qae×Qae):List PK:=[.val (.agg (Qae.c a.1)),.val (.agg (Qae.c a.2))]
theorem l_LessPoint.le: ∀ps a,l_LessPoint.ar ps=some a→LeKL ps (l_LessPoint.ae a):=by
 intro ps a h;unfold l_LessPoint.ar at h;split at h
 ·simp only[Option.bind_eq_some_iff,Option.some.injEq] at h;obtain⟨y0,h0,y1,h1,rfl⟩:=h;exact⟨Qav (Qae.d_le _ _ h0),Qav (Qae.d_le _ _ h1),trivial⟩
 ·cases h
def l_LessPoint.fv(a:Qae×Qae):Bool:=(Qap) (a.1) (a.2)
def l_LessPoint.row:Row:=vrow l_LessPoint.ar (fun a=>True) (fun a=>(D.bool) (l_LessPoint.fv a))
def l_LessPoint.q(a:List AV)(h:Nat→Option Ent)(n:Nat)(K:Kont):=show l_LessPoint.row a h n K=Qa1 _ _ _ (nmsL a) K (pkL h a) from rfl
theorem l_LessPoint.ok:Qas Tryz.prog 71 l_LessPoint.row:=by
 refine Qaj Qaq tN Tryz.func71 rfl (by kernel_rfl) (by kernel_rfl) l_LessPoint.le (n:=2) (fun _=>rfl) (by decide) (rc:=(Qa8)) (re:=(D.bool)) (Qat) (f:=l_LessPoint.fv) ?_;intro a hpre;simp only[Tryz.f71,Option.getD];simp (config:={maxSteps:=10000000}) (disch:=omega) only[ZA,ZT,simprocAttr,Asm.d,rch,l_LessPoint.ae,l_LessPoint.fv];simp only[Qap]
 grind
def minI(a b:Int):Int:=if a<b then a else b
def maxI(a b:Int):Int:=if b<a then a else b
def l00Min.ar:List PK→Option (Int×Int)
 |[.val (.int .i64 x0),.val (.int .i64 x1)]=>some (x0,x1)
 |_=>none
def l00Min.ae(a:Int×Int):List PK:=[.val (.int .i64 a.1),.val (.int .i64 a.2)]
theorem l00Min.le: ∀ps a,l00Min.ar ps=some a→LeKL ps (l00Min.ae a):=by
 intro ps a h;unfold l00Min.ar at h;split at h
 ·simp only[Option.some.injEq] at h;subst h;exact⟨LeK.refl _,LeK.refl _,trivial⟩
 ·cases h
def l00Min.fv(a:Int×Int):Int:=(minI) (a.1) (a.2)
def l00Min.row:Row:=vrow l00Min.ar (fun a=>True) (fun a=>(D.int .i64) (l00Min.fv a))
def l00Min.q(a:List AV)(h:Nat→Option Ent)(n:Nat)(K:Kont):=show l00Min.row a h n K=Qa1 _ _ _ (nmsL a) K (pkL h a) from rfl
theorem l00Min.ok:Qas Tryz.prog 151 l00Min.row:=by
 refine Qaj Qaq tN Tryz.func151 rfl (by kernel_rfl) (by kernel_rfl) l00Min.le (n:=2) (fun _=>rfl) (by decide) (rc:=(vInt)) (re:=(D.int .i64)) (Qa3) (f:=l00Min.fv) ?_;intro a hpre;simp only[Tryz.f151,Option.getD];simp (config:={maxSteps:=10000000}) (disch:=omega) only[ZA,ZT,simprocAttr,Asm.d,rch,l00Min.ae,l00Min.fv];simp only[minI];grind
def l00Max.ar:List PK→Option (Int×Int)
 |[.val (.int .i64 x0),.val (.int .i64 x1)]=>some (x0,x1)
 |_=>none
def l00Max.ae(a:Int×Int):List PK:=[.val (.int .i64 a.1),.val (.int .i64 a.2)]
theorem l00Max.le: ∀ps a,l00Max.ar ps=some a→LeKL ps (l00Max.ae a):=by
 intro ps a h;unfold l00Max.ar at h;split at h
 ·simp only[Option.some.injEq] at h;subst h;exact⟨LeK.refl _,LeK.refl _,trivial⟩
 ·cases h
def l00Max.fv(a:Int×Int):Int:=(maxI) (a.1) (a.2)
def l00Max.row:Row:=vrow l00Max.ar (fun a=>True) (fun a=>(D.int .i64) (l00Max.fv a))
def l00Max.q(a:List AV)(h:Nat→Option Ent)(n:Nat)(K:Kont):=show l00Max.row a h n K=Qa1 _ _ _ (nmsL a) K (pkL h a) from rfl
theorem l00Max.ok:Qas Tryz.prog 152 l00Max.row:=by
 refine Qaj Qaq tN Tryz.func152 rfl (by kernel_rfl) (by kernel_rfl) l00Max.le (n:=2) (fun _=>rfl) (by decide) (rc:=(vInt)) (re:=(D.int .i64)) (Qa3) (f:=l00Max.fv) ?_;intro a hpre;simp only[Tryz.f152,Option.getD];simp (config:={maxSteps:=10000000}) (disch:=omega) only[ZA,ZT,simprocAttr,Asm.d,rch,l00Max.ae,l00Max.fv];simp only[maxI];grind
def Qlk(c:Int):Bool:=Qau c 97 122||Qau c 65 90
def Qtq(c:Int):Bool:=Qau c 48 57
def l01Letter.ar:List PK→Option (Int)
 |[.val (.int .u8 x0)]=>some x0
 |_=>none
def l01Letter.ae(a:Int):List PK:=[.val (.int .u8 a)]
theorem l01Letter.le: ∀ps a,l01Letter.ar ps=some a→LeKL ps (l01Letter.ae a):=by
 intro ps a h;unfold l01Letter.ar at h;split at h
 ·simp only[Option.some.injEq] at h;subst h;exact⟨LeK.refl _,trivial⟩
 ·cases h
def l01Letter.fv(a:Int):Bool:=(Qlk) a
def l01Letter.row:Row:=vrow l01Letter.ar (fun a=>True) (fun a=>(D.bool) (l01Letter.fv a))
def l01Letter.q(a:List AV)(h:Nat→Option Ent)(n:Nat)(K:Kont):=show l01Letter.row a h n K=Qa1 _ _ _ (nmsL a) K (pkL h a) from rfl
theorem l01Letter.ok:Qas Tryz.prog 148 l01Letter.row:=by
 refine Qaj Qaq tN Tryz.func148 rfl (by kernel_rfl) (by kernel_rfl) l01Letter.le (n:=1) (fun _=>rfl) (by decide) (rc:=(Qa8)) (re:=(D.bool)) (Qat) (f:=l01Letter.fv) ?_;intro a hpre;simp only[Tryz.f148,Option.getD];simp (config:={maxSteps:=10000000}) (disch:=omega) only[ZA,ZT,simprocAttr,Asm.d,rch,l01Letter.ae,l01Letter.fv];simp only[Qlk,Qau];grind
def l01Digit.ar:List PK→Option (Int)
 |[.val (.int .u8 x0)]=>some x0
 |_=>none
def l01Digit.ae(a:Int):List PK:=[.val (.int .u8 a)]
theorem l01Digit.le: ∀ps a,l01Digit.ar ps=some a→LeKL ps (l01Digit.ae a):=by
 intro ps a h;unfold l01Digit.ar at h;split at h
 ·simp only[Option.some.injEq] at h;subst h;exact⟨LeK.refl _,trivial⟩
 ·cases h
def l01Digit.fv(a:Int):Bool:=(Qtq) a
def l01Digit.row:Row:=vrow l01Digit.ar (fun a=>True) (fun a=>(D.bool) (l01Digit.fv a))
def l01Digit.q(a:List AV)(h:Nat→Option Ent)(n:Nat)(K:Kont):=show l01Digit.row a h n K=Qa1 _ _ _ (nmsL a) K (pkL h a) from rfl
theorem l01Digit.ok:Qas Tryz.prog 149 l01Digit.row:=by
 refine Qaj Qaq tN Tryz.func149 rfl (by kernel_rfl) (by kernel_rfl) l01Digit.le (n:=1) (fun _=>rfl) (by decide) (rc:=(Qa8)) (re:=(D.bool)) (Qat) (f:=l01Digit.fv) ?_;intro a hpre;simp only[Tryz.f149,Option.getD];simp (config:={maxSteps:=10000000}) (disch:=omega) only[ZA,ZT,simprocAttr,Asm.d,rch,l01Digit.ae,l01Digit.fv];simp only[Qtq,Qau];grind
def addP(a b:Qae):Qae:=⟨a.X+b.X,a.Y+b.Y⟩
def Qdy(p:Qae):Prop:= -1000000000≤p.X∧p.X≤1000000000∧ -1000000000≤p.Y∧p.Y≤1000000000
def plus.ar:List PK→Option (Qae×Qae)
 |[.val (.agg x0),.val (.agg x1)]=>(Qae.d x0).bind fun y0=>(Qae.d x1).bind fun y1=>some (y0,y1)
 |_=>none
def plus.ae(a:Qae×Qae):List PK:=[.val (.agg (Qae.c a.1)),.val (.agg (Qae.c a.2))]
theorem plus.le: ∀ps a,plus.ar ps=some a→LeKL ps (plus.ae a):=by
 intro ps a h;unfold plus.ar at h;split at h
 ·simp only[Option.bind_eq_some_iff,Option.some.injEq] at h;obtain⟨y0,h0,y1,h1,rfl⟩:=h;exact⟨Qav (Qae.d_le _ _ h0),Qav (Qae.d_le _ _ h1),trivial⟩
 ·cases h
def plus.fv(a:Qae×Qae):Qae:=(addP) (a.1) (a.2)
def plus.row:Row:=vrow plus.ar (fun a=>Qdy a.1∧Qdy a.2) (fun a=>(fun b=>D.agg (Qae.c b)) (plus.fv a))
def plus.q(a:List AV)(h:Nat→Option Ent)(n:Nat)(K:Kont):=show plus.row a h n K=Qa1 _ _ _ (nmsL a) K (pkL h a) from rfl
theorem plus.ok:Qas Tryz.prog 116 plus.row:=by
 refine Qaj Qaq tN Tryz.func116 rfl (by kernel_rfl) (by kernel_rfl) plus.le (n:=2) (fun _=>rfl) (by decide) (rc:=(vAgg Qae.d)) (re:=(fun b=>D.agg (Qae.c b))) (Qb1 Qae.d_le) (f:=plus.fv) ?_;intro a hpre;simp only[Tryz.f116,Option.getD];simp (config:={maxSteps:=10000000}) (disch:=omega) only[ZA,ZT,simprocAttr,Asm.d,rch,plus.ae,plus.fv];obtain⟨⟨h1,h2,h3,h4⟩,h5,h6,h7,h8⟩:=hpre;rw[Qak (by omega) (by omega),Qak (by omega) (by omega)];rfl
def Qf7(p:Qae)(d:Int):Qae:=if d=0 then ⟨p.X,p.Y+1⟩ else if d=1 then ⟨p.X+1,p.Y⟩ else if d=2 then ⟨p.X,p.Y - 1⟩ else ⟨p.X - 1,p.Y⟩
def step_.ar:List PK→Option (Qae×Int)
 |[.val (.agg x0),.val (.int .i64 x1)]=>(Qae.d x0).bind fun y0=>some (y0,x1)
 |_=>none
def step_.ae(a:Qae×Int):List PK:=[.val (.agg (Qae.c a.1)),.val (.int .i64 a.2)]
theorem step_.le: ∀ps a,step_.ar ps=some a→LeKL ps (step_.ae a):=by
 intro ps a h;unfold step_.ar at h;split at h
 ·simp only[Option.bind_eq_some_iff,Option.some.injEq] at h;obtain⟨y0,h0,rfl⟩:=h;exact⟨Qav (Qae.d_le _ _ h0),LeK.refl _,trivial⟩
 ·cases h
def step_.rc:D→Option (Qae):=vAgg Qae.d
def step_.re:Qae→D:=fun b=>D.agg (Qae.c b)
theorem step_.rle: ∀d b,step_.rc d=some b→Le d (step_.re b):=Qb1 Qae.d_le
def step_.fv(a:Qae×Int):Qae:=(Qf7) (a.1) (a.2)
def step_.row:Row:=vrow step_.ar (fun a=>Qdy a.1∧0≤a.2∧a.2≤3) (fun a=>step_.re (step_.fv a))
def step_.q(a:List AV)(h:Nat→Option Ent)(n:Nat)(K:Kont):=show step_.row a h n K=Qa1 _ _ _ (nmsL a) K (pkL h a) from rfl
theorem step_.ok:Qas Tryz.prog 86 step_.row:=by
 refine Qaj Qaq (tC plus.ok tN) Tryz.func86 rfl (by kernel_rfl) (by kernel_rfl) step_.le (n:=2) (fun _=>rfl) (by decide) (rc:=step_.rc) (re:=step_.re) step_.rle (f:=step_.fv) ?_;intro a hpre;simp only[Tryz.f86,Option.getD];obtain⟨p,d⟩:=a;obtain⟨hp,h1,h2⟩:=hpre;simp only at h1 h2 hp;rcases (by omega:d=0∨d=1∨d=2∨d=3) with rfl|rfl|rfl|rfl
 all_goals
  simp (config:={maxSteps:=10000000}) (disch:=omega) only[ZA,ZT,simprocAttr,Asm.d,rch,step_.ae,step_.fv,step_.rc,plus.q,plus.ar,plus.fv];obtain⟨h3,h4,h5,h6⟩:=hp;refine⟨⟨⟨h3,h4,h5,h6⟩,by simp[Qdy]⟩,?_⟩;simp[Qf7,addP]<;>omega
def l01Step.ar:List PK→Option (Qae×Int)
 |[.val (.agg x0),.val (.int .i64 x1)]=>(Qae.d x0).bind fun y0=>some (y0,x1)
 |_=>none
def l01Step.ae(a:Qae×Int):List PK:=[.val (.agg (Qae.c a.1)),.val (.int .i64 a.2)]
theorem l01Step.le: ∀ps a,l01Step.ar ps=some a→LeKL ps (l01Step.ae a):=by
 intro ps a h;unfold l01Step.ar at h;split at h
 ·simp only[Option.bind_eq_some_iff,Option.some.injEq] at h;obtain⟨y0,h0,rfl⟩:=h;exact⟨Qav (Qae.d_le _ _ h0),LeK.refl _,trivial⟩
 ·cases h
def l01Step.fv(a:Qae×Int):Qae:=(Qf7) (a.1) (a.2)
def l01Step.row:Row:=vrow l01Step.ar (fun a=>Qdy a.1∧0≤a.2∧a.2≤3) (fun a=>(fun b=>D.agg (Qae.c b)) (l01Step.fv a))
def l01Step.q(a:List AV)(h:Nat→Option Ent)(n:Nat)(K:Kont):=show l01Step.row a h n K=Qa1 _ _ _ (nmsL a) K (pkL h a) from rfl
theorem l01Step.ok:Qas Tryz.prog 72 l01Step.row:=by
 refine Qaj Qaq tN Tryz.func72 rfl (by kernel_rfl) (by kernel_rfl) l01Step.le (n:=2) (fun _=>rfl) (by decide) (rc:=(vAgg Qae.d)) (re:=(fun b=>D.agg (Qae.c b))) (Qb1 Qae.d_le) (f:=l01Step.fv) ?_;intro a hpre;simp only[Tryz.f72,Option.getD];simp (config:={maxSteps:=10000000}) (disch:=omega) only[ZA,ZT,simprocAttr,Asm.d,rch,l01Step.ae,l01Step.fv];obtain⟨⟨h1,h2,h3,h4⟩,h5,h6⟩:=hpre;rw[Qak (by omega) (by omega),Qak (by omega) (by omega),Qak (by omega) (by omega),Qak (by omega) (by omega)];simp only[Qf7]
 grind
end Go.Ae
namespace Go.Ae
open Go.Proofs
def Qgr:List Int→Int
 |[]=>0
 |x::r=>if x=0 then Qgr r else x
def Or.ar:List PK→Option ((List Int))
 |[.val (.sl _ _ x0)]=>(decR intD x0).bind fun y0=>some y0
 |_=>none
def Or.ae(a:(List Int)):List PK:=[.val (.sl false 1 (a.map intC))]
theorem Or.le: ∀ps a,Or.ar ps=some a→LeKL ps (Or.ae a):=by
 intro ps a h;unfold Or.ar at h;split at h
 ·simp only[Option.bind_eq_some_iff,Option.some.injEq] at h;obtain⟨y0,h0,rfl⟩:=h;exact⟨Qbf (Qa2 Qb3 _ _ h0) (by simp only[List.mem_map];rintro r ⟨y,_,rfl⟩;rfl),trivial⟩
 ·cases h
def Or.fv(a:(List Int)):Int:=(Qgr) a
def Or.row:Row:=vrow Or.ar (fun a=>True) (fun a=>(D.int .i64) (Or.fv a))
def Or.q(a:List AV)(h:Nat→Option Ent)(n:Nat)(K:Kont):=show Or.row a h n K=Qa1 _ _ _ (nmsL a) K (pkL h a) from rfl
theorem Or.ok:Qas Tryz.prog 121 Or.row:=by
 refine Qaj Qaq tN Tryz.func121 rfl (by kernel_rfl) (by kernel_rfl) Or.le (n:=1) (fun _=>rfl) (by decide) (rc:=(vInt)) (re:=(D.int .i64)) (Qa3) (f:=Or.fv) ?_;intro a hpre;simp only[Tryz.f121,Option.getD];simp (config:={maxSteps:=10000000}) (disch:=omega) only[ZA,ZT,simprocAttr,Asm.d,rch,Or.ae,Or.fv];intro hlen;refine Qay.old ⟨{k:Nat//k≤a.length∧Qgr (a.drop k)=Qgr a},fun k=>⟨[(8,.im (.int .i64 k.1)),(7,.im (.int .i64 a.length)),(6,.im (.sl false 1 (a.map intC))),(3,.im (.int .i64 0)),(2,.im (.int .i64 0))],[],0⟩,fun k=>a.length - k.1,fun k=>⟨by simp[Qad.good,belT,belH,Qam,AV.bel,belL],Nat.le_refl _⟩,⟨⟨0,by simp⟩,by simp (config:={maxSteps:=10000000}) (disch:=omega) only[ZA,ZT,simprocAttr,Asm.d,rch,Or.ae,Or.fv,sub]⟩,fun k=> ?_⟩;obtain⟨k,hk1,hk2⟩:=k;simp (config:={maxSteps:=10000000}) (disch:=omega) only[ZA,ZT,simprocAttr,Asm.d,rch,Or.ae,Or.fv,sub];simp only[Qal];refine⟨fun hk=>⟨hk,fun x hx=> ?_⟩,fun hk=> ?_⟩
 ·have h1:a.drop k=x::a.drop (k+1):=by
   rw[List.drop_eq_getElem_cons hk];rw[List.getElem?_eq_getElem hk] at hx;rw[Option.some.inj hx]
  rw[h1,Qgr] at hk2;refine⟨fun h=>by grind,fun h=>⟨⟨k+1,by omega,by grind⟩,by simp only;omega,?_⟩⟩;simp (disch:=omega) only[Qak];simp
 ·have h1:a.drop k=[]:=List.drop_eq_nil_of_le (by omega);rw[h1] at hk2;exact hk2
def comparePoints.ar:List PK→Option (Qae×Qae)
 |[.val (.agg x0),.val (.agg x1)]=>(Qae.d x0).bind fun y0=>(Qae.d x1).bind fun y1=>some (y0,y1)
 |_=>none
def comparePoints.ae(a:Qae×Qae):List PK:=[.val (.agg (Qae.c a.1)),.val (.agg (Qae.c a.2))]
theorem comparePoints.le: ∀ps a,comparePoints.ar ps=some a→LeKL ps (comparePoints.ae a):=by
 intro ps a h;unfold comparePoints.ar at h;split at h
 ·simp only[Option.bind_eq_some_iff,Option.some.injEq] at h;obtain⟨y0,h0,y1,h1,rfl⟩:=h;exact⟨Qav (Qae.d_le _ _ h0),Qav (Qae.d_le _ _ h1),trivial⟩
 ·cases h
def comparePoints.fv(a:Qae×Qae):Int:=(fun a b=>Qgr [cmpI a.Y b.Y,cmpI a.X b.X]) (a.1) (a.2)
def comparePoints.row:Row:=vrow comparePoints.ar (fun a=>True) (fun a=>(D.int .i64) (comparePoints.fv a))
def comparePoints.q(a:List AV)(h:Nat→Option Ent)(n:Nat)(K:Kont):=show comparePoints.row a h n K=Qa1 _ _ _ (nmsL a) K (pkL h a) from rfl
theorem comparePoints.ok:Qas Tryz.prog 91 comparePoints.row:=by
 refine Qaj Qaq (tC Compare.ok (tC Or.ok tN)) Tryz.func91 rfl (by kernel_rfl) (by kernel_rfl) comparePoints.le (n:=2) (fun _=>rfl) (by decide) (rc:=(vInt)) (re:=(D.int .i64)) (Qa3) (f:=comparePoints.fv) ?_;intro a hpre;simp only[Tryz.f91,Option.getD];simp (config:={maxSteps:=10000000}) (disch:=omega) only[ZA,ZT,simprocAttr,Asm.d,rch,comparePoints.ae,comparePoints.fv,Compare.q,Compare.ar,Compare.fv,Or.q,Or.ar,Or.fv]
def impl_LessPoint.ar:List PK→Option (Qae×Qae)
 |[.val (.agg x0),.val (.agg x1)]=>(Qae.d x0).bind fun y0=>(Qae.d x1).bind fun y1=>some (y0,y1)
 |_=>none
def impl_LessPoint.ae(a:Qae×Qae):List PK:=[.val (.agg (Qae.c a.1)),.val (.agg (Qae.c a.2))]
theorem impl_LessPoint.le: ∀ps a,impl_LessPoint.ar ps=some a→LeKL ps (impl_LessPoint.ae a):=by
 intro ps a h;unfold impl_LessPoint.ar at h;split at h
 ·simp only[Option.bind_eq_some_iff,Option.some.injEq] at h;obtain⟨y0,h0,y1,h1,rfl⟩:=h;exact⟨Qav (Qae.d_le _ _ h0),Qav (Qae.d_le _ _ h1),trivial⟩
 ·cases h
def impl_LessPoint.fv(a:Qae×Qae):Bool:=(Qap) (a.1) (a.2)
def impl_LessPoint.row:Row:=vrow impl_LessPoint.ar (fun a=>True) (fun a=>(D.bool) (impl_LessPoint.fv a))
def impl_LessPoint.q(a:List AV)(h:Nat→Option Ent)(n:Nat)(K:Kont):=show impl_LessPoint.row a h n K=Qa1 _ _ _ (nmsL a) K (pkL h a) from rfl
theorem impl_LessPoint.ok:Qas Tryz.prog 115 impl_LessPoint.row:=by
 refine Qaj Qaq (tC comparePoints.ok tN) Tryz.func115 rfl (by kernel_rfl) (by kernel_rfl) impl_LessPoint.le (n:=2) (fun _=>rfl) (by decide) (rc:=(Qa8)) (re:=(D.bool)) (Qat) (f:=impl_LessPoint.fv) ?_;intro a hpre;simp only[Tryz.f115,Option.getD];simp (config:={maxSteps:=10000000}) (disch:=omega) only[ZA,ZT,simprocAttr,Asm.d,rch,impl_LessPoint.ae,impl_LessPoint.fv,comparePoints.q,comparePoints.ar,comparePoints.fv];simp only[Qap,Qgr,cmpI]
 grind
def Qc9(i:Nat)(c:Int):Bool:=Qlk c||(decide (i≠0) && (Qtq c||decide (c=95)))
def Qb2:Nat→List UInt8→Bool
 |_,[]=>true
 |i,c::r=>Qc9 i c.toNat && Qb2 (i+1) r
theorem Qaaz{a:ByteArray}{k:Nat}{c:UInt8}(hc:a.data[k]? =some c):a.data.toList.drop k=c::a.data.toList.drop (k+1):=by
 have h0:a.data.toList[k]? =some c:=by simpa using hc
 have hl:k<a.data.toList.length:=(List.getElem?_eq_some_iff.1 h0).1;rw[List.drop_eq_getElem_cons hl];rw[List.getElem?_eq_getElem hl] at h0;rw[Option.some.inj h0]
theorem byteNone{a:ByteArray}{k:Nat}(h: ¬k<a.size):a.data.toList.drop k=[]:=List.drop_eq_nil_of_le (by simpa using h)
def Qei(s:ByteArray):Bool:=Qb2 0 s.data.toList && (decide (1≤s.size) && decide (s.size≤12))
def impl_IsName.ar:List PK→Option (ByteArray)
 |[.val (.str x0)]=>some x0
 |_=>none
def impl_IsName.ae(a:ByteArray):List PK:=[.val (.str a)]
theorem impl_IsName.le: ∀ps a,impl_IsName.ar ps=some a→LeKL ps (impl_IsName.ae a):=by
 intro ps a h;unfold impl_IsName.ar at h;split at h
 ·simp only[Option.some.injEq] at h;subst h;exact⟨LeK.refl _,trivial⟩
 ·cases h
def impl_IsName.fv(a:ByteArray):Bool:=(Qei) a
def impl_IsName.row:Row:=vrow impl_IsName.ar (fun a=>a.size≤140737488355328) (fun a=>(D.bool) (impl_IsName.fv a))
def impl_IsName.q(a:List AV)(h:Nat→Option Ent)(n:Nat)(K:Kont):=show impl_IsName.row a h n K=Qa1 _ _ _ (nmsL a) K (pkL h a) from rfl
theorem impl_IsName.ok:Qas Tryz.prog 113 impl_IsName.row:=by
 refine Qaj Qaq tN Tryz.func113 rfl (by kernel_rfl) (by kernel_rfl) impl_IsName.le (n:=1) (fun _=>rfl) (by decide) (rc:=(Qa8)) (re:=(D.bool)) (Qat) (f:=impl_IsName.fv) ?_;intro a hpre;simp only[Tryz.f113,Option.getD];simp (config:={maxSteps:=10000000}) (disch:=omega) only[ZA,ZT,simprocAttr,Asm.d,rch,impl_IsName.ae,impl_IsName.fv];refine Qay.old ⟨{k:Nat//k≤a.size∧Qb2 k (a.data.toList.drop k)=Qb2 0 a.data.toList},fun k=>⟨[(8,.im (.int .i64 k.1)),(7,.im (.int .i64 a.size)),(6,.im (.str a)),(0,.im (.str a)),(2,.im (.bool false))],[],0⟩,fun k=>a.size - k.1,fun k=>⟨by simp[Qad.good,belT,belH,Qam,AV.bel,belL],Nat.le_refl _⟩,⟨⟨0,by simp⟩,by simp (config:={maxSteps:=10000000}) (disch:=omega) only[ZA,ZT,simprocAttr,Asm.d,rch,impl_IsName.ae,impl_IsName.fv,sub]⟩,fun k=> ?_⟩;obtain⟨k,hk1,hk2⟩:=k;simp (config:={maxSteps:=10000000}) (disch:=omega) only[ZA,simprocAttr,Asm.d,rch,impl_IsName.ae,impl_IsName.fv,sub]
 split<;>rename_i hk
 ·refine⟨hk,?_⟩;intro c hc;have hd:a.data.toList.drop k=c::a.data.toList.drop (k+1):=by
   have hl:k<a.data.toList.length:=by simpa using hk
   rw[List.drop_eq_getElem_cons hl]
   have:a.data.toList[k]? =some c:=by simpa using hc
   rw[List.getElem?_eq_getElem hl] at this;rw[Option.some.inj this]
  rw[hd,Qb2] at hk2;by_cases e1:(97:Int)≤c.toNat<;>by_cases e2:(c.toNat:Int)≤122<;>(try (exfalso;omega))<;>by_cases e3:(65:Int)≤c.toNat<;>(try (exfalso;omega))<;>by_cases e4:(c.toNat:Int)≤90<;>(try (exfalso;omega))<;>
   by_cases e5:(c.toNat:Int)<48<;>(try (exfalso;omega))<;>by_cases e6:(57:Int)<c.toNat<;>(try (exfalso;omega))<;>by_cases e7:(c.toNat:Int)=95<;>(try (exfalso;omega))<;>by_cases e8:(k:Int)=0
  all_goals
   have e9:(48:Int)≤c.toNat↔ ¬(c.toNat:Int)<48:=by omega
   have e10:(c.toNat:Int)≤57↔ ¬(57:Int)<c.toNat:=by omega
   have e11:k=0↔(k:Int)=0:=by omega
   have hb:Qc9 k c.toNat=Qc9 k c.toNat:=rfl
   conv at hb=>
    rhs
    simp only[Qc9,Qlk,Qtq,Qau,e1,e2,e3,e4,e5,e6,e7,e8,e9,e10,e11,ne_eq,decide_true,decide_false,Bool.and_true,Bool.and_false,Bool.or_true,Bool.or_false,Bool.true_or,Bool.false_or,Bool.true_and,Bool.false_and,not_true_eq_false,not_false_eq_true]
   rw[hb] at hk2;simp (config:={maxSteps:=10000000}) (disch:=omega) only[ZA,ZT,simprocAttr,Asm.d,rch,impl_IsName.ae,impl_IsName.fv,sub,e1,e2,e3,e4,e5,e6,e7,e8]
   first
    |(simp only[Bool.false_and] at hk2
      simp only[Qei,←hk2,Bool.false_and])
    |(simp only[Bool.true_and] at hk2
      refine⟨⟨k+1,by omega,hk2⟩,by simp only;omega,?_⟩;rw[Qak (by omega) (by omega)];simp only
      omega)
    |(have h9:Qb2 0 a.data.toList=false:=by rw[←hk2];simp
      simp[Qei,h9])
 ·have:a.data.toList.drop k=[]:=List.drop_eq_nil_of_le (by simpa using hk)
  rw[this,Qb2] at hk2;simp only[Qei]
  grind
def spec_IsName.ar:List PK→Option (ByteArray)
 |[.val (.str x0)]=>some x0
 |_=>none
def spec_IsName.ae(a:ByteArray):List PK:=[.val (.str a)]
theorem spec_IsName.le: ∀ps a,spec_IsName.ar ps=some a→LeKL ps (spec_IsName.ae a):=by
 intro ps a h;unfold spec_IsName.ar at h;split at h
 ·simp only[Option.some.injEq] at h;subst h;exact⟨LeK.refl _,trivial⟩
 ·cases h
def spec_IsName.fv(a:ByteArray):Bool:=(Qei) a
def spec_IsName.row:Row:=vrow spec_IsName.ar (fun a=>True) (fun a=>(D.bool) (spec_IsName.fv a))
def spec_IsName.q(a:List AV)(h:Nat→Option Ent)(n:Nat)(K:Kont):=show spec_IsName.row a h n K=Qa1 _ _ _ (nmsL a) K (pkL h a) from rfl
theorem spec_IsName.ok:Qas Tryz.prog 127 spec_IsName.row:=by
 refine Qaj Qaq (tC l01Letter.ok (tC l01Digit.ok tN)) Tryz.func127 rfl (by kernel_rfl) (by kernel_rfl) spec_IsName.le (n:=1) (fun _=>rfl) (by decide) (rc:=(Qa8)) (re:=(D.bool)) (Qat) (f:=spec_IsName.fv) ?_;intro a hpre;simp only[Tryz.f127,Option.getD];simp (config:={maxSteps:=10000000}) (disch:=omega) only[ZA,simprocAttr,Asm.d,rch,spec_IsName.ae,spec_IsName.fv,l01Letter.q,l01Letter.ar,l01Letter.fv,l01Digit.q,l01Digit.ar,l01Digit.fv,Qal];refine⟨fun h1=>⟨fun h2=>⟨by omega,?_⟩,fun h2=> ?_⟩,fun h1=> ?_⟩
 ·intro c hc;have hd:=Qaaz hc;rw[List.drop_zero] at hd;cases hL:Qlk c.toNat
  ·simp (config:={maxSteps:=10000000}) (disch:=omega) only[ZA,ZT,simprocAttr,Asm.d,rch,spec_IsName.ae,spec_IsName.fv,l01Letter.q,l01Letter.ar,l01Letter.fv,l01Digit.q,l01Digit.ar,l01Digit.fv,hL];have h9:Qb2 0 a.data.toList=false:=by rw[hd];simp[Qb2,Qc9,hL]
   simp[Qei,h9]
  ·simp (config:={maxSteps:=10000000}) (disch:=omega) only[ZA,ZT,simprocAttr,Asm.d,rch,spec_IsName.ae,spec_IsName.fv,l01Letter.q,l01Letter.ar,l01Letter.fv,l01Digit.q,l01Digit.ar,l01Digit.fv,hL];refine Qay.old ⟨{k:Nat//1≤k∧k≤a.size∧Qb2 k (a.data.toList.drop k)=Qb2 0 a.data.toList},fun k=>⟨[(3,.im (.int .i64 k.1)),(0,.im (.str a)),(2,.im (.bool false))],[],0⟩,fun k=>a.size - k.1,fun k=>⟨by simp[Qad.good,belT,belH,Qam,AV.bel,belL],Nat.le_refl _⟩,⟨⟨1,by omega,by omega,?_⟩,by simp (config:={maxSteps:=10000000}) (disch:=omega) only[ZA,ZT,simprocAttr,Asm.d,rch,spec_IsName.ae,spec_IsName.fv,l01Letter.q,l01Letter.ar,l01Letter.fv,l01Digit.q,l01Digit.ar,l01Digit.fv,sub]⟩,fun k=> ?_⟩
   ·conv=>rhs;rw[hd]
    simp[Qb2,Qc9,hL]
   ·obtain⟨k,hk0,hk1,hk2⟩:=k;simp (config:={maxSteps:=10000000}) (disch:=omega) only[ZA,simprocAttr,Asm.d,rch,spec_IsName.ae,spec_IsName.fv,l01Letter.q,l01Letter.ar,l01Letter.fv,l01Digit.q,l01Digit.ar,l01Digit.fv,sub,Qal];refine⟨fun hk=>⟨hk,fun c2 hc2=> ?_⟩,fun hk=> ?_⟩
    ·rw[Qaaz hc2,Qb2] at hk2;simp (config:={maxSteps:=10000000}) (disch:=omega) only[ZA,ZT,simprocAttr,Asm.d,rch,spec_IsName.ae,spec_IsName.fv,l01Letter.q,l01Letter.ar,l01Letter.fv,l01Digit.q,l01Digit.ar,l01Digit.fv,sub,Qal];have hok:Qc9 k c2.toNat=true→Qb2 (k+1) (a.data.toList.drop (k+1))=Qb2 0 a.data.toList:=by
      intro h;rw[h] at hk2;simpa using hk2
     have hno:Qc9 k c2.toNat=false→false=Qei a:=by
      intro h;rw[h] at hk2;have h9:Qb2 0 a.data.toList=false:=by rw[←hk2];simp
      simp[Qei,h9]
     have hfin:Qc9 k c2.toNat=true→ ∃b':{k:Nat//1≤k∧k≤a.size∧Qb2 k (a.data.toList.drop k)=Qb2 0 a.data.toList},a.size - b'.val<a.size - k∧IntKind.wrap .i64 ((k:Int)+1)=b'.val:=by
      intro h;refine⟨⟨k+1,by omega,by omega,hok h⟩,by simp only;omega,?_⟩;rw[Qak (by omega) (by omega)];simp only;omega
     have hk9:k≠0:=by omega
     refine⟨fun l=>⟨hk,fun c3 hc3=> ?_⟩,fun l=> ?_⟩
     ·rw[hc2] at hc3;obtain rfl:=Option.some.inj hc3;refine⟨fun l2=>⟨hk,fun c3 hc3=> ?_⟩,fun l2=> ?_⟩
      ·rw[hc2] at hc3;obtain rfl:=Option.some.inj hc3;refine⟨fun l3=>hno ?_,fun l3=>hfin ?_⟩
       ·simp[Qc9,l,l2,l3]
       ·simp only[Classical.not_not] at l3;simp[Qc9,l3,hk9]
      ·refine hfin ?_;simp only[Bool.not_eq_false] at l2;simp[Qc9,l2,hk9]
     ·refine hfin ?_;simp only[Bool.not_eq_false] at l;simp[Qc9,l]
    ·rw[byteNone hk,Qb2] at hk2;simp only[Qei]
     grind
 ·simp only[Qei];grind
 ·simp only[Qei];grind
end Go.Ae
namespace Go.Ae
open Go.Proofs
theorem Qli{A:Type}{B:Type}(f:A→B)(z:B)(a:List A)(k:Nat)(x:A)(hx:a[k]? =some x):
 ((a.take k).map f++List.replicate (a.length - k) z).set k (f x)=(a.take (k+1)).map f++List.replicate (a.length - (k+1)) z:=by
 have hk:k<a.length:=(List.getElem?_eq_some_iff.1 hx).1;have h1:a.take (k+1)=a.take k++[x]:=by
  rw[List.take_add_one,hx];rfl
 have h2:a.length - k=(a.length - (k+1))+1:=by omega
 rw[h1,h2,List.replicate_succ,List.map_append,List.append_assoc,List.set_append_right _ _ (by simp;omega)];have h3:k - (List.map f (List.take k a)).length=0:=by simp;omega
 rw[h3];rfl
theorem Qj5{A:Type}{B:Type}(f:A→B)(z:B)(a:List A)(k:Nat)(x:A)(hx:a[k]? =some x):
 ((a.take k).map f++List.replicate (a.length - k) z)[k]? =some z:=by
 have hk:k<a.length:=(List.getElem?_eq_some_iff.1 hx).1;rw[List.getElem?_append_right (by simp;omega)];have h3:k - (List.map f (List.take k a)).length=0:=by simp;omega
 rw[h3,List.getElem?_replicate,if_pos (by omega)]
theorem Qk2{A:Type}{B:Type}(f:A→B)(z:B)(a:List A)(k:Nat)(hk:k≤a.length):((a.take k).map f++List.replicate (a.length - k) z).length=a.length:=by
 simp;omega
theorem Qkp{A:Type}{B:Type}(f:A→B)(z:B)(a:List A)(k:Nat)(hk:a.length≤k):(a.take k).map f++List.replicate (a.length - k) z=a.map f:=by
 rw[List.take_of_length_le hk,show a.length - k=0 by omega];simp
def toPoint.ar:List PK→Option (Qae)
 |[.val (.agg x0)]=>(Qae.d x0).bind fun y0=>some y0
 |_=>none
def toPoint.ae(a:Qae):List PK:=[.val (.agg (Qae.c a))]
theorem toPoint.le: ∀ps a,toPoint.ar ps=some a→LeKL ps (toPoint.ae a):=by
 intro ps a h;unfold toPoint.ar at h;split at h
 ·simp only[Option.bind_eq_some_iff,Option.some.injEq] at h;obtain⟨y0,h0,rfl⟩:=h;exact⟨Qav (Qae.d_le _ _ h0),trivial⟩
 ·cases h
def toPoint.fv(a:Qae):Qae:=(fun p=>p) a
def toPoint.row:Row:=vrow toPoint.ar (fun a=>True) (fun a=>(fun b=>D.agg (Qae.c b)) (toPoint.fv a))
def toPoint.q(a:List AV)(h:Nat→Option Ent)(n:Nat)(K:Kont):=show toPoint.row a h n K=Qa1 _ _ _ (nmsL a) K (pkL h a) from rfl
theorem toPoint.ok:Qas Tryz.prog 24 toPoint.row:=by
 refine Qaj Qaq tN Tryz.func24 rfl (by kernel_rfl) (by kernel_rfl) toPoint.le (n:=1) (fun _=>rfl) (by decide) (rc:=(vAgg Qae.d)) (re:=(fun b=>D.agg (Qae.c b))) (Qb1 Qae.d_le) (f:=toPoint.fv) ?_;intro a hpre;simp only[Tryz.f24,Option.getD];simp (config:={maxSteps:=10000000}) (disch:=omega) only[ZA,ZT,simprocAttr,Asm.d,rch,toPoint.ae,toPoint.fv]
def toPlaced.ar:List PK→Option (Qab)
 |[.val (.agg x0)]=>(Qab.d x0).bind fun y0=>some y0
 |_=>none
def toPlaced.ae(a:Qab):List PK:=[.val (.agg (Qab.c a))]
theorem toPlaced.le: ∀ps a,toPlaced.ar ps=some a→LeKL ps (toPlaced.ae a):=by
 intro ps a h;unfold toPlaced.ar at h;split at h
 ·simp only[Option.bind_eq_some_iff,Option.some.injEq] at h;obtain⟨y0,h0,rfl⟩:=h;exact⟨Qav (Qab.d_le _ _ h0),trivial⟩
 ·cases h
def toPlaced.fv(a:Qab):Qab:=(fun p=>p) a
def toPlaced.row:Row:=vrow toPlaced.ar (fun a=>True) (fun a=>(fun b=>D.agg (Qab.c b)) (toPlaced.fv a))
def toPlaced.q(a:List AV)(h:Nat→Option Ent)(n:Nat)(K:Kont):=show toPlaced.row a h n K=Qa1 _ _ _ (nmsL a) K (pkL h a) from rfl
theorem toPlaced.ok:Qas Tryz.prog 48 toPlaced.row:=by
 refine Qaj Qaq (tC toPoint.ok tN) Tryz.func48 rfl (by kernel_rfl) (by kernel_rfl) toPlaced.le (n:=1) (fun _=>rfl) (by decide) (rc:=(vAgg Qab.d)) (re:=(fun b=>D.agg (Qab.c b))) (Qb1 Qab.d_le) (f:=toPlaced.fv) ?_;intro a hpre;simp only[Tryz.f48,Option.getD];simp (config:={maxSteps:=10000000}) (disch:=omega) only[ZA,ZT,simprocAttr,Asm.d,rch,toPlaced.ae,toPlaced.fv,toPoint.q,toPoint.ar,toPoint.fv]
def toOption.ar:List PK→Option (Opt)
 |[.val (.agg x0)]=>(Opt.d x0).bind fun y0=>some y0
 |_=>none
def toOption.ae(a:Opt):List PK:=[.val (.agg (Opt.c a))]
theorem toOption.le: ∀ps a,toOption.ar ps=some a→LeKL ps (toOption.ae a):=by
 intro ps a h;unfold toOption.ar at h;split at h
 ·simp only[Option.bind_eq_some_iff,Option.some.injEq] at h;obtain⟨y0,h0,rfl⟩:=h;exact⟨Qav (Opt.d_le _ _ h0),trivial⟩
 ·cases h
def toOption.fv(a:Opt):Opt:=(fun p=>p) a
def toOption.row:Row:=vrow toOption.ar (fun a=>True) (fun a=>(fun b=>D.agg (Opt.c b)) (toOption.fv a))
def toOption.q(a:List AV)(h:Nat→Option Ent)(n:Nat)(K:Kont):=show toOption.row a h n K=Qa1 _ _ _ (nmsL a) K (pkL h a) from rfl
theorem toOption.ok:Qas Tryz.prog 9 toOption.row:=by
 refine Qaj Qaq (tC toPoint.ok tN) Tryz.func9 rfl (by kernel_rfl) (by kernel_rfl) toOption.le (n:=1) (fun _=>rfl) (by decide) (rc:=(vAgg Opt.d)) (re:=(fun b=>D.agg (Opt.c b))) (Qb1 Opt.d_le) (f:=toOption.fv) ?_;intro a hpre;simp only[Tryz.f9,Option.getD];simp (config:={maxSteps:=10000000}) (disch:=omega) only[ZA,ZT,simprocAttr,Asm.d,rch,toOption.ae,toOption.fv,toPoint.q,toPoint.ar,toPoint.fv]
def toGlue.ar:List PK→Option (Glue)
 |[.val (.agg x0)]=>(Glue.d x0).bind fun y0=>some y0
 |_=>none
def toGlue.ae(a:Glue):List PK:=[.val (.agg (Glue.c a))]
theorem toGlue.le: ∀ps a,toGlue.ar ps=some a→LeKL ps (toGlue.ae a):=by
 intro ps a h;unfold toGlue.ar at h;split at h
 ·simp only[Option.bind_eq_some_iff,Option.some.injEq] at h;obtain⟨y0,h0,rfl⟩:=h;exact⟨Qav (Glue.d_le _ _ h0),trivial⟩
 ·cases h
def toGlue.fv(a:Glue):Glue:=(fun p=>p) a
def toGlue.row:Row:=vrow toGlue.ar (fun a=>True) (fun a=>(fun b=>D.agg (Glue.c b)) (toGlue.fv a))
def toGlue.q(a:List AV)(h:Nat→Option Ent)(n:Nat)(K:Kont):=show toGlue.row a h n K=Qa1 _ _ _ (nmsL a) K (pkL h a) from rfl
theorem toGlue.ok:Qas Tryz.prog 109 toGlue.row:=by
 refine Qaj Qaq tN Tryz.func109 rfl (by kernel_rfl) (by kernel_rfl) toGlue.le (n:=1) (fun _=>rfl) (by decide) (rc:=(vAgg Glue.d)) (re:=(fun b=>D.agg (Glue.c b))) (Qb1 Glue.d_le) (f:=toGlue.fv) ?_;intro a hpre;simp only[Tryz.f109,Option.getD];simp (config:={maxSteps:=10000000}) (disch:=omega) only[ZA,ZT,simprocAttr,Asm.d,rch,toGlue.ae,toGlue.fv]
def toInt64S.ar:List PK→Option ((List Int))
 |[.val (.sl _ _ x0)]=>(decR intD x0).bind fun y0=>some y0
 |_=>none
def toInt64S.ae(a:(List Int)):List PK:=[.val (.sl false 1 (a.map intC))]
theorem toInt64S.le: ∀ps a,toInt64S.ar ps=some a→LeKL ps (toInt64S.ae a):=by
 intro ps a h;unfold toInt64S.ar at h;split at h
 ·simp only[Option.bind_eq_some_iff,Option.some.injEq] at h;obtain⟨y0,h0,rfl⟩:=h;exact⟨Qbf (Qa2 Qb3 _ _ h0) (by simp only[List.mem_map];rintro r ⟨y,_,rfl⟩;rfl),trivial⟩
 ·cases h
def toInt64S.fv(a:(List Int)):List Int:=(fun p=>p) a
def toInt64S.row:Row:=vrow toInt64S.ar (fun a=>a.length≤1073741824) (fun a=>(fun b=>D.sl false 1 (b.map intC)) (toInt64S.fv a))
def toInt64S.q(a:List AV)(h:Nat→Option Ent)(n:Nat)(K:Kont):=show toInt64S.row a h n K=Qa1 _ _ _ (nmsL a) K (pkL h a) from rfl
theorem toInt64S.ok:Qas Tryz.prog 22 toInt64S.row:=by
 refine Qaj Qaq tN Tryz.func22 rfl (by kernel_rfl) (by kernel_rfl) toInt64S.le (n:=1) (fun _=>rfl) (by decide) (rc:=(vSl intD)) (re:=(fun b=>D.sl false 1 (b.map intC))) (Qe8 Qb3 (fun _=>rfl)) (f:=toInt64S.fv) ?_;intro a hpre;simp only[Tryz.f22,Option.getD];simp (config:={maxSteps:=10000000}) (disch:=omega) only[ZA,ZT,simprocAttr,Asm.d,rch,toInt64S.ae,toInt64S.fv];intro hlen;refine⟨by omega,?_⟩;refine Qay.old ⟨{k:Nat//k≤a.length},fun k=>⟨[(4,.im (.int .i64 k.1)),(3,.own 1),(0,.im (.sl false 1 (a.map intC)))],[(1,(true,.arr 2 1 ((a.take k.1).map intC++List.replicate (a.length - k.1) [.int .i64 0])))],2⟩,fun k=>a.length - k.1,fun k=>⟨by simp[Qad.good,belT,belH,Qam,AV.bel,belL],Nat.le_refl _⟩,⟨⟨0,by omega⟩,by simp (config:={maxSteps:=10000000}) (disch:=omega) only[ZA,ZT,simprocAttr,Asm.d,rch,toInt64S.ae,toInt64S.fv,sub];simp⟩,fun k=> ?_⟩;obtain⟨k,hk1⟩:=k;simp (config:={maxSteps:=10000000}) (disch:=omega) only[ZA,ZT,simprocAttr,Asm.d,rch,toInt64S.ae,toInt64S.fv,sub,Qal,Qk2 _ _ a k hk1];intro _;refine⟨fun hk=>⟨hk,fun x hx=>⟨hk,hk,Qi3 (Qj5 intC [.int .i64 0] a k x hx) ?_⟩⟩,fun hk=> ?_⟩
 ·simp (config:={maxSteps:=10000000}) (disch:=omega) only[ZA,ZT,simprocAttr,Asm.d,rch,toInt64S.ae,toInt64S.fv,sub];refine⟨⟨k+1,by omega⟩,by simp only;omega,?_,?_⟩
  ·rw[Qak (by omega) (by omega)];simp only;omega
  ·exact Qli intC [.int .i64 0] a k x hx
 ·rw[Qkp intC _ a k (by omega)];simp[Qmp]
def eqPoint.ar:List PK→Option (Qae×Qae)
 |[.val (.agg x0),.val (.agg x1)]=>(Qae.d x0).bind fun y0=>(Qae.d x1).bind fun y1=>some (y0,y1)
 |_=>none
def eqPoint.ae(a:Qae×Qae):List PK:=[.val (.agg (Qae.c a.1)),.val (.agg (Qae.c a.2))]
theorem eqPoint.le: ∀ps a,eqPoint.ar ps=some a→LeKL ps (eqPoint.ae a):=by
 intro ps a h;unfold eqPoint.ar at h;split at h
 ·simp only[Option.bind_eq_some_iff,Option.some.injEq] at h;obtain⟨y0,h0,y1,h1,rfl⟩:=h;exact⟨Qav (Qae.d_le _ _ h0),Qav (Qae.d_le _ _ h1),trivial⟩
 ·cases h
def eqPoint.fv(a:Qae×Qae):Bool:=(fun a b=>decide (a=b)) (a.1) (a.2)
def eqPoint.row:Row:=vrow eqPoint.ar (fun a=>True) (fun a=>(D.bool) (eqPoint.fv a))
def eqPoint.q(a:List AV)(h:Nat→Option Ent)(n:Nat)(K:Kont):=show eqPoint.row a h n K=Qa1 _ _ _ (nmsL a) K (pkL h a) from rfl
theorem eqPoint.ok:Qas Tryz.prog 101 eqPoint.row:=by
 refine Qaj Qaq tN Tryz.func101 rfl (by kernel_rfl) (by kernel_rfl) eqPoint.le (n:=2) (fun _=>rfl) (by decide) (rc:=(Qa8)) (re:=(D.bool)) (Qat) (f:=eqPoint.fv) ?_;intro a hpre;simp only[Tryz.f101,Option.getD];simp (config:={maxSteps:=10000000}) (disch:=omega) only[ZA,ZT,simprocAttr,Asm.d,rch,eqPoint.ae,eqPoint.fv];obtain⟨⟨x,y⟩,⟨z,w⟩⟩:=a;simp only[Qae.mk.injEq]
 grind
def eqPlaced.ar:List PK→Option (Qab×Qab)
 |[.val (.agg x0),.val (.agg x1)]=>(Qab.d x0).bind fun y0=>(Qab.d x1).bind fun y1=>some (y0,y1)
 |_=>none
def eqPlaced.ae(a:Qab×Qab):List PK:=[.val (.agg (Qab.c a.1)),.val (.agg (Qab.c a.2))]
theorem eqPlaced.le: ∀ps a,eqPlaced.ar ps=some a→LeKL ps (eqPlaced.ae a):=by
 intro ps a h;unfold eqPlaced.ar at h;split at h
 ·simp only[Option.bind_eq_some_iff,Option.some.injEq] at h;obtain⟨y0,h0,y1,h1,rfl⟩:=h;exact⟨Qav (Qab.d_le _ _ h0),Qav (Qab.d_le _ _ h1),trivial⟩
 ·cases h
def eqPlaced.fv(a:Qab×Qab):Bool:=(fun a b=>decide (a=b)) (a.1) (a.2)
def eqPlaced.row:Row:=vrow eqPlaced.ar (fun a=>True) (fun a=>(D.bool) (eqPlaced.fv a))
def eqPlaced.q(a:List AV)(h:Nat→Option Ent)(n:Nat)(K:Kont):=show eqPlaced.row a h n K=Qa1 _ _ _ (nmsL a) K (pkL h a) from rfl
theorem eqPlaced.ok:Qas Tryz.prog 65 eqPlaced.row:=by
 refine Qaj Qaq (tC eqPoint.ok tN) Tryz.func65 rfl (by kernel_rfl) (by kernel_rfl) eqPlaced.le (n:=2) (fun _=>rfl) (by decide) (rc:=(Qa8)) (re:=(D.bool)) (Qat) (f:=eqPlaced.fv) ?_;intro a hpre;simp only[Tryz.f65,Option.getD];simp (config:={maxSteps:=10000000}) (disch:=omega) only[ZA,ZT,simprocAttr,Asm.d,rch,eqPlaced.ae,eqPlaced.fv,eqPoint.q,eqPoint.ar,eqPoint.fv];obtain⟨⟨⟨x,y⟩,u⟩,⟨⟨z,w⟩,v⟩⟩:=a;simp only[Qab.mk.injEq,Qae.mk.injEq]
 grind
def eqGlue.ar:List PK→Option (Glue×Glue)
 |[.val (.agg x0),.val (.agg x1)]=>(Glue.d x0).bind fun y0=>(Glue.d x1).bind fun y1=>some (y0,y1)
 |_=>none
def eqGlue.ae(a:Glue×Glue):List PK:=[.val (.agg (Glue.c a.1)),.val (.agg (Glue.c a.2))]
theorem eqGlue.le: ∀ps a,eqGlue.ar ps=some a→LeKL ps (eqGlue.ae a):=by
 intro ps a h;unfold eqGlue.ar at h;split at h
 ·simp only[Option.bind_eq_some_iff,Option.some.injEq] at h;obtain⟨y0,h0,y1,h1,rfl⟩:=h;exact⟨Qav (Glue.d_le _ _ h0),Qav (Glue.d_le _ _ h1),trivial⟩
 ·cases h
def eqGlue.fv(a:Glue×Glue):Bool:=(fun a b=>decide (a=b)) (a.1) (a.2)
def eqGlue.row:Row:=vrow eqGlue.ar (fun a=>True) (fun a=>(D.bool) (eqGlue.fv a))
def eqGlue.q(a:List AV)(h:Nat→Option Ent)(n:Nat)(K:Kont):=show eqGlue.row a h n K=Qa1 _ _ _ (nmsL a) K (pkL h a) from rfl
theorem eqGlue.ok:Qas Tryz.prog 125 eqGlue.row:=by
 refine Qaj Qaq tN Tryz.func125 rfl (by kernel_rfl) (by kernel_rfl) eqGlue.le (n:=2) (fun _=>rfl) (by decide) (rc:=(Qa8)) (re:=(D.bool)) (Qat) (f:=eqGlue.fv) ?_;intro a hpre;simp only[Tryz.f125,Option.getD];simp (config:={maxSteps:=10000000}) (disch:=omega) only[ZA,ZT,simprocAttr,Asm.d,rch,eqGlue.ae,eqGlue.fv];obtain⟨⟨x,y⟩,⟨z,w⟩⟩:=a;simp only[Glue.mk.injEq]
 grind
theorem Qew{A:Type}[DecidableEq A]{a b:List A}(hl:a.length=b.length){k:Nat}(hk:k≤a.length)(h:a.take k=b.take k){x y:A}(hx:a[k]? =some x)(hy:b[k]? =some y):
 (x=y→a.take (k+1)=b.take (k+1))∧(x≠y→a≠b):=by
 refine⟨fun hxy=> ?_,fun hxy hab=> ?_⟩
 ·rw[List.take_add_one,List.take_add_one,h,hx,hy,hxy]
 ·subst hab;rw[hx] at hy;exact hxy (Option.some.inj hy)
def eqInt64S.ar:List PK→Option ((List Int)×(List Int))
 |[.val (.sl _ _ x0),.val (.sl _ _ x1)]=>(decR intD x0).bind fun y0=>(decR intD x1).bind fun y1=>some (y0,y1)
 |_=>none
def eqInt64S.ae(a:(List Int)×(List Int)):List PK:=[.val (.sl false 1 (a.1.map intC)),.val (.sl false 1 (a.2.map intC))]
theorem eqInt64S.le: ∀ps a,eqInt64S.ar ps=some a→LeKL ps (eqInt64S.ae a):=by
 intro ps a h;unfold eqInt64S.ar at h;split at h
 ·simp only[Option.bind_eq_some_iff,Option.some.injEq] at h;obtain⟨y0,h0,y1,h1,rfl⟩:=h;exact⟨Qbf (Qa2 Qb3 _ _ h0) (by simp only[List.mem_map];rintro r ⟨y,_,rfl⟩;rfl),Qbf (Qa2 Qb3 _ _ h1) (by simp only[List.mem_map];rintro r ⟨y,_,rfl⟩;rfl),trivial⟩
 ·cases h
def eqInt64S.fv(a:(List Int)×(List Int)):Bool:=(fun a b=>decide (a=b)) (a.1) (a.2)
def eqInt64S.row:Row:=vrow eqInt64S.ar (fun a=>True) (fun a=>(D.bool) (eqInt64S.fv a))
def eqInt64S.q(a:List AV)(h:Nat→Option Ent)(n:Nat)(K:Kont):=show eqInt64S.row a h n K=Qa1 _ _ _ (nmsL a) K (pkL h a) from rfl
theorem eqInt64S.ok:Qas Tryz.prog 33 eqInt64S.row:=by
 refine Qaj Qaq tN Tryz.func33 rfl (by kernel_rfl) (by kernel_rfl) eqInt64S.le (n:=2) (fun _=>rfl) (by decide) (rc:=(Qa8)) (re:=(D.bool)) (Qat) (f:=eqInt64S.fv) ?_;intro a hpre;simp only[Tryz.f33,Option.getD];simp (config:={maxSteps:=10000000}) (disch:=omega) only[ZA,ZT,simprocAttr,Asm.d,rch,eqInt64S.ae,eqInt64S.fv];intro h1 h2;simp only[Qal];refine⟨fun hl=> ?_,fun hl=> ?_⟩
 ·have:a.1≠a.2:=fun h=>hl (by rw[h])
  simp[this]
 have hl:a.1.length=a.2.length:=by omega
 refine Qay.old ⟨{k:Nat//k≤a.1.length∧a.1.take k=a.2.take k},fun k=>⟨[(5,.im (.int .i64 k.1)),(4,.im (.bool false)),(0,.im (.sl false 1 (a.1.map intC))),(1,.im (.sl false 1 (a.2.map intC)))],[],0⟩,fun k=>a.1.length - k.1,fun k=>⟨by simp[Qad.good,belT,belH,Qam,AV.bel,belL],Nat.le_refl _⟩,⟨⟨0,by simp⟩,by simp (config:={maxSteps:=10000000}) (disch:=omega) only[ZA,ZT,simprocAttr,Asm.d,rch,eqInt64S.ae,eqInt64S.fv,sub]⟩,fun k=> ?_⟩;obtain⟨k,hk1,hk2⟩:=k;simp (config:={maxSteps:=10000000}) (disch:=omega) only[ZA,ZT,simprocAttr,Asm.d,rch,eqInt64S.ae,eqInt64S.fv,sub,Qal];intro _;refine⟨fun hk=>⟨hk,fun x hx=>⟨by omega,fun y hy=> ?_⟩⟩,fun hk=> ?_⟩
 ·obtain⟨g1,g2⟩:=Qew hl hk1 hk2 hx hy;exact⟨fun h=>by simp[g2 h],fun h=>Qb6 hk h1 ⟨by omega,g1 (by simpa using h)⟩⟩
 ·rw[List.take_of_length_le (by omega),List.take_of_length_le (by omega)] at hk2;simp[hk2]
def szC(n:Int)(left:Int):Int:=if left - n<0 then -1 else left - n
def szInt64S.ar:List PK→Option ((List Int)×Int)
 |[.val (.sl _ _ x0),.val (.int .i64 x1)]=>(decR intD x0).bind fun y0=>some (y0,x1)
 |_=>none
def szInt64S.ae(a:(List Int)×Int):List PK:=[.val (.sl false 1 (a.1.map intC)),.val (.int .i64 a.2)]
theorem szInt64S.le: ∀ps a,szInt64S.ar ps=some a→LeKL ps (szInt64S.ae a):=by
 intro ps a h;unfold szInt64S.ar at h;split at h
 ·simp only[Option.bind_eq_some_iff,Option.some.injEq] at h;obtain⟨y0,h0,rfl⟩:=h;exact⟨Qbf (Qa2 Qb3 _ _ h0) (by simp only[List.mem_map];rintro r ⟨y,_,rfl⟩;rfl),LeK.refl _,trivial⟩
 ·cases h
def szInt64S.fv(a:(List Int)×Int):Int:=(fun a l=>szC a.length l) (a.1) (a.2)
def szInt64S.row:Row:=vrow szInt64S.ar (fun a=> -1≤a.2∧a.2≤1048576) (fun a=>(D.int .i64) (szInt64S.fv a))
def szInt64S.q(a:List AV)(h:Nat→Option Ent)(n:Nat)(K:Kont):=show szInt64S.row a h n K=Qa1 _ _ _ (nmsL a) K (pkL h a) from rfl
theorem szInt64S.ok:Qas Tryz.prog 14 szInt64S.row:=by
 refine Qaj Qaq tN Tryz.func14 rfl (by kernel_rfl) (by kernel_rfl) szInt64S.le (n:=2) (fun _=>rfl) (by decide) (rc:=(vInt)) (re:=(D.int .i64)) (Qa3) (f:=szInt64S.fv) ?_;intro a hpre;simp only[Tryz.f14,Option.getD];simp (config:={maxSteps:=10000000}) (disch:=omega) only[ZA,ZT,simprocAttr,Asm.d,rch,szInt64S.ae,szInt64S.fv];intro h;rw[Qak (by omega) (by omega)];simp only[szC];grind
def szPlacedS.ar:List PK→Option ((List Qab)×Int)
 |[.val (.sl _ _ x0),.val (.int .i64 x1)]=>(decR Qab.d x0).bind fun y0=>some (y0,x1)
 |_=>none
def szPlacedS.ae(a:(List Qab)×Int):List PK:=[.val (.sl false 3 (a.1.map Qab.c)),.val (.int .i64 a.2)]
theorem szPlacedS.le: ∀ps a,szPlacedS.ar ps=some a→LeKL ps (szPlacedS.ae a):=by
 intro ps a h;unfold szPlacedS.ar at h;split at h
 ·simp only[Option.bind_eq_some_iff,Option.some.injEq] at h;obtain⟨y0,h0,rfl⟩:=h;exact⟨Qbf (Qa2 Qab.d_le _ _ h0) (by simp only[List.mem_map];rintro r ⟨y,_,rfl⟩;rfl),LeK.refl _,trivial⟩
 ·cases h
def szPlacedS.fv(a:(List Qab)×Int):Int:=(fun a l=>szC a.length l) (a.1) (a.2)
def szPlacedS.row:Row:=vrow szPlacedS.ar (fun a=> -1≤a.2∧a.2≤1048576) (fun a=>(D.int .i64) (szPlacedS.fv a))
def szPlacedS.q(a:List AV)(h:Nat→Option Ent)(n:Nat)(K:Kont):=show szPlacedS.row a h n K=Qa1 _ _ _ (nmsL a) K (pkL h a) from rfl
theorem szPlacedS.ok:Qas Tryz.prog 15 szPlacedS.row:=by
 refine Qaj Qaq tN Tryz.func15 rfl (by kernel_rfl) (by kernel_rfl) szPlacedS.le (n:=2) (fun _=>rfl) (by decide) (rc:=(vInt)) (re:=(D.int .i64)) (Qa3) (f:=szPlacedS.fv) ?_;intro a hpre;simp only[Tryz.f15,Option.getD];simp (config:={maxSteps:=10000000}) (disch:=omega) only[ZA,ZT,simprocAttr,Asm.d,rch,szPlacedS.ae,szPlacedS.fv];intro h;rw[Qak (by omega) (by omega)];simp only[szC];grind
def Qab3(a:Asm)(l:Int):Int:=szC a.Tiles.length l
def szAssembly.ar:List PK→Option (Asm×Int)
 |[.val (.agg x0),.val (.int .i64 x1)]=>(Asm.d x0).bind fun y0=>some (y0,x1)
 |_=>none
def szAssembly.ae(a:Asm×Int):List PK:=[.val (.agg (Asm.c a.1)),.val (.int .i64 a.2)]
theorem szAssembly.le: ∀ps a,szAssembly.ar ps=some a→LeKL ps (szAssembly.ae a):=by
 intro ps a h;unfold szAssembly.ar at h;split at h
 ·simp only[Option.bind_eq_some_iff,Option.some.injEq] at h;obtain⟨y0,h0,rfl⟩:=h;exact⟨Qav (Asm.d_le _ _ h0),LeK.refl _,trivial⟩
 ·cases h
def szAssembly.fv(a:Asm×Int):Int:=(Qab3) (a.1) (a.2)
def szAssembly.row:Row:=vrow szAssembly.ar (fun a=> -1≤a.2∧a.2≤1048576) (fun a=>(D.int .i64) (szAssembly.fv a))
def szAssembly.q(a:List AV)(h:Nat→Option Ent)(n:Nat)(K:Kont):=show szAssembly.row a h n K=Qa1 _ _ _ (nmsL a) K (pkL h a) from rfl
theorem szAssembly.ok:Qas Tryz.prog 5 szAssembly.row:=by
 refine Qaj Qaq (tC szPlacedS.ok tN) Tryz.func5 rfl (by kernel_rfl) (by kernel_rfl) szAssembly.le (n:=2) (fun _=>rfl) (by decide) (rc:=(vInt)) (re:=(D.int .i64)) (Qa3) (f:=szAssembly.fv) ?_;intro a hpre;simp only[Tryz.f5,Option.getD];simp (config:={maxSteps:=10000000}) (disch:=omega) only[ZA,ZT,simprocAttr,Asm.d,rch,szAssembly.ae,szAssembly.fv,szPlacedS.q,szPlacedS.ar,szPlacedS.fv];refine⟨hpre,?_⟩;simp only[Qab3,szC];grind
def eqGlueS.ar:List PK→Option ((List Glue)×(List Glue))
 |[.val (.sl _ _ x0),.val (.sl _ _ x1)]=>(decR Glue.d x0).bind fun y0=>(decR Glue.d x1).bind fun y1=>some (y0,y1)
 |_=>none
def eqGlueS.ae(a:(List Glue)×(List Glue)):List PK:=[.val (.sl false 2 (a.1.map Glue.c)),.val (.sl false 2 (a.2.map Glue.c))]
theorem eqGlueS.le: ∀ps a,eqGlueS.ar ps=some a→LeKL ps (eqGlueS.ae a):=by
 intro ps a h;unfold eqGlueS.ar at h;split at h
 ·simp only[Option.bind_eq_some_iff,Option.some.injEq] at h;obtain⟨y0,h0,y1,h1,rfl⟩:=h;exact⟨Qbf (Qa2 Glue.d_le _ _ h0) (by simp only[List.mem_map];rintro r ⟨y,_,rfl⟩;rfl),Qbf (Qa2 Glue.d_le _ _ h1) (by simp only[List.mem_map];rintro r ⟨y,_,rfl⟩;rfl),trivial⟩
 ·cases h
def eqGlueS.fv(a:(List Glue)×(List Glue)):Bool:=(fun a b=>decide (a=b)) (a.1) (a.2)
def eqGlueS.row:Row:=vrow eqGlueS.ar (fun a=>True) (fun a=>(D.bool) (eqGlueS.fv a))
def eqGlueS.q(a:List AV)(h:Nat→Option Ent)(n:Nat)(K:Kont):=show eqGlueS.row a h n K=Qa1 _ _ _ (nmsL a) K (pkL h a) from rfl
theorem eqGlueS.ok:Qas Tryz.prog 99 eqGlueS.row:=by
 refine Qaj Qaq (tC eqGlue.ok tN) Tryz.func99 rfl (by kernel_rfl) (by kernel_rfl) eqGlueS.le (n:=2) (fun _=>rfl) (by decide) (rc:=(Qa8)) (re:=(D.bool)) (Qat) (f:=eqGlueS.fv) ?_;intro a hpre;simp only[Tryz.f99,Option.getD];simp (config:={maxSteps:=10000000}) (disch:=omega) only[ZA,ZT,simprocAttr,Asm.d,rch,eqGlueS.ae,eqGlueS.fv,eqGlue.q,eqGlue.ar,eqGlue.fv];intro h1 h2;simp only[Qal];refine⟨fun hl=> ?_,fun hl=> ?_⟩
 ·have:a.1≠a.2:=fun h=>hl (by rw[h])
  simp[this]
 have hl:a.1.length=a.2.length:=by omega
 refine Qay.old ⟨{k:Nat//k≤a.1.length∧a.1.take k=a.2.take k},fun k=>⟨[(5,.im (.int .i64 k.1)),(4,.im (.bool false)),(0,.im (.sl false 2 (a.1.map Glue.c))),(1,.im (.sl false 2 (a.2.map Glue.c)))],[],0⟩,fun k=>a.1.length - k.1,fun k=>⟨by simp[Qad.good,belT,belH,Qam,AV.bel,belL],Nat.le_refl _⟩,⟨⟨0,by simp⟩,by simp (config:={maxSteps:=10000000}) (disch:=omega) only[ZA,ZT,simprocAttr,Asm.d,rch,eqGlueS.ae,eqGlueS.fv,eqGlue.q,eqGlue.ar,eqGlue.fv,sub]⟩,fun k=> ?_⟩;obtain⟨k,hk1,hk2⟩:=k;simp (config:={maxSteps:=10000000}) (disch:=omega) only[ZA,ZT,simprocAttr,Asm.d,rch,eqGlueS.ae,eqGlueS.fv,eqGlue.q,eqGlue.ar,eqGlue.fv,sub,Qal];intro _;refine⟨fun hk=>⟨hk,fun x hx=>⟨by omega,fun y hy=> ?_⟩⟩,fun hk=> ?_⟩
 ·obtain⟨g1,g2⟩:=Qew hl hk1 hk2 hx hy;exact⟨fun h=>by simp[g2 (show x≠y from h)],fun h=>Qb6 hk h1 ⟨by omega,g1 (show x=y from Classical.not_not.1 h)⟩⟩
 ·rw[List.take_of_length_le (by omega),List.take_of_length_le (by omega)] at hk2;simp[hk2]
theorem Tile_eq(a b:Tile):decide (a=b)=(decide (a.Name=b.Name) && decide (a.Sides=b.Sides)):=by
 obtain⟨x,y⟩:=a;obtain⟨z,w⟩:=b;simp[Tile.mk.injEq]
def eqTile.ar:List PK→Option (Tile×Tile)
 |[.val (.agg x0),.val (.agg x1)]=>(Tile.d x0).bind fun y0=>(Tile.d x1).bind fun y1=>some (y0,y1)
 |_=>none
def eqTile.ae(a:Tile×Tile):List PK:=[.val (.agg (Tile.c a.1)),.val (.agg (Tile.c a.2))]
theorem eqTile.le: ∀ps a,eqTile.ar ps=some a→LeKL ps (eqTile.ae a):=by
 intro ps a h;unfold eqTile.ar at h;split at h
 ·simp only[Option.bind_eq_some_iff,Option.some.injEq] at h;obtain⟨y0,h0,y1,h1,rfl⟩:=h;exact⟨Qav (Tile.d_le _ _ h0),Qav (Tile.d_le _ _ h1),trivial⟩
 ·cases h
def eqTile.fv(a:Tile×Tile):Bool:=(fun a b=>decide (a=b)) (a.1) (a.2)
def eqTile.row:Row:=vrow eqTile.ar (fun a=>True) (fun a=>(D.bool) (eqTile.fv a))
def eqTile.q(a:List AV)(h:Nat→Option Ent)(n:Nat)(K:Kont):=show eqTile.row a h n K=Qa1 _ _ _ (nmsL a) K (pkL h a) from rfl
theorem eqTile.ok:Qas Tryz.prog 126 eqTile.row:=by
 refine Qaj Qaq (tC eqInt64S.ok tN) Tryz.func126 rfl (by kernel_rfl) (by kernel_rfl) eqTile.le (n:=2) (fun _=>rfl) (by decide) (rc:=(Qa8)) (re:=(D.bool)) (Qat) (f:=eqTile.fv) ?_;intro a hpre;simp only[Tryz.f126,Option.getD];simp (config:={maxSteps:=10000000}) (disch:=omega) only[ZA,ZT,simprocAttr,Asm.d,rch,eqTile.ae,eqTile.fv,eqInt64S.q,eqInt64S.ar,eqInt64S.fv];rw[Tile_eq]
 grind
def eqTileS.ar:List PK→Option ((List Tile)×(List Tile))
 |[.val (.sl _ _ x0),.val (.sl _ _ x1)]=>(decR Tile.d x0).bind fun y0=>(decR Tile.d x1).bind fun y1=>some (y0,y1)
 |_=>none
def eqTileS.ae(a:(List Tile)×(List Tile)):List PK:=[.val (.sl false 2 (a.1.map Tile.c)),.val (.sl false 2 (a.2.map Tile.c))]
theorem eqTileS.le: ∀ps a,eqTileS.ar ps=some a→LeKL ps (eqTileS.ae a):=by
 intro ps a h;unfold eqTileS.ar at h;split at h
 ·simp only[Option.bind_eq_some_iff,Option.some.injEq] at h;obtain⟨y0,h0,y1,h1,rfl⟩:=h;exact⟨Qbf (Qa2 Tile.d_le _ _ h0) (by simp only[List.mem_map];rintro r ⟨y,_,rfl⟩;rfl),Qbf (Qa2 Tile.d_le _ _ h1) (by simp only[List.mem_map];rintro r ⟨y,_,rfl⟩;rfl),trivial⟩
 ·cases h
def eqTileS.fv(a:(List Tile)×(List Tile)):Bool:=(fun a b=>decide (a=b)) (a.1) (a.2)
def eqTileS.row:Row:=vrow eqTileS.ar (fun a=>True) (fun a=>(D.bool) (eqTileS.fv a))
def eqTileS.q(a:List AV)(h:Nat→Option Ent)(n:Nat)(K:Kont):=show eqTileS.row a h n K=Qa1 _ _ _ (nmsL a) K (pkL h a) from rfl
theorem eqTileS.ok:Qas Tryz.prog 100 eqTileS.row:=by
 refine Qaj Qaq (tC eqTile.ok tN) Tryz.func100 rfl (by kernel_rfl) (by kernel_rfl) eqTileS.le (n:=2) (fun _=>rfl) (by decide) (rc:=(Qa8)) (re:=(D.bool)) (Qat) (f:=eqTileS.fv) ?_;intro a hpre;simp only[Tryz.f100,Option.getD];simp (config:={maxSteps:=10000000}) (disch:=omega) only[ZA,ZT,simprocAttr,Asm.d,rch,eqTileS.ae,eqTileS.fv,eqTile.q,eqTile.ar,eqTile.fv];intro h1 h2;simp only[Qal];refine⟨fun hl=> ?_,fun hl=> ?_⟩
 ·have:a.1≠a.2:=fun h=>hl (by rw[h])
  simp[this]
 have hl:a.1.length=a.2.length:=by omega
 refine Qay.old ⟨{k:Nat//k≤a.1.length∧a.1.take k=a.2.take k},fun k=>⟨[(5,.im (.int .i64 k.1)),(4,.im (.bool false)),(0,.im (.sl false 2 (a.1.map Tile.c))),(1,.im (.sl false 2 (a.2.map Tile.c)))],[],0⟩,fun k=>a.1.length - k.1,fun k=>⟨by simp[Qad.good,belT,belH,Qam,AV.bel,belL],Nat.le_refl _⟩,⟨⟨0,by simp⟩,by simp (config:={maxSteps:=10000000}) (disch:=omega) only[ZA,ZT,simprocAttr,Asm.d,rch,eqTileS.ae,eqTileS.fv,eqTile.q,eqTile.ar,eqTile.fv,sub]⟩,fun k=> ?_⟩;obtain⟨k,hk1,hk2⟩:=k;simp (config:={maxSteps:=10000000}) (disch:=omega) only[ZA,ZT,simprocAttr,Asm.d,rch,eqTileS.ae,eqTileS.fv,eqTile.q,eqTile.ar,eqTile.fv,sub,Qal];intro _;refine⟨fun hk=>⟨hk,fun x hx=>⟨by omega,fun y hy=> ?_⟩⟩,fun hk=> ?_⟩
 ·obtain⟨g1,g2⟩:=Qew hl hk1 hk2 hx hy;exact⟨fun h=>by simp[g2 (show x≠y from h)],fun h=>Qb6 hk h1 ⟨by omega,g1 (show x=y from Classical.not_not.1 h)⟩⟩
 ·rw[List.take_of_length_le (by omega),List.take_of_length_le (by omega)] at hk2;simp[hk2]
def eqPlacedS.ar:List PK→Option ((List Qab)×(List Qab))
 |[.val (.sl _ _ x0),.val (.sl _ _ x1)]=>(decR Qab.d x0).bind fun y0=>(decR Qab.d x1).bind fun y1=>some (y0,y1)
 |_=>none
def eqPlacedS.ae(a:(List Qab)×(List Qab)):List PK:=[.val (.sl false 3 (a.1.map Qab.c)),.val (.sl false 3 (a.2.map Qab.c))]
theorem eqPlacedS.le: ∀ps a,eqPlacedS.ar ps=some a→LeKL ps (eqPlacedS.ae a):=by
 intro ps a h;unfold eqPlacedS.ar at h;split at h
 ·simp only[Option.bind_eq_some_iff,Option.some.injEq] at h;obtain⟨y0,h0,y1,h1,rfl⟩:=h;exact⟨Qbf (Qa2 Qab.d_le _ _ h0) (by simp only[List.mem_map];rintro r ⟨y,_,rfl⟩;rfl),Qbf (Qa2 Qab.d_le _ _ h1) (by simp only[List.mem_map];rintro r ⟨y,_,rfl⟩;rfl),trivial⟩
 ·cases h
def eqPlacedS.fv(a:(List Qab)×(List Qab)):Bool:=(fun a b=>decide (a=b)) (a.1) (a.2)
def eqPlacedS.row:Row:=vrow eqPlacedS.ar (fun a=>True) (fun a=>(D.bool) (eqPlacedS.fv a))
def eqPlacedS.q(a:List AV)(h:Nat→Option Ent)(n:Nat)(K:Kont):=show eqPlacedS.row a h n K=Qa1 _ _ _ (nmsL a) K (pkL h a) from rfl
theorem eqPlacedS.ok:Qas Tryz.prog 34 eqPlacedS.row:=by
 refine Qaj Qaq (tC eqPlaced.ok tN) Tryz.func34 rfl (by kernel_rfl) (by kernel_rfl) eqPlacedS.le (n:=2) (fun _=>rfl) (by decide) (rc:=(Qa8)) (re:=(D.bool)) (Qat) (f:=eqPlacedS.fv) ?_;intro a hpre;simp only[Tryz.f34,Option.getD];simp (config:={maxSteps:=10000000}) (disch:=omega) only[ZA,ZT,simprocAttr,Asm.d,rch,eqPlacedS.ae,eqPlacedS.fv,eqPlaced.q,eqPlaced.ar,eqPlaced.fv];intro h1 h2;simp only[Qal];refine⟨fun hl=> ?_,fun hl=> ?_⟩
 ·have:a.1≠a.2:=fun h=>hl (by rw[h])
  simp[this]
 have hl:a.1.length=a.2.length:=by omega
 refine Qay.old ⟨{k:Nat//k≤a.1.length∧a.1.take k=a.2.take k},fun k=>⟨[(5,.im (.int .i64 k.1)),(4,.im (.bool false)),(0,.im (.sl false 3 (a.1.map Qab.c))),(1,.im (.sl false 3 (a.2.map Qab.c)))],[],0⟩,fun k=>a.1.length - k.1,fun k=>⟨by simp[Qad.good,belT,belH,Qam,AV.bel,belL],Nat.le_refl _⟩,⟨⟨0,by simp⟩,by simp (config:={maxSteps:=10000000}) (disch:=omega) only[ZA,ZT,simprocAttr,Asm.d,rch,eqPlacedS.ae,eqPlacedS.fv,eqPlaced.q,eqPlaced.ar,eqPlaced.fv,sub]⟩,fun k=> ?_⟩;obtain⟨k,hk1,hk2⟩:=k;simp (config:={maxSteps:=10000000}) (disch:=omega) only[ZA,ZT,simprocAttr,Asm.d,rch,eqPlacedS.ae,eqPlacedS.fv,eqPlaced.q,eqPlaced.ar,eqPlaced.fv,sub,Qal];intro _;refine⟨fun hk=>⟨hk,fun x hx=>⟨by omega,fun y hy=> ?_⟩⟩,fun hk=> ?_⟩
 ·obtain⟨g1,g2⟩:=Qew hl hk1 hk2 hx hy;exact⟨fun h=>by simp[g2 (show x≠y from h)],fun h=>Qb6 hk h1 ⟨by omega,g1 (show x=y from Classical.not_not.1 h)⟩⟩
 ·rw[List.take_of_length_le (by omega),List.take_of_length_le (by omega)] at hk2;simp[hk2]
def eqTileSet.ar:List PK→Option (Qaa×Qaa)
 |[.val (.agg x0),.val (.agg x1)]=>(Qaa.d x0).bind fun y0=>(Qaa.d x1).bind fun y1=>some (y0,y1)
 |_=>none
def eqTileSet.ae(a:Qaa×Qaa):List PK:=[.val (.agg (Qaa.c a.1)),.val (.agg (Qaa.c a.2))]
theorem eqTileSet.le: ∀ps a,eqTileSet.ar ps=some a→LeKL ps (eqTileSet.ae a):=by
 intro ps a h;unfold eqTileSet.ar at h;split at h
 ·simp only[Option.bind_eq_some_iff,Option.some.injEq] at h;obtain⟨y0,h0,y1,h1,rfl⟩:=h;exact⟨Qav (Qaa.d_le _ _ h0),Qav (Qaa.d_le _ _ h1),trivial⟩
 ·cases h
def eqTileSet.fv(a:Qaa×Qaa):Bool:=(fun a b=>decide (a=b)) (a.1) (a.2)
def eqTileSet.row:Row:=vrow eqTileSet.ar (fun a=>True) (fun a=>(D.bool) (eqTileSet.fv a))
def eqTileSet.q(a:List AV)(h:Nat→Option Ent)(n:Nat)(K:Kont):=show eqTileSet.row a h n K=Qa1 _ _ _ (nmsL a) K (pkL h a) from rfl
theorem eqTileSet.ok:Qas Tryz.prog 64 eqTileSet.row:=by
 refine Qaj Qaq (tC eqGlueS.ok (tC eqTileS.ok tN)) Tryz.func64 rfl (by kernel_rfl) (by kernel_rfl) eqTileSet.le (n:=2) (fun _=>rfl) (by decide) (rc:=(Qa8)) (re:=(D.bool)) (Qat) (f:=eqTileSet.fv) ?_;intro a hpre;simp only[Tryz.f64,Option.getD];simp (config:={maxSteps:=10000000}) (disch:=omega) only[ZA,ZT,simprocAttr,Asm.d,rch,eqTileSet.ae,eqTileSet.fv,eqGlueS.q,eqGlueS.ar,eqGlueS.fv,eqTileS.q,eqTileS.ar,eqTileS.fv];obtain⟨⟨x,y⟩,⟨z,w⟩⟩:=a;simp only[Qaa.mk.injEq]
 grind
def eqAssembly.ar:List PK→Option (Asm×Asm)
 |[.val (.agg x0),.val (.agg x1)]=>(Asm.d x0).bind fun y0=>(Asm.d x1).bind fun y1=>some (y0,y1)
 |_=>none
def eqAssembly.ae(a:Asm×Asm):List PK:=[.val (.agg (Asm.c a.1)),.val (.agg (Asm.c a.2))]
theorem eqAssembly.le: ∀ps a,eqAssembly.ar ps=some a→LeKL ps (eqAssembly.ae a):=by
 intro ps a h;unfold eqAssembly.ar at h;split at h
 ·simp only[Option.bind_eq_some_iff,Option.some.injEq] at h;obtain⟨y0,h0,y1,h1,rfl⟩:=h;exact⟨Qav (Asm.d_le _ _ h0),Qav (Asm.d_le _ _ h1),trivial⟩
 ·cases h
def eqAssembly.fv(a:Asm×Asm):Bool:=(fun a b=>decide (a=b)) (a.1) (a.2)
def eqAssembly.row:Row:=vrow eqAssembly.ar (fun a=>True) (fun a=>(D.bool) (eqAssembly.fv a))
def eqAssembly.q(a:List AV)(h:Nat→Option Ent)(n:Nat)(K:Kont):=show eqAssembly.row a h n K=Qa1 _ _ _ (nmsL a) K (pkL h a) from rfl
theorem eqAssembly.ok:Qas Tryz.prog 12 eqAssembly.row:=by
 refine Qaj Qaq (tC eqPlacedS.ok tN) Tryz.func12 rfl (by kernel_rfl) (by kernel_rfl) eqAssembly.le (n:=2) (fun _=>rfl) (by decide) (rc:=(Qa8)) (re:=(D.bool)) (Qat) (f:=eqAssembly.fv) ?_;intro a hpre;simp only[Tryz.f12,Option.getD];simp (config:={maxSteps:=10000000}) (disch:=omega) only[ZA,ZT,simprocAttr,Asm.d,rch,eqAssembly.ae,eqAssembly.fv,eqPlacedS.q,eqPlacedS.ar,eqPlacedS.fv];obtain⟨⟨x⟩,⟨z⟩⟩:=a;simp only[Asm.mk.injEq]
 grind
def eqSystem.ar:List PK→Option (Qar×Qar)
 |[.val (.agg x0),.val (.agg x1)]=>(Qar.d x0).bind fun y0=>(Qar.d x1).bind fun y1=>some (y0,y1)
 |_=>none
def eqSystem.ae(a:Qar×Qar):List PK:=[.val (.agg (Qar.c a.1)),.val (.agg (Qar.c a.2))]
theorem eqSystem.le: ∀ps a,eqSystem.ar ps=some a→LeKL ps (eqSystem.ae a):=by
 intro ps a h;unfold eqSystem.ar at h;split at h
 ·simp only[Option.bind_eq_some_iff,Option.some.injEq] at h;obtain⟨y0,h0,y1,h1,rfl⟩:=h;exact⟨Qav (Qar.d_le _ _ h0),Qav (Qar.d_le _ _ h1),trivial⟩
 ·cases h
def eqSystem.fv(a:Qar×Qar):Bool:=(fun a b=>decide (a=b)) (a.1) (a.2)
def eqSystem.row:Row:=vrow eqSystem.ar (fun a=>True) (fun a=>(D.bool) (eqSystem.fv a))
def eqSystem.q(a:List AV)(h:Nat→Option Ent)(n:Nat)(K:Kont):=show eqSystem.row a h n K=Qa1 _ _ _ (nmsL a) K (pkL h a) from rfl
theorem eqSystem.ok:Qas Tryz.prog 32 eqSystem.row:=by
 refine Qaj Qaq (tC eqTileSet.ok (tC eqAssembly.ok tN)) Tryz.func32 rfl (by kernel_rfl) (by kernel_rfl) eqSystem.le (n:=2) (fun _=>rfl) (by decide) (rc:=(Qa8)) (re:=(D.bool)) (Qat) (f:=eqSystem.fv) ?_;intro a hpre;simp only[Tryz.f32,Option.getD];simp (config:={maxSteps:=10000000}) (disch:=omega) only[ZA,ZT,simprocAttr,Asm.d,rch,eqSystem.ae,eqSystem.fv,eqTileSet.q,eqTileSet.ar,eqTileSet.fv,eqAssembly.q,eqAssembly.ar,eqAssembly.fv];obtain⟨⟨⟨x,x1⟩,⟨y⟩,u⟩,⟨⟨z,z1⟩,⟨w⟩,v⟩⟩:=a;simp only[Qar.mk.injEq,Qaa.mk.injEq,Asm.mk.injEq]
 grind
def eqSimulation.ar:List PK→Option (Sim×Sim)
 |[.val (.agg x0),.val (.agg x1)]=>(Sim.d x0).bind fun y0=>(Sim.d x1).bind fun y1=>some (y0,y1)
 |_=>none
def eqSimulation.ae(a:Sim×Sim):List PK:=[.val (.agg (Sim.c a.1)),.val (.agg (Sim.c a.2))]
theorem eqSimulation.le: ∀ps a,eqSimulation.ar ps=some a→LeKL ps (eqSimulation.ae a):=by
 intro ps a h;unfold eqSimulation.ar at h;split at h
 ·simp only[Option.bind_eq_some_iff,Option.some.injEq] at h;obtain⟨y0,h0,y1,h1,rfl⟩:=h;exact⟨Qav (Sim.d_le _ _ h0),Qav (Sim.d_le _ _ h1),trivial⟩
 ·cases h
def eqSimulation.fv(a:Sim×Sim):Bool:=(fun a b=>decide (a=b)) (a.1) (a.2)
def eqSimulation.row:Row:=vrow eqSimulation.ar (fun a=>True) (fun a=>(D.bool) (eqSimulation.fv a))
def eqSimulation.q(a:List AV)(h:Nat→Option Ent)(n:Nat)(K:Kont):=show eqSimulation.row a h n K=Qa1 _ _ _ (nmsL a) K (pkL h a) from rfl
theorem eqSimulation.ok:Qas Tryz.prog 11 eqSimulation.row:=by
 refine Qaj Qaq (tC eqSystem.ok (tC eqInt64S.ok tN)) Tryz.func11 rfl (by kernel_rfl) (by kernel_rfl) eqSimulation.le (n:=2) (fun _=>rfl) (by decide) (rc:=(Qa8)) (re:=(D.bool)) (Qat) (f:=eqSimulation.fv) ?_;intro a hpre;simp only[Tryz.f11,Option.getD];simp (config:={maxSteps:=10000000}) (disch:=omega) only[ZA,ZT,simprocAttr,Asm.d,rch,eqSimulation.ae,eqSimulation.fv,eqSystem.q,eqSystem.ar,eqSystem.fv,eqInt64S.q,eqInt64S.ar,eqInt64S.fv];obtain⟨⟨⟨⟨x,x1⟩,⟨y⟩,u⟩,⟨⟨x2,x3⟩,⟨y1⟩,u1⟩,n,m⟩,⟨⟨⟨z,z1⟩,⟨w⟩,v⟩,⟨⟨z2,z3⟩,⟨w2⟩,v2⟩,p,q⟩⟩:=a;simp only[Sim.mk.injEq,Qar.mk.injEq,Qaa.mk.injEq,Asm.mk.injEq]
 grind
def toTile.ar:List PK→Option (Tile)
 |[.val (.agg x0)]=>(Tile.d x0).bind fun y0=>some y0
 |_=>none
def toTile.ae(a:Tile):List PK:=[.val (.agg (Tile.c a))]
theorem toTile.le: ∀ps a,toTile.ar ps=some a→LeKL ps (toTile.ae a):=by
 intro ps a h;unfold toTile.ar at h;split at h
 ·simp only[Option.bind_eq_some_iff,Option.some.injEq] at h;obtain⟨y0,h0,rfl⟩:=h;exact⟨Qav (Tile.d_le _ _ h0),trivial⟩
 ·cases h
def toTile.fv(a:Tile):Tile:=(fun p=>p) a
def toTile.row:Row:=vrow toTile.ar (fun a=>a.Sides.length≤1073741824) (fun a=>(fun b=>D.agg (Tile.c b)) (toTile.fv a))
def toTile.q(a:List AV)(h:Nat→Option Ent)(n:Nat)(K:Kont):=show toTile.row a h n K=Qa1 _ _ _ (nmsL a) K (pkL h a) from rfl
theorem toTile.ok:Qas Tryz.prog 110 toTile.row:=by
 refine Qaj Qaq (tC toInt64S.ok tN) Tryz.func110 rfl (by kernel_rfl) (by kernel_rfl) toTile.le (n:=1) (fun _=>rfl) (by decide) (rc:=(vAgg Tile.d)) (re:=(fun b=>D.agg (Tile.c b))) (Qb1 Tile.d_le) (f:=toTile.fv) ?_;intro a hpre;simp only[Tryz.f110,Option.getD];simp (config:={maxSteps:=10000000}) (disch:=omega) only[ZA,ZT,simprocAttr,Asm.d,rch,toTile.ae,toTile.fv,toInt64S.q,toInt64S.ar,toInt64S.fv];exact hpre
def toGlueS.ar:List PK→Option ((List Glue))
 |[.val (.sl _ _ x0)]=>(decR Glue.d x0).bind fun y0=>some y0
 |_=>none
def toGlueS.ae(a:(List Glue)):List PK:=[.val (.sl false 2 (a.map Glue.c))]
theorem toGlueS.le: ∀ps a,toGlueS.ar ps=some a→LeKL ps (toGlueS.ae a):=by
 intro ps a h;unfold toGlueS.ar at h;split at h
 ·simp only[Option.bind_eq_some_iff,Option.some.injEq] at h;obtain⟨y0,h0,rfl⟩:=h;exact⟨Qbf (Qa2 Glue.d_le _ _ h0) (by simp only[List.mem_map];rintro r ⟨y,_,rfl⟩;rfl),trivial⟩
 ·cases h
def toGlueS.fv(a:(List Glue)):List Glue:=(fun p=>p) a
def toGlueS.row:Row:=vrow toGlueS.ar (fun a=>a.length≤1073741824) (fun a=>(fun b=>D.sl false 2 (b.map Glue.c)) (toGlueS.fv a))
def toGlueS.q(a:List AV)(h:Nat→Option Ent)(n:Nat)(K:Kont):=show toGlueS.row a h n K=Qa1 _ _ _ (nmsL a) K (pkL h a) from rfl
theorem toGlueS.ok:Qas Tryz.prog 75 toGlueS.row:=by
 refine Qaj Qaq (tC toGlue.ok tN) Tryz.func75 rfl (by kernel_rfl) (by kernel_rfl) toGlueS.le (n:=1) (fun _=>rfl) (by decide) (rc:=(vSl Glue.d)) (re:=(fun b=>D.sl false 2 (b.map Glue.c))) (Qe8 Glue.d_le (fun _=>rfl)) (f:=toGlueS.fv) ?_;intro a hpre;simp only[Tryz.f75,Option.getD];simp (config:={maxSteps:=10000000}) (disch:=omega) only[ZA,ZT,simprocAttr,Asm.d,rch,toGlueS.ae,toGlueS.fv,toGlue.q,toGlue.ar,toGlue.fv];intro hlen;have hpl:a.length≤1073741824:=hpre;refine⟨by omega,?_⟩;refine Qay.old ⟨{k:Nat//k≤a.length},fun k=>⟨[(4,.im (.int .i64 k.1)),(3,.own 1),(0,.im (.sl false 2 (a.map Glue.c)))],[(1,(true,.arr 170 2 ((a.take k.1).map Glue.c++List.replicate (a.length - k.1) [.str ByteArray.empty,.int .i64 0])))],2⟩,fun k=>a.length - k.1,fun k=>⟨by simp[Qad.good,belT,belH,Qam,AV.bel,belL],Nat.le_refl _⟩,⟨⟨0,by omega⟩,by simp (config:={maxSteps:=10000000}) (disch:=omega) only[ZA,ZT,simprocAttr,Asm.d,rch,toGlueS.ae,toGlueS.fv,toGlue.q,toGlue.ar,toGlue.fv,sub];simp⟩,fun k=> ?_⟩;obtain⟨k,hk1⟩:=k;simp (config:={maxSteps:=10000000}) (disch:=omega) only[ZA,ZT,simprocAttr,Asm.d,rch,toGlueS.ae,toGlueS.fv,toGlue.q,toGlue.ar,toGlue.fv,sub,Qal,Qk2 _ _ a k hk1];intro _;refine⟨fun hk=> ?_,fun hk=> ?_⟩
 ·refine⟨hk,fun x hx=>⟨hk,hk,Qi3 (Qj5 Glue.c _ a k x hx) ?_⟩⟩;simp (config:={maxSteps:=10000000}) (disch:=omega) only[ZA,ZT,simprocAttr,Asm.d,rch,toGlueS.ae,toGlueS.fv,toGlue.q,toGlue.ar,toGlue.fv,sub];refine⟨⟨k+1,by omega⟩,by simp only;omega,?_,?_⟩
  ·rw[Qak (by omega) (by omega)];simp only;omega
  ·exact Qli Glue.c _ a k x hx
 ·rw[Qkp Glue.c _ a k (by omega)];simp[Glue.d_R]
def toPlacedS.ar:List PK→Option ((List Qab))
 |[.val (.sl _ _ x0)]=>(decR Qab.d x0).bind fun y0=>some y0
 |_=>none
def toPlacedS.ae(a:(List Qab)):List PK:=[.val (.sl false 3 (a.map Qab.c))]
theorem toPlacedS.le: ∀ps a,toPlacedS.ar ps=some a→LeKL ps (toPlacedS.ae a):=by
 intro ps a h;unfold toPlacedS.ar at h;split at h
 ·simp only[Option.bind_eq_some_iff,Option.some.injEq] at h;obtain⟨y0,h0,rfl⟩:=h;exact⟨Qbf (Qa2 Qab.d_le _ _ h0) (by simp only[List.mem_map];rintro r ⟨y,_,rfl⟩;rfl),trivial⟩
 ·cases h
def toPlacedS.fv(a:(List Qab)):List Qab:=(fun p=>p) a
def toPlacedS.row:Row:=vrow toPlacedS.ar (fun a=>a.length≤1073741824) (fun a=>(fun b=>D.sl false 3 (b.map Qab.c)) (toPlacedS.fv a))
def toPlacedS.q(a:List AV)(h:Nat→Option Ent)(n:Nat)(K:Kont):=show toPlacedS.row a h n K=Qa1 _ _ _ (nmsL a) K (pkL h a) from rfl
theorem toPlacedS.ok:Qas Tryz.prog 23 toPlacedS.row:=by
 refine Qaj Qaq (tC toPlaced.ok tN) Tryz.func23 rfl (by kernel_rfl) (by kernel_rfl) toPlacedS.le (n:=1) (fun _=>rfl) (by decide) (rc:=(vSl Qab.d)) (re:=(fun b=>D.sl false 3 (b.map Qab.c))) (Qe8 Qab.d_le (fun _=>rfl)) (f:=toPlacedS.fv) ?_;intro a hpre;simp only[Tryz.f23,Option.getD];simp (config:={maxSteps:=10000000}) (disch:=omega) only[ZA,ZT,simprocAttr,Asm.d,rch,toPlacedS.ae,toPlacedS.fv,toPlaced.q,toPlaced.ar,toPlaced.fv];intro hlen;have hpl:a.length≤1073741824:=hpre;refine⟨by omega,?_⟩;refine Qay.old ⟨{k:Nat//k≤a.length},fun k=>⟨[(4,.im (.int .i64 k.1)),(3,.own 1),(0,.im (.sl false 3 (a.map Qab.c)))],[(1,(true,.arr 101 3 ((a.take k.1).map Qab.c++List.replicate (a.length - k.1) [.int .i64 0,.int .i64 0,.int .i64 0])))],2⟩,fun k=>a.length - k.1,fun k=>⟨by simp[Qad.good,belT,belH,Qam,AV.bel,belL],Nat.le_refl _⟩,⟨⟨0,by omega⟩,by simp (config:={maxSteps:=10000000}) (disch:=omega) only[ZA,ZT,simprocAttr,Asm.d,rch,toPlacedS.ae,toPlacedS.fv,toPlaced.q,toPlaced.ar,toPlaced.fv,sub];simp⟩,fun k=> ?_⟩;obtain⟨k,hk1⟩:=k;simp (config:={maxSteps:=10000000}) (disch:=omega) only[ZA,ZT,simprocAttr,Asm.d,rch,toPlacedS.ae,toPlacedS.fv,toPlaced.q,toPlaced.ar,toPlaced.fv,sub,Qal,Qk2 _ _ a k hk1];intro _;refine⟨fun hk=> ?_,fun hk=> ?_⟩
 ·refine⟨hk,fun x hx=>⟨hk,hk,Qi3 (Qj5 Qab.c _ a k x hx) ?_⟩⟩;simp (config:={maxSteps:=10000000}) (disch:=omega) only[ZA,ZT,simprocAttr,Asm.d,rch,toPlacedS.ae,toPlacedS.fv,toPlaced.q,toPlaced.ar,toPlaced.fv,sub];refine⟨⟨k+1,by omega⟩,by simp only;omega,?_,?_⟩
  ·rw[Qak (by omega) (by omega)];simp only;omega
  ·exact Qli Qab.c _ a k x hx
 ·rw[Qkp Qab.c _ a k (by omega)];simp[Qab.d_R]
def toTileS.ar:List PK→Option ((List Tile))
 |[.val (.sl _ _ x0)]=>(decR Tile.d x0).bind fun y0=>some y0
 |_=>none
def toTileS.ae(a:(List Tile)):List PK:=[.val (.sl false 2 (a.map Tile.c))]
theorem toTileS.le: ∀ps a,toTileS.ar ps=some a→LeKL ps (toTileS.ae a):=by
 intro ps a h;unfold toTileS.ar at h;split at h
 ·simp only[Option.bind_eq_some_iff,Option.some.injEq] at h;obtain⟨y0,h0,rfl⟩:=h;exact⟨Qbf (Qa2 Tile.d_le _ _ h0) (by simp only[List.mem_map];rintro r ⟨y,_,rfl⟩;rfl),trivial⟩
 ·cases h
def toTileS.fv(a:(List Tile)):List Tile:=(fun p=>p) a
def toTileS.row:Row:=vrow toTileS.ar (fun a=>a.length≤1073741824∧ ∀x∈a,x.Sides.length≤1073741824) (fun a=>(fun b=>D.sl false 2 (b.map Tile.c)) (toTileS.fv a))
def toTileS.q(a:List AV)(h:Nat→Option Ent)(n:Nat)(K:Kont):=show toTileS.row a h n K=Qa1 _ _ _ (nmsL a) K (pkL h a) from rfl
theorem toTileS.ok:Qas Tryz.prog 76 toTileS.row:=by
 refine Qaj Qaq (tC toTile.ok tN) Tryz.func76 rfl (by kernel_rfl) (by kernel_rfl) toTileS.le (n:=1) (fun _=>rfl) (by decide) (rc:=(vSl Tile.d)) (re:=(fun b=>D.sl false 2 (b.map Tile.c))) (Qe8 Tile.d_le (fun _=>rfl)) (f:=toTileS.fv) ?_;intro a hpre;simp only[Tryz.f76,Option.getD];simp (config:={maxSteps:=10000000}) (disch:=omega) only[ZA,ZT,simprocAttr,Asm.d,rch,toTileS.ae,toTileS.fv,toTile.q,toTile.ar,toTile.fv];intro hlen;have hpl:a.length≤1073741824:=hpre.1;refine⟨by omega,?_⟩;refine Qay.old ⟨{k:Nat//k≤a.length},fun k=>⟨[(4,.im (.int .i64 k.1)),(3,.own 1),(0,.im (.sl false 2 (a.map Tile.c)))],[(1,(true,.arr 167 2 ((a.take k.1).map Tile.c++List.replicate (a.length - k.1) [.str ByteArray.empty,.sl true 0 []])))],2⟩,fun k=>a.length - k.1,fun k=>⟨by simp[Qad.good,belT,belH,Qam,AV.bel,belL],Nat.le_refl _⟩,⟨⟨0,by omega⟩,by simp (config:={maxSteps:=10000000}) (disch:=omega) only[ZA,ZT,simprocAttr,Asm.d,rch,toTileS.ae,toTileS.fv,toTile.q,toTile.ar,toTile.fv,sub];simp⟩,fun k=> ?_⟩;obtain⟨k,hk1⟩:=k;simp (config:={maxSteps:=10000000}) (disch:=omega) only[ZA,ZT,simprocAttr,Asm.d,rch,toTileS.ae,toTileS.fv,toTile.q,toTile.ar,toTile.fv,sub,Qal,Qk2 _ _ a k hk1];intro _;refine⟨fun hk=> ?_,fun hk=> ?_⟩
 ·refine⟨hk,fun x hx=>⟨hpre.2 x (List.mem_of_getElem? hx),hk,hk,Qi3 (Qj5 Tile.c _ a k x hx) ?_⟩⟩;simp (config:={maxSteps:=10000000}) (disch:=omega) only[ZA,ZT,simprocAttr,Asm.d,rch,toTileS.ae,toTileS.fv,toTile.q,toTile.ar,toTile.fv,sub];refine⟨⟨k+1,by omega⟩,by simp only;omega,?_,?_⟩
  ·rw[Qak (by omega) (by omega)];simp only;omega
  ·exact Qli Tile.c _ a k x hx
 ·rw[Qkp Tile.c _ a k (by omega)];simp[Tile.d_R]
end Go.Ae
namespace Go.Ae
open Go.Proofs
def smSet(s:Qaa):Prop:=s.Glues.length≤1073741824∧s.Tiles.length≤1073741824∧ ∀x∈s.Tiles,x.Sides.length≤1073741824
def toTileSet.ar:List PK→Option (Qaa)
 |[.val (.agg x0)]=>(Qaa.d x0).bind fun y0=>some y0
 |_=>none
def toTileSet.ae(a:Qaa):List PK:=[.val (.agg (Qaa.c a))]
theorem toTileSet.le: ∀ps a,toTileSet.ar ps=some a→LeKL ps (toTileSet.ae a):=by
 intro ps a h;unfold toTileSet.ar at h;split at h
 ·simp only[Option.bind_eq_some_iff,Option.some.injEq] at h;obtain⟨y0,h0,rfl⟩:=h;exact⟨Qav (Qaa.d_le _ _ h0),trivial⟩
 ·cases h
def toTileSet.fv(a:Qaa):Qaa:=(fun p=>p) a
def toTileSet.row:Row:=vrow toTileSet.ar (fun a=>smSet a) (fun a=>(fun b=>D.agg (Qaa.c b)) (toTileSet.fv a))
def toTileSet.q(a:List AV)(h:Nat→Option Ent)(n:Nat)(K:Kont):=show toTileSet.row a h n K=Qa1 _ _ _ (nmsL a) K (pkL h a) from rfl
theorem toTileSet.ok:Qas Tryz.prog 47 toTileSet.row:=by
 refine Qaj Qaq (tC toGlueS.ok (tC toTileS.ok tN)) Tryz.func47 rfl (by kernel_rfl) (by kernel_rfl) toTileSet.le (n:=1) (fun _=>rfl) (by decide) (rc:=(vAgg Qaa.d)) (re:=(fun b=>D.agg (Qaa.c b))) (Qb1 Qaa.d_le) (f:=toTileSet.fv) ?_;intro a hpre;simp only[Tryz.f47,Option.getD];simp (config:={maxSteps:=10000000}) (disch:=omega) only[ZA,ZT,simprocAttr,Asm.d,rch,toTileSet.ae,toTileSet.fv,toGlueS.q,toGlueS.ar,toGlueS.fv,toTileS.q,toTileS.ar,toTileS.fv];exact hpre
def toAssembly.ar:List PK→Option (Asm)
 |[.val (.agg x0)]=>(Asm.d x0).bind fun y0=>some y0
 |_=>none
def toAssembly.ae(a:Asm):List PK:=[.val (.agg (Asm.c a))]
theorem toAssembly.le: ∀ps a,toAssembly.ar ps=some a→LeKL ps (toAssembly.ae a):=by
 intro ps a h;unfold toAssembly.ar at h;split at h
 ·simp only[Option.bind_eq_some_iff,Option.some.injEq] at h;obtain⟨y0,h0,rfl⟩:=h;exact⟨Qav (Asm.d_le _ _ h0),trivial⟩
 ·cases h
def toAssembly.fv(a:Asm):Asm:=(fun p=>p) a
def toAssembly.row:Row:=vrow toAssembly.ar (fun a=>a.Tiles.length≤1073741824) (fun a=>(fun b=>D.agg (Asm.c b)) (toAssembly.fv a))
def toAssembly.q(a:List AV)(h:Nat→Option Ent)(n:Nat)(K:Kont):=show toAssembly.row a h n K=Qa1 _ _ _ (nmsL a) K (pkL h a) from rfl
theorem toAssembly.ok:Qas Tryz.prog 8 toAssembly.row:=by
 refine Qaj Qaq (tC toPlacedS.ok tN) Tryz.func8 rfl (by kernel_rfl) (by kernel_rfl) toAssembly.le (n:=1) (fun _=>rfl) (by decide) (rc:=(vAgg Asm.d)) (re:=(fun b=>D.agg (Asm.c b))) (Qb1 Asm.d_le) (f:=toAssembly.fv) ?_;intro a hpre;simp only[Tryz.f8,Option.getD];simp (config:={maxSteps:=10000000}) (disch:=omega) only[ZA,ZT,simprocAttr,Asm.d,rch,toAssembly.ae,toAssembly.fv,toPlacedS.q,toPlacedS.ar,toPlacedS.fv];exact hpre
def smSys(s:Qar):Prop:=smSet s.Set∧s.Seed.Tiles.length≤1073741824
def toSystem.ar:List PK→Option (Qar)
 |[.val (.agg x0)]=>(Qar.d x0).bind fun y0=>some y0
 |_=>none
def toSystem.ae(a:Qar):List PK:=[.val (.agg (Qar.c a))]
theorem toSystem.le: ∀ps a,toSystem.ar ps=some a→LeKL ps (toSystem.ae a):=by
 intro ps a h;unfold toSystem.ar at h;split at h
 ·simp only[Option.bind_eq_some_iff,Option.some.injEq] at h;obtain⟨y0,h0,rfl⟩:=h;exact⟨Qav (Qar.d_le _ _ h0),trivial⟩
 ·cases h
def toSystem.fv(a:Qar):Qar:=(fun p=>p) a
def toSystem.row:Row:=vrow toSystem.ar (fun a=>smSys a) (fun a=>(fun b=>D.agg (Qar.c b)) (toSystem.fv a))
def toSystem.q(a:List AV)(h:Nat→Option Ent)(n:Nat)(K:Kont):=show toSystem.row a h n K=Qa1 _ _ _ (nmsL a) K (pkL h a) from rfl
theorem toSystem.ok:Qas Tryz.prog 21 toSystem.row:=by
 refine Qaj Qaq (tC toTileSet.ok (tC toAssembly.ok tN)) Tryz.func21 rfl (by kernel_rfl) (by kernel_rfl) toSystem.le (n:=1) (fun _=>rfl) (by decide) (rc:=(vAgg Qar.d)) (re:=(fun b=>D.agg (Qar.c b))) (Qb1 Qar.d_le) (f:=toSystem.fv) ?_;intro a hpre;simp only[Tryz.f21,Option.getD];simp (config:={maxSteps:=10000000}) (disch:=omega) only[ZA,ZT,simprocAttr,Asm.d,rch,toSystem.ae,toSystem.fv,toTileSet.q,toTileSet.ar,toTileSet.fv,toAssembly.q,toAssembly.ar,toAssembly.fv];exact hpre
def smSim(s:Sim):Prop:=smSys s.Big∧smSys s.Small∧s.Labels.length≤1073741824
def toSimulation.ar:List PK→Option (Sim)
 |[.val (.agg x0)]=>(Sim.d x0).bind fun y0=>some y0
 |_=>none
def toSimulation.ae(a:Sim):List PK:=[.val (.agg (Sim.c a))]
theorem toSimulation.le: ∀ps a,toSimulation.ar ps=some a→LeKL ps (toSimulation.ae a):=by
 intro ps a h;unfold toSimulation.ar at h;split at h
 ·simp only[Option.bind_eq_some_iff,Option.some.injEq] at h;obtain⟨y0,h0,rfl⟩:=h;exact⟨Qav (Sim.d_le _ _ h0),trivial⟩
 ·cases h
def toSimulation.fv(a:Sim):Sim:=(fun p=>p) a
def toSimulation.row:Row:=vrow toSimulation.ar (fun a=>smSim a) (fun a=>(fun b=>D.agg (Sim.c b)) (toSimulation.fv a))
def toSimulation.q(a:List AV)(h:Nat→Option Ent)(n:Nat)(K:Kont):=show toSimulation.row a h n K=Qa1 _ _ _ (nmsL a) K (pkL h a) from rfl
theorem toSimulation.ok:Qas Tryz.prog 7 toSimulation.row:=by
 refine Qaj Qaq (tC toSystem.ok (tC toInt64S.ok tN)) Tryz.func7 rfl (by kernel_rfl) (by kernel_rfl) toSimulation.le (n:=1) (fun _=>rfl) (by decide) (rc:=(vAgg Sim.d)) (re:=(fun b=>D.agg (Sim.c b))) (Qb1 Sim.d_le) (f:=toSimulation.fv) ?_;intro a hpre;simp only[Tryz.f7,Option.getD];simp (config:={maxSteps:=10000000}) (disch:=omega) only[ZA,ZT,simprocAttr,Asm.d,rch,toSimulation.ae,toSimulation.fv,toSystem.q,toSystem.ar,toSystem.fv,toInt64S.q,toInt64S.ar,toInt64S.fv];exact hpre
def Qen(g:Glue)(l:Int):Int:=szC g.Name.size l
def szGlue.ar:List PK→Option (Glue×Int)
 |[.val (.agg x0),.val (.int .i64 x1)]=>(Glue.d x0).bind fun y0=>some (y0,x1)
 |_=>none
def szGlue.ae(a:Glue×Int):List PK:=[.val (.agg (Glue.c a.1)),.val (.int .i64 a.2)]
theorem szGlue.le: ∀ps a,szGlue.ar ps=some a→LeKL ps (szGlue.ae a):=by
 intro ps a h;unfold szGlue.ar at h;split at h
 ·simp only[Option.bind_eq_some_iff,Option.some.injEq] at h;obtain⟨y0,h0,rfl⟩:=h;exact⟨Qav (Glue.d_le _ _ h0),LeK.refl _,trivial⟩
 ·cases h
def szGlue.fv(a:Glue×Int):Int:=(Qen) (a.1) (a.2)
def szGlue.row:Row:=vrow szGlue.ar (fun a=> -1≤a.2∧a.2≤1048576∧a.1.Name.size≤140737488355328) (fun a=>(D.int .i64) (szGlue.fv a))
def szGlue.q(a:List AV)(h:Nat→Option Ent)(n:Nat)(K:Kont):=show szGlue.row a h n K=Qa1 _ _ _ (nmsL a) K (pkL h a) from rfl
theorem szGlue.ok:Qas Tryz.prog 102 szGlue.row:=by
 refine Qaj Qaq tN Tryz.func102 rfl (by kernel_rfl) (by kernel_rfl) szGlue.le (n:=2) (fun _=>rfl) (by decide) (rc:=(vInt)) (re:=(D.int .i64)) (Qa3) (f:=szGlue.fv) ?_;intro a hpre;simp only[Tryz.f102,Option.getD];simp (config:={maxSteps:=10000000}) (disch:=omega) only[ZA,ZT,simprocAttr,Asm.d,rch,szGlue.ae,szGlue.fv];rw[Qak (by omega) (by omega)];simp only[Qen,szC]
 grind
def Qcn(g:Tile)(l:Int):Int:=if szC g.Name.size l<0 then -1 else szC g.Sides.length (szC g.Name.size l)
def szTile.ar:List PK→Option (Tile×Int)
 |[.val (.agg x0),.val (.int .i64 x1)]=>(Tile.d x0).bind fun y0=>some (y0,x1)
 |_=>none
def szTile.ae(a:Tile×Int):List PK:=[.val (.agg (Tile.c a.1)),.val (.int .i64 a.2)]
theorem szTile.le: ∀ps a,szTile.ar ps=some a→LeKL ps (szTile.ae a):=by
 intro ps a h;unfold szTile.ar at h;split at h
 ·simp only[Option.bind_eq_some_iff,Option.some.injEq] at h;obtain⟨y0,h0,rfl⟩:=h;exact⟨Qav (Tile.d_le _ _ h0),LeK.refl _,trivial⟩
 ·cases h
def szTile.fv(a:Tile×Int):Int:=(Qcn) (a.1) (a.2)
def szTile.row:Row:=vrow szTile.ar (fun a=> -1≤a.2∧a.2≤1048576∧a.1.Name.size≤140737488355328) (fun a=>(D.int .i64) (szTile.fv a))
def szTile.q(a:List AV)(h:Nat→Option Ent)(n:Nat)(K:Kont):=show szTile.row a h n K=Qa1 _ _ _ (nmsL a) K (pkL h a) from rfl
theorem szTile.ok:Qas Tryz.prog 103 szTile.row:=by
 refine Qaj Qaq (tC szInt64S.ok tN) Tryz.func103 rfl (by kernel_rfl) (by kernel_rfl) szTile.le (n:=2) (fun _=>rfl) (by decide) (rc:=(vInt)) (re:=(D.int .i64)) (Qa3) (f:=szTile.fv) ?_;intro a hpre;simp only[Tryz.f103,Option.getD];simp (config:={maxSteps:=10000000}) (disch:=omega) only[ZA,ZT,simprocAttr,Asm.d,rch,szTile.ae,szTile.fv,szInt64S.q,szInt64S.ar,szInt64S.fv];rw[Qak (by omega) (by omega)];simp only[Qcn,szC]
 grind
def Qdz{A:Type}(f:A→Int→Int):List A→Int→Int
 |[],l=>l
 |x::r,l=>if f x l<0 then -1 else Qdz f r (f x l)
def Qcj(a:List Glue)(l:Int):Int:=if szC a.length l<0 then -1 else Qdz Qen a (szC a.length l)
def szGlueS.ar:List PK→Option ((List Glue)×Int)
 |[.val (.sl _ _ x0),.val (.int .i64 x1)]=>(decR Glue.d x0).bind fun y0=>some (y0,x1)
 |_=>none
def szGlueS.ae(a:(List Glue)×Int):List PK:=[.val (.sl false 2 (a.1.map Glue.c)),.val (.int .i64 a.2)]
theorem szGlueS.le: ∀ps a,szGlueS.ar ps=some a→LeKL ps (szGlueS.ae a):=by
 intro ps a h;unfold szGlueS.ar at h;split at h
 ·simp only[Option.bind_eq_some_iff,Option.some.injEq] at h;obtain⟨y0,h0,rfl⟩:=h;exact⟨Qbf (Qa2 Glue.d_le _ _ h0) (by simp only[List.mem_map];rintro r ⟨y,_,rfl⟩;rfl),LeK.refl _,trivial⟩
 ·cases h
def szGlueS.fv(a:(List Glue)×Int):Int:=(Qcj) (a.1) (a.2)
def szGlueS.row:Row:=vrow szGlueS.ar (fun a=> -1≤a.2∧a.2≤1048576∧ ∀x∈a.1,x.Name.size≤140737488355328) (fun a=>(D.int .i64) (szGlueS.fv a))
def szGlueS.q(a:List AV)(h:Nat→Option Ent)(n:Nat)(K:Kont):=show szGlueS.row a h n K=Qa1 _ _ _ (nmsL a) K (pkL h a) from rfl
theorem szGlueS.ok:Qas Tryz.prog 66 szGlueS.row:=by
 refine Qaj Qaq (tC szGlue.ok tN) Tryz.func66 rfl (by kernel_rfl) (by kernel_rfl) szGlueS.le (n:=2) (fun _=>rfl) (by decide) (rc:=(vInt)) (re:=(D.int .i64)) (Qa3) (f:=szGlueS.fv) ?_;intro a hpre;simp only[Tryz.f66,Option.getD];simp (config:={maxSteps:=10000000}) (disch:=omega) only[ZA,ZT,simprocAttr,Asm.d,rch,szGlueS.ae,szGlueS.fv,szGlue.q,szGlue.ar,szGlue.fv];intro hn;rw[Qak (by omega) (by omega)];obtain⟨hp1,hp2,hp3⟩:=hpre;simp only[Qal];refine⟨fun hl=> ?_,fun hl=> ?_⟩
 ·simp only[Qcj,szC];grind
 have h0:szC a.1.length a.2=a.2 - a.1.length:=by simp only[szC];rw[if_neg hl]
 refine Qay.old ⟨{p:Nat×Int//p.1≤a.1.length∧0≤p.2∧p.2≤1048576∧Qdz Qen (a.1.drop p.1) p.2=Qdz Qen a.1 (a.2 - a.1.length)},fun p=>⟨[(5,.im (.int .i64 p.1.1)),(1,.im (.int .i64 p.1.2)),(4,.im (.int .i64 0)),(0,.im (.sl false 2 (a.1.map Glue.c)))],[],0⟩,fun p=>a.1.length - p.1.1,fun p=>⟨by simp[Qad.good,belT,belH,Qam,AV.bel,belL],Nat.le_refl _⟩,⟨⟨(0,a.2 - a.1.length),by simp,by simp only;omega,by simp only;omega,by simp⟩,by simp (config:={maxSteps:=10000000}) (disch:=omega) only[ZA,ZT,simprocAttr,Asm.d,rch,szGlueS.ae,szGlueS.fv,szGlue.q,szGlue.ar,szGlue.fv,sub]⟩,fun p=> ?_⟩;obtain⟨⟨k,l⟩,hk1,hk2,hk3,hk4⟩:=p;simp only at hk1 hk2 hk3 hk4;simp (config:={maxSteps:=10000000}) (disch:=omega) only[ZA,ZT,simprocAttr,Asm.d,rch,szGlueS.ae,szGlueS.fv,szGlue.q,szGlue.ar,szGlue.fv,sub,Qal];intro _;refine⟨fun hk=>⟨hk,fun x hx=>⟨⟨by omega,by omega,hp3 x (List.mem_of_getElem? hx)⟩,?_⟩⟩,fun hk=> ?_⟩
 ·have hd:a.1.drop k=x::a.1.drop (k+1):=by
   rw[List.drop_eq_getElem_cons hk];rw[List.getElem?_eq_getElem hk] at hx;rw[Option.some.inj hx]
  rw[hd,Qdz] at hk4;have hle:Qen x l≤l:=by simp only[Qen,szC];grind
  have hcg: ¬Qen ⟨x.Name,x.Strength⟩ l<0→ ¬Qen x l<0:=fun h=>h
  refine⟨fun hb=> ?_,fun hb=>⟨⟨(k+1,Qen x l),by simp only;omega,by simp only;have:=hcg hb;omega,by simp only;omega,?_⟩,by simp only;omega,?_,?_⟩⟩
  ·rw[if_pos hb] at hk4;simp only[Qcj,h0]
   grind
  ·rw[if_neg hb] at hk4;exact hk4
  ·rw[Qak (by omega) (by omega)];simp only;omega
  ·rfl
 ·rw[List.drop_eq_nil_of_le (by omega),Qdz] at hk4;simp only[Qcj,h0]
  grind
def Qds(a:List Tile)(l:Int):Int:=if szC a.length l<0 then -1 else Qdz Qcn a (szC a.length l)
def szTileS.ar:List PK→Option ((List Tile)×Int)
 |[.val (.sl _ _ x0),.val (.int .i64 x1)]=>(decR Tile.d x0).bind fun y0=>some (y0,x1)
 |_=>none
def szTileS.ae(a:(List Tile)×Int):List PK:=[.val (.sl false 2 (a.1.map Tile.c)),.val (.int .i64 a.2)]
theorem szTileS.le: ∀ps a,szTileS.ar ps=some a→LeKL ps (szTileS.ae a):=by
 intro ps a h;unfold szTileS.ar at h;split at h
 ·simp only[Option.bind_eq_some_iff,Option.some.injEq] at h;obtain⟨y0,h0,rfl⟩:=h;exact⟨Qbf (Qa2 Tile.d_le _ _ h0) (by simp only[List.mem_map];rintro r ⟨y,_,rfl⟩;rfl),LeK.refl _,trivial⟩
 ·cases h
def szTileS.fv(a:(List Tile)×Int):Int:=(Qds) (a.1) (a.2)
def szTileS.row:Row:=vrow szTileS.ar (fun a=> -1≤a.2∧a.2≤1048576∧ ∀x∈a.1,x.Name.size≤140737488355328) (fun a=>(D.int .i64) (szTileS.fv a))
def szTileS.q(a:List AV)(h:Nat→Option Ent)(n:Nat)(K:Kont):=show szTileS.row a h n K=Qa1 _ _ _ (nmsL a) K (pkL h a) from rfl
theorem szTileS.ok:Qas Tryz.prog 67 szTileS.row:=by
 refine Qaj Qaq (tC szTile.ok tN) Tryz.func67 rfl (by kernel_rfl) (by kernel_rfl) szTileS.le (n:=2) (fun _=>rfl) (by decide) (rc:=(vInt)) (re:=(D.int .i64)) (Qa3) (f:=szTileS.fv) ?_;intro a hpre;simp only[Tryz.f67,Option.getD];simp (config:={maxSteps:=10000000}) (disch:=omega) only[ZA,ZT,simprocAttr,Asm.d,rch,szTileS.ae,szTileS.fv,szTile.q,szTile.ar,szTile.fv];intro hn;rw[Qak (by omega) (by omega)];obtain⟨hp1,hp2,hp3⟩:=hpre;simp only[Qal];refine⟨fun hl=> ?_,fun hl=> ?_⟩
 ·simp only[Qds,szC];grind
 have h0:szC a.1.length a.2=a.2 - a.1.length:=by simp only[szC];rw[if_neg hl]
 refine Qay.old ⟨{p:Nat×Int//p.1≤a.1.length∧0≤p.2∧p.2≤1048576∧Qdz Qcn (a.1.drop p.1) p.2=Qdz Qcn a.1 (a.2 - a.1.length)},fun p=>⟨[(5,.im (.int .i64 p.1.1)),(1,.im (.int .i64 p.1.2)),(4,.im (.int .i64 0)),(0,.im (.sl false 2 (a.1.map Tile.c)))],[],0⟩,fun p=>a.1.length - p.1.1,fun p=>⟨by simp[Qad.good,belT,belH,Qam,AV.bel,belL],Nat.le_refl _⟩,⟨⟨(0,a.2 - a.1.length),by simp,by simp only;omega,by simp only;omega,by simp⟩,by simp (config:={maxSteps:=10000000}) (disch:=omega) only[ZA,ZT,simprocAttr,Asm.d,rch,szTileS.ae,szTileS.fv,szTile.q,szTile.ar,szTile.fv,sub]⟩,fun p=> ?_⟩;obtain⟨⟨k,l⟩,hk1,hk2,hk3,hk4⟩:=p;simp only at hk1 hk2 hk3 hk4;simp (config:={maxSteps:=10000000}) (disch:=omega) only[ZA,ZT,simprocAttr,Asm.d,rch,szTileS.ae,szTileS.fv,szTile.q,szTile.ar,szTile.fv,sub,Qal];intro _;refine⟨fun hk=>⟨hk,fun x hx=>⟨⟨by omega,by omega,hp3 x (List.mem_of_getElem? hx)⟩,?_⟩⟩,fun hk=> ?_⟩
 ·have hd:a.1.drop k=x::a.1.drop (k+1):=by
   rw[List.drop_eq_getElem_cons hk];rw[List.getElem?_eq_getElem hk] at hx;rw[Option.some.inj hx]
  rw[hd,Qdz] at hk4;have hle:Qcn x l≤l:=by simp only[Qcn,szC];grind
  have hcg: ¬Qcn ⟨x.Name,x.Sides⟩ l<0→ ¬Qcn x l<0:=fun h=>h
  refine⟨fun hb=> ?_,fun hb=>⟨⟨(k+1,Qcn x l),by simp only;omega,by simp only;have:=hcg hb;omega,by simp only;omega,?_⟩,by simp only;omega,?_,?_⟩⟩
  ·rw[if_pos hb] at hk4;simp only[Qds,h0]
   grind
  ·rw[if_neg hb] at hk4;exact hk4
  ·rw[Qak (by omega) (by omega)];simp only;omega
  ·rfl
 ·rw[List.drop_eq_nil_of_le (by omega),Qdz] at hk4;simp only[Qds,h0]
  grind
def nmOk(s:Qaa):Prop:=(∀x∈s.Glues,x.Name.size≤140737488355328)∧ ∀x∈s.Tiles,x.Name.size≤140737488355328
theorem Qre{A:Type}{f:A→Int→Int}(hf: ∀x l,0≤l→f x l≤l)(a:List A): ∀(l:Int),0≤l→Qdz f a l≤l∧ -1≤Qdz f a l:=by
 induction a with
 |nil=>intro l hl;simp[Qdz];omega
 |cons x r ih=>
  intro l hl;simp only[Qdz];split
  ·omega
  ·have:=hf x l hl
   have:=ih (f x l) (by omega)
   omega
theorem Qo1(a:List Glue)(l:Int)(hl: -1≤l): -1≤Qcj a l∧Qcj a l≤max l (-1):=by
 simp only[Qcj];split
 ·omega
 ·rename_i h;have h1:=Qre (f:=Qen) (fun x l h=>by simp only[Qen,szC];grind) a (szC a.length l) (by omega);have h2:szC a.length l≤max l (-1):=by simp only[szC];grind
  omega
theorem Qv0(a:List Tile)(l:Int)(hl: -1≤l): -1≤Qds a l∧Qds a l≤max l (-1):=by
 simp only[Qds];split
 ·omega
 ·rename_i h;have h1:=Qre (f:=Qcn) (fun x l h=>by simp only[Qcn,szC];grind) a (szC a.length l) (by omega);have h2:szC a.length l≤max l (-1):=by simp only[szC];grind
  omega
def Qqd(s:Qaa)(l:Int):Int:=if Qcj s.Glues l<0 then -1 else Qds s.Tiles (Qcj s.Glues l)
theorem Qxk(s:Qaa)(l:Int)(hl: -1≤l): -1≤Qqd s l∧Qqd s l≤max l (-1):=by
 have h1:=Qo1 s.Glues l hl;have h2:=Qv0 s.Tiles (Qcj s.Glues l) h1.1;simp only[Qqd]
 split<;>omega
def szTileSet.ar:List PK→Option (Qaa×Int)
 |[.val (.agg x0),.val (.int .i64 x1)]=>(Qaa.d x0).bind fun y0=>some (y0,x1)
 |_=>none
def szTileSet.ae(a:Qaa×Int):List PK:=[.val (.agg (Qaa.c a.1)),.val (.int .i64 a.2)]
theorem szTileSet.le: ∀ps a,szTileSet.ar ps=some a→LeKL ps (szTileSet.ae a):=by
 intro ps a h;unfold szTileSet.ar at h;split at h
 ·simp only[Option.bind_eq_some_iff,Option.some.injEq] at h;obtain⟨y0,h0,rfl⟩:=h;exact⟨Qav (Qaa.d_le _ _ h0),LeK.refl _,trivial⟩
 ·cases h
def szTileSet.fv(a:Qaa×Int):Int:=(Qqd) (a.1) (a.2)
def szTileSet.row:Row:=vrow szTileSet.ar (fun a=> -1≤a.2∧a.2≤1048576∧nmOk a.1) (fun a=>(D.int .i64) (szTileSet.fv a))
def szTileSet.q(a:List AV)(h:Nat→Option Ent)(n:Nat)(K:Kont):=show szTileSet.row a h n K=Qa1 _ _ _ (nmsL a) K (pkL h a) from rfl
theorem szTileSet.ok:Qas Tryz.prog 35 szTileSet.row:=by
 refine Qaj Qaq (tC szGlueS.ok (tC szTileS.ok tN)) Tryz.func35 rfl (by kernel_rfl) (by kernel_rfl) szTileSet.le (n:=2) (fun _=>rfl) (by decide) (rc:=(vInt)) (re:=(D.int .i64)) (Qa3) (f:=szTileSet.fv) ?_;intro a hpre;simp only[Tryz.f35,Option.getD];simp (config:={maxSteps:=10000000}) (disch:=omega) only[ZA,ZT,simprocAttr,Asm.d,rch,szTileSet.ae,szTileSet.fv,szGlueS.q,szGlueS.ar,szGlueS.fv,szTileS.q,szTileS.ar,szTileS.fv];obtain⟨h1,h2,h3,h4⟩:=hpre;have hb:=Qo1 a.1.Glues a.2 h1;refine⟨⟨h1,h2,h3⟩,?_⟩;simp only[Qqd];split
 ·rfl
 ·refine⟨⟨hb.1,by omega,h4⟩,?_⟩;have hc:=Qv0 a.1.Tiles _ hb.1
  split<;>omega
theorem szC_b(n:Nat)(l:Int)(hl: -1≤l): -1≤szC n l∧szC n l≤max l (-1):=by
 simp only[szC];split<;>omega
def Qlr(s:Qar)(l:Int):Int:=if Qqd s.Set l<0 then -1 else Qab3 s.Seed (Qqd s.Set l)
theorem Qtd(s:Qar)(l:Int)(hl: -1≤l): -1≤Qlr s l∧Qlr s l≤max l (-1):=by
 have h1:=Qxk s.Set l hl;have h2:=szC_b s.Seed.Tiles.length (Qqd s.Set l) h1.1;simp only[Qlr,Qab3]
 split<;>omega
def szSystem.ar:List PK→Option (Qar×Int)
 |[.val (.agg x0),.val (.int .i64 x1)]=>(Qar.d x0).bind fun y0=>some (y0,x1)
 |_=>none
def szSystem.ae(a:Qar×Int):List PK:=[.val (.agg (Qar.c a.1)),.val (.int .i64 a.2)]
theorem szSystem.le: ∀ps a,szSystem.ar ps=some a→LeKL ps (szSystem.ae a):=by
 intro ps a h;unfold szSystem.ar at h;split at h
 ·simp only[Option.bind_eq_some_iff,Option.some.injEq] at h;obtain⟨y0,h0,rfl⟩:=h;exact⟨Qav (Qar.d_le _ _ h0),LeK.refl _,trivial⟩
 ·cases h
def szSystem.fv(a:Qar×Int):Int:=(Qlr) (a.1) (a.2)
def szSystem.row:Row:=vrow szSystem.ar (fun a=> -1≤a.2∧a.2≤1048576∧nmOk a.1.Set) (fun a=>(D.int .i64) (szSystem.fv a))
def szSystem.q(a:List AV)(h:Nat→Option Ent)(n:Nat)(K:Kont):=show szSystem.row a h n K=Qa1 _ _ _ (nmsL a) K (pkL h a) from rfl
theorem szSystem.ok:Qas Tryz.prog 13 szSystem.row:=by
 refine Qaj Qaq (tC szTileSet.ok (tC szAssembly.ok tN)) Tryz.func13 rfl (by kernel_rfl) (by kernel_rfl) szSystem.le (n:=2) (fun _=>rfl) (by decide) (rc:=(vInt)) (re:=(D.int .i64)) (Qa3) (f:=szSystem.fv) ?_;intro a hpre;simp only[Tryz.f13,Option.getD];simp (config:={maxSteps:=10000000}) (disch:=omega) only[ZA,ZT,simprocAttr,Asm.d,rch,szSystem.ae,szSystem.fv,szTileSet.q,szTileSet.ar,szTileSet.fv,szAssembly.q,szAssembly.ar,szAssembly.fv];obtain⟨h1,h2,h3⟩:=hpre;have hb:=Qxk a.1.Set a.2 h1;refine⟨⟨h1,h2,h3⟩,?_⟩;simp only[Qlr];split
 ·rfl
 ·refine⟨⟨hb.1,by omega⟩,?_⟩;have hc:=szC_b a.1.Seed.Tiles.length _ hb.1;simp only[Qab3] at hc⊢
  grind
def Qab0(s:Sim)(l:Int):Int:=if Qlr s.Big l<0 then -1 else if Qlr s.Small (Qlr s.Big l)<0 then -1 else szC s.Labels.length (Qlr s.Small (Qlr s.Big l))
def szSimulation.ar:List PK→Option (Sim×Int)
 |[.val (.agg x0),.val (.int .i64 x1)]=>(Sim.d x0).bind fun y0=>some (y0,x1)
 |_=>none
def szSimulation.ae(a:Sim×Int):List PK:=[.val (.agg (Sim.c a.1)),.val (.int .i64 a.2)]
theorem szSimulation.le: ∀ps a,szSimulation.ar ps=some a→LeKL ps (szSimulation.ae a):=by
 intro ps a h;unfold szSimulation.ar at h;split at h
 ·simp only[Option.bind_eq_some_iff,Option.some.injEq] at h;obtain⟨y0,h0,rfl⟩:=h;exact⟨Qav (Sim.d_le _ _ h0),LeK.refl _,trivial⟩
 ·cases h
def szSimulation.fv(a:Sim×Int):Int:=(Qab0) (a.1) (a.2)
def szSimulation.row:Row:=vrow szSimulation.ar (fun a=> -1≤a.2∧a.2≤1048576∧nmOk a.1.Big.Set∧nmOk a.1.Small.Set) (fun a=>(D.int .i64) (szSimulation.fv a))
def szSimulation.q(a:List AV)(h:Nat→Option Ent)(n:Nat)(K:Kont):=show szSimulation.row a h n K=Qa1 _ _ _ (nmsL a) K (pkL h a) from rfl
theorem szSimulation.ok:Qas Tryz.prog 4 szSimulation.row:=by
 refine Qaj Qaq (tC szSystem.ok (tC szInt64S.ok tN)) Tryz.func4 rfl (by kernel_rfl) (by kernel_rfl) szSimulation.le (n:=2) (fun _=>rfl) (by decide) (rc:=(vInt)) (re:=(D.int .i64)) (Qa3) (f:=szSimulation.fv) ?_;intro a hpre;simp only[Tryz.f4,Option.getD];simp (config:={maxSteps:=10000000}) (disch:=omega) only[ZA,ZT,simprocAttr,Asm.d,rch,szSimulation.ae,szSimulation.fv,szSystem.q,szSystem.ar,szSystem.fv,szInt64S.q,szInt64S.ar,szInt64S.fv];obtain⟨h1,h2,h3,h4⟩:=hpre;have hb:=Qtd a.1.Big a.2 h1;have hc:=Qtd a.1.Small _ hb.1;refine⟨⟨h1,h2,h3⟩,?_⟩;simp only[Qab0];split
 ·rfl
 ·refine⟨⟨hb.1,by omega,h4⟩,?_⟩;split
  ·rfl
  ·refine⟨⟨hc.1,by omega⟩,?_⟩;have hd:=szC_b a.1.Labels.length _ hc.1
   split<;>omega
end Go.Ae
namespace Go.Ae
open Go.Proofs
theorem tq(a k:Int)(hk:1≤k):(a.tmod k<0→a.tdiv k - 1=a/k∧a.tmod k+k=a % k)∧(¬a.tmod k<0→a.tdiv k=a/k∧a.tmod k=a % k):=by
 have h1:=Int.emod_nonneg a (show k≠0 by omega);have h2:=Int.emod_lt_of_pos a (show 0<k by omega);have hs:k.sign=1:=Int.sign_eq_one_of_pos (by omega);rw[Int.tdiv_eq_ediv,Int.tmod_eq_emod]
 split<;>rename_i h
 ·omega
 ·rw[hs];omega
theorem fq(a k:Int)(hk:1≤k): -((-a+k - 1)/k)=a/k:=by
 have h1:=Int.emod_nonneg a (show k≠0 by omega);have h2:=Int.emod_lt_of_pos a (show 0<k by omega);have h3:=Int.mul_ediv_add_emod a k
 have:=(Int.ediv_emod_unique (a:= -a+k - 1) (b:=k) (q:= -(a/k)) (r:=k - 1 - a % k) (by omega)).2 ⟨by rw[Int.mul_neg];omega,by omega,by omega⟩
 omega
theorem bq(a k:Int)(hk:1≤k):(0≤a→0≤a/k∧a/k≤a)∧(a<0→a≤a/k∧a/k<0):=by
 refine⟨fun h=>⟨Int.ediv_nonneg h (by omega),Int.ediv_le_self k h⟩,fun h=>⟨?_,Int.ediv_neg_of_neg_of_pos h (by omega)⟩⟩;refine Int.le_ediv_of_mul_le (by omega) ?_
 have:=Int.mul_le_mul_of_nonpos_left (a:=a) (b:=k) (c:=1) (by omega) (by omega)
 omega
def l26Floor.ar:List PK→Option (Int×Int)
 |[.val (.int .i64 x0),.val (.int .i64 x1)]=>some (x0,x1)
 |_=>none
def l26Floor.ae(a:Int×Int):List PK:=[.val (.int .i64 a.1),.val (.int .i64 a.2)]
theorem l26Floor.le: ∀ps a,l26Floor.ar ps=some a→LeKL ps (l26Floor.ae a):=by
 intro ps a h;unfold l26Floor.ar at h;split at h
 ·simp only[Option.some.injEq] at h;subst h;exact⟨LeK.refl _,LeK.refl _,trivial⟩
 ·cases h
def l26Floor.fv(a:Int×Int):Int×Int:=(fun n k=>(n/k,n % k)) (a.1) (a.2)
def l26Floor.row:Row:=vrow l26Floor.ar (fun a=> -1000000000≤a.1∧a.1≤1000000000∧1≤a.2∧a.2≤1000000000) (fun a=>(fun b=>D.tup [(D.int .i64) (b.1),(D.int .i64) (b.2)]) (l26Floor.fv a))
def l26Floor.q(a:List AV)(h:Nat→Option Ent)(n:Nat)(K:Kont):=show l26Floor.row a h n K=Qa1 _ _ _ (nmsL a) K (pkL h a) from rfl
theorem l26Floor.ok:Qas Tryz.prog 74 l26Floor.row:=by
 refine Qaj Qaq tN Tryz.func74 rfl (by kernel_rfl) (by kernel_rfl) l26Floor.le (n:=2) (fun _=>rfl) (by decide) (rc:=(Qfa (vInt) (vInt))) (re:=(fun b=>D.tup [(D.int .i64) (b.1),(D.int .i64) (b.2)])) (Qbz (Qa3) (Qa3)) (f:=l26Floor.fv) ?_;intro a hpre;simp only[Tryz.f74,Option.getD];simp (config:={maxSteps:=10000000}) (disch:=omega) only[ZA,ZT,simprocAttr,Asm.d,rch,l26Floor.ae,l26Floor.fv];obtain⟨h1,h2,h3,h4⟩:=hpre;have hq:=tq a.1 a.2 h3;have hb:=bq a.1 a.2 h3;have hm:=Int.emod_nonneg a.1 (show a.2≠0 by omega);have hm2:=Int.emod_lt_of_pos a.1 (show 0<a.2 by omega);refine⟨by omega,by omega,?_⟩
 split<;>rename_i h
 ·obtain⟨e1,e2⟩:=hq.1 h;have e3:a.1.tdiv a.2=a.1/a.2+1:=by omega
  have hl: -1000000000≤a.1/a.2∧a.1/a.2≤1000000000:=by
   rcases Int.lt_or_le a.1 0 with h|h
   ·have:=hb.2 h;omega
   ·have:=hb.1 h;omega
  rw[e3,e2,Qak (x:=a.1/a.2+1) (by omega) (by omega),Qak (x:=a.1 % a.2) (by omega) (by omega),Qak (by omega) (by omega)];omega
 ·obtain⟨e1,e2⟩:=hq.2 h;have hl: -1000000000≤a.1/a.2∧a.1/a.2≤1000000000:=by
   rcases Int.lt_or_le a.1 0 with h|h
   ·have:=hb.2 h;omega
   ·have:=hb.1 h;omega
  rw[e1,e2,Qak (by omega) (by omega)];exact⟨rfl,rfl⟩
def floorDiv.ar:List PK→Option (Int×Int)
 |[.val (.int .i64 x0),.val (.int .i64 x1)]=>some (x0,x1)
 |_=>none
def floorDiv.ae(a:Int×Int):List PK:=[.val (.int .i64 a.1),.val (.int .i64 a.2)]
theorem floorDiv.le: ∀ps a,floorDiv.ar ps=some a→LeKL ps (floorDiv.ae a):=by
 intro ps a h;unfold floorDiv.ar at h;split at h
 ·simp only[Option.some.injEq] at h;subst h;exact⟨LeK.refl _,LeK.refl _,trivial⟩
 ·cases h
def floorDiv.fv(a:Int×Int):Int:=(fun n k=>n/k) (a.1) (a.2)
def floorDiv.row:Row:=vrow floorDiv.ar (fun a=> -1000000000≤a.1∧a.1≤1000000000∧1≤a.2∧a.2≤1000000000) (fun a=>(D.int .i64) (floorDiv.fv a))
def floorDiv.q(a:List AV)(h:Nat→Option Ent)(n:Nat)(K:Kont):=show floorDiv.row a h n K=Qa1 _ _ _ (nmsL a) K (pkL h a) from rfl
theorem floorDiv.ok:Qas Tryz.prog 88 floorDiv.row:=by
 refine Qaj Qaq tN Tryz.func88 rfl (by kernel_rfl) (by kernel_rfl) floorDiv.le (n:=2) (fun _=>rfl) (by decide) (rc:=(vInt)) (re:=(D.int .i64)) (Qa3) (f:=floorDiv.fv) ?_;intro a hpre;simp only[Tryz.f88,Option.getD];simp (config:={maxSteps:=10000000}) (disch:=omega) only[ZA,ZT,simprocAttr,Asm.d,rch,floorDiv.ae,floorDiv.fv];obtain⟨h1,h2,h3,h4⟩:=hpre;have hb:=bq a.1 a.2 h3
 split<;>rename_i h
 ·refine⟨by omega,?_⟩;have h5:=hb.2 h;rw[Qak (x:= -a.1) (by omega) (by omega),Qak (x:= -a.1+a.2) (by omega) (by omega),Qak (x:= -a.1+a.2 - 1) (by omega) (by omega),Int.tdiv_eq_ediv_of_nonneg (by omega)];have h6:=fq a.1 a.2 h3;rw[Qak (x:=(-a.1+a.2 - 1)/a.2) (by omega) (by omega),Qak (by omega) (by omega)];exact h6
 ·refine⟨by omega,?_⟩;have h5:=hb.1 (by omega);rw[Int.tdiv_eq_ediv_of_nonneg (by omega),Qak (by omega) (by omega)]
def Qgu(p:Qae)(k:Int):Qae×Qae:=(⟨p.X/k,p.Y/k⟩,⟨p.X % k,p.Y % k⟩)
def l26Block.ar:List PK→Option (Qae×Int)
 |[.val (.agg x0),.val (.int .i64 x1)]=>(Qae.d x0).bind fun y0=>some (y0,x1)
 |_=>none
def l26Block.ae(a:Qae×Int):List PK:=[.val (.agg (Qae.c a.1)),.val (.int .i64 a.2)]
theorem l26Block.le: ∀ps a,l26Block.ar ps=some a→LeKL ps (l26Block.ae a):=by
 intro ps a h;unfold l26Block.ar at h;split at h
 ·simp only[Option.bind_eq_some_iff,Option.some.injEq] at h;obtain⟨y0,h0,rfl⟩:=h;exact⟨Qav (Qae.d_le _ _ h0),LeK.refl _,trivial⟩
 ·cases h
def l26Block.fv(a:Qae×Int):Qae×Qae:=(Qgu) (a.1) (a.2)
def l26Block.row:Row:=vrow l26Block.ar (fun a=>Qdy a.1∧1≤a.2∧a.2≤1000000000) (fun a=>(fun b=>D.tup [(fun b=>D.agg (Qae.c b)) (b.1),(fun b=>D.agg (Qae.c b)) (b.2)]) (l26Block.fv a))
def l26Block.q(a:List AV)(h:Nat→Option Ent)(n:Nat)(K:Kont):=show l26Block.row a h n K=Qa1 _ _ _ (nmsL a) K (pkL h a) from rfl
theorem l26Block.ok:Qas Tryz.prog 43 l26Block.row:=by
 refine Qaj Qaq (tC l26Floor.ok tN) Tryz.func43 rfl (by kernel_rfl) (by kernel_rfl) l26Block.le (n:=2) (fun _=>rfl) (by decide) (rc:=(Qfa (vAgg Qae.d) (vAgg Qae.d))) (re:=(fun b=>D.tup [(fun b=>D.agg (Qae.c b)) (b.1),(fun b=>D.agg (Qae.c b)) (b.2)])) (Qbz (Qb1 Qae.d_le) (Qb1 Qae.d_le)) (f:=l26Block.fv) ?_;intro a hpre;simp only[Tryz.f43,Option.getD];simp (config:={maxSteps:=10000000}) (disch:=omega) only[ZA,ZT,simprocAttr,Asm.d,rch,l26Block.ae,l26Block.fv,l26Floor.q,l26Floor.ar,l26Floor.fv];obtain⟨⟨h1,h2,h3,h4⟩,h5,h6⟩:=hpre;exact⟨⟨h1,h2,h5,h6⟩,⟨h3,h4,h5,h6⟩,rfl⟩
def blockOf.ar:List PK→Option (Qae×Int)
 |[.val (.agg x0),.val (.int .i64 x1)]=>(Qae.d x0).bind fun y0=>some (y0,x1)
 |_=>none
def blockOf.ae(a:Qae×Int):List PK:=[.val (.agg (Qae.c a.1)),.val (.int .i64 a.2)]
theorem blockOf.le: ∀ps a,blockOf.ar ps=some a→LeKL ps (blockOf.ae a):=by
 intro ps a h;unfold blockOf.ar at h;split at h
 ·simp only[Option.bind_eq_some_iff,Option.some.injEq] at h;obtain⟨y0,h0,rfl⟩:=h;exact⟨Qav (Qae.d_le _ _ h0),LeK.refl _,trivial⟩
 ·cases h
def blockOf.fv(a:Qae×Int):Qae×Qae:=(Qgu) (a.1) (a.2)
def blockOf.row:Row:=vrow blockOf.ar (fun a=>Qdy a.1∧1≤a.2∧a.2≤1000000000) (fun a=>(fun b=>D.tup [(fun b=>D.agg (Qae.c b)) (b.1),(fun b=>D.agg (Qae.c b)) (b.2)]) (blockOf.fv a))
def blockOf.q(a:List AV)(h:Nat→Option Ent)(n:Nat)(K:Kont):=show blockOf.row a h n K=Qa1 _ _ _ (nmsL a) K (pkL h a) from rfl
theorem blockOf.ok:Qas Tryz.prog 56 blockOf.row:=by
 refine Qaj Qaq (tC floorDiv.ok tN) Tryz.func56 rfl (by kernel_rfl) (by kernel_rfl) blockOf.le (n:=2) (fun _=>rfl) (by decide) (rc:=(Qfa (vAgg Qae.d) (vAgg Qae.d))) (re:=(fun b=>D.tup [(fun b=>D.agg (Qae.c b)) (b.1),(fun b=>D.agg (Qae.c b)) (b.2)])) (Qbz (Qb1 Qae.d_le) (Qb1 Qae.d_le)) (f:=blockOf.fv) ?_;intro a hpre;simp only[Tryz.f56,Option.getD];simp (config:={maxSteps:=10000000}) (disch:=omega) only[ZA,ZT,simprocAttr,Asm.d,rch,blockOf.ae,blockOf.fv,floorDiv.q,floorDiv.ar,floorDiv.fv];obtain⟨⟨h1,h2,h3,h4⟩,h5,h6⟩:=hpre;refine⟨⟨h1,h2,h5,h6⟩,⟨h3,h4,h5,h6⟩,?_⟩;have e1:=Int.mul_ediv_add_emod a.1.X a.2;have e2:=Int.mul_ediv_add_emod a.1.Y a.2;have m1:=Int.emod_nonneg a.1.X (show a.2≠0 by omega);have m2:=Int.emod_lt_of_pos a.1.X (show 0<a.2 by omega);have m3:=Int.emod_nonneg a.1.Y (show a.2≠0 by omega);have m4:=Int.emod_lt_of_pos a.1.Y (show 0<a.2 by omega);rw[Qak (x:=a.2*(a.1.X/a.2)) (by omega) (by omega),Qak (x:=a.2*(a.1.Y/a.2)) (by omega) (by omega),Qak (by omega) (by omega),Qak (by omega) (by omega)];simp only[Qgu,Prod.mk.injEq,Qae.mk.injEq,true_and];omega
def l02Index.ar:List PK→Option (Qaa×Int)
 |[.ptr x0,.val (.int .i64 x1)]=>(Qaa.d (x0.take 2)).bind fun y0=>some (y0,x1)
 |_=>none
def l02Index.ae(a:Qaa×Int):List PK:=[.ptr (Qaa.c a.1),.val (.int .i64 a.2)]
theorem l02Index.le: ∀ps a,l02Index.ar ps=some a→LeKL ps (l02Index.ae a):=by
 intro ps a h;unfold l02Index.ar at h;split at h
 ·simp only[Option.bind_eq_some_iff,Option.some.injEq] at h;obtain⟨y0,h0,rfl⟩:=h;exact⟨LeP.trans_take (Qaa.d_le _ _ h0),LeK.refl _,trivial⟩
 ·cases h
def l02Index.fv(a:Qaa×Int):Bool:=(fun s t=>Qau t 0 (s.Tiles.length - 1)) (a.1) (a.2)
def l02Index.row:Row:=vrow l02Index.ar (fun a=>True) (fun a=>(D.bool) (l02Index.fv a))
def l02Index.q(a:List AV)(h:Nat→Option Ent)(n:Nat)(K:Kont):=show l02Index.row a h n K=Qa1 _ _ _ (nmsL a) K (pkL h a) from rfl
theorem l02Index.ok:Qas Tryz.prog 39 l02Index.row:=by
 refine Qaj Qaq (tC l00In.ok tN) Tryz.func39 rfl (by kernel_rfl) (by kernel_rfl) l02Index.le (n:=2) (fun _=>rfl) (by decide) (rc:=(Qa8)) (re:=(D.bool)) (Qat) (f:=l02Index.fv) ?_;intro a hpre;simp only[Tryz.f39,Option.getD];simp (config:={maxSteps:=10000000}) (disch:=omega) only[ZA,ZT,simprocAttr,Asm.d,rch,l02Index.ae,l02Index.fv,l00In.q,l00In.ar,l00In.fv];intro h;rw[Qak (by omega) (by omega)]
def isTile.ar:List PK→Option (Qaa×Int)
 |[.val (.agg x0),.val (.int .i64 x1)]=>(Qaa.d x0).bind fun y0=>some (y0,x1)
 |_=>none
def isTile.ae(a:Qaa×Int):List PK:=[.val (.agg (Qaa.c a.1)),.val (.int .i64 a.2)]
theorem isTile.le: ∀ps a,isTile.ar ps=some a→LeKL ps (isTile.ae a):=by
 intro ps a h;unfold isTile.ar at h;split at h
 ·simp only[Option.bind_eq_some_iff,Option.some.injEq] at h;obtain⟨y0,h0,rfl⟩:=h;exact⟨Qav (Qaa.d_le _ _ h0),LeK.refl _,trivial⟩
 ·cases h
def isTile.fv(a:Qaa×Int):Bool:=(fun s t=>Qau t 0 (s.Tiles.length - 1)) (a.1) (a.2)
def isTile.row:Row:=vrow isTile.ar (fun a=>True) (fun a=>(D.bool) (isTile.fv a))
def isTile.q(a:List AV)(h:Nat→Option Ent)(n:Nat)(K:Kont):=show isTile.row a h n K=Qa1 _ _ _ (nmsL a) K (pkL h a) from rfl
theorem isTile.ok:Qas Tryz.prog 26 isTile.row:=by
 refine Qaj Qaq (tC isIndex.ok tN) Tryz.func26 rfl (by kernel_rfl) (by kernel_rfl) isTile.le (n:=2) (fun _=>rfl) (by decide) (rc:=(Qa8)) (re:=(D.bool)) (Qat) (f:=isTile.fv) ?_;intro a hpre;simp only[Tryz.f26,Option.getD];simp (config:={maxSteps:=10000000}) (disch:=omega) only[ZA,ZT,simprocAttr,Asm.d,rch,isTile.ae,isTile.fv,isIndex.q,isIndex.ar,isIndex.fv];intro h;simp only[I64];omega
def opposite_.ar:List PK→Option (Int)
 |[.val (.int .i64 x0)]=>some x0
 |_=>none
def opposite_.ae(a:Int):List PK:=[.val (.int .i64 a)]
theorem opposite_.le: ∀ps a,opposite_.ar ps=some a→LeKL ps (opposite_.ae a):=by
 intro ps a h;unfold opposite_.ar at h;split at h
 ·simp only[Option.some.injEq] at h;subst h;exact⟨LeK.refl _,trivial⟩
 ·cases h
def opposite_.fv(a:Int):Int:=(fun d=>(d+2) % 4) a
def opposite_.row:Row:=vrow opposite_.ar (fun a=>0≤a∧a≤3) (fun a=>(D.int .i64) (opposite_.fv a))
def opposite_.q(a:List AV)(h:Nat→Option Ent)(n:Nat)(K:Kont):=show opposite_.row a h n K=Qa1 _ _ _ (nmsL a) K (pkL h a) from rfl
theorem opposite_.ok:Qas Tryz.prog 117 opposite_.row:=by
 refine Qaj Qaq tN Tryz.func117 rfl (by kernel_rfl) (by kernel_rfl) opposite_.le (n:=1) (fun _=>rfl) (by decide) (rc:=(vInt)) (re:=(D.int .i64)) (Qa3) (f:=opposite_.fv) ?_;intro a hpre;simp only[Tryz.f117,Option.getD];simp (config:={maxSteps:=10000000}) (disch:=omega) only[ZA,ZT,simprocAttr,Asm.d,rch,opposite_.ae,opposite_.fv];rw[Qak (by omega) (by omega)]
 have:(0:Int)≤a+2:=by omega
 rw[Int.tmod_eq_emod_of_nonneg this]
def l01Dir.ar:List PK→Option (Int)
 |[.val (.int .i64 x0)]=>some x0
 |_=>none
def l01Dir.ae(a:Int):List PK:=[.val (.int .i64 a)]
theorem l01Dir.le: ∀ps a,l01Dir.ar ps=some a→LeKL ps (l01Dir.ae a):=by
 intro ps a h;unfold l01Dir.ar at h;split at h
 ·simp only[Option.some.injEq] at h;subst h;exact⟨LeK.refl _,trivial⟩
 ·cases h
def l01Dir.fv(a:Int):Bool:=(fun d=>Qau d 0 3) a
def l01Dir.row:Row:=vrow l01Dir.ar (fun a=>True) (fun a=>(D.bool) (l01Dir.fv a))
def l01Dir.q(a:List AV)(h:Nat→Option Ent)(n:Nat)(K:Kont):=show l01Dir.row a h n K=Qa1 _ _ _ (nmsL a) K (pkL h a) from rfl
theorem l01Dir.ok:Qas Tryz.prog 133 l01Dir.row:=by
 refine Qaj Qaq (tC l00In.ok tN) Tryz.func133 rfl (by kernel_rfl) (by kernel_rfl) l01Dir.le (n:=1) (fun _=>rfl) (by decide) (rc:=(Qa8)) (re:=(D.bool)) (Qat) (f:=l01Dir.fv) ?_;intro a hpre;simp only[Tryz.f133,Option.getD];simp (config:={maxSteps:=10000000}) (disch:=omega) only[ZA,ZT,simprocAttr,Asm.d,rch,l01Dir.ae,l01Dir.fv,l00In.q,l00In.ar,l00In.fv]
def Opposite_.ar:List PK→Option (Int)
 |[.val (.int .i64 x0)]=>some x0
 |_=>none
def Opposite_.ae(a:Int):List PK:=[.val (.int .i64 a)]
theorem Opposite_.le: ∀ps a,Opposite_.ar ps=some a→LeKL ps (Opposite_.ae a):=by
 intro ps a h;unfold Opposite_.ar at h;split at h
 ·simp only[Option.some.injEq] at h;subst h;exact⟨LeK.refl _,trivial⟩
 ·cases h
def Opposite_.fv(a:Int):Int:=(fun d=>(d+2) % 4) a
def Opposite_.row:Row:=vrow Opposite_.ar (fun a=>0≤a∧a≤3) (fun a=>(D.int .i64) (Opposite_.fv a))
def Opposite_.q(a:List AV)(h:Nat→Option Ent)(n:Nat)(K:Kont):=show Opposite_.row a h n K=Qa1 _ _ _ (nmsL a) K (pkL h a) from rfl
theorem Opposite_.ok:Qas Tryz.prog 107 Opposite_.row:=by
 refine Qaj Qaq (tC l01Dir.ok tN) Tryz.func107 rfl (by kernel_rfl) (by kernel_rfl) Opposite_.le (n:=1) (fun _=>rfl) (by decide) (rc:=(vInt)) (re:=(D.int .i64)) (Qa3) (f:=Opposite_.fv) ?_;intro a hpre;simp only[Tryz.f107,Option.getD];simp (config:={maxSteps:=10000000}) (disch:=omega) only[ZA,ZT,simprocAttr,Asm.d,rch,Opposite_.ae,Opposite_.fv,l01Dir.q,l01Dir.ar,l01Dir.fv];have h:Qau a 0 3=true:=by simp[Qau,hpre]
 rw[h,if_neg (by simp),Qak (by omega) (by omega)]
 have:(0:Int)≤a+2:=by omega
 rw[Int.tmod_eq_emod_of_nonneg this]
def l07Temperature.ar:List PK→Option (Int)
 |[.val (.int .i64 x0)]=>some x0
 |_=>none
def l07Temperature.ae(a:Int):List PK:=[.val (.int .i64 a)]
theorem l07Temperature.le: ∀ps a,l07Temperature.ar ps=some a→LeKL ps (l07Temperature.ae a):=by
 intro ps a h;unfold l07Temperature.ar at h;split at h
 ·simp only[Option.some.injEq] at h;subst h;exact⟨LeK.refl _,trivial⟩
 ·cases h
def l07Temperature.fv(a:Int):Bool:=(fun t=>Qau t 1 16) a
def l07Temperature.row:Row:=vrow l07Temperature.ar (fun a=>True) (fun a=>(D.bool) (l07Temperature.fv a))
def l07Temperature.q(a:List AV)(h:Nat→Option Ent)(n:Nat)(K:Kont):=show l07Temperature.row a h n K=Qa1 _ _ _ (nmsL a) K (pkL h a) from rfl
theorem l07Temperature.ok:Qas Tryz.prog 105 l07Temperature.row:=by
 refine Qaj Qaq (tC l00In.ok tN) Tryz.func105 rfl (by kernel_rfl) (by kernel_rfl) l07Temperature.le (n:=1) (fun _=>rfl) (by decide) (rc:=(Qa8)) (re:=(D.bool)) (Qat) (f:=l07Temperature.fv) ?_;intro a hpre;simp only[Tryz.f105,Option.getD];simp (config:={maxSteps:=10000000}) (disch:=omega) only[ZA,ZT,simprocAttr,Asm.d,rch,l07Temperature.ae,l07Temperature.fv,l00In.q,l00In.ar,l00In.fv]
def isTemperature.ar:List PK→Option (Int)
 |[.val (.int .i64 x0)]=>some x0
 |_=>none
def isTemperature.ae(a:Int):List PK:=[.val (.int .i64 a)]
theorem isTemperature.le: ∀ps a,isTemperature.ar ps=some a→LeKL ps (isTemperature.ae a):=by
 intro ps a h;unfold isTemperature.ar at h;split at h
 ·simp only[Option.some.injEq] at h;subst h;exact⟨LeK.refl _,trivial⟩
 ·cases h
def isTemperature.fv(a:Int):Bool:=(fun t=>Qau t 1 16) a
def isTemperature.row:Row:=vrow isTemperature.ar (fun a=>True) (fun a=>(D.bool) (isTemperature.fv a))
def isTemperature.q(a:List AV)(h:Nat→Option Ent)(n:Nat)(K:Kont):=show isTemperature.row a h n K=Qa1 _ _ _ (nmsL a) K (pkL h a) from rfl
theorem isTemperature.ok:Qas Tryz.prog 134 isTemperature.row:=by
 refine Qaj Qaq (tC within_.ok tN) Tryz.func134 rfl (by kernel_rfl) (by kernel_rfl) isTemperature.le (n:=1) (fun _=>rfl) (by decide) (rc:=(Qa8)) (re:=(D.bool)) (Qat) (f:=isTemperature.fv) ?_;intro a hpre;simp only[Tryz.f134,Option.getD];simp (config:={maxSteps:=10000000}) (disch:=omega) only[ZA,ZT,simprocAttr,Asm.d,rch,isTemperature.ae,isTemperature.fv,within_.q,within_.ar,within_.fv]
def blockSizeOk.ar:List PK→Option (Int)
 |[.val (.int .i64 x0)]=>some x0
 |_=>none
def blockSizeOk.ae(a:Int):List PK:=[.val (.int .i64 a)]
theorem blockSizeOk.le: ∀ps a,blockSizeOk.ar ps=some a→LeKL ps (blockSizeOk.ae a):=by
 intro ps a h;unfold blockSizeOk.ar at h;split at h
 ·simp only[Option.some.injEq] at h;subst h;exact⟨LeK.refl _,trivial⟩
 ·cases h
def blockSizeOk.fv(a:Int):Bool:=(fun t=>Qau t 1 4) a
def blockSizeOk.row:Row:=vrow blockSizeOk.ar (fun a=>True) (fun a=>(D.bool) (blockSizeOk.fv a))
def blockSizeOk.q(a:List AV)(h:Nat→Option Ent)(n:Nat)(K:Kont):=show blockSizeOk.row a h n K=Qa1 _ _ _ (nmsL a) K (pkL h a) from rfl
theorem blockSizeOk.ok:Qas Tryz.prog 78 blockSizeOk.row:=by
 refine Qaj Qaq (tC within_.ok tN) Tryz.func78 rfl (by kernel_rfl) (by kernel_rfl) blockSizeOk.le (n:=1) (fun _=>rfl) (by decide) (rc:=(Qa8)) (re:=(D.bool)) (Qat) (f:=blockSizeOk.fv) ?_;intro a hpre;simp only[Tryz.f78,Option.getD];simp (config:={maxSteps:=10000000}) (disch:=omega) only[ZA,ZT,simprocAttr,Asm.d,rch,blockSizeOk.ae,blockSizeOk.fv,within_.q,within_.ar,within_.fv]
end Go.Ae
namespace Go.Ae
open Go.Proofs
def setP(s:Qaa):Prop:=s.Glues.length≤140737488355328∧(∀t∈s.Tiles,t.Sides.length=4∧ ∀g∈t.Sides,0≤g∧g≤s.Glues.length)∧ ∀g∈s.Glues,1≤g.Strength∧g.Strength≤4
def Qqu(s:Qaa)(tile dir:Int):Int:=((((s.Tiles[tile.toNat]?).map Tile.Sides).getD [])[dir.toNat]?).getD 0
def Qe1(s:Qaa)(g:Int):Int:=if 0<g then ((s.Glues[(g - 1).toNat]?).map Glue.Strength).getD 0 else 0
def Qfn(s:Qaa)(a dir b:Int):Int:=if Qqu s a dir=Qqu s b ((dir+2) % 4) then Qe1 s (Qqu s a dir) else 0
def Qcs(s:Qaa)(t:Int):Prop:=0≤t∧t<s.Tiles.length
def dirOk(d:Int):Prop:=0≤d∧d≤3
theorem Qpn{s:Qaa}{t d:Int}{x:Tile}{g:Int}(hx:s.Tiles[t.toNat]? =some x)(hg:x.Sides[d.toNat]? =some g):Qqu s t d=g:=by
 simp[Qqu,hx,hg]
theorem glue_eq{s:Qaa}{g:Int}{x:Glue}(h:0<g)(hx:s.Glues[(g - 1).toNat]? =some x):Qe1 s g=x.Strength:=by
 simp only[Qe1,if_pos h,hx];rfl
theorem glue_no{s:Qaa}{g:Int}(h: ¬0<g):Qe1 s g=0:=by
 simp[Qe1,h]
theorem Qio{s:Qaa}(h:setP s){t:Int}{x:Tile}(hx:s.Tiles[t.toNat]? =some x):x.Sides.length=4:=(h.2.1 x (List.mem_of_getElem? hx)).1
theorem Qvv{s:Qaa}(h:setP s){t d:Int}{x:Tile}{g:Int}(hx:s.Tiles[t.toNat]? =some x)(hg:x.Sides[d.toNat]? =some g):0≤g∧g≤s.Glues.length:=(h.2.1 x (List.mem_of_getElem? hx)).2 g (List.mem_of_getElem? hg)
def l02Strength.ar:List PK→Option (Qaa×Int)
 |[.ptr x0,.val (.int .i64 x1)]=>(Qaa.d (x0.take 2)).bind fun y0=>some (y0,x1)
 |_=>none
def l02Strength.ae(a:Qaa×Int):List PK:=[.ptr (Qaa.c a.1),.val (.int .i64 a.2)]
theorem l02Strength.le: ∀ps a,l02Strength.ar ps=some a→LeKL ps (l02Strength.ae a):=by
 intro ps a h;unfold l02Strength.ar at h;split at h
 ·simp only[Option.bind_eq_some_iff,Option.some.injEq] at h;obtain⟨y0,h0,rfl⟩:=h;exact⟨LeP.trans_take (Qaa.d_le _ _ h0),LeK.refl _,trivial⟩
 ·cases h
def l02Strength.fv(a:Qaa×Int):Int:=(Qe1) (a.1) (a.2)
def l02Strength.row:Row:=vrow l02Strength.ar (fun a=>0≤a.2∧a.2≤a.1.Glues.length∧a.1.Glues.length≤140737488355328) (fun a=>(D.int .i64) (l02Strength.fv a))
def l02Strength.q(a:List AV)(h:Nat→Option Ent)(n:Nat)(K:Kont):=show l02Strength.row a h n K=Qa1 _ _ _ (nmsL a) K (pkL h a) from rfl
theorem l02Strength.ok:Qas Tryz.prog 108 l02Strength.row:=by
 refine Qaj Qaq tN Tryz.func108 rfl (by kernel_rfl) (by kernel_rfl) l02Strength.le (n:=2) (fun _=>rfl) (by decide) (rc:=(vInt)) (re:=(D.int .i64)) (Qa3) (f:=l02Strength.fv) ?_;intro a hpre;simp only[Tryz.f108,Option.getD];simp (config:={maxSteps:=10000000}) (disch:=omega) only[ZA,ZT,simprocAttr,Asm.d,rch,l02Strength.ae,l02Strength.fv];obtain⟨h1,h2,h3⟩:=hpre
 split<;>rename_i h
 ·simp[Qe1,h]
 ·rw[Qak (by omega) (by omega)];exact⟨by omega,by omega,fun x hx=>(glue_eq (by omega) hx).symm⟩
def strength_.ar:List PK→Option (Qaa×Int×Int)
 |[.val (.agg x0),.val (.int .i64 x1),.val (.int .i64 x2)]=>(Qaa.d x0).bind fun y0=>some (y0,x1,x2)
 |_=>none
def strength_.ae(a:Qaa×Int×Int):List PK:=[.val (.agg (Qaa.c a.1)),.val (.int .i64 a.2.1),.val (.int .i64 a.2.2)]
theorem strength_.le: ∀ps a,strength_.ar ps=some a→LeKL ps (strength_.ae a):=by
 intro ps a h;unfold strength_.ar at h;split at h
 ·simp only[Option.bind_eq_some_iff,Option.some.injEq] at h;obtain⟨y0,h0,rfl⟩:=h;exact⟨Qav (Qaa.d_le _ _ h0),LeK.refl _,LeK.refl _,trivial⟩
 ·cases h
def strength_.fv(a:Qaa×Int×Int):Int:=(fun s t d=>Qe1 s (Qqu s t d)) (a.1) (a.2.1) (a.2.2)
def strength_.row:Row:=vrow strength_.ar (fun a=>setP a.1∧Qcs a.1 a.2.1∧dirOk a.2.2) (fun a=>(D.int .i64) (strength_.fv a))
def strength_.q(a:List AV)(h:Nat→Option Ent)(n:Nat)(K:Kont):=show strength_.row a h n K=Qa1 _ _ _ (nmsL a) K (pkL h a) from rfl
theorem strength_.ok:Qas Tryz.prog 118 strength_.row:=by
 refine Qaj Qaq tN Tryz.func118 rfl (by kernel_rfl) (by kernel_rfl) strength_.le (n:=3) (fun _=>rfl) (by decide) (rc:=(vInt)) (re:=(D.int .i64)) (Qa3) (f:=strength_.fv) ?_;intro a hpre;simp only[Tryz.f118,Option.getD];simp (config:={maxSteps:=10000000}) (disch:=omega) only[ZA,ZT,simprocAttr,Asm.d,rch,strength_.ae,strength_.fv];obtain⟨h1,h2,h3⟩:=hpre;refine⟨h2.1,h2.2,fun x hx=>⟨h3.1,?_,fun g hg=> ?_⟩⟩
 ·rw[Qio h1 hx];have:=h3.2;omega
 ·have hgl:=Qvv h1 hx hg
  have:=h1.1
  rw[Qpn hx hg]
  split<;>rename_i h
  ·rw[Qak (by omega) (by omega)];exact⟨by omega,by omega,fun y hy=>(glue_eq h hy).symm⟩
  ·exact (glue_no h).symm
def bond_.ar:List PK→Option (Qaa×Int×Int×Int)
 |[.val (.agg x0),.val (.int .i64 x1),.val (.int .i64 x2),.val (.int .i64 x3)]=>(Qaa.d x0).bind fun y0=>some (y0,x1,x2,x3)
 |_=>none
def bond_.ae(a:Qaa×Int×Int×Int):List PK:=[.val (.agg (Qaa.c a.1)),.val (.int .i64 a.2.1),.val (.int .i64 a.2.2.1),.val (.int .i64 a.2.2.2)]
theorem bond_.le: ∀ps a,bond_.ar ps=some a→LeKL ps (bond_.ae a):=by
 intro ps a h;unfold bond_.ar at h;split at h
 ·simp only[Option.bind_eq_some_iff,Option.some.injEq] at h;obtain⟨y0,h0,rfl⟩:=h;exact⟨Qav (Qaa.d_le _ _ h0),LeK.refl _,LeK.refl _,LeK.refl _,trivial⟩
 ·cases h
def bond_.rc:D→Option (Int):=vInt
def bond_.re:Int→D:=D.int .i64
theorem bond_.rle: ∀d b,bond_.rc d=some b→Le d (bond_.re b):=Qa3
def bond_.fv(a:Qaa×Int×Int×Int):Int:=(Qfn) (a.1) (a.2.1) (a.2.2.1) (a.2.2.2)
def bond_.row:Row:=vrow bond_.ar (fun a=>setP a.1∧Qcs a.1 a.2.1∧dirOk a.2.2.1∧Qcs a.1 a.2.2.2) (fun a=>bond_.re (bond_.fv a))
def bond_.q(a:List AV)(h:Nat→Option Ent)(n:Nat)(K:Kont):=show bond_.row a h n K=Qa1 _ _ _ (nmsL a) K (pkL h a) from rfl
theorem bond_.ok:Qas Tryz.prog 87 bond_.row:=by
 refine Qaj Qaq (tC opposite_.ok (tC strength_.ok tN)) Tryz.func87 rfl (by kernel_rfl) (by kernel_rfl) bond_.le (n:=4) (fun _=>rfl) (by decide) (rc:=bond_.rc) (re:=bond_.re) bond_.rle (f:=bond_.fv) ?_;intro a hpre;simp only[Tryz.f87,Option.getD];simp (config:={maxSteps:=10000000}) (disch:=omega) only[ZA,ZT,simprocAttr,Asm.d,rch,bond_.ae,bond_.fv,bond_.rc,opposite_.q,opposite_.ar,opposite_.fv,strength_.q,strength_.ar,strength_.fv];obtain⟨h1,h2,h3,h4⟩:=hpre;have h5:=h3.1;have h6:=h3.2;refine⟨h2.1,h2.2,fun x hx=>⟨h3.1,by rw[Qio h1 hx];omega,fun g hg=>⟨h4.1,h4.2,fun y hy=>⟨h3,by omega,by rw[Qio h1 hy];omega,fun g' hg'=> ?_⟩⟩⟩⟩;simp only[Qfn,Qpn hx hg,Qpn hy hg'];split
 ·exact⟨⟨h1,h2,h3⟩,rfl⟩
 ·rfl
def l02Bond.ar:List PK→Option (Qaa×Int×Int×Int)
 |[.ptr x0,.val (.int .i64 x1),.val (.int .i64 x2),.val (.int .i64 x3)]=>(Qaa.d (x0.take 2)).bind fun y0=>some (y0,x1,x2,x3)
 |_=>none
def l02Bond.ae(a:Qaa×Int×Int×Int):List PK:=[.ptr (Qaa.c a.1),.val (.int .i64 a.2.1),.val (.int .i64 a.2.2.1),.val (.int .i64 a.2.2.2)]
theorem l02Bond.le: ∀ps a,l02Bond.ar ps=some a→LeKL ps (l02Bond.ae a):=by
 intro ps a h;unfold l02Bond.ar at h;split at h
 ·simp only[Option.bind_eq_some_iff,Option.some.injEq] at h;obtain⟨y0,h0,rfl⟩:=h;exact⟨LeP.trans_take (Qaa.d_le _ _ h0),LeK.refl _,LeK.refl _,LeK.refl _,trivial⟩
 ·cases h
def l02Bond.fv(a:Qaa×Int×Int×Int):Int:=(Qfn) (a.1) (a.2.1) (a.2.2.1) (a.2.2.2)
def l02Bond.row:Row:=vrow l02Bond.ar (fun a=>setP a.1∧Qcs a.1 a.2.1∧dirOk a.2.2.1∧Qcs a.1 a.2.2.2) (fun a=>(D.int .i64) (l02Bond.fv a))
def l02Bond.q(a:List AV)(h:Nat→Option Ent)(n:Nat)(K:Kont):=show l02Bond.row a h n K=Qa1 _ _ _ (nmsL a) K (pkL h a) from rfl
theorem l02Bond.ok:Qas Tryz.prog 73 l02Bond.row:=by
 refine Qaj Qaq (tC Opposite_.ok (tC l02Strength.ok tN)) Tryz.func73 rfl (by kernel_rfl) (by kernel_rfl) l02Bond.le (n:=4) (fun _=>rfl) (by decide) (rc:=(vInt)) (re:=(D.int .i64)) (Qa3) (f:=l02Bond.fv) ?_;intro a hpre;simp only[Tryz.f73,Option.getD];simp (config:={maxSteps:=10000000}) (disch:=omega) only[ZA,ZT,simprocAttr,Asm.d,rch,l02Bond.ae,l02Bond.fv,Opposite_.q,Opposite_.ar,Opposite_.fv,l02Strength.q,l02Strength.ar,l02Strength.fv];obtain⟨h1,h2,h3,h4⟩:=hpre;have h5:=h3.1;have h6:=h3.2;refine⟨h2.1,h2.2,fun x hx=>⟨h3.1,by rw[Qio h1 hx];omega,fun g hg=>⟨h4.1,h4.2,fun y hy=>⟨h3,by omega,by rw[Qio h1 hy];omega,fun g' hg'=> ?_⟩⟩⟩⟩;have hgl:=Qvv h1 hx hg
 have:=h1.1
 simp only[Qfn,Qpn hx hg,Qpn hy hg']
 split<;>rename_i h
 ·first|rw[if_neg h]|rfl
 ·rw[if_pos (Classical.not_not.1 h)];exact⟨⟨hgl.1,hgl.2,h1.1⟩,rfl⟩
def Qaz:Option Qae→List Qab→Bool
 |_,[]=>true
 |q,x::r=>Qbi x.At && (Qau x.Tile 0 159 && ((match q with|none=>true|some p=>Qap p x.At) && Qaz (some x.At) r))
theorem Qbq(q:Option Qae)(x:Qab)(r:List Qab):Qaz q (x::r)=(Qbi x.At && (Qau x.Tile 0 159 && ((match q with|none=>true|some p=>Qap p x.At) && Qaz (some x.At) r))):=by cases q<;>rfl
theorem Qik(q:Option Qae):Qaz q []=true:=by cases q<;>rfl
def Qdb(l:List Qab)(k:Nat):Option Qae:=if k=0 then none else (l[k - 1]?).map (·.At)
theorem Qn2{l:List Qab}{k:Nat}{x:Qab}(hx:l[k]? =some x):Qdb l (k+1)=some x.At:=by
 simp[Qdb,hx]
theorem Qd3{A:Type}{l:List A}{k:Nat}{x:A}(hx:l[k]? =some x):l.drop k=x::l.drop (k+1):=by
 have hl:k<l.length:=(List.getElem?_eq_some_iff.1 hx).1;rw[List.drop_eq_getElem_cons hl];rw[List.getElem?_eq_getElem hl] at hx;rw[Option.some.inj hx]
def hasForm_.ar:List PK→Option (Asm)
 |[.val (.agg x0)]=>(Asm.d x0).bind fun y0=>some y0
 |_=>none
def hasForm_.ae(a:Asm):List PK:=[.val (.agg (Asm.c a))]
theorem hasForm_.le: ∀ps a,hasForm_.ar ps=some a→LeKL ps (hasForm_.ae a):=by
 intro ps a h;unfold hasForm_.ar at h;split at h
 ·simp only[Option.bind_eq_some_iff,Option.some.injEq] at h;obtain⟨y0,h0,rfl⟩:=h;exact⟨Qav (Asm.d_le _ _ h0),trivial⟩
 ·cases h
def hasForm_.fv(a:Asm):Bool:=(fun a=>Qaz none a.Tiles && decide (a.Tiles.length≤500)) a
def hasForm_.row:Row:=vrow hasForm_.ar (fun a=>True) (fun a=>(D.bool) (hasForm_.fv a))
def hasForm_.q(a:List AV)(h:Nat→Option Ent)(n:Nat)(K:Kont):=show hasForm_.row a h n K=Qa1 _ _ _ (nmsL a) K (pkL h a) from rfl
theorem hasForm_.ok:Qas Tryz.prog 83 hasForm_.row:=by
 refine Qaj Qaq (tC ValidPoint.ok (tC isIndex.ok (tC impl_LessPoint.ok tN))) Tryz.func83 rfl (by kernel_rfl) (by kernel_rfl) hasForm_.le (n:=1) (fun _=>rfl) (by decide) (rc:=(Qa8)) (re:=(D.bool)) (Qat) (f:=hasForm_.fv) ?_;intro a hpre;simp only[Tryz.f83,Option.getD];simp (config:={maxSteps:=10000000}) (disch:=omega) only[ZA,ZT,simprocAttr,Asm.d,rch,hasForm_.ae,hasForm_.fv,ValidPoint.q,ValidPoint.ar,ValidPoint.fv,isIndex.q,isIndex.ar,isIndex.fv,impl_LessPoint.q,impl_LessPoint.ar,impl_LessPoint.fv];intro hlen;refine Qay.old ⟨{k:Nat//k≤a.Tiles.length∧Qaz (Qdb a.Tiles k) (a.Tiles.drop k)=Qaz none a.Tiles},fun k=>⟨[(8,.im (.int .i64 k.1)),(7,.im (.int .i64 a.Tiles.length)),(6,.im (.sl false 3 (a.Tiles.map Qab.c))),(1,.ptr 0 0),(2,.im (.bool false))],[(0,(true,.cells 47 [.im (.sl false 3 (a.Tiles.map Qab.c))]))],1⟩,fun k=>a.Tiles.length - k.1,fun k=>⟨by simp[Qad.good,belT,belH,Qam,AV.bel,belL],Nat.le_refl _⟩,⟨⟨0,by simp[Qdb]⟩,by simp (config:={maxSteps:=10000000}) (disch:=omega) only[ZA,ZT,simprocAttr,Asm.d,rch,hasForm_.ae,hasForm_.fv,ValidPoint.q,ValidPoint.ar,ValidPoint.fv,isIndex.q,isIndex.ar,isIndex.fv,impl_LessPoint.q,impl_LessPoint.ar,impl_LessPoint.fv,sub]⟩,fun k=> ?_⟩;obtain⟨k,hk1,hk2⟩:=k;simp (config:={maxSteps:=10000000}) (disch:=omega) only[ZA,ZT,simprocAttr,Asm.d,rch,hasForm_.ae,hasForm_.fv,ValidPoint.q,ValidPoint.ar,ValidPoint.fv,isIndex.q,isIndex.ar,isIndex.fv,impl_LessPoint.q,impl_LessPoint.ar,impl_LessPoint.fv,sub,Qal];refine⟨fun hk=>⟨hk,fun x hx=> ?_⟩,fun hk=> ?_⟩
 ·rw[Qd3 hx,Qbq] at hk2;have hno:(Qbi x.At && (Qau x.Tile 0 159 && (match Qdb a.Tiles k with|none=>true|some p=>Qap p x.At)))=false→false=(Qaz none a.Tiles && decide (a.Tiles.length≤500)):=by
   intro h;rw[←hk2];revert h;cases Qbi x.At<;>cases Qau x.Tile 0 159<;>cases (match Qdb a.Tiles k with|none=>true|some p=>Qap p x.At)<;>simp
  have hyes:(Qbi x.At && (Qau x.Tile 0 159 && (match Qdb a.Tiles k with|none=>true|some p=>Qap p x.At)))=true→Qaz (Qdb a.Tiles (k+1)) (a.Tiles.drop (k+1))=Qaz none a.Tiles:=by
   intro h;rw[←hk2,Qn2 hx];simp only[Bool.and_eq_true] at h;simp[h.1,h.2.1,h.2.2]
  refine⟨fun h1=>⟨by simp[I64],⟨fun h2=>⟨fun h3=> ?_,fun h3=> ?_⟩,fun h2=>hno (by simp[h2])⟩⟩,fun h1=>hno (by simp[h1])⟩
  ·rw[Qak (x:=(k:Int) - 1) (by omega) (by omega)];refine⟨by omega,by omega,fun y hy=> ?_⟩;have hp:Qdb a.Tiles k=some y.At:=by
    have e:((k:Int) - 1).toNat=k - 1:=by omega
    rw[e] at hy;simp[Qdb,hy,show k≠0 by omega]
   rw[hp] at hno hyes;exact⟨fun h4=>hno (by simp[h4]),fun h4=>Qb6 hk (by omega) ⟨by omega,hyes (by simp[h1,h2];simpa using h4)⟩⟩
  ·have hp:Qdb a.Tiles k=none:=by simp[Qdb,show k=0 by omega]
   rw[hp] at hyes;exact Qb6 hk (by omega) ⟨by omega,hyes (by simp[h1,h2])⟩
 ·rw[List.drop_eq_nil_of_le (by omega),Qik] at hk2;simp only[←hk2,Bool.true_and]
  grind
def l03Form.ar:List PK→Option (Asm)
 |[.ptr x0]=>(Asm.d (x0.take 1)).bind fun y0=>some y0
 |_=>none
def l03Form.ae(a:Asm):List PK:=[.ptr (Asm.c a)]
theorem l03Form.le: ∀ps a,l03Form.ar ps=some a→LeKL ps (l03Form.ae a):=by
 intro ps a h;unfold l03Form.ar at h;split at h
 ·simp only[Option.bind_eq_some_iff,Option.some.injEq] at h;obtain⟨y0,h0,rfl⟩:=h;exact⟨LeP.trans_take (Asm.d_le _ _ h0),trivial⟩
 ·cases h
def l03Form.fv(a:Asm):Bool:=(fun a=>Qaz none a.Tiles && decide (a.Tiles.length≤500)) a
def l03Form.row:Row:=vrow l03Form.ar (fun a=>True) (fun a=>(D.bool) (l03Form.fv a))
def l03Form.q(a:List AV)(h:Nat→Option Ent)(n:Nat)(K:Kont):=show l03Form.row a h n K=Qa1 _ _ _ (nmsL a) K (pkL h a) from rfl
theorem l03Form.ok:Qas Tryz.prog 70 l03Form.row:=by
 refine Qaj Qaq (tC l01Point.ok (tC l00In.ok (tC l_LessPoint.ok tN))) Tryz.func70 rfl (by kernel_rfl) (by kernel_rfl) l03Form.le (n:=1) (fun _=>rfl) (by decide) (rc:=(Qa8)) (re:=(D.bool)) (Qat) (f:=l03Form.fv) ?_;intro a hpre;simp only[Tryz.f70,Option.getD];simp (config:={maxSteps:=10000000}) (disch:=omega) only[ZA,ZT,simprocAttr,Asm.d,rch,l03Form.ae,l03Form.fv,l01Point.q,l01Point.ar,l01Point.fv,l00In.q,l00In.ar,l00In.fv,l_LessPoint.q,l_LessPoint.ar,l_LessPoint.fv];intro hlen;simp only[Qal];refine⟨fun h=> ?_,fun h=> ?_⟩
 ·have: ¬a.Tiles.length≤500:=by omega
  simp[this]
 refine Qay.old ⟨{k:Nat//k≤a.Tiles.length∧Qaz (Qdb a.Tiles k) (a.Tiles.drop k)=Qaz none a.Tiles},fun k=>⟨[(3,.im (.int .i64 k.1)),(0,.ptr 0 0),(2,.im (.bool false))],[(0,(false,.view [.sl false 3 (a.Tiles.map Qab.c)]))],1⟩,fun k=>a.Tiles.length - k.1,fun k=>⟨by simp[Qad.good,belT,belH,Qam,AV.bel,belL],Nat.le_refl _⟩,⟨⟨0,by simp[Qdb]⟩,by simp (config:={maxSteps:=10000000}) (disch:=omega) only[ZA,ZT,simprocAttr,Asm.d,rch,l03Form.ae,l03Form.fv,l01Point.q,l01Point.ar,l01Point.fv,l00In.q,l00In.ar,l00In.fv,l_LessPoint.q,l_LessPoint.ar,l_LessPoint.fv,sub]⟩,fun k=> ?_⟩;obtain⟨k,hk1,hk2⟩:=k;simp (config:={maxSteps:=10000000}) (disch:=omega) only[ZA,ZT,simprocAttr,Asm.d,rch,l03Form.ae,l03Form.fv,l01Point.q,l01Point.ar,l01Point.fv,l00In.q,l00In.ar,l00In.fv,l_LessPoint.q,l_LessPoint.ar,l_LessPoint.fv,sub,Qal];intro _;refine⟨fun hk=>⟨hk,fun x hx=> ?_⟩,fun hk=> ?_⟩
 ·rw[Qd3 hx,Qbq] at hk2;have hno:(Qbi x.At && (Qau x.Tile 0 159 && (match Qdb a.Tiles k with|none=>true|some p=>Qap p x.At)))=false→false=(Qaz none a.Tiles && decide (a.Tiles.length≤500)):=by
   intro h;rw[←hk2];revert h;cases Qbi x.At<;>cases Qau x.Tile 0 159<;>cases (match Qdb a.Tiles k with|none=>true|some p=>Qap p x.At)<;>simp
  have hyes:(Qbi x.At && (Qau x.Tile 0 159 && (match Qdb a.Tiles k with|none=>true|some p=>Qap p x.At)))=true→Qaz (Qdb a.Tiles (k+1)) (a.Tiles.drop (k+1))=Qaz none a.Tiles:=by
   intro h;rw[←hk2,Qn2 hx];simp only[Bool.and_eq_true] at h;simp[h.1,h.2.1,h.2.2]
  refine⟨fun h1=>⟨fun h2=>⟨fun h3=> ?_,fun h3=> ?_⟩,fun h2=>hno (by simp[h2])⟩,fun h1=>hno (by simp[h1])⟩
  ·rw[Qak (x:=(k:Int) - 1) (by omega) (by omega)];refine⟨by omega,by omega,fun y hy=> ?_⟩;have hp:Qdb a.Tiles k=some y.At:=by
    have e:((k:Int) - 1).toNat=k - 1:=by omega
    rw[e] at hy;simp[Qdb,hy,show k≠0 by omega]
   rw[hp] at hno hyes;exact⟨fun h4=>hno (by simp[h4]),fun h4=>Qb6 hk (by omega) ⟨by omega,hyes (by simp[h1,h2];simpa using h4)⟩⟩
  ·have hp:Qdb a.Tiles k=none:=by simp[Qdb,show k=0 by omega]
   rw[hp] at hyes;exact Qb6 hk (by omega) ⟨by omega,hyes (by simp[h1,h2])⟩
 ·rw[List.drop_eq_nil_of_le (by omega),Qik] at hk2;simp only[←hk2,Bool.true_and]
  grind
end Go.Ae
namespace Go.Ae
open Go.Proofs
theorem Asm_eq(a b:Asm):a=b↔a.Tiles=b.Tiles:=by
 obtain⟨x⟩:=a;obtain⟨y⟩:=b;simp
theorem Qrb(x y:Qab):(x.At.X==y.At.X && (x.At.Y==y.At.Y && x.Tile==y.Tile))=decide (x=y):=by
 obtain⟨⟨a,b⟩,c⟩:=x;obtain⟨⟨d,e⟩,f⟩:=y;rw[Bool.eq_iff_iff];simp[and_assoc]
def l03Same.ar:List PK→Option (Asm×Asm)
 |[.ptr x0,.ptr x1]=>(Asm.d (x0.take 1)).bind fun y0=>(Asm.d (x1.take 1)).bind fun y1=>some (y0,y1)
 |_=>none
def l03Same.ae(a:Asm×Asm):List PK:=[.ptr (Asm.c a.1),.ptr (Asm.c a.2)]
theorem l03Same.le: ∀ps a,l03Same.ar ps=some a→LeKL ps (l03Same.ae a):=by
 intro ps a h;unfold l03Same.ar at h;split at h
 ·simp only[Option.bind_eq_some_iff,Option.some.injEq] at h;obtain⟨y0,h0,y1,h1,rfl⟩:=h;exact⟨LeP.trans_take (Asm.d_le _ _ h0),LeP.trans_take (Asm.d_le _ _ h1),trivial⟩
 ·cases h
def l03Same.fv(a:Asm×Asm):Bool:=(fun a b=>decide (a=b)) (a.1) (a.2)
def l03Same.row:Row:=vrow l03Same.ar (fun a=>True) (fun a=>(D.bool) (l03Same.fv a))
def l03Same.q(a:List AV)(h:Nat→Option Ent)(n:Nat)(K:Kont):=show l03Same.row a h n K=Qa1 _ _ _ (nmsL a) K (pkL h a) from rfl
theorem l03Same.ok:Qas Tryz.prog 45 l03Same.row:=by
 refine Qaj Qaq tN Tryz.func45 rfl (by kernel_rfl) (by kernel_rfl) l03Same.le (n:=2) (fun _=>rfl) (by decide) (rc:=(Qa8)) (re:=(D.bool)) (Qat) (f:=l03Same.fv) ?_;intro a hpre;simp only[Tryz.f45,Option.getD];simp (config:={maxSteps:=10000000}) (disch:=omega) only[ZA,ZT,simprocAttr,Asm.d,rch,l03Same.ae,l03Same.fv];simp only[Qal];refine⟨fun hl=> ?_,fun hl=> ?_⟩
 ·have:a.1≠a.2:=fun h=>hl (by rw[h])
  simp[this]
 have hl:a.1.Tiles.length=a.2.Tiles.length:=by omega
 refine Qay.old ⟨{k:Nat//k≤a.1.Tiles.length∧a.1.Tiles.take k=a.2.Tiles.take k},fun k=>⟨[(5,.im (.int .i64 k.1)),(4,.im (.bool false)),(0,.ptr 0 0),(1,.ptr 1 0)],[(0,(false,.view [.sl false 3 (a.1.Tiles.map Qab.c)])),(1,(false,.view [.sl false 3 (a.2.Tiles.map Qab.c)]))],2⟩,fun k=>a.1.Tiles.length - k.1,fun k=>⟨by simp[Qad.good,belT,belH,Qam,AV.bel,belL],Nat.le_refl _⟩,⟨⟨0,by simp⟩,by simp (config:={maxSteps:=10000000}) (disch:=omega) only[ZA,ZT,simprocAttr,Asm.d,rch,l03Same.ae,l03Same.fv,sub]⟩,fun k=> ?_⟩;obtain⟨k,hk1,hk2⟩:=k;simp (config:={maxSteps:=10000000}) (disch:=omega) only[ZA,ZT,simprocAttr,Asm.d,rch,l03Same.ae,l03Same.fv,sub,Qal];intro h1;refine⟨fun hk=>⟨hk,fun x hx=>⟨by omega,fun y hy=> ?_⟩⟩,fun hk=> ?_⟩
 ·obtain⟨g1,g2⟩:=Qew hl hk1 hk2 hx hy;simp (config:={maxSteps:=10000000}) (disch:=omega) only[ZA,ZT,simprocAttr,Asm.d,rch,l03Same.ae,l03Same.fv,sub,Qrb];refine⟨fun h=> ?_,fun h=>Qb6 hk h1 ⟨by omega,g1 (by simpa using h)⟩⟩
  have:=g2 (by simpa using h)
  simp[Asm_eq,this]
 ·rw[List.take_of_length_le (by omega),List.take_of_length_le (by omega)] at hk2;simp[Asm_eq,hk2]
def EqualP.ar:List PK→Option ((List Qab)×(List Qab))
 |[.val (.sl _ _ x0),.val (.sl _ _ x1)]=>(decR Qab.d x0).bind fun y0=>(decR Qab.d x1).bind fun y1=>some (y0,y1)
 |_=>none
def EqualP.ae(a:(List Qab)×(List Qab)):List PK:=[.val (.sl false 3 (a.1.map Qab.c)),.val (.sl false 3 (a.2.map Qab.c))]
theorem EqualP.le: ∀ps a,EqualP.ar ps=some a→LeKL ps (EqualP.ae a):=by
 intro ps a h;unfold EqualP.ar at h;split at h
 ·simp only[Option.bind_eq_some_iff,Option.some.injEq] at h;obtain⟨y0,h0,y1,h1,rfl⟩:=h;exact⟨Qbf (Qa2 Qab.d_le _ _ h0) (by simp only[List.mem_map];rintro r ⟨y,_,rfl⟩;rfl),Qbf (Qa2 Qab.d_le _ _ h1) (by simp only[List.mem_map];rintro r ⟨y,_,rfl⟩;rfl),trivial⟩
 ·cases h
def EqualP.fv(a:(List Qab)×(List Qab)):Bool:=(fun a b=>decide (a=b)) (a.1) (a.2)
def EqualP.row:Row:=vrow EqualP.ar (fun a=>True) (fun a=>(D.bool) (EqualP.fv a))
def EqualP.q(a:List AV)(h:Nat→Option Ent)(n:Nat)(K:Kont):=show EqualP.row a h n K=Qa1 _ _ _ (nmsL a) K (pkL h a) from rfl
theorem EqualP.ok:Qas Tryz.prog 92 EqualP.row:=by
 refine Qaj Qaq tN Tryz.func92 rfl (by kernel_rfl) (by kernel_rfl) EqualP.le (n:=2) (fun _=>rfl) (by decide) (rc:=(Qa8)) (re:=(D.bool)) (Qat) (f:=EqualP.fv) ?_;intro a hpre;simp only[Tryz.f92,Option.getD];simp (config:={maxSteps:=10000000}) (disch:=omega) only[ZA,ZT,simprocAttr,Asm.d,rch,EqualP.ae,EqualP.fv];intro h1 h2;simp only[Qal];refine⟨fun hl=> ?_,fun hl=> ?_⟩
 ·have:a.1≠a.2:=fun h=>hl (by rw[h])
  simp[this]
 have hl:a.1.length=a.2.length:=by omega
 intro _;refine Qay.old ⟨{k:Nat//k≤a.1.length∧a.1.take k=a.2.take k},fun k=>⟨[(13,.im (.int .i64 k.1)),(12,.im (.int .i64 a.1.length)),(11,.im (.sl false 3 (a.1.map Qab.c))),(4,.im (.bool false)),(0,.im (.sl false 3 (a.1.map Qab.c))),(1,.im (.sl false 3 (a.2.map Qab.c)))],[],0⟩,fun k=>a.1.length - k.1,fun k=>⟨by simp[Qad.good,belT,belH,Qam,AV.bel,belL],Nat.le_refl _⟩,⟨⟨0,by simp⟩,by simp (config:={maxSteps:=10000000}) (disch:=omega) only[ZA,ZT,simprocAttr,Asm.d,rch,EqualP.ae,EqualP.fv,sub]⟩,fun k=> ?_⟩;obtain⟨k,hk1,hk2⟩:=k;simp (config:={maxSteps:=10000000}) (disch:=omega) only[ZA,ZT,simprocAttr,Asm.d,rch,EqualP.ae,EqualP.fv,sub,Qal,Qrb];refine⟨fun hk=>⟨hk,fun x hx=>⟨by omega,fun y hy=> ?_⟩⟩,fun hk=> ?_⟩
 ·obtain⟨g1,g2⟩:=Qew hl hk1 hk2 hx hy;refine⟨fun h=> ?_,fun h=>Qb6 hk h1 ⟨by omega,g1 (by simpa using h)⟩⟩
  have:=g2 (by simpa using h)
  simp[this]
 ·rw[List.take_of_length_le (by omega),List.take_of_length_le (by omega)] at hk2;simp[hk2]
def Qaw{A:Type}(p:A→Bool):Nat→List A→Int
 |_,[]=> -1
 |i,x::r=>if p x=true then i else Qaw p (i+1) r
def l02Glue.ar:List PK→Option (Qaa×ByteArray)
 |[.ptr x0,.val (.str x1)]=>(Qaa.d (x0.take 2)).bind fun y0=>some (y0,x1)
 |_=>none
def l02Glue.ae(a:Qaa×ByteArray):List PK:=[.ptr (Qaa.c a.1),.val (.str a.2)]
theorem l02Glue.le: ∀ps a,l02Glue.ar ps=some a→LeKL ps (l02Glue.ae a):=by
 intro ps a h;unfold l02Glue.ar at h;split at h
 ·simp only[Option.bind_eq_some_iff,Option.some.injEq] at h;obtain⟨y0,h0,rfl⟩:=h;exact⟨LeP.trans_take (Qaa.d_le _ _ h0),LeK.refl _,trivial⟩
 ·cases h
def l02Glue.fv(a:Qaa×ByteArray):Int:=(fun s n=>Qaw (fun g=>decide (g.Name=n)) 0 s.Glues+1) (a.1) (a.2)
def l02Glue.row:Row:=vrow l02Glue.ar (fun a=>True) (fun a=>(D.int .i64) (l02Glue.fv a))
def l02Glue.q(a:List AV)(h:Nat→Option Ent)(n:Nat)(K:Kont):=show l02Glue.row a h n K=Qa1 _ _ _ (nmsL a) K (pkL h a) from rfl
theorem l02Glue.ok:Qas Tryz.prog 128 l02Glue.row:=by
 refine Qaj Qaq tN Tryz.func128 rfl (by kernel_rfl) (by kernel_rfl) l02Glue.le (n:=2) (fun _=>rfl) (by decide) (rc:=(vInt)) (re:=(D.int .i64)) (Qa3) (f:=l02Glue.fv) ?_;intro a hpre;simp only[Tryz.f128,Option.getD];simp (config:={maxSteps:=10000000}) (disch:=omega) only[ZA,ZT,simprocAttr,Asm.d,rch,l02Glue.ae,l02Glue.fv];refine Qay.old ⟨{k:Nat//k≤a.1.Glues.length∧Qaw (fun g:Glue=>decide (g.Name=a.2)) k (a.1.Glues.drop k)=Qaw (fun g:Glue=>decide (g.Name=a.2)) 0 a.1.Glues},fun k=>⟨[(5,.im (.int .i64 k.1)),(4,.im (.int .i64 0)),(0,.ptr 0 0),(1,.im (.str a.2))],[(0,(false,.view [.sl false 2 (a.1.Glues.map Glue.c),.sl false 2 (a.1.Tiles.map Tile.c)]))],1⟩,fun k=>a.1.Glues.length - k.1,fun k=>⟨by simp[Qad.good,belT,belH,Qam,AV.bel,belL],Nat.le_refl _⟩,⟨⟨0,by simp⟩,by simp (config:={maxSteps:=10000000}) (disch:=omega) only[ZA,ZT,simprocAttr,Asm.d,rch,l02Glue.ae,l02Glue.fv,sub]⟩,fun k=> ?_⟩;obtain⟨k,hk1,hk2⟩:=k;simp (config:={maxSteps:=10000000}) (disch:=omega) only[ZA,ZT,simprocAttr,Asm.d,rch,l02Glue.ae,l02Glue.fv,sub,Qal];intro hn;refine⟨fun hk=>⟨hk,fun x hx=> ?_⟩,fun hk=> ?_⟩
 ·rw[Qd3 hx,Qaw] at hk2;refine⟨fun h=> ?_,fun h=>Qb6 hk hn ⟨by omega,by rw[←hk2,if_neg (by simpa using h)]⟩⟩;rw[if_pos (by simpa using h)] at hk2;rw[←hk2,Qak (by omega) (by omega)]
 ·rw[List.drop_eq_nil_of_le (by omega),Qaw] at hk2;omega
def VA1.ar:List PK→Option (Qab×Qaa)
 |[.val (.agg x0),.ptr x1]=>(Qab.d x0).bind fun y0=>(Qaa.d (x1.take 2)).bind fun y1=>some (y0,y1)
 |_=>none
def VA1.ae(a:Qab×Qaa):List PK:=[.val (.agg (Qab.c a.1)),.ptr (Qaa.c a.2)]
theorem VA1.le: ∀ps a,VA1.ar ps=some a→LeKL ps (VA1.ae a):=by
 intro ps a h;unfold VA1.ar at h;split at h
 ·simp only[Option.bind_eq_some_iff,Option.some.injEq] at h;obtain⟨y0,h0,y1,h1,rfl⟩:=h;exact⟨Qav (Qab.d_le _ _ h0),LeP.trans_take (Qaa.d_le _ _ h1),trivial⟩
 ·cases h
def VA1.fv(a:Qab×Qaa):Bool:=(fun x s=> !Qau x.Tile 0 (s.Tiles.length - 1)) (a.1) (a.2)
def VA1.row:Row:=vrow VA1.ar (fun a=>True) (fun a=>(D.bool) (VA1.fv a))
def VA1.q(a:List AV)(h:Nat→Option Ent)(n:Nat)(K:Kont):=show VA1.row a h n K=Qa1 _ _ _ (nmsL a) K (pkL h a) from rfl
theorem VA1.ok:Qas Tryz.prog 85 VA1.row:=by
 refine Qaj Qaq (tC isTile.ok tN) Tryz.func85 rfl (by kernel_rfl) (by kernel_rfl) VA1.le (n:=2) (fun _=>rfl) (by decide) (rc:=(Qa8)) (re:=(D.bool)) (Qat) (f:=VA1.fv) ?_;intro a hpre;simp only[Tryz.f85,Option.getD];simp (config:={maxSteps:=10000000}) (disch:=omega) only[ZA,ZT,simprocAttr,Asm.d,rch,VA1.ae,VA1.fv,isTile.q,isTile.ar,isTile.fv]
def IdxVA.ar:List PK→Option ((List Qab)×Qaa)
 |[.val (.sl _ _ x0),.val (.fn 85 [] [.ref x1_0])]=>(decR Qab.d x0).bind fun y0=>(Qaa.d (x1_0.take 2)).bind fun y1_0=>some (y0,y1_0)
 |_=>none
def IdxVA.ae(a:(List Qab)×Qaa):List PK:=[.val (.sl false 3 (a.1.map Qab.c)),.val (.fn 85 [] [.ref (Qaa.c a.2)])]
theorem IdxVA.le: ∀ps a,IdxVA.ar ps=some a→LeKL ps (IdxVA.ae a):=by
 intro ps a h;unfold IdxVA.ar at h;split at h
 ·simp only[Option.bind_eq_some_iff,Option.some.injEq] at h;obtain⟨y0,h0,y1_0,h1_0,rfl⟩:=h;exact⟨Qbf (Qa2 Qab.d_le _ _ h0) (by simp only[List.mem_map];rintro r ⟨y,_,rfl⟩;rfl),Qos ⟨Qil (LeP.trans_take (Qaa.d_le _ _ h1_0)),trivial⟩,trivial⟩
 ·cases h
def IdxVA.fv(a:(List Qab)×Qaa):Int:=(fun l s=>Qaw (fun x=> !Qau x.Tile 0 (s.Tiles.length - 1)) 0 l) (a.1) (a.2)
def IdxVA.row:Row:=vrow IdxVA.ar (fun a=>True) (fun a=>(D.int .i64) (IdxVA.fv a))
def IdxVA.q(a:List AV)(h:Nat→Option Ent)(n:Nat)(K:Kont):=show IdxVA.row a h n K=Qa1 _ _ _ (nmsL a) K (pkL h a) from rfl
theorem IdxVA.ok:Qas Tryz.prog 94 IdxVA.row:=by
 refine Qaj Qaq (tC VA1.ok tN) Tryz.func94 rfl (by kernel_rfl) (by kernel_rfl) IdxVA.le (n:=2) (fun _=>rfl) (by decide) (rc:=(vInt)) (re:=(D.int .i64)) (Qa3) (f:=IdxVA.fv) ?_;intro a hpre;simp only[Tryz.f94,Option.getD];simp (config:={maxSteps:=10000000}) (disch:=omega) only[ZA,ZT,simprocAttr,Asm.d,rch,IdxVA.ae,IdxVA.fv,VA1.q,VA1.ar,VA1.fv];intro hn;refine Qay.old ⟨{k:Nat//k≤a.1.length∧Qaw (fun x:Qab=> !Qau x.Tile 0 (a.2.Tiles.length - 1)) k (a.1.drop k)=Qaw (fun x:Qab=> !Qau x.Tile 0 (a.2.Tiles.length - 1)) 0 a.1},fun k=>⟨[(8,.im (.int .i64 k.1)),(7,.im (.int .i64 a.1.length)),(6,.im (.sl false 3 (a.1.map Qab.c))),(4,.im (.int .i64 0)),(0,.im (.sl false 3 (a.1.map Qab.c))),(1,.im (.fn 85 [] [.ref (Qaa.c a.2)]))],[],0⟩,fun k=>a.1.length - k.1,fun k=>⟨by simp[Qad.good,belT,belH,Qam,AV.bel,belL],Nat.le_refl _⟩,⟨⟨0,by simp⟩,by simp (config:={maxSteps:=10000000}) (disch:=omega) only[ZA,ZT,simprocAttr,Asm.d,rch,IdxVA.ae,IdxVA.fv,VA1.q,VA1.ar,VA1.fv,sub]⟩,fun k=> ?_⟩;obtain⟨k,hk1,hk2⟩:=k;simp (config:={maxSteps:=10000000}) (disch:=omega) only[ZA,ZT,simprocAttr,Asm.d,rch,IdxVA.ae,IdxVA.fv,VA1.q,VA1.ar,VA1.fv,sub,Qal];refine⟨fun hk=>⟨hk,fun x hx=> ?_⟩,fun hk=> ?_⟩
 ·rw[Qd3 hx,Qaw] at hk2;refine⟨fun h=> ?_,fun h=>Qb6 hk hn ⟨by omega,by rw[←hk2,if_neg (by simpa using h)]⟩⟩;rw[if_pos (by simpa using h)] at hk2;exact hk2
 ·rw[List.drop_eq_nil_of_le (by omega),Qaw] at hk2;exact hk2
theorem Qyg{A:Type}(p:A→Bool): ∀(l:List A) (i:Nat),(0≤Qaw p i l↔l.any p=true)∧ -1≤Qaw p i l∧Qaw p i l<(i+l.length:Nat)∨(l=[]∧Qaw p i l= -1):=by
 intro l;induction l with
 |nil=>intro i;exact .inr ⟨rfl,rfl⟩
 |cons x r ih=>
  intro i;refine .inl ?_;simp only[Qaw,List.any_cons,List.length_cons]
  split<;>rename_i h
  ·simp[h];omega
  ·rcases ih (i+1) with ⟨h1,h2,h3⟩|⟨rfl,h2⟩
   ·simp only[Bool.not_eq_true] at h;rw[h,Bool.false_or];exact⟨h1,h2,by omega⟩
   ·simp[h2,h];omega
theorem Qsr{A:Type}(p:A→Bool)(l:List A):decide (0≤Qaw p 0 l)=l.any p:=by
 rw[Bool.eq_iff_iff];rcases Qyg p l 0 with ⟨h1,_⟩|⟨rfl,h2⟩
 ·simpa using h1
 ·simp[h2]
def ContVA.ar:List PK→Option ((List Qab)×Qaa)
 |[.val (.sl _ _ x0),.val (.fn 85 [] [.ref x1_0])]=>(decR Qab.d x0).bind fun y0=>(Qaa.d (x1_0.take 2)).bind fun y1_0=>some (y0,y1_0)
 |_=>none
def ContVA.ae(a:(List Qab)×Qaa):List PK:=[.val (.sl false 3 (a.1.map Qab.c)),.val (.fn 85 [] [.ref (Qaa.c a.2)])]
theorem ContVA.le: ∀ps a,ContVA.ar ps=some a→LeKL ps (ContVA.ae a):=by
 intro ps a h;unfold ContVA.ar at h;split at h
 ·simp only[Option.bind_eq_some_iff,Option.some.injEq] at h;obtain⟨y0,h0,y1_0,h1_0,rfl⟩:=h;exact⟨Qbf (Qa2 Qab.d_le _ _ h0) (by simp only[List.mem_map];rintro r ⟨y,_,rfl⟩;rfl),Qos ⟨Qil (LeP.trans_take (Qaa.d_le _ _ h1_0)),trivial⟩,trivial⟩
 ·cases h
def ContVA.fv(a:(List Qab)×Qaa):Bool:=(fun l s=>l.any (fun x=> !Qau x.Tile 0 (s.Tiles.length - 1))) (a.1) (a.2)
def ContVA.row:Row:=vrow ContVA.ar (fun a=>True) (fun a=>(D.bool) (ContVA.fv a))
def ContVA.q(a:List AV)(h:Nat→Option Ent)(n:Nat)(K:Kont):=show ContVA.row a h n K=Qa1 _ _ _ (nmsL a) K (pkL h a) from rfl
theorem ContVA.ok:Qas Tryz.prog 84 ContVA.row:=by
 refine Qaj Qaq (tC IdxVA.ok tN) Tryz.func84 rfl (by kernel_rfl) (by kernel_rfl) ContVA.le (n:=2) (fun _=>rfl) (by decide) (rc:=(Qa8)) (re:=(D.bool)) (Qat) (f:=ContVA.fv) ?_;intro a hpre;simp only[Tryz.f84,Option.getD];simp (config:={maxSteps:=10000000}) (disch:=omega) only[ZA,ZT,simprocAttr,Asm.d,rch,ContVA.ae,ContVA.fv,IdxVA.q,IdxVA.ar,IdxVA.fv];exact Qsr _ _
def SameAsm.ar:List PK→Option (Asm×Asm)
 |[.val (.agg x0),.val (.agg x1)]=>(Asm.d x0).bind fun y0=>(Asm.d x1).bind fun y1=>some (y0,y1)
 |_=>none
def SameAsm.ae(a:Asm×Asm):List PK:=[.val (.agg (Asm.c a.1)),.val (.agg (Asm.c a.2))]
theorem SameAsm.le: ∀ps a,SameAsm.ar ps=some a→LeKL ps (SameAsm.ae a):=by
 intro ps a h;unfold SameAsm.ar at h;split at h
 ·simp only[Option.bind_eq_some_iff,Option.some.injEq] at h;obtain⟨y0,h0,y1,h1,rfl⟩:=h;exact⟨Qav (Asm.d_le _ _ h0),Qav (Asm.d_le _ _ h1),trivial⟩
 ·cases h
def SameAsm.fv(a:Asm×Asm):Bool:=(fun a b=>decide (a=b)) (a.1) (a.2)
def SameAsm.row:Row:=vrow SameAsm.ar (fun a=>True) (fun a=>(D.bool) (SameAsm.fv a))
def SameAsm.q(a:List AV)(h:Nat→Option Ent)(n:Nat)(K:Kont):=show SameAsm.row a h n K=Qa1 _ _ _ (nmsL a) K (pkL h a) from rfl
theorem SameAsm.ok:Qas Tryz.prog 58 SameAsm.row:=by
 refine Qaj Qaq (tC EqualP.ok tN) Tryz.func58 rfl (by kernel_rfl) (by kernel_rfl) SameAsm.le (n:=2) (fun _=>rfl) (by decide) (rc:=(Qa8)) (re:=(D.bool)) (Qat) (f:=SameAsm.fv) ?_;intro a hpre;simp only[Tryz.f58,Option.getD];simp (config:={maxSteps:=10000000}) (disch:=omega) only[ZA,ZT,simprocAttr,Asm.d,rch,SameAsm.ae,SameAsm.fv,EqualP.q,EqualP.ar,EqualP.fv];simp only[Asm_eq]
def l03Ok.ar:List PK→Option (Qaa×Asm)
 |[.ptr x0,.ptr x1]=>(Qaa.d (x0.take 2)).bind fun y0=>(Asm.d (x1.take 1)).bind fun y1=>some (y0,y1)
 |_=>none
def l03Ok.ae(a:Qaa×Asm):List PK:=[.ptr (Qaa.c a.1),.ptr (Asm.c a.2)]
theorem l03Ok.le: ∀ps a,l03Ok.ar ps=some a→LeKL ps (l03Ok.ae a):=by
 intro ps a h;unfold l03Ok.ar at h;split at h
 ·simp only[Option.bind_eq_some_iff,Option.some.injEq] at h;obtain⟨y0,h0,y1,h1,rfl⟩:=h;exact⟨LeP.trans_take (Qaa.d_le _ _ h0),LeP.trans_take (Asm.d_le _ _ h1),trivial⟩
 ·cases h
def l03Ok.fv(a:Qaa×Asm):Bool:=(fun s a=>(Qaz none a.Tiles && decide (a.Tiles.length≤500)) && a.Tiles.all (fun x=>Qau x.Tile 0 (s.Tiles.length - 1))) (a.1) (a.2)
def l03Ok.row:Row:=vrow l03Ok.ar (fun a=>True) (fun a=>(D.bool) (l03Ok.fv a))
def l03Ok.q(a:List AV)(h:Nat→Option Ent)(n:Nat)(K:Kont):=show l03Ok.row a h n K=Qa1 _ _ _ (nmsL a) K (pkL h a) from rfl
theorem l03Ok.ok:Qas Tryz.prog 37 l03Ok.row:=by
 refine Qaj Qaq (tC l03Form.ok (tC l02Index.ok tN)) Tryz.func37 rfl (by kernel_rfl) (by kernel_rfl) l03Ok.le (n:=2) (fun _=>rfl) (by decide) (rc:=(Qa8)) (re:=(D.bool)) (Qat) (f:=l03Ok.fv) ?_;intro a hpre;simp only[Tryz.f37,Option.getD];simp (config:={maxSteps:=10000000}) (disch:=omega) only[ZA,ZT,simprocAttr,Asm.d,rch,l03Ok.ae,l03Ok.fv,l03Form.q,l03Form.ar,l03Form.fv,l02Index.q,l02Index.ar,l02Index.fv];simp only[Qal];refine⟨fun h=>by simp[h],fun h=> ?_⟩;simp only[Bool.not_eq_false] at h;refine Qay.old ⟨{k:Nat//k≤a.2.Tiles.length∧(a.2.Tiles.drop k).all (fun x=>Qau x.Tile 0 (a.1.Tiles.length - 1))=a.2.Tiles.all (fun x=>Qau x.Tile 0 (a.1.Tiles.length - 1))},fun k=>⟨[(5,.im (.int .i64 k.1)),(4,.im (.bool false)),(0,.ptr 0 0),(1,.ptr 1 0)],[(0,(false,.view (Qaa.c a.1))),(1,(false,.view (Asm.c a.2)))],2⟩,fun k=>a.2.Tiles.length - k.1,fun k=>⟨by simp[Qad.good,belT,belH,Qam,AV.bel,belL],Nat.le_refl _⟩,⟨⟨0,by simp⟩,by simp (config:={maxSteps:=10000000}) (disch:=omega) only[ZA,ZT,simprocAttr,Asm.d,rch,l03Ok.ae,l03Ok.fv,l03Form.q,l03Form.ar,l03Form.fv,l02Index.q,l02Index.ar,l02Index.fv,sub]⟩,fun k=> ?_⟩;obtain⟨k,hk1,hk2⟩:=k;simp (config:={maxSteps:=10000000}) (disch:=omega) only[ZA,ZT,simprocAttr,Asm.d,rch,l03Ok.ae,l03Ok.fv,l03Form.q,l03Form.ar,l03Form.fv,l02Index.q,l02Index.ar,l02Index.fv,sub,Qal];intro hn;refine⟨fun hk=>⟨hk,fun x hx=> ?_⟩,fun hk=> ?_⟩
 ·rw[Qd3 hx,List.all_cons] at hk2;refine⟨fun h1=> ?_,fun h1=>Qb6 hk hn ⟨by omega,?_⟩⟩
  ·rw[h1] at hk2;simp only[Bool.false_and] at hk2;rw[h,←hk2];rfl
  ·simp only[Bool.not_eq_false] at h1;rw[h1,Bool.true_and] at hk2;exact hk2
 ·rw[List.drop_eq_nil_of_le (by omega)] at hk2;rw[h,←hk2];rfl
end Go.Ae
namespace Go.Ae
open Go.Proofs
theorem Qeu{a b c:Qae}(h1:Qap a b=true)(h2:Qap b c=true):Qap a c=true:=by
 simp only[Qap,Bool.or_eq_true,Bool.and_eq_true,decide_eq_true_eq] at*;omega
theorem Qku(a:Qae):Qap a a=false:=by simp[Qap]
theorem Qe4: ∀(l:List Qab) (q:Option Qae),Qaz q l=true→(∀p,q=some p→ ∀(i:Nat) (x:Qab),l[i]? =some x→Qap p x.At=true)∧
 ∀(i j:Nat) (x y:Qab),i<j→l[i]? =some x→l[j]? =some y→Qap x.At y.At=true
 |[],q,_=>⟨fun _ _ i x h=>by simp at h,fun i j x y _ h=>by simp at h⟩
 |z::r,q,h=>by
  rw[Qbq] at h;simp only[Bool.and_eq_true] at h;obtain⟨_,_,h3,h4⟩:=h;obtain⟨i1,i2⟩:=Qe4 r (some z.At) h4;refine⟨?_,?_⟩
  ·rintro p rfl i x hx;cases i with
   |zero=>
    simp only[List.getElem?_cons_zero,Option.some.injEq] at hx;subst hx;exact h3
   |succ i=>
    simp only[List.getElem?_cons_succ] at hx;exact Qeu h3 (i1 _ rfl i x hx)
  ·intro i j x y hij hx hy;cases j with
   |zero=>omega
   |succ j=>
    simp only[List.getElem?_cons_succ] at hy;cases i with
    |zero=>
     simp only[List.getElem?_cons_zero,Option.some.injEq] at hx;subst hx;exact i1 _ rfl j y hy
    |succ i=>
     simp only[List.getElem?_cons_succ] at hx;exact i2 i j x y (by omega) hx hy
theorem Qtf{A:Type}(p:A→Bool): ∀(l:List A) (o k:Nat) (x:A),l[k]? =some x→p x=true→(∀i y,i<k→l[i]? =some y→p y=false)→Qaw p o l=((o+k:Nat):Int)
 |[],o,k,x,h,_,_=>by simp at h
 |z::r,o,k,x,h,hp,hn=>by
  simp only[Qaw];cases k with
  |zero=>
   simp only[List.getElem?_cons_zero,Option.some.injEq] at h;subst h;rw[if_pos hp];rfl
  |succ k=>
   have:=hn 0 z (by omega) (by simp)
   rw[if_neg (by simp[this])];rw[Qtf p r (o+1) k x (by simpa using h) hp (fun i y hi hy=>hn (i+1) y (by omega) (by simpa using hy))];congr 1;omega
theorem Qrf{A:Type}(p:A→Bool): ∀(l:List A) (o:Nat),(∀(i:Nat) (y:A),l[i]? =some y→p y=false)→Qaw p o l= -1
 |[],o,_=>rfl
 |z::r,o,hn=>by
  simp only[Qaw]
  have:=hn 0 z (by simp)
  rw[if_neg (by simp[this])];exact Qrf p r (o+1) (fun i y hy=>hn (i+1) y (by simpa using hy))
def l03Index.ar:List PK→Option (Asm×Qae)
 |[.ptr x0,.val (.agg x1)]=>(Asm.d (x0.take 1)).bind fun y0=>(Qae.d x1).bind fun y1=>some (y0,y1)
 |_=>none
def l03Index.ae(a:Asm×Qae):List PK:=[.ptr (Asm.c a.1),.val (.agg (Qae.c a.2))]
theorem l03Index.le: ∀ps a,l03Index.ar ps=some a→LeKL ps (l03Index.ae a):=by
 intro ps a h;unfold l03Index.ar at h;split at h
 ·simp only[Option.bind_eq_some_iff,Option.some.injEq] at h;obtain⟨y0,h0,y1,h1,rfl⟩:=h;exact⟨LeP.trans_take (Asm.d_le _ _ h0),Qav (Qae.d_le _ _ h1),trivial⟩
 ·cases h
def l03Index.fv(a:Asm×Qae):Int:=(fun a p=>Qaw (fun x=>decide (x.At=p)) 0 a.Tiles) (a.1) (a.2)
def l03Index.row:Row:=vrow l03Index.ar (fun a=>Qaz none a.1.Tiles=true) (fun a=>(D.int .i64) (l03Index.fv a))
def l03Index.q(a:List AV)(h:Nat→Option Ent)(n:Nat)(K:Kont):=show l03Index.row a h n K=Qa1 _ _ _ (nmsL a) K (pkL h a) from rfl
theorem l03Index.ok:Qas Tryz.prog 40 l03Index.row:=by
 refine Qaj Qaq (tC l_LessPoint.ok tN) Tryz.func40 rfl (by kernel_rfl) (by kernel_rfl) l03Index.le (n:=2) (fun _=>rfl) (by decide) (rc:=(vInt)) (re:=(D.int .i64)) (Qa3) (f:=l03Index.fv) ?_;intro a hpre;simp only[Tryz.f40,Option.getD];simp (config:={maxSteps:=10000000}) (disch:=omega) only[ZA,ZT,simprocAttr,Asm.d,rch,l03Index.ae,l03Index.fv,l_LessPoint.q,l_LessPoint.ar,l_LessPoint.fv];intro hn;refine Qay.old ⟨{p:Nat×Nat//p.1≤p.2∧p.2≤a.1.Tiles.length∧(∀i x,i<p.1→a.1.Tiles[i]? =some x→Qap x.At a.2=true)∧(∀i x,p.2≤i→a.1.Tiles[i]? =some x→Qap x.At a.2=false)},fun p=>⟨[(5,.im (.int .i64 p.1.1)),(6,.im (.int .i64 p.1.2)),(4,.im (.int .i64 0)),(3,.ptr 1 0),(0,.ptr 0 0)],[(1,(true,.cells 54 [.im (.int .i64 a.2.X),.im (.int .i64 a.2.Y)])),(0,(false,.view [.sl false 3 (a.1.Tiles.map Qab.c)]))],2⟩,fun p=>p.1.2 - p.1.1,fun p=>⟨by simp[Qad.good,belT,belH,Qam,AV.bel,belL],Nat.le_refl _⟩,⟨⟨(0,a.1.Tiles.length),by simp,by simp,by simp,?_⟩,by simp (config:={maxSteps:=10000000}) (disch:=omega) only[ZA,ZT,simprocAttr,Asm.d,rch,l03Index.ae,l03Index.fv,l_LessPoint.q,l_LessPoint.ar,l_LessPoint.fv,sub]⟩,fun p=> ?_⟩
 ·intro i x hi hx
  have:=(List.getElem?_eq_some_iff.1 hx).1
  simp only at hi;omega
 obtain⟨⟨lo,hi⟩,h1,h2,h3,h4⟩:=p;simp only at h1 h2 h3 h4;simp (config:={maxSteps:=10000000}) (disch:=omega) only[ZA,ZT,simprocAttr,Asm.d,rch,l03Index.ae,l03Index.fv,l_LessPoint.q,l_LessPoint.ar,l_LessPoint.fv,sub,Qal];obtain⟨_,hsort⟩:=Qe4 _ _ hpre;have hne: ∀(i:Nat) (x:Qab),i<lo→a.1.Tiles[i]? =some x→x.At≠a.2:=by
  intro i x hi hx he
  have:=h3 i x hi hx
  rw[he,Qku] at this;cases this
 refine⟨fun hlt=> ?_,fun hlt=>⟨fun hl=>⟨hl,fun x hx=>⟨fun he=> ?_,fun he=> ?_⟩⟩,fun hl=> ?_⟩⟩
 ·have hm:IntKind.wrap .i64 ((IntKind.wrap .i64 ((lo:Int)+hi)).tdiv 2)=(((lo+hi)/2:Nat):Int):=by
   rw[Qak (x:=(lo:Int)+hi) (by omega) (by omega),Int.tdiv_eq_ediv_of_nonneg (by omega),Qak (by omega) (by omega)];omega
  rw[hm];refine⟨by omega,by omega,fun x hx=>⟨fun hb=> ?_,fun hb=> ?_⟩⟩
  ·rw[Int.toNat_natCast] at hx;refine⟨⟨((lo+hi)/2+1,hi),by simp only;omega,h2,fun i y hi' hy=> ?_,h4⟩,by simp only;omega,?_,rfl⟩
   ·simp only at hi';rcases Nat.lt_or_ge i ((lo+hi)/2) with h|h
    ·exact Qeu (hsort i _ y x h hy hx) hb
    ·have:i=(lo+hi)/2:=by omega
     subst this;rw[hx] at hy;exact Option.some.inj hy▸hb
   ·rw[Qak (by omega) (by omega)];simp only;omega
  ·rw[Int.toNat_natCast] at hx;refine⟨⟨(lo,(lo+hi)/2),by simp only;omega,by simp only;omega,h3,fun i y hi' hy=> ?_⟩,by simp only;omega,rfl,rfl⟩;simp only at hi';rcases Nat.lt_or_ge ((lo+hi)/2) i with h|h
   ·cases hl:Qap y.At a.2 with
    |false=>rfl
    |true=>exact absurd (Qeu (hsort _ i x y h hx hy) hl) hb
   ·have:i=(lo+hi)/2:=by omega
    subst this;rw[hx] at hy;obtain rfl:=Option.some.inj hy;simpa using hb
 ·have hxe:x.At=a.2:=by
   obtain⟨e1,e2⟩:=he;have e1:x.At.X=a.2.X:=by simpa using e1
   have e2:x.At.Y=a.2.Y:=by simpa using e2
   rw[←Qae.eta x.At,←Qae.eta a.2,e1,e2]
  rw[Qtf _ a.1.Tiles 0 lo x hx (by simp[hxe]) (fun i y hi hy=>by simp[hne i y hi hy])];simp
 ·refine (Qrf _ _ _ ?_).symm;intro i y hy;rcases Nat.lt_trichotomy i lo with h|h|h
  ·simp[hne i y h hy]
  ·subst h;rw[hx] at hy;obtain rfl:=Option.some.inj hy;simp only[decide_eq_false_iff_not];intro h9;exact he (by simp[h9])
  ·simp only[decide_eq_false_iff_not];intro h9;have h10:=hsort lo i x y h hx hy;rw[h9] at h10
   have:=h4 lo x (by omega) hx
   rw[this] at h10;cases h10
 ·refine (Qrf _ _ _ ?_).symm;intro i y hy
  have:=(List.getElem?_eq_some_iff.1 hy).1
  simp[hne i y (by omega) hy]
end Go.Ae
namespace Go.Ae
open Go.Proofs
def Qfz(p:Qae)(t:Int):Bool→List Qab→List Qab
 |_,[]=>[]
 |false,x::r=>if Qap p x.At=true then ⟨p,t⟩::x::Qfz p t true r else x::Qfz p t false r
 |true,x::r=>x::Qfz p t true r
def Qcx(p:Qae):List Qab→Bool
 |[]=>false
 |x::r=>if Qap p x.At=true then true else Qcx p r
def putA(a:Asm)(p:Qae)(t:Int):Asm:=⟨Qfz p t false a.Tiles++(if Qcx p a.Tiles=true then [] else [⟨p,t⟩])⟩
theorem Qpu(p:Qae)(t:Int): ∀(l:List Qab),Qfz p t true l=l
 |[]=>rfl
 |x::r=>by simp only[Qfz,Qpu p t r]
theorem Qiz(p:Qae)(t:Int)(x:Qab): ∀(l:List Qab),Qfz p t false (l++[x])=Qfz p t false l++(if Qcx p l=true then [x] else if Qap p x.At=true then [⟨p,t⟩,x] else [x])
 |[]=>by simp only[List.nil_append,Qfz,Qcx];split<;>simp[Qfz]
 |y::r=>by
  simp only[List.cons_append,Qfz,Qcx];split
  ·rw[Qpu,Qpu];simp
  ·rw[Qiz p t x r];simp
theorem Qfy(p:Qae)(x:Qab): ∀(l:List Qab),Qcx p (l++[x])=(Qcx p l||Qap p x.At)
 |[]=>by simp only[List.nil_append,Qcx];split<;>simp_all
 |y::r=>by
  simp only[List.cons_append,Qcx];split
  ·simp
  ·exact Qfy p x r
theorem Qua(p:Qae)(t:Int): ∀(l:List Qab),(Qfz p t false l).length≤l.length+1
 |[]=>by simp[Qfz]
 |y::r=>by
  simp only[Qfz];split
  ·rw[Qpu];simp
  ·have:=Qua p t r
   simp;omega
def l03Put.ar:List PK→Option (Asm×Qae×Int)
 |[.ptr x0,.val (.agg x1),.val (.int .i64 x2)]=>(Asm.d (x0.take 1)).bind fun y0=>(Qae.d x1).bind fun y1=>some (y0,y1,x2)
 |_=>none
def l03Put.ae(a:Asm×Qae×Int):List PK:=[.ptr (Asm.c a.1),.val (.agg (Qae.c a.2.1)),.val (.int .i64 a.2.2)]
theorem l03Put.le: ∀ps a,l03Put.ar ps=some a→LeKL ps (l03Put.ae a):=by
 intro ps a h;unfold l03Put.ar at h;split at h
 ·simp only[Option.bind_eq_some_iff,Option.some.injEq] at h;obtain⟨y0,h0,y1,h1,rfl⟩:=h;exact⟨LeP.trans_take (Asm.d_le _ _ h0),Qav (Qae.d_le _ _ h1),LeK.refl _,trivial⟩
 ·cases h
def l03Put.fv(a:Asm×Qae×Int):Asm:=(putA) (a.1) (a.2.1) (a.2.2)
def l03Put.row:Row:=vrow l03Put.ar (fun a=>a.1.Tiles.length≤1000000) (fun a=>(fun b=>D.agg (Asm.c b)) (l03Put.fv a))
def l03Put.q(a:List AV)(h:Nat→Option Ent)(n:Nat)(K:Kont):=show l03Put.row a h n K=Qa1 _ _ _ (nmsL a) K (pkL h a) from rfl
theorem l03Put.ok:Qas Tryz.prog 42 l03Put.row:=by
 refine Qaj Qaq (tC l_LessPoint.ok tN) Tryz.func42 rfl (by kernel_rfl) (by kernel_rfl) l03Put.le (n:=3) (fun _=>rfl) (by decide) (rc:=(vAgg Asm.d)) (re:=(fun b=>D.agg (Asm.c b))) (Qb1 Asm.d_le) (f:=l03Put.fv) ?_;intro a hpre;simp only[Tryz.f42,Option.getD];simp (config:={maxSteps:=10000000}) (disch:=omega) only[ZA,ZT,simprocAttr,Asm.d,rch,l03Put.ae,l03Put.fv,l_LessPoint.q,l_LessPoint.ar,l_LessPoint.fv];refine Qay.ren ⟨{k:Nat//k≤a.1.Tiles.length},fun k=>⟨[(9,.im (.int .i64 k.1)),(8,.im (.bool (Qcx a.2.1 (a.1.Tiles.take k.1)))),(7,.ptr 3 0),(6,.ptr 2 0),(4,.ptr 1 0),(0,.ptr 0 0),(2,.im (.int .i64 a.2.2))],[(3,(true,.cells 47 [.own 4])),(4,(true,.arr 101 3 ((Qfz a.2.1 a.2.2 false (a.1.Tiles.take k.1)).map Qab.c))),(2,(true,.cells 47 [.im (.sl true 0 [])])),(1,(true,.cells 54 [.im (.int .i64 a.2.1.X),.im (.int .i64 a.2.1.Y)])),(0,(false,.view [.sl false 3 (a.1.Tiles.map Qab.c)]))],5⟩,fun k=>a.1.Tiles.length - k.1,fun k=>⟨by simp[Qad.good,belT,belH,Qam,AV.bel,belL],by simp⟩,⟨⟨0,by simp⟩,[(4,none)],?_⟩,fun k=> ?_⟩
 ·simp only[subP];simp (config:={maxSteps:=10000000}) (disch:=omega) only[ZA,ZT,simprocAttr,Asm.d,rch,l03Put.ae,l03Put.fv,l_LessPoint.q,l_LessPoint.ar,l_LessPoint.fv,Option.some_beq_some,Option.some_beq_none,List.take_zero,Qfz,Qcx,List.map_nil]
  try simp
 obtain⟨k,hk1⟩:=k;simp (config:={maxSteps:=10000000}) (disch:=omega) only[ZA,ZT,simprocAttr,Asm.d,rch,l03Put.ae,l03Put.fv,l_LessPoint.q,l_LessPoint.ar,l_LessPoint.fv,Qal];intro _;have hlen:=Qua a.2.1 a.2.2 (a.1.Tiles.take k);have htk:(a.1.Tiles.take k).length≤k:=by simp;omega
 refine⟨fun hk=>⟨fun hd=>⟨hk,fun x hx=>⟨fun hl=> ?_,fun hl=> ?_⟩⟩,fun hd=> ?_⟩,fun hk=> ?_⟩
 ·have htk1:a.1.Tiles.take (k+1)=a.1.Tiles.take k++[x]:=by rw[List.take_add_one,hx];rfl
  refine⟨by simp[OneR,allD,D.one],by omega,hk,fun y hy=>⟨by simp[OneR,allD,D.one],by simp;omega,⟨⟨k+1,by omega⟩,[(4,some 8)],by simp only;omega,?_⟩⟩⟩;rw[hx] at hy;obtain rfl:=Option.some.inj hy;simp only[subP];simp (config:={maxSteps:=10000000}) (disch:=omega) only[ZA,ZT,simprocAttr,Asm.d,rch,l03Put.ae,l03Put.fv,l_LessPoint.q,l_LessPoint.ar,l_LessPoint.fv];refine⟨by simp,⟨?_,?_⟩,?_⟩
  ·rw[Qak (by omega) (by omega)];omega
  ·rw[htk1,Qfy,hd,hl];rfl
  ·rw[htk1,Qiz,hd,hl];simp[Qab.c]
 ·have htk1:a.1.Tiles.take (k+1)=a.1.Tiles.take k++[x]:=by rw[List.take_add_one,hx];rfl
  refine⟨hk,fun y hy=>⟨by simp[OneR,allD,D.one],by omega,⟨⟨k+1,by omega⟩,[(4,some 6)],by simp only;omega,?_⟩⟩⟩;rw[hx] at hy;obtain rfl:=Option.some.inj hy;simp only[Bool.not_eq_true] at hl;simp only[subP];simp (config:={maxSteps:=10000000}) (disch:=omega) only[ZA,ZT,simprocAttr,Asm.d,rch,l03Put.ae,l03Put.fv,l_LessPoint.q,l_LessPoint.ar,l_LessPoint.fv];refine⟨by simp,⟨?_,?_⟩,?_⟩
  ·rw[Qak (by omega) (by omega)];omega
  ·rw[htk1,Qfy,hd,hl];rfl
  ·rw[htk1,Qiz,hd,hl];simp[Qab.c]
 ·simp only[Bool.not_eq_false] at hd;refine⟨hk,fun x hx=>⟨by simp[OneR,allD,D.one],by omega,⟨⟨k+1,by omega⟩,[(4,some 6)],by simp only;omega,?_⟩⟩⟩;have htk1:a.1.Tiles.take (k+1)=a.1.Tiles.take k++[x]:=by rw[List.take_add_one,hx];rfl
  simp only[subP];simp (config:={maxSteps:=10000000}) (disch:=omega) only[ZA,ZT,simprocAttr,Asm.d,rch,l03Put.ae,l03Put.fv,l_LessPoint.q,l_LessPoint.ar,l_LessPoint.fv];refine⟨by simp,⟨?_,?_⟩,?_⟩
  ·rw[Qak (by omega) (by omega)];omega
  ·rw[htk1,Qfy,hd];rfl
  ·rw[htk1,Qiz,hd];simp[Qab.c]
 ·rw[List.take_of_length_le (by omega)] at hlen htk⊢;refine⟨fun hd=>⟨by simp[OneR,allD,D.one],by omega,?_⟩,fun hd=> ?_⟩
  ·have e:List.map Qab.c (Qfz a.2.1 a.2.2 false a.1.Tiles)++[[D.int .i64 a.2.1.X,D.int .i64 a.2.1.Y,D.int .i64 a.2.2]]=List.map Qab.c (Qfz a.2.1 a.2.2 false a.1.Tiles++[⟨a.2.1,a.2.2⟩]):=by simp[Qab.c]
   rw[e,Qab.d_R];simp[putA,hd]
  ·simp only[Bool.not_eq_false] at hd;simp[putA,hd]
end Go.Ae
namespace Go.Ae
open Go.Proofs
def atA(a:Asm)(p:Qae):Int:=((a.Tiles.find? (fun x=>decide (x.At=p))).map Qab.Tile).getD (-1)
theorem Qep{A:Type}(p:A→Bool): ∀(l:List A) (o:Nat),(l.find? p=none∧Qaw p o l= -1)∨ ∃(i:Nat) (x:A),l.find? p=some x∧Qaw p o l=((o+i:Nat):Int)∧l[i]? =some x
 |[],o=> .inl ⟨rfl,rfl⟩
 |z::r,o=>by
  simp only[Qaw,List.find?_cons];cases h:p z
  ·rcases Qep p r (o+1) with ⟨h1,h2⟩|⟨i,x,h1,h2,h3⟩
   ·exact .inl ⟨by simpa using h1,by simpa using h2⟩
   ·exact .inr ⟨i+1,x,by simpa using h1,by simp[h2];omega,by simpa using h3⟩
  ·exact .inr ⟨0,z,rfl,by simp,by simp⟩
def l03At.ar:List PK→Option (Asm×Qae)
 |[.ptr x0,.val (.agg x1)]=>(Asm.d (x0.take 1)).bind fun y0=>(Qae.d x1).bind fun y1=>some (y0,y1)
 |_=>none
def l03At.ae(a:Asm×Qae):List PK:=[.ptr (Asm.c a.1),.val (.agg (Qae.c a.2))]
theorem l03At.le: ∀ps a,l03At.ar ps=some a→LeKL ps (l03At.ae a):=by
 intro ps a h;unfold l03At.ar at h;split at h
 ·simp only[Option.bind_eq_some_iff,Option.some.injEq] at h;obtain⟨y0,h0,y1,h1,rfl⟩:=h;exact⟨LeP.trans_take (Asm.d_le _ _ h0),Qav (Qae.d_le _ _ h1),trivial⟩
 ·cases h
def l03At.fv(a:Asm×Qae):Int:=(atA) (a.1) (a.2)
def l03At.row:Row:=vrow l03At.ar (fun a=>Qaz none a.1.Tiles=true) (fun a=>(D.int .i64) (l03At.fv a))
def l03At.q(a:List AV)(h:Nat→Option Ent)(n:Nat)(K:Kont):=show l03At.row a h n K=Qa1 _ _ _ (nmsL a) K (pkL h a) from rfl
theorem l03At.ok:Qas Tryz.prog 44 l03At.row:=by
 refine Qaj Qaq (tC l03Index.ok tN) Tryz.func44 rfl (by kernel_rfl) (by kernel_rfl) l03At.le (n:=2) (fun _=>rfl) (by decide) (rc:=(vInt)) (re:=(D.int .i64)) (Qa3) (f:=l03At.fv) ?_;intro a hpre;simp only[Tryz.f44,Option.getD];simp (config:={maxSteps:=10000000}) (disch:=omega) only[ZA,ZT,simprocAttr,Asm.d,rch,l03At.ae,l03At.fv,l03Index.q,l03Index.ar,l03Index.fv];refine⟨hpre,?_⟩;rcases Qep (fun x=>decide (x.At=a.2)) a.1.Tiles 0 with ⟨h1,h2⟩|⟨i,x,h1,h2,h3⟩
 ·rw[h2,if_pos (by omega)];simp[atA,h1]
 ·have hi:=(List.getElem?_eq_some_iff.1 h3).1;rw[h2,if_neg (by omega)];refine⟨by omega,by omega,fun y hy=> ?_⟩
  have:((0+i:Nat):Int).toNat=i:=by omega
  rw[this,h3] at hy;obtain rfl:=Option.some.inj hy;simp[atA,h1]
def l02Tile.ar:List PK→Option (Qaa×ByteArray)
 |[.ptr x0,.val (.str x1)]=>(Qaa.d (x0.take 2)).bind fun y0=>some (y0,x1)
 |_=>none
def l02Tile.ae(a:Qaa×ByteArray):List PK:=[.ptr (Qaa.c a.1),.val (.str a.2)]
theorem l02Tile.le: ∀ps a,l02Tile.ar ps=some a→LeKL ps (l02Tile.ae a):=by
 intro ps a h;unfold l02Tile.ar at h;split at h
 ·simp only[Option.bind_eq_some_iff,Option.some.injEq] at h;obtain⟨y0,h0,rfl⟩:=h;exact⟨LeP.trans_take (Qaa.d_le _ _ h0),LeK.refl _,trivial⟩
 ·cases h
def l02Tile.fv(a:Qaa×ByteArray):Int:=(fun s n=>Qaw (fun g=>decide (g.Name=n)) 0 s.Tiles) (a.1) (a.2)
def l02Tile.row:Row:=vrow l02Tile.ar (fun a=>True) (fun a=>(D.int .i64) (l02Tile.fv a))
def l02Tile.q(a:List AV)(h:Nat→Option Ent)(n:Nat)(K:Kont):=show l02Tile.row a h n K=Qa1 _ _ _ (nmsL a) K (pkL h a) from rfl
theorem l02Tile.ok:Qas Tryz.prog 129 l02Tile.row:=by
 refine Qaj Qaq tN Tryz.func129 rfl (by kernel_rfl) (by kernel_rfl) l02Tile.le (n:=2) (fun _=>rfl) (by decide) (rc:=(vInt)) (re:=(D.int .i64)) (Qa3) (f:=l02Tile.fv) ?_;intro a hpre;simp only[Tryz.f129,Option.getD];simp (config:={maxSteps:=10000000}) (disch:=omega) only[ZA,ZT,simprocAttr,Asm.d,rch,l02Tile.ae,l02Tile.fv];refine Qay.old ⟨{k:Nat//k≤a.1.Tiles.length∧Qaw (fun g:Tile=>decide (g.Name=a.2)) k (a.1.Tiles.drop k)=Qaw (fun g:Tile=>decide (g.Name=a.2)) 0 a.1.Tiles},fun k=>⟨[(5,.im (.int .i64 k.1)),(4,.im (.int .i64 0)),(0,.ptr 0 0),(1,.im (.str a.2))],[(0,(false,.view (Qaa.c a.1)))],1⟩,fun k=>a.1.Tiles.length - k.1,fun k=>⟨by simp[Qad.good,belT,belH,Qam,AV.bel,belL],Nat.le_refl _⟩,⟨⟨0,by simp⟩,by simp (config:={maxSteps:=10000000}) (disch:=omega) only[ZA,ZT,simprocAttr,Asm.d,rch,l02Tile.ae,l02Tile.fv,sub]⟩,fun k=> ?_⟩;obtain⟨k,hk1,hk2⟩:=k;simp (config:={maxSteps:=10000000}) (disch:=omega) only[ZA,ZT,simprocAttr,Asm.d,rch,l02Tile.ae,l02Tile.fv,sub,Qal];intro hn;refine⟨fun hk=>⟨hk,fun x hx=> ?_⟩,fun hk=> ?_⟩
 ·rw[Qd3 hx,Qaw] at hk2;refine⟨fun h=> ?_,fun h=>Qb6 hk hn ⟨by omega,by rw[←hk2,if_neg (by simpa using h)]⟩⟩;rw[if_pos (by simpa using h)] at hk2;exact hk2
 ·rw[List.drop_eq_nil_of_le (by omega),Qaw] at hk2;omega
def attA(a:Asm)(o:Opt):Asm×Int:=if 500≤a.Tiles.length then (⟨[]⟩,4) else (putA a o.At o.Tile,0)
def l08Attach.ar:List PK→Option (Asm×Opt)
 |[.ptr x0,.val (.agg x1)]=>(Asm.d (x0.take 1)).bind fun y0=>(Opt.d x1).bind fun y1=>some (y0,y1)
 |_=>none
def l08Attach.ae(a:Asm×Opt):List PK:=[.ptr (Asm.c a.1),.val (.agg (Opt.c a.2))]
theorem l08Attach.le: ∀ps a,l08Attach.ar ps=some a→LeKL ps (l08Attach.ae a):=by
 intro ps a h;unfold l08Attach.ar at h;split at h
 ·simp only[Option.bind_eq_some_iff,Option.some.injEq] at h;obtain⟨y0,h0,y1,h1,rfl⟩:=h;exact⟨LeP.trans_take (Asm.d_le _ _ h0),Qav (Opt.d_le _ _ h1),trivial⟩
 ·cases h
def l08Attach.fv(a:Asm×Opt):Asm×Int:=(attA) (a.1) (a.2)
def l08Attach.row:Row:=vrow l08Attach.ar (fun a=>True) (fun a=>(fun b=>D.tup [(fun b=>D.agg (Asm.c b)) (b.1),(D.int .i64) (b.2)]) (l08Attach.fv a))
def l08Attach.q(a:List AV)(h:Nat→Option Ent)(n:Nat)(K:Kont):=show l08Attach.row a h n K=Qa1 _ _ _ (nmsL a) K (pkL h a) from rfl
theorem l08Attach.ok:Qas Tryz.prog 18 l08Attach.row:=by
 refine Qaj Qaq (tC l03Put.ok tN) Tryz.func18 rfl (by kernel_rfl) (by kernel_rfl) l08Attach.le (n:=2) (fun _=>rfl) (by decide) (rc:=(Qfa (vAgg Asm.d) (vInt))) (re:=(fun b=>D.tup [(fun b=>D.agg (Asm.c b)) (b.1),(D.int .i64) (b.2)])) (Qbz (Qb1 Asm.d_le) (Qa3)) (f:=l08Attach.fv) ?_;intro a hpre;simp only[Tryz.f18,Option.getD];simp (config:={maxSteps:=10000000}) (disch:=omega) only[ZA,ZT,simprocAttr,Asm.d,rch,l08Attach.ae,l08Attach.fv,l03Put.q,l03Put.ar,l03Put.fv];intro _;simp only[Qal];refine⟨fun h=> ?_,fun h=>⟨by omega,?_⟩⟩
 ·simp only[attA];rw[if_pos (by omega)]
 ·simp only[attA];rw[if_neg (by omega)]
def Qabx(s:Qaa)(a:Asm)(p:Qae)(t:Int)(d:Int):Int:=if 0≤atA a (Qf7 p d) then Qfn s t d (atA a (Qf7 p d)) else 0
def Qjm(s:Qaa)(a:Asm)(p:Qae)(t:Int):Nat→Int
 |0=>0
 |k+1=>Qjm s a p t k+Qabx s a p t k
def Qn7(s:Qaa)(a:Asm):Prop:=Qaz none a.Tiles=true∧ ∀x∈a.Tiles,Qcs s x.Tile
theorem atA_in{s:Qaa}{a:Asm}(h:Qn7 s a)(p:Qae)(h0:0≤atA a p):Qcs s (atA a p):=by
 simp only[atA] at h0⊢;cases hf:a.Tiles.find? (fun x=>decide (x.At=p)) with
 |none=>rw[hf] at h0;simp at h0
 |some x=>exact h.2 x (List.mem_of_find?_eq_some hf)
theorem Qp1{s:Qaa}(h:setP s)(g:Int):0≤Qe1 s g∧Qe1 s g≤4:=by
 simp only[Qe1];split
 ·cases hx:s.Glues[(g - 1).toNat]? with
  |none=>simp
  |some x=>have:=h.2.2 x (List.mem_of_getElem? hx);simp;omega
 ·omega
theorem termA_b{s:Qaa}(h:setP s)(a:Asm)(p:Qae)(t d:Int):0≤Qabx s a p t d∧Qabx s a p t d≤4:=by
 simp only[Qabx,Qfn];split
 ·split
  ·exact Qp1 h _
  ·omega
 ·omega
theorem bindK_b{s:Qaa}(h:setP s)(a:Asm)(p:Qae)(t:Int): ∀(k:Nat),0≤Qjm s a p t k∧Qjm s a p t k≤4*k
 |0=>by simp[Qjm]
 |k+1=>by
  have h1:=bindK_b h a p t k;have h2:=termA_b h a p t k;simp only[Qjm];omega
def l06Binding.ar:List PK→Option (Qaa×Asm×Qae×Int)
 |[.ptr x0,.ptr x1,.val (.agg x2),.val (.int .i64 x3)]=>(Qaa.d (x0.take 2)).bind fun y0=>(Asm.d (x1.take 1)).bind fun y1=>(Qae.d x2).bind fun y2=>some (y0,y1,y2,x3)
 |_=>none
def l06Binding.ae(a:Qaa×Asm×Qae×Int):List PK:=[.ptr (Qaa.c a.1),.ptr (Asm.c a.2.1),.val (.agg (Qae.c a.2.2.1)),.val (.int .i64 a.2.2.2)]
theorem l06Binding.le: ∀ps a,l06Binding.ar ps=some a→LeKL ps (l06Binding.ae a):=by
 intro ps a h;unfold l06Binding.ar at h;split at h
 ·simp only[Option.bind_eq_some_iff,Option.some.injEq] at h;obtain⟨y0,h0,y1,h1,y2,h2,rfl⟩:=h;exact⟨LeP.trans_take (Qaa.d_le _ _ h0),LeP.trans_take (Asm.d_le _ _ h1),Qav (Qae.d_le _ _ h2),LeK.refl _,trivial⟩
 ·cases h
def l06Binding.fv(a:Qaa×Asm×Qae×Int):Int:=(fun s a p t=>Qjm s a p t 4) (a.1) (a.2.1) (a.2.2.1) (a.2.2.2)
def l06Binding.row:Row:=vrow l06Binding.ar (fun a=>setP a.1∧Qn7 a.1 a.2.1∧Qdy a.2.2.1∧Qcs a.1 a.2.2.2) (fun a=>(D.int .i64) (l06Binding.fv a))
def l06Binding.q(a:List AV)(h:Nat→Option Ent)(n:Nat)(K:Kont):=show l06Binding.row a h n K=Qa1 _ _ _ (nmsL a) K (pkL h a) from rfl
theorem l06Binding.ok:Qas Tryz.prog 41 l06Binding.row:=by
 refine Qaj Qaq (tC l03At.ok (tC l01Step.ok (tC l02Bond.ok tN))) Tryz.func41 rfl (by kernel_rfl) (by kernel_rfl) l06Binding.le (n:=4) (fun _=>rfl) (by decide) (rc:=(vInt)) (re:=(D.int .i64)) (Qa3) (f:=l06Binding.fv) ?_;intro a hpre;simp only[Tryz.f41,Option.getD];simp (config:={maxSteps:=10000000}) (disch:=omega) only[ZA,ZT,simprocAttr,Asm.d,rch,l06Binding.ae,l06Binding.fv,l03At.q,l03At.ar,l03At.fv,l01Step.q,l01Step.ar,l01Step.fv,l02Bond.q,l02Bond.ar,l02Bond.fv];obtain⟨h1,h2,h3,h4⟩:=hpre;refine Qay.old ⟨{k:Nat//k≤4},fun k=>⟨[(10,.im (.int .i64 k.1)),(9,.im (.int .i64 (Qjm a.1 a.2.1 a.2.2.1 a.2.2.2 k.1))),(8,.im (.int .i64 0)),(6,.ptr 2 0),(0,.ptr 0 0),(1,.ptr 1 0),(3,.im (.int .i64 a.2.2.2))],[(2,(true,.cells 54 [.im (.int .i64 a.2.2.1.X),.im (.int .i64 a.2.2.1.Y)])),(0,(false,.view (Qaa.c a.1))),(1,(false,.view (Asm.c a.2.1)))],3⟩,fun k=>4 - k.1,fun k=>⟨by simp[Qad.good,belT,belH,Qam,AV.bel,belL],Nat.le_refl _⟩,⟨⟨0,by simp⟩,by simp (config:={maxSteps:=10000000}) (disch:=omega) only[ZA,ZT,simprocAttr,Asm.d,rch,l06Binding.ae,l06Binding.fv,l03At.q,l03At.ar,l03At.fv,l01Step.q,l01Step.ar,l01Step.fv,l02Bond.q,l02Bond.ar,l02Bond.fv,sub,Qjm]⟩,fun k=> ?_⟩;obtain⟨k,hk1⟩:=k;simp (config:={maxSteps:=10000000}) (disch:=omega) only[ZA,ZT,simprocAttr,Asm.d,rch,l06Binding.ae,l06Binding.fv,l03At.q,l03At.ar,l03At.fv,l01Step.q,l01Step.ar,l01Step.fv,l02Bond.q,l02Bond.ar,l02Bond.fv,sub,Qal];have hb:=bindK_b h1 a.2.1 a.2.2.1 a.2.2.2 k;have ht:=termA_b h1 a.2.1 a.2.2.1 a.2.2.2 k;refine⟨fun hk=>⟨⟨h3,by omega⟩,h2.1,fun hp=>⟨⟨h1,h4,⟨by omega,by omega⟩,atA_in h2 _ hp⟩,⟨⟨k+1,by omega⟩,by simp only;omega,?_,?_⟩⟩,fun hp=>⟨⟨k+1,by omega⟩,by simp only;omega,?_,?_⟩⟩,fun hk=> ?_⟩
 ·rw[Qak (by omega) (by omega)];simp only;omega
 ·simp only[Qjm];simp only[Qabx,if_pos hp] at ht⊢;rw[Qak (by omega) (by omega)]
 ·rw[Qak (by omega) (by omega)];simp only;omega
 ·simp only[Qjm,Qabx,if_neg hp];omega
 ·have:k=4:=by omega
  rw[this]
theorem Qkc{p:Qae}(h:Qbi p=true):Qdy p:=by
 simp only[Qbi,Qau,Bool.and_eq_true,decide_eq_true_eq] at h;simp only[Qdy];omega
theorem Qh6: ∀(l:List Qab) (q:Option Qae),Qaz q l=true→ ∀x∈l,Qbi x.At=true∧Qau x.Tile 0 159=true
 |[],_,_,x,hx=>by cases hx
 |z::r,q,h,x,hx=>by
  rw[Qbq] at h;simp only[Bool.and_eq_true] at h;rcases List.mem_cons.1 hx with rfl|hx
  ·exact⟨h.1,h.2.1⟩
  ·exact Qh6 r _ h.2.2.2 x hx
def nbA(a:Asm)(i d:Int):Int:=Qaw (fun x=>decide (x.At=Qf7 ((a.Tiles[i.toNat]?.map Qab.At).getD ⟨0,0⟩) d)) 0 a.Tiles
def l06Neighbor.ar:List PK→Option (Asm×Int×Int)
 |[.ptr x0,.val (.int .i64 x1),.val (.int .i64 x2)]=>(Asm.d (x0.take 1)).bind fun y0=>some (y0,x1,x2)
 |_=>none
def l06Neighbor.ae(a:Asm×Int×Int):List PK:=[.ptr (Asm.c a.1),.val (.int .i64 a.2.1),.val (.int .i64 a.2.2)]
theorem l06Neighbor.le: ∀ps a,l06Neighbor.ar ps=some a→LeKL ps (l06Neighbor.ae a):=by
 intro ps a h;unfold l06Neighbor.ar at h;split at h
 ·simp only[Option.bind_eq_some_iff,Option.some.injEq] at h;obtain⟨y0,h0,rfl⟩:=h;exact⟨LeP.trans_take (Asm.d_le _ _ h0),LeK.refl _,LeK.refl _,trivial⟩
 ·cases h
def l06Neighbor.fv(a:Asm×Int×Int):Int:=(nbA) (a.1) (a.2.1) (a.2.2)
def l06Neighbor.row:Row:=vrow l06Neighbor.ar (fun a=>Qaz none a.1.Tiles=true∧0≤a.2.1∧a.2.1<a.1.Tiles.length∧0≤a.2.2∧a.2.2≤3) (fun a=>(D.int .i64) (l06Neighbor.fv a))
def l06Neighbor.q(a:List AV)(h:Nat→Option Ent)(n:Nat)(K:Kont):=show l06Neighbor.row a h n K=Qa1 _ _ _ (nmsL a) K (pkL h a) from rfl
theorem l06Neighbor.ok:Qas Tryz.prog 153 l06Neighbor.row:=by
 refine Qaj Qaq (tC l01Step.ok (tC l03Index.ok tN)) Tryz.func153 rfl (by kernel_rfl) (by kernel_rfl) l06Neighbor.le (n:=3) (fun _=>rfl) (by decide) (rc:=(vInt)) (re:=(D.int .i64)) (Qa3) (f:=l06Neighbor.fv) ?_;intro a hpre;simp only[Tryz.f153,Option.getD];simp (config:={maxSteps:=10000000}) (disch:=omega) only[ZA,ZT,simprocAttr,Asm.d,rch,l06Neighbor.ae,l06Neighbor.fv,l01Step.q,l01Step.ar,l01Step.fv,l03Index.q,l03Index.ar,l03Index.fv];obtain⟨h1,h2,h3,h4,h5⟩:=hpre;refine⟨h2,h3,fun x hx=>⟨⟨Qkc (Qh6 _ _ h1 x (List.mem_of_getElem? hx)).1,h4,h5⟩,h1,?_⟩⟩;simp only[nbA];rw[hx];rfl
def l08Can.ar:List PK→Option (Qar×Asm×Opt)
 |[.ptr x0,.ptr x1,.val (.agg x2)]=>(Qar.d (x0.take 4)).bind fun y0=>(Asm.d (x1.take 1)).bind fun y1=>(Opt.d x2).bind fun y2=>some (y0,y1,y2)
 |_=>none
def l08Can.ae(a:Qar×Asm×Opt):List PK:=[.ptr (Qar.c a.1),.ptr (Asm.c a.2.1),.val (.agg (Opt.c a.2.2))]
theorem l08Can.le: ∀ps a,l08Can.ar ps=some a→LeKL ps (l08Can.ae a):=by
 intro ps a h;unfold l08Can.ar at h;split at h
 ·simp only[Option.bind_eq_some_iff,Option.some.injEq] at h;obtain⟨y0,h0,y1,h1,y2,h2,rfl⟩:=h;exact⟨LeP.trans_take (Qar.d_le _ _ h0),LeP.trans_take (Asm.d_le _ _ h1),Qav (Opt.d_le _ _ h2),trivial⟩
 ·cases h
def l08Can.fv(a:Qar×Asm×Opt):Bool:=(fun s a o=>Qbi o.At && (Qau o.Tile 0 (s.Set.Tiles.length - 1) && (decide (Qaw (fun x=>decide (x.At=o.At)) 0 a.Tiles<0) && decide (s.Temperature≤Qjm s.Set a o.At o.Tile 4)))) (a.1) (a.2.1) (a.2.2)
def l08Can.row:Row:=vrow l08Can.ar (fun a=>setP a.1.Set∧Qn7 a.1.Set a.2.1) (fun a=>(D.bool) (l08Can.fv a))
def l08Can.q(a:List AV)(h:Nat→Option Ent)(n:Nat)(K:Kont):=show l08Can.row a h n K=Qa1 _ _ _ (nmsL a) K (pkL h a) from rfl
theorem l08Can.ok:Qas Tryz.prog 17 l08Can.row:=by
 refine Qaj Qaq (tC l01Point.ok (tC l02Index.ok (tC l03Index.ok (tC l06Binding.ok tN)))) Tryz.func17 rfl (by kernel_rfl) (by kernel_rfl) l08Can.le (n:=3) (fun _=>rfl) (by decide) (rc:=(Qa8)) (re:=(D.bool)) (Qat) (f:=l08Can.fv) ?_;intro a hpre;simp only[Tryz.f17,Option.getD];simp (config:={maxSteps:=10000000}) (disch:=omega) only[ZA,ZT,simprocAttr,Asm.d,rch,l08Can.ae,l08Can.fv,l01Point.q,l01Point.ar,l01Point.fv,l02Index.q,l02Index.ar,l02Index.fv,l03Index.q,l03Index.ar,l03Index.fv,l06Binding.q,l06Binding.ar,l06Binding.fv];obtain⟨h1,h2⟩:=hpre;cases e1:Qbi a.2.2.At
 ·simp
 cases e2:Qau a.2.2.Tile 0 (a.1.Set.Tiles.length - 1)
 ·simp
 rw[if_pos rfl,if_pos rfl];refine⟨h2.1,?_⟩
 split<;>rename_i h
 ·refine⟨⟨h1,h2,Qkc e1,?_⟩,by simp[h]⟩;simp only[Qau,Bool.and_eq_true,decide_eq_true_eq] at e2;simp only[Qcs];omega
 ·simp[h]
end Go.Ae
namespace Go.Ae
open Go.Proofs
def Qb7(s:Qaa):Nat→List Glue→Bool
 |_,[]=>true
 |i,g::r=>(Qei g.Name && (Qau g.Strength 1 4 && decide (Qaw (fun x=>decide (x.Name=g.Name)) 0 s.Glues=i))) && Qb7 s (i+1) r
def Qby(s:Qaa):Nat→List Tile→Bool
 |_,[]=>true
 |i,x::r=>(Qei x.Name && (decide (x.Sides.length=4) && (decide (Qaw (fun y=>decide (y.Name=x.Name)) 0 s.Tiles=i) && x.Sides.all (fun g=>Qau g 0 s.Glues.length)))) && Qby s (i+1) r
def Qcl(s:Qaa):Bool:=(decide (s.Glues.length≤200) && Qau s.Tiles.length 1 160) && (Qb7 s 0 s.Glues && Qby s 0 s.Tiles)
def l03Within.ar:List PK→Option (Asm×Asm)
 |[.ptr x0,.ptr x1]=>(Asm.d (x0.take 1)).bind fun y0=>(Asm.d (x1.take 1)).bind fun y1=>some (y0,y1)
 |_=>none
def l03Within.ae(a:Asm×Asm):List PK:=[.ptr (Asm.c a.1),.ptr (Asm.c a.2)]
theorem l03Within.le: ∀ps a,l03Within.ar ps=some a→LeKL ps (l03Within.ae a):=by
 intro ps a h;unfold l03Within.ar at h;split at h
 ·simp only[Option.bind_eq_some_iff,Option.some.injEq] at h;obtain⟨y0,h0,y1,h1,rfl⟩:=h;exact⟨LeP.trans_take (Asm.d_le _ _ h0),LeP.trans_take (Asm.d_le _ _ h1),trivial⟩
 ·cases h
def l03Within.fv(a:Asm×Asm):Bool:=(fun a b=>a.Tiles.all (fun x=>decide (atA b x.At=x.Tile))) (a.1) (a.2)
def l03Within.row:Row:=vrow l03Within.ar (fun a=>Qaz none a.2.Tiles=true) (fun a=>(D.bool) (l03Within.fv a))
def l03Within.q(a:List AV)(h:Nat→Option Ent)(n:Nat)(K:Kont):=show l03Within.row a h n K=Qa1 _ _ _ (nmsL a) K (pkL h a) from rfl
theorem l03Within.ok:Qas Tryz.prog 46 l03Within.row:=by
 refine Qaj Qaq (tC l03At.ok tN) Tryz.func46 rfl (by kernel_rfl) (by kernel_rfl) l03Within.le (n:=2) (fun _=>rfl) (by decide) (rc:=(Qa8)) (re:=(D.bool)) (Qat) (f:=l03Within.fv) ?_;intro a hpre;simp only[Tryz.f46,Option.getD];simp (config:={maxSteps:=10000000}) (disch:=omega) only[ZA,ZT,simprocAttr,Asm.d,rch,l03Within.ae,l03Within.fv,l03At.q,l03At.ar,l03At.fv];refine Qay.old ⟨{k:Nat//k≤a.1.Tiles.length∧(a.1.Tiles.drop k).all (fun x=>decide (atA a.2 x.At=x.Tile))=a.1.Tiles.all (fun x=>decide (atA a.2 x.At=x.Tile))},fun k=>⟨[(5,.im (.int .i64 k.1)),(4,.im (.bool false)),(0,.ptr 0 0),(1,.ptr 1 0)],[(0,(false,.view (Asm.c a.1))),(1,(false,.view (Asm.c a.2)))],2⟩,fun k=>a.1.Tiles.length - k.1,fun k=>⟨by simp[Qad.good,belT,belH,Qam,AV.bel,belL],Nat.le_refl _⟩,⟨⟨0,by simp⟩,by simp (config:={maxSteps:=10000000}) (disch:=omega) only[ZA,ZT,simprocAttr,Asm.d,rch,l03Within.ae,l03Within.fv,l03At.q,l03At.ar,l03At.fv,sub]⟩,fun k=> ?_⟩;obtain⟨k,hk1,hk2⟩:=k;simp (config:={maxSteps:=10000000}) (disch:=omega) only[ZA,ZT,simprocAttr,Asm.d,rch,l03Within.ae,l03Within.fv,l03At.q,l03At.ar,l03At.fv,sub,Qal];intro hn;refine⟨fun hk=>⟨hk,fun x hx=>⟨hpre,hk,fun y hy=> ?_⟩⟩,fun hk=> ?_⟩
 ·rw[hx] at hy;obtain rfl:=Option.some.inj hy;rw[Qd3 hx,List.all_cons] at hk2;refine⟨fun h1=> ?_,fun h1=>Qb6 hk hn ⟨by omega,?_⟩⟩
  ·rw[←hk2];simp[h1]
  ·rw[←hk2];simp[Classical.not_not.1 h1]
 ·rw[List.drop_eq_nil_of_le (by omega)] at hk2;exact hk2
def l02Ok.ar:List PK→Option (Qaa)
 |[.ptr x0]=>(Qaa.d (x0.take 2)).bind fun y0=>some y0
 |_=>none
def l02Ok.ae(a:Qaa):List PK:=[.ptr (Qaa.c a)]
theorem l02Ok.le: ∀ps a,l02Ok.ar ps=some a→LeKL ps (l02Ok.ae a):=by
 intro ps a h;unfold l02Ok.ar at h;split at h
 ·simp only[Option.bind_eq_some_iff,Option.some.injEq] at h;obtain⟨y0,h0,rfl⟩:=h;exact⟨LeP.trans_take (Qaa.d_le _ _ h0),trivial⟩
 ·cases h
def l02Ok.fv(a:Qaa):Bool:=(Qcl) a
def l02Ok.row:Row:=vrow l02Ok.ar (fun a=>True) (fun a=>(D.bool) (l02Ok.fv a))
def l02Ok.q(a:List AV)(h:Nat→Option Ent)(n:Nat)(K:Kont):=show l02Ok.row a h n K=Qa1 _ _ _ (nmsL a) K (pkL h a) from rfl
theorem l02Ok.ok:Qas Tryz.prog 104 l02Ok.row:=by
 refine Qaj Qaq (tC spec_IsName.ok (tC l00In.ok (tC l02Glue.ok (tC l02Tile.ok tN)))) Tryz.func104 rfl (by kernel_rfl) (by kernel_rfl) l02Ok.le (n:=1) (fun _=>rfl) (by decide) (rc:=(Qa8)) (re:=(D.bool)) (Qat) (f:=l02Ok.fv) ?_;intro a hpre;simp only[Tryz.f104,Option.getD];simp (config:={maxSteps:=10000000}) (disch:=omega) only[ZA,ZT,simprocAttr,Asm.d,rch,l02Ok.ae,l02Ok.fv,spec_IsName.q,spec_IsName.ar,spec_IsName.fv,l00In.q,l00In.ar,l00In.fv,l02Glue.q,l02Glue.ar,l02Glue.fv,l02Tile.q,l02Tile.ar,l02Tile.fv];intro hg;simp only[Qal];refine⟨fun c1 ht=>⟨fun c2 _=>⟨fun c3=> ?_,fun c3=> ?_⟩,fun c2=> ?_⟩,fun c1=> ?_⟩
 ·have: ¬(a.Tiles.length:Int)≤160:=by omega
  simp[Qcl,Qau,this]
 ·have c0:Qcl a=(Qb7 a 0 a.Glues && Qby a 0 a.Tiles):=by
   have e1:a.Glues.length≤200:=by omega
   have e2:(1:Int)≤a.Tiles.length:=by omega
   have e3:(a.Tiles.length:Int)≤160:=by omega
   simp[Qcl,Qau,e1,e2,e3]
  refine Qay.old ⟨{k:Nat//k≤a.Glues.length∧Qb7 a k (a.Glues.drop k)=Qb7 a 0 a.Glues},fun k=>⟨[(3,.im (.int .i64 k.1)),(2,.im (.bool false)),(0,.ptr 0 0)],[(0,(false,.view (Qaa.c a)))],1⟩,fun k=>a.Glues.length - k.1,fun k=>⟨by simp[Qad.good,belT,belH,Qam,AV.bel,belL],Nat.le_refl _⟩,⟨⟨0,by simp⟩,by simp (config:={maxSteps:=10000000}) (disch:=omega) only[ZA,ZT,simprocAttr,Asm.d,rch,l02Ok.ae,l02Ok.fv,spec_IsName.q,spec_IsName.ar,spec_IsName.fv,l00In.q,l00In.ar,l00In.fv,l02Glue.q,l02Glue.ar,l02Glue.fv,l02Tile.q,l02Tile.ar,l02Tile.fv,sub]⟩,fun k=> ?_⟩;obtain⟨k,hk1,hk2⟩:=k;simp (config:={maxSteps:=10000000}) (disch:=omega) only[ZA,ZT,simprocAttr,Asm.d,rch,l02Ok.ae,l02Ok.fv,spec_IsName.q,spec_IsName.ar,spec_IsName.fv,l00In.q,l00In.ar,l00In.fv,l02Glue.q,l02Glue.ar,l02Glue.fv,l02Tile.q,l02Tile.ar,l02Tile.fv,sub,Qal];intro _;refine⟨fun hk=>⟨hk,fun x hx=> ?_⟩,fun hk=> ?_⟩
  ·rw[Qd3 hx,Qb7] at hk2;have hno:(Qei x.Name && (Qau x.Strength 1 4 && decide (Qaw (fun g:Glue=>decide (g.Name=x.Name)) 0 a.Glues=k)))=false→false=Qcl a:=by
    intro h;rw[h,Bool.false_and] at hk2;rw[c0,←hk2];rfl
   refine⟨fun h1=>⟨fun h2=>⟨fun h3=> ?_,fun h3=>Qb6 hk hg ⟨by omega,?_⟩⟩,fun h2=>hno (by simp[h2])⟩,fun h1=>hno (by simp[h1])⟩
   ·rw[Qak (by omega) (by omega)] at h3;exact hno (by simp;intro _ _;omega)
   ·rw[Classical.not_not,Qak (by omega) (by omega)] at h3;have h4:Qaw (fun g:Glue=>decide (g.Name=x.Name)) 0 a.Glues=k:=by omega
    rw[h1,h2,h4] at hk2;simpa using hk2
  ·rw[List.drop_eq_nil_of_le (by omega),Qb7] at hk2;have c9:Qcl a=Qby a 0 a.Tiles:=by rw[c0,←hk2,Bool.true_and]
   refine Qay.old ⟨{k:Nat//k≤a.Tiles.length∧Qby a k (a.Tiles.drop k)=Qby a 0 a.Tiles},fun k=>⟨[(5,.im (.int .i64 k.1)),(2,.im (.bool false)),(0,.ptr 0 0)],[(0,(false,.view (Qaa.c a)))],1⟩,fun k=>a.Tiles.length - k.1,fun k=>⟨by simp[Qad.good,belT,belH,Qam,AV.bel,belL],Nat.le_refl _⟩,⟨⟨0,by simp⟩,by simp (config:={maxSteps:=10000000}) (disch:=omega) only[ZA,ZT,simprocAttr,Asm.d,rch,l02Ok.ae,l02Ok.fv,spec_IsName.q,spec_IsName.ar,spec_IsName.fv,l00In.q,l00In.ar,l00In.fv,l02Glue.q,l02Glue.ar,l02Glue.fv,l02Tile.q,l02Tile.ar,l02Tile.fv,sub]⟩,fun k=> ?_⟩;obtain⟨k,hk1,hk2⟩:=k;simp (config:={maxSteps:=10000000}) (disch:=omega) only[ZA,ZT,simprocAttr,Asm.d,rch,l02Ok.ae,l02Ok.fv,spec_IsName.q,spec_IsName.ar,spec_IsName.fv,l00In.q,l00In.ar,l00In.fv,l02Glue.q,l02Glue.ar,l02Glue.fv,l02Tile.q,l02Tile.ar,l02Tile.fv,sub,Qal];intro _;refine⟨fun hk=>⟨hk,fun x hx=> ?_⟩,fun hk=> ?_⟩
   ·rw[Qd3 hx,Qby] at hk2;have hno:(Qei x.Name && (decide (x.Sides.length=4) && (decide (Qaw (fun y:Tile=>decide (y.Name=x.Name)) 0 a.Tiles=k) && x.Sides.all (fun g=>Qau g 0 a.Glues.length))))=false→false=Qcl a:=by
     intro h;rw[h,Bool.false_and] at hk2;rw[c9,←hk2]
    refine⟨fun h1 hs=>⟨fun h2=>⟨fun h3=>hno (by simp[h3]),fun h3=> ?_⟩,fun h2=>hno (by simp;intro _ h9;omega)⟩,fun h1=>hno (by simp[h1])⟩;rw[Classical.not_not] at h3;have h2':x.Sides.length=4:=by omega
    refine Qay.old ⟨{j:Nat//j≤4∧(x.Sides.drop j).all (fun g=>Qau g 0 a.Glues.length)=x.Sides.all (fun g=>Qau g 0 a.Glues.length)},fun j=>⟨[(7,.im (.int .i64 j.1)),(5,.im (.int .i64 k)),(6,.ptr 1 0),(2,.im (.bool false)),(0,.ptr 0 0)],[(1,(true,.cells 167 ((Tile.c x).map .im))),(0,(false,.view (Qaa.c a)))],2⟩,fun j=>4 - j.1,fun j=>⟨by simp[Qad.good,belT,belH,Qam,AV.bel,belL,Tile.c],by simp⟩,⟨⟨0,by simp⟩,by simp (config:={maxSteps:=10000000}) (disch:=omega) only[ZA,ZT,simprocAttr,Asm.d,rch,l02Ok.ae,l02Ok.fv,spec_IsName.q,spec_IsName.ar,spec_IsName.fv,l00In.q,l00In.ar,l00In.fv,l02Glue.q,l02Glue.ar,l02Glue.fv,l02Tile.q,l02Tile.ar,l02Tile.fv,sub]⟩,fun j=> ?_⟩;obtain⟨j,hj1,hj2⟩:=j;simp (config:={maxSteps:=10000000}) (disch:=omega) only[ZA,ZT,simprocAttr,Asm.d,rch,l02Ok.ae,l02Ok.fv,spec_IsName.q,spec_IsName.ar,spec_IsName.fv,l00In.q,l00In.ar,l00In.fv,l02Glue.q,l02Glue.ar,l02Glue.fv,l02Tile.q,l02Tile.ar,l02Tile.fv,sub,Qal];refine⟨fun hj=>⟨by omega,fun y hy=> ?_⟩,fun hj=>Qb6 hk ht ⟨by omega,?_⟩⟩
    ·rw[Qd3 hy,List.all_cons] at hj2;refine⟨fun h=>hno ?_,fun h=>⟨⟨j+1,by omega,?_⟩,by simp only;omega,?_⟩⟩
     ·rw[h,Bool.false_and] at hj2;rw[←hj2];simp
     ·rw[Bool.not_eq_false] at h;rw[h,Bool.true_and] at hj2;exact hj2
     ·rw[Qak (by omega) (by omega)];simp only;omega
    ·rw[List.drop_eq_nil_of_le (by omega)] at hj2;rw[←hk2,←hj2,h1,h2',h3];simp
   ·rw[List.drop_eq_nil_of_le (by omega),Qby] at hk2;rw[c9,←hk2]
 ·have: ¬(1:Int)≤a.Tiles.length:=by omega
  simp[Qcl,Qau,this]
 ·have: ¬a.Glues.length≤200:=by omega
  simp[Qcl,this]
end Go.Ae
namespace Go.Ae
open Go.Proofs
def VS1.ar:List PK→Option (Int×Qaa)
 |[.val (.int .i64 x0),.ptr x1]=>(Qaa.d (x1.take 2)).bind fun y1=>some (x0,y1)
 |_=>none
def VS1.ae(a:Int×Qaa):List PK:=[.val (.int .i64 a.1),.ptr (Qaa.c a.2)]
theorem VS1.le: ∀ps a,VS1.ar ps=some a→LeKL ps (VS1.ae a):=by
 intro ps a h;unfold VS1.ar at h;split at h
 ·simp only[Option.bind_eq_some_iff,Option.some.injEq] at h;obtain⟨y1,h1,rfl⟩:=h;exact⟨LeK.refl _,LeP.trans_take (Qaa.d_le _ _ h1),trivial⟩
 ·cases h
def VS1.fv(a:Int×Qaa):Bool:=(fun g s=> !Qau g 0 s.Glues.length) (a.1) (a.2)
def VS1.row:Row:=vrow VS1.ar (fun a=>True) (fun a=>(D.bool) (VS1.fv a))
def VS1.q(a:List AV)(h:Nat→Option Ent)(n:Nat)(K:Kont):=show VS1.row a h n K=Qa1 _ _ _ (nmsL a) K (pkL h a) from rfl
theorem VS1.ok:Qas Tryz.prog 114 VS1.row:=by
 refine Qaj Qaq (tC within_.ok tN) Tryz.func114 rfl (by kernel_rfl) (by kernel_rfl) VS1.le (n:=2) (fun _=>rfl) (by decide) (rc:=(Qa8)) (re:=(D.bool)) (Qat) (f:=VS1.fv) ?_;intro a hpre;simp only[Tryz.f114,Option.getD];simp (config:={maxSteps:=10000000}) (disch:=omega) only[ZA,ZT,simprocAttr,Asm.d,rch,VS1.ae,VS1.fv,within_.q,within_.ar,within_.fv];intro _;trivial
def IdxVS.ar:List PK→Option ((List Int)×Qaa)
 |[.val (.sl _ _ x0),.val (.fn 114 [] [.ref x1_0])]=>(decR intD x0).bind fun y0=>(Qaa.d (x1_0.take 2)).bind fun y1_0=>some (y0,y1_0)
 |_=>none
def IdxVS.ae(a:(List Int)×Qaa):List PK:=[.val (.sl false 1 (a.1.map intC)),.val (.fn 114 [] [.ref (Qaa.c a.2)])]
theorem IdxVS.le: ∀ps a,IdxVS.ar ps=some a→LeKL ps (IdxVS.ae a):=by
 intro ps a h;unfold IdxVS.ar at h;split at h
 ·simp only[Option.bind_eq_some_iff,Option.some.injEq] at h;obtain⟨y0,h0,y1_0,h1_0,rfl⟩:=h;exact⟨Qbf (Qa2 Qb3 _ _ h0) (by simp only[List.mem_map];rintro r ⟨y,_,rfl⟩;rfl),Qos ⟨Qil (LeP.trans_take (Qaa.d_le _ _ h1_0)),trivial⟩,trivial⟩
 ·cases h
def IdxVS.fv(a:(List Int)×Qaa):Int:=(fun l s=>Qaw (fun g=> !Qau g 0 s.Glues.length) 0 l) (a.1) (a.2)
def IdxVS.row:Row:=vrow IdxVS.ar (fun a=>True) (fun a=>(D.int .i64) (IdxVS.fv a))
def IdxVS.q(a:List AV)(h:Nat→Option Ent)(n:Nat)(K:Kont):=show IdxVS.row a h n K=Qa1 _ _ _ (nmsL a) K (pkL h a) from rfl
theorem IdxVS.ok:Qas Tryz.prog 112 IdxVS.row:=by
 refine Qaj Qaq (tC VS1.ok tN) Tryz.func112 rfl (by kernel_rfl) (by kernel_rfl) IdxVS.le (n:=2) (fun _=>rfl) (by decide) (rc:=(vInt)) (re:=(D.int .i64)) (Qa3) (f:=IdxVS.fv) ?_;intro a hpre;simp only[Tryz.f112,Option.getD];simp (config:={maxSteps:=10000000}) (disch:=omega) only[ZA,ZT,simprocAttr,Asm.d,rch,IdxVS.ae,IdxVS.fv,VS1.q,VS1.ar,VS1.fv];intro hn;refine Qay.old ⟨{k:Nat//k≤a.1.length∧Qaw (fun g:Int=> !Qau g 0 a.2.Glues.length) k (a.1.drop k)=Qaw (fun g:Int=> !Qau g 0 a.2.Glues.length) 0 a.1},fun k=>⟨[(8,.im (.int .i64 k.1)),(7,.im (.int .i64 a.1.length)),(6,.im (.sl false 1 (a.1.map intC))),(4,.im (.int .i64 0)),(0,.im (.sl false 1 (a.1.map intC))),(1,.im (.fn 114 [] [.ref (Qaa.c a.2)]))],[],0⟩,fun k=>a.1.length - k.1,fun k=>⟨by simp[Qad.good,belT,belH,Qam,AV.bel,belL],Nat.le_refl _⟩,⟨⟨0,by simp⟩,by simp (config:={maxSteps:=10000000}) (disch:=omega) only[ZA,ZT,simprocAttr,Asm.d,rch,IdxVS.ae,IdxVS.fv,VS1.q,VS1.ar,VS1.fv,sub]⟩,fun k=> ?_⟩;obtain⟨k,hk1,hk2⟩:=k;simp (config:={maxSteps:=10000000}) (disch:=omega) only[ZA,ZT,simprocAttr,Asm.d,rch,IdxVS.ae,IdxVS.fv,VS1.q,VS1.ar,VS1.fv,sub,Qal];refine⟨fun hk=>⟨hk,fun x hx=> ?_⟩,fun hk=> ?_⟩
 ·rw[Qd3 hx,Qaw] at hk2;refine⟨fun h=> ?_,fun h=>Qb6 hk hn ⟨by omega,by rw[←hk2,if_neg (by simpa using h)]⟩⟩;rw[if_pos (by simpa using h)] at hk2;exact hk2
 ·rw[List.drop_eq_nil_of_le (by omega),Qaw] at hk2;exact hk2
def ContVS.ar:List PK→Option ((List Int)×Qaa)
 |[.val (.sl _ _ x0),.val (.fn 114 [] [.ref x1_0])]=>(decR intD x0).bind fun y0=>(Qaa.d (x1_0.take 2)).bind fun y1_0=>some (y0,y1_0)
 |_=>none
def ContVS.ae(a:(List Int)×Qaa):List PK:=[.val (.sl false 1 (a.1.map intC)),.val (.fn 114 [] [.ref (Qaa.c a.2)])]
theorem ContVS.le: ∀ps a,ContVS.ar ps=some a→LeKL ps (ContVS.ae a):=by
 intro ps a h;unfold ContVS.ar at h;split at h
 ·simp only[Option.bind_eq_some_iff,Option.some.injEq] at h;obtain⟨y0,h0,y1_0,h1_0,rfl⟩:=h;exact⟨Qbf (Qa2 Qb3 _ _ h0) (by simp only[List.mem_map];rintro r ⟨y,_,rfl⟩;rfl),Qos ⟨Qil (LeP.trans_take (Qaa.d_le _ _ h1_0)),trivial⟩,trivial⟩
 ·cases h
def ContVS.fv(a:(List Int)×Qaa):Bool:=(fun l s=>l.any (fun g=> !Qau g 0 s.Glues.length)) (a.1) (a.2)
def ContVS.row:Row:=vrow ContVS.ar (fun a=>True) (fun a=>(D.bool) (ContVS.fv a))
def ContVS.q(a:List AV)(h:Nat→Option Ent)(n:Nat)(K:Kont):=show ContVS.row a h n K=Qa1 _ _ _ (nmsL a) K (pkL h a) from rfl
theorem ContVS.ok:Qas Tryz.prog 79 ContVS.row:=by
 refine Qaj Qaq (tC IdxVS.ok tN) Tryz.func79 rfl (by kernel_rfl) (by kernel_rfl) ContVS.le (n:=2) (fun _=>rfl) (by decide) (rc:=(Qa8)) (re:=(D.bool)) (Qat) (f:=ContVS.fv) ?_;intro a hpre;simp only[Tryz.f79,Option.getD];simp (config:={maxSteps:=10000000}) (disch:=omega) only[ZA,ZT,simprocAttr,Asm.d,rch,ContVS.ae,ContVS.fv,IdxVS.q,IdxVS.ar,IdxVS.fv];exact Qsr _ _
def Ql8(ns:List ByteArray):List (D×D):=ns.map fun n=>(.str n,.bool true)
theorem beqB(n m:ByteArray):(n==m)=decide (n=m):=by
 rw[Qpj]
theorem lk_seen(n:ByteArray): ∀(ns:List ByteArray),(n∈ns→lk (Ql8 ns) (.str n)=some (.bool true))∧(n∉ns→lk (Ql8 ns) (.str n)=none)
 |[]=>⟨fun h=>by simp at h,fun _=>rfl⟩
 |m::r=>by
  obtain⟨i1,i2⟩:=lk_seen n r;simp only[Ql8] at i1 i2;simp only[Ql8,List.map_cons,lk,D.beq,List.mem_cons,beqB];by_cases h:n=m
  ·simp[h]
  ·simp only[h,decide_false,cond_false,false_or];exact⟨i1,i2⟩
theorem Qum(n:ByteArray)(ns:List ByteArray)(Ks:D→Prop)(Kn:Prop):LkVC (Ql8 ns) (.str n) Ks Kn=((n∈ns→Ks (.bool true))∧(n∉ns→Kn)):=by
 obtain⟨i1,i2⟩:=lk_seen n ns;apply propext;unfold LkVC;constructor
 ·rintro⟨h1,h2⟩;exact⟨fun h=>h1 _ (i1 h),fun h=>h2 (i2 h)⟩
 ·rintro⟨h1,h2⟩;by_cases h:n∈ns
  ·refine⟨fun v hv=> ?_,fun hv=> ?_⟩
   ·rw[i1 h] at hv;exact Option.some.inj hv▸h1 h
   ·rw[i1 h] at hv;cases hv
  ·refine⟨fun v hv=> ?_,fun _=>h2 h⟩;rw[i2 h] at hv;cases hv
theorem Qru(n:ByteArray): ∀(ns:List ByteArray),n∉ns→upd (Ql8 ns) (.str n) (.bool true)=Ql8 (ns++[n])
 |[],_=>rfl
 |m::r,h=>by
  simp only[List.mem_cons,not_or] at h
  have:=Qru n r h.2
  simp only[Ql8] at this;simp only[Ql8,List.map_cons,upd,D.beq,beqB,h.1,decide_false,cond_false,List.cons_append,this]
theorem Qaa4{A:Type}(f:A→ByteArray)(l:List A)(k:Nat)(x:A)(hx:l[k]? =some x):Qaw (fun y=>decide (f y=f x)) 0 l=(k:Int)↔f x∉(l.take k).map f:=by
 constructor
 ·intro h hm;obtain⟨y,hy,he⟩:=List.mem_map.1 hm;obtain⟨i,hi,hyi⟩:=List.mem_iff_getElem.1 hy;have hik:i<k:=by simp at hi;omega
  have hly:l[i]? =some y:=by
   rw[←hyi,List.getElem_take];exact List.getElem?_eq_getElem _
  have hmin: ∀(l:List A) (o i:Nat) (y:A),l[i]? =some y→(decide (f y=f x))=true→Qaw (fun y=>decide (f y=f x)) o l≤((o+i:Nat):Int):=by
   intro l;induction l with
   |nil=>intro o i y h;simp at h
   |cons z r ih=>
    intro o i y h hp;simp only[Qaw];split
    ·omega
    ·rename_i hz;cases i with
     |zero=>
      simp only[List.getElem?_cons_zero,Option.some.injEq] at h;subst h;exact absurd hp hz
     |succ i=>
      have:=ih (o+1) i y (by simpa using h) hp
      omega
  have:=hmin l 0 i y hly (by simpa using he)
  omega
 ·intro h;rw[Qtf _ l 0 k x hx (by simp) ?_]
  ·simp
  ·intro i y hi hy;simp only[decide_eq_false_iff_not];intro he;apply h;rw[←he];refine List.mem_map.2 ⟨y,?_,rfl⟩;exact List.mem_of_getElem? (i:=i) (by rw[List.getElem?_take,if_pos hi];exact hy)
def Qf6(s:Qaa):Prop:=(∀g∈s.Glues,g.Name.size≤140737488355328)∧ ∀t∈s.Tiles,t.Name.size≤140737488355328
def ValidSet_.ar:List PK→Option (Qaa)
 |[.val (.agg x0)]=>(Qaa.d x0).bind fun y0=>some y0
 |_=>none
def ValidSet_.ae(a:Qaa):List PK:=[.val (.agg (Qaa.c a))]
theorem ValidSet_.le: ∀ps a,ValidSet_.ar ps=some a→LeKL ps (ValidSet_.ae a):=by
 intro ps a h;unfold ValidSet_.ar at h;split at h
 ·simp only[Option.bind_eq_some_iff,Option.some.injEq] at h;obtain⟨y0,h0,rfl⟩:=h;exact⟨Qav (Qaa.d_le _ _ h0),trivial⟩
 ·cases h
def ValidSet_.fv(a:Qaa):Bool:=(Qcl) a
def ValidSet_.row:Row:=vrow ValidSet_.ar (fun a=>Qf6 a) (fun a=>(D.bool) (ValidSet_.fv a))
def ValidSet_.q(a:List AV)(h:Nat→Option Ent)(n:Nat)(K:Kont):=show ValidSet_.row a h n K=Qa1 _ _ _ (nmsL a) K (pkL h a) from rfl
theorem ValidSet_.ok:Qas Tryz.prog 82 ValidSet_.row:=by
 refine Qaj Qaq (tC within_.ok (tC impl_IsName.ok (tC ContVS.ok tN))) Tryz.func82 rfl (by kernel_rfl) (by kernel_rfl) ValidSet_.le (n:=1) (fun _=>rfl) (by decide) (rc:=(Qa8)) (re:=(D.bool)) (Qat) (f:=ValidSet_.fv) ?_;intro a hpre;simp only[Tryz.f82,Option.getD];simp (config:={maxSteps:=10000000}) (disch:=omega) only[ZA,ZT,simprocAttr,Asm.d,rch,ValidSet_.ae,ValidSet_.fv,within_.q,within_.ar,within_.fv,impl_IsName.q,impl_IsName.ar,impl_IsName.fv,ContVS.q,ContVS.ar,ContVS.fv];obtain⟨hp1,hp2⟩:=hpre;intro hg;simp only[Qal];refine⟨fun c1 ht=>⟨fun c2=> ?_,fun c2 _=> ?_⟩,fun c1=> ?_⟩
 ·simp[Qcl,c2]
 ·rw[Bool.not_eq_false] at c2;have c0:Qcl a=(Qb7 a 0 a.Glues && Qby a 0 a.Tiles):=by
   have e1:a.Glues.length≤200:=by omega
   simp[Qcl,e1,c2]
  refine Qay.old ⟨{k:Nat//k≤a.Glues.length∧Qb7 a k (a.Glues.drop k)=Qb7 a 0 a.Glues},fun k=>⟨[(24,.im (.int .i64 k.1)),(23,.im (.int .i64 a.Glues.length)),(22,.im (.sl false 2 (a.Glues.map Glue.c))),(3,.mp 1),(1,.ptr 0 0),(2,.im (.bool false))],[(1,(true,.map ⟨false,[.str]⟩ (Ql8 ((a.Glues.take k.1).map Glue.Name)))),(0,(true,.cells 44 ((Qaa.c a).map .im)))],2⟩,fun k=>a.Glues.length - k.1,fun k=>⟨by simp[Qad.good,belT,belH,Qam,AV.bel,belL,Qaa.c],Nat.le_refl _⟩,⟨⟨0,by simp⟩,by simp (config:={maxSteps:=10000000}) (disch:=omega) only[ZA,ZT,simprocAttr,Asm.d,rch,ValidSet_.ae,ValidSet_.fv,within_.q,within_.ar,within_.fv,impl_IsName.q,impl_IsName.ar,impl_IsName.fv,ContVS.q,ContVS.ar,ContVS.fv,sub,Ql8,List.take_zero]⟩,fun k=> ?_⟩;obtain⟨k,hk1,hk2⟩:=k;simp (config:={maxSteps:=10000000}) (disch:=omega) only[ZA,ZT,simprocAttr,Asm.d,rch,ValidSet_.ae,ValidSet_.fv,within_.q,within_.ar,within_.fv,impl_IsName.q,impl_IsName.ar,impl_IsName.fv,ContVS.q,ContVS.ar,ContVS.fv,sub,Qal,Qum];refine⟨fun hk=>⟨hk,fun x hx=>⟨hp1 x (List.mem_of_getElem? hx),?_⟩⟩,fun hk _=> ?_⟩
  ·rw[Qd3 hx,Qb7] at hk2;have hu:=Qaa4 Glue.Name a.Glues k x hx;have hno:(Qei x.Name && (Qau x.Strength 1 4 && decide (Qaw (fun g:Glue=>decide (g.Name=x.Name)) 0 a.Glues=k)))=false→false=Qcl a:=by
    intro h;rw[h,Bool.false_and] at hk2;rw[c0,←hk2];rfl
   refine⟨fun h1=>⟨fun h2=>hno ?_,fun h2=>⟨fun h3=>hno (by simp[h3]),fun h3=>⟨⟨k+1,by omega,?_⟩,by simp only;omega,?_,?_⟩⟩⟩,fun h1=>hno (by simp[h1])⟩
   ·simp only[Bool.and_eq_false_iff,decide_eq_false_iff_not];exact .inr (.inr fun h9=>(hu.1 h9) h2)
   ·rw[Bool.not_eq_false] at h3;rw[h1,h3,hu.2 h2] at hk2;simpa using hk2
   ·rw[Qak (by omega) (by omega)];simp only;omega
   ·rw[Qru _ _ h2,List.take_add_one,hx];simp
  ·rw[List.drop_eq_nil_of_le (by omega),Qb7] at hk2;have c9:Qcl a=Qby a 0 a.Tiles:=by rw[c0,←hk2,Bool.true_and]
   refine Qay.frz [0] ⟨{k:Nat//k≤a.Tiles.length∧Qby a k (a.Tiles.drop k)=Qby a 0 a.Tiles},fun k=>⟨[(52,.im (.int .i64 k.1)),(51,.im (.int .i64 a.Tiles.length)),(50,.im (.sl false 2 (a.Tiles.map Tile.c))),(6,.mp 2),(1,.ptr 0 0),(2,.im (.bool false))],[(2,(true,.map ⟨false,[.str]⟩ (Ql8 ((a.Tiles.take k.1).map Tile.Name)))),(0,(false,.cells 44 ((Qaa.c a).map .im)))],3⟩,fun k=>a.Tiles.length - k.1,fun k=>⟨by simp[Qad.good,belT,belH,Qam,AV.bel,belL,Qaa.c],Nat.le_refl _⟩,⟨⟨0,by simp⟩,by simp (config:={maxSteps:=10000000}) (disch:=omega) only[ZA,ZT,simprocAttr,Asm.d,rch,ValidSet_.ae,ValidSet_.fv,within_.q,within_.ar,within_.fv,impl_IsName.q,impl_IsName.ar,impl_IsName.fv,ContVS.q,ContVS.ar,ContVS.fv,sub,Ql8,List.take_zero]⟩,fun k=> ?_⟩;obtain⟨k,hk1,hk2⟩:=k;simp (config:={maxSteps:=10000000}) (disch:=omega) only[ZA,ZT,simprocAttr,Asm.d,rch,ValidSet_.ae,ValidSet_.fv,within_.q,within_.ar,within_.fv,impl_IsName.q,impl_IsName.ar,impl_IsName.fv,ContVS.q,ContVS.ar,ContVS.fv,sub,Qal,Qum];refine⟨fun hk=>⟨hk,fun x hx=>⟨hp2 x (List.mem_of_getElem? hx),?_⟩⟩,fun hk=> ?_⟩
   ·rw[Qd3 hx,Qby] at hk2;have hu:=Qaa4 Tile.Name a.Tiles k x hx;have hno:(Qei x.Name && (decide (x.Sides.length=4) && (decide (Qaw (fun y:Tile=>decide (y.Name=x.Name)) 0 a.Tiles=k) && x.Sides.all (fun g=>Qau g 0 a.Glues.length))))=false→false=Qcl a:=by
     intro h;rw[h,Bool.false_and] at hk2;rw[c9,←hk2]
    have hany:(x.Sides.any fun g=> !Qau g 0 a.Glues.length)= !x.Sides.all (fun g=>Qau g 0 a.Glues.length):=by
     simp[List.not_all_eq_any_not]
    rw[hany];refine⟨fun h1=>⟨fun h2=>hno ?_,fun h2 _=>⟨fun h3=>hno ?_,fun h3=>⟨fun h4=>hno ?_,fun h4=>⟨⟨k+1,by omega,?_⟩,by simp only;omega,?_,?_⟩⟩⟩⟩,fun h1=>hno (by simp[h1])⟩
    ·simp only[Bool.and_eq_false_iff,decide_eq_false_iff_not];exact .inr (.inr (.inl fun h9=>(hu.1 h9) h2))
    ·have: ¬x.Sides.length=4:=by omega
     simp[this]
    ·simp only[Bool.not_eq_true'] at h4;simp only[h4,Bool.and_false]
    ·have h5:x.Sides.length=4:=by omega
     simp only[Bool.not_eq_true',Bool.not_eq_false] at h4;rw[h1,h5,hu.2 h2,h4] at hk2;simpa using hk2
    ·rw[Qak (by omega) (by omega)];simp only;omega
    ·rw[Qru _ _ h2,List.take_add_one,hx];simp
   ·rw[List.drop_eq_nil_of_le (by omega),Qby] at hk2;rw[c9,←hk2]
 ·have: ¬a.Glues.length≤200:=by omega
  simp[Qcl,this]
end Go.Ae
namespace Go.Ae
open Go.Proofs
def Qcp(s:Qaa)(a:Asm):Bool:=(Qaz none a.Tiles && decide (a.Tiles.length≤500)) && a.Tiles.all (fun x=>Qau x.Tile 0 (s.Tiles.length - 1))
def ValidAssembly_.ar:List PK→Option (Qaa×Asm)
 |[.val (.agg x0),.val (.agg x1)]=>(Qaa.d x0).bind fun y0=>(Asm.d x1).bind fun y1=>some (y0,y1)
 |_=>none
def ValidAssembly_.ae(a:Qaa×Asm):List PK:=[.val (.agg (Qaa.c a.1)),.val (.agg (Asm.c a.2))]
theorem ValidAssembly_.le: ∀ps a,ValidAssembly_.ar ps=some a→LeKL ps (ValidAssembly_.ae a):=by
 intro ps a h;unfold ValidAssembly_.ar at h;split at h
 ·simp only[Option.bind_eq_some_iff,Option.some.injEq] at h;obtain⟨y0,h0,y1,h1,rfl⟩:=h;exact⟨Qav (Qaa.d_le _ _ h0),Qav (Asm.d_le _ _ h1),trivial⟩
 ·cases h
def ValidAssembly_.fv(a:Qaa×Asm):Bool:=(fun s a=>Qcl s && Qcp s a) (a.1) (a.2)
def ValidAssembly_.row:Row:=vrow ValidAssembly_.ar (fun a=>Qf6 a.1) (fun a=>(D.bool) (ValidAssembly_.fv a))
def ValidAssembly_.q(a:List AV)(h:Nat→Option Ent)(n:Nat)(K:Kont):=show ValidAssembly_.row a h n K=Qa1 _ _ _ (nmsL a) K (pkL h a) from rfl
theorem ValidAssembly_.ok:Qas Tryz.prog 50 ValidAssembly_.row:=by
 refine Qaj Qaq (tC ValidSet_.ok (tC hasForm_.ok (tC ContVA.ok tN))) Tryz.func50 rfl (by kernel_rfl) (by kernel_rfl) ValidAssembly_.le (n:=2) (fun _=>rfl) (by decide) (rc:=(Qa8)) (re:=(D.bool)) (Qat) (f:=ValidAssembly_.fv) ?_;intro a hpre;simp only[Tryz.f50,Option.getD];simp (config:={maxSteps:=10000000}) (disch:=omega) only[ZA,ZT,simprocAttr,Asm.d,rch,ValidAssembly_.ae,ValidAssembly_.fv,ValidSet_.q,ValidSet_.ar,ValidSet_.fv,hasForm_.q,hasForm_.ar,hasForm_.fv,ContVA.q,ContVA.ar,ContVA.fv];refine⟨hpre,?_⟩
 split<;>rename_i h1
 ·split<;>rename_i h2
  ·simp[h1,Qcp,h2.1,h2.2,List.not_any_eq_all_not]
  ·have h3:(Qaz none a.2.Tiles && decide (a.2.Tiles.length≤500))=false:=by
    rw[Bool.eq_false_iff];intro h;simp only[Bool.and_eq_true,decide_eq_true_eq] at h;exact h2 h
   simp[Qcp,h3]
 ·simp[h1]
def comparePlaced.ar:List PK→Option (Qab×Qae)
 |[.val (.agg x0),.val (.agg x1)]=>(Qab.d x0).bind fun y0=>(Qae.d x1).bind fun y1=>some (y0,y1)
 |_=>none
def comparePlaced.ae(a:Qab×Qae):List PK:=[.val (.agg (Qab.c a.1)),.val (.agg (Qae.c a.2))]
theorem comparePlaced.le: ∀ps a,comparePlaced.ar ps=some a→LeKL ps (comparePlaced.ae a):=by
 intro ps a h;unfold comparePlaced.ar at h;split at h
 ·simp only[Option.bind_eq_some_iff,Option.some.injEq] at h;obtain⟨y0,h0,y1,h1,rfl⟩:=h;exact⟨Qav (Qab.d_le _ _ h0),Qav (Qae.d_le _ _ h1),trivial⟩
 ·cases h
def comparePlaced.fv(a:Qab×Qae):Int:=(fun a p=>Qgr [cmpI a.At.Y p.Y,cmpI a.At.X p.X]) (a.1) (a.2)
def comparePlaced.row:Row:=vrow comparePlaced.ar (fun a=>True) (fun a=>(D.int .i64) (comparePlaced.fv a))
def comparePlaced.q(a:List AV)(h:Nat→Option Ent)(n:Nat)(K:Kont):=show comparePlaced.row a h n K=Qa1 _ _ _ (nmsL a) K (pkL h a) from rfl
theorem comparePlaced.ok:Qas Tryz.prog 61 comparePlaced.row:=by
 refine Qaj Qaq (tC comparePoints.ok tN) Tryz.func61 rfl (by kernel_rfl) (by kernel_rfl) comparePlaced.le (n:=2) (fun _=>rfl) (by decide) (rc:=(vInt)) (re:=(D.int .i64)) (Qa3) (f:=comparePlaced.fv) ?_;intro a hpre;simp only[Tryz.f61,Option.getD];simp (config:={maxSteps:=10000000}) (disch:=omega) only[ZA,ZT,simprocAttr,Asm.d,rch,comparePlaced.ae,comparePlaced.fv,comparePoints.q,comparePoints.ar,comparePoints.fv]
end Go.Ae
namespace Go.Ae
open Go.Proofs
def befP(l:List Qab)(p:Qae):Nat:=(l.takeWhile (fun x=>Qap x.At p)).length
theorem Qyx(p:Qae): ∀(l:List Qab) (lo:Nat),lo≤l.length→(∀(i:Nat) (x:Qab),i<lo→l[i]? =some x→Qap x.At p=true)→(∀(i:Nat) (x:Qab),lo≤i→l[i]? =some x→Qap x.At p=false)→befP l p=lo
 |[],lo,h,_,_=>by simp at h;simp[befP,h]
 |x::r,0,_,_,h=>by
  have:=h 0 x (by omega) (by simp)
  simp[befP,List.takeWhile_cons,this]
 |x::r,lo+1,hl,h1,h2=>by
  have h3:=h1 0 x (by omega) (by simp);have h4:=Qyx p r lo (by simpa using hl) (fun i y hi hy=>h1 (i+1) y (by omega) (by simpa using hy)) (fun i y hi hy=>h2 (i+1) y (by omega) (by simpa using hy));simp only[befP] at h4;simp[befP,List.takeWhile_cons,h3,h4]
theorem cmp_less(a b:Qae):(Qgr [cmpI a.Y b.Y,cmpI a.X b.X]<0)↔Qap a b=true:=by
 simp only[Qap,Qgr,cmpI]
 grind
theorem cmp_eq(a b:Qae):(Qgr [cmpI a.Y b.Y,cmpI a.X b.X]=0)↔a=b:=by
 obtain⟨x,y⟩:=a;obtain⟨z,w⟩:=b;simp only[Qgr,cmpI,Qae.mk.injEq]
 grind
theorem midU(lo hi:Nat)(h:lo+hi≤562949953421312):IntKind.wrap .i64 ((IntKind.wrap .u64 (IntKind.wrap .i64 ((lo:Int)+hi))).fdiv (2^min 1 IntKind.u64.bits))=(((lo+hi)/2:Nat):Int):=by
 rw[Qak (x:=(lo:Int)+hi) (by omega) (by omega)];have e1:IntKind.wrap .u64 ((lo:Int)+hi)=(lo:Int)+hi:=by
  simp only[IntKind.wrap,IntKind.signed,IntKind.bits];simp;omega
 have e2:(2:Int)^min 1 IntKind.u64.bits=2:=by decide
 rw[e1,e2,Int.fdiv_eq_ediv_of_nonneg _ (by omega),Qak (by omega) (by omega)];omega
def BinP.ar:List PK→Option ((List Qab)×Qae×Unit)
 |[.val (.sl _ _ x0),.val (.agg x1),.val (.fn 61 [] [])]=>(decR Qab.d x0).bind fun y0=>(Qae.d x1).bind fun y1=>some (y0,y1,())
 |_=>none
def BinP.ae(a:(List Qab)×Qae×Unit):List PK:=[.val (.sl false 3 (a.1.map Qab.c)),.val (.agg (Qae.c a.2.1)),.val (.fn 61 [] [])]
theorem BinP.le: ∀ps a,BinP.ar ps=some a→LeKL ps (BinP.ae a):=by
 intro ps a h;unfold BinP.ar at h;split at h
 ·simp only[Option.bind_eq_some_iff,Option.some.injEq] at h;obtain⟨y0,h0,y1,h1,rfl⟩:=h;exact⟨Qbf (Qa2 Qab.d_le _ _ h0) (by simp only[List.mem_map];rintro r ⟨y,_,rfl⟩;rfl),Qav (Qae.d_le _ _ h1),LeK.refl _,trivial⟩
 ·cases h
def BinP.fv(a:(List Qab)×Qae×Unit):Int×Bool:=(fun l p _=>((befP l p:Int),l.any (fun x=>decide (x.At=p)))) (a.1) (a.2.1) (a.2.2)
def BinP.row:Row:=vrow BinP.ar (fun a=>Qaz none a.1=true) (fun a=>(fun b=>D.tup [(D.int .i64) (b.1),(D.bool) (b.2)]) (BinP.fv a))
def BinP.q(a:List AV)(h:Nat→Option Ent)(n:Nat)(K:Kont):=show BinP.row a h n K=Qa1 _ _ _ (nmsL a) K (pkL h a) from rfl
theorem BinP.ok:Qas Tryz.prog 60 BinP.row:=by
 refine Qaj Qaq (tC comparePlaced.ok tN) Tryz.func60 rfl (by kernel_rfl) (by kernel_rfl) BinP.le (n:=3) (fun _=>rfl) (by decide) (rc:=(Qfa (vInt) (Qa8))) (re:=(fun b=>D.tup [(D.int .i64) (b.1),(D.bool) (b.2)])) (Qbz (Qa3) (Qat)) (f:=BinP.fv) ?_;intro a hpre;simp only[Tryz.f60,Option.getD];simp (config:={maxSteps:=10000000}) (disch:=omega) only[ZA,ZT,simprocAttr,Asm.d,rch,BinP.ae,BinP.fv,comparePlaced.q,comparePlaced.ar,comparePlaced.fv];intro hn;refine Qay.old ⟨{p:Nat×Nat//p.1≤p.2∧p.2≤a.1.length∧(∀i x,i<p.1→a.1[i]? =some x→Qap x.At a.2.1=true)∧(∀i x,p.2≤i→a.1[i]? =some x→Qap x.At a.2.1=false)},fun p=>⟨[(9,.im (.int .i64 p.1.1)),(10,.im (.int .i64 p.1.2)),(8,.im (.int .i64 a.1.length)),(6,.im (.int .i64 0)),(7,.im (.bool false)),(4,.ptr 0 0),(0,.im (.sl false 3 (a.1.map Qab.c))),(2,.im (.fn 61 [] []))],[(0,(true,.cells 54 [.im (.int .i64 a.2.1.X),.im (.int .i64 a.2.1.Y)]))],1⟩,fun p=>p.1.2 - p.1.1,fun p=>⟨by simp[Qad.good,belT,belH,Qam,AV.bel,belL],Nat.le_refl _⟩,⟨⟨(0,a.1.length),by simp,by simp,by simp,?_⟩,by simp (config:={maxSteps:=10000000}) (disch:=omega) only[ZA,ZT,simprocAttr,Asm.d,rch,BinP.ae,BinP.fv,comparePlaced.q,comparePlaced.ar,comparePlaced.fv,sub]⟩,fun p=> ?_⟩
 ·intro i x hi hx
  have:=(List.getElem?_eq_some_iff.1 hx).1
  simp only at hi;omega
 obtain⟨⟨lo,hi⟩,h1,h2,h3,h4⟩:=p;simp only at h1 h2 h3 h4;simp (config:={maxSteps:=10000000}) (disch:=omega) only[ZA,ZT,simprocAttr,Asm.d,rch,BinP.ae,BinP.fv,comparePlaced.q,comparePlaced.ar,comparePlaced.fv,sub,Qal];obtain⟨_,hsort⟩:=Qe4 _ _ hpre;have hne: ∀(i:Nat) (x:Qab),i<lo→a.1[i]? =some x→x.At≠a.2.1:=by
  intro i x hi hx he
  have:=h3 i x hi hx
  rw[he,Qku] at this;cases this
 rw[midU lo hi (by omega)];simp only[cmp_less,cmp_eq];refine⟨fun hlt=> ?_,fun hlt=>⟨fun hl=>⟨hl,fun x hx=> ?_⟩,fun hl=> ?_⟩⟩
 ·refine⟨by omega,by omega,fun x hx=>⟨fun hb=> ?_,fun hb=> ?_⟩⟩
  ·rw[Int.toNat_natCast] at hx;refine⟨⟨((lo+hi)/2+1,hi),by simp only;omega,h2,fun i y hi' hy=> ?_,h4⟩,by simp only;omega,?_,rfl⟩
   ·simp only at hi';rcases Nat.lt_or_ge i ((lo+hi)/2) with h|h
    ·exact Qeu (hsort i _ y x h hy hx) hb
    ·have:i=(lo+hi)/2:=by omega
     subst this;rw[hx] at hy;exact Option.some.inj hy▸hb
   ·rw[Qak (by omega) (by omega)];simp only;omega
  ·rw[Int.toNat_natCast] at hx;refine⟨⟨(lo,(lo+hi)/2),by simp only;omega,by simp only;omega,h3,fun i y hi' hy=> ?_⟩,by simp only;omega,rfl,rfl⟩;simp only at hi';rcases Nat.lt_or_ge ((lo+hi)/2) i with h|h
   ·cases hl:Qap y.At a.2.1 with
    |false=>rfl
    |true=>exact absurd (Qeu (hsort _ i x y h hx hy) hl) hb
   ·have:i=(lo+hi)/2:=by omega
    subst this;rw[hx] at hy;obtain rfl:=Option.some.inj hy;simpa using hb
 ·have hbef:=Qyx a.2.1 a.1 lo (by omega) h3 (fun i y hi' hy=>h4 i y (by omega) hy);refine⟨by rw[hbef],?_⟩;rw[Bool.eq_iff_iff];simp only[decide_eq_true_eq,List.any_eq_true];refine⟨fun he=>⟨x,List.mem_of_getElem? hx,he⟩,?_⟩;rintro⟨y,hy,he⟩;obtain⟨i,hi',hyi⟩:=List.mem_iff_getElem.1 hy;have hyi':a.1[i]? =some y:=by rw[List.getElem?_eq_getElem hi',hyi]
  rcases Nat.lt_trichotomy i lo with h|h|h
  ·exact absurd he (hne i y h hyi')
  ·subst h;rw[hx] at hyi';exact Option.some.inj hyi'▸he
  ·have h10:=hsort lo i x y h hx hyi';rw[he] at h10
   have:=h4 lo x (by omega) hx
   rw[this] at h10;cases h10
 ·have hbef:=Qyx a.2.1 a.1 lo (by omega) h3 (fun i y hi' hy=>h4 i y (by omega) hy);refine⟨by rw[hbef],?_⟩;symm;simp only[List.any_eq_false,decide_eq_true_eq];intro y hy he;obtain⟨i,hi',hyi⟩:=List.mem_iff_getElem.1 hy;have hyi':a.1[i]? =some y:=by rw[List.getElem?_eq_getElem hi',hyi]
  exact hne i y (by omega) hyi' he
end Go.Ae
namespace Go.Ae
open Go.Proofs
theorem bef_found{l:List Qab}{p:Qae}(h:Qaz none l=true){i:Nat}{x:Qab}(hx:l[i]? =some x)(he:x.At=p):befP l p=i:=by
 obtain⟨_,hsort⟩:=Qe4 _ _ h;have hi:=(List.getElem?_eq_some_iff.1 hx).1;refine Qyx p l i (by omega) (fun j y hj hy=> ?_) (fun j y hj hy=> ?_)
 ·have:=hsort j i y x hj hy hx
  rwa [he] at this
 ·rcases Nat.lt_or_ge i j with h1|h1
  ·have h2:=hsort i j x y h1 hx hy;rw[he] at h2;cases h3:Qap y.At p with
   |false=>rfl
   |true=>
    have:=Qeu h2 h3
    rw[Qku] at this;cases this
  ·have:j=i:=by omega
   subst this;rw[hx] at hy;obtain rfl:=Option.some.inj hy;rw[he,Qku]
theorem Qz4{l:List Qab}{p:Qae}(h:Qaz none l=true):(l.any (fun x=>decide (x.At=p))=true∧ ∃x,l[befP l p]? =some x∧x.At=p∧l.find? (fun x=>decide (x.At=p))=some x∧Qaw (fun x=>decide (x.At=p)) 0 l=(befP l p:Int))∨
 (l.any (fun x=>decide (x.At=p))=false∧l.find? (fun x=>decide (x.At=p))=none∧Qaw (fun x=>decide (x.At=p)) 0 l= -1):=by
 rcases Qep (fun x=>decide (x.At=p)) l 0 with ⟨h1,h2⟩|⟨i,x,h1,h2,h3⟩
 ·refine .inr ⟨?_,h1,h2⟩;simpa[List.find?_eq_none] using h1
 ·have he:x.At=p:=by simpa using List.find?_some h1
  have hb:=bef_found h h3 he;refine .inl ⟨?_,x,by rw[hb];exact h3,he,h1,by rw[h2,hb,Nat.zero_add]⟩;simp only[List.any_eq_true,decide_eq_true_eq];exact⟨x,List.mem_of_getElem? h3,he⟩
def at_.ar:List PK→Option (Asm×Qae)
 |[.val (.agg x0),.val (.agg x1)]=>(Asm.d x0).bind fun y0=>(Qae.d x1).bind fun y1=>some (y0,y1)
 |_=>none
def at_.ae(a:Asm×Qae):List PK:=[.val (.agg (Asm.c a.1)),.val (.agg (Qae.c a.2))]
theorem at_.le: ∀ps a,at_.ar ps=some a→LeKL ps (at_.ae a):=by
 intro ps a h;unfold at_.ar at h;split at h
 ·simp only[Option.bind_eq_some_iff,Option.some.injEq] at h;obtain⟨y0,h0,y1,h1,rfl⟩:=h;exact⟨Qav (Asm.d_le _ _ h0),Qav (Qae.d_le _ _ h1),trivial⟩
 ·cases h
def at_.fv(a:Asm×Qae):Int:=(atA) (a.1) (a.2)
def at_.row:Row:=vrow at_.ar (fun a=>Qaz none a.1.Tiles=true) (fun a=>(D.int .i64) (at_.fv a))
def at_.q(a:List AV)(h:Nat→Option Ent)(n:Nat)(K:Kont):=show at_.row a h n K=Qa1 _ _ _ (nmsL a) K (pkL h a) from rfl
theorem at_.ok:Qas Tryz.prog 96 at_.row:=by
 refine Qaj Qaq (tC BinP.ok tN) Tryz.func96 rfl (by kernel_rfl) (by kernel_rfl) at_.le (n:=2) (fun _=>rfl) (by decide) (rc:=(vInt)) (re:=(D.int .i64)) (Qa3) (f:=at_.fv) ?_;intro a hpre;simp only[Tryz.f96,Option.getD];simp (config:={maxSteps:=10000000}) (disch:=omega) only[ZA,ZT,simprocAttr,Asm.d,rch,at_.ae,at_.fv,BinP.q,BinP.ar,BinP.fv];refine⟨hpre,?_⟩;rcases Qz4 (p:=a.2) hpre with ⟨h1,x,h2,h3,h4,h5⟩|⟨h1,h2,h3⟩
 ·rw[if_pos h1];refine⟨(List.getElem?_eq_some_iff.1 h2).1,fun y hy=> ?_⟩;rw[h2] at hy;obtain rfl:=Option.some.inj hy;simp[atA,h4]
 ·rw[h1,if_neg (by simp)];simp[atA,h2]
def placeAt.ar:List PK→Option (Asm×Qae)
 |[.val (.agg x0),.val (.agg x1)]=>(Asm.d x0).bind fun y0=>(Qae.d x1).bind fun y1=>some (y0,y1)
 |_=>none
def placeAt.ae(a:Asm×Qae):List PK:=[.val (.agg (Asm.c a.1)),.val (.agg (Qae.c a.2))]
theorem placeAt.le: ∀ps a,placeAt.ar ps=some a→LeKL ps (placeAt.ae a):=by
 intro ps a h;unfold placeAt.ar at h;split at h
 ·simp only[Option.bind_eq_some_iff,Option.some.injEq] at h;obtain⟨y0,h0,y1,h1,rfl⟩:=h;exact⟨Qav (Asm.d_le _ _ h0),Qav (Qae.d_le _ _ h1),trivial⟩
 ·cases h
def placeAt.rc:D→Option (Int):=vInt
def placeAt.re:Int→D:=D.int .i64
theorem placeAt.rle: ∀d b,placeAt.rc d=some b→Le d (placeAt.re b):=Qa3
def placeAt.fv(a:Asm×Qae):Int:=(fun a p=>Qaw (fun x=>decide (x.At=p)) 0 a.Tiles) (a.1) (a.2)
def placeAt.row:Row:=vrow placeAt.ar (fun a=>Qaz none a.1.Tiles=true) (fun a=>placeAt.re (placeAt.fv a))
def placeAt.q(a:List AV)(h:Nat→Option Ent)(n:Nat)(K:Kont):=show placeAt.row a h n K=Qa1 _ _ _ (nmsL a) K (pkL h a) from rfl
theorem placeAt.ok:Qas Tryz.prog 181 placeAt.row:=by
 refine Qaj Qaq (tC BinP.ok tN) Tryz.func181 rfl (by kernel_rfl) (by kernel_rfl) placeAt.le (n:=2) (fun _=>rfl) (by decide) (rc:=placeAt.rc) (re:=placeAt.re) placeAt.rle (f:=placeAt.fv) ?_;intro a hpre;simp only[Tryz.f181,Option.getD];simp (config:={maxSteps:=10000000}) (disch:=omega) only[ZA,ZT,simprocAttr,Asm.d,rch,placeAt.ae,placeAt.fv,placeAt.rc,BinP.q,BinP.ar,BinP.fv];refine⟨hpre,?_⟩;rcases Qz4 (p:=a.2) hpre with ⟨h1,x,h2,h3,h4,h5⟩|⟨h1,h2,h3⟩
 ·rw[if_pos h1,h5]
 ·rw[h1,if_neg (by simp),h3]
end Go.Ae
namespace Go.Ae
open Go.Proofs
def Qqy(b:Asm)(x:Qab):Bool:= !decide (atA b x.At=x.Tile)
def IW1.ar:List PK→Option (Qab×Asm)
 |[.val (.agg x0),.ptr x1]=>(Qab.d x0).bind fun y0=>(Asm.d (x1.take 1)).bind fun y1=>some (y0,y1)
 |_=>none
def IW1.ae(a:Qab×Asm):List PK:=[.val (.agg (Qab.c a.1)),.ptr (Asm.c a.2)]
theorem IW1.le: ∀ps a,IW1.ar ps=some a→LeKL ps (IW1.ae a):=by
 intro ps a h;unfold IW1.ar at h;split at h
 ·simp only[Option.bind_eq_some_iff,Option.some.injEq] at h;obtain⟨y0,h0,y1,h1,rfl⟩:=h;exact⟨Qav (Qab.d_le _ _ h0),LeP.trans_take (Asm.d_le _ _ h1),trivial⟩
 ·cases h
def IW1.fv(a:Qab×Asm):Bool:=(fun x b=>Qqy b x) (a.1) (a.2)
def IW1.row:Row:=vrow IW1.ar (fun a=>Qaz none a.2.Tiles=true) (fun a=>(D.bool) (IW1.fv a))
def IW1.q(a:List AV)(h:Nat→Option Ent)(n:Nat)(K:Kont):=show IW1.row a h n K=Qa1 _ _ _ (nmsL a) K (pkL h a) from rfl
theorem IW1.ok:Qas Tryz.prog 123 IW1.row:=by
 refine Qaj Qaq (tC at_.ok tN) Tryz.func123 rfl (by kernel_rfl) (by kernel_rfl) IW1.le (n:=2) (fun _=>rfl) (by decide) (rc:=(Qa8)) (re:=(D.bool)) (Qat) (f:=IW1.fv) ?_;intro a hpre;simp only[Tryz.f123,Option.getD];simp (config:={maxSteps:=10000000}) (disch:=omega) only[ZA,ZT,simprocAttr,Asm.d,rch,IW1.ae,IW1.fv,at_.q,at_.ar,at_.fv];exact⟨hpre,rfl⟩
def IdxIW.ar:List PK→Option ((List Qab)×Asm)
 |[.val (.sl _ _ x0),.val (.fn 123 [] [.ref x1_0])]=>(decR Qab.d x0).bind fun y0=>(Asm.d (x1_0.take 1)).bind fun y1_0=>some (y0,y1_0)
 |_=>none
def IdxIW.ae(a:(List Qab)×Asm):List PK:=[.val (.sl false 3 (a.1.map Qab.c)),.val (.fn 123 [] [.ref (Asm.c a.2)])]
theorem IdxIW.le: ∀ps a,IdxIW.ar ps=some a→LeKL ps (IdxIW.ae a):=by
 intro ps a h;unfold IdxIW.ar at h;split at h
 ·simp only[Option.bind_eq_some_iff,Option.some.injEq] at h;obtain⟨y0,h0,y1_0,h1_0,rfl⟩:=h;exact⟨Qbf (Qa2 Qab.d_le _ _ h0) (by simp only[List.mem_map];rintro r ⟨y,_,rfl⟩;rfl),Qos ⟨Qil (LeP.trans_take (Asm.d_le _ _ h1_0)),trivial⟩,trivial⟩
 ·cases h
def IdxIW.fv(a:(List Qab)×Asm):Int:=(fun l b=>Qaw (Qqy b) 0 l) (a.1) (a.2)
def IdxIW.row:Row:=vrow IdxIW.ar (fun a=>Qaz none a.2.Tiles=true) (fun a=>(D.int .i64) (IdxIW.fv a))
def IdxIW.q(a:List AV)(h:Nat→Option Ent)(n:Nat)(K:Kont):=show IdxIW.row a h n K=Qa1 _ _ _ (nmsL a) K (pkL h a) from rfl
theorem IdxIW.ok:Qas Tryz.prog 94 IdxIW.row:=by
 refine Qaj Qaq (tC IW1.ok tN) Tryz.func94 rfl (by kernel_rfl) (by kernel_rfl) IdxIW.le (n:=2) (fun _=>rfl) (by decide) (rc:=(vInt)) (re:=(D.int .i64)) (Qa3) (f:=IdxIW.fv) ?_;intro a hpre;simp only[Tryz.f94,Option.getD];simp (config:={maxSteps:=10000000}) (disch:=omega) only[ZA,ZT,simprocAttr,Asm.d,rch,IdxIW.ae,IdxIW.fv,IW1.q,IW1.ar,IW1.fv];intro hn;refine Qay.old ⟨{k:Nat//k≤a.1.length∧Qaw (Qqy a.2) k (a.1.drop k)=Qaw (Qqy a.2) 0 a.1},fun k=>⟨[(8,.im (.int .i64 k.1)),(7,.im (.int .i64 a.1.length)),(6,.im (.sl false 3 (a.1.map Qab.c))),(4,.im (.int .i64 0)),(0,.im (.sl false 3 (a.1.map Qab.c))),(1,.im (.fn 123 [] [.ref (Asm.c a.2)]))],[],0⟩,fun k=>a.1.length - k.1,fun k=>⟨by simp[Qad.good,belT,belH,Qam,AV.bel,belL],Nat.le_refl _⟩,⟨⟨0,by simp⟩,by simp (config:={maxSteps:=10000000}) (disch:=omega) only[ZA,ZT,simprocAttr,Asm.d,rch,IdxIW.ae,IdxIW.fv,IW1.q,IW1.ar,IW1.fv,sub]⟩,fun k=> ?_⟩;obtain⟨k,hk1,hk2⟩:=k;simp (config:={maxSteps:=10000000}) (disch:=omega) only[ZA,ZT,simprocAttr,Asm.d,rch,IdxIW.ae,IdxIW.fv,IW1.q,IW1.ar,IW1.fv,sub,Qal];refine⟨fun hk=>⟨hk,fun x hx=> ?_⟩,fun hk=> ?_⟩
 ·rw[Qd3 hx,Qaw] at hk2;refine⟨hpre,fun h=> ?_,fun h=>Qb6 hk hn ⟨by omega,by rw[←hk2,if_neg (by simpa using h)]⟩⟩;rw[if_pos (by simpa using h)] at hk2;exact hk2
 ·rw[List.drop_eq_nil_of_le (by omega),Qaw] at hk2;exact hk2
def ContIW.ar:List PK→Option ((List Qab)×Asm)
 |[.val (.sl _ _ x0),.val (.fn 123 [] [.ref x1_0])]=>(decR Qab.d x0).bind fun y0=>(Asm.d (x1_0.take 1)).bind fun y1_0=>some (y0,y1_0)
 |_=>none
def ContIW.ae(a:(List Qab)×Asm):List PK:=[.val (.sl false 3 (a.1.map Qab.c)),.val (.fn 123 [] [.ref (Asm.c a.2)])]
theorem ContIW.le: ∀ps a,ContIW.ar ps=some a→LeKL ps (ContIW.ae a):=by
 intro ps a h;unfold ContIW.ar at h;split at h
 ·simp only[Option.bind_eq_some_iff,Option.some.injEq] at h;obtain⟨y0,h0,y1_0,h1_0,rfl⟩:=h;exact⟨Qbf (Qa2 Qab.d_le _ _ h0) (by simp only[List.mem_map];rintro r ⟨y,_,rfl⟩;rfl),Qos ⟨Qil (LeP.trans_take (Asm.d_le _ _ h1_0)),trivial⟩,trivial⟩
 ·cases h
def ContIW.fv(a:(List Qab)×Asm):Bool:=(fun l b=>l.any (Qqy b)) (a.1) (a.2)
def ContIW.row:Row:=vrow ContIW.ar (fun a=>Qaz none a.2.Tiles=true) (fun a=>(D.bool) (ContIW.fv a))
def ContIW.q(a:List AV)(h:Nat→Option Ent)(n:Nat)(K:Kont):=show ContIW.row a h n K=Qa1 _ _ _ (nmsL a) K (pkL h a) from rfl
theorem ContIW.ok:Qas Tryz.prog 84 ContIW.row:=by
 refine Qaj Qaq (tC IdxIW.ok tN) Tryz.func84 rfl (by kernel_rfl) (by kernel_rfl) ContIW.le (n:=2) (fun _=>rfl) (by decide) (rc:=(Qa8)) (re:=(D.bool)) (Qat) (f:=ContIW.fv) ?_;intro a hpre;simp only[Tryz.f84,Option.getD];simp (config:={maxSteps:=10000000}) (disch:=omega) only[ZA,ZT,simprocAttr,Asm.d,rch,ContIW.ae,ContIW.fv,IdxIW.q,IdxIW.ar,IdxIW.fv];exact⟨hpre,Qsr _ _⟩
def Qhi(a b:Asm):Bool:=(Qaz none a.Tiles && decide (a.Tiles.length≤500)) && ((Qaz none b.Tiles && decide (b.Tiles.length≤500)) && a.Tiles.all (fun x=>decide (atA b x.At=x.Tile)))
def IsWithin_.ar:List PK→Option (Asm×Asm)
 |[.val (.agg x0),.val (.agg x1)]=>(Asm.d x0).bind fun y0=>(Asm.d x1).bind fun y1=>some (y0,y1)
 |_=>none
def IsWithin_.ae(a:Asm×Asm):List PK:=[.val (.agg (Asm.c a.1)),.val (.agg (Asm.c a.2))]
theorem IsWithin_.le: ∀ps a,IsWithin_.ar ps=some a→LeKL ps (IsWithin_.ae a):=by
 intro ps a h;unfold IsWithin_.ar at h;split at h
 ·simp only[Option.bind_eq_some_iff,Option.some.injEq] at h;obtain⟨y0,h0,y1,h1,rfl⟩:=h;exact⟨Qav (Asm.d_le _ _ h0),Qav (Asm.d_le _ _ h1),trivial⟩
 ·cases h
def IsWithin_.fv(a:Asm×Asm):Bool:=(Qhi) (a.1) (a.2)
def IsWithin_.row:Row:=vrow IsWithin_.ar (fun a=>True) (fun a=>(D.bool) (IsWithin_.fv a))
def IsWithin_.q(a:List AV)(h:Nat→Option Ent)(n:Nat)(K:Kont):=show IsWithin_.row a h n K=Qa1 _ _ _ (nmsL a) K (pkL h a) from rfl
theorem IsWithin_.ok:Qas Tryz.prog 93 IsWithin_.row:=by
 refine Qaj Qaq (tC hasForm_.ok (tC ContIW.ok tN)) Tryz.func93 rfl (by kernel_rfl) (by kernel_rfl) IsWithin_.le (n:=2) (fun _=>rfl) (by decide) (rc:=(Qa8)) (re:=(D.bool)) (Qat) (f:=IsWithin_.fv) ?_;intro a hpre;simp only[Tryz.f93,Option.getD];simp (config:={maxSteps:=10000000}) (disch:=omega) only[ZA,ZT,simprocAttr,Asm.d,rch,IsWithin_.ae,IsWithin_.fv,hasForm_.q,hasForm_.ar,hasForm_.fv,ContIW.q,ContIW.ar,ContIW.fv];have hf: ∀x:Asm,¬(Qaz none x.Tiles=true∧x.Tiles.length≤500)→(Qaz none x.Tiles && decide (x.Tiles.length≤500))=false:=by
  intro x hx;rw[Bool.eq_false_iff];intro h;simp only[Bool.and_eq_true,decide_eq_true_eq] at h;exact hx h
 split<;>rename_i h1
 ·split<;>rename_i h2
  ·refine⟨h2.1,?_⟩
   have:(Qqy a.2)=fun x=> !decide (atA a.2 x.At=x.Tile):=rfl
   simp[Qhi,h1.1,h1.2,h2.1,h2.2,this,List.not_any_eq_all_not]
  ·simp only[Qhi,hf _ h2,Bool.false_and,Bool.and_false]
 ·simp only[Qhi,hf _ h1,Bool.false_and]
end Go.Ae
namespace Go.Ae
open Go.Proofs
def Qn4(s:Sim)(g:Int):Bool:= !Qau g (-1) (s.Small.Set.Tiles.length - 1)
def VM1.ar:List PK→Option (Int×Sim)
 |[.val (.int .i64 x0),.ptr x1]=>(Sim.d (x1.take 10)).bind fun y1=>some (x0,y1)
 |_=>none
def VM1.ae(a:Int×Sim):List PK:=[.val (.int .i64 a.1),.ptr (Sim.c a.2)]
theorem VM1.le: ∀ps a,VM1.ar ps=some a→LeKL ps (VM1.ae a):=by
 intro ps a h;unfold VM1.ar at h;split at h
 ·simp only[Option.bind_eq_some_iff,Option.some.injEq] at h;obtain⟨y1,h1,rfl⟩:=h;exact⟨LeK.refl _,LeP.trans_take (Sim.d_le _ _ h1),trivial⟩
 ·cases h
def VM1.fv(a:Int×Sim):Bool:=(fun g s=>Qn4 s g) (a.1) (a.2)
def VM1.row:Row:=vrow VM1.ar (fun a=>True) (fun a=>(D.bool) (VM1.fv a))
def VM1.q(a:List AV)(h:Nat→Option Ent)(n:Nat)(K:Kont):=show VM1.row a h n K=Qa1 _ _ _ (nmsL a) K (pkL h a) from rfl
theorem VM1.ok:Qas Tryz.prog 80 VM1.row:=by
 refine Qaj Qaq (tC within_.ok tN) Tryz.func80 rfl (by kernel_rfl) (by kernel_rfl) VM1.le (n:=2) (fun _=>rfl) (by decide) (rc:=(Qa8)) (re:=(D.bool)) (Qat) (f:=VM1.fv) ?_;intro a hpre;simp only[Tryz.f80,Option.getD];simp (config:={maxSteps:=10000000}) (disch:=omega) only[ZA,ZT,simprocAttr,Asm.d,rch,VM1.ae,VM1.fv,within_.q,within_.ar,within_.fv];intro h;rw[Qak (by omega) (by omega)];rfl
def IdxVM.ar:List PK→Option ((List Int)×Sim)
 |[.val (.sl _ _ x0),.val (.fn 80 [] [.ref x1_0])]=>(decR intD x0).bind fun y0=>(Sim.d (x1_0.take 10)).bind fun y1_0=>some (y0,y1_0)
 |_=>none
def IdxVM.ae(a:(List Int)×Sim):List PK:=[.val (.sl false 1 (a.1.map intC)),.val (.fn 80 [] [.ref (Sim.c a.2)])]
theorem IdxVM.le: ∀ps a,IdxVM.ar ps=some a→LeKL ps (IdxVM.ae a):=by
 intro ps a h;unfold IdxVM.ar at h;split at h
 ·simp only[Option.bind_eq_some_iff,Option.some.injEq] at h;obtain⟨y0,h0,y1_0,h1_0,rfl⟩:=h;exact⟨Qbf (Qa2 Qb3 _ _ h0) (by simp only[List.mem_map];rintro r ⟨y,_,rfl⟩;rfl),Qos ⟨Qil (LeP.trans_take (Sim.d_le _ _ h1_0)),trivial⟩,trivial⟩
 ·cases h
def IdxVM.fv(a:(List Int)×Sim):Int:=(fun l s=>Qaw (Qn4 s) 0 l) (a.1) (a.2)
def IdxVM.row:Row:=vrow IdxVM.ar (fun a=>True) (fun a=>(D.int .i64) (IdxVM.fv a))
def IdxVM.q(a:List AV)(h:Nat→Option Ent)(n:Nat)(K:Kont):=show IdxVM.row a h n K=Qa1 _ _ _ (nmsL a) K (pkL h a) from rfl
theorem IdxVM.ok:Qas Tryz.prog 112 IdxVM.row:=by
 refine Qaj Qaq (tC VM1.ok tN) Tryz.func112 rfl (by kernel_rfl) (by kernel_rfl) IdxVM.le (n:=2) (fun _=>rfl) (by decide) (rc:=(vInt)) (re:=(D.int .i64)) (Qa3) (f:=IdxVM.fv) ?_;intro a hpre;simp only[Tryz.f112,Option.getD];simp (config:={maxSteps:=10000000}) (disch:=omega) only[ZA,ZT,simprocAttr,Asm.d,rch,IdxVM.ae,IdxVM.fv,VM1.q,VM1.ar,VM1.fv];intro hn;refine Qay.old ⟨{k:Nat//k≤a.1.length∧Qaw (Qn4 a.2) k (a.1.drop k)=Qaw (Qn4 a.2) 0 a.1},fun k=>⟨[(8,.im (.int .i64 k.1)),(7,.im (.int .i64 a.1.length)),(6,.im (.sl false 1 (a.1.map intC))),(4,.im (.int .i64 0)),(0,.im (.sl false 1 (a.1.map intC))),(1,.im (.fn 80 [] [.ref (Sim.c a.2)]))],[],0⟩,fun k=>a.1.length - k.1,fun k=>⟨by simp[Qad.good,belT,belH,Qam,AV.bel,belL],Nat.le_refl _⟩,⟨⟨0,by simp⟩,by simp (config:={maxSteps:=10000000}) (disch:=omega) only[ZA,ZT,simprocAttr,Asm.d,rch,IdxVM.ae,IdxVM.fv,VM1.q,VM1.ar,VM1.fv,sub]⟩,fun k=> ?_⟩;obtain⟨k,hk1,hk2⟩:=k;simp (config:={maxSteps:=10000000}) (disch:=omega) only[ZA,ZT,simprocAttr,Asm.d,rch,IdxVM.ae,IdxVM.fv,VM1.q,VM1.ar,VM1.fv,sub,Qal];refine⟨fun hk=>⟨hk,fun x hx=> ?_⟩,fun hk=> ?_⟩
 ·rw[Qd3 hx,Qaw] at hk2;refine⟨fun h=> ?_,fun h=>Qb6 hk hn ⟨by omega,by rw[←hk2,if_neg (by simpa using h)]⟩⟩;rw[if_pos (by simpa using h)] at hk2;exact hk2
 ·rw[List.drop_eq_nil_of_le (by omega),Qaw] at hk2;exact hk2
def ContVM.ar:List PK→Option ((List Int)×Sim)
 |[.val (.sl _ _ x0),.val (.fn 80 [] [.ref x1_0])]=>(decR intD x0).bind fun y0=>(Sim.d (x1_0.take 10)).bind fun y1_0=>some (y0,y1_0)
 |_=>none
def ContVM.ae(a:(List Int)×Sim):List PK:=[.val (.sl false 1 (a.1.map intC)),.val (.fn 80 [] [.ref (Sim.c a.2)])]
theorem ContVM.le: ∀ps a,ContVM.ar ps=some a→LeKL ps (ContVM.ae a):=by
 intro ps a h;unfold ContVM.ar at h;split at h
 ·simp only[Option.bind_eq_some_iff,Option.some.injEq] at h;obtain⟨y0,h0,y1_0,h1_0,rfl⟩:=h;exact⟨Qbf (Qa2 Qb3 _ _ h0) (by simp only[List.mem_map];rintro r ⟨y,_,rfl⟩;rfl),Qos ⟨Qil (LeP.trans_take (Sim.d_le _ _ h1_0)),trivial⟩,trivial⟩
 ·cases h
def ContVM.fv(a:(List Int)×Sim):Bool:=(fun l s=>l.any (Qn4 s)) (a.1) (a.2)
def ContVM.row:Row:=vrow ContVM.ar (fun a=>True) (fun a=>(D.bool) (ContVM.fv a))
def ContVM.q(a:List AV)(h:Nat→Option Ent)(n:Nat)(K:Kont):=show ContVM.row a h n K=Qa1 _ _ _ (nmsL a) K (pkL h a) from rfl
theorem ContVM.ok:Qas Tryz.prog 79 ContVM.row:=by
 refine Qaj Qaq (tC IdxVM.ok tN) Tryz.func79 rfl (by kernel_rfl) (by kernel_rfl) ContVM.le (n:=2) (fun _=>rfl) (by decide) (rc:=(Qa8)) (re:=(D.bool)) (Qat) (f:=ContVM.fv) ?_;intro a hpre;simp only[Tryz.f79,Option.getD];simp (config:={maxSteps:=10000000}) (disch:=omega) only[ZA,ZT,simprocAttr,Asm.d,rch,ContVM.ae,ContVM.fv,IdxVM.q,IdxVM.ar,IdxVM.fv];exact Qsr _ _
end Go.Ae
