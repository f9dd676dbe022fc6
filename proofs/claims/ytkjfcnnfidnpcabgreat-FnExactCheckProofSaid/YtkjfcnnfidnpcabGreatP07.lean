/- Lemmas. Conditions: none. -/
import Derived.Test.YtkjfcnnfidnpcabGreatP06
import Derived.Test.YtkjfcnnfidnpcabGreatProg
set_option linter.all false
set_option maxHeartbeats 8000000
set_option maxRecDepth 100000
namespace Go.Ae
open Go.Proofs
theorem TY0:
 (tI Tryz.prog 2=some {size:=1,bytes:=8,agg:=false,kind:= .int .i64,zero:=[.int .i64 0]})/\
 (tI Tryz.prog 3=some {size:=1,bytes:=8,agg:=false,kind:= .int .i64,zero:=[.int .i64 0]})/\
 (tI Tryz.prog 4=some {size:=1,bytes:=1,agg:=false,kind:= .bool,zero:=[.bool false]})/\
 (tI Tryz.prog 5=some {size:=1,bytes:=1,agg:=false,kind:= .int .u8,zero:=[.int .u8 0]})/\
 (tI Tryz.prog 9=some {size:=1,bytes:=16,agg:=false,kind:= .str,zero:=[.str ByteArray.empty]})/\
 (tI Tryz.prog 22=some {size:=1,bytes:=24,agg:=false,kind:= .slice 131,zero:=[.sl true 0 []]})/\
 (tI Tryz.prog 23=some {size:=1,bytes:=24,agg:=false,kind:= .slice 134,zero:=[.sl true 0 []]})/\
 (tI Tryz.prog 25=some {size:=2,bytes:=48,agg:=true,kind:= .struct [(0,1),(1,1)],zero:=[.sl true 0 [],.sl true 0 []]})/\
 (tI Tryz.prog 26=some {size:=1,bytes:=24,agg:=false,kind:= .slice 107,zero:=[.sl true 0 []]})/\
 (tI Tryz.prog 28=some {size:=1,bytes:=24,agg:=true,kind:= .struct [(0,1)],zero:=[.sl true 0 []]})/\
 (tI Tryz.prog 30=some {size:=4,bytes:=80,agg:=true,kind:= .struct [(0,2),(2,1),(3,1)],zero:=[.sl true 0 [],.sl true 0 [],.sl true 0 [],.int .i64 0]})/\
 (tI Tryz.prog 31=some {size:=1,bytes:=24,agg:=false,kind:= .slice 110,zero:=[.sl true 0 []]})/\
 (tI Tryz.prog 32=some {size:=1,bytes:=24,agg:=false,kind:= .slice 2,zero:=[.sl true 0 []]})/\
 (tI Tryz.prog 33=some {size:=1,bytes:=24,agg:=false,kind:= .slice 32,zero:=[.sl true 0 []]})/\
 (tI Tryz.prog 35=some {size:=5,bytes:=104,agg:=true,kind:= .struct [(0,1),(1,1),(2,1),(3,1),(4,1)],zero:=[.int .i64 0,.sl true 0 [],.sl true 0 [],.sl true 0 [],.sl true 0 []]})/\
 (tI Tryz.prog 40=some {size:=1,bytes:=24,agg:=false,kind:= .slice 159,zero:=[.sl true 0 []]})/\
 (tI Tryz.prog 41=some {size:=1,bytes:=24,agg:=false,kind:= .slice 161,zero:=[.sl true 0 []]})/\
 (tI Tryz.prog 43=some {size:=2,bytes:=48,agg:=true,kind:= .struct [(0,1),(1,1)],zero:=[.sl true 0 [],.sl true 0 []]})/\
 (tI Tryz.prog 44=some {size:=1,bytes:=24,agg:=false,kind:= .slice 103,zero:=[.sl true 0 []]})/\
 (tI Tryz.prog 46=some {size:=1,bytes:=24,agg:=true,kind:= .struct [(0,1)],zero:=[.sl true 0 []]}):=by and_intros<;>kernel_rfl
theorem TY1:
 (tI Tryz.prog 48=some {size:=4,bytes:=80,agg:=true,kind:= .struct [(0,2),(2,1),(3,1)],zero:=[.sl true 0 [],.sl true 0 [],.sl true 0 [],.int .i64 0]})/\
 (tI Tryz.prog 51=some {size:=1,bytes:=24,agg:=false,kind:= .slice 108,zero:=[.sl true 0 []]})/\
 (tI Tryz.prog 53=some {size:=5,bytes:=104,agg:=true,kind:= .struct [(0,1),(1,1),(2,1),(3,1),(4,1)],zero:=[.int .i64 0,.sl true 0 [],.sl true 0 [],.sl true 0 [],.sl true 0 []]})/\
 (tI Tryz.prog 65=some {size:=1,bytes:=8,agg:=false,kind:= .ptr 48,zero:=[.nilp]})/\
 (tI Tryz.prog 66=some {size:=1,bytes:=8,agg:=false,kind:= .ptr 46,zero:=[.nilp]})/\
 (tI Tryz.prog 69=some {size:=1,bytes:=8,agg:=false,kind:= .ptr 53,zero:=[.nilp]})/\
 (tI Tryz.prog 78=some {size:=1,bytes:=16,agg:=false,kind:= .other,zero:=[.nili]})/\
 (tI Tryz.prog 84=some {size:=1,bytes:=8,agg:=false,kind:= .other,zero:=[.nilf]})/\
 (tI Tryz.prog 90=some {size:=1,bytes:=8,agg:=false,kind:= .ptr 43,zero:=[.nilp]})/\
 (tI Tryz.prog 94=some {size:=2,bytes:=16,agg:=true,kind:= .struct [(0,1),(1,1)],zero:=[.int .i64 0,.int .i64 0]})/\
 (tI Tryz.prog 103=some {size:=3,bytes:=24,agg:=true,kind:= .struct [(0,2),(2,1)],zero:=[.int .i64 0,.int .i64 0,.int .i64 0]})/\
 (tI Tryz.prog 105=some {size:=2,bytes:=16,agg:=true,kind:= .struct [(0,1),(1,1)],zero:=[.int .i64 0,.int .i64 0]})/\
 (tI Tryz.prog 107=some {size:=3,bytes:=24,agg:=true,kind:= .struct [(0,2),(2,1)],zero:=[.int .i64 0,.int .i64 0,.int .i64 0]})/\
 (tI Tryz.prog 108=some {size:=3,bytes:=24,agg:=true,kind:= .struct [(0,2),(2,1)],zero:=[.int .i64 0,.int .i64 0,.int .i64 0]})/\
 (tI Tryz.prog 110=some {size:=3,bytes:=24,agg:=true,kind:= .struct [(0,2),(2,1)],zero:=[.int .i64 0,.int .i64 0,.int .i64 0]})/\
 (tI Tryz.prog 114=some {size:=1,bytes:=24,agg:=true,kind:= .struct [(0,1)],zero:=[.sl true 0 []]})/\
 (tI Tryz.prog 116=some {size:=1,bytes:=24,agg:=true,kind:= .struct [(0,1)],zero:=[.sl true 0 []]})/\
 (tI Tryz.prog 117=some {size:=1,bytes:=24,agg:=true,kind:= .struct [(0,1)],zero:=[.sl true 0 []]})/\
 (tI Tryz.prog 118=some {size:=1,bytes:=8,agg:=false,kind:= .map 2 78,zero:=[.nilm]})/\
 (tI Tryz.prog 120=some {size:=2,bytes:=48,agg:=true,kind:= .struct [(0,1),(1,1)],zero:=[.sl true 0 [],.sl true 0 []]}):=by and_intros<;>kernel_rfl
theorem TY2:
 (tI Tryz.prog 122=some {size:=1,bytes:=24,agg:=true,kind:= .struct [(0,1)],zero:=[.sl true 0 []]})/\
 (tI Tryz.prog 124=some {size:=1,bytes:=24,agg:=true,kind:= .struct [(0,1)],zero:=[.sl true 0 []]})/\
 (tI Tryz.prog 131=some {size:=2,bytes:=24,agg:=true,kind:= .struct [(0,1),(1,1)],zero:=[.str ByteArray.empty,.int .i64 0]})/\
 (tI Tryz.prog 134=some {size:=2,bytes:=40,agg:=true,kind:= .struct [(0,1),(1,1)],zero:=[.str ByteArray.empty,.sl true 0 []]})/\
 (tI Tryz.prog 136=some {size:=1,bytes:=8,agg:=false,kind:= .other,zero:=[.nilf]})/\
 (tI Tryz.prog 144=some {size:=1,bytes:=24,agg:=false,kind:= .slice 94,zero:=[.sl true 0 []]})/\
 (tI Tryz.prog 157=some {size:=1,bytes:=24,agg:=false,kind:= .slice 193,zero:=[.sl true 0 []]})/\
 (tI Tryz.prog 159=some {size:=2,bytes:=24,agg:=true,kind:= .struct [(0,1),(1,1)],zero:=[.str ByteArray.empty,.int .i64 0]})/\
 (tI Tryz.prog 161=some {size:=2,bytes:=40,agg:=true,kind:= .struct [(0,1),(1,1)],zero:=[.str ByteArray.empty,.sl true 0 []]})/\
 (tI Tryz.prog 168=some {size:=1,bytes:=8,agg:=false,kind:= .other,zero:=[.nilf]})/\
 (tI Tryz.prog 193=some {size:=3,bytes:=24,agg:=true,kind:= .struct [(0,1),(1,1),(2,1)],zero:=[.int .i64 0,.int .i64 0,.int .i64 0]})/\
 (tI Tryz.prog 199=some {size:=1,bytes:=8,agg:=false,kind:= .map 9 4,zero:=[.nilm]})/\
 (tI Tryz.prog 205=some {size:=1,bytes:=8,agg:=false,kind:= .ptr 219,zero:=[.nilp]})/\
 (tI Tryz.prog 215=some {size:=1,bytes:=8,agg:=false,kind:= .other,zero:=[.nilf]})/\
 (tI Tryz.prog 219=some {size:=4,bytes:=80,agg:=true,kind:= .struct [(0,1),(1,1),(2,1),(3,1)],zero:=[.int .i64 0,.sl true 0 [],.sl true 0 [],.sl true 0 []]})/\
 (tI Tryz.prog 223=some {size:=1,bytes:=8,agg:=false,kind:= .other,zero:=[.nilf]})/\
 (tI Tryz.prog 225=some {size:=1,bytes:=8,agg:=false,kind:= .other,zero:=[.nilf]})/\
 (tI Tryz.prog 227=some {size:=2,bytes:=16,agg:=true,kind:= .array 2 2,zero:=[.int .i64 0,.int .i64 0]})/\
 (tI Tryz.prog 229=some {size:=1,bytes:=8,agg:=false,kind:= .ptr 248,zero:=[.nilp]})/\
 (tI Tryz.prog 236=some {size:=1,bytes:=24,agg:=false,kind:= .slice 237,zero:=[.sl true 0 []]}):=by and_intros<;>kernel_rfl
theorem TY3:
 (tI Tryz.prog 237=some {size:=1,bytes:=8,agg:=false,kind:= .ptr 239,zero:=[.nilp]})/\
 (tI Tryz.prog 239=some {size:=2,bytes:=16,agg:=true,kind:= .struct [(0,1),(1,1)],zero:=[.nilp,.int .i64 0]})/\
 (tI Tryz.prog 241=some {size:=1,bytes:=8,agg:=false,kind:= .map 2 3,zero:=[.nilm]})/\
 (tI Tryz.prog 245=some {size:=1,bytes:=8,agg:=false,kind:= .other,zero:=[.nilf]})/\
 (tI Tryz.prog 248=some {size:=2,bytes:=48,agg:=true,kind:= .struct [(0,1),(1,1)],zero:=[.sl true 0 [],.sl true 0 []]})/\
 (tI Tryz.prog 249=some {size:=1,bytes:=24,agg:=false,kind:= .slice 3,zero:=[.sl true 0 []]})/\
 (tI Tryz.prog 252=some {size:=1,bytes:=8,agg:=false,kind:= .other,zero:=[.nilf]})/\
 (tI Tryz.prog 253=some {size:=8,bytes:=64,agg:=true,kind:= .array 4 94,zero:=[.int .i64 0,.int .i64 0,.int .i64 0,.int .i64 0,.int .i64 0,.int .i64 0,.int .i64 0,.int .i64 0]})/\
 (tI Tryz.prog 256=some {size:=1,bytes:=8,agg:=false,kind:= .other,zero:=[.nilc]})/\
 (tI Tryz.prog 259=some {size:=1,bytes:=8,agg:=false,kind:= .int .u64,zero:=[.int .u64 0]})/\
 (tI Tryz.prog 262=some {size:=1,bytes:=4,agg:=false,kind:= .int .u32,zero:=[.int .u32 0]})/\
 (tI Tryz.prog 265=some {size:=1,bytes:=8,agg:=false,kind:= .int .u64,zero:=[.int .u64 0]})/\
 (tI Tryz.prog 284=some {size:=1,bytes:=8,agg:=false,kind:= .ptr 290,zero:=[.nilp]})/\
 (tI Tryz.prog 287=some {size:=1,bytes:=8,agg:=false,kind:= .map 94 2,zero:=[.nilm]})/\
 (tI Tryz.prog 288=some {size:=1,bytes:=8,agg:=false,kind:= .map 94 32,zero:=[.nilm]})/\
 (tI Tryz.prog 290=some {size:=6,bytes:=96,agg:=true,kind:= .struct [(0,4),(4,1),(5,1)],zero:=[.sl true 0 [],.sl true 0 [],.sl true 0 [],.int .i64 0,.nilm,.nilm]})/\
 (tI Tryz.prog 299=some {size:=1,bytes:=8,agg:=false,kind:= .other,zero:=[.nilf]})/\
 (tI Tryz.prog 303=some {size:=1,bytes:=8,agg:=false,kind:= .int .i64,zero:=[.int .i64 0]})/\
 (tI Tryz.prog 311=some {size:=1,bytes:=8,agg:=false,kind:= .int .u64,zero:=[.int .u64 0]})/\
 (tI Tryz.prog 315=some {size:=1,bytes:=8,agg:=false,kind:= .ptr 3,zero:=[.nilp]}):=by and_intros<;>kernel_rfl
theorem TY4:
 (tI Tryz.prog 324=some {size:=1,bytes:=8,agg:=false,kind:= .ptr 332,zero:=[.nilp]})/\
 (tI Tryz.prog 328=some {size:=1,bytes:=16,agg:=false,kind:= .other,zero:=[.nili]})/\
 (tI Tryz.prog 332=some {size:=8,bytes:=176,agg:=true,kind:= .struct [(0,4),(4,1),(5,1),(6,1),(7,1)],zero:=[.sl true 0 [],.sl true 0 [],.sl true 0 [],.int .i64 0,.sl true 0 [],.sl true 0 [],.sl true 0 [],.sl true 0 []]})/\
 (tI Tryz.prog 334=some {size:=3,bytes:=24,agg:=true,kind:= .struct [(0,3)],zero:=[.int .i64 0,.int .i64 0,.int .i64 0]})/\
 (tI Tryz.prog 336=some {size:=3,bytes:=24,agg:=true,kind:= .struct [(0,3)],zero:=[.int .i64 0,.int .i64 0,.int .i64 0]})/\
 (tI Tryz.prog 338=some {size:=3,bytes:=24,agg:=true,kind:= .struct [(0,3)],zero:=[.int .i64 0,.int .i64 0,.int .i64 0]})/\
 (tI Tryz.prog 343=some {size:=1,bytes:=8,agg:=false,kind:= .other,zero:=[.nilf]})/\
 (tI Tryz.prog 351=some {size:=1,bytes:=8,agg:=false,kind:= .other,zero:=[.nilf]}):=by and_intros<;>kernel_rfl
theorem KY0:
 (keyT Tryz.prog 2=some ⟨false,[.int .i64]⟩)/\
 (keyT Tryz.prog 3=some ⟨false,[.int .i64]⟩)/\
 (keyT Tryz.prog 4=some ⟨false,[.bool]⟩)/\
 (keyT Tryz.prog 5=some ⟨false,[.int .u8]⟩)/\
 (keyT Tryz.prog 9=some ⟨false,[.str]⟩)/\
 (keyT Tryz.prog 94=some ⟨true,[.int .i64,.int .i64]⟩)/\
 (Tryz.prog.eqGuardType Tryz.prog.depth 94=false)/\
 (keyT Tryz.prog 103=some ⟨true,[.int .i64,.int .i64,.int .i64]⟩)/\
 (Tryz.prog.eqGuardType Tryz.prog.depth 103=false)/\
 (keyT Tryz.prog 105=some ⟨true,[.int .i64,.int .i64]⟩)/\
 (Tryz.prog.eqGuardType Tryz.prog.depth 105=false)/\
 (keyT Tryz.prog 107=some ⟨true,[.int .i64,.int .i64,.int .i64]⟩)/\
 (Tryz.prog.eqGuardType Tryz.prog.depth 107=false)/\
 (keyT Tryz.prog 108=some ⟨true,[.int .i64,.int .i64,.int .i64]⟩)/\
 (Tryz.prog.eqGuardType Tryz.prog.depth 108=false)/\
 (keyT Tryz.prog 110=some ⟨true,[.int .i64,.int .i64,.int .i64]⟩)/\
 (Tryz.prog.eqGuardType Tryz.prog.depth 110=false)/\
 (keyT Tryz.prog 131=some ⟨true,[.str,.int .i64]⟩)/\
 (Tryz.prog.eqGuardType Tryz.prog.depth 131=false)/\
 (keyT Tryz.prog 159=some ⟨true,[.str,.int .i64]⟩):=by and_intros<;>kernel_rfl
theorem KY1:
 (Tryz.prog.eqGuardType Tryz.prog.depth 159=false)/\
 (keyT Tryz.prog 193=some ⟨true,[.int .i64,.int .i64,.int .i64]⟩)/\
 (Tryz.prog.eqGuardType Tryz.prog.depth 193=false)/\
 (keyT Tryz.prog 259=some ⟨false,[.int .u64]⟩)/\
 (keyT Tryz.prog 262=some ⟨false,[.int .u32]⟩)/\
 (keyT Tryz.prog 265=some ⟨false,[.int .u64]⟩)/\
 (keyT Tryz.prog 303=some ⟨false,[.int .i64]⟩)/\
 (keyT Tryz.prog 311=some ⟨false,[.int .u64]⟩)/\
 (keyT Tryz.prog 334=some ⟨true,[.int .i64,.int .i64,.int .i64]⟩)/\
 (Tryz.prog.eqGuardType Tryz.prog.depth 334=false)/\
 (keyT Tryz.prog 336=some ⟨true,[.int .i64,.int .i64,.int .i64]⟩)/\
 (Tryz.prog.eqGuardType Tryz.prog.depth 336=false)/\
 (keyT Tryz.prog 338=some ⟨true,[.int .i64,.int .i64,.int .i64]⟩)/\
 (Tryz.prog.eqGuardType Tryz.prog.depth 338=false):=by and_intros<;>kernel_rfl
theorem CY0:True/\True:=⟨trivial,trivial⟩
theorem Qaq:Tryz.prog.follows .mixedOrders=true:=by kernel_rfl
end Go.Ae
namespace Go.Ae
def kI:PK->Option Int
 | .val (.int .i64 x)=>some x
 |_=>none
def kU:PK->Option Int
 | .val (.int .u64 x)=>some x
 |_=>none
def kY:PK->Option Int
 | .val (.int .u8 x)=>some x
 |_=>none
def kB:PK->Option Bool
 | .val (.bool x)=>some x
 |_=>none
def kT:PK->Option ByteArray
 | .val (.str x)=>some x
 |_=>none
def kR{A:Type}(f:List D->Option A):PK->Option A
 | .val (.agg x)=>f x
 |_=>none
def kP{A:Type}(f:List D->Option A)(n:Nat):PK->Option A
 | .ptr x=>f (x.take n)
 |_=>none
def kS{A:Type}(f:List D->Option A):PK->Option (List A)
 | .val (.sl _ _ x)=>decR f x
 |_=>none
theorem kI_le: ∀p a,kI p=some a->LeK p (.val (.int .i64 a)):=by
 intro p a h;unfold kI at h;split at h
 .obtain rfl:=Zaa h;exact LeK.refl _
 .cases h
theorem kU_le: ∀p a,kU p=some a->LeK p (.val (.int .u64 a)):=by
 intro p a h;unfold kU at h;split at h
 .obtain rfl:=Zaa h;exact LeK.refl _
 .cases h
theorem kY_le: ∀p a,kY p=some a->LeK p (.val (.int .u8 a)):=by
 intro p a h;unfold kY at h;split at h
 .obtain rfl:=Zaa h;exact LeK.refl _
 .cases h
theorem kB_le: ∀p a,kB p=some a->LeK p (.val (.bool a)):=by
 intro p a h;unfold kB at h;split at h
 .obtain rfl:=Zaa h;exact LeK.refl _
 .cases h
theorem kT_le: ∀p a,kT p=some a->LeK p (.val (.str a)):=by
 intro p a h;unfold kT at h;split at h
 .obtain rfl:=Zaa h;exact LeK.refl _
 .cases h
section
variable {A:Type}{f:List D->Option A}{e:A->List D}
theorem kR_le(hf: ∀ds x,f ds=some x->LeS ds (e x)): ∀p a,kR f p=some a->LeK p (.val (.agg (e a))):=by
 intro p a h;unfold kR at h;split at h
 .exact Qav (hf _ _ h)
 .cases h
theorem kP_le(n:Nat)(hf: ∀ds x,f ds=some x->LeS ds (e x)): ∀p a,kP f n p=some a->LeK p (.ptr (e a)):=by
 intro p a h;unfold kP at h;split at h
 .exact LeP.trans_take (hf _ _ h)
 .cases h
theorem kS_le(k:Nat)(hf: ∀ds x,f ds=some x->LeS ds (e x))(hk: ∀x,(e x).length=k): ∀p a,kS f p=some a->LeK p (.val (.sl false k (a.map e))):=by
 intro p a h;unfold kS at h;split at h
 .exact Qbf (Qa2 hf _ _ h) (by simp only[ZaM];rintro r ⟨y,_,rfl⟩;exact hk y)
 .cases h
end
def a1{A0:Type}(f0:PK->Option A0):List PK->Option (A0)
 |[x0]=>(f0 x0).bind fun y0=>some y0
 |_=>none
theorem a1_le{A0:Type}{f0:PK->Option A0}{e0:A0->PK}(h0: ∀p a,f0 p=some a->LeK p (e0 a)): ∀ps a,a1 f0 ps=some a->LeKL ps [e0 (a)]:=by
 intro ps a h;unfold a1 at h;split at h
 .simp only[Zaw,Zab] at h;obtain⟨y0,g0,rfl⟩:=h;exact⟨h0 _ _ g0,trivial⟩
 .cases h
def a2{A0 A1:Type}(f0:PK->Option A0)(f1:PK->Option A1):List PK->Option (A0×A1)
 |[x0,x1]=>(f0 x0).bind fun y0=>(f1 x1).bind fun y1=>some (y0,y1)
 |_=>none
theorem a2_le{A0:Type}{f0:PK->Option A0}{e0:A0->PK}{A1:Type}{f1:PK->Option A1}{e1:A1->PK}(h0: ∀p a,f0 p=some a->LeK p (e0 a))(h1: ∀p a,f1 p=some a->LeK p (e1 a)): ∀ps a,a2 f0 f1 ps=some a->LeKL ps [e0 (a.1),e1 (a.2)]:=by
 intro ps a h;unfold a2 at h;split at h
 .simp only[Zaw,Zab] at h;obtain⟨y0,g0,y1,g1,rfl⟩:=h;exact⟨h0 _ _ g0,h1 _ _ g1,trivial⟩
 .cases h
def a3{A0 A1 A2:Type}(f0:PK->Option A0)(f1:PK->Option A1)(f2:PK->Option A2):List PK->Option (A0×A1×A2)
 |[x0,x1,x2]=>(f0 x0).bind fun y0=>(f1 x1).bind fun y1=>(f2 x2).bind fun y2=>some (y0,y1,y2)
 |_=>none
theorem a3_le{A0:Type}{f0:PK->Option A0}{e0:A0->PK}{A1:Type}{f1:PK->Option A1}{e1:A1->PK}{A2:Type}{f2:PK->Option A2}{e2:A2->PK}(h0: ∀p a,f0 p=some a->LeK p (e0 a))(h1: ∀p a,f1 p=some a->LeK p (e1 a))(h2: ∀p a,f2 p=some a->LeK p (e2 a)): ∀ps a,a3 f0 f1 f2 ps=some a->LeKL ps [e0 (a.1),e1 (a.2.1),e2 (a.2.2)]:=by
 intro ps a h;unfold a3 at h;split at h
 .simp only[Zaw,Zab] at h;obtain⟨y0,g0,y1,g1,y2,g2,rfl⟩:=h;exact⟨h0 _ _ g0,h1 _ _ g1,h2 _ _ g2,trivial⟩
 .cases h
def a4{A0 A1 A2 A3:Type}(f0:PK->Option A0)(f1:PK->Option A1)(f2:PK->Option A2)(f3:PK->Option A3):List PK->Option (A0×A1×A2×A3)
 |[x0,x1,x2,x3]=>(f0 x0).bind fun y0=>(f1 x1).bind fun y1=>(f2 x2).bind fun y2=>(f3 x3).bind fun y3=>some (y0,y1,y2,y3)
 |_=>none
theorem a4_le{A0:Type}{f0:PK->Option A0}{e0:A0->PK}{A1:Type}{f1:PK->Option A1}{e1:A1->PK}{A2:Type}{f2:PK->Option A2}{e2:A2->PK}{A3:Type}{f3:PK->Option A3}{e3:A3->PK}(h0: ∀p a,f0 p=some a->LeK p (e0 a))(h1: ∀p a,f1 p=some a->LeK p (e1 a))(h2: ∀p a,f2 p=some a->LeK p (e2 a))(h3: ∀p a,f3 p=some a->LeK p (e3 a)): ∀ps a,a4 f0 f1 f2 f3 ps=some a->LeKL ps [e0 (a.1),e1 (a.2.1),e2 (a.2.2.1),e3 (a.2.2.2)]:=by
 intro ps a h;unfold a4 at h;split at h
 .simp only[Zaw,Zab] at h;obtain⟨y0,g0,y1,g1,y2,g2,y3,g3,rfl⟩:=h;exact⟨h0 _ _ g0,h1 _ _ g1,h2 _ _ g2,h3 _ _ g3,trivial⟩
 .cases h
def a5{A0 A1 A2 A3 A4:Type}(f0:PK->Option A0)(f1:PK->Option A1)(f2:PK->Option A2)(f3:PK->Option A3)(f4:PK->Option A4):List PK->Option (A0×A1×A2×A3×A4)
 |[x0,x1,x2,x3,x4]=>(f0 x0).bind fun y0=>(f1 x1).bind fun y1=>(f2 x2).bind fun y2=>(f3 x3).bind fun y3=>(f4 x4).bind fun y4=>some (y0,y1,y2,y3,y4)
 |_=>none
theorem a5_le{A0:Type}{f0:PK->Option A0}{e0:A0->PK}{A1:Type}{f1:PK->Option A1}{e1:A1->PK}{A2:Type}{f2:PK->Option A2}{e2:A2->PK}{A3:Type}{f3:PK->Option A3}{e3:A3->PK}{A4:Type}{f4:PK->Option A4}{e4:A4->PK}(h0: ∀p a,f0 p=some a->LeK p (e0 a))(h1: ∀p a,f1 p=some a->LeK p (e1 a))(h2: ∀p a,f2 p=some a->LeK p (e2 a))(h3: ∀p a,f3 p=some a->LeK p (e3 a))(h4: ∀p a,f4 p=some a->LeK p (e4 a)): ∀ps a,a5 f0 f1 f2 f3 f4 ps=some a->LeKL ps [e0 (a.1),e1 (a.2.1),e2 (a.2.2.1),e3 (a.2.2.2.1),e4 (a.2.2.2.2)]:=by
 intro ps a h;unfold a5 at h;split at h
 .simp only[Zaw,Zab] at h;obtain⟨y0,g0,y1,g1,y2,g2,y3,g3,y4,g4,rfl⟩:=h;exact⟨h0 _ _ g0,h1 _ _ g1,h2 _ _ g2,h3 _ _ g3,h4 _ _ g4,trivial⟩
 .cases h
def a6{A0 A1 A2 A3 A4 A5:Type}(f0:PK->Option A0)(f1:PK->Option A1)(f2:PK->Option A2)(f3:PK->Option A3)(f4:PK->Option A4)(f5:PK->Option A5):List PK->Option (A0×A1×A2×A3×A4×A5)
 |[x0,x1,x2,x3,x4,x5]=>(f0 x0).bind fun y0=>(f1 x1).bind fun y1=>(f2 x2).bind fun y2=>(f3 x3).bind fun y3=>(f4 x4).bind fun y4=>(f5 x5).bind fun y5=>some (y0,y1,y2,y3,y4,y5)
 |_=>none
theorem a6_le{A0:Type}{f0:PK->Option A0}{e0:A0->PK}{A1:Type}{f1:PK->Option A1}{e1:A1->PK}{A2:Type}{f2:PK->Option A2}{e2:A2->PK}{A3:Type}{f3:PK->Option A3}{e3:A3->PK}{A4:Type}{f4:PK->Option A4}{e4:A4->PK}{A5:Type}{f5:PK->Option A5}{e5:A5->PK}(h0: ∀p a,f0 p=some a->LeK p (e0 a))(h1: ∀p a,f1 p=some a->LeK p (e1 a))(h2: ∀p a,f2 p=some a->LeK p (e2 a))(h3: ∀p a,f3 p=some a->LeK p (e3 a))(h4: ∀p a,f4 p=some a->LeK p (e4 a))(h5: ∀p a,f5 p=some a->LeK p (e5 a)): ∀ps a,a6 f0 f1 f2 f3 f4 f5 ps=some a->LeKL ps [e0 (a.1),e1 (a.2.1),e2 (a.2.2.1),e3 (a.2.2.2.1),e4 (a.2.2.2.2.1),e5 (a.2.2.2.2.2)]:=by
 intro ps a h;unfold a6 at h;split at h
 .simp only[Zaw,Zab] at h;obtain⟨y0,g0,y1,g1,y2,g2,y3,g3,y4,g4,y5,g5,rfl⟩:=h;exact⟨h0 _ _ g0,h1 _ _ g1,h2 _ _ g2,h3 _ _ g3,h4 _ _ g4,h5 _ _ g5,trivial⟩
 .cases h
def a7{A0 A1 A2 A3 A4 A5 A6:Type}(f0:PK->Option A0)(f1:PK->Option A1)(f2:PK->Option A2)(f3:PK->Option A3)(f4:PK->Option A4)(f5:PK->Option A5)(f6:PK->Option A6):List PK->Option (A0×A1×A2×A3×A4×A5×A6)
 |[x0,x1,x2,x3,x4,x5,x6]=>(f0 x0).bind fun y0=>(f1 x1).bind fun y1=>(f2 x2).bind fun y2=>(f3 x3).bind fun y3=>(f4 x4).bind fun y4=>(f5 x5).bind fun y5=>(f6 x6).bind fun y6=>some (y0,y1,y2,y3,y4,y5,y6)
 |_=>none
theorem a7_le{A0:Type}{f0:PK->Option A0}{e0:A0->PK}{A1:Type}{f1:PK->Option A1}{e1:A1->PK}{A2:Type}{f2:PK->Option A2}{e2:A2->PK}{A3:Type}{f3:PK->Option A3}{e3:A3->PK}{A4:Type}{f4:PK->Option A4}{e4:A4->PK}{A5:Type}{f5:PK->Option A5}{e5:A5->PK}{A6:Type}{f6:PK->Option A6}{e6:A6->PK}(h0: ∀p a,f0 p=some a->LeK p (e0 a))(h1: ∀p a,f1 p=some a->LeK p (e1 a))(h2: ∀p a,f2 p=some a->LeK p (e2 a))(h3: ∀p a,f3 p=some a->LeK p (e3 a))(h4: ∀p a,f4 p=some a->LeK p (e4 a))(h5: ∀p a,f5 p=some a->LeK p (e5 a))(h6: ∀p a,f6 p=some a->LeK p (e6 a)): ∀ps a,a7 f0 f1 f2 f3 f4 f5 f6 ps=some a->LeKL ps [e0 (a.1),e1 (a.2.1),e2 (a.2.2.1),e3 (a.2.2.2.1),e4 (a.2.2.2.2.1),e5 (a.2.2.2.2.2.1),e6 (a.2.2.2.2.2.2)]:=by
 intro ps a h;unfold a7 at h;split at h
 .simp only[Zaw,Zab] at h;obtain⟨y0,g0,y1,g1,y2,g2,y3,g3,y4,g4,y5,g5,y6,g6,rfl⟩:=h;exact⟨h0 _ _ g0,h1 _ _ g1,h2 _ _ g2,h3 _ _ g3,h4 _ _ g4,h5 _ _ g5,h6 _ _ g6,trivial⟩
 .cases h
def vTup4{A B E F:Type}(f:D->Option A)(g:D->Option B)(k:D->Option E)(m:D->Option F):D->Option (A×B×E×F)
 | .tup [x,y,z,w]=>(f x).bind fun a=>(g y).bind fun b=>(k z).bind fun c=>(m w).bind fun d=>some (a,b,c,d)
 |_=>none
theorem vTup4_le{A B E F:Type}{f:D->Option A}{g:D->Option B}{k:D->Option E}{m:D->Option F}{e:A->D}{e':B->D}{e'':E->D}{e3:F->D}(hf: ∀d x,f d=some x->Le d (e x))(hg: ∀d x,g d=some x->Le d (e' x))(hk: ∀d x,k d=some x->Le d (e'' x))(hm: ∀d x,m d=some x->Le d (e3 x)):
 ∀d (x:A×B×E×F),vTup4 f g k m d=some x->Le d (.tup [e x.1,e' x.2.1,e'' x.2.2.1,e3 x.2.2.2]):=by
 intro d x h;unfold vTup4 at h;split at h
 .simp only[Zaw,Zab] at h;obtain⟨a,h1,b,h2,c,h3,w,h4,rfl⟩:=h;exact le_tup ⟨hf _ _ h1,hg _ _ h2,hk _ _ h3,hm _ _ h4,trivial⟩
 .cases h
theorem Bond.c_n(x:Bond):(Bond.c x).length=3:=rfl
theorem Glue.c_n(x:Glue):(Glue.c x).length=2:=rfl
theorem Opt.c_n(x:Opt):(Opt.c x).length=3:=rfl
theorem Qab.c_n(x:Qab):(Qab.c x).length=3:=rfl
theorem Qae.c_n(x:Qae):(Qae.c x).length=2:=rfl
theorem Tile.c_n(x:Tile):(Tile.c x).length=2:=rfl
theorem Qant(x:Int):(intC x).length=1:=rfl
theorem Qaoj(x:List Int):(Qcd x).length=1:=rfl
structure QK(A:Type) where
 d:PK->Option A
 e:A->PK
 l: ∀p a,d p=some a->LeK p (e a)
def qI:QK Int:=⟨kI,fun a=> .val (.int .i64 a),kI_le⟩
def qU:QK Int:=⟨kU,fun a=> .val (.int .u64 a),kU_le⟩
def qY:QK Int:=⟨kY,fun a=> .val (.int .u8 a),kY_le⟩
def qB:QK Bool:=⟨kB,fun a=> .val (.bool a),kB_le⟩
def qT:QK ByteArray:=⟨kT,fun a=> .val (.str a),kT_le⟩
section
variable {A:Type}{f:List D->Option A}{e:A->List D}
def qR(h: ∀ds x,f ds=some x->LeS ds (e x)):QK A:=⟨kR f,fun a=> .val (.agg (e a)),kR_le h⟩
def qP(n:Nat)(h: ∀ds x,f ds=some x->LeS ds (e x)):QK A:=⟨kP f n,fun a=> .ptr (e a),kP_le n h⟩
def qS{k:Nat}(h: ∀ds x,f ds=some x->LeS ds (e x))(hk: ∀x,(e x).length=k):QK (List A):=⟨kS f,fun a=> .val (.sl false k (a.map e)),kS_le k h hk⟩
end
structure AK(A:Type) where
 r:List PK->Option A
 e:A->List PK
 l: ∀ps a,r ps=some a->LeKL ps (e a)
 n:Nat
 w: ∀a,(e a).length=n
def b1{A0:Type}(p0:QK A0):AK (A0):=⟨a1 p0.d,fun a=>[p0.e (a)],a1_le p0.l,1,fun _=>rfl⟩
def b2{A0 A1:Type}(p0:QK A0)(p1:QK A1):AK (A0×A1):=⟨a2 p0.d p1.d,fun a=>[p0.e (a.1),p1.e (a.2)],a2_le p0.l p1.l,2,fun _=>rfl⟩
def b3{A0 A1 A2:Type}(p0:QK A0)(p1:QK A1)(p2:QK A2):AK (A0×A1×A2):=⟨a3 p0.d p1.d p2.d,fun a=>[p0.e (a.1),p1.e (a.2.1),p2.e (a.2.2)],a3_le p0.l p1.l p2.l,3,fun _=>rfl⟩
def b4{A0 A1 A2 A3:Type}(p0:QK A0)(p1:QK A1)(p2:QK A2)(p3:QK A3):AK (A0×A1×A2×A3):=⟨a4 p0.d p1.d p2.d p3.d,fun a=>[p0.e (a.1),p1.e (a.2.1),p2.e (a.2.2.1),p3.e (a.2.2.2)],a4_le p0.l p1.l p2.l p3.l,4,fun _=>rfl⟩
def b5{A0 A1 A2 A3 A4:Type}(p0:QK A0)(p1:QK A1)(p2:QK A2)(p3:QK A3)(p4:QK A4):AK (A0×A1×A2×A3×A4):=⟨a5 p0.d p1.d p2.d p3.d p4.d,fun a=>[p0.e (a.1),p1.e (a.2.1),p2.e (a.2.2.1),p3.e (a.2.2.2.1),p4.e (a.2.2.2.2)],a5_le p0.l p1.l p2.l p3.l p4.l,5,fun _=>rfl⟩
def b6{A0 A1 A2 A3 A4 A5:Type}(p0:QK A0)(p1:QK A1)(p2:QK A2)(p3:QK A3)(p4:QK A4)(p5:QK A5):AK (A0×A1×A2×A3×A4×A5):=⟨a6 p0.d p1.d p2.d p3.d p4.d p5.d,fun a=>[p0.e (a.1),p1.e (a.2.1),p2.e (a.2.2.1),p3.e (a.2.2.2.1),p4.e (a.2.2.2.2.1),p5.e (a.2.2.2.2.2)],a6_le p0.l p1.l p2.l p3.l p4.l p5.l,6,fun _=>rfl⟩
def b7{A0 A1 A2 A3 A4 A5 A6:Type}(p0:QK A0)(p1:QK A1)(p2:QK A2)(p3:QK A3)(p4:QK A4)(p5:QK A5)(p6:QK A6):AK (A0×A1×A2×A3×A4×A5×A6):=⟨a7 p0.d p1.d p2.d p3.d p4.d p5.d p6.d,fun a=>[p0.e (a.1),p1.e (a.2.1),p2.e (a.2.2.1),p3.e (a.2.2.2.1),p4.e (a.2.2.2.2.1),p5.e (a.2.2.2.2.2.1),p6.e (a.2.2.2.2.2.2)],a7_le p0.l p1.l p2.l p3.l p4.l p5.l p6.l,7,fun _=>rfl⟩
structure RK(B:Type) where
 c:D->Option B
 e:B->D
 l: ∀d b,c d=some b->Le d (e b)
def rI:RK Int:=⟨vInt,D.int .i64,Qa3⟩
def rB:RK Bool:=⟨Qa8,D.bool,Qat⟩
def rT:RK ByteArray:=⟨vStr,D.str,vStr_le⟩
section
variable {A:Type}{f:List D->Option A}{e:A->List D}
def rA(h: ∀ds x,f ds=some x->LeS ds (e x)):RK A:=⟨vAgg f,fun b=>D.agg (e b),vAgg_le h⟩
def rS{k:Nat}(h: ∀ds x,f ds=some x->LeS ds (e x))(hk: ∀x,(e x).length=k):RK (List A):=⟨vSl f,fun b=>D.sl false k (b.map e),Qe8 h hk⟩
end
def r2{A B:Type}(p:RK A)(q:RK B):RK (A×B):=⟨Qfa p.c q.c,fun b=>D.tup [p.e b.1,q.e b.2],Qbz p.l q.l⟩
def r3{A B C:Type}(p:RK A)(q:RK B)(r:RK C):RK (A×B×C):=⟨vTup3 p.c q.c r.c,fun b=>D.tup [p.e b.1,q.e b.2.1,r.e b.2.2],vTup3_le p.l q.l r.l⟩
def r4{A B C E:Type}(p:RK A)(q:RK B)(r:RK C)(s:RK E):RK (A×B×C×E):=⟨vTup4 p.c q.c r.c s.c,fun b=>D.tup [p.e b.1,q.e b.2.1,r.e b.2.2.1,s.e b.2.2.2],vTup4_le p.l q.l r.l s.l⟩
theorem tN{P:Program}:Qkj P (tab []):=Qaaq [] (by simp)
theorem tC{P:Program}{g:Nat}{r:Row}{l:List (Nat×Row)}(h:Qas P g r)(hl:Qkj P (tab l)):Qkj P (tab ((g,r)::l)):=by
 intro g' args h' nx K hk;simp only[tab] at hk;split at hk
 .rename_i he;subst he;exact h _ _ _ _ hk
 .exact hl _ _ _ _ _ hk
def ZA0:=J @VC0<|J @VC1<|J @VC2<|J @VC3<|J @VC4<|J @VC5<|J @VC6<|J @VC7<|J @VC8<|J @VC9<|J @VC10<|J @VC11<|J @VC12<|J @VC13<|J @VC14<|J @VC15<|J @VC16<|J @VC17<|J @VC18<|J @VC19<|J @VC20<|J @VC21<|J @VC22<|@VC23
def ZA1:=J @VC24<|J @VC25<|J @VC26<|J @VC27<|J @VC28<|J @VC29<|J @VC30<|J @VC31<|J @VC32<|J @VC33<|J @VC34<|J @VC35<|J @VC36<|J @VC37<|J @VC38<|J @VC39<|J @VC40<|J @VC41<|J @VC42<|J @VC43<|J @ZdA.{0}<|J @ZbY<|J @Bool.not_eq_false'<|@AV.im.injEq
def ZA2:=J @D.int.injEq<|J @D.bool.injEq<|J @D.str.injEq<|J @D.sl.injEq<|J @D.agg.injEq<|J @AV.own.injEq<|J @AV.ptr.injEq<|J @Zbk.{0,0}<|J @AObj.cells.injEq<|J @AObj.arr.injEq<|J @Zdl.{0}<|J @Int.cast_ofNat_Int<|J @Int.ofNat_lt<|J @Int.ofNat_le<|J @Int.natCast_nonneg<|J @ZdN<|J @Zct<|J @Zaf<|J @ZbV<|J @blt_dec<|J @ble_dec<|J @decide_true<|J @ZeS<|@Zan
def ZA3:=J @Zbp<|J @Zcn<|J @Zao.{0,0}<|J @ZaV.{0,0}<|J @Zcd.{0}<|J @ZbQ.{0}<|J @ZbI.{0}<|J @Zbq.{0}<|J @ZeZ.{0}<|J @Zfb.{0}<|J @Zbl.{1}<|J @Zbc.{1}<|J @ZaS.{0}<|J @ZaW.{0}<|J @ne_eq.{1}<|J @ZbH.{0}<|J @ZaJ.{0}<|J @ZaK.{0}<|J @ZaF.{0}<|J @ZbF.{0}<|J @and_true<|J @Zdk<|J @ZdU<|@not_true_eq_false
def ZA4:=J @or_true<|J @true_or<|J @ZaU<|J @ZbO<|J @ZdZ<|J @Zff<|J @false_or<|J @ZcG.{0}<|J @ZcN.{0}<|J @ZcE<|J @ZeI<|J @ZeJ<|J @Zef<|J @ZdO<|J @ZcX<|J @true_implies<|J @false_implies<|J @ZbD.{0,0}<|J @Zbn<|J @ZaD<|J @Zaz<|J @ZbX<|J @Zdi.{0}<|@Option.isSome_some.{0}
def ZA5:=J @Bool.false_bne<|J @Bool.true_bne<|J @Bool.not_not<|J @Zal<|J @Zam<|J @eq_self.{1}<|J @ZeF.{0}<|J @Bool.true_eq_false<|J @ZaB<|J @TY0<|J @TY1<|J @TY2<|J @TY3<|J @TY4<|J @KY0<|J @KY1<|J @CY0<|J @isG.eq_1<|J @qI.eq_1<|J @qU.eq_1<|J @qY.eq_1<|J @qB.eq_1<|J @qT.eq_1<|@qR.eq_1
def ZA6:=J @qP.eq_1<|J @qS.eq_1<|J @b1.eq_1<|J @b2.eq_1<|J @b3.eq_1<|J @b4.eq_1<|J @b5.eq_1<|J @b6.eq_1<|J @b7.eq_1<|J @rI.eq_1<|J @rB.eq_1<|J @rT.eq_1<|J @rA.eq_1<|J @rS.eq_1<|J @r2.eq_1<|J @r3.eq_1<|J @r4.eq_1<|J @vTup4.eq_1<|J @vTup4.eq_2<|J @kI.eq_1<|J @kI.eq_2<|J @kU.eq_1<|J @kU.eq_2<|@kY.eq_1
def ZA7:=J @kY.eq_2<|J @kB.eq_1<|J @kB.eq_2<|J @kT.eq_1<|J @kT.eq_2<|J @kR.eq_1<|J @kR.eq_2<|J @kP.eq_1<|J @kP.eq_2<|J @kS.eq_1<|J @kS.eq_2<|J @a1.eq_1<|J @a1.eq_2<|J @a2.eq_1<|J @a2.eq_2<|J @a3.eq_1<|J @a3.eq_2<|J @a4.eq_1<|J @a4.eq_2<|J @a5.eq_1<|J @a5.eq_2<|J @a6.eq_1<|J @a6.eq_2<|@a7.eq_1
def ZA8:=J @a7.eq_2<|J @decR.eq_1<|J @decR.eq_2<|J @RowVC_map<|J @intD.eq_1<|J @intD.eq_2<|J @strD.eq_1<|J @strD.eq_2<|J @intC.eq_1<|J @strC.eq_1<|J @Qmp<|J @strD_R<|J @vInt.eq_1<|J @vInt.eq_2<|J @vStr.eq_1<|J @vStr.eq_2<|J @Qa8.eq_1<|J @Qa8.eq_2<|J @vSl.eq_1<|J @vSl.eq_2<|J @vAgg.eq_1<|J @vAgg.eq_2<|J @Qfa.eq_1<|@Qfa.eq_2
def ZA9:=J @vTup3.eq_1<|J @vTup3.eq_2<|J @Qae.c.eq_1<|J @Qae.d.eq_1<|J @Qae.d.eq_2<|J @Qab.c.eq_1<|J @Qab.d.eq_1<|J @Qab.d.eq_2<|J @Qab.d_R<|J @Asm.c.eq_1<|J @Glue.c.eq_1<|J @Glue.d.eq_1<|J @Glue.d.eq_2<|J @Glue.d_R<|J @Tile.c.eq_1<|J @Tile.d.eq_1<|J @Tile.d.eq_2<|J @Tile.d_R<|J @Qaa.c.eq_1<|J @Qaa.d.eq_1<|J @Qaa.d.eq_2<|J @Qar.c.eq_1<|J @Qar.d.eq_1<|@Qar.d.eq_2
def ZA10:=J @Opt.c.eq_1<|J @Opt.d.eq_1<|J @Opt.d.eq_2<|J @Opt.d_R<|J @Sim.c.eq_1<|J @Sim.d.eq_1<|J @Sim.d.eq_2<|J @Bond.c.eq_1<|J @Bond.d.eq_1<|J @Bond.d.eq_2<|J @Bond.d_R<|J @ZaT.{0,0}<|J @Zab.{0}<|J @Zbv.{0,0}<|J @Qae.d_R<|J @Qae.eta<|J @Qab.eta<|J @Asm.eta<|J @Glue.eta<|J @Tile.eta<|J @Qaa.eta<|J @Qar.eta<|J @Opt.eta<|@Sim.eta
def ZA11:=J @Bond.eta<|J @Cry.c.eq_1<|J @Cry.d.eq_1<|J @Cry.d.eq_2<|J @Cry.eta<|J @Qmt<|J @Qk8<|J @Qqj<|J @rchL_nil<|J @rchL_cons<|J @rchE.eq_1<|J @rchE.eq_2<|J @rchE.eq_3<|J @Zbm.{0,0}<|@Zdt.{0,0}
def ZA:=J @ZA0<|J @ZA1<|J @ZA2<|J @ZA3<|J @ZA4<|J @ZA5<|J @ZA6<|J @ZA7<|J @ZA8<|J @ZA9<|J @ZA10<|@ZA11
def ZT0:=J @ChVC.eq_1<|J @Qcd.eq_1<|J @Qpb.eq_1<|J @Qpb.eq_2<|J @Qxv<|J @Net.c.eq_1<|J @Net.d.eq_1<|J @Net.d.eq_2<|J @Net.eta<|J @Nwk.c.eq_1<|J @Nwk.d.eq_1<|J @Nwk.d.eq_2<|J @Nwk.eta<|J @Pld.c.eq_1<|J @Pld.d.eq_1<|J @Pld.d.eq_2<|J @Qajo.c.eq_1<|J @Qajo.d.eq_1<|J @Qajo.d.eq_2<|J @Frac.c.eq_1<|J @Frac.d.eq_1<|J @Frac.d.eq_2<|J @Pld.eta<|@Qajo.eta
def ZT1:= @Frac.eta
def ZT:=J @ZT0 (@ZT1)
def ORC:=J @OneR_map<|J @Qag<|J @Qac<|J @Qaf @OneR_imp
def ORB:=J ORC (J @Zbi.{0} @ZbT.{0})
theorem Adq(b:Bool)(k:Nat)(x:List (List D)):Asm.d [.sl b k x]=(decR Qab.d x).bind fun y=>some ⟨y⟩:=rfl
def ZZ:=J ZA (J ZT @Adq)
theorem vq{A:Type}{ar:List PK->Option A}{pre:A->Prop}{re:A->D}(r:Row)(e:r=vrow ar pre re)(a:List AV)(h:Nat->Option Ent)(n:Nat)(K:Kont):r a h n K=Qa1 ar pre re (nmsL a) K (pkL h a):=by rw[e];rfl
theorem vqF{A:Type}{ar:List PK->Option A}{pre:A->Prop}{re:A->D}(r:Row)(e:r=Qfi ar pre re)(a:List AV)(h:Nat->Option Ent)(n:Nat)(K:Kont):r a h n K=Qct ar pre re (rchL h a) K (pkFL h a):=by rw[e];rfl
end Go.Ae
namespace Go.Ae
open Go.Proofs
def vK{A B:Type}(k:AK A)(r:RK B)(pre:A->Prop)(f:A->B):Row:=vrow k.r pre fun a=>r.e (f a)
def vKF{A B:Type}(k:AK A)(r:RK B)(pre:A->Prop)(f:A->B):Row:=Qfi k.r pre fun a=>r.e (f a)
section
variable {A B:Type}{R:Row}{k:AK A}{r:RK B}{pre:A->Prop}{f:A->B}
theorem vKq(e:R=vK k r pre f)(a:List AV)(h:Nat->Option Ent)(n:Nat)(K:Kont):R a h n K=Qa1 k.r pre (fun a=>r.e (f a)) (nmsL a) K (pkL h a):=by rw[e];rfl
theorem vKFq(e:R=vKF k r pre f)(a:List AV)(h:Nat->Option Ent)(n:Nat)(K:Kont):R a h n K=Qct k.r pre (fun a=>r.e (f a)) (rchL h a) K (pkFL h a):=by rw[e];rfl
variable {V:Qbh}(hV:Qkj Tryz.prog V){g:FuncId}{fn:Func}{c:Code}(hf:Tryz.prog.funcs[g]? =some fn)(hb:fn.body=some c)(hc:(chk fn.ntmps c && (calb Tryz.prog g && Nat.ble k.n fn.ntmps))=true)
include hV hf hb hc
theorem vw(hk: ∀a,pre a->awp Tryz.prog V c (retQ Tryz.prog fn.results.toList (cnum (k.e a)) [] exNo (Qc5 0 (k.e a)) (pureR r.c (f a))) ⟨entry 0 (Qcq 0 (k.e a)),Qc5 0 (k.e a),cnum (k.e a)⟩):Qas Tryz.prog g (vK k r pre f):=by
 simp only[Zaf] at hc;exact Qaj Qaq hV hf hb hc.1 hc.2.1 k.l k.w (ZcR hc.2.2) r.l hk
theorem vwF(hk: ∀a,pre a->awp Tryz.prog V c (Qxj Tryz.prog fn.results.toList (decD r.c (f a))) ⟨entry 0 (Qcq 0 (k.e a)),Qc5 0 (k.e a),cnum (k.e a)⟩):Qas Tryz.prog g (vKF k r pre f):=by
 simp only[Zaf] at hc;exact Qbn Qaq hV hf hb hc.1 hc.2.1 k.l k.w (ZcR hc.2.2) r.l hk
end
section
variable {V:Qbh}(hV:Qkj Tryz.prog V){g:FuncId}{fn:Func}{c:Code}(hf:Tryz.prog.funcs[g]? =some fn)(hb:fn.body=some c)(hc:(chk fn.ntmps c && calb Tryz.prog g)=true)
 {A:Type}{ca:A->List AV}{H0 H1:A->Qan}{k cnt:Nat}{pre:A->Prop}{klB exB:Nat->Bool}{r0:A->AV}{R:A->AV->Prop}
 (hn: ∀a,Nat.ble (ca a).length fn.ntmps=true)(hq: ∀a,belL k (ca a)=true/\belH k (H0 a)=true/\Qam k (H0 a)=true/\Qc2 (H0 a) (H0 a))
 (hH1: ∀a,∀p∈H1 a,(p.1<k/\klB p.1=true/\domB (H0 a) p.1=true)\/(k<=p.1/\p.1<k+cnt/\exB p.1=true/\p.2.1=true))
 (hR: ∀a r,R a r->LeV r (r0 a))
include hV hf hb hc hn hq hH1 hR
theorem ow(hk: ∀a,pre a->awp Tryz.prog V c (Qabl Tryz.prog fn.results.toList k cnt (H0 a) (H1 a) klB exB (R a)) ⟨entry 0 (ca a),H0 a,k⟩):Qas Tryz.prog g (orow ca H0 k pre klB r0 H1 cnt):=by
 simp only[Zaf] at hc;rintro args h nx K ⟨a,τ,U,KL,hpre,rfl,hheap,hN,hK⟩;refine⟨Qh7 hc.2,_,_,?_,hK⟩;exact objG Qaq hV hf hb hc.1 (ZcR (hn a)) (hq a).1 (hq a).2.1 (hq a).2.2.1 (fun j e he=>Qo2 (hq a).2.2.2 j e (Qgz he)) (hR a) (hH1 a) retBQ_ok (fun _ _ h=>h) (hk a hpre) hN.inj hN.lt
  (fun j e he=>Qpk hheap j e (Qgz he)) hN.u hN.k1 hN.k2
theorem owN(hk: ∀a,pre a->awp Tryz.prog V c (Qc7 Tryz.prog fn.results.toList k cnt (H0 a) (H1 a) klB exB (R a)) ⟨entry 0 (ca a),H0 a,k⟩):Qas Tryz.prog g (orow ca H0 k pre klB r0 H1 cnt):=by
 simp only[Zaf] at hc;rintro args h nx K ⟨a,τ,U,KL,hpre,rfl,hheap,hN,hK⟩;refine⟨Qh7 hc.2,_,_,?_,hK⟩;exact objG Qaq hV hf hb hc.1 (ZcR (hn a)) (hq a).1 (hq a).2.1 (hq a).2.2.1 (fun j e he=>Qo2 (hq a).2.2.2 j e (Qgz he)) (hR a) (hH1 a) retNQ_ok (fun _ _ h=>h) (hk a hpre) hN.inj hN.lt
  (fun j e he=>Qpk hheap j e (Qgz he)) hN.u hN.k1 hN.k2
end
def Qau(n lo hi:Int):Bool:=decide (lo<=n) && decide (n<=hi)
def within_.fv(a:Int×Int×Int):Bool:=(Qau) (a.1) (a.2.1) (a.2.2)
def within_.row:Row:=vK (b3 qI qI qI) rB (fun a=>True) within_.fv
def within_.q:=vKq (R:=within_.row) rfl
theorem within_.ok:Qas Tryz.prog 30 within_.row:=by
 refine vw tN Tryz.func30 rfl (by kernel_rfl) ?_;intro a hpre;simp only[Tryz.f30,Option.getD];simp(maxSteps:=9^9)(disch:=omega)only[ZZ,simprocAttr,rch,within_.fv];simp only[Qau];grind
def l00In.fv(a:Int×Int×Int):Bool:=(Qau) (a.1) (a.2.1) (a.2.2)
def l00In.row:Row:=vK (b3 qI qI qI) rB (fun a=>True) l00In.fv
def l00In.q:=vKq (R:=l00In.row) rfl
theorem l00In.ok:Qas Tryz.prog 21 l00In.row:=by
 refine vw tN Tryz.func21 rfl (by kernel_rfl) ?_;intro a hpre;simp only[Tryz.f21,Option.getD];simp(maxSteps:=9^9)(disch:=omega)only[ZZ,simprocAttr,rch,l00In.fv];simp only[Qau];grind
def I64(n:Int):Prop:= -9223372036854775808<=n/\n<=9223372036854775807
def isIndex.fv(a:Int×Int):Bool:=Qau a.1 0 (a.2 - 1)
def isIndex.row:Row:=vK (b2 qI qI) rB (fun a=>0<=a.2/\I64 a.2) isIndex.fv
def isIndex.q:=vKq (R:=isIndex.row) rfl
theorem isIndex.ok:Qas Tryz.prog 122 isIndex.row:=by
 refine vw (tC within_.ok tN) Tryz.func122 rfl (by kernel_rfl) ?_;intro a hpre;simp only[Tryz.f122,Option.getD];simp(maxSteps:=9^9)(disch:=omega)only[ZZ,simprocAttr,rch,isIndex.fv,within_.q,within_.fv];obtain⟨h1,h2,h3⟩:=hpre;rw[Qak (by omega) (by omega)]
def Qbi(p:Qae):Bool:=Qau p.X (-60) 60 && Qau p.Y (-60) 60
def ValidPoint.fv(a:Qae):Bool:=(Qbi) a
def ValidPoint.row:Row:=vK (b1 (qR Qae.d_le)) rB (fun a=>True) ValidPoint.fv
def ValidPoint.q:=vKq (R:=ValidPoint.row) rfl
theorem ValidPoint.ok:Qas Tryz.prog 121 ValidPoint.row:=by
 refine vw (tC within_.ok tN) Tryz.func121 rfl (by kernel_rfl) ?_;intro a hpre;simp only[Tryz.f121,Option.getD];simp(maxSteps:=9^9)(disch:=omega)only[ZZ,simprocAttr,rch,ValidPoint.fv,within_.q,within_.fv];simp only[Qbi];grind
def l01Point.fv(a:Qae):Bool:=(Qbi) a
def l01Point.row:Row:=vK (b1 (qR Qae.d_le)) rB (fun a=>True) l01Point.fv
def l01Point.q:=vKq (R:=l01Point.row) rfl
theorem l01Point.ok:Qas Tryz.prog 98 l01Point.row:=by
 refine vw (tC l00In.ok tN) Tryz.func98 rfl (by kernel_rfl) ?_;intro a hpre;simp only[Tryz.f98,Option.getD];simp(maxSteps:=9^9)(disch:=omega)only[ZZ,simprocAttr,rch,l01Point.fv,l00In.q,l00In.fv];simp only[Qbi];grind
def isNaN.fv(a:Int):Bool:=false && a==0
def isNaN.row:Row:=vK (b1 qI) rB (fun a=>True) isNaN.fv
def isNaN.q:=vKq (R:=isNaN.row) rfl
theorem isNaN.ok:Qas Tryz.prog 161 isNaN.row:=by
 refine vw tN Tryz.func161 rfl (by kernel_rfl) ?_;intro a hpre;simp only[Tryz.f161,Option.getD];simp(maxSteps:=9^9)(disch:=omega)only[ZZ,simprocAttr,rch,isNaN.fv]
 try simp
def cmpI(a b:Int):Int:=if a<b then -1 else if b<a then 1 else 0
def Compare.fv(a:Int×Int):Int:=(cmpI) (a.1) (a.2)
def Compare.row:Row:=vK (b2 qI qI) rI (fun a=>True) Compare.fv
def Compare.q:=vKq (R:=Compare.row) rfl
theorem Compare.ok:Qas Tryz.prog 150 Compare.row:=by
 refine vw (tC isNaN.ok tN) Tryz.func150 rfl (by kernel_rfl) ?_;intro a hpre;simp only[Tryz.f150,Option.getD];simp(maxSteps:=9^9)(disch:=omega)only[ZZ,simprocAttr,rch,Compare.fv,isNaN.q,isNaN.fv];simp only[cmpI];grind
def Qap(a b:Qae):Bool:=decide (a.Y<b.Y)||(decide (a.Y=b.Y) && decide (a.X<b.X))
def l_LessPoint.fv(a:Qae×Qae):Bool:=(Qap) (a.1) (a.2)
def l_LessPoint.row:Row:=vK (b2 (qR Qae.d_le) (qR Qae.d_le)) rB (fun a=>True) l_LessPoint.fv
def l_LessPoint.q:=vKq (R:=l_LessPoint.row) rfl
theorem l_LessPoint.ok:Qas Tryz.prog 99 l_LessPoint.row:=by
 refine vw tN Tryz.func99 rfl (by kernel_rfl) ?_;intro a hpre;simp only[Tryz.f99,Option.getD];simp(maxSteps:=9^9)(disch:=omega)only[ZZ,simprocAttr,rch,l_LessPoint.fv];simp only[Qap]
 grind
def minI(a b:Int):Int:=if a<b then a else b
def maxI(a b:Int):Int:=if b<a then a else b
def l00Min.fv(a:Int×Int):Int:=(minI) (a.1) (a.2)
def l00Min.row:Row:=vK (b2 qI qI) rI (fun a=>True) l00Min.fv
def l00Min.q:=vKq (R:=l00Min.row) rfl
theorem l00Min.ok:Qas Tryz.prog 128 l00Min.row:=by
 refine vw tN Tryz.func128 rfl (by kernel_rfl) ?_;intro a hpre;simp only[Tryz.f128,Option.getD];simp(maxSteps:=9^9)(disch:=omega)only[ZZ,simprocAttr,rch,l00Min.fv];simp only[minI];grind
def l00Max.fv(a:Int×Int):Int:=(maxI) (a.1) (a.2)
def l00Max.row:Row:=vK (b2 qI qI) rI (fun a=>True) l00Max.fv
def l00Max.q:=vKq (R:=l00Max.row) rfl
theorem l00Max.ok:Qas Tryz.prog 73 l00Max.row:=by
 refine vw tN Tryz.func73 rfl (by kernel_rfl) ?_;intro a hpre;simp only[Tryz.f73,Option.getD];simp(maxSteps:=9^9)(disch:=omega)only[ZZ,simprocAttr,rch,l00Max.fv];simp only[maxI];grind
def Qlk(c:Int):Bool:=Qau c 97 122||Qau c 65 90
def Qtq(c:Int):Bool:=Qau c 48 57
def l01Letter.fv(a:Int):Bool:=(Qlk) a
def l01Letter.row:Row:=vK (b1 qY) rB (fun a=>True) l01Letter.fv
def l01Letter.q:=vKq (R:=l01Letter.row) rfl
theorem l01Letter.ok:Qas Tryz.prog 125 l01Letter.row:=by
 refine vw tN Tryz.func125 rfl (by kernel_rfl) ?_;intro a hpre;simp only[Tryz.f125,Option.getD];simp(maxSteps:=9^9)(disch:=omega)only[ZZ,simprocAttr,rch,l01Letter.fv];simp only[Qlk,Qau];grind
def l01Digit.fv(a:Int):Bool:=(Qtq) a
def l01Digit.row:Row:=vK (b1 qY) rB (fun a=>True) l01Digit.fv
def l01Digit.q:=vKq (R:=l01Digit.row) rfl
theorem l01Digit.ok:Qas Tryz.prog 126 l01Digit.row:=by
 refine vw tN Tryz.func126 rfl (by kernel_rfl) ?_;intro a hpre;simp only[Tryz.f126,Option.getD];simp(maxSteps:=9^9)(disch:=omega)only[ZZ,simprocAttr,rch,l01Digit.fv];simp only[Qtq,Qau];grind
def addP(a b:Qae):Qae:=⟨a.X+b.X,a.Y+b.Y⟩
def Qdy(p:Qae):Prop:= -1000000000<=p.X/\p.X<=1000000000/\ -1000000000<=p.Y/\p.Y<=1000000000
def plus.fv(a:Qae×Qae):Qae:=(addP) (a.1) (a.2)
def plus.row:Row:=vK (b2 (qR Qae.d_le) (qR Qae.d_le)) (rA Qae.d_le) (fun a=>Qdy a.1/\Qdy a.2) plus.fv
def plus.q:=vKq (R:=plus.row) rfl
theorem plus.ok:Qas Tryz.prog 164 plus.row:=by
 refine vw tN Tryz.func164 rfl (by kernel_rfl) ?_;intro a hpre;simp only[Tryz.f164,Option.getD];simp(maxSteps:=9^9)(disch:=omega)only[ZZ,simprocAttr,rch,plus.fv];obtain⟨⟨h1,h2,h3,h4⟩,h5,h6,h7,h8⟩:=hpre;rw[Qak (by omega) (by omega),Qak (by omega) (by omega)];rfl
def Qf7(p:Qae)(d:Int):Qae:=if d=0 then ⟨p.X,p.Y+1⟩ else if d=1 then ⟨p.X+1,p.Y⟩ else if d=2 then ⟨p.X,p.Y - 1⟩ else ⟨p.X - 1,p.Y⟩
def step_.rc:D->Option (Qae):=vAgg Qae.d
def step_.re:Qae->D:=fun b=>D.agg (Qae.c b)
theorem step_.rle: ∀d b,step_.rc d=some b->Le d (step_.re b):=vAgg_le Qae.d_le
def step_.ar:List PK->Option (Qae×Int):=a2 (kR Qae.d) kI
def step_.fv(a:Qae×Int):Qae:=(Qf7) (a.1) (a.2)
def step_.row:Row:=vK (b2 (qR Qae.d_le) qI) (RK.mk step_.rc step_.re step_.rle) (fun a=>Qdy a.1/\0<=a.2/\a.2<=3) step_.fv
def step_.q:=vKq (R:=step_.row) rfl
theorem step_.ok:Qas Tryz.prog 157 step_.row:=by
 refine vw (tC plus.ok tN) Tryz.func157 rfl (by kernel_rfl) ?_;intro a hpre;simp only[Tryz.f157,Option.getD];obtain⟨p,d⟩:=a;obtain⟨hp,h1,h2⟩:=hpre;simp only at h1 h2 hp;rcases (by omega:d=0\/d=1\/d=2\/d=3) with rfl|rfl|rfl|rfl
 all_goals
  simp(maxSteps:=9^9)(disch:=omega)only[ZZ,simprocAttr,rch,step_.fv,step_.rc,plus.q,plus.fv];obtain⟨h3,h4,h5,h6⟩:=hp;refine⟨⟨⟨h3,h4,h5,h6⟩,by simp[Qdy]⟩,?_⟩;simp[Qf7,addP]<;>omega
def l01Step.fv(a:Qae×Int):Qae:=(Qf7) (a.1) (a.2)
def l01Step.row:Row:=vK (b2 (qR Qae.d_le) qI) (rA Qae.d_le) (fun a=>Qdy a.1/\0<=a.2/\a.2<=3) l01Step.fv
def l01Step.q:=vKq (R:=l01Step.row) rfl
theorem l01Step.ok:Qas Tryz.prog 100 l01Step.row:=by
 refine vw tN Tryz.func100 rfl (by kernel_rfl) ?_;intro a hpre;simp only[Tryz.f100,Option.getD];simp(maxSteps:=9^9)(disch:=omega)only[ZZ,simprocAttr,rch,l01Step.fv];obtain⟨⟨h1,h2,h3,h4⟩,h5,h6⟩:=hpre;rw[Qak (by omega) (by omega),Qak (by omega) (by omega),Qak (by omega) (by omega),Qak (by omega) (by omega)];simp only[Qf7]
 grind
def Qgr:List Int->Int
 |[]=>0
 |x::r=>if x=0 then Qgr r else x
def Or.fv(a:(List Int)):Int:=(Qgr) a
def Or.row:Row:=vK (b1 (qS Qb3 Qant)) rI (fun a=>True) Or.fv
def Or.q:=vKq (R:=Or.row) rfl
theorem Or.ok:Qas Tryz.prog 149 Or.row:=by
 refine vw tN Tryz.func149 rfl (by kernel_rfl) ?_;intro a hpre;simp only[Tryz.f149,Option.getD];simp(maxSteps:=9^9)(disch:=omega)only[ZZ,simprocAttr,rch,Or.fv];intro hlen;refine Qay.old ⟨{k:Nat//k<=a.length/\Qgr (a.drop k)=Qgr a},fun k=>⟨[(8,.im (.int .i64 k.1)),(7,.im (.int .i64 a.length)),(6,.im (.sl false 1 (a.map intC))),(3,.im (.int .i64 0)),(2,.im (.int .i64 0))],[],0⟩,fun k=>a.length - k.1,fun k=>⟨by simp[Qad.good,belT,belH,Qam,AV.bel,belL],Zal _⟩,⟨⟨0,by simp⟩,by simp(maxSteps:=9^9)(disch:=omega)only[ZZ,simprocAttr,rch,Or.fv,sub]⟩,fun k=> ?_⟩;obtain⟨k,hk1,hk2⟩:=k;simp(maxSteps:=9^9)(disch:=omega)only[ZZ,simprocAttr,rch,Or.fv,sub];simp only[Qal];refine⟨fun hk=>⟨hk,fun x hx=> ?_⟩,fun hk=> ?_⟩
 .have h1:a.drop k=x::a.drop (k+1):=by
   rw[Zcc hk];rw[Zac hk] at hx;rw[Zaa hx]
  rw[h1,Qgr] at hk2;refine⟨fun h=>by grind,fun h=>⟨⟨k+1,by omega,by grind⟩,by simp only;omega,?_⟩⟩;simp (disch:=omega) only[Qak];simp
 .have h1:a.drop k=[]:=Zaq (by omega);rw[h1] at hk2;exact hk2
def comparePoints.fv(a:Qae×Qae):Int:=(fun a b=>Qgr [cmpI a.Y b.Y,cmpI a.X b.X]) (a.1) (a.2)
def comparePoints.row:Row:=vK (b2 (qR Qae.d_le) (qR Qae.d_le)) rI (fun a=>True) comparePoints.fv
def comparePoints.q:=vKq (R:=comparePoints.row) rfl
theorem comparePoints.ok:Qas Tryz.prog 137 comparePoints.row:=by
 refine vw (tC Compare.ok (tC Or.ok tN)) Tryz.func137 rfl (by kernel_rfl) ?_;intro a hpre;simp only[Tryz.f137,Option.getD];simp(maxSteps:=9^9)(disch:=omega)only[ZZ,simprocAttr,rch,comparePoints.fv,Compare.q,Compare.fv,Or.q,Or.fv]
def impl_LessPoint.fv(a:Qae×Qae):Bool:=(Qap) (a.1) (a.2)
def impl_LessPoint.row:Row:=vK (b2 (qR Qae.d_le) (qR Qae.d_le)) rB (fun a=>True) impl_LessPoint.fv
def impl_LessPoint.q:=vKq (R:=impl_LessPoint.row) rfl
theorem impl_LessPoint.ok:Qas Tryz.prog 123 impl_LessPoint.row:=by
 refine vw (tC comparePoints.ok tN) Tryz.func123 rfl (by kernel_rfl) ?_;intro a hpre;simp only[Tryz.f123,Option.getD];simp(maxSteps:=9^9)(disch:=omega)only[ZZ,simprocAttr,rch,impl_LessPoint.fv,comparePoints.q,comparePoints.fv];simp only[Qap,Qgr,cmpI]
 grind
def Qc9(i:Nat)(c:Int):Bool:=Qlk c||(decide (i≠0) && (Qtq c||decide (c=95)))
def Qb2:Nat->List UInt8->Bool
 |_,[]=>true
 |i,c::r=>Qc9 i c.toNat && Qb2 (i+1) r
theorem Qaaz{a:ByteArray}{k:Nat}{c:UInt8}(hc:a.data[k]? =some c):a.data.toList.drop k=c::a.data.toList.drop (k+1):=by
 have h0:a.data.toList[k]? =some c:=by simpa using hc
 have hl:k<a.data.toList.length:=(Zaj.1 h0).1;rw[Zcc hl];rw[Zac hl] at h0;rw[Zaa h0]
theorem byteNone{a:ByteArray}{k:Nat}(h: ¬k<a.size):a.data.toList.drop k=[]:=Zaq (by simpa using h)
def Qei(s:ByteArray):Bool:=Qb2 0 s.data.toList && (decide (1<=s.size) && decide (s.size<=12))
def impl_IsName.fv(a:ByteArray):Bool:=(Qei) a
def impl_IsName.row:Row:=vK (b1 qT) rB (fun a=>a.size<=140737488355328) impl_IsName.fv
def impl_IsName.q:=vKq (R:=impl_IsName.row) rfl
theorem impl_IsName.ok:Qas Tryz.prog 118 impl_IsName.row:=by
 refine vw tN Tryz.func118 rfl (by kernel_rfl) ?_;intro a hpre;simp only[Tryz.f118,Option.getD];simp(maxSteps:=9^9)(disch:=omega)only[ZZ,simprocAttr,rch,impl_IsName.fv];refine Qay.old ⟨{k:Nat//k<=a.size/\Qb2 k (a.data.toList.drop k)=Qb2 0 a.data.toList},fun k=>⟨[(8,.im (.int .i64 k.1)),(7,.im (.int .i64 a.size)),(6,.im (.str a)),(0,.im (.str a)),(2,.im (.bool false))],[],0⟩,fun k=>a.size - k.1,fun k=>⟨by simp[Qad.good,belT,belH,Qam,AV.bel,belL],Zal _⟩,⟨⟨0,by simp⟩,by simp(maxSteps:=9^9)(disch:=omega)only[ZZ,simprocAttr,rch,impl_IsName.fv,sub]⟩,fun k=> ?_⟩;obtain⟨k,hk1,hk2⟩:=k;simp(maxSteps:=9^9)(disch:=omega)only[ZA,simprocAttr,Asm.d,rch,impl_IsName.fv,sub]
 split<;>rename_i hk
 .refine⟨hk,?_⟩;intro c hc;have hd:a.data.toList.drop k=c::a.data.toList.drop (k+1):=by
   have hl:k<a.data.toList.length:=by simpa using hk
   rw[Zcc hl]
   have:a.data.toList[k]? =some c:=by simpa using hc
   rw[Zac hl] at this;rw[Zaa this]
  rw[hd,Qb2] at hk2;by_cases e1:(97:Int)<=c.toNat<;>by_cases e2:(c.toNat:Int)<=122<;>(try (exfalso;omega))<;>by_cases e3:(65:Int)<=c.toNat<;>(try (exfalso;omega))<;>by_cases e4:(c.toNat:Int)<=90<;>(try (exfalso;omega))<;>
   by_cases e5:(c.toNat:Int)<48<;>(try (exfalso;omega))<;>by_cases e6:(57:Int)<c.toNat<;>(try (exfalso;omega))<;>by_cases e7:(c.toNat:Int)=95<;>(try (exfalso;omega))<;>by_cases e8:(k:Int)=0
  all_goals
   have e9:(48:Int)<=c.toNat↔ ¬(c.toNat:Int)<48:=by omega
   have e10:(c.toNat:Int)<=57↔ ¬(57:Int)<c.toNat:=by omega
   have e11:k=0↔(k:Int)=0:=by omega
   have hb:Qc9 k c.toNat=Qc9 k c.toNat:=rfl
   conv at hb=>
    rhs
    simp only[Qc9,Qlk,Qtq,Qau,e1,e2,e3,e4,e5,e6,e7,e8,e9,e10,e11,ne_eq,decide_true,ZeS,Zbn,ZbX,ZeI,ZcE,ZeJ,Zef,ZaD,Zaz,not_true_eq_false,ZdU]
   rw[hb] at hk2;simp(maxSteps:=9^9)(disch:=omega)only[ZZ,simprocAttr,rch,impl_IsName.fv,sub,e1,e2,e3,e4,e5,e6,e7,e8]
   first
    |(simp only[Zaz] at hk2
      simp only[Qei,<-hk2,Zaz])
    |(simp only[ZaD] at hk2
      refine⟨⟨k+1,by omega,hk2⟩,by simp only;omega,?_⟩;rw[Qak (by omega) (by omega)];simp only
      omega)
    |(have h9:Qb2 0 a.data.toList=false:=by rw[<-hk2];simp
      simp[Qei,h9])
 .have:a.data.toList.drop k=[]:=Zaq (by simpa using hk)
  rw[this,Qb2] at hk2;simp only[Qei]
  grind
def spec_IsName.fv(a:ByteArray):Bool:=(Qei) a
def spec_IsName.row:Row:=vK (b1 qT) rB (fun a=>True) spec_IsName.fv
def spec_IsName.q:=vKq (R:=spec_IsName.row) rfl
def Yaa:=J @spec_IsName.fv.eq_1<|J @l01Letter.q<|J @l01Letter.fv.eq_1<|J @l01Digit.q @l01Digit.fv.eq_1
theorem spec_IsName.ok:Qas Tryz.prog 93 spec_IsName.row:=by
 refine vw (tC l01Letter.ok (tC l01Digit.ok tN)) Tryz.func93 rfl (by kernel_rfl) ?_;intro a hpre;simp only[Tryz.f93,Option.getD];simp(maxSteps:=9^9)(disch:=omega)only[ZA,simprocAttr,Asm.d,rch,Yaa,Qal];refine⟨fun h1=>⟨fun h2=>⟨by omega,?_⟩,fun h2=> ?_⟩,fun h1=> ?_⟩
 .intro c hc;have hd:=Qaaz hc;rw[ZbQ] at hd;cases hL:Qlk c.toNat
  .simp(maxSteps:=9^9)(disch:=omega)only[ZZ,simprocAttr,rch,Yaa,hL];have h9:Qb2 0 a.data.toList=false:=by rw[hd];simp[Qb2,Qc9,hL]
   simp[Qei,h9]
  .simp(maxSteps:=9^9)(disch:=omega)only[ZZ,simprocAttr,rch,Yaa,hL];refine Qay.old ⟨{k:Nat//1<=k/\k<=a.size/\Qb2 k (a.data.toList.drop k)=Qb2 0 a.data.toList},fun k=>⟨[(3,.im (.int .i64 k.1)),(0,.im (.str a)),(2,.im (.bool false))],[],0⟩,fun k=>a.size - k.1,fun k=>⟨by simp[Qad.good,belT,belH,Qam,AV.bel,belL],Zal _⟩,⟨⟨1,by omega,by omega,?_⟩,by simp(maxSteps:=9^9)(disch:=omega)only[ZZ,simprocAttr,rch,Yaa,sub]⟩,fun k=> ?_⟩
   .conv=>rhs;rw[hd]
    simp[Qb2,Qc9,hL]
   .obtain⟨k,hk0,hk1,hk2⟩:=k;simp(maxSteps:=9^9)(disch:=omega)only[ZA,simprocAttr,Asm.d,rch,Yaa,sub,Qal];refine⟨fun hk=>⟨hk,fun c2 hc2=> ?_⟩,fun hk=> ?_⟩
    .rw[Qaaz hc2,Qb2] at hk2;simp(maxSteps:=9^9)(disch:=omega)only[ZZ,simprocAttr,rch,Yaa,sub,Qal];have hok:Qc9 k c2.toNat=true->Qb2 (k+1) (a.data.toList.drop (k+1))=Qb2 0 a.data.toList:=by
      intro h;rw[h] at hk2;simpa using hk2
     have hno:Qc9 k c2.toNat=false->false=Qei a:=by
      intro h;rw[h] at hk2;have h9:Qb2 0 a.data.toList=false:=by rw[<-hk2];simp
      simp[Qei,h9]
     have hfin:Qc9 k c2.toNat=true-> ∃b':{k:Nat//1<=k/\k<=a.size/\Qb2 k (a.data.toList.drop k)=Qb2 0 a.data.toList},a.size - b'.val<a.size - k/\IntKind.wrap .i64 ((k:Int)+1)=b'.val:=by
      intro h;refine⟨⟨k+1,by omega,by omega,hok h⟩,by simp only;omega,?_⟩;rw[Qak (by omega) (by omega)];simp only;omega
     have hk9:k≠0:=by omega
     refine⟨fun l=>⟨hk,fun c3 hc3=> ?_⟩,fun l=> ?_⟩
     .rw[hc2] at hc3;obtain rfl:=Zaa hc3;refine⟨fun l2=>⟨hk,fun c3 hc3=> ?_⟩,fun l2=> ?_⟩
      .rw[hc2] at hc3;obtain rfl:=Zaa hc3;refine⟨fun l3=>hno ?_,fun l3=>hfin ?_⟩
       .simp[Qc9,l,l2,l3]
       .simp only[ZaY] at l3;simp[Qc9,l3,hk9]
      .refine hfin ?_;simp only[Zbb] at l2;simp[Qc9,l2,hk9]
     .refine hfin ?_;simp only[Zbb] at l;simp[Qc9,l]
    .rw[byteNone hk,Qb2] at hk2;simp only[Qei]
     grind
 .simp only[Qei];grind
 .simp only[Qei];grind
theorem Qli{A:Type}{B:Type}(f:A->B)(z:B)(a:List A)(k:Nat)(x:A)(hx:a[k]? =some x):
 ((a.take k).map f++List.replicate (a.length - k) z).set k (f x)=(a.take (k+1)).map f++List.replicate (a.length - (k+1)) z:=by
 have hk:k<a.length:=(Zaj.1 hx).1;have h1:a.take (k+1)=a.take k++[x]:=by
  rw[Zbu,hx];rfl
 have h2:a.length - k=(a.length - (k+1))+1:=by omega
 rw[h1,h2,Zek,ZbG,Zbt,Zdf _ _ (by simp;omega)];have h3:k - (List.map f (List.take k a)).length=0:=by simp;omega
 rw[h3];rfl
theorem Qj5{A:Type}{B:Type}(f:A->B)(z:B)(a:List A)(k:Nat)(x:A)(hx:a[k]? =some x):
 ((a.take k).map f++List.replicate (a.length - k) z)[k]? =some z:=by
 have hk:k<a.length:=(Zaj.1 hx).1;rw[ZaI (by simp;omega)];have h3:k - (List.map f (List.take k a)).length=0:=by simp;omega
 rw[h3,ZbB,Zak (by omega)]
theorem Qk2{A:Type}{B:Type}(f:A->B)(z:B)(a:List A)(k:Nat)(hk:k<=a.length):((a.take k).map f++List.replicate (a.length - k) z).length=a.length:=by
 simp;omega
theorem Qkp{A:Type}{B:Type}(f:A->B)(z:B)(a:List A)(k:Nat)(hk:a.length<=k):(a.take k).map f++List.replicate (a.length - k) z=a.map f:=by
 rw[Zap hk,show a.length - k=0 by omega];simp
def toPoint.fv(a:Qae):Qae:=(fun p=>p) a
def toPoint.row:Row:=vK (b1 (qR Qae.d_le)) (rA Qae.d_le) (fun a=>True) toPoint.fv
def toPoint.q:=vKq (R:=toPoint.row) rfl
theorem toPoint.ok:Qas Tryz.prog 80 toPoint.row:=by
 refine vw tN Tryz.func80 rfl (by kernel_rfl) ?_;intro a hpre;simp only[Tryz.f80,Option.getD];simp(maxSteps:=9^9)(disch:=omega)only[ZZ,simprocAttr,rch,toPoint.fv]
def toPlaced.fv(a:Qab):Qab:=(fun p=>p) a
def toPlaced.row:Row:=vK (b1 (qR Qab.d_le)) (rA Qab.d_le) (fun a=>True) toPlaced.fv
def toPlaced.q:=vKq (R:=toPlaced.row) rfl
theorem toPlaced.ok:Qas Tryz.prog 49 toPlaced.row:=by
 refine vw (tC toPoint.ok tN) Tryz.func49 rfl (by kernel_rfl) ?_;intro a hpre;simp only[Tryz.f49,Option.getD];simp(maxSteps:=9^9)(disch:=omega)only[ZZ,simprocAttr,rch,toPlaced.fv,toPoint.q,toPoint.fv]
def toOption.fv(a:Opt):Opt:=(fun p=>p) a
def toOption.row:Row:=vK (b1 (qR Opt.d_le)) (rA Opt.d_le) (fun a=>True) toOption.fv
def toOption.q:=vKq (R:=toOption.row) rfl
theorem toOption.ok:Qas Tryz.prog 50 toOption.row:=by
 refine vw (tC toPoint.ok tN) Tryz.func50 rfl (by kernel_rfl) ?_;intro a hpre;simp only[Tryz.f50,Option.getD];simp(maxSteps:=9^9)(disch:=omega)only[ZZ,simprocAttr,rch,toOption.fv,toPoint.q,toPoint.fv]
def toGlue.fv(a:Glue):Glue:=(fun p=>p) a
def toGlue.row:Row:=vK (b1 (qR Glue.d_le)) (rA Glue.d_le) (fun a=>True) toGlue.fv
def toGlue.q:=vKq (R:=toGlue.row) rfl
theorem toGlue.ok:Qas Tryz.prog 78 toGlue.row:=by
 refine vw tN Tryz.func78 rfl (by kernel_rfl) ?_;intro a hpre;simp only[Tryz.f78,Option.getD];simp(maxSteps:=9^9)(disch:=omega)only[ZZ,simprocAttr,rch,toGlue.fv]
def toInt64S.fv(a:(List Int)):List Int:=(fun p=>p) a
def toInt64S.row:Row:=vK (b1 (qS Qb3 Qant)) (rS Qb3 Qant) (fun a=>a.length<=1073741824) toInt64S.fv
def toInt64S.q:=vKq (R:=toInt64S.row) rfl
theorem toInt64S.ok:Qas Tryz.prog 27 toInt64S.row:=by
 refine vw tN Tryz.func27 rfl (by kernel_rfl) ?_;intro a hpre;simp only[Tryz.f27,Option.getD];simp(maxSteps:=9^9)(disch:=omega)only[ZZ,simprocAttr,rch,toInt64S.fv];intro hlen;refine⟨by omega,?_⟩;refine Qay.old ⟨{k:Nat//k<=a.length},fun k=>⟨[(4,.im (.int .i64 k.1)),(3,.own 1),(0,.im (.sl false 1 (a.map intC)))],[(1,(true,.arr 2 1 ((a.take k.1).map intC++List.replicate (a.length - k.1) [.int .i64 0])))],2⟩,fun k=>a.length - k.1,fun k=>⟨by simp[Qad.good,belT,belH,Qam,AV.bel,belL],Zal _⟩,⟨⟨0,by omega⟩,by simp(maxSteps:=9^9)(disch:=omega)only[ZZ,simprocAttr,rch,toInt64S.fv,sub];simp⟩,fun k=> ?_⟩;obtain⟨k,hk1⟩:=k;simp(maxSteps:=9^9)(disch:=omega)only[ZZ,simprocAttr,rch,toInt64S.fv,sub,Qal,Qk2 _ _ a k hk1];intro _;refine⟨fun hk=>⟨hk,fun x hx=>⟨hk,hk,Qi3 (Qj5 intC [.int .i64 0] a k x hx) ?_⟩⟩,fun hk=> ?_⟩
 .simp(maxSteps:=9^9)(disch:=omega)only[ZZ,simprocAttr,rch,toInt64S.fv,sub];refine⟨⟨k+1,by omega⟩,by simp only;omega,?_,?_⟩
  .rw[Qak (by omega) (by omega)];simp only;omega
  .exact Qli intC [.int .i64 0] a k x hx
 .rw[Qkp intC _ a k (by omega)];simp[Qmp]
def eqPoint.fv(a:Qae×Qae):Bool:=(fun a b=>decide (a=b)) (a.1) (a.2)
def eqPoint.row:Row:=vK (b2 (qR Qae.d_le) (qR Qae.d_le)) rB (fun a=>True) eqPoint.fv
def eqPoint.q:=vKq (R:=eqPoint.row) rfl
theorem eqPoint.ok:Qas Tryz.prog 92 eqPoint.row:=by
 refine vw tN Tryz.func92 rfl (by kernel_rfl) ?_;intro a hpre;simp only[Tryz.f92,Option.getD];simp(maxSteps:=9^9)(disch:=omega)only[ZZ,simprocAttr,rch,eqPoint.fv];obtain⟨⟨x,y⟩,⟨z,w⟩⟩:=a;simp only[Qae.mk.injEq]
 grind
def eqPlaced.fv(a:Qab×Qab):Bool:=(fun a b=>decide (a=b)) (a.1) (a.2)
def eqPlaced.row:Row:=vK (b2 (qR Qab.d_le) (qR Qab.d_le)) rB (fun a=>True) eqPlaced.fv
def eqPlaced.q:=vKq (R:=eqPlaced.row) rfl
theorem eqPlaced.ok:Qas Tryz.prog 56 eqPlaced.row:=by
 refine vw (tC eqPoint.ok tN) Tryz.func56 rfl (by kernel_rfl) ?_;intro a hpre;simp only[Tryz.f56,Option.getD];simp(maxSteps:=9^9)(disch:=omega)only[ZZ,simprocAttr,rch,eqPlaced.fv,eqPoint.q,eqPoint.fv];obtain⟨⟨⟨x,y⟩,u⟩,⟨⟨z,w⟩,v⟩⟩:=a;simp only[Qab.mk.injEq,Qae.mk.injEq]
 grind
def eqGlue.fv(a:Glue×Glue):Bool:=(fun a b=>decide (a=b)) (a.1) (a.2)
def eqGlue.row:Row:=vK (b2 (qR Glue.d_le) (qR Glue.d_le)) rB (fun a=>True) eqGlue.fv
def eqGlue.q:=vKq (R:=eqGlue.row) rfl
theorem eqGlue.ok:Qas Tryz.prog 90 eqGlue.row:=by
 refine vw tN Tryz.func90 rfl (by kernel_rfl) ?_;intro a hpre;simp only[Tryz.f90,Option.getD];simp(maxSteps:=9^9)(disch:=omega)only[ZZ,simprocAttr,rch,eqGlue.fv];obtain⟨⟨x,y⟩,⟨z,w⟩⟩:=a;simp only[Glue.mk.injEq]
 grind
theorem Qew{A:Type}[DecidableEq A]{a b:List A}(hl:a.length=b.length){k:Nat}(hk:k<=a.length)(h:a.take k=b.take k){x y:A}(hx:a[k]? =some x)(hy:b[k]? =some y):
 (x=y->a.take (k+1)=b.take (k+1))/\(x≠y->a≠b):=by
 refine⟨fun hxy=> ?_,fun hxy hab=> ?_⟩
 .rw[Zbu,Zbu,h,hx,hy,hxy]
 .subst hab;rw[hx] at hy;exact hxy (Zaa hy)
def eqInt64S.fv(a:(List Int)×(List Int)):Bool:=(fun a b=>decide (a=b)) (a.1) (a.2)
def eqInt64S.row:Row:=vK (b2 (qS Qb3 Qant) (qS Qb3 Qant)) rB (fun a=>True) eqInt64S.fv
def eqInt64S.q:=vKq (R:=eqInt64S.row) rfl
theorem eqInt64S.ok:Qas Tryz.prog 35 eqInt64S.row:=by
 refine vw tN Tryz.func35 rfl (by kernel_rfl) ?_;intro a hpre;simp only[Tryz.f35,Option.getD];simp(maxSteps:=9^9)(disch:=omega)only[ZZ,simprocAttr,rch,eqInt64S.fv];intro h1 h2;simp only[Qal];refine⟨fun hl=> ?_,fun hl=> ?_⟩
 .have:a.1≠a.2:=fun h=>hl (by rw[h])
  simp[this]
 have hl:a.1.length=a.2.length:=by omega
 refine Qay.old ⟨{k:Nat//k<=a.1.length/\a.1.take k=a.2.take k},fun k=>⟨[(5,.im (.int .i64 k.1)),(4,.im (.bool false)),(0,.im (.sl false 1 (a.1.map intC))),(1,.im (.sl false 1 (a.2.map intC)))],[],0⟩,fun k=>a.1.length - k.1,fun k=>⟨by simp[Qad.good,belT,belH,Qam,AV.bel,belL],Zal _⟩,⟨⟨0,by simp⟩,by simp(maxSteps:=9^9)(disch:=omega)only[ZZ,simprocAttr,rch,eqInt64S.fv,sub]⟩,fun k=> ?_⟩;obtain⟨k,hk1,hk2⟩:=k;simp(maxSteps:=9^9)(disch:=omega)only[ZZ,simprocAttr,rch,eqInt64S.fv,sub,Qal];intro _;refine⟨fun hk=>⟨hk,fun x hx=>⟨by omega,fun y hy=> ?_⟩⟩,fun hk=> ?_⟩
 .obtain⟨g1,g2⟩:=Qew hl hk1 hk2 hx hy;exact⟨fun h=>by simp[g2 h],fun h=>Qb6 hk h1 ⟨by omega,g1 (by simpa using h)⟩⟩
 .rw[Zap (by omega),Zap (by omega)] at hk2;simp[hk2]
def szC(n:Int)(left:Int):Int:=if left - n<0 then -1 else left - n
def szInt64S.fv(a:(List Int)×Int):Int:=(fun a l=>szC a.length l) (a.1) (a.2)
def szInt64S.row:Row:=vK (b2 (qS Qb3 Qant) qI) rI (fun a=> -1<=a.2/\a.2<=1048576) szInt64S.fv
def szInt64S.q:=vKq (R:=szInt64S.row) rfl
theorem szInt64S.ok:Qas Tryz.prog 18 szInt64S.row:=by
 refine vw tN Tryz.func18 rfl (by kernel_rfl) ?_;intro a hpre;simp only[Tryz.f18,Option.getD];simp(maxSteps:=9^9)(disch:=omega)only[ZZ,simprocAttr,rch,szInt64S.fv];intro h;rw[Qak (by omega) (by omega)];simp only[szC];grind
def szPlacedS.fv(a:(List Qab)×Int):Int:=(fun a l=>szC a.length l) (a.1) (a.2)
def szPlacedS.row:Row:=vK (b2 (qS Qab.d_le Qab.c_n) qI) rI (fun a=> -1<=a.2/\a.2<=1048576) szPlacedS.fv
def szPlacedS.q:=vKq (R:=szPlacedS.row) rfl
theorem szPlacedS.ok:Qas Tryz.prog 16 szPlacedS.row:=by
 refine vw tN Tryz.func16 rfl (by kernel_rfl) ?_;intro a hpre;simp only[Tryz.f16,Option.getD];simp(maxSteps:=9^9)(disch:=omega)only[ZZ,simprocAttr,rch,szPlacedS.fv];intro h;rw[Qak (by omega) (by omega)];simp only[szC];grind
def Qab3(a:Asm)(l:Int):Int:=szC a.Tiles.length l
def szAssembly.fv(a:Asm×Int):Int:=(Qab3) (a.1) (a.2)
def szAssembly.row:Row:=vK (b2 (qR Asm.d_le) qI) rI (fun a=> -1<=a.2/\a.2<=1048576) szAssembly.fv
def szAssembly.q:=vKq (R:=szAssembly.row) rfl
theorem szAssembly.ok:Qas Tryz.prog 5 szAssembly.row:=by
 refine vw (tC szPlacedS.ok tN) Tryz.func5 rfl (by kernel_rfl) ?_;intro a hpre;simp only[Tryz.f5,Option.getD];simp(maxSteps:=9^9)(disch:=omega)only[ZZ,simprocAttr,rch,szAssembly.fv,szPlacedS.q,szPlacedS.fv];refine⟨hpre,?_⟩;simp only[Qab3,szC];grind
def eqGlueS.fv(a:(List Glue)×(List Glue)):Bool:=(fun a b=>decide (a=b)) (a.1) (a.2)
def eqGlueS.row:Row:=vK (b2 (qS Glue.d_le Glue.c_n) (qS Glue.d_le Glue.c_n)) rB (fun a=>True) eqGlueS.fv
def eqGlueS.q:=vKq (R:=eqGlueS.row) rfl
def Yab:=J @eqGlueS.fv.eq_1 (J @eqGlue.q @eqGlue.fv.eq_1)
theorem eqGlueS.ok:Qas Tryz.prog 54 eqGlueS.row:=by
 refine vw (tC eqGlue.ok tN) Tryz.func54 rfl (by kernel_rfl) ?_;intro a hpre;simp only[Tryz.f54,Option.getD];simp(maxSteps:=9^9)(disch:=omega)only[ZZ,simprocAttr,rch,Yab];intro h1 h2;simp only[Qal];refine⟨fun hl=> ?_,fun hl=> ?_⟩
 .have:a.1≠a.2:=fun h=>hl (by rw[h])
  simp[this]
 have hl:a.1.length=a.2.length:=by omega
 refine Qay.old ⟨{k:Nat//k<=a.1.length/\a.1.take k=a.2.take k},fun k=>⟨[(5,.im (.int .i64 k.1)),(4,.im (.bool false)),(0,.im (.sl false 2 (a.1.map Glue.c))),(1,.im (.sl false 2 (a.2.map Glue.c)))],[],0⟩,fun k=>a.1.length - k.1,fun k=>⟨by simp[Qad.good,belT,belH,Qam,AV.bel,belL],Zal _⟩,⟨⟨0,by simp⟩,by simp(maxSteps:=9^9)(disch:=omega)only[ZZ,simprocAttr,rch,Yab,sub]⟩,fun k=> ?_⟩;obtain⟨k,hk1,hk2⟩:=k;simp(maxSteps:=9^9)(disch:=omega)only[ZZ,simprocAttr,rch,Yab,sub,Qal];intro _;refine⟨fun hk=>⟨hk,fun x hx=>⟨by omega,fun y hy=> ?_⟩⟩,fun hk=> ?_⟩
 .obtain⟨g1,g2⟩:=Qew hl hk1 hk2 hx hy;exact⟨fun h=>by simp[g2 (show x≠y from h)],fun h=>Qb6 hk h1 ⟨by omega,g1 (show x=y from ZaY.1 h)⟩⟩
 .rw[Zap (by omega),Zap (by omega)] at hk2;simp[hk2]
theorem Tile_eq(a b:Tile):decide (a=b)=(decide (a.Name=b.Name) && decide (a.Sides=b.Sides)):=by
 obtain⟨x,y⟩:=a;obtain⟨z,w⟩:=b;simp[Tile.mk.injEq]
def eqTile.fv(a:Tile×Tile):Bool:=(fun a b=>decide (a=b)) (a.1) (a.2)
def eqTile.row:Row:=vK (b2 (qR Tile.d_le) (qR Tile.d_le)) rB (fun a=>True) eqTile.fv
def eqTile.q:=vKq (R:=eqTile.row) rfl
theorem eqTile.ok:Qas Tryz.prog 91 eqTile.row:=by
 refine vw (tC eqInt64S.ok tN) Tryz.func91 rfl (by kernel_rfl) ?_;intro a hpre;simp only[Tryz.f91,Option.getD];simp(maxSteps:=9^9)(disch:=omega)only[ZZ,simprocAttr,rch,eqTile.fv,eqInt64S.q,eqInt64S.fv];rw[Tile_eq]
 grind
def eqTileS.fv(a:(List Tile)×(List Tile)):Bool:=(fun a b=>decide (a=b)) (a.1) (a.2)
def eqTileS.row:Row:=vK (b2 (qS Tile.d_le Tile.c_n) (qS Tile.d_le Tile.c_n)) rB (fun a=>True) eqTileS.fv
def eqTileS.q:=vKq (R:=eqTileS.row) rfl
def Yac:=J @eqTileS.fv.eq_1 (J @eqTile.q @eqTile.fv.eq_1)
theorem eqTileS.ok:Qas Tryz.prog 55 eqTileS.row:=by
 refine vw (tC eqTile.ok tN) Tryz.func55 rfl (by kernel_rfl) ?_;intro a hpre;simp only[Tryz.f55,Option.getD];simp(maxSteps:=9^9)(disch:=omega)only[ZZ,simprocAttr,rch,Yac];intro h1 h2;simp only[Qal];refine⟨fun hl=> ?_,fun hl=> ?_⟩
 .have:a.1≠a.2:=fun h=>hl (by rw[h])
  simp[this]
 have hl:a.1.length=a.2.length:=by omega
 refine Qay.old ⟨{k:Nat//k<=a.1.length/\a.1.take k=a.2.take k},fun k=>⟨[(5,.im (.int .i64 k.1)),(4,.im (.bool false)),(0,.im (.sl false 2 (a.1.map Tile.c))),(1,.im (.sl false 2 (a.2.map Tile.c)))],[],0⟩,fun k=>a.1.length - k.1,fun k=>⟨by simp[Qad.good,belT,belH,Qam,AV.bel,belL],Zal _⟩,⟨⟨0,by simp⟩,by simp(maxSteps:=9^9)(disch:=omega)only[ZZ,simprocAttr,rch,Yac,sub]⟩,fun k=> ?_⟩;obtain⟨k,hk1,hk2⟩:=k;simp(maxSteps:=9^9)(disch:=omega)only[ZZ,simprocAttr,rch,Yac,sub,Qal];intro _;refine⟨fun hk=>⟨hk,fun x hx=>⟨by omega,fun y hy=> ?_⟩⟩,fun hk=> ?_⟩
 .obtain⟨g1,g2⟩:=Qew hl hk1 hk2 hx hy;exact⟨fun h=>by simp[g2 (show x≠y from h)],fun h=>Qb6 hk h1 ⟨by omega,g1 (show x=y from ZaY.1 h)⟩⟩
 .rw[Zap (by omega),Zap (by omega)] at hk2;simp[hk2]
def eqPlacedS.fv(a:(List Qab)×(List Qab)):Bool:=(fun a b=>decide (a=b)) (a.1) (a.2)
def eqPlacedS.row:Row:=vK (b2 (qS Qab.d_le Qab.c_n) (qS Qab.d_le Qab.c_n)) rB (fun a=>True) eqPlacedS.fv
def eqPlacedS.q:=vKq (R:=eqPlacedS.row) rfl
def Yad:=J @eqPlacedS.fv.eq_1 (J @eqPlaced.q @eqPlaced.fv.eq_1)
theorem eqPlacedS.ok:Qas Tryz.prog 33 eqPlacedS.row:=by
 refine vw (tC eqPlaced.ok tN) Tryz.func33 rfl (by kernel_rfl) ?_;intro a hpre;simp only[Tryz.f33,Option.getD];simp(maxSteps:=9^9)(disch:=omega)only[ZZ,simprocAttr,rch,Yad];intro h1 h2;simp only[Qal];refine⟨fun hl=> ?_,fun hl=> ?_⟩
 .have:a.1≠a.2:=fun h=>hl (by rw[h])
  simp[this]
 have hl:a.1.length=a.2.length:=by omega
 refine Qay.old ⟨{k:Nat//k<=a.1.length/\a.1.take k=a.2.take k},fun k=>⟨[(5,.im (.int .i64 k.1)),(4,.im (.bool false)),(0,.im (.sl false 3 (a.1.map Qab.c))),(1,.im (.sl false 3 (a.2.map Qab.c)))],[],0⟩,fun k=>a.1.length - k.1,fun k=>⟨by simp[Qad.good,belT,belH,Qam,AV.bel,belL],Zal _⟩,⟨⟨0,by simp⟩,by simp(maxSteps:=9^9)(disch:=omega)only[ZZ,simprocAttr,rch,Yad,sub]⟩,fun k=> ?_⟩;obtain⟨k,hk1,hk2⟩:=k;simp(maxSteps:=9^9)(disch:=omega)only[ZZ,simprocAttr,rch,Yad,sub,Qal];intro _;refine⟨fun hk=>⟨hk,fun x hx=>⟨by omega,fun y hy=> ?_⟩⟩,fun hk=> ?_⟩
 .obtain⟨g1,g2⟩:=Qew hl hk1 hk2 hx hy;exact⟨fun h=>by simp[g2 (show x≠y from h)],fun h=>Qb6 hk h1 ⟨by omega,g1 (show x=y from ZaY.1 h)⟩⟩
 .rw[Zap (by omega),Zap (by omega)] at hk2;simp[hk2]
def eqTileSet.fv(a:Qaa×Qaa):Bool:=(fun a b=>decide (a=b)) (a.1) (a.2)
def eqTileSet.row:Row:=vK (b2 (qR Qaa.d_le) (qR Qaa.d_le)) rB (fun a=>True) eqTileSet.fv
def eqTileSet.q:=vKq (R:=eqTileSet.row) rfl
theorem eqTileSet.ok:Qas Tryz.prog 32 eqTileSet.row:=by
 refine vw (tC eqGlueS.ok (tC eqTileS.ok tN)) Tryz.func32 rfl (by kernel_rfl) ?_;intro a hpre;simp only[Tryz.f32,Option.getD];simp(maxSteps:=9^9)(disch:=omega)only[ZZ,simprocAttr,rch,eqTileSet.fv,eqGlueS.q,eqGlueS.fv,eqTileS.q,eqTileS.fv];obtain⟨⟨x,y⟩,⟨z,w⟩⟩:=a;simp only[Qaa.mk.injEq]
 grind
def eqAssembly.fv(a:Asm×Asm):Bool:=(fun a b=>decide (a=b)) (a.1) (a.2)
def eqAssembly.row:Row:=vK (b2 (qR Asm.d_le) (qR Asm.d_le)) rB (fun a=>True) eqAssembly.fv
def eqAssembly.q:=vKq (R:=eqAssembly.row) rfl
theorem eqAssembly.ok:Qas Tryz.prog 13 eqAssembly.row:=by
 refine vw (tC eqPlacedS.ok tN) Tryz.func13 rfl (by kernel_rfl) ?_;intro a hpre;simp only[Tryz.f13,Option.getD];simp(maxSteps:=9^9)(disch:=omega)only[ZZ,simprocAttr,rch,eqAssembly.fv,eqPlacedS.q,eqPlacedS.fv];obtain⟨⟨x⟩,⟨z⟩⟩:=a;simp only[Asm.mk.injEq]
 grind
def eqSystem.fv(a:Qar×Qar):Bool:=(fun a b=>decide (a=b)) (a.1) (a.2)
def eqSystem.row:Row:=vK (b2 (qR Qar.d_le) (qR Qar.d_le)) rB (fun a=>True) eqSystem.fv
def eqSystem.q:=vKq (R:=eqSystem.row) rfl
theorem eqSystem.ok:Qas Tryz.prog 12 eqSystem.row:=by
 refine vw (tC eqTileSet.ok (tC eqAssembly.ok tN)) Tryz.func12 rfl (by kernel_rfl) ?_;intro a hpre;simp only[Tryz.f12,Option.getD];simp(maxSteps:=9^9)(disch:=omega)only[ZZ,simprocAttr,rch,eqSystem.fv,eqTileSet.q,eqTileSet.fv,eqAssembly.q,eqAssembly.fv];obtain⟨⟨⟨x,x1⟩,⟨y⟩,u⟩,⟨⟨z,z1⟩,⟨w⟩,v⟩⟩:=a;simp only[Qar.mk.injEq,Qaa.mk.injEq,Asm.mk.injEq]
 grind
def toTile.fv(a:Tile):Tile:=(fun p=>p) a
def toTile.row:Row:=vK (b1 (qR Tile.d_le)) (rA Tile.d_le) (fun a=>a.Sides.length<=1073741824) toTile.fv
def toTile.q:=vKq (R:=toTile.row) rfl
theorem toTile.ok:Qas Tryz.prog 79 toTile.row:=by
 refine vw (tC toInt64S.ok tN) Tryz.func79 rfl (by kernel_rfl) ?_;intro a hpre;simp only[Tryz.f79,Option.getD];simp(maxSteps:=9^9)(disch:=omega)only[ZZ,simprocAttr,rch,toTile.fv,toInt64S.q,toInt64S.fv];exact hpre
def toGlueS.fv(a:(List Glue)):List Glue:=(fun p=>p) a
def toGlueS.row:Row:=vK (b1 (qS Glue.d_le Glue.c_n)) (rS Glue.d_le Glue.c_n) (fun a=>a.length<=1073741824) toGlueS.fv
def toGlueS.q:=vKq (R:=toGlueS.row) rfl
def Yae:=J @toGlueS.fv.eq_1 (J @toGlue.q @toGlue.fv.eq_1)
theorem toGlueS.ok:Qas Tryz.prog 47 toGlueS.row:=by
 refine vw (tC toGlue.ok tN) Tryz.func47 rfl (by kernel_rfl) ?_;intro a hpre;simp only[Tryz.f47,Option.getD];simp(maxSteps:=9^9)(disch:=omega)only[ZZ,simprocAttr,rch,Yae];intro hlen;have hpl:a.length<=1073741824:=hpre;refine⟨by omega,?_⟩;refine Qay.old ⟨{k:Nat//k<=a.length},fun k=>⟨[(4,.im (.int .i64 k.1)),(3,.own 1),(0,.im (.sl false 2 (a.map Glue.c)))],[(1,(true,.arr 159 2 ((a.take k.1).map Glue.c++List.replicate (a.length - k.1) [.str ByteArray.empty,.int .i64 0])))],2⟩,fun k=>a.length - k.1,fun k=>⟨by simp[Qad.good,belT,belH,Qam,AV.bel,belL],Zal _⟩,⟨⟨0,by omega⟩,by simp(maxSteps:=9^9)(disch:=omega)only[ZZ,simprocAttr,rch,Yae,sub];simp⟩,fun k=> ?_⟩;obtain⟨k,hk1⟩:=k;simp(maxSteps:=9^9)(disch:=omega)only[ZZ,simprocAttr,rch,Yae,sub,Qal,Qk2 _ _ a k hk1];intro _;refine⟨fun hk=> ?_,fun hk=> ?_⟩
 .refine⟨hk,fun x hx=>⟨hk,hk,Qi3 (Qj5 Glue.c _ a k x hx) ?_⟩⟩;simp(maxSteps:=9^9)(disch:=omega)only[ZZ,simprocAttr,rch,Yae,sub];refine⟨⟨k+1,by omega⟩,by simp only;omega,?_,?_⟩
  .rw[Qak (by omega) (by omega)];simp only;omega
  .exact Qli Glue.c _ a k x hx
 .rw[Qkp Glue.c _ a k (by omega)];simp[Glue.d_R]
def toPlacedS.fv(a:(List Qab)):List Qab:=(fun p=>p) a
def toPlacedS.row:Row:=vK (b1 (qS Qab.d_le Qab.c_n)) (rS Qab.d_le Qab.c_n) (fun a=>a.length<=1073741824) toPlacedS.fv
def toPlacedS.q:=vKq (R:=toPlacedS.row) rfl
def Yaf:=J @toPlacedS.fv.eq_1 (J @toPlaced.q @toPlaced.fv.eq_1)
theorem toPlacedS.ok:Qas Tryz.prog 25 toPlacedS.row:=by
 refine vw (tC toPlaced.ok tN) Tryz.func25 rfl (by kernel_rfl) ?_;intro a hpre;simp only[Tryz.f25,Option.getD];simp(maxSteps:=9^9)(disch:=omega)only[ZZ,simprocAttr,rch,Yaf];intro hlen;have hpl:a.length<=1073741824:=hpre;refine⟨by omega,?_⟩;refine Qay.old ⟨{k:Nat//k<=a.length},fun k=>⟨[(4,.im (.int .i64 k.1)),(3,.own 1),(0,.im (.sl false 3 (a.map Qab.c)))],[(1,(true,.arr 103 3 ((a.take k.1).map Qab.c++List.replicate (a.length - k.1) [.int .i64 0,.int .i64 0,.int .i64 0])))],2⟩,fun k=>a.length - k.1,fun k=>⟨by simp[Qad.good,belT,belH,Qam,AV.bel,belL],Zal _⟩,⟨⟨0,by omega⟩,by simp(maxSteps:=9^9)(disch:=omega)only[ZZ,simprocAttr,rch,Yaf,sub];simp⟩,fun k=> ?_⟩;obtain⟨k,hk1⟩:=k;simp(maxSteps:=9^9)(disch:=omega)only[ZZ,simprocAttr,rch,Yaf,sub,Qal,Qk2 _ _ a k hk1];intro _;refine⟨fun hk=> ?_,fun hk=> ?_⟩
 .refine⟨hk,fun x hx=>⟨hk,hk,Qi3 (Qj5 Qab.c _ a k x hx) ?_⟩⟩;simp(maxSteps:=9^9)(disch:=omega)only[ZZ,simprocAttr,rch,Yaf,sub];refine⟨⟨k+1,by omega⟩,by simp only;omega,?_,?_⟩
  .rw[Qak (by omega) (by omega)];simp only;omega
  .exact Qli Qab.c _ a k x hx
 .rw[Qkp Qab.c _ a k (by omega)];simp[Qab.d_R]
def toTileS.fv(a:(List Tile)):List Tile:=(fun p=>p) a
def toTileS.row:Row:=vK (b1 (qS Tile.d_le Tile.c_n)) (rS Tile.d_le Tile.c_n) (fun a=>a.length<=1073741824/\ ∀x∈a,x.Sides.length<=1073741824) toTileS.fv
def toTileS.q:=vKq (R:=toTileS.row) rfl
def Yag:=J @toTileS.fv.eq_1 (J @toTile.q @toTile.fv.eq_1)
theorem toTileS.ok:Qas Tryz.prog 48 toTileS.row:=by
 refine vw (tC toTile.ok tN) Tryz.func48 rfl (by kernel_rfl) ?_;intro a hpre;simp only[Tryz.f48,Option.getD];simp(maxSteps:=9^9)(disch:=omega)only[ZZ,simprocAttr,rch,Yag];intro hlen;have hpl:a.length<=1073741824:=hpre.1;refine⟨by omega,?_⟩;refine Qay.old ⟨{k:Nat//k<=a.length},fun k=>⟨[(4,.im (.int .i64 k.1)),(3,.own 1),(0,.im (.sl false 2 (a.map Tile.c)))],[(1,(true,.arr 161 2 ((a.take k.1).map Tile.c++List.replicate (a.length - k.1) [.str ByteArray.empty,.sl true 0 []])))],2⟩,fun k=>a.length - k.1,fun k=>⟨by simp[Qad.good,belT,belH,Qam,AV.bel,belL],Zal _⟩,⟨⟨0,by omega⟩,by simp(maxSteps:=9^9)(disch:=omega)only[ZZ,simprocAttr,rch,Yag,sub];simp⟩,fun k=> ?_⟩;obtain⟨k,hk1⟩:=k;simp(maxSteps:=9^9)(disch:=omega)only[ZZ,simprocAttr,rch,Yag,sub,Qal,Qk2 _ _ a k hk1];intro _;refine⟨fun hk=> ?_,fun hk=> ?_⟩
 .refine⟨hk,fun x hx=>⟨hpre.2 x (Zae hx),hk,hk,Qi3 (Qj5 Tile.c _ a k x hx) ?_⟩⟩;simp(maxSteps:=9^9)(disch:=omega)only[ZZ,simprocAttr,rch,Yag,sub];refine⟨⟨k+1,by omega⟩,by simp only;omega,?_,?_⟩
  .rw[Qak (by omega) (by omega)];simp only;omega
  .exact Qli Tile.c _ a k x hx
 .rw[Qkp Tile.c _ a k (by omega)];simp[Tile.d_R]
def smSet(s:Qaa):Prop:=s.Glues.length<=1073741824/\s.Tiles.length<=1073741824/\ ∀x∈s.Tiles,x.Sides.length<=1073741824
def toTileSet.fv(a:Qaa):Qaa:=(fun p=>p) a
def toTileSet.row:Row:=vK (b1 (qR Qaa.d_le)) (rA Qaa.d_le) (fun a=>smSet a) toTileSet.fv
def toTileSet.q:=vKq (R:=toTileSet.row) rfl
theorem toTileSet.ok:Qas Tryz.prog 24 toTileSet.row:=by
 refine vw (tC toGlueS.ok (tC toTileS.ok tN)) Tryz.func24 rfl (by kernel_rfl) ?_;intro a hpre;simp only[Tryz.f24,Option.getD];simp(maxSteps:=9^9)(disch:=omega)only[ZZ,simprocAttr,rch,toTileSet.fv,toGlueS.q,toGlueS.fv,toTileS.q,toTileS.fv];exact hpre
def toAssembly.fv(a:Asm):Asm:=(fun p=>p) a
def toAssembly.row:Row:=vK (b1 (qR Asm.d_le)) (rA Asm.d_le) (fun a=>a.Tiles.length<=1073741824) toAssembly.fv
def toAssembly.q:=vKq (R:=toAssembly.row) rfl
theorem toAssembly.ok:Qas Tryz.prog 9 toAssembly.row:=by
 refine vw (tC toPlacedS.ok tN) Tryz.func9 rfl (by kernel_rfl) ?_;intro a hpre;simp only[Tryz.f9,Option.getD];simp(maxSteps:=9^9)(disch:=omega)only[ZZ,simprocAttr,rch,toAssembly.fv,toPlacedS.q,toPlacedS.fv];exact hpre
def smSys(s:Qar):Prop:=smSet s.Set/\s.Seed.Tiles.length<=1073741824
def toSystem.fv(a:Qar):Qar:=(fun p=>p) a
def toSystem.row:Row:=vK (b1 (qR Qar.d_le)) (rA Qar.d_le) (fun a=>smSys a) toSystem.fv
def toSystem.q:=vKq (R:=toSystem.row) rfl
theorem toSystem.ok:Qas Tryz.prog 8 toSystem.row:=by
 refine vw (tC toTileSet.ok (tC toAssembly.ok tN)) Tryz.func8 rfl (by kernel_rfl) ?_;intro a hpre;simp only[Tryz.f8,Option.getD];simp(maxSteps:=9^9)(disch:=omega)only[ZZ,simprocAttr,rch,toSystem.fv,toTileSet.q,toTileSet.fv,toAssembly.q,toAssembly.fv];exact hpre
def Qen(g:Glue)(l:Int):Int:=szC g.Name.size l
def szGlue.fv(a:Glue×Int):Int:=(Qen) (a.1) (a.2)
def szGlue.row:Row:=vK (b2 (qR Glue.d_le) qI) rI (fun a=> -1<=a.2/\a.2<=1048576/\a.1.Name.size<=140737488355328) szGlue.fv
def szGlue.q:=vKq (R:=szGlue.row) rfl
theorem szGlue.ok:Qas Tryz.prog 58 szGlue.row:=by
 refine vw tN Tryz.func58 rfl (by kernel_rfl) ?_;intro a hpre;simp only[Tryz.f58,Option.getD];simp(maxSteps:=9^9)(disch:=omega)only[ZZ,simprocAttr,rch,szGlue.fv];rw[Qak (by omega) (by omega)];simp only[Qen,szC]
 grind
def Qcn(g:Tile)(l:Int):Int:=if szC g.Name.size l<0 then -1 else szC g.Sides.length (szC g.Name.size l)
def szTile.fv(a:Tile×Int):Int:=(Qcn) (a.1) (a.2)
def szTile.row:Row:=vK (b2 (qR Tile.d_le) qI) rI (fun a=> -1<=a.2/\a.2<=1048576/\a.1.Name.size<=140737488355328) szTile.fv
def szTile.q:=vKq (R:=szTile.row) rfl
theorem szTile.ok:Qas Tryz.prog 59 szTile.row:=by
 refine vw (tC szInt64S.ok tN) Tryz.func59 rfl (by kernel_rfl) ?_;intro a hpre;simp only[Tryz.f59,Option.getD];simp(maxSteps:=9^9)(disch:=omega)only[ZZ,simprocAttr,rch,szTile.fv,szInt64S.q,szInt64S.fv];rw[Qak (by omega) (by omega)];simp only[Qcn,szC]
 grind
def Qdz{A:Type}(f:A->Int->Int):List A->Int->Int
 |[],l=>l
 |x::r,l=>if f x l<0 then -1 else Qdz f r (f x l)
def Qcj(a:List Glue)(l:Int):Int:=if szC a.length l<0 then -1 else Qdz Qen a (szC a.length l)
def szGlueS.fv(a:(List Glue)×Int):Int:=(Qcj) (a.1) (a.2)
def szGlueS.row:Row:=vK (b2 (qS Glue.d_le Glue.c_n) qI) rI (fun a=> -1<=a.2/\a.2<=1048576/\ ∀x∈a.1,x.Name.size<=140737488355328) szGlueS.fv
def szGlueS.q:=vKq (R:=szGlueS.row) rfl
def Yah:=J @szGlueS.fv.eq_1 (J @szGlue.q @szGlue.fv.eq_1)
theorem szGlueS.ok:Qas Tryz.prog 37 szGlueS.row:=by
 refine vw (tC szGlue.ok tN) Tryz.func37 rfl (by kernel_rfl) ?_;intro a hpre;simp only[Tryz.f37,Option.getD];simp(maxSteps:=9^9)(disch:=omega)only[ZZ,simprocAttr,rch,Yah];intro hn;rw[Qak (by omega) (by omega)];obtain⟨hp1,hp2,hp3⟩:=hpre;simp only[Qal];refine⟨fun hl=> ?_,fun hl=> ?_⟩
 .simp only[Qcj,szC];grind
 have h0:szC a.1.length a.2=a.2 - a.1.length:=by simp only[szC];rw[Zai hl]
 refine Qay.old ⟨{p:Nat×Int//p.1<=a.1.length/\0<=p.2/\p.2<=1048576/\Qdz Qen (a.1.drop p.1) p.2=Qdz Qen a.1 (a.2 - a.1.length)},fun p=>⟨[(5,.im (.int .i64 p.1.1)),(1,.im (.int .i64 p.1.2)),(4,.im (.int .i64 0)),(0,.im (.sl false 2 (a.1.map Glue.c)))],[],0⟩,fun p=>a.1.length - p.1.1,fun p=>⟨by simp[Qad.good,belT,belH,Qam,AV.bel,belL],Zal _⟩,⟨⟨(0,a.2 - a.1.length),by simp,by simp only;omega,by simp only;omega,by simp⟩,by simp(maxSteps:=9^9)(disch:=omega)only[ZZ,simprocAttr,rch,Yah,sub]⟩,fun p=> ?_⟩;obtain⟨⟨k,l⟩,hk1,hk2,hk3,hk4⟩:=p;simp only at hk1 hk2 hk3 hk4;simp(maxSteps:=9^9)(disch:=omega)only[ZZ,simprocAttr,rch,Yah,sub,Qal];intro _;refine⟨fun hk=>⟨hk,fun x hx=>⟨⟨by omega,by omega,hp3 x (Zae hx)⟩,?_⟩⟩,fun hk=> ?_⟩
 .have hd:a.1.drop k=x::a.1.drop (k+1):=by
   rw[Zcc hk];rw[Zac hk] at hx;rw[Zaa hx]
  rw[hd,Qdz] at hk4;have hle:Qen x l<=l:=by simp only[Qen,szC];grind
  have hcg: ¬Qen ⟨x.Name,x.Strength⟩ l<0-> ¬Qen x l<0:=fun h=>h
  refine⟨fun hb=> ?_,fun hb=>⟨⟨(k+1,Qen x l),by simp only;omega,by simp only;have:=hcg hb;omega,by simp only;omega,?_⟩,by simp only;omega,?_,?_⟩⟩
  .rw[Zak hb] at hk4;simp only[Qcj,h0]
   grind
  .rw[Zai hb] at hk4;exact hk4
  .rw[Qak (by omega) (by omega)];simp only;omega
  .rfl
 .rw[Zaq (by omega),Qdz] at hk4;simp only[Qcj,h0]
  grind
def Qds(a:List Tile)(l:Int):Int:=if szC a.length l<0 then -1 else Qdz Qcn a (szC a.length l)
def szTileS.fv(a:(List Tile)×Int):Int:=(Qds) (a.1) (a.2)
def szTileS.row:Row:=vK (b2 (qS Tile.d_le Tile.c_n) qI) rI (fun a=> -1<=a.2/\a.2<=1048576/\ ∀x∈a.1,x.Name.size<=140737488355328) szTileS.fv
def szTileS.q:=vKq (R:=szTileS.row) rfl
def Yai:=J @szTileS.fv.eq_1 (J @szTile.q @szTile.fv.eq_1)
theorem szTileS.ok:Qas Tryz.prog 38 szTileS.row:=by
 refine vw (tC szTile.ok tN) Tryz.func38 rfl (by kernel_rfl) ?_;intro a hpre;simp only[Tryz.f38,Option.getD];simp(maxSteps:=9^9)(disch:=omega)only[ZZ,simprocAttr,rch,Yai];intro hn;rw[Qak (by omega) (by omega)];obtain⟨hp1,hp2,hp3⟩:=hpre;simp only[Qal];refine⟨fun hl=> ?_,fun hl=> ?_⟩
 .simp only[Qds,szC];grind
 have h0:szC a.1.length a.2=a.2 - a.1.length:=by simp only[szC];rw[Zai hl]
 refine Qay.old ⟨{p:Nat×Int//p.1<=a.1.length/\0<=p.2/\p.2<=1048576/\Qdz Qcn (a.1.drop p.1) p.2=Qdz Qcn a.1 (a.2 - a.1.length)},fun p=>⟨[(5,.im (.int .i64 p.1.1)),(1,.im (.int .i64 p.1.2)),(4,.im (.int .i64 0)),(0,.im (.sl false 2 (a.1.map Tile.c)))],[],0⟩,fun p=>a.1.length - p.1.1,fun p=>⟨by simp[Qad.good,belT,belH,Qam,AV.bel,belL],Zal _⟩,⟨⟨(0,a.2 - a.1.length),by simp,by simp only;omega,by simp only;omega,by simp⟩,by simp(maxSteps:=9^9)(disch:=omega)only[ZZ,simprocAttr,rch,Yai,sub]⟩,fun p=> ?_⟩;obtain⟨⟨k,l⟩,hk1,hk2,hk3,hk4⟩:=p;simp only at hk1 hk2 hk3 hk4;simp(maxSteps:=9^9)(disch:=omega)only[ZZ,simprocAttr,rch,Yai,sub,Qal];intro _;refine⟨fun hk=>⟨hk,fun x hx=>⟨⟨by omega,by omega,hp3 x (Zae hx)⟩,?_⟩⟩,fun hk=> ?_⟩
 .have hd:a.1.drop k=x::a.1.drop (k+1):=by
   rw[Zcc hk];rw[Zac hk] at hx;rw[Zaa hx]
  rw[hd,Qdz] at hk4;have hle:Qcn x l<=l:=by simp only[Qcn,szC];grind
  have hcg: ¬Qcn ⟨x.Name,x.Sides⟩ l<0-> ¬Qcn x l<0:=fun h=>h
  refine⟨fun hb=> ?_,fun hb=>⟨⟨(k+1,Qcn x l),by simp only;omega,by simp only;have:=hcg hb;omega,by simp only;omega,?_⟩,by simp only;omega,?_,?_⟩⟩
  .rw[Zak hb] at hk4;simp only[Qds,h0]
   grind
  .rw[Zai hb] at hk4;exact hk4
  .rw[Qak (by omega) (by omega)];simp only;omega
  .rfl
 .rw[Zaq (by omega),Qdz] at hk4;simp only[Qds,h0]
  grind
def nmOk(s:Qaa):Prop:=(∀x∈s.Glues,x.Name.size<=140737488355328)/\ ∀x∈s.Tiles,x.Name.size<=140737488355328
theorem Qre{A:Type}{f:A->Int->Int}(hf: ∀x l,0<=l->f x l<=l)(a:List A): ∀(l:Int),0<=l->Qdz f a l<=l/\ -1<=Qdz f a l:=by
 induction a with
 |nil=>intro l hl;simp[Qdz];omega
 |cons x r ih=>
  intro l hl;simp only[Qdz];split
  .omega
  .have:=hf x l hl
   have:=ih (f x l) (by omega)
   omega
theorem Qo1(a:List Glue)(l:Int)(hl: -1<=l): -1<=Qcj a l/\Qcj a l<=max l (-1):=by
 simp only[Qcj];split
 .omega
 .rename_i h;have h1:=Qre (f:=Qen) (fun x l h=>by simp only[Qen,szC];grind) a (szC a.length l) (by omega);have h2:szC a.length l<=max l (-1):=by simp only[szC];grind
  omega
theorem Qv0(a:List Tile)(l:Int)(hl: -1<=l): -1<=Qds a l/\Qds a l<=max l (-1):=by
 simp only[Qds];split
 .omega
 .rename_i h;have h1:=Qre (f:=Qcn) (fun x l h=>by simp only[Qcn,szC];grind) a (szC a.length l) (by omega);have h2:szC a.length l<=max l (-1):=by simp only[szC];grind
  omega
def Qqd(s:Qaa)(l:Int):Int:=if Qcj s.Glues l<0 then -1 else Qds s.Tiles (Qcj s.Glues l)
theorem Qxk(s:Qaa)(l:Int)(hl: -1<=l): -1<=Qqd s l/\Qqd s l<=max l (-1):=by
 have h1:=Qo1 s.Glues l hl;have h2:=Qv0 s.Tiles (Qcj s.Glues l) h1.1;simp only[Qqd]
 split<;>omega
def szTileSet.fv(a:Qaa×Int):Int:=(Qqd) (a.1) (a.2)
def szTileSet.row:Row:=vK (b2 (qR Qaa.d_le) qI) rI (fun a=> -1<=a.2/\a.2<=1048576/\nmOk a.1) szTileSet.fv
def szTileSet.q:=vKq (R:=szTileSet.row) rfl
theorem szTileSet.ok:Qas Tryz.prog 15 szTileSet.row:=by
 refine vw (tC szGlueS.ok (tC szTileS.ok tN)) Tryz.func15 rfl (by kernel_rfl) ?_;intro a hpre;simp only[Tryz.f15,Option.getD];simp(maxSteps:=9^9)(disch:=omega)only[ZZ,simprocAttr,rch,szTileSet.fv,szGlueS.q,szGlueS.fv,szTileS.q,szTileS.fv];obtain⟨h1,h2,h3,h4⟩:=hpre;have hb:=Qo1 a.1.Glues a.2 h1;refine⟨⟨h1,h2,h3⟩,?_⟩;simp only[Qqd];split
 .rfl
 .refine⟨⟨hb.1,by omega,h4⟩,?_⟩;have hc:=Qv0 a.1.Tiles _ hb.1
  split<;>omega
theorem szC_b(n:Nat)(l:Int)(hl: -1<=l): -1<=szC n l/\szC n l<=max l (-1):=by
 simp only[szC];split<;>omega
def Qlr(s:Qar)(l:Int):Int:=if Qqd s.Set l<0 then -1 else Qab3 s.Seed (Qqd s.Set l)
theorem szSys_b(s:Qar)(l:Int)(hl: -1<=l): -1<=Qlr s l/\Qlr s l<=max l (-1):=by
 have h1:=Qxk s.Set l hl;have h2:=szC_b s.Seed.Tiles.length (Qqd s.Set l) h1.1;simp only[Qlr,Qab3]
 split<;>omega
def szSystem.fv(a:Qar×Int):Int:=(Qlr) (a.1) (a.2)
def szSystem.row:Row:=vK (b2 (qR Qar.d_le) qI) rI (fun a=> -1<=a.2/\a.2<=1048576/\nmOk a.1.Set) szSystem.fv
def szSystem.q:=vKq (R:=szSystem.row) rfl
theorem szSystem.ok:Qas Tryz.prog 4 szSystem.row:=by
 refine vw (tC szTileSet.ok (tC szAssembly.ok tN)) Tryz.func4 rfl (by kernel_rfl) ?_;intro a hpre;simp only[Tryz.f4,Option.getD];simp(maxSteps:=9^9)(disch:=omega)only[ZZ,simprocAttr,rch,szSystem.fv,szTileSet.q,szTileSet.fv,szAssembly.q,szAssembly.fv];obtain⟨h1,h2,h3⟩:=hpre;have hb:=Qxk a.1.Set a.2 h1;refine⟨⟨h1,h2,h3⟩,?_⟩;simp only[Qlr];split
 .rfl
 .refine⟨⟨hb.1,by omega⟩,?_⟩;have hc:=szC_b a.1.Seed.Tiles.length _ hb.1;simp only[Qab3] at hc⊢
  grind
end Go.Ae
