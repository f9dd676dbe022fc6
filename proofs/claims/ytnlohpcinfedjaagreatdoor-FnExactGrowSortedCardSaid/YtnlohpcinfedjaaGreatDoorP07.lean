/- Lemmas. Conditions: none. -/
import Derived.Test.YtnlohpcinfedjaaGreatDoorP06
import Derived.Test.YtnlohpcinfedjaaGreatDoorProg
set_option linter.all false
set_option maxHeartbeats 8000000
set_option maxRecDepth 100000
namespace Go.Ae
open Go.Proofs
def TY0:
 (tI Tryz.prog 2=some {size:=1,bytes:=8,agg:=false,kind:= .int .i64,zero:=[.int .i64 0]})/\
 (tI Tryz.prog 3=some {size:=1,bytes:=8,agg:=false,kind:= .int .i64,zero:=[.int .i64 0]})/\
 (tI Tryz.prog 4=some {size:=1,bytes:=1,agg:=false,kind:= .bool,zero:=[.bool false]})/\
 (tI Tryz.prog 5=some {size:=1,bytes:=1,agg:=false,kind:= .int .u8,zero:=[.int .u8 0]})/\
 (tI Tryz.prog 9=some {size:=1,bytes:=16,agg:=false,kind:= .str,zero:=[.str ByteArray.empty]})/\
 (tI Tryz.prog 12=some {size:=1,bytes:=8,agg:=false,kind:= .int .u64,zero:=[.int .u64 0]})/\
 (tI Tryz.prog 17=some {size:=1,bytes:=8,agg:=false,kind:= .ptr 319,zero:=[.nilp]})/\
 (tI Tryz.prog 20=some {size:=1,bytes:=16,agg:=false,kind:= .other,zero:=[.nili]})/\
 (tI Tryz.prog 22=some {size:=1,bytes:=24,agg:=false,kind:= .slice 2,zero:=[.sl true 0 []]})/\
 (tI Tryz.prog 23=some {size:=1,bytes:=24,agg:=false,kind:= .slice 88,zero:=[.sl true 0 []]})/\
 (tI Tryz.prog 25=some {size:=1,bytes:=24,agg:=true,kind:= .struct [(0,1)],zero:=[.sl true 0 []]})/\
 (tI Tryz.prog 34=some {size:=1,bytes:=24,agg:=false,kind:= .slice 66,zero:=[.sl true 0 []]})/\
 (tI Tryz.prog 35=some {size:=1,bytes:=24,agg:=false,kind:= .slice 64,zero:=[.sl true 0 []]})/\
 (tI Tryz.prog 37=some {size:=2,bytes:=48,agg:=true,kind:= .struct [(0,1),(1,1)],zero:=[.sl true 0 [],.sl true 0 []]})/\
 (tI Tryz.prog 39=some {size:=4,bytes:=80,agg:=true,kind:= .struct [(0,2),(2,1),(3,1)],zero:=[.sl true 0 [],.sl true 0 [],.sl true 0 [],.int .i64 0]})/\
 (tI Tryz.prog 42=some {size:=1,bytes:=24,agg:=false,kind:= .slice 107,zero:=[.sl true 0 []]})/\
 (tI Tryz.prog 53=some {size:=1,bytes:=8,agg:=false,kind:= .ptr 39,zero:=[.nilp]})/\
 (tI Tryz.prog 57=some {size:=1,bytes:=8,agg:=false,kind:= .ptr 25,zero:=[.nilp]})/\
 (tI Tryz.prog 62=some {size:=2,bytes:=16,agg:=true,kind:= .struct [(0,1),(1,1)],zero:=[.int .i64 0,.int .i64 0]})/\
 (tI Tryz.prog 64=some {size:=2,bytes:=40,agg:=true,kind:= .struct [(0,1),(1,1)],zero:=[.str ByteArray.empty,.sl true 0 []]}):=by and_intros<;>kernel_rfl
def TY1:
 (tI Tryz.prog 66=some {size:=2,bytes:=24,agg:=true,kind:= .struct [(0,1),(1,1)],zero:=[.str ByteArray.empty,.int .i64 0]})/\
 (tI Tryz.prog 69=some {size:=1,bytes:=8,agg:=false,kind:= .ptr 80,zero:=[.nilp]})/\
 (tI Tryz.prog 78=some {size:=1,bytes:=8,agg:=false,kind:= .map 9 2,zero:=[.nilm]})/\
 (tI Tryz.prog 80=some {size:=3,bytes:=56,agg:=true,kind:= .struct [(0,2),(2,1)],zero:=[.sl true 0 [],.sl true 0 [],.nilm]})/\
 (tI Tryz.prog 88=some {size:=3,bytes:=24,agg:=true,kind:= .struct [(0,2),(2,1)],zero:=[.int .i64 0,.int .i64 0,.int .i64 0]})/\
 (tI Tryz.prog 89=some {size:=1,bytes:=8,agg:=false,kind:= .ptr 91,zero:=[.nilp]})/\
 (tI Tryz.prog 91=some {size:=2,bytes:=48,agg:=true,kind:= .struct [(0,2)],zero:=[.sl true 0 [],.sl true 0 []]})/\
 (tI Tryz.prog 95=some {size:=1,bytes:=8,agg:=false,kind:= .other,zero:=[.nilf]})/\
 (tI Tryz.prog 98=some {size:=1,bytes:=8,agg:=false,kind:= .ptr 37,zero:=[.nilp]})/\
 (tI Tryz.prog 100=some {size:=1,bytes:=8,agg:=false,kind:= .other,zero:=[.nilf]})/\
 (tI Tryz.prog 107=some {size:=3,bytes:=24,agg:=true,kind:= .struct [(0,2),(2,1)],zero:=[.int .i64 0,.int .i64 0,.int .i64 0]})/\
 (tI Tryz.prog 109=some {size:=1,bytes:=24,agg:=false,kind:= .slice 9,zero:=[.sl true 0 []]})/\
 (tI Tryz.prog 112=some {size:=1,bytes:=8,agg:=false,kind:= .ptr 143,zero:=[.nilp]})/\
 (tI Tryz.prog 118=some {size:=1,bytes:=8,agg:=false,kind:= .other,zero:=[.nilf]})/\
 (tI Tryz.prog 121=some {size:=1,bytes:=24,agg:=false,kind:= .slice 5,zero:=[.sl true 0 []]})/\
 (tI Tryz.prog 126=some {size:=1,bytes:=24,agg:=false,kind:= .slice 161,zero:=[.sl true 0 []]})/\
 (tI Tryz.prog 132=some {size:=1,bytes:=24,agg:=false,kind:= .slice 62,zero:=[.sl true 0 []]})/\
 (tI Tryz.prog 140=some {size:=1,bytes:=8,agg:=false,kind:= .map 62 2,zero:=[.nilm]})/\
 (tI Tryz.prog 141=some {size:=1,bytes:=8,agg:=false,kind:= .map 62 22,zero:=[.nilm]})/\
 (tI Tryz.prog 143=some {size:=6,bytes:=96,agg:=true,kind:= .struct [(0,4),(4,1),(5,1)],zero:=[.sl true 0 [],.sl true 0 [],.sl true 0 [],.int .i64 0,.nilm,.nilm]}):=by and_intros<;>kernel_rfl
def TY2:
 (tI Tryz.prog 147=some {size:=1,bytes:=16,agg:=false,kind:= .other,zero:=[.nili]})/\
 (tI Tryz.prog 155=some {size:=1,bytes:=8,agg:=false,kind:= .other,zero:=[.nilf]})/\
 (tI Tryz.prog 158=some {size:=1,bytes:=8,agg:=false,kind:= .other,zero:=[.nilf]})/\
 (tI Tryz.prog 161=some {size:=3,bytes:=24,agg:=true,kind:= .struct [(0,1),(1,1),(2,1)],zero:=[.int .i64 0,.int .i64 0,.int .i64 0]})/\
 (tI Tryz.prog 162=some {size:=1,bytes:=24,agg:=false,kind:= .slice 22,zero:=[.sl true 0 []]})/\
 (tI Tryz.prog 166=some {size:=1,bytes:=8,agg:=false,kind:= .ptr 199,zero:=[.nilp]})/\
 (tI Tryz.prog 184=some {size:=1,bytes:=16,agg:=false,kind:= .other,zero:=[.nili]})/\
 (tI Tryz.prog 190=some {size:=1,bytes:=8,agg:=false,kind:= .other,zero:=[.nilf]})/\
 (tI Tryz.prog 191=some {size:=1,bytes:=8,agg:=false,kind:= .other,zero:=[.nilf]})/\
 (tI Tryz.prog 192=some {size:=1,bytes:=8,agg:=false,kind:= .map 9 4,zero:=[.nilm]})/\
 (tI Tryz.prog 195=some {size:=1,bytes:=8,agg:=false,kind:= .int .u64,zero:=[.int .u64 0]})/\
 (tI Tryz.prog 199=some {size:=4,bytes:=80,agg:=true,kind:= .struct [(0,1),(1,1),(2,1),(3,1)],zero:=[.int .i64 0,.sl true 0 [],.sl true 0 [],.sl true 0 []]})/\
 (tI Tryz.prog 201=some {size:=24,bytes:=24,agg:=true,kind:= .array 24 5,zero:=[.int .u8 0,.int .u8 0,.int .u8 0,.int .u8 0,.int .u8 0,.int .u8 0,.int .u8 0,.int .u8 0,.int .u8 0,.int .u8 0,.int .u8 0,.int .u8 0,.int .u8 0,.int .u8 0,.int .u8 0,.int .u8 0,.int .u8 0,.int .u8 0,.int .u8 0,.int .u8 0,.int .u8 0,.int .u8 0,.int .u8 0,.int .u8 0]})/\
 (tI Tryz.prog 202=some {size:=1,bytes:=8,agg:=false,kind:= .int .u64,zero:=[.int .u64 0]})/\
 (tI Tryz.prog 210=some {size:=1,bytes:=8,agg:=false,kind:= .other,zero:=[.nilf]})/\
 (tI Tryz.prog 212=some {size:=1,bytes:=8,agg:=false,kind:= .other,zero:=[.nilf]})/\
 (tI Tryz.prog 214=some {size:=2,bytes:=16,agg:=true,kind:= .array 2 2,zero:=[.int .i64 0,.int .i64 0]})/\
 (tI Tryz.prog 216=some {size:=1,bytes:=8,agg:=false,kind:= .ptr 259,zero:=[.nilp]})/\
 (tI Tryz.prog 219=some {size:=8,bytes:=64,agg:=true,kind:= .array 4 62,zero:=[.int .i64 0,.int .i64 0,.int .i64 0,.int .i64 0,.int .i64 0,.int .i64 0,.int .i64 0,.int .i64 0]})/\
 (tI Tryz.prog 224=some {size:=1,bytes:=8,agg:=false,kind:= .other,zero:=[.nilf]}):=by and_intros<;>kernel_rfl
def TY3:
 (tI Tryz.prog 229=some {size:=1,bytes:=16,agg:=false,kind:= .other,zero:=[.nili]})/\
 (tI Tryz.prog 232=some {size:=1,bytes:=16,agg:=false,kind:= .other,zero:=[.nili]})/\
 (tI Tryz.prog 234=some {size:=1,bytes:=16,agg:=false,kind:= .other,zero:=[.nili]})/\
 (tI Tryz.prog 235=some {size:=1,bytes:=24,agg:=false,kind:= .slice 147,zero:=[.sl true 0 []]})/\
 (tI Tryz.prog 246=some {size:=20,bytes:=160,agg:=true,kind:= .array 20 202,zero:=[.int .u64 0,.int .u64 0,.int .u64 0,.int .u64 0,.int .u64 0,.int .u64 0,.int .u64 0,.int .u64 0,.int .u64 0,.int .u64 0,.int .u64 0,.int .u64 0,.int .u64 0,.int .u64 0,.int .u64 0,.int .u64 0,.int .u64 0,.int .u64 0,.int .u64 0,.int .u64 0]})/\
 (tI Tryz.prog 247=some {size:=1,bytes:=4,agg:=false,kind:= .int .u32,zero:=[.int .u32 0]})/\
 (tI Tryz.prog 248=some {size:=65,bytes:=65,agg:=true,kind:= .array 65 5,zero:=[.int .u8 0,.int .u8 0,.int .u8 0,.int .u8 0,.int .u8 0,.int .u8 0,.int .u8 0,.int .u8 0,.int .u8 0,.int .u8 0,.int .u8 0,.int .u8 0,.int .u8 0,.int .u8 0,.int .u8 0,.int .u8 0,.int .u8 0,.int .u8 0,.int .u8 0,.int .u8 0,.int .u8 0,.int .u8 0,.int .u8 0,.int .u8 0,.int .u8 0,.int .u8 0,.int .u8 0,.int .u8 0,.int .u8 0,.int .u8 0,.int .u8 0,.int .u8 0,.int .u8 0,.int .u8 0,.int .u8 0,.int .u8 0,.int .u8 0,.int .u8 0,.int .u8 0,.int .u8 0,.int .u8 0,.int .u8 0,.int .u8 0,.int .u8 0,.int .u8 0,.int .u8 0,.int .u8 0,.int .u8 0,.int .u8 0,.int .u8 0,.int .u8 0,.int .u8 0,.int .u8 0,.int .u8 0,.int .u8 0,.int .u8 0,.int .u8 0,.int .u8 0,.int .u8 0,.int .u8 0,.int .u8 0,.int .u8 0,.int .u8 0,.int .u8 0,.int .u8 0]})/\
 (tI Tryz.prog 250=some {size:=1,bytes:=24,agg:=false,kind:= .slice 251,zero:=[.sl true 0 []]})/\
 (tI Tryz.prog 251=some {size:=1,bytes:=8,agg:=false,kind:= .ptr 253,zero:=[.nilp]})/\
 (tI Tryz.prog 253=some {size:=2,bytes:=16,agg:=true,kind:= .struct [(0,1),(1,1)],zero:=[.nilp,.int .i64 0]})/\
 (tI Tryz.prog 255=some {size:=1,bytes:=8,agg:=false,kind:= .map 2 3,zero:=[.nilm]})/\
 (tI Tryz.prog 259=some {size:=2,bytes:=48,agg:=true,kind:= .struct [(0,1),(1,1)],zero:=[.sl true 0 [],.sl true 0 []]})/\
 (tI Tryz.prog 260=some {size:=1,bytes:=24,agg:=false,kind:= .slice 3,zero:=[.sl true 0 []]})/\
 (tI Tryz.prog 266=some {size:=1,bytes:=8,agg:=false,kind:= .int .i64,zero:=[.int .i64 0]})/\
 (tI Tryz.prog 274=some {size:=1,bytes:=8,agg:=false,kind:= .other,zero:=[.nilc]})/\
 (tI Tryz.prog 279=some {size:=1,bytes:=8,agg:=false,kind:= .int .u64,zero:=[.int .u64 0]})/\
 (tI Tryz.prog 283=some {size:=1,bytes:=8,agg:=false,kind:= .ptr 3,zero:=[.nilp]})/\
 (tI Tryz.prog 285=some {size:=32,bytes:=32,agg:=true,kind:= .array 32 5,zero:=[.int .u8 0,.int .u8 0,.int .u8 0,.int .u8 0,.int .u8 0,.int .u8 0,.int .u8 0,.int .u8 0,.int .u8 0,.int .u8 0,.int .u8 0,.int .u8 0,.int .u8 0,.int .u8 0,.int .u8 0,.int .u8 0,.int .u8 0,.int .u8 0,.int .u8 0,.int .u8 0,.int .u8 0,.int .u8 0,.int .u8 0,.int .u8 0,.int .u8 0,.int .u8 0,.int .u8 0,.int .u8 0,.int .u8 0,.int .u8 0,.int .u8 0,.int .u8 0]})/\
 (tI Tryz.prog 286=some {size:=64,bytes:=64,agg:=true,kind:= .array 64 5,zero:=[.int .u8 0,.int .u8 0,.int .u8 0,.int .u8 0,.int .u8 0,.int .u8 0,.int .u8 0,.int .u8 0,.int .u8 0,.int .u8 0,.int .u8 0,.int .u8 0,.int .u8 0,.int .u8 0,.int .u8 0,.int .u8 0,.int .u8 0,.int .u8 0,.int .u8 0,.int .u8 0,.int .u8 0,.int .u8 0,.int .u8 0,.int .u8 0,.int .u8 0,.int .u8 0,.int .u8 0,.int .u8 0,.int .u8 0,.int .u8 0,.int .u8 0,.int .u8 0,.int .u8 0,.int .u8 0,.int .u8 0,.int .u8 0,.int .u8 0,.int .u8 0,.int .u8 0,.int .u8 0,.int .u8 0,.int .u8 0,.int .u8 0,.int .u8 0,.int .u8 0,.int .u8 0,.int .u8 0,.int .u8 0,.int .u8 0,.int .u8 0,.int .u8 0,.int .u8 0,.int .u8 0,.int .u8 0,.int .u8 0,.int .u8 0,.int .u8 0,.int .u8 0,.int .u8 0,.int .u8 0,.int .u8 0,.int .u8 0,.int .u8 0,.int .u8 0]})/\
 (tI Tryz.prog 304=some {size:=1,bytes:=8,agg:=false,kind:= .ptr 331,zero:=[.nilp]}):=by and_intros<;>kernel_rfl
def TY4:
 (tI Tryz.prog 313=some {size:=1,bytes:=1,agg:=false,kind:= .int .u8,zero:=[.int .u8 0]})/\
 (tI Tryz.prog 319=some {size:=11,bytes:=48,agg:=true,kind:= .struct [(0,1),(1,1),(2,1),(3,1),(4,1),(5,1),(6,1),(7,1),(8,1),(9,1),(10,1)],zero:=[.int .u64 0,.int .u64 0,.int .u32 0,.int .u8 0,.int .u8 0,.int .u8 0,.int .u8 0,.nilf,.nilp,.int .i32 0,.int .i32 0]})/\
 (tI Tryz.prog 331=some {size:=1,bytes:=16,agg:=true,kind:= .struct [(0,1)],zero:=[.str ByteArray.empty]})/\
 (tI Tryz.prog 333=some {size:=1,bytes:=8,agg:=false,kind:= .ptr 337,zero:=[.nilp]})/\
 (tI Tryz.prog 337=some {size:=5,bytes:=16,agg:=true,kind:= .struct [(0,1),(1,1),(2,1),(3,1),(4,1)],zero:=[.int .i32 0,.int .u16 0,.int .u16 0,.int .u32 0,.int .u32 0]})/\
 (tI Tryz.prog 338=some {size:=1,bytes:=24,agg:=false,kind:= .slice 341,zero:=[.sl true 0 []]})/\
 (tI Tryz.prog 341=some {size:=4,bytes:=16,agg:=true,kind:= .struct [(0,1),(1,1),(2,1),(3,1)],zero:=[.int .i32 0,.int .i32 0,.int .i32 0,.int .i32 0]}):=by and_intros<;>kernel_rfl
def KY0:
 (BU Tryz.prog 2=some ⟨false,[.int .i64]⟩)/\
 (BU Tryz.prog 3=some ⟨false,[.int .i64]⟩)/\
 (BU Tryz.prog 4=some ⟨false,[.bool]⟩)/\
 (BU Tryz.prog 5=some ⟨false,[.int .u8]⟩)/\
 (BU Tryz.prog 9=some ⟨false,[.str]⟩)/\
 (BU Tryz.prog 12=some ⟨false,[.int .u64]⟩)/\
 (BU Tryz.prog 62=some ⟨true,[.int .i64,.int .i64]⟩)/\
 (Tryz.prog.eqGuardType Tryz.prog.depth 62=false)/\
 (BU Tryz.prog 66=some ⟨true,[.str,.int .i64]⟩)/\
 (Tryz.prog.eqGuardType Tryz.prog.depth 66=false)/\
 (BU Tryz.prog 88=some ⟨true,[.int .i64,.int .i64,.int .i64]⟩)/\
 (Tryz.prog.eqGuardType Tryz.prog.depth 88=false)/\
 (BU Tryz.prog 107=some ⟨true,[.int .i64,.int .i64,.int .i64]⟩)/\
 (Tryz.prog.eqGuardType Tryz.prog.depth 107=false)/\
 (BU Tryz.prog 161=some ⟨true,[.int .i64,.int .i64,.int .i64]⟩)/\
 (Tryz.prog.eqGuardType Tryz.prog.depth 161=false)/\
 (BU Tryz.prog 195=some ⟨false,[.int .u64]⟩)/\
 (BU Tryz.prog 202=some ⟨false,[.int .u64]⟩)/\
 (BU Tryz.prog 247=some ⟨false,[.int .u32]⟩)/\
 (BU Tryz.prog 266=some ⟨false,[.int .i64]⟩):=by and_intros<;>kernel_rfl
def KY1:
 (BU Tryz.prog 279=some ⟨false,[.int .u64]⟩)/\
 (BU Tryz.prog 313=some ⟨false,[.int .u8]⟩)/\
 (BU Tryz.prog 331=some ⟨true,[.str]⟩)/\
 (Tryz.prog.eqGuardType Tryz.prog.depth 331=false):=by and_intros<;>kernel_rfl
def CY0:True/\True:=⟨trivial,trivial⟩
def D3:Tryz.prog.follows .mixedOrders=true:=by kernel_rfl
end Go.Ae
namespace Go.Ae
def kI:PK->Option Int
 | .val (.int .i64 x)=>some x
 |_=>none
def kU:PK->Option Int
 | .val (.int .u64 x)=>some x
 |_=>none
def kY:PK->Option Int
 | .val (.int .u8 x)=>some x
 |_=>none
def kB:PK->Option Bool
 | .val (.bool x)=>some x
 |_=>none
def kT:PK->Option ByteArray
 | .val (.str x)=>some x
 |_=>none
def kR{A:Type}(f:List D->Option A):PK->Option A
 | .val (.agg x)=>f x
 |_=>none
def kP{A:Type}(f:List D->Option A)(n:Nat):PK->Option A
 | .ptr x=>f (x.take n)
 |_=>none
def kS{A:Type}(f:List D->Option A):PK->Option (List A)
 | .val (.sl _ _ x)=>AX f x
 |_=>none
def TJ: ∀p a,kI p=some a->C9 p (.val (.int .i64 a)):=by
 intro p a h;unfold kI at h;split at h
 .obtain rfl:=AC h;exact C9.refl _
 .cases h
def yC: ∀p a,kU p=some a->C9 p (.val (.int .u64 a)):=by
 intro p a h;unfold kU at h;split at h
 .obtain rfl:=AC h;exact C9.refl _
 .cases h
def yD: ∀p a,kY p=some a->C9 p (.val (.int .u8 a)):=by
 intro p a h;unfold kY at h;split at h
 .obtain rfl:=AC h;exact C9.refl _
 .cases h
def xW: ∀p a,kB p=some a->C9 p (.val (.bool a)):=by
 intro p a h;unfold kB at h;split at h
 .obtain rfl:=AC h;exact C9.refl _
 .cases h
def xZ: ∀p a,kT p=some a->C9 p (.val (.str a)):=by
 intro p a h;unfold kT at h;split at h
 .obtain rfl:=AC h;exact C9.refl _
 .cases h
section
variable {A:Type}{f:List D->Option A}{e:A->List D}
def J6(hf: ∀ds x,f ds=some x->Di ds (e x)): ∀p a,kR f p=some a->C9 p (.val (.agg (e a))):=by
 intro p a h;unfold kR at h;split at h
 .exact aH (hf _ _ h)
 .cases h
def xX(n:Nat)(hf: ∀ds x,f ds=some x->Di ds (e x)): ∀p a,kP f n p=some a->C9 p (.ptr (e a)):=by
 intro p a h;unfold kP at h;split at h
 .exact HO.trans_take (hf _ _ h)
 .cases h
def M9(k:Nat)(hf: ∀ds x,f ds=some x->Di ds (e x))(z: ∀x,(e x).length=k): ∀p a,kS f p=some a->C9 p (.val (.sl false k (a.map e))):=by
 intro p a h;unfold kS at h;split at h
 .exact Fh (EZ hf _ _ h) (by simp only[BF];rintro r ⟨y,_,rfl⟩;exact z y)
 .cases h
end
def a1{z:Type}(G:PK->Option z):List PK->Option (z)
 |[O]=>(G O).bind λQ=>some Q
 |_=>none
def cA{G:Type}{Q:PK->Option G}{O:G->PK}(h0: ∀p a,Q p=some a->C9 p (O a)): ∀z a,a1 Q z=some a->BY z [O (a)]:=by
 intro z a h;unfold a1 at h;split at h
 .simp only[Fi,AO] at h;obtain⟨Z,g0,rfl⟩:=h;exact⟨h0 _ _ g0,trivial⟩
 .cases h
def a2{z G:Type}(O:PK->Option z)(Q:PK->Option G):List PK->Option (z×G)
 |[Z,x1]=>(O Z).bind λy0=>(Q x1).bind λy1=>some (y0,y1)
 |_=>none
def cB{G:Type}{f0:PK->Option G}{Q:G->PK}{O:Type}{f1:PK->Option O}{Z:O->PK}(h0: ∀p a,f0 p=some a->C9 p (Q a))(h1: ∀p a,f1 p=some a->C9 p (Z a)): ∀z a,a2 f0 f1 z=some a->BY z [Q (a.1),Z (a.2)]:=by
 intro z a h;unfold a2 at h;split at h
 .simp only[Fi,AO] at h;obtain⟨y0,g0,y1,g1,rfl⟩:=h;exact⟨h0 _ _ g0,h1 _ _ g1,trivial⟩
 .cases h
def a3{z G O:Type}(Q:PK->Option z)(Z:PK->Option G)(f2:PK->Option O):List PK->Option (z×G×O)
 |[x0,x1,x2]=>(Q x0).bind λy0=>(Z x1).bind λy1=>(f2 x2).bind λy2=>some (y0,y1,y2)
 |_=>none
def RX{G:Type}{f0:PK->Option G}{Z:G->PK}{O:Type}{f1:PK->Option O}{e1:O->PK}{Q:Type}{f2:PK->Option Q}{e2:Q->PK}(h0: ∀p a,f0 p=some a->C9 p (Z a))(h1: ∀p a,f1 p=some a->C9 p (e1 a))(h2: ∀p a,f2 p=some a->C9 p (e2 a)): ∀z a,a3 f0 f1 f2 z=some a->BY z [Z (a.1),e1 (a.2.1),e2 (a.2.2)]:=by
 intro z a h;unfold a3 at h;split at h
 .simp only[Fi,AO] at h;obtain⟨y0,g0,y1,g1,y2,g2,rfl⟩:=h;exact⟨h0 _ _ g0,h1 _ _ g1,h2 _ _ g2,trivial⟩
 .cases h
def a4{z G O Q:Type}(Z:PK->Option z)(f1:PK->Option G)(f2:PK->Option O)(f3:PK->Option Q):List PK->Option (z×G×O×Q)
 |[x0,x1,x2,x3]=>(Z x0).bind λy0=>(f1 x1).bind λy1=>(f2 x2).bind λy2=>(f3 x3).bind λy3=>some (y0,y1,y2,y3)
 |_=>none
def xC{G:Type}{f0:PK->Option G}{e0:G->PK}{O:Type}{f1:PK->Option O}{e1:O->PK}{Q:Type}{f2:PK->Option Q}{e2:Q->PK}{Z:Type}{f3:PK->Option Z}{e3:Z->PK}(h0: ∀p a,f0 p=some a->C9 p (e0 a))(h1: ∀p a,f1 p=some a->C9 p (e1 a))(h2: ∀p a,f2 p=some a->C9 p (e2 a))(h3: ∀p a,f3 p=some a->C9 p (e3 a)): ∀z a,a4 f0 f1 f2 f3 z=some a->BY z [e0 (a.1),e1 (a.2.1),e2 (a.2.2.1),e3 (a.2.2.2)]:=by
 intro z a h;unfold a4 at h;split at h
 .simp only[Fi,AO] at h;obtain⟨y0,g0,y1,g1,y2,g2,y3,g3,rfl⟩:=h;exact⟨h0 _ _ g0,h1 _ _ g1,h2 _ _ g2,h3 _ _ g3,trivial⟩
 .cases h
def a5{z G O Q Z:Type}(f0:PK->Option z)(f1:PK->Option G)(f2:PK->Option O)(f3:PK->Option Q)(f4:PK->Option Z):List PK->Option (z×G×O×Q×Z)
 |[x0,x1,x2,x3,x4]=>(f0 x0).bind λy0=>(f1 x1).bind λy1=>(f2 x2).bind λy2=>(f3 x3).bind λy3=>(f4 x4).bind λy4=>some (y0,y1,y2,y3,y4)
 |_=>none
def xD{G:Type}{f0:PK->Option G}{e0:G->PK}{O:Type}{f1:PK->Option O}{e1:O->PK}{Q:Type}{f2:PK->Option Q}{e2:Q->PK}{Z:Type}{f3:PK->Option Z}{e3:Z->PK}{A4:Type}{f4:PK->Option A4}{e4:A4->PK}(h0: ∀p a,f0 p=some a->C9 p (e0 a))(h1: ∀p a,f1 p=some a->C9 p (e1 a))(h2: ∀p a,f2 p=some a->C9 p (e2 a))(h3: ∀p a,f3 p=some a->C9 p (e3 a))(h4: ∀p a,f4 p=some a->C9 p (e4 a)): ∀z a,a5 f0 f1 f2 f3 f4 z=some a->BY z [e0 (a.1),e1 (a.2.1),e2 (a.2.2.1),e3 (a.2.2.2.1),e4 (a.2.2.2.2)]:=by
 intro z a h;unfold a5 at h;split at h
 .simp only[Fi,AO] at h;obtain⟨y0,g0,y1,g1,y2,g2,y3,g3,y4,g4,rfl⟩:=h;exact⟨h0 _ _ g0,h1 _ _ g1,h2 _ _ g2,h3 _ _ g3,h4 _ _ g4,trivial⟩
 .cases h
def a6{z G O Q Z A5:Type}(f0:PK->Option z)(f1:PK->Option G)(f2:PK->Option O)(f3:PK->Option Q)(f4:PK->Option Z)(f5:PK->Option A5):List PK->Option (z×G×O×Q×Z×A5)
 |[x0,x1,x2,x3,x4,x5]=>(f0 x0).bind λy0=>(f1 x1).bind λy1=>(f2 x2).bind λy2=>(f3 x3).bind λy3=>(f4 x4).bind λy4=>(f5 x5).bind λy5=>some (y0,y1,y2,y3,y4,y5)
 |_=>none
def xE{G:Type}{f0:PK->Option G}{e0:G->PK}{O:Type}{f1:PK->Option O}{e1:O->PK}{Q:Type}{f2:PK->Option Q}{e2:Q->PK}{Z:Type}{f3:PK->Option Z}{e3:Z->PK}{A4:Type}{f4:PK->Option A4}{e4:A4->PK}{A5:Type}{f5:PK->Option A5}{e5:A5->PK}(h0: ∀p a,f0 p=some a->C9 p (e0 a))(h1: ∀p a,f1 p=some a->C9 p (e1 a))(h2: ∀p a,f2 p=some a->C9 p (e2 a))(h3: ∀p a,f3 p=some a->C9 p (e3 a))(h4: ∀p a,f4 p=some a->C9 p (e4 a))(h5: ∀p a,f5 p=some a->C9 p (e5 a)): ∀z a,a6 f0 f1 f2 f3 f4 f5 z=some a->BY z [e0 (a.1),e1 (a.2.1),e2 (a.2.2.1),e3 (a.2.2.2.1),e4 (a.2.2.2.2.1),e5 (a.2.2.2.2.2)]:=by
 intro z a h;unfold a6 at h;split at h
 .simp only[Fi,AO] at h;obtain⟨y0,g0,y1,g1,y2,g2,y3,g3,y4,g4,y5,g5,rfl⟩:=h;exact⟨h0 _ _ g0,h1 _ _ g1,h2 _ _ g2,h3 _ _ g3,h4 _ _ g4,h5 _ _ g5,trivial⟩
 .cases h
def a7{z G O Q Z A5 A6:Type}(f0:PK->Option z)(f1:PK->Option G)(f2:PK->Option O)(f3:PK->Option Q)(f4:PK->Option Z)(f5:PK->Option A5)(f6:PK->Option A6):List PK->Option (z×G×O×Q×Z×A5×A6)
 |[x0,x1,x2,x3,x4,x5,x6]=>(f0 x0).bind λy0=>(f1 x1).bind λy1=>(f2 x2).bind λy2=>(f3 x3).bind λy3=>(f4 x4).bind λy4=>(f5 x5).bind λy5=>(f6 x6).bind λy6=>some (y0,y1,y2,y3,y4,y5,y6)
 |_=>none
def xF{G:Type}{f0:PK->Option G}{e0:G->PK}{O:Type}{f1:PK->Option O}{e1:O->PK}{Q:Type}{f2:PK->Option Q}{e2:Q->PK}{Z:Type}{f3:PK->Option Z}{e3:Z->PK}{A4:Type}{f4:PK->Option A4}{e4:A4->PK}{A5:Type}{f5:PK->Option A5}{e5:A5->PK}{A6:Type}{f6:PK->Option A6}{e6:A6->PK}(h0: ∀p a,f0 p=some a->C9 p (e0 a))(h1: ∀p a,f1 p=some a->C9 p (e1 a))(h2: ∀p a,f2 p=some a->C9 p (e2 a))(h3: ∀p a,f3 p=some a->C9 p (e3 a))(h4: ∀p a,f4 p=some a->C9 p (e4 a))(h5: ∀p a,f5 p=some a->C9 p (e5 a))(h6: ∀p a,f6 p=some a->C9 p (e6 a)): ∀z a,a7 f0 f1 f2 f3 f4 f5 f6 z=some a->BY z [e0 (a.1),e1 (a.2.1),e2 (a.2.2.1),e3 (a.2.2.2.1),e4 (a.2.2.2.2.1),e5 (a.2.2.2.2.2.1),e6 (a.2.2.2.2.2.2)]:=by
 intro z a h;unfold a7 at h;split at h
 .simp only[Fi,AO] at h;obtain⟨y0,g0,y1,g1,y2,g2,y3,g3,y4,g4,y5,g5,y6,g6,rfl⟩:=h;exact⟨h0 _ _ g0,h1 _ _ g1,h2 _ _ g2,h3 _ _ g3,h4 _ _ g4,h5 _ _ g5,h6 _ _ g6,trivial⟩
 .cases h
def JV{A B E F:Type}(f:D->Option A)(g:D->Option B)(k:D->Option E)(m:D->Option F):D->Option (A×B×E×F)
 | .tup [x,y,z,w]=>(f x).bind λa=>(g y).bind λb=>(k z).bind λc=>(m w).bind λd=>some (a,b,c,d)
 |_=>none
def VT{A B E F:Type}{f:D->Option A}{g:D->Option B}{k:D->Option E}{m:D->Option F}{e:A->D}{e':B->D}{e'':E->D}{z:F->D}(hf: ∀d x,f d=some x->Le d (e x))(hg: ∀d x,g d=some x->Le d (e' x))(hk: ∀d x,k d=some x->Le d (e'' x))(hm: ∀d x,m d=some x->Le d (z x)):
 ∀d (x:A×B×E×F),JV f g k m d=some x->Le d (.tup [e x.1,e' x.2.1,e'' x.2.2.1,z x.2.2.2]):=by
 intro d x h;unfold JV at h;split at h
 .simp only[Fi,AO] at h;obtain⟨a,G,b,O,c,Q,w,Z,rfl⟩:=h;exact Lh ⟨hf _ _ G,hg _ _ O,hk _ _ Q,hm _ _ Z,trivial⟩
 .cases h
def Ai.c_n(x:Ai):(Ai.c x).length=3:=rfl
def Be.c_n(x:Be):(Be.c x).length=3:=rfl
def Aq.c_n(x:Aq):(Aq.c x).length=3:=rfl
def Ad.c_n(x:Ad):(Ad.c x).length=2:=rfl
def Ct(x:Int):(Af x).length=1:=rfl
def Nx(x:List Int):(DA x).length=1:=rfl
structure QK(A:Type) where
 d:PK->Option A
 e:A->PK
 l: ∀p a,d p=some a->C9 p (e a)
def qI:QK Int:=⟨kI,λa=> .val (.int .i64 a),TJ⟩
def qU:QK Int:=⟨kU,λa=> .val (.int .u64 a),yC⟩
def qY:QK Int:=⟨kY,λa=> .val (.int .u8 a),yD⟩
def qB:QK Bool:=⟨kB,λa=> .val (.bool a),xW⟩
def qT:QK ByteArray:=⟨kT,λa=> .val (.str a),xZ⟩
section
variable {A:Type}{f:List D->Option A}{e:A->List D}
def qR(h: ∀ds x,f ds=some x->Di ds (e x)):QK A:=⟨kR f,λa=> .val (.agg (e a)),J6 h⟩
def qP(n:Nat)(h: ∀ds x,f ds=some x->Di ds (e x)):QK A:=⟨kP f n,λa=> .ptr (e a),xX n h⟩
def qS{k:Nat}(h: ∀ds x,f ds=some x->Di ds (e x))(z: ∀x,(e x).length=k):QK (List A):=⟨kS f,λa=> .val (.sl false k (a.map e)),M9 k h z⟩
end
structure AK(A:Type) where
 r:List PK->Option A
 e:A->List PK
 l: ∀ps a,r ps=some a->BY ps (e a)
 n:Nat
 w: ∀a,(e a).length=n
def b1{z:Type}(p0:QK z):AK (z):=⟨a1 p0.d,λa=>[p0.e (a)],cA p0.l,1,λ_=>rfl⟩
def b2{z G:Type}(p0:QK z)(p1:QK G):AK (z×G):=⟨a2 p0.d p1.d,λa=>[p0.e (a.1),p1.e (a.2)],cB p0.l p1.l,2,λ_=>rfl⟩
def b3{G O Q:Type}(p0:QK G)(p1:QK O)(z:QK Q):AK (G×O×Q):=⟨a3 p0.d p1.d z.d,λa=>[p0.e (a.1),p1.e (a.2.1),z.e (a.2.2)],RX p0.l p1.l z.l,3,λ_=>rfl⟩
def b4{O Q Z A3:Type}(p0:QK O)(p1:QK Q)(z:QK Z)(G:QK A3):AK (O×Q×Z×A3):=⟨a4 p0.d p1.d z.d G.d,λa=>[p0.e (a.1),p1.e (a.2.1),z.e (a.2.2.1),G.e (a.2.2.2)],xC p0.l p1.l z.l G.l,4,λ_=>rfl⟩
def b5{Q Z A2 A3 A4:Type}(p0:QK Q)(p1:QK Z)(z:QK A2)(G:QK A3)(O:QK A4):AK (Q×Z×A2×A3×A4):=⟨a5 p0.d p1.d z.d G.d O.d,λa=>[p0.e (a.1),p1.e (a.2.1),z.e (a.2.2.1),G.e (a.2.2.2.1),O.e (a.2.2.2.2)],xD p0.l p1.l z.l G.l O.l,5,λ_=>rfl⟩
def b6{Z A1 A2 A3 A4 A5:Type}(p0:QK Z)(p1:QK A1)(z:QK A2)(G:QK A3)(O:QK A4)(Q:QK A5):AK (Z×A1×A2×A3×A4×A5):=⟨a6 p0.d p1.d z.d G.d O.d Q.d,λa=>[p0.e (a.1),p1.e (a.2.1),z.e (a.2.2.1),G.e (a.2.2.2.1),O.e (a.2.2.2.2.1),Q.e (a.2.2.2.2.2)],xE p0.l p1.l z.l G.l O.l Q.l,6,λ_=>rfl⟩
def b7{A0 A1 A2 A3 A4 A5 A6:Type}(p0:QK A0)(p1:QK A1)(z:QK A2)(G:QK A3)(O:QK A4)(Q:QK A5)(Z:QK A6):AK (A0×A1×A2×A3×A4×A5×A6):=⟨a7 p0.d p1.d z.d G.d O.d Q.d Z.d,λa=>[p0.e (a.1),p1.e (a.2.1),z.e (a.2.2.1),G.e (a.2.2.2.1),O.e (a.2.2.2.2.1),Q.e (a.2.2.2.2.2.1),Z.e (a.2.2.2.2.2.2)],xF p0.l p1.l z.l G.l O.l Q.l Z.l,7,λ_=>rfl⟩
structure RK(B:Type) where
 c:D->Option B
 e:B->D
 l: ∀d b,c d=some b->Le d (e b)
def rI:RK Int:=⟨DG,D.int .i64,Q2⟩
def rB:RK Bool:=⟨Re,D.bool,eP⟩
def rT:RK ByteArray:=⟨I3,D.str,ZU⟩
section
variable {A:Type}{f:List D->Option A}{e:A->List D}
def rA(h: ∀ds x,f ds=some x->Di ds (e x)):RK A:=⟨EB f,λb=>D.agg (e b),NF h⟩
def rS{k:Nat}(h: ∀ds x,f ds=some x->Di ds (e x))(z: ∀x,(e x).length=k):RK (List A):=⟨Qu f,λb=>D.sl false k (b.map e),sR h z⟩
end
def r2{A B:Type}(p:RK A)(q:RK B):RK (A×B):=⟨lX p.c q.c,λb=>D.tup [p.e b.1,q.e b.2],Qbz p.l q.l⟩
def r3{A B C:Type}(p:RK A)(q:RK B)(r:RK C):RK (A×B×C):=⟨JU p.c q.c r.c,λb=>D.tup [p.e b.1,q.e b.2.1,r.e b.2.2],VS p.l q.l r.l⟩
def r4{A B C E:Type}(p:RK A)(q:RK B)(r:RK C)(s:RK E):RK (A×B×C×E):=⟨JV p.c q.c r.c s.c,λb=>D.tup [p.e b.1,q.e b.2.1,r.e b.2.2.1,s.e b.2.2.2],VT p.l q.l r.l s.l⟩
def tN{P:Program}:Kc P (tab []):=Rf [] (by simp)
def tC{P:Program}{g:Nat}{r:AG}{l:List (Nat×AG)}(h:H6 P g r)(O:Kc P (tab l)):Kc P (tab ((g,r)::l)):=by
 intro g' args h' nx K z;simp only[tab] at z;split at z
 .rename_i G;subst G;exact h _ _ _ _ z
 .exact O _ _ _ _ _ z
def ZA0:=J @VC0<|J @VC1<|J @VC2<|J @VC3<|J @VC4<|J @VC5<|J @VC6<|J @VC7<|J @VC8<|J @VC9<|J @VC10<|J @VC11<|J @VC12<|J @VC13<|J @VC14<|J @VC15<|J @VC16<|J @VC17<|J @VC18<|J @VC19<|J @VC20<|J @VC21<|J @VC22<|@VC23
def ZA1:=J @VC24<|J @VC25<|J @VC26<|J @VC27<|J @VC28<|J @VC29<|J @VC30<|J @VC31<|J @VC32<|J @VC33<|J @VC34<|J @VC35<|J @VC36<|J @VC37<|J @VC38<|J @VC39<|J @VC40<|J @VC41<|J @VC42<|J @VC43<|J @ZdF.{0}<|J @LL<|J @Bool.not_eq_false'<|@AV.im.injEq
def ZA2:=J @D.int.injEq<|J @D.bool.injEq<|J @D.str.injEq<|J @D.sl.injEq<|J @D.agg.injEq<|J @AV.own.injEq<|J @AV.ptr.injEq<|J @EF.{0,0}<|J @Ah.cells.injEq<|J @Ah.arr.injEq<|J @Wz.{0}<|J @Int.cast_ofNat_Int<|J @Int.ofNat_lt<|J @Int.ofNat_le<|J @Int.natCast_nonneg<|J @iH<|J @Jm<|J @Bc<|J @Ic<|J @Yf<|J @Yd<|J @RW<|J @Zfh<|@C7
def ZA3:=J @Jk<|J @Fu<|J @Bf.{0,0}<|J @Bg.{0,0}<|J @LK.{0}<|J @Ie.{0}<|J @OC.{0}<|J @Hp.{0}<|J @Zfn.{0}<|J @Zfo.{0}<|J @C8.{1}<|J @Cy.{1}<|J @Hn.{0}<|J @Kf.{0}<|J @ne_eq.{1}<|J @Dv.{0}<|J @Ci.{0}<|J @Ck.{0}<|J @CR.{0}<|J @DQ.{0}<|J @and_true<|J @Jn<|J @Zeh<|@not_true_eq_false
def ZA4:=J @or_true<|J @true_or<|J @BV<|J @FS<|J @W5<|J @Gd<|J @false_or<|J @iA.{0}<|J @iI.{0}<|J @QI<|J @wX<|J @wY<|J @ZeS<|J @nV<|J @XT<|J @true_implies<|J @false_implies<|J @G8.{0,0}<|J @EL<|J @ED<|J @FT<|J @nT<|J @nY.{0}<|@Option.isSome_some.{0}
def ZA5:=J @Bool.false_bne<|J @Bool.true_bne<|J @Bool.not_not<|J @AU<|J @B5<|J @eq_self.{1}<|J @wQ.{0}<|J @Bool.true_eq_false<|J @Dp<|J @TY0<|J @TY1<|J @TY2<|J @TY3<|J @TY4<|J @KY0<|J @KY1<|J @CY0<|J @J3.eq_1<|J @qI.eq_1<|J @qU.eq_1<|J @qY.eq_1<|J @qB.eq_1<|J @qT.eq_1<|@qR.eq_1
def ZA6:=J @qP.eq_1<|J @qS.eq_1<|J @b1.eq_1<|J @b2.eq_1<|J @b3.eq_1<|J @b4.eq_1<|J @b5.eq_1<|J @b6.eq_1<|J @b7.eq_1<|J @rI.eq_1<|J @rB.eq_1<|J @rT.eq_1<|J @rA.eq_1<|J @rS.eq_1<|J @r2.eq_1<|J @r3.eq_1<|J @r4.eq_1<|J @JV.eq_1<|J @JV.eq_2<|J @kI.eq_1<|J @kI.eq_2<|J @kU.eq_1<|J @kU.eq_2<|@kY.eq_1
def ZA7:=J @kY.eq_2<|J @kB.eq_1<|J @kB.eq_2<|J @kT.eq_1<|J @kT.eq_2<|J @kR.eq_1<|J @kR.eq_2<|J @kP.eq_1<|J @kP.eq_2<|J @kS.eq_1<|J @kS.eq_2<|J @a1.eq_1<|J @a1.eq_2<|J @a2.eq_1<|J @a2.eq_2<|J @a3.eq_1<|J @a3.eq_2<|J @a4.eq_1<|J @a4.eq_2<|J @a5.eq_1<|J @a5.eq_2<|J @a6.eq_1<|J @a6.eq_2<|@a7.eq_1
def ZA8:=J @a7.eq_2<|J @AX.eq_1<|J @AX.eq_2<|J @O6<|J @Ch.eq_1<|J @Ch.eq_2<|J @ZJ.eq_1<|J @ZJ.eq_2<|J @Af.eq_1<|J @Qk.eq_1<|J @mZ<|J @lC<|J @DG.eq_1<|J @DG.eq_2<|J @I3.eq_1<|J @I3.eq_2<|J @Re.eq_1<|J @Re.eq_2<|J @Qu.eq_1<|J @Qu.eq_2<|J @EB.eq_1<|J @EB.eq_2<|J @lX.eq_1<|@lX.eq_2
def ZA9:=J @JU.eq_1<|J @JU.eq_2<|J @Ad.c.eq_1<|J @Ad.d.eq_1<|J @Ad.d.eq_2<|J @Aq.c.eq_1<|J @Aq.d.eq_1<|J @Aq.d.eq_2<|J @Aq.d_R<|J @Ao.c.eq_1<|J @Ak.c.eq_1<|J @Ak.d.eq_1<|J @Ak.d.eq_2<|J @Ak.d_R<|J @Tile.c.eq_1<|J @Tile.d.eq_1<|J @Tile.d.eq_2<|J @Tile.d_R<|J @AE.c.eq_1<|J @AE.d.eq_1<|J @AE.d.eq_2<|J @AF.c.eq_1<|J @AF.d.eq_1<|@AF.d.eq_2
def ZA10:=J @Be.c.eq_1<|J @Be.d.eq_1<|J @Be.d.eq_2<|J @Be.d_R<|J @Jc.c.eq_1<|J @Jc.d.eq_1<|J @Jc.d.eq_2<|J @Ai.c.eq_1<|J @Ai.d.eq_1<|J @Ai.d.eq_2<|J @Ai.d_R<|J @Ez.{0,0}<|J @AO.{0}<|J @Du.{0,0}<|J @Ad.d_R<|J @Ad.eta<|J @Aq.eta<|J @Ao.eta<|J @Ak.eta<|J @Tile.eta<|J @AE.eta<|J @AF.eta<|J @Be.eta<|@Jc.eta
def ZA11:=J @Ai.eta<|J @Cw.c.eq_1<|J @Cw.d.eq_1<|J @Cw.d.eq_2<|J @Cw.eta<|J @Qmt<|J @Qk8<|J @Qqj<|J @UQ<|J @PA<|J @Iz.eq_1<|J @Iz.eq_2<|J @Iz.eq_3<|J @FD.{0,0}<|@IE.{0,0}
def ZA:=J @ZA0<|J @ZA1<|J @ZA2<|J @ZA3<|J @ZA4<|J @ZA5<|J @ZA6<|J @ZA7<|J @ZA8<|J @ZA9<|J @ZA10<|@ZA11
def ZT0:=J @dJ.eq_1<|J @DA.eq_1<|J @QC.eq_1<|J @QC.eq_2<|J @Ny<|J @Bi.c.eq_1<|J @Bi.d.eq_1<|J @Bi.d.eq_2<|J @Bi.eta<|J @Bk.c.eq_1<|J @Bk.d.eq_1<|J @Bk.d.eq_2<|J @Bk.eta<|J @Kv.c.eq_1<|J @Kv.d.eq_1<|J @Kv.d.eq_2<|J @Fo.c.eq_1<|J @Fo.d.eq_1<|J @Fo.d.eq_2<|J @Fl.c.eq_1<|J @Fl.d.eq_1<|J @Fl.d.eq_2<|J @Kv.eta<|@Fo.eta
def ZT1:= @Fl.eta
def ZT:=J @ZT0 (@ZT1)
def ZG:=J @A8.good.eq_1<|J @Df.eq_1<|J @Df.eq_2<|J @AB.eq_1<|J @AB.eq_2<|J @AB.eq_3<|J @AB.eq_4<|J @AB.eq_5<|J @AB.eq_6<|J @AB.eq_7<|J @AB.eq_8<|J @Cg.eq_1<|J @Cg.eq_2<|J @AV.bel.eq_1<|J @AV.bel.eq_2<|J @AV.bel.eq_3<|J @AV.bel.eq_4<|J @AV.bel.eq_5<|J @AV.bel.eq_6<|J @AV.bel.eq_7<|J @AV.bel.eq_8<|J @AV.bel.eq_9<|J @AV.bel.eq_10<|J @AV.bel.eq_11<|J @AV.bel.eq_12<|J @AQ.eq_1 @AQ.eq_2
def BD:=J @Rc<|J @Oc<|J @NZ<|J @Ob @Rb
def Av:=J BD (J @Br.{0} @Bx.{0})
def Adq(b:Bool)(k:Nat)(x:List (List D)):Ao.d [.sl b k x]=(AX Aq.d x).bind λy=>some ⟨y⟩:=rfl
def ZZ:=J ZA (J ZT @Adq)
def vq{A:Type}{ar:List PK->Option A}{pre:A->Prop}{re:A->D}(r:AG)(e:r=Ff ar pre re)(a:List AV)(h:Nat->Option Au)(n:Nat)(K:Aj):r a h n K=aE ar pre re (Ax a) K (Kp h a):=by rw[e];rfl
def oM{A:Type}{ar:List PK->Option A}{pre:A->Prop}{re:A->D}(r:AG)(e:r=LB ar pre re)(a:List AV)(h:Nat->Option Au)(n:Nat)(K:Aj):r a h n K=Xq ar pre re (E7 h a) K (Cp h a):=by rw[e];rfl
end Go.Ae
namespace Go.Ae
open Go.Proofs
def vK{A B:Type}(k:AK A)(r:RK B)(pre:A->Prop)(f:A->B):AG:=Ff k.r pre λa=>r.e (f a)
def CY{A B:Type}(k:AK A)(r:RK B)(pre:A->Prop)(f:A->B):AG:=LB k.r pre λa=>r.e (f a)
section
variable {A B:Type}{R:AG}{k:AK A}{r:RK B}{pre:A->Prop}{f:A->B}
def B3(e:R=vK k r pre f)(a:List AV)(h:Nat->Option Au)(n:Nat)(K:Aj):R a h n K=aE k.r pre (λa=>r.e (f a)) (Ax a) K (Kp h a):=by rw[e];rfl
def CD(e:R=CY k r pre f)(a:List AV)(h:Nat->Option Au)(n:Nat)(K:Aj):R a h n K=Xq k.r pre (λa=>r.e (f a)) (E7 h a) K (Cp h a):=by rw[e];rfl
variable {V:D4}(hV:Kc Tryz.prog V){g:FuncId}{fn:Func}{c:Code}(hf:Tryz.prog.funcs[g]? =some fn)
include hV hf
def vw(O: ∀a,pre a->D6 Tryz.prog V c (PF Tryz.prog fn.results.toList (BT (k.e a)) [] KW (Dm 0 (k.e a)) (Na r.c (f a))) ⟨entry 0 (Dn 0 (k.e a)),Dm 0 (k.e a),BT (k.e a)⟩)(G:fn.body=some c:=by rfl)(z:(E0 fn.ntmps c && (GC Tryz.prog g && Nat.ble k.n fn.ntmps))=true:=by kernel_rfl):H6 Tryz.prog g (vK k r pre f):=by
 simp only[Bc] at z;exact aG D3 hV hf G z.1 z.2.1 k.l k.w (nQ z.2.2) r.l O
def FM(O: ∀a,pre a->D6 Tryz.prog V c (bO Tryz.prog fn.results.toList (AP r.c (f a))) ⟨entry 0 (Dn 0 (k.e a)),Dm 0 (k.e a),BT (k.e a)⟩)(G:fn.body=some c:=by rfl)(z:(E0 fn.ntmps c && (GC Tryz.prog g && Nat.ble k.n fn.ntmps))=true:=by kernel_rfl):H6 Tryz.prog g (CY k r pre f):=by
 simp only[Bc] at z;exact lP D3 hV hf G z.1 z.2.1 k.l k.w (nQ z.2.2) r.l O
end
section
variable {V:D4}(hV:Kc Tryz.prog V){g:FuncId}{fn:Func}{c:Code}(hf:Tryz.prog.funcs[g]? =some fn)
 {A:Type}{ca:A->List AV}{H0 H1:A->Ar}{k cnt:Nat}{pre:A->Prop}{klB exB:Nat->Bool}{r0:A->AV}{R:A->AV->Prop}
 (hn: ∀a,Nat.ble (ca a).length fn.ntmps=true)(hq: ∀a,AQ k (ca a)=true/\AB k (H0 a)=true/\Cg k (H0 a)=true/\Cs (H0 a) (H0 a))
 (hH1: ∀a,∀p∈H1 a,(p.1<k/\klB p.1=true/\An (H0 a) p.1=true)\/(k<=p.1/\p.1<k+cnt/\exB p.1=true/\p.2.1=true))
 (hR: ∀a r,R a r->D2 r (r0 a))
include hV hf hn hq hH1 hR
def ow(hk: ∀a,pre a->D6 Tryz.prog V c (NT Tryz.prog fn.results.toList k cnt (H0 a) (H1 a) klB exB (R a)) ⟨entry 0 (ca a),H0 a,k⟩)(hb:fn.body=some c:=by rfl)(Q:(E0 fn.ntmps c && GC Tryz.prog g)=true:=by kernel_rfl):H6 Tryz.prog g (Az ca H0 k pre klB r0 H1 cnt):=by
 simp only[Bc] at Q;rintro args h nx K ⟨a,τ,U,KL,O,rfl,z,G,hK⟩;refine⟨Oy Q.2,_,_,?_,hK⟩;exact yM D3 hV hf hb Q.1 (nQ (hn a)) (hq a).1 (hq a).2.1 (hq a).2.2.1 (λj e Z=>Qo2 (hq a).2.2.2 j e (fW Z)) (hR a) (hH1 a) Vb (λ_ _ h=>h) (hk a O) G.inj G.lt
  (λj e Z=>Qpk z j e (fW Z)) G.u G.k1 G.k2
def Ha(hk: ∀a,pre a->D6 Tryz.prog V c (AD Tryz.prog fn.results.toList k cnt (H0 a) (H1 a) klB exB (R a)) ⟨entry 0 (ca a),H0 a,k⟩)(hb:fn.body=some c:=by rfl)(Q:(E0 fn.ntmps c && GC Tryz.prog g)=true:=by kernel_rfl):H6 Tryz.prog g (Az ca H0 k pre klB r0 H1 cnt):=by
 simp only[Bc] at Q;rintro args h nx K ⟨a,τ,U,KL,O,rfl,z,G,hK⟩;refine⟨Oy Q.2,_,_,?_,hK⟩;exact yM D3 hV hf hb Q.1 (nQ (hn a)) (hq a).1 (hq a).2.1 (hq a).2.2.1 (λj e Z=>Qo2 (hq a).2.2.2 j e (fW Z)) (hR a) (hH1 a) Vc (λ_ _ h=>h) (hk a O) G.inj G.lt
  (λj e Z=>Qpk z j e (fW Z)) G.u G.k1 G.k2
end
abbrev AJ:=H6 Tryz.prog
def Bj(n lo z:Int):Bool:=decide (lo<=n) && decide (n<=z)
def within_.fv(a:Int×Int×Int):Bool:=(Bj) (a.1) (a.2.1) (a.2.2)
def within_.row:AG:=vK (b3 qI qI qI) rB (λa=>True) within_.fv
def within_.q:=B3 (R:=within_.row) rfl
def within_.ok:AJ 45 within_.row:=by
 refine vw tN Tryz.func45 ?_;intro a z;simp only[Tryz.f45,Option.getD];simp only[ZZ,simprocAttr,Ab,within_.fv];simp only[Bj];grind
def l00In.fv(a:Int×Int×Int):Bool:=(Bj) (a.1) (a.2.1) (a.2.2)
def l00In.row:AG:=vK (b3 qI qI qI) rB (λa=>True) l00In.fv
def l00In.q:=B3 (R:=l00In.row) rfl
def l00In.ok:AJ 29 l00In.row:=by
 refine vw tN Tryz.func29 ?_;intro a z;simp only[Tryz.f29,Option.getD];simp only[ZZ,simprocAttr,Ab,l00In.fv];simp only[Bj];grind
def I64(n:Int):Prop:= -9223372036854775808<=n/\n<=9223372036854775807
def isIndex.fv(a:Int×Int):Bool:=Bj a.1 0 (a.2 - 1)
def isIndex.row:AG:=vK (b2 qI qI) rB (λa=>0<=a.2/\I64 a.2) isIndex.fv
def isIndex.q:=B3 (R:=isIndex.row) rfl
def isIndex.ok:AJ 135 isIndex.row:=by
 refine vw (tC within_.ok tN) Tryz.func135 ?_;intro a z;simp only[Tryz.f135,Option.getD];simp only[ZZ,simprocAttr,Ab,isIndex.fv,within_.q,within_.fv];obtain⟨G,O,Q⟩:=z;rw[AH (by omega) (by omega)]
def F7(p:Ad):Bool:=Bj p.X (-60) 60 && Bj p.Y (-60) 60
def ValidPoint.fv(a:Ad):Bool:=(F7) a
def ValidPoint.row:AG:=vK (b1 (qR Ad.d_le)) rB (λa=>True) ValidPoint.fv
def ValidPoint.q:=B3 (R:=ValidPoint.row) rfl
def ValidPoint.ok:AJ 134 ValidPoint.row:=by
 refine vw (tC within_.ok tN) Tryz.func134 ?_;intro a z;simp only[Tryz.f134,Option.getD];simp only[ZZ,simprocAttr,Ab,ValidPoint.fv,within_.q,within_.fv];simp only[F7];grind
def l01Point.fv(a:Ad):Bool:=(F7) a
def l01Point.row:AG:=vK (b1 (qR Ad.d_le)) rB (λa=>True) l01Point.fv
def l01Point.q:=B3 (R:=l01Point.row) rfl
def l01Point.ok:AJ 106 l01Point.row:=by
 refine vw (tC l00In.ok tN) Tryz.func106 ?_;intro a z;simp only[Tryz.f106,Option.getD];simp only[ZZ,simprocAttr,Ab,l01Point.fv,l00In.q,l00In.fv];simp only[F7];grind
def isNaN.fv(a:Int):Bool:=false && a==0
def isNaN.row:AG:=vK (b1 qI) rB (λa=>True) isNaN.fv
def isNaN.q:=B3 (R:=isNaN.row) rfl
def isNaN.ok:AJ 189 isNaN.row:=by
 refine vw tN Tryz.func189 ?_;intro a z;simp only[Tryz.f189,Option.getD];simp only[ZZ,simprocAttr,Ab,isNaN.fv]
 try simp
def FF(a b:Int):Int:=if a<b then -1 else if b<a then 1 else 0
def Compare.fv(a:Int×Int):Int:=(FF) (a.1) (a.2)
def Compare.row:AG:=vK (b2 qI qI) rI (λa=>True) Compare.fv
def Compare.q:=B3 (R:=Compare.row) rfl
def Compare.ok:AJ 162 Compare.row:=by
 refine vw (tC isNaN.ok tN) Tryz.func162 ?_;intro a z;simp only[Tryz.f162,Option.getD];simp only[ZZ,simprocAttr,Ab,Compare.fv,isNaN.q,isNaN.fv];simp only[FF];grind
def Bv(a b:Ad):Bool:=decide (a.Y<b.Y)||(decide (a.Y=b.Y) && decide (a.X<b.X))
def l_LessPoint.fv(a:Ad×Ad):Bool:=(Bv) (a.1) (a.2)
def l_LessPoint.row:AG:=vK (b2 (qR Ad.d_le) (qR Ad.d_le)) rB (λa=>True) l_LessPoint.fv
def l_LessPoint.q:=B3 (R:=l_LessPoint.row) rfl
def l_LessPoint.ok:AJ 87 l_LessPoint.row:=by
 refine vw tN Tryz.func87 ?_;intro a z;simp only[Tryz.f87,Option.getD];simp only[ZZ,simprocAttr,Ab,l_LessPoint.fv];simp only[Bv]
 grind
def Bt(a b:Int):Int:=if a<b then a else b
def Bo(a b:Int):Int:=if b<a then a else b
def l00Min.fv(a:Int×Int):Int:=(Bt) (a.1) (a.2)
def l00Min.row:AG:=vK (b2 qI qI) rI (λa=>True) l00Min.fv
def l00Min.q:=B3 (R:=l00Min.row) rfl
def l00Min.ok:AJ 52 l00Min.row:=by
 refine vw tN Tryz.func52 ?_;intro a z;simp only[Tryz.f52,Option.getD];simp only[ZZ,simprocAttr,Ab,l00Min.fv];simp only[Bt];grind
def l00Max.fv(a:Int×Int):Int:=(Bo) (a.1) (a.2)
def l00Max.row:AG:=vK (b2 qI qI) rI (λa=>True) l00Max.fv
def l00Max.q:=B3 (R:=l00Max.row) rfl
def l00Max.ok:AJ 53 l00Max.row:=by
 refine vw tN Tryz.func53 ?_;intro a z;simp only[Tryz.f53,Option.getD];simp only[ZZ,simprocAttr,Ab,l00Max.fv];simp only[Bo];grind
def uJ(c:Int):Bool:=Bj c 97 122||Bj c 65 90
def XH(c:Int):Bool:=Bj c 48 57
def l01Letter.fv(a:Int):Bool:=(uJ) a
def l01Letter.row:AG:=vK (b1 qY) rB (λa=>True) l01Letter.fv
def l01Letter.q:=B3 (R:=l01Letter.row) rfl
def l01Letter.ok:AJ 105 l01Letter.row:=by
 refine vw tN Tryz.func105 ?_;intro a z;simp only[Tryz.f105,Option.getD];simp only[ZZ,simprocAttr,Ab,l01Letter.fv];simp only[uJ,Bj];grind
def l01Digit.fv(a:Int):Bool:=(XH) a
def l01Digit.row:AG:=vK (b1 qY) rB (λa=>True) l01Digit.fv
def l01Digit.q:=B3 (R:=l01Digit.row) rfl
def l01Digit.ok:AJ 31 l01Digit.row:=by
 refine vw tN Tryz.func31 ?_;intro a z;simp only[Tryz.f31,Option.getD];simp only[ZZ,simprocAttr,Ab,l01Digit.fv];simp only[XH,Bj];grind
def xH(a b:Ad):Ad:=⟨a.X+b.X,a.Y+b.Y⟩
def I7(p:Ad):Prop:= -1000000000<=p.X/\p.X<=1000000000/\ -1000000000<=p.Y/\p.Y<=1000000000
def plus.fv(a:Ad×Ad):Ad:=(xH) (a.1) (a.2)
def plus.row:AG:=vK (b2 (qR Ad.d_le) (qR Ad.d_le)) (rA Ad.d_le) (λa=>I7 a.1/\I7 a.2) plus.fv
def plus.q:=B3 (R:=plus.row) rfl
def plus.ok:AJ 154 plus.row:=by
 refine vw tN Tryz.func154 ?_;intro a z;simp only[Tryz.f154,Option.getD];simp only[ZZ,simprocAttr,Ab,plus.fv];obtain⟨⟨G,O,Q,Z⟩,h5,h6,h7,h8⟩:=z;rw[AH (by omega) (by omega),AH (by omega) (by omega)];rfl
def CF(p:Ad)(d:Int):Ad:=if d=0 then ⟨p.X,p.Y+1⟩ else if d=1 then ⟨p.X+1,p.Y⟩ else if d=2 then ⟨p.X,p.Y - 1⟩ else ⟨p.X - 1,p.Y⟩
def step_.rc:D->Option (Ad):=EB Ad.d
def step_.re:Ad->D:=λb=>D.agg (Ad.c b)
def step_.rle: ∀d b,step_.rc d=some b->Le d (step_.re b):=NF Ad.d_le
def step_.ar:List PK->Option (Ad×Int):=a2 (kR Ad.d) kI
def step_.fv(a:Ad×Int):Ad:=(CF) (a.1) (a.2)
def step_.row:AG:=vK (b2 (qR Ad.d_le) qI) (RK.mk step_.rc step_.re step_.rle) (λa=>I7 a.1/\0<=a.2/\a.2<=3) step_.fv
def step_.q:=B3 (R:=step_.row) rfl
def step_.ok:AJ 121 step_.row:=by
 refine vw (tC plus.ok tN) Tryz.func121 ?_;intro a z;simp only[Tryz.f121,Option.getD];obtain⟨p,d⟩:=a;obtain⟨hp,G,O⟩:=z;simp only at G O hp;rcases (by omega:d=0\/d=1\/d=2\/d=3) with rfl|rfl|rfl|rfl
 all_goals
  simp only[ZZ,simprocAttr,Ab,step_.fv,step_.rc,plus.q,plus.fv];obtain⟨Q,Z,h5,h6⟩:=hp;refine⟨⟨⟨Q,Z,h5,h6⟩,by simp[I7]⟩,?_⟩;simp[CF,xH]<;>omega
def l01Step.fv(a:Ad×Int):Ad:=(CF) (a.1) (a.2)
def l01Step.row:AG:=vK (b2 (qR Ad.d_le) qI) (rA Ad.d_le) (λa=>I7 a.1/\0<=a.2/\a.2<=3) l01Step.fv
def l01Step.q:=B3 (R:=l01Step.row) rfl
def l01Step.ok:AJ 113 l01Step.row:=by
 refine vw tN Tryz.func113 ?_;intro a z;simp only[Tryz.f113,Option.getD];simp only[ZZ,simprocAttr,Ab,l01Step.fv];obtain⟨⟨G,O,Q,Z⟩,h5,h6⟩:=z;rw[AH (by omega) (by omega),AH (by omega) (by omega),AH (by omega) (by omega),AH (by omega) (by omega)];simp only[CF]
 grind
def Q8:List Int->Int
 |[]=>0
 |x::r=>if x=0 then Q8 r else x
def Or.fv(a:(List Int)):Int:=(Q8) a
def Or.row:AG:=vK (b1 (qS Dj Ct)) rI (λa=>True) Or.fv
def Or.q:=B3 (R:=Or.row) rfl
def Or.ok:AJ 161 Or.row:=by
 refine vw tN Tryz.func161 ?_;intro a Z;simp only[Tryz.f161,Option.getD];simp(disch:=omega)only[ZZ,simprocAttr,Ab,Or.fv];intro Q;refine AZ.old ⟨{k:Nat//k<=a.length/\Q8 (a.drop k)=Q8 a},λk=>⟨[(8,.im (.int .i64 k.1)),(7,.im (.int .i64 a.length)),(6,.im (.sl false 1 (a.map Af))),(3,.im (.int .i64 0)),(2,.im (.int .i64 0))],[],0⟩,λk=>a.length - k.1,λk=>⟨by simp[ZG],AU _⟩,⟨⟨0,by simp⟩,by simp(disch:=omega)only[ZZ,simprocAttr,Ab,Or.fv,sub]⟩,λk=> ?_⟩;obtain⟨k,aa,z⟩:=k;simp(disch:=omega)only[ZZ,simprocAttr,Ab,Or.fv,sub];simp only[AS];refine⟨λG=>⟨G,λx hx=> ?_⟩,λG=> ?_⟩
 .have O:a.drop k=x::a.drop (k+1):=by
   rw[XP G];rw[BB G] at hx;rw[AC hx]
  rw[O,Q8] at z;refine⟨λh=>by grind,λh=>⟨⟨k+1,by omega,by grind⟩,by simp only;omega,?_⟩⟩;simp (disch:=omega) only[AH];simp
 .have O:a.drop k=[]:=Ee (by omega);rw[O] at z;exact z
def comparePoints.fv(a:Ad×Ad):Int:=(λa b=>Q8 [FF a.Y b.Y,FF a.X b.X]) (a.1) (a.2)
def comparePoints.row:AG:=vK (b2 (qR Ad.d_le) (qR Ad.d_le)) rI (λa=>True) comparePoints.fv
def comparePoints.q:=B3 (R:=comparePoints.row) rfl
def comparePoints.ok:AJ 131 comparePoints.row:=by
 refine vw (tC Compare.ok (tC Or.ok tN)) Tryz.func131 ?_;intro a z;simp only[Tryz.f131,Option.getD];simp only[ZZ,simprocAttr,Ab,comparePoints.fv,Compare.q,Compare.fv,Or.q,Or.fv]
def impl_LessPoint.fv(a:Ad×Ad):Bool:=(Bv) (a.1) (a.2)
def impl_LessPoint.row:AG:=vK (b2 (qR Ad.d_le) (qR Ad.d_le)) rB (λa=>True) impl_LessPoint.fv
def impl_LessPoint.q:=B3 (R:=impl_LessPoint.row) rfl
def impl_LessPoint.ok:AJ 136 impl_LessPoint.row:=by
 refine vw (tC comparePoints.ok tN) Tryz.func136 ?_;intro a z;simp only[Tryz.f136,Option.getD];simp only[ZZ,simprocAttr,Ab,impl_LessPoint.fv,comparePoints.q,comparePoints.fv];simp only[Bv,Q8,FF]
 grind
def Ou(i:Nat)(c:Int):Bool:=uJ c||(decide (i≠0) && (XH c||decide (c=95)))
def HU:Nat->List UInt8->Bool
 |_,[]=>true
 |i,c::r=>Ou i c.toNat && HU (i+1) r
def pT{a:ByteArray}{k:Nat}{c:UInt8}(G:a.data[k]? =some c):a.data.toList.drop k=c::a.data.toList.drop (k+1):=by
 have h0:a.data.toList[k]? =some c:=by simpa using G
 have z:k<a.data.toList.length:=(CL.1 h0).1;rw[XP z];rw[BB z] at h0;rw[AC h0]
def Sn{a:ByteArray}{k:Nat}(h: ¬k<a.size):a.data.toList.drop k=[]:=Ee (by simpa using h)
def IZ(s:ByteArray):Bool:=HU 0 s.data.toList && (decide (1<=s.size) && decide (s.size<=12))
def impl_IsName.fv(a:ByteArray):Bool:=(IZ) a
def impl_IsName.row:AG:=vK (b1 qT) rB (λa=>a.size<=140737488355328) impl_IsName.fv
def impl_IsName.q:=B3 (R:=impl_IsName.row) rfl
def impl_IsName.ok:AJ 132 impl_IsName.row:=by
 refine vw tN Tryz.func132 ?_;intro a aa;simp only[Tryz.f132,Option.getD];simp only[ZZ,simprocAttr,Ab,impl_IsName.fv];refine AZ.old ⟨{k:Nat//k<=a.size/\HU k (a.data.toList.drop k)=HU 0 a.data.toList},λk=>⟨[(8,.im (.int .i64 k.1)),(7,.im (.int .i64 a.size)),(6,.im (.str a)),(0,.im (.str a)),(2,.im (.bool false))],[],0⟩,λk=>a.size - k.1,λk=>⟨by simp[ZG],AU _⟩,⟨⟨0,by simp⟩,by simp only[ZZ,simprocAttr,Ab,impl_IsName.fv,sub]⟩,λk=> ?_⟩;obtain⟨k,ab,z⟩:=k;simp only[ZA,simprocAttr,Ao.d,Ab,impl_IsName.fv,sub]
 split<;>rename_i Q
 .refine⟨Q,?_⟩;intro c hc;have hd:a.data.toList.drop k=c::a.data.toList.drop (k+1):=by
   have hl:k<a.data.toList.length:=by simpa using Q
   rw[XP hl]
   have:a.data.toList[k]? =some c:=by simpa using hc
   rw[BB hl] at this;rw[AC this]
  rw[hd,HU] at z;by_cases Z:(97:Int)<=c.toNat<;>by_cases e2:(c.toNat:Int)<=122<;>(try (exfalso;omega))<;>by_cases e3:(65:Int)<=c.toNat<;>(try (exfalso;omega))<;>by_cases e4:(c.toNat:Int)<=90<;>(try (exfalso;omega))<;>
   by_cases e5:(c.toNat:Int)<48<;>(try (exfalso;omega))<;>by_cases e6:(57:Int)<c.toNat<;>(try (exfalso;omega))<;>by_cases e7:(c.toNat:Int)=95<;>(try (exfalso;omega))<;>by_cases e8:(k:Int)=0
  all_goals
   have e9:(48:Int)<=c.toNat↔ ¬(c.toNat:Int)<48:=by omega
   have G:(c.toNat:Int)<=57↔ ¬(57:Int)<c.toNat:=by omega
   have O:k=0↔(k:Int)=0:=by omega
   have hb:Ou k c.toNat=Ou k c.toNat:=rfl
   conv at hb=>
    rhs
    simp only[Ou,uJ,XH,Bj,Z,e2,e3,e4,e5,e6,e7,e8,e9,G,O,ne_eq,RW,Zfh,EL,nT,wX,QI,wY,ZeS,ED,FT,not_true_eq_false,Zeh]
   rw[hb] at z;simp only[ZZ,simprocAttr,Ab,impl_IsName.fv,sub,Z,e2,e3,e4,e5,e6,e7,e8]
   first
    |(simp only[FT] at z
      simp only[IZ,<-z,FT])
    |(simp only[ED] at z
      refine⟨⟨k+1,by omega,z⟩,by simp only;omega,?_⟩;rw[AH (by omega) (by omega)];simp only
      omega)
    |(have h9:HU 0 a.data.toList=false:=by rw[<-z];simp
      simp[IZ,h9])
 .have:a.data.toList.drop k=[]:=Ee (by simpa using Q)
  rw[this,HU] at z;simp only[IZ]
  grind
def spec_IsName.fv(a:ByteArray):Bool:=(IZ) a
def spec_IsName.row:AG:=vK (b1 qT) rB (λa=>True) spec_IsName.fv
def spec_IsName.q:=B3 (R:=spec_IsName.row) rfl
def nM:=J @spec_IsName.fv.eq_1<|J @l01Letter.q<|J @l01Letter.fv.eq_1<|J @l01Digit.q @l01Digit.fv.eq_1
def spec_IsName.ok:AJ 78 spec_IsName.row:=by
 refine vw (tC l01Letter.ok (tC l01Digit.ok tN)) Tryz.func78 ?_;intro a ad;simp only[Tryz.f78,Option.getD];simp only[ZA,simprocAttr,Ao.d,Ab,nM,AS];refine⟨λh1=>⟨λh2=>⟨by omega,?_⟩,λh2=> ?_⟩,λh1=> ?_⟩
 .intro c hc;have hd:=pT hc;rw[Ie] at hd;cases hL:uJ c.toNat
  .simp only[ZZ,simprocAttr,Ab,nM,hL];have h9:HU 0 a.data.toList=false:=by rw[hd];simp[HU,Ou,hL]
   simp[IZ,h9]
  .simp only[ZZ,simprocAttr,Ab,nM,hL];refine AZ.old ⟨{k:Nat//1<=k/\k<=a.size/\HU k (a.data.toList.drop k)=HU 0 a.data.toList},λk=>⟨[(3,.im (.int .i64 k.1)),(0,.im (.str a)),(2,.im (.bool false))],[],0⟩,λk=>a.size - k.1,λk=>⟨by simp[ZG],AU _⟩,⟨⟨1,by omega,by omega,?_⟩,by simp only[ZZ,simprocAttr,Ab,nM,sub]⟩,λk=> ?_⟩
   .conv=>rhs;rw[hd]
    simp[HU,Ou,hL]
   .obtain⟨k,af,ag,z⟩:=k;simp only[ZA,simprocAttr,Ao.d,Ab,nM,sub,AS];refine⟨λZ=>⟨Z,λc2 Q=> ?_⟩,λZ=> ?_⟩
    .rw[pT Q,HU] at z;simp only[ZZ,simprocAttr,Ab,nM,sub,AS];have ac:Ou k c2.toNat=true->HU (k+1) (a.data.toList.drop (k+1))=HU 0 a.data.toList:=by
      intro h;rw[h] at z;simpa using z
     have ab:Ou k c2.toNat=false->false=IZ a:=by
      intro h;rw[h] at z;have h9:HU 0 a.data.toList=false:=by rw[<-z];simp
      simp[IZ,h9]
     have O:Ou k c2.toNat=true-> ∃b':{k:Nat//1<=k/\k<=a.size/\HU k (a.data.toList.drop k)=HU 0 a.data.toList},a.size - b'.val<a.size - k/\IntKind.wrap .i64 ((k:Int)+1)=b'.val:=by
      intro h;refine⟨⟨k+1,by omega,by omega,ac h⟩,by simp only;omega,?_⟩;rw[AH (by omega) (by omega)];simp only;omega
     have aa:k≠0:=by omega
     refine⟨λl=>⟨Z,λc3 G=> ?_⟩,λl=> ?_⟩
     .rw[Q] at G;obtain rfl:=AC G;refine⟨λl2=>⟨Z,λc3 G=> ?_⟩,λl2=> ?_⟩
      .rw[Q] at G;obtain rfl:=AC G;refine⟨λl3=>ab ?_,λl3=>O ?_⟩
       .simp[Ou,l,l2,l3]
       .simp only[HJ] at l3;simp[Ou,l3,aa]
      .refine O ?_;simp only[Jg] at l2;simp[Ou,l2,aa]
     .refine O ?_;simp only[Jg] at l;simp[Ou,l]
    .rw[Sn Z,HU] at z;simp only[IZ]
     grind
 .simp only[IZ];grind
 .simp only[IZ];grind
def Qli{A:Type}{B:Type}(f:A->B)(z:B)(a:List A)(k:Nat)(x:A)(G:a[k]? =some x):
 ((a.take k).map f++List.replicate (a.length - k) z).set k (f x)=(a.take (k+1)).map f++List.replicate (a.length - (k+1)) z:=by
 have hk:k<a.length:=(CL.1 G).1;have O:a.take (k+1)=a.take k++[x]:=by
  rw[Ji,G];rfl
 have Q:a.length - k=(a.length - (k+1))+1:=by omega
 rw[O,Q,Zex,CV,Ej,wU _ _ (by simp;omega)];have Z:k - (List.map f (List.take k a)).length=0:=by simp;omega
 rw[Z];rfl
def Qj5{A:Type}{B:Type}(f:A->B)(z:B)(a:List A)(k:Nat)(x:A)(O:a[k]? =some x):
 ((a.take k).map f++List.replicate (a.length - k) z)[k]? =some z:=by
 have Q:k<a.length:=(CL.1 O).1;rw[G6 (by simp;omega)];have G:k - (List.map f (List.take k a)).length=0:=by simp;omega
 rw[G,O9,Al (by omega)]
def Qk2{A:Type}{B:Type}(f:A->B)(z:B)(a:List A)(k:Nat)(G:k<=a.length):((a.take k).map f++List.replicate (a.length - k) z).length=a.length:=by
 simp;omega
def Qkp{A:Type}{B:Type}(f:A->B)(z:B)(a:List A)(k:Nat)(G:a.length<=k):(a.take k).map f++List.replicate (a.length - k) z=a.map f:=by
 rw[GW G,show a.length - k=0 by omega];simp
def toInt64S.fv(a:(List Int)):List Int:=(λp=>p) a
def toInt64S.row:AG:=vK (b1 (qS Dj Ct)) (rS Dj Ct) (λa=>a.length<=1073741824) toInt64S.fv
def toInt64S.ok:AJ 5 toInt64S.row:=by
 refine vw tN Tryz.func5 ?_;intro a Q;simp only[Tryz.f5,Option.getD];simp only[ZZ,simprocAttr,Ab,toInt64S.fv];intro O;refine⟨by omega,?_⟩;refine AZ.old ⟨{k:Nat//k<=a.length},λk=>⟨[(4,.im (.int .i64 k.1)),(3,.own 1),(0,.im (.sl false 1 (a.map Af)))],[(1,(true,.arr 2 1 ((a.take k.1).map Af++List.replicate (a.length - k.1) [.int .i64 0])))],2⟩,λk=>a.length - k.1,λk=>⟨by simp[ZG],AU _⟩,⟨⟨0,by omega⟩,by simp only[ZZ,simprocAttr,Ab,toInt64S.fv,sub];simp⟩,λk=> ?_⟩;obtain⟨k,G⟩:=k;simp only[ZZ,simprocAttr,Ab,toInt64S.fv,sub,AS,Qk2 _ _ a k G];intro _;refine⟨λz=>⟨z,λx Z=>⟨z,z,mL (Qj5 Af [.int .i64 0] a k x Z) ?_⟩⟩,λz=> ?_⟩
 .simp only[ZZ,simprocAttr,Ab,toInt64S.fv,sub];refine⟨⟨k+1,by omega⟩,by simp only;omega,?_,?_⟩
  .rw[AH (by omega) (by omega)];simp only;omega
  .exact Qli Af [.int .i64 0] a k x Z
 .rw[Qkp Af _ a k (by omega)];simp[mZ]
def eqPoint.fv(a:Ad×Ad):Bool:=(λa b=>decide (a=b)) (a.1) (a.2)
def eqPoint.row:AG:=vK (b2 (qR Ad.d_le) (qR Ad.d_le)) rB (λa=>True) eqPoint.fv
def eqPoint.q:=B3 (R:=eqPoint.row) rfl
def eqPoint.ok:AJ 74 eqPoint.row:=by
 refine vw tN Tryz.func74 ?_;intro a G;simp only[Tryz.f74,Option.getD];simp only[ZZ,simprocAttr,Ab,eqPoint.fv];obtain⟨⟨x,y⟩,⟨z,w⟩⟩:=a;simp only[Ad.mk.injEq]
 grind
def eqPlaced.fv(a:Aq×Aq):Bool:=(λa b=>decide (a=b)) (a.1) (a.2)
def eqPlaced.row:AG:=vK (b2 (qR Aq.d_le) (qR Aq.d_le)) rB (λa=>True) eqPlaced.fv
def eqPlaced.q:=B3 (R:=eqPlaced.row) rfl
def eqPlaced.ok:AJ 48 eqPlaced.row:=by
 refine vw (tC eqPoint.ok tN) Tryz.func48 ?_;intro a G;simp only[Tryz.f48,Option.getD];simp only[ZZ,simprocAttr,Ab,eqPlaced.fv,eqPoint.q,eqPoint.fv];obtain⟨⟨⟨x,y⟩,u⟩,⟨⟨z,w⟩,v⟩⟩:=a;simp only[Aq.mk.injEq,Ad.mk.injEq]
 grind
def Qew{A:Type}[DecidableEq A]{a b:List A}(hl:a.length=b.length){k:Nat}(Z:k<=a.length)(h:a.take k=b.take k){x y:A}(Q:a[k]? =some x)(O:b[k]? =some y):
 (x=y->a.take (k+1)=b.take (k+1))/\(x≠y->a≠b):=by
 refine⟨λz=> ?_,λz G=> ?_⟩
 .rw[Ji,Ji,h,Q,O,z]
 .subst G;rw[Q] at O;exact z (AC O)
def eqPlacedS.fv(a:(List Aq)×(List Aq)):Bool:=(λa b=>decide (a=b)) (a.1) (a.2)
def eqPlacedS.row:AG:=vK (b2 (qS Aq.d_le Aq.c_n) (qS Aq.d_le Aq.c_n)) rB (λa=>True) eqPlacedS.fv
def eqPlacedS.q:=B3 (R:=eqPlacedS.row) rfl
def Yab:=J @eqPlacedS.fv.eq_1 (J @eqPlaced.q @eqPlaced.fv.eq_1)
def eqPlacedS.ok:AJ 20 eqPlacedS.row:=by
 refine vw (tC eqPlaced.ok tN) Tryz.func20 ?_;intro a Z;simp only[Tryz.f20,Option.getD];simp only[ZZ,simprocAttr,Ab,Yab];intro h1 h2;simp only[AS];refine⟨λG=> ?_,λG=> ?_⟩
 .have:a.1≠a.2:=λh=>G (by rw[h])
  simp[this]
 have G:a.1.length=a.2.length:=by omega
 refine AZ.old ⟨{k:Nat//k<=a.1.length/\a.1.take k=a.2.take k},λk=>⟨[(5,.im (.int .i64 k.1)),(4,.im (.bool false)),(0,.im (.sl false 3 (a.1.map Aq.c))),(1,.im (.sl false 3 (a.2.map Aq.c)))],[],0⟩,λk=>a.1.length - k.1,λk=>⟨by simp[ZG],AU _⟩,⟨⟨0,by simp⟩,by simp only[ZZ,simprocAttr,Ab,Yab,sub]⟩,λk=> ?_⟩;obtain⟨k,Q,z⟩:=k;simp only[ZZ,simprocAttr,Ab,Yab,sub,AS];intro _;refine⟨λO=>⟨O,λx hx=>⟨by omega,λy hy=> ?_⟩⟩,λO=> ?_⟩
 .obtain⟨g1,g2⟩:=Qew G Q z hx hy;exact⟨λh=>by simp[g2 (show x≠y from h)],λh=>JW O h1 ⟨by omega,g1 (show x=y from HJ.1 h)⟩⟩
 .rw[GW (by omega),GW (by omega)] at z;simp[z]
end Go.Ae
