/- Lemmas. Conditions: none. -/
import Derived.Test.YtogafbdeamcpnaaGreatDoorP06
import Derived.Test.YtogafbdeamcpnaaGreatDoorProg
set_option linter.all false
set_option maxHeartbeats 8000000
set_option maxRecDepth 100000
namespace Go.Ae
open Go.Proofs
def TY0:
 (tI Tryz.prog 2=some {size:=1,bytes:=8,agg:=false,kind:= .int .i64,zero:=[.int .i64 0]})/\
 (tI Tryz.prog 3=some {size:=1,bytes:=8,agg:=false,kind:= .int .i64,zero:=[.int .i64 0]})/\
 (tI Tryz.prog 4=some {size:=1,bytes:=1,agg:=false,kind:= .bool,zero:=[.bool false]})/\
 (tI Tryz.prog 5=some {size:=1,bytes:=1,agg:=false,kind:= .int .u8,zero:=[.int .u8 0]})/\
 (tI Tryz.prog 9=some {size:=1,bytes:=16,agg:=false,kind:= .str,zero:=[.str ByteArray.empty]})/\
 (tI Tryz.prog 12=some {size:=1,bytes:=8,agg:=false,kind:= .int .u64,zero:=[.int .u64 0]})/\
 (tI Tryz.prog 17=some {size:=1,bytes:=8,agg:=false,kind:= .ptr 407,zero:=[.nilp]})/\
 (tI Tryz.prog 20=some {size:=1,bytes:=16,agg:=false,kind:= .other,zero:=[.nili]})/\
 (tI Tryz.prog 22=some {size:=1,bytes:=24,agg:=false,kind:= .slice 198,zero:=[.sl true 0 []]})/\
 (tI Tryz.prog 23=some {size:=1,bytes:=24,agg:=false,kind:= .slice 201,zero:=[.sl true 0 []]})/\
 (tI Tryz.prog 25=some {size:=2,bytes:=48,agg:=true,kind:= .struct [(0,1),(1,1)],zero:=[.sl true 0 [],.sl true 0 []]})/\
 (tI Tryz.prog 26=some {size:=1,bytes:=24,agg:=false,kind:= .slice 147,zero:=[.sl true 0 []]})/\
 (tI Tryz.prog 28=some {size:=1,bytes:=24,agg:=true,kind:= .struct [(0,1)],zero:=[.sl true 0 []]})/\
 (tI Tryz.prog 30=some {size:=4,bytes:=80,agg:=true,kind:= .struct [(0,2),(2,1),(3,1)],zero:=[.sl true 0 [],.sl true 0 [],.sl true 0 [],.int .i64 0]})/\
 (tI Tryz.prog 31=some {size:=1,bytes:=24,agg:=false,kind:= .slice 98,zero:=[.sl true 0 []]})/\
 (tI Tryz.prog 32=some {size:=1,bytes:=24,agg:=false,kind:= .slice 2,zero:=[.sl true 0 []]})/\
 (tI Tryz.prog 36=some {size:=1,bytes:=24,agg:=false,kind:= .slice 108,zero:=[.sl true 0 []]})/\
 (tI Tryz.prog 37=some {size:=1,bytes:=24,agg:=false,kind:= .slice 137,zero:=[.sl true 0 []]})/\
 (tI Tryz.prog 39=some {size:=1,bytes:=24,agg:=true,kind:= .struct [(0,1)],zero:=[.sl true 0 []]})/\
 (tI Tryz.prog 42=some {size:=1,bytes:=24,agg:=false,kind:= .slice 204,zero:=[.sl true 0 []]}):=by and_intros<;>kernel_rfl
def TY1:
 (tI Tryz.prog 43=some {size:=1,bytes:=24,agg:=false,kind:= .slice 206,zero:=[.sl true 0 []]})/\
 (tI Tryz.prog 45=some {size:=2,bytes:=48,agg:=true,kind:= .struct [(0,1),(1,1)],zero:=[.sl true 0 [],.sl true 0 []]})/\
 (tI Tryz.prog 47=some {size:=4,bytes:=80,agg:=true,kind:= .struct [(0,2),(2,1),(3,1)],zero:=[.sl true 0 [],.sl true 0 [],.sl true 0 [],.int .i64 0]})/\
 (tI Tryz.prog 50=some {size:=1,bytes:=24,agg:=false,kind:= .slice 96,zero:=[.sl true 0 []]})/\
 (tI Tryz.prog 67=some {size:=10,bytes:=192,agg:=true,kind:= .struct [(0,4),(4,4),(8,1),(9,1)],zero:=[.sl true 0 [],.sl true 0 [],.sl true 0 [],.int .i64 0,.sl true 0 [],.sl true 0 [],.sl true 0 [],.int .i64 0,.int .i64 0,.sl true 0 []]})/\
 (tI Tryz.prog 71=some {size:=10,bytes:=192,agg:=true,kind:= .struct [(0,4),(4,4),(8,1),(9,1)],zero:=[.sl true 0 [],.sl true 0 [],.sl true 0 [],.int .i64 0,.sl true 0 [],.sl true 0 [],.sl true 0 [],.int .i64 0,.int .i64 0,.sl true 0 []]})/\
 (tI Tryz.prog 76=some {size:=1,bytes:=24,agg:=false,kind:= .slice 32,zero:=[.sl true 0 []]})/\
 (tI Tryz.prog 78=some {size:=5,bytes:=104,agg:=true,kind:= .struct [(0,1),(1,1),(2,1),(3,1),(4,1)],zero:=[.int .i64 0,.sl true 0 [],.sl true 0 [],.sl true 0 [],.sl true 0 []]})/\
 (tI Tryz.prog 86=some {size:=1,bytes:=8,agg:=false,kind:= .ptr 47,zero:=[.nilp]})/\
 (tI Tryz.prog 87=some {size:=1,bytes:=8,agg:=false,kind:= .ptr 39,zero:=[.nilp]})/\
 (tI Tryz.prog 96=some {size:=2,bytes:=16,agg:=true,kind:= .struct [(0,1),(1,1)],zero:=[.int .i64 0,.int .i64 0]})/\
 (tI Tryz.prog 98=some {size:=2,bytes:=16,agg:=true,kind:= .struct [(0,1),(1,1)],zero:=[.int .i64 0,.int .i64 0]})/\
 (tI Tryz.prog 100=some {size:=1,bytes:=8,agg:=false,kind:= .ptr 155,zero:=[.nilp]})/\
 (tI Tryz.prog 108=some {size:=3,bytes:=24,agg:=true,kind:= .struct [(0,2),(2,1)],zero:=[.int .i64 0,.int .i64 0,.int .i64 0]})/\
 (tI Tryz.prog 118=some {size:=1,bytes:=8,agg:=false,kind:= .ptr 71,zero:=[.nilp]})/\
 (tI Tryz.prog 137=some {size:=3,bytes:=24,agg:=true,kind:= .struct [(0,2),(2,1)],zero:=[.int .i64 0,.int .i64 0,.int .i64 0]})/\
 (tI Tryz.prog 147=some {size:=3,bytes:=24,agg:=true,kind:= .struct [(0,2),(2,1)],zero:=[.int .i64 0,.int .i64 0,.int .i64 0]})/\
 (tI Tryz.prog 151=some {size:=1,bytes:=8,agg:=false,kind:= .other,zero:=[.nilf]})/\
 (tI Tryz.prog 152=some {size:=1,bytes:=8,agg:=false,kind:= .map 96 2,zero:=[.nilm]})/\
 (tI Tryz.prog 153=some {size:=1,bytes:=8,agg:=false,kind:= .map 96 32,zero:=[.nilm]}):=by and_intros<;>kernel_rfl
def TY2:
 (tI Tryz.prog 155=some {size:=6,bytes:=96,agg:=true,kind:= .struct [(0,4),(4,1),(5,1)],zero:=[.sl true 0 [],.sl true 0 [],.sl true 0 [],.int .i64 0,.nilm,.nilm]})/\
 (tI Tryz.prog 160=some {size:=1,bytes:=8,agg:=false,kind:= .other,zero:=[.nilf]})/\
 (tI Tryz.prog 161=some {size:=1,bytes:=8,agg:=false,kind:= .other,zero:=[.nilf]})/\
 (tI Tryz.prog 164=some {size:=1,bytes:=16,agg:=false,kind:= .other,zero:=[.nili]})/\
 (tI Tryz.prog 181=some {size:=1,bytes:=8,agg:=false,kind:= .ptr 45,zero:=[.nilp]})/\
 (tI Tryz.prog 191=some {size:=1,bytes:=8,agg:=false,kind:= .other,zero:=[.nilf]})/\
 (tI Tryz.prog 198=some {size:=2,bytes:=24,agg:=true,kind:= .struct [(0,1),(1,1)],zero:=[.str ByteArray.empty,.int .i64 0]})/\
 (tI Tryz.prog 201=some {size:=2,bytes:=40,agg:=true,kind:= .struct [(0,1),(1,1)],zero:=[.str ByteArray.empty,.sl true 0 []]})/\
 (tI Tryz.prog 204=some {size:=2,bytes:=24,agg:=true,kind:= .struct [(0,1),(1,1)],zero:=[.str ByteArray.empty,.int .i64 0]})/\
 (tI Tryz.prog 206=some {size:=2,bytes:=40,agg:=true,kind:= .struct [(0,1),(1,1)],zero:=[.str ByteArray.empty,.sl true 0 []]})/\
 (tI Tryz.prog 216=some {size:=1,bytes:=16,agg:=false,kind:= .other,zero:=[.nili]})/\
 (tI Tryz.prog 220=some {size:=1,bytes:=8,agg:=false,kind:= .other,zero:=[.nilf]})/\
 (tI Tryz.prog 221=some {size:=1,bytes:=8,agg:=false,kind:= .other,zero:=[.nilf]})/\
 (tI Tryz.prog 234=some {size:=1,bytes:=8,agg:=false,kind:= .ptr 291,zero:=[.nilp]})/\
 (tI Tryz.prog 238=some {size:=1,bytes:=16,agg:=false,kind:= .other,zero:=[.nili]})/\
 (tI Tryz.prog 247=some {size:=1,bytes:=8,agg:=false,kind:= .int .u64,zero:=[.int .u64 0]})/\
 (tI Tryz.prog 249=some {size:=1,bytes:=8,agg:=false,kind:= .other,zero:=[.nilf]})/\
 (tI Tryz.prog 257=some {size:=8,bytes:=64,agg:=true,kind:= .array 4 96,zero:=[.int .i64 0,.int .i64 0,.int .i64 0,.int .i64 0,.int .i64 0,.int .i64 0,.int .i64 0,.int .i64 0]})/\
 (tI Tryz.prog 261=some {size:=1,bytes:=8,agg:=false,kind:= .other,zero:=[.nilf]})/\
 (tI Tryz.prog 266=some {size:=1,bytes:=16,agg:=false,kind:= .other,zero:=[.nili]}):=by and_intros<;>kernel_rfl
def TY3:
 (tI Tryz.prog 269=some {size:=1,bytes:=16,agg:=false,kind:= .other,zero:=[.nili]})/\
 (tI Tryz.prog 271=some {size:=1,bytes:=16,agg:=false,kind:= .other,zero:=[.nili]})/\
 (tI Tryz.prog 272=some {size:=1,bytes:=24,agg:=false,kind:= .slice 164,zero:=[.sl true 0 []]})/\
 (tI Tryz.prog 278=some {size:=1,bytes:=24,agg:=false,kind:= .slice 5,zero:=[.sl true 0 []]})/\
 (tI Tryz.prog 281=some {size:=1,bytes:=24,agg:=false,kind:= .slice 318,zero:=[.sl true 0 []]})/\
 (tI Tryz.prog 291=some {size:=8,bytes:=176,agg:=true,kind:= .struct [(0,4),(4,1),(5,1),(6,1),(7,1)],zero:=[.sl true 0 [],.sl true 0 [],.sl true 0 [],.int .i64 0,.sl true 0 [],.sl true 0 [],.sl true 0 [],.sl true 0 []]})/\
 (tI Tryz.prog 294=some {size:=3,bytes:=24,agg:=true,kind:= .struct [(0,3)],zero:=[.int .i64 0,.int .i64 0,.int .i64 0]})/\
 (tI Tryz.prog 296=some {size:=3,bytes:=24,agg:=true,kind:= .struct [(0,3)],zero:=[.int .i64 0,.int .i64 0,.int .i64 0]})/\
 (tI Tryz.prog 297=some {size:=3,bytes:=24,agg:=true,kind:= .struct [(0,3)],zero:=[.int .i64 0,.int .i64 0,.int .i64 0]})/\
 (tI Tryz.prog 305=some {size:=1,bytes:=8,agg:=false,kind:= .int .i64,zero:=[.int .i64 0]})/\
 (tI Tryz.prog 312=some {size:=1,bytes:=4,agg:=false,kind:= .int .u32,zero:=[.int .u32 0]})/\
 (tI Tryz.prog 314=some {size:=1,bytes:=8,agg:=false,kind:= .int .u64,zero:=[.int .u64 0]})/\
 (tI Tryz.prog 315=some {size:=1,bytes:=24,agg:=false,kind:= .slice 3,zero:=[.sl true 0 []]})/\
 (tI Tryz.prog 318=some {size:=3,bytes:=24,agg:=true,kind:= .struct [(0,1),(1,1),(2,1)],zero:=[.int .i64 0,.int .i64 0,.int .i64 0]})/\
 (tI Tryz.prog 321=some {size:=1,bytes:=8,agg:=false,kind:= .ptr 344,zero:=[.nilp]})/\
 (tI Tryz.prog 333=some {size:=1,bytes:=8,agg:=false,kind:= .map 9 4,zero:=[.nilm]})/\
 (tI Tryz.prog 336=some {size:=1,bytes:=8,agg:=false,kind:= .int .u64,zero:=[.int .u64 0]})/\
 (tI Tryz.prog 340=some {size:=1,bytes:=8,agg:=false,kind:= .ptr 3,zero:=[.nilp]})/\
 (tI Tryz.prog 344=some {size:=4,bytes:=80,agg:=true,kind:= .struct [(0,1),(1,1),(2,1),(3,1)],zero:=[.int .i64 0,.sl true 0 [],.sl true 0 [],.sl true 0 []]})/\
 (tI Tryz.prog 348=some {size:=1,bytes:=8,agg:=false,kind:= .other,zero:=[.nilf]}):=by and_intros<;>kernel_rfl
def TY4:
 (tI Tryz.prog 350=some {size:=1,bytes:=8,agg:=false,kind:= .other,zero:=[.nilf]})/\
 (tI Tryz.prog 352=some {size:=2,bytes:=16,agg:=true,kind:= .array 2 2,zero:=[.int .i64 0,.int .i64 0]})/\
 (tI Tryz.prog 353=some {size:=1,bytes:=8,agg:=false,kind:= .ptr 375,zero:=[.nilp]})/\
 (tI Tryz.prog 366=some {size:=1,bytes:=24,agg:=false,kind:= .slice 367,zero:=[.sl true 0 []]})/\
 (tI Tryz.prog 367=some {size:=1,bytes:=8,agg:=false,kind:= .ptr 369,zero:=[.nilp]})/\
 (tI Tryz.prog 369=some {size:=2,bytes:=16,agg:=true,kind:= .struct [(0,1),(1,1)],zero:=[.nilp,.int .i64 0]})/\
 (tI Tryz.prog 371=some {size:=1,bytes:=8,agg:=false,kind:= .map 2 3,zero:=[.nilm]})/\
 (tI Tryz.prog 375=some {size:=2,bytes:=48,agg:=true,kind:= .struct [(0,1),(1,1)],zero:=[.sl true 0 [],.sl true 0 []]})/\
 (tI Tryz.prog 378=some {size:=1,bytes:=8,agg:=false,kind:= .other,zero:=[.nilf]})/\
 (tI Tryz.prog 382=some {size:=1,bytes:=8,agg:=false,kind:= .other,zero:=[.nilc]})/\
 (tI Tryz.prog 392=some {size:=1,bytes:=8,agg:=false,kind:= .ptr 419,zero:=[.nilp]})/\
 (tI Tryz.prog 401=some {size:=1,bytes:=1,agg:=false,kind:= .int .u8,zero:=[.int .u8 0]})/\
 (tI Tryz.prog 407=some {size:=11,bytes:=48,agg:=true,kind:= .struct [(0,1),(1,1),(2,1),(3,1),(4,1),(5,1),(6,1),(7,1),(8,1),(9,1),(10,1)],zero:=[.int .u64 0,.int .u64 0,.int .u32 0,.int .u8 0,.int .u8 0,.int .u8 0,.int .u8 0,.nilf,.nilp,.int .i32 0,.int .i32 0]})/\
 (tI Tryz.prog 419=some {size:=1,bytes:=16,agg:=true,kind:= .struct [(0,1)],zero:=[.str ByteArray.empty]})/\
 (tI Tryz.prog 422=some {size:=1,bytes:=16,agg:=false,kind:= .other,zero:=[.nili]})/\
 (tI Tryz.prog 423=some {size:=1,bytes:=8,agg:=false,kind:= .ptr 428,zero:=[.nilp]})/\
 (tI Tryz.prog 428=some {size:=5,bytes:=16,agg:=true,kind:= .struct [(0,1),(1,1),(2,1),(3,1),(4,1)],zero:=[.int .i32 0,.int .u16 0,.int .u16 0,.int .u32 0,.int .u32 0]})/\
 (tI Tryz.prog 429=some {size:=1,bytes:=24,agg:=false,kind:= .slice 432,zero:=[.sl true 0 []]})/\
 (tI Tryz.prog 432=some {size:=4,bytes:=16,agg:=true,kind:= .struct [(0,1),(1,1),(2,1),(3,1)],zero:=[.int .i32 0,.int .i32 0,.int .i32 0,.int .i32 0]}):=by and_intros<;>kernel_rfl
def KY0:
 (Bw Tryz.prog 2=some ⟨false,[.int .i64]⟩)/\
 (Bw Tryz.prog 3=some ⟨false,[.int .i64]⟩)/\
 (Bw Tryz.prog 4=some ⟨false,[.bool]⟩)/\
 (Bw Tryz.prog 5=some ⟨false,[.int .u8]⟩)/\
 (Bw Tryz.prog 9=some ⟨false,[.str]⟩)/\
 (Bw Tryz.prog 12=some ⟨false,[.int .u64]⟩)/\
 (Bw Tryz.prog 96=some ⟨true,[.int .i64,.int .i64]⟩)/\
 (Tryz.prog.eqGuardType Tryz.prog.depth 96=false)/\
 (Bw Tryz.prog 98=some ⟨true,[.int .i64,.int .i64]⟩)/\
 (Tryz.prog.eqGuardType Tryz.prog.depth 98=false)/\
 (Bw Tryz.prog 108=some ⟨true,[.int .i64,.int .i64,.int .i64]⟩)/\
 (Tryz.prog.eqGuardType Tryz.prog.depth 108=false)/\
 (Bw Tryz.prog 137=some ⟨true,[.int .i64,.int .i64,.int .i64]⟩)/\
 (Tryz.prog.eqGuardType Tryz.prog.depth 137=false)/\
 (Bw Tryz.prog 147=some ⟨true,[.int .i64,.int .i64,.int .i64]⟩)/\
 (Tryz.prog.eqGuardType Tryz.prog.depth 147=false)/\
 (Bw Tryz.prog 198=some ⟨true,[.str,.int .i64]⟩)/\
 (Tryz.prog.eqGuardType Tryz.prog.depth 198=false)/\
 (Bw Tryz.prog 204=some ⟨true,[.str,.int .i64]⟩)/\
 (Tryz.prog.eqGuardType Tryz.prog.depth 204=false):=by and_intros<;>kernel_rfl
def KY1:
 (Bw Tryz.prog 247=some ⟨false,[.int .u64]⟩)/\
 (Bw Tryz.prog 294=some ⟨true,[.int .i64,.int .i64,.int .i64]⟩)/\
 (Tryz.prog.eqGuardType Tryz.prog.depth 294=false)/\
 (Bw Tryz.prog 296=some ⟨true,[.int .i64,.int .i64,.int .i64]⟩)/\
 (Tryz.prog.eqGuardType Tryz.prog.depth 296=false)/\
 (Bw Tryz.prog 297=some ⟨true,[.int .i64,.int .i64,.int .i64]⟩)/\
 (Tryz.prog.eqGuardType Tryz.prog.depth 297=false)/\
 (Bw Tryz.prog 305=some ⟨false,[.int .i64]⟩)/\
 (Bw Tryz.prog 312=some ⟨false,[.int .u32]⟩)/\
 (Bw Tryz.prog 314=some ⟨false,[.int .u64]⟩)/\
 (Bw Tryz.prog 318=some ⟨true,[.int .i64,.int .i64,.int .i64]⟩)/\
 (Tryz.prog.eqGuardType Tryz.prog.depth 318=false)/\
 (Bw Tryz.prog 336=some ⟨false,[.int .u64]⟩)/\
 (Bw Tryz.prog 401=some ⟨false,[.int .u8]⟩)/\
 (Bw Tryz.prog 419=some ⟨true,[.str]⟩)/\
 (Tryz.prog.eqGuardType Tryz.prog.depth 419=false):=by and_intros<;>kernel_rfl
def CY0:True/\True:=⟨trivial,trivial⟩
def CZ:Tryz.prog.follows .mixedOrders=true:=by kernel_rfl
end Go.Ae
namespace Go.Ae
def kI:PK->Option Int
 | .val (.int .i64 x)=>some x
 |_=>none
def kU:PK->Option Int
 | .val (.int .u64 x)=>some x
 |_=>none
def kY:PK->Option Int
 | .val (.int .u8 x)=>some x
 |_=>none
def kB:PK->Option Bool
 | .val (.bool x)=>some x
 |_=>none
def kT:PK->Option ByteArray
 | .val (.str x)=>some x
 |_=>none
def kR{A:Type}(f:List D->Option A):PK->Option A
 | .val (.agg x)=>f x
 |_=>none
def kP{A:Type}(f:List D->Option A)(n:Nat):PK->Option A
 | .ptr x=>f (x.take n)
 |_=>none
def kS{A:Type}(f:List D->Option A):PK->Option (List A)
 | .val (.sl _ _ x)=>AR f x
 |_=>none
def wW: ∀p a,kI p=some a->Cr p (.val (.int .i64 a)):=by
 intro p a h;unfold kI at h;split at h
 .obtain rfl:=AD h;exact Cr.refl _
 .cases h
def xA: ∀p a,kU p=some a->Cr p (.val (.int .u64 a)):=by
 intro p a h;unfold kU at h;split at h
 .obtain rfl:=AD h;exact Cr.refl _
 .cases h
def xB: ∀p a,kY p=some a->Cr p (.val (.int .u8 a)):=by
 intro p a h;unfold kY at h;split at h
 .obtain rfl:=AD h;exact Cr.refl _
 .cases h
def wV: ∀p a,kB p=some a->Cr p (.val (.bool a)):=by
 intro p a h;unfold kB at h;split at h
 .obtain rfl:=AD h;exact Cr.refl _
 .cases h
def wZ: ∀p a,kT p=some a->Cr p (.val (.str a)):=by
 intro p a h;unfold kT at h;split at h
 .obtain rfl:=AD h;exact Cr.refl _
 .cases h
section
variable {A:Type}{f:List D->Option A}{e:A->List D}
def Mj(hf: ∀ds x,f ds=some x->CE ds (e x)): ∀p a,kR f p=some a->Cr p (.val (.agg (e a))):=by
 intro p a h;unfold kR at h;split at h
 .exact QO (hf _ _ h)
 .cases h
def wX(n:Nat)(hf: ∀ds x,f ds=some x->CE ds (e x)): ∀p a,kP f n p=some a->Cr p (.ptr (e a)):=by
 intro p a h;unfold kP at h;split at h
 .exact G9.trans_take (hf _ _ h)
 .cases h
def SV(k:Nat)(hf: ∀ds x,f ds=some x->CE ds (e x))(z: ∀x,(e x).length=k): ∀p a,kS f p=some a->Cr p (.val (.sl false k (a.map e))):=by
 intro p a h;unfold kS at h;split at h
 .exact Dn (Dd hf _ _ h) (by simp only[Bv];rintro r ⟨y,_,rfl⟩;exact z y)
 .cases h
end
def a1{z:Type}(G:PK->Option z):List PK->Option (z)
 |[O]=>(G O).bind λQ=>some Q
 |_=>none
def aO{G:Type}{Q:PK->Option G}{O:G->PK}(h0: ∀p a,Q p=some a->Cr p (O a)): ∀z a,a1 Q z=some a->BN z [O (a)]:=by
 intro z a h;unfold a1 at h;split at h
 .simp only[Ef,AJ] at h;obtain⟨Z,g0,rfl⟩:=h;exact⟨h0 _ _ g0,trivial⟩
 .cases h
def a2{z G:Type}(O:PK->Option z)(Q:PK->Option G):List PK->Option (z×G)
 |[Z,x1]=>(O Z).bind λy0=>(Q x1).bind λy1=>some (y0,y1)
 |_=>none
def Rr{G:Type}{f0:PK->Option G}{Q:G->PK}{O:Type}{f1:PK->Option O}{Z:O->PK}(h0: ∀p a,f0 p=some a->Cr p (Q a))(h1: ∀p a,f1 p=some a->Cr p (Z a)): ∀z a,a2 f0 f1 z=some a->BN z [Q (a.1),Z (a.2)]:=by
 intro z a h;unfold a2 at h;split at h
 .simp only[Ef,AJ] at h;obtain⟨y0,g0,y1,g1,rfl⟩:=h;exact⟨h0 _ _ g0,h1 _ _ g1,trivial⟩
 .cases h
def a3{z G O:Type}(Q:PK->Option z)(Z:PK->Option G)(f2:PK->Option O):List PK->Option (z×G×O)
 |[x0,x1,x2]=>(Q x0).bind λy0=>(Z x1).bind λy1=>(f2 x2).bind λy2=>some (y0,y1,y2)
 |_=>none
def wB{G:Type}{f0:PK->Option G}{Z:G->PK}{O:Type}{f1:PK->Option O}{e1:O->PK}{Q:Type}{f2:PK->Option Q}{e2:Q->PK}(h0: ∀p a,f0 p=some a->Cr p (Z a))(h1: ∀p a,f1 p=some a->Cr p (e1 a))(h2: ∀p a,f2 p=some a->Cr p (e2 a)): ∀z a,a3 f0 f1 f2 z=some a->BN z [Z (a.1),e1 (a.2.1),e2 (a.2.2)]:=by
 intro z a h;unfold a3 at h;split at h
 .simp only[Ef,AJ] at h;obtain⟨y0,g0,y1,g1,y2,g2,rfl⟩:=h;exact⟨h0 _ _ g0,h1 _ _ g1,h2 _ _ g2,trivial⟩
 .cases h
def a4{z G O Q:Type}(Z:PK->Option z)(f1:PK->Option G)(f2:PK->Option O)(f3:PK->Option Q):List PK->Option (z×G×O×Q)
 |[x0,x1,x2,x3]=>(Z x0).bind λy0=>(f1 x1).bind λy1=>(f2 x2).bind λy2=>(f3 x3).bind λy3=>some (y0,y1,y2,y3)
 |_=>none
def wC{G:Type}{f0:PK->Option G}{e0:G->PK}{O:Type}{f1:PK->Option O}{e1:O->PK}{Q:Type}{f2:PK->Option Q}{e2:Q->PK}{Z:Type}{f3:PK->Option Z}{e3:Z->PK}(h0: ∀p a,f0 p=some a->Cr p (e0 a))(h1: ∀p a,f1 p=some a->Cr p (e1 a))(h2: ∀p a,f2 p=some a->Cr p (e2 a))(h3: ∀p a,f3 p=some a->Cr p (e3 a)): ∀z a,a4 f0 f1 f2 f3 z=some a->BN z [e0 (a.1),e1 (a.2.1),e2 (a.2.2.1),e3 (a.2.2.2)]:=by
 intro z a h;unfold a4 at h;split at h
 .simp only[Ef,AJ] at h;obtain⟨y0,g0,y1,g1,y2,g2,y3,g3,rfl⟩:=h;exact⟨h0 _ _ g0,h1 _ _ g1,h2 _ _ g2,h3 _ _ g3,trivial⟩
 .cases h
def a5{z G O Q Z:Type}(f0:PK->Option z)(f1:PK->Option G)(f2:PK->Option O)(f3:PK->Option Q)(f4:PK->Option Z):List PK->Option (z×G×O×Q×Z)
 |[x0,x1,x2,x3,x4]=>(f0 x0).bind λy0=>(f1 x1).bind λy1=>(f2 x2).bind λy2=>(f3 x3).bind λy3=>(f4 x4).bind λy4=>some (y0,y1,y2,y3,y4)
 |_=>none
def wD{G:Type}{f0:PK->Option G}{e0:G->PK}{O:Type}{f1:PK->Option O}{e1:O->PK}{Q:Type}{f2:PK->Option Q}{e2:Q->PK}{Z:Type}{f3:PK->Option Z}{e3:Z->PK}{A4:Type}{f4:PK->Option A4}{e4:A4->PK}(h0: ∀p a,f0 p=some a->Cr p (e0 a))(h1: ∀p a,f1 p=some a->Cr p (e1 a))(h2: ∀p a,f2 p=some a->Cr p (e2 a))(h3: ∀p a,f3 p=some a->Cr p (e3 a))(h4: ∀p a,f4 p=some a->Cr p (e4 a)): ∀z a,a5 f0 f1 f2 f3 f4 z=some a->BN z [e0 (a.1),e1 (a.2.1),e2 (a.2.2.1),e3 (a.2.2.2.1),e4 (a.2.2.2.2)]:=by
 intro z a h;unfold a5 at h;split at h
 .simp only[Ef,AJ] at h;obtain⟨y0,g0,y1,g1,y2,g2,y3,g3,y4,g4,rfl⟩:=h;exact⟨h0 _ _ g0,h1 _ _ g1,h2 _ _ g2,h3 _ _ g3,h4 _ _ g4,trivial⟩
 .cases h
def a6{z G O Q Z A5:Type}(f0:PK->Option z)(f1:PK->Option G)(f2:PK->Option O)(f3:PK->Option Q)(f4:PK->Option Z)(f5:PK->Option A5):List PK->Option (z×G×O×Q×Z×A5)
 |[x0,x1,x2,x3,x4,x5]=>(f0 x0).bind λy0=>(f1 x1).bind λy1=>(f2 x2).bind λy2=>(f3 x3).bind λy3=>(f4 x4).bind λy4=>(f5 x5).bind λy5=>some (y0,y1,y2,y3,y4,y5)
 |_=>none
def wE{G:Type}{f0:PK->Option G}{e0:G->PK}{O:Type}{f1:PK->Option O}{e1:O->PK}{Q:Type}{f2:PK->Option Q}{e2:Q->PK}{Z:Type}{f3:PK->Option Z}{e3:Z->PK}{A4:Type}{f4:PK->Option A4}{e4:A4->PK}{A5:Type}{f5:PK->Option A5}{e5:A5->PK}(h0: ∀p a,f0 p=some a->Cr p (e0 a))(h1: ∀p a,f1 p=some a->Cr p (e1 a))(h2: ∀p a,f2 p=some a->Cr p (e2 a))(h3: ∀p a,f3 p=some a->Cr p (e3 a))(h4: ∀p a,f4 p=some a->Cr p (e4 a))(h5: ∀p a,f5 p=some a->Cr p (e5 a)): ∀z a,a6 f0 f1 f2 f3 f4 f5 z=some a->BN z [e0 (a.1),e1 (a.2.1),e2 (a.2.2.1),e3 (a.2.2.2.1),e4 (a.2.2.2.2.1),e5 (a.2.2.2.2.2)]:=by
 intro z a h;unfold a6 at h;split at h
 .simp only[Ef,AJ] at h;obtain⟨y0,g0,y1,g1,y2,g2,y3,g3,y4,g4,y5,g5,rfl⟩:=h;exact⟨h0 _ _ g0,h1 _ _ g1,h2 _ _ g2,h3 _ _ g3,h4 _ _ g4,h5 _ _ g5,trivial⟩
 .cases h
def a7{z G O Q Z A5 A6:Type}(f0:PK->Option z)(f1:PK->Option G)(f2:PK->Option O)(f3:PK->Option Q)(f4:PK->Option Z)(f5:PK->Option A5)(f6:PK->Option A6):List PK->Option (z×G×O×Q×Z×A5×A6)
 |[x0,x1,x2,x3,x4,x5,x6]=>(f0 x0).bind λy0=>(f1 x1).bind λy1=>(f2 x2).bind λy2=>(f3 x3).bind λy3=>(f4 x4).bind λy4=>(f5 x5).bind λy5=>(f6 x6).bind λy6=>some (y0,y1,y2,y3,y4,y5,y6)
 |_=>none
def wF{G:Type}{f0:PK->Option G}{e0:G->PK}{O:Type}{f1:PK->Option O}{e1:O->PK}{Q:Type}{f2:PK->Option Q}{e2:Q->PK}{Z:Type}{f3:PK->Option Z}{e3:Z->PK}{A4:Type}{f4:PK->Option A4}{e4:A4->PK}{A5:Type}{f5:PK->Option A5}{e5:A5->PK}{A6:Type}{f6:PK->Option A6}{e6:A6->PK}(h0: ∀p a,f0 p=some a->Cr p (e0 a))(h1: ∀p a,f1 p=some a->Cr p (e1 a))(h2: ∀p a,f2 p=some a->Cr p (e2 a))(h3: ∀p a,f3 p=some a->Cr p (e3 a))(h4: ∀p a,f4 p=some a->Cr p (e4 a))(h5: ∀p a,f5 p=some a->Cr p (e5 a))(h6: ∀p a,f6 p=some a->Cr p (e6 a)): ∀z a,a7 f0 f1 f2 f3 f4 f5 f6 z=some a->BN z [e0 (a.1),e1 (a.2.1),e2 (a.2.2.1),e3 (a.2.2.2.1),e4 (a.2.2.2.2.1),e5 (a.2.2.2.2.2.1),e6 (a.2.2.2.2.2.2)]:=by
 intro z a h;unfold a7 at h;split at h
 .simp only[Ef,AJ] at h;obtain⟨y0,g0,y1,g1,y2,g2,y3,g3,y4,g4,y5,g5,y6,g6,rfl⟩:=h;exact⟨h0 _ _ g0,h1 _ _ g1,h2 _ _ g2,h3 _ _ g3,h4 _ _ g4,h5 _ _ g5,h6 _ _ g6,trivial⟩
 .cases h
def Jx{A B E F:Type}(f:D->Option A)(g:D->Option B)(k:D->Option E)(m:D->Option F):D->Option (A×B×E×F)
 | .tup [x,y,z,w]=>(f x).bind λa=>(g y).bind λb=>(k z).bind λc=>(m w).bind λd=>some (a,b,c,d)
 |_=>none
def Vv{A B E F:Type}{f:D->Option A}{g:D->Option B}{k:D->Option E}{m:D->Option F}{e:A->D}{e':B->D}{e'':E->D}{z:F->D}(hf: ∀d x,f d=some x->Le d (e x))(hg: ∀d x,g d=some x->Le d (e' x))(hk: ∀d x,k d=some x->Le d (e'' x))(hm: ∀d x,m d=some x->Le d (z x)):
 ∀d (x:A×B×E×F),Jx f g k m d=some x->Le d (.tup [e x.1,e' x.2.1,e'' x.2.2.1,z x.2.2.2]):=by
 intro d x h;unfold Jx at h;split at h
 .simp only[Ef,AJ] at h;obtain⟨a,G,b,O,c,Q,w,Z,rfl⟩:=h;exact K9 ⟨hf _ _ G,hg _ _ O,hk _ _ Q,hm _ _ Z,trivial⟩
 .cases h
def Ag.c_n(x:Ag):(Ag.c x).length=3:=rfl
def Ar.c_n(x:Ar):(Ar.c x).length=2:=rfl
def Ap.c_n(x:Ap):(Ap.c x).length=3:=rfl
def Al.c_n(x:Al):(Al.c x).length=3:=rfl
def Ab.c_n(x:Ab):(Ab.c x).length=2:=rfl
def Tile.c_n(x:Tile):(Tile.c x).length=2:=rfl
def Cp(x:Int):(Aj x).length=1:=rfl
def NW(x:List Int):(C8 x).length=1:=rfl
structure QK(A:Type) where
 d:PK->Option A
 e:A->PK
 l: ∀p a,d p=some a->Cr p (e a)
def qI:QK Int:=⟨kI,λa=> .val (.int .i64 a),wW⟩
def qU:QK Int:=⟨kU,λa=> .val (.int .u64 a),xA⟩
def qY:QK Int:=⟨kY,λa=> .val (.int .u8 a),xB⟩
def qB:QK Bool:=⟨kB,λa=> .val (.bool a),wV⟩
def qT:QK ByteArray:=⟨kT,λa=> .val (.str a),wZ⟩
section
variable {A:Type}{f:List D->Option A}{e:A->List D}
def qR(h: ∀ds x,f ds=some x->CE ds (e x)):QK A:=⟨kR f,λa=> .val (.agg (e a)),Mj h⟩
def qP(n:Nat)(h: ∀ds x,f ds=some x->CE ds (e x)):QK A:=⟨kP f n,λa=> .ptr (e a),wX n h⟩
def qS{k:Nat}(h: ∀ds x,f ds=some x->CE ds (e x))(z: ∀x,(e x).length=k):QK (List A):=⟨kS f,λa=> .val (.sl false k (a.map e)),SV k h z⟩
end
structure AK(A:Type) where
 r:List PK->Option A
 e:A->List PK
 l: ∀ps a,r ps=some a->BN ps (e a)
 n:Nat
 w: ∀a,(e a).length=n
def b1{z:Type}(p0:QK z):AK (z):=⟨a1 p0.d,λa=>[p0.e (a)],aO p0.l,1,λ_=>rfl⟩
def b2{z G:Type}(p0:QK z)(p1:QK G):AK (z×G):=⟨a2 p0.d p1.d,λa=>[p0.e (a.1),p1.e (a.2)],Rr p0.l p1.l,2,λ_=>rfl⟩
def b3{G O Q:Type}(p0:QK G)(p1:QK O)(z:QK Q):AK (G×O×Q):=⟨a3 p0.d p1.d z.d,λa=>[p0.e (a.1),p1.e (a.2.1),z.e (a.2.2)],wB p0.l p1.l z.l,3,λ_=>rfl⟩
def b4{O Q Z A3:Type}(p0:QK O)(p1:QK Q)(z:QK Z)(G:QK A3):AK (O×Q×Z×A3):=⟨a4 p0.d p1.d z.d G.d,λa=>[p0.e (a.1),p1.e (a.2.1),z.e (a.2.2.1),G.e (a.2.2.2)],wC p0.l p1.l z.l G.l,4,λ_=>rfl⟩
def b5{Q Z A2 A3 A4:Type}(p0:QK Q)(p1:QK Z)(z:QK A2)(G:QK A3)(O:QK A4):AK (Q×Z×A2×A3×A4):=⟨a5 p0.d p1.d z.d G.d O.d,λa=>[p0.e (a.1),p1.e (a.2.1),z.e (a.2.2.1),G.e (a.2.2.2.1),O.e (a.2.2.2.2)],wD p0.l p1.l z.l G.l O.l,5,λ_=>rfl⟩
def b6{Z A1 A2 A3 A4 A5:Type}(p0:QK Z)(p1:QK A1)(z:QK A2)(G:QK A3)(O:QK A4)(Q:QK A5):AK (Z×A1×A2×A3×A4×A5):=⟨a6 p0.d p1.d z.d G.d O.d Q.d,λa=>[p0.e (a.1),p1.e (a.2.1),z.e (a.2.2.1),G.e (a.2.2.2.1),O.e (a.2.2.2.2.1),Q.e (a.2.2.2.2.2)],wE p0.l p1.l z.l G.l O.l Q.l,6,λ_=>rfl⟩
def b7{A0 A1 A2 A3 A4 A5 A6:Type}(p0:QK A0)(p1:QK A1)(z:QK A2)(G:QK A3)(O:QK A4)(Q:QK A5)(Z:QK A6):AK (A0×A1×A2×A3×A4×A5×A6):=⟨a7 p0.d p1.d z.d G.d O.d Q.d Z.d,λa=>[p0.e (a.1),p1.e (a.2.1),z.e (a.2.2.1),G.e (a.2.2.2.1),O.e (a.2.2.2.2.1),Q.e (a.2.2.2.2.2.1),Z.e (a.2.2.2.2.2.2)],wF p0.l p1.l z.l G.l O.l Q.l Z.l,7,λ_=>rfl⟩
structure RK(B:Type) where
 c:D->Option B
 e:B->D
 l: ∀d b,c d=some b->Le d (e b)
def rI:RK Int:=⟨DJ,D.int .i64,N7⟩
def rB:RK Bool:=⟨V4,D.bool,kN⟩
def rT:RK ByteArray:=⟨Vt,D.str,Zu⟩
section
variable {A:Type}{f:List D->Option A}{e:A->List D}
def rA(h: ∀ds x,f ds=some x->CE ds (e x)):RK A:=⟨EA f,λb=>D.agg (e b),N0 h⟩
def rS{k:Nat}(h: ∀ds x,f ds=some x->CE ds (e x))(z: ∀x,(e x).length=k):RK (List A):=⟨Q6 f,λb=>D.sl false k (b.map e),rZ h z⟩
end
def r2{A B:Type}(p:RK A)(q:RK B):RK (A×B):=⟨lA p.c q.c,λb=>D.tup [p.e b.1,q.e b.2],Qbz p.l q.l⟩
def r3{A B C:Type}(p:RK A)(q:RK B)(r:RK C):RK (A×B×C):=⟨Jw p.c q.c r.c,λb=>D.tup [p.e b.1,q.e b.2.1,r.e b.2.2],Vu p.l q.l r.l⟩
def r4{A B C E:Type}(p:RK A)(q:RK B)(r:RK C)(s:RK E):RK (A×B×C×E):=⟨Jx p.c q.c r.c s.c,λb=>D.tup [p.e b.1,q.e b.2.1,r.e b.2.2.1,s.e b.2.2.2],Vv p.l q.l r.l s.l⟩
def tN{P:Program}:J5 P (Q4 []):=QC [] (by simp)
def tC{P:Program}{g:Nat}{r:AA}{l:List (Nat×AA)}(h:AB P g r)(O:J5 P (Q4 l)):J5 P (Q4 ((g,r)::l)):=by
 intro g' args h' nx K z;simp only[Q4] at z;split at z
 .rename_i G;subst G;exact h _ _ _ _ z
 .exact O _ _ _ _ _ z
def ZA0:=J @VC0<|J @VC1<|J @VC2<|J @VC3<|J @VC4<|J @VC5<|J @VC6<|J @VC7<|J @VC8<|J @VC9<|J @VC10<|J @VC11<|J @VC12<|J @VC13<|J @VC14<|J @VC15<|J @VC16<|J @VC17<|J @VC18<|J @VC19<|J @VC20<|J @VC21<|J @VC22<|@VC23
def ZA1:=J @VC24<|J @VC25<|J @VC26<|J @VC27<|J @VC28<|J @VC29<|J @VC30<|J @VC31<|J @VC32<|J @VC33<|J @VC34<|J @VC35<|J @VC36<|J @VC37<|J @VC38<|J @VC39<|J @VC40<|J @VC41<|J @VC42<|J @Zdx.{0}<|J @Kq<|J @Bool.not_eq_false'<|J @AV.im.injEq<|@D.int.injEq
def ZA2:=J @D.bool.injEq<|J @D.str.injEq<|J @D.sl.injEq<|J @D.agg.injEq<|J @AV.own.injEq<|J @AV.ptr.injEq<|J @E0.{0,0}<|J @Ad.cells.injEq<|J @Ad.arr.injEq<|J @gH.{0}<|J @Int.cast_ofNat_Int<|J @Int.ofNat_lt<|J @Int.ofNat_le<|J @Int.natCast_nonneg<|J @gE<|J @IH<|J @AS<|J @Hd<|J @Xy<|J @Xx<|J @decide_true<|J @ZeZ<|J @BL<|@Kt
def ZA3:=J @Hx<|J @Bd.{0,0}<|J @Gq.{0,0}<|J @Qp.{0}<|J @Hh.{0}<|J @Lr.{0}<|J @Rq.{0}<|J @Zfg.{0}<|J @Zfh.{0}<|J @Ck.{1}<|J @BC.{1}<|J @GF.{0}<|J @HJ.{0}<|J @ne_eq.{1}<|J @Hg.{0}<|J @CT.{0}<|J @D8.{0}<|J @CP.{0}<|J @Hf.{0}<|J @and_true<|J @wA<|J @ZdX<|J @not_true_eq_false<|@or_true
def ZA4:=J @true_or<|J @Cz<|J @FV<|J @Qr<|J @gO<|J @false_or<|J @aA.{0}<|J @aG.{0}<|J @Qt<|J @ZeN<|J @gD<|J @aL<|J @mQ<|J @Xo<|J @true_implies<|J @false_implies<|J @Eg.{0,0}<|J @F7<|J @Eb<|J @F6<|J @gK<|J @aE.{0}<|J @Option.isSome_some.{0}<|@Bool.false_bne
def ZA5:=J @Bool.true_bne<|J @Bool.not_not<|J @AQ<|J @B0<|J @eq_self.{1}<|J @vO.{0}<|J @Bool.true_eq_false<|J @Df<|J @TY0<|J @TY1<|J @TY2<|J @TY3<|J @TY4<|J @KY0<|J @KY1<|J @CY0<|J @Mg.eq_1<|J @qI.eq_1<|J @qU.eq_1<|J @qY.eq_1<|J @qB.eq_1<|J @qT.eq_1<|J @qR.eq_1<|@qP.eq_1
def ZA6:=J @qS.eq_1<|J @b1.eq_1<|J @b2.eq_1<|J @b3.eq_1<|J @b4.eq_1<|J @b5.eq_1<|J @b6.eq_1<|J @b7.eq_1<|J @rI.eq_1<|J @rB.eq_1<|J @rT.eq_1<|J @rA.eq_1<|J @rS.eq_1<|J @r2.eq_1<|J @r3.eq_1<|J @r4.eq_1<|J @Jx.eq_1<|J @Jx.eq_2<|J @kI.eq_1<|J @kI.eq_2<|J @kU.eq_1<|J @kU.eq_2<|J @kY.eq_1<|@kY.eq_2
def ZA7:=J @kB.eq_1<|J @kB.eq_2<|J @kT.eq_1<|J @kT.eq_2<|J @kR.eq_1<|J @kR.eq_2<|J @kP.eq_1<|J @kP.eq_2<|J @kS.eq_1<|J @kS.eq_2<|J @a1.eq_1<|J @a1.eq_2<|J @a2.eq_1<|J @a2.eq_2<|J @a3.eq_1<|J @a3.eq_2<|J @a4.eq_1<|J @a4.eq_2<|J @a5.eq_1<|J @a5.eq_2<|J @a6.eq_1<|J @a6.eq_2<|J @a7.eq_1<|@a7.eq_2
def ZA8:=J @AR.eq_1<|J @AR.eq_2<|J @Og<|J @Cu.eq_1<|J @Cu.eq_2<|J @Zi.eq_1<|J @Zi.eq_2<|J @Aj.eq_1<|J @kC.eq_1<|J @ZO<|J @kE<|J @DJ.eq_1<|J @DJ.eq_2<|J @Vt.eq_1<|J @Vt.eq_2<|J @V4.eq_1<|J @V4.eq_2<|J @Q6.eq_1<|J @Q6.eq_2<|J @EA.eq_1<|J @EA.eq_2<|J @lA.eq_1<|J @lA.eq_2<|@Jw.eq_1
def ZA9:=J @Jw.eq_2<|J @Ab.c.eq_1<|J @Ab.d.eq_1<|J @Ab.d.eq_2<|J @Al.c.eq_1<|J @Al.d.eq_1<|J @Al.d.eq_2<|J @Al.d_R<|J @Ak.c.eq_1<|J @Ar.c.eq_1<|J @Ar.d.eq_1<|J @Ar.d.eq_2<|J @Ar.d_R<|J @Tile.c.eq_1<|J @Tile.d.eq_1<|J @Tile.d.eq_2<|J @Tile.d_R<|J @AC.c.eq_1<|J @AC.d.eq_1<|J @AC.d.eq_2<|J @Ax.c.eq_1<|J @Ax.d.eq_1<|J @Ax.d.eq_2<|@Ap.c.eq_1
def ZA10:=J @Ap.d.eq_1<|J @Ap.d.eq_2<|J @Ap.d_R<|J @IG.c.eq_1<|J @IG.d.eq_1<|J @IG.d.eq_2<|J @Ag.c.eq_1<|J @Ag.d.eq_1<|J @Ag.d.eq_2<|J @Ag.d_R<|J @CQ.{0,0}<|J @AJ.{0}<|J @He.{0,0}<|J @Ab.d_R<|J @Ab.eta<|J @Al.eta<|J @Ak.eta<|J @Ar.eta<|J @Tile.eta<|J @AC.eta<|J @Ax.eta<|J @Ap.eta<|J @IG.eta<|@Ag.eta
def ZA11:=J @Cj.c.eq_1<|J @Cj.d.eq_1<|J @Cj.d.eq_2<|J @Cj.eta<|J @Qmt<|J @Qk8<|J @Qqj<|J @Uh<|J @Pk<|J @Jm.eq_1<|J @Jm.eq_2<|J @Jm.eq_3<|J @GG.{0,0}<|@ZeJ.{0,0}
def ZA:=J @ZA0<|J @ZA1<|J @ZA2<|J @ZA3<|J @ZA4<|J @ZA5<|J @ZA6<|J @ZA7<|J @ZA8<|J @ZA9<|J @ZA10<|@ZA11
def ZT0:=J @bT.eq_1<|J @C8.eq_1<|J @Qm.eq_1<|J @Qm.eq_2<|J @Qxv<|J @Ba.c.eq_1<|J @Ba.d.eq_1<|J @Ba.d.eq_2<|J @Ba.eta<|J @Bc.c.eq_1<|J @Bc.d.eq_1<|J @Bc.d.eq_2<|J @Bc.eta<|J @Cn.c.eq_1<|J @Cn.d.eq_1<|J @Cn.d.eq_2<|J @Bl.c.eq_1<|J @Bl.d.eq_1<|J @Bl.d.eq_2<|J @EH.c.eq_1<|J @EH.d.eq_1<|J @EH.d.eq_2<|J @Cn.eta<|@Bl.eta
def ZT1:= @EH.eta
def ZT:=J @ZT0 (@ZT1)
def GM:=J @QA<|J @NN<|J @NJ<|J @yK @Q9
def D6:=J GM (J @De.{0} @EE.{0})
def Adq(b:Bool)(k:Nat)(x:List (List D)):Ak.d [.sl b k x]=(AR Al.d x).bind λy=>some ⟨y⟩:=rfl
def ZZ:=J ZA (J ZT @Adq)
def vq{A:Type}{ar:List PK->Option A}{pre:A->Prop}{re:A->D}(r:AA)(e:r=Ee ar pre re)(a:List AV)(h:Nat->Option Au)(n:Nat)(K:Ah):r a h n K=Zz ar pre re (AH a) K (KJ h a):=by rw[e];rfl
def yG{A:Type}{ar:List PK->Option A}{pre:A->Prop}{re:A->D}(r:AA)(e:r=Lm ar pre re)(a:List AV)(h:Nat->Option Au)(n:Nat)(K:Ah):r a h n K=WJ ar pre re (Fv h a) K (CB h a):=by rw[e];rfl
end Go.Ae
namespace Go.Ae
open Go.Proofs
def vK{A B:Type}(k:AK A)(r:RK B)(pre:A->Prop)(f:A->B):AA:=Ee k.r pre λa=>r.e (f a)
def CR{A B:Type}(k:AK A)(r:RK B)(pre:A->Prop)(f:A->B):AA:=Lm k.r pre λa=>r.e (f a)
section
variable {A B:Type}{R:AA}{k:AK A}{r:RK B}{pre:A->Prop}{f:A->B}
def AT(e:R=vK k r pre f)(a:List AV)(h:Nat->Option Au)(n:Nat)(K:Ah):R a h n K=Zz k.r pre (λa=>r.e (f a)) (AH a) K (KJ h a):=by rw[e];rfl
def CY(e:R=CR k r pre f)(a:List AV)(h:Nat->Option Au)(n:Nat)(K:Ah):R a h n K=WJ k.r pre (λa=>r.e (f a)) (Fv h a) K (CB h a):=by rw[e];rfl
variable {V:Db}(hV:J5 Tryz.prog V){g:FuncId}{fn:Func}{c:Code}(hf:Tryz.prog.funcs[g]? =some fn)(hb:fn.body=some c)(hc:(Em fn.ntmps c && (IN Tryz.prog g && Nat.ble k.n fn.ntmps))=true)
include hV hf hb hc
def vw(z: ∀a,pre a->Dc Tryz.prog V c (Pp Tryz.prog fn.results.toList (BJ (k.e a)) [] K3 (D7 0 (k.e a)) (MD r.c (f a))) ⟨entry 0 (Dt 0 (k.e a)),D7 0 (k.e a),BJ (k.e a)⟩):AB Tryz.prog g (vK k r pre f):=by
 simp only[AS] at hc;exact Ww CZ hV hf hb hc.1 hc.2.1 k.l k.w (mK hc.2.2) r.l z
def Fy(z: ∀a,pre a->Dc Tryz.prog V c (ZY Tryz.prog fn.results.toList (Bn r.c (f a))) ⟨entry 0 (Dt 0 (k.e a)),D7 0 (k.e a),BJ (k.e a)⟩):AB Tryz.prog g (CR k r pre f):=by
 simp only[AS] at hc;exact rX CZ hV hf hb hc.1 hc.2.1 k.l k.w (mK hc.2.2) r.l z
end
section
variable {V:Db}(hV:J5 Tryz.prog V){g:FuncId}{fn:Func}{c:Code}(hf:Tryz.prog.funcs[g]? =some fn)(hb:fn.body=some c)(hc:(Em fn.ntmps c && IN Tryz.prog g)=true)
 {A:Type}{ca:A->List AV}{H0 H1:A->Av}{k cnt:Nat}{pre:A->Prop}{klB exB:Nat->Bool}{r0:A->AV}{R:A->AV->Prop}
 (hn: ∀a,Nat.ble (ca a).length fn.ntmps=true)(hq: ∀a,Aq k (ca a)=true/\Ac k (H0 a)=true/\A8 k (H0 a)=true/\BO (H0 a) (H0 a))
 (hH1: ∀a,∀p∈H1 a,(p.1<k/\klB p.1=true/\Ao (H0 a) p.1=true)\/(k<=p.1/\p.1<k+cnt/\exB p.1=true/\p.2.1=true))
 (hR: ∀a r,R a r->CF r (r0 a))
include hV hf hb hc hn hq hH1 hR
def ow(hk: ∀a,pre a->Dc Tryz.prog V c (ND Tryz.prog fn.results.toList k cnt (H0 a) (H1 a) klB exB (R a)) ⟨entry 0 (ca a),H0 a,k⟩):AB Tryz.prog g (AE ca H0 k pre klB r0 H1 cnt):=by
 simp only[AS] at hc;rintro args h nx K ⟨a,τ,U,KL,O,rfl,z,G,Z⟩;refine⟨Oa hc.2,_,_,?_,Z⟩;exact xN CZ hV hf hb hc.1 (mK (hn a)) (hq a).1 (hq a).2.1 (hq a).2.2.1 (λj e Q=>Qo2 (hq a).2.2.2 j e (eN Q)) (hR a) (hH1 a) Uu (λ_ _ h=>h) (hk a O) G.inj G.lt
  (λj e Q=>Qpk z j e (eN Q)) G.u G.k1 G.k2
def M8(hk: ∀a,pre a->Dc Tryz.prog V c (Fe Tryz.prog fn.results.toList k cnt (H0 a) (H1 a) klB exB (R a)) ⟨entry 0 (ca a),H0 a,k⟩):AB Tryz.prog g (AE ca H0 k pre klB r0 H1 cnt):=by
 simp only[AS] at hc;rintro args h nx K ⟨a,τ,U,KL,O,rfl,z,G,Z⟩;refine⟨Oa hc.2,_,_,?_,Z⟩;exact xN CZ hV hf hb hc.1 (mK (hn a)) (hq a).1 (hq a).2.1 (hq a).2.2.1 (λj e Q=>Qo2 (hq a).2.2.2 j e (eN Q)) (hR a) (hH1 a) Uv (λ_ _ h=>h) (hk a O) G.inj G.lt
  (λj e Q=>Qpk z j e (eN Q)) G.u G.k1 G.k2
end
def Bj(n lo z:Int):Bool:=decide (lo<=n) && decide (n<=z)
def within_.fv(a:Int×Int×Int):Bool:=(Bj) (a.1) (a.2.1) (a.2.2)
def within_.row:AA:=vK (b3 qI qI qI) rB (λa=>True) within_.fv
def within_.q:=AT (R:=within_.row) rfl
def within_.ok:AB Tryz.prog 102 within_.row:=by
 refine vw tN Tryz.func102 rfl (by kernel_rfl) ?_;intro a z;simp only[Tryz.f102];simp(disch:=omega)only[ZA,simprocAttr,within_.fv];simp only[Bj];grind
def l00In.fv(a:Int×Int×Int):Bool:=(Bj) (a.1) (a.2.1) (a.2.2)
def l00In.row:AA:=vK (b3 qI qI qI) rB (λa=>True) l00In.fv
def l00In.q:=AT (R:=l00In.row) rfl
def l00In.ok:AB Tryz.prog 91 l00In.row:=by
 refine vw tN Tryz.func91 rfl (by kernel_rfl) ?_;intro a z;simp only[Tryz.f91];simp(disch:=omega)only[ZA,simprocAttr,l00In.fv];simp only[Bj];grind
def I64(n:Int):Prop:= -9223372036854775808<=n/\n<=9223372036854775807
def isIndex.fv(a:Int×Int):Bool:=Bj a.1 0 (a.2 - 1)
def isIndex.row:AA:=vK (b2 qI qI) rB (λa=>0<=a.2/\I64 a.2) isIndex.fv
def isIndex.q:=AT (R:=isIndex.row) rfl
def isIndex.ok:AB Tryz.prog 221 isIndex.row:=by
 refine vw (tC within_.ok tN) Tryz.func221 rfl (by kernel_rfl) ?_;intro a z;simp only[Tryz.f221];simp(disch:=omega)only[ZA,simprocAttr,isIndex.fv,within_.q,within_.fv];obtain⟨G,O,Q⟩:=z;rw[AG (by omega) (by omega)]
def E3(p:Ab):Bool:=Bj p.X (-60) 60 && Bj p.Y (-60) 60
def ValidPoint.fv(a:Ab):Bool:=(E3) a
def ValidPoint.row:AA:=vK (b1 (qR Ab.d_le)) rB (λa=>True) ValidPoint.fv
def ValidPoint.q:=AT (R:=ValidPoint.row) rfl
def ValidPoint.ok:AB Tryz.prog 185 ValidPoint.row:=by
 refine vw (tC within_.ok tN) Tryz.func185 rfl (by kernel_rfl) ?_;intro a z;simp only[Tryz.f185];simp(disch:=omega)only[ZA,simprocAttr,ValidPoint.fv,within_.q,within_.fv];simp only[E3];grind
def l01Point.fv(a:Ab):Bool:=(E3) a
def l01Point.row:AA:=vK (b1 (qR Ab.d_le)) rB (λa=>True) l01Point.fv
def l01Point.q:=AT (R:=l01Point.row) rfl
def l01Point.ok:AB Tryz.prog 177 l01Point.row:=by
 refine vw (tC l00In.ok tN) Tryz.func177 rfl (by kernel_rfl) ?_;intro a z;simp only[Tryz.f177];simp(disch:=omega)only[ZA,simprocAttr,l01Point.fv,l00In.q,l00In.fv];simp only[E3];grind
def isNaN.fv(a:Int):Bool:=false && a==0
def isNaN.row:AA:=vK (b1 qI) rB (λa=>True) isNaN.fv
def isNaN.q:=AT (R:=isNaN.row) rfl
def isNaN.ok:AB Tryz.prog 235 isNaN.row:=by
 refine vw tN Tryz.func235 rfl (by kernel_rfl) ?_;intro a z;simp only[Tryz.f235];simp(disch:=omega)only[ZA,simprocAttr,isNaN.fv]
 try simp
def Fk(a b:Int):Int:=if a<b then -1 else if b<a then 1 else 0
def Compare.fv(a:Int×Int):Int:=(Fk) (a.1) (a.2)
def Compare.row:AA:=vK (b2 qI qI) rI (λa=>True) Compare.fv
def Compare.q:=AT (R:=Compare.row) rfl
def Compare.ok:AB Tryz.prog 202 Compare.row:=by
 refine vw (tC isNaN.ok tN) Tryz.func202 rfl (by kernel_rfl) ?_;intro a z;simp only[Tryz.f202];simp(disch:=omega)only[ZA,simprocAttr,Compare.fv,isNaN.q,isNaN.fv];simp only[Fk];grind
def Bt(a b:Ab):Bool:=decide (a.Y<b.Y)||(decide (a.Y=b.Y) && decide (a.X<b.X))
def l_LessPoint.fv(a:Ab×Ab):Bool:=(Bt) (a.1) (a.2)
def l_LessPoint.row:AA:=vK (b2 (qR Ab.d_le) (qR Ab.d_le)) rB (λa=>True) l_LessPoint.fv
def l_LessPoint.q:=AT (R:=l_LessPoint.row) rfl
def l_LessPoint.ok:AB Tryz.prog 90 l_LessPoint.row:=by
 refine vw tN Tryz.func90 rfl (by kernel_rfl) ?_;intro a z;simp only[Tryz.f90];simp(disch:=omega)only[ZA,simprocAttr,l_LessPoint.fv];simp only[Bt]
 grind
def EO(a b:Int):Int:=if a<b then a else b
def Et(a b:Int):Int:=if b<a then a else b
def l00Min.fv(a:Int×Int):Int:=(EO) (a.1) (a.2)
def l00Min.row:AA:=vK (b2 qI qI) rI (λa=>True) l00Min.fv
def l00Min.q:=AT (R:=l00Min.row) rfl
def l00Min.ok:AB Tryz.prog 239 l00Min.row:=by
 refine vw tN Tryz.func239 rfl (by kernel_rfl) ?_;intro a z;simp only[Tryz.f239];simp(disch:=omega)only[ZA,simprocAttr,l00Min.fv];simp only[EO];grind
def l00Max.fv(a:Int×Int):Int:=(Et) (a.1) (a.2)
def l00Max.row:AA:=vK (b2 qI qI) rI (λa=>True) l00Max.fv
def l00Max.q:=AT (R:=l00Max.row) rfl
def l00Max.ok:AB Tryz.prog 240 l00Max.row:=by
 refine vw tN Tryz.func240 rfl (by kernel_rfl) ?_;intro a z;simp only[Tryz.f240];simp(disch:=omega)only[ZA,simprocAttr,l00Max.fv];simp only[Et];grind
def tO(c:Int):Bool:=Bj c 97 122||Bj c 65 90
def Qtq(c:Int):Bool:=Bj c 48 57
def l01Letter.fv(a:Int):Bool:=(tO) a
def l01Letter.row:AA:=vK (b1 qY) rB (λa=>True) l01Letter.fv
def l01Letter.q:=AT (R:=l01Letter.row) rfl
def l01Letter.ok:AB Tryz.prog 236 l01Letter.row:=by
 refine vw tN Tryz.func236 rfl (by kernel_rfl) ?_;intro a z;simp only[Tryz.f236];simp(disch:=omega)only[ZA,simprocAttr,l01Letter.fv];simp only[tO,Bj];grind
def l01Digit.fv(a:Int):Bool:=(Qtq) a
def l01Digit.row:AA:=vK (b1 qY) rB (λa=>True) l01Digit.fv
def l01Digit.q:=AT (R:=l01Digit.row) rfl
def l01Digit.ok:AB Tryz.prog 237 l01Digit.row:=by
 refine vw tN Tryz.func237 rfl (by kernel_rfl) ?_;intro a z;simp only[Tryz.f237];simp(disch:=omega)only[ZA,simprocAttr,l01Digit.fv];simp only[Qtq,Bj];grind
def wG(a b:Ab):Ab:=⟨a.X+b.X,a.Y+b.Y⟩
def FD(p:Ab):Prop:= -1000000000<=p.X/\p.X<=1000000000/\ -1000000000<=p.Y/\p.Y<=1000000000
def plus.fv(a:Ab×Ab):Ab:=(wG) (a.1) (a.2)
def plus.row:AA:=vK (b2 (qR Ab.d_le) (qR Ab.d_le)) (rA Ab.d_le) (λa=>FD a.1/\FD a.2) plus.fv
def plus.q:=AT (R:=plus.row) rfl
def plus.ok:AB Tryz.prog 196 plus.row:=by
 refine vw tN Tryz.func196 rfl (by kernel_rfl) ?_;intro a z;simp only[Tryz.f196];simp(disch:=omega)only[ZA,simprocAttr,plus.fv];obtain⟨⟨G,O,Q,Z⟩,h5,h6,h7,h8⟩:=z;rw[AG (by omega) (by omega),AG (by omega) (by omega)];rfl
def Bu(p:Ab)(d:Int):Ab:=if d=0 then ⟨p.X,p.Y+1⟩ else if d=1 then ⟨p.X+1,p.Y⟩ else if d=2 then ⟨p.X,p.Y - 1⟩ else ⟨p.X - 1,p.Y⟩
def step_.rc:D->Option (Ab):=EA Ab.d
def step_.re:Ab->D:=λb=>D.agg (Ab.c b)
def step_.rle: ∀d b,step_.rc d=some b->Le d (step_.re b):=N0 Ab.d_le
def step_.fv(a:Ab×Int):Ab:=(Bu) (a.1) (a.2)
def step_.row:AA:=vK (b2 (qR Ab.d_le) qI) (RK.mk step_.rc step_.re step_.rle) (λa=>FD a.1/\0<=a.2/\a.2<=3) step_.fv
def step_.q:=AT (R:=step_.row) rfl
def step_.ok:AB Tryz.prog 151 step_.row:=by
 refine vw (tC plus.ok tN) Tryz.func151 rfl (by kernel_rfl) ?_;intro a z;simp only[Tryz.f151];obtain⟨p,d⟩:=a;obtain⟨hp,G,O⟩:=z;simp only at G O hp;rcases (by omega:d=0\/d=1\/d=2\/d=3) with rfl|rfl|rfl|rfl
 all_goals
  simp(disch:=omega)only[ZA,simprocAttr,step_.fv,step_.rc,plus.q,plus.fv];obtain⟨Q,Z,h5,h6⟩:=hp;refine⟨⟨⟨Q,Z,h5,h6⟩,by simp[FD]⟩,?_⟩;simp[Bu,wG]<;>omega
def l01Step.fv(a:Ab×Int):Ab:=(Bu) (a.1) (a.2)
def l01Step.row:AA:=vK (b2 (qR Ab.d_le) qI) (rA Ab.d_le) (λa=>FD a.1/\0<=a.2/\a.2<=3) l01Step.fv
def l01Step.q:=AT (R:=l01Step.row) rfl
def l01Step.ok:AB Tryz.prog 168 l01Step.row:=by
 refine vw tN Tryz.func168 rfl (by kernel_rfl) ?_;intro a z;simp only[Tryz.f168];simp(disch:=omega)only[ZA,simprocAttr,l01Step.fv];obtain⟨⟨G,O,Q,Z⟩,h5,h6⟩:=z;rw[AG (by omega) (by omega),AG (by omega) (by omega),AG (by omega) (by omega),AG (by omega) (by omega)];simp only[Bu]
 grind
def Qg:List Int->Int
 |[]=>0
 |x::r=>if x=0 then Qg r else x
def Or.fv(a:(List Int)):Int:=(Qg) a
def Or.row:AA:=vK (b1 (qS Da Cp)) rI (λa=>True) Or.fv
def Or.q:=AT (R:=Or.row) rfl
def Or.ok:AB Tryz.prog 201 Or.row:=by
 refine vw tN Tryz.func201 rfl (by kernel_rfl) ?_;intro a Z;simp only[Tryz.f201];simp(disch:=omega)only[ZA,simprocAttr,Or.fv];intro Q;refine AP.old ⟨{k:Nat//k<=a.length/\Qg (a.drop k)=Qg a},λk=>⟨[(8,.im (.int .i64 k.1)),(7,.im (.int .i64 a.length)),(6,.im (.sl false 1 (a.map Aj))),(3,.im (.int .i64 0)),(2,.im (.int .i64 0))],[],0⟩,λk=>a.length - k.1,λk=>⟨by simp[Ai.good,Am,Ac,A8,AV.bel],AQ _⟩,⟨⟨0,by simp⟩,by simp(disch:=omega)only[ZA,simprocAttr,sub]⟩,λk=> ?_⟩;obtain⟨k,aa,z⟩:=k;simp(disch:=omega)only[ZA,simprocAttr,sub];simp only[AO];refine⟨λG=>⟨G,λx hx=> ?_⟩,λG=> ?_⟩
 .have O:a.drop k=x::a.drop (k+1):=by
   rw[VK G];rw[Bk G] at hx;rw[AD hx]
  rw[O,Qg] at z;refine⟨λh=>by grind,λh=>⟨⟨k+1,by omega,by grind⟩,by simp only;omega,?_⟩⟩;simp (disch:=omega) only[AG];simp
 .have O:a.drop k=[]:=Dr (by omega);rw[O] at z;exact z
def comparePoints.fv(a:Ab×Ab):Int:=(λa b=>Qg [Fk a.Y b.Y,Fk a.X b.X]) (a.1) (a.2)
def comparePoints.row:AA:=vK (b2 (qR Ab.d_le) (qR Ab.d_le)) rI (λa=>True) comparePoints.fv
def comparePoints.q:=AT (R:=comparePoints.row) rfl
def comparePoints.ok:AB Tryz.prog 161 comparePoints.row:=by
 refine vw (tC Compare.ok (tC Or.ok tN)) Tryz.func161 rfl (by kernel_rfl) ?_;intro a z;simp only[Tryz.f161];simp(disch:=omega)only[ZA,simprocAttr,comparePoints.fv,Compare.q,Compare.fv,Or.q,Or.fv]
def impl_LessPoint.fv(a:Ab×Ab):Bool:=(Bt) (a.1) (a.2)
def impl_LessPoint.row:AA:=vK (b2 (qR Ab.d_le) (qR Ab.d_le)) rB (λa=>True) impl_LessPoint.fv
def impl_LessPoint.q:=AT (R:=impl_LessPoint.row) rfl
def impl_LessPoint.ok:AB Tryz.prog 149 impl_LessPoint.row:=by
 refine vw (tC comparePoints.ok tN) Tryz.func149 rfl (by kernel_rfl) ?_;intro a z;simp only[Tryz.f149];simp(disch:=omega)only[ZA,simprocAttr,impl_LessPoint.fv,comparePoints.q,comparePoints.fv];simp only[Bt,Qg,Fk]
 grind
def NY(i:Nat)(c:Int):Bool:=tO c||(decide (i≠0) && (Qtq c||decide (c=95)))
def HB:Nat->List UInt8->Bool
 |_,[]=>true
 |i,c::r=>NY i c.toNat && HB (i+1) r
def oS{a:ByteArray}{k:Nat}{c:UInt8}(hc:a.data[k]? =some c):a.data.toList.drop k=c::a.data.toList.drop (k+1):=by
 have h0:a.data.toList[k]? =some c:=by simpa using hc
 have z:k<a.data.toList.length:=(Ce.1 h0).1;rw[VK z];rw[Bk z] at h0;rw[AD h0]
def RB{a:ByteArray}{k:Nat}(h: ¬k<a.size):a.data.toList.drop k=[]:=Dr (by simpa using h)
def ID(s:ByteArray):Bool:=HB 0 s.data.toList && (decide (1<=s.size) && decide (s.size<=12))
def impl_IsName.fv(a:ByteArray):Bool:=(ID) a
def impl_IsName.row:AA:=vK (b1 qT) rB (λa=>a.size<=140737488355328) impl_IsName.fv
def impl_IsName.q:=AT (R:=impl_IsName.row) rfl
def impl_IsName.ok:AB Tryz.prog 253 impl_IsName.row:=by
 refine vw tN Tryz.func253 rfl (by kernel_rfl) ?_;intro a aa;simp only[Tryz.f253];simp(disch:=omega)only[ZA,simprocAttr,impl_IsName.fv];refine AP.old ⟨{k:Nat//k<=a.size/\HB k (a.data.toList.drop k)=HB 0 a.data.toList},λk=>⟨[(8,.im (.int .i64 k.1)),(7,.im (.int .i64 a.size)),(6,.im (.str a)),(0,.im (.str a)),(2,.im (.bool false))],[],0⟩,λk=>a.size - k.1,λk=>⟨by simp[Ai.good,Am,Ac,A8,AV.bel],AQ _⟩,⟨⟨0,by simp⟩,by simp(disch:=omega)only[ZA,simprocAttr,sub]⟩,λk=> ?_⟩;obtain⟨k,ab,z⟩:=k;simp(disch:=omega)only[ZA,simprocAttr]
 split<;>rename_i Q
 .refine⟨Q,?_⟩;intro c hc;have hd:a.data.toList.drop k=c::a.data.toList.drop (k+1):=by
   have hl:k<a.data.toList.length:=by simpa using Q
   rw[VK hl]
   have:a.data.toList[k]? =some c:=by simpa using hc
   rw[Bk hl] at this;rw[AD this]
  rw[hd,HB] at z;by_cases Z:(97:Int)<=c.toNat<;>by_cases e2:(c.toNat:Int)<=122<;>(try (exfalso;omega))<;>by_cases e3:(65:Int)<=c.toNat<;>(try (exfalso;omega))<;>by_cases e4:(c.toNat:Int)<=90<;>(try (exfalso;omega))<;>
   by_cases e5:(c.toNat:Int)<48<;>(try (exfalso;omega))<;>by_cases e6:(57:Int)<c.toNat<;>(try (exfalso;omega))<;>by_cases e7:(c.toNat:Int)=95<;>(try (exfalso;omega))<;>by_cases e8:(k:Int)=0
  all_goals
   have e9:(48:Int)<=c.toNat↔ ¬(c.toNat:Int)<48:=by omega
   have G:(c.toNat:Int)<=57↔ ¬(57:Int)<c.toNat:=by omega
   have O:k=0↔(k:Int)=0:=by omega
   have hb:NY k c.toNat=NY k c.toNat:=rfl
   conv at hb=>
    rhs
    simp only[NY,tO,Qtq,Bj,Z,e2,e3,e4,e5,e6,e7,e8,e9,G,O,ne_eq,decide_true,ZeZ,F7,gK,ZeN,Qt,gD,aL,Eb,F6,not_true_eq_false,ZdX]
   rw[hb] at z;simp(disch:=omega)only[ZA,simprocAttr,sub,Z,e2,e3,e4,e5,e6,e7,e8]
   first
    |(simp only[F6] at z
      simp only[ID,<-z,F6])
    |(simp only[Eb] at z
      refine⟨⟨k+1,by omega,z⟩,by simp only;omega,?_⟩;rw[AG (by omega) (by omega)];simp only
      omega)
    |(have h9:HB 0 a.data.toList=false:=by rw[<-z];simp
      simp[ID,h9])
 .have:a.data.toList.drop k=[]:=Dr (by simpa using Q)
  rw[this,HB] at z;simp only[ID]
  grind
def spec_IsName.fv(a:ByteArray):Bool:=(ID) a
def spec_IsName.row:AA:=vK (b1 qT) rB (λa=>True) spec_IsName.fv
def spec_IsName.q:=AT (R:=spec_IsName.row) rfl
def Yaa:=J @l01Letter.q @l01Letter.fv.eq_1
def spec_IsName.ok:AB Tryz.prog 203 spec_IsName.row:=by
 refine vw (tC l01Letter.ok (tC l01Digit.ok tN)) Tryz.func203 rfl (by kernel_rfl) ?_;intro a ad;simp only[Tryz.f203];simp(disch:=omega)only[ZA,simprocAttr,spec_IsName.fv,AO];refine⟨λh1=>⟨λh2=>⟨by omega,?_⟩,λh2=> ?_⟩,λh1=> ?_⟩
 .intro c hc;have hd:=oS hc;rw[Hh] at hd;cases hL:tO c.toNat
  .simp(disch:=omega)only[ZA,simprocAttr,Yaa,hL];have h9:HB 0 a.data.toList=false:=by rw[hd];simp[HB,NY,hL]
   simp[ID,h9]
  .simp(disch:=omega)only[ZA,simprocAttr,Yaa,hL];refine AP.old ⟨{k:Nat//1<=k/\k<=a.size/\HB k (a.data.toList.drop k)=HB 0 a.data.toList},λk=>⟨[(3,.im (.int .i64 k.1)),(0,.im (.str a)),(2,.im (.bool false))],[],0⟩,λk=>a.size - k.1,λk=>⟨by simp[Ai.good,Am,Ac,A8,AV.bel],AQ _⟩,⟨⟨1,by omega,by omega,?_⟩,by simp(disch:=omega)only[ZA,simprocAttr,sub]⟩,λk=> ?_⟩
   .conv=>rhs;rw[hd]
    simp[HB,NY,hL]
   .obtain⟨k,af,ag,z⟩:=k;simp(disch:=omega)only[ZA,simprocAttr,AO];refine⟨λZ=>⟨Z,λc2 Q=> ?_⟩,λZ=> ?_⟩
    .rw[oS Q,HB] at z;simp(disch:=omega)only[ZZ,simprocAttr,Yaa,l01Digit.q,l01Digit.fv,sub,AO];have ac:NY k c2.toNat=true->HB (k+1) (a.data.toList.drop (k+1))=HB 0 a.data.toList:=by
      intro h;rw[h] at z;simpa using z
     have ab:NY k c2.toNat=false->false=ID a:=by
      intro h;rw[h] at z;have h9:HB 0 a.data.toList=false:=by rw[<-z];simp
      simp[ID,h9]
     have O:NY k c2.toNat=true-> ∃b':{k:Nat//1<=k/\k<=a.size/\HB k (a.data.toList.drop k)=HB 0 a.data.toList},a.size - b'.val<a.size - k/\IntKind.wrap .i64 ((k:Int)+1)=b'.val:=by
      intro h;refine⟨⟨k+1,by omega,by omega,ac h⟩,by simp only;omega,?_⟩;rw[AG (by omega) (by omega)];simp only;omega
     have aa:k≠0:=by omega
     refine⟨λl=>⟨Z,λc3 G=> ?_⟩,λl=> ?_⟩
     .rw[Q] at G;obtain rfl:=AD G;refine⟨λl2=>⟨Z,λc3 G=> ?_⟩,λl2=> ?_⟩
      .rw[Q] at G;obtain rfl:=AD G;refine⟨λl3=>ab ?_,λl3=>O ?_⟩
       .simp[NY,l,l2,l3]
       .simp only[FX] at l3;simp[NY,l3,aa]
      .refine O ?_;simp only[FW] at l2;simp[NY,l2,aa]
     .refine O ?_;simp only[FW] at l;simp[NY,l]
    .rw[RB Z,HB] at z;simp only[ID]
     grind
 .simp only[ID];grind
 .simp only[ID];grind
def fE{A:Type}{B:Type}(f:A->B)(z:B)(a:List A)(k:Nat)(x:A)(G:a[k]? =some x):
 ((a.take k).map f++List.replicate (a.length - k) z).set k (f x)=(a.take (k+1)).map f++List.replicate (a.length - (k+1)) z:=by
 have hk:k<a.length:=(Ce.1 G).1;have O:a.take (k+1)=a.take k++[x]:=by
  rw[Iq,G];rfl
 have Q:a.length - k=(a.length - (k+1))+1:=by omega
 rw[O,Q,Zem,GH,Hw,mJ _ _ (by simp;omega)];have Z:k - (List.map f (List.take k a)).length=0:=by simp;omega
 rw[Z];rfl
def eW{A:Type}{B:Type}(f:A->B)(z:B)(a:List A)(k:Nat)(x:A)(O:a[k]? =some x):
 ((a.take k).map f++List.replicate (a.length - k) z)[k]? =some z:=by
 have Q:k<a.length:=(Ce.1 O).1;rw[F4 (by simp;omega)];have G:k - (List.map f (List.take k a)).length=0:=by simp;omega
 rw[G,Ls,An (by omega)]
def fA{A:Type}{B:Type}(f:A->B)(z:B)(a:List A)(k:Nat)(G:k<=a.length):((a.take k).map f++List.replicate (a.length - k) z).length=a.length:=by
 simp;omega
def fB{A:Type}{B:Type}(f:A->B)(z:B)(a:List A)(k:Nat)(G:a.length<=k):(a.take k).map f++List.replicate (a.length - k) z=a.map f:=by
 rw[DQ G,show a.length - k=0 by omega];simp
def toPoint.fv(a:Ab):Ab:=(λp=>p) a
def toPoint.row:AA:=vK (b1 (qR Ab.d_le)) (rA Ab.d_le) (λa=>True) toPoint.fv
def toPoint.q:=AT (R:=toPoint.row) rfl
def toPoint.ok:AB Tryz.prog 50 toPoint.row:=by
 refine vw tN Tryz.func50 rfl (by kernel_rfl) ?_;intro a z;simp only[Tryz.f50];simp(disch:=omega)only[ZA,simprocAttr,toPoint.fv]
def toPlaced.fv(a:Al):Al:=(λp=>p) a
def toPlaced.row:AA:=vK (b1 (qR Al.d_le)) (rA Al.d_le) (λa=>True) toPlaced.fv
def toPlaced.q:=AT (R:=toPlaced.row) rfl
def toPlaced.ok:AB Tryz.prog 97 toPlaced.row:=by
 refine vw (tC toPoint.ok tN) Tryz.func97 rfl (by kernel_rfl) ?_;intro a z;simp only[Tryz.f97];simp(disch:=omega)only[ZA,simprocAttr,toPlaced.fv,toPoint.q,toPoint.fv]
def toGlue.fv(a:Ar):Ar:=(λp=>p) a
def toGlue.row:AA:=vK (b1 (qR Ar.d_le)) (rA Ar.d_le) (λa=>True) toGlue.fv
def toGlue.q:=AT (R:=toGlue.row) rfl
def toGlue.ok:AB Tryz.prog 143 toGlue.row:=by
 refine vw tN Tryz.func143 rfl (by kernel_rfl) ?_;intro a z;simp only[Tryz.f143];simp(disch:=omega)only[ZA,simprocAttr,toGlue.fv]
def toInt64S.fv(a:(List Int)):List Int:=(λp=>p) a
def toInt64S.row:AA:=vK (b1 (qS Da Cp)) (rS Da Cp) (λa=>a.length<=1073741824) toInt64S.fv
def toInt64S.q:=AT (R:=toInt64S.row) rfl
def toInt64S.ok:AB Tryz.prog 14 toInt64S.row:=by
 refine vw tN Tryz.func14 rfl (by kernel_rfl) ?_;intro a Q;simp only[Tryz.f14];simp(disch:=omega)only[ZA,simprocAttr,toInt64S.fv];intro O;refine⟨by omega,?_⟩;refine AP.old ⟨{k:Nat//k<=a.length},λk=>⟨[(4,.im (.int .i64 k.1)),(3,.own 1),(0,.im (.sl false 1 (a.map Aj)))],[(1,(true,.arr 2 1 ((a.take k.1).map Aj++List.replicate (a.length - k.1) [.int .i64 0])))],2⟩,λk=>a.length - k.1,λk=>⟨by simp[Ai.good,Am,Ac,A8,AV.bel],AQ _⟩,⟨⟨0,by omega⟩,by simp(disch:=omega)only[ZA,simprocAttr,sub];simp⟩,λk=> ?_⟩;obtain⟨k,G⟩:=k;simp(disch:=omega)only[ZA,simprocAttr,AO,fA _ _ a k G];intro _;refine⟨λz=>⟨z,λx Z=>⟨z,z,J0 (eW Aj [.int .i64 0] a k x Z) ?_⟩⟩,λz=> ?_⟩
 .simp(disch:=omega)only[ZA,simprocAttr,sub];refine⟨⟨k+1,by omega⟩,by simp only;omega,?_,?_⟩
  .rw[AG (by omega) (by omega)];simp only;omega
  .exact fE Aj [.int .i64 0] a k x Z
 .rw[fB Aj _ a k (by omega)];simp[ZO]
def eqPoint.fv(a:Ab×Ab):Bool:=(λa b=>decide (a=b)) (a.1) (a.2)
def eqPoint.row:AA:=vK (b2 (qR Ab.d_le) (qR Ab.d_le)) rB (λa=>True) eqPoint.fv
def eqPoint.q:=AT (R:=eqPoint.row) rfl
def eqPoint.ok:AB Tryz.prog 60 eqPoint.row:=by
 refine vw tN Tryz.func60 rfl (by kernel_rfl) ?_;intro a G;simp only[Tryz.f60];simp(disch:=omega)only[ZA,simprocAttr,eqPoint.fv];obtain⟨⟨x,y⟩,⟨z,w⟩⟩:=a;simp only[Ab.mk.injEq]
 grind
def eqPlaced.fv(a:Al×Al):Bool:=(λa b=>decide (a=b)) (a.1) (a.2)
def eqPlaced.row:AA:=vK (b2 (qR Al.d_le) (qR Al.d_le)) rB (λa=>True) eqPlaced.fv
def eqPlaced.q:=AT (R:=eqPlaced.row) rfl
def eqPlaced.ok:AB Tryz.prog 112 eqPlaced.row:=by
 refine vw (tC eqPoint.ok tN) Tryz.func112 rfl (by kernel_rfl) ?_;intro a G;simp only[Tryz.f112];simp(disch:=omega)only[ZA,simprocAttr,eqPlaced.fv,eqPoint.q,eqPoint.fv];obtain⟨⟨⟨x,y⟩,u⟩,⟨⟨z,w⟩,v⟩⟩:=a;simp only[Al.mk.injEq,Ab.mk.injEq]
 grind
def eqGlue.fv(a:Ar×Ar):Bool:=(λa b=>decide (a=b)) (a.1) (a.2)
def eqGlue.row:AA:=vK (b2 (qR Ar.d_le) (qR Ar.d_le)) rB (λa=>True) eqGlue.fv
def eqGlue.q:=AT (R:=eqGlue.row) rfl
def eqGlue.ok:AB Tryz.prog 162 eqGlue.row:=by
 refine vw tN Tryz.func162 rfl (by kernel_rfl) ?_;intro a G;simp only[Tryz.f162];simp(disch:=omega)only[ZA,simprocAttr,eqGlue.fv];obtain⟨⟨x,y⟩,⟨z,w⟩⟩:=a;simp only[Ar.mk.injEq]
 grind
def eC{A:Type}[DecidableEq A]{a b:List A}(hl:a.length=b.length){k:Nat}(Z:k<=a.length)(h:a.take k=b.take k){x y:A}(Q:a[k]? =some x)(O:b[k]? =some y):
 (x=y->a.take (k+1)=b.take (k+1))/\(x≠y->a≠b):=by
 refine⟨λz=> ?_,λz G=> ?_⟩
 .rw[Iq,Iq,h,Q,O,z]
 .subst G;rw[Q] at O;exact z (AD O)
def eqInt64S.fv(a:(List Int)×(List Int)):Bool:=(λa b=>decide (a=b)) (a.1) (a.2)
def eqInt64S.row:AA:=vK (b2 (qS Da Cp) (qS Da Cp)) rB (λa=>True) eqInt64S.fv
def eqInt64S.q:=AT (R:=eqInt64S.row) rfl
def eqInt64S.ok:AB Tryz.prog 20 eqInt64S.row:=by
 refine vw tN Tryz.func20 rfl (by kernel_rfl) ?_;intro a Z;simp only[Tryz.f20];simp(disch:=omega)only[ZA,simprocAttr,eqInt64S.fv];intro h1 h2;simp only[AO];refine⟨λG=> ?_,λG=> ?_⟩
 .have:a.1≠a.2:=λh=>G (by rw[h])
  simp[this]
 have G:a.1.length=a.2.length:=by omega
 refine AP.old ⟨{k:Nat//k<=a.1.length/\a.1.take k=a.2.take k},λk=>⟨[(5,.im (.int .i64 k.1)),(4,.im (.bool false)),(0,.im (.sl false 1 (a.1.map Aj))),(1,.im (.sl false 1 (a.2.map Aj)))],[],0⟩,λk=>a.1.length - k.1,λk=>⟨by simp[Ai.good,Am,Ac,A8,AV.bel],AQ _⟩,⟨⟨0,by simp⟩,by simp(disch:=omega)only[ZA,simprocAttr,sub]⟩,λk=> ?_⟩;obtain⟨k,Q,z⟩:=k;simp(disch:=omega)only[ZA,simprocAttr,sub,AO];intro _;refine⟨λO=>⟨O,λx hx=>⟨by omega,λy hy=> ?_⟩⟩,λO=> ?_⟩
 .obtain⟨g1,g2⟩:=eC G Q z hx hy;exact⟨λh=>by simp[g2 h],λh=>Gi O h1 ⟨by omega,g1 (by simpa using h)⟩⟩
 .rw[DQ (by omega),DQ (by omega)] at z;simp[z]
def C6(n:Int)(left:Int):Int:=if left - n<0 then -1 else left - n
def szInt64S.fv(a:(List Int)×Int):Int:=(λa l=>C6 a.length l) (a.1) (a.2)
def szInt64S.row:AA:=vK (b2 (qS Da Cp) qI) rI (λa=> -1<=a.2/\a.2<=1048576) szInt64S.fv
def szInt64S.q:=AT (R:=szInt64S.row) rfl
def szInt64S.ok:AB Tryz.prog 68 szInt64S.row:=by
 refine vw tN Tryz.func68 rfl (by kernel_rfl) ?_;intro a z;simp only[Tryz.f68];simp(disch:=omega)only[ZA,simprocAttr,szInt64S.fv];intro h;rw[AG (by omega) (by omega)];simp only[C6];grind
def szPlacedS.fv(a:(List Al)×Int):Int:=(λa l=>C6 a.length l) (a.1) (a.2)
def szPlacedS.row:AA:=vK (b2 (qS Al.d_le Al.c_n) qI) rI (λa=> -1<=a.2/\a.2<=1048576) szPlacedS.fv
def szPlacedS.q:=AT (R:=szPlacedS.row) rfl
def szPlacedS.ok:AB Tryz.prog 42 szPlacedS.row:=by
 refine vw tN Tryz.func42 rfl (by kernel_rfl) ?_;intro a z;simp only[Tryz.f42];simp(disch:=omega)only[ZA,simprocAttr,szPlacedS.fv];intro h;rw[AG (by omega) (by omega)];simp only[C6];grind
def Nn(a:Ak)(l:Int):Int:=C6 a.Tiles.length l
def szAssembly.fv(a:Ak×Int):Int:=(Nn) (a.1) (a.2)
def szAssembly.row:AA:=vK (b2 (qR Ak.d_le) qI) rI (λa=> -1<=a.2/\a.2<=1048576) szAssembly.fv
def szAssembly.q:=AT (R:=szAssembly.row) rfl
def szAssembly.ok:AB Tryz.prog 8 szAssembly.row:=by
 refine vw (tC szPlacedS.ok tN) Tryz.func8 rfl (by kernel_rfl) ?_;intro a z;simp only[Tryz.f8];simp(disch:=omega)only[ZA,simprocAttr,szAssembly.fv,szPlacedS.q,szPlacedS.fv];refine⟨z,?_⟩;simp only[Nn,C6];grind
def eqGlueS.fv(a:(List Ar)×(List Ar)):Bool:=(λa b=>decide (a=b)) (a.1) (a.2)
def eqGlueS.row:AA:=vK (b2 (qS Ar.d_le Ar.c_n) (qS Ar.d_le Ar.c_n)) rB (λa=>True) eqGlueS.fv
def eqGlueS.q:=AT (R:=eqGlueS.row) rfl
def eqGlueS.ok:AB Tryz.prog 113 eqGlueS.row:=by
 refine vw (tC eqGlue.ok tN) Tryz.func113 rfl (by kernel_rfl) ?_;intro a Z;simp only[Tryz.f113];simp(disch:=omega)only[ZA,simprocAttr,eqGlueS.fv];intro h1 h2;simp only[AO];refine⟨λG=> ?_,λG=> ?_⟩
 .have:a.1≠a.2:=λh=>G (by rw[h])
  simp[this]
 have G:a.1.length=a.2.length:=by omega
 refine AP.old ⟨{k:Nat//k<=a.1.length/\a.1.take k=a.2.take k},λk=>⟨[(5,.im (.int .i64 k.1)),(4,.im (.bool false)),(0,.im (.sl false 2 (a.1.map Ar.c))),(1,.im (.sl false 2 (a.2.map Ar.c)))],[],0⟩,λk=>a.1.length - k.1,λk=>⟨by simp[Ai.good,Am,Ac,A8,AV.bel],AQ _⟩,⟨⟨0,by simp⟩,by simp(disch:=omega)only[ZA,simprocAttr,sub]⟩,λk=> ?_⟩;obtain⟨k,Q,z⟩:=k;simp(disch:=omega)only[ZA,simprocAttr,eqGlue.q,eqGlue.fv,sub,AO];intro _;refine⟨λO=>⟨O,λx hx=>⟨by omega,λy hy=> ?_⟩⟩,λO=> ?_⟩
 .obtain⟨g1,g2⟩:=eC G Q z hx hy;exact⟨λh=>by simp[g2 (show x≠y from h)],λh=>Gi O h1 ⟨by omega,g1 (show x=y from FX.1 h)⟩⟩
 .rw[DQ (by omega),DQ (by omega)] at z;simp[z]
def Xl(a b:Tile):decide (a=b)=(decide (a.Name=b.Name) && decide (a.Sides=b.Sides)):=by
 obtain⟨x,y⟩:=a;obtain⟨z,w⟩:=b;simp[Tile.mk.injEq]
def eqTile.fv(a:Tile×Tile):Bool:=(λa b=>decide (a=b)) (a.1) (a.2)
def eqTile.row:AA:=vK (b2 (qR Tile.d_le) (qR Tile.d_le)) rB (λa=>True) eqTile.fv
def eqTile.q:=AT (R:=eqTile.row) rfl
def eqTile.ok:AB Tryz.prog 163 eqTile.row:=by
 refine vw (tC eqInt64S.ok tN) Tryz.func163 rfl (by kernel_rfl) ?_;intro a z;simp only[Tryz.f163];simp(disch:=omega)only[ZA,simprocAttr,eqTile.fv,eqInt64S.q,eqInt64S.fv];rw[Xl]
 grind
def eqTileS.fv(a:(List Tile)×(List Tile)):Bool:=(λa b=>decide (a=b)) (a.1) (a.2)
def eqTileS.row:AA:=vK (b2 (qS Tile.d_le Tile.c_n) (qS Tile.d_le Tile.c_n)) rB (λa=>True) eqTileS.fv
def eqTileS.q:=AT (R:=eqTileS.row) rfl
def eqTileS.ok:AB Tryz.prog 114 eqTileS.row:=by
 refine vw (tC eqTile.ok tN) Tryz.func114 rfl (by kernel_rfl) ?_;intro a Z;simp only[Tryz.f114];simp(disch:=omega)only[ZA,simprocAttr,eqTileS.fv];intro h1 h2;simp only[AO];refine⟨λG=> ?_,λG=> ?_⟩
 .have:a.1≠a.2:=λh=>G (by rw[h])
  simp[this]
 have G:a.1.length=a.2.length:=by omega
 refine AP.old ⟨{k:Nat//k<=a.1.length/\a.1.take k=a.2.take k},λk=>⟨[(5,.im (.int .i64 k.1)),(4,.im (.bool false)),(0,.im (.sl false 2 (a.1.map Tile.c))),(1,.im (.sl false 2 (a.2.map Tile.c)))],[],0⟩,λk=>a.1.length - k.1,λk=>⟨by simp[Ai.good,Am,Ac,A8,AV.bel],AQ _⟩,⟨⟨0,by simp⟩,by simp(disch:=omega)only[ZA,simprocAttr,sub]⟩,λk=> ?_⟩;obtain⟨k,Q,z⟩:=k;simp(disch:=omega)only[ZA,simprocAttr,eqTile.q,eqTile.fv,sub,AO];intro _;refine⟨λO=>⟨O,λx hx=>⟨by omega,λy hy=> ?_⟩⟩,λO=> ?_⟩
 .obtain⟨g1,g2⟩:=eC G Q z hx hy;exact⟨λh=>by simp[g2 (show x≠y from h)],λh=>Gi O h1 ⟨by omega,g1 (show x=y from FX.1 h)⟩⟩
 .rw[DQ (by omega),DQ (by omega)] at z;simp[z]
def eqPlacedS.fv(a:(List Al)×(List Al)):Bool:=(λa b=>decide (a=b)) (a.1) (a.2)
def eqPlacedS.row:AA:=vK (b2 (qS Al.d_le Al.c_n) (qS Al.d_le Al.c_n)) rB (λa=>True) eqPlacedS.fv
def eqPlacedS.q:=AT (R:=eqPlacedS.row) rfl
def eqPlacedS.ok:AB Tryz.prog 58 eqPlacedS.row:=by
 refine vw (tC eqPlaced.ok tN) Tryz.func58 rfl (by kernel_rfl) ?_;intro a Z;simp only[Tryz.f58];simp(disch:=omega)only[ZA,simprocAttr,eqPlacedS.fv];intro h1 h2;simp only[AO];refine⟨λG=> ?_,λG=> ?_⟩
 .have:a.1≠a.2:=λh=>G (by rw[h])
  simp[this]
 have G:a.1.length=a.2.length:=by omega
 refine AP.old ⟨{k:Nat//k<=a.1.length/\a.1.take k=a.2.take k},λk=>⟨[(5,.im (.int .i64 k.1)),(4,.im (.bool false)),(0,.im (.sl false 3 (a.1.map Al.c))),(1,.im (.sl false 3 (a.2.map Al.c)))],[],0⟩,λk=>a.1.length - k.1,λk=>⟨by simp[Ai.good,Am,Ac,A8,AV.bel],AQ _⟩,⟨⟨0,by simp⟩,by simp(disch:=omega)only[ZA,simprocAttr,sub]⟩,λk=> ?_⟩;obtain⟨k,Q,z⟩:=k;simp(disch:=omega)only[ZA,simprocAttr,eqPlaced.q,eqPlaced.fv,sub,AO];intro _;refine⟨λO=>⟨O,λx hx=>⟨by omega,λy hy=> ?_⟩⟩,λO=> ?_⟩
 .obtain⟨g1,g2⟩:=eC G Q z hx hy;exact⟨λh=>by simp[g2 (show x≠y from h)],λh=>Gi O h1 ⟨by omega,g1 (show x=y from FX.1 h)⟩⟩
 .rw[DQ (by omega),DQ (by omega)] at z;simp[z]
def eqTileSet.fv(a:AC×AC):Bool:=(λa b=>decide (a=b)) (a.1) (a.2)
def eqTileSet.row:AA:=vK (b2 (qR AC.d_le) (qR AC.d_le)) rB (λa=>True) eqTileSet.fv
def eqTileSet.q:=AT (R:=eqTileSet.row) rfl
def eqTileSet.ok:AB Tryz.prog 59 eqTileSet.row:=by
 refine vw (tC eqGlueS.ok (tC eqTileS.ok tN)) Tryz.func59 rfl (by kernel_rfl) ?_;intro a G;simp only[Tryz.f59];simp(disch:=omega)only[ZA,simprocAttr,eqTileSet.fv,eqGlueS.q,eqGlueS.fv,eqTileS.q,eqTileS.fv];obtain⟨⟨x,y⟩,⟨z,w⟩⟩:=a;simp only[AC.mk.injEq]
 grind
def eqAssembly.fv(a:Ak×Ak):Bool:=(λa b=>decide (a=b)) (a.1) (a.2)
def eqAssembly.row:AA:=vK (b2 (qR Ak.d_le) (qR Ak.d_le)) rB (λa=>True) eqAssembly.fv
def eqAssembly.q:=AT (R:=eqAssembly.row) rfl
def eqAssembly.ok:AB Tryz.prog 17 eqAssembly.row:=by
 refine vw (tC eqPlacedS.ok tN) Tryz.func17 rfl (by kernel_rfl) ?_;intro a G;simp only[Tryz.f17];simp(disch:=omega)only[ZA,simprocAttr,eqAssembly.fv,eqPlacedS.q,eqPlacedS.fv];obtain⟨⟨x⟩,⟨z⟩⟩:=a;simp only[Ak.mk.injEq]
 grind
def toTile.fv(a:Tile):Tile:=(λp=>p) a
def toTile.row:AA:=vK (b1 (qR Tile.d_le)) (rA Tile.d_le) (λa=>a.Sides.length<=1073741824) toTile.fv
def toTile.q:=AT (R:=toTile.row) rfl
def toTile.ok:AB Tryz.prog 144 toTile.row:=by
 refine vw (tC toInt64S.ok tN) Tryz.func144 rfl (by kernel_rfl) ?_;intro a z;simp only[Tryz.f144];simp(disch:=omega)only[ZA,simprocAttr,toTile.fv,toInt64S.q,toInt64S.fv];exact z
def toGlueS.fv(a:(List Ar)):List Ar:=(λp=>p) a
def toGlueS.row:AA:=vK (b1 (qS Ar.d_le Ar.c_n)) (rS Ar.d_le Ar.c_n) (λa=>a.length<=1073741824) toGlueS.fv
def toGlueS.q:=AT (R:=toGlueS.row) rfl
def toGlueS.ok:AB Tryz.prog 95 toGlueS.row:=by
 refine vw (tC toGlue.ok tN) Tryz.func95 rfl (by kernel_rfl) ?_;intro a z;simp only[Tryz.f95];simp(disch:=omega)only[ZA,simprocAttr,toGlueS.fv];intro Q;have aa:a.length<=1073741824:=z;refine⟨by omega,?_⟩;refine AP.old ⟨{k:Nat//k<=a.length},λk=>⟨[(4,.im (.int .i64 k.1)),(3,.own 1),(0,.im (.sl false 2 (a.map Ar.c)))],[(1,(true,.arr 204 2 ((a.take k.1).map Ar.c++List.replicate (a.length - k.1) [.str ByteArray.empty,.int .i64 0])))],2⟩,λk=>a.length - k.1,λk=>⟨by simp[Ai.good,Am,Ac,A8,AV.bel],AQ _⟩,⟨⟨0,by omega⟩,by simp(disch:=omega)only[ZA,simprocAttr,sub];simp⟩,λk=> ?_⟩;obtain⟨k,O⟩:=k;simp(disch:=omega)only[ZA,simprocAttr,toGlue.q,toGlue.fv,AO,fA _ _ a k O];intro _;refine⟨λG=> ?_,λG=> ?_⟩
 .refine⟨G,λx Z=>⟨G,G,J0 (eW Ar.c _ a k x Z) ?_⟩⟩;simp(disch:=omega)only[ZA,simprocAttr,sub];refine⟨⟨k+1,by omega⟩,by simp only;omega,?_,?_⟩
  .rw[AG (by omega) (by omega)];simp only;omega
  .exact fE Ar.c _ a k x Z
 .rw[fB Ar.c _ a k (by omega)];simp[Ar.d_R]
def toPlacedS.fv(a:(List Al)):List Al:=(λp=>p) a
def toPlacedS.row:AA:=vK (b1 (qS Al.d_le Al.c_n)) (rS Al.d_le Al.c_n) (λa=>a.length<=1073741824) toPlacedS.fv
def toPlacedS.q:=AT (R:=toPlacedS.row) rfl
def toPlacedS.ok:AB Tryz.prog 49 toPlacedS.row:=by
 refine vw (tC toPlaced.ok tN) Tryz.func49 rfl (by kernel_rfl) ?_;intro a z;simp only[Tryz.f49];simp(disch:=omega)only[ZA,simprocAttr,toPlacedS.fv];intro Q;have aa:a.length<=1073741824:=z;refine⟨by omega,?_⟩;refine AP.old ⟨{k:Nat//k<=a.length},λk=>⟨[(4,.im (.int .i64 k.1)),(3,.own 1),(0,.im (.sl false 3 (a.map Al.c)))],[(1,(true,.arr 137 3 ((a.take k.1).map Al.c++List.replicate (a.length - k.1) [.int .i64 0,.int .i64 0,.int .i64 0])))],2⟩,λk=>a.length - k.1,λk=>⟨by simp[Ai.good,Am,Ac,A8,AV.bel],AQ _⟩,⟨⟨0,by omega⟩,by simp(disch:=omega)only[ZA,simprocAttr,sub];simp⟩,λk=> ?_⟩;obtain⟨k,O⟩:=k;simp(disch:=omega)only[ZA,simprocAttr,toPlaced.q,toPlaced.fv,AO,fA _ _ a k O];intro _;refine⟨λG=> ?_,λG=> ?_⟩
 .refine⟨G,λx Z=>⟨G,G,J0 (eW Al.c _ a k x Z) ?_⟩⟩;simp(disch:=omega)only[ZA,simprocAttr,sub];refine⟨⟨k+1,by omega⟩,by simp only;omega,?_,?_⟩
  .rw[AG (by omega) (by omega)];simp only;omega
  .exact fE Al.c _ a k x Z
 .rw[fB Al.c _ a k (by omega)];simp[Al.d_R]
def toTileS.fv(a:(List Tile)):List Tile:=(λp=>p) a
def toTileS.row:AA:=vK (b1 (qS Tile.d_le Tile.c_n)) (rS Tile.d_le Tile.c_n) (λa=>a.length<=1073741824/\ ∀x∈a,x.Sides.length<=1073741824) toTileS.fv
def toTileS.q:=AT (R:=toTileS.row) rfl
def toTileS.ok:AB Tryz.prog 96 toTileS.row:=by
 refine vw (tC toTile.ok tN) Tryz.func96 rfl (by kernel_rfl) ?_;intro a z;simp only[Tryz.f96];simp(disch:=omega)only[ZA,simprocAttr,toTileS.fv];intro Z;have aa:a.length<=1073741824:=z.1;refine⟨by omega,?_⟩;refine AP.old ⟨{k:Nat//k<=a.length},λk=>⟨[(4,.im (.int .i64 k.1)),(3,.own 1),(0,.im (.sl false 2 (a.map Tile.c)))],[(1,(true,.arr 206 2 ((a.take k.1).map Tile.c++List.replicate (a.length - k.1) [.str ByteArray.empty,.sl true 0 []])))],2⟩,λk=>a.length - k.1,λk=>⟨by simp[Ai.good,Am,Ac,A8,AV.bel],AQ _⟩,⟨⟨0,by omega⟩,by simp(disch:=omega)only[ZA,simprocAttr,sub];simp⟩,λk=> ?_⟩;obtain⟨k,O⟩:=k;simp(disch:=omega)only[ZA,simprocAttr,toTile.q,toTile.fv,AO,fA _ _ a k O];intro _;refine⟨λG=> ?_,λG=> ?_⟩
 .refine⟨G,λx Q=>⟨z.2 x (AZ Q),G,G,J0 (eW Tile.c _ a k x Q) ?_⟩⟩;simp(disch:=omega)only[ZA,simprocAttr,sub];refine⟨⟨k+1,by omega⟩,by simp only;omega,?_,?_⟩
  .rw[AG (by omega) (by omega)];simp only;omega
  .exact fE Tile.c _ a k x Q
 .rw[fB Tile.c _ a k (by omega)];simp[Tile.d_R]
def UN(s:AC):Prop:=s.Glues.length<=1073741824/\s.Tiles.length<=1073741824/\ ∀x∈s.Tiles,x.Sides.length<=1073741824
def toTileSet.fv(a:AC):AC:=(λp=>p) a
def toTileSet.row:AA:=vK (b1 (qR AC.d_le)) (rA AC.d_le) (λa=>UN a) toTileSet.fv
def toTileSet.q:=AT (R:=toTileSet.row) rfl
def toTileSet.ok:AB Tryz.prog 48 toTileSet.row:=by
 refine vw (tC toGlueS.ok (tC toTileS.ok tN)) Tryz.func48 rfl (by kernel_rfl) ?_;intro a z;simp only[Tryz.f48];simp(disch:=omega)only[ZA,simprocAttr,toTileSet.fv,toGlueS.q,toGlueS.fv,toTileS.q,toTileS.fv];exact z
def toAssembly.fv(a:Ak):Ak:=(λp=>p) a
def toAssembly.row:AA:=vK (b1 (qR Ak.d_le)) (rA Ak.d_le) (λa=>a.Tiles.length<=1073741824) toAssembly.fv
def toAssembly.q:=AT (R:=toAssembly.row) rfl
def toAssembly.ok:AB Tryz.prog 12 toAssembly.row:=by
 refine vw (tC toPlacedS.ok tN) Tryz.func12 rfl (by kernel_rfl) ?_;intro a z;simp only[Tryz.f12];simp(disch:=omega)only[ZA,simprocAttr,Ak.d,toAssembly.fv,toPlacedS.q,toPlacedS.fv];exact z
def bN(s:Ax):Prop:=UN s.Set/\s.Seed.Tiles.length<=1073741824
def toSystem.fv(a:Ax):Ax:=(λp=>p) a
def toSystem.row:AA:=vK (b1 (qR Ax.d_le)) (rA Ax.d_le) (λa=>bN a) toSystem.fv
def toSystem.ok:AB Tryz.prog 11 toSystem.row:=by
 refine vw (tC toTileSet.ok (tC toAssembly.ok tN)) Tryz.func11 rfl (by kernel_rfl) ?_;intro a z;simp only[Tryz.f11];simp(disch:=omega)only[ZA,simprocAttr,Ak.d,toSystem.fv,toTileSet.q,toTileSet.fv,toAssembly.q,toAssembly.fv];exact z
def Qe(g:Ar)(l:Int):Int:=C6 g.Name.size l
def szGlue.fv(a:Ar×Int):Int:=(Qe) (a.1) (a.2)
def szGlue.row:AA:=vK (b2 (qR Ar.d_le) qI) rI (λa=> -1<=a.2/\a.2<=1048576/\a.1.Name.size<=140737488355328) szGlue.fv
def szGlue.q:=AT (R:=szGlue.row) rfl
def szGlue.ok:AB Tryz.prog 138 szGlue.row:=by
 refine vw tN Tryz.func138 rfl (by kernel_rfl) ?_;intro a z;simp only[Tryz.f138];simp(disch:=omega)only[ZA,simprocAttr,szGlue.fv];rw[AG (by omega) (by omega)];simp only[Qe,C6]
 grind
def F2(g:Tile)(l:Int):Int:=if C6 g.Name.size l<0 then -1 else C6 g.Sides.length (C6 g.Name.size l)
def szTile.fv(a:Tile×Int):Int:=(F2) (a.1) (a.2)
def szTile.row:AA:=vK (b2 (qR Tile.d_le) qI) rI (λa=> -1<=a.2/\a.2<=1048576/\a.1.Name.size<=140737488355328) szTile.fv
def szTile.q:=AT (R:=szTile.row) rfl
def szTile.ok:AB Tryz.prog 139 szTile.row:=by
 refine vw (tC szInt64S.ok tN) Tryz.func139 rfl (by kernel_rfl) ?_;intro a z;simp only[Tryz.f139];simp(disch:=omega)only[ZA,simprocAttr,szTile.fv,szInt64S.q,szInt64S.fv];rw[AG (by omega) (by omega)];simp only[F2,C6]
 grind
def Gj{A:Type}(f:A->Int->Int):List A->Int->Int
 |[],l=>l
 |x::r,l=>if f x l<0 then -1 else Gj f r (f x l)
def Hr(a:List Ar)(l:Int):Int:=if C6 a.length l<0 then -1 else Gj Qe a (C6 a.length l)
def szGlueS.fv(a:(List Ar)×Int):Int:=(Hr) (a.1) (a.2)
def szGlueS.row:AA:=vK (b2 (qS Ar.d_le Ar.c_n) qI) rI (λa=> -1<=a.2/\a.2<=1048576/\ ∀x∈a.1,x.Name.size<=140737488355328) szGlueS.fv
def szGlueS.q:=AT (R:=szGlueS.row) rfl
def szGlueS.ok:AB Tryz.prog 84 szGlueS.row:=by
 refine vw (tC szGlue.ok tN) Tryz.func84 rfl (by kernel_rfl) ?_;intro a G;simp only[Tryz.f84];simp(disch:=omega)only[ZA,simprocAttr,szGlueS.fv];intro hn;rw[AG (by omega) (by omega)];obtain⟨af,ag,ac⟩:=G;simp only[AO];refine⟨λhl=> ?_,λhl=> ?_⟩
 .simp only[Hr,C6];grind
 have h0:C6 a.1.length a.2=a.2 - a.1.length:=by simp only[C6];rw[Af hl]
 refine AP.old ⟨{p:Nat×Int//p.1<=a.1.length/\0<=p.2/\p.2<=1048576/\Gj Qe (a.1.drop p.1) p.2=Gj Qe a.1 (a.2 - a.1.length)},λp=>⟨[(5,.im (.int .i64 p.1.1)),(1,.im (.int .i64 p.1.2)),(4,.im (.int .i64 0)),(0,.im (.sl false 2 (a.1.map Ar.c)))],[],0⟩,λp=>a.1.length - p.1.1,λp=>⟨by simp[Ai.good,Am,Ac,A8,AV.bel],AQ _⟩,⟨⟨(0,a.2 - a.1.length),by simp,by simp only;omega,by simp only;omega,by simp⟩,by simp(disch:=omega)only[ZA,simprocAttr,sub]⟩,λp=> ?_⟩;obtain⟨⟨k,l⟩,Z,aa,ab,z⟩:=p;simp only at Z aa ab z;simp(disch:=omega)only[ZA,simprocAttr,szGlue.q,szGlue.fv,sub,AO];intro _;refine⟨λO=>⟨O,λx hx=>⟨⟨by omega,by omega,ac x (AZ hx)⟩,?_⟩⟩,λO=> ?_⟩
 .have hd:a.1.drop k=x::a.1.drop (k+1):=by
   rw[VK O];rw[Bk O] at hx;rw[AD hx]
  rw[hd,Gj] at z;have ad:Qe x l<=l:=by simp only[Qe,C6];grind
  have Q: ¬Qe ⟨x.Name,x.Strength⟩ l<0-> ¬Qe x l<0:=λh=>h
  refine⟨λhb=> ?_,λhb=>⟨⟨(k+1,Qe x l),by simp only;omega,by simp only;have:=Q hb;omega,by simp only;omega,?_⟩,by simp only;omega,?_,?_⟩⟩
  .rw[An hb] at z;simp only[Hr,h0]
   grind
  .rw[Af hb] at z;exact z
  .rw[AG (by omega) (by omega)];simp only;omega
  .rfl
 .rw[Dr (by omega),Gj] at z;simp only[Hr,h0]
  grind
def Ll(a:List Tile)(l:Int):Int:=if C6 a.length l<0 then -1 else Gj F2 a (C6 a.length l)
def szTileS.fv(a:(List Tile)×Int):Int:=(Ll) (a.1) (a.2)
def szTileS.row:AA:=vK (b2 (qS Tile.d_le Tile.c_n) qI) rI (λa=> -1<=a.2/\a.2<=1048576/\ ∀x∈a.1,x.Name.size<=140737488355328) szTileS.fv
def szTileS.q:=AT (R:=szTileS.row) rfl
def szTileS.ok:AB Tryz.prog 85 szTileS.row:=by
 refine vw (tC szTile.ok tN) Tryz.func85 rfl (by kernel_rfl) ?_;intro a G;simp only[Tryz.f85];simp(disch:=omega)only[ZA,simprocAttr,szTileS.fv];intro hn;rw[AG (by omega) (by omega)];obtain⟨af,ag,ac⟩:=G;simp only[AO];refine⟨λhl=> ?_,λhl=> ?_⟩
 .simp only[Ll,C6];grind
 have h0:C6 a.1.length a.2=a.2 - a.1.length:=by simp only[C6];rw[Af hl]
 refine AP.old ⟨{p:Nat×Int//p.1<=a.1.length/\0<=p.2/\p.2<=1048576/\Gj F2 (a.1.drop p.1) p.2=Gj F2 a.1 (a.2 - a.1.length)},λp=>⟨[(5,.im (.int .i64 p.1.1)),(1,.im (.int .i64 p.1.2)),(4,.im (.int .i64 0)),(0,.im (.sl false 2 (a.1.map Tile.c)))],[],0⟩,λp=>a.1.length - p.1.1,λp=>⟨by simp[Ai.good,Am,Ac,A8,AV.bel],AQ _⟩,⟨⟨(0,a.2 - a.1.length),by simp,by simp only;omega,by simp only;omega,by simp⟩,by simp(disch:=omega)only[ZA,simprocAttr,sub]⟩,λp=> ?_⟩;obtain⟨⟨k,l⟩,Z,aa,ab,z⟩:=p;simp only at Z aa ab z;simp(disch:=omega)only[ZA,simprocAttr,szTile.q,szTile.fv,sub,AO];intro _;refine⟨λO=>⟨O,λx hx=>⟨⟨by omega,by omega,ac x (AZ hx)⟩,?_⟩⟩,λO=> ?_⟩
 .have hd:a.1.drop k=x::a.1.drop (k+1):=by
   rw[VK O];rw[Bk O] at hx;rw[AD hx]
  rw[hd,Gj] at z;have ad:F2 x l<=l:=by simp only[F2,C6];grind
  have Q: ¬F2 ⟨x.Name,x.Sides⟩ l<0-> ¬F2 x l<0:=λh=>h
  refine⟨λhb=> ?_,λhb=>⟨⟨(k+1,F2 x l),by simp only;omega,by simp only;have:=Q hb;omega,by simp only;omega,?_⟩,by simp only;omega,?_,?_⟩⟩
  .rw[An hb] at z;simp only[Ll,h0]
   grind
  .rw[Af hb] at z;exact z
  .rw[AG (by omega) (by omega)];simp only;omega
  .rfl
 .rw[Dr (by omega),Gj] at z;simp only[Ll,h0]
  grind
def OX(s:AC):Prop:=(∀x∈s.Glues,x.Name.size<=140737488355328)/\ ∀x∈s.Tiles,x.Name.size<=140737488355328
def Qre{A:Type}{f:A->Int->Int}(hf: ∀x l,0<=l->f x l<=l)(a:List A): ∀(l:Int),0<=l->Gj f a l<=l/\ -1<=Gj f a l:=by
 induction a with
 |nil=>intro l z;simp[Gj];omega
 |cons x r ih=>
  intro l z;simp only[Gj];split
  .omega
  .have:=hf x l z
   have:=ih (f x l) (by omega)
   omega
def Qo1(a:List Ar)(l:Int)(O: -1<=l): -1<=Hr a l/\Hr a l<=max l (-1):=by
 simp only[Hr];split
 .omega
 .rename_i h;have z:=Qre (f:=Qe) (λx l h=>by simp only[Qe,C6];grind) a (C6 a.length l) (by omega);have G:C6 a.length l<=max l (-1):=by simp only[C6];grind
  omega
def Qv0(a:List Tile)(l:Int)(O: -1<=l): -1<=Ll a l/\Ll a l<=max l (-1):=by
 simp only[Ll];split
 .omega
 .rename_i h;have z:=Qre (f:=F2) (λx l h=>by simp only[F2,C6];grind) a (C6 a.length l) (by omega);have G:C6 a.length l<=max l (-1):=by simp only[C6];grind
  omega
def Rj(s:AC)(l:Int):Int:=if Hr s.Glues l<0 then -1 else Ll s.Tiles (Hr s.Glues l)
def Qxk(s:AC)(l:Int)(G: -1<=l): -1<=Rj s l/\Rj s l<=max l (-1):=by
 have z:=Qo1 s.Glues l G;have O:=Qv0 s.Tiles (Hr s.Glues l) z.1;simp only[Rj]
 split<;>omega
def szTileSet.fv(a:AC×Int):Int:=(Rj) (a.1) (a.2)
def szTileSet.row:AA:=vK (b2 (qR AC.d_le) qI) rI (λa=> -1<=a.2/\a.2<=1048576/\OX a.1) szTileSet.fv
def szTileSet.q:=AT (R:=szTileSet.row) rfl
def szTileSet.ok:AB Tryz.prog 41 szTileSet.row:=by
 refine vw (tC szGlueS.ok (tC szTileS.ok tN)) Tryz.func41 rfl (by kernel_rfl) ?_;intro a z;simp only[Tryz.f41];simp(disch:=omega)only[ZA,simprocAttr,szTileSet.fv,szGlueS.q,szGlueS.fv,szTileS.q,szTileS.fv];obtain⟨G,O,Q,Z⟩:=z;have hb:=Qo1 a.1.Glues a.2 G;refine⟨⟨G,O,Q⟩,?_⟩;simp only[Rj];split
 .rfl
 .refine⟨⟨hb.1,by omega,Z⟩,?_⟩;have hc:=Qv0 a.1.Tiles _ hb.1
  split<;>omega
def yD(n:Nat)(l:Int)(z: -1<=l): -1<=C6 n l/\C6 n l<=max l (-1):=by
 simp only[C6];split<;>omega
def lS(s:Ax)(l:Int):Int:=if Rj s.Set l<0 then -1 else Nn s.Seed (Rj s.Set l)
def szSystem.fv(a:Ax×Int):Int:=(lS) (a.1) (a.2)
def szSystem.row:AA:=vK (b2 (qR Ax.d_le) qI) rI (λa=> -1<=a.2/\a.2<=1048576/\OX a.1.Set) szSystem.fv
def szSystem.q:=AT (R:=szSystem.row) rfl
def szSystem.ok:AB Tryz.prog 7 szSystem.row:=by
 refine vw (tC szTileSet.ok (tC szAssembly.ok tN)) Tryz.func7 rfl (by kernel_rfl) ?_;intro a z;simp only[Tryz.f7];simp(disch:=omega)only[ZA,simprocAttr,Ak.d,szSystem.fv,szTileSet.q,szTileSet.fv,szAssembly.q,szAssembly.fv];obtain⟨G,O,Q⟩:=z;have hb:=Qxk a.1.Set a.2 G;refine⟨⟨G,O,Q⟩,?_⟩;simp only[lS];split
 .rfl
 .refine⟨⟨hb.1,by omega⟩,?_⟩;have hc:=yD a.1.Seed.Tiles.length _ hb.1;simp only[Nn] at hc⊢
  grind
end Go.Ae
