/- Lemmas. Conditions: none. -/
import Derived.Test.YtogafbdeamcpnaaGreatDoorP06
import Derived.Test.YtogafbdeamcpnaaGreatDoorProg
set_option linter.all false
set_option maxHeartbeats 8000000
set_option maxRecDepth 100000
namespace Go.Ae
open Go.Proofs
def TY0:
 (tI Tryz.prog 2=some {size:=1,bytes:=8,agg:=false,kind:= .int .i64,zero:=[.int .i64 0]})/\
 (tI Tryz.prog 3=some {size:=1,bytes:=8,agg:=false,kind:= .int .i64,zero:=[.int .i64 0]})/\
 (tI Tryz.prog 4=some {size:=1,bytes:=1,agg:=false,kind:= .bool,zero:=[.bool false]})/\
 (tI Tryz.prog 5=some {size:=1,bytes:=1,agg:=false,kind:= .int .u8,zero:=[.int .u8 0]})/\
 (tI Tryz.prog 9=some {size:=1,bytes:=16,agg:=false,kind:= .str,zero:=[.str ByteArray.empty]})/\
 (tI Tryz.prog 12=some {size:=1,bytes:=8,agg:=false,kind:= .int .u64,zero:=[.int .u64 0]})/\
 (tI Tryz.prog 17=some {size:=1,bytes:=8,agg:=false,kind:= .ptr 407,zero:=[.nilp]})/\
 (tI Tryz.prog 20=some {size:=1,bytes:=16,agg:=false,kind:= .other,zero:=[.nili]})/\
 (tI Tryz.prog 22=some {size:=1,bytes:=24,agg:=false,kind:= .slice 198,zero:=[.sl true 0 []]})/\
 (tI Tryz.prog 23=some {size:=1,bytes:=24,agg:=false,kind:= .slice 201,zero:=[.sl true 0 []]})/\
 (tI Tryz.prog 25=some {size:=2,bytes:=48,agg:=true,kind:= .struct [(0,1),(1,1)],zero:=[.sl true 0 [],.sl true 0 []]})/\
 (tI Tryz.prog 26=some {size:=1,bytes:=24,agg:=false,kind:= .slice 147,zero:=[.sl true 0 []]})/\
 (tI Tryz.prog 28=some {size:=1,bytes:=24,agg:=true,kind:= .struct [(0,1)],zero:=[.sl true 0 []]})/\
 (tI Tryz.prog 30=some {size:=4,bytes:=80,agg:=true,kind:= .struct [(0,2),(2,1),(3,1)],zero:=[.sl true 0 [],.sl true 0 [],.sl true 0 [],.int .i64 0]})/\
 (tI Tryz.prog 31=some {size:=1,bytes:=24,agg:=false,kind:= .slice 98,zero:=[.sl true 0 []]})/\
 (tI Tryz.prog 32=some {size:=1,bytes:=24,agg:=false,kind:= .slice 2,zero:=[.sl true 0 []]})/\
 (tI Tryz.prog 36=some {size:=1,bytes:=24,agg:=false,kind:= .slice 108,zero:=[.sl true 0 []]})/\
 (tI Tryz.prog 37=some {size:=1,bytes:=24,agg:=false,kind:= .slice 137,zero:=[.sl true 0 []]})/\
 (tI Tryz.prog 39=some {size:=1,bytes:=24,agg:=true,kind:= .struct [(0,1)],zero:=[.sl true 0 []]})/\
 (tI Tryz.prog 42=some {size:=1,bytes:=24,agg:=false,kind:= .slice 204,zero:=[.sl true 0 []]}):=by and_intros<;>kernel_rfl
def TY1:
 (tI Tryz.prog 43=some {size:=1,bytes:=24,agg:=false,kind:= .slice 206,zero:=[.sl true 0 []]})/\
 (tI Tryz.prog 45=some {size:=2,bytes:=48,agg:=true,kind:= .struct [(0,1),(1,1)],zero:=[.sl true 0 [],.sl true 0 []]})/\
 (tI Tryz.prog 47=some {size:=4,bytes:=80,agg:=true,kind:= .struct [(0,2),(2,1),(3,1)],zero:=[.sl true 0 [],.sl true 0 [],.sl true 0 [],.int .i64 0]})/\
 (tI Tryz.prog 50=some {size:=1,bytes:=24,agg:=false,kind:= .slice 96,zero:=[.sl true 0 []]})/\
 (tI Tryz.prog 67=some {size:=10,bytes:=192,agg:=true,kind:= .struct [(0,4),(4,4),(8,1),(9,1)],zero:=[.sl true 0 [],.sl true 0 [],.sl true 0 [],.int .i64 0,.sl true 0 [],.sl true 0 [],.sl true 0 [],.int .i64 0,.int .i64 0,.sl true 0 []]})/\
 (tI Tryz.prog 71=some {size:=10,bytes:=192,agg:=true,kind:= .struct [(0,4),(4,4),(8,1),(9,1)],zero:=[.sl true 0 [],.sl true 0 [],.sl true 0 [],.int .i64 0,.sl true 0 [],.sl true 0 [],.sl true 0 [],.int .i64 0,.int .i64 0,.sl true 0 []]})/\
 (tI Tryz.prog 76=some {size:=1,bytes:=24,agg:=false,kind:= .slice 32,zero:=[.sl true 0 []]})/\
 (tI Tryz.prog 78=some {size:=5,bytes:=104,agg:=true,kind:= .struct [(0,1),(1,1),(2,1),(3,1),(4,1)],zero:=[.int .i64 0,.sl true 0 [],.sl true 0 [],.sl true 0 [],.sl true 0 []]})/\
 (tI Tryz.prog 86=some {size:=1,bytes:=8,agg:=false,kind:= .ptr 47,zero:=[.nilp]})/\
 (tI Tryz.prog 87=some {size:=1,bytes:=8,agg:=false,kind:= .ptr 39,zero:=[.nilp]})/\
 (tI Tryz.prog 96=some {size:=2,bytes:=16,agg:=true,kind:= .struct [(0,1),(1,1)],zero:=[.int .i64 0,.int .i64 0]})/\
 (tI Tryz.prog 98=some {size:=2,bytes:=16,agg:=true,kind:= .struct [(0,1),(1,1)],zero:=[.int .i64 0,.int .i64 0]})/\
 (tI Tryz.prog 100=some {size:=1,bytes:=8,agg:=false,kind:= .ptr 155,zero:=[.nilp]})/\
 (tI Tryz.prog 108=some {size:=3,bytes:=24,agg:=true,kind:= .struct [(0,2),(2,1)],zero:=[.int .i64 0,.int .i64 0,.int .i64 0]})/\
 (tI Tryz.prog 118=some {size:=1,bytes:=8,agg:=false,kind:= .ptr 71,zero:=[.nilp]})/\
 (tI Tryz.prog 137=some {size:=3,bytes:=24,agg:=true,kind:= .struct [(0,2),(2,1)],zero:=[.int .i64 0,.int .i64 0,.int .i64 0]})/\
 (tI Tryz.prog 147=some {size:=3,bytes:=24,agg:=true,kind:= .struct [(0,2),(2,1)],zero:=[.int .i64 0,.int .i64 0,.int .i64 0]})/\
 (tI Tryz.prog 151=some {size:=1,bytes:=8,agg:=false,kind:= .other,zero:=[.nilf]})/\
 (tI Tryz.prog 152=some {size:=1,bytes:=8,agg:=false,kind:= .map 96 2,zero:=[.nilm]})/\
 (tI Tryz.prog 153=some {size:=1,bytes:=8,agg:=false,kind:= .map 96 32,zero:=[.nilm]}):=by and_intros<;>kernel_rfl
def TY2:
 (tI Tryz.prog 155=some {size:=6,bytes:=96,agg:=true,kind:= .struct [(0,4),(4,1),(5,1)],zero:=[.sl true 0 [],.sl true 0 [],.sl true 0 [],.int .i64 0,.nilm,.nilm]})/\
 (tI Tryz.prog 160=some {size:=1,bytes:=8,agg:=false,kind:= .other,zero:=[.nilf]})/\
 (tI Tryz.prog 161=some {size:=1,bytes:=8,agg:=false,kind:= .other,zero:=[.nilf]})/\
 (tI Tryz.prog 164=some {size:=1,bytes:=16,agg:=false,kind:= .other,zero:=[.nili]})/\
 (tI Tryz.prog 181=some {size:=1,bytes:=8,agg:=false,kind:= .ptr 45,zero:=[.nilp]})/\
 (tI Tryz.prog 191=some {size:=1,bytes:=8,agg:=false,kind:= .other,zero:=[.nilf]})/\
 (tI Tryz.prog 198=some {size:=2,bytes:=24,agg:=true,kind:= .struct [(0,1),(1,1)],zero:=[.str ByteArray.empty,.int .i64 0]})/\
 (tI Tryz.prog 201=some {size:=2,bytes:=40,agg:=true,kind:= .struct [(0,1),(1,1)],zero:=[.str ByteArray.empty,.sl true 0 []]})/\
 (tI Tryz.prog 204=some {size:=2,bytes:=24,agg:=true,kind:= .struct [(0,1),(1,1)],zero:=[.str ByteArray.empty,.int .i64 0]})/\
 (tI Tryz.prog 206=some {size:=2,bytes:=40,agg:=true,kind:= .struct [(0,1),(1,1)],zero:=[.str ByteArray.empty,.sl true 0 []]})/\
 (tI Tryz.prog 216=some {size:=1,bytes:=16,agg:=false,kind:= .other,zero:=[.nili]})/\
 (tI Tryz.prog 220=some {size:=1,bytes:=8,agg:=false,kind:= .other,zero:=[.nilf]})/\
 (tI Tryz.prog 221=some {size:=1,bytes:=8,agg:=false,kind:= .other,zero:=[.nilf]})/\
 (tI Tryz.prog 234=some {size:=1,bytes:=8,agg:=false,kind:= .ptr 291,zero:=[.nilp]})/\
 (tI Tryz.prog 238=some {size:=1,bytes:=16,agg:=false,kind:= .other,zero:=[.nili]})/\
 (tI Tryz.prog 247=some {size:=1,bytes:=8,agg:=false,kind:= .int .u64,zero:=[.int .u64 0]})/\
 (tI Tryz.prog 249=some {size:=1,bytes:=8,agg:=false,kind:= .other,zero:=[.nilf]})/\
 (tI Tryz.prog 257=some {size:=8,bytes:=64,agg:=true,kind:= .array 4 96,zero:=[.int .i64 0,.int .i64 0,.int .i64 0,.int .i64 0,.int .i64 0,.int .i64 0,.int .i64 0,.int .i64 0]})/\
 (tI Tryz.prog 261=some {size:=1,bytes:=8,agg:=false,kind:= .other,zero:=[.nilf]})/\
 (tI Tryz.prog 266=some {size:=1,bytes:=16,agg:=false,kind:= .other,zero:=[.nili]}):=by and_intros<;>kernel_rfl
def TY3:
 (tI Tryz.prog 269=some {size:=1,bytes:=16,agg:=false,kind:= .other,zero:=[.nili]})/\
 (tI Tryz.prog 271=some {size:=1,bytes:=16,agg:=false,kind:= .other,zero:=[.nili]})/\
 (tI Tryz.prog 272=some {size:=1,bytes:=24,agg:=false,kind:= .slice 164,zero:=[.sl true 0 []]})/\
 (tI Tryz.prog 278=some {size:=1,bytes:=24,agg:=false,kind:= .slice 5,zero:=[.sl true 0 []]})/\
 (tI Tryz.prog 281=some {size:=1,bytes:=24,agg:=false,kind:= .slice 318,zero:=[.sl true 0 []]})/\
 (tI Tryz.prog 291=some {size:=8,bytes:=176,agg:=true,kind:= .struct [(0,4),(4,1),(5,1),(6,1),(7,1)],zero:=[.sl true 0 [],.sl true 0 [],.sl true 0 [],.int .i64 0,.sl true 0 [],.sl true 0 [],.sl true 0 [],.sl true 0 []]})/\
 (tI Tryz.prog 294=some {size:=3,bytes:=24,agg:=true,kind:= .struct [(0,3)],zero:=[.int .i64 0,.int .i64 0,.int .i64 0]})/\
 (tI Tryz.prog 296=some {size:=3,bytes:=24,agg:=true,kind:= .struct [(0,3)],zero:=[.int .i64 0,.int .i64 0,.int .i64 0]})/\
 (tI Tryz.prog 297=some {size:=3,bytes:=24,agg:=true,kind:= .struct [(0,3)],zero:=[.int .i64 0,.int .i64 0,.int .i64 0]})/\
 (tI Tryz.prog 305=some {size:=1,bytes:=8,agg:=false,kind:= .int .i64,zero:=[.int .i64 0]})/\
 (tI Tryz.prog 312=some {size:=1,bytes:=4,agg:=false,kind:= .int .u32,zero:=[.int .u32 0]})/\
 (tI Tryz.prog 314=some {size:=1,bytes:=8,agg:=false,kind:= .int .u64,zero:=[.int .u64 0]})/\
 (tI Tryz.prog 315=some {size:=1,bytes:=24,agg:=false,kind:= .slice 3,zero:=[.sl true 0 []]})/\
 (tI Tryz.prog 318=some {size:=3,bytes:=24,agg:=true,kind:= .struct [(0,1),(1,1),(2,1)],zero:=[.int .i64 0,.int .i64 0,.int .i64 0]})/\
 (tI Tryz.prog 321=some {size:=1,bytes:=8,agg:=false,kind:= .ptr 344,zero:=[.nilp]})/\
 (tI Tryz.prog 333=some {size:=1,bytes:=8,agg:=false,kind:= .map 9 4,zero:=[.nilm]})/\
 (tI Tryz.prog 336=some {size:=1,bytes:=8,agg:=false,kind:= .int .u64,zero:=[.int .u64 0]})/\
 (tI Tryz.prog 340=some {size:=1,bytes:=8,agg:=false,kind:= .ptr 3,zero:=[.nilp]})/\
 (tI Tryz.prog 344=some {size:=4,bytes:=80,agg:=true,kind:= .struct [(0,1),(1,1),(2,1),(3,1)],zero:=[.int .i64 0,.sl true 0 [],.sl true 0 [],.sl true 0 []]})/\
 (tI Tryz.prog 348=some {size:=1,bytes:=8,agg:=false,kind:= .other,zero:=[.nilf]}):=by and_intros<;>kernel_rfl
def TY4:
 (tI Tryz.prog 350=some {size:=1,bytes:=8,agg:=false,kind:= .other,zero:=[.nilf]})/\
 (tI Tryz.prog 352=some {size:=2,bytes:=16,agg:=true,kind:= .array 2 2,zero:=[.int .i64 0,.int .i64 0]})/\
 (tI Tryz.prog 353=some {size:=1,bytes:=8,agg:=false,kind:= .ptr 375,zero:=[.nilp]})/\
 (tI Tryz.prog 366=some {size:=1,bytes:=24,agg:=false,kind:= .slice 367,zero:=[.sl true 0 []]})/\
 (tI Tryz.prog 367=some {size:=1,bytes:=8,agg:=false,kind:= .ptr 369,zero:=[.nilp]})/\
 (tI Tryz.prog 369=some {size:=2,bytes:=16,agg:=true,kind:= .struct [(0,1),(1,1)],zero:=[.nilp,.int .i64 0]})/\
 (tI Tryz.prog 371=some {size:=1,bytes:=8,agg:=false,kind:= .map 2 3,zero:=[.nilm]})/\
 (tI Tryz.prog 375=some {size:=2,bytes:=48,agg:=true,kind:= .struct [(0,1),(1,1)],zero:=[.sl true 0 [],.sl true 0 []]})/\
 (tI Tryz.prog 378=some {size:=1,bytes:=8,agg:=false,kind:= .other,zero:=[.nilf]})/\
 (tI Tryz.prog 382=some {size:=1,bytes:=8,agg:=false,kind:= .other,zero:=[.nilc]})/\
 (tI Tryz.prog 392=some {size:=1,bytes:=8,agg:=false,kind:= .ptr 419,zero:=[.nilp]})/\
 (tI Tryz.prog 401=some {size:=1,bytes:=1,agg:=false,kind:= .int .u8,zero:=[.int .u8 0]})/\
 (tI Tryz.prog 407=some {size:=11,bytes:=48,agg:=true,kind:= .struct [(0,1),(1,1),(2,1),(3,1),(4,1),(5,1),(6,1),(7,1),(8,1),(9,1),(10,1)],zero:=[.int .u64 0,.int .u64 0,.int .u32 0,.int .u8 0,.int .u8 0,.int .u8 0,.int .u8 0,.nilf,.nilp,.int .i32 0,.int .i32 0]})/\
 (tI Tryz.prog 419=some {size:=1,bytes:=16,agg:=true,kind:= .struct [(0,1)],zero:=[.str ByteArray.empty]})/\
 (tI Tryz.prog 422=some {size:=1,bytes:=16,agg:=false,kind:= .other,zero:=[.nili]})/\
 (tI Tryz.prog 423=some {size:=1,bytes:=8,agg:=false,kind:= .ptr 428,zero:=[.nilp]})/\
 (tI Tryz.prog 428=some {size:=5,bytes:=16,agg:=true,kind:= .struct [(0,1),(1,1),(2,1),(3,1),(4,1)],zero:=[.int .i32 0,.int .u16 0,.int .u16 0,.int .u32 0,.int .u32 0]})/\
 (tI Tryz.prog 429=some {size:=1,bytes:=24,agg:=false,kind:= .slice 432,zero:=[.sl true 0 []]})/\
 (tI Tryz.prog 432=some {size:=4,bytes:=16,agg:=true,kind:= .struct [(0,1),(1,1),(2,1),(3,1)],zero:=[.int .i32 0,.int .i32 0,.int .i32 0,.int .i32 0]}):=by and_intros<;>kernel_rfl
def KY0:
 (Bp Tryz.prog 2=some ⟨false,[.int .i64]⟩)/\
 (Bp Tryz.prog 3=some ⟨false,[.int .i64]⟩)/\
 (Bp Tryz.prog 4=some ⟨false,[.bool]⟩)/\
 (Bp Tryz.prog 5=some ⟨false,[.int .u8]⟩)/\
 (Bp Tryz.prog 9=some ⟨false,[.str]⟩)/\
 (Bp Tryz.prog 12=some ⟨false,[.int .u64]⟩)/\
 (Bp Tryz.prog 96=some ⟨true,[.int .i64,.int .i64]⟩)/\
 (Tryz.prog.eqGuardType Tryz.prog.depth 96=false)/\
 (Bp Tryz.prog 98=some ⟨true,[.int .i64,.int .i64]⟩)/\
 (Tryz.prog.eqGuardType Tryz.prog.depth 98=false)/\
 (Bp Tryz.prog 108=some ⟨true,[.int .i64,.int .i64,.int .i64]⟩)/\
 (Tryz.prog.eqGuardType Tryz.prog.depth 108=false)/\
 (Bp Tryz.prog 137=some ⟨true,[.int .i64,.int .i64,.int .i64]⟩)/\
 (Tryz.prog.eqGuardType Tryz.prog.depth 137=false)/\
 (Bp Tryz.prog 147=some ⟨true,[.int .i64,.int .i64,.int .i64]⟩)/\
 (Tryz.prog.eqGuardType Tryz.prog.depth 147=false)/\
 (Bp Tryz.prog 198=some ⟨true,[.str,.int .i64]⟩)/\
 (Tryz.prog.eqGuardType Tryz.prog.depth 198=false)/\
 (Bp Tryz.prog 204=some ⟨true,[.str,.int .i64]⟩)/\
 (Tryz.prog.eqGuardType Tryz.prog.depth 204=false):=by and_intros<;>kernel_rfl
def KY1:
 (Bp Tryz.prog 247=some ⟨false,[.int .u64]⟩)/\
 (Bp Tryz.prog 294=some ⟨true,[.int .i64,.int .i64,.int .i64]⟩)/\
 (Tryz.prog.eqGuardType Tryz.prog.depth 294=false)/\
 (Bp Tryz.prog 296=some ⟨true,[.int .i64,.int .i64,.int .i64]⟩)/\
 (Tryz.prog.eqGuardType Tryz.prog.depth 296=false)/\
 (Bp Tryz.prog 297=some ⟨true,[.int .i64,.int .i64,.int .i64]⟩)/\
 (Tryz.prog.eqGuardType Tryz.prog.depth 297=false)/\
 (Bp Tryz.prog 305=some ⟨false,[.int .i64]⟩)/\
 (Bp Tryz.prog 312=some ⟨false,[.int .u32]⟩)/\
 (Bp Tryz.prog 314=some ⟨false,[.int .u64]⟩)/\
 (Bp Tryz.prog 318=some ⟨true,[.int .i64,.int .i64,.int .i64]⟩)/\
 (Tryz.prog.eqGuardType Tryz.prog.depth 318=false)/\
 (Bp Tryz.prog 336=some ⟨false,[.int .u64]⟩)/\
 (Bp Tryz.prog 401=some ⟨false,[.int .u8]⟩)/\
 (Bp Tryz.prog 419=some ⟨true,[.str]⟩)/\
 (Tryz.prog.eqGuardType Tryz.prog.depth 419=false):=by and_intros<;>kernel_rfl
def CY0:True/\True:=⟨trivial,trivial⟩
def C9:Tryz.prog.follows .mixedOrders=true:=by kernel_rfl
end Go.Ae
namespace Go.Ae
def kI:PK->Option Int
 | .val (.int .i64 x)=>some x
 |_=>none
def kU:PK->Option Int
 | .val (.int .u64 x)=>some x
 |_=>none
def kY:PK->Option Int
 | .val (.int .u8 x)=>some x
 |_=>none
def kB:PK->Option Bool
 | .val (.bool x)=>some x
 |_=>none
def kT:PK->Option ByteArray
 | .val (.str x)=>some x
 |_=>none
def kR{A:Type}(f:List D->Option A):PK->Option A
 | .val (.agg x)=>f x
 |_=>none
def kP{A:Type}(f:List D->Option A)(n:Nat):PK->Option A
 | .ptr x=>f (x.take n)
 |_=>none
def kS{A:Type}(f:List D->Option A):PK->Option (List A)
 | .val (.sl _ _ x)=>AO f x
 |_=>none
def sS: ∀p a,kI p=some a->Cg p (.val (.int .i64 a)):=by
 intro p a h;unfold kI at h;split at h
 .obtain rfl:=AE h;exact Cg.refl _
 .cases h
def sX: ∀p a,kU p=some a->Cg p (.val (.int .u64 a)):=by
 intro p a h;unfold kU at h;split at h
 .obtain rfl:=AE h;exact Cg.refl _
 .cases h
def sY: ∀p a,kY p=some a->Cg p (.val (.int .u8 a)):=by
 intro p a h;unfold kY at h;split at h
 .obtain rfl:=AE h;exact Cg.refl _
 .cases h
def sR: ∀p a,kB p=some a->Cg p (.val (.bool a)):=by
 intro p a h;unfold kB at h;split at h
 .obtain rfl:=AE h;exact Cg.refl _
 .cases h
def sW: ∀p a,kT p=some a->Cg p (.val (.str a)):=by
 intro p a h;unfold kT at h;split at h
 .obtain rfl:=AE h;exact Cg.refl _
 .cases h
section
variable {A:Type}{f:List D->Option A}{e:A->List D}
def I7(hf: ∀ds x,f ds=some x->C6 ds (e x)): ∀p a,kR f p=some a->Cg p (.val (.agg (e a))):=by
 intro p a h;unfold kR at h;split at h
 .exact VK (hf _ _ h)
 .cases h
def sU(n:Nat)(hf: ∀ds x,f ds=some x->C6 ds (e x)): ∀p a,kP f n p=some a->Cg p (.ptr (e a)):=by
 intro p a h;unfold kP at h;split at h
 .exact Gb.trans_take (hf _ _ h)
 .cases h
def L5(k:Nat)(hf: ∀ds x,f ds=some x->C6 ds (e x))(z: ∀x,(e x).length=k): ∀p a,kS f p=some a->Cg p (.val (.sl false k (a.map e))):=by
 intro p a h;unfold kS at h;split at h
 .exact DV (DP hf _ _ h) (by simp only[Bm];rintro r ⟨y,_,rfl⟩;exact z y)
 .cases h
end
def a1{z:Type}(G:PK->Option z):List PK->Option (z)
 |[O]=>(G O).bind λQ=>some Q
 |_=>none
def Zm{G:Type}{Q:PK->Option G}{O:G->PK}(h0: ∀p a,Q p=some a->Cg p (O a)): ∀z a,a1 Q z=some a->BA z [O (a)]:=by
 intro z a h;unfold a1 at h;split at h
 .simp only[Eg,AI] at h;obtain⟨Z,g0,rfl⟩:=h;exact⟨h0 _ _ g0,trivial⟩
 .cases h
def a2{z G:Type}(O:PK->Option z)(Q:PK->Option G):List PK->Option (z×G)
 |[Z,x1]=>(O Z).bind λy0=>(Q x1).bind λy1=>some (y0,y1)
 |_=>none
def Zn{G:Type}{f0:PK->Option G}{Q:G->PK}{O:Type}{f1:PK->Option O}{Z:O->PK}(h0: ∀p a,f0 p=some a->Cg p (Q a))(h1: ∀p a,f1 p=some a->Cg p (Z a)): ∀z a,a2 f0 f1 z=some a->BA z [Q (a.1),Z (a.2)]:=by
 intro z a h;unfold a2 at h;split at h
 .simp only[Eg,AI] at h;obtain⟨y0,g0,y1,g1,rfl⟩:=h;exact⟨h0 _ _ g0,h1 _ _ g1,trivial⟩
 .cases h
def a3{z G O:Type}(Q:PK->Option z)(Z:PK->Option G)(f2:PK->Option O):List PK->Option (z×G×O)
 |[x0,x1,x2]=>(Q x0).bind λy0=>(Z x1).bind λy1=>(f2 x2).bind λy2=>some (y0,y1,y2)
 |_=>none
def rY{G:Type}{f0:PK->Option G}{Z:G->PK}{O:Type}{f1:PK->Option O}{e1:O->PK}{Q:Type}{f2:PK->Option Q}{e2:Q->PK}(h0: ∀p a,f0 p=some a->Cg p (Z a))(h1: ∀p a,f1 p=some a->Cg p (e1 a))(h2: ∀p a,f2 p=some a->Cg p (e2 a)): ∀z a,a3 f0 f1 f2 z=some a->BA z [Z (a.1),e1 (a.2.1),e2 (a.2.2)]:=by
 intro z a h;unfold a3 at h;split at h
 .simp only[Eg,AI] at h;obtain⟨y0,g0,y1,g1,y2,g2,rfl⟩:=h;exact⟨h0 _ _ g0,h1 _ _ g1,h2 _ _ g2,trivial⟩
 .cases h
def a4{z G O Q:Type}(Z:PK->Option z)(f1:PK->Option G)(f2:PK->Option O)(f3:PK->Option Q):List PK->Option (z×G×O×Q)
 |[x0,x1,x2,x3]=>(Z x0).bind λy0=>(f1 x1).bind λy1=>(f2 x2).bind λy2=>(f3 x3).bind λy3=>some (y0,y1,y2,y3)
 |_=>none
def Zo{G:Type}{f0:PK->Option G}{e0:G->PK}{O:Type}{f1:PK->Option O}{e1:O->PK}{Q:Type}{f2:PK->Option Q}{e2:Q->PK}{Z:Type}{f3:PK->Option Z}{e3:Z->PK}(h0: ∀p a,f0 p=some a->Cg p (e0 a))(h1: ∀p a,f1 p=some a->Cg p (e1 a))(h2: ∀p a,f2 p=some a->Cg p (e2 a))(h3: ∀p a,f3 p=some a->Cg p (e3 a)): ∀z a,a4 f0 f1 f2 f3 z=some a->BA z [e0 (a.1),e1 (a.2.1),e2 (a.2.2.1),e3 (a.2.2.2)]:=by
 intro z a h;unfold a4 at h;split at h
 .simp only[Eg,AI] at h;obtain⟨y0,g0,y1,g1,y2,g2,y3,g3,rfl⟩:=h;exact⟨h0 _ _ g0,h1 _ _ g1,h2 _ _ g2,h3 _ _ g3,trivial⟩
 .cases h
def a5{z G O Q Z:Type}(f0:PK->Option z)(f1:PK->Option G)(f2:PK->Option O)(f3:PK->Option Q)(f4:PK->Option Z):List PK->Option (z×G×O×Q×Z)
 |[x0,x1,x2,x3,x4]=>(f0 x0).bind λy0=>(f1 x1).bind λy1=>(f2 x2).bind λy2=>(f3 x3).bind λy3=>(f4 x4).bind λy4=>some (y0,y1,y2,y3,y4)
 |_=>none
def rZ{G:Type}{f0:PK->Option G}{e0:G->PK}{O:Type}{f1:PK->Option O}{e1:O->PK}{Q:Type}{f2:PK->Option Q}{e2:Q->PK}{Z:Type}{f3:PK->Option Z}{e3:Z->PK}{A4:Type}{f4:PK->Option A4}{e4:A4->PK}(h0: ∀p a,f0 p=some a->Cg p (e0 a))(h1: ∀p a,f1 p=some a->Cg p (e1 a))(h2: ∀p a,f2 p=some a->Cg p (e2 a))(h3: ∀p a,f3 p=some a->Cg p (e3 a))(h4: ∀p a,f4 p=some a->Cg p (e4 a)): ∀z a,a5 f0 f1 f2 f3 f4 z=some a->BA z [e0 (a.1),e1 (a.2.1),e2 (a.2.2.1),e3 (a.2.2.2.1),e4 (a.2.2.2.2)]:=by
 intro z a h;unfold a5 at h;split at h
 .simp only[Eg,AI] at h;obtain⟨y0,g0,y1,g1,y2,g2,y3,g3,y4,g4,rfl⟩:=h;exact⟨h0 _ _ g0,h1 _ _ g1,h2 _ _ g2,h3 _ _ g3,h4 _ _ g4,trivial⟩
 .cases h
def a6{z G O Q Z A5:Type}(f0:PK->Option z)(f1:PK->Option G)(f2:PK->Option O)(f3:PK->Option Q)(f4:PK->Option Z)(f5:PK->Option A5):List PK->Option (z×G×O×Q×Z×A5)
 |[x0,x1,x2,x3,x4,x5]=>(f0 x0).bind λy0=>(f1 x1).bind λy1=>(f2 x2).bind λy2=>(f3 x3).bind λy3=>(f4 x4).bind λy4=>(f5 x5).bind λy5=>some (y0,y1,y2,y3,y4,y5)
 |_=>none
def sA{G:Type}{f0:PK->Option G}{e0:G->PK}{O:Type}{f1:PK->Option O}{e1:O->PK}{Q:Type}{f2:PK->Option Q}{e2:Q->PK}{Z:Type}{f3:PK->Option Z}{e3:Z->PK}{A4:Type}{f4:PK->Option A4}{e4:A4->PK}{A5:Type}{f5:PK->Option A5}{e5:A5->PK}(h0: ∀p a,f0 p=some a->Cg p (e0 a))(h1: ∀p a,f1 p=some a->Cg p (e1 a))(h2: ∀p a,f2 p=some a->Cg p (e2 a))(h3: ∀p a,f3 p=some a->Cg p (e3 a))(h4: ∀p a,f4 p=some a->Cg p (e4 a))(h5: ∀p a,f5 p=some a->Cg p (e5 a)): ∀z a,a6 f0 f1 f2 f3 f4 f5 z=some a->BA z [e0 (a.1),e1 (a.2.1),e2 (a.2.2.1),e3 (a.2.2.2.1),e4 (a.2.2.2.2.1),e5 (a.2.2.2.2.2)]:=by
 intro z a h;unfold a6 at h;split at h
 .simp only[Eg,AI] at h;obtain⟨y0,g0,y1,g1,y2,g2,y3,g3,y4,g4,y5,g5,rfl⟩:=h;exact⟨h0 _ _ g0,h1 _ _ g1,h2 _ _ g2,h3 _ _ g3,h4 _ _ g4,h5 _ _ g5,trivial⟩
 .cases h
def a7{z G O Q Z A5 A6:Type}(f0:PK->Option z)(f1:PK->Option G)(f2:PK->Option O)(f3:PK->Option Q)(f4:PK->Option Z)(f5:PK->Option A5)(f6:PK->Option A6):List PK->Option (z×G×O×Q×Z×A5×A6)
 |[x0,x1,x2,x3,x4,x5,x6]=>(f0 x0).bind λy0=>(f1 x1).bind λy1=>(f2 x2).bind λy2=>(f3 x3).bind λy3=>(f4 x4).bind λy4=>(f5 x5).bind λy5=>(f6 x6).bind λy6=>some (y0,y1,y2,y3,y4,y5,y6)
 |_=>none
def sB{G:Type}{f0:PK->Option G}{e0:G->PK}{O:Type}{f1:PK->Option O}{e1:O->PK}{Q:Type}{f2:PK->Option Q}{e2:Q->PK}{Z:Type}{f3:PK->Option Z}{e3:Z->PK}{A4:Type}{f4:PK->Option A4}{e4:A4->PK}{A5:Type}{f5:PK->Option A5}{e5:A5->PK}{A6:Type}{f6:PK->Option A6}{e6:A6->PK}(h0: ∀p a,f0 p=some a->Cg p (e0 a))(h1: ∀p a,f1 p=some a->Cg p (e1 a))(h2: ∀p a,f2 p=some a->Cg p (e2 a))(h3: ∀p a,f3 p=some a->Cg p (e3 a))(h4: ∀p a,f4 p=some a->Cg p (e4 a))(h5: ∀p a,f5 p=some a->Cg p (e5 a))(h6: ∀p a,f6 p=some a->Cg p (e6 a)): ∀z a,a7 f0 f1 f2 f3 f4 f5 f6 z=some a->BA z [e0 (a.1),e1 (a.2.1),e2 (a.2.2.1),e3 (a.2.2.2.1),e4 (a.2.2.2.2.1),e5 (a.2.2.2.2.2.1),e6 (a.2.2.2.2.2.2)]:=by
 intro z a h;unfold a7 at h;split at h
 .simp only[Eg,AI] at h;obtain⟨y0,g0,y1,g1,y2,g2,y3,g3,y4,g4,y5,g5,y6,g6,rfl⟩:=h;exact⟨h0 _ _ g0,h1 _ _ g1,h2 _ _ g2,h3 _ _ g3,h4 _ _ g4,h5 _ _ g5,h6 _ _ g6,trivial⟩
 .cases h
def IT{A B E F:Type}(f:D->Option A)(g:D->Option B)(k:D->Option E)(m:D->Option F):D->Option (A×B×E×F)
 | .tup [x,y,z,w]=>(f x).bind λa=>(g y).bind λb=>(k z).bind λc=>(m w).bind λd=>some (a,b,c,d)
 |_=>none
def U1{A B E F:Type}{f:D->Option A}{g:D->Option B}{k:D->Option E}{m:D->Option F}{e:A->D}{e':B->D}{e'':E->D}{z:F->D}(hf: ∀d x,f d=some x->Le d (e x))(hg: ∀d x,g d=some x->Le d (e' x))(hk: ∀d x,k d=some x->Le d (e'' x))(hm: ∀d x,m d=some x->Le d (z x)):
 ∀d (x:A×B×E×F),IT f g k m d=some x->Le d (.tup [e x.1,e' x.2.1,e'' x.2.2.1,z x.2.2.2]):=by
 intro d x h;unfold IT at h;split at h
 .simp only[Eg,AI] at h;obtain⟨a,G,b,O,c,Q,w,Z,rfl⟩:=h;exact JT ⟨hf _ _ G,hg _ _ O,hk _ _ Q,hm _ _ Z,trivial⟩
 .cases h
def Af.c_n(x:Af):(Af.c x).length=3:=rfl
def Ar.c_n(x:Ar):(Ar.c x).length=2:=rfl
def AJ.c_n(x:AJ):(AJ.c x).length=3:=rfl
def Ak.c_n(x:Ak):(Ak.c x).length=3:=rfl
def Ab.c_n(x:Ab):(Ab.c x).length=2:=rfl
def Tile.c_n(x:Tile):(Tile.c x).length=2:=rfl
def Dc(x:Int):(Al x).length=1:=rfl
def Mt(x:List Int):(C4 x).length=1:=rfl
structure QK(A:Type) where
 d:PK->Option A
 e:A->PK
 l: ∀p a,d p=some a->Cg p (e a)
def qI:QK Int:=⟨kI,λa=> .val (.int .i64 a),sS⟩
def qU:QK Int:=⟨kU,λa=> .val (.int .u64 a),sX⟩
def qY:QK Int:=⟨kY,λa=> .val (.int .u8 a),sY⟩
def qB:QK Bool:=⟨kB,λa=> .val (.bool a),sR⟩
def qT:QK ByteArray:=⟨kT,λa=> .val (.str a),sW⟩
section
variable {A:Type}{f:List D->Option A}{e:A->List D}
def qR(h: ∀ds x,f ds=some x->C6 ds (e x)):QK A:=⟨kR f,λa=> .val (.agg (e a)),I7 h⟩
def qP(n:Nat)(h: ∀ds x,f ds=some x->C6 ds (e x)):QK A:=⟨kP f n,λa=> .ptr (e a),sU n h⟩
def qS{k:Nat}(h: ∀ds x,f ds=some x->C6 ds (e x))(z: ∀x,(e x).length=k):QK (List A):=⟨kS f,λa=> .val (.sl false k (a.map e)),L5 k h z⟩
end
structure AK(A:Type) where
 r:List PK->Option A
 e:A->List PK
 l: ∀ps a,r ps=some a->BA ps (e a)
 n:Nat
 w: ∀a,(e a).length=n
def b1{z:Type}(p0:QK z):AK (z):=⟨a1 p0.d,λa=>[p0.e (a)],Zm p0.l,1,λ_=>rfl⟩
def b2{z G:Type}(p0:QK z)(p1:QK G):AK (z×G):=⟨a2 p0.d p1.d,λa=>[p0.e (a.1),p1.e (a.2)],Zn p0.l p1.l,2,λ_=>rfl⟩
def b3{G O Q:Type}(p0:QK G)(p1:QK O)(z:QK Q):AK (G×O×Q):=⟨a3 p0.d p1.d z.d,λa=>[p0.e (a.1),p1.e (a.2.1),z.e (a.2.2)],rY p0.l p1.l z.l,3,λ_=>rfl⟩
def b4{O Q Z A3:Type}(p0:QK O)(p1:QK Q)(z:QK Z)(G:QK A3):AK (O×Q×Z×A3):=⟨a4 p0.d p1.d z.d G.d,λa=>[p0.e (a.1),p1.e (a.2.1),z.e (a.2.2.1),G.e (a.2.2.2)],Zo p0.l p1.l z.l G.l,4,λ_=>rfl⟩
def b5{Q Z A2 A3 A4:Type}(p0:QK Q)(p1:QK Z)(z:QK A2)(G:QK A3)(O:QK A4):AK (Q×Z×A2×A3×A4):=⟨a5 p0.d p1.d z.d G.d O.d,λa=>[p0.e (a.1),p1.e (a.2.1),z.e (a.2.2.1),G.e (a.2.2.2.1),O.e (a.2.2.2.2)],rZ p0.l p1.l z.l G.l O.l,5,λ_=>rfl⟩
def b6{Z A1 A2 A3 A4 A5:Type}(p0:QK Z)(p1:QK A1)(z:QK A2)(G:QK A3)(O:QK A4)(Q:QK A5):AK (Z×A1×A2×A3×A4×A5):=⟨a6 p0.d p1.d z.d G.d O.d Q.d,λa=>[p0.e (a.1),p1.e (a.2.1),z.e (a.2.2.1),G.e (a.2.2.2.1),O.e (a.2.2.2.2.1),Q.e (a.2.2.2.2.2)],sA p0.l p1.l z.l G.l O.l Q.l,6,λ_=>rfl⟩
def b7{A0 A1 A2 A3 A4 A5 A6:Type}(p0:QK A0)(p1:QK A1)(z:QK A2)(G:QK A3)(O:QK A4)(Q:QK A5)(Z:QK A6):AK (A0×A1×A2×A3×A4×A5×A6):=⟨a7 p0.d p1.d z.d G.d O.d Q.d Z.d,λa=>[p0.e (a.1),p1.e (a.2.1),z.e (a.2.2.1),G.e (a.2.2.2.1),O.e (a.2.2.2.2.1),Q.e (a.2.2.2.2.2.1),Z.e (a.2.2.2.2.2.2)],sB p0.l p1.l z.l G.l O.l Q.l Z.l,7,λ_=>rfl⟩
structure RK(B:Type) where
 c:D->Option B
 e:B->D
 l: ∀d b,c d=some b->Le d (e b)
def rI:RK Int:=⟨Dj,D.int .i64,Kt⟩
def rB:RK Bool:=⟨Po,D.bool,Y0⟩
def rT:RK ByteArray:=⟨Uy,D.str,Yv⟩
section
variable {A:Type}{f:List D->Option A}{e:A->List D}
def rA(h: ∀ds x,f ds=some x->C6 ds (e x)):RK A:=⟨Er f,λb=>D.agg (e b),MG h⟩
def rS{k:Nat}(h: ∀ds x,f ds=some x->C6 ds (e x))(z: ∀x,(e x).length=k):RK (List A):=⟨PL f,λb=>D.sl false k (b.map e),nU h z⟩
end
def r2{A B:Type}(p:RK A)(q:RK B):RK (A×B):=⟨bL p.c q.c,λb=>D.tup [p.e b.1,q.e b.2],Qbz p.l q.l⟩
def r3{A B C:Type}(p:RK A)(q:RK B)(r:RK C):RK (A×B×C):=⟨IS p.c q.c r.c,λb=>D.tup [p.e b.1,q.e b.2.1,r.e b.2.2],Uz p.l q.l r.l⟩
def r4{A B C E:Type}(p:RK A)(q:RK B)(r:RK C)(s:RK E):RK (A×B×C×E):=⟨IT p.c q.c r.c s.c,λb=>D.tup [p.e b.1,q.e b.2.1,r.e b.2.2.1,s.e b.2.2.2],U1 p.l q.l r.l s.l⟩
def tN{P:Program}:Ja P (PI []):=PQ [] (by simp)
def tC{P:Program}{g:Nat}{r:A7}{l:List (Nat×A7)}(h:AA P g r)(O:Ja P (PI l)):Ja P (PI ((g,r)::l)):=by
 intro g' args h' nx K z;simp only[PI] at z;split at z
 .rename_i G;subst G;exact h _ _ _ _ z
 .exact O _ _ _ _ _ z
def ZA0:=J @VC0<|J @VC1<|J @VC2<|J @VC3<|J @VC4<|J @VC5<|J @VC6<|J @VC7<|J @VC8<|J @VC9<|J @VC10<|J @VC11<|J @VC12<|J @VC13<|J @VC14<|J @VC15<|J @VC16<|J @VC17<|J @VC18<|J @VC19<|J @VC20<|J @VC21<|J @VC22<|@VC23
def ZA1:=J @VC24<|J @VC25<|J @VC26<|J @VC27<|J @VC28<|J @VC29<|J @VC30<|J @VC31<|J @VC32<|J @VC33<|J @VC34<|J @VC35<|J @VC36<|J @VC37<|J @VC38<|J @VC39<|J @VC40<|J @VC41<|J @VC42<|J @yU.{0}<|J @Nz<|J @Bool.not_eq_false'<|J @AV.im.injEq<|@D.int.injEq
def ZA2:=J @D.bool.injEq<|J @D.str.injEq<|J @D.sl.injEq<|J @D.agg.injEq<|J @AV.own.injEq<|J @AV.ptr.injEq<|J @Ej.{0,0}<|J @Ad.cells.injEq<|J @Ad.arr.injEq<|J @dM.{0}<|J @Int.cast_ofNat_Int<|J @Int.ofNat_lt<|J @Int.ofNat_le<|J @Int.natCast_nonneg<|J @dK<|J @Iq<|J @AS<|J @Hp<|J @WA<|J @W9<|J @zG<|J @yZ<|J @Ch<|@KC
def ZA3:=J @GQ<|J @Bd.{0,0}<|J @GR.{0,0}<|J @P8.{0}<|J @GN.{0}<|J @P9.{0}<|J @UQ.{0}<|J @Zfe.{0}<|J @Zfg.{0}<|J @Ca.{1}<|J @B8.{1}<|J @GL.{0}<|J @Jd.{0}<|J @ne_eq.{1}<|J @GM.{0}<|J @CX.{0}<|J @DA.{0}<|J @CY.{0}<|J @G5.{0}<|J @and_true<|J @rX<|J @yS<|J @not_true_eq_false<|@or_true
def ZA4:=J @true_or<|J @CF<|J @Fh<|J @N2<|J @dP<|J @false_or<|J @cX.{0}<|J @cZ.{0}<|J @Qz<|J @yW<|J @dJ<|J @iY<|J @Zj<|J @Q6<|J @true_implies<|J @false_implies<|J @EN.{0,0}<|J @ET<|J @CP<|J @Ei<|J @Zg<|J @Zb.{0}<|J @Option.isSome_some.{0}<|@Bool.false_bne
def ZA5:=J @Bool.true_bne<|J @Bool.not_not<|J @AN<|J @Bt<|J @eq_self.{1}<|J @rO.{0}<|J @Bool.true_eq_false<|J @CE<|J @TY0<|J @TY1<|J @TY2<|J @TY3<|J @TY4<|J @KY0<|J @KY1<|J @CY0<|J @L3.eq_1<|J @qI.eq_1<|J @qU.eq_1<|J @qY.eq_1<|J @qB.eq_1<|J @qT.eq_1<|J @qR.eq_1<|@qP.eq_1
def ZA6:=J @qS.eq_1<|J @b1.eq_1<|J @b2.eq_1<|J @b3.eq_1<|J @b4.eq_1<|J @b5.eq_1<|J @b6.eq_1<|J @b7.eq_1<|J @rI.eq_1<|J @rB.eq_1<|J @rT.eq_1<|J @rA.eq_1<|J @rS.eq_1<|J @r2.eq_1<|J @r3.eq_1<|J @r4.eq_1<|J @IT.eq_1<|J @IT.eq_2<|J @kI.eq_1<|J @kI.eq_2<|J @kU.eq_1<|J @kU.eq_2<|J @kY.eq_1<|@kY.eq_2
def ZA7:=J @kB.eq_1<|J @kB.eq_2<|J @kT.eq_1<|J @kT.eq_2<|J @kR.eq_1<|J @kR.eq_2<|J @kP.eq_1<|J @kP.eq_2<|J @kS.eq_1<|J @kS.eq_2<|J @a1.eq_1<|J @a1.eq_2<|J @a2.eq_1<|J @a2.eq_2<|J @a3.eq_1<|J @a3.eq_2<|J @a4.eq_1<|J @a4.eq_2<|J @a5.eq_1<|J @a5.eq_2<|J @a6.eq_1<|J @a6.eq_2<|J @a7.eq_1<|@a7.eq_2
def ZA8:=J @AO.eq_1<|J @AO.eq_2<|J @Nv<|J @Ck.eq_1<|J @Ck.eq_2<|J @Yh.eq_1<|J @Yh.eq_2<|J @Al.eq_1<|J @fZ.eq_1<|J @iL<|J @gA<|J @Dj.eq_1<|J @Dj.eq_2<|J @Uy.eq_1<|J @Uy.eq_2<|J @Po.eq_1<|J @Po.eq_2<|J @PL.eq_1<|J @PL.eq_2<|J @Er.eq_1<|J @Er.eq_2<|J @bL.eq_1<|J @bL.eq_2<|@IS.eq_1
def ZA9:=J @IS.eq_2<|J @Ab.c.eq_1<|J @Ab.d.eq_1<|J @Ab.d.eq_2<|J @Ak.c.eq_1<|J @Ak.d.eq_1<|J @Ak.d.eq_2<|J @Ak.d_R<|J @Ah.c.eq_1<|J @Ar.c.eq_1<|J @Ar.d.eq_1<|J @Ar.d.eq_2<|J @Ar.d_R<|J @Tile.c.eq_1<|J @Tile.d.eq_1<|J @Tile.d.eq_2<|J @Tile.d_R<|J @AB.c.eq_1<|J @AB.d.eq_1<|J @AB.d.eq_2<|J @Az.c.eq_1<|J @Az.d.eq_1<|J @Az.d.eq_2<|@AJ.c.eq_1
def ZA10:=J @AJ.d.eq_1<|J @AJ.d.eq_2<|J @AJ.d_R<|J @Io.c.eq_1<|J @Io.d.eq_1<|J @Io.d.eq_2<|J @Af.c.eq_1<|J @Af.d.eq_1<|J @Af.d.eq_2<|J @Af.d_R<|J @Ds.{0,0}<|J @AI.{0}<|J @FM.{0,0}<|J @Ab.d_R<|J @Ab.eta<|J @Ak.eta<|J @Ah.eta<|J @Ar.eta<|J @Tile.eta<|J @AB.eta<|J @Az.eta<|J @AJ.eta<|J @Io.eta<|@Af.eta
def ZA11:=J @BZ.c.eq_1<|J @BZ.d.eq_1<|J @BZ.d.eq_2<|J @BZ.eta<|J @Qmt<|J @Qk8<|J @Qqj<|J @Td<|J @O2<|J @IJ.eq_1<|J @IJ.eq_2<|J @IJ.eq_3<|J @Gj.{0,0}<|@ZeG.{0,0}
def ZA:=J @ZA0<|J @ZA1<|J @ZA2<|J @ZA3<|J @ZA4<|J @ZA5<|J @ZA6<|J @ZA7<|J @ZA8<|J @ZA9<|J @ZA10<|@ZA11
def ZT0:=J @ZM.eq_1<|J @C4.eq_1<|J @P3.eq_1<|J @P3.eq_2<|J @Mu<|J @AZ.c.eq_1<|J @AZ.d.eq_1<|J @AZ.d.eq_2<|J @AZ.eta<|J @Ba.c.eq_1<|J @Ba.d.eq_1<|J @Ba.d.eq_2<|J @Ba.eta<|J @Jt.c.eq_1<|J @Jt.d.eq_1<|J @Jt.d.eq_2<|J @E3.c.eq_1<|J @E3.d.eq_1<|J @E3.d.eq_2<|J @E0.c.eq_1<|J @E0.d.eq_1<|J @E0.d.eq_2<|J @Jt.eta<|@E3.eta
def ZT1:= @E0.eta
def ZT:=J @ZT0 (@ZT1)
def Jq:=J @Qah<|J @Nf<|J @Na<|J @uL @PO
def D5:=J Jq (J @Eh.{0} @G6.{0})
def Adq(b:Bool)(k:Nat)(x:List (List D)):Ah.d [.sl b k x]=(AO Ak.d x).bind λy=>some ⟨y⟩:=rfl
def ZZ:=J ZA (J ZT @Adq)
def vq{A:Type}{ar:List PK->Option A}{pre:A->Prop}{re:A->D}(r:A7)(e:r=CU ar pre re)(a:List AV)(h:Nat->Option Aq)(n:Nat)(K:Ai):r a h n K=Vi ar pre re (AC a) K (IH h a):=by rw[e];rfl
def uH{A:Type}{ar:List PK->Option A}{pre:A->Prop}{re:A->D}(r:A7)(e:r=K2 ar pre re)(a:List AV)(h:Nat->Option Aq)(n:Nat)(K:Ai):r a h n K=VN ar pre re (EG h a) K (Ce h a):=by rw[e];rfl
end Go.Ae
namespace Go.Ae
open Go.Proofs
def vK{A B:Type}(k:AK A)(r:RK B)(pre:A->Prop)(f:A->B):A7:=CU k.r pre λa=>r.e (f a)
def CN{A B:Type}(k:AK A)(r:RK B)(pre:A->Prop)(f:A->B):A7:=K2 k.r pre λa=>r.e (f a)
section
variable {A B:Type}{R:A7}{k:AK A}{r:RK B}{pre:A->Prop}{f:A->B}
def AU(e:R=vK k r pre f)(a:List AV)(h:Nat->Option Aq)(n:Nat)(K:Ai):R a h n K=Vi k.r pre (λa=>r.e (f a)) (AC a) K (IH h a):=by rw[e];rfl
def DO(e:R=CN k r pre f)(a:List AV)(h:Nat->Option Aq)(n:Nat)(K:Ai):R a h n K=VN k.r pre (λa=>r.e (f a)) (EG h a) K (Ce h a):=by rw[e];rfl
variable {V:CK}(hV:Ja Tryz.prog V){g:FuncId}{fn:Func}{c:Code}(hf:Tryz.prog.funcs[g]? =some fn)(hb:fn.body=some c)(hc:(DY fn.ntmps c && (Ix Tryz.prog g && Nat.ble k.n fn.ntmps))=true)
include hV hf hb hc
def vw(z: ∀a,pre a->CM Tryz.prog V c (O7 Tryz.prog fn.results.toList (BF (k.e a)) [] JO (Dr 0 (k.e a)) (LZ r.c (f a))) ⟨entry 0 (De 0 (k.e a)),Dr 0 (k.e a),BF (k.e a)⟩):AA Tryz.prog g (vK k r pre f):=by
 simp only[AS] at hc;exact PS C9 hV hf hb hc.1 hc.2.1 k.l k.w (iW hc.2.2) r.l z
def FZ(z: ∀a,pre a->CM Tryz.prog V c (YX Tryz.prog fn.results.toList (Bv r.c (f a))) ⟨entry 0 (De 0 (k.e a)),Dr 0 (k.e a),BF (k.e a)⟩):AA Tryz.prog g (CN k r pre f):=by
 simp only[AS] at hc;exact nR C9 hV hf hb hc.1 hc.2.1 k.l k.w (iW hc.2.2) r.l z
end
section
variable {V:CK}(hV:Ja Tryz.prog V){g:FuncId}{fn:Func}{c:Code}(hf:Tryz.prog.funcs[g]? =some fn)(hb:fn.body=some c)(hc:(DY fn.ntmps c && Ix Tryz.prog g)=true)
 {A:Type}{ca:A->List AV}{H0 H1:A->Ap}{k cnt:Nat}{pre:A->Prop}{klB exB:Nat->Bool}{r0:A->AV}{R:A->AV->Prop}
 (hn: ∀a,Nat.ble (ca a).length fn.ntmps=true)(hq: ∀a,Av k (ca a)=true/\Ac k (H0 a)=true/\A9 k (H0 a)=true/\BK (H0 a) (H0 a))
 (hH1: ∀a,∀p∈H1 a,(p.1<k/\klB p.1=true/\Am (H0 a) p.1=true)\/(k<=p.1/\p.1<k+cnt/\exB p.1=true/\p.2.1=true))
 (hR: ∀a r,R a r->C8 r (r0 a))
include hV hf hb hc hn hq hH1 hR
def ow(hk: ∀a,pre a->CM Tryz.prog V c (MV Tryz.prog fn.results.toList k cnt (H0 a) (H1 a) klB exB (R a)) ⟨entry 0 (ca a),H0 a,k⟩):AA Tryz.prog g (AF ca H0 k pre klB r0 H1 cnt):=by
 simp only[AS] at hc;rintro args h nx K ⟨a,τ,U,KL,O,rfl,z,G,Z⟩;refine⟨Nn hc.2,_,_,?_,Z⟩;exact tM C9 hV hf hb hc.1 (iW (hn a)) (hq a).1 (hq a).2.1 (hq a).2.2.1 (λj e Q=>Qo2 (hq a).2.2.2 j e (bU Q)) (hR a) (hH1 a) Tr (λ_ _ h=>h) (hk a O) G.inj G.lt
  (λj e Q=>Qpk z j e (bU Q)) G.u G.k1 G.k2
def SR(hk: ∀a,pre a->CM Tryz.prog V c (F3 Tryz.prog fn.results.toList k cnt (H0 a) (H1 a) klB exB (R a)) ⟨entry 0 (ca a),H0 a,k⟩):AA Tryz.prog g (AF ca H0 k pre klB r0 H1 cnt):=by
 simp only[AS] at hc;rintro args h nx K ⟨a,τ,U,KL,O,rfl,z,G,Z⟩;refine⟨Nn hc.2,_,_,?_,Z⟩;exact tM C9 hV hf hb hc.1 (iW (hn a)) (hq a).1 (hq a).2.1 (hq a).2.2.1 (λj e Q=>Qo2 (hq a).2.2.2 j e (bU Q)) (hR a) (hH1 a) Ts (λ_ _ h=>h) (hk a O) G.inj G.lt
  (λj e Q=>Qpk z j e (bU Q)) G.u G.k1 G.k2
end
def Bq(n lo z:Int):Bool:=decide (lo<=n) && decide (n<=z)
def within_.fv(a:Int×Int×Int):Bool:=(Bq) (a.1) (a.2.1) (a.2.2)
def within_.row:A7:=vK (b3 qI qI qI) rB (λa=>True) within_.fv
def within_.q:=AU (R:=within_.row) rfl
def within_.ok:AA Tryz.prog 102 within_.row:=by
 refine vw tN Tryz.func102 rfl (by kernel_rfl) ?_;intro a z;simp only[Tryz.f102];simp(disch:=omega)only[ZA,simprocAttr,within_.fv];simp only[Bq];grind
def l00In.fv(a:Int×Int×Int):Bool:=(Bq) (a.1) (a.2.1) (a.2.2)
def l00In.row:A7:=vK (b3 qI qI qI) rB (λa=>True) l00In.fv
def l00In.q:=AU (R:=l00In.row) rfl
def l00In.ok:AA Tryz.prog 91 l00In.row:=by
 refine vw tN Tryz.func91 rfl (by kernel_rfl) ?_;intro a z;simp only[Tryz.f91];simp(disch:=omega)only[ZA,simprocAttr,l00In.fv];simp only[Bq];grind
def zX(n:Int):Prop:= -9223372036854775808<=n/\n<=9223372036854775807
def isIndex.fv(a:Int×Int):Bool:=Bq a.1 0 (a.2 - 1)
def isIndex.row:A7:=vK (b2 qI qI) rB (λa=>0<=a.2/\zX a.2) isIndex.fv
def isIndex.q:=AU (R:=isIndex.row) rfl
def isIndex.ok:AA Tryz.prog 221 isIndex.row:=by
 refine vw (tC within_.ok tN) Tryz.func221 rfl (by kernel_rfl) ?_;intro a z;simp only[Tryz.f221];simp(disch:=omega)only[ZA,simprocAttr,isIndex.fv,within_.q,within_.fv];obtain⟨G,O,Q⟩:=z;rw[AG (by omega) (by omega)]
def EP(p:Ab):Bool:=Bq p.X (-60) 60 && Bq p.Y (-60) 60
def ValidPoint.fv(a:Ab):Bool:=(EP) a
def ValidPoint.row:A7:=vK (b1 (qR Ab.d_le)) rB (λa=>True) ValidPoint.fv
def ValidPoint.q:=AU (R:=ValidPoint.row) rfl
def ValidPoint.ok:AA Tryz.prog 185 ValidPoint.row:=by
 refine vw (tC within_.ok tN) Tryz.func185 rfl (by kernel_rfl) ?_;intro a z;simp only[Tryz.f185];simp(disch:=omega)only[ZA,simprocAttr,ValidPoint.fv,within_.q,within_.fv];simp only[EP];grind
def l01Point.fv(a:Ab):Bool:=(EP) a
def l01Point.row:A7:=vK (b1 (qR Ab.d_le)) rB (λa=>True) l01Point.fv
def l01Point.q:=AU (R:=l01Point.row) rfl
def l01Point.ok:AA Tryz.prog 177 l01Point.row:=by
 refine vw (tC l00In.ok tN) Tryz.func177 rfl (by kernel_rfl) ?_;intro a z;simp only[Tryz.f177];simp(disch:=omega)only[ZA,simprocAttr,l01Point.fv,l00In.q,l00In.fv];simp only[EP];grind
def isNaN.fv(a:Int):Bool:=false && a==0
def isNaN.row:A7:=vK (b1 qI) rB (λa=>True) isNaN.fv
def isNaN.q:=AU (R:=isNaN.row) rfl
def isNaN.ok:AA Tryz.prog 235 isNaN.row:=by
 refine vw tN Tryz.func235 rfl (by kernel_rfl) ?_;intro a z;simp only[Tryz.f235];simp(disch:=omega)only[ZA,simprocAttr,isNaN.fv]
 try simp
def EU(a b:Int):Int:=if a<b then -1 else if b<a then 1 else 0
def Compare.fv(a:Int×Int):Int:=(EU) (a.1) (a.2)
def Compare.row:A7:=vK (b2 qI qI) rI (λa=>True) Compare.fv
def Compare.q:=AU (R:=Compare.row) rfl
def Compare.ok:AA Tryz.prog 202 Compare.row:=by
 refine vw (tC isNaN.ok tN) Tryz.func202 rfl (by kernel_rfl) ?_;intro a z;simp only[Tryz.f202];simp(disch:=omega)only[ZA,simprocAttr,Compare.fv,isNaN.q,isNaN.fv];simp only[EU];grind
def Bf(a b:Ab):Bool:=decide (a.Y<b.Y)||(decide (a.Y=b.Y) && decide (a.X<b.X))
def l_LessPoint.fv(a:Ab×Ab):Bool:=(Bf) (a.1) (a.2)
def l_LessPoint.row:A7:=vK (b2 (qR Ab.d_le) (qR Ab.d_le)) rB (λa=>True) l_LessPoint.fv
def l_LessPoint.q:=AU (R:=l_LessPoint.row) rfl
def l_LessPoint.ok:AA Tryz.prog 90 l_LessPoint.row:=by
 refine vw tN Tryz.func90 rfl (by kernel_rfl) ?_;intro a z;simp only[Tryz.f90];simp(disch:=omega)only[ZA,simprocAttr,l_LessPoint.fv];simp only[Bf]
 grind
def EC(a b:Int):Int:=if a<b then a else b
def Ec(a b:Int):Int:=if b<a then a else b
def l00Min.fv(a:Int×Int):Int:=(EC) (a.1) (a.2)
def l00Min.row:A7:=vK (b2 qI qI) rI (λa=>True) l00Min.fv
def l00Min.q:=AU (R:=l00Min.row) rfl
def l00Min.ok:AA Tryz.prog 239 l00Min.row:=by
 refine vw tN Tryz.func239 rfl (by kernel_rfl) ?_;intro a z;simp only[Tryz.f239];simp(disch:=omega)only[ZA,simprocAttr,l00Min.fv];simp only[EC];grind
def l00Max.fv(a:Int×Int):Int:=(Ec) (a.1) (a.2)
def l00Max.row:A7:=vK (b2 qI qI) rI (λa=>True) l00Max.fv
def l00Max.q:=AU (R:=l00Max.row) rfl
def l00Max.ok:AA Tryz.prog 240 l00Max.row:=by
 refine vw tN Tryz.func240 rfl (by kernel_rfl) ?_;intro a z;simp only[Tryz.f240];simp(disch:=omega)only[ZA,simprocAttr,l00Max.fv];simp only[Ec];grind
def pJ(c:Int):Bool:=Bq c 97 122||Bq c 65 90
def xS(c:Int):Bool:=Bq c 48 57
def l01Letter.fv(a:Int):Bool:=(pJ) a
def l01Letter.row:A7:=vK (b1 qY) rB (λa=>True) l01Letter.fv
def l01Letter.q:=AU (R:=l01Letter.row) rfl
def l01Letter.ok:AA Tryz.prog 236 l01Letter.row:=by
 refine vw tN Tryz.func236 rfl (by kernel_rfl) ?_;intro a z;simp only[Tryz.f236];simp(disch:=omega)only[ZA,simprocAttr,l01Letter.fv];simp only[pJ,Bq];grind
def l01Digit.fv(a:Int):Bool:=(xS) a
def l01Digit.row:A7:=vK (b1 qY) rB (λa=>True) l01Digit.fv
def l01Digit.q:=AU (R:=l01Digit.row) rfl
def l01Digit.ok:AA Tryz.prog 237 l01Digit.row:=by
 refine vw tN Tryz.func237 rfl (by kernel_rfl) ?_;intro a z;simp only[Tryz.f237];simp(disch:=omega)only[ZA,simprocAttr,l01Digit.fv];simp only[xS,Bq];grind
def sC(a b:Ab):Ab:=⟨a.X+b.X,a.Y+b.Y⟩
def HB(p:Ab):Prop:= -1000000000<=p.X/\p.X<=1000000000/\ -1000000000<=p.Y/\p.Y<=1000000000
def plus.fv(a:Ab×Ab):Ab:=(sC) (a.1) (a.2)
def plus.row:A7:=vK (b2 (qR Ab.d_le) (qR Ab.d_le)) (rA Ab.d_le) (λa=>HB a.1/\HB a.2) plus.fv
def plus.q:=AU (R:=plus.row) rfl
def plus.ok:AA Tryz.prog 196 plus.row:=by
 refine vw tN Tryz.func196 rfl (by kernel_rfl) ?_;intro a z;simp only[Tryz.f196];simp(disch:=omega)only[ZA,simprocAttr,plus.fv];obtain⟨⟨G,O,Q,Z⟩,h5,h6,h7,h8⟩:=z;rw[AG (by omega) (by omega),AG (by omega) (by omega)];rfl
def Co(p:Ab)(d:Int):Ab:=if d=0 then ⟨p.X,p.Y+1⟩ else if d=1 then ⟨p.X+1,p.Y⟩ else if d=2 then ⟨p.X,p.Y - 1⟩ else ⟨p.X - 1,p.Y⟩
def step_.rc:D->Option (Ab):=Er Ab.d
def step_.re:Ab->D:=λb=>D.agg (Ab.c b)
def step_.rle: ∀d b,step_.rc d=some b->Le d (step_.re b):=MG Ab.d_le
def step_.fv(a:Ab×Int):Ab:=(Co) (a.1) (a.2)
def step_.row:A7:=vK (b2 (qR Ab.d_le) qI) (RK.mk step_.rc step_.re step_.rle) (λa=>HB a.1/\0<=a.2/\a.2<=3) step_.fv
def step_.q:=AU (R:=step_.row) rfl
def step_.ok:AA Tryz.prog 151 step_.row:=by
 refine vw (tC plus.ok tN) Tryz.func151 rfl (by kernel_rfl) ?_;intro a z;simp only[Tryz.f151];obtain⟨p,d⟩:=a;obtain⟨hp,G,O⟩:=z;simp only at G O hp;rcases (by omega:d=0\/d=1\/d=2\/d=3) with rfl|rfl|rfl|rfl
 all_goals
  simp(disch:=omega)only[ZA,simprocAttr,step_.fv,step_.rc,plus.q,plus.fv];obtain⟨Q,Z,h5,h6⟩:=hp;refine⟨⟨⟨Q,Z,h5,h6⟩,by simp[HB]⟩,?_⟩;simp[Co,sC]<;>omega
def l01Step.fv(a:Ab×Int):Ab:=(Co) (a.1) (a.2)
def l01Step.row:A7:=vK (b2 (qR Ab.d_le) qI) (rA Ab.d_le) (λa=>HB a.1/\0<=a.2/\a.2<=3) l01Step.fv
def l01Step.q:=AU (R:=l01Step.row) rfl
def l01Step.ok:AA Tryz.prog 168 l01Step.row:=by
 refine vw tN Tryz.func168 rfl (by kernel_rfl) ?_;intro a z;simp only[Tryz.f168];simp(disch:=omega)only[ZA,simprocAttr,l01Step.fv];obtain⟨⟨G,O,Q,Z⟩,h5,h6⟩:=z;rw[AG (by omega) (by omega),AG (by omega) (by omega),AG (by omega) (by omega),AG (by omega) (by omega)];simp only[Co]
 grind
def Py:List Int->Int
 |[]=>0
 |x::r=>if x=0 then Py r else x
def Or.fv(a:(List Int)):Int:=(Py) a
def Or.row:A7:=vK (b1 (qS DU Dc)) rI (λa=>True) Or.fv
def Or.q:=AU (R:=Or.row) rfl
def Or.ok:AA Tryz.prog 201 Or.row:=by
 refine vw tN Tryz.func201 rfl (by kernel_rfl) ?_;intro a Z;simp only[Tryz.f201];simp(disch:=omega)only[ZA,simprocAttr,Or.fv];intro Q;refine AR.old ⟨{k:Nat//k<=a.length/\Py (a.drop k)=Py a},λk=>⟨[(8,.im (.int .i64 k.1)),(7,.im (.int .i64 a.length)),(6,.im (.sl false 1 (a.map Al))),(3,.im (.int .i64 0)),(2,.im (.int .i64 0))],[],0⟩,λk=>a.length - k.1,λk=>⟨by simp[Aj.good,An,Ac,A9,AV.bel],AN _⟩,⟨⟨0,by simp⟩,by simp(disch:=omega)only[ZA,simprocAttr,sub]⟩,λk=> ?_⟩;obtain⟨k,aa,z⟩:=k;simp(disch:=omega)only[ZA,simprocAttr,sub];simp only[AP];refine⟨λG=>⟨G,λx hx=> ?_⟩,λG=> ?_⟩
 .have O:a.drop k=x::a.drop (k+1):=by
   rw[UP G];rw[Bh G] at hx;rw[AE hx]
  rw[O,Py] at z;refine⟨λh=>by grind,λh=>⟨⟨k+1,by omega,by grind⟩,by simp only;omega,?_⟩⟩;simp (disch:=omega) only[AG];simp
 .have O:a.drop k=[]:=CZ (by omega);rw[O] at z;exact z
def comparePoints.fv(a:Ab×Ab):Int:=(λa b=>Py [EU a.Y b.Y,EU a.X b.X]) (a.1) (a.2)
def comparePoints.row:A7:=vK (b2 (qR Ab.d_le) (qR Ab.d_le)) rI (λa=>True) comparePoints.fv
def comparePoints.q:=AU (R:=comparePoints.row) rfl
def comparePoints.ok:AA Tryz.prog 161 comparePoints.row:=by
 refine vw (tC Compare.ok (tC Or.ok tN)) Tryz.func161 rfl (by kernel_rfl) ?_;intro a z;simp only[Tryz.f161];simp(disch:=omega)only[ZA,simprocAttr,comparePoints.fv,Compare.q,Compare.fv,Or.q,Or.fv]
def impl_LessPoint.fv(a:Ab×Ab):Bool:=(Bf) (a.1) (a.2)
def impl_LessPoint.row:A7:=vK (b2 (qR Ab.d_le) (qR Ab.d_le)) rB (λa=>True) impl_LessPoint.fv
def impl_LessPoint.q:=AU (R:=impl_LessPoint.row) rfl
def impl_LessPoint.ok:AA Tryz.prog 149 impl_LessPoint.row:=by
 refine vw (tC comparePoints.ok tN) Tryz.func149 rfl (by kernel_rfl) ?_;intro a z;simp only[Tryz.f149];simp(disch:=omega)only[ZA,simprocAttr,impl_LessPoint.fv,comparePoints.q,comparePoints.fv];simp only[Bf,Py,EU]
 grind
def Nl(i:Nat)(c:Int):Bool:=pJ c||(decide (i≠0) && (xS c||decide (c=95)))
def Hf:Nat->List UInt8->Bool
 |_,[]=>true
 |i,c::r=>Nl i c.toNat && Hf (i+1) r
def lE{a:ByteArray}{k:Nat}{c:UInt8}(hc:a.data[k]? =some c):a.data.toList.drop k=c::a.data.toList.drop (k+1):=by
 have h0:a.data.toList[k]? =some c:=by simpa using hc
 have z:k<a.data.toList.length:=(Cd.1 h0).1;rw[UP z];rw[Bh z] at h0;rw[AE h0]
def QO{a:ByteArray}{k:Nat}(h: ¬k<a.size):a.data.toList.drop k=[]:=CZ (by simpa using h)
def Ik(s:ByteArray):Bool:=Hf 0 s.data.toList && (decide (1<=s.size) && decide (s.size<=12))
def impl_IsName.fv(a:ByteArray):Bool:=(Ik) a
def impl_IsName.row:A7:=vK (b1 qT) rB (λa=>a.size<=140737488355328) impl_IsName.fv
def impl_IsName.q:=AU (R:=impl_IsName.row) rfl
def impl_IsName.ok:AA Tryz.prog 253 impl_IsName.row:=by
 refine vw tN Tryz.func253 rfl (by kernel_rfl) ?_;intro a aa;simp only[Tryz.f253];simp(disch:=omega)only[ZA,simprocAttr,impl_IsName.fv];refine AR.old ⟨{k:Nat//k<=a.size/\Hf k (a.data.toList.drop k)=Hf 0 a.data.toList},λk=>⟨[(8,.im (.int .i64 k.1)),(7,.im (.int .i64 a.size)),(6,.im (.str a)),(0,.im (.str a)),(2,.im (.bool false))],[],0⟩,λk=>a.size - k.1,λk=>⟨by simp[Aj.good,An,Ac,A9,AV.bel],AN _⟩,⟨⟨0,by simp⟩,by simp(disch:=omega)only[ZA,simprocAttr,sub]⟩,λk=> ?_⟩;obtain⟨k,ab,z⟩:=k;simp(disch:=omega)only[ZA,simprocAttr]
 split<;>rename_i Q
 .refine⟨Q,?_⟩;intro c hc;have hd:a.data.toList.drop k=c::a.data.toList.drop (k+1):=by
   have hl:k<a.data.toList.length:=by simpa using Q
   rw[UP hl]
   have:a.data.toList[k]? =some c:=by simpa using hc
   rw[Bh hl] at this;rw[AE this]
  rw[hd,Hf] at z;by_cases Z:(97:Int)<=c.toNat<;>by_cases e2:(c.toNat:Int)<=122<;>(try (exfalso;omega))<;>by_cases e3:(65:Int)<=c.toNat<;>(try (exfalso;omega))<;>by_cases e4:(c.toNat:Int)<=90<;>(try (exfalso;omega))<;>
   by_cases e5:(c.toNat:Int)<48<;>(try (exfalso;omega))<;>by_cases e6:(57:Int)<c.toNat<;>(try (exfalso;omega))<;>by_cases e7:(c.toNat:Int)=95<;>(try (exfalso;omega))<;>by_cases e8:(k:Int)=0
  all_goals
   have e9:(48:Int)<=c.toNat↔ ¬(c.toNat:Int)<48:=by omega
   have G:(c.toNat:Int)<=57↔ ¬(57:Int)<c.toNat:=by omega
   have O:k=0↔(k:Int)=0:=by omega
   have hb:Nl k c.toNat=Nl k c.toNat:=rfl
   conv at hb=>
    rhs
    simp only[Nl,pJ,xS,Bq,Z,e2,e3,e4,e5,e6,e7,e8,e9,G,O,ne_eq,zG,yZ,ET,Zg,yW,Qz,dJ,iY,CP,Ei,not_true_eq_false,yS]
   rw[hb] at z;simp(disch:=omega)only[ZA,simprocAttr,sub,Z,e2,e3,e4,e5,e6,e7,e8]
   first
    |(simp only[Ei] at z
      simp only[Ik,<-z,Ei])
    |(simp only[CP] at z
      refine⟨⟨k+1,by omega,z⟩,by simp only;omega,?_⟩;rw[AG (by omega) (by omega)];simp only
      omega)
    |(have h9:Hf 0 a.data.toList=false:=by rw[<-z];simp
      simp[Ik,h9])
 .have:a.data.toList.drop k=[]:=CZ (by simpa using Q)
  rw[this,Hf] at z;simp only[Ik]
  grind
def spec_IsName.fv(a:ByteArray):Bool:=(Ik) a
def spec_IsName.row:A7:=vK (b1 qT) rB (λa=>True) spec_IsName.fv
def spec_IsName.q:=AU (R:=spec_IsName.row) rfl
def Yaa:=J @l01Letter.q @l01Letter.fv.eq_1
def spec_IsName.ok:AA Tryz.prog 203 spec_IsName.row:=by
 refine vw (tC l01Letter.ok (tC l01Digit.ok tN)) Tryz.func203 rfl (by kernel_rfl) ?_;intro a ad;simp only[Tryz.f203];simp(disch:=omega)only[ZA,simprocAttr,spec_IsName.fv,AP];refine⟨λh1=>⟨λh2=>⟨by omega,?_⟩,λh2=> ?_⟩,λh1=> ?_⟩
 .intro c hc;have hd:=lE hc;rw[GN] at hd;cases hL:pJ c.toNat
  .simp(disch:=omega)only[ZA,simprocAttr,Yaa,hL];have h9:Hf 0 a.data.toList=false:=by rw[hd];simp[Hf,Nl,hL]
   simp[Ik,h9]
  .simp(disch:=omega)only[ZA,simprocAttr,Yaa,hL];refine AR.old ⟨{k:Nat//1<=k/\k<=a.size/\Hf k (a.data.toList.drop k)=Hf 0 a.data.toList},λk=>⟨[(3,.im (.int .i64 k.1)),(0,.im (.str a)),(2,.im (.bool false))],[],0⟩,λk=>a.size - k.1,λk=>⟨by simp[Aj.good,An,Ac,A9,AV.bel],AN _⟩,⟨⟨1,by omega,by omega,?_⟩,by simp(disch:=omega)only[ZA,simprocAttr,sub]⟩,λk=> ?_⟩
   .conv=>rhs;rw[hd]
    simp[Hf,Nl,hL]
   .obtain⟨k,af,ag,z⟩:=k;simp(disch:=omega)only[ZA,simprocAttr,AP];refine⟨λZ=>⟨Z,λc2 Q=> ?_⟩,λZ=> ?_⟩
    .rw[lE Q,Hf] at z;simp(disch:=omega)only[ZZ,simprocAttr,Yaa,l01Digit.q,l01Digit.fv,sub,AP];have ac:Nl k c2.toNat=true->Hf (k+1) (a.data.toList.drop (k+1))=Hf 0 a.data.toList:=by
      intro h;rw[h] at z;simpa using z
     have ab:Nl k c2.toNat=false->false=Ik a:=by
      intro h;rw[h] at z;have h9:Hf 0 a.data.toList=false:=by rw[<-z];simp
      simp[Ik,h9]
     have O:Nl k c2.toNat=true-> ∃b':{k:Nat//1<=k/\k<=a.size/\Hf k (a.data.toList.drop k)=Hf 0 a.data.toList},a.size - b'.val<a.size - k/\IntKind.wrap .i64 ((k:Int)+1)=b'.val:=by
      intro h;refine⟨⟨k+1,by omega,by omega,ac h⟩,by simp only;omega,?_⟩;rw[AG (by omega) (by omega)];simp only;omega
     have aa:k≠0:=by omega
     refine⟨λl=>⟨Z,λc3 G=> ?_⟩,λl=> ?_⟩
     .rw[Q] at G;obtain rfl:=AE G;refine⟨λl2=>⟨Z,λc3 G=> ?_⟩,λl2=> ?_⟩
      .rw[Q] at G;obtain rfl:=AE G;refine⟨λl3=>ab ?_,λl3=>O ?_⟩
       .simp[Nl,l,l2,l3]
       .simp only[F8] at l3;simp[Nl,l3,aa]
      .refine O ?_;simp only[HO] at l2;simp[Nl,l2,aa]
     .refine O ?_;simp only[HO] at l;simp[Nl,l]
    .rw[QO Z,Hf] at z;simp only[Ik]
     grind
 .simp only[Ik];grind
 .simp only[Ik];grind
def Wl{A:Type}{B:Type}(f:A->B)(z:B)(a:List A)(k:Nat)(x:A)(G:a[k]? =some x):
 ((a.take k).map f++List.replicate (a.length - k) z).set k (f x)=(a.take (k+1)).map f++List.replicate (a.length - (k+1)) z:=by
 have hk:k<a.length:=(Cd.1 G).1;have O:a.take (k+1)=a.take k++[x]:=by
  rw[GO,G];rfl
 have Q:a.length - k=(a.length - (k+1))+1:=by omega
 rw[O,Q,Zeg,F9,HP,iV _ _ (by simp;omega)];have Z:k - (List.map f (List.take k a)).length=0:=by simp;omega
 rw[Z];rfl
def Wa{A:Type}{B:Type}(f:A->B)(z:B)(a:List A)(k:Nat)(x:A)(O:a[k]? =some x):
 ((a.take k).map f++List.replicate (a.length - k) z)[k]? =some z:=by
 have Q:k<a.length:=(Cd.1 O).1;rw[Fo (by simp;omega)];have G:k - (List.map f (List.take k a)).length=0:=by simp;omega
 rw[G,KB,Ao (by omega)]
def Wc{A:Type}{B:Type}(f:A->B)(z:B)(a:List A)(k:Nat)(G:k<=a.length):((a.take k).map f++List.replicate (a.length - k) z).length=a.length:=by
 simp;omega
def Wh{A:Type}{B:Type}(f:A->B)(z:B)(a:List A)(k:Nat)(G:a.length<=k):(a.take k).map f++List.replicate (a.length - k) z=a.map f:=by
 rw[DB G,show a.length - k=0 by omega];simp
def toPoint.fv(a:Ab):Ab:=(λp=>p) a
def toPoint.row:A7:=vK (b1 (qR Ab.d_le)) (rA Ab.d_le) (λa=>True) toPoint.fv
def toPoint.q:=AU (R:=toPoint.row) rfl
def toPoint.ok:AA Tryz.prog 50 toPoint.row:=by
 refine vw tN Tryz.func50 rfl (by kernel_rfl) ?_;intro a z;simp only[Tryz.f50];simp(disch:=omega)only[ZA,simprocAttr,toPoint.fv]
def toPlaced.fv(a:Ak):Ak:=(λp=>p) a
def toPlaced.row:A7:=vK (b1 (qR Ak.d_le)) (rA Ak.d_le) (λa=>True) toPlaced.fv
def toPlaced.q:=AU (R:=toPlaced.row) rfl
def toPlaced.ok:AA Tryz.prog 97 toPlaced.row:=by
 refine vw (tC toPoint.ok tN) Tryz.func97 rfl (by kernel_rfl) ?_;intro a z;simp only[Tryz.f97];simp(disch:=omega)only[ZA,simprocAttr,toPlaced.fv,toPoint.q,toPoint.fv]
def toGlue.fv(a:Ar):Ar:=(λp=>p) a
def toGlue.row:A7:=vK (b1 (qR Ar.d_le)) (rA Ar.d_le) (λa=>True) toGlue.fv
def toGlue.q:=AU (R:=toGlue.row) rfl
def toGlue.ok:AA Tryz.prog 143 toGlue.row:=by
 refine vw tN Tryz.func143 rfl (by kernel_rfl) ?_;intro a z;simp only[Tryz.f143];simp(disch:=omega)only[ZA,simprocAttr,toGlue.fv]
def toInt64S.fv(a:(List Int)):List Int:=(λp=>p) a
def toInt64S.row:A7:=vK (b1 (qS DU Dc)) (rS DU Dc) (λa=>a.length<=1073741824) toInt64S.fv
def toInt64S.q:=AU (R:=toInt64S.row) rfl
def toInt64S.ok:AA Tryz.prog 14 toInt64S.row:=by
 refine vw tN Tryz.func14 rfl (by kernel_rfl) ?_;intro a Q;simp only[Tryz.f14];simp(disch:=omega)only[ZA,simprocAttr,toInt64S.fv];intro O;refine⟨by omega,?_⟩;refine AR.old ⟨{k:Nat//k<=a.length},λk=>⟨[(4,.im (.int .i64 k.1)),(3,.own 1),(0,.im (.sl false 1 (a.map Al)))],[(1,(true,.arr 2 1 ((a.take k.1).map Al++List.replicate (a.length - k.1) [.int .i64 0])))],2⟩,λk=>a.length - k.1,λk=>⟨by simp[Aj.good,An,Ac,A9,AV.bel],AN _⟩,⟨⟨0,by omega⟩,by simp(disch:=omega)only[ZA,simprocAttr,sub];simp⟩,λk=> ?_⟩;obtain⟨k,G⟩:=k;simp(disch:=omega)only[ZA,simprocAttr,AP,Wc _ _ a k G];intro _;refine⟨λz=>⟨z,λx Z=>⟨z,z,Hj (Wa Al [.int .i64 0] a k x Z) ?_⟩⟩,λz=> ?_⟩
 .simp(disch:=omega)only[ZA,simprocAttr,sub];refine⟨⟨k+1,by omega⟩,by simp only;omega,?_,?_⟩
  .rw[AG (by omega) (by omega)];simp only;omega
  .exact Wl Al [.int .i64 0] a k x Z
 .rw[Wh Al _ a k (by omega)];simp[iL]
def eqPoint.fv(a:Ab×Ab):Bool:=(λa b=>decide (a=b)) (a.1) (a.2)
def eqPoint.row:A7:=vK (b2 (qR Ab.d_le) (qR Ab.d_le)) rB (λa=>True) eqPoint.fv
def eqPoint.q:=AU (R:=eqPoint.row) rfl
def eqPoint.ok:AA Tryz.prog 60 eqPoint.row:=by
 refine vw tN Tryz.func60 rfl (by kernel_rfl) ?_;intro a G;simp only[Tryz.f60];simp(disch:=omega)only[ZA,simprocAttr,eqPoint.fv];obtain⟨⟨x,y⟩,⟨z,w⟩⟩:=a;simp only[Ab.mk.injEq]
 grind
def eqPlaced.fv(a:Ak×Ak):Bool:=(λa b=>decide (a=b)) (a.1) (a.2)
def eqPlaced.row:A7:=vK (b2 (qR Ak.d_le) (qR Ak.d_le)) rB (λa=>True) eqPlaced.fv
def eqPlaced.q:=AU (R:=eqPlaced.row) rfl
def eqPlaced.ok:AA Tryz.prog 112 eqPlaced.row:=by
 refine vw (tC eqPoint.ok tN) Tryz.func112 rfl (by kernel_rfl) ?_;intro a G;simp only[Tryz.f112];simp(disch:=omega)only[ZA,simprocAttr,eqPlaced.fv,eqPoint.q,eqPoint.fv];obtain⟨⟨⟨x,y⟩,u⟩,⟨⟨z,w⟩,v⟩⟩:=a;simp only[Ak.mk.injEq,Ab.mk.injEq]
 grind
def eqGlue.fv(a:Ar×Ar):Bool:=(λa b=>decide (a=b)) (a.1) (a.2)
def eqGlue.row:A7:=vK (b2 (qR Ar.d_le) (qR Ar.d_le)) rB (λa=>True) eqGlue.fv
def eqGlue.q:=AU (R:=eqGlue.row) rfl
def eqGlue.ok:AA Tryz.prog 162 eqGlue.row:=by
 refine vw tN Tryz.func162 rfl (by kernel_rfl) ?_;intro a G;simp only[Tryz.f162];simp(disch:=omega)only[ZA,simprocAttr,eqGlue.fv];obtain⟨⟨x,y⟩,⟨z,w⟩⟩:=a;simp only[Ar.mk.injEq]
 grind
def bJ{A:Type}[DecidableEq A]{a b:List A}(hl:a.length=b.length){k:Nat}(Z:k<=a.length)(h:a.take k=b.take k){x y:A}(Q:a[k]? =some x)(O:b[k]? =some y):
 (x=y->a.take (k+1)=b.take (k+1))/\(x≠y->a≠b):=by
 refine⟨λz=> ?_,λz G=> ?_⟩
 .rw[GO,GO,h,Q,O,z]
 .subst G;rw[Q] at O;exact z (AE O)
def eqInt64S.fv(a:(List Int)×(List Int)):Bool:=(λa b=>decide (a=b)) (a.1) (a.2)
def eqInt64S.row:A7:=vK (b2 (qS DU Dc) (qS DU Dc)) rB (λa=>True) eqInt64S.fv
def eqInt64S.q:=AU (R:=eqInt64S.row) rfl
def eqInt64S.ok:AA Tryz.prog 20 eqInt64S.row:=by
 refine vw tN Tryz.func20 rfl (by kernel_rfl) ?_;intro a Z;simp only[Tryz.f20];simp(disch:=omega)only[ZA,simprocAttr,eqInt64S.fv];intro h1 h2;simp only[AP];refine⟨λG=> ?_,λG=> ?_⟩
 .have:a.1≠a.2:=λh=>G (by rw[h])
  simp[this]
 have G:a.1.length=a.2.length:=by omega
 refine AR.old ⟨{k:Nat//k<=a.1.length/\a.1.take k=a.2.take k},λk=>⟨[(5,.im (.int .i64 k.1)),(4,.im (.bool false)),(0,.im (.sl false 1 (a.1.map Al))),(1,.im (.sl false 1 (a.2.map Al)))],[],0⟩,λk=>a.1.length - k.1,λk=>⟨by simp[Aj.good,An,Ac,A9,AV.bel],AN _⟩,⟨⟨0,by simp⟩,by simp(disch:=omega)only[ZA,simprocAttr,sub]⟩,λk=> ?_⟩;obtain⟨k,Q,z⟩:=k;simp(disch:=omega)only[ZA,simprocAttr,sub,AP];intro _;refine⟨λO=>⟨O,λx hx=>⟨by omega,λy hy=> ?_⟩⟩,λO=> ?_⟩
 .obtain⟨g1,g2⟩:=bJ G Q z hx hy;exact⟨λh=>by simp[g2 h],λh=>F2 O h1 ⟨by omega,g1 (by simpa using h)⟩⟩
 .rw[DB (by omega),DB (by omega)] at z;simp[z]
def Cj(n:Int)(left:Int):Int:=if left - n<0 then -1 else left - n
def szInt64S.fv(a:(List Int)×Int):Int:=(λa l=>Cj a.length l) (a.1) (a.2)
def szInt64S.row:A7:=vK (b2 (qS DU Dc) qI) rI (λa=> -1<=a.2/\a.2<=1048576) szInt64S.fv
def szInt64S.q:=AU (R:=szInt64S.row) rfl
def szInt64S.ok:AA Tryz.prog 68 szInt64S.row:=by
 refine vw tN Tryz.func68 rfl (by kernel_rfl) ?_;intro a z;simp only[Tryz.f68];simp(disch:=omega)only[ZA,simprocAttr,szInt64S.fv];intro h;rw[AG (by omega) (by omega)];simp only[Cj];grind
def szPlacedS.fv(a:(List Ak)×Int):Int:=(λa l=>Cj a.length l) (a.1) (a.2)
def szPlacedS.row:A7:=vK (b2 (qS Ak.d_le Ak.c_n) qI) rI (λa=> -1<=a.2/\a.2<=1048576) szPlacedS.fv
def szPlacedS.q:=AU (R:=szPlacedS.row) rfl
def szPlacedS.ok:AA Tryz.prog 42 szPlacedS.row:=by
 refine vw tN Tryz.func42 rfl (by kernel_rfl) ?_;intro a z;simp only[Tryz.f42];simp(disch:=omega)only[ZA,simprocAttr,szPlacedS.fv];intro h;rw[AG (by omega) (by omega)];simp only[Cj];grind
def Ju(a:Ah)(l:Int):Int:=Cj a.Tiles.length l
def szAssembly.fv(a:Ah×Int):Int:=(Ju) (a.1) (a.2)
def szAssembly.row:A7:=vK (b2 (qR Ah.d_le) qI) rI (λa=> -1<=a.2/\a.2<=1048576) szAssembly.fv
def szAssembly.q:=AU (R:=szAssembly.row) rfl
def szAssembly.ok:AA Tryz.prog 8 szAssembly.row:=by
 refine vw (tC szPlacedS.ok tN) Tryz.func8 rfl (by kernel_rfl) ?_;intro a z;simp only[Tryz.f8];simp(disch:=omega)only[ZA,simprocAttr,szAssembly.fv,szPlacedS.q,szPlacedS.fv];refine⟨z,?_⟩;simp only[Ju,Cj];grind
def eqGlueS.fv(a:(List Ar)×(List Ar)):Bool:=(λa b=>decide (a=b)) (a.1) (a.2)
def eqGlueS.row:A7:=vK (b2 (qS Ar.d_le Ar.c_n) (qS Ar.d_le Ar.c_n)) rB (λa=>True) eqGlueS.fv
def eqGlueS.q:=AU (R:=eqGlueS.row) rfl
def eqGlueS.ok:AA Tryz.prog 113 eqGlueS.row:=by
 refine vw (tC eqGlue.ok tN) Tryz.func113 rfl (by kernel_rfl) ?_;intro a Z;simp only[Tryz.f113];simp(disch:=omega)only[ZA,simprocAttr,eqGlueS.fv];intro h1 h2;simp only[AP];refine⟨λG=> ?_,λG=> ?_⟩
 .have:a.1≠a.2:=λh=>G (by rw[h])
  simp[this]
 have G:a.1.length=a.2.length:=by omega
 refine AR.old ⟨{k:Nat//k<=a.1.length/\a.1.take k=a.2.take k},λk=>⟨[(5,.im (.int .i64 k.1)),(4,.im (.bool false)),(0,.im (.sl false 2 (a.1.map Ar.c))),(1,.im (.sl false 2 (a.2.map Ar.c)))],[],0⟩,λk=>a.1.length - k.1,λk=>⟨by simp[Aj.good,An,Ac,A9,AV.bel],AN _⟩,⟨⟨0,by simp⟩,by simp(disch:=omega)only[ZA,simprocAttr,sub]⟩,λk=> ?_⟩;obtain⟨k,Q,z⟩:=k;simp(disch:=omega)only[ZA,simprocAttr,eqGlue.q,eqGlue.fv,sub,AP];intro _;refine⟨λO=>⟨O,λx hx=>⟨by omega,λy hy=> ?_⟩⟩,λO=> ?_⟩
 .obtain⟨g1,g2⟩:=bJ G Q z hx hy;exact⟨λh=>by simp[g2 (show x≠y from h)],λh=>F2 O h1 ⟨by omega,g1 (show x=y from F8.1 h)⟩⟩
 .rw[DB (by omega),DB (by omega)] at z;simp[z]
def Wv(a b:Tile):decide (a=b)=(decide (a.Name=b.Name) && decide (a.Sides=b.Sides)):=by
 obtain⟨x,y⟩:=a;obtain⟨z,w⟩:=b;simp[Tile.mk.injEq]
def eqTile.fv(a:Tile×Tile):Bool:=(λa b=>decide (a=b)) (a.1) (a.2)
def eqTile.row:A7:=vK (b2 (qR Tile.d_le) (qR Tile.d_le)) rB (λa=>True) eqTile.fv
def eqTile.q:=AU (R:=eqTile.row) rfl
def eqTile.ok:AA Tryz.prog 163 eqTile.row:=by
 refine vw (tC eqInt64S.ok tN) Tryz.func163 rfl (by kernel_rfl) ?_;intro a z;simp only[Tryz.f163];simp(disch:=omega)only[ZA,simprocAttr,eqTile.fv,eqInt64S.q,eqInt64S.fv];rw[Wv]
 grind
def eqTileS.fv(a:(List Tile)×(List Tile)):Bool:=(λa b=>decide (a=b)) (a.1) (a.2)
def eqTileS.row:A7:=vK (b2 (qS Tile.d_le Tile.c_n) (qS Tile.d_le Tile.c_n)) rB (λa=>True) eqTileS.fv
def eqTileS.q:=AU (R:=eqTileS.row) rfl
def eqTileS.ok:AA Tryz.prog 114 eqTileS.row:=by
 refine vw (tC eqTile.ok tN) Tryz.func114 rfl (by kernel_rfl) ?_;intro a Z;simp only[Tryz.f114];simp(disch:=omega)only[ZA,simprocAttr,eqTileS.fv];intro h1 h2;simp only[AP];refine⟨λG=> ?_,λG=> ?_⟩
 .have:a.1≠a.2:=λh=>G (by rw[h])
  simp[this]
 have G:a.1.length=a.2.length:=by omega
 refine AR.old ⟨{k:Nat//k<=a.1.length/\a.1.take k=a.2.take k},λk=>⟨[(5,.im (.int .i64 k.1)),(4,.im (.bool false)),(0,.im (.sl false 2 (a.1.map Tile.c))),(1,.im (.sl false 2 (a.2.map Tile.c)))],[],0⟩,λk=>a.1.length - k.1,λk=>⟨by simp[Aj.good,An,Ac,A9,AV.bel],AN _⟩,⟨⟨0,by simp⟩,by simp(disch:=omega)only[ZA,simprocAttr,sub]⟩,λk=> ?_⟩;obtain⟨k,Q,z⟩:=k;simp(disch:=omega)only[ZA,simprocAttr,eqTile.q,eqTile.fv,sub,AP];intro _;refine⟨λO=>⟨O,λx hx=>⟨by omega,λy hy=> ?_⟩⟩,λO=> ?_⟩
 .obtain⟨g1,g2⟩:=bJ G Q z hx hy;exact⟨λh=>by simp[g2 (show x≠y from h)],λh=>F2 O h1 ⟨by omega,g1 (show x=y from F8.1 h)⟩⟩
 .rw[DB (by omega),DB (by omega)] at z;simp[z]
def eqPlacedS.fv(a:(List Ak)×(List Ak)):Bool:=(λa b=>decide (a=b)) (a.1) (a.2)
def eqPlacedS.row:A7:=vK (b2 (qS Ak.d_le Ak.c_n) (qS Ak.d_le Ak.c_n)) rB (λa=>True) eqPlacedS.fv
def eqPlacedS.q:=AU (R:=eqPlacedS.row) rfl
def eqPlacedS.ok:AA Tryz.prog 58 eqPlacedS.row:=by
 refine vw (tC eqPlaced.ok tN) Tryz.func58 rfl (by kernel_rfl) ?_;intro a Z;simp only[Tryz.f58];simp(disch:=omega)only[ZA,simprocAttr,eqPlacedS.fv];intro h1 h2;simp only[AP];refine⟨λG=> ?_,λG=> ?_⟩
 .have:a.1≠a.2:=λh=>G (by rw[h])
  simp[this]
 have G:a.1.length=a.2.length:=by omega
 refine AR.old ⟨{k:Nat//k<=a.1.length/\a.1.take k=a.2.take k},λk=>⟨[(5,.im (.int .i64 k.1)),(4,.im (.bool false)),(0,.im (.sl false 3 (a.1.map Ak.c))),(1,.im (.sl false 3 (a.2.map Ak.c)))],[],0⟩,λk=>a.1.length - k.1,λk=>⟨by simp[Aj.good,An,Ac,A9,AV.bel],AN _⟩,⟨⟨0,by simp⟩,by simp(disch:=omega)only[ZA,simprocAttr,sub]⟩,λk=> ?_⟩;obtain⟨k,Q,z⟩:=k;simp(disch:=omega)only[ZA,simprocAttr,eqPlaced.q,eqPlaced.fv,sub,AP];intro _;refine⟨λO=>⟨O,λx hx=>⟨by omega,λy hy=> ?_⟩⟩,λO=> ?_⟩
 .obtain⟨g1,g2⟩:=bJ G Q z hx hy;exact⟨λh=>by simp[g2 (show x≠y from h)],λh=>F2 O h1 ⟨by omega,g1 (show x=y from F8.1 h)⟩⟩
 .rw[DB (by omega),DB (by omega)] at z;simp[z]
def eqTileSet.fv(a:AB×AB):Bool:=(λa b=>decide (a=b)) (a.1) (a.2)
def eqTileSet.row:A7:=vK (b2 (qR AB.d_le) (qR AB.d_le)) rB (λa=>True) eqTileSet.fv
def eqTileSet.q:=AU (R:=eqTileSet.row) rfl
def eqTileSet.ok:AA Tryz.prog 59 eqTileSet.row:=by
 refine vw (tC eqGlueS.ok (tC eqTileS.ok tN)) Tryz.func59 rfl (by kernel_rfl) ?_;intro a G;simp only[Tryz.f59];simp(disch:=omega)only[ZA,simprocAttr,eqTileSet.fv,eqGlueS.q,eqGlueS.fv,eqTileS.q,eqTileS.fv];obtain⟨⟨x,y⟩,⟨z,w⟩⟩:=a;simp only[AB.mk.injEq]
 grind
def eqAssembly.fv(a:Ah×Ah):Bool:=(λa b=>decide (a=b)) (a.1) (a.2)
def eqAssembly.row:A7:=vK (b2 (qR Ah.d_le) (qR Ah.d_le)) rB (λa=>True) eqAssembly.fv
def eqAssembly.q:=AU (R:=eqAssembly.row) rfl
def eqAssembly.ok:AA Tryz.prog 17 eqAssembly.row:=by
 refine vw (tC eqPlacedS.ok tN) Tryz.func17 rfl (by kernel_rfl) ?_;intro a G;simp only[Tryz.f17];simp(disch:=omega)only[ZA,simprocAttr,eqAssembly.fv,eqPlacedS.q,eqPlacedS.fv];obtain⟨⟨x⟩,⟨z⟩⟩:=a;simp only[Ah.mk.injEq]
 grind
def toTile.fv(a:Tile):Tile:=(λp=>p) a
def toTile.row:A7:=vK (b1 (qR Tile.d_le)) (rA Tile.d_le) (λa=>a.Sides.length<=1073741824) toTile.fv
def toTile.q:=AU (R:=toTile.row) rfl
def toTile.ok:AA Tryz.prog 144 toTile.row:=by
 refine vw (tC toInt64S.ok tN) Tryz.func144 rfl (by kernel_rfl) ?_;intro a z;simp only[Tryz.f144];simp(disch:=omega)only[ZA,simprocAttr,toTile.fv,toInt64S.q,toInt64S.fv];exact z
def toGlueS.fv(a:(List Ar)):List Ar:=(λp=>p) a
def toGlueS.row:A7:=vK (b1 (qS Ar.d_le Ar.c_n)) (rS Ar.d_le Ar.c_n) (λa=>a.length<=1073741824) toGlueS.fv
def toGlueS.q:=AU (R:=toGlueS.row) rfl
def toGlueS.ok:AA Tryz.prog 95 toGlueS.row:=by
 refine vw (tC toGlue.ok tN) Tryz.func95 rfl (by kernel_rfl) ?_;intro a z;simp only[Tryz.f95];simp(disch:=omega)only[ZA,simprocAttr,toGlueS.fv];intro Q;have aa:a.length<=1073741824:=z;refine⟨by omega,?_⟩;refine AR.old ⟨{k:Nat//k<=a.length},λk=>⟨[(4,.im (.int .i64 k.1)),(3,.own 1),(0,.im (.sl false 2 (a.map Ar.c)))],[(1,(true,.arr 204 2 ((a.take k.1).map Ar.c++List.replicate (a.length - k.1) [.str ByteArray.empty,.int .i64 0])))],2⟩,λk=>a.length - k.1,λk=>⟨by simp[Aj.good,An,Ac,A9,AV.bel],AN _⟩,⟨⟨0,by omega⟩,by simp(disch:=omega)only[ZA,simprocAttr,sub];simp⟩,λk=> ?_⟩;obtain⟨k,O⟩:=k;simp(disch:=omega)only[ZA,simprocAttr,toGlue.q,toGlue.fv,AP,Wc _ _ a k O];intro _;refine⟨λG=> ?_,λG=> ?_⟩
 .refine⟨G,λx Z=>⟨G,G,Hj (Wa Ar.c _ a k x Z) ?_⟩⟩;simp(disch:=omega)only[ZA,simprocAttr,sub];refine⟨⟨k+1,by omega⟩,by simp only;omega,?_,?_⟩
  .rw[AG (by omega) (by omega)];simp only;omega
  .exact Wl Ar.c _ a k x Z
 .rw[Wh Ar.c _ a k (by omega)];simp[Ar.d_R]
def toPlacedS.fv(a:(List Ak)):List Ak:=(λp=>p) a
def toPlacedS.row:A7:=vK (b1 (qS Ak.d_le Ak.c_n)) (rS Ak.d_le Ak.c_n) (λa=>a.length<=1073741824) toPlacedS.fv
def toPlacedS.q:=AU (R:=toPlacedS.row) rfl
def toPlacedS.ok:AA Tryz.prog 49 toPlacedS.row:=by
 refine vw (tC toPlaced.ok tN) Tryz.func49 rfl (by kernel_rfl) ?_;intro a z;simp only[Tryz.f49];simp(disch:=omega)only[ZA,simprocAttr,toPlacedS.fv];intro Q;have aa:a.length<=1073741824:=z;refine⟨by omega,?_⟩;refine AR.old ⟨{k:Nat//k<=a.length},λk=>⟨[(4,.im (.int .i64 k.1)),(3,.own 1),(0,.im (.sl false 3 (a.map Ak.c)))],[(1,(true,.arr 137 3 ((a.take k.1).map Ak.c++List.replicate (a.length - k.1) [.int .i64 0,.int .i64 0,.int .i64 0])))],2⟩,λk=>a.length - k.1,λk=>⟨by simp[Aj.good,An,Ac,A9,AV.bel],AN _⟩,⟨⟨0,by omega⟩,by simp(disch:=omega)only[ZA,simprocAttr,sub];simp⟩,λk=> ?_⟩;obtain⟨k,O⟩:=k;simp(disch:=omega)only[ZA,simprocAttr,toPlaced.q,toPlaced.fv,AP,Wc _ _ a k O];intro _;refine⟨λG=> ?_,λG=> ?_⟩
 .refine⟨G,λx Z=>⟨G,G,Hj (Wa Ak.c _ a k x Z) ?_⟩⟩;simp(disch:=omega)only[ZA,simprocAttr,sub];refine⟨⟨k+1,by omega⟩,by simp only;omega,?_,?_⟩
  .rw[AG (by omega) (by omega)];simp only;omega
  .exact Wl Ak.c _ a k x Z
 .rw[Wh Ak.c _ a k (by omega)];simp[Ak.d_R]
def toTileS.fv(a:(List Tile)):List Tile:=(λp=>p) a
def toTileS.row:A7:=vK (b1 (qS Tile.d_le Tile.c_n)) (rS Tile.d_le Tile.c_n) (λa=>a.length<=1073741824/\ ∀x∈a,x.Sides.length<=1073741824) toTileS.fv
def toTileS.q:=AU (R:=toTileS.row) rfl
def toTileS.ok:AA Tryz.prog 96 toTileS.row:=by
 refine vw (tC toTile.ok tN) Tryz.func96 rfl (by kernel_rfl) ?_;intro a z;simp only[Tryz.f96];simp(disch:=omega)only[ZA,simprocAttr,toTileS.fv];intro Z;have aa:a.length<=1073741824:=z.1;refine⟨by omega,?_⟩;refine AR.old ⟨{k:Nat//k<=a.length},λk=>⟨[(4,.im (.int .i64 k.1)),(3,.own 1),(0,.im (.sl false 2 (a.map Tile.c)))],[(1,(true,.arr 206 2 ((a.take k.1).map Tile.c++List.replicate (a.length - k.1) [.str ByteArray.empty,.sl true 0 []])))],2⟩,λk=>a.length - k.1,λk=>⟨by simp[Aj.good,An,Ac,A9,AV.bel],AN _⟩,⟨⟨0,by omega⟩,by simp(disch:=omega)only[ZA,simprocAttr,sub];simp⟩,λk=> ?_⟩;obtain⟨k,O⟩:=k;simp(disch:=omega)only[ZA,simprocAttr,toTile.q,toTile.fv,AP,Wc _ _ a k O];intro _;refine⟨λG=> ?_,λG=> ?_⟩
 .refine⟨G,λx Q=>⟨z.2 x (AY Q),G,G,Hj (Wa Tile.c _ a k x Q) ?_⟩⟩;simp(disch:=omega)only[ZA,simprocAttr,sub];refine⟨⟨k+1,by omega⟩,by simp only;omega,?_,?_⟩
  .rw[AG (by omega) (by omega)];simp only;omega
  .exact Wl Tile.c _ a k x Q
 .rw[Wh Tile.c _ a k (by omega)];simp[Tile.d_R]
def TO(s:AB):Prop:=s.Glues.length<=1073741824/\s.Tiles.length<=1073741824/\ ∀x∈s.Tiles,x.Sides.length<=1073741824
def toTileSet.fv(a:AB):AB:=(λp=>p) a
def toTileSet.row:A7:=vK (b1 (qR AB.d_le)) (rA AB.d_le) (λa=>TO a) toTileSet.fv
def toTileSet.q:=AU (R:=toTileSet.row) rfl
def toTileSet.ok:AA Tryz.prog 48 toTileSet.row:=by
 refine vw (tC toGlueS.ok (tC toTileS.ok tN)) Tryz.func48 rfl (by kernel_rfl) ?_;intro a z;simp only[Tryz.f48];simp(disch:=omega)only[ZA,simprocAttr,toTileSet.fv,toGlueS.q,toGlueS.fv,toTileS.q,toTileS.fv];exact z
def toAssembly.fv(a:Ah):Ah:=(λp=>p) a
def toAssembly.row:A7:=vK (b1 (qR Ah.d_le)) (rA Ah.d_le) (λa=>a.Tiles.length<=1073741824) toAssembly.fv
def toAssembly.q:=AU (R:=toAssembly.row) rfl
def toAssembly.ok:AA Tryz.prog 12 toAssembly.row:=by
 refine vw (tC toPlacedS.ok tN) Tryz.func12 rfl (by kernel_rfl) ?_;intro a z;simp only[Tryz.f12];simp(disch:=omega)only[ZA,simprocAttr,Ah.d,toAssembly.fv,toPlacedS.q,toPlacedS.fv];exact z
def ZG(s:Az):Prop:=TO s.Set/\s.Seed.Tiles.length<=1073741824
def toSystem.fv(a:Az):Az:=(λp=>p) a
def toSystem.row:A7:=vK (b1 (qR Az.d_le)) (rA Az.d_le) (λa=>ZG a) toSystem.fv
def toSystem.ok:AA Tryz.prog 11 toSystem.row:=by
 refine vw (tC toTileSet.ok (tC toAssembly.ok tN)) Tryz.func11 rfl (by kernel_rfl) ?_;intro a z;simp only[Tryz.f11];simp(disch:=omega)only[ZA,simprocAttr,Ah.d,toSystem.fv,toTileSet.q,toTileSet.fv,toAssembly.q,toAssembly.fv];exact z
def Pw(g:Ar)(l:Int):Int:=Cj g.Name.size l
def szGlue.fv(a:Ar×Int):Int:=(Pw) (a.1) (a.2)
def szGlue.row:A7:=vK (b2 (qR Ar.d_le) qI) rI (λa=> -1<=a.2/\a.2<=1048576/\a.1.Name.size<=140737488355328) szGlue.fv
def szGlue.q:=AU (R:=szGlue.row) rfl
def szGlue.ok:AA Tryz.prog 138 szGlue.row:=by
 refine vw tN Tryz.func138 rfl (by kernel_rfl) ?_;intro a z;simp only[Tryz.f138];simp(disch:=omega)only[ZA,simprocAttr,szGlue.fv];rw[AG (by omega) (by omega)];simp only[Pw,Cj]
 grind
def Ff(g:Tile)(l:Int):Int:=if Cj g.Name.size l<0 then -1 else Cj g.Sides.length (Cj g.Name.size l)
def szTile.fv(a:Tile×Int):Int:=(Ff) (a.1) (a.2)
def szTile.row:A7:=vK (b2 (qR Tile.d_le) qI) rI (λa=> -1<=a.2/\a.2<=1048576/\a.1.Name.size<=140737488355328) szTile.fv
def szTile.q:=AU (R:=szTile.row) rfl
def szTile.ok:AA Tryz.prog 139 szTile.row:=by
 refine vw (tC szInt64S.ok tN) Tryz.func139 rfl (by kernel_rfl) ?_;intro a z;simp only[Tryz.f139];simp(disch:=omega)only[ZA,simprocAttr,szTile.fv,szInt64S.q,szInt64S.fv];rw[AG (by omega) (by omega)];simp only[Ff,Cj]
 grind
def FI{A:Type}(f:A->Int->Int):List A->Int->Int
 |[],l=>l
 |x::r,l=>if f x l<0 then -1 else FI f r (f x l)
def GH(a:List Ar)(l:Int):Int:=if Cj a.length l<0 then -1 else FI Pw a (Cj a.length l)
def szGlueS.fv(a:(List Ar)×Int):Int:=(GH) (a.1) (a.2)
def szGlueS.row:A7:=vK (b2 (qS Ar.d_le Ar.c_n) qI) rI (λa=> -1<=a.2/\a.2<=1048576/\ ∀x∈a.1,x.Name.size<=140737488355328) szGlueS.fv
def szGlueS.q:=AU (R:=szGlueS.row) rfl
def szGlueS.ok:AA Tryz.prog 84 szGlueS.row:=by
 refine vw (tC szGlue.ok tN) Tryz.func84 rfl (by kernel_rfl) ?_;intro a G;simp only[Tryz.f84];simp(disch:=omega)only[ZA,simprocAttr,szGlueS.fv];intro hn;rw[AG (by omega) (by omega)];obtain⟨af,ag,ac⟩:=G;simp only[AP];refine⟨λhl=> ?_,λhl=> ?_⟩
 .simp only[GH,Cj];grind
 have h0:Cj a.1.length a.2=a.2 - a.1.length:=by simp only[Cj];rw[Ag hl]
 refine AR.old ⟨{p:Nat×Int//p.1<=a.1.length/\0<=p.2/\p.2<=1048576/\FI Pw (a.1.drop p.1) p.2=FI Pw a.1 (a.2 - a.1.length)},λp=>⟨[(5,.im (.int .i64 p.1.1)),(1,.im (.int .i64 p.1.2)),(4,.im (.int .i64 0)),(0,.im (.sl false 2 (a.1.map Ar.c)))],[],0⟩,λp=>a.1.length - p.1.1,λp=>⟨by simp[Aj.good,An,Ac,A9,AV.bel],AN _⟩,⟨⟨(0,a.2 - a.1.length),by simp,by simp only;omega,by simp only;omega,by simp⟩,by simp(disch:=omega)only[ZA,simprocAttr,sub]⟩,λp=> ?_⟩;obtain⟨⟨k,l⟩,Z,aa,ab,z⟩:=p;simp only at Z aa ab z;simp(disch:=omega)only[ZA,simprocAttr,szGlue.q,szGlue.fv,sub,AP];intro _;refine⟨λO=>⟨O,λx hx=>⟨⟨by omega,by omega,ac x (AY hx)⟩,?_⟩⟩,λO=> ?_⟩
 .have hd:a.1.drop k=x::a.1.drop (k+1):=by
   rw[UP O];rw[Bh O] at hx;rw[AE hx]
  rw[hd,FI] at z;have ad:Pw x l<=l:=by simp only[Pw,Cj];grind
  have Q: ¬Pw ⟨x.Name,x.Strength⟩ l<0-> ¬Pw x l<0:=λh=>h
  refine⟨λhb=> ?_,λhb=>⟨⟨(k+1,Pw x l),by simp only;omega,by simp only;have:=Q hb;omega,by simp only;omega,?_⟩,by simp only;omega,?_,?_⟩⟩
  .rw[Ao hb] at z;simp only[GH,h0]
   grind
  .rw[Ag hb] at z;exact z
  .rw[AG (by omega) (by omega)];simp only;omega
  .rfl
 .rw[CZ (by omega),FI] at z;simp only[GH,h0]
  grind
def K1(a:List Tile)(l:Int):Int:=if Cj a.length l<0 then -1 else FI Ff a (Cj a.length l)
def szTileS.fv(a:(List Tile)×Int):Int:=(K1) (a.1) (a.2)
def szTileS.row:A7:=vK (b2 (qS Tile.d_le Tile.c_n) qI) rI (λa=> -1<=a.2/\a.2<=1048576/\ ∀x∈a.1,x.Name.size<=140737488355328) szTileS.fv
def szTileS.q:=AU (R:=szTileS.row) rfl
def szTileS.ok:AA Tryz.prog 85 szTileS.row:=by
 refine vw (tC szTile.ok tN) Tryz.func85 rfl (by kernel_rfl) ?_;intro a G;simp only[Tryz.f85];simp(disch:=omega)only[ZA,simprocAttr,szTileS.fv];intro hn;rw[AG (by omega) (by omega)];obtain⟨af,ag,ac⟩:=G;simp only[AP];refine⟨λhl=> ?_,λhl=> ?_⟩
 .simp only[K1,Cj];grind
 have h0:Cj a.1.length a.2=a.2 - a.1.length:=by simp only[Cj];rw[Ag hl]
 refine AR.old ⟨{p:Nat×Int//p.1<=a.1.length/\0<=p.2/\p.2<=1048576/\FI Ff (a.1.drop p.1) p.2=FI Ff a.1 (a.2 - a.1.length)},λp=>⟨[(5,.im (.int .i64 p.1.1)),(1,.im (.int .i64 p.1.2)),(4,.im (.int .i64 0)),(0,.im (.sl false 2 (a.1.map Tile.c)))],[],0⟩,λp=>a.1.length - p.1.1,λp=>⟨by simp[Aj.good,An,Ac,A9,AV.bel],AN _⟩,⟨⟨(0,a.2 - a.1.length),by simp,by simp only;omega,by simp only;omega,by simp⟩,by simp(disch:=omega)only[ZA,simprocAttr,sub]⟩,λp=> ?_⟩;obtain⟨⟨k,l⟩,Z,aa,ab,z⟩:=p;simp only at Z aa ab z;simp(disch:=omega)only[ZA,simprocAttr,szTile.q,szTile.fv,sub,AP];intro _;refine⟨λO=>⟨O,λx hx=>⟨⟨by omega,by omega,ac x (AY hx)⟩,?_⟩⟩,λO=> ?_⟩
 .have hd:a.1.drop k=x::a.1.drop (k+1):=by
   rw[UP O];rw[Bh O] at hx;rw[AE hx]
  rw[hd,FI] at z;have ad:Ff x l<=l:=by simp only[Ff,Cj];grind
  have Q: ¬Ff ⟨x.Name,x.Sides⟩ l<0-> ¬Ff x l<0:=λh=>h
  refine⟨λhb=> ?_,λhb=>⟨⟨(k+1,Ff x l),by simp only;omega,by simp only;have:=Q hb;omega,by simp only;omega,?_⟩,by simp only;omega,?_,?_⟩⟩
  .rw[Ao hb] at z;simp only[K1,h0]
   grind
  .rw[Ag hb] at z;exact z
  .rw[AG (by omega) (by omega)];simp only;omega
  .rfl
 .rw[CZ (by omega),FI] at z;simp only[K1,h0]
  grind
def Om(s:AB):Prop:=(∀x∈s.Glues,x.Name.size<=140737488355328)/\ ∀x∈s.Tiles,x.Name.size<=140737488355328
def Qre{A:Type}{f:A->Int->Int}(hf: ∀x l,0<=l->f x l<=l)(a:List A): ∀(l:Int),0<=l->FI f a l<=l/\ -1<=FI f a l:=by
 induction a with
 |nil=>intro l z;simp[FI];omega
 |cons x r ih=>
  intro l z;simp only[FI];split
  .omega
  .have:=hf x l z
   have:=ih (f x l) (by omega)
   omega
def wQ(a:List Ar)(l:Int)(O: -1<=l): -1<=GH a l/\GH a l<=max l (-1):=by
 simp only[GH];split
 .omega
 .rename_i h;have z:=Qre (f:=Pw) (λx l h=>by simp only[Pw,Cj];grind) a (Cj a.length l) (by omega);have G:Cj a.length l<=max l (-1):=by simp only[Cj];grind
  omega
def Qv0(a:List Tile)(l:Int)(O: -1<=l): -1<=K1 a l/\K1 a l<=max l (-1):=by
 simp only[K1];split
 .omega
 .rename_i h;have z:=Qre (f:=Ff) (λx l h=>by simp only[Ff,Cj];grind) a (Cj a.length l) (by omega);have G:Cj a.length l<=max l (-1):=by simp only[Cj];grind
  omega
def P5(s:AB)(l:Int):Int:=if GH s.Glues l<0 then -1 else K1 s.Tiles (GH s.Glues l)
def xY(s:AB)(l:Int)(G: -1<=l): -1<=P5 s l/\P5 s l<=max l (-1):=by
 have z:=wQ s.Glues l G;have O:=Qv0 s.Tiles (GH s.Glues l) z.1;simp only[P5]
 split<;>omega
def szTileSet.fv(a:AB×Int):Int:=(P5) (a.1) (a.2)
def szTileSet.row:A7:=vK (b2 (qR AB.d_le) qI) rI (λa=> -1<=a.2/\a.2<=1048576/\Om a.1) szTileSet.fv
def szTileSet.q:=AU (R:=szTileSet.row) rfl
def szTileSet.ok:AA Tryz.prog 41 szTileSet.row:=by
 refine vw (tC szGlueS.ok (tC szTileS.ok tN)) Tryz.func41 rfl (by kernel_rfl) ?_;intro a z;simp only[Tryz.f41];simp(disch:=omega)only[ZA,simprocAttr,szTileSet.fv,szGlueS.q,szGlueS.fv,szTileS.q,szTileS.fv];obtain⟨G,O,Q,Z⟩:=z;have hb:=wQ a.1.Glues a.2 G;refine⟨⟨G,O,Q⟩,?_⟩;simp only[P5];split
 .rfl
 .refine⟨⟨hb.1,by omega,Z⟩,?_⟩;have hc:=Qv0 a.1.Tiles _ hb.1
  split<;>omega
def ZI(n:Nat)(l:Int)(z: -1<=l): -1<=Cj n l/\Cj n l<=max l (-1):=by
 simp only[Cj];split<;>omega
def K8(s:Az)(l:Int):Int:=if P5 s.Set l<0 then -1 else Ju s.Seed (P5 s.Set l)
def Yk(s:Az)(l:Int)(G: -1<=l): -1<=K8 s l/\K8 s l<=max l (-1):=by
 have z:=xY s.Set l G;have O:=ZI s.Seed.Tiles.length (P5 s.Set l) z.1;simp only[K8,Ju]
 split<;>omega
def szSystem.fv(a:Az×Int):Int:=(K8) (a.1) (a.2)
def szSystem.row:A7:=vK (b2 (qR Az.d_le) qI) rI (λa=> -1<=a.2/\a.2<=1048576/\Om a.1.Set) szSystem.fv
def szSystem.q:=AU (R:=szSystem.row) rfl
def szSystem.ok:AA Tryz.prog 7 szSystem.row:=by
 refine vw (tC szTileSet.ok (tC szAssembly.ok tN)) Tryz.func7 rfl (by kernel_rfl) ?_;intro a z;simp only[Tryz.f7];simp(disch:=omega)only[ZA,simprocAttr,Ah.d,szSystem.fv,szTileSet.q,szTileSet.fv,szAssembly.q,szAssembly.fv];obtain⟨G,O,Q⟩:=z;have hb:=xY a.1.Set a.2 G;refine⟨⟨G,O,Q⟩,?_⟩;simp only[K8];split
 .rfl
 .refine⟨⟨hb.1,by omega⟩,?_⟩;have hc:=ZI a.1.Seed.Tiles.length _ hb.1;simp only[Ju] at hc⊢
  grind
end Go.Ae
