/- Lemmas. Conditions: none. -/
import Derived.Test.YtpnmcdpbphpklaaGreatDoorP06
import Derived.Test.YtpnmcdpbphpklaaGreatDoorProg
set_option linter.all false
set_option maxHeartbeats 8000000
set_option maxRecDepth 100000
namespace Go.Ae
open Go.Proofs
def TY0:
 (tI Tryz.prog 2=some {size:=1,bytes:=8,agg:=false,kind:= .int .i64,zero:=[.int .i64 0]})/\
 (tI Tryz.prog 3=some {size:=1,bytes:=8,agg:=false,kind:= .int .i64,zero:=[.int .i64 0]})/\
 (tI Tryz.prog 4=some {size:=1,bytes:=1,agg:=false,kind:= .bool,zero:=[.bool false]})/\
 (tI Tryz.prog 5=some {size:=1,bytes:=1,agg:=false,kind:= .int .u8,zero:=[.int .u8 0]})/\
 (tI Tryz.prog 9=some {size:=1,bytes:=16,agg:=false,kind:= .str,zero:=[.str ByteArray.empty]})/\
 (tI Tryz.prog 22=some {size:=1,bytes:=24,agg:=false,kind:= .slice 186,zero:=[.sl true 0 []]})/\
 (tI Tryz.prog 23=some {size:=1,bytes:=24,agg:=false,kind:= .slice 189,zero:=[.sl true 0 []]})/\
 (tI Tryz.prog 25=some {size:=2,bytes:=48,agg:=true,kind:= .struct [(0,1),(1,1)],zero:=[.sl true 0 [],.sl true 0 []]})/\
 (tI Tryz.prog 26=some {size:=1,bytes:=24,agg:=false,kind:= .slice 128,zero:=[.sl true 0 []]})/\
 (tI Tryz.prog 28=some {size:=1,bytes:=24,agg:=true,kind:= .struct [(0,1)],zero:=[.sl true 0 []]})/\
 (tI Tryz.prog 30=some {size:=4,bytes:=80,agg:=true,kind:= .struct [(0,2),(2,1),(3,1)],zero:=[.sl true 0 [],.sl true 0 [],.sl true 0 [],.int .i64 0]})/\
 (tI Tryz.prog 35=some {size:=1,bytes:=24,agg:=false,kind:= .slice 193,zero:=[.sl true 0 []]})/\
 (tI Tryz.prog 36=some {size:=1,bytes:=24,agg:=false,kind:= .slice 195,zero:=[.sl true 0 []]})/\
 (tI Tryz.prog 38=some {size:=2,bytes:=48,agg:=true,kind:= .struct [(0,1),(1,1)],zero:=[.sl true 0 [],.sl true 0 []]})/\
 (tI Tryz.prog 39=some {size:=1,bytes:=24,agg:=false,kind:= .slice 119,zero:=[.sl true 0 []]})/\
 (tI Tryz.prog 41=some {size:=1,bytes:=24,agg:=true,kind:= .struct [(0,1)],zero:=[.sl true 0 []]})/\
 (tI Tryz.prog 43=some {size:=4,bytes:=80,agg:=true,kind:= .struct [(0,2),(2,1),(3,1)],zero:=[.sl true 0 [],.sl true 0 [],.sl true 0 [],.int .i64 0]})/\
 (tI Tryz.prog 49=some {size:=1,bytes:=24,agg:=false,kind:= .slice 41,zero:=[.sl true 0 []]})/\
 (tI Tryz.prog 56=some {size:=1,bytes:=24,agg:=false,kind:= .slice 2,zero:=[.sl true 0 []]})/\
 (tI Tryz.prog 58=some {size:=10,bytes:=192,agg:=true,kind:= .struct [(0,4),(4,4),(8,1),(9,1)],zero:=[.sl true 0 [],.sl true 0 [],.sl true 0 [],.int .i64 0,.sl true 0 [],.sl true 0 [],.sl true 0 [],.int .i64 0,.int .i64 0,.sl true 0 []]}):=by and_intros<;>kernel_rfl
def TY1:
 (tI Tryz.prog 60=some {size:=2,bytes:=16,agg:=true,kind:= .struct [(0,1),(1,1)],zero:=[.int .i64 0,.int .i64 0]})/\
 (tI Tryz.prog 62=some {size:=3,bytes:=24,agg:=true,kind:= .struct [(0,2),(2,1)],zero:=[.int .i64 0,.int .i64 0,.int .i64 0]})/\
 (tI Tryz.prog 64=some {size:=1,bytes:=24,agg:=false,kind:= .slice 72,zero:=[.sl true 0 []]})/\
 (tI Tryz.prog 68=some {size:=10,bytes:=192,agg:=true,kind:= .struct [(0,4),(4,4),(8,1),(9,1)],zero:=[.sl true 0 [],.sl true 0 [],.sl true 0 [],.int .i64 0,.sl true 0 [],.sl true 0 [],.sl true 0 [],.int .i64 0,.int .i64 0,.sl true 0 []]})/\
 (tI Tryz.prog 70=some {size:=2,bytes:=16,agg:=true,kind:= .struct [(0,1),(1,1)],zero:=[.int .i64 0,.int .i64 0]})/\
 (tI Tryz.prog 72=some {size:=3,bytes:=24,agg:=true,kind:= .struct [(0,2),(2,1)],zero:=[.int .i64 0,.int .i64 0,.int .i64 0]})/\
 (tI Tryz.prog 83=some {size:=1,bytes:=8,agg:=false,kind:= .ptr 41,zero:=[.nilp]})/\
 (tI Tryz.prog 85=some {size:=1,bytes:=8,agg:=false,kind:= .ptr 43,zero:=[.nilp]})/\
 (tI Tryz.prog 88=some {size:=1,bytes:=24,agg:=false,kind:= .slice 70,zero:=[.sl true 0 []]})/\
 (tI Tryz.prog 92=some {size:=1,bytes:=8,agg:=false,kind:= .other,zero:=[.nilf]})/\
 (tI Tryz.prog 100=some {size:=1,bytes:=8,agg:=false,kind:= .ptr 68,zero:=[.nilp]})/\
 (tI Tryz.prog 106=some {size:=1,bytes:=8,agg:=false,kind:= .other,zero:=[.nilf]})/\
 (tI Tryz.prog 109=some {size:=1,bytes:=8,agg:=false,kind:= .ptr 166,zero:=[.nilp]})/\
 (tI Tryz.prog 111=some {size:=1,bytes:=8,agg:=false,kind:= .other,zero:=[.nilf]})/\
 (tI Tryz.prog 119=some {size:=3,bytes:=24,agg:=true,kind:= .struct [(0,2),(2,1)],zero:=[.int .i64 0,.int .i64 0,.int .i64 0]})/\
 (tI Tryz.prog 128=some {size:=3,bytes:=24,agg:=true,kind:= .struct [(0,2),(2,1)],zero:=[.int .i64 0,.int .i64 0,.int .i64 0]})/\
 (tI Tryz.prog 130=some {size:=1,bytes:=8,agg:=false,kind:= .other,zero:=[.nilf]})/\
 (tI Tryz.prog 147=some {size:=1,bytes:=8,agg:=false,kind:= .ptr 38,zero:=[.nilp]})/\
 (tI Tryz.prog 151=some {size:=5,bytes:=56,agg:=true,kind:= .struct [(0,1),(1,1),(2,3)],zero:=[.sl true 0 [],.int .i64 0,.int .i64 0,.int .i64 0,.int .i64 0]})/\
 (tI Tryz.prog 152=some {size:=1,bytes:=24,agg:=false,kind:= .slice 151,zero:=[.sl true 0 []]}):=by and_intros<;>kernel_rfl
def TY2:
 (tI Tryz.prog 159=some {size:=1,bytes:=8,agg:=false,kind:= .map 70 2,zero:=[.nilm]})/\
 (tI Tryz.prog 164=some {size:=1,bytes:=8,agg:=false,kind:= .map 70 56,zero:=[.nilm]})/\
 (tI Tryz.prog 166=some {size:=6,bytes:=96,agg:=true,kind:= .struct [(0,4),(4,1),(5,1)],zero:=[.sl true 0 [],.sl true 0 [],.sl true 0 [],.int .i64 0,.nilm,.nilm]})/\
 (tI Tryz.prog 169=some {size:=1,bytes:=8,agg:=false,kind:= .ptr 171,zero:=[.nilp]})/\
 (tI Tryz.prog 171=some {size:=5,bytes:=56,agg:=true,kind:= .struct [(0,1),(1,1),(2,3)],zero:=[.sl true 0 [],.nilp,.int .i64 0,.int .i64 0,.int .i64 0]})/\
 (tI Tryz.prog 172=some {size:=1,bytes:=24,agg:=false,kind:= .slice 169,zero:=[.sl true 0 []]})/\
 (tI Tryz.prog 174=some {size:=1,bytes:=8,agg:=false,kind:= .map 9 4,zero:=[.nilm]})/\
 (tI Tryz.prog 178=some {size:=1,bytes:=8,agg:=false,kind:= .other,zero:=[.nilf]})/\
 (tI Tryz.prog 186=some {size:=2,bytes:=24,agg:=true,kind:= .struct [(0,1),(1,1)],zero:=[.str ByteArray.empty,.int .i64 0]})/\
 (tI Tryz.prog 189=some {size:=2,bytes:=40,agg:=true,kind:= .struct [(0,1),(1,1)],zero:=[.str ByteArray.empty,.sl true 0 []]})/\
 (tI Tryz.prog 193=some {size:=2,bytes:=24,agg:=true,kind:= .struct [(0,1),(1,1)],zero:=[.str ByteArray.empty,.int .i64 0]})/\
 (tI Tryz.prog 195=some {size:=2,bytes:=40,agg:=true,kind:= .struct [(0,1),(1,1)],zero:=[.str ByteArray.empty,.sl true 0 []]})/\
 (tI Tryz.prog 197=some {size:=1,bytes:=8,agg:=false,kind:= .other,zero:=[.nilf]})/\
 (tI Tryz.prog 205=some {size:=1,bytes:=8,agg:=false,kind:= .ptr 207,zero:=[.nilp]})/\
 (tI Tryz.prog 207=some {size:=8,bytes:=128,agg:=true,kind:= .struct [(0,4),(4,1),(5,1),(6,1),(7,1)],zero:=[.sl true 0 [],.sl true 0 [],.sl true 0 [],.int .i64 0,.int .i64 0,.sl true 0 [],.nilm,.bool false]})/\
 (tI Tryz.prog 212=some {size:=1,bytes:=8,agg:=false,kind:= .other,zero:=[.nilf]})/\
 (tI Tryz.prog 218=some {size:=1,bytes:=8,agg:=false,kind:= .other,zero:=[.nilf]})/\
 (tI Tryz.prog 220=some {size:=1,bytes:=8,agg:=false,kind:= .other,zero:=[.nilf]})/\
 (tI Tryz.prog 223=some {size:=1,bytes:=8,agg:=false,kind:= .ptr 226,zero:=[.nilp]})/\
 (tI Tryz.prog 224=some {size:=1,bytes:=24,agg:=false,kind:= .slice 5,zero:=[.sl true 0 []]}):=by and_intros<;>kernel_rfl
def TY3:
 (tI Tryz.prog 226=some {size:=2,bytes:=32,agg:=true,kind:= .struct [(0,1),(1,1)],zero:=[.nilp,.sl true 0 []]})/\
 (tI Tryz.prog 228=some {size:=1,bytes:=16,agg:=false,kind:= .other,zero:=[.nili]})/\
 (tI Tryz.prog 235=some {size:=1,bytes:=8,agg:=false,kind:= .other,zero:=[.nilf]})/\
 (tI Tryz.prog 238=some {size:=1,bytes:=8,agg:=false,kind:= .int .u64,zero:=[.int .u64 0]})/\
 (tI Tryz.prog 243=some {size:=1,bytes:=24,agg:=false,kind:= .slice 277,zero:=[.sl true 0 []]})/\
 (tI Tryz.prog 269=some {size:=8,bytes:=64,agg:=true,kind:= .array 4 70,zero:=[.int .i64 0,.int .i64 0,.int .i64 0,.int .i64 0,.int .i64 0,.int .i64 0,.int .i64 0,.int .i64 0]})/\
 (tI Tryz.prog 272=some {size:=1,bytes:=8,agg:=false,kind:= .ptr 5,zero:=[.nilp]})/\
 (tI Tryz.prog 277=some {size:=3,bytes:=24,agg:=true,kind:= .struct [(0,1),(1,1),(2,1)],zero:=[.int .i64 0,.int .i64 0,.int .i64 0]})/\
 (tI Tryz.prog 278=some {size:=1,bytes:=24,agg:=false,kind:= .slice 56,zero:=[.sl true 0 []]})/\
 (tI Tryz.prog 281=some {size:=1,bytes:=8,agg:=false,kind:= .ptr 319,zero:=[.nilp]})/\
 (tI Tryz.prog 286=some {size:=1,bytes:=24,agg:=false,kind:= .slice 3,zero:=[.sl true 0 []]})/\
 (tI Tryz.prog 295=some {size:=1,bytes:=8,agg:=false,kind:= .int .i64,zero:=[.int .i64 0]})/\
 (tI Tryz.prog 302=some {size:=1,bytes:=4,agg:=false,kind:= .int .u32,zero:=[.int .u32 0]})/\
 (tI Tryz.prog 304=some {size:=1,bytes:=8,agg:=false,kind:= .int .u64,zero:=[.int .u64 0]})/\
 (tI Tryz.prog 311=some {size:=1,bytes:=8,agg:=false,kind:= .other,zero:=[.nilp]})/\
 (tI Tryz.prog 319=some {size:=4,bytes:=80,agg:=true,kind:= .struct [(0,1),(1,1),(2,1),(3,1)],zero:=[.int .i64 0,.sl true 0 [],.sl true 0 [],.sl true 0 []]})/\
 (tI Tryz.prog 323=some {size:=1,bytes:=8,agg:=false,kind:= .other,zero:=[.nilf]})/\
 (tI Tryz.prog 325=some {size:=1,bytes:=8,agg:=false,kind:= .other,zero:=[.nilf]})/\
 (tI Tryz.prog 327=some {size:=2,bytes:=16,agg:=true,kind:= .array 2 2,zero:=[.int .i64 0,.int .i64 0]})/\
 (tI Tryz.prog 328=some {size:=1,bytes:=8,agg:=false,kind:= .ptr 359,zero:=[.nilp]}):=by and_intros<;>kernel_rfl
def TY4:
 (tI Tryz.prog 332=some {size:=1,bytes:=8,agg:=false,kind:= .int .u64,zero:=[.int .u64 0]})/\
 (tI Tryz.prog 336=some {size:=1,bytes:=8,agg:=false,kind:= .ptr 3,zero:=[.nilp]})/\
 (tI Tryz.prog 340=some {size:=24,bytes:=24,agg:=true,kind:= .array 24 5,zero:=[.int .u8 0,.int .u8 0,.int .u8 0,.int .u8 0,.int .u8 0,.int .u8 0,.int .u8 0,.int .u8 0,.int .u8 0,.int .u8 0,.int .u8 0,.int .u8 0,.int .u8 0,.int .u8 0,.int .u8 0,.int .u8 0,.int .u8 0,.int .u8 0,.int .u8 0,.int .u8 0,.int .u8 0,.int .u8 0,.int .u8 0,.int .u8 0]})/\
 (tI Tryz.prog 350=some {size:=1,bytes:=24,agg:=false,kind:= .slice 351,zero:=[.sl true 0 []]})/\
 (tI Tryz.prog 351=some {size:=1,bytes:=8,agg:=false,kind:= .ptr 353,zero:=[.nilp]})/\
 (tI Tryz.prog 353=some {size:=2,bytes:=16,agg:=true,kind:= .struct [(0,1),(1,1)],zero:=[.nilp,.int .i64 0]})/\
 (tI Tryz.prog 355=some {size:=1,bytes:=8,agg:=false,kind:= .map 2 3,zero:=[.nilm]})/\
 (tI Tryz.prog 359=some {size:=2,bytes:=48,agg:=true,kind:= .struct [(0,1),(1,1)],zero:=[.sl true 0 [],.sl true 0 []]})/\
 (tI Tryz.prog 367=some {size:=20,bytes:=160,agg:=true,kind:= .array 20 304,zero:=[.int .u64 0,.int .u64 0,.int .u64 0,.int .u64 0,.int .u64 0,.int .u64 0,.int .u64 0,.int .u64 0,.int .u64 0,.int .u64 0,.int .u64 0,.int .u64 0,.int .u64 0,.int .u64 0,.int .u64 0,.int .u64 0,.int .u64 0,.int .u64 0,.int .u64 0,.int .u64 0]})/\
 (tI Tryz.prog 368=some {size:=65,bytes:=65,agg:=true,kind:= .array 65 5,zero:=[.int .u8 0,.int .u8 0,.int .u8 0,.int .u8 0,.int .u8 0,.int .u8 0,.int .u8 0,.int .u8 0,.int .u8 0,.int .u8 0,.int .u8 0,.int .u8 0,.int .u8 0,.int .u8 0,.int .u8 0,.int .u8 0,.int .u8 0,.int .u8 0,.int .u8 0,.int .u8 0,.int .u8 0,.int .u8 0,.int .u8 0,.int .u8 0,.int .u8 0,.int .u8 0,.int .u8 0,.int .u8 0,.int .u8 0,.int .u8 0,.int .u8 0,.int .u8 0,.int .u8 0,.int .u8 0,.int .u8 0,.int .u8 0,.int .u8 0,.int .u8 0,.int .u8 0,.int .u8 0,.int .u8 0,.int .u8 0,.int .u8 0,.int .u8 0,.int .u8 0,.int .u8 0,.int .u8 0,.int .u8 0,.int .u8 0,.int .u8 0,.int .u8 0,.int .u8 0,.int .u8 0,.int .u8 0,.int .u8 0,.int .u8 0,.int .u8 0,.int .u8 0,.int .u8 0,.int .u8 0,.int .u8 0,.int .u8 0,.int .u8 0,.int .u8 0,.int .u8 0]})/\
 (tI Tryz.prog 372=some {size:=1,bytes:=8,agg:=false,kind:= .other,zero:=[.nilc]})/\
 (tI Tryz.prog 378=some {size:=32,bytes:=32,agg:=true,kind:= .array 32 5,zero:=[.int .u8 0,.int .u8 0,.int .u8 0,.int .u8 0,.int .u8 0,.int .u8 0,.int .u8 0,.int .u8 0,.int .u8 0,.int .u8 0,.int .u8 0,.int .u8 0,.int .u8 0,.int .u8 0,.int .u8 0,.int .u8 0,.int .u8 0,.int .u8 0,.int .u8 0,.int .u8 0,.int .u8 0,.int .u8 0,.int .u8 0,.int .u8 0,.int .u8 0,.int .u8 0,.int .u8 0,.int .u8 0,.int .u8 0,.int .u8 0,.int .u8 0,.int .u8 0]})/\
 (tI Tryz.prog 379=some {size:=64,bytes:=64,agg:=true,kind:= .array 64 5,zero:=[.int .u8 0,.int .u8 0,.int .u8 0,.int .u8 0,.int .u8 0,.int .u8 0,.int .u8 0,.int .u8 0,.int .u8 0,.int .u8 0,.int .u8 0,.int .u8 0,.int .u8 0,.int .u8 0,.int .u8 0,.int .u8 0,.int .u8 0,.int .u8 0,.int .u8 0,.int .u8 0,.int .u8 0,.int .u8 0,.int .u8 0,.int .u8 0,.int .u8 0,.int .u8 0,.int .u8 0,.int .u8 0,.int .u8 0,.int .u8 0,.int .u8 0,.int .u8 0,.int .u8 0,.int .u8 0,.int .u8 0,.int .u8 0,.int .u8 0,.int .u8 0,.int .u8 0,.int .u8 0,.int .u8 0,.int .u8 0,.int .u8 0,.int .u8 0,.int .u8 0,.int .u8 0,.int .u8 0,.int .u8 0,.int .u8 0,.int .u8 0,.int .u8 0,.int .u8 0,.int .u8 0,.int .u8 0,.int .u8 0,.int .u8 0,.int .u8 0,.int .u8 0,.int .u8 0,.int .u8 0,.int .u8 0,.int .u8 0,.int .u8 0,.int .u8 0]}):=by and_intros<;>kernel_rfl
def KY0:
 (BK Tryz.prog 2=some ⟨false,[.int .i64]⟩)/\
 (BK Tryz.prog 3=some ⟨false,[.int .i64]⟩)/\
 (BK Tryz.prog 4=some ⟨false,[.bool]⟩)/\
 (BK Tryz.prog 5=some ⟨false,[.int .u8]⟩)/\
 (BK Tryz.prog 9=some ⟨false,[.str]⟩)/\
 (BK Tryz.prog 60=some ⟨true,[.int .i64,.int .i64]⟩)/\
 (Tryz.prog.eqGuardType Tryz.prog.depth 60=false)/\
 (BK Tryz.prog 62=some ⟨true,[.int .i64,.int .i64,.int .i64]⟩)/\
 (Tryz.prog.eqGuardType Tryz.prog.depth 62=false)/\
 (BK Tryz.prog 70=some ⟨true,[.int .i64,.int .i64]⟩)/\
 (Tryz.prog.eqGuardType Tryz.prog.depth 70=false)/\
 (BK Tryz.prog 72=some ⟨true,[.int .i64,.int .i64,.int .i64]⟩)/\
 (Tryz.prog.eqGuardType Tryz.prog.depth 72=false)/\
 (BK Tryz.prog 119=some ⟨true,[.int .i64,.int .i64,.int .i64]⟩)/\
 (Tryz.prog.eqGuardType Tryz.prog.depth 119=false)/\
 (BK Tryz.prog 128=some ⟨true,[.int .i64,.int .i64,.int .i64]⟩)/\
 (Tryz.prog.eqGuardType Tryz.prog.depth 128=false)/\
 (BK Tryz.prog 186=some ⟨true,[.str,.int .i64]⟩)/\
 (Tryz.prog.eqGuardType Tryz.prog.depth 186=false)/\
 (BK Tryz.prog 193=some ⟨true,[.str,.int .i64]⟩):=by and_intros<;>kernel_rfl
def KY1:
 (Tryz.prog.eqGuardType Tryz.prog.depth 193=false)/\
 (BK Tryz.prog 238=some ⟨false,[.int .u64]⟩)/\
 (BK Tryz.prog 277=some ⟨true,[.int .i64,.int .i64,.int .i64]⟩)/\
 (Tryz.prog.eqGuardType Tryz.prog.depth 277=false)/\
 (BK Tryz.prog 295=some ⟨false,[.int .i64]⟩)/\
 (BK Tryz.prog 302=some ⟨false,[.int .u32]⟩)/\
 (BK Tryz.prog 304=some ⟨false,[.int .u64]⟩)/\
 (BK Tryz.prog 332=some ⟨false,[.int .u64]⟩):=by and_intros<;>kernel_rfl
def CY0:True/\True:=⟨trivial,trivial⟩
def CS:Tryz.prog.follows .mixedOrders=true:=by kernel_rfl
end Go.Ae
namespace Go.Ae
def kI:PK->Option Int
 | .val (.int .i64 x)=>some x
 |_=>none
def kU:PK->Option Int
 | .val (.int .u64 x)=>some x
 |_=>none
def kY:PK->Option Int
 | .val (.int .u8 x)=>some x
 |_=>none
def kB:PK->Option Bool
 | .val (.bool x)=>some x
 |_=>none
def kT:PK->Option ByteArray
 | .val (.str x)=>some x
 |_=>none
def kR{A:Type}(f:List D->Option A):PK->Option A
 | .val (.agg x)=>f x
 |_=>none
def kP{A:Type}(f:List D->Option A)(n:Nat):PK->Option A
 | .ptr x=>f (x.take n)
 |_=>none
def kS{A:Type}(f:List D->Option A):PK->Option (List A)
 | .val (.sl _ _ x)=>AQ f x
 |_=>none
def wD: ∀p a,kI p=some a->C9 p (.val (.int .i64 a)):=by
 intro p a h;unfold kI at h;split at h
 .obtain rfl:=Aw h;exact C9.refl _
 .cases h
def wH: ∀p a,kU p=some a->C9 p (.val (.int .u64 a)):=by
 intro p a h;unfold kU at h;split at h
 .obtain rfl:=Aw h;exact C9.refl _
 .cases h
def wI: ∀p a,kY p=some a->C9 p (.val (.int .u8 a)):=by
 intro p a h;unfold kY at h;split at h
 .obtain rfl:=Aw h;exact C9.refl _
 .cases h
def wC: ∀p a,kB p=some a->C9 p (.val (.bool a)):=by
 intro p a h;unfold kB at h;split at h
 .obtain rfl:=Aw h;exact C9.refl _
 .cases h
def wG: ∀p a,kT p=some a->C9 p (.val (.str a)):=by
 intro p a h;unfold kT at h;split at h
 .obtain rfl:=Aw h;exact C9.refl _
 .cases h
section
variable {A:Type}{f:List D->Option A}{e:A->List D}
def SH(hf: ∀ds x,f ds=some x->CM ds (e x)): ∀p a,kR f p=some a->C9 p (.val (.agg (e a))):=by
 intro p a h;unfold kR at h;split at h
 .exact Zf (hf _ _ h)
 .cases h
def wE(n:Nat)(hf: ∀ds x,f ds=some x->CM ds (e x)): ∀p a,kP f n p=some a->C9 p (.ptr (e a)):=by
 intro p a h;unfold kP at h;split at h
 .exact GD.trans_take (hf _ _ h)
 .cases h
def aH(k:Nat)(hf: ∀ds x,f ds=some x->CM ds (e x))(z: ∀x,(e x).length=k): ∀p a,kS f p=some a->C9 p (.val (.sl false k (a.map e))):=by
 intro p a h;unfold kS at h;split at h
 .exact E4 (Et hf _ _ h) (by simp only[BI];rintro r ⟨y,_,rfl⟩;exact z y)
 .cases h
end
def a1{z:Type}(G:PK->Option z):List PK->Option (z)
 |[O]=>(G O).bind λQ=>some Q
 |_=>none
def ZV{G:Type}{Q:PK->Option G}{O:G->PK}(h0: ∀p a,Q p=some a->C9 p (O a)): ∀z a,a1 Q z=some a->BM z [O (a)]:=by
 intro z a h;unfold a1 at h;split at h
 .simp only[EP,AI] at h;obtain⟨Z,g0,rfl⟩:=h;exact⟨h0 _ _ g0,trivial⟩
 .cases h
def a2{z G:Type}(O:PK->Option z)(Q:PK->Option G):List PK->Option (z×G)
 |[Z,x1]=>(O Z).bind λy0=>(Q x1).bind λy1=>some (y0,y1)
 |_=>none
def ZW{G:Type}{f0:PK->Option G}{Q:G->PK}{O:Type}{f1:PK->Option O}{Z:O->PK}(h0: ∀p a,f0 p=some a->C9 p (Q a))(h1: ∀p a,f1 p=some a->C9 p (Z a)): ∀z a,a2 f0 f1 z=some a->BM z [Q (a.1),Z (a.2)]:=by
 intro z a h;unfold a2 at h;split at h
 .simp only[EP,AI] at h;obtain⟨y0,g0,y1,g1,rfl⟩:=h;exact⟨h0 _ _ g0,h1 _ _ g1,trivial⟩
 .cases h
def a3{z G O:Type}(Q:PK->Option z)(Z:PK->Option G)(f2:PK->Option O):List PK->Option (z×G×O)
 |[x0,x1,x2]=>(Q x0).bind λy0=>(Z x1).bind λy1=>(f2 x2).bind λy2=>some (y0,y1,y2)
 |_=>none
def vH{G:Type}{f0:PK->Option G}{Z:G->PK}{O:Type}{f1:PK->Option O}{e1:O->PK}{Q:Type}{f2:PK->Option Q}{e2:Q->PK}(h0: ∀p a,f0 p=some a->C9 p (Z a))(h1: ∀p a,f1 p=some a->C9 p (e1 a))(h2: ∀p a,f2 p=some a->C9 p (e2 a)): ∀z a,a3 f0 f1 f2 z=some a->BM z [Z (a.1),e1 (a.2.1),e2 (a.2.2)]:=by
 intro z a h;unfold a3 at h;split at h
 .simp only[EP,AI] at h;obtain⟨y0,g0,y1,g1,y2,g2,rfl⟩:=h;exact⟨h0 _ _ g0,h1 _ _ g1,h2 _ _ g2,trivial⟩
 .cases h
def a4{z G O Q:Type}(Z:PK->Option z)(f1:PK->Option G)(f2:PK->Option O)(f3:PK->Option Q):List PK->Option (z×G×O×Q)
 |[x0,x1,x2,x3]=>(Z x0).bind λy0=>(f1 x1).bind λy1=>(f2 x2).bind λy2=>(f3 x3).bind λy3=>some (y0,y1,y2,y3)
 |_=>none
def vI{G:Type}{f0:PK->Option G}{e0:G->PK}{O:Type}{f1:PK->Option O}{e1:O->PK}{Q:Type}{f2:PK->Option Q}{e2:Q->PK}{Z:Type}{f3:PK->Option Z}{e3:Z->PK}(h0: ∀p a,f0 p=some a->C9 p (e0 a))(h1: ∀p a,f1 p=some a->C9 p (e1 a))(h2: ∀p a,f2 p=some a->C9 p (e2 a))(h3: ∀p a,f3 p=some a->C9 p (e3 a)): ∀z a,a4 f0 f1 f2 f3 z=some a->BM z [e0 (a.1),e1 (a.2.1),e2 (a.2.2.1),e3 (a.2.2.2)]:=by
 intro z a h;unfold a4 at h;split at h
 .simp only[EP,AI] at h;obtain⟨y0,g0,y1,g1,y2,g2,y3,g3,rfl⟩:=h;exact⟨h0 _ _ g0,h1 _ _ g1,h2 _ _ g2,h3 _ _ g3,trivial⟩
 .cases h
def a5{z G O Q Z:Type}(f0:PK->Option z)(f1:PK->Option G)(f2:PK->Option O)(f3:PK->Option Q)(f4:PK->Option Z):List PK->Option (z×G×O×Q×Z)
 |[x0,x1,x2,x3,x4]=>(f0 x0).bind λy0=>(f1 x1).bind λy1=>(f2 x2).bind λy2=>(f3 x3).bind λy3=>(f4 x4).bind λy4=>some (y0,y1,y2,y3,y4)
 |_=>none
def vJ{G:Type}{f0:PK->Option G}{e0:G->PK}{O:Type}{f1:PK->Option O}{e1:O->PK}{Q:Type}{f2:PK->Option Q}{e2:Q->PK}{Z:Type}{f3:PK->Option Z}{e3:Z->PK}{A4:Type}{f4:PK->Option A4}{e4:A4->PK}(h0: ∀p a,f0 p=some a->C9 p (e0 a))(h1: ∀p a,f1 p=some a->C9 p (e1 a))(h2: ∀p a,f2 p=some a->C9 p (e2 a))(h3: ∀p a,f3 p=some a->C9 p (e3 a))(h4: ∀p a,f4 p=some a->C9 p (e4 a)): ∀z a,a5 f0 f1 f2 f3 f4 z=some a->BM z [e0 (a.1),e1 (a.2.1),e2 (a.2.2.1),e3 (a.2.2.2.1),e4 (a.2.2.2.2)]:=by
 intro z a h;unfold a5 at h;split at h
 .simp only[EP,AI] at h;obtain⟨y0,g0,y1,g1,y2,g2,y3,g3,y4,g4,rfl⟩:=h;exact⟨h0 _ _ g0,h1 _ _ g1,h2 _ _ g2,h3 _ _ g3,h4 _ _ g4,trivial⟩
 .cases h
def a6{z G O Q Z A5:Type}(f0:PK->Option z)(f1:PK->Option G)(f2:PK->Option O)(f3:PK->Option Q)(f4:PK->Option Z)(f5:PK->Option A5):List PK->Option (z×G×O×Q×Z×A5)
 |[x0,x1,x2,x3,x4,x5]=>(f0 x0).bind λy0=>(f1 x1).bind λy1=>(f2 x2).bind λy2=>(f3 x3).bind λy3=>(f4 x4).bind λy4=>(f5 x5).bind λy5=>some (y0,y1,y2,y3,y4,y5)
 |_=>none
def vL{G:Type}{f0:PK->Option G}{e0:G->PK}{O:Type}{f1:PK->Option O}{e1:O->PK}{Q:Type}{f2:PK->Option Q}{e2:Q->PK}{Z:Type}{f3:PK->Option Z}{e3:Z->PK}{A4:Type}{f4:PK->Option A4}{e4:A4->PK}{A5:Type}{f5:PK->Option A5}{e5:A5->PK}(h0: ∀p a,f0 p=some a->C9 p (e0 a))(h1: ∀p a,f1 p=some a->C9 p (e1 a))(h2: ∀p a,f2 p=some a->C9 p (e2 a))(h3: ∀p a,f3 p=some a->C9 p (e3 a))(h4: ∀p a,f4 p=some a->C9 p (e4 a))(h5: ∀p a,f5 p=some a->C9 p (e5 a)): ∀z a,a6 f0 f1 f2 f3 f4 f5 z=some a->BM z [e0 (a.1),e1 (a.2.1),e2 (a.2.2.1),e3 (a.2.2.2.1),e4 (a.2.2.2.2.1),e5 (a.2.2.2.2.2)]:=by
 intro z a h;unfold a6 at h;split at h
 .simp only[EP,AI] at h;obtain⟨y0,g0,y1,g1,y2,g2,y3,g3,y4,g4,y5,g5,rfl⟩:=h;exact⟨h0 _ _ g0,h1 _ _ g1,h2 _ _ g2,h3 _ _ g3,h4 _ _ g4,h5 _ _ g5,trivial⟩
 .cases h
def a7{z G O Q Z A5 A6:Type}(f0:PK->Option z)(f1:PK->Option G)(f2:PK->Option O)(f3:PK->Option Q)(f4:PK->Option Z)(f5:PK->Option A5)(f6:PK->Option A6):List PK->Option (z×G×O×Q×Z×A5×A6)
 |[x0,x1,x2,x3,x4,x5,x6]=>(f0 x0).bind λy0=>(f1 x1).bind λy1=>(f2 x2).bind λy2=>(f3 x3).bind λy3=>(f4 x4).bind λy4=>(f5 x5).bind λy5=>(f6 x6).bind λy6=>some (y0,y1,y2,y3,y4,y5,y6)
 |_=>none
def vM{G:Type}{f0:PK->Option G}{e0:G->PK}{O:Type}{f1:PK->Option O}{e1:O->PK}{Q:Type}{f2:PK->Option Q}{e2:Q->PK}{Z:Type}{f3:PK->Option Z}{e3:Z->PK}{A4:Type}{f4:PK->Option A4}{e4:A4->PK}{A5:Type}{f5:PK->Option A5}{e5:A5->PK}{A6:Type}{f6:PK->Option A6}{e6:A6->PK}(h0: ∀p a,f0 p=some a->C9 p (e0 a))(h1: ∀p a,f1 p=some a->C9 p (e1 a))(h2: ∀p a,f2 p=some a->C9 p (e2 a))(h3: ∀p a,f3 p=some a->C9 p (e3 a))(h4: ∀p a,f4 p=some a->C9 p (e4 a))(h5: ∀p a,f5 p=some a->C9 p (e5 a))(h6: ∀p a,f6 p=some a->C9 p (e6 a)): ∀z a,a7 f0 f1 f2 f3 f4 f5 f6 z=some a->BM z [e0 (a.1),e1 (a.2.1),e2 (a.2.2.1),e3 (a.2.2.2.1),e4 (a.2.2.2.2.1),e5 (a.2.2.2.2.2.1),e6 (a.2.2.2.2.2.2)]:=by
 intro z a h;unfold a7 at h;split at h
 .simp only[EP,AI] at h;obtain⟨y0,g0,y1,g1,y2,g2,y3,g3,y4,g4,y5,g5,y6,g6,rfl⟩:=h;exact⟨h0 _ _ g0,h1 _ _ g1,h2 _ _ g2,h3 _ _ g3,h4 _ _ g4,h5 _ _ g5,h6 _ _ g6,trivial⟩
 .cases h
def Jl{A B E F:Type}(f:D->Option A)(g:D->Option B)(k:D->Option E)(m:D->Option F):D->Option (A×B×E×F)
 | .tup [x,y,z,w]=>(f x).bind λa=>(g y).bind λb=>(k z).bind λc=>(m w).bind λd=>some (a,b,c,d)
 |_=>none
def UR{A B E F:Type}{f:D->Option A}{g:D->Option B}{k:D->Option E}{m:D->Option F}{e:A->D}{e':B->D}{e'':E->D}{z:F->D}(hf: ∀d x,f d=some x->Le d (e x))(hg: ∀d x,g d=some x->Le d (e' x))(hk: ∀d x,k d=some x->Le d (e'' x))(hm: ∀d x,m d=some x->Le d (z x)):
 ∀d (x:A×B×E×F),Jl f g k m d=some x->Le d (.tup [e x.1,e' x.2.1,e'' x.2.2.1,z x.2.2.2]):=by
 intro d x h;unfold Jl at h;split at h
 .simp only[EP,AI] at h;obtain⟨a,G,b,O,c,Q,w,Z,rfl⟩:=h;exact Ki ⟨hf _ _ G,hg _ _ O,hk _ _ Q,hm _ _ Z,trivial⟩
 .cases h
def Af.c_n(x:Af):(Af.c x).length=3:=rfl
def Av.c_n(x:Av):(Av.c x).length=2:=rfl
def Ba.c_n(x:Ba):(Ba.c x).length=3:=rfl
def Aj.c_n(x:Aj):(Aj.c x).length=3:=rfl
def Ac.c_n(x:Ac):(Ac.c x).length=2:=rfl
def Tile.c_n(x:Tile):(Tile.c x).length=2:=rfl
def EM(x:Int):(Ao x).length=1:=rfl
def MB(x:List Int):(Du x).length=1:=rfl
structure QK(A:Type) where
 d:PK->Option A
 e:A->PK
 l: ∀p a,d p=some a->C9 p (e a)
def qI:QK Int:=⟨kI,λa=> .val (.int .i64 a),wD⟩
def qU:QK Int:=⟨kU,λa=> .val (.int .u64 a),wH⟩
def qY:QK Int:=⟨kY,λa=> .val (.int .u8 a),wI⟩
def qB:QK Bool:=⟨kB,λa=> .val (.bool a),wC⟩
def qT:QK ByteArray:=⟨kT,λa=> .val (.str a),wG⟩
section
variable {A:Type}{f:List D->Option A}{e:A->List D}
def qR(h: ∀ds x,f ds=some x->CM ds (e x)):QK A:=⟨kR f,λa=> .val (.agg (e a)),SH h⟩
def qP(n:Nat)(h: ∀ds x,f ds=some x->CM ds (e x)):QK A:=⟨kP f n,λa=> .ptr (e a),wE n h⟩
def qS{k:Nat}(h: ∀ds x,f ds=some x->CM ds (e x))(z: ∀x,(e x).length=k):QK (List A):=⟨kS f,λa=> .val (.sl false k (a.map e)),aH k h z⟩
end
structure AK(A:Type) where
 r:List PK->Option A
 e:A->List PK
 l: ∀ps a,r ps=some a->BM ps (e a)
 n:Nat
 w: ∀a,(e a).length=n
def b1{z:Type}(p0:QK z):AK (z):=⟨a1 p0.d,λa=>[p0.e (a)],ZV p0.l,1,λ_=>rfl⟩
def b2{z G:Type}(p0:QK z)(p1:QK G):AK (z×G):=⟨a2 p0.d p1.d,λa=>[p0.e (a.1),p1.e (a.2)],ZW p0.l p1.l,2,λ_=>rfl⟩
def b3{G O Q:Type}(p0:QK G)(p1:QK O)(z:QK Q):AK (G×O×Q):=⟨a3 p0.d p1.d z.d,λa=>[p0.e (a.1),p1.e (a.2.1),z.e (a.2.2)],vH p0.l p1.l z.l,3,λ_=>rfl⟩
def b4{O Q Z A3:Type}(p0:QK O)(p1:QK Q)(z:QK Z)(G:QK A3):AK (O×Q×Z×A3):=⟨a4 p0.d p1.d z.d G.d,λa=>[p0.e (a.1),p1.e (a.2.1),z.e (a.2.2.1),G.e (a.2.2.2)],vI p0.l p1.l z.l G.l,4,λ_=>rfl⟩
def b5{Q Z A2 A3 A4:Type}(p0:QK Q)(p1:QK Z)(z:QK A2)(G:QK A3)(O:QK A4):AK (Q×Z×A2×A3×A4):=⟨a5 p0.d p1.d z.d G.d O.d,λa=>[p0.e (a.1),p1.e (a.2.1),z.e (a.2.2.1),G.e (a.2.2.2.1),O.e (a.2.2.2.2)],vJ p0.l p1.l z.l G.l O.l,5,λ_=>rfl⟩
def b6{Z A1 A2 A3 A4 A5:Type}(p0:QK Z)(p1:QK A1)(z:QK A2)(G:QK A3)(O:QK A4)(Q:QK A5):AK (Z×A1×A2×A3×A4×A5):=⟨a6 p0.d p1.d z.d G.d O.d Q.d,λa=>[p0.e (a.1),p1.e (a.2.1),z.e (a.2.2.1),G.e (a.2.2.2.1),O.e (a.2.2.2.2.1),Q.e (a.2.2.2.2.2)],vL p0.l p1.l z.l G.l O.l Q.l,6,λ_=>rfl⟩
def b7{A0 A1 A2 A3 A4 A5 A6:Type}(p0:QK A0)(p1:QK A1)(z:QK A2)(G:QK A3)(O:QK A4)(Q:QK A5)(Z:QK A6):AK (A0×A1×A2×A3×A4×A5×A6):=⟨a7 p0.d p1.d z.d G.d O.d Q.d Z.d,λa=>[p0.e (a.1),p1.e (a.2.1),z.e (a.2.2.1),G.e (a.2.2.2.1),O.e (a.2.2.2.2.1),Q.e (a.2.2.2.2.2.1),Z.e (a.2.2.2.2.2.2)],vM p0.l p1.l z.l G.l O.l Q.l Z.l,7,λ_=>rfl⟩
structure RK(B:Type) where
 c:D->Option B
 e:B->D
 l: ∀d b,c d=some b->Le d (e b)
def rI:RK Int:=⟨DJ,D.int .i64,Nf⟩
def rB:RK Bool:=⟨VL,D.bool,pJ⟩
def rT:RK ByteArray:=⟨UP,D.str,YY⟩
section
variable {A:Type}{f:List D->Option A}{e:A->List D}
def rA(h: ∀ds x,f ds=some x->CM ds (e x)):RK A:=⟨EH f,λb=>D.agg (e b),MU h⟩
def rS{k:Nat}(h: ∀ds x,f ds=some x->CM ds (e x))(z: ∀x,(e x).length=k):RK (List A):=⟨Qp f,λb=>D.sl false k (b.map e),qN h z⟩
end
def r2{A B:Type}(p:RK A)(q:RK B):RK (A×B):=⟨jT p.c q.c,λb=>D.tup [p.e b.1,q.e b.2],Qbz p.l q.l⟩
def r3{A B C:Type}(p:RK A)(q:RK B)(r:RK C):RK (A×B×C):=⟨Jk p.c q.c r.c,λb=>D.tup [p.e b.1,q.e b.2.1,r.e b.2.2],UQ p.l q.l r.l⟩
def r4{A B C E:Type}(p:RK A)(q:RK B)(r:RK C)(s:RK E):RK (A×B×C×E):=⟨Jl p.c q.c r.c s.c,λb=>D.tup [p.e b.1,q.e b.2.1,r.e b.2.2.1,s.e b.2.2.2],UR p.l q.l r.l s.l⟩
def tN{P:Program}:Jr P (Qn []):=Qv [] (by simp)
def tC{P:Program}{g:Nat}{r:Ax}{l:List (Nat×Ax)}(h:Ga P g r)(Q:Jr P (Qn l)):Jr P (Qn ((g,r)::l)):=by
 intro g' G h' nx K z;simp only[Qn] at z;split at z
 .rename_i O;subst O;exact h _ _ _ _ z
 .exact Q _ _ _ _ _ z
def ZA0:=J @VC0<|J @VC1<|J @VC2<|J @VC3<|J @VC4<|J @VC5<|J @VC6<|J @VC7<|J @VC8<|J @VC9<|J @VC10<|J @VC11<|J @VC12<|J @VC13<|J @VC14<|J @VC15<|J @VC16<|J @VC17<|J @VC18<|J @VC19<|J @VC20<|J @VC21<|J @VC22<|@VC23
def ZA1:=J @VC24<|J @VC25<|J @VC26<|J @VC27<|J @VC28<|J @VC29<|J @VC30<|J @VC31<|J @VC32<|J @VC33<|J @VC34<|J @VC35<|J @VC36<|J @VC37<|J @VC38<|J @VC39<|J @VC40<|J @VC41<|J @VC42<|J @VC43<|J @ZdN.{0}<|J @JP<|J @Bool.not_eq_false'<|@AV.im.injEq
def ZA2:=J @D.int.injEq<|J @D.bool.injEq<|J @D.str.injEq<|J @D.sl.injEq<|J @D.agg.injEq<|J @AV.own.injEq<|J @AV.ptr.injEq<|J @Ej.{0,0}<|J @Ag.cells.injEq<|J @Ag.arr.injEq<|J @V7.{0}<|J @Int.cast_ofNat_Int<|J @ZfG<|J @Int.ofNat_le<|J @ZeQ<|J @fO<|J @I5<|J @AO<|J @HY<|J @Xn<|J @Xm<|J @ZfB<|J @Zfu<|@Bo
def ZA3:=J @Ho<|J @F4<|J @Bb.{0,0}<|J @Cs.{0,0}<|J @JN.{0}<|J @FR.{0}<|J @JO.{0}<|J @GS.{0}<|J @ZfE.{0}<|J @ZfF.{0}<|J @C3.{1}<|J @Ct.{1}<|J @G4.{0}<|J @I2.{0}<|J @ne_eq.{1}<|J @Fb.{0}<|J @CW.{0}<|J @CC.{0}<|J @Cr.{0}<|J @F3.{0}<|J @vE<|J @KR<|J @Zeo<|@not_true_eq_false
def ZA4:=J @or_true<|J @true_or<|J @BP<|J @Fj<|J @Xd<|J @NR<|J @false_or<|J @ZK.{0}<|J @ZO.{0}<|J @JT<|J @uW<|J @Zfm<|J @vC<|J @mG<|J @Xe<|J @true_implies<|J @false_implies<|J @H3.{0,0}<|J @F1<|J @F2<|J @Gf<|J @lY<|J @Xc.{0}<|@Option.isSome_some.{0}
def ZA5:=J @Bool.false_bne<|J @Bool.true_bne<|J @Bool.not_not<|J @AF<|J @BD<|J @eq_self.{1}<|J @lX.{0}<|J @Bool.true_eq_false<|J @CN<|J @TY0<|J @TY1<|J @TY2<|J @TY3<|J @TY4<|J @KY0<|J @KY1<|J @CY0<|J @isG.eq_1<|J @qI.eq_1<|J @qU.eq_1<|J @qY.eq_1<|J @qB.eq_1<|J @qT.eq_1<|@qR.eq_1
def ZA6:=J @qP.eq_1<|J @qS.eq_1<|J @b1.eq_1<|J @b2.eq_1<|J @b3.eq_1<|J @b4.eq_1<|J @b5.eq_1<|J @b6.eq_1<|J @b7.eq_1<|J @rI.eq_1<|J @rB.eq_1<|J @rT.eq_1<|J @rA.eq_1<|J @rS.eq_1<|J @r2.eq_1<|J @r3.eq_1<|J @r4.eq_1<|J @Jl.eq_1<|J @Jl.eq_2<|J @kI.eq_1<|J @kI.eq_2<|J @kU.eq_1<|J @kU.eq_2<|@kY.eq_1
def ZA7:=J @kY.eq_2<|J @kB.eq_1<|J @kB.eq_2<|J @kT.eq_1<|J @kT.eq_2<|J @kR.eq_1<|J @kR.eq_2<|J @kP.eq_1<|J @kP.eq_2<|J @kS.eq_1<|J @kS.eq_2<|J @a1.eq_1<|J @a1.eq_2<|J @a2.eq_1<|J @a2.eq_2<|J @a3.eq_1<|J @a3.eq_2<|J @a4.eq_1<|J @a4.eq_2<|J @a5.eq_1<|J @a5.eq_2<|J @a6.eq_1<|J @a6.eq_2<|@a7.eq_1
def ZA8:=J @a7.eq_2<|J @AQ.eq_1<|J @AQ.eq_2<|J @NJ<|J @Dy.eq_1<|J @Dy.eq_2<|J @YR.eq_1<|J @YR.eq_2<|J @Ao.eq_1<|J @iZ.eq_1<|J @lH<|J @jA<|J @DJ.eq_1<|J @DJ.eq_2<|J @UP.eq_1<|J @UP.eq_2<|J @VL.eq_1<|J @VL.eq_2<|J @Qp.eq_1<|J @Qp.eq_2<|J @EH.eq_1<|J @EH.eq_2<|J @jT.eq_1<|@jT.eq_2
def ZA9:=J @Jk.eq_1<|J @Jk.eq_2<|J @Ac.c.eq_1<|J @Ac.d.eq_1<|J @Ac.d.eq_2<|J @Aj.c.eq_1<|J @Aj.d.eq_1<|J @Aj.d.eq_2<|J @Aj.d_R<|J @Ab.c.eq_1<|J @Av.c.eq_1<|J @Av.d.eq_1<|J @Av.d.eq_2<|J @Av.d_R<|J @Tile.c.eq_1<|J @Tile.d.eq_1<|J @Tile.d.eq_2<|J @Tile.d_R<|J @A8.c.eq_1<|J @A8.d.eq_1<|J @A8.d.eq_2<|J @Am.c.eq_1<|J @Am.d.eq_1<|@Am.d.eq_2
def ZA10:=J @Ba.c.eq_1<|J @Ba.d.eq_1<|J @Ba.d.eq_2<|J @Ba.d_R<|J @Hm.c.eq_1<|J @Hm.d.eq_1<|J @Hm.d.eq_2<|J @Af.c.eq_1<|J @Af.d.eq_1<|J @Af.d.eq_2<|J @Af.d_R<|J @DW.{0,0}<|J @AI.{0}<|J @EJ.{0,0}<|J @Ac.d_R<|J @Ac.eta<|J @Aj.eta<|J @Ab.eta<|J @Av.eta<|J @Tile.eta<|J @A8.eta<|J @Am.eta<|J @Ba.eta<|@Hm.eta
def ZA11:=J @Af.eta<|J @AW.c.eq_1<|J @AW.d.eq_1<|J @AW.d.eq_2<|J @AW.eta<|J @Qmt<|J @Qk8<|J @Qqj<|J @TM<|J @OR<|J @HF.eq_1<|J @HF.eq_2<|J @HF.eq_3<|J @EQ.{0,0}<|@ZQ.{0,0}
def ZA:=J @ZA0<|J @ZA1<|J @ZA2<|J @ZA3<|J @ZA4<|J @ZA5<|J @ZA6<|J @ZA7<|J @ZA8<|J @ZA9<|J @ZA10<|@ZA11
def ZT0:=J @bH.eq_1<|J @Du.eq_1<|J @Vu.eq_1<|J @Vu.eq_2<|J @MC<|J @Bc.c.eq_1<|J @Bc.d.eq_1<|J @Bc.d.eq_2<|J @Bc.eta<|J @Be.c.eq_1<|J @Be.d.eq_1<|J @Be.d.eq_2<|@Be.eta
def ZT:=J @ZT0 (@F4)
def ZG:=J @Az.good.eq_1<|J @CQ.eq_1<|J @CQ.eq_2<|J @AD.eq_1<|J @AD.eq_2<|J @AD.eq_3<|J @AD.eq_4<|J @AD.eq_5<|J @AD.eq_6<|J @AD.eq_7<|J @AD.eq_8<|J @Cg.eq_1<|J @Cg.eq_2<|J @AV.bel.eq_1<|J @AV.bel.eq_2<|J @AV.bel.eq_3<|J @AV.bel.eq_4<|J @AV.bel.eq_5<|J @AV.bel.eq_6<|J @AV.bel.eq_7<|J @AV.bel.eq_8<|J @AV.bel.eq_9<|J @AV.bel.eq_10<|J @AV.bel.eq_11<|J @AV.bel.eq_12<|J @AN.eq_1 @AN.eq_2
def Eb:=J @Qah<|J @FJ<|J @FI<|J @PL @Qt
def AC:=J Eb (J @Cz.{0} @D4.{0})
def Adq(b:Bool)(k:Nat)(x:List (List D)):Ab.d [.sl b k x]=(AQ Aj.d x).bind λy=>some ⟨y⟩:=rfl
def ZZ:=J ZA (J ZT @Adq)
def vq{A:Type}{ar:List PK->Option A}{pre:A->Prop}{re:A->D}(r:Ax)(e:r=FH ar pre re)(a:List AV)(h:Nat->Option Ap)(n:Nat)(K:Ah):r a h n K=bL ar pre re (A9 a) K (Mk h a):=by rw[e];rfl
def mS{A:Type}{ar:List PK->Option A}{pre:A->Prop}{re:A->D}(r:Ax)(e:r=KE ar pre re)(a:List AV)(h:Nat->Option Ap)(n:Nat)(K:Ah):r a h n K=Wy ar pre re (Dz h a) K (CK h a):=by rw[e];rfl
end Go.Ae
namespace Go.Ae
open Go.Proofs
def vK{A B:Type}(k:AK A)(r:RK B)(pre:A->Prop)(f:A->B):Ax:=FH k.r pre λa=>r.e (f a)
def Fv{A B:Type}(k:AK A)(r:RK B)(pre:A->Prop)(f:A->B):Ax:=KE k.r pre λa=>r.e (f a)
section
variable {A B:Type}{R:Ax}{k:AK A}{r:RK B}{pre:A->Prop}{f:A->B}
def AX(e:R=vK k r pre f)(a:List AV)(h:Nat->Option Ap)(n:Nat)(K:Ah):R a h n K=bL k.r pre (λa=>r.e (f a)) (A9 a) K (Mk h a):=by rw[e];rfl
def CR(e:R=Fv k r pre f)(a:List AV)(h:Nat->Option Ap)(n:Nat)(K:Ah):R a h n K=Wy k.r pre (λa=>r.e (f a)) (Dz h a) K (CK h a):=by rw[e];rfl
variable {V:Df}(hV:Jr Tryz.prog V){g:FuncId}{fn:Func}{c:Code}(hf:Tryz.prog.funcs[g]? =some fn)
include hV hf
def vw(O: ∀a,pre a->Dh Tryz.prog V c (OW Tryz.prog fn.results.toList (BN (k.e a)) [] Kd (CT 0 (k.e a)) (Mo r.c (f a))) ⟨entry 0 (CU 0 (k.e a)),CT 0 (k.e a),BN (k.e a)⟩)(G:fn.body=some c:=by rfl)(z:(Eg fn.ntmps c && (FA Tryz.prog g && Nat.ble k.n fn.ntmps))=true:=by kernel_rfl):Ga Tryz.prog g (vK k r pre f):=by
 simp only[AO] at z;exact bT CS hV hf G z.1 z.2.1 k.l k.w (mB z.2.2) r.l O
def HJ(O: ∀a,pre a->Dh Tryz.prog V c (ZE Tryz.prog fn.results.toList (Bt r.c (f a))) ⟨entry 0 (CU 0 (k.e a)),CT 0 (k.e a),BN (k.e a)⟩)(G:fn.body=some c:=by rfl)(z:(Eg fn.ntmps c && (FA Tryz.prog g && Nat.ble k.n fn.ntmps))=true:=by kernel_rfl):Ga Tryz.prog g (Fv k r pre f):=by
 simp only[AO] at z;exact jJ CS hV hf G z.1 z.2.1 k.l k.w (mB z.2.2) r.l O
end
section
variable {V:Df}(hV:Jr Tryz.prog V){g:FuncId}{fn:Func}{c:Code}(hf:Tryz.prog.funcs[g]? =some fn)
 {A:Type}{ca:A->List AV}{H0 H1:A->Ar}{k cnt:Nat}{pre:A->Prop}{klB exB:Nat->Bool}{r0:A->AV}{R:A->AV->Prop}
 (hn: ∀a,Nat.ble (ca a).length fn.ntmps=true)(hq: ∀a,AN k (ca a)=true/\AD k (H0 a)=true/\Cg k (H0 a)=true/\Cx (H0 a) (H0 a))
 (hH1: ∀a,∀p∈H1 a,(p.1<k/\klB p.1=true/\An (H0 a) p.1=true)\/(k<=p.1/\p.1<k+cnt/\exB p.1=true/\p.2.1=true))
 (hR: ∀a r,R a r->DK r (r0 a))
include hV hf hn hq hH1 hR
def ow(hk: ∀a,pre a->Dh Tryz.prog V c (Nm Tryz.prog fn.results.toList k cnt (H0 a) (H1 a) klB exB (R a)) ⟨entry 0 (ca a),H0 a,k⟩)(hb:fn.body=some c:=by rfl)(Q:(Eg fn.ntmps c && FA Tryz.prog g)=true:=by kernel_rfl):Ga Tryz.prog g (AE ca H0 k pre klB r0 H1 cnt):=by
 simp only[AO] at Q;rintro aa h nx K ⟨a,τ,U,KL,O,rfl,z,G,hK⟩;refine⟨KH Q.2,_,_,?_,hK⟩;exact wU CS hV hf hb Q.1 (mB (hn a)) (hq a).1 (hq a).2.1 (hq a).2.2.1 (λj e Z=>Qo2 (hq a).2.2.2 j e (eD Z)) (hR a) (hH1 a) TX (λ_ _ h=>h) (hk a O) G.inj G.lt
  (λj e Z=>lL z j e (eD Z)) G.u G.k1 G.k2
def Hd(hk: ∀a,pre a->Dh Tryz.prog V c (AG Tryz.prog fn.results.toList k cnt (H0 a) (H1 a) klB exB (R a)) ⟨entry 0 (ca a),H0 a,k⟩)(hb:fn.body=some c:=by rfl)(Q:(Eg fn.ntmps c && FA Tryz.prog g)=true:=by kernel_rfl):Ga Tryz.prog g (AE ca H0 k pre klB r0 H1 cnt):=by
 simp only[AO] at Q;rintro aa h nx K ⟨a,τ,U,KL,O,rfl,z,G,hK⟩;refine⟨KH Q.2,_,_,?_,hK⟩;exact wU CS hV hf hb Q.1 (mB (hn a)) (hq a).1 (hq a).2.1 (hq a).2.2.1 (λj e Z=>Qo2 (hq a).2.2.2 j e (eD Z)) (hR a) (hH1 a) TY (λ_ _ h=>h) (hk a O) G.inj G.lt
  (λj e Z=>lL z j e (eD Z)) G.u G.k1 G.k2
end
abbrev AA:=Ga Tryz.prog
def Bf(n lo z:Int):Bool:=decide (lo<=n) && decide (n<=z)
def within_.fv(a:Int×Int×Int):Bool:=(Bf) (a.1) (a.2.1) (a.2.2)
def within_.row:Ax:=vK (b3 qI qI qI) rB (λa=>True) within_.fv
def within_.q:=AX (R:=within_.row) rfl
def within_.ok:AA 97 within_.row:=by
 refine vw tN Tryz.func97 ?_;intro a z;simp only[Tryz.f97];simp only[ZA,simprocAttr,within_.fv];simp only[Bf];grind
def l00In.fv(a:Int×Int×Int):Bool:=(Bf) (a.1) (a.2.1) (a.2.2)
def l00In.row:Ax:=vK (b3 qI qI qI) rB (λa=>True) l00In.fv
def l00In.q:=AX (R:=l00In.row) rfl
def l00In.ok:AA 54 l00In.row:=by
 refine vw tN Tryz.func54 ?_;intro a z;simp only[Tryz.f54];simp only[ZA,simprocAttr,l00In.fv];simp only[Bf];grind
def I64(n:Int):Prop:= -9223372036854775808<=n/\n<=9223372036854775807
def isIndex.fv(a:Int×Int):Bool:=Bf a.1 0 (a.2 - 1)
def isIndex.row:Ax:=vK (b2 qI qI) rB (λa=>0<=a.2/\I64 a.2) isIndex.fv
def isIndex.q:=AX (R:=isIndex.row) rfl
def isIndex.ok:AA 83 isIndex.row:=by
 refine vw (tC within_.ok tN) Tryz.func83 ?_;intro a z;simp only[Tryz.f83];simp only[ZA,simprocAttr,isIndex.fv,within_.q,within_.fv];obtain⟨G,O,Q⟩:=z;rw[AB (by omega) (by omega)]
def Dl(p:Ac):Bool:=Bf p.X (-60) 60 && Bf p.Y (-60) 60
def ValidPoint.fv(a:Ac):Bool:=(Dl) a
def ValidPoint.row:Ax:=vK (b1 (qR Ac.d_le)) rB (λa=>True) ValidPoint.fv
def ValidPoint.q:=AX (R:=ValidPoint.row) rfl
def ValidPoint.ok:AA 82 ValidPoint.row:=by
 refine vw (tC within_.ok tN) Tryz.func82 ?_;intro a z;simp only[Tryz.f82];simp only[ZA,simprocAttr,ValidPoint.fv,within_.q,within_.fv];simp only[Dl];grind
def l01Point.fv(a:Ac):Bool:=(Dl) a
def l01Point.row:Ax:=vK (b1 (qR Ac.d_le)) rB (λa=>True) l01Point.fv
def l01Point.q:=AX (R:=l01Point.row) rfl
def l01Point.ok:AA 74 l01Point.row:=by
 refine vw (tC l00In.ok tN) Tryz.func74 ?_;intro a z;simp only[Tryz.f74];simp only[ZA,simprocAttr,l01Point.fv,l00In.q,l00In.fv];simp only[Dl];grind
def isNaN.fv(a:Int):Bool:=false && a==0
def isNaN.row:Ax:=vK (b1 qI) rB (λa=>True) isNaN.fv
def isNaN.q:=AX (R:=isNaN.row) rfl
def isNaN.ok:AA 224 isNaN.row:=by
 refine vw tN Tryz.func224 ?_;intro a z;simp only[Tryz.f224];simp only[ZA,simprocAttr,isNaN.fv]
 try simp
def CD(a b:Int):Int:=if a<b then -1 else if b<a then 1 else 0
def Compare.fv(a:Int×Int):Int:=(CD) (a.1) (a.2)
def Compare.row:Ax:=vK (b2 qI qI) rI (λa=>True) Compare.fv
def Compare.q:=AX (R:=Compare.row) rfl
def Compare.ok:AA 183 Compare.row:=by
 refine vw (tC isNaN.ok tN) Tryz.func183 ?_;intro a z;simp only[Tryz.f183];simp only[ZA,simprocAttr,Compare.fv,isNaN.q,isNaN.fv];simp only[CD];grind
def Bj(a b:Ac):Bool:=decide (a.Y<b.Y)||(decide (a.Y=b.Y) && decide (a.X<b.X))
def l_LessPoint.fv(a:Ac×Ac):Bool:=(Bj) (a.1) (a.2)
def l_LessPoint.row:Ax:=vK (b2 (qR Ac.d_le) (qR Ac.d_le)) rB (λa=>True) l_LessPoint.fv
def l_LessPoint.q:=AX (R:=l_LessPoint.row) rfl
def l_LessPoint.ok:AA 75 l_LessPoint.row:=by
 refine vw tN Tryz.func75 ?_;intro a z;simp only[Tryz.f75];simp only[ZA,simprocAttr,l_LessPoint.fv];simp only[Bj]
 grind
def EV(a b:Int):Int:=if a<b then a else b
def DF(a b:Int):Int:=if b<a then a else b
def l00Min.fv(a:Int×Int):Int:=(EV) (a.1) (a.2)
def l00Min.row:Ax:=vK (b2 qI qI) rI (λa=>True) l00Min.fv
def l00Min.q:=AX (R:=l00Min.row) rfl
def l00Min.ok:AA 219 l00Min.row:=by
 refine vw tN Tryz.func219 ?_;intro a z;simp only[Tryz.f219];simp only[ZA,simprocAttr,l00Min.fv];simp only[EV];grind
def l00Max.fv(a:Int×Int):Int:=(DF) (a.1) (a.2)
def l00Max.row:Ax:=vK (b2 qI qI) rI (λa=>True) l00Max.fv
def l00Max.q:=AX (R:=l00Max.row) rfl
def l00Max.ok:AA 39 l00Max.row:=by
 refine vw tN Tryz.func39 ?_;intro a z;simp only[Tryz.f39];simp only[ZA,simprocAttr,l00Max.fv];simp only[DF];grind
def sI(c:Int):Bool:=Bf c 97 122||Bf c 65 90
def Qtq(c:Int):Bool:=Bf c 48 57
def l01Letter.fv(a:Int):Bool:=(sI) a
def l01Letter.row:Ax:=vK (b1 qY) rB (λa=>True) l01Letter.fv
def l01Letter.q:=AX (R:=l01Letter.row) rfl
def l01Letter.ok:AA 216 l01Letter.row:=by
 refine vw tN Tryz.func216 ?_;intro a z;simp only[Tryz.f216];simp only[ZA,simprocAttr,l01Letter.fv];simp only[sI,Bf];grind
def l01Digit.fv(a:Int):Bool:=(Qtq) a
def l01Digit.row:Ax:=vK (b1 qY) rB (λa=>True) l01Digit.fv
def l01Digit.q:=AX (R:=l01Digit.row) rfl
def l01Digit.ok:AA 217 l01Digit.row:=by
 refine vw tN Tryz.func217 ?_;intro a z;simp only[Tryz.f217];simp only[ZA,simprocAttr,l01Digit.fv];simp only[Qtq,Bf];grind
def vO(a b:Ac):Ac:=⟨a.X+b.X,a.Y+b.Y⟩
def GI(p:Ac):Prop:= -1000000000<=p.X/\p.X<=1000000000/\ -1000000000<=p.Y/\p.Y<=1000000000
def plus.fv(a:Ac×Ac):Ac:=(vO) (a.1) (a.2)
def plus.row:Ax:=vK (b2 (qR Ac.d_le) (qR Ac.d_le)) (rA Ac.d_le) (λa=>GI a.1/\GI a.2) plus.fv
def plus.q:=AX (R:=plus.row) rfl
def plus.ok:AA 206 plus.row:=by
 refine vw tN Tryz.func206 ?_;intro a z;simp only[Tryz.f206];simp only[ZA,simprocAttr,plus.fv];obtain⟨⟨G,O,Q,Z⟩,h5,h6,h7,h8⟩:=z;rw[AB (by omega) (by omega),AB (by omega) (by omega)];rfl
def Cm(p:Ac)(d:Int):Ac:=if d=0 then ⟨p.X,p.Y+1⟩ else if d=1 then ⟨p.X+1,p.Y⟩ else if d=2 then ⟨p.X,p.Y - 1⟩ else ⟨p.X - 1,p.Y⟩
def step_.rc:D->Option (Ac):=EH Ac.d
def step_.re:Ac->D:=λb=>D.agg (Ac.c b)
def step_.rle: ∀d b,step_.rc d=some b->Le d (step_.re b):=MU Ac.d_le
def step_.fv(a:Ac×Int):Ac:=(Cm) (a.1) (a.2)
def step_.row:Ax:=vK (b2 (qR Ac.d_le) qI) (RK.mk step_.rc step_.re step_.rle) (λa=>GI a.1/\0<=a.2/\a.2<=3) step_.fv
def step_.q:=AX (R:=step_.row) rfl
def step_.ok:AA 163 step_.row:=by
 refine vw (tC plus.ok tN) Tryz.func163 ?_;intro a z;simp only[Tryz.f163];obtain⟨p,d⟩:=a;obtain⟨hp,G,O⟩:=z;simp only at G O hp;rcases (by omega:d=0\/d=1\/d=2\/d=3) with rfl|rfl|rfl|rfl
 all_goals
  simp only[ZA,simprocAttr,step_.fv,step_.rc,plus.q,plus.fv];obtain⟨Q,Z,h5,h6⟩:=hp;refine⟨⟨⟨Q,Z,h5,h6⟩,by simp[GI]⟩,?_⟩;simp[Cm,vO]<;>omega
def l01Step.fv(a:Ac×Int):Ac:=(Cm) (a.1) (a.2)
def l01Step.row:Ax:=vK (b2 (qR Ac.d_le) qI) (rA Ac.d_le) (λa=>GI a.1/\0<=a.2/\a.2<=3) l01Step.fv
def l01Step.q:=AX (R:=l01Step.row) rfl
def l01Step.ok:AA 184 l01Step.row:=by
 refine vw tN Tryz.func184 ?_;intro a z;simp only[Tryz.f184];simp only[ZA,simprocAttr,l01Step.fv];obtain⟨⟨G,O,Q,Z⟩,h5,h6⟩:=z;rw[AB (by omega) (by omega),AB (by omega) (by omega),AB (by omega) (by omega),AB (by omega) (by omega)];simp only[Cm]
 grind
def HQ:List Int->Int
 |[]=>0
 |x::r=>if x=0 then HQ r else x
def Or.fv(a:(List Int)):Int:=(HQ) a
def Or.row:Ax:=vK (b1 (qS FK EM)) rI (λa=>True) Or.fv
def Or.q:=AX (R:=Or.row) rfl
def Or.ok:AA 182 Or.row:=by
 refine vw tN Tryz.func182 ?_;intro a Z;simp only[Tryz.f182];simp(disch:=omega)only[ZA,simprocAttr,Or.fv];intro Q;refine AR.old ⟨{k:Nat//k<=a.length/\HQ (a.drop k)=HQ a},λk=>⟨[(8,.im (.int .i64 k.1)),(7,.im (.int .i64 a.length)),(6,.im (.sl false 1 (a.map Ao))),(3,.im (.int .i64 0)),(2,.im (.int .i64 0))],[],0⟩,λk=>a.length - k.1,λk=>⟨by simp[ZG],AF _⟩,⟨⟨0,by simp⟩,by simp(disch:=omega)only[ZA,simprocAttr,sub]⟩,λk=> ?_⟩;obtain⟨k,aa,z⟩:=k;simp(disch:=omega)only[ZA,simprocAttr,sub];simp only[AM];refine⟨λG=>⟨G,λx hx=> ?_⟩,λG=> ?_⟩
 .have O:a.drop k=x::a.drop (k+1):=by
   rw[WY G];rw[Bd G] at hx;rw[Aw hx]
  rw[O,HQ] at z;refine⟨λh=>by grind,λh=>⟨⟨k+1,by omega,by grind⟩,by simp only;omega,?_⟩⟩;simp (disch:=omega) only[AB];simp
 .have O:a.drop k=[]:=CO (by omega);rw[O] at z;exact z
def comparePoints.fv(a:Ac×Ac):Int:=(λa b=>HQ [CD a.Y b.Y,CD a.X b.X]) (a.1) (a.2)
def comparePoints.row:Ax:=vK (b2 (qR Ac.d_le) (qR Ac.d_le)) rI (λa=>True) comparePoints.fv
def comparePoints.q:=AX (R:=comparePoints.row) rfl
def comparePoints.ok:AA 135 comparePoints.row:=by
 refine vw (tC Compare.ok (tC Or.ok tN)) Tryz.func135 ?_;intro a z;simp only[Tryz.f135];simp only[ZA,simprocAttr,comparePoints.fv,Compare.q,Compare.fv,Or.q,Or.fv]
def impl_LessPoint.fv(a:Ac×Ac):Bool:=(Bj) (a.1) (a.2)
def impl_LessPoint.row:Ax:=vK (b2 (qR Ac.d_le) (qR Ac.d_le)) rB (λa=>True) impl_LessPoint.fv
def impl_LessPoint.q:=AX (R:=impl_LessPoint.row) rfl
def impl_LessPoint.ok:AA 84 impl_LessPoint.row:=by
 refine vw (tC comparePoints.ok tN) Tryz.func84 ?_;intro a z;simp only[Tryz.f84];simp only[ZA,simprocAttr,impl_LessPoint.fv,comparePoints.q,comparePoints.fv];simp only[Bj,HQ,CD]
 grind
def N9(i:Nat)(c:Int):Bool:=sI c||(decide (i≠0) && (Qtq c||decide (c=95)))
def Ht:Nat->List UInt8->Bool
 |_,[]=>true
 |i,c::r=>N9 i c.toNat && Ht (i+1) r
def nZ{a:ByteArray}{k:Nat}{c:UInt8}(G:a.data[k]? =some c):a.data.toList.drop k=c::a.data.toList.drop (k+1):=by
 have h0:a.data.toList[k]? =some c:=by simpa using G
 have z:k<a.data.toList.length:=(BJ.1 h0).1;rw[WY z];rw[Bd z] at h0;rw[Aw h0]
def R1{a:ByteArray}{k:Nat}(h: ¬k<a.size):a.data.toList.drop k=[]:=CO (by simpa using h)
def Iy(s:ByteArray):Bool:=Ht 0 s.data.toList && (decide (1<=s.size) && decide (s.size<=12))
def impl_IsName.fv(a:ByteArray):Bool:=(Iy) a
def impl_IsName.row:Ax:=vK (b1 qT) rB (λa=>a.size<=140737488355328) impl_IsName.fv
def impl_IsName.q:=AX (R:=impl_IsName.row) rfl
def impl_IsName.ok:AA 202 impl_IsName.row:=by
 refine vw tN Tryz.func202 ?_;intro a aa;simp only[Tryz.f202];simp only[ZA,simprocAttr,impl_IsName.fv];refine AR.old ⟨{k:Nat//k<=a.size/\Ht k (a.data.toList.drop k)=Ht 0 a.data.toList},λk=>⟨[(8,.im (.int .i64 k.1)),(7,.im (.int .i64 a.size)),(6,.im (.str a)),(0,.im (.str a)),(2,.im (.bool false))],[],0⟩,λk=>a.size - k.1,λk=>⟨by simp[ZG],AF _⟩,⟨⟨0,by simp⟩,by simp only[ZA,simprocAttr,sub]⟩,λk=> ?_⟩;obtain⟨k,ab,z⟩:=k;simp only[ZA,simprocAttr]
 split<;>rename_i Q
 .refine⟨Q,?_⟩;intro c hc;have hd:a.data.toList.drop k=c::a.data.toList.drop (k+1):=by
   have hl:k<a.data.toList.length:=by simpa using Q
   rw[WY hl]
   have:a.data.toList[k]? =some c:=by simpa using hc
   rw[Bd hl] at this;rw[Aw this]
  rw[hd,Ht] at z;by_cases Z:(97:Int)<=c.toNat<;>by_cases e2:(c.toNat:Int)<=122<;>(try (exfalso;omega))<;>by_cases e3:(65:Int)<=c.toNat<;>(try (exfalso;omega))<;>by_cases e4:(c.toNat:Int)<=90<;>(try (exfalso;omega))<;>
   by_cases e5:(c.toNat:Int)<48<;>(try (exfalso;omega))<;>by_cases e6:(57:Int)<c.toNat<;>(try (exfalso;omega))<;>by_cases e7:(c.toNat:Int)=95<;>(try (exfalso;omega))<;>by_cases e8:(k:Int)=0
  all_goals
   have e9:(48:Int)<=c.toNat↔ ¬(c.toNat:Int)<48:=by omega
   have G:(c.toNat:Int)<=57↔ ¬(57:Int)<c.toNat:=by omega
   have O:k=0↔(k:Int)=0:=by omega
   have hb:N9 k c.toNat=N9 k c.toNat:=rfl
   conv at hb=>
    rhs
    simp only[N9,sI,Qtq,Bf,Z,e2,e3,e4,e5,e6,e7,e8,e9,G,O,ne_eq,ZfB,Zfu,F1,lY,uW,JT,Zfm,vC,F2,Gf,not_true_eq_false,Zeo]
   rw[hb] at z;simp only[ZA,simprocAttr,sub,Z,e2,e3,e4,e5,e6,e7,e8]
   first
    |(simp only[Gf] at z
      simp only[Iy,<-z,Gf])
    |(simp only[F2] at z
      refine⟨⟨k+1,by omega,z⟩,by simp only;omega,?_⟩;rw[AB (by omega) (by omega)];simp only
      omega)
    |(have h9:Ht 0 a.data.toList=false:=by rw[<-z];simp
      simp[Iy,h9])
 .have:a.data.toList.drop k=[]:=CO (by simpa using Q)
  rw[this,Ht] at z;simp only[Iy]
  grind
def spec_IsName.fv(a:ByteArray):Bool:=(Iy) a
def spec_IsName.row:Ax:=vK (b1 qT) rB (λa=>True) spec_IsName.fv
def spec_IsName.q:=AX (R:=spec_IsName.row) rfl
def Yaa:=J @l01Letter.q @l01Letter.fv.eq_1
def spec_IsName.ok:AA 176 spec_IsName.row:=by
 refine vw (tC l01Letter.ok (tC l01Digit.ok tN)) Tryz.func176 ?_;intro a ad;simp only[Tryz.f176];simp only[ZA,simprocAttr,spec_IsName.fv,AM];refine⟨λh1=>⟨λh2=>⟨by omega,?_⟩,λh2=> ?_⟩,λh1=> ?_⟩
 .intro c hc;have hd:=nZ hc;rw[FR] at hd;cases hL:sI c.toNat
  .simp only[ZA,simprocAttr,Yaa,hL];have h9:Ht 0 a.data.toList=false:=by rw[hd];simp[Ht,N9,hL]
   simp[Iy,h9]
  .simp only[ZA,simprocAttr,Yaa,hL];refine AR.old ⟨{k:Nat//1<=k/\k<=a.size/\Ht k (a.data.toList.drop k)=Ht 0 a.data.toList},λk=>⟨[(3,.im (.int .i64 k.1)),(0,.im (.str a)),(2,.im (.bool false))],[],0⟩,λk=>a.size - k.1,λk=>⟨by simp[ZG],AF _⟩,⟨⟨1,by omega,by omega,?_⟩,by simp only[ZA,simprocAttr,sub]⟩,λk=> ?_⟩
   .conv=>rhs;rw[hd]
    simp[Ht,N9,hL]
   .obtain⟨k,af,ag,z⟩:=k;simp only[ZA,simprocAttr,AM];refine⟨λZ=>⟨Z,λc2 Q=> ?_⟩,λZ=> ?_⟩
    .rw[nZ Q,Ht] at z;simp only[ZZ,simprocAttr,Yaa,l01Digit.q,l01Digit.fv,sub,AM];have ac:N9 k c2.toNat=true->Ht (k+1) (a.data.toList.drop (k+1))=Ht 0 a.data.toList:=by
      intro h;rw[h] at z;simpa using z
     have ab:N9 k c2.toNat=false->false=Iy a:=by
      intro h;rw[h] at z;have h9:Ht 0 a.data.toList=false:=by rw[<-z];simp
      simp[Iy,h9]
     have O:N9 k c2.toNat=true-> ∃b':{k:Nat//1<=k/\k<=a.size/\Ht k (a.data.toList.drop k)=Ht 0 a.data.toList},a.size - b'.val<a.size - k/\IntKind.wrap .i64 ((k:Int)+1)=b'.val:=by
      intro h;refine⟨⟨k+1,by omega,by omega,ac h⟩,by simp only;omega,?_⟩;rw[AB (by omega) (by omega)];simp only;omega
     have aa:k≠0:=by omega
     refine⟨λl=>⟨Z,λc3 G=> ?_⟩,λl=> ?_⟩
     .rw[Q] at G;obtain rfl:=Aw G;refine⟨λl2=>⟨Z,λc3 G=> ?_⟩,λl2=> ?_⟩
      .rw[Q] at G;obtain rfl:=Aw G;refine⟨λl3=>ab ?_,λl3=>O ?_⟩
       .simp[N9,l,l2,l3]
       .simp only[G8] at l3;simp[N9,l3,aa]
      .refine O ?_;simp only[I1] at l2;simp[N9,l2,aa]
     .refine O ?_;simp only[I1] at l;simp[N9,l]
    .rw[R1 Z,Ht] at z;simp only[Iy]
     grind
 .simp only[Iy];grind
 .simp only[Iy];grind
def yZ{A:Type}{B:Type}(f:A->B)(z:B)(a:List A)(k:Nat)(x:A)(G:a[k]? =some x):
 ((a.take k).map f++List.replicate (a.length - k) z).set k (f x)=(a.take (k+1)).map f++List.replicate (a.length - (k+1)) z:=by
 have hk:k<a.length:=(BJ.1 G).1;have O:a.take (k+1)=a.take k++[x]:=by
  rw[G9,G];rfl
 have Q:a.length - k=(a.length - (k+1))+1:=by omega
 rw[O,Q,ZeF,Ei,E0,fD _ _ (by simp;omega)];have Z:k - (List.map f (List.take k a)).length=0:=by simp;omega
 rw[Z];rfl
def yI{A:Type}{B:Type}(f:A->B)(z:B)(a:List A)(k:Nat)(x:A)(O:a[k]? =some x):
 ((a.take k).map f++List.replicate (a.length - k) z)[k]? =some z:=by
 have Q:k<a.length:=(BJ.1 O).1;rw[E7 (by simp;omega)];have G:k - (List.map f (List.take k a)).length=0:=by simp;omega
 rw[G,NL,Ai (by omega)]
def yO{A:Type}{B:Type}(f:A->B)(z:B)(a:List A)(k:Nat)(G:k<=a.length):((a.take k).map f++List.replicate (a.length - k) z).length=a.length:=by
 simp;omega
def yU{A:Type}{B:Type}(f:A->B)(z:B)(a:List A)(k:Nat)(G:a.length<=k):(a.take k).map f++List.replicate (a.length - k) z=a.map f:=by
 rw[DP G,show a.length - k=0 by omega];simp
def toPoint.fv(a:Ac):Ac:=(λp=>p) a
def toPoint.row:Ax:=vK (b1 (qR Ac.d_le)) (rA Ac.d_le) (λa=>True) toPoint.fv
def toPoint.q:=AX (R:=toPoint.row) rfl
def toPoint.ok:AA 57 toPoint.row:=by
 refine vw tN Tryz.func57 ?_;intro a z;simp only[Tryz.f57];simp only[ZA,simprocAttr,toPoint.fv]
def toPlaced.fv(a:Aj):Aj:=(λp=>p) a
def toPlaced.row:Ax:=vK (b1 (qR Aj.d_le)) (rA Aj.d_le) (λa=>True) toPlaced.fv
def toPlaced.q:=AX (R:=toPlaced.row) rfl
def toPlaced.ok:AA 81 toPlaced.row:=by
 refine vw (tC toPoint.ok tN) Tryz.func81 ?_;intro a z;simp only[Tryz.f81];simp only[ZA,simprocAttr,toPlaced.fv,toPoint.q,toPoint.fv]
def toGlue.fv(a:Av):Av:=(λp=>p) a
def toGlue.row:Ax:=vK (b1 (qR Av.d_le)) (rA Av.d_le) (λa=>True) toGlue.fv
def toGlue.q:=AX (R:=toGlue.row) rfl
def toGlue.ok:AA 133 toGlue.row:=by
 refine vw tN Tryz.func133 ?_;intro a z;simp only[Tryz.f133];simp only[ZA,simprocAttr,toGlue.fv]
def toInt64S.fv(a:(List Int)):List Int:=(λp=>p) a
def toInt64S.row:Ax:=vK (b1 (qS FK EM)) (rS FK EM) (λa=>a.length<=1073741824) toInt64S.fv
def toInt64S.q:=AX (R:=toInt64S.row) rfl
def toInt64S.ok:AA 56 toInt64S.row:=by
 refine vw tN Tryz.func56 ?_;intro a Q;simp only[Tryz.f56];simp only[ZA,simprocAttr,toInt64S.fv];intro O;refine⟨by omega,?_⟩;refine AR.old ⟨{k:Nat//k<=a.length},λk=>⟨[(4,.im (.int .i64 k.1)),(3,.own 1),(0,.im (.sl false 1 (a.map Ao)))],[(1,(true,.arr 2 1 ((a.take k.1).map Ao++List.replicate (a.length - k.1) [.int .i64 0])))],2⟩,λk=>a.length - k.1,λk=>⟨by simp[ZG],AF _⟩,⟨⟨0,by omega⟩,by simp only[ZA,simprocAttr,sub];simp⟩,λk=> ?_⟩;obtain⟨k,G⟩:=k;simp only[ZA,simprocAttr,AM,yO _ _ a k G];intro _;refine⟨λz=>⟨z,λx Z=>⟨z,z,kM (yI Ao [.int .i64 0] a k x Z) ?_⟩⟩,λz=> ?_⟩
 .simp only[ZA,simprocAttr,sub];refine⟨⟨k+1,by omega⟩,by simp only;omega,?_,?_⟩
  .rw[AB (by omega) (by omega)];simp only;omega
  .exact yZ Ao [.int .i64 0] a k x Z
 .rw[yU Ao _ a k (by omega)];simp[lH]
def eqPoint.fv(a:Ac×Ac):Bool:=(λa b=>decide (a=b)) (a.1) (a.2)
def eqPoint.row:Ax:=vK (b2 (qR Ac.d_le) (qR Ac.d_le)) rB (λa=>True) eqPoint.fv
def eqPoint.q:=AX (R:=eqPoint.row) rfl
def eqPoint.ok:AA 123 eqPoint.row:=by
 refine vw tN Tryz.func123 ?_;intro a G;simp only[Tryz.f123];simp only[ZA,simprocAttr,eqPoint.fv];obtain⟨⟨x,y⟩,⟨z,w⟩⟩:=a;simp only[Ac.mk.injEq]
 grind
def eqPlaced.fv(a:Aj×Aj):Bool:=(λa b=>decide (a=b)) (a.1) (a.2)
def eqPlaced.row:Ax:=vK (b2 (qR Aj.d_le) (qR Aj.d_le)) rB (λa=>True) eqPlaced.fv
def eqPlaced.q:=AX (R:=eqPlaced.row) rfl
def eqPlaced.ok:AA 88 eqPlaced.row:=by
 refine vw (tC eqPoint.ok tN) Tryz.func88 ?_;intro a G;simp only[Tryz.f88];simp only[ZA,simprocAttr,eqPlaced.fv,eqPoint.q,eqPoint.fv];obtain⟨⟨⟨x,y⟩,u⟩,⟨⟨z,w⟩,v⟩⟩:=a;simp only[Aj.mk.injEq,Ac.mk.injEq]
 grind
def eqGlue.fv(a:Av×Av):Bool:=(λa b=>decide (a=b)) (a.1) (a.2)
def eqGlue.row:Ax:=vK (b2 (qR Av.d_le) (qR Av.d_le)) rB (λa=>True) eqGlue.fv
def eqGlue.q:=AX (R:=eqGlue.row) rfl
def eqGlue.ok:AA 136 eqGlue.row:=by
 refine vw tN Tryz.func136 ?_;intro a G;simp only[Tryz.f136];simp only[ZA,simprocAttr,eqGlue.fv];obtain⟨⟨x,y⟩,⟨z,w⟩⟩:=a;simp only[Av.mk.injEq]
 grind
def qO{A:Type}[DecidableEq A]{a b:List A}(hl:a.length=b.length){k:Nat}(Z:k<=a.length)(h:a.take k=b.take k){x y:A}(Q:a[k]? =some x)(O:b[k]? =some y):
 (x=y->a.take (k+1)=b.take (k+1))/\(x≠y->a≠b):=by
 refine⟨λz=> ?_,λz G=> ?_⟩
 .rw[G9,G9,h,Q,O,z]
 .subst G;rw[Q] at O;exact z (Aw O)
def eqInt64S.fv(a:(List Int)×(List Int)):Bool:=(λa b=>decide (a=b)) (a.1) (a.2)
def eqInt64S.row:Ax:=vK (b2 (qS FK EM) (qS FK EM)) rB (λa=>True) eqInt64S.fv
def eqInt64S.q:=AX (R:=eqInt64S.row) rfl
def eqInt64S.ok:AA 67 eqInt64S.row:=by
 refine vw tN Tryz.func67 ?_;intro a Z;simp only[Tryz.f67];simp only[ZA,simprocAttr,eqInt64S.fv];intro h1 h2;simp only[AM];refine⟨λG=> ?_,λG=> ?_⟩
 .have:a.1≠a.2:=λh=>G (by rw[h])
  simp[this]
 have G:a.1.length=a.2.length:=by omega
 refine AR.old ⟨{k:Nat//k<=a.1.length/\a.1.take k=a.2.take k},λk=>⟨[(5,.im (.int .i64 k.1)),(4,.im (.bool false)),(0,.im (.sl false 1 (a.1.map Ao))),(1,.im (.sl false 1 (a.2.map Ao)))],[],0⟩,λk=>a.1.length - k.1,λk=>⟨by simp[ZG],AF _⟩,⟨⟨0,by simp⟩,by simp only[ZA,simprocAttr,sub]⟩,λk=> ?_⟩;obtain⟨k,Q,z⟩:=k;simp only[ZA,simprocAttr,sub,AM];intro _;refine⟨λO=>⟨O,λx hx=>⟨by omega,λy hy=> ?_⟩⟩,λO=> ?_⟩
 .obtain⟨g1,g2⟩:=qO G Q z hx hy;exact⟨λh=>by simp[g2 h],λh=>GH O h1 ⟨by omega,g1 (by simpa using h)⟩⟩
 .rw[DP (by omega),DP (by omega)] at z;simp[z]
def Dj(n:Int)(left:Int):Int:=if left - n<0 then -1 else left - n
def szInt64S.fv(a:(List Int)×Int):Int:=(λa l=>Dj a.length l) (a.1) (a.2)
def szInt64S.row:Ax:=vK (b2 (qS FK EM) qI) rI (λa=> -1<=a.2/\a.2<=1048576) szInt64S.fv
def szInt64S.q:=AX (R:=szInt64S.row) rfl
def szInt64S.ok:AA 52 szInt64S.row:=by
 refine vw tN Tryz.func52 ?_;intro a z;simp only[Tryz.f52];simp only[ZA,simprocAttr,szInt64S.fv];intro h;rw[AB (by omega) (by omega)];simp only[Dj];grind
def szPlacedS.fv(a:(List Aj)×Int):Int:=(λa l=>Dj a.length l) (a.1) (a.2)
def szPlacedS.row:Ax:=vK (b2 (qS Aj.d_le Aj.c_n) qI) rI (λa=> -1<=a.2/\a.2<=1048576) szPlacedS.fv
def szPlacedS.q:=AX (R:=szPlacedS.row) rfl
def szPlacedS.ok:AA 35 szPlacedS.row:=by
 refine vw tN Tryz.func35 ?_;intro a z;simp only[Tryz.f35];simp only[ZA,simprocAttr,szPlacedS.fv];intro h;rw[AB (by omega) (by omega)];simp only[Dj];grind
def Ni(a:Ab)(l:Int):Int:=Dj a.Tiles.length l
def szAssembly.fv(a:Ab×Int):Int:=(Ni) (a.1) (a.2)
def szAssembly.row:Ax:=vK (b2 (qR Ab.d_le) qI) rI (λa=> -1<=a.2/\a.2<=1048576) szAssembly.fv
def szAssembly.q:=AX (R:=szAssembly.row) rfl
def szAssembly.ok:AA 8 szAssembly.row:=by
 refine vw (tC szPlacedS.ok tN) Tryz.func8 ?_;intro a z;simp only[Tryz.f8];simp only[ZA,simprocAttr,szAssembly.fv,szPlacedS.q,szPlacedS.fv];refine⟨z,?_⟩;simp only[Ni,Dj];grind
def eqGlueS.fv(a:(List Av)×(List Av)):Bool:=(λa b=>decide (a=b)) (a.1) (a.2)
def eqGlueS.row:Ax:=vK (b2 (qS Av.d_le Av.c_n) (qS Av.d_le Av.c_n)) rB (λa=>True) eqGlueS.fv
def eqGlueS.q:=AX (R:=eqGlueS.row) rfl
def eqGlueS.ok:AA 86 eqGlueS.row:=by
 refine vw (tC eqGlue.ok tN) Tryz.func86 ?_;intro a Z;simp only[Tryz.f86];simp only[ZA,simprocAttr,eqGlueS.fv];intro h1 h2;simp only[AM];refine⟨λG=> ?_,λG=> ?_⟩
 .have:a.1≠a.2:=λh=>G (by rw[h])
  simp[this]
 have G:a.1.length=a.2.length:=by omega
 refine AR.old ⟨{k:Nat//k<=a.1.length/\a.1.take k=a.2.take k},λk=>⟨[(5,.im (.int .i64 k.1)),(4,.im (.bool false)),(0,.im (.sl false 2 (a.1.map Av.c))),(1,.im (.sl false 2 (a.2.map Av.c)))],[],0⟩,λk=>a.1.length - k.1,λk=>⟨by simp[ZG],AF _⟩,⟨⟨0,by simp⟩,by simp only[ZA,simprocAttr,sub]⟩,λk=> ?_⟩;obtain⟨k,Q,z⟩:=k;simp only[ZA,simprocAttr,eqGlue.q,eqGlue.fv,sub,AM];intro _;refine⟨λO=>⟨O,λx hx=>⟨by omega,λy hy=> ?_⟩⟩,λO=> ?_⟩
 .obtain⟨g1,g2⟩:=qO G Q z hx hy;exact⟨λh=>by simp[g2 (show x≠y from h)],λh=>GH O h1 ⟨by omega,g1 (show x=y from G8.1 h)⟩⟩
 .rw[DP (by omega),DP (by omega)] at z;simp[z]
def WV(a b:Tile):decide (a=b)=(decide (a.Name=b.Name) && decide (a.Sides=b.Sides)):=by
 obtain⟨x,y⟩:=a;obtain⟨z,w⟩:=b;simp[Tile.mk.injEq]
def eqTile.fv(a:Tile×Tile):Bool:=(λa b=>decide (a=b)) (a.1) (a.2)
def eqTile.row:Ax:=vK (b2 (qR Tile.d_le) (qR Tile.d_le)) rB (λa=>True) eqTile.fv
def eqTile.q:=AX (R:=eqTile.row) rfl
def eqTile.ok:AA 137 eqTile.row:=by
 refine vw (tC eqInt64S.ok tN) Tryz.func137 ?_;intro a z;simp only[Tryz.f137];simp only[ZA,simprocAttr,eqTile.fv,eqInt64S.q,eqInt64S.fv];rw[WV]
 grind
def eqTileS.fv(a:(List Tile)×(List Tile)):Bool:=(λa b=>decide (a=b)) (a.1) (a.2)
def eqTileS.row:Ax:=vK (b2 (qS Tile.d_le Tile.c_n) (qS Tile.d_le Tile.c_n)) rB (λa=>True) eqTileS.fv
def eqTileS.q:=AX (R:=eqTileS.row) rfl
def eqTileS.ok:AA 87 eqTileS.row:=by
 refine vw (tC eqTile.ok tN) Tryz.func87 ?_;intro a Z;simp only[Tryz.f87];simp only[ZA,simprocAttr,eqTileS.fv];intro h1 h2;simp only[AM];refine⟨λG=> ?_,λG=> ?_⟩
 .have:a.1≠a.2:=λh=>G (by rw[h])
  simp[this]
 have G:a.1.length=a.2.length:=by omega
 refine AR.old ⟨{k:Nat//k<=a.1.length/\a.1.take k=a.2.take k},λk=>⟨[(5,.im (.int .i64 k.1)),(4,.im (.bool false)),(0,.im (.sl false 2 (a.1.map Tile.c))),(1,.im (.sl false 2 (a.2.map Tile.c)))],[],0⟩,λk=>a.1.length - k.1,λk=>⟨by simp[ZG],AF _⟩,⟨⟨0,by simp⟩,by simp only[ZA,simprocAttr,sub]⟩,λk=> ?_⟩;obtain⟨k,Q,z⟩:=k;simp only[ZA,simprocAttr,eqTile.q,eqTile.fv,sub,AM];intro _;refine⟨λO=>⟨O,λx hx=>⟨by omega,λy hy=> ?_⟩⟩,λO=> ?_⟩
 .obtain⟨g1,g2⟩:=qO G Q z hx hy;exact⟨λh=>by simp[g2 (show x≠y from h)],λh=>GH O h1 ⟨by omega,g1 (show x=y from G8.1 h)⟩⟩
 .rw[DP (by omega),DP (by omega)] at z;simp[z]
def eqPlacedS.fv(a:(List Aj)×(List Aj)):Bool:=(λa b=>decide (a=b)) (a.1) (a.2)
def eqPlacedS.row:Ax:=vK (b2 (qS Aj.d_le Aj.c_n) (qS Aj.d_le Aj.c_n)) rB (λa=>True) eqPlacedS.fv
def eqPlacedS.q:=AX (R:=eqPlacedS.row) rfl
def eqPlacedS.ok:AA 46 eqPlacedS.row:=by
 refine vw (tC eqPlaced.ok tN) Tryz.func46 ?_;intro a Z;simp only[Tryz.f46];simp only[ZA,simprocAttr,eqPlacedS.fv];intro h1 h2;simp only[AM];refine⟨λG=> ?_,λG=> ?_⟩
 .have:a.1≠a.2:=λh=>G (by rw[h])
  simp[this]
 have G:a.1.length=a.2.length:=by omega
 refine AR.old ⟨{k:Nat//k<=a.1.length/\a.1.take k=a.2.take k},λk=>⟨[(5,.im (.int .i64 k.1)),(4,.im (.bool false)),(0,.im (.sl false 3 (a.1.map Aj.c))),(1,.im (.sl false 3 (a.2.map Aj.c)))],[],0⟩,λk=>a.1.length - k.1,λk=>⟨by simp[ZG],AF _⟩,⟨⟨0,by simp⟩,by simp only[ZA,simprocAttr,sub]⟩,λk=> ?_⟩;obtain⟨k,Q,z⟩:=k;simp only[ZA,simprocAttr,eqPlaced.q,eqPlaced.fv,sub,AM];intro _;refine⟨λO=>⟨O,λx hx=>⟨by omega,λy hy=> ?_⟩⟩,λO=> ?_⟩
 .obtain⟨g1,g2⟩:=qO G Q z hx hy;exact⟨λh=>by simp[g2 (show x≠y from h)],λh=>GH O h1 ⟨by omega,g1 (show x=y from G8.1 h)⟩⟩
 .rw[DP (by omega),DP (by omega)] at z;simp[z]
def eqTileSet.fv(a:A8×A8):Bool:=(λa b=>decide (a=b)) (a.1) (a.2)
def eqTileSet.row:Ax:=vK (b2 (qR A8.d_le) (qR A8.d_le)) rB (λa=>True) eqTileSet.fv
def eqTileSet.q:=AX (R:=eqTileSet.row) rfl
def eqTileSet.ok:AA 45 eqTileSet.row:=by
 refine vw (tC eqGlueS.ok (tC eqTileS.ok tN)) Tryz.func45 ?_;intro a G;simp only[Tryz.f45];simp only[ZA,simprocAttr,eqTileSet.fv,eqGlueS.q,eqGlueS.fv,eqTileS.q,eqTileS.fv];obtain⟨⟨x,y⟩,⟨z,w⟩⟩:=a;simp only[A8.mk.injEq]
 grind
def eqAssembly.fv(a:Ab×Ab):Bool:=(λa b=>decide (a=b)) (a.1) (a.2)
def eqAssembly.row:Ax:=vK (b2 (qR Ab.d_le) (qR Ab.d_le)) rB (λa=>True) eqAssembly.fv
def eqAssembly.q:=AX (R:=eqAssembly.row) rfl
def eqAssembly.ok:AA 14 eqAssembly.row:=by
 refine vw (tC eqPlacedS.ok tN) Tryz.func14 ?_;intro a G;simp only[Tryz.f14];simp only[ZA,simprocAttr,eqAssembly.fv,eqPlacedS.q,eqPlacedS.fv];obtain⟨⟨x⟩,⟨z⟩⟩:=a;simp only[Ab.mk.injEq]
 grind
def eqSystem.fv(a:Am×Am):Bool:=(λa b=>decide (a=b)) (a.1) (a.2)
def eqSystem.row:Ax:=vK (b2 (qR Am.d_le) (qR Am.d_le)) rB (λa=>True) eqSystem.fv
def eqSystem.q:=AX (R:=eqSystem.row) rfl
def eqSystem.ok:AA 13 eqSystem.row:=by
 refine vw (tC eqTileSet.ok (tC eqAssembly.ok tN)) Tryz.func13 ?_;intro a G;simp only[Tryz.f13];simp only[ZA,simprocAttr,Ab.d,eqSystem.fv,eqTileSet.q,eqTileSet.fv,eqAssembly.q,eqAssembly.fv];obtain⟨⟨⟨x,O⟩,⟨y⟩,u⟩,⟨⟨z,Q⟩,⟨w⟩,v⟩⟩:=a;simp only[Am.mk.injEq,A8.mk.injEq,Ab.mk.injEq]
 grind
def toTile.fv(a:Tile):Tile:=(λp=>p) a
def toTile.row:Ax:=vK (b1 (qR Tile.d_le)) (rA Tile.d_le) (λa=>a.Sides.length<=1073741824) toTile.fv
def toTile.q:=AX (R:=toTile.row) rfl
def toTile.ok:AA 134 toTile.row:=by
 refine vw (tC toInt64S.ok tN) Tryz.func134 ?_;intro a z;simp only[Tryz.f134];simp only[ZA,simprocAttr,toTile.fv,toInt64S.q,toInt64S.fv];exact z
def toGlueS.fv(a:(List Av)):List Av:=(λp=>p) a
def toGlueS.row:Ax:=vK (b1 (qS Av.d_le Av.c_n)) (rS Av.d_le Av.c_n) (λa=>a.length<=1073741824) toGlueS.fv
def toGlueS.q:=AX (R:=toGlueS.row) rfl
def toGlueS.ok:AA 79 toGlueS.row:=by
 refine vw (tC toGlue.ok tN) Tryz.func79 ?_;intro a z;simp only[Tryz.f79];simp only[ZA,simprocAttr,toGlueS.fv];intro Q;have aa:a.length<=1073741824:=z;refine⟨by omega,?_⟩;refine AR.old ⟨{k:Nat//k<=a.length},λk=>⟨[(4,.im (.int .i64 k.1)),(3,.own 1),(0,.im (.sl false 2 (a.map Av.c)))],[(1,(true,.arr 193 2 ((a.take k.1).map Av.c++List.replicate (a.length - k.1) [.str ByteArray.empty,.int .i64 0])))],2⟩,λk=>a.length - k.1,λk=>⟨by simp[ZG],AF _⟩,⟨⟨0,by omega⟩,by simp only[ZA,simprocAttr,sub];simp⟩,λk=> ?_⟩;obtain⟨k,O⟩:=k;simp only[ZA,simprocAttr,toGlue.q,toGlue.fv,AM,yO _ _ a k O];intro _;refine⟨λG=> ?_,λG=> ?_⟩
 .refine⟨G,λx Z=>⟨G,G,kM (yI Av.c _ a k x Z) ?_⟩⟩;simp only[ZA,simprocAttr,sub];refine⟨⟨k+1,by omega⟩,by simp only;omega,?_,?_⟩
  .rw[AB (by omega) (by omega)];simp only;omega
  .exact yZ Av.c _ a k x Z
 .rw[yU Av.c _ a k (by omega)];simp[Av.d_R]
def toPlacedS.fv(a:(List Aj)):List Aj:=(λp=>p) a
def toPlacedS.row:Ax:=vK (b1 (qS Aj.d_le Aj.c_n)) (rS Aj.d_le Aj.c_n) (λa=>a.length<=1073741824) toPlacedS.fv
def toPlacedS.q:=AX (R:=toPlacedS.row) rfl
def toPlacedS.ok:AA 42 toPlacedS.row:=by
 refine vw (tC toPlaced.ok tN) Tryz.func42 ?_;intro a z;simp only[Tryz.f42];simp only[ZA,simprocAttr,toPlacedS.fv];intro Q;have aa:a.length<=1073741824:=z;refine⟨by omega,?_⟩;refine AR.old ⟨{k:Nat//k<=a.length},λk=>⟨[(4,.im (.int .i64 k.1)),(3,.own 1),(0,.im (.sl false 3 (a.map Aj.c)))],[(1,(true,.arr 119 3 ((a.take k.1).map Aj.c++List.replicate (a.length - k.1) [.int .i64 0,.int .i64 0,.int .i64 0])))],2⟩,λk=>a.length - k.1,λk=>⟨by simp[ZG],AF _⟩,⟨⟨0,by omega⟩,by simp only[ZA,simprocAttr,sub];simp⟩,λk=> ?_⟩;obtain⟨k,O⟩:=k;simp only[ZA,simprocAttr,toPlaced.q,toPlaced.fv,AM,yO _ _ a k O];intro _;refine⟨λG=> ?_,λG=> ?_⟩
 .refine⟨G,λx Z=>⟨G,G,kM (yI Aj.c _ a k x Z) ?_⟩⟩;simp only[ZA,simprocAttr,sub];refine⟨⟨k+1,by omega⟩,by simp only;omega,?_,?_⟩
  .rw[AB (by omega) (by omega)];simp only;omega
  .exact yZ Aj.c _ a k x Z
 .rw[yU Aj.c _ a k (by omega)];simp[Aj.d_R]
def toTileS.fv(a:(List Tile)):List Tile:=(λp=>p) a
def toTileS.row:Ax:=vK (b1 (qS Tile.d_le Tile.c_n)) (rS Tile.d_le Tile.c_n) (λa=>a.length<=1073741824/\ ∀x∈a,x.Sides.length<=1073741824) toTileS.fv
def toTileS.q:=AX (R:=toTileS.row) rfl
def toTileS.ok:AA 80 toTileS.row:=by
 refine vw (tC toTile.ok tN) Tryz.func80 ?_;intro a z;simp only[Tryz.f80];simp only[ZA,simprocAttr,toTileS.fv];intro Z;have aa:a.length<=1073741824:=z.1;refine⟨by omega,?_⟩;refine AR.old ⟨{k:Nat//k<=a.length},λk=>⟨[(4,.im (.int .i64 k.1)),(3,.own 1),(0,.im (.sl false 2 (a.map Tile.c)))],[(1,(true,.arr 195 2 ((a.take k.1).map Tile.c++List.replicate (a.length - k.1) [.str ByteArray.empty,.sl true 0 []])))],2⟩,λk=>a.length - k.1,λk=>⟨by simp[ZG],AF _⟩,⟨⟨0,by omega⟩,by simp only[ZA,simprocAttr,sub];simp⟩,λk=> ?_⟩;obtain⟨k,O⟩:=k;simp only[ZA,simprocAttr,toTile.q,toTile.fv,AM,yO _ _ a k O];intro _;refine⟨λG=> ?_,λG=> ?_⟩
 .refine⟨G,λx Q=>⟨z.2 x (AP Q),G,G,kM (yI Tile.c _ a k x Q) ?_⟩⟩;simp only[ZA,simprocAttr,sub];refine⟨⟨k+1,by omega⟩,by simp only;omega,?_,?_⟩
  .rw[AB (by omega) (by omega)];simp only;omega
  .exact yZ Tile.c _ a k x Q
 .rw[yU Tile.c _ a k (by omega)];simp[Tile.d_R]
def U5(s:A8):Prop:=s.Glues.length<=1073741824/\s.Tiles.length<=1073741824/\ ∀x∈s.Tiles,x.Sides.length<=1073741824
def toTileSet.fv(a:A8):A8:=(λp=>p) a
def toTileSet.row:Ax:=vK (b1 (qR A8.d_le)) (rA A8.d_le) (λa=>U5 a) toTileSet.fv
def toTileSet.q:=AX (R:=toTileSet.row) rfl
def toTileSet.ok:AA 41 toTileSet.row:=by
 refine vw (tC toGlueS.ok (tC toTileS.ok tN)) Tryz.func41 ?_;intro a z;simp only[Tryz.f41];simp only[ZA,simprocAttr,toTileSet.fv,toGlueS.q,toGlueS.fv,toTileS.q,toTileS.fv];exact z
def toAssembly.fv(a:Ab):Ab:=(λp=>p) a
def toAssembly.row:Ax:=vK (b1 (qR Ab.d_le)) (rA Ab.d_le) (λa=>a.Tiles.length<=1073741824) toAssembly.fv
def toAssembly.q:=AX (R:=toAssembly.row) rfl
def toAssembly.ok:AA 11 toAssembly.row:=by
 refine vw (tC toPlacedS.ok tN) Tryz.func11 ?_;intro a z;simp only[Tryz.f11];simp only[ZA,simprocAttr,Ab.d,toAssembly.fv,toPlacedS.q,toPlacedS.fv];exact z
def aY(s:Am):Prop:=U5 s.Set/\s.Seed.Tiles.length<=1073741824
def toSystem.fv(a:Am):Am:=(λp=>p) a
def toSystem.row:Ax:=vK (b1 (qR Am.d_le)) (rA Am.d_le) (λa=>aY a) toSystem.fv
def toSystem.q:=AX (R:=toSystem.row) rfl
def toSystem.ok:AA 10 toSystem.row:=by
 refine vw (tC toTileSet.ok (tC toAssembly.ok tN)) Tryz.func10 ?_;intro a z;simp only[Tryz.f10];simp only[ZA,simprocAttr,Ab.d,toSystem.fv,toTileSet.q,toTileSet.fv,toAssembly.q,toAssembly.fv];exact z
def PR(g:Av)(l:Int):Int:=Dj g.Name.size l
def szGlue.fv(a:Av×Int):Int:=(PR) (a.1) (a.2)
def szGlue.row:Ax:=vK (b2 (qR Av.d_le) qI) rI (λa=> -1<=a.2/\a.2<=1048576/\a.1.Name.size<=140737488355328) szGlue.fv
def szGlue.q:=AX (R:=szGlue.row) rfl
def szGlue.ok:AA 127 szGlue.row:=by
 refine vw tN Tryz.func127 ?_;intro a z;simp only[Tryz.f127];simp only[ZA,simprocAttr,szGlue.fv];rw[AB (by omega) (by omega)];simp only[PR,Dj]
 grind
def HN(g:Tile)(l:Int):Int:=if Dj g.Name.size l<0 then -1 else Dj g.Sides.length (Dj g.Name.size l)
def szTile.fv(a:Tile×Int):Int:=(HN) (a.1) (a.2)
def szTile.row:Ax:=vK (b2 (qR Tile.d_le) qI) rI (λa=> -1<=a.2/\a.2<=1048576/\a.1.Name.size<=140737488355328) szTile.fv
def szTile.q:=AX (R:=szTile.row) rfl
def szTile.ok:AA 128 szTile.row:=by
 refine vw (tC szInt64S.ok tN) Tryz.func128 ?_;intro a z;simp only[Tryz.f128];simp only[ZA,simprocAttr,szTile.fv,szInt64S.q,szInt64S.fv];rw[AB (by omega) (by omega)];simp only[HN,Dj]
 grind
def HP{A:Type}(f:A->Int->Int):List A->Int->Int
 |[],l=>l
 |x::r,l=>if f x l<0 then -1 else HP f r (f x l)
def JA(a:List Av)(l:Int):Int:=if Dj a.length l<0 then -1 else HP PR a (Dj a.length l)
def szGlueS.fv(a:(List Av)×Int):Int:=(JA) (a.1) (a.2)
def szGlueS.row:Ax:=vK (b2 (qS Av.d_le Av.c_n) qI) rI (λa=> -1<=a.2/\a.2<=1048576/\ ∀x∈a.1,x.Name.size<=140737488355328) szGlueS.fv
def szGlueS.q:=AX (R:=szGlueS.row) rfl
def szGlueS.ok:AA 72 szGlueS.row:=by
 refine vw (tC szGlue.ok tN) Tryz.func72 ?_;intro a G;simp only[Tryz.f72];simp only[ZA,simprocAttr,szGlueS.fv];intro hn;rw[AB (by omega) (by omega)];obtain⟨ag,ah,ad⟩:=G;simp only[AM];refine⟨λhl=> ?_,λhl=> ?_⟩
 .simp only[JA,Dj];grind
 have h0:Dj a.1.length a.2=a.2 - a.1.length:=by simp only[Dj];rw[Ad hl]
 refine AR.old ⟨{p:Nat×Int//p.1<=a.1.length/\0<=p.2/\p.2<=1048576/\HP PR (a.1.drop p.1) p.2=HP PR a.1 (a.2 - a.1.length)},λp=>⟨[(5,.im (.int .i64 p.1.1)),(1,.im (.int .i64 p.1.2)),(4,.im (.int .i64 0)),(0,.im (.sl false 2 (a.1.map Av.c)))],[],0⟩,λp=>a.1.length - p.1.1,λp=>⟨by simp[ZG],AF _⟩,⟨⟨(0,a.2 - a.1.length),by simp,by simp only;omega,by simp only;omega,by simp⟩,by simp only[ZA,simprocAttr,sub]⟩,λp=> ?_⟩;obtain⟨⟨k,l⟩,aa,ab,ac,z⟩:=p;simp only at aa ab ac z;simp only[ZA,simprocAttr,szGlue.q,szGlue.fv,sub,AM];intro _;refine⟨λQ=>⟨Q,λx hx=>⟨⟨by omega,by omega,ad x (AP hx)⟩,?_⟩⟩,λQ=> ?_⟩
 .have hd:a.1.drop k=x::a.1.drop (k+1):=by
   rw[WY Q];rw[Bd Q] at hx;rw[Aw hx]
  rw[hd,HP] at z;have af:PR x l<=l:=by simp only[PR,Dj];grind
  have Z: ¬PR ⟨x.Name,x.Strength⟩ l<0-> ¬PR x l<0:=λh=>h
  refine⟨λO=> ?_,λO=>⟨⟨(k+1,PR x l),by simp only;omega,by simp only;have:=Z O;omega,by simp only;omega,?_⟩,by simp only;omega,?_,?_⟩⟩
  .rw[Ai O] at z;simp only[JA,h0]
   grind
  .rw[Ad O] at z;exact z
  .rw[AB (by omega) (by omega)];simp only;omega
  .rfl
 .rw[CO (by omega),HP] at z;simp only[JA,h0]
  grind
def QI(a:List Tile)(l:Int):Int:=if Dj a.length l<0 then -1 else HP HN a (Dj a.length l)
def szTileS.fv(a:(List Tile)×Int):Int:=(QI) (a.1) (a.2)
def szTileS.row:Ax:=vK (b2 (qS Tile.d_le Tile.c_n) qI) rI (λa=> -1<=a.2/\a.2<=1048576/\ ∀x∈a.1,x.Name.size<=140737488355328) szTileS.fv
def szTileS.q:=AX (R:=szTileS.row) rfl
def szTileS.ok:AA 73 szTileS.row:=by
 refine vw (tC szTile.ok tN) Tryz.func73 ?_;intro a G;simp only[Tryz.f73];simp only[ZA,simprocAttr,szTileS.fv];intro hn;rw[AB (by omega) (by omega)];obtain⟨ag,ah,ad⟩:=G;simp only[AM];refine⟨λhl=> ?_,λhl=> ?_⟩
 .simp only[QI,Dj];grind
 have h0:Dj a.1.length a.2=a.2 - a.1.length:=by simp only[Dj];rw[Ad hl]
 refine AR.old ⟨{p:Nat×Int//p.1<=a.1.length/\0<=p.2/\p.2<=1048576/\HP HN (a.1.drop p.1) p.2=HP HN a.1 (a.2 - a.1.length)},λp=>⟨[(5,.im (.int .i64 p.1.1)),(1,.im (.int .i64 p.1.2)),(4,.im (.int .i64 0)),(0,.im (.sl false 2 (a.1.map Tile.c)))],[],0⟩,λp=>a.1.length - p.1.1,λp=>⟨by simp[ZG],AF _⟩,⟨⟨(0,a.2 - a.1.length),by simp,by simp only;omega,by simp only;omega,by simp⟩,by simp only[ZA,simprocAttr,sub]⟩,λp=> ?_⟩;obtain⟨⟨k,l⟩,aa,ab,ac,z⟩:=p;simp only at aa ab ac z;simp only[ZA,simprocAttr,szTile.q,szTile.fv,sub,AM];intro _;refine⟨λQ=>⟨Q,λx hx=>⟨⟨by omega,by omega,ad x (AP hx)⟩,?_⟩⟩,λQ=> ?_⟩
 .have hd:a.1.drop k=x::a.1.drop (k+1):=by
   rw[WY Q];rw[Bd Q] at hx;rw[Aw hx]
  rw[hd,HP] at z;have af:HN x l<=l:=by simp only[HN,Dj];grind
  have Z: ¬HN ⟨x.Name,x.Sides⟩ l<0-> ¬HN x l<0:=λh=>h
  refine⟨λO=> ?_,λO=>⟨⟨(k+1,HN x l),by simp only;omega,by simp only;have:=Z O;omega,by simp only;omega,?_⟩,by simp only;omega,?_,?_⟩⟩
  .rw[Ai O] at z;simp only[QI,h0]
   grind
  .rw[Ad O] at z;exact z
  .rw[AB (by omega) (by omega)];simp only;omega
  .rfl
 .rw[CO (by omega),HP] at z;simp only[QI,h0]
  grind
def OB(s:A8):Prop:=(∀x∈s.Glues,x.Name.size<=140737488355328)/\ ∀x∈s.Tiles,x.Name.size<=140737488355328
def Qre{A:Type}{f:A->Int->Int}(hf: ∀x l,0<=l->f x l<=l)(a:List A): ∀(l:Int),0<=l->HP f a l<=l/\ -1<=HP f a l:=by
 induction a with
 |nil=>intro l z;simp[HP];omega
 |cons x r ih=>
  intro l z;simp only[HP];split
  .omega
  .have:=hf x l z
   have:=ih (f x l) (by omega)
   omega
def Qo1(a:List Av)(l:Int)(O: -1<=l): -1<=JA a l/\JA a l<=max l (-1):=by
 simp only[JA];split
 .omega
 .rename_i h;have z:=Qre (f:=PR) (λx l h=>by simp only[PR,Dj];grind) a (Dj a.length l) (by omega);have G:Dj a.length l<=max l (-1):=by simp only[Dj];grind
  omega
def Qv0(a:List Tile)(l:Int)(O: -1<=l): -1<=QI a l/\QI a l<=max l (-1):=by
 simp only[QI];split
 .omega
 .rename_i h;have z:=Qre (f:=HN) (λx l h=>by simp only[HN,Dj];grind) a (Dj a.length l) (by omega);have G:Dj a.length l<=max l (-1):=by simp only[Dj];grind
  omega
def Vw(s:A8)(l:Int):Int:=if JA s.Glues l<0 then -1 else QI s.Tiles (JA s.Glues l)
def Qxk(s:A8)(l:Int)(G: -1<=l): -1<=Vw s l/\Vw s l<=max l (-1):=by
 have z:=Qo1 s.Glues l G;have O:=Qv0 s.Tiles (JA s.Glues l) z.1;simp only[Vw]
 split<;>omega
def szTileSet.fv(a:A8×Int):Int:=(Vw) (a.1) (a.2)
def szTileSet.row:Ax:=vK (b2 (qR A8.d_le) qI) rI (λa=> -1<=a.2/\a.2<=1048576/\OB a.1) szTileSet.fv
def szTileSet.q:=AX (R:=szTileSet.row) rfl
def szTileSet.ok:AA 34 szTileSet.row:=by
 refine vw (tC szGlueS.ok (tC szTileS.ok tN)) Tryz.func34 ?_;intro a z;simp only[Tryz.f34];simp only[ZA,simprocAttr,szTileSet.fv,szGlueS.q,szGlueS.fv,szTileS.q,szTileS.fv];obtain⟨G,Q,Z,h4⟩:=z;have O:=Qo1 a.1.Glues a.2 G;refine⟨⟨G,Q,Z⟩,?_⟩;simp only[Vw];split
 .rfl
 .refine⟨⟨O.1,by omega,h4⟩,?_⟩;have hc:=Qv0 a.1.Tiles _ O.1
  split<;>omega
def aZ(n:Nat)(l:Int)(z: -1<=l): -1<=Dj n l/\Dj n l<=max l (-1):=by
 simp only[Dj];split<;>omega
def Zz(s:Am)(l:Int):Int:=if Vw s.Set l<0 then -1 else Ni s.Seed (Vw s.Set l)
def YT(s:Am)(l:Int)(G: -1<=l): -1<=Zz s l/\Zz s l<=max l (-1):=by
 have z:=Qxk s.Set l G;have O:=aZ s.Seed.Tiles.length (Vw s.Set l) z.1;simp only[Zz,Ni]
 split<;>omega
def szSystem.fv(a:Am×Int):Int:=(Zz) (a.1) (a.2)
def szSystem.row:Ax:=vK (b2 (qR Am.d_le) qI) rI (λa=> -1<=a.2/\a.2<=1048576/\OB a.1.Set) szSystem.fv
def szSystem.q:=AX (R:=szSystem.row) rfl
def szSystem.ok:AA 7 szSystem.row:=by
 refine vw (tC szTileSet.ok (tC szAssembly.ok tN)) Tryz.func7 ?_;intro a z;simp only[Tryz.f7];simp only[ZA,simprocAttr,Ab.d,szSystem.fv,szTileSet.q,szTileSet.fv,szAssembly.q,szAssembly.fv];obtain⟨G,Q,Z⟩:=z;have O:=Qxk a.1.Set a.2 G;refine⟨⟨G,Q,Z⟩,?_⟩;simp only[Zz];split
 .rfl
 .refine⟨⟨O.1,by omega⟩,?_⟩;have hc:=aZ a.1.Seed.Tiles.length _ O.1;simp only[Ni] at hc⊢
  grind
end Go.Ae
