/- Lemmas. Conditions: none. -/
import Derived.Test.YtkjfcnnfidnpcaaGreatDoorP06
import Derived.Test.YtkjfcnnfidnpcaaGreatDoorProg
set_option linter.all false
set_option maxHeartbeats 8000000
set_option maxRecDepth 100000
namespace Go.Ae
open Go.Proofs
def TY0:
 (tI Tryz.prog 2=some {size:=1,bytes:=8,agg:=false,kind:= .int .i64,zero:=[.int .i64 0]})/\
 (tI Tryz.prog 3=some {size:=1,bytes:=8,agg:=false,kind:= .int .i64,zero:=[.int .i64 0]})/\
 (tI Tryz.prog 4=some {size:=1,bytes:=1,agg:=false,kind:= .bool,zero:=[.bool false]})/\
 (tI Tryz.prog 5=some {size:=1,bytes:=1,agg:=false,kind:= .int .u8,zero:=[.int .u8 0]})/\
 (tI Tryz.prog 9=some {size:=1,bytes:=16,agg:=false,kind:= .str,zero:=[.str ByteArray.empty]})/\
 (tI Tryz.prog 12=some {size:=1,bytes:=8,agg:=false,kind:= .int .u64,zero:=[.int .u64 0]})/\
 (tI Tryz.prog 17=some {size:=1,bytes:=8,agg:=false,kind:= .ptr 346,zero:=[.nilp]})/\
 (tI Tryz.prog 20=some {size:=1,bytes:=16,agg:=false,kind:= .other,zero:=[.nili]})/\
 (tI Tryz.prog 22=some {size:=1,bytes:=24,agg:=false,kind:= .slice 163,zero:=[.sl true 0 []]})/\
 (tI Tryz.prog 23=some {size:=1,bytes:=24,agg:=false,kind:= .slice 166,zero:=[.sl true 0 []]})/\
 (tI Tryz.prog 25=some {size:=2,bytes:=48,agg:=true,kind:= .struct [(0,1),(1,1)],zero:=[.sl true 0 [],.sl true 0 []]})/\
 (tI Tryz.prog 26=some {size:=1,bytes:=24,agg:=false,kind:= .slice 190,zero:=[.sl true 0 []]})/\
 (tI Tryz.prog 28=some {size:=1,bytes:=24,agg:=true,kind:= .struct [(0,1)],zero:=[.sl true 0 []]})/\
 (tI Tryz.prog 30=some {size:=4,bytes:=80,agg:=true,kind:= .struct [(0,2),(2,1),(3,1)],zero:=[.sl true 0 [],.sl true 0 [],.sl true 0 [],.int .i64 0]})/\
 (tI Tryz.prog 31=some {size:=1,bytes:=24,agg:=false,kind:= .slice 2,zero:=[.sl true 0 []]})/\
 (tI Tryz.prog 33=some {size:=10,bytes:=192,agg:=true,kind:= .struct [(0,4),(4,4),(8,1),(9,1)],zero:=[.sl true 0 [],.sl true 0 [],.sl true 0 [],.int .i64 0,.sl true 0 [],.sl true 0 [],.sl true 0 [],.int .i64 0,.int .i64 0,.sl true 0 []]})/\
 (tI Tryz.prog 35=some {size:=1,bytes:=24,agg:=false,kind:= .slice 72,zero:=[.sl true 0 []]})/\
 (tI Tryz.prog 36=some {size:=1,bytes:=24,agg:=false,kind:= .slice 97,zero:=[.sl true 0 []]})/\
 (tI Tryz.prog 38=some {size:=1,bytes:=24,agg:=true,kind:= .struct [(0,1)],zero:=[.sl true 0 []]})/\
 (tI Tryz.prog 41=some {size:=1,bytes:=24,agg:=false,kind:= .slice 167,zero:=[.sl true 0 []]}):=by and_intros<;>kernel_rfl
def TY1:
 (tI Tryz.prog 42=some {size:=1,bytes:=24,agg:=false,kind:= .slice 170,zero:=[.sl true 0 []]})/\
 (tI Tryz.prog 44=some {size:=2,bytes:=48,agg:=true,kind:= .struct [(0,1),(1,1)],zero:=[.sl true 0 [],.sl true 0 []]})/\
 (tI Tryz.prog 46=some {size:=4,bytes:=80,agg:=true,kind:= .struct [(0,2),(2,1),(3,1)],zero:=[.sl true 0 [],.sl true 0 [],.sl true 0 [],.int .i64 0]})/\
 (tI Tryz.prog 48=some {size:=10,bytes:=192,agg:=true,kind:= .struct [(0,4),(4,4),(8,1),(9,1)],zero:=[.sl true 0 [],.sl true 0 [],.sl true 0 [],.int .i64 0,.sl true 0 [],.sl true 0 [],.sl true 0 [],.int .i64 0,.int .i64 0,.sl true 0 []]})/\
 (tI Tryz.prog 62=some {size:=1,bytes:=8,agg:=false,kind:= .ptr 48,zero:=[.nilp]})/\
 (tI Tryz.prog 67=some {size:=1,bytes:=8,agg:=false,kind:= .ptr 38,zero:=[.nilp]})/\
 (tI Tryz.prog 70=some {size:=2,bytes:=16,agg:=true,kind:= .struct [(0,1),(1,1)],zero:=[.int .i64 0,.int .i64 0]})/\
 (tI Tryz.prog 72=some {size:=3,bytes:=24,agg:=true,kind:= .struct [(0,2),(2,1)],zero:=[.int .i64 0,.int .i64 0,.int .i64 0]})/\
 (tI Tryz.prog 89=some {size:=1,bytes:=8,agg:=false,kind:= .ptr 46,zero:=[.nilp]})/\
 (tI Tryz.prog 97=some {size:=3,bytes:=24,agg:=true,kind:= .struct [(0,2),(2,1)],zero:=[.int .i64 0,.int .i64 0,.int .i64 0]})/\
 (tI Tryz.prog 103=some {size:=1,bytes:=8,agg:=false,kind:= .other,zero:=[.nilf]})/\
 (tI Tryz.prog 109=some {size:=1,bytes:=8,agg:=false,kind:= .other,zero:=[.nilf]})/\
 (tI Tryz.prog 114=some {size:=1,bytes:=8,agg:=false,kind:= .ptr 154,zero:=[.nilp]})/\
 (tI Tryz.prog 124=some {size:=1,bytes:=8,agg:=false,kind:= .ptr 44,zero:=[.nilp]})/\
 (tI Tryz.prog 143=some {size:=1,bytes:=8,agg:=false,kind:= .map 70 2,zero:=[.nilm]})/\
 (tI Tryz.prog 146=some {size:=1,bytes:=8,agg:=false,kind:= .int .u64,zero:=[.int .u64 0]})/\
 (tI Tryz.prog 147=some {size:=1,bytes:=8,agg:=false,kind:= .other,zero:=[.nilf]})/\
 (tI Tryz.prog 150=some {size:=1,bytes:=8,agg:=false,kind:= .other,zero:=[.nilf]})/\
 (tI Tryz.prog 151=some {size:=1,bytes:=8,agg:=false,kind:= .other,zero:=[.nilf]})/\
 (tI Tryz.prog 152=some {size:=1,bytes:=8,agg:=false,kind:= .map 70 31,zero:=[.nilm]}):=by and_intros<;>kernel_rfl
def TY2:
 (tI Tryz.prog 154=some {size:=6,bytes:=96,agg:=true,kind:= .struct [(0,4),(4,1),(5,1)],zero:=[.sl true 0 [],.sl true 0 [],.sl true 0 [],.int .i64 0,.nilm,.nilm]})/\
 (tI Tryz.prog 163=some {size:=2,bytes:=24,agg:=true,kind:= .struct [(0,1),(1,1)],zero:=[.str ByteArray.empty,.int .i64 0]})/\
 (tI Tryz.prog 166=some {size:=2,bytes:=40,agg:=true,kind:= .struct [(0,1),(1,1)],zero:=[.str ByteArray.empty,.sl true 0 []]})/\
 (tI Tryz.prog 167=some {size:=2,bytes:=24,agg:=true,kind:= .struct [(0,1),(1,1)],zero:=[.str ByteArray.empty,.int .i64 0]})/\
 (tI Tryz.prog 170=some {size:=2,bytes:=40,agg:=true,kind:= .struct [(0,1),(1,1)],zero:=[.str ByteArray.empty,.sl true 0 []]})/\
 (tI Tryz.prog 172=some {size:=1,bytes:=24,agg:=false,kind:= .slice 214,zero:=[.sl true 0 []]})/\
 (tI Tryz.prog 178=some {size:=1,bytes:=24,agg:=false,kind:= .slice 70,zero:=[.sl true 0 []]})/\
 (tI Tryz.prog 188=some {size:=2,bytes:=16,agg:=true,kind:= .struct [(0,1),(1,1)],zero:=[.int .i64 0,.int .i64 0]})/\
 (tI Tryz.prog 190=some {size:=3,bytes:=24,agg:=true,kind:= .struct [(0,2),(2,1)],zero:=[.int .i64 0,.int .i64 0,.int .i64 0]})/\
 (tI Tryz.prog 194=some {size:=1,bytes:=8,agg:=false,kind:= .other,zero:=[.nilf]})/\
 (tI Tryz.prog 197=some {size:=1,bytes:=16,agg:=false,kind:= .other,zero:=[.nili]})/\
 (tI Tryz.prog 202=some {size:=1,bytes:=8,agg:=false,kind:= .other,zero:=[.nilf]})/\
 (tI Tryz.prog 214=some {size:=3,bytes:=24,agg:=true,kind:= .struct [(0,1),(1,1),(2,1)],zero:=[.int .i64 0,.int .i64 0,.int .i64 0]})/\
 (tI Tryz.prog 215=some {size:=1,bytes:=24,agg:=false,kind:= .slice 31,zero:=[.sl true 0 []]})/\
 (tI Tryz.prog 218=some {size:=1,bytes:=8,agg:=false,kind:= .ptr 249,zero:=[.nilp]})/\
 (tI Tryz.prog 235=some {size:=1,bytes:=16,agg:=false,kind:= .other,zero:=[.nili]})/\
 (tI Tryz.prog 240=some {size:=1,bytes:=24,agg:=false,kind:= .slice 3,zero:=[.sl true 0 []]})/\
 (tI Tryz.prog 243=some {size:=8,bytes:=64,agg:=true,kind:= .array 4 70,zero:=[.int .i64 0,.int .i64 0,.int .i64 0,.int .i64 0,.int .i64 0,.int .i64 0,.int .i64 0,.int .i64 0]})/\
 (tI Tryz.prog 245=some {size:=1,bytes:=24,agg:=false,kind:= .slice 5,zero:=[.sl true 0 []]})/\
 (tI Tryz.prog 249=some {size:=4,bytes:=80,agg:=true,kind:= .struct [(0,1),(1,1),(2,1),(3,1)],zero:=[.int .i64 0,.sl true 0 [],.sl true 0 [],.sl true 0 []]}):=by and_intros<;>kernel_rfl
def TY3:
 (tI Tryz.prog 250=some {size:=1,bytes:=8,agg:=false,kind:= .map 9 4,zero:=[.nilm]})/\
 (tI Tryz.prog 254=some {size:=1,bytes:=8,agg:=false,kind:= .other,zero:=[.nilf]})/\
 (tI Tryz.prog 256=some {size:=1,bytes:=8,agg:=false,kind:= .other,zero:=[.nilf]})/\
 (tI Tryz.prog 258=some {size:=2,bytes:=16,agg:=true,kind:= .array 2 2,zero:=[.int .i64 0,.int .i64 0]})/\
 (tI Tryz.prog 259=some {size:=1,bytes:=8,agg:=false,kind:= .ptr 298,zero:=[.nilp]})/\
 (tI Tryz.prog 264=some {size:=1,bytes:=8,agg:=false,kind:= .other,zero:=[.nilf]})/\
 (tI Tryz.prog 269=some {size:=1,bytes:=16,agg:=false,kind:= .other,zero:=[.nili]})/\
 (tI Tryz.prog 272=some {size:=1,bytes:=16,agg:=false,kind:= .other,zero:=[.nili]})/\
 (tI Tryz.prog 274=some {size:=1,bytes:=16,agg:=false,kind:= .other,zero:=[.nili]})/\
 (tI Tryz.prog 275=some {size:=1,bytes:=24,agg:=false,kind:= .slice 197,zero:=[.sl true 0 []]})/\
 (tI Tryz.prog 278=some {size:=1,bytes:=8,agg:=false,kind:= .int .i64,zero:=[.int .i64 0]})/\
 (tI Tryz.prog 285=some {size:=1,bytes:=4,agg:=false,kind:= .int .u32,zero:=[.int .u32 0]})/\
 (tI Tryz.prog 287=some {size:=1,bytes:=8,agg:=false,kind:= .int .u64,zero:=[.int .u64 0]})/\
 (tI Tryz.prog 289=some {size:=1,bytes:=24,agg:=false,kind:= .slice 290,zero:=[.sl true 0 []]})/\
 (tI Tryz.prog 290=some {size:=1,bytes:=8,agg:=false,kind:= .ptr 292,zero:=[.nilp]})/\
 (tI Tryz.prog 292=some {size:=2,bytes:=16,agg:=true,kind:= .struct [(0,1),(1,1)],zero:=[.nilp,.int .i64 0]})/\
 (tI Tryz.prog 294=some {size:=1,bytes:=8,agg:=false,kind:= .map 2 3,zero:=[.nilm]})/\
 (tI Tryz.prog 298=some {size:=2,bytes:=48,agg:=true,kind:= .struct [(0,1),(1,1)],zero:=[.sl true 0 [],.sl true 0 []]})/\
 (tI Tryz.prog 302=some {size:=1,bytes:=8,agg:=false,kind:= .int .u64,zero:=[.int .u64 0]})/\
 (tI Tryz.prog 306=some {size:=1,bytes:=8,agg:=false,kind:= .ptr 3,zero:=[.nilp]}):=by and_intros<;>kernel_rfl
def TY4:
 (tI Tryz.prog 309=some {size:=1,bytes:=8,agg:=false,kind:= .other,zero:=[.nilc]})/\
 (tI Tryz.prog 331=some {size:=1,bytes:=8,agg:=false,kind:= .ptr 358,zero:=[.nilp]})/\
 (tI Tryz.prog 340=some {size:=1,bytes:=1,agg:=false,kind:= .int .u8,zero:=[.int .u8 0]})/\
 (tI Tryz.prog 346=some {size:=11,bytes:=48,agg:=true,kind:= .struct [(0,1),(1,1),(2,1),(3,1),(4,1),(5,1),(6,1),(7,1),(8,1),(9,1),(10,1)],zero:=[.int .u64 0,.int .u64 0,.int .u32 0,.int .u8 0,.int .u8 0,.int .u8 0,.int .u8 0,.nilf,.nilp,.int .i32 0,.int .i32 0]})/\
 (tI Tryz.prog 358=some {size:=1,bytes:=16,agg:=true,kind:= .struct [(0,1)],zero:=[.str ByteArray.empty]})/\
 (tI Tryz.prog 360=some {size:=1,bytes:=8,agg:=false,kind:= .ptr 364,zero:=[.nilp]})/\
 (tI Tryz.prog 364=some {size:=5,bytes:=16,agg:=true,kind:= .struct [(0,1),(1,1),(2,1),(3,1),(4,1)],zero:=[.int .i32 0,.int .u16 0,.int .u16 0,.int .u32 0,.int .u32 0]})/\
 (tI Tryz.prog 365=some {size:=1,bytes:=24,agg:=false,kind:= .slice 368,zero:=[.sl true 0 []]})/\
 (tI Tryz.prog 368=some {size:=4,bytes:=16,agg:=true,kind:= .struct [(0,1),(1,1),(2,1),(3,1)],zero:=[.int .i32 0,.int .i32 0,.int .i32 0,.int .i32 0]}):=by and_intros<;>kernel_rfl
def KY0:
 (B7 Tryz.prog 2=some ⟨false,[.int .i64]⟩)/\
 (B7 Tryz.prog 3=some ⟨false,[.int .i64]⟩)/\
 (B7 Tryz.prog 4=some ⟨false,[.bool]⟩)/\
 (B7 Tryz.prog 5=some ⟨false,[.int .u8]⟩)/\
 (B7 Tryz.prog 9=some ⟨false,[.str]⟩)/\
 (B7 Tryz.prog 12=some ⟨false,[.int .u64]⟩)/\
 (B7 Tryz.prog 70=some ⟨true,[.int .i64,.int .i64]⟩)/\
 (Tryz.prog.eqGuardType Tryz.prog.depth 70=false)/\
 (B7 Tryz.prog 72=some ⟨true,[.int .i64,.int .i64,.int .i64]⟩)/\
 (Tryz.prog.eqGuardType Tryz.prog.depth 72=false)/\
 (B7 Tryz.prog 97=some ⟨true,[.int .i64,.int .i64,.int .i64]⟩)/\
 (Tryz.prog.eqGuardType Tryz.prog.depth 97=false)/\
 (B7 Tryz.prog 146=some ⟨false,[.int .u64]⟩)/\
 (B7 Tryz.prog 163=some ⟨true,[.str,.int .i64]⟩)/\
 (Tryz.prog.eqGuardType Tryz.prog.depth 163=false)/\
 (B7 Tryz.prog 167=some ⟨true,[.str,.int .i64]⟩)/\
 (Tryz.prog.eqGuardType Tryz.prog.depth 167=false)/\
 (B7 Tryz.prog 188=some ⟨true,[.int .i64,.int .i64]⟩)/\
 (Tryz.prog.eqGuardType Tryz.prog.depth 188=false)/\
 (B7 Tryz.prog 190=some ⟨true,[.int .i64,.int .i64,.int .i64]⟩):=by and_intros<;>kernel_rfl
def KY1:
 (Tryz.prog.eqGuardType Tryz.prog.depth 190=false)/\
 (B7 Tryz.prog 214=some ⟨true,[.int .i64,.int .i64,.int .i64]⟩)/\
 (Tryz.prog.eqGuardType Tryz.prog.depth 214=false)/\
 (B7 Tryz.prog 278=some ⟨false,[.int .i64]⟩)/\
 (B7 Tryz.prog 285=some ⟨false,[.int .u32]⟩)/\
 (B7 Tryz.prog 287=some ⟨false,[.int .u64]⟩)/\
 (B7 Tryz.prog 302=some ⟨false,[.int .u64]⟩)/\
 (B7 Tryz.prog 340=some ⟨false,[.int .u8]⟩)/\
 (B7 Tryz.prog 358=some ⟨true,[.str]⟩)/\
 (Tryz.prog.eqGuardType Tryz.prog.depth 358=false):=by and_intros<;>kernel_rfl
def CY0:True/\True:=⟨trivial,trivial⟩
def CF:Tryz.prog.follows .mixedOrders=true:=by kernel_rfl
end Go.Ae
namespace Go.Ae
def kI:PK->Option Int
 | .val (.int .i64 x)=>some x
 |_=>none
def kU:PK->Option Int
 | .val (.int .u64 x)=>some x
 |_=>none
def kY:PK->Option Int
 | .val (.int .u8 x)=>some x
 |_=>none
def kB:PK->Option Bool
 | .val (.bool x)=>some x
 |_=>none
def kT:PK->Option ByteArray
 | .val (.str x)=>some x
 |_=>none
def kR{A:Type}(f:List D->Option A):PK->Option A
 | .val (.agg x)=>f x
 |_=>none
def kP{A:Type}(f:List D->Option A)(n:Nat):PK->Option A
 | .ptr x=>f (x.take n)
 |_=>none
def kS{A:Type}(f:List D->Option A):PK->Option (List A)
 | .val (.sl _ _ x)=>AQ f x
 |_=>none
def aN: ∀p a,kI p=some a->Cr p (.val (.int .i64 a)):=by
 intro p a h;unfold kI at h;split at h
 .obtain rfl:=A7 h;exact Cr.refl _
 .cases h
def wQ: ∀p a,kU p=some a->Cr p (.val (.int .u64 a)):=by
 intro p a h;unfold kU at h;split at h
 .obtain rfl:=A7 h;exact Cr.refl _
 .cases h
def wS: ∀p a,kY p=some a->Cr p (.val (.int .u8 a)):=by
 intro p a h;unfold kY at h;split at h
 .obtain rfl:=A7 h;exact Cr.refl _
 .cases h
def wM: ∀p a,kB p=some a->Cr p (.val (.bool a)):=by
 intro p a h;unfold kB at h;split at h
 .obtain rfl:=A7 h;exact Cr.refl _
 .cases h
def wP: ∀p a,kT p=some a->Cr p (.val (.str a)):=by
 intro p a h;unfold kT at h;split at h
 .obtain rfl:=A7 h;exact Cr.refl _
 .cases h
section
variable {A:Type}{f:List D->Option A}{e:A->List D}
def Mg(hf: ∀ds x,f ds=some x->CM ds (e x)): ∀p a,kR f p=some a->Cr p (.val (.agg (e a))):=by
 intro p a h;unfold kR at h;split at h
 .exact Zf (hf _ _ h)
 .cases h
def wN(n:Nat)(hf: ∀ds x,f ds=some x->CM ds (e x)): ∀p a,kP f n p=some a->Cr p (.ptr (e a)):=by
 intro p a h;unfold kP at h;split at h
 .exact FM.trans_take (hf _ _ h)
 .cases h
def SL(k:Nat)(hf: ∀ds x,f ds=some x->CM ds (e x))(z: ∀x,(e x).length=k): ∀p a,kS f p=some a->Cr p (.val (.sl false k (a.map e))):=by
 intro p a h;unfold kS at h;split at h
 .exact D2 (Dr hf _ _ h) (by simp only[Bh];rintro r ⟨y,_,rfl⟩;exact z y)
 .cases h
end
def a1{z:Type}(O:PK->Option z):List PK->Option (z)
 |[Q]=>(O Q).bind λZ=>some Z
 |_=>none
def ZY{O:Type}{Z:PK->Option O}{Q:O->PK}(h0: ∀p a,Z p=some a->Cr p (Q a)): ∀z a,a1 Z z=some a->BE z [Q (a)]:=by
 intro z a h;unfold a1 at h;split at h
 .simp only[Ei,AI] at h;obtain⟨y0,g0,rfl⟩:=h;exact⟨h0 _ _ g0,trivial⟩
 .cases h
def a2{z O:Type}(Q:PK->Option z)(Z:PK->Option O):List PK->Option (z×O)
 |[x0,x1]=>(Q x0).bind λy0=>(Z x1).bind λy1=>some (y0,y1)
 |_=>none
def aA{O:Type}{f0:PK->Option O}{Z:O->PK}{Q:Type}{f1:PK->Option Q}{e1:Q->PK}(h0: ∀p a,f0 p=some a->Cr p (Z a))(h1: ∀p a,f1 p=some a->Cr p (e1 a)): ∀z a,a2 f0 f1 z=some a->BE z [Z (a.1),e1 (a.2)]:=by
 intro z a h;unfold a2 at h;split at h
 .simp only[Ei,AI] at h;obtain⟨y0,g0,y1,g1,rfl⟩:=h;exact⟨h0 _ _ g0,h1 _ _ g1,trivial⟩
 .cases h
def a3{z O Q:Type}(Z:PK->Option z)(f1:PK->Option O)(f2:PK->Option Q):List PK->Option (z×O×Q)
 |[x0,x1,x2]=>(Z x0).bind λy0=>(f1 x1).bind λy1=>(f2 x2).bind λy2=>some (y0,y1,y2)
 |_=>none
def aB{O:Type}{f0:PK->Option O}{e0:O->PK}{Q:Type}{f1:PK->Option Q}{e1:Q->PK}{Z:Type}{f2:PK->Option Z}{e2:Z->PK}(h0: ∀p a,f0 p=some a->Cr p (e0 a))(h1: ∀p a,f1 p=some a->Cr p (e1 a))(h2: ∀p a,f2 p=some a->Cr p (e2 a)): ∀z a,a3 f0 f1 f2 z=some a->BE z [e0 (a.1),e1 (a.2.1),e2 (a.2.2)]:=by
 intro z a h;unfold a3 at h;split at h
 .simp only[Ei,AI] at h;obtain⟨y0,g0,y1,g1,y2,g2,rfl⟩:=h;exact⟨h0 _ _ g0,h1 _ _ g1,h2 _ _ g2,trivial⟩
 .cases h
def a4{z O Q Z:Type}(f0:PK->Option z)(f1:PK->Option O)(f2:PK->Option Q)(f3:PK->Option Z):List PK->Option (z×O×Q×Z)
 |[x0,x1,x2,x3]=>(f0 x0).bind λy0=>(f1 x1).bind λy1=>(f2 x2).bind λy2=>(f3 x3).bind λy3=>some (y0,y1,y2,y3)
 |_=>none
def vW{O:Type}{f0:PK->Option O}{e0:O->PK}{Q:Type}{f1:PK->Option Q}{e1:Q->PK}{Z:Type}{f2:PK->Option Z}{e2:Z->PK}{A3:Type}{f3:PK->Option A3}{e3:A3->PK}(h0: ∀p a,f0 p=some a->Cr p (e0 a))(h1: ∀p a,f1 p=some a->Cr p (e1 a))(h2: ∀p a,f2 p=some a->Cr p (e2 a))(h3: ∀p a,f3 p=some a->Cr p (e3 a)): ∀z a,a4 f0 f1 f2 f3 z=some a->BE z [e0 (a.1),e1 (a.2.1),e2 (a.2.2.1),e3 (a.2.2.2)]:=by
 intro z a h;unfold a4 at h;split at h
 .simp only[Ei,AI] at h;obtain⟨y0,g0,y1,g1,y2,g2,y3,g3,rfl⟩:=h;exact⟨h0 _ _ g0,h1 _ _ g1,h2 _ _ g2,h3 _ _ g3,trivial⟩
 .cases h
def a5{z O Q Z A4:Type}(f0:PK->Option z)(f1:PK->Option O)(f2:PK->Option Q)(f3:PK->Option Z)(f4:PK->Option A4):List PK->Option (z×O×Q×Z×A4)
 |[x0,x1,x2,x3,x4]=>(f0 x0).bind λy0=>(f1 x1).bind λy1=>(f2 x2).bind λy2=>(f3 x3).bind λy3=>(f4 x4).bind λy4=>some (y0,y1,y2,y3,y4)
 |_=>none
def vX{O:Type}{f0:PK->Option O}{e0:O->PK}{Q:Type}{f1:PK->Option Q}{e1:Q->PK}{Z:Type}{f2:PK->Option Z}{e2:Z->PK}{A3:Type}{f3:PK->Option A3}{e3:A3->PK}{A4:Type}{f4:PK->Option A4}{e4:A4->PK}(h0: ∀p a,f0 p=some a->Cr p (e0 a))(h1: ∀p a,f1 p=some a->Cr p (e1 a))(h2: ∀p a,f2 p=some a->Cr p (e2 a))(h3: ∀p a,f3 p=some a->Cr p (e3 a))(h4: ∀p a,f4 p=some a->Cr p (e4 a)): ∀z a,a5 f0 f1 f2 f3 f4 z=some a->BE z [e0 (a.1),e1 (a.2.1),e2 (a.2.2.1),e3 (a.2.2.2.1),e4 (a.2.2.2.2)]:=by
 intro z a h;unfold a5 at h;split at h
 .simp only[Ei,AI] at h;obtain⟨y0,g0,y1,g1,y2,g2,y3,g3,y4,g4,rfl⟩:=h;exact⟨h0 _ _ g0,h1 _ _ g1,h2 _ _ g2,h3 _ _ g3,h4 _ _ g4,trivial⟩
 .cases h
def a6{z O Q Z A4 A5:Type}(f0:PK->Option z)(f1:PK->Option O)(f2:PK->Option Q)(f3:PK->Option Z)(f4:PK->Option A4)(f5:PK->Option A5):List PK->Option (z×O×Q×Z×A4×A5)
 |[x0,x1,x2,x3,x4,x5]=>(f0 x0).bind λy0=>(f1 x1).bind λy1=>(f2 x2).bind λy2=>(f3 x3).bind λy3=>(f4 x4).bind λy4=>(f5 x5).bind λy5=>some (y0,y1,y2,y3,y4,y5)
 |_=>none
def vY{O:Type}{f0:PK->Option O}{e0:O->PK}{Q:Type}{f1:PK->Option Q}{e1:Q->PK}{Z:Type}{f2:PK->Option Z}{e2:Z->PK}{A3:Type}{f3:PK->Option A3}{e3:A3->PK}{A4:Type}{f4:PK->Option A4}{e4:A4->PK}{A5:Type}{f5:PK->Option A5}{e5:A5->PK}(h0: ∀p a,f0 p=some a->Cr p (e0 a))(h1: ∀p a,f1 p=some a->Cr p (e1 a))(h2: ∀p a,f2 p=some a->Cr p (e2 a))(h3: ∀p a,f3 p=some a->Cr p (e3 a))(h4: ∀p a,f4 p=some a->Cr p (e4 a))(h5: ∀p a,f5 p=some a->Cr p (e5 a)): ∀z a,a6 f0 f1 f2 f3 f4 f5 z=some a->BE z [e0 (a.1),e1 (a.2.1),e2 (a.2.2.1),e3 (a.2.2.2.1),e4 (a.2.2.2.2.1),e5 (a.2.2.2.2.2)]:=by
 intro z a h;unfold a6 at h;split at h
 .simp only[Ei,AI] at h;obtain⟨y0,g0,y1,g1,y2,g2,y3,g3,y4,g4,y5,g5,rfl⟩:=h;exact⟨h0 _ _ g0,h1 _ _ g1,h2 _ _ g2,h3 _ _ g3,h4 _ _ g4,h5 _ _ g5,trivial⟩
 .cases h
def a7{z O Q Z A4 A5 A6:Type}(f0:PK->Option z)(f1:PK->Option O)(f2:PK->Option Q)(f3:PK->Option Z)(f4:PK->Option A4)(f5:PK->Option A5)(f6:PK->Option A6):List PK->Option (z×O×Q×Z×A4×A5×A6)
 |[x0,x1,x2,x3,x4,x5,x6]=>(f0 x0).bind λy0=>(f1 x1).bind λy1=>(f2 x2).bind λy2=>(f3 x3).bind λy3=>(f4 x4).bind λy4=>(f5 x5).bind λy5=>(f6 x6).bind λy6=>some (y0,y1,y2,y3,y4,y5,y6)
 |_=>none
def vZ{O:Type}{f0:PK->Option O}{e0:O->PK}{Q:Type}{f1:PK->Option Q}{e1:Q->PK}{Z:Type}{f2:PK->Option Z}{e2:Z->PK}{A3:Type}{f3:PK->Option A3}{e3:A3->PK}{A4:Type}{f4:PK->Option A4}{e4:A4->PK}{A5:Type}{f5:PK->Option A5}{e5:A5->PK}{A6:Type}{f6:PK->Option A6}{e6:A6->PK}(h0: ∀p a,f0 p=some a->Cr p (e0 a))(h1: ∀p a,f1 p=some a->Cr p (e1 a))(h2: ∀p a,f2 p=some a->Cr p (e2 a))(h3: ∀p a,f3 p=some a->Cr p (e3 a))(h4: ∀p a,f4 p=some a->Cr p (e4 a))(h5: ∀p a,f5 p=some a->Cr p (e5 a))(h6: ∀p a,f6 p=some a->Cr p (e6 a)): ∀z a,a7 f0 f1 f2 f3 f4 f5 f6 z=some a->BE z [e0 (a.1),e1 (a.2.1),e2 (a.2.2.1),e3 (a.2.2.2.1),e4 (a.2.2.2.2.1),e5 (a.2.2.2.2.2.1),e6 (a.2.2.2.2.2.2)]:=by
 intro z a h;unfold a7 at h;split at h
 .simp only[Ei,AI] at h;obtain⟨y0,g0,y1,g1,y2,g2,y3,g3,y4,g4,y5,g5,y6,g6,rfl⟩:=h;exact⟨h0 _ _ g0,h1 _ _ g1,h2 _ _ g2,h3 _ _ g3,h4 _ _ g4,h5 _ _ g5,h6 _ _ g6,trivial⟩
 .cases h
def Jv{A B E F:Type}(f:D->Option A)(g:D->Option B)(k:D->Option E)(m:D->Option F):D->Option (A×B×E×F)
 | .tup [x,y,z,w]=>(f x).bind λa=>(g y).bind λb=>(k z).bind λc=>(m w).bind λd=>some (a,b,c,d)
 |_=>none
def Vf{A B E F:Type}{f:D->Option A}{g:D->Option B}{k:D->Option E}{m:D->Option F}{e:A->D}{e':B->D}{e'':E->D}{z:F->D}(hf: ∀d x,f d=some x->Le d (e x))(hg: ∀d x,g d=some x->Le d (e' x))(hk: ∀d x,k d=some x->Le d (e'' x))(hm: ∀d x,m d=some x->Le d (z x)):
 ∀d (x:A×B×E×F),Jv f g k m d=some x->Le d (.tup [e x.1,e' x.2.1,e'' x.2.2.1,z x.2.2.2]):=by
 intro d x h;unfold Jv at h;split at h
 .simp only[Ei,AI] at h;obtain⟨a,O,b,Q,c,Z,w,h4,rfl⟩:=h;exact KC ⟨hf _ _ O,hg _ _ Q,hk _ _ Z,hm _ _ h4,trivial⟩
 .cases h
def Ag.c_n(x:Ag):(Ag.c x).length=3:=rfl
def Am.c_n(x:Am):(Am.c x).length=2:=rfl
def AD.c_n(x:AD):(AD.c x).length=3:=rfl
def Ah.c_n(x:Ah):(Ah.c x).length=3:=rfl
def Ab.c_n(x:Ab):(Ab.c x).length=2:=rfl
def Tile.c_n(x:Tile):(Tile.c x).length=2:=rfl
def Dc(x:Int):(Aj x).length=1:=rfl
def MT(x:List Int):(CK x).length=1:=rfl
structure QK(A:Type) where
 d:PK->Option A
 e:A->PK
 l: ∀p a,d p=some a->Cr p (e a)
def qI:QK Int:=⟨kI,λa=> .val (.int .i64 a),aN⟩
def qU:QK Int:=⟨kU,λa=> .val (.int .u64 a),wQ⟩
def qY:QK Int:=⟨kY,λa=> .val (.int .u8 a),wS⟩
def qB:QK Bool:=⟨kB,λa=> .val (.bool a),wM⟩
def qT:QK ByteArray:=⟨kT,λa=> .val (.str a),wP⟩
section
variable {A:Type}{f:List D->Option A}{e:A->List D}
def qR(h: ∀ds x,f ds=some x->CM ds (e x)):QK A:=⟨kR f,λa=> .val (.agg (e a)),Mg h⟩
def qP(n:Nat)(h: ∀ds x,f ds=some x->CM ds (e x)):QK A:=⟨kP f n,λa=> .ptr (e a),wN n h⟩
def qS{k:Nat}(h: ∀ds x,f ds=some x->CM ds (e x))(z: ∀x,(e x).length=k):QK (List A):=⟨kS f,λa=> .val (.sl false k (a.map e)),SL k h z⟩
end
structure AK(A:Type) where
 r:List PK->Option A
 e:A->List PK
 l: ∀ps a,r ps=some a->BE ps (e a)
 n:Nat
 w: ∀a,(e a).length=n
def b1{z:Type}(p0:QK z):AK (z):=⟨a1 p0.d,λa=>[p0.e (a)],ZY p0.l,1,λ_=>rfl⟩
def b2{z O:Type}(p0:QK z)(p1:QK O):AK (z×O):=⟨a2 p0.d p1.d,λa=>[p0.e (a.1),p1.e (a.2)],aA p0.l p1.l,2,λ_=>rfl⟩
def b3{O Q Z:Type}(p0:QK O)(p1:QK Q)(z:QK Z):AK (O×Q×Z):=⟨a3 p0.d p1.d z.d,λa=>[p0.e (a.1),p1.e (a.2.1),z.e (a.2.2)],aB p0.l p1.l z.l,3,λ_=>rfl⟩
def b4{Q Z A2 A3:Type}(p0:QK Q)(p1:QK Z)(z:QK A2)(O:QK A3):AK (Q×Z×A2×A3):=⟨a4 p0.d p1.d z.d O.d,λa=>[p0.e (a.1),p1.e (a.2.1),z.e (a.2.2.1),O.e (a.2.2.2)],vW p0.l p1.l z.l O.l,4,λ_=>rfl⟩
def b5{Z A1 A2 A3 A4:Type}(p0:QK Z)(p1:QK A1)(z:QK A2)(O:QK A3)(Q:QK A4):AK (Z×A1×A2×A3×A4):=⟨a5 p0.d p1.d z.d O.d Q.d,λa=>[p0.e (a.1),p1.e (a.2.1),z.e (a.2.2.1),O.e (a.2.2.2.1),Q.e (a.2.2.2.2)],vX p0.l p1.l z.l O.l Q.l,5,λ_=>rfl⟩
def b6{A0 A1 A2 A3 A4 A5:Type}(p0:QK A0)(p1:QK A1)(z:QK A2)(O:QK A3)(Q:QK A4)(Z:QK A5):AK (A0×A1×A2×A3×A4×A5):=⟨a6 p0.d p1.d z.d O.d Q.d Z.d,λa=>[p0.e (a.1),p1.e (a.2.1),z.e (a.2.2.1),O.e (a.2.2.2.1),Q.e (a.2.2.2.2.1),Z.e (a.2.2.2.2.2)],vY p0.l p1.l z.l O.l Q.l Z.l,6,λ_=>rfl⟩
def b7{A0 A1 A2 A3 A4 A5 A6:Type}(p0:QK A0)(p1:QK A1)(z:QK A2)(O:QK A3)(Q:QK A4)(Z:QK A5)(p6:QK A6):AK (A0×A1×A2×A3×A4×A5×A6):=⟨a7 p0.d p1.d z.d O.d Q.d Z.d p6.d,λa=>[p0.e (a.1),p1.e (a.2.1),z.e (a.2.2.1),O.e (a.2.2.2.1),Q.e (a.2.2.2.2.1),Z.e (a.2.2.2.2.2.1),p6.e (a.2.2.2.2.2.2)],vZ p0.l p1.l z.l O.l Q.l Z.l p6.l,7,λ_=>rfl⟩
structure RK(B:Type) where
 c:D->Option B
 e:B->D
 l: ∀d b,c d=some b->Le d (e b)
def rI:RK Int:=⟨D0,D.int .i64,Lg⟩
def rB:RK Bool:=⟨PO,D.bool,Ze⟩
def rT:RK ByteArray:=⟨Vd,D.str,YZ⟩
section
variable {A:Type}{f:List D->Option A}{e:A->List D}
def rA(h: ∀ds x,f ds=some x->CM ds (e x)):RK A:=⟨EG f,λb=>D.agg (e b),Nu h⟩
def rS{k:Nat}(h: ∀ds x,f ds=some x->CM ds (e x))(z: ∀x,(e x).length=k):RK (List A):=⟨Qy f,λb=>D.sl false k (b.map e),rQ h z⟩
end
def r2{A B:Type}(p:RK A)(q:RK B):RK (A×B):=⟨kW p.c q.c,λb=>D.tup [p.e b.1,q.e b.2],Qbz p.l q.l⟩
def r3{A B C:Type}(p:RK A)(q:RK B)(r:RK C):RK (A×B×C):=⟨Ju p.c q.c r.c,λb=>D.tup [p.e b.1,q.e b.2.1,r.e b.2.2],Ve p.l q.l r.l⟩
def r4{A B C E:Type}(p:RK A)(q:RK B)(r:RK C)(s:RK E):RK (A×B×C×E):=⟨Jv p.c q.c r.c s.c,λb=>D.tup [p.e b.1,q.e b.2.1,r.e b.2.2.1,s.e b.2.2.2],Vf p.l q.l r.l s.l⟩
def tN{P:Program}:J3 P (Qv []):=Q8 [] (by simp)
def tC{P:Program}{g:Nat}{r:Ay}{l:List (Nat×Ay)}(h:Jw P g r)(Q:J3 P (Qv l)):J3 P (Qv ((g,r)::l)):=by
 intro g' args h' nx K z;simp only[Qv] at z;split at z
 .rename_i O;subst O;exact h _ _ _ _ z
 .exact Q _ _ _ _ _ z
def ZA0:=J @VC0<|J @VC1<|J @VC2<|J @VC3<|J @VC4<|J @VC5<|J @VC6<|J @VC7<|J @VC8<|J @VC9<|J @VC10<|J @VC11<|J @VC12<|J @VC13<|J @VC14<|J @VC15<|J @VC16<|J @VC17<|J @VC18<|J @VC19<|J @VC20<|J @VC21<|J @VC22<|@VC23
def ZA1:=J @VC24<|J @VC25<|J @VC26<|J @VC27<|J @VC28<|J @VC29<|J @VC30<|J @VC31<|J @VC32<|J @VC33<|J @VC34<|J @VC35<|J @VC36<|J @VC37<|J @VC38<|J @VC39<|J @VC40<|J @VC41<|J @VC42<|J @ZdB.{0}<|J @Qk<|J @Bool.not_eq_false'<|J @AV.im.injEq<|@D.int.injEq
def ZA2:=J @D.bool.injEq<|J @D.str.injEq<|J @D.sl.injEq<|J @D.agg.injEq<|J @AV.own.injEq<|J @AV.ptr.injEq<|J @Ep.{0,0}<|J @Ac.cells.injEq<|J @Ac.arr.injEq<|J @gC.{0}<|J @Int.cast_ofNat_Int<|J @Int.ofNat_lt<|J @Int.ofNat_le<|J @Int.natCast_nonneg<|J @fY<|J @IJ<|J @AL<|J @H8<|J @Xk<|J @Xj<|J @Zfl<|J @Zff<|J @B3<|@Lw
def ZA3:=J @Hr<|J @Bg.{0,0}<|J @GX.{0,0}<|J @Oc.{0}<|J @Gd.{0}<|J @Qj.{0}<|J @ZV.{0}<|J @Zfn.{0}<|J @Zfo.{0}<|J @Cg.{1}<|J @Bq.{1}<|J @Ho.{0}<|J @J7.{0}<|J @ne_eq.{1}<|J @FC.{0}<|J @De.{0}<|J @DA.{0}<|J @CQ.{0}<|J @FS.{0}<|J @and_true<|J @mW<|J @Zec<|J @not_true_eq_false<|@or_true
def ZA4:=J @true_or<|J @CR<|J @Gg<|J @Qi<|J @Xb<|J @false_or<|J @fP.{0}<|J @fZ.{0}<|J @Rl<|J @ZeV<|J @fX<|J @mN<|J @mO<|J @WX<|J @true_implies<|J @false_implies<|J @FR.{0,0}<|J @F5<|J @DB<|J @Fo<|J @gG<|J @Rm.{0}<|J @Option.isSome_some.{0}<|@Bool.false_bne
def ZA5:=J @Bool.true_bne<|J @Bool.not_not<|J @AN<|J @B5<|J @eq_self.{1}<|J @ZS.{0}<|J @Bool.true_eq_false<|J @CP<|J @TY0<|J @TY1<|J @TY2<|J @TY3<|J @TY4<|J @KY0<|J @KY1<|J @CY0<|J @Me.eq_1<|J @qI.eq_1<|J @qU.eq_1<|J @qY.eq_1<|J @qB.eq_1<|J @qT.eq_1<|J @qR.eq_1<|@qP.eq_1
def ZA6:=J @qS.eq_1<|J @b1.eq_1<|J @b2.eq_1<|J @b3.eq_1<|J @b4.eq_1<|J @b5.eq_1<|J @b6.eq_1<|J @b7.eq_1<|J @rI.eq_1<|J @rB.eq_1<|J @rT.eq_1<|J @rA.eq_1<|J @rS.eq_1<|J @r2.eq_1<|J @r3.eq_1<|J @r4.eq_1<|J @Jv.eq_1<|J @Jv.eq_2<|J @kI.eq_1<|J @kI.eq_2<|J @kU.eq_1<|J @kU.eq_2<|J @kY.eq_1<|@kY.eq_2
def ZA7:=J @kB.eq_1<|J @kB.eq_2<|J @kT.eq_1<|J @kT.eq_2<|J @kR.eq_1<|J @kR.eq_2<|J @kP.eq_1<|J @kP.eq_2<|J @kS.eq_1<|J @kS.eq_2<|J @a1.eq_1<|J @a1.eq_2<|J @a2.eq_1<|J @a2.eq_2<|J @a3.eq_1<|J @a3.eq_2<|J @a4.eq_1<|J @a4.eq_2<|J @a5.eq_1<|J @a5.eq_2<|J @a6.eq_1<|J @a6.eq_2<|J @a7.eq_1<|@a7.eq_2
def ZA8:=J @AQ.eq_1<|J @AQ.eq_2<|J @Oa<|J @Cl.eq_1<|J @Cl.eq_2<|J @YM.eq_1<|J @YM.eq_2<|J @Aj.eq_1<|J @jW.eq_1<|J @eW<|J @jX<|J @D0.eq_1<|J @D0.eq_2<|J @Vd.eq_1<|J @Vd.eq_2<|J @PO.eq_1<|J @PO.eq_2<|J @Qy.eq_1<|J @Qy.eq_2<|J @EG.eq_1<|J @EG.eq_2<|J @kW.eq_1<|J @kW.eq_2<|@Ju.eq_1
def ZA9:=J @Ju.eq_2<|J @Ab.c.eq_1<|J @Ab.d.eq_1<|J @Ab.d.eq_2<|J @Ah.c.eq_1<|J @Ah.d.eq_1<|J @Ah.d.eq_2<|J @Ah.d_R<|J @Af.c.eq_1<|J @Am.c.eq_1<|J @Am.d.eq_1<|J @Am.d.eq_2<|J @Am.d_R<|J @Tile.c.eq_1<|J @Tile.d.eq_1<|J @Tile.d.eq_2<|J @Tile.d_R<|J @Az.c.eq_1<|J @Az.d.eq_1<|J @Az.d.eq_2<|J @AG.c.eq_1<|J @AG.d.eq_1<|J @AG.d.eq_2<|@AD.c.eq_1
def ZA10:=J @AD.d.eq_1<|J @AD.d.eq_2<|J @AD.d_R<|J @AF.c.eq_1<|J @AF.d.eq_1<|J @AF.d.eq_2<|J @Ag.c.eq_1<|J @Ag.d.eq_1<|J @Ag.d.eq_2<|J @Ag.d_R<|J @CY.{0,0}<|J @AI.{0}<|J @F7.{0,0}<|J @Ab.d_R<|J @Ab.eta<|J @Ah.eta<|J @Af.eta<|J @Am.eta<|J @Tile.eta<|J @Az.eta<|J @AG.eta<|J @AD.eta<|J @AF.eta<|@Ag.eta
def ZA11:=J @Cp.c.eq_1<|J @Cp.d.eq_1<|J @Cp.d.eq_2<|J @Cp.eta<|J @Qmt<|J @Qk8<|J @Qqj<|J @TU<|J @Pc<|J @Jj.eq_1<|J @Jj.eq_2<|J @Jj.eq_3<|J @G7.{0,0}<|@ZeQ.{0,0}
def ZA:=J @ZA0<|J @ZA1<|J @ZA2<|J @ZA3<|J @ZA4<|J @ZA5<|J @ZA6<|J @ZA7<|J @ZA8<|J @ZA9<|J @ZA10<|@ZA11
def ZT0:=J @bM.eq_1<|J @CK.eq_1<|J @Qa.eq_1<|J @Qa.eq_2<|J @MU<|J @Bc.c.eq_1<|J @Bc.d.eq_1<|J @Bc.d.eq_2<|J @Bc.eta<|J @Bd.c.eq_1<|J @Bd.d.eq_1<|J @Bd.d.eq_2<|J @Bd.eta<|J @JP.c.eq_1<|J @JP.d.eq_1<|J @JP.d.eq_2<|J @EM.c.eq_1<|J @EM.d.eq_1<|J @EM.d.eq_2<|J @EL.c.eq_1<|J @EL.d.eq_1<|J @EL.d.eq_2<|J @JP.eta<|@EM.eta
def ZT1:= @EL.eta
def ZT:=J @ZT0 (@ZT1)
def ZG:=J @Av.good.eq_1<|J @CH.eq_1<|J @CH.eq_2<|J @Au.eq_1<|J @Au.eq_2<|J @Au.eq_3<|J @Au.eq_4<|J @Au.eq_5<|J @Au.eq_6<|J @Au.eq_7<|J @Au.eq_8<|J @BB.eq_1<|J @BB.eq_2<|J @AV.bel.eq_1<|J @AV.bel.eq_2<|J @AV.bel.eq_3<|J @AV.bel.eq_4<|J @AV.bel.eq_5<|J @AV.bel.eq_6<|J @AV.bel.eq_7<|J @AV.bel.eq_8<|J @AV.bel.eq_9<|J @AV.bel.eq_10<|J @AV.bel.eq_11<|J @AV.bel.eq_12<|J @AE.eq_1 @AE.eq_2
def JM:=J @Q6<|J @NG<|J @NE<|J @xZ @Q5
def DL:=J JM (J @Eo.{0} @G6.{0})
def Adq(b:Bool)(k:Nat)(x:List (List D)):Af.d [.sl b k x]=(AQ Ah.d x).bind λy=>some ⟨y⟩:=rfl
def ZZ:=J ZA (J ZT @Adq)
def vq{A:Type}{ar:List PK->Option A}{pre:A->Prop}{re:A->D}(r:Ay)(e:r=Dj ar pre re)(a:List AV)(h:Nat->Option An)(n:Nat)(K:Ai):r a h n K=Zd ar pre re (AB a) K (KO h a):=by rw[e];rfl
def vqF{A:Type}{ar:List PK->Option A}{pre:A->Prop}{re:A->D}(r:Ay)(e:r=NR ar pre re)(a:List AV)(h:Nat->Option An)(n:Nat)(K:Ai):r a h n K=Ww ar pre re (Fx h a) K (Ct h a):=by rw[e];rfl
end Go.Ae
namespace Go.Ae
open Go.Proofs
def vK{A B:Type}(k:AK A)(r:RK B)(pre:A->Prop)(f:A->B):Ay:=Dj k.r pre λa=>r.e (f a)
def D1{A B:Type}(k:AK A)(r:RK B)(pre:A->Prop)(f:A->B):Ay:=NR k.r pre λa=>r.e (f a)
section
variable {A B:Type}{R:Ay}{k:AK A}{r:RK B}{pre:A->Prop}{f:A->B}
def AT(e:R=vK k r pre f)(a:List AV)(h:Nat->Option An)(n:Nat)(K:Ai):R a h n K=Zd k.r pre (λa=>r.e (f a)) (AB a) K (KO h a):=by rw[e];rfl
def DX(e:R=D1 k r pre f)(a:List AV)(h:Nat->Option An)(n:Nat)(K:Ai):R a h n K=Ww k.r pre (λa=>r.e (f a)) (Fx h a) K (Ct h a):=by rw[e];rfl
variable {V:CX}(hV:J3 Tryz.prog V){g:FuncId}{fn:Func}{c:Code}(hf:Tryz.prog.funcs[g]? =some fn)
include hV hf
def vw(Q: ∀a,pre a->Da Tryz.prog V c (Pg Tryz.prog fn.results.toList (BL (k.e a)) [] K4 (D7 0 (k.e a)) (M7 r.c (f a))) ⟨entry 0 (Dt 0 (k.e a)),D7 0 (k.e a),BL (k.e a)⟩)(O:fn.body=some c:=by rfl)(z:(Ec fn.ntmps c && (GZ Tryz.prog g && Nat.ble k.n fn.ntmps))=true:=by kernel_rfl):Jw Tryz.prog g (vK k r pre f):=by
 simp only[AL] at z;exact NI CF hV hf O z.1 z.2.1 k.l k.w (mJ z.2.2) r.l Q
def GF(Q: ∀a,pre a->Da Tryz.prog V c (ZN Tryz.prog fn.results.toList (BC r.c (f a))) ⟨entry 0 (Dt 0 (k.e a)),D7 0 (k.e a),BL (k.e a)⟩)(O:fn.body=some c:=by rfl)(z:(Ec fn.ntmps c && (GZ Tryz.prog g && Nat.ble k.n fn.ntmps))=true:=by kernel_rfl):Jw Tryz.prog g (D1 k r pre f):=by
 simp only[AL] at z;exact yC CF hV hf O z.1 z.2.1 k.l k.w (mJ z.2.2) r.l Q
end
section
variable {V:CX}(hV:J3 Tryz.prog V){g:FuncId}{fn:Func}{c:Code}(hf:Tryz.prog.funcs[g]? =some fn)
 {A:Type}{ca:A->List AV}{H0 H1:A->Ao}{k cnt:Nat}{pre:A->Prop}{klB exB:Nat->Bool}{r0:A->AV}{R:A->AV->Prop}
 (hn: ∀a,Nat.ble (ca a).length fn.ntmps=true)(hq: ∀a,AE k (ca a)=true/\Au k (H0 a)=true/\BB k (H0 a)=true/\BU (H0 a) (H0 a))
 (hH1: ∀a,∀p∈H1 a,(p.1<k/\klB p.1=true/\Al (H0 a) p.1=true)\/(k<=p.1/\p.1<k+cnt/\exB p.1=true/\p.2.1=true))
 (hR: ∀a r,R a r->CN r (r0 a))
include hV hf hn hq hH1 hR
def ow(hk: ∀a,pre a->Da Tryz.prog V c (N7 Tryz.prog fn.results.toList k cnt (H0 a) (H1 a) klB exB (R a)) ⟨entry 0 (ca a),H0 a,k⟩)(hb:fn.body=some c:=by rfl)(Z:(Ec fn.ntmps c && GZ Tryz.prog g)=true:=by kernel_rfl):Jw Tryz.prog g (AA ca H0 k pre klB r0 H1 cnt):=by
 simp only[AL] at Z;rintro args h nx K ⟨a,τ,U,KL,Q,rfl,z,O,hK⟩;refine⟨Lq Z.2,_,_,?_,hK⟩;exact xG CF hV hf hb Z.1 (mJ (hn a)) (hq a).1 (hq a).2.1 (hq a).2.2.1 (λj e he=>Qo2 (hq a).2.2.2 j e (Zv he)) (hR a) (hH1 a) Ud (λ_ _ h=>h) (hk a Q) O.inj O.lt
  (λj e he=>Qpk z j e (Zv he)) O.u O.k1 O.k2
def Qr(hk: ∀a,pre a->Da Tryz.prog V c (F3 Tryz.prog fn.results.toList k cnt (H0 a) (H1 a) klB exB (R a)) ⟨entry 0 (ca a),H0 a,k⟩)(hb:fn.body=some c:=by rfl)(Z:(Ec fn.ntmps c && GZ Tryz.prog g)=true:=by kernel_rfl):Jw Tryz.prog g (AA ca H0 k pre klB r0 H1 cnt):=by
 simp only[AL] at Z;rintro args h nx K ⟨a,τ,U,KL,Q,rfl,z,O,hK⟩;refine⟨Lq Z.2,_,_,?_,hK⟩;exact xG CF hV hf hb Z.1 (mJ (hn a)) (hq a).1 (hq a).2.1 (hq a).2.2.1 (λj e he=>Qo2 (hq a).2.2.2 j e (Zv he)) (hR a) (hH1 a) Ue (λ_ _ h=>h) (hk a Q) O.inj O.lt
  (λj e he=>Qpk z j e (Zv he)) O.u O.k1 O.k2
end
abbrev A9:=Jw Tryz.prog
def AW(n lo z:Int):Bool:=decide (lo<=n) && decide (n<=z)
def within_.fv(a:Int×Int×Int):Bool:=(AW) (a.1) (a.2.1) (a.2.2)
def within_.row:Ay:=vK (b3 qI qI qI) rB (λa=>True) within_.fv
def within_.q:=AT (R:=within_.row) rfl
def within_.ok:A9 57 within_.row:=by
 refine vw tN Tryz.func57 ?_;intro a z;simp only[Tryz.f57];simp only[ZA,simprocAttr,within_.fv];simp only[AW];grind
def l00In.fv(a:Int×Int×Int):Bool:=(AW) (a.1) (a.2.1) (a.2.2)
def l00In.row:Ay:=vK (b3 qI qI qI) rB (λa=>True) l00In.fv
def l00In.q:=AT (R:=l00In.row) rfl
def l00In.ok:A9 42 l00In.row:=by
 refine vw tN Tryz.func42 ?_;intro a z;simp only[Tryz.f42];simp only[ZA,simprocAttr,l00In.fv];simp only[AW];grind
def I64(n:Int):Prop:= -9223372036854775808<=n/\n<=9223372036854775807
def isIndex.fv(a:Int×Int):Bool:=AW a.1 0 (a.2 - 1)
def isIndex.row:Ay:=vK (b2 qI qI) rB (λa=>0<=a.2/\I64 a.2) isIndex.fv
def isIndex.q:=AT (R:=isIndex.row) rfl
def isIndex.ok:A9 178 isIndex.row:=by
 refine vw (tC within_.ok tN) Tryz.func178 ?_;intro a z;simp only[Tryz.f178];simp only[ZA,simprocAttr,isIndex.fv,within_.q,within_.fv];obtain⟨O,Q,Z⟩:=z;rw[AC (by omega) (by omega)]
def DY(p:Ab):Bool:=AW p.X (-60) 60 && AW p.Y (-60) 60
def ValidPoint.fv(a:Ab):Bool:=(DY) a
def ValidPoint.row:Ay:=vK (b1 (qR Ab.d_le)) rB (λa=>True) ValidPoint.fv
def ValidPoint.q:=AT (R:=ValidPoint.row) rfl
def ValidPoint.ok:A9 106 ValidPoint.row:=by
 refine vw (tC within_.ok tN) Tryz.func106 ?_;intro a z;simp only[Tryz.f106];simp only[ZA,simprocAttr,ValidPoint.fv,within_.q,within_.fv];simp only[DY];grind
def l01Point.fv(a:Ab):Bool:=(DY) a
def l01Point.row:Ay:=vK (b1 (qR Ab.d_le)) rB (λa=>True) l01Point.fv
def l01Point.q:=AT (R:=l01Point.row) rfl
def l01Point.ok:A9 84 l01Point.row:=by
 refine vw (tC l00In.ok tN) Tryz.func84 ?_;intro a z;simp only[Tryz.f84];simp only[ZA,simprocAttr,l01Point.fv,l00In.q,l00In.fv];simp only[DY];grind
def isNaN.fv(a:Int):Bool:=false && a==0
def isNaN.row:Ay:=vK (b1 qI) rB (λa=>True) isNaN.fv
def isNaN.q:=AT (R:=isNaN.row) rfl
def isNaN.ok:A9 176 isNaN.row:=by
 refine vw tN Tryz.func176 ?_;intro a z;simp only[Tryz.f176];simp only[ZA,simprocAttr,isNaN.fv]
 try simp
def Fq(a b:Int):Int:=if a<b then -1 else if b<a then 1 else 0
def Compare.fv(a:Int×Int):Int:=(Fq) (a.1) (a.2)
def Compare.row:Ay:=vK (b2 qI qI) rI (λa=>True) Compare.fv
def Compare.q:=AT (R:=Compare.row) rfl
def Compare.ok:A9 140 Compare.row:=by
 refine vw (tC isNaN.ok tN) Tryz.func140 ?_;intro a z;simp only[Tryz.f140];simp only[ZA,simprocAttr,Compare.fv,isNaN.q,isNaN.fv];simp only[Fq];grind
def Bl(a b:Ab):Bool:=decide (a.Y<b.Y)||(decide (a.Y=b.Y) && decide (a.X<b.X))
def l_LessPoint.fv(a:Ab×Ab):Bool:=(Bl) (a.1) (a.2)
def l_LessPoint.row:Ay:=vK (b2 (qR Ab.d_le) (qR Ab.d_le)) rB (λa=>True) l_LessPoint.fv
def l_LessPoint.q:=AT (R:=l_LessPoint.row) rfl
def l_LessPoint.ok:A9 47 l_LessPoint.row:=by
 refine vw tN Tryz.func47 ?_;intro a z;simp only[Tryz.f47];simp only[ZA,simprocAttr,l_LessPoint.fv];simp only[Bl]
 grind
def ET(a b:Int):Int:=if a<b then a else b
def Ey(a b:Int):Int:=if b<a then a else b
def l00Min.fv(a:Int×Int):Int:=(ET) (a.1) (a.2)
def l00Min.row:Ay:=vK (b2 qI qI) rI (λa=>True) l00Min.fv
def l00Min.q:=AT (R:=l00Min.row) rfl
def l00Min.ok:A9 153 l00Min.row:=by
 refine vw tN Tryz.func153 ?_;intro a z;simp only[Tryz.f153];simp only[ZA,simprocAttr,l00Min.fv];simp only[ET];grind
def l00Max.fv(a:Int×Int):Int:=(Ey) (a.1) (a.2)
def l00Max.row:Ay:=vK (b2 qI qI) rI (λa=>True) l00Max.fv
def l00Max.q:=AT (R:=l00Max.row) rfl
def l00Max.ok:A9 154 l00Max.row:=by
 refine vw tN Tryz.func154 ?_;intro a z;simp only[Tryz.f154];simp only[ZA,simprocAttr,l00Max.fv];simp only[Ey];grind
def tG(c:Int):Bool:=AW c 97 122||AW c 65 90
def Qtq(c:Int):Bool:=AW c 48 57
def l01Letter.fv(a:Int):Bool:=(tG) a
def l01Letter.row:Ay:=vK (b1 qY) rB (λa=>True) l01Letter.fv
def l01Letter.q:=AT (R:=l01Letter.row) rfl
def l01Letter.ok:A9 150 l01Letter.row:=by
 refine vw tN Tryz.func150 ?_;intro a z;simp only[Tryz.f150];simp only[ZA,simprocAttr,l01Letter.fv];simp only[tG,AW];grind
def l01Digit.fv(a:Int):Bool:=(Qtq) a
def l01Digit.row:Ay:=vK (b1 qY) rB (λa=>True) l01Digit.fv
def l01Digit.q:=AT (R:=l01Digit.row) rfl
def l01Digit.ok:A9 151 l01Digit.row:=by
 refine vw tN Tryz.func151 ?_;intro a z;simp only[Tryz.f151];simp only[ZA,simprocAttr,l01Digit.fv];simp only[Qtq,AW];grind
def wA(a b:Ab):Ab:=⟨a.X+b.X,a.Y+b.Y⟩
def G4(p:Ab):Prop:= -1000000000<=p.X/\p.X<=1000000000/\ -1000000000<=p.Y/\p.Y<=1000000000
def plus.fv(a:Ab×Ab):Ab:=(wA) (a.1) (a.2)
def plus.row:Ay:=vK (b2 (qR Ab.d_le) (qR Ab.d_le)) (rA Ab.d_le) (λa=>G4 a.1/\G4 a.2) plus.fv
def plus.q:=AT (R:=plus.row) rfl
def plus.ok:A9 180 plus.row:=by
 refine vw tN Tryz.func180 ?_;intro a z;simp only[Tryz.f180];simp only[ZA,simprocAttr,plus.fv];obtain⟨⟨O,Q,Z,h4⟩,h5,h6,h7,h8⟩:=z;rw[AC (by omega) (by omega),AC (by omega) (by omega)];rfl
def Cw(p:Ab)(d:Int):Ab:=if d=0 then ⟨p.X,p.Y+1⟩ else if d=1 then ⟨p.X+1,p.Y⟩ else if d=2 then ⟨p.X,p.Y - 1⟩ else ⟨p.X - 1,p.Y⟩
def step_.rc:D->Option (Ab):=EG Ab.d
def step_.re:Ab->D:=λb=>D.agg (Ab.c b)
def step_.rle: ∀d b,step_.rc d=some b->Le d (step_.re b):=Nu Ab.d_le
def step_.fv(a:Ab×Int):Ab:=(Cw) (a.1) (a.2)
def step_.row:Ay:=vK (b2 (qR Ab.d_le) qI) (RK.mk step_.rc step_.re step_.rle) (λa=>G4 a.1/\0<=a.2/\a.2<=3) step_.fv
def step_.q:=AT (R:=step_.row) rfl
def step_.ok:A9 145 step_.row:=by
 refine vw (tC plus.ok tN) Tryz.func145 ?_;intro a z;simp only[Tryz.f145];obtain⟨p,d⟩:=a;obtain⟨hp,O,Q⟩:=z;simp only at O Q hp;rcases (by omega:d=0\/d=1\/d=2\/d=3) with rfl|rfl|rfl|rfl
 all_goals
  simp only[ZA,simprocAttr,step_.fv,step_.rc,plus.q,plus.fv];obtain⟨Z,h4,h5,h6⟩:=hp;refine⟨⟨⟨Z,h4,h5,h6⟩,by simp[G4]⟩,?_⟩;simp[Cw,wA]<;>omega
def l01Step.fv(a:Ab×Int):Ab:=(Cw) (a.1) (a.2)
def l01Step.row:Ay:=vK (b2 (qR Ab.d_le) qI) (rA Ab.d_le) (λa=>G4 a.1/\0<=a.2/\a.2<=3) l01Step.fv
def l01Step.q:=AT (R:=l01Step.row) rfl
def l01Step.ok:A9 125 l01Step.row:=by
 refine vw tN Tryz.func125 ?_;intro a z;simp only[Tryz.f125];simp only[ZA,simprocAttr,l01Step.fv];obtain⟨⟨O,Q,Z,h4⟩,h5,h6⟩:=z;rw[AC (by omega) (by omega),AC (by omega) (by omega),AC (by omega) (by omega),AC (by omega) (by omega)];simp only[Cw]
 grind
def PV:List Int->Int
 |[]=>0
 |x::r=>if x=0 then PV r else x
def Or.fv(a:(List Int)):Int:=(PV) a
def Or.row:Ay:=vK (b1 (qS DO Dc)) rI (λa=>True) Or.fv
def Or.q:=AT (R:=Or.row) rfl
def Or.ok:A9 139 Or.row:=by
 refine vw tN Tryz.func139 ?_;intro a aa;simp only[Tryz.f139];simp(disch:=omega)only[ZA,simprocAttr,Or.fv];intro Z;refine AU.old ⟨{k:Nat//k<=a.length/\PV (a.drop k)=PV a},λk=>⟨[(8,.im (.int .i64 k.1)),(7,.im (.int .i64 a.length)),(6,.im (.sl false 1 (a.map Aj))),(3,.im (.int .i64 0)),(2,.im (.int .i64 0))],[],0⟩,λk=>a.length - k.1,λk=>⟨by simp[ZG],AN _⟩,⟨⟨0,by simp⟩,by simp(disch:=omega)only[ZA,simprocAttr,sub]⟩,λk=> ?_⟩;obtain⟨k,ab,z⟩:=k;simp(disch:=omega)only[ZA,simprocAttr,sub];simp only[AR];refine⟨λO=>⟨O,λx hx=> ?_⟩,λO=> ?_⟩
 .have Q:a.drop k=x::a.drop (k+1):=by
   rw[V3 O];rw[Bk O] at hx;rw[A7 hx]
  rw[Q,PV] at z;refine⟨λh=>by grind,λh=>⟨⟨k+1,by omega,by grind⟩,by simp only;omega,?_⟩⟩;simp (disch:=omega) only[AC];simp
 .have Q:a.drop k=[]:=CG (by omega);rw[Q] at z;exact z
def comparePoints.fv(a:Ab×Ab):Int:=(λa b=>PV [Fq a.Y b.Y,Fq a.X b.X]) (a.1) (a.2)
def comparePoints.row:Ay:=vK (b2 (qR Ab.d_le) (qR Ab.d_le)) rI (λa=>True) comparePoints.fv
def comparePoints.q:=AT (R:=comparePoints.row) rfl
def comparePoints.ok:A9 98 comparePoints.row:=by
 refine vw (tC Compare.ok (tC Or.ok tN)) Tryz.func98 ?_;intro a z;simp only[Tryz.f98];simp only[ZA,simprocAttr,comparePoints.fv,Compare.q,Compare.fv,Or.q,Or.fv]
def impl_LessPoint.fv(a:Ab×Ab):Bool:=(Bl) (a.1) (a.2)
def impl_LessPoint.row:Ay:=vK (b2 (qR Ab.d_le) (qR Ab.d_le)) rB (λa=>True) impl_LessPoint.fv
def impl_LessPoint.q:=AT (R:=impl_LessPoint.row) rfl
def impl_LessPoint.ok:A9 179 impl_LessPoint.row:=by
 refine vw (tC comparePoints.ok tN) Tryz.func179 ?_;intro a z;simp only[Tryz.f179];simp only[ZA,simprocAttr,impl_LessPoint.fv,comparePoints.q,comparePoints.fv];simp only[Bl,PV,Fq]
 grind
def NP(i:Nat)(c:Int):Bool:=tG c||(decide (i≠0) && (Qtq c||decide (c=95)))
def Hy:Nat->List UInt8->Bool
 |_,[]=>true
 |i,c::r=>NP i c.toNat && Hy (i+1) r
def oQ{a:ByteArray}{k:Nat}{c:UInt8}(O:a.data[k]? =some c):a.data.toList.drop k=c::a.data.toList.drop (k+1):=by
 have h0:a.data.toList[k]? =some c:=by simpa using O
 have z:k<a.data.toList.length:=(Cx.1 h0).1;rw[V3 z];rw[Bk z] at h0;rw[A7 h0]
def R5{a:ByteArray}{k:Nat}(h: ¬k<a.size):a.data.toList.drop k=[]:=CG (by simpa using h)
def I7(s:ByteArray):Bool:=Hy 0 s.data.toList && (decide (1<=s.size) && decide (s.size<=12))
def impl_IsName.fv(a:ByteArray):Bool:=(I7) a
def impl_IsName.row:Ay:=vK (b1 qT) rB (λa=>a.size<=140737488355328) impl_IsName.fv
def impl_IsName.q:=AT (R:=impl_IsName.row) rfl
def impl_IsName.ok:A9 187 impl_IsName.row:=by
 refine vw tN Tryz.func187 ?_;intro a aa;simp only[Tryz.f187];simp only[ZA,simprocAttr,impl_IsName.fv];refine AU.old ⟨{k:Nat//k<=a.size/\Hy k (a.data.toList.drop k)=Hy 0 a.data.toList},λk=>⟨[(8,.im (.int .i64 k.1)),(7,.im (.int .i64 a.size)),(6,.im (.str a)),(0,.im (.str a)),(2,.im (.bool false))],[],0⟩,λk=>a.size - k.1,λk=>⟨by simp[ZG],AN _⟩,⟨⟨0,by simp⟩,by simp only[ZA,simprocAttr,sub]⟩,λk=> ?_⟩;obtain⟨k,ab,z⟩:=k;simp only[ZA,simprocAttr]
 split<;>rename_i Z
 .refine⟨Z,?_⟩;intro c hc;have hd:a.data.toList.drop k=c::a.data.toList.drop (k+1):=by
   have hl:k<a.data.toList.length:=by simpa using Z
   rw[V3 hl]
   have:a.data.toList[k]? =some c:=by simpa using hc
   rw[Bk hl] at this;rw[A7 this]
  rw[hd,Hy] at z;by_cases e1:(97:Int)<=c.toNat<;>by_cases e2:(c.toNat:Int)<=122<;>(try (exfalso;omega))<;>by_cases e3:(65:Int)<=c.toNat<;>(try (exfalso;omega))<;>by_cases e4:(c.toNat:Int)<=90<;>(try (exfalso;omega))<;>
   by_cases e5:(c.toNat:Int)<48<;>(try (exfalso;omega))<;>by_cases e6:(57:Int)<c.toNat<;>(try (exfalso;omega))<;>by_cases e7:(c.toNat:Int)=95<;>(try (exfalso;omega))<;>by_cases e8:(k:Int)=0
  all_goals
   have e9:(48:Int)<=c.toNat↔ ¬(c.toNat:Int)<48:=by omega
   have O:(c.toNat:Int)<=57↔ ¬(57:Int)<c.toNat:=by omega
   have Q:k=0↔(k:Int)=0:=by omega
   have hb:NP k c.toNat=NP k c.toNat:=rfl
   conv at hb=>
    rhs
    simp only[NP,tG,Qtq,AW,e1,e2,e3,e4,e5,e6,e7,e8,e9,O,Q,ne_eq,Zfl,Zff,F5,gG,ZeV,Rl,fX,mN,DB,Fo,not_true_eq_false,Zec]
   rw[hb] at z;simp only[ZA,simprocAttr,sub,e1,e2,e3,e4,e5,e6,e7,e8]
   first
    |(simp only[Fo] at z
      simp only[I7,<-z,Fo])
    |(simp only[DB] at z
      refine⟨⟨k+1,by omega,z⟩,by simp only;omega,?_⟩;rw[AC (by omega) (by omega)];simp only
      omega)
    |(have h9:Hy 0 a.data.toList=false:=by rw[<-z];simp
      simp[I7,h9])
 .have:a.data.toList.drop k=[]:=CG (by simpa using Z)
  rw[this,Hy] at z;simp only[I7]
  grind
def spec_IsName.fv(a:ByteArray):Bool:=(I7) a
def spec_IsName.row:Ay:=vK (b1 qT) rB (λa=>True) spec_IsName.fv
def spec_IsName.q:=AT (R:=spec_IsName.row) rfl
def Yaa:=J @l01Letter.q @l01Letter.fv.eq_1
def spec_IsName.ok:A9 115 spec_IsName.row:=by
 refine vw (tC l01Letter.ok (tC l01Digit.ok tN)) Tryz.func115 ?_;intro a ad;simp only[Tryz.f115];simp only[ZA,simprocAttr,spec_IsName.fv,AR];refine⟨λh1=>⟨λh2=>⟨by omega,?_⟩,λh2=> ?_⟩,λh1=> ?_⟩
 .intro c hc;have hd:=oQ hc;rw[Gd] at hd;cases hL:tG c.toNat
  .simp only[ZA,simprocAttr,Yaa,hL];have h9:Hy 0 a.data.toList=false:=by rw[hd];simp[Hy,NP,hL]
   simp[I7,h9]
  .simp only[ZA,simprocAttr,Yaa,hL];refine AU.old ⟨{k:Nat//1<=k/\k<=a.size/\Hy k (a.data.toList.drop k)=Hy 0 a.data.toList},λk=>⟨[(3,.im (.int .i64 k.1)),(0,.im (.str a)),(2,.im (.bool false))],[],0⟩,λk=>a.size - k.1,λk=>⟨by simp[ZG],AN _⟩,⟨⟨1,by omega,by omega,?_⟩,by simp only[ZA,simprocAttr,sub]⟩,λk=> ?_⟩
   .conv=>rhs;rw[hd]
    simp[Hy,NP,hL]
   .obtain⟨k,af,ag,z⟩:=k;simp only[ZA,simprocAttr,AR];refine⟨λhk=>⟨hk,λc2 Z=> ?_⟩,λhk=> ?_⟩
    .rw[oQ Z,Hy] at z;simp only[ZZ,simprocAttr,Yaa,l01Digit.q,l01Digit.fv,sub,AR];have ac:NP k c2.toNat=true->Hy (k+1) (a.data.toList.drop (k+1))=Hy 0 a.data.toList:=by
      intro h;rw[h] at z;simpa using z
     have ab:NP k c2.toNat=false->false=I7 a:=by
      intro h;rw[h] at z;have h9:Hy 0 a.data.toList=false:=by rw[<-z];simp
      simp[I7,h9]
     have Q:NP k c2.toNat=true-> ∃b':{k:Nat//1<=k/\k<=a.size/\Hy k (a.data.toList.drop k)=Hy 0 a.data.toList},a.size - b'.val<a.size - k/\IntKind.wrap .i64 ((k:Int)+1)=b'.val:=by
      intro h;refine⟨⟨k+1,by omega,by omega,ac h⟩,by simp only;omega,?_⟩;rw[AC (by omega) (by omega)];simp only;omega
     have aa:k≠0:=by omega
     refine⟨λl=>⟨hk,λc3 O=> ?_⟩,λl=> ?_⟩
     .rw[Z] at O;obtain rfl:=A7 O;refine⟨λl2=>⟨hk,λc3 O=> ?_⟩,λl2=> ?_⟩
      .rw[Z] at O;obtain rfl:=A7 O;refine⟨λl3=>ab ?_,λl3=>Q ?_⟩
       .simp[NP,l,l2,l3]
       .simp only[Gi] at l3;simp[NP,l3,aa]
      .refine Q ?_;simp only[Hq] at l2;simp[NP,l2,aa]
     .refine Q ?_;simp only[Hq] at l;simp[NP,l]
    .rw[R5 hk,Hy] at z;simp only[I7]
     grind
 .simp only[I7];grind
 .simp only[I7];grind
def eS{A:Type}{B:Type}(f:A->B)(z:B)(a:List A)(k:Nat)(x:A)(O:a[k]? =some x):
 ((a.take k).map f++List.replicate (a.length - k) z).set k (f x)=(a.take (k+1)).map f++List.replicate (a.length - (k+1)) z:=by
 have hk:k<a.length:=(Cx.1 O).1;have Q:a.take (k+1)=a.take k++[x]:=by
  rw[Ib,O];rfl
 have Z:a.length - k=(a.length - (k+1))+1:=by omega
 rw[Q,Z,Zeo,FT,Fb,mI _ _ (by simp;omega)];have h3:k - (List.map f (List.take k a)).length=0:=by simp;omega
 rw[h3];rfl
def eI{A:Type}{B:Type}(f:A->B)(z:B)(a:List A)(k:Nat)(x:A)(Q:a[k]? =some x):
 ((a.take k).map f++List.replicate (a.length - k) z)[k]? =some z:=by
 have Z:k<a.length:=(Cx.1 Q).1;rw[FQ (by simp;omega)];have O:k - (List.map f (List.take k a)).length=0:=by simp;omega
 rw[O,Lv,Ak (by omega)]
def eN{A:Type}{B:Type}(f:A->B)(z:B)(a:List A)(k:Nat)(O:k<=a.length):((a.take k).map f++List.replicate (a.length - k) z).length=a.length:=by
 simp;omega
def eO{A:Type}{B:Type}(f:A->B)(z:B)(a:List A)(k:Nat)(O:a.length<=k):(a.take k).map f++List.replicate (a.length - k) z=a.map f:=by
 rw[D8 O,show a.length - k=0 by omega];simp
def toPoint.fv(a:Ab):Ab:=(λp=>p) a
def toPoint.row:Ay:=vK (b1 (qR Ab.d_le)) (rA Ab.d_le) (λa=>True) toPoint.fv
def toPoint.q:=AT (R:=toPoint.row) rfl
def toPoint.ok:A9 162 toPoint.row:=by
 refine vw tN Tryz.func162 ?_;intro a z;simp only[Tryz.f162];simp only[ZA,simprocAttr,toPoint.fv]
def toPlaced.fv(a:Ah):Ah:=(λp=>p) a
def toPlaced.row:Ay:=vK (b1 (qR Ah.d_le)) (rA Ah.d_le) (λa=>True) toPlaced.fv
def toPlaced.q:=AT (R:=toPlaced.row) rfl
def toPlaced.ok:A9 129 toPlaced.row:=by
 refine vw (tC toPoint.ok tN) Tryz.func129 ?_;intro a z;simp only[Tryz.f129];simp only[ZA,simprocAttr,toPlaced.fv,toPoint.q,toPoint.fv]
def toGlue.fv(a:Am):Am:=(λp=>p) a
def toGlue.row:Ay:=vK (b1 (qR Am.d_le)) (rA Am.d_le) (λa=>True) toGlue.fv
def toGlue.q:=AT (R:=toGlue.row) rfl
def toGlue.ok:A9 127 toGlue.row:=by
 refine vw tN Tryz.func127 ?_;intro a z;simp only[Tryz.f127];simp only[ZA,simprocAttr,toGlue.fv]
def toInt64S.fv(a:(List Int)):List Int:=(λp=>p) a
def toInt64S.row:Ay:=vK (b1 (qS DO Dc)) (rS DO Dc) (λa=>a.length<=1073741824) toInt64S.fv
def toInt64S.q:=AT (R:=toInt64S.row) rfl
def toInt64S.ok:A9 7 toInt64S.row:=by
 refine vw tN Tryz.func7 ?_;intro a Z;simp only[Tryz.f7];simp only[ZA,simprocAttr,toInt64S.fv];intro Q;refine⟨by omega,?_⟩;refine AU.old ⟨{k:Nat//k<=a.length},λk=>⟨[(4,.im (.int .i64 k.1)),(3,.own 1),(0,.im (.sl false 1 (a.map Aj)))],[(1,(true,.arr 2 1 ((a.take k.1).map Aj++List.replicate (a.length - k.1) [.int .i64 0])))],2⟩,λk=>a.length - k.1,λk=>⟨by simp[ZG],AN _⟩,⟨⟨0,by omega⟩,by simp only[ZA,simprocAttr,sub];simp⟩,λk=> ?_⟩;obtain⟨k,O⟩:=k;simp only[ZA,simprocAttr,AR,eN _ _ a k O];intro _;refine⟨λz=>⟨z,λx hx=>⟨z,z,J0 (eI Aj [.int .i64 0] a k x hx) ?_⟩⟩,λz=> ?_⟩
 .simp only[ZA,simprocAttr,sub];refine⟨⟨k+1,by omega⟩,by simp only;omega,?_,?_⟩
  .rw[AC (by omega) (by omega)];simp only;omega
  .exact eS Aj [.int .i64 0] a k x hx
 .rw[eO Aj _ a k (by omega)];simp[eW]
def eqPoint.fv(a:Ab×Ab):Bool:=(λa b=>decide (a=b)) (a.1) (a.2)
def eqPoint.row:Ay:=vK (b2 (qR Ab.d_le) (qR Ab.d_le)) rB (λa=>True) eqPoint.fv
def eqPoint.q:=AT (R:=eqPoint.row) rfl
def eqPoint.ok:A9 69 eqPoint.row:=by
 refine vw tN Tryz.func69 ?_;intro a O;simp only[Tryz.f69];simp only[ZA,simprocAttr,eqPoint.fv];obtain⟨⟨x,y⟩,⟨z,w⟩⟩:=a;simp only[Ab.mk.injEq]
 grind
def eqPlaced.fv(a:Ah×Ah):Bool:=(λa b=>decide (a=b)) (a.1) (a.2)
def eqPlaced.row:Ay:=vK (b2 (qR Ah.d_le) (qR Ah.d_le)) rB (λa=>True) eqPlaced.fv
def eqPlaced.q:=AT (R:=eqPlaced.row) rfl
def eqPlaced.ok:A9 70 eqPlaced.row:=by
 refine vw (tC eqPoint.ok tN) Tryz.func70 ?_;intro a O;simp only[Tryz.f70];simp only[ZA,simprocAttr,eqPlaced.fv,eqPoint.q,eqPoint.fv];obtain⟨⟨⟨x,y⟩,u⟩,⟨⟨z,w⟩,v⟩⟩:=a;simp only[Ah.mk.injEq,Ab.mk.injEq]
 grind
def eqGlue.fv(a:Am×Am):Bool:=(λa b=>decide (a=b)) (a.1) (a.2)
def eqGlue.row:Ay:=vK (b2 (qR Am.d_le) (qR Am.d_le)) rB (λa=>True) eqGlue.fv
def eqGlue.q:=AT (R:=eqGlue.row) rfl
def eqGlue.ok:A9 147 eqGlue.row:=by
 refine vw tN Tryz.func147 ?_;intro a O;simp only[Tryz.f147];simp only[ZA,simprocAttr,eqGlue.fv];obtain⟨⟨x,y⟩,⟨z,w⟩⟩:=a;simp only[Am.mk.injEq]
 grind
def Zn{A:Type}[DecidableEq A]{a b:List A}(hl:a.length=b.length){k:Nat}(hk:k<=a.length)(h:a.take k=b.take k){x y:A}(Z:a[k]? =some x)(Q:b[k]? =some y):
 (x=y->a.take (k+1)=b.take (k+1))/\(x≠y->a≠b):=by
 refine⟨λz=> ?_,λz O=> ?_⟩
 .rw[Ib,Ib,h,Z,Q,z]
 .subst O;rw[Z] at Q;exact z (A7 Q)
def eqInt64S.fv(a:(List Int)×(List Int)):Bool:=(λa b=>decide (a=b)) (a.1) (a.2)
def eqInt64S.row:Ay:=vK (b2 (qS DO Dc) (qS DO Dc)) rB (λa=>True) eqInt64S.fv
def eqInt64S.q:=AT (R:=eqInt64S.row) rfl
def eqInt64S.ok:A9 12 eqInt64S.row:=by
 refine vw tN Tryz.func12 ?_;intro a aa;simp only[Tryz.f12];simp only[ZA,simprocAttr,eqInt64S.fv];intro h1 h2;simp only[AR];refine⟨λO=> ?_,λO=> ?_⟩
 .have:a.1≠a.2:=λh=>O (by rw[h])
  simp[this]
 have O:a.1.length=a.2.length:=by omega
 refine AU.old ⟨{k:Nat//k<=a.1.length/\a.1.take k=a.2.take k},λk=>⟨[(5,.im (.int .i64 k.1)),(4,.im (.bool false)),(0,.im (.sl false 1 (a.1.map Aj))),(1,.im (.sl false 1 (a.2.map Aj)))],[],0⟩,λk=>a.1.length - k.1,λk=>⟨by simp[ZG],AN _⟩,⟨⟨0,by simp⟩,by simp only[ZA,simprocAttr,sub]⟩,λk=> ?_⟩;obtain⟨k,Z,z⟩:=k;simp only[ZA,simprocAttr,sub,AR];intro _;refine⟨λQ=>⟨Q,λx hx=>⟨by omega,λy hy=> ?_⟩⟩,λQ=> ?_⟩
 .obtain⟨g1,g2⟩:=Zn O Z z hx hy;exact⟨λh=>by simp[g2 h],λh=>F8 Q h1 ⟨by omega,g1 (by simpa using h)⟩⟩
 .rw[D8 (by omega),D8 (by omega)] at z;simp[z]
def Cy(n:Int)(left:Int):Int:=if left - n<0 then -1 else left - n
def szInt64S.fv(a:(List Int)×Int):Int:=(λa l=>Cy a.length l) (a.1) (a.2)
def szInt64S.row:Ay:=vK (b2 (qS DO Dc) qI) rI (λa=> -1<=a.2/\a.2<=1048576) szInt64S.fv
def szInt64S.q:=AT (R:=szInt64S.row) rfl
def szInt64S.ok:A9 20 szInt64S.row:=by
 refine vw tN Tryz.func20 ?_;intro a z;simp only[Tryz.f20];simp only[ZA,simprocAttr,szInt64S.fv];intro h;rw[AC (by omega) (by omega)];simp only[Cy];grind
def szPlacedS.fv(a:(List Ah)×Int):Int:=(λa l=>Cy a.length l) (a.1) (a.2)
def szPlacedS.row:Ay:=vK (b2 (qS Ah.d_le Ah.c_n) qI) rI (λa=> -1<=a.2/\a.2<=1048576) szPlacedS.fv
def szPlacedS.q:=AT (R:=szPlacedS.row) rfl
def szPlacedS.ok:A9 75 szPlacedS.row:=by
 refine vw tN Tryz.func75 ?_;intro a z;simp only[Tryz.f75];simp only[ZA,simprocAttr,szPlacedS.fv];intro h;rw[AC (by omega) (by omega)];simp only[Cy];grind
def Js(a:Af)(l:Int):Int:=Cy a.Tiles.length l
def szAssembly.fv(a:Af×Int):Int:=(Js) (a.1) (a.2)
def szAssembly.row:Ay:=vK (b2 (qR Af.d_le) qI) rI (λa=> -1<=a.2/\a.2<=1048576) szAssembly.fv
def szAssembly.q:=AT (R:=szAssembly.row) rfl
def szAssembly.ok:A9 40 szAssembly.row:=by
 refine vw (tC szPlacedS.ok tN) Tryz.func40 ?_;intro a z;simp only[Tryz.f40];simp only[ZA,simprocAttr,szAssembly.fv,szPlacedS.q,szPlacedS.fv];refine⟨z,?_⟩;simp only[Js,Cy];grind
def eqGlueS.fv(a:(List Am)×(List Am)):Bool:=(λa b=>decide (a=b)) (a.1) (a.2)
def eqGlueS.row:Ay:=vK (b2 (qS Am.d_le Am.c_n) (qS Am.d_le Am.c_n)) rB (λa=>True) eqGlueS.fv
def eqGlueS.q:=AT (R:=eqGlueS.row) rfl
def eqGlueS.ok:A9 109 eqGlueS.row:=by
 refine vw (tC eqGlue.ok tN) Tryz.func109 ?_;intro a aa;simp only[Tryz.f109];simp only[ZA,simprocAttr,eqGlueS.fv];intro h1 h2;simp only[AR];refine⟨λO=> ?_,λO=> ?_⟩
 .have:a.1≠a.2:=λh=>O (by rw[h])
  simp[this]
 have O:a.1.length=a.2.length:=by omega
 refine AU.old ⟨{k:Nat//k<=a.1.length/\a.1.take k=a.2.take k},λk=>⟨[(5,.im (.int .i64 k.1)),(4,.im (.bool false)),(0,.im (.sl false 2 (a.1.map Am.c))),(1,.im (.sl false 2 (a.2.map Am.c)))],[],0⟩,λk=>a.1.length - k.1,λk=>⟨by simp[ZG],AN _⟩,⟨⟨0,by simp⟩,by simp only[ZA,simprocAttr,sub]⟩,λk=> ?_⟩;obtain⟨k,Z,z⟩:=k;simp only[ZA,simprocAttr,eqGlue.q,eqGlue.fv,sub,AR];intro _;refine⟨λQ=>⟨Q,λx hx=>⟨by omega,λy hy=> ?_⟩⟩,λQ=> ?_⟩
 .obtain⟨g1,g2⟩:=Zn O Z z hx hy;exact⟨λh=>by simp[g2 (show x≠y from h)],λh=>F8 Q h1 ⟨by omega,g1 (show x=y from Gi.1 h)⟩⟩
 .rw[D8 (by omega),D8 (by omega)] at z;simp[z]
def WT(a b:Tile):decide (a=b)=(decide (a.Name=b.Name) && decide (a.Sides=b.Sides)):=by
 obtain⟨x,y⟩:=a;obtain⟨z,w⟩:=b;simp[Tile.mk.injEq]
def eqTile.fv(a:Tile×Tile):Bool:=(λa b=>decide (a=b)) (a.1) (a.2)
def eqTile.row:Ay:=vK (b2 (qR Tile.d_le) (qR Tile.d_le)) rB (λa=>True) eqTile.fv
def eqTile.q:=AT (R:=eqTile.row) rfl
def eqTile.ok:A9 148 eqTile.row:=by
 refine vw (tC eqInt64S.ok tN) Tryz.func148 ?_;intro a z;simp only[Tryz.f148];simp only[ZA,simprocAttr,eqTile.fv,eqInt64S.q,eqInt64S.fv];rw[WT]
 grind
def eqTileS.fv(a:(List Tile)×(List Tile)):Bool:=(λa b=>decide (a=b)) (a.1) (a.2)
def eqTileS.row:Ay:=vK (b2 (qS Tile.d_le Tile.c_n) (qS Tile.d_le Tile.c_n)) rB (λa=>True) eqTileS.fv
def eqTileS.q:=AT (R:=eqTileS.row) rfl
def eqTileS.ok:A9 110 eqTileS.row:=by
 refine vw (tC eqTile.ok tN) Tryz.func110 ?_;intro a aa;simp only[Tryz.f110];simp only[ZA,simprocAttr,eqTileS.fv];intro h1 h2;simp only[AR];refine⟨λO=> ?_,λO=> ?_⟩
 .have:a.1≠a.2:=λh=>O (by rw[h])
  simp[this]
 have O:a.1.length=a.2.length:=by omega
 refine AU.old ⟨{k:Nat//k<=a.1.length/\a.1.take k=a.2.take k},λk=>⟨[(5,.im (.int .i64 k.1)),(4,.im (.bool false)),(0,.im (.sl false 2 (a.1.map Tile.c))),(1,.im (.sl false 2 (a.2.map Tile.c)))],[],0⟩,λk=>a.1.length - k.1,λk=>⟨by simp[ZG],AN _⟩,⟨⟨0,by simp⟩,by simp only[ZA,simprocAttr,sub]⟩,λk=> ?_⟩;obtain⟨k,Z,z⟩:=k;simp only[ZA,simprocAttr,eqTile.q,eqTile.fv,sub,AR];intro _;refine⟨λQ=>⟨Q,λx hx=>⟨by omega,λy hy=> ?_⟩⟩,λQ=> ?_⟩
 .obtain⟨g1,g2⟩:=Zn O Z z hx hy;exact⟨λh=>by simp[g2 (show x≠y from h)],λh=>F8 Q h1 ⟨by omega,g1 (show x=y from Gi.1 h)⟩⟩
 .rw[D8 (by omega),D8 (by omega)] at z;simp[z]
def eqPlacedS.fv(a:(List Ah)×(List Ah)):Bool:=(λa b=>decide (a=b)) (a.1) (a.2)
def eqPlacedS.row:Ay:=vK (b2 (qS Ah.d_le Ah.c_n) (qS Ah.d_le Ah.c_n)) rB (λa=>True) eqPlacedS.fv
def eqPlacedS.q:=AT (R:=eqPlacedS.row) rfl
def eqPlacedS.ok:A9 34 eqPlacedS.row:=by
 refine vw (tC eqPlaced.ok tN) Tryz.func34 ?_;intro a aa;simp only[Tryz.f34];simp only[ZA,simprocAttr,eqPlacedS.fv];intro h1 h2;simp only[AR];refine⟨λO=> ?_,λO=> ?_⟩
 .have:a.1≠a.2:=λh=>O (by rw[h])
  simp[this]
 have O:a.1.length=a.2.length:=by omega
 refine AU.old ⟨{k:Nat//k<=a.1.length/\a.1.take k=a.2.take k},λk=>⟨[(5,.im (.int .i64 k.1)),(4,.im (.bool false)),(0,.im (.sl false 3 (a.1.map Ah.c))),(1,.im (.sl false 3 (a.2.map Ah.c)))],[],0⟩,λk=>a.1.length - k.1,λk=>⟨by simp[ZG],AN _⟩,⟨⟨0,by simp⟩,by simp only[ZA,simprocAttr,sub]⟩,λk=> ?_⟩;obtain⟨k,Z,z⟩:=k;simp only[ZA,simprocAttr,eqPlaced.q,eqPlaced.fv,sub,AR];intro _;refine⟨λQ=>⟨Q,λx hx=>⟨by omega,λy hy=> ?_⟩⟩,λQ=> ?_⟩
 .obtain⟨g1,g2⟩:=Zn O Z z hx hy;exact⟨λh=>by simp[g2 (show x≠y from h)],λh=>F8 Q h1 ⟨by omega,g1 (show x=y from Gi.1 h)⟩⟩
 .rw[D8 (by omega),D8 (by omega)] at z;simp[z]
def eqTileSet.fv(a:Az×Az):Bool:=(λa b=>decide (a=b)) (a.1) (a.2)
def eqTileSet.row:Ay:=vK (b2 (qR Az.d_le) (qR Az.d_le)) rB (λa=>True) eqTileSet.fv
def eqTileSet.q:=AT (R:=eqTileSet.row) rfl
def eqTileSet.ok:A9 71 eqTileSet.row:=by
 refine vw (tC eqGlueS.ok (tC eqTileS.ok tN)) Tryz.func71 ?_;intro a O;simp only[Tryz.f71];simp only[ZA,simprocAttr,eqTileSet.fv,eqGlueS.q,eqGlueS.fv,eqTileS.q,eqTileS.fv];obtain⟨⟨x,y⟩,⟨z,w⟩⟩:=a;simp only[Az.mk.injEq]
 grind
def eqAssembly.fv(a:Af×Af):Bool:=(λa b=>decide (a=b)) (a.1) (a.2)
def eqAssembly.row:Ay:=vK (b2 (qR Af.d_le) (qR Af.d_le)) rB (λa=>True) eqAssembly.fv
def eqAssembly.q:=AT (R:=eqAssembly.row) rfl
def eqAssembly.ok:A9 10 eqAssembly.row:=by
 refine vw (tC eqPlacedS.ok tN) Tryz.func10 ?_;intro a O;simp only[Tryz.f10];simp only[ZA,simprocAttr,eqAssembly.fv,eqPlacedS.q,eqPlacedS.fv];obtain⟨⟨x⟩,⟨z⟩⟩:=a;simp only[Af.mk.injEq]
 grind
def toTile.fv(a:Tile):Tile:=(λp=>p) a
def toTile.row:Ay:=vK (b1 (qR Tile.d_le)) (rA Tile.d_le) (λa=>a.Sides.length<=1073741824) toTile.fv
def toTile.q:=AT (R:=toTile.row) rfl
def toTile.ok:A9 128 toTile.row:=by
 refine vw (tC toInt64S.ok tN) Tryz.func128 ?_;intro a z;simp only[Tryz.f128];simp only[ZA,simprocAttr,toTile.fv,toInt64S.q,toInt64S.fv];exact z
def toGlueS.fv(a:(List Am)):List Am:=(λp=>p) a
def toGlueS.row:Ay:=vK (b1 (qS Am.d_le Am.c_n)) (rS Am.d_le Am.c_n) (λa=>a.length<=1073741824) toGlueS.fv
def toGlueS.q:=AT (R:=toGlueS.row) rfl
def toGlueS.ok:A9 87 toGlueS.row:=by
 refine vw (tC toGlue.ok tN) Tryz.func87 ?_;intro a z;simp only[Tryz.f87];simp only[ZA,simprocAttr,toGlueS.fv];intro Z;have aa:a.length<=1073741824:=z;refine⟨by omega,?_⟩;refine AU.old ⟨{k:Nat//k<=a.length},λk=>⟨[(4,.im (.int .i64 k.1)),(3,.own 1),(0,.im (.sl false 2 (a.map Am.c)))],[(1,(true,.arr 167 2 ((a.take k.1).map Am.c++List.replicate (a.length - k.1) [.str ByteArray.empty,.int .i64 0])))],2⟩,λk=>a.length - k.1,λk=>⟨by simp[ZG],AN _⟩,⟨⟨0,by omega⟩,by simp only[ZA,simprocAttr,sub];simp⟩,λk=> ?_⟩;obtain⟨k,Q⟩:=k;simp only[ZA,simprocAttr,toGlue.q,toGlue.fv,AR,eN _ _ a k Q];intro _;refine⟨λO=> ?_,λO=> ?_⟩
 .refine⟨O,λx hx=>⟨O,O,J0 (eI Am.c _ a k x hx) ?_⟩⟩;simp only[ZA,simprocAttr,sub];refine⟨⟨k+1,by omega⟩,by simp only;omega,?_,?_⟩
  .rw[AC (by omega) (by omega)];simp only;omega
  .exact eS Am.c _ a k x hx
 .rw[eO Am.c _ a k (by omega)];simp[Am.d_R]
def toPlacedS.fv(a:(List Ah)):List Ah:=(λp=>p) a
def toPlacedS.row:Ay:=vK (b1 (qS Ah.d_le Ah.c_n)) (rS Ah.d_le Ah.c_n) (λa=>a.length<=1073741824) toPlacedS.fv
def toPlacedS.q:=AT (R:=toPlacedS.row) rfl
def toPlacedS.ok:A9 89 toPlacedS.row:=by
 refine vw (tC toPlaced.ok tN) Tryz.func89 ?_;intro a z;simp only[Tryz.f89];simp only[ZA,simprocAttr,toPlacedS.fv];intro Z;have aa:a.length<=1073741824:=z;refine⟨by omega,?_⟩;refine AU.old ⟨{k:Nat//k<=a.length},λk=>⟨[(4,.im (.int .i64 k.1)),(3,.own 1),(0,.im (.sl false 3 (a.map Ah.c)))],[(1,(true,.arr 97 3 ((a.take k.1).map Ah.c++List.replicate (a.length - k.1) [.int .i64 0,.int .i64 0,.int .i64 0])))],2⟩,λk=>a.length - k.1,λk=>⟨by simp[ZG],AN _⟩,⟨⟨0,by omega⟩,by simp only[ZA,simprocAttr,sub];simp⟩,λk=> ?_⟩;obtain⟨k,Q⟩:=k;simp only[ZA,simprocAttr,toPlaced.q,toPlaced.fv,AR,eN _ _ a k Q];intro _;refine⟨λO=> ?_,λO=> ?_⟩
 .refine⟨O,λx hx=>⟨O,O,J0 (eI Ah.c _ a k x hx) ?_⟩⟩;simp only[ZA,simprocAttr,sub];refine⟨⟨k+1,by omega⟩,by simp only;omega,?_,?_⟩
  .rw[AC (by omega) (by omega)];simp only;omega
  .exact eS Ah.c _ a k x hx
 .rw[eO Ah.c _ a k (by omega)];simp[Ah.d_R]
def toTileS.fv(a:(List Tile)):List Tile:=(λp=>p) a
def toTileS.row:Ay:=vK (b1 (qS Tile.d_le Tile.c_n)) (rS Tile.d_le Tile.c_n) (λa=>a.length<=1073741824/\ ∀x∈a,x.Sides.length<=1073741824) toTileS.fv
def toTileS.q:=AT (R:=toTileS.row) rfl
def toTileS.ok:A9 88 toTileS.row:=by
 refine vw (tC toTile.ok tN) Tryz.func88 ?_;intro a z;simp only[Tryz.f88];simp only[ZA,simprocAttr,toTileS.fv];intro aa;have ab:a.length<=1073741824:=z.1;refine⟨by omega,?_⟩;refine AU.old ⟨{k:Nat//k<=a.length},λk=>⟨[(4,.im (.int .i64 k.1)),(3,.own 1),(0,.im (.sl false 2 (a.map Tile.c)))],[(1,(true,.arr 170 2 ((a.take k.1).map Tile.c++List.replicate (a.length - k.1) [.str ByteArray.empty,.sl true 0 []])))],2⟩,λk=>a.length - k.1,λk=>⟨by simp[ZG],AN _⟩,⟨⟨0,by omega⟩,by simp only[ZA,simprocAttr,sub];simp⟩,λk=> ?_⟩;obtain⟨k,Q⟩:=k;simp only[ZA,simprocAttr,toTile.q,toTile.fv,AR,eN _ _ a k Q];intro _;refine⟨λO=> ?_,λO=> ?_⟩
 .refine⟨O,λx Z=>⟨z.2 x (Ba Z),O,O,J0 (eI Tile.c _ a k x Z) ?_⟩⟩;simp only[ZA,simprocAttr,sub];refine⟨⟨k+1,by omega⟩,by simp only;omega,?_,?_⟩
  .rw[AC (by omega) (by omega)];simp only;omega
  .exact eS Tile.c _ a k x Z
 .rw[eO Tile.c _ a k (by omega)];simp[Tile.d_R]
def U9(s:Az):Prop:=s.Glues.length<=1073741824/\s.Tiles.length<=1073741824/\ ∀x∈s.Tiles,x.Sides.length<=1073741824
def toTileSet.fv(a:Az):Az:=(λp=>p) a
def toTileSet.row:Ay:=vK (b1 (qR Az.d_le)) (rA Az.d_le) (λa=>U9 a) toTileSet.fv
def toTileSet.q:=AT (R:=toTileSet.row) rfl
def toTileSet.ok:A9 51 toTileSet.row:=by
 refine vw (tC toGlueS.ok (tC toTileS.ok tN)) Tryz.func51 ?_;intro a z;simp only[Tryz.f51];simp only[ZA,simprocAttr,toTileSet.fv,toGlueS.q,toGlueS.fv,toTileS.q,toTileS.fv];exact z
def toAssembly.fv(a:Af):Af:=(λp=>p) a
def toAssembly.row:Ay:=vK (b1 (qR Af.d_le)) (rA Af.d_le) (λa=>a.Tiles.length<=1073741824) toAssembly.fv
def toAssembly.q:=AT (R:=toAssembly.row) rfl
def toAssembly.ok:A9 52 toAssembly.row:=by
 refine vw (tC toPlacedS.ok tN) Tryz.func52 ?_;intro a z;simp only[Tryz.f52];simp only[ZA,simprocAttr,Af.d,toAssembly.fv,toPlacedS.q,toPlacedS.fv];exact z
def MY(s:AG):Prop:=U9 s.Set/\s.Seed.Tiles.length<=1073741824
def toSystem.fv(a:AG):AG:=(λp=>p) a
def toSystem.row:Ay:=vK (b1 (qR AG.d_le)) (rA AG.d_le) (λa=>MY a) toSystem.fv
def toSystem.q:=AT (R:=toSystem.row) rfl
def toSystem.ok:A9 27 toSystem.row:=by
 refine vw (tC toTileSet.ok (tC toAssembly.ok tN)) Tryz.func27 ?_;intro a z;simp only[Tryz.f27];simp only[ZA,simprocAttr,Af.d,toSystem.fv,toTileSet.q,toTileSet.fv,toAssembly.q,toAssembly.fv];exact z
def bE(s:AF):Prop:=MY s.Big/\MY s.Small/\s.Labels.length<=1073741824
def toSimulation.fv(a:AF):AF:=(λp=>p) a
def toSimulation.row:Ay:=vK (b1 (qR AF.d_le)) (rA AF.d_le) (λa=>bE a) toSimulation.fv
def toSimulation.ok:A9 6 toSimulation.row:=by
 refine vw (tC toSystem.ok (tC toInt64S.ok tN)) Tryz.func6 ?_;intro a z;simp only[Tryz.f6];simp only[ZA,simprocAttr,toSimulation.fv,toSystem.q,toSystem.fv,toInt64S.q,toInt64S.fv];exact z
def PU(g:Am)(l:Int):Int:=Cy g.Name.size l
def szGlue.fv(a:Am×Int):Int:=(PU) (a.1) (a.2)
def szGlue.row:Ay:=vK (b2 (qR Am.d_le) qI) rI (λa=> -1<=a.2/\a.2<=1048576/\a.1.Name.size<=140737488355328) szGlue.fv
def szGlue.q:=AT (R:=szGlue.row) rfl
def szGlue.ok:A9 113 szGlue.row:=by
 refine vw tN Tryz.func113 ?_;intro a z;simp only[Tryz.f113];simp only[ZA,simprocAttr,szGlue.fv];rw[AC (by omega) (by omega)];simp only[PU,Cy]
 grind
def F4(g:Tile)(l:Int):Int:=if Cy g.Name.size l<0 then -1 else Cy g.Sides.length (Cy g.Name.size l)
def szTile.fv(a:Tile×Int):Int:=(F4) (a.1) (a.2)
def szTile.row:Ay:=vK (b2 (qR Tile.d_le) qI) rI (λa=> -1<=a.2/\a.2<=1048576/\a.1.Name.size<=140737488355328) szTile.fv
def szTile.q:=AT (R:=szTile.row) rfl
def szTile.ok:A9 114 szTile.row:=by
 refine vw (tC szInt64S.ok tN) Tryz.func114 ?_;intro a z;simp only[Tryz.f114];simp only[ZA,simprocAttr,szTile.fv,szInt64S.q,szInt64S.fv];rw[AC (by omega) (by omega)];simp only[F4,Cy]
 grind
def FZ{A:Type}(f:A->Int->Int):List A->Int->Int
 |[],l=>l
 |x::r,l=>if f x l<0 then -1 else FZ f r (f x l)
def Hi(a:List Am)(l:Int):Int:=if Cy a.length l<0 then -1 else FZ PU a (Cy a.length l)
def szGlueS.fv(a:(List Am)×Int):Int:=(Hi) (a.1) (a.2)
def szGlueS.row:Ay:=vK (b2 (qS Am.d_le Am.c_n) qI) rI (λa=> -1<=a.2/\a.2<=1048576/\ ∀x∈a.1,x.Name.size<=140737488355328) szGlueS.fv
def szGlueS.q:=AT (R:=szGlueS.row) rfl
def szGlueS.ok:A9 73 szGlueS.row:=by
 refine vw (tC szGlue.ok tN) Tryz.func73 ?_;intro a O;simp only[Tryz.f73];simp only[ZA,simprocAttr,szGlueS.fv];intro hn;rw[AC (by omega) (by omega)];obtain⟨ah,ai,af⟩:=O;simp only[AR];refine⟨λhl=> ?_,λhl=> ?_⟩
 .simp only[Hi,Cy];grind
 have h0:Cy a.1.length a.2=a.2 - a.1.length:=by simp only[Cy];rw[Ad hl]
 refine AU.old ⟨{p:Nat×Int//p.1<=a.1.length/\0<=p.2/\p.2<=1048576/\FZ PU (a.1.drop p.1) p.2=FZ PU a.1 (a.2 - a.1.length)},λp=>⟨[(5,.im (.int .i64 p.1.1)),(1,.im (.int .i64 p.1.2)),(4,.im (.int .i64 0)),(0,.im (.sl false 2 (a.1.map Am.c)))],[],0⟩,λp=>a.1.length - p.1.1,λp=>⟨by simp[ZG],AN _⟩,⟨⟨(0,a.2 - a.1.length),by simp,by simp only;omega,by simp only;omega,by simp⟩,by simp only[ZA,simprocAttr,sub]⟩,λp=> ?_⟩;obtain⟨⟨k,l⟩,ab,ac,ad,z⟩:=p;simp only at ab ac ad z;simp only[ZA,simprocAttr,szGlue.q,szGlue.fv,sub,AR];intro _;refine⟨λZ=>⟨Z,λx hx=>⟨⟨by omega,by omega,af x (Ba hx)⟩,?_⟩⟩,λZ=> ?_⟩
 .have hd:a.1.drop k=x::a.1.drop (k+1):=by
   rw[V3 Z];rw[Bk Z] at hx;rw[A7 hx]
  rw[hd,FZ] at z;have ag:PU x l<=l:=by simp only[PU,Cy];grind
  have aa: ¬PU ⟨x.Name,x.Strength⟩ l<0-> ¬PU x l<0:=λh=>h
  refine⟨λQ=> ?_,λQ=>⟨⟨(k+1,PU x l),by simp only;omega,by simp only;have:=aa Q;omega,by simp only;omega,?_⟩,by simp only;omega,?_,?_⟩⟩
  .rw[Ak Q] at z;simp only[Hi,h0]
   grind
  .rw[Ad Q] at z;exact z
  .rw[AC (by omega) (by omega)];simp only;omega
  .rfl
 .rw[CG (by omega),FZ] at z;simp only[Hi,h0]
  grind
def Ln(a:List Tile)(l:Int):Int:=if Cy a.length l<0 then -1 else FZ F4 a (Cy a.length l)
def szTileS.fv(a:(List Tile)×Int):Int:=(Ln) (a.1) (a.2)
def szTileS.row:Ay:=vK (b2 (qS Tile.d_le Tile.c_n) qI) rI (λa=> -1<=a.2/\a.2<=1048576/\ ∀x∈a.1,x.Name.size<=140737488355328) szTileS.fv
def szTileS.q:=AT (R:=szTileS.row) rfl
def szTileS.ok:A9 74 szTileS.row:=by
 refine vw (tC szTile.ok tN) Tryz.func74 ?_;intro a O;simp only[Tryz.f74];simp only[ZA,simprocAttr,szTileS.fv];intro hn;rw[AC (by omega) (by omega)];obtain⟨ah,ai,af⟩:=O;simp only[AR];refine⟨λhl=> ?_,λhl=> ?_⟩
 .simp only[Ln,Cy];grind
 have h0:Cy a.1.length a.2=a.2 - a.1.length:=by simp only[Cy];rw[Ad hl]
 refine AU.old ⟨{p:Nat×Int//p.1<=a.1.length/\0<=p.2/\p.2<=1048576/\FZ F4 (a.1.drop p.1) p.2=FZ F4 a.1 (a.2 - a.1.length)},λp=>⟨[(5,.im (.int .i64 p.1.1)),(1,.im (.int .i64 p.1.2)),(4,.im (.int .i64 0)),(0,.im (.sl false 2 (a.1.map Tile.c)))],[],0⟩,λp=>a.1.length - p.1.1,λp=>⟨by simp[ZG],AN _⟩,⟨⟨(0,a.2 - a.1.length),by simp,by simp only;omega,by simp only;omega,by simp⟩,by simp only[ZA,simprocAttr,sub]⟩,λp=> ?_⟩;obtain⟨⟨k,l⟩,ab,ac,ad,z⟩:=p;simp only at ab ac ad z;simp only[ZA,simprocAttr,szTile.q,szTile.fv,sub,AR];intro _;refine⟨λZ=>⟨Z,λx hx=>⟨⟨by omega,by omega,af x (Ba hx)⟩,?_⟩⟩,λZ=> ?_⟩
 .have hd:a.1.drop k=x::a.1.drop (k+1):=by
   rw[V3 Z];rw[Bk Z] at hx;rw[A7 hx]
  rw[hd,FZ] at z;have ag:F4 x l<=l:=by simp only[F4,Cy];grind
  have aa: ¬F4 ⟨x.Name,x.Sides⟩ l<0-> ¬F4 x l<0:=λh=>h
  refine⟨λQ=> ?_,λQ=>⟨⟨(k+1,F4 x l),by simp only;omega,by simp only;have:=aa Q;omega,by simp only;omega,?_⟩,by simp only;omega,?_,?_⟩⟩
  .rw[Ak Q] at z;simp only[Ln,h0]
   grind
  .rw[Ad Q] at z;exact z
  .rw[AC (by omega) (by omega)];simp only;omega
  .rfl
 .rw[CG (by omega),FZ] at z;simp only[Ln,h0]
  grind
def FH(s:Az):Prop:=(∀x∈s.Glues,x.Name.size<=140737488355328)/\ ∀x∈s.Tiles,x.Name.size<=140737488355328
def Qre{A:Type}{f:A->Int->Int}(hf: ∀x l,0<=l->f x l<=l)(a:List A): ∀(l:Int),0<=l->FZ f a l<=l/\ -1<=FZ f a l:=by
 induction a with
 |nil=>intro l z;simp[FZ];omega
 |cons x r ih=>
  intro l z;simp only[FZ];split
  .omega
  .have:=hf x l z
   have:=ih (f x l) (by omega)
   omega
def Qo1(a:List Am)(l:Int)(Q: -1<=l): -1<=Hi a l/\Hi a l<=max l (-1):=by
 simp only[Hi];split
 .omega
 .rename_i h;have z:=Qre (f:=PU) (λx l h=>by simp only[PU,Cy];grind) a (Cy a.length l) (by omega);have O:Cy a.length l<=max l (-1):=by simp only[Cy];grind
  omega
def Qv0(a:List Tile)(l:Int)(Q: -1<=l): -1<=Ln a l/\Ln a l<=max l (-1):=by
 simp only[Ln];split
 .omega
 .rename_i h;have z:=Qre (f:=F4) (λx l h=>by simp only[F4,Cy];grind) a (Cy a.length l) (by omega);have O:Cy a.length l<=max l (-1):=by simp only[Cy];grind
  omega
def Qc(s:Az)(l:Int):Int:=if Hi s.Glues l<0 then -1 else Ln s.Tiles (Hi s.Glues l)
def Qxk(s:Az)(l:Int)(O: -1<=l): -1<=Qc s l/\Qc s l<=max l (-1):=by
 have z:=Qo1 s.Glues l O;have Q:=Qv0 s.Tiles (Hi s.Glues l) z.1;simp only[Qc]
 split<;>omega
def szTileSet.fv(a:Az×Int):Int:=(Qc) (a.1) (a.2)
def szTileSet.row:Ay:=vK (b2 (qR Az.d_le) qI) rI (λa=> -1<=a.2/\a.2<=1048576/\FH a.1) szTileSet.fv
def szTileSet.q:=AT (R:=szTileSet.row) rfl
def szTileSet.ok:A9 39 szTileSet.row:=by
 refine vw (tC szGlueS.ok (tC szTileS.ok tN)) Tryz.func39 ?_;intro a z;simp only[Tryz.f39];simp only[ZA,simprocAttr,szTileSet.fv,szGlueS.q,szGlueS.fv,szTileS.q,szTileS.fv];obtain⟨O,Z,h3,h4⟩:=z;have Q:=Qo1 a.1.Glues a.2 O;refine⟨⟨O,Z,h3⟩,?_⟩;simp only[Qc];split
 .rfl
 .refine⟨⟨Q.1,by omega,h4⟩,?_⟩;have hc:=Qv0 a.1.Tiles _ Q.1
  split<;>omega
def UT(n:Nat)(l:Int)(z: -1<=l): -1<=Cy n l/\Cy n l<=max l (-1):=by
 simp only[Cy];split<;>omega
def J6(s:AG)(l:Int):Int:=if Qc s.Set l<0 then -1 else Js s.Seed (Qc s.Set l)
def mG(s:AG)(l:Int)(O: -1<=l): -1<=J6 s l/\J6 s l<=max l (-1):=by
 have z:=Qxk s.Set l O;have Q:=UT s.Seed.Tiles.length (Qc s.Set l) z.1;simp only[J6,Js]
 split<;>omega
def szSystem.fv(a:AG×Int):Int:=(J6) (a.1) (a.2)
def szSystem.row:Ay:=vK (b2 (qR AG.d_le) qI) rI (λa=> -1<=a.2/\a.2<=1048576/\FH a.1.Set) szSystem.fv
def szSystem.q:=AT (R:=szSystem.row) rfl
def szSystem.ok:A9 19 szSystem.row:=by
 refine vw (tC szTileSet.ok (tC szAssembly.ok tN)) Tryz.func19 ?_;intro a z;simp only[Tryz.f19];simp only[ZA,simprocAttr,Af.d,szSystem.fv,szTileSet.q,szTileSet.fv,szAssembly.q,szAssembly.fv];obtain⟨O,Z,h3⟩:=z;have Q:=Qxk a.1.Set a.2 O;refine⟨⟨O,Z,h3⟩,?_⟩;simp only[J6];split
 .rfl
 .refine⟨⟨Q.1,by omega⟩,?_⟩;have hc:=UT a.1.Seed.Tiles.length _ Q.1;simp only[Js] at hc⊢
  grind
def JQ(s:AF)(l:Int):Int:=if J6 s.Big l<0 then -1 else if J6 s.Small (J6 s.Big l)<0 then -1 else Cy s.Labels.length (J6 s.Small (J6 s.Big l))
def szSimulation.fv(a:AF×Int):Int:=(JQ) (a.1) (a.2)
def szSimulation.row:Ay:=vK (b2 (qR AF.d_le) qI) rI (λa=> -1<=a.2/\a.2<=1048576/\FH a.1.Big.Set/\FH a.1.Small.Set) szSimulation.fv
def szSimulation.q:=AT (R:=szSimulation.row) rfl
def szSimulation.ok:A9 4 szSimulation.row:=by
 refine vw (tC szSystem.ok (tC szInt64S.ok tN)) Tryz.func4 ?_;intro a z;simp only[Tryz.f4];simp only[ZA,simprocAttr,szSimulation.fv,szSystem.q,szSystem.fv,szInt64S.q,szInt64S.fv];obtain⟨O,h2,h3,h4⟩:=z;have Q:=mG a.1.Big a.2 O;have Z:=mG a.1.Small _ Q.1;refine⟨⟨O,h2,h3⟩,?_⟩;simp only[JQ];split
 .rfl
 .refine⟨⟨Q.1,by omega,h4⟩,?_⟩;split
  .rfl
  .refine⟨⟨Z.1,by omega⟩,?_⟩;have hd:=UT a.1.Labels.length _ Z.1
   split<;>omega
end Go.Ae
