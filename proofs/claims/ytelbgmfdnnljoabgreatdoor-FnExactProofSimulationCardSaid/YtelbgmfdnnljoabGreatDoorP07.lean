/- Lemmas. Conditions: none. -/
import Derived.Test.YtelbgmfdnnljoabGreatDoorP06
import Derived.Test.YtelbgmfdnnljoabGreatDoorProg
set_option linter.all false
set_option maxHeartbeats 8000000
set_option maxRecDepth 100000
namespace Go.Ae
open Go.Proofs
def TY0:
 (tI Tryz.prog 2=some {size:=1,bytes:=8,agg:=false,kind:= .int .i64,zero:=[.int .i64 0]})/\
 (tI Tryz.prog 3=some {size:=1,bytes:=8,agg:=false,kind:= .int .i64,zero:=[.int .i64 0]})/\
 (tI Tryz.prog 4=some {size:=1,bytes:=1,agg:=false,kind:= .bool,zero:=[.bool false]})/\
 (tI Tryz.prog 5=some {size:=1,bytes:=1,agg:=false,kind:= .int .u8,zero:=[.int .u8 0]})/\
 (tI Tryz.prog 9=some {size:=1,bytes:=16,agg:=false,kind:= .str,zero:=[.str ByteArray.empty]})/\
 (tI Tryz.prog 22=some {size:=1,bytes:=24,agg:=false,kind:= .slice 110,zero:=[.sl true 0 []]})/\
 (tI Tryz.prog 23=some {size:=1,bytes:=24,agg:=false,kind:= .slice 113,zero:=[.sl true 0 []]})/\
 (tI Tryz.prog 25=some {size:=2,bytes:=48,agg:=true,kind:= .struct [(0,1),(1,1)],zero:=[.sl true 0 [],.sl true 0 []]})/\
 (tI Tryz.prog 26=some {size:=1,bytes:=24,agg:=false,kind:= .slice 134,zero:=[.sl true 0 []]})/\
 (tI Tryz.prog 28=some {size:=1,bytes:=24,agg:=true,kind:= .struct [(0,1)],zero:=[.sl true 0 []]})/\
 (tI Tryz.prog 30=some {size:=4,bytes:=80,agg:=true,kind:= .struct [(0,2),(2,1),(3,1)],zero:=[.sl true 0 [],.sl true 0 [],.sl true 0 [],.int .i64 0]})/\
 (tI Tryz.prog 32=some {size:=1,bytes:=24,agg:=false,kind:= .slice 128,zero:=[.sl true 0 []]})/\
 (tI Tryz.prog 33=some {size:=1,bytes:=24,agg:=false,kind:= .slice 126,zero:=[.sl true 0 []]})/\
 (tI Tryz.prog 35=some {size:=2,bytes:=48,agg:=true,kind:= .struct [(0,1),(1,1)],zero:=[.sl true 0 [],.sl true 0 []]})/\
 (tI Tryz.prog 36=some {size:=1,bytes:=24,agg:=false,kind:= .slice 119,zero:=[.sl true 0 []]})/\
 (tI Tryz.prog 38=some {size:=1,bytes:=24,agg:=true,kind:= .struct [(0,1)],zero:=[.sl true 0 []]})/\
 (tI Tryz.prog 40=some {size:=4,bytes:=80,agg:=true,kind:= .struct [(0,2),(2,1),(3,1)],zero:=[.sl true 0 [],.sl true 0 [],.sl true 0 [],.int .i64 0]})/\
 (tI Tryz.prog 41=some {size:=1,bytes:=24,agg:=false,kind:= .slice 2,zero:=[.sl true 0 []]})/\
 (tI Tryz.prog 43=some {size:=10,bytes:=192,agg:=true,kind:= .struct [(0,4),(4,4),(8,1),(9,1)],zero:=[.sl true 0 [],.sl true 0 [],.sl true 0 [],.int .i64 0,.sl true 0 [],.sl true 0 [],.sl true 0 [],.int .i64 0,.int .i64 0,.sl true 0 []]})/\
 (tI Tryz.prog 57=some {size:=1,bytes:=8,agg:=false,kind:= .ptr 40,zero:=[.nilp]}):=by and_intros<;>kernel_rfl
def TY1:
 (tI Tryz.prog 74=some {size:=1,bytes:=8,agg:=false,kind:= .ptr 38,zero:=[.nilp]})/\
 (tI Tryz.prog 76=some {size:=1,bytes:=8,agg:=false,kind:= .ptr 35,zero:=[.nilp]})/\
 (tI Tryz.prog 83=some {size:=1,bytes:=8,agg:=false,kind:= .other,zero:=[.nilf]})/\
 (tI Tryz.prog 84=some {size:=1,bytes:=8,agg:=false,kind:= .ptr 99,zero:=[.nilp]})/\
 (tI Tryz.prog 87=some {size:=4,bytes:=64,agg:=true,kind:= .struct [(0,1),(1,2),(3,1)],zero:=[.nilp,.sl true 0 [],.sl true 0 [],.int .i64 0]})/\
 (tI Tryz.prog 92=some {size:=1,bytes:=24,agg:=false,kind:= .slice 95,zero:=[.sl true 0 []]})/\
 (tI Tryz.prog 95=some {size:=2,bytes:=16,agg:=true,kind:= .struct [(0,1),(1,1)],zero:=[.int .i64 0,.int .i64 0]})/\
 (tI Tryz.prog 97=some {size:=1,bytes:=8,agg:=false,kind:= .map 9 2,zero:=[.nilm]})/\
 (tI Tryz.prog 99=some {size:=3,bytes:=56,agg:=true,kind:= .struct [(0,2),(2,1)],zero:=[.sl true 0 [],.sl true 0 [],.nilm]})/\
 (tI Tryz.prog 110=some {size:=2,bytes:=24,agg:=true,kind:= .struct [(0,1),(1,1)],zero:=[.str ByteArray.empty,.int .i64 0]})/\
 (tI Tryz.prog 113=some {size:=2,bytes:=40,agg:=true,kind:= .struct [(0,1),(1,1)],zero:=[.str ByteArray.empty,.sl true 0 []]})/\
 (tI Tryz.prog 119=some {size:=3,bytes:=24,agg:=true,kind:= .struct [(0,2),(2,1)],zero:=[.int .i64 0,.int .i64 0,.int .i64 0]})/\
 (tI Tryz.prog 126=some {size:=2,bytes:=40,agg:=true,kind:= .struct [(0,1),(1,1)],zero:=[.str ByteArray.empty,.sl true 0 []]})/\
 (tI Tryz.prog 128=some {size:=2,bytes:=24,agg:=true,kind:= .struct [(0,1),(1,1)],zero:=[.str ByteArray.empty,.int .i64 0]})/\
 (tI Tryz.prog 132=some {size:=2,bytes:=16,agg:=true,kind:= .struct [(0,1),(1,1)],zero:=[.int .i64 0,.int .i64 0]})/\
 (tI Tryz.prog 134=some {size:=3,bytes:=24,agg:=true,kind:= .struct [(0,2),(2,1)],zero:=[.int .i64 0,.int .i64 0,.int .i64 0]})/\
 (tI Tryz.prog 155=some {size:=1,bytes:=24,agg:=false,kind:= .slice 177,zero:=[.sl true 0 []]})/\
 (tI Tryz.prog 169=some {size:=1,bytes:=8,agg:=false,kind:= .other,zero:=[.nilf]})/\
 (tI Tryz.prog 173=some {size:=1,bytes:=24,agg:=false,kind:= .slice 9,zero:=[.sl true 0 []]})/\
 (tI Tryz.prog 174=some {size:=1,bytes:=24,agg:=false,kind:= .slice 5,zero:=[.sl true 0 []]}):=by and_intros<;>kernel_rfl
def TY2:
 (tI Tryz.prog 177=some {size:=3,bytes:=24,agg:=true,kind:= .struct [(0,1),(1,1),(2,1)],zero:=[.int .i64 0,.int .i64 0,.int .i64 0]})/\
 (tI Tryz.prog 178=some {size:=1,bytes:=24,agg:=false,kind:= .slice 41,zero:=[.sl true 0 []]})/\
 (tI Tryz.prog 183=some {size:=1,bytes:=8,agg:=false,kind:= .ptr 208,zero:=[.nilp]})/\
 (tI Tryz.prog 190=some {size:=1,bytes:=8,agg:=false,kind:= .other,zero:=[.nilf]})/\
 (tI Tryz.prog 197=some {size:=1,bytes:=8,agg:=false,kind:= .int .u64,zero:=[.int .u64 0]})/\
 (tI Tryz.prog 208=some {size:=4,bytes:=80,agg:=true,kind:= .struct [(0,1),(1,1),(2,1),(3,1)],zero:=[.int .i64 0,.sl true 0 [],.sl true 0 [],.sl true 0 []]})/\
 (tI Tryz.prog 209=some {size:=1,bytes:=8,agg:=false,kind:= .map 9 4,zero:=[.nilm]})/\
 (tI Tryz.prog 215=some {size:=1,bytes:=8,agg:=false,kind:= .other,zero:=[.nilf]})/\
 (tI Tryz.prog 217=some {size:=1,bytes:=8,agg:=false,kind:= .other,zero:=[.nilf]})/\
 (tI Tryz.prog 219=some {size:=2,bytes:=16,agg:=true,kind:= .array 2 2,zero:=[.int .i64 0,.int .i64 0]})/\
 (tI Tryz.prog 221=some {size:=1,bytes:=8,agg:=false,kind:= .ptr 251,zero:=[.nilp]})/\
 (tI Tryz.prog 225=some {size:=1,bytes:=8,agg:=false,kind:= .int .i64,zero:=[.int .i64 0]})/\
 (tI Tryz.prog 233=some {size:=1,bytes:=4,agg:=false,kind:= .int .u32,zero:=[.int .u32 0]})/\
 (tI Tryz.prog 235=some {size:=1,bytes:=8,agg:=false,kind:= .int .u64,zero:=[.int .u64 0]})/\
 (tI Tryz.prog 236=some {size:=1,bytes:=24,agg:=false,kind:= .slice 3,zero:=[.sl true 0 []]})/\
 (tI Tryz.prog 240=some {size:=1,bytes:=24,agg:=false,kind:= .slice 241,zero:=[.sl true 0 []]})/\
 (tI Tryz.prog 241=some {size:=1,bytes:=8,agg:=false,kind:= .ptr 243,zero:=[.nilp]})/\
 (tI Tryz.prog 243=some {size:=2,bytes:=16,agg:=true,kind:= .struct [(0,1),(1,1)],zero:=[.nilp,.int .i64 0]})/\
 (tI Tryz.prog 245=some {size:=1,bytes:=8,agg:=false,kind:= .map 2 3,zero:=[.nilm]})/\
 (tI Tryz.prog 251=some {size:=2,bytes:=48,agg:=true,kind:= .struct [(0,1),(1,1)],zero:=[.sl true 0 [],.sl true 0 []]}):=by and_intros<;>kernel_rfl
def TY3:
 (tI Tryz.prog 253=some {size:=1,bytes:=8,agg:=false,kind:= .int .u64,zero:=[.int .u64 0]})/\
 (tI Tryz.prog 257=some {size:=1,bytes:=8,agg:=false,kind:= .ptr 3,zero:=[.nilp]})/\
 (tI Tryz.prog 259=some {size:=24,bytes:=24,agg:=true,kind:= .array 24 5,zero:=[.int .u8 0,.int .u8 0,.int .u8 0,.int .u8 0,.int .u8 0,.int .u8 0,.int .u8 0,.int .u8 0,.int .u8 0,.int .u8 0,.int .u8 0,.int .u8 0,.int .u8 0,.int .u8 0,.int .u8 0,.int .u8 0,.int .u8 0,.int .u8 0,.int .u8 0,.int .u8 0,.int .u8 0,.int .u8 0,.int .u8 0,.int .u8 0]})/\
 (tI Tryz.prog 264=some {size:=1,bytes:=8,agg:=false,kind:= .other,zero:=[.nilf]})/\
 (tI Tryz.prog 265=some {size:=8,bytes:=64,agg:=true,kind:= .array 4 95,zero:=[.int .i64 0,.int .i64 0,.int .i64 0,.int .i64 0,.int .i64 0,.int .i64 0,.int .i64 0,.int .i64 0]})/\
 (tI Tryz.prog 268=some {size:=1,bytes:=8,agg:=false,kind:= .other,zero:=[.nilc]})/\
 (tI Tryz.prog 276=some {size:=20,bytes:=160,agg:=true,kind:= .array 20 235,zero:=[.int .u64 0,.int .u64 0,.int .u64 0,.int .u64 0,.int .u64 0,.int .u64 0,.int .u64 0,.int .u64 0,.int .u64 0,.int .u64 0,.int .u64 0,.int .u64 0,.int .u64 0,.int .u64 0,.int .u64 0,.int .u64 0,.int .u64 0,.int .u64 0,.int .u64 0,.int .u64 0]})/\
 (tI Tryz.prog 277=some {size:=65,bytes:=65,agg:=true,kind:= .array 65 5,zero:=[.int .u8 0,.int .u8 0,.int .u8 0,.int .u8 0,.int .u8 0,.int .u8 0,.int .u8 0,.int .u8 0,.int .u8 0,.int .u8 0,.int .u8 0,.int .u8 0,.int .u8 0,.int .u8 0,.int .u8 0,.int .u8 0,.int .u8 0,.int .u8 0,.int .u8 0,.int .u8 0,.int .u8 0,.int .u8 0,.int .u8 0,.int .u8 0,.int .u8 0,.int .u8 0,.int .u8 0,.int .u8 0,.int .u8 0,.int .u8 0,.int .u8 0,.int .u8 0,.int .u8 0,.int .u8 0,.int .u8 0,.int .u8 0,.int .u8 0,.int .u8 0,.int .u8 0,.int .u8 0,.int .u8 0,.int .u8 0,.int .u8 0,.int .u8 0,.int .u8 0,.int .u8 0,.int .u8 0,.int .u8 0,.int .u8 0,.int .u8 0,.int .u8 0,.int .u8 0,.int .u8 0,.int .u8 0,.int .u8 0,.int .u8 0,.int .u8 0,.int .u8 0,.int .u8 0,.int .u8 0,.int .u8 0,.int .u8 0,.int .u8 0,.int .u8 0,.int .u8 0]})/\
 (tI Tryz.prog 285=some {size:=32,bytes:=32,agg:=true,kind:= .array 32 5,zero:=[.int .u8 0,.int .u8 0,.int .u8 0,.int .u8 0,.int .u8 0,.int .u8 0,.int .u8 0,.int .u8 0,.int .u8 0,.int .u8 0,.int .u8 0,.int .u8 0,.int .u8 0,.int .u8 0,.int .u8 0,.int .u8 0,.int .u8 0,.int .u8 0,.int .u8 0,.int .u8 0,.int .u8 0,.int .u8 0,.int .u8 0,.int .u8 0,.int .u8 0,.int .u8 0,.int .u8 0,.int .u8 0,.int .u8 0,.int .u8 0,.int .u8 0,.int .u8 0]})/\
 (tI Tryz.prog 286=some {size:=64,bytes:=64,agg:=true,kind:= .array 64 5,zero:=[.int .u8 0,.int .u8 0,.int .u8 0,.int .u8 0,.int .u8 0,.int .u8 0,.int .u8 0,.int .u8 0,.int .u8 0,.int .u8 0,.int .u8 0,.int .u8 0,.int .u8 0,.int .u8 0,.int .u8 0,.int .u8 0,.int .u8 0,.int .u8 0,.int .u8 0,.int .u8 0,.int .u8 0,.int .u8 0,.int .u8 0,.int .u8 0,.int .u8 0,.int .u8 0,.int .u8 0,.int .u8 0,.int .u8 0,.int .u8 0,.int .u8 0,.int .u8 0,.int .u8 0,.int .u8 0,.int .u8 0,.int .u8 0,.int .u8 0,.int .u8 0,.int .u8 0,.int .u8 0,.int .u8 0,.int .u8 0,.int .u8 0,.int .u8 0,.int .u8 0,.int .u8 0,.int .u8 0,.int .u8 0,.int .u8 0,.int .u8 0,.int .u8 0,.int .u8 0,.int .u8 0,.int .u8 0,.int .u8 0,.int .u8 0,.int .u8 0,.int .u8 0,.int .u8 0,.int .u8 0,.int .u8 0,.int .u8 0,.int .u8 0,.int .u8 0]}):=by and_intros<;>kernel_rfl
def KY0:
 (BW Tryz.prog 2=some ⟨false,[.int .i64]⟩)/\
 (BW Tryz.prog 3=some ⟨false,[.int .i64]⟩)/\
 (BW Tryz.prog 4=some ⟨false,[.bool]⟩)/\
 (BW Tryz.prog 5=some ⟨false,[.int .u8]⟩)/\
 (BW Tryz.prog 9=some ⟨false,[.str]⟩)/\
 (BW Tryz.prog 95=some ⟨true,[.int .i64,.int .i64]⟩)/\
 (Tryz.prog.eqGuardType Tryz.prog.depth 95=false)/\
 (BW Tryz.prog 110=some ⟨true,[.str,.int .i64]⟩)/\
 (Tryz.prog.eqGuardType Tryz.prog.depth 110=false)/\
 (BW Tryz.prog 119=some ⟨true,[.int .i64,.int .i64,.int .i64]⟩)/\
 (Tryz.prog.eqGuardType Tryz.prog.depth 119=false)/\
 (BW Tryz.prog 128=some ⟨true,[.str,.int .i64]⟩)/\
 (Tryz.prog.eqGuardType Tryz.prog.depth 128=false)/\
 (BW Tryz.prog 132=some ⟨true,[.int .i64,.int .i64]⟩)/\
 (Tryz.prog.eqGuardType Tryz.prog.depth 132=false)/\
 (BW Tryz.prog 134=some ⟨true,[.int .i64,.int .i64,.int .i64]⟩)/\
 (Tryz.prog.eqGuardType Tryz.prog.depth 134=false)/\
 (BW Tryz.prog 177=some ⟨true,[.int .i64,.int .i64,.int .i64]⟩)/\
 (Tryz.prog.eqGuardType Tryz.prog.depth 177=false)/\
 (BW Tryz.prog 197=some ⟨false,[.int .u64]⟩):=by and_intros<;>kernel_rfl
def KY1:
 (BW Tryz.prog 225=some ⟨false,[.int .i64]⟩)/\
 (BW Tryz.prog 233=some ⟨false,[.int .u32]⟩)/\
 (BW Tryz.prog 235=some ⟨false,[.int .u64]⟩)/\
 (BW Tryz.prog 253=some ⟨false,[.int .u64]⟩):=by and_intros<;>kernel_rfl
def CY0:True/\True:=⟨trivial,trivial⟩
def Fw:Tryz.prog.follows .mixedOrders=true:=by kernel_rfl
end Go.Ae
namespace Go.Ae
def kI:PK->Option Int
 | .val (.int .i64 x)=>some x
 |_=>none
def kU:PK->Option Int
 | .val (.int .u64 x)=>some x
 |_=>none
def kY:PK->Option Int
 | .val (.int .u8 x)=>some x
 |_=>none
def kB:PK->Option Bool
 | .val (.bool x)=>some x
 |_=>none
def kT:PK->Option ByteArray
 | .val (.str x)=>some x
 |_=>none
def kR{A:Type}(f:List D->Option A):PK->Option A
 | .val (.agg x)=>f x
 |_=>none
def kP{A:Type}(f:List D->Option A)(n:Nat):PK->Option A
 | .ptr x=>f (x.take n)
 |_=>none
def kS{A:Type}(f:List D->Option A):PK->Option (List A)
 | .val (.sl _ _ x)=>AZ f x
 |_=>none
def bV: ∀p a,kI p=some a->CE p (.val (.int .i64 a)):=by
 intro p a h;unfold kI at h;split at h
 .obtain rfl:=AJ h;exact CE.refl _
 .cases h
def wX: ∀p a,kU p=some a->CE p (.val (.int .u64 a)):=by
 intro p a h;unfold kU at h;split at h
 .obtain rfl:=AJ h;exact CE.refl _
 .cases h
def wY: ∀p a,kY p=some a->CE p (.val (.int .u8 a)):=by
 intro p a h;unfold kY at h;split at h
 .obtain rfl:=AJ h;exact CE.refl _
 .cases h
def wT: ∀p a,kB p=some a->CE p (.val (.bool a)):=by
 intro p a h;unfold kB at h;split at h
 .obtain rfl:=AJ h;exact CE.refl _
 .cases h
def wW: ∀p a,kT p=some a->CE p (.val (.str a)):=by
 intro p a h;unfold kT at h;split at h
 .obtain rfl:=AJ h;exact CE.refl _
 .cases h
section
variable {A:Type}{f:List D->Option A}{e:A->List D}
def MC(hf: ∀ds x,f ds=some x->Dj ds (e x)): ∀p a,kR f p=some a->CE p (.val (.agg (e a))):=by
 intro p a h;unfold kR at h;split at h
 .exact Lk (hf _ _ h)
 .cases h
def wU(n:Nat)(hf: ∀ds x,f ds=some x->Dj ds (e x)): ∀p a,kP f n p=some a->CE p (.ptr (e a)):=by
 intro p a h;unfold kP at h;split at h
 .exact IG.trans_take (hf _ _ h)
 .cases h
def bW(k:Nat)(hf: ∀ds x,f ds=some x->Dj ds (e x))(z: ∀x,(e x).length=k): ∀p a,kS f p=some a->CE p (.val (.sl false k (a.map e))):=by
 intro p a h;unfold kS at h;split at h
 .exact EY (EN hf _ _ h) (by simp only[Bl];rintro r ⟨y,_,rfl⟩;exact z y)
 .cases h
end
def a1{z:Type}(O:PK->Option z):List PK->Option (z)
 |[Q]=>(O Q).bind λZ=>some Z
 |_=>none
def bK{O:Type}{Z:PK->Option O}{Q:O->PK}(h0: ∀p a,Z p=some a->CE p (Q a)): ∀z a,a1 Z z=some a->Cy z [Q (a)]:=by
 intro z a h;unfold a1 at h;split at h
 .simp only[GI,AN] at h;obtain⟨y0,g0,rfl⟩:=h;exact⟨h0 _ _ g0,trivial⟩
 .cases h
def a2{z O:Type}(Q:PK->Option z)(Z:PK->Option O):List PK->Option (z×O)
 |[x0,x1]=>(Q x0).bind λy0=>(Z x1).bind λy1=>some (y0,y1)
 |_=>none
def RL{O:Type}{f0:PK->Option O}{Z:O->PK}{Q:Type}{f1:PK->Option Q}{e1:Q->PK}(h0: ∀p a,f0 p=some a->CE p (Z a))(h1: ∀p a,f1 p=some a->CE p (e1 a)): ∀z a,a2 f0 f1 z=some a->Cy z [Z (a.1),e1 (a.2)]:=by
 intro z a h;unfold a2 at h;split at h
 .simp only[GI,AN] at h;obtain⟨y0,g0,y1,g1,rfl⟩:=h;exact⟨h0 _ _ g0,h1 _ _ g1,trivial⟩
 .cases h
def a3{z O Q:Type}(Z:PK->Option z)(f1:PK->Option O)(f2:PK->Option Q):List PK->Option (z×O×Q)
 |[x0,x1,x2]=>(Z x0).bind λy0=>(f1 x1).bind λy1=>(f2 x2).bind λy2=>some (y0,y1,y2)
 |_=>none
def vQ{O:Type}{f0:PK->Option O}{e0:O->PK}{Q:Type}{f1:PK->Option Q}{e1:Q->PK}{Z:Type}{f2:PK->Option Z}{e2:Z->PK}(h0: ∀p a,f0 p=some a->CE p (e0 a))(h1: ∀p a,f1 p=some a->CE p (e1 a))(h2: ∀p a,f2 p=some a->CE p (e2 a)): ∀z a,a3 f0 f1 f2 z=some a->Cy z [e0 (a.1),e1 (a.2.1),e2 (a.2.2)]:=by
 intro z a h;unfold a3 at h;split at h
 .simp only[GI,AN] at h;obtain⟨y0,g0,y1,g1,y2,g2,rfl⟩:=h;exact⟨h0 _ _ g0,h1 _ _ g1,h2 _ _ g2,trivial⟩
 .cases h
def a4{z O Q Z:Type}(f0:PK->Option z)(f1:PK->Option O)(f2:PK->Option Q)(f3:PK->Option Z):List PK->Option (z×O×Q×Z)
 |[x0,x1,x2,x3]=>(f0 x0).bind λy0=>(f1 x1).bind λy1=>(f2 x2).bind λy2=>(f3 x3).bind λy3=>some (y0,y1,y2,y3)
 |_=>none
def vR{O:Type}{f0:PK->Option O}{e0:O->PK}{Q:Type}{f1:PK->Option Q}{e1:Q->PK}{Z:Type}{f2:PK->Option Z}{e2:Z->PK}{A3:Type}{f3:PK->Option A3}{e3:A3->PK}(h0: ∀p a,f0 p=some a->CE p (e0 a))(h1: ∀p a,f1 p=some a->CE p (e1 a))(h2: ∀p a,f2 p=some a->CE p (e2 a))(h3: ∀p a,f3 p=some a->CE p (e3 a)): ∀z a,a4 f0 f1 f2 f3 z=some a->Cy z [e0 (a.1),e1 (a.2.1),e2 (a.2.2.1),e3 (a.2.2.2)]:=by
 intro z a h;unfold a4 at h;split at h
 .simp only[GI,AN] at h;obtain⟨y0,g0,y1,g1,y2,g2,y3,g3,rfl⟩:=h;exact⟨h0 _ _ g0,h1 _ _ g1,h2 _ _ g2,h3 _ _ g3,trivial⟩
 .cases h
def a5{z O Q Z A4:Type}(f0:PK->Option z)(f1:PK->Option O)(f2:PK->Option Q)(f3:PK->Option Z)(f4:PK->Option A4):List PK->Option (z×O×Q×Z×A4)
 |[x0,x1,x2,x3,x4]=>(f0 x0).bind λy0=>(f1 x1).bind λy1=>(f2 x2).bind λy2=>(f3 x3).bind λy3=>(f4 x4).bind λy4=>some (y0,y1,y2,y3,y4)
 |_=>none
def vS{O:Type}{f0:PK->Option O}{e0:O->PK}{Q:Type}{f1:PK->Option Q}{e1:Q->PK}{Z:Type}{f2:PK->Option Z}{e2:Z->PK}{A3:Type}{f3:PK->Option A3}{e3:A3->PK}{A4:Type}{f4:PK->Option A4}{e4:A4->PK}(h0: ∀p a,f0 p=some a->CE p (e0 a))(h1: ∀p a,f1 p=some a->CE p (e1 a))(h2: ∀p a,f2 p=some a->CE p (e2 a))(h3: ∀p a,f3 p=some a->CE p (e3 a))(h4: ∀p a,f4 p=some a->CE p (e4 a)): ∀z a,a5 f0 f1 f2 f3 f4 z=some a->Cy z [e0 (a.1),e1 (a.2.1),e2 (a.2.2.1),e3 (a.2.2.2.1),e4 (a.2.2.2.2)]:=by
 intro z a h;unfold a5 at h;split at h
 .simp only[GI,AN] at h;obtain⟨y0,g0,y1,g1,y2,g2,y3,g3,y4,g4,rfl⟩:=h;exact⟨h0 _ _ g0,h1 _ _ g1,h2 _ _ g2,h3 _ _ g3,h4 _ _ g4,trivial⟩
 .cases h
def a6{z O Q Z A4 A5:Type}(f0:PK->Option z)(f1:PK->Option O)(f2:PK->Option Q)(f3:PK->Option Z)(f4:PK->Option A4)(f5:PK->Option A5):List PK->Option (z×O×Q×Z×A4×A5)
 |[x0,x1,x2,x3,x4,x5]=>(f0 x0).bind λy0=>(f1 x1).bind λy1=>(f2 x2).bind λy2=>(f3 x3).bind λy3=>(f4 x4).bind λy4=>(f5 x5).bind λy5=>some (y0,y1,y2,y3,y4,y5)
 |_=>none
def vT{O:Type}{f0:PK->Option O}{e0:O->PK}{Q:Type}{f1:PK->Option Q}{e1:Q->PK}{Z:Type}{f2:PK->Option Z}{e2:Z->PK}{A3:Type}{f3:PK->Option A3}{e3:A3->PK}{A4:Type}{f4:PK->Option A4}{e4:A4->PK}{A5:Type}{f5:PK->Option A5}{e5:A5->PK}(h0: ∀p a,f0 p=some a->CE p (e0 a))(h1: ∀p a,f1 p=some a->CE p (e1 a))(h2: ∀p a,f2 p=some a->CE p (e2 a))(h3: ∀p a,f3 p=some a->CE p (e3 a))(h4: ∀p a,f4 p=some a->CE p (e4 a))(h5: ∀p a,f5 p=some a->CE p (e5 a)): ∀z a,a6 f0 f1 f2 f3 f4 f5 z=some a->Cy z [e0 (a.1),e1 (a.2.1),e2 (a.2.2.1),e3 (a.2.2.2.1),e4 (a.2.2.2.2.1),e5 (a.2.2.2.2.2)]:=by
 intro z a h;unfold a6 at h;split at h
 .simp only[GI,AN] at h;obtain⟨y0,g0,y1,g1,y2,g2,y3,g3,y4,g4,y5,g5,rfl⟩:=h;exact⟨h0 _ _ g0,h1 _ _ g1,h2 _ _ g2,h3 _ _ g3,h4 _ _ g4,h5 _ _ g5,trivial⟩
 .cases h
def a7{z O Q Z A4 A5 A6:Type}(f0:PK->Option z)(f1:PK->Option O)(f2:PK->Option Q)(f3:PK->Option Z)(f4:PK->Option A4)(f5:PK->Option A5)(f6:PK->Option A6):List PK->Option (z×O×Q×Z×A4×A5×A6)
 |[x0,x1,x2,x3,x4,x5,x6]=>(f0 x0).bind λy0=>(f1 x1).bind λy1=>(f2 x2).bind λy2=>(f3 x3).bind λy3=>(f4 x4).bind λy4=>(f5 x5).bind λy5=>(f6 x6).bind λy6=>some (y0,y1,y2,y3,y4,y5,y6)
 |_=>none
def vU{O:Type}{f0:PK->Option O}{e0:O->PK}{Q:Type}{f1:PK->Option Q}{e1:Q->PK}{Z:Type}{f2:PK->Option Z}{e2:Z->PK}{A3:Type}{f3:PK->Option A3}{e3:A3->PK}{A4:Type}{f4:PK->Option A4}{e4:A4->PK}{A5:Type}{f5:PK->Option A5}{e5:A5->PK}{A6:Type}{f6:PK->Option A6}{e6:A6->PK}(h0: ∀p a,f0 p=some a->CE p (e0 a))(h1: ∀p a,f1 p=some a->CE p (e1 a))(h2: ∀p a,f2 p=some a->CE p (e2 a))(h3: ∀p a,f3 p=some a->CE p (e3 a))(h4: ∀p a,f4 p=some a->CE p (e4 a))(h5: ∀p a,f5 p=some a->CE p (e5 a))(h6: ∀p a,f6 p=some a->CE p (e6 a)): ∀z a,a7 f0 f1 f2 f3 f4 f5 f6 z=some a->Cy z [e0 (a.1),e1 (a.2.1),e2 (a.2.2.1),e3 (a.2.2.2.1),e4 (a.2.2.2.2.1),e5 (a.2.2.2.2.2.1),e6 (a.2.2.2.2.2.2)]:=by
 intro z a h;unfold a7 at h;split at h
 .simp only[GI,AN] at h;obtain⟨y0,g0,y1,g1,y2,g2,y3,g3,y4,g4,y5,g5,y6,g6,rfl⟩:=h;exact⟨h0 _ _ g0,h1 _ _ g1,h2 _ _ g2,h3 _ _ g3,h4 _ _ g4,h5 _ _ g5,h6 _ _ g6,trivial⟩
 .cases h
def JS{A B E F:Type}(f:D->Option A)(g:D->Option B)(k:D->Option E)(m:D->Option F):D->Option (A×B×E×F)
 | .tup [x,y,z,w]=>(f x).bind λa=>(g y).bind λb=>(k z).bind λc=>(m w).bind λd=>some (a,b,c,d)
 |_=>none
def VB{A B E F:Type}{f:D->Option A}{g:D->Option B}{k:D->Option E}{m:D->Option F}{e:A->D}{e':B->D}{e'':E->D}{z:F->D}(hf: ∀d x,f d=some x->Le d (e x))(hg: ∀d x,g d=some x->Le d (e' x))(hk: ∀d x,k d=some x->Le d (e'' x))(hm: ∀d x,m d=some x->Le d (z x)):
 ∀d (x:A×B×E×F),JS f g k m d=some x->Le d (.tup [e x.1,e' x.2.1,e'' x.2.2.1,z x.2.2.2]):=by
 intro d x h;unfold JS at h;split at h
 .simp only[GI,AN] at h;obtain⟨a,O,b,Q,c,Z,w,h4,rfl⟩:=h;exact Ll ⟨hf _ _ O,hg _ _ Q,hk _ _ Z,hm _ _ h4,trivial⟩
 .cases h
def Ag.c_n(x:Ag):(Ag.c x).length=3:=rfl
def Ad.c_n(x:Ad):(Ad.c x).length=2:=rfl
def Al.c_n(x:Al):(Al.c x).length=3:=rfl
def AC.c_n(x:AC):(AC.c x).length=2:=rfl
def Tile.c_n(x:Tile):(Tile.c x).length=2:=rfl
def DU(x:Int):(Ak x).length=1:=rfl
def Nz(x:List Int):(CZ x).length=1:=rfl
structure QK(A:Type) where
 d:PK->Option A
 e:A->PK
 l: ∀p a,d p=some a->CE p (e a)
def qI:QK Int:=⟨kI,λa=> .val (.int .i64 a),bV⟩
def qU:QK Int:=⟨kU,λa=> .val (.int .u64 a),wX⟩
def qY:QK Int:=⟨kY,λa=> .val (.int .u8 a),wY⟩
def qB:QK Bool:=⟨kB,λa=> .val (.bool a),wT⟩
def qT:QK ByteArray:=⟨kT,λa=> .val (.str a),wW⟩
section
variable {A:Type}{f:List D->Option A}{e:A->List D}
def qR(h: ∀ds x,f ds=some x->Dj ds (e x)):QK A:=⟨kR f,λa=> .val (.agg (e a)),MC h⟩
def qP(n:Nat)(h: ∀ds x,f ds=some x->Dj ds (e x)):QK A:=⟨kP f n,λa=> .ptr (e a),wU n h⟩
def qS{k:Nat}(h: ∀ds x,f ds=some x->Dj ds (e x))(z: ∀x,(e x).length=k):QK (List A):=⟨kS f,λa=> .val (.sl false k (a.map e)),bW k h z⟩
end
structure AK(A:Type) where
 r:List PK->Option A
 e:A->List PK
 l: ∀ps a,r ps=some a->Cy ps (e a)
 n:Nat
 w: ∀a,(e a).length=n
def b1{z:Type}(p0:QK z):AK (z):=⟨a1 p0.d,λa=>[p0.e (a)],bK p0.l,1,λ_=>rfl⟩
def b2{z O:Type}(p0:QK z)(p1:QK O):AK (z×O):=⟨a2 p0.d p1.d,λa=>[p0.e (a.1),p1.e (a.2)],RL p0.l p1.l,2,λ_=>rfl⟩
def b3{z O Q:Type}(p0:QK z)(p1:QK O)(p2:QK Q):AK (z×O×Q):=⟨a3 p0.d p1.d p2.d,λa=>[p0.e (a.1),p1.e (a.2.1),p2.e (a.2.2)],vQ p0.l p1.l p2.l,3,λ_=>rfl⟩
def b4{O Q Z A3:Type}(p0:QK O)(p1:QK Q)(p2:QK Z)(z:QK A3):AK (O×Q×Z×A3):=⟨a4 p0.d p1.d p2.d z.d,λa=>[p0.e (a.1),p1.e (a.2.1),p2.e (a.2.2.1),z.e (a.2.2.2)],vR p0.l p1.l p2.l z.l,4,λ_=>rfl⟩
def b5{Q Z A2 A3 A4:Type}(p0:QK Q)(p1:QK Z)(p2:QK A2)(z:QK A3)(O:QK A4):AK (Q×Z×A2×A3×A4):=⟨a5 p0.d p1.d p2.d z.d O.d,λa=>[p0.e (a.1),p1.e (a.2.1),p2.e (a.2.2.1),z.e (a.2.2.2.1),O.e (a.2.2.2.2)],vS p0.l p1.l p2.l z.l O.l,5,λ_=>rfl⟩
def b6{Z A1 A2 A3 A4 A5:Type}(p0:QK Z)(p1:QK A1)(p2:QK A2)(z:QK A3)(O:QK A4)(Q:QK A5):AK (Z×A1×A2×A3×A4×A5):=⟨a6 p0.d p1.d p2.d z.d O.d Q.d,λa=>[p0.e (a.1),p1.e (a.2.1),p2.e (a.2.2.1),z.e (a.2.2.2.1),O.e (a.2.2.2.2.1),Q.e (a.2.2.2.2.2)],vT p0.l p1.l p2.l z.l O.l Q.l,6,λ_=>rfl⟩
def b7{A0 A1 A2 A3 A4 A5 A6:Type}(p0:QK A0)(p1:QK A1)(p2:QK A2)(z:QK A3)(O:QK A4)(Q:QK A5)(Z:QK A6):AK (A0×A1×A2×A3×A4×A5×A6):=⟨a7 p0.d p1.d p2.d z.d O.d Q.d Z.d,λa=>[p0.e (a.1),p1.e (a.2.1),p2.e (a.2.2.1),z.e (a.2.2.2.1),O.e (a.2.2.2.2.1),Q.e (a.2.2.2.2.2.1),Z.e (a.2.2.2.2.2.2)],vU p0.l p1.l p2.l z.l O.l Q.l Z.l,7,λ_=>rfl⟩
structure RK(B:Type) where
 c:D->Option B
 e:B->D
 l: ∀d b,c d=some b->Le d (e b)
def rI:RK Int:=⟨Ey,D.int .i64,cW⟩
def rB:RK Bool:=⟨W4,D.bool,pY⟩
def rT:RK ByteArray:=⟨IF,D.str,ZI⟩
section
variable {A:Type}{f:List D->Option A}{e:A->List D}
def rA(h: ∀ds x,f ds=some x->Dj ds (e x)):RK A:=⟨Fv f,λb=>D.agg (e b),NP h⟩
def rS{k:Nat}(h: ∀ds x,f ds=some x->Dj ds (e x))(z: ∀x,(e x).length=k):RK (List A):=⟨Wx f,λb=>D.sl false k (b.map e),V9 h z⟩
end
def r2{A B:Type}(p:RK A)(q:RK B):RK (A×B):=⟨lF p.c q.c,λb=>D.tup [p.e b.1,q.e b.2],Qbz p.l q.l⟩
def r3{A B C:Type}(p:RK A)(q:RK B)(r:RK C):RK (A×B×C):=⟨JR p.c q.c r.c,λb=>D.tup [p.e b.1,q.e b.2.1,r.e b.2.2],VA p.l q.l r.l⟩
def r4{A B C E:Type}(p:RK A)(q:RK B)(r:RK C)(s:RK E):RK (A×B×C×E):=⟨JS p.c q.c r.c s.c,λb=>D.tup [p.e b.1,q.e b.2.1,r.e b.2.2.1,s.e b.2.2.2],VB p.l q.l r.l s.l⟩
def tN{P:Program}:KJ P (tab []):=W8 [] (by simp)
def tC{P:Program}{g:Nat}{r:AF}{l:List (Nat×AF)}(h:HC P g r)(Q:KJ P (tab l)):KJ P (tab ((g,r)::l)):=by
 intro g' args h' nx K z;simp only[tab] at z;split at z
 .rename_i O;subst O;exact h _ _ _ _ z
 .exact Q _ _ _ _ _ z
def ZA0:=J @VC0<|J @VC1<|J @VC2<|J @VC3<|J @VC4<|J @VC5<|J @VC6<|J @VC7<|J @VC8<|J @VC9<|J @VC10<|J @VC11<|J @VC12<|J @VC13<|J @VC14<|J @VC15<|J @VC16<|J @VC17<|J @VC18<|J @VC19<|J @VC20<|J @VC21<|J @VC22<|@VC23
def ZA1:=J @VC24<|J @VC25<|J @VC26<|J @VC27<|J @VC28<|J @VC29<|J @VC30<|J @VC31<|J @VC32<|J @VC33<|J @VC34<|J @VC35<|J @VC36<|J @VC37<|J @VC38<|J @VC39<|J @VC40<|J @VC41<|J @VC42<|J @VC43<|J @Zdq.{0}<|J @QJ<|J @Bool.not_eq_false'<|@AV.im.injEq
def ZA2:=J @D.int.injEq<|J @D.bool.injEq<|J @D.str.injEq<|J @D.sl.injEq<|J @D.agg.injEq<|J @AV.own.injEq<|J @AV.ptr.injEq<|J @E0.{0,0}<|J @Ac.cells.injEq<|J @Ac.arr.injEq<|J @Wl.{0}<|J @Int.cast_ofNat_Int<|J @Int.ofNat_lt<|J @Int.ofNat_le<|J @ZdK<|J @Kf<|J @Fk<|J @AY<|J @HN<|J @XK<|J @XJ<|J @RJ<|J @Zfc<|@CF
def ZA3:=J @Kd<|J @QL<|J @Be.{0,0}<|J @BF.{0,0}<|J @LO.{0}<|J @GJ.{0}<|J @Fj.{0}<|J @E5.{0}<|J @Zfi.{0}<|J @Zfj.{0}<|J @Cg.{1}<|J @Bk.{1}<|J @Iq.{0}<|J @QH.{0}<|J @ne_eq.{1}<|J @Dg.{0}<|J @BO.{0}<|J @DJ.{0}<|J @Dx.{0}<|J @Ip.{0}<|J @and_true<|J @OK<|J @ZdW<|@not_true_eq_false
def ZA4:=J @or_true<|J @true_or<|J @C5<|J @FN<|J @Gc<|J @LV<|J @false_or<|J @bA.{0}<|J @gR.{0}<|J @OJ<|J @bJ<|J @mT<|J @vP<|J @mS<|J @Wm<|J @true_implies<|J @false_implies<|J @Gw.{0,0}<|J @Et<|J @EL<|J @Gu<|J @bI<|J @gQ.{0}<|@Option.isSome_some.{0}
def ZA5:=J @Bool.false_bne<|J @Bool.true_bne<|J @Bool.not_not<|J @AU<|J @Bq<|J @eq_self.{1}<|J @vD.{0}<|J @Bool.true_eq_false<|J @Df<|J @TY0<|J @TY1<|J @TY2<|J @TY3<|J @KY0<|J @KY1<|J @CY0<|J @isG.eq_1<|J @qI.eq_1<|J @qU.eq_1<|J @qY.eq_1<|J @qB.eq_1<|J @qT.eq_1<|J @qR.eq_1<|@qP.eq_1
def ZA6:=J @qS.eq_1<|J @b1.eq_1<|J @b2.eq_1<|J @b3.eq_1<|J @b4.eq_1<|J @b5.eq_1<|J @b6.eq_1<|J @b7.eq_1<|J @rI.eq_1<|J @rB.eq_1<|J @rT.eq_1<|J @rA.eq_1<|J @rS.eq_1<|J @r2.eq_1<|J @r3.eq_1<|J @r4.eq_1<|J @JS.eq_1<|J @JS.eq_2<|J @kI.eq_1<|J @kI.eq_2<|J @kU.eq_1<|J @kU.eq_2<|J @kY.eq_1<|@kY.eq_2
def ZA7:=J @kB.eq_1<|J @kB.eq_2<|J @kT.eq_1<|J @kT.eq_2<|J @kR.eq_1<|J @kR.eq_2<|J @kP.eq_1<|J @kP.eq_2<|J @kS.eq_1<|J @kS.eq_2<|J @a1.eq_1<|J @a1.eq_2<|J @a2.eq_1<|J @a2.eq_2<|J @a3.eq_1<|J @a3.eq_2<|J @a4.eq_1<|J @a4.eq_2<|J @a5.eq_1<|J @a5.eq_2<|J @a6.eq_1<|J @a6.eq_2<|J @a7.eq_1<|@a7.eq_2
def ZA8:=J @AZ.eq_1<|J @AZ.eq_2<|J @OA<|J @DN.eq_1<|J @DN.eq_2<|J @Zw.eq_1<|J @Zw.eq_2<|J @Ak.eq_1<|J @ID.eq_1<|J @fU<|J @kG<|J @Ey.eq_1<|J @Ey.eq_2<|J @IF.eq_1<|J @IF.eq_2<|J @W4.eq_1<|J @W4.eq_2<|J @Wx.eq_1<|J @Wx.eq_2<|J @Fv.eq_1<|J @Fv.eq_2<|J @lF.eq_1<|J @lF.eq_2<|@JR.eq_1
def ZA9:=J @JR.eq_2<|J @AC.c.eq_1<|J @AC.d.eq_1<|J @AC.d.eq_2<|J @Al.c.eq_1<|J @Al.d.eq_1<|J @Al.d.eq_2<|J @Al.d_R<|J @AB.c.eq_1<|J @Ad.c.eq_1<|J @Ad.d.eq_1<|J @Ad.d.eq_2<|J @Ad.d_R<|J @Tile.c.eq_1<|J @Tile.d.eq_1<|J @Tile.d.eq_2<|J @Tile.d_R<|J @Ap.c.eq_1<|J @Ap.d.eq_1<|J @Ap.d.eq_2<|J @A9.c.eq_1<|J @A9.d.eq_1<|J @A9.d.eq_2<|@DS.c.eq_1
def ZA10:=J @DS.d.eq_1<|J @DS.d.eq_2<|J @DS.d_R<|J @Bt.c.eq_1<|J @Bt.d.eq_1<|J @Bt.d.eq_2<|J @Ag.c.eq_1<|J @Ag.d.eq_1<|J @Ag.d.eq_2<|J @Ag.d_R<|J @Dh.{0,0}<|J @AN.{0}<|J @GL.{0,0}<|J @AC.d_R<|J @AC.eta<|J @Al.eta<|J @AB.eta<|J @Ad.eta<|J @Tile.eta<|J @Ap.eta<|J @A9.eta<|J @DS.eta<|J @Bt.eta<|@Ag.eta
def ZA11:=J @LB.c.eq_1<|J @LB.d.eq_1<|J @LB.d.eq_2<|J @LB.eta<|J @Qmt<|J @Qk8<|J @Qqj<|J @U1<|J @PF<|J @IA.eq_1<|J @IA.eq_2<|J @IA.eq_3<|J @Kb.{0,0}<|@Zec.{0,0}
def ZA:=J @ZA0<|J @ZA1<|J @ZA2<|J @ZA3<|J @ZA4<|J @ZA5<|J @ZA6<|J @ZA7<|J @ZA8<|J @ZA9<|J @ZA10<|@ZA11
def ZT0:=J @cU.eq_1<|J @CZ.eq_1<|J @Wg.eq_1<|J @Wg.eq_2<|J @N2<|J @Bh.c.eq_1<|J @Bh.d.eq_1<|J @Bh.d.eq_2<|J @Bh.eta<|J @Bi.c.eq_1<|J @Bi.d.eq_1<|J @Bi.d.eq_2<|@Bi.eta
def ZT:=J @ZT0 (@QL)
def ZG:=J @Az.good.eq_1<|J @Cv.eq_1<|J @Cv.eq_2<|J @Aw.eq_1<|J @Aw.eq_2<|J @Aw.eq_3<|J @Aw.eq_4<|J @Aw.eq_5<|J @Aw.eq_6<|J @Aw.eq_7<|J @Aw.eq_8<|J @B6.eq_1<|J @B6.eq_2<|J @AV.bel.eq_1<|J @AV.bel.eq_2<|J @AV.bel.eq_3<|J @AV.bel.eq_4<|J @AV.bel.eq_5<|J @AV.bel.eq_6<|J @AV.bel.eq_7<|J @AV.bel.eq_8<|J @AV.bel.eq_9<|J @AV.bel.eq_10<|J @AV.bel.eq_11<|J @AV.bel.eq_12<|J @AA.eq_1 @AA.eq_2
def BX:=J @Rc<|J @WJ<|J @W9<|J @WH @Rb
def Aq:=J BX (J @EK.{0} @Gv.{0})
def Adq(b:Bool)(k:Nat)(x:List (List D)):AB.d [.sl b k x]=(AZ Al.d x).bind λy=>some ⟨y⟩:=rfl
def ZZ:=J ZA (J ZT @Adq)
def vq{A:Type}{ar:List PK->Option A}{pre:A->Prop}{re:A->D}(r:AF)(e:r=EX ar pre re)(a:List AV)(h:Nat->Option Am)(n:Nat)(K:Ah):r a h n K=W3 ar pre re (Au a) K (IT h a):=by rw[e];rfl
def vqF{A:Type}{ar:List PK->Option A}{pre:A->Prop}{re:A->D}(r:AF)(e:r=R1 ar pre re)(a:List AV)(h:Nat->Option Am)(n:Nat)(K:Ah):r a h n K=VP ar pre re (Ew h a) K (Ce h a):=by rw[e];rfl
end Go.Ae
namespace Go.Ae
open Go.Proofs
def vK{A B:Type}(k:AK A)(r:RK B)(pre:A->Prop)(f:A->B):AF:=EX k.r pre λa=>r.e (f a)
def CH{A B:Type}(k:AK A)(r:RK B)(pre:A->Prop)(f:A->B):AF:=R1 k.r pre λa=>r.e (f a)
section
variable {A B:Type}{R:AF}{k:AK A}{r:RK B}{pre:A->Prop}{f:A->B}
def Bd(e:R=vK k r pre f)(a:List AV)(h:Nat->Option Am)(n:Nat)(K:Ah):R a h n K=W3 k.r pre (λa=>r.e (f a)) (Au a) K (IT h a):=by rw[e];rfl
def C9(e:R=CH k r pre f)(a:List AV)(h:Nat->Option Am)(n:Nat)(K:Ah):R a h n K=VP k.r pre (λa=>r.e (f a)) (Ew h a) K (Ce h a):=by rw[e];rfl
variable {V:Dn}(hV:KJ Tryz.prog V){g:FuncId}{fn:Func}{c:Code}(hf:Tryz.prog.funcs[g]? =some fn)
include hV hf
def vw(Q: ∀a,pre a->Di Tryz.prog V c (PJ Tryz.prog fn.results.toList (BV (k.e a)) [] Lg (CY 0 (k.e a)) (Ng r.c (f a))) ⟨entry 0 (Da 0 (k.e a)),CY 0 (k.e a),BV (k.e a)⟩)(O:fn.body=some c:=by rfl)(z:(Eu fn.ntmps c && (GS Tryz.prog g && Nat.ble k.n fn.ntmps))=true:=by kernel_rfl):HC Tryz.prog g (vK k r pre f):=by
 simp only[AY] at z;exact kZ Fw hV hf O z.1 z.2.1 k.l k.w (mO z.2.2) r.l Q
def FR(Q: ∀a,pre a->Di Tryz.prog V c (aX Tryz.prog fn.results.toList (AT r.c (f a))) ⟨entry 0 (Da 0 (k.e a)),CY 0 (k.e a),BV (k.e a)⟩)(O:fn.body=some c:=by rfl)(z:(Eu fn.ntmps c && (GS Tryz.prog g && Nat.ble k.n fn.ntmps))=true:=by kernel_rfl):HC Tryz.prog g (CH k r pre f):=by
 simp only[AY] at z;exact Qbn Fw hV hf O z.1 z.2.1 k.l k.w (mO z.2.2) r.l Q
end
section
variable {V:Dn}(hV:KJ Tryz.prog V){g:FuncId}{fn:Func}{c:Code}(hf:Tryz.prog.funcs[g]? =some fn)
 {A:Type}{ca:A->List AV}{H0 H1:A->An}{k cnt:Nat}{pre:A->Prop}{klB exB:Nat->Bool}{r0:A->AV}{R:A->AV->Prop}
 (hn: ∀a,Nat.ble (ca a).length fn.ntmps=true)(hq: ∀a,AA k (ca a)=true/\Aw k (H0 a)=true/\B6 k (H0 a)=true/\BT (H0 a) (H0 a))
 (hH1: ∀a,∀p∈H1 a,(p.1<k/\klB p.1=true/\Aj (H0 a) p.1=true)\/(k<=p.1/\p.1<k+cnt/\exB p.1=true/\p.2.1=true))
 (hR: ∀a r,R a r->CN r (r0 a))
include hV hf hn hq hH1 hR
def ow(hk: ∀a,pre a->Di Tryz.prog V c (Oh Tryz.prog fn.results.toList k cnt (H0 a) (H1 a) klB exB (R a)) ⟨entry 0 (ca a),H0 a,k⟩)(hb:fn.body=some c:=by rfl)(Z:(Eu fn.ntmps c && GS Tryz.prog g)=true:=by kernel_rfl):HC Tryz.prog g (AD ca H0 k pre klB r0 H1 cnt):=by
 simp only[AY] at Z;rintro args h nx K ⟨a,τ,U,KL,Q,rfl,z,O,hK⟩;refine⟨aA Z.2,_,_,?_,hK⟩;exact xG Fw hV hf hb Z.1 (mO (hn a)) (hq a).1 (hq a).2.1 (hq a).2.2.1 (λj e he=>Qo2 (hq a).2.2.2 j e (fG he)) (hR a) (hH1 a) UE (λ_ _ h=>h) (hk a Q) O.inj O.lt
  (λj e he=>Qpk z j e (fG he)) O.u O.k1 O.k2
def P6(hk: ∀a,pre a->Di Tryz.prog V c (Bs Tryz.prog fn.results.toList k cnt (H0 a) (H1 a) klB exB (R a)) ⟨entry 0 (ca a),H0 a,k⟩)(hb:fn.body=some c:=by rfl)(Z:(Eu fn.ntmps c && GS Tryz.prog g)=true:=by kernel_rfl):HC Tryz.prog g (AD ca H0 k pre klB r0 H1 cnt):=by
 simp only[AY] at Z;rintro args h nx K ⟨a,τ,U,KL,Q,rfl,z,O,hK⟩;refine⟨aA Z.2,_,_,?_,hK⟩;exact xG Fw hV hf hb Z.1 (mO (hn a)) (hq a).1 (hq a).2.1 (hq a).2.2.1 (λj e he=>Qo2 (hq a).2.2.2 j e (fG he)) (hR a) (hH1 a) UF (λ_ _ h=>h) (hk a Q) O.inj O.lt
  (λj e he=>Qpk z j e (fG he)) O.u O.k1 O.k2
end
abbrev AL:=HC Tryz.prog
def Bz(n lo z:Int):Bool:=decide (lo<=n) && decide (n<=z)
def within_.fv(a:Int×Int×Int):Bool:=(Bz) (a.1) (a.2.1) (a.2.2)
def within_.row:AF:=vK (b3 qI qI qI) rB (λa=>True) within_.fv
def within_.q:=Bd (R:=within_.row) rfl
def within_.ok:AL 76 within_.row:=by
 refine vw tN Tryz.func76 ?_;intro a z;simp only[Tryz.f76,Option.getD];simp only[ZZ,simprocAttr,Ab,within_.fv];simp only[Bz];grind
def l00In.fv(a:Int×Int×Int):Bool:=(Bz) (a.1) (a.2.1) (a.2.2)
def l00In.row:AF:=vK (b3 qI qI qI) rB (λa=>True) l00In.fv
def l00In.q:=Bd (R:=l00In.row) rfl
def l00In.ok:AL 33 l00In.row:=by
 refine vw tN Tryz.func33 ?_;intro a z;simp only[Tryz.f33,Option.getD];simp only[ZZ,simprocAttr,Ab,l00In.fv];simp only[Bz];grind
def I64(n:Int):Prop:= -9223372036854775808<=n/\n<=9223372036854775807
def isIndex.fv(a:Int×Int):Bool:=Bz a.1 0 (a.2 - 1)
def isIndex.row:AF:=vK (b2 qI qI) rB (λa=>0<=a.2/\I64 a.2) isIndex.fv
def isIndex.q:=Bd (R:=isIndex.row) rfl
def isIndex.ok:AL 117 isIndex.row:=by
 refine vw (tC within_.ok tN) Tryz.func117 ?_;intro a z;simp only[Tryz.f117,Option.getD];simp only[ZZ,simprocAttr,Ab,isIndex.fv,within_.q,within_.fv];obtain⟨O,Q,Z⟩:=z;rw[AG (by omega) (by omega)]
def Ic(p:AC):Bool:=Bz p.X (-60) 60 && Bz p.Y (-60) 60
def ValidPoint.fv(a:AC):Bool:=(Ic) a
def ValidPoint.row:AF:=vK (b1 (qR AC.d_le)) rB (λa=>True) ValidPoint.fv
def ValidPoint.q:=Bd (R:=ValidPoint.row) rfl
def ValidPoint.ok:AL 116 ValidPoint.row:=by
 refine vw (tC within_.ok tN) Tryz.func116 ?_;intro a z;simp only[Tryz.f116,Option.getD];simp only[ZZ,simprocAttr,Ab,ValidPoint.fv,within_.q,within_.fv];simp only[Ic];grind
def l01Point.fv(a:AC):Bool:=(Ic) a
def l01Point.row:AF:=vK (b1 (qR AC.d_le)) rB (λa=>True) l01Point.fv
def l01Point.q:=Bd (R:=l01Point.row) rfl
def l01Point.ok:AL 66 l01Point.row:=by
 refine vw (tC l00In.ok tN) Tryz.func66 ?_;intro a z;simp only[Tryz.f66,Option.getD];simp only[ZZ,simprocAttr,Ab,l01Point.fv,l00In.q,l00In.fv];simp only[Ic];grind
def isNaN.fv(a:Int):Bool:=false && a==0
def isNaN.row:AF:=vK (b1 qI) rB (λa=>True) isNaN.fv
def isNaN.q:=Bd (R:=isNaN.row) rfl
def isNaN.ok:AL 174 isNaN.row:=by
 refine vw tN Tryz.func174 ?_;intro a z;simp only[Tryz.f174,Option.getD];simp only[ZZ,simprocAttr,Ab,isNaN.fv]
 try simp
def FB(a b:Int):Int:=if a<b then -1 else if b<a then 1 else 0
def Compare.fv(a:Int×Int):Int:=(FB) (a.1) (a.2)
def Compare.row:AF:=vK (b2 qI qI) rI (λa=>True) Compare.fv
def Compare.q:=Bd (R:=Compare.row) rfl
def Compare.ok:AL 143 Compare.row:=by
 refine vw (tC isNaN.ok tN) Tryz.func143 ?_;intro a z;simp only[Tryz.f143,Option.getD];simp only[ZZ,simprocAttr,Ab,Compare.fv,isNaN.q,isNaN.fv];simp only[FB];grind
def Co(a b:AC):Bool:=decide (a.Y<b.Y)||(decide (a.Y=b.Y) && decide (a.X<b.X))
def l_LessPoint.fv(a:AC×AC):Bool:=(Co) (a.1) (a.2)
def l_LessPoint.row:AF:=vK (b2 (qR AC.d_le) (qR AC.d_le)) rB (λa=>True) l_LessPoint.fv
def l_LessPoint.q:=Bd (R:=l_LessPoint.row) rfl
def l_LessPoint.ok:AL 106 l_LessPoint.row:=by
 refine vw tN Tryz.func106 ?_;intro a z;simp only[Tryz.f106,Option.getD];simp only[ZZ,simprocAttr,Ab,l_LessPoint.fv];simp only[Co]
 grind
def Fq(a b:Int):Int:=if a<b then a else b
def EC(a b:Int):Int:=if b<a then a else b
def l00Min.fv(a:Int×Int):Int:=(Fq) (a.1) (a.2)
def l00Min.row:AF:=vK (b2 qI qI) rI (λa=>True) l00Min.fv
def l00Min.q:=Bd (R:=l00Min.row) rfl
def l00Min.ok:AL 126 l00Min.row:=by
 refine vw tN Tryz.func126 ?_;intro a z;simp only[Tryz.f126,Option.getD];simp only[ZZ,simprocAttr,Ab,l00Min.fv];simp only[Fq];grind
def l00Max.fv(a:Int×Int):Int:=(EC) (a.1) (a.2)
def l00Max.row:AF:=vK (b2 qI qI) rI (λa=>True) l00Max.fv
def l00Max.q:=Bd (R:=l00Max.row) rfl
def l00Max.ok:AL 127 l00Max.row:=by
 refine vw tN Tryz.func127 ?_;intro a z;simp only[Tryz.f127,Option.getD];simp only[ZZ,simprocAttr,Ab,l00Max.fv];simp only[EC];grind
def tD(c:Int):Bool:=Bz c 97 122||Bz c 65 90
def Qtq(c:Int):Bool:=Bz c 48 57
def l01Letter.fv(a:Int):Bool:=(tD) a
def l01Letter.row:AF:=vK (b1 qY) rB (λa=>True) l01Letter.fv
def l01Letter.q:=Bd (R:=l01Letter.row) rfl
def l01Letter.ok:AL 123 l01Letter.row:=by
 refine vw tN Tryz.func123 ?_;intro a z;simp only[Tryz.f123,Option.getD];simp only[ZZ,simprocAttr,Ab,l01Letter.fv];simp only[tD,Bz];grind
def l01Digit.fv(a:Int):Bool:=(Qtq) a
def l01Digit.row:AF:=vK (b1 qY) rB (λa=>True) l01Digit.fv
def l01Digit.q:=Bd (R:=l01Digit.row) rfl
def l01Digit.ok:AL 124 l01Digit.row:=by
 refine vw tN Tryz.func124 ?_;intro a z;simp only[Tryz.f124,Option.getD];simp only[ZZ,simprocAttr,Ab,l01Digit.fv];simp only[Qtq,Bz];grind
def vW(a b:AC):AC:=⟨a.X+b.X,a.Y+b.Y⟩
def Ry(p:AC):Prop:= -1000000000<=p.X/\p.X<=1000000000/\ -1000000000<=p.Y/\p.Y<=1000000000
def plus.fv(a:AC×AC):AC:=(vW) (a.1) (a.2)
def plus.row:AF:=vK (b2 (qR AC.d_le) (qR AC.d_le)) (rA AC.d_le) (λa=>Ry a.1/\Ry a.2) plus.fv
def plus.q:=Bd (R:=plus.row) rfl
def plus.ok:AL 199 plus.row:=by
 refine vw tN Tryz.func199 ?_;intro a z;simp only[Tryz.f199,Option.getD];simp only[ZZ,simprocAttr,Ab,plus.fv];obtain⟨⟨O,Q,Z,h4⟩,h5,h6,h7,h8⟩:=z;rw[AG (by omega) (by omega),AG (by omega) (by omega)];rfl
def VU(p:AC)(d:Int):AC:=if d=0 then ⟨p.X,p.Y+1⟩ else if d=1 then ⟨p.X+1,p.Y⟩ else if d=2 then ⟨p.X,p.Y - 1⟩ else ⟨p.X - 1,p.Y⟩
def step_.rc:D->Option (AC):=Fv AC.d
def step_.re:AC->D:=λb=>D.agg (AC.c b)
def step_.rle: ∀d b,step_.rc d=some b->Le d (step_.re b):=NP AC.d_le
def step_.ar:List PK->Option (AC×Int):=a2 (kR AC.d) kI
def step_.fv(a:AC×Int):AC:=(VU) (a.1) (a.2)
def step_.row:AF:=vK (b2 (qR AC.d_le) qI) (RK.mk step_.rc step_.re step_.rle) (λa=>Ry a.1/\0<=a.2/\a.2<=3) step_.fv
def step_.q:=Bd (R:=step_.row) rfl
def step_.ok:AL 184 step_.row:=by
 refine vw (tC plus.ok tN) Tryz.func184 ?_;intro a z;simp only[Tryz.f184,Option.getD];obtain⟨p,d⟩:=a;obtain⟨hp,O,Q⟩:=z;simp only at O Q hp;rcases (by omega:d=0\/d=1\/d=2\/d=3) with rfl|rfl|rfl|rfl
 all_goals
  simp only[ZZ,simprocAttr,Ab,step_.fv,step_.rc,plus.q,plus.fv];obtain⟨Z,h4,h5,h6⟩:=hp;refine⟨⟨⟨Z,h4,h5,h6⟩,by simp[Ry]⟩,?_⟩;simp[VU,vW]<;>omega
def l01Step.fv(a:AC×Int):AC:=(VU) (a.1) (a.2)
def l01Step.row:AF:=vK (b2 (qR AC.d_le) qI) (rA AC.d_le) (λa=>Ry a.1/\0<=a.2/\a.2<=3) l01Step.fv
def l01Step.q:=Bd (R:=l01Step.row) rfl
def l01Step.ok:AL 146 l01Step.row:=by
 refine vw tN Tryz.func146 ?_;intro a z;simp only[Tryz.f146,Option.getD];simp only[ZZ,simprocAttr,Ab,l01Step.fv];obtain⟨⟨O,Q,Z,h4⟩,h5,h6⟩:=z;rw[AG (by omega) (by omega),AG (by omega) (by omega),AG (by omega) (by omega),AG (by omega) (by omega)];simp only[VU]
 grind
def Q8:List Int->Int
 |[]=>0
 |x::r=>if x=0 then Q8 r else x
def Or.fv(a:(List Int)):Int:=(Q8) a
def Or.row:AF:=vK (b1 (qS F3 DU)) rI (λa=>True) Or.fv
def Or.q:=Bd (R:=Or.row) rfl
def Or.ok:AL 142 Or.row:=by
 refine vw tN Tryz.func142 ?_;intro a aa;simp only[Tryz.f142,Option.getD];simp(disch:=omega)only[ZZ,simprocAttr,Ab,Or.fv];intro Z;refine Ba.old ⟨{k:Nat//k<=a.length/\Q8 (a.drop k)=Q8 a},λk=>⟨[(8,.im (.int .i64 k.1)),(7,.im (.int .i64 a.length)),(6,.im (.sl false 1 (a.map Ak))),(3,.im (.int .i64 0)),(2,.im (.int .i64 0))],[],0⟩,λk=>a.length - k.1,λk=>⟨by simp[ZG],AU _⟩,⟨⟨0,by simp⟩,by simp(disch:=omega)only[ZZ,simprocAttr,Ab,Or.fv,sub]⟩,λk=> ?_⟩;obtain⟨k,ab,z⟩:=k;simp(disch:=omega)only[ZZ,simprocAttr,Ab,Or.fv,sub];simp only[AP];refine⟨λO=>⟨O,λx hx=> ?_⟩,λO=> ?_⟩
 .have Q:a.drop k=x::a.drop (k+1):=by
   rw[Wi O];rw[BA O] at hx;rw[AJ hx]
  rw[Q,Q8] at z;refine⟨λh=>by grind,λh=>⟨⟨k+1,by omega,by grind⟩,by simp only;omega,?_⟩⟩;simp (disch:=omega) only[AG];simp
 .have Q:a.drop k=[]:=DY (by omega);rw[Q] at z;exact z
def comparePoints.fv(a:AC×AC):Int:=(λa b=>Q8 [FB a.Y b.Y,FB a.X b.X]) (a.1) (a.2)
def comparePoints.row:AF:=vK (b2 (qR AC.d_le) (qR AC.d_le)) rI (λa=>True) comparePoints.fv
def comparePoints.q:=Bd (R:=comparePoints.row) rfl
def comparePoints.ok:AL 115 comparePoints.row:=by
 refine vw (tC Compare.ok (tC Or.ok tN)) Tryz.func115 ?_;intro a z;simp only[Tryz.f115,Option.getD];simp only[ZZ,simprocAttr,Ab,comparePoints.fv,Compare.q,Compare.fv,Or.q,Or.fv]
def impl_LessPoint.fv(a:AC×AC):Bool:=(Co) (a.1) (a.2)
def impl_LessPoint.row:AF:=vK (b2 (qR AC.d_le) (qR AC.d_le)) rB (λa=>True) impl_LessPoint.fv
def impl_LessPoint.q:=Bd (R:=impl_LessPoint.row) rfl
def impl_LessPoint.ok:AL 118 impl_LessPoint.row:=by
 refine vw (tC comparePoints.ok tN) Tryz.func118 ?_;intro a z;simp only[Tryz.f118,Option.getD];simp only[ZZ,simprocAttr,Ab,impl_LessPoint.fv,comparePoints.q,comparePoints.fv];simp only[Co,Q8,FB]
 grind
def O0(i:Nat)(c:Int):Bool:=tD c||(decide (i≠0) && (Qtq c||decide (c=95)))
def Ib:Nat->List UInt8->Bool
 |_,[]=>true
 |i,c::r=>O0 i c.toNat && Ib (i+1) r
def oY{a:ByteArray}{k:Nat}{c:UInt8}(O:a.data[k]? =some c):a.data.toList.drop k=c::a.data.toList.drop (k+1):=by
 have h0:a.data.toList[k]? =some c:=by simpa using O
 have z:k<a.data.toList.length:=(C6.1 h0).1;rw[Wi z];rw[BA z] at h0;rw[AJ h0]
def Sh{a:ByteArray}{k:Nat}(h: ¬k<a.size):a.data.toList.drop k=[]:=DY (by simpa using h)
def Jj(s:ByteArray):Bool:=Ib 0 s.data.toList && (decide (1<=s.size) && decide (s.size<=12))
def impl_IsName.fv(a:ByteArray):Bool:=(Jj) a
def impl_IsName.row:AF:=vK (b1 qT) rB (λa=>a.size<=140737488355328) impl_IsName.fv
def impl_IsName.q:=Bd (R:=impl_IsName.row) rfl
def impl_IsName.ok:AL 152 impl_IsName.row:=by
 refine vw tN Tryz.func152 ?_;intro a aa;simp only[Tryz.f152,Option.getD];simp only[ZZ,simprocAttr,Ab,impl_IsName.fv];refine Ba.old ⟨{k:Nat//k<=a.size/\Ib k (a.data.toList.drop k)=Ib 0 a.data.toList},λk=>⟨[(8,.im (.int .i64 k.1)),(7,.im (.int .i64 a.size)),(6,.im (.str a)),(0,.im (.str a)),(2,.im (.bool false))],[],0⟩,λk=>a.size - k.1,λk=>⟨by simp[ZG],AU _⟩,⟨⟨0,by simp⟩,by simp only[ZZ,simprocAttr,Ab,impl_IsName.fv,sub]⟩,λk=> ?_⟩;obtain⟨k,ab,z⟩:=k;simp only[ZA,simprocAttr,AB.d,Ab,impl_IsName.fv,sub]
 split<;>rename_i Z
 .refine⟨Z,?_⟩;intro c hc;have hd:a.data.toList.drop k=c::a.data.toList.drop (k+1):=by
   have hl:k<a.data.toList.length:=by simpa using Z
   rw[Wi hl]
   have:a.data.toList[k]? =some c:=by simpa using hc
   rw[BA hl] at this;rw[AJ this]
  rw[hd,Ib] at z;by_cases e1:(97:Int)<=c.toNat<;>by_cases e2:(c.toNat:Int)<=122<;>(try (exfalso;omega))<;>by_cases e3:(65:Int)<=c.toNat<;>(try (exfalso;omega))<;>by_cases e4:(c.toNat:Int)<=90<;>(try (exfalso;omega))<;>
   by_cases e5:(c.toNat:Int)<48<;>(try (exfalso;omega))<;>by_cases e6:(57:Int)<c.toNat<;>(try (exfalso;omega))<;>by_cases e7:(c.toNat:Int)=95<;>(try (exfalso;omega))<;>by_cases e8:(k:Int)=0
  all_goals
   have e9:(48:Int)<=c.toNat↔ ¬(c.toNat:Int)<48:=by omega
   have O:(c.toNat:Int)<=57↔ ¬(57:Int)<c.toNat:=by omega
   have Q:k=0↔(k:Int)=0:=by omega
   have hb:O0 k c.toNat=O0 k c.toNat:=rfl
   conv at hb=>
    rhs
    simp only[O0,tD,Qtq,Bz,e1,e2,e3,e4,e5,e6,e7,e8,e9,O,Q,ne_eq,RJ,Zfc,Et,bI,bJ,OJ,mT,vP,EL,Gu,not_true_eq_false,ZdW]
   rw[hb] at z;simp only[ZZ,simprocAttr,Ab,impl_IsName.fv,sub,e1,e2,e3,e4,e5,e6,e7,e8]
   first
    |(simp only[Gu] at z
      simp only[Jj,<-z,Gu])
    |(simp only[EL] at z
      refine⟨⟨k+1,by omega,z⟩,by simp only;omega,?_⟩;rw[AG (by omega) (by omega)];simp only
      omega)
    |(have h9:Ib 0 a.data.toList=false:=by rw[<-z];simp
      simp[Jj,h9])
 .have:a.data.toList.drop k=[]:=DY (by simpa using Z)
  rw[this,Ib] at z;simp only[Jj]
  grind
def spec_IsName.fv(a:ByteArray):Bool:=(Jj) a
def spec_IsName.row:AF:=vK (b1 qT) rB (λa=>True) spec_IsName.fv
def spec_IsName.q:=Bd (R:=spec_IsName.row) rfl
def mL:=J @spec_IsName.fv.eq_1<|J @l01Letter.q<|J @l01Letter.fv.eq_1<|J @l01Digit.q @l01Digit.fv.eq_1
def spec_IsName.ok:AL 98 spec_IsName.row:=by
 refine vw (tC l01Letter.ok (tC l01Digit.ok tN)) Tryz.func98 ?_;intro a ad;simp only[Tryz.f98,Option.getD];simp only[ZA,simprocAttr,AB.d,Ab,mL,AP];refine⟨λh1=>⟨λh2=>⟨by omega,?_⟩,λh2=> ?_⟩,λh1=> ?_⟩
 .intro c hc;have hd:=oY hc;rw[GJ] at hd;cases hL:tD c.toNat
  .simp only[ZZ,simprocAttr,Ab,mL,hL];have h9:Ib 0 a.data.toList=false:=by rw[hd];simp[Ib,O0,hL]
   simp[Jj,h9]
  .simp only[ZZ,simprocAttr,Ab,mL,hL];refine Ba.old ⟨{k:Nat//1<=k/\k<=a.size/\Ib k (a.data.toList.drop k)=Ib 0 a.data.toList},λk=>⟨[(3,.im (.int .i64 k.1)),(0,.im (.str a)),(2,.im (.bool false))],[],0⟩,λk=>a.size - k.1,λk=>⟨by simp[ZG],AU _⟩,⟨⟨1,by omega,by omega,?_⟩,by simp only[ZZ,simprocAttr,Ab,mL,sub]⟩,λk=> ?_⟩
   .conv=>rhs;rw[hd]
    simp[Ib,O0,hL]
   .obtain⟨k,af,ag,z⟩:=k;simp only[ZA,simprocAttr,AB.d,Ab,mL,sub,AP];refine⟨λhk=>⟨hk,λc2 Z=> ?_⟩,λhk=> ?_⟩
    .rw[oY Z,Ib] at z;simp only[ZZ,simprocAttr,Ab,mL,sub,AP];have ac:O0 k c2.toNat=true->Ib (k+1) (a.data.toList.drop (k+1))=Ib 0 a.data.toList:=by
      intro h;rw[h] at z;simpa using z
     have ab:O0 k c2.toNat=false->false=Jj a:=by
      intro h;rw[h] at z;have h9:Ib 0 a.data.toList=false:=by rw[<-z];simp
      simp[Jj,h9]
     have Q:O0 k c2.toNat=true-> ∃b':{k:Nat//1<=k/\k<=a.size/\Ib k (a.data.toList.drop k)=Ib 0 a.data.toList},a.size - b'.val<a.size - k/\IntKind.wrap .i64 ((k:Int)+1)=b'.val:=by
      intro h;refine⟨⟨k+1,by omega,by omega,ac h⟩,by simp only;omega,?_⟩;rw[AG (by omega) (by omega)];simp only;omega
     have aa:k≠0:=by omega
     refine⟨λl=>⟨hk,λc3 O=> ?_⟩,λl=> ?_⟩
     .rw[Z] at O;obtain rfl:=AJ O;refine⟨λl2=>⟨hk,λc3 O=> ?_⟩,λl2=> ?_⟩
      .rw[Z] at O;obtain rfl:=AJ O;refine⟨λl3=>ab ?_,λl3=>Q ?_⟩
       .simp[O0,l,l2,l3]
       .simp only[GK] at l3;simp[O0,l3,aa]
      .refine Q ?_;simp only[KR] at l2;simp[O0,l2,aa]
     .refine Q ?_;simp only[KR] at l;simp[O0,l]
    .rw[Sh hk,Ib] at z;simp only[Jj]
     grind
 .simp only[Jj];grind
 .simp only[Jj];grind
def fS{A:Type}{B:Type}(f:A->B)(z:B)(a:List A)(k:Nat)(x:A)(O:a[k]? =some x):
 ((a.take k).map f++List.replicate (a.length - k) z).set k (f x)=(a.take (k+1)).map f++List.replicate (a.length - (k+1)) z:=by
 have hk:k<a.length:=(C6.1 O).1;have Q:a.take (k+1)=a.take k++[x]:=by
  rw[Jq,O];rfl
 have Z:a.length - k=(a.length - (k+1))+1:=by omega
 rw[Q,Z,Zep,DX,Ka,vI _ _ (by simp;omega)];have h3:k - (List.map f (List.take k a)).length=0:=by simp;omega
 rw[h3];rfl
def fN{A:Type}{B:Type}(f:A->B)(z:B)(a:List A)(k:Nat)(x:A)(Q:a[k]? =some x):
 ((a.take k).map f++List.replicate (a.length - k) z)[k]? =some z:=by
 have Z:k<a.length:=(C6.1 Q).1;rw[Kc (by simp;omega)];have O:k - (List.map f (List.take k a)).length=0:=by simp;omega
 rw[O,LP,Ai (by omega)]
def fQ{A:Type}{B:Type}(f:A->B)(z:B)(a:List A)(k:Nat)(O:k<=a.length):((a.take k).map f++List.replicate (a.length - k) z).length=a.length:=by
 simp;omega
def fR{A:Type}{B:Type}(f:A->B)(z:B)(a:List A)(k:Nat)(O:a.length<=k):(a.take k).map f++List.replicate (a.length - k) z=a.map f:=by
 rw[F9 O,show a.length - k=0 by omega];simp
def toPoint.fv(a:AC):AC:=(λp=>p) a
def toPoint.row:AF:=vK (b1 (qR AC.d_le)) (rA AC.d_le) (λa=>True) toPoint.fv
def toPoint.q:=Bd (R:=toPoint.row) rfl
def toPoint.ok:AL 109 toPoint.row:=by
 refine vw tN Tryz.func109 ?_;intro a z;simp only[Tryz.f109,Option.getD];simp only[ZZ,simprocAttr,Ab,toPoint.fv]
def toPlaced.fv(a:Al):Al:=(λp=>p) a
def toPlaced.row:AF:=vK (b1 (qR Al.d_le)) (rA Al.d_le) (λa=>True) toPlaced.fv
def toPlaced.q:=Bd (R:=toPlaced.row) rfl
def toPlaced.ok:AL 74 toPlaced.row:=by
 refine vw (tC toPoint.ok tN) Tryz.func74 ?_;intro a z;simp only[Tryz.f74,Option.getD];simp only[ZZ,simprocAttr,Ab,toPlaced.fv,toPoint.q,toPoint.fv]
def toGlue.fv(a:Ad):Ad:=(λp=>p) a
def toGlue.row:AF:=vK (b1 (qR Ad.d_le)) (rA Ad.d_le) (λa=>True) toGlue.fv
def toGlue.q:=Bd (R:=toGlue.row) rfl
def toGlue.ok:AL 72 toGlue.row:=by
 refine vw tN Tryz.func72 ?_;intro a z;simp only[Tryz.f72,Option.getD];simp only[ZZ,simprocAttr,Ab,toGlue.fv]
def toInt64S.fv(a:(List Int)):List Int:=(λp=>p) a
def toInt64S.row:AF:=vK (b1 (qS F3 DU)) (rS F3 DU) (λa=>a.length<=1073741824) toInt64S.fv
def toInt64S.q:=Bd (R:=toInt64S.row) rfl
def toInt64S.ok:AL 108 toInt64S.row:=by
 refine vw tN Tryz.func108 ?_;intro a Z;simp only[Tryz.f108,Option.getD];simp only[ZZ,simprocAttr,Ab,toInt64S.fv];intro Q;refine⟨by omega,?_⟩;refine Ba.old ⟨{k:Nat//k<=a.length},λk=>⟨[(4,.im (.int .i64 k.1)),(3,.own 1),(0,.im (.sl false 1 (a.map Ak)))],[(1,(true,.arr 2 1 ((a.take k.1).map Ak++List.replicate (a.length - k.1) [.int .i64 0])))],2⟩,λk=>a.length - k.1,λk=>⟨by simp[ZG],AU _⟩,⟨⟨0,by omega⟩,by simp only[ZZ,simprocAttr,Ab,toInt64S.fv,sub];simp⟩,λk=> ?_⟩;obtain⟨k,O⟩:=k;simp only[ZZ,simprocAttr,Ab,toInt64S.fv,sub,AP,fQ _ _ a k O];intro _;refine⟨λz=>⟨z,λx hx=>⟨z,z,LK (fN Ak [.int .i64 0] a k x hx) ?_⟩⟩,λz=> ?_⟩
 .simp only[ZZ,simprocAttr,Ab,toInt64S.fv,sub];refine⟨⟨k+1,by omega⟩,by simp only;omega,?_,?_⟩
  .rw[AG (by omega) (by omega)];simp only;omega
  .exact fS Ak [.int .i64 0] a k x hx
 .rw[fR Ak _ a k (by omega)];simp[fU]
def eqPoint.fv(a:AC×AC):Bool:=(λa b=>decide (a=b)) (a.1) (a.2)
def eqPoint.row:AF:=vK (b2 (qR AC.d_le) (qR AC.d_le)) rB (λa=>True) eqPoint.fv
def eqPoint.q:=Bd (R:=eqPoint.row) rfl
def eqPoint.ok:AL 122 eqPoint.row:=by
 refine vw tN Tryz.func122 ?_;intro a O;simp only[Tryz.f122,Option.getD];simp only[ZZ,simprocAttr,Ab,eqPoint.fv];obtain⟨⟨x,y⟩,⟨z,w⟩⟩:=a;simp only[AC.mk.injEq]
 grind
def eqPlaced.fv(a:Al×Al):Bool:=(λa b=>decide (a=b)) (a.1) (a.2)
def eqPlaced.row:AF:=vK (b2 (qR Al.d_le) (qR Al.d_le)) rB (λa=>True) eqPlaced.fv
def eqPlaced.q:=Bd (R:=eqPlaced.row) rfl
def eqPlaced.ok:AL 92 eqPlaced.row:=by
 refine vw (tC eqPoint.ok tN) Tryz.func92 ?_;intro a O;simp only[Tryz.f92,Option.getD];simp only[ZZ,simprocAttr,Ab,eqPlaced.fv,eqPoint.q,eqPoint.fv];obtain⟨⟨⟨x,y⟩,u⟩,⟨⟨z,w⟩,v⟩⟩:=a;simp only[Al.mk.injEq,AC.mk.injEq]
 grind
def eqGlue.fv(a:Ad×Ad):Bool:=(λa b=>decide (a=b)) (a.1) (a.2)
def eqGlue.row:AF:=vK (b2 (qR Ad.d_le) (qR Ad.d_le)) rB (λa=>True) eqGlue.fv
def eqGlue.q:=Bd (R:=eqGlue.row) rfl
def eqGlue.ok:AL 90 eqGlue.row:=by
 refine vw tN Tryz.func90 ?_;intro a O;simp only[Tryz.f90,Option.getD];simp only[ZZ,simprocAttr,Ab,eqGlue.fv];obtain⟨⟨x,y⟩,⟨z,w⟩⟩:=a;simp only[Ad.mk.injEq]
 grind
def rN{A:Type}[DecidableEq A]{a b:List A}(hl:a.length=b.length){k:Nat}(hk:k<=a.length)(h:a.take k=b.take k){x y:A}(Z:a[k]? =some x)(Q:b[k]? =some y):
 (x=y->a.take (k+1)=b.take (k+1))/\(x≠y->a≠b):=by
 refine⟨λz=> ?_,λz O=> ?_⟩
 .rw[Jq,Jq,h,Z,Q,z]
 .subst O;rw[Z] at Q;exact z (AJ Q)
def eqInt64S.fv(a:(List Int)×(List Int)):Bool:=(λa b=>decide (a=b)) (a.1) (a.2)
def eqInt64S.row:AF:=vK (b2 (qS F3 DU) (qS F3 DU)) rB (λa=>True) eqInt64S.fv
def eqInt64S.q:=Bd (R:=eqInt64S.row) rfl
def eqInt64S.ok:AL 21 eqInt64S.row:=by
 refine vw tN Tryz.func21 ?_;intro a aa;simp only[Tryz.f21,Option.getD];simp only[ZZ,simprocAttr,Ab,eqInt64S.fv];intro h1 h2;simp only[AP];refine⟨λO=> ?_,λO=> ?_⟩
 .have:a.1≠a.2:=λh=>O (by rw[h])
  simp[this]
 have O:a.1.length=a.2.length:=by omega
 refine Ba.old ⟨{k:Nat//k<=a.1.length/\a.1.take k=a.2.take k},λk=>⟨[(5,.im (.int .i64 k.1)),(4,.im (.bool false)),(0,.im (.sl false 1 (a.1.map Ak))),(1,.im (.sl false 1 (a.2.map Ak)))],[],0⟩,λk=>a.1.length - k.1,λk=>⟨by simp[ZG],AU _⟩,⟨⟨0,by simp⟩,by simp only[ZZ,simprocAttr,Ab,eqInt64S.fv,sub]⟩,λk=> ?_⟩;obtain⟨k,Z,z⟩:=k;simp only[ZZ,simprocAttr,Ab,eqInt64S.fv,sub,AP];intro _;refine⟨λQ=>⟨Q,λx hx=>⟨by omega,λy hy=> ?_⟩⟩,λQ=> ?_⟩
 .obtain⟨g1,g2⟩:=rN O Z z hx hy;exact⟨λh=>by simp[g2 h],λh=>Je Q h1 ⟨by omega,g1 (by simpa using h)⟩⟩
 .rw[F9 (by omega),F9 (by omega)] at z;simp[z]
def C8(n:Int)(left:Int):Int:=if left - n<0 then -1 else left - n
def szInt64S.fv(a:(List Int)×Int):Int:=(λa l=>C8 a.length l) (a.1) (a.2)
def szInt64S.row:AF:=vK (b2 (qS F3 DU) qI) rI (λa=> -1<=a.2/\a.2<=1048576) szInt64S.fv
def szInt64S.q:=Bd (R:=szInt64S.row) rfl
def szInt64S.ok:AL 97 szInt64S.row:=by
 refine vw tN Tryz.func97 ?_;intro a z;simp only[Tryz.f97,Option.getD];simp only[ZZ,simprocAttr,Ab,szInt64S.fv];intro h;rw[AG (by omega) (by omega)];simp only[C8];grind
def szPlacedS.fv(a:(List Al)×Int):Int:=(λa l=>C8 a.length l) (a.1) (a.2)
def szPlacedS.row:AF:=vK (b2 (qS Al.d_le Al.c_n) qI) rI (λa=> -1<=a.2/\a.2<=1048576) szPlacedS.fv
def szPlacedS.q:=Bd (R:=szPlacedS.row) rfl
def szPlacedS.ok:AL 31 szPlacedS.row:=by
 refine vw tN Tryz.func31 ?_;intro a z;simp only[Tryz.f31,Option.getD];simp only[ZZ,simprocAttr,Ab,szPlacedS.fv];intro h;rw[AG (by omega) (by omega)];simp only[C8];grind
def JP(a:AB)(l:Int):Int:=C8 a.Tiles.length l
def szAssembly.fv(a:AB×Int):Int:=(JP) (a.1) (a.2)
def szAssembly.row:AF:=vK (b2 (qR AB.d_le) qI) rI (λa=> -1<=a.2/\a.2<=1048576) szAssembly.fv
def szAssembly.q:=Bd (R:=szAssembly.row) rfl
def szAssembly.ok:AL 14 szAssembly.row:=by
 refine vw (tC szPlacedS.ok tN) Tryz.func14 ?_;intro a z;simp only[Tryz.f14,Option.getD];simp only[ZZ,simprocAttr,Ab,szAssembly.fv,szPlacedS.q,szPlacedS.fv];refine⟨z,?_⟩;simp only[JP,C8];grind
def eqGlueS.fv(a:(List Ad)×(List Ad)):Bool:=(λa b=>decide (a=b)) (a.1) (a.2)
def eqGlueS.row:AF:=vK (b2 (qS Ad.d_le Ad.c_n) (qS Ad.d_le Ad.c_n)) rB (λa=>True) eqGlueS.fv
def eqGlueS.q:=Bd (R:=eqGlueS.row) rfl
def Yab:=J @eqGlueS.fv.eq_1 (J @eqGlue.q @eqGlue.fv.eq_1)
def eqGlueS.ok:AL 51 eqGlueS.row:=by
 refine vw (tC eqGlue.ok tN) Tryz.func51 ?_;intro a aa;simp only[Tryz.f51,Option.getD];simp only[ZZ,simprocAttr,Ab,Yab];intro h1 h2;simp only[AP];refine⟨λO=> ?_,λO=> ?_⟩
 .have:a.1≠a.2:=λh=>O (by rw[h])
  simp[this]
 have O:a.1.length=a.2.length:=by omega
 refine Ba.old ⟨{k:Nat//k<=a.1.length/\a.1.take k=a.2.take k},λk=>⟨[(5,.im (.int .i64 k.1)),(4,.im (.bool false)),(0,.im (.sl false 2 (a.1.map Ad.c))),(1,.im (.sl false 2 (a.2.map Ad.c)))],[],0⟩,λk=>a.1.length - k.1,λk=>⟨by simp[ZG],AU _⟩,⟨⟨0,by simp⟩,by simp only[ZZ,simprocAttr,Ab,Yab,sub]⟩,λk=> ?_⟩;obtain⟨k,Z,z⟩:=k;simp only[ZZ,simprocAttr,Ab,Yab,sub,AP];intro _;refine⟨λQ=>⟨Q,λx hx=>⟨by omega,λy hy=> ?_⟩⟩,λQ=> ?_⟩
 .obtain⟨g1,g2⟩:=rN O Z z hx hy;exact⟨λh=>by simp[g2 (show x≠y from h)],λh=>Je Q h1 ⟨by omega,g1 (show x=y from GK.1 h)⟩⟩
 .rw[F9 (by omega),F9 (by omega)] at z;simp[z]
def X6(a b:Tile):decide (a=b)=(decide (a.Name=b.Name) && decide (a.Sides=b.Sides)):=by
 obtain⟨x,y⟩:=a;obtain⟨z,w⟩:=b;simp[Tile.mk.injEq]
def eqTile.fv(a:Tile×Tile):Bool:=(λa b=>decide (a=b)) (a.1) (a.2)
def eqTile.row:AF:=vK (b2 (qR Tile.d_le) (qR Tile.d_le)) rB (λa=>True) eqTile.fv
def eqTile.q:=Bd (R:=eqTile.row) rfl
def eqTile.ok:AL 91 eqTile.row:=by
 refine vw (tC eqInt64S.ok tN) Tryz.func91 ?_;intro a z;simp only[Tryz.f91,Option.getD];simp only[ZZ,simprocAttr,Ab,eqTile.fv,eqInt64S.q,eqInt64S.fv];rw[X6]
 grind
def eqTileS.fv(a:(List Tile)×(List Tile)):Bool:=(λa b=>decide (a=b)) (a.1) (a.2)
def eqTileS.row:AF:=vK (b2 (qS Tile.d_le Tile.c_n) (qS Tile.d_le Tile.c_n)) rB (λa=>True) eqTileS.fv
def eqTileS.q:=Bd (R:=eqTileS.row) rfl
def Yac:=J @eqTileS.fv.eq_1 (J @eqTile.q @eqTile.fv.eq_1)
def eqTileS.ok:AL 52 eqTileS.row:=by
 refine vw (tC eqTile.ok tN) Tryz.func52 ?_;intro a aa;simp only[Tryz.f52,Option.getD];simp only[ZZ,simprocAttr,Ab,Yac];intro h1 h2;simp only[AP];refine⟨λO=> ?_,λO=> ?_⟩
 .have:a.1≠a.2:=λh=>O (by rw[h])
  simp[this]
 have O:a.1.length=a.2.length:=by omega
 refine Ba.old ⟨{k:Nat//k<=a.1.length/\a.1.take k=a.2.take k},λk=>⟨[(5,.im (.int .i64 k.1)),(4,.im (.bool false)),(0,.im (.sl false 2 (a.1.map Tile.c))),(1,.im (.sl false 2 (a.2.map Tile.c)))],[],0⟩,λk=>a.1.length - k.1,λk=>⟨by simp[ZG],AU _⟩,⟨⟨0,by simp⟩,by simp only[ZZ,simprocAttr,Ab,Yac,sub]⟩,λk=> ?_⟩;obtain⟨k,Z,z⟩:=k;simp only[ZZ,simprocAttr,Ab,Yac,sub,AP];intro _;refine⟨λQ=>⟨Q,λx hx=>⟨by omega,λy hy=> ?_⟩⟩,λQ=> ?_⟩
 .obtain⟨g1,g2⟩:=rN O Z z hx hy;exact⟨λh=>by simp[g2 (show x≠y from h)],λh=>Je Q h1 ⟨by omega,g1 (show x=y from GK.1 h)⟩⟩
 .rw[F9 (by omega),F9 (by omega)] at z;simp[z]
def eqPlacedS.fv(a:(List Al)×(List Al)):Bool:=(λa b=>decide (a=b)) (a.1) (a.2)
def eqPlacedS.row:AF:=vK (b2 (qS Al.d_le Al.c_n) (qS Al.d_le Al.c_n)) rB (λa=>True) eqPlacedS.fv
def eqPlacedS.q:=Bd (R:=eqPlacedS.row) rfl
def Yad:=J @eqPlacedS.fv.eq_1 (J @eqPlaced.q @eqPlaced.fv.eq_1)
def eqPlacedS.ok:AL 53 eqPlacedS.row:=by
 refine vw (tC eqPlaced.ok tN) Tryz.func53 ?_;intro a aa;simp only[Tryz.f53,Option.getD];simp only[ZZ,simprocAttr,Ab,Yad];intro h1 h2;simp only[AP];refine⟨λO=> ?_,λO=> ?_⟩
 .have:a.1≠a.2:=λh=>O (by rw[h])
  simp[this]
 have O:a.1.length=a.2.length:=by omega
 refine Ba.old ⟨{k:Nat//k<=a.1.length/\a.1.take k=a.2.take k},λk=>⟨[(5,.im (.int .i64 k.1)),(4,.im (.bool false)),(0,.im (.sl false 3 (a.1.map Al.c))),(1,.im (.sl false 3 (a.2.map Al.c)))],[],0⟩,λk=>a.1.length - k.1,λk=>⟨by simp[ZG],AU _⟩,⟨⟨0,by simp⟩,by simp only[ZZ,simprocAttr,Ab,Yad,sub]⟩,λk=> ?_⟩;obtain⟨k,Z,z⟩:=k;simp only[ZZ,simprocAttr,Ab,Yad,sub,AP];intro _;refine⟨λQ=>⟨Q,λx hx=>⟨by omega,λy hy=> ?_⟩⟩,λQ=> ?_⟩
 .obtain⟨g1,g2⟩:=rN O Z z hx hy;exact⟨λh=>by simp[g2 (show x≠y from h)],λh=>Je Q h1 ⟨by omega,g1 (show x=y from GK.1 h)⟩⟩
 .rw[F9 (by omega),F9 (by omega)] at z;simp[z]
def eqTileSet.fv(a:Ap×Ap):Bool:=(λa b=>decide (a=b)) (a.1) (a.2)
def eqTileSet.row:AF:=vK (b2 (qR Ap.d_le) (qR Ap.d_le)) rB (λa=>True) eqTileSet.fv
def eqTileSet.q:=Bd (R:=eqTileSet.row) rfl
def eqTileSet.ok:AL 22 eqTileSet.row:=by
 refine vw (tC eqGlueS.ok (tC eqTileS.ok tN)) Tryz.func22 ?_;intro a O;simp only[Tryz.f22,Option.getD];simp only[ZZ,simprocAttr,Ab,eqTileSet.fv,eqGlueS.q,eqGlueS.fv,eqTileS.q,eqTileS.fv];obtain⟨⟨x,y⟩,⟨z,w⟩⟩:=a;simp only[Ap.mk.injEq]
 grind
def eqAssembly.fv(a:AB×AB):Bool:=(λa b=>decide (a=b)) (a.1) (a.2)
def eqAssembly.row:AF:=vK (b2 (qR AB.d_le) (qR AB.d_le)) rB (λa=>True) eqAssembly.fv
def eqAssembly.q:=Bd (R:=eqAssembly.row) rfl
def eqAssembly.ok:AL 23 eqAssembly.row:=by
 refine vw (tC eqPlacedS.ok tN) Tryz.func23 ?_;intro a O;simp only[Tryz.f23,Option.getD];simp only[ZZ,simprocAttr,Ab,eqAssembly.fv,eqPlacedS.q,eqPlacedS.fv];obtain⟨⟨x⟩,⟨z⟩⟩:=a;simp only[AB.mk.injEq]
 grind
def toTile.fv(a:Tile):Tile:=(λp=>p) a
def toTile.row:AF:=vK (b1 (qR Tile.d_le)) (rA Tile.d_le) (λa=>a.Sides.length<=1073741824) toTile.fv
def toTile.q:=Bd (R:=toTile.row) rfl
def toTile.ok:AL 73 toTile.row:=by
 refine vw (tC toInt64S.ok tN) Tryz.func73 ?_;intro a z;simp only[Tryz.f73,Option.getD];simp only[ZZ,simprocAttr,Ab,toTile.fv,toInt64S.q,toInt64S.fv];exact z
def toGlueS.fv(a:(List Ad)):List Ad:=(λp=>p) a
def toGlueS.row:AF:=vK (b1 (qS Ad.d_le Ad.c_n)) (rS Ad.d_le Ad.c_n) (λa=>a.length<=1073741824) toGlueS.fv
def toGlueS.q:=Bd (R:=toGlueS.row) rfl
def Yae:=J @toGlueS.fv.eq_1 (J @toGlue.q @toGlue.fv.eq_1)
def toGlueS.ok:AL 38 toGlueS.row:=by
 refine vw (tC toGlue.ok tN) Tryz.func38 ?_;intro a z;simp only[Tryz.f38,Option.getD];simp only[ZZ,simprocAttr,Ab,Yae];intro Z;have aa:a.length<=1073741824:=z;refine⟨by omega,?_⟩;refine Ba.old ⟨{k:Nat//k<=a.length},λk=>⟨[(4,.im (.int .i64 k.1)),(3,.own 1),(0,.im (.sl false 2 (a.map Ad.c)))],[(1,(true,.arr 128 2 ((a.take k.1).map Ad.c++List.replicate (a.length - k.1) [.str ByteArray.empty,.int .i64 0])))],2⟩,λk=>a.length - k.1,λk=>⟨by simp[ZG],AU _⟩,⟨⟨0,by omega⟩,by simp only[ZZ,simprocAttr,Ab,Yae,sub];simp⟩,λk=> ?_⟩;obtain⟨k,Q⟩:=k;simp only[ZZ,simprocAttr,Ab,Yae,sub,AP,fQ _ _ a k Q];intro _;refine⟨λO=> ?_,λO=> ?_⟩
 .refine⟨O,λx hx=>⟨O,O,LK (fN Ad.c _ a k x hx) ?_⟩⟩;simp only[ZZ,simprocAttr,Ab,Yae,sub];refine⟨⟨k+1,by omega⟩,by simp only;omega,?_,?_⟩
  .rw[AG (by omega) (by omega)];simp only;omega
  .exact fS Ad.c _ a k x hx
 .rw[fR Ad.c _ a k (by omega)];simp[Ad.d_R]
def toPlacedS.fv(a:(List Al)):List Al:=(λp=>p) a
def toPlacedS.row:AF:=vK (b1 (qS Al.d_le Al.c_n)) (rS Al.d_le Al.c_n) (λa=>a.length<=1073741824) toPlacedS.fv
def toPlacedS.q:=Bd (R:=toPlacedS.row) rfl
def Yaf:=J @toPlacedS.fv.eq_1 (J @toPlaced.q @toPlaced.fv.eq_1)
def toPlacedS.ok:AL 40 toPlacedS.row:=by
 refine vw (tC toPlaced.ok tN) Tryz.func40 ?_;intro a z;simp only[Tryz.f40,Option.getD];simp only[ZZ,simprocAttr,Ab,Yaf];intro Z;have aa:a.length<=1073741824:=z;refine⟨by omega,?_⟩;refine Ba.old ⟨{k:Nat//k<=a.length},λk=>⟨[(4,.im (.int .i64 k.1)),(3,.own 1),(0,.im (.sl false 3 (a.map Al.c)))],[(1,(true,.arr 119 3 ((a.take k.1).map Al.c++List.replicate (a.length - k.1) [.int .i64 0,.int .i64 0,.int .i64 0])))],2⟩,λk=>a.length - k.1,λk=>⟨by simp[ZG],AU _⟩,⟨⟨0,by omega⟩,by simp only[ZZ,simprocAttr,Ab,Yaf,sub];simp⟩,λk=> ?_⟩;obtain⟨k,Q⟩:=k;simp only[ZZ,simprocAttr,Ab,Yaf,sub,AP,fQ _ _ a k Q];intro _;refine⟨λO=> ?_,λO=> ?_⟩
 .refine⟨O,λx hx=>⟨O,O,LK (fN Al.c _ a k x hx) ?_⟩⟩;simp only[ZZ,simprocAttr,Ab,Yaf,sub];refine⟨⟨k+1,by omega⟩,by simp only;omega,?_,?_⟩
  .rw[AG (by omega) (by omega)];simp only;omega
  .exact fS Al.c _ a k x hx
 .rw[fR Al.c _ a k (by omega)];simp[Al.d_R]
def toTileS.fv(a:(List Tile)):List Tile:=(λp=>p) a
def toTileS.row:AF:=vK (b1 (qS Tile.d_le Tile.c_n)) (rS Tile.d_le Tile.c_n) (λa=>a.length<=1073741824/\ ∀x∈a,x.Sides.length<=1073741824) toTileS.fv
def toTileS.q:=Bd (R:=toTileS.row) rfl
def Yag:=J @toTileS.fv.eq_1 (J @toTile.q @toTile.fv.eq_1)
def toTileS.ok:AL 39 toTileS.row:=by
 refine vw (tC toTile.ok tN) Tryz.func39 ?_;intro a z;simp only[Tryz.f39,Option.getD];simp only[ZZ,simprocAttr,Ab,Yag];intro aa;have ab:a.length<=1073741824:=z.1;refine⟨by omega,?_⟩;refine Ba.old ⟨{k:Nat//k<=a.length},λk=>⟨[(4,.im (.int .i64 k.1)),(3,.own 1),(0,.im (.sl false 2 (a.map Tile.c)))],[(1,(true,.arr 126 2 ((a.take k.1).map Tile.c++List.replicate (a.length - k.1) [.str ByteArray.empty,.sl true 0 []])))],2⟩,λk=>a.length - k.1,λk=>⟨by simp[ZG],AU _⟩,⟨⟨0,by omega⟩,by simp only[ZZ,simprocAttr,Ab,Yag,sub];simp⟩,λk=> ?_⟩;obtain⟨k,Q⟩:=k;simp only[ZZ,simprocAttr,Ab,Yag,sub,AP,fQ _ _ a k Q];intro _;refine⟨λO=> ?_,λO=> ?_⟩
 .refine⟨O,λx Z=>⟨z.2 x (Bg Z),O,O,LK (fN Tile.c _ a k x Z) ?_⟩⟩;simp only[ZZ,simprocAttr,Ab,Yag,sub];refine⟨⟨k+1,by omega⟩,by simp only;omega,?_,?_⟩
  .rw[AG (by omega) (by omega)];simp only;omega
  .exact fS Tile.c _ a k x Z
 .rw[fR Tile.c _ a k (by omega)];simp[Tile.d_R]
def Vh(s:Ap):Prop:=s.Glues.length<=1073741824/\s.Tiles.length<=1073741824/\ ∀x∈s.Tiles,x.Sides.length<=1073741824
def toTileSet.fv(a:Ap):Ap:=(λp=>p) a
def toTileSet.row:AF:=vK (b1 (qR Ap.d_le)) (rA Ap.d_le) (λa=>Vh a) toTileSet.fv
def toTileSet.q:=Bd (R:=toTileSet.row) rfl
def toTileSet.ok:AL 17 toTileSet.row:=by
 refine vw (tC toGlueS.ok (tC toTileS.ok tN)) Tryz.func17 ?_;intro a z;simp only[Tryz.f17,Option.getD];simp only[ZZ,simprocAttr,Ab,toTileSet.fv,toGlueS.q,toGlueS.fv,toTileS.q,toTileS.fv];exact z
def toAssembly.fv(a:AB):AB:=(λp=>p) a
def toAssembly.row:AF:=vK (b1 (qR AB.d_le)) (rA AB.d_le) (λa=>a.Tiles.length<=1073741824) toAssembly.fv
def toAssembly.q:=Bd (R:=toAssembly.row) rfl
def toAssembly.ok:AL 18 toAssembly.row:=by
 refine vw (tC toPlacedS.ok tN) Tryz.func18 ?_;intro a z;simp only[Tryz.f18,Option.getD];simp only[ZZ,simprocAttr,Ab,toAssembly.fv,toPlacedS.q,toPlacedS.fv];exact z
def cN(s:A9):Prop:=Vh s.Set/\s.Seed.Tiles.length<=1073741824
def toSystem.fv(a:A9):A9:=(λp=>p) a
def toSystem.row:AF:=vK (b1 (qR A9.d_le)) (rA A9.d_le) (λa=>cN a) toSystem.fv
def toSystem.ok:AL 6 toSystem.row:=by
 refine vw (tC toTileSet.ok (tC toAssembly.ok tN)) Tryz.func6 ?_;intro a z;simp only[Tryz.f6,Option.getD];simp only[ZZ,simprocAttr,Ab,toSystem.fv,toTileSet.q,toTileSet.fv,toAssembly.q,toAssembly.fv];exact z
def Q7(g:Ad)(l:Int):Int:=C8 g.Name.size l
def szGlue.fv(a:Ad×Int):Int:=(Q7) (a.1) (a.2)
def szGlue.row:AF:=vK (b2 (qR Ad.d_le) qI) rI (λa=> -1<=a.2/\a.2<=1048576/\a.1.Name.size<=140737488355328) szGlue.fv
def szGlue.q:=Bd (R:=szGlue.row) rfl
def szGlue.ok:AL 59 szGlue.row:=by
 refine vw tN Tryz.func59 ?_;intro a z;simp only[Tryz.f59,Option.getD];simp only[ZZ,simprocAttr,Ab,szGlue.fv];rw[AG (by omega) (by omega)];simp only[Q7,C8]
 grind
def FK(g:Tile)(l:Int):Int:=if C8 g.Name.size l<0 then -1 else C8 g.Sides.length (C8 g.Name.size l)
def szTile.fv(a:Tile×Int):Int:=(FK) (a.1) (a.2)
def szTile.row:AF:=vK (b2 (qR Tile.d_le) qI) rI (λa=> -1<=a.2/\a.2<=1048576/\a.1.Name.size<=140737488355328) szTile.fv
def szTile.q:=Bd (R:=szTile.row) rfl
def szTile.ok:AL 60 szTile.row:=by
 refine vw (tC szInt64S.ok tN) Tryz.func60 ?_;intro a z;simp only[Tryz.f60,Option.getD];simp only[ZZ,simprocAttr,Ab,szTile.fv,szInt64S.q,szInt64S.fv];rw[AG (by omega) (by omega)];simp only[FK,C8]
 grind
def GG{A:Type}(f:A->Int->Int):List A->Int->Int
 |[],l=>l
 |x::r,l=>if f x l<0 then -1 else GG f r (f x l)
def HG(a:List Ad)(l:Int):Int:=if C8 a.length l<0 then -1 else GG Q7 a (C8 a.length l)
def szGlueS.fv(a:(List Ad)×Int):Int:=(HG) (a.1) (a.2)
def szGlueS.row:AF:=vK (b2 (qS Ad.d_le Ad.c_n) qI) rI (λa=> -1<=a.2/\a.2<=1048576/\ ∀x∈a.1,x.Name.size<=140737488355328) szGlueS.fv
def szGlueS.q:=Bd (R:=szGlueS.row) rfl
def Yah:=J @szGlueS.fv.eq_1 (J @szGlue.q @szGlue.fv.eq_1)
def szGlueS.ok:AL 29 szGlueS.row:=by
 refine vw (tC szGlue.ok tN) Tryz.func29 ?_;intro a O;simp only[Tryz.f29,Option.getD];simp only[ZZ,simprocAttr,Ab,Yah];intro hn;rw[AG (by omega) (by omega)];obtain⟨ah,ai,af⟩:=O;simp only[AP];refine⟨λhl=> ?_,λhl=> ?_⟩
 .simp only[HG,C8];grind
 have h0:C8 a.1.length a.2=a.2 - a.1.length:=by simp only[C8];rw[Af hl]
 refine Ba.old ⟨{p:Nat×Int//p.1<=a.1.length/\0<=p.2/\p.2<=1048576/\GG Q7 (a.1.drop p.1) p.2=GG Q7 a.1 (a.2 - a.1.length)},λp=>⟨[(5,.im (.int .i64 p.1.1)),(1,.im (.int .i64 p.1.2)),(4,.im (.int .i64 0)),(0,.im (.sl false 2 (a.1.map Ad.c)))],[],0⟩,λp=>a.1.length - p.1.1,λp=>⟨by simp[ZG],AU _⟩,⟨⟨(0,a.2 - a.1.length),by simp,by simp only;omega,by simp only;omega,by simp⟩,by simp only[ZZ,simprocAttr,Ab,Yah,sub]⟩,λp=> ?_⟩;obtain⟨⟨k,l⟩,ab,ac,ad,z⟩:=p;simp only at ab ac ad z;simp only[ZZ,simprocAttr,Ab,Yah,sub,AP];intro _;refine⟨λZ=>⟨Z,λx hx=>⟨⟨by omega,by omega,af x (Bg hx)⟩,?_⟩⟩,λZ=> ?_⟩
 .have hd:a.1.drop k=x::a.1.drop (k+1):=by
   rw[Wi Z];rw[BA Z] at hx;rw[AJ hx]
  rw[hd,GG] at z;have ag:Q7 x l<=l:=by simp only[Q7,C8];grind
  have aa: ¬Q7 ⟨x.Name,x.Strength⟩ l<0-> ¬Q7 x l<0:=λh=>h
  refine⟨λQ=> ?_,λQ=>⟨⟨(k+1,Q7 x l),by simp only;omega,by simp only;have:=aa Q;omega,by simp only;omega,?_⟩,by simp only;omega,?_,?_⟩⟩
  .rw[Ai Q] at z;simp only[HG,h0]
   grind
  .rw[Af Q] at z;exact z
  .rw[AG (by omega) (by omega)];simp only;omega
  .rfl
 .rw[DY (by omega),GG] at z;simp only[HG,h0]
  grind
def LH(a:List Tile)(l:Int):Int:=if C8 a.length l<0 then -1 else GG FK a (C8 a.length l)
def szTileS.fv(a:(List Tile)×Int):Int:=(LH) (a.1) (a.2)
def szTileS.row:AF:=vK (b2 (qS Tile.d_le Tile.c_n) qI) rI (λa=> -1<=a.2/\a.2<=1048576/\ ∀x∈a.1,x.Name.size<=140737488355328) szTileS.fv
def szTileS.q:=Bd (R:=szTileS.row) rfl
def Yai:=J @szTileS.fv.eq_1 (J @szTile.q @szTile.fv.eq_1)
def szTileS.ok:AL 30 szTileS.row:=by
 refine vw (tC szTile.ok tN) Tryz.func30 ?_;intro a O;simp only[Tryz.f30,Option.getD];simp only[ZZ,simprocAttr,Ab,Yai];intro hn;rw[AG (by omega) (by omega)];obtain⟨ah,ai,af⟩:=O;simp only[AP];refine⟨λhl=> ?_,λhl=> ?_⟩
 .simp only[LH,C8];grind
 have h0:C8 a.1.length a.2=a.2 - a.1.length:=by simp only[C8];rw[Af hl]
 refine Ba.old ⟨{p:Nat×Int//p.1<=a.1.length/\0<=p.2/\p.2<=1048576/\GG FK (a.1.drop p.1) p.2=GG FK a.1 (a.2 - a.1.length)},λp=>⟨[(5,.im (.int .i64 p.1.1)),(1,.im (.int .i64 p.1.2)),(4,.im (.int .i64 0)),(0,.im (.sl false 2 (a.1.map Tile.c)))],[],0⟩,λp=>a.1.length - p.1.1,λp=>⟨by simp[ZG],AU _⟩,⟨⟨(0,a.2 - a.1.length),by simp,by simp only;omega,by simp only;omega,by simp⟩,by simp only[ZZ,simprocAttr,Ab,Yai,sub]⟩,λp=> ?_⟩;obtain⟨⟨k,l⟩,ab,ac,ad,z⟩:=p;simp only at ab ac ad z;simp only[ZZ,simprocAttr,Ab,Yai,sub,AP];intro _;refine⟨λZ=>⟨Z,λx hx=>⟨⟨by omega,by omega,af x (Bg hx)⟩,?_⟩⟩,λZ=> ?_⟩
 .have hd:a.1.drop k=x::a.1.drop (k+1):=by
   rw[Wi Z];rw[BA Z] at hx;rw[AJ hx]
  rw[hd,GG] at z;have ag:FK x l<=l:=by simp only[FK,C8];grind
  have aa: ¬FK ⟨x.Name,x.Sides⟩ l<0-> ¬FK x l<0:=λh=>h
  refine⟨λQ=> ?_,λQ=>⟨⟨(k+1,FK x l),by simp only;omega,by simp only;have:=aa Q;omega,by simp only;omega,?_⟩,by simp only;omega,?_,?_⟩⟩
  .rw[Ai Q] at z;simp only[LH,h0]
   grind
  .rw[Af Q] at z;exact z
  .rw[AG (by omega) (by omega)];simp only;omega
  .rfl
 .rw[DY (by omega),GG] at z;simp only[LH,h0]
  grind
def P0(s:Ap):Prop:=(∀x∈s.Glues,x.Name.size<=140737488355328)/\ ∀x∈s.Tiles,x.Name.size<=140737488355328
def Qre{A:Type}{f:A->Int->Int}(hf: ∀x l,0<=l->f x l<=l)(a:List A): ∀(l:Int),0<=l->GG f a l<=l/\ -1<=GG f a l:=by
 induction a with
 |nil=>intro l z;simp[GG];omega
 |cons x r ih=>
  intro l z;simp only[GG];split
  .omega
  .have:=hf x l z
   have:=ih (f x l) (by omega)
   omega
def Qo1(a:List Ad)(l:Int)(Q: -1<=l): -1<=HG a l/\HG a l<=max l (-1):=by
 simp only[HG];split
 .omega
 .rename_i h;have z:=Qre (f:=Q7) (λx l h=>by simp only[Q7,C8];grind) a (C8 a.length l) (by omega);have O:C8 a.length l<=max l (-1):=by simp only[C8];grind
  omega
def Qv0(a:List Tile)(l:Int)(Q: -1<=l): -1<=LH a l/\LH a l<=max l (-1):=by
 simp only[LH];split
 .omega
 .rename_i h;have z:=Qre (f:=FK) (λx l h=>by simp only[FK,C8];grind) a (C8 a.length l) (by omega);have O:C8 a.length l<=max l (-1):=by simp only[C8];grind
  omega
def QD(s:Ap)(l:Int):Int:=if HG s.Glues l<0 then -1 else LH s.Tiles (HG s.Glues l)
def Qxk(s:Ap)(l:Int)(O: -1<=l): -1<=QD s l/\QD s l<=max l (-1):=by
 have z:=Qo1 s.Glues l O;have Q:=Qv0 s.Tiles (HG s.Glues l) z.1;simp only[QD]
 split<;>omega
def szTileSet.fv(a:Ap×Int):Int:=(QD) (a.1) (a.2)
def szTileSet.row:AF:=vK (b2 (qR Ap.d_le) qI) rI (λa=> -1<=a.2/\a.2<=1048576/\P0 a.1) szTileSet.fv
def szTileSet.q:=Bd (R:=szTileSet.row) rfl
def szTileSet.ok:AL 13 szTileSet.row:=by
 refine vw (tC szGlueS.ok (tC szTileS.ok tN)) Tryz.func13 ?_;intro a z;simp only[Tryz.f13,Option.getD];simp only[ZZ,simprocAttr,Ab,szTileSet.fv,szGlueS.q,szGlueS.fv,szTileS.q,szTileS.fv];obtain⟨O,Z,h3,h4⟩:=z;have Q:=Qo1 a.1.Glues a.2 O;refine⟨⟨O,Z,h3⟩,?_⟩;simp only[QD];split
 .rfl
 .refine⟨⟨Q.1,by omega,h4⟩,?_⟩;have hc:=Qv0 a.1.Tiles _ Q.1
  split<;>omega
def cP(n:Nat)(l:Int)(z: -1<=l): -1<=C8 n l/\C8 n l<=max l (-1):=by
 simp only[C8];split<;>omega
def Xx(s:A9)(l:Int):Int:=if QD s.Set l<0 then -1 else JP s.Seed (QD s.Set l)
def Z0(s:A9)(l:Int)(O: -1<=l): -1<=Xx s l/\Xx s l<=max l (-1):=by
 have z:=Qxk s.Set l O;have Q:=cP s.Seed.Tiles.length (QD s.Set l) z.1;simp only[Xx,JP]
 split<;>omega
def szSystem.fv(a:A9×Int):Int:=(Xx) (a.1) (a.2)
def szSystem.row:AF:=vK (b2 (qR A9.d_le) qI) rI (λa=> -1<=a.2/\a.2<=1048576/\P0 a.1.Set) szSystem.fv
def szSystem.q:=Bd (R:=szSystem.row) rfl
def szSystem.ok:AL 4 szSystem.row:=by
 refine vw (tC szTileSet.ok (tC szAssembly.ok tN)) Tryz.func4 ?_;intro a z;simp only[Tryz.f4,Option.getD];simp only[ZZ,simprocAttr,Ab,szSystem.fv,szTileSet.q,szTileSet.fv,szAssembly.q,szAssembly.fv];obtain⟨O,Z,h3⟩:=z;have Q:=Qxk a.1.Set a.2 O;refine⟨⟨O,Z,h3⟩,?_⟩;simp only[Xx];split
 .rfl
 .refine⟨⟨Q.1,by omega⟩,?_⟩;have hc:=cP a.1.Seed.Tiles.length _ Q.1;simp only[JP] at hc⊢
  grind
end Go.Ae
