/- Lemmas. Conditions: none. -/
import Derived.Test.YthegngjaiiopdaaGreatP06
import Derived.Test.YthegngjaiiopdaaGreatProg
set_option linter.all false
set_option maxHeartbeats 8000000
set_option maxRecDepth 100000
namespace Go.Ae
open Go.Proofs
theorem TY0:
 (tI Tryz.prog 2=some {size:=1,bytes:=8,agg:=false,kind:= .int .i64,zero:=[.int .i64 0]})/\
 (tI Tryz.prog 3=some {size:=1,bytes:=8,agg:=false,kind:= .int .i64,zero:=[.int .i64 0]})/\
 (tI Tryz.prog 4=some {size:=1,bytes:=1,agg:=false,kind:= .bool,zero:=[.bool false]})/\
 (tI Tryz.prog 5=some {size:=1,bytes:=1,agg:=false,kind:= .int .u8,zero:=[.int .u8 0]})/\
 (tI Tryz.prog 9=some {size:=1,bytes:=16,agg:=false,kind:= .str,zero:=[.str ByteArray.empty]})/\
 (tI Tryz.prog 22=some {size:=1,bytes:=24,agg:=false,kind:= .slice 151,zero:=[.sl true 0 []]})/\
 (tI Tryz.prog 23=some {size:=1,bytes:=24,agg:=false,kind:= .slice 154,zero:=[.sl true 0 []]})/\
 (tI Tryz.prog 25=some {size:=2,bytes:=48,agg:=true,kind:= .struct [(0,1),(1,1)],zero:=[.sl true 0 [],.sl true 0 []]})/\
 (tI Tryz.prog 26=some {size:=1,bytes:=24,agg:=false,kind:= .slice 167,zero:=[.sl true 0 []]})/\
 (tI Tryz.prog 28=some {size:=1,bytes:=24,agg:=true,kind:= .struct [(0,1)],zero:=[.sl true 0 []]})/\
 (tI Tryz.prog 30=some {size:=4,bytes:=80,agg:=true,kind:= .struct [(0,2),(2,1),(3,1)],zero:=[.sl true 0 [],.sl true 0 [],.sl true 0 [],.int .i64 0]})/\
 (tI Tryz.prog 31=some {size:=1,bytes:=24,agg:=false,kind:= .slice 2,zero:=[.sl true 0 []]})/\
 (tI Tryz.prog 32=some {size:=1,bytes:=24,agg:=false,kind:= .slice 79,zero:=[.sl true 0 []]})/\
 (tI Tryz.prog 36=some {size:=2,bytes:=16,agg:=true,kind:= .struct [(0,1),(1,1)],zero:=[.int .i64 0,.int .i64 0]})/\
 (tI Tryz.prog 39=some {size:=1,bytes:=24,agg:=false,kind:= .slice 162,zero:=[.sl true 0 []]})/\
 (tI Tryz.prog 40=some {size:=1,bytes:=24,agg:=false,kind:= .slice 164,zero:=[.sl true 0 []]})/\
 (tI Tryz.prog 42=some {size:=2,bytes:=48,agg:=true,kind:= .struct [(0,1),(1,1)],zero:=[.sl true 0 [],.sl true 0 []]})/\
 (tI Tryz.prog 43=some {size:=1,bytes:=24,agg:=false,kind:= .slice 160,zero:=[.sl true 0 []]})/\
 (tI Tryz.prog 45=some {size:=1,bytes:=24,agg:=true,kind:= .struct [(0,1)],zero:=[.sl true 0 []]})/\
 (tI Tryz.prog 47=some {size:=4,bytes:=80,agg:=true,kind:= .struct [(0,2),(2,1),(3,1)],zero:=[.sl true 0 [],.sl true 0 [],.sl true 0 [],.int .i64 0]}):=by and_intros<;>kernel_rfl
theorem TY1:
 (tI Tryz.prog 50=some {size:=1,bytes:=24,agg:=false,kind:= .slice 72,zero:=[.sl true 0 []]})/\
 (tI Tryz.prog 58=some {size:=2,bytes:=16,agg:=true,kind:= .struct [(0,1),(1,1)],zero:=[.int .i64 0,.int .i64 0]})/\
 (tI Tryz.prog 67=some {size:=1,bytes:=8,agg:=false,kind:= .ptr 47,zero:=[.nilp]})/\
 (tI Tryz.prog 72=some {size:=3,bytes:=24,agg:=true,kind:= .struct [(0,2),(2,1)],zero:=[.int .i64 0,.int .i64 0,.int .i64 0]})/\
 (tI Tryz.prog 77=some {size:=2,bytes:=16,agg:=true,kind:= .struct [(0,1),(1,1)],zero:=[.int .i64 0,.int .i64 0]})/\
 (tI Tryz.prog 79=some {size:=3,bytes:=24,agg:=true,kind:= .struct [(0,2),(2,1)],zero:=[.int .i64 0,.int .i64 0,.int .i64 0]})/\
 (tI Tryz.prog 81=some {size:=1,bytes:=8,agg:=false,kind:= .ptr 119,zero:=[.nilp]})/\
 (tI Tryz.prog 84=some {size:=1,bytes:=8,agg:=false,kind:= .other,zero:=[.nilf]})/\
 (tI Tryz.prog 91=some {size:=1,bytes:=8,agg:=false,kind:= .ptr 138,zero:=[.nilp]})/\
 (tI Tryz.prog 95=some {size:=1,bytes:=16,agg:=false,kind:= .other,zero:=[.nili]})/\
 (tI Tryz.prog 103=some {size:=1,bytes:=8,agg:=false,kind:= .ptr 45,zero:=[.nilp]})/\
 (tI Tryz.prog 119=some {size:=1,bytes:=8,agg:=true,kind:= .struct [(0,1)],zero:=[.int .i64 0]})/\
 (tI Tryz.prog 121=some {size:=1,bytes:=8,agg:=false,kind:= .ptr 175,zero:=[.nilp]})/\
 (tI Tryz.prog 122=some {size:=1,bytes:=24,agg:=false,kind:= .slice 2,zero:=[.sl true 0 []]})/\
 (tI Tryz.prog 125=some {size:=1,bytes:=8,agg:=false,kind:= .other,zero:=[.nilf]})/\
 (tI Tryz.prog 136=some {size:=1,bytes:=8,agg:=false,kind:= .ptr 42,zero:=[.nilp]})/\
 (tI Tryz.prog 138=some {size:=8,bytes:=176,agg:=true,kind:= .struct [(0,4),(4,1),(5,1),(6,1),(7,1)],zero:=[.sl true 0 [],.sl true 0 [],.sl true 0 [],.int .i64 0,.sl true 0 [],.sl true 0 [],.sl true 0 [],.sl true 0 []]})/\
 (tI Tryz.prog 140=some {size:=1,bytes:=8,agg:=false,kind:= .other,zero:=[.nilf]})/\
 (tI Tryz.prog 145=some {size:=3,bytes:=24,agg:=true,kind:= .struct [(0,3)],zero:=[.int .i64 0,.int .i64 0,.int .i64 0]})/\
 (tI Tryz.prog 147=some {size:=3,bytes:=24,agg:=true,kind:= .struct [(0,3)],zero:=[.int .i64 0,.int .i64 0,.int .i64 0]}):=by and_intros<;>kernel_rfl
theorem TY2:
 (tI Tryz.prog 148=some {size:=3,bytes:=24,agg:=true,kind:= .struct [(0,3)],zero:=[.int .i64 0,.int .i64 0,.int .i64 0]})/\
 (tI Tryz.prog 151=some {size:=2,bytes:=24,agg:=true,kind:= .struct [(0,1),(1,1)],zero:=[.str ByteArray.empty,.int .i64 0]})/\
 (tI Tryz.prog 154=some {size:=2,bytes:=40,agg:=true,kind:= .struct [(0,1),(1,1)],zero:=[.str ByteArray.empty,.sl true 0 []]})/\
 (tI Tryz.prog 158=some {size:=1,bytes:=24,agg:=false,kind:= .slice 58,zero:=[.sl true 0 []]})/\
 (tI Tryz.prog 160=some {size:=3,bytes:=24,agg:=true,kind:= .struct [(0,2),(2,1)],zero:=[.int .i64 0,.int .i64 0,.int .i64 0]})/\
 (tI Tryz.prog 162=some {size:=2,bytes:=24,agg:=true,kind:= .struct [(0,1),(1,1)],zero:=[.str ByteArray.empty,.int .i64 0]})/\
 (tI Tryz.prog 164=some {size:=2,bytes:=40,agg:=true,kind:= .struct [(0,1),(1,1)],zero:=[.str ByteArray.empty,.sl true 0 []]})/\
 (tI Tryz.prog 167=some {size:=3,bytes:=24,agg:=true,kind:= .struct [(0,2),(2,1)],zero:=[.int .i64 0,.int .i64 0,.int .i64 0]})/\
 (tI Tryz.prog 170=some {size:=1,bytes:=8,agg:=false,kind:= .other,zero:=[.nilf]})/\
 (tI Tryz.prog 172=some {size:=1,bytes:=8,agg:=false,kind:= .map 58 2,zero:=[.nilm]})/\
 (tI Tryz.prog 173=some {size:=1,bytes:=8,agg:=false,kind:= .map 58 31,zero:=[.nilm]})/\
 (tI Tryz.prog 175=some {size:=6,bytes:=96,agg:=true,kind:= .struct [(0,4),(4,1),(5,1)],zero:=[.sl true 0 [],.sl true 0 [],.sl true 0 [],.int .i64 0,.nilm,.nilm]})/\
 (tI Tryz.prog 179=some {size:=1,bytes:=8,agg:=false,kind:= .other,zero:=[.nilf]})/\
 (tI Tryz.prog 181=some {size:=1,bytes:=8,agg:=false,kind:= .other,zero:=[.nilf]})/\
 (tI Tryz.prog 195=some {size:=8,bytes:=64,agg:=true,kind:= .array 4 58,zero:=[.int .i64 0,.int .i64 0,.int .i64 0,.int .i64 0,.int .i64 0,.int .i64 0,.int .i64 0,.int .i64 0]})/\
 (tI Tryz.prog 222=some {size:=1,bytes:=8,agg:=false,kind:= .other,zero:=[.nilf]})/\
 (tI Tryz.prog 225=some {size:=1,bytes:=8,agg:=false,kind:= .other,zero:=[.nilf]})/\
 (tI Tryz.prog 228=some {size:=1,bytes:=24,agg:=false,kind:= .slice 252,zero:=[.sl true 0 []]})/\
 (tI Tryz.prog 237=some {size:=1,bytes:=8,agg:=false,kind:= .map 9 4,zero:=[.nilm]})/\
 (tI Tryz.prog 240=some {size:=1,bytes:=8,agg:=false,kind:= .other,zero:=[.nilf]}):=by and_intros<;>kernel_rfl
theorem TY3:
 (tI Tryz.prog 244=some {size:=1,bytes:=8,agg:=false,kind:= .int .u64,zero:=[.int .u64 0]})/\
 (tI Tryz.prog 245=some {size:=1,bytes:=24,agg:=false,kind:= .slice 3,zero:=[.sl true 0 []]})/\
 (tI Tryz.prog 247=some {size:=1,bytes:=8,agg:=false,kind:= .other,zero:=[.nilf]})/\
 (tI Tryz.prog 252=some {size:=3,bytes:=24,agg:=true,kind:= .struct [(0,1),(1,1),(2,1)],zero:=[.int .i64 0,.int .i64 0,.int .i64 0]})/\
 (tI Tryz.prog 253=some {size:=1,bytes:=24,agg:=false,kind:= .slice 31,zero:=[.sl true 0 []]})/\
 (tI Tryz.prog 256=some {size:=1,bytes:=8,agg:=false,kind:= .ptr 281,zero:=[.nilp]})/\
 (tI Tryz.prog 269=some {size:=1,bytes:=8,agg:=false,kind:= .int .i64,zero:=[.int .i64 0]})/\
 (tI Tryz.prog 276=some {size:=1,bytes:=4,agg:=false,kind:= .int .u32,zero:=[.int .u32 0]})/\
 (tI Tryz.prog 278=some {size:=1,bytes:=8,agg:=false,kind:= .int .u64,zero:=[.int .u64 0]})/\
 (tI Tryz.prog 281=some {size:=4,bytes:=80,agg:=true,kind:= .struct [(0,1),(1,1),(2,1),(3,1)],zero:=[.int .i64 0,.sl true 0 [],.sl true 0 [],.sl true 0 []]})/\
 (tI Tryz.prog 285=some {size:=1,bytes:=8,agg:=false,kind:= .other,zero:=[.nilf]})/\
 (tI Tryz.prog 287=some {size:=1,bytes:=8,agg:=false,kind:= .other,zero:=[.nilf]})/\
 (tI Tryz.prog 289=some {size:=2,bytes:=16,agg:=true,kind:= .array 2 2,zero:=[.int .i64 0,.int .i64 0]})/\
 (tI Tryz.prog 290=some {size:=1,bytes:=8,agg:=false,kind:= .ptr 316,zero:=[.nilp]})/\
 (tI Tryz.prog 298=some {size:=1,bytes:=8,agg:=false,kind:= .int .u64,zero:=[.int .u64 0]})/\
 (tI Tryz.prog 302=some {size:=1,bytes:=8,agg:=false,kind:= .ptr 3,zero:=[.nilp]})/\
 (tI Tryz.prog 307=some {size:=1,bytes:=24,agg:=false,kind:= .slice 308,zero:=[.sl true 0 []]})/\
 (tI Tryz.prog 308=some {size:=1,bytes:=8,agg:=false,kind:= .ptr 310,zero:=[.nilp]})/\
 (tI Tryz.prog 310=some {size:=2,bytes:=16,agg:=true,kind:= .struct [(0,1),(1,1)],zero:=[.nilp,.int .i64 0]})/\
 (tI Tryz.prog 312=some {size:=1,bytes:=8,agg:=false,kind:= .map 2 3,zero:=[.nilm]}):=by and_intros<;>kernel_rfl
theorem TY4:
 (tI Tryz.prog 316=some {size:=2,bytes:=48,agg:=true,kind:= .struct [(0,1),(1,1)],zero:=[.sl true 0 [],.sl true 0 []]})/\
 (tI Tryz.prog 324=some {size:=1,bytes:=8,agg:=false,kind:= .other,zero:=[.nilc]}):=by and_intros<;>kernel_rfl
theorem KY0:
 (keyT Tryz.prog 2=some ⟨false,[.int .i64]⟩)/\
 (keyT Tryz.prog 3=some ⟨false,[.int .i64]⟩)/\
 (keyT Tryz.prog 4=some ⟨false,[.bool]⟩)/\
 (keyT Tryz.prog 5=some ⟨false,[.int .u8]⟩)/\
 (keyT Tryz.prog 9=some ⟨false,[.str]⟩)/\
 (keyT Tryz.prog 36=some ⟨true,[.int .i64,.int .i64]⟩)/\
 (Tryz.prog.eqGuardType Tryz.prog.depth 36=false)/\
 (keyT Tryz.prog 58=some ⟨true,[.int .i64,.int .i64]⟩)/\
 (Tryz.prog.eqGuardType Tryz.prog.depth 58=false)/\
 (keyT Tryz.prog 72=some ⟨true,[.int .i64,.int .i64,.int .i64]⟩)/\
 (Tryz.prog.eqGuardType Tryz.prog.depth 72=false)/\
 (keyT Tryz.prog 77=some ⟨true,[.int .i64,.int .i64]⟩)/\
 (Tryz.prog.eqGuardType Tryz.prog.depth 77=false)/\
 (keyT Tryz.prog 79=some ⟨true,[.int .i64,.int .i64,.int .i64]⟩)/\
 (Tryz.prog.eqGuardType Tryz.prog.depth 79=false)/\
 (keyT Tryz.prog 119=some ⟨true,[.int .i64]⟩)/\
 (Tryz.prog.eqGuardType Tryz.prog.depth 119=false)/\
 (keyT Tryz.prog 145=some ⟨true,[.int .i64,.int .i64,.int .i64]⟩)/\
 (Tryz.prog.eqGuardType Tryz.prog.depth 145=false)/\
 (keyT Tryz.prog 147=some ⟨true,[.int .i64,.int .i64,.int .i64]⟩):=by and_intros<;>kernel_rfl
theorem KY1:
 (Tryz.prog.eqGuardType Tryz.prog.depth 147=false)/\
 (keyT Tryz.prog 148=some ⟨true,[.int .i64,.int .i64,.int .i64]⟩)/\
 (Tryz.prog.eqGuardType Tryz.prog.depth 148=false)/\
 (keyT Tryz.prog 151=some ⟨true,[.str,.int .i64]⟩)/\
 (Tryz.prog.eqGuardType Tryz.prog.depth 151=false)/\
 (keyT Tryz.prog 160=some ⟨true,[.int .i64,.int .i64,.int .i64]⟩)/\
 (Tryz.prog.eqGuardType Tryz.prog.depth 160=false)/\
 (keyT Tryz.prog 162=some ⟨true,[.str,.int .i64]⟩)/\
 (Tryz.prog.eqGuardType Tryz.prog.depth 162=false)/\
 (keyT Tryz.prog 167=some ⟨true,[.int .i64,.int .i64,.int .i64]⟩)/\
 (Tryz.prog.eqGuardType Tryz.prog.depth 167=false)/\
 (keyT Tryz.prog 244=some ⟨false,[.int .u64]⟩)/\
 (keyT Tryz.prog 252=some ⟨true,[.int .i64,.int .i64,.int .i64]⟩)/\
 (Tryz.prog.eqGuardType Tryz.prog.depth 252=false)/\
 (keyT Tryz.prog 269=some ⟨false,[.int .i64]⟩)/\
 (keyT Tryz.prog 276=some ⟨false,[.int .u32]⟩)/\
 (keyT Tryz.prog 278=some ⟨false,[.int .u64]⟩)/\
 (keyT Tryz.prog 298=some ⟨false,[.int .u64]⟩):=by and_intros<;>kernel_rfl
theorem CY0:True/\True:=⟨trivial,trivial⟩
theorem Qaq:Tryz.prog.follows .mixedOrders=true:=by kernel_rfl
end Go.Ae
namespace Go.Ae
def kI:PK->Option Int
 | .val (.int .i64 x)=>some x
 |_=>none
def kU:PK->Option Int
 | .val (.int .u64 x)=>some x
 |_=>none
def kY:PK->Option Int
 | .val (.int .u8 x)=>some x
 |_=>none
def kB:PK->Option Bool
 | .val (.bool x)=>some x
 |_=>none
def kT:PK->Option ByteArray
 | .val (.str x)=>some x
 |_=>none
def kR{A:Type}(f:List D->Option A):PK->Option A
 | .val (.agg x)=>f x
 |_=>none
def kP{A:Type}(f:List D->Option A)(n:Nat):PK->Option A
 | .ptr x=>f (x.take n)
 |_=>none
def kS{A:Type}(f:List D->Option A):PK->Option (List A)
 | .val (.sl _ _ x)=>decR f x
 |_=>none
theorem Qab9: ∀p a,kI p=some a->LeK p (.val (.int .i64 a)):=by
 intro p a h;unfold kI at h;split at h
 .obtain rfl:=Zaa h;exact LeK.refl _
 .cases h
theorem kU_le: ∀p a,kU p=some a->LeK p (.val (.int .u64 a)):=by
 intro p a h;unfold kU at h;split at h
 .obtain rfl:=Zaa h;exact LeK.refl _
 .cases h
theorem kY_le: ∀p a,kY p=some a->LeK p (.val (.int .u8 a)):=by
 intro p a h;unfold kY at h;split at h
 .obtain rfl:=Zaa h;exact LeK.refl _
 .cases h
theorem kT_le: ∀p a,kT p=some a->LeK p (.val (.str a)):=by
 intro p a h;unfold kT at h;split at h
 .obtain rfl:=Zaa h;exact LeK.refl _
 .cases h
section
variable {A:Type}{f:List D->Option A}{e:A->List D}
theorem Qab8(hf: ∀ds x,f ds=some x->LeS ds (e x)): ∀p a,kR f p=some a->LeK p (.val (.agg (e a))):=by
 intro p a h;unfold kR at h;split at h
 .exact Qav (hf _ _ h)
 .cases h
theorem Qacc(n:Nat)(hf: ∀ds x,f ds=some x->LeS ds (e x)): ∀p a,kP f n p=some a->LeK p (.ptr (e a)):=by
 intro p a h;unfold kP at h;split at h
 .exact LeP.trans_take (hf _ _ h)
 .cases h
theorem Qacb(k:Nat)(hf: ∀ds x,f ds=some x->LeS ds (e x))(hk: ∀x,(e x).length=k): ∀p a,kS f p=some a->LeK p (.val (.sl false k (a.map e))):=by
 intro p a h;unfold kS at h;split at h
 .exact Qbf (Qa2 hf _ _ h) (by simp only[ZaJ];rintro r ⟨y,_,rfl⟩;exact hk y)
 .cases h
end
def a1{A0:Type}(f0:PK->Option A0):List PK->Option (A0)
 |[x0]=>(f0 x0).bind fun y0=>some y0
 |_=>none
theorem Qacd{A0:Type}{f0:PK->Option A0}{e0:A0->PK}(h0: ∀p a,f0 p=some a->LeK p (e0 a)): ∀ps a,a1 f0 ps=some a->LeKL ps [e0 (a)]:=by
 intro ps a h;unfold a1 at h;split at h
 .simp only[ZaH,Zab] at h;obtain⟨y0,g0,rfl⟩:=h;exact⟨h0 _ _ g0,trivial⟩
 .cases h
def a2{A0 A1:Type}(f0:PK->Option A0)(f1:PK->Option A1):List PK->Option (A0×A1)
 |[x0,x1]=>(f0 x0).bind fun y0=>(f1 x1).bind fun y1=>some (y0,y1)
 |_=>none
theorem Qaca{A0:Type}{f0:PK->Option A0}{e0:A0->PK}{A1:Type}{f1:PK->Option A1}{e1:A1->PK}(h0: ∀p a,f0 p=some a->LeK p (e0 a))(h1: ∀p a,f1 p=some a->LeK p (e1 a)): ∀ps a,a2 f0 f1 ps=some a->LeKL ps [e0 (a.1),e1 (a.2)]:=by
 intro ps a h;unfold a2 at h;split at h
 .simp only[ZaH,Zab] at h;obtain⟨y0,g0,y1,g1,rfl⟩:=h;exact⟨h0 _ _ g0,h1 _ _ g1,trivial⟩
 .cases h
def a3{A0 A1 A2:Type}(f0:PK->Option A0)(f1:PK->Option A1)(f2:PK->Option A2):List PK->Option (A0×A1×A2)
 |[x0,x1,x2]=>(f0 x0).bind fun y0=>(f1 x1).bind fun y1=>(f2 x2).bind fun y2=>some (y0,y1,y2)
 |_=>none
theorem Qace{A0:Type}{f0:PK->Option A0}{e0:A0->PK}{A1:Type}{f1:PK->Option A1}{e1:A1->PK}{A2:Type}{f2:PK->Option A2}{e2:A2->PK}(h0: ∀p a,f0 p=some a->LeK p (e0 a))(h1: ∀p a,f1 p=some a->LeK p (e1 a))(h2: ∀p a,f2 p=some a->LeK p (e2 a)): ∀ps a,a3 f0 f1 f2 ps=some a->LeKL ps [e0 (a.1),e1 (a.2.1),e2 (a.2.2)]:=by
 intro ps a h;unfold a3 at h;split at h
 .simp only[ZaH,Zab] at h;obtain⟨y0,g0,y1,g1,y2,g2,rfl⟩:=h;exact⟨h0 _ _ g0,h1 _ _ g1,h2 _ _ g2,trivial⟩
 .cases h
def a4{A0 A1 A2 A3:Type}(f0:PK->Option A0)(f1:PK->Option A1)(f2:PK->Option A2)(f3:PK->Option A3):List PK->Option (A0×A1×A2×A3)
 |[x0,x1,x2,x3]=>(f0 x0).bind fun y0=>(f1 x1).bind fun y1=>(f2 x2).bind fun y2=>(f3 x3).bind fun y3=>some (y0,y1,y2,y3)
 |_=>none
theorem a4_le{A0:Type}{f0:PK->Option A0}{e0:A0->PK}{A1:Type}{f1:PK->Option A1}{e1:A1->PK}{A2:Type}{f2:PK->Option A2}{e2:A2->PK}{A3:Type}{f3:PK->Option A3}{e3:A3->PK}(h0: ∀p a,f0 p=some a->LeK p (e0 a))(h1: ∀p a,f1 p=some a->LeK p (e1 a))(h2: ∀p a,f2 p=some a->LeK p (e2 a))(h3: ∀p a,f3 p=some a->LeK p (e3 a)): ∀ps a,a4 f0 f1 f2 f3 ps=some a->LeKL ps [e0 (a.1),e1 (a.2.1),e2 (a.2.2.1),e3 (a.2.2.2)]:=by
 intro ps a h;unfold a4 at h;split at h
 .simp only[ZaH,Zab] at h;obtain⟨y0,g0,y1,g1,y2,g2,y3,g3,rfl⟩:=h;exact⟨h0 _ _ g0,h1 _ _ g1,h2 _ _ g2,h3 _ _ g3,trivial⟩
 .cases h
def a5{A0 A1 A2 A3 A4:Type}(f0:PK->Option A0)(f1:PK->Option A1)(f2:PK->Option A2)(f3:PK->Option A3)(f4:PK->Option A4):List PK->Option (A0×A1×A2×A3×A4)
 |[x0,x1,x2,x3,x4]=>(f0 x0).bind fun y0=>(f1 x1).bind fun y1=>(f2 x2).bind fun y2=>(f3 x3).bind fun y3=>(f4 x4).bind fun y4=>some (y0,y1,y2,y3,y4)
 |_=>none
def a6{A0 A1 A2 A3 A4 A5:Type}(f0:PK->Option A0)(f1:PK->Option A1)(f2:PK->Option A2)(f3:PK->Option A3)(f4:PK->Option A4)(f5:PK->Option A5):List PK->Option (A0×A1×A2×A3×A4×A5)
 |[x0,x1,x2,x3,x4,x5]=>(f0 x0).bind fun y0=>(f1 x1).bind fun y1=>(f2 x2).bind fun y2=>(f3 x3).bind fun y3=>(f4 x4).bind fun y4=>(f5 x5).bind fun y5=>some (y0,y1,y2,y3,y4,y5)
 |_=>none
def a7{A0 A1 A2 A3 A4 A5 A6:Type}(f0:PK->Option A0)(f1:PK->Option A1)(f2:PK->Option A2)(f3:PK->Option A3)(f4:PK->Option A4)(f5:PK->Option A5)(f6:PK->Option A6):List PK->Option (A0×A1×A2×A3×A4×A5×A6)
 |[x0,x1,x2,x3,x4,x5,x6]=>(f0 x0).bind fun y0=>(f1 x1).bind fun y1=>(f2 x2).bind fun y2=>(f3 x3).bind fun y3=>(f4 x4).bind fun y4=>(f5 x5).bind fun y5=>(f6 x6).bind fun y6=>some (y0,y1,y2,y3,y4,y5,y6)
 |_=>none
theorem tN{P:Program}:Qkj P (tab []):=Qaaq [] (by simp)
theorem tC{P:Program}{g:Nat}{r:Row}{l:List (Nat×Row)}(h:Qas P g r)(hl:Qkj P (tab l)):Qkj P (tab ((g,r)::l)):=by
 intro g' args h' nx K hk;simp only[tab] at hk;split at hk
 .rename_i he;subst he;exact h _ _ _ _ hk
 .exact hl _ _ _ _ _ hk
def ZA0:=J @VC0<|J @VC1<|J @VC2<|J @VC3<|J @VC4<|J @VC5<|J @VC6<|J @VC7<|J @VC8<|J @VC9<|J @VC10<|J @VC11<|J @VC12<|J @VC13<|J @VC14<|J @VC15<|J @VC16<|J @VC17<|J @VC18<|J @VC19<|J @VC20<|J @VC21<|J @VC22<|@VC23
def ZA1:=J @VC24<|J @VC25<|J @VC26<|J @VC27<|J @VC28<|J @VC29<|J @VC30<|J @VC31<|J @VC32<|J @VC33<|J @VC34<|J @VC35<|J @VC36<|J @VC37<|J @VC38<|J @VC39<|J @VC40<|J @VC41<|J @VC42<|J @Zdr.{0}<|J @ZbT<|J @Bool.not_eq_false'<|J @AV.im.injEq<|@D.int.injEq
def ZA2:=J @D.bool.injEq<|J @D.str.injEq<|J @D.sl.injEq<|J @D.agg.injEq<|J @AV.own.injEq<|J @AV.ptr.injEq<|J @Zbc.{0,0}<|J @AObj.cells.injEq<|J @AObj.arr.injEq<|J @Zdc.{0}<|J @Int.cast_ofNat_Int<|J @Int.ofNat_lt<|J @Int.ofNat_le<|J @Int.natCast_nonneg<|J @ZdG<|J @Zck<|J @Zah<|J @ZbO<|J @blt_dec<|J @ble_dec<|J @decide_true<|J @ZeN<|J @Zap<|@Zbi
def ZA3:=J @Zch<|J @Zan.{0,0}<|J @ZaR.{0,0}<|J @ZbW.{0}<|J @ZbM.{0}<|J @ZbI.{0}<|J @Zbm.{0}<|J @ZeW.{0}<|J @ZeX.{0}<|J @Zbe.{1}<|J @ZaV.{1}<|J @ZaN.{0}<|J @ZaS.{0}<|J @ne_eq.{1}<|J @ZbA.{0}<|J @ZaF.{0}<|J @ZaI.{0}<|J @ZaG.{0}<|J @ZbH.{0}<|J @and_true<|J @Zdb<|J @ZdN<|J @not_true_eq_false<|@or_true
def ZA4:=J @true_or<|J @ZaP<|J @ZbL<|J @ZdS<|J @Zfb<|J @false_or<|J @Zcx.{0}<|J @ZcE.{0}<|J @Zcv<|J @ZeA<|J @ZeB<|J @ZdW<|J @ZdH<|J @ZcM<|J @true_implies<|J @false_implies<|J @Zby.{0,0}<|J @Zbg<|J @Zbo<|J @Zbr<|J @Zdk<|J @ZcZ.{0}<|J @Option.isSome_some.{0}<|@Bool.false_bne
def ZA5:=J @Bool.true_bne<|J @Bool.not_not<|J @Zal<|J @Zak<|J @eq_self.{1}<|J @Zex.{0}<|J @Bool.true_eq_false<|J @Zax<|J @TY0<|J @TY1<|J @TY2<|J @TY3<|J @TY4<|J @KY0<|J @KY1<|J @CY0<|J @kI.eq_1<|J @kI.eq_2<|J @kU.eq_1<|J @kU.eq_2<|J @kY.eq_1<|J @kY.eq_2<|J @kB.eq_1<|@kB.eq_2
def ZA6:=J @kT.eq_1<|J @kT.eq_2<|J @kR.eq_1<|J @kR.eq_2<|J @kP.eq_1<|J @kP.eq_2<|J @kS.eq_1<|J @kS.eq_2<|J @a1.eq_1<|J @a1.eq_2<|J @a2.eq_1<|J @a2.eq_2<|J @a3.eq_1<|J @a3.eq_2<|J @a4.eq_1<|J @a4.eq_2<|J @a5.eq_1<|J @a5.eq_2<|J @a6.eq_1<|J @a6.eq_2<|J @a7.eq_1<|J @a7.eq_2<|J @decR.eq_1<|@decR.eq_2
def ZA7:=J @RowVC_map<|J @intD.eq_1<|J @intD.eq_2<|J @strD.eq_1<|J @strD.eq_2<|J @intC.eq_1<|J @strC.eq_1<|J @Qmp<|J @strD_R<|J @vInt.eq_1<|J @vInt.eq_2<|J @vStr.eq_1<|J @vStr.eq_2<|J @Qa8.eq_1<|J @Qa8.eq_2<|J @vSl.eq_1<|J @vSl.eq_2<|J @vAgg.eq_1<|J @vAgg.eq_2<|J @Qfa.eq_1<|J @Qfa.eq_2<|J @Qac1.eq_1<|J @Qac1.eq_2<|@Qae.c.eq_1
def ZA8:=J @Qae.d.eq_1<|J @Qae.d.eq_2<|J @Qab.c.eq_1<|J @Qab.d.eq_1<|J @Qab.d.eq_2<|J @Qab.d_R<|J @Asm.c.eq_1<|J @Glue.c.eq_1<|J @Glue.d.eq_1<|J @Glue.d.eq_2<|J @Glue.d_R<|J @Tile.c.eq_1<|J @Tile.d.eq_1<|J @Tile.d.eq_2<|J @Tile.d_R<|J @Qaa.c.eq_1<|J @Qaa.d.eq_1<|J @Qaa.d.eq_2<|J @Qar.c.eq_1<|J @Qar.d.eq_1<|J @Qar.d.eq_2<|J @Opt.c.eq_1<|J @Opt.d.eq_1<|@Opt.d.eq_2
def ZA9:=J @Opt.d_R<|J @Sim.c.eq_1<|J @Sim.d.eq_1<|J @Sim.d.eq_2<|J @Bond.c.eq_1<|J @Bond.d.eq_1<|J @Bond.d.eq_2<|J @Bond.d_R<|J @ZaO.{0,0}<|J @Zab.{0}<|J @Zbs.{0,0}<|J @Qae.d_R<|J @Qae.eta<|J @Qab.eta<|J @Asm.eta<|J @Glue.eta<|J @Tile.eta<|J @Qaa.eta<|J @Qar.eta<|J @Opt.eta<|J @Sim.eta<|J @Bond.eta<|J @Cry.c.eq_1<|@Cry.d.eq_1
def ZA10:=J @Cry.d.eq_2<|J @Cry.eta<|J @Qmt<|J @Qk8<|J @Qqj<|J @rchL_nil<|J @rchL_cons<|J @rchE.eq_1<|J @rchE.eq_2<|J @rchE.eq_3<|J @Zbf.{0,0}<|@Zdi.{0,0}
def ZA:=J @ZA0<|J @ZA1<|J @ZA2<|J @ZA3<|J @ZA4<|J @ZA5<|J @ZA6<|J @ZA7<|J @ZA8<|J @ZA9<|@ZA10
def ZT0:=J @ChVC.eq_1<|J @Qcd.eq_1<|J @Qpb.eq_1<|J @Qpb.eq_2<|J @sintD_R<|J @Net.c.eq_1<|J @Net.d.eq_1<|J @Net.d.eq_2<|J @Net.eta<|J @Nwk.c.eq_1<|J @Nwk.d.eq_1<|J @Nwk.d.eq_2<|J @Nwk.eta<|J @Pld.c.eq_1<|J @Pld.d.eq_1<|J @Pld.d.eq_2<|J @Qajo.c.eq_1<|J @Qajo.d.eq_1<|J @Qajo.d.eq_2<|J @Frac.c.eq_1<|J @Frac.d.eq_1<|J @Frac.d.eq_2<|J @Pld.eta<|@Qajo.eta
def ZT1:= @Frac.eta
def ZT:=J @ZT0 (@ZT1)
def ORC:=J @OneR_map<|J @Qag<|J @Qac<|J @Qaf @OneR_imp
def ORB:=J ORC (J @Zbk.{0} @ZbX.{0})
theorem Adq(b:Bool)(k:Nat)(x:List (List D)):Asm.d [.sl b k x]=(decR Qab.d x).bind fun y=>some ⟨y⟩:=rfl
def ZZ:=J ZA (J ZT @Adq)
theorem vq{A:Type}{ar:List PK->Option A}{pre:A->Prop}{re:A->D}(r:Row)(e:r=vrow ar pre re)(a:List AV)(h:Nat->Option Ent)(n:Nat)(K:Kont):r a h n K=vrow1 ar pre re (nmsL a) K (pkL h a):=by rw[e];rfl
theorem vqF{A:Type}{ar:List PK->Option A}{pre:A->Prop}{re:A->D}(r:Row)(e:r=Qfi ar pre re)(a:List AV)(h:Nat->Option Ent)(n:Nat)(K:Kont):r a h n K=Qct ar pre re (rchL h a) K (pkFL h a):=by rw[e];rfl
end Go.Ae
namespace Go.Ae
open Go.Proofs
def Qau(n lo hi:Int):Bool:=decide (lo<=n) && decide (n<=hi)
def within_.ar:List PK->Option (Int×Int×Int):=a3 kI kI kI
def within_.ae(a:Int×Int×Int):List PK:=[.val (.int .i64 a.1),.val (.int .i64 a.2.1),.val (.int .i64 a.2.2)]
def within_.fv(a:Int×Int×Int):Bool:=(Qau) (a.1) (a.2.1) (a.2.2)
def within_.row:Row:=vrow within_.ar (fun a=>True) (fun a=>(D.bool) (within_.fv a))
def within_.q:=vq within_.row rfl
theorem within_.ok:Qas Tryz.prog 115 within_.row:=by
 refine Qaj Qaq tN Tryz.func115 rfl (by kernel_rfl) (by kernel_rfl) (ar:=within_.ar) (ae:=within_.ae) (Qace Qab9 Qab9 Qab9) (n:=3) (fun _=>rfl) (by decide) (rc:=(Qa8)) (re:=(D.bool)) (Qat) (f:=within_.fv) ?_;intro a hpre;simp only[Tryz.f115,Option.getD];simp(maxSteps:=9^9)(disch:=omega)only[ZZ,simprocAttr,rch,within_.ae,within_.fv];simp only[Qau];grind
def l00In.ar:List PK->Option (Int×Int×Int):=a3 kI kI kI
def l00In.ae(a:Int×Int×Int):List PK:=[.val (.int .i64 a.1),.val (.int .i64 a.2.1),.val (.int .i64 a.2.2)]
def l00In.fv(a:Int×Int×Int):Bool:=(Qau) (a.1) (a.2.1) (a.2.2)
def l00In.row:Row:=vrow l00In.ar (fun a=>True) (fun a=>(D.bool) (l00In.fv a))
def l00In.q:=vq l00In.row rfl
theorem l00In.ok:Qas Tryz.prog 100 l00In.row:=by
 refine Qaj Qaq tN Tryz.func100 rfl (by kernel_rfl) (by kernel_rfl) (ar:=l00In.ar) (ae:=l00In.ae) (Qace Qab9 Qab9 Qab9) (n:=3) (fun _=>rfl) (by decide) (rc:=(Qa8)) (re:=(D.bool)) (Qat) (f:=l00In.fv) ?_;intro a hpre;simp only[Tryz.f100,Option.getD];simp(maxSteps:=9^9)(disch:=omega)only[ZZ,simprocAttr,rch,l00In.ae,l00In.fv];simp only[Qau];grind
def I64(n:Int):Prop:= -9223372036854775808<=n/\n<=9223372036854775807
def isIndex.ar:List PK->Option (Int×Int):=a2 kI kI
def isIndex.ae(a:Int×Int):List PK:=[.val (.int .i64 a.1),.val (.int .i64 a.2)]
def isIndex.fv(a:Int×Int):Bool:=Qau a.1 0 (a.2 - 1)
def isIndex.row:Row:=vrow isIndex.ar (fun a=>0<=a.2/\I64 a.2) (fun a=>(D.bool) (isIndex.fv a))
def isIndex.q:=vq isIndex.row rfl
theorem isIndex.ok:Qas Tryz.prog 149 isIndex.row:=by
 refine Qaj Qaq (tC within_.ok tN) Tryz.func149 rfl (by kernel_rfl) (by kernel_rfl) (ar:=isIndex.ar) (ae:=isIndex.ae) (Qaca Qab9 Qab9) (n:=2) (fun _=>rfl) (by decide) (rc:=(Qa8)) (re:=(D.bool)) (Qat) (f:=isIndex.fv) ?_;intro a hpre;simp only[Tryz.f149,Option.getD];simp(maxSteps:=9^9)(disch:=omega)only[ZZ,simprocAttr,rch,isIndex.ae,isIndex.fv,within_.q,within_.ar,within_.fv];obtain⟨h1,h2,h3⟩:=hpre;rw[Qak (by omega) (by omega)]
def Qbi(p:Qae):Bool:=Qau p.X (-60) 60 && Qau p.Y (-60) 60
def ValidPoint.ar:List PK->Option (Qae):=a1 (kR Qae.d)
def ValidPoint.ae(a:Qae):List PK:=[.val (.agg (Qae.c a))]
def ValidPoint.fv(a:Qae):Bool:=(Qbi) a
def ValidPoint.row:Row:=vrow ValidPoint.ar (fun a=>True) (fun a=>(D.bool) (ValidPoint.fv a))
def ValidPoint.q:=vq ValidPoint.row rfl
theorem ValidPoint.ok:Qas Tryz.prog 150 ValidPoint.row:=by
 refine Qaj Qaq (tC within_.ok tN) Tryz.func150 rfl (by kernel_rfl) (by kernel_rfl) (ar:=ValidPoint.ar) (ae:=ValidPoint.ae) (Qacd (Qab8 Qae.d_le)) (n:=1) (fun _=>rfl) (by decide) (rc:=(Qa8)) (re:=(D.bool)) (Qat) (f:=ValidPoint.fv) ?_;intro a hpre;simp only[Tryz.f150,Option.getD];simp(maxSteps:=9^9)(disch:=omega)only[ZZ,simprocAttr,rch,ValidPoint.ae,ValidPoint.fv,within_.q,within_.ar,within_.fv];simp only[Qbi];grind
def l01Point.ar:List PK->Option (Qae):=a1 (kR Qae.d)
def l01Point.ae(a:Qae):List PK:=[.val (.agg (Qae.c a))]
def l01Point.fv(a:Qae):Bool:=(Qbi) a
def l01Point.row:Row:=vrow l01Point.ar (fun a=>True) (fun a=>(D.bool) (l01Point.fv a))
def l01Point.q:=vq l01Point.row rfl
theorem l01Point.ok:Qas Tryz.prog 142 l01Point.row:=by
 refine Qaj Qaq (tC l00In.ok tN) Tryz.func142 rfl (by kernel_rfl) (by kernel_rfl) (ar:=l01Point.ar) (ae:=l01Point.ae) (Qacd (Qab8 Qae.d_le)) (n:=1) (fun _=>rfl) (by decide) (rc:=(Qa8)) (re:=(D.bool)) (Qat) (f:=l01Point.fv) ?_;intro a hpre;simp only[Tryz.f142,Option.getD];simp(maxSteps:=9^9)(disch:=omega)only[ZZ,simprocAttr,rch,l01Point.ae,l01Point.fv,l00In.q,l00In.ar,l00In.fv];simp only[Qbi];grind
def isNaN.ar:List PK->Option (Int):=a1 kI
def isNaN.ae(a:Int):List PK:=[.val (.int .i64 a)]
def isNaN.fv(a:Int):Bool:=false && a==0
def isNaN.row:Row:=vrow isNaN.ar (fun a=>True) (fun a=>(D.bool) (isNaN.fv a))
def isNaN.q:=vq isNaN.row rfl
theorem isNaN.ok:Qas Tryz.prog 183 isNaN.row:=by
 refine Qaj Qaq tN Tryz.func183 rfl (by kernel_rfl) (by kernel_rfl) (ar:=isNaN.ar) (ae:=isNaN.ae) (Qacd Qab9) (n:=1) (fun _=>rfl) (by decide) (rc:=(Qa8)) (re:=(D.bool)) (Qat) (f:=isNaN.fv) ?_;intro a hpre;simp only[Tryz.f183,Option.getD];simp(maxSteps:=9^9)(disch:=omega)only[ZZ,simprocAttr,rch,isNaN.ae,isNaN.fv]
 try simp
def cmpI(a b:Int):Int:=if a<b then -1 else if b<a then 1 else 0
def Compare.ar:List PK->Option (Int×Int):=a2 kI kI
def Compare.ae(a:Int×Int):List PK:=[.val (.int .i64 a.1),.val (.int .i64 a.2)]
def Compare.fv(a:Int×Int):Int:=(cmpI) (a.1) (a.2)
def Compare.row:Row:=vrow Compare.ar (fun a=>True) (fun a=>(D.int .i64) (Compare.fv a))
def Compare.q:=vq Compare.row rfl
theorem Compare.ok:Qas Tryz.prog 156 Compare.row:=by
 refine Qaj Qaq (tC isNaN.ok tN) Tryz.func156 rfl (by kernel_rfl) (by kernel_rfl) (ar:=Compare.ar) (ae:=Compare.ae) (Qaca Qab9 Qab9) (n:=2) (fun _=>rfl) (by decide) (rc:=(vInt)) (re:=(D.int .i64)) (Qa3) (f:=Compare.fv) ?_;intro a hpre;simp only[Tryz.f156,Option.getD];simp(maxSteps:=9^9)(disch:=omega)only[ZZ,simprocAttr,rch,Compare.ae,Compare.fv,isNaN.q,isNaN.ar,isNaN.fv];simp only[cmpI];grind
def Qap(a b:Qae):Bool:=decide (a.Y<b.Y)||(decide (a.Y=b.Y) && decide (a.X<b.X))
def l_LessPoint.ar:List PK->Option (Qae×Qae):=a2 (kR Qae.d) (kR Qae.d)
def l_LessPoint.ae(a:Qae×Qae):List PK:=[.val (.agg (Qae.c a.1)),.val (.agg (Qae.c a.2))]
def l_LessPoint.fv(a:Qae×Qae):Bool:=(Qap) (a.1) (a.2)
def l_LessPoint.row:Row:=vrow l_LessPoint.ar (fun a=>True) (fun a=>(D.bool) (l_LessPoint.fv a))
def l_LessPoint.q:=vq l_LessPoint.row rfl
theorem l_LessPoint.ok:Qas Tryz.prog 99 l_LessPoint.row:=by
 refine Qaj Qaq tN Tryz.func99 rfl (by kernel_rfl) (by kernel_rfl) (ar:=l_LessPoint.ar) (ae:=l_LessPoint.ae) (Qaca (Qab8 Qae.d_le) (Qab8 Qae.d_le)) (n:=2) (fun _=>rfl) (by decide) (rc:=(Qa8)) (re:=(D.bool)) (Qat) (f:=l_LessPoint.fv) ?_;intro a hpre;simp only[Tryz.f99,Option.getD];simp(maxSteps:=9^9)(disch:=omega)only[ZZ,simprocAttr,rch,l_LessPoint.ae,l_LessPoint.fv];simp only[Qap]
 grind
def minI(a b:Int):Int:=if a<b then a else b
def maxI(a b:Int):Int:=if b<a then a else b
def l00Min.ar:List PK->Option (Int×Int):=a2 kI kI
def l00Min.ae(a:Int×Int):List PK:=[.val (.int .i64 a.1),.val (.int .i64 a.2)]
def l00Min.fv(a:Int×Int):Int:=(minI) (a.1) (a.2)
def l00Min.row:Row:=vrow l00Min.ar (fun a=>True) (fun a=>(D.int .i64) (l00Min.fv a))
def l00Min.q:=vq l00Min.row rfl
theorem l00Min.ok:Qas Tryz.prog 191 l00Min.row:=by
 refine Qaj Qaq tN Tryz.func191 rfl (by kernel_rfl) (by kernel_rfl) (ar:=l00Min.ar) (ae:=l00Min.ae) (Qaca Qab9 Qab9) (n:=2) (fun _=>rfl) (by decide) (rc:=(vInt)) (re:=(D.int .i64)) (Qa3) (f:=l00Min.fv) ?_;intro a hpre;simp only[Tryz.f191,Option.getD];simp(maxSteps:=9^9)(disch:=omega)only[ZZ,simprocAttr,rch,l00Min.ae,l00Min.fv];simp only[minI];grind
def l00Max.ar:List PK->Option (Int×Int):=a2 kI kI
def l00Max.ae(a:Int×Int):List PK:=[.val (.int .i64 a.1),.val (.int .i64 a.2)]
def l00Max.fv(a:Int×Int):Int:=(maxI) (a.1) (a.2)
def l00Max.row:Row:=vrow l00Max.ar (fun a=>True) (fun a=>(D.int .i64) (l00Max.fv a))
def l00Max.q:=vq l00Max.row rfl
theorem l00Max.ok:Qas Tryz.prog 192 l00Max.row:=by
 refine Qaj Qaq tN Tryz.func192 rfl (by kernel_rfl) (by kernel_rfl) (ar:=l00Max.ar) (ae:=l00Max.ae) (Qaca Qab9 Qab9) (n:=2) (fun _=>rfl) (by decide) (rc:=(vInt)) (re:=(D.int .i64)) (Qa3) (f:=l00Max.fv) ?_;intro a hpre;simp only[Tryz.f192,Option.getD];simp(maxSteps:=9^9)(disch:=omega)only[ZZ,simprocAttr,rch,l00Max.ae,l00Max.fv];simp only[maxI];grind
def Qlk(c:Int):Bool:=Qau c 97 122||Qau c 65 90
def Qtq(c:Int):Bool:=Qau c 48 57
def l01Letter.ar:List PK->Option (Int):=a1 kY
def l01Letter.ae(a:Int):List PK:=[.val (.int .u8 a)]
def l01Letter.fv(a:Int):Bool:=(Qlk) a
def l01Letter.row:Row:=vrow l01Letter.ar (fun a=>True) (fun a=>(D.bool) (l01Letter.fv a))
def l01Letter.q:=vq l01Letter.row rfl
theorem l01Letter.ok:Qas Tryz.prog 188 l01Letter.row:=by
 refine Qaj Qaq tN Tryz.func188 rfl (by kernel_rfl) (by kernel_rfl) (ar:=l01Letter.ar) (ae:=l01Letter.ae) (Qacd kY_le) (n:=1) (fun _=>rfl) (by decide) (rc:=(Qa8)) (re:=(D.bool)) (Qat) (f:=l01Letter.fv) ?_;intro a hpre;simp only[Tryz.f188,Option.getD];simp(maxSteps:=9^9)(disch:=omega)only[ZZ,simprocAttr,rch,l01Letter.ae,l01Letter.fv];simp only[Qlk,Qau];grind
def l01Digit.ar:List PK->Option (Int):=a1 kY
def l01Digit.ae(a:Int):List PK:=[.val (.int .u8 a)]
def l01Digit.fv(a:Int):Bool:=(Qtq) a
def l01Digit.row:Row:=vrow l01Digit.ar (fun a=>True) (fun a=>(D.bool) (l01Digit.fv a))
def l01Digit.q:=vq l01Digit.row rfl
theorem l01Digit.ok:Qas Tryz.prog 189 l01Digit.row:=by
 refine Qaj Qaq tN Tryz.func189 rfl (by kernel_rfl) (by kernel_rfl) (ar:=l01Digit.ar) (ae:=l01Digit.ae) (Qacd kY_le) (n:=1) (fun _=>rfl) (by decide) (rc:=(Qa8)) (re:=(D.bool)) (Qat) (f:=l01Digit.fv) ?_;intro a hpre;simp only[Tryz.f189,Option.getD];simp(maxSteps:=9^9)(disch:=omega)only[ZZ,simprocAttr,rch,l01Digit.ae,l01Digit.fv];simp only[Qtq,Qau];grind
def addP(a b:Qae):Qae:=⟨a.X+b.X,a.Y+b.Y⟩
def Qdy(p:Qae):Prop:= -1000000000<=p.X/\p.X<=1000000000/\ -1000000000<=p.Y/\p.Y<=1000000000
def plus.ar:List PK->Option (Qae×Qae):=a2 (kR Qae.d) (kR Qae.d)
def plus.ae(a:Qae×Qae):List PK:=[.val (.agg (Qae.c a.1)),.val (.agg (Qae.c a.2))]
def plus.fv(a:Qae×Qae):Qae:=(addP) (a.1) (a.2)
def plus.row:Row:=vrow plus.ar (fun a=>Qdy a.1/\Qdy a.2) (fun a=>(fun b=>D.agg (Qae.c b)) (plus.fv a))
def plus.q:=vq plus.row rfl
theorem plus.ok:Qas Tryz.prog 128 plus.row:=by
 refine Qaj Qaq tN Tryz.func128 rfl (by kernel_rfl) (by kernel_rfl) (ar:=plus.ar) (ae:=plus.ae) (Qaca (Qab8 Qae.d_le) (Qab8 Qae.d_le)) (n:=2) (fun _=>rfl) (by decide) (rc:=(vAgg Qae.d)) (re:=(fun b=>D.agg (Qae.c b))) (Qb1 Qae.d_le) (f:=plus.fv) ?_;intro a hpre;simp only[Tryz.f128,Option.getD];simp(maxSteps:=9^9)(disch:=omega)only[ZZ,simprocAttr,rch,plus.ae,plus.fv];obtain⟨⟨h1,h2,h3,h4⟩,h5,h6,h7,h8⟩:=hpre;rw[Qak (by omega) (by omega),Qak (by omega) (by omega)];rfl
def Qf7(p:Qae)(d:Int):Qae:=if d=0 then ⟨p.X,p.Y+1⟩ else if d=1 then ⟨p.X+1,p.Y⟩ else if d=2 then ⟨p.X,p.Y - 1⟩ else ⟨p.X - 1,p.Y⟩
def step_.ar:List PK->Option (Qae×Int):=a2 (kR Qae.d) kI
def step_.ae(a:Qae×Int):List PK:=[.val (.agg (Qae.c a.1)),.val (.int .i64 a.2)]
def step_.rc:D->Option (Qae):=vAgg Qae.d
def step_.re:Qae->D:=fun b=>D.agg (Qae.c b)
theorem step_.rle: ∀d b,step_.rc d=some b->Le d (step_.re b):=Qb1 Qae.d_le
def step_.fv(a:Qae×Int):Qae:=(Qf7) (a.1) (a.2)
def step_.row:Row:=vrow step_.ar (fun a=>Qdy a.1/\0<=a.2/\a.2<=3) (fun a=>step_.re (step_.fv a))
def step_.q:=vq step_.row rfl
theorem step_.ok:Qas Tryz.prog 89 step_.row:=by
 refine Qaj Qaq (tC plus.ok tN) Tryz.func89 rfl (by kernel_rfl) (by kernel_rfl) (ar:=step_.ar) (ae:=step_.ae) (Qaca (Qab8 Qae.d_le) Qab9) (n:=2) (fun _=>rfl) (by decide) (rc:=step_.rc) (re:=step_.re) step_.rle (f:=step_.fv) ?_;intro a hpre;simp only[Tryz.f89,Option.getD];obtain⟨p,d⟩:=a;obtain⟨hp,h1,h2⟩:=hpre;simp only at h1 h2 hp;rcases (by omega:d=0\/d=1\/d=2\/d=3) with rfl|rfl|rfl|rfl
 all_goals
  simp(maxSteps:=9^9)(disch:=omega)only[ZZ,simprocAttr,rch,step_.ae,step_.fv,step_.rc,plus.q,plus.ar,plus.fv];obtain⟨h3,h4,h5,h6⟩:=hp;refine⟨⟨⟨h3,h4,h5,h6⟩,by simp[Qdy]⟩,?_⟩;simp[Qf7,addP]<;>omega
def l01Step.ar:List PK->Option (Qae×Int):=a2 (kR Qae.d) kI
def l01Step.ae(a:Qae×Int):List PK:=[.val (.agg (Qae.c a.1)),.val (.int .i64 a.2)]
def l01Step.fv(a:Qae×Int):Qae:=(Qf7) (a.1) (a.2)
def l01Step.row:Row:=vrow l01Step.ar (fun a=>Qdy a.1/\0<=a.2/\a.2<=3) (fun a=>(fun b=>D.agg (Qae.c b)) (l01Step.fv a))
def l01Step.q:=vq l01Step.row rfl
theorem l01Step.ok:Qas Tryz.prog 120 l01Step.row:=by
 refine Qaj Qaq tN Tryz.func120 rfl (by kernel_rfl) (by kernel_rfl) (ar:=l01Step.ar) (ae:=l01Step.ae) (Qaca (Qab8 Qae.d_le) Qab9) (n:=2) (fun _=>rfl) (by decide) (rc:=(vAgg Qae.d)) (re:=(fun b=>D.agg (Qae.c b))) (Qb1 Qae.d_le) (f:=l01Step.fv) ?_;intro a hpre;simp only[Tryz.f120,Option.getD];simp(maxSteps:=9^9)(disch:=omega)only[ZZ,simprocAttr,rch,l01Step.ae,l01Step.fv];obtain⟨⟨h1,h2,h3,h4⟩,h5,h6⟩:=hpre;rw[Qak (by omega) (by omega),Qak (by omega) (by omega),Qak (by omega) (by omega),Qak (by omega) (by omega)];simp only[Qf7]
 grind
def Qgr:List Int->Int
 |[]=>0
 |x::r=>if x=0 then Qgr r else x
def Or.ar:List PK->Option ((List Int)):=a1 (kS intD)
def Or.ae(a:(List Int)):List PK:=[.val (.sl false 1 (a.map intC))]
def Or.fv(a:(List Int)):Int:=(Qgr) a
def Or.row:Row:=vrow Or.ar (fun a=>True) (fun a=>(D.int .i64) (Or.fv a))
def Or.q:=vq Or.row rfl
theorem Or.ok:Qas Tryz.prog 155 Or.row:=by
 refine Qaj Qaq tN Tryz.func155 rfl (by kernel_rfl) (by kernel_rfl) (ar:=Or.ar) (ae:=Or.ae) (Qacd (Qacb 1 Qb3 (fun _=>rfl))) (n:=1) (fun _=>rfl) (by decide) (rc:=(vInt)) (re:=(D.int .i64)) (Qa3) (f:=Or.fv) ?_;intro a hpre;simp only[Tryz.f155,Option.getD];simp(maxSteps:=9^9)(disch:=omega)only[ZZ,simprocAttr,rch,Or.ae,Or.fv];intro hlen;refine Qay.old ⟨{k:Nat//k<=a.length/\Qgr (a.drop k)=Qgr a},fun k=>⟨[(8,.im (.int .i64 k.1)),(7,.im (.int .i64 a.length)),(6,.im (.sl false 1 (a.map intC))),(3,.im (.int .i64 0)),(2,.im (.int .i64 0))],[],0⟩,fun k=>a.length - k.1,fun k=>⟨by simp[Qad.good,belT,belH,Qam,AV.bel,belL],Zal _⟩,⟨⟨0,by simp⟩,by simp(maxSteps:=9^9)(disch:=omega)only[ZZ,simprocAttr,rch,Or.ae,Or.fv,sub]⟩,fun k=> ?_⟩;obtain⟨k,hk1,hk2⟩:=k;simp(maxSteps:=9^9)(disch:=omega)only[ZZ,simprocAttr,rch,Or.ae,Or.fv,sub];simp only[Qal];refine⟨fun hk=>⟨hk,fun x hx=> ?_⟩,fun hk=> ?_⟩
 .have h1:a.drop k=x::a.drop (k+1):=by
   rw[ZbV hk];rw[Zae hk] at hx;rw[Zaa hx]
  rw[h1,Qgr] at hk2;refine⟨fun h=>by grind,fun h=>⟨⟨k+1,by omega,by grind⟩,by simp only;omega,?_⟩⟩;simp (disch:=omega) only[Qak];simp
 .have h1:a.drop k=[]:=Zau (by omega);rw[h1] at hk2;exact hk2
def comparePoints.ar:List PK->Option (Qae×Qae):=a2 (kR Qae.d) (kR Qae.d)
def comparePoints.ae(a:Qae×Qae):List PK:=[.val (.agg (Qae.c a.1)),.val (.agg (Qae.c a.2))]
def comparePoints.fv(a:Qae×Qae):Int:=(fun a b=>Qgr [cmpI a.Y b.Y,cmpI a.X b.X]) (a.1) (a.2)
def comparePoints.row:Row:=vrow comparePoints.ar (fun a=>True) (fun a=>(D.int .i64) (comparePoints.fv a))
def comparePoints.q:=vq comparePoints.row rfl
theorem comparePoints.ok:Qas Tryz.prog 112 comparePoints.row:=by
 refine Qaj Qaq (tC Compare.ok (tC Or.ok tN)) Tryz.func112 rfl (by kernel_rfl) (by kernel_rfl) (ar:=comparePoints.ar) (ae:=comparePoints.ae) (Qaca (Qab8 Qae.d_le) (Qab8 Qae.d_le)) (n:=2) (fun _=>rfl) (by decide) (rc:=(vInt)) (re:=(D.int .i64)) (Qa3) (f:=comparePoints.fv) ?_;intro a hpre;simp only[Tryz.f112,Option.getD];simp(maxSteps:=9^9)(disch:=omega)only[ZZ,simprocAttr,rch,comparePoints.ae,comparePoints.fv,Compare.q,Compare.ar,Compare.fv,Or.q,Or.ar,Or.fv]
def impl_LessPoint.ar:List PK->Option (Qae×Qae):=a2 (kR Qae.d) (kR Qae.d)
def impl_LessPoint.ae(a:Qae×Qae):List PK:=[.val (.agg (Qae.c a.1)),.val (.agg (Qae.c a.2))]
def impl_LessPoint.fv(a:Qae×Qae):Bool:=(Qap) (a.1) (a.2)
def impl_LessPoint.row:Row:=vrow impl_LessPoint.ar (fun a=>True) (fun a=>(D.bool) (impl_LessPoint.fv a))
def impl_LessPoint.q:=vq impl_LessPoint.row rfl
theorem impl_LessPoint.ok:Qas Tryz.prog 217 impl_LessPoint.row:=by
 refine Qaj Qaq (tC comparePoints.ok tN) Tryz.func217 rfl (by kernel_rfl) (by kernel_rfl) (ar:=impl_LessPoint.ar) (ae:=impl_LessPoint.ae) (Qaca (Qab8 Qae.d_le) (Qab8 Qae.d_le)) (n:=2) (fun _=>rfl) (by decide) (rc:=(Qa8)) (re:=(D.bool)) (Qat) (f:=impl_LessPoint.fv) ?_;intro a hpre;simp only[Tryz.f217,Option.getD];simp(maxSteps:=9^9)(disch:=omega)only[ZZ,simprocAttr,rch,impl_LessPoint.ae,impl_LessPoint.fv,comparePoints.q,comparePoints.ar,comparePoints.fv];simp only[Qap,Qgr,cmpI]
 grind
def Qc9(i:Nat)(c:Int):Bool:=Qlk c||(decide (i≠0) && (Qtq c||decide (c=95)))
def Qb2:Nat->List UInt8->Bool
 |_,[]=>true
 |i,c::r=>Qc9 i c.toNat && Qb2 (i+1) r
theorem Qaaz{a:ByteArray}{k:Nat}{c:UInt8}(hc:a.data[k]? =some c):a.data.toList.drop k=c::a.data.toList.drop (k+1):=by
 have h0:a.data.toList[k]? =some c:=by simpa using hc
 have hl:k<a.data.toList.length:=(Zaj.1 h0).1;rw[ZbV hl];rw[Zae hl] at h0;rw[Zaa h0]
theorem byteNone{a:ByteArray}{k:Nat}(h: ¬k<a.size):a.data.toList.drop k=[]:=Zau (by simpa using h)
def Qei(s:ByteArray):Bool:=Qb2 0 s.data.toList && (decide (1<=s.size) && decide (s.size<=12))
def impl_IsName.ar:List PK->Option (ByteArray):=a1 kT
def impl_IsName.ae(a:ByteArray):List PK:=[.val (.str a)]
def impl_IsName.fv(a:ByteArray):Bool:=(Qei) a
def impl_IsName.row:Row:=vrow impl_IsName.ar (fun a=>a.size<=140737488355328) (fun a=>(D.bool) (impl_IsName.fv a))
def impl_IsName.q:=vq impl_IsName.row rfl
def Yaa:=J @impl_IsName.ae.eq_1 @impl_IsName.fv.eq_1
theorem impl_IsName.ok:Qas Tryz.prog 175 impl_IsName.row:=by
 refine Qaj Qaq tN Tryz.func175 rfl (by kernel_rfl) (by kernel_rfl) (ar:=impl_IsName.ar) (ae:=impl_IsName.ae) (Qacd kT_le) (n:=1) (fun _=>rfl) (by decide) (rc:=(Qa8)) (re:=(D.bool)) (Qat) (f:=impl_IsName.fv) ?_;intro a hpre;simp only[Tryz.f175,Option.getD];simp(maxSteps:=9^9)(disch:=omega)only[ZZ,simprocAttr,rch,Yaa];refine Qay.old ⟨{k:Nat//k<=a.size/\Qb2 k (a.data.toList.drop k)=Qb2 0 a.data.toList},fun k=>⟨[(8,.im (.int .i64 k.1)),(7,.im (.int .i64 a.size)),(6,.im (.str a)),(0,.im (.str a)),(2,.im (.bool false))],[],0⟩,fun k=>a.size - k.1,fun k=>⟨by simp[Qad.good,belT,belH,Qam,AV.bel,belL],Zal _⟩,⟨⟨0,by simp⟩,by simp(maxSteps:=9^9)(disch:=omega)only[ZZ,simprocAttr,rch,Yaa,sub]⟩,fun k=> ?_⟩;obtain⟨k,hk1,hk2⟩:=k;simp(maxSteps:=9^9)(disch:=omega)only[ZA,simprocAttr,Asm.d,rch,impl_IsName.ae,impl_IsName.fv,sub]
 split<;>rename_i hk
 .refine⟨hk,?_⟩;intro c hc;have hd:a.data.toList.drop k=c::a.data.toList.drop (k+1):=by
   have hl:k<a.data.toList.length:=by simpa using hk
   rw[ZbV hl]
   have:a.data.toList[k]? =some c:=by simpa using hc
   rw[Zae hl] at this;rw[Zaa this]
  rw[hd,Qb2] at hk2;by_cases e1:(97:Int)<=c.toNat<;>by_cases e2:(c.toNat:Int)<=122<;>(try (exfalso;omega))<;>by_cases e3:(65:Int)<=c.toNat<;>(try (exfalso;omega))<;>by_cases e4:(c.toNat:Int)<=90<;>(try (exfalso;omega))<;>
   by_cases e5:(c.toNat:Int)<48<;>(try (exfalso;omega))<;>by_cases e6:(57:Int)<c.toNat<;>(try (exfalso;omega))<;>by_cases e7:(c.toNat:Int)=95<;>(try (exfalso;omega))<;>by_cases e8:(k:Int)=0
  all_goals
   have e9:(48:Int)<=c.toNat↔ ¬(c.toNat:Int)<48:=by omega
   have e10:(c.toNat:Int)<=57↔ ¬(57:Int)<c.toNat:=by omega
   have e11:k=0↔(k:Int)=0:=by omega
   have hb:Qc9 k c.toNat=Qc9 k c.toNat:=rfl
   conv at hb=>
    rhs
    simp only[Qc9,Qlk,Qtq,Qau,e1,e2,e3,e4,e5,e6,e7,e8,e9,e10,e11,ne_eq,decide_true,ZeN,Zbg,Zdk,ZeA,Zcv,ZeB,ZdW,Zbo,Zbr,not_true_eq_false,ZdN]
   rw[hb] at hk2;simp(maxSteps:=9^9)(disch:=omega)only[ZZ,simprocAttr,rch,Yaa,sub,e1,e2,e3,e4,e5,e6,e7,e8]
   first
    |(simp only[Zbr] at hk2
      simp only[Qei,<-hk2,Zbr])
    |(simp only[Zbo] at hk2
      refine⟨⟨k+1,by omega,hk2⟩,by simp only;omega,?_⟩;rw[Qak (by omega) (by omega)];simp only
      omega)
    |(have h9:Qb2 0 a.data.toList=false:=by rw[<-hk2];simp
      simp[Qei,h9])
 .have:a.data.toList.drop k=[]:=Zau (by simpa using hk)
  rw[this,Qb2] at hk2;simp only[Qei]
  grind
def spec_IsName.ar:List PK->Option (ByteArray):=a1 kT
def spec_IsName.ae(a:ByteArray):List PK:=[.val (.str a)]
def spec_IsName.fv(a:ByteArray):Bool:=(Qei) a
def spec_IsName.row:Row:=vrow spec_IsName.ar (fun a=>True) (fun a=>(D.bool) (spec_IsName.fv a))
def spec_IsName.q:=vq spec_IsName.row rfl
def Yab:=J @spec_IsName.ae.eq_1<|J @spec_IsName.fv.eq_1<|J @l01Letter.q<|J @l01Letter.ar.eq_1<|J @l01Letter.fv.eq_1<|J @l01Digit.q<|J @l01Digit.ar.eq_1 @l01Digit.fv.eq_1
theorem spec_IsName.ok:Qas Tryz.prog 166 spec_IsName.row:=by
 refine Qaj Qaq (tC l01Letter.ok (tC l01Digit.ok tN)) Tryz.func166 rfl (by kernel_rfl) (by kernel_rfl) (ar:=spec_IsName.ar) (ae:=spec_IsName.ae) (Qacd kT_le) (n:=1) (fun _=>rfl) (by decide) (rc:=(Qa8)) (re:=(D.bool)) (Qat) (f:=spec_IsName.fv) ?_;intro a hpre;simp only[Tryz.f166,Option.getD];simp(maxSteps:=9^9)(disch:=omega)only[ZA,simprocAttr,Asm.d,rch,spec_IsName.ae,spec_IsName.fv,l01Letter.q,l01Letter.ar,l01Letter.fv,l01Digit.q,l01Digit.ar,l01Digit.fv,Qal];refine⟨fun h1=>⟨fun h2=>⟨by omega,?_⟩,fun h2=> ?_⟩,fun h1=> ?_⟩
 .intro c hc;have hd:=Qaaz hc;rw[ZbM] at hd;cases hL:Qlk c.toNat
  .simp(maxSteps:=9^9)(disch:=omega)only[ZZ,simprocAttr,rch,Yab,hL];have h9:Qb2 0 a.data.toList=false:=by rw[hd];simp[Qb2,Qc9,hL]
   simp[Qei,h9]
  .simp(maxSteps:=9^9)(disch:=omega)only[ZZ,simprocAttr,rch,Yab,hL];refine Qay.old ⟨{k:Nat//1<=k/\k<=a.size/\Qb2 k (a.data.toList.drop k)=Qb2 0 a.data.toList},fun k=>⟨[(3,.im (.int .i64 k.1)),(0,.im (.str a)),(2,.im (.bool false))],[],0⟩,fun k=>a.size - k.1,fun k=>⟨by simp[Qad.good,belT,belH,Qam,AV.bel,belL],Zal _⟩,⟨⟨1,by omega,by omega,?_⟩,by simp(maxSteps:=9^9)(disch:=omega)only[ZZ,simprocAttr,rch,Yab,sub]⟩,fun k=> ?_⟩
   .conv=>rhs;rw[hd]
    simp[Qb2,Qc9,hL]
   .obtain⟨k,hk0,hk1,hk2⟩:=k;simp(maxSteps:=9^9)(disch:=omega)only[ZA,simprocAttr,Asm.d,rch,spec_IsName.ae,spec_IsName.fv,l01Letter.q,l01Letter.ar,l01Letter.fv,l01Digit.q,l01Digit.ar,l01Digit.fv,sub,Qal];refine⟨fun hk=>⟨hk,fun c2 hc2=> ?_⟩,fun hk=> ?_⟩
    .rw[Qaaz hc2,Qb2] at hk2;simp(maxSteps:=9^9)(disch:=omega)only[ZZ,simprocAttr,rch,Yab,sub,Qal];have hok:Qc9 k c2.toNat=true->Qb2 (k+1) (a.data.toList.drop (k+1))=Qb2 0 a.data.toList:=by
      intro h;rw[h] at hk2;simpa using hk2
     have hno:Qc9 k c2.toNat=false->false=Qei a:=by
      intro h;rw[h] at hk2;have h9:Qb2 0 a.data.toList=false:=by rw[<-hk2];simp
      simp[Qei,h9]
     have hfin:Qc9 k c2.toNat=true-> ∃b':{k:Nat//1<=k/\k<=a.size/\Qb2 k (a.data.toList.drop k)=Qb2 0 a.data.toList},a.size - b'.val<a.size - k/\IntKind.wrap .i64 ((k:Int)+1)=b'.val:=by
      intro h;refine⟨⟨k+1,by omega,by omega,hok h⟩,by simp only;omega,?_⟩;rw[Qak (by omega) (by omega)];simp only;omega
     have hk9:k≠0:=by omega
     refine⟨fun l=>⟨hk,fun c3 hc3=> ?_⟩,fun l=> ?_⟩
     .rw[hc2] at hc3;obtain rfl:=Zaa hc3;refine⟨fun l2=>⟨hk,fun c3 hc3=> ?_⟩,fun l2=> ?_⟩
      .rw[hc2] at hc3;obtain rfl:=Zaa hc3;refine⟨fun l3=>hno ?_,fun l3=>hfin ?_⟩
       .simp[Qc9,l,l2,l3]
       .simp only[Zbl] at l3;simp[Qc9,l3,hk9]
      .refine hfin ?_;simp only[Zbb] at l2;simp[Qc9,l2,hk9]
     .refine hfin ?_;simp only[Zbb] at l;simp[Qc9,l]
    .rw[byteNone hk,Qb2] at hk2;simp only[Qei]
     grind
 .simp only[Qei];grind
 .simp only[Qei];grind
theorem Qli{A:Type}{B:Type}(f:A->B)(z:B)(a:List A)(k:Nat)(x:A)(hx:a[k]? =some x):
 ((a.take k).map f++List.replicate (a.length - k) z).set k (f x)=(a.take (k+1)).map f++List.replicate (a.length - (k+1)) z:=by
 have hk:k<a.length:=(Zaj.1 hx).1;have h1:a.take (k+1)=a.take k++[x]:=by
  rw[Zbx,hx];rfl
 have h2:a.length - k=(a.length - (k+1))+1:=by omega
 rw[h1,h2,Zeb,Zbz,Zbv,Zdt _ _ (by simp;omega)];have h3:k - (List.map f (List.take k a)).length=0:=by simp;omega
 rw[h3];rfl
theorem Qj5{A:Type}{B:Type}(f:A->B)(z:B)(a:List A)(k:Nat)(x:A)(hx:a[k]? =some x):
 ((a.take k).map f++List.replicate (a.length - k) z)[k]? =some z:=by
 have hk:k<a.length:=(Zaj.1 hx).1;rw[ZaE (by simp;omega)];have h3:k - (List.map f (List.take k a)).length=0:=by simp;omega
 rw[h3,Zbt,Zam (by omega)]
theorem Qk2{A:Type}{B:Type}(f:A->B)(z:B)(a:List A)(k:Nat)(hk:k<=a.length):((a.take k).map f++List.replicate (a.length - k) z).length=a.length:=by
 simp;omega
theorem Qkp{A:Type}{B:Type}(f:A->B)(z:B)(a:List A)(k:Nat)(hk:a.length<=k):(a.take k).map f++List.replicate (a.length - k) z=a.map f:=by
 rw[ZaA hk,show a.length - k=0 by omega];simp
def toPoint.ar:List PK->Option (Qae):=a1 (kR Qae.d)
def toPoint.ae(a:Qae):List PK:=[.val (.agg (Qae.c a))]
def toPoint.fv(a:Qae):Qae:=(fun p=>p) a
def toPoint.row:Row:=vrow toPoint.ar (fun a=>True) (fun a=>(fun b=>D.agg (Qae.c b)) (toPoint.fv a))
def toPoint.q:=vq toPoint.row rfl
theorem toPoint.ok:Qas Tryz.prog 67 toPoint.row:=by
 refine Qaj Qaq tN Tryz.func67 rfl (by kernel_rfl) (by kernel_rfl) (ar:=toPoint.ar) (ae:=toPoint.ae) (Qacd (Qab8 Qae.d_le)) (n:=1) (fun _=>rfl) (by decide) (rc:=(vAgg Qae.d)) (re:=(fun b=>D.agg (Qae.c b))) (Qb1 Qae.d_le) (f:=toPoint.fv) ?_;intro a hpre;simp only[Tryz.f67,Option.getD];simp(maxSteps:=9^9)(disch:=omega)only[ZZ,simprocAttr,rch,toPoint.ae,toPoint.fv]
def toPlaced.ar:List PK->Option (Qab):=a1 (kR Qab.d)
def toPlaced.ae(a:Qab):List PK:=[.val (.agg (Qab.c a))]
def toPlaced.fv(a:Qab):Qab:=(fun p=>p) a
def toPlaced.row:Row:=vrow toPlaced.ar (fun a=>True) (fun a=>(fun b=>D.agg (Qab.c b)) (toPlaced.fv a))
def toPlaced.q:=vq toPlaced.row rfl
theorem toPlaced.ok:Qas Tryz.prog 103 toPlaced.row:=by
 refine Qaj Qaq (tC toPoint.ok tN) Tryz.func103 rfl (by kernel_rfl) (by kernel_rfl) (ar:=toPlaced.ar) (ae:=toPlaced.ae) (Qacd (Qab8 Qab.d_le)) (n:=1) (fun _=>rfl) (by decide) (rc:=(vAgg Qab.d)) (re:=(fun b=>D.agg (Qab.c b))) (Qb1 Qab.d_le) (f:=toPlaced.fv) ?_;intro a hpre;simp only[Tryz.f103,Option.getD];simp(maxSteps:=9^9)(disch:=omega)only[ZZ,simprocAttr,rch,toPlaced.ae,toPlaced.fv,toPoint.q,toPoint.ar,toPoint.fv]
def toOption.ar:List PK->Option (Opt):=a1 (kR Opt.d)
def toOption.ae(a:Opt):List PK:=[.val (.agg (Opt.c a))]
def toOption.fv(a:Opt):Opt:=(fun p=>p) a
def toOption.row:Row:=vrow toOption.ar (fun a=>True) (fun a=>(fun b=>D.agg (Opt.c b)) (toOption.fv a))
def toOption.q:=vq toOption.row rfl
theorem toOption.ok:Qas Tryz.prog 34 toOption.row:=by
 refine Qaj Qaq (tC toPoint.ok tN) Tryz.func34 rfl (by kernel_rfl) (by kernel_rfl) (ar:=toOption.ar) (ae:=toOption.ae) (Qacd (Qab8 Opt.d_le)) (n:=1) (fun _=>rfl) (by decide) (rc:=(vAgg Opt.d)) (re:=(fun b=>D.agg (Opt.c b))) (Qb1 Opt.d_le) (f:=toOption.fv) ?_;intro a hpre;simp only[Tryz.f34,Option.getD];simp(maxSteps:=9^9)(disch:=omega)only[ZZ,simprocAttr,rch,toOption.ae,toOption.fv,toPoint.q,toPoint.ar,toPoint.fv]
def toGlue.ar:List PK->Option (Glue):=a1 (kR Glue.d)
def toGlue.ae(a:Glue):List PK:=[.val (.agg (Glue.c a))]
def toGlue.fv(a:Glue):Glue:=(fun p=>p) a
def toGlue.row:Row:=vrow toGlue.ar (fun a=>True) (fun a=>(fun b=>D.agg (Glue.c b)) (toGlue.fv a))
def toGlue.q:=vq toGlue.row rfl
theorem toGlue.ok:Qas Tryz.prog 101 toGlue.row:=by
 refine Qaj Qaq tN Tryz.func101 rfl (by kernel_rfl) (by kernel_rfl) (ar:=toGlue.ar) (ae:=toGlue.ae) (Qacd (Qab8 Glue.d_le)) (n:=1) (fun _=>rfl) (by decide) (rc:=(vAgg Glue.d)) (re:=(fun b=>D.agg (Glue.c b))) (Qb1 Glue.d_le) (f:=toGlue.fv) ?_;intro a hpre;simp only[Tryz.f101,Option.getD];simp(maxSteps:=9^9)(disch:=omega)only[ZZ,simprocAttr,rch,toGlue.ae,toGlue.fv]
def toInt64S.ar:List PK->Option ((List Int)):=a1 (kS intD)
def toInt64S.ae(a:(List Int)):List PK:=[.val (.sl false 1 (a.map intC))]
def toInt64S.fv(a:(List Int)):List Int:=(fun p=>p) a
def toInt64S.row:Row:=vrow toInt64S.ar (fun a=>a.length<=1073741824) (fun a=>(fun b=>D.sl false 1 (b.map intC)) (toInt64S.fv a))
def toInt64S.q:=vq toInt64S.row rfl
def Yac:=J @toInt64S.ae.eq_1 @toInt64S.fv.eq_1
theorem toInt64S.ok:Qas Tryz.prog 11 toInt64S.row:=by
 refine Qaj Qaq tN Tryz.func11 rfl (by kernel_rfl) (by kernel_rfl) (ar:=toInt64S.ar) (ae:=toInt64S.ae) (Qacd (Qacb 1 Qb3 (fun _=>rfl))) (n:=1) (fun _=>rfl) (by decide) (rc:=(vSl intD)) (re:=(fun b=>D.sl false 1 (b.map intC))) (Qe8 Qb3 (fun _=>rfl)) (f:=toInt64S.fv) ?_;intro a hpre;simp only[Tryz.f11,Option.getD];simp(maxSteps:=9^9)(disch:=omega)only[ZZ,simprocAttr,rch,Yac];intro hlen;refine⟨by omega,?_⟩;refine Qay.old ⟨{k:Nat//k<=a.length},fun k=>⟨[(4,.im (.int .i64 k.1)),(3,.own 1),(0,.im (.sl false 1 (a.map intC)))],[(1,(true,.arr 2 1 ((a.take k.1).map intC++List.replicate (a.length - k.1) [.int .i64 0])))],2⟩,fun k=>a.length - k.1,fun k=>⟨by simp[Qad.good,belT,belH,Qam,AV.bel,belL],Zal _⟩,⟨⟨0,by omega⟩,by simp(maxSteps:=9^9)(disch:=omega)only[ZZ,simprocAttr,rch,Yac,sub];simp⟩,fun k=> ?_⟩;obtain⟨k,hk1⟩:=k;simp(maxSteps:=9^9)(disch:=omega)only[ZZ,simprocAttr,rch,Yac,sub,Qal,Qk2 _ _ a k hk1];intro _;refine⟨fun hk=>⟨hk,fun x hx=>⟨hk,hk,Qi3 (Qj5 intC [.int .i64 0] a k x hx) ?_⟩⟩,fun hk=> ?_⟩
 .simp(maxSteps:=9^9)(disch:=omega)only[ZZ,simprocAttr,rch,Yac,sub];refine⟨⟨k+1,by omega⟩,by simp only;omega,?_,?_⟩
  .rw[Qak (by omega) (by omega)];simp only;omega
  .exact Qli intC [.int .i64 0] a k x hx
 .rw[Qkp intC _ a k (by omega)];simp[Qmp]
def eqPoint.ar:List PK->Option (Qae×Qae):=a2 (kR Qae.d) (kR Qae.d)
def eqPoint.ae(a:Qae×Qae):List PK:=[.val (.agg (Qae.c a.1)),.val (.agg (Qae.c a.2))]
def eqPoint.fv(a:Qae×Qae):Bool:=(fun a b=>decide (a=b)) (a.1) (a.2)
def eqPoint.row:Row:=vrow eqPoint.ar (fun a=>True) (fun a=>(D.bool) (eqPoint.fv a))
def eqPoint.q:=vq eqPoint.row rfl
theorem eqPoint.ok:Qas Tryz.prog 22 eqPoint.row:=by
 refine Qaj Qaq tN Tryz.func22 rfl (by kernel_rfl) (by kernel_rfl) (ar:=eqPoint.ar) (ae:=eqPoint.ae) (Qaca (Qab8 Qae.d_le) (Qab8 Qae.d_le)) (n:=2) (fun _=>rfl) (by decide) (rc:=(Qa8)) (re:=(D.bool)) (Qat) (f:=eqPoint.fv) ?_;intro a hpre;simp only[Tryz.f22,Option.getD];simp(maxSteps:=9^9)(disch:=omega)only[ZZ,simprocAttr,rch,eqPoint.ae,eqPoint.fv];obtain⟨⟨x,y⟩,⟨z,w⟩⟩:=a;simp only[Qae.mk.injEq]
 grind
def eqPlaced.ar:List PK->Option (Qab×Qab):=a2 (kR Qab.d) (kR Qab.d)
def eqPlaced.ae(a:Qab×Qab):List PK:=[.val (.agg (Qab.c a.1)),.val (.agg (Qab.c a.2))]
def eqPlaced.fv(a:Qab×Qab):Bool:=(fun a b=>decide (a=b)) (a.1) (a.2)
def eqPlaced.row:Row:=vrow eqPlaced.ar (fun a=>True) (fun a=>(D.bool) (eqPlaced.fv a))
def eqPlaced.q:=vq eqPlaced.row rfl
theorem eqPlaced.ok:Qas Tryz.prog 118 eqPlaced.row:=by
 refine Qaj Qaq (tC eqPoint.ok tN) Tryz.func118 rfl (by kernel_rfl) (by kernel_rfl) (ar:=eqPlaced.ar) (ae:=eqPlaced.ae) (Qaca (Qab8 Qab.d_le) (Qab8 Qab.d_le)) (n:=2) (fun _=>rfl) (by decide) (rc:=(Qa8)) (re:=(D.bool)) (Qat) (f:=eqPlaced.fv) ?_;intro a hpre;simp only[Tryz.f118,Option.getD];simp(maxSteps:=9^9)(disch:=omega)only[ZZ,simprocAttr,rch,eqPlaced.ae,eqPlaced.fv,eqPoint.q,eqPoint.ar,eqPoint.fv];obtain⟨⟨⟨x,y⟩,u⟩,⟨⟨z,w⟩,v⟩⟩:=a;simp only[Qab.mk.injEq,Qae.mk.injEq]
 grind
def eqGlue.ar:List PK->Option (Glue×Glue):=a2 (kR Glue.d) (kR Glue.d)
def eqGlue.ae(a:Glue×Glue):List PK:=[.val (.agg (Glue.c a.1)),.val (.agg (Glue.c a.2))]
def eqGlue.fv(a:Glue×Glue):Bool:=(fun a b=>decide (a=b)) (a.1) (a.2)
def eqGlue.row:Row:=vrow eqGlue.ar (fun a=>True) (fun a=>(D.bool) (eqGlue.fv a))
def eqGlue.q:=vq eqGlue.row rfl
theorem eqGlue.ok:Qas Tryz.prog 116 eqGlue.row:=by
 refine Qaj Qaq tN Tryz.func116 rfl (by kernel_rfl) (by kernel_rfl) (ar:=eqGlue.ar) (ae:=eqGlue.ae) (Qaca (Qab8 Glue.d_le) (Qab8 Glue.d_le)) (n:=2) (fun _=>rfl) (by decide) (rc:=(Qa8)) (re:=(D.bool)) (Qat) (f:=eqGlue.fv) ?_;intro a hpre;simp only[Tryz.f116,Option.getD];simp(maxSteps:=9^9)(disch:=omega)only[ZZ,simprocAttr,rch,eqGlue.ae,eqGlue.fv];obtain⟨⟨x,y⟩,⟨z,w⟩⟩:=a;simp only[Glue.mk.injEq]
 grind
theorem Qew{A:Type}[DecidableEq A]{a b:List A}(hl:a.length=b.length){k:Nat}(hk:k<=a.length)(h:a.take k=b.take k){x y:A}(hx:a[k]? =some x)(hy:b[k]? =some y):
 (x=y->a.take (k+1)=b.take (k+1))/\(x≠y->a≠b):=by
 refine⟨fun hxy=> ?_,fun hxy hab=> ?_⟩
 .rw[Zbx,Zbx,h,hx,hy,hxy]
 .subst hab;rw[hx] at hy;exact hxy (Zaa hy)
def eqInt64S.ar:List PK->Option ((List Int)×(List Int)):=a2 (kS intD) (kS intD)
def eqInt64S.ae(a:(List Int)×(List Int)):List PK:=[.val (.sl false 1 (a.1.map intC)),.val (.sl false 1 (a.2.map intC))]
def eqInt64S.fv(a:(List Int)×(List Int)):Bool:=(fun a b=>decide (a=b)) (a.1) (a.2)
def eqInt64S.row:Row:=vrow eqInt64S.ar (fun a=>True) (fun a=>(D.bool) (eqInt64S.fv a))
def eqInt64S.q:=vq eqInt64S.row rfl
def Yad:=J @eqInt64S.ae.eq_1 @eqInt64S.fv.eq_1
theorem eqInt64S.ok:Qas Tryz.prog 16 eqInt64S.row:=by
 refine Qaj Qaq tN Tryz.func16 rfl (by kernel_rfl) (by kernel_rfl) (ar:=eqInt64S.ar) (ae:=eqInt64S.ae) (Qaca (Qacb 1 Qb3 (fun _=>rfl)) (Qacb 1 Qb3 (fun _=>rfl))) (n:=2) (fun _=>rfl) (by decide) (rc:=(Qa8)) (re:=(D.bool)) (Qat) (f:=eqInt64S.fv) ?_;intro a hpre;simp only[Tryz.f16,Option.getD];simp(maxSteps:=9^9)(disch:=omega)only[ZZ,simprocAttr,rch,Yad];intro h1 h2;simp only[Qal];refine⟨fun hl=> ?_,fun hl=> ?_⟩
 .have:a.1≠a.2:=fun h=>hl (by rw[h])
  simp[this]
 have hl:a.1.length=a.2.length:=by omega
 refine Qay.old ⟨{k:Nat//k<=a.1.length/\a.1.take k=a.2.take k},fun k=>⟨[(5,.im (.int .i64 k.1)),(4,.im (.bool false)),(0,.im (.sl false 1 (a.1.map intC))),(1,.im (.sl false 1 (a.2.map intC)))],[],0⟩,fun k=>a.1.length - k.1,fun k=>⟨by simp[Qad.good,belT,belH,Qam,AV.bel,belL],Zal _⟩,⟨⟨0,by simp⟩,by simp(maxSteps:=9^9)(disch:=omega)only[ZZ,simprocAttr,rch,Yad,sub]⟩,fun k=> ?_⟩;obtain⟨k,hk1,hk2⟩:=k;simp(maxSteps:=9^9)(disch:=omega)only[ZZ,simprocAttr,rch,Yad,sub,Qal];intro _;refine⟨fun hk=>⟨hk,fun x hx=>⟨by omega,fun y hy=> ?_⟩⟩,fun hk=> ?_⟩
 .obtain⟨g1,g2⟩:=Qew hl hk1 hk2 hx hy;exact⟨fun h=>by simp[g2 h],fun h=>Qb6 hk h1 ⟨by omega,g1 (by simpa using h)⟩⟩
 .rw[ZaA (by omega),ZaA (by omega)] at hk2;simp[hk2]
def szC(n:Int)(left:Int):Int:=if left - n<0 then -1 else left - n
def szInt64S.ar:List PK->Option ((List Int)×Int):=a2 (kS intD) kI
def szInt64S.ae(a:(List Int)×Int):List PK:=[.val (.sl false 1 (a.1.map intC)),.val (.int .i64 a.2)]
def szInt64S.fv(a:(List Int)×Int):Int:=(fun a l=>szC a.length l) (a.1) (a.2)
def szInt64S.row:Row:=vrow szInt64S.ar (fun a=> -1<=a.2/\a.2<=1048576) (fun a=>(D.int .i64) (szInt64S.fv a))
def szInt64S.q:=vq szInt64S.row rfl
theorem szInt64S.ok:Qas Tryz.prog 136 szInt64S.row:=by
 refine Qaj Qaq tN Tryz.func136 rfl (by kernel_rfl) (by kernel_rfl) (ar:=szInt64S.ar) (ae:=szInt64S.ae) (Qaca (Qacb 1 Qb3 (fun _=>rfl)) Qab9) (n:=2) (fun _=>rfl) (by decide) (rc:=(vInt)) (re:=(D.int .i64)) (Qa3) (f:=szInt64S.fv) ?_;intro a hpre;simp only[Tryz.f136,Option.getD];simp(maxSteps:=9^9)(disch:=omega)only[ZZ,simprocAttr,rch,szInt64S.ae,szInt64S.fv];intro h;rw[Qak (by omega) (by omega)];simp only[szC];grind
def szPlacedS.ar:List PK->Option ((List Qab)×Int):=a2 (kS Qab.d) kI
def szPlacedS.ae(a:(List Qab)×Int):List PK:=[.val (.sl false 3 (a.1.map Qab.c)),.val (.int .i64 a.2)]
def szPlacedS.fv(a:(List Qab)×Int):Int:=(fun a l=>szC a.length l) (a.1) (a.2)
def szPlacedS.row:Row:=vrow szPlacedS.ar (fun a=> -1<=a.2/\a.2<=1048576) (fun a=>(D.int .i64) (szPlacedS.fv a))
def szPlacedS.q:=vq szPlacedS.row rfl
theorem szPlacedS.ok:Qas Tryz.prog 54 szPlacedS.row:=by
 refine Qaj Qaq tN Tryz.func54 rfl (by kernel_rfl) (by kernel_rfl) (ar:=szPlacedS.ar) (ae:=szPlacedS.ae) (Qaca (Qacb 3 Qab.d_le (fun _=>rfl)) Qab9) (n:=2) (fun _=>rfl) (by decide) (rc:=(vInt)) (re:=(D.int .i64)) (Qa3) (f:=szPlacedS.fv) ?_;intro a hpre;simp only[Tryz.f54,Option.getD];simp(maxSteps:=9^9)(disch:=omega)only[ZZ,simprocAttr,rch,szPlacedS.ae,szPlacedS.fv];intro h;rw[Qak (by omega) (by omega)];simp only[szC];grind
def szAsm(a:Asm)(l:Int):Int:=szC a.Tiles.length l
def szAssembly.ar:List PK->Option (Asm×Int):=a2 (kR Asm.d) kI
def szAssembly.ae(a:Asm×Int):List PK:=[.val (.agg (Asm.c a.1)),.val (.int .i64 a.2)]
def szAssembly.fv(a:Asm×Int):Int:=(szAsm) (a.1) (a.2)
def szAssembly.row:Row:=vrow szAssembly.ar (fun a=> -1<=a.2/\a.2<=1048576) (fun a=>(D.int .i64) (szAssembly.fv a))
def szAssembly.q:=vq szAssembly.row rfl
theorem szAssembly.ok:Qas Tryz.prog 26 szAssembly.row:=by
 refine Qaj Qaq (tC szPlacedS.ok tN) Tryz.func26 rfl (by kernel_rfl) (by kernel_rfl) (ar:=szAssembly.ar) (ae:=szAssembly.ae) (Qaca (Qab8 Asm.d_le) Qab9) (n:=2) (fun _=>rfl) (by decide) (rc:=(vInt)) (re:=(D.int .i64)) (Qa3) (f:=szAssembly.fv) ?_;intro a hpre;simp only[Tryz.f26,Option.getD];simp(maxSteps:=9^9)(disch:=omega)only[ZZ,simprocAttr,rch,szAssembly.ae,szAssembly.fv,szPlacedS.q,szPlacedS.ar,szPlacedS.fv];refine⟨hpre,?_⟩;simp only[szAsm,szC];grind
def eqGlueS.ar:List PK->Option ((List Glue)×(List Glue)):=a2 (kS Glue.d) (kS Glue.d)
def eqGlueS.ae(a:(List Glue)×(List Glue)):List PK:=[.val (.sl false 2 (a.1.map Glue.c)),.val (.sl false 2 (a.2.map Glue.c))]
def eqGlueS.fv(a:(List Glue)×(List Glue)):Bool:=(fun a b=>decide (a=b)) (a.1) (a.2)
def eqGlueS.row:Row:=vrow eqGlueS.ar (fun a=>True) (fun a=>(D.bool) (eqGlueS.fv a))
def eqGlueS.q:=vq eqGlueS.row rfl
def Yae:=J @eqGlueS.ae.eq_1<|J @eqGlueS.fv.eq_1<|J @eqGlue.q<|J @eqGlue.ar.eq_1 @eqGlue.fv.eq_1
theorem eqGlueS.ok:Qas Tryz.prog 78 eqGlueS.row:=by
 refine Qaj Qaq (tC eqGlue.ok tN) Tryz.func78 rfl (by kernel_rfl) (by kernel_rfl) (ar:=eqGlueS.ar) (ae:=eqGlueS.ae) (Qaca (Qacb 2 Glue.d_le (fun _=>rfl)) (Qacb 2 Glue.d_le (fun _=>rfl))) (n:=2) (fun _=>rfl) (by decide) (rc:=(Qa8)) (re:=(D.bool)) (Qat) (f:=eqGlueS.fv) ?_;intro a hpre;simp only[Tryz.f78,Option.getD];simp(maxSteps:=9^9)(disch:=omega)only[ZZ,simprocAttr,rch,Yae];intro h1 h2;simp only[Qal];refine⟨fun hl=> ?_,fun hl=> ?_⟩
 .have:a.1≠a.2:=fun h=>hl (by rw[h])
  simp[this]
 have hl:a.1.length=a.2.length:=by omega
 refine Qay.old ⟨{k:Nat//k<=a.1.length/\a.1.take k=a.2.take k},fun k=>⟨[(5,.im (.int .i64 k.1)),(4,.im (.bool false)),(0,.im (.sl false 2 (a.1.map Glue.c))),(1,.im (.sl false 2 (a.2.map Glue.c)))],[],0⟩,fun k=>a.1.length - k.1,fun k=>⟨by simp[Qad.good,belT,belH,Qam,AV.bel,belL],Zal _⟩,⟨⟨0,by simp⟩,by simp(maxSteps:=9^9)(disch:=omega)only[ZZ,simprocAttr,rch,Yae,sub]⟩,fun k=> ?_⟩;obtain⟨k,hk1,hk2⟩:=k;simp(maxSteps:=9^9)(disch:=omega)only[ZZ,simprocAttr,rch,Yae,sub,Qal];intro _;refine⟨fun hk=>⟨hk,fun x hx=>⟨by omega,fun y hy=> ?_⟩⟩,fun hk=> ?_⟩
 .obtain⟨g1,g2⟩:=Qew hl hk1 hk2 hx hy;exact⟨fun h=>by simp[g2 (show x≠y from h)],fun h=>Qb6 hk h1 ⟨by omega,g1 (show x=y from Zbl.1 h)⟩⟩
 .rw[ZaA (by omega),ZaA (by omega)] at hk2;simp[hk2]
theorem Tile_eq(a b:Tile):decide (a=b)=(decide (a.Name=b.Name) && decide (a.Sides=b.Sides)):=by
 obtain⟨x,y⟩:=a;obtain⟨z,w⟩:=b;simp[Tile.mk.injEq]
def eqTile.ar:List PK->Option (Tile×Tile):=a2 (kR Tile.d) (kR Tile.d)
def eqTile.ae(a:Tile×Tile):List PK:=[.val (.agg (Tile.c a.1)),.val (.agg (Tile.c a.2))]
def eqTile.fv(a:Tile×Tile):Bool:=(fun a b=>decide (a=b)) (a.1) (a.2)
def eqTile.row:Row:=vrow eqTile.ar (fun a=>True) (fun a=>(D.bool) (eqTile.fv a))
def eqTile.q:=vq eqTile.row rfl
theorem eqTile.ok:Qas Tryz.prog 117 eqTile.row:=by
 refine Qaj Qaq (tC eqInt64S.ok tN) Tryz.func117 rfl (by kernel_rfl) (by kernel_rfl) (ar:=eqTile.ar) (ae:=eqTile.ae) (Qaca (Qab8 Tile.d_le) (Qab8 Tile.d_le)) (n:=2) (fun _=>rfl) (by decide) (rc:=(Qa8)) (re:=(D.bool)) (Qat) (f:=eqTile.fv) ?_;intro a hpre;simp only[Tryz.f117,Option.getD];simp(maxSteps:=9^9)(disch:=omega)only[ZZ,simprocAttr,rch,eqTile.ae,eqTile.fv,eqInt64S.q,eqInt64S.ar,eqInt64S.fv];rw[Tile_eq]
 grind
def eqTileS.ar:List PK->Option ((List Tile)×(List Tile)):=a2 (kS Tile.d) (kS Tile.d)
def eqTileS.ae(a:(List Tile)×(List Tile)):List PK:=[.val (.sl false 2 (a.1.map Tile.c)),.val (.sl false 2 (a.2.map Tile.c))]
def eqTileS.fv(a:(List Tile)×(List Tile)):Bool:=(fun a b=>decide (a=b)) (a.1) (a.2)
def eqTileS.row:Row:=vrow eqTileS.ar (fun a=>True) (fun a=>(D.bool) (eqTileS.fv a))
def eqTileS.q:=vq eqTileS.row rfl
def Yaf:=J @eqTileS.ae.eq_1<|J @eqTileS.fv.eq_1<|J @eqTile.q<|J @eqTile.ar.eq_1 @eqTile.fv.eq_1
theorem eqTileS.ok:Qas Tryz.prog 79 eqTileS.row:=by
 refine Qaj Qaq (tC eqTile.ok tN) Tryz.func79 rfl (by kernel_rfl) (by kernel_rfl) (ar:=eqTileS.ar) (ae:=eqTileS.ae) (Qaca (Qacb 2 Tile.d_le (fun _=>rfl)) (Qacb 2 Tile.d_le (fun _=>rfl))) (n:=2) (fun _=>rfl) (by decide) (rc:=(Qa8)) (re:=(D.bool)) (Qat) (f:=eqTileS.fv) ?_;intro a hpre;simp only[Tryz.f79,Option.getD];simp(maxSteps:=9^9)(disch:=omega)only[ZZ,simprocAttr,rch,Yaf];intro h1 h2;simp only[Qal];refine⟨fun hl=> ?_,fun hl=> ?_⟩
 .have:a.1≠a.2:=fun h=>hl (by rw[h])
  simp[this]
 have hl:a.1.length=a.2.length:=by omega
 refine Qay.old ⟨{k:Nat//k<=a.1.length/\a.1.take k=a.2.take k},fun k=>⟨[(5,.im (.int .i64 k.1)),(4,.im (.bool false)),(0,.im (.sl false 2 (a.1.map Tile.c))),(1,.im (.sl false 2 (a.2.map Tile.c)))],[],0⟩,fun k=>a.1.length - k.1,fun k=>⟨by simp[Qad.good,belT,belH,Qam,AV.bel,belL],Zal _⟩,⟨⟨0,by simp⟩,by simp(maxSteps:=9^9)(disch:=omega)only[ZZ,simprocAttr,rch,Yaf,sub]⟩,fun k=> ?_⟩;obtain⟨k,hk1,hk2⟩:=k;simp(maxSteps:=9^9)(disch:=omega)only[ZZ,simprocAttr,rch,Yaf,sub,Qal];intro _;refine⟨fun hk=>⟨hk,fun x hx=>⟨by omega,fun y hy=> ?_⟩⟩,fun hk=> ?_⟩
 .obtain⟨g1,g2⟩:=Qew hl hk1 hk2 hx hy;exact⟨fun h=>by simp[g2 (show x≠y from h)],fun h=>Qb6 hk h1 ⟨by omega,g1 (show x=y from Zbl.1 h)⟩⟩
 .rw[ZaA (by omega),ZaA (by omega)] at hk2;simp[hk2]
def eqPlacedS.ar:List PK->Option ((List Qab)×(List Qab)):=a2 (kS Qab.d) (kS Qab.d)
def eqPlacedS.ae(a:(List Qab)×(List Qab)):List PK:=[.val (.sl false 3 (a.1.map Qab.c)),.val (.sl false 3 (a.2.map Qab.c))]
def eqPlacedS.fv(a:(List Qab)×(List Qab)):Bool:=(fun a b=>decide (a=b)) (a.1) (a.2)
def eqPlacedS.row:Row:=vrow eqPlacedS.ar (fun a=>True) (fun a=>(D.bool) (eqPlacedS.fv a))
def eqPlacedS.q:=vq eqPlacedS.row rfl
def Yag:=J @eqPlacedS.ae.eq_1<|J @eqPlacedS.fv.eq_1<|J @eqPlaced.q<|J @eqPlaced.ar.eq_1 @eqPlaced.fv.eq_1
theorem eqPlacedS.ok:Qas Tryz.prog 80 eqPlacedS.row:=by
 refine Qaj Qaq (tC eqPlaced.ok tN) Tryz.func80 rfl (by kernel_rfl) (by kernel_rfl) (ar:=eqPlacedS.ar) (ae:=eqPlacedS.ae) (Qaca (Qacb 3 Qab.d_le (fun _=>rfl)) (Qacb 3 Qab.d_le (fun _=>rfl))) (n:=2) (fun _=>rfl) (by decide) (rc:=(Qa8)) (re:=(D.bool)) (Qat) (f:=eqPlacedS.fv) ?_;intro a hpre;simp only[Tryz.f80,Option.getD];simp(maxSteps:=9^9)(disch:=omega)only[ZZ,simprocAttr,rch,Yag];intro h1 h2;simp only[Qal];refine⟨fun hl=> ?_,fun hl=> ?_⟩
 .have:a.1≠a.2:=fun h=>hl (by rw[h])
  simp[this]
 have hl:a.1.length=a.2.length:=by omega
 refine Qay.old ⟨{k:Nat//k<=a.1.length/\a.1.take k=a.2.take k},fun k=>⟨[(5,.im (.int .i64 k.1)),(4,.im (.bool false)),(0,.im (.sl false 3 (a.1.map Qab.c))),(1,.im (.sl false 3 (a.2.map Qab.c)))],[],0⟩,fun k=>a.1.length - k.1,fun k=>⟨by simp[Qad.good,belT,belH,Qam,AV.bel,belL],Zal _⟩,⟨⟨0,by simp⟩,by simp(maxSteps:=9^9)(disch:=omega)only[ZZ,simprocAttr,rch,Yag,sub]⟩,fun k=> ?_⟩;obtain⟨k,hk1,hk2⟩:=k;simp(maxSteps:=9^9)(disch:=omega)only[ZZ,simprocAttr,rch,Yag,sub,Qal];intro _;refine⟨fun hk=>⟨hk,fun x hx=>⟨by omega,fun y hy=> ?_⟩⟩,fun hk=> ?_⟩
 .obtain⟨g1,g2⟩:=Qew hl hk1 hk2 hx hy;exact⟨fun h=>by simp[g2 (show x≠y from h)],fun h=>Qb6 hk h1 ⟨by omega,g1 (show x=y from Zbl.1 h)⟩⟩
 .rw[ZaA (by omega),ZaA (by omega)] at hk2;simp[hk2]
def eqTileSet.ar:List PK->Option (Qaa×Qaa):=a2 (kR Qaa.d) (kR Qaa.d)
def eqTileSet.ae(a:Qaa×Qaa):List PK:=[.val (.agg (Qaa.c a.1)),.val (.agg (Qaa.c a.2))]
def eqTileSet.fv(a:Qaa×Qaa):Bool:=(fun a b=>decide (a=b)) (a.1) (a.2)
def eqTileSet.row:Row:=vrow eqTileSet.ar (fun a=>True) (fun a=>(D.bool) (eqTileSet.fv a))
def eqTileSet.q:=vq eqTileSet.row rfl
theorem eqTileSet.ok:Qas Tryz.prog 40 eqTileSet.row:=by
 refine Qaj Qaq (tC eqGlueS.ok (tC eqTileS.ok tN)) Tryz.func40 rfl (by kernel_rfl) (by kernel_rfl) (ar:=eqTileSet.ar) (ae:=eqTileSet.ae) (Qaca (Qab8 Qaa.d_le) (Qab8 Qaa.d_le)) (n:=2) (fun _=>rfl) (by decide) (rc:=(Qa8)) (re:=(D.bool)) (Qat) (f:=eqTileSet.fv) ?_;intro a hpre;simp only[Tryz.f40,Option.getD];simp(maxSteps:=9^9)(disch:=omega)only[ZZ,simprocAttr,rch,eqTileSet.ae,eqTileSet.fv,eqGlueS.q,eqGlueS.ar,eqGlueS.fv,eqTileS.q,eqTileS.ar,eqTileS.fv];obtain⟨⟨x,y⟩,⟨z,w⟩⟩:=a;simp only[Qaa.mk.injEq]
 grind
def eqAssembly.ar:List PK->Option (Asm×Asm):=a2 (kR Asm.d) (kR Asm.d)
def eqAssembly.ae(a:Asm×Asm):List PK:=[.val (.agg (Asm.c a.1)),.val (.agg (Asm.c a.2))]
def eqAssembly.fv(a:Asm×Asm):Bool:=(fun a b=>decide (a=b)) (a.1) (a.2)
def eqAssembly.row:Row:=vrow eqAssembly.ar (fun a=>True) (fun a=>(D.bool) (eqAssembly.fv a))
def eqAssembly.q:=vq eqAssembly.row rfl
theorem eqAssembly.ok:Qas Tryz.prog 41 eqAssembly.row:=by
 refine Qaj Qaq (tC eqPlacedS.ok tN) Tryz.func41 rfl (by kernel_rfl) (by kernel_rfl) (ar:=eqAssembly.ar) (ae:=eqAssembly.ae) (Qaca (Qab8 Asm.d_le) (Qab8 Asm.d_le)) (n:=2) (fun _=>rfl) (by decide) (rc:=(Qa8)) (re:=(D.bool)) (Qat) (f:=eqAssembly.fv) ?_;intro a hpre;simp only[Tryz.f41,Option.getD];simp(maxSteps:=9^9)(disch:=omega)only[ZZ,simprocAttr,rch,eqAssembly.ae,eqAssembly.fv,eqPlacedS.q,eqPlacedS.ar,eqPlacedS.fv];obtain⟨⟨x⟩,⟨z⟩⟩:=a;simp only[Asm.mk.injEq]
 grind
def eqSystem.ar:List PK->Option (Qar×Qar):=a2 (kR Qar.d) (kR Qar.d)
def eqSystem.ae(a:Qar×Qar):List PK:=[.val (.agg (Qar.c a.1)),.val (.agg (Qar.c a.2))]
def eqSystem.fv(a:Qar×Qar):Bool:=(fun a b=>decide (a=b)) (a.1) (a.2)
def eqSystem.row:Row:=vrow eqSystem.ar (fun a=>True) (fun a=>(D.bool) (eqSystem.fv a))
def eqSystem.q:=vq eqSystem.row rfl
theorem eqSystem.ok:Qas Tryz.prog 15 eqSystem.row:=by
 refine Qaj Qaq (tC eqTileSet.ok (tC eqAssembly.ok tN)) Tryz.func15 rfl (by kernel_rfl) (by kernel_rfl) (ar:=eqSystem.ar) (ae:=eqSystem.ae) (Qaca (Qab8 Qar.d_le) (Qab8 Qar.d_le)) (n:=2) (fun _=>rfl) (by decide) (rc:=(Qa8)) (re:=(D.bool)) (Qat) (f:=eqSystem.fv) ?_;intro a hpre;simp only[Tryz.f15,Option.getD];simp(maxSteps:=9^9)(disch:=omega)only[ZZ,simprocAttr,rch,eqSystem.ae,eqSystem.fv,eqTileSet.q,eqTileSet.ar,eqTileSet.fv,eqAssembly.q,eqAssembly.ar,eqAssembly.fv];obtain⟨⟨⟨x,x1⟩,⟨y⟩,u⟩,⟨⟨z,z1⟩,⟨w⟩,v⟩⟩:=a;simp only[Qar.mk.injEq,Qaa.mk.injEq,Asm.mk.injEq]
 grind
def toTile.ar:List PK->Option (Tile):=a1 (kR Tile.d)
def toTile.ae(a:Tile):List PK:=[.val (.agg (Tile.c a))]
def toTile.fv(a:Tile):Tile:=(fun p=>p) a
def toTile.row:Row:=vrow toTile.ar (fun a=>a.Sides.length<=1073741824) (fun a=>(fun b=>D.agg (Tile.c b)) (toTile.fv a))
def toTile.q:=vq toTile.row rfl
theorem toTile.ok:Qas Tryz.prog 102 toTile.row:=by
 refine Qaj Qaq (tC toInt64S.ok tN) Tryz.func102 rfl (by kernel_rfl) (by kernel_rfl) (ar:=toTile.ar) (ae:=toTile.ae) (Qacd (Qab8 Tile.d_le)) (n:=1) (fun _=>rfl) (by decide) (rc:=(vAgg Tile.d)) (re:=(fun b=>D.agg (Tile.c b))) (Qb1 Tile.d_le) (f:=toTile.fv) ?_;intro a hpre;simp only[Tryz.f102,Option.getD];simp(maxSteps:=9^9)(disch:=omega)only[ZZ,simprocAttr,rch,toTile.ae,toTile.fv,toInt64S.q,toInt64S.ar,toInt64S.fv];exact hpre
def toGlueS.ar:List PK->Option ((List Glue)):=a1 (kS Glue.d)
def toGlueS.ae(a:(List Glue)):List PK:=[.val (.sl false 2 (a.map Glue.c))]
def toGlueS.fv(a:(List Glue)):List Glue:=(fun p=>p) a
def toGlueS.row:Row:=vrow toGlueS.ar (fun a=>a.length<=1073741824) (fun a=>(fun b=>D.sl false 2 (b.map Glue.c)) (toGlueS.fv a))
def toGlueS.q:=vq toGlueS.row rfl
def Yah:=J @toGlueS.ae.eq_1<|J @toGlueS.fv.eq_1<|J @toGlue.q<|J @toGlue.ar.eq_1 @toGlue.fv.eq_1
theorem toGlueS.ok:Qas Tryz.prog 64 toGlueS.row:=by
 refine Qaj Qaq (tC toGlue.ok tN) Tryz.func64 rfl (by kernel_rfl) (by kernel_rfl) (ar:=toGlueS.ar) (ae:=toGlueS.ae) (Qacd (Qacb 2 Glue.d_le (fun _=>rfl))) (n:=1) (fun _=>rfl) (by decide) (rc:=(vSl Glue.d)) (re:=(fun b=>D.sl false 2 (b.map Glue.c))) (Qe8 Glue.d_le (fun _=>rfl)) (f:=toGlueS.fv) ?_;intro a hpre;simp only[Tryz.f64,Option.getD];simp(maxSteps:=9^9)(disch:=omega)only[ZZ,simprocAttr,rch,Yah];intro hlen;have hpl:a.length<=1073741824:=hpre;refine⟨by omega,?_⟩;refine Qay.old ⟨{k:Nat//k<=a.length},fun k=>⟨[(4,.im (.int .i64 k.1)),(3,.own 1),(0,.im (.sl false 2 (a.map Glue.c)))],[(1,(true,.arr 162 2 ((a.take k.1).map Glue.c++List.replicate (a.length - k.1) [.str ByteArray.empty,.int .i64 0])))],2⟩,fun k=>a.length - k.1,fun k=>⟨by simp[Qad.good,belT,belH,Qam,AV.bel,belL],Zal _⟩,⟨⟨0,by omega⟩,by simp(maxSteps:=9^9)(disch:=omega)only[ZZ,simprocAttr,rch,Yah,sub];simp⟩,fun k=> ?_⟩;obtain⟨k,hk1⟩:=k;simp(maxSteps:=9^9)(disch:=omega)only[ZZ,simprocAttr,rch,Yah,sub,Qal,Qk2 _ _ a k hk1];intro _;refine⟨fun hk=> ?_,fun hk=> ?_⟩
 .refine⟨hk,fun x hx=>⟨hk,hk,Qi3 (Qj5 Glue.c _ a k x hx) ?_⟩⟩;simp(maxSteps:=9^9)(disch:=omega)only[ZZ,simprocAttr,rch,Yah,sub];refine⟨⟨k+1,by omega⟩,by simp only;omega,?_,?_⟩
  .rw[Qak (by omega) (by omega)];simp only;omega
  .exact Qli Glue.c _ a k x hx
 .rw[Qkp Glue.c _ a k (by omega)];simp[Glue.d_R]
def toPlacedS.ar:List PK->Option ((List Qab)):=a1 (kS Qab.d)
def toPlacedS.ae(a:(List Qab)):List PK:=[.val (.sl false 3 (a.map Qab.c))]
def toPlacedS.fv(a:(List Qab)):List Qab:=(fun p=>p) a
def toPlacedS.row:Row:=vrow toPlacedS.ar (fun a=>a.length<=1073741824) (fun a=>(fun b=>D.sl false 3 (b.map Qab.c)) (toPlacedS.fv a))
def toPlacedS.q:=vq toPlacedS.row rfl
def Yai:=J @toPlacedS.ae.eq_1<|J @toPlacedS.fv.eq_1<|J @toPlaced.q<|J @toPlaced.ar.eq_1 @toPlaced.fv.eq_1
theorem toPlacedS.ok:Qas Tryz.prog 66 toPlacedS.row:=by
 refine Qaj Qaq (tC toPlaced.ok tN) Tryz.func66 rfl (by kernel_rfl) (by kernel_rfl) (ar:=toPlacedS.ar) (ae:=toPlacedS.ae) (Qacd (Qacb 3 Qab.d_le (fun _=>rfl))) (n:=1) (fun _=>rfl) (by decide) (rc:=(vSl Qab.d)) (re:=(fun b=>D.sl false 3 (b.map Qab.c))) (Qe8 Qab.d_le (fun _=>rfl)) (f:=toPlacedS.fv) ?_;intro a hpre;simp only[Tryz.f66,Option.getD];simp(maxSteps:=9^9)(disch:=omega)only[ZZ,simprocAttr,rch,Yai];intro hlen;have hpl:a.length<=1073741824:=hpre;refine⟨by omega,?_⟩;refine Qay.old ⟨{k:Nat//k<=a.length},fun k=>⟨[(4,.im (.int .i64 k.1)),(3,.own 1),(0,.im (.sl false 3 (a.map Qab.c)))],[(1,(true,.arr 160 3 ((a.take k.1).map Qab.c++List.replicate (a.length - k.1) [.int .i64 0,.int .i64 0,.int .i64 0])))],2⟩,fun k=>a.length - k.1,fun k=>⟨by simp[Qad.good,belT,belH,Qam,AV.bel,belL],Zal _⟩,⟨⟨0,by omega⟩,by simp(maxSteps:=9^9)(disch:=omega)only[ZZ,simprocAttr,rch,Yai,sub];simp⟩,fun k=> ?_⟩;obtain⟨k,hk1⟩:=k;simp(maxSteps:=9^9)(disch:=omega)only[ZZ,simprocAttr,rch,Yai,sub,Qal,Qk2 _ _ a k hk1];intro _;refine⟨fun hk=> ?_,fun hk=> ?_⟩
 .refine⟨hk,fun x hx=>⟨hk,hk,Qi3 (Qj5 Qab.c _ a k x hx) ?_⟩⟩;simp(maxSteps:=9^9)(disch:=omega)only[ZZ,simprocAttr,rch,Yai,sub];refine⟨⟨k+1,by omega⟩,by simp only;omega,?_,?_⟩
  .rw[Qak (by omega) (by omega)];simp only;omega
  .exact Qli Qab.c _ a k x hx
 .rw[Qkp Qab.c _ a k (by omega)];simp[Qab.d_R]
def toTileS.ar:List PK->Option ((List Tile)):=a1 (kS Tile.d)
def toTileS.ae(a:(List Tile)):List PK:=[.val (.sl false 2 (a.map Tile.c))]
def toTileS.fv(a:(List Tile)):List Tile:=(fun p=>p) a
def toTileS.row:Row:=vrow toTileS.ar (fun a=>a.length<=1073741824/\ ∀x∈a,x.Sides.length<=1073741824) (fun a=>(fun b=>D.sl false 2 (b.map Tile.c)) (toTileS.fv a))
def toTileS.q:=vq toTileS.row rfl
def Yaj:=J @toTileS.ae.eq_1<|J @toTileS.fv.eq_1<|J @toTile.q<|J @toTile.ar.eq_1 @toTile.fv.eq_1
theorem toTileS.ok:Qas Tryz.prog 65 toTileS.row:=by
 refine Qaj Qaq (tC toTile.ok tN) Tryz.func65 rfl (by kernel_rfl) (by kernel_rfl) (ar:=toTileS.ar) (ae:=toTileS.ae) (Qacd (Qacb 2 Tile.d_le (fun _=>rfl))) (n:=1) (fun _=>rfl) (by decide) (rc:=(vSl Tile.d)) (re:=(fun b=>D.sl false 2 (b.map Tile.c))) (Qe8 Tile.d_le (fun _=>rfl)) (f:=toTileS.fv) ?_;intro a hpre;simp only[Tryz.f65,Option.getD];simp(maxSteps:=9^9)(disch:=omega)only[ZZ,simprocAttr,rch,Yaj];intro hlen;have hpl:a.length<=1073741824:=hpre.1;refine⟨by omega,?_⟩;refine Qay.old ⟨{k:Nat//k<=a.length},fun k=>⟨[(4,.im (.int .i64 k.1)),(3,.own 1),(0,.im (.sl false 2 (a.map Tile.c)))],[(1,(true,.arr 164 2 ((a.take k.1).map Tile.c++List.replicate (a.length - k.1) [.str ByteArray.empty,.sl true 0 []])))],2⟩,fun k=>a.length - k.1,fun k=>⟨by simp[Qad.good,belT,belH,Qam,AV.bel,belL],Zal _⟩,⟨⟨0,by omega⟩,by simp(maxSteps:=9^9)(disch:=omega)only[ZZ,simprocAttr,rch,Yaj,sub];simp⟩,fun k=> ?_⟩;obtain⟨k,hk1⟩:=k;simp(maxSteps:=9^9)(disch:=omega)only[ZZ,simprocAttr,rch,Yaj,sub,Qal,Qk2 _ _ a k hk1];intro _;refine⟨fun hk=> ?_,fun hk=> ?_⟩
 .refine⟨hk,fun x hx=>⟨hpre.2 x (Zad hx),hk,hk,Qi3 (Qj5 Tile.c _ a k x hx) ?_⟩⟩;simp(maxSteps:=9^9)(disch:=omega)only[ZZ,simprocAttr,rch,Yaj,sub];refine⟨⟨k+1,by omega⟩,by simp only;omega,?_,?_⟩
  .rw[Qak (by omega) (by omega)];simp only;omega
  .exact Qli Tile.c _ a k x hx
 .rw[Qkp Tile.c _ a k (by omega)];simp[Tile.d_R]
def smSet(s:Qaa):Prop:=s.Glues.length<=1073741824/\s.Tiles.length<=1073741824/\ ∀x∈s.Tiles,x.Sides.length<=1073741824
def toTileSet.ar:List PK->Option (Qaa):=a1 (kR Qaa.d)
def toTileSet.ae(a:Qaa):List PK:=[.val (.agg (Qaa.c a))]
def toTileSet.fv(a:Qaa):Qaa:=(fun p=>p) a
def toTileSet.row:Row:=vrow toTileSet.ar (fun a=>smSet a) (fun a=>(fun b=>D.agg (Qaa.c b)) (toTileSet.fv a))
def toTileSet.q:=vq toTileSet.row rfl
theorem toTileSet.ok:Qas Tryz.prog 32 toTileSet.row:=by
 refine Qaj Qaq (tC toGlueS.ok (tC toTileS.ok tN)) Tryz.func32 rfl (by kernel_rfl) (by kernel_rfl) (ar:=toTileSet.ar) (ae:=toTileSet.ae) (Qacd (Qab8 Qaa.d_le)) (n:=1) (fun _=>rfl) (by decide) (rc:=(vAgg Qaa.d)) (re:=(fun b=>D.agg (Qaa.c b))) (Qb1 Qaa.d_le) (f:=toTileSet.fv) ?_;intro a hpre;simp only[Tryz.f32,Option.getD];simp(maxSteps:=9^9)(disch:=omega)only[ZZ,simprocAttr,rch,toTileSet.ae,toTileSet.fv,toGlueS.q,toGlueS.ar,toGlueS.fv,toTileS.q,toTileS.ar,toTileS.fv];exact hpre
def toAssembly.ar:List PK->Option (Asm):=a1 (kR Asm.d)
def toAssembly.ae(a:Asm):List PK:=[.val (.agg (Asm.c a))]
def toAssembly.fv(a:Asm):Asm:=(fun p=>p) a
def toAssembly.row:Row:=vrow toAssembly.ar (fun a=>a.Tiles.length<=1073741824) (fun a=>(fun b=>D.agg (Asm.c b)) (toAssembly.fv a))
def toAssembly.q:=vq toAssembly.row rfl
theorem toAssembly.ok:Qas Tryz.prog 33 toAssembly.row:=by
 refine Qaj Qaq (tC toPlacedS.ok tN) Tryz.func33 rfl (by kernel_rfl) (by kernel_rfl) (ar:=toAssembly.ar) (ae:=toAssembly.ae) (Qacd (Qab8 Asm.d_le)) (n:=1) (fun _=>rfl) (by decide) (rc:=(vAgg Asm.d)) (re:=(fun b=>D.agg (Asm.c b))) (Qb1 Asm.d_le) (f:=toAssembly.fv) ?_;intro a hpre;simp only[Tryz.f33,Option.getD];simp(maxSteps:=9^9)(disch:=omega)only[ZZ,simprocAttr,rch,toAssembly.ae,toAssembly.fv,toPlacedS.q,toPlacedS.ar,toPlacedS.fv];exact hpre
def smSys(s:Qar):Prop:=smSet s.Set/\s.Seed.Tiles.length<=1073741824
def toSystem.ar:List PK->Option (Qar):=a1 (kR Qar.d)
def toSystem.ae(a:Qar):List PK:=[.val (.agg (Qar.c a))]
def toSystem.fv(a:Qar):Qar:=(fun p=>p) a
def toSystem.row:Row:=vrow toSystem.ar (fun a=>smSys a) (fun a=>(fun b=>D.agg (Qar.c b)) (toSystem.fv a))
def toSystem.q:=vq toSystem.row rfl
theorem toSystem.ok:Qas Tryz.prog 10 toSystem.row:=by
 refine Qaj Qaq (tC toTileSet.ok (tC toAssembly.ok tN)) Tryz.func10 rfl (by kernel_rfl) (by kernel_rfl) (ar:=toSystem.ar) (ae:=toSystem.ae) (Qacd (Qab8 Qar.d_le)) (n:=1) (fun _=>rfl) (by decide) (rc:=(vAgg Qar.d)) (re:=(fun b=>D.agg (Qar.c b))) (Qb1 Qar.d_le) (f:=toSystem.fv) ?_;intro a hpre;simp only[Tryz.f10,Option.getD];simp(maxSteps:=9^9)(disch:=omega)only[ZZ,simprocAttr,rch,toSystem.ae,toSystem.fv,toTileSet.q,toTileSet.ar,toTileSet.fv,toAssembly.q,toAssembly.ar,toAssembly.fv];exact hpre
def Qen(g:Glue)(l:Int):Int:=szC g.Name.size l
def szGlue.ar:List PK->Option (Glue×Int):=a2 (kR Glue.d) kI
def szGlue.ae(a:Glue×Int):List PK:=[.val (.agg (Glue.c a.1)),.val (.int .i64 a.2)]
def szGlue.fv(a:Glue×Int):Int:=(Qen) (a.1) (a.2)
def szGlue.row:Row:=vrow szGlue.ar (fun a=> -1<=a.2/\a.2<=1048576/\a.1.Name.size<=140737488355328) (fun a=>(D.int .i64) (szGlue.fv a))
def szGlue.q:=vq szGlue.row rfl
theorem szGlue.ok:Qas Tryz.prog 93 szGlue.row:=by
 refine Qaj Qaq tN Tryz.func93 rfl (by kernel_rfl) (by kernel_rfl) (ar:=szGlue.ar) (ae:=szGlue.ae) (Qaca (Qab8 Glue.d_le) Qab9) (n:=2) (fun _=>rfl) (by decide) (rc:=(vInt)) (re:=(D.int .i64)) (Qa3) (f:=szGlue.fv) ?_;intro a hpre;simp only[Tryz.f93,Option.getD];simp(maxSteps:=9^9)(disch:=omega)only[ZZ,simprocAttr,rch,szGlue.ae,szGlue.fv];rw[Qak (by omega) (by omega)];simp only[Qen,szC]
 grind
def Qcn(g:Tile)(l:Int):Int:=if szC g.Name.size l<0 then -1 else szC g.Sides.length (szC g.Name.size l)
def szTile.ar:List PK->Option (Tile×Int):=a2 (kR Tile.d) kI
def szTile.ae(a:Tile×Int):List PK:=[.val (.agg (Tile.c a.1)),.val (.int .i64 a.2)]
def szTile.fv(a:Tile×Int):Int:=(Qcn) (a.1) (a.2)
def szTile.row:Row:=vrow szTile.ar (fun a=> -1<=a.2/\a.2<=1048576/\a.1.Name.size<=140737488355328) (fun a=>(D.int .i64) (szTile.fv a))
def szTile.q:=vq szTile.row rfl
theorem szTile.ok:Qas Tryz.prog 94 szTile.row:=by
 refine Qaj Qaq (tC szInt64S.ok tN) Tryz.func94 rfl (by kernel_rfl) (by kernel_rfl) (ar:=szTile.ar) (ae:=szTile.ae) (Qaca (Qab8 Tile.d_le) Qab9) (n:=2) (fun _=>rfl) (by decide) (rc:=(vInt)) (re:=(D.int .i64)) (Qa3) (f:=szTile.fv) ?_;intro a hpre;simp only[Tryz.f94,Option.getD];simp(maxSteps:=9^9)(disch:=omega)only[ZZ,simprocAttr,rch,szTile.ae,szTile.fv,szInt64S.q,szInt64S.ar,szInt64S.fv];rw[Qak (by omega) (by omega)];simp only[Qcn,szC]
 grind
def Qdz{A:Type}(f:A->Int->Int):List A->Int->Int
 |[],l=>l
 |x::r,l=>if f x l<0 then -1 else Qdz f r (f x l)
def Qcj(a:List Glue)(l:Int):Int:=if szC a.length l<0 then -1 else Qdz Qen a (szC a.length l)
def szGlueS.ar:List PK->Option ((List Glue)×Int):=a2 (kS Glue.d) kI
def szGlueS.ae(a:(List Glue)×Int):List PK:=[.val (.sl false 2 (a.1.map Glue.c)),.val (.int .i64 a.2)]
def szGlueS.fv(a:(List Glue)×Int):Int:=(Qcj) (a.1) (a.2)
def szGlueS.row:Row:=vrow szGlueS.ar (fun a=> -1<=a.2/\a.2<=1048576/\ ∀x∈a.1,x.Name.size<=140737488355328) (fun a=>(D.int .i64) (szGlueS.fv a))
def szGlueS.q:=vq szGlueS.row rfl
def Yak:=J @szGlueS.ae.eq_1<|J @szGlueS.fv.eq_1<|J @szGlue.q<|J @szGlue.ar.eq_1 @szGlue.fv.eq_1
theorem szGlueS.ok:Qas Tryz.prog 52 szGlueS.row:=by
 refine Qaj Qaq (tC szGlue.ok tN) Tryz.func52 rfl (by kernel_rfl) (by kernel_rfl) (ar:=szGlueS.ar) (ae:=szGlueS.ae) (Qaca (Qacb 2 Glue.d_le (fun _=>rfl)) Qab9) (n:=2) (fun _=>rfl) (by decide) (rc:=(vInt)) (re:=(D.int .i64)) (Qa3) (f:=szGlueS.fv) ?_;intro a hpre;simp only[Tryz.f52,Option.getD];simp(maxSteps:=9^9)(disch:=omega)only[ZZ,simprocAttr,rch,Yak];intro hn;rw[Qak (by omega) (by omega)];obtain⟨hp1,hp2,hp3⟩:=hpre;simp only[Qal];refine⟨fun hl=> ?_,fun hl=> ?_⟩
 .simp only[Qcj,szC];grind
 have h0:szC a.1.length a.2=a.2 - a.1.length:=by simp only[szC];rw[Zai hl]
 refine Qay.old ⟨{p:Nat×Int//p.1<=a.1.length/\0<=p.2/\p.2<=1048576/\Qdz Qen (a.1.drop p.1) p.2=Qdz Qen a.1 (a.2 - a.1.length)},fun p=>⟨[(5,.im (.int .i64 p.1.1)),(1,.im (.int .i64 p.1.2)),(4,.im (.int .i64 0)),(0,.im (.sl false 2 (a.1.map Glue.c)))],[],0⟩,fun p=>a.1.length - p.1.1,fun p=>⟨by simp[Qad.good,belT,belH,Qam,AV.bel,belL],Zal _⟩,⟨⟨(0,a.2 - a.1.length),by simp,by simp only;omega,by simp only;omega,by simp⟩,by simp(maxSteps:=9^9)(disch:=omega)only[ZZ,simprocAttr,rch,Yak,sub]⟩,fun p=> ?_⟩;obtain⟨⟨k,l⟩,hk1,hk2,hk3,hk4⟩:=p;simp only at hk1 hk2 hk3 hk4;simp(maxSteps:=9^9)(disch:=omega)only[ZZ,simprocAttr,rch,Yak,sub,Qal];intro _;refine⟨fun hk=>⟨hk,fun x hx=>⟨⟨by omega,by omega,hp3 x (Zad hx)⟩,?_⟩⟩,fun hk=> ?_⟩
 .have hd:a.1.drop k=x::a.1.drop (k+1):=by
   rw[ZbV hk];rw[Zae hk] at hx;rw[Zaa hx]
  rw[hd,Qdz] at hk4;have hle:Qen x l<=l:=by simp only[Qen,szC];grind
  have hcg: ¬Qen ⟨x.Name,x.Strength⟩ l<0-> ¬Qen x l<0:=fun h=>h
  refine⟨fun hb=> ?_,fun hb=>⟨⟨(k+1,Qen x l),by simp only;omega,by simp only;have:=hcg hb;omega,by simp only;omega,?_⟩,by simp only;omega,?_,?_⟩⟩
  .rw[Zam hb] at hk4;simp only[Qcj,h0]
   grind
  .rw[Zai hb] at hk4;exact hk4
  .rw[Qak (by omega) (by omega)];simp only;omega
  .rfl
 .rw[Zau (by omega),Qdz] at hk4;simp only[Qcj,h0]
  grind
def Qds(a:List Tile)(l:Int):Int:=if szC a.length l<0 then -1 else Qdz Qcn a (szC a.length l)
def szTileS.ar:List PK->Option ((List Tile)×Int):=a2 (kS Tile.d) kI
def szTileS.ae(a:(List Tile)×Int):List PK:=[.val (.sl false 2 (a.1.map Tile.c)),.val (.int .i64 a.2)]
def szTileS.fv(a:(List Tile)×Int):Int:=(Qds) (a.1) (a.2)
def szTileS.row:Row:=vrow szTileS.ar (fun a=> -1<=a.2/\a.2<=1048576/\ ∀x∈a.1,x.Name.size<=140737488355328) (fun a=>(D.int .i64) (szTileS.fv a))
def szTileS.q:=vq szTileS.row rfl
def Yal:=J @szTileS.ae.eq_1<|J @szTileS.fv.eq_1<|J @szTile.q<|J @szTile.ar.eq_1 @szTile.fv.eq_1
theorem szTileS.ok:Qas Tryz.prog 53 szTileS.row:=by
 refine Qaj Qaq (tC szTile.ok tN) Tryz.func53 rfl (by kernel_rfl) (by kernel_rfl) (ar:=szTileS.ar) (ae:=szTileS.ae) (Qaca (Qacb 2 Tile.d_le (fun _=>rfl)) Qab9) (n:=2) (fun _=>rfl) (by decide) (rc:=(vInt)) (re:=(D.int .i64)) (Qa3) (f:=szTileS.fv) ?_;intro a hpre;simp only[Tryz.f53,Option.getD];simp(maxSteps:=9^9)(disch:=omega)only[ZZ,simprocAttr,rch,Yal];intro hn;rw[Qak (by omega) (by omega)];obtain⟨hp1,hp2,hp3⟩:=hpre;simp only[Qal];refine⟨fun hl=> ?_,fun hl=> ?_⟩
 .simp only[Qds,szC];grind
 have h0:szC a.1.length a.2=a.2 - a.1.length:=by simp only[szC];rw[Zai hl]
 refine Qay.old ⟨{p:Nat×Int//p.1<=a.1.length/\0<=p.2/\p.2<=1048576/\Qdz Qcn (a.1.drop p.1) p.2=Qdz Qcn a.1 (a.2 - a.1.length)},fun p=>⟨[(5,.im (.int .i64 p.1.1)),(1,.im (.int .i64 p.1.2)),(4,.im (.int .i64 0)),(0,.im (.sl false 2 (a.1.map Tile.c)))],[],0⟩,fun p=>a.1.length - p.1.1,fun p=>⟨by simp[Qad.good,belT,belH,Qam,AV.bel,belL],Zal _⟩,⟨⟨(0,a.2 - a.1.length),by simp,by simp only;omega,by simp only;omega,by simp⟩,by simp(maxSteps:=9^9)(disch:=omega)only[ZZ,simprocAttr,rch,Yal,sub]⟩,fun p=> ?_⟩;obtain⟨⟨k,l⟩,hk1,hk2,hk3,hk4⟩:=p;simp only at hk1 hk2 hk3 hk4;simp(maxSteps:=9^9)(disch:=omega)only[ZZ,simprocAttr,rch,Yal,sub,Qal];intro _;refine⟨fun hk=>⟨hk,fun x hx=>⟨⟨by omega,by omega,hp3 x (Zad hx)⟩,?_⟩⟩,fun hk=> ?_⟩
 .have hd:a.1.drop k=x::a.1.drop (k+1):=by
   rw[ZbV hk];rw[Zae hk] at hx;rw[Zaa hx]
  rw[hd,Qdz] at hk4;have hle:Qcn x l<=l:=by simp only[Qcn,szC];grind
  have hcg: ¬Qcn ⟨x.Name,x.Sides⟩ l<0-> ¬Qcn x l<0:=fun h=>h
  refine⟨fun hb=> ?_,fun hb=>⟨⟨(k+1,Qcn x l),by simp only;omega,by simp only;have:=hcg hb;omega,by simp only;omega,?_⟩,by simp only;omega,?_,?_⟩⟩
  .rw[Zam hb] at hk4;simp only[Qds,h0]
   grind
  .rw[Zai hb] at hk4;exact hk4
  .rw[Qak (by omega) (by omega)];simp only;omega
  .rfl
 .rw[Zau (by omega),Qdz] at hk4;simp only[Qds,h0]
  grind
def nmOk(s:Qaa):Prop:=(∀x∈s.Glues,x.Name.size<=140737488355328)/\ ∀x∈s.Tiles,x.Name.size<=140737488355328
theorem Qre{A:Type}{f:A->Int->Int}(hf: ∀x l,0<=l->f x l<=l)(a:List A): ∀(l:Int),0<=l->Qdz f a l<=l/\ -1<=Qdz f a l:=by
 induction a with
 |nil=>intro l hl;simp[Qdz];omega
 |cons x r ih=>
  intro l hl;simp only[Qdz];split
  .omega
  .have:=hf x l hl
   have:=ih (f x l) (by omega)
   omega
theorem Qo1(a:List Glue)(l:Int)(hl: -1<=l): -1<=Qcj a l/\Qcj a l<=max l (-1):=by
 simp only[Qcj];split
 .omega
 .rename_i h;have h1:=Qre (f:=Qen) (fun x l h=>by simp only[Qen,szC];grind) a (szC a.length l) (by omega);have h2:szC a.length l<=max l (-1):=by simp only[szC];grind
  omega
theorem Qv0(a:List Tile)(l:Int)(hl: -1<=l): -1<=Qds a l/\Qds a l<=max l (-1):=by
 simp only[Qds];split
 .omega
 .rename_i h;have h1:=Qre (f:=Qcn) (fun x l h=>by simp only[Qcn,szC];grind) a (szC a.length l) (by omega);have h2:szC a.length l<=max l (-1):=by simp only[szC];grind
  omega
def Qqd(s:Qaa)(l:Int):Int:=if Qcj s.Glues l<0 then -1 else Qds s.Tiles (Qcj s.Glues l)
theorem Qxk(s:Qaa)(l:Int)(hl: -1<=l): -1<=Qqd s l/\Qqd s l<=max l (-1):=by
 have h1:=Qo1 s.Glues l hl;have h2:=Qv0 s.Tiles (Qcj s.Glues l) h1.1;simp only[Qqd]
 split<;>omega
def szTileSet.ar:List PK->Option (Qaa×Int):=a2 (kR Qaa.d) kI
def szTileSet.ae(a:Qaa×Int):List PK:=[.val (.agg (Qaa.c a.1)),.val (.int .i64 a.2)]
def szTileSet.fv(a:Qaa×Int):Int:=(Qqd) (a.1) (a.2)
def szTileSet.row:Row:=vrow szTileSet.ar (fun a=> -1<=a.2/\a.2<=1048576/\nmOk a.1) (fun a=>(D.int .i64) (szTileSet.fv a))
def szTileSet.q:=vq szTileSet.row rfl
theorem szTileSet.ok:Qas Tryz.prog 25 szTileSet.row:=by
 refine Qaj Qaq (tC szGlueS.ok (tC szTileS.ok tN)) Tryz.func25 rfl (by kernel_rfl) (by kernel_rfl) (ar:=szTileSet.ar) (ae:=szTileSet.ae) (Qaca (Qab8 Qaa.d_le) Qab9) (n:=2) (fun _=>rfl) (by decide) (rc:=(vInt)) (re:=(D.int .i64)) (Qa3) (f:=szTileSet.fv) ?_;intro a hpre;simp only[Tryz.f25,Option.getD];simp(maxSteps:=9^9)(disch:=omega)only[ZZ,simprocAttr,rch,szTileSet.ae,szTileSet.fv,szGlueS.q,szGlueS.ar,szGlueS.fv,szTileS.q,szTileS.ar,szTileS.fv];obtain⟨h1,h2,h3,h4⟩:=hpre;have hb:=Qo1 a.1.Glues a.2 h1;refine⟨⟨h1,h2,h3⟩,?_⟩;simp only[Qqd];split
 .rfl
 .refine⟨⟨hb.1,by omega,h4⟩,?_⟩;have hc:=Qv0 a.1.Tiles _ hb.1
  split<;>omega
theorem szC_b(n:Nat)(l:Int)(hl: -1<=l): -1<=szC n l/\szC n l<=max l (-1):=by
 simp only[szC];split<;>omega
def Qlr(s:Qar)(l:Int):Int:=if Qqd s.Set l<0 then -1 else szAsm s.Seed (Qqd s.Set l)
theorem szSys_b(s:Qar)(l:Int)(hl: -1<=l): -1<=Qlr s l/\Qlr s l<=max l (-1):=by
 have h1:=Qxk s.Set l hl;have h2:=szC_b s.Seed.Tiles.length (Qqd s.Set l) h1.1;simp only[Qlr,szAsm]
 split<;>omega
def szSystem.ar:List PK->Option (Qar×Int):=a2 (kR Qar.d) kI
def szSystem.ae(a:Qar×Int):List PK:=[.val (.agg (Qar.c a.1)),.val (.int .i64 a.2)]
def szSystem.fv(a:Qar×Int):Int:=(Qlr) (a.1) (a.2)
def szSystem.row:Row:=vrow szSystem.ar (fun a=> -1<=a.2/\a.2<=1048576/\nmOk a.1.Set) (fun a=>(D.int .i64) (szSystem.fv a))
def szSystem.q:=vq szSystem.row rfl
theorem szSystem.ok:Qas Tryz.prog 7 szSystem.row:=by
 refine Qaj Qaq (tC szTileSet.ok (tC szAssembly.ok tN)) Tryz.func7 rfl (by kernel_rfl) (by kernel_rfl) (ar:=szSystem.ar) (ae:=szSystem.ae) (Qaca (Qab8 Qar.d_le) Qab9) (n:=2) (fun _=>rfl) (by decide) (rc:=(vInt)) (re:=(D.int .i64)) (Qa3) (f:=szSystem.fv) ?_;intro a hpre;simp only[Tryz.f7,Option.getD];simp(maxSteps:=9^9)(disch:=omega)only[ZZ,simprocAttr,rch,szSystem.ae,szSystem.fv,szTileSet.q,szTileSet.ar,szTileSet.fv,szAssembly.q,szAssembly.ar,szAssembly.fv];obtain⟨h1,h2,h3⟩:=hpre;have hb:=Qxk a.1.Set a.2 h1;refine⟨⟨h1,h2,h3⟩,?_⟩;simp only[Qlr];split
 .rfl
 .refine⟨⟨hb.1,by omega⟩,?_⟩;have hc:=szC_b a.1.Seed.Tiles.length _ hb.1;simp only[szAsm] at hc⊢
  grind
end Go.Ae
