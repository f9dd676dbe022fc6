/- Lemmas. Conditions: none. -/
import Derived.Test.YtldneeclgjaehabGreatDoorP06
import Derived.Test.YtldneeclgjaehabGreatDoorProg
set_option linter.all false
set_option maxHeartbeats 8000000
set_option maxRecDepth 100000
namespace Go.Ae
open Go.Proofs
def TY0:
 (tI Tryz.prog 2=some {size:=1,bytes:=8,agg:=false,kind:= .int .i64,zero:=[.int .i64 0]})/\
 (tI Tryz.prog 3=some {size:=1,bytes:=8,agg:=false,kind:= .int .i64,zero:=[.int .i64 0]})/\
 (tI Tryz.prog 4=some {size:=1,bytes:=1,agg:=false,kind:= .bool,zero:=[.bool false]})/\
 (tI Tryz.prog 5=some {size:=1,bytes:=1,agg:=false,kind:= .int .u8,zero:=[.int .u8 0]})/\
 (tI Tryz.prog 9=some {size:=1,bytes:=16,agg:=false,kind:= .str,zero:=[.str ByteArray.empty]})/\
 (tI Tryz.prog 22=some {size:=1,bytes:=24,agg:=false,kind:= .slice 147,zero:=[.sl true 0 []]})/\
 (tI Tryz.prog 23=some {size:=1,bytes:=24,agg:=false,kind:= .slice 150,zero:=[.sl true 0 []]})/\
 (tI Tryz.prog 25=some {size:=2,bytes:=48,agg:=true,kind:= .struct [(0,1),(1,1)],zero:=[.sl true 0 [],.sl true 0 []]})/\
 (tI Tryz.prog 26=some {size:=1,bytes:=24,agg:=false,kind:= .slice 175,zero:=[.sl true 0 []]})/\
 (tI Tryz.prog 28=some {size:=1,bytes:=24,agg:=true,kind:= .struct [(0,1)],zero:=[.sl true 0 []]})/\
 (tI Tryz.prog 30=some {size:=4,bytes:=80,agg:=true,kind:= .struct [(0,2),(2,1),(3,1)],zero:=[.sl true 0 [],.sl true 0 [],.sl true 0 [],.int .i64 0]})/\
 (tI Tryz.prog 31=some {size:=1,bytes:=24,agg:=false,kind:= .slice 117,zero:=[.sl true 0 []]})/\
 (tI Tryz.prog 32=some {size:=1,bytes:=24,agg:=false,kind:= .slice 35,zero:=[.sl true 0 []]})/\
 (tI Tryz.prog 34=some {size:=3,bytes:=56,agg:=true,kind:= .struct [(0,1),(1,1),(2,1)],zero:=[.int .i64 0,.sl true 0 [],.sl true 0 []]})/\
 (tI Tryz.prog 35=some {size:=1,bytes:=24,agg:=false,kind:= .slice 2,zero:=[.sl true 0 []]})/\
 (tI Tryz.prog 38=some {size:=1,bytes:=24,agg:=false,kind:= .slice 151,zero:=[.sl true 0 []]})/\
 (tI Tryz.prog 39=some {size:=1,bytes:=24,agg:=false,kind:= .slice 155,zero:=[.sl true 0 []]})/\
 (tI Tryz.prog 41=some {size:=2,bytes:=48,agg:=true,kind:= .struct [(0,1),(1,1)],zero:=[.sl true 0 [],.sl true 0 []]})/\
 (tI Tryz.prog 42=some {size:=1,bytes:=24,agg:=false,kind:= .slice 137,zero:=[.sl true 0 []]})/\
 (tI Tryz.prog 44=some {size:=1,bytes:=24,agg:=true,kind:= .struct [(0,1)],zero:=[.sl true 0 []]}):=by and_intros<;>kernel_rfl
def TY1:
 (tI Tryz.prog 46=some {size:=4,bytes:=80,agg:=true,kind:= .struct [(0,2),(2,1),(3,1)],zero:=[.sl true 0 [],.sl true 0 [],.sl true 0 [],.int .i64 0]})/\
 (tI Tryz.prog 50=some {size:=1,bytes:=24,agg:=false,kind:= .slice 115,zero:=[.sl true 0 []]})/\
 (tI Tryz.prog 52=some {size:=3,bytes:=56,agg:=true,kind:= .struct [(0,1),(1,1),(2,1)],zero:=[.int .i64 0,.sl true 0 [],.sl true 0 []]})/\
 (tI Tryz.prog 67=some {size:=1,bytes:=8,agg:=false,kind:= .ptr 46,zero:=[.nilp]})/\
 (tI Tryz.prog 69=some {size:=1,bytes:=8,agg:=false,kind:= .ptr 52,zero:=[.nilp]})/\
 (tI Tryz.prog 90=some {size:=1,bytes:=8,agg:=false,kind:= .ptr 41,zero:=[.nilp]})/\
 (tI Tryz.prog 92=some {size:=1,bytes:=8,agg:=false,kind:= .ptr 44,zero:=[.nilp]})/\
 (tI Tryz.prog 93=some {size:=1,bytes:=8,agg:=false,kind:= .other,zero:=[.nilf]})/\
 (tI Tryz.prog 102=some {size:=1,bytes:=8,agg:=false,kind:= .ptr 104,zero:=[.nilp]})/\
 (tI Tryz.prog 104=some {size:=2,bytes:=48,agg:=true,kind:= .struct [(0,2)],zero:=[.sl true 0 [],.sl true 0 []]})/\
 (tI Tryz.prog 115=some {size:=2,bytes:=16,agg:=true,kind:= .struct [(0,1),(1,1)],zero:=[.int .i64 0,.int .i64 0]})/\
 (tI Tryz.prog 117=some {size:=2,bytes:=16,agg:=true,kind:= .struct [(0,1),(1,1)],zero:=[.int .i64 0,.int .i64 0]})/\
 (tI Tryz.prog 122=some {size:=1,bytes:=8,agg:=false,kind:= .ptr 133,zero:=[.nilp]})/\
 (tI Tryz.prog 124=some {size:=6,bytes:=80,agg:=true,kind:= .struct [(0,1),(1,3),(4,1),(5,1)],zero:=[.nilp,.int .i64 0,.sl true 0 [],.sl true 0 [],.int .i64 0,.int .i64 0]})/\
 (tI Tryz.prog 131=some {size:=1,bytes:=8,agg:=false,kind:= .map 9 2,zero:=[.nilm]})/\
 (tI Tryz.prog 133=some {size:=3,bytes:=56,agg:=true,kind:= .struct [(0,2),(2,1)],zero:=[.sl true 0 [],.sl true 0 [],.nilm]})/\
 (tI Tryz.prog 135=some {size:=2,bytes:=16,agg:=true,kind:= .struct [(0,1),(1,1)],zero:=[.int .i64 0,.int .i64 0]})/\
 (tI Tryz.prog 137=some {size:=3,bytes:=24,agg:=true,kind:= .struct [(0,2),(2,1)],zero:=[.int .i64 0,.int .i64 0,.int .i64 0]})/\
 (tI Tryz.prog 147=some {size:=2,bytes:=24,agg:=true,kind:= .struct [(0,1),(1,1)],zero:=[.str ByteArray.empty,.int .i64 0]})/\
 (tI Tryz.prog 150=some {size:=2,bytes:=40,agg:=true,kind:= .struct [(0,1),(1,1)],zero:=[.str ByteArray.empty,.sl true 0 []]}):=by and_intros<;>kernel_rfl
def TY2:
 (tI Tryz.prog 151=some {size:=2,bytes:=24,agg:=true,kind:= .struct [(0,1),(1,1)],zero:=[.str ByteArray.empty,.int .i64 0]})/\
 (tI Tryz.prog 155=some {size:=2,bytes:=40,agg:=true,kind:= .struct [(0,1),(1,1)],zero:=[.str ByteArray.empty,.sl true 0 []]})/\
 (tI Tryz.prog 158=some {size:=1,bytes:=24,agg:=false,kind:= .slice 196,zero:=[.sl true 0 []]})/\
 (tI Tryz.prog 166=some {size:=1,bytes:=24,agg:=false,kind:= .slice 5,zero:=[.sl true 0 []]})/\
 (tI Tryz.prog 173=some {size:=2,bytes:=16,agg:=true,kind:= .struct [(0,1),(1,1)],zero:=[.int .i64 0,.int .i64 0]})/\
 (tI Tryz.prog 175=some {size:=3,bytes:=24,agg:=true,kind:= .struct [(0,2),(2,1)],zero:=[.int .i64 0,.int .i64 0,.int .i64 0]})/\
 (tI Tryz.prog 182=some {size:=1,bytes:=8,agg:=false,kind:= .other,zero:=[.nilf]})/\
 (tI Tryz.prog 185=some {size:=1,bytes:=8,agg:=false,kind:= .other,zero:=[.nilf]})/\
 (tI Tryz.prog 186=some {size:=1,bytes:=24,agg:=false,kind:= .slice 9,zero:=[.sl true 0 []]})/\
 (tI Tryz.prog 196=some {size:=3,bytes:=24,agg:=true,kind:= .struct [(0,1),(1,1),(2,1)],zero:=[.int .i64 0,.int .i64 0,.int .i64 0]})/\
 (tI Tryz.prog 201=some {size:=1,bytes:=8,agg:=false,kind:= .ptr 229,zero:=[.nilp]})/\
 (tI Tryz.prog 210=some {size:=1,bytes:=8,agg:=false,kind:= .other,zero:=[.nilf]})/\
 (tI Tryz.prog 229=some {size:=4,bytes:=80,agg:=true,kind:= .struct [(0,1),(1,1),(2,1),(3,1)],zero:=[.int .i64 0,.sl true 0 [],.sl true 0 [],.sl true 0 []]})/\
 (tI Tryz.prog 230=some {size:=1,bytes:=8,agg:=false,kind:= .map 9 4,zero:=[.nilm]})/\
 (tI Tryz.prog 235=some {size:=1,bytes:=8,agg:=false,kind:= .other,zero:=[.nilf]})/\
 (tI Tryz.prog 237=some {size:=1,bytes:=8,agg:=false,kind:= .other,zero:=[.nilf]})/\
 (tI Tryz.prog 239=some {size:=2,bytes:=16,agg:=true,kind:= .array 2 2,zero:=[.int .i64 0,.int .i64 0]})/\
 (tI Tryz.prog 241=some {size:=1,bytes:=8,agg:=false,kind:= .ptr 261,zero:=[.nilp]})/\
 (tI Tryz.prog 244=some {size:=1,bytes:=24,agg:=false,kind:= .slice 3,zero:=[.sl true 0 []]})/\
 (tI Tryz.prog 249=some {size:=1,bytes:=24,agg:=false,kind:= .slice 250,zero:=[.sl true 0 []]}):=by and_intros<;>kernel_rfl
def TY3:
 (tI Tryz.prog 250=some {size:=1,bytes:=8,agg:=false,kind:= .ptr 252,zero:=[.nilp]})/\
 (tI Tryz.prog 252=some {size:=2,bytes:=16,agg:=true,kind:= .struct [(0,1),(1,1)],zero:=[.nilp,.int .i64 0]})/\
 (tI Tryz.prog 254=some {size:=1,bytes:=8,agg:=false,kind:= .map 2 3,zero:=[.nilm]})/\
 (tI Tryz.prog 261=some {size:=2,bytes:=48,agg:=true,kind:= .struct [(0,1),(1,1)],zero:=[.sl true 0 [],.sl true 0 []]})/\
 (tI Tryz.prog 263=some {size:=24,bytes:=24,agg:=true,kind:= .array 24 5,zero:=(List.replicate 24 (.int .u8 0))})/\
 (tI Tryz.prog 264=some {size:=1,bytes:=8,agg:=false,kind:= .int .u64,zero:=[.int .u64 0]})/\
 (tI Tryz.prog 270=some {size:=1,bytes:=8,agg:=false,kind:= .other,zero:=[.nilf]})/\
 (tI Tryz.prog 271=some {size:=8,bytes:=64,agg:=true,kind:= .array 4 135,zero:=[.int .i64 0,.int .i64 0,.int .i64 0,.int .i64 0,.int .i64 0,.int .i64 0,.int .i64 0,.int .i64 0]})/\
 (tI Tryz.prog 274=some {size:=1,bytes:=8,agg:=false,kind:= .other,zero:=[.nilc]})/\
 (tI Tryz.prog 279=some {size:=20,bytes:=160,agg:=true,kind:= .array 20 264,zero:=[.int .u64 0,.int .u64 0,.int .u64 0,.int .u64 0,.int .u64 0,.int .u64 0,.int .u64 0,.int .u64 0,.int .u64 0,.int .u64 0,.int .u64 0,.int .u64 0,.int .u64 0,.int .u64 0,.int .u64 0,.int .u64 0,.int .u64 0,.int .u64 0,.int .u64 0,.int .u64 0]})/\
 (tI Tryz.prog 280=some {size:=1,bytes:=4,agg:=false,kind:= .int .u32,zero:=[.int .u32 0]})/\
 (tI Tryz.prog 281=some {size:=65,bytes:=65,agg:=true,kind:= .array 65 5,zero:=(List.replicate 65 (.int .u8 0))})/\
 (tI Tryz.prog 283=some {size:=1,bytes:=8,agg:=false,kind:= .int .u64,zero:=[.int .u64 0]})/\
 (tI Tryz.prog 292=some {size:=32,bytes:=32,agg:=true,kind:= .array 32 5,zero:=(List.replicate 32 (.int .u8 0))})/\
 (tI Tryz.prog 293=some {size:=64,bytes:=64,agg:=true,kind:= .array 64 5,zero:=(List.replicate 64 (.int .u8 0))}):=by and_intros<;>kernel_rfl
def KY0:
 (Cn Tryz.prog 2=some ⟨false,[.int .i64]⟩)/\
 (Cn Tryz.prog 3=some ⟨false,[.int .i64]⟩)/\
 (Cn Tryz.prog 4=some ⟨false,[.bool]⟩)/\
 (Cn Tryz.prog 5=some ⟨false,[.int .u8]⟩)/\
 (Cn Tryz.prog 9=some ⟨false,[.str]⟩)/\
 (Cn Tryz.prog 115=some ⟨true,[.int .i64,.int .i64]⟩)/\
 (Tryz.prog.eqGuardType Tryz.prog.depth 115=false)/\
 (Cn Tryz.prog 117=some ⟨true,[.int .i64,.int .i64]⟩)/\
 (Tryz.prog.eqGuardType Tryz.prog.depth 117=false)/\
 (Cn Tryz.prog 135=some ⟨true,[.int .i64,.int .i64]⟩)/\
 (Tryz.prog.eqGuardType Tryz.prog.depth 135=false)/\
 (Cn Tryz.prog 137=some ⟨true,[.int .i64,.int .i64,.int .i64]⟩)/\
 (Tryz.prog.eqGuardType Tryz.prog.depth 137=false)/\
 (Cn Tryz.prog 147=some ⟨true,[.str,.int .i64]⟩)/\
 (Tryz.prog.eqGuardType Tryz.prog.depth 147=false)/\
 (Cn Tryz.prog 151=some ⟨true,[.str,.int .i64]⟩)/\
 (Tryz.prog.eqGuardType Tryz.prog.depth 151=false)/\
 (Cn Tryz.prog 173=some ⟨true,[.int .i64,.int .i64]⟩)/\
 (Tryz.prog.eqGuardType Tryz.prog.depth 173=false)/\
 (Cn Tryz.prog 175=some ⟨true,[.int .i64,.int .i64,.int .i64]⟩):=by and_intros<;>kernel_rfl
def KY1:
 (Tryz.prog.eqGuardType Tryz.prog.depth 175=false)/\
 (Cn Tryz.prog 196=some ⟨true,[.int .i64,.int .i64,.int .i64]⟩)/\
 (Tryz.prog.eqGuardType Tryz.prog.depth 196=false)/\
 (Cn Tryz.prog 264=some ⟨false,[.int .u64]⟩)/\
 (Cn Tryz.prog 280=some ⟨false,[.int .u32]⟩)/\
 (Cn Tryz.prog 283=some ⟨false,[.int .u64]⟩):=by and_intros<;>kernel_rfl
def CY0:True/\True:=⟨trivial,trivial⟩
def Fc:Tryz.prog.follows .mixedOrders=true:=by kernel_rfl
end Go.Ae
namespace Go.Ae
def kI:PK->Option Int
 | .val (.int .i64 x)=>some x
 |_=>none
def kU:PK->Option Int
 | .val (.int .u64 x)=>some x
 |_=>none
def kY:PK->Option Int
 | .val (.int .u8 x)=>some x
 |_=>none
def kB:PK->Option Bool
 | .val (.bool x)=>some x
 |_=>none
def kT:PK->Option MM
 | .val (.str x)=>some x
 |_=>none
def kR{A:Type}(f:List D->Option A):PK->Option A
 | .val (.agg x)=>f x
 |_=>none
def kP{A:Type}(f:List D->Option A)(n:Nat):PK->Option A
 | .ptr x=>f (x.take n)
 |_=>none
def kS{A:Type}(f:List D->Option A):PK->Option (List A)
 | .val (.sl _ _ x)=>Ba f x
 |_=>none
def kI_le: ∀p a,kI p=some a->CX p (.val (.int .i64 a)):=by
 intro p a h;unfold kI at h;split at h
 .obtain rfl:=AJ h;exact CX.refl _
 .cases h
def kU_le: ∀p a,kU p=some a->CX p (.val (.int .u64 a)):=by
 intro p a h;unfold kU at h;split at h
 .obtain rfl:=AJ h;exact CX.refl _
 .cases h
def kY_le: ∀p a,kY p=some a->CX p (.val (.int .u8 a)):=by
 intro p a h;unfold kY at h;split at h
 .obtain rfl:=AJ h;exact CX.refl _
 .cases h
def kB_le: ∀p a,kB p=some a->CX p (.val (.bool a)):=by
 intro p a h;unfold kB at h;split at h
 .obtain rfl:=AJ h;exact CX.refl _
 .cases h
def kT_le: ∀p a,kT p=some a->CX p (.val (.str a)):=by
 intro p a h;unfold kT at h;split at h
 .obtain rfl:=AJ h;exact CX.refl _
 .cases h
section
variable {A:Type}{f:List D->Option A}{e:A->List D}
def JS(hf: ∀ds x,f ds=some x->DC ds (e x)): ∀p a,kR f p=some a->CX p (.val (.agg (e a))):=by
 intro p a h;unfold kR at h;split at h
 .exact LI (hf _ _ h)
 .cases h
def kP_le(n:Nat)(hf: ∀ds x,f ds=some x->DC ds (e x)): ∀p a,kP f n p=some a->CX p (.ptr (e a)):=by
 intro p a h;unfold kP at h;split at h
 .exact Ii.trans_take (hf _ _ h)
 .cases h
def fF(k:Nat)(hf: ∀ds x,f ds=some x->DC ds (e x))(z: ∀x,(e x).length=k): ∀p a,kS f p=some a->CX p (.val (.sl false k (a.map e))):=by
 intro p a h;unfold kS at h;split at h
 .exact Fz (Fs hf _ _ h) (by simp only[BY];rintro r ⟨y,_,rfl⟩;exact z y)
 .cases h
end
def a1{z:Type}(O:PK->Option z):List PK->Option (z)
 |[Q]=>(O Q).bind λZ=>some Z
 |_=>none
def zX{O:Type}{Z:PK->Option O}{Q:O->PK}(h0: ∀p a,Z p=some a->CX p (Q a)): ∀z a,a1 Z z=some a->Cu z [Q (a)]:=by
 intro z a h;unfold a1 at h;split at h
 .simp only[DG,AS] at h;obtain⟨y0,g0,rfl⟩:=h;exact⟨h0 _ _ g0,trivial⟩
 .cases h
def a2{z O:Type}(Q:PK->Option z)(Z:PK->Option O):List PK->Option (z×O)
 |[x0,x1]=>(Q x0).bind λy0=>(Z x1).bind λy1=>some (y0,y1)
 |_=>none
def eM{O:Type}{f0:PK->Option O}{Z:O->PK}{Q:Type}{f1:PK->Option Q}{e1:Q->PK}(h0: ∀p a,f0 p=some a->CX p (Z a))(h1: ∀p a,f1 p=some a->CX p (e1 a)): ∀z a,a2 f0 f1 z=some a->Cu z [Z (a.1),e1 (a.2)]:=by
 intro z a h;unfold a2 at h;split at h
 .simp only[DG,AS] at h;obtain⟨y0,g0,y1,g1,rfl⟩:=h;exact⟨h0 _ _ g0,h1 _ _ g1,trivial⟩
 .cases h
def a3{z O Q:Type}(Z:PK->Option z)(f1:PK->Option O)(f2:PK->Option Q):List PK->Option (z×O×Q)
 |[x0,x1,x2]=>(Z x0).bind λy0=>(f1 x1).bind λy1=>(f2 x2).bind λy2=>some (y0,y1,y2)
 |_=>none
def eO{O:Type}{f0:PK->Option O}{e0:O->PK}{Q:Type}{f1:PK->Option Q}{e1:Q->PK}{Z:Type}{f2:PK->Option Z}{e2:Z->PK}(h0: ∀p a,f0 p=some a->CX p (e0 a))(h1: ∀p a,f1 p=some a->CX p (e1 a))(h2: ∀p a,f2 p=some a->CX p (e2 a)): ∀z a,a3 f0 f1 f2 z=some a->Cu z [e0 (a.1),e1 (a.2.1),e2 (a.2.2)]:=by
 intro z a h;unfold a3 at h;split at h
 .simp only[DG,AS] at h;obtain⟨y0,g0,y1,g1,y2,g2,rfl⟩:=h;exact⟨h0 _ _ g0,h1 _ _ g1,h2 _ _ g2,trivial⟩
 .cases h
def a4{z O Q Z:Type}(f0:PK->Option z)(f1:PK->Option O)(f2:PK->Option Q)(f3:PK->Option Z):List PK->Option (z×O×Q×Z)
 |[x0,x1,x2,x3]=>(f0 x0).bind λy0=>(f1 x1).bind λy1=>(f2 x2).bind λy2=>(f3 x3).bind λy3=>some (y0,y1,y2,y3)
 |_=>none
def zY{O:Type}{f0:PK->Option O}{e0:O->PK}{Q:Type}{f1:PK->Option Q}{e1:Q->PK}{Z:Type}{f2:PK->Option Z}{e2:Z->PK}{A3:Type}{f3:PK->Option A3}{e3:A3->PK}(h0: ∀p a,f0 p=some a->CX p (e0 a))(h1: ∀p a,f1 p=some a->CX p (e1 a))(h2: ∀p a,f2 p=some a->CX p (e2 a))(h3: ∀p a,f3 p=some a->CX p (e3 a)): ∀z a,a4 f0 f1 f2 f3 z=some a->Cu z [e0 (a.1),e1 (a.2.1),e2 (a.2.2.1),e3 (a.2.2.2)]:=by
 intro z a h;unfold a4 at h;split at h
 .simp only[DG,AS] at h;obtain⟨y0,g0,y1,g1,y2,g2,y3,g3,rfl⟩:=h;exact⟨h0 _ _ g0,h1 _ _ g1,h2 _ _ g2,h3 _ _ g3,trivial⟩
 .cases h
def a5{z O Q Z A4:Type}(f0:PK->Option z)(f1:PK->Option O)(f2:PK->Option Q)(f3:PK->Option Z)(f4:PK->Option A4):List PK->Option (z×O×Q×Z×A4)
 |[x0,x1,x2,x3,x4]=>(f0 x0).bind λy0=>(f1 x1).bind λy1=>(f2 x2).bind λy2=>(f3 x3).bind λy3=>(f4 x4).bind λy4=>some (y0,y1,y2,y3,y4)
 |_=>none
def zZ{O:Type}{f0:PK->Option O}{e0:O->PK}{Q:Type}{f1:PK->Option Q}{e1:Q->PK}{Z:Type}{f2:PK->Option Z}{e2:Z->PK}{A3:Type}{f3:PK->Option A3}{e3:A3->PK}{A4:Type}{f4:PK->Option A4}{e4:A4->PK}(h0: ∀p a,f0 p=some a->CX p (e0 a))(h1: ∀p a,f1 p=some a->CX p (e1 a))(h2: ∀p a,f2 p=some a->CX p (e2 a))(h3: ∀p a,f3 p=some a->CX p (e3 a))(h4: ∀p a,f4 p=some a->CX p (e4 a)): ∀z a,a5 f0 f1 f2 f3 f4 z=some a->Cu z [e0 (a.1),e1 (a.2.1),e2 (a.2.2.1),e3 (a.2.2.2.1),e4 (a.2.2.2.2)]:=by
 intro z a h;unfold a5 at h;split at h
 .simp only[DG,AS] at h;obtain⟨y0,g0,y1,g1,y2,g2,y3,g3,y4,g4,rfl⟩:=h;exact⟨h0 _ _ g0,h1 _ _ g1,h2 _ _ g2,h3 _ _ g3,h4 _ _ g4,trivial⟩
 .cases h
def a6{z O Q Z A4 A5:Type}(f0:PK->Option z)(f1:PK->Option O)(f2:PK->Option Q)(f3:PK->Option Z)(f4:PK->Option A4)(f5:PK->Option A5):List PK->Option (z×O×Q×Z×A4×A5)
 |[x0,x1,x2,x3,x4,x5]=>(f0 x0).bind λy0=>(f1 x1).bind λy1=>(f2 x2).bind λy2=>(f3 x3).bind λy3=>(f4 x4).bind λy4=>(f5 x5).bind λy5=>some (y0,y1,y2,y3,y4,y5)
 |_=>none
def yZ{O:Type}{f0:PK->Option O}{e0:O->PK}{Q:Type}{f1:PK->Option Q}{e1:Q->PK}{Z:Type}{f2:PK->Option Z}{e2:Z->PK}{A3:Type}{f3:PK->Option A3}{e3:A3->PK}{A4:Type}{f4:PK->Option A4}{e4:A4->PK}{A5:Type}{f5:PK->Option A5}{e5:A5->PK}(h0: ∀p a,f0 p=some a->CX p (e0 a))(h1: ∀p a,f1 p=some a->CX p (e1 a))(h2: ∀p a,f2 p=some a->CX p (e2 a))(h3: ∀p a,f3 p=some a->CX p (e3 a))(h4: ∀p a,f4 p=some a->CX p (e4 a))(h5: ∀p a,f5 p=some a->CX p (e5 a)): ∀z a,a6 f0 f1 f2 f3 f4 f5 z=some a->Cu z [e0 (a.1),e1 (a.2.1),e2 (a.2.2.1),e3 (a.2.2.2.1),e4 (a.2.2.2.2.1),e5 (a.2.2.2.2.2)]:=by
 intro z a h;unfold a6 at h;split at h
 .simp only[DG,AS] at h;obtain⟨y0,g0,y1,g1,y2,g2,y3,g3,y4,g4,y5,g5,rfl⟩:=h;exact⟨h0 _ _ g0,h1 _ _ g1,h2 _ _ g2,h3 _ _ g3,h4 _ _ g4,h5 _ _ g5,trivial⟩
 .cases h
def a7{z O Q Z A4 A5 A6:Type}(f0:PK->Option z)(f1:PK->Option O)(f2:PK->Option Q)(f3:PK->Option Z)(f4:PK->Option A4)(f5:PK->Option A5)(f6:PK->Option A6):List PK->Option (z×O×Q×Z×A4×A5×A6)
 |[x0,x1,x2,x3,x4,x5,x6]=>(f0 x0).bind λy0=>(f1 x1).bind λy1=>(f2 x2).bind λy2=>(f3 x3).bind λy3=>(f4 x4).bind λy4=>(f5 x5).bind λy5=>(f6 x6).bind λy6=>some (y0,y1,y2,y3,y4,y5,y6)
 |_=>none
def zA{O:Type}{f0:PK->Option O}{e0:O->PK}{Q:Type}{f1:PK->Option Q}{e1:Q->PK}{Z:Type}{f2:PK->Option Z}{e2:Z->PK}{A3:Type}{f3:PK->Option A3}{e3:A3->PK}{A4:Type}{f4:PK->Option A4}{e4:A4->PK}{A5:Type}{f5:PK->Option A5}{e5:A5->PK}{A6:Type}{f6:PK->Option A6}{e6:A6->PK}(h0: ∀p a,f0 p=some a->CX p (e0 a))(h1: ∀p a,f1 p=some a->CX p (e1 a))(h2: ∀p a,f2 p=some a->CX p (e2 a))(h3: ∀p a,f3 p=some a->CX p (e3 a))(h4: ∀p a,f4 p=some a->CX p (e4 a))(h5: ∀p a,f5 p=some a->CX p (e5 a))(h6: ∀p a,f6 p=some a->CX p (e6 a)): ∀z a,a7 f0 f1 f2 f3 f4 f5 f6 z=some a->Cu z [e0 (a.1),e1 (a.2.1),e2 (a.2.2.1),e3 (a.2.2.2.1),e4 (a.2.2.2.2.1),e5 (a.2.2.2.2.2.1),e6 (a.2.2.2.2.2.2)]:=by
 intro z a h;unfold a7 at h;split at h
 .simp only[DG,AS] at h;obtain⟨y0,g0,y1,g1,y2,g2,y3,g3,y4,g4,y5,g5,y6,g6,rfl⟩:=h;exact⟨h0 _ _ g0,h1 _ _ g1,h2 _ _ g2,h3 _ _ g3,h4 _ _ g4,h5 _ _ g5,h6 _ _ g6,trivial⟩
 .cases h
def Kx{A B E F:Type}(f:D->Option A)(g:D->Option B)(k:D->Option E)(m:D->Option F):D->Option (A×B×E×F)
 | .tup [x,y,z,w]=>(f x).bind λa=>(g y).bind λb=>(k z).bind λc=>(m w).bind λd=>some (a,b,c,d)
 |_=>none
def W0{A B E F:Type}{f:D->Option A}{g:D->Option B}{k:D->Option E}{m:D->Option F}{e:A->D}{e':B->D}{e'':E->D}{z:F->D}(hf: ∀d x,f d=some x->Le d (e x))(hg: ∀d x,g d=some x->Le d (e' x))(hk: ∀d x,k d=some x->Le d (e'' x))(hm: ∀d x,m d=some x->Le d (z x)):
 ∀d (x:A×B×E×F),Kx f g k m d=some x->Le d (.tup [e x.1,e' x.2.1,e'' x.2.2.1,z x.2.2.2]):=by
 intro d x h;unfold Kx at h;split at h
 .simp only[DG,AS] at h;obtain⟨a,O,b,Q,c,Z,w,h4,rfl⟩:=h;exact LJ ⟨hf _ _ O,hg _ _ Q,hk _ _ Z,hm _ _ h4,trivial⟩
 .cases h
def Ak.c_n(x:Ak):(Ak.c x).length=3:=rfl
def Ac.c_n(x:Ac):(Ac.c x).length=2:=rfl
def AA.c_n(x:AA):(AA.c x).length=3:=rfl
def Tile.c_n(x:Tile):(Tile.c x).length=2:=rfl
def Cq(x:Int):(Aj x).length=1:=rfl
def KZ(x:Cz):(BD x).length=1:=rfl
structure QK(A:Type) where
 d:PK->Option A
 e:A->PK
 l: ∀p a,d p=some a->CX p (e a)
def qI:QK Int:=⟨kI,λa=> .val (.int .i64 a),kI_le⟩
def qU:QK Int:=⟨kU,λa=> .val (.int .u64 a),kU_le⟩
def qY:QK Int:=⟨kY,λa=> .val (.int .u8 a),kY_le⟩
def qB:QK Bool:=⟨kB,λa=> .val (.bool a),kB_le⟩
def qT:QK MM:=⟨kT,λa=> .val (.str a),kT_le⟩
section
variable {A:Type}{f:List D->Option A}{e:A->List D}
def qR(h: ∀ds x,f ds=some x->DC ds (e x)):QK A:=⟨kR f,λa=> .val (.agg (e a)),JS h⟩
def qP(n:Nat)(h: ∀ds x,f ds=some x->DC ds (e x)):QK A:=⟨kP f n,λa=> .ptr (e a),kP_le n h⟩
def qS{k:Nat}(h: ∀ds x,f ds=some x->DC ds (e x))(z: ∀x,(e x).length=k):QK (List A):=⟨kS f,λa=> .val (.sl false k (a.map e)),fF k h z⟩
end
structure AK(A:Type) where
 r:List PK->Option A
 e:A->List PK
 l: ∀ps a,r ps=some a->Cu ps (e a)
 n:Nat
 w: ∀a,(e a).length=n
def b1{z:Type}(p0:QK z):AK (z):=⟨a1 p0.d,λa=>[p0.e (a)],zX p0.l,1,λ_=>rfl⟩
def b2{z O:Type}(p0:QK z)(p1:QK O):AK (z×O):=⟨a2 p0.d p1.d,λa=>[p0.e (a.1),p1.e (a.2)],eM p0.l p1.l,2,λ_=>rfl⟩
def b3{O Q Z:Type}(p0:QK O)(p1:QK Q)(z:QK Z):AK (O×Q×Z):=⟨a3 p0.d p1.d z.d,λa=>[p0.e (a.1),p1.e (a.2.1),z.e (a.2.2)],eO p0.l p1.l z.l,3,λ_=>rfl⟩
def b4{Q Z A2 A3:Type}(p0:QK Q)(p1:QK Z)(z:QK A2)(O:QK A3):AK (Q×Z×A2×A3):=⟨a4 p0.d p1.d z.d O.d,λa=>[p0.e (a.1),p1.e (a.2.1),z.e (a.2.2.1),O.e (a.2.2.2)],zY p0.l p1.l z.l O.l,4,λ_=>rfl⟩
def b5{Z A1 A2 A3 A4:Type}(p0:QK Z)(p1:QK A1)(z:QK A2)(O:QK A3)(Q:QK A4):AK (Z×A1×A2×A3×A4):=⟨a5 p0.d p1.d z.d O.d Q.d,λa=>[p0.e (a.1),p1.e (a.2.1),z.e (a.2.2.1),O.e (a.2.2.2.1),Q.e (a.2.2.2.2)],zZ p0.l p1.l z.l O.l Q.l,5,λ_=>rfl⟩
def b6{A0 A1 A2 A3 A4 A5:Type}(p0:QK A0)(p1:QK A1)(z:QK A2)(O:QK A3)(Q:QK A4)(Z:QK A5):AK (A0×A1×A2×A3×A4×A5):=⟨a6 p0.d p1.d z.d O.d Q.d Z.d,λa=>[p0.e (a.1),p1.e (a.2.1),z.e (a.2.2.1),O.e (a.2.2.2.1),Q.e (a.2.2.2.2.1),Z.e (a.2.2.2.2.2)],yZ p0.l p1.l z.l O.l Q.l Z.l,6,λ_=>rfl⟩
def b7{A0 A1 A2 A3 A4 A5 A6:Type}(p0:QK A0)(p1:QK A1)(z:QK A2)(O:QK A3)(Q:QK A4)(Z:QK A5)(p6:QK A6):AK (A0×A1×A2×A3×A4×A5×A6):=⟨a7 p0.d p1.d z.d O.d Q.d Z.d p6.d,λa=>[p0.e (a.1),p1.e (a.2.1),z.e (a.2.2.1),O.e (a.2.2.2.1),Q.e (a.2.2.2.2.1),Z.e (a.2.2.2.2.2.1),p6.e (a.2.2.2.2.2.2)],zA p0.l p1.l z.l O.l Q.l Z.l p6.l,7,λ_=>rfl⟩
structure RK(B:Type) where
 c:D->Option B
 e:B->D
 l: ∀d b,c d=some b->Le d (e b)
def rI:RK Int:=⟨Eu,D.int .i64,Xy⟩
def rB:RK Bool:=⟨QV,D.bool,cV⟩
def rT:RK MM:=⟨IX,D.str,cN⟩
section
variable {A:Type}{f:List D->Option A}{e:A->List D}
def rA(h: ∀ds x,f ds=some x->DC ds (e x)):RK A:=⟨Gi f,λb=>D.agg (e b),Ou h⟩
def rS{k:Nat}(h: ∀ds x,f ds=some x->DC ds (e x))(z: ∀x,(e x).length=k):RK (List A):=⟨Xt f,λb=>D.sl false k (b.map e),Wy h z⟩
end
def r2{A B:Type}(p:RK A)(q:RK B):RK (A×B):=⟨pH p.c q.c,λb=>D.tup [p.e b.1,q.e b.2],Qbz p.l q.l⟩
def r3{A B C:Type}(p:RK A)(q:RK B)(r:RK C):RK (A×B×C):=⟨Kw p.c q.c r.c,λb=>D.tup [p.e b.1,q.e b.2.1,r.e b.2.2],Wz p.l q.l r.l⟩
def r4{A B C E:Type}(p:RK A)(q:RK B)(r:RK C)(s:RK E):RK (A×B×C×E):=⟨Kx p.c q.c r.c s.c,λb=>D.tup [p.e b.1,q.e b.2.1,r.e b.2.2.1,s.e b.2.2.2],W0 p.l q.l r.l s.l⟩
def tN{P:Program}:Ls P (tab []):=X2 [] auSi
def tC{P:Program}{g:Nat}{r:A8}{l:List (Nat×A8)}(h:Ij P g r)(Q:Ls P (tab l)):Ls P (tab ((g,r)::l)):=by
 intro g' args h' nx K z;simp only[tab] at z;split at z
 .rename_i O;subst O;exact h _ _ _ _ z
 .exact Q _ _ _ _ _ z
def ZA0:=J @VC0<|J @VC1<|J @VC2<|J @VC3<|J @VC4<|J @VC5<|J @VC6<|J @VC7<|J @VC8<|J @VC9<|J @VC10<|J @VC11<|J @VC12<|J @VC13<|J @VC14<|J @VC15<|J @VC16<|J @VC17<|J @VC18<|J @VC19<|J @VC20<|J @VC21<|J @VC22<|@VC23
def ZA1:=J @VC24<|J @VC25<|J @VC26<|J @VC27<|J @VC28<|J @VC29<|J @VC30<|J @VC31<|J @VC32<|J @VC33<|J @VC34<|J @VC35<|J @VC36<|J @VC37<|J @VC38<|J @VC39<|J @VC40<|J @VC41<|J @VC42<|J @VC43<|J @Mz.{0}<|J @lB<|J @Bool.not_eq_false'<|@AV.im.injEq
def ZA2:=J @D.int.injEq<|J @D.bool.injEq<|J @D.str.injEq<|J @D.sl.injEq<|J @D.agg.injEq<|J @AV.own.injEq<|J @AV.ptr.injEq<|J @B6.{0,0}<|J @Ad.cells.injEq<|J @Ad.arr.injEq<|J @YG.{0}<|J @Int.cast_ofNat_Int<|J @Int.ofNat_lt<|J @Int.ofNat_le<|J @Int.natCast_nonneg<|J @Mu<|J @Pl<|J @B1<|J @IK<|J @YW<|J @YU<|J @decide_true<|J @ZeR<|@CK
def ZA3:=J @GU<|J @Ly<|J @Br.{0,0}<|J @Gl.{0,0}<|J @Sv.{0}<|J @Mv.{0}<|J @Mx.{0}<|J @eF.{0}<|J @ZeZ.{0}<|J @Zfa.{0}<|J @IJ.{1}<|J @Dw.{1}<|J @ES.{0}<|J @Su.{0}<|J @ne_eq.{1}<|J @E5.{0}<|J @BZ.{0}<|J @C3.{0}<|J @Em.{0}<|J @Ed.{0}<|J @lK<|J @eE<|J @ZdT<|@not_true_eq_false
def ZA4:=J @or_true<|J @true_or<|J @Ir<|J @Je<|J @lC<|J @Rl<|J @false_or<|J @K8.{0}<|J @Xl.{0}<|J @YF<|J @lG<|J @Gj<|J @Dv<|J @YB<|J @Xm<|J @true_implies<|J @false_implies<|J @E7.{0,0}<|J @Jg<|J @CZ<|J @Da<|J @zR<|J @rD.{0}<|@Option.isSome_some.{0}
def ZA5:=J @Bool.false_bne<|J @Bool.true_bne<|J @Bool.not_not<|J @BN<|J @Cp<|J @eq_self.{1}<|J @K7.{0}<|J @Bool.true_eq_false<|J @BL<|J @TY0<|J @TY1<|J @TY2<|J @TY3<|J @KY0<|J @KY1<|J @CY0<|J @isG.eq_1<|J @qI.eq_1<|J @qU.eq_1<|J @qY.eq_1<|J @qB.eq_1<|J @qT.eq_1<|J @qR.eq_1<|@qP.eq_1
def ZA6:=J @qS.eq_1<|J @b1.eq_1<|J @b2.eq_1<|J @b3.eq_1<|J @b4.eq_1<|J @b5.eq_1<|J @b6.eq_1<|J @b7.eq_1<|J @rI.eq_1<|J @rB.eq_1<|J @rT.eq_1<|J @rA.eq_1<|J @rS.eq_1<|J @r2.eq_1<|J @r3.eq_1<|J @r4.eq_1<|J @Kx.eq_1<|J @Kx.eq_2<|J @kI.eq_1<|J @kI.eq_2<|J @kU.eq_1<|J @kU.eq_2<|J @kY.eq_1<|@kY.eq_2
def ZA7:=J @kB.eq_1<|J @kB.eq_2<|J @kT.eq_1<|J @kT.eq_2<|J @kR.eq_1<|J @kR.eq_2<|J @kP.eq_1<|J @kP.eq_2<|J @kS.eq_1<|J @kS.eq_2<|J @a1.eq_1<|J @a1.eq_2<|J @a2.eq_1<|J @a2.eq_2<|J @a3.eq_1<|J @a3.eq_2<|J @a4.eq_1<|J @a4.eq_2<|J @a5.eq_1<|J @a5.eq_2<|J @a6.eq_1<|J @a6.eq_2<|J @a7.eq_1<|@a7.eq_2
def ZA8:=J @Ba.eq_1<|J @Ba.eq_2<|J @Pf<|J @CV.eq_1<|J @CV.eq_2<|J @bV.eq_1<|J @bV.eq_2<|J @Aj.eq_1<|J @FD.eq_1<|J @qF<|J @oH<|J @Eu.eq_1<|J @Eu.eq_2<|J @IX.eq_1<|J @IX.eq_2<|J @QV.eq_1<|J @QV.eq_2<|J @Xt.eq_1<|J @Xt.eq_2<|J @Gi.eq_1<|J @Gi.eq_2<|J @pH.eq_1<|J @pH.eq_2<|@Kw.eq_1
def ZA9:=J @Kw.eq_2<|J @AR.c.eq_1<|J @AR.d.eq_1<|J @AR.d.eq_2<|J @AA.c.eq_1<|J @AA.d.eq_1<|J @AA.d.eq_2<|J @AA.d_R<|J @AP.c.eq_1<|J @Ac.c.eq_1<|J @Ac.d.eq_1<|J @Ac.d.eq_2<|J @Ac.d_R<|J @Tile.c.eq_1<|J @Tile.d.eq_1<|J @Tile.d.eq_2<|J @Tile.d_R<|J @AI.c.eq_1<|J @AI.d.eq_1<|J @AI.d.eq_2<|J @AM.c.eq_1<|J @AM.d.eq_1<|@AM.d.eq_2
def ZA10:=J @Ak.c.eq_1<|J @Ak.d.eq_1<|J @Ak.d.eq_2<|J @Ak.d_R<|J @CT.{0,0}<|J @AS.{0}<|J @Dy.{0,0}<|J @AR.d_R<|J @AR.eta<|J @AA.eta<|J @AP.eta<|J @Ac.eta<|J @Tile.eta<|J @AI.eta<|J @AM.eta<|@Ak.eta
def ZA11:=J @Qmt<|J @Qk8<|J @Qqj<|J @Vj<|J @Qf<|J @IV.eq_1<|J @IV.eq_2<|J @IV.eq_3<|J @Lz.{0,0}<|@L0.{0,0}
def ZA:=J @ZA0<|J @ZA1<|J @ZA2<|J @ZA3<|J @ZA4<|J @ZA5<|J @ZA6<|J @ZA7<|J @ZA8<|J @ZA9<|J @ZA10<|@ZA11
def ZT0:=J @fZ.eq_1<|J @BD.eq_1<|J @Pd.eq_1<|J @Pd.eq_2<|J @BB<|J @Bu.c.eq_1<|J @Bu.d.eq_1<|J @Bu.d.eq_2<|J @Bu.eta<|J @Bv.c.eq_1<|J @Bv.d.eq_1<|J @Bv.d.eq_2<|@Bv.eta
def ZT:=J @ZT0 (@Ly)
def ZG:=J @Az.good.eq_1<|J @Cl.eq_1<|J @Cl.eq_2<|J @Ar.eq_1<|J @Ar.eq_2<|J @Ar.eq_3<|J @Ar.eq_4<|J @Ar.eq_5<|J @Ar.eq_6<|J @Ar.eq_7<|J @Ar.eq_8<|J @B5.eq_1<|J @B5.eq_2<|J @AV.bel.eq_1<|J @AV.bel.eq_2<|J @AV.bel.eq_3<|J @AV.bel.eq_4<|J @AV.bel.eq_5<|J @AV.bel.eq_6<|J @AV.bel.eq_7<|J @AV.bel.eq_8<|J @AV.bel.eq_9<|J @AV.bel.eq_10<|J @AV.bel.eq_11<|J @AV.bel.eq_12<|J @A9.eq_1 @A9.eq_2
def B8:=J @R5<|J @XG<|J @X3<|J @XB @R4
def Aq:=J B8 (J @BF.{0} @CA.{0})
def Adq(b:Bool)(k:Nat)(x:List (List D)):AP.d [.sl b k x]=(Ba AA.d x).bind λy=>some ⟨y⟩:=rfl
def ZZ:=J ZA (J ZT @Adq)
def vq{A:Type}{ar:List PK->Option A}{pre:A->Prop}{re:A->D}(r:A8)(e:r=Ei ar pre re)(a:List AV)(h:HpT)(n:Nat)(K:Al):r a h n K=WI ar pre re (Av a) K (I1 h a):=by rw[e];rfl
def vqF{A:Type}{ar:List PK->Option A}{pre:A->Prop}{re:A->D}(r:A8)(e:r=Lj ar pre re)(a:List AV)(h:HpT)(n:Nat)(K:Al):r a h n K=RV ar pre re (Es h a) K (Co h a):=by rw[e];rfl
end Go.Ae
namespace Go.Ae
open Go.Proofs
def vK{A B:Type}(k:AK A)(r:RK B)(pre:A->Prop)(f:A->B):A8:=Ei k.r pre λa=>r.e (f a)
def Cj{A B:Type}(k:AK A)(r:RK B)(pre:A->Prop)(f:A->B):A8:=Lj k.r pre λa=>r.e (f a)
section
variable {A B:Type}{R:A8}{k:AK A}{r:RK B}{pre:A->Prop}{f:A->B}
def Bg(e:R=vK k r pre f)(a:List AV)(h:HpT)(n:Nat)(K:Al):R a h n K=WI k.r pre (λa=>r.e (f a)) (Av a) K (I1 h a):=by rw[e];rfl
def Cf(e:R=Cj k r pre f)(a:List AV)(h:HpT)(n:Nat)(K:Al):R a h n K=RV k.r pre (λa=>r.e (f a)) (Es h a) K (Co h a):=by rw[e];rfl
variable {V:DK}(hV:Ls Tryz.prog V){g:FuncId}{fn:Func}{c:Code}(hf:Tryz.prog.funcs[g]? =some fn)
include hV hf
def vw(Q: ∀a,pre a->DH Tryz.prog V c (Qj Tryz.prog fn.results.toList (Cm (k.e a)) [] LB (D6 0 (k.e a)) (NG r.c (f a))) ⟨entry 0 (D7 0 (k.e a)),D6 0 (k.e a),Cm (k.e a)⟩)(O:fn.body=some c:=by rfl)(z:(EW fn.ntmps c && (Hu Tryz.prog g && Nat.ble k.n fn.ntmps))=true:=by kernel_rfl):Ij Tryz.prog g (vK k r pre f):=by
 simp only[B1] at z;exact XM Fc hV hf O z.1 z.2.1 k.l k.w (kX z.2.2) r.l Q
def EK(Q: ∀a,pre a->DH Tryz.prog V c (eC Tryz.prog fn.results.toList (AO r.c (f a))) ⟨entry 0 (D7 0 (k.e a)),D6 0 (k.e a),Cm (k.e a)⟩)(O:fn.body=some c:=by rfl)(z:(EW fn.ntmps c && (Hu Tryz.prog g && Nat.ble k.n fn.ntmps))=true:=by kernel_rfl):Ij Tryz.prog g (Cj k r pre f):=by
 simp only[B1] at z;exact Qbn Fc hV hf O z.1 z.2.1 k.l k.w (kX z.2.2) r.l Q
end
section
variable {V:DK}(hV:Ls Tryz.prog V){g:FuncId}{fn:Func}{c:Code}(hf:Tryz.prog.funcs[g]? =some fn)
 {A:Type}{ca:A->List AV}{H0 H1:A->An}{k cnt:Nat}{pre:A->Prop}{klB exB:Nat->Bool}{r0:A->AV}{R:A->AV->Prop}
 (hn: ∀a,Nat.ble (ca a).length fn.ntmps=true)(hq: ∀a,A9 k (ca a)=true/\Ar k (H0 a)=true/\B5 k (H0 a)=true/\Ca (H0 a) (H0 a))
 (hH1: ∀a,∀p∈H1 a,(p.1<k/\klB p.1=true/\Ai (H0 a) p.1=true)\/(k<=p.1/\p.1<k+cnt/\exB p.1=true/\p.2.1=true))
 (hR: ∀a r,R a r->CU r (r0 a))
include hV hf hn hq hH1 hR
def ow(hk: ∀a,pre a->DH Tryz.prog V c (OA Tryz.prog fn.results.toList k cnt (H0 a) (H1 a) klB exB (R a)) ⟨entry 0 (ca a),H0 a,k⟩)(hb:fn.body=some c:=by rfl)(Z:(EW fn.ntmps c && Hu Tryz.prog g)=true:=by kernel_rfl):Ij Tryz.prog g (A7 ca H0 k pre klB r0 H1 cnt):=by
 simp only[B1] at Z;rintro args h nx K ⟨a,τ,U,KL,Q,rfl,z,O,hK⟩;refine⟨pR Z.2,_,_,?_,hK⟩;exact objG Fc hV hf hb Z.1 (kX (hn a)) (hq a).1 (hq a).2.1 (hq a).2.2.1 (λj e he=>Qo2 (hq a).2.2.2 j e (jM he)) (hR a) (hH1 a) Vx (λ_ _ h=>h) (hk a Q) O.inj O.lt
  (λj e he=>Qpk z j e (jM he)) O.u O.k1 O.k2
def KF(hk: ∀a,pre a->DH Tryz.prog V c (Bh Tryz.prog fn.results.toList k cnt (H0 a) (H1 a) klB exB (R a)) ⟨entry 0 (ca a),H0 a,k⟩)(hb:fn.body=some c:=by rfl)(Z:(EW fn.ntmps c && Hu Tryz.prog g)=true:=by kernel_rfl):Ij Tryz.prog g (A7 ca H0 k pre klB r0 H1 cnt):=by
 simp only[B1] at Z;rintro args h nx K ⟨a,τ,U,KL,Q,rfl,z,O,hK⟩;refine⟨pR Z.2,_,_,?_,hK⟩;exact objG Fc hV hf hb Z.1 (kX (hn a)) (hq a).1 (hq a).2.1 (hq a).2.2.1 (λj e he=>Qo2 (hq a).2.2.2 j e (jM he)) (hR a) (hH1 a) Vy (λ_ _ h=>h) (hk a Q) O.inj O.lt
  (λj e he=>Qpk z j e (jM he)) O.u O.k1 O.k2
end
abbrev AE:=Ij Tryz.prog
def LeVq{A:Type}{f:A->AV}(a:A)(r:AV)(h:r=f a):CU r (f a):=by subst h;exact CU.refl _
def B7(n lo z:Int):Bool:=decide (lo<=n) && decide (n<=z)
def within_.fv(a:Int×Int×Int):Bool:=(B7) (a.1) (a.2.1) (a.2.2)
def within_.row:A8:=vK (b3 qI qI qI) rB (λa=>True) within_.fv
def within_.q:=Bg (R:=within_.row) rfl
def within_.ok:AE 116 within_.row:=by
 refine vw tN Tryz.func116 ?_;intro a z;simp only[Tryz.f116];simp only[ZA,simprocAttr,within_.fv];simp only[B7];grind
def l00In.fv(a:Int×Int×Int):Bool:=(B7) (a.1) (a.2.1) (a.2.2)
def l00In.row:A8:=vK (b3 qI qI qI) rB (λa=>True) l00In.fv
def l00In.q:=Bg (R:=l00In.row) rfl
def l00In.ok:AE 94 l00In.row:=by
 refine vw tN Tryz.func94 ?_;intro a z;simp only[Tryz.f94];simp only[ZA,simprocAttr,l00In.fv];simp only[B7];grind
def I64(n:Int):Prop:= -9223372036854775808<=n/\n<=9223372036854775807
def isIndex.fv(a:Int×Int):Bool:=B7 a.1 0 (a.2 - 1)
def isIndex.row:A8:=vK (b2 qI qI) rB (λa=>0<=a.2/\I64 a.2) isIndex.fv
def isIndex.q:=Bg (R:=isIndex.row) rfl
def isIndex.ok:AE 162 isIndex.row:=by
 refine vw (tC within_.ok tN) Tryz.func162 ?_;intro a z;simp only[Tryz.f162];simp only[ZA,simprocAttr,isIndex.fv,within_.q,within_.fv];obtain⟨O,Q,Z⟩:=z;rw[AG auOm auOm]
def Kz(p:AR):Bool:=B7 p.X (-60) 60 && B7 p.Y (-60) 60
def ValidPoint.fv(a:AR):Bool:=(Kz) a
def ValidPoint.row:A8:=vK (b1 (qR AR.d_le)) rB (λa=>True) ValidPoint.fv
def ValidPoint.q:=Bg (R:=ValidPoint.row) rfl
def ValidPoint.ok:AE 178 ValidPoint.row:=by
 refine vw (tC within_.ok tN) Tryz.func178 ?_;intro a z;simp only[Tryz.f178];simp only[ZA,simprocAttr,ValidPoint.fv,within_.q,within_.fv];simp only[Kz];grind
def l01Point.fv(a:AR):Bool:=(Kz) a
def l01Point.row:A8:=vK (b1 (qR AR.d_le)) rB (λa=>True) l01Point.fv
def l01Point.q:=Bg (R:=l01Point.row) rfl
def l01Point.ok:AE 139 l01Point.row:=by
 refine vw (tC l00In.ok tN) Tryz.func139 ?_;intro a z;simp only[Tryz.f139];simp only[ZA,simprocAttr,l01Point.fv,l00In.q,l00In.fv];simp only[Kz];grind
def isNaN.fv(a:Int):Bool:=false && a==0
def isNaN.row:A8:=vK (b1 qI) rB (λa=>True) isNaN.fv
def isNaN.q:=Bg (R:=isNaN.row) rfl
def isNaN.ok:AE 189 isNaN.row:=by
 refine vw tN Tryz.func189 ?_;intro a z;simp only[Tryz.f189];simp only[ZA,simprocAttr,isNaN.fv]
 try simp
def EB(a b:Int):Int:=if a<b then -1 else if b<a then 1 else 0
def Compare.fv(a:Int×Int):Int:=(EB) (a.1) (a.2)
def Compare.row:A8:=vK (b2 qI qI) rI (λa=>True) Compare.fv
def Compare.q:=Bg (R:=Compare.row) rfl
def Compare.ok:AE 160 Compare.row:=by
 refine vw (tC isNaN.ok tN) Tryz.func160 ?_;intro a z;simp only[Tryz.f160];simp only[ZA,simprocAttr,Compare.fv,isNaN.q,isNaN.fv];simp only[EB];grind
def Ds(a b:AR):Bool:=decide (a.Y<b.Y)||(decide (a.Y=b.Y) && decide (a.X<b.X))
def l_LessPoint.fv(a:AR×AR):Bool:=(Ds) (a.1) (a.2)
def l_LessPoint.row:A8:=vK (b2 (qR AR.d_le) (qR AR.d_le)) rB (λa=>True) l_LessPoint.fv
def l_LessPoint.q:=Bg (R:=l_LessPoint.row) rfl
def l_LessPoint.ok:AE 140 l_LessPoint.row:=by
 refine vw tN Tryz.func140 ?_;intro a z;simp only[Tryz.f140];simp only[ZA,simprocAttr,l_LessPoint.fv];simp only[Ds]
 grind
def Gb(a b:Int):Int:=if a<b then a else b
def Fj(a b:Int):Int:=if b<a then a else b
def l00Min.fv(a:Int×Int):Int:=(Gb) (a.1) (a.2)
def l00Min.row:A8:=vK (b2 qI qI) rI (λa=>True) l00Min.fv
def l00Min.q:=Bg (R:=l00Min.row) rfl
def l00Min.ok:AE 142 l00Min.row:=by
 refine vw tN Tryz.func142 ?_;intro a z;simp only[Tryz.f142];simp only[ZA,simprocAttr,l00Min.fv];simp only[Gb];grind
def l00Max.fv(a:Int×Int):Int:=(Fj) (a.1) (a.2)
def l00Max.row:A8:=vK (b2 qI qI) rI (λa=>True) l00Max.fv
def l00Max.q:=Bg (R:=l00Max.row) rfl
def l00Max.ok:AE 143 l00Max.row:=by
 refine vw tN Tryz.func143 ?_;intro a z;simp only[Tryz.f143];simp only[ZA,simprocAttr,l00Max.fv];simp only[Fj];grind
def xO(c:Int):Bool:=B7 c 97 122||B7 c 65 90
def Qtq(c:Int):Bool:=B7 c 48 57
def l01Letter.fv(a:Int):Bool:=(xO) a
def l01Letter.row:A8:=vK (b1 qY) rB (λa=>True) l01Letter.fv
def l01Letter.q:=Bg (R:=l01Letter.row) rfl
def l01Letter.ok:AE 137 l01Letter.row:=by
 refine vw tN Tryz.func137 ?_;intro a z;simp only[Tryz.f137];simp only[ZA,simprocAttr,l01Letter.fv];simp only[xO,B7];grind
def l01Digit.fv(a:Int):Bool:=(Qtq) a
def l01Digit.row:A8:=vK (b1 qY) rB (λa=>True) l01Digit.fv
def l01Digit.q:=Bg (R:=l01Digit.row) rfl
def l01Digit.ok:AE 138 l01Digit.row:=by
 refine vw tN Tryz.func138 ?_;intro a z;simp only[Tryz.f138];simp only[ZA,simprocAttr,l01Digit.fv];simp only[Qtq,B7];grind
def zC(a b:AR):AR:=⟨a.X+b.X,a.Y+b.Y⟩
def Sb(p:AR):Prop:= -1000000000<=p.X/\p.X<=1000000000/\ -1000000000<=p.Y/\p.Y<=1000000000
def plus.fv(a:AR×AR):AR:=(zC) (a.1) (a.2)
def plus.row:A8:=vK (b2 (qR AR.d_le) (qR AR.d_le)) (rA AR.d_le) (λa=>Sb a.1/\Sb a.2) plus.fv
def plus.q:=Bg (R:=plus.row) rfl
def plus.ok:AE 210 plus.row:=by
 refine vw tN Tryz.func210 ?_;intro a z;simp only[Tryz.f210];simp only[ZA,simprocAttr,plus.fv];obtain⟨⟨O,Q,Z,h4⟩,h5,h6,h7,h8⟩:=z;rw[AG auOm auOm,AG auOm auOm];rfl
def WP(p:AR)(d:Int):AR:=if d=0 then ⟨p.X,p.Y+1⟩ else if d=1 then ⟨p.X+1,p.Y⟩ else if d=2 then ⟨p.X,p.Y - 1⟩ else ⟨p.X - 1,p.Y⟩
def step_.rc:D->Option (AR):=Gi AR.d
def step_.re:AR->D:=λb=>D.agg (AR.c b)
def step_.rle: ∀d b,step_.rc d=some b->Le d (step_.re b):=Ou AR.d_le
def step_.fv(a:AR×Int):AR:=(WP) (a.1) (a.2)
def step_.row:A8:=vK (b2 (qR AR.d_le) qI) (RK.mk step_.rc step_.re step_.rle) (λa=>Sb a.1/\0<=a.2/\a.2<=3) step_.fv
def step_.q:=Bg (R:=step_.row) rfl
def step_.ok:AE 200 step_.row:=by
 refine vw (tC plus.ok tN) Tryz.func200 ?_;intro a z;simp only[Tryz.f200];obtain⟨p,d⟩:=a;obtain⟨hp,O,Q⟩:=z;simp only at O Q hp;rcases (by omega:d=0\/d=1\/d=2\/d=3) with rfl|rfl|rfl|rfl
 all_goals
  simp only[ZA,simprocAttr,step_.fv,step_.rc,plus.q,plus.fv];obtain⟨Z,h4,h5,h6⟩:=hp;refine⟨⟨⟨Z,h4,h5,h6⟩,by simp[Sb]⟩,?_⟩;simp[WP,zC]<;>omega
def l01Step.fv(a:AR×Int):AR:=(WP) (a.1) (a.2)
def l01Step.row:A8:=vK (b2 (qR AR.d_le) qI) (rA AR.d_le) (λa=>Sb a.1/\0<=a.2/\a.2<=3) l01Step.fv
def l01Step.q:=Bg (R:=l01Step.row) rfl
def l01Step.ok:AE 170 l01Step.row:=by
 refine vw tN Tryz.func170 ?_;intro a z;simp only[Tryz.f170];simp only[ZA,simprocAttr,l01Step.fv];obtain⟨⟨O,Q,Z,h4⟩,h5,h6⟩:=z;rw[AG auOm auOm,AG auOm auOm,AG auOm auOm,AG auOm auOm];simp only[WP]
 grind
def Lk:Cz->Int
 |[]=>0
 |x::r=>if x=0 then Lk r else x
def Or.fv(a:(Cz)):Int:=(Lk) a
def Or.row:A8:=vK (b1 (qS D4 Cq)) rI (λa=>True) Or.fv
def Or.q:=Bg (R:=Or.row) rfl
def Or.ok:AE 159 Or.row:=by
 refine vw tN Tryz.func159 ?_;intro a aa;simp only[Tryz.f159];simp(disch:=omega)only[ZA,simprocAttr,Or.fv];intro Z;refine AY.old ⟨{k:Nat//k<=a.length/\Lk (a.drop k)=Lk a},λk=>⟨[(8,.im (.int .i64 k.1)),(7,.im (.int .i64 a.length)),(6,.im (.sl false 1 (a.map Aj))),(3,.im (.int .i64 0)),(2,.im (.int .i64 0))],[],0⟩,λk=>a.length - k.1,λk=>⟨by simp[ZG],BN _⟩,⟨⟨0,auSi⟩,by simp(disch:=omega)only[ZA,simprocAttr,sub]⟩,λk=> ?_⟩;obtain⟨k,ab,z⟩:=k;simp(disch:=omega)only[ZA,simprocAttr,sub];simp only[AL];refine⟨λO=>⟨O,λx hx=> ?_⟩,λO=> ?_⟩
 .have Q:a.drop k=x::a.drop (k+1):=by
   rw[D1 O];rw[Bk O] at hx;rw[AJ hx]
  rw[Q,Lk] at z;refine⟨λh=>by grind,λh=>⟨⟨k+1,auOm,by grind⟩,by simp only;omega,?_⟩⟩;simp (disch:=omega) only[AG];simp
 .have Q:a.drop k=[]:=Bm auOm;rw[Q] at z;exact z
def comparePoints.fv(a:AR×AR):Int:=(λa b=>Lk [EB a.Y b.Y,EB a.X b.X]) (a.1) (a.2)
def comparePoints.row:A8:=vK (b2 (qR AR.d_le) (qR AR.d_le)) rI (λa=>True) comparePoints.fv
def comparePoints.q:=Bg (R:=comparePoints.row) rfl
def comparePoints.ok:AE 195 comparePoints.row:=by
 refine vw (tC Compare.ok (tC Or.ok tN)) Tryz.func195 ?_;intro a z;simp only[Tryz.f195];simp only[ZA,simprocAttr,comparePoints.fv,Compare.q,Compare.fv,Or.q,Or.fv]
def impl_LessPoint.fv(a:AR×AR):Bool:=(Ds) (a.1) (a.2)
def impl_LessPoint.row:A8:=vK (b2 (qR AR.d_le) (qR AR.d_le)) rB (λa=>True) impl_LessPoint.fv
def impl_LessPoint.q:=Bg (R:=impl_LessPoint.row) rfl
def impl_LessPoint.ok:AE 179 impl_LessPoint.row:=by
 refine vw (tC comparePoints.ok tN) Tryz.func179 ?_;intro a z;simp only[Tryz.f179];simp only[ZA,simprocAttr,impl_LessPoint.fv,comparePoints.q,comparePoints.fv];simp only[Ds,Lk,EB]
 grind
def OU(i:Nat)(c:Int):Bool:=xO c||(decide (i≠0) && (Qtq c||decide (c=95)))
def IC:Nat->List UInt8->Bool
 |_,[]=>true
 |i,c::r=>OU i c.toNat && IC (i+1) r
def tV{a:MM}{k:Nat}{c:UInt8}(O:a.data[k]? =some c):a.data.toList.drop k=c::a.data.toList.drop (k+1):=by
 have h0:a.data.toList[k]? =some c:=by simpa using O
 have z:k<a.data.toList.length:=(Bi.1 h0).1;rw[D1 z];rw[Bk z] at h0;rw[AJ h0]
def SO{a:MM}{k:Nat}(h: ¬k<a.size):a.data.toList.drop k=[]:=Bm (by simpa using h)
def J3(s:MM):Bool:=IC 0 s.data.toList && (decide (1<=s.size) && decide (s.size<=12))
def impl_IsName.fv(a:MM):Bool:=(J3) a
def impl_IsName.row:A8:=vK (b1 qT) rB (λa=>a.size<=140737488355328) impl_IsName.fv
def impl_IsName.q:=Bg (R:=impl_IsName.row) rfl
def impl_IsName.ok:AE 176 impl_IsName.row:=by
 refine vw tN Tryz.func176 ?_;intro a aa;simp only[Tryz.f176];simp only[ZA,simprocAttr,impl_IsName.fv];refine AY.old ⟨{k:Nat//k<=a.size/\IC k (a.data.toList.drop k)=IC 0 a.data.toList},λk=>⟨[(8,.im (.int .i64 k.1)),(7,.im (.int .i64 a.size)),(6,.im (.str a)),(0,.im (.str a)),(2,.im (.bool false))],[],0⟩,λk=>a.size - k.1,λk=>⟨by simp[ZG],BN _⟩,⟨⟨0,auSi⟩,by simp only[ZA,simprocAttr,sub]⟩,λk=> ?_⟩;obtain⟨k,ab,z⟩:=k;simp only[ZA,simprocAttr]
 split<;>rename_i Z
 .refine⟨Z,?_⟩;intro c hc;have hd:a.data.toList.drop k=c::a.data.toList.drop (k+1):=by
   have hl:k<a.data.toList.length:=by simpa using Z
   rw[D1 hl]
   have:a.data.toList[k]? =some c:=by simpa using hc
   rw[Bk hl] at this;rw[AJ this]
  rw[hd,IC] at z;by_cases e1:(97:Int)<=c.toNat<;>by_cases e2:(c.toNat:Int)<=122<;>(try (exfalso;omega))<;>by_cases e3:(65:Int)<=c.toNat<;>(try (exfalso;omega))<;>by_cases e4:(c.toNat:Int)<=90<;>(try (exfalso;omega))<;>
   by_cases e5:(c.toNat:Int)<48<;>(try (exfalso;omega))<;>by_cases e6:(57:Int)<c.toNat<;>(try (exfalso;omega))<;>by_cases e7:(c.toNat:Int)=95<;>(try (exfalso;omega))<;>by_cases e8:(k:Int)=0
  all_goals
   have e9:(48:Int)<=c.toNat↔ ¬(c.toNat:Int)<48:=auOm;have O:(c.toNat:Int)<=57↔ ¬(57:Int)<c.toNat:=auOm;have Q:k=0↔(k:Int)=0:=auOm;have hb:OU k c.toNat=OU k c.toNat:=rfl
   conv at hb=>
    rhs
    simp only[OU,xO,Qtq,B7,e1,e2,e3,e4,e5,e6,e7,e8,e9,O,Q,ne_eq,decide_true,ZeR,Jg,zR,lG,YF,Gj,Dv,CZ,Da,not_true_eq_false,ZdT]
   rw[hb] at z;simp only[ZA,simprocAttr,sub,e1,e2,e3,e4,e5,e6,e7,e8]
   first
    |(simp only[Da] at z
      simp only[J3,<-z,Da])
    |(simp only[CZ] at z
      refine⟨⟨k+1,auOm,z⟩,by simp only;omega,?_⟩;rw[AG auOm auOm];simp only
      omega)
    |(have h9:IC 0 a.data.toList=false:=by rw[<-z];simp
      simp[J3,h9])
 .have:a.data.toList.drop k=[]:=Bm (by simpa using Z)
  rw[this,IC] at z;simp only[J3]
  grind
def spec_IsName.fv(a:MM):Bool:=(J3) a
def spec_IsName.row:A8:=vK (b1 qT) rB (λa=>True) spec_IsName.fv
def spec_IsName.q:=Bg (R:=spec_IsName.row) rfl
def rC:=J @l01Letter.q @l01Letter.fv.eq_1
def spec_IsName.ok:AE 93 spec_IsName.row:=by
 refine vw (tC l01Letter.ok (tC l01Digit.ok tN)) Tryz.func93 ?_;intro a ad;simp only[Tryz.f93];simp only[ZA,simprocAttr,spec_IsName.fv,AL];refine⟨λh1=>⟨λh2=>⟨auOm,?_⟩,λh2=> ?_⟩,λh1=> ?_⟩
 .intro c hc;have hd:=tV hc;rw[Mv] at hd;cases hL:xO c.toNat
  .simp only[ZA,simprocAttr,rC,hL];have h9:IC 0 a.data.toList=false:=by rw[hd];simp[IC,OU,hL]
   simp[J3,h9]
  .simp only[ZA,simprocAttr,rC,hL];refine AY.old ⟨{k:Nat//1<=k/\k<=a.size/\IC k (a.data.toList.drop k)=IC 0 a.data.toList},λk=>⟨[(3,.im (.int .i64 k.1)),(0,.im (.str a)),(2,.im (.bool false))],[],0⟩,λk=>a.size - k.1,λk=>⟨by simp[ZG],BN _⟩,⟨⟨1,auOm,auOm,?_⟩,by simp only[ZA,simprocAttr,sub]⟩,λk=> ?_⟩
   .conv=>rhs;rw[hd]
    simp[IC,OU,hL]
   .obtain⟨k,af,ag,z⟩:=k;simp only[ZA,simprocAttr,AL];refine⟨λhk=>⟨hk,λc2 Z=> ?_⟩,λhk=> ?_⟩
    .rw[tV Z,IC] at z;simp only[ZZ,simprocAttr,rC,l01Digit.q,l01Digit.fv,sub,AL];have ac:OU k c2.toNat=true->IC (k+1) (a.data.toList.drop (k+1))=IC 0 a.data.toList:=by
      intro h;rw[h] at z;simpa using z
     have ab:OU k c2.toNat=false->false=J3 a:=by
      intro h;rw[h] at z;have h9:IC 0 a.data.toList=false:=by rw[<-z];simp
      simp[J3,h9]
     have Q:OU k c2.toNat=true-> ∃b':{k:Nat//1<=k/\k<=a.size/\IC k (a.data.toList.drop k)=IC 0 a.data.toList},a.size - b'.val<a.size - k/\IntKind.wrap .i64 ((k:Int)+1)=b'.val:=by
      intro h;refine⟨⟨k+1,auOm,auOm,ac h⟩,by simp only;omega,?_⟩;rw[AG auOm auOm];simp only;omega
     have aa:k≠0:=auOm;refine⟨λl=>⟨hk,λc3 O=> ?_⟩,λl=> ?_⟩
     .rw[Z] at O;obtain rfl:=AJ O;refine⟨λl2=>⟨hk,λc3 O=> ?_⟩,λl2=> ?_⟩
      .rw[Z] at O;obtain rfl:=AJ O;refine⟨λl3=>ab ?_,λl3=>Q ?_⟩
       .simp[OU,l,l2,l3]
       .simp only[Ch] at l3;simp[OU,l3,aa]
      .refine Q ?_;simp only[FM] at l2;simp[OU,l2,aa]
     .refine Q ?_;simp only[FM] at l;simp[OU,l]
    .rw[SO hk,IC] at z;simp only[J3]
     grind
 .simp only[J3];grind
 .simp only[J3];grind
def Xa{A:Type}{B:Type}(f:A->B)(z:B)(a:List A)(k:Nat)(x:A)(O:a[k]? =some x):
 ((a.take k).map f++List.replicate (a.length - k) z).set k (f x)=(a.take (k+1)).map f++List.replicate (a.length - (k+1)) z:=by
 have hk:k<a.length:=(Bi.1 O).1;have Q:a.take (k+1)=a.take k++[x]:=by
  rw[FL,O];rfl
 have Z:a.length - k=(a.length - (k+1))+1:=auOm;rw[Q,Z,Zee,Dj,Gk,zQ _ _ (by simp;omega)];have h3:k - (List.map f (List.take k a)).length=0:=by simp;omega
 rw[h3];rfl
def WT{A:Type}{B:Type}(f:A->B)(z:B)(a:List A)(k:Nat)(x:A)(Q:a[k]? =some x):
 ((a.take k).map f++List.replicate (a.length - k) z)[k]? =some z:=by
 have Z:k<a.length:=(Bi.1 Q).1;rw[D8 (by simp;omega)];have O:k - (List.map f (List.take k a)).length=0:=by simp;omega
 rw[O,IL,Bt auOm]
def WX{A:Type}{B:Type}(f:A->B)(z:B)(a:List A)(k:Nat)(O:k<=a.length):((a.take k).map f++List.replicate (a.length - k) z).length=a.length:=by
 simp;omega
def WY{A:Type}{B:Type}(f:A->B)(z:B)(a:List A)(k:Nat)(O:a.length<=k):(a.take k).map f++List.replicate (a.length - k) z=a.map f:=by
 rw[BE O,show a.length - k=0 by omega];simp
def toPoint.fv(a:AR):AR:=(λp=>p) a
def toPoint.row:A8:=vK (b1 (qR AR.d_le)) (rA AR.d_le) (λa=>True) toPoint.fv
def toPoint.q:=Bg (R:=toPoint.row) rfl
def toPoint.ok:AE 150 toPoint.row:=by
 refine vw tN Tryz.func150 ?_;intro a z;simp only[Tryz.f150];simp only[ZA,simprocAttr,toPoint.fv]
def toPlaced.fv(a:AA):AA:=(λp=>p) a
def toPlaced.row:A8:=vK (b1 (qR AA.d_le)) (rA AA.d_le) (λa=>True) toPlaced.fv
def toPlaced.q:=Bg (R:=toPlaced.row) rfl
def toPlaced.ok:AE 111 toPlaced.row:=by
 refine vw (tC toPoint.ok tN) Tryz.func111 ?_;intro a z;simp only[Tryz.f111];simp only[ZA,simprocAttr,toPlaced.fv,toPoint.q,toPoint.fv]
def toGlue.fv(a:Ac):Ac:=(λp=>p) a
def toGlue.row:A8:=vK (b1 (qR Ac.d_le)) (rA Ac.d_le) (λa=>True) toGlue.fv
def toGlue.q:=Bg (R:=toGlue.row) rfl
def toGlue.ok:AE 109 toGlue.row:=by
 refine vw tN Tryz.func109 ?_;intro a z;simp only[Tryz.f109];simp only[ZA,simprocAttr,toGlue.fv]
def toInt64S.fv(a:(Cz)):Cz:=(λp=>p) a
def toInt64S.row:A8:=vK (b1 (qS D4 Cq)) (rS D4 Cq) (λa=>a.length<=1073741824) toInt64S.fv
def toInt64S.q:=Bg (R:=toInt64S.row) rfl
def toInt64S.ok:AE 9 toInt64S.row:=by
 refine vw tN Tryz.func9 ?_;intro a Z;simp only[Tryz.f9];simp only[ZA,simprocAttr,toInt64S.fv];intro Q;refine⟨auOm,?_⟩;refine AY.old ⟨{k:Nat//k<=a.length},λk=>⟨[(4,.im (.int .i64 k.1)),(3,.own 1),(0,.im (.sl false 1 (a.map Aj)))],[(1,(true,.arr 2 1 ((a.take k.1).map Aj++List.replicate (a.length - k.1) [.int .i64 0])))],2⟩,λk=>a.length - k.1,λk=>⟨by simp[ZG],BN _⟩,⟨⟨0,auOm⟩,by simp only[ZA,simprocAttr,sub];simp⟩,λk=> ?_⟩;obtain⟨k,O⟩:=k;simp only[ZA,simprocAttr,AL,WX _ _ a k O];intro _;refine⟨λz=>⟨z,λx hx=>⟨z,z,IH (WT Aj [.int .i64 0] a k x hx) ?_⟩⟩,λz=> ?_⟩
 .simp only[ZA,simprocAttr,sub];refine⟨⟨k+1,auOm⟩,by simp only;omega,?_,?_⟩
  .rw[AG auOm auOm];simp only;omega
  .exact Xa Aj [.int .i64 0] a k x hx
 .rw[WY Aj _ a k auOm];simp[qF]
def eqPoint.fv(a:AR×AR):Bool:=(λa b=>decide (a=b)) (a.1) (a.2)
def eqPoint.row:A8:=vK (b2 (qR AR.d_le) (qR AR.d_le)) rB (λa=>True) eqPoint.fv
def eqPoint.q:=Bg (R:=eqPoint.row) rfl
def eqPoint.ok:AE 168 eqPoint.row:=by
 refine vw tN Tryz.func168 ?_;intro a O;simp only[Tryz.f168];simp only[ZA,simprocAttr,eqPoint.fv];obtain⟨⟨x,y⟩,⟨z,w⟩⟩:=a;simp only[AR.mk.injEq]
 grind
def eqPlaced.fv(a:AA×AA):Bool:=(λa b=>decide (a=b)) (a.1) (a.2)
def eqPlaced.row:A8:=vK (b2 (qR AA.d_le) (qR AA.d_le)) rB (λa=>True) eqPlaced.fv
def eqPlaced.q:=Bg (R:=eqPlaced.row) rfl
def eqPlaced.ok:AE 134 eqPlaced.row:=by
 refine vw (tC eqPoint.ok tN) Tryz.func134 ?_;intro a O;simp only[Tryz.f134];simp only[ZA,simprocAttr,eqPlaced.fv,eqPoint.q,eqPoint.fv];obtain⟨⟨⟨x,y⟩,u⟩,⟨⟨z,w⟩,v⟩⟩:=a;simp only[AA.mk.injEq,AR.mk.injEq]
 grind
def eqGlue.fv(a:Ac×Ac):Bool:=(λa b=>decide (a=b)) (a.1) (a.2)
def eqGlue.row:A8:=vK (b2 (qR Ac.d_le) (qR Ac.d_le)) rB (λa=>True) eqGlue.fv
def eqGlue.q:=Bg (R:=eqGlue.row) rfl
def eqGlue.ok:AE 132 eqGlue.row:=by
 refine vw tN Tryz.func132 ?_;intro a O;simp only[Tryz.f132];simp only[ZA,simprocAttr,eqGlue.fv];obtain⟨⟨x,y⟩,⟨z,w⟩⟩:=a;simp only[Ac.mk.injEq]
 grind
def Lh{A:Type}[DecidableEq A]{a b:List A}(hl:a.length=b.length){k:Nat}(hk:k<=a.length)(h:a.take k=b.take k){x y:A}(Z:a[k]? =some x)(Q:b[k]? =some y):
 (x=y->a.take (k+1)=b.take (k+1))/\(x≠y->a≠b):=by
 refine⟨λz=> ?_,λz O=> ?_⟩
 .rw[FL,FL,h,Z,Q,z]
 .subst O;rw[Z] at Q;exact z (AJ Q)
def eqInt64S.fv(a:(Cz)×(Cz)):Bool:=(λa b=>decide (a=b)) (a.1) (a.2)
def eqInt64S.row:A8:=vK (b2 (qS D4 Cq) (qS D4 Cq)) rB (λa=>True) eqInt64S.fv
def eqInt64S.q:=Bg (R:=eqInt64S.row) rfl
def eqInt64S.ok:AE 13 eqInt64S.row:=by
 refine vw tN Tryz.func13 ?_;intro a aa;simp only[Tryz.f13];simp only[ZA,simprocAttr,eqInt64S.fv];intro h1 h2;simp only[AL];refine⟨λO=> ?_,λO=> ?_⟩
 .have:a.1≠a.2:=λh=>O (by rw[h])
  simp[this]
 have O:a.1.length=a.2.length:=auOm;refine AY.old ⟨{k:Nat//k<=a.1.length/\a.1.take k=a.2.take k},λk=>⟨[(5,.im (.int .i64 k.1)),(4,.im (.bool false)),(0,.im (.sl false 1 (a.1.map Aj))),(1,.im (.sl false 1 (a.2.map Aj)))],[],0⟩,λk=>a.1.length - k.1,λk=>⟨by simp[ZG],BN _⟩,⟨⟨0,auSi⟩,by simp only[ZA,simprocAttr,sub]⟩,λk=> ?_⟩;obtain⟨k,Z,z⟩:=k;simp only[ZA,simprocAttr,sub,AL];intro _;refine⟨λQ=>⟨Q,λx hx=>⟨auOm,λy hy=> ?_⟩⟩,λQ=> ?_⟩
 .obtain⟨g1,g2⟩:=Lh O Z z hx hy;exact⟨λh=>by simp[g2 h],λh=>FG Q h1 ⟨auOm,g1 (by simpa using h)⟩⟩
 .rw[BE auOm,BE auOm] at z;simp[z]
def Cb(n:Int)(left:Int):Int:=if left - n<0 then -1 else left - n
def szInt64S.fv(a:(Cz)×Int):Int:=(λa l=>Cb a.length l) (a.1) (a.2)
def szInt64S.row:A8:=vK (b2 (qS D4 Cq) qI) rI (λa=> -1<=a.2/\a.2<=1048576) szInt64S.fv
def szInt64S.q:=Bg (R:=szInt64S.row) rfl
def szInt64S.ok:AE 49 szInt64S.row:=by
 refine vw tN Tryz.func49 ?_;intro a z;simp only[Tryz.f49];simp only[ZA,simprocAttr,szInt64S.fv];intro h;rw[AG auOm auOm];simp only[Cb];grind
def szPlacedS.fv(a:(List AA)×Int):Int:=(λa l=>Cb a.length l) (a.1) (a.2)
def szPlacedS.row:A8:=vK (b2 (qS AA.d_le AA.c_n) qI) rI (λa=> -1<=a.2/\a.2<=1048576) szPlacedS.fv
def szPlacedS.q:=Bg (R:=szPlacedS.row) rfl
def szPlacedS.ok:AE 48 szPlacedS.row:=by
 refine vw tN Tryz.func48 ?_;intro a z;simp only[Tryz.f48];simp only[ZA,simprocAttr,szPlacedS.fv];intro h;rw[AG auOm auOm];simp only[Cb];grind
def Kq(a:AP)(l:Int):Int:=Cb a.Tiles.length l
def szAssembly.fv(a:AP×Int):Int:=(Kq) (a.1) (a.2)
def szAssembly.row:A8:=vK (b2 (qR AP.d_le) qI) rI (λa=> -1<=a.2/\a.2<=1048576) szAssembly.fv
def szAssembly.q:=Bg (R:=szAssembly.row) rfl
def szAssembly.ok:AE 19 szAssembly.row:=by
 refine vw (tC szPlacedS.ok tN) Tryz.func19 ?_;intro a z;simp only[Tryz.f19];simp only[ZA,simprocAttr,szAssembly.fv,szPlacedS.q,szPlacedS.fv];refine⟨z,?_⟩;simp only[Kq,Cb];grind
def eqGlueS.fv(a:(List Ac)×(List Ac)):Bool:=(λa b=>decide (a=b)) (a.1) (a.2)
def eqGlueS.row:A8:=vK (b2 (qS Ac.d_le Ac.c_n) (qS Ac.d_le Ac.c_n)) rB (λa=>True) eqGlueS.fv
def eqGlueS.q:=Bg (R:=eqGlueS.row) rfl
def eqGlueS.ok:AE 81 eqGlueS.row:=by
 refine vw (tC eqGlue.ok tN) Tryz.func81 ?_;intro a aa;simp only[Tryz.f81];simp only[ZA,simprocAttr,eqGlueS.fv];intro h1 h2;simp only[AL];refine⟨λO=> ?_,λO=> ?_⟩
 .have:a.1≠a.2:=λh=>O (by rw[h])
  simp[this]
 have O:a.1.length=a.2.length:=auOm;refine AY.old ⟨{k:Nat//k<=a.1.length/\a.1.take k=a.2.take k},λk=>⟨[(5,.im (.int .i64 k.1)),(4,.im (.bool false)),(0,.im (.sl false 2 (a.1.map Ac.c))),(1,.im (.sl false 2 (a.2.map Ac.c)))],[],0⟩,λk=>a.1.length - k.1,λk=>⟨by simp[ZG],BN _⟩,⟨⟨0,auSi⟩,by simp only[ZA,simprocAttr,sub]⟩,λk=> ?_⟩;obtain⟨k,Z,z⟩:=k;simp only[ZA,simprocAttr,eqGlue.q,eqGlue.fv,sub,AL];intro _;refine⟨λQ=>⟨Q,λx hx=>⟨auOm,λy hy=> ?_⟩⟩,λQ=> ?_⟩
 .obtain⟨g1,g2⟩:=Lh O Z z hx hy;exact⟨λh=>by simp[g2 (show x≠y from h)],λh=>FG Q h1 ⟨auOm,g1 (show x=y from Ch.1 h)⟩⟩
 .rw[BE auOm,BE auOm] at z;simp[z]
def YA(a b:Tile):decide (a=b)=(decide (a.Name=b.Name) && decide (a.Sides=b.Sides)):=by
 obtain⟨x,y⟩:=a;obtain⟨z,w⟩:=b;simp[Tile.mk.injEq]
def eqTile.fv(a:Tile×Tile):Bool:=(λa b=>decide (a=b)) (a.1) (a.2)
def eqTile.row:A8:=vK (b2 (qR Tile.d_le) (qR Tile.d_le)) rB (λa=>True) eqTile.fv
def eqTile.q:=Bg (R:=eqTile.row) rfl
def eqTile.ok:AE 133 eqTile.row:=by
 refine vw (tC eqInt64S.ok tN) Tryz.func133 ?_;intro a z;simp only[Tryz.f133];simp only[ZA,simprocAttr,eqTile.fv,eqInt64S.q,eqInt64S.fv];rw[YA]
 grind
def eqTileS.fv(a:(List Tile)×(List Tile)):Bool:=(λa b=>decide (a=b)) (a.1) (a.2)
def eqTileS.row:A8:=vK (b2 (qS Tile.d_le Tile.c_n) (qS Tile.d_le Tile.c_n)) rB (λa=>True) eqTileS.fv
def eqTileS.q:=Bg (R:=eqTileS.row) rfl
def eqTileS.ok:AE 82 eqTileS.row:=by
 refine vw (tC eqTile.ok tN) Tryz.func82 ?_;intro a aa;simp only[Tryz.f82];simp only[ZA,simprocAttr,eqTileS.fv];intro h1 h2;simp only[AL];refine⟨λO=> ?_,λO=> ?_⟩
 .have:a.1≠a.2:=λh=>O (by rw[h])
  simp[this]
 have O:a.1.length=a.2.length:=auOm;refine AY.old ⟨{k:Nat//k<=a.1.length/\a.1.take k=a.2.take k},λk=>⟨[(5,.im (.int .i64 k.1)),(4,.im (.bool false)),(0,.im (.sl false 2 (a.1.map Tile.c))),(1,.im (.sl false 2 (a.2.map Tile.c)))],[],0⟩,λk=>a.1.length - k.1,λk=>⟨by simp[ZG],BN _⟩,⟨⟨0,auSi⟩,by simp only[ZA,simprocAttr,sub]⟩,λk=> ?_⟩;obtain⟨k,Z,z⟩:=k;simp only[ZA,simprocAttr,eqTile.q,eqTile.fv,sub,AL];intro _;refine⟨λQ=>⟨Q,λx hx=>⟨auOm,λy hy=> ?_⟩⟩,λQ=> ?_⟩
 .obtain⟨g1,g2⟩:=Lh O Z z hx hy;exact⟨λh=>by simp[g2 (show x≠y from h)],λh=>FG Q h1 ⟨auOm,g1 (show x=y from Ch.1 h)⟩⟩
 .rw[BE auOm,BE auOm] at z;simp[z]
def eqPlacedS.fv(a:(List AA)×(List AA)):Bool:=(λa b=>decide (a=b)) (a.1) (a.2)
def eqPlacedS.row:A8:=vK (b2 (qS AA.d_le AA.c_n) (qS AA.d_le AA.c_n)) rB (λa=>True) eqPlacedS.fv
def eqPlacedS.q:=Bg (R:=eqPlacedS.row) rfl
def eqPlacedS.ok:AE 83 eqPlacedS.row:=by
 refine vw (tC eqPlaced.ok tN) Tryz.func83 ?_;intro a aa;simp only[Tryz.f83];simp only[ZA,simprocAttr,eqPlacedS.fv];intro h1 h2;simp only[AL];refine⟨λO=> ?_,λO=> ?_⟩
 .have:a.1≠a.2:=λh=>O (by rw[h])
  simp[this]
 have O:a.1.length=a.2.length:=auOm;refine AY.old ⟨{k:Nat//k<=a.1.length/\a.1.take k=a.2.take k},λk=>⟨[(5,.im (.int .i64 k.1)),(4,.im (.bool false)),(0,.im (.sl false 3 (a.1.map AA.c))),(1,.im (.sl false 3 (a.2.map AA.c)))],[],0⟩,λk=>a.1.length - k.1,λk=>⟨by simp[ZG],BN _⟩,⟨⟨0,auSi⟩,by simp only[ZA,simprocAttr,sub]⟩,λk=> ?_⟩;obtain⟨k,Z,z⟩:=k;simp only[ZA,simprocAttr,eqPlaced.q,eqPlaced.fv,sub,AL];intro _;refine⟨λQ=>⟨Q,λx hx=>⟨auOm,λy hy=> ?_⟩⟩,λQ=> ?_⟩
 .obtain⟨g1,g2⟩:=Lh O Z z hx hy;exact⟨λh=>by simp[g2 (show x≠y from h)],λh=>FG Q h1 ⟨auOm,g1 (show x=y from Ch.1 h)⟩⟩
 .rw[BE auOm,BE auOm] at z;simp[z]
def eqTileSet.fv(a:AI×AI):Bool:=(λa b=>decide (a=b)) (a.1) (a.2)
def eqTileSet.row:A8:=vK (b2 (qR AI.d_le) (qR AI.d_le)) rB (λa=>True) eqTileSet.fv
def eqTileSet.q:=Bg (R:=eqTileSet.row) rfl
def eqTileSet.ok:AE 36 eqTileSet.row:=by
 refine vw (tC eqGlueS.ok (tC eqTileS.ok tN)) Tryz.func36 ?_;intro a O;simp only[Tryz.f36];simp only[ZA,simprocAttr,eqTileSet.fv,eqGlueS.q,eqGlueS.fv,eqTileS.q,eqTileS.fv];obtain⟨⟨x,y⟩,⟨z,w⟩⟩:=a;simp only[AI.mk.injEq]
 grind
def eqAssembly.fv(a:AP×AP):Bool:=(λa b=>decide (a=b)) (a.1) (a.2)
def eqAssembly.row:A8:=vK (b2 (qR AP.d_le) (qR AP.d_le)) rB (λa=>True) eqAssembly.fv
def eqAssembly.q:=Bg (R:=eqAssembly.row) rfl
def eqAssembly.ok:AE 37 eqAssembly.row:=by
 refine vw (tC eqPlacedS.ok tN) Tryz.func37 ?_;intro a O;simp only[Tryz.f37];simp only[ZA,simprocAttr,eqAssembly.fv,eqPlacedS.q,eqPlacedS.fv];obtain⟨⟨x⟩,⟨z⟩⟩:=a;simp only[AP.mk.injEq]
 grind
def toTile.fv(a:Tile):Tile:=(λp=>p) a
def toTile.row:A8:=vK (b1 (qR Tile.d_le)) (rA Tile.d_le) (λa=>a.Sides.length<=1073741824) toTile.fv
def toTile.q:=Bg (R:=toTile.row) rfl
def toTile.ok:AE 110 toTile.row:=by
 refine vw (tC toInt64S.ok tN) Tryz.func110 ?_;intro a z;simp only[Tryz.f110];simp only[ZA,simprocAttr,toTile.fv,toInt64S.q,toInt64S.fv];exact z
def toGlueS.fv(a:(List Ac)):List Ac:=(λp=>p) a
def toGlueS.row:A8:=vK (b1 (qS Ac.d_le Ac.c_n)) (rS Ac.d_le Ac.c_n) (λa=>a.length<=1073741824) toGlueS.fv
def toGlueS.q:=Bg (R:=toGlueS.row) rfl
def toGlueS.ok:AE 65 toGlueS.row:=by
 refine vw (tC toGlue.ok tN) Tryz.func65 ?_;intro a z;simp only[Tryz.f65];simp only[ZA,simprocAttr,toGlueS.fv];intro Z;have aa:a.length<=1073741824:=z;refine⟨auOm,?_⟩;refine AY.old ⟨{k:Nat//k<=a.length},λk=>⟨[(4,.im (.int .i64 k.1)),(3,.own 1),(0,.im (.sl false 2 (a.map Ac.c)))],[(1,(true,.arr 151 2 ((a.take k.1).map Ac.c++List.replicate (a.length - k.1) [.str ByteArray.empty,.int .i64 0])))],2⟩,λk=>a.length - k.1,λk=>⟨by simp[ZG],BN _⟩,⟨⟨0,auOm⟩,by simp only[ZA,simprocAttr,sub];simp⟩,λk=> ?_⟩;obtain⟨k,Q⟩:=k;simp only[ZA,simprocAttr,toGlue.q,toGlue.fv,AL,WX _ _ a k Q];intro _;refine⟨λO=> ?_,λO=> ?_⟩
 .refine⟨O,λx hx=>⟨O,O,IH (WT Ac.c _ a k x hx) ?_⟩⟩;simp only[ZA,simprocAttr,sub];refine⟨⟨k+1,auOm⟩,by simp only;omega,?_,?_⟩
  .rw[AG auOm auOm];simp only;omega
  .exact Xa Ac.c _ a k x hx
 .rw[WY Ac.c _ a k auOm];simp[Ac.d_R]
def toPlacedS.fv(a:(List AA)):List AA:=(λp=>p) a
def toPlacedS.row:A8:=vK (b1 (qS AA.d_le AA.c_n)) (rS AA.d_le AA.c_n) (λa=>a.length<=1073741824) toPlacedS.fv
def toPlacedS.q:=Bg (R:=toPlacedS.row) rfl
def toPlacedS.ok:AE 67 toPlacedS.row:=by
 refine vw (tC toPlaced.ok tN) Tryz.func67 ?_;intro a z;simp only[Tryz.f67];simp only[ZA,simprocAttr,toPlacedS.fv];intro Z;have aa:a.length<=1073741824:=z;refine⟨auOm,?_⟩;refine AY.old ⟨{k:Nat//k<=a.length},λk=>⟨[(4,.im (.int .i64 k.1)),(3,.own 1),(0,.im (.sl false 3 (a.map AA.c)))],[(1,(true,.arr 137 3 ((a.take k.1).map AA.c++List.replicate (a.length - k.1) [.int .i64 0,.int .i64 0,.int .i64 0])))],2⟩,λk=>a.length - k.1,λk=>⟨by simp[ZG],BN _⟩,⟨⟨0,auOm⟩,by simp only[ZA,simprocAttr,sub];simp⟩,λk=> ?_⟩;obtain⟨k,Q⟩:=k;simp only[ZA,simprocAttr,toPlaced.q,toPlaced.fv,AL,WX _ _ a k Q];intro _;refine⟨λO=> ?_,λO=> ?_⟩
 .refine⟨O,λx hx=>⟨O,O,IH (WT AA.c _ a k x hx) ?_⟩⟩;simp only[ZA,simprocAttr,sub];refine⟨⟨k+1,auOm⟩,by simp only;omega,?_,?_⟩
  .rw[AG auOm auOm];simp only;omega
  .exact Xa AA.c _ a k x hx
 .rw[WY AA.c _ a k auOm];simp[AA.d_R]
def toTileS.fv(a:(List Tile)):List Tile:=(λp=>p) a
def toTileS.row:A8:=vK (b1 (qS Tile.d_le Tile.c_n)) (rS Tile.d_le Tile.c_n) (λa=>a.length<=1073741824/\ ∀x∈a,x.Sides.length<=1073741824) toTileS.fv
def toTileS.q:=Bg (R:=toTileS.row) rfl
def toTileS.ok:AE 66 toTileS.row:=by
 refine vw (tC toTile.ok tN) Tryz.func66 ?_;intro a z;simp only[Tryz.f66];simp only[ZA,simprocAttr,toTileS.fv];intro aa;have ab:a.length<=1073741824:=z.1;refine⟨auOm,?_⟩;refine AY.old ⟨{k:Nat//k<=a.length},λk=>⟨[(4,.im (.int .i64 k.1)),(3,.own 1),(0,.im (.sl false 2 (a.map Tile.c)))],[(1,(true,.arr 155 2 ((a.take k.1).map Tile.c++List.replicate (a.length - k.1) [.str ByteArray.empty,.sl true 0 []])))],2⟩,λk=>a.length - k.1,λk=>⟨by simp[ZG],BN _⟩,⟨⟨0,auOm⟩,by simp only[ZA,simprocAttr,sub];simp⟩,λk=> ?_⟩;obtain⟨k,Q⟩:=k;simp only[ZA,simprocAttr,toTile.q,toTile.fv,AL,WX _ _ a k Q];intro _;refine⟨λO=> ?_,λO=> ?_⟩
 .refine⟨O,λx Z=>⟨z.2 x (Bj Z),O,O,IH (WT Tile.c _ a k x Z) ?_⟩⟩;simp only[ZA,simprocAttr,sub];refine⟨⟨k+1,auOm⟩,by simp only;omega,?_,?_⟩
  .rw[AG auOm auOm];simp only;omega
  .exact Xa Tile.c _ a k x Z
 .rw[WY Tile.c _ a k auOm];simp[Tile.d_R]
def VS(s:AI):Prop:=s.Glues.length<=1073741824/\s.Tiles.length<=1073741824/\ ∀x∈s.Tiles,x.Sides.length<=1073741824
def toTileSet.fv(a:AI):AI:=(λp=>p) a
def toTileSet.row:A8:=vK (b1 (qR AI.d_le)) (rA AI.d_le) (λa=>VS a) toTileSet.fv
def toTileSet.q:=Bg (R:=toTileSet.row) rfl
def toTileSet.ok:AE 27 toTileSet.row:=by
 refine vw (tC toGlueS.ok (tC toTileS.ok tN)) Tryz.func27 ?_;intro a z;simp only[Tryz.f27];simp only[ZA,simprocAttr,toTileSet.fv,toGlueS.q,toGlueS.fv,toTileS.q,toTileS.fv];exact z
def toAssembly.fv(a:AP):AP:=(λp=>p) a
def toAssembly.row:A8:=vK (b1 (qR AP.d_le)) (rA AP.d_le) (λa=>a.Tiles.length<=1073741824) toAssembly.fv
def toAssembly.q:=Bg (R:=toAssembly.row) rfl
def toAssembly.ok:AE 28 toAssembly.row:=by
 refine vw (tC toPlacedS.ok tN) Tryz.func28 ?_;intro a z;simp only[Tryz.f28];simp only[ZA,simprocAttr,AP.d,toAssembly.fv,toPlacedS.q,toPlacedS.fv];exact z
def fS(s:AM):Prop:=VS s.Set/\s.Seed.Tiles.length<=1073741824
def toSystem.fv(a:AM):AM:=(λp=>p) a
def toSystem.row:A8:=vK (b1 (qR AM.d_le)) (rA AM.d_le) (λa=>fS a) toSystem.fv
def toSystem.ok:AE 7 toSystem.row:=by
 refine vw (tC toTileSet.ok (tC toAssembly.ok tN)) Tryz.func7 ?_;intro a z;simp only[Tryz.f7];simp only[ZA,simprocAttr,AP.d,toSystem.fv,toTileSet.q,toTileSet.fv,toAssembly.q,toAssembly.fv];exact z
def QZ(g:Ac)(l:Int):Int:=Cb g.Name.size l
def szGlue.fv(a:Ac×Int):Int:=(QZ) (a.1) (a.2)
def szGlue.row:A8:=vK (b2 (qR Ac.d_le) qI) rI (λa=> -1<=a.2/\a.2<=1048576/\a.1.Name.size<=140737488355328) szGlue.fv
def szGlue.q:=Bg (R:=szGlue.row) rfl
def szGlue.ok:AE 91 szGlue.row:=by
 refine vw tN Tryz.func91 ?_;intro a z;simp only[Tryz.f91];simp only[ZA,simprocAttr,szGlue.fv];rw[AG auOm auOm];simp only[QZ,Cb]
 grind
def GD(g:Tile)(l:Int):Int:=if Cb g.Name.size l<0 then -1 else Cb g.Sides.length (Cb g.Name.size l)
def szTile.fv(a:Tile×Int):Int:=(GD) (a.1) (a.2)
def szTile.row:A8:=vK (b2 (qR Tile.d_le) qI) rI (λa=> -1<=a.2/\a.2<=1048576/\a.1.Name.size<=140737488355328) szTile.fv
def szTile.q:=Bg (R:=szTile.row) rfl
def szTile.ok:AE 92 szTile.row:=by
 refine vw (tC szInt64S.ok tN) Tryz.func92 ?_;intro a z;simp only[Tryz.f92];simp only[ZA,simprocAttr,szTile.fv,szInt64S.q,szInt64S.fv];rw[AG auOm auOm];simp only[GD,Cb]
 grind
def FI{A:Type}(f:A->Int->Int):List A->Int->Int
 |[],l=>l
 |x::r,l=>if f x l<0 then -1 else FI f r (f x l)
def Io(a:List Ac)(l:Int):Int:=if Cb a.length l<0 then -1 else FI QZ a (Cb a.length l)
def szGlueS.fv(a:(List Ac)×Int):Int:=(Io) (a.1) (a.2)
def szGlueS.row:A8:=vK (b2 (qS Ac.d_le Ac.c_n) qI) rI (λa=> -1<=a.2/\a.2<=1048576/\ ∀x∈a.1,x.Name.size<=140737488355328) szGlueS.fv
def szGlueS.q:=Bg (R:=szGlueS.row) rfl
def szGlueS.ok:AE 46 szGlueS.row:=by
 refine vw (tC szGlue.ok tN) Tryz.func46 ?_;intro a O;simp only[Tryz.f46];simp only[ZA,simprocAttr,szGlueS.fv];intro hn;rw[AG auOm auOm];obtain⟨ah,ai,af⟩:=O;simp only[AL];refine⟨λhl=> ?_,λhl=> ?_⟩
 .simp only[Io,Cb];grind
 have h0:Cb a.1.length a.2=a.2 - a.1.length:=by simp only[Cb];rw[Be hl]
 refine AY.old ⟨{p:Nat×Int//p.1<=a.1.length/\0<=p.2/\p.2<=1048576/\FI QZ (a.1.drop p.1) p.2=FI QZ a.1 (a.2 - a.1.length)},λp=>⟨[(5,.im (.int .i64 p.1.1)),(1,.im (.int .i64 p.1.2)),(4,.im (.int .i64 0)),(0,.im (.sl false 2 (a.1.map Ac.c)))],[],0⟩,λp=>a.1.length - p.1.1,λp=>⟨by simp[ZG],BN _⟩,⟨⟨(0,a.2 - a.1.length),auSi,by simp only;omega,by simp only;omega,auSi⟩,by simp only[ZA,simprocAttr,sub]⟩,λp=> ?_⟩;obtain⟨⟨k,l⟩,ab,ac,ad,z⟩:=p;simp only at ab ac ad z;simp only[ZA,simprocAttr,szGlue.q,szGlue.fv,sub,AL];intro _;refine⟨λZ=>⟨Z,λx hx=>⟨⟨auOm,auOm,af x (Bj hx)⟩,?_⟩⟩,λZ=> ?_⟩
 .have hd:a.1.drop k=x::a.1.drop (k+1):=by
   rw[D1 Z];rw[Bk Z] at hx;rw[AJ hx]
  rw[hd,FI] at z;have ag:QZ x l<=l:=by simp only[QZ,Cb];grind
  have aa: ¬QZ ⟨x.Name,x.Strength⟩ l<0-> ¬QZ x l<0:=λh=>h
  refine⟨λQ=> ?_,λQ=>⟨⟨(k+1,QZ x l),by simp only;omega,by simp only;have:=aa Q;omega,by simp only;omega,?_⟩,by simp only;omega,?_,?_⟩⟩
  .rw[Bt Q] at z;simp only[Io,h0]
   grind
  .rw[Be Q] at z;exact z
  .rw[AG auOm auOm];simp only;omega
  .rfl
 .rw[Bm auOm,FI] at z;simp only[Io,h0]
  grind
def Mn(a:List Tile)(l:Int):Int:=if Cb a.length l<0 then -1 else FI GD a (Cb a.length l)
def szTileS.fv(a:(List Tile)×Int):Int:=(Mn) (a.1) (a.2)
def szTileS.row:A8:=vK (b2 (qS Tile.d_le Tile.c_n) qI) rI (λa=> -1<=a.2/\a.2<=1048576/\ ∀x∈a.1,x.Name.size<=140737488355328) szTileS.fv
def szTileS.q:=Bg (R:=szTileS.row) rfl
def szTileS.ok:AE 47 szTileS.row:=by
 refine vw (tC szTile.ok tN) Tryz.func47 ?_;intro a O;simp only[Tryz.f47];simp only[ZA,simprocAttr,szTileS.fv];intro hn;rw[AG auOm auOm];obtain⟨ah,ai,af⟩:=O;simp only[AL];refine⟨λhl=> ?_,λhl=> ?_⟩
 .simp only[Mn,Cb];grind
 have h0:Cb a.1.length a.2=a.2 - a.1.length:=by simp only[Cb];rw[Be hl]
 refine AY.old ⟨{p:Nat×Int//p.1<=a.1.length/\0<=p.2/\p.2<=1048576/\FI GD (a.1.drop p.1) p.2=FI GD a.1 (a.2 - a.1.length)},λp=>⟨[(5,.im (.int .i64 p.1.1)),(1,.im (.int .i64 p.1.2)),(4,.im (.int .i64 0)),(0,.im (.sl false 2 (a.1.map Tile.c)))],[],0⟩,λp=>a.1.length - p.1.1,λp=>⟨by simp[ZG],BN _⟩,⟨⟨(0,a.2 - a.1.length),auSi,by simp only;omega,by simp only;omega,auSi⟩,by simp only[ZA,simprocAttr,sub]⟩,λp=> ?_⟩;obtain⟨⟨k,l⟩,ab,ac,ad,z⟩:=p;simp only at ab ac ad z;simp only[ZA,simprocAttr,szTile.q,szTile.fv,sub,AL];intro _;refine⟨λZ=>⟨Z,λx hx=>⟨⟨auOm,auOm,af x (Bj hx)⟩,?_⟩⟩,λZ=> ?_⟩
 .have hd:a.1.drop k=x::a.1.drop (k+1):=by
   rw[D1 Z];rw[Bk Z] at hx;rw[AJ hx]
  rw[hd,FI] at z;have ag:GD x l<=l:=by simp only[GD,Cb];grind
  have aa: ¬GD ⟨x.Name,x.Sides⟩ l<0-> ¬GD x l<0:=λh=>h
  refine⟨λQ=> ?_,λQ=>⟨⟨(k+1,GD x l),by simp only;omega,by simp only;have:=aa Q;omega,by simp only;omega,?_⟩,by simp only;omega,?_,?_⟩⟩
  .rw[Bt Q] at z;simp only[Mn,h0]
   grind
  .rw[Be Q] at z;exact z
  .rw[AG auOm auOm];simp only;omega
  .rfl
 .rw[Bm auOm,FI] at z;simp only[Mn,h0]
  grind
def PT(s:AI):Prop:=(∀x∈s.Glues,x.Name.size<=140737488355328)/\ ∀x∈s.Tiles,x.Name.size<=140737488355328
def Qre{A:Type}{f:A->Int->Int}(hf: ∀x l,0<=l->f x l<=l)(a:List A): ∀(l:Int),0<=l->FI f a l<=l/\ -1<=FI f a l:=by
 induction a with
 |nil=>intro l z;simp[FI];omega
 |cons x r ih=>
  intro l z;simp only[FI];split
  .omega
  .have:=hf x l z
   have:=ih (f x l) auOm
   omega
def Qo1(a:List Ac)(l:Int)(Q: -1<=l): -1<=Io a l/\Io a l<=max l (-1):=by
 simp only[Io];split
 .omega
 .rename_i h;have z:=Qre (f:=QZ) (λx l h=>by simp only[QZ,Cb];grind) a (Cb a.length l) auOm;have O:Cb a.length l<=max l (-1):=by simp only[Cb];grind
  omega
def Qv0(a:List Tile)(l:Int)(Q: -1<=l): -1<=Mn a l/\Mn a l<=max l (-1):=by
 simp only[Mn];split
 .omega
 .rename_i h;have z:=Qre (f:=GD) (λx l h=>by simp only[GD,Cb];grind) a (Cb a.length l) auOm;have O:Cb a.length l<=max l (-1):=by simp only[Cb];grind
  omega
def Rf(s:AI)(l:Int):Int:=if Io s.Glues l<0 then -1 else Mn s.Tiles (Io s.Glues l)
def Qxk(s:AI)(l:Int)(O: -1<=l): -1<=Rf s l/\Rf s l<=max l (-1):=by
 have z:=Qo1 s.Glues l O;have Q:=Qv0 s.Tiles (Io s.Glues l) z.1;simp only[Rf]
 split<;>omega
def szTileSet.fv(a:AI×Int):Int:=(Rf) (a.1) (a.2)
def szTileSet.row:A8:=vK (b2 (qR AI.d_le) qI) rI (λa=> -1<=a.2/\a.2<=1048576/\PT a.1) szTileSet.fv
def szTileSet.q:=Bg (R:=szTileSet.row) rfl
def szTileSet.ok:AE 18 szTileSet.row:=by
 refine vw (tC szGlueS.ok (tC szTileS.ok tN)) Tryz.func18 ?_;intro a z;simp only[Tryz.f18];simp only[ZA,simprocAttr,szTileSet.fv,szGlueS.q,szGlueS.fv,szTileS.q,szTileS.fv];obtain⟨O,Z,h3,h4⟩:=z;have Q:=Qo1 a.1.Glues a.2 O;refine⟨⟨O,Z,h3⟩,?_⟩;simp only[Rf];split
 .rfl
 .refine⟨⟨Q.1,auOm,h4⟩,?_⟩;have hc:=Qv0 a.1.Tiles _ Q.1
  split<;>omega
def fV(n:Nat)(l:Int)(z: -1<=l): -1<=Cb n l/\Cb n l<=max l (-1):=by
 simp only[Cb];split<;>omega
def Xb(s:AM)(l:Int):Int:=if Rf s.Set l<0 then -1 else Kq s.Seed (Rf s.Set l)
def cA(s:AM)(l:Int)(O: -1<=l): -1<=Xb s l/\Xb s l<=max l (-1):=by
 have z:=Qxk s.Set l O;have Q:=fV s.Seed.Tiles.length (Rf s.Set l) z.1;simp only[Xb,Kq]
 split<;>omega
def szSystem.fv(a:AM×Int):Int:=(Xb) (a.1) (a.2)
def szSystem.row:A8:=vK (b2 (qR AM.d_le) qI) rI (λa=> -1<=a.2/\a.2<=1048576/\PT a.1.Set) szSystem.fv
def szSystem.q:=Bg (R:=szSystem.row) rfl
def szSystem.ok:AE 4 szSystem.row:=by
 refine vw (tC szTileSet.ok (tC szAssembly.ok tN)) Tryz.func4 ?_;intro a z;simp only[Tryz.f4];simp only[ZA,simprocAttr,AP.d,szSystem.fv,szTileSet.q,szTileSet.fv,szAssembly.q,szAssembly.fv];obtain⟨O,Z,h3⟩:=z;have Q:=Qxk a.1.Set a.2 O;refine⟨⟨O,Z,h3⟩,?_⟩;simp only[Xb];split
 .rfl
 .refine⟨⟨Q.1,auOm⟩,?_⟩;have hc:=fV a.1.Seed.Tiles.length _ Q.1;simp only[Kq] at hc⊢
  grind
end Go.Ae
