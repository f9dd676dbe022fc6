/- Lemmas. Conditions: none. -/
import Derived.Test.YtpdpgenppceapaaGreatP06
import Derived.Test.YtpdpgenppceapaaGreatProg
set_option linter.all false
set_option maxHeartbeats 8000000
set_option maxRecDepth 100000
namespace Go.Ae
open Go.Proofs
def TY0:
 (tI Tryz.prog 2=some {size:=1,bytes:=8,agg:=false,kind:= .int .i64,zero:=[.int .i64 0]})/\
 (tI Tryz.prog 3=some {size:=1,bytes:=8,agg:=false,kind:= .int .i64,zero:=[.int .i64 0]})/\
 (tI Tryz.prog 4=some {size:=1,bytes:=1,agg:=false,kind:= .bool,zero:=[.bool false]})/\
 (tI Tryz.prog 5=some {size:=1,bytes:=1,agg:=false,kind:= .int .u8,zero:=[.int .u8 0]})/\
 (tI Tryz.prog 9=some {size:=1,bytes:=16,agg:=false,kind:= .str,zero:=[.str ByteArray.empty]})/\
 (tI Tryz.prog 22=some {size:=1,bytes:=24,agg:=false,kind:= .slice 5,zero:=[.sl true 0 []]})/\
 (tI Tryz.prog 24=some {size:=1,bytes:=24,agg:=false,kind:= .slice 133,zero:=[.sl true 0 []]})/\
 (tI Tryz.prog 25=some {size:=1,bytes:=24,agg:=false,kind:= .slice 135,zero:=[.sl true 0 []]})/\
 (tI Tryz.prog 27=some {size:=2,bytes:=48,agg:=true,kind:= .struct [(0,1),(1,1)],zero:=[.sl true 0 [],.sl true 0 []]})/\
 (tI Tryz.prog 28=some {size:=1,bytes:=24,agg:=false,kind:= .slice 136,zero:=[.sl true 0 []]})/\
 (tI Tryz.prog 30=some {size:=1,bytes:=24,agg:=true,kind:= .struct [(0,1)],zero:=[.sl true 0 []]})/\
 (tI Tryz.prog 32=some {size:=4,bytes:=80,agg:=true,kind:= .struct [(0,2),(2,1),(3,1)],zero:=[.sl true 0 [],.sl true 0 [],.sl true 0 [],.int .i64 0]})/\
 (tI Tryz.prog 34=some {size:=1,bytes:=24,agg:=false,kind:= .slice 52,zero:=[.sl true 0 []]})/\
 (tI Tryz.prog 37=some {size:=1,bytes:=24,agg:=false,kind:= .slice 2,zero:=[.sl true 0 []]})/\
 (tI Tryz.prog 41=some {size:=2,bytes:=16,agg:=true,kind:= .struct [(0,1),(1,1)],zero:=[.int .i64 0,.int .i64 0]})/\
 (tI Tryz.prog 50=some {size:=2,bytes:=16,agg:=true,kind:= .struct [(0,1),(1,1)],zero:=[.int .i64 0,.int .i64 0]})/\
 (tI Tryz.prog 52=some {size:=3,bytes:=24,agg:=true,kind:= .struct [(0,2),(2,1)],zero:=[.int .i64 0,.int .i64 0,.int .i64 0]})/\
 (tI Tryz.prog 59=some {size:=1,bytes:=24,agg:=false,kind:= .slice 34,zero:=[.sl true 0 []]})/\
 (tI Tryz.prog 65=some {size:=1,bytes:=8,agg:=false,kind:= .ptr 125,zero:=[.nilp]})/\
 (tI Tryz.prog 68=some {size:=1,bytes:=8,agg:=false,kind:= .ptr 32,zero:=[.nilp]}):=by and_intros<;>kernel_rfl
def TY1:
 (tI Tryz.prog 73=some {size:=1,bytes:=8,agg:=false,kind:= .ptr 30,zero:=[.nilp]})/\
 (tI Tryz.prog 77=some {size:=1,bytes:=8,agg:=false,kind:= .ptr 84,zero:=[.nilp]})/\
 (tI Tryz.prog 80=some {size:=1,bytes:=8,agg:=false,kind:= .other,zero:=[.nilf]})/\
 (tI Tryz.prog 84=some {size:=1,bytes:=8,agg:=true,kind:= .struct [(0,1)],zero:=[.int .i64 0]})/\
 (tI Tryz.prog 86=some {size:=1,bytes:=8,agg:=false,kind:= .ptr 115,zero:=[.nilp]})/\
 (tI Tryz.prog 88=some {size:=1,bytes:=8,agg:=false,kind:= .other,zero:=[.nilf]})/\
 (tI Tryz.prog 100=some {size:=1,bytes:=8,agg:=false,kind:= .ptr 157,zero:=[.nilp]})/\
 (tI Tryz.prog 104=some {size:=1,bytes:=24,agg:=false,kind:= .slice 37,zero:=[.sl true 0 []]})/\
 (tI Tryz.prog 112=some {size:=1,bytes:=8,agg:=false,kind:= .map 50 2,zero:=[.nilm]})/\
 (tI Tryz.prog 113=some {size:=1,bytes:=8,agg:=false,kind:= .map 50 37,zero:=[.nilm]})/\
 (tI Tryz.prog 115=some {size:=6,bytes:=96,agg:=true,kind:= .struct [(0,4),(4,1),(5,1)],zero:=[.sl true 0 [],.sl true 0 [],.sl true 0 [],.int .i64 0,.nilm,.nilm]})/\
 (tI Tryz.prog 121=some {size:=1,bytes:=8,agg:=false,kind:= .other,zero:=[.nilf]})/\
 (tI Tryz.prog 123=some {size:=1,bytes:=8,agg:=false,kind:= .int .u64,zero:=[.int .u64 0]})/\
 (tI Tryz.prog 125=some {size:=3,bytes:=40,agg:=true,kind:= .struct [(0,1),(1,1),(2,1)],zero:=[.sl true 0 [],.int .i64 0,.int .u64 0]})/\
 (tI Tryz.prog 127=some {size:=1,bytes:=8,agg:=false,kind:= .ptr 27,zero:=[.nilp]})/\
 (tI Tryz.prog 133=some {size:=2,bytes:=24,agg:=true,kind:= .struct [(0,1),(1,1)],zero:=[.str ByteArray.empty,.int .i64 0]})/\
 (tI Tryz.prog 135=some {size:=2,bytes:=40,agg:=true,kind:= .struct [(0,1),(1,1)],zero:=[.str ByteArray.empty,.sl true 0 []]})/\
 (tI Tryz.prog 136=some {size:=3,bytes:=24,agg:=true,kind:= .struct [(0,2),(2,1)],zero:=[.int .i64 0,.int .i64 0,.int .i64 0]})/\
 (tI Tryz.prog 140=some {size:=1,bytes:=24,agg:=false,kind:= .slice 2,zero:=[.sl true 0 []]})/\
 (tI Tryz.prog 157=some {size:=8,bytes:=176,agg:=true,kind:= .struct [(0,4),(4,1),(5,1),(6,1),(7,1)],zero:=[.sl true 0 [],.sl true 0 [],.sl true 0 [],.int .i64 0,.sl true 0 [],.sl true 0 [],.sl true 0 [],.sl true 0 []]}):=by and_intros<;>kernel_rfl
def TY2:
 (tI Tryz.prog 158=some {size:=1,bytes:=8,agg:=false,kind:= .other,zero:=[.nilf]})/\
 (tI Tryz.prog 166=some {size:=1,bytes:=24,agg:=false,kind:= .slice 50,zero:=[.sl true 0 []]})/\
 (tI Tryz.prog 169=some {size:=1,bytes:=8,agg:=false,kind:= .other,zero:=[.nilf]})/\
 (tI Tryz.prog 171=some {size:=1,bytes:=8,agg:=false,kind:= .other,zero:=[.nilf]})/\
 (tI Tryz.prog 178=some {size:=1,bytes:=24,agg:=false,kind:= .slice 215,zero:=[.sl true 0 []]})/\
 (tI Tryz.prog 185=some {size:=1,bytes:=8,agg:=false,kind:= .int .u64,zero:=[.int .u64 0]})/\
 (tI Tryz.prog 194=some {size:=8,bytes:=64,agg:=true,kind:= .array 4 50,zero:=[.int .i64 0,.int .i64 0,.int .i64 0,.int .i64 0,.int .i64 0,.int .i64 0,.int .i64 0,.int .i64 0]})/\
 (tI Tryz.prog 197=some {size:=1,bytes:=8,agg:=false,kind:= .other,zero:=[.nilf]})/\
 (tI Tryz.prog 208=some {size:=1,bytes:=8,agg:=false,kind:= .other,zero:=[.nilf]})/\
 (tI Tryz.prog 212=some {size:=1,bytes:=24,agg:=false,kind:= .slice 9,zero:=[.sl true 0 []]})/\
 (tI Tryz.prog 215=some {size:=3,bytes:=24,agg:=true,kind:= .struct [(0,1),(1,1),(2,1)],zero:=[.int .i64 0,.int .i64 0,.int .i64 0]})/\
 (tI Tryz.prog 218=some {size:=1,bytes:=8,agg:=false,kind:= .ptr 250,zero:=[.nilp]})/\
 (tI Tryz.prog 228=some {size:=1,bytes:=8,agg:=false,kind:= .other,zero:=[.nilf]})/\
 (tI Tryz.prog 230=some {size:=1,bytes:=8,agg:=false,kind:= .int .i64,zero:=[.int .i64 0]})/\
 (tI Tryz.prog 238=some {size:=1,bytes:=4,agg:=false,kind:= .int .u32,zero:=[.int .u32 0]})/\
 (tI Tryz.prog 246=some {size:=1,bytes:=24,agg:=false,kind:= .slice 3,zero:=[.sl true 0 []]})/\
 (tI Tryz.prog 250=some {size:=4,bytes:=80,agg:=true,kind:= .struct [(0,1),(1,1),(2,1),(3,1)],zero:=[.int .i64 0,.sl true 0 [],.sl true 0 [],.sl true 0 []]})/\
 (tI Tryz.prog 251=some {size:=1,bytes:=8,agg:=false,kind:= .map 9 4,zero:=[.nilm]})/\
 (tI Tryz.prog 253=some {size:=1,bytes:=8,agg:=false,kind:= .int .u64,zero:=[.int .u64 0]})/\
 (tI Tryz.prog 257=some {size:=1,bytes:=8,agg:=false,kind:= .ptr 3,zero:=[.nilp]}):=by and_intros<;>kernel_rfl
def TY3:
 (tI Tryz.prog 262=some {size:=1,bytes:=8,agg:=false,kind:= .other,zero:=[.nilf]})/\
 (tI Tryz.prog 264=some {size:=1,bytes:=8,agg:=false,kind:= .other,zero:=[.nilf]})/\
 (tI Tryz.prog 266=some {size:=2,bytes:=16,agg:=true,kind:= .array 2 2,zero:=[.int .i64 0,.int .i64 0]})/\
 (tI Tryz.prog 267=some {size:=1,bytes:=8,agg:=false,kind:= .ptr 295,zero:=[.nilp]})/\
 (tI Tryz.prog 286=some {size:=1,bytes:=24,agg:=false,kind:= .slice 287,zero:=[.sl true 0 []]})/\
 (tI Tryz.prog 287=some {size:=1,bytes:=8,agg:=false,kind:= .ptr 289,zero:=[.nilp]})/\
 (tI Tryz.prog 289=some {size:=2,bytes:=16,agg:=true,kind:= .struct [(0,1),(1,1)],zero:=[.nilp,.int .i64 0]})/\
 (tI Tryz.prog 291=some {size:=1,bytes:=8,agg:=false,kind:= .map 2 3,zero:=[.nilm]})/\
 (tI Tryz.prog 295=some {size:=2,bytes:=48,agg:=true,kind:= .struct [(0,1),(1,1)],zero:=[.sl true 0 [],.sl true 0 []]})/\
 (tI Tryz.prog 302=some {size:=1,bytes:=8,agg:=false,kind:= .other,zero:=[.nilf]})/\
 (tI Tryz.prog 304=some {size:=1,bytes:=8,agg:=false,kind:= .other,zero:=[.nilc]}):=by and_intros<;>kernel_rfl
def KY0:
 (Cb Tryz.prog 2=some ⟨false,[.int .i64]⟩)/\
 (Cb Tryz.prog 3=some ⟨false,[.int .i64]⟩)/\
 (Cb Tryz.prog 4=some ⟨false,[.bool]⟩)/\
 (Cb Tryz.prog 5=some ⟨false,[.int .u8]⟩)/\
 (Cb Tryz.prog 9=some ⟨false,[.str]⟩)/\
 (Cb Tryz.prog 41=some ⟨true,[.int .i64,.int .i64]⟩)/\
 (Tryz.prog.eqGuardType Tryz.prog.depth 41=false)/\
 (Cb Tryz.prog 50=some ⟨true,[.int .i64,.int .i64]⟩)/\
 (Tryz.prog.eqGuardType Tryz.prog.depth 50=false)/\
 (Cb Tryz.prog 52=some ⟨true,[.int .i64,.int .i64,.int .i64]⟩)/\
 (Tryz.prog.eqGuardType Tryz.prog.depth 52=false)/\
 (Cb Tryz.prog 84=some ⟨true,[.int .i64]⟩)/\
 (Tryz.prog.eqGuardType Tryz.prog.depth 84=false)/\
 (Cb Tryz.prog 123=some ⟨false,[.int .u64]⟩)/\
 (Cb Tryz.prog 133=some ⟨true,[.str,.int .i64]⟩)/\
 (Tryz.prog.eqGuardType Tryz.prog.depth 133=false)/\
 (Cb Tryz.prog 136=some ⟨true,[.int .i64,.int .i64,.int .i64]⟩)/\
 (Tryz.prog.eqGuardType Tryz.prog.depth 136=false)/\
 (Cb Tryz.prog 185=some ⟨false,[.int .u64]⟩)/\
 (Cb Tryz.prog 215=some ⟨true,[.int .i64,.int .i64,.int .i64]⟩):=by and_intros<;>kernel_rfl
def KY1:
 (Tryz.prog.eqGuardType Tryz.prog.depth 215=false)/\
 (Cb Tryz.prog 230=some ⟨false,[.int .i64]⟩)/\
 (Cb Tryz.prog 238=some ⟨false,[.int .u32]⟩)/\
 (Cb Tryz.prog 253=some ⟨false,[.int .u64]⟩):=by and_intros<;>kernel_rfl
def TY4:True/\True:=⟨trivial,trivial⟩
def CY0:True/\True:=⟨trivial,trivial⟩
def DJ:Tryz.prog.follows .mixedOrders=true:=by kernel_rfl
end Go.Ae
namespace Go.Ae
def kI:PK->Option Int
 | .val (.int .i64 x)=>some x
 |_=>none
def kU:PK->Option Int
 | .val (.int .u64 x)=>some x
 |_=>none
def kY:PK->Option Int
 | .val (.int .u8 x)=>some x
 |_=>none
def kB:PK->Option Bool
 | .val (.bool x)=>some x
 |_=>none
def kT:PK->Option ByteArray
 | .val (.str x)=>some x
 |_=>none
def kR{A:Type}(f:List D->Option A):PK->Option A
 | .val (.agg x)=>f x
 |_=>none
def kP{A:Type}(f:List D->Option A)(n:Nat):PK->Option A
 | .ptr x=>f (x.take n)
 |_=>none
def kS{A:Type}(f:List D->Option A):PK->Option (List A)
 | .val (.sl _ _ x)=>AX f x
 |_=>none
def kI_le: ∀p a,kI p=some a->CU p (.val (.int .i64 a)):=by
 intro p a h;unfold kI at h;split at h
 .obtain rfl:=A8 h;exact CU.refl _
 .cases h
def kU_le: ∀p a,kU p=some a->CU p (.val (.int .u64 a)):=by
 intro p a h;unfold kU at h;split at h
 .obtain rfl:=A8 h;exact CU.refl _
 .cases h
def kY_le: ∀p a,kY p=some a->CU p (.val (.int .u8 a)):=by
 intro p a h;unfold kY at h;split at h
 .obtain rfl:=A8 h;exact CU.refl _
 .cases h
def kB_le: ∀p a,kB p=some a->CU p (.val (.bool a)):=by
 intro p a h;unfold kB at h;split at h
 .obtain rfl:=A8 h;exact CU.refl _
 .cases h
def kT_le: ∀p a,kT p=some a->CU p (.val (.str a)):=by
 intro p a h;unfold kT at h;split at h
 .obtain rfl:=A8 h;exact CU.refl _
 .cases h
section
variable {A:Type}{f:List D->Option A}{e:A->List D}
def UC(hf: ∀ds x,f ds=some x->Dh ds (e x)): ∀p a,kR f p=some a->CU p (.val (.agg (e a))):=by
 intro p a h;unfold kR at h;split at h
 .exact xD (hf _ _ h)
 .cases h
def kP_le(n:Nat)(hf: ∀ds x,f ds=some x->Dh ds (e x)): ∀p a,kP f n p=some a->CU p (.ptr (e a)):=by
 intro p a h;unfold kP at h;split at h
 .exact Hr.trans_take (hf _ _ h)
 .cases h
def kS_le(k:Nat)(hf: ∀ds x,f ds=some x->Dh ds (e x))(z: ∀x,(e x).length=k): ∀p a,kS f p=some a->CU p (.val (.sl false k (a.map e))):=by
 intro p a h;unfold kS at h;split at h
 .exact E0 (Ej hf _ _ h) (by simp only[BZ];rintro r ⟨y,_,rfl⟩;exact z y)
 .cases h
end
def a1{z:Type}(G:PK->Option z):List PK->Option (z)
 |[O]=>(G O).bind λQ=>some Q
 |_=>none
def a1_le{G:Type}{Q:PK->Option G}{O:G->PK}(h0: ∀p a,Q p=some a->CU p (O a)): ∀z a,a1 Q z=some a->Cy z [O (a)]:=by
 intro z a h;unfold a1 at h;split at h
 .simp only[F5,AP] at h;obtain⟨Z,g0,rfl⟩:=h;exact⟨h0 _ _ g0,trivial⟩
 .cases h
def a2{z G:Type}(O:PK->Option z)(Q:PK->Option G):List PK->Option (z×G)
 |[Z,x1]=>(O Z).bind λy0=>(Q x1).bind λy1=>some (y0,y1)
 |_=>none
def eX{G:Type}{f0:PK->Option G}{Q:G->PK}{O:Type}{f1:PK->Option O}{Z:O->PK}(h0: ∀p a,f0 p=some a->CU p (Q a))(h1: ∀p a,f1 p=some a->CU p (Z a)): ∀z a,a2 f0 f1 z=some a->Cy z [Q (a.1),Z (a.2)]:=by
 intro z a h;unfold a2 at h;split at h
 .simp only[F5,AP] at h;obtain⟨y0,g0,y1,g1,rfl⟩:=h;exact⟨h0 _ _ g0,h1 _ _ g1,trivial⟩
 .cases h
def a3{z G O:Type}(Q:PK->Option z)(Z:PK->Option G)(f2:PK->Option O):List PK->Option (z×G×O)
 |[x0,x1,x2]=>(Q x0).bind λy0=>(Z x1).bind λy1=>(f2 x2).bind λy2=>some (y0,y1,y2)
 |_=>none
def a3_le{G:Type}{f0:PK->Option G}{Z:G->PK}{O:Type}{f1:PK->Option O}{e1:O->PK}{Q:Type}{f2:PK->Option Q}{e2:Q->PK}(h0: ∀p a,f0 p=some a->CU p (Z a))(h1: ∀p a,f1 p=some a->CU p (e1 a))(h2: ∀p a,f2 p=some a->CU p (e2 a)): ∀z a,a3 f0 f1 f2 z=some a->Cy z [Z (a.1),e1 (a.2.1),e2 (a.2.2)]:=by
 intro z a h;unfold a3 at h;split at h
 .simp only[F5,AP] at h;obtain⟨y0,g0,y1,g1,y2,g2,rfl⟩:=h;exact⟨h0 _ _ g0,h1 _ _ g1,h2 _ _ g2,trivial⟩
 .cases h
def a4{z G O Q:Type}(Z:PK->Option z)(f1:PK->Option G)(f2:PK->Option O)(f3:PK->Option Q):List PK->Option (z×G×O×Q)
 |[x0,x1,x2,x3]=>(Z x0).bind λy0=>(f1 x1).bind λy1=>(f2 x2).bind λy2=>(f3 x3).bind λy3=>some (y0,y1,y2,y3)
 |_=>none
def a4_le{G:Type}{f0:PK->Option G}{e0:G->PK}{O:Type}{f1:PK->Option O}{e1:O->PK}{Q:Type}{f2:PK->Option Q}{e2:Q->PK}{Z:Type}{f3:PK->Option Z}{e3:Z->PK}(h0: ∀p a,f0 p=some a->CU p (e0 a))(h1: ∀p a,f1 p=some a->CU p (e1 a))(h2: ∀p a,f2 p=some a->CU p (e2 a))(h3: ∀p a,f3 p=some a->CU p (e3 a)): ∀z a,a4 f0 f1 f2 f3 z=some a->Cy z [e0 (a.1),e1 (a.2.1),e2 (a.2.2.1),e3 (a.2.2.2)]:=by
 intro z a h;unfold a4 at h;split at h
 .simp only[F5,AP] at h;obtain⟨y0,g0,y1,g1,y2,g2,y3,g3,rfl⟩:=h;exact⟨h0 _ _ g0,h1 _ _ g1,h2 _ _ g2,h3 _ _ g3,trivial⟩
 .cases h
def a5{z G O Q Z:Type}(f0:PK->Option z)(f1:PK->Option G)(f2:PK->Option O)(f3:PK->Option Q)(f4:PK->Option Z):List PK->Option (z×G×O×Q×Z)
 |[x0,x1,x2,x3,x4]=>(f0 x0).bind λy0=>(f1 x1).bind λy1=>(f2 x2).bind λy2=>(f3 x3).bind λy3=>(f4 x4).bind λy4=>some (y0,y1,y2,y3,y4)
 |_=>none
def a5_le{G:Type}{f0:PK->Option G}{e0:G->PK}{O:Type}{f1:PK->Option O}{e1:O->PK}{Q:Type}{f2:PK->Option Q}{e2:Q->PK}{Z:Type}{f3:PK->Option Z}{e3:Z->PK}{A4:Type}{f4:PK->Option A4}{e4:A4->PK}(h0: ∀p a,f0 p=some a->CU p (e0 a))(h1: ∀p a,f1 p=some a->CU p (e1 a))(h2: ∀p a,f2 p=some a->CU p (e2 a))(h3: ∀p a,f3 p=some a->CU p (e3 a))(h4: ∀p a,f4 p=some a->CU p (e4 a)): ∀z a,a5 f0 f1 f2 f3 f4 z=some a->Cy z [e0 (a.1),e1 (a.2.1),e2 (a.2.2.1),e3 (a.2.2.2.1),e4 (a.2.2.2.2)]:=by
 intro z a h;unfold a5 at h;split at h
 .simp only[F5,AP] at h;obtain⟨y0,g0,y1,g1,y2,g2,y3,g3,y4,g4,rfl⟩:=h;exact⟨h0 _ _ g0,h1 _ _ g1,h2 _ _ g2,h3 _ _ g3,h4 _ _ g4,trivial⟩
 .cases h
def a6{z G O Q Z A5:Type}(f0:PK->Option z)(f1:PK->Option G)(f2:PK->Option O)(f3:PK->Option Q)(f4:PK->Option Z)(f5:PK->Option A5):List PK->Option (z×G×O×Q×Z×A5)
 |[x0,x1,x2,x3,x4,x5]=>(f0 x0).bind λy0=>(f1 x1).bind λy1=>(f2 x2).bind λy2=>(f3 x3).bind λy3=>(f4 x4).bind λy4=>(f5 x5).bind λy5=>some (y0,y1,y2,y3,y4,y5)
 |_=>none
def a6_le{G:Type}{f0:PK->Option G}{e0:G->PK}{O:Type}{f1:PK->Option O}{e1:O->PK}{Q:Type}{f2:PK->Option Q}{e2:Q->PK}{Z:Type}{f3:PK->Option Z}{e3:Z->PK}{A4:Type}{f4:PK->Option A4}{e4:A4->PK}{A5:Type}{f5:PK->Option A5}{e5:A5->PK}(h0: ∀p a,f0 p=some a->CU p (e0 a))(h1: ∀p a,f1 p=some a->CU p (e1 a))(h2: ∀p a,f2 p=some a->CU p (e2 a))(h3: ∀p a,f3 p=some a->CU p (e3 a))(h4: ∀p a,f4 p=some a->CU p (e4 a))(h5: ∀p a,f5 p=some a->CU p (e5 a)): ∀z a,a6 f0 f1 f2 f3 f4 f5 z=some a->Cy z [e0 (a.1),e1 (a.2.1),e2 (a.2.2.1),e3 (a.2.2.2.1),e4 (a.2.2.2.2.1),e5 (a.2.2.2.2.2)]:=by
 intro z a h;unfold a6 at h;split at h
 .simp only[F5,AP] at h;obtain⟨y0,g0,y1,g1,y2,g2,y3,g3,y4,g4,y5,g5,rfl⟩:=h;exact⟨h0 _ _ g0,h1 _ _ g1,h2 _ _ g2,h3 _ _ g3,h4 _ _ g4,h5 _ _ g5,trivial⟩
 .cases h
def a7{z G O Q Z A5 A6:Type}(f0:PK->Option z)(f1:PK->Option G)(f2:PK->Option O)(f3:PK->Option Q)(f4:PK->Option Z)(f5:PK->Option A5)(f6:PK->Option A6):List PK->Option (z×G×O×Q×Z×A5×A6)
 |[x0,x1,x2,x3,x4,x5,x6]=>(f0 x0).bind λy0=>(f1 x1).bind λy1=>(f2 x2).bind λy2=>(f3 x3).bind λy3=>(f4 x4).bind λy4=>(f5 x5).bind λy5=>(f6 x6).bind λy6=>some (y0,y1,y2,y3,y4,y5,y6)
 |_=>none
def a7_le{G:Type}{f0:PK->Option G}{e0:G->PK}{O:Type}{f1:PK->Option O}{e1:O->PK}{Q:Type}{f2:PK->Option Q}{e2:Q->PK}{Z:Type}{f3:PK->Option Z}{e3:Z->PK}{A4:Type}{f4:PK->Option A4}{e4:A4->PK}{A5:Type}{f5:PK->Option A5}{e5:A5->PK}{A6:Type}{f6:PK->Option A6}{e6:A6->PK}(h0: ∀p a,f0 p=some a->CU p (e0 a))(h1: ∀p a,f1 p=some a->CU p (e1 a))(h2: ∀p a,f2 p=some a->CU p (e2 a))(h3: ∀p a,f3 p=some a->CU p (e3 a))(h4: ∀p a,f4 p=some a->CU p (e4 a))(h5: ∀p a,f5 p=some a->CU p (e5 a))(h6: ∀p a,f6 p=some a->CU p (e6 a)): ∀z a,a7 f0 f1 f2 f3 f4 f5 f6 z=some a->Cy z [e0 (a.1),e1 (a.2.1),e2 (a.2.2.1),e3 (a.2.2.2.1),e4 (a.2.2.2.2.1),e5 (a.2.2.2.2.2.1),e6 (a.2.2.2.2.2.2)]:=by
 intro z a h;unfold a7 at h;split at h
 .simp only[F5,AP] at h;obtain⟨y0,g0,y1,g1,y2,g2,y3,g3,y4,g4,y5,g5,y6,g6,rfl⟩:=h;exact⟨h0 _ _ g0,h1 _ _ g1,h2 _ _ g2,h3 _ _ g3,h4 _ _ g4,h5 _ _ g5,h6 _ _ g6,trivial⟩
 .cases h
def Kq{A B E F:Type}(f:D->Option A)(g:D->Option B)(k:D->Option E)(m:D->Option F):D->Option (A×B×E×F)
 | .tup [x,y,z,w]=>(f x).bind λa=>(g y).bind λb=>(k z).bind λc=>(m w).bind λd=>some (a,b,c,d)
 |_=>none
def WL{A B E F:Type}{f:D->Option A}{g:D->Option B}{k:D->Option E}{m:D->Option F}{e:A->D}{e':B->D}{e'':E->D}{z:F->D}(hf: ∀d x,f d=some x->Le d (e x))(hg: ∀d x,g d=some x->Le d (e' x))(hk: ∀d x,k d=some x->Le d (e'' x))(hm: ∀d x,m d=some x->Le d (z x)):
 ∀d (x:A×B×E×F),Kq f g k m d=some x->Le d (.tup [e x.1,e' x.2.1,e'' x.2.2.1,z x.2.2.2]):=by
 intro d x h;unfold Kq at h;split at h
 .simp only[F5,AP] at h;obtain⟨a,G,b,O,c,Q,w,Z,rfl⟩:=h;exact LB ⟨hf _ _ G,hg _ _ O,hk _ _ Q,hm _ _ Z,trivial⟩
 .cases h
def Ag.c_n(x:Ag):(Ag.c x).length=3:=rfl
def Aj.c_n(x:Aj):(Aj.c x).length=3:=rfl
def Ar.c_n(x:Ar):(Ar.c x).length=3:=rfl
def Ac.c_n(x:Ac):(Ac.c x).length=2:=rfl
def Dy(x:Int):(Af x).length=1:=rfl
def Sk(x:List Int):(C9 x).length=1:=rfl
structure QK(A:Type) where
 d:PK->Option A
 e:A->PK
 l: ∀p a,d p=some a->CU p (e a)
def qI:QK Int:=⟨kI,λa=> .val (.int .i64 a),kI_le⟩
def qU:QK Int:=⟨kU,λa=> .val (.int .u64 a),kU_le⟩
def qY:QK Int:=⟨kY,λa=> .val (.int .u8 a),kY_le⟩
def qB:QK Bool:=⟨kB,λa=> .val (.bool a),kB_le⟩
def qT:QK ByteArray:=⟨kT,λa=> .val (.str a),kT_le⟩
section
variable {A:Type}{f:List D->Option A}{e:A->List D}
def qR(h: ∀ds x,f ds=some x->Dh ds (e x)):QK A:=⟨kR f,λa=> .val (.agg (e a)),UC h⟩
def qP(n:Nat)(h: ∀ds x,f ds=some x->Dh ds (e x)):QK A:=⟨kP f n,λa=> .ptr (e a),kP_le n h⟩
def qS{k:Nat}(h: ∀ds x,f ds=some x->Dh ds (e x))(z: ∀x,(e x).length=k):QK (List A):=⟨kS f,λa=> .val (.sl false k (a.map e)),kS_le k h z⟩
end
structure AK(A:Type) where
 r:List PK->Option A
 e:A->List PK
 l: ∀ps a,r ps=some a->Cy ps (e a)
 n:Nat
 w: ∀a,(e a).length=n
def b1{z:Type}(p0:QK z):AK (z):=⟨a1 p0.d,λa=>[p0.e (a)],a1_le p0.l,1,λ_=>rfl⟩
def b2{z G:Type}(p0:QK z)(p1:QK G):AK (z×G):=⟨a2 p0.d p1.d,λa=>[p0.e (a.1),p1.e (a.2)],eX p0.l p1.l,2,λ_=>rfl⟩
def b3{G O Q:Type}(p0:QK G)(p1:QK O)(z:QK Q):AK (G×O×Q):=⟨a3 p0.d p1.d z.d,λa=>[p0.e (a.1),p1.e (a.2.1),z.e (a.2.2)],a3_le p0.l p1.l z.l,3,λ_=>rfl⟩
def b4{O Q Z A3:Type}(p0:QK O)(p1:QK Q)(z:QK Z)(G:QK A3):AK (O×Q×Z×A3):=⟨a4 p0.d p1.d z.d G.d,λa=>[p0.e (a.1),p1.e (a.2.1),z.e (a.2.2.1),G.e (a.2.2.2)],a4_le p0.l p1.l z.l G.l,4,λ_=>rfl⟩
def b5{Q Z A2 A3 A4:Type}(p0:QK Q)(p1:QK Z)(z:QK A2)(G:QK A3)(O:QK A4):AK (Q×Z×A2×A3×A4):=⟨a5 p0.d p1.d z.d G.d O.d,λa=>[p0.e (a.1),p1.e (a.2.1),z.e (a.2.2.1),G.e (a.2.2.2.1),O.e (a.2.2.2.2)],a5_le p0.l p1.l z.l G.l O.l,5,λ_=>rfl⟩
def b6{Z A1 A2 A3 A4 A5:Type}(p0:QK Z)(p1:QK A1)(z:QK A2)(G:QK A3)(O:QK A4)(Q:QK A5):AK (Z×A1×A2×A3×A4×A5):=⟨a6 p0.d p1.d z.d G.d O.d Q.d,λa=>[p0.e (a.1),p1.e (a.2.1),z.e (a.2.2.1),G.e (a.2.2.2.1),O.e (a.2.2.2.2.1),Q.e (a.2.2.2.2.2)],a6_le p0.l p1.l z.l G.l O.l Q.l,6,λ_=>rfl⟩
def b7{A0 A1 A2 A3 A4 A5 A6:Type}(p0:QK A0)(p1:QK A1)(z:QK A2)(G:QK A3)(O:QK A4)(Q:QK A5)(Z:QK A6):AK (A0×A1×A2×A3×A4×A5×A6):=⟨a7 p0.d p1.d z.d G.d O.d Q.d Z.d,λa=>[p0.e (a.1),p1.e (a.2.1),z.e (a.2.2.1),G.e (a.2.2.2.1),O.e (a.2.2.2.2.1),Q.e (a.2.2.2.2.2.1),Z.e (a.2.2.2.2.2.2)],a7_le p0.l p1.l z.l G.l O.l Q.l Z.l,7,λ_=>rfl⟩
structure RK(B:Type) where
 c:D->Option B
 e:B->D
 l: ∀d b,c d=some b->Le d (e b)
def rI:RK Int:=⟨DU,D.int .i64,RZ⟩
def rB:RK Bool:=⟨X9,D.bool,xC⟩
def rT:RK ByteArray:=⟨IR,D.str,cN⟩
section
variable {A:Type}{f:List D->Option A}{e:A->List D}
def rA(h: ∀ds x,f ds=some x->Dh ds (e x)):RK A:=⟨EC f,λb=>D.agg (e b),O1 h⟩
def rS{k:Nat}(h: ∀ds x,f ds=some x->Dh ds (e x))(z: ∀x,(e x).length=k):RK (List A):=⟨Rn f,λb=>D.sl false k (b.map e),xF h z⟩
end
def r2{A B:Type}(p:RK A)(q:RK B):RK (A×B):=⟨pP p.c q.c,λb=>D.tup [p.e b.1,q.e b.2],Qbz p.l q.l⟩
def r3{A B C:Type}(p:RK A)(q:RK B)(r:RK C):RK (A×B×C):=⟨Kp p.c q.c r.c,λb=>D.tup [p.e b.1,q.e b.2.1,r.e b.2.2],WK p.l q.l r.l⟩
def r4{A B C E:Type}(p:RK A)(q:RK B)(r:RK C)(s:RK E):RK (A×B×C×E):=⟨Kq p.c q.c r.c s.c,λb=>D.tup [p.e b.1,q.e b.2.1,r.e b.2.2.1,s.e b.2.2.2],WL p.l q.l r.l s.l⟩
def tN{P:Program}:K1 P (RP []):=Sa [] (by simp)
def tC{P:Program}{g:Nat}{r:AO}{l:List (Nat×AO)}(h:KZ P g r)(Q:K1 P (RP l)):K1 P (RP ((g,r)::l)):=by
 intro g' G h' nx K z;simp only[RP] at z;split at z
 .rename_i O;subst O;exact h _ _ _ _ z
 .exact Q _ _ _ _ _ z
def ZA0:=J @VC0<|J @VC1<|J @VC2<|J @VC3<|J @VC4<|J @VC5<|J @VC6<|J @VC7<|J @VC8<|J @VC9<|J @VC10<|J @VC11<|J @VC12<|J @VC13<|J @VC14<|J @VC15<|J @VC16<|J @VC17<|J @VC18<|J @VC19<|J @VC20<|J @VC21<|J @VC22<|@VC23
def ZA1:=J @VC24<|J @VC25<|J @VC26<|J @VC27<|J @VC28<|J @VC29<|J @VC30<|J @VC31<|J @VC32<|J @VC33<|J @VC34<|J @VC35<|J @VC36<|J @VC37<|J @VC38<|J @VC39<|J @VC40<|J @VC41<|J @VC42<|J @VC43<|J @ZdJ.{0}<|J @K5<|J @Bool.not_eq_false'<|@AV.im.injEq
def ZA2:=J @D.int.injEq<|J @D.bool.injEq<|J @D.str.injEq<|J @D.sl.injEq<|J @D.agg.injEq<|J @AV.own.injEq<|J @AV.ptr.injEq<|J @EM.{0,0}<|J @Ah.cells.injEq<|J @Ah.arr.injEq<|J @eV.{0}<|J @Int.cast_ofNat_Int<|J @Int.ofNat_lt<|J @Int.ofNat_le<|J @Int.natCast_nonneg<|J @mE<|J @J7<|J @AZ<|J @J3<|J @Zm<|J @Zl<|J @decide_true<|J @sF<|@BA
def ZA3:=J @HZ<|J @EN<|J @Bm.{0,0}<|J @BY.{0,0}<|J @Mo.{0}<|J @Jc.{0}<|J @Ia.{0}<|J @Fh.{0}<|J @Zfs.{0}<|J @Zft.{0}<|J @CJ.{1}<|J @Co.{1}<|J @Gw.{0}<|J @GD.{0}<|J @ne_eq.{1}<|J @Fs.{0}<|J @CP.{0}<|J @CQ.{0}<|J @Dp.{0}<|J @Hx.{0}<|J @and_true<|J @I7<|J @Zef<|@not_true_eq_false
def ZA4:=J @or_true<|J @true_or<|J @Cx<|J @FM<|J @Xx<|J @eW<|J @false_or<|J @lW.{0}<|J @eS.{0}<|J @SL<|J @Zfa<|J @ZeE<|J @Zeo<|J @rW<|J @Xs<|J @true_implies<|J @false_implies<|J @GG.{0,0}<|J @Er<|J @EL<|J @Gx<|J @rR<|J @eQ.{0}<|@Option.isSome_some.{0}
def ZA5:=J @Bool.false_bne<|J @Bool.true_bne<|J @Bool.not_not<|J @AW<|J @B1<|J @eq_self.{1}<|J @ZeW.{0}<|J @Bool.true_eq_false<|J @Dx<|J @TY0<|J @TY1<|J @TY2<|J @TY3<|J @TY4<|J @KY0<|J @KY1<|J @CY0<|J @isG.eq_1<|J @qI.eq_1<|J @qU.eq_1<|J @qY.eq_1<|J @qB.eq_1<|J @qT.eq_1<|@qR.eq_1
def ZA6:=J @qP.eq_1<|J @qS.eq_1<|J @b1.eq_1<|J @b2.eq_1<|J @b3.eq_1<|J @b4.eq_1<|J @b5.eq_1<|J @b6.eq_1<|J @b7.eq_1<|J @rI.eq_1<|J @rB.eq_1<|J @rT.eq_1<|J @rA.eq_1<|J @rS.eq_1<|J @r2.eq_1<|J @r3.eq_1<|J @r4.eq_1<|J @Kq.eq_1<|J @Kq.eq_2<|J @kI.eq_1<|J @kI.eq_2<|J @kU.eq_1<|J @kU.eq_2<|@kY.eq_1
def ZA7:=J @kY.eq_2<|J @kB.eq_1<|J @kB.eq_2<|J @kT.eq_1<|J @kT.eq_2<|J @kR.eq_1<|J @kR.eq_2<|J @kP.eq_1<|J @kP.eq_2<|J @kS.eq_1<|J @kS.eq_2<|J @a1.eq_1<|J @a1.eq_2<|J @a2.eq_1<|J @a2.eq_2<|J @a3.eq_1<|J @a3.eq_2<|J @a4.eq_1<|J @a4.eq_2<|J @a5.eq_1<|J @a5.eq_2<|J @a6.eq_1<|J @a6.eq_2<|@a7.eq_1
def ZA8:=J @a7.eq_2<|J @AX.eq_1<|J @AX.eq_2<|J @Po<|J @Dj.eq_1<|J @Dj.eq_2<|J @cE.eq_1<|J @cE.eq_2<|J @Af.eq_1<|J @pD.eq_1<|J @qN<|J @pE<|J @DU.eq_1<|J @DU.eq_2<|J @IR.eq_1<|J @IR.eq_2<|J @X9.eq_1<|J @X9.eq_2<|J @Rn.eq_1<|J @Rn.eq_2<|J @EC.eq_1<|J @EC.eq_2<|J @pP.eq_1<|@pP.eq_2
def ZA9:=J @Kp.eq_1<|J @Kp.eq_2<|J @Ac.c.eq_1<|J @Ac.d.eq_1<|J @Ac.d.eq_2<|J @Ar.c.eq_1<|J @Ar.d.eq_1<|J @Ar.d.eq_2<|J @Ar.d_R<|J @Al.c.eq_1<|J @AG.c.eq_1<|J @AG.d.eq_1<|J @AG.d.eq_2<|J @AG.d_R<|J @Tile.c.eq_1<|J @Tile.d.eq_1<|J @Tile.d.eq_2<|J @Tile.d_R<|J @AI.c.eq_1<|J @AI.d.eq_1<|J @AI.d.eq_2<|J @An.c.eq_1<|J @An.d.eq_1<|@An.d.eq_2
def ZA10:=J @Aj.c.eq_1<|J @Aj.d.eq_1<|J @Aj.d.eq_2<|J @Aj.d_R<|J @J0.c.eq_1<|J @J0.d.eq_1<|J @J0.d.eq_2<|J @Ag.c.eq_1<|J @Ag.d.eq_1<|J @Ag.d.eq_2<|J @Ag.d_R<|J @CR.{0,0}<|J @AP.{0}<|J @FN.{0,0}<|J @Ac.d_R<|J @Ac.eta<|J @Ar.eta<|J @Al.eta<|J @AG.eta<|J @Tile.eta<|J @AI.eta<|J @An.eta<|J @Aj.eta<|@J0.eta
def ZA11:=J @Ag.eta<|J @Dv.c.eq_1<|J @Dv.d.eq_1<|J @Dv.d.eq_2<|J @Dv.eta<|J @Qmt<|J @Qk8<|J @Qqj<|J @VI<|J @Q0<|J @Kc.eq_1<|J @Kc.eq_2<|J @Kc.eq_3<|J @H2.{0,0}<|@rP.{0,0}
def ZA:=J @ZA0<|J @ZA1<|J @ZA2<|J @ZA3<|J @ZA4<|J @ZA5<|J @ZA6<|J @ZA7<|J @ZA8<|J @ZA9<|J @ZA10<|@ZA11
def ZT0:=J @fY.eq_1<|J @C9.eq_1<|J @Pm.eq_1<|J @Pm.eq_2<|J @Od<|J @Bp.c.eq_1<|J @Bp.d.eq_1<|J @Bp.d.eq_2<|J @Bp.eta<|J @Bq.c.eq_1<|J @Bq.d.eq_1<|J @Bq.d.eq_2<|J @Bq.eta<|J @CH.c.eq_1<|J @CH.d.eq_1<|J @CH.d.eq_2<|J @F2.c.eq_1<|J @F2.d.eq_1<|J @F2.d.eq_2<|J @Fx.c.eq_1<|J @Fx.d.eq_1<|J @Fx.d.eq_2<|J @CH.eta<|@F2.eta
def ZT1:= @Fx.eta
def ZT:=J @ZT0 (@ZT1)
def ZG:=J @A9.good.eq_1<|J @C4.eq_1<|J @C4.eq_2<|J @AH.eq_1<|J @AH.eq_2<|J @AH.eq_3<|J @AH.eq_4<|J @AH.eq_5<|J @AH.eq_6<|J @AH.eq_7<|J @AH.eq_8<|J @Cz.eq_1<|J @Cz.eq_2<|J @AV.bel.eq_1<|J @AV.bel.eq_2<|J @AV.bel.eq_3<|J @AV.bel.eq_4<|J @AV.bel.eq_5<|J @AV.bel.eq_6<|J @AV.bel.eq_7<|J @AV.bel.eq_8<|J @AV.bel.eq_9<|J @AV.bel.eq_10<|J @AV.bel.eq_11<|J @AV.bel.eq_12<|J @AL.eq_1 @AL.eq_2
def C8:=J @RW<|J @OO<|J @OI<|J @OL @RV
def Az:=J C8 (J @Cl.{0} @Hz.{0})
def Adq(b:Bool)(k:Nat)(x:List (List D)):Al.d [.sl b k x]=(AX Ar.d x).bind λy=>some ⟨y⟩:=rfl
def ZZ:=J ZA (J ZT @Adq)
def vq{A:Type}{ar:List PK->Option A}{pre:A->Prop}{re:A->D}(r:AO)(e:r=FY ar pre re)(a:List AV)(h:Nat->Option Aq)(n:Nat)(K:Ai):r a h n K=gB ar pre re (AE a) K (RL h a):=by rw[e];rfl
def vqF{A:Type}{ar:List PK->Option A}{pre:A->Prop}{re:A->D}(r:AO)(e:r=Pg ar pre re)(a:List AV)(h:Nat->Option Aq)(n:Nat)(K:Ai):r a h n K=Y4 ar pre re (G5 h a) K (DT h a):=by rw[e];rfl
end Go.Ae
namespace Go.Ae
open Go.Proofs
def vK{A B:Type}(k:AK A)(r:RK B)(pre:A->Prop)(f:A->B):AO:=FY k.r pre λa=>r.e (f a)
def H5{A B:Type}(k:AK A)(r:RK B)(pre:A->Prop)(f:A->B):AO:=Pg k.r pre λa=>r.e (f a)
section
variable {A B:Type}{R:AO}{k:AK A}{r:RK B}{pre:A->Prop}{f:A->B}
def B2(e:R=vK k r pre f)(a:List AV)(h:Nat->Option Aq)(n:Nat)(K:Ai):R a h n K=gB k.r pre (λa=>r.e (f a)) (AE a) K (RL h a):=by rw[e];rfl
def FE(e:R=H5 k r pre f)(a:List AV)(h:Nat->Option Aq)(n:Nat)(K:Ai):R a h n K=Y4 k.r pre (λa=>r.e (f a)) (G5 h a) K (DT h a):=by rw[e];rfl
variable {V:D6}(hV:K1 Tryz.prog V){g:FuncId}{fn:Func}{c:Code}(hf:Tryz.prog.funcs[g]? =some fn)
include hV hf
def vw(O: ∀a,pre a->D7 Tryz.prog V c (Q5 Tryz.prog fn.results.toList (Ca (k.e a)) [] L3 (Ea 0 (k.e a)) (NH r.c (f a))) ⟨entry 0 (DM 0 (k.e a)),Ea 0 (k.e a),Ca (k.e a)⟩)(G:fn.body=some c:=by rfl)(z:(E8 fn.ntmps c && (I9 Tryz.prog g && Nat.ble k.n fn.ntmps))=true:=by kernel_rfl):KZ Tryz.prog g (vK k r pre f):=by
 simp only[AZ] at z;exact gZ DJ hV hf G z.1 z.2.1 k.l k.w (rL z.2.2) r.l O
def LX(O: ∀a,pre a->D7 Tryz.prog V c (eH Tryz.prog fn.results.toList (Be r.c (f a))) ⟨entry 0 (DM 0 (k.e a)),Ea 0 (k.e a),Ca (k.e a)⟩)(G:fn.body=some c:=by rfl)(z:(E8 fn.ntmps c && (I9 Tryz.prog g && Nat.ble k.n fn.ntmps))=true:=by kernel_rfl):KZ Tryz.prog g (H5 k r pre f):=by
 simp only[AZ] at z;exact Qbn DJ hV hf G z.1 z.2.1 k.l k.w (rL z.2.2) r.l O
end
section
variable {V:D6}(hV:K1 Tryz.prog V){g:FuncId}{fn:Func}{c:Code}(hf:Tryz.prog.funcs[g]? =some fn)
 {A:Type}{ca:A->List AV}{H0 H1:A->Au}{k cnt:Nat}{pre:A->Prop}{klB exB:Nat->Bool}{r0:A->AV}{R:A->AV->Prop}
 (hn: ∀a,Nat.ble (ca a).length fn.ntmps=true)(hq: ∀a,AL k (ca a)=true/\AH k (H0 a)=true/\Cz k (H0 a)=true/\Df (H0 a) (H0 a))
 (hH1: ∀a,∀p∈H1 a,(p.1<k/\klB p.1=true/\Av (H0 a) p.1=true)\/(k<=p.1/\p.1<k+cnt/\exB p.1=true/\p.2.1=true))
 (hR: ∀a r,R a r->ED r (r0 a))
include hV hf hn hq hH1 hR
def ow(hk: ∀a,pre a->D7 Tryz.prog V c (OC Tryz.prog fn.results.toList k cnt (H0 a) (H1 a) klB exB (R a)) ⟨entry 0 (ca a),H0 a,k⟩)(hb:fn.body=some c:=by rfl)(Q:(E8 fn.ntmps c && I9 Tryz.prog g)=true:=by kernel_rfl):KZ Tryz.prog g (AM ca H0 k pre klB r0 H1 cnt):=by
 simp only[AZ] at Q;rintro aa h nx K ⟨a,τ,U,KL,O,rfl,z,G,hK⟩;refine⟨S5 Q.2,_,_,?_,hK⟩;exact objG DJ hV hf hb Q.1 (rL (hn a)) (hq a).1 (hq a).2.1 (hq a).2.2.1 (λj e Z=>Qo2 (hq a).2.2.2 j e (kA Z)) (hR a) (hH1 a) VV (λ_ _ h=>h) (hk a O) G.inj G.lt
  (λj e Z=>Qpk z j e (kA Z)) G.u G.k1 G.k2
def VA(hk: ∀a,pre a->D7 Tryz.prog V c (AR Tryz.prog fn.results.toList k cnt (H0 a) (H1 a) klB exB (R a)) ⟨entry 0 (ca a),H0 a,k⟩)(hb:fn.body=some c:=by rfl)(Q:(E8 fn.ntmps c && I9 Tryz.prog g)=true:=by kernel_rfl):KZ Tryz.prog g (AM ca H0 k pre klB r0 H1 cnt):=by
 simp only[AZ] at Q;rintro aa h nx K ⟨a,τ,U,KL,O,rfl,z,G,hK⟩;refine⟨S5 Q.2,_,_,?_,hK⟩;exact objG DJ hV hf hb Q.1 (rL (hn a)) (hq a).1 (hq a).2.1 (hq a).2.2.1 (λj e Z=>Qo2 (hq a).2.2.2 j e (kA Z)) (hR a) (hH1 a) VW (λ_ _ h=>h) (hk a O) G.inj G.lt
  (λj e Z=>Qpk z j e (kA Z)) G.u G.k1 G.k2
end
abbrev AS:=KZ Tryz.prog
def Bz(n lo z:Int):Bool:=decide (lo<=n) && decide (n<=z)
def within_.fv(a:Int×Int×Int):Bool:=(Bz) (a.1) (a.2.1) (a.2.2)
def within_.row:AO:=vK (b3 qI qI qI) rB (λa=>True) within_.fv
def within_.q:=B2 (R:=within_.row) rfl
def within_.ok:AS 66 within_.row:=by
 refine vw tN Tryz.func66 ?_;intro a z;simp only[Tryz.f66,Option.getD];simp only[ZZ,simprocAttr,Ab,within_.fv];simp only[Bz];grind
def l00In.fv(a:Int×Int×Int):Bool:=(Bz) (a.1) (a.2.1) (a.2.2)
def l00In.row:AO:=vK (b3 qI qI qI) rB (λa=>True) l00In.fv
def l00In.q:=B2 (R:=l00In.row) rfl
def l00In.ok:AS 32 l00In.row:=by
 refine vw tN Tryz.func32 ?_;intro a z;simp only[Tryz.f32,Option.getD];simp only[ZZ,simprocAttr,Ab,l00In.fv];simp only[Bz];grind
def I64(n:Int):Prop:= -9223372036854775808<=n/\n<=9223372036854775807
def isIndex.fv(a:Int×Int):Bool:=Bz a.1 0 (a.2 - 1)
def isIndex.row:AO:=vK (b2 qI qI) rB (λa=>0<=a.2/\I64 a.2) isIndex.fv
def isIndex.q:=B2 (R:=isIndex.row) rfl
def isIndex.ok:AS 143 isIndex.row:=by
 refine vw (tC within_.ok tN) Tryz.func143 ?_;intro a z;simp only[Tryz.f143,Option.getD];simp only[ZZ,simprocAttr,Ab,isIndex.fv,within_.q,within_.fv];obtain⟨G,O,Q⟩:=z;rw[AF (by omega) (by omega)]
def EU(p:Ac):Bool:=Bz p.X (-60) 60 && Bz p.Y (-60) 60
def ValidPoint.fv(a:Ac):Bool:=(EU) a
def ValidPoint.row:AO:=vK (b1 (qR Ac.d_le)) rB (λa=>True) ValidPoint.fv
def ValidPoint.q:=B2 (R:=ValidPoint.row) rfl
def ValidPoint.ok:AS 144 ValidPoint.row:=by
 refine vw (tC within_.ok tN) Tryz.func144 ?_;intro a z;simp only[Tryz.f144,Option.getD];simp only[ZZ,simprocAttr,Ab,ValidPoint.fv,within_.q,within_.fv];simp only[EU];grind
def l01Point.fv(a:Ac):Bool:=(EU) a
def l01Point.row:AO:=vK (b1 (qR Ac.d_le)) rB (λa=>True) l01Point.fv
def l01Point.q:=B2 (R:=l01Point.row) rfl
def l01Point.ok:AS 101 l01Point.row:=by
 refine vw (tC l00In.ok tN) Tryz.func101 ?_;intro a z;simp only[Tryz.f101,Option.getD];simp only[ZZ,simprocAttr,Ab,l01Point.fv,l00In.q,l00In.fv];simp only[EU];grind
def isNaN.fv(a:Int):Bool:=false && a==0
def isNaN.row:AO:=vK (b1 qI) rB (λa=>True) isNaN.fv
def isNaN.q:=B2 (R:=isNaN.row) rfl
def isNaN.ok:AS 207 isNaN.row:=by
 refine vw tN Tryz.func207 ?_;intro a z;simp only[Tryz.f207,Option.getD];simp only[ZZ,simprocAttr,Ab,isNaN.fv]
 try simp
def FP(a b:Int):Int:=if a<b then -1 else if b<a then 1 else 0
def Compare.fv(a:Int×Int):Int:=(FP) (a.1) (a.2)
def Compare.row:AO:=vK (b2 qI qI) rI (λa=>True) Compare.fv
def Compare.q:=B2 (R:=Compare.row) rfl
def Compare.ok:AS 166 Compare.row:=by
 refine vw (tC isNaN.ok tN) Tryz.func166 ?_;intro a z;simp only[Tryz.f166,Option.getD];simp only[ZZ,simprocAttr,Ab,Compare.fv,isNaN.q,isNaN.fv];simp only[FP];grind
def B6(a b:Ac):Bool:=decide (a.Y<b.Y)||(decide (a.Y=b.Y) && decide (a.X<b.X))
def l_LessPoint.fv(a:Ac×Ac):Bool:=(B6) (a.1) (a.2)
def l_LessPoint.row:AO:=vK (b2 (qR Ac.d_le) (qR Ac.d_le)) rB (λa=>True) l_LessPoint.fv
def l_LessPoint.q:=B2 (R:=l_LessPoint.row) rfl
def l_LessPoint.ok:AS 148 l_LessPoint.row:=by
 refine vw tN Tryz.func148 ?_;intro a z;simp only[Tryz.f148,Option.getD];simp only[ZZ,simprocAttr,Ab,l_LessPoint.fv];simp only[B6]
 grind
def FA(a b:Int):Int:=if a<b then a else b
def Et(a b:Int):Int:=if b<a then a else b
def l00Min.fv(a:Int×Int):Int:=(FA) (a.1) (a.2)
def l00Min.row:AO:=vK (b2 qI qI) rI (λa=>True) l00Min.fv
def l00Min.q:=B2 (R:=l00Min.row) rfl
def l00Min.ok:AS 178 l00Min.row:=by
 refine vw tN Tryz.func178 ?_;intro a z;simp only[Tryz.f178,Option.getD];simp only[ZZ,simprocAttr,Ab,l00Min.fv];simp only[FA];grind
def l00Max.fv(a:Int×Int):Int:=(Et) (a.1) (a.2)
def l00Max.row:AO:=vK (b2 qI qI) rI (λa=>True) l00Max.fv
def l00Max.q:=B2 (R:=l00Max.row) rfl
def l00Max.ok:AS 120 l00Max.row:=by
 refine vw tN Tryz.func120 ?_;intro a z;simp only[Tryz.f120,Option.getD];simp only[ZZ,simprocAttr,Ab,l00Max.fv];simp only[Et];grind
def yP(c:Int):Bool:=Bz c 97 122||Bz c 65 90
def Qtq(c:Int):Bool:=Bz c 48 57
def l01Letter.fv(a:Int):Bool:=(yP) a
def l01Letter.row:AO:=vK (b1 qY) rB (λa=>True) l01Letter.fv
def l01Letter.q:=B2 (R:=l01Letter.row) rfl
def l01Letter.ok:AS 175 l01Letter.row:=by
 refine vw tN Tryz.func175 ?_;intro a z;simp only[Tryz.f175,Option.getD];simp only[ZZ,simprocAttr,Ab,l01Letter.fv];simp only[yP,Bz];grind
def l01Digit.fv(a:Int):Bool:=(Qtq) a
def l01Digit.row:AO:=vK (b1 qY) rB (λa=>True) l01Digit.fv
def l01Digit.q:=B2 (R:=l01Digit.row) rfl
def l01Digit.ok:AS 176 l01Digit.row:=by
 refine vw tN Tryz.func176 ?_;intro a z;simp only[Tryz.f176,Option.getD];simp only[ZZ,simprocAttr,Ab,l01Digit.fv];simp only[Qtq,Bz];grind
def addP(a b:Ac):Ac:=⟨a.X+b.X,a.Y+b.Y⟩
def GZ(p:Ac):Prop:= -1000000000<=p.X/\p.X<=1000000000/\ -1000000000<=p.Y/\p.Y<=1000000000
def plus.fv(a:Ac×Ac):Ac:=(addP) (a.1) (a.2)
def plus.row:AO:=vK (b2 (qR Ac.d_le) (qR Ac.d_le)) (rA Ac.d_le) (λa=>GZ a.1/\GZ a.2) plus.fv
def plus.q:=B2 (R:=plus.row) rfl
def plus.ok:AS 153 plus.row:=by
 refine vw tN Tryz.func153 ?_;intro a z;simp only[Tryz.f153,Option.getD];simp only[ZZ,simprocAttr,Ab,plus.fv];obtain⟨⟨G,O,Q,Z⟩,h5,h6,h7,h8⟩:=z;rw[AF (by omega) (by omega),AF (by omega) (by omega)];rfl
def Bv(p:Ac)(d:Int):Ac:=if d=0 then ⟨p.X,p.Y+1⟩ else if d=1 then ⟨p.X+1,p.Y⟩ else if d=2 then ⟨p.X,p.Y - 1⟩ else ⟨p.X - 1,p.Y⟩
def step_.rc:D->Option (Ac):=EC Ac.d
def step_.re:Ac->D:=λb=>D.agg (Ac.c b)
def step_.rle: ∀d b,step_.rc d=some b->Le d (step_.re b):=O1 Ac.d_le
def step_.ar:List PK->Option (Ac×Int):=a2 (kR Ac.d) kI
def step_.fv(a:Ac×Int):Ac:=(Bv) (a.1) (a.2)
def step_.row:AO:=vK (b2 (qR Ac.d_le) qI) (RK.mk step_.rc step_.re step_.rle) (λa=>GZ a.1/\0<=a.2/\a.2<=3) step_.fv
def step_.q:=B2 (R:=step_.row) rfl
def step_.ok:AS 114 step_.row:=by
 refine vw (tC plus.ok tN) Tryz.func114 ?_;intro a z;simp only[Tryz.f114,Option.getD];obtain⟨p,d⟩:=a;obtain⟨hp,G,O⟩:=z;simp only at G O hp;rcases (by omega:d=0\/d=1\/d=2\/d=3) with rfl|rfl|rfl|rfl
 all_goals
  simp only[ZZ,simprocAttr,Ab,step_.fv,step_.rc,plus.q,plus.fv];obtain⟨Q,Z,h5,h6⟩:=hp;refine⟨⟨⟨Q,Z,h5,h6⟩,by simp[GZ]⟩,?_⟩;simp[Bv,addP]<;>omega
def l01Step.fv(a:Ac×Int):Ac:=(Bv) (a.1) (a.2)
def l01Step.row:AO:=vK (b2 (qR Ac.d_le) qI) (rA Ac.d_le) (λa=>GZ a.1/\0<=a.2/\a.2<=3) l01Step.fv
def l01Step.q:=B2 (R:=l01Step.row) rfl
def l01Step.ok:AS 121 l01Step.row:=by
 refine vw tN Tryz.func121 ?_;intro a z;simp only[Tryz.f121,Option.getD];simp only[ZZ,simprocAttr,Ab,l01Step.fv];obtain⟨⟨G,O,Q,Z⟩,h5,h6⟩:=z;rw[AF (by omega) (by omega),AF (by omega) (by omega),AF (by omega) (by omega),AF (by omega) (by omega)];simp only[Bv]
 grind
def R1:List Int->Int
 |[]=>0
 |x::r=>if x=0 then R1 r else x
def Or.fv(a:(List Int)):Int:=(R1) a
def Or.row:AO:=vK (b1 (qS Ez Dy)) rI (λa=>True) Or.fv
def Or.q:=B2 (R:=Or.row) rfl
def Or.ok:AS 165 Or.row:=by
 refine vw tN Tryz.func165 ?_;intro a Z;simp only[Tryz.f165,Option.getD];simp(disch:=omega)only[ZZ,simprocAttr,Ab,Or.fv];intro Q;refine Bc.old ⟨{k:Nat//k<=a.length/\R1 (a.drop k)=R1 a},λk=>⟨[(8,.im (.int .i64 k.1)),(7,.im (.int .i64 a.length)),(6,.im (.sl false 1 (a.map Af))),(3,.im (.int .i64 0)),(2,.im (.int .i64 0))],[],0⟩,λk=>a.length - k.1,λk=>⟨by simp[ZG],AW _⟩,⟨⟨0,by simp⟩,by simp(disch:=omega)only[ZZ,simprocAttr,Ab,Or.fv,sub]⟩,λk=> ?_⟩;obtain⟨k,aa,z⟩:=k;simp(disch:=omega)only[ZZ,simprocAttr,Ab,Or.fv,sub];simp only[AQ];refine⟨λG=>⟨G,λx hx=> ?_⟩,λG=> ?_⟩
 .have O:a.drop k=x::a.drop (k+1):=by
   rw[rN G];rw[Bk G] at hx;rw[A8 hx]
  rw[O,R1] at z;refine⟨λh=>by grind,λh=>⟨⟨k+1,by omega,by grind⟩,by simp only;omega,?_⟩⟩;simp (disch:=omega) only[AF];simp
 .have O:a.drop k=[]:=Ei (by omega);rw[O] at z;exact z
def comparePoints.fv(a:Ac×Ac):Int:=(λa b=>R1 [FP a.Y b.Y,FP a.X b.X]) (a.1) (a.2)
def comparePoints.row:AO:=vK (b2 (qR Ac.d_le) (qR Ac.d_le)) rI (λa=>True) comparePoints.fv
def comparePoints.q:=B2 (R:=comparePoints.row) rfl
def comparePoints.ok:AS 126 comparePoints.row:=by
 refine vw (tC Compare.ok (tC Or.ok tN)) Tryz.func126 ?_;intro a z;simp only[Tryz.f126,Option.getD];simp only[ZZ,simprocAttr,Ab,comparePoints.fv,Compare.q,Compare.fv,Or.q,Or.fv]
def impl_LessPoint.fv(a:Ac×Ac):Bool:=(B6) (a.1) (a.2)
def impl_LessPoint.row:AO:=vK (b2 (qR Ac.d_le) (qR Ac.d_le)) rB (λa=>True) impl_LessPoint.fv
def impl_LessPoint.q:=B2 (R:=impl_LessPoint.row) rfl
def impl_LessPoint.ok:AS 214 impl_LessPoint.row:=by
 refine vw (tC comparePoints.ok tN) Tryz.func214 ?_;intro a z;simp only[Tryz.f214,Option.getD];simp only[ZZ,simprocAttr,Ab,impl_LessPoint.fv,comparePoints.q,comparePoints.fv];simp only[B6,R1,FP]
 grind
def Pc(i:Nat)(c:Int):Bool:=yP c||(decide (i≠0) && (Qtq c||decide (c=95)))
def Iw:Nat->List UInt8->Bool
 |_,[]=>true
 |i,c::r=>Pc i c.toNat && Iw (i+1) r
def tY{a:ByteArray}{k:Nat}{c:UInt8}(G:a.data[k]? =some c):a.data.toList.drop k=c::a.data.toList.drop (k+1):=by
 have h0:a.data.toList[k]? =some c:=by simpa using G
 have z:k<a.data.toList.length:=(B9.1 h0).1;rw[rN z];rw[Bk z] at h0;rw[A8 h0]
def Ts{a:ByteArray}{k:Nat}(h: ¬k<a.size):a.data.toList.drop k=[]:=Ei (by simpa using h)
def Js(s:ByteArray):Bool:=Iw 0 s.data.toList && (decide (1<=s.size) && decide (s.size<=12))
def impl_IsName.fv(a:ByteArray):Bool:=(Js) a
def impl_IsName.row:AO:=vK (b1 qT) rB (λa=>a.size<=140737488355328) impl_IsName.fv
def impl_IsName.q:=B2 (R:=impl_IsName.row) rfl
def impl_IsName.ok:AS 212 impl_IsName.row:=by
 refine vw tN Tryz.func212 ?_;intro a aa;simp only[Tryz.f212,Option.getD];simp only[ZZ,simprocAttr,Ab,impl_IsName.fv];refine Bc.old ⟨{k:Nat//k<=a.size/\Iw k (a.data.toList.drop k)=Iw 0 a.data.toList},λk=>⟨[(8,.im (.int .i64 k.1)),(7,.im (.int .i64 a.size)),(6,.im (.str a)),(0,.im (.str a)),(2,.im (.bool false))],[],0⟩,λk=>a.size - k.1,λk=>⟨by simp[ZG],AW _⟩,⟨⟨0,by simp⟩,by simp only[ZZ,simprocAttr,Ab,impl_IsName.fv,sub]⟩,λk=> ?_⟩;obtain⟨k,ab,z⟩:=k;simp only[ZA,simprocAttr,Al.d,Ab,impl_IsName.fv,sub]
 split<;>rename_i Q
 .refine⟨Q,?_⟩;intro c hc;have hd:a.data.toList.drop k=c::a.data.toList.drop (k+1):=by
   have hl:k<a.data.toList.length:=by simpa using Q
   rw[rN hl]
   have:a.data.toList[k]? =some c:=by simpa using hc
   rw[Bk hl] at this;rw[A8 this]
  rw[hd,Iw] at z;by_cases Z:(97:Int)<=c.toNat<;>by_cases e2:(c.toNat:Int)<=122<;>(try (exfalso;omega))<;>by_cases e3:(65:Int)<=c.toNat<;>(try (exfalso;omega))<;>by_cases e4:(c.toNat:Int)<=90<;>(try (exfalso;omega))<;>
   by_cases e5:(c.toNat:Int)<48<;>(try (exfalso;omega))<;>by_cases e6:(57:Int)<c.toNat<;>(try (exfalso;omega))<;>by_cases e7:(c.toNat:Int)=95<;>(try (exfalso;omega))<;>by_cases e8:(k:Int)=0
  all_goals
   have e9:(48:Int)<=c.toNat↔ ¬(c.toNat:Int)<48:=by omega
   have G:(c.toNat:Int)<=57↔ ¬(57:Int)<c.toNat:=by omega
   have O:k=0↔(k:Int)=0:=by omega
   have hb:Pc k c.toNat=Pc k c.toNat:=rfl
   conv at hb=>
    rhs
    simp only[Pc,yP,Qtq,Bz,Z,e2,e3,e4,e5,e6,e7,e8,e9,G,O,ne_eq,decide_true,sF,Er,rR,Zfa,SL,ZeE,Zeo,EL,Gx,not_true_eq_false,Zef]
   rw[hb] at z;simp only[ZZ,simprocAttr,Ab,impl_IsName.fv,sub,Z,e2,e3,e4,e5,e6,e7,e8]
   first
    |(simp only[Gx] at z
      simp only[Js,<-z,Gx])
    |(simp only[EL] at z
      refine⟨⟨k+1,by omega,z⟩,by simp only;omega,?_⟩;rw[AF (by omega) (by omega)];simp only
      omega)
    |(have h9:Iw 0 a.data.toList=false:=by rw[<-z];simp
      simp[Js,h9])
 .have:a.data.toList.drop k=[]:=Ei (by simpa using Q)
  rw[this,Iw] at z;simp only[Js]
  grind
def spec_IsName.fv(a:ByteArray):Bool:=(Js) a
def spec_IsName.row:AO:=vK (b1 qT) rB (λa=>True) spec_IsName.fv
def spec_IsName.q:=B2 (R:=spec_IsName.row) rfl
def rF:=J @spec_IsName.fv.eq_1<|J @l01Letter.q<|J @l01Letter.fv.eq_1<|J @l01Digit.q @l01Digit.fv.eq_1
def spec_IsName.ok:AS 132 spec_IsName.row:=by
 refine vw (tC l01Letter.ok (tC l01Digit.ok tN)) Tryz.func132 ?_;intro a ad;simp only[Tryz.f132,Option.getD];simp only[ZA,simprocAttr,Al.d,Ab,rF,AQ];refine⟨λh1=>⟨λh2=>⟨by omega,?_⟩,λh2=> ?_⟩,λh1=> ?_⟩
 .intro c hc;have hd:=tY hc;rw[Jc] at hd;cases hL:yP c.toNat
  .simp only[ZZ,simprocAttr,Ab,rF,hL];have h9:Iw 0 a.data.toList=false:=by rw[hd];simp[Iw,Pc,hL]
   simp[Js,h9]
  .simp only[ZZ,simprocAttr,Ab,rF,hL];refine Bc.old ⟨{k:Nat//1<=k/\k<=a.size/\Iw k (a.data.toList.drop k)=Iw 0 a.data.toList},λk=>⟨[(3,.im (.int .i64 k.1)),(0,.im (.str a)),(2,.im (.bool false))],[],0⟩,λk=>a.size - k.1,λk=>⟨by simp[ZG],AW _⟩,⟨⟨1,by omega,by omega,?_⟩,by simp only[ZZ,simprocAttr,Ab,rF,sub]⟩,λk=> ?_⟩
   .conv=>rhs;rw[hd]
    simp[Iw,Pc,hL]
   .obtain⟨k,af,ag,z⟩:=k;simp only[ZA,simprocAttr,Al.d,Ab,rF,sub,AQ];refine⟨λZ=>⟨Z,λc2 Q=> ?_⟩,λZ=> ?_⟩
    .rw[tY Q,Iw] at z;simp only[ZZ,simprocAttr,Ab,rF,sub,AQ];have ac:Pc k c2.toNat=true->Iw (k+1) (a.data.toList.drop (k+1))=Iw 0 a.data.toList:=by
      intro h;rw[h] at z;simpa using z
     have ab:Pc k c2.toNat=false->false=Js a:=by
      intro h;rw[h] at z;have h9:Iw 0 a.data.toList=false:=by rw[<-z];simp
      simp[Js,h9]
     have O:Pc k c2.toNat=true-> ∃b':{k:Nat//1<=k/\k<=a.size/\Iw k (a.data.toList.drop k)=Iw 0 a.data.toList},a.size - b'.val<a.size - k/\IntKind.wrap .i64 ((k:Int)+1)=b'.val:=by
      intro h;refine⟨⟨k+1,by omega,by omega,ac h⟩,by simp only;omega,?_⟩;rw[AF (by omega) (by omega)];simp only;omega
     have aa:k≠0:=by omega
     refine⟨λl=>⟨Z,λc3 G=> ?_⟩,λl=> ?_⟩
     .rw[Q] at G;obtain rfl:=A8 G;refine⟨λl2=>⟨Z,λc3 G=> ?_⟩,λl2=> ?_⟩
      .rw[Q] at G;obtain rfl:=A8 G;refine⟨λl3=>ab ?_,λl3=>O ?_⟩
       .simp[Pc,l,l2,l3]
       .simp only[I3] at l3;simp[Pc,l3,aa]
      .refine O ?_;simp only[Gi] at l2;simp[Pc,l2,aa]
     .refine O ?_;simp only[Gi] at l;simp[Pc,l]
    .rw[Ts Z,Iw] at z;simp only[Js]
     grind
 .simp only[Js];grind
 .simp only[Js];grind
def Qew{A:Type}[DecidableEq A]{a b:List A}(hl:a.length=b.length){k:Nat}(Z:k<=a.length)(h:a.take k=b.take k){x y:A}(Q:a[k]? =some x)(O:b[k]? =some y):
 (x=y->a.take (k+1)=b.take (k+1))/\(x≠y->a≠b):=by
 refine⟨λz=> ?_,λz G=> ?_⟩
 .rw[K6,K6,h,Q,O,z]
 .subst G;rw[Q] at O;exact z (A8 O)
end Go.Ae
