/- Lemmas. Conditions: none. -/
import Derived.Test.YtpgdfagfkjbokaaGreatDoorP06
import Derived.Test.YtpgdfagfkjbokaaGreatDoorProg
set_option linter.all false
set_option maxHeartbeats 8000000
set_option maxRecDepth 100000
namespace Go.Ae
open Go.Proofs
def TY0:
 (tI Tryz.prog 2=some {size:=1,bytes:=8,agg:=false,kind:= .int .i64,zero:=[.int .i64 0]})/\
 (tI Tryz.prog 3=some {size:=1,bytes:=8,agg:=false,kind:= .int .i64,zero:=[.int .i64 0]})/\
 (tI Tryz.prog 4=some {size:=1,bytes:=1,agg:=false,kind:= .bool,zero:=[.bool false]})/\
 (tI Tryz.prog 5=some {size:=1,bytes:=1,agg:=false,kind:= .int .u8,zero:=[.int .u8 0]})/\
 (tI Tryz.prog 9=some {size:=1,bytes:=16,agg:=false,kind:= .str,zero:=[.str ByteArray.empty]})/\
 (tI Tryz.prog 22=some {size:=1,bytes:=24,agg:=false,kind:= .slice 196,zero:=[.sl true 0 []]})/\
 (tI Tryz.prog 23=some {size:=1,bytes:=24,agg:=false,kind:= .slice 199,zero:=[.sl true 0 []]})/\
 (tI Tryz.prog 25=some {size:=2,bytes:=48,agg:=true,kind:= .struct [(0,1),(1,1)],zero:=[.sl true 0 [],.sl true 0 []]})/\
 (tI Tryz.prog 26=some {size:=1,bytes:=24,agg:=false,kind:= .slice 117,zero:=[.sl true 0 []]})/\
 (tI Tryz.prog 28=some {size:=1,bytes:=24,agg:=true,kind:= .struct [(0,1)],zero:=[.sl true 0 []]})/\
 (tI Tryz.prog 30=some {size:=4,bytes:=80,agg:=true,kind:= .struct [(0,2),(2,1),(3,1)],zero:=[.sl true 0 [],.sl true 0 [],.sl true 0 [],.int .i64 0]})/\
 (tI Tryz.prog 31=some {size:=1,bytes:=24,agg:=false,kind:= .slice 2,zero:=[.sl true 0 []]})/\
 (tI Tryz.prog 33=some {size:=10,bytes:=192,agg:=true,kind:= .struct [(0,4),(4,4),(8,1),(9,1)],zero:=[.sl true 0 [],.sl true 0 [],.sl true 0 [],.int .i64 0,.sl true 0 [],.sl true 0 [],.sl true 0 [],.int .i64 0,.int .i64 0,.sl true 0 []]})/\
 (tI Tryz.prog 35=some {size:=2,bytes:=16,agg:=true,kind:= .struct [(0,1),(1,1)],zero:=[.int .i64 0,.int .i64 0]})/\
 (tI Tryz.prog 37=some {size:=3,bytes:=24,agg:=true,kind:= .struct [(0,2),(2,1)],zero:=[.int .i64 0,.int .i64 0,.int .i64 0]})/\
 (tI Tryz.prog 40=some {size:=1,bytes:=24,agg:=false,kind:= .slice 58,zero:=[.sl true 0 []]})/\
 (tI Tryz.prog 43=some {size:=1,bytes:=24,agg:=false,kind:= .slice 211,zero:=[.sl true 0 []]})/\
 (tI Tryz.prog 44=some {size:=1,bytes:=24,agg:=false,kind:= .slice 208,zero:=[.sl true 0 []]})/\
 (tI Tryz.prog 46=some {size:=2,bytes:=48,agg:=true,kind:= .struct [(0,1),(1,1)],zero:=[.sl true 0 [],.sl true 0 []]})/\
 (tI Tryz.prog 47=some {size:=1,bytes:=24,agg:=false,kind:= .slice 115,zero:=[.sl true 0 []]}):=by and_intros<;>kernel_rfl
def TY1:
 (tI Tryz.prog 49=some {size:=1,bytes:=24,agg:=true,kind:= .struct [(0,1)],zero:=[.sl true 0 []]})/\
 (tI Tryz.prog 51=some {size:=4,bytes:=80,agg:=true,kind:= .struct [(0,2),(2,1),(3,1)],zero:=[.sl true 0 [],.sl true 0 [],.sl true 0 [],.int .i64 0]})/\
 (tI Tryz.prog 53=some {size:=10,bytes:=192,agg:=true,kind:= .struct [(0,4),(4,4),(8,1),(9,1)],zero:=[.sl true 0 [],.sl true 0 [],.sl true 0 [],.int .i64 0,.sl true 0 [],.sl true 0 [],.sl true 0 [],.int .i64 0,.int .i64 0,.sl true 0 []]})/\
 (tI Tryz.prog 56=some {size:=2,bytes:=16,agg:=true,kind:= .struct [(0,1),(1,1)],zero:=[.int .i64 0,.int .i64 0]})/\
 (tI Tryz.prog 58=some {size:=3,bytes:=24,agg:=true,kind:= .struct [(0,2),(2,1)],zero:=[.int .i64 0,.int .i64 0,.int .i64 0]})/\
 (tI Tryz.prog 71=some {size:=1,bytes:=8,agg:=false,kind:= .ptr 53,zero:=[.nilp]})/\
 (tI Tryz.prog 72=some {size:=1,bytes:=8,agg:=false,kind:= .ptr 49,zero:=[.nilp]})/\
 (tI Tryz.prog 80=some {size:=1,bytes:=8,agg:=false,kind:= .other,zero:=[.nilf]})/\
 (tI Tryz.prog 83=some {size:=1,bytes:=8,agg:=false,kind:= .ptr 128,zero:=[.nilp]})/\
 (tI Tryz.prog 97=some {size:=1,bytes:=8,agg:=false,kind:= .ptr 46,zero:=[.nilp]})/\
 (tI Tryz.prog 100=some {size:=1,bytes:=8,agg:=false,kind:= .ptr 51,zero:=[.nilp]})/\
 (tI Tryz.prog 104=some {size:=5,bytes:=56,agg:=true,kind:= .struct [(0,1),(1,1),(2,3)],zero:=[.sl true 0 [],.int .i64 0,.int .i64 0,.int .i64 0,.int .i64 0]})/\
 (tI Tryz.prog 105=some {size:=1,bytes:=24,agg:=false,kind:= .slice 104,zero:=[.sl true 0 []]})/\
 (tI Tryz.prog 106=some {size:=1,bytes:=24,agg:=false,kind:= .slice 49,zero:=[.sl true 0 []]})/\
 (tI Tryz.prog 115=some {size:=3,bytes:=24,agg:=true,kind:= .struct [(0,2),(2,1)],zero:=[.int .i64 0,.int .i64 0,.int .i64 0]})/\
 (tI Tryz.prog 117=some {size:=3,bytes:=24,agg:=true,kind:= .struct [(0,2),(2,1)],zero:=[.int .i64 0,.int .i64 0,.int .i64 0]})/\
 (tI Tryz.prog 120=some {size:=1,bytes:=8,agg:=false,kind:= .map 56 2,zero:=[.nilm]})/\
 (tI Tryz.prog 126=some {size:=1,bytes:=8,agg:=false,kind:= .map 56 31,zero:=[.nilm]})/\
 (tI Tryz.prog 128=some {size:=6,bytes:=96,agg:=true,kind:= .struct [(0,4),(4,1),(5,1)],zero:=[.sl true 0 [],.sl true 0 [],.sl true 0 [],.int .i64 0,.nilm,.nilm]})/\
 (tI Tryz.prog 131=some {size:=1,bytes:=8,agg:=false,kind:= .other,zero:=[.nilf]}):=by and_intros<;>kernel_rfl
def TY2:
 (tI Tryz.prog 133=some {size:=1,bytes:=8,agg:=false,kind:= .ptr 135,zero:=[.nilp]})/\
 (tI Tryz.prog 135=some {size:=5,bytes:=56,agg:=true,kind:= .struct [(0,1),(1,1),(2,3)],zero:=[.sl true 0 [],.nilp,.int .i64 0,.int .i64 0,.int .i64 0]})/\
 (tI Tryz.prog 136=some {size:=1,bytes:=24,agg:=false,kind:= .slice 133,zero:=[.sl true 0 []]})/\
 (tI Tryz.prog 138=some {size:=1,bytes:=8,agg:=false,kind:= .map 9 4,zero:=[.nilm]})/\
 (tI Tryz.prog 142=some {size:=1,bytes:=8,agg:=false,kind:= .other,zero:=[.nilf]})/\
 (tI Tryz.prog 156=some {size:=1,bytes:=24,agg:=false,kind:= .slice 56,zero:=[.sl true 0 []]})/\
 (tI Tryz.prog 166=some {size:=1,bytes:=8,agg:=false,kind:= .other,zero:=[.nilf]})/\
 (tI Tryz.prog 169=some {size:=1,bytes:=8,agg:=false,kind:= .other,zero:=[.nilf]})/\
 (tI Tryz.prog 170=some {size:=1,bytes:=8,agg:=false,kind:= .other,zero:=[.nilf]})/\
 (tI Tryz.prog 173=some {size:=1,bytes:=8,agg:=false,kind:= .ptr 176,zero:=[.nilp]})/\
 (tI Tryz.prog 174=some {size:=1,bytes:=24,agg:=false,kind:= .slice 5,zero:=[.sl true 0 []]})/\
 (tI Tryz.prog 176=some {size:=2,bytes:=32,agg:=true,kind:= .struct [(0,1),(1,1)],zero:=[.nilp,.sl true 0 []]})/\
 (tI Tryz.prog 178=some {size:=1,bytes:=16,agg:=false,kind:= .other,zero:=[.nili]})/\
 (tI Tryz.prog 185=some {size:=1,bytes:=8,agg:=false,kind:= .other,zero:=[.nilf]})/\
 (tI Tryz.prog 188=some {size:=1,bytes:=8,agg:=false,kind:= .int .u64,zero:=[.int .u64 0]})/\
 (tI Tryz.prog 196=some {size:=2,bytes:=24,agg:=true,kind:= .struct [(0,1),(1,1)],zero:=[.str ByteArray.empty,.int .i64 0]})/\
 (tI Tryz.prog 199=some {size:=2,bytes:=40,agg:=true,kind:= .struct [(0,1),(1,1)],zero:=[.str ByteArray.empty,.sl true 0 []]})/\
 (tI Tryz.prog 208=some {size:=2,bytes:=40,agg:=true,kind:= .struct [(0,1),(1,1)],zero:=[.str ByteArray.empty,.sl true 0 []]})/\
 (tI Tryz.prog 211=some {size:=2,bytes:=24,agg:=true,kind:= .struct [(0,1),(1,1)],zero:=[.str ByteArray.empty,.int .i64 0]})/\
 (tI Tryz.prog 222=some {size:=8,bytes:=64,agg:=true,kind:= .array 4 56,zero:=[.int .i64 0,.int .i64 0,.int .i64 0,.int .i64 0,.int .i64 0,.int .i64 0,.int .i64 0,.int .i64 0]}):=by and_intros<;>kernel_rfl
def TY3:
 (tI Tryz.prog 232=some {size:=1,bytes:=24,agg:=false,kind:= .slice 259,zero:=[.sl true 0 []]})/\
 (tI Tryz.prog 248=some {size:=1,bytes:=4,agg:=false,kind:= .int .u32,zero:=[.int .u32 0]})/\
 (tI Tryz.prog 250=some {size:=1,bytes:=8,agg:=false,kind:= .int .u64,zero:=[.int .u64 0]})/\
 (tI Tryz.prog 251=some {size:=1,bytes:=24,agg:=false,kind:= .slice 3,zero:=[.sl true 0 []]})/\
 (tI Tryz.prog 259=some {size:=3,bytes:=24,agg:=true,kind:= .struct [(0,1),(1,1),(2,1)],zero:=[.int .i64 0,.int .i64 0,.int .i64 0]})/\
 (tI Tryz.prog 260=some {size:=1,bytes:=24,agg:=false,kind:= .slice 31,zero:=[.sl true 0 []]})/\
 (tI Tryz.prog 263=some {size:=1,bytes:=8,agg:=false,kind:= .ptr 290,zero:=[.nilp]})/\
 (tI Tryz.prog 290=some {size:=4,bytes:=80,agg:=true,kind:= .struct [(0,1),(1,1),(2,1),(3,1)],zero:=[.int .i64 0,.sl true 0 [],.sl true 0 [],.sl true 0 []]})/\
 (tI Tryz.prog 294=some {size:=1,bytes:=8,agg:=false,kind:= .other,zero:=[.nilf]})/\
 (tI Tryz.prog 298=some {size:=2,bytes:=16,agg:=true,kind:= .array 2 2,zero:=[.int .i64 0,.int .i64 0]})/\
 (tI Tryz.prog 299=some {size:=1,bytes:=8,agg:=false,kind:= .ptr 322,zero:=[.nilp]}):=by and_intros<;>kernel_rfl
def TY4:
 (tI Tryz.prog 313=some {size:=1,bytes:=24,agg:=false,kind:= .slice 314,zero:=[.sl true 0 []]})/\
 (tI Tryz.prog 314=some {size:=1,bytes:=8,agg:=false,kind:= .ptr 316,zero:=[.nilp]})/\
 (tI Tryz.prog 316=some {size:=2,bytes:=16,agg:=true,kind:= .struct [(0,1),(1,1)],zero:=[.nilp,.int .i64 0]})/\
 (tI Tryz.prog 318=some {size:=1,bytes:=8,agg:=false,kind:= .map 2 3,zero:=[.nilm]})/\
 (tI Tryz.prog 322=some {size:=2,bytes:=48,agg:=true,kind:= .struct [(0,1),(1,1)],zero:=[.sl true 0 [],.sl true 0 []]})/\
 (tI Tryz.prog 326=some {size:=1,bytes:=8,agg:=false,kind:= .other,zero:=[.nilc]}):=by and_intros<;>kernel_rfl
def KY0:
 (BN Tryz.prog 2=some ⟨false,[.int .i64]⟩)/\
 (BN Tryz.prog 3=some ⟨false,[.int .i64]⟩)/\
 (BN Tryz.prog 4=some ⟨false,[.bool]⟩)/\
 (BN Tryz.prog 5=some ⟨false,[.int .u8]⟩)/\
 (BN Tryz.prog 9=some ⟨false,[.str]⟩)/\
 (BN Tryz.prog 35=some ⟨true,[.int .i64,.int .i64]⟩)/\
 (Tryz.prog.eqGuardType Tryz.prog.depth 35=false)/\
 (BN Tryz.prog 37=some ⟨true,[.int .i64,.int .i64,.int .i64]⟩)/\
 (Tryz.prog.eqGuardType Tryz.prog.depth 37=false)/\
 (BN Tryz.prog 56=some ⟨true,[.int .i64,.int .i64]⟩)/\
 (Tryz.prog.eqGuardType Tryz.prog.depth 56=false)/\
 (BN Tryz.prog 58=some ⟨true,[.int .i64,.int .i64,.int .i64]⟩)/\
 (Tryz.prog.eqGuardType Tryz.prog.depth 58=false)/\
 (BN Tryz.prog 115=some ⟨true,[.int .i64,.int .i64,.int .i64]⟩)/\
 (Tryz.prog.eqGuardType Tryz.prog.depth 115=false)/\
 (BN Tryz.prog 117=some ⟨true,[.int .i64,.int .i64,.int .i64]⟩)/\
 (Tryz.prog.eqGuardType Tryz.prog.depth 117=false)/\
 (BN Tryz.prog 188=some ⟨false,[.int .u64]⟩)/\
 (BN Tryz.prog 196=some ⟨true,[.str,.int .i64]⟩)/\
 (Tryz.prog.eqGuardType Tryz.prog.depth 196=false):=by and_intros<;>kernel_rfl
def KY1:
 (BN Tryz.prog 211=some ⟨true,[.str,.int .i64]⟩)/\
 (Tryz.prog.eqGuardType Tryz.prog.depth 211=false)/\
 (BN Tryz.prog 248=some ⟨false,[.int .u32]⟩)/\
 (BN Tryz.prog 250=some ⟨false,[.int .u64]⟩)/\
 (BN Tryz.prog 259=some ⟨true,[.int .i64,.int .i64,.int .i64]⟩)/\
 (Tryz.prog.eqGuardType Tryz.prog.depth 259=false):=by and_intros<;>kernel_rfl
def CY0:True/\True:=⟨trivial,trivial⟩
def Dd:Tryz.prog.follows .mixedOrders=true:=by kernel_rfl
end Go.Ae
namespace Go.Ae
def kI:PK->Option Int
 | .val (.int .i64 x)=>some x
 |_=>none
def kU:PK->Option Int
 | .val (.int .u64 x)=>some x
 |_=>none
def kY:PK->Option Int
 | .val (.int .u8 x)=>some x
 |_=>none
def kB:PK->Option Bool
 | .val (.bool x)=>some x
 |_=>none
def kT:PK->Option ByteArray
 | .val (.str x)=>some x
 |_=>none
def kR{A:Type}(f:List D->Option A):PK->Option A
 | .val (.agg x)=>f x
 |_=>none
def kP{A:Type}(f:List D->Option A)(n:Nat):PK->Option A
 | .ptr x=>f (x.take n)
 |_=>none
def kS{A:Type}(f:List D->Option A):PK->Option (List A)
 | .val (.sl _ _ x)=>AR f x
 |_=>none
def bB: ∀p a,kI p=some a->C7 p (.val (.int .i64 a)):=by
 intro p a h;unfold kI at h;split at h
 .obtain rfl:=Ay h;exact C7.refl _
 .cases h
def yE: ∀p a,kU p=some a->C7 p (.val (.int .u64 a)):=by
 intro p a h;unfold kU at h;split at h
 .obtain rfl:=Ay h;exact C7.refl _
 .cases h
def yF: ∀p a,kY p=some a->C7 p (.val (.int .u8 a)):=by
 intro p a h;unfold kY at h;split at h
 .obtain rfl:=Ay h;exact C7.refl _
 .cases h
def xX: ∀p a,kB p=some a->C7 p (.val (.bool a)):=by
 intro p a h;unfold kB at h;split at h
 .obtain rfl:=Ay h;exact C7.refl _
 .cases h
def yD: ∀p a,kT p=some a->C7 p (.val (.str a)):=by
 intro p a h;unfold kT at h;split at h
 .obtain rfl:=Ay h;exact C7.refl _
 .cases h
section
variable {A:Type}{f:List D->Option A}{e:A->List D}
def N8(hf: ∀ds x,f ds=some x->CJ ds (e x)): ∀p a,kR f p=some a->C7 p (.val (.agg (e a))):=by
 intro p a h;unfold kR at h;split at h
 .exact sP (hf _ _ h)
 .cases h
def xY(n:Nat)(hf: ∀ds x,f ds=some x->CJ ds (e x)): ∀p a,kP f n p=some a->C7 p (.ptr (e a)):=by
 intro p a h;unfold kP at h;split at h
 .exact GB.trans_take (hf _ _ h)
 .cases h
def yC(k:Nat)(hf: ∀ds x,f ds=some x->CJ ds (e x))(z: ∀x,(e x).length=k): ∀p a,kS f p=some a->C7 p (.val (.sl false k (a.map e))):=by
 intro p a h;unfold kS at h;split at h
 .exact Ed (DQ hf _ _ h) (by simp only[Bo];rintro r ⟨y,_,rfl⟩;exact z y)
 .cases h
end
def a1{z:Type}(O:PK->Option z):List PK->Option (z)
 |[Q]=>(O Q).bind λZ=>some Z
 |_=>none
def xD{O:Type}{Z:PK->Option O}{Q:O->PK}(h0: ∀p a,Z p=some a->C7 p (Q a)): ∀z a,a1 Z z=some a->Ca z [Q (a)]:=by
 intro z a h;unfold a1 at h;split at h
 .simp only[EP,AI] at h;obtain⟨y0,g0,rfl⟩:=h;exact⟨h0 _ _ g0,trivial⟩
 .cases h
def a2{z O:Type}(Q:PK->Option z)(Z:PK->Option O):List PK->Option (z×O)
 |[x0,x1]=>(Q x0).bind λy0=>(Z x1).bind λy1=>some (y0,y1)
 |_=>none
def aU{O:Type}{f0:PK->Option O}{Z:O->PK}{Q:Type}{f1:PK->Option Q}{e1:Q->PK}(h0: ∀p a,f0 p=some a->C7 p (Z a))(h1: ∀p a,f1 p=some a->C7 p (e1 a)): ∀z a,a2 f0 f1 z=some a->Ca z [Z (a.1),e1 (a.2)]:=by
 intro z a h;unfold a2 at h;split at h
 .simp only[EP,AI] at h;obtain⟨y0,g0,y1,g1,rfl⟩:=h;exact⟨h0 _ _ g0,h1 _ _ g1,trivial⟩
 .cases h
def a3{z O Q:Type}(Z:PK->Option z)(f1:PK->Option O)(f2:PK->Option Q):List PK->Option (z×O×Q)
 |[x0,x1,x2]=>(Z x0).bind λy0=>(f1 x1).bind λy1=>(f2 x2).bind λy2=>some (y0,y1,y2)
 |_=>none
def xE{O:Type}{f0:PK->Option O}{e0:O->PK}{Q:Type}{f1:PK->Option Q}{e1:Q->PK}{Z:Type}{f2:PK->Option Z}{e2:Z->PK}(h0: ∀p a,f0 p=some a->C7 p (e0 a))(h1: ∀p a,f1 p=some a->C7 p (e1 a))(h2: ∀p a,f2 p=some a->C7 p (e2 a)): ∀z a,a3 f0 f1 f2 z=some a->Ca z [e0 (a.1),e1 (a.2.1),e2 (a.2.2)]:=by
 intro z a h;unfold a3 at h;split at h
 .simp only[EP,AI] at h;obtain⟨y0,g0,y1,g1,y2,g2,rfl⟩:=h;exact⟨h0 _ _ g0,h1 _ _ g1,h2 _ _ g2,trivial⟩
 .cases h
def a4{z O Q Z:Type}(f0:PK->Option z)(f1:PK->Option O)(f2:PK->Option Q)(f3:PK->Option Z):List PK->Option (z×O×Q×Z)
 |[x0,x1,x2,x3]=>(f0 x0).bind λy0=>(f1 x1).bind λy1=>(f2 x2).bind λy2=>(f3 x3).bind λy3=>some (y0,y1,y2,y3)
 |_=>none
def aV{O:Type}{f0:PK->Option O}{e0:O->PK}{Q:Type}{f1:PK->Option Q}{e1:Q->PK}{Z:Type}{f2:PK->Option Z}{e2:Z->PK}{A3:Type}{f3:PK->Option A3}{e3:A3->PK}(h0: ∀p a,f0 p=some a->C7 p (e0 a))(h1: ∀p a,f1 p=some a->C7 p (e1 a))(h2: ∀p a,f2 p=some a->C7 p (e2 a))(h3: ∀p a,f3 p=some a->C7 p (e3 a)): ∀z a,a4 f0 f1 f2 f3 z=some a->Ca z [e0 (a.1),e1 (a.2.1),e2 (a.2.2.1),e3 (a.2.2.2)]:=by
 intro z a h;unfold a4 at h;split at h
 .simp only[EP,AI] at h;obtain⟨y0,g0,y1,g1,y2,g2,y3,g3,rfl⟩:=h;exact⟨h0 _ _ g0,h1 _ _ g1,h2 _ _ g2,h3 _ _ g3,trivial⟩
 .cases h
def a5{z O Q Z A4:Type}(f0:PK->Option z)(f1:PK->Option O)(f2:PK->Option Q)(f3:PK->Option Z)(f4:PK->Option A4):List PK->Option (z×O×Q×Z×A4)
 |[x0,x1,x2,x3,x4]=>(f0 x0).bind λy0=>(f1 x1).bind λy1=>(f2 x2).bind λy2=>(f3 x3).bind λy3=>(f4 x4).bind λy4=>some (y0,y1,y2,y3,y4)
 |_=>none
def xF{O:Type}{f0:PK->Option O}{e0:O->PK}{Q:Type}{f1:PK->Option Q}{e1:Q->PK}{Z:Type}{f2:PK->Option Z}{e2:Z->PK}{A3:Type}{f3:PK->Option A3}{e3:A3->PK}{A4:Type}{f4:PK->Option A4}{e4:A4->PK}(h0: ∀p a,f0 p=some a->C7 p (e0 a))(h1: ∀p a,f1 p=some a->C7 p (e1 a))(h2: ∀p a,f2 p=some a->C7 p (e2 a))(h3: ∀p a,f3 p=some a->C7 p (e3 a))(h4: ∀p a,f4 p=some a->C7 p (e4 a)): ∀z a,a5 f0 f1 f2 f3 f4 z=some a->Ca z [e0 (a.1),e1 (a.2.1),e2 (a.2.2.1),e3 (a.2.2.2.1),e4 (a.2.2.2.2)]:=by
 intro z a h;unfold a5 at h;split at h
 .simp only[EP,AI] at h;obtain⟨y0,g0,y1,g1,y2,g2,y3,g3,y4,g4,rfl⟩:=h;exact⟨h0 _ _ g0,h1 _ _ g1,h2 _ _ g2,h3 _ _ g3,h4 _ _ g4,trivial⟩
 .cases h
def a6{z O Q Z A4 A5:Type}(f0:PK->Option z)(f1:PK->Option O)(f2:PK->Option Q)(f3:PK->Option Z)(f4:PK->Option A4)(f5:PK->Option A5):List PK->Option (z×O×Q×Z×A4×A5)
 |[x0,x1,x2,x3,x4,x5]=>(f0 x0).bind λy0=>(f1 x1).bind λy1=>(f2 x2).bind λy2=>(f3 x3).bind λy3=>(f4 x4).bind λy4=>(f5 x5).bind λy5=>some (y0,y1,y2,y3,y4,y5)
 |_=>none
def xG{O:Type}{f0:PK->Option O}{e0:O->PK}{Q:Type}{f1:PK->Option Q}{e1:Q->PK}{Z:Type}{f2:PK->Option Z}{e2:Z->PK}{A3:Type}{f3:PK->Option A3}{e3:A3->PK}{A4:Type}{f4:PK->Option A4}{e4:A4->PK}{A5:Type}{f5:PK->Option A5}{e5:A5->PK}(h0: ∀p a,f0 p=some a->C7 p (e0 a))(h1: ∀p a,f1 p=some a->C7 p (e1 a))(h2: ∀p a,f2 p=some a->C7 p (e2 a))(h3: ∀p a,f3 p=some a->C7 p (e3 a))(h4: ∀p a,f4 p=some a->C7 p (e4 a))(h5: ∀p a,f5 p=some a->C7 p (e5 a)): ∀z a,a6 f0 f1 f2 f3 f4 f5 z=some a->Ca z [e0 (a.1),e1 (a.2.1),e2 (a.2.2.1),e3 (a.2.2.2.1),e4 (a.2.2.2.2.1),e5 (a.2.2.2.2.2)]:=by
 intro z a h;unfold a6 at h;split at h
 .simp only[EP,AI] at h;obtain⟨y0,g0,y1,g1,y2,g2,y3,g3,y4,g4,y5,g5,rfl⟩:=h;exact⟨h0 _ _ g0,h1 _ _ g1,h2 _ _ g2,h3 _ _ g3,h4 _ _ g4,h5 _ _ g5,trivial⟩
 .cases h
def a7{z O Q Z A4 A5 A6:Type}(f0:PK->Option z)(f1:PK->Option O)(f2:PK->Option Q)(f3:PK->Option Z)(f4:PK->Option A4)(f5:PK->Option A5)(f6:PK->Option A6):List PK->Option (z×O×Q×Z×A4×A5×A6)
 |[x0,x1,x2,x3,x4,x5,x6]=>(f0 x0).bind λy0=>(f1 x1).bind λy1=>(f2 x2).bind λy2=>(f3 x3).bind λy3=>(f4 x4).bind λy4=>(f5 x5).bind λy5=>(f6 x6).bind λy6=>some (y0,y1,y2,y3,y4,y5,y6)
 |_=>none
def xH{O:Type}{f0:PK->Option O}{e0:O->PK}{Q:Type}{f1:PK->Option Q}{e1:Q->PK}{Z:Type}{f2:PK->Option Z}{e2:Z->PK}{A3:Type}{f3:PK->Option A3}{e3:A3->PK}{A4:Type}{f4:PK->Option A4}{e4:A4->PK}{A5:Type}{f5:PK->Option A5}{e5:A5->PK}{A6:Type}{f6:PK->Option A6}{e6:A6->PK}(h0: ∀p a,f0 p=some a->C7 p (e0 a))(h1: ∀p a,f1 p=some a->C7 p (e1 a))(h2: ∀p a,f2 p=some a->C7 p (e2 a))(h3: ∀p a,f3 p=some a->C7 p (e3 a))(h4: ∀p a,f4 p=some a->C7 p (e4 a))(h5: ∀p a,f5 p=some a->C7 p (e5 a))(h6: ∀p a,f6 p=some a->C7 p (e6 a)): ∀z a,a7 f0 f1 f2 f3 f4 f5 f6 z=some a->Ca z [e0 (a.1),e1 (a.2.1),e2 (a.2.2.1),e3 (a.2.2.2.1),e4 (a.2.2.2.2.1),e5 (a.2.2.2.2.2.1),e6 (a.2.2.2.2.2.2)]:=by
 intro z a h;unfold a7 at h;split at h
 .simp only[EP,AI] at h;obtain⟨y0,g0,y1,g1,y2,g2,y3,g3,y4,g4,y5,g5,y6,g6,rfl⟩:=h;exact⟨h0 _ _ g0,h1 _ _ g1,h2 _ _ g2,h3 _ _ g3,h4 _ _ g4,h5 _ _ g5,h6 _ _ g6,trivial⟩
 .cases h
def J8{A B E F:Type}(f:D->Option A)(g:D->Option B)(k:D->Option E)(m:D->Option F):D->Option (A×B×E×F)
 | .tup [x,y,z,w]=>(f x).bind λa=>(g y).bind λb=>(k z).bind λc=>(m w).bind λd=>some (a,b,c,d)
 |_=>none
def Vi{A B E F:Type}{f:D->Option A}{g:D->Option B}{k:D->Option E}{m:D->Option F}{e:A->D}{e':B->D}{e'':E->D}{z:F->D}(hf: ∀d x,f d=some x->Le d (e x))(hg: ∀d x,g d=some x->Le d (e' x))(hk: ∀d x,k d=some x->Le d (e'' x))(hm: ∀d x,m d=some x->Le d (z x)):
 ∀d (x:A×B×E×F),J8 f g k m d=some x->Le d (.tup [e x.1,e' x.2.1,e'' x.2.2.1,z x.2.2.2]):=by
 intro d x h;unfold J8 at h;split at h
 .simp only[EP,AI] at h;obtain⟨a,O,b,Q,c,Z,w,h4,rfl⟩:=h;exact KC ⟨hf _ _ O,hg _ _ Q,hk _ _ Z,hm _ _ h4,trivial⟩
 .cases h
def Ag.c_n(x:Ag):(Ag.c x).length=3:=rfl
def Am.c_n(x:Am):(Am.c x).length=2:=rfl
def A9.c_n(x:A9):(A9.c x).length=3:=rfl
def Aj.c_n(x:Aj):(Aj.c x).length=3:=rfl
def Ac.c_n(x:Ac):(Ac.c x).length=2:=rfl
def Tile.c_n(x:Tile):(Tile.c x).length=2:=rfl
def EN(x:Int):(Al x).length=1:=rfl
def MU(x:List Int):(CX x).length=1:=rfl
structure QK(A:Type) where
 d:PK->Option A
 e:A->PK
 l: ∀p a,d p=some a->C7 p (e a)
def qI:QK Int:=⟨kI,λa=> .val (.int .i64 a),bB⟩
def qU:QK Int:=⟨kU,λa=> .val (.int .u64 a),yE⟩
def qY:QK Int:=⟨kY,λa=> .val (.int .u8 a),yF⟩
def qB:QK Bool:=⟨kB,λa=> .val (.bool a),xX⟩
def qT:QK ByteArray:=⟨kT,λa=> .val (.str a),yD⟩
section
variable {A:Type}{f:List D->Option A}{e:A->List D}
def qR(h: ∀ds x,f ds=some x->CJ ds (e x)):QK A:=⟨kR f,λa=> .val (.agg (e a)),N8 h⟩
def qP(n:Nat)(h: ∀ds x,f ds=some x->CJ ds (e x)):QK A:=⟨kP f n,λa=> .ptr (e a),xY n h⟩
def qS{k:Nat}(h: ∀ds x,f ds=some x->CJ ds (e x))(z: ∀x,(e x).length=k):QK (List A):=⟨kS f,λa=> .val (.sl false k (a.map e)),yC k h z⟩
end
structure AK(A:Type) where
 r:List PK->Option A
 e:A->List PK
 l: ∀ps a,r ps=some a->Ca ps (e a)
 n:Nat
 w: ∀a,(e a).length=n
def b1{z:Type}(p0:QK z):AK (z):=⟨a1 p0.d,λa=>[p0.e (a)],xD p0.l,1,λ_=>rfl⟩
def b2{z O:Type}(p0:QK z)(p1:QK O):AK (z×O):=⟨a2 p0.d p1.d,λa=>[p0.e (a.1),p1.e (a.2)],aU p0.l p1.l,2,λ_=>rfl⟩
def b3{O Q Z:Type}(p0:QK O)(p1:QK Q)(z:QK Z):AK (O×Q×Z):=⟨a3 p0.d p1.d z.d,λa=>[p0.e (a.1),p1.e (a.2.1),z.e (a.2.2)],xE p0.l p1.l z.l,3,λ_=>rfl⟩
def b4{Q Z A2 A3:Type}(p0:QK Q)(p1:QK Z)(z:QK A2)(O:QK A3):AK (Q×Z×A2×A3):=⟨a4 p0.d p1.d z.d O.d,λa=>[p0.e (a.1),p1.e (a.2.1),z.e (a.2.2.1),O.e (a.2.2.2)],aV p0.l p1.l z.l O.l,4,λ_=>rfl⟩
def b5{Z A1 A2 A3 A4:Type}(p0:QK Z)(p1:QK A1)(z:QK A2)(O:QK A3)(Q:QK A4):AK (Z×A1×A2×A3×A4):=⟨a5 p0.d p1.d z.d O.d Q.d,λa=>[p0.e (a.1),p1.e (a.2.1),z.e (a.2.2.1),O.e (a.2.2.2.1),Q.e (a.2.2.2.2)],xF p0.l p1.l z.l O.l Q.l,5,λ_=>rfl⟩
def b6{A0 A1 A2 A3 A4 A5:Type}(p0:QK A0)(p1:QK A1)(z:QK A2)(O:QK A3)(Q:QK A4)(Z:QK A5):AK (A0×A1×A2×A3×A4×A5):=⟨a6 p0.d p1.d z.d O.d Q.d Z.d,λa=>[p0.e (a.1),p1.e (a.2.1),z.e (a.2.2.1),O.e (a.2.2.2.1),Q.e (a.2.2.2.2.1),Z.e (a.2.2.2.2.2)],xG p0.l p1.l z.l O.l Q.l Z.l,6,λ_=>rfl⟩
def b7{A0 A1 A2 A3 A4 A5 A6:Type}(p0:QK A0)(p1:QK A1)(z:QK A2)(O:QK A3)(Q:QK A4)(Z:QK A5)(p6:QK A6):AK (A0×A1×A2×A3×A4×A5×A6):=⟨a7 p0.d p1.d z.d O.d Q.d Z.d p6.d,λa=>[p0.e (a.1),p1.e (a.2.1),z.e (a.2.2.1),O.e (a.2.2.2.1),Q.e (a.2.2.2.2.1),Z.e (a.2.2.2.2.2.1),p6.e (a.2.2.2.2.2.2)],xH p0.l p1.l z.l O.l Q.l Z.l p6.l,7,λ_=>rfl⟩
structure RK(B:Type) where
 c:D->Option B
 e:B->D
 l: ∀d b,c d=some b->Le d (e b)
def rI:RK Int:=⟨Ez,D.int .i64,Vu⟩
def rB:RK Bool:=⟨Vv,D.bool,lE⟩
def rT:RK ByteArray:=⟨Vg,D.str,Zq⟩
section
variable {A:Type}{f:List D->Option A}{e:A->List D}
def rA(h: ∀ds x,f ds=some x->CJ ds (e x)):RK A:=⟨EH f,λb=>D.agg (e b),Nv h⟩
def rS{k:Nat}(h: ∀ds x,f ds=some x->CJ ds (e x))(z: ∀x,(e x).length=k):RK (List A):=⟨Q6 f,λb=>D.sl false k (b.map e),sS h z⟩
end
def r2{A B:Type}(p:RK A)(q:RK B):RK (A×B):=⟨lO p.c q.c,λb=>D.tup [p.e b.1,q.e b.2],Qbz p.l q.l⟩
def r3{A B C:Type}(p:RK A)(q:RK B)(r:RK C):RK (A×B×C):=⟨J7 p.c q.c r.c,λb=>D.tup [p.e b.1,q.e b.2.1,r.e b.2.2],Vh p.l q.l r.l⟩
def r4{A B C E:Type}(p:RK A)(q:RK B)(r:RK C)(s:RK E):RK (A×B×C×E):=⟨J8 p.c q.c r.c s.c,λb=>D.tup [p.e b.1,q.e b.2.1,r.e b.2.2.1,s.e b.2.2.2],Vi p.l q.l r.l s.l⟩
def tN{P:Program}:JE P (Q4 []):=QC [] (by simp)
def tC{P:Program}{g:Nat}{r:A7}{l:List (Nat×A7)}(h:H8 P g r)(Q:JE P (Q4 l)):JE P (Q4 ((g,r)::l)):=by
 intro g' args h' nx K z;simp only[Q4] at z;split at z
 .rename_i O;subst O;exact h _ _ _ _ z
 .exact Q _ _ _ _ _ z
def ZA0:=J @VC0<|J @VC1<|J @VC2<|J @VC3<|J @VC4<|J @VC5<|J @VC6<|J @VC7<|J @VC8<|J @VC9<|J @VC10<|J @VC11<|J @VC12<|J @VC13<|J @VC14<|J @VC15<|J @VC16<|J @VC17<|J @VC18<|J @VC19<|J @VC20<|J @VC21<|J @VC22<|@VC23
def ZA1:=J @VC24<|J @VC25<|J @VC26<|J @VC27<|J @VC28<|J @VC29<|J @VC30<|J @VC31<|J @VC32<|J @VC33<|J @VC34<|J @VC35<|J @VC36<|J @VC37<|J @VC38<|J @VC39<|J @VC40<|J @VC41<|J @VC42<|J @VC43<|J @ZdE.{0}<|J @Rl<|J @Bool.not_eq_false'<|@AV.im.injEq
def ZA2:=J @D.int.injEq<|J @D.bool.injEq<|J @D.str.injEq<|J @D.sl.injEq<|J @D.agg.injEq<|J @AV.own.injEq<|J @AV.ptr.injEq<|J @En.{0,0}<|J @Ab.cells.injEq<|J @Ab.arr.injEq<|J @VG.{0}<|J @Int.cast_ofNat_Int<|J @Int.ofNat_lt<|J @Int.ofNat_le<|J @Int.natCast_nonneg<|J @gR<|J @IT<|J @AN<|J @Iq<|J @Xy<|J @Xx<|J @Zfu<|J @Zfl<|@Bq
def ZA3:=J @Iu<|J @Hb<|J @Bf.{0,0}<|J @F9.{0,0}<|J @Lu.{0}<|J @F8.{0}<|J @Qp.{0}<|J @Xo.{0}<|J @Zfx.{0}<|J @Zfy.{0}<|J @BX.{1}<|J @Bm.{1}<|J @G6.{0}<|J @Ir.{0}<|J @ne_eq.{1}<|J @Fq.{0}<|J @CO.{0}<|J @D2.{0}<|J @Cv.{0}<|J @FA.{0}<|J @gZ<|J @Xp<|J @gT<|@wF
def ZA4:=J @or_true<|J @true_or<|J @CC<|J @FP<|J @Lx<|J @VJ<|J @false_or<|J @gG.{0}<|J @gS.{0}<|J @Qo<|J @wW<|J @nR<|J @xA<|J @nN<|J @Xn<|J @wZ<|J @xB<|J @G7.{0,0}<|J @Fo<|J @Eg<|J @Gf<|J @nL<|J @Rk.{0}<|@Option.isSome_some.{0}
def ZA5:=J @Bool.false_bne<|J @Bool.true_bne<|J @Bool.not_not<|J @AL<|J @B8<|J @eq_self.{1}<|J @aP.{0}<|J @Bool.true_eq_false<|J @CE<|J @TY0<|J @TY1<|J @TY2<|J @TY3<|J @TY4<|J @KY0<|J @KY1<|J @CY0<|J @isG.eq_1<|J @qI.eq_1<|J @qU.eq_1<|J @qY.eq_1<|J @qB.eq_1<|J @qT.eq_1<|@qR.eq_1
def ZA6:=J @qP.eq_1<|J @qS.eq_1<|J @b1.eq_1<|J @b2.eq_1<|J @b3.eq_1<|J @b4.eq_1<|J @b5.eq_1<|J @b6.eq_1<|J @b7.eq_1<|J @rI.eq_1<|J @rB.eq_1<|J @rT.eq_1<|J @rA.eq_1<|J @rS.eq_1<|J @r2.eq_1<|J @r3.eq_1<|J @r4.eq_1<|J @J8.eq_1<|J @J8.eq_2<|J @kI.eq_1<|J @kI.eq_2<|J @kU.eq_1<|J @kU.eq_2<|@kY.eq_1
def ZA7:=J @kY.eq_2<|J @kB.eq_1<|J @kB.eq_2<|J @kT.eq_1<|J @kT.eq_2<|J @kR.eq_1<|J @kR.eq_2<|J @kP.eq_1<|J @kP.eq_2<|J @kS.eq_1<|J @kS.eq_2<|J @a1.eq_1<|J @a1.eq_2<|J @a2.eq_1<|J @a2.eq_2<|J @a3.eq_1<|J @a3.eq_2<|J @a4.eq_1<|J @a4.eq_2<|J @a5.eq_1<|J @a5.eq_2<|J @a6.eq_1<|J @a6.eq_2<|@a7.eq_1
def ZA8:=J @a7.eq_2<|J @AR.eq_1<|J @AR.eq_2<|J @Oa<|J @Da.eq_1<|J @Da.eq_2<|J @Zd.eq_1<|J @Zd.eq_2<|J @Al.eq_1<|J @kM.eq_1<|J @fN<|J @kN<|J @Ez.eq_1<|J @Ez.eq_2<|J @Vg.eq_1<|J @Vg.eq_2<|J @Vv.eq_1<|J @Vv.eq_2<|J @Q6.eq_1<|J @Q6.eq_2<|J @EH.eq_1<|J @EH.eq_2<|J @lO.eq_1<|@lO.eq_2
def ZA9:=J @J7.eq_1<|J @J7.eq_2<|J @Ac.c.eq_1<|J @Ac.d.eq_1<|J @Ac.d.eq_2<|J @Aj.c.eq_1<|J @Aj.d.eq_1<|J @Aj.d.eq_2<|J @Aj.d_R<|J @Ad.c.eq_1<|J @Am.c.eq_1<|J @Am.d.eq_1<|J @Am.d.eq_2<|J @Am.d_R<|J @Tile.c.eq_1<|J @Tile.d.eq_1<|J @Tile.d.eq_2<|J @Tile.d_R<|J @Az.c.eq_1<|J @Az.d.eq_1<|J @Az.d.eq_2<|J @AM.c.eq_1<|J @AM.d.eq_1<|@AM.d.eq_2
def ZA10:=J @A9.c.eq_1<|J @A9.d.eq_1<|J @A9.d.eq_2<|J @A9.d_R<|J @AE.c.eq_1<|J @AE.d.eq_1<|J @AE.d.eq_2<|J @Ag.c.eq_1<|J @Ag.d.eq_1<|J @Ag.d.eq_2<|J @Ag.d_R<|J @D3.{0,0}<|J @AI.{0}<|J @Fc.{0,0}<|J @Ac.d_R<|J @Ac.eta<|J @Aj.eta<|J @Ad.eta<|J @Am.eta<|J @Tile.eta<|J @Az.eta<|J @AM.eta<|J @A9.eta<|@AE.eta
def ZA11:=J @Ag.eta<|J @Dz.c.eq_1<|J @Dz.d.eq_1<|J @Dz.d.eq_2<|J @Dz.eta<|J @Qmt<|J @Qk8<|J @Qqj<|J @TU<|J @Pf<|J @Ju.eq_1<|J @Ju.eq_2<|J @Ju.eq_3<|J @F3.{0,0}<|@nQ.{0,0}
def ZA:=J @ZA0<|J @ZA1<|J @ZA2<|J @ZA3<|J @ZA4<|J @ZA5<|J @ZA6<|J @ZA7<|J @ZA8<|J @ZA9<|J @ZA10<|@ZA11
def ZT0:=J @cB.eq_1<|J @CX.eq_1<|J @VB.eq_1<|J @VB.eq_2<|J @MV<|J @Bb.c.eq_1<|J @Bb.d.eq_1<|J @Bb.d.eq_2<|J @Bb.eta<|J @Bd.c.eq_1<|J @Bd.d.eq_1<|J @Bd.d.eq_2<|@Bd.eta
def ZT:=J @ZT0 (@Hb)
def ZG:=J @Av.good.eq_1<|J @CF.eq_1<|J @CF.eq_2<|J @Aw.eq_1<|J @Aw.eq_2<|J @Aw.eq_3<|J @Aw.eq_4<|J @Aw.eq_5<|J @Aw.eq_6<|J @Aw.eq_7<|J @Aw.eq_8<|J @B9.eq_1<|J @B9.eq_2<|J @AV.bel.eq_1<|J @AV.bel.eq_2<|J @AV.bel.eq_3<|J @AV.bel.eq_4<|J @AV.bel.eq_5<|J @AV.bel.eq_6<|J @AV.bel.eq_7<|J @AV.bel.eq_8<|J @AV.bel.eq_9<|J @AV.bel.eq_10<|J @AV.bel.eq_11<|J @AV.bel.eq_12<|J @AF.eq_1 @AF.eq_2
def HW:=J @QA<|J @NK<|J @NI<|J @zO @Q9
def Ec:=J HW (J @Ef.{0} @Ht.{0})
def Adq(b:Bool)(k:Nat)(x:List (List D)):Ad.d [.sl b k x]=(AR Aj.d x).bind λy=>some ⟨y⟩:=rfl
def ZZ:=J ZA (J ZT @Adq)
def vq{A:Type}{ar:List PK->Option A}{pre:A->Prop}{re:A->D}(r:A7)(e:r=DO ar pre re)(a:List AV)(h:Nat->Option Ao)(n:Nat)(K:Ah):r a h n K=Vt ar pre re (AA a) K (Hv h a):=by rw[e];rfl
def vqF{A:Type}{ar:List PK->Option A}{pre:A->Prop}{re:A->D}(r:A7)(e:r=NT ar pre re)(a:List AV)(h:Nat->Option Ao)(n:Nat)(K:Ah):r a h n K=Vy ar pre re (EE h a) K (Cf h a):=by rw[e];rfl
end Go.Ae
namespace Go.Ae
open Go.Proofs
def vK{A B:Type}(k:AK A)(r:RK B)(pre:A->Prop)(f:A->B):A7:=DO k.r pre λa=>r.e (f a)
def Dy{A B:Type}(k:AK A)(r:RK B)(pre:A->Prop)(f:A->B):A7:=NT k.r pre λa=>r.e (f a)
section
variable {A B:Type}{R:A7}{k:AK A}{r:RK B}{pre:A->Prop}{f:A->B}
def AY(e:R=vK k r pre f)(a:List AV)(h:Nat->Option Ao)(n:Nat)(K:Ah):R a h n K=Vt k.r pre (λa=>r.e (f a)) (AA a) K (Hv h a):=by rw[e];rfl
def CP(e:R=Dy k r pre f)(a:List AV)(h:Nat->Option Ao)(n:Nat)(K:Ah):R a h n K=Vy k.r pre (λa=>r.e (f a)) (EE h a) K (Cf h a):=by rw[e];rfl
variable {V:Dt}(hV:JE Tryz.prog V){g:FuncId}{fn:Func}{c:Code}(hf:Tryz.prog.funcs[g]? =some fn)
include hV hf
def vw(Q: ∀a,pre a->Dh Tryz.prog V c (Pj Tryz.prog fn.results.toList (BK (k.e a)) [] K7 (CQ 0 (k.e a)) (M5 r.c (f a))) ⟨entry 0 (CR 0 (k.e a)),CQ 0 (k.e a),BK (k.e a)⟩)(O:fn.body=some c:=by rfl)(z:(Eh fn.ntmps c && (He Tryz.prog g && Nat.ble k.n fn.ntmps))=true:=by kernel_rfl):H8 Tryz.prog g (vK k r pre f):=by
 simp only[AN] at z;exact Zz Dd hV hf O z.1 z.2.1 k.l k.w (nG z.2.2) r.l Q
def Gz(Q: ∀a,pre a->Dh Tryz.prog V c (aK Tryz.prog fn.results.toList (BC r.c (f a))) ⟨entry 0 (CR 0 (k.e a)),CQ 0 (k.e a),BK (k.e a)⟩)(O:fn.body=some c:=by rfl)(z:(Eh fn.ntmps c && (He Tryz.prog g && Nat.ble k.n fn.ntmps))=true:=by kernel_rfl):H8 Tryz.prog g (Dy k r pre f):=by
 simp only[AN] at z;exact Qbn Dd hV hf O z.1 z.2.1 k.l k.w (nG z.2.2) r.l Q
end
section
variable {V:Dt}(hV:JE Tryz.prog V){g:FuncId}{fn:Func}{c:Code}(hf:Tryz.prog.funcs[g]? =some fn)
 {A:Type}{ca:A->List AV}{H0 H1:A->Ap}{k cnt:Nat}{pre:A->Prop}{klB exB:Nat->Bool}{r0:A->AV}{R:A->AV->Prop}
 (hn: ∀a,Nat.ble (ca a).length fn.ntmps=true)(hq: ∀a,AF k (ca a)=true/\Aw k (H0 a)=true/\B9 k (H0 a)=true/\BS (H0 a) (H0 a))
 (hH1: ∀a,∀p∈H1 a,(p.1<k/\klB p.1=true/\Ak (H0 a) p.1=true)\/(k<=p.1/\p.1<k+cnt/\exB p.1=true/\p.2.1=true))
 (hR: ∀a r,R a r->CU r (r0 a))
include hV hf hn hq hH1 hR
def ow(hk: ∀a,pre a->Dh Tryz.prog V c (NC Tryz.prog fn.results.toList k cnt (H0 a) (H1 a) klB exB (R a)) ⟨entry 0 (ca a),H0 a,k⟩)(hb:fn.body=some c:=by rfl)(Z:(Eh fn.ntmps c && He Tryz.prog g)=true:=by kernel_rfl):H8 Tryz.prog g (AB ca H0 k pre klB r0 H1 cnt):=by
 simp only[AN] at Z;rintro args h nx K ⟨a,τ,U,KL,Q,rfl,z,O,hK⟩;refine⟨Lp Z.2,_,_,?_,hK⟩;exact yT Dd hV hf hb Z.1 (nG (hn a)) (hq a).1 (hq a).2.1 (hq a).2.2.1 (λj e he=>Qo2 (hq a).2.2.2 j e (ZL he)) (hR a) (hH1 a) Ud (λ_ _ h=>h) (hk a Q) O.inj O.lt
  (λj e he=>mO z j e (ZL he)) O.u O.k1 O.k2
def VO(hk: ∀a,pre a->Dh Tryz.prog V c (FK Tryz.prog fn.results.toList k cnt (H0 a) (H1 a) klB exB (R a)) ⟨entry 0 (ca a),H0 a,k⟩)(hb:fn.body=some c:=by rfl)(Z:(Eh fn.ntmps c && He Tryz.prog g)=true:=by kernel_rfl):H8 Tryz.prog g (AB ca H0 k pre klB r0 H1 cnt):=by
 simp only[AN] at Z;rintro args h nx K ⟨a,τ,U,KL,Q,rfl,z,O,hK⟩;refine⟨Lp Z.2,_,_,?_,hK⟩;exact yT Dd hV hf hb Z.1 (nG (hn a)) (hq a).1 (hq a).2.1 (hq a).2.2.1 (λj e he=>Qo2 (hq a).2.2.2 j e (ZL he)) (hR a) (hH1 a) Ue (λ_ _ h=>h) (hk a Q) O.inj O.lt
  (λj e he=>mO z j e (ZL he)) O.u O.k1 O.k2
end
abbrev AC:=H8 Tryz.prog
def AX(n lo z:Int):Bool:=decide (lo<=n) && decide (n<=z)
def within_.fv(a:Int×Int×Int):Bool:=(AX) (a.1) (a.2.1) (a.2.2)
def within_.row:A7:=vK (b3 qI qI qI) rB (λa=>True) within_.fv
def within_.q:=AY (R:=within_.row) rfl
def within_.ok:AC 59 within_.row:=by
 refine vw tN Tryz.func59 ?_;intro a z;simp only[Tryz.f59];simp only[ZA,simprocAttr,within_.fv];simp only[AX];grind
def l00In.fv(a:Int×Int×Int):Bool:=(AX) (a.1) (a.2.1) (a.2.2)
def l00In.row:A7:=vK (b3 qI qI qI) rB (λa=>True) l00In.fv
def l00In.q:=AY (R:=l00In.row) rfl
def l00In.ok:AC 22 l00In.row:=by
 refine vw tN Tryz.func22 ?_;intro a z;simp only[Tryz.f22];simp only[ZA,simprocAttr,l00In.fv];simp only[AX];grind
def I64(n:Int):Prop:= -9223372036854775808<=n/\n<=9223372036854775807
def isIndex.fv(a:Int×Int):Bool:=AX a.1 0 (a.2 - 1)
def isIndex.row:A7:=vK (b2 qI qI) rB (λa=>0<=a.2/\I64 a.2) isIndex.fv
def isIndex.q:=AY (R:=isIndex.row) rfl
def isIndex.ok:AC 62 isIndex.row:=by
 refine vw (tC within_.ok tN) Tryz.func62 ?_;intro a z;simp only[Tryz.f62];simp only[ZA,simprocAttr,isIndex.fv,within_.q,within_.fv];obtain⟨O,Q,Z⟩:=z;rw[AD (by omega) (by omega)]
def DA(p:Ac):Bool:=AX p.X (-60) 60 && AX p.Y (-60) 60
def ValidPoint.fv(a:Ac):Bool:=(DA) a
def ValidPoint.row:A7:=vK (b1 (qR Ac.d_le)) rB (λa=>True) ValidPoint.fv
def ValidPoint.q:=AY (R:=ValidPoint.row) rfl
def ValidPoint.ok:AC 64 ValidPoint.row:=by
 refine vw (tC within_.ok tN) Tryz.func64 ?_;intro a z;simp only[Tryz.f64];simp only[ZA,simprocAttr,ValidPoint.fv,within_.q,within_.fv];simp only[DA];grind
def l01Point.fv(a:Ac):Bool:=(DA) a
def l01Point.row:A7:=vK (b1 (qR Ac.d_le)) rB (λa=>True) l01Point.fv
def l01Point.q:=AY (R:=l01Point.row) rfl
def l01Point.ok:AC 86 l01Point.row:=by
 refine vw (tC l00In.ok tN) Tryz.func86 ?_;intro a z;simp only[Tryz.f86];simp only[ZA,simprocAttr,l01Point.fv,l00In.q,l00In.fv];simp only[DA];grind
def isNaN.fv(a:Int):Bool:=false && a==0
def isNaN.row:A7:=vK (b1 qI) rB (λa=>True) isNaN.fv
def isNaN.q:=AY (R:=isNaN.row) rfl
def isNaN.ok:AC 177 isNaN.row:=by
 refine vw tN Tryz.func177 ?_;intro a z;simp only[Tryz.f177];simp only[ZA,simprocAttr,isNaN.fv]
 try simp
def Fs(a b:Int):Int:=if a<b then -1 else if b<a then 1 else 0
def Compare.fv(a:Int×Int):Int:=(Fs) (a.1) (a.2)
def Compare.row:A7:=vK (b2 qI qI) rI (λa=>True) Compare.fv
def Compare.q:=AY (R:=Compare.row) rfl
def Compare.ok:AC 145 Compare.row:=by
 refine vw (tC isNaN.ok tN) Tryz.func145 ?_;intro a z;simp only[Tryz.f145];simp only[ZA,simprocAttr,Compare.fv,isNaN.q,isNaN.fv];simp only[Fs];grind
def Bl(a b:Ac):Bool:=decide (a.Y<b.Y)||(decide (a.Y=b.Y) && decide (a.X<b.X))
def l_LessPoint.fv(a:Ac×Ac):Bool:=(Bl) (a.1) (a.2)
def l_LessPoint.row:A7:=vK (b2 (qR Ac.d_le) (qR Ac.d_le)) rB (λa=>True) l_LessPoint.fv
def l_LessPoint.q:=AY (R:=l_LessPoint.row) rfl
def l_LessPoint.ok:AC 89 l_LessPoint.row:=by
 refine vw tN Tryz.func89 ?_;intro a z;simp only[Tryz.f89];simp only[ZA,simprocAttr,l_LessPoint.fv];simp only[Bl]
 grind
def EW(a b:Int):Int:=if a<b then a else b
def Ew(a b:Int):Int:=if b<a then a else b
def l00Min.fv(a:Int×Int):Int:=(EW) (a.1) (a.2)
def l00Min.row:A7:=vK (b2 qI qI) rI (λa=>True) l00Min.fv
def l00Min.q:=AY (R:=l00Min.row) rfl
def l00Min.ok:AC 186 l00Min.row:=by
 refine vw tN Tryz.func186 ?_;intro a z;simp only[Tryz.f186];simp only[ZA,simprocAttr,l00Min.fv];simp only[EW];grind
def l00Max.fv(a:Int×Int):Int:=(Ew) (a.1) (a.2)
def l00Max.row:A7:=vK (b2 qI qI) rI (λa=>True) l00Max.fv
def l00Max.q:=AY (R:=l00Max.row) rfl
def l00Max.ok:AC 187 l00Max.row:=by
 refine vw tN Tryz.func187 ?_;intro a z;simp only[Tryz.f187];simp only[ZA,simprocAttr,l00Max.fv];simp only[Ew];grind
def uJ(c:Int):Bool:=AX c 97 122||AX c 65 90
def Qtq(c:Int):Bool:=AX c 48 57
def l01Letter.fv(a:Int):Bool:=(uJ) a
def l01Letter.row:A7:=vK (b1 qY) rB (λa=>True) l01Letter.fv
def l01Letter.q:=AY (R:=l01Letter.row) rfl
def l01Letter.ok:AC 183 l01Letter.row:=by
 refine vw tN Tryz.func183 ?_;intro a z;simp only[Tryz.f183];simp only[ZA,simprocAttr,l01Letter.fv];simp only[uJ,AX];grind
def l01Digit.fv(a:Int):Bool:=(Qtq) a
def l01Digit.row:A7:=vK (b1 qY) rB (λa=>True) l01Digit.fv
def l01Digit.q:=AY (R:=l01Digit.row) rfl
def l01Digit.ok:AC 184 l01Digit.row:=by
 refine vw tN Tryz.func184 ?_;intro a z;simp only[Tryz.f184];simp only[ZA,simprocAttr,l01Digit.fv];simp only[Qtq,AX];grind
def xJ(a b:Ac):Ac:=⟨a.X+b.X,a.Y+b.Y⟩
def HE(p:Ac):Prop:= -1000000000<=p.X/\p.X<=1000000000/\ -1000000000<=p.Y/\p.Y<=1000000000
def plus.fv(a:Ac×Ac):Ac:=(xJ) (a.1) (a.2)
def plus.row:A7:=vK (b2 (qR Ac.d_le) (qR Ac.d_le)) (rA Ac.d_le) (λa=>HE a.1/\HE a.2) plus.fv
def plus.q:=AY (R:=plus.row) rfl
def plus.ok:AC 146 plus.row:=by
 refine vw tN Tryz.func146 ?_;intro a z;simp only[Tryz.f146];simp only[ZA,simprocAttr,plus.fv];obtain⟨⟨O,Q,Z,h4⟩,h5,h6,h7,h8⟩:=z;rw[AD (by omega) (by omega),AD (by omega) (by omega)];rfl
def Cz(p:Ac)(d:Int):Ac:=if d=0 then ⟨p.X,p.Y+1⟩ else if d=1 then ⟨p.X+1,p.Y⟩ else if d=2 then ⟨p.X,p.Y - 1⟩ else ⟨p.X - 1,p.Y⟩
def step_.rc:D->Option (Ac):=EH Ac.d
def step_.re:Ac->D:=λb=>D.agg (Ac.c b)
def step_.rle: ∀d b,step_.rc d=some b->Le d (step_.re b):=Nv Ac.d_le
def step_.fv(a:Ac×Int):Ac:=(Cz) (a.1) (a.2)
def step_.row:A7:=vK (b2 (qR Ac.d_le) qI) (RK.mk step_.rc step_.re step_.rle) (λa=>HE a.1/\0<=a.2/\a.2<=3) step_.fv
def step_.q:=AY (R:=step_.row) rfl
def step_.ok:AC 107 step_.row:=by
 refine vw (tC plus.ok tN) Tryz.func107 ?_;intro a z;simp only[Tryz.f107];obtain⟨p,d⟩:=a;obtain⟨hp,O,Q⟩:=z;simp only at O Q hp;rcases (by omega:d=0\/d=1\/d=2\/d=3) with rfl|rfl|rfl|rfl
 all_goals
  simp only[ZA,simprocAttr,step_.fv,step_.rc,plus.q,plus.fv];obtain⟨Z,h4,h5,h6⟩:=hp;refine⟨⟨⟨Z,h4,h5,h6⟩,by simp[HE]⟩,?_⟩;simp[Cz,xJ]<;>omega
def l01Step.fv(a:Ac×Int):Ac:=(Cz) (a.1) (a.2)
def l01Step.row:A7:=vK (b2 (qR Ac.d_le) qI) (rA Ac.d_le) (λa=>HE a.1/\0<=a.2/\a.2<=3) l01Step.fv
def l01Step.q:=AY (R:=l01Step.row) rfl
def l01Step.ok:AC 129 l01Step.row:=by
 refine vw tN Tryz.func129 ?_;intro a z;simp only[Tryz.f129];simp only[ZA,simprocAttr,l01Step.fv];obtain⟨⟨O,Q,Z,h4⟩,h5,h6⟩:=z;rw[AD (by omega) (by omega),AD (by omega) (by omega),AD (by omega) (by omega),AD (by omega) (by omega)];simp only[Cz]
 grind
def Qg:List Int->Int
 |[]=>0
 |x::r=>if x=0 then Qg r else x
def Or.fv(a:(List Int)):Int:=(Qg) a
def Or.row:A7:=vK (b1 (qS Fh EN)) rI (λa=>True) Or.fv
def Or.q:=AY (R:=Or.row) rfl
def Or.ok:AC 144 Or.row:=by
 refine vw tN Tryz.func144 ?_;intro a aa;simp only[Tryz.f144];simp(disch:=omega)only[ZA,simprocAttr,Or.fv];intro Z;refine AT.old ⟨{k:Nat//k<=a.length/\Qg (a.drop k)=Qg a},λk=>⟨[(8,.im (.int .i64 k.1)),(7,.im (.int .i64 a.length)),(6,.im (.sl false 1 (a.map Al))),(3,.im (.int .i64 0)),(2,.im (.int .i64 0))],[],0⟩,λk=>a.length - k.1,λk=>⟨by simp[ZG],AL _⟩,⟨⟨0,by simp⟩,by simp(disch:=omega)only[ZA,simprocAttr,sub]⟩,λk=> ?_⟩;obtain⟨k,ab,z⟩:=k;simp(disch:=omega)only[ZA,simprocAttr,sub];simp only[AO];refine⟨λO=>⟨O,λx hx=> ?_⟩,λO=> ?_⟩
 .have Q:a.drop k=x::a.drop (k+1):=by
   rw[VF O];rw[Bi O] at hx;rw[Ay hx]
  rw[Q,Qg] at z;refine⟨λh=>by grind,λh=>⟨⟨k+1,by omega,by grind⟩,by simp only;omega,?_⟩⟩;simp (disch:=omega) only[AD];simp
 .have Q:a.drop k=[]:=CS (by omega);rw[Q] at z;exact z
def comparePoints.fv(a:Ac×Ac):Int:=(λa b=>Qg [Fs a.Y b.Y,Fs a.X b.X]) (a.1) (a.2)
def comparePoints.row:A7:=vK (b2 (qR Ac.d_le) (qR Ac.d_le)) rI (λa=>True) comparePoints.fv
def comparePoints.q:=AY (R:=comparePoints.row) rfl
def comparePoints.ok:AC 106 comparePoints.row:=by
 refine vw (tC Compare.ok (tC Or.ok tN)) Tryz.func106 ?_;intro a z;simp only[Tryz.f106];simp only[ZA,simprocAttr,comparePoints.fv,Compare.q,Compare.fv,Or.q,Or.fv]
def impl_LessPoint.fv(a:Ac×Ac):Bool:=(Bl) (a.1) (a.2)
def impl_LessPoint.row:A7:=vK (b2 (qR Ac.d_le) (qR Ac.d_le)) rB (λa=>True) impl_LessPoint.fv
def impl_LessPoint.q:=AY (R:=impl_LessPoint.row) rfl
def impl_LessPoint.ok:AC 140 impl_LessPoint.row:=by
 refine vw (tC comparePoints.ok tN) Tryz.func140 ?_;intro a z;simp only[Tryz.f140];simp only[ZA,simprocAttr,impl_LessPoint.fv,comparePoints.q,comparePoints.fv];simp only[Bl,Qg,Fs]
 grind
def NR(i:Nat)(c:Int):Bool:=uJ c||(decide (i≠0) && (Qtq c||decide (c=95)))
def H9:Nat->List UInt8->Bool
 |_,[]=>true
 |i,c::r=>NR i c.toNat && H9 (i+1) r
def pQ{a:ByteArray}{k:Nat}{c:UInt8}(O:a.data[k]? =some c):a.data.toList.drop k=c::a.data.toList.drop (k+1):=by
 have h0:a.data.toList[k]? =some c:=by simpa using O
 have z:k<a.data.toList.length:=(BW.1 h0).1;rw[VF z];rw[Bi z] at h0;rw[Ay h0]
def R8{a:ByteArray}{k:Nat}(h: ¬k<a.size):a.data.toList.drop k=[]:=CS (by simpa using h)
def IL(s:ByteArray):Bool:=H9 0 s.data.toList && (decide (1<=s.size) && decide (s.size<=12))
def impl_IsName.fv(a:ByteArray):Bool:=(IL) a
def impl_IsName.row:A7:=vK (b1 qT) rB (λa=>a.size<=140737488355328) impl_IsName.fv
def impl_IsName.q:=AY (R:=impl_IsName.row) rfl
def impl_IsName.ok:AC 138 impl_IsName.row:=by
 refine vw tN Tryz.func138 ?_;intro a aa;simp only[Tryz.f138];simp only[ZA,simprocAttr,impl_IsName.fv];refine AT.old ⟨{k:Nat//k<=a.size/\H9 k (a.data.toList.drop k)=H9 0 a.data.toList},λk=>⟨[(8,.im (.int .i64 k.1)),(7,.im (.int .i64 a.size)),(6,.im (.str a)),(0,.im (.str a)),(2,.im (.bool false))],[],0⟩,λk=>a.size - k.1,λk=>⟨by simp[ZG],AL _⟩,⟨⟨0,by simp⟩,by simp only[ZA,simprocAttr,sub]⟩,λk=> ?_⟩;obtain⟨k,ab,z⟩:=k;simp only[ZA,simprocAttr]
 split<;>rename_i Z
 .refine⟨Z,?_⟩;intro c hc;have hd:a.data.toList.drop k=c::a.data.toList.drop (k+1):=by
   have hl:k<a.data.toList.length:=by simpa using Z
   rw[VF hl]
   have:a.data.toList[k]? =some c:=by simpa using hc
   rw[Bi hl] at this;rw[Ay this]
  rw[hd,H9] at z;by_cases e1:(97:Int)<=c.toNat<;>by_cases e2:(c.toNat:Int)<=122<;>(try (exfalso;omega))<;>by_cases e3:(65:Int)<=c.toNat<;>(try (exfalso;omega))<;>by_cases e4:(c.toNat:Int)<=90<;>(try (exfalso;omega))<;>
   by_cases e5:(c.toNat:Int)<48<;>(try (exfalso;omega))<;>by_cases e6:(57:Int)<c.toNat<;>(try (exfalso;omega))<;>by_cases e7:(c.toNat:Int)=95<;>(try (exfalso;omega))<;>by_cases e8:(k:Int)=0
  all_goals
   have e9:(48:Int)<=c.toNat↔ ¬(c.toNat:Int)<48:=by omega
   have O:(c.toNat:Int)<=57↔ ¬(57:Int)<c.toNat:=by omega
   have Q:k=0↔(k:Int)=0:=by omega
   have hb:NR k c.toNat=NR k c.toNat:=rfl
   conv at hb=>
    rhs
    simp only[NR,uJ,Qtq,AX,e1,e2,e3,e4,e5,e6,e7,e8,e9,O,Q,ne_eq,Zfu,Zfl,Fo,nL,wW,Qo,nR,xA,Eg,Gf,wF,gT]
   rw[hb] at z;simp only[ZA,simprocAttr,sub,e1,e2,e3,e4,e5,e6,e7,e8]
   first
    |(simp only[Gf] at z
      simp only[IL,<-z,Gf])
    |(simp only[Eg] at z
      refine⟨⟨k+1,by omega,z⟩,by simp only;omega,?_⟩;rw[AD (by omega) (by omega)];simp only
      omega)
    |(have h9:H9 0 a.data.toList=false:=by rw[<-z];simp
      simp[IL,h9])
 .have:a.data.toList.drop k=[]:=CS (by simpa using Z)
  rw[this,H9] at z;simp only[IL]
  grind
def spec_IsName.fv(a:ByteArray):Bool:=(IL) a
def spec_IsName.row:A7:=vK (b1 qT) rB (λa=>True) spec_IsName.fv
def spec_IsName.q:=AY (R:=spec_IsName.row) rfl
def Yaa:=J @l01Letter.q @l01Letter.fv.eq_1
def spec_IsName.ok:AC 158 spec_IsName.row:=by
 refine vw (tC l01Letter.ok (tC l01Digit.ok tN)) Tryz.func158 ?_;intro a ad;simp only[Tryz.f158];simp only[ZA,simprocAttr,spec_IsName.fv,AO];refine⟨λh1=>⟨λh2=>⟨by omega,?_⟩,λh2=> ?_⟩,λh1=> ?_⟩
 .intro c hc;have hd:=pQ hc;rw[F8] at hd;cases hL:uJ c.toNat
  .simp only[ZA,simprocAttr,Yaa,hL];have h9:H9 0 a.data.toList=false:=by rw[hd];simp[H9,NR,hL]
   simp[IL,h9]
  .simp only[ZA,simprocAttr,Yaa,hL];refine AT.old ⟨{k:Nat//1<=k/\k<=a.size/\H9 k (a.data.toList.drop k)=H9 0 a.data.toList},λk=>⟨[(3,.im (.int .i64 k.1)),(0,.im (.str a)),(2,.im (.bool false))],[],0⟩,λk=>a.size - k.1,λk=>⟨by simp[ZG],AL _⟩,⟨⟨1,by omega,by omega,?_⟩,by simp only[ZA,simprocAttr,sub]⟩,λk=> ?_⟩
   .conv=>rhs;rw[hd]
    simp[H9,NR,hL]
   .obtain⟨k,af,ag,z⟩:=k;simp only[ZA,simprocAttr,AO];refine⟨λhk=>⟨hk,λc2 Z=> ?_⟩,λhk=> ?_⟩
    .rw[pQ Z,H9] at z;simp only[ZZ,simprocAttr,Yaa,l01Digit.q,l01Digit.fv,sub,AO];have ac:NR k c2.toNat=true->H9 (k+1) (a.data.toList.drop (k+1))=H9 0 a.data.toList:=by
      intro h;rw[h] at z;simpa using z
     have ab:NR k c2.toNat=false->false=IL a:=by
      intro h;rw[h] at z;have h9:H9 0 a.data.toList=false:=by rw[<-z];simp
      simp[IL,h9]
     have Q:NR k c2.toNat=true-> ∃b':{k:Nat//1<=k/\k<=a.size/\H9 k (a.data.toList.drop k)=H9 0 a.data.toList},a.size - b'.val<a.size - k/\IntKind.wrap .i64 ((k:Int)+1)=b'.val:=by
      intro h;refine⟨⟨k+1,by omega,by omega,ac h⟩,by simp only;omega,?_⟩;rw[AD (by omega) (by omega)];simp only;omega
     have aa:k≠0:=by omega
     refine⟨λl=>⟨hk,λc3 O=> ?_⟩,λl=> ?_⟩
     .rw[Z] at O;obtain rfl:=Ay O;refine⟨λl2=>⟨hk,λc3 O=> ?_⟩,λl2=> ?_⟩
      .rw[Z] at O;obtain rfl:=Ay O;refine⟨λl3=>ab ?_,λl3=>Q ?_⟩
       .simp[NR,l,l2,l3]
       .simp only[Ha] at l3;simp[NR,l3,aa]
      .refine Q ?_;simp only[Im] at l2;simp[NR,l2,aa]
     .refine Q ?_;simp only[Im] at l;simp[NR,l]
    .rw[R8 hk,H9] at z;simp only[IL]
     grind
 .simp only[IL];grind
 .simp only[IL];grind
def fL{A:Type}{B:Type}(f:A->B)(z:B)(a:List A)(k:Nat)(x:A)(O:a[k]? =some x):
 ((a.take k).map f++List.replicate (a.length - k) z).set k (f x)=(a.take (k+1)).map f++List.replicate (a.length - (k+1)) z:=by
 have hk:k<a.length:=(BW.1 O).1;have Q:a.take (k+1)=a.take k++[x]:=by
  rw[Ip,O];rfl
 have Z:a.length - k=(a.length - (k+1))+1:=by omega
 rw[Q,Z,Zet,ES,EK,nE _ _ (by simp;omega)];have h3:k - (List.map f (List.take k a)).length=0:=by simp;omega
 rw[h3];rfl
def fE{A:Type}{B:Type}(f:A->B)(z:B)(a:List A)(k:Nat)(x:A)(Q:a[k]? =some x):
 ((a.take k).map f++List.replicate (a.length - k) z)[k]? =some z:=by
 have Z:k<a.length:=(BW.1 Q).1;rw[E3 (by simp;omega)];have O:k - (List.map f (List.take k a)).length=0:=by simp;omega
 rw[O,Ls,Ai (by omega)]
def fH{A:Type}{B:Type}(f:A->B)(z:B)(a:List A)(k:Nat)(O:k<=a.length):((a.take k).map f++List.replicate (a.length - k) z).length=a.length:=by
 simp;omega
def fI{A:Type}{B:Type}(f:A->B)(z:B)(a:List A)(k:Nat)(O:a.length<=k):(a.take k).map f++List.replicate (a.length - k) z=a.map f:=by
 rw[DE O,show a.length - k=0 by omega];simp
def toPoint.fv(a:Ac):Ac:=(λp=>p) a
def toPoint.row:A7:=vK (b1 (qR Ac.d_le)) (rA Ac.d_le) (λa=>True) toPoint.fv
def toPoint.q:=AY (R:=toPoint.row) rfl
def toPoint.ok:AC 27 toPoint.row:=by
 refine vw tN Tryz.func27 ?_;intro a z;simp only[Tryz.f27];simp only[ZA,simprocAttr,toPoint.fv]
def toPlaced.fv(a:Aj):Aj:=(λp=>p) a
def toPlaced.row:A7:=vK (b1 (qR Aj.d_le)) (rA Aj.d_le) (λa=>True) toPlaced.fv
def toPlaced.q:=AY (R:=toPlaced.row) rfl
def toPlaced.ok:AC 56 toPlaced.row:=by
 refine vw (tC toPoint.ok tN) Tryz.func56 ?_;intro a z;simp only[Tryz.f56];simp only[ZA,simprocAttr,toPlaced.fv,toPoint.q,toPoint.fv]
def toOption.fv(a:A9):A9:=(λp=>p) a
def toOption.row:A7:=vK (b1 (qR A9.d_le)) (rA A9.d_le) (λa=>True) toOption.fv
def toOption.q:=AY (R:=toOption.row) rfl
def toOption.ok:AC 9 toOption.row:=by
 refine vw (tC toPoint.ok tN) Tryz.func9 ?_;intro a z;simp only[Tryz.f9];simp(disch:=omega)only[ZA,simprocAttr,toOption.fv,toPoint.q,toPoint.fv]
def toGlue.fv(a:Am):Am:=(λp=>p) a
def toGlue.row:A7:=vK (b1 (qR Am.d_le)) (rA Am.d_le) (λa=>True) toGlue.fv
def toGlue.q:=AY (R:=toGlue.row) rfl
def toGlue.ok:AC 134 toGlue.row:=by
 refine vw tN Tryz.func134 ?_;intro a z;simp only[Tryz.f134];simp only[ZA,simprocAttr,toGlue.fv]
def toInt64S.fv(a:(List Int)):List Int:=(λp=>p) a
def toInt64S.row:A7:=vK (b1 (qS Fh EN)) (rS Fh EN) (λa=>a.length<=1073741824) toInt64S.fv
def toInt64S.q:=AY (R:=toInt64S.row) rfl
def toInt64S.ok:AC 25 toInt64S.row:=by
 refine vw tN Tryz.func25 ?_;intro a Z;simp only[Tryz.f25];simp only[ZA,simprocAttr,toInt64S.fv];intro Q;refine⟨by omega,?_⟩;refine AT.old ⟨{k:Nat//k<=a.length},λk=>⟨[(4,.im (.int .i64 k.1)),(3,.own 1),(0,.im (.sl false 1 (a.map Al)))],[(1,(true,.arr 2 1 ((a.take k.1).map Al++List.replicate (a.length - k.1) [.int .i64 0])))],2⟩,λk=>a.length - k.1,λk=>⟨by simp[ZG],AL _⟩,⟨⟨0,by omega⟩,by simp only[ZA,simprocAttr,sub];simp⟩,λk=> ?_⟩;obtain⟨k,O⟩:=k;simp only[ZA,simprocAttr,AO,fH _ _ a k O];intro _;refine⟨λz=>⟨z,λx hx=>⟨z,z,JB (fE Al [.int .i64 0] a k x hx) ?_⟩⟩,λz=> ?_⟩
 .simp only[ZA,simprocAttr,sub];refine⟨⟨k+1,by omega⟩,by simp only;omega,?_,?_⟩
  .rw[AD (by omega) (by omega)];simp only;omega
  .exact fL Al [.int .i64 0] a k x hx
 .rw[fI Al _ a k (by omega)];simp[fN]
def eqPoint.fv(a:Ac×Ac):Bool:=(λa b=>decide (a=b)) (a.1) (a.2)
def eqPoint.row:A7:=vK (b2 (qR Ac.d_le) (qR Ac.d_le)) rB (λa=>True) eqPoint.fv
def eqPoint.q:=AY (R:=eqPoint.row) rfl
def eqPoint.ok:AC 75 eqPoint.row:=by
 refine vw tN Tryz.func75 ?_;intro a O;simp only[Tryz.f75];simp only[ZA,simprocAttr,eqPoint.fv];obtain⟨⟨x,y⟩,⟨z,w⟩⟩:=a;simp only[Ac.mk.injEq]
 grind
def eqPlaced.fv(a:Aj×Aj):Bool:=(λa b=>decide (a=b)) (a.1) (a.2)
def eqPlaced.row:A7:=vK (b2 (qR Aj.d_le) (qR Aj.d_le)) rB (λa=>True) eqPlaced.fv
def eqPlaced.q:=AY (R:=eqPlaced.row) rfl
def eqPlaced.ok:AC 77 eqPlaced.row:=by
 refine vw (tC eqPoint.ok tN) Tryz.func77 ?_;intro a O;simp only[Tryz.f77];simp only[ZA,simprocAttr,eqPlaced.fv,eqPoint.q,eqPoint.fv];obtain⟨⟨⟨x,y⟩,u⟩,⟨⟨z,w⟩,v⟩⟩:=a;simp only[Aj.mk.injEq,Ac.mk.injEq]
 grind
def eqGlue.fv(a:Am×Am):Bool:=(λa b=>decide (a=b)) (a.1) (a.2)
def eqGlue.row:A7:=vK (b2 (qR Am.d_le) (qR Am.d_le)) rB (λa=>True) eqGlue.fv
def eqGlue.q:=AY (R:=eqGlue.row) rfl
def eqGlue.ok:AC 155 eqGlue.row:=by
 refine vw tN Tryz.func155 ?_;intro a O;simp only[Tryz.f155];simp only[ZA,simprocAttr,eqGlue.fv];obtain⟨⟨x,y⟩,⟨z,w⟩⟩:=a;simp only[Am.mk.injEq]
 grind
def ZF{A:Type}[DecidableEq A]{a b:List A}(hl:a.length=b.length){k:Nat}(hk:k<=a.length)(h:a.take k=b.take k){x y:A}(Z:a[k]? =some x)(Q:b[k]? =some y):
 (x=y->a.take (k+1)=b.take (k+1))/\(x≠y->a≠b):=by
 refine⟨λz=> ?_,λz O=> ?_⟩
 .rw[Ip,Ip,h,Z,Q,z]
 .subst O;rw[Z] at Q;exact z (Ay Q)
def eqInt64S.fv(a:(List Int)×(List Int)):Bool:=(λa b=>decide (a=b)) (a.1) (a.2)
def eqInt64S.row:A7:=vK (b2 (qS Fh EN) (qS Fh EN)) rB (λa=>True) eqInt64S.fv
def eqInt64S.q:=AY (R:=eqInt64S.row) rfl
def eqInt64S.ok:AC 38 eqInt64S.row:=by
 refine vw tN Tryz.func38 ?_;intro a aa;simp only[Tryz.f38];simp only[ZA,simprocAttr,eqInt64S.fv];intro h1 h2;simp only[AO];refine⟨λO=> ?_,λO=> ?_⟩
 .have:a.1≠a.2:=λh=>O (by rw[h])
  simp[this]
 have O:a.1.length=a.2.length:=by omega
 refine AT.old ⟨{k:Nat//k<=a.1.length/\a.1.take k=a.2.take k},λk=>⟨[(5,.im (.int .i64 k.1)),(4,.im (.bool false)),(0,.im (.sl false 1 (a.1.map Al))),(1,.im (.sl false 1 (a.2.map Al)))],[],0⟩,λk=>a.1.length - k.1,λk=>⟨by simp[ZG],AL _⟩,⟨⟨0,by simp⟩,by simp only[ZA,simprocAttr,sub]⟩,λk=> ?_⟩;obtain⟨k,Z,z⟩:=k;simp only[ZA,simprocAttr,sub,AO];intro _;refine⟨λQ=>⟨Q,λx hx=>⟨by omega,λy hy=> ?_⟩⟩,λQ=> ?_⟩
 .obtain⟨g1,g2⟩:=ZF O Z z hx hy;exact⟨λh=>by simp[g2 h],λh=>GI Q h1 ⟨by omega,g1 (by simpa using h)⟩⟩
 .rw[DE (by omega),DE (by omega)] at z;simp[z]
def Cx(n:Int)(left:Int):Int:=if left - n<0 then -1 else left - n
def szInt64S.fv(a:(List Int)×Int):Int:=(λa l=>Cx a.length l) (a.1) (a.2)
def szInt64S.row:A7:=vK (b2 (qS Fh EN) qI) rI (λa=> -1<=a.2/\a.2<=1048576) szInt64S.fv
def szInt64S.q:=AY (R:=szInt64S.row) rfl
def szInt64S.ok:AC 19 szInt64S.row:=by
 refine vw tN Tryz.func19 ?_;intro a z;simp only[Tryz.f19];simp only[ZA,simprocAttr,szInt64S.fv];intro h;rw[AD (by omega) (by omega)];simp only[Cx];grind
def szPlacedS.fv(a:(List Aj)×Int):Int:=(λa l=>Cx a.length l) (a.1) (a.2)
def szPlacedS.row:A7:=vK (b2 (qS Aj.d_le Aj.c_n) qI) rI (λa=> -1<=a.2/\a.2<=1048576) szPlacedS.fv
def szPlacedS.q:=AY (R:=szPlacedS.row) rfl
def szPlacedS.ok:AC 20 szPlacedS.row:=by
 refine vw tN Tryz.func20 ?_;intro a z;simp only[Tryz.f20];simp only[ZA,simprocAttr,szPlacedS.fv];intro h;rw[AD (by omega) (by omega)];simp only[Cx];grind
def N7(a:Ad)(l:Int):Int:=Cx a.Tiles.length l
def szAssembly.fv(a:Ad×Int):Int:=(N7) (a.1) (a.2)
def szAssembly.row:A7:=vK (b2 (qR Ad.d_le) qI) rI (λa=> -1<=a.2/\a.2<=1048576) szAssembly.fv
def szAssembly.q:=AY (R:=szAssembly.row) rfl
def szAssembly.ok:AC 5 szAssembly.row:=by
 refine vw (tC szPlacedS.ok tN) Tryz.func5 ?_;intro a z;simp only[Tryz.f5];simp only[ZA,simprocAttr,szAssembly.fv,szPlacedS.q,szPlacedS.fv];refine⟨z,?_⟩;simp only[N7,Cx];grind
def eqGlueS.fv(a:(List Am)×(List Am)):Bool:=(λa b=>decide (a=b)) (a.1) (a.2)
def eqGlueS.row:A7:=vK (b2 (qS Am.d_le Am.c_n) (qS Am.d_le Am.c_n)) rB (λa=>True) eqGlueS.fv
def eqGlueS.q:=AY (R:=eqGlueS.row) rfl
def eqGlueS.ok:AC 119 eqGlueS.row:=by
 refine vw (tC eqGlue.ok tN) Tryz.func119 ?_;intro a aa;simp only[Tryz.f119];simp only[ZA,simprocAttr,eqGlueS.fv];intro h1 h2;simp only[AO];refine⟨λO=> ?_,λO=> ?_⟩
 .have:a.1≠a.2:=λh=>O (by rw[h])
  simp[this]
 have O:a.1.length=a.2.length:=by omega
 refine AT.old ⟨{k:Nat//k<=a.1.length/\a.1.take k=a.2.take k},λk=>⟨[(5,.im (.int .i64 k.1)),(4,.im (.bool false)),(0,.im (.sl false 2 (a.1.map Am.c))),(1,.im (.sl false 2 (a.2.map Am.c)))],[],0⟩,λk=>a.1.length - k.1,λk=>⟨by simp[ZG],AL _⟩,⟨⟨0,by simp⟩,by simp only[ZA,simprocAttr,sub]⟩,λk=> ?_⟩;obtain⟨k,Z,z⟩:=k;simp only[ZA,simprocAttr,eqGlue.q,eqGlue.fv,sub,AO];intro _;refine⟨λQ=>⟨Q,λx hx=>⟨by omega,λy hy=> ?_⟩⟩,λQ=> ?_⟩
 .obtain⟨g1,g2⟩:=ZF O Z z hx hy;exact⟨λh=>by simp[g2 (show x≠y from h)],λh=>GI Q h1 ⟨by omega,g1 (show x=y from Ha.1 h)⟩⟩
 .rw[DE (by omega),DE (by omega)] at z;simp[z]
def Xe(a b:Tile):decide (a=b)=(decide (a.Name=b.Name) && decide (a.Sides=b.Sides)):=by
 obtain⟨x,y⟩:=a;obtain⟨z,w⟩:=b;simp[Tile.mk.injEq]
def eqTile.fv(a:Tile×Tile):Bool:=(λa b=>decide (a=b)) (a.1) (a.2)
def eqTile.row:A7:=vK (b2 (qR Tile.d_le) (qR Tile.d_le)) rB (λa=>True) eqTile.fv
def eqTile.q:=AY (R:=eqTile.row) rfl
def eqTile.ok:AC 156 eqTile.row:=by
 refine vw (tC eqInt64S.ok tN) Tryz.func156 ?_;intro a z;simp only[Tryz.f156];simp only[ZA,simprocAttr,eqTile.fv,eqInt64S.q,eqInt64S.fv];rw[Xe]
 grind
def eqTileS.fv(a:(List Tile)×(List Tile)):Bool:=(λa b=>decide (a=b)) (a.1) (a.2)
def eqTileS.row:A7:=vK (b2 (qS Tile.d_le Tile.c_n) (qS Tile.d_le Tile.c_n)) rB (λa=>True) eqTileS.fv
def eqTileS.q:=AY (R:=eqTileS.row) rfl
def eqTileS.ok:AC 120 eqTileS.row:=by
 refine vw (tC eqTile.ok tN) Tryz.func120 ?_;intro a aa;simp only[Tryz.f120];simp only[ZA,simprocAttr,eqTileS.fv];intro h1 h2;simp only[AO];refine⟨λO=> ?_,λO=> ?_⟩
 .have:a.1≠a.2:=λh=>O (by rw[h])
  simp[this]
 have O:a.1.length=a.2.length:=by omega
 refine AT.old ⟨{k:Nat//k<=a.1.length/\a.1.take k=a.2.take k},λk=>⟨[(5,.im (.int .i64 k.1)),(4,.im (.bool false)),(0,.im (.sl false 2 (a.1.map Tile.c))),(1,.im (.sl false 2 (a.2.map Tile.c)))],[],0⟩,λk=>a.1.length - k.1,λk=>⟨by simp[ZG],AL _⟩,⟨⟨0,by simp⟩,by simp only[ZA,simprocAttr,sub]⟩,λk=> ?_⟩;obtain⟨k,Z,z⟩:=k;simp only[ZA,simprocAttr,eqTile.q,eqTile.fv,sub,AO];intro _;refine⟨λQ=>⟨Q,λx hx=>⟨by omega,λy hy=> ?_⟩⟩,λQ=> ?_⟩
 .obtain⟨g1,g2⟩:=ZF O Z z hx hy;exact⟨λh=>by simp[g2 (show x≠y from h)],λh=>GI Q h1 ⟨by omega,g1 (show x=y from Ha.1 h)⟩⟩
 .rw[DE (by omega),DE (by omega)] at z;simp[z]
def eqPlacedS.fv(a:(List Aj)×(List Aj)):Bool:=(λa b=>decide (a=b)) (a.1) (a.2)
def eqPlacedS.row:A7:=vK (b2 (qS Aj.d_le Aj.c_n) (qS Aj.d_le Aj.c_n)) rB (λa=>True) eqPlacedS.fv
def eqPlacedS.q:=AY (R:=eqPlacedS.row) rfl
def eqPlacedS.ok:AC 39 eqPlacedS.row:=by
 refine vw (tC eqPlaced.ok tN) Tryz.func39 ?_;intro a aa;simp only[Tryz.f39];simp only[ZA,simprocAttr,eqPlacedS.fv];intro h1 h2;simp only[AO];refine⟨λO=> ?_,λO=> ?_⟩
 .have:a.1≠a.2:=λh=>O (by rw[h])
  simp[this]
 have O:a.1.length=a.2.length:=by omega
 refine AT.old ⟨{k:Nat//k<=a.1.length/\a.1.take k=a.2.take k},λk=>⟨[(5,.im (.int .i64 k.1)),(4,.im (.bool false)),(0,.im (.sl false 3 (a.1.map Aj.c))),(1,.im (.sl false 3 (a.2.map Aj.c)))],[],0⟩,λk=>a.1.length - k.1,λk=>⟨by simp[ZG],AL _⟩,⟨⟨0,by simp⟩,by simp only[ZA,simprocAttr,sub]⟩,λk=> ?_⟩;obtain⟨k,Z,z⟩:=k;simp only[ZA,simprocAttr,eqPlaced.q,eqPlaced.fv,sub,AO];intro _;refine⟨λQ=>⟨Q,λx hx=>⟨by omega,λy hy=> ?_⟩⟩,λQ=> ?_⟩
 .obtain⟨g1,g2⟩:=ZF O Z z hx hy;exact⟨λh=>by simp[g2 (show x≠y from h)],λh=>GI Q h1 ⟨by omega,g1 (show x=y from Ha.1 h)⟩⟩
 .rw[DE (by omega),DE (by omega)] at z;simp[z]
def eqTileSet.fv(a:Az×Az):Bool:=(λa b=>decide (a=b)) (a.1) (a.2)
def eqTileSet.row:A7:=vK (b2 (qR Az.d_le) (qR Az.d_le)) rB (λa=>True) eqTileSet.fv
def eqTileSet.q:=AY (R:=eqTileSet.row) rfl
def eqTileSet.ok:AC 76 eqTileSet.row:=by
 refine vw (tC eqGlueS.ok (tC eqTileS.ok tN)) Tryz.func76 ?_;intro a O;simp only[Tryz.f76];simp only[ZA,simprocAttr,eqTileSet.fv,eqGlueS.q,eqGlueS.fv,eqTileS.q,eqTileS.fv];obtain⟨⟨x,y⟩,⟨z,w⟩⟩:=a;simp only[Az.mk.injEq]
 grind
def eqAssembly.fv(a:Ad×Ad):Bool:=(λa b=>decide (a=b)) (a.1) (a.2)
def eqAssembly.row:A7:=vK (b2 (qR Ad.d_le) (qR Ad.d_le)) rB (λa=>True) eqAssembly.fv
def eqAssembly.q:=AY (R:=eqAssembly.row) rfl
def eqAssembly.ok:AC 13 eqAssembly.row:=by
 refine vw (tC eqPlacedS.ok tN) Tryz.func13 ?_;intro a O;simp only[Tryz.f13];simp only[ZA,simprocAttr,eqAssembly.fv,eqPlacedS.q,eqPlacedS.fv];obtain⟨⟨x⟩,⟨z⟩⟩:=a;simp only[Ad.mk.injEq]
 grind
def toTile.fv(a:Tile):Tile:=(λp=>p) a
def toTile.row:A7:=vK (b1 (qR Tile.d_le)) (rA Tile.d_le) (λa=>a.Sides.length<=1073741824) toTile.fv
def toTile.q:=AY (R:=toTile.row) rfl
def toTile.ok:AC 135 toTile.row:=by
 refine vw (tC toInt64S.ok tN) Tryz.func135 ?_;intro a z;simp only[Tryz.f135];simp only[ZA,simprocAttr,toTile.fv,toInt64S.q,toInt64S.fv];exact z
def toGlueS.fv(a:(List Am)):List Am:=(λp=>p) a
def toGlueS.row:A7:=vK (b1 (qS Am.d_le Am.c_n)) (rS Am.d_le Am.c_n) (λa=>a.length<=1073741824) toGlueS.fv
def toGlueS.q:=AY (R:=toGlueS.row) rfl
def toGlueS.ok:AC 93 toGlueS.row:=by
 refine vw (tC toGlue.ok tN) Tryz.func93 ?_;intro a z;simp only[Tryz.f93];simp only[ZA,simprocAttr,toGlueS.fv];intro Z;have aa:a.length<=1073741824:=z;refine⟨by omega,?_⟩;refine AT.old ⟨{k:Nat//k<=a.length},λk=>⟨[(4,.im (.int .i64 k.1)),(3,.own 1),(0,.im (.sl false 2 (a.map Am.c)))],[(1,(true,.arr 211 2 ((a.take k.1).map Am.c++List.replicate (a.length - k.1) [.str ByteArray.empty,.int .i64 0])))],2⟩,λk=>a.length - k.1,λk=>⟨by simp[ZG],AL _⟩,⟨⟨0,by omega⟩,by simp only[ZA,simprocAttr,sub];simp⟩,λk=> ?_⟩;obtain⟨k,Q⟩:=k;simp only[ZA,simprocAttr,toGlue.q,toGlue.fv,AO,fH _ _ a k Q];intro _;refine⟨λO=> ?_,λO=> ?_⟩
 .refine⟨O,λx hx=>⟨O,O,JB (fE Am.c _ a k x hx) ?_⟩⟩;simp only[ZA,simprocAttr,sub];refine⟨⟨k+1,by omega⟩,by simp only;omega,?_,?_⟩
  .rw[AD (by omega) (by omega)];simp only;omega
  .exact fL Am.c _ a k x hx
 .rw[fI Am.c _ a k (by omega)];simp[Am.d_R]
def toPlacedS.fv(a:(List Aj)):List Aj:=(λp=>p) a
def toPlacedS.row:A7:=vK (b1 (qS Aj.d_le Aj.c_n)) (rS Aj.d_le Aj.c_n) (λa=>a.length<=1073741824) toPlacedS.fv
def toPlacedS.q:=AY (R:=toPlacedS.row) rfl
def toPlacedS.ok:AC 26 toPlacedS.row:=by
 refine vw (tC toPlaced.ok tN) Tryz.func26 ?_;intro a z;simp only[Tryz.f26];simp only[ZA,simprocAttr,toPlacedS.fv];intro Z;have aa:a.length<=1073741824:=z;refine⟨by omega,?_⟩;refine AT.old ⟨{k:Nat//k<=a.length},λk=>⟨[(4,.im (.int .i64 k.1)),(3,.own 1),(0,.im (.sl false 3 (a.map Aj.c)))],[(1,(true,.arr 115 3 ((a.take k.1).map Aj.c++List.replicate (a.length - k.1) [.int .i64 0,.int .i64 0,.int .i64 0])))],2⟩,λk=>a.length - k.1,λk=>⟨by simp[ZG],AL _⟩,⟨⟨0,by omega⟩,by simp only[ZA,simprocAttr,sub];simp⟩,λk=> ?_⟩;obtain⟨k,Q⟩:=k;simp only[ZA,simprocAttr,toPlaced.q,toPlaced.fv,AO,fH _ _ a k Q];intro _;refine⟨λO=> ?_,λO=> ?_⟩
 .refine⟨O,λx hx=>⟨O,O,JB (fE Aj.c _ a k x hx) ?_⟩⟩;simp only[ZA,simprocAttr,sub];refine⟨⟨k+1,by omega⟩,by simp only;omega,?_,?_⟩
  .rw[AD (by omega) (by omega)];simp only;omega
  .exact fL Aj.c _ a k x hx
 .rw[fI Aj.c _ a k (by omega)];simp[Aj.d_R]
def toTileS.fv(a:(List Tile)):List Tile:=(λp=>p) a
def toTileS.row:A7:=vK (b1 (qS Tile.d_le Tile.c_n)) (rS Tile.d_le Tile.c_n) (λa=>a.length<=1073741824/\ ∀x∈a,x.Sides.length<=1073741824) toTileS.fv
def toTileS.q:=AY (R:=toTileS.row) rfl
def toTileS.ok:AC 94 toTileS.row:=by
 refine vw (tC toTile.ok tN) Tryz.func94 ?_;intro a z;simp only[Tryz.f94];simp only[ZA,simprocAttr,toTileS.fv];intro aa;have ab:a.length<=1073741824:=z.1;refine⟨by omega,?_⟩;refine AT.old ⟨{k:Nat//k<=a.length},λk=>⟨[(4,.im (.int .i64 k.1)),(3,.own 1),(0,.im (.sl false 2 (a.map Tile.c)))],[(1,(true,.arr 208 2 ((a.take k.1).map Tile.c++List.replicate (a.length - k.1) [.str ByteArray.empty,.sl true 0 []])))],2⟩,λk=>a.length - k.1,λk=>⟨by simp[ZG],AL _⟩,⟨⟨0,by omega⟩,by simp only[ZA,simprocAttr,sub];simp⟩,λk=> ?_⟩;obtain⟨k,Q⟩:=k;simp only[ZA,simprocAttr,toTile.q,toTile.fv,AO,fH _ _ a k Q];intro _;refine⟨λO=> ?_,λO=> ?_⟩
 .refine⟨O,λx Z=>⟨z.2 x (AZ Z),O,O,JB (fE Tile.c _ a k x Z) ?_⟩⟩;simp only[ZA,simprocAttr,sub];refine⟨⟨k+1,by omega⟩,by simp only;omega,?_,?_⟩
  .rw[AD (by omega) (by omega)];simp only;omega
  .exact fL Tile.c _ a k x Z
 .rw[fI Tile.c _ a k (by omega)];simp[Tile.d_R]
def UE(s:Az):Prop:=s.Glues.length<=1073741824/\s.Tiles.length<=1073741824/\ ∀x∈s.Tiles,x.Sides.length<=1073741824
def toTileSet.fv(a:Az):Az:=(λp=>p) a
def toTileSet.row:A7:=vK (b1 (qR Az.d_le)) (rA Az.d_le) (λa=>UE a) toTileSet.fv
def toTileSet.q:=AY (R:=toTileSet.row) rfl
def toTileSet.ok:AC 55 toTileSet.row:=by
 refine vw (tC toGlueS.ok (tC toTileS.ok tN)) Tryz.func55 ?_;intro a z;simp only[Tryz.f55];simp only[ZA,simprocAttr,toTileSet.fv,toGlueS.q,toGlueS.fv,toTileS.q,toTileS.fv];exact z
def toAssembly.fv(a:Ad):Ad:=(λp=>p) a
def toAssembly.row:A7:=vK (b1 (qR Ad.d_le)) (rA Ad.d_le) (λa=>a.Tiles.length<=1073741824) toAssembly.fv
def toAssembly.q:=AY (R:=toAssembly.row) rfl
def toAssembly.ok:AC 8 toAssembly.row:=by
 refine vw (tC toPlacedS.ok tN) Tryz.func8 ?_;intro a z;simp only[Tryz.f8];simp only[ZA,simprocAttr,Ad.d,toAssembly.fv,toPlacedS.q,toPlacedS.fv];exact z
def Na(s:AM):Prop:=UE s.Set/\s.Seed.Tiles.length<=1073741824
def toSystem.fv(a:AM):AM:=(λp=>p) a
def toSystem.row:A7:=vK (b1 (qR AM.d_le)) (rA AM.d_le) (λa=>Na a) toSystem.fv
def toSystem.q:=AY (R:=toSystem.row) rfl
def toSystem.ok:AC 24 toSystem.row:=by
 refine vw (tC toTileSet.ok (tC toAssembly.ok tN)) Tryz.func24 ?_;intro a z;simp only[Tryz.f24];simp only[ZA,simprocAttr,Ad.d,toSystem.fv,toTileSet.q,toTileSet.fv,toAssembly.q,toAssembly.fv];exact z
def bU(s:AE):Prop:=Na s.Big/\Na s.Small/\s.Labels.length<=1073741824
def toSimulation.fv(a:AE):AE:=(λp=>p) a
def toSimulation.row:A7:=vK (b1 (qR AE.d_le)) (rA AE.d_le) (λa=>bU a) toSimulation.fv
def toSimulation.ok:AC 7 toSimulation.row:=by
 refine vw (tC toSystem.ok (tC toInt64S.ok tN)) Tryz.func7 ?_;intro a z;simp only[Tryz.f7];simp only[ZA,simprocAttr,toSimulation.fv,toSystem.q,toSystem.fv,toInt64S.q,toInt64S.fv];exact z
def Qe(g:Am)(l:Int):Int:=Cx g.Name.size l
def szGlue.fv(a:Am×Int):Int:=(Qe) (a.1) (a.2)
def szGlue.row:A7:=vK (b2 (qR Am.d_le) qI) rI (λa=> -1<=a.2/\a.2<=1048576/\a.1.Name.size<=140737488355328) szGlue.fv
def szGlue.q:=AY (R:=szGlue.row) rfl
def szGlue.ok:AC 123 szGlue.row:=by
 refine vw tN Tryz.func123 ?_;intro a z;simp only[Tryz.f123];simp only[ZA,simprocAttr,szGlue.fv];rw[AD (by omega) (by omega)];simp only[Qe,Cx]
 grind
def F1(g:Tile)(l:Int):Int:=if Cx g.Name.size l<0 then -1 else Cx g.Sides.length (Cx g.Name.size l)
def szTile.fv(a:Tile×Int):Int:=(F1) (a.1) (a.2)
def szTile.row:A7:=vK (b2 (qR Tile.d_le) qI) rI (λa=> -1<=a.2/\a.2<=1048576/\a.1.Name.size<=140737488355328) szTile.fv
def szTile.q:=AY (R:=szTile.row) rfl
def szTile.ok:AC 124 szTile.row:=by
 refine vw (tC szInt64S.ok tN) Tryz.func124 ?_;intro a z;simp only[Tryz.f124];simp only[ZA,simprocAttr,szTile.fv,szInt64S.q,szInt64S.fv];rw[AD (by omega) (by omega)];simp only[F1,Cx]
 grind
def FY{A:Type}(f:A->Int->Int):List A->Int->Int
 |[],l=>l
 |x::r,l=>if f x l<0 then -1 else FY f r (f x l)
def Hp(a:List Am)(l:Int):Int:=if Cx a.length l<0 then -1 else FY Qe a (Cx a.length l)
def szGlueS.fv(a:(List Am)×Int):Int:=(Hp) (a.1) (a.2)
def szGlueS.row:A7:=vK (b2 (qS Am.d_le Am.c_n) qI) rI (λa=> -1<=a.2/\a.2<=1048576/\ ∀x∈a.1,x.Name.size<=140737488355328) szGlueS.fv
def szGlueS.q:=AY (R:=szGlueS.row) rfl
def szGlueS.ok:AC 79 szGlueS.row:=by
 refine vw (tC szGlue.ok tN) Tryz.func79 ?_;intro a O;simp only[Tryz.f79];simp only[ZA,simprocAttr,szGlueS.fv];intro hn;rw[AD (by omega) (by omega)];obtain⟨ah,ai,af⟩:=O;simp only[AO];refine⟨λhl=> ?_,λhl=> ?_⟩
 .simp only[Hp,Cx];grind
 have h0:Cx a.1.length a.2=a.2 - a.1.length:=by simp only[Cx];rw[Af hl]
 refine AT.old ⟨{p:Nat×Int//p.1<=a.1.length/\0<=p.2/\p.2<=1048576/\FY Qe (a.1.drop p.1) p.2=FY Qe a.1 (a.2 - a.1.length)},λp=>⟨[(5,.im (.int .i64 p.1.1)),(1,.im (.int .i64 p.1.2)),(4,.im (.int .i64 0)),(0,.im (.sl false 2 (a.1.map Am.c)))],[],0⟩,λp=>a.1.length - p.1.1,λp=>⟨by simp[ZG],AL _⟩,⟨⟨(0,a.2 - a.1.length),by simp,by simp only;omega,by simp only;omega,by simp⟩,by simp only[ZA,simprocAttr,sub]⟩,λp=> ?_⟩;obtain⟨⟨k,l⟩,ab,ac,ad,z⟩:=p;simp only at ab ac ad z;simp only[ZA,simprocAttr,szGlue.q,szGlue.fv,sub,AO];intro _;refine⟨λZ=>⟨Z,λx hx=>⟨⟨by omega,by omega,af x (AZ hx)⟩,?_⟩⟩,λZ=> ?_⟩
 .have hd:a.1.drop k=x::a.1.drop (k+1):=by
   rw[VF Z];rw[Bi Z] at hx;rw[Ay hx]
  rw[hd,FY] at z;have ag:Qe x l<=l:=by simp only[Qe,Cx];grind
  have aa: ¬Qe ⟨x.Name,x.Strength⟩ l<0-> ¬Qe x l<0:=λh=>h
  refine⟨λQ=> ?_,λQ=>⟨⟨(k+1,Qe x l),by simp only;omega,by simp only;have:=aa Q;omega,by simp only;omega,?_⟩,by simp only;omega,?_,?_⟩⟩
  .rw[Ai Q] at z;simp only[Hp,h0]
   grind
  .rw[Af Q] at z;exact z
  .rw[AD (by omega) (by omega)];simp only;omega
  .rfl
 .rw[CS (by omega),FY] at z;simp only[Hp,h0]
  grind
def Lm(a:List Tile)(l:Int):Int:=if Cx a.length l<0 then -1 else FY F1 a (Cx a.length l)
def szTileS.fv(a:(List Tile)×Int):Int:=(Lm) (a.1) (a.2)
def szTileS.row:A7:=vK (b2 (qS Tile.d_le Tile.c_n) qI) rI (λa=> -1<=a.2/\a.2<=1048576/\ ∀x∈a.1,x.Name.size<=140737488355328) szTileS.fv
def szTileS.q:=AY (R:=szTileS.row) rfl
def szTileS.ok:AC 80 szTileS.row:=by
 refine vw (tC szTile.ok tN) Tryz.func80 ?_;intro a O;simp only[Tryz.f80];simp only[ZA,simprocAttr,szTileS.fv];intro hn;rw[AD (by omega) (by omega)];obtain⟨ah,ai,af⟩:=O;simp only[AO];refine⟨λhl=> ?_,λhl=> ?_⟩
 .simp only[Lm,Cx];grind
 have h0:Cx a.1.length a.2=a.2 - a.1.length:=by simp only[Cx];rw[Af hl]
 refine AT.old ⟨{p:Nat×Int//p.1<=a.1.length/\0<=p.2/\p.2<=1048576/\FY F1 (a.1.drop p.1) p.2=FY F1 a.1 (a.2 - a.1.length)},λp=>⟨[(5,.im (.int .i64 p.1.1)),(1,.im (.int .i64 p.1.2)),(4,.im (.int .i64 0)),(0,.im (.sl false 2 (a.1.map Tile.c)))],[],0⟩,λp=>a.1.length - p.1.1,λp=>⟨by simp[ZG],AL _⟩,⟨⟨(0,a.2 - a.1.length),by simp,by simp only;omega,by simp only;omega,by simp⟩,by simp only[ZA,simprocAttr,sub]⟩,λp=> ?_⟩;obtain⟨⟨k,l⟩,ab,ac,ad,z⟩:=p;simp only at ab ac ad z;simp only[ZA,simprocAttr,szTile.q,szTile.fv,sub,AO];intro _;refine⟨λZ=>⟨Z,λx hx=>⟨⟨by omega,by omega,af x (AZ hx)⟩,?_⟩⟩,λZ=> ?_⟩
 .have hd:a.1.drop k=x::a.1.drop (k+1):=by
   rw[VF Z];rw[Bi Z] at hx;rw[Ay hx]
  rw[hd,FY] at z;have ag:F1 x l<=l:=by simp only[F1,Cx];grind
  have aa: ¬F1 ⟨x.Name,x.Sides⟩ l<0-> ¬F1 x l<0:=λh=>h
  refine⟨λQ=> ?_,λQ=>⟨⟨(k+1,F1 x l),by simp only;omega,by simp only;have:=aa Q;omega,by simp only;omega,?_⟩,by simp only;omega,?_,?_⟩⟩
  .rw[Ai Q] at z;simp only[Lm,h0]
   grind
  .rw[Af Q] at z;exact z
  .rw[AD (by omega) (by omega)];simp only;omega
  .rfl
 .rw[CS (by omega),FY] at z;simp only[Lm,h0]
  grind
def FD(s:Az):Prop:=(∀x∈s.Glues,x.Name.size<=140737488355328)/\ ∀x∈s.Tiles,x.Name.size<=140737488355328
def Qre{A:Type}{f:A->Int->Int}(hf: ∀x l,0<=l->f x l<=l)(a:List A): ∀(l:Int),0<=l->FY f a l<=l/\ -1<=FY f a l:=by
 induction a with
 |nil=>intro l z;simp[FY];omega
 |cons x r ih=>
  intro l z;simp only[FY];split
  .omega
  .have:=hf x l z
   have:=ih (f x l) (by omega)
   omega
def Qo1(a:List Am)(l:Int)(Q: -1<=l): -1<=Hp a l/\Hp a l<=max l (-1):=by
 simp only[Hp];split
 .omega
 .rename_i h;have z:=Qre (f:=Qe) (λx l h=>by simp only[Qe,Cx];grind) a (Cx a.length l) (by omega);have O:Cx a.length l<=max l (-1):=by simp only[Cx];grind
  omega
def Qv0(a:List Tile)(l:Int)(Q: -1<=l): -1<=Lm a l/\Lm a l<=max l (-1):=by
 simp only[Lm];split
 .omega
 .rename_i h;have z:=Qre (f:=F1) (λx l h=>by simp only[F1,Cx];grind) a (Cx a.length l) (by omega);have O:Cx a.length l<=max l (-1):=by simp only[Cx];grind
  omega
def Qn(s:Az)(l:Int):Int:=if Hp s.Glues l<0 then -1 else Lm s.Tiles (Hp s.Glues l)
def Qxk(s:Az)(l:Int)(O: -1<=l): -1<=Qn s l/\Qn s l<=max l (-1):=by
 have z:=Qo1 s.Glues l O;have Q:=Qv0 s.Tiles (Hp s.Glues l) z.1;simp only[Qn]
 split<;>omega
def szTileSet.fv(a:Az×Int):Int:=(Qn) (a.1) (a.2)
def szTileSet.row:A7:=vK (b2 (qR Az.d_le) qI) rI (λa=> -1<=a.2/\a.2<=1048576/\FD a.1) szTileSet.fv
def szTileSet.q:=AY (R:=szTileSet.row) rfl
def szTileSet.ok:AC 43 szTileSet.row:=by
 refine vw (tC szGlueS.ok (tC szTileS.ok tN)) Tryz.func43 ?_;intro a z;simp only[Tryz.f43];simp only[ZA,simprocAttr,szTileSet.fv,szGlueS.q,szGlueS.fv,szTileS.q,szTileS.fv];obtain⟨O,Z,h3,h4⟩:=z;have Q:=Qo1 a.1.Glues a.2 O;refine⟨⟨O,Z,h3⟩,?_⟩;simp only[Qn];split
 .rfl
 .refine⟨⟨Q.1,by omega,h4⟩,?_⟩;have hc:=Qv0 a.1.Tiles _ Q.1
  split<;>omega
def UW(n:Nat)(l:Int)(z: -1<=l): -1<=Cx n l/\Cx n l<=max l (-1):=by
 simp only[Cx];split<;>omega
def JH(s:AM)(l:Int):Int:=if Qn s.Set l<0 then -1 else N7 s.Seed (Qn s.Set l)
def mV(s:AM)(l:Int)(O: -1<=l): -1<=JH s l/\JH s l<=max l (-1):=by
 have z:=Qxk s.Set l O;have Q:=UW s.Seed.Tiles.length (Qn s.Set l) z.1;simp only[JH,N7]
 split<;>omega
def szSystem.fv(a:AM×Int):Int:=(JH) (a.1) (a.2)
def szSystem.row:A7:=vK (b2 (qR AM.d_le) qI) rI (λa=> -1<=a.2/\a.2<=1048576/\FD a.1.Set) szSystem.fv
def szSystem.q:=AY (R:=szSystem.row) rfl
def szSystem.ok:AC 18 szSystem.row:=by
 refine vw (tC szTileSet.ok (tC szAssembly.ok tN)) Tryz.func18 ?_;intro a z;simp only[Tryz.f18];simp only[ZA,simprocAttr,Ad.d,szSystem.fv,szTileSet.q,szTileSet.fv,szAssembly.q,szAssembly.fv];obtain⟨O,Z,h3⟩:=z;have Q:=Qxk a.1.Set a.2 O;refine⟨⟨O,Z,h3⟩,?_⟩;simp only[JH];split
 .rfl
 .refine⟨⟨Q.1,by omega⟩,?_⟩;have hc:=UW a.1.Seed.Tiles.length _ Q.1;simp only[N7] at hc⊢
  grind
def GC(s:AE)(l:Int):Int:=if JH s.Big l<0 then -1 else if JH s.Small (JH s.Big l)<0 then -1 else Cx s.Labels.length (JH s.Small (JH s.Big l))
def szSimulation.fv(a:AE×Int):Int:=(GC) (a.1) (a.2)
def szSimulation.row:A7:=vK (b2 (qR AE.d_le) qI) rI (λa=> -1<=a.2/\a.2<=1048576/\FD a.1.Big.Set/\FD a.1.Small.Set) szSimulation.fv
def szSimulation.q:=AY (R:=szSimulation.row) rfl
def szSimulation.ok:AC 4 szSimulation.row:=by
 refine vw (tC szSystem.ok (tC szInt64S.ok tN)) Tryz.func4 ?_;intro a z;simp only[Tryz.f4];simp only[ZA,simprocAttr,szSimulation.fv,szSystem.q,szSystem.fv,szInt64S.q,szInt64S.fv];obtain⟨O,h2,h3,h4⟩:=z;have Q:=mV a.1.Big a.2 O;have Z:=mV a.1.Small _ Q.1;refine⟨⟨O,h2,h3⟩,?_⟩;simp only[GC];split
 .rfl
 .refine⟨⟨Q.1,by omega,h4⟩,?_⟩;split
  .rfl
  .refine⟨⟨Z.1,by omega⟩,?_⟩;have hd:=UW a.1.Labels.length _ Z.1
   split<;>omega
end Go.Ae
