/- Lemmas. Conditions: none. -/
import Derived.Test.YtofkcjmhpnkjhaaGreatP06
import Derived.Test.YtofkcjmhpnkjhaaGreatProg
set_option linter.all false
set_option maxHeartbeats 8000000
set_option maxRecDepth 100000
namespace Go.Ae
open Go.Proofs
theorem TY0:
 (tI Tryz.prog 2=some {size:=1,bytes:=8,agg:=false,kind:= .int .i64,zero:=[.int .i64 0]})/\
 (tI Tryz.prog 3=some {size:=1,bytes:=8,agg:=false,kind:= .int .i64,zero:=[.int .i64 0]})/\
 (tI Tryz.prog 4=some {size:=1,bytes:=1,agg:=false,kind:= .bool,zero:=[.bool false]})/\
 (tI Tryz.prog 5=some {size:=1,bytes:=1,agg:=false,kind:= .int .u8,zero:=[.int .u8 0]})/\
 (tI Tryz.prog 9=some {size:=1,bytes:=16,agg:=false,kind:= .str,zero:=[.str ByteArray.empty]})/\
 (tI Tryz.prog 22=some {size:=1,bytes:=24,agg:=false,kind:= .slice 5,zero:=[.sl true 0 []]})/\
 (tI Tryz.prog 24=some {size:=1,bytes:=24,agg:=false,kind:= .slice 128,zero:=[.sl true 0 []]})/\
 (tI Tryz.prog 25=some {size:=1,bytes:=24,agg:=false,kind:= .slice 130,zero:=[.sl true 0 []]})/\
 (tI Tryz.prog 27=some {size:=2,bytes:=48,agg:=true,kind:= .struct [(0,1),(1,1)],zero:=[.sl true 0 [],.sl true 0 []]})/\
 (tI Tryz.prog 28=some {size:=1,bytes:=24,agg:=false,kind:= .slice 116,zero:=[.sl true 0 []]})/\
 (tI Tryz.prog 30=some {size:=1,bytes:=24,agg:=true,kind:= .struct [(0,1)],zero:=[.sl true 0 []]})/\
 (tI Tryz.prog 32=some {size:=4,bytes:=80,agg:=true,kind:= .struct [(0,2),(2,1),(3,1)],zero:=[.sl true 0 [],.sl true 0 [],.sl true 0 [],.int .i64 0]})/\
 (tI Tryz.prog 34=some {size:=1,bytes:=24,agg:=false,kind:= .slice 71,zero:=[.sl true 0 []]})/\
 (tI Tryz.prog 37=some {size:=1,bytes:=24,agg:=false,kind:= .slice 2,zero:=[.sl true 0 []]})/\
 (tI Tryz.prog 39=some {size:=1,bytes:=24,agg:=false,kind:= .slice 34,zero:=[.sl true 0 []]})/\
 (tI Tryz.prog 52=some {size:=1,bytes:=8,agg:=false,kind:= .ptr 94,zero:=[.nilp]})/\
 (tI Tryz.prog 55=some {size:=1,bytes:=8,agg:=false,kind:= .ptr 32,zero:=[.nilp]})/\
 (tI Tryz.prog 60=some {size:=1,bytes:=8,agg:=false,kind:= .ptr 30,zero:=[.nilp]})/\
 (tI Tryz.prog 62=some {size:=1,bytes:=8,agg:=false,kind:= .ptr 105,zero:=[.nilp]})/\
 (tI Tryz.prog 66=some {size:=1,bytes:=24,agg:=false,kind:= .slice 37,zero:=[.sl true 0 []]}):=by and_intros<;>kernel_rfl
theorem TY1:
 (tI Tryz.prog 69=some {size:=2,bytes:=16,agg:=true,kind:= .struct [(0,1),(1,1)],zero:=[.int .i64 0,.int .i64 0]})/\
 (tI Tryz.prog 71=some {size:=3,bytes:=24,agg:=true,kind:= .struct [(0,2),(2,1)],zero:=[.int .i64 0,.int .i64 0,.int .i64 0]})/\
 (tI Tryz.prog 75=some {size:=1,bytes:=8,agg:=false,kind:= .ptr 82,zero:=[.nilp]})/\
 (tI Tryz.prog 77=some {size:=1,bytes:=8,agg:=false,kind:= .other,zero:=[.nilf]})/\
 (tI Tryz.prog 79=some {size:=1,bytes:=8,agg:=false,kind:= .map 69 2,zero:=[.nilm]})/\
 (tI Tryz.prog 80=some {size:=1,bytes:=8,agg:=false,kind:= .map 69 37,zero:=[.nilm]})/\
 (tI Tryz.prog 82=some {size:=6,bytes:=96,agg:=true,kind:= .struct [(0,4),(4,1),(5,1)],zero:=[.sl true 0 [],.sl true 0 [],.sl true 0 [],.int .i64 0,.nilm,.nilm]})/\
 (tI Tryz.prog 92=some {size:=1,bytes:=8,agg:=false,kind:= .int .u64,zero:=[.int .u64 0]})/\
 (tI Tryz.prog 94=some {size:=3,bytes:=40,agg:=true,kind:= .struct [(0,1),(1,1),(2,1)],zero:=[.sl true 0 [],.int .i64 0,.int .u64 0]})/\
 (tI Tryz.prog 96=some {size:=1,bytes:=8,agg:=false,kind:= .ptr 27,zero:=[.nilp]})/\
 (tI Tryz.prog 105=some {size:=8,bytes:=176,agg:=true,kind:= .struct [(0,4),(4,1),(5,1),(6,1),(7,1)],zero:=[.sl true 0 [],.sl true 0 [],.sl true 0 [],.int .i64 0,.sl true 0 [],.sl true 0 [],.sl true 0 [],.sl true 0 []]})/\
 (tI Tryz.prog 106=some {size:=1,bytes:=8,agg:=false,kind:= .other,zero:=[.nilf]})/\
 (tI Tryz.prog 116=some {size:=3,bytes:=24,agg:=true,kind:= .struct [(0,2),(2,1)],zero:=[.int .i64 0,.int .i64 0,.int .i64 0]})/\
 (tI Tryz.prog 124=some {size:=1,bytes:=8,agg:=false,kind:= .int .u64,zero:=[.int .u64 0]})/\
 (tI Tryz.prog 128=some {size:=2,bytes:=24,agg:=true,kind:= .struct [(0,1),(1,1)],zero:=[.str ByteArray.empty,.int .i64 0]})/\
 (tI Tryz.prog 130=some {size:=2,bytes:=40,agg:=true,kind:= .struct [(0,1),(1,1)],zero:=[.str ByteArray.empty,.sl true 0 []]})/\
 (tI Tryz.prog 135=some {size:=1,bytes:=24,agg:=false,kind:= .slice 175,zero:=[.sl true 0 []]})/\
 (tI Tryz.prog 141=some {size:=1,bytes:=24,agg:=false,kind:= .slice 69,zero:=[.sl true 0 []]})/\
 (tI Tryz.prog 146=some {size:=8,bytes:=64,agg:=true,kind:= .array 4 69,zero:=[.int .i64 0,.int .i64 0,.int .i64 0,.int .i64 0,.int .i64 0,.int .i64 0,.int .i64 0,.int .i64 0]})/\
 (tI Tryz.prog 149=some {size:=1,bytes:=8,agg:=false,kind:= .other,zero:=[.nilf]}):=by and_intros<;>kernel_rfl
theorem TY2:
 (tI Tryz.prog 160=some {size:=1,bytes:=8,agg:=false,kind:= .other,zero:=[.nilf]})/\
 (tI Tryz.prog 162=some {size:=1,bytes:=8,agg:=false,kind:= .int .i64,zero:=[.int .i64 0]})/\
 (tI Tryz.prog 170=some {size:=1,bytes:=4,agg:=false,kind:= .int .u32,zero:=[.int .u32 0]})/\
 (tI Tryz.prog 175=some {size:=3,bytes:=24,agg:=true,kind:= .struct [(0,1),(1,1),(2,1)],zero:=[.int .i64 0,.int .i64 0,.int .i64 0]})/\
 (tI Tryz.prog 178=some {size:=1,bytes:=8,agg:=false,kind:= .ptr 205,zero:=[.nilp]})/\
 (tI Tryz.prog 189=some {size:=1,bytes:=8,agg:=false,kind:= .other,zero:=[.nilf]})/\
 (tI Tryz.prog 197=some {size:=1,bytes:=8,agg:=false,kind:= .int .u64,zero:=[.int .u64 0]})/\
 (tI Tryz.prog 201=some {size:=1,bytes:=8,agg:=false,kind:= .ptr 3,zero:=[.nilp]})/\
 (tI Tryz.prog 205=some {size:=4,bytes:=80,agg:=true,kind:= .struct [(0,1),(1,1),(2,1),(3,1)],zero:=[.int .i64 0,.sl true 0 [],.sl true 0 [],.sl true 0 []]})/\
 (tI Tryz.prog 206=some {size:=1,bytes:=8,agg:=false,kind:= .map 9 4,zero:=[.nilm]})/\
 (tI Tryz.prog 212=some {size:=1,bytes:=8,agg:=false,kind:= .other,zero:=[.nilf]})/\
 (tI Tryz.prog 214=some {size:=1,bytes:=8,agg:=false,kind:= .other,zero:=[.nilf]})/\
 (tI Tryz.prog 216=some {size:=2,bytes:=16,agg:=true,kind:= .array 2 2,zero:=[.int .i64 0,.int .i64 0]})/\
 (tI Tryz.prog 217=some {size:=1,bytes:=8,agg:=false,kind:= .ptr 242,zero:=[.nilp]})/\
 (tI Tryz.prog 225=some {size:=1,bytes:=24,agg:=false,kind:= .slice 3,zero:=[.sl true 0 []]})/\
 (tI Tryz.prog 233=some {size:=1,bytes:=24,agg:=false,kind:= .slice 234,zero:=[.sl true 0 []]})/\
 (tI Tryz.prog 234=some {size:=1,bytes:=8,agg:=false,kind:= .ptr 236,zero:=[.nilp]})/\
 (tI Tryz.prog 236=some {size:=2,bytes:=16,agg:=true,kind:= .struct [(0,1),(1,1)],zero:=[.nilp,.int .i64 0]})/\
 (tI Tryz.prog 238=some {size:=1,bytes:=8,agg:=false,kind:= .map 2 3,zero:=[.nilm]})/\
 (tI Tryz.prog 242=some {size:=2,bytes:=48,agg:=true,kind:= .struct [(0,1),(1,1)],zero:=[.sl true 0 [],.sl true 0 []]}):=by and_intros<;>kernel_rfl
theorem TY3:
 (tI Tryz.prog 247=some {size:=1,bytes:=8,agg:=false,kind:= .other,zero:=[.nilf]})/\
 (tI Tryz.prog 249=some {size:=1,bytes:=8,agg:=false,kind:= .other,zero:=[.nilc]}):=by and_intros<;>kernel_rfl
theorem KY0:
 (keyT Tryz.prog 2=some ⟨false,[.int .i64]⟩)/\
 (keyT Tryz.prog 3=some ⟨false,[.int .i64]⟩)/\
 (keyT Tryz.prog 4=some ⟨false,[.bool]⟩)/\
 (keyT Tryz.prog 5=some ⟨false,[.int .u8]⟩)/\
 (keyT Tryz.prog 9=some ⟨false,[.str]⟩)/\
 (keyT Tryz.prog 69=some ⟨true,[.int .i64,.int .i64]⟩)/\
 (Tryz.prog.eqGuardType Tryz.prog.depth 69=false)/\
 (keyT Tryz.prog 71=some ⟨true,[.int .i64,.int .i64,.int .i64]⟩)/\
 (Tryz.prog.eqGuardType Tryz.prog.depth 71=false)/\
 (keyT Tryz.prog 92=some ⟨false,[.int .u64]⟩)/\
 (keyT Tryz.prog 116=some ⟨true,[.int .i64,.int .i64,.int .i64]⟩)/\
 (Tryz.prog.eqGuardType Tryz.prog.depth 116=false)/\
 (keyT Tryz.prog 124=some ⟨false,[.int .u64]⟩)/\
 (keyT Tryz.prog 128=some ⟨true,[.str,.int .i64]⟩)/\
 (Tryz.prog.eqGuardType Tryz.prog.depth 128=false)/\
 (keyT Tryz.prog 162=some ⟨false,[.int .i64]⟩)/\
 (keyT Tryz.prog 170=some ⟨false,[.int .u32]⟩)/\
 (keyT Tryz.prog 175=some ⟨true,[.int .i64,.int .i64,.int .i64]⟩)/\
 (Tryz.prog.eqGuardType Tryz.prog.depth 175=false)/\
 (keyT Tryz.prog 197=some ⟨false,[.int .u64]⟩):=by and_intros<;>kernel_rfl
theorem TY4:True/\True:=⟨trivial,trivial⟩
theorem KY1:True/\True:=⟨trivial,trivial⟩
theorem CY0:True/\True:=⟨trivial,trivial⟩
theorem Qaq:Tryz.prog.follows .mixedOrders=true:=by kernel_rfl
end Go.Ae
namespace Go.Ae
def kI:PK->Option Int
 | .val (.int .i64 x)=>some x
 |_=>none
def kU:PK->Option Int
 | .val (.int .u64 x)=>some x
 |_=>none
def kY:PK->Option Int
 | .val (.int .u8 x)=>some x
 |_=>none
def kB:PK->Option Bool
 | .val (.bool x)=>some x
 |_=>none
def kT:PK->Option ByteArray
 | .val (.str x)=>some x
 |_=>none
def kR{A:Type}(f:List D->Option A):PK->Option A
 | .val (.agg x)=>f x
 |_=>none
def kP{A:Type}(f:List D->Option A)(n:Nat):PK->Option A
 | .ptr x=>f (x.take n)
 |_=>none
def kS{A:Type}(f:List D->Option A):PK->Option (List A)
 | .val (.sl _ _ x)=>decR f x
 |_=>none
theorem kI_le: ∀p a,kI p=some a->LeK p (.val (.int .i64 a)):=by
 intro p a h;unfold kI at h;split at h
 .obtain rfl:=Zac h;exact LeK.refl _
 .cases h
theorem kU_le: ∀p a,kU p=some a->LeK p (.val (.int .u64 a)):=by
 intro p a h;unfold kU at h;split at h
 .obtain rfl:=Zac h;exact LeK.refl _
 .cases h
theorem kY_le: ∀p a,kY p=some a->LeK p (.val (.int .u8 a)):=by
 intro p a h;unfold kY at h;split at h
 .obtain rfl:=Zac h;exact LeK.refl _
 .cases h
theorem kB_le: ∀p a,kB p=some a->LeK p (.val (.bool a)):=by
 intro p a h;unfold kB at h;split at h
 .obtain rfl:=Zac h;exact LeK.refl _
 .cases h
theorem kT_le: ∀p a,kT p=some a->LeK p (.val (.str a)):=by
 intro p a h;unfold kT at h;split at h
 .obtain rfl:=Zac h;exact LeK.refl _
 .cases h
section
variable {A:Type}{f:List D->Option A}{e:A->List D}
theorem kR_le(hf: ∀ds x,f ds=some x->LeS ds (e x)): ∀p a,kR f p=some a->LeK p (.val (.agg (e a))):=by
 intro p a h;unfold kR at h;split at h
 .exact Qav (hf _ _ h)
 .cases h
theorem kP_le(n:Nat)(hf: ∀ds x,f ds=some x->LeS ds (e x)): ∀p a,kP f n p=some a->LeK p (.ptr (e a)):=by
 intro p a h;unfold kP at h;split at h
 .exact LeP.trans_take (hf _ _ h)
 .cases h
theorem kS_le(k:Nat)(hf: ∀ds x,f ds=some x->LeS ds (e x))(hk: ∀x,(e x).length=k): ∀p a,kS f p=some a->LeK p (.val (.sl false k (a.map e))):=by
 intro p a h;unfold kS at h;split at h
 .exact Qbf (Qa2 hf _ _ h) (by simp only[ZaJ];rintro r ⟨y,_,rfl⟩;exact hk y)
 .cases h
end
def a1{A0:Type}(f0:PK->Option A0):List PK->Option (A0)
 |[x0]=>(f0 x0).bind fun y0=>some y0
 |_=>none
theorem a1_le{A0:Type}{f0:PK->Option A0}{e0:A0->PK}(h0: ∀p a,f0 p=some a->LeK p (e0 a)): ∀ps a,a1 f0 ps=some a->LeKL ps [e0 (a)]:=by
 intro ps a h;unfold a1 at h;split at h
 .simp only[ZaM,Zae] at h;obtain⟨y0,g0,rfl⟩:=h;exact⟨h0 _ _ g0,trivial⟩
 .cases h
def a2{A0 A1:Type}(f0:PK->Option A0)(f1:PK->Option A1):List PK->Option (A0×A1)
 |[x0,x1]=>(f0 x0).bind fun y0=>(f1 x1).bind fun y1=>some (y0,y1)
 |_=>none
theorem a2_le{A0:Type}{f0:PK->Option A0}{e0:A0->PK}{A1:Type}{f1:PK->Option A1}{e1:A1->PK}(h0: ∀p a,f0 p=some a->LeK p (e0 a))(h1: ∀p a,f1 p=some a->LeK p (e1 a)): ∀ps a,a2 f0 f1 ps=some a->LeKL ps [e0 (a.1),e1 (a.2)]:=by
 intro ps a h;unfold a2 at h;split at h
 .simp only[ZaM,Zae] at h;obtain⟨y0,g0,y1,g1,rfl⟩:=h;exact⟨h0 _ _ g0,h1 _ _ g1,trivial⟩
 .cases h
def a3{A0 A1 A2:Type}(f0:PK->Option A0)(f1:PK->Option A1)(f2:PK->Option A2):List PK->Option (A0×A1×A2)
 |[x0,x1,x2]=>(f0 x0).bind fun y0=>(f1 x1).bind fun y1=>(f2 x2).bind fun y2=>some (y0,y1,y2)
 |_=>none
theorem a3_le{A0:Type}{f0:PK->Option A0}{e0:A0->PK}{A1:Type}{f1:PK->Option A1}{e1:A1->PK}{A2:Type}{f2:PK->Option A2}{e2:A2->PK}(h0: ∀p a,f0 p=some a->LeK p (e0 a))(h1: ∀p a,f1 p=some a->LeK p (e1 a))(h2: ∀p a,f2 p=some a->LeK p (e2 a)): ∀ps a,a3 f0 f1 f2 ps=some a->LeKL ps [e0 (a.1),e1 (a.2.1),e2 (a.2.2)]:=by
 intro ps a h;unfold a3 at h;split at h
 .simp only[ZaM,Zae] at h;obtain⟨y0,g0,y1,g1,y2,g2,rfl⟩:=h;exact⟨h0 _ _ g0,h1 _ _ g1,h2 _ _ g2,trivial⟩
 .cases h
def a4{A0 A1 A2 A3:Type}(f0:PK->Option A0)(f1:PK->Option A1)(f2:PK->Option A2)(f3:PK->Option A3):List PK->Option (A0×A1×A2×A3)
 |[x0,x1,x2,x3]=>(f0 x0).bind fun y0=>(f1 x1).bind fun y1=>(f2 x2).bind fun y2=>(f3 x3).bind fun y3=>some (y0,y1,y2,y3)
 |_=>none
theorem a4_le{A0:Type}{f0:PK->Option A0}{e0:A0->PK}{A1:Type}{f1:PK->Option A1}{e1:A1->PK}{A2:Type}{f2:PK->Option A2}{e2:A2->PK}{A3:Type}{f3:PK->Option A3}{e3:A3->PK}(h0: ∀p a,f0 p=some a->LeK p (e0 a))(h1: ∀p a,f1 p=some a->LeK p (e1 a))(h2: ∀p a,f2 p=some a->LeK p (e2 a))(h3: ∀p a,f3 p=some a->LeK p (e3 a)): ∀ps a,a4 f0 f1 f2 f3 ps=some a->LeKL ps [e0 (a.1),e1 (a.2.1),e2 (a.2.2.1),e3 (a.2.2.2)]:=by
 intro ps a h;unfold a4 at h;split at h
 .simp only[ZaM,Zae] at h;obtain⟨y0,g0,y1,g1,y2,g2,y3,g3,rfl⟩:=h;exact⟨h0 _ _ g0,h1 _ _ g1,h2 _ _ g2,h3 _ _ g3,trivial⟩
 .cases h
def a5{A0 A1 A2 A3 A4:Type}(f0:PK->Option A0)(f1:PK->Option A1)(f2:PK->Option A2)(f3:PK->Option A3)(f4:PK->Option A4):List PK->Option (A0×A1×A2×A3×A4)
 |[x0,x1,x2,x3,x4]=>(f0 x0).bind fun y0=>(f1 x1).bind fun y1=>(f2 x2).bind fun y2=>(f3 x3).bind fun y3=>(f4 x4).bind fun y4=>some (y0,y1,y2,y3,y4)
 |_=>none
theorem a5_le{A0:Type}{f0:PK->Option A0}{e0:A0->PK}{A1:Type}{f1:PK->Option A1}{e1:A1->PK}{A2:Type}{f2:PK->Option A2}{e2:A2->PK}{A3:Type}{f3:PK->Option A3}{e3:A3->PK}{A4:Type}{f4:PK->Option A4}{e4:A4->PK}(h0: ∀p a,f0 p=some a->LeK p (e0 a))(h1: ∀p a,f1 p=some a->LeK p (e1 a))(h2: ∀p a,f2 p=some a->LeK p (e2 a))(h3: ∀p a,f3 p=some a->LeK p (e3 a))(h4: ∀p a,f4 p=some a->LeK p (e4 a)): ∀ps a,a5 f0 f1 f2 f3 f4 ps=some a->LeKL ps [e0 (a.1),e1 (a.2.1),e2 (a.2.2.1),e3 (a.2.2.2.1),e4 (a.2.2.2.2)]:=by
 intro ps a h;unfold a5 at h;split at h
 .simp only[ZaM,Zae] at h;obtain⟨y0,g0,y1,g1,y2,g2,y3,g3,y4,g4,rfl⟩:=h;exact⟨h0 _ _ g0,h1 _ _ g1,h2 _ _ g2,h3 _ _ g3,h4 _ _ g4,trivial⟩
 .cases h
def a6{A0 A1 A2 A3 A4 A5:Type}(f0:PK->Option A0)(f1:PK->Option A1)(f2:PK->Option A2)(f3:PK->Option A3)(f4:PK->Option A4)(f5:PK->Option A5):List PK->Option (A0×A1×A2×A3×A4×A5)
 |[x0,x1,x2,x3,x4,x5]=>(f0 x0).bind fun y0=>(f1 x1).bind fun y1=>(f2 x2).bind fun y2=>(f3 x3).bind fun y3=>(f4 x4).bind fun y4=>(f5 x5).bind fun y5=>some (y0,y1,y2,y3,y4,y5)
 |_=>none
theorem a6_le{A0:Type}{f0:PK->Option A0}{e0:A0->PK}{A1:Type}{f1:PK->Option A1}{e1:A1->PK}{A2:Type}{f2:PK->Option A2}{e2:A2->PK}{A3:Type}{f3:PK->Option A3}{e3:A3->PK}{A4:Type}{f4:PK->Option A4}{e4:A4->PK}{A5:Type}{f5:PK->Option A5}{e5:A5->PK}(h0: ∀p a,f0 p=some a->LeK p (e0 a))(h1: ∀p a,f1 p=some a->LeK p (e1 a))(h2: ∀p a,f2 p=some a->LeK p (e2 a))(h3: ∀p a,f3 p=some a->LeK p (e3 a))(h4: ∀p a,f4 p=some a->LeK p (e4 a))(h5: ∀p a,f5 p=some a->LeK p (e5 a)): ∀ps a,a6 f0 f1 f2 f3 f4 f5 ps=some a->LeKL ps [e0 (a.1),e1 (a.2.1),e2 (a.2.2.1),e3 (a.2.2.2.1),e4 (a.2.2.2.2.1),e5 (a.2.2.2.2.2)]:=by
 intro ps a h;unfold a6 at h;split at h
 .simp only[ZaM,Zae] at h;obtain⟨y0,g0,y1,g1,y2,g2,y3,g3,y4,g4,y5,g5,rfl⟩:=h;exact⟨h0 _ _ g0,h1 _ _ g1,h2 _ _ g2,h3 _ _ g3,h4 _ _ g4,h5 _ _ g5,trivial⟩
 .cases h
def a7{A0 A1 A2 A3 A4 A5 A6:Type}(f0:PK->Option A0)(f1:PK->Option A1)(f2:PK->Option A2)(f3:PK->Option A3)(f4:PK->Option A4)(f5:PK->Option A5)(f6:PK->Option A6):List PK->Option (A0×A1×A2×A3×A4×A5×A6)
 |[x0,x1,x2,x3,x4,x5,x6]=>(f0 x0).bind fun y0=>(f1 x1).bind fun y1=>(f2 x2).bind fun y2=>(f3 x3).bind fun y3=>(f4 x4).bind fun y4=>(f5 x5).bind fun y5=>(f6 x6).bind fun y6=>some (y0,y1,y2,y3,y4,y5,y6)
 |_=>none
theorem a7_le{A0:Type}{f0:PK->Option A0}{e0:A0->PK}{A1:Type}{f1:PK->Option A1}{e1:A1->PK}{A2:Type}{f2:PK->Option A2}{e2:A2->PK}{A3:Type}{f3:PK->Option A3}{e3:A3->PK}{A4:Type}{f4:PK->Option A4}{e4:A4->PK}{A5:Type}{f5:PK->Option A5}{e5:A5->PK}{A6:Type}{f6:PK->Option A6}{e6:A6->PK}(h0: ∀p a,f0 p=some a->LeK p (e0 a))(h1: ∀p a,f1 p=some a->LeK p (e1 a))(h2: ∀p a,f2 p=some a->LeK p (e2 a))(h3: ∀p a,f3 p=some a->LeK p (e3 a))(h4: ∀p a,f4 p=some a->LeK p (e4 a))(h5: ∀p a,f5 p=some a->LeK p (e5 a))(h6: ∀p a,f6 p=some a->LeK p (e6 a)): ∀ps a,a7 f0 f1 f2 f3 f4 f5 f6 ps=some a->LeKL ps [e0 (a.1),e1 (a.2.1),e2 (a.2.2.1),e3 (a.2.2.2.1),e4 (a.2.2.2.2.1),e5 (a.2.2.2.2.2.1),e6 (a.2.2.2.2.2.2)]:=by
 intro ps a h;unfold a7 at h;split at h
 .simp only[ZaM,Zae] at h;obtain⟨y0,g0,y1,g1,y2,g2,y3,g3,y4,g4,y5,g5,y6,g6,rfl⟩:=h;exact⟨h0 _ _ g0,h1 _ _ g1,h2 _ _ g2,h3 _ _ g3,h4 _ _ g4,h5 _ _ g5,h6 _ _ g6,trivial⟩
 .cases h
def vTup4{A B E F:Type}(f:D->Option A)(g:D->Option B)(k:D->Option E)(m:D->Option F):D->Option (A×B×E×F)
 | .tup [x,y,z,w]=>(f x).bind fun a=>(g y).bind fun b=>(k z).bind fun c=>(m w).bind fun d=>some (a,b,c,d)
 |_=>none
theorem vTup4_le{A B E F:Type}{f:D->Option A}{g:D->Option B}{k:D->Option E}{m:D->Option F}{e:A->D}{e':B->D}{e'':E->D}{e3:F->D}(hf: ∀d x,f d=some x->Le d (e x))(hg: ∀d x,g d=some x->Le d (e' x))(hk: ∀d x,k d=some x->Le d (e'' x))(hm: ∀d x,m d=some x->Le d (e3 x)):
 ∀d (x:A×B×E×F),vTup4 f g k m d=some x->Le d (.tup [e x.1,e' x.2.1,e'' x.2.2.1,e3 x.2.2.2]):=by
 intro d x h;unfold vTup4 at h;split at h
 .simp only[ZaM,Zae] at h;obtain⟨a,h1,b,h2,c,h3,w,h4,rfl⟩:=h;exact le_tup ⟨hf _ _ h1,hg _ _ h2,hk _ _ h3,hm _ _ h4,trivial⟩
 .cases h
theorem Bond.c_n(x:Bond):(Bond.c x).length=3:=rfl
theorem Opt.c_n(x:Opt):(Opt.c x).length=3:=rfl
theorem Qab.c_n(x:Qab):(Qab.c x).length=3:=rfl
theorem Qae.c_n(x:Qae):(Qae.c x).length=2:=rfl
theorem Qant(x:Int):(intC x).length=1:=rfl
theorem Qaoj(x:List Int):(Qcd x).length=1:=rfl
structure QK(A:Type) where
 d:PK->Option A
 e:A->PK
 l: ∀p a,d p=some a->LeK p (e a)
def qI:QK Int:=⟨kI,fun a=> .val (.int .i64 a),kI_le⟩
def qU:QK Int:=⟨kU,fun a=> .val (.int .u64 a),kU_le⟩
def qY:QK Int:=⟨kY,fun a=> .val (.int .u8 a),kY_le⟩
def qB:QK Bool:=⟨kB,fun a=> .val (.bool a),kB_le⟩
def qT:QK ByteArray:=⟨kT,fun a=> .val (.str a),kT_le⟩
section
variable {A:Type}{f:List D->Option A}{e:A->List D}
def qR(h: ∀ds x,f ds=some x->LeS ds (e x)):QK A:=⟨kR f,fun a=> .val (.agg (e a)),kR_le h⟩
def qP(n:Nat)(h: ∀ds x,f ds=some x->LeS ds (e x)):QK A:=⟨kP f n,fun a=> .ptr (e a),kP_le n h⟩
def qS{k:Nat}(h: ∀ds x,f ds=some x->LeS ds (e x))(hk: ∀x,(e x).length=k):QK (List A):=⟨kS f,fun a=> .val (.sl false k (a.map e)),kS_le k h hk⟩
end
structure AK(A:Type) where
 r:List PK->Option A
 e:A->List PK
 l: ∀ps a,r ps=some a->LeKL ps (e a)
 n:Nat
 w: ∀a,(e a).length=n
def b1{A0:Type}(p0:QK A0):AK (A0):=⟨a1 p0.d,fun a=>[p0.e (a)],a1_le p0.l,1,fun _=>rfl⟩
def b2{A0 A1:Type}(p0:QK A0)(p1:QK A1):AK (A0×A1):=⟨a2 p0.d p1.d,fun a=>[p0.e (a.1),p1.e (a.2)],a2_le p0.l p1.l,2,fun _=>rfl⟩
def b3{A0 A1 A2:Type}(p0:QK A0)(p1:QK A1)(p2:QK A2):AK (A0×A1×A2):=⟨a3 p0.d p1.d p2.d,fun a=>[p0.e (a.1),p1.e (a.2.1),p2.e (a.2.2)],a3_le p0.l p1.l p2.l,3,fun _=>rfl⟩
def b4{A0 A1 A2 A3:Type}(p0:QK A0)(p1:QK A1)(p2:QK A2)(p3:QK A3):AK (A0×A1×A2×A3):=⟨a4 p0.d p1.d p2.d p3.d,fun a=>[p0.e (a.1),p1.e (a.2.1),p2.e (a.2.2.1),p3.e (a.2.2.2)],a4_le p0.l p1.l p2.l p3.l,4,fun _=>rfl⟩
def b5{A0 A1 A2 A3 A4:Type}(p0:QK A0)(p1:QK A1)(p2:QK A2)(p3:QK A3)(p4:QK A4):AK (A0×A1×A2×A3×A4):=⟨a5 p0.d p1.d p2.d p3.d p4.d,fun a=>[p0.e (a.1),p1.e (a.2.1),p2.e (a.2.2.1),p3.e (a.2.2.2.1),p4.e (a.2.2.2.2)],a5_le p0.l p1.l p2.l p3.l p4.l,5,fun _=>rfl⟩
def b6{A0 A1 A2 A3 A4 A5:Type}(p0:QK A0)(p1:QK A1)(p2:QK A2)(p3:QK A3)(p4:QK A4)(p5:QK A5):AK (A0×A1×A2×A3×A4×A5):=⟨a6 p0.d p1.d p2.d p3.d p4.d p5.d,fun a=>[p0.e (a.1),p1.e (a.2.1),p2.e (a.2.2.1),p3.e (a.2.2.2.1),p4.e (a.2.2.2.2.1),p5.e (a.2.2.2.2.2)],a6_le p0.l p1.l p2.l p3.l p4.l p5.l,6,fun _=>rfl⟩
def b7{A0 A1 A2 A3 A4 A5 A6:Type}(p0:QK A0)(p1:QK A1)(p2:QK A2)(p3:QK A3)(p4:QK A4)(p5:QK A5)(p6:QK A6):AK (A0×A1×A2×A3×A4×A5×A6):=⟨a7 p0.d p1.d p2.d p3.d p4.d p5.d p6.d,fun a=>[p0.e (a.1),p1.e (a.2.1),p2.e (a.2.2.1),p3.e (a.2.2.2.1),p4.e (a.2.2.2.2.1),p5.e (a.2.2.2.2.2.1),p6.e (a.2.2.2.2.2.2)],a7_le p0.l p1.l p2.l p3.l p4.l p5.l p6.l,7,fun _=>rfl⟩
structure RK(B:Type) where
 c:D->Option B
 e:B->D
 l: ∀d b,c d=some b->Le d (e b)
def rI:RK Int:=⟨vInt,D.int .i64,Qa3⟩
def rB:RK Bool:=⟨Qa8,D.bool,Qat⟩
def rT:RK ByteArray:=⟨vStr,D.str,vStr_le⟩
section
variable {A:Type}{f:List D->Option A}{e:A->List D}
def rA(h: ∀ds x,f ds=some x->LeS ds (e x)):RK A:=⟨vAgg f,fun b=>D.agg (e b),vAgg_le h⟩
def rS{k:Nat}(h: ∀ds x,f ds=some x->LeS ds (e x))(hk: ∀x,(e x).length=k):RK (List A):=⟨vSl f,fun b=>D.sl false k (b.map e),vSl_le h hk⟩
end
def r2{A B:Type}(p:RK A)(q:RK B):RK (A×B):=⟨Qfa p.c q.c,fun b=>D.tup [p.e b.1,q.e b.2],Qbz p.l q.l⟩
def r3{A B C:Type}(p:RK A)(q:RK B)(r:RK C):RK (A×B×C):=⟨vTup3 p.c q.c r.c,fun b=>D.tup [p.e b.1,q.e b.2.1,r.e b.2.2],vTup3_le p.l q.l r.l⟩
def r4{A B C E:Type}(p:RK A)(q:RK B)(r:RK C)(s:RK E):RK (A×B×C×E):=⟨vTup4 p.c q.c r.c s.c,fun b=>D.tup [p.e b.1,q.e b.2.1,r.e b.2.2.1,s.e b.2.2.2],vTup4_le p.l q.l r.l s.l⟩
theorem tN{P:Program}:Qkj P (tab []):=Qaaq [] (by simp)
theorem tC{P:Program}{g:Nat}{r:Row}{l:List (Nat×Row)}(h:Qas P g r)(hl:Qkj P (tab l)):Qkj P (tab ((g,r)::l)):=by
 intro g' args h' nx K hk;simp only[tab] at hk;split at hk
 .rename_i he;subst he;exact h _ _ _ _ hk
 .exact hl _ _ _ _ _ hk
def ZA0:=J @VC0<|J @VC1<|J @VC2<|J @VC3<|J @VC4<|J @VC5<|J @VC6<|J @VC7<|J @VC8<|J @VC9<|J @VC10<|J @VC11<|J @VC12<|J @VC13<|J @VC14<|J @VC15<|J @VC16<|J @VC17<|J @VC18<|J @VC19<|J @VC20<|J @VC21<|J @VC22<|@VC23
def ZA1:=J @VC24<|J @VC25<|J @VC26<|J @VC27<|J @VC28<|J @VC29<|J @VC30<|J @VC31<|J @VC32<|J @VC33<|J @VC34<|J @VC35<|J @VC36<|J @VC37<|J @VC38<|J @VC39<|J @VC40<|J @VC41<|J @VC42<|J @VC43<|J @Zdp.{0}<|J @ZbZ<|J @Bool.not_eq_false'<|@AV.im.injEq
def ZA2:=J @D.int.injEq<|J @D.bool.injEq<|J @D.str.injEq<|J @D.sl.injEq<|J @D.agg.injEq<|J @AV.own.injEq<|J @AV.ptr.injEq<|J @Zbg.{0,0}<|J @AObj.cells.injEq<|J @AObj.arr.injEq<|J @Zdj.{0}<|J @Int.cast_ofNat_Int<|J @Int.ofNat_lt<|J @Int.ofNat_le<|J @Int.natCast_nonneg<|J @ZdK<|J @Zct<|J @Zah<|J @ZbX<|J @blt_dec<|J @ble_dec<|J @decide_true<|J @ZdL<|@Zar
def ZA3:=J @Zbb<|J @Zcl<|J @Zaq.{0,0}<|J @ZaG.{0,0}<|J @Zcb.{0}<|J @Zci.{0}<|J @ZbI.{0}<|J @Zbk.{0}<|J @Zfk.{0}<|J @Zfl.{0}<|J @Zbf.{1}<|J @ZaS.{1}<|J @ZaV.{0}<|J @Zba.{0}<|J @ne_eq.{1}<|J @Zbi.{0}<|J @ZaA.{0}<|J @ZaK.{0}<|J @ZaE.{0}<|J @ZbB.{0}<|J @and_true<|J @Zdi<|J @ZdW<|@not_true_eq_false
def ZA4:=J @or_true<|J @true_or<|J @ZaU<|J @ZbR<|J @Zds<|J @ZdQ<|J @false_or<|J @ZcQ.{0}<|J @ZcG.{0}<|J @ZcK<|J @ZeT<|J @Zey<|J @Zef<|J @ZdM<|J @ZcJ<|J @true_implies<|J @false_implies<|J @ZbK.{0,0}<|J @ZaX<|J @Zbj<|J @Zbu<|J @ZdA<|J @ZcT.{0}<|@Option.isSome_some.{0}
def ZA5:=J @Bool.false_bne<|J @Bool.true_bne<|J @Bool.not_not<|J @Zap<|J @Zam<|J @eq_self.{1}<|J @ZeO.{0}<|J @Bool.true_eq_false<|J @ZaB<|J @TY0<|J @TY1<|J @TY2<|J @TY3<|J @TY4<|J @KY0<|J @KY1<|J @CY0<|J @isG.eq_1<|J @qI.eq_1<|J @qU.eq_1<|J @qY.eq_1<|J @qB.eq_1<|J @qT.eq_1<|@qR.eq_1
def ZA6:=J @qP.eq_1<|J @qS.eq_1<|J @b1.eq_1<|J @b2.eq_1<|J @b3.eq_1<|J @b4.eq_1<|J @b5.eq_1<|J @b6.eq_1<|J @b7.eq_1<|J @rI.eq_1<|J @rB.eq_1<|J @rT.eq_1<|J @rA.eq_1<|J @rS.eq_1<|J @r2.eq_1<|J @r3.eq_1<|J @r4.eq_1<|J @vTup4.eq_1<|J @vTup4.eq_2<|J @kI.eq_1<|J @kI.eq_2<|J @kU.eq_1<|J @kU.eq_2<|@kY.eq_1
def ZA7:=J @kY.eq_2<|J @kB.eq_1<|J @kB.eq_2<|J @kT.eq_1<|J @kT.eq_2<|J @kR.eq_1<|J @kR.eq_2<|J @kP.eq_1<|J @kP.eq_2<|J @kS.eq_1<|J @kS.eq_2<|J @a1.eq_1<|J @a1.eq_2<|J @a2.eq_1<|J @a2.eq_2<|J @a3.eq_1<|J @a3.eq_2<|J @a4.eq_1<|J @a4.eq_2<|J @a5.eq_1<|J @a5.eq_2<|J @a6.eq_1<|J @a6.eq_2<|@a7.eq_1
def ZA8:=J @a7.eq_2<|J @decR.eq_1<|J @decR.eq_2<|J @RowVC_map<|J @intD.eq_1<|J @intD.eq_2<|J @strD.eq_1<|J @strD.eq_2<|J @intC.eq_1<|J @strC.eq_1<|J @Qmp<|J @strD_R<|J @vInt.eq_1<|J @vInt.eq_2<|J @vStr.eq_1<|J @vStr.eq_2<|J @Qa8.eq_1<|J @Qa8.eq_2<|J @vSl.eq_1<|J @vSl.eq_2<|J @vAgg.eq_1<|J @vAgg.eq_2<|J @Qfa.eq_1<|@Qfa.eq_2
def ZA9:=J @vTup3.eq_1<|J @vTup3.eq_2<|J @Qae.c.eq_1<|J @Qae.d.eq_1<|J @Qae.d.eq_2<|J @Qab.c.eq_1<|J @Qab.d.eq_1<|J @Qab.d.eq_2<|J @Qab.d_R<|J @Asm.c.eq_1<|J @Glue.c.eq_1<|J @Glue.d.eq_1<|J @Glue.d.eq_2<|J @Glue.d_R<|J @Tile.c.eq_1<|J @Tile.d.eq_1<|J @Tile.d.eq_2<|J @Tile.d_R<|J @Qaa.c.eq_1<|J @Qaa.d.eq_1<|J @Qaa.d.eq_2<|J @Qar.c.eq_1<|J @Qar.d.eq_1<|@Qar.d.eq_2
def ZA10:=J @Opt.c.eq_1<|J @Opt.d.eq_1<|J @Opt.d.eq_2<|J @Opt.d_R<|J @Sim.c.eq_1<|J @Sim.d.eq_1<|J @Sim.d.eq_2<|J @Bond.c.eq_1<|J @Bond.d.eq_1<|J @Bond.d.eq_2<|J @Bond.d_R<|J @ZaO.{0,0}<|J @Zae.{0}<|J @Zbr.{0,0}<|J @Qae.d_R<|J @Qae.eta<|J @Qab.eta<|J @Asm.eta<|J @Glue.eta<|J @Tile.eta<|J @Qaa.eta<|J @Qar.eta<|J @Opt.eta<|@Sim.eta
def ZA11:=J @Bond.eta<|J @Cry.c.eq_1<|J @Cry.d.eq_1<|J @Cry.d.eq_2<|J @Cry.eta<|J @Qmt<|J @Qk8<|J @Qqj<|J @rchL_nil<|J @rchL_cons<|J @rchE.eq_1<|J @rchE.eq_2<|J @rchE.eq_3<|J @ZbN.{0,0}<|@ZdE.{0,0}
def ZA:=J @ZA0<|J @ZA1<|J @ZA2<|J @ZA3<|J @ZA4<|J @ZA5<|J @ZA6<|J @ZA7<|J @ZA8<|J @ZA9<|J @ZA10<|@ZA11
def ZT0:=J @ChVC.eq_1<|J @Qcd.eq_1<|J @Qpb.eq_1<|J @Qpb.eq_2<|J @sintD_R<|J @Net.c.eq_1<|J @Net.d.eq_1<|J @Net.d.eq_2<|J @Net.eta<|J @Nwk.c.eq_1<|J @Nwk.d.eq_1<|J @Nwk.d.eq_2<|J @Nwk.eta<|J @Pld.c.eq_1<|J @Pld.d.eq_1<|J @Pld.d.eq_2<|J @Qajo.c.eq_1<|J @Qajo.d.eq_1<|J @Qajo.d.eq_2<|J @Frac.c.eq_1<|J @Frac.d.eq_1<|J @Frac.d.eq_2<|J @Pld.eta<|@Qajo.eta
def ZT1:= @Frac.eta
def ZT:=J @ZT0 (@ZT1)
def ORC:=J @OneR_map<|J @Qag<|J @Qac<|J @Qaf @OneR_imp
def ORB:=J ORC (J @Zak.{0} @ZbE.{0})
theorem Adq(b:Bool)(k:Nat)(x:List (List D)):Asm.d [.sl b k x]=(decR Qab.d x).bind fun y=>some ⟨y⟩:=rfl
def ZZ:=J ZA (J ZT @Adq)
theorem vq{A:Type}{ar:List PK->Option A}{pre:A->Prop}{re:A->D}(r:Row)(e:r=vrow ar pre re)(a:List AV)(h:Nat->Option Ent)(n:Nat)(K:Kont):r a h n K=Qa1 ar pre re (nmsL a) K (pkL h a):=by rw[e];rfl
theorem vqF{A:Type}{ar:List PK->Option A}{pre:A->Prop}{re:A->D}(r:Row)(e:r=Qfi ar pre re)(a:List AV)(h:Nat->Option Ent)(n:Nat)(K:Kont):r a h n K=Qct ar pre re (rchL h a) K (pkFL h a):=by rw[e];rfl
end Go.Ae
namespace Go.Ae
open Go.Proofs
def vK{A B:Type}(k:AK A)(r:RK B)(pre:A->Prop)(f:A->B):Row:=vrow k.r pre fun a=>r.e (f a)
def vKF{A B:Type}(k:AK A)(r:RK B)(pre:A->Prop)(f:A->B):Row:=Qfi k.r pre fun a=>r.e (f a)
section
variable {A B:Type}{R:Row}{k:AK A}{r:RK B}{pre:A->Prop}{f:A->B}
theorem vKq(e:R=vK k r pre f)(a:List AV)(h:Nat->Option Ent)(n:Nat)(K:Kont):R a h n K=Qa1 k.r pre (fun a=>r.e (f a)) (nmsL a) K (pkL h a):=by rw[e];rfl
theorem vKFq(e:R=vKF k r pre f)(a:List AV)(h:Nat->Option Ent)(n:Nat)(K:Kont):R a h n K=Qct k.r pre (fun a=>r.e (f a)) (rchL h a) K (pkFL h a):=by rw[e];rfl
variable {V:Qbh}(hV:Qkj Tryz.prog V){g:FuncId}{fn:Func}{c:Code}(hf:Tryz.prog.funcs[g]? =some fn)(hb:fn.body=some c)(hc:(chk fn.ntmps c && (calb Tryz.prog g && Nat.ble k.n fn.ntmps))=true)
include hV hf hb hc
theorem vw(hk: ∀a,pre a->awp Tryz.prog V c (retQ Tryz.prog fn.results.toList (cnum (k.e a)) [] exNo (Qc5 0 (k.e a)) (pureR r.c (f a))) ⟨entry 0 (Qcq 0 (k.e a)),Qc5 0 (k.e a),cnum (k.e a)⟩):Qas Tryz.prog g (vK k r pre f):=by
 simp only[Zah] at hc;exact Qaj Qaq hV hf hb hc.1 hc.2.1 k.l k.w (ZcP hc.2.2) r.l hk
theorem vwF(hk: ∀a,pre a->awp Tryz.prog V c (Qxj Tryz.prog fn.results.toList (decD r.c (f a))) ⟨entry 0 (Qcq 0 (k.e a)),Qc5 0 (k.e a),cnum (k.e a)⟩):Qas Tryz.prog g (vKF k r pre f):=by
 simp only[Zah] at hc;exact Qbn Qaq hV hf hb hc.1 hc.2.1 k.l k.w (ZcP hc.2.2) r.l hk
end
section
variable {V:Qbh}(hV:Qkj Tryz.prog V){g:FuncId}{fn:Func}{c:Code}(hf:Tryz.prog.funcs[g]? =some fn)(hb:fn.body=some c)(hc:(chk fn.ntmps c && calb Tryz.prog g)=true)
 {A:Type}{ca:A->List AV}{H0 H1:A->Qan}{k cnt:Nat}{pre:A->Prop}{klB exB:Nat->Bool}{r0:A->AV}{R:A->AV->Prop}
 (hn: ∀a,Nat.ble (ca a).length fn.ntmps=true)(hq: ∀a,belL k (ca a)=true/\belH k (H0 a)=true/\Qam k (H0 a)=true/\Qc2 (H0 a) (H0 a))
 (hH1: ∀a,∀p∈H1 a,(p.1<k/\klB p.1=true/\domB (H0 a) p.1=true)\/(k<=p.1/\p.1<k+cnt/\exB p.1=true/\p.2.1=true))
 (hR: ∀a r,R a r->LeV r (r0 a))
include hV hf hb hc hn hq hH1 hR
theorem ow(hk: ∀a,pre a->awp Tryz.prog V c (Qabl Tryz.prog fn.results.toList k cnt (H0 a) (H1 a) klB exB (R a)) ⟨entry 0 (ca a),H0 a,k⟩):Qas Tryz.prog g (orow ca H0 k pre klB r0 H1 cnt):=by
 simp only[Zah] at hc;rintro args h nx K ⟨a,τ,U,KL,hpre,rfl,hheap,hN,hK⟩;refine⟨Qh7 hc.2,_,_,?_,hK⟩;exact objG Qaq hV hf hb hc.1 (ZcP (hn a)) (hq a).1 (hq a).2.1 (hq a).2.2.1 (fun j e he=>Qo2 (hq a).2.2.2 j e (Qgz he)) (hR a) (hH1 a) retBQ_ok (fun _ _ h=>h) (hk a hpre) hN.inj hN.lt
  (fun j e he=>Qpk hheap j e (Qgz he)) hN.u hN.k1 hN.k2
theorem owN(hk: ∀a,pre a->awp Tryz.prog V c (Qc7 Tryz.prog fn.results.toList k cnt (H0 a) (H1 a) klB exB (R a)) ⟨entry 0 (ca a),H0 a,k⟩):Qas Tryz.prog g (orow ca H0 k pre klB r0 H1 cnt):=by
 simp only[Zah] at hc;rintro args h nx K ⟨a,τ,U,KL,hpre,rfl,hheap,hN,hK⟩;refine⟨Qh7 hc.2,_,_,?_,hK⟩;exact objG Qaq hV hf hb hc.1 (ZcP (hn a)) (hq a).1 (hq a).2.1 (hq a).2.2.1 (fun j e he=>Qo2 (hq a).2.2.2 j e (Qgz he)) (hR a) (hH1 a) retNQ_ok (fun _ _ h=>h) (hk a hpre) hN.inj hN.lt
  (fun j e he=>Qpk hheap j e (Qgz he)) hN.u hN.k1 hN.k2
end
def Qau(n lo hi:Int):Bool:=decide (lo<=n) && decide (n<=hi)
def within_.fv(a:Int×Int×Int):Bool:=(Qau) (a.1) (a.2.1) (a.2.2)
def within_.row:Row:=vK (b3 qI qI qI) rB (fun a=>True) within_.fv
def within_.q:=vKq (R:=within_.row) rfl
theorem within_.ok:Qas Tryz.prog 69 within_.row:=by
 refine vw tN Tryz.func69 rfl (by kernel_rfl) ?_;intro a hpre;simp only[Tryz.f69,Option.getD];simp(maxSteps:=9^9)(disch:=omega)only[ZZ,simprocAttr,rch,within_.fv];simp only[Qau];grind
def l00In.fv(a:Int×Int×Int):Bool:=(Qau) (a.1) (a.2.1) (a.2.2)
def l00In.row:Row:=vK (b3 qI qI qI) rB (fun a=>True) l00In.fv
def l00In.q:=vKq (R:=l00In.row) rfl
theorem l00In.ok:Qas Tryz.prog 20 l00In.row:=by
 refine vw tN Tryz.func20 rfl (by kernel_rfl) ?_;intro a hpre;simp only[Tryz.f20,Option.getD];simp(maxSteps:=9^9)(disch:=omega)only[ZZ,simprocAttr,rch,l00In.fv];simp only[Qau];grind
def I64(n:Int):Prop:= -9223372036854775808<=n/\n<=9223372036854775807
def isIndex.fv(a:Int×Int):Bool:=Qau a.1 0 (a.2 - 1)
def isIndex.row:Row:=vK (b2 qI qI) rB (fun a=>0<=a.2/\I64 a.2) isIndex.fv
def isIndex.q:=vKq (R:=isIndex.row) rfl
theorem isIndex.ok:Qas Tryz.prog 36 isIndex.row:=by
 refine vw (tC within_.ok tN) Tryz.func36 rfl (by kernel_rfl) ?_;intro a hpre;simp only[Tryz.f36,Option.getD];simp(maxSteps:=9^9)(disch:=omega)only[ZZ,simprocAttr,rch,isIndex.fv,within_.q,within_.fv];obtain⟨h1,h2,h3⟩:=hpre;rw[Qak (by omega) (by omega)]
def Qbi(p:Qae):Bool:=Qau p.X (-60) 60 && Qau p.Y (-60) 60
def ValidPoint.fv(a:Qae):Bool:=(Qbi) a
def ValidPoint.row:Row:=vK (b1 (qR Qae.d_le)) rB (fun a=>True) ValidPoint.fv
def ValidPoint.q:=vKq (R:=ValidPoint.row) rfl
theorem ValidPoint.ok:Qas Tryz.prog 66 ValidPoint.row:=by
 refine vw (tC within_.ok tN) Tryz.func66 rfl (by kernel_rfl) ?_;intro a hpre;simp only[Tryz.f66,Option.getD];simp(maxSteps:=9^9)(disch:=omega)only[ZZ,simprocAttr,rch,ValidPoint.fv,within_.q,within_.fv];simp only[Qbi];grind
def l01Point.fv(a:Qae):Bool:=(Qbi) a
def l01Point.row:Row:=vK (b1 (qR Qae.d_le)) rB (fun a=>True) l01Point.fv
def l01Point.q:=vKq (R:=l01Point.row) rfl
theorem l01Point.ok:Qas Tryz.prog 116 l01Point.row:=by
 refine vw (tC l00In.ok tN) Tryz.func116 rfl (by kernel_rfl) ?_;intro a hpre;simp only[Tryz.f116,Option.getD];simp(maxSteps:=9^9)(disch:=omega)only[ZZ,simprocAttr,rch,l01Point.fv,l00In.q,l00In.fv];simp only[Qbi];grind
def isNaN.fv(a:Int):Bool:=false && a==0
def isNaN.row:Row:=vK (b1 qI) rB (fun a=>True) isNaN.fv
def isNaN.q:=vKq (R:=isNaN.row) rfl
theorem isNaN.ok:Qas Tryz.prog 144 isNaN.row:=by
 refine vw tN Tryz.func144 rfl (by kernel_rfl) ?_;intro a hpre;simp only[Tryz.f144,Option.getD];simp(maxSteps:=9^9)(disch:=omega)only[ZZ,simprocAttr,rch,isNaN.fv]
 try simp
def cmpI(a b:Int):Int:=if a<b then -1 else if b<a then 1 else 0
def Compare.fv(a:Int×Int):Int:=(cmpI) (a.1) (a.2)
def Compare.row:Row:=vK (b2 qI qI) rI (fun a=>True) Compare.fv
def Compare.q:=vKq (R:=Compare.row) rfl
theorem Compare.ok:Qas Tryz.prog 138 Compare.row:=by
 refine vw (tC isNaN.ok tN) Tryz.func138 rfl (by kernel_rfl) ?_;intro a hpre;simp only[Tryz.f138,Option.getD];simp(maxSteps:=9^9)(disch:=omega)only[ZZ,simprocAttr,rch,Compare.fv,isNaN.q,isNaN.fv];simp only[cmpI];grind
def Qap(a b:Qae):Bool:=decide (a.Y<b.Y)||(decide (a.Y=b.Y) && decide (a.X<b.X))
def l_LessPoint.fv(a:Qae×Qae):Bool:=(Qap) (a.1) (a.2)
def l_LessPoint.row:Row:=vK (b2 (qR Qae.d_le) (qR Qae.d_le)) rB (fun a=>True) l_LessPoint.fv
def l_LessPoint.q:=vKq (R:=l_LessPoint.row) rfl
theorem l_LessPoint.ok:Qas Tryz.prog 117 l_LessPoint.row:=by
 refine vw tN Tryz.func117 rfl (by kernel_rfl) ?_;intro a hpre;simp only[Tryz.f117,Option.getD];simp(maxSteps:=9^9)(disch:=omega)only[ZZ,simprocAttr,rch,l_LessPoint.fv];simp only[Qap]
 grind
def minI(a b:Int):Int:=if a<b then a else b
def maxI(a b:Int):Int:=if b<a then a else b
def l00Min.fv(a:Int×Int):Int:=(minI) (a.1) (a.2)
def l00Min.row:Row:=vK (b2 qI qI) rI (fun a=>True) l00Min.fv
def l00Min.q:=vKq (R:=l00Min.row) rfl
theorem l00Min.ok:Qas Tryz.prog 119 l00Min.row:=by
 refine vw tN Tryz.func119 rfl (by kernel_rfl) ?_;intro a hpre;simp only[Tryz.f119,Option.getD];simp(maxSteps:=9^9)(disch:=omega)only[ZZ,simprocAttr,rch,l00Min.fv];simp only[minI];grind
def l00Max.fv(a:Int×Int):Int:=(maxI) (a.1) (a.2)
def l00Max.row:Row:=vK (b2 qI qI) rI (fun a=>True) l00Max.fv
def l00Max.q:=vKq (R:=l00Max.row) rfl
theorem l00Max.ok:Qas Tryz.prog 61 l00Max.row:=by
 refine vw tN Tryz.func61 rfl (by kernel_rfl) ?_;intro a hpre;simp only[Tryz.f61,Option.getD];simp(maxSteps:=9^9)(disch:=omega)only[ZZ,simprocAttr,rch,l00Max.fv];simp only[maxI];grind
def Qlk(c:Int):Bool:=Qau c 97 122||Qau c 65 90
def Qtq(c:Int):Bool:=Qau c 48 57
def l01Letter.fv(a:Int):Bool:=(Qlk) a
def l01Letter.row:Row:=vK (b1 qY) rB (fun a=>True) l01Letter.fv
def l01Letter.q:=vKq (R:=l01Letter.row) rfl
theorem l01Letter.ok:Qas Tryz.prog 114 l01Letter.row:=by
 refine vw tN Tryz.func114 rfl (by kernel_rfl) ?_;intro a hpre;simp only[Tryz.f114,Option.getD];simp(maxSteps:=9^9)(disch:=omega)only[ZZ,simprocAttr,rch,l01Letter.fv];simp only[Qlk,Qau];grind
def l01Digit.fv(a:Int):Bool:=(Qtq) a
def l01Digit.row:Row:=vK (b1 qY) rB (fun a=>True) l01Digit.fv
def l01Digit.q:=vKq (R:=l01Digit.row) rfl
theorem l01Digit.ok:Qas Tryz.prog 115 l01Digit.row:=by
 refine vw tN Tryz.func115 rfl (by kernel_rfl) ?_;intro a hpre;simp only[Tryz.f115,Option.getD];simp(maxSteps:=9^9)(disch:=omega)only[ZZ,simprocAttr,rch,l01Digit.fv];simp only[Qtq,Qau];grind
def addP(a b:Qae):Qae:=⟨a.X+b.X,a.Y+b.Y⟩
def Qdy(p:Qae):Prop:= -1000000000<=p.X/\p.X<=1000000000/\ -1000000000<=p.Y/\p.Y<=1000000000
def plus.fv(a:Qae×Qae):Qae:=(addP) (a.1) (a.2)
def plus.row:Row:=vK (b2 (qR Qae.d_le) (qR Qae.d_le)) (rA Qae.d_le) (fun a=>Qdy a.1/\Qdy a.2) plus.fv
def plus.q:=vKq (R:=plus.row) rfl
theorem plus.ok:Qas Tryz.prog 87 plus.row:=by
 refine vw tN Tryz.func87 rfl (by kernel_rfl) ?_;intro a hpre;simp only[Tryz.f87,Option.getD];simp(maxSteps:=9^9)(disch:=omega)only[ZZ,simprocAttr,rch,plus.fv];obtain⟨⟨h1,h2,h3,h4⟩,h5,h6,h7,h8⟩:=hpre;rw[Qak (by omega) (by omega),Qak (by omega) (by omega)];rfl
def Qf7(p:Qae)(d:Int):Qae:=if d=0 then ⟨p.X,p.Y+1⟩ else if d=1 then ⟨p.X+1,p.Y⟩ else if d=2 then ⟨p.X,p.Y - 1⟩ else ⟨p.X - 1,p.Y⟩
def step_.rc:D->Option (Qae):=vAgg Qae.d
def step_.re:Qae->D:=fun b=>D.agg (Qae.c b)
theorem step_.rle: ∀d b,step_.rc d=some b->Le d (step_.re b):=vAgg_le Qae.d_le
def step_.ar:List PK->Option (Qae×Int):=a2 (kR Qae.d) kI
def step_.fv(a:Qae×Int):Qae:=(Qf7) (a.1) (a.2)
def step_.row:Row:=vK (b2 (qR Qae.d_le) qI) (RK.mk step_.rc step_.re step_.rle) (fun a=>Qdy a.1/\0<=a.2/\a.2<=3) step_.fv
def step_.q:=vKq (R:=step_.row) rfl
theorem step_.ok:Qas Tryz.prog 56 step_.row:=by
 refine vw (tC plus.ok tN) Tryz.func56 rfl (by kernel_rfl) ?_;intro a hpre;simp only[Tryz.f56,Option.getD];obtain⟨p,d⟩:=a;obtain⟨hp,h1,h2⟩:=hpre;simp only at h1 h2 hp;rcases (by omega:d=0\/d=1\/d=2\/d=3) with rfl|rfl|rfl|rfl
 all_goals
  simp(maxSteps:=9^9)(disch:=omega)only[ZZ,simprocAttr,rch,step_.fv,step_.rc,plus.q,plus.fv];obtain⟨h3,h4,h5,h6⟩:=hp;refine⟨⟨⟨h3,h4,h5,h6⟩,by simp[Qdy]⟩,?_⟩;simp[Qf7,addP]<;>omega
def l01Step.fv(a:Qae×Int):Qae:=(Qf7) (a.1) (a.2)
def l01Step.row:Row:=vK (b2 (qR Qae.d_le) qI) (rA Qae.d_le) (fun a=>Qdy a.1/\0<=a.2/\a.2<=3) l01Step.fv
def l01Step.q:=vKq (R:=l01Step.row) rfl
theorem l01Step.ok:Qas Tryz.prog 63 l01Step.row:=by
 refine vw tN Tryz.func63 rfl (by kernel_rfl) ?_;intro a hpre;simp only[Tryz.f63,Option.getD];simp(maxSteps:=9^9)(disch:=omega)only[ZZ,simprocAttr,rch,l01Step.fv];obtain⟨⟨h1,h2,h3,h4⟩,h5,h6⟩:=hpre;rw[Qak (by omega) (by omega),Qak (by omega) (by omega),Qak (by omega) (by omega),Qak (by omega) (by omega)];simp only[Qf7]
 grind
def Qgr:List Int->Int
 |[]=>0
 |x::r=>if x=0 then Qgr r else x
def Or.fv(a:(List Int)):Int:=(Qgr) a
def Or.row:Row:=vK (b1 (qS Qb3 Qant)) rI (fun a=>True) Or.fv
def Or.q:=vKq (R:=Or.row) rfl
theorem Or.ok:Qas Tryz.prog 137 Or.row:=by
 refine vw tN Tryz.func137 rfl (by kernel_rfl) ?_;intro a hpre;simp only[Tryz.f137,Option.getD];simp(maxSteps:=9^9)(disch:=omega)only[ZZ,simprocAttr,rch,Or.fv];intro hlen;refine Qay.old ⟨{k:Nat//k<=a.length/\Qgr (a.drop k)=Qgr a},fun k=>⟨[(8,.im (.int .i64 k.1)),(7,.im (.int .i64 a.length)),(6,.im (.sl false 1 (a.map intC))),(3,.im (.int .i64 0)),(2,.im (.int .i64 0))],[],0⟩,fun k=>a.length - k.1,fun k=>⟨by simp[Qad.good,belT,belH,Qam,AV.bel,belL],Zap _⟩,⟨⟨0,by simp⟩,by simp(maxSteps:=9^9)(disch:=omega)only[ZZ,simprocAttr,rch,Or.fv,sub]⟩,fun k=> ?_⟩;obtain⟨k,hk1,hk2⟩:=k;simp(maxSteps:=9^9)(disch:=omega)only[ZZ,simprocAttr,rch,Or.fv,sub];simp only[Qal];refine⟨fun hk=>⟨hk,fun x hx=> ?_⟩,fun hk=> ?_⟩
 .have h1:a.drop k=x::a.drop (k+1):=by
   rw[Zcv hk];rw[Zad hk] at hx;rw[Zac hx]
  rw[h1,Qgr] at hk2;refine⟨fun h=>by grind,fun h=>⟨⟨k+1,by omega,by grind⟩,by simp only;omega,?_⟩⟩;simp (disch:=omega) only[Qak];simp
 .have h1:a.drop k=[]:=Zax (by omega);rw[h1] at hk2;exact hk2
def comparePoints.fv(a:Qae×Qae):Int:=(fun a b=>Qgr [cmpI a.Y b.Y,cmpI a.X b.X]) (a.1) (a.2)
def comparePoints.row:Row:=vK (b2 (qR Qae.d_le) (qR Qae.d_le)) rI (fun a=>True) comparePoints.fv
def comparePoints.q:=vKq (R:=comparePoints.row) rfl
theorem comparePoints.ok:Qas Tryz.prog 102 comparePoints.row:=by
 refine vw (tC Compare.ok (tC Or.ok tN)) Tryz.func102 rfl (by kernel_rfl) ?_;intro a hpre;simp only[Tryz.f102,Option.getD];simp(maxSteps:=9^9)(disch:=omega)only[ZZ,simprocAttr,rch,comparePoints.fv,Compare.q,Compare.fv,Or.q,Or.fv]
def impl_LessPoint.fv(a:Qae×Qae):Bool:=(Qap) (a.1) (a.2)
def impl_LessPoint.row:Row:=vK (b2 (qR Qae.d_le) (qR Qae.d_le)) rB (fun a=>True) impl_LessPoint.fv
def impl_LessPoint.q:=vKq (R:=impl_LessPoint.row) rfl
theorem impl_LessPoint.ok:Qas Tryz.prog 152 impl_LessPoint.row:=by
 refine vw (tC comparePoints.ok tN) Tryz.func152 rfl (by kernel_rfl) ?_;intro a hpre;simp only[Tryz.f152,Option.getD];simp(maxSteps:=9^9)(disch:=omega)only[ZZ,simprocAttr,rch,impl_LessPoint.fv,comparePoints.q,comparePoints.fv];simp only[Qap,Qgr,cmpI]
 grind
def Qc9(i:Nat)(c:Int):Bool:=Qlk c||(decide (i≠0) && (Qtq c||decide (c=95)))
def Qb2:Nat->List UInt8->Bool
 |_,[]=>true
 |i,c::r=>Qc9 i c.toNat && Qb2 (i+1) r
theorem Qaaz{a:ByteArray}{k:Nat}{c:UInt8}(hc:a.data[k]? =some c):a.data.toList.drop k=c::a.data.toList.drop (k+1):=by
 have h0:a.data.toList[k]? =some c:=by simpa using hc
 have hl:k<a.data.toList.length:=(Zai.1 h0).1;rw[Zcv hl];rw[Zad hl] at h0;rw[Zac h0]
theorem byteNone{a:ByteArray}{k:Nat}(h: ¬k<a.size):a.data.toList.drop k=[]:=Zax (by simpa using h)
def Qei(s:ByteArray):Bool:=Qb2 0 s.data.toList && (decide (1<=s.size) && decide (s.size<=12))
def impl_IsName.fv(a:ByteArray):Bool:=(Qei) a
def impl_IsName.row:Row:=vK (b1 qT) rB (fun a=>a.size<=140737488355328) impl_IsName.fv
def impl_IsName.q:=vKq (R:=impl_IsName.row) rfl
theorem impl_IsName.ok:Qas Tryz.prog 149 impl_IsName.row:=by
 refine vw tN Tryz.func149 rfl (by kernel_rfl) ?_;intro a hpre;simp only[Tryz.f149,Option.getD];simp(maxSteps:=9^9)(disch:=omega)only[ZZ,simprocAttr,rch,impl_IsName.fv];refine Qay.old ⟨{k:Nat//k<=a.size/\Qb2 k (a.data.toList.drop k)=Qb2 0 a.data.toList},fun k=>⟨[(8,.im (.int .i64 k.1)),(7,.im (.int .i64 a.size)),(6,.im (.str a)),(0,.im (.str a)),(2,.im (.bool false))],[],0⟩,fun k=>a.size - k.1,fun k=>⟨by simp[Qad.good,belT,belH,Qam,AV.bel,belL],Zap _⟩,⟨⟨0,by simp⟩,by simp(maxSteps:=9^9)(disch:=omega)only[ZZ,simprocAttr,rch,impl_IsName.fv,sub]⟩,fun k=> ?_⟩;obtain⟨k,hk1,hk2⟩:=k;simp(maxSteps:=9^9)(disch:=omega)only[ZA,simprocAttr,Asm.d,rch,impl_IsName.fv,sub]
 split<;>rename_i hk
 .refine⟨hk,?_⟩;intro c hc;have hd:a.data.toList.drop k=c::a.data.toList.drop (k+1):=by
   have hl:k<a.data.toList.length:=by simpa using hk
   rw[Zcv hl]
   have:a.data.toList[k]? =some c:=by simpa using hc
   rw[Zad hl] at this;rw[Zac this]
  rw[hd,Qb2] at hk2;by_cases e1:(97:Int)<=c.toNat<;>by_cases e2:(c.toNat:Int)<=122<;>(try (exfalso;omega))<;>by_cases e3:(65:Int)<=c.toNat<;>(try (exfalso;omega))<;>by_cases e4:(c.toNat:Int)<=90<;>(try (exfalso;omega))<;>
   by_cases e5:(c.toNat:Int)<48<;>(try (exfalso;omega))<;>by_cases e6:(57:Int)<c.toNat<;>(try (exfalso;omega))<;>by_cases e7:(c.toNat:Int)=95<;>(try (exfalso;omega))<;>by_cases e8:(k:Int)=0
  all_goals
   have e9:(48:Int)<=c.toNat↔ ¬(c.toNat:Int)<48:=by omega
   have e10:(c.toNat:Int)<=57↔ ¬(57:Int)<c.toNat:=by omega
   have e11:k=0↔(k:Int)=0:=by omega
   have hb:Qc9 k c.toNat=Qc9 k c.toNat:=rfl
   conv at hb=>
    rhs
    simp only[Qc9,Qlk,Qtq,Qau,e1,e2,e3,e4,e5,e6,e7,e8,e9,e10,e11,ne_eq,decide_true,ZdL,ZaX,ZdA,ZeT,ZcK,Zey,Zef,Zbj,Zbu,not_true_eq_false,ZdW]
   rw[hb] at hk2;simp(maxSteps:=9^9)(disch:=omega)only[ZZ,simprocAttr,rch,impl_IsName.fv,sub,e1,e2,e3,e4,e5,e6,e7,e8]
   first
    |(simp only[Zbu] at hk2
      simp only[Qei,<-hk2,Zbu])
    |(simp only[Zbj] at hk2
      refine⟨⟨k+1,by omega,hk2⟩,by simp only;omega,?_⟩;rw[Qak (by omega) (by omega)];simp only
      omega)
    |(have h9:Qb2 0 a.data.toList=false:=by rw[<-hk2];simp
      simp[Qei,h9])
 .have:a.data.toList.drop k=[]:=Zax (by simpa using hk)
  rw[this,Qb2] at hk2;simp only[Qei]
  grind
def spec_IsName.fv(a:ByteArray):Bool:=(Qei) a
def spec_IsName.row:Row:=vK (b1 qT) rB (fun a=>True) spec_IsName.fv
def spec_IsName.q:=vKq (R:=spec_IsName.row) rfl
def Yaa:=J @spec_IsName.fv.eq_1<|J @l01Letter.q<|J @l01Letter.fv.eq_1<|J @l01Digit.q @l01Digit.fv.eq_1
theorem spec_IsName.ok:Qas Tryz.prog 76 spec_IsName.row:=by
 refine vw (tC l01Letter.ok (tC l01Digit.ok tN)) Tryz.func76 rfl (by kernel_rfl) ?_;intro a hpre;simp only[Tryz.f76,Option.getD];simp(maxSteps:=9^9)(disch:=omega)only[ZA,simprocAttr,Asm.d,rch,Yaa,Qal];refine⟨fun h1=>⟨fun h2=>⟨by omega,?_⟩,fun h2=> ?_⟩,fun h1=> ?_⟩
 .intro c hc;have hd:=Qaaz hc;rw[Zci] at hd;cases hL:Qlk c.toNat
  .simp(maxSteps:=9^9)(disch:=omega)only[ZZ,simprocAttr,rch,Yaa,hL];have h9:Qb2 0 a.data.toList=false:=by rw[hd];simp[Qb2,Qc9,hL]
   simp[Qei,h9]
  .simp(maxSteps:=9^9)(disch:=omega)only[ZZ,simprocAttr,rch,Yaa,hL];refine Qay.old ⟨{k:Nat//1<=k/\k<=a.size/\Qb2 k (a.data.toList.drop k)=Qb2 0 a.data.toList},fun k=>⟨[(3,.im (.int .i64 k.1)),(0,.im (.str a)),(2,.im (.bool false))],[],0⟩,fun k=>a.size - k.1,fun k=>⟨by simp[Qad.good,belT,belH,Qam,AV.bel,belL],Zap _⟩,⟨⟨1,by omega,by omega,?_⟩,by simp(maxSteps:=9^9)(disch:=omega)only[ZZ,simprocAttr,rch,Yaa,sub]⟩,fun k=> ?_⟩
   .conv=>rhs;rw[hd]
    simp[Qb2,Qc9,hL]
   .obtain⟨k,hk0,hk1,hk2⟩:=k;simp(maxSteps:=9^9)(disch:=omega)only[ZA,simprocAttr,Asm.d,rch,Yaa,sub,Qal];refine⟨fun hk=>⟨hk,fun c2 hc2=> ?_⟩,fun hk=> ?_⟩
    .rw[Qaaz hc2,Qb2] at hk2;simp(maxSteps:=9^9)(disch:=omega)only[ZZ,simprocAttr,rch,Yaa,sub,Qal];have hok:Qc9 k c2.toNat=true->Qb2 (k+1) (a.data.toList.drop (k+1))=Qb2 0 a.data.toList:=by
      intro h;rw[h] at hk2;simpa using hk2
     have hno:Qc9 k c2.toNat=false->false=Qei a:=by
      intro h;rw[h] at hk2;have h9:Qb2 0 a.data.toList=false:=by rw[<-hk2];simp
      simp[Qei,h9]
     have hfin:Qc9 k c2.toNat=true-> ∃b':{k:Nat//1<=k/\k<=a.size/\Qb2 k (a.data.toList.drop k)=Qb2 0 a.data.toList},a.size - b'.val<a.size - k/\IntKind.wrap .i64 ((k:Int)+1)=b'.val:=by
      intro h;refine⟨⟨k+1,by omega,by omega,hok h⟩,by simp only;omega,?_⟩;rw[Qak (by omega) (by omega)];simp only;omega
     have hk9:k≠0:=by omega
     refine⟨fun l=>⟨hk,fun c3 hc3=> ?_⟩,fun l=> ?_⟩
     .rw[hc2] at hc3;obtain rfl:=Zac hc3;refine⟨fun l2=>⟨hk,fun c3 hc3=> ?_⟩,fun l2=> ?_⟩
      .rw[hc2] at hc3;obtain rfl:=Zac hc3;refine⟨fun l3=>hno ?_,fun l3=>hfin ?_⟩
       .simp[Qc9,l,l2,l3]
       .simp only[Zbc] at l3;simp[Qc9,l3,hk9]
      .refine hfin ?_;simp only[ZaZ] at l2;simp[Qc9,l2,hk9]
     .refine hfin ?_;simp only[ZaZ] at l;simp[Qc9,l]
    .rw[byteNone hk,Qb2] at hk2;simp only[Qei]
     grind
 .simp only[Qei];grind
 .simp only[Qei];grind
theorem Qew{A:Type}[DecidableEq A]{a b:List A}(hl:a.length=b.length){k:Nat}(hk:k<=a.length)(h:a.take k=b.take k){x y:A}(hx:a[k]? =some x)(hy:b[k]? =some y):
 (x=y->a.take (k+1)=b.take (k+1))/\(x≠y->a≠b):=by
 refine⟨fun hxy=> ?_,fun hxy hab=> ?_⟩
 .rw[ZbO,ZbO,h,hx,hy,hxy]
 .subst hab;rw[hx] at hy;exact hxy (Zac hy)
end Go.Ae
