/- Lemmas. Conditions: none. -/
import Derived.Test.YtelbgmfdnnljoaaGreatDoorP06
import Derived.Test.YtelbgmfdnnljoaaGreatDoorProg
set_option linter.all false
set_option maxHeartbeats 8000000
set_option maxRecDepth 100000
namespace Go.Ae
open Go.Proofs
def TY0:
 (tI Tryz.prog 2=some {size:=1,bytes:=8,agg:=false,kind:= .int .i64,zero:=[.int .i64 0]})/\
 (tI Tryz.prog 3=some {size:=1,bytes:=8,agg:=false,kind:= .int .i64,zero:=[.int .i64 0]})/\
 (tI Tryz.prog 4=some {size:=1,bytes:=1,agg:=false,kind:= .bool,zero:=[.bool false]})/\
 (tI Tryz.prog 5=some {size:=1,bytes:=1,agg:=false,kind:= .int .u8,zero:=[.int .u8 0]})/\
 (tI Tryz.prog 9=some {size:=1,bytes:=16,agg:=false,kind:= .str,zero:=[.str ByteArray.empty]})/\
 (tI Tryz.prog 22=some {size:=1,bytes:=24,agg:=false,kind:= .slice 121,zero:=[.sl true 0 []]})/\
 (tI Tryz.prog 23=some {size:=1,bytes:=24,agg:=false,kind:= .slice 123,zero:=[.sl true 0 []]})/\
 (tI Tryz.prog 25=some {size:=2,bytes:=48,agg:=true,kind:= .struct [(0,1),(1,1)],zero:=[.sl true 0 [],.sl true 0 []]})/\
 (tI Tryz.prog 26=some {size:=1,bytes:=24,agg:=false,kind:= .slice 141,zero:=[.sl true 0 []]})/\
 (tI Tryz.prog 28=some {size:=1,bytes:=24,agg:=true,kind:= .struct [(0,1)],zero:=[.sl true 0 []]})/\
 (tI Tryz.prog 30=some {size:=4,bytes:=80,agg:=true,kind:= .struct [(0,2),(2,1),(3,1)],zero:=[.sl true 0 [],.sl true 0 [],.sl true 0 [],.int .i64 0]})/\
 (tI Tryz.prog 32=some {size:=1,bytes:=24,agg:=false,kind:= .slice 108,zero:=[.sl true 0 []]})/\
 (tI Tryz.prog 33=some {size:=1,bytes:=24,agg:=false,kind:= .slice 98,zero:=[.sl true 0 []]})/\
 (tI Tryz.prog 35=some {size:=2,bytes:=48,agg:=true,kind:= .struct [(0,1),(1,1)],zero:=[.sl true 0 [],.sl true 0 []]})/\
 (tI Tryz.prog 36=some {size:=1,bytes:=24,agg:=false,kind:= .slice 89,zero:=[.sl true 0 []]})/\
 (tI Tryz.prog 38=some {size:=1,bytes:=24,agg:=true,kind:= .struct [(0,1)],zero:=[.sl true 0 []]})/\
 (tI Tryz.prog 40=some {size:=4,bytes:=80,agg:=true,kind:= .struct [(0,2),(2,1),(3,1)],zero:=[.sl true 0 [],.sl true 0 [],.sl true 0 [],.int .i64 0]})/\
 (tI Tryz.prog 50=some {size:=1,bytes:=8,agg:=false,kind:= .ptr 40,zero:=[.nilp]})/\
 (tI Tryz.prog 54=some {size:=1,bytes:=8,agg:=false,kind:= .ptr 38,zero:=[.nilp]})/\
 (tI Tryz.prog 56=some {size:=1,bytes:=8,agg:=false,kind:= .ptr 35,zero:=[.nilp]}):=by and_intros<;>kernel_rfl
def TY1:
 (tI Tryz.prog 60=some {size:=1,bytes:=8,agg:=false,kind:= .other,zero:=[.nilf]})/\
 (tI Tryz.prog 61=some {size:=1,bytes:=8,agg:=false,kind:= .ptr 76,zero:=[.nilp]})/\
 (tI Tryz.prog 64=some {size:=4,bytes:=64,agg:=true,kind:= .struct [(0,1),(1,2),(3,1)],zero:=[.nilp,.sl true 0 [],.sl true 0 [],.int .i64 0]})/\
 (tI Tryz.prog 69=some {size:=1,bytes:=24,agg:=false,kind:= .slice 72,zero:=[.sl true 0 []]})/\
 (tI Tryz.prog 72=some {size:=2,bytes:=16,agg:=true,kind:= .struct [(0,1),(1,1)],zero:=[.int .i64 0,.int .i64 0]})/\
 (tI Tryz.prog 74=some {size:=1,bytes:=8,agg:=false,kind:= .map 9 2,zero:=[.nilm]})/\
 (tI Tryz.prog 76=some {size:=3,bytes:=56,agg:=true,kind:= .struct [(0,2),(2,1)],zero:=[.sl true 0 [],.sl true 0 [],.nilm]})/\
 (tI Tryz.prog 89=some {size:=3,bytes:=24,agg:=true,kind:= .struct [(0,2),(2,1)],zero:=[.int .i64 0,.int .i64 0,.int .i64 0]})/\
 (tI Tryz.prog 95=some {size:=1,bytes:=24,agg:=false,kind:= .slice 2,zero:=[.sl true 0 []]})/\
 (tI Tryz.prog 98=some {size:=2,bytes:=40,agg:=true,kind:= .struct [(0,1),(1,1)],zero:=[.str ByteArray.empty,.sl true 0 []]})/\
 (tI Tryz.prog 108=some {size:=2,bytes:=24,agg:=true,kind:= .struct [(0,1),(1,1)],zero:=[.str ByteArray.empty,.int .i64 0]})/\
 (tI Tryz.prog 121=some {size:=2,bytes:=24,agg:=true,kind:= .struct [(0,1),(1,1)],zero:=[.str ByteArray.empty,.int .i64 0]})/\
 (tI Tryz.prog 123=some {size:=2,bytes:=40,agg:=true,kind:= .struct [(0,1),(1,1)],zero:=[.str ByteArray.empty,.sl true 0 []]})/\
 (tI Tryz.prog 128=some {size:=1,bytes:=24,agg:=false,kind:= .slice 160,zero:=[.sl true 0 []]})/\
 (tI Tryz.prog 139=some {size:=2,bytes:=16,agg:=true,kind:= .struct [(0,1),(1,1)],zero:=[.int .i64 0,.int .i64 0]})/\
 (tI Tryz.prog 141=some {size:=3,bytes:=24,agg:=true,kind:= .struct [(0,2),(2,1)],zero:=[.int .i64 0,.int .i64 0,.int .i64 0]})/\
 (tI Tryz.prog 148=some {size:=1,bytes:=8,agg:=false,kind:= .other,zero:=[.nilf]})/\
 (tI Tryz.prog 152=some {size:=1,bytes:=24,agg:=false,kind:= .slice 9,zero:=[.sl true 0 []]})/\
 (tI Tryz.prog 160=some {size:=3,bytes:=24,agg:=true,kind:= .struct [(0,1),(1,1),(2,1)],zero:=[.int .i64 0,.int .i64 0,.int .i64 0]})/\
 (tI Tryz.prog 161=some {size:=1,bytes:=24,agg:=false,kind:= .slice 95,zero:=[.sl true 0 []]}):=by and_intros<;>kernel_rfl
def TY2:
 (tI Tryz.prog 166=some {size:=1,bytes:=8,agg:=false,kind:= .ptr 195,zero:=[.nilp]})/\
 (tI Tryz.prog 171=some {size:=1,bytes:=24,agg:=false,kind:= .slice 5,zero:=[.sl true 0 []]})/\
 (tI Tryz.prog 176=some {size:=1,bytes:=8,agg:=false,kind:= .other,zero:=[.nilf]})/\
 (tI Tryz.prog 183=some {size:=1,bytes:=8,agg:=false,kind:= .int .u64,zero:=[.int .u64 0]})/\
 (tI Tryz.prog 195=some {size:=4,bytes:=80,agg:=true,kind:= .struct [(0,1),(1,1),(2,1),(3,1)],zero:=[.int .i64 0,.sl true 0 [],.sl true 0 [],.sl true 0 []]})/\
 (tI Tryz.prog 196=some {size:=1,bytes:=8,agg:=false,kind:= .map 9 4,zero:=[.nilm]})/\
 (tI Tryz.prog 202=some {size:=1,bytes:=8,agg:=false,kind:= .other,zero:=[.nilf]})/\
 (tI Tryz.prog 204=some {size:=1,bytes:=8,agg:=false,kind:= .other,zero:=[.nilf]})/\
 (tI Tryz.prog 206=some {size:=2,bytes:=16,agg:=true,kind:= .array 2 2,zero:=[.int .i64 0,.int .i64 0]})/\
 (tI Tryz.prog 208=some {size:=1,bytes:=8,agg:=false,kind:= .ptr 238,zero:=[.nilp]})/\
 (tI Tryz.prog 212=some {size:=1,bytes:=8,agg:=false,kind:= .int .i64,zero:=[.int .i64 0]})/\
 (tI Tryz.prog 220=some {size:=1,bytes:=4,agg:=false,kind:= .int .u32,zero:=[.int .u32 0]})/\
 (tI Tryz.prog 222=some {size:=1,bytes:=8,agg:=false,kind:= .int .u64,zero:=[.int .u64 0]})/\
 (tI Tryz.prog 223=some {size:=1,bytes:=24,agg:=false,kind:= .slice 3,zero:=[.sl true 0 []]})/\
 (tI Tryz.prog 227=some {size:=1,bytes:=24,agg:=false,kind:= .slice 228,zero:=[.sl true 0 []]})/\
 (tI Tryz.prog 228=some {size:=1,bytes:=8,agg:=false,kind:= .ptr 230,zero:=[.nilp]})/\
 (tI Tryz.prog 230=some {size:=2,bytes:=16,agg:=true,kind:= .struct [(0,1),(1,1)],zero:=[.nilp,.int .i64 0]})/\
 (tI Tryz.prog 232=some {size:=1,bytes:=8,agg:=false,kind:= .map 2 3,zero:=[.nilm]})/\
 (tI Tryz.prog 238=some {size:=2,bytes:=48,agg:=true,kind:= .struct [(0,1),(1,1)],zero:=[.sl true 0 [],.sl true 0 []]})/\
 (tI Tryz.prog 240=some {size:=1,bytes:=8,agg:=false,kind:= .int .u64,zero:=[.int .u64 0]}):=by and_intros<;>kernel_rfl
def TY3:
 (tI Tryz.prog 244=some {size:=1,bytes:=8,agg:=false,kind:= .ptr 3,zero:=[.nilp]})/\
 (tI Tryz.prog 246=some {size:=24,bytes:=24,agg:=true,kind:= .array 24 5,zero:=[.int .u8 0,.int .u8 0,.int .u8 0,.int .u8 0,.int .u8 0,.int .u8 0,.int .u8 0,.int .u8 0,.int .u8 0,.int .u8 0,.int .u8 0,.int .u8 0,.int .u8 0,.int .u8 0,.int .u8 0,.int .u8 0,.int .u8 0,.int .u8 0,.int .u8 0,.int .u8 0,.int .u8 0,.int .u8 0,.int .u8 0,.int .u8 0]})/\
 (tI Tryz.prog 251=some {size:=1,bytes:=8,agg:=false,kind:= .other,zero:=[.nilf]})/\
 (tI Tryz.prog 252=some {size:=8,bytes:=64,agg:=true,kind:= .array 4 72,zero:=[.int .i64 0,.int .i64 0,.int .i64 0,.int .i64 0,.int .i64 0,.int .i64 0,.int .i64 0,.int .i64 0]})/\
 (tI Tryz.prog 255=some {size:=1,bytes:=8,agg:=false,kind:= .other,zero:=[.nilc]})/\
 (tI Tryz.prog 263=some {size:=20,bytes:=160,agg:=true,kind:= .array 20 222,zero:=[.int .u64 0,.int .u64 0,.int .u64 0,.int .u64 0,.int .u64 0,.int .u64 0,.int .u64 0,.int .u64 0,.int .u64 0,.int .u64 0,.int .u64 0,.int .u64 0,.int .u64 0,.int .u64 0,.int .u64 0,.int .u64 0,.int .u64 0,.int .u64 0,.int .u64 0,.int .u64 0]})/\
 (tI Tryz.prog 264=some {size:=65,bytes:=65,agg:=true,kind:= .array 65 5,zero:=[.int .u8 0,.int .u8 0,.int .u8 0,.int .u8 0,.int .u8 0,.int .u8 0,.int .u8 0,.int .u8 0,.int .u8 0,.int .u8 0,.int .u8 0,.int .u8 0,.int .u8 0,.int .u8 0,.int .u8 0,.int .u8 0,.int .u8 0,.int .u8 0,.int .u8 0,.int .u8 0,.int .u8 0,.int .u8 0,.int .u8 0,.int .u8 0,.int .u8 0,.int .u8 0,.int .u8 0,.int .u8 0,.int .u8 0,.int .u8 0,.int .u8 0,.int .u8 0,.int .u8 0,.int .u8 0,.int .u8 0,.int .u8 0,.int .u8 0,.int .u8 0,.int .u8 0,.int .u8 0,.int .u8 0,.int .u8 0,.int .u8 0,.int .u8 0,.int .u8 0,.int .u8 0,.int .u8 0,.int .u8 0,.int .u8 0,.int .u8 0,.int .u8 0,.int .u8 0,.int .u8 0,.int .u8 0,.int .u8 0,.int .u8 0,.int .u8 0,.int .u8 0,.int .u8 0,.int .u8 0,.int .u8 0,.int .u8 0,.int .u8 0,.int .u8 0,.int .u8 0]})/\
 (tI Tryz.prog 272=some {size:=32,bytes:=32,agg:=true,kind:= .array 32 5,zero:=[.int .u8 0,.int .u8 0,.int .u8 0,.int .u8 0,.int .u8 0,.int .u8 0,.int .u8 0,.int .u8 0,.int .u8 0,.int .u8 0,.int .u8 0,.int .u8 0,.int .u8 0,.int .u8 0,.int .u8 0,.int .u8 0,.int .u8 0,.int .u8 0,.int .u8 0,.int .u8 0,.int .u8 0,.int .u8 0,.int .u8 0,.int .u8 0,.int .u8 0,.int .u8 0,.int .u8 0,.int .u8 0,.int .u8 0,.int .u8 0,.int .u8 0,.int .u8 0]})/\
 (tI Tryz.prog 273=some {size:=64,bytes:=64,agg:=true,kind:= .array 64 5,zero:=[.int .u8 0,.int .u8 0,.int .u8 0,.int .u8 0,.int .u8 0,.int .u8 0,.int .u8 0,.int .u8 0,.int .u8 0,.int .u8 0,.int .u8 0,.int .u8 0,.int .u8 0,.int .u8 0,.int .u8 0,.int .u8 0,.int .u8 0,.int .u8 0,.int .u8 0,.int .u8 0,.int .u8 0,.int .u8 0,.int .u8 0,.int .u8 0,.int .u8 0,.int .u8 0,.int .u8 0,.int .u8 0,.int .u8 0,.int .u8 0,.int .u8 0,.int .u8 0,.int .u8 0,.int .u8 0,.int .u8 0,.int .u8 0,.int .u8 0,.int .u8 0,.int .u8 0,.int .u8 0,.int .u8 0,.int .u8 0,.int .u8 0,.int .u8 0,.int .u8 0,.int .u8 0,.int .u8 0,.int .u8 0,.int .u8 0,.int .u8 0,.int .u8 0,.int .u8 0,.int .u8 0,.int .u8 0,.int .u8 0,.int .u8 0,.int .u8 0,.int .u8 0,.int .u8 0,.int .u8 0,.int .u8 0,.int .u8 0,.int .u8 0,.int .u8 0]}):=by and_intros<;>kernel_rfl
def KY0:
 (BI Tryz.prog 2=some ⟨false,[.int .i64]⟩)/\
 (BI Tryz.prog 3=some ⟨false,[.int .i64]⟩)/\
 (BI Tryz.prog 4=some ⟨false,[.bool]⟩)/\
 (BI Tryz.prog 5=some ⟨false,[.int .u8]⟩)/\
 (BI Tryz.prog 9=some ⟨false,[.str]⟩)/\
 (BI Tryz.prog 72=some ⟨true,[.int .i64,.int .i64]⟩)/\
 (Tryz.prog.eqGuardType Tryz.prog.depth 72=false)/\
 (BI Tryz.prog 89=some ⟨true,[.int .i64,.int .i64,.int .i64]⟩)/\
 (Tryz.prog.eqGuardType Tryz.prog.depth 89=false)/\
 (BI Tryz.prog 108=some ⟨true,[.str,.int .i64]⟩)/\
 (Tryz.prog.eqGuardType Tryz.prog.depth 108=false)/\
 (BI Tryz.prog 121=some ⟨true,[.str,.int .i64]⟩)/\
 (Tryz.prog.eqGuardType Tryz.prog.depth 121=false)/\
 (BI Tryz.prog 139=some ⟨true,[.int .i64,.int .i64]⟩)/\
 (Tryz.prog.eqGuardType Tryz.prog.depth 139=false)/\
 (BI Tryz.prog 141=some ⟨true,[.int .i64,.int .i64,.int .i64]⟩)/\
 (Tryz.prog.eqGuardType Tryz.prog.depth 141=false)/\
 (BI Tryz.prog 160=some ⟨true,[.int .i64,.int .i64,.int .i64]⟩)/\
 (Tryz.prog.eqGuardType Tryz.prog.depth 160=false)/\
 (BI Tryz.prog 183=some ⟨false,[.int .u64]⟩):=by and_intros<;>kernel_rfl
def KY1:
 (BI Tryz.prog 212=some ⟨false,[.int .i64]⟩)/\
 (BI Tryz.prog 220=some ⟨false,[.int .u32]⟩)/\
 (BI Tryz.prog 222=some ⟨false,[.int .u64]⟩)/\
 (BI Tryz.prog 240=some ⟨false,[.int .u64]⟩):=by and_intros<;>kernel_rfl
def CY0:True/\True:=⟨trivial,trivial⟩
def ER:Tryz.prog.follows .mixedOrders=true:=by kernel_rfl
end Go.Ae
namespace Go.Ae
def kI:PK->Option Int
 | .val (.int .i64 x)=>some x
 |_=>none
def kU:PK->Option Int
 | .val (.int .u64 x)=>some x
 |_=>none
def kY:PK->Option Int
 | .val (.int .u8 x)=>some x
 |_=>none
def kB:PK->Option Bool
 | .val (.bool x)=>some x
 |_=>none
def kT:PK->Option ByteArray
 | .val (.str x)=>some x
 |_=>none
def kR{A:Type}(f:List D->Option A):PK->Option A
 | .val (.agg x)=>f x
 |_=>none
def kP{A:Type}(f:List D->Option A)(n:Nat):PK->Option A
 | .ptr x=>f (x.take n)
 |_=>none
def kS{A:Type}(f:List D->Option A):PK->Option (List A)
 | .val (.sl _ _ x)=>AU f x
 |_=>none
def Zy: ∀p a,kI p=some a->Cx p (.val (.int .i64 a)):=by
 intro p a h;unfold kI at h;split at h
 .obtain rfl:=AB h;exact Cx.refl _
 .cases h
def sX: ∀p a,kU p=some a->Cx p (.val (.int .u64 a)):=by
 intro p a h;unfold kU at h;split at h
 .obtain rfl:=AB h;exact Cx.refl _
 .cases h
def sY: ∀p a,kY p=some a->Cx p (.val (.int .u8 a)):=by
 intro p a h;unfold kY at h;split at h
 .obtain rfl:=AB h;exact Cx.refl _
 .cases h
def sS: ∀p a,kB p=some a->Cx p (.val (.bool a)):=by
 intro p a h;unfold kB at h;split at h
 .obtain rfl:=AB h;exact Cx.refl _
 .cases h
def sW: ∀p a,kT p=some a->Cx p (.val (.str a)):=by
 intro p a h;unfold kT at h;split at h
 .obtain rfl:=AB h;exact Cx.refl _
 .cases h
section
variable {A:Type}{f:List D->Option A}{e:A->List D}
def LR(hf: ∀ds x,f ds=some x->Da ds (e x)): ∀p a,kR f p=some a->Cx p (.val (.agg (e a))):=by
 intro p a h;unfold kR at h;split at h
 .exact K3 (hf _ _ h)
 .cases h
def sU(n:Nat)(hf: ∀ds x,f ds=some x->Da ds (e x)): ∀p a,kP f n p=some a->Cx p (.ptr (e a)):=by
 intro p a h;unfold kP at h;split at h
 .exact HZ.trans_take (hf _ _ h)
 .cases h
def Zz(k:Nat)(hf: ∀ds x,f ds=some x->Da ds (e x))(z: ∀x,(e x).length=k): ∀p a,kS f p=some a->Cx p (.val (.sl false k (a.map e))):=by
 intro p a h;unfold kS at h;split at h
 .exact Gb (FK hf _ _ h) (by simp only[Bn];rintro r ⟨y,_,rfl⟩;exact z y)
 .cases h
end
def a1{z:Type}(G:PK->Option z):List PK->Option (z)
 |[O]=>(G O).bind λQ=>some Q
 |_=>none
def Zo{G:Type}{Q:PK->Option G}{O:G->PK}(h0: ∀p a,Q p=some a->Cx p (O a)): ∀z a,a1 Q z=some a->Cl z [O (a)]:=by
 intro z a h;unfold a1 at h;split at h
 .simp only[GD,AM] at h;obtain⟨Z,g0,rfl⟩:=h;exact⟨h0 _ _ g0,trivial⟩
 .cases h
def a2{z G:Type}(O:PK->Option z)(Q:PK->Option G):List PK->Option (z×G)
 |[Z,x1]=>(O Z).bind λy0=>(Q x1).bind λy1=>some (y0,y1)
 |_=>none
def QN{G:Type}{f0:PK->Option G}{Q:G->PK}{O:Type}{f1:PK->Option O}{Z:O->PK}(h0: ∀p a,f0 p=some a->Cx p (Q a))(h1: ∀p a,f1 p=some a->Cx p (Z a)): ∀z a,a2 f0 f1 z=some a->Cl z [Q (a.1),Z (a.2)]:=by
 intro z a h;unfold a2 at h;split at h
 .simp only[GD,AM] at h;obtain⟨y0,g0,y1,g1,rfl⟩:=h;exact⟨h0 _ _ g0,h1 _ _ g1,trivial⟩
 .cases h
def a3{z G O:Type}(Q:PK->Option z)(Z:PK->Option G)(f2:PK->Option O):List PK->Option (z×G×O)
 |[x0,x1,x2]=>(Q x0).bind λy0=>(Z x1).bind λy1=>(f2 x2).bind λy2=>some (y0,y1,y2)
 |_=>none
def rQ{G:Type}{f0:PK->Option G}{Z:G->PK}{O:Type}{f1:PK->Option O}{e1:O->PK}{Q:Type}{f2:PK->Option Q}{e2:Q->PK}(h0: ∀p a,f0 p=some a->Cx p (Z a))(h1: ∀p a,f1 p=some a->Cx p (e1 a))(h2: ∀p a,f2 p=some a->Cx p (e2 a)): ∀z a,a3 f0 f1 f2 z=some a->Cl z [Z (a.1),e1 (a.2.1),e2 (a.2.2)]:=by
 intro z a h;unfold a3 at h;split at h
 .simp only[GD,AM] at h;obtain⟨y0,g0,y1,g1,y2,g2,rfl⟩:=h;exact⟨h0 _ _ g0,h1 _ _ g1,h2 _ _ g2,trivial⟩
 .cases h
def a4{z G O Q:Type}(Z:PK->Option z)(f1:PK->Option G)(f2:PK->Option O)(f3:PK->Option Q):List PK->Option (z×G×O×Q)
 |[x0,x1,x2,x3]=>(Z x0).bind λy0=>(f1 x1).bind λy1=>(f2 x2).bind λy2=>(f3 x3).bind λy3=>some (y0,y1,y2,y3)
 |_=>none
def rR{G:Type}{f0:PK->Option G}{e0:G->PK}{O:Type}{f1:PK->Option O}{e1:O->PK}{Q:Type}{f2:PK->Option Q}{e2:Q->PK}{Z:Type}{f3:PK->Option Z}{e3:Z->PK}(h0: ∀p a,f0 p=some a->Cx p (e0 a))(h1: ∀p a,f1 p=some a->Cx p (e1 a))(h2: ∀p a,f2 p=some a->Cx p (e2 a))(h3: ∀p a,f3 p=some a->Cx p (e3 a)): ∀z a,a4 f0 f1 f2 f3 z=some a->Cl z [e0 (a.1),e1 (a.2.1),e2 (a.2.2.1),e3 (a.2.2.2)]:=by
 intro z a h;unfold a4 at h;split at h
 .simp only[GD,AM] at h;obtain⟨y0,g0,y1,g1,y2,g2,y3,g3,rfl⟩:=h;exact⟨h0 _ _ g0,h1 _ _ g1,h2 _ _ g2,h3 _ _ g3,trivial⟩
 .cases h
def a5{z G O Q Z:Type}(f0:PK->Option z)(f1:PK->Option G)(f2:PK->Option O)(f3:PK->Option Q)(f4:PK->Option Z):List PK->Option (z×G×O×Q×Z)
 |[x0,x1,x2,x3,x4]=>(f0 x0).bind λy0=>(f1 x1).bind λy1=>(f2 x2).bind λy2=>(f3 x3).bind λy3=>(f4 x4).bind λy4=>some (y0,y1,y2,y3,y4)
 |_=>none
def rU{G:Type}{f0:PK->Option G}{e0:G->PK}{O:Type}{f1:PK->Option O}{e1:O->PK}{Q:Type}{f2:PK->Option Q}{e2:Q->PK}{Z:Type}{f3:PK->Option Z}{e3:Z->PK}{A4:Type}{f4:PK->Option A4}{e4:A4->PK}(h0: ∀p a,f0 p=some a->Cx p (e0 a))(h1: ∀p a,f1 p=some a->Cx p (e1 a))(h2: ∀p a,f2 p=some a->Cx p (e2 a))(h3: ∀p a,f3 p=some a->Cx p (e3 a))(h4: ∀p a,f4 p=some a->Cx p (e4 a)): ∀z a,a5 f0 f1 f2 f3 f4 z=some a->Cl z [e0 (a.1),e1 (a.2.1),e2 (a.2.2.1),e3 (a.2.2.2.1),e4 (a.2.2.2.2)]:=by
 intro z a h;unfold a5 at h;split at h
 .simp only[GD,AM] at h;obtain⟨y0,g0,y1,g1,y2,g2,y3,g3,y4,g4,rfl⟩:=h;exact⟨h0 _ _ g0,h1 _ _ g1,h2 _ _ g2,h3 _ _ g3,h4 _ _ g4,trivial⟩
 .cases h
def a6{z G O Q Z A5:Type}(f0:PK->Option z)(f1:PK->Option G)(f2:PK->Option O)(f3:PK->Option Q)(f4:PK->Option Z)(f5:PK->Option A5):List PK->Option (z×G×O×Q×Z×A5)
 |[x0,x1,x2,x3,x4,x5]=>(f0 x0).bind λy0=>(f1 x1).bind λy1=>(f2 x2).bind λy2=>(f3 x3).bind λy3=>(f4 x4).bind λy4=>(f5 x5).bind λy5=>some (y0,y1,y2,y3,y4,y5)
 |_=>none
def rV{G:Type}{f0:PK->Option G}{e0:G->PK}{O:Type}{f1:PK->Option O}{e1:O->PK}{Q:Type}{f2:PK->Option Q}{e2:Q->PK}{Z:Type}{f3:PK->Option Z}{e3:Z->PK}{A4:Type}{f4:PK->Option A4}{e4:A4->PK}{A5:Type}{f5:PK->Option A5}{e5:A5->PK}(h0: ∀p a,f0 p=some a->Cx p (e0 a))(h1: ∀p a,f1 p=some a->Cx p (e1 a))(h2: ∀p a,f2 p=some a->Cx p (e2 a))(h3: ∀p a,f3 p=some a->Cx p (e3 a))(h4: ∀p a,f4 p=some a->Cx p (e4 a))(h5: ∀p a,f5 p=some a->Cx p (e5 a)): ∀z a,a6 f0 f1 f2 f3 f4 f5 z=some a->Cl z [e0 (a.1),e1 (a.2.1),e2 (a.2.2.1),e3 (a.2.2.2.1),e4 (a.2.2.2.2.1),e5 (a.2.2.2.2.2)]:=by
 intro z a h;unfold a6 at h;split at h
 .simp only[GD,AM] at h;obtain⟨y0,g0,y1,g1,y2,g2,y3,g3,y4,g4,y5,g5,rfl⟩:=h;exact⟨h0 _ _ g0,h1 _ _ g1,h2 _ _ g2,h3 _ _ g3,h4 _ _ g4,h5 _ _ g5,trivial⟩
 .cases h
def a7{z G O Q Z A5 A6:Type}(f0:PK->Option z)(f1:PK->Option G)(f2:PK->Option O)(f3:PK->Option Q)(f4:PK->Option Z)(f5:PK->Option A5)(f6:PK->Option A6):List PK->Option (z×G×O×Q×Z×A5×A6)
 |[x0,x1,x2,x3,x4,x5,x6]=>(f0 x0).bind λy0=>(f1 x1).bind λy1=>(f2 x2).bind λy2=>(f3 x3).bind λy3=>(f4 x4).bind λy4=>(f5 x5).bind λy5=>(f6 x6).bind λy6=>some (y0,y1,y2,y3,y4,y5,y6)
 |_=>none
def rW{G:Type}{f0:PK->Option G}{e0:G->PK}{O:Type}{f1:PK->Option O}{e1:O->PK}{Q:Type}{f2:PK->Option Q}{e2:Q->PK}{Z:Type}{f3:PK->Option Z}{e3:Z->PK}{A4:Type}{f4:PK->Option A4}{e4:A4->PK}{A5:Type}{f5:PK->Option A5}{e5:A5->PK}{A6:Type}{f6:PK->Option A6}{e6:A6->PK}(h0: ∀p a,f0 p=some a->Cx p (e0 a))(h1: ∀p a,f1 p=some a->Cx p (e1 a))(h2: ∀p a,f2 p=some a->Cx p (e2 a))(h3: ∀p a,f3 p=some a->Cx p (e3 a))(h4: ∀p a,f4 p=some a->Cx p (e4 a))(h5: ∀p a,f5 p=some a->Cx p (e5 a))(h6: ∀p a,f6 p=some a->Cx p (e6 a)): ∀z a,a7 f0 f1 f2 f3 f4 f5 f6 z=some a->Cl z [e0 (a.1),e1 (a.2.1),e2 (a.2.2.1),e3 (a.2.2.2.1),e4 (a.2.2.2.2.1),e5 (a.2.2.2.2.2.1),e6 (a.2.2.2.2.2.2)]:=by
 intro z a h;unfold a7 at h;split at h
 .simp only[GD,AM] at h;obtain⟨y0,g0,y1,g1,y2,g2,y3,g3,y4,g4,y5,g5,y6,g6,rfl⟩:=h;exact⟨h0 _ _ g0,h1 _ _ g1,h2 _ _ g2,h3 _ _ g3,h4 _ _ g4,h5 _ _ g5,h6 _ _ g6,trivial⟩
 .cases h
def Jq{A B E F:Type}(f:D->Option A)(g:D->Option B)(k:D->Option E)(m:D->Option F):D->Option (A×B×E×F)
 | .tup [x,y,z,w]=>(f x).bind λa=>(g y).bind λb=>(k z).bind λc=>(m w).bind λd=>some (a,b,c,d)
 |_=>none
def UC{A B E F:Type}{f:D->Option A}{g:D->Option B}{k:D->Option E}{m:D->Option F}{e:A->D}{e':B->D}{e'':E->D}{z:F->D}(hf: ∀d x,f d=some x->Le d (e x))(hg: ∀d x,g d=some x->Le d (e' x))(hk: ∀d x,k d=some x->Le d (e'' x))(hm: ∀d x,m d=some x->Le d (z x)):
 ∀d (x:A×B×E×F),Jq f g k m d=some x->Le d (.tup [e x.1,e' x.2.1,e'' x.2.2.1,z x.2.2.2]):=by
 intro d x h;unfold Jq at h;split at h
 .simp only[GD,AM] at h;obtain⟨a,G,b,O,c,Q,w,Z,rfl⟩:=h;exact K4 ⟨hf _ _ G,hg _ _ O,hk _ _ Q,hm _ _ Z,trivial⟩
 .cases h
def Ag.c_n(x:Ag):(Ag.c x).length=3:=rfl
def Ad.c_n(x:Ad):(Ad.c x).length=2:=rfl
def Al.c_n(x:Al):(Al.c x).length=3:=rfl
def A7.c_n(x:A7):(A7.c x).length=2:=rfl
def Tile.c_n(x:Tile):(Tile.c x).length=2:=rfl
def EX(x:Int):(Ak x).length=1:=rfl
def MF(x:List Int):(CK x).length=1:=rfl
structure QK(A:Type) where
 d:PK->Option A
 e:A->PK
 l: ∀p a,d p=some a->Cx p (e a)
def qI:QK Int:=⟨kI,λa=> .val (.int .i64 a),Zy⟩
def qU:QK Int:=⟨kU,λa=> .val (.int .u64 a),sX⟩
def qY:QK Int:=⟨kY,λa=> .val (.int .u8 a),sY⟩
def qB:QK Bool:=⟨kB,λa=> .val (.bool a),sS⟩
def qT:QK ByteArray:=⟨kT,λa=> .val (.str a),sW⟩
section
variable {A:Type}{f:List D->Option A}{e:A->List D}
def qR(h: ∀ds x,f ds=some x->Da ds (e x)):QK A:=⟨kR f,λa=> .val (.agg (e a)),LR h⟩
def qP(n:Nat)(h: ∀ds x,f ds=some x->Da ds (e x)):QK A:=⟨kP f n,λa=> .ptr (e a),sU n h⟩
def qS{k:Nat}(h: ∀ds x,f ds=some x->Da ds (e x))(z: ∀x,(e x).length=k):QK (List A):=⟨kS f,λa=> .val (.sl false k (a.map e)),Zz k h z⟩
end
structure AK(A:Type) where
 r:List PK->Option A
 e:A->List PK
 l: ∀ps a,r ps=some a->Cl ps (e a)
 n:Nat
 w: ∀a,(e a).length=n
def b1{z:Type}(p0:QK z):AK (z):=⟨a1 p0.d,λa=>[p0.e (a)],Zo p0.l,1,λ_=>rfl⟩
def b2{z G:Type}(p0:QK z)(p1:QK G):AK (z×G):=⟨a2 p0.d p1.d,λa=>[p0.e (a.1),p1.e (a.2)],QN p0.l p1.l,2,λ_=>rfl⟩
def b3{G O Q:Type}(p0:QK G)(p1:QK O)(z:QK Q):AK (G×O×Q):=⟨a3 p0.d p1.d z.d,λa=>[p0.e (a.1),p1.e (a.2.1),z.e (a.2.2)],rQ p0.l p1.l z.l,3,λ_=>rfl⟩
def b4{O Q Z A3:Type}(p0:QK O)(p1:QK Q)(z:QK Z)(G:QK A3):AK (O×Q×Z×A3):=⟨a4 p0.d p1.d z.d G.d,λa=>[p0.e (a.1),p1.e (a.2.1),z.e (a.2.2.1),G.e (a.2.2.2)],rR p0.l p1.l z.l G.l,4,λ_=>rfl⟩
def b5{Q Z A2 A3 A4:Type}(p0:QK Q)(p1:QK Z)(z:QK A2)(G:QK A3)(O:QK A4):AK (Q×Z×A2×A3×A4):=⟨a5 p0.d p1.d z.d G.d O.d,λa=>[p0.e (a.1),p1.e (a.2.1),z.e (a.2.2.1),G.e (a.2.2.2.1),O.e (a.2.2.2.2)],rU p0.l p1.l z.l G.l O.l,5,λ_=>rfl⟩
def b6{Z A1 A2 A3 A4 A5:Type}(p0:QK Z)(p1:QK A1)(z:QK A2)(G:QK A3)(O:QK A4)(Q:QK A5):AK (Z×A1×A2×A3×A4×A5):=⟨a6 p0.d p1.d z.d G.d O.d Q.d,λa=>[p0.e (a.1),p1.e (a.2.1),z.e (a.2.2.1),G.e (a.2.2.2.1),O.e (a.2.2.2.2.1),Q.e (a.2.2.2.2.2)],rV p0.l p1.l z.l G.l O.l Q.l,6,λ_=>rfl⟩
def b7{A0 A1 A2 A3 A4 A5 A6:Type}(p0:QK A0)(p1:QK A1)(z:QK A2)(G:QK A3)(O:QK A4)(Q:QK A5)(Z:QK A6):AK (A0×A1×A2×A3×A4×A5×A6):=⟨a7 p0.d p1.d z.d G.d O.d Q.d Z.d,λa=>[p0.e (a.1),p1.e (a.2.1),z.e (a.2.2.1),G.e (a.2.2.2.1),O.e (a.2.2.2.2.1),Q.e (a.2.2.2.2.2.1),Z.e (a.2.2.2.2.2.2)],rW p0.l p1.l z.l G.l O.l Q.l Z.l,7,λ_=>rfl⟩
structure RK(B:Type) where
 c:D->Option B
 e:B->D
 l: ∀d b,c d=some b->Le d (e b)
def rI:RK Int:=⟨DW,D.int .i64,ZQ⟩
def rB:RK Bool:=⟨V2,D.bool,mN⟩
def rT:RK ByteArray:=⟨HY,D.str,Y1⟩
section
variable {A:Type}{f:List D->Option A}{e:A->List D}
def rA(h: ∀ds x,f ds=some x->Da ds (e x)):RK A:=⟨EQ f,λb=>D.agg (e b),MY h⟩
def rS{k:Nat}(h: ∀ds x,f ds=some x->Da ds (e x))(z: ∀x,(e x).length=k):RK (List A):=⟨Vw f,λb=>D.sl false k (b.map e),UA h z⟩
end
def r2{A B:Type}(p:RK A)(q:RK B):RK (A×B):=⟨gU p.c q.c,λb=>D.tup [p.e b.1,q.e b.2],Qbz p.l q.l⟩
def r3{A B C:Type}(p:RK A)(q:RK B)(r:RK C):RK (A×B×C):=⟨Jp p.c q.c r.c,λb=>D.tup [p.e b.1,q.e b.2.1,r.e b.2.2],UB p.l q.l r.l⟩
def r4{A B C E:Type}(p:RK A)(q:RK B)(r:RK C)(s:RK E):RK (A×B×C×E):=⟨Jq p.c q.c r.c s.c,λb=>D.tup [p.e b.1,q.e b.2.1,r.e b.2.2.1,s.e b.2.2.2],UC p.l q.l r.l s.l⟩
def tN{P:Program}:Kf P (tab []):=V6 [] (by simp)
def tC{P:Program}{g:Nat}{r:AE}{l:List (Nat×AE)}(h:Hb P g r)(O:Kf P (tab l)):Kf P (tab ((g,r)::l)):=by
 intro g' args h' nx K z;simp only[tab] at z;split at z
 .rename_i G;subst G;exact h _ _ _ _ z
 .exact O _ _ _ _ _ z
def ZA0:=J @VC0<|J @VC1<|J @VC2<|J @VC3<|J @VC4<|J @VC5<|J @VC6<|J @VC7<|J @VC8<|J @VC9<|J @VC10<|J @VC11<|J @VC12<|J @VC13<|J @VC14<|J @VC15<|J @VC16<|J @VC17<|J @VC18<|J @VC19<|J @VC20<|J @VC21<|J @VC22<|@VC23
def ZA1:=J @VC24<|J @VC25<|J @VC26<|J @VC27<|J @VC28<|J @VC29<|J @VC30<|J @VC31<|J @VC32<|J @VC33<|J @VC34<|J @VC35<|J @VC36<|J @VC37<|J @VC38<|J @VC39<|J @VC40<|J @VC41<|J @VC42<|J @VC43<|J @zA.{0}<|J @PL<|J @Bool.not_eq_false'<|@AV.im.injEq
def ZA2:=J @D.int.injEq<|J @D.bool.injEq<|J @D.str.injEq<|J @D.sl.injEq<|J @D.agg.injEq<|J @AV.own.injEq<|J @AV.ptr.injEq<|J @Ea.{0,0}<|J @Ac.cells.injEq<|J @Ac.arr.injEq<|J @Vj.{0}<|J @Int.cast_ofNat_Int<|J @Int.ofNat_lt<|J @Int.ofNat_le<|J @yT<|J @J5<|J @EH<|J @AW<|J @H8<|J @WF<|J @WE<|J @QM<|J @zN<|@Cy
def ZA3:=J @J3<|J @E8<|J @Bb.{0,0}<|J @BD.{0,0}<|J @Lg.{0}<|J @Gf.{0}<|J @EG.{0}<|J @Eo.{0}<|J @Zfh.{0}<|J @Zfi.{0}<|J @BV.{1}<|J @Bs.{1}<|J @HA.{0}<|J @PG.{0}<|J @ne_eq.{1}<|J @Dj.{0}<|J @BG.{0}<|J @D6.{0}<|J @Dd.{0}<|J @H9.{0}<|J @and_true<|J @NL<|J @yY<|@not_true_eq_false
def ZA4:=J @or_true<|J @true_or<|J @Cz<|J @FC<|J @FO<|J @Lk<|J @false_or<|J @dK.{0}<|J @dN.{0}<|J @PI<|J @dR<|J @jF<|J @rP<|J @jE<|J @W6<|J @true_implies<|J @false_implies<|J @GE.{0,0}<|J @Ep<|J @Ew<|J @FP<|J @Zn<|J @dM.{0}<|@Option.isSome_some.{0}
def ZA5:=J @Bool.false_bne<|J @Bool.true_bne<|J @Bool.not_not<|J @AP<|J @Bj<|J @eq_self.{1}<|J @rF.{0}<|J @Bool.true_eq_false<|J @CQ<|J @TY0<|J @TY1<|J @TY2<|J @TY3<|J @KY0<|J @KY1<|J @CY0<|J @isG.eq_1<|J @qI.eq_1<|J @qU.eq_1<|J @qY.eq_1<|J @qB.eq_1<|J @qT.eq_1<|J @qR.eq_1<|@qP.eq_1
def ZA6:=J @qS.eq_1<|J @b1.eq_1<|J @b2.eq_1<|J @b3.eq_1<|J @b4.eq_1<|J @b5.eq_1<|J @b6.eq_1<|J @b7.eq_1<|J @rI.eq_1<|J @rB.eq_1<|J @rT.eq_1<|J @rA.eq_1<|J @rS.eq_1<|J @r2.eq_1<|J @r3.eq_1<|J @r4.eq_1<|J @Jq.eq_1<|J @Jq.eq_2<|J @kI.eq_1<|J @kI.eq_2<|J @kU.eq_1<|J @kU.eq_2<|J @kY.eq_1<|@kY.eq_2
def ZA7:=J @kB.eq_1<|J @kB.eq_2<|J @kT.eq_1<|J @kT.eq_2<|J @kR.eq_1<|J @kR.eq_2<|J @kP.eq_1<|J @kP.eq_2<|J @kS.eq_1<|J @kS.eq_2<|J @a1.eq_1<|J @a1.eq_2<|J @a2.eq_1<|J @a2.eq_2<|J @a3.eq_1<|J @a3.eq_2<|J @a4.eq_1<|J @a4.eq_2<|J @a5.eq_1<|J @a5.eq_2<|J @a6.eq_1<|J @a6.eq_2<|J @a7.eq_1<|@a7.eq_2
def ZA8:=J @AU.eq_1<|J @AU.eq_2<|J @NF<|J @D0.eq_1<|J @D0.eq_2<|J @Ym.eq_1<|J @Ym.eq_2<|J @Ak.eq_1<|J @HW.eq_1<|J @iP<|J @gA<|J @DW.eq_1<|J @DW.eq_2<|J @HY.eq_1<|J @HY.eq_2<|J @V2.eq_1<|J @V2.eq_2<|J @Vw.eq_1<|J @Vw.eq_2<|J @EQ.eq_1<|J @EQ.eq_2<|J @gU.eq_1<|J @gU.eq_2<|@Jp.eq_1
def ZA9:=J @Jp.eq_2<|J @A7.c.eq_1<|J @A7.d.eq_1<|J @A7.d.eq_2<|J @Al.c.eq_1<|J @Al.d.eq_1<|J @Al.d.eq_2<|J @Al.d_R<|J @A9.c.eq_1<|J @Ad.c.eq_1<|J @Ad.d.eq_1<|J @Ad.d.eq_2<|J @Ad.d_R<|J @Tile.c.eq_1<|J @Tile.d.eq_1<|J @Tile.d.eq_2<|J @Tile.d_R<|J @Au.c.eq_1<|J @Au.d.eq_1<|J @Au.d.eq_2<|J @AF.c.eq_1<|J @AF.d.eq_1<|J @AF.d.eq_2<|@D4.c.eq_1
def ZA10:=J @D4.d.eq_1<|J @D4.d.eq_2<|J @D4.d_R<|J @I7.c.eq_1<|J @I7.d.eq_1<|J @I7.d.eq_2<|J @Ag.c.eq_1<|J @Ag.d.eq_1<|J @Ag.d.eq_2<|J @Ag.d_R<|J @D7.{0,0}<|J @AM.{0}<|J @Gh.{0,0}<|J @A7.d_R<|J @A7.eta<|J @Al.eta<|J @A9.eta<|J @Ad.eta<|J @Tile.eta<|J @Au.eta<|J @AF.eta<|J @D4.eta<|J @I7.eta<|@Ag.eta
def ZA11:=J @KQ.c.eq_1<|J @KQ.d.eq_1<|J @KQ.d.eq_2<|J @KQ.eta<|J @Qmt<|J @Qk8<|J @Qqj<|J @Tt<|J @OI<|J @HR.eq_1<|J @HR.eq_2<|J @HR.eq_3<|J @J1.{0,0}<|@zI.{0,0}
def ZA:=J @ZA0<|J @ZA1<|J @ZA2<|J @ZA3<|J @ZA4<|J @ZA5<|J @ZA6<|J @ZA7<|J @ZA8<|J @ZA9<|J @ZA10<|@ZA11
def ZT0:=J @ZO.eq_1<|J @CK.eq_1<|J @Vf.eq_1<|J @Vf.eq_2<|J @MG<|J @Bc.c.eq_1<|J @Bc.d.eq_1<|J @Bc.d.eq_2<|J @Bc.eta<|J @Be.c.eq_1<|J @Be.d.eq_1<|J @Be.d.eq_2<|J @Be.eta<|J @JJ.c.eq_1<|J @JJ.d.eq_1<|J @JJ.d.eq_2<|J @EB.c.eq_1<|J @EB.d.eq_1<|J @EB.d.eq_2<|J @E9.c.eq_1<|J @E9.d.eq_1<|J @E9.d.eq_2<|J @JJ.eta<|@EB.eta
def ZT1:= @E9.eta
def ZT:=J @ZT0 (@ZT1)
def ZG:=J @Az.good.eq_1<|J @Cp.eq_1<|J @Cp.eq_2<|J @Av.eq_1<|J @Av.eq_2<|J @Av.eq_3<|J @Av.eq_4<|J @Av.eq_5<|J @Av.eq_6<|J @Av.eq_7<|J @Av.eq_8<|J @BB.eq_1<|J @BB.eq_2<|J @AV.bel.eq_1<|J @AV.bel.eq_2<|J @AV.bel.eq_3<|J @AV.bel.eq_4<|J @AV.bel.eq_5<|J @AV.bel.eq_6<|J @AV.bel.eq_7<|J @AV.bel.eq_8<|J @AV.bel.eq_9<|J @AV.bel.eq_10<|J @AV.bel.eq_11<|J @AV.bel.eq_12<|J @AD.eq_1 @AD.eq_2
def BS:=J @Qd<|J @VE<|J @V7<|J @VD @Qc
def Ax:=J BS (J @EF.{0} @GQ.{0})
def Adq(b:Bool)(k:Nat)(x:List (List D)):A9.d [.sl b k x]=(AU Al.d x).bind λy=>some ⟨y⟩:=rfl
def ZZ:=J ZA (J ZT @Adq)
def vq{A:Type}{ar:List PK->Option A}{pre:A->Prop}{re:A->D}(r:AE)(e:r=E4 ar pre re)(a:List AV)(h:Nat->Option Am)(n:Nat)(K:Ah):r a h n K=V1 ar pre re (Aw a) K (Io h a):=by rw[e];rfl
def vqF{A:Type}{ar:List PK->Option A}{pre:A->Prop}{re:A->D}(r:AE)(e:r=Q3 ar pre re)(a:List AV)(h:Nat->Option Am)(n:Nat)(K:Ah):r a h n K=UQ ar pre re (DV h a) K (BR h a):=by rw[e];rfl
end Go.Ae
namespace Go.Ae
open Go.Proofs
def vK{A B:Type}(k:AK A)(r:RK B)(pre:A->Prop)(f:A->B):AE:=E4 k.r pre λa=>r.e (f a)
def CG{A B:Type}(k:AK A)(r:RK B)(pre:A->Prop)(f:A->B):AE:=Q3 k.r pre λa=>r.e (f a)
section
variable {A B:Type}{R:AE}{k:AK A}{r:RK B}{pre:A->Prop}{f:A->B}
def Bg(e:R=vK k r pre f)(a:List AV)(h:Nat->Option Am)(n:Nat)(K:Ah):R a h n K=V1 k.r pre (λa=>r.e (f a)) (Aw a) K (Io h a):=by rw[e];rfl
def CH(e:R=CG k r pre f)(a:List AV)(h:Nat->Option Am)(n:Nat)(K:Ah):R a h n K=UQ k.r pre (λa=>r.e (f a)) (DV h a) K (BR h a):=by rw[e];rfl
variable {V:CT}(hV:Kf Tryz.prog V){g:FuncId}{fn:Func}{c:Code}(hf:Tryz.prog.funcs[g]? =some fn)
include hV hf
def vw(O: ∀a,pre a->CR Tryz.prog V c (OM Tryz.prog fn.results.toList (BH (k.e a)) [] Ky (CJ 0 (k.e a)) (Mw r.c (f a))) ⟨entry 0 (CL 0 (k.e a)),CJ 0 (k.e a),BH (k.e a)⟩)(G:fn.body=some c:=by rfl)(z:(DT fn.ntmps c && (Gq Tryz.prog g && Nat.ble k.n fn.ntmps))=true:=by kernel_rfl):Hb Tryz.prog g (vK k r pre f):=by
 simp only[AW] at z;exact gN ER hV hf G z.1 z.2.1 k.l k.w (jC z.2.2) r.l O
def Gy(O: ∀a,pre a->CR Tryz.prog V c (Zc Tryz.prog fn.results.toList (AQ r.c (f a))) ⟨entry 0 (CL 0 (k.e a)),CJ 0 (k.e a),BH (k.e a)⟩)(G:fn.body=some c:=by rfl)(z:(DT fn.ntmps c && (Gq Tryz.prog g && Nat.ble k.n fn.ntmps))=true:=by kernel_rfl):Hb Tryz.prog g (CG k r pre f):=by
 simp only[AW] at z;exact Qbn ER hV hf G z.1 z.2.1 k.l k.w (jC z.2.2) r.l O
end
section
variable {V:CT}(hV:Kf Tryz.prog V){g:FuncId}{fn:Func}{c:Code}(hf:Tryz.prog.funcs[g]? =some fn)
 {A:Type}{ca:A->List AV}{H0 H1:A->Ao}{k cnt:Nat}{pre:A->Prop}{klB exB:Nat->Bool}{r0:A->AV}{R:A->AV->Prop}
 (hn: ∀a,Nat.ble (ca a).length fn.ntmps=true)(hq: ∀a,AD k (ca a)=true/\Av k (H0 a)=true/\BB k (H0 a)=true/\BU (H0 a) (H0 a))
 (hH1: ∀a,∀p∈H1 a,(p.1<k/\klB p.1=true/\Aj (H0 a) p.1=true)\/(k<=p.1/\p.1<k+cnt/\exB p.1=true/\p.2.1=true))
 (hR: ∀a r,R a r->Dh r (r0 a))
include hV hf hn hq hH1 hR
def ow(hk: ∀a,pre a->CR Tryz.prog V c (Nq Tryz.prog fn.results.toList k cnt (H0 a) (H1 a) klB exB (R a)) ⟨entry 0 (ca a),H0 a,k⟩)(hb:fn.body=some c:=by rfl)(Q:(DT fn.ntmps c && Gq Tryz.prog g)=true:=by kernel_rfl):Hb Tryz.prog g (AL ca H0 k pre klB r0 H1 cnt):=by
 simp only[AW] at Q;rintro args h nx K ⟨a,τ,U,KL,O,rfl,z,G,hK⟩;refine⟨YH Q.2,_,_,?_,hK⟩;exact tH ER hV hf hb Q.1 (jC (hn a)) (hq a).1 (hq a).2.1 (hq a).2.2.1 (λj e Z=>Qo2 (hq a).2.2.2 j e (cE Z)) (hR a) (hH1 a) T7 (λ_ _ h=>h) (hk a O) G.inj G.lt
  (λj e Z=>Qpk z j e (cE Z)) G.u G.k1 G.k2
def Td(hk: ∀a,pre a->CR Tryz.prog V c (Br Tryz.prog fn.results.toList k cnt (H0 a) (H1 a) klB exB (R a)) ⟨entry 0 (ca a),H0 a,k⟩)(hb:fn.body=some c:=by rfl)(Q:(DT fn.ntmps c && Gq Tryz.prog g)=true:=by kernel_rfl):Hb Tryz.prog g (AL ca H0 k pre klB r0 H1 cnt):=by
 simp only[AW] at Q;rintro args h nx K ⟨a,τ,U,KL,O,rfl,z,G,hK⟩;refine⟨YH Q.2,_,_,?_,hK⟩;exact tH ER hV hf hb Q.1 (jC (hn a)) (hq a).1 (hq a).2.1 (hq a).2.2.1 (λj e Z=>Qo2 (hq a).2.2.2 j e (cE Z)) (hR a) (hH1 a) T8 (λ_ _ h=>h) (hk a O) G.inj G.lt
  (λj e Z=>Qpk z j e (cE Z)) G.u G.k1 G.k2
end
abbrev AI:=Hb Tryz.prog
def Bw(n lo z:Int):Bool:=decide (lo<=n) && decide (n<=z)
def within_.fv(a:Int×Int×Int):Bool:=(Bw) (a.1) (a.2.1) (a.2.2)
def within_.row:AE:=vK (b3 qI qI qI) rB (λa=>True) within_.fv
def within_.q:=Bg (R:=within_.row) rfl
def within_.ok:AI 50 within_.row:=by
 refine vw tN Tryz.func50 ?_;intro a z;simp only[Tryz.f50,Option.getD];simp only[ZZ,simprocAttr,Ab,within_.fv];simp only[Bw];grind
def l00In.fv(a:Int×Int×Int):Bool:=(Bw) (a.1) (a.2.1) (a.2.2)
def l00In.row:AE:=vK (b3 qI qI qI) rB (λa=>True) l00In.fv
def l00In.q:=Bg (R:=l00In.row) rfl
def l00In.ok:AI 14 l00In.row:=by
 refine vw tN Tryz.func14 ?_;intro a z;simp only[Tryz.f14,Option.getD];simp only[ZZ,simprocAttr,Ab,l00In.fv];simp only[Bw];grind
def I64(n:Int):Prop:= -9223372036854775808<=n/\n<=9223372036854775807
def isIndex.fv(a:Int×Int):Bool:=Bw a.1 0 (a.2 - 1)
def isIndex.row:AE:=vK (b2 qI qI) rB (λa=>0<=a.2/\I64 a.2) isIndex.fv
def isIndex.q:=Bg (R:=isIndex.row) rfl
def isIndex.ok:AI 93 isIndex.row:=by
 refine vw (tC within_.ok tN) Tryz.func93 ?_;intro a z;simp only[Tryz.f93,Option.getD];simp only[ZZ,simprocAttr,Ab,isIndex.fv,within_.q,within_.fv];obtain⟨G,O,Q⟩:=z;rw[AA (by omega) (by omega)]
def Ht(p:A7):Bool:=Bw p.X (-60) 60 && Bw p.Y (-60) 60
def ValidPoint.fv(a:A7):Bool:=(Ht) a
def ValidPoint.row:AE:=vK (b1 (qR A7.d_le)) rB (λa=>True) ValidPoint.fv
def ValidPoint.q:=Bg (R:=ValidPoint.row) rfl
def ValidPoint.ok:AI 92 ValidPoint.row:=by
 refine vw (tC within_.ok tN) Tryz.func92 ?_;intro a z;simp only[Tryz.f92,Option.getD];simp only[ZZ,simprocAttr,Ab,ValidPoint.fv,within_.q,within_.fv];simp only[Ht];grind
def l01Point.fv(a:A7):Bool:=(Ht) a
def l01Point.row:AE:=vK (b1 (qR A7.d_le)) rB (λa=>True) l01Point.fv
def l01Point.q:=Bg (R:=l01Point.row) rfl
def l01Point.ok:AI 41 l01Point.row:=by
 refine vw (tC l00In.ok tN) Tryz.func41 ?_;intro a z;simp only[Tryz.f41,Option.getD];simp only[ZZ,simprocAttr,Ab,l01Point.fv,l00In.q,l00In.fv];simp only[Ht];grind
def isNaN.fv(a:Int):Bool:=false && a==0
def isNaN.row:AE:=vK (b1 qI) rB (λa=>True) isNaN.fv
def isNaN.q:=Bg (R:=isNaN.row) rfl
def isNaN.ok:AI 160 isNaN.row:=by
 refine vw tN Tryz.func160 ?_;intro a z;simp only[Tryz.f160,Option.getD];simp only[ZZ,simprocAttr,Ab,isNaN.fv]
 try simp
def Fh(a b:Int):Int:=if a<b then -1 else if b<a then 1 else 0
def Compare.fv(a:Int×Int):Int:=(Fh) (a.1) (a.2)
def Compare.row:AE:=vK (b2 qI qI) rI (λa=>True) Compare.fv
def Compare.q:=Bg (R:=Compare.row) rfl
def Compare.ok:AI 127 Compare.row:=by
 refine vw (tC isNaN.ok tN) Tryz.func127 ?_;intro a z;simp only[Tryz.f127,Option.getD];simp only[ZZ,simprocAttr,Ab,Compare.fv,isNaN.q,isNaN.fv];simp only[Fh];grind
def Cb(a b:A7):Bool:=decide (a.Y<b.Y)||(decide (a.Y=b.Y) && decide (a.X<b.X))
def l_LessPoint.fv(a:A7×A7):Bool:=(Cb) (a.1) (a.2)
def l_LessPoint.row:AE:=vK (b2 (qR A7.d_le) (qR A7.d_le)) rB (λa=>True) l_LessPoint.fv
def l_LessPoint.q:=Bg (R:=l_LessPoint.row) rfl
def l_LessPoint.ok:AI 80 l_LessPoint.row:=by
 refine vw tN Tryz.func80 ?_;intro a z;simp only[Tryz.f80,Option.getD];simp only[ZZ,simprocAttr,Ab,l_LessPoint.fv];simp only[Cb]
 grind
def EL(a b:Int):Int:=if a<b then a else b
def Ei(a b:Int):Int:=if b<a then a else b
def l00Min.fv(a:Int×Int):Int:=(EL) (a.1) (a.2)
def l00Min.row:AE:=vK (b2 qI qI) rI (λa=>True) l00Min.fv
def l00Min.q:=Bg (R:=l00Min.row) rfl
def l00Min.ok:AI 108 l00Min.row:=by
 refine vw tN Tryz.func108 ?_;intro a z;simp only[Tryz.f108,Option.getD];simp only[ZZ,simprocAttr,Ab,l00Min.fv];simp only[EL];grind
def l00Max.fv(a:Int×Int):Int:=(Ei) (a.1) (a.2)
def l00Max.row:AE:=vK (b2 qI qI) rI (λa=>True) l00Max.fv
def l00Max.q:=Bg (R:=l00Max.row) rfl
def l00Max.ok:AI 109 l00Max.row:=by
 refine vw tN Tryz.func109 ?_;intro a z;simp only[Tryz.f109,Option.getD];simp only[ZZ,simprocAttr,Ab,l00Max.fv];simp only[Ei];grind
def oX(c:Int):Bool:=Bw c 97 122||Bw c 65 90
def xS(c:Int):Bool:=Bw c 48 57
def l01Letter.fv(a:Int):Bool:=(oX) a
def l01Letter.row:AE:=vK (b1 qY) rB (λa=>True) l01Letter.fv
def l01Letter.q:=Bg (R:=l01Letter.row) rfl
def l01Letter.ok:AI 105 l01Letter.row:=by
 refine vw tN Tryz.func105 ?_;intro a z;simp only[Tryz.f105,Option.getD];simp only[ZZ,simprocAttr,Ab,l01Letter.fv];simp only[oX,Bw];grind
def l01Digit.fv(a:Int):Bool:=(xS) a
def l01Digit.row:AE:=vK (b1 qY) rB (λa=>True) l01Digit.fv
def l01Digit.q:=Bg (R:=l01Digit.row) rfl
def l01Digit.ok:AI 106 l01Digit.row:=by
 refine vw tN Tryz.func106 ?_;intro a z;simp only[Tryz.f106,Option.getD];simp only[ZZ,simprocAttr,Ab,l01Digit.fv];simp only[xS,Bw];grind
def rY(a b:A7):A7:=⟨a.X+b.X,a.Y+b.Y⟩
def Qw(p:A7):Prop:= -1000000000<=p.X/\p.X<=1000000000/\ -1000000000<=p.Y/\p.Y<=1000000000
def plus.fv(a:A7×A7):A7:=(rY) (a.1) (a.2)
def plus.row:AE:=vK (b2 (qR A7.d_le) (qR A7.d_le)) (rA A7.d_le) (λa=>Qw a.1/\Qw a.2) plus.fv
def plus.q:=Bg (R:=plus.row) rfl
def plus.ok:AI 185 plus.row:=by
 refine vw tN Tryz.func185 ?_;intro a z;simp only[Tryz.f185,Option.getD];simp only[ZZ,simprocAttr,Ab,plus.fv];obtain⟨⟨G,O,Q,Z⟩,h5,h6,h7,h8⟩:=z;rw[AA (by omega) (by omega),AA (by omega) (by omega)];rfl
def UV(p:A7)(d:Int):A7:=if d=0 then ⟨p.X,p.Y+1⟩ else if d=1 then ⟨p.X+1,p.Y⟩ else if d=2 then ⟨p.X,p.Y - 1⟩ else ⟨p.X - 1,p.Y⟩
def step_.rc:D->Option (A7):=EQ A7.d
def step_.re:A7->D:=λb=>D.agg (A7.c b)
def step_.rle: ∀d b,step_.rc d=some b->Le d (step_.re b):=MY A7.d_le
def step_.ar:List PK->Option (A7×Int):=a2 (kR A7.d) kI
def step_.fv(a:A7×Int):A7:=(UV) (a.1) (a.2)
def step_.row:AE:=vK (b2 (qR A7.d_le) qI) (RK.mk step_.rc step_.re step_.rle) (λa=>Qw a.1/\0<=a.2/\a.2<=3) step_.fv
def step_.q:=Bg (R:=step_.row) rfl
def step_.ok:AI 170 step_.row:=by
 refine vw (tC plus.ok tN) Tryz.func170 ?_;intro a z;simp only[Tryz.f170,Option.getD];obtain⟨p,d⟩:=a;obtain⟨hp,G,O⟩:=z;simp only at G O hp;rcases (by omega:d=0\/d=1\/d=2\/d=3) with rfl|rfl|rfl|rfl
 all_goals
  simp only[ZZ,simprocAttr,Ab,step_.fv,step_.rc,plus.q,plus.fv];obtain⟨Q,Z,h5,h6⟩:=hp;refine⟨⟨⟨Q,Z,h5,h6⟩,by simp[Qw]⟩,?_⟩;simp[UV,rY]<;>omega
def l01Step.fv(a:A7×Int):A7:=(UV) (a.1) (a.2)
def l01Step.row:AE:=vK (b2 (qR A7.d_le) qI) (rA A7.d_le) (λa=>Qw a.1/\0<=a.2/\a.2<=3) l01Step.fv
def l01Step.q:=Bg (R:=l01Step.row) rfl
def l01Step.ok:AI 132 l01Step.row:=by
 refine vw tN Tryz.func132 ?_;intro a z;simp only[Tryz.f132,Option.getD];simp only[ZZ,simprocAttr,Ab,l01Step.fv];obtain⟨⟨G,O,Q,Z⟩,h5,h6⟩:=z;rw[AA (by omega) (by omega),AA (by omega) (by omega),AA (by omega) (by omega),AA (by omega) (by omega)];simp only[UV]
 grind
def P6:List Int->Int
 |[]=>0
 |x::r=>if x=0 then P6 r else x
def Or.fv(a:(List Int)):Int:=(P6) a
def Or.row:AE:=vK (b1 (qS GH EX)) rI (λa=>True) Or.fv
def Or.q:=Bg (R:=Or.row) rfl
def Or.ok:AI 126 Or.row:=by
 refine vw tN Tryz.func126 ?_;intro a Z;simp only[Tryz.f126,Option.getD];simp(disch:=omega)only[ZZ,simprocAttr,Ab,Or.fv];intro Q;refine AY.old ⟨{k:Nat//k<=a.length/\P6 (a.drop k)=P6 a},λk=>⟨[(8,.im (.int .i64 k.1)),(7,.im (.int .i64 a.length)),(6,.im (.sl false 1 (a.map Ak))),(3,.im (.int .i64 0)),(2,.im (.int .i64 0))],[],0⟩,λk=>a.length - k.1,λk=>⟨by simp[ZG],AP _⟩,⟨⟨0,by simp⟩,by simp(disch:=omega)only[ZZ,simprocAttr,Ab,Or.fv,sub]⟩,λk=> ?_⟩;obtain⟨k,aa,z⟩:=k;simp(disch:=omega)only[ZZ,simprocAttr,Ab,Or.fv,sub];simp only[AO];refine⟨λG=>⟨G,λx hx=> ?_⟩,λG=> ?_⟩
 .have O:a.drop k=x::a.drop (k+1):=by
   rw[Vh G];rw[B2 G] at hx;rw[AB hx]
  rw[O,P6] at z;refine⟨λh=>by grind,λh=>⟨⟨k+1,by omega,by grind⟩,by simp only;omega,?_⟩⟩;simp (disch:=omega) only[AA];simp
 .have O:a.drop k=[]:=DB (by omega);rw[O] at z;exact z
def comparePoints.fv(a:A7×A7):Int:=(λa b=>P6 [Fh a.Y b.Y,Fh a.X b.X]) (a.1) (a.2)
def comparePoints.row:AE:=vK (b2 (qR A7.d_le) (qR A7.d_le)) rI (λa=>True) comparePoints.fv
def comparePoints.q:=Bg (R:=comparePoints.row) rfl
def comparePoints.ok:AI 91 comparePoints.row:=by
 refine vw (tC Compare.ok (tC Or.ok tN)) Tryz.func91 ?_;intro a z;simp only[Tryz.f91,Option.getD];simp only[ZZ,simprocAttr,Ab,comparePoints.fv,Compare.q,Compare.fv,Or.q,Or.fv]
def impl_LessPoint.fv(a:A7×A7):Bool:=(Cb) (a.1) (a.2)
def impl_LessPoint.row:AE:=vK (b2 (qR A7.d_le) (qR A7.d_le)) rB (λa=>True) impl_LessPoint.fv
def impl_LessPoint.q:=Bg (R:=impl_LessPoint.row) rfl
def impl_LessPoint.ok:AI 94 impl_LessPoint.row:=by
 refine vw (tC comparePoints.ok tN) Tryz.func94 ?_;intro a z;simp only[Tryz.f94,Option.getD];simp only[ZZ,simprocAttr,Ab,impl_LessPoint.fv,comparePoints.q,comparePoints.fv];simp only[Cb,P6,Fh]
 grind
def N4(i:Nat)(c:Int):Bool:=oX c||(decide (i≠0) && (xS c||decide (c=95)))
def Hs:Nat->List UInt8->Bool
 |_,[]=>true
 |i,c::r=>N4 i c.toNat && Hs (i+1) r
def lP{a:ByteArray}{k:Nat}{c:UInt8}(G:a.data[k]? =some c):a.data.toList.drop k=c::a.data.toList.drop (k+1):=by
 have h0:a.data.toList[k]? =some c:=by simpa using G
 have z:k<a.data.toList.length:=(Cu.1 h0).1;rw[Vh z];rw[B2 z] at h0;rw[AB h0]
def Rh{a:ByteArray}{k:Nat}(h: ¬k<a.size):a.data.toList.drop k=[]:=DB (by simpa using h)
def I4(s:ByteArray):Bool:=Hs 0 s.data.toList && (decide (1<=s.size) && decide (s.size<=12))
def impl_IsName.fv(a:ByteArray):Bool:=(I4) a
def impl_IsName.row:AE:=vK (b1 qT) rB (λa=>a.size<=140737488355328) impl_IsName.fv
def impl_IsName.q:=Bg (R:=impl_IsName.row) rfl
def impl_IsName.ok:AI 138 impl_IsName.row:=by
 refine vw tN Tryz.func138 ?_;intro a aa;simp only[Tryz.f138,Option.getD];simp only[ZZ,simprocAttr,Ab,impl_IsName.fv];refine AY.old ⟨{k:Nat//k<=a.size/\Hs k (a.data.toList.drop k)=Hs 0 a.data.toList},λk=>⟨[(8,.im (.int .i64 k.1)),(7,.im (.int .i64 a.size)),(6,.im (.str a)),(0,.im (.str a)),(2,.im (.bool false))],[],0⟩,λk=>a.size - k.1,λk=>⟨by simp[ZG],AP _⟩,⟨⟨0,by simp⟩,by simp only[ZZ,simprocAttr,Ab,impl_IsName.fv,sub]⟩,λk=> ?_⟩;obtain⟨k,ab,z⟩:=k;simp only[ZA,simprocAttr,A9.d,Ab,impl_IsName.fv,sub]
 split<;>rename_i Q
 .refine⟨Q,?_⟩;intro c hc;have hd:a.data.toList.drop k=c::a.data.toList.drop (k+1):=by
   have hl:k<a.data.toList.length:=by simpa using Q
   rw[Vh hl]
   have:a.data.toList[k]? =some c:=by simpa using hc
   rw[B2 hl] at this;rw[AB this]
  rw[hd,Hs] at z;by_cases Z:(97:Int)<=c.toNat<;>by_cases e2:(c.toNat:Int)<=122<;>(try (exfalso;omega))<;>by_cases e3:(65:Int)<=c.toNat<;>(try (exfalso;omega))<;>by_cases e4:(c.toNat:Int)<=90<;>(try (exfalso;omega))<;>
   by_cases e5:(c.toNat:Int)<48<;>(try (exfalso;omega))<;>by_cases e6:(57:Int)<c.toNat<;>(try (exfalso;omega))<;>by_cases e7:(c.toNat:Int)=95<;>(try (exfalso;omega))<;>by_cases e8:(k:Int)=0
  all_goals
   have e9:(48:Int)<=c.toNat↔ ¬(c.toNat:Int)<48:=by omega
   have G:(c.toNat:Int)<=57↔ ¬(57:Int)<c.toNat:=by omega
   have O:k=0↔(k:Int)=0:=by omega
   have hb:N4 k c.toNat=N4 k c.toNat:=rfl
   conv at hb=>
    rhs
    simp only[N4,oX,xS,Bw,Z,e2,e3,e4,e5,e6,e7,e8,e9,G,O,ne_eq,QM,zN,Ep,Zn,dR,PI,jF,rP,Ew,FP,not_true_eq_false,yY]
   rw[hb] at z;simp only[ZZ,simprocAttr,Ab,impl_IsName.fv,sub,Z,e2,e3,e4,e5,e6,e7,e8]
   first
    |(simp only[FP] at z
      simp only[I4,<-z,FP])
    |(simp only[Ew] at z
      refine⟨⟨k+1,by omega,z⟩,by simp only;omega,?_⟩;rw[AA (by omega) (by omega)];simp only
      omega)
    |(have h9:Hs 0 a.data.toList=false:=by rw[<-z];simp
      simp[I4,h9])
 .have:a.data.toList.drop k=[]:=DB (by simpa using Q)
  rw[this,Hs] at z;simp only[I4]
  grind
def spec_IsName.fv(a:ByteArray):Bool:=(I4) a
def spec_IsName.row:AE:=vK (b1 qT) rB (λa=>True) spec_IsName.fv
def spec_IsName.q:=Bg (R:=spec_IsName.row) rfl
def iZ:=J @spec_IsName.fv.eq_1<|J @l01Letter.q<|J @l01Letter.fv.eq_1<|J @l01Digit.q @l01Digit.fv.eq_1
def spec_IsName.ok:AI 72 spec_IsName.row:=by
 refine vw (tC l01Letter.ok (tC l01Digit.ok tN)) Tryz.func72 ?_;intro a ad;simp only[Tryz.f72,Option.getD];simp only[ZA,simprocAttr,A9.d,Ab,iZ,AO];refine⟨λh1=>⟨λh2=>⟨by omega,?_⟩,λh2=> ?_⟩,λh1=> ?_⟩
 .intro c hc;have hd:=lP hc;rw[Gf] at hd;cases hL:oX c.toNat
  .simp only[ZZ,simprocAttr,Ab,iZ,hL];have h9:Hs 0 a.data.toList=false:=by rw[hd];simp[Hs,N4,hL]
   simp[I4,h9]
  .simp only[ZZ,simprocAttr,Ab,iZ,hL];refine AY.old ⟨{k:Nat//1<=k/\k<=a.size/\Hs k (a.data.toList.drop k)=Hs 0 a.data.toList},λk=>⟨[(3,.im (.int .i64 k.1)),(0,.im (.str a)),(2,.im (.bool false))],[],0⟩,λk=>a.size - k.1,λk=>⟨by simp[ZG],AP _⟩,⟨⟨1,by omega,by omega,?_⟩,by simp only[ZZ,simprocAttr,Ab,iZ,sub]⟩,λk=> ?_⟩
   .conv=>rhs;rw[hd]
    simp[Hs,N4,hL]
   .obtain⟨k,af,ag,z⟩:=k;simp only[ZA,simprocAttr,A9.d,Ab,iZ,sub,AO];refine⟨λZ=>⟨Z,λc2 Q=> ?_⟩,λZ=> ?_⟩
    .rw[lP Q,Hs] at z;simp only[ZZ,simprocAttr,Ab,iZ,sub,AO];have ac:N4 k c2.toNat=true->Hs (k+1) (a.data.toList.drop (k+1))=Hs 0 a.data.toList:=by
      intro h;rw[h] at z;simpa using z
     have ab:N4 k c2.toNat=false->false=I4 a:=by
      intro h;rw[h] at z;have h9:Hs 0 a.data.toList=false:=by rw[<-z];simp
      simp[I4,h9]
     have O:N4 k c2.toNat=true-> ∃b':{k:Nat//1<=k/\k<=a.size/\Hs k (a.data.toList.drop k)=Hs 0 a.data.toList},a.size - b'.val<a.size - k/\IntKind.wrap .i64 ((k:Int)+1)=b'.val:=by
      intro h;refine⟨⟨k+1,by omega,by omega,ac h⟩,by simp only;omega,?_⟩;rw[AA (by omega) (by omega)];simp only;omega
     have aa:k≠0:=by omega
     refine⟨λl=>⟨Z,λc3 G=> ?_⟩,λl=> ?_⟩
     .rw[Q] at G;obtain rfl:=AB G;refine⟨λl2=>⟨Z,λc3 G=> ?_⟩,λl2=> ?_⟩
      .rw[Q] at G;obtain rfl:=AB G;refine⟨λl3=>ab ?_,λl3=>O ?_⟩
       .simp[N4,l,l2,l3]
       .simp only[Gg] at l3;simp[N4,l3,aa]
      .refine O ?_;simp only[Kj] at l2;simp[N4,l2,aa]
     .refine O ?_;simp only[Kj] at l;simp[N4,l]
    .rw[Rh Z,Hs] at z;simp only[I4]
     grind
 .simp only[I4];grind
 .simp only[I4];grind
def cQ{A:Type}{B:Type}(f:A->B)(z:B)(a:List A)(k:Nat)(x:A)(G:a[k]? =some x):
 ((a.take k).map f++List.replicate (a.length - k) z).set k (f x)=(a.take (k+1)).map f++List.replicate (a.length - (k+1)) z:=by
 have hk:k<a.length:=(Cu.1 G).1;have O:a.take (k+1)=a.take k++[x]:=by
  rw[IA,G];rfl
 have Q:a.length - k=(a.length - (k+1))+1:=by omega
 rw[O,Q,Zen,En,J0,rK _ _ (by simp;omega)];have Z:k - (List.map f (List.take k a)).length=0:=by simp;omega
 rw[Z];rfl
def cL{A:Type}{B:Type}(f:A->B)(z:B)(a:List A)(k:Nat)(x:A)(O:a[k]? =some x):
 ((a.take k).map f++List.replicate (a.length - k) z)[k]? =some z:=by
 have Q:k<a.length:=(Cu.1 O).1;rw[J2 (by simp;omega)];have G:k - (List.map f (List.take k a)).length=0:=by simp;omega
 rw[G,Lh,Ai (by omega)]
def cO{A:Type}{B:Type}(f:A->B)(z:B)(a:List A)(k:Nat)(G:k<=a.length):((a.take k).map f++List.replicate (a.length - k) z).length=a.length:=by
 simp;omega
def cP{A:Type}{B:Type}(f:A->B)(z:B)(a:List A)(k:Nat)(G:a.length<=k):(a.take k).map f++List.replicate (a.length - k) z=a.map f:=by
 rw[F9 G,show a.length - k=0 by omega];simp
def toPoint.fv(a:A7):A7:=(λp=>p) a
def toPoint.row:AE:=vK (b1 (qR A7.d_le)) (rA A7.d_le) (λa=>True) toPoint.fv
def toPoint.q:=Bg (R:=toPoint.row) rfl
def toPoint.ok:AI 116 toPoint.row:=by
 refine vw tN Tryz.func116 ?_;intro a z;simp only[Tryz.f116,Option.getD];simp only[ZZ,simprocAttr,Ab,toPoint.fv]
def toPlaced.fv(a:Al):Al:=(λp=>p) a
def toPlaced.row:AE:=vK (b1 (qR Al.d_le)) (rA Al.d_le) (λa=>True) toPlaced.fv
def toPlaced.q:=Bg (R:=toPlaced.row) rfl
def toPlaced.ok:AI 84 toPlaced.row:=by
 refine vw (tC toPoint.ok tN) Tryz.func84 ?_;intro a z;simp only[Tryz.f84,Option.getD];simp only[ZZ,simprocAttr,Ab,toPlaced.fv,toPoint.q,toPoint.fv]
def toGlue.fv(a:Ad):Ad:=(λp=>p) a
def toGlue.row:AE:=vK (b1 (qR Ad.d_le)) (rA Ad.d_le) (λa=>True) toGlue.fv
def toGlue.q:=Bg (R:=toGlue.row) rfl
def toGlue.ok:AI 82 toGlue.row:=by
 refine vw tN Tryz.func82 ?_;intro a z;simp only[Tryz.f82,Option.getD];simp only[ZZ,simprocAttr,Ab,toGlue.fv]
def toInt64S.fv(a:(List Int)):List Int:=(λp=>p) a
def toInt64S.row:AE:=vK (b1 (qS GH EX)) (rS GH EX) (λa=>a.length<=1073741824) toInt64S.fv
def toInt64S.q:=Bg (R:=toInt64S.row) rfl
def toInt64S.ok:AI 115 toInt64S.row:=by
 refine vw tN Tryz.func115 ?_;intro a Q;simp only[Tryz.f115,Option.getD];simp only[ZZ,simprocAttr,Ab,toInt64S.fv];intro O;refine⟨by omega,?_⟩;refine AY.old ⟨{k:Nat//k<=a.length},λk=>⟨[(4,.im (.int .i64 k.1)),(3,.own 1),(0,.im (.sl false 1 (a.map Ak)))],[(1,(true,.arr 2 1 ((a.take k.1).map Ak++List.replicate (a.length - k.1) [.int .i64 0])))],2⟩,λk=>a.length - k.1,λk=>⟨by simp[ZG],AP _⟩,⟨⟨0,by omega⟩,by simp only[ZZ,simprocAttr,Ab,toInt64S.fv,sub];simp⟩,λk=> ?_⟩;obtain⟨k,G⟩:=k;simp only[ZZ,simprocAttr,Ab,toInt64S.fv,sub,AO,cO _ _ a k G];intro _;refine⟨λz=>⟨z,λx Z=>⟨z,z,La (cL Ak [.int .i64 0] a k x Z) ?_⟩⟩,λz=> ?_⟩
 .simp only[ZZ,simprocAttr,Ab,toInt64S.fv,sub];refine⟨⟨k+1,by omega⟩,by simp only;omega,?_,?_⟩
  .rw[AA (by omega) (by omega)];simp only;omega
  .exact cQ Ak [.int .i64 0] a k x Z
 .rw[cP Ak _ a k (by omega)];simp[iP]
def eqPoint.fv(a:A7×A7):Bool:=(λa b=>decide (a=b)) (a.1) (a.2)
def eqPoint.row:AE:=vK (b2 (qR A7.d_le) (qR A7.d_le)) rB (λa=>True) eqPoint.fv
def eqPoint.q:=Bg (R:=eqPoint.row) rfl
def eqPoint.ok:AI 130 eqPoint.row:=by
 refine vw tN Tryz.func130 ?_;intro a G;simp only[Tryz.f130,Option.getD];simp only[ZZ,simprocAttr,Ab,eqPoint.fv];obtain⟨⟨x,y⟩,⟨z,w⟩⟩:=a;simp only[A7.mk.injEq]
 grind
def eqPlaced.fv(a:Al×Al):Bool:=(λa b=>decide (a=b)) (a.1) (a.2)
def eqPlaced.row:AE:=vK (b2 (qR Al.d_le) (qR Al.d_le)) rB (λa=>True) eqPlaced.fv
def eqPlaced.q:=Bg (R:=eqPlaced.row) rfl
def eqPlaced.ok:AI 100 eqPlaced.row:=by
 refine vw (tC eqPoint.ok tN) Tryz.func100 ?_;intro a G;simp only[Tryz.f100,Option.getD];simp only[ZZ,simprocAttr,Ab,eqPlaced.fv,eqPoint.q,eqPoint.fv];obtain⟨⟨⟨x,y⟩,u⟩,⟨⟨z,w⟩,v⟩⟩:=a;simp only[Al.mk.injEq,A7.mk.injEq]
 grind
def eqGlue.fv(a:Ad×Ad):Bool:=(λa b=>decide (a=b)) (a.1) (a.2)
def eqGlue.row:AE:=vK (b2 (qR Ad.d_le) (qR Ad.d_le)) rB (λa=>True) eqGlue.fv
def eqGlue.q:=Bg (R:=eqGlue.row) rfl
def eqGlue.ok:AI 98 eqGlue.row:=by
 refine vw tN Tryz.func98 ?_;intro a G;simp only[Tryz.f98,Option.getD];simp only[ZZ,simprocAttr,Ab,eqGlue.fv];obtain⟨⟨x,y⟩,⟨z,w⟩⟩:=a;simp only[Ad.mk.injEq]
 grind
def uD{A:Type}[DecidableEq A]{a b:List A}(hl:a.length=b.length){k:Nat}(Z:k<=a.length)(h:a.take k=b.take k){x y:A}(Q:a[k]? =some x)(O:b[k]? =some y):
 (x=y->a.take (k+1)=b.take (k+1))/\(x≠y->a≠b):=by
 refine⟨λz=> ?_,λz G=> ?_⟩
 .rw[IA,IA,h,Q,O,z]
 .subst G;rw[Q] at O;exact z (AB O)
def eqInt64S.fv(a:(List Int)×(List Int)):Bool:=(λa b=>decide (a=b)) (a.1) (a.2)
def eqInt64S.row:AE:=vK (b2 (qS GH EX) (qS GH EX)) rB (λa=>True) eqInt64S.fv
def eqInt64S.q:=Bg (R:=eqInt64S.row) rfl
def eqInt64S.ok:AI 129 eqInt64S.row:=by
 refine vw tN Tryz.func129 ?_;intro a Z;simp only[Tryz.f129,Option.getD];simp only[ZZ,simprocAttr,Ab,eqInt64S.fv];intro h1 h2;simp only[AO];refine⟨λG=> ?_,λG=> ?_⟩
 .have:a.1≠a.2:=λh=>G (by rw[h])
  simp[this]
 have G:a.1.length=a.2.length:=by omega
 refine AY.old ⟨{k:Nat//k<=a.1.length/\a.1.take k=a.2.take k},λk=>⟨[(5,.im (.int .i64 k.1)),(4,.im (.bool false)),(0,.im (.sl false 1 (a.1.map Ak))),(1,.im (.sl false 1 (a.2.map Ak)))],[],0⟩,λk=>a.1.length - k.1,λk=>⟨by simp[ZG],AP _⟩,⟨⟨0,by simp⟩,by simp only[ZZ,simprocAttr,Ab,eqInt64S.fv,sub]⟩,λk=> ?_⟩;obtain⟨k,Q,z⟩:=k;simp only[ZZ,simprocAttr,Ab,eqInt64S.fv,sub,AO];intro _;refine⟨λO=>⟨O,λx hx=>⟨by omega,λy hy=> ?_⟩⟩,λO=> ?_⟩
 .obtain⟨g1,g2⟩:=uD G Q z hx hy;exact⟨λh=>by simp[g2 h],λh=>Js O h1 ⟨by omega,g1 (by simpa using h)⟩⟩
 .rw[F9 (by omega),F9 (by omega)] at z;simp[z]
def Cs(n:Int)(left:Int):Int:=if left - n<0 then -1 else left - n
def szInt64S.fv(a:(List Int)×Int):Int:=(λa l=>Cs a.length l) (a.1) (a.2)
def szInt64S.row:AE:=vK (b2 (qS GH EX) qI) rI (λa=> -1<=a.2/\a.2<=1048576) szInt64S.fv
def szInt64S.q:=Bg (R:=szInt64S.row) rfl
def szInt64S.ok:AI 104 szInt64S.row:=by
 refine vw tN Tryz.func104 ?_;intro a z;simp only[Tryz.f104,Option.getD];simp only[ZZ,simprocAttr,Ab,szInt64S.fv];intro h;rw[AA (by omega) (by omega)];simp only[Cs];grind
def szPlacedS.fv(a:(List Al)×Int):Int:=(λa l=>Cs a.length l) (a.1) (a.2)
def szPlacedS.row:AE:=vK (b2 (qS Al.d_le Al.c_n) qI) rI (λa=> -1<=a.2/\a.2<=1048576) szPlacedS.fv
def szPlacedS.q:=Bg (R:=szPlacedS.row) rfl
def szPlacedS.ok:AI 35 szPlacedS.row:=by
 refine vw tN Tryz.func35 ?_;intro a z;simp only[Tryz.f35,Option.getD];simp only[ZZ,simprocAttr,Ab,szPlacedS.fv];intro h;rw[AA (by omega) (by omega)];simp only[Cs];grind
def Jn(a:A9)(l:Int):Int:=Cs a.Tiles.length l
def szAssembly.fv(a:A9×Int):Int:=(Jn) (a.1) (a.2)
def szAssembly.row:AE:=vK (b2 (qR A9.d_le) qI) rI (λa=> -1<=a.2/\a.2<=1048576) szAssembly.fv
def szAssembly.q:=Bg (R:=szAssembly.row) rfl
def szAssembly.ok:AI 12 szAssembly.row:=by
 refine vw (tC szPlacedS.ok tN) Tryz.func12 ?_;intro a z;simp only[Tryz.f12,Option.getD];simp only[ZZ,simprocAttr,Ab,szAssembly.fv,szPlacedS.q,szPlacedS.fv];refine⟨z,?_⟩;simp only[Jn,Cs];grind
def eqGlueS.fv(a:(List Ad)×(List Ad)):Bool:=(λa b=>decide (a=b)) (a.1) (a.2)
def eqGlueS.row:AE:=vK (b2 (qS Ad.d_le Ad.c_n) (qS Ad.d_le Ad.c_n)) rB (λa=>True) eqGlueS.fv
def eqGlueS.q:=Bg (R:=eqGlueS.row) rfl
def Yab:=J @eqGlueS.fv.eq_1 (J @eqGlue.q @eqGlue.fv.eq_1)
def eqGlueS.ok:AI 61 eqGlueS.row:=by
 refine vw (tC eqGlue.ok tN) Tryz.func61 ?_;intro a Z;simp only[Tryz.f61,Option.getD];simp only[ZZ,simprocAttr,Ab,Yab];intro h1 h2;simp only[AO];refine⟨λG=> ?_,λG=> ?_⟩
 .have:a.1≠a.2:=λh=>G (by rw[h])
  simp[this]
 have G:a.1.length=a.2.length:=by omega
 refine AY.old ⟨{k:Nat//k<=a.1.length/\a.1.take k=a.2.take k},λk=>⟨[(5,.im (.int .i64 k.1)),(4,.im (.bool false)),(0,.im (.sl false 2 (a.1.map Ad.c))),(1,.im (.sl false 2 (a.2.map Ad.c)))],[],0⟩,λk=>a.1.length - k.1,λk=>⟨by simp[ZG],AP _⟩,⟨⟨0,by simp⟩,by simp only[ZZ,simprocAttr,Ab,Yab,sub]⟩,λk=> ?_⟩;obtain⟨k,Q,z⟩:=k;simp only[ZZ,simprocAttr,Ab,Yab,sub,AO];intro _;refine⟨λO=>⟨O,λx hx=>⟨by omega,λy hy=> ?_⟩⟩,λO=> ?_⟩
 .obtain⟨g1,g2⟩:=uD G Q z hx hy;exact⟨λh=>by simp[g2 (show x≠y from h)],λh=>Js O h1 ⟨by omega,g1 (show x=y from Gg.1 h)⟩⟩
 .rw[F9 (by omega),F9 (by omega)] at z;simp[z]
def W0(a b:Tile):decide (a=b)=(decide (a.Name=b.Name) && decide (a.Sides=b.Sides)):=by
 obtain⟨x,y⟩:=a;obtain⟨z,w⟩:=b;simp[Tile.mk.injEq]
def eqTile.fv(a:Tile×Tile):Bool:=(λa b=>decide (a=b)) (a.1) (a.2)
def eqTile.row:AE:=vK (b2 (qR Tile.d_le) (qR Tile.d_le)) rB (λa=>True) eqTile.fv
def eqTile.q:=Bg (R:=eqTile.row) rfl
def eqTile.ok:AI 99 eqTile.row:=by
 refine vw (tC eqInt64S.ok tN) Tryz.func99 ?_;intro a z;simp only[Tryz.f99,Option.getD];simp only[ZZ,simprocAttr,Ab,eqTile.fv,eqInt64S.q,eqInt64S.fv];rw[W0]
 grind
def eqTileS.fv(a:(List Tile)×(List Tile)):Bool:=(λa b=>decide (a=b)) (a.1) (a.2)
def eqTileS.row:AE:=vK (b2 (qS Tile.d_le Tile.c_n) (qS Tile.d_le Tile.c_n)) rB (λa=>True) eqTileS.fv
def eqTileS.q:=Bg (R:=eqTileS.row) rfl
def Yac:=J @eqTileS.fv.eq_1 (J @eqTile.q @eqTile.fv.eq_1)
def eqTileS.ok:AI 62 eqTileS.row:=by
 refine vw (tC eqTile.ok tN) Tryz.func62 ?_;intro a Z;simp only[Tryz.f62,Option.getD];simp only[ZZ,simprocAttr,Ab,Yac];intro h1 h2;simp only[AO];refine⟨λG=> ?_,λG=> ?_⟩
 .have:a.1≠a.2:=λh=>G (by rw[h])
  simp[this]
 have G:a.1.length=a.2.length:=by omega
 refine AY.old ⟨{k:Nat//k<=a.1.length/\a.1.take k=a.2.take k},λk=>⟨[(5,.im (.int .i64 k.1)),(4,.im (.bool false)),(0,.im (.sl false 2 (a.1.map Tile.c))),(1,.im (.sl false 2 (a.2.map Tile.c)))],[],0⟩,λk=>a.1.length - k.1,λk=>⟨by simp[ZG],AP _⟩,⟨⟨0,by simp⟩,by simp only[ZZ,simprocAttr,Ab,Yac,sub]⟩,λk=> ?_⟩;obtain⟨k,Q,z⟩:=k;simp only[ZZ,simprocAttr,Ab,Yac,sub,AO];intro _;refine⟨λO=>⟨O,λx hx=>⟨by omega,λy hy=> ?_⟩⟩,λO=> ?_⟩
 .obtain⟨g1,g2⟩:=uD G Q z hx hy;exact⟨λh=>by simp[g2 (show x≠y from h)],λh=>Js O h1 ⟨by omega,g1 (show x=y from Gg.1 h)⟩⟩
 .rw[F9 (by omega),F9 (by omega)] at z;simp[z]
def eqPlacedS.fv(a:(List Al)×(List Al)):Bool:=(λa b=>decide (a=b)) (a.1) (a.2)
def eqPlacedS.row:AE:=vK (b2 (qS Al.d_le Al.c_n) (qS Al.d_le Al.c_n)) rB (λa=>True) eqPlacedS.fv
def eqPlacedS.q:=Bg (R:=eqPlacedS.row) rfl
def Yad:=J @eqPlacedS.fv.eq_1 (J @eqPlaced.q @eqPlaced.fv.eq_1)
def eqPlacedS.ok:AI 63 eqPlacedS.row:=by
 refine vw (tC eqPlaced.ok tN) Tryz.func63 ?_;intro a Z;simp only[Tryz.f63,Option.getD];simp only[ZZ,simprocAttr,Ab,Yad];intro h1 h2;simp only[AO];refine⟨λG=> ?_,λG=> ?_⟩
 .have:a.1≠a.2:=λh=>G (by rw[h])
  simp[this]
 have G:a.1.length=a.2.length:=by omega
 refine AY.old ⟨{k:Nat//k<=a.1.length/\a.1.take k=a.2.take k},λk=>⟨[(5,.im (.int .i64 k.1)),(4,.im (.bool false)),(0,.im (.sl false 3 (a.1.map Al.c))),(1,.im (.sl false 3 (a.2.map Al.c)))],[],0⟩,λk=>a.1.length - k.1,λk=>⟨by simp[ZG],AP _⟩,⟨⟨0,by simp⟩,by simp only[ZZ,simprocAttr,Ab,Yad,sub]⟩,λk=> ?_⟩;obtain⟨k,Q,z⟩:=k;simp only[ZZ,simprocAttr,Ab,Yad,sub,AO];intro _;refine⟨λO=>⟨O,λx hx=>⟨by omega,λy hy=> ?_⟩⟩,λO=> ?_⟩
 .obtain⟨g1,g2⟩:=uD G Q z hx hy;exact⟨λh=>by simp[g2 (show x≠y from h)],λh=>Js O h1 ⟨by omega,g1 (show x=y from Gg.1 h)⟩⟩
 .rw[F9 (by omega),F9 (by omega)] at z;simp[z]
def eqTileSet.fv(a:Au×Au):Bool:=(λa b=>decide (a=b)) (a.1) (a.2)
def eqTileSet.row:AE:=vK (b2 (qR Au.d_le) (qR Au.d_le)) rB (λa=>True) eqTileSet.fv
def eqTileSet.q:=Bg (R:=eqTileSet.row) rfl
def eqTileSet.ok:AI 27 eqTileSet.row:=by
 refine vw (tC eqGlueS.ok (tC eqTileS.ok tN)) Tryz.func27 ?_;intro a G;simp only[Tryz.f27,Option.getD];simp only[ZZ,simprocAttr,Ab,eqTileSet.fv,eqGlueS.q,eqGlueS.fv,eqTileS.q,eqTileS.fv];obtain⟨⟨x,y⟩,⟨z,w⟩⟩:=a;simp only[Au.mk.injEq]
 grind
def eqAssembly.fv(a:A9×A9):Bool:=(λa b=>decide (a=b)) (a.1) (a.2)
def eqAssembly.row:AE:=vK (b2 (qR A9.d_le) (qR A9.d_le)) rB (λa=>True) eqAssembly.fv
def eqAssembly.q:=Bg (R:=eqAssembly.row) rfl
def eqAssembly.ok:AI 28 eqAssembly.row:=by
 refine vw (tC eqPlacedS.ok tN) Tryz.func28 ?_;intro a G;simp only[Tryz.f28,Option.getD];simp only[ZZ,simprocAttr,Ab,eqAssembly.fv,eqPlacedS.q,eqPlacedS.fv];obtain⟨⟨x⟩,⟨z⟩⟩:=a;simp only[A9.mk.injEq]
 grind
def toTile.fv(a:Tile):Tile:=(λp=>p) a
def toTile.row:AE:=vK (b1 (qR Tile.d_le)) (rA Tile.d_le) (λa=>a.Sides.length<=1073741824) toTile.fv
def toTile.q:=Bg (R:=toTile.row) rfl
def toTile.ok:AI 83 toTile.row:=by
 refine vw (tC toInt64S.ok tN) Tryz.func83 ?_;intro a z;simp only[Tryz.f83,Option.getD];simp only[ZZ,simprocAttr,Ab,toTile.fv,toInt64S.q,toInt64S.fv];exact z
def toGlueS.fv(a:(List Ad)):List Ad:=(λp=>p) a
def toGlueS.row:AE:=vK (b1 (qS Ad.d_le Ad.c_n)) (rS Ad.d_le Ad.c_n) (λa=>a.length<=1073741824) toGlueS.fv
def toGlueS.q:=Bg (R:=toGlueS.row) rfl
def yM:=J @toGlueS.fv.eq_1 (J @toGlue.q @toGlue.fv.eq_1)
def toGlueS.ok:AI 46 toGlueS.row:=by
 refine vw (tC toGlue.ok tN) Tryz.func46 ?_;intro a z;simp only[Tryz.f46,Option.getD];simp only[ZZ,simprocAttr,Ab,yM];intro Q;have aa:a.length<=1073741824:=z;refine⟨by omega,?_⟩;refine AY.old ⟨{k:Nat//k<=a.length},λk=>⟨[(4,.im (.int .i64 k.1)),(3,.own 1),(0,.im (.sl false 2 (a.map Ad.c)))],[(1,(true,.arr 108 2 ((a.take k.1).map Ad.c++List.replicate (a.length - k.1) [.str ByteArray.empty,.int .i64 0])))],2⟩,λk=>a.length - k.1,λk=>⟨by simp[ZG],AP _⟩,⟨⟨0,by omega⟩,by simp only[ZZ,simprocAttr,Ab,yM,sub];simp⟩,λk=> ?_⟩;obtain⟨k,O⟩:=k;simp only[ZZ,simprocAttr,Ab,yM,sub,AO,cO _ _ a k O];intro _;refine⟨λG=> ?_,λG=> ?_⟩
 .refine⟨G,λx Z=>⟨G,G,La (cL Ad.c _ a k x Z) ?_⟩⟩;simp only[ZZ,simprocAttr,Ab,yM,sub];refine⟨⟨k+1,by omega⟩,by simp only;omega,?_,?_⟩
  .rw[AA (by omega) (by omega)];simp only;omega
  .exact cQ Ad.c _ a k x Z
 .rw[cP Ad.c _ a k (by omega)];simp[Ad.d_R]
def toPlacedS.fv(a:(List Al)):List Al:=(λp=>p) a
def toPlacedS.row:AE:=vK (b1 (qS Al.d_le Al.c_n)) (rS Al.d_le Al.c_n) (λa=>a.length<=1073741824) toPlacedS.fv
def toPlacedS.q:=Bg (R:=toPlacedS.row) rfl
def yN:=J @toPlacedS.fv.eq_1 (J @toPlaced.q @toPlaced.fv.eq_1)
def toPlacedS.ok:AI 48 toPlacedS.row:=by
 refine vw (tC toPlaced.ok tN) Tryz.func48 ?_;intro a z;simp only[Tryz.f48,Option.getD];simp only[ZZ,simprocAttr,Ab,yN];intro Q;have aa:a.length<=1073741824:=z;refine⟨by omega,?_⟩;refine AY.old ⟨{k:Nat//k<=a.length},λk=>⟨[(4,.im (.int .i64 k.1)),(3,.own 1),(0,.im (.sl false 3 (a.map Al.c)))],[(1,(true,.arr 89 3 ((a.take k.1).map Al.c++List.replicate (a.length - k.1) [.int .i64 0,.int .i64 0,.int .i64 0])))],2⟩,λk=>a.length - k.1,λk=>⟨by simp[ZG],AP _⟩,⟨⟨0,by omega⟩,by simp only[ZZ,simprocAttr,Ab,yN,sub];simp⟩,λk=> ?_⟩;obtain⟨k,O⟩:=k;simp only[ZZ,simprocAttr,Ab,yN,sub,AO,cO _ _ a k O];intro _;refine⟨λG=> ?_,λG=> ?_⟩
 .refine⟨G,λx Z=>⟨G,G,La (cL Al.c _ a k x Z) ?_⟩⟩;simp only[ZZ,simprocAttr,Ab,yN,sub];refine⟨⟨k+1,by omega⟩,by simp only;omega,?_,?_⟩
  .rw[AA (by omega) (by omega)];simp only;omega
  .exact cQ Al.c _ a k x Z
 .rw[cP Al.c _ a k (by omega)];simp[Al.d_R]
def toTileS.fv(a:(List Tile)):List Tile:=(λp=>p) a
def toTileS.row:AE:=vK (b1 (qS Tile.d_le Tile.c_n)) (rS Tile.d_le Tile.c_n) (λa=>a.length<=1073741824/\ ∀x∈a,x.Sides.length<=1073741824) toTileS.fv
def toTileS.q:=Bg (R:=toTileS.row) rfl
def yO:=J @toTileS.fv.eq_1 (J @toTile.q @toTile.fv.eq_1)
def toTileS.ok:AI 47 toTileS.row:=by
 refine vw (tC toTile.ok tN) Tryz.func47 ?_;intro a z;simp only[Tryz.f47,Option.getD];simp only[ZZ,simprocAttr,Ab,yO];intro Z;have aa:a.length<=1073741824:=z.1;refine⟨by omega,?_⟩;refine AY.old ⟨{k:Nat//k<=a.length},λk=>⟨[(4,.im (.int .i64 k.1)),(3,.own 1),(0,.im (.sl false 2 (a.map Tile.c)))],[(1,(true,.arr 98 2 ((a.take k.1).map Tile.c++List.replicate (a.length - k.1) [.str ByteArray.empty,.sl true 0 []])))],2⟩,λk=>a.length - k.1,λk=>⟨by simp[ZG],AP _⟩,⟨⟨0,by omega⟩,by simp only[ZZ,simprocAttr,Ab,yO,sub];simp⟩,λk=> ?_⟩;obtain⟨k,O⟩:=k;simp only[ZZ,simprocAttr,Ab,yO,sub,AO,cO _ _ a k O];intro _;refine⟨λG=> ?_,λG=> ?_⟩
 .refine⟨G,λx Q=>⟨z.2 x (Bf Q),G,G,La (cL Tile.c _ a k x Q) ?_⟩⟩;simp only[ZZ,simprocAttr,Ab,yO,sub];refine⟨⟨k+1,by omega⟩,by simp only;omega,?_,?_⟩
  .rw[AA (by omega) (by omega)];simp only;omega
  .exact cQ Tile.c _ a k x Q
 .rw[cP Tile.c _ a k (by omega)];simp[Tile.d_R]
def Ue(s:Au):Prop:=s.Glues.length<=1073741824/\s.Tiles.length<=1073741824/\ ∀x∈s.Tiles,x.Sides.length<=1073741824
def toTileSet.fv(a:Au):Au:=(λp=>p) a
def toTileSet.row:AE:=vK (b1 (qR Au.d_le)) (rA Au.d_le) (λa=>Ue a) toTileSet.fv
def toTileSet.q:=Bg (R:=toTileSet.row) rfl
def toTileSet.ok:AI 17 toTileSet.row:=by
 refine vw (tC toGlueS.ok (tC toTileS.ok tN)) Tryz.func17 ?_;intro a z;simp only[Tryz.f17,Option.getD];simp only[ZZ,simprocAttr,Ab,toTileSet.fv,toGlueS.q,toGlueS.fv,toTileS.q,toTileS.fv];exact z
def toAssembly.fv(a:A9):A9:=(λp=>p) a
def toAssembly.row:AE:=vK (b1 (qR A9.d_le)) (rA A9.d_le) (λa=>a.Tiles.length<=1073741824) toAssembly.fv
def toAssembly.q:=Bg (R:=toAssembly.row) rfl
def toAssembly.ok:AI 18 toAssembly.row:=by
 refine vw (tC toPlacedS.ok tN) Tryz.func18 ?_;intro a z;simp only[Tryz.f18,Option.getD];simp only[ZZ,simprocAttr,Ab,toAssembly.fv,toPlacedS.q,toPlacedS.fv];exact z
def ZD(s:AF):Prop:=Ue s.Set/\s.Seed.Tiles.length<=1073741824
def toSystem.fv(a:AF):AF:=(λp=>p) a
def toSystem.row:AE:=vK (b1 (qR AF.d_le)) (rA AF.d_le) (λa=>ZD a) toSystem.fv
def toSystem.ok:AI 6 toSystem.row:=by
 refine vw (tC toTileSet.ok (tC toAssembly.ok tN)) Tryz.func6 ?_;intro a z;simp only[Tryz.f6,Option.getD];simp only[ZZ,simprocAttr,Ab,toSystem.fv,toTileSet.q,toTileSet.fv,toAssembly.q,toAssembly.fv];exact z
def P5(g:Ad)(l:Int):Int:=Cs g.Name.size l
def szGlue.fv(a:Ad×Int):Int:=(P5) (a.1) (a.2)
def szGlue.row:AE:=vK (b2 (qR Ad.d_le) qI) rI (λa=> -1<=a.2/\a.2<=1048576/\a.1.Name.size<=140737488355328) szGlue.fv
def szGlue.q:=Bg (R:=szGlue.row) rfl
def szGlue.ok:AI 70 szGlue.row:=by
 refine vw tN Tryz.func70 ?_;intro a z;simp only[Tryz.f70,Option.getD];simp only[ZZ,simprocAttr,Ab,szGlue.fv];rw[AA (by omega) (by omega)];simp only[P5,Cs]
 grind
def Fv(g:Tile)(l:Int):Int:=if Cs g.Name.size l<0 then -1 else Cs g.Sides.length (Cs g.Name.size l)
def szTile.fv(a:Tile×Int):Int:=(Fv) (a.1) (a.2)
def szTile.row:AE:=vK (b2 (qR Tile.d_le) qI) rI (λa=> -1<=a.2/\a.2<=1048576/\a.1.Name.size<=140737488355328) szTile.fv
def szTile.q:=Bg (R:=szTile.row) rfl
def szTile.ok:AI 71 szTile.row:=by
 refine vw (tC szInt64S.ok tN) Tryz.func71 ?_;intro a z;simp only[Tryz.f71,Option.getD];simp only[ZZ,simprocAttr,Ab,szTile.fv,szInt64S.q,szInt64S.fv];rw[AA (by omega) (by omega)];simp only[Fv,Cs]
 grind
def Gd{A:Type}(f:A->Int->Int):List A->Int->Int
 |[],l=>l
 |x::r,l=>if f x l<0 then -1 else Gd f r (f x l)
def He(a:List Ad)(l:Int):Int:=if Cs a.length l<0 then -1 else Gd P5 a (Cs a.length l)
def szGlueS.fv(a:(List Ad)×Int):Int:=(He) (a.1) (a.2)
def szGlueS.row:AE:=vK (b2 (qS Ad.d_le Ad.c_n) qI) rI (λa=> -1<=a.2/\a.2<=1048576/\ ∀x∈a.1,x.Name.size<=140737488355328) szGlueS.fv
def szGlueS.q:=Bg (R:=szGlueS.row) rfl
def Yah:=J @szGlueS.fv.eq_1 (J @szGlue.q @szGlue.fv.eq_1)
def szGlueS.ok:AI 33 szGlueS.row:=by
 refine vw (tC szGlue.ok tN) Tryz.func33 ?_;intro a G;simp only[Tryz.f33,Option.getD];simp only[ZZ,simprocAttr,Ab,Yah];intro hn;rw[AA (by omega) (by omega)];obtain⟨ag,ah,ad⟩:=G;simp only[AO];refine⟨λhl=> ?_,λhl=> ?_⟩
 .simp only[He,Cs];grind
 have h0:Cs a.1.length a.2=a.2 - a.1.length:=by simp only[Cs];rw[Af hl]
 refine AY.old ⟨{p:Nat×Int//p.1<=a.1.length/\0<=p.2/\p.2<=1048576/\Gd P5 (a.1.drop p.1) p.2=Gd P5 a.1 (a.2 - a.1.length)},λp=>⟨[(5,.im (.int .i64 p.1.1)),(1,.im (.int .i64 p.1.2)),(4,.im (.int .i64 0)),(0,.im (.sl false 2 (a.1.map Ad.c)))],[],0⟩,λp=>a.1.length - p.1.1,λp=>⟨by simp[ZG],AP _⟩,⟨⟨(0,a.2 - a.1.length),by simp,by simp only;omega,by simp only;omega,by simp⟩,by simp only[ZZ,simprocAttr,Ab,Yah,sub]⟩,λp=> ?_⟩;obtain⟨⟨k,l⟩,aa,ab,ac,z⟩:=p;simp only at aa ab ac z;simp only[ZZ,simprocAttr,Ab,Yah,sub,AO];intro _;refine⟨λQ=>⟨Q,λx hx=>⟨⟨by omega,by omega,ad x (Bf hx)⟩,?_⟩⟩,λQ=> ?_⟩
 .have hd:a.1.drop k=x::a.1.drop (k+1):=by
   rw[Vh Q];rw[B2 Q] at hx;rw[AB hx]
  rw[hd,Gd] at z;have af:P5 x l<=l:=by simp only[P5,Cs];grind
  have Z: ¬P5 ⟨x.Name,x.Strength⟩ l<0-> ¬P5 x l<0:=λh=>h
  refine⟨λO=> ?_,λO=>⟨⟨(k+1,P5 x l),by simp only;omega,by simp only;have:=Z O;omega,by simp only;omega,?_⟩,by simp only;omega,?_,?_⟩⟩
  .rw[Ai O] at z;simp only[He,h0]
   grind
  .rw[Af O] at z;exact z
  .rw[AA (by omega) (by omega)];simp only;omega
  .rfl
 .rw[DB (by omega),Gd] at z;simp only[He,h0]
  grind
def KX(a:List Tile)(l:Int):Int:=if Cs a.length l<0 then -1 else Gd Fv a (Cs a.length l)
def szTileS.fv(a:(List Tile)×Int):Int:=(KX) (a.1) (a.2)
def szTileS.row:AE:=vK (b2 (qS Tile.d_le Tile.c_n) qI) rI (λa=> -1<=a.2/\a.2<=1048576/\ ∀x∈a.1,x.Name.size<=140737488355328) szTileS.fv
def szTileS.q:=Bg (R:=szTileS.row) rfl
def Yai:=J @szTileS.fv.eq_1 (J @szTile.q @szTile.fv.eq_1)
def szTileS.ok:AI 34 szTileS.row:=by
 refine vw (tC szTile.ok tN) Tryz.func34 ?_;intro a G;simp only[Tryz.f34,Option.getD];simp only[ZZ,simprocAttr,Ab,Yai];intro hn;rw[AA (by omega) (by omega)];obtain⟨ag,ah,ad⟩:=G;simp only[AO];refine⟨λhl=> ?_,λhl=> ?_⟩
 .simp only[KX,Cs];grind
 have h0:Cs a.1.length a.2=a.2 - a.1.length:=by simp only[Cs];rw[Af hl]
 refine AY.old ⟨{p:Nat×Int//p.1<=a.1.length/\0<=p.2/\p.2<=1048576/\Gd Fv (a.1.drop p.1) p.2=Gd Fv a.1 (a.2 - a.1.length)},λp=>⟨[(5,.im (.int .i64 p.1.1)),(1,.im (.int .i64 p.1.2)),(4,.im (.int .i64 0)),(0,.im (.sl false 2 (a.1.map Tile.c)))],[],0⟩,λp=>a.1.length - p.1.1,λp=>⟨by simp[ZG],AP _⟩,⟨⟨(0,a.2 - a.1.length),by simp,by simp only;omega,by simp only;omega,by simp⟩,by simp only[ZZ,simprocAttr,Ab,Yai,sub]⟩,λp=> ?_⟩;obtain⟨⟨k,l⟩,aa,ab,ac,z⟩:=p;simp only at aa ab ac z;simp only[ZZ,simprocAttr,Ab,Yai,sub,AO];intro _;refine⟨λQ=>⟨Q,λx hx=>⟨⟨by omega,by omega,ad x (Bf hx)⟩,?_⟩⟩,λQ=> ?_⟩
 .have hd:a.1.drop k=x::a.1.drop (k+1):=by
   rw[Vh Q];rw[B2 Q] at hx;rw[AB hx]
  rw[hd,Gd] at z;have af:Fv x l<=l:=by simp only[Fv,Cs];grind
  have Z: ¬Fv ⟨x.Name,x.Sides⟩ l<0-> ¬Fv x l<0:=λh=>h
  refine⟨λO=> ?_,λO=>⟨⟨(k+1,Fv x l),by simp only;omega,by simp only;have:=Z O;omega,by simp only;omega,?_⟩,by simp only;omega,?_,?_⟩⟩
  .rw[Ai O] at z;simp only[KX,h0]
   grind
  .rw[Af O] at z;exact z
  .rw[AA (by omega) (by omega)];simp only;omega
  .rfl
 .rw[DB (by omega),Gd] at z;simp only[KX,h0]
  grind
def O4(s:Au):Prop:=(∀x∈s.Glues,x.Name.size<=140737488355328)/\ ∀x∈s.Tiles,x.Name.size<=140737488355328
def Qre{A:Type}{f:A->Int->Int}(hf: ∀x l,0<=l->f x l<=l)(a:List A): ∀(l:Int),0<=l->Gd f a l<=l/\ -1<=Gd f a l:=by
 induction a with
 |nil=>intro l z;simp[Gd];omega
 |cons x r ih=>
  intro l z;simp only[Gd];split
  .omega
  .have:=hf x l z
   have:=ih (f x l) (by omega)
   omega
def wM(a:List Ad)(l:Int)(O: -1<=l): -1<=He a l/\He a l<=max l (-1):=by
 simp only[He];split
 .omega
 .rename_i h;have z:=Qre (f:=P5) (λx l h=>by simp only[P5,Cs];grind) a (Cs a.length l) (by omega);have G:Cs a.length l<=max l (-1):=by simp only[Cs];grind
  omega
def Qv0(a:List Tile)(l:Int)(O: -1<=l): -1<=KX a l/\KX a l<=max l (-1):=by
 simp only[KX];split
 .omega
 .rename_i h;have z:=Qre (f:=Fv) (λx l h=>by simp only[Fv,Cs];grind) a (Cs a.length l) (by omega);have G:Cs a.length l<=max l (-1):=by simp only[Cs];grind
  omega
def PC(s:Au)(l:Int):Int:=if He s.Glues l<0 then -1 else KX s.Tiles (He s.Glues l)
def xV(s:Au)(l:Int)(G: -1<=l): -1<=PC s l/\PC s l<=max l (-1):=by
 have z:=wM s.Glues l G;have O:=Qv0 s.Tiles (He s.Glues l) z.1;simp only[PC]
 split<;>omega
def szTileSet.fv(a:Au×Int):Int:=(PC) (a.1) (a.2)
def szTileSet.row:AE:=vK (b2 (qR Au.d_le) qI) rI (λa=> -1<=a.2/\a.2<=1048576/\O4 a.1) szTileSet.fv
def szTileSet.q:=Bg (R:=szTileSet.row) rfl
def szTileSet.ok:AI 11 szTileSet.row:=by
 refine vw (tC szGlueS.ok (tC szTileS.ok tN)) Tryz.func11 ?_;intro a z;simp only[Tryz.f11,Option.getD];simp only[ZZ,simprocAttr,Ab,szTileSet.fv,szGlueS.q,szGlueS.fv,szTileS.q,szTileS.fv];obtain⟨G,Q,Z,h4⟩:=z;have O:=wM a.1.Glues a.2 G;refine⟨⟨G,Q,Z⟩,?_⟩;simp only[PC];split
 .rfl
 .refine⟨⟨O.1,by omega,h4⟩,?_⟩;have hc:=Qv0 a.1.Tiles _ O.1
  split<;>omega
def ZF(n:Nat)(l:Int)(z: -1<=l): -1<=Cs n l/\Cs n l<=max l (-1):=by
 simp only[Cs];split<;>omega
def Wr(s:AF)(l:Int):Int:=if PC s.Set l<0 then -1 else Jn s.Seed (PC s.Set l)
def Yq(s:AF)(l:Int)(G: -1<=l): -1<=Wr s l/\Wr s l<=max l (-1):=by
 have z:=xV s.Set l G;have O:=ZF s.Seed.Tiles.length (PC s.Set l) z.1;simp only[Wr,Jn]
 split<;>omega
def szSystem.fv(a:AF×Int):Int:=(Wr) (a.1) (a.2)
def szSystem.row:AE:=vK (b2 (qR AF.d_le) qI) rI (λa=> -1<=a.2/\a.2<=1048576/\O4 a.1.Set) szSystem.fv
def szSystem.q:=Bg (R:=szSystem.row) rfl
def szSystem.ok:AI 4 szSystem.row:=by
 refine vw (tC szTileSet.ok (tC szAssembly.ok tN)) Tryz.func4 ?_;intro a z;simp only[Tryz.f4,Option.getD];simp only[ZZ,simprocAttr,Ab,szSystem.fv,szTileSet.q,szTileSet.fv,szAssembly.q,szAssembly.fv];obtain⟨G,Q,Z⟩:=z;have O:=xV a.1.Set a.2 G;refine⟨⟨G,Q,Z⟩,?_⟩;simp only[Wr];split
 .rfl
 .refine⟨⟨O.1,by omega⟩,?_⟩;have hc:=ZF a.1.Seed.Tiles.length _ O.1;simp only[Jn] at hc⊢
  grind
end Go.Ae
