/- Lemmas. Conditions: none. -/
import Derived.Test.YtldneeclgjaehabGreatDoorP12
import Derived.Shelf.SlSortCmp.WholeK
import Derived.Shelf.SlicesG.Cmp
import Derived.StillTailTactics
import Derived.Lib.Small
import Derived.Lib.Walk
import Derived.Shelf.SlSortCmp.NoneTotal
set_option linter.all false
set_option maxHeartbeats 8000000
set_option maxRecDepth 100000
namespace Go.Proofs
open Go.Shelf
end Go.Proofs
namespace Go.Proofs
open Go.Shelf Go.RowKit Go.Lib Go.Sort
end Go.Proofs
namespace Go.Ae
open Go.Proofs Go.Sort Go.Shelf
instance:Inhabited AA:=⟨⟨⟨0,0⟩,0⟩⟩
def jH(l:List AA):List AA:=l.foldr (λx r=>Ga x.At x.Tile r) []
def Qn1(x:AA): ∀(l:List AA),(Ga x.At x.Tile l).Perm (x::l)
 |[]=>ZeW _
 |y::r=>by
  simp only[Ga];split
  .exact ZeW _
  .exact ((Qn1 x r).cons y).trans (List.Perm.swap x y r)
def iW: ∀(l:List AA),(jH l).Perm l
 |[]=>ZeW _
 |x::r=>(Qn1 x (jH r)).trans ((iW r).cons x)
def Quq{a b c:AR}(z:Ds a b=true)(O:Ds c b=false):Ds c a=false:=by
 simp only[Ds] at*;grind
def Qx3(x:AA): ∀(l:List AA),l.Pairwise (λa b=>Ds b.At a.At=false)->(Ga x.At x.Tile l).Pairwise (λa b=>Ds b.At a.At=false)
 |[],_=>by simp[Ga]
 |y::r,h=>by
  rw[rH] at h;simp only[Ga];split
  .rename_i Q;rw[rH,rH];refine⟨λz O=> ?_,h⟩;have Z:Ds y.At x.At=false:=by simp only[Ds] at*;grind
   rcases B0.1 O with rfl|O
   .exact Z
   .have:=h.1 z O
    exact Quq Q this
  .rename_i Q;rw[rH];refine⟨λz O=> ?_,Qx3 x r h.2⟩;rcases (Qlc _ _ _ _).1 O with rfl|O
   .simpa using Q
   .exact h.1 z O
def Qnm: ∀(l:List AA),(jH l).Pairwise (λa b=>Ds b.At a.At=false)
 |[]=>List.Pairwise.nil
 |x::r=>Qx3 x _ (Qnm r)
def QC(l:List AA):(jH l).length=l.length:=(iW l).length_eq
def SC{l:List AA}(h:(l.map AA.At).Nodup){x y:AA}(hx:x∈l)(hy:y∈l)(Z:x.At=y.At):x=y:=by
 induction l with
 |nil=>cases hx
 |cons z r ih=>
  rw[Br,Xo] at h;rcases B0.1 hx with O|O<;>rcases B0.1 hy with Q|Q
  .rw[O,Q]
  .exact absurd (show z.At∈r.map AA.At by rw[<-O,Z];exact Zed Q) h.1
  .exact absurd (show z.At∈r.map AA.At by rw[<-Q,<-Z];exact Zed O) h.1
  .exact ih h.2 O Q
def Qlp{l l':List AA}(hd:(l.map AA.At).Nodup)(hp:l'.Perm l)(hs:l'.Pairwise (λa b=>Ds b.At a.At=false)):l'=jH l:=by
 refine List.Perm.eq_of_pairwise (le:=λa b=>Ds b.At a.At=false) (λa b ha hb Q Z=> ?_) hs (Qnm l) (hp.trans (iW l).symm);refine SC hd (hp.mem_iff.1 ha) ((iW l).mem_iff.1 hb) ?_;revert Q Z;obtain⟨⟨ax,ay⟩,z⟩:=a;obtain⟨⟨bx,O⟩,bt⟩:=b;simp only[Ds,AR.mk.injEq]
 grind
end Go.Ae
namespace Go.Ae
open Go.Proofs
def IT(q:AR×Int):AA:=⟨q.1,q.2⟩
def Vs(m:J8)(t:List (AR×Int))(x:AA):Option (List (AR×Int)):=
 if (m.Labels[x.Tile.toNat]?.getD 0)<0 then some t
 else if (KD t (jK x.At m.Scale).1).getD (m.Labels[x.Tile.toNat]?.getD 0)≠(m.Labels[x.Tile.toNat]?.getD 0) then none
 else some (Me t (jK x.At m.Scale).1 (m.Labels[x.Tile.toNat]?.getD 0))
def PB{l l':List AA}(hp:l.Perm l')(hd:(l'.map AA.At).Nodup)(p:AR):l.find? (λx=>decide (x.At=p))=l'.find? (λx=>decide (x.At=p)):=by
 cases h1:l.find? (λx=>decide (x.At=p)) with
 |none=>
  symm;rw[lD] at h1⊢;exact λx Q=>h1 x (hp.mem_iff.2 Q)
 |some x=>
  have Q:=hp.mem_iff.1 (zV h1);have z:=lE h1;cases h2:l'.find? (λx=>decide (x.At=p)) with
  |none=>
   rw[lD] at h2;exact absurd z (h2 x Q)
  |some y=>
   have Z:=zV h2;have O:=lE h2;rw[SC hd Q Z];rw[CK] at z O;rw[z,O]
def Np(p:AR): ∀(t:List (AR×Int)),(((t.map IT).find? (λx=>decide (x.At=p))).map AA.Tile)=KD t p
 |[]=>rfl
 |(k,w)::r=>by
  simp only[Br,Zec,IT,KD];by_cases h:k=p
  .subst h;simp
  .have z:decide (k=p)=false:=by simpa using h
   have O: ¬p=k:=λQ=>h Q.symm
   rw[z,Be O];exact Np p r
def LK(t:List (AR×Int)):(t.map IT).map AA.At=t.map Prod.fst:=by simp[IT]
def fH{t:List (AR×Int)}(hd:(t.map Prod.fst).Nodup)(p:AR):rU ⟨jH (t.map IT)⟩ p=(KD t p).getD (-1):=by
 have z:((t.map IT).map AA.At).Nodup:=by rw[LK];exact hd
 simp only[rU];rw[PB (iW _) z,Np]
def xP{t:List (AR×Int)}{p:AR}(v:Int)(h:KD t p=none):Me t p v=t++[(p,v)]:=by
 induction t with
 |nil=>rfl
 |cons q r ih=>
  obtain⟨k,w⟩:=q;simp only[KD] at h;split at h
  .cases h
  .rename_i hn;simp only[Me,Be hn,BZ];rw[ih h]
def QN{t:List (AR×Int)}{p:AR}{v:Int}(h:KD t p=some v):Me t p v=t:=by
 induction t with
 |nil=>cases h
 |cons q r ih=>
  obtain⟨k,w⟩:=q;simp only[KD] at h;simp only[Me];split at h
  .rename_i z;obtain rfl:=AJ h;rw[Bt z,z]
  .rename_i hn;rw[Be hn,ih h]
def Qyz{t:List (AR×Int)}{p:AR}(h:KD t p=none):p∉t.map Prod.fst:=by
 induction t with
 |nil=>simp
 |cons q r ih=>
  obtain⟨k,w⟩:=q;simp only[KD] at h;split at h
  .cases h
  .rename_i hn;simp only[Br,B0,Rh];exact⟨hn,ih h⟩
def ZI{t:List (AR×Int)}{p:AR}{v:Int}(h:KD t p=some v):(p,v)∈t:=by
 induction t with
 |nil=>cases h
 |cons q r ih=>
  obtain⟨k,w⟩:=q;simp only[KD] at h;split at h
  .rename_i z;obtain rfl:=AJ h;rw[z];exact CP ..
  .exact Ah _ (ih h)
structure RM(t:List (AR×Int))(o:AP)(k:Nat):Prop where
 nd:(t.map Prod.fst).Nodup
 pos: ∀q∈t,0<=q.2
 eq:o=⟨jH (t.map IT)⟩
 len:t.length<=k
def RM.step{m:J8}{t:List (AR×Int)}{o:AP}{k:Nat}(h:RM t o k)(x:AA):(∃t' o',Vs m t x=some t'/\Vv m o x=some o'/\RM t' o' (k+1))\/(Vs m t x=none/\Vv m o x=none):=by
 obtain⟨nd,pos,rfl,len⟩:=h;simp only[Vs,Vv];generalize m.Labels[x.Tile.toNat]?.getD 0=n;generalize (jK x.At m.Scale).1=p;by_cases c1:n<0
 .rw[Bt c1,Bt c1];exact .inl ⟨_,_,rfl,rfl,nd,pos,rfl,auOm⟩
 rw[Be c1,Be c1,fH nd];cases hq:KD t p with
 |none=>
  simp only[Option.getD_none];rw[Be auSi,Be auOm,Bt auOm];refine .inl ⟨_,_,rfl,rfl,?_,?_,?_,?_⟩
  .rw[xP n hq,Dj,Hj];refine⟨nd,auSi,?_⟩;intro a Z b O z;simp only[Br,Gl,Am] at O;exact Qyz hq (by rw[<-O,<-z];exact Z)
  .intro q hm;rw[xP n hq] at hm;rcases BO.1 hm with hm|hm
   .exact pos q hm
   .simp only[Am] at hm;subst hm;simp only;omega
  .rw[Qi8,xP n hq];congr 1;have aa:(((t++[(p,n)]).map IT).map AA.At).Nodup:=by
    rw[LK,Dj,Hj];refine⟨nd,auSi,?_⟩;intro a Z b O z;simp only[Br,Gl,Am] at O;exact Qyz hq (by rw[<-O,<-z];exact Z)
   refine Qlp aa ?_ (Qx3 ⟨p,n⟩ _ (Qnm _));refine (Qn1 ⟨p,n⟩ _).trans ?_;rw[Dj];refine ((iW _).cons _).trans ?_;exact (Zem _ _).symm
  .rw[xP n hq];simp;omega
 |some v=>
  simp only[BG];have hv:=pos _ (ZI hq);simp only at hv;by_cases Q:v=n
  .subst Q;rw[Be auSi,Be auSi,Be auOm,QN hq];exact .inl ⟨_,_,rfl,rfl,nd,pos,rfl,auOm⟩
  .rw[Bt Q,Bt ⟨hv,Q⟩];exact .inr ⟨rfl,rfl⟩
def RM.put{t:List (AR×Int)}{o:AP}{k:Nat}(h:RM t o k){p:AR}{v:Int}(hv:0<=v)(hn:KD t p=none):RM (Me t p v) (aL o p v) (k+1):=by
 obtain⟨nd,pos,rfl,len⟩:=h;have z:((t++[(p,v)]).map Prod.fst).Nodup:=by
  rw[Dj,Hj];refine⟨nd,auSi,?_⟩;intro a ha b Z O;simp only[Br,Gl,Am] at Z;exact Qyz hn (by rw[<-Z,<-O];exact ha)
 rw[xP v hn];refine⟨z,?_,?_,by simp;omega⟩
 .intro q hm;rcases BO.1 hm with hm|hm
  .exact pos q hm
  .simp only[Am] at hm;subst hm;exact hv
 .rw[Qi8];congr 1;have Q:(((t++[(p,v)]).map IT).map AA.At).Nodup:=by rw[LK];exact z
  refine Qlp Q ?_ (Qx3 ⟨p,v⟩ _ (Qnm _));refine (Qn1 ⟨p,v⟩ _).trans ?_;rw[Dj];refine ((iW _).cons _).trans ?_;exact (Zem _ _).symm
def RM.at{t:List (AR×Int)}{o:AP}{k:Nat}(h:RM t o k):oS t=rU o:=by
 funext p;rw[h.eq,fH h.nd];rfl
def RM.size{t:List (AR×Int)}{o:AP}{k:Nat}(h:RM t o k):o.Tiles.length=t.length:=by
 rw[h.eq];simp only[QC,Dy]
end Go.Ae
namespace Go.Ae
end Go.Ae
namespace Go.Ae
open Go.Proofs
end Go.Ae
namespace Go.Ae
mutual
def D.scd:D->Bool
 | .agg z=>Qs z
 | .tup z=>Qs z
 |d=>d.sc
def Qs:List D->Bool
 |[]=>true
 |x::r=>x.scd && Qs r
end
mutual
def Vk{ok ok':Nat->Prop}{hp hp':Nat->Option Obj}: ∀(d:D) (v:Value),d.scd=true->rd ok hp d v->rd ok' hp' d v
 | .agg z,v,h,hd=>by
   simp only[D.scd] at h;simp only[rd] at hd⊢;obtain⟨O,rfl,hd⟩:=hd;exact⟨O,rfl,iG z _ h hd⟩
 | .tup z,v,h,hd=>by
   simp only[D.scd] at h;simp only[rd] at hd⊢;obtain⟨O,rfl,hd⟩:=hd;exact⟨O,rfl,iG z _ h hd⟩
 | .int a b,v,h,hd=>El h hd
 | .bool a,v,h,hd=>El h hd
 | .str a,v,h,hd=>El h hd
 | .nilp,v,h,hd=>El h hd
 | .nilf,v,h,hd=>El h hd
 | .nili,v,h,hd=>El h hd
 | .nilc,v,h,hd=>El h hd
 | .nilm,v,h,hd=>El h hd
 | .sl Q k rows,v,h,hd=>El h hd
 | .ref _,v,h,hd=>El h hd
 | .mp _ _,v,h,hd=>El h hd
 | .fn _ _ _,v,h,hd=>El h hd
 | .ifc _ _,v,h,hd=>El h hd
 | .gp _,v,h,hd=>El h hd
 | .tok _,v,h,hd=>El h hd
def iG{ok ok':Nat->Prop}{hp hp':Nat->Option Obj}: ∀(ds:List D) (vs:LVa),Qs ds=true->rdl ok hp ds vs->rdl ok' hp' ds vs
 |[],vs,_,hd=>by simpa only[rdl] using hd
 |d::r,vs,h,hd=>by
  simp only[Qs,B1] at h;simp only[rdl] at hd⊢;obtain⟨v,q,rfl,z,O⟩:=hd;exact⟨v,q,rfl,Vk d v h.1 z,iG r q h.2 O⟩
end
mutual
def IW:AV->Bool
 | .im d=>d.sc||d.scd
 | .own _=>true
 | .agg z=>FA z
 | .tup z=>FA z
 | .any| .ptr _ _| .eptr _ _ _| .mp _| .ch _| .it _| .osl _ _ _| .clo _ _ _=>false
def FA:List AV->Bool
 |[]=>true
 |x::r=>IW x && FA r
end
def Jn:Ad->Bool
 | .arr _ _ rows=>rows.all λr=>r.all D.sc
 | .arrA _ _ rows=>rows.all FA
 | .cells _ z=>FA z
 | .map _ _| .chan _ _| .iter _ _| .view _=>false
def Fx{m:Nat}: ∀{rows:List (List AV)},m∈BI rows↔ ∃r∈rows,m∈Av r
 |[]=>by simp[BI]
 |r::z=>by simp[BI,Fx (rows:=z)]
section
variable {S1 S':AD}{F:Nat->Prop}
mutual
def gJ(Z: ∀n,F n->S'.h n=S1.h n)(hr: ∀n,F n->S'.ρ n=S1.ρ n): ∀(x:AV) (v:Value),IW x=true->(∀m∈x.nms,F m)->Ab S1 x v->Ab S' x v
 | .im d,v,z,_,O=>by
   simp only[Ab] at O⊢;exact (Bool.or_eq_true_iff.1 (by simpa only[IW] using z)).elim (λh=>El h O) λh=>Vk _ _ h O
 | .own o,v,_,hm,O=>by
   simp only[Ab] at O⊢;have h0:F o:=hm o (by simp[AV.nms]);rw[Z o h0,hr o h0];exact O
 | .agg Q,v,z,hm,O=>by
   simp only[Ab] at O⊢;obtain⟨vs,rfl,h⟩:=O;exact⟨vs,rfl,X8 Z hr Q _ (by simpa[IW] using z) (by simpa[AV.nms] using hm) h⟩
 | .tup Q,v,z,hm,O=>by
   simp only[Ab] at O⊢;obtain⟨vs,rfl,h⟩:=O;exact⟨vs,rfl,X8 Z hr Q _ (by simpa[IW] using z) (by simpa[AV.nms] using hm) h⟩
 | .any,_,z,_,_| .ptr _ _,_,z,_,_| .eptr _ _ _,_,z,_,_| .mp _,_,z,_,_| .ch _,_,z,_,_| .it _,_,z,_,_| .osl _ _ _,_,z,_,_| .clo _ _ _,_,z,_,_=>by simp[IW] at z
def X8(Q: ∀n,F n->S'.h n=S1.h n)(Z: ∀n,F n->S'.ρ n=S1.ρ n): ∀(xs:List AV) (vs:LVa),FA xs=true->(∀m∈Av xs,F m)->AX S1 xs vs->AX S' xs vs
 |[],vs,_,_,z=>by simpa only[AX] using z
 |x::r,vs,O,hm,z=>by
  simp only[AX] at z⊢;obtain⟨v,q,rfl,h1,h2⟩:=z;simp only[FA,B1] at O;exact⟨v,q,rfl,gJ Q Z x v O.1 (λm h=>hm m (by simp[Av,h])) h1,X8 Q Z r q O.2 (λm h=>hm m (by simp[Av,h])) h2⟩
end
def uC(Q: ∀n,F n->S'.h n=S1.h n)(Z: ∀n,F n->S'.ρ n=S1.ρ n): ∀(xs:List AV) (vs:LVa),FA xs=true->(∀m∈Av xs,F m)->CO S1 xs vs->CO S' xs vs
 |[],vs,_,_,_=>trivial
 |x::r,vs,z,hm,O=>by
  simp only[CO] at O⊢;obtain⟨v,q,rfl,h1,h2⟩:=O;simp only[FA,B1] at z;exact⟨v,q,rfl,gJ Q Z x v z.1 (λm h=>hm m (by simp[Av,h])) h1,uC Q Z r q z.2 (λm h=>hm m (by simp[Av,h])) h2⟩
def uB{k:Nat}(Z: ∀n,F n->S'.h n=S1.h n)(hr: ∀n,F n->S'.ρ n=S1.ρ n): ∀(z:List (List AV)) (vs:LVa),z.all FA=true->(∀r∈z,∀m∈Av r,F m)->BQ S1 k z vs->BQ S' k z vs
 |[],vs,_,_,_=>trivial
 |r::z,vs,Q,hm,O=>by
  simp only[BQ] at O⊢;simp only[E6,B1] at Q;exact⟨O.1,uC Z hr r _ Q.1 (hm r (CP ..)) O.2.1,uB Z hr z _ Q.2 (λq hq=>hm q (Ah _ hq)) O.2.2⟩
def NM{ok ok':Nat->Prop}{hp hp':Nat->Option Obj}{k:Nat}: ∀(z:List (List D)) (vs:LVa),(z.all λr=>r.all D.sc)=true->rdr ok hp k z vs->rdr ok' hp' k z vs
 |[],_,_,_=>trivial
 |r::z,vs,Q,O=>by
  simp only[rdr] at O⊢;simp only[E6,B1] at Q;exact⟨O.1,LU r _ Q.1 O.2.1,NM z _ Q.2 O.2.2⟩
def UN(hh: ∀n,F n->S'.h n=S1.h n)(hr: ∀n,F n->S'.ρ n=S1.ρ n)(hp:S'.hp=S1.hp)(l:Option GI): ∀(e:Ad),Jn e=true->(∀m∈e.nms,F m)->Au S1 l e->Au S' l e
 | .arr T k rows,O,_,z=>by
   cases l with
   |none=>simpa only[Au] using z
   |some lc=>
    simp only[Au] at z⊢;obtain⟨Q,Z,vs,h3,h4,h5⟩:=z;exact⟨Q,Z,vs,by rw[hp];exact h3,h4,NM _ _ O h5⟩
 | .arrA T k rows,O,hm,z=>by
   cases l with
   |none=>simpa only[Au] using z
   |some lc=>
    simp only[Au] at z⊢;obtain⟨Q,Z,vs,h3,h4,h5⟩:=z;refine⟨Q,Z,vs,by rw[hp];exact h3,h4,uB hh hr _ _ O (λr ab m aa=>hm m ?_) h5⟩;simp only[Ad.nms];exact Fx.2 ⟨r,ab,aa⟩
 | .cells T cs,O,hm,z=>by
   simp only[Au] at z⊢;obtain⟨lc,vs,Q,Z,h3,h4⟩:=z;exact⟨lc,vs,Q,Z,by rw[hp];exact h3,X8 hh hr _ _ O (λm h=>hm m (by simpa[Ad.nms] using h)) h4⟩
 | .map _ _,O,_,_| .chan _ _,O,_,_| .iter _ _,O,_,_| .view _,O,_,_=>by simp[Jn] at O
end
def Jw{A:Type}(ar:List PK->Option A)(pre:A->Prop)(r0:A->AV)(H1:A->An)(cnt nx:Nat)(u:List Nat)(K:Al):Option (List PK)->Prop
 |some z=>DM (λa=>pre a/\K ((r0 a).ren (B2 (λj=>j) 0 nx)) {use:=u,new:=AW (B2 (λj=>j) 0 nx) (H1 a),cnt:=cnt}) (ar z)
 |none=>False
def EM{A:Type}(ar:List PK->Option A)(pre:A->Prop)(r0:A->AV)(H1:A->An)(cnt:Nat):A8:=λargs h nx K=>Jw ar pre r0 H1 cnt nx (Es h args) K (Co h args)
def Vb(ds:List D):List PK:=ds.map PK.val
def uF{S:AD}: ∀(ds:List D) (vs:LVa),FQ S (Vb ds) vs->AX S (ds.map .im) vs
 |[],vs,h=>by simpa only[Vb,Gl,FQ,AX] using h
 |d::r,vs,h=>by
  simp only[Vb,Br,FQ,AX] at h⊢;obtain⟨v,q,rfl,z,O⟩:=h;exact⟨v,q,rfl,by simpa only[Ab,Jr] using z,uF r q O⟩
def NQ(σ:Nat->Nat): ∀(ds:List D),AN σ (ds.map AV.im)=ds.map AV.im
 |[]=>rfl
 |d::r=>by simp only[Br,AN,AV.ren,NQ σ r]
mutual
def Vr(σ:Nat->Nat): ∀x:AV,IW x=true->IW (x.ren σ)=true/\ ∀m∈(x.ren σ).nms,∃j∈x.nms,m=σ j
 | .im d,h=>⟨by simpa only[AV.ren] using h,by simp[AV.ren,AV.nms]⟩
 | .own o,_=>⟨by simp[AV.ren,IW],by simp[AV.ren,AV.nms]⟩
 | .agg z,h=>by
   obtain⟨O,Q⟩:=OG σ z (by simpa[IW] using h);exact⟨by simpa[AV.ren,IW] using O,by simpa[AV.ren,AV.nms] using Q⟩
 | .tup z,h=>by
   obtain⟨O,Q⟩:=OG σ z (by simpa[IW] using h);exact⟨by simpa[AV.ren,IW] using O,by simpa[AV.ren,AV.nms] using Q⟩
 | .any,h| .ptr _ _,h| .eptr _ _ _,h| .mp _,h| .ch _,h| .it _,h| .osl _ _ _,h| .clo _ _ _,h=>by simp[IW] at h
def OG(σ:Nat->Nat): ∀xs:List AV,FA xs=true->FA (AN σ xs)=true/\ ∀m∈Av (AN σ xs),∃j∈Av xs,m=σ j
 |[],_=>⟨rfl,by simp[AN,Av]⟩
 |x::r,h=>by
  simp only[FA,B1] at h;obtain⟨O,Q⟩:=Vr σ x h.1;obtain⟨Z,h4⟩:=OG σ r h.2;refine⟨by simp only[AN,FA,O,Z,Pg],λm hm=> ?_⟩;simp only[AN,Av,BO] at hm⊢;rcases hm with hm|hm
  .obtain⟨j,z,e⟩:=Q m hm;exact⟨j,.inl z,e⟩
  .obtain⟨j,z,e⟩:=h4 m hm;exact⟨j,.inr z,e⟩
end
def aS(σ:Nat->Nat): ∀e:Ad,Jn e=true->Jn (e.ren σ)=true/\ ∀m∈(e.ren σ).nms,∃j∈e.nms,m=σ j
 | .arr T k rows,h=>⟨by simpa only[Ad.ren] using h,by simp[Ad.ren,Ad.nms]⟩
 | .arrA T k rows,h=>by
   simp only[Jn,CF] at h;refine⟨?_,?_⟩
   .simp only[Ad.ren,Jn,List.all_map,CF];exact λr z=>(OG σ r (h r z)).1
   .intro m hm;simp only[Ad.ren,Ad.nms] at hm⊢;obtain⟨q,hq,hm⟩:=Fx.1 hm;obtain⟨r,z,rfl⟩:=BY.1 hq;obtain⟨j,hj,e⟩:=(OG σ r (h r z)).2 m hm;exact⟨j,Fx.2 ⟨r,z,hj⟩,e⟩
 | .cells T O,h=>by
   obtain⟨Q,Z⟩:=OG σ O (by simpa[Jn] using h);exact⟨by simpa[Ad.ren,Jn] using Q,by simpa[Ad.ren,Ad.nms] using Z⟩
 | .map _ _,h| .chan _ _,h| .iter _ _,h| .view _,h=>by simp[Jn] at h
def W5{pk:(HpT)->List AV->Option (List PK)}(be: ∀{C:Bn} {S:AD} {h:HpT},Wf C S-> ∀(xs:List AV) (ps:List PK) (vs:LVa),(∀m∈Es h xs,S.h m=h m)->pk h xs=some ps->AX S xs vs->FQ S.froz ps vs)
 {P:Program}{g:FuncId}{A:Type}{ag:A->List AV}{ca:A->List D}{pre:A->Prop}{klB:Nat->Bool}{r0:A->AV}{H1:A->An}{cnt:Nat}
 (av:Hu P g=true)(bd:Ij P g (A7 ag (λ_=>[]) 0 pre klB r0 H1 cnt))(au: ∀a,ag a=(ca a).map AV.im)
 {ar:List PK->Option A}(bc: ∀ps a,ar ps=some a->Cu ps (Vb (ca a)))
 (ay: ∀a,IW (r0 a)=true/\ ∀m∈(r0 a).nms,m<cnt)
 (hH1: ∀a,∀p∈H1 a,p.1<cnt/\p.2.1=true/\Jn p.2.2=true/\ ∀m∈p.2.2.nms,m<cnt):
 Ij P g λargs h nx K=>Jw ar pre r0 H1 cnt nx (Es h args) K (pk h args):=by
 intro args h nx K z;cases hp:pk h args with
 |none=>rw[hp] at z;exact z.elim
 |some ps=>
  rw[hp] at z;simp only[Jw] at z;cases ha:ar ps with
  |none=>rw[ha] at z;exact z.elim
  |some a=>
   rw[ha] at z;simp only[DM] at z;obtain⟨ax,hK⟩:=z;refine⟨pR av,_,_,?_,hK⟩;intro C S vs RR hW az ab ac am ah;have bf:=be hW args ps vs.toList (λm hm=>az m (HR _ hm)) hp am;have a9:=qX hW;obtain⟨σ,hσ⟩: ∃σ:Nat->Nat,σ=B2 (λj=>j) 0 nx:=⟨_,rfl⟩;have hσj: ∀j,σ j=nx+j:=λj=>by rw[hσ];simp[B2]
   rw[<-hσ] at ah;obtain⟨_,r,E,hT,rfl,rfl⟩:=bd (ag a) (λ_=>none) nx (λr E=>r=(r0 a).ren σ/\E={use:=[],kill:=[],new:=AW σ (H1 a),cnt:=cnt})
    ⟨a,λj=>j,[],[],ax,by rw[au,NQ],trivial,⟨by simp[Ai,hget],by simp[Ai,hget],by simp[Ai,hget],auSi,by simp[Ai,hget]⟩,by rw[hσ],by rw[hσ]⟩
   have ba:AX S.froz (ag a) vs.toList:=by rw[au];exact uF _ _ ((bc ps a ha).c bf)
   refine hT (eZ S) S.froz vs RR a9 auSi (λn hn=> ?_) (λn e he m hm hF=> ?_) ba ?_
   .have:=ab n hn
    show (S.h n).map _=none;rw[this];rfl
   .obtain⟨e0,O,rfl⟩:=pS he;exact ac n e0 O m hm hF
   intro v S1 Z bb _ aw;have ai: ∀n e,hget (AW σ (H1 a)) n=some e->Fr nx cnt n/\e.1=true/\Jn e.2=true/\ ∀m∈e.2.nms,Fr nx cnt m:=by
    intro n e he;obtain⟨j,e0,O,Q,rfl⟩:=qZ he;obtain⟨g1,g2,g3,g4⟩:=hH1 a _ O;obtain⟨q1,q2⟩:=aS σ e0.2 g3;refine⟨by rw[<-Q,hσj];exact⟨auOm,auOm⟩,g2,q1,λm hm=> ?_⟩;obtain⟨i,hi,rfl⟩:=q2 m hm
    have:=g4 i hi
    rw[hσj];exact⟨auOm,auOm⟩
   have ao:S.w.heap.size<=S1.w.heap.size:=Z.size;have aa: ∀b,b<S.w.heap.size->S1.w.heap[b]? =S.w.heap[b]? :=λb hb=>Z.keep b hb (λh=>h)
   have aq: ∀n,Fr nx cnt n->S.h n=none:=ab
   let E':BA:={use:=Es h args,kill:=[],new:=AW σ (H1 a),cnt:=cnt}
   have aj: ∀n,E'.appf S.h n=match hget (AW σ (H1 a)) n with
    |some e=>some e
    |none=>S.h n:=λn=>by simp only[E',BA.appf];rfl
   have a0: ∀n,S1.h n=match hget (AW σ (H1 a)) n with
    |some e=>some e
    |none=>S.froz.h n:=λn=>by rw[bb];simp only[BA.appf];rfl
   let S':AD:=⟨λn=>if nx<=n/\n<nx+cnt then S1.ρ n else S.ρ n,S.ok,E'.appf S.h,S1.w⟩
   have ak: ∀n,S'.h n=E'.appf S.h n:=λ_=>rfl
   have aF: ∀n,Fr nx cnt n->S'.h n=S1.h n:=by
    intro n hn;rw[ak,aj,a0];cases hget (AW σ (H1 a)) n with
    |some e=>rfl
    |none=>
     show S.h n=(S.h n).map _;rw[aq n hn];rfl
   have aR: ∀n,Fr nx cnt n->S'.ρ n=S1.ρ n:=λn hn=>Bt hn
   have oF: ∀n,¬Fr nx cnt n->S'.h n=S.h n:=by
    intro n hn;rw[ak,aj];cases hq:hget (AW σ (H1 a)) n with
    |some e=>exact absurd (ai n e hq).1 hn
    |none=>rfl
   have oR: ∀n,¬Fr nx cnt n->S'.ρ n=S.ρ n:=λn hn=>Be hn
   have hp':Ck (λn=> ¬Fr nx cnt n) S S':=⟨λb hb=>⟨hb,aa b (hW.oks b hb)⟩,λo ho e' an=>⟨e',by rw[<-oF o ho];exact an,oR o ho,rfl,rfl⟩⟩;have nF: ∀n e,S.h n=some e-> ¬Fr nx cnt n:=λn e he hn=>by rw[aq n hn] at he;cases he
   have split: ∀o e,S'.h o=some e->(Fr nx cnt o/\S1.h o=some e/\S'.ρ o=S1.ρ o/\e.1=true/\Jn e.2=true/\ ∀m∈e.2.nms,Fr nx cnt m)\/(S.h o=some e/\S'.ρ o=S.ρ o):=by
    intro o e he;by_cases hn:Fr nx cnt o
    .left;have O:S1.h o=some e:=by rw[<-aF o hn];exact he
     have Q:=he;rw[ak,aj] at Q;cases hq:hget (AW σ (H1 a)) o with
     |some e1=>
      rw[hq] at Q;obtain rfl:=AJ Q;exact⟨hn,O,aR o hn,(ai o _ hq).2⟩
     |none=>
      rw[hq] at Q;exact absurd hn (nF o e Q)
    .right;exact⟨by rw[<-oF o hn];exact he,oR o hn⟩
   have af: ∀o e l,S1.h o=some e->S1.ρ o=some l->e.1=true->l.b<S1.w.heap.size/\S.w.heap.size<=l.b:=by
    intro o e l he hl hm;obtain⟨Q,h3⟩:=Z.loc o e l he hl;rw[hm] at h3;simp only[Ff] at h3;exact⟨Q,h3.2.elim (λh=>h) (λh=>h.elim)⟩
   have a8:Wf C S':=by
    refine⟨Z.os.trans hW.os,Z.tape.trans hW.tape,Z.output.trans hW.output,Gu hW.dr Z.dr,Gu hW.size ao,?_,hW.ok0,hW.ok1,λb hb=>ET (hW.oks b hb) ao,?_,?_,?_,hW.gl⟩
    .intro b hb hM;exact (aa b (ET hb hW.size)).trans (hW.keep b hb hM)
    .intro o e he;rcases split o e he with ⟨_,O,Q,_,h4,h5⟩|⟨O,Q⟩
     .rw[Q];exact UN aF aR rfl _ e.2 h4 h5 (Z.obj o e O)
     .rw[Q];exact Im hp' (λlc hl=>aa lc.b (hW.loc o e lc O hl).1) _ (λm hm hF=>ac o e O m hm hF) (hW.obj o e O)
    .intro o e l he hl;rcases split o e he with ⟨_,O,Q,h3,_⟩|⟨O,Q⟩
     .rw[Q] at hl;obtain⟨b1,b2⟩:=af o e l O hl h3;refine⟨b1,?_⟩;rw[h3];simp only[Ff];exact⟨λhk=>by have:=hW.oks _ hk;omega,.inl (Gu hW.size b2)⟩
     .rw[Q] at hl;obtain⟨b1,b2⟩:=hW.loc o e l O hl;exact⟨ET b1 ao,b2⟩
    .intro o o' e e' l l' he an hl ad hb hm;rcases split o e he with ⟨_,O,Q,h3,_⟩|⟨O,Q⟩<;>rcases split o' e' an with ⟨_,k1,k2,k3,_⟩|⟨k1,k2⟩<;>rw[Q] at hl<;>rw[k2] at ad
     .exact Z.inj o o' e e' l l' O k1 hl ad hb hm
     .have:=(af o e l O hl h3).2
      have:=(hW.loc o' e' l' k1 ad).1
      omega
     .have:=(af o' e' l' k1 ad k3).2
      have:=(hW.loc o e l O hl).1
      omega
     .exact hW.inj o o' e e' l l' O k1 hl ad hb hm
   obtain⟨q1,q2⟩:=Vr σ (r0 a) (ay a).1;refine ah v S' a8 rfl hp' (gJ aF aR _ v q1 (λm hm=> ?_) aw);obtain⟨j,hj,rfl⟩:=q2 m hm
   have:=(ay a).2 j hj
   rw[hσj];exact⟨auOm,auOm⟩
def W6{P:Program}{g:FuncId}{A:Type}{z:A->List AV}{ca:A->List D}{pre:A->Prop}{klB:Nat->Bool}{r0:A->AV}{H1:A->An}{cnt:Nat}
 (O:Hu P g=true)(aa:Ij P g (A7 z (λ_=>[]) 0 pre klB r0 H1 cnt))(Q: ∀a,z a=(ca a).map AV.im)
 {ar:List PK->Option A}(Z: ∀ps a,ar ps=some a->Cu ps (Vb (ca a)))
 (ab: ∀a,IW (r0 a)=true/\ ∀m∈(r0 a).nms,m<cnt)
 (hH1: ∀a,∀p∈H1 a,p.1<cnt/\p.2.1=true/\Jn p.2.2=true/\ ∀m∈p.2.2.nms,m<cnt):
 Ij P g (EM ar pre r0 H1 cnt):=W5 (pk:=Co) (λhW=>Qtx hW) O aa Q Z ab hH1
def nJ(h:HpT):List AV->Option (List PK)
 |[]=>some []
 |x::r=>HF (EE (bk h 9 x)) (nJ h r)
def W7{A:Type}(ar:List PK->Option A)(pre:A->Prop)(r0:A->AV)(H1:A->An)(cnt:Nat):A8:=λargs h nx K=>Jw ar pre r0 H1 cnt nx (Es h args) K (nJ h args)
def W7.os{A:Type}{ar:List PK->Option A}{pre:A->Prop}{r0:A->AV}{H1:A->An}{cnt:Nat}{args:List AV}{h:HpT}{nx:Nat}{K:Al}(ps:List PK)(O:nJ h args=some ps)(a:A)(Z:ar ps=some a)(z:pre a)
 (Q:K ((r0 a).ren (B2 (λj=>j) 0 nx)) {use:=Es h args,new:=AW (B2 (λj=>j) 0 nx) (H1 a),cnt:=cnt}):W7 ar pre r0 H1 cnt args h nx K:=by
 unfold W7;rw[O];simp only[Jw,Z,DM];exact⟨z,Q⟩
end Go.Ae
namespace Go.Ae
open Go.Proofs
def Qado(l:Cz)(i:Nat)(x:Int):(l.map Aj).set i [.int .i64 x]=(l.set i x).map Aj:=by rw[GG];rfl
def Hy(k:Int)(n:Nat):Cz:=(List.range n).map λ(i:Nat)=>k+(i:Int)
def R9(k:Int)(n:Nat):(Hy k n).length=n:=by simp[Hy]
def uD(k:Int)(n:Nat):Hy k (n+1)=Hy k n++[k+(n:Int)]:=by simp[Hy,Xi]
def ZN{k:Int}{n i:Nat}(h:i<n):(Hy k n)[i]? =some (k+(i:Int)):=by simp only[Hy,Dp];rw[ER h];rfl
def HY(k:Int)(l:Cz)(i:Nat):Cz:=Hy k i++l.drop i
def Ux{k:Int}{l:Cz}{i:Nat}(h:i<=l.length):(HY k l i).length=l.length:=by simp[HY,R9];omega
def Uy{k:Int}{l:Cz}{i:Nat}(h:i<l.length):(HY k l i).set i (k+(i:Int))=HY k l (i+1):=by
 have hd:l.drop i=l[i]::l.drop (i+1):=by rw[D1 h]
 rw[HY,zQ _ _ (by rw[R9];omega),R9,hd,YL,YH,HY,uD];simp
def Uw{k:Int}{l:Cz}{i:Nat}(h:i=l.length):HY k l i=Hy k l.length:=by
 subst h;simp[HY]
def mkIC.ca(a:Cz×Int):List AV:=[.own 0,.im (.int .i64 a.2)]
def mkIC.H0(a:Cz×Int):An:=[(0,(true,.arr 2 1 (a.1.map Aj)))]
def mkIC.H1(a:Cz×Int):An:=[(0,(true,.arr 2 1 ((Hy a.2 a.1.length).map Aj)))]
def mkIC.row:A8:=A7 mkIC.ca mkIC.H0 1 (λa=>0<=a.2/\a.2+a.1.length<=1099511627776) (λj=>j==0) (λa=> .im (.int .i64 (a.2+a.1.length))) mkIC.H1 0
def mkIC.ok:AE 16 mkIC.row:=by
 refine ow tN Tryz.func16 (exB:=λ_=>false) (R:=λa r=>r= .im (.int .i64 (a.2+a.1.length))) (λ_=>rfl)
  (λa=>by simp[mkIC.ca,mkIC.H0,A9,AV.bel,Ar,B5,Ca,Ad.nms,Ai,hget]) (λa p hp=> ?_) LeVq ?_
 rotate_left
 intro a z;simp only[Tryz.f16,mkIC.ca,mkIC.H0,mkIC.H1];simp only[ZA,simprocAttr];obtain⟨l,k⟩:=a;simp only at z⊢;obtain⟨h1,h2⟩:=z;refine AY.old ⟨{i:Nat//i<=l.length},λi=>⟨[(5,.im (.int .i64 i.1)),(4,.im (.int .i64 0)),(1,.im (.int .i64 (k+i.1))),(0,.own 0)],[(0,(true,.arr 2 1 ((HY k l i.1).map Aj)))],1⟩,λi=>l.length - i.1,λi=>⟨by simp[ZG],auSi⟩,⟨⟨0,auSi⟩,by simp only[ZA,simprocAttr,sub];simp[HY,Hy]⟩,λi=> ?_⟩;obtain⟨i,Q⟩:=i;have Z:=Ux (k:=k) Q;simp only[ZA,simprocAttr,sub,AL,Z];intro _;refine⟨λO=>⟨O,O,λx _=>⟨⟨i+1,auOm⟩,by simp only;omega,⟨?_,?_⟩,?_⟩⟩,λO=>⟨auOm,by rw[Uw auOm]⟩⟩
 .rw[AG auOm auOm];simp only;omega
 .rw[AG auOm auOm];simp only;omega
 .rw[Qado,Uy O]
 simp[mkIC.H1] at hp;subst hp;exact .inl ⟨auOm,rfl,rfl⟩
def Gp(l:Cz)(k:Int):Int:=if l=Hy k l.length then k+l.length else -1
def heldIS.fv(a:(Cz)×Int):Int:=(Gp) (a.1) (a.2)
def heldIS.row:A8:=Cj (b2 (qS D4 Cq) qI) rI (λa=>0<=a.2/\a.2+a.1.length<=1099511627776) heldIS.fv
def heldIS.q:=Cf (R:=heldIS.row) rfl
def heldIS.ok:AE 136 heldIS.row:=by
 refine EK tN Tryz.func136 ?_;intro a z;simp only[Tryz.f136];simp only[ZA,simprocAttr,heldIS.fv];obtain⟨l,k⟩:=a;simp only at z⊢;obtain⟨h1,h2⟩:=z;refine AY.old ⟨{i:Nat//i<=l.length/\l.take i=Hy k i},λi=>⟨[(5,.im (.int .i64 i.1)),(4,.im (.int .i64 0)),(1,.im (.int .i64 (k+i.1))),(0,.im (.sl false 1 (l.map Aj)))],[],0⟩,λi=>l.length - i.1,λi=>⟨by simp[ZG],auSi⟩,⟨⟨0,by simp[Hy]⟩,by simp only[ZA,simprocAttr,sub];simp⟩,λi=> ?_⟩;obtain⟨i,aa,O⟩:=i;simp only[ZA,simprocAttr,D.sc,D.scs,AO,sub,AL];intro hn;refine⟨λQ=>⟨Q,λx hx=>⟨λc=> ?_,λc=>⟨⟨i+1,auOm,?_⟩,by simp only;omega,?_,?_⟩⟩⟩,λQ=> ?_⟩
 .have: ¬l=Hy k l.length:=by
   intro h;rw[h,ZN Q] at hx;exact c (AJ hx).symm
  simp only[Gp];rw[Be this]
 .rw[qW hx,O,uD,Ch.1 c]
 .rw[AG auOm auOm];simp only;omega
 .rw[AG auOm auOm];simp only;omega
 .have Z:i=l.length:=auOm;subst Z;rw[Pj] at O;simp only[Gp];rw[Bt O]
def L8(n:Nat):MM:=if h:n=0 then ByteArray.empty else L8 (n/10)++Ig [IntKind.u8.wrap (48+((n % 10:Nat):Int))] termination_by n
def GZ(k:Int):MM:=if k<=0 then "m0".toUTF8 else "m".toUTF8++L8 k.toNat
def mkText.fv(a:Int):MM:=(GZ) a
def mkText.row:A8:=vK (b1 qI) rT (λa=>a<=1099511627776) mkText.fv
def mkText.q:=Bg (R:=mkText.row) rfl
def mkText.ok:AE 135 mkText.row:=by
 refine vw tN Tryz.func135 ?_;intro a Z;simp only[Tryz.f135];simp only[ZA,simprocAttr,mkText.fv];by_cases c0:a<=0
 .rw[Bt c0];simp only[GZ];rw[Bt c0];rfl
 rw[Be c0];have eR:GZ a= "m".toUTF8++L8 a.toNat:=by simp only[GZ];rw[Be c0]
 refine AY.old ⟨{q:Nat×MM//(q.1:Int)<=a/\L8 a.toNat=L8 q.1++q.2/\q.2.size+q.1<=a.toNat},λq=>⟨[(3,.im (.str q.1.2)),(0,.im (.int .i64 q.1.1))],[],0⟩,λq=>q.1.1,λq=>⟨by simp[ZG],auSi⟩,⟨⟨(a.toNat,ByteArray.empty),by simp only;exact⟨auOm,auSi,auSi⟩⟩,by simp only[ZA,simprocAttr,sub];exact⟨rfl,auOm⟩⟩,λq=> ?_⟩;obtain⟨⟨q,out⟩,O,z,Q⟩:=q;simp only at O z Q;simp only[ZA,simprocAttr,sub,AL];refine⟨λc1=> ?_,λc1=> ?_⟩
 .have hq:q≠0:=auOm;have e1:(q:Int).tmod 10=((q % 10:Nat):Int):=by rw[Ix auOm];omega
  have e2:(q:Int).tdiv 10=((q/10:Nat):Int):=by rw[lI auOm];omega
  have e3:IntKind.i64.wrap (48+(q:Int).tmod 10)=48+((q % 10:Nat):Int):=by rw[e1];exact AG auOm auOm
  rw[e3,e2];have hs:({data:= #[UInt8.ofNat (IntKind.u8.wrap (48+((q % 10:Nat):Int))).toNat]}:MM)=Ig [IntKind.u8.wrap (48+((q % 10:Nat):Int))]:=rfl;have hz:(Ig [IntKind.u8.wrap (48+((q % 10:Nat):Int))]).size=1:=rfl;rw[hs];refine⟨auOm,⟨(q/10,Ig [IntKind.u8.wrap (48+((q % 10:Nat):Int))]++out),by simp only;omega,?_,?_⟩,by simp only;omega,rfl,by exact AG auOm auOm⟩
  .simp only;rw[z,L8,dif_neg hq,ByteArray.append_assoc]
  .simp only[Pk,hz];omega
 .have hq:q=0:=auOm;subst hq;refine⟨by show 1+out.size<=_;omega,?_⟩;rw[eR,z,L8,dif_pos rfl,ByteArray.empty_append];rfl
def KG{A:Type}(f:Nat->A)(l:List A)(i:Nat):List A:=(List.range i).map f++l.drop i
def gM{A:Type}{f:Nat->A}{l:List A}{i:Nat}(h:i<=l.length):(KG f l i).length=l.length:=by simp[KG];omega
def gG{A:Type}(f:Nat->A)(l:List A):KG f l 0=l:=by simp[KG]
def gO{A:Type}{f:Nat->A}{l:List A}{i:Nat}(h:i<l.length):(KG f l i).set i (f i)=KG f l (i+1):=by
 have hd:l.drop i=l[i]::l.drop (i+1):=by rw[D1 h]
 have z:((List.range i).map f).length=i:=auSi;rw[KG,zQ _ _ (by rw[z];omega),z,hd,YL,YH,KG,Xi];simp
def FE{A:Type}(f:Nat->A)(n:Nat):List A:=(List.range n).map f
def gQ{A:Type}{f:Nat->A}{l:List A}{i:Nat}(h:i=l.length):KG f l i=FE f l.length:=by
 subst h;simp[KG,FE]
def gF(k:Int)(i:Nat):Ac:=⟨GZ (k+2*i),k+2*i+1⟩
def mkGC.ca(a:List Ac×Int):List AV:=[.own 0,.im (.int .i64 a.2)]
def mkGC.H0(a:List Ac×Int):An:=[(0,(true,.arr 151 2 (a.1.map Ac.c)))]
def mkGC.H1(a:List Ac×Int):An:=[(0,(true,.arr 151 2 ((FE (gF a.2) a.1.length).map Ac.c)))]
def mkGC.row:A8:=A7 mkGC.ca mkGC.H0 1 (λa=>0<=a.2/\a.2+2*a.1.length<=1099511627776) (λj=>j==0) (λa=> .im (.int .i64 (a.2+2*a.1.length))) mkGC.H1 0
def mkGC.ok:AE 85 mkGC.row:=by
 refine ow (tC mkText.ok tN) Tryz.func85 (exB:=λ_=>false) (R:=λa r=>r= .im (.int .i64 (a.2+2*a.1.length))) (λ_=>rfl)
  (λa=>by simp[mkGC.ca,mkGC.H0,A9,AV.bel,Ar,B5,Ca,Ad.nms,Ai,hget]) (λa p hp=> ?_) LeVq ?_
 rotate_left
 intro a z;simp only[Tryz.f85,mkGC.ca,mkGC.H0,mkGC.H1];simp only[ZA,simprocAttr];obtain⟨l,k⟩:=a;simp only at z⊢;obtain⟨h1,h2⟩:=z;refine AY.old ⟨{i:Nat//i<=l.length},λi=>⟨[(5,.im (.int .i64 i.1)),(4,.im (.int .i64 0)),(1,.im (.int .i64 (k+2*i.1))),(0,.own 0)],[(0,(true,.arr 151 2 ((KG (gF k) l i.1).map Ac.c)))],1⟩,λi=>l.length - i.1,λi=>⟨by simp[ZG],auSi⟩,⟨⟨0,auSi⟩,by simp only[ZA,simprocAttr,sub,gG];simp⟩,λi=> ?_⟩;obtain⟨i,aa⟩:=i;have Z:=gM (f:=gF k) aa;simp only[ZA,simprocAttr,mkText.q,mkText.fv,AL,Z];intro _;refine⟨λQ=>⟨auOm,Q,Q,λx hx=> ?_⟩,λQ=> ?_⟩
 .have w1:IntKind.i64.wrap (k+2*(i:Int)+1)=k+2*(i:Int)+1:=AG auOm auOm;have O:i<(List.map Ac.c (KG (gF k) l i)).length:=by rw[Dy,Z];exact Q
  refine⟨by rw[EU];exact O,by rw[EU];exact O,IH (Bo O) ?_⟩;simp only[ZA,simprocAttr,sub,w1,ZeM];refine⟨⟨i+1,auOm⟩,by simp only;omega,⟨?_,?_⟩,?_⟩
  .rw[AG auOm auOm];simp only;omega
  .rw[AG auOm auOm];simp only;omega
  .simp only;rw[<-gO Q,GG];rfl
 .exact⟨auOm,by rw[gQ auOm]⟩
 simp[mkGC.H1] at hp;subst hp;exact .inl ⟨auOm,rfl,rfl⟩
def pF(k:Int)(i:Nat):AA:=⟨⟨k+3*i,k+3*i+1⟩,k+3*i+2⟩
def mkPC.ca(a:List AA×Int):List AV:=[.own 0,.im (.int .i64 a.2)]
def mkPC.H0(a:List AA×Int):An:=[(0,(true,.arr 137 3 (a.1.map AA.c)))]
def mkPC.H1(a:List AA×Int):An:=[(0,(true,.arr 137 3 ((FE (pF a.2) a.1.length).map AA.c)))]
def mkPC.row:A8:=A7 mkPC.ca mkPC.H0 1 (λa=>0<=a.2/\a.2+3*a.1.length<=1099511627776) (λj=>j==0) (λa=> .im (.int .i64 (a.2+3*a.1.length))) mkPC.H1 0
def mkPC.ok:AE 87 mkPC.row:=by
 refine ow tN Tryz.func87 (exB:=λ_=>false) (R:=λa r=>r= .im (.int .i64 (a.2+3*a.1.length))) (λ_=>rfl)
  (λa=>by simp[mkPC.ca,mkPC.H0,A9,AV.bel,Ar,B5,Ca,Ad.nms,Ai,hget]) (λa p hp=> ?_) LeVq ?_
 rotate_left
 intro a O;simp only[Tryz.f87,mkPC.ca,mkPC.H0,mkPC.H1];simp only[ZA,simprocAttr];obtain⟨l,k⟩:=a;simp only at O⊢;obtain⟨h1,h2⟩:=O;refine AY.old ⟨{i:Nat//i<=l.length},λi=>⟨[(5,.im (.int .i64 i.1)),(4,.im (.int .i64 0)),(1,.im (.int .i64 (k+3*i.1))),(0,.own 0)],[(0,(true,.arr 137 3 ((KG (pF k) l i.1).map AA.c)))],1⟩,λi=>l.length - i.1,λi=>⟨by simp[ZG],auSi⟩,⟨⟨0,auSi⟩,by simp only[ZA,simprocAttr,sub,gG];simp⟩,λi=> ?_⟩;obtain⟨i,aa⟩:=i;have Z:=gM (f:=pF k) aa;simp only[ZA,simprocAttr,AL,Z];intro _;refine⟨λQ=>⟨Q,Q,λx hx=> ?_⟩,λQ=> ?_⟩
 .have w1:IntKind.i64.wrap (k+3*(i:Int)+1)=k+3*(i:Int)+1:=AG auOm auOm;have w2:IntKind.i64.wrap (k+3*(i:Int)+1+1)=k+3*(i:Int)+2:=(AG auOm auOm).trans auOm;have z:i<(List.map AA.c (KG (pF k) l i)).length:=by rw[Dy,Z];exact Q
  simp only[w1];refine⟨by rw[EU];exact z,by rw[EU];exact z,IH (Bo z) ?_⟩;simp only[ZA,simprocAttr,w2,ZeM];refine⟨by rw[EU];exact z,by rw[EU];exact z,IH (Bo z) ?_⟩;simp only[ZA,simprocAttr,sub,ZeM];refine⟨⟨i+1,auOm⟩,by simp only;omega,⟨?_,?_⟩,?_⟩
  .rw[AG auOm auOm];simp only;omega
  .rw[AG auOm auOm];simp only;omega
  .simp only;rw[<-gO Q,GG];rfl
 .exact⟨auOm,by rw[gQ auOm]⟩
 simp[mkPC.H1] at hp;subst hp;exact .inl ⟨auOm,rfl,rfl⟩
def oF(k:Int)(i:Nat):Ew:=⟨⟨k+3*i,k+3*i+1⟩,k+3*i+2⟩
def toIX.ca(a:Cz):List AV:=[.im (.sl false 1 (a.map Aj))]
def toIX.H1(a:Cz):An:=[(1,(true,.arr 2 1 (a.map Aj)))]
def toIX.row:A8:=A7 toIX.ca (λ_=>[]) 0 (λa=>a.length<=1073741824) (λ_=>false) (λ_=> .own 1) toIX.H1 2
def toIX.ok:AE 9 toIX.row:=by
 refine ow tN Tryz.func9 (exB:=λj=>j==1) (R:=λ_ r=>r= .own 1) (λ_=>rfl)
  (λa=>by simp[toIX.ca,A9,AV.bel,Ar,B5,Ca]) (λa p hp=> ?_) LeVq ?_
 rotate_left
 intro a z;simp only[Tryz.f9,toIX.ca,toIX.H1];simp only[ZA,simprocAttr];intro Z;have aa:a.length<=1073741824:=z;refine⟨auOm,?_⟩;refine AY.old ⟨{k:Nat//k<=a.length},λk=>⟨[(4,.im (.int .i64 k.1)),(3,.own 1),(0,.im (.sl false 1 (a.map Aj)))],[(1,(true,.arr 2 1 ((a.take k.1).map Aj++List.replicate (a.length - k.1) [.int .i64 0])))],2⟩,λk=>a.length - k.1,λk=>⟨by simp[ZG],BN _⟩,⟨⟨0,auOm⟩,by simp only[ZA,simprocAttr,sub];simp⟩,λk=> ?_⟩;obtain⟨k,Q⟩:=k;simp only[ZA,simprocAttr,AL,WX _ _ a k Q];intro _;refine⟨λO=> ?_,λO=> ?_⟩
 .refine⟨O,λx hx=>⟨O,O,IH (WT Aj _ a k x hx) ?_⟩⟩;simp only[ZA,simprocAttr,sub];refine⟨⟨k+1,auOm⟩,by simp only;omega,?_,?_⟩
  .rw[AG auOm auOm];simp only;omega
  .exact Xa Aj _ a k x hx
 .rw[WY Aj _ a k auOm]
  try trivial
 simp[toIX.H1] at hp;subst hp;exact .inr ⟨auOm,auOm,rfl,rfl⟩
def toGX.ca(a:List Ac):List AV:=[.im (.sl false 2 (a.map Ac.c))]
def toGX.H1(a:List Ac):An:=[(1,(true,.arr 151 2 (a.map Ac.c)))]
def toGX.row:A8:=A7 toGX.ca (λ_=>[]) 0 (λa=>a.length<=1073741824) (λ_=>false) (λ_=> .own 1) toGX.H1 2
def toGX.ok:AE 65 toGX.row:=by
 refine ow (tC toGlue.ok tN) Tryz.func65 (exB:=λj=>j==1) (R:=λ_ r=>r= .own 1) (λ_=>rfl)
  (λa=>by simp[toGX.ca,A9,AV.bel,Ar,B5,Ca]) (λa p hp=> ?_) LeVq ?_
 rotate_left
 intro a z;simp only[Tryz.f65,toGX.ca,toGX.H1];simp only[ZA,simprocAttr];intro Z;have aa:a.length<=1073741824:=z;refine⟨auOm,?_⟩;refine AY.old ⟨{k:Nat//k<=a.length},λk=>⟨[(4,.im (.int .i64 k.1)),(3,.own 1),(0,.im (.sl false 2 (a.map Ac.c)))],[(1,(true,.arr 151 2 ((a.take k.1).map Ac.c++List.replicate (a.length - k.1) [.str ByteArray.empty,.int .i64 0])))],2⟩,λk=>a.length - k.1,λk=>⟨by simp[ZG],BN _⟩,⟨⟨0,auOm⟩,by simp only[ZA,simprocAttr,sub];simp⟩,λk=> ?_⟩;obtain⟨k,Q⟩:=k;simp only[ZA,simprocAttr,toGlue.q,toGlue.fv,AL,WX _ _ a k Q];intro _;refine⟨λO=> ?_,λO=> ?_⟩
 .refine⟨O,λx hx=>⟨O,O,IH (WT Ac.c _ a k x hx) ?_⟩⟩;simp only[ZA,simprocAttr,sub];refine⟨⟨k+1,auOm⟩,by simp only;omega,?_,?_⟩
  .rw[AG auOm auOm];simp only;omega
  .exact Xa Ac.c _ a k x hx
 .rw[WY Ac.c _ a k auOm]
  try trivial
 simp[toGX.H1] at hp;subst hp;exact .inr ⟨auOm,auOm,rfl,rfl⟩
def toPX.ca(a:List AA):List AV:=[.im (.sl false 3 (a.map AA.c))]
def toPX.H1(a:List AA):An:=[(1,(true,.arr 137 3 (a.map AA.c)))]
def toPX.row:A8:=A7 toPX.ca (λ_=>[]) 0 (λa=>a.length<=1073741824) (λ_=>false) (λ_=> .own 1) toPX.H1 2
def toPX.ok:AE 67 toPX.row:=by
 refine ow (tC toPlaced.ok tN) Tryz.func67 (exB:=λj=>j==1) (R:=λ_ r=>r= .own 1) (λ_=>rfl)
  (λa=>by simp[toPX.ca,A9,AV.bel,Ar,B5,Ca]) (λa p hp=> ?_) LeVq ?_
 rotate_left
 intro a z;simp only[Tryz.f67,toPX.ca,toPX.H1];simp only[ZA,simprocAttr];intro Z;have aa:a.length<=1073741824:=z;refine⟨auOm,?_⟩;refine AY.old ⟨{k:Nat//k<=a.length},λk=>⟨[(4,.im (.int .i64 k.1)),(3,.own 1),(0,.im (.sl false 3 (a.map AA.c)))],[(1,(true,.arr 137 3 ((a.take k.1).map AA.c++List.replicate (a.length - k.1) [.int .i64 0,.int .i64 0,.int .i64 0])))],2⟩,λk=>a.length - k.1,λk=>⟨by simp[ZG],BN _⟩,⟨⟨0,auOm⟩,by simp only[ZA,simprocAttr,sub];simp⟩,λk=> ?_⟩;obtain⟨k,Q⟩:=k;simp only[ZA,simprocAttr,toPlaced.q,toPlaced.fv,AL,WX _ _ a k Q];intro _;refine⟨λO=> ?_,λO=> ?_⟩
 .refine⟨O,λx hx=>⟨O,O,IH (WT AA.c _ a k x hx) ?_⟩⟩;simp only[ZA,simprocAttr,sub];refine⟨⟨k+1,auOm⟩,by simp only;omega,?_,?_⟩
  .rw[AG auOm auOm];simp only;omega
  .exact Xa AA.c _ a k x hx
 .rw[WY AA.c _ a k auOm]
  try trivial
 simp[toPX.H1] at hp;subst hp;exact .inr ⟨auOm,auOm,rfl,rfl⟩
def toTX.ca(a:Tile):List AV:=[.im (.agg (Tile.c a))]
def toTX.r0(a:Tile):AV:= .agg [.im (.str a.Name),.own 4]
def toTX.H1(a:Tile):An:=[(4,(true,.arr 2 1 (a.Sides.map Aj)))]
def toTX.row:A8:=A7 toTX.ca (λ_=>[]) 0 (λa=>a.Sides.length<=1073741824) (λ_=>false) toTX.r0 toTX.H1 5
def toTX.ok:AE 110 toTX.row:=by
 refine ow (tC toIX.ok tN) Tryz.func110 (exB:=λj=>j==4) (R:=λa r=>r=toTX.r0 a) (λ_=>rfl)
  (λa=>by simp[toTX.ca,Tile.c,A9,AV.bel,Ar,B5,Ca]) (λa p hp=> ?_) LeVq ?_
 rotate_left
 intro a z;simp only[Tryz.f110,toTX.ca,toTX.H1,Tile.c];simp only[ZA,simprocAttr];refine A7.os a.Sides [] z (λj=>by simp[Ai,hget]) rfl rfl ?_ ?_
 .simp only[ZA,simprocAttr,toIX.ca,Du]
 simp only[ZA,simprocAttr,toIX.H1,toTX.r0]
 skip
 simp[toTX.H1] at hp;subst hp;exact .inr ⟨auOm,auOm,rfl,rfl⟩
def BX(a:List Tile)(i:Nat):Ap:=(true,.arr 2 1 (((a[i]?.map Tile.Sides).getD []).map Aj))
def Ku(a:List Tile)(i:Nat):List AV:=[.im (.str ((a[i]?.map Tile.Name).getD ByteArray.empty)),.own (2+i)]
def sF:List AV:=[.im (.str ByteArray.empty),.im (.sl true 0 [])]
def I4(a:List Tile)(k:Nat):List (List AV):=(List.range k).map (Ku a)++List.replicate (a.length - k) sF
def gE{a:List Tile}{k:Nat}(h:k<=a.length):(I4 a k).length=a.length:=by simp[I4];omega
def Wr{a:List Tile}{k i:Nat}(h:i<k):(I4 a k)[i]? =some (Ku a i):=by
 rw[I4,Db (by simpa using h),Dp,ER h];rfl
def Wq{a:List Tile}{k i:Nat}(h:k<=i)(z:i<a.length):(I4 a k)[i]? =some sF:=by
 rw[I4,D8 (by simpa using h),IL,Bt (by simp;omega)]
def Oo(a:List Tile)(k N:Nat)(h:2+k<=N):(I4 a k).all (A9 N)=true:=by
 rw[CF];intro r z;rcases BO.1 z with z|z
 .obtain⟨i,O,rfl⟩:=BY.1 z
  have:=AU.1 O
  simp[Ku,A9,AV.bel];omega
 .obtain rfl:=JA z;simp[sF,A9,AV.bel]
def Ws(a:List Tile):I4 a 0=Bw (List.replicate a.length [.str ByteArray.empty,.sl true 0 []]):=by
 simp[I4,Bw,sF]
def GJ(h:HpT)(F:AV->Option AV)(b:Nat)(f:Nat->Ap)(n:Nat)(H: ∀i,i<n->h (b+i)=some (f i))(O: ∀i,i<n->Cd F (f i).2=some (f i).2):E4 h F (AH b n f):=by
 have: ∀(l:List Nat),(∀i∈l,i<n)->E4 h F (l.map λi=>(b+i,f i)):=by
  intro l;induction l with
  |nil=>intro _;simp[E4]
  |cons i r ih=>
   intro z;simp only[Br,E4];refine⟨?_,ih (λj Z=>z j (Ah _ Z))⟩;rw[H i (z i (CP ..))];exact⟨rfl,O i (z i (CP ..))⟩
 exact this _ (λi Q=>AU.1 Q)
def cH{h:HpT}{kx:Nat->Option Nat}{m:Nat}{a:List Tile}(O: ∀i,i<a.length->kx (2+i)=some (2+i)):Aw (Aw (Bs h kx (m+1))) (I4 a a.length)=some (I4 a a.length):=by
 have e:I4 a a.length=(List.range a.length).map (Ku a):=by simp[I4]
 rw[e];refine Sn (g:=Ku a) (k:=Ku a) _ λi z=> ?_
 simp only[Ku,Aw,Bs,O i (AU.1 z),kp]
def toLX.ca(a:List Tile):List AV:=[.im (.sl false 2 (a.map Tile.c))]
def toLX.H1(a:List Tile):An:=(1,(true,.arrA 155 2 (I4 a a.length)))::AH 2 (min a.length 1048576) (BX a)
def toLX.pre(a:List Tile):Prop:=a.length<=1048576/\ ∀x∈a,x.Sides.length<=1073741824
def toLX.row:A8:=A7 toLX.ca (λ_=>[]) 0 toLX.pre (λ_=>false) (λ_=> .own 1) toLX.H1 2000000
def toLX.ok:AE 66 toLX.row:=by
 refine ow (tC toTX.ok tN) Tryz.func66 (exB:=λj=>Nat.ble 1 j) (R:=λ_ r=>r= .own 1) (λ_=>rfl)
  (λa=>by simp[toLX.ca,A9,AV.bel,Ar,B5,Ca]) (λa p hp=> ?_) LeVq ?_
 rotate_left
 intro a ai;simp only[Tryz.f66,toLX.ca];simp(maxSteps:=9^9)(disch:=omega)only[ZA,simprocAttr];obtain⟨h1,h2⟩:=ai;intro _;refine⟨auOm,?_⟩;refine AY.ren ⟨{k:Nat//k<=a.length},λk=>⟨[(4,.im (.int .i64 k.1)),(3,.own 1),(0,.im (.sl false 2 (a.map Tile.c)))],(1,(true,.arrA 155 2 (I4 a k.1)))::AH 2 k.1 (BX a),2+a.length⟩,λk=>a.length - k.1,λk=>⟨?_,auSi⟩,⟨⟨0,auSi⟩,[],?_⟩,λk=> ?_⟩
 .simp only[ZG,Jg,CZ];rw[Ll _ _ _ (λi=>by simp[Ar,BX]),K2 _ _ _ _ auOm,Oo _ _ _ auOm];simp
  try omega
 .simp only[AB,AH,JC,Gl,Ws];simp(maxSteps:=9^9)(disch:=omega)only[ZA,simprocAttr,qQ]
  try simp
 .obtain⟨k,aj⟩:=k;have af:=gE (a:=a) aj;simp(maxSteps:=9^9)(disch:=omega)only[ZA,simprocAttr,AL,Bb];intro _;refine⟨λhk=>⟨auOm,hk,λx hx=> ?_⟩,λhk=> ?_⟩
  .refine A7.os x [] (h2 x (Bj hx)) (λj=>by simp[Ai,hget]) rfl rfl ?_ ?_
   .simp(maxSteps:=9^9)(disch:=omega)only[ZA,simprocAttr,toTX.ca,Du,Tile.c]
   simp(maxSteps:=9^9)(disch:=omega)only[ZA,simprocAttr,toTX.H1,toTX.r0,af,Bb];refine⟨⟨auOm,auOm,auOm⟩,hk,auOm,hk,IH (Wq (BN _) hk) ?_⟩;simp only[sF];simp(maxSteps:=9^9)(disch:=omega)only[ZA,simprocAttr,Bb,AC];rw[KS 2 k (BX a) [1] auSi];refine⟨⟨?_,auOm⟩,⟨k+1,auOm⟩,[(2+k,some (2+a.length+4))],by simp only;omega,?_⟩
   .rw[CF];intro r hr;rcases GR hr with hr|hr
    .exact CF.1 (Oo a k _ auOm) r hr
    .subst hr;simp[A9,AV.bel]
   obtain⟨g,hg⟩: ∃g,g=pm [(2+k,some (2+a.length+4))]:=⟨_,rfl⟩;have qx:g (2+k)=some (2+a.length+4):=by rw[hg];simp[pm]
   have qo: ∀u,u≠2+k->g u=some u:=by intro u h;rw[hg];simp only[pm];rw[Be auOm]
   have q1:pm [(2+k,some (2+a.length+4))] 1=some 1:=by rw[<-hg];exact qo 1 auOm
   have ab:=qx;have aa:=qo;rw[hg] at ab aa;refine⟨⟨auOm,trivial⟩,?_,?_,?_⟩
   .rw[Sj,<-hg];simp only[DF,WK];refine WZ _ _ (dB [1] 2 (k+1) auSi auSi) ?_;have ad: ∀u∈[1]++(List.range (k+1)).map (2+ ·),u<2+a.length+1:=by
     intro u hu;rcases BO.1 hu with hu|hu
     .simp at hu;omega
     .obtain⟨i,hi,rfl⟩:=BY.1 hu
      have:=AU.1 hi
      show 2+i<2+a.length+1;omega
    intro u hu v hv m z O;have am:=ad u hu;have an:=ad v hv;by_cases Q:u=2+k<;>by_cases Z:v=2+k
    .omega
    .rw[Q,qx] at z;rw[qo v Z] at O;simp only[AS] at z O;omega
    .rw[qo u Q] at z;rw[Z,qx] at O;simp only[AS] at z O;omega
    .rw[qo u Q] at z;rw[qo v Z] at O;simp only[AS] at z O;omega
   .simp only[EQ,AF];simp(maxSteps:=9^9)(disch:=omega)only[ZA,simprocAttr,q1];rw[AG auOm auOm];simp
   .simp only[F6,Ys];refine⟨?_,λi hi=> ?_⟩
    .simp(maxSteps:=9^9)(disch:=omega)only[ZA,simprocAttr,q1];rw[Sm];refine⟨by rw[EU,af,gE auOm],λi r1 r2 Q Z=> ?_⟩;have ag:i<a.length:=by
      have:=(Bi.1 Q).1
      rw[gE auOm] at this;exact this
     by_cases ac:i=k
     .subst ac;rw[Wr auOm] at Q;rw[Bo (by rw[af];exact ag)] at Z;obtain rfl:=AJ Q;obtain rfl:=AJ Z;simp only[Ku,hx,CT,BG,Dl,mt,ab,DS,Ly]
     .rw[DL auOm] at Z;by_cases ad:i<k
      .rw[Wr auOm] at Q Z;obtain rfl:=AJ Q;obtain rfl:=AJ Z;simp only[Ku,Dl,mt,aa (2+i) auOm,DS,Ly]
      .rw[Wq auOm ag] at Q Z;obtain rfl:=AJ Q;obtain rfl:=AJ Z;simp only[sF,Dl,mt,Ly]
    .show Ci _ _ true (.arr 2 1 (((a[i]?.map Tile.Sides).getD []).map Aj)) _;by_cases ac:i=k
     .subst ac;rw[ab];simp(maxSteps:=9^9)(disch:=omega)only[ZA,simprocAttr,hx,BG]
      try simp
     .rw[aa (2+i) auOm];simp(maxSteps:=9^9)(disch:=omega)only[ZA,simprocAttr,CY,J6,BX]
      try simp
  .have ak:k=a.length:=auOm;subst ak;refine⟨auOm,auOm,?_⟩;have ah:min a.length 1048576=a.length:=auOm;obtain⟨H,hH⟩: ∃H,H=hget ((1,(true,Ad.arrA 155 2 (I4 a a.length)))::AH 2 a.length (BX a)):=⟨_,rfl⟩;rw[<-hH];have kx: ∀i,i<a.length->(Hl [] 0 2000000 λj=>decide (1<=j)) (2+i)=some (2+i):=by
    intro i hi;have hb:(decide (1<=2+i) && (Nat.ble 0 (2+i) && Nat.blt (2+i) (0+2000000)))=true:=by
     simp only[B1,CK,Jf,Mw];omega
    simp only[Hl,Ai,hget,rD,Dv,hb,IJ]
   have g1:H 1=some (true,.arrA 155 2 (I4 a a.length)):=by rw[hH];rfl
   simp only[toLX.H1,E4,ah];refine⟨?_,GJ _ _ _ _ _ (λi hi=> ?_) (λi hi=>rfl)⟩
   .rw[g1];exact⟨rfl,by simp only[Cd];rw[cH kx];rfl⟩
   .rw[hH];simp only[hget,AC _ _ (show 1≠2+i by omega),Dw];exact CY _ _ _ _ hi
 simp only[toLX.H1,B0,AH,BY,AU] at hp;rcases hp with rfl|⟨i,hi,rfl⟩
 .exact .inr ⟨auOm,auOm,rfl,rfl⟩
 .exact .inr ⟨by simp only;omega,by simp only;omega,by simp only[Jf];omega,rfl⟩
def Cx(b:Nat)(a:List Tile):List (List AV):=(List.range a.length).map λi=>[.im (.str ((a[i]?.map Tile.Name).getD ByteArray.empty)),.own (b+i)]
def cI(σ:Nat->Nat)(b:Nat)(a:List Tile)(h: ∀i,i<a.length->σ (2+i)=b+i):(I4 a a.length).map (AN σ)=Cx b a:=by
 have e:I4 a a.length=(List.range a.length).map (Ku a):=by simp[I4]
 rw[e,GS];refine Iu λi z=> ?_
 simp only[Function.comp,Ku,AN,AV.ren,h i (AU.1 z)]
def cD(σ:Nat->Nat)(b n:Nat)(a:List Tile)(h: ∀i,i<n->σ (2+i)=b+i):AW σ (AH 2 n (BX a))=AH b n (BX a):=by
 simp only[AH]
 have: ∀(l:List Nat),(∀i∈l,i<n)->AW σ (l.map λi=>(2+i,BX a i))=l.map λi=>(b+i,BX a i):=by
  intro l;induction l with
  |nil=>intro _;rfl
  |cons i r ih=>
   intro z;have e:=ih (λj Q=>z j (Ah _ Q));simp only[Br,AW,h i (z i (CP ..)),BX,Ad.ren] at e⊢;rw[e]
 exact this _ (λi O=>AU.1 O)
def R8(k:List Nat)(nx cnt:Nat): ∀(H:An),(∀p∈H,nx<=p.1/\p.1<nx+cnt)->GO k nx cnt H=true
 |[],_=>rfl
 |(i,e)::r,h=>by
  have z:=h (i,e) (CP ..);simp only at z;simp only[GO,I8,R8 k nx cnt r (λp hp=>h p (Ah _ hp)),Jg,IK,B1,Jf,Mw];exact .inl z
def Lc(b:Nat)(a:List Tile)(N:Nat)(h:b+a.length<=N):(Cx b a).all (A9 N)=true:=by
 rw[CF];intro r O;obtain⟨i,z,rfl⟩:=BY.1 O
 have:=AU.1 z
 simp[A9,AV.bel];omega
def Wu{σ:Nat->Nat}{nx:Nat}(a:List Tile)(h: ∀j,σ j=nx+j):AW σ (toLX.H1 a)=(nx+1,(true,.arrA 155 2 (Cx (nx+2) a)))::AH (nx+2) (min a.length 1048576) (BX a):=by
 simp only[toLX.H1,AW,Ad.ren];rw[cI σ (nx+2) a (λi _=>by rw[h];omega),cD σ (nx+2) _ a (λi _=>by rw[h];omega),h]
def OF{b n:Nat}{f:Nat->Ap}{r:An}{m:Nat}(h:m<b):hget (AH b n f++r) m=hget r m:=by
 rw[J7,Qmh _ _ _ _ (.inl h)];rfl
def uE(ks:List Nat): ∀(a b:An),Bp (a++b) ks=Bp a ks++Bp b ks
 |[],b=>by simp[Bp]
 |(i,e)::r,b=>by
  simp only[BZ,Bp,uE ks r b];cases ks.contains i<;>rfl
def X6{b n:Nat}{f:Nat->Ap}{r:An}{k:Nat}(h:k<b):Bp (AH b n f++r) [k]=AH b n f++Bp r [k]:=by
 rw[uE,KS _ _ _ _ (λx z=>by rw[Am] at z;subst z;exact .inl h)]
def OJ{h:HpT}{kx:Nat->Option Nat}{m b:Nat}{a:List Tile}(O: ∀i,i<a.length->kx (b+i)=some (b+i)):Aw (Aw (Bs h kx (m+1))) (Cx b a)=some (Cx b a):=by
 refine Sn (g:=λi=>[AV.im (.str ((a[i]?.map Tile.Name).getD ByteArray.empty)),AV.own (b+i)]) (k:=λi=>[AV.im (.str ((a[i]?.map Tile.Name).getD ByteArray.empty)),AV.own (b+i)]) _ λi z=> ?_
 simp only[Aw,Bs,O i (AU.1 z),kp]
def RD{lo cnt m:Nat}(O:lo<=m)(Q:m<cnt):(Hl [] 0 cnt λj=>decide (lo<=j)) m=some m:=by
 have z:(decide (lo<=m) && (Nat.ble 0 m && Nat.blt m (0+cnt)))=true:=by
  simp only[B1,CK,Jf,Mw];omega
 simp only[Hl,Ai,hget,rD,Dv,z,IJ]
def toSX.ca(a:AI):List AV:=[.im (.agg (AI.c a))]
def toSX.r0:AV:= .agg [.own 4,.own 6]
def toSX.H1(a:AI):An:=(4,(true,.arr 151 2 (a.Glues.map Ac.c)))::(6,(true,.arrA 155 2 (Cx 7 a.Tiles)))::AH 7 (min a.Tiles.length 1048576) (BX a.Tiles)
def toSX.pre(a:AI):Prop:=a.Glues.length<=1073741824/\toLX.pre a.Tiles
def toSX.row:A8:=A7 toSX.ca (λ_=>[]) 0 toSX.pre (λ_=>false) (λ_=>toSX.r0) toSX.H1 2000005
def toSX.ok:AE 27 toSX.row:=by
 refine ow (tC toGX.ok (tC toLX.ok tN)) Tryz.func27 (exB:=λj=>Nat.ble 4 j) (R:=λ_ r=>r=toSX.r0) (λ_=>rfl)
  (λa=>by simp[toSX.ca,AI.c,A9,AV.bel,Ar,B5,Ca]) (λa p hp=> ?_) LeVq ?_
 rotate_left
 intro a Q;simp only[Tryz.f27,toSX.ca,AI.c];simp only[ZA,simprocAttr];obtain⟨h1,Z⟩:=Q;refine A7.os a.Glues [] h1 (λj=>by simp[Ai,hget]) rfl rfl ?_ ?_
 .simp only[ZA,simprocAttr,toGX.ca,Du]
 simp only[ZA,simprocAttr,toGX.H1];refine A7.os a.Tiles [] Z (λj=>by simp[Ai,hget]) rfl rfl ?_ ?_
 .simp only[ZA,simprocAttr,toLX.ca,Du]
 have hσ: ∀j,B2 (IU []) 0 5 j=5+j:=λj=>by simp[B2]
 rw[Wu a.Tiles hσ];obtain⟨h3,h4⟩:=Z;have z:min a.Tiles.length 1048576=a.Tiles.length:=auOm;rw[z];simp only[De,AV.ren,hσ];refine⟨?_,?_⟩
 .rw[BA.ok_nr,R8 _ _ _ _ (λp hp=> ?_)]
  .simp only[AV.bel,Ar];rw[Ll _ _ _ (λi=>by simp[Ar,BX]),Lc _ _ _ auOm];simp
  .rcases B0.1 hp with rfl|hp
   .exact⟨by simp only;omega,by simp only;omega⟩
   .obtain⟨i,O,rfl⟩:=BY.1 hp
    have:=AU.1 O
    exact⟨by simp only;omega,by simp only;omega⟩
 simp only[ZA,simprocAttr,Bb,toSX.r0,OF,X6];obtain⟨H,hH⟩: ∃H,H=hget ((1,(true,Ad.cells 41 [AV.own 4,AV.own 6]))::(2,(true,Ad.cells 41 [AV.own 4,AV.own 6]))::(6,(true,Ad.arrA 155 2 (Cx 7 a.Tiles)))::
  (AH 7 a.Tiles.length (BX a.Tiles)++[(4,(true,Ad.arr 151 2 (List.map Ac.c a.Glues))),(0,(true,Ad.cells 25 [AV.im (D.sl false 2 (List.map Ac.c a.Glues)),AV.im (D.sl false 2 (List.map Tile.c a.Tiles))]))])):=⟨_,rfl⟩
 rw[<-hH];have g4:H 4=some (true,.arr 151 2 (a.Glues.map Ac.c)):=by rw[hH];simp[hget,OF]
 have g6:H 6=some (true,.arrA 155 2 (Cx 7 a.Tiles)):=by rw[hH];rfl
 have gf: ∀i,i<a.Tiles.length->H (7+i)=some (BX a.Tiles i):=by
  intro i O;rw[hH];simp only[hget,AC _ _ (show 1≠7+i by omega),AC _ _ (show 2≠7+i by omega),AC _ _ (show 6≠7+i by omega),Dw];rw[J7,CY _ _ _ _ O];rfl
 simp only[toSX.H1,E4,z];refine⟨?_,?_,GJ _ _ _ _ _ gf (λi O=>rfl)⟩
 .rw[g4];exact⟨rfl,rfl⟩
 .rw[g6];exact⟨rfl,by simp only[Cd];rw[OJ (λi O=>RD auOm auOm)];rfl⟩
 simp only[toSX.H1,B0,AH,BY,AU] at hp;rcases hp with rfl|rfl|⟨i,O,rfl⟩
 .exact .inr ⟨auOm,by simp only;omega,rfl,rfl⟩
 .exact .inr ⟨auOm,by simp only;omega,rfl,rfl⟩
 .exact .inr ⟨by simp only;omega,by simp only;omega,by simp only[Jf];omega,rfl⟩
def toAX.ca(a:AP):List AV:=[.im (.agg (AP.c a))]
def toAX.H1(a:AP):An:=[(4,(true,.arr 137 3 (a.Tiles.map AA.c)))]
def toAX.row:A8:=A7 toAX.ca (λ_=>[]) 0 (λa=>a.Tiles.length<=1073741824) (λ_=>false) (λ_=> .agg [.own 4]) toAX.H1 5
def toAX.ok:AE 28 toAX.row:=by
 refine ow (tC toPX.ok tN) Tryz.func28 (exB:=λj=>j==4) (R:=λ_ r=>r= .agg [.own 4]) (λ_=>rfl)
  (λa=>by simp[toAX.ca,AP.c,A9,AV.bel,Ar,B5,Ca]) (λa p hp=> ?_) LeVq ?_
 rotate_left
 intro a z;simp only[Tryz.f28,toAX.ca,toAX.H1,AP.c];simp only[ZA,simprocAttr];refine A7.os a.Tiles [] z (λj=>by simp[Ai,hget]) rfl rfl ?_ ?_
 .simp only[ZA,simprocAttr,toPX.ca,Du]
 simp only[ZA,simprocAttr,toPX.H1]
 skip
 simp[toAX.H1] at hp;subst hp;exact .inr ⟨auOm,auOm,rfl,rfl⟩
def Wv{σ:Nat->Nat}{nx:Nat}(a:AI)(h: ∀j,σ j=nx+j):AW σ (toSX.H1 a)=(nx+4,(true,.arr 151 2 (a.Glues.map Ac.c)))::(nx+6,(true,.arrA 155 2 (Cx (nx+7) a.Tiles)))::AH (nx+7) (min a.Tiles.length 1048576) (BX a.Tiles):=by
 have z:(Cx 7 a.Tiles).map (AN σ)=Cx (nx+7) a.Tiles:=by
  simp only[Cx,GS];refine Iu λi Q=> ?_
  simp only[Function.comp,AN,AV.ren,h];rw[show nx+(7+i)=nx+7+i by omega]
 have O: ∀n,AW σ (AH 7 n (BX a.Tiles))=AH (nx+7) n (BX a.Tiles):=by
  intro n;simp only[AH]
  have: ∀(l:List Nat),AW σ (l.map λi=>(7+i,BX a.Tiles i))=l.map λi=>(nx+7+i,BX a.Tiles i):=by
   intro l;induction l with
   |nil=>rfl
   |cons i r ih=>
    simp only[Br,AW,h,BX,Ad.ren] at ih⊢;rw[ih,show nx+(7+i)=nx+7+i by omega]
  exact this _
 simp only[toSX.H1,AW,Ad.ren,z,O,h]
def toYX.ca(a:AM):List AV:=[.im (.agg (AM.c a))]
def toYX.r0(a:AM):AV:= .agg [.own 7,.own 9,.own 2000012,.im (.int .i64 a.Temperature)]
def toYX.H1(a:AM):An:=(7,(true,.arr 151 2 (a.Set.Glues.map Ac.c)))::(9,(true,.arrA 155 2 (Cx 10 a.Set.Tiles)))::(2000012,(true,.arr 137 3 (a.Seed.Tiles.map AA.c)))::AH 10 (min a.Set.Tiles.length 1048576) (BX a.Set.Tiles)
def toYX.pre(a:AM):Prop:=toSX.pre a.Set/\a.Seed.Tiles.length<=1073741824
def toYX.row:A8:=A7 toYX.ca (λ_=>[]) 0 toYX.pre (λ_=>false) toYX.r0 toYX.H1 2000013
def toYX.ok:AE 7 toYX.row:=by
 refine ow (tC toSX.ok (tC toAX.ok tN)) Tryz.func7 (exB:=λj=>Nat.ble 7 j) (R:=λa r=>r=toYX.r0 a) (λ_=>rfl)
  (λa=>by simp[toYX.ca,AM.c,A9,AV.bel,Ar,B5,Ca]) (λa p hp=> ?_) LeVq ?_
 rotate_left
 intro a Q;simp only[Tryz.f7,toYX.ca,AM.c];simp only[ZA,simprocAttr];obtain⟨Z,h2⟩:=Q;refine A7.os a.Set [] Z (λj=>by simp[Ai,hget]) rfl rfl ?_ ?_
 .simp only[ZA,simprocAttr,toSX.ca,AI.c,Du]
 have hσ: ∀j,B2 (IU []) 0 3 j=3+j:=λj=>by simp[B2]
 rw[Wv a.Set hσ];obtain⟨h0,h3,h4⟩:=Z;have z:min a.Set.Tiles.length 1048576=a.Set.Tiles.length:=auOm;rw[z];simp only[De,toSX.r0,AV.ren,AN,hσ];refine⟨?_,?_⟩
 .rw[BA.ok_nr,R8 _ _ _ _ (λp hp=> ?_)]
  .simp only[AV.bel,A9,Ar];rw[Ll _ _ _ (λi=>by simp[Ar,BX]),Lc _ _ _ auOm];simp
  .rcases B0.1 hp with rfl|hp
   .exact⟨by simp only;omega,by simp only;omega⟩
   rcases B0.1 hp with rfl|hp
   .exact⟨by simp only;omega,by simp only;omega⟩
   .obtain⟨i,O,rfl⟩:=BY.1 hp
    have:=AU.1 O
    exact⟨by simp only;omega,by simp only;omega⟩
 simp only[ZA,simprocAttr,Bb,OF,X6];refine A7.os a.Seed [] h2 (λj=>by simp[Ai,hget]) rfl rfl ?_ ?_
 .simp only[ZA,simprocAttr,toAX.ca,AP.c,Du]
 simp only[ZA,simprocAttr,toAX.H1,Bb,OF,X6,toYX.r0];obtain⟨H,hH⟩: ∃H,H=hget ((1,(true,Ad.cells 46 [AV.own 7,AV.own 9,AV.own 2000012,AV.im (D.int IntKind.i64 a.Temperature)]))::(2,(true,Ad.cells 46 [AV.own 7,AV.own 9,AV.own 2000012,AV.im (D.int IntKind.i64 a.Temperature)]))::
  (2000012,(true,Ad.arr 137 3 (List.map AA.c a.Seed.Tiles)))::(7,(true,Ad.arr 151 2 (List.map Ac.c a.Set.Glues)))::(9,(true,Ad.arrA 155 2 (Cx 10 a.Set.Tiles)))::
  (AH 10 a.Set.Tiles.length (BX a.Set.Tiles)++[(0,(true,Ad.cells 30 [AV.im (D.sl false 2 (List.map Ac.c a.Set.Glues)),AV.im (D.sl false 2 (List.map Tile.c a.Set.Tiles)),AV.im (D.sl false 3 (List.map AA.c a.Seed.Tiles)),AV.im (D.int IntKind.i64 a.Temperature)]))])):=⟨_,rfl⟩
 rw[<-hH];have g7:H 7=some (true,.arr 151 2 (a.Set.Glues.map Ac.c)):=by rw[hH];rfl
 have g9:H 9=some (true,.arrA 155 2 (Cx 10 a.Set.Tiles)):=by rw[hH];rfl
 have gs:H 2000012=some (true,.arr 137 3 (a.Seed.Tiles.map AA.c)):=by rw[hH];simp[hget]
 have gf: ∀i,i<a.Set.Tiles.length->H (10+i)=some (BX a.Set.Tiles i):=by
  intro i O;rw[hH];simp only[hget,AC _ _ (show 1≠10+i by omega),AC _ _ (show 2≠10+i by omega),AC _ _ (show 2000012≠10+i by omega),AC _ _ (show 7≠10+i by omega),AC _ _ (show 9≠10+i by omega),Dw];rw[J7,CY _ _ _ _ O];rfl
 simp only[toYX.H1,E4,z];refine⟨?_,?_,?_,GJ _ _ _ _ _ gf (λi O=>rfl)⟩
 .rw[g7];exact⟨rfl,rfl⟩
 .rw[g9];exact⟨rfl,by simp only[Cd];rw[OJ (λi O=>RD auOm auOm)];rfl⟩
 .rw[gs];exact⟨rfl,rfl⟩
 simp only[toYX.H1,B0,AH,BY,AU] at hp;rcases hp with rfl|rfl|rfl|⟨i,O,rfl⟩
 .exact .inr ⟨auOm,by simp only;omega,rfl,rfl⟩
 .exact .inr ⟨auOm,by simp only;omega,rfl,rfl⟩
 .exact .inr ⟨auOm,by simp only;omega,by simp only[Jf];omega,rfl⟩
 .exact .inr ⟨by simp only;omega,by simp only;omega,by simp only[Jf];omega,rfl⟩
def eqInt64SF.fv(a:(Cz)×(Cz)):Bool:=(λa b=>decide (a=b)) (a.1) (a.2)
def eqInt64SF.row:A8:=Cj (b2 (qS D4 Cq) (qS D4 Cq)) rB (λa=>True) eqInt64SF.fv
def eqInt64SF.ok:AE 13 eqInt64SF.row:=by
 refine EK tN Tryz.func13 ?_;intro a aa;simp only[Tryz.f13];simp only[ZA,simprocAttr,eqInt64SF.fv,D.sc,D.scs,AO];intro h1 h2;simp only[AL];refine⟨λO=> ?_,λO=> ?_⟩
 .have:a.1≠a.2:=λh=>O (by rw[h])
  simp[this]
 have O:a.1.length=a.2.length:=auOm;refine AY.old ⟨{k:Nat//k<=a.1.length/\a.1.take k=a.2.take k},λk=>⟨[(5,.im (.int .i64 k.1)),(4,.im (.bool false)),(0,.im (.sl false 1 (a.1.map Aj))),(1,.im (.sl false 1 (a.2.map Aj)))],[],0⟩,λk=>a.1.length - k.1,λk=>⟨by simp[ZG],BN _⟩,⟨⟨0,auSi⟩,by simp only[ZA,simprocAttr,sub]⟩,λk=> ?_⟩;obtain⟨k,Z,z⟩:=k;simp only[ZA,simprocAttr,D.sc,D.scs,AO,sub,AL];intro _;refine⟨λQ=>⟨Q,λx hx=>⟨auOm,λy hy=> ?_⟩⟩,λQ=> ?_⟩
 .obtain⟨g1,g2⟩:=Lh O Z z hx hy;exact⟨λh=>by simp[g2 h],λh=>FG Q h1 ⟨auOm,g1 (by simpa using h)⟩⟩
 .rw[BE auOm,BE auOm] at z;simp[z]
def eqSystemF.fv(a:AM×AM):Bool:=(λa b=>decide (a=b)) (a.1) (a.2)
def eqSystemF.row:A8:=Cj (b2 (qR AM.d_le) (qR AM.d_le)) rB (λa=>True) eqSystemF.fv
def eqSystemF.ok:AE 11 eqSystemF.row:=by
 refine EK (tC eqTileSet.ok (tC eqAssembly.ok tN)) Tryz.func11 ?_;intro a O;simp only[Tryz.f11];simp only[ZA,simprocAttr,AP.d,eqSystemF.fv,eqTileSet.q,eqTileSet.fv,eqAssembly.q,eqAssembly.fv,D.sc,D.scs,AO];obtain⟨⟨⟨x,Q⟩,⟨y⟩,u⟩,⟨⟨z,z1⟩,⟨w⟩,v⟩⟩:=a;simp only[AM.mk.injEq,AI.mk.injEq,AP.mk.injEq]
 grind
def mkAC.ca(a:AP×Int):List AV:=[.agg [.own 0],.im (.int .i64 a.2)]
def mkAC.H0(a:AP×Int):An:=[(0,(true,.arr 137 3 (a.1.Tiles.map AA.c)))]
def mkAC.H1(a:AP×Int):An:=[(0,(true,.arr 137 3 ((FE (pF a.2) a.1.Tiles.length).map AA.c)))]
def mkAC.row:A8:=A7 mkAC.ca mkAC.H0 1 (λa=>0<=a.2/\a.2+3*a.1.Tiles.length<=1099511627776) (λj=>j==0) (λa=> .im (.int .i64 (a.2+3*a.1.Tiles.length))) mkAC.H1 0
def mkAC.ok:AE 41 mkAC.row:=by
 refine ow (tC mkPC.ok tN) Tryz.func41 (exB:=λ_=>false) (R:=λa r=>r= .im (.int .i64 (a.2+3*a.1.Tiles.length))) (λ_=>rfl)
  (λa=>by simp[mkAC.ca,mkAC.H0,A9,AV.bel,Ar,B5,Ca,Ad.nms,Ai,hget]) (λa p hp=> ?_) LeVq ?_
 rotate_left
 intro a z;simp only[Tryz.f41,mkAC.ca,mkAC.H0,mkAC.H1];simp only[ZA,simprocAttr];refine A7.os (a.1.Tiles,a.2) [0] z (λj=> ?_) rfl rfl ?_ ?_
 .simp only[Ai,mkPC.H0,hget];by_cases O:j=0
  .subst O;simp
  .have:(0==j)=false:=by simpa using λh=>O h.symm
   rw[this];simp;omega
 .simp only[ZA,simprocAttr,Aq,mkPC.ca,mkPC.H0,Du,BF]
  try exact⟨rfl,rfl⟩
 simp only[ZA,simprocAttr,Aq,mkPC.H1,BF,CA]
 skip
 simp[mkAC.H1] at hp;subst hp;exact .inl ⟨auOm,rfl,rfl⟩
def nT(a:List Tile):Nat:=min a.length 1048576
def oB(a:List Tile)(i:Nat):Cz:=(a[i]?.map Tile.Sides).getD []
def Fb(a:List Tile)(k:Int):Nat->Int
 |0=>k
 |i+1=>Fb a k i+1+(oB a i).length
def G2(a:List Tile)(k:Int)(i j:Nat):List AV:=if j<i then [.im (.str (GZ (Fb a k j))),.own (2+j)] else Ku a j
def GA(a:List Tile)(k:Int)(i j:Nat):Ap:=(true,.arr 2 1 ((if j<i then Hy (Fb a k j+1) (oB a j).length else oB a j).map Aj))
def Eg(a:List Tile)(k:Int)(i:Nat):An:=(0,(true,.arrA 155 2 ((List.range (nT a)).map (G2 a k i))))::AH 2 (nT a) (GA a k i)
def mkLC.ca(a:List Tile×Int):List AV:=[.own 0,.im (.int .i64 a.2)]
def mkLC.H0(a:List Tile×Int):An:=Eg a.1 a.2 0
def mkLC.H1(a:List Tile×Int):An:=Eg a.1 a.2 (nT a.1)
def mkLC.r0(a:List Tile×Int):AV:= .im (.int .i64 (Fb a.1 a.2 a.1.length))
def mkLC.pre(a:List Tile×Int):Prop:=a.1.length<=1048576/\0<=a.2/\Fb a.1 a.2 a.1.length<=1099511627776
def mkLC.row:A8:=A7 mkLC.ca mkLC.H0 2000000 mkLC.pre (λ_=>true) mkLC.r0 mkLC.H1 0
def Hp(a:List Tile):nT a<=1048576:=L4 _ _
def gN(a:List Tile)(k:Int)(i j N:Nat)(h:2+j<N):A9 N (G2 a k i j)=true:=by
 simp only[G2]
 split<;>simp[Ku,A9,AV.bel,h]
def gD(a:List Tile)(k:Int)(i j:Nat):Av (G2 a k i j)=[2+j]:=by
 simp only[G2]
 split<;>simp[Ku,Av,AV.nms]
def uJ(a:List Tile)(k:Int)(i N:Nat)(h:2+nT a<N):Ar N (Eg a k i)=true:=by
 simp only[Eg,Ar];rw[Ll _ _ _ (λj=>by simp[Ar,GA]),Jg,CF];intro r O;obtain⟨j,z,rfl⟩:=BY.1 O;exact gN _ _ _ _ _ (by have:=AU.1 z;omega)
def mkLC.hbel(a:List Tile×Int):A9 2000000 (mkLC.ca a)=true:=by simp[mkLC.ca,A9,AV.bel]
def mkLC.hbH(a:List Tile×Int):Ar 2000000 (mkLC.H0 a)=true:=uJ _ _ _ _ (by have:=Hp a.1;omega)
def mkLC.hkH(a:List Tile×Int):B5 2000000 (mkLC.H0 a)=true:=by
 simp only[mkLC.H0,Eg,B5];rw[K2 _ _ _ _ (by have:=Hp a.1;omega)];simp
def Jt(a:List Tile)(k:Int)(i j:Nat):Ai (Eg a k i) j=true↔j=0\/(2<=j/\j<2+nT a):=by
 simp only[Ai,Eg,hget,jV];by_cases h0:j=0
 .subst h0;simp
 .have:(0==j)=false:=by simpa using λh=>h0 h.symm
  rw[this];simp only[Dw];split
  .rename_i h;simp[h]
  .rename_i h;simp[h0];omega
def mkLC.hnm(a:List Tile×Int):Ca (mkLC.H0 a) (mkLC.H0 a):=by
 simp only[mkLC.H0];have z: ∀m,(∃j,j<nT a.1/\m=2+j)->Ai (Eg a.1 a.2 0) m=true:=by
  rintro m ⟨j,O,rfl⟩;exact (Jt _ _ _ _).2 (.inr ⟨auOm,auOm⟩)
 conv=>arg 2;unfold Eg
 simp only[Ca];refine⟨λm hm=> ?_,gC λi Z m hm=>by simp[GA,Ad.nms] at hm⟩;simp only[Ad.nms] at hm;obtain⟨r,Q,hm⟩:=Fx.1 hm;obtain⟨j,O,rfl⟩:=BY.1 Q;rw[gD,Am] at hm;exact z m ⟨j,AU.1 O,hm⟩
def Om(a:List Tile)(k:Int)(h:0<=k): ∀i j,i<=j->0<=Fb a k i/\Fb a k i<=Fb a k j:=by
 have pos: ∀i,0<=Fb a k i:=by
  intro i;induction i with
  |zero=>exact h
  |succ i ih=>simp only[Fb];omega
 intro i j z;refine⟨pos i,?_⟩;induction j with
 |zero=>have:i=0:=auOm
        subst this;exact kV _
 |succ j ih=>
  by_cases c:i=j+1
  .subst c;exact kV _
  .have:=ih auOm
   simp only[Fb];omega
def XD(s:Az)(b n:Nat)(f:Nat->Ap):C5 s (AH b n f)= ∀i,i<n->hget s.h (b+i)=some (f i):=by
 have: ∀(l:List Nat),C5 s (l.map λi=>(b+i,f i))↔ ∀i∈l,hget s.h (b+i)=some (f i):=by
  intro l;induction l with
  |nil=>simp[C5]
  |cons i r ih=>simp only[Br,C5,ih,B0,ZdY]
 apply propext;rw[AH,this];simp only[AU]
def gH(a:List Tile)(k:Int)(i j:Nat)(h:j<nT a):hget (Eg a k i) (2+j)=some (GA a k i j):=by
 simp only[Eg,hget,AC _ _ (show 0≠2+j by omega),Dw];exact CY _ _ _ _ h
def mkLC.ok:AE 86 mkLC.row:=by
 refine ow (tC mkText.ok (tC mkIC.ok tN)) Tryz.func86 (exB:=λ_=>false) (R:=λa r=>r=mkLC.r0 a) (λ_=>rfl)
  (λa=>⟨mkLC.hbel a,mkLC.hbH a,mkLC.hkH a,mkLC.hnm a⟩) (λa p hp=> ?_) LeVq ?_
 rotate_left
 intro a aa;simp only[Tryz.f86,mkLC.ca];simp(maxSteps:=9^9)(disch:=omega)only[ZA,simprocAttr];obtain⟨l,k⟩:=a;obtain⟨h1,h2,h3⟩:=aa;simp only at h1 h2 h3;have hn:nT l=l.length:=by simp only[nT];omega
 simp only[Bb,mkLC.H0,mkLC.H1];refine AY.old ⟨{i:Nat//i<=l.length},λi=>⟨[(5,.im (.int .i64 i.1)),(4,.im (.int .i64 0)),(0,.own 0),(1,.im (.int .i64 (Fb l k i.1)))],Eg l k i.1,2000000⟩,λi=>l.length - i.1,λi=>⟨?_,auSi⟩,⟨⟨0,auSi⟩,?_⟩,λi=> ?_⟩
 .simp only[Az.good,Cl,AV.bel,Jg,CZ];rw[uJ _ _ _ _ auOm];simp only[Eg,B5];rw[K2 _ _ _ _ auOm];simp
 .simp only[sub];simp(maxSteps:=9^9)(disch:=omega)only[ZA,simprocAttr,Fb]
  conv=>arg 2;unfold Eg
  simp only[C5,XD];exact⟨rfl,λj z=>gH _ _ _ _ z⟩
 .obtain⟨i,ac⟩:=i;have hb:=Om l k h2 i l.length ac;have Z:((List.range (nT l)).map (G2 l k i)).length=l.length:=by simp[hn]
  simp only[Eg];simp(maxSteps:=9^9)(disch:=omega)only[ZA,simprocAttr,mkText.q,mkText.fv,AL,Z,Bb];intro _;refine⟨λhi=>⟨auOm,hi,hi,λx hx=> ?_⟩,λhi=> ?_⟩
  .obtain rfl:i=x:=by
    rw[ER auOm] at hx;exact AJ hx
   have em:G2 l k i i=[.im (.str ((l[i]?.map Tile.Name).getD ByteArray.empty)),.own (2+i)]:=by simp[G2,Ku]
   have O:((List.range (nT l)).map (G2 l k i)).set i [.im (.str (GZ (Fb l k i))),.own (2+i)]=(List.range (nT l)).map (G2 l k (i+1)):=by
    apply Rn;intro j;by_cases z:i=j
    .subst z;rw[Bo (by rw[Z];exact hi),Dp,ER auOm];simp[G2]
    .rw[DL z,Dp,Dp];cases hr:(List.range (nT l))[j]? with
     |none=>rfl
     |some y=>
      have hy:j=y:=by
       have hl:=(Bi.1 hr).1;simp at hl;rw[ER hl] at hr;exact AJ hr
      subst hy;simp only[CT,G2];by_cases c:j<i
      .rw[Bt c,Bt auOm]
      .rw[Be c,Be auOm]
   rw[em];simp only[Sv,Mv];have Q:i<((List.range (nT l)).map (G2 l k i)).length:=by rw[Z];exact hi
   have hw:IntKind.i64.wrap (Fb l k i+1)=Fb l k i+1:=AG auOm auOm;refine⟨auSi,?_,by rw[EU];exact Q,by rw[EU];exact Q,IH (Bo Q) ?_⟩
   .rw[O,CF];intro r hr;obtain⟨j,z,rfl⟩:=BY.1 hr;exact gN _ _ _ _ _ (by have:=AU.1 z;omega)
   simp(maxSteps:=9^9)(disch:=omega)only[ZA,simprocAttr,O,hw];have ab:=(Om l k h2 (i+1) l.length hi).2;simp only[Fb] at ab;refine⟨auOm,?_⟩;simp only[Bb];rw[KS 2 (nT l) (GA l k i) [0] auSi];refine A7.os (oB l i,Fb l k i+1) [2+i] ⟨by simp only;omega,by simp only;omega⟩ (λj=> ?_) rfl ?_ ?_ ?_
   .simp only[Ai,mkIC.H0,hget];by_cases z:j=0
    .subst z;simp
    .have:(0==j)=false:=by simpa using λh=>z h.symm
     rw[this];simp;omega
   .simp only[eD,Jg,Mw];omega
   .refine⟨by simp[mkIC.ca,AN,AV.ren,B2,IU],?_,trivial⟩;have e:B2 (IU [2+i]) 1 2000000 0=2+i:=by simp[B2,IU]
    rw[e]
    have:=gH l k i i auOm
    simp only[Eg,GA,hget,AC _ _ (show 0≠2+i by omega),Dw] at this;simp only[hget,AC _ _ (show 0≠2+i by omega),Dw];rw[CY _ _ _ _ auOm];simp[GA,Ad.ren]
   simp(maxSteps:=9^9)(disch:=omega)only[ZA,simprocAttr,Aq,mkIC.H1,sub,Bb,AC,J6,BF];refine⟨.inr auOm,⟨i+1,auOm⟩,by simp only;omega,⟨by rw[AG auOm auOm];simp only;omega,rfl⟩,rfl,?_⟩;rw[XD];intro j z;by_cases ag:j=i
   .subst ag;simp[hget,GA]
   .simp only[hget,AC _ _ (show 2+i≠2+j by omega),AC _ _ (show 0≠2+j by omega),Dw];rw[J2 _ _ _ auOm,CY _ _ _ _ z];simp only[GA];by_cases c:j<i
    .rw[Bt c,Bt auOm]
    .rw[Be c,Be auOm]
  .have ad:i=l.length:=auOm;subst ad;have kx: ∀j,j<nT l->Hl ((0,(true,Ad.arrA 155 2 (List.map (G2 l k 0) (List.range (nT l)))))::AH 2 (nT l) (GA l k 0)) 2000000 0 (λ_=>false) (2+j)=some (2+j):=by
    intro j z
    have:=(Jt l k 0 (2+j)).2 (.inr ⟨auOm,auOm⟩)
    simp only[Eg] at this;simp only[Hl,this,Gj,IJ]
   refine⟨?_,rfl,?_,?_⟩
   .have: ∀(h:HpT) (H:An),I2 h (λ_=>true) H:=by
     intro h H;induction H with
     |nil=>trivial
     |cons x r ih=>obtain⟨j,e⟩:=x;exact⟨trivial,ih⟩
    exact this _ _
   .rw[show G2 l k (nT l)=G2 l k l.length by rw[hn]];rw[Sn (g:=G2 l k l.length) (k:=G2 l k l.length) _ (λj z=> ?_)]
    .rfl
    .have af:=AU.1 z;simp only[G2,Bt (show j<l.length by omega),Aw,Bs,kx j af,kp]
   .refine GJ _ _ _ _ _ (λj z=> ?_) (λj z=>rfl);simp only[hget,AC _ _ (show 0≠2+j by omega),Dw];rw[CY _ _ _ _ z,hn]
 refine .inl ?_;have ah:p.1=0\/(2<=p.1/\p.1<2+nT a.1):=by
  simp only[mkLC.H1,Eg,B0,AH,BY,AU] at hp;rcases hp with rfl|⟨j,z,rfl⟩
  .exact .inl rfl
  .exact .inr ⟨by simp only;omega,by simp only;omega⟩
 have:=Hp a.1
 exact⟨auOm,rfl,(Jt _ _ _ _).2 ah⟩
def iN{H:An}{j:Nat}:j∈DF H↔Ai H j=true:=by
 induction H with
 |nil=>simp[DF,Ai,hget]
 |cons e r ih=>
  obtain⟨i,e⟩:=e;simp only[DF,B0,Ai,hget];by_cases z:i=j
  .subst z;simp
  .have:(i==j)=false:=by simpa using z
   rw[this];simp only[Dw];exact⟨λh=>ih.1 (h.resolve_left λh=>z h.symm),λh=> .inr (ih.2 h)⟩
mutual
def X9{n:Nat}: ∀x:AV,(∀m∈x.nms,m<n)->x.bel n=true
 | .any,_=>rfl
 | .im _,_=>rfl
 | .agg z,h=>by simp only[AV.nms] at h;simp only[AV.bel];exact KR z h
 | .tup z,h=>by simp only[AV.nms] at h;simp only[AV.bel];exact KR z h
 | .ptr o _,h=>by simp only[AV.bel,Mw];exact h o (by simp[AV.nms])
 | .eptr o _ _,h=>by simp only[AV.bel,Mw];exact h o (by simp[AV.nms])
 | .own o,h=>by simp only[AV.bel,Mw];exact h o (by simp[AV.nms])
 | .mp o,h=>by simp only[AV.bel,Mw];exact h o (by simp[AV.nms])
 | .ch o,h=>by simp only[AV.bel,Mw];exact h o (by simp[AV.nms])
 | .it o,h=>by simp only[AV.bel,Mw];exact h o (by simp[AV.nms])
 | .osl o _ _,h=>by simp only[AV.bel,Mw];exact h o (by simp[AV.nms])
 | .clo _ a c,h=>by
   simp only[AV.nms,BO] at h;simp only[AV.bel,KR a λm hm=>h m (.inl hm),KR c λm hm=>h m (.inr hm),Pg]
def KR{n:Nat}: ∀xs:List AV,(∀m∈Av xs,m<n)->A9 n xs=true
 |[],_=>rfl
 |x::r,h=>by
  simp only[Av,BO] at h;simp only[A9,X9 x λm hm=>h m (.inl hm),KR r λm hm=>h m (.inr hm),Pg]
end
def X5{n:Nat}: ∀H:An,(∀p∈H,∀m∈p.2.2.nms,m<n)->Ar n H=true
 |[],_=>rfl
 |(i,(Q,e))::r,h=>by
  have z:=h _ (CP ..);have ih:=X5 r λp hp=>h p (Ah _ hp)
  cases e with
  |cells T O=>simp only[Ar,ih,Jg];exact KR O (by simpa[Ad.nms] using z)
  |arrA T k rows=>
   simp only[Ar,ih,Jg,CF];refine λq hq=>KR q λm hm=>z m ?_
   simp only[Ad.nms];exact Fx.2 ⟨q,hq,hm⟩
  |_=>simp only[Ar,ih]
mutual
def XC(σ:Nat->Nat): ∀x:AV,(x.ren σ).nms=x.nms.map σ
 | .any=>rfl
 | .im _=>rfl
 | .agg z=>by simp only[AV.ren,AV.nms];exact KU σ z
 | .tup z=>by simp only[AV.ren,AV.nms];exact KU σ z
 | .ptr o _=>rfl
 | .eptr o _ _=>rfl
 | .own o=>rfl
 | .mp o=>rfl
 | .ch o=>rfl
 | .it o=>rfl
 | .osl o _ _=>rfl
 | .clo _ a c=>by simp only[AV.ren,AV.nms,KU σ a,KU σ c,Dj]
def KU(σ:Nat->Nat): ∀xs:List AV,Av (AN σ xs)=(Av xs).map σ
 |[]=>rfl
 |x::r=>by simp only[AN,Av,XC σ x,KU σ r,Dj]
end
def Qafh(σ:Nat->Nat)(e:Ad): ∀m∈(e.ren σ).nms,∃j∈e.nms,m=σ j:=by
 intro m hm;cases e with
 |cells T Q=>
  simp only[Ad.ren,Ad.nms,KU,BY] at hm⊢;obtain⟨j,z,rfl⟩:=hm;exact⟨j,z,rfl⟩
 |arrA T k rows=>
  simp only[Ad.ren,Ad.nms] at hm⊢;obtain⟨r,O,hm⟩:=Fx.1 hm;obtain⟨q,hq,rfl⟩:=BY.1 O;rw[KU,BY] at hm;obtain⟨j,z,rfl⟩:=hm;exact⟨j,Fx.2 ⟨q,hq,z⟩,rfl⟩
 |_=>simp[Ad.ren,Ad.nms] at hm
def gL{σ:Nat->Nat}{N:Nat}(H:An)(h: ∀p∈H,∀m∈p.2.2.nms,σ m<N):Ar N (AW σ H)=true:=by
 refine X5 _ ?_;induction H with
 |nil=>intro p hp;cases hp
 |cons x r ih=>
  obtain⟨i,O,e⟩:=x;intro p hp m hm;rcases B0.1 hp with rfl|hp
  .obtain⟨j,z,rfl⟩:=Qafh σ e m hm;exact h _ (CP ..) j z
  .exact ih (λp hp=>h p (Ah _ hp)) p hp m hm
def A7.tau{A:Type}{ca:A->List AV}{H0:A->An}{k:Nat}{pre:A->Prop}{klB:Nat->Bool}{r0:A->AV}{H1:A->An}{args:List AV}{tm:TmT}{h:An}{nx:Nat}{dst:Option Nat}{go:Az->Prop}(a:A)(τ:Nat->Nat)(ac:pre a)(ai: ∀j,Ai (H0 a) j=true->klB j=true)
 (hd: ∀j,Ai (H0 a) j=true->j<k/\τ j<nx)(aa: ∀i j,Ai (H0 a) i=true->Ai (H0 a) j=true->τ i=τ j->i=j)
 (hcl: ∀p∈H1 a,Ai (H0 a) p.1=true/\ ∀m∈p.2.2.nms,Ai (H0 a) m=true)
 (hx:args=AN (B2 τ k nx) (ca a)/\Du (hget h) (B2 τ k nx) (H0 a))
 (hb: ∀m∈(r0 a).nms,Ai (H0 a) m=true)
 (ag: ∀HH:An,(∀j e,hget (H1 a) j=some e->hget HH (τ j)=some (e.1,e.2.ren (B2 τ k nx)))->(∀m,(∀j,Ai (H0 a) j=true->τ j≠m)->hget HH m=hget h m)->go ((⟨tm,HH,nx⟩:Az).put dst ((r0 a).ren (B2 τ k nx)))):
 A7 ca H0 k pre klB r0 H1 0 args (hget h) nx (De go ⟨tm,h,nx⟩ dst):=by
 have hσ: ∀j,Ai (H0 a) j=true->B2 τ k nx j=τ j:=λj z=>Bt (hd j z).1
 have ah: ∀i j,Ai (H0 a) i=true->Ai (H0 a) j=true->B2 τ k nx i=B2 τ k nx j->i=j:=λi j hi z h=>aa i j hi z (by rwa [hσ i hi,hσ j z] at h)
 have O: ∀m,m∈(DF (H0 a)).map τ↔ ∃j,Ai (H0 a) j=true/\τ j=m:=λm=>by simp only[BY,iN]
 have Z: ∀p∈H1 a,Ai (H0 a) p.1=true:=λp hp=>(hcl p hp).1
 refine⟨a,τ,(DF (H0 a)).map τ,(DF (H0 a)).map τ,ac,hx.1,hx.2,⟨aa,λj z=>(hd j z).2,λj z=>(O _).2 ⟨j,z,rfl⟩,λm hm=> ?_,λj z _=>(O _).2 ⟨j,z,rfl⟩⟩,?_⟩
 .obtain⟨j,z,rfl⟩:=(O m).1 hm;exact⟨j,z,ai j z,rfl⟩
 refine⟨?_,?_⟩
 .have ad:((r0 a).ren (B2 τ k nx)).bel nx=true:=by
   refine X9 _ λm hm=> ?_
   rw[XC,BY] at hm;obtain⟨j,z,rfl⟩:=hm;rw[hσ j (hb j z)];exact (hd j (hb j z)).2
  have af:Ar nx (AW (B2 τ k nx) (H1 a))=true:=gL _ λp hp m hm=>by
   have:=(hcl p hp).2 m hm
   rw[hσ m this];exact (hd m this).2
  rw[BA.ok_nr,lC,ad,af,CZ,CZ]
  have: ∀H:An,(∀p∈H,Ai (H0 a) p.1=true)->GO ((DF (H0 a)).map τ) nx 0 (AW (B2 τ k nx) H)=true:=by
   intro H;induction H with
   |nil=>intro _;rfl
   |cons e r ih=>
    obtain⟨i,mu,e⟩:=e;intro hp;have Q:=hp _ (CP ..);simp only at Q;simp only[AW,GO,I8,B1,IK,Jf,Mw];refine⟨.inr ⟨?_,?_⟩,ih λp h=>hp p (Ah _ h)⟩
    .rw[GF,hσ i Q];exact (O _).2 ⟨i,Q,rfl⟩
    .rw[hσ i Q];exact (hd i Q).2
  exact this _ Z
 rw[Az.app_nr,lC];refine ag _ (λj e he=> ?_) (λm hm=> ?_)
 .have z:Ai (H0 a) j=true:=by
   have: ∀H:An,hget H j=some e-> ∃p∈H,p.1=j:=by
    intro H;induction H with
    |nil=>intro h;cases h
    |cons x r ih=>
     obtain⟨i,x⟩:=x;intro h;by_cases ab:i=j
     .exact⟨_,CP ..,ab⟩
     .have hb:(i==j)=false:=by simpa using ab
      simp only[hget,hb,Dw] at h;obtain⟨p,Q,h2⟩:=ih h;exact⟨p,Ah _ Q,h2⟩
   obtain⟨p,Q,rfl⟩:=this _ he;exact Z p Q
  rw[J7,<-hσ j z,Qv5 (D:=λj=>Ai (H0 a) j=true) ah (H1 a) Z j z,he];rfl
 .rw[J7];cases hq:hget (AW (B2 τ k nx) (H1 a)) m with
  |some e=>
   obtain⟨j,e0,Q,h2,_⟩:=qZ hq;have z:=Z _ Q;rw[hσ j z] at h2;exact absurd h2 (hm j z)
  |none=>
   rw[Se,Be]
   .rfl
   .rw[GF];intro h;obtain⟨j,z,h2⟩:=(O m).1 h;exact hm j z h2
def XE{go:Az->Prop}{tm:TmT}{h:An}{nx:Nat}{dst:Option Nat}{σ:Nat->Nat}(hσ: ∀j,σ j=nx+j){r0:AV}{H1:An}{cnt:Nat}{u kl:List Nat}(aa:kl=[])
 (hcl: ∀p∈H1,p.1<cnt/\ ∀m∈p.2.2.nms,m<cnt)(hb: ∀m∈r0.nms,m<cnt)
 (Z: ∀z:An,(∀j e,hget H1 j=some e->hget z (nx+j)=some (e.1,e.2.ren σ))->(∀m,m<nx->hget z m=hget h m)->go ((⟨tm,z,nx+cnt⟩:Az).put dst (r0.ren σ))):
 De go ⟨tm,h,nx⟩ dst (r0.ren σ) {use:=u,kill:=kl,new:=AW σ H1,cnt:=cnt}:=by
 subst aa;refine⟨?_,?_⟩
 .have O:(r0.ren σ).bel (nx+cnt)=true:=by
   refine X9 _ λm hm=> ?_
   rw[XC,BY] at hm;obtain⟨j,hj,rfl⟩:=hm
   have:=hb j hj
   rw[hσ];omega
  have Q:Ar (nx+cnt) (AW σ H1)=true:=gL _ λp hp m hm=>by
   have:=(hcl p hp).2 m hm
   rw[hσ];omega
  rw[BA.ok_nr,O,Q,CZ,CZ];refine R8 _ _ _ _ λp hp=> ?_
  have: ∀H:An,(∀p∈H,p.1<cnt)-> ∀p∈AW σ H,nx<=p.1/\p.1<nx+cnt:=by
   intro H;induction H with
   |nil=>intro _ p hp;cases hp
   |cons x r ih=>
    obtain⟨i,mu,e⟩:=x;intro hx p hp;have h1:=hx _ (CP ..);simp only at h1;simp only[AW,B0] at hp;rcases hp with rfl|hp
    .simp only;rw[hσ];omega
    .exact ih (λp h=>hx p (Ah _ h)) p hp
  exact this _ (λp hp=>(hcl p hp).1) p hp
 rw[Az.app_nr,Bb];refine Z _ (λj e he=> ?_) (λm hm=> ?_)
 .rw[J7,<-hσ j,uG (λi j h=>by rw[hσ,hσ] at h;omega),he];rfl
 .rw[J7];cases hq:hget (AW σ H1) m with
  |some e=>
   obtain⟨j,e0,_,h2,_⟩:=qZ hq;rw[hσ] at h2;omega
  |none=>rfl
def A7.nw{A:Type}{ca:A->List AV}{H0:A->An}{pre:A->Prop}{klB:Nat->Bool}{r0:A->AV}{H1:A->An}{cnt:Nat}{args:List AV}{tm:TmT}{h:An}{nx:Nat}{dst:Option Nat}{go:Az->Prop}(a:A)(z:pre a)(h0:H0 a=[])
 (hx:args=AN (λj=>nx+j) (ca a))(hcl: ∀p∈H1 a,p.1<cnt/\ ∀m∈p.2.2.nms,m<cnt)(Z: ∀m∈(r0 a).nms,m<cnt)
 (Q: ∀O:An,(∀j e,hget (H1 a) j=some e->hget O (nx+j)=some (e.1,e.2.ren λj=>nx+j))->(∀m,m<nx->hget O m=hget h m)->go ((⟨tm,O,nx+cnt⟩:Az).put dst ((r0 a).ren λj=>nx+j))):
 A7 ca H0 0 pre klB r0 H1 cnt args (hget h) nx (De go ⟨tm,h,nx⟩ dst):=by
 have e:B2 (IU []) 0 nx=λj=>nx+j:=funext λj=>by simp[B2]
 refine A7.os a [] z (λj=>by rw[h0];simp[Ai,hget]) rfl rfl ⟨by rw[e];exact hx,by rw[h0];trivial⟩ ?_;rw[e];exact XE (λ_=>rfl) rfl hcl Z Q
def EM.nw{A:Type}{ar:List PK->Option A}{pre:A->Prop}{r0:A->AV}{H1:A->An}{cnt:Nat}{args:List AV}{tm:TmT}{h:An}{nx:Nat}{dst:Option Nat}{go:Az->Prop}(ps:List PK)(Z:Co (hget h) args=some ps)(a:A)(ha:ar ps=some a)(z:pre a)
 (hcl: ∀p∈H1 a,p.1<cnt/\ ∀m∈p.2.2.nms,m<cnt)(hb: ∀m∈(r0 a).nms,m<cnt)
 (Q: ∀O:An,(∀j e,hget (H1 a) j=some e->hget O (nx+j)=some (e.1,e.2.ren λj=>nx+j))->(∀m,m<nx->hget O m=hget h m)->go ((⟨tm,O,nx+cnt⟩:Az).put dst ((r0 a).ren λj=>nx+j))):
 EM ar pre r0 H1 cnt args (hget h) nx (De go ⟨tm,h,nx⟩ dst):=by
 have e:B2 (λj=>j) 0 nx=λj=>nx+j:=funext λj=>by simp[B2]
 unfold EM;rw[Z];simp only[Jw,ha,DM];rw[e];exact⟨z,XE (λ_=>rfl) rfl hcl hb Q⟩
def vF.call{A:Type}{ar:List PK->Option A}{pre:A->Prop}{re:A->D}{args:List AV}{tm:TmT}{h:An}{nx:Nat}{dst:Option Nat}{go:Az->Prop}(ps:List PK)(Q:Co (hget h) args=some ps)(a:A)(Z:ar ps=some a)(z:pre a)
 (O:go ((⟨tm,h,nx⟩:Az).put dst (.im (re a)))):Lj ar pre re args (hget h) nx (De go ⟨tm,h,nx⟩ dst):=by
 unfold Lj;rw[Q];simp only[RV,Z,DM];refine⟨z,?_,?_⟩
 .rw[BA.ok_nr];simp[AV.bel,Ar,GO]
 .rw[Az.app_nr,Bb,lC];exact O
def I3(G:List Ac)(rows:List (List AV))(n:Nat)(f:Nat->Ap):An:=(0,(true,.arr 151 2 (G.map Ac.c)))::(1,(true,.arrA 155 2 rows))::AH 2 n f
def Ju(G:List Ac)(rows:List (List AV))(n:Nat)(f:Nat->Ap)(j:Nat):Ai (I3 G rows n f) j=true↔j<2+n:=by
 simp only[Ai,I3,hget,jV];by_cases h0:j=0
 .subst h0;simp;omega
 by_cases z:j=1
 .subst z;simp;omega
 rw[AC _ _ (λh=>h0 h.symm),AC _ _ (λh=>z h.symm)];simp only[Dw];split
 .rename_i h;simp;omega
 .rename_i h;simp;omega
def oJ{G:List Ac}{rows:List (List AV)}{n:Nat}{f:Nat->Ap}{p:Nat×Ap}(hp:p∈I3 G rows n f):p.1<2+n:=by
 simp only[I3,B0,AH,BY,AU] at hp;rcases hp with rfl|rfl|⟨j,z,rfl⟩<;>simp only<;>omega
def DT(a:List Tile)(k:Int)(i:Nat):List (List AV):=(List.range (nT a)).map (G2 a k i)
def Wp(a:List Tile)(k:Int)(i N:Nat)(h:2+nT a<=N):(DT a k i).all (A9 N)=true:=by
 rw[CF];intro r O;obtain⟨j,z,rfl⟩:=BY.1 O;exact gN _ _ _ _ _ (by have:=AU.1 z;omega)
def cG(a:List Tile)(k:Int)(i j:Nat)(σ:Nat->Nat)(h:σ (2+j)=2+j):AN σ (G2 a k i j)=G2 a k i j:=by
 simp only[G2]
 split<;>simp[Ku,AN,AV.ren,h]
def X4(a:List Tile)(k:Int)(i:Nat)(σ:Nat->Nat)(h: ∀j,j<nT a->σ (2+j)=2+j):(DT a k i).map (AN σ)=DT a k i:=by
 rw[DT,GS];exact Iu λj z=>cG _ _ _ _ _ (h j (AU.1 z))
def Oh{G:List Ac}{a:List Tile}{k:Int}{i N:Nat}{f:Nat->Ap}(h:2+nT a<=N)(hf: ∀i,Ar N [(2+i,f i)]=true):Ar N (I3 G (DT a k i) (nT a) f)=true:=by
 simp only[I3,Ar];rw[Ll _ _ _ hf,Wp _ _ _ _ h];rfl
def uI{G:List Ac}{a:List Tile}{k:Int}{i N:Nat}{f:Nat->Ap}(h:2+nT a<=N):B5 N (I3 G (DT a k i) (nT a) f)=true:=by
 simp only[I3,B5];rw[K2 _ _ _ _ auOm];simp;omega
def gR{G:List Ac}{a:List Tile}{k:Int}{i:Nat}{f:Nat->Ap}(hf: ∀j,(f j).2.nms=[]){p:Nat×Ap}(hp:p∈I3 G (DT a k i) (nT a) f){m:Nat}(hm:m∈p.2.2.nms):m<2+nT a:=by
 simp only[I3,B0,AH,BY,AU] at hp;rcases hp with rfl|rfl|⟨j,z,rfl⟩
 .simp[Ad.nms] at hm
 .simp only[Ad.nms] at hm;obtain⟨r,O,hm⟩:=Fx.1 hm;obtain⟨j,z,rfl⟩:=BY.1 O;rw[gD,Am] at hm
  have:=AU.1 z
  omega
 .rw[hf] at hm;cases hm
def RB{H0:An}: ∀{H:An},(∀p∈H,∀m∈p.2.2.nms,Ai H0 m=true)->Ca H0 H
 |[],_=>trivial
 |(_,(_,_))::r,h=>⟨h _ (CP ..),RB λp hp=>h p (Ah _ hp)⟩
def EJ(a:AI×Int):Int:=a.2+2*a.1.Glues.length
def mkTS.ca(a:AI×Int):List AV:=[.agg [.own 0,.own 1],.im (.int .i64 a.2)]
def mkTS.H0(a:AI×Int):An:=I3 a.1.Glues (DT a.1.Tiles (EJ a) 0) (nT a.1.Tiles) (GA a.1.Tiles (EJ a) 0)
def mkTS.H1(a:AI×Int):An:=I3 (FE (gF a.2) a.1.Glues.length) (DT a.1.Tiles (EJ a) (nT a.1.Tiles)) (nT a.1.Tiles) (GA a.1.Tiles (EJ a) (nT a.1.Tiles))
def mkTS.r0(a:AI×Int):AV:= .im (.int .i64 (Fb a.1.Tiles (EJ a) a.1.Tiles.length))
def mkTS.pre(a:AI×Int):Prop:=0<=a.2/\a.1.Tiles.length<=1048576/\Fb a.1.Tiles (EJ a) a.1.Tiles.length<=1099511627776
def mkTS.row:A8:=A7 mkTS.ca mkTS.H0 2000000 mkTS.pre (λ_=>true) mkTS.r0 mkTS.H1 0
def mkTS.hbel(a:AI×Int):A9 2000000 (mkTS.ca a)=true:=by simp[mkTS.ca,A9,AV.bel]
def mkTS.hbH(a:AI×Int):Ar 2000000 (mkTS.H0 a)=true:=Oh (by have:=Hp a.1.Tiles;omega) (λi=>by simp[Ar,GA])
def mkTS.hkH(a:AI×Int):B5 2000000 (mkTS.H0 a)=true:=uI (by have:=Hp a.1.Tiles;omega)
def mkTS.hnm(a:AI×Int):Ca (mkTS.H0 a) (mkTS.H0 a):=
 RB λp hp m hm=>(Ju _ _ _ _ _).2 (gR (λj=>by simp[GA,Ad.nms]) hp hm)
def RA(h:HpT): ∀(H:An),I2 h (λ_=>true) H
 |[]=>trivial
 |(j,e)::r=>⟨trivial,RA h r⟩
def XL{H0:An}{k cnt:Nat}{exB:Nat->Bool}{j:Nat}(h:Ai H0 j=true):Hl H0 k cnt exB j=some j:=by
 simp only[Hl,h,Gj,IJ]
def cF{h:HpT}{kx:Nat->Option Nat}{m:Nat}{a:List Tile}{k:Int}{i j:Nat}(z:kx (2+j)=some (2+j)):Aw (Bs h kx (m+1)) (G2 a k i j)=some (G2 a k i j):=by
 simp only[G2]
 split<;>simp only[Ku,Aw,Bs,z,kp]
def uH{h:HpT}{kx:Nat->Option Nat}{m:Nat}{a:List Tile}{k:Int}{i:Nat}(O: ∀j,j<nT a->kx (2+j)=some (2+j)):Aw (Aw (Bs h kx (m+1))) (DT a k i)=some (DT a k i):=
 Sn _ λj z=>cF (O j (AU.1 z))
def mkLC.hcl(a:List Tile×Int): ∀p∈mkLC.H1 a,Ai (mkLC.H0 a) p.1=true/\ ∀m∈p.2.2.nms,Ai (mkLC.H0 a) m=true:=by
 intro p hp;simp only[mkLC.H0,Jt];simp only[mkLC.H1,Eg,B0,AH,BY,AU] at hp;rcases hp with rfl|⟨j,z,rfl⟩
 .refine⟨.inl rfl,λm hm=> ?_⟩;simp only[Ad.nms] at hm;obtain⟨r,O,hm⟩:=Fx.1 hm;obtain⟨j,z,rfl⟩:=BY.1 O;rw[gD,Am] at hm
  have:=AU.1 z
  exact .inr ⟨auOm,auOm⟩
 .exact⟨.inr ⟨by simp only;omega,by simp only;omega⟩,λm hm=>by simp[GA,Ad.nms] at hm⟩
def mkTS.hcl(a:AI×Int): ∀p∈mkTS.H1 a,Ai (mkTS.H0 a) p.1=true/\ ∀m∈p.2.2.nms,Ai (mkTS.H0 a) m=true:=
 λp hp=>⟨(Ju _ _ _ _ _).2 (oJ hp),λm hm=>(Ju _ _ _ _ _).2 (gR (λj=>by simp[GA,Ad.nms]) hp hm)⟩
def mkTS.ok:AE 40 mkTS.row:=by
 refine ow (tC mkGC.ok (tC mkLC.ok tN)) Tryz.func40 (exB:=λ_=>false) (R:=λa r=>r=mkTS.r0 a) (λ_=>rfl)
  (λa=>⟨mkTS.hbel a,mkTS.hbH a,mkTS.hkH a,mkTS.hnm a⟩) (λa p hp=> ?_) LeVq ?_
 rotate_left
 intro a Z;simp only[Tryz.f40,mkTS.ca];simp only[ZA,simprocAttr];obtain⟨S,k⟩:=a;obtain⟨h1,h2,h3⟩:=Z;simp only at h1 h2 h3;have hk:=Om S.Tiles (EJ (S,k)) (by simp only[EJ];omega) 0 S.Tiles.length auOm;have Q:EJ (S,k)<=1099511627776:=by simp only[Fb] at hk;omega
 simp only[EJ] at Q;have hn:=Hp S.Tiles;simp only[Bb,mkTS.H0,I3];refine A7.os (S.Glues,k) [0] ⟨h1,Q⟩ (λj=> ?_) rfl rfl ?_ ?_
 .simp only[Ai,mkGC.H0,hget];by_cases z:j=0
  .subst z;simp
  .have:(0==j)=false:=by simpa using λh=>z h.symm
   rw[this];simp;omega
 .simp only[ZA,simprocAttr,Aq,mkGC.ca,mkGC.H0,Du,BF]
  try exact⟨rfl,rfl⟩
 simp only[ZA,simprocAttr,Aq,mkGC.H1,Bb,BF,CA];rw[KS 2 (nT S.Tiles) (GA S.Tiles (EJ (S,k)) 0) [0] auSi];have hσ: ∀j,j<nT S.Tiles->B2 (λj=>if j=0 then 1 else j) 2000000 2000001 (2+j)=2+j:=λj z=>by
  simp only[B2];rw[Bt auOm,Be auOm]
 have hσ0:B2 (λj=>if j=0 then 1 else j) 2000000 2000001 0=1:=rfl;refine A7.tau (S.Tiles,EJ (S,k)) (λj=>if j=0 then 1 else j) ⟨h2,by simp only[EJ];omega,h3⟩ (λ_ _=>rfl) (λj z=> ?_) (λi j O z h=> ?_) (mkLC.hcl _) ⟨?_,?_⟩ (by simp[mkLC.r0,AV.nms]) (λHH hH1 aa=> ?_)
 .have z:=(Jt _ _ _ _).1 z;simp only at z⊢
  split<;>omega
 .have O:=(Jt _ _ _ _).1 O;have z:=(Jt _ _ _ _).1 z;simp only at O z h;split at h<;>split at h<;>omega
 .simp only[mkLC.ca,AN,AV.ren,hσ0,EJ]
 .simp only[mkLC.H0,Eg,Du,hσ0,Ad.ren];refine⟨?_,Jv λi O=> ?_⟩
  .simp only[hget,AC _ _ (show 0≠1 by omega),AC _ _ (show 2000000≠1 by omega),Dw,K7,IJ];rw[<-DT,X4 _ _ _ _ hσ]
  .rw[hσ i O];simp only[hget,AC _ _ (show 0≠2+i by omega),AC _ _ (show 2000000≠2+i by omega),AC _ _ (show 1≠2+i by omega),Dw];rw[CY _ _ _ _ O];rfl
 have g0:hget HH 0=some (true,.arr 151 2 ((FE (gF k) S.Glues.length).map Ac.c)):=by
  rw[aa 0 (λj z=>by
   have z:=(Jt _ _ _ _).1 z;simp only at z⊢
   split<;>omega)]
  rfl
 have g1:hget HH 1=some (true,.arrA 155 2 (DT S.Tiles (EJ (S,k)) (nT S.Tiles))):=by
  have g:=hH1 0 _ rfl;rw[Bt rfl] at g;rw[g];simp only[Ad.ren];rw[<-DT,X4 _ _ _ _ hσ]
 have g2: ∀j,j<nT S.Tiles->hget HH (2+j)=some (GA S.Tiles (EJ (S,k)) (nT S.Tiles) j):=λj z=>by
  have:=hH1 (2+j) _ (gH _ _ _ j z)
  simp only[Be (show 2+j≠0 by omega)] at this;rw[this];rfl
 simp only[mkLC.r0,AV.ren];simp only[ZA,simprocAttr,mkTS.r0,EJ,Bb,mkTS.H1,I3];have ab: ∀j,j<nT S.Tiles->Ai ((0,(true,Ad.arr 151 2 (List.map Ac.c S.Glues)))::(1,(true,Ad.arrA 155 2 (DT S.Tiles (k+2*S.Glues.length) 0)))::AH 2 (nT S.Tiles) (GA S.Tiles (k+2*S.Glues.length) 0)) (2+j)=true:=λj z=>(Ju _ _ _ _ _).2 auOm
 refine⟨RA _ _,?_,?_,?_⟩
 .rw[g0];exact⟨rfl,rfl⟩
 .rw[g1];refine⟨rfl,?_⟩;simp only[Cd];rw[uH (λj z=>XL (ab j z))];rfl
 .exact GJ _ _ _ _ _ (λj z=>g2 j z) (λj z=>rfl)
 obtain⟨q1,_⟩:=mkTS.hcl _ p hp
 have:=(Ju _ _ _ _ _).1 q1
 have:=Hp a.1.Tiles
 exact .inl ⟨auOm,rfl,q1⟩
def Rd{n:Nat}{l:Int}(h:0<=Cb n l):(n:Int)<=l/\Cb n l<=l/\0<=l:=by
 simp only[Cb] at h⊢;split at h
 .omega
 .rename_i c;rw[Be c];omega
def Qu5: ∀(a:List Tile) (l:Int),0<=l->l<=1048576->0<=FI GD a l-> ∀x∈a,x.Sides.length<=1073741824
 |[],_,_,_,_=>by intro x z;cases z
 |y::r,l,h0,Z,h=>by
  simp only[FI] at h;split at h
  .omega
  .rename_i c;have O:0<=GD y l:=auOm;have Q:0<=Cb y.Name.size l:=by
    simp only[GD] at O;split at O
    .omega
    .omega
   have e:GD y l=Cb y.Sides.length (Cb y.Name.size l):=by
    simp only[GD];rw[Be auOm]
   rw[e] at O h;obtain⟨a1,a2,a3⟩:=Rd O;obtain⟨b1,b2,b3⟩:=Rd Q;intro x z;rcases B0.1 z with rfl|z
   .omega
   .exact Qu5 r _ O auOm h x z
def Wk{s:AI}{l:Int}(Z: -1<=l)(aa:l<=1048576)(h:0<=Rf s l):VS s:=by
 have hg:=Qo1 s.Glues l Z;simp only[Rf] at h;split at h
 .omega
 rename_i c;have z:0<=Io s.Glues l:=auOm;have Q:0<=Cb s.Glues.length l:=by
  simp only[Io] at z;split at z
  .omega
  .omega
 have O:0<=Cb s.Tiles.length (Io s.Glues l):=by
  simp only[Mn] at h;split at h
  .omega
  .omega
 have e:Mn s.Tiles (Io s.Glues l)=FI GD s.Tiles (Cb s.Tiles.length (Io s.Glues l)):=by
  simp only[Mn];rw[Be auOm]
 rw[e] at h;obtain⟨a1,a2,a3⟩:=Rd Q;obtain⟨b1,b2,b3⟩:=Rd O;exact⟨auOm,auOm,Qu5 s.Tiles _ O auOm h⟩
def Wl{s:AM}{l:Int}(O: -1<=l)(z:l<=1048576)(h:0<=Xb s l):fS s:=by
 have Q:=Qxk s.Set l O;simp only[Xb] at h;split at h
 .omega
 rename_i c;obtain⟨a1,a2,a3⟩:=Rd h;exact⟨Wk O z auOm,auOm⟩
def syK(a:AM×Int):Int:=Fb a.1.Set.Tiles (EJ (a.1.Set,a.2)) a.1.Set.Tiles.length
def mkSy.ca(a:AM×Int):List AV:=[.agg [.own 0,.own 1,.own 2000000,.im (.int .i64 a.1.Temperature)],.im (.int .i64 a.2)]
def mkSy.H0(a:AM×Int):An:=(2000000,(true,.arr 137 3 (a.1.Seed.Tiles.map AA.c)))::mkTS.H0 (a.1.Set,a.2)
def mkSy.H1(a:AM×Int):An:=(2000000,(true,.arr 137 3 ((FE (pF (syK a)) a.1.Seed.Tiles.length).map AA.c)))::mkTS.H1 (a.1.Set,a.2)
def mkSy.r0(a:AM×Int):AV:= .im (.int .i64 (syK a+3*a.1.Seed.Tiles.length))
def mkSy.pre(a:AM×Int):Prop:=0<=a.2/\a.1.Set.Tiles.length<=1048576/\syK a+3*a.1.Seed.Tiles.length<=1099511627776
def mkSy.row:A8:=A7 mkSy.ca mkSy.H0 2000001 mkSy.pre (λ_=>true) mkSy.r0 mkSy.H1 0
def mkSy.dom0(a:AM×Int)(j:Nat):Ai (mkSy.H0 a) j=true↔j=2000000\/j<2+nT a.1.Set.Tiles:=by
 by_cases h:j=2000000
 .subst h;simp[Ai,mkSy.H0,hget]
 .have z:(2000000==j)=false:=by simpa using λq=>h q.symm
  have:Ai (mkSy.H0 a) j=Ai (mkTS.H0 (a.1.Set,a.2)) j:=by simp only[Ai,mkSy.H0,hget,z,Dw]
  rw[this];simp only[mkTS.H0,Ju,h,false_or]
def mkSy.hcl(a:AM×Int): ∀p∈mkSy.H1 a,Ai (mkSy.H0 a) p.1=true/\ ∀m∈p.2.2.nms,Ai (mkSy.H0 a) m=true:=by
 intro p hp;simp only[mkSy.dom0];rcases B0.1 hp with rfl|hp
 .exact⟨.inl rfl,λm hm=>by simp[Ad.nms] at hm⟩
 .have:=mkTS.hcl _ p hp
  simp only[mkTS.H0,Ju] at this;exact⟨.inr this.1,λm hm=> .inr (this.2 m hm)⟩
def mkSy.hbel(a:AM×Int):A9 2000001 (mkSy.ca a)=true:=by simp[mkSy.ca,A9,AV.bel]
def mkSy.hbH(a:AM×Int):Ar 2000001 (mkSy.H0 a)=true:=by
 simp only[mkSy.H0,Ar];exact Oh (by have:=Hp a.1.Set.Tiles;simp only;omega) (λi=>by simp[Ar,GA])
def mkSy.hkH(a:AM×Int):B5 2000001 (mkSy.H0 a)=true:=by
 simp only[mkSy.H0,B5]
 have:=uI (G:=a.1.Set.Glues) (a:=a.1.Set.Tiles) (k:=EJ (a.1.Set,a.2)) (i:=0) (N:=2000001) (f:=GA a.1.Set.Tiles (EJ (a.1.Set,a.2)) 0) (by have:=Hp a.1.Set.Tiles;omega)
 simp only[mkTS.H0,this,Jg];simp
def mkSy.hnm(a:AM×Int):Ca (mkSy.H0 a) (mkSy.H0 a):=by
 refine RB λp hp m hm=>(mkSy.dom0 _ _).2 ?_
 rcases B0.1 hp with rfl|hp
 .simp[Ad.nms] at hm
 .exact .inr (gR (λj=>by simp[GA,Ad.nms]) hp hm)
def uO{G:List Ac}{rows:List (List AV)}{n:Nat}{f:Nat->Ap}(i:Nat)(h:i<n):hget (I3 G rows n f) (2+i)=some (f i):=by
 simp only[I3,hget,AC _ _ (show 0≠2+i by omega),AC _ _ (show 1≠2+i by omega),Dw];exact CY _ _ _ _ h
def UV{h:HpT}{kx:Nat->Option Nat}{m:Nat}{G:List Ac}{a:List Tile}{k:Int}{i:Nat}{f:Nat->Ap}(h0:h 0=some (true,.arr 151 2 (G.map Ac.c)))(z:h 1=some (true,.arrA 155 2 (DT a k i)))(O: ∀j,j<nT a->h (2+j)=some (f j))
 (hf: ∀j,Cd (Bs h kx (m+1)) (f j).2=some (f j).2)(Q: ∀j,j<nT a->kx (2+j)=some (2+j)):E4 h (Bs h kx (m+1)) (I3 G (DT a k i) (nT a) f):=by
 simp only[I3,E4];refine⟨?_,?_,GJ _ _ _ _ _ O (λj _=>hf j)⟩
 .rw[h0];exact⟨rfl,rfl⟩
 .rw[z];refine⟨rfl,?_⟩;simp only[Cd];rw[uH Q];rfl
def mkSy.ok:AE 14 mkSy.row:=by
 refine ow (tC mkTS.ok (tC mkAC.ok tN)) Tryz.func14 (exB:=λ_=>false) (R:=λa r=>r=mkSy.r0 a) (λ_=>rfl)
  (λa=>⟨mkSy.hbel a,mkSy.hbH a,mkSy.hkH a,mkSy.hnm a⟩) (λa p hp=> ?_) LeVq ?_
 rotate_left
 intro a aa;simp only[Tryz.f14,mkSy.ca];simp only[ZA,simprocAttr];obtain⟨S,k⟩:=a;obtain⟨h1,h2,h3⟩:=aa;simp only at h1 h2 h3;simp only[Bb,mkSy.H0];have hn:=Hp S.Set.Tiles;have hk:=Om S.Set.Tiles (EJ (S.Set,k)) (by simp only[EJ];omega) 0 S.Set.Tiles.length auOm;have ab:0<=syK (S,k):=by simp only[syK];omega
 have hσ: ∀j,j<2+nT S.Set.Tiles->B2 (λj=>j) 2000000 2000002 j=j:=λj z=>Bt auOm
 have Q:=λj=>(Ju S.Set.Glues (DT S.Set.Tiles (EJ (S.Set,k)) 0) (nT S.Set.Tiles) (GA S.Set.Tiles (EJ (S.Set,k)) 0) j)
 refine A7.tau (S.Set,k) (λj=>j) ⟨h1,h2,by simp only[syK] at h3;simp only;omega⟩ (λ_ _=>rfl) (λj z=> ?_) (λi j _ _ h=>h) (mkTS.hcl _) ⟨?_,?_⟩ (by simp[mkTS.r0,AV.nms]) (λO hH1 Z=> ?_)
 .have z:=(Q j).1 z;omega
 .simp only[mkTS.ca,AN,AV.ren,hσ 0 auOm,hσ 1 auOm]
 .simp only[mkTS.H0,I3,Du,hσ 0 auOm,hσ 1 auOm,Ad.ren];rw[X4 _ _ _ _ (λj z=>hσ _ auOm)];refine⟨rfl,rfl,Jv λi hi=> ?_⟩;rw[hσ _ auOm];simp only[hget,AC _ _ (show 2000001≠2+i by omega),AC _ _ (show 2000000≠2+i by omega),AC _ _ (show 0≠2+i by omega),AC _ _ (show 1≠2+i by omega),Dw];rw[CY _ _ _ _ hi];rfl
 have hu: ∀m,m=2000000\/m=2000001-> ∀j,Ai (mkTS.H0 (S.Set,k)) j=true->j≠m:=λm hm j z=>by
  have z:=(Q j).1 z;omega
 have gs:hget O 2000000=some (true,.arr 137 3 (S.Seed.Tiles.map AA.c)):=by rw[Z _ (hu _ (.inl rfl))];rfl
 have gp:hget O 2000001=some (true,.cells 46 [.own 0,.own 1,.own 2000000,.im (.int .i64 S.Temperature)]):=by rw[Z _ (hu _ (.inr rfl))];rfl
 have g0:hget O 0=some (true,.arr 151 2 ((FE (gF k) S.Set.Glues.length).map Ac.c)):=hH1 0 _ rfl;have g1:hget O 1=some (true,.arrA 155 2 (DT S.Set.Tiles (EJ (S.Set,k)) (nT S.Set.Tiles))):=by
  rw[hH1 1 _ rfl];simp only[Ad.ren];rw[X4 _ _ _ _ (λj z=>hσ _ auOm)]
 have g2: ∀j,j<nT S.Set.Tiles->hget O (2+j)=some (GA S.Set.Tiles (EJ (S.Set,k)) (nT S.Set.Tiles) j):=λj z=>by
  have e:hget (mkTS.H1 (S.Set,k)) (2+j)=some (GA S.Set.Tiles (EJ (S.Set,k)) (nT S.Set.Tiles) j):=uO j z;rw[hH1 (2+j) _ e];rfl
 have eK:Fb S.Set.Tiles (EJ (S.Set,k)) S.Set.Tiles.length=syK (S,k):=rfl;simp only[mkTS.r0,AV.ren,eK];simp only[ZA,simprocAttr,Bb,gp]
 skip
 refine A7.os (S.Seed,syK (S,k)) [2000000] ⟨ab,h3⟩ (λj=> ?_) rfl rfl ?_ ?_
 .simp only[Ai,mkAC.H0,hget];by_cases z:j=0
  .subst z;simp
  .have:(0==j)=false:=by simpa using λh=>z h.symm
   rw[this];simp;omega
 .simp only[ZA,simprocAttr,Aq,mkAC.ca,mkAC.H0,Du,BF,gs]
  try exact⟨rfl,rfl⟩
 simp only[ZA,simprocAttr,Aq,mkAC.H1,Bb,BF,CA,mkSy.r0,mkSy.H1];obtain⟨HX,hHX⟩: ∃HX,HX=hget ((2000000,(true,Ad.arr 137 3 (List.map AA.c (FE (pF (syK (S,k))) S.Seed.Tiles.length))))::Bp O [2000000]):=⟨_,rfl⟩;rw[<-hHX];have gx: ∀m,m≠2000000->HX m=hget O m:=λm hm=>by
  rw[hHX];simp only[hget,AC _ _ (λh=>hm h.symm:2000000≠m),Dw];exact J2 _ _ _ (λh=>hm h.symm)
 refine⟨RA _ _,UV (by rw[gx 0 auOm];exact g0) (by rw[gx 1 auOm];exact g1) (λj z=>by simp only at z;rw[gx _ auOm];exact g2 j z) (λj=>rfl) (λj z=>XL ?_)⟩;simp only at z
 have:=(mkSy.dom0 (S,k) (2+j)).2 (.inr (by simp only;omega))
 simpa only[mkSy.H0] using this
 obtain⟨q1,_⟩:=mkSy.hcl _ p hp
 have:=(mkSy.dom0 _ _).1 q1
 have:=Hp a.1.Set.Tiles
 exact .inl ⟨auOm,rfl,q1⟩
def E0(a:List Tile):Nat:=(a.map λx=>x.Sides.length).sum
def gK(y:Tile)(r:List Tile)(k:Int): ∀i,Fb (y::r) k (i+1)=Fb r (k+1+y.Sides.length) i
 |0=>rfl
 |i+1=>by
  rw[Fb,gK y r k i,Fb];rfl
def XX: ∀(a:List Tile) (k:Int),Fb a k a.length=k+a.length+E0 a
 |[],k=>by simp[Fb,E0]
 |y::r,k=>by
  rw[Em,gK,XX r];simp only[E0,Br,K6];omega
def oL{n:Nat}{l:Int}(h:0<=Cb n l):Cb n l=l - n:=by
 simp only[Cb] at h⊢;split at h
 .omega
 .rename_i c;rw[Be c]
def tY: ∀(a:List Tile) (l:Int),0<=l->0<=FI GD a l->(E0 a:Int)+FI GD a l<=l
 |[],l,h0,_=>by simp[E0,FI]
 |y::r,l,h0,h=>by
  simp only[FI] at h⊢;by_cases c:GD y l<0
  .rw[Bt c] at h;omega
  .rw[Be c] at h⊢;have z:0<=GD y l:=auOm;have O:0<=Cb y.Name.size l:=by
    simp only[GD] at z;split at z<;>omega
   have e:GD y l=Cb y.Sides.length (Cb y.Name.size l):=by
    simp only[GD];rw[Be auOm]
   rw[e] at z h⊢;have q1:=Rd O;have Q:=oL z;have ih:=tY r _ z h;simp only[E0,Br,K6] at ih⊢;omega
structure GQ(s:AM):Prop where
 g:s.Set.Glues.length<=1048576
 t:s.Set.Tiles.length<=1048576
 d:E0 s.Set.Tiles<=1048576
 p:s.Seed.Tiles.length<=1048576
def bZ{s:AM}{l:Int}(hl: -1<=l)(aa:l<=1048576)(h:0<=Xb s l):GQ s:=by
 have hb:=Qxk s.Set l hl;simp only[Xb] at h;split at h
 .omega
 rename_i c;obtain⟨a1,_,_⟩:=Rd h;have z:0<=Rf s.Set l:=auOm;have hg:=Qo1 s.Set.Glues l hl;simp only[Rf] at z;split at z
 .omega
 have O:0<=Io s.Set.Glues l:=auOm;have Z:0<=Cb s.Set.Glues.length l:=by
  simp only[Io] at O;split at O<;>omega
 have Q:0<=Cb s.Set.Tiles.length (Io s.Set.Glues l):=by
  simp only[Mn] at z;split at z<;>omega
 have e:Mn s.Set.Tiles (Io s.Set.Glues l)=FI GD s.Set.Tiles (Cb s.Set.Tiles.length (Io s.Set.Glues l)):=by
  simp only[Mn];rw[Be auOm]
 rw[e] at z;obtain⟨b1,_,_⟩:=Rd Z;obtain⟨d1,d2,_⟩:=Rd Q
 have:=tY s.Set.Tiles _ Q z
 exact⟨auOm,auOm,auOm,auOm⟩
def oC{a:List Tile}{x:Tile}(h:x∈a):x.Sides.length<=E0 a:=by
 induction a with
 |nil=>cases h
 |cons y r ih=>
  simp only[E0,Br,K6] at ih⊢;rcases B0.1 h with rfl|h
  .omega
  .have:=ih h;omega
def GQ.yx{s:AM}(h:GQ s):toYX.pre s:=⟨⟨by have:=h.g;omega,⟨h.t,λx z=>by have:=oC z;have:=h.d;omega⟩⟩,by have:=h.p;omega⟩
def GQ.syK{s:AM}(h:GQ s){k:Int}(O:0<=k)(z:k<=1048576):0<=syK (s,k)/\Go.Ae.syK (s,k)+3*s.Seed.Tiles.length<=9437184:=by
 simp only[Go.Ae.syK,XX,EJ]
 have:=h.g;have:=h.t;have:=h.d;have:=h.p
 omega
def GQ.mkp{s:AM}(h:GQ s){k:Int}(O:0<=k)(z:k<=1048576):mkSy.pre (s,k):=⟨O,h.t,by have:=(h.syK O z).2;simp only;omega⟩
structure C7(h:HpT)(g t p f:Nat)(s:AM):Prop where
 g:h g=some (true,.arr 151 2 (s.Set.Glues.map Ac.c))
 t:h t=some (true,.arrA 155 2 (Cx f s.Set.Tiles))
 p:h p=some (true,.arr 137 3 (s.Seed.Tiles.map AA.c))
 f: ∀i,i<s.Set.Tiles.length->h (f+i)=some (BX s.Set.Tiles i)
def Wn{h:HpT}{n f:Nat}{a:List Tile}(hf: ∀i,i<a.length->h (f+i)=some (BX a i)):Aw (Aw (bk h (n+1))) (Cx f a)=some (a.map Tile.c):=by
 have e:a.map Tile.c=(List.range a.length).map λi=>((a[i]?.map Tile.c).getD []):=by
  apply Rn;intro i;rw[Dp,Dp];by_cases z:i<a.length
  .rw[ER z,Bk z];simp[z]
  .rw[Gv auOm,Gv (by simp;omega)];rfl
 rw[e];refine Sn _ λi z=> ?_
 have z:=AU.1 z;have O:a[i]? =some a[i]:=Bk z;simp only[Aw,bk,hf i z,BX,Lu,O,CT,BG,Tile.c]
def C7.bk{h:HpT}{g t p f n:Nat}{s:AM}(hs:C7 h g t p f s):Go.Ae.bk h (n+3) (.agg [.own g,.own t,.own p,.im (.int .i64 s.Temperature)])=some (.agg (AM.c s)):=by
 simp only[Go.Ae.bk,Aw,hs.g,hs.t,hs.p,Lu,Wn hs.f,CT,AM.c]
def C7.pk{h:HpT}{g t p f:Nat}{s:AM}(hs:C7 h g t p f s):DX h (.agg [.own g,.own t,.own p,.im (.int .i64 s.Temperature)])=some (.val (.agg (AM.c s))):=by
 simp only[DX,hs.bk (n:=6),EE,CT]
def vN.call{A:Type}{ar:List PK->Option A}{pre:A->Prop}{re:A->D}{args:List AV}{tm:TmT}{h:An}{nx:Nat}{dst:Option Nat}{go:Az->Prop}(ps:List PK)(Q:I1 (hget h) args=some (ps,[]))(a:A)(Z:ar ps=some a)(z:pre a)
 (O:go ((⟨tm,h,nx⟩:Az).put dst (.im (re a)))):Ei ar pre re args (hget h) nx (De go ⟨tm,h,nx⟩ dst):=by
 unfold Ei;rw[Q];simp only[WI,Z,DM,PE];refine⟨z,?_,?_⟩
 .rw[BA.ok_nr];simp[AV.bel,Ar,GO]
 .rw[Az.app_nr,Bb,lC];exact O
def OI(s:AM):a1 (kR AM.d) [.val (.agg (AM.c s))]=some s:=by simp only[a1,kR,AM.d_c,E7]
def O3(s t:AM):a2 (kR AM.d) (kR AM.d) [.val (.agg (AM.c s)),.val (.agg (AM.c t))]=some (s,t):=by simp only[a2,kR,AM.d_c,E7]
def fD(l m:Cz):a2 (kS CV) (kS CV) [.val (.sl false 1 (l.map Aj)),.val (.sl false 1 (m.map Aj))]=some (l,m):=by simp only[a2,kS,Mh XH,E7]
def toYR.row:A8:=fM toSystem.row toYX.row
def toYR.ok:AE 7 toYR.row:=KY toSystem.ok toYX.ok
def yx_cl{s:AM}(hs:GQ s): ∀p∈toYX.H1 s,p.1<2000013/\ ∀m∈p.2.2.nms,m<2000013:=by
 have hm:min s.Set.Tiles.length 1048576<=1048576:=L4 _ _;have ht:=hs.t;intro p hp;simp only[toYX.H1,B0,AH,BY,AU] at hp;rcases hp with rfl|rfl|rfl|⟨i,Q,rfl⟩
 .exact⟨auOm,by simp[Ad.nms]⟩
 .refine⟨auOm,λm hm=> ?_⟩;simp only[Ad.nms] at hm;obtain⟨r,O,hm⟩:=Fx.1 hm;obtain⟨j,z,rfl⟩:=BY.1 O
  have:=AU.1 z
  simp[Av,AV.nms] at hm;omega
 .exact⟨auOm,by simp[Ad.nms]⟩
 .exact⟨by simp only;omega,by simp[BX,Ad.nms]⟩
def C7.mono{h h':HpT}{g t p f:Nat}{s:AM}(hs:C7 h g t p f s)(z: ∀m,(m=g\/m=t\/m=p\/(f<=m/\m<f+s.Set.Tiles.length))->h' m=h m):C7 h' g t p f s:=
 ⟨by rw[z g (.inl rfl)];exact hs.g,by rw[z t (.inr (.inl rfl))];exact hs.t,by rw[z p (.inr (.inr (.inl rfl)))];exact hs.p,λi O=>by rw[z _ (.inr (.inr (.inr ⟨auOm,auOm⟩)))];exact hs.f i O⟩
def yx_at{s:AM}(hs:GQ s){nx:Nat}{z:An}(h: ∀j e,hget (toYX.H1 s) j=some e->hget z (nx+j)=some (e.1,e.2.ren λj=>nx+j)):C7 (hget z) (nx+7) (nx+9) (nx+2000012) (nx+10) s:=by
 have ht:=hs.t;have hm:min s.Set.Tiles.length 1048576=s.Set.Tiles.length:=auOm;refine⟨h 7 _ rfl,?_,h 2000012 _ rfl,λi O=> ?_⟩
 .rw[h 9 _ rfl];simp only[Ad.ren];congr 3;simp only[Cx,GS];refine Iu λi O=> ?_
  simp only[Function.comp,AN,AV.ren];rw[Rj]
 .have e:hget (toYX.H1 s) (10+i)=some (BX s.Set.Tiles i):=by
   simp only[toYX.H1,hget,AC _ _ (show 7≠10+i by omega),AC _ _ (show 9≠10+i by omega),AC _ _ (show 2000012≠10+i by omega),Dw];rw[hm];exact CY _ _ _ _ O
  rw[Rj,h _ _ e];rfl
def Dn{H:An}(e:Ap)(k m:Nat)(h:k≠m):hget ((k,e)::Bp H [k]) m=hget H m:=by
 simp only[hget,AC _ _ h,Dw];exact J2 _ _ _ h
def Rt{h:HpT}{x y:AV}{p q:PK}(z:DX h x=some p)(O:DX h y=some q):Co h [x,y]=some [p,q]:=by simp only[Co,z,O,HF]
def UY{h:HpT}{o T k:Nat}{z:Bool}{rows:List (List D)}(g:h o=some (z,.arr T k rows)):DX h (.own o)=some (.val (.sl false k rows)):=by simp only[DX,bk,g,Lu,EE,CT]
def uA: ∀l:List Nat,GE l []=true
 |[]=>rfl
 |x::r=>by simp[GE,uA r]
def I7:List Fp->Bool
 |[]=>true
 |f::r=>f.touch.isEmpty && I7 r
def X7(cl:List (List Nat))(i:Nat)(use:List Nat): ∀acc:List Fp,I7 acc=true->FR cl i use [] [] acc=true
 |[],_=>rfl
 |f::r,h=>by
  simp only[I7,B1,List.isEmpty_iff] at h;simp only[FR,YZ,h.1,C3,uA,GE,Fm,Pg,IJ,X7 cl i use r h.2]
def vN.callA{A:Type}{ar:List PK->Option A}{pre:A->Prop}{re:A->D}{args:List AV}{tm:TmT}{h:An}{nx:Nat}{dst:Option Nat}{go:IY}{cl:List (List Nat)}{i:Nat}{acc:List Fp}(ps:List PK)(Q:I1 (hget h) args=some (ps,[]))(a:A)(Z:ar ps=some a)(z:pre a)(hq:I7 acc=true)
 (O: ∀u,go (⟨i,u,[],nx,0⟩::acc) ((⟨tm,h,nx⟩:Az).put dst (.im (re a)))):Ei ar pre re args (hget h) nx (FT cl i acc go ⟨tm,h,nx⟩ dst):=by
 unfold Ei;rw[Q];simp only[WI,Z,DM,PE];refine⟨z,?_,?_,?_⟩
 .rw[BA.ok_nr];simp[AV.bel,Ar,GO]
 .exact X7 _ _ _ _ hq
 .rw[Az.app_nr,Bb,lC];exact O _
def vF.callA{A:Type}{ar:List PK->Option A}{pre:A->Prop}{re:A->D}{args:List AV}{tm:TmT}{h:An}{nx:Nat}{dst:Option Nat}{go:IY}{cl:List (List Nat)}{i:Nat}{acc:List Fp}(ps:List PK)(Q:Co (hget h) args=some ps)(a:A)(Z:ar ps=some a)(z:pre a)(hq:I7 acc=true)
 (O: ∀u,go (⟨i,u,[],nx,0⟩::acc) ((⟨tm,h,nx⟩:Az).put dst (.im (re a)))):Lj ar pre re args (hget h) nx (FT cl i acc go ⟨tm,h,nx⟩ dst):=by
 unfold Lj;rw[Q];simp only[RV,Z,DM];refine⟨z,?_,?_,?_⟩
 .rw[BA.ok_nr];simp[AV.bel,Ar,GO]
 .exact X7 _ _ _ _ hq
 .rw[Az.app_nr,Bb,lC];exact O _
def mkIC.d0(a:Cz×Int)(j:Nat)(z:Ai (mkIC.H0 a) j=true):j=0:=by
 simp only[Ai,mkIC.H0,hget] at z;by_cases h:j=0
 .exact h
 .rw[AC _ _ (λq=>h q.symm)] at z;cases z
def gT{nx o:Nat}{tm:TmT}{h:An}{dst:Option Nat}{go:Az->Prop}{l:Cz}{k:Int}(hk:0<=k)(aa:k+l.length<=1099511627776)(hS:hget h o=some (true,.arr 2 1 (l.map Aj)))(ab:o<nx)
 (Z: ∀O:An,(∀j e,hget (mkIC.H1 (l,k)) j=some e->hget O o=some (e.1,e.2.ren (B2 (λ_=>o) 1 nx)))->(∀m,m≠o->hget O m=hget h m)->go ((⟨tm,O,nx⟩:Az).put dst (.im (.int .i64 (k+l.length))))):
 mkIC.row [.own o,.im (.int .i64 k)] (hget h) nx (De go ⟨tm,h,nx⟩ dst):=by
 refine A7.tau (l,k) (λ_=>o) ⟨hk,aa⟩ (λj z=>by rw[mkIC.d0 _ j z];rfl) (λj z=>⟨by rw[mkIC.d0 _ j z];omega,ab⟩) (λi j hi z _=>by rw[mkIC.d0 _ i hi,mkIC.d0 _ j z]) (λp hp=> ?_) ⟨rfl,hS,trivial⟩ (by simp[AV.nms]) (λO hH1 Q=>Z O hH1 λm hm=>Q m λj z h=>hm h.symm);simp only[mkIC.H1,Am] at hp;subst hp;exact⟨rfl,λm hm=>by simp[Ad.nms] at hm⟩
def TS(k:Int)(n:Nat):Gp (Hy k n) k=k+n:=by
 simp only[Gp,R9,Ff]
def needX.pre(a:KQ):Prop:=(∀o∈a.Seq,Sb o.At)/\a.Inputs.length=a.Seq.length/\a.Seq.length<=500
def Nf(π:List (Nat×Option Nat)): ∀a b:An,EZ π (a++b)=EZ π a++EZ π b
 |[],_=>rfl
 |(n,_)::r,b=>by simp only[BZ,EZ,Nf π r b]
def gS: ∀a b:List (Option Nat),Dg a=true->Dg b=true->(∀m,some m∈a->some m∉b)->Dg (a++b)=true
 |[],_,_,h,_=>h
 |none::r,b,z,Q,O=>by
  simp only[BZ,Dg] at z⊢;exact gS r b z Q λm hm=>O m (Ah _ hm)
 |some x::r,b,z,Q,O=>by
  simp only[BZ,Dg,B1,lB,List.contains_eq_mem,BO,GU] at z⊢;refine⟨λh=> ?_,gS r b z.2 Q λm hm=>O m (Ah _ hm)⟩;rcases h with h|h
  .exact z.1 h
  .exact O x (CP ..) h
def OH{lo:Nat}{π:List (Nat×Option Nat)}{s:Az}{tm:TmT}{A:An}{b n nx:Nat}{f:Nat->Ap}(g:Nat->Nat)(ab:JP lo π)(hA:Dg (EZ π A)=true)(z: ∀i,i<n->pm π (b+i)=some (g i))(hg: ∀i j,i<n->j<n->g i=g j->i=j)
 (hd: ∀m,some m∈EZ π A-> ∀i,i<n->g i≠m)(hT:EQ π s tm)(aa:F6 π s A)(hE: ∀i,i<n->Ci s π (f i).1 (f i).2 (some (g i))):AB lo π s ⟨tm,A++AH b n f,nx⟩:=by
 have e:EZ π (AH b n f)=(List.range n).map λi=>pm π (b+i):=by
  rw[Sj,WK,GS];rfl
 refine⟨ab,?_,hT,?_⟩
 .simp only;rw[Nf,e];refine gS _ _ hA (WZ _ _ S5 λx Q y Z m h1 h2=> ?_) λm hm h=> ?_
  .have Q:=AU.1 Q;have Z:=AU.1 Z;rw[z x Q] at h1;rw[z y Z] at h2;exact hg x y Q Z (AJ (h1.trans h2.symm))
  .obtain⟨i,O,h⟩:=BY.1 h;have O:=AU.1 O;rw[z i O] at h;exact hd m hm i O (AJ h)
 .simp only;rw[Qns];exact⟨aa,(Ys _ _ _ _ _).2 λi O=>by rw[z i O];exact hE i O⟩
def XI{N b n:Nat}{f:Nat->Ap}{tm:TmT}{A:An}(ht:Cl N tm=true)(z:Ar N A=true)(O:B5 N A=true)(hf: ∀i,Ar N [(b+i,f i)]=true)(h:b+n<=N):Az.good ⟨tm,A++AH b n f,N⟩=true:=by
 simp only[Az.good,pW,Qmd,ht,z,O,CZ,B1];exact⟨Ll _ _ _ hf _,K2 _ _ _ _ h⟩
def EN{b n k:Nat}{f:Nat->Ap}(h:k<b\/b+n<=k):Bp (AH b n f) [k]=AH b n f:=KS _ _ _ _ λx z=>by rw[Am] at z;subst z;exact h
mutual
def Zw(H:An): ∀x:AV,x.fzA [] H=x
 | .own n=>rfl
 | .agg z=>by simp only[AV.fzA,XJ H z]
 | .any=>rfl
 | .im d=>rfl
 | .tup z=>rfl
 | .ptr o p=>rfl
 | .eptr o i p=>rfl
 | .mp o=>rfl
 | .ch o=>rfl
 | .it o=>rfl
 | .osl o a n=>rfl
 | .clo f a c=>rfl
def XJ(H:An): ∀xs:List AV,DN [] H xs=xs
 |[]=>rfl
 |x::r=>by simp only[DN,Zw H x,XJ H r]
end
def uM(H:An): ∀xs:List (List AV),DO [] H xs=xs
 |[]=>rfl
 |x::r=>by simp only[DO,XJ H x,uM H r]
def uL(H:An): ∀X:An,Hw [] H X=X
 |[]=>rfl
 |(n,(z,e))::r=>by
  have:e.fzA [] H=e:=by cases e<;>simp only[Ad.fzA,XJ,uM]
  simp only[Hw,this,uL H r,Xl,Xm,Jg]
def GB(M:List (Cz)):Nat:=(M.map List.length).sum
def vB(x:Cz)(k:Int):Gp x k=k+x.length\/Gp x k= -1:=by
 simp only[Gp];split
 .exact .inl rfl
 .exact .inr rfl
def nM(M:List (Cz)):Nat:=min M.length 1048576
def Xs(M:List (Cz))(i:Nat):Cz:=M[i]?.getD []
def Ie(M:List (Cz))(k:Int):Nat->Int
 |0=>k
 |i+1=>Ie M k i+(Xs M i).length
def uK(y:Cz)(r:List (Cz))(k:Int): ∀i,Ie (y::r) k (i+1)=Ie r (k+y.length) i
 |0=>rfl
 |i+1=>by
  rw[Ie,uK y r k i,Ie];rfl
def Oa: ∀(M:List (Cz)) (k:Int),Ie M k M.length=k+GB M
 |[],k=>by simp[Ie,GB]
 |y::r,k=>by
  rw[Em,uK,Oa r];simp only[GB,Br,K6];omega
def fT(M:List (Cz))(k:Int)(h:0<=k): ∀i j,i<=j->0<=Ie M k i/\Ie M k i<=Ie M k j:=by
 have pos: ∀i,0<=Ie M k i:=by
  intro i;induction i with
  |zero=>exact h
  |succ i ih=>simp only[Ie];omega
 intro i j z;refine⟨pos i,?_⟩;induction j with
 |zero=>have:i=0:=auOm
        subst this;exact kV _
 |succ j ih=>
  by_cases c:i=j+1
  .subst c;exact kV _
  .have:=ih auOm
   simp only[Ie];omega
def sA(M:List (Cz))(k:Int):List (Cz):=(List.range M.length).map λi=>Hy (Ie M k i) (Xs M i).length
def XK(M:List (Cz))(k:Int):(sA M k).length=M.length:=by simp[sA]
def Rw(M:List (Cz))(k:Int)(i j:Nat):Ap:=(true,.arr 2 1 ((if j<i then Hy (Ie M k j) (Xs M j).length else Xs M j).map Aj))
def HE(M:List (Cz))(k:Int)(i:Nat):An:=[(0,(true,.arrA 35 1 (CE 2 (nM M))))]++AH 2 (nM M) (Rw M k i)
def mkSS.ca(a:List (Cz)×Int):List AV:=[.own 0,.im (.int .i64 a.2)]
def mkSS.H0(a:List (Cz)×Int):An:=HE a.1 a.2 0
def mkSS.H1(a:List (Cz)×Int):An:=HE a.1 a.2 (nM a.1)
def mkSS.r0(a:List (Cz)×Int):AV:= .im (.int .i64 (a.2+GB a.1))
def mkSS.pre(a:List (Cz)×Int):Prop:=a.1.length<=1048576/\0<=a.2/\a.2+GB a.1<=1099511627776
def mkSS.row:A8:=A7 mkSS.ca mkSS.H0 2000000 mkSS.pre (λ_=>true) mkSS.r0 mkSS.H1 0
def O4(M:List (Cz)):nM M<=1048576:=L4 _ _
def KV(M:List (Cz))(k:Int)(i j:Nat):Ai (HE M k i) j=true↔j=0\/(2<=j/\j<2+nM M):=by
 simp only[Ai,HE,BZ,E5,hget,jV];by_cases h0:j=0
 .subst h0;simp
 .rw[AC _ _ (λh=>h0 h.symm)];simp only[Dw];split
  .rename_i h;simp[h]
  .rename_i h;simp[h0];omega
def KW{M:List (Cz)}{k:Int}{i:Nat}{p:Nat×Ap}(hp:p∈HE M k i):(p.1=0\/(2<=p.1/\p.1<2+nM M))/\ ∀m∈p.2.2.nms,2<=m/\m<2+nM M:=by
 simp only[HE,BZ,E5,B0,AH,BY,AU] at hp;rcases hp with rfl|⟨j,z,rfl⟩
 .refine⟨.inl rfl,λm hm=> ?_⟩;obtain⟨q,hq,rfl⟩:=Qu6 _ _ m hm;omega
 .exact⟨.inr ⟨by simp only;omega,by simp only;omega⟩,by simp[Rw,Ad.nms]⟩
def mkSS.hcl(a:List (Cz)×Int): ∀p∈mkSS.H1 a,Ai (mkSS.H0 a) p.1=true/\ ∀m∈p.2.2.nms,Ai (mkSS.H0 a) m=true:=λp hp=>
 ⟨(KV _ _ _ _).2 (KW hp).1,λm hm=>(KV _ _ _ _).2 (.inr ((KW hp).2 m hm))⟩
def mkSS.hbel(a:List (Cz)×Int):A9 2000000 (mkSS.ca a)=true:=by simp[mkSS.ca,A9,AV.bel]
def mkSS.hbH(a:List (Cz)×Int):Ar 2000000 (mkSS.H0 a)=true:=X5 _ λp hp m hm=>by
 have:=(KW hp).2 m hm
 have:=O4 a.1
 omega
def mkSS.hkH(a:List (Cz)×Int):B5 2000000 (mkSS.H0 a)=true:=by
 have:=O4 a.1
 simp only[mkSS.H0,HE,BZ,E5,B5];rw[K2 _ _ _ _ auOm];simp
def mkSS.hnm(a:List (Cz)×Int):Ca (mkSS.H0 a) (mkSS.H0 a):=
 RB λp hp m hm=>(KV _ _ _ _).2 (.inr ((KW hp).2 m hm))
def iP(M:List (Cz))(k:Int)(i j:Nat)(z:j<nM M):hget (HE M k i) (2+j)=some (Rw M k i j):=by
 simp only[HE,BZ,E5,hget,AC _ _ (show 0≠2+j by omega),Dw];exact CY _ _ _ _ z
def mkSS.ok:AE 43 mkSS.row:=by
 refine ow (tC mkIC.ok tN) Tryz.func43 (exB:=λ_=>false) (R:=λa r=>r=mkSS.r0 a) (λ_=>rfl)
  (λa=>⟨mkSS.hbel a,mkSS.hbH a,mkSS.hkH a,mkSS.hnm a⟩) (λa p hp=> ?_) LeVq ?_
 rotate_left
 intro a Z;simp only[Tryz.f43,mkSS.ca];simp only[ZA,simprocAttr];obtain⟨M,k⟩:=a;obtain⟨h1,h2,h3⟩:=Z;simp only at h1 h2 h3;have hn:nM M=M.length:=by simp only[nM];omega
 have hK:Ie M k M.length=k+GB M:=Oa M k;refine AY.old ⟨{i:Nat//i<=M.length},λi=>⟨[(5,.im (.int .i64 i.1)),(4,.im (.int .i64 0)),(0,.own 0),(1,.im (.int .i64 (Ie M k i.1)))],HE M k i.1,2000000⟩,λi=>M.length - i.1,λi=>⟨XI (by simp[Cl,AV.bel]) (by simp only[Ar,Jg];exact RZ _ _ _ auOm) (by simp[B5]) (λj=>rfl) auOm,auSi⟩,⟨⟨0,auSi⟩,?_⟩,λi=> ?_⟩
 .simp only[sub];simp only[ZA,simprocAttr,Ie,Bb];simp only[mkSS.H0]
  conv=>arg 2;unfold HE
  simp only[BZ,E5,C5,XD];exact⟨rfl,λj z=>iP M k 0 j z⟩
 .obtain⟨i,ab⟩:=i;have hb:=fT M k h2 i M.length ab;simp only[HE,BZ,E5];simp only[ZA,simprocAttr,AL,Il,Bb];intro _;refine⟨λhi=>⟨hi,hi,?_⟩,λhi=> ?_⟩
  .rw[Qxa _ _ _ _ hi];simp only[ZA,simprocAttr,Bb];have ad:=(fT M k h2 (i+1) M.length auOm).2;have af:Ie M k (i+1)=Ie M k i+(Xs M i).length:=rfl;refine⟨auOm,?_⟩;refine gT (l:=Xs M i) hb.1 auOm (show _=_ from ?_) auOm λHH hH1 Q=> ?_
   .simp only[hget,AC _ _ (show 0≠2+i by omega),Dw];rw[CY _ _ _ _ auOm];simp[Rw]
   have g0:hget HH 0=some (true,.arrA 35 1 (CE 2 (nM M))):=(Q 0 auOm).trans rfl;have gi:=hH1 0 _ rfl;have gj: ∀j,j<nM M->j≠i->hget HH (2+j)=some (Rw M k i j):=λj z O=>by
    rw[Q (2+j) auOm];simp only[hget,AC _ _ (show 0≠2+j by omega),Dw];exact CY _ _ _ _ z
   simp only[ZA,simprocAttr,sub,Bb,g0];refine⟨⟨i+1,auOm⟩,by simp only;omega,⟨by rw[AG auOm auOm];simp only;omega,rfl⟩,?_⟩;rw[XD];intro j z;by_cases O:j=i
   .subst O;rw[gi];simp[Rw,Ad.ren]
   .rw[gj j z O];simp only[Rw];by_cases c:j<i
    .rw[Bt c,Bt auOm]
    .rw[Be c,Be auOm]
  .have ac:i=M.length:=auOm;subst ac;have aa: ∀j,j<M.length->Ai (mkSS.H0 (M,k)) (2+j)=true:=λj z=>(KV _ _ _ _).2 (.inr ⟨auOm,by simp only[hn];omega⟩)
   refine⟨RA _ _,by simp only[mkSS.r0,hK],?_⟩;simp only[mkSS.H1,hn,HE,BZ,E5,E4];refine⟨⟨rfl,?_⟩,GJ _ _ _ _ _ (λj z=> ?_) (λj _=>rfl)⟩
   .simp only[Cd];rw[qV (λj z=>XL (aa j z))];rfl
   .simp only[hget,AC _ _ (show 0≠2+j by omega),Dw];exact CY _ _ _ _ z
 obtain⟨q1,_⟩:=mkSS.hcl _ p hp
 have:=(KV _ _ _ _).1 q1
 have:=O4 a.1
 exact .inl ⟨auOm,rfl,q1⟩
structure I5(h:HpT)(o b:Nat)(M:List (Cz)):Prop where
 r:h o=some (true,.arrA 35 1 (CE b M.length))
 f: ∀i,i<M.length->h (b+i)=some (true,.arr 2 1 ((M[i]?.getD []).map Aj))
def I5.mono{h h':HpT}{o b:Nat}{M:List (Cz)}(hs:I5 h o b M)(z: ∀m,(m=o\/(b<=m/\m<b+M.length))->h' m=h m):I5 h' o b M:=
 ⟨by rw[z o (.inl rfl)];exact hs.r,λi O=>by rw[z _ (.inr ⟨auOm,auOm⟩)];exact hs.f i O⟩
def I5.pk{h:HpT}{o b:Nat}{M:List (Cz)}(hs:I5 h o b M):DX h (.own o)=some (.val (.sl false 1 (M.map BD))):=by
 have e:Aw (Aw (bk h 8)) (CE b M.length)=some (M.map BD):=by
  have O:M.map BD=(List.range M.length).map λi=>BD (M[i]?.getD []):=by
   apply Rn;intro i;rw[Dp,Dp];by_cases z:i<M.length
   .rw[ER z,Bk z];simp[z]
   .rw[Gv auOm,Gv (by simp;omega)];rfl
  rw[O];refine Sn _ λi z=> ?_
  have z:=AU.1 z;simp only[Aw,bk,hs.f i z,Lu,BD]
 simp only[DX,bk,hs.r,Lu,e,CT,EE]
def PQ{nx o b:Nat}{tm:TmT}{h:An}{dst:Option Nat}{go:Az->Prop}{M:List (Cz)}{k:Int}(hM:M.length<=1048576)(hk:0<=k)(ac:k+GB M<=1099511627776)(hS:I5 (hget h) o b M)(ho:o<b)(af:b+M.length<=nx)
 (ab: ∀Z:An,I5 (hget Z) o b (sA M k)->(∀m,m≠o->(m<b\/b+M.length<=m)->hget Z m=hget h m)->go ((⟨tm,Z,nx⟩:Az).put dst (.im (.int .i64 (k+GB M))))):
 mkSS.row [.own o,.im (.int .i64 k)] (hget h) nx (De go ⟨tm,h,nx⟩ dst):=by
 have hn:nM M=M.length:=by simp only[nM];omega
 obtain⟨τ,hτ⟩: ∃τ:Nat->Nat,τ=λj=>if j=0 then o else b+(j - 2):=⟨_,rfl⟩
 have Q:τ 0=o:=by rw[hτ];rfl
 have t2: ∀j,τ (2+j)=b+j:=λj=>by rw[hτ];simp only;rw[Be auOm];omega
 have hσ: ∀j,j<2000000->B2 τ 2000000 nx j=τ j:=λj O=>Bt O
 have d0: ∀j,Ai (mkSS.H0 (M,k)) j=true->j=0\/(2<=j/\j<2+M.length):=λj O=>by
  have:=(KV _ _ _ _).1 O
  simpa only[hn] using this
 refine A7.tau (M,k) τ ⟨hM,hk,ac⟩ (λ_ _=>rfl) (λj O=> ?_) (λi j z O h=> ?_) (mkSS.hcl _) ⟨?_,?_⟩ (by simp[mkSS.r0,AV.nms]) (λZ hH1 aa=>ab Z ⟨?_,λi z=> ?_⟩ λm hm ad=>aa m λj O=> ?_)
 .rcases d0 j O with rfl|h1
  .rw[Q];omega
  .obtain⟨i,rfl⟩: ∃i,j=2+i:=⟨j - 2,auOm⟩;rw[t2];omega
 .rcases d0 i z with rfl|h1<;>rcases d0 j O with rfl|h2
  .rfl
  .obtain⟨q,rfl⟩: ∃q,j=2+q:=⟨j - 2,auOm⟩;rw[Q,t2] at h;omega
  .obtain⟨q,rfl⟩: ∃q,i=2+q:=⟨i - 2,auOm⟩;rw[Q,t2] at h;omega
  .obtain⟨q,rfl⟩: ∃q,i=2+q:=⟨i - 2,auOm⟩;obtain⟨p,rfl⟩: ∃p,j=2+p:=⟨j - 2,auOm⟩;rw[t2,t2] at h;omega
 .simp only[mkSS.ca,AN,AV.ren,hσ 0 auOm,Q]
 .simp only[mkSS.H0,HE,BZ,E5,Du,hσ 0 auOm,Q,Ad.ren];refine⟨?_,Jv λi z=> ?_⟩
  .rw[hS.r,hn];congr 3;simp only[CE,GS];refine Iu λi z=> ?_
   have z:=AU.1 z;simp only[Function.comp,AN,AV.ren];rw[hσ _ auOm,t2]
  .rw[hn] at z;rw[hσ _ auOm,t2,hS.f i z];simp[Rw,Xs,Ad.ren]
 .have:=hH1 0 _ rfl
  rw[Q] at this;rw[this];simp only[Ad.ren,XK];congr 3;simp only[CE,GS,hn];refine Iu λi z=> ?_
  have z:=AU.1 z;simp only[Function.comp,AN,AV.ren];rw[hσ _ auOm,t2]
 .rw[XK] at z
  have:=hH1 (2+i) _ (iP M k (nM M) i auOm)
  rw[t2] at this;rw[this];have e:(sA M k)[i]?.getD []=Hy (Ie M k i) (Xs M i).length:=by simp[sA,ER z]
  rw[e,hn];simp only[Rw,Bt z,Ad.ren]
 .rcases d0 j O with rfl|h1
  .rw[Q];exact λh=>hm h.symm
  .obtain⟨i,rfl⟩: ∃i,j=2+i:=⟨j - 2,auOm⟩;rw[t2];omega
end Go.Ae
namespace Go.Ae
open Go.Proofs Go.Lib
def k4{k:Int}(h:1<=k/\k<=4):k=1\/k=2\/k=3\/k=4:=auOm
def numd_.fv(a:MM×Int):MM:=(Bd) (a.1) (a.2)
def numd_.row:A8:=Cj (b2 qT qI) rT (λa=>a.1.size<=1000/\ -9223372036854775808<=a.2/\a.2<=9223372036854775807) numd_.fv
def numd_.q:=Cf (R:=numd_.row) rfl
def numd_.ok:AE 78 numd_.row:=by
 refine EK (tC dcm_.ok tN) Tryz.func78 ?_;intro a z;simp only[Tryz.f78];simp(maxSteps:=9^9)(disch:=omega)only[ZA,simprocAttr,Aa,numd_.fv,dcm_.q,dcm_.fv,D.sc,D.scs,AO];obtain⟨Z,O,Q⟩:=z
 have:=CN O Q
 exact⟨⟨O,Q⟩,auOm,rfl⟩
def prd_.fv(a:MM×Int×Int):MM:=(Lb) (a.1) (a.2.1) (a.2.2)
def prd_.row:A8:=Cj (b3 qT qI qI) rT (λa=>a.1.size<=1000/\(-9223372036854775808<=a.2.1/\a.2.1<=9223372036854775807)/\ -9223372036854775808<=a.2.2/\a.2.2<=9223372036854775807) prd_.fv
def prd_.q:=Cf (R:=prd_.row) rfl
def prd_.ok:AE 130 prd_.row:=by
 refine EK (tC numd_.ok (tC dcm_.ok tN)) Tryz.func130 ?_;intro a z;simp only[Tryz.f130];simp(maxSteps:=9^9)(disch:=omega)only[ZA,simprocAttr,Aa,prd_.fv,numd_.q,numd_.fv,dcm_.q,dcm_.fv,D.sc,D.scs,AO];obtain⟨h1,O,Q,Z⟩:=z;have e1:=CN Q Z;have e2:=aA (w:=a.1) O.1 O.2;have e3:(⟨#[95]⟩:MM).size=1:=rfl;exact⟨⟨h1,O.1,O.2⟩,auOm,⟨Q,Z⟩,by rw[Pk];omega,rfl⟩
def BK(g:List Ac)(t:List Tile):An:=[(0,(true,.cells 133 [.own 1,.own 2,.mp 3])),(1,(true,.arr 151 2 (g.map Ac.c))),(2,(true,.arr 155 2 (t.map Tile.c))),(3,(true,.map ⟨false,[.str]⟩ (Ce g)))]
def La(g:List Ac)(t:List Tile)(j:Nat):Ai (BK g t) j=true↔j<4:=by
 simp only[Ai,BK,hget];by_cases h0:j=0
 .subst h0;simp
 by_cases z:j=1
 .subst z;simp
 by_cases O:j=2
 .subst O;simp
 by_cases Q:j=3
 .subst Q;simp
 have Z:(0==j)=false:=by simpa using λh=>h0 h.symm
 have e1:(1==j)=false:=by simpa using λh=>z h.symm
 have e2:(2==j)=false:=by simpa using λh=>O h.symm
 have e3:(3==j)=false:=by simpa using λh=>Q h.symm
 simp[Z,e1,e2,e3];omega
def cM(m:List (D×D))(a:D)(n:Int)(O: ∀e∈m,∃n,e.2= .int .i64 n): ∀e∈Fq m a (.int .i64 n),∃n,e.2= .int .i64 n:=by
 induction m with
 |nil=>intro e z;simp only[Fq,Am] at z;subst z;exact⟨n,rfl⟩
 |cons x m ih=>
  intro e z;obtain⟨k,w⟩:=x;simp only[Fq] at z;cases h:D.beq a k with
  |true=>
   rw[h] at z;rcases B0.1 z with rfl|z
   .exact⟨n,rfl⟩
   .exact O e (Ah _ z)
  |false=>
   rw[h] at z;rcases B0.1 z with rfl|z
   .exact O (k,w) (CP ..)
   .exact ih (λe z=>O e (Ah _ z)) e z
def UG(g:List Ac): ∀e∈Ce g,∃n,e.2=D.int .i64 n:=by
 have z: ∀(g:List Ac) (m:List (D×D)) (k:Int),(∀e∈m,∃n,e.2=D.int .i64 n)-> ∀e∈(g.foldl (λ(s:List (D×D)×Int) x=>(Fq s.1 (.str x.Name) (.int .i64 (s.2+1)),s.2+1)) (m,k)).1,∃n,e.2=D.int .i64 n:=by
  intro g;induction g with
  |nil=>intro m k h;exact h
  |cons x g ih=>intro m k h;exact ih _ _ (cM m _ _ h)
 refine z g _ 0 λe O=> ?_
 simp only[Am] at O;subst O;exact⟨_,rfl⟩
def Un{x d:D}: ∀(m:List (D×D)),(∀e∈m,∃n,e.2=D.int .i64 n)->lk m x=some d-> ∃n,d= .int .i64 n
 |[],_,h=>by simp[lk] at h
 |(k,w)::m,z,h=>by
  simp only[lk] at h;cases hb:D.beq x k with
  |true=>rw[hb] at h;obtain rfl:=AJ h;exact z (k,w) (CP ..)
  |false=>rw[hb] at h;exact Un m (λe O=>z e (Ah _ O)) h
def vI(g:List Ac)(nm:MM)(Ks:D->Prop)(Kn:Prop)(z:Ks (.int .i64 (Ax g nm)))(O:Ax g nm=0->Kn):Jq (Ce g) (.str nm) Ks Kn:=by
 refine⟨λd hd=> ?_,λhn=>O ?_⟩
 .obtain⟨n,rfl⟩:=Un _ (UG g) hd
  have:Ax g nm=n:=by simp only[Ax,ON,hd]
  rw[<-this];exact z
 .simp only[Ax,ON,hn]
def nmC.row:A8:=A7 (λ_:Unit=>[]) (λ_=>[]) 0 (λ_=>True) (λ_=>false) (λ_=> .ptr 0 0) (λ_=>BK [] []) 20
def Fe(j:Nat):Bool:=Nat.ble j 3
def nmC.ok:AE 123 nmC.row:=by
 refine KF tN Tryz.func123 (exB:=Fe) (R:=λ_ r=>r= .ptr 0 0) (λ_=>rfl)
  (λa=>by simp[A9,Ar,B5,Ca]) (λa p hp=> ?_) LeVq ?_
 rotate_left
 intro a z;simp only[Tryz.f123,BK];simp(maxSteps:=9^9)(disch:=omega)only[ZA,simprocAttr,Bh];rotate_left
 .simp only[BK,B0,D2,Rl] at hp;rcases hp with rfl|rfl|rfl|rfl
  .exact .inr ⟨auOm,auOm,rfl,rfl⟩
  .exact .inr ⟨auOm,auOm,rfl,rfl⟩
  .exact .inr ⟨auOm,auOm,rfl,rfl⟩
  .exact .inr ⟨auOm,auOm,rfl,rfl⟩
 have e:Ce []=[(.str ⟨#[45]⟩,.int .i64 0)]:=rfl;refine⟨[],[(0,some 1),(1,none),(2,none),(3,some 0)],⟨[(0,.ptr 0 0)],BK [] [],4⟩,?_,by simp[BK,ZG,Ce],auSi,?_⟩
 .simp only[AB,BK,e,Gl];simp(maxSteps:=9^9)(disch:=omega)only[ZA,simprocAttr,Bf,lA]
 .simp(maxSteps:=9^9)(disch:=omega)only[ZA,simprocAttr,BK,Fe,BK,e,Fe]
def mgC.ca(a:Mk×Ac):List AV:=[.ptr 0 0,.im (.str a.2.Name),.im (.int .i64 a.2.Strength)]
def mgC.H0(a:Mk×Ac):An:=BK a.1.1 a.1.2
def mgC.H1(a:Mk×Ac):An:=[(0,(true,.cells 133 [.own 4,.own 2,.mp 3])),(4,(true,.arr 151 2 ((a.1.1++[a.2]).map Ac.c))),(3,(true,.map ⟨false,[.str]⟩ (Ce (a.1.1++[a.2]))))]
def B9(j:Nat):Bool:=j==0||(j==1||j==3)
def mgC.row:A8:=A7 mgC.ca mgC.H0 4 (λa=>a.1.1.length<=1000000) B9 (λ_=> .im (.tup [])) mgC.H1 20
def mgC.ok:AE 128 mgC.row:=by
 refine KF tN Tryz.func128 (exB:=λj=>j==4) (R:=λa r=>r= .im (.tup [])) (λ_=>rfl)
  (λa=>by simp[mgC.ca,mgC.H0,BK,A9,AV.bel,Ar,B5,Ca,Ad.nms,Av,AV.nms,Ai,hget]) (λa p hp=> ?_) LeVq ?_
 rotate_left
 intro a z;simp only[Tryz.f128,mgC.ca,mgC.H0,mgC.H1,BK];simp(maxSteps:=9^9)(disch:=omega)only[ZA,simprocAttr,Bh,B8,BF,CA];rotate_left
 .simp only[mgC.H1,B0,D2,Rl] at hp;rcases hp with rfl|rfl|rfl
  .exact .inl ⟨auOm,rfl,rfl⟩
  .exact .inr ⟨auOm,auOm,rfl,rfl⟩
  .exact .inl ⟨auOm,rfl,rfl⟩
 obtain⟨⟨g,t⟩,x⟩:=a;simp only at z⊢;have O:List.map Ac.c g++[[D.str x.Name,D.int .i64 x.Strength]]=(g++[x]).map Ac.c:=by rw[Dj];rfl
 have Q:Fq (Ce g) (.str x.Name) (.int .i64 (((g++[x]).map Ac.c).length:Nat))=Ce (g++[x]):=by rw[uX];simp
 rw[O,Q];refine⟨auOm,?_⟩;refine⟨[],[(4,some 5)],⟨[],[(0,(true,.cells 133 [.own 4,.own 2,.mp 3])),(4,(true,.arr 151 2 ((g++[x]).map Ac.c))),(2,(true,.arr 155 2 (t.map Tile.c))),(3,(true,.map ⟨false,[.str]⟩ (Ce (g++[x]))))],5⟩,?_,?_,auSi,?_⟩
 .simp only[AB];simp(maxSteps:=9^9)(disch:=omega)only[ZA,simprocAttr,Bf]
 .simp[ZG]
 .simp(maxSteps:=9^9)(disch:=omega)only[ZA,simprocAttr,B9,B9]
def vT: ∀{H:An} {j:Nat} {e:Ap},hget H j=some e-> ∃p∈H,p.1=j
 |[],_,_,h=>by cases h
 |(i,x)::r,j,e,h=>by
  by_cases z:i=j
  .exact⟨_,CP ..,z⟩
  .have Z:(i==j)=false:=by simpa using z
   simp only[hget,Z,Dw] at h;obtain⟨p,O,Q⟩:=vT h;exact⟨p,Ah _ O,Q⟩
def A7.tw{A:Type}{ca:A->List AV}{H0:A->An}{k:Nat}{pre:A->Prop}{klB:Nat->Bool}{r0:A->AV}{H1:A->An}{cnt:Nat}{args:List AV}{tm:TmT}{h:An}{nx:Nat}{dst:Option Nat}{go:Az->Prop}(a:A)(τ:Nat->Nat)(ad:pre a)
 (hd: ∀j,Ai (H0 a) j=true->j<k/\τ j<nx)(aa: ∀i j,Ai (H0 a) i=true->Ai (H0 a) j=true->τ i=τ j->i=j)
 (hcl: ∀p∈H1 a,((Ai (H0 a) p.1=true/\klB p.1=true)\/(k<=p.1/\p.1<k+cnt))/\ ∀m∈p.2.2.nms,Ai (H0 a) m=true\/(k<=m/\m<k+cnt))
 (hx:args=AN (B2 τ k nx) (ca a)/\Du (hget h) (B2 τ k nx) (H0 a))
 (hb: ∀m∈(r0 a).nms,Ai (H0 a) m=true\/(k<=m/\m<k+cnt))
 (ah: ∀HH:An,(∀j e,hget (H1 a) j=some e->hget HH (B2 τ k nx j)=some (e.1,e.2.ren (B2 τ k nx)))->(∀m,m<nx->(∀j,Ai (H0 a) j=true->klB j=true->τ j≠m)->hget HH m=hget h m)->go ((⟨tm,HH,nx+cnt⟩:Az).put dst ((r0 a).ren (B2 τ k nx)))):
 A7 ca H0 k pre klB r0 H1 cnt args (hget h) nx (De go ⟨tm,h,nx⟩ dst):=by
 have hσ: ∀j,Ai (H0 a) j=true->B2 τ k nx j=τ j:=λj z=>Bt (hd j z).1
 have hσ2: ∀j,k<=j->B2 τ k nx j=nx+(j - k):=λj z=>Be auOm
 have ac: ∀m,(Ai (H0 a) m=true\/(k<=m/\m<k+cnt))->B2 τ k nx m<nx+cnt:=λm hm=>by
  rcases hm with hm|hm
  .rw[hσ m hm];have:=(hd m hm).2;omega
  .rw[hσ2 m hm.1];omega
 have ai: ∀i j,(Ai (H0 a) i=true\/k<=i)->(Ai (H0 a) j=true\/k<=j)->B2 τ k nx i=B2 τ k nx j->i=j:=λi j Z z h=>by
  rcases Z with Z|Z<;>rcases z with z|z
  .exact aa i j Z z (by rwa [hσ i Z,hσ j z] at h)
  .rw[hσ i Z,hσ2 j z] at h;have:=(hd i Z).2;omega
  .rw[hσ2 i Z,hσ j z] at h;have:=(hd j z).2;omega
  .rw[hσ2 i Z,hσ2 j z] at h;omega
 obtain⟨KL,hKL⟩: ∃KL,KL=((DF (H0 a)).filter klB).map τ:=⟨_,rfl⟩;have Q: ∀m,m∈KL↔ ∃j,Ai (H0 a) j=true/\klB j=true/\τ j=m:=λm=>by
  rw[hKL];simp only[BY,rM,iN,FJ]
 have ab: ∀p∈H1 a,Ai (H0 a) p.1=true\/k<=p.1:=λp hp=>((hcl p hp).1).imp (λh=>h.1) λh=>h.1
 refine⟨a,τ,(DF (H0 a)).map τ,KL,ad,hx.1,hx.2,⟨aa,λj z=>(hd j z).2,λj z=>BY.2 ⟨j,iN.2 z,rfl⟩,λm hm=> ?_,λj z hk=>(Q _).2 ⟨j,z,hk,rfl⟩⟩,?_⟩
 .obtain⟨j,z,O,rfl⟩:=(Q m).1 hm;exact⟨j,z,O,rfl⟩
 refine⟨?_,?_⟩
 .have af:((r0 a).ren (B2 τ k nx)).bel (nx+cnt)=true:=by
   refine X9 _ λm hm=> ?_
   rw[XC,BY] at hm;obtain⟨j,z,rfl⟩:=hm;exact ac j (hb j z)
  have ag:Ar (nx+cnt) (AW (B2 τ k nx) (H1 a))=true:=gL _ λp hp m hm=>ac m ((hcl p hp).2 m hm)
  rw[BA.ok_nr,af,ag,CZ,CZ]
  have: ∀H:An,(∀p∈H,(Ai (H0 a) p.1=true/\klB p.1=true)\/(k<=p.1/\p.1<k+cnt))->GO KL nx cnt (AW (B2 τ k nx) H)=true:=by
   intro H;induction H with
   |nil=>intro _;rfl
   |cons e r ih=>
    obtain⟨i,mu,e⟩:=e;intro hp;have O:=hp _ (CP ..);simp only at O;simp only[AW,GO,I8,B1,IK,Jf,Mw];refine⟨?_,ih λp h=>hp p (Ah _ h)⟩;rcases O with O|O
    .refine .inr ⟨?_,?_⟩
     .rw[GF,hσ i O.1];exact (Q _).2 ⟨i,O.1,O.2,rfl⟩
     .rw[hσ i O.1];exact (hd i O.1).2
    .refine .inl ?_;rw[hσ2 i O.1];omega
  exact this _ λp hp=>(hcl p hp).1
 rw[Az.app_nr];refine ah _ (λj e he=> ?_) (λm aj hm=> ?_)
 .obtain⟨p,hp,rfl⟩:=vT he;rw[J7,Qv5 (D:=λj=>Ai (H0 a) j=true\/k<=j) ai (H1 a) ab _ (ab p hp),he];rfl
 .rw[J7];cases hq:hget (AW (B2 τ k nx) (H1 a)) m with
  |some e=>
   obtain⟨j,e0,O,h2,_⟩:=qZ hq;rcases (hcl _ O).1 with z|z
   .simp only at z;rw[hσ j z.1] at h2;exact absurd h2 (hm j z.1 z.2)
   .simp only at z;rw[hσ2 j z.1] at h2;omega
  |none=>
   rw[Se,Be]
   .rfl
   .rw[GF];intro h;obtain⟨j,z,O,h2⟩:=(Q m).1 h;exact hm j z O h2
def A7.o0{A:Type}{ca:A->List AV}{H0:A->An}{k:Nat}{pre:A->Prop}{klB:Nat->Bool}{r0:A->AV}{H1:A->An}{cnt:Nat}{args:List AV}{h:HpT}{nx:Nat}{K:Al}(a:A)(τ:Nat->Nat)(O:pre a)(h0:H0 a=[])
 (hx:args=AN (B2 τ k nx) (ca a))(Q:K ((r0 a).ren (B2 τ k nx)) {use:=[],kill:=[],new:=AW (B2 τ k nx) (H1 a),cnt:=cnt}):A7 ca H0 k pre klB r0 H1 cnt args h nx K:=
 ⟨a,τ,[],[],O,hx,by rw[h0];trivial,by rw[h0];exact⟨λi j Z=>(by simp[Ai,hget] at Z),λj z=>(by simp[Ai,hget] at z),λj z=>(by simp[Ai,hget] at z),λn hn=>(by cases hn),λj z=>(by simp[Ai,hget] at z)⟩,Q⟩
end Go.Ae
namespace Go.Ae
open Go.Proofs
end Go.Ae
namespace Go.Ae
open Go.Proofs Go.Sort Go.Shelf
instance:Inhabited AR:=⟨⟨0,0⟩⟩
end Go.Ae
namespace Go.Ae
open Go.Proofs
end Go.Ae
namespace Go.Ae
open Go.Proofs Go.RowKit Go.Lib Go.Sort
end Go.Ae
namespace Go.Ae
open Go.Proofs
def EM.os{A:Type}{ar:List PK->Option A}{pre:A->Prop}{r0:A->AV}{H1:A->An}{cnt:Nat}{args:List AV}{h:HpT}{nx:Nat}{K:Al}(ps:List PK)(O:Co h args=some ps)(a:A)(Z:ar ps=some a)(z:pre a)
 (Q:K ((r0 a).ren (B2 (λj=>j) 0 nx)) {use:=Es h args,new:=AW (B2 (λj=>j) 0 nx) (H1 a),cnt:=cnt}):EM ar pre r0 H1 cnt args h nx K:=by
 unfold EM;rw[O];simp only[Jw,Z,DM];exact⟨z,Q⟩
end Go.Ae
namespace Go.Ae
open Go.Proofs Go.Lib
def scuC.pre(a:AP×Int):Prop:=(FF none a.1.Tiles=true/\a.1.Tiles.length<=500)/\1<=a.2/\a.2<=4
def BV(g:List Ac)(t:List Tile):An:=(0,(true,.cells 133 [.own 1,.own 2,.mp 3]))::(1,(true,.arr 151 2 (g.map Ac.c)))::(2,(true,.arrA 155 2 (Cx 10 t)))::(3,(true,.map ⟨false,[.str]⟩ (Ce g)))::AH 10 t.length (BX t)
def OO(g:List Ac)(t:List Tile)(j:Nat):Ai (BV g t) j=true↔j<4\/(10<=j/\j<10+t.length):=by
 simp only[Ai,BV,hget];rcases (by omega:j=0\/j=1\/j=2\/j=3\/4<=j) with rfl|rfl|rfl|rfl|h
 .simp
 .simp
 .simp
 .simp
 rw[AC _ _ (show 0≠j by omega),AC _ _ (show 1≠j by omega),AC _ _ (show 2≠j by omega),AC _ _ (show 3≠j by omega)];simp only[Dw];by_cases c:10<=j/\j<10+t.length
 .obtain⟨i,rfl⟩: ∃i,j=10+i:=⟨j - 10,auOm⟩;rw[CY _ _ _ _ auOm];simp;omega
 .rw[Qmh _ _ _ _ auOm];simp;omega
def uZ(g:List Ac)(t:List Tile){H0:An}(h: ∀j,Ai (BV g t) j=true->Ai H0 j=true):Ca H0 (BV g t):=by
 have hd: ∀j,(j<4\/(10<=j/\j<10+t.length))->Ai H0 j=true:=λj O=>h j ((OO g t j).2 O)
 simp only[BV,Ca];refine⟨λm hm=> ?_,λm hm=>by simp[Ad.nms] at hm,λm hm=> ?_,λm hm=>by simp[Ad.nms] at hm,gC λi z m hm=>by simp[BX,Ad.nms] at hm⟩
 .simp[Ad.nms,Av,AV.nms] at hm;exact hd m auOm
 .simp only[Ad.nms] at hm;obtain⟨r,Q,hm⟩:=Fx.1 hm;obtain⟨i,z,rfl⟩:=BY.1 Q
  have:=AU.1 z
  simp[Av,AV.nms] at hm;exact hd m auOm
def iE(g:List Ac)(t:List Tile){N:Nat}(h:10+t.length<=N):Ar N (BV g t)=true:=by
 simp only[BV,Ar];rw[Ll _ _ _ (λi=>by simp[Ar,BX]),Lc _ _ _ h];simp[A9,AV.bel];omega
def iC(g:List Ac)(t:List Tile){N:Nat}(h:10+t.length<=N):B5 N (BV g t)=true:=by
 simp only[BV,B5];rw[K2 _ _ _ _ h];simp;omega
abbrev cU:={a:Mk×MM×List MM//a.1.2.length<=1000/\a.2.2.length<=100}
def mfC.ca(a:cU):List AV:=[.ptr 0 0,.im (.str a.1.2.1),.own 4]
def mfC.H0(a:cU):An:=(4,(true,.arr 9 1 (a.1.2.2.map FD)))::BV a.1.1.1 a.1.1.2
def mfC.H1(a:cU):An:=[(0,(true,.cells 133 [.own 1,.own 2003,.mp 3])),(2003,(true,.arrA 155 2 (Cx 10 a.1.1.2++[[.im (.str a.1.2.1),.own 2001]]))),(2001,(true,.arr 2 1 ((a.1.2.2.map (Ax a.1.1.1)).map Aj)))]
def mfC.row:A8:=A7 mfC.ca mfC.H0 2000 (λ_=>True) Bq (λa=> .im (.int .i64 a.1.1.2.length)) mfC.H1 20
def XV(a:cU)(j:Nat):Ai (mfC.H0 a) j=true↔j<5\/(10<=j/\j<10+a.1.1.2.length):=by
 have h:=OO a.1.1.1 a.1.1.2 j;simp only[Ai,mfC.H0,hget] at h⊢;by_cases z:j=4
 .subst z;simp
 .rw[AC _ _ (show 4≠j by omega)];simp only[Dw];rw[h];omega
def mfC.hbel(a:cU):A9 2000 (mfC.ca a)=true:=by simp[mfC.ca,A9,AV.bel]
def mfC.hbH(a:cU):Ar 2000 (mfC.H0 a)=true:=by
 simp only[mfC.H0,Ar];exact iE _ _ (by have:=a.2.1;omega)
def mfC.hkH(a:cU):B5 2000 (mfC.H0 a)=true:=by
 simp only[mfC.H0,B5];rw[iC _ _ (by have:=a.2.1;omega)];rfl
def mfC.hnm(a:cU):Ca (mfC.H0 a) (mfC.H0 a):=by
 conv=>arg 2;unfold mfC.H0
 simp only[Ca];refine⟨λm hm=>by simp[Ad.nms] at hm,uZ _ _ λj z=> ?_⟩;rw[XV]
 have:=(OO _ _ j).1 z
 omega
def iD{f:List AV->Option (List AV)}: ∀{a b a' b':List (List AV)},Aw f a=some a'->Aw f b=some b'->Aw f (a++b)=some (a'++b')
 |[],b,a',b',z,O=>by
  simp only[Aw,AS] at z;subst z;exact O
 |x::r,b,a',b',z,O=>by
  simp only[Aw] at z;cases hx:f x with
  |none=>rw[hx] at z;simp at z
  |some y=>
   rw[hx] at z;cases hr:Aw f r with
   |none=>rw[hr] at z;simp at z
   |some Q=>
    rw[hr] at z;simp only[AS] at z;subst z
    have:=iD hr O
    simp only[BZ,Aw,hx,this]
def XY{π:List (Nat×Option Nat)}{b:Nat}{t:List Tile}(h: ∀i,i<t.length->pm π (b+i)=some (b+i)):Hm π (Cx b t) (Cx b t):=by
 rw[Sm];refine⟨rfl,λi Z r2 z Q=> ?_⟩;obtain rfl:=AJ (z.symm.trans Q);have O:i<t.length:=by
  have:=(Bi.1 z).1
  simpa[Cx] using this
 rw[Cx,Dp,ER O] at z;obtain rfl:=AJ z;simp only[Dl,mt,h i O,DS,Ly]
def mfC.ok:AE 77 mfC.row:=by
 refine ow tN Tryz.func77 (exB:=λj=>Nat.ble 2000 j) (R:=λa r=>r= .im (.int .i64 a.1.1.2.length)) (λ_=>rfl)
  (λa=>⟨mfC.hbel a,mfC.hbH a,mfC.hkH a,mfC.hnm a⟩) (λa p hp=> ?_) LeVq ?_
 rotate_left
 intro a ag;simp only[Tryz.f77,mfC.ca,mfC.H0,BV];simp only[ZA,simprocAttr];rotate_left
 .simp only[mfC.H1,B0,D2,Rl] at hp;rcases hp with rfl|rfl|rfl
  .exact .inl ⟨by simp only;omega,rfl,(XV _ _).2 (.inl (by simp only;omega))⟩
  .exact .inr ⟨by simp only;omega,by simp only;omega,rfl,rfl⟩
  .exact .inr ⟨by simp only;omega,by simp only;omega,rfl,rfl⟩
 obtain⟨⟨⟨g,t⟩,x,l⟩,p1,p2⟩:=a;simp only at p1 p2⊢;intro _;have Q:Bp (AH 10 t.length (BX t)) [2000]=AH 10 t.length (BX t):=EN auOm;have O:Bp (AH 10 t.length (BX t)) [2001]=AH 10 t.length (BX t):=EN auOm;have aa:Bp (AH 10 t.length (BX t)) [0]=AH 10 t.length (BX t):=EN auOm;have af:Bp (AH 10 t.length (BX t)) [2]=AH 10 t.length (BX t):=EN auOm;refine AY.ren ⟨{k:Nat//k<=l.length},λk=>⟨[(14,.im (.int .i64 k.1)),(13,.im (.int .i64 l.length)),(12,.own 4),(7,.ptr 2000 0),(0,.ptr 0 0),(6,.im (.int .i64 0))],(2000,(true,.cells 155 [.im (.str x),.own 2001]))::(2001,(true,.arr 2 1 (((l.take k.1).map (Ax g)).map Aj)))::(4,(true,.arr 9 1 (l.map FD)))::BV g t,2002⟩,λk=>l.length - k.1,λk=>⟨?_,auSi⟩,⟨⟨0,Ir _⟩,[(2001,none)],?_⟩,λk=> ?_⟩
 .simp only[ZG,iE g t (show 10+t.length<=2002 by omega),iC g t (show 10+t.length<=2002 by omega)];simp
 .simp only[eF,Gl,Bb,Q];refine OH (A:=[_,_,_,_,_,_,_]) (λi=>10+i) (by simp[JP]) (by simp[EZ,pm,Dg]) (λi z=>by simp only[pm];rw[Be auOm]) (λi j _ _ h=>auOm) (λm hm i z=>by simp[EZ,pm] at hm;omega) ?_ ?_ (λi z=> ?_)
  .simp only[EQ];simp only[ZA,simprocAttr]
  .simp only[F6];simp only[ZA,simprocAttr];exact XY λi z=>by simp only[pm];rw[Be auOm]
  .simp only[Ci,hget,AC _ _ (show 2000≠10+i by omega),AC _ _ (show 4≠10+i by omega),AC _ _ (show 0≠10+i by omega),AC _ _ (show 1≠10+i by omega),AC _ _ (show 2≠10+i by omega),AC _ _ (show 3≠10+i by omega),Dw];rw[CY _ _ _ _ z];exact⟨rfl,rfl⟩
 obtain⟨k,hk⟩:=k;have hw:IntKind.i64.wrap ((k:Int)+1)=((k+1:Nat):Int):=by rw[AG auOm auOm];omega
 simp only[BV];simp only[ZA,simprocAttr,Aq,E6,J9,Pv,AL,E6,J9,Pv];refine⟨λZ=>⟨Z,Z,λv hv=> ?_⟩,λZ=> ?_⟩
 .have hr:((l.take k).map (Ax g)).map Aj++[[D.int .i64 (Ax g v)]]=((l.take (k+1)).map (Ax g)).map Aj:=by
   rw[qW hv,Dj,Dj];rfl
  have ah:(l.take k).length<=100:=by rw[Eb];omega
  have ai: ∀e,Ax g v=e->True:=λ_ _=>trivial
  refine vI g v _ _ ?_ λhz=> ?_
  .simp only[ZA,simprocAttr,Aq,hr,hw,Bb,Q,O];refine⟨auOm,⟨k+1,auOm⟩,[(2001,some 2003)],by simp only;omega,?_⟩;refine OH (A:=[_,_,_,_,_,_,_]) (λi=>10+i) (by simp[JP]) (by simp[EZ,pm,Dg]) (λi z=>by simp only[pm];rw[Be auOm]) (λi j _ _ h=>auOm) (λm hm i z=>by simp[EZ,pm] at hm;omega) ?_ ?_ (λi z=> ?_)
   .simp only[EQ];simp only[ZA,simprocAttr]
   .simp only[F6];simp only[ZA,simprocAttr];exact XY λi z=>by simp only[pm];rw[Be auOm]
   .simp only[Ci,hget,AC _ _ (show 2000≠10+i by omega),AC _ _ (show 2003≠10+i by omega),AC _ _ (show 2002≠10+i by omega),AC _ _ (show 4≠10+i by omega),AC _ _ (show 0≠10+i by omega),AC _ _ (show 1≠10+i by omega),AC _ _ (show 2≠10+i by omega),AC _ _ (show 3≠10+i by omega),Dw];rw[CY _ _ _ _ z];exact⟨rfl,rfl⟩
  .rw[hz] at hr;simp only[simprocAttr,hr,hw,Bb,Q,O];refine⟨auOm,⟨k+1,auOm⟩,[(2001,some 2003)],by simp only;omega,?_⟩;refine OH (A:=[_,_,_,_,_,_,_]) (λi=>10+i) (by simp[JP]) (by simp[EZ,pm,Dg]) (λi z=>by simp only[pm];rw[Be auOm]) (λi j _ _ h=>auOm) (λm hm i z=>by simp[EZ,pm] at hm;omega) ?_ ?_ (λi z=> ?_)
   .simp only[EQ];simp only[ZA,simprocAttr]
   .simp only[F6];simp only[ZA,simprocAttr];exact XY λi z=>by simp only[pm];rw[Be auOm]
   .simp only[Ci,hget,AC _ _ (show 2000≠10+i by omega),AC _ _ (show 2003≠10+i by omega),AC _ _ (show 2002≠10+i by omega),AC _ _ (show 4≠10+i by omega),AC _ _ (show 0≠10+i by omega),AC _ _ (show 1≠10+i by omega),AC _ _ (show 2≠10+i by omega),AC _ _ (show 3≠10+i by omega),Dw];rw[CY _ _ _ _ z];exact⟨rfl,rfl⟩
 .obtain rfl:k=l.length:=auOm;rw[Pj];have ad:(Cx 10 t).length=t.length:=by simp[Cx]
  have ab:Bp (AH 10 t.length (BX t)) [2,2002]=AH 10 t.length (BX t):=KS _ _ _ _ (λy hy=>by simp at hy;omega);refine⟨auOm,?_,by rw[xC];rfl,λ_=> ?_⟩
  .rw[L2,Lc _ _ _ auOm];simp[A9,AV.bel]
  simp only[Bb,aa,ab];have ac: ∀i,i<t.length->hget ((0,(true,Ad.cells 133 [AV.own 1,AV.own 2003,AV.mp 3]))::(2003,(true,Ad.arrA 155 2 (Cx 10 t++[[AV.im (D.str x),AV.own 2001]])))::(2000,(true,Ad.cells 155 [AV.im (D.str x),AV.own 2001]))::(2001,(true,Ad.arr 2 1 (List.map Aj (List.map (Ax g) l))))::(4,(true,Ad.arr 9 1 (List.map FD l)))::(1,(true,Ad.arr 151 2 (List.map Ac.c g)))::(3,(true,Ad.map ⟨false,[.str]⟩ (Ce g)))::AH 10 t.length (BX t)) (10+i)=some (BX t i):=λi z=>by
   simp only[hget,AC _ _ (show 0≠10+i by omega),AC _ _ (show 2003≠10+i by omega),AC _ _ (show 2000≠10+i by omega),AC _ _ (show 2001≠10+i by omega),AC _ _ (show 4≠10+i by omega),AC _ _ (show 1≠10+i by omega),AC _ _ (show 3≠10+i by omega),Dw];exact CY _ _ _ _ z
  refine⟨⟨auSi,by simp[Bq],auSi,by simp[Bq],auSi,yX _ _ _ _ _ λi z=> .inr (ac i z)⟩,by rw[BR,ad];simp only[zK];rw[AG auOm auOm];omega,?_⟩;have hk: ∀m,(m<5\/(10<=m/\m<10+t.length)\/(2000<=m/\m<2020))->Hl ((4,(true,Ad.arr 9 1 (List.map FD l)))::(0,(true,Ad.cells 133 [AV.own 1,AV.own 2,AV.mp 3]))::(1,(true,Ad.arr 151 2 (List.map Ac.c g)))::(2,(true,Ad.arrA 155 2 (Cx 10 t)))::(3,(true,Ad.map ⟨false,[.str]⟩ (Ce g)))::AH 10 t.length (BX t)) 2000 20 (λj=>decide (2000<=j)) m=some m:=λm hm=>by
   have hd:=XV ⟨((g,t),x,l),p1,p2⟩ m;simp only[mfC.H0,BV] at hd;simp only[Hl];by_cases c:m<5\/(10<=m/\m<10+t.length)
   .rw[hd.2 c];rfl
   .have hb:(decide (2000<=m) && (Nat.ble 2000 m && Nat.blt m (2000+20)))=true:=by
     simp only[B1,CK,Jf,Mw];omega
    rw[hb,lG];rfl
  simp only[mfC.H1,E4];refine⟨⟨rfl,?_⟩,⟨rfl,?_⟩,⟨rfl,rfl⟩,trivial⟩
  .simp only[Cd,Aw,Bs,hk 1 auOm,hk 2003 auOm,hk 3 auOm,kp];rfl
  .simp only[Cd];rw[iD (OJ (b:=10) (λi z=>hk (10+i) auOm)) (b':=[[.im (.str x),.own 2001]]) (by simp only[Aw,Bs,hk 2001 auOm,kp])];rfl
abbrev ClA:={a:Mk×(AI×Nat)×Nat×Nat//a.1.2.length<=900}
def clC.pre(a:ClA):Prop:=FB a.1.2.1.1/\(a.1.2.1.1.Glues.length<=1000/\a.1.2.1.1.Tiles.length<=1000)/\(1<=a.1.2.1.2/\a.1.2.1.2<=4)/\a.1.2.2.1<a.1.2.1.1.Tiles.length/\a.1.2.2.2<a.1.2.1.2*a.1.2.1.2
def reF(F m:Nat)(G:Nat->Nat):List (Nat×Option Nat):=(List.range m).map λi=>(F+i,some (G i))
def Vc(F m:Nat)(G:Nat->Nat)(x:Nat):pm (reF F m G) x=if F<=x/\x<F+m then some (G (x - F)) else some x:=by
 have Q: ∀l:List Nat,pm (l.map λi=>(F+i,some (G i))) x=if F<=x/\x - F∈l then some (G (x - F)) else some x:=by
  intro l;induction l with
  |nil=>simp[pm]
  |cons a r ih=>
   simp only[Br,pm];by_cases c:F+a=x
   .subst c;rw[Bt rfl,Bt ⟨auOm,auSi⟩];rw[show F+a - F=a by omega]
   .rw[Be c,ih];by_cases O:F<=x/\x - F∈r
    .rw[Bt O,Bt ⟨O.1,Ah _ O.2⟩]
    .rw[Be O,Be];rintro⟨Z,z⟩;rcases B0.1 z with z|z
     .omega
     .exact O ⟨Z,z⟩
 rw[reF,Q];by_cases c:F<=x/\x<F+m
 .rw[Bt c,Bt ⟨c.1,AU.2 auOm⟩]
 .rw[Be c,Be];rintro⟨Z,z⟩
  have:=AU.1 z
  omega
def Zy{lo F m:Nat}{G:Nat->Nat}(h:lo<=F):JP lo (reF F m G):=by
 have z: ∀l:List Nat,JP lo (l.map λi=>(F+i,some (G i))):=by
  intro l;induction l with
  |nil=>trivial
  |cons a r ih=>exact⟨auOm,ih⟩
 exact z _
def DU:D:= .agg [.sl true 0 [],.sl true 0 [],.sl true 0 [],.int .i64 0]
end Go.Ae
namespace Go.Ae
open Go.Proofs
def gV{A:Type}(f:Nat->A)(n:Nat):(FE f n).length=n:=by simp[FE]
def uN{A:Type}(f:Nat->A)(n:Nat):FE f (n+1)=FE f n++[f n]:=by simp[FE,Xi]
def Ow{A:Type}{f:Nat->A}{n i:Nat}(h:i<n):(FE f n)[i]? =some (f i):=by simp only[FE,Dp];rw[ER h];rfl
def totO(M:List (List Ew)):Nat:=(M.map List.length).sum
def mkOO.pre(a:List (List Ew)×Int):Prop:=a.1.length<=1048576/\0<=a.2/\a.2+3*totO a.1<=1099511627776
def FU(l:List AA)(k:Int):Int:=if l=FE (pF k) l.length then k+3*l.length else -1
def TT(k:Int)(n:Nat):FU (FE (pF k) n) k=k+3*n:=by
 simp only[FU,gV,Ff]
def heldP_.fv(a:(List AA)×Int):Int:=(FU) (a.1) (a.2)
def heldP_.row:A8:=Cj (b2 (qS AA.d_le AA.c_n) qI) rI (λa=>0<=a.2/\a.2+3*a.1.length<=1099511627776) heldP_.fv
def heldP_.q:=Cf (R:=heldP_.row) rfl
def heldP_.ok:AE 90 heldP_.row:=by
 refine EK tN Tryz.func90 ?_;intro a z;simp only[Tryz.f90];simp only[ZA,simprocAttr,heldP_.fv];obtain⟨l,k⟩:=a;simp only at z⊢;obtain⟨h1,h2⟩:=z;refine AY.old ⟨{i:Nat//i<=l.length/\l.take i=FE (pF k) i},λi=>⟨[(5,.im (.int .i64 i.1)),(4,.im (.int .i64 0)),(1,.im (.int .i64 (k+3*i.1))),(0,.im (.sl false 3 (l.map AA.c)))],[],0⟩,λi=>l.length - i.1,λi=>⟨by simp[ZG],auSi⟩,⟨⟨0,by simp[FE]⟩,by simp only[ZA,simprocAttr,sub];simp⟩,λi=> ?_⟩;obtain⟨i,ab,O⟩:=i;simp only[ZA,simprocAttr,D.sc,D.scs,AO,sub,AL];intro _;refine⟨λZ=>⟨Z,λx hx=> ?_⟩,λZ=> ?_⟩
 .have w1:IntKind.i64.wrap (k+3*(i:Int)+1)=k+3*(i:Int)+1:=AG auOm auOm;have w2:IntKind.i64.wrap (k+3*(i:Int)+1+1)=k+3*(i:Int)+2:=(AG auOm auOm).trans auOm;have w3:IntKind.i64.wrap (k+3*(i:Int)+2+1)=k+3*((i+1:Nat):Int):=(AG auOm auOm).trans auOm;simp only[w1,w2,w3];have Q:x≠pF k i-> -1=FU l k:=λc=>by
   simp only[FU];rw[Be λh=> ?_];rw[h,Ow Z] at hx;exact c (AJ hx).symm
  refine⟨λc=>Q λh=>c (by rw[h];rfl),λc1=>⟨Z,λy hy=> ?_⟩⟩;obtain rfl:x=y:=AJ (hx.symm.trans hy);refine⟨λc=>Q λh=>c (by rw[h];rfl),λc2=>⟨Z,λy hy=> ?_⟩⟩;obtain rfl:x=y:=AJ (hx.symm.trans hy);refine⟨λc=>Q λh=>c (by rw[h];rfl),λc3=>⟨⟨i+1,auOm,?_⟩,by simp only;omega,by rw[AG auOm auOm];simp only;omega,rfl⟩⟩;have e:x=pF k i:=by
   obtain⟨⟨u,v⟩,t⟩:=x;simp only[Ch] at c1 c2 c3;simp only[pF,c1,c2,c3]
  rw[qW hx,O,uN,e]
 .have aa:i=l.length:=auOm;subst aa;rw[Pj] at O;simp only[FU];rw[Bt O]
def PL(x:List AA)(k:Int):FU x k=k+3*x.length\/FU x k= -1:=by
 simp only[FU];split
 .exact .inl rfl
 .exact .inr rfl
def heldA_.fv(a:AP×Int):Int:=(λa k=>FU a.Tiles k) (a.1) (a.2)
def heldA_.row:A8:=Cj (b2 (qR AP.d_le) qI) rI (λa=>0<=a.2/\a.2+3*a.1.Tiles.length<=1099511627776) heldA_.fv
def heldA_.q:=Cf (R:=heldA_.row) rfl
def heldA_.ok:AE 45 heldA_.row:=by
 refine EK (tC heldP_.ok tN) Tryz.func45 ?_;intro a z;simp only[Tryz.f45];simp only[ZA,simprocAttr,Aa,heldA_.fv,heldP_.q,heldP_.fv,D.sc,D.scs,AO];obtain⟨⟨x⟩,k⟩:=a;obtain⟨O,Q⟩:=z;simp only at O Q⊢;refine⟨⟨O,Q⟩,?_⟩;rcases PL x k with h|h
 .rw[Be auOm];trivial
 .rw[Bt auOm];exact h.symm
def vN.callU{A:Type}{ar:List PK->Option A}{pre:A->Prop}{re:A->D}{args:List AV}{tm:TmT}{h:An}{nx:Nat}{dst:Option Nat}{go:IY}{cl:List (List Nat)}{i:Nat}{acc:List Fp}(ps:List PK)(Q:I1 (hget h) args=some (ps,[]))(a:A)(Z:ar ps=some a)(z:pre a)(hq:I7 acc=true)(hu:Av args=[])
 (O:go (⟨i,[],[],nx,0⟩::acc) ((⟨tm,h,nx⟩:Az).put dst (.im (re a)))):Ei ar pre re args (hget h) nx (FT cl i acc go ⟨tm,h,nx⟩ dst):=by
 unfold Ei;rw[Q,hu];simp only[WI,Z,DM,PE];refine⟨z,?_,?_,?_⟩
 .rw[BA.ok_nr];simp[AV.bel,Ar,GO]
 .exact X7 _ _ _ _ hq
 .rw[Az.app_nr,Bb,lC];exact O
def gU(cl:List (List Nat))(j:Nat)(use touch z:List Nat): ∀acc:List Fp,(acc.all λf=>D0 cl f.i j)=true->FR cl j use touch z acc=true
 |[],_=>rfl
 |f::r,h=>by
  rw[E6,B1] at h;simp only[FR,YZ,h.1,gU cl j use touch z r h.2,Jg];cases (GE (use++touch) f.touch && (GE touch f.use && Fm f.nx f.cnt z))<;>rfl
def EM.nwA{A:Type}{ar:List PK->Option A}{pre:A->Prop}{r0:A->AV}{H1:A->An}{cnt:Nat}{args:List AV}{tm:TmT}{h:An}{nx:Nat}{dst:Option Nat}{go:IY}{cl:List (List Nat)}{i:Nat}{acc:List Fp}(ps:List PK)(aa:Co (hget h) args=some ps)(a:A)(ha:ar ps=some a)(O:pre a)
 (hu:Es (hget h) args=[])(z:(acc.all λf=>D0 cl f.i i)=true)
 (hcl: ∀p∈H1 a,p.1<cnt/\ ∀m∈p.2.2.nms,m<cnt)(hb: ∀m∈(r0 a).nms,m<cnt)
 (Z: ∀Q:An,(∀j e,hget (H1 a) j=some e->hget Q (nx+j)=some (e.1,e.2.ren λj=>nx+j))->(∀m,m<nx->hget Q m=hget h m)->go (⟨i,[],GL (AW (λj=>nx+j) (H1 a)),nx,cnt⟩::acc) ((⟨tm,Q,nx+cnt⟩:Az).put dst ((r0 a).ren λj=>nx+j))):
 EM ar pre r0 H1 cnt args (hget h) nx (FT cl i acc go ⟨tm,h,nx⟩ dst):=by
 have e:B2 (λj=>j) 0 nx=λj=>nx+j:=funext λj=>by simp[B2]
 unfold EM;rw[aa];simp only[Jw,ha,DM];rw[e,hu];have hk:De (λs=>go (⟨i,[],GL (AW (λj=>nx+j) (H1 a)),nx,cnt⟩::acc) s) ⟨tm,h,nx⟩ dst ((r0 a).ren λj=>nx+j) {use:=[],new:=AW (λj=>nx+j) (H1 a),cnt:=cnt}:=XE (λ_=>rfl) rfl hcl hb Z;obtain⟨k1,k2⟩:=hk;exact⟨O,k1,gU _ _ _ _ _ _ z,k2⟩
def KX{H:An}{n m:Nat}(h:n≠m):hget (Bp H [n]) m=hget H m:=J2 _ _ _ h
def pg{H H':An}{k m:Nat}{e:Ap}{x:Option Ap}(z:(k,e)::Bp H [k]=H')(h:k≠m)(g:hget H m=x):hget H' m=x:=by subst z;exact (Dn _ _ _ h).trans g
section
variable {A B:Type}{k:AK A}{r:RK B}{pre:A->Prop}{f:A->B}{args:List AV}{tm:TmT}{h:An}{nx:Nat}{dst:Option Nat}
def vK.call{go:Az->Prop}(ps:List PK)(Q:I1 (hget h) args=some (ps,[]))(a:A)(Z:k.r ps=some a)(z:pre a)(O:go ((⟨tm,h,nx⟩:Az).put dst (.im (r.e (f a))))):vK k r pre f args (hget h) nx (De go ⟨tm,h,nx⟩ dst):=vN.call ps Q a Z z O
def Cj.call{go:Az->Prop}(ps:List PK)(Q:Co (hget h) args=some ps)(a:A)(Z:k.r ps=some a)(z:pre a)(O:go ((⟨tm,h,nx⟩:Az).put dst (.im (r.e (f a))))):Cj k r pre f args (hget h) nx (De go ⟨tm,h,nx⟩ dst):=vF.call ps Q a Z z O
def vK.callA{go:IY}{cl:List (List Nat)}{i:Nat}{acc:List Fp}(ps:List PK)(Q:I1 (hget h) args=some (ps,[]))(a:A)(Z:k.r ps=some a)(z:pre a)(hq:I7 acc=true)(O: ∀u,go (⟨i,u,[],nx,0⟩::acc) ((⟨tm,h,nx⟩:Az).put dst (.im (r.e (f a))))):vK k r pre f args (hget h) nx (FT cl i acc go ⟨tm,h,nx⟩ dst):=vN.callA ps Q a Z z hq O
def vK.callU{go:IY}{cl:List (List Nat)}{i:Nat}{acc:List Fp}(ps:List PK)(Q:I1 (hget h) args=some (ps,[]))(a:A)(Z:k.r ps=some a)(z:pre a)(hq:I7 acc=true)(hu:Av args=[])(O:go (⟨i,[],[],nx,0⟩::acc) ((⟨tm,h,nx⟩:Az).put dst (.im (r.e (f a))))):vK k r pre f args (hget h) nx (FT cl i acc go ⟨tm,h,nx⟩ dst):=vN.callU ps Q a Z z hq hu O
def Cj.callA{go:IY}{cl:List (List Nat)}{i:Nat}{acc:List Fp}(ps:List PK)(Q:Co (hget h) args=some ps)(a:A)(Z:k.r ps=some a)(z:pre a)(hq:I7 acc=true)(O: ∀u,go (⟨i,u,[],nx,0⟩::acc) ((⟨tm,h,nx⟩:Az).put dst (.im (r.e (f a))))):Cj k r pre f args (hget h) nx (FT cl i acc go ⟨tm,h,nx⟩ dst):=vF.callA ps Q a Z z hq O
end
end Go.Ae
namespace Go.Ae
open Go.Proofs Go.Lib
def hgE(k:Int)(i:Nat):Ac:=⟨GZ (k+2*i),k+2*i+1⟩
def Fy(l:List Ac)(k:Int):Int:=if l=FE (hgE k) l.length then k+2*l.length else -1
def heldG_.fv(a:(List Ac)×Int):Int:=(Fy) (a.1) (a.2)
def heldG_.row:A8:=Cj (b2 (qS Ac.d_le Ac.c_n) qI) rI (λa=>0<=a.2/\a.2+2*a.1.length<=1099511627776) heldG_.fv
def heldG_.q:=Cf (R:=heldG_.row) rfl
def heldG_.ok:AE 88 heldG_.row:=by
 refine EK (tC mkText.ok tN) Tryz.func88 ?_;intro a z;simp only[Tryz.f88];simp only[ZA,simprocAttr,heldG_.fv];obtain⟨l,k⟩:=a;simp only at z⊢;obtain⟨h1,h2⟩:=z;refine AY.old ⟨{i:Nat//i<=l.length/\l.take i=FE (hgE k) i},λi=>⟨[(5,.im (.int .i64 i.1)),(4,.im (.int .i64 0)),(1,.im (.int .i64 (k+2*i.1))),(0,.im (.sl false 2 (l.map Ac.c)))],[],0⟩,λi=>l.length - i.1,λi=>⟨by simp[ZG],auSi⟩,⟨⟨0,by simp[FE]⟩,by simp only[ZA,simprocAttr,sub];simp⟩,λi=> ?_⟩;obtain⟨i,ab,O⟩:=i;simp only[ZA,simprocAttr,mkText.q,mkText.fv,D.sc,D.scs,AO,sub,AL];intro _;refine⟨λZ=>⟨Z,λx hx=> ?_⟩,λZ=> ?_⟩
 .have w1:IntKind.i64.wrap (k+2*(i:Int)+1)=k+2*(i:Int)+1:=AG auOm auOm;have w2:IntKind.i64.wrap (k+2*(i:Int)+1+1)=k+2*((i+1:Nat):Int):=(AG auOm auOm).trans auOm;simp only[w1,w2];have Q:x≠hgE k i-> -1=Fy l k:=λc=>by
   simp only[Fy];rw[Be λh=> ?_];rw[h,Ow Z] at hx;exact c (AJ hx).symm
  refine⟨auOm,λc=>Q λh=>c (by rw[h];rfl),λc1=>⟨Z,λy hy=> ?_⟩⟩;obtain rfl:x=y:=AJ (hx.symm.trans hy);refine⟨λc=>Q λh=>c (by rw[h];rfl),λc2=>⟨⟨i+1,auOm,?_⟩,by simp only;omega,by rw[AG auOm auOm];simp only;omega,rfl⟩⟩;have e:x=hgE k i:=by
   obtain⟨u,v⟩:=x;simp only[Ch] at c1 c2;simp only[hgE,c1,c2]
  rw[qW hx,O,uN,e]
 .have aa:i=l.length:=auOm;subst aa;rw[Pj] at O;simp only[Fy];rw[Bt O]
def vD(l:List Ac)(k:Int):Fy l k=k+2*l.length\/Fy l k= -1:=by
 simp only[Fy];split
 .exact .inl rfl
 .exact .inr rfl
def EO:List Tile->Int->Int
 |[],k=>k
 |x::r,k=>if x.Name=GZ k then (if Gp x.Sides (k+1)<0 then -1 else EO r (Gp x.Sides (k+1))) else -1
def EI:List Tile->Int
 |[]=>0
 |x::r=>1+x.Sides.length+EI r
def RQ: ∀l:List Tile,0<=EI l
 |[]=>by simp[EI]
 |x::r=>by have:=RQ r;simp only[EI];omega
def heldT_.fv(a:(List Tile)×Int):Int:=(EO) (a.1) (a.2)
def heldT_.row:A8:=Cj (b2 (qS Tile.d_le Tile.c_n) qI) rI (λa=>0<=a.2/\a.2+EI a.1<=1099511627776) heldT_.fv
def heldT_.q:=Cf (R:=heldT_.row) rfl
def heldT_.ok:AE 89 heldT_.row:=by
 refine EK (tC mkText.ok (tC heldIS.ok tN)) Tryz.func89 ?_;intro a O;simp only[Tryz.f89];simp only[ZA,simprocAttr,heldT_.fv];obtain⟨M,k⟩:=a;simp only at O⊢;obtain⟨h1,h2⟩:=O;refine AY.old ⟨{i:Nat×Int//i.1<=M.length/\EO M k=EO (M.drop i.1) i.2/\0<=i.2/\i.2+EI (M.drop i.1)<=1099511627776},λi=>⟨[(5,.im (.int .i64 i.1.1)),(4,.im (.int .i64 0)),(1,.im (.int .i64 i.1.2)),(0,.im (.sl false 2 (M.map Tile.c)))],[],0⟩,λi=>M.length - i.1.1,λi=>⟨by simp[ZG],auSi⟩,⟨⟨(0,k),Ir _,by simp only[Mv],h1,by simp only[Mv];exact h2⟩,by simp only[ZA,simprocAttr,sub]⟩,λi=> ?_⟩;obtain⟨⟨i,q⟩,aa,z,ab,Q⟩:=i;simp only at aa z ab Q;simp only[ZA,simprocAttr,Aa,mkText.q,mkText.fv,heldIS.q,heldIS.fv,D.sc,D.scs,AO,sub,AL];intro _;refine⟨λZ=>⟨Z,λx hx=> ?_⟩,λZ=> ?_⟩
 .rw[FH hx] at z Q;have ht:EI (x::M.drop (i+1))=1+x.Sides.length+EI (M.drop (i+1)):=rfl;have ac:=RQ (M.drop (i+1));rw[ht] at Q;have w1:IntKind.i64.wrap (q+1)=q+1:=AG auOm auOm;simp only[w1];refine⟨auOm,λc=> ?_,λc1=>⟨Z,λy hy=> ?_⟩⟩
  .rw[z,EO,Be c]
  obtain rfl:x=y:=AJ (hx.symm.trans hy);have c1:=Ch.1 c1;refine⟨⟨auOm,auOm⟩,λc=> ?_,λc=>⟨⟨(i+1,Gp x.Sides (q+1)),?_⟩,by simp only;omega,by rw[AG auOm auOm];simp only;omega,rfl⟩⟩
  .rw[z,EO,Bt c1,Bt c]
  .rcases vB x.Sides (q+1) with e|e
   .simp only;refine⟨auOm,?_,auOm,auOm⟩;rw[z,EO,Bt c1,Be c]
   .omega
 .rw[Bm auOm,EO] at z;exact z.symm
def Hq(s:AI)(k:Int):Int:=if Fy s.Glues k<0 then -1 else if EO s.Tiles (Fy s.Glues k)<0 then -1 else EO s.Tiles (Fy s.Glues k)
def heldTS_.fv(a:AI×Int):Int:=(Hq) (a.1) (a.2)
def heldTS_.row:A8:=Cj (b2 (qR AI.d_le) qI) rI (λa=>0<=a.2/\a.2+2*a.1.Glues.length+EI a.1.Tiles<=1099511627776) heldTS_.fv
def heldTS_.q:=Cf (R:=heldTS_.row) rfl
def heldTS_.ok:AE 44 heldTS_.row:=by
 refine EK (tC heldG_.ok (tC heldT_.ok tN)) Tryz.func44 ?_;intro a z;simp only[Tryz.f44];simp only[ZA,simprocAttr,Aa,heldTS_.fv,heldG_.q,heldG_.fv,heldT_.q,heldT_.fv,D.sc,D.scs,AO];obtain⟨s,k⟩:=a;obtain⟨Q,Z⟩:=z;simp only at Q Z⊢;have aa:=RQ s.Tiles;simp only[Hq];refine⟨⟨Q,auOm⟩,?_⟩;by_cases c:Fy s.Glues k<0
 .rw[Bt c,Bt c]
 .have hg:=vD s.Glues k;rw[Be c,Be c];refine⟨⟨auOm,auOm⟩,?_⟩;by_cases O:EO s.Tiles (Fy s.Glues k)<0
  .rw[Bt O,Bt O]
  .rw[Be O,Be O]
def XW(s:AM)(k:Int):Int:=if Hq s.Set k<0 then -1 else if FU s.Seed.Tiles (Hq s.Set k)<0 then -1 else FU s.Seed.Tiles (Hq s.Set k)
def vA: ∀(l:List Tile) (k:Int),0<=k->EO l k<=k+EI l
 |[],k,_=>by simp[EO,EI]
 |x::r,k,h=>by
  have hn:=RQ r;simp only[EO,EI];split
  .split
   .omega
   .rename_i c
    have:=vA r (Gp x.Sides (k+1)) auOm
    rcases vB x.Sides (k+1) with e|e<;>omega
  .omega
def PM{s:AI}{k:Int}(h:0<=k):Hq s k<=k+2*s.Glues.length+EI s.Tiles:=by
 have hn:=RQ s.Tiles;simp only[Hq];split
 .omega
 .rename_i c;split
  .omega
  .have:=vA s.Tiles (Fy s.Glues k) auOm
   rcases vD s.Glues k with e|e<;>omega
def heldSys_.fv(a:AM×Int):Int:=(XW) (a.1) (a.2)
def heldSys_.row:A8:=Cj (b2 (qR AM.d_le) qI) rI (λa=>0<=a.2/\a.2+2*a.1.Set.Glues.length+EI a.1.Set.Tiles+3*a.1.Seed.Tiles.length<=1099511627776) heldSys_.fv
def heldSys_.ok:AE 17 heldSys_.row:=by
 refine EK (tC heldTS_.ok (tC heldA_.ok tN)) Tryz.func17 ?_;intro a z;simp only[Tryz.f17];simp only[ZA,simprocAttr,AP.d,Aa,heldSys_.fv,heldTS_.q,heldTS_.fv,heldA_.q,heldA_.fv,D.sc,D.scs,AO];obtain⟨s,k⟩:=a;obtain⟨Q,Z⟩:=z;simp only at Q Z⊢;have aa:=PM (s:=s.Set) Q;simp only[XW];refine⟨⟨Q,auOm⟩,?_⟩;by_cases c:Hq s.Set k<0
 .rw[Bt c,Bt c]
 .rw[Be c,Be c];refine⟨⟨auOm,auOm⟩,?_⟩;by_cases O:FU s.Seed.Tiles (Hq s.Set k)<0
  .rw[Bt O,Bt O]
  .rw[Be O,Be O]
end Go.Ae
namespace Go.Ae
open Go.Proofs
def PO:List Tile->Int->List Tile
 |[],_=>[]
 |x::r,k=>⟨GZ k,Hy (k+1) x.Sides.length⟩::PO r (k+1+x.Sides.length)
def iF: ∀(a:List Tile) (k:Int),(PO a k).length=a.length
 |[],_=>rfl
 |x::r,k=>by simp only[PO,Em,iF r]
def iH: ∀(a:List Tile) (k:Int) (i:Nat),i<a.length->(PO a k)[i]? =some ⟨GZ (Fb a k i),Hy (Fb a k i+1) (oB a i).length⟩
 |[],_,i,h=>by simp at h
 |x::r,k,0,_=>by simp[PO,Fb,oB]
 |x::r,k,i+1,h=>by
  rw[PO,Su,iH r _ i (by simpa using h),gK];simp[oB]
def Nv: ∀(a:List Tile) (k:Int),EI (PO a k)=a.length+E0 a
 |[],_=>by simp[PO,EI,E0]
 |x::r,k=>by
  simp only[PO,EI,Nv r,R9,E0,Br,K6,Em];omega
def vC: ∀(a:List Tile) (k:Int),0<=k->EO (PO a k) k=k+a.length+E0 a
 |[],k,_=>by simp[PO,EO,E0]
 |x::r,k,h=>by
  have e:Gp (Hy (k+1) x.Sides.length) (k+1)=k+1+x.Sides.length:=TS _ _;simp only[PO,EO,e];rw[Bt trivial,Be auOm,vC r _ auOm];simp only[E0,Br,K6,Em];omega
def TR(k:Int)(n:Nat):Fy (FE (gF k) n) k=k+2*n:=by
 simp only[Fy,gV];exact Bt rfl
def I0(s:AM)(k:Int):AM:=⟨⟨FE (gF k) s.Set.Glues.length,PO s.Set.Tiles (EJ (s.Set,k))⟩,⟨FE (pF (syK (s,k))) s.Seed.Tiles.length⟩,s.Temperature⟩
def Qax6(s:AM){k:Int}(h:0<=k):XW (I0 s k) k=syK (s,k)+3*s.Seed.Tiles.length:=by
 have e:Hq (I0 s k).Set k=syK (s,k):=by
  simp only[Hq,I0,TR,EJ];rw[Be auOm,vC _ _ auOm];rw[Be auOm];simp only[syK,XX,EJ]
 have hp:FU (I0 s k).Seed.Tiles (syK (s,k))=syK (s,k)+3*s.Seed.Tiles.length:=TT _ _;have hn:0<=syK (s,k):=by simp only[syK,XX,EJ];omega
 simp only[XW,e,hp];rw[Be auOm,Be auOm]
def Nu{s:AM}(z:GQ s):(0:Int)<=1/\(1:Int)+2*(I0 s 1).Set.Glues.length+EI (I0 s 1).Set.Tiles+3*(I0 s 1).Seed.Tiles.length<=1099511627776:=by
 have:=z.g;have:=z.t;have:=z.d;have:=z.p
 simp only[I0,gV,Nv];omega
def DQ:AM:=⟨⟨[],[]⟩,⟨[]⟩,0⟩
def mkG0.fv(a:(List Ac)×Int):Int:=(λ_ k=>k) (a.1) (a.2)
def mkG0.row:A8:=vK (b2 (qS Ac.d_le Ac.c_n) qI) rI (λa=>a.1=[]) mkG0.fv
def mkG0.q:=Bg (R:=mkG0.row) rfl
def mkG0.ok:AE 85 mkG0.row:=by
 refine vw tN Tryz.func85 ?_;intro a z;simp only[Tryz.f85];simp(maxSteps:=9^9)(disch:=omega)only[ZA,simprocAttr,mkG0.fv];obtain⟨l,k⟩:=a;simp only at z⊢;subst z;refine AY.old ⟨Unit,λ_=>⟨[(5,.im (.int .i64 0)),(4,.im (.int .i64 0)),(1,.im (.int .i64 k)),(0,.im (.sl false 2 []))],[],0⟩,λ_=>0,λ_=>⟨by simp[ZG],auSi⟩,⟨(),by simp(maxSteps:=9^9)(disch:=omega)only[ZA,simprocAttr,sub]⟩,λ_=> ?_⟩;simp(maxSteps:=9^9)(disch:=omega)only[ZA,simprocAttr]
 try simp
def mkL0.fv(a:(List Tile)×Int):Int:=(λ_ k=>k) (a.1) (a.2)
def mkL0.row:A8:=vK (b2 (qS Tile.d_le Tile.c_n) qI) rI (λa=>a.1=[]) mkL0.fv
def mkL0.q:=Bg (R:=mkL0.row) rfl
def mkL0.ok:AE 86 mkL0.row:=by
 refine vw tN Tryz.func86 ?_;intro a z;simp only[Tryz.f86];simp(maxSteps:=9^9)(disch:=omega)only[ZA,simprocAttr,mkL0.fv];obtain⟨l,k⟩:=a;simp only at z⊢;subst z;refine AY.old ⟨Unit,λ_=>⟨[(5,.im (.int .i64 0)),(4,.im (.int .i64 0)),(1,.im (.int .i64 k)),(0,.im (.sl false 2 []))],[],0⟩,λ_=>0,λ_=>⟨by simp[ZG],auSi⟩,⟨(),by simp(maxSteps:=9^9)(disch:=omega)only[ZA,simprocAttr,sub]⟩,λ_=> ?_⟩;simp(maxSteps:=9^9)(disch:=omega)only[ZA,simprocAttr]
 try simp
def mkPl0.fv(a:(List AA)×Int):Int:=(λ_ k=>k) (a.1) (a.2)
def mkPl0.row:A8:=vK (b2 (qS AA.d_le AA.c_n) qI) rI (λa=>a.1=[]) mkPl0.fv
def mkPl0.q:=Bg (R:=mkPl0.row) rfl
def mkPl0.ok:AE 87 mkPl0.row:=by
 refine vw tN Tryz.func87 ?_;intro a z;simp only[Tryz.f87];simp(maxSteps:=9^9)(disch:=omega)only[ZA,simprocAttr,mkPl0.fv];obtain⟨l,k⟩:=a;simp only at z⊢;subst z;refine AY.old ⟨Unit,λ_=>⟨[(5,.im (.int .i64 0)),(4,.im (.int .i64 0)),(1,.im (.int .i64 k)),(0,.im (.sl false 3 []))],[],0⟩,λ_=>0,λ_=>⟨by simp[ZG],auSi⟩,⟨(),by simp(maxSteps:=9^9)(disch:=omega)only[ZA,simprocAttr,sub]⟩,λ_=> ?_⟩;simp(maxSteps:=9^9)(disch:=omega)only[ZA,simprocAttr]
 try simp
def mkTS0.fv(a:AI×Int):Int:=(λ_ k=>k) (a.1) (a.2)
def mkTS0.row:A8:=vK (b2 (qR AI.d_le) qI) rI (λa=>a.1.Glues=[]/\a.1.Tiles=[]) mkTS0.fv
def mkTS0.q:=Bg (R:=mkTS0.row) rfl
def mkTS0.ok:AE 40 mkTS0.row:=by
 refine vw (tC mkG0.ok (tC mkL0.ok tN)) Tryz.func40 ?_;intro a z;simp only[Tryz.f40];simp(maxSteps:=9^9)(disch:=omega)only[ZA,simprocAttr,mkTS0.fv,mkG0.q,mkG0.fv,mkL0.q,mkL0.fv];exact z
def mkA0.fv(a:AP×Int):Int:=(λ_ k=>k) (a.1) (a.2)
def mkA0.row:A8:=vK (b2 (qR AP.d_le) qI) rI (λa=>a.1.Tiles=[]) mkA0.fv
def mkA0.q:=Bg (R:=mkA0.row) rfl
def mkA0.ok:AE 41 mkA0.row:=by
 refine vw (tC mkPl0.ok tN) Tryz.func41 ?_;intro a z;simp only[Tryz.f41];simp(maxSteps:=9^9)(disch:=omega)only[ZA,simprocAttr,mkA0.fv,mkPl0.q,mkPl0.fv];exact z
def mkSy0.fv(a:AM×Int):Int:=(λ_ k=>k) (a.1) (a.2)
def mkSy0.row:A8:=vK (b2 (qR AM.d_le) qI) rI (λa=>(a.1.Set.Glues=[]/\a.1.Set.Tiles=[])/\a.1.Seed.Tiles=[]) mkSy0.fv
def mkSy0.ok:AE 14 mkSy0.row:=by
 refine vw (tC mkTS0.ok (tC mkA0.ok tN)) Tryz.func14 ?_;intro a z;simp only[Tryz.f14];simp(maxSteps:=9^9)(disch:=omega)only[ZA,simprocAttr,AP.d,mkSy0.fv,mkTS0.q,mkTS0.fv,mkA0.q,mkA0.fv];exact z
def mkSyR.row:A8:=fM mkSy0.row mkSy.row
def mkSyR.ok:AE 14 mkSyR.row:=KY mkSy0.ok mkSy.ok
def Ag.c_n(x:Ag):(Ag.c x).length=2:=rfl
def Kr(x:Cz)(l:Int):Int:=Cb x.length l
def Mc(a:List (Cz))(l:Int):Int:=if Cb a.length l<0 then -1 else FI Kr a (Cb a.length l)
def szSWf.fv(a:(List (Cz))×Int):Int:=(Mc) (a.1) (a.2)
def szSWf.row:A8:=vK (b2 (qS OZ KZ) qI) rI (λa=> -1<=a.2/\a.2<=1048576) szSWf.fv
def szSWf.q:=Bg (R:=szSWf.row) rfl
def szSWf.ok:AE 21 szSWf.row:=by
 refine vw (tC szInt64S.ok tN) Tryz.func21 ?_;intro a O;simp only[Tryz.f21];simp(maxSteps:=9^9)(disch:=omega)only[ZA,simprocAttr,szSWf.fv];intro hn;rw[AG auOm auOm];obtain⟨ad,af⟩:=O;simp only[AL];refine⟨λhl=> ?_,λhl=> ?_⟩
 .simp only[Mc,Cb];grind
 have h0:Cb a.1.length a.2=a.2 - a.1.length:=by simp only[Cb];rw[Be hl]
 refine AY.old ⟨{p:Nat×Int//p.1<=a.1.length/\0<=p.2/\p.2<=1048576/\FI Kr (a.1.drop p.1) p.2=FI Kr a.1 (a.2 - a.1.length)},λp=>⟨[(5,.im (.int .i64 p.1.1)),(1,.im (.int .i64 p.1.2)),(4,.im (.int .i64 0)),(0,.im (.sl false 1 (a.1.map BD)))],[],0⟩,λp=>a.1.length - p.1.1,λp=>⟨by simp[ZG],BN _⟩,⟨⟨(0,a.2 - a.1.length),auSi,by simp only;omega,by simp only;omega,auSi⟩,by simp(maxSteps:=9^9)(disch:=omega)only[ZA,simprocAttr,sub]⟩,λp=> ?_⟩;obtain⟨⟨k,l⟩,Z,aa,ab,z⟩:=p;simp only at Z aa ab z;simp(maxSteps:=9^9)(disch:=omega)only[ZZ,simprocAttr,szInt64S.q,szInt64S.fv,sub,AL];intro _;refine⟨λhk=>⟨hk,λx hx=>⟨⟨auOm,auOm⟩,?_⟩⟩,λhk=> ?_⟩
 .rw[FH hx,FI] at z;have ac:Cb x.length l<=l:=by simp only[Cb];grind
  have e:Kr x l=Cb x.length l:=rfl;rw[e] at z;refine⟨λQ=> ?_,λQ=>⟨⟨(k+1,Cb x.length l),by simp only;omega,by simp only;omega,by simp only;omega,?_⟩,by simp only;omega,?_,?_⟩⟩
  .rw[Bt Q] at z;simp only[Mc,h0]
   grind
  .rw[Be Q] at z;exact z
  .rw[AG auOm auOm];simp only;omega
  .rfl
 .rw[Bm auOm,FI] at z;simp only[Mc,h0]
  grind
def szCu.fv(a:(List Ag)×Int):Int:=(λa l=>Cb a.length l) (a.1) (a.2)
def szCu.row:A8:=vK (b2 (qS Ag.d_le Ag.c_n) qI) rI (λa=> -1<=a.2/\a.2<=1048576) szCu.fv
def szCu.q:=Bg (R:=szCu.row) rfl
def szCu.ok:AE 20 szCu.row:=by
 refine vw tN Tryz.func20 ?_;intro a z;simp only[Tryz.f20];simp(maxSteps:=9^9)(disch:=omega)only[ZA,simprocAttr,szCu.fv];intro h;rw[AG auOm auOm];simp only[Cb];grind
def oK(n:Nat)(l:Int)(h: -1<=l)(z:l<=1048576): -1<=Cb n l/\Cb n l<=1048576:=by simp only[Cb];grind
def bY(f:Af)(l:Int):Int:=if Cb f.Cubes.length l<0 then -1 else (if Mc f.Sums (Cb f.Cubes.length l)<0 then -1 else Mc f.Sums (Cb f.Cubes.length l))
def szFm_.fv(a:Af×Int):Int:=(bY) (a.1) (a.2)
def szFm_.row:A8:=vK (b2 (qR Af.d_le) qI) rI (λa=> -1<=a.2/\a.2<=1048576) szFm_.fv
def szFm_.q:=Bg (R:=szFm_.row) rfl
def szFm_.ok:AE 5 szFm_.row:=by
 refine vw (tC szCu.ok (tC szSWf.ok tN)) Tryz.func5 ?_;intro a z;simp only[Tryz.f5];obtain⟨f,l⟩:=a;obtain⟨O,Q⟩:=z;simp only at O Q⊢;simp(maxSteps:=9^9)(disch:=omega)only[ZZ,simprocAttr,szFm_.fv,szCu.q,szCu.fv,szSWf.q,szSWf.fv,Af.c,Ag.d_R,AL];have hb:=oK f.Cubes.length l O Q;simp only[bY];refine⟨⟨O,Q⟩,λh=>by rw[Bt h],λh=>⟨hb,λZ=> ?_,λZ=> ?_⟩⟩
 .rw[Be h,Bt Z]
 .rw[Be h,Be Z]
def vQ: ∀(a:List (Cz)) (l:Int),0<=l->0<=FI Kr a l->(GB a:Int)<=l/\(∀x∈a,(x.length:Int)<=l)
 |[],l,h,_=>⟨by simp[GB];exact h,λx z=>by cases z⟩
 |y::r,l,h0,h=>by
  simp only[FI] at h;split at h
  .omega
  .rename_i c;have O:0<=Cb y.length l:=by simp only[Kr] at c;omega
   obtain⟨b1,b2,b3⟩:=Rd O;have e:Kr y l=l - y.length:=by simp only[Kr,Cb];rw[Be auOm]
   rw[e] at h;obtain⟨q1,Q⟩:=vQ r (l - y.length) auOm h;refine⟨?_,λx z=> ?_⟩
   .simp only[GB,Br,K6] at q1⊢;omega
   .rcases B0.1 z with rfl|z
    .omega
    .have:=Q x z;omega
structure R1(f:Af):Prop where
 c:f.Cubes.length<=1048576
 s:f.Sums.length<=1048576
 t:GB f.Sums<=1048576
 e: ∀x∈f.Sums,x.length<=1073741824
def oM{f:Af}{l:Int}(h0:0<=l)(h1:l<=1048576)(h:0<=bY f l):R1 f:=by
 simp only[bY] at h;split at h
 .omega
 .rename_i c1;obtain⟨b1,b2,b3⟩:=Rd (n:=f.Cubes.length) (l:=l) auOm;split at h
  .omega
  .simp only[Mc] at h;split at h
   .omega
   .rename_i Q;obtain⟨Z,d2,d3⟩:=Rd (n:=f.Sums.length) (l:=Cb f.Cubes.length l) auOm;obtain⟨q1,O⟩:=vQ f.Sums _ auOm h;exact⟨auOm,auOm,auOm,λx z=>by have:=O x z;omega⟩
def toCu.fv(a:Ag):Ag:=(λp=>p) a
def toCu.row:A8:=vK (b1 (qR Ag.d_le)) (rA Ag.d_le) (λa=>True) toCu.fv
def toCu.q:=Bg (R:=toCu.row) rfl
def toCu.ok:AE 68 toCu.row:=by
 refine vw tN Tryz.func68 ?_;intro a z;simp only[Tryz.f68];simp(maxSteps:=9^9)(disch:=omega)only[ZA,simprocAttr,toCu.fv,Ag.c,Ag.d,Ag.eta]
def toCuS.fv(a:(List Ag)):List Ag:=(λp=>p) a
def toCuS.row:A8:=vK (b1 (qS Ag.d_le Ag.c_n)) (rS Ag.d_le Ag.c_n) (λa=>a.length<=1073741824) toCuS.fv
def toCuS.q:=Bg (R:=toCuS.row) rfl
def toCuS.ok:AE 29 toCuS.row:=by
 refine vw (tC toCu.ok tN) Tryz.func29 ?_;intro a z;simp only[Tryz.f29];have aa:a.length<=1073741824:=z;simp(maxSteps:=9^9)(disch:=omega)only[ZA,simprocAttr,toCuS.fv];intro Z;refine⟨auOm,?_⟩;refine AY.old ⟨{k:Nat//k<=a.length},λk=>⟨[(4,.im (.int .i64 k.1)),(3,.own 1),(0,.im (.sl false 2 (a.map Ag.c)))],[(1,(true,.arr 115 2 ((a.take k.1).map Ag.c++List.replicate (a.length - k.1) [.int .i64 0,.int .i64 0])))],2⟩,λk=>a.length - k.1,λk=>⟨by simp[ZG],BN _⟩,⟨⟨0,auOm⟩,by simp(maxSteps:=9^9)(disch:=omega)only[ZA,simprocAttr,sub];simp⟩,λk=> ?_⟩;obtain⟨k,Q⟩:=k;simp(maxSteps:=9^9)(disch:=omega)only[ZA,simprocAttr,toCu.q,toCu.fv,AL,WX _ _ a k Q,Ag.c,Ag.d,Ag.eta];intro _;refine⟨λO=> ?_,λO=> ?_⟩
 .refine⟨O,λx hx=>⟨O,O,IH (WT Ag.c _ a k x hx) ?_⟩⟩;simp(maxSteps:=9^9)(disch:=omega)only[ZA,simprocAttr,sub];refine⟨⟨k+1,auOm⟩,by simp only;omega,?_,?_⟩
  .rw[AG auOm auOm];simp only;omega
  .exact Xa Ag.c _ a k x hx
 .rw[WY Ag.c _ a k auOm];simp[Ag.d_R]
def toCX.ca(a:List Ag):List AV:=[.im (.sl false 2 (a.map Ag.c))]
def toCX.H1(a:List Ag):An:=[(1,(true,.arr 115 2 (a.map Ag.c)))]
def toCX.row:A8:=A7 toCX.ca (λ_=>[]) 0 (λa=>a.length<=1073741824) (λ_=>false) (λ_=> .own 1) toCX.H1 2
def toCX.ok:AE 29 toCX.row:=by
 refine ow (tC toCu.ok tN) Tryz.func29 (exB:=λj=>j==1) (R:=λ_ r=>r= .own 1) (λ_=>rfl)
  (λa=>by simp[toCX.ca,A9,AV.bel,Ar,B5,Ca]) (λa p hp=> ?_) LeVq ?_
 rotate_left
 intro a z;simp only[Tryz.f29,toCX.ca,toCX.H1];simp(maxSteps:=9^9)(disch:=omega)only[ZA,simprocAttr];intro Z;have aa:a.length<=1073741824:=z;refine⟨auOm,?_⟩;refine AY.old ⟨{k:Nat//k<=a.length},λk=>⟨[(4,.im (.int .i64 k.1)),(3,.own 1),(0,.im (.sl false 2 (a.map Ag.c)))],[(1,(true,.arr 115 2 ((a.take k.1).map Ag.c++List.replicate (a.length - k.1) [.int .i64 0,.int .i64 0])))],2⟩,λk=>a.length - k.1,λk=>⟨by simp[ZG],BN _⟩,⟨⟨0,auOm⟩,by simp(maxSteps:=9^9)(disch:=omega)only[ZA,simprocAttr,sub];simp⟩,λk=> ?_⟩;obtain⟨k,Q⟩:=k;simp(maxSteps:=9^9)(disch:=omega)only[ZA,simprocAttr,toCu.q,toCu.fv,Ag.c,Ag.d,Ag.eta,AL,WX _ _ a k Q,Ag.c,Ag.d,Ag.eta];intro _;refine⟨λO=> ?_,λO=> ?_⟩
 .refine⟨O,λx hx=>⟨O,O,IH (WT Ag.c _ a k x hx) ?_⟩⟩;simp(maxSteps:=9^9)(disch:=omega)only[ZA,simprocAttr,sub];refine⟨⟨k+1,auOm⟩,by simp only;omega,?_,?_⟩
  .rw[AG auOm auOm];simp only;omega
  .exact Xa Ag.c _ a k x hx
 .rw[WY Ag.c _ a k auOm]
  try trivial
 simp[toCX.H1] at hp;subst hp;exact .inr ⟨auOm,auOm,rfl,rfl⟩
def sH:List AV:=[.im (.sl true 0 [])]
def sG(i:Nat):List AV:=[.own (2+i)]
def Jp(a:List (Cz))(i:Nat):Ap:=(true,.arr 2 1 ((a[i]?.getD []).map Aj))
def Ky(a:List (Cz))(k:Nat):List (List AV):=(List.range k).map sG++List.replicate (a.length - k) sH
def iT{a:List (Cz)}{k:Nat}(h:k<=a.length):(Ky a k).length=a.length:=by simp[Ky];omega
def WG{a:List (Cz)}{k i:Nat}(h:i<k):(Ky a k)[i]? =some (sG i):=by
 rw[Ky,Db (by simpa using h),Dp,ER h];rfl
def WF{a:List (Cz)}{k i:Nat}(h:k<=i)(z:i<a.length):(Ky a k)[i]? =some sH:=by
 rw[Ky,D8 (by simpa using h),IL,Bt (by simp;omega)]
def O0(a:List (Cz))(k N:Nat)(h:2+k<=N):(Ky a k).all (A9 N)=true:=by
 rw[CF];intro r z;rcases BO.1 z with z|z
 .obtain⟨i,O,rfl⟩:=BY.1 z
  have:=AU.1 O
  simp[sG,A9,AV.bel];omega
 .obtain rfl:=JA z;simp[sH,A9,AV.bel]
def WH(a:List (Cz)):Ky a 0=Bw (List.replicate a.length [.sl true 0 []]):=by
 simp[Ky,Bw,sH]
def O1(a:List (Cz)):Ky a a.length=CE 2 a.length:=by
 simp[Ky,CE,sG]
def cT{h:HpT}{kx:Nat->Option Nat}{m:Nat}{a:List (Cz)}(z: ∀i,i<a.length->kx (2+i)=some (2+i)):Aw (Aw (Bs h kx (m+1))) (Ky a a.length)=some (Ky a a.length):=by
 rw[O1];exact qV z
def toZX.ca(a:List (Cz)):List AV:=[.im (.sl false 1 (a.map BD))]
def toZX.H1(a:List (Cz)):An:=(1,(true,.arrA 35 1 (Ky a a.length)))::AH 2 (min a.length 1048576) (Jp a)
def toZX.pre(a:List (Cz)):Prop:=a.length<=1048576/\ ∀x∈a,x.length<=1073741824
def toZX.row:A8:=A7 toZX.ca (λ_=>[]) 0 toZX.pre (λ_=>false) (λ_=> .own 1) toZX.H1 2000000
def toZX.ok:AE 30 toZX.row:=by
 refine ow (tC toIX.ok tN) Tryz.func30 (exB:=λj=>Nat.ble 1 j) (R:=λ_ r=>r= .own 1) (λ_=>rfl)
  (λa=>by simp[toZX.ca,A9,AV.bel,Ar,B5,Ca]) (λa p hp=> ?_) LeVq ?_
 rotate_left
 intro a ai;simp only[Tryz.f30,toZX.ca];simp(maxSteps:=9^9)(disch:=omega)only[ZA,simprocAttr];obtain⟨h1,h2⟩:=ai;intro _;refine⟨auOm,?_⟩;refine AY.ren ⟨{k:Nat//k<=a.length},λk=>⟨[(4,.im (.int .i64 k.1)),(3,.own 1),(0,.im (.sl false 1 (a.map BD)))],(1,(true,.arrA 35 1 (Ky a k.1)))::AH 2 k.1 (Jp a),2+a.length⟩,λk=>a.length - k.1,λk=>⟨?_,auSi⟩,⟨⟨0,auSi⟩,[],?_⟩,λk=> ?_⟩
 .simp only[ZG,Jg,CZ];rw[Ll _ _ _ (λi=>by simp[Ar,Jp]),K2 _ _ _ _ auOm,O0 _ _ _ auOm];simp
  try omega
 .simp only[AB,AH,JC,Gl,WH];simp(maxSteps:=9^9)(disch:=omega)only[ZA,simprocAttr,qQ]
  try simp
 .obtain⟨k,aj⟩:=k;have af:=iT (a:=a) aj;simp(maxSteps:=9^9)(disch:=omega)only[ZZ,simprocAttr,AL,Bb];intro _;refine⟨λhk=>⟨auOm,hk,λx hx=> ?_⟩,λhk=> ?_⟩
  .refine A7.os x [] (h2 x (Bj hx)) (λj=>by simp[Ai,hget]) rfl rfl ?_ ?_
   .simp(maxSteps:=9^9)(disch:=omega)only[ZA,simprocAttr,toIX.ca,Du]
   simp(maxSteps:=9^9)(disch:=omega)only[ZA,simprocAttr,toIX.H1,af,Bb,J6];refine⟨⟨auOm,auOm,auOm⟩,hk,auOm,hk,IH (WF (BN _) hk) ?_⟩;simp only[sH];simp(maxSteps:=9^9)(disch:=omega)only[ZA,simprocAttr,Bb,AC];rw[KS 2 k (Jp a) [1] auSi];refine⟨⟨?_,auOm⟩,⟨k+1,auOm⟩,[(2+k,some (2+a.length+1))],by simp only;omega,?_⟩
   .rw[CF];intro r hr;rcases GR hr with hr|hr
    .exact CF.1 (O0 a k _ auOm) r hr
    .subst hr;simp[A9,AV.bel]
   obtain⟨g,hg⟩: ∃g,g=pm [(2+k,some (2+a.length+1))]:=⟨_,rfl⟩;have qx:g (2+k)=some (2+a.length+1):=by rw[hg];simp[pm]
   have qo: ∀u,u≠2+k->g u=some u:=by intro u h;rw[hg];simp only[pm];rw[Be auOm]
   have q1:pm [(2+k,some (2+a.length+1))] 1=some 1:=by rw[<-hg];exact qo 1 auOm
   have ab:=qx;have aa:=qo;rw[hg] at ab aa;refine⟨⟨auOm,trivial⟩,?_,?_,?_⟩
   .rw[Sj,<-hg];simp only[DF,WK];refine WZ _ _ (dB [1] 2 (k+1) auSi auSi) ?_;have ad: ∀u∈[1]++(List.range (k+1)).map (2+ ·),u<2+a.length+1:=by
     intro u hu;rcases BO.1 hu with hu|hu
     .simp at hu;omega
     .obtain⟨i,hi,rfl⟩:=BY.1 hu
      have:=AU.1 hi
      show 2+i<2+a.length+1;omega
    intro u hu v hv m z O;have am:=ad u hu;have an:=ad v hv;by_cases Q:u=2+k<;>by_cases Z:v=2+k
    .omega
    .rw[Q,qx] at z;rw[qo v Z] at O;simp only[AS] at z O;omega
    .rw[qo u Q] at z;rw[Z,qx] at O;simp only[AS] at z O;omega
    .rw[qo u Q] at z;rw[qo v Z] at O;simp only[AS] at z O;omega
   .simp only[EQ,AF];simp(maxSteps:=9^9)(disch:=omega)only[ZA,simprocAttr,q1];rw[AG auOm auOm];simp
   .simp only[F6,Ys];refine⟨?_,λi hi=> ?_⟩
    .simp(maxSteps:=9^9)(disch:=omega)only[ZA,simprocAttr,q1];rw[Sm];refine⟨by rw[EU,af,iT auOm],λi r1 r2 Q Z=> ?_⟩;have ag:i<a.length:=by
      have:=(Bi.1 Q).1
      rw[iT auOm] at this;exact this
     by_cases ac:i=k
     .subst ac;rw[WG auOm] at Q;rw[Bo (by rw[af];exact ag)] at Z;obtain rfl:=AJ Q;obtain rfl:=AJ Z;simp only[sG,Dl,mt,ab,DS,Ly]
     .rw[DL auOm] at Z;by_cases ad:i<k
      .rw[WG auOm] at Q Z;obtain rfl:=AJ Q;obtain rfl:=AJ Z;simp only[sG,Dl,mt,aa (2+i) auOm,DS,Ly]
      .rw[WF auOm ag] at Q Z;obtain rfl:=AJ Q;obtain rfl:=AJ Z;simp only[sH,Dl,mt,Ly]
    .show Ci _ _ true (.arr 2 1 ((a[i]?.getD []).map Aj)) _;by_cases ac:i=k
     .subst ac;rw[ab];simp(maxSteps:=9^9)(disch:=omega)only[ZA,simprocAttr,hx,BG]
      try simp
      try simp[D9,Df]
     .rw[aa (2+i) auOm];simp(maxSteps:=9^9)(disch:=omega)only[ZA,simprocAttr,CY,J6,Jp]
      try simp
  .have ak:k=a.length:=auOm;subst ak;refine⟨auOm,auOm,?_⟩;have ah:min a.length 1048576=a.length:=auOm;obtain⟨H,hH⟩: ∃H,H=hget ((1,(true,Ad.arrA 35 1 (Ky a a.length)))::AH 2 a.length (Jp a)):=⟨_,rfl⟩;rw[<-hH];have kx: ∀i,i<a.length->(Hl [] 0 2000000 λj=>decide (1<=j)) (2+i)=some (2+i):=by
    intro i hi;have hb:(decide (1<=2+i) && (Nat.ble 0 (2+i) && Nat.blt (2+i) (0+2000000)))=true:=by
     simp only[B1,CK,Jf,Mw];omega
    simp only[Hl,Ai,hget,rD,Dv,hb,IJ]
   have g1:H 1=some (true,.arrA 35 1 (Ky a a.length)):=by rw[hH];rfl
   simp only[toZX.H1,E4,ah];refine⟨?_,GJ _ _ _ _ _ (λi hi=> ?_) (λi hi=>rfl)⟩
   .rw[g1];exact⟨rfl,by simp only[Cd];rw[cT kx];rfl⟩
   .rw[hH];simp only[hget,AC _ _ (show 1≠2+i by omega),Dw];exact CY _ _ _ _ hi
 simp only[toZX.H1,B0,AH,BY,AU] at hp;rcases hp with rfl|⟨i,hi,rfl⟩
 .exact .inr ⟨auOm,auOm,rfl,rfl⟩
 .exact .inr ⟨by simp only;omega,by simp only;omega,by simp only[Jf];omega,rfl⟩
def eqCu.fv(a:Ag×Ag):Bool:=(λa b=>decide (a=b)) (a.1) (a.2)
def eqCu.row:A8:=Cj (b2 (qR Ag.d_le) (qR Ag.d_le)) rB (λa=>True) eqCu.fv
def eqCu.q:=Cf (R:=eqCu.row) rfl
def eqCu.ok:AE 84 eqCu.row:=by
 refine EK tN Tryz.func84 ?_;intro a O;simp only[Tryz.f84];obtain⟨⟨x,y⟩,⟨z,w⟩⟩:=a;simp(maxSteps:=9^9)(disch:=omega)only[ZA,simprocAttr,eqCu.fv,D.sc,D.scs,AO,Ag.c];simp only[Ag.mk.injEq]
 grind
def eqCuS.fv(a:(List Ag)×(List Ag)):Bool:=(λa b=>decide (a=b)) (a.1) (a.2)
def eqCuS.row:A8:=Cj (b2 (qS Ag.d_le Ag.c_n) (qS Ag.d_le Ag.c_n)) rB (λa=>True) eqCuS.fv
def eqCuS.q:=Cf (R:=eqCuS.row) rfl
def eqCuS.ok:AE 38 eqCuS.row:=by
 refine EK (tC eqCu.ok tN) Tryz.func38 ?_;intro a aa;simp only[Tryz.f38];simp(maxSteps:=9^9)(disch:=omega)only[ZA,simprocAttr,eqCuS.fv,D.sc,D.scs,AO];intro h1 h2;simp only[AL];refine⟨λO=> ?_,λO=> ?_⟩
 .have:a.1≠a.2:=λh=>O (by rw[h])
  simp[this]
 have O:a.1.length=a.2.length:=auOm;refine AY.old ⟨{k:Nat//k<=a.1.length/\a.1.take k=a.2.take k},λk=>⟨[(5,.im (.int .i64 k.1)),(4,.im (.bool false)),(0,.im (.sl false 2 (a.1.map Ag.c))),(1,.im (.sl false 2 (a.2.map Ag.c)))],[],0⟩,λk=>a.1.length - k.1,λk=>⟨by simp[ZG],BN _⟩,⟨⟨0,auSi⟩,by simp(maxSteps:=9^9)(disch:=omega)only[ZA,simprocAttr,sub]⟩,λk=> ?_⟩;obtain⟨k,Z,z⟩:=k;simp(maxSteps:=9^9)(disch:=omega)only[ZA,simprocAttr,Aa,eqCu.q,eqCu.fv,D.sc,D.scs,AO,sub,AL,Ag.c,Ag.d,Ag.eta];intro _;refine⟨λQ=>⟨Q,λx hx=>⟨auOm,λy hy=> ?_⟩⟩,λQ=> ?_⟩
 .obtain⟨g1,g2⟩:=Lh O Z z hx hy;exact⟨λh=>by simp[g2 (show x≠y from h)],λh=>FG Q h1 ⟨auOm,g1 (show x=y from Ch.1 h)⟩⟩
 .rw[BE auOm,BE auOm] at z;simp[z]
def lX(k:Int)(i:Nat):Ag:=⟨k+2*i,k+2*i+1⟩
def mkCC.ca(a:List Ag×Int):List AV:=[.own 0,.im (.int .i64 a.2)]
def mkCC.H0(a:List Ag×Int):An:=[(0,(true,.arr 115 2 (a.1.map Ag.c)))]
def mkCC.H1(a:List Ag×Int):An:=[(0,(true,.arr 115 2 ((FE (lX a.2) a.1.length).map Ag.c)))]
def mkCC.row:A8:=A7 mkCC.ca mkCC.H0 1 (λa=>0<=a.2/\a.2+2*a.1.length<=1099511627776) (λj=>j==0) (λa=> .im (.int .i64 (a.2+2*a.1.length))) mkCC.H1 0
def mkCC.ok:AE 42 mkCC.row:=by
 refine ow tN Tryz.func42 (exB:=λ_=>false) (R:=λa r=>r= .im (.int .i64 (a.2+2*a.1.length))) (λ_=>rfl)
  (λa=>by simp[mkCC.ca,mkCC.H0,A9,AV.bel,Ar,B5,Ca,Ad.nms,Ai,hget]) (λa p hp=> ?_) LeVq ?_
 rotate_left
 intro a z;simp only[Tryz.f42,mkCC.ca,mkCC.H0,mkCC.H1];simp(maxSteps:=9^9)(disch:=omega)only[ZA,simprocAttr];obtain⟨l,k⟩:=a;simp only at z⊢;obtain⟨h1,h2⟩:=z;refine AY.old ⟨{i:Nat//i<=l.length},λi=>⟨[(5,.im (.int .i64 i.1)),(4,.im (.int .i64 0)),(1,.im (.int .i64 (k+2*i.1))),(0,.own 0)],[(0,(true,.arr 115 2 ((KG (lX k) l i.1).map Ag.c)))],1⟩,λi=>l.length - i.1,λi=>⟨by simp[ZG],auSi⟩,⟨⟨0,auSi⟩,by simp(maxSteps:=9^9)(disch:=omega)only[ZA,simprocAttr,sub,gG];simp⟩,λi=> ?_⟩;obtain⟨i,aa⟩:=i;have Z:=gM (f:=lX k) aa;simp(maxSteps:=9^9)(disch:=omega)only[ZA,simprocAttr,AL,Z,Ag.c];intro _;refine⟨λQ=>⟨Q,Q,λx hx=> ?_⟩,λQ=> ?_⟩
 .have w1:IntKind.i64.wrap (k+2*(i:Int)+1)=k+2*(i:Int)+1:=AG auOm auOm;have O:i<(List.map Ag.c (KG (lX k) l i)).length:=by rw[Dy,Z];exact Q
  simp only[w1];refine⟨by rw[EU];exact O,by rw[EU];exact O,IH (Bo O) ?_⟩;simp(maxSteps:=9^9)(disch:=omega)only[ZA,simprocAttr,sub,ZeM];refine⟨⟨i+1,auOm⟩,by simp only;omega,⟨?_,?_⟩,?_⟩
  .rw[AG auOm auOm];simp only;omega
  .rw[AG auOm auOm];simp only;omega
  .simp only;rw[<-gO Q,GG];rfl
 .exact⟨auOm,by rw[gQ auOm]⟩
 simp[mkCC.H1] at hp;subst hp;exact .inl ⟨auOm,rfl,rfl⟩
def eqSW.fv(a:(List (Cz))×(List (Cz))):Bool:=(λa b=>decide (a=b)) (a.1) (a.2)
def eqSW.row:A8:=Cj (b2 (qS OZ KZ) (qS OZ KZ)) rB (λa=>True) eqSW.fv
def eqSW.q:=Cf (R:=eqSW.row) rfl
def eqSW.ok:AE 39 eqSW.row:=by
 refine EK (tC eqInt64S.ok tN) Tryz.func39 ?_;intro a aa;simp only[Tryz.f39];simp(maxSteps:=9^9)(disch:=omega)only[ZA,simprocAttr,eqSW.fv,D.sc,D.scs,AO];intro h1 h2;simp only[AL];refine⟨λO=> ?_,λO=> ?_⟩
 .have:a.1≠a.2:=λh=>O (by rw[h])
  simp[this]
 have O:a.1.length=a.2.length:=auOm;refine AY.old ⟨{k:Nat//k<=a.1.length/\a.1.take k=a.2.take k},λk=>⟨[(5,.im (.int .i64 k.1)),(4,.im (.bool false)),(0,.im (.sl false 1 (a.1.map BD))),(1,.im (.sl false 1 (a.2.map BD)))],[],0⟩,λk=>a.1.length - k.1,λk=>⟨by simp[ZG],BN _⟩,⟨⟨0,auSi⟩,by simp(maxSteps:=9^9)(disch:=omega)only[ZA,simprocAttr,sub]⟩,λk=> ?_⟩;obtain⟨k,Z,z⟩:=k;simp(maxSteps:=9^9)(disch:=omega)only[ZZ,simprocAttr,eqInt64S.q,eqInt64S.fv,D.sc,D.scs,AO,sub,AL];intro _;refine⟨λQ=>⟨Q,λx hx=>⟨auOm,λy hy=> ?_⟩⟩,λQ=> ?_⟩
 .obtain⟨g1,g2⟩:=Lh O Z z hx hy;exact⟨λh=>by simp[g2 (show x≠y from h)],λh=>FG Q h1 ⟨auOm,g1 (show x=y from Ch.1 h)⟩⟩
 .rw[BE auOm,BE auOm] at z;simp[z]
def eqFmF.fv(a:Af×Af):Bool:=(λa b=>decide (a=b)) (a.1) (a.2)
def eqFmF.row:A8:=Cj (b2 (qR Af.d_le) (qR Af.d_le)) rB (λa=>True) eqFmF.fv
def eqFmF.ok:AE 12 eqFmF.row:=by
 refine EK (tC eqCuS.ok (tC eqSW.ok tN)) Tryz.func12 ?_;intro a O;simp only[Tryz.f12];obtain⟨⟨x,y,z⟩,⟨u,v,w⟩⟩:=a;simp(maxSteps:=9^9)(disch:=omega)only[ZZ,simprocAttr,Aa,eqFmF.fv,eqCuS.q,eqCuS.fv,eqSW.q,eqSW.fv,D.sc,D.scs,AO,Af.c,Ag.d_R];simp only[Af.mk.injEq]
 grind
def toSW_.fv(a:(List (Cz))):List (Cz):=(λp=>p) a
def toSW_.row:A8:=vK (b1 (qS OZ KZ)) (rS OZ KZ) (λa=>a.length<=1073741824/\ ∀x∈a,x.length<=1073741824) toSW_.fv
def toSW_.q:=Bg (R:=toSW_.row) rfl
def toSW_.ok:AE 30 toSW_.row:=by
 refine vw (tC toInt64S.ok tN) Tryz.func30 ?_;intro a z;simp only[Tryz.f30];simp(maxSteps:=9^9)(disch:=omega)only[ZA,simprocAttr,toSW_.fv];intro aa;have ab:a.length<=1073741824:=z.1;refine⟨auOm,?_⟩;refine AY.old ⟨{k:Nat//k<=a.length},λk=>⟨[(4,.im (.int .i64 k.1)),(3,.own 1),(0,.im (.sl false 1 (a.map BD)))],[(1,(true,.arr 35 1 ((a.take k.1).map BD++List.replicate (a.length - k.1) [.sl true 0 []])))],2⟩,λk=>a.length - k.1,λk=>⟨by simp[ZG],BN _⟩,⟨⟨0,auOm⟩,by simp(maxSteps:=9^9)(disch:=omega)only[ZA,simprocAttr,sub];simp⟩,λk=> ?_⟩;obtain⟨k,Q⟩:=k;simp(maxSteps:=9^9)(disch:=omega)only[ZZ,simprocAttr,toInt64S.q,toInt64S.fv,AL,WX _ _ a k Q];intro _;refine⟨λO=> ?_,λO=> ?_⟩
 .refine⟨O,λx Z=>⟨z.2 x (Bj Z),O,O,IH (WT BD _ a k x Z) ?_⟩⟩;simp(maxSteps:=9^9)(disch:=omega)only[ZA,simprocAttr,sub];refine⟨⟨k+1,auOm⟩,by simp only;omega,?_,?_⟩
  .rw[AG auOm auOm];simp only;omega
  .exact Xa BD _ a k x Z
 .rw[WY BD _ a k auOm];simp[BB]
def smFm(f:Af):Prop:=f.Cubes.length<=1073741824/\f.Sums.length<=1073741824/\ ∀x∈f.Sums,x.length<=1073741824
def toFm_.fv(a:Af):Af:=(λp=>p) a
def toFm_.row:A8:=vK (b1 (qR Af.d_le)) (rA Af.d_le) (λa=>smFm a) toFm_.fv
def toFm_.ok:AE 8 toFm_.row:=by
 refine vw (tC toCuS.ok (tC toSW_.ok tN)) Tryz.func8 ?_;intro a z;simp only[Tryz.f8];obtain⟨O,Q,Z⟩:=z;simp(maxSteps:=9^9)(disch:=omega)only[ZZ,simprocAttr,toFm_.fv,toCuS.q,toCuS.fv,toSW_.q,toSW_.fv,Af.c,Af.d,Af.eta,Ag.d_R];exact⟨O,Q,Z⟩
def cS(σ:Nat->Nat)(b n:Nat)(a:List (Cz))(h: ∀i,i<n->σ (2+i)=b+i):AW σ (AH 2 n (Jp a))=AH b n (Jp a):=by
 simp only[AH]
 have: ∀(l:List Nat),(∀i∈l,i<n)->AW σ (l.map λi=>(2+i,Jp a i))=l.map λi=>(b+i,Jp a i):=by
  intro l;induction l with
  |nil=>intro _;rfl
  |cons i r ih=>
   intro z;have e:=ih (λj Q=>z j (Ah _ Q));simp only[Br,AW,h i (z i (CP ..)),Jp,Ad.ren] at e⊢;rw[e]
 exact this _ (λi O=>AU.1 O)
def vR{σ:Nat->Nat}{c b n:Nat}(H: ∀i,i<n->σ (c+i)=b+i):(CE c n).map (AN σ)=CE b n:=by
 simp only[CE,GS];refine Iu λi z=> ?_
 simp only[Function.comp,AN,AV.ren,H i (AU.1 z)]
def Ww{σ:Nat->Nat}{nx:Nat}(a:List (Cz))(h: ∀j,σ j=nx+j):AW σ (toZX.H1 a)=(nx+1,(true,.arrA 35 1 (CE (nx+2) a.length)))::AH (nx+2) (min a.length 1048576) (Jp a):=by
 simp only[toZX.H1,AW,Ad.ren,O1];rw[vR (b:=nx+2) (λi _=>by rw[h];omega),cS σ (nx+2) _ a (λi _=>by rw[h];omega),h]
def toFmX.ca(a:Af):List AV:=[.im (.agg (Af.c a))]
def toFmX.r0(a:Af):AV:= .agg [.im (.int .i64 a.Inputs),.own 4,.own 6]
def toFmX.H1(a:Af):An:=(4,(true,.arr 115 2 (a.Cubes.map Ag.c)))::(6,(true,.arrA 35 1 (CE 7 a.Sums.length)))::AH 7 (min a.Sums.length 1048576) (Jp a.Sums)
def toFmX.pre(a:Af):Prop:=a.Cubes.length<=1073741824/\toZX.pre a.Sums
def toFmX.row:A8:=A7 toFmX.ca (λ_=>[]) 0 toFmX.pre (λ_=>false) toFmX.r0 toFmX.H1 2000005
def toFmX.ok:AE 8 toFmX.row:=by
 refine ow (tC toCX.ok (tC toZX.ok tN)) Tryz.func8 (exB:=λj=>Nat.ble 4 j) (R:=λa r=>r=toFmX.r0 a) (λ_=>rfl)
  (λa=>by simp[toFmX.ca,Af.c,A9,AV.bel,Ar,B5,Ca]) (λa p hp=> ?_) LeVq ?_
 rotate_left
 intro a Q;simp only[Tryz.f8,toFmX.ca,Af.c];simp(maxSteps:=9^9)(disch:=omega)only[ZA,simprocAttr];obtain⟨h1,Z⟩:=Q;refine A7.os a.Cubes [] h1 (λj=>by simp[Ai,hget]) rfl rfl ?_ ?_
 .simp(maxSteps:=9^9)(disch:=omega)only[ZA,simprocAttr,toCX.ca,Du]
  try exact⟨rfl,rfl⟩
 simp(maxSteps:=9^9)(disch:=omega)only[ZA,simprocAttr,toCX.H1];refine A7.os a.Sums [] Z (λj=>by simp[Ai,hget]) rfl rfl ?_ ?_
 .simp(maxSteps:=9^9)(disch:=omega)only[ZA,simprocAttr,toZX.ca,Du]
  try exact⟨rfl,rfl⟩
 have hσ: ∀j,B2 (IU []) 0 5 j=5+j:=λj=>by simp[B2]
 rw[Ww a.Sums hσ];obtain⟨h3,h4⟩:=Z;have z:min a.Sums.length 1048576=a.Sums.length:=auOm;rw[z];simp only[De,AV.ren,hσ];refine⟨?_,?_⟩
 .rw[BA.ok_nr,R8 _ _ _ _ (λp hp=> ?_)]
  .simp only[AV.bel,Ar];rw[Ll _ _ _ (λi=>by simp[Ar,Jp]),RZ _ _ _ auOm];simp
  .rcases B0.1 hp with rfl|hp
   .exact⟨by simp only;omega,by simp only;omega⟩
   .obtain⟨i,O,rfl⟩:=BY.1 hp
    have:=AU.1 O
    exact⟨by simp only;omega,by simp only;omega⟩
 simp(maxSteps:=9^9)(disch:=omega)only[ZA,simprocAttr,Bb,toFmX.r0,OF,X6];obtain⟨H,hH⟩: ∃H,H=hget ((1,(true,Ad.cells 52 [AV.im (D.int .i64 a.Inputs),AV.own 4,AV.own 6]))::(2,(true,Ad.cells 52 [AV.im (D.int .i64 a.Inputs),AV.own 4,AV.own 6]))::(6,(true,Ad.arrA 35 1 (CE 7 a.Sums.length)))::
  (AH 7 a.Sums.length (Jp a.Sums)++[(4,(true,Ad.arr 115 2 (List.map Ag.c a.Cubes))),(0,(true,Ad.cells 34 [AV.im (D.int .i64 a.Inputs),AV.im (D.sl false 2 (List.map Ag.c a.Cubes)),AV.im (D.sl false 1 (List.map BD a.Sums))]))])):=⟨_,rfl⟩
 rw[<-hH];have g4:H 4=some (true,.arr 115 2 (a.Cubes.map Ag.c)):=by rw[hH];simp[hget,OF]
 have g6:H 6=some (true,.arrA 35 1 (CE 7 a.Sums.length)):=by rw[hH];rfl
 have gf: ∀i,i<a.Sums.length->H (7+i)=some (Jp a.Sums i):=by
  intro i O;rw[hH];simp only[hget,AC _ _ (show 1≠7+i by omega),AC _ _ (show 2≠7+i by omega),AC _ _ (show 6≠7+i by omega),Dw];rw[J7,CY _ _ _ _ O];rfl
 simp only[toFmX.H1,E4,z];refine⟨?_,?_,GJ _ _ _ _ _ gf (λi O=>rfl)⟩
 .rw[g4];exact⟨rfl,rfl⟩
 .rw[g6];exact⟨rfl,by simp only[Cd];rw[qV (λi O=>RD auOm auOm)];rfl⟩
 simp only[toFmX.H1,B0,AH,BY,AU] at hp;rcases hp with rfl|rfl|⟨i,O,rfl⟩
 .exact .inr ⟨auOm,by simp only;omega,rfl,rfl⟩
 .exact .inr ⟨auOm,by simp only;omega,rfl,rfl⟩
 .exact .inr ⟨by simp only;omega,by simp only;omega,by simp only[Jf];omega,rfl⟩
def toFR.row:A8:=fM toFm_.row toFmX.row
def toFR.ok:AE 8 toFR.row:=KY toFm_.ok toFmX.ok
structure FO(h:HpT)(c o b:Nat)(f:Af):Prop where
 c:h c=some (true,.arr 115 2 (f.Cubes.map Ag.c))
 n:I5 h o b f.Sums
def FO.mono{h h':HpT}{c o b:Nat}{f:Af}(F:FO h c o b f)(z: ∀m,(m=c\/m=o\/(b<=m/\m<b+f.Sums.length))->h' m=h m):FO h' c o b f:=
 ⟨by rw[z c (.inl rfl)];exact F.c,F.n.mono λm hm=>z m (.inr hm)⟩
def FO.pk{h:HpT}{c o b:Nat}{f:Af}(F:FO h c o b f):DX h (.agg [.im (.int .i64 f.Inputs),.own c,.own o])=some (.val (.agg (Af.c f))):=by
 have e:Aw (Aw (bk h 7)) (CE b f.Sums.length)=some (f.Sums.map BD):=by
  have O:f.Sums.map BD=(List.range f.Sums.length).map λi=>BD (f.Sums[i]?.getD []):=by
   apply Rn;intro i;rw[Dp,Dp];by_cases z:i<f.Sums.length
   .rw[ER z,Bk z];simp[z]
   .rw[Gv auOm,Gv (by simp;omega)];rfl
  rw[O];refine Sn _ λi z=> ?_
  have z:=AU.1 z;simp only[Aw,bk,F.n.f i z,Lu,BD]
 simp only[DX,bk,Aw,F.c,F.n.r,Lu,e,CT,EE,Af.c]
def fx_cl{f:Af}(z:R1 f): ∀p∈toFmX.H1 f,p.1<2000005/\ ∀m∈p.2.2.nms,m<2000005:=by
 have hm:min f.Sums.length 1048576<=1048576:=L4 _ _;have Q:=z.s;intro p hp;simp only[toFmX.H1,B0,AH,BY,AU] at hp;rcases hp with rfl|rfl|⟨i,O,rfl⟩
 .exact⟨auOm,by simp[Ad.nms]⟩
 .refine⟨auOm,λm hm=> ?_⟩;simp only[Ad.nms] at hm;obtain⟨q,hq,rfl⟩:=Qu6 _ _ m hm;omega
 .exact⟨by simp only;omega,by simp[Jp,Ad.nms]⟩
def fx_at{f:Af}(O:R1 f){nx:Nat}{z:An}(h: ∀j e,hget (toFmX.H1 f) j=some e->hget z (nx+j)=some (e.1,e.2.ren λj=>nx+j)):FO (hget z) (nx+4) (nx+6) (nx+7) f:=by
 have Z:=O.s;have hm:min f.Sums.length 1048576=f.Sums.length:=auOm;refine⟨h 4 _ rfl,?_,λi Q=> ?_⟩
 .rw[h 6 _ rfl];simp only[Ad.ren];rw[vR (b:=nx+7) (λi _=>auOm)]
 .have e:hget (toFmX.H1 f) (7+i)=some (Jp f.Sums i):=by
   simp only[toFmX.H1,hget,AC _ _ (show 4≠7+i by omega),AC _ _ (show 6≠7+i by omega),Dw];rw[hm];exact CY _ _ _ _ Q
  rw[Rj,h _ _ e];rfl
def mkCC.d0(a:List Ag×Int)(j:Nat)(z:Ai (mkCC.H0 a) j=true):j=0:=by
 simp only[Ai,mkCC.H0,hget] at z;by_cases h:j=0
 .exact h
 .rw[AC _ _ (λq=>h q.symm)] at z;cases z
def PP{nx o:Nat}{tm:TmT}{h:An}{dst:Option Nat}{go:Az->Prop}{l:List Ag}{k:Int}(hk:0<=k)(aa:k+2*l.length<=1099511627776)(hS:hget h o=some (true,.arr 115 2 (l.map Ag.c)))(ab:o<nx)
 (Z: ∀O:An,hget O o=some (true,.arr 115 2 ((FE (lX k) l.length).map Ag.c))->(∀m,m≠o->hget O m=hget h m)->go ((⟨tm,O,nx⟩:Az).put dst (.im (.int .i64 (k+2*l.length))))):
 mkCC.row [.own o,.im (.int .i64 k)] (hget h) nx (De go ⟨tm,h,nx⟩ dst):=by
 refine A7.tau (l,k) (λ_=>o) ⟨hk,aa⟩ (λj z=>by rw[mkCC.d0 _ j z];rfl) (λj z=>⟨by rw[mkCC.d0 _ j z];omega,ab⟩) (λi j hi z _=>by rw[mkCC.d0 _ i hi,mkCC.d0 _ j z]) (λp hp=> ?_) ⟨rfl,hS,trivial⟩ (by simp[AV.nms]) (λO hH1 Q=>Z O (hH1 0 _ rfl) λm hm=>Q m λj z h=>hm h.symm);simp only[mkCC.H1,Am] at hp;subst hp;exact⟨rfl,λm hm=>by simp[Ad.nms] at hm⟩
def rV(a:Af×Int):Int:=a.2+2*a.1.Cubes.length+GB a.1.Sums
def mkFo.ca(a:Af×Int):List AV:=[.agg [.im (.int .i64 a.1.Inputs),.own 1,.own 0],.im (.int .i64 a.2)]
def mkFo.H0(a:Af×Int):An:=(1,(true,.arr 115 2 (a.1.Cubes.map Ag.c)))::HE a.1.Sums (a.2+2*a.1.Cubes.length) 0
def mkFo.H1(a:Af×Int):An:=(1,(true,.arr 115 2 ((FE (lX a.2) a.1.Cubes.length).map Ag.c)))::HE a.1.Sums (a.2+2*a.1.Cubes.length) (nM a.1.Sums)
def mkFo.r0(a:Af×Int):AV:= .im (.int .i64 (rV a))
def mkFo.pre(a:Af×Int):Prop:=R1 a.1/\0<=a.2/\a.2<=274877906944
def mkFo.row:A8:=A7 mkFo.ca mkFo.H0 2000000 mkFo.pre (λ_=>true) mkFo.r0 mkFo.H1 0
def mkFo.dom0(a:Af×Int)(j:Nat):Ai (mkFo.H0 a) j=true↔j<2+nM a.1.Sums:=by
 by_cases h:j=1
 .subst h;simp[Ai,mkFo.H0,hget];omega
 .have:Ai (mkFo.H0 a) j=Ai (HE a.1.Sums (a.2+2*a.1.Cubes.length) 0) j:=by simp only[Ai,mkFo.H0,hget,AC _ _ (λq=>h q.symm),Dw]
  rw[this,KV];omega
def mkFo.hcl(a:Af×Int): ∀p∈mkFo.H1 a,Ai (mkFo.H0 a) p.1=true/\ ∀m∈p.2.2.nms,Ai (mkFo.H0 a) m=true:=by
 intro p hp;simp only[mkFo.dom0];rcases B0.1 hp with rfl|hp
 .exact⟨by simp only;omega,λm hm=>by simp[Ad.nms] at hm⟩
 .have:=KW hp
  exact⟨auOm,λm hm=>by have:=this.2 m hm;omega⟩
def mkFo.hbel(a:Af×Int):A9 2000000 (mkFo.ca a)=true:=by simp[mkFo.ca,A9,AV.bel]
def mkFo.hbH(a:Af×Int):Ar 2000000 (mkFo.H0 a)=true:=by
 simp only[mkFo.H0,Ar];refine X5 _ λp hp m hm=> ?_
 have:=(KW hp).2 m hm
 have:=O4 a.1.Sums
 omega
def mkFo.hkH(a:Af×Int):B5 2000000 (mkFo.H0 a)=true:=by
 have:=O4 a.1.Sums
 simp only[mkFo.H0,HE,BZ,E5,B5];rw[K2 _ _ _ _ auOm];simp
def mkFo.hnm(a:Af×Int):Ca (mkFo.H0 a) (mkFo.H0 a):=by
 refine RB λp hp m hm=>(mkFo.dom0 _ _).2 ?_
 rcases B0.1 hp with rfl|hp
 .simp[Ad.nms] at hm
 .have:=(KW hp).2 m hm;omega
def mkFo.ok:AE 15 mkFo.row:=by
 refine ow (tC mkCC.ok (tC mkSS.ok tN)) Tryz.func15 (exB:=λ_=>false) (R:=λa r=>r=mkFo.r0 a) (λ_=>rfl)
  (λa=>⟨mkFo.hbel a,mkFo.hbH a,mkFo.hkH a,mkFo.hnm a⟩) (λa p hp=> ?_) LeVq ?_
 rotate_left
 intro a O;simp only[Tryz.f15,mkFo.ca];simp(maxSteps:=9^9)(disch:=omega)only[ZA,simprocAttr];obtain⟨f,k⟩:=a;obtain⟨Q,h2,h3⟩:=O;simp only at Q h2 h3;simp only[Bb,mkFo.H0];have ad:=Q.c;have aa:=Q.s;have af:=Q.t;have hn:nM f.Sums=f.Sums.length:=by simp only[nM];omega
 have G0: ∀j,j<f.Sums.length->hget (HE f.Sums (k+2*(f.Cubes.length:Int)) 0) (2+j)=some (true,.arr 2 1 ((f.Sums[j]?.getD []).map Aj)):=λj z=>by
  rw[iP _ _ _ _ auOm];simp[Rw,Xs]
 refine PP (o:=1) (l:=f.Cubes) h2 auOm rfl auDe λHH h1 hk=> ?_
 have kP:hget HH 2000000=some (true,.cells 52 [.im (.int .i64 f.Inputs),.own 1,.own 0]):=(hk _ auDe).trans rfl;have N0:I5 (hget HH) 0 2 f.Sums:=by
  refine⟨(hk 0 auDe).trans ?_,λj z=>(hk (2+j) auOm).trans ?_⟩
  .show some (true,Ad.arrA 35 1 (CE 2 (nM f.Sums)))=_;rw[hn]
  .simp only[hget,AC _ _ (show 2000000≠2+j by omega),AC _ _ (show 1≠2+j by omega),Dw];exact G0 j z
 simp(maxSteps:=9^9)(disch:=omega)only[ZA,simprocAttr,Bb,kP];refine PQ (M:=f.Sums) (o:=0) (b:=2) aa auOm auOm N0 auDe auOm λZ N1 ac=> ?_
 have kC:hget Z 1=some (true,.arr 115 2 ((FE (lX k) f.Cubes.length).map Ag.c)):=(ac 1 auDe (.inl auDe)).trans h1;simp(maxSteps:=9^9)(disch:=omega)only[ZA,simprocAttr,Bb,mkFo.r0,mkFo.H1];have ab: ∀j,j<2+f.Sums.length->Ai (mkFo.H0 (f,k)) j=true:=λj z=>(mkFo.dom0 _ _).2 (by simp only[hn];omega)
 refine⟨RA _ _,rfl,?_⟩;simp only[hn,HE,BZ,E5,E4];refine⟨?_,?_,GJ _ _ _ _ _ (λj z=> ?_) (λj _=>rfl)⟩
 .rw[kC];exact⟨rfl,rfl⟩
 .rw[N1.r,XK];refine⟨rfl,?_⟩;simp only[Cd];rw[qV (λj z=>XL (by have:=ab (2+j) auOm;simpa only[mkFo.H0,HE,hn,BZ,E5] using this))];rfl
 .rw[N1.f j (by rw[XK];exact z)];simp only[Rw];rw[Bt z,sA,Dp,ER z];rfl
 obtain⟨q1,_⟩:=mkFo.hcl _ p hp
 have:=(mkFo.dom0 _ _).1 q1
 have:=O4 a.1.Sums
 exact .inl ⟨auOm,rfl,q1⟩
end Go.Ae
namespace Go.Ae
open Go.Proofs Go.Lib
def inOk.fv(a:Int):Bool:=(λn=>B7 n 1 4) a
def inOk.row:A8:=vK (b1 qI) rB (λa=>True) inOk.fv
def inOk.q:=Bg (R:=inOk.row) rfl
def inOk.ok:AE 115 inOk.row:=by
 refine vw (tC within_.ok tN) Tryz.func115 ?_;intro a z;simp only[Tryz.f115];simp(maxSteps:=9^9)(disch:=omega)only[ZA,simprocAttr,inOk.fv,within_.q,within_.fv]
def cubK.fv(a:Int×Ag):Bool:=(Zd) (a.1) (a.2)
def cubK.row:A8:=vK (b2 qI (qR Ag.d_le)) rB (λa=>0<=a.1) cubK.fv
def cubK.q:=Bg (R:=cubK.row) rfl
def cubK.ok:AE 117 cubK.row:=by
 refine vw (tC within_.ok tN) Tryz.func117 ?_;intro a z;simp only[Tryz.f117];obtain⟨n,q⟩:=a;simp only at z⊢;simp(maxSteps:=9^9)(disch:=omega)only[ZA,simprocAttr,cubK.fv,within_.q,within_.fv,Ag.c,AL];have O:IntKind.i64.wrap (1*2^min n.toNat IntKind.i64.bits)=EY n:=rfl;rw[O];simp only[Zd];refine⟨z,λh=> ?_,λh=> ?_⟩
 .rw[h,CZ]
 .rw[Hk.2 h,Da]
def cmpC.fv(a:Ag×Ag):Int:=(λa b=>Lk [EB a.Care b.Care,EB a.Value b.Value]) (a.1) (a.2)
def cmpC.row:A8:=vK (b2 (qR Ag.d_le) (qR Ag.d_le)) rI (λa=>True) cmpC.fv
def cmpC.q:=Bg (R:=cmpC.row) rfl
def cmpC.ok:AE 118 cmpC.row:=by
 refine vw (tC Compare.ok (tC Or.ok tN)) Tryz.func118 ?_;intro a z;simp only[Tryz.f118];obtain⟨p,q⟩:=a;simp(maxSteps:=9^9)(disch:=omega)only[ZA,simprocAttr,cmpC.fv,Compare.q,Compare.fv,Or.q,Or.fv,Ag.c]
def ascK.fv(a:(Cz)×Int):Bool:=(λl n=>Fo 0 (n - 1) none l) (a.1) (a.2)
def ascK.row:A8:=vK (b2 (qS D4 Cq) qI) rB (λa=>0<=a.2/\a.2<=2000000) ascK.fv
def ascK.q:=Bg (R:=ascK.row) rfl
def ascK.ok:AE 121 ascK.row:=by
 refine vw (tC isIndex.ok tN) Tryz.func121 ?_;intro a O;simp only[Tryz.f121];simp(maxSteps:=9^9)(disch:=omega)only[ZA,simprocAttr,ascK.fv];obtain⟨l,n⟩:=a;simp only at O⊢;intro ab;refine AY.old ⟨{k:Nat//k<=l.length/\Fo 0 (n - 1) (Gg l k) (l.drop k)=Fo 0 (n - 1) none l},λk=>⟨[(9,.im (.int .i64 k.1)),(8,.im (.int .i64 l.length)),(7,.im (.sl false 1 (l.map Aj))),(4,.im (.bool false)),(0,.im (.sl false 1 (l.map Aj))),(1,.im (.int .i64 n))],[],0⟩,λk=>l.length - k.1,λk=>⟨by simp[ZG],auSi⟩,⟨⟨0,by simp[Gg]⟩,by simp(maxSteps:=9^9)(disch:=omega)only[ZA,simprocAttr,sub]⟩,λk=> ?_⟩;obtain⟨k,aa,z⟩:=k;simp(maxSteps:=9^9)(disch:=omega)only[ZA,simprocAttr,isIndex.q,isIndex.fv,sub,AL];have hw:IntKind.i64.wrap ((k:Int)+1)=((k+1:Nat):Int):=by rw[AG auOm auOm];omega
 refine⟨λhk=>⟨hk,λx Z=>⟨⟨O.1,by simp only[I64];omega⟩,?_⟩⟩,λhk=> ?_⟩
 .rw[FH Z,vX] at z;refine⟨λQ=>⟨λh5=> ?_,λh5=> ?_⟩,λQ=> ?_⟩
  .rw[AG (x:=(k:Int) - 1) auOm auOm];refine⟨auOm,auOm,λy hy=> ?_⟩;have hp:Gg l k=some y:=by
    have e:((k:Int) - 1).toNat=k - 1:=auOm;rw[e] at hy;simp only[Gg,hy];rw[Be auOm]
   rw[hp,Q,CZ] at z;simp only at z;refine⟨λh7=> ?_,λh7=>⟨⟨k+1,auOm,?_⟩,by simp only;omega,hw⟩⟩
   .rw[Jh auOm,Da] at z;exact z
   .rw[My auOm,CZ] at z;rw[Ya Z];exact z
  .have hp:Gg l k=none:=by simp only[Gg];rw[Bt auOm]
   rw[hp,Q,CZ] at z;simp only at z;refine⟨⟨k+1,auOm,?_⟩,by simp only;omega,hw⟩;rw[CZ] at z;rw[Ya Z];exact z
  .rw[Hk.2 Q,Da] at z;exact z
 .rw[Bm auOm,sO] at z;exact z
def inpK.fv(a:Int×Int):Cz:=(λn m=>Dd n.toNat m) (a.1) (a.2)
def inpK.row:A8:=vK (b2 qI qI) (rS D4 Cq) (λa=>0<=a.1/\a.1<=100) inpK.fv
def inpK.q:=Bg (R:=inpK.row) rfl
def inpK.ok:AE 35 inpK.row:=by
 refine vw tN Tryz.func35 ?_;intro a z;simp only[Tryz.f35];simp(maxSteps:=9^9)(disch:=omega)only[ZA,simprocAttr,inpK.fv];obtain⟨n,m⟩:=a;simp only at z⊢;obtain⟨N,rfl⟩: ∃N:Nat,n=N:=⟨n.toNat,auOm⟩;simp(maxSteps:=9^9)(disch:=omega)only[ZA,simprocAttr];refine AY.ren ⟨{k:Nat//k<=N},λk=>⟨[(8,.im (.int .i64 k.1)),(7,.im (.int .i64 (N:Nat))),(5,.own 2),(1,.im (.int .i64 m))],[(2,(true,.arr 2 1 ((Dd k.1 m).map Aj)))],3⟩,λk=>N - k.1,λk=>⟨by simp[ZG],auSi⟩,⟨⟨0,Ir _⟩,[(2,some 1)],?_⟩,λk=> ?_⟩
 .simp only[AB,show Dd 0 m=[] from rfl,Gl];simp(maxSteps:=9^9)(disch:=omega)only[ZA,simprocAttr]
 obtain⟨k,hk⟩:=k;have hw:IntKind.i64.wrap ((k:Int)+1)=((k+1:Nat):Int):=by rw[AG auOm auOm];omega
 have hl:(Dd k m).length=k:=by simp[Dd]
 simp(maxSteps:=9^9)(disch:=omega)only[ZA,simprocAttr,AL];have Q:F8 m k=Dz .i64 (m.fdiv (2^min k IntKind.i64.bits)) 1:=rfl;rw[<-Q];refine⟨λO=>⟨?_,auOm,⟨k+1,auOm⟩,[(2,some 4)],by simp only;omega,?_⟩,λO=> ?_⟩
 .intro r Z;rw[Am.1 Z];rfl
 .simp only[AB,hw,<-vW,Dj,Br,Gl];simp(maxSteps:=9^9)(disch:=omega)only[ZA,simprocAttr,Aj]
 .obtain rfl:k=N:=auOm;rfl
def Pz(b x:Int):Bool:= !B7 x 0 (b - 1)
def bl1_.fv(a:Int×Int):Bool:=(λx b=>Pz b x) (a.1) (a.2)
def bl1_.row:A8:=Cj (b2 qI (qP 1 D4)) rB (λa=> -9223372036854775807<=a.2/\a.2<=9223372036854775807) bl1_.fv
def bl1_.q:=Cf (R:=bl1_.row) rfl
def bl1_.ok:AE 164 bl1_.row:=by
 refine EK (tC within_.ok tN) Tryz.func164 ?_;intro a z;simp only[Tryz.f164];simp(maxSteps:=9^9)(disch:=omega)only[ZA,simprocAttr,bl1_.fv,within_.q,within_.fv,D.sc,D.scs,AO];simp only[Pz];rw[AG auOm auOm]
def IdxBl.ar:List PK->Option ((Cz)×Int)
 |[.val (.sl _ _ O),.val (.fn 164 [] [.ref [.int .i64 z]])]=>(Ba CV O).bind λQ=>some (Q,z)
 |_=>none
def IdxBl.ae(a:(Cz)×Int):List PK:=[.val (.sl false 1 (a.1.map Aj)),.val (.fn 164 [] [.ref [.int .i64 a.2]])]
def IdxBl.le: ∀z a,IdxBl.ar z=some a->Cu z (IdxBl.ae a):=by
 intro z a h;unfold IdxBl.ar at h;split at h
 .simp only[DG,AS] at h;obtain⟨O,h0,rfl⟩:=h;exact⟨Fz (Fs D4 _ _ h0) (by simp only[BY];rintro r ⟨y,_,rfl⟩;rfl),Xc ⟨Le.refl _,trivial⟩,trivial⟩
 .cases h
def IdxBl.fv(a:(Cz)×Int):Int:=(λl b=>BC (Pz b) 0 l) (a.1) (a.2)
def IdxBl.row:A8:=Lj IdxBl.ar (λa=> -9223372036854775807<=a.2/\a.2<=9223372036854775807) (λa=>(D.int .i64) (IdxBl.fv a))
def IdxBl.q:=vqF IdxBl.row rfl
def IdxBl.ok:AE 190 IdxBl.row:=by
 refine Qbn Fc (tC bl1_.ok tN) Tryz.func190 rfl (by kernel_rfl) (by kernel_rfl) (ar:=IdxBl.ar) (ae:=IdxBl.ae) IdxBl.le (n:=2) (λ_=>rfl) auDe (rc:=(Eu)) (re:=(D.int .i64)) (Xy) (f:=IdxBl.fv) ?_;intro a O;simp only[Tryz.f190];simp(maxSteps:=9^9)(disch:=omega)only[ZA,simprocAttr,IdxBl.ae,IdxBl.fv];intro hn;obtain⟨l,b⟩:=a;simp only at O hn⊢;refine AY.old ⟨{k:Nat//k<=l.length/\BC (Pz b) k (l.drop k)=BC (Pz b) 0 l},λk=>⟨[(8,.im (.int .i64 k.1)),(7,.im (.int .i64 l.length)),(6,.im (.sl false 1 (l.map Aj))),(4,.im (.int .i64 0)),(0,.im (.sl false 1 (l.map Aj))),(1,.im (.fn 164 [] [.ref (Aj b)]))],[],0⟩,λk=>l.length - k.1,λk=>⟨by simp[ZG],BN _⟩,⟨⟨0,auSi⟩,by simp(maxSteps:=9^9)(disch:=omega)only[ZA,simprocAttr,sub]⟩,λk=> ?_⟩;obtain⟨k,Z,z⟩:=k;simp(maxSteps:=9^9)(disch:=omega)only[ZA,simprocAttr,Aa,bl1_.q,bl1_.fv,D.sc,D.scs,AO,sub,AL];refine⟨λQ=>⟨Q,λx hx=> ?_⟩,λQ=> ?_⟩
 .rw[FH hx,BC] at z;refine⟨O,λh=> ?_,λh=>FG Q hn ⟨auOm,by rw[<-z,Be (by simpa using h)]⟩⟩;rw[Bt (by simpa using h)] at z;exact z.symm▸rfl
 .rw[Bm auOm,BC] at z;exact z
def ContBl.ar:List PK->Option ((Cz)×Int)
 |[.val (.sl _ _ O),.val (.fn 164 [] [.ref [.int .i64 z]])]=>(Ba CV O).bind λQ=>some (Q,z)
 |_=>none
def ContBl.ae(a:(Cz)×Int):List PK:=[.val (.sl false 1 (a.1.map Aj)),.val (.fn 164 [] [.ref [.int .i64 a.2]])]
def ContBl.le: ∀z a,ContBl.ar z=some a->Cu z (ContBl.ae a):=by
 intro z a h;unfold ContBl.ar at h;split at h
 .simp only[DG,AS] at h;obtain⟨O,h0,rfl⟩:=h;exact⟨Fz (Fs D4 _ _ h0) (by simp only[BY];rintro r ⟨y,_,rfl⟩;rfl),Xc ⟨Le.refl _,trivial⟩,trivial⟩
 .cases h
def ContBl.fv(a:(Cz)×Int):Bool:=(λl b=>l.any (Pz b)) (a.1) (a.2)
def ContBl.row:A8:=Lj ContBl.ar (λa=> -9223372036854775807<=a.2/\a.2<=9223372036854775807) (λa=>(D.bool) (ContBl.fv a))
def ContBl.q:=vqF ContBl.row rfl
def ContBl.ok:AE 163 ContBl.row:=by
 refine Qbn Fc (tC IdxBl.ok tN) Tryz.func163 rfl (by kernel_rfl) (by kernel_rfl) (ar:=ContBl.ar) (ae:=ContBl.ae) ContBl.le (n:=2) (λ_=>rfl) auDe (rc:=(QV)) (re:=(D.bool)) (cV) (f:=ContBl.fv) ?_;intro a z;simp only[Tryz.f163];simp(maxSteps:=9^9)(disch:=omega)only[ZA,simprocAttr,Aa,ContBl.ae,ContBl.fv,IdxBl.q,IdxBl.ar,IdxBl.fv,D.sc,D.scs,AO];exact⟨z,yK _ _⟩
def blw_.fv(a:(Cz)×Int):Bool:=(λl b=>l.all (λx=>B7 x 0 (b - 1))) (a.1) (a.2)
def blw_.row:A8:=Cj (b2 (qS D4 Cq) qI) rB (λa=> -9223372036854775807<=a.2/\a.2<=9223372036854775807) blw_.fv
def blw_.q:=Cf (R:=blw_.row) rfl
def blw_.ok:AE 122 blw_.row:=by
 refine EK (tC ContBl.ok tN) Tryz.func122 ?_;intro a z;simp only[Tryz.f122];simp(maxSteps:=9^9)(disch:=omega)only[ZA,simprocAttr,Aa,blw_.fv,ContBl.q,ContBl.ar,ContBl.fv,D.sc,D.scs,AO];refine .inl ⟨z,?_⟩;rw[Zey];rfl
def bitK.fv(a:(Cz)×Int):Bool:=(λl n=>EV n l) (a.1) (a.2)
def bitK.row:A8:=Cj (b2 (qS D4 Cq) qI) rB (λa=>True) bitK.fv
def bitK.q:=Cf (R:=bitK.row) rfl
def bitK.ok:AE 71 bitK.row:=by
 refine EK (tC blw_.ok tN) Tryz.func71 ?_;intro a z;simp only[Tryz.f71];simp(maxSteps:=9^9)(disch:=omega)only[ZA,simprocAttr,Aa,bitK.fv,blw_.q,blw_.fv,D.sc,D.scs,AO];obtain⟨l,n⟩:=a;simp only;intro _;simp only[EV]
 split<;>rename_i h
 .rw[My h,CZ]
 .rw[Jh h,Da]
def SF(f:Af)(r:Cz):Bool:= !Fo 0 ((f.Cubes.length:Int) - 1) none r
def vf1.fv(a:(Cz)×Af):Bool:=(λr f=>SF f r) (a.1) (a.2)
def vf1.row:A8:=vK (b2 (qS D4 Cq) (qP 3 Af.d_le)) rB (λa=>a.2.Cubes.length<=100) vf1.fv
def vf1.q:=Bg (R:=vf1.row) rfl
def vf1.ok:AE 120 vf1.row:=by
 refine vw (tC ascK.ok tN) Tryz.func120 ?_;intro a z;simp only[Tryz.f120];obtain⟨r,f⟩:=a;simp only at z⊢;simp(maxSteps:=9^9)(disch:=omega)only[ZA,simprocAttr,vf1.fv,ascK.q,ascK.fv,Af.c];exact λ_=>⟨auOm,rfl⟩
def IdxVF.ar:List PK->Option ((List (Cz))×Af)
 |[.val (.sl _ _ Q),.val (.fn 120 [] [.ref z])]=>(Ba Pd Q).bind λZ=>(Af.d (z.take 3)).bind λO=>some (Z,O)
 |_=>none
def IdxVF.ae(a:(List (Cz))×Af):List PK:=[.val (.sl false 1 (a.1.map BD)),.val (.fn 120 [] [.ref (Af.c a.2)])]
def IdxVF.le: ∀O a,IdxVF.ar O=some a->Cu O (IdxVF.ae a):=by
 intro O a h;unfold IdxVF.ar at h;split at h
 .simp only[DG,AS] at h;obtain⟨Z,h0,Q,z,rfl⟩:=h;exact⟨Fz (Fs OZ _ _ h0) (by simp only[BY];rintro r ⟨y,_,rfl⟩;rfl),Xc ⟨jS (Ii.trans_take (Af.d_le _ _ z)),trivial⟩,trivial⟩
 .cases h
def IdxVF.fv(a:(List (Cz))×Af):Int:=(λl f=>BC (SF f) 0 l) (a.1) (a.2)
def IdxVF.row:A8:=Ei IdxVF.ar (λa=>a.2.Cubes.length<=100) (λa=>(D.int .i64) (IdxVF.fv a))
def IdxVF.q:=vq IdxVF.row rfl
def IdxVF.ok:AE 161 IdxVF.row:=by
 refine XM Fc (tC vf1.ok tN) Tryz.func161 rfl (by kernel_rfl) (by kernel_rfl) (ar:=IdxVF.ar) (ae:=IdxVF.ae) IdxVF.le (n:=2) (λ_=>rfl) auDe (rc:=(Eu)) (re:=(D.int .i64)) (Xy) (f:=IdxVF.fv) ?_;intro a O;simp only[Tryz.f161];obtain⟨l,f⟩:=a;simp only at O⊢;simp(maxSteps:=9^9)(disch:=omega)only[ZA,simprocAttr,IdxVF.ae,IdxVF.fv,Af.c];intro hn;refine AY.old ⟨{k:Nat//k<=l.length/\BC (SF f) k (l.drop k)=BC (SF f) 0 l},λk=>⟨[(8,.im (.int .i64 k.1)),(7,.im (.int .i64 l.length)),(6,.im (.sl false 1 (l.map BD))),(4,.im (.int .i64 0)),(0,.im (.sl false 1 (l.map BD))),(1,.im (.fn 120 [] [.ref (Af.c f)]))],[],0⟩,λk=>l.length - k.1,λk=>⟨by simp[ZG],BN _⟩,⟨⟨0,auSi⟩,by simp(maxSteps:=9^9)(disch:=omega)only[ZA,simprocAttr,sub,Af.c]⟩,λk=> ?_⟩;obtain⟨k,Z,z⟩:=k;simp(maxSteps:=9^9)(disch:=omega)only[ZZ,simprocAttr,vf1.q,vf1.fv,sub,AL,Af.c,Af.d,Af.eta,Ag.d_R];refine⟨λQ=>⟨Q,λx hx=> ?_⟩,λQ=> ?_⟩
 .rw[FH hx,BC] at z;refine⟨O,λh=> ?_,λh=>FG Q hn ⟨auOm,by rw[<-z,Be (by simpa using h)]⟩⟩;rw[Bt (by simpa using h)] at z;exact z.symm▸rfl
 .rw[Bm auOm,BC] at z;exact z
def ContVF.ar:List PK->Option ((List (Cz))×Af)
 |[.val (.sl _ _ Q),.val (.fn 120 [] [.ref z])]=>(Ba Pd Q).bind λZ=>(Af.d (z.take 3)).bind λO=>some (Z,O)
 |_=>none
def ContVF.ae(a:(List (Cz))×Af):List PK:=[.val (.sl false 1 (a.1.map BD)),.val (.fn 120 [] [.ref (Af.c a.2)])]
def ContVF.le: ∀O a,ContVF.ar O=some a->Cu O (ContVF.ae a):=by
 intro O a h;unfold ContVF.ar at h;split at h
 .simp only[DG,AS] at h;obtain⟨Z,h0,Q,z,rfl⟩:=h;exact⟨Fz (Fs OZ _ _ h0) (by simp only[BY];rintro r ⟨y,_,rfl⟩;rfl),Xc ⟨jS (Ii.trans_take (Af.d_le _ _ z)),trivial⟩,trivial⟩
 .cases h
def ContVF.fv(a:(List (Cz))×Af):Bool:=(λl f=>l.any (SF f)) (a.1) (a.2)
def ContVF.row:A8:=Ei ContVF.ar (λa=>a.2.Cubes.length<=100) (λa=>(D.bool) (ContVF.fv a))
def ContVF.q:=vq ContVF.row rfl
def ContVF.ok:AE 119 ContVF.row:=by
 refine XM Fc (tC IdxVF.ok tN) Tryz.func119 rfl (by kernel_rfl) (by kernel_rfl) (ar:=ContVF.ar) (ae:=ContVF.ae) ContVF.le (n:=2) (λ_=>rfl) auDe (rc:=(QV)) (re:=(D.bool)) (cV) (f:=ContVF.fv) ?_;intro a z;simp only[Tryz.f119];obtain⟨l,f⟩:=a;simp only at z⊢;simp(maxSteps:=9^9)(disch:=omega)only[ZZ,simprocAttr,ContVF.ae,ContVF.fv,IdxVF.q,IdxVF.ar,IdxVF.fv,Af.c,Af.d,Af.eta,Ag.d_R];exact⟨z,yK _ _⟩
def lV(a b:Ag):decide (0<=Lk [EB a.Care b.Care,EB a.Value b.Value])= !JK a b:=by
 simp only[Lk,EB,JK];rcases Int.lt_trichotomy a.Care b.Care with h|h|h<;>rcases Int.lt_trichotomy a.Value b.Value with g|g|g<;>simp[h,g,Int.lt_asymm,Int.ne_of_lt,Int.ne_of_gt]<;>omega
def vfK.fv(a:Af):Bool:=(EX) a
def vfK.row:A8:=vK (b1 (qR Af.d_le)) rB (λa=>a.Cubes.length<=2000000) vfK.fv
def vfK.q:=Bg (R:=vfK.row) rfl
def vfK.ok:AE 70 vfK.row:=by
 refine vw (tC inOk.ok (tC within_.ok (tC cubK.ok (tC cmpC.ok (tC ContVF.ok tN))))) Tryz.func70 ?_;intro a aa;simp only[Tryz.f70];simp only[ZA,simprocAttr,vfK.fv,inOk.q,inOk.fv,within_.q,within_.fv,Af.c,AL];refine⟨λZ _=>⟨λh3 _=>⟨λQ=> ?_,λQ _=> ?_⟩,λh3=> ?_⟩,λZ=> ?_⟩
 .simp only[EX];rw[Q];simp
 .have Q:=(FM _).mp Q;have g1:1<=a.Inputs/\a.Inputs<=4:=by simpa[B7] using Z
  have g3:a.Cubes.length<=81:=auOm;have hB:EX a=(Hr a.Inputs none a.Cubes && a.Sums.all (Fo 0 ((a.Cubes.length:Int) - 1) none)):=by
   simp only[EX];rw[Z,Q,My g3];simp
  rw[hB];refine AY.ren ⟨{k:Nat//k<=a.Cubes.length/\Hr a.Inputs (Gf a.Cubes k) (a.Cubes.drop k)=Hr a.Inputs none a.Cubes},λk=>⟨[(25,.im (.int .i64 k.1)),(24,.im (.int .i64 a.Cubes.length)),(23,.im (.sl false 2 (a.Cubes.map Ag.c))),(2,.im (.bool false)),(1,.ptr 0 0)],[(0,(true,.cells 52 [.im (.int .i64 a.Inputs),.im (.sl false 2 (a.Cubes.map Ag.c)),.im (.sl false 1 (a.Sums.map BD))]))],1⟩,λk=>a.Cubes.length - k.1,λk=>⟨by simp[ZG],auSi⟩,⟨⟨0,by simp[Gf]⟩,[],?_⟩,λk=> ?_⟩
  .simp only[AB];simp only[ZA,simprocAttr]
  obtain⟨k,ab,z⟩:=k;have hw:IntKind.i64.wrap ((k:Int)+1)=((k+1:Nat):Int):=by rw[AG auOm auOm];omega
  simp only[ZZ,simprocAttr,cubK.q,cubK.fv,cmpC.q,cmpC.fv,ContVF.q,ContVF.ar,ContVF.fv,AL,Af.d,Af.eta,Ag.d_R,Ag.c,Ag.d,Ag.eta];refine⟨λhk=>⟨hk,λx hx=>⟨auOm,?_⟩⟩,λhk=> ?_⟩
  .rw[FH hx,vP,<-Ze g1] at z;refine⟨λh4=>⟨λh5=> ?_,λh5=> ?_⟩,λh4=> ?_⟩
   .rw[AG (x:=(k:Int) - 1) auOm auOm];refine⟨auOm,auOm,λy hy=> ?_⟩;have hp:Gf a.Cubes k=some y:=by
     have e:((k:Int) - 1).toNat=k - 1:=auOm;rw[e] at hy;simp only[Gf,hy];rw[Be auOm]
    rw[hp,h4,CZ] at z;simp only at z;have O:=lV y x;refine⟨λh7=> ?_,λh7=>⟨⟨k+1,auOm,?_⟩,[],by simp only;omega,?_⟩⟩
    .rw[My h7] at O;have O:JK y x=false:=by simpa using O.symm
     rw[O,Da] at z;rw[<-z,Da]
    .rw[Jh h7] at O;have O:JK y x=true:=by simpa using O.symm
     rw[O,CZ] at z;rw[XZ hx];exact z
    .simp only[AB,hw];simp only[ZA,simprocAttr]
   .have hp:Gf a.Cubes k=none:=by simp only[Gf];rw[Bt auOm]
    rw[hp,h4,CZ] at z;simp only at z;refine⟨⟨k+1,auOm,?_⟩,[],by simp only;omega,?_⟩
    .rw[CZ] at z;rw[XZ hx];exact z
    .simp only[AB,hw];simp only[ZA,simprocAttr]
   .rw[Hk.2 h4,Da] at z;rw[<-z,Da]
  .obtain rfl:k=a.Cubes.length:=auOm;rw[Bm (BN _),vY] at z;rw[<-z,CZ];refine⟨auOm,?_⟩;rw[Zey];rfl
 .simp only[EX];rw[Jh auOm];simp
 .simp only[EX];rw[Hk.2 Z];simp
def EqualI.fv(a:(Cz)×(Cz)):Bool:=(λa b=>decide (a=b)) (a.1) (a.2)
def EqualI.row:A8:=vK (b2 (qS D4 Cq) (qS D4 Cq)) rB (λa=>True) EqualI.fv
def EqualI.q:=Bg (R:=EqualI.row) rfl
def EqualI.ok:AE 165 EqualI.row:=by
 refine vw tN Tryz.func165 ?_;intro a aa;simp only[Tryz.f165];simp(maxSteps:=9^9)(disch:=omega)only[ZA,simprocAttr,EqualI.fv];intro h1 h2;simp only[AL];refine⟨λO=> ?_,λO=> ?_⟩
 .have:a.1≠a.2:=λh=>O (by rw[h])
  simp[this]
 have O:a.1.length=a.2.length:=auOm;intro _;refine AY.old ⟨{k:Nat//k<=a.1.length/\a.1.take k=a.2.take k},λk=>⟨[(13,.im (.int .i64 k.1)),(12,.im (.int .i64 a.1.length)),(11,.im (.sl false 1 (a.1.map Aj))),(4,.im (.bool false)),(0,.im (.sl false 1 (a.1.map Aj))),(1,.im (.sl false 1 (a.2.map Aj)))],[],0⟩,λk=>a.1.length - k.1,λk=>⟨by simp[ZG],BN _⟩,⟨⟨0,auSi⟩,by simp(maxSteps:=9^9)(disch:=omega)only[ZA,simprocAttr,sub]⟩,λk=> ?_⟩;obtain⟨k,Z,z⟩:=k;simp(maxSteps:=9^9)(disch:=omega)only[ZA,simprocAttr,sub,AL];refine⟨λQ=>⟨Q,λx hx=>⟨auOm,λy hy=> ?_⟩⟩,λQ=> ?_⟩
 .obtain⟨g1,g2⟩:=Lh O Z z hx hy;refine⟨λh=> ?_,λh=>FG Q h1 ⟨auOm,g1 (by simpa using h)⟩⟩
  have:=g2 (by simpa using h)
  simp[this]
 .rw[BE auOm,BE auOm] at z;simp[z]
def EqualG.fv(a:(List Ac)×(List Ac)):Bool:=(λa b=>decide (a=b)) (a.1) (a.2)
def EqualG.row:A8:=vK (b2 (qS Ac.d_le Ac.c_n) (qS Ac.d_le Ac.c_n)) rB (λa=>True) EqualG.fv
def EqualG.q:=Bg (R:=EqualG.row) rfl
def EqualG.ok:AE 124 EqualG.row:=by
 refine vw tN Tryz.func124 ?_;intro a aa;simp only[Tryz.f124];simp(maxSteps:=9^9)(disch:=omega)only[ZA,simprocAttr,EqualG.fv];intro h1 h2;simp only[AL];refine⟨λO=> ?_,λO=> ?_⟩
 .have:a.1≠a.2:=λh=>O (by rw[h])
  simp[this]
 have O:a.1.length=a.2.length:=auOm;intro _;refine AY.old ⟨{k:Nat//k<=a.1.length/\a.1.take k=a.2.take k},λk=>⟨[(13,.im (.int .i64 k.1)),(12,.im (.int .i64 a.1.length)),(11,.im (.sl false 2 (a.1.map Ac.c))),(4,.im (.bool false)),(0,.im (.sl false 2 (a.1.map Ac.c))),(1,.im (.sl false 2 (a.2.map Ac.c)))],[],0⟩,λk=>a.1.length - k.1,λk=>⟨by simp[ZG],BN _⟩,⟨⟨0,auSi⟩,by simp(maxSteps:=9^9)(disch:=omega)only[ZA,simprocAttr,sub]⟩,λk=> ?_⟩;obtain⟨k,Z,z⟩:=k;simp(maxSteps:=9^9)(disch:=omega)only[ZA,simprocAttr,sub,AL,sQ];refine⟨λQ=>⟨Q,λx hx=>⟨auOm,λy hy=> ?_⟩⟩,λQ=> ?_⟩
 .obtain⟨g1,g2⟩:=Lh O Z z hx hy;refine⟨λh=> ?_,λh=>FG Q h1 ⟨auOm,g1 (by simpa using h)⟩⟩
  have:=g2 (by simpa using h)
  simp[this]
 .rw[BE auOm,BE auOm] at z;simp[z]
def smT.fv(a:Tile×Tile):Bool:=(λa b=>decide (a=b)) (a.1) (a.2)
def smT.row:A8:=vK (b2 (qR Tile.d_le) (qR Tile.d_le)) rB (λa=>True) smT.fv
def smT.q:=Bg (R:=smT.row) rfl
def smT.ok:AE 126 smT.row:=by
 refine vw (tC EqualI.ok tN) Tryz.func126 ?_;intro a z;simp only[Tryz.f126];simp(maxSteps:=9^9)(disch:=omega)only[ZA,simprocAttr,smT.fv,EqualI.q,EqualI.fv];obtain⟨⟨O,Q⟩,⟨Z,y1⟩⟩:=a;simp only[Tile.mk.injEq]
 split<;>rename_i h
 .simp[h]
 .simp[h]
def EqFT.ar:List PK->Option ((List Tile)×(List Tile)×Unit)
 |[.val (.sl _ _ z),.val (.sl _ _ O),.val (.fn 126 [] [])]=>(Ba Tile.d z).bind λQ=>(Ba Tile.d O).bind λZ=>some (Q,Z,())
 |_=>none
def EqFT.ae(a:(List Tile)×(List Tile)×Unit):List PK:=[.val (.sl false 2 (a.1.map Tile.c)),.val (.sl false 2 (a.2.1.map Tile.c)),.val (.fn 126 [] [])]
def EqFT.le: ∀z a,EqFT.ar z=some a->Cu z (EqFT.ae a):=by
 intro z a h;unfold EqFT.ar at h;split at h
 .simp only[DG,AS] at h;obtain⟨Q,h0,Z,O,rfl⟩:=h;exact⟨Fz (Fs Tile.d_le _ _ h0) (by simp only[BY];rintro r ⟨y,_,rfl⟩;rfl),Fz (Fs Tile.d_le _ _ O) (by simp only[BY];rintro r ⟨y,_,rfl⟩;rfl),CX.refl _,trivial⟩
 .cases h
def EqFT.fv(a:(List Tile)×(List Tile)×Unit):Bool:=(λa b _=>decide (a=b)) (a.1) (a.2.1) (a.2.2)
def EqFT.row:A8:=Ei EqFT.ar (λa=>True) (λa=>(D.bool) (EqFT.fv a))
def EqFT.q:=vq EqFT.row rfl
def EqFT.ok:AE 125 EqFT.row:=by
 refine XM Fc (tC smT.ok tN) Tryz.func125 rfl (by kernel_rfl) (by kernel_rfl) (ar:=EqFT.ar) (ae:=EqFT.ae) EqFT.le (n:=3) (λ_=>rfl) auDe (rc:=(QV)) (re:=(D.bool)) (cV) (f:=EqFT.fv) ?_;intro a aa;simp only[Tryz.f125];simp(maxSteps:=9^9)(disch:=omega)only[ZA,simprocAttr,EqFT.ae,EqFT.fv];intro h1 h2;simp only[AL];refine⟨λO=> ?_,λO=> ?_⟩
 .have:a.1≠a.2.1:=λh=>O (by rw[h])
  simp[this]
 have O:a.1.length=a.2.1.length:=auOm;intro _;refine AY.old ⟨{k:Nat//k<=a.1.length/\a.1.take k=a.2.1.take k},λk=>⟨[(17,.im (.int .i64 k.1)),(16,.im (.int .i64 a.1.length)),(15,.im (.sl false 2 (a.1.map Tile.c))),(6,.im (.bool false)),(1,.im (.sl false 2 (a.2.1.map Tile.c))),(2,.im (.fn 126 [] []))],[],0⟩,λk=>a.1.length - k.1,λk=>⟨by simp[ZG],BN _⟩,⟨⟨0,auSi⟩,by simp(maxSteps:=9^9)(disch:=omega)only[ZA,simprocAttr,sub]⟩,λk=> ?_⟩;obtain⟨k,Z,z⟩:=k;simp(maxSteps:=9^9)(disch:=omega)only[ZA,simprocAttr,smT.q,smT.fv,sub,AL];refine⟨λQ=>⟨Q,λx hx=>⟨auOm,λy hy=> ?_⟩⟩,λQ=> ?_⟩
 .obtain⟨g1,g2⟩:=Lh O Z z hx hy;refine⟨λh=> ?_,λh=>FG Q h1 ⟨auOm,g1 (by simpa using h)⟩⟩
  have:=g2 (by simpa using h)
  simp[this]
 .rw[BE auOm,BE auOm] at z;simp[z]
def ssetK.fv(a:AI×AI):Bool:=(λa b=>decide (a=b)) (a.1) (a.2)
def ssetK.row:A8:=vK (b2 (qR AI.d_le) (qR AI.d_le)) rB (λa=>True) ssetK.fv
def ssetK.q:=Bg (R:=ssetK.row) rfl
def ssetK.ok:AE 74 ssetK.row:=by
 refine vw (tC EqualG.ok (tC EqFT.ok tN)) Tryz.func74 ?_;intro a z;simp only[Tryz.f74];simp(maxSteps:=9^9)(disch:=omega)only[ZA,simprocAttr,ssetK.fv,EqualG.q,EqualG.fv,EqFT.q,EqFT.ar,EqFT.fv]
 split<;>rename_i h
 .rw[Iw];simp[Mt,h]
 .simp[Mt,h]
def ssysK.fv(a:AM×AM):Bool:=(λa b=>decide (a=b)) (a.1) (a.2)
def ssysK.row:A8:=vK (b2 (qR AM.d_le) (qR AM.d_le)) rB (λa=>True) ssysK.fv
def ssysK.ok:AE 33 ssysK.row:=by
 refine vw (tC ssetK.ok (tC SameAsm.ok tN)) Tryz.func33 ?_;intro a O;simp only[Tryz.f33];simp(maxSteps:=9^9)(disch:=omega)only[ZA,simprocAttr,AP.d,ssysK.fv,ssetK.q,ssetK.fv,SameAsm.q,SameAsm.fv]
 split<;>rename_i c1
 .split<;>rename_i z
  .rw[Iw];simp[OT,c1,z]
  .simp[OT,z]
 .simp[OT,c1]
def C8(f:Af):AV:= .agg [.ptr 0 0,.im (.int .i64 f.Inputs),.im (.sl false 2 (f.Cubes.map Ag.c)),.im (.sl false 1 (f.Sums.map BD)),.im (.int .i64 (AZ f:Nat)),.im (.int .i64 (Ao f:Nat))]
def fmzC.ca(f:Af):List AV:=[C8 f]
def fmzC.r0(f:Af):AV:= .im (.tup [.int .i64 ((4+AZ f*(2*Ao f)+AZ f+Ao f:Nat):Int),.int .i64 ((1+AZ f+Ao f+AZ f*(4*Ao f):Nat):Int)])
def fmzC.row:A8:=A7 fmzC.ca (λ_=>[]) 1 eX (λ_=>false) fmzC.r0 (λ_=>[]) 20
def fmzC.ok:AE 73 fmzC.row:=by
 refine KF tN Tryz.func73 (exB:=λ_=>false) (R:=λa r=>r=fmzC.r0 a) (λ_=>rfl)
  (λa=>by simp[fmzC.ca,C8,A9,AV.bel,Ar,B5,Ca]) (λa p hp=> ?_) LeVq ?_
 rotate_left
 intro a z;simp only[Tryz.f73,fmzC.ca,C8];simp(maxSteps:=9^9)(disch:=omega)only[ZA,simprocAttr,Bh];rotate_left
 .cases hp
 obtain⟨h1,h2,Z⟩:=z;have hC:2<=Ao a/\Ao a<=7:=by simp only[Ao];omega
 have hR:AZ a<=81:=Z;simp only[fmzC.r0];generalize AZ a=R at hR⊢;generalize Ao a=C at hC⊢;have O:IntKind.i64.wrap (IntKind.i64.wrap (IntKind.i64.wrap (4+IntKind.i64.wrap (IntKind.i64.wrap (2*(R:Int))*C))+R)+C)=((4+R*(2*C)+R+C:Nat):Int):=by
  rcases (by omega:C=2\/C=3\/C=4\/C=5\/C=6\/C=7) with rfl|rfl|rfl|rfl|rfl|rfl<;>simp (disch:=omega) only[AG]<;>omega
 have Q:IntKind.i64.wrap (IntKind.i64.wrap (IntKind.i64.wrap (1+(R:Int))+C)+IntKind.i64.wrap (IntKind.i64.wrap (4*(R:Int))*C))=((1+R+C+R*(4*C):Nat):Int):=by
  rcases (by omega:C=2\/C=3\/C=4\/C=5\/C=6\/C=7) with rfl|rfl|rfl|rfl|rfl|rfl<;>simp (disch:=omega) only[AG]<;>omega
 rw[O,Q];refine⟨[],[],⟨[(3,.im (.int .i64 ((1+R+C+R*(4*C):Nat):Int))),(2,.im (.int .i64 ((4+R*(2*C)+R+C:Nat):Int)))],[],1⟩,?_,by simp[ZG],auSi,?_⟩
 .simp only[AB];simp(maxSteps:=9^9)(disch:=omega)only[ZA,simprocAttr]
 .simp(maxSteps:=9^9)(disch:=omega)only[ZA,simprocAttr]
def nfC.ca(f:Af):List AV:=[.im (.agg (Af.c f))]
def nfC.row:A8:=A7 nfC.ca (λ_=>[]) 0 eX (λ_=>false) C8 (λ_=>BK [] []) 100
def nfC.ok:AE 72 nfC.row:=by
 refine KF (tC nmC.ok tN) Tryz.func72 (exB:=Fe) (R:=λa r=>r=C8 a) (λ_=>rfl)
  (λa=>by simp[nfC.ca,Af.c,A9,AV.bel,Ar,B5,Ca]) (λa p hp=> ?_) LeVq ?_
 rotate_left
 intro a z;simp only[Tryz.f72,nfC.ca,C8,BK,Af.c];simp(maxSteps:=9^9)(disch:=omega)only[ZA,simprocAttr];rotate_left
 .simp only[BK,B0,D2,Rl] at hp;rcases hp with rfl|rfl|rfl|rfl
  .exact .inr ⟨auOm,auOm,rfl,rfl⟩
  .exact .inr ⟨auOm,auOm,rfl,rfl⟩
  .exact .inr ⟨auOm,auOm,rfl,rfl⟩
  .exact .inr ⟨auOm,auOm,rfl,rfl⟩
 obtain⟨Q,Z,h3⟩:=z;refine A7.os () [] trivial (λj=>by simp[Ai,hget]) rfl rfl ?_ ?_
 .simp(maxSteps:=9^9)(disch:=omega)only[ZA,simprocAttr,Du]
  try exact⟨rfl,rfl⟩
 have O:IntKind.i64.wrap (a.Inputs+(a.Sums.length:Int))=(Ao a:Nat):=by rw[AG auOm auOm];simp only[Ao];omega
 have hR:(a.Cubes.length:Int)=(AZ a:Nat):=rfl;have e:Ce []=[(.str ⟨#[45]⟩,.int .i64 0)]:=rfl;simp(maxSteps:=9^9)(disch:=omega)only[ZA,simprocAttr,Bh,BK,BK,e,O];simp only[hR];refine⟨[],[(0,some 2),(1,some 3),(2,some 4),(3,some 5),(4,some 1)],⟨[(2,.ptr 4 0)],[(0,(true,.cells 133 [.own 1,.own 2,.mp 3])),(1,(true,.arr 151 2 [])),(2,(true,.arr 155 2 [])),(3,(true,.map ⟨false,[.str]⟩ [(.str ⟨#[45]⟩,.int .i64 0)])),(4,(true,.cells 124 [.ptr 0 0,.im (.int .i64 a.Inputs),.im (.sl false 2 (a.Cubes.map Ag.c)),.im (.sl false 1 (a.Sums.map BD)),.im (.int .i64 (AZ a:Nat)),.im (.int .i64 (Ao a:Nat))]))],5⟩,?_,by simp[ZG],auSi,?_⟩
 .simp only[AB];simp(maxSteps:=9^9)(disch:=omega)only[ZA,simprocAttr,Bf]
 .simp(maxSteps:=9^9)(disch:=omega)only[ZA,simprocAttr,Fe,Fe]
def BJ(k c v:Int):MM:=Kv ⟨#[112]⟩ k c v
def pdK.fv(a:Int×Int×Int):MM:=(BJ) (a.1) (a.2.1) (a.2.2)
def pdK.row:A8:=Cj (b3 qI qI qI) rT (λa=>(0<=a.1/\a.1<=1000)/\(0<=a.2.1/\a.2.1<=1000)/\0<=a.2.2/\a.2.2<=1000) pdK.fv
def pdK.q:=Cf (R:=pdK.row) rfl
def pdK.ok:AE 79 pdK.row:=by
 refine EK (tC prd_.ok (tC dcm_.ok tN)) Tryz.func79 ?_;intro a z;simp only[Tryz.f79];simp only[ZA,simprocAttr,Aa,pdK.fv,prd_.q,prd_.fv,dcm_.q,dcm_.fv,D.sc,D.scs,AO];obtain⟨k,c,v⟩:=a;obtain⟨O,Q,Z⟩:=z;simp only at O Q Z⊢;have s1:=CN (n:=k) auOm auOm;have s2:=CN (n:=c) auOm auOm;have s3:=CN (n:=v) auOm auOm;have z1:(⟨#[112]⟩:MM).size=1:=rfl;have z2:(⟨#[95]⟩:MM).size=1:=rfl;have hp:Lb ⟨#[112]⟩ k c=⟨#[112]⟩++BT k++⟨#[95]⟩++BT c:=rfl;simp only[hp,Pk,z1,z2];exact⟨⟨auOm,⟨auOm,auOm⟩,auOm,auOm⟩,auOm,⟨auOm,auOm⟩,auOm,rfl⟩
def fglC.ca(f:Af):List AV:=[C8 f]
def fglC.H0(_:Af):An:=BK [] []
def fglC.H1(f:Af):An:=[(0,(true,.cells 133 [.own 4,.own 2,.mp 3])),(4,(true,.arr 151 2 ((D3 (AZ f) (Ao f)).map Ac.c))),(3,(true,.map ⟨false,[.str]⟩ (Ce (D3 (AZ f) (Ao f)))))]
def fglC.row:A8:=A7 fglC.ca fglC.H0 4 eX B9 (λ_=> .im (.tup [])) fglC.H1 1000
def fgL:List MM:=[bN 0,bN 1,oN 0,oN 1]
def mE{i:Nat}{x:MM}(h:fgL[i]? =some x):Cw.take i++[⟨x,1⟩]=Cw.take (i+1):=by
 have z:i<4:=(Bi.1 h).1;rcases (by omega:i=0\/i=1\/i=2\/i=3) with rfl|rfl|rfl|rfl<;>(simp only[fgL,ES,Su,AS] at h;subst h;rfl)
def vM(l:List Ac)(w:MM)(n:Nat)(st:Int):l++Bx w n st++[⟨Bd w (n:Nat),st⟩]=l++Bx w (n+1) st:=by
 simp[Bx,Xi]
def fglC.ok:AE 76 fglC.row:=by
 refine KF (tC pdK.ok (tC mgC.ok (tC numd_.ok tN))) Tryz.func76 (exB:=λj=>j==4) (R:=λa r=>r= .im (.tup [])) (λ_=>rfl)
  (λa=>by simp[fglC.ca,fglC.H0,BK,C8,A9,AV.bel,Ar,B5,Ca,Ad.nms,Av,AV.nms,Ai,hget]) (λa p hp=> ?_) LeVq ?_
 rotate_left
 intro a ag;simp only[Tryz.f76,fglC.ca,fglC.H0,fglC.H1,BK,C8];simp(maxSteps:=9^9)(disch:=omega)only[ZA,simprocAttr];rotate_left
 .simp only[fglC.H1,B0,D2,Rl] at hp;rcases hp with rfl|rfl|rfl
  .exact .inl ⟨auOm,rfl,rfl⟩
  .exact .inr ⟨auOm,auOm,rfl,rfl⟩
  .exact .inl ⟨auOm,rfl,rfl⟩
 obtain⟨h1,h2,h3⟩:=ag;obtain⟨R,hR⟩: ∃R,R=AZ a:=⟨_,rfl⟩;obtain⟨C,hC⟩: ∃C,C=Ao a:=⟨_,rfl⟩;have an:2<=C/\C<=7:=by rw[hC];simp only[Ao];omega
 have ak:R<=81:=by rw[hR];exact h3
 simp only[<-hR,<-hC,SD,SE,LR,UM];have aj:([[D.str (bN 0)],[D.str (bN 1)],[D.str (oN 0)],[D.str (oN 1)]]:List (List D))=fgL.map FD:=rfl;have aa:Cw.length=4:=rfl;have z1:(⟨#[119]⟩:MM).size=1:=rfl;have z2:(⟨#[101]⟩:MM).size=1:=rfl;simp only[aj];refine AY.ren ⟨{i:Nat//i<=4},λi=>⟨[(10,.im (.int .i64 i.1)),(9,.im (.int .i64 4)),(8,.own 5),(1,.ptr 4 0)],[(5,(true,.arr 9 1 (fgL.map FD))),(4,(true,.cells 124 [.ptr 0 0,.im (.int .i64 a.Inputs),.im (.sl false 2 (a.Cubes.map Ag.c)),.im (.sl false 1 (a.Sums.map BD)),.im (.int .i64 (R:Nat)),.im (.int .i64 (C:Nat))])),(0,(true,.cells 133 [.own 6,.own 2,.mp 3])),(6,(true,.arr 151 2 ((Cw.take i.1).map Ac.c))),(2,(true,.arr 155 2 [])),(3,(true,.map ⟨false,[.str]⟩ (Ce (Cw.take i.1))))],7⟩,λi=>4 - i.1,λi=>⟨by simp[ZG],auSi⟩,⟨⟨0,Ir _⟩,[(6,some 1)],?_⟩,λi=> ?_⟩
 .simp only[AB,eF,Gl];simp(maxSteps:=9^9)(disch:=omega)only[ZA,simprocAttr,Bf]
  try exact⟨rfl,rfl⟩
 obtain⟨i,hi⟩:=i;have Q:IntKind.i64.wrap ((i:Int)+1)=((i+1:Nat):Int):=by rw[AG auOm auOm];omega
 simp(maxSteps:=9^9)(disch:=omega)only[ZA,simprocAttr,AL];have am:fgL.length=4:=rfl;refine⟨λO=>⟨auOm,auOm,λx hx=> ?_⟩,λO=> ?_⟩
 .have z:(Cw.take i).length<=4:=by rw[Eb];omega
  have Z:(Cw.take i)++[⟨x,1⟩]=Cw.take (i+1):=by
   exact mE hx
  refine A7.os ((Cw.take i,[]),(⟨x,1⟩:Ac)) [0,6,2,3] (by have hq:=z;simp only at hq⊢;omega) (λj=>La _ _ j) rfl rfl ?_ ?_
  .simp(maxSteps:=9^9)(disch:=omega)only[ZA,simprocAttr,Aq,BK,mgC.ca,mgC.H0,BK,BF,CA]
   try exact⟨rfl,rfl⟩
  simp(maxSteps:=9^9)(disch:=omega)only[ZA,simprocAttr,Aq,B9,mgC.H1,B9,BF,CA,Z,Q];refine⟨⟨i+1,auOm⟩,[(6,some 7)],by simp only;omega,?_⟩;simp only[AB];simp(maxSteps:=9^9)(disch:=omega)only[ZA,simprocAttr,Bf]
 obtain rfl:i=4:=auOm;clear hi Q O;have ai:Cw.take 4=Cw:=rfl;simp only[ai];refine AY.ren ⟨{k:Nat//k<=R},λk=>⟨[(21,.im (.int .i64 k.1)),(20,.im (.int .i64 R)),(1,.ptr 4 0)],[(4,(true,.cells 124 [.ptr 0 0,.im (.int .i64 a.Inputs),.im (.sl false 2 (a.Cubes.map Ag.c)),.im (.sl false 1 (a.Sums.map BD)),.im (.int .i64 (R:Nat)),.im (.int .i64 (C:Nat))])),(0,(true,.cells 133 [.own 7,.own 2,.mp 3])),(7,(true,.arr 151 2 ((Cw++CG C k.1).map Ac.c))),(2,(true,.arr 155 2 [])),(3,(true,.map ⟨false,[.str]⟩ (Ce (Cw++CG C k.1))))],8⟩,λk=>R - k.1,λk=>⟨by simp[ZG],auSi⟩,⟨⟨0,Ir _⟩,[(7,some 6)],?_⟩,λk=> ?_⟩
 .simp only[AB,CG,JC,L0,C3];simp(maxSteps:=9^9)(disch:=omega)only[ZA,simprocAttr,Bf]
  try exact⟨rfl,rfl⟩
 obtain⟨k,hk⟩:=k;have af:IntKind.i64.wrap ((k:Int)+1)=((k+1:Nat):Int):=by rw[AG auOm auOm];omega
 simp(maxSteps:=9^9)(disch:=omega)only[ZA,simprocAttr,AL];have hm:k*(2*C)<=81*14:=Z7 auOm auOm;refine⟨λad=> ?_,λad=> ?_⟩
 .skip
  refine AY.ren ⟨{c:Nat//c<=C},λc=>⟨[(26,.im (.int .i64 c.1)),(25,.im (.int .i64 C)),(4,.im (.int .i64 k)),(21,.im (.int .i64 k)),(20,.im (.int .i64 R)),(1,.ptr 4 0)],[(4,(true,.cells 124 [.ptr 0 0,.im (.int .i64 a.Inputs),.im (.sl false 2 (a.Cubes.map Ag.c)),.im (.sl false 1 (a.Sums.map BD)),.im (.int .i64 (R:Nat)),.im (.int .i64 (C:Nat))])),(0,(true,.cells 133 [.own 8,.own 2,.mp 3])),(8,(true,.arr 151 2 ((Cw++CG C k++CB C k c.1).map Ac.c))),(2,(true,.arr 155 2 [])),(3,(true,.map ⟨false,[.str]⟩ (Ce (Cw++CG C k++CB C k c.1))))],9⟩,λc=>C - c.1,λc=>⟨by simp[ZG],auSi⟩,⟨⟨0,Ir _⟩,[(8,some 7)],?_⟩,λc=> ?_⟩
  .simp only[AB,CB,JC,L0,C3];simp(maxSteps:=9^9)(disch:=omega)only[ZA,simprocAttr,Bf]
   try exact⟨rfl,rfl⟩
  obtain⟨c,hc⟩:=c;have ac:IntKind.i64.wrap ((c:Int)+1)=((c+1:Nat):Int):=by rw[AG auOm auOm];omega
  simp(maxSteps:=9^9)(disch:=omega)only[ZA,simprocAttr,Aa,pdK.q,pdK.fv,AL];have z:(Cw++CG C k++CB C k c).length<=2000:=by rw[BR,BR,IA,RS,aa];omega
  refine⟨λab=>⟨⟨auOm,auOm⟩,?_⟩,λab=> ?_⟩
  .have p0:BJ (k:Nat) (c:Nat) 0=pN k c 0:=rfl;have p1:BJ (k:Nat) (c:Nat) 1=pN k c 1:=rfl;simp only[p0];have Z:(Cw++CG C k++CB C k c)++[⟨pN k c 0,1⟩]=Cw++CG C k++CB C k c++[⟨pN k c 0,1⟩]:=by
    rfl
   refine A7.os ((Cw++CG C k++CB C k c,[]),(⟨pN k c 0,1⟩:Ac)) [0,8,2,3] (by have hq:=z;simp only[BR] at hq⊢;omega) (λj=>La _ _ j) rfl rfl ?_ ?_
   .simp(maxSteps:=9^9)(disch:=omega)only[ZA,simprocAttr,Aq,BK,mgC.ca,mgC.H0,BK,BF,CA]
    try exact⟨rfl,rfl⟩
   simp(maxSteps:=9^9)(disch:=omega)only[ZA,simprocAttr,Aa,pdK.q,pdK.fv,Aq,B9,mgC.H1,B9,BF,CA];refine⟨⟨auOm,auOm⟩,?_⟩;clear Z;simp only[p1];have Z:(Cw++CG C k++CB C k c++[⟨pN k c 0,1⟩])++[⟨pN k c 1,1⟩]=Cw++CG C k++CB C k (c+1):=by
    rw[vV];simp only[Gk]
   refine A7.os ((Cw++CG C k++CB C k c++[⟨pN k c 0,1⟩],[]),(⟨pN k c 1,1⟩:Ac)) [0,9,2,3] (by have hq:=z;simp only[BR,Em,Ed] at hq⊢;omega) (λj=>La _ _ j) rfl rfl ?_ ?_
   .simp(maxSteps:=9^9)(disch:=omega)only[ZA,simprocAttr,Aq,BK,mgC.ca,mgC.H0,BK,BF,CA]
    try exact⟨rfl,rfl⟩
   simp(maxSteps:=9^9)(disch:=omega)only[ZA,simprocAttr,Aq,B9,mgC.H1,B9,BF,CA,Z,ac];refine⟨⟨c+1,auOm⟩,[(8,some 29)],by simp only;omega,?_⟩;simp only[AB];simp(maxSteps:=9^9)(disch:=omega)only[ZA,simprocAttr,Bf]
  .obtain rfl:c=C:=auOm;have ah:Cw++CG c k++CB c k c=Cw++CG c (k+1):=by rw[iR,Gk]
   refine⟨⟨k+1,auOm⟩,[(7,some 8)],by simp only;omega,?_⟩;simp only[AB];simp(maxSteps:=9^9)(disch:=omega)only[ZA,simprocAttr,Bf,af,ah]
 obtain rfl:R=k:=auOm;clear hk af ad;have ao:=IA C R;refine AY.ren ⟨{i:Nat//i<=R},λi=>⟨[(45,.im (.int .i64 i.1)),(44,.im (.int .i64 R)),(1,.ptr 4 0)],[(4,(true,.cells 124 [.ptr 0 0,.im (.int .i64 a.Inputs),.im (.sl false 2 (a.Cubes.map Ag.c)),.im (.sl false 1 (a.Sums.map BD)),.im (.int .i64 (R:Nat)),.im (.int .i64 (C:Nat))])),(0,(true,.cells 133 [.own 8,.own 2,.mp 3])),(8,(true,.arr 151 2 ((Cw++CG C R++Bx ⟨#[119]⟩ i.1 2).map Ac.c))),(2,(true,.arr 155 2 [])),(3,(true,.map ⟨false,[.str]⟩ (Ce (Cw++CG C R++Bx ⟨#[119]⟩ i.1 2))))],9⟩,λi=>R - i.1,λi=>⟨by simp[ZG],auSi⟩,⟨⟨0,Ir _⟩,[(8,some 7)],?_⟩,λi=> ?_⟩
 .simp only[AB,Bx,JC,Gl,C3];simp(maxSteps:=9^9)(disch:=omega)only[ZA,simprocAttr,Bf]
  try exact⟨rfl,rfl⟩
 obtain⟨i,hi⟩:=i;have Q:IntKind.i64.wrap ((i:Int)+1)=((i+1:Nat):Int):=by rw[AG auOm auOm];omega
 simp(maxSteps:=9^9)(disch:=omega)only[ZA,simprocAttr,Aa,numd_.q,numd_.fv,AL];have ik:=CN (n:=(i:Int)) auOm auOm;have z:(Cw++CG C R++Bx ⟨#[119]⟩ i 2).length<=2000:=by rw[BR,BR,IA,RN,aa];omega
 refine⟨λO=>⟨⟨auOm,auOm,auOm⟩,?_⟩,λO=> ?_⟩
 .skip
  have Z:(Cw++CG C R++Bx ⟨#[119]⟩ i 2)++[⟨Bd ⟨#[119]⟩ i,2⟩]=Cw++CG C R++Bx ⟨#[119]⟩ (i+1) 2:=by
   exact vM _ _ _ _
  refine A7.os ((Cw++CG C R++Bx ⟨#[119]⟩ i 2,[]),(⟨Bd ⟨#[119]⟩ i,2⟩:Ac)) [0,8,2,3] (by have hq:=z;simp only[BR] at hq⊢;omega) (λj=>La _ _ j) rfl rfl ?_ ?_
  .simp(maxSteps:=9^9)(disch:=omega)only[ZA,simprocAttr,Aq,BK,mgC.ca,mgC.H0,BK,BF,CA]
   try exact⟨rfl,rfl⟩
  simp(maxSteps:=9^9)(disch:=omega)only[ZA,simprocAttr,Aq,B9,mgC.H1,B9,BF,CA,Z,Q];refine⟨⟨i+1,auOm⟩,[(8,some 9)],by simp only;omega,?_⟩;simp only[AB];simp(maxSteps:=9^9)(disch:=omega)only[ZA,simprocAttr,Bf]
 obtain rfl:R=i:=auOm;clear hi Q O ik z;refine AY.ren ⟨{c:Nat//c<=C},λc=>⟨[(56,.im (.int .i64 c.1)),(55,.im (.int .i64 C)),(1,.ptr 4 0)],[(4,(true,.cells 124 [.ptr 0 0,.im (.int .i64 a.Inputs),.im (.sl false 2 (a.Cubes.map Ag.c)),.im (.sl false 1 (a.Sums.map BD)),.im (.int .i64 (R:Nat)),.im (.int .i64 (C:Nat))])),(0,(true,.cells 133 [.own 9,.own 2,.mp 3])),(9,(true,.arr 151 2 ((Cw++CG C R++Bx ⟨#[119]⟩ R 2++Bx ⟨#[101]⟩ c.1 2).map Ac.c))),(2,(true,.arr 155 2 [])),(3,(true,.map ⟨false,[.str]⟩ (Ce (Cw++CG C R++Bx ⟨#[119]⟩ R 2++Bx ⟨#[101]⟩ c.1 2))))],10⟩,λc=>C - c.1,λc=>⟨by simp[ZG],auSi⟩,⟨⟨0,Ir _⟩,[(9,some 8)],?_⟩,λc=> ?_⟩
 .simp only[AB,Bx,JC,Gl,C3];simp(maxSteps:=9^9)(disch:=omega)only[ZA,simprocAttr,Bf]
  try exact⟨rfl,rfl⟩
 obtain⟨c,hc⟩:=c;have ac:IntKind.i64.wrap ((c:Int)+1)=((c+1:Nat):Int):=by rw[AG auOm auOm];omega
 simp(maxSteps:=9^9)(disch:=omega)only[ZA,simprocAttr,Aa,numd_.q,numd_.fv,Bh,AL];have ik:=CN (n:=(c:Int)) auOm auOm;have z:(Cw++CG C R++Bx ⟨#[119]⟩ R 2++Bx ⟨#[101]⟩ c 2).length<=2000:=by rw[BR,BR,BR,IA,RN,RN,aa];omega
 refine⟨λab=>⟨⟨auOm,auOm,auOm⟩,?_⟩,λab=> ?_⟩
 .skip
  have Z:(Cw++CG C R++Bx ⟨#[119]⟩ R 2++Bx ⟨#[101]⟩ c 2)++[⟨Bd ⟨#[101]⟩ c,2⟩]=Cw++CG C R++Bx ⟨#[119]⟩ R 2++Bx ⟨#[101]⟩ (c+1) 2:=by
   exact vM _ _ _ _
  refine A7.os ((Cw++CG C R++Bx ⟨#[119]⟩ R 2++Bx ⟨#[101]⟩ c 2,[]),(⟨Bd ⟨#[101]⟩ c,2⟩:Ac)) [0,9,2,3] (by have hq:=z;simp only[BR] at hq⊢;omega) (λj=>La _ _ j) rfl rfl ?_ ?_
  .simp(maxSteps:=9^9)(disch:=omega)only[ZA,simprocAttr,Aq,BK,mgC.ca,mgC.H0,BK,BF,CA]
   try exact⟨rfl,rfl⟩
  simp(maxSteps:=9^9)(disch:=omega)only[ZA,simprocAttr,Aq,B9,mgC.H1,B9,BF,CA,Z,ac];refine⟨⟨c+1,auOm⟩,[(9,some 10)],by simp only;omega,?_⟩;simp only[AB];simp(maxSteps:=9^9)(disch:=omega)only[ZA,simprocAttr,Bf]
 obtain rfl:c=C:=auOm;have hP:Cw++CG c R++Bx ⟨#[119]⟩ R 2++Bx ⟨#[101]⟩ c 2=D3 R c:=rfl;simp only[hP];refine⟨[],[(4,some 9)],⟨[],[(0,(true,.cells 133 [.own 4,.own 2,.mp 3])),(4,(true,.arr 151 2 ((D3 R c).map Ac.c))),(2,(true,.arr 155 2 [])),(3,(true,.map ⟨false,[.str]⟩ (Ce (D3 R c))))],5⟩,?_,by simp[ZG],auSi,?_⟩
 .simp only[AB];simp(maxSteps:=9^9)(disch:=omega)only[ZA,simprocAttr,Bf]
 .simp(maxSteps:=9^9)(disch:=omega)only[ZA,simprocAttr,B9]
  try exact⟨rfl,rfl⟩
end Go.Ae
