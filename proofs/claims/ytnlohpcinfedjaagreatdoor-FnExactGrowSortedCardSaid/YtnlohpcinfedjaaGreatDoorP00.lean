/- Lemmas. Conditions: none. -/
import Derived.Orders
import Derived.Below
import Derived.Laws.Sem
import Derived.Lib.ItoaNum
set_option linter.all false
set_option maxHeartbeats 8000000
set_option maxRecDepth 100000
namespace Go
def AM:=@Option.some_beq_none
def AN:=@Option.some_beq_some
def AC:=@Option.some.inj
def AO:=@Option.some.injEq
def Bh:=@List.mem_of_getElem?
def AW:=@Option.getD_some
def BB:=@List.getElem?_eq_getElem
def Bc:=@Bool.and_eq_true
def Br:=@List.getD_cons_zero
def Ag:=@if_neg
def Bx:=@List.getD_cons_succ
def Bz:=@List.length_append
def BW:=@List.mem_cons_of_mem
def AU:=@Nat.le_refl
def B5:=@Int.toNat_natCast
def Al:=@if_pos
def CL:=@List.getElem?_eq_some_iff
def BL:=@List.mem_singleton
def Bf:=@List.map_cons
def BS:=@List.mem_cons_self
def B2:=@List.mem_append
def Bg:=@List.map_nil
def Bw:=@List.mem_cons
def Da:=@Option.map_eq_some_iff
def Ci:=@List.cons_append
def C7:=@decide_eq_true_eq
def Ck:=@List.append_nil
def Ee:=@List.drop_eq_nil_of_le
def CB:=@List.length_take
def BF:=@List.mem_map
def Dp:=@Bool.false_eq_true
def Ey:=@List.getElem?_set_self
def CR:=@List.length_cons
def F4:=@List.getElem?_append_left
def Ep:=@List.getElem?_set_ne
def De:=@List.length_drop
def Fi:=@Option.bind_eq_some_iff
def CV:=@List.map_append
def BV:=@Nat.zero_le
def CS:=@List.mem_range
def Du:=@List.length_map
def Dv:=@List.nil_append
def G6:=@List.getElem?_append_right
def Ej:=@List.append_assoc
def Bb:=@if_true
def Fj:=@Array.length_toList
def DQ:=@List.length_nil
def Ib:=@Array.getD_eq_getD_getElem?
def CW:=@Nat.le_trans
def Hn:=@List.getElem?_cons_zero
def Ez:=@Option.map_some
def GW:=@List.take_of_length_le
def Cy:=@cond_false
def FC:=@Nat.lt_of_lt_of_le
def Fk:=@List.all_eq_true
def Hq:=@Array.getElem?_toList
def FD:=@List.flatMap_cons
def FE:=@List.length_range
def EC:=@List.drop_drop
def HK:=@List.getElem?_eq_none
def Ke:=@Array.getElem?_eq_getElem
def Gb:=@List.getElem?_map
def ED:=@Bool.true_and
def EE:=@List.all_cons
def EF:=@Prod.mk.injEq
def Jk:=@decide_eq_false_iff_not
def C8:=@cond_true
def EL:=@Bool.and_true
def Ig:=@Nat.mul_le_mul_right
def Kf:=@List.getElem?_cons_succ
def Cl:=@congrArg
def Jl:=@List.contains_iff_mem
def IG:=@List.mem_append_left
def Ih:=@beq_eq_false_iff_ne
def G7:=@List.not_mem_nil
def G8:=@Option.bind_some
def IH:=@List.getElem?_range
def FT:=@Bool.false_and
def HJ:=@Classical.not_not
def GX:=@List.length_set
def O9:=@List.getElem?_replicate
def Jf:=@List.getElem?_drop
def CN:=@if_false
def RL:=@Array.getElem?_eq_some_iff
def QH:=@List.eq_of_mem_replicate
def Ho:=@List.range_zero
def Jg:=@Bool.not_eq_false
def Jh:=@List.nodup_append
def Ji:=@List.take_add_one
def IE:=@List.flatMap_nil
def OA:=@List.length_replicate
def OB:=@List.mem_append_right
def IF:=@List.take_length
def FR:=@Nat.lt_or_ge
def FS:=@Nat.zero_add
def Hp:=@List.take_zero
def Ic:=@Bool.or_eq_true
def LK:=@List.drop_succ_cons
def RN:=@List.length_eq_zero_iff
def FB:=@Nat.add_mul
def Ie:=@List.drop_zero
def OC:=@List.take_succ_cons
def Jj:=@decide_eq_false
def XP:=@List.drop_eq_getElem_cons
def RQ:=@List.length_singleton
def LL:=@Bool.not_eq_true'
def F5:=@Nat.blt_eq
def QJ:=@List.map_congr_left
def Hr:=@List.all_nil
def OD:=@List.size_toArray
def KN:=@List.foldl_cons
def W1:=@List.mem_iff_getElem?
def KO:=@List.nodup_cons
def bX:=@Classical.byContradiction
def bY:=@List.mem_or_eq_of_mem_set
def iC:=@Array.getElem?_setIfInBounds
def XR:=@Array.getElem?_eq_none
def Ii:=@Nat.sub_self
def QL:=@Bool.eq_false_iff
def QM:=@List.ext_getElem?
def XS:=@List.take_append_drop
def iD:=@Int.tmod_eq_emod_of_nonneg
def QN:=@Bool.not_eq_true
def W3:=@List.pairwise_cons
def iE:=@Array.getElem?_replicate
def Fu:=@and_self
def RS:=@List.getElem_mem
def Jm:=@Nat.one_mul
def iF:=@List.zipWith_cons_cons
def W4:=@Array.toList_map
def Wy:=@List.drop_append
def wH:=@List.eq_nil_of_length_eq_zero
def bS:=@List.length_reverse
def bT:=@List.takeWhile_cons
def Gc:=@ite_self
def Gd:=@or_false
def QI:=@Bool.or_false
def Wz:=@List.cons.injEq
def bU:=@List.getElem?_take
def hC:=@List.mem_iff_getElem
def Ft:=@Ne.symm
def nO:=@Classical.epsilon_spec
def hZ:=@List.length_pos_iff
def RO:=@List.sum_cons
def RP:=@Nat.add_assoc
def W0:=@decide_eq_true
def nP:=@ByteArray.size_append
def XQ:=@List.range_succ
def nQ:=@Nat.le_of_ble_eq_true
def KM:=@Array.ext'
def iA:=@List.contains_cons
def iB:=@List.set_cons_zero
def bV:=@Array.toList_inj
def bW:=@List.mem_flatMap
def wI:=@List.eraseIdx_cons_succ
def wJ:=@List.filter_cons_of_neg
def wS:=@Nat.add_sub_cancel_left
def XT:=@Bool.not_false
def XU:=@List.foldl_nil
def RT:=@List.map_map
def RU:=@List.map_set
def iI:=@List.contains_nil
def LM:=@Nat.ble_eq
def Zdh:=@Array.getElem?_append_left
def wT:=@Array.getElem?_append
def wU:=@List.set_append_right
def nW:=@List.set_cons_succ
def W5:=@Nat.add_zero
def nX:=@Nat.eq_zero_or_pos
def nY:=@Option.isSome_none
def RV:=@Int.le_refl
def Zdp:=@List.mem_of_find?_eq_some
def RW:=@decide_true
def Jn:=@true_and
def iJ:=@Bool.eq_iff_iff
def iK:=@List.mem_filter
def QO:=@beq_iff_eq
def LN:=@forall_eq
def wV:=@List.flatMap_append
def wW:=@List.mem_map_of_mem
def Zdy:=@List.drop_append_of_le_length
def iL:=@List.Perm.refl
def wK:=@Array.extract_size
def wL:=@List.find?_eq_none
def ZdC:=@Bool.and_eq_false_iff
def nR:=@List.all_append
def nS:=@List.find?_some
def ZdF:=@List.getElem?_toArray
def bZ:=@Nat.sub_zero
def iG:=@List.take_add
def wM:=@Nat.lt_trichotomy
def ZdJ:=@Array.toList_setIfInBounds
def ZdK:=@List.mem_of_mem_take
def nT:=@Bool.and_false
def ZdM:=@List.isEmpty_eq_false_iff
def ZdN:=@List.pairwise_iff_getElem
def wN:=@List.any_eq_true
def wO:=@Nat.le_add_right
def wP:=@Nat.min_le_right
def wQ:=@beq_self_eq_true
def ZdS:=@List.filter_eq_self
def ZdT:=@List.map_eq_nil_iff
def ZdU:=@Array.size_setIfInBounds
def ZdV:=@List.Perm.eq_of_pairwise
def iH:=@Nat.zero_mul
def nU:=@Bool.and_self
def nV:=@Bool.not_true
def ZdZ:=@Int.tmod_lt_of_pos
def Zea:=@List.append_cancel_left
def wZ:=@Nat.not_lt_zero
def Zec:=@Option.toList_some
def Zed:=@List.length_eq_one_iff
def Zee:=@List.zipWith_nil_right
def Zef:=@Array.toList_push
def Zeg:=@List.foldl_append
def Zeh:=@not_false_eq_true
def xA:=@Nat.mul_le_mul
def Zej:=@Array.getElem?_modify
def Zek:=@Int.mul_le_mul_of_nonneg_right
def Zel:=@List.getElem?_reverse
def nZ:=@Nat.add_comm
def oA:=@Nat.succ_mul
def Zeo:=@List.filter_cons
def Zep:=@List.nodup_range
def Zeq:=@List.range_eq_range'
def xB:=@List.cons.inj
def Zes:=@Array.getElem?_append_right
def Zet:=@Array.toList_append
def Zeu:=@Array.toList_modify
def Zev:=@Int.tmod_nonneg
def Zew:=@List.find?_cons
def Zex:=@List.replicate_succ
def Zey:=@List.toList_toArray
def oB:=@Nat.le_succ
def ZeA:=@Nat.mul_le_mul_left
def ZeB:=@Int.fdiv_eq_ediv_of_nonneg
def ZeC:=@Int.tdiv_eq_ediv_of_nonneg
def ZeD:=@List.exists_cons_of_ne_nil
def ZeE:=@List.nodup_iff_pairwise_ne
def ZeF:=@List.perm_append_singleton
def ZeG:=@List.perm_ext_iff_of_nodup
def ZeH:=@Array.ext_getElem?
def ZeI:=@Array.toList_range
def wX:=@Bool.or_true
def wY:=@Bool.true_or
def ZeL:=@List.getElem_range
def ZeM:=@Array.mapM_eq_mapM_toList
def ZeN:=@Bool.and_assoc
def ZeO:=@List.getElem?_eq_none_iff
def ZeP:=@List.Pairwise.imp
def ZeQ:=@List.Pairwise.map
def ZeR:=@Option.isSome_iff_exists
def ZeS:=@Bool.false_or
def ZeT:=@List.eraseIdx_cons_zero
def ZeU:=@List.filter_cons_of_pos
def ZeV:=@Bool.cond_eq_ite
def ZeW:=@forall_eq_or_imp
def ZeX:=@Array.getElem?_mapIdx
def ZeY:=@Array.mem_of_getElem?
def ZeZ:=@List.eraseIdx_sublist
def Zfa:=@List.head?_cons
def Zfb:=@List.length_filter_le
def Zfc:=@List.sum_nil
def Zfd:=@Nat.le_of_eq
def Zfe:=@Nat.le_total
def Zff:=@Nat.min_eq_left
def oC:=@and_assoc
def Zfh:=@decide_false
def Zfi:=@Array.toList_extract
def Zfj:=@Bool.or_eq_false_iff
def Zfk:=@List.length_eraseIdx
def Zfl:=@List.mem_of_mem_drop
def Zfm:=@List.drop_take
def Zfn:=@List.drop_nil
def Zfo:=@List.take_nil
def Zfp:=@Nat.lt_irrefl
def Zfq:=@Int.not_lt
def iM:=@eq_true
def XV:=@not_or
end Go
namespace Go.Ae
def J3(g:Nat):Bool:=g==0||g==1
def GE(ok:Nat->Prop)(hp:Nat->Option Obj)(g:Nat)(a:Addr):Prop:=
 ok g/\(∃T z,hp g=some (.cells #[.iface 304 (.pointer (some a))] T z))/\ok a.block/\ ∃c T,hp a.block=some (.cells c T (0,0))
def lE:Array Value:=(Lib.pow10Tab.map λz=>Value.int .u64 z).toArray
def GPe(ok:Nat->Prop)(hp:Nat->Option Obj):Prop:=
 ∃a:Nat->Addr,(∀g,J3 g=true->GE ok hp g (a g))/\ ∀g g',J3 g=true->J3 g'=true->g≠g'->a g≠a g'
def GP(ok:Nat->Prop)(hp:Nat->Option Obj):Prop:=GPe ok hp/\ok 2/\ ∃T z,hp 2=some (.cells lE T z)
def GP.err{ok:Nat->Prop}{hp:Nat->Option Obj}(h:GP ok hp): ∃a:Nat->Addr,(∀g,J3 g=true->GE ok hp g (a g))/\ ∀g g',J3 g=true->J3 g'=true->g≠g'->a g≠a g':=h.1
def GP.tab{ok:Nat->Prop}{hp:Nat->Option Obj}(h:GP ok hp):ok 2/\ ∃T z,hp 2=some (.cells lE T z):=h.2
def GP.mono{ok ok':Nat->Prop}{hp hp':Nat->Option Obj}(h: ∀b o,ok b->hp b=some o->ok' b/\hp' b=some o)(hg:GP ok hp):GP ok' hp':=by
 obtain⟨⟨a,h1,h2⟩,O,T,z,Q⟩:=hg;refine⟨⟨a,λg G=> ?_,h2⟩,(h _ _ O Q).1,T,z,(h _ _ O Q).2⟩;obtain⟨k1,⟨T,z,k2⟩,Z,c,U,k4⟩:=h1 g G;exact⟨(h g _ k1 k2).1,⟨T,z,(h g _ k1 k2).2⟩,(h _ _ Z k4).1,c,U,(h _ _ Z k4).2⟩
def GP.at{ok:Nat->Prop}{hp:Nat->Option Obj}(h:GP ok hp){g:Nat}(O:J3 g=true):ok g/\ ∃t x T z,hp g=some (.cells #[.iface t x] T z):=by
 obtain⟨a,G,_⟩:=h.err;obtain⟨k1,⟨T,z,k2⟩,_⟩:=G g O;exact⟨k1,_,_,T,z,k2⟩
end Go.Ae
namespace Go.Ae
inductive KK where
 |int (k:IntKind)
 |str
 |bool
 deriving DecidableEq
structure KT where
 agg:Bool
 ks:List KK
 deriving DecidableEq
inductive D where
 |int (k:IntKind) (n:Int)
 |bool (b:Bool)
 |str (s:ByteArray)
 |nilp|nilf|nili|nilc|nilm
 |agg (cs:List D)
 |tup (cs:List D)
 |sl (nz:Bool) (k:Nat) (rows:List (List D))
 |ref (cs:List D)
 |mp (kt:KT) (es:List (D×D))
 |fn (f:FuncId) (first capt:List D)
 |ifc (t:TypeId) (d:D)
 |gp (g:Nat)
 |tok (g:Nat)
def KK.fit:KK->D->Bool
 | .int k,.int k' _=>k==k'
 | .str,.str _=>true
 | .bool,.bool _=>true
 |_,_=>false
def B8:List KK->List D->Bool
 |[],[]=>true
 |k::ks,d::ds=>k.fit d && B8 ks ds
 |_,_=>false
def KT.fit(z:KT)(d:D):Bool:=
 match z.agg,d with
 |true,.agg ds=>B8 z.ks ds
 |false,d=>B8 z.ks [d]
 |_,_=>false
def IN:Nat:=140737488355328
def W6(f:Nat):Fn:=if f<1000000000 then .func f else .yield (f - 1000000000)
def X9{f:Nat}(h:f<1000000000):W6 f= .func f:=Al h
def yV(nz:Bool)(v:Value):Prop:=v= .slice none 0 0\/(nz=false/\ ∃a,v= .slice (some a) 0 0)
def uU{nz:Bool}{v:Value}(h:yV nz v): ∃z,v= .slice z 0 0:=by
 rcases h with rfl|⟨_,a,rfl⟩<;>exact⟨_,rfl⟩
def Qr7{v:Value}(h:yV true v):v= .slice none 0 0:=by
 rcases h with rfl|⟨h,_⟩
 .rfl
 .cases h
def PQ{nz:Bool}{v:Value}(h:yV nz v):yV false v:=by
 rcases h with rfl|⟨_,a,rfl⟩
 .exact .inl rfl
 .exact .inr ⟨rfl,a,rfl⟩
mutual
def rd(ok:Nat->Prop)(hp:Nat->Option Obj):D->Value->Prop
 | .int k n,v=>v= .int k n
 | .bool b,v=>v= .bool b
 | .str s,v=>v= .string s
 | .nilp,v=>v= .pointer none
 | .nilf,v=>v= .nilFunc
 | .nili,v=>v= .nilIface
 | .nilc,v=>v= .chan none
 | .nilm,v=>v= .map none
 | .agg Q,v=> ∃O:Array Value,v= .agg O/\rdl ok hp Q O.toList
 | .tup Q,v=> ∃O:Array Value,v= .tuple O/\rdl ok hp Q O.toList
 | .sl nz k rows,v=>(yV nz v/\rows=[])\/
  ∃b p cap O T Z,v= .slice (some ⟨b,p,none⟩) rows.length cap/\(nz=true->rows≠[])/\rows.length<=cap/\rows.length<=IN/\ok b/\
   hp b=some (.cells O T Z)/\rdr ok hp k rows (O.toList.drop p)
 | .ref Q,v=> ∃b p O T Z,v= .pointer (some ⟨b,p,none⟩)/\ok b/\hp b=some (.cells O T Z)/\rdp ok hp Q (O.toList.drop p)
 | .mp kt es,v=> ∃b z G,v= .map (some b)/\(∀e∈es,kt.fit e.1=true)/\ok b/\hp b=some (.map z G)/\rde ok hp es z.toList/\(z.toList.map (·.born)).Nodup/\ ∀e∈z.toList,e.born<G
 | .fn f first capt,v=> ∃a c:Array Value,v= .func (W6 f) a c/\rdl ok hp first a.toList/\rdl ok hp capt c.toList
 | .ifc t d,v=> ∃x,v= .iface t x/\rd ok hp d x
 | .gp g,v=>v= .pointer (some ⟨g,0,none⟩)
 | .tok g,v=>ok g/\(∃t x,v= .iface t x)/\ ∃T Z,hp g=some (.cells #[v] T Z)
def rdl(ok:Nat->Prop)(hp:Nat->Option Obj):List D->List Value->Prop
 |[],z=>z=[]
 |d::ds,z=> ∃v r,z=v::r/\rd ok hp d v/\rdl ok hp ds r
def rdp(ok:Nat->Prop)(hp:Nat->Option Obj):List D->List Value->Prop
 |[],_=>True
 |d::ds,z=> ∃v r,z=v::r/\rd ok hp d v/\rdp ok hp ds r
def rdr(ok:Nat->Prop)(hp:Nat->Option Obj)(k:Nat):List (List D)->List Value->Prop
 |[],_=>True
 |r::G,z=>r.length=k/\rdp ok hp r z/\rdr ok hp k G (z.drop k)
def rde(ok:Nat->Prop)(hp:Nat->Option Obj):List (D×D)->List MapEntry->Prop
 |[],z=>z=[]
 |(x,y)::ds,z=> ∃e r,z=e::r/\rd ok hp x e.key/\rd ok hp y e.val/\rde ok hp ds r
end
section mono
variable {ok ok':Nat->Prop}{hp hp':Nat->Option Obj}
mutual
def Hf(h: ∀b,ok b->ok' b/\hp' b=hp b): ∀(d:D) (v:Value),rd ok hp d v->rd ok' hp' d v
 | .int _ _,_,hd=>by simpa only[rd] using hd
 | .bool _,_,hd=>by simpa only[rd] using hd
 | .str _,_,hd=>by simpa only[rd] using hd
 | .nilp,_,hd=>by simpa only[rd] using hd
 | .nilf,_,hd=>by simpa only[rd] using hd
 | .nili,_,hd=>by simpa only[rd] using hd
 | .nilc,_,hd=>by simpa only[rd] using hd
 | .nilm,_,hd=>by simpa only[rd] using hd
 | .gp _,_,hd=>by simpa only[rd] using hd
 | .tok g,v,hd=>by
   simp only[rd] at hd⊢;obtain⟨z,h3,T,fr,h2⟩:=hd;exact⟨(h g z).1,h3,T,fr,(h g z).2.trans h2⟩
 | .agg Z,v,hd=>by
   simp only[rd] at hd⊢;obtain⟨Q,rfl,z⟩:=hd;exact⟨Q,rfl,L8 h Z _ z⟩
 | .tup Z,v,hd=>by
   simp only[rd] at hd⊢;obtain⟨Q,rfl,z⟩:=hd;exact⟨Q,rfl,L8 h Z _ z⟩
 | .sl nz k rows,v,hd=>by
   simp only[rd] at hd⊢;rcases hd with hd|⟨b,p,cap,Q,T,fr,rfl,z,h2,h3,G,h5,h6⟩
   .exact .inl hd
   .exact .inr ⟨b,p,cap,Q,T,fr,rfl,z,h2,h3,(h b G).1,(h b G).2.trans h5,aS h k rows _ h6⟩
 | .ref Z,v,hd=>by
   simp only[rd] at hd⊢;obtain⟨b,p,Q,T,fr,rfl,G,h5,h6⟩:=hd;exact⟨b,p,Q,T,fr,rfl,(h b G).1,(h b G).2.trans h5,Wm h Z _ h6⟩
 | .mp kt es,v,hd=>by
   simp only[rd] at hd⊢;obtain⟨b,aa,O,rfl,h3,G,h5,h6,h7⟩:=hd;exact⟨b,aa,O,rfl,h3,(h b G).1,(h b G).2.trans h5,L7 h es _ h6,h7⟩
 | .fn f first capt,v,hd=>by
   simp only[rd] at hd⊢;obtain⟨a,c,rfl,z,h2⟩:=hd;exact⟨a,c,rfl,L8 h first _ z,L8 h capt _ h2⟩
 | .ifc t d,v,hd=>by
   simp only[rd] at hd⊢;obtain⟨x,rfl,z⟩:=hd;exact⟨x,rfl,Hf h d _ z⟩
def L8(h: ∀b,ok b->ok' b/\hp' b=hp b): ∀(ds:List D) (vs:List Value),rdl ok hp ds vs->rdl ok' hp' ds vs
 |[],_,hd=>by simpa only[rdl] using hd
 |d::ds,vs,hd=>by
  simp only[rdl] at hd⊢;obtain⟨v,r,rfl,z,G⟩:=hd;exact⟨v,r,rfl,Hf h d v z,L8 h ds r G⟩
def Wm(h: ∀b,ok b->ok' b/\hp' b=hp b): ∀(ds:List D) (vs:List Value),rdp ok hp ds vs->rdp ok' hp' ds vs
 |[],_,_=>by simp only[rdp]
 |d::ds,vs,hd=>by
  simp only[rdp] at hd⊢;obtain⟨v,r,rfl,z,G⟩:=hd;exact⟨v,r,rfl,Hf h d v z,Wm h ds r G⟩
def aS(h: ∀b,ok b->ok' b/\hp' b=hp b)(k:Nat): ∀(z:List (List D)) (vs:List Value),rdr ok hp k z vs->rdr ok' hp' k z vs
 |[],_,_=>by simp only[rdr]
 |r::z,vs,hd=>by
  simp only[rdr] at hd⊢;exact⟨hd.1,Wm h r vs hd.2.1,aS h k z _ hd.2.2⟩
def L7(h: ∀b,ok b->ok' b/\hp' b=hp b): ∀(ds:List (D×D)) (es:List MapEntry),rde ok hp ds es->rde ok' hp' ds es
 |[],_,hd=>by simpa only[rde] using hd
 |(x,y)::ds,es,hd=>by
  simp only[rde] at hd⊢;obtain⟨e,r,rfl,z,G,O⟩:=hd;exact⟨e,r,rfl,Hf h x _ z,Hf h y _ G,L7 h ds r O⟩
end
end mono
def D.sc:D->Bool
 | .int _ _| .bool _| .str _| .nilp| .nilf| .nili| .nilc| .nilm=>true
 | .sl true _ []=>true
 |_=>false
def D.scs:D->Bool
 | .agg z| .tup z=>z.all D.sc
 |d=>d.sc
def Nc{ok ok':Nat->Prop}{hp hp':Nat->Option Obj}: ∀{d:D} {v:Value},d.sc=true->rd ok hp d v->rd ok' hp' d v:=by
 intro d v h hd;cases d
 case sl nz k rows=>
  cases nz<;>cases rows<;>simp only[D.sc,Dp] at h;simp only[rd] at hd⊢;rcases hd with hd|⟨b,p,cap,O,T,G,_,z,_⟩
  .exact .inl hd
  .exact absurd rfl (z trivial)
 all_goals simp_all [D.sc,rd]
def US{ok ok':Nat->Prop}{hp hp':Nat->Option Obj}: ∀(ds:List D) (vs:List Value),ds.all D.sc=true->rdl ok hp ds vs->rdl ok' hp' ds vs
 |[],_,_,hd=>by simpa only[rdl] using hd
 |d::ds,vs,h,hd=>by
  simp only[rdl,EE,Bc] at hd h⊢;obtain⟨v,r,rfl,z,G⟩:=hd;exact⟨v,r,rfl,Nc h.1 z,US ds r h.2 G⟩
def Xh{ok ok':Nat->Prop}{hp hp':Nat->Option Obj}: ∀{d:D} {v:Value},d.scs=true->rd ok hp d v->rd ok' hp' d v:=by
 intro d v h hd;cases d<;>simp only[D.scs] at h<;>try exact Nc h hd
 all_goals
  simp only[rd] at hd⊢;obtain⟨G,rfl,z⟩:=hd;exact⟨G,rfl,US _ _ h z⟩
inductive AV where
 |any
 |im (d:D)
 |agg (cs:List AV)
 |tup (cs:List AV)
 |ptr (o off:Nat)
 |eptr (o i off:Nat)
 |own (o:Nat)
 |mp (o:Nat)
 |ch (o:Nat)
 |it (o:Nat)
 |osl (o a n:Nat)
 |clo (f:FuncId) (first capt:List AV)
 deriving Inhabited
inductive Ah where
 |cells (T:TypeId) (cs:List AV)
 |arr (T:TypeId) (k:Nat) (rows:List (List D))
 |arrA (T:TypeId) (k:Nat) (rows:List (List AV))
 |map (kt:KT) (es:List (D×D))
 |chan (q:List D) (cap:Nat)
 |iter (last:Option (D×D)) (left:List (D×D))
 |view (cs:List D)
def Ah.isView:Ah->Bool
 | .view _=>true
 | .cells _ _| .arr _ _ _| .arrA _ _ _| .map _ _| .chan _ _| .iter _ _=>false
abbrev Au:=Bool×Ah
abbrev Ar:=List (Nat×Au)
structure FX where
 b:Nat
 p:Nat
 cap:Nat
structure Ay where
 ρ:Nat->Option FX
 ok:Nat->Prop
 h:Nat->Option Au
 w:World
def Ay.hp(S:Ay):Nat->Option Obj:=λb=>S.w.heap[b]?
def Ah.len:Ah->Nat
 | .arr _ _ rows=>rows.length
 | .arrA _ _ rows=>rows.length
 |_=>0
def Ah.esz:Ah->Nat
 | .arr _ k _=>k
 | .arrA _ k _=>k
 |_=>0
def Q1(r:Option FX)(z len a n:Nat)(v:Value):Prop:=match r with
 |none=>v= .slice none 0 0/\n=0
 |some l=> ∃p G,v= .slice (some ⟨l.b,p,none⟩) n G/\n<=G/\(n≠0->p=l.p+a*z)/\a+n<=len
mutual
def Aa(S:Ay):AV->Value->Prop
 | .any,_=>True
 | .im d,v=>rd S.ok S.hp d v
 | .agg G,v=> ∃z:Array Value,v= .agg z/\AR S G z.toList
 | .tup G,v=> ∃z:Array Value,v= .tuple z/\AR S G z.toList
 | .ptr o off,v=>v.oneCell'=true/\ ∀e,S.h o=some e-> ∃l,S.ρ o=some l/\v= .pointer (some ⟨l.b,l.p+off,none⟩)
 | .eptr o i off,v=>v.oneCell'=true/\ ∀e,S.h o=some e-> ∃l,S.ρ o=some l/\v= .pointer (some ⟨l.b,l.p+i*e.2.esz+off,none⟩)
 | .own o,v=>v.oneCell'=true/\ ∀e,S.h o=some e->match S.ρ o with
  |none=>v= .slice none 0 0
  |some l=>v= .slice (some ⟨l.b,l.p,none⟩) e.2.len l.cap
 | .mp o,v=>v.oneCell'=true/\ ∀e,S.h o=some e-> ∃l,S.ρ o=some l/\v= .map (some l.b)
 | .ch o,v=>v.oneCell'=true/\ ∀e,S.h o=some e-> ∃l,S.ρ o=some l/\v= .chan (some l.b)
 | .it o,v=>v.oneCell'=true/\ ∀e,S.h o=some e-> ∃l,S.ρ o=some l/\v= .pointer (some ⟨l.b,0,none⟩)
 | .osl o a n,v=>v.oneCell'=true/\ ∀e,S.h o=some e->Q1 (S.ρ o) e.2.esz e.2.len a n v
 | .clo f first capt,v=> ∃a c:Array Value,v= .func (W6 f) a c/\AR S first a.toList/\AR S capt c.toList
def AR(S:Ay):List AV->List Value->Prop
 |[],z=>z=[]
 |x::xs,z=> ∃v r,z=v::r/\Aa S x v/\AR S xs r
end
def CA(S:Ay):List AV->List Value->Prop
 |[],_=>True
 |x::xs,z=> ∃v r,z=v::r/\Aa S x v/\CA S xs r
def BG(S:Ay)(k:Nat):List (List AV)->List Value->Prop
 |[],_=>True
 |r::G,z=>r.length=k/\CA S r z/\BG S k G (z.drop k)
def TQ(ok:Nat->Prop)(hp:Nat->Option Obj)(z:Array MapEntry)(G:Array Nat):Option (D×D)->Prop
 |none=>True
 |some (x,y)=> ∃st e,G.back? =some st/\z.find? (·.born==st)=some e/\rd ok hp x e.key/\rd ok hp y e.val
def Ap(S:Ay)(l:Option FX):Ah->Prop
 | .cells T cs=> ∃O Q,l=some O/\O.p=0/\S.hp O.b=some (.cells Q T (0,0))/\AR S cs Q.toList
 | .arr T k rows=>rows.length<=IN/\match l with
  |none=>rows=[]
  |some O=>rows.length<=O.cap/\ ∃Q,S.hp O.b=some (.cells Q T (0,0))/\O.p+O.cap*k<=Q.size/\rdr S.ok S.hp k rows (Q.toList.drop O.p)
 | .arrA T k rows=>rows.length<=IN/\match l with
  |none=>rows=[]
  |some O=>rows.length<=O.cap/\ ∃Q,S.hp O.b=some (.cells Q T (0,0))/\O.p+O.cap*k<=Q.size/\BG S k rows (Q.toList.drop O.p)
 | .map kt es=> ∃O z G,l=some O/\(∀e∈es,kt.fit e.1=true)/\S.hp O.b=some (.map z G)/\rde S.ok S.hp es z.toList/\
  (z.toList.map (·.born)).Nodup/\ ∀e∈z.toList,e.born<G
 | .chan q cap=> ∃O aa ad ac,l=some O/\S.hp O.b=some (.chan cap aa false ad ac false)/\rdl S.ok S.hp q aa.toList
 | .iter ab left=> ∃O mb z G Z,l=some O/\S.ok mb/\TQ S.ok S.hp z Z ab/\S.hp mb=some (.map z G)/\
  S.hp O.b=some (.mapIter (some mb) G Z G)/\(z.toList.map (·.born)).Nodup/\(∀e∈z.toList,e.born<G)/\
  rde S.ok S.hp left (z.toList.filter λe=> !Z.contains e.born)
 | .view cs=> ∃O Q T fr,l=some O/\S.hp O.b=some (.cells Q T fr)/\rdp S.ok S.hp cs (Q.toList.drop O.p)
structure Ba where
 w:World
 M:Nat->Prop
 ok:Nat->Prop
 n0:Nat
 h0:Nat->Option Au
 ρ0:Nat->Option FX
 ds:List Deferred
def Ba.mk0(w:World)(M ok:Nat->Prop):Ba:=⟨w,M,ok,0,λ_=>none,λ_=>none,[]⟩
def Ba.Pre(C:Ba)(S:Ay):Prop:= ∀o,o<C.n0-> ∀e',S.h o=some e'-> ∃e,C.h0 o=some e/\S.ρ o=C.ρ0 o/\e'.2.esz=e.2.esz/\e'.2.len=e.2.len
structure Wf(C:Ba)(S:Ay):Prop where
 os:S.w.os=C.w.os
 tape:S.w.tape=C.w.tape
 output:S.w.output=C.w.output
 dr:C.w.drawn<=S.w.drawn
 size:C.w.heap.size<=S.w.heap.size
 keep: ∀b,b<C.w.heap.size-> ¬C.M b->S.w.heap[b]? =C.w.heap[b]?
 ok0: ∀b,C.ok b->S.ok b
 ok1: ∀b,S.ok b->C.ok b\/C.w.heap.size<=b\/C.M b
 oks: ∀b,S.ok b->b<S.w.heap.size
 obj: ∀o e,S.h o=some e->Ap S (S.ρ o) e.2
 loc: ∀o e l,S.h o=some e->S.ρ o=some l->l.b<S.w.heap.size/\if e.1 then ¬S.ok l.b/\(C.w.heap.size<=l.b\/C.M l.b) else S.ok l.b\/e.2.isView=true
 inj: ∀o o' e e' l l',S.h o=some e->S.h o'=some e'->S.ρ o=some l->S.ρ o'=some l'->l.b=l'.b->(e.1||e'.1)=true->o=o'
 gl:GP (λb=>C.ok b/\ ¬C.M b) (λb=>C.w.heap[b]?)
def Wf.gp{C:Ba}{S:Ay}(h:Wf C S):GP S.ok S.hp:=by
 refine h.gl.mono λb o G z=>⟨h.ok0 b G.1,?_⟩
 have O:b<C.w.heap.size:=by
  apply bX;intro hn
  have:C.w.heap[b]? =none:=XR (by omega)
  rw[this] at z;cases z
 exact (h.keep b O G.2).trans z
def Wf.glN{C:Ba}{S:Ay}(h:Wf C S){M:Nat->Prop}(G: ∀b,M b-> ¬S.ok b):GP (λb=>S.ok b/\ ¬M b) (λb=>S.w.heap[b]?):=
 h.gp.mono λb _ z Q=>⟨⟨z,λO=>G b O z⟩,Q⟩
mutual
def AV.bel(n:Nat):AV->Bool
 | .any=>true
 | .im _=>true
 | .agg z=>AQ n z
 | .tup z=>AQ n z
 | .ptr o _=>Nat.blt o n
 | .eptr o _ _=>Nat.blt o n
 | .own o=>Nat.blt o n
 | .mp o=>Nat.blt o n
 | .ch o=>Nat.blt o n
 | .it o=>Nat.blt o n
 | .osl o _ _=>Nat.blt o n
 | .clo _ a c=>AQ n a && AQ n c
def AQ(n:Nat):List AV->Bool
 |[]=>true
 |x::r=>x.bel n && AQ n r
end
mutual
def AV.nms:AV->List Nat
 | .any=>[]
 | .im _=>[]
 | .agg z=>Ax z
 | .tup z=>Ax z
 | .ptr o _=>[o]
 | .eptr o _ _=>[o]
 | .own o=>[o]
 | .mp o=>[o]
 | .ch o=>[o]
 | .it o=>[o]
 | .osl o _ _=>[o]
 | .clo _ a c=>Ax a++Ax c
def Ax:List AV->List Nat
 |[]=>[]
 |x::r=>x.nms++Ax r
end
def B7:List (List AV)->List Nat
 |[]=>[]
 |x::r=>Ax x++B7 r
def Ah.nms:Ah->List Nat
 | .cells _ z=>Ax z
 | .arr _ _ _=>[]
 | .arrA _ _ rows=>B7 rows
 | .map _ _=>[]
 | .chan _ _=>[]
 | .iter _ _=>[]
 | .view _=>[]
structure BA(X:Nat->Prop)(S S':Ay):Prop where
 ok: ∀b,S.ok b->S'.ok b/\S'.hp b=S.hp b
 nm: ∀o,X o-> ∀e',S'.h o=some e'-> ∃e,S.h o=some e/\S'.ρ o=S.ρ o/\e'.2.esz=e.2.esz/\e'.2.len=e.2.len
def BA.refl(X:Nat->Prop)(S:Ay):BA X S S:=⟨λ_ h=>⟨h,rfl⟩,λ_ _ e' h=>⟨e',h,rfl,rfl,rfl⟩⟩
section
variable {X:Nat->Prop}{S S':Ay}
mutual
def I5(hp:BA X S S'): ∀(x:AV) (v:Value),(∀o∈x.nms,X o)->Aa S x v->Aa S' x v
 | .any,_,_,_=>by simp only[Aa]
 | .im d,v,_,h=>by
   simp only[Aa] at h⊢;exact Hf hp.ok d v h
 | .agg cs,v,G,h=>by
   simp only[Aa,AV.nms] at h G⊢;obtain⟨vs,rfl,h1⟩:=h;exact⟨vs,rfl,Wh hp cs _ G h1⟩
 | .tup cs,v,G,h=>by
   simp only[Aa,AV.nms] at h G⊢;obtain⟨vs,rfl,h1⟩:=h;exact⟨vs,rfl,Wh hp cs _ G h1⟩
 | .ptr o off,v,G,h=>by
   simp only[Aa,AV.nms,BL,LN] at h G⊢;obtain⟨z,h⟩:=h;refine⟨z,?_⟩;intro e' O;obtain⟨e,Q,Z,_,_⟩:=hp.nm o G e' O;rw[Z];exact h e Q
 | .eptr o i off,v,G,h=>by
   simp only[Aa,AV.nms,BL,LN] at h G⊢;obtain⟨z,h⟩:=h;refine⟨z,?_⟩;intro e' O;obtain⟨e,Q,Z,hz,_⟩:=hp.nm o G e' O;rw[Z,hz];exact h e Q
 | .own o,v,G,h=>by
   simp only[Aa,AV.nms,BL,LN] at h G⊢;obtain⟨z,h⟩:=h;refine⟨z,?_⟩;intro e' O;obtain⟨e,Q,Z,_,hl⟩:=hp.nm o G e' O;rw[Z,hl];exact h e Q
 | .mp o,v,G,h=>by
   simp only[Aa,AV.nms,BL,LN] at h G⊢;obtain⟨z,h⟩:=h;refine⟨z,?_⟩;intro e' O;obtain⟨e,Q,Z,_,_⟩:=hp.nm o G e' O;rw[Z];exact h e Q
 | .ch o,v,G,h=>by
   simp only[Aa,AV.nms,BL,LN] at h G⊢;obtain⟨z,h⟩:=h;refine⟨z,?_⟩;intro e' O;obtain⟨e,Q,Z,_,_⟩:=hp.nm o G e' O;rw[Z];exact h e Q
 | .it o,v,G,h=>by
   simp only[Aa,AV.nms,BL,LN] at h G⊢;obtain⟨z,h⟩:=h;refine⟨z,?_⟩;intro e' O;obtain⟨e,Q,Z,_,_⟩:=hp.nm o G e' O;rw[Z];exact h e Q
 | .osl o a n,v,G,h=>by
   simp only[Aa,AV.nms,BL,LN] at h G⊢;obtain⟨z,h⟩:=h;refine⟨z,?_⟩;intro e' O;obtain⟨e,Q,Z,hz,hl⟩:=hp.nm o G e' O;rw[Z,hz,hl];exact h e Q
 | .clo f fi ca,v,G,h=>by
   simp only[Aa,AV.nms,B2] at h G⊢;obtain⟨a,c,rfl,h1,h2⟩:=h;exact⟨a,c,rfl,Wh hp fi _ (λo ho=>G o (.inl ho)) h1,Wh hp ca _ (λo ho=>G o (.inr ho)) h2⟩
def Wh(hp:BA X S S'): ∀(xs:List AV) (vs:List Value),(∀o∈Ax xs,X o)->AR S xs vs->AR S' xs vs
 |[],_,_,h=>by simpa only[AR] using h
 |x::xs,vs,G,h=>by
  simp only[AR,Ax,B2] at h G⊢;obtain⟨v,r,rfl,O,Q⟩:=h;exact⟨v,r,rfl,I5 hp x v (λo z=>G o (.inl z)) O,Wh hp xs r (λo z=>G o (.inr z)) Q⟩
end
def Qq7(hp:BA X S S'): ∀(xs:List AV) (vs:List Value),(∀o∈Ax xs,X o)->CA S xs vs->CA S' xs vs
 |[],_,_,_=>by simp only[CA]
 |x::xs,vs,G,h=>by
  simp only[CA,Ax,B2] at h G⊢;obtain⟨v,r,rfl,O,Q⟩:=h;exact⟨v,r,rfl,I5 hp x v (λo z=>G o (.inl z)) O,Qq7 hp xs r (λo z=>G o (.inr z)) Q⟩
def tB(hp:BA X S S')(k:Nat): ∀(z:List (List AV)) (vs:List Value),(∀o∈B7 z,X o)->BG S k z vs->BG S' k z vs
 |[],_,_,_=>by simp only[BG]
 |r::z,vs,O,h=>by
  simp only[BG,B7,B2] at h O⊢;exact⟨h.1,Qq7 hp r vs (λo G=>O o (.inl G)) h.2.1,tB hp k z _ (λo G=>O o (.inr G)) h.2.2⟩
def Qly{ok ok':Nat->Prop}{hp hp':Nat->Option Obj}(h: ∀b,ok b->ok' b/\hp' b=hp b){z:Array MapEntry}{G:Array Nat}: ∀(l:Option (D×D)),TQ ok hp z G l->TQ ok' hp' z G l
 |none,_=>trivial
 |some (x,y),O=>by
  obtain⟨st,e,a,b,c,d⟩:=O;exact⟨st,e,a,b,Hf h x _ c,Hf h y _ d⟩
def H9(hp:BA X S S'){l:Option FX}(hl: ∀z,l=some z->S'.hp z.b=S.hp z.b): ∀(e:Ah),(∀o∈e.nms,X o)->Ap S l e->Ap S' l e
 | .cells T cs,hx,h=>by
   simp only[Ap,Ah.nms] at h hx⊢;obtain⟨z,vs,G,Q,Z,h4⟩:=h;exact⟨z,vs,G,Q,(hl z G).trans Z,Wh hp cs _ hx h4⟩
 | .arr T k rows,hx,h=>by
   simp only[Ap] at h⊢;refine⟨h.1,?_⟩;cases l with
   |none=>exact h.2
   |some z=>
    obtain⟨h0,G,vs,Q,Z,h4⟩:=h;exact⟨G,vs,(hl z rfl).trans Q,Z,aS hp.ok k rows _ h4⟩
 | .arrA T k rows,hx,h=>by
   simp only[Ap,Ah.nms] at h hx⊢;refine⟨h.1,?_⟩;cases l with
   |none=>exact h.2
   |some z=>
    obtain⟨h0,G,vs,Q,Z,h4⟩:=h;exact⟨G,vs,(hl z rfl).trans Q,Z,tB hp k rows _ hx h4⟩
 | .map kt es,_,h=>by
   simp only[Ap] at h⊢;obtain⟨z,aa,O,G,h0,Q,Z,h4⟩:=h;exact⟨z,aa,O,G,h0,(hl z G).trans Q,L7 hp.ok es _ Z,h4⟩
 | .chan q cap,_,h=>by
   simp only[Ap] at h⊢;obtain⟨z,ag,af,ac,G,Q,Z⟩:=h;exact⟨z,ag,af,ac,G,(hl z G).trans Q,L8 hp.ok q _ Z⟩
 | .iter ab left,_,h=>by
   simp only[Ap] at h⊢;obtain⟨z,mb,aa,O,ad,G,Q,h0,Z,h4,h5,h6,h7⟩:=h;exact⟨z,mb,aa,O,ad,G,(hp.ok mb Q).1,Qly hp.ok ab h0,(hp.ok mb Q).2.trans Z,(hl z G).trans h4,h5,h6,L7 hp.ok left _ h7⟩
 | .view cs,_,h=>by
   simp only[Ap] at h⊢;obtain⟨z,vs,T,fr,G,Q,Z⟩:=h;exact⟨z,vs,T,fr,G,(hl z G).trans Q,Wm hp.ok cs _ Z⟩
end
inductive TK where
 |bool
 |str
 |ptr (e:TypeId)
 |int (k:IntKind)
 |slice (e:TypeId)
 |array (n:Nat) (e:TypeId)
 |struct (fs:List (Nat×Nat))
 |map (k e:TypeId)
 |other
structure TI where
 size:Nat
 bytes:Nat
 agg:Bool
 kind:TK
 zero:List D
def zD:Value->D
 | .bool b=> .bool b
 | .int k n=> .int k n
 | .string s=> .str s
 | .pointer none=> .nilp
 | .slice none _ _=> .sl true 0 []
 | .map none=> .nilm
 | .chan none=> .nilc
 | .nilFunc=> .nilf
 |_=> .nili
def dH:Value->Bool
 | .bool _| .int _ _| .string _| .pointer none| .slice none 0 0| .map none| .chan none| .nilFunc| .nilIface=>true
 |_=>false
def zOf:Bool->Option Value->List D
 |true,some (.agg z)=>bif z.toList.all dH then z.toList.map zD else []
 |false,some v=>bif dH v then [zD v] else []
 |_,_=>[]
def OE:TypeDesc->Bool
 | .struct _| .array _ _=>true
 |_=>false
def FL(P:Program):TypeDesc->TK
 | .int k=> .int k
 | .slice e=> .slice e
 | .array n e=> .array n e
 | .struct z=>bif z.toList.all (λf=>(P.info? f.type).isSome) then .struct (z.toList.map λf=>(f.offset,((P.info? f.type).map (·.size)).getD 0)) else .other
 | .map k e=> .map k e
 | .bool=> .bool
 | .string=> .str
 | .pointer e=> .ptr e
 |_=> .other
def tI(P:Program)(t:TypeId):Option TI:=
 match P.info? t,P.underlying t with
 |some i,some u=>some {size:=i.size,bytes:=i.bytes,agg:=OE u,kind:=FL P u,zero:=zOf (OE u) i.zero}
 |_,_=>none
structure B4 where
 use:List Nat:=[]
 kill:List Nat:=[]
 new:Ar:=[]
 cnt:Nat:=0
structure A8 where
 tm:List (Nat×AV)
 h:Ar
 nx:Nat
def A9:List (Nat×AV)->Nat->AV
 |[],_=> .any
 |(m,x)::r,n=>bif m==n then x else A9 r n
def hget:Ar->Nat->Option Au
 |[],_=>none
 |(m,e)::r,n=>bif m==n then some e else hget r n
def Cb:Ar->List Nat->Ar
 |[],_=>[]
 |(m,e)::r,ks=>bif ks.contains m then Cb r ks else (m,e)::Cb r ks
def A8.put(s:A8)(dst:Option Nat)(x:AV):A8:=
 match dst with
 |some d=>⟨(d,x)::s.tm,s.h,s.nx⟩
 |none=>s
def A8.app(s:A8)(dst:Option Nat)(r:AV)(E:B4):A8:=
 (⟨s.tm,E.new++Cb s.h E.kill,s.nx+E.cnt⟩:A8).put dst r
def kD:Value->AV
 | .bool b=> .im (.bool b)
 | .int k n=> .im (.int k n)
 | .string s=> .im (.str s)
 | .pointer none=> .im .nilp
 | .slice none 0 0=> .im (.sl true 0 [])
 | .map none=> .im .nilm
 | .chan none=> .im .nilc
 | .nilFunc=> .im .nilf
 | .nilIface=> .im .nili
 |_=> .any
def Aw(tm:List (Nat×AV)):Operand->AV
 | .tmp t=>A9 tm t
 | .const v=>kD v
 | .global g=> .im (.gp g)
 | .func f=>bif Nat.blt f 1000000000 then .im (.fn f [] []) else .any
def D.cells:D->List D
 | .agg ds=>ds
 | .int k n=>[.int k n]
 | .bool b=>[.bool b]
 | .str s=>[.str s]
 | .nilp=>[.nilp]
 | .nilf=>[.nilf]
 | .nili=>[.nili]
 | .nilc=>[.nilc]
 | .nilm=>[.nilm]
 | .tup z=>[.tup z]
 | .sl Q k rows=>[.sl Q k rows]
 | .ref z=>[.ref z]
 | .mp O G=>[.mp O G]
 | .fn f a c=>[.fn f a c]
 | .ifc t d=>[.ifc t d]
 | .gp g=>[.gp g]
 | .tok g=>[.tok g]
def AV.cells:AV->List AV
 | .im d=>d.cells.map .im
 | .agg z=>z
 | .any=>[]
 | .tup z=>[.tup z]
 | .ptr o p=>[.ptr o p]
 | .eptr o i p=>[.eptr o i p]
 | .own o=>[.own o]
 | .mp o=>[.mp o]
 | .ch o=>[.ch o]
 | .it o=>[.it o]
 | .osl o a n=>[.osl o a n]
 | .clo f a c=>[.clo f a c]
def D.one:D->Bool
 | .agg _| .tup _=>false
 | .int _ _| .bool _| .str _| .nilp| .nilf| .nili| .nilc| .nilm| .sl _ _ _| .ref _| .mp _ _| .fn _ _ _| .ifc _ _| .gp _| .tok _=>true
def AV.one:AV->Bool
 | .im d=>d.one
 | .agg _| .any| .tup _=>false
 | .ptr _ _| .eptr _ _ _| .own _| .mp _| .ch _| .it _| .osl _ _ _| .clo _ _ _=>true
def R6:List AV->Bool
 |[]=>true
 |x::r=>x.one && R6 r
def AV.asD:AV->Option D
 | .im d=>some d
 | .agg _| .any| .tup _| .ptr _ _| .eptr _ _ _| .own _| .mp _| .ch _| .it _| .osl _ _ _| .clo _ _ _=>none
def O1:Option D->Option (List D)->Option (List D)
 |some d,some ds=>some (d::ds)
 |some _,none=>none
 |none,_=>none
def DP:List AV->Option (List D)
 |[]=>some []
 |x::r=>O1 x.asD (DP r)
def YS(cs:List AV):Option (List D)->AV
 |some ds=> .im (.agg ds)
 |none=> .agg cs
def hdV:List AV->AV
 |[]=> .any
 |x::_=>x
def oH:List D->D
 |[]=> .nilp
 |x::_=>x
def jO(agg:Bool)(cs:List AV):AV:=
 bif agg then YS cs (DP cs) else hdV cs
def cW(agg:Bool)(ds:List D):D:=bif agg then .agg ds else oH ds
def Co{α:Type}(l:List α)(off:Nat)(x:List α):List α:=l.take off++x++l.drop (off+x.length)
abbrev Aj:=AV->B4->Prop
mutual
def D.beq:D->D->Bool
 | .int _ a,.int _ b=>a==b
 | .bool a,.bool b=>a==b
 | .str a,.str b=>a==b
 | .agg a,.agg b=>D.beql a b
 |_,_=>false
def D.beql:List D->List D->Bool
 |[],[]=>true
 |a::r,b::s=>D.beq a b && D.beql r s
 |_,_=>false
end
def lk:List (D×D)->D->Option D
 |[],_=>none
 |(k,v)::r,x=>bif D.beq x k then some v else lk r x
def Eg:List (D×D)->D->D->List (D×D)
 |[],x,y=>[(x,y)]
 |(k,v)::r,x,y=>bif D.beq x k then (x,y)::r else (k,v)::Eg r x y
def Ju:List (D×D)->D->List (D×D)
 |[],_=>[]
 |(k,v)::r,x=>bif D.beq x k then r else (k,v)::Ju r x
def bK(P:Program)(G:TypeId->Option KT):List Field->Nat->Option (List KK)
 |[],_=>some []
 |f::O,off=>
  match G f.type,P.info? f.type with
  |some z,some i=>
   bif f.offset==off && (f.name != "_" && i.size==z.ks.length) then (bK P G O (off+z.ks.length)).map (z.ks++ ·) else none
  |_,_=>none
def Bn(P:Program):Nat->TypeId->Option KT
 |0,_=>none
 |n+1,t=>
  match P.underlying t with
  |some (.int k)=>some ⟨false,[.int k]⟩
  |some .string=>some ⟨false,[.str]⟩
  |some .bool=>some ⟨false,[.bool]⟩
  |some (.struct z)=>bif P.stoodInHeld t then none else (bK P (Bn P n) z.toList 0).map (⟨true,·⟩)
  |_=>none
def BU(P:Program)(t:TypeId):Option KT:=Bn P 5 t
def JZ{α:Type}(rows:List (List α))(i:Nat)(K:List α->Prop):Prop:= ∀row,rows[i]? =some row->K row
def FW(es:List (D×D))(kd:D)(Ks:D->Prop)(Kn:Prop):Prop:=(∀v,lk es kd=some v->Ks v)/\(lk es kd=none->Kn)
def gG(ti:TI)(off:Nat)(E:B4)(K:Aj)(row:List D):Prop:=(ti.agg=true\/ti.size=1)/\off+ti.size<=row.length/\K (.im (cW ti.agg ((row.drop off).take ti.size))) E
def vX(ti:TI)(off:Nat)(E:B4)(K:Aj)(row:List AV):Prop:=(ti.agg=true\/ti.size=1)/\off+ti.size<=row.length/\K (jO ti.agg ((row.drop off).take ti.size)) E
def J8(ti:TI)(o off:Nat)(K:Aj):Option Au->Prop
 |some (_,.cells _ z)=>vX ti off {use:=[o]} K z
 |some (_,.view z)=>gG ti off {use:=[o]} K z
 |_=>False
def J7(ti:TI)(o i off:Nat)(K:Aj):Option Au->Prop
 |some (_,.arr _ _ rows)=>i<rows.length/\JZ rows i (gG ti off {use:=[o]} K)
 |some (_,.arrA _ _ rows)=>i<rows.length/\JZ rows i (vX ti off {use:=[o]} K)
 |_=>False
def XB(h:Nat->Option Au)(ti:TI)(K:Aj):AV->Prop
 | .im (.ref z)=>gG ti 0 {} K z
 | .im (.gp g)=>J3 g=true/\ti.size=1/\ti.agg=false/\K (.im (.tok g)) {}
 | .ptr o off=>J8 ti o off K (h o)
 | .eptr o i off=>J7 ti o i off K (h o)
 |_=>False
def YH(o i off k z:Nat)(T:TypeId)(rows:List (List D))(K:Aj)(row:List D):Option (List D)->Prop
 |some ds=>off+z<=row.length/\K .any {use:=[o],kill:=[o],new:=[(o,(true,.arr T k (rows.set i (Co row off ds))))]}
 |none=>False
def Qxz(o i off k z:Nat)(T:TypeId)(rows:List (List D))(ds:Option (List D))(K:Aj)(row:List D):Prop:=YH o i off k z T rows K row ds
def Qyo(o i off k z:Nat)(T:TypeId)(rows:List (List AV))(vs:List AV)(K:Aj)(row:List AV):Prop:=
 off+z<=row.length/\K .any {use:=[o],kill:=[o],new:=[(o,(true,.arrA T k (rows.set i (Co row off vs))))]}
def V1(ti:TI)(o off:Nat)(vs:List AV)(K:Aj):Option Au->Prop
 |some (true,.cells T z)=>off+ti.size<=z.length/\K .any {use:=[o],kill:=[o],new:=[(o,(true,.cells T (Co z off vs)))]}
 |_=>False
def JN(ti:TI)(o i off:Nat)(vs:List AV)(K:Aj):Option Au->Prop
 |some (true,.arr T k rows)=>i<rows.length/\JZ rows i (Qxz o i off k ti.size T rows (DP vs) K)
 |some (true,.arrA T k rows)=>i<rows.length/\JZ rows i (Qyo o i off k ti.size T rows vs K)
 |_=>False
def tF(h:Nat->Option Au)(ti:TI)(vs:List AV)(K:Aj):AV->Prop
 | .ptr o off=>V1 ti o off vs K (h o)
 | .eptr o i off=>JN ti o i off vs K (h o)
 |_=>False
def Qri(h:Nat->Option Au)(x v:AV)(K:Aj)(ti:TI):Prop:=
 ti.size≠0/\v.cells.length=ti.size/\R6 v.cells=true/\tF h ti v.cells K x
def RZ(o:Nat)(x:AV)(K:Aj):Option Au->Prop
 |some _=>K x {use:=[o]}
 |none=>False
def KY(h:Nat->Option Au)(off:Nat)(K:Aj):AV->Prop
 | .im (.ref z)=>off<=z.length/\K (.im (.ref (z.drop off))) {}
 | .ptr o p=>RZ o (.ptr o (p+off)) K (h o)
 | .eptr o i p=>RZ o (.eptr o i (p+off)) K (h o)
 |_=>False
def Y0(h:Nat->Option Au)(x:AV)(K:Aj):Option (Nat×Nat)->Prop
 |some (off,z)=>z≠0/\KY h off K x
 |none=>False
def faK(h:Nat->Option Au)(x:AV)(f:Nat)(K:Aj):TK->Prop
 | .struct z=>Y0 h x K z[f]?
 |_=>False
def zN(h:Nat->Option Au)(x:AV)(f:Nat)(K:Aj)(ti:TI):Prop:=faK h x f K ti.kind
def xY(K:Aj)(row:List D):Prop:=K (.im (.ref row)) {}
def M3(o:Nat)(n:Int)(K:Aj)(z:TI):Option Au->Prop
 |some (_,.arr _ k rows)=>k=z.size/\0<=n/\n<(rows.length:Int)/\K (.eptr o n.toNat 0) {use:=[o]}
 |some (_,.arrA _ k rows)=>k=z.size/\0<=n/\n<(rows.length:Int)/\K (.eptr o n.toNat 0) {use:=[o]}
 |_=>False
def T7(o a m:Nat)(n:Int)(K:Aj)(z:TI):Option Au->Prop
 |some (_,.arr _ k rows)=>k=z.size/\0<=n/\n<(m:Int)/\a+m<=rows.length/\K (.eptr o (a+n.toNat) 0) {use:=[o]}
 |_=>False
def T6(h:Nat->Option Au)(n:Int)(K:Aj)(x:AV)(z:TI):Prop:=
 match x with
 | .im (.sl _ k rows)=>k=z.size/\0<=n/\n<(rows.length:Int)/\JZ rows n.toNat (xY K)
 | .own o=>M3 o n K z (h o)
 | .osl o a m=>T7 o a m n K z (h o)
 |_=>False
def M2(h:Nat->Option Au)(m:Nat)(n:Int)(K:Aj)(x:AV)(z:TI):Prop:=
 match x with
 | .ptr o p=>0<=n/\n<(m:Int)/\RZ o (.ptr o (p+n.toNat*z.size)) K (h o)
 | .im (.ref G)=>0<=n/\n<(m:Int)/\n.toNat*z.size<=G.length/\K (.im (.ref (G.drop (n.toNat*z.size)))) {}
 |_=>False
def Bl(f:TI->Prop):Option TI->Prop
 |some ti=>f ti
 |none=>False
def xR(P:Program)(h:Nat->Option Au)(x:AV)(n:Int)(K:Aj):TK->Prop
 | .slice e=>Bl (T6 h n K x) (tI P e)
 | .array m e=>Bl (M2 h m n K x) (tI P e)
 |_=>False
def Qjp(P:Program)(h:Nat->Option Au)(x:AV)(ti:TI)(K:Aj):AV->Prop
 | .im (.int _ n)=>xR P h x n K ti.kind
 |_=>False
def TH(m:Nat)(n:Int)(cs:List D)(K:Aj)(z:TI):Prop:=
 (z.agg=true\/z.size=1)/\0<=n/\n<(m:Int)/\n.toNat*z.size+z.size<=cs.length/\K (.im (cW z.agg ((cs.drop (n.toNat*z.size)).take z.size))) {}
def dJ(s:ByteArray)(i:Nat)(K:UInt8->Prop):Prop:= ∀c,s.data[i]? =some c->K c
def kCh(K:Aj)(c:UInt8):Prop:=K (.im (.int .u8 c.toNat)) {}
def ixK(P:Program)(n:Int)(K:Aj):TK->AV->Prop
 | .array m e,.im (.agg z)=>Bl (TH m n z K) (tI P e)
 | .str,.im (.str s)=>0<=n/\n<(s.size:Int)/\dJ s n.toNat (kCh K)
 |_,_=>False
def Qxc(P:Program)(x:AV)(ti:TI)(K:Aj):AV->Prop
 | .im (.int _ n)=>ixK P n K ti.kind x
 |_=>False
def Hb:BinOp->Nat
 | .shr=>1
 | .shl=>2
 | .add| .sub| .mul| .quo| .rem| .and| .or| .xor| .andNot| .eql| .neq| .lss| .leq| .gtr| .geq=>0
def XW(k:IntKind)(a b:Int):Int:=k.wrap ((BitVec.ofInt k.bits a &&& BitVec.ofInt k.bits b).toNat:Int)
def orI(k:IntKind)(a b:Int):Int:=k.wrap ((BitVec.ofInt k.bits a|||BitVec.ofInt k.bits b).toNat:Int)
def yZ(k:IntKind)(a b:Int):Int:=k.wrap ((BitVec.ofInt k.bits a^^^BitVec.ofInt k.bits b).toNat:Int)
def Ja(op:BinOp)(k:IntKind)(a b:Int)(K:Aj):Prop:=
 match op with
 | .add=>K (.im (.int k (k.wrap (a+b)))) {}
 | .sub=>K (.im (.int k (k.wrap (a - b)))) {}
 | .mul=>K (.im (.int k (k.wrap (a*b)))) {}
 | .quo=>b≠0/\K (.im (.int k (k.wrap (a.tdiv b)))) {}
 | .rem=>b≠0/\K (.im (.int k (a.tmod b))) {}
 | .eql=>K (.im (.bool (decide (a=b)))) {}
 | .neq=>K (.im (.bool (!decide (a=b)))) {}
 | .lss=>K (.im (.bool (decide (a<b)))) {}
 | .leq=>K (.im (.bool (decide (a<=b)))) {}
 | .gtr=>K (.im (.bool (decide (b<a)))) {}
 | .geq=>K (.im (.bool (decide (b<=a)))) {}
 | .and=>K (.im (.int k (XW k a b))) {}
 | .or=>K (.im (.int k (orI k a b))) {}
 | .xor=>K (.im (.int k (yZ k a b))) {}
 |_=>False
def cF(neg:Bool)(K:Aj)(b:Bool):Prop:=K (.im (.bool (neg !=b))) {}
def SN(neg:Bool)(K:Aj):AV->Prop
 | .im (.sl true _ rows)=>cF neg K rows.isEmpty
 |_=>False
def vO(h:Nat->Option Au)(neg:Bool)(K:Aj):AV->Prop
 | .im .nilp=>cF neg K true
 | .im (.ref _)=>cF neg K false
 | .ptr o _=>RZ o (.im (.bool neg)) K (h o)
 | .eptr o _ _=>RZ o (.im (.bool neg)) K (h o)
 |_=>False
def WL(h:Nat->Option Au)(neg:Bool)(K:Aj):AV->Prop
 | .im .nilm=>cF neg K true
 | .im (.mp _ _)=>cF neg K false
 | .mp o=>RZ o (.im (.bool neg)) K (h o)
 |_=>False
def X6(h:Nat->Option Au)(neg:Bool)(K:Aj)(x:AV):Nat->TK->Prop
 |0,.slice _=>SN neg K x
 |1,.ptr _=>vO h neg K x
 |2,.map _ _=>WL h neg K x
 |_,_=>False
def NW(op:BinOp)(a b:ByteArray)(K:Aj):Prop:=
 match op with
 | .eql=>K (.im (.bool (decide (a=b)))) {}
 | .neq=>K (.im (.bool (!decide (a=b)))) {}
 | .add=>a.size+b.size<=9223372036854775807/\K (.im (.str (a++b))) {}
 |_=>False
def JR(op:BinOp)(a b:Bool)(K:Aj):Prop:=
 match op with
 | .eql=>K (.im (.bool (a==b))) {}
 | .neq=>K (.im (.bool (a !=b))) {}
 |_=>False
def N2(op:BinOp)(a b:Bool)(K:Aj):Option TI->Prop
 |some ti=>ti.kind= .bool/\JR op a b K
 |none=>False
def uW(op:BinOp)(a b:List D)(K:Aj):Prop:=
 match op with
 | .eql=>K (.im (.bool (D.beql a b))) {}
 | .neq=>K (.im (.bool (!D.beql a b))) {}
 |_=>False
def uS(P:Program)(T:TypeId)(op:BinOp)(a b:List D)(K:Aj):Option KT->Prop
 |some z=>z.fit (.agg a)=true/\z.fit (.agg b)=true/\P.eqGuardType P.depth T=false/\uW op a b K
 |none=>False
def bB(op:BinOp)(k:IntKind)(a:Int)(k':IntKind)(b:Int)(K:Aj):Nat->Prop
 |0=>k=k'/\Ja op k a b K
 |1=>0<=b/\K (.im (.int k (a.fdiv (2^min b.toNat k.bits)))) {}
 |_+2=>0<=b/\K (.im (.int k (k.wrap (a*2^min b.toNat k.bits)))) {}
def gO(P:Program)(T:TypeId)(op:BinOp)(K:Aj):AV->AV->Prop
 | .im (.int k a),.im (.int k' b)=>bB op k a k' b K (Hb op)
 | .im (.str a),.im (.str b)=>NW op a b K
 | .im (.bool a),.im (.bool b)=>N2 op a b K (tI P T)
 | .im (.agg a),.im (.agg b)=>uS P T op a b K (BU P T)
 |_,_=>False
def ZH(K:Aj):UnOp->AV->Prop
 | .not,.im (.bool b)=>K (.im (.bool (!b))) {}
 | .neg,.im (.int k n)=>K (.im (.int k (k.wrap (-n)))) {}
 |_,_=>False
def bI(cells:List AV)(vs:List AV):Option (Nat×Nat)->Option (List AV)
 |none=>none
 |some (off,size)=>bif vs.length==size && (Nat.blt 0 size && Nat.ble (off+size) cells.length) then some (Co cells off vs) else none
def HY(place:Nat->Option (Nat×Nat)):List (Nat×AV)->Option (List AV)->Option (List AV)
 |[],r=>r
 |_::_,none=>none
 |(i,v)::z,some cells=>HY place z (bI cells v.cells (place i))
def JI(k i:Nat):Option (Nat×Nat):=some (i*k,k)
def MY(z:List (Nat×Nat))(i:Nat):Option (Nat×Nat):=z[i]?
def NR(K:Aj):Option (List AV)->Prop
 |some z=>K (jO true z) {}
 |none=>False
def Sf(O:List AV)(z:List (Nat×AV))(K:Aj)(G:TI):Prop:=NR K (HY (JI G.size) z (some O))
def xI(P:Program)(G:List AV)(z:List (Nat×AV))(K:Aj):TK->Prop
 | .struct O=>NR K (HY (MY O) z (some G))
 | .array _ e=>Bl (Sf G z K) (tI P e)
 |_=>False
def Qsy(P:Program)(z:List (Nat×AV))(K:Aj)(ti:TI):Prop:=ti.zero.length=ti.size/\ti.size≠0/\xI P (ti.zero.map .im) z K ti.kind
def I6{α:Type}(k:Nat):Nat->List α->List (List α)
 |0,_=>[]
 |n+1,l=>l.take k::I6 k n (l.drop k)
def Cq{α:Type}:Nat->List α->List α
 |0,_=>[]
 |n+1,z=>z++Cq n z
def Jq(nx len e k:Nat)(cs:List AV)(K:Aj):Option (List D)->Prop
 |some ds=>K (.own nx) {new:=[(nx,(true,.arr e k (I6 k len ds)))],cnt:=1}
 |none=>K (.own nx) {new:=[(nx,(true,.arrA e k (I6 k len cs)))],cnt:=1}
def LX(nx len e k:Nat)(K:Aj):Option (List AV)->Prop
 |some z=>Jq nx len e k z K (DP z)
 |none=>False
def bsE(nx len e:Nat)(z:List (Nat×AV))(K:Aj)(G:TI):Prop:=
 G.zero.length=G.size/\G.size≠0/\len*G.size<=16777216/\LX nx len e G.size K (HY (JI G.size) z (some (Cq len (G.zero.map .im))))
def bsK(P:Program)(nx len:Nat)(z:List (Nat×AV))(K:Aj):TK->Prop
 | .slice e=>Bl (bsE nx len e z K) (tI P e)
 |_=>False
def zC(P:Program)(nx len:Nat)(z:List (Nat×AV))(K:Aj)(ti:TI):Prop:=bsK P nx len z K ti.kind
def msE(nx e:Nat)(n m:Int)(K:Aj)(z:TI):Prop:=
 z.size≠0/\0<=n/\n<=m/\m<=1073741824/\z.bytes<=65536/\z.zero.length=z.size/\
  K (.own nx) {new:=[(nx,(true,.arr e z.size (List.replicate n.toNat z.zero)))],cnt:=1}
def msK(P:Program)(nx:Nat)(K:Aj):TK->AV->AV->Prop
 | .slice e,.im (.int .i64 n),.im (.int .i64 m)=>Bl (msE nx e n m K) (tI P e)
 |_,_,_=>False
def zO(P:Program)(nx:Nat)(l c:AV)(K:Aj)(ti:TI):Prop:=msK P nx K ti.kind l c
inductive Src where
 |d (u:List Nat) (k:Nat) (rows:List (List D))
 |a (u:List Nat) (k:Nat) (rows:List (List AV))
 |no
def bE(o:Nat):Option Au->Src
 |some (_,.arr _ k rows)=> .d [o] k rows
 |some (_,.arrA _ k rows)=> .a [o] k rows
 |_=> .no
def JT(s:ByteArray):List (List D):=s.data.toList.map λb=>[.int .u8 b.toNat]
def D5(h:Nat->Option Au):AV->Src
 | .im (.sl _ k rows)=> .d [] k rows
 | .im (.str s)=> .d [] 1 (JT s)
 | .own o=>bE o (h o)
 |_=> .no
def Bm(rows:List (List D)):List (List AV):=rows.map λr=>r.map .im
def BZ:List D->Bool
 |[]=>true
 |x::r=>x.one && BZ r
def Cj{α:Type}(f:List α->Bool)(rows:List (List α)):Prop:= ∀row∈rows,f row=true
def Src.okOne:Src->Prop
 | .d _ _ rows=>Cj BZ rows
 | .a _ _ rows=>Cj R6 rows
 | .no=>False
def NO(nx e:Nat)(z:TI)(K:Aj):Src->Prop
 | .d u k rows=>(k=z.size\/rows=[])/\(rows.length+512)*z.bytes<=140737488355328/\K (.own nx) {use:=u,new:=[(nx,(true,.arr e z.size rows))],cnt:=1}
 | .a u k rows=>k=z.size/\(rows.length+512)*z.bytes<=140737488355328/\K (.own nx) {use:=u,kill:=u,new:=[(nx,(true,.arrA e z.size rows))],cnt:=1}
 | .no=>False
def oE(nx e o:Nat)(z:TI)(rows0:List (List D))(K:Aj):Src->Prop
 | .d u k rows=>(k=z.size\/rows=[])/\u≠[o]/\(rows0.length+rows.length+512)*z.bytes<=140737488355328/\
  K (.own nx) {use:=o::u,kill:=[o],new:=[(nx,(true,.arr e z.size (rows0++rows)))],cnt:=1}
 | .a u k rows=>k=z.size/\u≠[o]/\(rows0.length+rows.length+512)*z.bytes<=140737488355328/\
  K (.own nx) {use:=o::u,kill:=o::u,new:=[(nx,(true,.arrA e z.size (Bm rows0++rows)))],cnt:=1}
 | .no=>False
def oD(nx e o:Nat)(z:TI)(rows0:List (List AV))(K:Aj):Src->Prop
 | .d u k rows=>(k=z.size\/rows=[])/\u≠[o]/\(rows0.length+rows.length+512)*z.bytes<=140737488355328/\
  K (.own nx) {use:=o::u,kill:=[o],new:=[(nx,(true,.arrA e z.size (rows0++Bm rows)))],cnt:=1}
 | .a u k rows=>k=z.size/\u≠[o]/\(rows0.length+rows.length+512)*z.bytes<=140737488355328/\
  K (.own nx) {use:=o::u,kill:=o::u,new:=[(nx,(true,.arrA e z.size (rows0++rows)))],cnt:=1}
 | .no=>False
def Jo(nx e o:Nat)(G:TI)(src:Src)(K:Aj):Option Au->Prop
 |some (true,.arr T k z)=>T=e/\k=G.size/\oE nx e o G z K src
 |some (true,.arrA T k z)=>T=e/\k=G.size/\oD nx e o G z K src
 |_=>False
def Sa(h:Nat->Option Au)(nx e:Nat)(z:TI)(src:Src)(K:Aj):AV->Prop
 | .im (.sl true _ [])=>NO nx e z K src
 | .own o=>Jo nx e o z src K (h o)
 |_=>False
def apE(h:Nat->Option Au)(nx e:Nat)(s:AV)(src:Src)(K:Aj)(z:TI):Prop:=
 z.size≠0/\z.zero.length=z.size/\z.bytes≠0/\src.okOne/\Sa h nx e z src K s
def apK(P:Program)(h:Nat->Option Au)(nx:Nat)(s:AV)(src:Src)(K:Aj):TK->Prop
 | .slice e=>Bl (apE h nx e s src K) (tI P e)
 |_=>False
def Qsl(P:Program)(h:Nat->Option Au)(nx:Nat)(s x:AV)(K:Aj)(ti:TI):Prop:=apK P h nx s (D5 h x) K ti.kind
def Gi(K:Aj)(E:B4)(n:Nat):Prop:=K (.im (.int .i64 n)) E
def Qxr(z:Bool)(o:Nat)(K:Aj):Option Au->Prop
 |some (_,.arr _ _ rows)=>(z=true->rows.length<=140737488355328)->Gi K {use:=[o]} rows.length
 |some (_,.arrA _ _ rows)=>(z=true->rows.length<=140737488355328)->Gi K {use:=[o]} rows.length
 |_=>False
def MC(o:Nat)(K:Aj):Option Au->Prop
 |some (_,.map _ z)=>Gi K {use:=[o]} z.length
 |_=>False
def jL(o n:Nat)(K:Aj):Option Au->Prop
 |some _=>Gi K {use:=[o]} n
 |none=>False
def gM(z:Bool)(h:Nat->Option Au)(K:Aj):AV->Prop
 | .osl o _ n=>jL o n K (h o)
 | .im (.sl _ _ rows)=>(z=true->rows.length<=140737488355328)->Gi K {} rows.length
 | .own o=>Qxr z o K (h o)
 |_=>False
def TU(K:Aj):AV->Prop
 | .im (.str s)=>Gi K {} s.size
 |_=>False
def vT(h:Nat->Option Au)(K:Aj):AV->Prop
 | .im (.mp _ z)=>Gi K {} z.length
 | .im .nilm=>Gi K {} 0
 | .mp o=>MC o K (h o)
 |_=>False
def FH(z:Bool)(h:Nat->Option Au)(K:Aj)(x:AV):TK->Prop
 | .slice _=>gM z h K x
 | .str=>TU K x
 | .map _ _=>vT h K x
 | .bool| .ptr _| .int _| .array _ _| .struct _| .other=>False
def gU(z:Bool)(h:Nat->Option Au)(x:AV)(K:Aj)(ti:TI):Prop:=FH z h K x ti.kind
def Qy3(ok:Bool)(E:B4)(K:Aj)(v:D):Prop:=K (bif ok then .tup [.im v,.im (.bool true)] else .im v) E
def J5(z:TI)(ok:Bool)(E:B4)(K:Aj):Prop:=z.zero.length=z.size/\(z.agg=true\/z.size=1)/\z.size≠0/\K (bif ok then .tup [.im (cW z.agg z.zero),.im (.bool false)] else .im (cW z.agg z.zero)) E
def Uc(o:Nat)(O:KT)(kd:D)(ok:Bool)(Q:TI)(K:Aj):Option Au->Prop
 |some (_,.map z G)=>z=O/\FW G kd (Qy3 ok {use:=[o]} K) (J5 Q ok {use:=[o]} K)
 |_=>False
def gV(h:Nat->Option Au)(O:KT)(kd:D)(ok:Bool)(G:TI)(K:Aj):AV->Prop
 | .im (.mp z Q)=>z=O/\FW Q kd (Qy3 ok {} K) (J5 G ok {} K)
 | .im .nilm=>J5 G ok {} K
 | .mp o=>Uc o O kd ok G K (h o)
 |_=>False
def YP(h:Nat->Option Au)(m:AV)(kd:D)(ok:Bool)(K:Aj)(G:TI):Option KT->Prop
 |some z=>z.fit kd=true/\gV h z kd ok G K m
 |none=>False
def luE(P:Program)(h:Nat->Option Au)(m:AV)(kd:D)(ok:Bool)(K:Aj)(k:TypeId)(z:TI):Prop:=YP h m kd ok K z (BU P k)
def luK(P:Program)(h:Nat->Option Au)(m:AV)(ok:Bool)(K:Aj):TK->AV->Prop
 | .map k e,.im z=>Bl (luE P h m z ok K k) (tI P e)
 |_,_=>False
def Qnn(P:Program)(h:Nat->Option Au)(m k:AV)(ok:Bool)(K:Aj)(ti:TI):Prop:=luK P h m ok K ti.kind k
def Un(o:Nat)(z:KT)(kd Q:D)(K:Aj):Option Au->Prop
 |some (true,.map G O)=>G=z/\z.fit kd=true/\K .any {use:=[o],kill:=[o],new:=[(o,(true,.map z (Eg O kd Q)))]}
 |_=>False
def Um(h:Nat->Option Au)(o:Nat)(kd G:D)(K:Aj):Option KT->Prop
 |some z=>Un o z kd G K (h o)
 |none=>False
def Ll(P:Program)(h:Nat->Option Au)(o:Nat)(kd z:D)(K:Aj):TK->Prop
 | .map k _=>Um h o kd z K (BU P k)
 | .bool| .str| .ptr _| .int _| .array _ _| .struct _| .slice _| .other=>False
def muF(n:Nat)(e:Ah)(K:Aj)(r:AV)(E:B4):Prop:=E.kill.contains n=false/\K r {use:=n::E.use,kill:=n::E.kill,new:=E.new++[(n,(false,e))],cnt:=E.cnt}
def Uo(P:Program)(h:Nat->Option Au)(o n:Nat)(kd:D)(K:Aj)(z:TK):Option Au->Prop
 |some (_,.arr T k rows)=>(o==n)=false/\Ll P h o kd (.sl false k rows) (muF n (.arr T k rows) K) z
 |_=>False
def lY(P:Program)(h:Nat->Option Au)(K:Aj)(m k v:AV)(ti:TI):Prop:=
 match m,k,v with
 | .mp o,.im z,.im G=>Ll P h o z G K ti.kind
 | .mp o,.im z,.own n=>Uo P h o n z K ti.kind (h n)
 |_,_,_=>False
def SB(o:Nat)(z:KT)(kd:D)(K:Aj):Option Au->Prop
 |some (true,.map G O)=>G=z/\z.fit kd=true/\K .any {use:=[o],kill:=[o],new:=[(o,(true,.map z (Ju O kd)))]}
 |_=>False
def Yo(h:Nat->Option Au)(o:Nat)(kd:D)(K:Aj):Option KT->Prop
 |some z=>SB o z kd K (h o)
 |none=>False
def SA(P:Program)(h:Nat->Option Au)(o:Nat)(kd:D)(K:Aj):TK->Prop
 | .map k _=>Yo h o kd K (BU P k)
 | .bool| .str| .ptr _| .int _| .array _ _| .struct _| .slice _| .other=>False
def Qni(P:Program)(h:Nat->Option Au)(K:Aj)(m k:AV)(ti:TI):Prop:=
 match m,k with
 | .mp o,.im z=>SA P h o z K ti.kind
 |_,_=>False
def exA(K:Aj):Option AV->Prop
 |some c=>K c {}
 |none=>False
def exD(K:Aj):Option D->Prop
 |some d=>K (.im d) {}
 |none=>False
def mA(i:Nat)(K:Aj):AV->Prop
 | .tup z=>exA K z[i]?
 | .im (.tup ds)=>exD K ds[i]?
 |_=>False
def mB(h:Nat->Option Au)(K:Aj):AV->Prop
 | .im (.ref z)=>K (.im (.ref z)) {}
 | .im (.ifc t d)=>K (.im (.ifc t d)) {}
 | .ptr o p=>RZ o (.ptr o p) K (h o)
 | .eptr o i p=>RZ o (.eptr o i p) K (h o)
 |_=>False
abbrev D4:=FuncId->List AV->(Nat->Option Au)->Nat->Aj->Prop
def Rg(V:D4)(args:List AV)(h:Nat->Option Au)(nx:Nat)(K:Aj):AV->Prop
 | .im (.fn g first capt)=>V g ((first.map .im)++args++(capt.map .im)) h nx K
 | .clo g first capt=>V g (first++args++capt) h nx K
 |_=>False
def QX:Option TI->Option TK
 |some ti=>some ti.kind
 |none=>none
def Qjk(nx e:Nat)(K:Aj)(z:TI):Prop:=K (.own nx) {new:=[(nx,(true,.arr e z.size []))],cnt:=1}
def Qg6(P:Program)(nx:Nat)(K:Aj):Option TK->Prop
 |some (.slice e)=>Bl (Qjk nx e K) (tI P e)
 |_=>False
def Rz:Value->Bool
 | .slice none 0 0=>true
 |_=>false
def Xz:Operand->Bool
 | .const v=>Rz v
 | .tmp _| .global _| .func _=>false
def Qk7(P:Program)(nx:Nat)(T:TypeId)(v:AV)(K:Aj):Bool->Prop
 |true=>Qg6 P nx K (QX (tI P T))
 |false=>K v {}
def Qm9(P:Program)(tm:List (Nat×AV))(nx:Nat)(T:TypeId)(K:Aj)(x:Operand):Prop:=Qk7 P nx T (Aw tm x) K (Xz x && !(T==260))
def MW(c:Bool)(K:Aj)(a b:AV):Prop:=(c=true->K a {})/\(c=false->K b {})
def Qzp(a b:AV)(K:Aj):AV->Prop
 | .im (.bool c)=>MW c K a b
 |_=>False
def Qsv(nx T:Nat)(K:Aj)(ti:TI):Prop:=ti.zero.length=ti.size/\ti.size≠0/\K (.ptr nx 0) {new:=[(nx,(true,.cells T (ti.zero.map .im)))],cnt:=1}
def VL(nx T:Nat)(K:Aj)(cs:List AV):Prop:=cs≠[]/\K (.ptr nx 0) {new:=[(nx,(true,.cells T cs))],cnt:=1}
def Gj:Value->Nat
 | .slice none 0 0=>1
 | .pointer none=>2
 | .map none=>3
 | .nilIface=>4
 |_=>0
def FI:Operand->Nat
 | .const v=>Gj v
 | .tmp _| .global _| .func _=>0
def mX(h:Nat->Option Au)(op:BinOp)(x:AV)(K:Aj)(n:Nat)(ti:TI):Prop:=
 match op with
 | .eql=>X6 h false K x n ti.kind
 | .neq=>X6 h true K x n ti.kind
 |_=>False
def TB(P:Program)(T:TypeId):Bool:=match P.underlying T with
 |some (.interface _)=>true
 |_=>false
def cK(P:Program)(T:TypeId):Bool:=match P.underlying T with
 |some (.interface _)=>false
 |some _=>true
 |none=>false
def cV(P:Program)(t:TypeId)(name:String):Option FuncId:=
 match P.info? t with
 |some i=>match i.methods.find? (·.name==name) with
  |some m=>bif m.path.isEmpty then (match m.func with
   |some (f,false)=>some f
   |_=>none) else none
  |none=>none
 |none=>none
def WV(P:Program)(t:TypeId)(name:String):Option FuncId:=
 match P.underlying t with
 |some (.pointer _)=>none
 |some _=>cV P t name
 |none=>none
def Rl(neg:Bool)(K:Aj):AV->Prop
 | .im .nili=>cF neg K true
 | .im (.ifc _ _)=>cF neg K false
 |_=>False
def Xb(P:Program)(T:TypeId)(op:BinOp)(x:AV)(K:Aj):Prop:=
 TB P T=true/\match op with
 | .eql=>Rl false K x
 | .neq=>Rl true K x
 |_=>False
def VM(P:Program)(T:TypeId)(K:Aj):AV->Prop
 | .im d=>cK P T=true/\K (.im (.ifc T d)) {}
 |_=>False
def Xa(V:D4)(args:List AV)(h:Nat->Option Au)(nx:Nat)(K:Aj)(d:D):Option FuncId->Prop
 |some f=>V f (.im d::args) h nx K
 |none=>False
def N3(P:Program)(V:D4)(args:List AV)(h:Nat->Option Au)(nx:Nat)(K:Aj)(m:String):AV->Prop
 | .im (.ifc t d)=>Xa V args h nx K d (WV P t m)
 |_=>False
def bM(P:Program)(T:TypeId)(h:Nat->Option Au)(op:BinOp)(x y:AV)(K:Aj):Nat->Prop
 |0=>gO P T op K x y
 |1=>Bl (mX h op x K 0) (tI P T)
 |2=>Bl (mX h op x K 1) (tI P T)
 |3=>Bl (mX h op x K 2) (tI P T)
 |_+4=>Xb P T op x K
def Lz:Option TK->Aj->AV->Prop
 |some (.int k),K,.im (.int _ n)=>K (.im (.int k (k.wrap n))) {}
 |_,_,_=>False
def uQ(t:Option TK)(x:AV)(K:Aj):Option TI->Prop
 |some _=>Lz t K x
 |none=>False
def HP:List (List D)->Option (List Int)
 |[]=>some []
 |[.int .u8 n]::r=>(HP r).map (n:: ·)
 |_=>none
def Ql(z:List Int):ByteArray:=⟨(z.map λn=>UInt8.ofNat n.toNat).toArray⟩
def LY(u:List Nat)(K:Aj):Option (List Int)->Prop
 |some z=>K (.im (.str (Ql z))) {use:=u}
 |none=>False
def Sm(o:Nat)(K:Aj):Option Au->Prop
 |some (_,.arr _ k rows)=>k=1/\LY [o] K (HP rows)
 |_=>False
def iR(h:Nat->Option Au)(K:Aj):AV->Prop
 | .own o=>Sm o K (h o)
 |_=>False
def iS(h:Nat->Option Au)(K:Aj)(x:AV):Option TK->Prop
 |some (.int .u8)=>iR h K x
 |_=>False
def iT(P:Program)(h:Nat->Option Au)(K:Aj)(x:AV):TK->Prop
 | .slice e=>iS h K x (QX (tI P e))
 |_=>False
def Jr(P:Program)(h:Nat->Option Au)(K:Aj)(x:AV):Option TI->Prop
 |some z=>iT P h K x z.kind
 |none=>False
def TK.isStr:TK->Bool
 | .str=>true
 | .bool| .ptr _| .int _| .array _ _| .struct _| .map _ _| .slice _| .other=>false
def isStr:Option TK->Bool
 |some t=>t.isStr
 |none=>false
def WO(P:Program)(h:Nat->Option Au)(t:Option TK)(x:AV)(K:Aj)(s:Option TI):Prop:=if isStr t=true then Jr P h K x s else uQ t x K s
def N4(K:Aj):AV->AV->Prop
 | .im (.int k a),.im (.int k' b)=>k=k'/\K (.im (.int k (max a b))) {}
 |_,_=>False
def N5(K:Aj):AV->AV->Prop
 | .im (.int k a),.im (.int k' b)=>k=k'/\K (.im (.int k (min a b))) {}
 |_,_=>False
def TK.isSl:TK->Bool
 | .slice _=>true
 | .bool| .str| .ptr _| .int _| .array _ _| .struct _| .map _ _| .other=>false
def Qlj(P:Program)(h:Nat->Option Au)(nx:Nat)(s x:AV)(T:TypeId)(K:Aj)(z:TI):Prop:=(z.kind.isSl||z.kind.isStr)=true/\Bl (Qsl P h nx s x K) (tI P T)
def DW(tm:List (Nat×AV)):Option Operand->Option AV
 |none=>none
 |some x=>some (Aw tm x)
def Hs(z:Nat):Option AV->Option Int
 |none=>some z
 |some (.im (.int _ n))=>some n
 |some _=>none
def V5(k:Nat)(rows:List (List D))(K:Aj):Option Int->Option Int->Prop
 |some l,some m=>0<=l/\l<=m/\m<=(rows.length:Int)/\K (.im (.sl false k ((rows.drop l.toNat).take (m - l).toNat))) {}
 |some _,none=>False
 |none,_=>False
def JP(s:ByteArray)(K:Aj):Option Int->Option Int->Prop
 |some l,some m=>0<=l/\l<=m/\m<=(s.size:Int)/\K (.im (.str (s.extract l.toNat m.toNat))) {}
 |some _,none=>False
 |none,_=>False
def vP(o nx:Nat)(z:Bool)(T k:Nat)(rows:List (List D))(a n:Nat)(K:Aj):Bool->Prop
 |false=>K (.osl o a n) {use:=[o]}
 |true=>z=true/\K (.own nx) {use:=[o],kill:=[o],new:=[(nx,(true,.arr T k ((rows.drop a).take n)))],cnt:=1}
def JQ(o nx:Nat)(z:Bool)(T k:Nat)(rows:List (List D))(K:Aj):Option Int->Option Int->Prop
 |some l,some m=>0<=l/\l<=m/\m<=(rows.length:Int)/\ ∃G,vP o nx z T k rows l.toNat (m - l).toNat K G
 |some _,none=>False
 |none,_=>False
def V6(o nx:Nat)(O:TI)(lo z:Option AV)(K:Aj):Option Au->Prop
 |some (G,.arr T k rows)=>k=O.size/\JQ o nx G T k rows K (Hs 0 lo) (Hs rows.length z)
 |_=>False
def yU(h:Nat->Option Au)(nx:Nat)(lo z:Option AV)(K:Aj)(x:AV)(G:TI):Prop:=
 match x with
 | .im (.sl _ k rows)=>(k=G.size\/rows=[])/\V5 k rows K (Hs 0 lo) (Hs rows.length z)
 | .own o=>V6 o nx G lo z K (h o)
 |_=>False
def kZ(x:AV)(lo z:Option AV)(K:Aj):Prop:=
 match x with
 | .im (.str s)=>JP s K (Hs 0 lo) (Hs s.size z)
 |_=>False
def QW(P:Program)(h:Nat->Option Au)(nx:Nat)(x:AV)(lo z:Option AV)(K:Aj):TK->Prop
 | .slice e=>Bl (yU h nx lo z K x) (tI P e)
 | .str=>kZ x lo z K
 | .bool| .ptr _| .int _| .array _ _| .struct _| .map _ _| .other=>False
def Qsm(P:Program)(h:Nat->Option Au)(nx:Nat)(x:AV)(lo z:Option AV)(K:Aj)(ti:TI):Prop:=QW P h nx x lo z K ti.kind
def iW(o:Nat):Option Au->Option (List Nat×Nat×List (List D))
 |some (_,.arr _ k rows)=>some ([o],k,rows)
 |_=>none
def iX(o a n:Nat):Option Au->Option (List Nat×Nat×List (List D))
 |some (_,.arr _ k rows)=>some ([o],k,(rows.drop a).take n)
 |_=>none
def gS(h:Nat->Option Au):AV->Option (List Nat×Nat×List (List D))
 | .im (.sl _ k rows)=>some ([],k,rows)
 | .own o=>iW o (h o)
 | .osl o a n=>iX o a n (h o)
 |_=>none
def S6(o:Nat):Option Au->Option (Nat×Nat×Nat×TypeId×Nat×List (List D))
 |some (true,.arr T k rows)=>some (o,0,rows.length,T,k,rows)
 |_=>none
def S7(o a n:Nat):Option Au->Option (Nat×Nat×Nat×TypeId×Nat×List (List D))
 |some (true,.arr T k rows)=>some (o,a,n,T,k,rows)
 |_=>none
def Wv(h:Nat->Option Au):AV->Option (Nat×Nat×Nat×TypeId×Nat×List (List D))
 | .own o=>S6 o (h o)
 | .osl o a n=>S7 o a n (h o)
 |_=>none
def gH(rows:List (List D))(a m:Nat)(src:List (List D)):List (List D):=rows.take a++src.take m++rows.drop (a+m)
def S8(G:TI)(K:Aj):Option (List Nat×Nat×List (List D))->Option (Nat×Nat×Nat×TypeId×Nat×List (List D))->Prop
 |some (u,ks,z),some (o,a,n,T,k,rows)=>k=G.size/\(ks=G.size\/z=[])/\G.size≠0/\Cj BZ z/\
  K (.im (.int .i64 (min z.length n:Nat))) {use:=o::u,kill:=[o],new:=[(o,(true,.arr T k (gH rows a (min z.length n) z)))]}
 |some _,none=>False
 |none,_=>False
def S9(P:Program)(h:Nat->Option Au)(d s:AV)(K:Aj):TK->Prop
 | .slice e=>Bl (λz=>S8 z K (gS h s) (Wv h d)) (tI P e)
 | .bool| .str| .ptr _| .int _| .array _ _| .struct _| .map _ _| .other=>False
def Qzd(P:Program)(h:Nat->Option Au)(d s:AV)(K:Aj)(ti:TI):Prop:=S9 P h d s K ti.kind
def Yi(z:TI)(K:Aj):Option (Nat×Nat×Nat×TypeId×Nat×List (List D))->Prop
 |some (o,a,n,T,k,rows)=>k=z.size/\z.size≠0/\z.zero.length=z.size/\BZ z.zero=true/\
  K .any {use:=[o],kill:=[o],new:=[(o,(true,.arr T k (gH rows a n (List.replicate n z.zero))))]}
 |none=>False
def Ss(P:Program)(h:Nat->Option Au)(d:AV)(K:Aj):TK->Prop
 | .slice e=>Bl (λz=>Yi z K (Wv h d)) (tI P e)
 | .bool| .str| .ptr _| .int _| .array _ _| .struct _| .map _ _| .other=>False
def Qrt(P:Program)(h:Nat->Option Au)(d:AV)(K:Aj)(ti:TI):Prop:=Ss P h d K ti.kind
def Vg(nx o:Nat)(K:Aj):Option Au->Prop
 |some (O,.map G z)=>K (.it nx) {use:=[o],kill:=[o],new:=[(nx,(true,.iter none z)),(o,(false,.map G z))],cnt:=1}
 |_=>False
def rgD(nx:Nat)(K:Aj):D->Prop
 | .mp _ z=>K (.it nx) {new:=[(nx,(true,.iter none z))],cnt:=1}
 |_=>False
def rgM(h:Nat->Option Au)(nx:Nat)(K:Aj):AV->Prop
 | .mp o=>Vg nx o K (h o)
 | .im d=>rgD nx K d
 |_=>False
def Vf(h:Nat->Option Au)(nx:Nat)(x:AV)(K:Aj):TK->Prop
 | .map _ _=>rgM h nx K x
 | .bool| .str| .ptr _| .int _| .array _ _| .struct _| .slice _| .other=>False
def Qsh(h:Nat->Option Au)(nx:Nat)(x:AV)(K:Aj)(ti:TI):Prop:=Vf h nx x K ti.kind
def yL(o:Nat)(left:List (D×D))(K:Aj)(i:Nat)(p:D×D):Prop:=
 K (.tup [.im (.bool true),.im p.1,.im p.2]) {use:=[o],kill:=[o],new:=[(o,(true,.iter (some p) (left.eraseIdx i)))]}
def U5(o:Nat)(K:Aj):Option Au->Prop
 |some (true,.iter _ left)=>(left=[]->K (.tup [.im (.bool false)]) {use:=[o]})/\ ∀i p,left[i]? =some p->yL o left K i p
 |_=>False
def WK(h:Nat->Option Au)(K:Aj):AV->Prop
 | .it o=>U5 o K (h o)
 |_=>False
def kC(h:Nat->Option Au)(x:AV)(K:Aj):Bool->Prop
 |true=>WK h K x
 |false=>False
def SL(o:Nat)(K:Aj):Option Au->Prop
 |some (true,.iter (some p) _)=>K (.im (.tup [p.1,p.2])) {use:=[o]}
 |_=>False
def Qsz(h:Nat->Option Au)(K:Aj):AV->Prop
 | .it o=>SL o K (h o)
 |_=>False
def Wu(P:Program)(t:TypeId):Option TypeId:=match P.underlying t with
 |some (.chan _ e)=>some e
 |_=>none
def mcE(nx:Nat)(n:Int)(K:Aj)(z:TI):Prop:=0<=n/\n<=1073741824/\z.bytes<=65536/\K (.ch nx) {new:=[(nx,(true,.chan [] n.toNat))],cnt:=1}
def mcV(P:Program)(nx:Nat)(K:Aj)(e:TypeId):AV->Prop
 | .im (.int .i64 n)=>Bl (mcE nx n K) (tI P e)
 |_=>False
def mcK(P:Program)(nx:Nat)(x:AV)(K:Aj):Option TypeId->Prop
 |some e=>mcV P nx K e x
 |none=>False
def zQ(P:Program)(nx:Nat)(x:AV)(K:Aj)(T:TypeId):Prop:=mcK P nx x K (Wu P T)
def cQ(o:Nat)(K:Aj):Option Au->Prop
 |some (_,.chan q _)=>Gi K {use:=[o]} q.length
 |_=>False
def TZ(o:Nat)(h:Nat->Option Au)(K:Aj):Option TypeId->Prop
 |some _=>cQ o K (h o)
 |none=>False
def kV(o:Nat)(d:D)(K:Aj):Option Au->Prop
 |some (true,.chan q cap)=>q.length<cap/\K .any {use:=[o],kill:=[o],new:=[(o,(true,.chan (q++[d]) cap))]}
 |_=>False
def L2(h:Nat->Option Au)(c x:AV)(K:Aj):Prop:=
 match c,x with
 | .ch o,.im d=>kV o d K (h o)
 |_,_=>False
def kN(o:Nat)(K:Aj):Option Au->Prop
 |some (true,.chan q cap)=>q≠[]/\ ∀d r,q=d::r->K (.im d) {use:=[o],kill:=[o],new:=[(o,(true,.chan r cap))]}
 |_=>False
def rvC(h:Nat->Option Au)(K:Aj):AV->Prop
 | .ch o=>kN o K (h o)
 |_=>False
def rvE(h:Nat->Option Au)(c:AV)(K:Aj)(z:TI):Prop:=z.zero.length=z.size/\z.size≠0/\rvC h K c
def rvK(P:Program)(h:Nat->Option Au)(c:AV)(K:Aj):Option TypeId->Prop
 |some e=>Bl (rvE h c K) (tI P e)
 |none=>False
def L0(P:Program)(h:Nat->Option Au)(T:TypeId)(c:AV)(K:Aj):Prop:=rvK P h c K (Wu P T)
def SO(neg:Bool)(K:Aj)(E:B4){α:Type}(rows:List α):Prop:= ∀b:Bool,(b=true->rows=[])->K (.im (.bool (neg !=b))) E
def SP(o:Nat)(neg:Bool)(K:Aj):Option Au->Prop
 |some (_,.arr _ _ rows)=>SO neg K {use:=[o]} rows
 |some (_,.arrA _ _ rows)=>SO neg K {use:=[o]} rows
 |_=>False
def NP(h:Nat->Option Au)(neg:Bool)(K:Aj):AV->Prop
 | .im (.sl _ _ rows)=>SO neg K {} rows
 | .own o=>SP o neg K (h o)
 |_=>False
def IB:D->Bool
 | .sl z _ _=>z
 | .int _ _| .bool _| .str _| .nilp| .nilf| .nili| .nilc| .nilm| .agg _| .tup _| .ref _| .mp _ _| .fn _ _ _| .ifc _ _| .gp _| .tok _=>true
def FG:AV->Bool
 | .im d=>IB d
 | .own _=>false
 | .any| .agg _| .tup _| .ptr _ _| .eptr _ _ _| .mp _| .ch _| .it _| .osl _ _ _| .clo _ _ _=>true
def unS(z:Bool)(x:AV)(n:Nat):Bool:=z && (n==1 && !FG x)
def R5(P:Program)(h:Nat->Option Au)(T:TypeId)(op:BinOp)(x:AV)(K:Aj):TK->Prop
 | .slice _=>(match op with
   | .eql=>NP h false K x
   | .neq=>NP h true K x
   |_=>False)
 | .bool| .str| .ptr _| .int _| .array _ _| .struct _| .map _ _| .other=>False
def Qst(P:Program)(h:Nat->Option Au)(T:TypeId)(op:BinOp)(x:AV)(K:Aj)(ti:TI):Prop:=R5 P h T op x K ti.kind
def Ly(P:Program)(z:Bool)(T:TypeId)(h:Nat->Option Au)(op:BinOp)(x y:AV)(K:Aj)(n:Nat):Prop:=
 if unS z x n=true then Bl (Qst P h T op x K) (tI P T) else bM P T h op x y K n
def LD(P:Program)(z:Bool)(h:Nat->Option Au)(T:TypeId)(K:Aj):AV->Prop
 | .ch o=>TZ o h K (Wu P T)
 | .im d=>Bl (gU z h (.im d) K) (tI P T)
 | .own o=>Bl (gU z h (.own o) K) (tI P T)
 | .osl o a n=>Bl (gU z h (.osl o a n) K) (tI P T)
 | .mp o=>Bl (gU z h (.mp o) K) (tI P T)
 | .any| .agg _| .tup _| .ptr _ _| .eptr _ _ _| .it _| .clo _ _ _=>False
def Xu(P:Program)(z:Bool)(h:Nat->Option Au)(nx:Nat)(K:Aj):Builtin->List AV->List TypeId->Prop
 | .len,[x],[T]=>LD P z h T K x
 | .append,[s,x],[T,U]=>Bl (Qlj P h nx s x T K) (tI P U)
 | .delete,[m,k],T::_=>Bl (Qni P h K m k) (tI P T)
 | .copy,[d,s],[T,_]=>Bl (Qzd P h d s K) (tI P T)
 | .clear,[d],[T]=>Bl (Qrt P h d K) (tI P T)
 | .max,[x,y],_=>N4 K x y
 | .min,[x,y],_=>N5 K x y
 |_,_,_=>False
def uH(P:Program)(V:D4)(z:Bool)(tm:List (Nat×AV))(h:Nat->Option Au)(nx:Nat)(args:List AV)(ts:List TypeId)(K:Aj):Callee->Prop
 | .value f=>Rg V args h nx K (Aw tm f)
 | .builtin b=>Xu P z h nx K b args ts
 | .invoke r m=>N3 P V args h nx K m (Aw tm r)
def YT(nx:Nat)(K:Aj):Option KT->Prop
 |some z=>K (.mp nx) {new:=[(nx,(true,.map z []))],cnt:=1}
 |none=>False
def Uk(P:Program)(nx:Nat)(K:Aj):TK->Prop
 | .map k _=>YT nx K (BU P k)
 | .bool| .str| .ptr _| .int _| .array _ _| .struct _| .slice _| .other=>False
def Qko(P:Program)(nx:Nat)(K:Aj)(ti:TI):Prop:=Uk P nx K ti.kind
def DV(tm:List (Nat×AV)):List Operand->List AV
 |[]=>[]
 |x::r=>Aw tm x::DV tm r
def Kh(tm:List (Nat×AV)):List (Nat×Operand)->List (Nat×AV)
 |[]=>[]
 |(i,x)::r=>(i,Aw tm x)::Kh tm r
def Qrk(h:Nat->Option Au)(x:AV)(K:Aj)(ti:TI):Prop:=XB h ti K x
def zE(P:Program)(h:Nat->Option Au)(x i:AV)(K:Aj)(ti:TI):Prop:=Qjp P h x ti K i
def Qno(P:Program)(x i:AV)(K:Aj)(ti:TI):Prop:=Qxc P x ti K i
def Sz(o:Nat)(T:TypeId)(cs:List AV):Option (List D)->Option (D×Ar)
 |some ds=>some (.ref ds,[(o,(false,.cells T cs))])
 |none=>none
def Sx(o:Nat):Option Au->Option (D×Ar)
 |some (_,.cells T z)=>Sz o T z (DP z)
 |some (_,.arr _ _ _)=>none
 |some (_,.arrA _ _ _)=>none
 |some (_,.map _ _)=>none
 |some (_,.chan _ _)=>none
 |some (_,.iter _ _)=>none
 |some (_,.view _)=>none
 |none=>none
def Im(h:Nat->Option Au):AV->Option (D×Ar)
 | .im d=>some (d,[])
 | .ptr o 0=>Sx o (h o)
 | .ptr _ (_+1)=>none
 | .any=>none
 | .agg _=>none
 | .tup _=>none
 | .eptr _ _ _=>none
 | .own _=>none
 | .mp _=>none
 | .ch _=>none
 | .it _=>none
 | .osl _ _ _=>none
 | .clo _ _ _=>none
def Sw:Option (D×Ar)->Option (List D×Ar)->Option (List D×Ar)
 |some (d,E),some (ds,F)=>some (d::ds,E++F)
 |some _,none=>none
 |none,_=>none
def OV(h:Nat->Option Au):List AV->Option (List D×Ar)
 |[]=>some ([],[])
 |x::r=>Sw (Im h x) (OV h r)
def hnm:Ar->List Nat
 |[]=>[]
 |(n,_)::r=>n::hnm r
def Qz3(f:FuncId)(a b:List D)(first capt:List AV)(K:Aj):Ar->Prop
 |[]=>K (.im (.fn f a b)) {}
 |e::r=>K (.im (.fn f a b)) {use:=hnm (e::r),kill:=hnm (e::r),new:=e::r}\/K (.clo f first capt) {}
def NU(f:FuncId)(first capt:List AV)(K:Aj):Option (List D×Ar)->Option (List D×Ar)->Prop
 |some (a,E),some (b,F)=>Qz3 f a b first capt K (E++F)
 |some _,none=>K (.clo f first capt) {}
 |none,_=>K (.clo f first capt) {}
def Y2(P:Program)(U:TypeId)(f:Nat):Option (TypeId×Nat):=
 match P.underlying U with
 |some (.struct z)=>(z[f]?).map λq=>(q.type,q.offset)
 |_=>none
def Ro(off n:Nat)(cs:List D):Bool->Option D
 |true=>some (.agg ((cs.drop off).take n))
 |false=>cs[off]?
def Rm(K:Aj):Option D->Prop
 |some d=>K (.im d) {}
 |none=>False
def eN(off:Nat)(K:Aj)(ti:TI):AV->Prop
 | .im (.agg z)=>off+ti.size<=z.length/\Rm K (Ro off ti.size z ti.agg)
 |_=>False
def Rn(P:Program)(x:AV)(K:Aj):Option (TypeId×Nat)->Prop
 |some (t,off)=>Bl (λti=>eN off K ti x) (tI P t)
 |none=>False
def step(P:Program)(V:D4)(G:Bool)(tm:List (Nat×AV))(h:Nat->Option Au)(nx:Nat)(T:TypeId)(K:Aj):Op->Prop
 | .move x=>K (Aw tm x) {}
 | .assign x=>Qm9 P tm nx T K x
 | .pick c a b=>Qzp (Aw tm a) (Aw tm b) K (Aw tm c)
 | .alloc T=>Bl (Qsv nx T K) (tI P T)
 | .box T x=>VL nx T K (Aw tm x).cells
 | .build T z=>Bl (Qsy P (Kh tm z.toList) K) (tI P T)
 | .buildSlice T n z=>Bl (zC P nx n (Kh tm z.toList) K) (tI P T)
 | .load T x=>Bl (Qrk h (Aw tm x) K) (tI P T)
 | .store T x v=>Bl (Qri h (Aw tm x) (Aw tm v) K) (tI P T)
 | .nilCheck x=>mB h K (Aw tm x)
 | .binOp op T x y _=>Ly P G T h op (Aw tm x) (Aw tm y) K (FI y)
 | .unOp op _ x=>ZH K op (Aw tm x)
 | .convert S T x=>WO P h (QX (tI P T)) (Aw tm x) K (tI P S)
 | .makeFunc (.func f) first capt=>Nat.blt f 1000000000=true/\NU f (DV tm first.toList) (DV tm capt.toList) K (OV h (DV tm first.toList)) (OV h (DV tm capt.toList))
 | .makeMap T none=>Bl (Qko P nx K) (tI P T)
 | .makeSlice T l c=>Bl (zO P nx (Aw tm l) (Aw tm c) K) (tI P T)
 | .fieldAddr T x f=>Bl (zN h (Aw tm x) f K) (tI P T)
 | .indexAddr T x i=>Bl (zE P h (Aw tm x) (Aw tm i) K) (tI P T)
 | .index T x i=>Bl (Qno P (Aw tm x) (Aw tm i) K) (tI P T)
 | .lookup T m k ok=>Bl (Qnn P h (Aw tm m) (Aw tm k) ok K) (tI P T)
 | .mapUpdate T m k v=>Bl (lY P h K (Aw tm m) (Aw tm k) (Aw tm v)) (tI P T)
 | .extract x i=>mA i K (Aw tm x)
 | .call c=>uH P V G tm h nx (DV tm c.args.toList) c.argTypes.toList K c.callee
 | .slice T x lo O none=>Bl (Qsm P h nx (Aw tm x) (DW tm lo) (DW tm O) K) (tI P T)
 | .range T x=>Bl (Qsh h nx (Aw tm x) K) (tI P T)
 | .next x false=>kC h (Aw tm x) K G
 | .entry x=>Qsz h K (Aw tm x)
 | .makeChan T x=>zQ P nx (Aw tm x) K T
 | .makeInterface T x=>VM P T K (Aw tm x)
 | .insert T m k v=>Bl (lY P h K (Aw tm m) (Aw tm k) (Aw tm v)) (tI P T)
 | .field U x f=>Rn P (Aw tm x) K (Y2 P U f)
 |_=>False
inductive Ex where
 |normal
 |exit (id:Nat)
 |ret
abbrev C4:=Ex->A8->Prop
def Xx(t:Option Nat)(z:Bool)(s:A8)(Kdo Kskip:A8->Prop):AV->Prop
 | .im (.bool b)=>(b=z->Kdo (s.put t (.im (.bool z))))/\(b= !z->Kskip (s.put t (.im (.bool (!z)))))
 | .im (.tup [])=>Kskip s
 |_=>False
def AB(n:Nat):Ar->Bool
 |[]=>true
 |(_,(_,.cells _ z))::r=>AQ n z && AB n r
 |(_,(_,.arrA _ _ rows))::r=>rows.all (AQ n) && AB n r
 |(_,(_,.arr _ _ _))::r=>AB n r
 |(_,(_,.map _ _))::r=>AB n r
 |(_,(_,.chan _ _))::r=>AB n r
 |(_,(_,.iter _ _))::r=>AB n r
 |(_,(_,.view _))::r=>AB n r
def K0(kill:List Nat)(nx cnt n:Nat):Bool:=(Nat.ble nx n && Nat.blt n (nx+cnt))||(kill.contains n && Nat.blt n nx)
def IC(kill:List Nat)(nx cnt:Nat):Ar->Bool
 |[]=>true
 |(n,_)::r=>K0 kill nx cnt n && IC kill nx cnt r
def B4.ok(E:B4)(nx:Nat)(r:AV):Bool:=r.bel (nx+E.cnt) && (AB (nx+E.cnt) E.new && IC E.kill nx E.cnt E.new)
def A8.app_nr(tm:List (Nat×AV))(h:Ar)(nx:Nat)(dst:Option Nat)(r:AV)(u k:List Nat)(nw:Ar)(c:Nat):A8.app ⟨tm,h,nx⟩ dst r ⟨u,k,nw,c⟩=(⟨tm,nw++Cb h k,nx+c⟩:A8).put dst r:=by
 cases dst<;>rfl
def B4.ok_nr(u k:List Nat)(nw:Ar)(c nx:Nat)(r:AV):B4.ok ⟨u,k,nw,c⟩ nx r=(r.bel (nx+c) && (AB (nx+c) nw && IC k nx c nw)):=by
 cases c<;>rfl
structure SOp where
 dst:Option Nat
 op:Op
 type:TypeId
 gd:Option (Option Nat×Bool)
def XI(ops:Array Oper):Option (Nat×Bool)->Option (Option Nat×Bool)
 |none=>none
 |some (j,w)=>some ((ops[j]?).bind (·.dst),w)
def G4(ops:Array Oper):List Oper->List SOp
 |[]=>[]
 |o::r=>⟨o.dst,o.op,o.type,XI ops o.guard⟩::G4 ops r
def Fx(z:A8->Prop)(s:A8)(dst:Option Nat)(r:AV)(E:B4):Prop:=E.ok s.nx r=true/\z (s.app dst r E)
def Ei(P:Program)(V:D4)(tm:List (Nat×AV))(h:Nat->Option Au)(nx:Nat)(ty:TypeId)(K:Aj):Op->Prop
 | .send c x=>L2 h (Aw tm c) (Aw tm x) K
 | .recv T c false=>L0 P h T (Aw tm c) K
 |op=>step P V true tm h nx ty K op
def JS(P:Program)(V:D4)(dst:Option Nat)(op:Op)(ty:TypeId)(z:A8->Prop)(s:A8):Prop:=
 Ei P V s.tm (hget s.h) s.nx ty (Fx z s dst) op
def N1(dst:Option Nat)(z:A8->Prop)(s:A8):Prop:=z (s.put dst (.im (.tup [])))
def Y9(P:Program)(V:D4)(dst:Option Nat)(op:Op)(ty:TypeId)(z:Bool)(G:A8->Prop)(s:A8):Option Nat->Prop
 |some t=>Xx (some t) z s (JS P V dst op ty G) (N1 dst G) (A9 s.tm t)
 |none=>False
def yP(P:Program)(V:D4)(dst:Option Nat)(op:Op)(ty:TypeId)(G:A8->Prop)(s:A8):Option (Option Nat×Bool)->Prop
 |none=>JS P V dst op ty G s
 |some (t,z)=>Y9 P V dst op ty z G s t
def Lv(P:Program)(V:D4):List SOp->(A8->Prop)->A8->Prop
 |[],K,s=>K s
 |⟨dst,op,ty,gd⟩::z,K,s=>yP P V dst op ty (Lv P V z K) s gd
structure Fp where
 i:Nat
 use:List Nat
 touch:List Nat
 nx:Nat
 cnt:Nat
def L9:Ar->List Nat
 |[]=>[]
 |(n,_)::r=>n::L9 r
def JC:Ar->List Nat
 |[]=>[]
 |(_,(_,e))::r=>e.nms++JC r
def O0:List Nat->List Nat->Bool
 |[],_=>true
 |x::r,l=> !l.contains x && O0 r l
def Hz(nx cnt:Nat):List Nat->Bool
 |[]=>true
 |x::r=>(Nat.blt x nx||Nat.ble (nx+cnt) x) && Hz nx cnt r
def IJ:Ground->Bool
 | .data=>true
 | .chain=>true
 | .guard=>true
 | .phase=>true
 | .textOnly _=>false
 | .gcOnly _=>false
def Eb:List (List Nat)->Nat->List Nat
 |[],_=>[]
 |x::_,0=>x
 |_::r,n+1=>Eb r n
def ins(x:Nat)(l:List Nat):List Nat:=bif l.contains x then l else x::l
def TA:List Nat->List Nat->List Nat
 |[],l=>l
 |x::r,l=>ins x (TA r l)
def Ht(acc:List (List Nat)):List Edge->List Nat
 |[]=>[]
 |e::r=>bif IJ e.ground then TA (e.on::Eb acc e.on) (Ht acc r) else Ht acc r
def Fq:List Oper->List (List Nat)->List (List Nat)
 |[],acc=>acc
 |o::r,acc=>Fq r (acc++[Ht acc o.after.toList])
def Fc(cl:List (List Nat))(i j:Nat):Bool:=(Eb cl j).contains i
def xL(cl:List (List Nat))(j:Nat)(use touch z:List Nat)(f:Fp):Bool:=
 bif O0 (use++touch) f.touch && (O0 touch f.use && Hz f.nx f.cnt z) then true else Fc cl f.i j
def NY(cl:List (List Nat))(j:Nat)(use touch z:List Nat):List Fp->Bool
 |[]=>true
 |f::r=>xL cl j use touch z f && NY cl j use touch z r
def B4.touch(E:B4):List Nat:=E.kill++L9 E.new
abbrev lM:=List Fp->A8->Prop
def cN(cl:List (List Nat))(i:Nat)(acc:List Fp)(z:lM)(s:A8)(dst:Option Nat)(r:AV)(E:B4):Prop:=
 E.ok s.nx r=true/\NY cl i (E.use++E.kill) E.touch (E.touch++(r.nms++JC E.new)) acc=true/\z (⟨i,E.use++E.kill,E.touch,s.nx,E.cnt⟩::acc) (s.app dst r E)
def N6(P:Program)(V:D4)(cl:List (List Nat))(i:Nat)(acc:List Fp)(dst:Option Nat)(op:Op)(ty:TypeId)(z:lM)(s:A8):Prop:=
 step P V false s.tm (hget s.h) s.nx ty (cN cl i acc z s dst) op
def N0(dst:Option Nat)(acc:List Fp)(z:lM)(s:A8):Prop:=z acc (s.put dst (.im (.tup [])))
def Y8(P:Program)(V:D4)(cl:List (List Nat))(i:Nat)(acc:List Fp)(dst:Option Nat)(op:Op)(ty:TypeId)(z:Bool)(G:lM)(s:A8):Option Nat->Prop
 |some t=>Xx (some t) z s (N6 P V cl i acc dst op ty G) (N0 dst acc G) (A9 s.tm t)
 |none=>False
def yO(P:Program)(V:D4)(cl:List (List Nat))(i:Nat)(acc:List Fp)(dst:Option Nat)(op:Op)(ty:TypeId)(G:lM)(s:A8):Option (Option Nat×Bool)->Prop
 |none=>N6 P V cl i acc dst op ty G s
 |some (t,z)=>Y8 P V cl i acc dst op ty z G s t
def WD(P:Program)(V:D4)(cl:List (List Nat)):List SOp->Nat->(A8->Prop)->lM
 |[],_,K,_,s=>K s
 |⟨dst,op,ty,gd⟩::z,i,K,acc,s=>yO P V cl i acc dst op ty (WD P V cl z (i+1) K) s gd
def N8(K:A8->Prop)(Q:C4):C4
 | .normal,s=>K s
 | .exit i,s=>Q (.exit i) s
 | .ret,s=>Q .ret s
def Jx(i:Nat)(Q:C4)(s:A8):Bool->Prop
 |true=>Q .normal s
 |false=>Q (.exit i) s
def nH(id:Nat)(Q:C4):C4
 | .normal,s=>Q .normal s
 | .exit i,s=>Jx i Q s (i==id)
 | .ret,s=>Q .ret s
def vQ(A B:C4->A8->Prop)(Q:C4)(s:A8):AV->Prop
 | .im (.bool b)=>(b=true->A Q s)/\(b=false->B Q s)
 |_=>False
def GM(s:A8):List (Nat×AV)->Prop
 |[]=>True
 |(t,x)::r=>A9 s.tm t=x/\GM s r
def CQ(s:A8):Ar->Prop
 |[]=>True
 |(o,e)::r=>hget s.h o=some e/\CQ s r
def sub(s s':A8):Prop:=GM s s'.tm/\CQ s s'.h
def Df(n:Nat):List (Nat×AV)->Bool
 |[]=>true
 |(_,x)::r=>x.bel n && Df n r
def Cg(n:Nat):Ar->Bool
 |[]=>true
 |(m,_)::r=>Nat.blt m n && Cg n r
def A8.good(s:A8):Bool:=Df s.nx s.tm && (AB s.nx s.h && Cg s.nx s.h)
def pm:List (Nat×Option Nat)->Nat->Option Nat
 |[],n=>some n
 |(a,b)::r,n=>if a=n then b else pm r n
def jR:AV->Prop
 | .im (.sl true _ [])=>True
 |_=>False
def H2(x:AV):Option Nat->Prop
 |some m=>x= .own m
 |none=>jR x
def Hl(f:Nat->AV)(x:AV):Option Nat->Prop
 |some m=>x=f m
 |none=>False
mutual
def mt(π:List (Nat×Option Nat)):AV->AV->Prop
 | .any,_=>True
 | .im d,x=>x= .im d
 | .own n,x=>H2 x (pm π n)
 | .ptr n p,x=>Hl (λm=> .ptr m p) x (pm π n)
 | .eptr n i p,x=>Hl (λm=> .eptr m i p) x (pm π n)
 | .mp n,x=>Hl .mp x (pm π n)
 | .ch n,x=>Hl .ch x (pm π n)
 | .it n,x=>Hl .it x (pm π n)
 | .osl n a k,x=>Hl (λm=> .osl m a k) x (pm π n)
 | .agg z,.agg ds=>Es π z ds
 | .agg z,.im (.agg ds)=>Es π z (ds.map .im)
 | .agg _,_=>False
 | .tup _,_=>False
 | .clo _ _ _,_=>False
def Es(π:List (Nat×Option Nat)):List AV->List AV->Prop
 |[],[]=>True
 |x::r,y::s=>mt π x y/\Es π r s
 |[],_::_=>False
 |_::_,[]=>False
end
def GZ(π:List (Nat×Option Nat)):List (List AV)->List (List AV)->Prop
 |[],[]=>True
 |x::r,y::s=>Es π x y/\GZ π r s
 |[],_::_=>False
 |_::_,[]=>False
def Er(π:List (Nat×Option Nat)):Ah->Ah->Prop
 | .cells T G,.cells U ds=>T=U/\Es π G ds
 | .cells _ _,_=>False
 | .arr T k rows,.arr U k' z=>Ah.arr U k' z= .arr T k rows
 | .arr T k rows,.arrA U k' z=>T=U/\k=k'/\z=Bm rows
 | .arr _ _ _,.cells _ _=>False
 | .arr _ _ _,.map _ _=>False
 | .arr _ _ _,.chan _ _=>False
 | .arr _ _ _,.iter _ _=>False
 | .arr _ _ _,.view _=>False
 | .arrA T k rows,.arrA U k' z=>T=U/\k=k'/\GZ π rows z
 | .arrA T k rows,.arr U k' z=>T=U/\k=k'/\GZ π rows (Bm z)
 | .arrA _ _ _,.cells _ _=>False
 | .arrA _ _ _,.map _ _=>False
 | .arrA _ _ _,.chan _ _=>False
 | .arrA _ _ _,.iter _ _=>False
 | .arrA _ _ _,.view _=>False
 | .map Q O,e=>e= .map Q O
 | .chan q c,e=>e= .chan q c
 | .iter a l,e=>e= .iter a l
 | .view G,e=>e= .view G
def KS(π:List (Nat×Option Nat))(G:Bool)(e':Ah):Option Au->Prop
 |some (z,e)=>z=G/\Er π e' e
 |none=>False
def Ut:Bool->Ah->Prop
 |true,.arr _ _ []=>True
 |true,.arrA _ _ []=>True
 |_,_=>False
def Fa(s:A8)(π:List (Nat×Option Nat))(z:Bool)(e':Ah):Option Nat->Prop
 |some m=>KS π z e' (hget s.h m)
 |none=>Ut z e'
def RC(π:List (Nat×Option Nat))(s:A8):List (Nat×AV)->Prop
 |[]=>True
 |(t,x)::r=>mt π x (A9 s.tm t)/\RC π s r
def HC(π:List (Nat×Option Nat))(s:A8):Ar->Prop
 |[]=>True
 |(n,(z,e))::r=>Fa s π z e (pm π n)/\HC π s r
def W7(lo:Nat):List (Nat×Option Nat)->Prop
 |[]=>True
 |(a,_)::r=>lo<=a/\W7 lo r
def Pk(π:List (Nat×Option Nat)):Ar->List (Option Nat)
 |[]=>[]
 |(n,_)::r=>pm π n::Pk π r
def Fy:List (Option Nat)->Bool
 |[]=>true
 |none::r=>Fy r
 |some m::r=> !r.contains (some m) && Fy r
def Am(lo:Nat)(π:List (Nat×Option Nat))(s s':A8):Prop:=W7 lo π/\Fy (Pk π s'.h)=true/\RC π s s'.tm/\HC π s s'.h
def MK{β:Type}(I:β->A8)(μ:β->Nat)(b:β)(Q:C4):C4
 | .normal,s=> ∃b',μ b'<μ b/\sub s (I b')
 | .exit i,s=>Q (.exit i) s
 | .ret,s=>Q .ret s
def MJ{β:Type}(lo:Nat)(I:β->A8)(μ:β->Nat)(b:β)(Q:C4):C4
 | .normal,s=> ∃b' π,μ b'<μ b/\Am lo π s (I b')
 | .exit i,s=>Q (.exit i) s
 | .ret,s=>Q .ret s
def aZ(z:C4->A8->Prop)(Q:C4)(s:A8):Prop:=
 ∃(β:Type) (I:β->A8) (μ:β->Nat),(∀b,(I b).good=true/\s.nx<=(I b).nx)/\(∃b,sub s (I b))/\ ∀b,z (MK I μ b Q) (I b)
def Qsi(z:C4->A8->Prop)(Q:C4)(s:A8):Prop:=
 ∃(β:Type) (I:β->A8) (μ:β->Nat),(∀b,(I b).good=true/\s.nx<=(I b).nx)/\(∃b π,Am s.nx π s (I b))/\ ∀b,z (MJ s.nx I μ b Q) (I b)
def Ip(F:List Nat):Ar->Ar
 |[]=>[]
 |(n,(z,e))::r=>(n,(z && !F.contains n,e))::Ip F r
def Tc(F:List Nat)(s:A8):A8:=⟨s.tm,Ip F s.h,s.nx⟩
def WH(z:C4->A8->Prop)(Q:C4)(s:A8):Prop:= ∃F:List Nat,aZ z Q (Tc F s)
def Hy(n:Nat):Ah->AV
 | .arr _ w rows=> .im (.sl false w rows)
 | .cells _ _=> .own n
 | .arrA _ _ _=> .own n
 | .map _ _=> .own n
 | .chan _ _=> .own n
 | .iter _ _=> .own n
 | .view _=> .own n
def Lp(n:Nat):Option Au->AV
 |some e=>Hy n e.2
 |none=> .own n
def JJ(o p:Nat):Option (List D)->AV
 |some ds=> .im (.ref ds)
 |none=> .ptr o p
def FK(o p:Nat):Option Au->AV
 |some (_,.cells _ z)=>JJ o p (DP (z.drop p))
 |some (_,.arr _ _ _)=> .ptr o p
 |some (_,.arrA _ _ _)=> .ptr o p
 |some (_,.map _ _)=> .ptr o p
 |some (_,.chan _ _)=> .ptr o p
 |some (_,.iter _ _)=> .ptr o p
 |some (_,.view _)=> .ptr o p
 |none=> .ptr o p
mutual
def AV.fzA(F:List Nat)(H:Ar):AV->AV
 | .own n=>bif F.contains n then Lp n (hget H n) else .own n
 | .agg z=> .agg (DX F H z)
 | .any=> .any
 | .im d=> .im d
 | .tup z=> .tup z
 | .ptr o p=>bif F.contains o then (bif F.contains (o+4000000000) then FK o p (hget H o) else .ptr o p) else .ptr o p
 | .eptr o i p=> .eptr o i p
 | .mp o=> .mp o
 | .ch o=> .ch o
 | .it o=> .it o
 | .osl o a n=> .osl o a n
 | .clo f a c=> .clo f a c
def DX(F:List Nat)(H:Ar):List AV->List AV
 |[]=>[]
 |x::r=>x.fzA F H::DX F H r
end
def DY(F:List Nat)(H:Ar):List (List AV)->List (List AV)
 |[]=>[]
 |x::r=>DX F H x::DY F H r
def Ah.fzA(F:List Nat)(H:Ar):Ah->Ah
 | .cells T z=> .cells T (DX F H z)
 | .arrA T k rows=> .arrA T k (DY F H rows)
 | .arr T k rows=> .arr T k rows
 | .map O G=> .map O G
 | .chan q c=> .chan q c
 | .iter a l=> .iter a l
 | .view z=> .view z
def Ir(F:List Nat)(H:Ar):List (Nat×AV)->List (Nat×AV)
 |[]=>[]
 |(t,x)::r=>(t,x.fzA F H)::Ir F H r
def Iq(F:List Nat)(H:Ar):Ar->Ar
 |[]=>[]
 |(n,(z,e))::r=>(n,(z && !F.contains n,e.fzA F H))::Iq F H r
def Tf(F:List Nat)(s:A8):A8:=⟨Ir F s.h s.tm,Iq F s.h s.h,s.nx⟩
def MI{β:Type}(lo:Nat)(I:β->A8)(μ:β->Nat)(b:β)(Q:C4):C4
 | .normal,s=> ∃b' F π,μ b'<μ b/\Am lo π (Tf F s) (I b')
 | .exit i,s=>Q (.exit i) s
 | .ret,s=>Q .ret s
def Qsf(z:C4->A8->Prop)(Q:C4)(s:A8):Prop:=
 ∃(β:Type) (I:β->A8) (μ:β->Nat),(∀b,(I b).good=true/\s.nx<=(I b).nx)/\(∃b F π,Am s.nx π (Tf F s) (I b))/\ ∀b,z (MI s.nx I μ b Q) (I b)
def AZ(z:C4->A8->Prop)(Q:C4)(s:A8):Prop:=aZ z Q s\/Qsi z Q s\/WH z Q s\/Qsf z Q s
def AZ.frr{z:C4->A8->Prop}{Q:C4}{s:A8}(h:Qsf z Q s):AZ z Q s:=Or.inr (Or.inr (Or.inr h))
def AZ.old{z:C4->A8->Prop}{Q:C4}{s:A8}(h:aZ z Q s):AZ z Q s:=Or.inl h
def AZ.ren{z:C4->A8->Prop}{Q:C4}{s:A8}(h:Qsi z Q s):AZ z Q s:=Or.inr (Or.inl h)
def AZ.frz{z:C4->A8->Prop}{Q:C4}{s:A8}(F:List Nat)(h:aZ z Q (Tc F s)):AZ z Q s:=Or.inr (Or.inr (Or.inl ⟨F,h⟩))
def D6(P:Program)(V:D4):Code->C4->A8->Prop
 | .skip,Q,s=>Q .normal s
 | .region _ ops false,Q,s=>Lv P V (G4 ops ops.toList) (Q .normal) s
 | .region _ ops true,Q,s=>WD P V (Fq ops.toList []) (G4 ops ops.toList) 0 (Q .normal) [] s
 | .seq a b,Q,s=>D6 P V a (N8 (D6 P V b Q) Q) s
 | .cond c a b,Q,s=>vQ (D6 P V a) (D6 P V b) Q s (Aw s.tm c)
 | .block id c,Q,s=>D6 P V c (nH id Q) s
 | .loop c,Q,s=>AZ (D6 P V c) Q s
 | .exit id,Q,s=>Q (.exit id) s
 | .ret,Q,s=>Q .ret s
 |_,_,_=>False
end Go.Ae
