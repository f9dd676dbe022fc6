/- Lemmas. Conditions: none. -/
import Derived.Orders
import Derived.Below
import Derived.Laws.Sem
import Derived.Lib.ItoaNum
set_option linter.all false
set_option maxHeartbeats 8000000
set_option maxRecDepth 100000
namespace Go
def AJ:=@Option.some.inj
def AS:=@Option.some.injEq
def Bj:=@List.mem_of_getElem?
def Bk:=@List.getElem?_eq_getElem
def B1:=@Bool.and_eq_true
def BG:=@Option.getD_some
def Be:=@if_neg
def Bf:=@Option.some_beq_some
def Ah:=@List.mem_cons_of_mem
def BN:=@Nat.le_refl
def B0:=@List.mem_cons
def AU:=@List.mem_range
def Bi:=@List.getElem?_eq_some_iff
def Bt:=@if_pos
def CP:=@List.mem_cons_self
def Am:=@List.mem_singleton
def BR:=@List.length_append
def Br:=@List.map_cons
def BY:=@List.mem_map
def BZ:=@List.cons_append
def BO:=@List.mem_append
def BF:=@List.getD_cons_zero
def Cp:=@Int.toNat_natCast
def Bm:=@List.drop_eq_nil_of_le
def BE:=@List.take_of_length_le
def CA:=@List.getD_cons_succ
def Dw:=@cond_false
def Dx:=@Option.map_eq_some_iff
def Bo:=@List.getElem?_set_self
def Eb:=@List.length_take
def CF:=@List.all_eq_true
def Em:=@List.length_cons
def CK:=@decide_eq_true_eq
def BL:=@Bool.false_eq_true
def CM:=@List.length_drop
def CZ:=@Bool.true_and
def DL:=@List.getElem?_set_ne
def Dp:=@List.getElem?_map
def C3:=@List.append_nil
def E5:=@List.nil_append
def DG:=@Option.bind_eq_some_iff
def Da:=@Bool.false_and
def Dj:=@List.map_append
def Gk:=@List.append_assoc
def Db:=@List.getElem?_append_left
def D8:=@List.getElem?_append_right
def Ec:=@Array.getD_eq_getD_getElem?
def Ed:=@List.length_nil
def ER:=@List.getElem?_range
def HA:=@Array.length_toList
def Ir:=@Nat.zero_le
def IJ:=@cond_true
def Gl:=@List.map_nil
def Gu:=@Nat.le_trans
def CT:=@Option.map_some
def Ch:=@Classical.not_not
def ES:=@List.getElem?_cons_zero
def D2:=@List.not_mem_nil
def FW:=@List.drop_drop
def Iu:=@List.map_congr_left
def FM:=@Bool.not_eq_false
def ET:=@Nat.lt_of_lt_of_le
def Hk:=@Bool.eq_false_iff
def B6:=@Prod.mk.injEq
def Gv:=@List.getElem?_eq_none
def GU:=@decide_eq_false_iff_not
def E7:=@Option.bind_some
def GF:=@List.contains_iff_mem
def EU:=@List.length_set
def FX:=@beq_eq_false_iff_ne
def IL:=@List.getElem?_replicate
def JA:=@List.eq_of_mem_replicate
def Jg:=@Bool.and_true
def Iv:=@Nat.mul_le_mul_right
def Jh:=@decide_eq_false
def Lz:=@List.flatMap_cons
def Ff:=@if_true
def Mw:=@Nat.blt_eq
def Hi:=@Array.getElem?_eq_some_iff
def IK:=@Bool.or_eq_true
def E6:=@List.all_cons
def Su:=@List.getElem?_cons_succ
def HQ:=@Nat.add_mul
def HR:=@List.mem_append_left
def Ri:=@List.length_replicate
def FK:=@List.mem_flatMap
def Mv:=@List.drop_zero
def Dy:=@List.length_map
def Pi:=@Nat.lt_or_ge
def Je:=@Nat.zero_add
def HS:=@if_false
def D1:=@List.drop_eq_getElem_cons
def GR:=@List.mem_or_eq_of_mem_set
def GS:=@List.map_map
def Xh:=@List.mem_append_right
def Xi:=@List.range_succ
def Hj:=@List.nodup_append
def Rj:=@Nat.add_assoc
def Jf:=@Nat.ble_eq
def Ly:=@and_self
def HT:=@List.take_append_drop
def FL:=@List.take_add_one
def Pj:=@List.take_length
def Sv:=@List.drop_succ_cons
def Mx:=@List.take_succ_cons
def L4:=@Nat.min_le_right
def Rk:=@List.length_eq_zero_iff
def E8:=@Array.getElem?_eq_getElem
def My:=@decide_eq_true
def YJ:=@Array.getElem?_setIfInBounds
def eH:=@Array.getElem?_eq_none
def K6:=@List.sum_cons
def K7:=@beq_self_eq_true
def lB:=@Bool.not_eq_true'
def YK:=@Array.getElem?_toList
def JB:=@List.mem_iff_getElem?
def Pl:=@Nat.one_mul
def Rl:=@or_false
def YL:=@Nat.sub_self
def YM:=@Array.getElem?_replicate
def Iw:=@Bool.eq_iff_iff
def Fu:=@List.foldl_cons
def JC:=@List.range_zero
def lC:=@Nat.add_zero
def Rm:=@List.getElem_mem
def Rn:=@List.ext_getElem?
def Ro:=@List.length_range
def K8:=@List.contains_cons
def Sz:=@List.zipWith_cons_cons
def Xo:=@List.nodup_cons
def Xj:=@Array.toList_map
def YF:=@Bool.or_false
def kQ:=@List.drop_append
def Sw:=@List.eq_nil_of_length_eq_zero
def Xk:=@List.flatMap_append
def Pk:=@ByteArray.size_append
def Xl:=@List.contains_nil
def zK:=@List.length_singleton
def Xm:=@Bool.not_false
def eF:=@List.take_zero
def kV:=@Int.le_refl
def YG:=@List.cons.injEq
def kW:=@List.mem_iff_getElem
def Sx:=@List.any_eq_true
def L0:=@List.flatMap_nil
def Xn:=@Classical.epsilon_spec
def L2:=@List.all_append
def kX:=@Nat.le_of_ble_eq_true
def YH:=@List.set_cons_zero
def rD:=@Option.isSome_none
def YI:=@beq_iff_eq
def rE:=@Array.toList_inj
def kZ:=@Ne.symm
def lA:=@Option.some_beq_none
def L3:=@List.filter_cons_of_neg
def eG:=@congrArg
def GG:=@List.map_set
def zP:=@List.length_reverse
def Ix:=@Int.tmod_eq_emod_of_nonneg
def S5:=@List.nodup_range
def rK:=@Array.getElem?_append
def Dv:=@Bool.false_or
def lF:=@List.getElem?_drop
def zQ:=@List.set_append_right
def YN:=@List.set_cons_succ
def rL:=@Nat.eq_zero_or_pos
def zR:=@Bool.and_false
def rM:=@List.mem_filter
def rN:=@forall_eq
def eI:=@List.drop_append_of_le_length
def lG:=@Bool.or_true
def Mz:=@List.getElem?_toArray
def Pg:=@Bool.and_self
def eJ:=@List.foldl_append
def Ph:=@List.take_add
def lH:=@Nat.lt_trichotomy
def zS:=@Array.toList_setIfInBounds
def lI:=@Int.tdiv_eq_ediv_of_nonneg
def zT:=@List.mem_of_mem_take
def M1:=@List.foldl_nil
def Z7:=@Nat.mul_le_mul
def kN:=@Bool.not_eq_true
def ZdA:=@List.filter_eq_self
def rF:=@List.length_pos_iff
def rG:=@List.map_eq_nil_iff
def zL:=@Array.size_setIfInBounds
def Gj:=@Bool.true_or
def J9:=@List.all_nil
def Mu:=@Nat.zero_mul
def YB:=@Bool.not_true
def kM:=@Int.natCast_mul
def lD:=@List.find?_eq_none
def lE:=@List.find?_some
def rH:=@List.pairwise_cons
def zM:=@Nat.add_sub_cancel_left
def YC:=@Nat.lt_irrefl
def zN:=@Nat.not_lt_zero
def ZdP:=@Option.toList_some
def ZdQ:=@List.length_eq_one_iff
def rJ:=@List.zipWith_nil_right
def zO:=@Array.toList_push
def ZdT:=@not_false_eq_true
def ZdU:=@Bool.and_eq_false_iff
def ZdV:=@Int.mul_le_mul_of_nonneg_right
def YD:=@Nat.add_comm
def YE:=@Nat.sub_zero
def ZdY:=@forall_eq_or_imp
def ZdZ:=@List.range_eq_range'
def rO:=@Array.toList_append
def rP:=@Array.toList_modify
def Zec:=@List.find?_cons
def Zed:=@List.mem_map_of_mem
def Zee:=@List.replicate_succ
def Zef:=@List.toList_toArray
def Zeg:=@Nat.mul_le_mul_left
def FJ:=@and_assoc
def Zei:=@Array.getElem?_append_left
def Zej:=@Int.fdiv_eq_ediv_of_nonneg
def Zek:=@List.exists_cons_of_ne_nil
def eL:=@List.nodup_iff_pairwise_ne
def Zem:=@List.perm_append_singleton
def Zen:=@Array.ext_getElem?
def Zeo:=@Array.toList_range
def Zep:=@List.getElem?_take
def Zeq:=@List.getElem_range
def lJ:=@Nat.succ_mul
def Zes:=@Array.mapM_eq_mapM_toList
def Zet:=@Bool.and_assoc
def Zeu:=@List.isEmpty_eq_false_iff
def zV:=@List.mem_of_find?_eq_some
def Zew:=@List.size_toArray
def Zex:=@Option.isSome_iff_exists
def Zey:=@List.all_eq_not_any_not
def Zez:=@List.append_cancel_left
def ZeA:=@List.eraseIdx_cons_succ
def ZeB:=@List.eraseIdx_cons_zero
def ZeC:=@List.filter_cons_of_pos
def kO:=@Nat.le_succ
def ZeE:=@BitVec.toNat_and
def ZeF:=@Bool.cond_eq_ite
def ZeG:=@Nat.le_add_right
def zU:=@Array.mem_of_getElem?
def ZeI:=@List.eraseIdx_sublist
def ZeJ:=@List.getElem?_reverse
def ZeK:=@List.head?_cons
def ZeL:=@List.length_filter_le
def ZeM:=@List.set_set
def ZeN:=@List.sum_nil
def ZeO:=@Nat.le_of_eq
def ZeP:=@Nat.le_total
def ZeQ:=@Nat.min_eq_left
def ZeR:=@decide_false
def Pv:=@ite_self
def ZeT:=@Array.toList_extract
def ZeU:=@Bool.or_eq_false_iff
def ZeV:=@List.mem_of_mem_drop
def ZeW:=@List.Perm.refl
def ZeX:=@List.drop_take
def ZeY:=@List.cons.inj
def ZeZ:=@List.drop_nil
def Zfa:=@List.take_nil
def eE:=@true_and
def Zfc:=@Array.ext'
def Rg:=@eq_true
def lK:=@and_true
def Rh:=@not_or
end Go
namespace Go.Ae
abbrev Cz:=List Int
abbrev MM:=ByteArray
abbrev LVa:=List Value
def auOm{p:Prop}(h:p:=by omega):p:=h
def auDe{p:Prop}(h:p:=by decide):p:=h
def auSi{p:Prop}(h:p:=by simp):p:=h
def isG(_:Nat):Bool:=false
def oP:Array Value:=(Lib.pow10Tab.map λz=>Value.int .u64 z).toArray
def GP(ok:Nat->Prop)(hp:Nat->Option Obj):Prop:=ok 0/\ ∃T z,hp 0=some (.cells oP T z)
def GP.tab{ok:Nat->Prop}{hp:Nat->Option Obj}(h:GP ok hp):ok 0/\ ∃T z,hp 0=some (.cells oP T z):=h
def GP.mono{ok ok':Nat->Prop}{hp hp':Nat->Option Obj}(h: ∀b o,ok b->hp b=some o->ok' b/\hp' b=some o)(hg:GP ok hp):GP ok' hp':=by
 obtain⟨z,T,Q,O⟩:=hg;exact⟨(h _ _ z O).1,T,Q,(h _ _ z O).2⟩
def GP.at{ok:Nat->Prop}{hp:Nat->Option Obj}(_:GP ok hp){g:Nat}(hg:isG g=true):ok g/\ ∃t x T z,hp g=some (.cells #[.iface t x] T z):=by cases hg
end Go.Ae
namespace Go.Ae
inductive KK where
 |int (k:IntKind)
 |str
 |bool
 deriving DecidableEq
structure KT where
 agg:Bool
 ks:List KK
 deriving DecidableEq
inductive D where
 |int (k:IntKind) (n:Int)
 |bool (b:Bool)
 |str (s:MM)
 |nilp|nilf|nili|nilc|nilm
 |agg (cs:List D)
 |tup (cs:List D)
 |sl (nz:Bool) (k:Nat) (rows:List (List D))
 |ref (cs:List D)
 |mp (kt:KT) (es:List (D×D))
 |fn (f:FuncId) (first capt:List D)
 |ifc (t:TypeId) (d:D)
 |gp (g:Nat)
 |tok (g:Nat)
def KK.fit:KK->D->Bool
 | .int k,.int k' _=>k==k'
 | .str,.str _=>true
 | .bool,.bool _=>true
 |_,_=>false
def BH:List KK->List D->Bool
 |[],[]=>true
 |k::ks,d::ds=>k.fit d && BH ks ds
 |_,_=>false
def KT.fit(z:KT)(d:D):Bool:=
 match z.agg,d with
 |true,.agg ds=>BH z.ks ds
 |false,d=>BH z.ks [d]
 |_,_=>false
def KN:Nat:=140737488355328
def eV(f:Nat):Fn:=if f<1000000000 then .func f else .yield (f - 1000000000)
def xX{f:Nat}(h:f<1000000000):eV f= .func f:=Bt h
def slM(nz:Bool)(v:Value):Prop:=v= .slice none 0 0\/(nz=false/\ ∃a,v= .slice (some a) 0 0)
def xV{nz:Bool}{v:Value}(h:slM nz v): ∃z,v= .slice z 0 0:=by
 rcases h with rfl|⟨_,a,rfl⟩<;>exact⟨_,rfl⟩
def Qr7{v:Value}(h:slM true v):v= .slice none 0 0:=by
 rcases h with rfl|⟨h,_⟩
 .rfl
 .cases h
def Qt{nz:Bool}{v:Value}(h:slM nz v):slM false v:=by
 rcases h with rfl|⟨_,a,rfl⟩
 .exact .inl rfl
 .exact .inr ⟨rfl,a,rfl⟩
mutual
def rd(ok:Nat->Prop)(hp:Nat->Option Obj):D->Value->Prop
 | .int k n,v=>v= .int k n
 | .bool b,v=>v= .bool b
 | .str s,v=>v= .string s
 | .nilp,v=>v= .pointer none
 | .nilf,v=>v= .nilFunc
 | .nili,v=>v= .nilIface
 | .nilc,v=>v= .chan none
 | .nilm,v=>v= .map none
 | .agg Z,v=> ∃Q:Array Value,v= .agg Q/\rdl ok hp Z Q.toList
 | .tup Z,v=> ∃Q:Array Value,v= .tuple Q/\rdl ok hp Z Q.toList
 | .sl nz k rows,v=>(slM nz v/\rows=[])\/
  ∃b p cap Q T fr,v= .slice (some ⟨b,p,none⟩) rows.length cap/\(nz=true->rows≠[])/\rows.length<=cap/\rows.length<=KN/\ok b/\
   hp b=some (.cells Q T fr)/\rdr ok hp k rows (Q.toList.drop p)
 | .ref Z,v=> ∃b p Q T fr,v= .pointer (some ⟨b,p,none⟩)/\ok b/\hp b=some (.cells Q T fr)/\rdp ok hp Z (Q.toList.drop p)
 | .mp kt es,v=> ∃b z O,v= .map (some b)/\(∀e∈es,kt.fit e.1=true)/\ok b/\hp b=some (.map z O)/\Dh ok hp es z.toList/\(z.toList.map (·.born)).Nodup/\ ∀e∈z.toList,e.born<O
 | .fn f first capt,v=> ∃a c:Array Value,v= .func (eV f) a c/\rdl ok hp first a.toList/\rdl ok hp capt c.toList
 | .ifc t d,v=> ∃x,v= .iface t x/\rd ok hp d x
 | .gp g,v=>v= .pointer (some ⟨g,0,none⟩)
 | .tok g,v=>ok g/\(∃t x,v= .iface t x)/\ ∃T fr,hp g=some (.cells #[v] T fr)
def rdl(ok:Nat->Prop)(hp:Nat->Option Obj):List D->LVa->Prop
 |[],z=>z=[]
 |d::ds,z=> ∃v r,z=v::r/\rd ok hp d v/\rdl ok hp ds r
def rdp(ok:Nat->Prop)(hp:Nat->Option Obj):List D->LVa->Prop
 |[],_=>True
 |d::ds,z=> ∃v r,z=v::r/\rd ok hp d v/\rdp ok hp ds r
def rdr(ok:Nat->Prop)(hp:Nat->Option Obj)(k:Nat):List (List D)->LVa->Prop
 |[],_=>True
 |r::O,z=>r.length=k/\rdp ok hp r z/\rdr ok hp k O (z.drop k)
def Dh(ok:Nat->Prop)(hp:Nat->Option Obj):List (D×D)->List MapEntry->Prop
 |[],z=>z=[]
 |(x,y)::ds,z=> ∃e r,z=e::r/\rd ok hp x e.key/\rd ok hp y e.val/\Dh ok hp ds r
end
section mono
variable {ok ok':Nat->Prop}{hp hp':Nat->Option Obj}
mutual
def HK(h: ∀b,ok b->ok' b/\hp' b=hp b): ∀(d:D) (v:Value),rd ok hp d v->rd ok' hp' d v
 | .int _ _,_,hd=>by simpa only[rd] using hd
 | .bool _,_,hd=>by simpa only[rd] using hd
 | .str _,_,hd=>by simpa only[rd] using hd
 | .nilp,_,hd=>by simpa only[rd] using hd
 | .nilf,_,hd=>by simpa only[rd] using hd
 | .nili,_,hd=>by simpa only[rd] using hd
 | .nilc,_,hd=>by simpa only[rd] using hd
 | .nilm,_,hd=>by simpa only[rd] using hd
 | .gp _,_,hd=>by simpa only[rd] using hd
 | .tok g,v,hd=>by
   simp only[rd] at hd⊢;obtain⟨z,h3,T,fr,h2⟩:=hd;exact⟨(h g z).1,h3,T,fr,(h g z).2.trans h2⟩
 | .agg cs,v,hd=>by
   simp only[rd] at hd⊢;obtain⟨Z,rfl,z⟩:=hd;exact⟨Z,rfl,Ml h cs _ z⟩
 | .tup cs,v,hd=>by
   simp only[rd] at hd⊢;obtain⟨Z,rfl,z⟩:=hd;exact⟨Z,rfl,Ml h cs _ z⟩
 | .sl nz k rows,v,hd=>by
   simp only[rd] at hd⊢;rcases hd with hd|⟨b,p,cap,Z,T,fr,rfl,z,h2,h3,O,h5,h6⟩
   .exact .inl hd
   .exact .inr ⟨b,p,cap,Z,T,fr,rfl,z,h2,h3,(h b O).1,(h b O).2.trans h5,dD h k rows _ h6⟩
 | .ref cs,v,hd=>by
   simp only[rd] at hd⊢;obtain⟨b,p,Z,T,fr,rfl,O,h5,h6⟩:=hd;exact⟨b,p,Z,T,fr,rfl,(h b O).1,(h b O).2.trans h5,WQ h cs _ h6⟩
 | .mp kt es,v,hd=>by
   simp only[rd] at hd⊢;obtain⟨b,aa,Q,rfl,h3,O,h5,h6,h7⟩:=hd;exact⟨b,aa,Q,rfl,h3,(h b O).1,(h b O).2.trans h5,Mj h es _ h6,h7⟩
 | .fn f first capt,v,hd=>by
   simp only[rd] at hd⊢;obtain⟨a,c,rfl,z,h2⟩:=hd;exact⟨a,c,rfl,Ml h first _ z,Ml h capt _ h2⟩
 | .ifc t d,v,hd=>by
   simp only[rd] at hd⊢;obtain⟨x,rfl,z⟩:=hd;exact⟨x,rfl,HK h d _ z⟩
def Ml(h: ∀b,ok b->ok' b/\hp' b=hp b): ∀(ds:List D) (vs:LVa),rdl ok hp ds vs->rdl ok' hp' ds vs
 |[],_,hd=>by simpa only[rdl] using hd
 |d::ds,vs,hd=>by
  simp only[rdl] at hd⊢;obtain⟨v,r,rfl,z,O⟩:=hd;exact⟨v,r,rfl,HK h d v z,Ml h ds r O⟩
def WQ(h: ∀b,ok b->ok' b/\hp' b=hp b): ∀(ds:List D) (vs:LVa),rdp ok hp ds vs->rdp ok' hp' ds vs
 |[],_,_=>by simp only[rdp]
 |d::ds,vs,hd=>by
  simp only[rdp] at hd⊢;obtain⟨v,r,rfl,z,O⟩:=hd;exact⟨v,r,rfl,HK h d v z,WQ h ds r O⟩
def dD(h: ∀b,ok b->ok' b/\hp' b=hp b)(k:Nat): ∀(z:List (List D)) (vs:LVa),rdr ok hp k z vs->rdr ok' hp' k z vs
 |[],_,_=>by simp only[rdr]
 |r::z,vs,hd=>by
  simp only[rdr] at hd⊢;exact⟨hd.1,WQ h r vs hd.2.1,dD h k z _ hd.2.2⟩
def Mj(h: ∀b,ok b->ok' b/\hp' b=hp b): ∀(ds:List (D×D)) (es:List MapEntry),Dh ok hp ds es->Dh ok' hp' ds es
 |[],_,hd=>by simpa only[Dh] using hd
 |(x,y)::ds,es,hd=>by
  simp only[Dh] at hd⊢;obtain⟨e,r,rfl,z,O,Q⟩:=hd;exact⟨e,r,rfl,HK h x _ z,HK h y _ O,Mj h ds r Q⟩
end
end mono
def D.sc:D->Bool
 | .int _ _| .bool _| .str _| .nilp| .nilf| .nili| .nilc| .nilm=>true
 | .sl true _ []=>true
 |_=>false
def D.scs:D->Bool
 | .agg z| .tup z=>z.all D.sc
 |d=>d.sc
def El{ok ok':Nat->Prop}{hp hp':Nat->Option Obj}: ∀{d:D} {v:Value},d.sc=true->rd ok hp d v->rd ok' hp' d v:=by
 intro d v h hd;cases d
 case sl nz k rows=>
  cases nz<;>cases rows<;>simp only[D.sc,BL] at h;simp only[rd] at hd⊢;rcases hd with hd|⟨b,p,cap,Q,T,O,_,z,_⟩
  .exact .inl hd
  .exact absurd rfl (z trivial)
 all_goals simp_all [D.sc,rd]
def Vm{ok ok':Nat->Prop}{hp hp':Nat->Option Obj}: ∀(ds:List D) (vs:LVa),ds.all D.sc=true->rdl ok hp ds vs->rdl ok' hp' ds vs
 |[],_,_,hd=>by simpa only[rdl] using hd
 |d::ds,vs,h,hd=>by
  simp only[rdl,E6,B1] at hd h⊢;obtain⟨v,r,rfl,z,O⟩:=hd;exact⟨v,r,rfl,El h.1 z,Vm ds r h.2 O⟩
def XR{ok ok':Nat->Prop}{hp hp':Nat->Option Obj}: ∀{d:D} {v:Value},d.scs=true->rd ok hp d v->rd ok' hp' d v:=by
 intro d v h hd;cases d<;>simp only[D.scs] at h<;>try exact El h hd
 all_goals
  simp only[rd] at hd⊢;obtain⟨O,rfl,z⟩:=hd;exact⟨O,rfl,Vm _ _ h z⟩
inductive AV where
 |any
 |im (d:D)
 |agg (cs:List AV)
 |tup (cs:List AV)
 |ptr (o off:Nat)
 |eptr (o i off:Nat)
 |own (o:Nat)
 |mp (o:Nat)
 |ch (o:Nat)
 |it (o:Nat)
 |osl (o a n:Nat)
 |clo (f:FuncId) (first capt:List AV)
 deriving Inhabited
inductive Ad where
 |cells (T:TypeId) (cs:List AV)
 |arr (T:TypeId) (k:Nat) (rows:List (List D))
 |arrA (T:TypeId) (k:Nat) (rows:List (List AV))
 |map (kt:KT) (es:List (D×D))
 |chan (q:List D) (cap:Nat)
 |iter (last:Option (D×D)) (left:List (D×D))
 |view (cs:List D)
def Ad.isView:Ad->Bool
 | .view _=>true
 | .cells _ _| .arr _ _ _| .arrA _ _ _| .map _ _| .chan _ _| .iter _ _=>false
abbrev Ap:=Bool×Ad
abbrev An:=List (Nat×Ap)
abbrev HpT:=Nat->Option Ap
abbrev TmT:=List (Nat×AV)
structure GI where
 b:Nat
 p:Nat
 cap:Nat
structure AD where
 ρ:Nat->Option GI
 ok:Nat->Prop
 h:HpT
 w:World
def AD.hp(S:AD):Nat->Option Obj:=λb=>S.w.heap[b]?
def Ad.len:Ad->Nat
 | .arr _ _ rows=>rows.length
 | .arrA _ _ rows=>rows.length
 |_=>0
def Ad.esz:Ad->Nat
 | .arr _ k _=>k
 | .arrA _ k _=>k
 |_=>0
def QU(r:Option GI)(z len a n:Nat)(v:Value):Prop:=match r with
 |none=>v= .slice none 0 0/\n=0
 |some l=> ∃p O,v= .slice (some ⟨l.b,p,none⟩) n O/\n<=O/\(n≠0->p=l.p+a*z)/\a+n<=len
mutual
def Ab(S:AD):AV->Value->Prop
 | .any,_=>True
 | .im d,v=>rd S.ok S.hp d v
 | .agg O,v=> ∃z:Array Value,v= .agg z/\AX S O z.toList
 | .tup O,v=> ∃z:Array Value,v= .tuple z/\AX S O z.toList
 | .ptr o off,v=>v.oneCell'=true/\ ∀e,S.h o=some e-> ∃l,S.ρ o=some l/\v= .pointer (some ⟨l.b,l.p+off,none⟩)
 | .eptr o i off,v=>v.oneCell'=true/\ ∀e,S.h o=some e-> ∃l,S.ρ o=some l/\v= .pointer (some ⟨l.b,l.p+i*e.2.esz+off,none⟩)
 | .own o,v=>v.oneCell'=true/\ ∀e,S.h o=some e->match S.ρ o with
  |none=>v= .slice none 0 0
  |some l=>v= .slice (some ⟨l.b,l.p,none⟩) e.2.len l.cap
 | .mp o,v=>v.oneCell'=true/\ ∀e,S.h o=some e-> ∃l,S.ρ o=some l/\v= .map (some l.b)
 | .ch o,v=>v.oneCell'=true/\ ∀e,S.h o=some e-> ∃l,S.ρ o=some l/\v= .chan (some l.b)
 | .it o,v=>v.oneCell'=true/\ ∀e,S.h o=some e-> ∃l,S.ρ o=some l/\v= .pointer (some ⟨l.b,0,none⟩)
 | .osl o a n,v=>v.oneCell'=true/\ ∀e,S.h o=some e->QU (S.ρ o) e.2.esz e.2.len a n v
 | .clo f first capt,v=> ∃a c:Array Value,v= .func (eV f) a c/\AX S first a.toList/\AX S capt c.toList
def AX(S:AD):List AV->LVa->Prop
 |[],z=>z=[]
 |x::xs,z=> ∃v r,z=v::r/\Ab S x v/\AX S xs r
end
def CO(S:AD):List AV->LVa->Prop
 |[],_=>True
 |x::xs,z=> ∃v r,z=v::r/\Ab S x v/\CO S xs r
def BQ(S:AD)(k:Nat):List (List AV)->LVa->Prop
 |[],_=>True
 |r::O,z=>r.length=k/\CO S r z/\BQ S k O (z.drop k)
def Uj(ok:Nat->Prop)(hp:Nat->Option Obj)(z:Array MapEntry)(O:Array Nat):Option (D×D)->Prop
 |none=>True
 |some (x,y)=> ∃st e,O.back? =some st/\z.find? (·.born==st)=some e/\rd ok hp x e.key/\rd ok hp y e.val
def Au(S:AD)(l:Option GI):Ad->Prop
 | .cells T cs=> ∃Q Z,l=some Q/\Q.p=0/\S.hp Q.b=some (.cells Z T (0,0))/\AX S cs Z.toList
 | .arr T k rows=>rows.length<=KN/\match l with
  |none=>rows=[]
  |some Q=>rows.length<=Q.cap/\ ∃Z,S.hp Q.b=some (.cells Z T (0,0))/\Q.p+Q.cap*k<=Z.size/\rdr S.ok S.hp k rows (Z.toList.drop Q.p)
 | .arrA T k rows=>rows.length<=KN/\match l with
  |none=>rows=[]
  |some Q=>rows.length<=Q.cap/\ ∃Z,S.hp Q.b=some (.cells Z T (0,0))/\Q.p+Q.cap*k<=Z.size/\BQ S k rows (Z.toList.drop Q.p)
 | .map kt es=> ∃Q z O,l=some Q/\(∀e∈es,kt.fit e.1=true)/\S.hp Q.b=some (.map z O)/\Dh S.ok S.hp es z.toList/\
  (z.toList.map (·.born)).Nodup/\ ∀e∈z.toList,e.born<O
 | .chan q cap=> ∃Q ab af ad,l=some Q/\S.hp Q.b=some (.chan cap ab false af ad false)/\rdl S.ok S.hp q ab.toList
 | .iter ac left=> ∃Q mb z O aa,l=some Q/\S.ok mb/\Uj S.ok S.hp z aa ac/\S.hp mb=some (.map z O)/\
  S.hp Q.b=some (.mapIter (some mb) O aa O)/\(z.toList.map (·.born)).Nodup/\(∀e∈z.toList,e.born<O)/\
  Dh S.ok S.hp left (z.toList.filter λe=> !aa.contains e.born)
 | .view cs=> ∃Q Z T fr,l=some Q/\S.hp Q.b=some (.cells Z T fr)/\rdp S.ok S.hp cs (Z.toList.drop Q.p)
structure Bn where
 w:World
 M:Nat->Prop
 ok:Nat->Prop
 n0:Nat
 h0:HpT
 ρ0:Nat->Option GI
 ds:List Deferred
def Bn.mk0(w:World)(M ok:Nat->Prop):Bn:=⟨w,M,ok,0,λ_=>none,λ_=>none,[]⟩
def Bn.Pre(C:Bn)(S:AD):Prop:= ∀o,o<C.n0-> ∀e',S.h o=some e'-> ∃e,C.h0 o=some e/\S.ρ o=C.ρ0 o/\e'.2.esz=e.2.esz/\e'.2.len=e.2.len
structure Wf(C:Bn)(S:AD):Prop where
 os:S.w.os=C.w.os
 tape:S.w.tape=C.w.tape
 output:S.w.output=C.w.output
 dr:C.w.drawn<=S.w.drawn
 size:C.w.heap.size<=S.w.heap.size
 keep: ∀b,b<C.w.heap.size-> ¬C.M b->S.w.heap[b]? =C.w.heap[b]?
 ok0: ∀b,C.ok b->S.ok b
 ok1: ∀b,S.ok b->C.ok b\/C.w.heap.size<=b\/C.M b
 oks: ∀b,S.ok b->b<S.w.heap.size
 obj: ∀o e,S.h o=some e->Au S (S.ρ o) e.2
 loc: ∀o e l,S.h o=some e->S.ρ o=some l->l.b<S.w.heap.size/\if e.1 then ¬S.ok l.b/\(C.w.heap.size<=l.b\/C.M l.b) else S.ok l.b\/e.2.isView=true
 inj: ∀o o' e e' l l',S.h o=some e->S.h o'=some e'->S.ρ o=some l->S.ρ o'=some l'->l.b=l'.b->(e.1||e'.1)=true->o=o'
 gl:GP (λb=>C.ok b/\ ¬C.M b) (λb=>C.w.heap[b]?)
def Wf.gp{C:Bn}{S:AD}(h:Wf C S):GP S.ok S.hp:=by
 refine h.gl.mono λb o O z=>⟨h.ok0 b O.1,?_⟩
 have Q:b<C.w.heap.size:=by
  apply Classical.byContradiction;intro hn
  have:C.w.heap[b]? =none:=eH auOm
  rw[this] at z;cases z
 exact (h.keep b Q O.2).trans z
def Wf.glN{C:Bn}{S:AD}(h:Wf C S){M:Nat->Prop}(O: ∀b,M b-> ¬S.ok b):GP (λb=>S.ok b/\ ¬M b) (λb=>S.w.heap[b]?):=
 h.gp.mono λb _ z Q=>⟨⟨z,λhm=>O b hm z⟩,Q⟩
mutual
def AV.bel(n:Nat):AV->Bool
 | .any=>true
 | .im _=>true
 | .agg z=>A9 n z
 | .tup z=>A9 n z
 | .ptr o _=>Nat.blt o n
 | .eptr o _ _=>Nat.blt o n
 | .own o=>Nat.blt o n
 | .mp o=>Nat.blt o n
 | .ch o=>Nat.blt o n
 | .it o=>Nat.blt o n
 | .osl o _ _=>Nat.blt o n
 | .clo _ a c=>A9 n a && A9 n c
def A9(n:Nat):List AV->Bool
 |[]=>true
 |x::r=>x.bel n && A9 n r
end
mutual
def AV.nms:AV->List Nat
 | .any=>[]
 | .im _=>[]
 | .agg z=>Av z
 | .tup z=>Av z
 | .ptr o _=>[o]
 | .eptr o _ _=>[o]
 | .own o=>[o]
 | .mp o=>[o]
 | .ch o=>[o]
 | .it o=>[o]
 | .osl o _ _=>[o]
 | .clo _ a c=>Av a++Av c
def Av:List AV->List Nat
 |[]=>[]
 |x::r=>x.nms++Av r
end
def BI:List (List AV)->List Nat
 |[]=>[]
 |x::r=>Av x++BI r
def Ad.nms:Ad->List Nat
 | .cells _ z=>Av z
 | .arr _ _ _=>[]
 | .arrA _ _ rows=>BI rows
 | .map _ _=>[]
 | .chan _ _=>[]
 | .iter _ _=>[]
 | .view _=>[]
structure Ck(X:Nat->Prop)(S S':AD):Prop where
 ok: ∀b,S.ok b->S'.ok b/\S'.hp b=S.hp b
 nm: ∀o,X o-> ∀e',S'.h o=some e'-> ∃e,S.h o=some e/\S'.ρ o=S.ρ o/\e'.2.esz=e.2.esz/\e'.2.len=e.2.len
def Ck.refl(X:Nat->Prop)(S:AD):Ck X S S:=⟨λ_ h=>⟨h,rfl⟩,λ_ _ e' h=>⟨e',h,rfl,rfl,rfl⟩⟩
section
variable {X:Nat->Prop}{S S':AD}
mutual
def J0(hp:Ck X S S'): ∀(x:AV) (v:Value),(∀o∈x.nms,X o)->Ab S x v->Ab S' x v
 | .any,_,_,_=>by simp only[Ab]
 | .im d,v,_,h=>by
   simp only[Ab] at h⊢;exact HK hp.ok d v h
 | .agg cs,v,O,h=>by
   simp only[Ab,AV.nms] at h O⊢;obtain⟨vs,rfl,h1⟩:=h;exact⟨vs,rfl,WJ hp cs _ O h1⟩
 | .tup cs,v,O,h=>by
   simp only[Ab,AV.nms] at h O⊢;obtain⟨vs,rfl,h1⟩:=h;exact⟨vs,rfl,WJ hp cs _ O h1⟩
 | .ptr o off,v,O,h=>by
   simp only[Ab,AV.nms,Am,rN] at h O⊢;obtain⟨z,h⟩:=h;refine⟨z,?_⟩;intro e' Q;obtain⟨e,Z,hr,_,_⟩:=hp.nm o O e' Q;rw[hr];exact h e Z
 | .eptr o i off,v,O,h=>by
   simp only[Ab,AV.nms,Am,rN] at h O⊢;obtain⟨z,h⟩:=h;refine⟨z,?_⟩;intro e' Q;obtain⟨e,Z,hr,hz,_⟩:=hp.nm o O e' Q;rw[hr,hz];exact h e Z
 | .own o,v,O,h=>by
   simp only[Ab,AV.nms,Am,rN] at h O⊢;obtain⟨z,h⟩:=h;refine⟨z,?_⟩;intro e' Q;obtain⟨e,Z,hr,_,hl⟩:=hp.nm o O e' Q;rw[hr,hl];exact h e Z
 | .mp o,v,O,h=>by
   simp only[Ab,AV.nms,Am,rN] at h O⊢;obtain⟨z,h⟩:=h;refine⟨z,?_⟩;intro e' Q;obtain⟨e,Z,hr,_,_⟩:=hp.nm o O e' Q;rw[hr];exact h e Z
 | .ch o,v,O,h=>by
   simp only[Ab,AV.nms,Am,rN] at h O⊢;obtain⟨z,h⟩:=h;refine⟨z,?_⟩;intro e' Q;obtain⟨e,Z,hr,_,_⟩:=hp.nm o O e' Q;rw[hr];exact h e Z
 | .it o,v,O,h=>by
   simp only[Ab,AV.nms,Am,rN] at h O⊢;obtain⟨z,h⟩:=h;refine⟨z,?_⟩;intro e' Q;obtain⟨e,Z,hr,_,_⟩:=hp.nm o O e' Q;rw[hr];exact h e Z
 | .osl o a n,v,O,h=>by
   simp only[Ab,AV.nms,Am,rN] at h O⊢;obtain⟨z,h⟩:=h;refine⟨z,?_⟩;intro e' Q;obtain⟨e,Z,hr,hz,hl⟩:=hp.nm o O e' Q;rw[hr,hz,hl];exact h e Z
 | .clo f fi ca,v,O,h=>by
   simp only[Ab,AV.nms,BO] at h O⊢;obtain⟨a,c,rfl,h1,h2⟩:=h;exact⟨a,c,rfl,WJ hp fi _ (λo ho=>O o (.inl ho)) h1,WJ hp ca _ (λo ho=>O o (.inr ho)) h2⟩
def WJ(hp:Ck X S S'): ∀(xs:List AV) (vs:LVa),(∀o∈Av xs,X o)->AX S xs vs->AX S' xs vs
 |[],_,_,h=>by simpa only[AX] using h
 |x::xs,vs,O,h=>by
  simp only[AX,Av,BO] at h O⊢;obtain⟨v,r,rfl,Q,Z⟩:=h;exact⟨v,r,rfl,J0 hp x v (λo z=>O o (.inl z)) Q,WJ hp xs r (λo z=>O o (.inr z)) Z⟩
end
def Qq7(hp:Ck X S S'): ∀(xs:List AV) (vs:LVa),(∀o∈Av xs,X o)->CO S xs vs->CO S' xs vs
 |[],_,_,_=>by simp only[CO]
 |x::xs,vs,O,h=>by
  simp only[CO,Av,BO] at h O⊢;obtain⟨v,r,rfl,Q,Z⟩:=h;exact⟨v,r,rfl,J0 hp x v (λo z=>O o (.inl z)) Q,Qq7 hp xs r (λo z=>O o (.inr z)) Z⟩
def wL(hp:Ck X S S')(k:Nat): ∀(z:List (List AV)) (vs:LVa),(∀o∈BI z,X o)->BQ S k z vs->BQ S' k z vs
 |[],_,_,_=>by simp only[BQ]
 |r::z,vs,Q,h=>by
  simp only[BQ,BI,BO] at h Q⊢;exact⟨h.1,Qq7 hp r vs (λo O=>Q o (.inl O)) h.2.1,wL hp k z _ (λo O=>Q o (.inr O)) h.2.2⟩
def Qly{ok ok':Nat->Prop}{hp hp':Nat->Option Obj}(h: ∀b,ok b->ok' b/\hp' b=hp b){z:Array MapEntry}{O:Array Nat}: ∀(l:Option (D×D)),Uj ok hp z O l->Uj ok' hp' z O l
 |none,_=>trivial
 |some (x,y),Q=>by
  obtain⟨st,e,a,b,c,d⟩:=Q;exact⟨st,e,a,b,HK h x _ c,HK h y _ d⟩
def Im(hp:Ck X S S'){l:Option GI}(hl: ∀z,l=some z->S'.hp z.b=S.hp z.b): ∀(e:Ad),(∀o∈e.nms,X o)->Au S l e->Au S' l e
 | .cells T cs,hx,h=>by
   simp only[Au,Ad.nms] at h hx⊢;obtain⟨z,vs,O,Z,h3,h4⟩:=h;exact⟨z,vs,O,Z,(hl z O).trans h3,WJ hp cs _ hx h4⟩
 | .arr T k rows,hx,h=>by
   simp only[Au] at h⊢;refine⟨h.1,?_⟩;cases l with
   |none=>exact h.2
   |some z=>
    obtain⟨h0,O,vs,Z,h3,h4⟩:=h;exact⟨O,vs,(hl z rfl).trans Z,h3,dD hp.ok k rows _ h4⟩
 | .arrA T k rows,hx,h=>by
   simp only[Au,Ad.nms] at h hx⊢;refine⟨h.1,?_⟩;cases l with
   |none=>exact h.2
   |some z=>
    obtain⟨h0,O,vs,Z,h3,h4⟩:=h;exact⟨O,vs,(hl z rfl).trans Z,h3,wL hp k rows _ hx h4⟩
 | .map kt es,_,h=>by
   simp only[Au] at h⊢;obtain⟨z,aa,Q,O,h0,Z,h3,h4⟩:=h;exact⟨z,aa,Q,O,h0,(hl z O).trans Z,Mj hp.ok es _ h3,h4⟩
 | .chan q cap,_,h=>by
   simp only[Au] at h⊢;obtain⟨z,ag,af,ac,O,Z,h3⟩:=h;exact⟨z,ag,af,ac,O,(hl z O).trans Z,Ml hp.ok q _ h3⟩
 | .iter ab left,_,h=>by
   simp only[Au] at h⊢;obtain⟨z,mb,aa,Q,ad,O,Z,h0,h3,h4,h5,h6,h7⟩:=h;exact⟨z,mb,aa,Q,ad,O,(hp.ok mb Z).1,Qly hp.ok ab h0,(hp.ok mb Z).2.trans h3,(hl z O).trans h4,h5,h6,Mj hp.ok left _ h7⟩
 | .view cs,_,h=>by
   simp only[Au] at h⊢;obtain⟨z,vs,T,fr,O,Z,h3⟩:=h;exact⟨z,vs,T,fr,O,(hl z O).trans Z,WQ hp.ok cs _ h3⟩
end
inductive TK where
 |bool
 |str
 |ptr (e:TypeId)
 |int (k:IntKind)
 |slice (e:TypeId)
 |array (n:Nat) (e:TypeId)
 |struct (fs:List (Nat×Nat))
 |map (k e:TypeId)
 |other
structure TI where
 size:Nat
 bytes:Nat
 agg:Bool
 kind:TK
 zero:List D
def zD:Value->D
 | .bool b=> .bool b
 | .int k n=> .int k n
 | .string s=> .str s
 | .pointer none=> .nilp
 | .slice none _ _=> .sl true 0 []
 | .map none=> .nilm
 | .chan none=> .nilc
 | .nilFunc=> .nilf
 |_=> .nili
def fY:Value->Bool
 | .bool _| .int _ _| .string _| .pointer none| .slice none 0 0| .map none| .chan none| .nilFunc| .nilIface=>true
 |_=>false
def zOf:Bool->Option Value->List D
 |true,some (.agg z)=>bif z.toList.all fY then z.toList.map zD else []
 |false,some v=>bif fY v then [zD v] else []
 |_,_=>[]
def Pm:TypeDesc->Bool
 | .struct _| .array _ _=>true
 |_=>false
def G1(P:Program):TypeDesc->TK
 | .int k=> .int k
 | .slice e=> .slice e
 | .array n e=> .array n e
 | .struct z=>bif z.toList.all (λf=>(P.info? f.type).isSome) then .struct (z.toList.map λf=>(f.offset,((P.info? f.type).map (·.size)).getD 0)) else .other
 | .map k e=> .map k e
 | .bool=> .bool
 | .string=> .str
 | .pointer e=> .ptr e
 |_=> .other
def tI(P:Program)(t:TypeId):Option TI:=
 match P.info? t,P.underlying t with
 |some i,some u=>some {size:=i.size,bytes:=i.bytes,agg:=Pm u,kind:=G1 P u,zero:=zOf (Pm u) i.zero}
 |_,_=>none
structure BA where
 use:List Nat:=[]
 kill:List Nat:=[]
 new:An:=[]
 cnt:Nat:=0
structure Az where
 tm:TmT
 h:An
 nx:Nat
def AF:TmT->Nat->AV
 |[],_=> .any
 |(m,x)::r,n=>bif m==n then x else AF r n
def hget:An->HpT
 |[],_=>none
 |(m,e)::r,n=>bif m==n then some e else hget r n
def Bp:An->List Nat->An
 |[],_=>[]
 |(m,e)::r,ks=>bif ks.contains m then Bp r ks else (m,e)::Bp r ks
def Az.put(s:Az)(dst:Option Nat)(x:AV):Az:=
 match dst with
 |some d=>⟨(d,x)::s.tm,s.h,s.nx⟩
 |none=>s
def Az.app(s:Az)(dst:Option Nat)(r:AV)(E:BA):Az:=
 (⟨s.tm,E.new++Bp s.h E.kill,s.nx+E.cnt⟩:Az).put dst r
def kD:Value->AV
 | .bool b=> .im (.bool b)
 | .int k n=> .im (.int k n)
 | .string s=> .im (.str s)
 | .pointer none=> .im .nilp
 | .slice none 0 0=> .im (.sl true 0 [])
 | .map none=> .im .nilm
 | .chan none=> .im .nilc
 | .nilFunc=> .im .nilf
 | .nilIface=> .im .nili
 |_=> .any
def Ay(tm:TmT):Operand->AV
 | .tmp t=>AF tm t
 | .const v=>kD v
 | .global g=> .im (.gp g)
 | .func f=>bif Nat.blt f 1000000000 then .im (.fn f [] []) else .any
def D.cells:D->List D
 | .agg ds=>ds
 | .int k n=>[.int k n]
 | .bool b=>[.bool b]
 | .str s=>[.str s]
 | .nilp=>[.nilp]
 | .nilf=>[.nilf]
 | .nili=>[.nili]
 | .nilc=>[.nilc]
 | .nilm=>[.nilm]
 | .tup z=>[.tup z]
 | .sl Z k rows=>[.sl Z k rows]
 | .ref z=>[.ref z]
 | .mp Q O=>[.mp Q O]
 | .fn f a c=>[.fn f a c]
 | .ifc t d=>[.ifc t d]
 | .gp g=>[.gp g]
 | .tok g=>[.tok g]
def AV.cells:AV->List AV
 | .im d=>d.cells.map .im
 | .agg z=>z
 | .any=>[]
 | .tup z=>[.tup z]
 | .ptr o p=>[.ptr o p]
 | .eptr o i p=>[.eptr o i p]
 | .own o=>[.own o]
 | .mp o=>[.mp o]
 | .ch o=>[.ch o]
 | .it o=>[.it o]
 | .osl o a n=>[.osl o a n]
 | .clo f a c=>[.clo f a c]
def D.one:D->Bool
 | .agg _| .tup _=>false
 | .int _ _| .bool _| .str _| .nilp| .nilf| .nili| .nilc| .nilm| .sl _ _ _| .ref _| .mp _ _| .fn _ _ _| .ifc _ _| .gp _| .tok _=>true
def AV.one:AV->Bool
 | .im d=>d.one
 | .agg _| .any| .tup _=>false
 | .ptr _ _| .eptr _ _ _| .own _| .mp _| .ch _| .it _| .osl _ _ _| .clo _ _ _=>true
def Si:List AV->Bool
 |[]=>true
 |x::r=>x.one && Si r
def AV.asD:AV->Option D
 | .im d=>some d
 | .agg _| .any| .tup _| .ptr _ _| .eptr _ _ _| .own _| .mp _| .ch _| .it _| .osl _ _ _| .clo _ _ _=>none
def Pb:Option D->Option (List D)->Option (List D)
 |some d,some ds=>some (d::ds)
 |some _,none=>none
 |none,_=>none
def Ea:List AV->Option (List D)
 |[]=>some []
 |x::r=>Pb x.asD (Ea r)
def ZO(cs:List AV):Option (List D)->AV
 |some ds=> .im (.agg ds)
 |none=> .agg cs
def hdV:List AV->AV
 |[]=> .any
 |x::_=>x
def rZ:List D->D
 |[]=> .nilp
 |x::_=>x
def mN(agg:Bool)(cs:List AV):AV:=
 bif agg then ZO cs (Ea cs) else hdV cs
def fK(agg:Bool)(ds:List D):D:=bif agg then .agg ds else rZ ds
def C6{α:Type}(l:List α)(off:Nat)(x:List α):List α:=l.take off++x++l.drop (off+x.length)
abbrev Al:=AV->BA->Prop
mutual
def D.beq:D->D->Bool
 | .int _ a,.int _ b=>a==b
 | .bool a,.bool b=>a==b
 | .str a,.str b=>a==b
 | .agg a,.agg b=>D.beql a b
 |_,_=>false
def D.beql:List D->List D->Bool
 |[],[]=>true
 |a::r,b::s=>D.beq a b && D.beql r s
 |_,_=>false
end
def lk:List (D×D)->D->Option D
 |[],_=>none
 |(k,v)::r,x=>bif D.beq x k then some v else lk r x
def Fq:List (D×D)->D->D->List (D×D)
 |[],x,y=>[(x,y)]
 |(k,v)::r,x,y=>bif D.beq x k then (x,y)::r else (k,v)::Fq r x y
def MH:List (D×D)->D->List (D×D)
 |[],_=>[]
 |(k,v)::r,x=>bif D.beq x k then r else (k,v)::MH r x
def dW(P:Program)(go:TypeId->Option KT):List Field->Nat->Option (List KK)
 |[],_=>some []
 |f::O,off=>
  match go f.type,P.info? f.type with
  |some z,some i=>
   bif f.offset==off && (f.name != "_" && i.size==z.ks.length) then (dW P go O (off+z.ks.length)).map (z.ks++ ·) else none
  |_,_=>none
def EC(P:Program):Nat->TypeId->Option KT
 |0,_=>none
 |n+1,t=>
  match P.underlying t with
  |some (.int k)=>some ⟨false,[.int k]⟩
  |some .string=>some ⟨false,[.str]⟩
  |some .bool=>some ⟨false,[.bool]⟩
  |some (.struct z)=>bif P.stoodInHeld t then none else (dW P (EC P n) z.toList 0).map (⟨true,·⟩)
  |_=>none
def Cn(P:Program)(t:TypeId):Option KT:=EC P 5 t
def K4{α:Type}(rows:List (List α))(i:Nat)(K:List α->Prop):Prop:= ∀row,rows[i]? =some row->K row
def Jq(es:List (D×D))(kd:D)(Ks:D->Prop)(Kn:Prop):Prop:=(∀v,lk es kd=some v->Ks v)/\(lk es kd=none->Kn)
def jX(ti:TI)(off:Nat)(E:BA)(K:Al)(row:List D):Prop:=(ti.agg=true\/ti.size=1)/\off+ti.size<=row.length/\K (.im (fK ti.agg ((row.drop off).take ti.size))) E
def yW(ti:TI)(off:Nat)(E:BA)(K:Al)(row:List AV):Prop:=(ti.agg=true\/ti.size=1)/\off+ti.size<=row.length/\K (mN ti.agg ((row.drop off).take ti.size)) E
def JU(ti:TI)(o off:Nat)(K:Al):Option Ap->Prop
 |some (_,.cells _ z)=>yW ti off {use:=[o]} K z
 |some (_,.view z)=>jX ti off {use:=[o]} K z
 |_=>False
def JT(ti:TI)(o i off:Nat)(K:Al):Option Ap->Prop
 |some (_,.arr _ _ rows)=>i<rows.length/\K4 rows i (jX ti off {use:=[o]} K)
 |some (_,.arrA _ _ rows)=>i<rows.length/\K4 rows i (yW ti off {use:=[o]} K)
 |_=>False
def Y3(h:HpT)(ti:TI)(K:Al):AV->Prop
 | .im (.ref z)=>jX ti 0 {} K z
 | .im (.gp g)=>isG g=true/\ti.size=1/\ti.agg=false/\K (.im (.tok g)) {}
 | .ptr o off=>JU ti o off K (h o)
 | .eptr o i off=>JT ti o i off K (h o)
 |_=>False
def ZD(o i off k z:Nat)(T:TypeId)(rows:List (List D))(K:Al)(row:List D):Option (List D)->Prop
 |some ds=>off+z<=row.length/\K .any {use:=[o],kill:=[o],new:=[(o,(true,.arr T k (rows.set i (C6 row off ds))))]}
 |none=>False
def Qxz(o i off k z:Nat)(T:TypeId)(rows:List (List D))(ds:Option (List D))(K:Al)(row:List D):Prop:=ZD o i off k z T rows K row ds
def Qyo(o i off k z:Nat)(T:TypeId)(rows:List (List AV))(vs:List AV)(K:Al)(row:List AV):Prop:=
 off+z<=row.length/\K .any {use:=[o],kill:=[o],new:=[(o,(true,.arrA T k (rows.set i (C6 row off vs))))]}
def VO(ti:TI)(o off:Nat)(vs:List AV)(K:Al):Option Ap->Prop
 |some (true,.cells T z)=>off+ti.size<=z.length/\K .any {use:=[o],kill:=[o],new:=[(o,(true,.cells T (C6 z off vs)))]}
 |_=>False
def Kj(ti:TI)(o i off:Nat)(vs:List AV)(K:Al):Option Ap->Prop
 |some (true,.arr T k rows)=>i<rows.length/\K4 rows i (Qxz o i off k ti.size T rows (Ea vs) K)
 |some (true,.arrA T k rows)=>i<rows.length/\K4 rows i (Qyo o i off k ti.size T rows vs K)
 |_=>False
def wP(h:HpT)(ti:TI)(vs:List AV)(K:Al):AV->Prop
 | .ptr o off=>VO ti o off vs K (h o)
 | .eptr o i off=>Kj ti o i off vs K (h o)
 |_=>False
def Qri(h:HpT)(x v:AV)(K:Al)(ti:TI):Prop:=
 ti.size≠0/\v.cells.length=ti.size/\Si v.cells=true/\wP h ti v.cells K x
def S7(o:Nat)(x:AV)(K:Al):Option Ap->Prop
 |some _=>K x {use:=[o]}
 |none=>False
def LD(h:HpT)(off:Nat)(K:Al):AV->Prop
 | .im (.ref z)=>off<=z.length/\K (.im (.ref (z.drop off))) {}
 | .ptr o p=>S7 o (.ptr o (p+off)) K (h o)
 | .eptr o i p=>S7 o (.eptr o i (p+off)) K (h o)
 |_=>False
def Zr(h:HpT)(x:AV)(K:Al):Option (Nat×Nat)->Prop
 |some (off,z)=>z≠0/\LD h off K x
 |none=>False
def faK(h:HpT)(x:AV)(f:Nat)(K:Al):TK->Prop
 | .struct z=>Zr h x K z[f]?
 |_=>False
def Qhg(h:HpT)(x:AV)(f:Nat)(K:Al)(ti:TI):Prop:=faK h x f K ti.kind
def kRef(K:Al)(row:List D):Prop:=K (.im (.ref row)) {}
def Nc(o:Nat)(n:Int)(K:Al)(z:TI):Option Ap->Prop
 |some (_,.arr _ k rows)=>k=z.size/\0<=n/\n<(rows.length:Int)/\K (.eptr o n.toNat 0) {use:=[o]}
 |some (_,.arrA _ k rows)=>k=z.size/\0<=n/\n<(rows.length:Int)/\K (.eptr o n.toNat 0) {use:=[o]}
 |_=>False
def TW(o a m:Nat)(n:Int)(K:Al)(z:TI):Option Ap->Prop
 |some (_,.arr _ k rows)=>k=z.size/\0<=n/\n<(m:Int)/\a+m<=rows.length/\K (.eptr o (a+n.toNat) 0) {use:=[o]}
 |_=>False
def TV(h:HpT)(n:Int)(K:Al)(x:AV)(z:TI):Prop:=
 match x with
 | .im (.sl _ k rows)=>k=z.size/\0<=n/\n<(rows.length:Int)/\K4 rows n.toNat (kRef K)
 | .own o=>Nc o n K z (h o)
 | .osl o a m=>TW o a m n K z (h o)
 |_=>False
def Nb(h:HpT)(m:Nat)(n:Int)(K:Al)(x:AV)(z:TI):Prop:=
 match x with
 | .ptr o p=>0<=n/\n<(m:Int)/\S7 o (.ptr o (p+n.toNat*z.size)) K (h o)
 | .im (.ref O)=>0<=n/\n<(m:Int)/\n.toNat*z.size<=O.length/\K (.im (.ref (O.drop (n.toNat*z.size)))) {}
 |_=>False
def Bz(f:TI->Prop):Option TI->Prop
 |some ti=>f ti
 |none=>False
def iaK(P:Program)(h:HpT)(x:AV)(n:Int)(K:Al):TK->Prop
 | .slice e=>Bz (TV h n K x) (tI P e)
 | .array m e=>Bz (Nb h m n K x) (tI P e)
 |_=>False
def Qjp(P:Program)(h:HpT)(x:AV)(ti:TI)(K:Al):AV->Prop
 | .im (.int _ n)=>iaK P h x n K ti.kind
 |_=>False
def Uf(m:Nat)(n:Int)(cs:List D)(K:Al)(z:TI):Prop:=
 (z.agg=true\/z.size=1)/\0<=n/\n<(m:Int)/\n.toNat*z.size+z.size<=cs.length/\K (.im (fK z.agg ((cs.drop (n.toNat*z.size)).take z.size))) {}
def fZ(s:MM)(i:Nat)(K:UInt8->Prop):Prop:= ∀c,s.data[i]? =some c->K c
def kCh(K:Al)(c:UInt8):Prop:=K (.im (.int .u8 c.toNat)) {}
def ixK(P:Program)(n:Int)(K:Al):TK->AV->Prop
 | .array m e,.im (.agg z)=>Bz (Uf m n z K) (tI P e)
 | .str,.im (.str s)=>0<=n/\n<(s.size:Int)/\fZ s n.toNat (kCh K)
 |_,_=>False
def Qxc(P:Program)(x:AV)(ti:TI)(K:Al):AV->Prop
 | .im (.int _ n)=>ixK P n K ti.kind x
 |_=>False
def HC:BinOp->Nat
 | .shr=>1
 | .shl=>2
 | .add| .sub| .mul| .quo| .rem| .and| .or| .xor| .andNot| .eql| .neq| .lss| .leq| .gtr| .geq=>0
def Dz(k:IntKind)(a b:Int):Int:=k.wrap ((BitVec.ofInt k.bits a &&& BitVec.ofInt k.bits b).toNat:Int)
def orI(k:IntKind)(a b:Int):Int:=k.wrap ((BitVec.ofInt k.bits a|||BitVec.ofInt k.bits b).toNat:Int)
def xorI(k:IntKind)(a b:Int):Int:=k.wrap ((BitVec.ofInt k.bits a^^^BitVec.ofInt k.bits b).toNat:Int)
def J4(op:BinOp)(k:IntKind)(a b:Int)(K:Al):Prop:=
 match op with
 | .add=>K (.im (.int k (k.wrap (a+b)))) {}
 | .sub=>K (.im (.int k (k.wrap (a - b)))) {}
 | .mul=>K (.im (.int k (k.wrap (a*b)))) {}
 | .quo=>b≠0/\K (.im (.int k (k.wrap (a.tdiv b)))) {}
 | .rem=>b≠0/\K (.im (.int k (a.tmod b))) {}
 | .eql=>K (.im (.bool (decide (a=b)))) {}
 | .neq=>K (.im (.bool (!decide (a=b)))) {}
 | .lss=>K (.im (.bool (decide (a<b)))) {}
 | .leq=>K (.im (.bool (decide (a<=b)))) {}
 | .gtr=>K (.im (.bool (decide (b<a)))) {}
 | .geq=>K (.im (.bool (decide (b<=a)))) {}
 | .and=>K (.im (.int k (Dz k a b))) {}
 | .or=>K (.im (.int k (orI k a b))) {}
 | .xor=>K (.im (.int k (xorI k a b))) {}
 |_=>False
def eQ(neg:Bool)(K:Al)(b:Bool):Prop:=K (.im (.bool (neg !=b))) {}
def Tu(neg:Bool)(K:Al):AV->Prop
 | .im (.sl true _ rows)=>eQ neg K rows.isEmpty
 |_=>False
def yM(h:HpT)(neg:Bool)(K:Al):AV->Prop
 | .im .nilp=>eQ neg K true
 | .im (.ref _)=>eQ neg K false
 | .ptr o _=>S7 o (.im (.bool neg)) K (h o)
 | .eptr o _ _=>S7 o (.im (.bool neg)) K (h o)
 |_=>False
def X1(h:HpT)(neg:Bool)(K:Al):AV->Prop
 | .im .nilm=>eQ neg K true
 | .im (.mp _ _)=>eQ neg K false
 | .mp o=>S7 o (.im (.bool neg)) K (h o)
 |_=>False
def Yz(h:HpT)(neg:Bool)(K:Al)(x:AV):Nat->TK->Prop
 |0,.slice _=>Tu neg K x
 |1,.ptr _=>yM h neg K x
 |2,.map _ _=>X1 h neg K x
 |_,_=>False
def OD(op:BinOp)(a b:MM)(K:Al):Prop:=
 match op with
 | .eql=>K (.im (.bool (decide (a=b)))) {}
 | .neq=>K (.im (.bool (!decide (a=b)))) {}
 | .add=>a.size+b.size<=9223372036854775807/\K (.im (.str (a++b))) {}
 |_=>False
def Km(op:BinOp)(a b:Bool)(K:Al):Prop:=
 match op with
 | .eql=>K (.im (.bool (a==b))) {}
 | .neq=>K (.im (.bool (a !=b))) {}
 |_=>False
def Ob(op:BinOp)(a b:Bool)(K:Al):Option TI->Prop
 |some ti=>ti.kind= .bool/\Km op a b K
 |none=>False
def xY(op:BinOp)(a b:List D)(K:Al):Prop:=
 match op with
 | .eql=>K (.im (.bool (D.beql a b))) {}
 | .neq=>K (.im (.bool (!D.beql a b))) {}
 |_=>False
def xU(P:Program)(T:TypeId)(op:BinOp)(a b:List D)(K:Al):Option KT->Prop
 |some z=>z.fit (.agg a)=true/\z.fit (.agg b)=true/\P.eqGuardType P.depth T=false/\xY op a b K
 |none=>False
def dN(op:BinOp)(k:IntKind)(a:Int)(k':IntKind)(b:Int)(K:Al):Nat->Prop
 |0=>k=k'/\J4 op k a b K
 |1=>0<=b/\K (.im (.int k (a.fdiv (2^min b.toNat k.bits)))) {}
 |_+2=>0<=b/\K (.im (.int k (k.wrap (a*2^min b.toNat k.bits)))) {}
def kE(P:Program)(T:TypeId)(op:BinOp)(K:Al):AV->AV->Prop
 | .im (.int k a),.im (.int k' b)=>dN op k a k' b K (HC op)
 | .im (.str a),.im (.str b)=>OD op a b K
 | .im (.bool a),.im (.bool b)=>Ob op a b K (tI P T)
 | .im (.agg a),.im (.agg b)=>xU P T op a b K (Cn P T)
 |_,_=>False
def bT(K:Al):UnOp->AV->Prop
 | .not,.im (.bool b)=>K (.im (.bool (!b))) {}
 | .neg,.im (.int k n)=>K (.im (.int k (k.wrap (-n)))) {}
 |_,_=>False
def dU(cells:List AV)(vs:List AV):Option (Nat×Nat)->Option (List AV)
 |none=>none
 |some (off,size)=>bif vs.length==size && (Nat.blt 0 size && Nat.ble (off+size) cells.length) then some (C6 cells off vs) else none
def IF(place:Nat->Option (Nat×Nat)):TmT->Option (List AV)->Option (List AV)
 |[],r=>r
 |_::_,none=>none
 |(i,v)::z,some cells=>IF place z (dU cells v.cells (place i))
def Kc(k i:Nat):Option (Nat×Nat):=some (i*k,k)
def NE(z:List (Nat×Nat))(i:Nat):Option (Nat×Nat):=z[i]?
def O8(K:Al):Option (List AV)->Prop
 |some z=>K (mN true z) {}
 |none=>False
def SG(Q:List AV)(z:TmT)(K:Al)(O:TI):Prop:=O8 K (IF (Kc O.size) z (some Q))
def zF(P:Program)(O:List AV)(z:TmT)(K:Al):TK->Prop
 | .struct Q=>O8 K (IF (NE Q) z (some O))
 | .array _ e=>Bz (SG O z K) (tI P e)
 |_=>False
def Qsy(P:Program)(z:TmT)(K:Al)(ti:TI):Prop:=ti.zero.length=ti.size/\ti.size≠0/\zF P (ti.zero.map .im) z K ti.kind
def IZ{α:Type}(k:Nat):Nat->List α->List (List α)
 |0,_=>[]
 |n+1,l=>l.take k::IZ k n (l.drop k)
def C9{α:Type}:Nat->List α->List α
 |0,_=>[]
 |n+1,z=>z++C9 n z
def JG(nx len e k:Nat)(cs:List AV)(K:Al):Option (List D)->Prop
 |some ds=>K (.own nx) {new:=[(nx,(true,.arr e k (IZ k len ds)))],cnt:=1}
 |none=>K (.own nx) {new:=[(nx,(true,.arrA e k (IZ k len cs)))],cnt:=1}
def M9(nx len e k:Nat)(K:Al):Option (List AV)->Prop
 |some z=>JG nx len e k z K (Ea z)
 |none=>False
def bsE(nx len e:Nat)(z:TmT)(K:Al)(O:TI):Prop:=
 O.zero.length=O.size/\O.size≠0/\len*O.size<=16777216/\M9 nx len e O.size K (IF (Kc O.size) z (some (C9 len (O.zero.map .im))))
def bsK(P:Program)(nx len:Nat)(z:TmT)(K:Al):TK->Prop
 | .slice e=>Bz (bsE nx len e z K) (tI P e)
 |_=>False
def Qfp(P:Program)(nx len:Nat)(z:TmT)(K:Al)(ti:TI):Prop:=bsK P nx len z K ti.kind
def msE(nx e:Nat)(n m:Int)(K:Al)(z:TI):Prop:=
 z.size≠0/\0<=n/\n<=m/\m<=1073741824/\z.bytes<=65536/\z.zero.length=z.size/\
  K (.own nx) {new:=[(nx,(true,.arr e z.size (List.replicate n.toNat z.zero)))],cnt:=1}
def msK(P:Program)(nx:Nat)(K:Al):TK->AV->AV->Prop
 | .slice e,.im (.int .i64 n),.im (.int .i64 m)=>Bz (msE nx e n m K) (tI P e)
 |_,_,_=>False
def Qhl(P:Program)(nx:Nat)(l c:AV)(K:Al)(ti:TI):Prop:=msK P nx K ti.kind l c
inductive Src where
 |d (u:List Nat) (k:Nat) (rows:List (List D))
 |a (u:List Nat) (k:Nat) (rows:List (List AV))
 |no
def dQ(o:Nat):Option Ap->Src
 |some (_,.arr _ k rows)=> .d [o] k rows
 |some (_,.arrA _ k rows)=> .a [o] k rows
 |_=> .no
def Kp(s:MM):List (List D):=s.data.toList.map λb=>[.int .u8 b.toNat]
def DE(h:HpT):AV->Src
 | .im (.sl _ k rows)=> .d [] k rows
 | .im (.str s)=> .d [] 1 (Kp s)
 | .own o=>dQ o (h o)
 |_=> .no
def Bw(rows:List (List D)):List (List AV):=rows.map λr=>r.map .im
def Ee:List D->Bool
 |[]=>true
 |x::r=>x.one && Ee r
def DI{α:Type}(f:List α->Bool)(rows:List (List α)):Prop:= ∀row∈rows,f row=true
def Src.okOne:Src->Prop
 | .d _ _ rows=>DI Ee rows
 | .a _ _ rows=>DI Si rows
 | .no=>False
def O5(nx e:Nat)(z:TI)(K:Al):Src->Prop
 | .d u k rows=>(k=z.size\/rows=[])/\(rows.length+512)*z.bytes<=140737488355328/\K (.own nx) {use:=u,new:=[(nx,(true,.arr e z.size rows))],cnt:=1}
 | .a u k rows=>k=z.size/\(rows.length+512)*z.bytes<=140737488355328/\K (.own nx) {use:=u,kill:=u,new:=[(nx,(true,.arrA e z.size rows))],cnt:=1}
 | .no=>False
def rR(nx e o:Nat)(z:TI)(rows0:List (List D))(K:Al):Src->Prop
 | .d u k rows=>(k=z.size\/rows=[])/\u≠[o]/\(rows0.length+rows.length+512)*z.bytes<=140737488355328/\
  K (.own nx) {use:=o::u,kill:=[o],new:=[(nx,(true,.arr e z.size (rows0++rows)))],cnt:=1}
 | .a u k rows=>k=z.size/\u≠[o]/\(rows0.length+rows.length+512)*z.bytes<=140737488355328/\
  K (.own nx) {use:=o::u,kill:=o::u,new:=[(nx,(true,.arrA e z.size (Bw rows0++rows)))],cnt:=1}
 | .no=>False
def rQ(nx e o:Nat)(z:TI)(rows0:List (List AV))(K:Al):Src->Prop
 | .d u k rows=>(k=z.size\/rows=[])/\u≠[o]/\(rows0.length+rows.length+512)*z.bytes<=140737488355328/\
  K (.own nx) {use:=o::u,kill:=[o],new:=[(nx,(true,.arrA e z.size (rows0++Bw rows)))],cnt:=1}
 | .a u k rows=>k=z.size/\u≠[o]/\(rows0.length+rows.length+512)*z.bytes<=140737488355328/\
  K (.own nx) {use:=o::u,kill:=o::u,new:=[(nx,(true,.arrA e z.size (rows0++rows)))],cnt:=1}
 | .no=>False
def JD(nx e o:Nat)(O:TI)(src:Src)(K:Al):Option Ap->Prop
 |some (true,.arr T k z)=>T=e/\k=O.size/\rR nx e o O z K src
 |some (true,.arrA T k z)=>T=e/\k=O.size/\rQ nx e o O z K src
 |_=>False
def S9(h:HpT)(nx e:Nat)(z:TI)(src:Src)(K:Al):AV->Prop
 | .im (.sl true _ [])=>O5 nx e z K src
 | .own o=>JD nx e o z src K (h o)
 |_=>False
def apE(h:HpT)(nx e:Nat)(s:AV)(src:Src)(K:Al)(z:TI):Prop:=
 z.size≠0/\z.zero.length=z.size/\z.bytes≠0/\src.okOne/\S9 h nx e z src K s
def apK(P:Program)(h:HpT)(nx:Nat)(s:AV)(src:Src)(K:Al):TK->Prop
 | .slice e=>Bz (apE h nx e s src K) (tI P e)
 |_=>False
def Qsl(P:Program)(h:HpT)(nx:Nat)(s x:AV)(K:Al)(ti:TI):Prop:=apK P h nx s (DE h x) K ti.kind
def GY(K:Al)(E:BA)(n:Nat):Prop:=K (.im (.int .i64 n)) E
def Qxr(z:Bool)(o:Nat)(K:Al):Option Ap->Prop
 |some (_,.arr _ _ rows)=>(z=true->rows.length<=140737488355328)->GY K {use:=[o]} rows.length
 |some (_,.arrA _ _ rows)=>(z=true->rows.length<=140737488355328)->GY K {use:=[o]} rows.length
 |_=>False
def Nm(o:Nat)(K:Al):Option Ap->Prop
 |some (_,.map _ z)=>GY K {use:=[o]} z.length
 |_=>False
def mK(o n:Nat)(K:Al):Option Ap->Prop
 |some _=>GY K {use:=[o]} n
 |none=>False
def kA(z:Bool)(h:HpT)(K:Al):AV->Prop
 | .osl o _ n=>mK o n K (h o)
 | .im (.sl _ _ rows)=>(z=true->rows.length<=140737488355328)->GY K {} rows.length
 | .own o=>Qxr z o K (h o)
 |_=>False
def Uk(K:Al):AV->Prop
 | .im (.str s)=>GY K {} s.size
 |_=>False
def yS(h:HpT)(K:Al):AV->Prop
 | .im (.mp _ z)=>GY K {} z.length
 | .im .nilm=>GY K {} 0
 | .mp o=>Nm o K (h o)
 |_=>False
def Gx(z:Bool)(h:HpT)(K:Al)(x:AV):TK->Prop
 | .slice _=>kA z h K x
 | .str=>Uk K x
 | .map _ _=>yS h K x
 | .bool| .ptr _| .int _| .array _ _| .struct _| .other=>False
def kK(z:Bool)(h:HpT)(x:AV)(K:Al)(ti:TI):Prop:=Gx z h K x ti.kind
def Qy3(ok:Bool)(E:BA)(K:Al)(v:D):Prop:=K (bif ok then .tup [.im v,.im (.bool true)] else .im v) E
def JR(z:TI)(ok:Bool)(E:BA)(K:Al):Prop:=z.zero.length=z.size/\(z.agg=true\/z.size=1)/\z.size≠0/\K (bif ok then .tup [.im (fK z.agg z.zero),.im (.bool false)] else .im (fK z.agg z.zero)) E
def Uq(o:Nat)(Q:KT)(kd:D)(ok:Bool)(Z:TI)(K:Al):Option Ap->Prop
 |some (_,.map z O)=>z=Q/\Jq O kd (Qy3 ok {use:=[o]} K) (JR Z ok {use:=[o]} K)
 |_=>False
def kL(h:HpT)(Q:KT)(kd:D)(ok:Bool)(O:TI)(K:Al):AV->Prop
 | .im (.mp z Z)=>z=Q/\Jq Z kd (Qy3 ok {} K) (JR O ok {} K)
 | .im .nilm=>JR O ok {} K
 | .mp o=>Uq o Q kd ok O K (h o)
 |_=>False
def ZK(h:HpT)(m:AV)(kd:D)(ok:Bool)(K:Al)(O:TI):Option KT->Prop
 |some z=>z.fit kd=true/\kL h z kd ok O K m
 |none=>False
def luE(P:Program)(h:HpT)(m:AV)(kd:D)(ok:Bool)(K:Al)(k:TypeId)(z:TI):Prop:=ZK h m kd ok K z (Cn P k)
def luK(P:Program)(h:HpT)(m:AV)(ok:Bool)(K:Al):TK->AV->Prop
 | .map k e,.im z=>Bz (luE P h m z ok K k) (tI P e)
 |_,_=>False
def Qnn(P:Program)(h:HpT)(m k:AV)(ok:Bool)(K:Al)(ti:TI):Prop:=luK P h m ok K ti.kind k
def U4(o:Nat)(z:KT)(kd Z:D)(K:Al):Option Ap->Prop
 |some (true,.map O Q)=>O=z/\z.fit kd=true/\K .any {use:=[o],kill:=[o],new:=[(o,(true,.map z (Fq Q kd Z)))]}
 |_=>False
def U3(h:HpT)(o:Nat)(kd O:D)(K:Al):Option KT->Prop
 |some z=>U4 o z kd O K (h o)
 |none=>False
def LL(P:Program)(h:HpT)(o:Nat)(kd z:D)(K:Al):TK->Prop
 | .map k _=>U3 h o kd z K (Cn P k)
 | .bool| .str| .ptr _| .int _| .array _ _| .struct _| .slice _| .other=>False
def muF(n:Nat)(e:Ad)(K:Al)(r:AV)(E:BA):Prop:=E.kill.contains n=false/\K r {use:=n::E.use,kill:=n::E.kill,new:=E.new++[(n,(false,e))],cnt:=E.cnt}
def U5(P:Program)(h:HpT)(o n:Nat)(kd:D)(K:Al)(z:TK):Option Ap->Prop
 |some (_,.arr T k rows)=>(o==n)=false/\LL P h o kd (.sl false k rows) (muF n (.arr T k rows) K) z
 |_=>False
def pI(P:Program)(h:HpT)(K:Al)(m k v:AV)(ti:TI):Prop:=
 match m,k,v with
 | .mp o,.im z,.im O=>LL P h o z O K ti.kind
 | .mp o,.im z,.own n=>U5 P h o n z K ti.kind (h n)
 |_,_,_=>False
def Tg(o:Nat)(z:KT)(kd:D)(K:Al):Option Ap->Prop
 |some (true,.map O Q)=>O=z/\z.fit kd=true/\K .any {use:=[o],kill:=[o],new:=[(o,(true,.map z (MH Q kd)))]}
 |_=>False
def Zg(h:HpT)(o:Nat)(kd:D)(K:Al):Option KT->Prop
 |some z=>Tg o z kd K (h o)
 |none=>False
def Tf(P:Program)(h:HpT)(o:Nat)(kd:D)(K:Al):TK->Prop
 | .map k _=>Zg h o kd K (Cn P k)
 | .bool| .str| .ptr _| .int _| .array _ _| .struct _| .slice _| .other=>False
def Qni(P:Program)(h:HpT)(K:Al)(m k:AV)(ti:TI):Prop:=
 match m,k with
 | .mp o,.im z=>Tf P h o z K ti.kind
 |_,_=>False
def exA(K:Al):Option AV->Prop
 |some c=>K c {}
 |none=>False
def exD(K:Al):Option D->Prop
 |some d=>K (.im d) {}
 |none=>False
def pJ(i:Nat)(K:Al):AV->Prop
 | .tup z=>exA K z[i]?
 | .im (.tup ds)=>exD K ds[i]?
 |_=>False
def pK(h:HpT)(K:Al):AV->Prop
 | .im (.ref z)=>K (.im (.ref z)) {}
 | .im (.ifc t d)=>K (.im (.ifc t d)) {}
 | .ptr o p=>S7 o (.ptr o p) K (h o)
 | .eptr o i p=>S7 o (.eptr o i p) K (h o)
 |_=>False
abbrev DK:=FuncId->List AV->(HpT)->Nat->Al->Prop
def R7(V:DK)(args:List AV)(h:HpT)(nx:Nat)(K:Al):AV->Prop
 | .im (.fn g first capt)=>V g ((first.map .im)++args++(capt.map .im)) h nx K
 | .clo g first capt=>V g (first++args++capt) h nx K
 |_=>False
def Rx:Option TI->Option TK
 |some ti=>some ti.kind
 |none=>none
def Qjk(nx e:Nat)(K:Al)(z:TI):Prop:=K (.own nx) {new:=[(nx,(true,.arr e z.size []))],cnt:=1}
def Qg6(P:Program)(nx:Nat)(K:Al):Option TK->Prop
 |some (.slice e)=>Bz (Qjk nx e K) (tI P e)
 |_=>False
def RY:Value->Bool
 | .slice none 0 0=>true
 |_=>false
def Yr:Operand->Bool
 | .const v=>RY v
 | .tmp _| .global _| .func _=>false
def Qk7(P:Program)(nx:Nat)(T:TypeId)(v:AV)(K:Al):Bool->Prop
 |true=>Qg6 P nx K (Rx (tI P T))
 |false=>K v {}
def Qm9(P:Program)(tm:TmT)(nx:Nat)(T:TypeId)(K:Al)(x:Operand):Prop:=Qk7 P nx T (Ay tm x) K (Yr x && !(T==244))
def NC(c:Bool)(K:Al)(a b:AV):Prop:=(c=true->K a {})/\(c=false->K b {})
def Qzp(a b:AV)(K:Al):AV->Prop
 | .im (.bool c)=>NC c K a b
 |_=>False
def Qsv(nx T:Nat)(K:Al)(ti:TI):Prop:=ti.zero.length=ti.size/\ti.size≠0/\K (.ptr nx 0) {new:=[(nx,(true,.cells T (ti.zero.map .im)))],cnt:=1}
def Wg(nx T:Nat)(K:Al)(cs:List AV):Prop:=cs≠[]/\K (.ptr nx 0) {new:=[(nx,(true,.cells T cs))],cnt:=1}
def Ha:Value->Nat
 | .slice none 0 0=>1
 | .pointer none=>2
 | .map none=>3
 | .nilIface=>4
 |_=>0
def Gy:Operand->Nat
 | .const v=>Ha v
 | .tmp _| .global _| .func _=>0
def qD(h:HpT)(op:BinOp)(x:AV)(K:Al)(n:Nat)(ti:TI):Prop:=
 match op with
 | .eql=>Yz h false K x n ti.kind
 | .neq=>Yz h true K x n ti.kind
 |_=>False
def Ua(P:Program)(T:TypeId):Bool:=match P.underlying T with
 |some (.interface _)=>true
 |_=>false
def fE(P:Program)(T:TypeId):Bool:=match P.underlying T with
 |some (.interface _)=>false
 |some _=>true
 |none=>false
def fJ(P:Program)(t:TypeId)(name:String):Option FuncId:=
 match P.info? t with
 |some i=>match i.methods.find? (·.name==name) with
  |some m=>bif m.path.isEmpty then (match m.func with
   |some (f,false)=>some f
   |_=>none) else none
  |none=>none
 |none=>none
def XN(P:Program)(t:TypeId)(name:String):Option FuncId:=
 match P.underlying t with
 |some (.pointer _)=>none
 |some _=>fJ P t name
 |none=>none
def RE(neg:Bool)(K:Al):AV->Prop
 | .im .nili=>eQ neg K true
 | .im (.ifc _ _)=>eQ neg K false
 |_=>False
def XP(P:Program)(T:TypeId)(op:BinOp)(x:AV)(K:Al):Prop:=
 Ua P T=true/\match op with
 | .eql=>RE false K x
 | .neq=>RE true K x
 |_=>False
def Wh(P:Program)(T:TypeId)(K:Al):AV->Prop
 | .im d=>fE P T=true/\K (.im (.ifc T d)) {}
 |_=>False
def XO(V:DK)(args:List AV)(h:HpT)(nx:Nat)(K:Al)(d:D):Option FuncId->Prop
 |some f=>V f (.im d::args) h nx K
 |none=>False
def Oc(P:Program)(V:DK)(args:List AV)(h:HpT)(nx:Nat)(K:Al)(m:String):AV->Prop
 | .im (.ifc t d)=>XO V args h nx K d (XN P t m)
 |_=>False
def dY(P:Program)(T:TypeId)(h:HpT)(op:BinOp)(x y:AV)(K:Al):Nat->Prop
 |0=>kE P T op K x y
 |1=>Bz (qD h op x K 0) (tI P T)
 |2=>Bz (qD h op x K 1) (tI P T)
 |3=>Bz (qD h op x K 2) (tI P T)
 |_+4=>XP P T op x K
def LZ:Option TK->Al->AV->Prop
 |some (.int k),K,.im (.int _ n)=>K (.im (.int k (k.wrap n))) {}
 |_,_,_=>False
def xS(t:Option TK)(x:AV)(K:Al):Option TI->Prop
 |some _=>LZ t K x
 |none=>False
def I6:List (List D)->Option (Cz)
 |[]=>some []
 |[.int .u8 n]::r=>(I6 r).map (n:: ·)
 |_=>none
def Ig(z:Cz):MM:=⟨(z.map λn=>UInt8.ofNat n.toNat).toArray⟩
def MA(u:List Nat)(K:Al):Option (Cz)->Prop
 |some z=>K (.im (.str (Ig z))) {use:=u}
 |none=>False
def SN(o:Nat)(K:Al):Option Ap->Prop
 |some (_,.arr _ k rows)=>k=1/\MA [o] K (I6 rows)
 |_=>False
def lQ(h:HpT)(K:Al):AV->Prop
 | .own o=>SN o K (h o)
 |_=>False
def lR(h:HpT)(K:Al)(x:AV):Option TK->Prop
 |some (.int .u8)=>lQ h K x
 |_=>False
def lS(P:Program)(h:HpT)(K:Al)(x:AV):TK->Prop
 | .slice e=>lR h K x (Rx (tI P e))
 |_=>False
def JH(P:Program)(h:HpT)(K:Al)(x:AV):Option TI->Prop
 |some z=>lS P h K x z.kind
 |none=>False
def TK.isStr:TK->Bool
 | .str=>true
 | .bool| .ptr _| .int _| .array _ _| .struct _| .map _ _| .slice _| .other=>false
def isStr:Option TK->Bool
 |some t=>t.isStr
 |none=>false
def XA(P:Program)(h:HpT)(t:Option TK)(x:AV)(K:Al)(s:Option TI):Prop:=if isStr t=true then JH P h K x s else xS t x K s
def Od(K:Al):AV->AV->Prop
 | .im (.int k a),.im (.int k' b)=>k=k'/\K (.im (.int k (max a b))) {}
 |_,_=>False
def Oe(K:Al):AV->AV->Prop
 | .im (.int k a),.im (.int k' b)=>k=k'/\K (.im (.int k (min a b))) {}
 |_,_=>False
def TK.isSl:TK->Bool
 | .slice _=>true
 | .bool| .str| .ptr _| .int _| .array _ _| .struct _| .map _ _| .other=>false
def Qlj(P:Program)(h:HpT)(nx:Nat)(s x:AV)(T:TypeId)(K:Al)(z:TI):Prop:=(z.kind.isSl||z.kind.isStr)=true/\Bz (Qsl P h nx s x K) (tI P T)
def Eo(tm:TmT):Option Operand->Option AV
 |none=>none
 |some x=>some (Ay tm x)
def HU(z:Nat):Option AV->Option Int
 |none=>some z
 |some (.im (.int _ n))=>some n
 |some _=>none
def VQ(k:Nat)(rows:List (List D))(K:Al):Option Int->Option Int->Prop
 |some l,some m=>0<=l/\l<=m/\m<=(rows.length:Int)/\K (.im (.sl false k ((rows.drop l.toNat).take (m - l).toNat))) {}
 |some _,none=>False
 |none,_=>False
def Kk(s:MM)(K:Al):Option Int->Option Int->Prop
 |some l,some m=>0<=l/\l<=m/\m<=(s.size:Int)/\K (.im (.str (s.extract l.toNat m.toNat))) {}
 |some _,none=>False
 |none,_=>False
def yN(o nx:Nat)(z:Bool)(T k:Nat)(rows:List (List D))(a n:Nat)(K:Al):Bool->Prop
 |false=>K (.osl o a n) {use:=[o]}
 |true=>z=true/\K (.own nx) {use:=[o],kill:=[o],new:=[(nx,(true,.arr T k ((rows.drop a).take n)))],cnt:=1}
def Kl(o nx:Nat)(z:Bool)(T k:Nat)(rows:List (List D))(K:Al):Option Int->Option Int->Prop
 |some l,some m=>0<=l/\l<=m/\m<=(rows.length:Int)/\ ∃O,yN o nx z T k rows l.toNat (m - l).toNat K O
 |some _,none=>False
 |none,_=>False
def VR(o nx:Nat)(Q:TI)(lo z:Option AV)(K:Al):Option Ap->Prop
 |some (O,.arr T k rows)=>k=Q.size/\Kl o nx O T k rows K (HU 0 lo) (HU rows.length z)
 |_=>False
def slE(h:HpT)(nx:Nat)(lo z:Option AV)(K:Al)(x:AV)(O:TI):Prop:=
 match x with
 | .im (.sl _ k rows)=>(k=O.size\/rows=[])/\VQ k rows K (HU 0 lo) (HU rows.length z)
 | .own o=>VR o nx O lo z K (h o)
 |_=>False
def oD(x:AV)(lo z:Option AV)(K:Al):Prop:=
 match x with
 | .im (.str s)=>Kk s K (HU 0 lo) (HU s.size z)
 |_=>False
def Rv(P:Program)(h:HpT)(nx:Nat)(x:AV)(lo z:Option AV)(K:Al):TK->Prop
 | .slice e=>Bz (slE h nx lo z K x) (tI P e)
 | .str=>oD x lo z K
 | .bool| .ptr _| .int _| .array _ _| .struct _| .map _ _| .other=>False
def Qsm(P:Program)(h:HpT)(nx:Nat)(x:AV)(lo z:Option AV)(K:Al)(ti:TI):Prop:=Rv P h nx x lo z K ti.kind
def lY(o:Nat):Option Ap->Option (List Nat×Nat×List (List D))
 |some (_,.arr _ k rows)=>some ([o],k,rows)
 |_=>none
def lZ(o a n:Nat):Option Ap->Option (List Nat×Nat×List (List D))
 |some (_,.arr _ k rows)=>some ([o],k,(rows.drop a).take n)
 |_=>none
def kH(h:HpT):AV->Option (List Nat×Nat×List (List D))
 | .im (.sl _ k rows)=>some ([],k,rows)
 | .own o=>lY o (h o)
 | .osl o a n=>lZ o a n (h o)
 |_=>none
def Tb(o:Nat):Option Ap->Option (Nat×Nat×Nat×TypeId×Nat×List (List D))
 |some (true,.arr T k rows)=>some (o,0,rows.length,T,k,rows)
 |_=>none
def Tc(o a n:Nat):Option Ap->Option (Nat×Nat×Nat×TypeId×Nat×List (List D))
 |some (true,.arr T k rows)=>some (o,a,n,T,k,rows)
 |_=>none
def Xg(h:HpT):AV->Option (Nat×Nat×Nat×TypeId×Nat×List (List D))
 | .own o=>Tb o (h o)
 | .osl o a n=>Tc o a n (h o)
 |_=>none
def jY(rows:List (List D))(a m:Nat)(src:List (List D)):List (List D):=rows.take a++src.take m++rows.drop (a+m)
def Td(O:TI)(K:Al):Option (List Nat×Nat×List (List D))->Option (Nat×Nat×Nat×TypeId×Nat×List (List D))->Prop
 |some (u,ks,z),some (o,a,n,T,k,rows)=>k=O.size/\(ks=O.size\/z=[])/\O.size≠0/\DI Ee z/\
  K (.im (.int .i64 (min z.length n:Nat))) {use:=o::u,kill:=[o],new:=[(o,(true,.arr T k (jY rows a (min z.length n) z)))]}
 |some _,none=>False
 |none,_=>False
def Te(P:Program)(h:HpT)(d s:AV)(K:Al):TK->Prop
 | .slice e=>Bz (λz=>Td z K (kH h s) (Xg h d)) (tI P e)
 | .bool| .str| .ptr _| .int _| .array _ _| .struct _| .map _ _| .other=>False
def Qzd(P:Program)(h:HpT)(d s:AV)(K:Al)(ti:TI):Prop:=Te P h d s K ti.kind
def Za(z:TI)(K:Al):Option (Nat×Nat×Nat×TypeId×Nat×List (List D))->Prop
 |some (o,a,n,T,k,rows)=>k=z.size/\z.size≠0/\z.zero.length=z.size/\Ee z.zero=true/\
  K .any {use:=[o],kill:=[o],new:=[(o,(true,.arr T k (jY rows a n (List.replicate n z.zero))))]}
 |none=>False
def SR(P:Program)(h:HpT)(d:AV)(K:Al):TK->Prop
 | .slice e=>Bz (λz=>Za z K (Xg h d)) (tI P e)
 | .bool| .str| .ptr _| .int _| .array _ _| .struct _| .map _ _| .other=>False
def Qrt(P:Program)(h:HpT)(d:AV)(K:Al)(ti:TI):Prop:=SR P h d K ti.kind
def V3(nx o:Nat)(K:Al):Option Ap->Prop
 |some (Q,.map O z)=>K (.it nx) {use:=[o],kill:=[o],new:=[(nx,(true,.iter none z)),(o,(false,.map O z))],cnt:=1}
 |_=>False
def rgD(nx:Nat)(K:Al):D->Prop
 | .mp _ z=>K (.it nx) {new:=[(nx,(true,.iter none z))],cnt:=1}
 |_=>False
def rgM(h:HpT)(nx:Nat)(K:Al):AV->Prop
 | .mp o=>V3 nx o K (h o)
 | .im d=>rgD nx K d
 |_=>False
def V2(h:HpT)(nx:Nat)(x:AV)(K:Al):TK->Prop
 | .map _ _=>rgM h nx K x
 | .bool| .str| .ptr _| .int _| .array _ _| .struct _| .slice _| .other=>False
def Qsh(h:HpT)(nx:Nat)(x:AV)(K:Al)(ti:TI):Prop:=V2 h nx x K ti.kind
def nxGo(o:Nat)(left:List (D×D))(K:Al)(i:Nat)(p:D×D):Prop:=
 K (.tup [.im (.bool true),.im p.1,.im p.2]) {use:=[o],kill:=[o],new:=[(o,(true,.iter (some p) (left.eraseIdx i)))]}
def UL(o:Nat)(K:Al):Option Ap->Prop
 |some (true,.iter _ left)=>(left=[]->K (.tup [.im (.bool false)]) {use:=[o]})/\ ∀i p,left[i]? =some p->nxGo o left K i p
 |_=>False
def X0(h:HpT)(K:Al):AV->Prop
 | .it o=>UL o K (h o)
 |_=>False
def nC(h:HpT)(x:AV)(K:Al):Bool->Prop
 |true=>X0 h K x
 |false=>False
def Ts(o:Nat)(K:Al):Option Ap->Prop
 |some (true,.iter (some p) _)=>K (.im (.tup [p.1,p.2])) {use:=[o]}
 |_=>False
def Qsz(h:HpT)(K:Al):AV->Prop
 | .it o=>Ts o K (h o)
 |_=>False
def Xf(P:Program)(t:TypeId):Option TypeId:=match P.underlying t with
 |some (.chan _ e)=>some e
 |_=>none
def mcE(nx:Nat)(n:Int)(K:Al)(z:TI):Prop:=0<=n/\n<=1073741824/\z.bytes<=65536/\K (.ch nx) {new:=[(nx,(true,.chan [] n.toNat))],cnt:=1}
def mcV(P:Program)(nx:Nat)(K:Al)(e:TypeId):AV->Prop
 | .im (.int .i64 n)=>Bz (mcE nx n K) (tI P e)
 |_=>False
def mcK(P:Program)(nx:Nat)(x:AV)(K:Al):Option TypeId->Prop
 |some e=>mcV P nx K e x
 |none=>False
def Qi6(P:Program)(nx:Nat)(x:AV)(K:Al)(T:TypeId):Prop:=mcK P nx x K (Xf P T)
def fI(o:Nat)(K:Al):Option Ap->Prop
 |some (_,.chan q _)=>GY K {use:=[o]} q.length
 |_=>False
def Uo(o:Nat)(h:HpT)(K:Al):Option TypeId->Prop
 |some _=>fI o K (h o)
 |none=>False
def oA(o:Nat)(d:D)(K:Al):Option Ap->Prop
 |some (true,.chan q cap)=>q.length<cap/\K .any {use:=[o],kill:=[o],new:=[(o,(true,.chan (q++[d]) cap))]}
 |_=>False
def Mb(h:HpT)(c x:AV)(K:Al):Prop:=
 match c,x with
 | .ch o,.im d=>oA o d K (h o)
 |_,_=>False
def nY(o:Nat)(K:Al):Option Ap->Prop
 |some (true,.chan q cap)=>q≠[]/\ ∀d r,q=d::r->K (.im d) {use:=[o],kill:=[o],new:=[(o,(true,.chan r cap))]}
 |_=>False
def rvC(h:HpT)(K:Al):AV->Prop
 | .ch o=>nY o K (h o)
 |_=>False
def rvE(h:HpT)(c:AV)(K:Al)(z:TI):Prop:=z.zero.length=z.size/\z.size≠0/\rvC h K c
def rvK(P:Program)(h:HpT)(c:AV)(K:Al):Option TypeId->Prop
 |some e=>Bz (rvE h c K) (tI P e)
 |none=>False
def Ma(P:Program)(h:HpT)(T:TypeId)(c:AV)(K:Al):Prop:=rvK P h c K (Xf P T)
def Tv(neg:Bool)(K:Al)(E:BA){α:Type}(rows:List α):Prop:= ∀b:Bool,(b=true->rows=[])->K (.im (.bool (neg !=b))) E
def Tw(o:Nat)(neg:Bool)(K:Al):Option Ap->Prop
 |some (_,.arr _ _ rows)=>Tv neg K {use:=[o]} rows
 |some (_,.arrA _ _ rows)=>Tv neg K {use:=[o]} rows
 |_=>False
def O6(h:HpT)(neg:Bool)(K:Al):AV->Prop
 | .im (.sl _ _ rows)=>Tv neg K {} rows
 | .own o=>Tw o neg K (h o)
 |_=>False
def Jd:D->Bool
 | .sl z _ _=>z
 | .int _ _| .bool _| .str _| .nilp| .nilf| .nili| .nilc| .nilm| .agg _| .tup _| .ref _| .mp _ _| .fn _ _ _| .ifc _ _| .gp _| .tok _=>true
def Gw:AV->Bool
 | .im d=>Jd d
 | .own _=>false
 | .any| .agg _| .tup _| .ptr _ _| .eptr _ _ _| .mp _| .ch _| .it _| .osl _ _ _| .clo _ _ _=>true
def unS(z:Bool)(x:AV)(n:Nat):Bool:=z && (n==1 && !Gw x)
def Sh(P:Program)(h:HpT)(T:TypeId)(op:BinOp)(x:AV)(K:Al):TK->Prop
 | .slice _=>(match op with
   | .eql=>O6 h false K x
   | .neq=>O6 h true K x
   |_=>False)
 | .bool| .str| .ptr _| .int _| .array _ _| .struct _| .map _ _| .other=>False
def Qst(P:Program)(h:HpT)(T:TypeId)(op:BinOp)(x:AV)(K:Al)(ti:TI):Prop:=Sh P h T op x K ti.kind
def LY(P:Program)(z:Bool)(T:TypeId)(h:HpT)(op:BinOp)(x y:AV)(K:Al)(n:Nat):Prop:=
 if unS z x n=true then Bz (Qst P h T op x K) (tI P T) else dY P T h op x y K n
def Mo(P:Program)(z:Bool)(h:HpT)(T:TypeId)(K:Al):AV->Prop
 | .ch o=>Uo o h K (Xf P T)
 | .im d=>Bz (kK z h (.im d) K) (tI P T)
 | .own o=>Bz (kK z h (.own o) K) (tI P T)
 | .osl o a n=>Bz (kK z h (.osl o a n) K) (tI P T)
 | .mp o=>Bz (kK z h (.mp o) K) (tI P T)
 | .any| .agg _| .tup _| .ptr _ _| .eptr _ _ _| .it _| .clo _ _ _=>False
def Ym(P:Program)(z:Bool)(h:HpT)(nx:Nat)(K:Al):Builtin->List AV->List TypeId->Prop
 | .len,[x],[T]=>Mo P z h T K x
 | .append,[s,x],[T,U]=>Bz (Qlj P h nx s x T K) (tI P U)
 | .delete,[m,k],T::_=>Bz (Qni P h K m k) (tI P T)
 | .copy,[d,s],[T,_]=>Bz (Qzd P h d s K) (tI P T)
 | .clear,[d],[T]=>Bz (Qrt P h d K) (tI P T)
 | .max,[x,y],_=>Od K x y
 | .min,[x,y],_=>Oe K x y
 |_,_,_=>False
def xL(P:Program)(V:DK)(z:Bool)(tm:TmT)(h:HpT)(nx:Nat)(args:List AV)(O:List TypeId)(K:Al):Callee->Prop
 | .value f=>R7 V args h nx K (Ay tm f)
 | .builtin b=>Ym P z h nx K b args O
 | .invoke r m=>Oc P V args h nx K m (Ay tm r)
def ZP(nx:Nat)(K:Al):Option KT->Prop
 |some z=>K (.mp nx) {new:=[(nx,(true,.map z []))],cnt:=1}
 |none=>False
def Uz(P:Program)(nx:Nat)(K:Al):TK->Prop
 | .map k _=>ZP nx K (Cn P k)
 | .bool| .str| .ptr _| .int _| .array _ _| .struct _| .slice _| .other=>False
def Qko(P:Program)(nx:Nat)(K:Al)(ti:TI):Prop:=Uz P nx K ti.kind
def Ey(tm:TmT):List Operand->List AV
 |[]=>[]
 |x::r=>Ay tm x::Ey tm r
def KA(tm:TmT):List (Nat×Operand)->TmT
 |[]=>[]
 |(i,x)::r=>(i,Ay tm x)::KA tm r
def Qrk(h:HpT)(x:AV)(K:Al)(ti:TI):Prop:=Y3 h ti K x
def Qfq(P:Program)(h:HpT)(x i:AV)(K:Al)(ti:TI):Prop:=Qjp P h x ti K i
def Qno(P:Program)(x i:AV)(K:Al)(ti:TI):Prop:=Qxc P x ti K i
def SY(o:Nat)(T:TypeId)(cs:List AV):Option (List D)->Option (D×An)
 |some ds=>some (.ref ds,[(o,(false,.cells T cs))])
 |none=>none
def SX(o:Nat):Option Ap->Option (D×An)
 |some (_,.cells T z)=>SY o T z (Ea z)
 |some (_,.arr _ _ _)=>none
 |some (_,.arrA _ _ _)=>none
 |some (_,.map _ _)=>none
 |some (_,.chan _ _)=>none
 |some (_,.iter _ _)=>none
 |some (_,.view _)=>none
 |none=>none
def IP(h:HpT):AV->Option (D×An)
 | .im d=>some (d,[])
 | .ptr o 0=>SX o (h o)
 | .ptr _ (_+1)=>none
 | .any=>none
 | .agg _=>none
 | .tup _=>none
 | .eptr _ _ _=>none
 | .own _=>none
 | .mp _=>none
 | .ch _=>none
 | .it _=>none
 | .osl _ _ _=>none
 | .clo _ _ _=>none
def SV:Option (D×An)->Option (List D×An)->Option (List D×An)
 |some (d,E),some (ds,F)=>some (d::ds,E++F)
 |some _,none=>none
 |none,_=>none
def P3(h:HpT):List AV->Option (List D×An)
 |[]=>some ([],[])
 |x::r=>SV (IP h x) (P3 h r)
def hnm:An->List Nat
 |[]=>[]
 |(n,_)::r=>n::hnm r
def Qz3(f:FuncId)(a b:List D)(first capt:List AV)(K:Al):An->Prop
 |[]=>K (.im (.fn f a b)) {}
 |e::r=>K (.im (.fn f a b)) {use:=hnm (e::r),kill:=hnm (e::r),new:=e::r}\/K (.clo f first capt) {}
def OB(f:FuncId)(first capt:List AV)(K:Al):Option (List D×An)->Option (List D×An)->Prop
 |some (a,E),some (b,F)=>Qz3 f a b first capt K (E++F)
 |some _,none=>K (.clo f first capt) {}
 |none,_=>K (.clo f first capt) {}
def Zu(P:Program)(U:TypeId)(f:Nat):Option (TypeId×Nat):=
 match P.underlying U with
 |some (.struct z)=>(z[f]?).map λq=>(q.type,q.offset)
 |_=>none
def RH(off n:Nat)(cs:List D):Bool->Option D
 |true=>some (.agg ((cs.drop off).take n))
 |false=>cs[off]?
def RF(K:Al):Option D->Prop
 |some d=>K (.im d) {}
 |none=>False
def gW(off:Nat)(K:Al)(ti:TI):AV->Prop
 | .im (.agg z)=>off+ti.size<=z.length/\RF K (RH off ti.size z ti.agg)
 |_=>False
def RG(P:Program)(x:AV)(K:Al):Option (TypeId×Nat)->Prop
 |some (t,off)=>Bz (λti=>gW off K ti x) (tI P t)
 |none=>False
def step(P:Program)(V:DK)(O:Bool)(tm:TmT)(h:HpT)(nx:Nat)(T:TypeId)(K:Al):Op->Prop
 | .move x=>K (Ay tm x) {}
 | .assign x=>Qm9 P tm nx T K x
 | .pick c a b=>Qzp (Ay tm a) (Ay tm b) K (Ay tm c)
 | .alloc T=>Bz (Qsv nx T K) (tI P T)
 | .box T x=>Wg nx T K (Ay tm x).cells
 | .build T z=>Bz (Qsy P (KA tm z.toList) K) (tI P T)
 | .buildSlice T n z=>Bz (Qfp P nx n (KA tm z.toList) K) (tI P T)
 | .load T x=>Bz (Qrk h (Ay tm x) K) (tI P T)
 | .store T x v=>Bz (Qri h (Ay tm x) (Ay tm v) K) (tI P T)
 | .nilCheck x=>pK h K (Ay tm x)
 | .binOp op T x y _=>LY P O T h op (Ay tm x) (Ay tm y) K (Gy y)
 | .unOp op _ x=>bT K op (Ay tm x)
 | .convert S T x=>XA P h (Rx (tI P T)) (Ay tm x) K (tI P S)
 | .makeFunc (.func f) first capt=>Nat.blt f 1000000000=true/\OB f (Ey tm first.toList) (Ey tm capt.toList) K (P3 h (Ey tm first.toList)) (P3 h (Ey tm capt.toList))
 | .makeMap T none=>Bz (Qko P nx K) (tI P T)
 | .makeSlice T l c=>Bz (Qhl P nx (Ay tm l) (Ay tm c) K) (tI P T)
 | .fieldAddr T x f=>Bz (Qhg h (Ay tm x) f K) (tI P T)
 | .indexAddr T x i=>Bz (Qfq P h (Ay tm x) (Ay tm i) K) (tI P T)
 | .index T x i=>Bz (Qno P (Ay tm x) (Ay tm i) K) (tI P T)
 | .lookup T m k ok=>Bz (Qnn P h (Ay tm m) (Ay tm k) ok K) (tI P T)
 | .mapUpdate T m k v=>Bz (pI P h K (Ay tm m) (Ay tm k) (Ay tm v)) (tI P T)
 | .extract x i=>pJ i K (Ay tm x)
 | .call c=>xL P V O tm h nx (Ey tm c.args.toList) c.argTypes.toList K c.callee
 | .slice T x lo Q none=>Bz (Qsm P h nx (Ay tm x) (Eo tm lo) (Eo tm Q) K) (tI P T)
 | .range T x=>Bz (Qsh h nx (Ay tm x) K) (tI P T)
 | .next x false=>nC h (Ay tm x) K O
 | .entry x=>Qsz h K (Ay tm x)
 | .makeChan T x=>Qi6 P nx (Ay tm x) K T
 | .makeInterface T x=>Wh P T K (Ay tm x)
 | .insert T m k v=>Bz (pI P h K (Ay tm m) (Ay tm k) (Ay tm v)) (tI P T)
 | .field U x f=>RG P (Ay tm x) K (Zu P U f)
 |_=>False
inductive Ex where
 |normal
 |exit (id:Nat)
 |ret
abbrev CI:=Ex->Az->Prop
def Yp(t:Option Nat)(z:Bool)(s:Az)(Kdo Kskip:Az->Prop):AV->Prop
 | .im (.bool b)=>(b=z->Kdo (s.put t (.im (.bool z))))/\(b= !z->Kskip (s.put t (.im (.bool (!z)))))
 | .im (.tup [])=>Kskip s
 |_=>False
def Ar(n:Nat):An->Bool
 |[]=>true
 |(_,(_,.cells _ z))::r=>A9 n z && Ar n r
 |(_,(_,.arrA _ _ rows))::r=>rows.all (A9 n) && Ar n r
 |(_,(_,.arr _ _ _))::r=>Ar n r
 |(_,(_,.map _ _))::r=>Ar n r
 |(_,(_,.chan _ _))::r=>Ar n r
 |(_,(_,.iter _ _))::r=>Ar n r
 |(_,(_,.view _))::r=>Ar n r
def I8(kill:List Nat)(nx cnt n:Nat):Bool:=(Nat.ble nx n && Nat.blt n (nx+cnt))||(kill.contains n && Nat.blt n nx)
def GO(kill:List Nat)(nx cnt:Nat):An->Bool
 |[]=>true
 |(n,_)::r=>I8 kill nx cnt n && GO kill nx cnt r
def BA.ok(E:BA)(nx:Nat)(r:AV):Bool:=r.bel (nx+E.cnt) && (Ar (nx+E.cnt) E.new && GO E.kill nx E.cnt E.new)
def Az.app_nr(tm:TmT)(h:An)(nx:Nat)(dst:Option Nat)(r:AV)(u k:List Nat)(nw:An)(c:Nat):Az.app ⟨tm,h,nx⟩ dst r ⟨u,k,nw,c⟩=(⟨tm,nw++Bp h k,nx+c⟩:Az).put dst r:=by
 cases dst<;>rfl
def BA.ok_nr(u k:List Nat)(nw:An)(c nx:Nat)(r:AV):BA.ok ⟨u,k,nw,c⟩ nx r=(r.bel (nx+c) && (Ar (nx+c) nw && GO k nx c nw)):=by
 cases c<;>rfl
structure SOp where
 dst:Option Nat
 op:Op
 type:TypeId
 gd:Option (Option Nat×Bool)
def kJ(ops:Array Oper):Option (Nat×Bool)->Option (Option Nat×Bool)
 |none=>none
 |some (j,w)=>some ((ops[j]?).bind (·.dst),w)
def IG(ops:Array Oper):List Oper->List SOp
 |[]=>[]
 |o::r=>⟨o.dst,o.op,o.type,kJ ops o.guard⟩::IG ops r
def De(go:Az->Prop)(s:Az)(dst:Option Nat)(r:AV)(E:BA):Prop:=E.ok s.nx r=true/\go (s.app dst r E)
def E3(P:Program)(V:DK)(tm:TmT)(h:HpT)(nx:Nat)(ty:TypeId)(K:Al):Op->Prop
 | .send c x=>Mb h (Ay tm c) (Ay tm x) K
 | .recv T c false=>Ma P h T (Ay tm c) K
 |op=>step P V true tm h nx ty K op
def Ko(P:Program)(V:DK)(dst:Option Nat)(op:Op)(ty:TypeId)(go:Az->Prop)(s:Az):Prop:=
 E3 P V s.tm (hget s.h) s.nx ty (De go s dst) op
def NZ(dst:Option Nat)(go:Az->Prop)(s:Az):Prop:=go (s.put dst (.im (.tup [])))
def Z3(P:Program)(V:DK)(dst:Option Nat)(op:Op)(ty:TypeId)(z:Bool)(go:Az->Prop)(s:Az):Option Nat->Prop
 |some t=>Yp (some t) z s (Ko P V dst op ty go) (NZ dst go) (AF s.tm t)
 |none=>False
def opS(P:Program)(V:DK)(dst:Option Nat)(op:Op)(ty:TypeId)(go:Az->Prop)(s:Az):Option (Option Nat×Bool)->Prop
 |none=>Ko P V dst op ty go s
 |some (t,z)=>Z3 P V dst op ty z go s t
def Qk(P:Program)(V:DK):List SOp->(Az->Prop)->Az->Prop
 |[],K,s=>K s
 |⟨dst,op,ty,gd⟩::z,K,s=>opS P V dst op ty (Qk P V z K) s gd
structure Fp where
 i:Nat
 use:List Nat
 touch:List Nat
 nx:Nat
 cnt:Nat
def GL:An->List Nat
 |[]=>[]
 |(n,_)::r=>n::GL r
def JY:An->List Nat
 |[]=>[]
 |(_,(_,e))::r=>e.nms++JY r
def GE:List Nat->List Nat->Bool
 |[],_=>true
 |x::r,l=> !l.contains x && GE r l
def Fm(nx cnt:Nat):List Nat->Bool
 |[]=>true
 |x::r=>(Nat.blt x nx||Nat.ble (nx+cnt) x) && Fm nx cnt r
def Jj:Ground->Bool
 | .data=>true
 | .chain=>true
 | .guard=>true
 | .phase=>true
 | .textOnly _=>false
 | .gcOnly _=>false
def Er:List (List Nat)->Nat->List Nat
 |[],_=>[]
 |x::_,0=>x
 |_::r,n+1=>Er r n
def ins(x:Nat)(l:List Nat):List Nat:=bif l.contains x then l else x::l
def TZ:List Nat->List Nat->List Nat
 |[],l=>l
 |x::r,l=>ins x (TZ r l)
def HW(acc:List (List Nat)):List Edge->List Nat
 |[]=>[]
 |e::r=>bif Jj e.ground then TZ (e.on::Er acc e.on) (HW acc r) else HW acc r
def FV:List Oper->List (List Nat)->List (List Nat)
 |[],acc=>acc
 |o::r,acc=>FV r (acc++[HW acc o.after.toList])
def D0(cl:List (List Nat))(i j:Nat):Bool:=(Er cl j).contains i
def YZ(cl:List (List Nat))(j:Nat)(use touch z:List Nat)(f:Fp):Bool:=
 bif GE (use++touch) f.touch && (GE touch f.use && Fm f.nx f.cnt z) then true else D0 cl f.i j
def FR(cl:List (List Nat))(j:Nat)(use touch z:List Nat):List Fp->Bool
 |[]=>true
 |f::r=>YZ cl j use touch z f && FR cl j use touch z r
def BA.touch(E:BA):List Nat:=E.kill++GL E.new
abbrev IY:=List Fp->Az->Prop
def FT(cl:List (List Nat))(i:Nat)(acc:List Fp)(go:IY)(s:Az)(dst:Option Nat)(r:AV)(E:BA):Prop:=
 E.ok s.nx r=true/\FR cl i (E.use++E.kill) E.touch (E.touch++(r.nms++JY E.new)) acc=true/\go (⟨i,E.use++E.kill,E.touch,s.nx,E.cnt⟩::acc) (s.app dst r E)
def Of(P:Program)(V:DK)(cl:List (List Nat))(i:Nat)(acc:List Fp)(dst:Option Nat)(op:Op)(ty:TypeId)(go:IY)(s:Az):Prop:=
 step P V false s.tm (hget s.h) s.nx ty (FT cl i acc go s dst) op
def NY(dst:Option Nat)(acc:List Fp)(go:IY)(s:Az):Prop:=go acc (s.put dst (.im (.tup [])))
def Z2(P:Program)(V:DK)(cl:List (List Nat))(i:Nat)(acc:List Fp)(dst:Option Nat)(op:Op)(ty:TypeId)(z:Bool)(go:IY)(s:Az):Option Nat->Prop
 |some t=>Yp (some t) z s (Of P V cl i acc dst op ty go) (NY dst acc go) (AF s.tm t)
 |none=>False
def opA(P:Program)(V:DK)(cl:List (List Nat))(i:Nat)(acc:List Fp)(dst:Option Nat)(op:Op)(ty:TypeId)(go:IY)(s:Az):Option (Option Nat×Bool)->Prop
 |none=>Of P V cl i acc dst op ty go s
 |some (t,z)=>Z2 P V cl i acc dst op ty z go s t
def Xr(P:Program)(V:DK)(cl:List (List Nat)):List SOp->Nat->(Az->Prop)->IY
 |[],_,K,_,s=>K s
 |⟨dst,op,ty,gd⟩::z,i,K,acc,s=>opA P V cl i acc dst op ty (Xr P V cl z (i+1) K) s gd
def Ol(K:Az->Prop)(Q:CI):CI
 | .normal,s=>K s
 | .exit i,s=>Q (.exit i) s
 | .ret,s=>Q .ret s
def JL(i:Nat)(Q:CI)(s:Az):Bool->Prop
 |true=>Q .normal s
 |false=>Q (.exit i) s
def qL(id:Nat)(Q:CI):CI
 | .normal,s=>Q .normal s
 | .exit i,s=>JL i Q s (i==id)
 | .ret,s=>Q .ret s
def yO(A B:CI->Az->Prop)(Q:CI)(s:Az):AV->Prop
 | .im (.bool b)=>(b=true->A Q s)/\(b=false->B Q s)
 |_=>False
def H2(s:Az):TmT->Prop
 |[]=>True
 |(t,x)::r=>AF s.tm t=x/\H2 s r
def C5(s:Az):An->Prop
 |[]=>True
 |(o,e)::r=>hget s.h o=some e/\C5 s r
def sub(s s':Az):Prop:=H2 s s'.tm/\C5 s s'.h
def Cl(n:Nat):TmT->Bool
 |[]=>true
 |(_,x)::r=>x.bel n && Cl n r
def B5(n:Nat):An->Bool
 |[]=>true
 |(m,_)::r=>Nat.blt m n && B5 n r
def Az.good(s:Az):Bool:=Cl s.nx s.tm && (Ar s.nx s.h && B5 s.nx s.h)
def pm:List (Nat×Option Nat)->Nat->Option Nat
 |[],n=>some n
 |(a,b)::r,n=>if a=n then b else pm r n
def mR:AV->Prop
 | .im (.sl true _ [])=>True
 |_=>False
def DS(x:AV):Option Nat->Prop
 |some m=>x= .own m
 |none=>mR x
def Hh(f:Nat->AV)(x:AV):Option Nat->Prop
 |some m=>x=f m
 |none=>False
mutual
def mt(π:List (Nat×Option Nat)):AV->AV->Prop
 | .any,_=>True
 | .im d,x=>x= .im d
 | .own n,x=>DS x (pm π n)
 | .ptr n p,x=>Hh (λm=> .ptr m p) x (pm π n)
 | .eptr n i p,x=>Hh (λm=> .eptr m i p) x (pm π n)
 | .mp n,x=>Hh .mp x (pm π n)
 | .ch n,x=>Hh .ch x (pm π n)
 | .it n,x=>Hh .it x (pm π n)
 | .osl n a k,x=>Hh (λm=> .osl m a k) x (pm π n)
 | .agg z,.agg ds=>Dl π z ds
 | .agg z,.im (.agg ds)=>Dl π z (ds.map .im)
 | .agg _,_=>False
 | .tup _,_=>False
 | .clo _ _ _,_=>False
def Dl(π:List (Nat×Option Nat)):List AV->List AV->Prop
 |[],[]=>True
 |x::r,y::s=>mt π x y/\Dl π r s
 |[],_::_=>False
 |_::_,[]=>False
end
def Hm(π:List (Nat×Option Nat)):List (List AV)->List (List AV)->Prop
 |[],[]=>True
 |x::r,y::s=>Dl π x y/\Hm π r s
 |[],_::_=>False
 |_::_,[]=>False
def Df(π:List (Nat×Option Nat)):Ad->Ad->Prop
 | .cells T O,.cells U ds=>T=U/\Dl π O ds
 | .cells _ _,_=>False
 | .arr T k rows,.arr U k' z=>Ad.arr U k' z= .arr T k rows
 | .arr T k rows,.arrA U k' z=>T=U/\k=k'/\z=Bw rows
 | .arr _ _ _,.cells _ _=>False
 | .arr _ _ _,.map _ _=>False
 | .arr _ _ _,.chan _ _=>False
 | .arr _ _ _,.iter _ _=>False
 | .arr _ _ _,.view _=>False
 | .arrA T k rows,.arrA U k' z=>T=U/\k=k'/\Hm π rows z
 | .arrA T k rows,.arr U k' z=>T=U/\k=k'/\Hm π rows (Bw z)
 | .arrA _ _ _,.cells _ _=>False
 | .arrA _ _ _,.map _ _=>False
 | .arrA _ _ _,.chan _ _=>False
 | .arrA _ _ _,.iter _ _=>False
 | .arrA _ _ _,.view _=>False
 | .map Z Q,e=>e= .map Z Q
 | .chan q c,e=>e= .chan q c
 | .iter a l,e=>e= .iter a l
 | .view O,e=>e= .view O
def D9(π:List (Nat×Option Nat))(O:Bool)(e':Ad):Option Ap->Prop
 |some (z,e)=>z=O/\Df π e' e
 |none=>False
def ZU:Bool->Ad->Prop
 |true,.arr _ _ []=>True
 |true,.arrA _ _ []=>True
 |_,_=>False
def Ci(s:Az)(π:List (Nat×Option Nat))(z:Bool)(e':Ad):Option Nat->Prop
 |some m=>D9 π z e' (hget s.h m)
 |none=>ZU z e'
def EQ(π:List (Nat×Option Nat))(s:Az):TmT->Prop
 |[]=>True
 |(t,x)::r=>mt π x (AF s.tm t)/\EQ π s r
def F6(π:List (Nat×Option Nat))(s:Az):An->Prop
 |[]=>True
 |(n,(z,e))::r=>Ci s π z e (pm π n)/\F6 π s r
def JP(lo:Nat):List (Nat×Option Nat)->Prop
 |[]=>True
 |(a,_)::r=>lo<=a/\JP lo r
def EZ(π:List (Nat×Option Nat)):An->List (Option Nat)
 |[]=>[]
 |(n,_)::r=>pm π n::EZ π r
def Dg:List (Option Nat)->Bool
 |[]=>true
 |none::r=>Dg r
 |some m::r=> !r.contains (some m) && Dg r
def AB(lo:Nat)(π:List (Nat×Option Nat))(s s':Az):Prop:=JP lo π/\Dg (EZ π s'.h)=true/\EQ π s s'.tm/\F6 π s s'.h
def Nt{β:Type}(I:β->Az)(μ:β->Nat)(b:β)(Q:CI):CI
 | .normal,s=> ∃b',μ b'<μ b/\sub s (I b')
 | .exit i,s=>Q (.exit i) s
 | .ret,s=>Q .ret s
def Ns{β:Type}(lo:Nat)(I:β->Az)(μ:β->Nat)(b:β)(Q:CI):CI
 | .normal,s=> ∃b' π,μ b'<μ b/\AB lo π s (I b')
 | .exit i,s=>Q (.exit i) s
 | .ret,s=>Q .ret s
def dM(z:CI->Az->Prop)(Q:CI)(s:Az):Prop:=
 ∃(β:Type) (I:β->Az) (μ:β->Nat),(∀b,(I b).good=true/\s.nx<=(I b).nx)/\(∃b,sub s (I b))/\ ∀b,z (Nt I μ b Q) (I b)
def Qsi(z:CI->Az->Prop)(Q:CI)(s:Az):Prop:=
 ∃(β:Type) (I:β->Az) (μ:β->Nat),(∀b,(I b).good=true/\s.nx<=(I b).nx)/\(∃b π,AB s.nx π s (I b))/\ ∀b,z (Ns s.nx I μ b Q) (I b)
def IQ(F:List Nat):An->An
 |[]=>[]
 |(n,(z,e))::r=>(n,(z && !F.contains n,e))::IQ F r
def T9(F:List Nat)(s:Az):Az:=⟨s.tm,IQ F s.h,s.nx⟩
def Xx(z:CI->Az->Prop)(Q:CI)(s:Az):Prop:= ∃F:List Nat,dM z Q (T9 F s)
def Ia(n:Nat):Ad->AV
 | .arr _ w rows=> .im (.sl false w rows)
 | .cells _ _=> .own n
 | .arrA _ _ _=> .own n
 | .map _ _=> .own n
 | .chan _ _=> .own n
 | .iter _ _=> .own n
 | .view _=> .own n
def LS(n:Nat):Option Ap->AV
 |some e=>Ia n e.2
 |none=> .own n
def Ke(o p:Nat):Option (List D)->AV
 |some ds=> .im (.ref ds)
 |none=> .ptr o p
def Gz(o p:Nat):Option Ap->AV
 |some (_,.cells _ z)=>Ke o p (Ea (z.drop p))
 |some (_,.arr _ _ _)=> .ptr o p
 |some (_,.arrA _ _ _)=> .ptr o p
 |some (_,.map _ _)=> .ptr o p
 |some (_,.chan _ _)=> .ptr o p
 |some (_,.iter _ _)=> .ptr o p
 |some (_,.view _)=> .ptr o p
 |none=> .ptr o p
mutual
def AV.fzA(F:List Nat)(H:An):AV->AV
 | .own n=>bif F.contains n then LS n (hget H n) else .own n
 | .agg z=> .agg (DN F H z)
 | .any=> .any
 | .im d=> .im d
 | .tup z=> .tup z
 | .ptr o p=>bif F.contains o then (bif F.contains (o+4000000000) then Gz o p (hget H o) else .ptr o p) else .ptr o p
 | .eptr o i p=> .eptr o i p
 | .mp o=> .mp o
 | .ch o=> .ch o
 | .it o=> .it o
 | .osl o a n=> .osl o a n
 | .clo f a c=> .clo f a c
def DN(F:List Nat)(H:An):List AV->List AV
 |[]=>[]
 |x::r=>x.fzA F H::DN F H r
end
def DO(F:List Nat)(H:An):List (List AV)->List (List AV)
 |[]=>[]
 |x::r=>DN F H x::DO F H r
def Ad.fzA(F:List Nat)(H:An):Ad->Ad
 | .cells T z=> .cells T (DN F H z)
 | .arrA T k rows=> .arrA T k (DO F H rows)
 | .arr T k rows=> .arr T k rows
 | .map Q O=> .map Q O
 | .chan q c=> .chan q c
 | .iter a l=> .iter a l
 | .view z=> .view z
def IR(F:List Nat)(H:An):TmT->TmT
 |[]=>[]
 |(t,x)::r=>(t,x.fzA F H)::IR F H r
def Hw(F:List Nat)(H:An):An->An
 |[]=>[]
 |(n,(z,e))::r=>(n,(z && !F.contains n,e.fzA F H))::Hw F H r
def PH(F:List Nat)(s:Az):Az:=⟨IR F s.h s.tm,Hw F s.h s.h,s.nx⟩
def Nr{β:Type}(lo:Nat)(I:β->Az)(μ:β->Nat)(b:β)(Q:CI):CI
 | .normal,s=> ∃b' F π,μ b'<μ b/\AB lo π (PH F s) (I b')
 | .exit i,s=>Q (.exit i) s
 | .ret,s=>Q .ret s
def Qsf(z:CI->Az->Prop)(Q:CI)(s:Az):Prop:=
 ∃(β:Type) (I:β->Az) (μ:β->Nat),(∀b,(I b).good=true/\s.nx<=(I b).nx)/\(∃b F π,AB s.nx π (PH F s) (I b))/\ ∀b,z (Nr s.nx I μ b Q) (I b)
def AY(z:CI->Az->Prop)(Q:CI)(s:Az):Prop:=dM z Q s\/Qsi z Q s\/Xx z Q s\/Qsf z Q s
def AY.frr{z:CI->Az->Prop}{Q:CI}{s:Az}(h:Qsf z Q s):AY z Q s:=Or.inr (Or.inr (Or.inr h))
def AY.old{z:CI->Az->Prop}{Q:CI}{s:Az}(h:dM z Q s):AY z Q s:=Or.inl h
def AY.ren{z:CI->Az->Prop}{Q:CI}{s:Az}(h:Qsi z Q s):AY z Q s:=Or.inr (Or.inl h)
def AY.frz{z:CI->Az->Prop}{Q:CI}{s:Az}(F:List Nat)(h:dM z Q (T9 F s)):AY z Q s:=Or.inr (Or.inr (Or.inl ⟨F,h⟩))
def DH(P:Program)(V:DK):Code->CI->Az->Prop
 | .skip,Q,s=>Q .normal s
 | .region _ ops false,Q,s=>Qk P V (IG ops ops.toList) (Q .normal) s
 | .region _ ops true,Q,s=>Xr P V (FV ops.toList []) (IG ops ops.toList) 0 (Q .normal) [] s
 | .seq a b,Q,s=>DH P V a (Ol (DH P V b Q) Q) s
 | .cond c a b,Q,s=>yO (DH P V a) (DH P V b) Q s (Ay s.tm c)
 | .block id c,Q,s=>DH P V c (qL id Q) s
 | .loop c,Q,s=>AY (DH P V c) Q s
 | .exit id,Q,s=>Q (.exit id) s
 | .ret,Q,s=>Q .ret s
 |_,_,_=>False
end Go.Ae
