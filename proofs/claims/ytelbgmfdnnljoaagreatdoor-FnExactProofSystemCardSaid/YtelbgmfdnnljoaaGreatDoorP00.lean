/- Lemmas. Conditions: none. -/
import Derived.Orders
import Derived.Below
import Derived.Laws.Sem
import Derived.Lib.ItoaNum
set_option linter.all false
set_option maxHeartbeats 8000000
set_option maxRecDepth 100000
namespace Go
def AB:=@Option.some.inj
def AM:=@Option.some.injEq
def AR:=@Option.some_beq_none
def AS:=@Option.some_beq_some
def Bf:=@List.mem_of_getElem?
def B2:=@List.getElem?_eq_getElem
def AT:=@Option.getD_some
def AW:=@Bool.and_eq_true
def Af:=@if_neg
def Bj:=@Int.toNat_natCast
def Ai:=@if_pos
def BK:=@List.mem_cons_of_mem
def Cu:=@List.getElem?_eq_some_iff
def Bb:=@List.map_cons
def AP:=@Nat.le_refl
def Bk:=@List.mem_range
def BL:=@List.mem_singleton
def BQ:=@List.mem_cons_self
def Bz:=@List.mem_append
def BG:=@List.cons_append
def Bt:=@List.mem_cons
def Bn:=@List.mem_map
def Dl:=@Option.map_eq_some_iff
def Ck:=@List.length_take
def DB:=@List.drop_eq_nil_of_le
def DC:=@List.getElem?_set_self
def Cy:=@decide_eq_true_eq
def CQ:=@Bool.false_eq_true
def BD:=@List.map_nil
def C6:=@List.length_drop
def Bs:=@cond_false
def DL:=@List.getElem?_set_ne
def CM:=@List.all_eq_true
def Dt:=@List.getElem?_map
def Dd:=@List.length_cons
def DZ:=@List.length_append
def Dj:=@List.nil_append
def F9:=@List.take_of_length_le
def EE:=@Array.length_toList
def EF:=@List.getD_cons_zero
def EG:=@List.take_succ_cons
def H5:=@Array.getD_eq_getD_getElem?
def D6:=@List.append_nil
def D7:=@Option.map_some
def GD:=@Option.bind_eq_some_iff
def CD:=@Nat.le_trans
def H6:=@List.getElem?_append_left
def Cz:=@Nat.zero_le
def Fx:=@Nat.lt_of_lt_of_le
def DS:=@List.drop_drop
def FN:=@List.getElem?_range
def En:=@List.map_append
def HA:=@List.getElem?_cons_zero
def BV:=@cond_true
def J2:=@List.getElem?_append_right
def Eo:=@List.take_zero
def HB:=@List.getElem?_eq_none
def Ea:=@Prod.mk.injEq
def GQ:=@List.getD_cons_succ
def HC:=@Nat.mul_le_mul_right
def Gg:=@Classical.not_not
def Ep:=@Bool.and_true
def Du:=@Nat.add_mul
def J3:=@decide_eq_false_iff_not
def B5:=@if_true
def Fy:=@List.length_set
def Ew:=@Bool.true_and
def IC:=@List.contains_iff_mem
def HE:=@beq_eq_false_iff_ne
def Ii:=@List.map_congr_left
def GE:=@Option.bind_some
def ET:=@List.all_cons
def Lh:=@List.getElem?_replicate
def Gh:=@List.length_map
def NJ:=@List.eq_of_mem_replicate
def Kk:=@Array.getElem?_toList
def PH:=@Array.getElem?_eq_getElem
def FP:=@Bool.false_and
def Ki:=@List.mem_append_left
def QF:=@Array.getElem?_eq_some_iff
def Gf:=@List.drop_zero
def FA:=@Nat.add_assoc
def PG:=@List.getElem?_cons_succ
def CA:=@if_false
def I9:=@List.length_range
def IA:=@List.take_add_one
def NI:=@List.length_replicate
def EH:=@Nat.one_mul
def Ed:=@Nat.blt_eq
def H8:=@Bool.or_eq_true
def H9:=@List.length_nil
def FB:=@Nat.lt_or_ge
def FC:=@Nat.zero_add
def J0:=@List.append_assoc
def Lg:=@List.drop_succ_cons
def J1:=@List.flatMap_cons
def IB:=@List.take_length
def Vh:=@List.drop_eq_getElem_cons
def FO:=@Nat.add_zero
def Kj:=@Bool.not_eq_false
def De:=@congrArg
def Vi:=@List.length_eq_zero_iff
def QG:=@List.mem_append_right
def W5:=@List.mem_or_eq_of_mem_set
def QH:=@List.take_append_drop
def Vn:=@ByteArray.size_append
def Vo:=@List.mem_iff_getElem?
def dO:=@Array.getElem?_setIfInBounds
def W7:=@Array.getElem?_eq_none
def PJ:=@Bool.eq_false_iff
def PL:=@Bool.not_eq_true'
def Gi:=@Nat.ble_eq
def PM:=@List.not_mem_nil
def QI:=@List.ext_getElem?
def Kl:=@List.sum_cons
def E8:=@and_self
def dP:=@Array.getElem?_replicate
def J4:=@Nat.sub_self
def J5:=@Nat.zero_mul
def PN:=@decide_eq_false
def QJ:=@List.getElem_mem
def Vp:=@List.nodup_append
def W8:=@List.getElem?_drop
def Km:=@List.map_map
def dQ:=@List.zipWith_cons_cons
def QL:=@List.all_append
def Vq:=@Array.toList_map
def Vr:=@List.drop_append
def rD:=@List.eq_nil_of_length_eq_zero
def Li:=@List.all_nil
def PI:=@Bool.or_false
def Vj:=@List.cons.injEq
def Vk:=@List.range_zero
def dJ:=@List.mem_iff_getElem
def jB:=@Classical.epsilon_spec
def Zf:=@List.size_toArray
def Vl:=@decide_eq_true
def jC:=@Nat.le_of_ble_eq_true
def dK:=@List.contains_cons
def dL:=@List.set_cons_zero
def dM:=@Option.isSome_none
def Zg:=@Array.toList_inj
def NK:=@Int.le_refl
def Zh:=@Nat.min_le_right
def Fz:=@Ne.symm
def qZ:=@List.filter_cons_of_neg
def Hj:=@ite_self
def W6:=@Bool.not_false
def dN:=@List.contains_nil
def Zi:=@List.foldl_cons
def jD:=@List.length_reverse
def Zj:=@List.nodup_cons
def Zk:=@Nat.div_le_self
def yP:=@Int.tmod_eq_emod_of_nonneg
def rC:=@Array.getElem?_append
def Vm:=@List.map_set
def rK:=@List.set_append_right
def jH:=@List.set_cons_succ
def jI:=@Nat.eq_zero_or_pos
def Zn:=@Bool.and_false
def QM:=@decide_true
def dS:=@List.range_succ
def PO:=@beq_iff_eq
def Lj:=@forall_eq
def rL:=@List.length_pos_iff
def yZ:=@Nat.add_sub_cancel_left
def jJ:=@Bool.not_eq_true
def Zdl:=@List.drop_append_of_le_length
def rM:=@List.pairwise_cons
def jK:=@Bool.eq_iff_iff
def zA:=@List.getElem?_toArray
def jL:=@List.mem_filter
def dT:=@Bool.and_self
def dU:=@List.take_add
def rN:=@Nat.lt_trichotomy
def Lk:=@or_false
def Zdu:=@Array.getElem?_append_left
def Zdv:=@Array.toList_setIfInBounds
def Zdw:=@Int.tdiv_eq_ediv_of_nonneg
def zB:=@List.mem_of_mem_take
def jM:=@Bool.and_assoc
def jN:=@List.foldl_nil
def rE:=@List.mem_flatMap
def rF:=@beq_self_eq_true
def NL:=@true_and
def yQ:=@List.filter_eq_self
def yR:=@List.map_eq_nil_iff
def yS:=@List.takeWhile_cons
def ZdG:=@Array.size_setIfInBounds
def dR:=@Bool.or_true
def jE:=@Bool.not_true
def yT:=@Int.natCast_nonneg
def yU:=@List.find?_eq_none
def rG:=@List.find?_some
def rH:=@Nat.min_eq_left
def rJ:=@Nat.not_lt_zero
def yV:=@Option.toList_some
def ZdP:=@List.length_eq_one_iff
def ZdQ:=@List.zipWith_nil_right
def Zl:=@Array.ext'
def yW:=@Array.toList_push
def yX:=@List.foldl_append
def Zm:=@Nat.mod_lt
def yY:=@not_false_eq_true
def ZdW:=@Bool.and_eq_false_iff
def jF:=@Bool.true_or
def ZdY:=@Int.mul_le_mul_of_nonneg_right
def jG:=@Nat.add_comm
def jO:=@Nat.sub_zero
def zI:=@List.flatMap_nil
def zJ:=@List.nodup_range
def zK:=@Nat.le_add_right
def zL:=@forall_eq_or_imp
def Zef:=@List.range_eq_range'
def rP:=@Bool.false_or
def Zeh:=@Array.getElem?_append_right
def Zei:=@Array.toList_append
def Zej:=@Array.toList_modify
def zM:=@List.find?_cons
def Zel:=@List.flatMap_append
def Zem:=@List.mem_map_of_mem
def Zen:=@List.replicate_succ
def Zeo:=@List.toList_toArray
def jP:=@Nat.le_succ
def Zeq:=@Nat.mul_le_mul_left
def Zer:=@Int.fdiv_eq_ediv_of_nonneg
def Zes:=@List.exists_cons_of_ne_nil
def Zet:=@List.nodup_iff_pairwise_ne
def Zeu:=@List.perm_append_singleton
def Zev:=@Array.ext_getElem?
def Zew:=@Array.extract_size
def Zex:=@Array.toList_range
def Zey:=@List.getElem?_take
def Zez:=@List.getElem_range
def rO:=@Nat.succ_mul
def ZeB:=@Array.mapM_eq_mapM_toList
def zC:=@List.Perm.refl
def ZeD:=@List.isEmpty_eq_false_iff
def ZeE:=@List.mem_of_find?_eq_some
def ZeF:=@Option.isSome_iff_exists
def ZeG:=@List.eraseIdx_cons_succ
def ZeH:=@List.eraseIdx_cons_zero
def ZeI:=@List.filter_cons_of_pos
def zE:=@Nat.mul_assoc
def ZeK:=@Bool.cond_eq_ite
def ZeL:=@List.filter_cons
def ZeM:=@Nat.mod_eq_of_lt
def ZeN:=@ByteArray.append_assoc
def ZeO:=@Array.getElem?_modify
def ZeP:=@Array.mem_of_getElem?
def ZeQ:=@List.concat_eq_append
def ZeR:=@List.eq_nil_or_concat
def ZeS:=@List.eraseIdx_sublist
def ZeT:=@List.getElem?_reverse
def ZeU:=@List.head?_cons
def ZeV:=@List.length_filter_le
def ZeW:=@List.length_singleton
def zF:=@List.sum_nil
def zG:=@Nat.le_of_eq
def zH:=@Nat.le_total
def jQ:=@and_assoc
def zN:=@decide_false
def Zfc:=@Array.toList_extract
def Zfd:=@Bool.or_eq_false_iff
def Zfe:=@List.mem_of_mem_drop
def Zff:=@List.drop_take
def Zfg:=@List.cons.inj
def Zfh:=@List.drop_nil
def Zfi:=@List.take_nil
def Zfj:=@Nat.lt_irrefl
def dV:=@eq_true
def Zfl:=@List.set_set
end Go
namespace Go.Ae
def isG(_:Nat):Bool:=false
def gE:Array Value:=(Lib.pow10Tab.map λz=>Value.int .u64 z).toArray
def GP(ok:Nat->Prop)(hp:Nat->Option Obj):Prop:=ok 0/\ ∃T z,hp 0=some (.cells gE T z)
def GP.tab{ok:Nat->Prop}{hp:Nat->Option Obj}(h:GP ok hp):ok 0/\ ∃T z,hp 0=some (.cells gE T z):=h
def GP.mono{ok ok':Nat->Prop}{hp hp':Nat->Option Obj}(h: ∀b o,ok b->hp b=some o->ok' b/\hp' b=some o)(Q:GP ok hp):GP ok' hp':=by
 obtain⟨z,T,O,G⟩:=Q;exact⟨(h _ _ z G).1,T,O,(h _ _ z G).2⟩
def GP.at{ok:Nat->Prop}{hp:Nat->Option Obj}(_:GP ok hp){g:Nat}(G:isG g=true):ok g/\ ∃t x T z,hp g=some (.cells #[.iface t x] T z):=by cases G
end Go.Ae
namespace Go.Ae
inductive KK where
 |int (k:IntKind)
 |str
 |bool
 deriving DecidableEq
structure KT where
 agg:Bool
 ks:List KK
 deriving DecidableEq
inductive D where
 |int (k:IntKind) (n:Int)
 |bool (b:Bool)
 |str (s:ByteArray)
 |nilp|nilf|nili|nilc|nilm
 |agg (cs:List D)
 |tup (cs:List D)
 |sl (nz:Bool) (k:Nat) (rows:List (List D))
 |ref (cs:List D)
 |mp (kt:KT) (es:List (D×D))
 |fn (f:FuncId) (first capt:List D)
 |ifc (t:TypeId) (d:D)
 |gp (g:Nat)
 |tok (g:Nat)
def KK.fit:KK->D->Bool
 | .int k,.int k' _=>k==k'
 | .str,.str _=>true
 | .bool,.bool _=>true
 |_,_=>false
def B3:List KK->List D->Bool
 |[],[]=>true
 |k::ks,d::ds=>k.fit d && B3 ks ds
 |_,_=>false
def KT.fit(z:KT)(d:D):Bool:=
 match z.agg,d with
 |true,.agg ds=>B3 z.ks ds
 |false,d=>B3 z.ks [d]
 |_,_=>false
def Jr:Nat:=140737488355328
def Xa(f:Nat):Fn:=if f<1000000000 then .func f else .yield (f - 1000000000)
def cT{f:Nat}(h:f<1000000000):Xa f= .func f:=Ai h
def tU(nz:Bool)(v:Value):Prop:=v= .slice none 0 0\/(nz=false/\ ∃a,v= .slice (some a) 0 0)
def pH{nz:Bool}{v:Value}(h:tU nz v): ∃z,v= .slice z 0 0:=by
 rcases h with rfl|⟨_,a,rfl⟩<;>exact⟨_,rfl⟩
def wU{v:Value}(h:tU true v):v= .slice none 0 0:=by
 rcases h with rfl|⟨h,_⟩
 .rfl
 .cases h
def OV{nz:Bool}{v:Value}(h:tU nz v):tU false v:=by
 rcases h with rfl|⟨_,a,rfl⟩
 .exact .inl rfl
 .exact .inr ⟨rfl,a,rfl⟩
mutual
def rd(ok:Nat->Prop)(hp:Nat->Option Obj):D->Value->Prop
 | .int k n,v=>v= .int k n
 | .bool b,v=>v= .bool b
 | .str s,v=>v= .string s
 | .nilp,v=>v= .pointer none
 | .nilf,v=>v= .nilFunc
 | .nili,v=>v= .nilIface
 | .nilc,v=>v= .chan none
 | .nilm,v=>v= .map none
 | .agg Q,v=> ∃O:Array Value,v= .agg O/\rdl ok hp Q O.toList
 | .tup Q,v=> ∃O:Array Value,v= .tuple O/\rdl ok hp Q O.toList
 | .sl nz k rows,v=>(tU nz v/\rows=[])\/
  ∃b p cap O T Z,v= .slice (some ⟨b,p,none⟩) rows.length cap/\(nz=true->rows≠[])/\rows.length<=cap/\rows.length<=Jr/\ok b/\
   hp b=some (.cells O T Z)/\rdr ok hp k rows (O.toList.drop p)
 | .ref Q,v=> ∃b p O T Z,v= .pointer (some ⟨b,p,none⟩)/\ok b/\hp b=some (.cells O T Z)/\rdp ok hp Q (O.toList.drop p)
 | .mp kt es,v=> ∃b z G,v= .map (some b)/\(∀e∈es,kt.fit e.1=true)/\ok b/\hp b=some (.map z G)/\Cw ok hp es z.toList/\(z.toList.map (·.born)).Nodup/\ ∀e∈z.toList,e.born<G
 | .fn f first capt,v=> ∃a c:Array Value,v= .func (Xa f) a c/\rdl ok hp first a.toList/\rdl ok hp capt c.toList
 | .ifc t d,v=> ∃x,v= .iface t x/\rd ok hp d x
 | .gp g,v=>v= .pointer (some ⟨g,0,none⟩)
 | .tok g,v=>ok g/\(∃t x,v= .iface t x)/\ ∃T Z,hp g=some (.cells #[v] T Z)
def rdl(ok:Nat->Prop)(hp:Nat->Option Obj):List D->List Value->Prop
 |[],z=>z=[]
 |d::ds,z=> ∃v r,z=v::r/\rd ok hp d v/\rdl ok hp ds r
def rdp(ok:Nat->Prop)(hp:Nat->Option Obj):List D->List Value->Prop
 |[],_=>True
 |d::ds,z=> ∃v r,z=v::r/\rd ok hp d v/\rdp ok hp ds r
def rdr(ok:Nat->Prop)(hp:Nat->Option Obj)(k:Nat):List (List D)->List Value->Prop
 |[],_=>True
 |r::G,z=>r.length=k/\rdp ok hp r z/\rdr ok hp k G (z.drop k)
def Cw(ok:Nat->Prop)(hp:Nat->Option Obj):List (D×D)->List MapEntry->Prop
 |[],z=>z=[]
 |(x,y)::ds,z=> ∃e r,z=e::r/\rd ok hp x e.key/\rd ok hp y e.val/\Cw ok hp ds r
end
section mono
variable {ok ok':Nat->Prop}{hp hp':Nat->Option Obj}
mutual
def GI(h: ∀b,ok b->ok' b/\hp' b=hp b): ∀(d:D) (v:Value),rd ok hp d v->rd ok' hp' d v
 | .int _ _,_,hd=>by simpa only[rd] using hd
 | .bool _,_,hd=>by simpa only[rd] using hd
 | .str _,_,hd=>by simpa only[rd] using hd
 | .nilp,_,hd=>by simpa only[rd] using hd
 | .nilf,_,hd=>by simpa only[rd] using hd
 | .nili,_,hd=>by simpa only[rd] using hd
 | .nilc,_,hd=>by simpa only[rd] using hd
 | .nilm,_,hd=>by simpa only[rd] using hd
 | .gp _,_,hd=>by simpa only[rd] using hd
 | .tok g,v,hd=>by
   simp only[rd] at hd⊢;obtain⟨z,h3,T,fr,h2⟩:=hd;exact⟨(h g z).1,h3,T,fr,(h g z).2.trans h2⟩
 | .agg Z,v,hd=>by
   simp only[rd] at hd⊢;obtain⟨Q,rfl,z⟩:=hd;exact⟨Q,rfl,KU h Z _ z⟩
 | .tup Z,v,hd=>by
   simp only[rd] at hd⊢;obtain⟨Q,rfl,z⟩:=hd;exact⟨Q,rfl,KU h Z _ z⟩
 | .sl nz k rows,v,hd=>by
   simp only[rd] at hd⊢;rcases hd with hd|⟨b,p,cap,Q,T,fr,rfl,z,h2,h3,G,h5,h6⟩
   .exact .inl hd
   .exact .inr ⟨b,p,cap,Q,T,fr,rfl,z,h2,h3,(h b G).1,(h b G).2.trans h5,YD h k rows _ h6⟩
 | .ref Z,v,hd=>by
   simp only[rd] at hd⊢;obtain⟨b,p,Q,T,fr,rfl,G,h5,h6⟩:=hd;exact⟨b,p,Q,T,fr,rfl,(h b G).1,(h b G).2.trans h5,UW h Z _ h6⟩
 | .mp kt es,v,hd=>by
   simp only[rd] at hd⊢;obtain⟨b,aa,O,rfl,h3,G,h5,h6,h7⟩:=hd;exact⟨b,aa,O,rfl,h3,(h b G).1,(h b G).2.trans h5,KS h es _ h6,h7⟩
 | .fn f first capt,v,hd=>by
   simp only[rd] at hd⊢;obtain⟨a,c,rfl,z,h2⟩:=hd;exact⟨a,c,rfl,KU h first _ z,KU h capt _ h2⟩
 | .ifc t d,v,hd=>by
   simp only[rd] at hd⊢;obtain⟨x,rfl,z⟩:=hd;exact⟨x,rfl,GI h d _ z⟩
def KU(h: ∀b,ok b->ok' b/\hp' b=hp b): ∀(ds:List D) (vs:List Value),rdl ok hp ds vs->rdl ok' hp' ds vs
 |[],_,hd=>by simpa only[rdl] using hd
 |d::ds,vs,hd=>by
  simp only[rdl] at hd⊢;obtain⟨v,r,rfl,z,G⟩:=hd;exact⟨v,r,rfl,GI h d v z,KU h ds r G⟩
def UW(h: ∀b,ok b->ok' b/\hp' b=hp b): ∀(ds:List D) (vs:List Value),rdp ok hp ds vs->rdp ok' hp' ds vs
 |[],_,_=>by simp only[rdp]
 |d::ds,vs,hd=>by
  simp only[rdp] at hd⊢;obtain⟨v,r,rfl,z,G⟩:=hd;exact⟨v,r,rfl,GI h d v z,UW h ds r G⟩
def YD(h: ∀b,ok b->ok' b/\hp' b=hp b)(k:Nat): ∀(z:List (List D)) (vs:List Value),rdr ok hp k z vs->rdr ok' hp' k z vs
 |[],_,_=>by simp only[rdr]
 |r::z,vs,hd=>by
  simp only[rdr] at hd⊢;exact⟨hd.1,UW h r vs hd.2.1,YD h k z _ hd.2.2⟩
def KS(h: ∀b,ok b->ok' b/\hp' b=hp b): ∀(ds:List (D×D)) (es:List MapEntry),Cw ok hp ds es->Cw ok' hp' ds es
 |[],_,hd=>by simpa only[Cw] using hd
 |(x,y)::ds,es,hd=>by
  simp only[Cw] at hd⊢;obtain⟨e,r,rfl,z,G,O⟩:=hd;exact⟨e,r,rfl,GI h x _ z,GI h y _ G,KS h ds r O⟩
end
end mono
def D.sc:D->Bool
 | .int _ _| .bool _| .str _| .nilp| .nilf| .nili| .nilc| .nilm=>true
 | .sl true _ []=>true
 |_=>false
def D.scs:D->Bool
 | .agg z| .tup z=>z.all D.sc
 |d=>d.sc
def Dv{ok ok':Nat->Prop}{hp hp':Nat->Option Obj}: ∀{d:D} {v:Value},d.sc=true->rd ok hp d v->rd ok' hp' d v:=by
 intro d v h hd;cases d
 case sl nz k rows=>
  cases nz<;>cases rows<;>simp only[D.sc,CQ] at h;simp only[rd] at hd⊢;rcases hd with hd|⟨b,p,cap,O,T,G,_,z,_⟩
  .exact .inl hd
  .exact absurd rfl (z trivial)
 all_goals simp_all [D.sc,rd]
def Tw{ok ok':Nat->Prop}{hp hp':Nat->Option Obj}: ∀(ds:List D) (vs:List Value),ds.all D.sc=true->rdl ok hp ds vs->rdl ok' hp' ds vs
 |[],_,_,hd=>by simpa only[rdl] using hd
 |d::ds,vs,h,hd=>by
  simp only[rdl,ET,AW] at hd h⊢;obtain⟨v,r,rfl,z,G⟩:=hd;exact⟨v,r,rfl,Dv h.1 z,Tw ds r h.2 G⟩
def VK{ok ok':Nat->Prop}{hp hp':Nat->Option Obj}: ∀{d:D} {v:Value},d.scs=true->rd ok hp d v->rd ok' hp' d v:=by
 intro d v h hd;cases d<;>simp only[D.scs] at h<;>try exact Dv h hd
 all_goals
  simp only[rd] at hd⊢;obtain⟨G,rfl,z⟩:=hd;exact⟨G,rfl,Tw _ _ h z⟩
inductive AV where
 |any
 |im (d:D)
 |agg (cs:List AV)
 |tup (cs:List AV)
 |ptr (o off:Nat)
 |eptr (o i off:Nat)
 |own (o:Nat)
 |mp (o:Nat)
 |ch (o:Nat)
 |it (o:Nat)
 |osl (o a n:Nat)
 |clo (f:FuncId) (first capt:List AV)
 deriving Inhabited
inductive Ac where
 |cells (T:TypeId) (cs:List AV)
 |arr (T:TypeId) (k:Nat) (rows:List (List D))
 |arrA (T:TypeId) (k:Nat) (rows:List (List AV))
 |map (kt:KT) (es:List (D×D))
 |chan (q:List D) (cap:Nat)
 |iter (last:Option (D×D)) (left:List (D×D))
 |view (cs:List D)
def Ac.isView:Ac->Bool
 | .view _=>true
 | .cells _ _| .arr _ _ _| .arrA _ _ _| .map _ _| .chan _ _| .iter _ _=>false
abbrev Am:=Bool×Ac
abbrev Ao:=List (Nat×Am)
structure F2 where
 b:Nat
 p:Nat
 cap:Nat
structure Ay where
 ρ:Nat->Option F2
 ok:Nat->Prop
 h:Nat->Option Am
 w:World
def Ay.hp(S:Ay):Nat->Option Obj:=λb=>S.w.heap[b]?
def Ac.len:Ac->Nat
 | .arr _ _ rows=>rows.length
 | .arrA _ _ rows=>rows.length
 |_=>0
def Ac.esz:Ac->Nat
 | .arr _ k _=>k
 | .arrA _ k _=>k
 |_=>0
def P1(r:Option F2)(z len a n:Nat)(v:Value):Prop:=match r with
 |none=>v= .slice none 0 0/\n=0
 |some l=> ∃p G,v= .slice (some ⟨l.b,p,none⟩) n G/\n<=G/\(n≠0->p=l.p+a*z)/\a+n<=len
mutual
def Aa(S:Ay):AV->Value->Prop
 | .any,_=>True
 | .im d,v=>rd S.ok S.hp d v
 | .agg G,v=> ∃z:Array Value,v= .agg z/\AN S G z.toList
 | .tup G,v=> ∃z:Array Value,v= .tuple z/\AN S G z.toList
 | .ptr o off,v=>v.oneCell'=true/\ ∀e,S.h o=some e-> ∃l,S.ρ o=some l/\v= .pointer (some ⟨l.b,l.p+off,none⟩)
 | .eptr o i off,v=>v.oneCell'=true/\ ∀e,S.h o=some e-> ∃l,S.ρ o=some l/\v= .pointer (some ⟨l.b,l.p+i*e.2.esz+off,none⟩)
 | .own o,v=>v.oneCell'=true/\ ∀e,S.h o=some e->match S.ρ o with
  |none=>v= .slice none 0 0
  |some l=>v= .slice (some ⟨l.b,l.p,none⟩) e.2.len l.cap
 | .mp o,v=>v.oneCell'=true/\ ∀e,S.h o=some e-> ∃l,S.ρ o=some l/\v= .map (some l.b)
 | .ch o,v=>v.oneCell'=true/\ ∀e,S.h o=some e-> ∃l,S.ρ o=some l/\v= .chan (some l.b)
 | .it o,v=>v.oneCell'=true/\ ∀e,S.h o=some e-> ∃l,S.ρ o=some l/\v= .pointer (some ⟨l.b,0,none⟩)
 | .osl o a n,v=>v.oneCell'=true/\ ∀e,S.h o=some e->P1 (S.ρ o) e.2.esz e.2.len a n v
 | .clo f first capt,v=> ∃a c:Array Value,v= .func (Xa f) a c/\AN S first a.toList/\AN S capt c.toList
def AN(S:Ay):List AV->List Value->Prop
 |[],z=>z=[]
 |x::xs,z=> ∃v r,z=v::r/\Aa S x v/\AN S xs r
end
def Cm(S:Ay):List AV->List Value->Prop
 |[],_=>True
 |x::xs,z=> ∃v r,z=v::r/\Aa S x v/\Cm S xs r
def B7(S:Ay)(k:Nat):List (List AV)->List Value->Prop
 |[],_=>True
 |r::G,z=>r.length=k/\Cm S r z/\B7 S k G (z.drop k)
def Sq(ok:Nat->Prop)(hp:Nat->Option Obj)(z:Array MapEntry)(G:Array Nat):Option (D×D)->Prop
 |none=>True
 |some (x,y)=> ∃st e,G.back? =some st/\z.find? (·.born==st)=some e/\rd ok hp x e.key/\rd ok hp y e.val
def An(S:Ay)(l:Option F2):Ac->Prop
 | .cells T cs=> ∃O Q,l=some O/\O.p=0/\S.hp O.b=some (.cells Q T (0,0))/\AN S cs Q.toList
 | .arr T k rows=>rows.length<=Jr/\match l with
  |none=>rows=[]
  |some O=>rows.length<=O.cap/\ ∃Q,S.hp O.b=some (.cells Q T (0,0))/\O.p+O.cap*k<=Q.size/\rdr S.ok S.hp k rows (Q.toList.drop O.p)
 | .arrA T k rows=>rows.length<=Jr/\match l with
  |none=>rows=[]
  |some O=>rows.length<=O.cap/\ ∃Q,S.hp O.b=some (.cells Q T (0,0))/\O.p+O.cap*k<=Q.size/\B7 S k rows (Q.toList.drop O.p)
 | .map kt es=> ∃O z G,l=some O/\(∀e∈es,kt.fit e.1=true)/\S.hp O.b=some (.map z G)/\Cw S.ok S.hp es z.toList/\
  (z.toList.map (·.born)).Nodup/\ ∀e∈z.toList,e.born<G
 | .chan q cap=> ∃O aa ad ac,l=some O/\S.hp O.b=some (.chan cap aa false ad ac false)/\rdl S.ok S.hp q aa.toList
 | .iter ab left=> ∃O mb z G Z,l=some O/\S.ok mb/\Sq S.ok S.hp z Z ab/\S.hp mb=some (.map z G)/\
  S.hp O.b=some (.mapIter (some mb) G Z G)/\(z.toList.map (·.born)).Nodup/\(∀e∈z.toList,e.born<G)/\
  Cw S.ok S.hp left (z.toList.filter λe=> !Z.contains e.born)
 | .view cs=> ∃O Q T fr,l=some O/\S.hp O.b=some (.cells Q T fr)/\rdp S.ok S.hp cs (Q.toList.drop O.p)
structure AZ where
 w:World
 M:Nat->Prop
 ok:Nat->Prop
 n0:Nat
 h0:Nat->Option Am
 ρ0:Nat->Option F2
 ds:List Deferred
def AZ.mk0(w:World)(M ok:Nat->Prop):AZ:=⟨w,M,ok,0,λ_=>none,λ_=>none,[]⟩
def AZ.Pre(C:AZ)(S:Ay):Prop:= ∀o,o<C.n0-> ∀e',S.h o=some e'-> ∃e,C.h0 o=some e/\S.ρ o=C.ρ0 o/\e'.2.esz=e.2.esz/\e'.2.len=e.2.len
structure Wf(C:AZ)(S:Ay):Prop where
 os:S.w.os=C.w.os
 tape:S.w.tape=C.w.tape
 output:S.w.output=C.w.output
 dr:C.w.drawn<=S.w.drawn
 size:C.w.heap.size<=S.w.heap.size
 keep: ∀b,b<C.w.heap.size-> ¬C.M b->S.w.heap[b]? =C.w.heap[b]?
 ok0: ∀b,C.ok b->S.ok b
 ok1: ∀b,S.ok b->C.ok b\/C.w.heap.size<=b\/C.M b
 oks: ∀b,S.ok b->b<S.w.heap.size
 obj: ∀o e,S.h o=some e->An S (S.ρ o) e.2
 loc: ∀o e l,S.h o=some e->S.ρ o=some l->l.b<S.w.heap.size/\if e.1 then ¬S.ok l.b/\(C.w.heap.size<=l.b\/C.M l.b) else S.ok l.b\/e.2.isView=true
 inj: ∀o o' e e' l l',S.h o=some e->S.h o'=some e'->S.ρ o=some l->S.ρ o'=some l'->l.b=l'.b->(e.1||e'.1)=true->o=o'
 gl:GP (λb=>C.ok b/\ ¬C.M b) (λb=>C.w.heap[b]?)
def Wf.gp{C:AZ}{S:Ay}(h:Wf C S):GP S.ok S.hp:=by
 refine h.gl.mono λb o G z=>⟨h.ok0 b G.1,?_⟩
 have O:b<C.w.heap.size:=by
  apply Classical.byContradiction;intro hn
  have:C.w.heap[b]? =none:=W7 (by omega)
  rw[this] at z;cases z
 exact (h.keep b O G.2).trans z
def Wf.glN{C:AZ}{S:Ay}(h:Wf C S){M:Nat->Prop}(G: ∀b,M b-> ¬S.ok b):GP (λb=>S.ok b/\ ¬M b) (λb=>S.w.heap[b]?):=
 h.gp.mono λb _ z Q=>⟨⟨z,λO=>G b O z⟩,Q⟩
mutual
def AV.bel(n:Nat):AV->Bool
 | .any=>true
 | .im _=>true
 | .agg z=>AD n z
 | .tup z=>AD n z
 | .ptr o _=>Nat.blt o n
 | .eptr o _ _=>Nat.blt o n
 | .own o=>Nat.blt o n
 | .mp o=>Nat.blt o n
 | .ch o=>Nat.blt o n
 | .it o=>Nat.blt o n
 | .osl o _ _=>Nat.blt o n
 | .clo _ a c=>AD n a && AD n c
def AD(n:Nat):List AV->Bool
 |[]=>true
 |x::r=>x.bel n && AD n r
end
mutual
def AV.nms:AV->List Nat
 | .any=>[]
 | .im _=>[]
 | .agg z=>Aw z
 | .tup z=>Aw z
 | .ptr o _=>[o]
 | .eptr o _ _=>[o]
 | .own o=>[o]
 | .mp o=>[o]
 | .ch o=>[o]
 | .it o=>[o]
 | .osl o _ _=>[o]
 | .clo _ a c=>Aw a++Aw c
def Aw:List AV->List Nat
 |[]=>[]
 |x::r=>x.nms++Aw r
end
def Bx:List (List AV)->List Nat
 |[]=>[]
 |x::r=>Aw x++Bx r
def Ac.nms:Ac->List Nat
 | .cells _ z=>Aw z
 | .arr _ _ _=>[]
 | .arrA _ _ rows=>Bx rows
 | .map _ _=>[]
 | .chan _ _=>[]
 | .iter _ _=>[]
 | .view _=>[]
structure BE(X:Nat->Prop)(S S':Ay):Prop where
 ok: ∀b,S.ok b->S'.ok b/\S'.hp b=S.hp b
 nm: ∀o,X o-> ∀e',S'.h o=some e'-> ∃e,S.h o=some e/\S'.ρ o=S.ρ o/\e'.2.esz=e.2.esz/\e'.2.len=e.2.len
def BE.refl(X:Nat->Prop)(S:Ay):BE X S S:=⟨λ_ h=>⟨h,rfl⟩,λ_ _ e' h=>⟨e',h,rfl,rfl,rfl⟩⟩
section
variable {X:Nat->Prop}{S S':Ay}
mutual
def I1(hp:BE X S S'): ∀(x:AV) (v:Value),(∀o∈x.nms,X o)->Aa S x v->Aa S' x v
 | .any,_,_,_=>by simp only[Aa]
 | .im d,v,_,h=>by
   simp only[Aa] at h⊢;exact GI hp.ok d v h
 | .agg cs,v,G,h=>by
   simp only[Aa,AV.nms] at h G⊢;obtain⟨vs,rfl,h1⟩:=h;exact⟨vs,rfl,UP hp cs _ G h1⟩
 | .tup cs,v,G,h=>by
   simp only[Aa,AV.nms] at h G⊢;obtain⟨vs,rfl,h1⟩:=h;exact⟨vs,rfl,UP hp cs _ G h1⟩
 | .ptr o off,v,G,h=>by
   simp only[Aa,AV.nms,BL,Lj] at h G⊢;obtain⟨z,h⟩:=h;refine⟨z,?_⟩;intro e' O;obtain⟨e,Q,Z,_,_⟩:=hp.nm o G e' O;rw[Z];exact h e Q
 | .eptr o i off,v,G,h=>by
   simp only[Aa,AV.nms,BL,Lj] at h G⊢;obtain⟨z,h⟩:=h;refine⟨z,?_⟩;intro e' O;obtain⟨e,Q,Z,hz,_⟩:=hp.nm o G e' O;rw[Z,hz];exact h e Q
 | .own o,v,G,h=>by
   simp only[Aa,AV.nms,BL,Lj] at h G⊢;obtain⟨z,h⟩:=h;refine⟨z,?_⟩;intro e' O;obtain⟨e,Q,Z,_,hl⟩:=hp.nm o G e' O;rw[Z,hl];exact h e Q
 | .mp o,v,G,h=>by
   simp only[Aa,AV.nms,BL,Lj] at h G⊢;obtain⟨z,h⟩:=h;refine⟨z,?_⟩;intro e' O;obtain⟨e,Q,Z,_,_⟩:=hp.nm o G e' O;rw[Z];exact h e Q
 | .ch o,v,G,h=>by
   simp only[Aa,AV.nms,BL,Lj] at h G⊢;obtain⟨z,h⟩:=h;refine⟨z,?_⟩;intro e' O;obtain⟨e,Q,Z,_,_⟩:=hp.nm o G e' O;rw[Z];exact h e Q
 | .it o,v,G,h=>by
   simp only[Aa,AV.nms,BL,Lj] at h G⊢;obtain⟨z,h⟩:=h;refine⟨z,?_⟩;intro e' O;obtain⟨e,Q,Z,_,_⟩:=hp.nm o G e' O;rw[Z];exact h e Q
 | .osl o a n,v,G,h=>by
   simp only[Aa,AV.nms,BL,Lj] at h G⊢;obtain⟨z,h⟩:=h;refine⟨z,?_⟩;intro e' O;obtain⟨e,Q,Z,hz,hl⟩:=hp.nm o G e' O;rw[Z,hz,hl];exact h e Q
 | .clo f fi ca,v,G,h=>by
   simp only[Aa,AV.nms,Bz] at h G⊢;obtain⟨a,c,rfl,h1,h2⟩:=h;exact⟨a,c,rfl,UP hp fi _ (λo ho=>G o (.inl ho)) h1,UP hp ca _ (λo ho=>G o (.inr ho)) h2⟩
def UP(hp:BE X S S'): ∀(xs:List AV) (vs:List Value),(∀o∈Aw xs,X o)->AN S xs vs->AN S' xs vs
 |[],_,_,h=>by simpa only[AN] using h
 |x::xs,vs,G,h=>by
  simp only[AN,Aw,Bz] at h G⊢;obtain⟨v,r,rfl,O,Q⟩:=h;exact⟨v,r,rfl,I1 hp x v (λo z=>G o (.inl z)) O,UP hp xs r (λo z=>G o (.inr z)) Q⟩
end
def Qq7(hp:BE X S S'): ∀(xs:List AV) (vs:List Value),(∀o∈Aw xs,X o)->Cm S xs vs->Cm S' xs vs
 |[],_,_,_=>by simp only[Cm]
 |x::xs,vs,G,h=>by
  simp only[Cm,Aw,Bz] at h G⊢;obtain⟨v,r,rfl,O,Q⟩:=h;exact⟨v,r,rfl,I1 hp x v (λo z=>G o (.inl z)) O,Qq7 hp xs r (λo z=>G o (.inr z)) Q⟩
def nQ(hp:BE X S S')(k:Nat): ∀(z:List (List AV)) (vs:List Value),(∀o∈Bx z,X o)->B7 S k z vs->B7 S' k z vs
 |[],_,_,_=>by simp only[B7]
 |r::z,vs,O,h=>by
  simp only[B7,Bx,Bz] at h O⊢;exact⟨h.1,Qq7 hp r vs (λo G=>O o (.inl G)) h.2.1,nQ hp k z _ (λo G=>O o (.inr G)) h.2.2⟩
def Qly{ok ok':Nat->Prop}{hp hp':Nat->Option Obj}(h: ∀b,ok b->ok' b/\hp' b=hp b){z:Array MapEntry}{G:Array Nat}: ∀(l:Option (D×D)),Sq ok hp z G l->Sq ok' hp' z G l
 |none,_=>trivial
 |some (x,y),O=>by
  obtain⟨st,e,a,b,c,d⟩:=O;exact⟨st,e,a,b,GI h x _ c,GI h y _ d⟩
def Hd(hp:BE X S S'){l:Option F2}(hl: ∀z,l=some z->S'.hp z.b=S.hp z.b): ∀(e:Ac),(∀o∈e.nms,X o)->An S l e->An S' l e
 | .cells T cs,hx,h=>by
   simp only[An,Ac.nms] at h hx⊢;obtain⟨z,vs,G,Q,Z,h4⟩:=h;exact⟨z,vs,G,Q,(hl z G).trans Z,UP hp cs _ hx h4⟩
 | .arr T k rows,hx,h=>by
   simp only[An] at h⊢;refine⟨h.1,?_⟩;cases l with
   |none=>exact h.2
   |some z=>
    obtain⟨h0,G,vs,Q,Z,h4⟩:=h;exact⟨G,vs,(hl z rfl).trans Q,Z,YD hp.ok k rows _ h4⟩
 | .arrA T k rows,hx,h=>by
   simp only[An,Ac.nms] at h hx⊢;refine⟨h.1,?_⟩;cases l with
   |none=>exact h.2
   |some z=>
    obtain⟨h0,G,vs,Q,Z,h4⟩:=h;exact⟨G,vs,(hl z rfl).trans Q,Z,nQ hp k rows _ hx h4⟩
 | .map kt es,_,h=>by
   simp only[An] at h⊢;obtain⟨z,aa,O,G,h0,Q,Z,h4⟩:=h;exact⟨z,aa,O,G,h0,(hl z G).trans Q,KS hp.ok es _ Z,h4⟩
 | .chan q cap,_,h=>by
   simp only[An] at h⊢;obtain⟨z,ag,af,ac,G,Q,Z⟩:=h;exact⟨z,ag,af,ac,G,(hl z G).trans Q,KU hp.ok q _ Z⟩
 | .iter ab left,_,h=>by
   simp only[An] at h⊢;obtain⟨z,mb,aa,O,ad,G,Q,h0,Z,h4,h5,h6,h7⟩:=h;exact⟨z,mb,aa,O,ad,G,(hp.ok mb Q).1,Qly hp.ok ab h0,(hp.ok mb Q).2.trans Z,(hl z G).trans h4,h5,h6,KS hp.ok left _ h7⟩
 | .view cs,_,h=>by
   simp only[An] at h⊢;obtain⟨z,vs,T,fr,G,Q,Z⟩:=h;exact⟨z,vs,T,fr,G,(hl z G).trans Q,UW hp.ok cs _ Z⟩
end
inductive TK where
 |bool
 |str
 |ptr (e:TypeId)
 |int (k:IntKind)
 |slice (e:TypeId)
 |array (n:Nat) (e:TypeId)
 |struct (fs:List (Nat×Nat))
 |map (k e:TypeId)
 |other
structure TI where
 size:Nat
 bytes:Nat
 agg:Bool
 kind:TK
 zero:List D
def zD:Value->D
 | .bool b=> .bool b
 | .int k n=> .int k n
 | .string s=> .str s
 | .pointer none=> .nilp
 | .slice none _ _=> .sl true 0 []
 | .map none=> .nilm
 | .chan none=> .nilc
 | .nilFunc=> .nilf
 |_=> .nili
def ZN:Value->Bool
 | .bool _| .int _ _| .string _| .pointer none| .slice none 0 0| .map none| .chan none| .nilFunc| .nilIface=>true
 |_=>false
def zOf:Bool->Option Value->List D
 |true,some (.agg z)=>bif z.toList.all ZN then z.toList.map zD else []
 |false,some v=>bif ZN v then [zD v] else []
 |_,_=>[]
def NM:TypeDesc->Bool
 | .struct _| .array _ _=>true
 |_=>false
def Fo(P:Program):TypeDesc->TK
 | .int k=> .int k
 | .slice e=> .slice e
 | .array n e=> .array n e
 | .struct z=>bif z.toList.all (λf=>(P.info? f.type).isSome) then .struct (z.toList.map λf=>(f.offset,((P.info? f.type).map (·.size)).getD 0)) else .other
 | .map k e=> .map k e
 | .bool=> .bool
 | .string=> .str
 | .pointer e=> .ptr e
 |_=> .other
def tI(P:Program)(t:TypeId):Option TI:=
 match P.info? t,P.underlying t with
 |some i,some u=>some {size:=i.size,bytes:=i.bytes,agg:=NM u,kind:=Fo P u,zero:=zOf (NM u) i.zero}
 |_,_=>none
structure Bv where
 use:List Nat:=[]
 kill:List Nat:=[]
 new:Ao:=[]
 cnt:Nat:=0
structure Az where
 tm:List (Nat×AV)
 h:Ao
 nx:Nat
def A8:List (Nat×AV)->Nat->AV
 |[],_=> .any
 |(m,x)::r,n=>bif m==n then x else A8 r n
def hget:Ao->Nat->Option Am
 |[],_=>none
 |(m,e)::r,n=>bif m==n then some e else hget r n
def Ba:Ao->List Nat->Ao
 |[],_=>[]
 |(m,e)::r,ks=>bif ks.contains m then Ba r ks else (m,e)::Ba r ks
def Az.put(s:Az)(dst:Option Nat)(x:AV):Az:=
 match dst with
 |some d=>⟨(d,x)::s.tm,s.h,s.nx⟩
 |none=>s
def Az.app(s:Az)(dst:Option Nat)(r:AV)(E:Bv):Az:=
 (⟨s.tm,E.new++Ba s.h E.kill,s.nx+E.cnt⟩:Az).put dst r
def kD:Value->AV
 | .bool b=> .im (.bool b)
 | .int k n=> .im (.int k n)
 | .string s=> .im (.str s)
 | .pointer none=> .im .nilp
 | .slice none 0 0=> .im (.sl true 0 [])
 | .map none=> .im .nilm
 | .chan none=> .im .nilc
 | .nilFunc=> .im .nilf
 | .nilIface=> .im .nili
 |_=> .any
def Ap(tm:List (Nat×AV)):Operand->AV
 | .tmp t=>A8 tm t
 | .const v=>kD v
 | .global g=> .im (.gp g)
 | .func f=>bif Nat.blt f 1000000000 then .im (.fn f [] []) else .any
def D.cells:D->List D
 | .agg ds=>ds
 | .int k n=>[.int k n]
 | .bool b=>[.bool b]
 | .str s=>[.str s]
 | .nilp=>[.nilp]
 | .nilf=>[.nilf]
 | .nili=>[.nili]
 | .nilc=>[.nilc]
 | .nilm=>[.nilm]
 | .tup z=>[.tup z]
 | .sl Q k rows=>[.sl Q k rows]
 | .ref z=>[.ref z]
 | .mp O G=>[.mp O G]
 | .fn f a c=>[.fn f a c]
 | .ifc t d=>[.ifc t d]
 | .gp g=>[.gp g]
 | .tok g=>[.tok g]
def AV.cells:AV->List AV
 | .im d=>d.cells.map .im
 | .agg z=>z
 | .any=>[]
 | .tup z=>[.tup z]
 | .ptr o p=>[.ptr o p]
 | .eptr o i p=>[.eptr o i p]
 | .own o=>[.own o]
 | .mp o=>[.mp o]
 | .ch o=>[.ch o]
 | .it o=>[.it o]
 | .osl o a n=>[.osl o a n]
 | .clo f a c=>[.clo f a c]
def D.one:D->Bool
 | .agg _| .tup _=>false
 | .int _ _| .bool _| .str _| .nilp| .nilf| .nili| .nilc| .nilm| .sl _ _ _| .ref _| .mp _ _| .fn _ _ _| .ifc _ _| .gp _| .tok _=>true
def AV.one:AV->Bool
 | .im d=>d.one
 | .agg _| .any| .tup _=>false
 | .ptr _ _| .eptr _ _ _| .own _| .mp _| .ch _| .it _| .osl _ _ _| .clo _ _ _=>true
def Q7:List AV->Bool
 |[]=>true
 |x::r=>x.one && Q7 r
def AV.asD:AV->Option D
 | .im d=>some d
 | .agg _| .any| .tup _| .ptr _ _| .eptr _ _ _| .own _| .mp _| .ch _| .it _| .osl _ _ _| .clo _ _ _=>none
def NB:Option D->Option (List D)->Option (List D)
 |some d,some ds=>some (d::ds)
 |some _,none=>none
 |none,_=>none
def Ds:List AV->Option (List D)
 |[]=>some []
 |x::r=>NB x.asD (Ds r)
def X1(cs:List AV):Option (List D)->AV
 |some ds=> .im (.agg ds)
 |none=> .agg cs
def zQ:List AV->AV
 |[]=> .any
 |x::_=>x
def jZ:List D->D
 |[]=> .nilp
 |x::_=>x
def eQ(agg:Bool)(cs:List AV):AV:=
 bif agg then X1 cs (Ds cs) else zQ cs
def Z4(agg:Bool)(ds:List D):D:=bif agg then .agg ds else jZ ds
def BW{α:Type}(l:List α)(off:Nat)(x:List α):List α:=l.take off++x++l.drop (off+x.length)
abbrev Ah:=AV->Bv->Prop
mutual
def D.beq:D->D->Bool
 | .int _ a,.int _ b=>a==b
 | .bool a,.bool b=>a==b
 | .str a,.str b=>a==b
 | .agg a,.agg b=>D.beql a b
 |_,_=>false
def D.beql:List D->List D->Bool
 |[],[]=>true
 |a::r,b::s=>D.beq a b && D.beql r s
 |_,_=>false
end
def lk:List (D×D)->D->Option D
 |[],_=>none
 |(k,v)::r,x=>bif D.beq x k then some v else lk r x
def Ek:List (D×D)->D->D->List (D×D)
 |[],x,y=>[(x,y)]
 |(k,v)::r,x,y=>bif D.beq x k then (x,y)::r else (k,v)::Ek r x y
def L2:List (D×D)->D->List (D×D)
 |[],_=>[]
 |(k,v)::r,x=>bif D.beq x k then r else (k,v)::L2 r x
def YY(P:Program)(G:TypeId->Option KT):List Field->Nat->Option (List KK)
 |[],_=>some []
 |f::O,off=>
  match G f.type,P.info? f.type with
  |some z,some i=>
   bif f.offset==off && (f.name != "_" && i.size==z.ks.length) then (YY P G O (off+z.ks.length)).map (z.ks++ ·) else none
  |_,_=>none
def DF(P:Program):Nat->TypeId->Option KT
 |0,_=>none
 |n+1,t=>
  match P.underlying t with
  |some (.int k)=>some ⟨false,[.int k]⟩
  |some .string=>some ⟨false,[.str]⟩
  |some .bool=>some ⟨false,[.bool]⟩
  |some (.struct z)=>bif P.stoodInHeld t then none else (YY P (DF P n) z.toList 0).map (⟨true,·⟩)
  |_=>none
def BI(P:Program)(t:TypeId):Option KT:=DF P 5 t
def Jx{α:Type}(rows:List (List α))(i:Nat)(K:List α->Prop):Prop:= ∀row,rows[i]? =some row->K row
def Ip(es:List (D×D))(kd:D)(Ks:D->Prop)(Kn:Prop):Prop:=(∀v,lk es kd=some v->Ks v)/\(lk es kd=none->Kn)
def cS(ti:TI)(off:Nat)(E:Bv)(K:Ah)(row:List D):Prop:=(ti.agg=true\/ti.size=1)/\off+ti.size<=row.length/\K (.im (Z4 ti.agg ((row.drop off).take ti.size))) E
def qL(ti:TI)(off:Nat)(E:Bv)(K:Ah)(row:List AV):Prop:=(ti.agg=true\/ti.size=1)/\off+ti.size<=row.length/\K (eQ ti.agg ((row.drop off).take ti.size)) E
def IS(ti:TI)(o off:Nat)(K:Ah):Option Am->Prop
 |some (_,.cells _ z)=>qL ti off {use:=[o]} K z
 |some (_,.view z)=>cS ti off {use:=[o]} K z
 |_=>False
def IR(ti:TI)(o i off:Nat)(K:Ah):Option Am->Prop
 |some (_,.arr _ _ rows)=>i<rows.length/\Jx rows i (cS ti off {use:=[o]} K)
 |some (_,.arrA _ _ rows)=>i<rows.length/\Jx rows i (qL ti off {use:=[o]} K)
 |_=>False
def Wu(h:Nat->Option Am)(ti:TI)(K:Ah):AV->Prop
 | .im (.ref z)=>cS ti 0 {} K z
 | .im (.gp g)=>isG g=true/\ti.size=1/\ti.agg=false/\K (.im (.tok g)) {}
 | .ptr o off=>IS ti o off K (h o)
 | .eptr o i off=>IR ti o i off K (h o)
 |_=>False
def Xs(o i off k z:Nat)(T:TypeId)(rows:List (List D))(K:Ah)(row:List D):Option (List D)->Prop
 |some ds=>off+z<=row.length/\K .any {use:=[o],kill:=[o],new:=[(o,(true,.arr T k (rows.set i (BW row off ds))))]}
 |none=>False
def Qxz(o i off k z:Nat)(T:TypeId)(rows:List (List D))(ds:Option (List D))(K:Ah)(row:List D):Prop:=Xs o i off k z T rows K row ds
def Qyo(o i off k z:Nat)(T:TypeId)(rows:List (List AV))(vs:List AV)(K:Ah)(row:List AV):Prop:=
 off+z<=row.length/\K .any {use:=[o],kill:=[o],new:=[(o,(true,.arrA T k (rows.set i (BW row off vs))))]}
def TZ(ti:TI)(o off:Nat)(vs:List AV)(K:Ah):Option Am->Prop
 |some (true,.cells T z)=>off+ti.size<=z.length/\K .any {use:=[o],kill:=[o],new:=[(o,(true,.cells T (BW z off vs)))]}
 |_=>False
def Jg(ti:TI)(o i off:Nat)(vs:List AV)(K:Ah):Option Am->Prop
 |some (true,.arr T k rows)=>i<rows.length/\Jx rows i (Qxz o i off k ti.size T rows (Ds vs) K)
 |some (true,.arrA T k rows)=>i<rows.length/\Jx rows i (Qyo o i off k ti.size T rows vs K)
 |_=>False
def nU(h:Nat->Option Am)(ti:TI)(vs:List AV)(K:Ah):AV->Prop
 | .ptr o off=>TZ ti o off vs K (h o)
 | .eptr o i off=>Jg ti o i off vs K (h o)
 |_=>False
def wW(h:Nat->Option Am)(x v:AV)(K:Ah)(ti:TI):Prop:=
 ti.size≠0/\v.cells.length=ti.size/\Q7 v.cells=true/\nU h ti v.cells K x
def QP(o:Nat)(x:AV)(K:Ah):Option Am->Prop
 |some _=>K x {use:=[o]}
 |none=>False
def K0(h:Nat->Option Am)(off:Nat)(K:Ah):AV->Prop
 | .im (.ref z)=>off<=z.length/\K (.im (.ref (z.drop off))) {}
 | .ptr o p=>QP o (.ptr o (p+off)) K (h o)
 | .eptr o i p=>QP o (.eptr o i (p+off)) K (h o)
 |_=>False
def WX(h:Nat->Option Am)(x:AV)(K:Ah):Option (Nat×Nat)->Prop
 |some (off,z)=>z≠0/\K0 h off K x
 |none=>False
def faK(h:Nat->Option Am)(x:AV)(f:Nat)(K:Ah):TK->Prop
 | .struct z=>WX h x K z[f]?
 |_=>False
def uN(h:Nat->Option Am)(x:AV)(f:Nat)(K:Ah)(ti:TI):Prop:=faK h x f K ti.kind
def sV(K:Ah)(row:List D):Prop:=K (.im (.ref row)) {}
def LK(o:Nat)(n:Int)(K:Ah)(z:TI):Option Am->Prop
 |some (_,.arr _ k rows)=>k=z.size/\0<=n/\n<(rows.length:Int)/\K (.eptr o n.toNat 0) {use:=[o]}
 |some (_,.arrA _ k rows)=>k=z.size/\0<=n/\n<(rows.length:Int)/\K (.eptr o n.toNat 0) {use:=[o]}
 |_=>False
def Sc(o a m:Nat)(n:Int)(K:Ah)(z:TI):Option Am->Prop
 |some (_,.arr _ k rows)=>k=z.size/\0<=n/\n<(m:Int)/\a+m<=rows.length/\K (.eptr o (a+n.toNat) 0) {use:=[o]}
 |_=>False
def Sb(h:Nat->Option Am)(n:Int)(K:Ah)(x:AV)(z:TI):Prop:=
 match x with
 | .im (.sl _ k rows)=>k=z.size/\0<=n/\n<(rows.length:Int)/\Jx rows n.toNat (sV K)
 | .own o=>LK o n K z (h o)
 | .osl o a m=>Sc o a m n K z (h o)
 |_=>False
def LJ(h:Nat->Option Am)(m:Nat)(n:Int)(K:Ah)(x:AV)(z:TI):Prop:=
 match x with
 | .ptr o p=>0<=n/\n<(m:Int)/\QP o (.ptr o (p+n.toNat*z.size)) K (h o)
 | .im (.ref G)=>0<=n/\n<(m:Int)/\n.toNat*z.size<=G.length/\K (.im (.ref (G.drop (n.toNat*z.size)))) {}
 |_=>False
def Bh(f:TI->Prop):Option TI->Prop
 |some ti=>f ti
 |none=>False
def sQ(P:Program)(h:Nat->Option Am)(x:AV)(n:Int)(K:Ah):TK->Prop
 | .slice e=>Bh (Sb h n K x) (tI P e)
 | .array m e=>Bh (LJ h m n K x) (tI P e)
 |_=>False
def Qjp(P:Program)(h:Nat->Option Am)(x:AV)(ti:TI)(K:Ah):AV->Prop
 | .im (.int _ n)=>sQ P h x n K ti.kind
 |_=>False
def Sl(m:Nat)(n:Int)(cs:List D)(K:Ah)(z:TI):Prop:=
 (z.agg=true\/z.size=1)/\0<=n/\n<(m:Int)/\n.toNat*z.size+z.size<=cs.length/\K (.im (Z4 z.agg ((cs.drop (n.toNat*z.size)).take z.size))) {}
def ZO(s:ByteArray)(i:Nat)(K:UInt8->Prop):Prop:= ∀c,s.data[i]? =some c->K c
def kCh(K:Ah)(c:UInt8):Prop:=K (.im (.int .u8 c.toNat)) {}
def zS(P:Program)(n:Int)(K:Ah):TK->AV->Prop
 | .array m e,.im (.agg z)=>Bh (Sl m n z K) (tI P e)
 | .str,.im (.str s)=>0<=n/\n<(s.size:Int)/\ZO s n.toNat (kCh K)
 |_,_=>False
def Qxc(P:Program)(x:AV)(ti:TI)(K:Ah):AV->Prop
 | .im (.int _ n)=>zS P n K ti.kind x
 |_=>False
def GF:BinOp->Nat
 | .shr=>1
 | .shl=>2
 | .add| .sub| .mul| .quo| .rem| .and| .or| .xor| .andNot| .eql| .neq| .lss| .leq| .gtr| .geq=>0
def W9(k:IntKind)(a b:Int):Int:=k.wrap ((BitVec.ofInt k.bits a &&& BitVec.ofInt k.bits b).toNat:Int)
def orI(k:IntKind)(a b:Int):Int:=k.wrap ((BitVec.ofInt k.bits a|||BitVec.ofInt k.bits b).toNat:Int)
def tW(k:IntKind)(a b:Int):Int:=k.wrap ((BitVec.ofInt k.bits a^^^BitVec.ofInt k.bits b).toNat:Int)
def I5(op:BinOp)(k:IntKind)(a b:Int)(K:Ah):Prop:=
 match op with
 | .add=>K (.im (.int k (k.wrap (a+b)))) {}
 | .sub=>K (.im (.int k (k.wrap (a - b)))) {}
 | .mul=>K (.im (.int k (k.wrap (a*b)))) {}
 | .quo=>b≠0/\K (.im (.int k (k.wrap (a.tdiv b)))) {}
 | .rem=>b≠0/\K (.im (.int k (a.tmod b))) {}
 | .eql=>K (.im (.bool (decide (a=b)))) {}
 | .neq=>K (.im (.bool (!decide (a=b)))) {}
 | .lss=>K (.im (.bool (decide (a<b)))) {}
 | .leq=>K (.im (.bool (decide (a<=b)))) {}
 | .gtr=>K (.im (.bool (decide (b<a)))) {}
 | .geq=>K (.im (.bool (decide (b<=a)))) {}
 | .and=>K (.im (.int k (W9 k a b))) {}
 | .or=>K (.im (.int k (orI k a b))) {}
 | .xor=>K (.im (.int k (tW k a b))) {}
 |_=>False
def Zs(neg:Bool)(K:Ah)(b:Bool):Prop:=K (.im (.bool (neg !=b))) {}
def R8(neg:Bool)(K:Ah):AV->Prop
 | .im (.sl true _ rows)=>Zs neg K rows.isEmpty
 |_=>False
def pY(h:Nat->Option Am)(neg:Bool)(K:Ah):AV->Prop
 | .im .nilp=>Zs neg K true
 | .im (.ref _)=>Zs neg K false
 | .ptr o _=>QP o (.im (.bool neg)) K (h o)
 | .eptr o _ _=>QP o (.im (.bool neg)) K (h o)
 |_=>False
def V5(h:Nat->Option Am)(neg:Bool)(K:Ah):AV->Prop
 | .im .nilm=>Zs neg K true
 | .im (.mp _ _)=>Zs neg K false
 | .mp o=>QP o (.im (.bool neg)) K (h o)
 |_=>False
def Wn(h:Nat->Option Am)(neg:Bool)(K:Ah)(x:AV):Nat->TK->Prop
 |0,.slice _=>R8 neg K x
 |1,.ptr _=>pY h neg K x
 |2,.map _ _=>V5 h neg K x
 |_,_=>False
def Nu(op:BinOp)(a b:ByteArray)(K:Ah):Prop:=
 match op with
 | .eql=>K (.im (.bool (decide (a=b)))) {}
 | .neq=>K (.im (.bool (!decide (a=b)))) {}
 | .add=>a.size+b.size<=9223372036854775807/\K (.im (.str (a++b))) {}
 |_=>False
def Jj(op:BinOp)(a b:Bool)(K:Ah):Prop:=
 match op with
 | .eql=>K (.im (.bool (a==b))) {}
 | .neq=>K (.im (.bool (a !=b))) {}
 |_=>False
def MJ(op:BinOp)(a b:Bool)(K:Ah):Option TI->Prop
 |some ti=>ti.kind= .bool/\Jj op a b K
 |none=>False
def pJ(op:BinOp)(a b:List D)(K:Ah):Prop:=
 match op with
 | .eql=>K (.im (.bool (D.beql a b))) {}
 | .neq=>K (.im (.bool (!D.beql a b))) {}
 |_=>False
def pG(P:Program)(T:TypeId)(op:BinOp)(a b:List D)(K:Ah):Option KT->Prop
 |some z=>z.fit (.agg a)=true/\z.fit (.agg b)=true/\P.eqGuardType P.depth T=false/\pJ op a b K
 |none=>False
def YP(op:BinOp)(k:IntKind)(a:Int)(k':IntKind)(b:Int)(K:Ah):Nat->Prop
 |0=>k=k'/\I5 op k a b K
 |1=>0<=b/\K (.im (.int k (a.fdiv (2^min b.toNat k.bits)))) {}
 |_+2=>0<=b/\K (.im (.int k (k.wrap (a*2^min b.toNat k.bits)))) {}
def cX(P:Program)(T:TypeId)(op:BinOp)(K:Ah):AV->AV->Prop
 | .im (.int k a),.im (.int k' b)=>YP op k a k' b K (GF op)
 | .im (.str a),.im (.str b)=>Nu op a b K
 | .im (.bool a),.im (.bool b)=>MJ op a b K (tI P T)
 | .im (.agg a),.im (.agg b)=>pG P T op a b K (BI P T)
 |_,_=>False
def Yk(K:Ah):UnOp->AV->Prop
 | .not,.im (.bool b)=>K (.im (.bool (!b))) {}
 | .neg,.im (.int k n)=>K (.im (.int k (k.wrap (-n)))) {}
 |_,_=>False
def YW(cells:List AV)(vs:List AV):Option (Nat×Nat)->Option (List AV)
 |none=>none
 |some (off,size)=>bif vs.length==size && (Nat.blt 0 size && Nat.ble (off+size) cells.length) then some (BW cells off vs) else none
def Hy(place:Nat->Option (Nat×Nat)):List (Nat×AV)->Option (List AV)->Option (List AV)
 |[],r=>r
 |_::_,none=>none
 |(i,v)::z,some cells=>Hy place z (YW cells v.cells (place i))
def Jc(k i:Nat):Option (Nat×Nat):=some (i*k,k)
def Mv(z:List (Nat×Nat))(i:Nat):Option (Nat×Nat):=z[i]?
def Nn(K:Ah):Option (List AV)->Prop
 |some z=>K (eQ true z) {}
 |none=>False
def QV(O:List AV)(z:List (Nat×AV))(K:Ah)(G:TI):Prop:=Nn K (Hy (Jc G.size) z (some O))
def rZ(P:Program)(G:List AV)(z:List (Nat×AV))(K:Ah):TK->Prop
 | .struct O=>Nn K (Hy (Mv O) z (some G))
 | .array _ e=>Bh (QV G z K) (tI P e)
 |_=>False
def xP(P:Program)(z:List (Nat×AV))(K:Ah)(ti:TI):Prop:=ti.zero.length=ti.size/\ti.size≠0/\rZ P (ti.zero.map .im) z K ti.kind
def Ia{α:Type}(k:Nat):Nat->List α->List (List α)
 |0,_=>[]
 |n+1,l=>l.take k::Ia k n (l.drop k)
def BY{α:Type}:Nat->List α->List α
 |0,_=>[]
 |n+1,z=>z++BY n z
def IF(nx len e k:Nat)(cs:List AV)(K:Ah):Option (List D)->Prop
 |some ds=>K (.own nx) {new:=[(nx,(true,.arr e k (Ia k len ds)))],cnt:=1}
 |none=>K (.own nx) {new:=[(nx,(true,.arrA e k (Ia k len cs)))],cnt:=1}
def Lu(nx len e k:Nat)(K:Ah):Option (List AV)->Prop
 |some z=>IF nx len e k z K (Ds z)
 |none=>False
def bsE(nx len e:Nat)(z:List (Nat×AV))(K:Ah)(G:TI):Prop:=
 G.zero.length=G.size/\G.size≠0/\len*G.size<=16777216/\Lu nx len e G.size K (Hy (Jc G.size) z (some (BY len (G.zero.map .im))))
def bsK(P:Program)(nx len:Nat)(z:List (Nat×AV))(K:Ah):TK->Prop
 | .slice e=>Bh (bsE nx len e z K) (tI P e)
 |_=>False
def uF(P:Program)(nx len:Nat)(z:List (Nat×AV))(K:Ah)(ti:TI):Prop:=bsK P nx len z K ti.kind
def zV(nx e:Nat)(n m:Int)(K:Ah)(z:TI):Prop:=
 z.size≠0/\0<=n/\n<=m/\m<=1073741824/\z.bytes<=65536/\z.zero.length=z.size/\
  K (.own nx) {new:=[(nx,(true,.arr e z.size (List.replicate n.toNat z.zero)))],cnt:=1}
def msK(P:Program)(nx:Nat)(K:Ah):TK->AV->AV->Prop
 | .slice e,.im (.int .i64 n),.im (.int .i64 m)=>Bh (zV nx e n m K) (tI P e)
 |_,_,_=>False
def uO(P:Program)(nx:Nat)(l c:AV)(K:Ah)(ti:TI):Prop:=msK P nx K ti.kind l c
inductive Src where
 |d (u:List Nat) (k:Nat) (rows:List (List D))
 |a (u:List Nat) (k:Nat) (rows:List (List AV))
 |no
def YS(o:Nat):Option Am->Src
 |some (_,.arr _ k rows)=> .d [o] k rows
 |some (_,.arrA _ k rows)=> .a [o] k rows
 |_=> .no
def Jl(s:ByteArray):List (List D):=s.data.toList.map λb=>[.int .u8 b.toNat]
def CP(h:Nat->Option Am):AV->Src
 | .im (.sl _ k rows)=> .d [] k rows
 | .im (.str s)=> .d [] 1 (Jl s)
 | .own o=>YS o (h o)
 |_=> .no
def Bi(rows:List (List D)):List (List AV):=rows.map λr=>r.map .im
def Bo:List D->Bool
 |[]=>true
 |x::r=>x.one && Bo r
def Bl{α:Type}(f:List α->Bool)(rows:List (List α)):Prop:= ∀row∈rows,f row=true
def Src.okOne:Src->Prop
 | .d _ _ rows=>Bl Bo rows
 | .a _ _ rows=>Bl Q7 rows
 | .no=>False
def Nk(nx e:Nat)(z:TI)(K:Ah):Src->Prop
 | .d u k rows=>(k=z.size\/rows=[])/\(rows.length+512)*z.bytes<=140737488355328/\K (.own nx) {use:=u,new:=[(nx,(true,.arr e z.size rows))],cnt:=1}
 | .a u k rows=>k=z.size/\(rows.length+512)*z.bytes<=140737488355328/\K (.own nx) {use:=u,kill:=u,new:=[(nx,(true,.arrA e z.size rows))],cnt:=1}
 | .no=>False
def jS(nx e o:Nat)(z:TI)(rows0:List (List D))(K:Ah):Src->Prop
 | .d u k rows=>(k=z.size\/rows=[])/\u≠[o]/\(rows0.length+rows.length+512)*z.bytes<=140737488355328/\
  K (.own nx) {use:=o::u,kill:=[o],new:=[(nx,(true,.arr e z.size (rows0++rows)))],cnt:=1}
 | .a u k rows=>k=z.size/\u≠[o]/\(rows0.length+rows.length+512)*z.bytes<=140737488355328/\
  K (.own nx) {use:=o::u,kill:=o::u,new:=[(nx,(true,.arrA e z.size (Bi rows0++rows)))],cnt:=1}
 | .no=>False
def jR(nx e o:Nat)(z:TI)(rows0:List (List AV))(K:Ah):Src->Prop
 | .d u k rows=>(k=z.size\/rows=[])/\u≠[o]/\(rows0.length+rows.length+512)*z.bytes<=140737488355328/\
  K (.own nx) {use:=o::u,kill:=[o],new:=[(nx,(true,.arrA e z.size (rows0++Bi rows)))],cnt:=1}
 | .a u k rows=>k=z.size/\u≠[o]/\(rows0.length+rows.length+512)*z.bytes<=140737488355328/\
  K (.own nx) {use:=o::u,kill:=o::u,new:=[(nx,(true,.arrA e z.size (rows0++rows)))],cnt:=1}
 | .no=>False
def ID(nx e o:Nat)(G:TI)(src:Src)(K:Ah):Option Am->Prop
 |some (true,.arr T k z)=>T=e/\k=G.size/\jS nx e o G z K src
 |some (true,.arrA T k z)=>T=e/\k=G.size/\jR nx e o G z K src
 |_=>False
def QR(h:Nat->Option Am)(nx e:Nat)(z:TI)(src:Src)(K:Ah):AV->Prop
 | .im (.sl true _ [])=>Nk nx e z K src
 | .own o=>ID nx e o z src K (h o)
 |_=>False
def apE(h:Nat->Option Am)(nx e:Nat)(s:AV)(src:Src)(K:Ah)(z:TI):Prop:=
 z.size≠0/\z.zero.length=z.size/\z.bytes≠0/\src.okOne/\QR h nx e z src K s
def apK(P:Program)(h:Nat->Option Am)(nx:Nat)(s:AV)(src:Src)(K:Ah):TK->Prop
 | .slice e=>Bh (apE h nx e s src K) (tI P e)
 |_=>False
def Qsl(P:Program)(h:Nat->Option Am)(nx:Nat)(s x:AV)(K:Ah)(ti:TI):Prop:=apK P h nx s (CP h x) K ti.kind
def FF(K:Ah)(E:Bv)(n:Nat):Prop:=K (.im (.int .i64 n)) E
def Qxr(z:Bool)(o:Nat)(K:Ah):Option Am->Prop
 |some (_,.arr _ _ rows)=>(z=true->rows.length<=140737488355328)->FF K {use:=[o]} rows.length
 |some (_,.arrA _ _ rows)=>(z=true->rows.length<=140737488355328)->FF K {use:=[o]} rows.length
 |_=>False
def LW(o:Nat)(K:Ah):Option Am->Prop
 |some (_,.map _ z)=>FF K {use:=[o]} z.length
 |_=>False
def eO(o n:Nat)(K:Ah):Option Am->Prop
 |some _=>FF K {use:=[o]} n
 |none=>False
def cW(z:Bool)(h:Nat->Option Am)(K:Ah):AV->Prop
 | .osl o _ n=>eO o n K (h o)
 | .im (.sl _ _ rows)=>(z=true->rows.length<=140737488355328)->FF K {} rows.length
 | .own o=>Qxr z o K (h o)
 |_=>False
def Sr(K:Ah):AV->Prop
 | .im (.str s)=>FF K {} s.size
 |_=>False
def qF(h:Nat->Option Am)(K:Ah):AV->Prop
 | .im (.mp _ z)=>FF K {} z.length
 | .im .nilm=>FF K {} 0
 | .mp o=>LW o K (h o)
 |_=>False
def Fk(z:Bool)(h:Nat->Option Am)(K:Ah)(x:AV):TK->Prop
 | .slice _=>cW z h K x
 | .str=>Sr K x
 | .map _ _=>qF h K x
 | .bool| .ptr _| .int _| .array _ _| .struct _| .other=>False
def dC(z:Bool)(h:Nat->Option Am)(x:AV)(K:Ah)(ti:TI):Prop:=Fk z h K x ti.kind
def xW(ok:Bool)(E:Bv)(K:Ah)(v:D):Prop:=K (bif ok then .tup [.im v,.im (.bool true)] else .im v) E
def IP(z:TI)(ok:Bool)(E:Bv)(K:Ah):Prop:=z.zero.length=z.size/\(z.agg=true\/z.size=1)/\z.size≠0/\K (bif ok then .tup [.im (Z4 z.agg z.zero),.im (.bool false)] else .im (Z4 z.agg z.zero)) E
def Sx(o:Nat)(O:KT)(kd:D)(ok:Bool)(Q:TI)(K:Ah):Option Am->Prop
 |some (_,.map z G)=>z=O/\Ip G kd (xW ok {use:=[o]} K) (IP Q ok {use:=[o]} K)
 |_=>False
def dD(h:Nat->Option Am)(O:KT)(kd:D)(ok:Bool)(G:TI)(K:Ah):AV->Prop
 | .im (.mp z Q)=>z=O/\Ip Q kd (xW ok {} K) (IP G ok {} K)
 | .im .nilm=>IP G ok {} K
 | .mp o=>Sx o O kd ok G K (h o)
 |_=>False
def Xy(h:Nat->Option Am)(m:AV)(kd:D)(ok:Bool)(K:Ah)(G:TI):Option KT->Prop
 |some z=>z.fit kd=true/\dD h z kd ok G K m
 |none=>False
def luE(P:Program)(h:Nat->Option Am)(m:AV)(kd:D)(ok:Bool)(K:Ah)(k:TypeId)(z:TI):Prop:=Xy h m kd ok K z (BI P k)
def luK(P:Program)(h:Nat->Option Am)(m:AV)(ok:Bool)(K:Ah):TK->AV->Prop
 | .map k e,.im z=>Bh (luE P h m z ok K k) (tI P e)
 |_,_=>False
def wI(P:Program)(h:Nat->Option Am)(m k:AV)(ok:Bool)(K:Ah)(ti:TI):Prop:=luK P h m ok K ti.kind k
def SC(o:Nat)(z:KT)(kd Q:D)(K:Ah):Option Am->Prop
 |some (true,.map G O)=>G=z/\z.fit kd=true/\K .any {use:=[o],kill:=[o],new:=[(o,(true,.map z (Ek O kd Q)))]}
 |_=>False
def SB(h:Nat->Option Am)(o:Nat)(kd G:D)(K:Ah):Option KT->Prop
 |some z=>SC o z kd G K (h o)
 |none=>False
def K6(P:Program)(h:Nat->Option Am)(o:Nat)(kd z:D)(K:Ah):TK->Prop
 | .map k _=>SB h o kd z K (BI P k)
 | .bool| .str| .ptr _| .int _| .array _ _| .struct _| .slice _| .other=>False
def zW(n:Nat)(e:Ac)(K:Ah)(r:AV)(E:Bv):Prop:=E.kill.contains n=false/\K r {use:=n::E.use,kill:=n::E.kill,new:=E.new++[(n,(false,e))],cnt:=E.cnt}
def SD(P:Program)(h:Nat->Option Am)(o n:Nat)(kd:D)(K:Ah)(z:TK):Option Am->Prop
 |some (_,.arr T k rows)=>(o==n)=false/\K6 P h o kd (.sl false k rows) (zW n (.arr T k rows) K) z
 |_=>False
def gV(P:Program)(h:Nat->Option Am)(K:Ah)(m k v:AV)(ti:TI):Prop:=
 match m,k,v with
 | .mp o,.im z,.im G=>K6 P h o z G K ti.kind
 | .mp o,.im z,.own n=>SD P h o n z K ti.kind (h n)
 |_,_,_=>False
def Ry(o:Nat)(z:KT)(kd:D)(K:Ah):Option Am->Prop
 |some (true,.map G O)=>G=z/\z.fit kd=true/\K .any {use:=[o],kill:=[o],new:=[(o,(true,.map z (L2 O kd)))]}
 |_=>False
def WM(h:Nat->Option Am)(o:Nat)(kd:D)(K:Ah):Option KT->Prop
 |some z=>Ry o z kd K (h o)
 |none=>False
def Rx(P:Program)(h:Nat->Option Am)(o:Nat)(kd:D)(K:Ah):TK->Prop
 | .map k _=>WM h o kd K (BI P k)
 | .bool| .str| .ptr _| .int _| .array _ _| .struct _| .slice _| .other=>False
def wF(P:Program)(h:Nat->Option Am)(K:Ah)(m k:AV)(ti:TI):Prop:=
 match m,k with
 | .mp o,.im z=>Rx P h o z K ti.kind
 |_,_=>False
def exA(K:Ah):Option AV->Prop
 |some c=>K c {}
 |none=>False
def exD(K:Ah):Option D->Prop
 |some d=>K (.im d) {}
 |none=>False
def gX(i:Nat)(K:Ah):AV->Prop
 | .tup z=>exA K z[i]?
 | .im (.tup ds)=>exD K ds[i]?
 |_=>False
def gY(h:Nat->Option Am)(K:Ah):AV->Prop
 | .im (.ref z)=>K (.im (.ref z)) {}
 | .im (.ifc t d)=>K (.im (.ifc t d)) {}
 | .ptr o p=>QP o (.ptr o p) K (h o)
 | .eptr o i p=>QP o (.eptr o i p) K (h o)
 |_=>False
abbrev CT:=FuncId->List AV->(Nat->Option Am)->Nat->Ah->Prop
def Qf(V:CT)(args:List AV)(h:Nat->Option Am)(nx:Nat)(K:Ah):AV->Prop
 | .im (.fn g first capt)=>V g ((first.map .im)++args++(capt.map .im)) h nx K
 | .clo g first capt=>V g (first++args++capt) h nx K
 |_=>False
def PW:Option TI->Option TK
 |some ti=>some ti.kind
 |none=>none
def Qjk(nx e:Nat)(K:Ah)(z:TI):Prop:=K (.own nx) {new:=[(nx,(true,.arr e z.size []))],cnt:=1}
def Qg6(P:Program)(nx:Nat)(K:Ah):Option TK->Prop
 |some (.slice e)=>Bh (Qjk nx e K) (tI P e)
 |_=>False
def Qu:Value->Bool
 | .slice none 0 0=>true
 |_=>false
def Wh:Operand->Bool
 | .const v=>Qu v
 | .tmp _| .global _| .func _=>false
def vE(P:Program)(nx:Nat)(T:TypeId)(v:AV)(K:Ah):Bool->Prop
 |true=>Qg6 P nx K (PW (tI P T))
 |false=>K v {}
def vW(P:Program)(tm:List (Nat×AV))(nx:Nat)(T:TypeId)(K:Ah)(x:Operand):Prop:=vE P nx T (Ap tm x) K (Wh x && !(T==223))
def Mt(c:Bool)(K:Ah)(a b:AV):Prop:=(c=true->K a {})/\(c=false->K b {})
def yH(a b:AV)(K:Ah):AV->Prop
 | .im (.bool c)=>Mt c K a b
 |_=>False
def xO(nx T:Nat)(K:Ah)(ti:TI):Prop:=ti.zero.length=ti.size/\ti.size≠0/\K (.ptr nx 0) {new:=[(nx,(true,.cells T (ti.zero.map .im)))],cnt:=1}
def Ur(nx T:Nat)(K:Ah)(cs:List AV):Prop:=cs≠[]/\K (.ptr nx 0) {new:=[(nx,(true,.cells T cs))],cnt:=1}
def FH:Value->Nat
 | .slice none 0 0=>1
 | .pointer none=>2
 | .map none=>3
 | .nilIface=>4
 |_=>0
def Fl:Operand->Nat
 | .const v=>FH v
 | .tmp _| .global _| .func _=>0
def iN(h:Nat->Option Am)(op:BinOp)(x:AV)(K:Ah)(n:Nat)(ti:TI):Prop:=
 match op with
 | .eql=>Wn h false K x n ti.kind
 | .neq=>Wn h true K x n ti.kind
 |_=>False
def Sf(P:Program)(T:TypeId):Bool:=match P.underlying T with
 |some (.interface _)=>true
 |_=>false
def Zx(P:Program)(T:TypeId):Bool:=match P.underlying T with
 |some (.interface _)=>false
 |some _=>true
 |none=>false
def Z3(P:Program)(t:TypeId)(name:String):Option FuncId:=
 match P.info? t with
 |some i=>match i.methods.find? (·.name==name) with
  |some m=>bif m.path.isEmpty then (match m.func with
   |some (f,false)=>some f
   |_=>none) else none
  |none=>none
 |none=>none
def VG(P:Program)(t:TypeId)(name:String):Option FuncId:=
 match P.underlying t with
 |some (.pointer _)=>none
 |some _=>Z3 P t name
 |none=>none
def Qi(neg:Bool)(K:Ah):AV->Prop
 | .im .nili=>Zs neg K true
 | .im (.ifc _ _)=>Zs neg K false
 |_=>False
def VI(P:Program)(T:TypeId)(op:BinOp)(x:AV)(K:Ah):Prop:=
 Sf P T=true/\match op with
 | .eql=>Qi false K x
 | .neq=>Qi true K x
 |_=>False
def Ut(P:Program)(T:TypeId)(K:Ah):AV->Prop
 | .im d=>Zx P T=true/\K (.im (.ifc T d)) {}
 |_=>False
def VH(V:CT)(args:List AV)(h:Nat->Option Am)(nx:Nat)(K:Ah)(d:D):Option FuncId->Prop
 |some f=>V f (.im d::args) h nx K
 |none=>False
def MK(P:Program)(V:CT)(args:List AV)(h:Nat->Option Am)(nx:Nat)(K:Ah)(m:String):AV->Prop
 | .im (.ifc t d)=>VH V args h nx K d (VG P t m)
 |_=>False
def Za(P:Program)(T:TypeId)(h:Nat->Option Am)(op:BinOp)(x y:AV)(K:Ah):Nat->Prop
 |0=>cX P T op K x y
 |1=>Bh (iN h op x K 0) (tI P T)
 |2=>Bh (iN h op x K 1) (tI P T)
 |3=>Bh (iN h op x K 2) (tI P T)
 |_+4=>VI P T op x K
def KJ:Option TK->Ah->AV->Prop
 |some (.int k),K,.im (.int _ n)=>K (.im (.int k (k.wrap n))) {}
 |_,_,_=>False
def pD(t:Option TK)(x:AV)(K:Ah):Option TI->Prop
 |some _=>KJ t K x
 |none=>False
def Hq:List (List D)->Option (List Int)
 |[]=>some []
 |[.int .u8 n]::r=>(Hq r).map (n:: ·)
 |_=>none
def GZ(z:List Int):ByteArray:=⟨(z.map λn=>UInt8.ofNat n.toNat).toArray⟩
def Lv(u:List Nat)(K:Ah):Option (List Int)->Prop
 |some z=>K (.im (.str (GZ z))) {use:=u}
 |none=>False
def Rg(o:Nat)(K:Ah):Option Am->Prop
 |some (_,.arr _ k rows)=>k=1/\Lv [o] K (Hq rows)
 |_=>False
def dY(h:Nat->Option Am)(K:Ah):AV->Prop
 | .own o=>Rg o K (h o)
 |_=>False
def dZ(h:Nat->Option Am)(K:Ah)(x:AV):Option TK->Prop
 |some (.int .u8)=>dY h K x
 |_=>False
def eA(P:Program)(h:Nat->Option Am)(K:Ah)(x:AV):TK->Prop
 | .slice e=>dZ h K x (PW (tI P e))
 |_=>False
def IG(P:Program)(h:Nat->Option Am)(K:Ah)(x:AV):Option TI->Prop
 |some z=>eA P h K x z.kind
 |none=>False
def TK.isStr:TK->Bool
 | .str=>true
 | .bool| .ptr _| .int _| .array _ _| .struct _| .map _ _| .slice _| .other=>false
def isStr:Option TK->Bool
 |some t=>t.isStr
 |none=>false
def VC(P:Program)(h:Nat->Option Am)(t:Option TK)(x:AV)(K:Ah)(s:Option TI):Prop:=if isStr t=true then IG P h K x s else pD t x K s
def ML(K:Ah):AV->AV->Prop
 | .im (.int k a),.im (.int k' b)=>k=k'/\K (.im (.int k (max a b))) {}
 |_,_=>False
def MM(K:Ah):AV->AV->Prop
 | .im (.int k a),.im (.int k' b)=>k=k'/\K (.im (.int k (min a b))) {}
 |_,_=>False
def TK.isSl:TK->Bool
 | .slice _=>true
 | .bool| .str| .ptr _| .int _| .array _ _| .struct _| .map _ _| .other=>false
def vP(P:Program)(h:Nat->Option Am)(nx:Nat)(s x:AV)(T:TypeId)(K:Ah)(z:TI):Prop:=(z.kind.isSl||z.kind.isStr)=true/\Bh (Qsl P h nx s x K) (tI P T)
def Dx(tm:List (Nat×AV)):Option Operand->Option AV
 |none=>none
 |some x=>some (Ap tm x)
def GR(z:Nat):Option AV->Option Int
 |none=>some z
 |some (.im (.int _ n))=>some n
 |some _=>none
def Uc(k:Nat)(rows:List (List D))(K:Ah):Option Int->Option Int->Prop
 |some l,some m=>0<=l/\l<=m/\m<=(rows.length:Int)/\K (.im (.sl false k ((rows.drop l.toNat).take (m - l).toNat))) {}
 |some _,none=>False
 |none,_=>False
def Jh(s:ByteArray)(K:Ah):Option Int->Option Int->Prop
 |some l,some m=>0<=l/\l<=m/\m<=(s.size:Int)/\K (.im (.str (s.extract l.toNat m.toNat))) {}
 |some _,none=>False
 |none,_=>False
def pZ(o nx:Nat)(z:Bool)(T k:Nat)(rows:List (List D))(a n:Nat)(K:Ah):Bool->Prop
 |false=>K (.osl o a n) {use:=[o]}
 |true=>z=true/\K (.own nx) {use:=[o],kill:=[o],new:=[(nx,(true,.arr T k ((rows.drop a).take n)))],cnt:=1}
def Ji(o nx:Nat)(z:Bool)(T k:Nat)(rows:List (List D))(K:Ah):Option Int->Option Int->Prop
 |some l,some m=>0<=l/\l<=m/\m<=(rows.length:Int)/\ ∃G,pZ o nx z T k rows l.toNat (m - l).toNat K G
 |some _,none=>False
 |none,_=>False
def Ud(o nx:Nat)(O:TI)(lo z:Option AV)(K:Ah):Option Am->Prop
 |some (G,.arr T k rows)=>k=O.size/\Ji o nx G T k rows K (GR 0 lo) (GR rows.length z)
 |_=>False
def tT(h:Nat->Option Am)(nx:Nat)(lo z:Option AV)(K:Ah)(x:AV)(G:TI):Prop:=
 match x with
 | .im (.sl _ k rows)=>(k=G.size\/rows=[])/\Uc k rows K (GR 0 lo) (GR rows.length z)
 | .own o=>Ud o nx G lo z K (h o)
 |_=>False
def fY(x:AV)(lo z:Option AV)(K:Ah):Prop:=
 match x with
 | .im (.str s)=>Jh s K (GR 0 lo) (GR s.size z)
 |_=>False
def PV(P:Program)(h:Nat->Option Am)(nx:Nat)(x:AV)(lo z:Option AV)(K:Ah):TK->Prop
 | .slice e=>Bh (tT h nx lo z K x) (tI P e)
 | .str=>fY x lo z K
 | .bool| .ptr _| .int _| .array _ _| .struct _| .map _ _| .other=>False
def xL(P:Program)(h:Nat->Option Am)(nx:Nat)(x:AV)(lo z:Option AV)(K:Ah)(ti:TI):Prop:=PV P h nx x lo z K ti.kind
def eC(o:Nat):Option Am->Option (List Nat×Nat×List (List D))
 |some (_,.arr _ k rows)=>some ([o],k,rows)
 |_=>none
def eD(o a n:Nat):Option Am->Option (List Nat×Nat×List (List D))
 |some (_,.arr _ k rows)=>some ([o],k,(rows.drop a).take n)
 |_=>none
def dA(h:Nat->Option Am):AV->Option (List Nat×Nat×List (List D))
 | .im (.sl _ k rows)=>some ([],k,rows)
 | .own o=>eC o (h o)
 | .osl o a n=>eD o a n (h o)
 |_=>none
def Rt(o:Nat):Option Am->Option (Nat×Nat×Nat×TypeId×Nat×List (List D))
 |some (true,.arr T k rows)=>some (o,0,rows.length,T,k,rows)
 |_=>none
def Ru(o a n:Nat):Option Am->Option (Nat×Nat×Nat×TypeId×Nat×List (List D))
 |some (true,.arr T k rows)=>some (o,a,n,T,k,rows)
 |_=>none
def Vg(h:Nat->Option Am):AV->Option (Nat×Nat×Nat×TypeId×Nat×List (List D))
 | .own o=>Rt o (h o)
 | .osl o a n=>Ru o a n (h o)
 |_=>none
def cU(rows:List (List D))(a m:Nat)(src:List (List D)):List (List D):=rows.take a++src.take m++rows.drop (a+m)
def Rv(G:TI)(K:Ah):Option (List Nat×Nat×List (List D))->Option (Nat×Nat×Nat×TypeId×Nat×List (List D))->Prop
 |some (u,ks,z),some (o,a,n,T,k,rows)=>k=G.size/\(ks=G.size\/z=[])/\G.size≠0/\Bl Bo z/\
  K (.im (.int .i64 (min z.length n:Nat))) {use:=o::u,kill:=[o],new:=[(o,(true,.arr T k (cU rows a (min z.length n) z)))]}
 |some _,none=>False
 |none,_=>False
def Rw(P:Program)(h:Nat->Option Am)(d s:AV)(K:Ah):TK->Prop
 | .slice e=>Bh (λz=>Rv z K (dA h s) (Vg h d)) (tI P e)
 | .bool| .str| .ptr _| .int _| .array _ _| .struct _| .map _ _| .other=>False
def yF(P:Program)(h:Nat->Option Am)(d s:AV)(K:Ah)(ti:TI):Prop:=Rw P h d s K ti.kind
def WI(z:TI)(K:Ah):Option (Nat×Nat×Nat×TypeId×Nat×List (List D))->Prop
 |some (o,a,n,T,k,rows)=>k=z.size/\z.size≠0/\z.zero.length=z.size/\Bo z.zero=true/\
  K .any {use:=[o],kill:=[o],new:=[(o,(true,.arr T k (cU rows a n (List.replicate n z.zero))))]}
 |none=>False
def Rl(P:Program)(h:Nat->Option Am)(d:AV)(K:Ah):TK->Prop
 | .slice e=>Bh (λz=>WI z K (Vg h d)) (tI P e)
 | .bool| .str| .ptr _| .int _| .array _ _| .struct _| .map _ _| .other=>False
def xB(P:Program)(h:Nat->Option Am)(d:AV)(K:Ah)(ti:TI):Prop:=Rl P h d K ti.kind
def TE(nx o:Nat)(K:Ah):Option Am->Prop
 |some (O,.map G z)=>K (.it nx) {use:=[o],kill:=[o],new:=[(nx,(true,.iter none z)),(o,(false,.map G z))],cnt:=1}
 |_=>False
def rgD(nx:Nat)(K:Ah):D->Prop
 | .mp _ z=>K (.it nx) {new:=[(nx,(true,.iter none z))],cnt:=1}
 |_=>False
def zZ(h:Nat->Option Am)(nx:Nat)(K:Ah):AV->Prop
 | .mp o=>TE nx o K (h o)
 | .im d=>rgD nx K d
 |_=>False
def TC(h:Nat->Option Am)(nx:Nat)(x:AV)(K:Ah):TK->Prop
 | .map _ _=>zZ h nx K x
 | .bool| .str| .ptr _| .int _| .array _ _| .struct _| .slice _| .other=>False
def xJ(h:Nat->Option Am)(nx:Nat)(x:AV)(K:Ah)(ti:TI):Prop:=TC h nx x K ti.kind
def tF(o:Nat)(left:List (D×D))(K:Ah)(i:Nat)(p:D×D):Prop:=
 K (.tup [.im (.bool true),.im p.1,.im p.2]) {use:=[o],kill:=[o],new:=[(o,(true,.iter (some p) (left.eraseIdx i)))]}
def SQ(o:Nat)(K:Ah):Option Am->Prop
 |some (true,.iter _ left)=>(left=[]->K (.tup [.im (.bool false)]) {use:=[o]})/\ ∀i p,left[i]? =some p->tF o left K i p
 |_=>False
def V4(h:Nat->Option Am)(K:Ah):AV->Prop
 | .it o=>SQ o K (h o)
 |_=>False
def fE(h:Nat->Option Am)(x:AV)(K:Ah):Bool->Prop
 |true=>V4 h K x
 |false=>False
def R6(o:Nat)(K:Ah):Option Am->Prop
 |some (true,.iter (some p) _)=>K (.im (.tup [p.1,p.2])) {use:=[o]}
 |_=>False
def xQ(h:Nat->Option Am)(K:Ah):AV->Prop
 | .it o=>R6 o K (h o)
 |_=>False
def Ve(P:Program)(t:TypeId):Option TypeId:=match P.underlying t with
 |some (.chan _ e)=>some e
 |_=>none
def zT(nx:Nat)(n:Int)(K:Ah)(z:TI):Prop:=0<=n/\n<=1073741824/\z.bytes<=65536/\K (.ch nx) {new:=[(nx,(true,.chan [] n.toNat))],cnt:=1}
def mcV(P:Program)(nx:Nat)(K:Ah)(e:TypeId):AV->Prop
 | .im (.int .i64 n)=>Bh (zT nx n K) (tI P e)
 |_=>False
def zU(P:Program)(nx:Nat)(x:AV)(K:Ah):Option TypeId->Prop
 |some e=>mcV P nx K e x
 |none=>False
def uR(P:Program)(nx:Nat)(x:AV)(K:Ah)(T:TypeId):Prop:=zU P nx x K (Ve P T)
def Z2(o:Nat)(K:Ah):Option Am->Prop
 |some (_,.chan q _)=>FF K {use:=[o]} q.length
 |_=>False
def Sw(o:Nat)(h:Nat->Option Am)(K:Ah):Option TypeId->Prop
 |some _=>Z2 o K (h o)
 |none=>False
def fT(o:Nat)(d:D)(K:Ah):Option Am->Prop
 |some (true,.chan q cap)=>q.length<cap/\K .any {use:=[o],kill:=[o],new:=[(o,(true,.chan (q++[d]) cap))]}
 |_=>False
def KN(h:Nat->Option Am)(c x:AV)(K:Ah):Prop:=
 match c,x with
 | .ch o,.im d=>fT o d K (h o)
 |_,_=>False
def fR(o:Nat)(K:Ah):Option Am->Prop
 |some (true,.chan q cap)=>q≠[]/\ ∀d r,q=d::r->K (.im d) {use:=[o],kill:=[o],new:=[(o,(true,.chan r cap))]}
 |_=>False
def rvC(h:Nat->Option Am)(K:Ah):AV->Prop
 | .ch o=>fR o K (h o)
 |_=>False
def rvE(h:Nat->Option Am)(c:AV)(K:Ah)(z:TI):Prop:=z.zero.length=z.size/\z.size≠0/\rvC h K c
def rvK(P:Program)(h:Nat->Option Am)(c:AV)(K:Ah):Option TypeId->Prop
 |some e=>Bh (rvE h c K) (tI P e)
 |none=>False
def KM(P:Program)(h:Nat->Option Am)(T:TypeId)(c:AV)(K:Ah):Prop:=rvK P h c K (Ve P T)
def R9(neg:Bool)(K:Ah)(E:Bv){α:Type}(rows:List α):Prop:= ∀b:Bool,(b=true->rows=[])->K (.im (.bool (neg !=b))) E
def RA(o:Nat)(neg:Bool)(K:Ah):Option Am->Prop
 |some (_,.arr _ _ rows)=>R9 neg K {use:=[o]} rows
 |some (_,.arrA _ _ rows)=>R9 neg K {use:=[o]} rows
 |_=>False
def Nl(h:Nat->Option Am)(neg:Bool)(K:Ah):AV->Prop
 | .im (.sl _ _ rows)=>R9 neg K {} rows
 | .own o=>RA o neg K (h o)
 |_=>False
def Ig:D->Bool
 | .sl z _ _=>z
 | .int _ _| .bool _| .str _| .nilp| .nilf| .nili| .nilc| .nilm| .agg _| .tup _| .ref _| .mp _ _| .fn _ _ _| .ifc _ _| .gp _| .tok _=>true
def Fj:AV->Bool
 | .im d=>Ig d
 | .own _=>false
 | .any| .agg _| .tup _| .ptr _ _| .eptr _ _ _| .mp _| .ch _| .it _| .osl _ _ _| .clo _ _ _=>true
def unS(z:Bool)(x:AV)(n:Nat):Bool:=z && (n==1 && !Fj x)
def Q6(P:Program)(h:Nat->Option Am)(T:TypeId)(op:BinOp)(x:AV)(K:Ah):TK->Prop
 | .slice _=>(match op with
   | .eql=>Nl h false K x
   | .neq=>Nl h true K x
   |_=>False)
 | .bool| .str| .ptr _| .int _| .array _ _| .struct _| .map _ _| .other=>False
def xM(P:Program)(h:Nat->Option Am)(T:TypeId)(op:BinOp)(x:AV)(K:Ah)(ti:TI):Prop:=Q6 P h T op x K ti.kind
def KI(P:Program)(z:Bool)(T:TypeId)(h:Nat->Option Am)(op:BinOp)(x y:AV)(K:Ah)(n:Nat):Prop:=
 if unS z x n=true then Bh (xM P h T op x K) (tI P T) else Za P T h op x y K n
def KY(P:Program)(z:Bool)(h:Nat->Option Am)(T:TypeId)(K:Ah):AV->Prop
 | .ch o=>Sw o h K (Ve P T)
 | .im d=>Bh (dC z h (.im d) K) (tI P T)
 | .own o=>Bh (dC z h (.own o) K) (tI P T)
 | .osl o a n=>Bh (dC z h (.osl o a n) K) (tI P T)
 | .mp o=>Bh (dC z h (.mp o) K) (tI P T)
 | .any| .agg _| .tup _| .ptr _ _| .eptr _ _ _| .it _| .clo _ _ _=>False
def Wa(P:Program)(z:Bool)(h:Nat->Option Am)(nx:Nat)(K:Ah):Builtin->List AV->List TypeId->Prop
 | .len,[x],[T]=>KY P z h T K x
 | .append,[s,x],[T,U]=>Bh (vP P h nx s x T K) (tI P U)
 | .delete,[m,k],T::_=>Bh (wF P h K m k) (tI P T)
 | .copy,[d,s],[T,_]=>Bh (yF P h d s K) (tI P T)
 | .clear,[d],[T]=>Bh (xB P h d K) (tI P T)
 | .max,[x,y],_=>ML K x y
 | .min,[x,y],_=>MM K x y
 |_,_,_=>False
def oV(P:Program)(V:CT)(z:Bool)(tm:List (Nat×AV))(h:Nat->Option Am)(nx:Nat)(args:List AV)(G:List TypeId)(K:Ah):Callee->Prop
 | .value f=>Qf V args h nx K (Ap tm f)
 | .builtin b=>Wa P z h nx K b args G
 | .invoke r m=>MK P V args h nx K m (Ap tm r)
def X2(nx:Nat)(K:Ah):Option KT->Prop
 |some z=>K (.mp nx) {new:=[(nx,(true,.map z []))],cnt:=1}
 |none=>False
def S9(P:Program)(nx:Nat)(K:Ah):TK->Prop
 | .map k _=>X2 nx K (BI P k)
 | .bool| .str| .ptr _| .int _| .array _ _| .struct _| .slice _| .other=>False
def vJ(P:Program)(nx:Nat)(K:Ah)(ti:TI):Prop:=S9 P nx K ti.kind
def D8(tm:List (Nat×AV)):List Operand->List AV
 |[]=>[]
 |x::r=>Ap tm x::D8 tm r
def J9(tm:List (Nat×AV)):List (Nat×Operand)->List (Nat×AV)
 |[]=>[]
 |(i,x)::r=>(i,Ap tm x)::J9 tm r
def wY(h:Nat->Option Am)(x:AV)(K:Ah)(ti:TI):Prop:=Wu h ti K x
def uG(P:Program)(h:Nat->Option Am)(x i:AV)(K:Ah)(ti:TI):Prop:=Qjp P h x ti K i
def wJ(P:Program)(x i:AV)(K:Ah)(ti:TI):Prop:=Qxc P x ti K i
def Rq(o:Nat)(T:TypeId)(cs:List AV):Option (List D)->Option (D×Ao)
 |some ds=>some (.ref ds,[(o,(false,.cells T cs))])
 |none=>none
def Rp(o:Nat):Option Am->Option (D×Ao)
 |some (_,.cells T z)=>Rq o T z (Ds z)
 |some (_,.arr _ _ _)=>none
 |some (_,.arrA _ _ _)=>none
 |some (_,.map _ _)=>none
 |some (_,.chan _ _)=>none
 |some (_,.iter _ _)=>none
 |some (_,.view _)=>none
 |none=>none
def HJ(h:Nat->Option Am):AV->Option (D×Ao)
 | .im d=>some (d,[])
 | .ptr o 0=>Rp o (h o)
 | .ptr _ (_+1)=>none
 | .any=>none
 | .agg _=>none
 | .tup _=>none
 | .eptr _ _ _=>none
 | .own _=>none
 | .mp _=>none
 | .ch _=>none
 | .it _=>none
 | .osl _ _ _=>none
 | .clo _ _ _=>none
def Ro:Option (D×Ao)->Option (List D×Ao)->Option (List D×Ao)
 |some (d,E),some (ds,F)=>some (d::ds,E++F)
 |some _,none=>none
 |none,_=>none
def Oe(h:Nat->Option Am):List AV->Option (List D×Ao)
 |[]=>some ([],[])
 |x::r=>Ro (HJ h x) (Oe h r)
def hnm:Ao->List Nat
 |[]=>[]
 |(n,_)::r=>n::hnm r
def yE(f:FuncId)(a b:List D)(first capt:List AV)(K:Ah):Ao->Prop
 |[]=>K (.im (.fn f a b)) {}
 |e::r=>K (.im (.fn f a b)) {use:=hnm (e::r),kill:=hnm (e::r),new:=e::r}\/K (.clo f first capt) {}
def Nr(f:FuncId)(first capt:List AV)(K:Ah):Option (List D×Ao)->Option (List D×Ao)->Prop
 |some (a,E),some (b,F)=>yE f a b first capt K (E++F)
 |some _,none=>K (.clo f first capt) {}
 |none,_=>K (.clo f first capt) {}
def WZ(P:Program)(U:TypeId)(f:Nat):Option (TypeId×Nat):=
 match P.underlying U with
 |some (.struct z)=>(z[f]?).map λq=>(q.type,q.offset)
 |_=>none
def Qm(off n:Nat)(cs:List D):Bool->Option D
 |true=>some (.agg ((cs.drop off).take n))
 |false=>cs[off]?
def Qk(K:Ah):Option D->Prop
 |some d=>K (.im d) {}
 |none=>False
def aM(off:Nat)(K:Ah)(ti:TI):AV->Prop
 | .im (.agg z)=>off+ti.size<=z.length/\Qk K (Qm off ti.size z ti.agg)
 |_=>False
def Ql(P:Program)(x:AV)(K:Ah):Option (TypeId×Nat)->Prop
 |some (t,off)=>Bh (λti=>aM off K ti x) (tI P t)
 |none=>False
def step(P:Program)(V:CT)(G:Bool)(tm:List (Nat×AV))(h:Nat->Option Am)(nx:Nat)(T:TypeId)(K:Ah):Op->Prop
 | .move x=>K (Ap tm x) {}
 | .assign x=>vW P tm nx T K x
 | .pick c a b=>yH (Ap tm a) (Ap tm b) K (Ap tm c)
 | .alloc T=>Bh (xO nx T K) (tI P T)
 | .box T x=>Ur nx T K (Ap tm x).cells
 | .build T z=>Bh (xP P (J9 tm z.toList) K) (tI P T)
 | .buildSlice T n z=>Bh (uF P nx n (J9 tm z.toList) K) (tI P T)
 | .load T x=>Bh (wY h (Ap tm x) K) (tI P T)
 | .store T x v=>Bh (wW h (Ap tm x) (Ap tm v) K) (tI P T)
 | .nilCheck x=>gY h K (Ap tm x)
 | .binOp op T x y _=>KI P G T h op (Ap tm x) (Ap tm y) K (Fl y)
 | .unOp op _ x=>Yk K op (Ap tm x)
 | .convert S T x=>VC P h (PW (tI P T)) (Ap tm x) K (tI P S)
 | .makeFunc (.func f) first capt=>Nat.blt f 1000000000=true/\Nr f (D8 tm first.toList) (D8 tm capt.toList) K (Oe h (D8 tm first.toList)) (Oe h (D8 tm capt.toList))
 | .makeMap T none=>Bh (vJ P nx K) (tI P T)
 | .makeSlice T l c=>Bh (uO P nx (Ap tm l) (Ap tm c) K) (tI P T)
 | .fieldAddr T x f=>Bh (uN h (Ap tm x) f K) (tI P T)
 | .indexAddr T x i=>Bh (uG P h (Ap tm x) (Ap tm i) K) (tI P T)
 | .index T x i=>Bh (wJ P (Ap tm x) (Ap tm i) K) (tI P T)
 | .lookup T m k ok=>Bh (wI P h (Ap tm m) (Ap tm k) ok K) (tI P T)
 | .mapUpdate T m k v=>Bh (gV P h K (Ap tm m) (Ap tm k) (Ap tm v)) (tI P T)
 | .extract x i=>gX i K (Ap tm x)
 | .call c=>oV P V G tm h nx (D8 tm c.args.toList) c.argTypes.toList K c.callee
 | .slice T x lo O none=>Bh (xL P h nx (Ap tm x) (Dx tm lo) (Dx tm O) K) (tI P T)
 | .range T x=>Bh (xJ h nx (Ap tm x) K) (tI P T)
 | .next x false=>fE h (Ap tm x) K G
 | .entry x=>xQ h K (Ap tm x)
 | .makeChan T x=>uR P nx (Ap tm x) K T
 | .makeInterface T x=>Ut P T K (Ap tm x)
 | .insert T m k v=>Bh (gV P h K (Ap tm m) (Ap tm k) (Ap tm v)) (tI P T)
 | .field U x f=>Ql P (Ap tm x) K (WZ P U f)
 |_=>False
inductive Ex where
 |normal
 |exit (id:Nat)
 |ret
abbrev Ci:=Ex->Az->Prop
def Wd(t:Option Nat)(z:Bool)(s:Az)(Kdo Kskip:Az->Prop):AV->Prop
 | .im (.bool b)=>(b=z->Kdo (s.put t (.im (.bool z))))/\(b= !z->Kskip (s.put t (.im (.bool (!z)))))
 | .im (.tup [])=>Kskip s
 |_=>False
def Av(n:Nat):Ao->Bool
 |[]=>true
 |(_,(_,.cells _ z))::r=>AD n z && Av n r
 |(_,(_,.arrA _ _ rows))::r=>rows.all (AD n) && Av n r
 |(_,(_,.arr _ _ _))::r=>Av n r
 |(_,(_,.map _ _))::r=>Av n r
 |(_,(_,.chan _ _))::r=>Av n r
 |(_,(_,.iter _ _))::r=>Av n r
 |(_,(_,.view _))::r=>Av n r
def JO(kill:List Nat)(nx cnt n:Nat):Bool:=(Nat.ble nx n && Nat.blt n (nx+cnt))||(kill.contains n && Nat.blt n nx)
def Hi(kill:List Nat)(nx cnt:Nat):Ao->Bool
 |[]=>true
 |(n,_)::r=>JO kill nx cnt n && Hi kill nx cnt r
def Bv.ok(E:Bv)(nx:Nat)(r:AV):Bool:=r.bel (nx+E.cnt) && (Av (nx+E.cnt) E.new && Hi E.kill nx E.cnt E.new)
def Az.app_nr(tm:List (Nat×AV))(h:Ao)(nx:Nat)(dst:Option Nat)(r:AV)(u k:List Nat)(nw:Ao)(c:Nat):Az.app ⟨tm,h,nx⟩ dst r ⟨u,k,nw,c⟩=(⟨tm,nw++Ba h k,nx+c⟩:Az).put dst r:=by
 cases dst<;>rfl
def Bv.ok_nr(u k:List Nat)(nw:Ao)(c nx:Nat)(r:AV):Bv.ok ⟨u,k,nw,c⟩ nx r=(r.bel (nx+c) && (Av (nx+c) nw && Hi k nx c nw)):=by
 cases c<;>rfl
structure SOp where
 dst:Option Nat
 op:Op
 type:TypeId
 gd:Option (Option Nat×Bool)
def dB(ops:Array Oper):Option (Nat×Bool)->Option (Option Nat×Bool)
 |none=>none
 |some (j,w)=>some ((ops[j]?).bind (·.dst),w)
def Hz(ops:Array Oper):List Oper->List SOp
 |[]=>[]
 |o::r=>⟨o.dst,o.op,o.type,dB ops o.guard⟩::Hz ops r
def Ez(z:Az->Prop)(s:Az)(dst:Option Nat)(r:AV)(E:Bv):Prop:=E.ok s.nx r=true/\z (s.app dst r E)
def DA(P:Program)(V:CT)(tm:List (Nat×AV))(h:Nat->Option Am)(nx:Nat)(ty:TypeId)(K:Ah):Op->Prop
 | .send c x=>KN h (Ap tm c) (Ap tm x) K
 | .recv T c false=>KM P h T (Ap tm c) K
 |op=>step P V true tm h nx ty K op
def Jk(P:Program)(V:CT)(dst:Option Nat)(op:Op)(ty:TypeId)(z:Az->Prop)(s:Az):Prop:=
 DA P V s.tm (hget s.h) s.nx ty (Ez z s dst) op
def MI(dst:Option Nat)(z:Az->Prop)(s:Az):Prop:=z (s.put dst (.im (.tup [])))
def Xi(P:Program)(V:CT)(dst:Option Nat)(op:Op)(ty:TypeId)(z:Bool)(G:Az->Prop)(s:Az):Option Nat->Prop
 |some t=>Wd (some t) z s (Jk P V dst op ty G) (MI dst G) (A8 s.tm t)
 |none=>False
def tL(P:Program)(V:CT)(dst:Option Nat)(op:Op)(ty:TypeId)(G:Az->Prop)(s:Az):Option (Option Nat×Bool)->Prop
 |none=>Jk P V dst op ty G s
 |some (t,z)=>Xi P V dst op ty z G s t
def ON(P:Program)(V:CT):List SOp->(Az->Prop)->Az->Prop
 |[],K,s=>K s
 |⟨dst,op,ty,gd⟩::z,K,s=>tL P V dst op ty (ON P V z K) s gd
structure Fp where
 i:Nat
 use:List Nat
 touch:List Nat
 nx:Nat
 cnt:Nat
def KV:Ao->List Nat
 |[]=>[]
 |(n,_)::r=>n::KV r
def IW:Ao->List Nat
 |[]=>[]
 |(_,(_,e))::r=>e.nms++IW r
def Jz:List Nat->List Nat->Bool
 |[],_=>true
 |x::r,l=> !l.contains x && Jz r l
def Gs(nx cnt:Nat):List Nat->Bool
 |[]=>true
 |x::r=>(Nat.blt x nx||Nat.ble (nx+cnt) x) && Gs nx cnt r
def Ik:Ground->Bool
 | .data=>true
 | .chain=>true
 | .guard=>true
 | .phase=>true
 | .textOnly _=>false
 | .gcOnly _=>false
def D3:List (List Nat)->Nat->List Nat
 |[],_=>[]
 |x::_,0=>x
 |_::r,n+1=>D3 r n
def zR(x:Nat)(l:List Nat):List Nat:=bif l.contains x then l else x::l
def Se:List Nat->List Nat->List Nat
 |[],l=>l
 |x::r,l=>zR x (Se r l)
def GS(acc:List (List Nat)):List Edge->List Nat
 |[]=>[]
 |e::r=>bif Ik e.ground then Se (e.on::D3 acc e.on) (GS acc r) else GS acc r
def ED:List Oper->List (List Nat)->List (List Nat)
 |[],acc=>acc
 |o::r,acc=>ED r (acc++[GS acc o.after.toList])
def E0(cl:List (List Nat))(i j:Nat):Bool:=(D3 cl j).contains i
def jU(cl:List (List Nat))(j:Nat)(use touch z:List Nat)(f:Fp):Bool:=
 bif Jz (use++touch) f.touch && (Jz touch f.use && Gs f.nx f.cnt z) then true else E0 cl f.i j
def Iu(cl:List (List Nat))(j:Nat)(use touch z:List Nat):List Fp->Bool
 |[]=>true
 |f::r=>jU cl j use touch z f && Iu cl j use touch z r
def Bv.touch(E:Bv):List Nat:=E.kill++KV E.new
abbrev UO:=List Fp->Az->Prop
def Nz(cl:List (List Nat))(i:Nat)(acc:List Fp)(z:UO)(s:Az)(dst:Option Nat)(r:AV)(E:Bv):Prop:=
 E.ok s.nx r=true/\Iu cl i (E.use++E.kill) E.touch (E.touch++(r.nms++IW E.new)) acc=true/\z (⟨i,E.use++E.kill,E.touch,s.nx,E.cnt⟩::acc) (s.app dst r E)
def MN(P:Program)(V:CT)(cl:List (List Nat))(i:Nat)(acc:List Fp)(dst:Option Nat)(op:Op)(ty:TypeId)(z:UO)(s:Az):Prop:=
 step P V false s.tm (hget s.h) s.nx ty (Nz cl i acc z s dst) op
def MH(dst:Option Nat)(acc:List Fp)(z:UO)(s:Az):Prop:=z acc (s.put dst (.im (.tup [])))
def Xh(P:Program)(V:CT)(cl:List (List Nat))(i:Nat)(acc:List Fp)(dst:Option Nat)(op:Op)(ty:TypeId)(z:Bool)(G:UO)(s:Az):Option Nat->Prop
 |some t=>Wd (some t) z s (MN P V cl i acc dst op ty G) (MH dst acc G) (A8 s.tm t)
 |none=>False
def tK(P:Program)(V:CT)(cl:List (List Nat))(i:Nat)(acc:List Fp)(dst:Option Nat)(op:Op)(ty:TypeId)(G:UO)(s:Az):Option (Option Nat×Bool)->Prop
 |none=>MN P V cl i acc dst op ty G s
 |some (t,z)=>Xh P V cl i acc dst op ty z G s t
def Vv(P:Program)(V:CT)(cl:List (List Nat)):List SOp->Nat->(Az->Prop)->UO
 |[],_,K,_,s=>K s
 |⟨dst,op,ty,gd⟩::z,i,K,acc,s=>tK P V cl i acc dst op ty (Vv P V cl z (i+1) K) s gd
def MQ(K:Az->Prop)(Q:Ci):Ci
 | .normal,s=>K s
 | .exit i,s=>Q (.exit i) s
 | .ret,s=>Q .ret s
def IJ(i:Nat)(Q:Ci)(s:Az):Bool->Prop
 |true=>Q .normal s
 |false=>Q (.exit i) s
def iV(id:Nat)(Q:Ci):Ci
 | .normal,s=>Q .normal s
 | .exit i,s=>IJ i Q s (i==id)
 | .ret,s=>Q .ret s
def qA(A B:Ci->Az->Prop)(Q:Ci)(s:Az):AV->Prop
 | .im (.bool b)=>(b=true->A Q s)/\(b=false->B Q s)
 |_=>False
def Gw(s:Az):List (Nat×AV)->Prop
 |[]=>True
 |(t,x)::r=>A8 s.tm t=x/\Gw s r
def BZ(s:Az):Ao->Prop
 |[]=>True
 |(o,e)::r=>hget s.h o=some e/\BZ s r
def sub(s s':Az):Prop:=Gw s s'.tm/\BZ s s'.h
def Cp(n:Nat):List (Nat×AV)->Bool
 |[]=>true
 |(_,x)::r=>x.bel n && Cp n r
def BB(n:Nat):Ao->Bool
 |[]=>true
 |(m,_)::r=>Nat.blt m n && BB n r
def Az.good(s:Az):Bool:=Cp s.nx s.tm && (Av s.nx s.h && BB s.nx s.h)
def pm:List (Nat×Option Nat)->Nat->Option Nat
 |[],n=>some n
 |(a,b)::r,n=>if a=n then b else pm r n
def eU:AV->Prop
 | .im (.sl true _ [])=>True
 |_=>False
def EO(x:AV):Option Nat->Prop
 |some m=>x= .own m
 |none=>eU x
def GO(f:Nat->AV)(x:AV):Option Nat->Prop
 |some m=>x=f m
 |none=>False
mutual
def mt(π:List (Nat×Option Nat)):AV->AV->Prop
 | .any,_=>True
 | .im d,x=>x= .im d
 | .own n,x=>EO x (pm π n)
 | .ptr n p,x=>GO (λm=> .ptr m p) x (pm π n)
 | .eptr n i p,x=>GO (λm=> .eptr m i p) x (pm π n)
 | .mp n,x=>GO .mp x (pm π n)
 | .ch n,x=>GO .ch x (pm π n)
 | .it n,x=>GO .it x (pm π n)
 | .osl n a k,x=>GO (λm=> .osl m a k) x (pm π n)
 | .agg z,.agg ds=>Dp π z ds
 | .agg z,.im (.agg ds)=>Dp π z (ds.map .im)
 | .agg _,_=>False
 | .tup _,_=>False
 | .clo _ _ _,_=>False
def Dp(π:List (Nat×Option Nat)):List AV->List AV->Prop
 |[],[]=>True
 |x::r,y::s=>mt π x y/\Dp π r s
 |[],_::_=>False
 |_::_,[]=>False
end
def FQ(π:List (Nat×Option Nat)):List (List AV)->List (List AV)->Prop
 |[],[]=>True
 |x::r,y::s=>Dp π x y/\FQ π r s
 |[],_::_=>False
 |_::_,[]=>False
def DM(π:List (Nat×Option Nat)):Ac->Ac->Prop
 | .cells T G,.cells U ds=>T=U/\Dp π G ds
 | .cells _ _,_=>False
 | .arr T k rows,.arr U k' z=>Ac.arr U k' z= .arr T k rows
 | .arr T k rows,.arrA U k' z=>T=U/\k=k'/\z=Bi rows
 | .arr _ _ _,.cells _ _=>False
 | .arr _ _ _,.map _ _=>False
 | .arr _ _ _,.chan _ _=>False
 | .arr _ _ _,.iter _ _=>False
 | .arr _ _ _,.view _=>False
 | .arrA T k rows,.arrA U k' z=>T=U/\k=k'/\FQ π rows z
 | .arrA T k rows,.arr U k' z=>T=U/\k=k'/\FQ π rows (Bi z)
 | .arrA _ _ _,.cells _ _=>False
 | .arrA _ _ _,.map _ _=>False
 | .arrA _ _ _,.chan _ _=>False
 | .arrA _ _ _,.iter _ _=>False
 | .arrA _ _ _,.view _=>False
 | .map Q O,e=>e= .map Q O
 | .chan q c,e=>e= .chan q c
 | .iter a l,e=>e= .iter a l
 | .view G,e=>e= .view G
def Kv(π:List (Nat×Option Nat))(G:Bool)(e':Ac):Option Am->Prop
 |some (z,e)=>z=G/\DM π e' e
 |none=>False
def X5:Bool->Ac->Prop
 |true,.arr _ _ []=>True
 |true,.arrA _ _ []=>True
 |_,_=>False
def CE(s:Az)(π:List (Nat×Option Nat))(z:Bool)(e':Ac):Option Nat->Prop
 |some m=>Kv π z e' (hget s.h m)
 |none=>X5 z e'
def H4(π:List (Nat×Option Nat))(s:Az):List (Nat×AV)->Prop
 |[]=>True
 |(t,x)::r=>mt π x (A8 s.tm t)/\H4 π s r
def ES(π:List (Nat×Option Nat))(s:Az):Ao->Prop
 |[]=>True
 |(n,(z,e))::r=>CE s π z e (pm π n)/\ES π s r
def HO(lo:Nat):List (Nat×Option Nat)->Prop
 |[]=>True
 |(a,_)::r=>lo<=a/\HO lo r
def Es(π:List (Nat×Option Nat)):Ao->List (Option Nat)
 |[]=>[]
 |(n,_)::r=>pm π n::Es π r
def Cr:List (Option Nat)->Bool
 |[]=>true
 |none::r=>Cr r
 |some m::r=> !r.contains (some m) && Cr r
def Ar(lo:Nat)(π:List (Nat×Option Nat))(s s':Az):Prop:=HO lo π/\Cr (Es π s'.h)=true/\H4 π s s'.tm/\ES π s s'.h
def Mc{β:Type}(I:β->Az)(μ:β->Nat)(b:β)(Q:Ci):Ci
 | .normal,s=> ∃b',μ b'<μ b/\sub s (I b')
 | .exit i,s=>Q (.exit i) s
 | .ret,s=>Q .ret s
def Mb{β:Type}(lo:Nat)(I:β->Az)(μ:β->Nat)(b:β)(Q:Ci):Ci
 | .normal,s=> ∃b' π,μ b'<μ b/\Ar lo π s (I b')
 | .exit i,s=>Q (.exit i) s
 | .ret,s=>Q .ret s
def YN(z:Ci->Az->Prop)(Q:Ci)(s:Az):Prop:=
 ∃(β:Type) (I:β->Az) (μ:β->Nat),(∀b,(I b).good=true/\s.nx<=(I b).nx)/\(∃b,sub s (I b))/\ ∀b,z (Mc I μ b Q) (I b)
def xK(z:Ci->Az->Prop)(Q:Ci)(s:Az):Prop:=
 ∃(β:Type) (I:β->Az) (μ:β->Nat),(∀b,(I b).good=true/\s.nx<=(I b).nx)/\(∃b π,Ar s.nx π s (I b))/\ ∀b,z (Mb s.nx I μ b Q) (I b)
def HK(F:List Nat):Ao->Ao
 |[]=>[]
 |(n,(z,e))::r=>(n,(z && !F.contains n,e))::HK F r
def RI(F:List Nat)(s:Az):Az:=⟨s.tm,HK F s.h,s.nx⟩
def V0(z:Ci->Az->Prop)(Q:Ci)(s:Az):Prop:= ∃F:List Nat,YN z Q (RI F s)
def GY(n:Nat):Ac->AV
 | .arr _ w rows=> .im (.sl false w rows)
 | .cells _ _=> .own n
 | .arrA _ _ _=> .own n
 | .map _ _=> .own n
 | .chan _ _=> .own n
 | .iter _ _=> .own n
 | .view _=> .own n
def KD(n:Nat):Option Am->AV
 |some e=>GY n e.2
 |none=> .own n
def Jd(o p:Nat):Option (List D)->AV
 |some ds=> .im (.ref ds)
 |none=> .ptr o p
def Fm(o p:Nat):Option Am->AV
 |some (_,.cells _ z)=>Jd o p (Ds (z.drop p))
 |some (_,.arr _ _ _)=> .ptr o p
 |some (_,.arrA _ _ _)=> .ptr o p
 |some (_,.map _ _)=> .ptr o p
 |some (_,.chan _ _)=> .ptr o p
 |some (_,.iter _ _)=> .ptr o p
 |some (_,.view _)=> .ptr o p
 |none=> .ptr o p
mutual
def AV.fzA(F:List Nat)(H:Ao):AV->AV
 | .own n=>bif F.contains n then KD n (hget H n) else .own n
 | .agg z=> .agg (Dy F H z)
 | .any=> .any
 | .im d=> .im d
 | .tup z=> .tup z
 | .ptr o p=>bif F.contains o then (bif F.contains (o+4000000000) then Fm o p (hget H o) else .ptr o p) else .ptr o p
 | .eptr o i p=> .eptr o i p
 | .mp o=> .mp o
 | .ch o=> .ch o
 | .it o=> .it o
 | .osl o a n=> .osl o a n
 | .clo f a c=> .clo f a c
def Dy(F:List Nat)(H:Ao):List AV->List AV
 |[]=>[]
 |x::r=>x.fzA F H::Dy F H r
end
def Dz(F:List Nat)(H:Ao):List (List AV)->List (List AV)
 |[]=>[]
 |x::r=>Dy F H x::Dz F H r
def Ac.fzA(F:List Nat)(H:Ao):Ac->Ac
 | .cells T z=> .cells T (Dy F H z)
 | .arrA T k rows=> .arrA T k (Dz F H rows)
 | .arr T k rows=> .arr T k rows
 | .map O G=> .map O G
 | .chan q c=> .chan q c
 | .iter a l=> .iter a l
 | .view z=> .view z
def HN(F:List Nat)(H:Ao):List (Nat×AV)->List (Nat×AV)
 |[]=>[]
 |(t,x)::r=>(t,x.fzA F H)::HN F H r
def HL(F:List Nat)(H:Ao):Ao->Ao
 |[]=>[]
 |(n,(z,e))::r=>(n,(z && !F.contains n,e.fzA F H))::HL F H r
def RN(F:List Nat)(s:Az):Az:=⟨HN F s.h s.tm,HL F s.h s.h,s.nx⟩
def Ma{β:Type}(lo:Nat)(I:β->Az)(μ:β->Nat)(b:β)(Q:Ci):Ci
 | .normal,s=> ∃b' F π,μ b'<μ b/\Ar lo π (RN F s) (I b')
 | .exit i,s=>Q (.exit i) s
 | .ret,s=>Q .ret s
def xI(z:Ci->Az->Prop)(Q:Ci)(s:Az):Prop:=
 ∃(β:Type) (I:β->Az) (μ:β->Nat),(∀b,(I b).good=true/\s.nx<=(I b).nx)/\(∃b F π,Ar s.nx π (RN F s) (I b))/\ ∀b,z (Ma s.nx I μ b Q) (I b)
def AY(z:Ci->Az->Prop)(Q:Ci)(s:Az):Prop:=YN z Q s\/xK z Q s\/V0 z Q s\/xI z Q s
def AY.frr{z:Ci->Az->Prop}{Q:Ci}{s:Az}(h:xI z Q s):AY z Q s:=Or.inr (Or.inr (Or.inr h))
def AY.old{z:Ci->Az->Prop}{Q:Ci}{s:Az}(h:YN z Q s):AY z Q s:=Or.inl h
def AY.ren{z:Ci->Az->Prop}{Q:Ci}{s:Az}(h:xK z Q s):AY z Q s:=Or.inr (Or.inl h)
def AY.frz{z:Ci->Az->Prop}{Q:Ci}{s:Az}(F:List Nat)(h:YN z Q (RI F s)):AY z Q s:=Or.inr (Or.inr (Or.inl ⟨F,h⟩))
def CR(P:Program)(V:CT):Code->Ci->Az->Prop
 | .skip,Q,s=>Q .normal s
 | .region _ ops false,Q,s=>ON P V (Hz ops ops.toList) (Q .normal) s
 | .region _ ops true,Q,s=>Vv P V (ED ops.toList []) (Hz ops ops.toList) 0 (Q .normal) [] s
 | .seq a b,Q,s=>CR P V a (MQ (CR P V b Q) Q) s
 | .cond c a b,Q,s=>qA (CR P V a) (CR P V b) Q s (Ap s.tm c)
 | .block id c,Q,s=>CR P V c (iV id Q) s
 | .loop c,Q,s=>AY (CR P V c) Q s
 | .exit id,Q,s=>Q (.exit id) s
 | .ret,Q,s=>Q .ret s
 |_,_,_=>False
end Go.Ae
