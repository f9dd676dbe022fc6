/- Lemmas. Conditions: none. -/
import Derived.Orders
import Derived.Below
import Derived.Laws.Sem
import Derived.Lib.ItoaNum
set_option linter.all false
set_option maxHeartbeats 8000000
set_option maxRecDepth 100000
namespace Go
def Aw:=@Option.some.inj
def AL:=@Option.some_beq_some
def AI:=@Option.some.injEq
def AP:=@List.mem_of_getElem?
def Bd:=@List.getElem?_eq_getElem
def AO:=@Bool.and_eq_true
def AS:=@Option.getD_some
def Bk:=@Option.some_beq_none
def BJ:=@List.getElem?_eq_some_iff
def AF:=@Nat.le_refl
def Ad:=@if_neg
def Bo:=@decide_eq_true_eq
def Ai:=@if_pos
def B4:=@List.mem_singleton
def Bb:=@List.map_cons
def Bw:=@List.length_take
def Bp:=@List.mem_append
def BZ:=@List.mem_cons_of_mem
def BD:=@Int.toNat_natCast
def BQ:=@List.length_append
def Cb:=@List.mem_cons_self
def CO:=@List.drop_eq_nil_of_le
def Cz:=@List.getD_cons_zero
def CX:=@Option.map_eq_some_iff
def Bx:=@List.mem_cons
def DQ:=@List.getElem?_append_left
def Ch:=@List.length_drop
def Cr:=@List.length_cons
def CN:=@Bool.false_eq_true
def E7:=@List.getElem?_append_right
def DP:=@List.take_of_length_le
def Dm:=@Array.length_toList
def Ee:=@List.getElem?_set_self
def BI:=@List.mem_map
def DM:=@List.getElem?_set_ne
def D4:=@List.getD_cons_succ
def CC:=@List.append_nil
def BR:=@Nat.le_trans
def CW:=@List.cons_append
def EP:=@Option.bind_eq_some_iff
def BP:=@Nat.zero_le
def Cs:=@List.map_nil
def Ef:=@List.getElem?_map
def Ez:=@List.getElem?_drop
def DV:=@List.all_eq_true
def Fz:=@List.getElem?_eq_none
def E8:=@Nat.lt_of_lt_of_le
def GR:=@Array.getElem?_eq_getElem
def Dt:=@List.mem_range
def H2:=@Array.getD_eq_getD_getElem?
def E0:=@List.append_assoc
def G4:=@List.getElem?_cons_zero
def DW:=@Option.map_some
def El:=@List.take_length
def Ei:=@List.map_append
def FS:=@Nat.mul_le_mul_right
def EQ:=@List.flatMap_cons
def Ho:=@decide_eq_false_iff_not
def Ct:=@cond_false
def G6:=@List.contains_iff_mem
def DX:=@List.drop_drop
def GU:=@Array.getElem?_toList
def GV:=@List.mem_iff_getElem?
def G7:=@List.mem_append_left
def EJ:=@List.length_map
def I2:=@List.getElem?_cons_succ
def Ej:=@Prod.mk.injEq
def Fb:=@List.nil_append
def C3:=@cond_true
def BY:=@congrArg
def HZ:=@List.take_append_drop
def F3:=@List.length_nil
def G8:=@Classical.not_not
def G9:=@List.take_add_one
def H4:=@beq_eq_false_iff_ne
def BF:=@if_true
def NN:=@Array.getElem?_eq_some_iff
def Cu:=@if_false
def EI:=@Nat.lt_or_ge
def FR:=@List.drop_zero
def F1:=@Bool.and_true
def F2:=@Bool.true_and
def NL:=@List.getElem?_replicate
def Gf:=@Bool.false_and
def PY:=@List.eq_of_mem_replicate
def H3:=@Option.bind_some
def Fj:=@Nat.zero_add
def JN:=@List.drop_succ_cons
def Hn:=@List.nodup_cons
def JO:=@List.take_succ_cons
def I1:=@Bool.not_eq_false
def NM:=@List.length_replicate
def GS:=@List.take_zero
def WX:=@Array.getElem?_setIfInBounds
def V0:=@Classical.byContradiction
def Ra:=@List.length_eq_zero_iff
def HY:=@Bool.or_eq_true
def PZ:=@List.mem_append_right
def Fk:=@Nat.add_mul
def JP:=@Bool.not_eq_true'
def KM:=@List.getElem?_take
def Rb:=@Array.getElem?_eq_none
def WY:=@List.drop_eq_getElem_cons
def G5:=@Nat.sub_self
def JQ:=@Bool.not_eq_true
def Qa:=@List.getElem?_range
def fF:=@List.drop_append_of_le_length
def NP:=@List.ext_getElem?
def JR:=@List.length_set
def Qb:=@List.pairwise_cons
def ZM:=@List.mem_or_eq_of_mem_set
def I4:=@Nat.add_assoc
def KO:=@decide_eq_false
def Re:=@List.find?_eq_none
def JS:=@decide_eq_true
def Xb:=@ByteArray.size_append
def V9:=@List.filter_eq_self
def NQ:=@List.foldl_cons
def Rf:=@Bool.eq_false_iff
def fG:=@List.mem_of_find?_eq_some
def Rg:=@List.nodup_append
def JT:=@Bool.or_false
def fH:=@Array.getElem?_replicate
def Rh:=@List.getElem_mem
def Ri:=@List.not_mem_nil
def KP:=@List.all_cons
def fI:=@List.eraseIdx_cons_succ
def VA:=@List.size_toArray
def I5:=@Nat.one_mul
def Xc:=@Option.isSome_none
def WZ:=@Option.toList_some
def fA:=@List.zipWith_cons_cons
def H5:=@Nat.blt_eq
def Rc:=@List.mem_filter
def V3:=@Array.toList_map
def V4:=@List.drop_append
def uE:=@List.eq_nil_of_length_eq_zero
def V5:=@List.mem_flatMap
def NO:=@List.sum_cons
def F4:=@and_self
def ZI:=@List.map_congr_left
def ZJ:=@List.mem_map_of_mem
def E3:=@Ne.symm
def fB:=@Array.getElem?_modify
def fC:=@List.length_filter_le
def Xa:=@List.length_range
def KN:=@List.map_set
def fD:=@List.set_append_right
def Rd:=@List.foldl_nil
def V6:=@Bool.eq_iff_iff
def V7:=@List.cons.injEq
def ZK:=@List.contains_cons
def V8:=@List.find?_some
def ZL:=@List.set_cons_zero
def I3:=@Array.ext'
def fE:=@List.mem_iff_getElem
def lZ:=@Classical.epsilon_spec
def ZO:=@List.contains_nil
def fL:=@List.length_pos_iff
def uO:=@List.pairwise_iff_getElem
def mA:=@Array.getElem?_append
def mB:=@Nat.le_of_ble_eq_true
def uP:=@List.Perm.eq_of_pairwise
def fM:=@List.filter_append
def uQ:=@List.getElem?_take_of_lt
def ZP:=@Array.toList_inj
def ZQ:=@List.flatMap_nil
def Zdl:=@List.take_append_of_le_length
def uR:=@List.filter_cons_of_neg
def uS:=@Nat.add_sub_cancel_left
def Xe:=@Bool.not_false
def mC:=@Array.toList_append
def Qe:=@Int.le_refl
def mD:=@List.length_reverse
def Zds:=@Array.getElem?_append_left
def Zdt:=@Array.toList_setIfInBounds
def uU:=@List.length_singleton
def mE:=@List.set_cons_succ
def mF:=@Nat.eq_zero_or_pos
def ZR:=@List.take_left
def Rj:=@Nat.le_succ
def uV:=@List.mem_of_mem_take
def fJ:=@List.filter_nil
def Qc:=@Nat.ble_eq
def lV:=@Nat.lt_trichotomy
def Qd:=@beq_iff_eq
def KQ:=@forall_eq
def Xd:=@Nat.add_zero
def uF:=@Int.toNat_of_nonneg
def ZN:=@List.take_add
def lW:=@List.filter_cons
def lX:=@beq_self_eq_true
def fK:=@List.Perm.refl
def uG:=@Array.ext_getElem?
def uH:=@Array.extract_size
def ZdN:=@List.getElem?_toArray
def uI:=@List.Pairwise.imp
def uJ:=@List.foldl_append
def KR:=@true_and
def ZdR:=@List.exists_cons_of_ne_nil
def ZdS:=@List.perm_ext_iff_of_nodup
def ZdT:=@List.mem_of_mem_drop
def lY:=@Bool.and_false
def ZdV:=@List.isEmpty_eq_false_iff
def uK:=@List.any_eq_true
def uL:=@Nat.le_add_right
def uM:=@Nat.lt_succ_self
def uN:=@Nat.min_le_right
def NR:=@or_false
def Zeb:=@List.flatMap_append
def Zec:=@List.toList_toArray
def Zed:=@Array.size_setIfInBounds
def fN:=@Nat.add_comm
def fO:=@Nat.zero_mul
def mG:=@Bool.not_true
def uZ:=@List.all_append
def Zei:=@List.eraseIdx_cons_zero
def vA:=@Nat.not_lt_zero
def Zek:=@List.length_eq_one_iff
def Zel:=@List.length_pos_of_mem
def Zem:=@List.zipWith_nil_right
def Zen:=@Array.toList_push
def Zeo:=@not_false_eq_true
def Zep:=@Bool.and_eq_false_iff
def Zeq:=@Int.mul_le_mul_of_nonneg_right
def mH:=@List.map_map
def mI:=@Nat.sub_zero
def Zet:=@Option.getD_none
def Zeu:=@List.pairwise_append
def Zev:=@List.range_eq_range'
def vB:=@Bool.and_self
def vC:=@Bool.false_or
def vD:=@List.map_take
def Zez:=@Array.getElem?_append_right
def ZeA:=@Array.toList_modify
def ZeB:=@List.find?_cons
def ZeC:=@List.map_eq_nil_iff
def ZeD:=@List.range_succ
def ZeE:=@List.range_zero
def ZeF:=@List.replicate_succ
def ZeG:=@Nat.min_eq_left
def ZeH:=@Nat.mul_le_mul_left
def ZeI:=@Int.fdiv_eq_ediv_of_nonneg
def ZeJ:=@Int.tdiv_eq_ediv_of_nonneg
def ZeK:=@Int.tmod_eq_emod_of_nonneg
def ZeL:=@List.nodup_iff_pairwise_ne
def ZeM:=@List.perm_append_singleton
def ZeN:=@Array.append_empty
def ZeO:=@Array.toList_range
def uW:=@Bool.or_true
def ZeQ:=@Int.natCast_nonneg
def ZeR:=@List.getElem_range
def uX:=@Nat.le_of_eq
def uY:=@Nat.succ_mul
def ZeU:=@Array.mapM_eq_mapM_toList
def ZeV:=@Bool.and_assoc
def ZeW:=@List.getElem?_eq_none_iff
def ZeX:=@Array.getElem?_push_size
def ZeY:=@Array.size_append
def ZeZ:=@Option.isSome_iff_exists
def fP:=@and_assoc
def Zfb:=@List.cons.inj
def Zfc:=@List.filter_cons_of_pos
def Zfd:=@List.pairwise_mergeSort
def Zfe:=@Nat.lt_irrefl
def Zff:=@Bool.cond_eq_ite
def Zfg:=@decide_eq_decide
def Zfh:=@forall_eq_or_imp
def Zfi:=@Array.getElem?_push_lt
def Zfj:=@List.filter_eq_nil_iff
def Zfk:=@Array.getElem?_mapIdx
def Zfl:=@Array.mem_of_getElem?
def Zfm:=@Bool.true_or
def Zfn:=@List.eraseIdx_sublist
def Zfo:=@List.getElem?_reverse
def Zfp:=@List.head?_cons
def Zfq:=@List.pairwise_and_iff
def Zfr:=@List.sum_nil
def Zfs:=@Nat.le_total
def Zft:=@Option.map_none
def Zfu:=@decide_false
def Zfv:=@Array.toList_extract
def Zfw:=@Bool.or_eq_false_iff
def Zfx:=@List.length_eraseIdx
def Zfy:=@List.drop_take
def Zfz:=@List.take_take
def ZfA:=@Nat.min_def
def ZfB:=@decide_true
def ZS:=@eq_true
def ZfD:=@List.any_cons
def ZfE:=@List.drop_nil
def ZfF:=@List.take_nil
def ZfG:=@Int.ofNat_lt
def vE:=@and_true
def vG:=@ite_self
def ZU:=@not_or
end Go
namespace Go.Ae
def isG(_:Nat):Bool:=false
def xH:Array Value:=(Lib.pow10Tab.map λz=>Value.int .u64 z).toArray
def GP(ok:Nat->Prop)(hp:Nat->Option Obj):Prop:=ok 0/\ ∃T z,hp 0=some (.cells xH T z)
def GP.mono{ok ok':Nat->Prop}{hp hp':Nat->Option Obj}(h: ∀b o,ok b->hp b=some o->ok' b/\hp' b=some o)(Q:GP ok hp):GP ok' hp':=by
 obtain⟨z,T,O,G⟩:=Q;exact⟨(h _ _ z G).1,T,O,(h _ _ z G).2⟩
def GP.at{ok:Nat->Prop}{hp:Nat->Option Obj}(_:GP ok hp){g:Nat}(G:isG g=true):ok g/\ ∃t x T z,hp g=some (.cells #[.iface t x] T z):=by cases G
end Go.Ae
namespace Go.Ae
inductive KK where
 |int (k:IntKind)
 |str
 |bool
 deriving DecidableEq
structure KT where
 agg:Bool
 ks:List KK
 deriving DecidableEq
inductive D where
 |int (k:IntKind) (n:Int)
 |bool (b:Bool)
 |str (s:ByteArray)
 |nilp|nilf|nili|nilc|nilm
 |agg (cs:List D)
 |tup (cs:List D)
 |sl (nz:Bool) (k:Nat) (rows:List (List D))
 |ref (cs:List D)
 |mp (kt:KT) (es:List (D×D))
 |fn (f:FuncId) (first capt:List D)
 |ifc (t:TypeId) (d:D)
 |gp (g:Nat)
 |tok (g:Nat)
def KK.fit:KK->D->Bool
 | .int k,.int k' _=>k==k'
 | .str,.str _=>true
 | .bool,.bool _=>true
 |_,_=>false
def B5:List KK->List D->Bool
 |[],[]=>true
 |k::ks,d::ds=>k.fit d && B5 ks ds
 |_,_=>false
def KT.fit(z:KT)(d:D):Bool:=
 match z.agg,d with
 |true,.agg ds=>B5 z.ks ds
 |false,d=>B5 z.ks [d]
 |_,_=>false
def Hq:Nat:=140737488355328
def VB(f:Nat):Fn:=if f<1000000000 then .func f else .yield (f - 1000000000)
def WL{f:Nat}(h:f<1000000000):VB f= .func f:=Ai h
def xG(nz:Bool)(v:Value):Prop:=v= .slice none 0 0\/(nz=false/\ ∃a,v= .slice (some a) 0 0)
def lK{nz:Bool}{v:Value}(h:xG nz v): ∃z,v= .slice z 0 0:=by
 rcases h with rfl|⟨_,a,rfl⟩<;>exact⟨_,rfl⟩
def Qr7{v:Value}(h:xG true v):v= .slice none 0 0:=by
 rcases h with rfl|⟨h,_⟩
 .rfl
 .cases h
def Pg{nz:Bool}{v:Value}(h:xG nz v):xG false v:=by
 rcases h with rfl|⟨_,a,rfl⟩
 .exact .inl rfl
 .exact .inr ⟨rfl,a,rfl⟩
mutual
def rd(ok:Nat->Prop)(hp:Nat->Option Obj):D->Value->Prop
 | .int k n,v=>v= .int k n
 | .bool b,v=>v= .bool b
 | .str s,v=>v= .string s
 | .nilp,v=>v= .pointer none
 | .nilf,v=>v= .nilFunc
 | .nili,v=>v= .nilIface
 | .nilc,v=>v= .chan none
 | .nilm,v=>v= .map none
 | .agg cs,v=> ∃vs:Array Value,v= .agg vs/\rdl ok hp cs vs.toList
 | .tup cs,v=> ∃vs:Array Value,v= .tuple vs/\rdl ok hp cs vs.toList
 | .sl Z k rows,v=>(xG Z v/\rows=[])\/
  ∃b p cap vs T O,v= .slice (some ⟨b,p,none⟩) rows.length cap/\(Z=true->rows≠[])/\rows.length<=cap/\rows.length<=Hq/\ok b/\
   hp b=some (.cells vs T O)/\rdr ok hp k rows (vs.toList.drop p)
 | .ref cs,v=> ∃b p vs T O,v= .pointer (some ⟨b,p,none⟩)/\ok b/\hp b=some (.cells vs T O)/\rdp ok hp cs (vs.toList.drop p)
 | .mp kt Q,v=> ∃b z G,v= .map (some b)/\(∀e∈Q,kt.fit e.1=true)/\ok b/\hp b=some (.map z G)/\rde ok hp Q z.toList/\(z.toList.map (·.born)).Nodup/\ ∀e∈z.toList,e.born<G
 | .fn f first capt,v=> ∃a c:Array Value,v= .func (VB f) a c/\rdl ok hp first a.toList/\rdl ok hp capt c.toList
 | .ifc t d,v=> ∃x,v= .iface t x/\rd ok hp d x
 | .gp g,v=>v= .pointer (some ⟨g,0,none⟩)
 | .tok g,v=>ok g/\(∃t x,v= .iface t x)/\ ∃T O,hp g=some (.cells #[v] T O)
def rdl(ok:Nat->Prop)(hp:Nat->Option Obj):List D->List Value->Prop
 |[],vs=>vs=[]
 |d::ds,vs=> ∃v r,vs=v::r/\rd ok hp d v/\rdl ok hp ds r
def rdp(ok:Nat->Prop)(hp:Nat->Option Obj):List D->List Value->Prop
 |[],_=>True
 |d::ds,vs=> ∃v r,vs=v::r/\rd ok hp d v/\rdp ok hp ds r
def rdr(ok:Nat->Prop)(hp:Nat->Option Obj)(k:Nat):List (List D)->List Value->Prop
 |[],_=>True
 |r::z,vs=>r.length=k/\rdp ok hp r vs/\rdr ok hp k z (vs.drop k)
def rde(ok:Nat->Prop)(hp:Nat->Option Obj):List (D×D)->List MapEntry->Prop
 |[],z=>z=[]
 |(x,y)::ds,z=> ∃e r,z=e::r/\rd ok hp x e.key/\rd ok hp y e.val/\rde ok hp ds r
end
section mono
variable {ok ok':Nat->Prop}{hp hp':Nat->Option Obj}
mutual
def FL(h: ∀b,ok b->ok' b/\hp' b=hp b): ∀(d:D) (v:Value),rd ok hp d v->rd ok' hp' d v
 | .int _ _,_,hd=>by simpa only[rd] using hd
 | .bool _,_,hd=>by simpa only[rd] using hd
 | .str _,_,hd=>by simpa only[rd] using hd
 | .nilp,_,hd=>by simpa only[rd] using hd
 | .nilf,_,hd=>by simpa only[rd] using hd
 | .nili,_,hd=>by simpa only[rd] using hd
 | .nilc,_,hd=>by simpa only[rd] using hd
 | .nilm,_,hd=>by simpa only[rd] using hd
 | .gp _,_,hd=>by simpa only[rd] using hd
 | .tok g,v,hd=>by
   simp only[rd] at hd⊢;obtain⟨z,h3,T,Z,h2⟩:=hd;exact⟨(h g z).1,h3,T,Z,(h g z).2.trans h2⟩
 | .agg cs,v,hd=>by
   simp only[rd] at hd⊢;obtain⟨vs,rfl,z⟩:=hd;exact⟨vs,rfl,KB h cs _ z⟩
 | .tup cs,v,hd=>by
   simp only[rd] at hd⊢;obtain⟨vs,rfl,z⟩:=hd;exact⟨vs,rfl,KB h cs _ z⟩
 | .sl nz k rows,v,hd=>by
   simp only[rd] at hd⊢;rcases hd with hd|⟨b,p,cap,vs,T,Z,rfl,z,h2,h3,G,h5,h6⟩
   .exact .inl hd
   .exact .inr ⟨b,p,cap,vs,T,Z,rfl,z,h2,h3,(h b G).1,(h b G).2.trans h5,Zp h k rows _ h6⟩
 | .ref cs,v,hd=>by
   simp only[rd] at hd⊢;obtain⟨b,p,vs,T,Z,rfl,G,h5,h6⟩:=hd;exact⟨b,p,vs,T,Z,rfl,(h b G).1,(h b G).2.trans h5,Vm h cs _ h6⟩
 | .mp kt es,v,hd=>by
   simp only[rd] at hd⊢;obtain⟨b,Q,O,rfl,h3,G,h5,h6,h7⟩:=hd;exact⟨b,Q,O,rfl,h3,(h b G).1,(h b G).2.trans h5,KA h es _ h6,h7⟩
 | .fn f first capt,v,hd=>by
   simp only[rd] at hd⊢;obtain⟨a,c,rfl,z,h2⟩:=hd;exact⟨a,c,rfl,KB h first _ z,KB h capt _ h2⟩
 | .ifc t d,v,hd=>by
   simp only[rd] at hd⊢;obtain⟨x,rfl,z⟩:=hd;exact⟨x,rfl,FL h d _ z⟩
def KB(h: ∀b,ok b->ok' b/\hp' b=hp b): ∀(ds:List D) (vs:List Value),rdl ok hp ds vs->rdl ok' hp' ds vs
 |[],_,hd=>by simpa only[rdl] using hd
 |d::ds,vs,hd=>by
  simp only[rdl] at hd⊢;obtain⟨v,r,rfl,z,G⟩:=hd;exact⟨v,r,rfl,FL h d v z,KB h ds r G⟩
def Vm(h: ∀b,ok b->ok' b/\hp' b=hp b): ∀(ds:List D) (vs:List Value),rdp ok hp ds vs->rdp ok' hp' ds vs
 |[],_,_=>by simp only[rdp]
 |d::ds,vs,hd=>by
  simp only[rdp] at hd⊢;obtain⟨v,r,rfl,z,G⟩:=hd;exact⟨v,r,rfl,FL h d v z,Vm h ds r G⟩
def Zp(h: ∀b,ok b->ok' b/\hp' b=hp b)(k:Nat): ∀(z:List (List D)) (vs:List Value),rdr ok hp k z vs->rdr ok' hp' k z vs
 |[],_,_=>by simp only[rdr]
 |r::z,vs,hd=>by
  simp only[rdr] at hd⊢;exact⟨hd.1,Vm h r vs hd.2.1,Zp h k z _ hd.2.2⟩
def KA(h: ∀b,ok b->ok' b/\hp' b=hp b): ∀(ds:List (D×D)) (es:List MapEntry),rde ok hp ds es->rde ok' hp' ds es
 |[],_,hd=>by simpa only[rde] using hd
 |(x,y)::ds,es,hd=>by
  simp only[rde] at hd⊢;obtain⟨e,r,rfl,z,G,O⟩:=hd;exact⟨e,r,rfl,FL h x _ z,FL h y _ G,KA h ds r O⟩
end
end mono
def D.sc:D->Bool
 | .int _ _| .bool _| .str _| .nilp| .nilf| .nili| .nilc| .nilm=>true
 | .sl true _ []=>true
 |_=>false
def D.scs:D->Bool
 | .agg cs| .tup cs=>cs.all D.sc
 |d=>d.sc
def Mq{ok ok':Nat->Prop}{hp hp':Nat->Option Obj}: ∀{d:D} {v:Value},d.sc=true->rd ok hp d v->rd ok' hp' d v:=by
 intro d v h hd;cases d
 case sl nz k rows=>
  cases nz<;>cases rows<;>simp only[D.sc,CN] at h;simp only[rd] at hd⊢;rcases hd with hd|⟨b,p,cap,vs,T,G,_,z,_⟩
  .exact .inl hd
  .exact absurd rfl (z trivial)
 all_goals simp_all [D.sc,rd]
def TO{ok ok':Nat->Prop}{hp hp':Nat->Option Obj}: ∀(ds:List D) (vs:List Value),ds.all D.sc=true->rdl ok hp ds vs->rdl ok' hp' ds vs
 |[],_,_,hd=>by simpa only[rdl] using hd
 |d::ds,vs,h,hd=>by
  simp only[rdl,KP,AO] at hd h⊢;obtain⟨v,r,rfl,z,G⟩:=hd;exact⟨v,r,rfl,Mq h.1 z,TO ds r h.2 G⟩
def Wm{ok ok':Nat->Prop}{hp hp':Nat->Option Obj}: ∀{d:D} {v:Value},d.scs=true->rd ok hp d v->rd ok' hp' d v:=by
 intro d v h hd;cases d<;>simp only[D.scs] at h<;>try exact Mq h hd
 all_goals
  simp only[rd] at hd⊢;obtain⟨vs,rfl,z⟩:=hd;exact⟨vs,rfl,TO _ _ h z⟩
inductive AV where
 |any
 |im (d:D)
 |agg (cs:List AV)
 |tup (cs:List AV)
 |ptr (o off:Nat)
 |eptr (o i off:Nat)
 |own (o:Nat)
 |mp (o:Nat)
 |ch (o:Nat)
 |it (o:Nat)
 |osl (o a n:Nat)
 |clo (f:FuncId) (first capt:List AV)
 deriving Inhabited
inductive Ag where
 |cells (T:TypeId) (cs:List AV)
 |arr (T:TypeId) (k:Nat) (rows:List (List D))
 |arrA (T:TypeId) (k:Nat) (rows:List (List AV))
 |map (kt:KT) (es:List (D×D))
 |chan (q:List D) (cap:Nat)
 |iter (last:Option (D×D)) (left:List (D×D))
 |view (cs:List D)
def Ag.isView:Ag->Bool
 | .view _=>true
 | .cells _ _| .arr _ _ _| .arrA _ _ _| .map _ _| .chan _ _| .iter _ _=>false
abbrev Ap:=Bool×Ag
abbrev Ar:=List (Nat×Ap)
structure Fe where
 b:Nat
 p:Nat
 cap:Nat
structure Au where
 ρ:Nat->Option Fe
 ok:Nat->Prop
 h:Nat->Option Ap
 w:World
def Au.hp(S:Au):Nat->Option Obj:=λb=>S.w.heap[b]?
def Ag.len:Ag->Nat
 | .arr _ _ rows=>rows.length
 | .arrA _ _ rows=>rows.length
 |_=>0
def Ag.esz:Ag->Nat
 | .arr _ k _=>k
 | .arrA _ k _=>k
 |_=>0
def PJ(r:Option Fe)(z len a n:Nat)(v:Value):Prop:=match r with
 |none=>v= .slice none 0 0/\n=0
 |some l=> ∃p G,v= .slice (some ⟨l.b,p,none⟩) n G/\n<=G/\(n≠0->p=l.p+a*z)/\a+n<=len
mutual
def Aa(S:Au):AV->Value->Prop
 | .any,_=>True
 | .im d,v=>rd S.ok S.hp d v
 | .agg cs,v=> ∃vs:Array Value,v= .agg vs/\AJ S cs vs.toList
 | .tup cs,v=> ∃vs:Array Value,v= .tuple vs/\AJ S cs vs.toList
 | .ptr o off,v=>v.oneCell'=true/\ ∀e,S.h o=some e-> ∃l,S.ρ o=some l/\v= .pointer (some ⟨l.b,l.p+off,none⟩)
 | .eptr o i off,v=>v.oneCell'=true/\ ∀e,S.h o=some e-> ∃l,S.ρ o=some l/\v= .pointer (some ⟨l.b,l.p+i*e.2.esz+off,none⟩)
 | .own o,v=>v.oneCell'=true/\ ∀e,S.h o=some e->match S.ρ o with
  |none=>v= .slice none 0 0
  |some l=>v= .slice (some ⟨l.b,l.p,none⟩) e.2.len l.cap
 | .mp o,v=>v.oneCell'=true/\ ∀e,S.h o=some e-> ∃l,S.ρ o=some l/\v= .map (some l.b)
 | .ch o,v=>v.oneCell'=true/\ ∀e,S.h o=some e-> ∃l,S.ρ o=some l/\v= .chan (some l.b)
 | .it o,v=>v.oneCell'=true/\ ∀e,S.h o=some e-> ∃l,S.ρ o=some l/\v= .pointer (some ⟨l.b,0,none⟩)
 | .osl o a n,v=>v.oneCell'=true/\ ∀e,S.h o=some e->PJ (S.ρ o) e.2.esz e.2.len a n v
 | .clo f first capt,v=> ∃a c:Array Value,v= .func (VB f) a c/\AJ S first a.toList/\AJ S capt c.toList
def AJ(S:Au):List AV->List Value->Prop
 |[],vs=>vs=[]
 |x::xs,vs=> ∃v r,vs=v::r/\Aa S x v/\AJ S xs r
end
def Cy(S:Au):List AV->List Value->Prop
 |[],_=>True
 |x::xs,vs=> ∃v r,vs=v::r/\Aa S x v/\Cy S xs r
def BE(S:Au)(k:Nat):List (List AV)->List Value->Prop
 |[],_=>True
 |r::z,vs=>r.length=k/\Cy S r vs/\BE S k z (vs.drop k)
def SP(ok:Nat->Prop)(hp:Nat->Option Obj)(z:Array MapEntry)(G:Array Nat):Option (D×D)->Prop
 |none=>True
 |some (x,y)=> ∃st e,G.back? =some st/\z.find? (·.born==st)=some e/\rd ok hp x e.key/\rd ok hp y e.val
def Al(S:Au)(l:Option Fe):Ag->Prop
 | .cells T cs=> ∃O vs,l=some O/\O.p=0/\S.hp O.b=some (.cells vs T (0,0))/\AJ S cs vs.toList
 | .arr T k rows=>rows.length<=Hq/\match l with
  |none=>rows=[]
  |some O=>rows.length<=O.cap/\ ∃vs,S.hp O.b=some (.cells vs T (0,0))/\O.p+O.cap*k<=vs.size/\rdr S.ok S.hp k rows (vs.toList.drop O.p)
 | .arrA T k rows=>rows.length<=Hq/\match l with
  |none=>rows=[]
  |some O=>rows.length<=O.cap/\ ∃vs,S.hp O.b=some (.cells vs T (0,0))/\O.p+O.cap*k<=vs.size/\BE S k rows (vs.toList.drop O.p)
 | .map kt es=> ∃O z G,l=some O/\(∀e∈es,kt.fit e.1=true)/\S.hp O.b=some (.map z G)/\rde S.ok S.hp es z.toList/\
  (z.toList.map (·.born)).Nodup/\ ∀e∈z.toList,e.born<G
 | .chan q cap=> ∃O Z ac ab,l=some O/\S.hp O.b=some (.chan cap Z false ac ab false)/\rdl S.ok S.hp q Z.toList
 | .iter aa left=> ∃O mb z G Q,l=some O/\S.ok mb/\SP S.ok S.hp z Q aa/\S.hp mb=some (.map z G)/\
  S.hp O.b=some (.mapIter (some mb) G Q G)/\(z.toList.map (·.born)).Nodup/\(∀e∈z.toList,e.born<G)/\
  rde S.ok S.hp left (z.toList.filter λe=> !Q.contains e.born)
 | .view cs=> ∃O vs T fr,l=some O/\S.hp O.b=some (.cells vs T fr)/\rdp S.ok S.hp cs (vs.toList.drop O.p)
structure AT where
 w:World
 M:Nat->Prop
 ok:Nat->Prop
 n0:Nat
 h0:Nat->Option Ap
 ρ0:Nat->Option Fe
 ds:List Deferred
def AT.mk0(w:World)(M ok:Nat->Prop):AT:=⟨w,M,ok,0,λ_=>none,λ_=>none,[]⟩
def AT.Pre(C:AT)(S:Au):Prop:= ∀o,o<C.n0-> ∀e',S.h o=some e'-> ∃e,C.h0 o=some e/\S.ρ o=C.ρ0 o/\e'.2.esz=e.2.esz/\e'.2.len=e.2.len
structure Wf(C:AT)(S:Au):Prop where
 os:S.w.os=C.w.os
 tape:S.w.tape=C.w.tape
 output:S.w.output=C.w.output
 dr:C.w.drawn<=S.w.drawn
 size:C.w.heap.size<=S.w.heap.size
 keep: ∀b,b<C.w.heap.size-> ¬C.M b->S.w.heap[b]? =C.w.heap[b]?
 ok0: ∀b,C.ok b->S.ok b
 ok1: ∀b,S.ok b->C.ok b\/C.w.heap.size<=b\/C.M b
 oks: ∀b,S.ok b->b<S.w.heap.size
 obj: ∀o e,S.h o=some e->Al S (S.ρ o) e.2
 loc: ∀o e l,S.h o=some e->S.ρ o=some l->l.b<S.w.heap.size/\if e.1 then ¬S.ok l.b/\(C.w.heap.size<=l.b\/C.M l.b) else S.ok l.b\/e.2.isView=true
 inj: ∀o o' e e' l l',S.h o=some e->S.h o'=some e'->S.ρ o=some l->S.ρ o'=some l'->l.b=l'.b->(e.1||e'.1)=true->o=o'
 gl:GP (λb=>C.ok b/\ ¬C.M b) (λb=>C.w.heap[b]?)
def Wf.gp{C:AT}{S:Au}(h:Wf C S):GP S.ok S.hp:=by
 refine h.gl.mono λb o G z=>⟨h.ok0 b G.1,?_⟩
 have O:b<C.w.heap.size:=by
  apply V0;intro hn
  have:C.w.heap[b]? =none:=Rb (by omega)
  rw[this] at z;cases z
 exact (h.keep b O G.2).trans z
def Wf.glN{C:AT}{S:Au}(h:Wf C S){M:Nat->Prop}(G: ∀b,M b-> ¬S.ok b):GP (λb=>S.ok b/\ ¬M b) (λb=>S.w.heap[b]?):=
 h.gp.mono λb _ z Q=>⟨⟨z,λO=>G b O z⟩,Q⟩
mutual
def AV.bel(n:Nat):AV->Bool
 | .any=>true
 | .im _=>true
 | .agg cs=>AN n cs
 | .tup cs=>AN n cs
 | .ptr o _=>Nat.blt o n
 | .eptr o _ _=>Nat.blt o n
 | .own o=>Nat.blt o n
 | .mp o=>Nat.blt o n
 | .ch o=>Nat.blt o n
 | .it o=>Nat.blt o n
 | .osl o _ _=>Nat.blt o n
 | .clo _ a c=>AN n a && AN n c
def AN(n:Nat):List AV->Bool
 |[]=>true
 |x::r=>x.bel n && AN n r
end
mutual
def AV.nms:AV->List Nat
 | .any=>[]
 | .im _=>[]
 | .agg cs=>A9 cs
 | .tup cs=>A9 cs
 | .ptr o _=>[o]
 | .eptr o _ _=>[o]
 | .own o=>[o]
 | .mp o=>[o]
 | .ch o=>[o]
 | .it o=>[o]
 | .osl o _ _=>[o]
 | .clo _ a c=>A9 a++A9 c
def A9:List AV->List Nat
 |[]=>[]
 |x::r=>x.nms++A9 r
end
def BB:List (List AV)->List Nat
 |[]=>[]
 |x::r=>A9 x++BB r
def Ag.nms:Ag->List Nat
 | .cells _ cs=>A9 cs
 | .arr _ _ _=>[]
 | .arrA _ _ rows=>BB rows
 | .map _ _=>[]
 | .chan _ _=>[]
 | .iter _ _=>[]
 | .view _=>[]
structure B3(X:Nat->Prop)(S S':Au):Prop where
 ok: ∀b,S.ok b->S'.ok b/\S'.hp b=S.hp b
 nm: ∀o,X o-> ∀e',S'.h o=some e'-> ∃e,S.h o=some e/\S'.ρ o=S.ρ o/\e'.2.esz=e.2.esz/\e'.2.len=e.2.len
def B3.refl(X:Nat->Prop)(S:Au):B3 X S S:=⟨λ_ h=>⟨h,rfl⟩,λ_ _ e' h=>⟨e',h,rfl,rfl,rfl⟩⟩
section
variable {X:Nat->Prop}{S S':Au}
mutual
def Hu(hp:B3 X S S'): ∀(x:AV) (v:Value),(∀o∈x.nms,X o)->Aa S x v->Aa S' x v
 | .any,_,_,_=>by simp only[Aa]
 | .im d,v,_,h=>by
   simp only[Aa] at h⊢;exact FL hp.ok d v h
 | .agg cs,v,G,h=>by
   simp only[Aa,AV.nms] at h G⊢;obtain⟨vs,rfl,h1⟩:=h;exact⟨vs,rfl,Vg hp cs _ G h1⟩
 | .tup cs,v,G,h=>by
   simp only[Aa,AV.nms] at h G⊢;obtain⟨vs,rfl,h1⟩:=h;exact⟨vs,rfl,Vg hp cs _ G h1⟩
 | .ptr o off,v,G,h=>by
   simp only[Aa,AV.nms,B4,KQ] at h G⊢;obtain⟨z,h⟩:=h;refine⟨z,?_⟩;intro e' O;obtain⟨e,Q,Z,_,_⟩:=hp.nm o G e' O;rw[Z];exact h e Q
 | .eptr o i off,v,G,h=>by
   simp only[Aa,AV.nms,B4,KQ] at h G⊢;obtain⟨z,h⟩:=h;refine⟨z,?_⟩;intro e' O;obtain⟨e,Q,Z,hz,_⟩:=hp.nm o G e' O;rw[Z,hz];exact h e Q
 | .own o,v,G,h=>by
   simp only[Aa,AV.nms,B4,KQ] at h G⊢;obtain⟨z,h⟩:=h;refine⟨z,?_⟩;intro e' O;obtain⟨e,Q,Z,_,hl⟩:=hp.nm o G e' O;rw[Z,hl];exact h e Q
 | .mp o,v,G,h=>by
   simp only[Aa,AV.nms,B4,KQ] at h G⊢;obtain⟨z,h⟩:=h;refine⟨z,?_⟩;intro e' O;obtain⟨e,Q,Z,_,_⟩:=hp.nm o G e' O;rw[Z];exact h e Q
 | .ch o,v,G,h=>by
   simp only[Aa,AV.nms,B4,KQ] at h G⊢;obtain⟨z,h⟩:=h;refine⟨z,?_⟩;intro e' O;obtain⟨e,Q,Z,_,_⟩:=hp.nm o G e' O;rw[Z];exact h e Q
 | .it o,v,G,h=>by
   simp only[Aa,AV.nms,B4,KQ] at h G⊢;obtain⟨z,h⟩:=h;refine⟨z,?_⟩;intro e' O;obtain⟨e,Q,Z,_,_⟩:=hp.nm o G e' O;rw[Z];exact h e Q
 | .osl o a n,v,G,h=>by
   simp only[Aa,AV.nms,B4,KQ] at h G⊢;obtain⟨z,h⟩:=h;refine⟨z,?_⟩;intro e' O;obtain⟨e,Q,Z,hz,hl⟩:=hp.nm o G e' O;rw[Z,hz,hl];exact h e Q
 | .clo f fi ca,v,G,h=>by
   simp only[Aa,AV.nms,Bp] at h G⊢;obtain⟨a,c,rfl,h1,h2⟩:=h;exact⟨a,c,rfl,Vg hp fi _ (λo ho=>G o (.inl ho)) h1,Vg hp ca _ (λo ho=>G o (.inr ho)) h2⟩
def Vg(hp:B3 X S S'): ∀(xs:List AV) (vs:List Value),(∀o∈A9 xs,X o)->AJ S xs vs->AJ S' xs vs
 |[],_,_,h=>by simpa only[AJ] using h
 |x::xs,vs,G,h=>by
  simp only[AJ,A9,Bp] at h G⊢;obtain⟨v,r,rfl,O,Q⟩:=h;exact⟨v,r,rfl,Hu hp x v (λo z=>G o (.inl z)) O,Vg hp xs r (λo z=>G o (.inr z)) Q⟩
end
def Qq7(hp:B3 X S S'): ∀(xs:List AV) (vs:List Value),(∀o∈A9 xs,X o)->Cy S xs vs->Cy S' xs vs
 |[],_,_,_=>by simp only[Cy]
 |x::xs,vs,G,h=>by
  simp only[Cy,A9,Bp] at h G⊢;obtain⟨v,r,rfl,O,Q⟩:=h;exact⟨v,r,rfl,Hu hp x v (λo z=>G o (.inl z)) O,Qq7 hp xs r (λo z=>G o (.inr z)) Q⟩
def rC(hp:B3 X S S')(k:Nat): ∀(z:List (List AV)) (vs:List Value),(∀o∈BB z,X o)->BE S k z vs->BE S' k z vs
 |[],_,_,_=>by simp only[BE]
 |r::z,vs,O,h=>by
  simp only[BE,BB,Bp] at h O⊢;exact⟨h.1,Qq7 hp r vs (λo G=>O o (.inl G)) h.2.1,rC hp k z _ (λo G=>O o (.inr G)) h.2.2⟩
def Qly{ok ok':Nat->Prop}{hp hp':Nat->Option Obj}(h: ∀b,ok b->ok' b/\hp' b=hp b){z:Array MapEntry}{G:Array Nat}: ∀(l:Option (D×D)),SP ok hp z G l->SP ok' hp' z G l
 |none,_=>trivial
 |some (x,y),O=>by
  obtain⟨st,e,a,b,c,d⟩:=O;exact⟨st,e,a,b,FL h x _ c,FL h y _ d⟩
def Hh(hp:B3 X S S'){l:Option Fe}(hl: ∀z,l=some z->S'.hp z.b=S.hp z.b): ∀(e:Ag),(∀o∈e.nms,X o)->Al S l e->Al S' l e
 | .cells T cs,hx,h=>by
   simp only[Al,Ag.nms] at h hx⊢;obtain⟨z,vs,G,Q,Z,h4⟩:=h;exact⟨z,vs,G,Q,(hl z G).trans Z,Vg hp cs _ hx h4⟩
 | .arr T k rows,hx,h=>by
   simp only[Al] at h⊢;refine⟨h.1,?_⟩;cases l with
   |none=>exact h.2
   |some z=>
    obtain⟨h0,G,vs,Q,Z,h4⟩:=h;exact⟨G,vs,(hl z rfl).trans Q,Z,Zp hp.ok k rows _ h4⟩
 | .arrA T k rows,hx,h=>by
   simp only[Al,Ag.nms] at h hx⊢;refine⟨h.1,?_⟩;cases l with
   |none=>exact h.2
   |some z=>
    obtain⟨h0,G,vs,Q,Z,h4⟩:=h;exact⟨G,vs,(hl z rfl).trans Q,Z,rC hp k rows _ hx h4⟩
 | .map kt es,_,h=>by
   simp only[Al] at h⊢;obtain⟨z,aa,O,G,h0,Q,Z,h4⟩:=h;exact⟨z,aa,O,G,h0,(hl z G).trans Q,KA hp.ok es _ Z,h4⟩
 | .chan q cap,_,h=>by
   simp only[Al] at h⊢;obtain⟨z,ag,af,ac,G,Q,Z⟩:=h;exact⟨z,ag,af,ac,G,(hl z G).trans Q,KB hp.ok q _ Z⟩
 | .iter ab left,_,h=>by
   simp only[Al] at h⊢;obtain⟨z,mb,aa,O,ad,G,Q,h0,Z,h4,h5,h6,h7⟩:=h;exact⟨z,mb,aa,O,ad,G,(hp.ok mb Q).1,Qly hp.ok ab h0,(hp.ok mb Q).2.trans Z,(hl z G).trans h4,h5,h6,KA hp.ok left _ h7⟩
 | .view cs,_,h=>by
   simp only[Al] at h⊢;obtain⟨z,vs,T,fr,G,Q,Z⟩:=h;exact⟨z,vs,T,fr,G,(hl z G).trans Q,Vm hp.ok cs _ Z⟩
end
inductive TK where
 |bool
 |str
 |ptr (e:TypeId)
 |int (k:IntKind)
 |slice (e:TypeId)
 |array (n:Nat) (e:TypeId)
 |struct (fs:List (Nat×Nat))
 |map (k e:TypeId)
 |other
structure TI where
 size:Nat
 bytes:Nat
 agg:Bool
 kind:TK
 zero:List D
def zD:Value->D
 | .bool b=> .bool b
 | .int k n=> .int k n
 | .string s=> .str s
 | .pointer none=> .nilp
 | .slice none _ _=> .sl true 0 []
 | .map none=> .nilm
 | .chan none=> .nilc
 | .nilFunc=> .nilf
 |_=> .nili
def bG:Value->Bool
 | .bool _| .int _ _| .string _| .pointer none| .slice none 0 0| .map none| .chan none| .nilFunc| .nilIface=>true
 |_=>false
def zOf:Bool->Option Value->List D
 |true,some (.agg vs)=>bif vs.toList.all bG then vs.toList.map zD else []
 |false,some v=>bif bG v then [zD v] else []
 |_,_=>[]
def NS:TypeDesc->Bool
 | .struct _| .array _ _=>true
 |_=>false
def Fu(P:Program):TypeDesc->TK
 | .int k=> .int k
 | .slice e=> .slice e
 | .array n e=> .array n e
 | .struct z=>bif z.toList.all (λf=>(P.info? f.type).isSome) then .struct (z.toList.map λf=>(f.offset,((P.info? f.type).map (·.size)).getD 0)) else .other
 | .map k e=> .map k e
 | .bool=> .bool
 | .string=> .str
 | .pointer e=> .ptr e
 |_=> .other
def tI(P:Program)(t:TypeId):Option TI:=
 match P.info? t,P.underlying t with
 |some i,some u=>some {size:=i.size,bytes:=i.bytes,agg:=NS u,kind:=Fu P u,zero:=zOf (NS u) i.zero}
 |_,_=>none
structure Bz where
 use:List Nat:=[]
 kill:List Nat:=[]
 new:Ar:=[]
 cnt:Nat:=0
structure Az where
 tm:List (Nat×AV)
 h:Ar
 nx:Nat
def Ay:List (Nat×AV)->Nat->AV
 |[],_=> .any
 |(m,x)::r,n=>bif m==n then x else Ay r n
def hget:Ar->Nat->Option Ap
 |[],_=>none
 |(m,e)::r,n=>bif m==n then some e else hget r n
def Cn:Ar->List Nat->Ar
 |[],_=>[]
 |(m,e)::r,ks=>bif ks.contains m then Cn r ks else (m,e)::Cn r ks
def Az.put(s:Az)(dst:Option Nat)(x:AV):Az:=
 match dst with
 |some d=>⟨(d,x)::s.tm,s.h,s.nx⟩
 |none=>s
def Az.app(s:Az)(dst:Option Nat)(r:AV)(E:Bz):Az:=
 (⟨s.tm,E.new++Cn s.h E.kill,s.nx+E.cnt⟩:Az).put dst r
def kD:Value->AV
 | .bool b=> .im (.bool b)
 | .int k n=> .im (.int k n)
 | .string s=> .im (.str s)
 | .pointer none=> .im .nilp
 | .slice none 0 0=> .im (.sl true 0 [])
 | .map none=> .im .nilm
 | .chan none=> .im .nilc
 | .nilFunc=> .im .nilf
 | .nilIface=> .im .nili
 |_=> .any
def Aq(tm:List (Nat×AV)):Operand->AV
 | .tmp t=>Ay tm t
 | .const v=>kD v
 | .global g=> .im (.gp g)
 | .func f=>bif Nat.blt f 1000000000 then .im (.fn f [] []) else .any
def D.cells:D->List D
 | .agg ds=>ds
 | .int k n=>[.int k n]
 | .bool b=>[.bool b]
 | .str s=>[.str s]
 | .nilp=>[.nilp]
 | .nilf=>[.nilf]
 | .nili=>[.nili]
 | .nilc=>[.nilc]
 | .nilm=>[.nilm]
 | .tup cs=>[.tup cs]
 | .sl O k rows=>[.sl O k rows]
 | .ref cs=>[.ref cs]
 | .mp G z=>[.mp G z]
 | .fn f a c=>[.fn f a c]
 | .ifc t d=>[.ifc t d]
 | .gp g=>[.gp g]
 | .tok g=>[.tok g]
def AV.cells:AV->List AV
 | .im d=>d.cells.map .im
 | .agg cs=>cs
 | .any=>[]
 | .tup cs=>[.tup cs]
 | .ptr o p=>[.ptr o p]
 | .eptr o i p=>[.eptr o i p]
 | .own o=>[.own o]
 | .mp o=>[.mp o]
 | .ch o=>[.ch o]
 | .it o=>[.it o]
 | .osl o a n=>[.osl o a n]
 | .clo f a c=>[.clo f a c]
def D.one:D->Bool
 | .agg _| .tup _=>false
 | .int _ _| .bool _| .str _| .nilp| .nilf| .nili| .nilc| .nilm| .sl _ _ _| .ref _| .mp _ _| .fn _ _ _| .ifc _ _| .gp _| .tok _=>true
def AV.one:AV->Bool
 | .im d=>d.one
 | .agg _| .any| .tup _=>false
 | .ptr _ _| .eptr _ _ _| .own _| .mp _| .ch _| .it _| .osl _ _ _| .clo _ _ _=>true
def QQ:List AV->Bool
 |[]=>true
 |x::r=>x.one && QQ r
def AV.asD:AV->Option D
 | .im d=>some d
 | .agg _| .any| .tup _| .ptr _ _| .eptr _ _ _| .own _| .mp _| .ch _| .it _| .osl _ _ _| .clo _ _ _=>none
def NE:Option D->Option (List D)->Option (List D)
 |some d,some ds=>some (d::ds)
 |some _,none=>none
 |none,_=>none
def D3:List AV->Option (List D)
 |[]=>some []
 |x::r=>NE x.asD (D3 r)
def Ye(cs:List AV):Option (List D)->AV
 |some ds=> .im (.agg ds)
 |none=> .agg cs
def hdV:List AV->AV
 |[]=> .any
 |x::_=>x
def gM:List D->D
 |[]=> .nilp
 |x::_=>x
def gV(agg:Bool)(cs:List AV):AV:=
 bif agg then Ye cs (D3 cs) else hdV cs
def aS(agg:Bool)(ds:List D):D:=bif agg then .agg ds else gM ds
def Cf{α:Type}(l:List α)(off:Nat)(x:List α):List α:=l.take off++x++l.drop (off+x.length)
abbrev Ah:=AV->Bz->Prop
mutual
def D.beq:D->D->Bool
 | .int _ a,.int _ b=>a==b
 | .bool a,.bool b=>a==b
 | .str a,.str b=>a==b
 | .agg a,.agg b=>D.beql a b
 |_,_=>false
def D.beql:List D->List D->Bool
 |[],[]=>true
 |a::r,b::s=>D.beq a b && D.beql r s
 |_,_=>false
end
def lk:List (D×D)->D->Option D
 |[],_=>none
 |(k,v)::r,x=>bif D.beq x k then some v else lk r x
def Gu:List (D×D)->D->D->List (D×D)
 |[],x,y=>[(x,y)]
 |(k,v)::r,x,y=>bif D.beq x k then (x,y)::r else (k,v)::Gu r x y
def IC:List (D×D)->D->List (D×D)
 |[],_=>[]
 |(k,v)::r,x=>bif D.beq x k then r else (k,v)::IC r x
def Z9(P:Program)(G:TypeId->Option KT):List Field->Nat->Option (List KK)
 |[],_=>some []
 |f::O,off=>
  match G f.type,P.info? f.type with
  |some z,some i=>
   bif f.offset==off && (f.name != "_" && i.size==z.ks.length) then (Z9 P G O (off+z.ks.length)).map (z.ks++ ·) else none
  |_,_=>none
def Bu(P:Program):Nat->TypeId->Option KT
 |0,_=>none
 |n+1,t=>
  match P.underlying t with
  |some (.int k)=>some ⟨false,[.int k]⟩
  |some .string=>some ⟨false,[.str]⟩
  |some .bool=>some ⟨false,[.bool]⟩
  |some (.struct z)=>bif P.stoodInHeld t then none else (Z9 P (Bu P n) z.toList 0).map (⟨true,·⟩)
  |_=>none
def BK(P:Program)(t:TypeId):Option KT:=Bu P 5 t
def Jo{α:Type}(rows:List (List α))(i:Nat)(K:List α->Prop):Prop:= ∀row,rows[i]? =some row->K row
def FX(es:List (D×D))(kd:D)(Ks:D->Prop)(Kn:Prop):Prop:=(∀v,lk es kd=some v->Ks v)/\(lk es kd=none->Kn)
def eN(ti:TI)(off:Nat)(E:Bz)(K:Ah)(row:List D):Prop:=(ti.agg=true\/ti.size=1)/\off+ti.size<=row.length/\K (.im (aS ti.agg ((row.drop off).take ti.size))) E
def tV(ti:TI)(off:Nat)(E:Bz)(K:Ah)(row:List AV):Prop:=(ti.agg=true\/ti.size=1)/\off+ti.size<=row.length/\K (gV ti.agg ((row.drop off).take ti.size)) E
def IM(ti:TI)(o off:Nat)(K:Ah):Option Ap->Prop
 |some (_,.cells _ cs)=>tV ti off {use:=[o]} K cs
 |some (_,.view cs)=>eN ti off {use:=[o]} K cs
 |_=>False
def IL(ti:TI)(o i off:Nat)(K:Ah):Option Ap->Prop
 |some (_,.arr _ _ rows)=>i<rows.length/\Jo rows i (eN ti off {use:=[o]} K)
 |some (_,.arrA _ _ rows)=>i<rows.length/\Jo rows i (tV ti off {use:=[o]} K)
 |_=>False
def WN(h:Nat->Option Ap)(ti:TI)(K:Ah):AV->Prop
 | .im (.ref cs)=>eN ti 0 {} K cs
 | .im (.gp g)=>isG g=true/\ti.size=1/\ti.agg=false/\K (.im (.tok g)) {}
 | .ptr o off=>IM ti o off K (h o)
 | .eptr o i off=>IL ti o i off K (h o)
 |_=>False
def XU(o i off k z:Nat)(T:TypeId)(rows:List (List D))(K:Ah)(row:List D):Option (List D)->Prop
 |some ds=>off+z<=row.length/\K .any {use:=[o],kill:=[o],new:=[(o,(true,.arr T k (rows.set i (Cf row off ds))))]}
 |none=>False
def Qxz(o i off k z:Nat)(T:TypeId)(rows:List (List D))(ds:Option (List D))(K:Ah)(row:List D):Prop:=XU o i off k z T rows K row ds
def Qyo(o i off k z:Nat)(T:TypeId)(rows:List (List AV))(vs:List AV)(K:Ah)(row:List AV):Prop:=
 off+z<=row.length/\K .any {use:=[o],kill:=[o],new:=[(o,(true,.arrA T k (rows.set i (Cf row off vs))))]}
def Uw(ti:TI)(o off:Nat)(vs:List AV)(K:Ah):Option Ap->Prop
 |some (true,.cells T cs)=>off+ti.size<=cs.length/\K .any {use:=[o],kill:=[o],new:=[(o,(true,.cells T (Cf cs off vs)))]}
 |_=>False
def Je(ti:TI)(o i off:Nat)(vs:List AV)(K:Ah):Option Ap->Prop
 |some (true,.arr T k rows)=>i<rows.length/\Jo rows i (Qxz o i off k ti.size T rows (D3 vs) K)
 |some (true,.arrA T k rows)=>i<rows.length/\Jo rows i (Qyo o i off k ti.size T rows vs K)
 |_=>False
def rF(h:Nat->Option Ap)(ti:TI)(vs:List AV)(K:Ah):AV->Prop
 | .ptr o off=>Uw ti o off vs K (h o)
 | .eptr o i off=>Je ti o i off vs K (h o)
 |_=>False
def Qri(h:Nat->Option Ap)(x v:AV)(K:Ah)(ti:TI):Prop:=
 ti.size≠0/\v.cells.length=ti.size/\QQ v.cells=true/\rF h ti v.cells K x
def Rp(o:Nat)(x:AV)(K:Ah):Option Ap->Prop
 |some _=>K x {use:=[o]}
 |none=>False
def Kf(h:Nat->Option Ap)(off:Nat)(K:Ah):AV->Prop
 | .im (.ref cs)=>off<=cs.length/\K (.im (.ref (cs.drop off))) {}
 | .ptr o p=>Rp o (.ptr o (p+off)) K (h o)
 | .eptr o i p=>Rp o (.eptr o i (p+off)) K (h o)
 |_=>False
def XA(h:Nat->Option Ap)(x:AV)(K:Ah):Option (Nat×Nat)->Prop
 |some (off,z)=>z≠0/\Kf h off K x
 |none=>False
def faK(h:Nat->Option Ap)(x:AV)(f:Nat)(K:Ah):TK->Prop
 | .struct z=>XA h x K z[f]?
 |_=>False
def xX(h:Nat->Option Ap)(x:AV)(f:Nat)(K:Ah)(ti:TI):Prop:=faK h x f K ti.kind
def wF(K:Ah)(row:List D):Prop:=K (.im (.ref row)) {}
def LH(o:Nat)(n:Int)(K:Ah)(z:TI):Option Ap->Prop
 |some (_,.arr _ k rows)=>k=z.size/\0<=n/\n<(rows.length:Int)/\K (.eptr o n.toNat 0) {use:=[o]}
 |some (_,.arrA _ k rows)=>k=z.size/\0<=n/\n<(rows.length:Int)/\K (.eptr o n.toNat 0) {use:=[o]}
 |_=>False
def S7(o a m:Nat)(n:Int)(K:Ah)(z:TI):Option Ap->Prop
 |some (_,.arr _ k rows)=>k=z.size/\0<=n/\n<(m:Int)/\a+m<=rows.length/\K (.eptr o (a+n.toNat) 0) {use:=[o]}
 |_=>False
def S6(h:Nat->Option Ap)(n:Int)(K:Ah)(x:AV)(z:TI):Prop:=
 match x with
 | .im (.sl _ k rows)=>k=z.size/\0<=n/\n<(rows.length:Int)/\Jo rows n.toNat (wF K)
 | .own o=>LH o n K z (h o)
 | .osl o a m=>S7 o a m n K z (h o)
 |_=>False
def LG(h:Nat->Option Ap)(m:Nat)(n:Int)(K:Ah)(x:AV)(z:TI):Prop:=
 match x with
 | .ptr o p=>0<=n/\n<(m:Int)/\Rp o (.ptr o (p+n.toNat*z.size)) K (h o)
 | .im (.ref cs)=>0<=n/\n<(m:Int)/\n.toNat*z.size<=cs.length/\K (.im (.ref (cs.drop (n.toNat*z.size)))) {}
 |_=>False
def Bi(f:TI->Prop):Option TI->Prop
 |some ti=>f ti
 |none=>False
def wA(P:Program)(h:Nat->Option Ap)(x:AV)(n:Int)(K:Ah):TK->Prop
 | .slice e=>Bi (S6 h n K x) (tI P e)
 | .array m e=>Bi (LG h m n K x) (tI P e)
 |_=>False
def Qjp(P:Program)(h:Nat->Option Ap)(x:AV)(ti:TI)(K:Ah):AV->Prop
 | .im (.int _ n)=>wA P h x n K ti.kind
 |_=>False
def SG(m:Nat)(n:Int)(cs:List D)(K:Ah)(z:TI):Prop:=
 (z.agg=true\/z.size=1)/\0<=n/\n<(m:Int)/\n.toNat*z.size+z.size<=cs.length/\K (.im (aS z.agg ((cs.drop (n.toNat*z.size)).take z.size))) {}
def bH(s:ByteArray)(i:Nat)(K:UInt8->Prop):Prop:= ∀c,s.data[i]? =some c->K c
def kCh(K:Ah)(c:UInt8):Prop:=K (.im (.int .u8 c.toNat)) {}
def ixK(P:Program)(n:Int)(K:Ah):TK->AV->Prop
 | .array m e,.im (.agg cs)=>Bi (SG m n cs K) (tI P e)
 | .str,.im (.str s)=>0<=n/\n<(s.size:Int)/\bH s n.toNat (kCh K)
 |_,_=>False
def Qxc(P:Program)(x:AV)(ti:TI)(K:Ah):AV->Prop
 | .im (.int _ n)=>ixK P n K ti.kind x
 |_=>False
def GC:BinOp->Nat
 | .shr=>1
 | .shl=>2
 | .add| .sub| .mul| .quo| .rem| .and| .or| .xor| .andNot| .eql| .neq| .lss| .leq| .gtr| .geq=>0
def Xg(k:IntKind)(a b:Int):Int:=k.wrap ((BitVec.ofInt k.bits a &&& BitVec.ofInt k.bits b).toNat:Int)
def orI(k:IntKind)(a b:Int):Int:=k.wrap ((BitVec.ofInt k.bits a|||BitVec.ofInt k.bits b).toNat:Int)
def xL(k:IntKind)(a b:Int):Int:=k.wrap ((BitVec.ofInt k.bits a^^^BitVec.ofInt k.bits b).toNat:Int)
def Iz(op:BinOp)(k:IntKind)(a b:Int)(K:Ah):Prop:=
 match op with
 | .add=>K (.im (.int k (k.wrap (a+b)))) {}
 | .sub=>K (.im (.int k (k.wrap (a - b)))) {}
 | .mul=>K (.im (.int k (k.wrap (a*b)))) {}
 | .quo=>b≠0/\K (.im (.int k (k.wrap (a.tdiv b)))) {}
 | .rem=>b≠0/\K (.im (.int k (a.tmod b))) {}
 | .eql=>K (.im (.bool (decide (a=b)))) {}
 | .neq=>K (.im (.bool (!decide (a=b)))) {}
 | .lss=>K (.im (.bool (decide (a<b)))) {}
 | .leq=>K (.im (.bool (decide (a<=b)))) {}
 | .gtr=>K (.im (.bool (decide (b<a)))) {}
 | .geq=>K (.im (.bool (decide (b<=a)))) {}
 | .and=>K (.im (.int k (Xg k a b))) {}
 | .or=>K (.im (.int k (orI k a b))) {}
 | .xor=>K (.im (.int k (xL k a b))) {}
 |_=>False
def aA(neg:Bool)(K:Ah)(b:Bool):Prop:=K (.im (.bool (neg !=b))) {}
def RZ(neg:Bool)(K:Ah):AV->Prop
 | .im (.sl true _ rows)=>aA neg K rows.isEmpty
 |_=>False
def tM(h:Nat->Option Ap)(neg:Bool)(K:Ah):AV->Prop
 | .im .nilp=>aA neg K true
 | .im (.ref _)=>aA neg K false
 | .ptr o _=>Rp o (.im (.bool neg)) K (h o)
 | .eptr o _ _=>Rp o (.im (.bool neg)) K (h o)
 |_=>False
def VP(h:Nat->Option Ap)(neg:Bool)(K:Ah):AV->Prop
 | .im .nilm=>aA neg K true
 | .im (.mp _ _)=>aA neg K false
 | .mp o=>Rp o (.im (.bool neg)) K (h o)
 |_=>False
def WI(h:Nat->Option Ap)(neg:Bool)(K:Ah)(x:AV):Nat->TK->Prop
 |0,.slice _=>RZ neg K x
 |1,.ptr _=>tM h neg K x
 |2,.map _ _=>VP h neg K x
 |_,_=>False
def Nq(op:BinOp)(a b:ByteArray)(K:Ah):Prop:=
 match op with
 | .eql=>K (.im (.bool (decide (a=b)))) {}
 | .neq=>K (.im (.bool (!decide (a=b)))) {}
 | .add=>a.size+b.size<=9223372036854775807/\K (.im (.str (a++b))) {}
 |_=>False
def Jh(op:BinOp)(a b:Bool)(K:Ah):Prop:=
 match op with
 | .eql=>K (.im (.bool (a==b))) {}
 | .neq=>K (.im (.bool (a !=b))) {}
 |_=>False
def MJ(op:BinOp)(a b:Bool)(K:Ah):Option TI->Prop
 |some ti=>ti.kind= .bool/\Jh op a b K
 |none=>False
def sR(op:BinOp)(a b:List D)(K:Ah):Prop:=
 match op with
 | .eql=>K (.im (.bool (D.beql a b))) {}
 | .neq=>K (.im (.bool (!D.beql a b))) {}
 |_=>False
def sP(P:Program)(T:TypeId)(op:BinOp)(a b:List D)(K:Ah):Option KT->Prop
 |some z=>z.fit (.agg a)=true/\z.fit (.agg b)=true/\P.eqGuardType P.depth T=false/\sR op a b K
 |none=>False
def Z0(op:BinOp)(k:IntKind)(a:Int)(k':IntKind)(b:Int)(K:Ah):Nat->Prop
 |0=>k=k'/\Iz op k a b K
 |1=>0<=b/\K (.im (.int k (a.fdiv (2^min b.toNat k.bits)))) {}
 |_+2=>0<=b/\K (.im (.int k (k.wrap (a*2^min b.toNat k.bits)))) {}
def eU(P:Program)(T:TypeId)(op:BinOp)(K:Ah):AV->AV->Prop
 | .im (.int k a),.im (.int k' b)=>Z0 op k a k' b K (GC op)
 | .im (.str a),.im (.str b)=>Nq op a b K
 | .im (.bool a),.im (.bool b)=>MJ op a b K (tI P T)
 | .im (.agg a),.im (.agg b)=>sP P T op a b K (BK P T)
 |_,_=>False
def YP(K:Ah):UnOp->AV->Prop
 | .not,.im (.bool b)=>K (.im (.bool (!b))) {}
 | .neg,.im (.int k n)=>K (.im (.int k (k.wrap (-n)))) {}
 |_,_=>False
def Z7(cells:List AV)(vs:List AV):Option (Nat×Nat)->Option (List AV)
 |none=>none
 |some (off,size)=>bif vs.length==size && (Nat.blt 0 size && Nat.ble (off+size) cells.length) then some (Cf cells off vs) else none
def Hw(place:Nat->Option (Nat×Nat)):List (Nat×AV)->Option (List AV)->Option (List AV)
 |[],r=>r
 |_::_,none=>none
 |(i,v)::z,some cells=>Hw place z (Z7 cells v.cells (place i))
def IX(k i:Nat):Option (Nat×Nat):=some (i*k,k)
def Ml(z:List (Nat×Nat))(i:Nat):Option (Nat×Nat):=z[i]?
def Nk(K:Ah):Option (List AV)->Prop
 |some cs=>K (gV true cs) {}
 |none=>False
def Ru(O:List AV)(z:List (Nat×AV))(K:Ah)(G:TI):Prop:=Nk K (Hw (IX G.size) z (some O))
def vP(P:Program)(G:List AV)(z:List (Nat×AV))(K:Ah):TK->Prop
 | .struct O=>Nk K (Hw (Ml O) z (some G))
 | .array _ e=>Bi (Ru G z K) (tI P e)
 |_=>False
def Qsy(P:Program)(z:List (Nat×AV))(K:Ah)(ti:TI):Prop:=ti.zero.length=ti.size/\ti.size≠0/\vP P (ti.zero.map .im) z K ti.kind
def HO{α:Type}(k:Nat):Nat->List α->List (List α)
 |0,_=>[]
 |n+1,l=>l.take k::HO k n (l.drop k)
def Ci{α:Type}:Nat->List α->List α
 |0,_=>[]
 |n+1,z=>z++Ci n z
def I8(nx len e k:Nat)(cs:List AV)(K:Ah):Option (List D)->Prop
 |some ds=>K (.own nx) {new:=[(nx,(true,.arr e k (HO k len ds)))],cnt:=1}
 |none=>K (.own nx) {new:=[(nx,(true,.arrA e k (HO k len cs)))],cnt:=1}
def Ld(nx len e k:Nat)(K:Ah):Option (List AV)->Prop
 |some cs=>I8 nx len e k cs K (D3 cs)
 |none=>False
def bsE(nx len e:Nat)(z:List (Nat×AV))(K:Ah)(G:TI):Prop:=
 G.zero.length=G.size/\G.size≠0/\len*G.size<=16777216/\Ld nx len e G.size K (Hw (IX G.size) z (some (Ci len (G.zero.map .im))))
def bsK(P:Program)(nx len:Nat)(z:List (Nat×AV))(K:Ah):TK->Prop
 | .slice e=>Bi (bsE nx len e z K) (tI P e)
 |_=>False
def xP(P:Program)(nx len:Nat)(z:List (Nat×AV))(K:Ah)(ti:TI):Prop:=bsK P nx len z K ti.kind
def msE(nx e:Nat)(n m:Int)(K:Ah)(z:TI):Prop:=
 z.size≠0/\0<=n/\n<=m/\m<=1073741824/\z.bytes<=65536/\z.zero.length=z.size/\
  K (.own nx) {new:=[(nx,(true,.arr e z.size (List.replicate n.toNat z.zero)))],cnt:=1}
def msK(P:Program)(nx:Nat)(K:Ah):TK->AV->AV->Prop
 | .slice e,.im (.int .i64 n),.im (.int .i64 m)=>Bi (msE nx e n m K) (tI P e)
 |_,_,_=>False
def xY(P:Program)(nx:Nat)(l c:AV)(K:Ah)(ti:TI):Prop:=msK P nx K ti.kind l c
inductive Src where
 |d (u:List Nat) (k:Nat) (rows:List (List D))
 |a (u:List Nat) (k:Nat) (rows:List (List AV))
 |no
def Z3(o:Nat):Option Ap->Src
 |some (_,.arr _ k rows)=> .d [o] k rows
 |some (_,.arrA _ k rows)=> .a [o] k rows
 |_=> .no
def FG(s:ByteArray):List (List D):=s.data.toList.map λb=>[.int .u8 b.toNat]
def Dg(h:Nat->Option Ap):AV->Src
 | .im (.sl _ k rows)=> .d [] k rows
 | .im (.str s)=> .d [] 1 (FG s)
 | .own o=>Z3 o (h o)
 |_=> .no
def Bm(rows:List (List D)):List (List AV):=rows.map λr=>r.map .im
def Bn:List D->Bool
 |[]=>true
 |x::r=>x.one && Bn r
def Ce{α:Type}(f:List α->Bool)(rows:List (List α)):Prop:= ∀row∈rows,f row=true
def Src.okOne:Src->Prop
 | .d _ _ rows=>Ce Bn rows
 | .a _ _ rows=>Ce QQ rows
 | .no=>False
def Ng(nx e:Nat)(z:TI)(K:Ah):Src->Prop
 | .d u k rows=>(k=z.size\/rows=[])/\(rows.length+512)*z.bytes<=140737488355328/\K (.own nx) {use:=u,new:=[(nx,(true,.arr e z.size rows))],cnt:=1}
 | .a u k rows=>k=z.size/\(rows.length+512)*z.bytes<=140737488355328/\K (.own nx) {use:=u,kill:=u,new:=[(nx,(true,.arrA e z.size rows))],cnt:=1}
 | .no=>False
def mK(nx e o:Nat)(z:TI)(rows0:List (List D))(K:Ah):Src->Prop
 | .d u k rows=>(k=z.size\/rows=[])/\u≠[o]/\(rows0.length+rows.length+512)*z.bytes<=140737488355328/\
  K (.own nx) {use:=o::u,kill:=[o],new:=[(nx,(true,.arr e z.size (rows0++rows)))],cnt:=1}
 | .a u k rows=>k=z.size/\u≠[o]/\(rows0.length+rows.length+512)*z.bytes<=140737488355328/\
  K (.own nx) {use:=o::u,kill:=o::u,new:=[(nx,(true,.arrA e z.size (Bm rows0++rows)))],cnt:=1}
 | .no=>False
def mJ(nx e o:Nat)(z:TI)(rows0:List (List AV))(K:Ah):Src->Prop
 | .d u k rows=>(k=z.size\/rows=[])/\u≠[o]/\(rows0.length+rows.length+512)*z.bytes<=140737488355328/\
  K (.own nx) {use:=o::u,kill:=[o],new:=[(nx,(true,.arrA e z.size (rows0++Bm rows)))],cnt:=1}
 | .a u k rows=>k=z.size/\u≠[o]/\(rows0.length+rows.length+512)*z.bytes<=140737488355328/\
  K (.own nx) {use:=o::u,kill:=o::u,new:=[(nx,(true,.arrA e z.size (rows0++rows)))],cnt:=1}
 | .no=>False
def I6(nx e o:Nat)(G:TI)(src:Src)(K:Ah):Option Ap->Prop
 |some (true,.arr T k z)=>T=e/\k=G.size/\mK nx e o G z K src
 |some (true,.arrA T k z)=>T=e/\k=G.size/\mJ nx e o G z K src
 |_=>False
def Rq(h:Nat->Option Ap)(nx e:Nat)(z:TI)(src:Src)(K:Ah):AV->Prop
 | .im (.sl true _ [])=>Ng nx e z K src
 | .own o=>I6 nx e o z src K (h o)
 |_=>False
def apE(h:Nat->Option Ap)(nx e:Nat)(s:AV)(src:Src)(K:Ah)(z:TI):Prop:=
 z.size≠0/\z.zero.length=z.size/\z.bytes≠0/\src.okOne/\Rq h nx e z src K s
def apK(P:Program)(h:Nat->Option Ap)(nx:Nat)(s:AV)(src:Src)(K:Ah):TK->Prop
 | .slice e=>Bi (apE h nx e s src K) (tI P e)
 |_=>False
def Qsl(P:Program)(h:Nat->Option Ap)(nx:Nat)(s x:AV)(K:Ah)(ti:TI):Prop:=apK P h nx s (Dg h x) K ti.kind
def FC(K:Ah)(E:Bz)(n:Nat):Prop:=K (.im (.int .i64 n)) E
def Qxr(z:Bool)(o:Nat)(K:Ah):Option Ap->Prop
 |some (_,.arr _ _ rows)=>(z=true->rows.length<=140737488355328)->FC K {use:=[o]} rows.length
 |some (_,.arrA _ _ rows)=>(z=true->rows.length<=140737488355328)->FC K {use:=[o]} rows.length
 |_=>False
def LN(o:Nat)(K:Ah):Option Ap->Prop
 |some (_,.map _ z)=>FC K {use:=[o]} z.length
 |_=>False
def gS(o n:Nat)(K:Ah):Option Ap->Prop
 |some _=>FC K {use:=[o]} n
 |none=>False
def eT(z:Bool)(h:Nat->Option Ap)(K:Ah):AV->Prop
 | .osl o _ n=>gS o n K (h o)
 | .im (.sl _ _ rows)=>(z=true->rows.length<=140737488355328)->FC K {} rows.length
 | .own o=>Qxr z o K (h o)
 |_=>False
def SS(K:Ah):AV->Prop
 | .im (.str s)=>FC K {} s.size
 |_=>False
def tR(h:Nat->Option Ap)(K:Ah):AV->Prop
 | .im (.mp _ z)=>FC K {} z.length
 | .im .nilm=>FC K {} 0
 | .mp o=>LN o K (h o)
 |_=>False
def Fm(z:Bool)(h:Nat->Option Ap)(K:Ah)(x:AV):TK->Prop
 | .slice _=>eT z h K x
 | .str=>SS K x
 | .map _ _=>tR h K x
 | .bool| .ptr _| .int _| .array _ _| .struct _| .other=>False
def eY(z:Bool)(h:Nat->Option Ap)(x:AV)(K:Ah)(ti:TI):Prop:=Fm z h K x ti.kind
def Qy3(ok:Bool)(E:Bz)(K:Ah)(v:D):Prop:=K (bif ok then .tup [.im v,.im (.bool true)] else .im v) E
def IJ(z:TI)(ok:Bool)(E:Bz)(K:Ah):Prop:=z.zero.length=z.size/\(z.agg=true\/z.size=1)/\z.size≠0/\K (bif ok then .tup [.im (aS z.agg z.zero),.im (.bool false)] else .im (aS z.agg z.zero)) E
def Tb(o:Nat)(O:KT)(kd:D)(ok:Bool)(Q:TI)(K:Ah):Option Ap->Prop
 |some (_,.map z G)=>z=O/\FX G kd (Qy3 ok {use:=[o]} K) (IJ Q ok {use:=[o]} K)
 |_=>False
def eZ(h:Nat->Option Ap)(O:KT)(kd:D)(ok:Bool)(G:TI)(K:Ah):AV->Prop
 | .im (.mp z Q)=>z=O/\FX Q kd (Qy3 ok {} K) (IJ G ok {} K)
 | .im .nilm=>IJ G ok {} K
 | .mp o=>Tb o O kd ok G K (h o)
 |_=>False
def Yc(h:Nat->Option Ap)(m:AV)(kd:D)(ok:Bool)(K:Ah)(G:TI):Option KT->Prop
 |some z=>z.fit kd=true/\eZ h z kd ok G K m
 |none=>False
def luE(P:Program)(h:Nat->Option Ap)(m:AV)(kd:D)(ok:Bool)(K:Ah)(k:TypeId)(z:TI):Prop:=Yc h m kd ok K z (BK P k)
def luK(P:Program)(h:Nat->Option Ap)(m:AV)(ok:Bool)(K:Ah):TK->AV->Prop
 | .map k e,.im z=>Bi (luE P h m z ok K k) (tI P e)
 |_,_=>False
def zW(P:Program)(h:Nat->Option Ap)(m k:AV)(ok:Bool)(K:Ah)(ti:TI):Prop:=luK P h m ok K ti.kind k
def Tj(o:Nat)(z:KT)(kd Q:D)(K:Ah):Option Ap->Prop
 |some (true,.map G O)=>G=z/\z.fit kd=true/\K .any {use:=[o],kill:=[o],new:=[(o,(true,.map z (Gu O kd Q)))]}
 |_=>False
def Ti(h:Nat->Option Ap)(o:Nat)(kd G:D)(K:Ah):Option KT->Prop
 |some z=>Tj o z kd G K (h o)
 |none=>False
def Kp(P:Program)(h:Nat->Option Ap)(o:Nat)(kd z:D)(K:Ah):TK->Prop
 | .map k _=>Ti h o kd z K (BK P k)
 | .bool| .str| .ptr _| .int _| .array _ _| .struct _| .slice _| .other=>False
def muF(n:Nat)(e:Ag)(K:Ah)(r:AV)(E:Bz):Prop:=E.kill.contains n=false/\K r {use:=n::E.use,kill:=n::E.kill,new:=E.new++[(n,(false,e))],cnt:=E.cnt}
def Tk(P:Program)(h:Nat->Option Ap)(o n:Nat)(kd:D)(K:Ah)(z:TK):Option Ap->Prop
 |some (_,.arr T k rows)=>(o==n)=false/\Kp P h o kd (.sl false k rows) (muF n (.arr T k rows) K) z
 |_=>False
def jU(P:Program)(h:Nat->Option Ap)(K:Ah)(m k v:AV)(ti:TI):Prop:=
 match m,k,v with
 | .mp o,.im z,.im G=>Kp P h o z G K ti.kind
 | .mp o,.im z,.own n=>Tk P h o n z K ti.kind (h n)
 |_,_,_=>False
def RL(o:Nat)(z:KT)(kd:D)(K:Ah):Option Ap->Prop
 |some (true,.map G O)=>G=z/\z.fit kd=true/\K .any {use:=[o],kill:=[o],new:=[(o,(true,.map z (IC O kd)))]}
 |_=>False
def Xy(h:Nat->Option Ap)(o:Nat)(kd:D)(K:Ah):Option KT->Prop
 |some z=>RL o z kd K (h o)
 |none=>False
def RJ(P:Program)(h:Nat->Option Ap)(o:Nat)(kd:D)(K:Ah):TK->Prop
 | .map k _=>Xy h o kd K (BK P k)
 | .bool| .str| .ptr _| .int _| .array _ _| .struct _| .slice _| .other=>False
def zR(P:Program)(h:Nat->Option Ap)(K:Ah)(m k:AV)(ti:TI):Prop:=
 match m,k with
 | .mp o,.im z=>RJ P h o z K ti.kind
 |_,_=>False
def exA(K:Ah):Option AV->Prop
 |some c=>K c {}
 |none=>False
def exD(K:Ah):Option D->Prop
 |some d=>K (.im d) {}
 |none=>False
def jX(i:Nat)(K:Ah):AV->Prop
 | .tup cs=>exA K cs[i]?
 | .im (.tup ds)=>exD K ds[i]?
 |_=>False
def jY(h:Nat->Option Ap)(K:Ah):AV->Prop
 | .im (.ref cs)=>K (.im (.ref cs)) {}
 | .im (.ifc t d)=>K (.im (.ifc t d)) {}
 | .ptr o p=>Rp o (.ptr o p) K (h o)
 | .eptr o i p=>Rp o (.eptr o i p) K (h o)
 |_=>False
abbrev Df:=FuncId->List AV->(Nat->Option Ap)->Nat->Ah->Prop
def Qw(V:Df)(args:List AV)(h:Nat->Option Ap)(nx:Nat)(K:Ah):AV->Prop
 | .im (.fn g first capt)=>V g ((first.map .im)++args++(capt.map .im)) h nx K
 | .clo g first capt=>V g (first++args++capt) h nx K
 |_=>False
def Qo:Option TI->Option TK
 |some ti=>some ti.kind
 |none=>none
def Qjk(nx e:Nat)(K:Ah)(z:TI):Prop:=K (.own nx) {new:=[(nx,(true,.arr e z.size []))],cnt:=1}
def Qg6(P:Program)(nx:Nat)(K:Ah):Option TK->Prop
 |some (.slice e)=>Bi (Qjk nx e K) (tI P e)
 |_=>False
def QJ:Value->Bool
 | .slice none 0 0=>true
 |_=>false
def W9:Operand->Bool
 | .const v=>QJ v
 | .tmp _| .global _| .func _=>false
def yP(P:Program)(nx:Nat)(T:TypeId)(v:AV)(K:Ah):Bool->Prop
 |true=>Qg6 P nx K (Qo (tI P T))
 |false=>K v {}
def zJ(P:Program)(tm:List (Nat×AV))(nx:Nat)(T:TypeId)(K:Ah)(x:Operand):Prop:=yP P nx T (Aq tm x) K (W9 x && !(T==286))
def Mi(c:Bool)(K:Ah)(a b:AV):Prop:=(c=true->K a {})/\(c=false->K b {})
def Qzp(a b:AV)(K:Ah):AV->Prop
 | .im (.bool c)=>Mi c K a b
 |_=>False
def Qsv(nx T:Nat)(K:Ah)(ti:TI):Prop:=ti.zero.length=ti.size/\ti.size≠0/\K (.ptr nx 0) {new:=[(nx,(true,.cells T (ti.zero.map .im)))],cnt:=1}
def UI(nx T:Nat)(K:Ah)(cs:List AV):Prop:=cs≠[]/\K (.ptr nx 0) {new:=[(nx,(true,.cells T cs))],cnt:=1}
def FD:Value->Nat
 | .slice none 0 0=>1
 | .pointer none=>2
 | .map none=>3
 | .nilIface=>4
 |_=>0
def Fq:Operand->Nat
 | .const v=>FD v
 | .tmp _| .global _| .func _=>0
def lF(h:Nat->Option Ap)(op:BinOp)(x:AV)(K:Ah)(n:Nat)(ti:TI):Prop:=
 match op with
 | .eql=>WI h false K x n ti.kind
 | .neq=>WI h true K x n ti.kind
 |_=>False
def SB(P:Program)(T:TypeId):Bool:=match P.underlying T with
 |some (.interface _)=>true
 |_=>false
def aG(P:Program)(T:TypeId):Bool:=match P.underlying T with
 |some (.interface _)=>false
 |some _=>true
 |none=>false
def aQ(P:Program)(t:TypeId)(name:String):Option FuncId:=
 match P.info? t with
 |some i=>match i.methods.find? (·.name==name) with
  |some m=>bif m.path.isEmpty then (match m.func with
   |some (f,false)=>some f
   |_=>none) else none
  |none=>none
 |none=>none
def VX(P:Program)(t:TypeId)(name:String):Option FuncId:=
 match P.underlying t with
 |some (.pointer _)=>none
 |some _=>aQ P t name
 |none=>none
def Q3(neg:Bool)(K:Ah):AV->Prop
 | .im .nili=>aA neg K true
 | .im (.ifc _ _)=>aA neg K false
 |_=>False
def Wc(P:Program)(T:TypeId)(op:BinOp)(x:AV)(K:Ah):Prop:=
 SB P T=true/\match op with
 | .eql=>Q3 false K x
 | .neq=>Q3 true K x
 |_=>False
def UJ(P:Program)(T:TypeId)(K:Ah):AV->Prop
 | .im d=>aG P T=true/\K (.im (.ifc T d)) {}
 |_=>False
def Wb(V:Df)(args:List AV)(h:Nat->Option Ap)(nx:Nat)(K:Ah)(d:D):Option FuncId->Prop
 |some f=>V f (.im d::args) h nx K
 |none=>False
def MK(P:Program)(V:Df)(args:List AV)(h:Nat->Option Ap)(nx:Nat)(K:Ah)(m:String):AV->Prop
 | .im (.ifc t d)=>Wb V args h nx K d (VX P t m)
 |_=>False
def ZC(P:Program)(T:TypeId)(h:Nat->Option Ap)(op:BinOp)(x y:AV)(K:Ah):Nat->Prop
 |0=>eU P T op K x y
 |1=>Bi (lF h op x K 0) (tI P T)
 |2=>Bi (lF h op x K 1) (tI P T)
 |3=>Bi (lF h op x K 2) (tI P T)
 |_+4=>Wc P T op x K
def K2:Option TK->Ah->AV->Prop
 |some (.int k),K,.im (.int _ n)=>K (.im (.int k (k.wrap n))) {}
 |_,_,_=>False
def sN(t:Option TK)(x:AV)(K:Ah):Option TI->Prop
 |some _=>K2 t K x
 |none=>False
def Hr:List (List D)->Option (List Int)
 |[]=>some []
 |[.int .u8 n]::r=>(Hr r).map (n:: ·)
 |_=>none
def P3(z:List Int):ByteArray:=⟨(z.map λn=>UInt8.ofNat n.toNat).toArray⟩
def Lg(u:List Nat)(K:Ah):Option (List Int)->Prop
 |some z=>K (.im (.str (P3 z))) {use:=u}
 |none=>False
def R0(o:Nat)(K:Ah):Option Ap->Prop
 |some (_,.arr _ k rows)=>k=1/\Lg [o] K (Hr rows)
 |_=>False
def fW(h:Nat->Option Ap)(K:Ah):AV->Prop
 | .own o=>R0 o K (h o)
 |_=>False
def fX(h:Nat->Option Ap)(K:Ah)(x:AV):Option TK->Prop
 |some (.int .u8)=>fW h K x
 |_=>False
def fY(P:Program)(h:Nat->Option Ap)(K:Ah)(x:AV):TK->Prop
 | .slice e=>fX h K x (Qo (tI P e))
 |_=>False
def I9(P:Program)(h:Nat->Option Ap)(K:Ah)(x:AV):Option TI->Prop
 |some z=>fY P h K x z.kind
 |none=>False
def TK.isStr:TK->Bool
 | .str=>true
 | .bool| .ptr _| .int _| .array _ _| .struct _| .map _ _| .slice _| .other=>false
def isStr:Option TK->Bool
 |some t=>t.isStr
 |none=>false
def VT(P:Program)(h:Nat->Option Ap)(t:Option TK)(x:AV)(K:Ah)(s:Option TI):Prop:=if isStr t=true then I9 P h K x s else sN t x K s
def ML(K:Ah):AV->AV->Prop
 | .im (.int k a),.im (.int k' b)=>k=k'/\K (.im (.int k (max a b))) {}
 |_,_=>False
def TK.isSl:TK->Bool
 | .slice _=>true
 | .bool| .str| .ptr _| .int _| .array _ _| .struct _| .map _ _| .other=>false
def zA(P:Program)(h:Nat->Option Ap)(nx:Nat)(s x:AV)(T:TypeId)(K:Ah)(z:TI):Prop:=(z.kind.isSl||z.kind.isStr)=true/\Bi (Qsl P h nx s x K) (tI P T)
def DA(tm:List (Nat×AV)):Option Operand->Option AV
 |none=>none
 |some x=>some (Aq tm x)
def GW(z:Nat):Option AV->Option Int
 |none=>some z
 |some (.im (.int _ n))=>some n
 |some _=>none
def U3(k:Nat)(rows:List (List D))(K:Ah):Option Int->Option Int->Prop
 |some l,some m=>0<=l/\l<=m/\m<=(rows.length:Int)/\K (.im (.sl false k ((rows.drop l.toNat).take (m - l).toNat))) {}
 |some _,none=>False
 |none,_=>False
def Jf(s:ByteArray)(K:Ah):Option Int->Option Int->Prop
 |some l,some m=>0<=l/\l<=m/\m<=(s.size:Int)/\K (.im (.str (s.extract l.toNat m.toNat))) {}
 |some _,none=>False
 |none,_=>False
def eR(o nx:Nat)(z:Bool)(T k:Nat)(rows:List (List D))(a n:Nat)(K:Ah):Bool->Prop
 |false=>K (.osl o a n) {use:=[o]}
 |true=>z=true/\K (.own nx) {use:=[o],kill:=[o],new:=[(nx,(true,.arr T k ((rows.drop a).take n)))],cnt:=1}
def Jg(o nx:Nat)(z:Bool)(T k:Nat)(rows:List (List D))(K:Ah):Option Int->Option Int->Prop
 |some l,some m=>0<=l/\l<=m/\m<=(rows.length:Int)/\ ∃G,eR o nx z T k rows l.toNat (m - l).toNat K G
 |some _,none=>False
 |none,_=>False
def U4(o nx:Nat)(O:TI)(lo z:Option AV)(K:Ah):Option Ap->Prop
 |some (G,.arr T k rows)=>k=O.size/\Jg o nx G T k rows K (GW 0 lo) (GW rows.length z)
 |_=>False
def xF(h:Nat->Option Ap)(nx:Nat)(lo z:Option AV)(K:Ah)(x:AV)(G:TI):Prop:=
 match x with
 | .im (.sl _ k rows)=>(k=G.size\/rows=[])/\U3 k rows K (GW 0 lo) (GW rows.length z)
 | .own o=>U4 o nx G lo z K (h o)
 |_=>False
def iX(x:AV)(lo z:Option AV)(K:Ah):Prop:=
 match x with
 | .im (.str s)=>Jf s K (GW 0 lo) (GW s.size z)
 |_=>False
def Qm(P:Program)(h:Nat->Option Ap)(nx:Nat)(x:AV)(lo z:Option AV)(K:Ah):TK->Prop
 | .slice e=>Bi (xF h nx lo z K x) (tI P e)
 | .str=>iX x lo z K
 | .bool| .ptr _| .int _| .array _ _| .struct _| .map _ _| .other=>False
def Qsm(P:Program)(h:Nat->Option Ap)(nx:Nat)(x:AV)(lo z:Option AV)(K:Ah)(ti:TI):Prop:=Qm P h nx x lo z K ti.kind
def gD(o:Nat):Option Ap->Option (List Nat×Nat×List (List D))
 |some (_,.arr _ k rows)=>some ([o],k,rows)
 |_=>none
def gE(o a n:Nat):Option Ap->Option (List Nat×Nat×List (List D))
 |some (_,.arr _ k rows)=>some ([o],k,(rows.drop a).take n)
 |_=>none
def eX(h:Nat->Option Ap):AV->Option (List Nat×Nat×List (List D))
 | .im (.sl _ k rows)=>some ([],k,rows)
 | .own o=>gD o (h o)
 | .osl o a n=>gE o a n (h o)
 |_=>none
def RF(o:Nat):Option Ap->Option (Nat×Nat×Nat×TypeId×Nat×List (List D))
 |some (true,.arr T k rows)=>some (o,0,rows.length,T,k,rows)
 |_=>none
def RG(o a n:Nat):Option Ap->Option (Nat×Nat×Nat×TypeId×Nat×List (List D))
 |some (true,.arr T k rows)=>some (o,a,n,T,k,rows)
 |_=>none
def Vv(h:Nat->Option Ap):AV->Option (Nat×Nat×Nat×TypeId×Nat×List (List D))
 | .own o=>RF o (h o)
 | .osl o a n=>RG o a n (h o)
 |_=>none
def eO(rows:List (List D))(a m:Nat)(src:List (List D)):List (List D):=rows.take a++src.take m++rows.drop (a+m)
def RH(G:TI)(K:Ah):Option (List Nat×Nat×List (List D))->Option (Nat×Nat×Nat×TypeId×Nat×List (List D))->Prop
 |some (u,ks,z),some (o,a,n,T,k,rows)=>k=G.size/\(ks=G.size\/z=[])/\G.size≠0/\Ce Bn z/\
  K (.im (.int .i64 (min z.length n:Nat))) {use:=o::u,kill:=[o],new:=[(o,(true,.arr T k (eO rows a (min z.length n) z)))]}
 |some _,none=>False
 |none,_=>False
def RI(P:Program)(h:Nat->Option Ap)(d s:AV)(K:Ah):TK->Prop
 | .slice e=>Bi (λz=>RH z K (eX h s) (Vv h d)) (tI P e)
 | .bool| .str| .ptr _| .int _| .array _ _| .struct _| .map _ _| .other=>False
def Qzd(P:Program)(h:Nat->Option Ap)(d s:AV)(K:Ah)(ti:TI):Prop:=RI P h d s K ti.kind
def Xq(z:TI)(K:Ah):Option (Nat×Nat×Nat×TypeId×Nat×List (List D))->Prop
 |some (o,a,n,T,k,rows)=>k=z.size/\z.size≠0/\z.zero.length=z.size/\Bn z.zero=true/\
  K .any {use:=[o],kill:=[o],new:=[(o,(true,.arr T k (eO rows a n (List.replicate n z.zero))))]}
 |none=>False
def R5(P:Program)(h:Nat->Option Ap)(d:AV)(K:Ah):TK->Prop
 | .slice e=>Bi (λz=>Xq z K (Vv h d)) (tI P e)
 | .bool| .str| .ptr _| .int _| .array _ _| .struct _| .map _ _| .other=>False
def Qrt(P:Program)(h:Nat->Option Ap)(d:AV)(K:Ah)(ti:TI):Prop:=R5 P h d K ti.kind
def Ud(nx o:Nat)(K:Ah):Option Ap->Prop
 |some (O,.map G z)=>K (.it nx) {use:=[o],kill:=[o],new:=[(nx,(true,.iter none z)),(o,(false,.map G z))],cnt:=1}
 |_=>False
def rgD(nx:Nat)(K:Ah):D->Prop
 | .mp _ z=>K (.it nx) {new:=[(nx,(true,.iter none z))],cnt:=1}
 |_=>False
def rgM(h:Nat->Option Ap)(nx:Nat)(K:Ah):AV->Prop
 | .mp o=>Ud nx o K (h o)
 | .im d=>rgD nx K d
 |_=>False
def Uc(h:Nat->Option Ap)(nx:Nat)(x:AV)(K:Ah):TK->Prop
 | .map _ _=>rgM h nx K x
 | .bool| .str| .ptr _| .int _| .array _ _| .struct _| .slice _| .other=>False
def Qsh(h:Nat->Option Ap)(nx:Nat)(x:AV)(K:Ah)(ti:TI):Prop:=Uc h nx x K ti.kind
def wT(o:Nat)(left:List (D×D))(K:Ah)(i:Nat)(p:D×D):Prop:=
 K (.tup [.im (.bool true),.im p.1,.im p.2]) {use:=[o],kill:=[o],new:=[(o,(true,.iter (some p) (left.eraseIdx i)))]}
def Tv(o:Nat)(K:Ah):Option Ap->Prop
 |some (true,.iter _ left)=>(left=[]->K (.tup [.im (.bool false)]) {use:=[o]})/\ ∀i p,left[i]? =some p->wT o left K i p
 |_=>False
def VO(h:Nat->Option Ap)(K:Ah):AV->Prop
 | .it o=>Tv o K (h o)
 |_=>False
def iG(h:Nat->Option Ap)(x:AV)(K:Ah):Bool->Prop
 |true=>VO h K x
 |false=>False
def RX(o:Nat)(K:Ah):Option Ap->Prop
 |some (true,.iter (some p) _)=>K (.im (.tup [p.1,p.2])) {use:=[o]}
 |_=>False
def Qsz(h:Nat->Option Ap)(K:Ah):AV->Prop
 | .it o=>RX o K (h o)
 |_=>False
def Vt(P:Program)(t:TypeId):Option TypeId:=match P.underlying t with
 |some (.chan _ e)=>some e
 |_=>none
def mcE(nx:Nat)(n:Int)(K:Ah)(z:TI):Prop:=0<=n/\n<=1073741824/\z.bytes<=65536/\K (.ch nx) {new:=[(nx,(true,.chan [] n.toNat))],cnt:=1}
def mcV(P:Program)(nx:Nat)(K:Ah)(e:TypeId):AV->Prop
 | .im (.int .i64 n)=>Bi (mcE nx n K) (tI P e)
 |_=>False
def mcK(P:Program)(nx:Nat)(x:AV)(K:Ah):Option TypeId->Prop
 |some e=>mcV P nx K e x
 |none=>False
def yC(P:Program)(nx:Nat)(x:AV)(K:Ah)(T:TypeId):Prop:=mcK P nx x K (Vt P T)
def aO(o:Nat)(K:Ah):Option Ap->Prop
 |some (_,.chan q _)=>FC K {use:=[o]} q.length
 |_=>False
def SX(o:Nat)(h:Nat->Option Ap)(K:Ah):Option TypeId->Prop
 |some _=>aO o K (h o)
 |none=>False
def iU(o:Nat)(d:D)(K:Ah):Option Ap->Prop
 |some (true,.chan q cap)=>q.length<cap/\K .any {use:=[o],kill:=[o],new:=[(o,(true,.chan (q++[d]) cap))]}
 |_=>False
def K4(h:Nat->Option Ap)(c x:AV)(K:Ah):Prop:=
 match c,x with
 | .ch o,.im d=>iU o d K (h o)
 |_,_=>False
def iS(o:Nat)(K:Ah):Option Ap->Prop
 |some (true,.chan q cap)=>q≠[]/\ ∀d r,q=d::r->K (.im d) {use:=[o],kill:=[o],new:=[(o,(true,.chan r cap))]}
 |_=>False
def rvC(h:Nat->Option Ap)(K:Ah):AV->Prop
 | .ch o=>iS o K (h o)
 |_=>False
def rvE(h:Nat->Option Ap)(c:AV)(K:Ah)(z:TI):Prop:=z.zero.length=z.size/\z.size≠0/\rvC h K c
def rvK(P:Program)(h:Nat->Option Ap)(c:AV)(K:Ah):Option TypeId->Prop
 |some e=>Bi (rvE h c K) (tI P e)
 |none=>False
def K3(P:Program)(h:Nat->Option Ap)(T:TypeId)(c:AV)(K:Ah):Prop:=rvK P h c K (Vt P T)
def Sa(neg:Bool)(K:Ah)(E:Bz){α:Type}(rows:List α):Prop:= ∀b:Bool,(b=true->rows=[])->K (.im (.bool (neg !=b))) E
def Sb(o:Nat)(neg:Bool)(K:Ah):Option Ap->Prop
 |some (_,.arr _ _ rows)=>Sa neg K {use:=[o]} rows
 |some (_,.arrA _ _ rows)=>Sa neg K {use:=[o]} rows
 |_=>False
def Nh(h:Nat->Option Ap)(neg:Bool)(K:Ah):AV->Prop
 | .im (.sl _ _ rows)=>Sa neg K {} rows
 | .own o=>Sb o neg K (h o)
 |_=>False
def HU:D->Bool
 | .sl z _ _=>z
 | .int _ _| .bool _| .str _| .nilp| .nilf| .nili| .nilc| .nilm| .agg _| .tup _| .ref _| .mp _ _| .fn _ _ _| .ifc _ _| .gp _| .tok _=>true
def Fl:AV->Bool
 | .im d=>HU d
 | .own _=>false
 | .any| .agg _| .tup _| .ptr _ _| .eptr _ _ _| .mp _| .ch _| .it _| .osl _ _ _| .clo _ _ _=>true
def unS(z:Bool)(x:AV)(n:Nat):Bool:=z && (n==1 && !Fl x)
def QP(P:Program)(h:Nat->Option Ap)(T:TypeId)(op:BinOp)(x:AV)(K:Ah):TK->Prop
 | .slice _=>(match op with
   | .eql=>Nh h false K x
   | .neq=>Nh h true K x
   |_=>False)
 | .bool| .str| .ptr _| .int _| .array _ _| .struct _| .map _ _| .other=>False
def Qst(P:Program)(h:Nat->Option Ap)(T:TypeId)(op:BinOp)(x:AV)(K:Ah)(ti:TI):Prop:=QP P h T op x K ti.kind
def K1(P:Program)(z:Bool)(T:TypeId)(h:Nat->Option Ap)(op:BinOp)(x y:AV)(K:Ah)(n:Nat):Prop:=
 if unS z x n=true then Bi (Qst P h T op x K) (tI P T) else ZC P T h op x y K n
def KF(P:Program)(z:Bool)(h:Nat->Option Ap)(T:TypeId)(K:Ah):AV->Prop
 | .ch o=>SX o h K (Vt P T)
 | .im d=>Bi (eY z h (.im d) K) (tI P T)
 | .own o=>Bi (eY z h (.own o) K) (tI P T)
 | .osl o a n=>Bi (eY z h (.osl o a n) K) (tI P T)
 | .mp o=>Bi (eY z h (.mp o) K) (tI P T)
 | .any| .agg _| .tup _| .ptr _ _| .eptr _ _ _| .it _| .clo _ _ _=>False
def Zk(P:Program)(z:Bool)(h:Nat->Option Ap)(nx:Nat)(K:Ah):Builtin->List AV->List TypeId->Prop
 | .len,[x],[T]=>KF P z h T K x
 | .append,[s,x],[T,U]=>Bi (zA P h nx s x T K) (tI P U)
 | .delete,[m,k],T::_=>Bi (zR P h K m k) (tI P T)
 | .copy,[d,s],[T,_]=>Bi (Qzd P h d s K) (tI P T)
 | .clear,[d],[T]=>Bi (Qrt P h d K) (tI P T)
 | .max,[x,y],_=>ML K x y
 |_,_,_=>False
def sG(P:Program)(V:Df)(z:Bool)(tm:List (Nat×AV))(h:Nat->Option Ap)(nx:Nat)(args:List AV)(ts:List TypeId)(K:Ah):Callee->Prop
 | .value f=>Qw V args h nx K (Aq tm f)
 | .builtin b=>Zk P z h nx K b args ts
 | .invoke r m=>MK P V args h nx K m (Aq tm r)
def Yf(nx:Nat)(K:Ah):Option KT->Prop
 |some z=>K (.mp nx) {new:=[(nx,(true,.map z []))],cnt:=1}
 |none=>False
def Tg(P:Program)(nx:Nat)(K:Ah):TK->Prop
 | .map k _=>Yf nx K (BK P k)
 | .bool| .str| .ptr _| .int _| .array _ _| .struct _| .slice _| .other=>False
def yT(P:Program)(nx:Nat)(K:Ah)(ti:TI):Prop:=Tg P nx K ti.kind
def D9(tm:List (Nat×AV)):List Operand->List AV
 |[]=>[]
 |x::r=>Aq tm x::D9 tm r
def Jv(tm:List (Nat×AV)):List (Nat×Operand)->List (Nat×AV)
 |[]=>[]
 |(i,x)::r=>(i,Aq tm x)::Jv tm r
def Qrk(h:Nat->Option Ap)(x:AV)(K:Ah)(ti:TI):Prop:=WN h ti K x
def xQ(P:Program)(h:Nat->Option Ap)(x i:AV)(K:Ah)(ti:TI):Prop:=Qjp P h x ti K i
def zX(P:Program)(x i:AV)(K:Ah)(ti:TI):Prop:=Qxc P x ti K i
def RC(o:Nat)(T:TypeId)(cs:List AV):Option (List D)->Option (D×Ar)
 |some ds=>some (.ref ds,[(o,(false,.cells T cs))])
 |none=>none
def RB(o:Nat):Option Ap->Option (D×Ar)
 |some (_,.cells T cs)=>RC o T cs (D3 cs)
 |some (_,.arr _ _ _)=>none
 |some (_,.arrA _ _ _)=>none
 |some (_,.map _ _)=>none
 |some (_,.chan _ _)=>none
 |some (_,.iter _ _)=>none
 |some (_,.view _)=>none
 |none=>none
def H6(h:Nat->Option Ap):AV->Option (D×Ar)
 | .im d=>some (d,[])
 | .ptr o 0=>RB o (h o)
 | .ptr _ (_+1)=>none
 | .any=>none
 | .agg _=>none
 | .tup _=>none
 | .eptr _ _ _=>none
 | .own _=>none
 | .mp _=>none
 | .ch _=>none
 | .it _=>none
 | .osl _ _ _=>none
 | .clo _ _ _=>none
def BH:Option (D×Ar)->Option (List D×Ar)->Option (List D×Ar)
 |some (d,E),some (ds,F)=>some (d::ds,E++F)
 |some _,none=>none
 |none,_=>none
def Oh(h:Nat->Option Ap):List AV->Option (List D×Ar)
 |[]=>some ([],[])
 |x::r=>BH (H6 h x) (Oh h r)
def hnm:Ar->List Nat
 |[]=>[]
 |(n,_)::r=>n::hnm r
def Qz3(f:FuncId)(a b:List D)(first capt:List AV)(K:Ah):Ar->Prop
 |[]=>K (.im (.fn f a b)) {}
 |e::r=>K (.im (.fn f a b)) {use:=hnm (e::r),kill:=hnm (e::r),new:=e::r}\/K (.clo f first capt) {}
def Nn(f:FuncId)(first capt:List AV)(K:Ah):Option (List D×Ar)->Option (List D×Ar)->Prop
 |some (a,E),some (b,F)=>Qz3 f a b first capt K (E++F)
 |some _,none=>K (.clo f first capt) {}
 |none,_=>K (.clo f first capt) {}
def XE(P:Program)(U:TypeId)(f:Nat):Option (TypeId×Nat):=
 match P.underlying U with
 |some (.struct z)=>(z[f]?).map λq=>(q.type,q.offset)
 |_=>none
def Q8(off n:Nat)(cs:List D):Bool->Option D
 |true=>some (.agg ((cs.drop off).take n))
 |false=>cs[off]?
def Q6(K:Ah):Option D->Prop
 |some d=>K (.im d) {}
 |none=>False
def cK(off:Nat)(K:Ah)(ti:TI):AV->Prop
 | .im (.agg cs)=>off+ti.size<=cs.length/\Q6 K (Q8 off ti.size cs ti.agg)
 |_=>False
def Q7(P:Program)(x:AV)(K:Ah):Option (TypeId×Nat)->Prop
 |some (t,off)=>Bi (λti=>cK off K ti x) (tI P t)
 |none=>False
def step(P:Program)(V:Df)(G:Bool)(tm:List (Nat×AV))(h:Nat->Option Ap)(nx:Nat)(T:TypeId)(K:Ah):Op->Prop
 | .move x=>K (Aq tm x) {}
 | .assign x=>zJ P tm nx T K x
 | .pick c a b=>Qzp (Aq tm a) (Aq tm b) K (Aq tm c)
 | .alloc T=>Bi (Qsv nx T K) (tI P T)
 | .box T x=>UI nx T K (Aq tm x).cells
 | .build T z=>Bi (Qsy P (Jv tm z.toList) K) (tI P T)
 | .buildSlice T n z=>Bi (xP P nx n (Jv tm z.toList) K) (tI P T)
 | .load T x=>Bi (Qrk h (Aq tm x) K) (tI P T)
 | .store T x v=>Bi (Qri h (Aq tm x) (Aq tm v) K) (tI P T)
 | .nilCheck x=>jY h K (Aq tm x)
 | .binOp op T x y _=>K1 P G T h op (Aq tm x) (Aq tm y) K (Fq y)
 | .unOp op _ x=>YP K op (Aq tm x)
 | .convert S T x=>VT P h (Qo (tI P T)) (Aq tm x) K (tI P S)
 | .makeFunc (.func f) first capt=>Nat.blt f 1000000000=true/\Nn f (D9 tm first.toList) (D9 tm capt.toList) K (Oh h (D9 tm first.toList)) (Oh h (D9 tm capt.toList))
 | .makeMap T none=>Bi (yT P nx K) (tI P T)
 | .makeSlice T l c=>Bi (xY P nx (Aq tm l) (Aq tm c) K) (tI P T)
 | .fieldAddr T x f=>Bi (xX h (Aq tm x) f K) (tI P T)
 | .indexAddr T x i=>Bi (xQ P h (Aq tm x) (Aq tm i) K) (tI P T)
 | .index T x i=>Bi (zX P (Aq tm x) (Aq tm i) K) (tI P T)
 | .lookup T m k ok=>Bi (zW P h (Aq tm m) (Aq tm k) ok K) (tI P T)
 | .mapUpdate T m k v=>Bi (jU P h K (Aq tm m) (Aq tm k) (Aq tm v)) (tI P T)
 | .extract x i=>jX i K (Aq tm x)
 | .call c=>sG P V G tm h nx (D9 tm c.args.toList) c.argTypes.toList K c.callee
 | .slice T x lo O none=>Bi (Qsm P h nx (Aq tm x) (DA tm lo) (DA tm O) K) (tI P T)
 | .range T x=>Bi (Qsh h nx (Aq tm x) K) (tI P T)
 | .next x false=>iG h (Aq tm x) K G
 | .entry x=>Qsz h K (Aq tm x)
 | .makeChan T x=>yC P nx (Aq tm x) K T
 | .makeInterface T x=>UJ P T K (Aq tm x)
 | .insert T m k v=>Bi (jU P h K (Aq tm m) (Aq tm k) (Aq tm v)) (tI P T)
 | .field U x f=>Q7 P (Aq tm x) K (XE P U f)
 |_=>False
inductive Ex where
 |normal
 |exit (id:Nat)
 |ret
abbrev Cq:=Ex->Az->Prop
def W7(t:Option Nat)(z:Bool)(s:Az)(Kdo Kskip:Az->Prop):AV->Prop
 | .im (.bool b)=>(b=z->Kdo (s.put t (.im (.bool z))))/\(b= !z->Kskip (s.put t (.im (.bool (!z)))))
 | .im (.tup [])=>Kskip s
 |_=>False
def AD(n:Nat):Ar->Bool
 |[]=>true
 |(_,(_,.cells _ cs))::r=>AN n cs && AD n r
 |(_,(_,.arrA _ _ rows))::r=>rows.all (AN n) && AD n r
 |(_,(_,.arr _ _ _))::r=>AD n r
 |(_,(_,.map _ _))::r=>AD n r
 |(_,(_,.chan _ _))::r=>AD n r
 |(_,(_,.iter _ _))::r=>AD n r
 |(_,(_,.view _))::r=>AD n r
def IR(kill:List Nat)(nx cnt n:Nat):Bool:=(Nat.ble nx n && Nat.blt n (nx+cnt))||(kill.contains n && Nat.blt n nx)
def NH(kill:List Nat)(nx cnt:Nat):Ar->Bool
 |[]=>true
 |(n,_)::r=>IR kill nx cnt n && NH kill nx cnt r
def Bz.ok(E:Bz)(nx:Nat)(r:AV):Bool:=r.bel (nx+E.cnt) && (AD (nx+E.cnt) E.new && NH E.kill nx E.cnt E.new)
def Az.app_nr(tm:List (Nat×AV))(h:Ar)(nx:Nat)(dst:Option Nat)(r:AV)(u k:List Nat)(z:Ar)(c:Nat):Az.app ⟨tm,h,nx⟩ dst r ⟨u,k,z,c⟩=(⟨tm,z++Cn h k,nx+c⟩:Az).put dst r:=by
 cases dst<;>rfl
def Bz.ok_nr(u k:List Nat)(z:Ar)(c nx:Nat)(r:AV):Bz.ok ⟨u,k,z,c⟩ nx r=(r.bel (nx+c) && (AD (nx+c) z && NH k nx c z)):=by
 cases c<;>rfl
structure SOp where
 dst:Option Nat
 op:Op
 type:TypeId
 gd:Option (Option Nat×Bool)
def WS(ops:Array Oper):Option (Nat×Bool)->Option (Option Nat×Bool)
 |none=>none
 |some (j,w)=>some ((ops[j]?).bind (·.dst),w)
def Gc(ops:Array Oper):List Oper->List SOp
 |[]=>[]
 |o::r=>⟨o.dst,o.op,o.type,WS ops o.guard⟩::Gc ops r
def SN(z:Az->Prop)(s:Az)(dst:Option Nat)(r:AV)(E:Bz):Prop:=E.ok s.nx r=true/\z (s.app dst r E)
def DO(P:Program)(V:Df)(tm:List (Nat×AV))(h:Nat->Option Ap)(nx:Nat)(ty:TypeId)(K:Ah):Op->Prop
 | .send c x=>K4 h (Aq tm c) (Aq tm x) K
 | .recv T c false=>K3 P h T (Aq tm c) K
 |op=>step P V true tm h nx ty K op
def Ji(P:Program)(V:Df)(dst:Option Nat)(op:Op)(ty:TypeId)(z:Az->Prop)(s:Az):Prop:=
 DO P V s.tm (hget s.h) s.nx ty (SN z s dst) op
def ME(dst:Option Nat)(z:Az->Prop)(s:Az):Prop:=z (s.put dst (.im (.tup [])))
def XM(P:Program)(V:Df)(dst:Option Nat)(op:Op)(ty:TypeId)(z:Bool)(G:Az->Prop)(s:Az):Option Nat->Prop
 |some t=>W7 (some t) z s (Ji P V dst op ty G) (ME dst G) (Ay s.tm t)
 |none=>False
def wX(P:Program)(V:Df)(dst:Option Nat)(op:Op)(ty:TypeId)(G:Az->Prop)(s:Az):Option (Option Nat×Bool)->Prop
 |none=>Ji P V dst op ty G s
 |some (t,z)=>XM P V dst op ty z G s t
def K0(P:Program)(V:Df):List SOp->(Az->Prop)->Az->Prop
 |[],K,s=>K s
 |⟨dst,op,ty,gd⟩::z,K,s=>wX P V dst op ty (K0 P V z K) s gd
structure Fp where
 i:Nat
 use:List Nat
 touch:List Nat
 nx:Nat
 cnt:Nat
def KC:Ar->List Nat
 |[]=>[]
 |(n,_)::r=>n::KC r
def IS:Ar->List Nat
 |[]=>[]
 |(_,(_,e))::r=>e.nms++IS r
def ND:List Nat->List Nat->Bool
 |[],_=>true
 |x::r,l=> !l.contains x && ND r l
def Hc(nx cnt:Nat):List Nat->Bool
 |[]=>true
 |x::r=>(Nat.blt x nx||Nat.ble (nx+cnt) x) && Hc nx cnt r
def Ib:Ground->Bool
 | .data=>true
 | .chain=>true
 | .guard=>true
 | .phase=>true
 | .textOnly _=>false
 | .gcOnly _=>false
def DI:List (List Nat)->Nat->List Nat
 |[],_=>[]
 |x::_,0=>x
 |_::r,n+1=>DI r n
def ins(x:Nat)(l:List Nat):List Nat:=bif l.contains x then l else x::l
def S9:List Nat->List Nat->List Nat
 |[],l=>l
 |x::r,l=>ins x (S9 r l)
def GX(acc:List (List Nat)):List Edge->List Nat
 |[]=>[]
 |e::r=>bif Ib e.ground then S9 (e.on::DI acc e.on) (GX acc r) else GX acc r
def EN:List Oper->List (List Nat)->List (List Nat)
 |[],acc=>acc
 |o::r,acc=>EN r (acc++[GX acc o.after.toList])
def EF(cl:List (List Nat))(i j:Nat):Bool:=(DI cl j).contains i
def vS(cl:List (List Nat))(j:Nat)(use touch z:List Nat)(f:Fp):Bool:=
 bif ND (use++touch) f.touch && (ND touch f.use && Hc f.nx f.cnt z) then true else EF cl f.i j
def Nt(cl:List (List Nat))(j:Nat)(use touch z:List Nat):List Fp->Bool
 |[]=>true
 |f::r=>vS cl j use touch z f && Nt cl j use touch z r
def Bz.touch(E:Bz):List Nat:=E.kill++KC E.new
abbrev jH:=List Fp->Az->Prop
def aL(cl:List (List Nat))(i:Nat)(acc:List Fp)(z:jH)(s:Az)(dst:Option Nat)(r:AV)(E:Bz):Prop:=
 E.ok s.nx r=true/\Nt cl i (E.use++E.kill) E.touch (E.touch++(r.nms++IS E.new)) acc=true/\z (⟨i,E.use++E.kill,E.touch,s.nx,E.cnt⟩::acc) (s.app dst r E)
def MM(P:Program)(V:Df)(cl:List (List Nat))(i:Nat)(acc:List Fp)(dst:Option Nat)(op:Op)(ty:TypeId)(z:jH)(s:Az):Prop:=
 step P V false s.tm (hget s.h) s.nx ty (aL cl i acc z s dst) op
def MD(dst:Option Nat)(acc:List Fp)(z:jH)(s:Az):Prop:=z acc (s.put dst (.im (.tup [])))
def XL(P:Program)(V:Df)(cl:List (List Nat))(i:Nat)(acc:List Fp)(dst:Option Nat)(op:Op)(ty:TypeId)(z:Bool)(G:jH)(s:Az):Option Nat->Prop
 |some t=>W7 (some t) z s (MM P V cl i acc dst op ty G) (MD dst acc G) (Ay s.tm t)
 |none=>False
def wW(P:Program)(V:Df)(cl:List (List Nat))(i:Nat)(acc:List Fp)(dst:Option Nat)(op:Op)(ty:TypeId)(G:jH)(s:Az):Option (Option Nat×Bool)->Prop
 |none=>MM P V cl i acc dst op ty G s
 |some (t,z)=>XL P V cl i acc dst op ty z G s t
def VG(P:Program)(V:Df)(cl:List (List Nat)):List SOp->Nat->(Az->Prop)->jH
 |[],_,K,_,s=>K s
 |⟨dst,op,ty,gd⟩::z,i,K,acc,s=>wW P V cl i acc dst op ty (VG P V cl z (i+1) K) s gd
def MP(K:Az->Prop)(Q:Cq):Cq
 | .normal,s=>K s
 | .exit i,s=>Q (.exit i) s
 | .ret,s=>Q .ret s
def IE(i:Nat)(Q:Cq)(s:Az):Bool->Prop
 |true=>Q .normal s
 |false=>Q (.exit i) s
def lP(id:Nat)(Q:Cq):Cq
 | .normal,s=>Q .normal s
 | .exit i,s=>IE i Q s (i==id)
 | .ret,s=>Q .ret s
def tO(A B:Cq->Az->Prop)(Q:Cq)(s:Az):AV->Prop
 | .im (.bool b)=>(b=true->A Q s)/\(b=false->B Q s)
 |_=>False
def Gs(s:Az):List (Nat×AV)->Prop
 |[]=>True
 |(t,x)::r=>Ay s.tm t=x/\Gs s r
def CE(s:Az):Ar->Prop
 |[]=>True
 |(o,e)::r=>hget s.h o=some e/\CE s r
def sub(s s':Az):Prop:=Gs s s'.tm/\CE s s'.h
def CQ(n:Nat):List (Nat×AV)->Bool
 |[]=>true
 |(_,x)::r=>x.bel n && CQ n r
def Cg(n:Nat):Ar->Bool
 |[]=>true
 |(m,_)::r=>Nat.blt m n && Cg n r
def Az.good(s:Az):Bool:=CQ s.nx s.tm && (AD s.nx s.h && Cg s.nx s.h)
def pm:List (Nat×Option Nat)->Nat->Option Nat
 |[],n=>some n
 |(a,b)::r,n=>if a=n then b else pm r n
def gY:AV->Prop
 | .im (.sl true _ [])=>True
 |_=>False
def He(x:AV):Option Nat->Prop
 |some m=>x= .own m
 |none=>gY x
def GO(f:Nat->AV)(x:AV):Option Nat->Prop
 |some m=>x=f m
 |none=>False
mutual
def mt(π:List (Nat×Option Nat)):AV->AV->Prop
 | .any,_=>True
 | .im d,x=>x= .im d
 | .own n,x=>He x (pm π n)
 | .ptr n p,x=>GO (λm=> .ptr m p) x (pm π n)
 | .eptr n i p,x=>GO (λm=> .eptr m i p) x (pm π n)
 | .mp n,x=>GO .mp x (pm π n)
 | .ch n,x=>GO .ch x (pm π n)
 | .it n,x=>GO .it x (pm π n)
 | .osl n a k,x=>GO (λm=> .osl m a k) x (pm π n)
 | .agg cs,.agg ds=>DZ π cs ds
 | .agg cs,.im (.agg ds)=>DZ π cs (ds.map .im)
 | .agg _,_=>False
 | .tup _,_=>False
 | .clo _ _ _,_=>False
def DZ(π:List (Nat×Option Nat)):List AV->List AV->Prop
 |[],[]=>True
 |x::r,y::s=>mt π x y/\DZ π r s
 |[],_::_=>False
 |_::_,[]=>False
end
def GB(π:List (Nat×Option Nat)):List (List AV)->List (List AV)->Prop
 |[],[]=>True
 |x::r,y::s=>DZ π x y/\GB π r s
 |[],_::_=>False
 |_::_,[]=>False
def EK(π:List (Nat×Option Nat)):Ag->Ag->Prop
 | .cells T cs,.cells U ds=>T=U/\DZ π cs ds
 | .cells _ _,_=>False
 | .arr T k rows,e=>e= .arr T k rows
 | .arrA T k rows,.arrA U k' z=>T=U/\k=k'/\GB π rows z
 | .arrA T k rows,.arr U k' z=>T=U/\k=k'/\GB π rows (Bm z)
 | .arrA _ _ _,.cells _ _=>False
 | .arrA _ _ _,.map _ _=>False
 | .arrA _ _ _,.chan _ _=>False
 | .arrA _ _ _,.iter _ _=>False
 | .arrA _ _ _,.view _=>False
 | .map O G,e=>e= .map O G
 | .chan q c,e=>e= .chan q c
 | .iter a l,e=>e= .iter a l
 | .view cs,e=>e= .view cs
def Ka(π:List (Nat×Option Nat))(G:Bool)(e':Ag):Option Ap->Prop
 |some (z,e)=>z=G/\EK π e' e
 |none=>False
def Tp:Bool->Ag->Prop
 |true,.arr _ _ []=>True
 |true,.arrA _ _ []=>True
 |_,_=>False
def EC(s:Az)(π:List (Nat×Option Nat))(z:Bool)(e':Ag):Option Nat->Prop
 |some m=>Ka π z e' (hget s.h m)
 |none=>Tp z e'
def QW(π:List (Nat×Option Nat))(s:Az):List (Nat×AV)->Prop
 |[]=>True
 |(t,x)::r=>mt π x (Ay s.tm t)/\QW π s r
def Hj(π:List (Nat×Option Nat))(s:Az):Ar->Prop
 |[]=>True
 |(n,(z,e))::r=>EC s π z e (pm π n)/\Hj π s r
def VD(lo:Nat):List (Nat×Option Nat)->Prop
 |[]=>True
 |(a,_)::r=>lo<=a/\VD lo r
def O4(π:List (Nat×Option Nat)):Ar->List (Option Nat)
 |[]=>[]
 |(n,_)::r=>pm π n::O4 π r
def EW:List (Option Nat)->Bool
 |[]=>true
 |none::r=>EW r
 |some m::r=> !r.contains (some m) && EW r
def Ak(lo:Nat)(π:List (Nat×Option Nat))(s s':Az):Prop:=VD lo π/\EW (O4 π s'.h)=true/\QW π s s'.tm/\Hj π s s'.h
def LW{β:Type}(I:β->Az)(μ:β->Nat)(b:β)(Q:Cq):Cq
 | .normal,s=> ∃b',μ b'<μ b/\sub s (I b')
 | .exit i,s=>Q (.exit i) s
 | .ret,s=>Q .ret s
def LV{β:Type}(lo:Nat)(I:β->Az)(μ:β->Nat)(b:β)(Q:Cq):Cq
 | .normal,s=> ∃b' π,μ b'<μ b/\Ak lo π s (I b')
 | .exit i,s=>Q (.exit i) s
 | .ret,s=>Q .ret s
def Zx(z:Cq->Az->Prop)(Q:Cq)(s:Az):Prop:=
 ∃(β:Type) (I:β->Az) (μ:β->Nat),(∀b,(I b).good=true/\s.nx<=(I b).nx)/\(∃b,sub s (I b))/\ ∀b,z (LW I μ b Q) (I b)
def Qsi(z:Cq->Az->Prop)(Q:Cq)(s:Az):Prop:=
 ∃(β:Type) (I:β->Az) (μ:β->Nat),(∀b,(I b).good=true/\s.nx<=(I b).nx)/\(∃b π,Ak s.nx π s (I b))/\ ∀b,z (LV s.nx I μ b Q) (I b)
def H7(F:List Nat):Ar->Ar
 |[]=>[]
 |(n,(z,e))::r=>(n,(z && !F.contains n,e))::H7 F r
def Sk(F:List Nat)(s:Az):Az:=⟨s.tm,H7 F s.h,s.nx⟩
def VK(z:Cq->Az->Prop)(Q:Cq)(s:Az):Prop:= ∃F:List Nat,Zx z Q (Sk F s)
def Hb(n:Nat):Ag->AV
 | .arr _ w rows=> .im (.sl false w rows)
 | .cells _ _=> .own n
 | .arrA _ _ _=> .own n
 | .map _ _=> .own n
 | .chan _ _=> .own n
 | .iter _ _=> .own n
 | .view _=> .own n
def Ku(n:Nat):Option Ap->AV
 |some e=>Hb n e.2
 |none=> .own n
def IY(o p:Nat):Option (List D)->AV
 |some ds=> .im (.ref ds)
 |none=> .ptr o p
def Ft(o p:Nat):Option Ap->AV
 |some (_,.cells _ cs)=>IY o p (D3 (cs.drop p))
 |some (_,.arr _ _ _)=> .ptr o p
 |some (_,.arrA _ _ _)=> .ptr o p
 |some (_,.map _ _)=> .ptr o p
 |some (_,.chan _ _)=> .ptr o p
 |some (_,.iter _ _)=> .ptr o p
 |some (_,.view _)=> .ptr o p
 |none=> .ptr o p
mutual
def AV.fzA(F:List Nat)(H:Ar):AV->AV
 | .own n=>bif F.contains n then Ku n (hget H n) else .own n
 | .agg cs=> .agg (DB F H cs)
 | .any=> .any
 | .im d=> .im d
 | .tup cs=> .tup cs
 | .ptr o p=>bif F.contains o then (bif F.contains (o+4000000000) then Ft o p (hget H o) else .ptr o p) else .ptr o p
 | .eptr o i p=> .eptr o i p
 | .mp o=> .mp o
 | .ch o=> .ch o
 | .it o=> .it o
 | .osl o a n=> .osl o a n
 | .clo f a c=> .clo f a c
def DB(F:List Nat)(H:Ar):List AV->List AV
 |[]=>[]
 |x::r=>x.fzA F H::DB F H r
end
def DC(F:List Nat)(H:Ar):List (List AV)->List (List AV)
 |[]=>[]
 |x::r=>DB F H x::DC F H r
def Ag.fzA(F:List Nat)(H:Ar):Ag->Ag
 | .cells T cs=> .cells T (DB F H cs)
 | .arrA T k rows=> .arrA T k (DC F H rows)
 | .arr T k rows=> .arr T k rows
 | .map G z=> .map G z
 | .chan q c=> .chan q c
 | .iter a l=> .iter a l
 | .view cs=> .view cs
def H9(F:List Nat)(H:Ar):List (Nat×AV)->List (Nat×AV)
 |[]=>[]
 |(t,x)::r=>(t,x.fzA F H)::H9 F H r
def H8(F:List Nat)(H:Ar):Ar->Ar
 |[]=>[]
 |(n,(z,e))::r=>(n,(z && !F.contains n,e.fzA F H))::H8 F H r
def Sr(F:List Nat)(s:Az):Az:=⟨H9 F s.h s.tm,H8 F s.h s.h,s.nx⟩
def LU{β:Type}(lo:Nat)(I:β->Az)(μ:β->Nat)(b:β)(Q:Cq):Cq
 | .normal,s=> ∃b' F π,μ b'<μ b/\Ak lo π (Sr F s) (I b')
 | .exit i,s=>Q (.exit i) s
 | .ret,s=>Q .ret s
def Qsf(z:Cq->Az->Prop)(Q:Cq)(s:Az):Prop:=
 ∃(β:Type) (I:β->Az) (μ:β->Nat),(∀b,(I b).good=true/\s.nx<=(I b).nx)/\(∃b F π,Ak s.nx π (Sr F s) (I b))/\ ∀b,z (LU s.nx I μ b Q) (I b)
def AR(z:Cq->Az->Prop)(Q:Cq)(s:Az):Prop:=Zx z Q s\/Qsi z Q s\/VK z Q s\/Qsf z Q s
def AR.frr{z:Cq->Az->Prop}{Q:Cq}{s:Az}(h:Qsf z Q s):AR z Q s:=Or.inr (Or.inr (Or.inr h))
def AR.old{z:Cq->Az->Prop}{Q:Cq}{s:Az}(h:Zx z Q s):AR z Q s:=Or.inl h
def AR.ren{z:Cq->Az->Prop}{Q:Cq}{s:Az}(h:Qsi z Q s):AR z Q s:=Or.inr (Or.inl h)
def AR.frz{z:Cq->Az->Prop}{Q:Cq}{s:Az}(F:List Nat)(h:Zx z Q (Sk F s)):AR z Q s:=Or.inr (Or.inr (Or.inl ⟨F,h⟩))
def Dh(P:Program)(V:Df):Code->Cq->Az->Prop
 | .skip,Q,s=>Q .normal s
 | .region _ ops false,Q,s=>K0 P V (Gc ops ops.toList) (Q .normal) s
 | .region _ ops true,Q,s=>VG P V (EN ops.toList []) (Gc ops ops.toList) 0 (Q .normal) [] s
 | .seq a b,Q,s=>Dh P V a (MP (Dh P V b Q) Q) s
 | .cond c a b,Q,s=>tO (Dh P V a) (Dh P V b) Q s (Aq s.tm c)
 | .block id c,Q,s=>Dh P V c (lP id Q) s
 | .loop c,Q,s=>AR (Dh P V c) Q s
 | .exit id,Q,s=>Q (.exit id) s
 | .ret,Q,s=>Q .ret s
 |_,_,_=>False
end Go.Ae
