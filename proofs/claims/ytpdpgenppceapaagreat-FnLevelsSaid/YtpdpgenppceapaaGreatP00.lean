/- Lemmas. Conditions: none. -/
import Derived.Orders
import Derived.Below
import Derived.Laws.Sem
set_option linter.all false
set_option maxHeartbeats 8000000
set_option maxRecDepth 100000
namespace Go
def A8:=@Option.some.inj
def AT:=@Option.some_beq_none
def AU:=@Option.some_beq_some
def Bk:=@List.getElem?_eq_getElem
def AJ:=@Option.getD_some
def AP:=@Option.some.injEq
def Bd:=@List.mem_of_getElem?
def B9:=@List.getElem?_eq_some_iff
def AZ:=@Bool.and_eq_true
def Ad:=@if_neg
def B1:=@Int.toNat_natCast
def Ak:=@if_pos
def BA:=@decide_eq_true_eq
def AW:=@Nat.le_refl
def Bm:=@List.map_cons
def BN:=@List.mem_singleton
def B5:=@List.mem_append
def Cl:=@List.getD_cons_zero
def Cs:=@List.mem_cons_of_mem
def Ct:=@List.mem_cons_self
def Eh:=@List.getElem?_append_left
def Cp:=@List.length_take
def CS:=@List.length_append
def DN:=@Option.map_eq_some_iff
def BO:=@List.mem_cons
def Ei:=@List.drop_eq_nil_of_le
def Fe:=@List.getElem?_append_right
def CP:=@List.cons_append
def Dx:=@Bool.false_eq_true
def CQ:=@List.append_nil
def EE:=@List.getElem?_set_self
def CR:=@Option.map_some
def Ep:=@List.getElem?_set_ne
def Dp:=@List.length_cons
def BY:=@List.map_nil
def BZ:=@List.mem_map
def Dt:=@List.length_drop
def EK:=@List.mem_iff_getElem?
def F5:=@Option.bind_eq_some_iff
def CX:=@List.mem_range
def DX:=@List.getElem?_map
def Hc:=@Classical.byContradiction
def Gw:=@List.getElem?_cons_zero
def GD:=@List.getElem?_cons_succ
def Cx:=@Nat.zero_le
def I2:=@Array.getD_eq_getD_getElem?
def GE:=@List.take_of_length_le
def FF:=@Array.length_toList
def Co:=@cond_false
def GF:=@Array.getElem?_toList
def EW:=@List.take_length
def Bt:=@if_true
def HZ:=@decide_eq_false_iff_not
def Hy:=@List.getElem?_eq_none
def J4:=@Array.getElem?_eq_getElem
def Fg:=@List.map_append
def Er:=@Bool.and_true
def DO:=@Nat.le_trans
def Gi:=@Bool.not_eq_false
def Fs:=@List.nil_append
def BW:=@congrArg
def Hz:=@List.getD_cons_succ
def Fh:=@List.take_zero
def EL:=@Bool.true_and
def EM:=@Prod.mk.injEq
def CJ:=@cond_true
def FN:=@List.length_map
def I5:=@Nat.mul_le_mul_right
def Ia:=@List.take_succ_cons
def F6:=@List.drop_drop
def HO:=@Nat.lt_of_lt_of_le
def GG:=@Option.bind_some
def H2:=@List.flatMap_cons
def J5:=@List.contains_iff_mem
def Ib:=@List.getElem?_drop
def Pw:=@List.nodup_iff_pairwise_ne
def J6:=@List.mem_append_left
def Jd:=@beq_eq_false_iff_ne
def HY:=@List.append_assoc
def Ff:=@Nat.lt_or_ge
def Gx:=@Bool.false_and
def HN:=@List.all_eq_true
def Pt:=@List.eq_of_mem_replicate
def I3:=@Classical.not_not
def Hx:=@List.length_nil
def Pu:=@List.getElem?_replicate
def Pv:=@List.length_eq_zero_iff
def CY:=@if_false
def Ja:=@List.ext_getElem?
def R9:=@List.getElem?_take_of_lt
def Mn:=@List.length_replicate
def FM:=@Nat.zero_add
def Lm:=@List.getElem?_range
def Xo:=@Array.getElem?_eq_some_iff
def I4:=@List.length_set
def K5:=@Bool.not_eq_true'
def Mo:=@List.drop_succ_cons
def K6:=@List.take_add_one
def RA:=@List.mem_append_right
def Jb:=@List.nodup_cons
def Gh:=@Nat.add_mul
def J3:=@Bool.or_eq_true
def Gy:=@Int.le_refl
def Jc:=@List.drop_zero
def SN:=@List.length_singleton
def Zc:=@List.mem_or_eq_of_mem_set
def FG:=@Nat.blt_eq
def eT:=@Int.tmod_eq_emod_of_nonneg
def Py:=@List.size_toArray
def SO:=@List.map_congr_left
def lY:=@Array.getElem?_setIfInBounds
def Zd:=@Array.getElem?_eq_none
def I6:=@Nat.sub_self
def Xt:=@List.getElem?_mapIdx
def RC:=@Bool.eq_false_iff
def Mp:=@List.all_append
def RD:=@List.nodup_append
def EN:=@and_self
def Ze:=@List.take_append_drop
def RE:=@Bool.not_eq_true
def RF:=@List.getElem_mem
def Xu:=@List.pairwise_cons
def lZ:=@Array.getElem?_replicate
def rM:=@List.perm_ext_iff_of_nodup
def J7:=@Nat.one_mul
def mA:=@List.zipWith_cons_cons
def rN:=@List.drop_eq_getElem_cons
def SP:=@List.mem_filter
def rO:=@List.mem_of_find?_eq_some
def Xv:=@Array.toList_map
def Xp:=@List.drop_append
def ZcB:=@List.eq_nil_of_length_eq_zero
def Px:=@Nat.add_assoc
def eM:=@List.length_pos_iff
def lU:=@Bool.and_eq_false_iff
def YZ:=@List.length_range
def Fi:=@Ne.symm
def Xq:=@Bool.eq_iff_iff
def RB:=@List.all_cons
def rH:=@List.filter_cons_of_neg
def Xr:=@List.find?_some
def eO:=@List.getElem?_take
def rJ:=@Nat.add_sub_cancel_left
def eQ:=@Option.isSome_none
def lV:=@List.mem_iff_getElem
def Za:=@List.not_mem_nil
def Zb:=@Nat.min_le_right
def rK:=@Classical.epsilon_spec
def eS:=@List.contains_nil
def Xs:=@Bool.not_false
def SL:=@Bool.or_false
def ZcV:=@List.pairwise_iff_getElem
def SM:=@List.sum_cons
def rL:=@Nat.le_of_ble_eq_true
def lW:=@List.contains_cons
def lX:=@List.find?_eq_none
def Ln:=@Nat.ble_eq
def eU:=@Array.toList_inj
def Zdc:=@List.eraseIdx_cons_succ
def SR:=@List.map_set
def mF:=@List.pairwise_map
def eV:=@List.cons.injEq
def rX:=@List.length_reverse
def rY:=@List.mem_map_of_mem
def rZ:=@List.takeWhile_cons
def I7:=@true_and
def Zdk:=@Array.getElem?_append_left
def Zdl:=@Int.tdiv_eq_ediv_of_nonneg
def mG:=@List.filter_cons
def Zdn:=@Array.getElem?_append
def sA:=@List.filter_append
def Zdp:=@List.length_filter_le
def Xw:=@List.map_map
def sB:=@List.set_cons_succ
def sC:=@List.set_cons_zero
def Xx:=@Nat.add_zero
def sD:=@Nat.eq_zero_or_pos
def Zdv:=@List.mem_of_mem_take
def RG:=@Array.ext'
def Zdx:=@List.Perm.eq_of_pairwise
def mH:=@List.foldl_cons
def sE:=@Nat.lt_trichotomy
def Mq:=@forall_eq
def ZdB:=@List.drop_append_of_le_length
def rP:=@List.flatMap_nil
def mB:=@List.Perm.refl
def SQ:=@beq_iff_eq
def ZdF:=@List.length_eq_one_iff
def ZdG:=@Array.extract_size
def ZdH:=@Array.getElem?_modify
def rQ:=@List.filter_nil
def ZdJ:=@List.getElem?_toArray
def mC:=@List.take_add
def ZdL:=@Array.toList_setIfInBounds
def ZdM:=@List.contains_eq_mem
def rR:=@Bool.and_false
def rU:=@Option.none_or
def ZdP:=@Int.toNat_of_nonneg
def ZdQ:=@List.filter_eq_self
def ZdR:=@List.flatMap_append
def ZdS:=@Array.size_setIfInBounds
def mD:=@Nat.sub_zero
def mE:=@Nat.zero_mul
def rV:=@Bool.and_self
def rW:=@Bool.not_true
def ZdX:=@List.filter_cons_of_pos
def ZdY:=@List.range_zero
def ZdZ:=@Nat.not_lt_zero
def Zea:=@Option.toList_some
def Zeb:=@decide_eq_false
def Zec:=@List.zipWith_nil_right
def Zed:=@Array.toList_push
def Mr:=@eq_true
def Zef:=@not_false_eq_true
def Zeg:=@Array.getElem?_mapIdx
def Zeh:=@Int.mul_le_mul_of_nonneg_right
def Zei:=@List.set_append_right
def Zej:=@List.singleton_append
def sF:=@decide_false
def Zel:=@List.mem_flatMap
def Zem:=@List.take_append_of_le_length
def Zen:=@List.range_eq_range'
def Zeo:=@Bool.false_or
def Zep:=@Nat.lt_irrefl
def Xy:=@ite_self
def Zer:=@Array.getElem?_append_right
def Zes:=@Array.toList_append
def Zet:=@Array.toList_modify
def Zeu:=@List.find?_cons
def Zev:=@List.range_succ
def Zew:=@List.replicate_succ
def Zex:=@List.toList_toArray
def Zey:=@Nat.min_eq_left
def Zez:=@Int.fdiv_eq_ediv_of_nonneg
def ZeA:=@List.exists_cons_of_ne_nil
def ZeB:=@List.perm_append_singleton
def ZeC:=@Array.ext_getElem?
def ZeD:=@Array.toList_range
def ZeE:=@Bool.true_or
def ZeF:=@Int.tmod_lt_of_pos
def ZeG:=@List.getElem_range
def ZeH:=@Nat.add_comm
def ZeI:=@Array.mapM_eq_mapM_toList
def ZeJ:=@Bool.and_assoc
def ZeK:=@List.foldl_nil
def ZeL:=@List.getElem?_eq_none_iff
def ZeM:=@List.isEmpty_eq_false_iff
def ZeN:=@decide_eq_true
def ZeO:=@Decidable.not_not
def ZeP:=@List.Pairwise.imp
def ZeQ:=@Option.isSome_iff_exists
def mI:=@and_assoc
def ZeS:=@List.eraseIdx_cons_zero
def eW:=@or_false
def ZeU:=@Bool.cond_eq_ite
def ZeV:=@List.any_eq_true
def ZeW:=@beq_self_eq_true
def ZeX:=@decide_eq_decide
def ZeY:=@forall_eq_or_imp
def ZeZ:=@List.append_eq_nil_iff
def Zfa:=@Bool.or_true
def Zfb:=@ByteArray.size_append
def Zfc:=@Int.le_trans
def Zfd:=@Int.tmod_nonneg
def Zfe:=@List.eraseIdx_sublist
def Zff:=@List.getElem?_reverse
def Zfg:=@List.head?_cons
def Zfh:=@List.sum_nil
def Zfi:=@Nat.le_of_eq
def Zfj:=@Nat.succ_mul
def Zfk:=@Array.toList_extract
def Zfl:=@List.length_eraseIdx
def Zfm:=@List.mem_of_mem_drop
def Zfn:=@List.pairwise_append
def Zfo:=@List.replicate_succ'
def Zfp:=@Int.toNat_zero
def Zfq:=@List.drop_take
def Zfr:=@Option.some_or
def Zfs:=@List.drop_nil
def Zft:=@List.take_nil
def Zfu:=@Int.add_zero
def Zf:=@not_or
end Go
namespace Go.Ae
def isG(_:Nat):Bool:=false
def GP(_:Nat->Prop)(_:Nat->Option Obj):Prop:=True
def GP.mono{ok ok':Nat->Prop}{hp hp':Nat->Option Obj}(_: ∀b o,ok b->hp b=some o->ok' b/\hp' b=some o)(_:GP ok hp):GP ok' hp':=trivial
def GP.at{ok:Nat->Prop}{hp:Nat->Option Obj}(_:GP ok hp){g:Nat}(G:isG g=true):ok g/\ ∃t x T z,hp g=some (.cells #[.iface t x] T z):=by cases G
end Go.Ae
namespace Go.Ae
inductive KK where
 |int (k:IntKind)
 |str
 |bool
 deriving DecidableEq
structure KT where
 agg:Bool
 ks:List KK
 deriving DecidableEq
inductive D where
 |int (k:IntKind) (n:Int)
 |bool (b:Bool)
 |str (s:ByteArray)
 |nilp|nilf|nili|nilc|nilm
 |agg (cs:List D)
 |tup (cs:List D)
 |sl (nz:Bool) (k:Nat) (rows:List (List D))
 |ref (cs:List D)
 |mp (kt:KT) (es:List (D×D))
 |fn (f:FuncId) (first capt:List D)
 |ifc (t:TypeId) (d:D)
 |gp (g:Nat)
 |tok (g:Nat)
def KK.fit:KK->D->Bool
 | .int k,.int k' _=>k==k'
 | .str,.str _=>true
 | .bool,.bool _=>true
 |_,_=>false
def BE:List KK->List D->Bool
 |[],[]=>true
 |k::ks,d::ds=>k.fit d && BE ks ds
 |_,_=>false
def KT.fit(z:KT)(d:D):Bool:=
 match z.agg,d with
 |true,.agg ds=>BE z.ks ds
 |false,d=>BE z.ks [d]
 |_,_=>false
def KH:Nat:=140737488355328
def Xz(f:Nat):Fn:=if f<1000000000 then .func f else .yield (f - 1000000000)
def YK{f:Nat}(h:f<1000000000):Xz f= .func f:=Ak h
def slM(nz:Bool)(v:Value):Prop:=v= .slice none 0 0\/(nz=false/\ ∃a,v= .slice (some a) 0 0)
def zA{nz:Bool}{v:Value}(h:slM nz v): ∃z,v= .slice z 0 0:=by
 rcases h with rfl|⟨_,a,rfl⟩<;>exact⟨_,rfl⟩
def Qr7{v:Value}(h:slM true v):v= .slice none 0 0:=by
 rcases h with rfl|⟨h,_⟩
 .rfl
 .cases h
def QH{nz:Bool}{v:Value}(h:slM nz v):slM false v:=by
 rcases h with rfl|⟨_,a,rfl⟩
 .exact .inl rfl
 .exact .inr ⟨rfl,a,rfl⟩
mutual
def rd(ok:Nat->Prop)(hp:Nat->Option Obj):D->Value->Prop
 | .int k n,v=>v= .int k n
 | .bool b,v=>v= .bool b
 | .str s,v=>v= .string s
 | .nilp,v=>v= .pointer none
 | .nilf,v=>v= .nilFunc
 | .nili,v=>v= .nilIface
 | .nilc,v=>v= .chan none
 | .nilm,v=>v= .map none
 | .agg Q,v=> ∃O:Array Value,v= .agg O/\rdl ok hp Q O.toList
 | .tup Q,v=> ∃O:Array Value,v= .tuple O/\rdl ok hp Q O.toList
 | .sl nz k rows,v=>(slM nz v/\rows=[])\/
  ∃b p cap O T Z,v= .slice (some ⟨b,p,none⟩) rows.length cap/\(nz=true->rows≠[])/\rows.length<=cap/\rows.length<=KH/\ok b/\
   hp b=some (.cells O T Z)/\rdr ok hp k rows (O.toList.drop p)
 | .ref Q,v=> ∃b p O T Z,v= .pointer (some ⟨b,p,none⟩)/\ok b/\hp b=some (.cells O T Z)/\rdp ok hp Q (O.toList.drop p)
 | .mp kt es,v=> ∃b z G,v= .map (some b)/\(∀e∈es,kt.fit e.1=true)/\ok b/\hp b=some (.map z G)/\rde ok hp es z.toList/\(z.toList.map (·.born)).Nodup/\ ∀e∈z.toList,e.born<G
 | .fn f first capt,v=> ∃a c:Array Value,v= .func (Xz f) a c/\rdl ok hp first a.toList/\rdl ok hp capt c.toList
 | .ifc t d,v=> ∃x,v= .iface t x/\rd ok hp d x
 | .gp g,v=>v= .pointer (some ⟨g,0,none⟩)
 | .tok g,v=>ok g/\(∃t x,v= .iface t x)/\ ∃T Z,hp g=some (.cells #[v] T Z)
def rdl(ok:Nat->Prop)(hp:Nat->Option Obj):List D->List Value->Prop
 |[],z=>z=[]
 |d::ds,z=> ∃v r,z=v::r/\rd ok hp d v/\rdl ok hp ds r
def rdp(ok:Nat->Prop)(hp:Nat->Option Obj):List D->List Value->Prop
 |[],_=>True
 |d::ds,z=> ∃v r,z=v::r/\rd ok hp d v/\rdp ok hp ds r
def rdr(ok:Nat->Prop)(hp:Nat->Option Obj)(k:Nat):List (List D)->List Value->Prop
 |[],_=>True
 |r::G,z=>r.length=k/\rdp ok hp r z/\rdr ok hp k G (z.drop k)
def rde(ok:Nat->Prop)(hp:Nat->Option Obj):List (D×D)->List MapEntry->Prop
 |[],z=>z=[]
 |(x,y)::ds,z=> ∃e r,z=e::r/\rd ok hp x e.key/\rd ok hp y e.val/\rde ok hp ds r
end
section mono
variable {ok ok':Nat->Prop}{hp hp':Nat->Option Obj}
mutual
def HC(h: ∀b,ok b->ok' b/\hp' b=hp b): ∀(d:D) (v:Value),rd ok hp d v->rd ok' hp' d v
 | .int _ _,_,hd=>by simpa only[rd] using hd
 | .bool _,_,hd=>by simpa only[rd] using hd
 | .str _,_,hd=>by simpa only[rd] using hd
 | .nilp,_,hd=>by simpa only[rd] using hd
 | .nilf,_,hd=>by simpa only[rd] using hd
 | .nili,_,hd=>by simpa only[rd] using hd
 | .nilc,_,hd=>by simpa only[rd] using hd
 | .nilm,_,hd=>by simpa only[rd] using hd
 | .gp _,_,hd=>by simpa only[rd] using hd
 | .tok g,v,hd=>by
   simp only[rd] at hd⊢;obtain⟨z,h3,T,fr,h2⟩:=hd;exact⟨(h g z).1,h3,T,fr,(h g z).2.trans h2⟩
 | .agg Z,v,hd=>by
   simp only[rd] at hd⊢;obtain⟨Q,rfl,z⟩:=hd;exact⟨Q,rfl,Mf h Z _ z⟩
 | .tup Z,v,hd=>by
   simp only[rd] at hd⊢;obtain⟨Q,rfl,z⟩:=hd;exact⟨Q,rfl,Mf h Z _ z⟩
 | .sl nz k rows,v,hd=>by
   simp only[rd] at hd⊢;rcases hd with hd|⟨b,p,cap,Q,T,fr,rfl,z,h2,h3,G,h5,h6⟩
   .exact .inl hd
   .exact .inr ⟨b,p,cap,Q,T,fr,rfl,z,h2,h3,(h b G).1,(h b G).2.trans h5,dF h k rows _ h6⟩
 | .ref Z,v,hd=>by
   simp only[rd] at hd⊢;obtain⟨b,p,Q,T,fr,rfl,G,h5,h6⟩:=hd;exact⟨b,p,Q,T,fr,rfl,(h b G).1,(h b G).2.trans h5,dD h Z _ h6⟩
 | .mp kt es,v,hd=>by
   simp only[rd] at hd⊢;obtain⟨b,aa,O,rfl,h3,G,h5,h6,h7⟩:=hd;exact⟨b,aa,O,rfl,h3,(h b G).1,(h b G).2.trans h5,Me h es _ h6,h7⟩
 | .fn f first capt,v,hd=>by
   simp only[rd] at hd⊢;obtain⟨a,c,rfl,z,h2⟩:=hd;exact⟨a,c,rfl,Mf h first _ z,Mf h capt _ h2⟩
 | .ifc t d,v,hd=>by
   simp only[rd] at hd⊢;obtain⟨x,rfl,z⟩:=hd;exact⟨x,rfl,HC h d _ z⟩
def Mf(h: ∀b,ok b->ok' b/\hp' b=hp b): ∀(ds:List D) (vs:List Value),rdl ok hp ds vs->rdl ok' hp' ds vs
 |[],_,hd=>by simpa only[rdl] using hd
 |d::ds,vs,hd=>by
  simp only[rdl] at hd⊢;obtain⟨v,r,rfl,z,G⟩:=hd;exact⟨v,r,rfl,HC h d v z,Mf h ds r G⟩
def dD(h: ∀b,ok b->ok' b/\hp' b=hp b): ∀(ds:List D) (vs:List Value),rdp ok hp ds vs->rdp ok' hp' ds vs
 |[],_,_=>by simp only[rdp]
 |d::ds,vs,hd=>by
  simp only[rdp] at hd⊢;obtain⟨v,r,rfl,z,G⟩:=hd;exact⟨v,r,rfl,HC h d v z,dD h ds r G⟩
def dF(h: ∀b,ok b->ok' b/\hp' b=hp b)(k:Nat): ∀(z:List (List D)) (vs:List Value),rdr ok hp k z vs->rdr ok' hp' k z vs
 |[],_,_=>by simp only[rdr]
 |r::z,vs,hd=>by
  simp only[rdr] at hd⊢;exact⟨hd.1,dD h r vs hd.2.1,dF h k z _ hd.2.2⟩
def Me(h: ∀b,ok b->ok' b/\hp' b=hp b): ∀(ds:List (D×D)) (es:List MapEntry),rde ok hp ds es->rde ok' hp' ds es
 |[],_,hd=>by simpa only[rde] using hd
 |(x,y)::ds,es,hd=>by
  simp only[rde] at hd⊢;obtain⟨e,r,rfl,z,G,O⟩:=hd;exact⟨e,r,rfl,HC h x _ z,HC h y _ G,Me h ds r O⟩
end
end mono
def D.sc:D->Bool
 | .int _ _| .bool _| .str _| .nilp| .nilf| .nili| .nilc| .nilm=>true
 | .sl true _ []=>true
 |_=>false
def D.scs:D->Bool
 | .agg z| .tup z=>z.all D.sc
 |d=>d.sc
def VJ{ok ok':Nat->Prop}{hp hp':Nat->Option Obj}: ∀{d:D} {v:Value},d.sc=true->rd ok hp d v->rd ok' hp' d v:=by
 intro d v h hd;cases d
 case sl nz k rows=>
  cases nz<;>cases rows<;>simp only[D.sc,Dx] at h;simp only[rd] at hd⊢;rcases hd with hd|⟨b,p,cap,O,T,G,_,z,_⟩
  .exact .inl hd
  .exact absurd rfl (z trivial)
 all_goals simp_all [D.sc,rd]
def VL{ok ok':Nat->Prop}{hp hp':Nat->Option Obj}: ∀(ds:List D) (vs:List Value),ds.all D.sc=true->rdl ok hp ds vs->rdl ok' hp' ds vs
 |[],_,_,hd=>by simpa only[rdl] using hd
 |d::ds,vs,h,hd=>by
  simp only[rdl,RB,AZ] at hd h⊢;obtain⟨v,r,rfl,z,G⟩:=hd;exact⟨v,r,rfl,VJ h.1 z,VL ds r h.2 G⟩
def LN{ok ok':Nat->Prop}{hp hp':Nat->Option Obj}: ∀{d:D} {v:Value},d.scs=true->rd ok hp d v->rd ok' hp' d v:=by
 intro d v h hd;cases d<;>simp only[D.scs] at h<;>try exact VJ h hd
 all_goals
  simp only[rd] at hd⊢;obtain⟨G,rfl,z⟩:=hd;exact⟨G,rfl,VL _ _ h z⟩
inductive AV where
 |any
 |im (d:D)
 |agg (cs:List AV)
 |tup (cs:List AV)
 |ptr (o off:Nat)
 |eptr (o i off:Nat)
 |own (o:Nat)
 |mp (o:Nat)
 |ch (o:Nat)
 |it (o:Nat)
 |osl (o a n:Nat)
 |clo (f:FuncId) (first capt:List AV)
 deriving Inhabited
inductive Ah where
 |cells (T:TypeId) (cs:List AV)
 |arr (T:TypeId) (k:Nat) (rows:List (List D))
 |arrA (T:TypeId) (k:Nat) (rows:List (List AV))
 |map (kt:KT) (es:List (D×D))
 |chan (q:List D) (cap:Nat)
 |iter (last:Option (D×D)) (left:List (D×D))
 |view (cs:List D)
def Ah.isView:Ah->Bool
 | .view _=>true
 | .cells _ _| .arr _ _ _| .arrA _ _ _| .map _ _| .chan _ _| .iter _ _=>false
abbrev Aq:=Bool×Ah
abbrev Au:=List (Nat×Aq)
structure G7 where
 b:Nat
 p:Nat
 cap:Nat
structure A7 where
 ρ:Nat->Option G7
 ok:Nat->Prop
 h:Nat->Option Aq
 w:World
def A7.hp(S:A7):Nat->Option Obj:=λb=>S.w.heap[b]?
def Ah.len:Ah->Nat
 | .arr _ _ rows=>rows.length
 | .arrA _ _ rows=>rows.length
 |_=>0
def Ah.esz:Ah->Nat
 | .arr _ k _=>k
 | .arrA _ k _=>k
 |_=>0
def Rs(r:Option G7)(z len a n:Nat)(v:Value):Prop:=match r with
 |none=>v= .slice none 0 0/\n=0
 |some l=> ∃p G,v= .slice (some ⟨l.b,p,none⟩) n G/\n<=G/\(n≠0->p=l.p+a*z)/\a+n<=len
mutual
def Aa(S:A7):AV->Value->Prop
 | .any,_=>True
 | .im d,v=>rd S.ok S.hp d v
 | .agg G,v=> ∃z:Array Value,v= .agg z/\AY S G z.toList
 | .tup G,v=> ∃z:Array Value,v= .tuple z/\AY S G z.toList
 | .ptr o off,v=>v.oneCell'=true/\ ∀e,S.h o=some e-> ∃l,S.ρ o=some l/\v= .pointer (some ⟨l.b,l.p+off,none⟩)
 | .eptr o i off,v=>v.oneCell'=true/\ ∀e,S.h o=some e-> ∃l,S.ρ o=some l/\v= .pointer (some ⟨l.b,l.p+i*e.2.esz+off,none⟩)
 | .own o,v=>v.oneCell'=true/\ ∀e,S.h o=some e->match S.ρ o with
  |none=>v= .slice none 0 0
  |some l=>v= .slice (some ⟨l.b,l.p,none⟩) e.2.len l.cap
 | .mp o,v=>v.oneCell'=true/\ ∀e,S.h o=some e-> ∃l,S.ρ o=some l/\v= .map (some l.b)
 | .ch o,v=>v.oneCell'=true/\ ∀e,S.h o=some e-> ∃l,S.ρ o=some l/\v= .chan (some l.b)
 | .it o,v=>v.oneCell'=true/\ ∀e,S.h o=some e-> ∃l,S.ρ o=some l/\v= .pointer (some ⟨l.b,0,none⟩)
 | .osl o a n,v=>v.oneCell'=true/\ ∀e,S.h o=some e->Rs (S.ρ o) e.2.esz e.2.len a n v
 | .clo f first capt,v=> ∃a c:Array Value,v= .func (Xz f) a c/\AY S first a.toList/\AY S capt c.toList
def AY(S:A7):List AV->List Value->Prop
 |[],z=>z=[]
 |x::xs,z=> ∃v r,z=v::r/\Aa S x v/\AY S xs r
end
def Db(S:A7):List AV->List Value->Prop
 |[],_=>True
 |x::xs,z=> ∃v r,z=v::r/\Aa S x v/\Db S xs r
def Ce(S:A7)(k:Nat):List (List AV)->List Value->Prop
 |[],_=>True
 |r::G,z=>r.length=k/\Db S r z/\Ce S k G (z.drop k)
def UK(ok:Nat->Prop)(hp:Nat->Option Obj)(z:Array MapEntry)(G:Array Nat):Option (D×D)->Prop
 |none=>True
 |some (x,y)=> ∃st e,G.back? =some st/\z.find? (·.born==st)=some e/\rd ok hp x e.key/\rd ok hp y e.val
def Ap(S:A7)(l:Option G7):Ah->Prop
 | .cells T cs=> ∃O Q,l=some O/\O.p=0/\S.hp O.b=some (.cells Q T (0,0))/\AY S cs Q.toList
 | .arr T k rows=>rows.length<=KH/\match l with
  |none=>rows=[]
  |some O=>rows.length<=O.cap/\ ∃Q,S.hp O.b=some (.cells Q T (0,0))/\O.p+O.cap*k<=Q.size/\rdr S.ok S.hp k rows (Q.toList.drop O.p)
 | .arrA T k rows=>rows.length<=KH/\match l with
  |none=>rows=[]
  |some O=>rows.length<=O.cap/\ ∃Q,S.hp O.b=some (.cells Q T (0,0))/\O.p+O.cap*k<=Q.size/\Ce S k rows (Q.toList.drop O.p)
 | .map kt es=> ∃O z G,l=some O/\(∀e∈es,kt.fit e.1=true)/\S.hp O.b=some (.map z G)/\rde S.ok S.hp es z.toList/\
  (z.toList.map (·.born)).Nodup/\ ∀e∈z.toList,e.born<G
 | .chan q cap=> ∃O aa ad ac,l=some O/\S.hp O.b=some (.chan cap aa false ad ac false)/\rdl S.ok S.hp q aa.toList
 | .iter ab left=> ∃O mb z G Z,l=some O/\S.ok mb/\UK S.ok S.hp z Z ab/\S.hp mb=some (.map z G)/\
  S.hp O.b=some (.mapIter (some mb) G Z G)/\(z.toList.map (·.born)).Nodup/\(∀e∈z.toList,e.born<G)/\
  rde S.ok S.hp left (z.toList.filter λe=> !Z.contains e.born)
 | .view cs=> ∃O Q T fr,l=some O/\S.hp O.b=some (.cells Q T fr)/\rdp S.ok S.hp cs (Q.toList.drop O.p)
structure Bj where
 w:World
 M:Nat->Prop
 ok:Nat->Prop
 n0:Nat
 h0:Nat->Option Aq
 ρ0:Nat->Option G7
 ds:List Deferred
def Bj.mk0(w:World)(M ok:Nat->Prop):Bj:=⟨w,M,ok,0,λ_=>none,λ_=>none,[]⟩
def Bj.Pre(C:Bj)(S:A7):Prop:= ∀o,o<C.n0-> ∀e',S.h o=some e'-> ∃e,C.h0 o=some e/\S.ρ o=C.ρ0 o/\e'.2.esz=e.2.esz/\e'.2.len=e.2.len
structure Wf(C:Bj)(S:A7):Prop where
 os:S.w.os=C.w.os
 tape:S.w.tape=C.w.tape
 output:S.w.output=C.w.output
 size:C.w.heap.size<=S.w.heap.size
 keep: ∀b,b<C.w.heap.size-> ¬C.M b->S.w.heap[b]? =C.w.heap[b]?
 ok0: ∀b,C.ok b->S.ok b
 ok1: ∀b,S.ok b->C.ok b\/C.w.heap.size<=b\/C.M b
 oks: ∀b,S.ok b->b<S.w.heap.size
 obj: ∀o e,S.h o=some e->Ap S (S.ρ o) e.2
 loc: ∀o e l,S.h o=some e->S.ρ o=some l->l.b<S.w.heap.size/\if e.1 then ¬S.ok l.b/\(C.w.heap.size<=l.b\/C.M l.b) else S.ok l.b\/e.2.isView=true
 inj: ∀o o' e e' l l',S.h o=some e->S.h o'=some e'->S.ρ o=some l->S.ρ o'=some l'->l.b=l'.b->(e.1||e'.1)=true->o=o'
 gl:GP (λb=>C.ok b/\ ¬C.M b) (λb=>C.w.heap[b]?)
def Wf.gp{C:Bj}{S:A7}(h:Wf C S):GP S.ok S.hp:=by
 refine h.gl.mono λb o G z=>⟨h.ok0 b G.1,?_⟩
 have O:b<C.w.heap.size:=by
  apply Hc;intro hn
  have:C.w.heap[b]? =none:=Zd (by omega)
  rw[this] at z;cases z
 exact (h.keep b O G.2).trans z
def Wf.glN{C:Bj}{S:A7}(h:Wf C S){M:Nat->Prop}(G: ∀b,M b-> ¬S.ok b):GP (λb=>S.ok b/\ ¬M b) (λb=>S.w.heap[b]?):=
 h.gp.mono λb _ z Q=>⟨⟨z,λO=>G b O z⟩,Q⟩
mutual
def AV.bel(n:Nat):AV->Bool
 | .any=>true
 | .im _=>true
 | .agg z=>AL n z
 | .tup z=>AL n z
 | .ptr o _=>Nat.blt o n
 | .eptr o _ _=>Nat.blt o n
 | .own o=>Nat.blt o n
 | .mp o=>Nat.blt o n
 | .ch o=>Nat.blt o n
 | .it o=>Nat.blt o n
 | .osl o _ _=>Nat.blt o n
 | .clo _ a c=>AL n a && AL n c
def AL(n:Nat):List AV->Bool
 |[]=>true
 |x::r=>x.bel n && AL n r
end
mutual
def AV.nms:AV->List Nat
 | .any=>[]
 | .im _=>[]
 | .agg z=>AE z
 | .tup z=>AE z
 | .ptr o _=>[o]
 | .eptr o _ _=>[o]
 | .own o=>[o]
 | .mp o=>[o]
 | .ch o=>[o]
 | .it o=>[o]
 | .osl o _ _=>[o]
 | .clo _ a c=>AE a++AE c
def AE:List AV->List Nat
 |[]=>[]
 |x::r=>x.nms++AE r
end
def BJ:List (List AV)->List Nat
 |[]=>[]
 |x::r=>AE x++BJ r
def Ah.nms:Ah->List Nat
 | .cells _ z=>AE z
 | .arr _ _ _=>[]
 | .arrA _ _ rows=>BJ rows
 | .map _ _=>[]
 | .chan _ _=>[]
 | .iter _ _=>[]
 | .view _=>[]
structure BU(X:Nat->Prop)(S S':A7):Prop where
 ok: ∀b,S.ok b->S'.ok b/\S'.hp b=S.hp b
 nm: ∀o,X o-> ∀e',S'.h o=some e'-> ∃e,S.h o=some e/\S'.ρ o=S.ρ o/\e'.2.esz=e.2.esz/\e'.2.len=e.2.len
def BU.refl(X:Nat->Prop)(S:A7):BU X S S:=⟨λ_ h=>⟨h,rfl⟩,λ_ _ e' h=>⟨e',h,rfl,rfl,rfl⟩⟩
section
variable {X:Nat->Prop}{S S':A7}
mutual
def IT(hp:BU X S S'): ∀(x:AV) (v:Value),(∀o∈x.nms,X o)->Aa S x v->Aa S' x v
 | .any,_,_,_=>by simp only[Aa]
 | .im d,v,_,h=>by
   simp only[Aa] at h⊢;exact HC hp.ok d v h
 | .agg cs,v,G,h=>by
   simp only[Aa,AV.nms] at h G⊢;obtain⟨vs,rfl,h1⟩:=h;exact⟨vs,rfl,WU hp cs _ G h1⟩
 | .tup cs,v,G,h=>by
   simp only[Aa,AV.nms] at h G⊢;obtain⟨vs,rfl,h1⟩:=h;exact⟨vs,rfl,WU hp cs _ G h1⟩
 | .ptr o off,v,G,h=>by
   simp only[Aa,AV.nms,BN,Mq] at h G⊢;obtain⟨z,h⟩:=h;refine⟨z,?_⟩;intro e' O;obtain⟨e,Q,Z,_,_⟩:=hp.nm o G e' O;rw[Z];exact h e Q
 | .eptr o i off,v,G,h=>by
   simp only[Aa,AV.nms,BN,Mq] at h G⊢;obtain⟨z,h⟩:=h;refine⟨z,?_⟩;intro e' O;obtain⟨e,Q,Z,hz,_⟩:=hp.nm o G e' O;rw[Z,hz];exact h e Q
 | .own o,v,G,h=>by
   simp only[Aa,AV.nms,BN,Mq] at h G⊢;obtain⟨z,h⟩:=h;refine⟨z,?_⟩;intro e' O;obtain⟨e,Q,Z,_,hl⟩:=hp.nm o G e' O;rw[Z,hl];exact h e Q
 | .mp o,v,G,h=>by
   simp only[Aa,AV.nms,BN,Mq] at h G⊢;obtain⟨z,h⟩:=h;refine⟨z,?_⟩;intro e' O;obtain⟨e,Q,Z,_,_⟩:=hp.nm o G e' O;rw[Z];exact h e Q
 | .ch o,v,G,h=>by
   simp only[Aa,AV.nms,BN,Mq] at h G⊢;obtain⟨z,h⟩:=h;refine⟨z,?_⟩;intro e' O;obtain⟨e,Q,Z,_,_⟩:=hp.nm o G e' O;rw[Z];exact h e Q
 | .it o,v,G,h=>by
   simp only[Aa,AV.nms,BN,Mq] at h G⊢;obtain⟨z,h⟩:=h;refine⟨z,?_⟩;intro e' O;obtain⟨e,Q,Z,_,_⟩:=hp.nm o G e' O;rw[Z];exact h e Q
 | .osl o a n,v,G,h=>by
   simp only[Aa,AV.nms,BN,Mq] at h G⊢;obtain⟨z,h⟩:=h;refine⟨z,?_⟩;intro e' O;obtain⟨e,Q,Z,hz,hl⟩:=hp.nm o G e' O;rw[Z,hz,hl];exact h e Q
 | .clo f fi ca,v,G,h=>by
   simp only[Aa,AV.nms,B5] at h G⊢;obtain⟨a,c,rfl,h1,h2⟩:=h;exact⟨a,c,rfl,WU hp fi _ (λo ho=>G o (.inl ho)) h1,WU hp ca _ (λo ho=>G o (.inr ho)) h2⟩
def WU(hp:BU X S S'): ∀(xs:List AV) (vs:List Value),(∀o∈AE xs,X o)->AY S xs vs->AY S' xs vs
 |[],_,_,h=>by simpa only[AY] using h
 |x::xs,vs,G,h=>by
  simp only[AY,AE,B5] at h G⊢;obtain⟨v,r,rfl,O,Q⟩:=h;exact⟨v,r,rfl,IT hp x v (λo z=>G o (.inl z)) O,WU hp xs r (λo z=>G o (.inr z)) Q⟩
end
def Qq7(hp:BU X S S'): ∀(xs:List AV) (vs:List Value),(∀o∈AE xs,X o)->Db S xs vs->Db S' xs vs
 |[],_,_,_=>by simp only[Db]
 |x::xs,vs,G,h=>by
  simp only[Db,AE,B5] at h G⊢;obtain⟨v,r,rfl,O,Q⟩:=h;exact⟨v,r,rfl,IT hp x v (λo z=>G o (.inl z)) O,Qq7 hp xs r (λo z=>G o (.inr z)) Q⟩
def xL(hp:BU X S S')(k:Nat): ∀(z:List (List AV)) (vs:List Value),(∀o∈BJ z,X o)->Ce S k z vs->Ce S' k z vs
 |[],_,_,_=>by simp only[Ce]
 |r::z,vs,O,h=>by
  simp only[Ce,BJ,B5] at h O⊢;exact⟨h.1,Qq7 hp r vs (λo G=>O o (.inl G)) h.2.1,xL hp k z _ (λo G=>O o (.inr G)) h.2.2⟩
def Qly{ok ok':Nat->Prop}{hp hp':Nat->Option Obj}(h: ∀b,ok b->ok' b/\hp' b=hp b){z:Array MapEntry}{G:Array Nat}: ∀(l:Option (D×D)),UK ok hp z G l->UK ok' hp' z G l
 |none,_=>trivial
 |some (x,y),O=>by
  obtain⟨st,e,a,b,c,d⟩:=O;exact⟨st,e,a,b,HC h x _ c,HC h y _ d⟩
def Jp(hp:BU X S S'){l:Option G7}(hl: ∀z,l=some z->S'.hp z.b=S.hp z.b): ∀(e:Ah),(∀o∈e.nms,X o)->Ap S l e->Ap S' l e
 | .cells T cs,hx,h=>by
   simp only[Ap,Ah.nms] at h hx⊢;obtain⟨z,vs,G,Q,Z,h4⟩:=h;exact⟨z,vs,G,Q,(hl z G).trans Z,WU hp cs _ hx h4⟩
 | .arr T k rows,hx,h=>by
   simp only[Ap] at h⊢;refine⟨h.1,?_⟩;cases l with
   |none=>exact h.2
   |some z=>
    obtain⟨h0,G,vs,Q,Z,h4⟩:=h;exact⟨G,vs,(hl z rfl).trans Q,Z,dF hp.ok k rows _ h4⟩
 | .arrA T k rows,hx,h=>by
   simp only[Ap,Ah.nms] at h hx⊢;refine⟨h.1,?_⟩;cases l with
   |none=>exact h.2
   |some z=>
    obtain⟨h0,G,vs,Q,Z,h4⟩:=h;exact⟨G,vs,(hl z rfl).trans Q,Z,xL hp k rows _ hx h4⟩
 | .map kt es,_,h=>by
   simp only[Ap] at h⊢;obtain⟨z,aa,O,G,h0,Q,Z,h4⟩:=h;exact⟨z,aa,O,G,h0,(hl z G).trans Q,Me hp.ok es _ Z,h4⟩
 | .chan q cap,_,h=>by
   simp only[Ap] at h⊢;obtain⟨z,ag,af,ac,G,Q,Z⟩:=h;exact⟨z,ag,af,ac,G,(hl z G).trans Q,Mf hp.ok q _ Z⟩
 | .iter ab left,_,h=>by
   simp only[Ap] at h⊢;obtain⟨z,mb,aa,O,ad,G,Q,h0,Z,h4,h5,h6,h7⟩:=h;exact⟨z,mb,aa,O,ad,G,(hp.ok mb Q).1,Qly hp.ok ab h0,(hp.ok mb Q).2.trans Z,(hl z G).trans h4,h5,h6,Me hp.ok left _ h7⟩
 | .view cs,_,h=>by
   simp only[Ap] at h⊢;obtain⟨z,vs,T,fr,G,Q,Z⟩:=h;exact⟨z,vs,T,fr,G,(hl z G).trans Q,dD hp.ok cs _ Z⟩
end
inductive TK where
 |bool
 |str
 |ptr (e:TypeId)
 |int (k:IntKind)
 |slice (e:TypeId)
 |array (n:Nat) (e:TypeId)
 |struct (fs:List (Nat×Nat))
 |map (k e:TypeId)
 |other
structure TI where
 size:Nat
 bytes:Nat
 agg:Bool
 kind:TK
 zero:List D
def zD:Value->D
 | .bool b=> .bool b
 | .int k n=> .int k n
 | .string s=> .str s
 | .pointer none=> .nilp
 | .slice none _ _=> .sl true 0 []
 | .map none=> .nilm
 | .chan none=> .nilc
 | .nilFunc=> .nilf
 |_=> .nili
def fX:Value->Bool
 | .bool _| .int _ _| .string _| .pointer none| .slice none 0 0| .map none| .chan none| .nilFunc| .nilIface=>true
 |_=>false
def zOf:Bool->Option Value->List D
 |true,some (.agg z)=>bif z.toList.all fX then z.toList.map zD else []
 |false,some v=>bif fX v then [zD v] else []
 |_,_=>[]
def Pz:TypeDesc->Bool
 | .struct _| .array _ _=>true
 |_=>false
def FX(P:Program):TypeDesc->TK
 | .int k=> .int k
 | .slice e=> .slice e
 | .array n e=> .array n e
 | .struct z=>bif z.toList.all (λf=>(P.info? f.type).isSome) then .struct (z.toList.map λf=>(f.offset,((P.info? f.type).map (·.size)).getD 0)) else .other
 | .map k e=> .map k e
 | .bool=> .bool
 | .string=> .str
 | .pointer e=> .ptr e
 |_=> .other
def tI(P:Program)(t:TypeId):Option TI:=
 match P.info? t,P.underlying t with
 |some i,some u=>some {size:=i.size,bytes:=i.bytes,agg:=Pz u,kind:=FX P u,zero:=zOf (Pz u) i.zero}
 |_,_=>none
structure BD where
 use:List Nat:=[]
 kill:List Nat:=[]
 new:Au:=[]
 cnt:Nat:=0
structure A9 where
 tm:List (Nat×AV)
 h:Au
 nx:Nat
def AC:List (Nat×AV)->Nat->AV
 |[],_=> .any
 |(m,x)::r,n=>bif m==n then x else AC r n
def hget:Au->Nat->Option Aq
 |[],_=>none
 |(m,e)::r,n=>bif m==n then some e else hget r n
def Cg:Au->List Nat->Au
 |[],_=>[]
 |(m,e)::r,ks=>bif ks.contains m then Cg r ks else (m,e)::Cg r ks
def A9.put(s:A9)(dst:Option Nat)(x:AV):A9:=
 match dst with
 |some d=>⟨(d,x)::s.tm,s.h,s.nx⟩
 |none=>s
def A9.app(s:A9)(dst:Option Nat)(r:AV)(E:BD):A9:=
 (⟨s.tm,E.new++Cg s.h E.kill,s.nx+E.cnt⟩:A9).put dst r
def kD:Value->AV
 | .bool b=> .im (.bool b)
 | .int k n=> .im (.int k n)
 | .string s=> .im (.str s)
 | .pointer none=> .im .nilp
 | .slice none 0 0=> .im (.sl true 0 [])
 | .map none=> .im .nilm
 | .chan none=> .im .nilc
 | .nilFunc=> .im .nilf
 | .nilIface=> .im .nili
 |_=> .any
def Aw(tm:List (Nat×AV)):Operand->AV
 | .tmp t=>AC tm t
 | .const v=>kD v
 | .global g=> .im (.gp g)
 | .func f=>bif Nat.blt f 1000000000 then .im (.fn f [] []) else .any
def D.cells:D->List D
 | .agg ds=>ds
 | .int k n=>[.int k n]
 | .bool b=>[.bool b]
 | .str s=>[.str s]
 | .nilp=>[.nilp]
 | .nilf=>[.nilf]
 | .nili=>[.nili]
 | .nilc=>[.nilc]
 | .nilm=>[.nilm]
 | .tup z=>[.tup z]
 | .sl Q k rows=>[.sl Q k rows]
 | .ref z=>[.ref z]
 | .mp O G=>[.mp O G]
 | .fn f a c=>[.fn f a c]
 | .ifc t d=>[.ifc t d]
 | .gp g=>[.gp g]
 | .tok g=>[.tok g]
def AV.cells:AV->List AV
 | .im d=>d.cells.map .im
 | .agg z=>z
 | .any=>[]
 | .tup z=>[.tup z]
 | .ptr o p=>[.ptr o p]
 | .eptr o i p=>[.eptr o i p]
 | .own o=>[.own o]
 | .mp o=>[.mp o]
 | .ch o=>[.ch o]
 | .it o=>[.it o]
 | .osl o a n=>[.osl o a n]
 | .clo f a c=>[.clo f a c]
def D.one:D->Bool
 | .agg _| .tup _=>false
 | .int _ _| .bool _| .str _| .nilp| .nilf| .nili| .nilc| .nilm| .sl _ _ _| .ref _| .mp _ _| .fn _ _ _| .ifc _ _| .gp _| .tok _=>true
def AV.one:AV->Bool
 | .im d=>d.one
 | .agg _| .any| .tup _=>false
 | .ptr _ _| .eptr _ _ _| .own _| .mp _| .ch _| .it _| .osl _ _ _| .clo _ _ _=>true
def Mk:List AV->Bool
 |[]=>true
 |x::r=>x.one && Mk r
def AV.asD:AV->Option D
 | .im d=>some d
 | .agg _| .any| .tup _| .ptr _ _| .eptr _ _ _| .own _| .mp _| .ch _| .it _| .osl _ _ _| .clo _ _ _=>none
def Pj:Option D->Option (List D)->Option (List D)
 |some d,some ds=>some (d::ds)
 |some _,none=>none
 |none,_=>none
def Eo:List AV->Option (List D)
 |[]=>some []
 |x::r=>Pj x.asD (Eo r)
def aH(cs:List AV):Option (List D)->AV
 |some ds=> .im (.agg ds)
 |none=> .agg cs
def hdV:List AV->AV
 |[]=> .any
 |x::_=>x
def sL:List D->D
 |[]=> .nilp
 |x::_=>x
def nW(agg:Bool)(cs:List AV):AV:=
 bif agg then aH cs (Eo cs) else hdV cs
def fN(agg:Bool)(ds:List D):D:=bif agg then .agg ds else sL ds
def Cq{α:Type}(l:List α)(off:Nat)(x:List α):List α:=l.take off++x++l.drop (off+x.length)
abbrev Ai:=AV->BD->Prop
mutual
def D.beq:D->D->Bool
 | .int _ a,.int _ b=>a==b
 | .bool a,.bool b=>a==b
 | .str a,.str b=>a==b
 | .agg a,.agg b=>D.beql a b
 |_,_=>false
def D.beql:List D->List D->Bool
 |[],[]=>true
 |a::r,b::s=>D.beq a b && D.beql r s
 |_,_=>false
end
def lk:List (D×D)->D->Option D
 |[],_=>none
 |(k,v)::r,x=>bif D.beq x k then some v else lk r x
def Hp:List (D×D)->D->D->List (D×D)
 |[],x,y=>[(x,y)]
 |(k,v)::r,x,y=>bif D.beq x k then (x,y)::r else (k,v)::Hp r x y
def JE:List (D×D)->D->List (D×D)
 |[],_=>[]
 |(k,v)::r,x=>bif D.beq x k then r else (k,v)::JE r x
def dX(P:Program)(G:TypeId->Option KT):List Field->Nat->Option (List KK)
 |[],_=>some []
 |f::O,off=>
  match G f.type,P.info? f.type with
  |some z,some i=>
   bif f.offset==off && (f.name != "_" && i.size==z.ks.length) then (dX P G O (off+z.ks.length)).map (z.ks++ ·) else none
  |_,_=>none
def Bw(P:Program):Nat->TypeId->Option KT
 |0,_=>none
 |n+1,t=>
  match P.underlying t with
  |some (.int k)=>some ⟨false,[.int k]⟩
  |some .string=>some ⟨false,[.str]⟩
  |some .bool=>some ⟨false,[.bool]⟩
  |some (.struct z)=>bif P.stoodInHeld t then none else (dX P (Bw P n) z.toList 0).map (⟨true,·⟩)
  |_=>none
def Cb(P:Program)(t:TypeId):Option KT:=Bw P 5 t
def Ky{α:Type}(rows:List (List α))(i:Nat)(K:List α->Prop):Prop:= ∀row,rows[i]? =some row->K row
def GL(es:List (D×D))(kd:D)(Ks:D->Prop)(Kn:Prop):Prop:=(∀v,lk es kd=some v->Ks v)/\(lk es kd=none->Kn)
def kZ(ti:TI)(off:Nat)(E:BD)(K:Ai)(row:List D):Prop:=(ti.agg=true\/ti.size=1)/\off+ti.size<=row.length/\K (.im (fN ti.agg ((row.drop off).take ti.size))) E
def Qwr(ti:TI)(off:Nat)(E:BD)(K:Ai)(row:List AV):Prop:=(ti.agg=true\/ti.size=1)/\off+ti.size<=row.length/\K (nW ti.agg ((row.drop off).take ti.size)) E
def JQ(ti:TI)(o off:Nat)(K:Ai):Option Aq->Prop
 |some (_,.cells _ z)=>Qwr ti off {use:=[o]} K z
 |some (_,.view z)=>kZ ti off {use:=[o]} K z
 |_=>False
def JP(ti:TI)(o i off:Nat)(K:Ai):Option Aq->Prop
 |some (_,.arr _ _ rows)=>i<rows.length/\Ky rows i (kZ ti off {use:=[o]} K)
 |some (_,.arrA _ _ rows)=>i<rows.length/\Ky rows i (Qwr ti off {use:=[o]} K)
 |_=>False
def YM(h:Nat->Option Aq)(ti:TI)(K:Ai):AV->Prop
 | .im (.ref z)=>kZ ti 0 {} K z
 | .im (.gp g)=>isG g=true/\ti.size=1/\ti.agg=false/\K (.im (.tok g)) {}
 | .ptr o off=>JQ ti o off K (h o)
 | .eptr o i off=>JP ti o i off K (h o)
 |_=>False
def ZW(o i off k z:Nat)(T:TypeId)(rows:List (List D))(K:Ai)(row:List D):Option (List D)->Prop
 |some ds=>off+z<=row.length/\K .any {use:=[o],kill:=[o],new:=[(o,(true,.arr T k (rows.set i (Cq row off ds))))]}
 |none=>False
def Qxz(o i off k z:Nat)(T:TypeId)(rows:List (List D))(ds:Option (List D))(K:Ai)(row:List D):Prop:=ZW o i off k z T rows K row ds
def Qyo(o i off k z:Nat)(T:TypeId)(rows:List (List AV))(vs:List AV)(K:Ai)(row:List AV):Prop:=
 off+z<=row.length/\K .any {use:=[o],kill:=[o],new:=[(o,(true,.arrA T k (rows.set i (Cq row off vs))))]}
def Wv(ti:TI)(o off:Nat)(vs:List AV)(K:Ai):Option Aq->Prop
 |some (true,.cells T z)=>off+ti.size<=z.length/\K .any {use:=[o],kill:=[o],new:=[(o,(true,.cells T (Cq z off vs)))]}
 |_=>False
def Kh(ti:TI)(o i off:Nat)(vs:List AV)(K:Ai):Option Aq->Prop
 |some (true,.arr T k rows)=>i<rows.length/\Ky rows i (Qxz o i off k ti.size T rows (Eo vs) K)
 |some (true,.arrA T k rows)=>i<rows.length/\Ky rows i (Qyo o i off k ti.size T rows vs K)
 |_=>False
def xO(h:Nat->Option Aq)(ti:TI)(vs:List AV)(K:Ai):AV->Prop
 | .ptr o off=>Wv ti o off vs K (h o)
 | .eptr o i off=>Kh ti o i off vs K (h o)
 |_=>False
def Qri(h:Nat->Option Aq)(x v:AV)(K:Ai)(ti:TI):Prop:=
 ti.size≠0/\v.cells.length=ti.size/\Mk v.cells=true/\xO h ti v.cells K x
def SU(o:Nat)(x:AV)(K:Ai):Option Aq->Prop
 |some _=>K x {use:=[o]}
 |none=>False
def L5(h:Nat->Option Aq)(off:Nat)(K:Ai):AV->Prop
 | .im (.ref z)=>off<=z.length/\K (.im (.ref (z.drop off))) {}
 | .ptr o p=>SU o (.ptr o (p+off)) K (h o)
 | .eptr o i p=>SU o (.eptr o i (p+off)) K (h o)
 |_=>False
def Z8(h:Nat->Option Aq)(x:AV)(K:Ai):Option (Nat×Nat)->Prop
 |some (off,z)=>z≠0/\L5 h off K x
 |none=>False
def faK(h:Nat->Option Aq)(x:AV)(f:Nat)(K:Ai):TK->Prop
 | .struct z=>Z8 h x K z[f]?
 |_=>False
def Qhg(h:Nat->Option Aq)(x:AV)(f:Nat)(K:Ai)(ti:TI):Prop:=faK h x f K ti.kind
def kRef(K:Ai)(row:List D):Prop:=K (.im (.ref row)) {}
def MW(o:Nat)(n:Int)(K:Ai)(z:TI):Option Aq->Prop
 |some (_,.arr _ k rows)=>k=z.size/\0<=n/\n<(rows.length:Int)/\K (.eptr o n.toNat 0) {use:=[o]}
 |some (_,.arrA _ k rows)=>k=z.size/\0<=n/\n<(rows.length:Int)/\K (.eptr o n.toNat 0) {use:=[o]}
 |_=>False
def ZO(h:Nat->Option Aq)(n:Int)(K:Ai)(x:AV)(z:TI):Prop:=
 match x with
 | .im (.sl _ k rows)=>k=z.size/\0<=n/\n<(rows.length:Int)/\Ky rows n.toNat (kRef K)
 | .own o=>MW o n K z (h o)
 |_=>False
def MV(h:Nat->Option Aq)(m:Nat)(n:Int)(K:Ai)(x:AV)(z:TI):Prop:=
 match x with
 | .ptr o p=>0<=n/\n<(m:Int)/\SU o (.ptr o (p+n.toNat*z.size)) K (h o)
 | .im (.ref G)=>0<=n/\n<(m:Int)/\n.toNat*z.size<=G.length/\K (.im (.ref (G.drop (n.toNat*z.size)))) {}
 |_=>False
def Bs(f:TI->Prop):Option TI->Prop
 |some ti=>f ti
 |none=>False
def iaK(P:Program)(h:Nat->Option Aq)(x:AV)(n:Int)(K:Ai):TK->Prop
 | .slice e=>Bs (ZO h n K x) (tI P e)
 | .array m e=>Bs (MV h m n K x) (tI P e)
 |_=>False
def Qjp(P:Program)(h:Nat->Option Aq)(x:AV)(ti:TI)(K:Ai):AV->Prop
 | .im (.int _ n)=>iaK P h x n K ti.kind
 |_=>False
def UB(m:Nat)(n:Int)(cs:List D)(K:Ai)(z:TI):Prop:=
 (z.agg=true\/z.size=1)/\0<=n/\n<(m:Int)/\n.toNat*z.size+z.size<=cs.length/\K (.im (fN z.agg ((cs.drop (n.toNat*z.size)).take z.size))) {}
def fY(s:ByteArray)(i:Nat)(K:UInt8->Prop):Prop:= ∀c,s.data[i]? =some c->K c
def kCh(K:Ai)(c:UInt8):Prop:=K (.im (.int .u8 c.toNat)) {}
def ixK(P:Program)(n:Int)(K:Ai):TK->AV->Prop
 | .array m e,.im (.agg z)=>Bs (UB m n z K) (tI P e)
 | .str,.im (.str s)=>0<=n/\n<(s.size:Int)/\fY s n.toNat (kCh K)
 |_,_=>False
def Qxc(P:Program)(x:AV)(ti:TI)(K:Ai):AV->Prop
 | .im (.int _ n)=>ixK P n K ti.kind x
 |_=>False
def H4:BinOp->Nat
 | .shr=>1
 | .shl=>2
 | .add| .sub| .mul| .quo| .rem| .and| .or| .xor| .andNot| .eql| .neq| .lss| .leq| .gtr| .geq=>0
def Hd(k:IntKind)(a b:Int):Int:=k.wrap ((BitVec.ofInt k.bits a &&& BitVec.ofInt k.bits b).toNat:Int)
def orI(k:IntKind)(a b:Int):Int:=k.wrap ((BitVec.ofInt k.bits a|||BitVec.ofInt k.bits b).toNat:Int)
def xorI(k:IntKind)(a b:Int):Int:=k.wrap ((BitVec.ofInt k.bits a^^^BitVec.ofInt k.bits b).toNat:Int)
def Jt(op:BinOp)(k:IntKind)(a b:Int)(K:Ai):Prop:=
 match op with
 | .add=>K (.im (.int k (k.wrap (a+b)))) {}
 | .sub=>K (.im (.int k (k.wrap (a - b)))) {}
 | .mul=>K (.im (.int k (k.wrap (a*b)))) {}
 | .quo=>b≠0/\K (.im (.int k (k.wrap (a.tdiv b)))) {}
 | .rem=>b≠0/\K (.im (.int k (a.tmod b))) {}
 | .eql=>K (.im (.bool (decide (a=b)))) {}
 | .neq=>K (.im (.bool (!decide (a=b)))) {}
 | .lss=>K (.im (.bool (decide (a<b)))) {}
 | .leq=>K (.im (.bool (decide (a<=b)))) {}
 | .gtr=>K (.im (.bool (decide (b<a)))) {}
 | .geq=>K (.im (.bool (decide (b<=a)))) {}
 | .and=>K (.im (.int k (Hd k a b))) {}
 | .or=>K (.im (.int k (orI k a b))) {}
 | .xor=>K (.im (.int k (xorI k a b))) {}
 |_=>False
def fB(neg:Bool)(K:Ai)(b:Bool):Prop:=K (.im (.bool (neg !=b))) {}
def TW(neg:Bool)(K:Ai):AV->Prop
 | .im (.sl true _ rows)=>fB neg K rows.isEmpty
 |_=>False
def zR(h:Nat->Option Aq)(neg:Bool)(K:Ai):AV->Prop
 | .im .nilp=>fB neg K true
 | .im (.ref _)=>fB neg K false
 | .ptr o _=>SU o (.im (.bool neg)) K (h o)
 | .eptr o _ _=>SU o (.im (.bool neg)) K (h o)
 |_=>False
def XD(h:Nat->Option Aq)(neg:Bool)(K:Ai):AV->Prop
 | .im .nilm=>fB neg K true
 | .im (.mp _ _)=>fB neg K false
 | .mp o=>SU o (.im (.bool neg)) K (h o)
 |_=>False
def YH(h:Nat->Option Aq)(neg:Bool)(K:Ai)(x:AV):Nat->TK->Prop
 |0,.slice _=>TW neg K x
 |1,.ptr _=>zR h neg K x
 |2,.map _ _=>XD h neg K x
 |_,_=>False
def OF(op:BinOp)(a b:ByteArray)(K:Ai):Prop:=
 match op with
 | .eql=>K (.im (.bool (decide (a=b)))) {}
 | .neq=>K (.im (.bool (!decide (a=b)))) {}
 | .add=>a.size+b.size<=9223372036854775807/\K (.im (.str (a++b))) {}
 |_=>False
def Kl(op:BinOp)(a b:Bool)(K:Ai):Prop:=
 match op with
 | .eql=>K (.im (.bool (a==b))) {}
 | .neq=>K (.im (.bool (a !=b))) {}
 |_=>False
def Oi(op:BinOp)(a b:Bool)(K:Ai):Option TI->Prop
 |some ti=>ti.kind= .bool/\Kl op a b K
 |none=>False
def zE(op:BinOp)(a b:List D)(K:Ai):Prop:=
 match op with
 | .eql=>K (.im (.bool (D.beql a b))) {}
 | .neq=>K (.im (.bool (!D.beql a b))) {}
 |_=>False
def yY(P:Program)(T:TypeId)(op:BinOp)(a b:List D)(K:Ai):Option KT->Prop
 |some z=>z.fit (.agg a)=true/\z.fit (.agg b)=true/\P.eqGuardType P.depth T=false/\zE op a b K
 |none=>False
def dP(op:BinOp)(k:IntKind)(a:Int)(k':IntKind)(b:Int)(K:Ai):Nat->Prop
 |0=>k=k'/\Jt op k a b K
 |1=>0<=b/\K (.im (.int k (a.fdiv (2^min b.toNat k.bits)))) {}
 |_+2=>0<=b/\K (.im (.int k (k.wrap (a*2^min b.toNat k.bits)))) {}
def lI(P:Program)(T:TypeId)(op:BinOp)(K:Ai):AV->AV->Prop
 | .im (.int k a),.im (.int k' b)=>dP op k a k' b K (H4 op)
 | .im (.str a),.im (.str b)=>OF op a b K
 | .im (.bool a),.im (.bool b)=>Oi op a b K (tI P T)
 | .im (.agg a),.im (.agg b)=>yY P T op a b K (Cb P T)
 |_,_=>False
def cC(K:Ai):UnOp->AV->Prop
 | .not,.im (.bool b)=>K (.im (.bool (!b))) {}
 | .neg,.im (.int k n)=>K (.im (.int k (k.wrap (-n)))) {}
 |_,_=>False
def dV(cells:List AV)(vs:List AV):Option (Nat×Nat)->Option (List AV)
 |none=>none
 |some (off,size)=>bif vs.length==size && (Nat.blt 0 size && Nat.ble (off+size) cells.length) then some (Cq cells off vs) else none
def Iy(place:Nat->Option (Nat×Nat)):List (Nat×AV)->Option (List AV)->Option (List AV)
 |[],r=>r
 |_::_,none=>none
 |(i,v)::z,some cells=>Iy place z (dV cells v.cells (place i))
def Ka(k i:Nat):Option (Nat×Nat):=some (i*k,k)
def NE(z:List (Nat×Nat))(i:Nat):Option (Nat×Nat):=z[i]?
def OA(K:Ai):Option (List AV)->Prop
 |some z=>K (nW true z) {}
 |none=>False
def Tc(O:List AV)(z:List (Nat×AV))(K:Ai)(G:TI):Prop:=OA K (Iy (Ka G.size) z (some O))
def bdK(P:Program)(G:List AV)(z:List (Nat×AV))(K:Ai):TK->Prop
 | .struct O=>OA K (Iy (NE O) z (some G))
 | .array _ e=>Bs (Tc G z K) (tI P e)
 |_=>False
def Qsy(P:Program)(z:List (Nat×AV))(K:Ai)(ti:TI):Prop:=ti.zero.length=ti.size/\ti.size≠0/\bdK P (ti.zero.map .im) z K ti.kind
def IU{α:Type}(k:Nat):Nat->List α->List (List α)
 |0,_=>[]
 |n+1,l=>l.take k::IU k n (l.drop k)
def Cv{α:Type}:Nat->List α->List α
 |0,_=>[]
 |n+1,z=>z++Cv n z
def JA(nx len e k:Nat)(cs:List AV)(K:Ai):Option (List D)->Prop
 |some ds=>K (.own nx) {new:=[(nx,(true,.arr e k (IU k len ds)))],cnt:=1}
 |none=>K (.own nx) {new:=[(nx,(true,.arrA e k (IU k len cs)))],cnt:=1}
def Mz(nx len e k:Nat)(K:Ai):Option (List AV)->Prop
 |some z=>JA nx len e k z K (Eo z)
 |none=>False
def bsE(nx len e:Nat)(z:List (Nat×AV))(K:Ai)(G:TI):Prop:=
 G.zero.length=G.size/\G.size≠0/\len*G.size<=16777216/\Mz nx len e G.size K (Iy (Ka G.size) z (some (Cv len (G.zero.map .im))))
def bsK(P:Program)(nx len:Nat)(z:List (Nat×AV))(K:Ai):TK->Prop
 | .slice e=>Bs (bsE nx len e z K) (tI P e)
 |_=>False
def Qfp(P:Program)(nx len:Nat)(z:List (Nat×AV))(K:Ai)(ti:TI):Prop:=bsK P nx len z K ti.kind
def msE(nx e:Nat)(n m:Int)(K:Ai)(z:TI):Prop:=
 z.size≠0/\0<=n/\n<=m/\m<=1073741824/\z.bytes<=65536/\z.zero.length=z.size/\
  K (.own nx) {new:=[(nx,(true,.arr e z.size (List.replicate n.toNat z.zero)))],cnt:=1}
def msK(P:Program)(nx:Nat)(K:Ai):TK->AV->AV->Prop
 | .slice e,.im (.int .i64 n),.im (.int .i64 m)=>Bs (msE nx e n m K) (tI P e)
 |_,_,_=>False
def Qhl(P:Program)(nx:Nat)(l c:AV)(K:Ai)(ti:TI):Prop:=msK P nx K ti.kind l c
inductive Src where
 |d (u:List Nat) (k:Nat) (rows:List (List D))
 |a (u:List Nat) (k:Nat) (rows:List (List AV))
 |no
def dS(o:Nat):Option Aq->Src
 |some (_,.arr _ k rows)=> .d [o] k rows
 |some (_,.arrA _ k rows)=> .a [o] k rows
 |_=> .no
def En(h:Nat->Option Aq):AV->Src
 | .im (.sl _ k rows)=> .d [] k rows
 | .own o=>dS o (h o)
 |_=> .no
def Bo(rows:List (List D)):List (List AV):=rows.map λr=>r.map .im
def B8:List D->Bool
 |[]=>true
 |x::r=>x.one && B8 r
def B7{α:Type}(f:List α->Bool)(rows:List (List α)):Prop:= ∀row∈rows,f row=true
def Src.okOne:Src->Prop
 | .d _ _ rows=>B7 B8 rows
 | .a _ _ rows=>B7 Mk rows
 | .no=>False
def O7(nx e:Nat)(z:TI)(K:Ai):Src->Prop
 | .d u k rows=>(k=z.size\/rows=[])/\(rows.length+512)*z.bytes<=140737488355328/\K (.own nx) {use:=u,new:=[(nx,(true,.arr e z.size rows))],cnt:=1}
 | .a u k rows=>k=z.size/\(rows.length+512)*z.bytes<=140737488355328/\K (.own nx) {use:=u,kill:=u,new:=[(nx,(true,.arrA e z.size rows))],cnt:=1}
 | .no=>False
def sH(nx e o:Nat)(z:TI)(rows0:List (List D))(K:Ai):Src->Prop
 | .d u k rows=>(k=z.size\/rows=[])/\u≠[o]/\(rows0.length+rows.length+512)*z.bytes<=140737488355328/\
  K (.own nx) {use:=o::u,kill:=[o],new:=[(nx,(true,.arr e z.size (rows0++rows)))],cnt:=1}
 | .a u k rows=>k=z.size/\u≠[o]/\(rows0.length+rows.length+512)*z.bytes<=140737488355328/\
  K (.own nx) {use:=o::u,kill:=o::u,new:=[(nx,(true,.arrA e z.size (Bo rows0++rows)))],cnt:=1}
 | .no=>False
def sG(nx e o:Nat)(z:TI)(rows0:List (List AV))(K:Ai):Src->Prop
 | .d u k rows=>(k=z.size\/rows=[])/\u≠[o]/\(rows0.length+rows.length+512)*z.bytes<=140737488355328/\
  K (.own nx) {use:=o::u,kill:=[o],new:=[(nx,(true,.arrA e z.size (rows0++Bo rows)))],cnt:=1}
 | .a u k rows=>k=z.size/\u≠[o]/\(rows0.length+rows.length+512)*z.bytes<=140737488355328/\
  K (.own nx) {use:=o::u,kill:=o::u,new:=[(nx,(true,.arrA e z.size (rows0++rows)))],cnt:=1}
 | .no=>False
def J8(nx e o:Nat)(G:TI)(src:Src)(K:Ai):Option Aq->Prop
 |some (true,.arr T k z)=>T=e/\k=G.size/\sH nx e o G z K src
 |some (true,.arrA T k z)=>T=e/\k=G.size/\sG nx e o G z K src
 |_=>False
def SX(h:Nat->Option Aq)(nx e:Nat)(z:TI)(src:Src)(K:Ai):AV->Prop
 | .im (.sl true _ [])=>O7 nx e z K src
 | .own o=>J8 nx e o z src K (h o)
 |_=>False
def apE(h:Nat->Option Aq)(nx e:Nat)(s:AV)(src:Src)(K:Ai)(z:TI):Prop:=
 z.size≠0/\z.zero.length=z.size/\z.bytes≠0/\src.okOne/\SX h nx e z src K s
def apK(P:Program)(h:Nat->Option Aq)(nx:Nat)(s:AV)(src:Src)(K:Ai):TK->Prop
 | .slice e=>Bs (apE h nx e s src K) (tI P e)
 |_=>False
def Qsl(P:Program)(h:Nat->Option Aq)(nx:Nat)(s x:AV)(K:Ai)(ti:TI):Prop:=apK P h nx s (En h x) K ti.kind
def G1(K:Ai)(E:BD)(n:Nat):Prop:=K (.im (.int .i64 n)) E
def Qxr(z:Bool)(o:Nat)(K:Ai):Option Aq->Prop
 |some (_,.arr _ _ rows)=>(z=true->rows.length<=140737488355328)->G1 K {use:=[o]} rows.length
 |some (_,.arrA _ _ rows)=>(z=true->rows.length<=140737488355328)->G1 K {use:=[o]} rows.length
 |_=>False
def Nk(o:Nat)(K:Ai):Option Aq->Prop
 |some (_,.map _ z)=>G1 K {use:=[o]} z.length
 |_=>False
def nQ(o n:Nat)(K:Ai):Option Aq->Prop
 |some _=>G1 K {use:=[o]} n
 |none=>False
def lH(z:Bool)(h:Nat->Option Aq)(K:Ai):AV->Prop
 | .osl o _ n=>nQ o n K (h o)
 | .im (.sl _ _ rows)=>(z=true->rows.length<=140737488355328)->G1 K {} rows.length
 | .own o=>Qxr z o K (h o)
 |_=>False
def UM(K:Ai):AV->Prop
 | .im (.str s)=>G1 K {} s.size
 |_=>False
def zW(h:Nat->Option Aq)(K:Ai):AV->Prop
 | .im (.mp _ z)=>G1 K {} z.length
 | .im .nilm=>G1 K {} 0
 | .mp o=>Nk o K (h o)
 |_=>False
def FS(z:Bool)(h:Nat->Option Aq)(K:Ai)(x:AV):TK->Prop
 | .slice _=>lH z h K x
 | .str=>UM K x
 | .map _ _=>zW h K x
 | .bool| .ptr _| .int _| .array _ _| .struct _| .other=>False
def lM(z:Bool)(h:Nat->Option Aq)(x:AV)(K:Ai)(ti:TI):Prop:=FS z h K x ti.kind
def Qy3(ok:Bool)(E:BD)(K:Ai)(v:D):Prop:=K (bif ok then .tup [.im v,.im (.bool true)] else .im v) E
def JN(z:TI)(ok:Bool)(E:BD)(K:Ai):Prop:=z.zero.length=z.size/\(z.agg=true\/z.size=1)/\z.size≠0/\K (bif ok then .tup [.im (fN z.agg z.zero),.im (.bool false)] else .im (fN z.agg z.zero)) E
def UY(o:Nat)(O:KT)(kd:D)(ok:Bool)(Q:TI)(K:Ai):Option Aq->Prop
 |some (_,.map z G)=>z=O/\GL G kd (Qy3 ok {use:=[o]} K) (JN Q ok {use:=[o]} K)
 |_=>False
def lN(h:Nat->Option Aq)(O:KT)(kd:D)(ok:Bool)(G:TI)(K:Ai):AV->Prop
 | .im (.mp z Q)=>z=O/\GL Q kd (Qy3 ok {} K) (JN G ok {} K)
 | .im .nilm=>JN G ok {} K
 | .mp o=>UY o O kd ok G K (h o)
 |_=>False
def aG(h:Nat->Option Aq)(m:AV)(kd:D)(ok:Bool)(K:Ai)(G:TI):Option KT->Prop
 |some z=>z.fit kd=true/\lN h z kd ok G K m
 |none=>False
def luE(P:Program)(h:Nat->Option Aq)(m:AV)(kd:D)(ok:Bool)(K:Ai)(k:TypeId)(z:TI):Prop:=aG h m kd ok K z (Cb P k)
def luK(P:Program)(h:Nat->Option Aq)(m:AV)(ok:Bool)(K:Ai):TK->AV->Prop
 | .map k e,.im z=>Bs (luE P h m z ok K k) (tI P e)
 |_,_=>False
def Qnn(P:Program)(h:Nat->Option Aq)(m k:AV)(ok:Bool)(K:Ai)(ti:TI):Prop:=luK P h m ok K ti.kind k
def Vj(o:Nat)(z:KT)(kd Q:D)(K:Ai):Option Aq->Prop
 |some (true,.map G O)=>G=z/\z.fit kd=true/\K .any {use:=[o],kill:=[o],new:=[(o,(true,.map z (Hp O kd Q)))]}
 |_=>False
def Vi(h:Nat->Option Aq)(o:Nat)(kd G:D)(K:Ai):Option KT->Prop
 |some z=>Vj o z kd G K (h o)
 |none=>False
def LH(P:Program)(h:Nat->Option Aq)(o:Nat)(kd z:D)(K:Ai):TK->Prop
 | .map k _=>Vi h o kd z K (Cb P k)
 | .bool| .str| .ptr _| .int _| .array _ _| .struct _| .slice _| .other=>False
def muF(n:Nat)(e:Ah)(K:Ai)(r:AV)(E:BD):Prop:=E.kill.contains n=false/\K r {use:=n::E.use,kill:=n::E.kill,new:=E.new++[(n,(false,e))],cnt:=E.cnt}
def Vk(P:Program)(h:Nat->Option Aq)(o n:Nat)(kd:D)(K:Ai)(z:TK):Option Aq->Prop
 |some (_,.arr T k rows)=>(o==n)=false/\LH P h o kd (.sl false k rows) (muF n (.arr T k rows) K) z
 |_=>False
def pQ(P:Program)(h:Nat->Option Aq)(K:Ai)(m k v:AV)(ti:TI):Prop:=
 match m,k,v with
 | .mp o,.im z,.im G=>LH P h o z G K ti.kind
 | .mp o,.im z,.own n=>Vk P h o n z K ti.kind (h n)
 |_,_,_=>False
def TL(o:Nat)(z:KT)(kd:D)(K:Ai):Option Aq->Prop
 |some (true,.map G O)=>G=z/\z.fit kd=true/\K .any {use:=[o],kill:=[o],new:=[(o,(true,.map z (JE O kd)))]}
 |_=>False
def Zx(h:Nat->Option Aq)(o:Nat)(kd:D)(K:Ai):Option KT->Prop
 |some z=>TL o z kd K (h o)
 |none=>False
def TJ(P:Program)(h:Nat->Option Aq)(o:Nat)(kd:D)(K:Ai):TK->Prop
 | .map k _=>Zx h o kd K (Cb P k)
 | .bool| .str| .ptr _| .int _| .array _ _| .struct _| .slice _| .other=>False
def Qni(P:Program)(h:Nat->Option Aq)(K:Ai)(m k:AV)(ti:TI):Prop:=
 match m,k with
 | .mp o,.im z=>TJ P h o z K ti.kind
 |_,_=>False
def exA(K:Ai):Option AV->Prop
 |some c=>K c {}
 |none=>False
def exD(K:Ai):Option D->Prop
 |some d=>K (.im d) {}
 |none=>False
def pS(i:Nat)(K:Ai):AV->Prop
 | .tup z=>exA K z[i]?
 | .im (.tup ds)=>exD K ds[i]?
 |_=>False
def pT(h:Nat->Option Aq)(K:Ai):AV->Prop
 | .im (.ref z)=>K (.im (.ref z)) {}
 | .im (.ifc t d)=>K (.im (.ifc t d)) {}
 | .ptr o p=>SU o (.ptr o p) K (h o)
 | .eptr o i p=>SU o (.eptr o i p) K (h o)
 |_=>False
abbrev D6:=FuncId->List AV->(Nat->Option Aq)->Nat->Ai->Prop
def Sb(V:D6)(args:List AV)(h:Nat->Option Aq)(nx:Nat)(K:Ai):AV->Prop
 | .im (.fn g first capt)=>V g ((first.map .im)++args++(capt.map .im)) h nx K
 | .clo g first capt=>V g (first++args++capt) h nx K
 |_=>False
def RQ:Option TI->Option TK
 |some ti=>some ti.kind
 |none=>none
def Qjk(nx e:Nat)(K:Ai)(z:TI):Prop:=K (.own nx) {new:=[(nx,(true,.arr e z.size []))],cnt:=1}
def Qg6(P:Program)(nx:Nat)(K:Ai):Option TK->Prop
 |some (.slice e)=>Bs (Qjk nx e K) (tI P e)
 |_=>False
def Sx:Value->Bool
 | .slice none 0 0=>true
 |_=>false
def Y9:Operand->Bool
 | .const v=>Sx v
 | .tmp _| .global _| .func _=>false
def Qk7(P:Program)(nx:Nat)(T:TypeId)(v:AV)(K:Ai):Bool->Prop
 |true=>Qg6 P nx K (RQ (tI P T))
 |false=>K v {}
def Qm9(P:Program)(tm:List (Nat×AV))(nx:Nat)(T:TypeId)(K:Ai)(x:Operand):Prop:=Qk7 P nx T (Aw tm x) K (Y9 x && !(T==246))
def ND(c:Bool)(K:Ai)(a b:AV):Prop:=(c=true->K a {})/\(c=false->K b {})
def Qzp(a b:AV)(K:Ai):AV->Prop
 | .im (.bool c)=>ND c K a b
 |_=>False
def Qsv(nx T:Nat)(K:Ai)(ti:TI):Prop:=ti.zero.length=ti.size/\ti.size≠0/\K (.ptr nx 0) {new:=[(nx,(true,.cells T (ti.zero.map .im)))],cnt:=1}
def WE(nx T:Nat)(K:Ai)(cs:List AV):Prop:=cs≠[]/\K (.ptr nx 0) {new:=[(nx,(true,.cells T cs))],cnt:=1}
def G2:Value->Nat
 | .slice none 0 0=>1
 | .pointer none=>2
 | .map none=>3
 | .nilIface=>4
 |_=>0
def FT:Operand->Nat
 | .const v=>G2 v
 | .tmp _| .global _| .func _=>0
def qL(h:Nat->Option Aq)(op:BinOp)(x:AV)(K:Ai)(n:Nat)(ti:TI):Prop:=
 match op with
 | .eql=>YH h false K x n ti.kind
 | .neq=>YH h true K x n ti.kind
 |_=>False
def U6(P:Program)(T:TypeId):Bool:=match P.underlying T with
 |some (.interface _)=>true
 |_=>false
def fG(P:Program)(T:TypeId):Bool:=match P.underlying T with
 |some (.interface _)=>false
 |some _=>true
 |none=>false
def fM(P:Program)(t:TypeId)(name:String):Option FuncId:=
 match P.info? t with
 |some i=>match i.methods.find? (·.name==name) with
  |some m=>bif m.path.isEmpty then (match m.func with
   |some (f,false)=>some f
   |_=>none) else none
  |none=>none
 |none=>none
def Yb(P:Program)(t:TypeId)(name:String):Option FuncId:=
 match P.underlying t with
 |some (.pointer _)=>none
 |some _=>fM P t name
 |none=>none
def Sh(neg:Bool)(K:Ai):AV->Prop
 | .im .nili=>fB neg K true
 | .im (.ifc _ _)=>fB neg K false
 |_=>False
def Yi(P:Program)(T:TypeId)(op:BinOp)(x:AV)(K:Ai):Prop:=
 U6 P T=true/\match op with
 | .eql=>Sh false K x
 | .neq=>Sh true K x
 |_=>False
def WF(P:Program)(T:TypeId)(K:Ai):AV->Prop
 | .im d=>fG P T=true/\K (.im (.ifc T d)) {}
 |_=>False
def Yh(V:D6)(args:List AV)(h:Nat->Option Aq)(nx:Nat)(K:Ai)(d:D):Option FuncId->Prop
 |some f=>V f (.im d::args) h nx K
 |none=>False
def Oj(P:Program)(V:D6)(args:List AV)(h:Nat->Option Aq)(nx:Nat)(K:Ai)(m:String):AV->Prop
 | .im (.ifc t d)=>Yh V args h nx K d (Yb P t m)
 |_=>False
def dZ(P:Program)(T:TypeId)(h:Nat->Option Aq)(op:BinOp)(x y:AV)(K:Ai):Nat->Prop
 |0=>lI P T op K x y
 |1=>Bs (qL h op x K 0) (tI P T)
 |2=>Bs (qL h op x K 1) (tI P T)
 |3=>Bs (qL h op x K 2) (tI P T)
 |_+4=>Yi P T op x K
def LR:Option TK->Ai->AV->Prop
 |some (.int k),K,.im (.int _ n)=>K (.im (.int k (k.wrap n))) {}
 |_,_,_=>False
def yV(t:Option TK)(x:AV)(K:Ai):Option TI->Prop
 |some _=>LR t K x
 |none=>False
def Il:List (List D)->Option (List Int)
 |[]=>some []
 |[.int .u8 n]::r=>(Il r).map (n:: ·)
 |_=>none
def Ko(z:List Int):ByteArray:=⟨(z.map λn=>UInt8.ofNat n.toNat).toArray⟩
def M1(u:List Nat)(K:Ai):Option (List Int)->Prop
 |some z=>K (.im (.str (Ko z))) {use:=u}
 |none=>False
def Tp(o:Nat)(K:Ai):Option Aq->Prop
 |some (_,.arr _ k rows)=>k=1/\M1 [o] K (Il rows)
 |_=>False
def mO(h:Nat->Option Aq)(K:Ai):AV->Prop
 | .own o=>Tp o K (h o)
 |_=>False
def mP(h:Nat->Option Aq)(K:Ai)(x:AV):Option TK->Prop
 |some (.int .u8)=>mO h K x
 |_=>False
def mQ(P:Program)(h:Nat->Option Aq)(K:Ai)(x:AV):TK->Prop
 | .slice e=>mP h K x (RQ (tI P e))
 |_=>False
def JB(P:Program)(h:Nat->Option Aq)(K:Ai)(x:AV):Option TI->Prop
 |some z=>mQ P h K x z.kind
 |none=>False
def TK.isStr:TK->Bool
 | .str=>true
 | .bool| .ptr _| .int _| .array _ _| .struct _| .map _ _| .slice _| .other=>false
def isStr:Option TK->Bool
 |some t=>t.isStr
 |none=>false
def XK(P:Program)(h:Nat->Option Aq)(t:Option TK)(x:AV)(K:Ai)(s:Option TI):Prop:=if isStr t=true then JB P h K x s else yV t x K s
def Ol(K:Ai):AV->AV->Prop
 | .im (.int k a),.im (.int k' b)=>k=k'/\K (.im (.int k (max a b))) {}
 |_,_=>False
def TK.isSl:TK->Bool
 | .slice _=>true
 | .bool| .str| .ptr _| .int _| .array _ _| .struct _| .map _ _| .other=>false
def Qlj(P:Program)(h:Nat->Option Aq)(nx:Nat)(s x:AV)(T:TypeId)(K:Ai)(z:TI):Prop:=z.kind.isSl=true/\Bs (Qsl P h nx s x K) (tI P T)
def Ed(tm:List (Nat×AV)):Option Operand->Option AV
 |none=>none
 |some x=>some (Aw tm x)
def HP(z:Nat):Option AV->Option Int
 |none=>some z
 |some (.im (.int _ n))=>some n
 |some _=>none
def Wx(k:Nat)(rows:List (List D))(K:Ai):Option Int->Option Int->Prop
 |some l,some m=>0<=l/\l<=m/\m<=(rows.length:Int)/\K (.im (.sl false k ((rows.drop l.toNat).take (m - l).toNat))) {}
 |some _,none=>False
 |none,_=>False
def Kj(s:ByteArray)(K:Ai):Option Int->Option Int->Prop
 |some l,some m=>0<=l/\l<=m/\m<=(s.size:Int)/\K (.im (.str (s.extract l.toNat m.toNat))) {}
 |some _,none=>False
 |none,_=>False
def zS(o nx:Nat)(z:Bool)(T k:Nat)(rows:List (List D))(a n:Nat)(K:Ai):Bool->Prop
 |false=>K (.osl o a n) {use:=[o]}
 |true=>z=true/\K (.own nx) {use:=[o],kill:=[o],new:=[(nx,(true,.arr T k ((rows.drop a).take n)))],cnt:=1}
def Kk(o nx:Nat)(z:Bool)(T k:Nat)(rows:List (List D))(K:Ai):Option Int->Option Int->Prop
 |some l,some m=>0<=l/\l<=m/\m<=(rows.length:Int)/\ ∃G,zS o nx z T k rows l.toNat (m - l).toNat K G
 |some _,none=>False
 |none,_=>False
def Wy(o nx:Nat)(O:TI)(lo z:Option AV)(K:Ai):Option Aq->Prop
 |some (G,.arr T k rows)=>k=O.size/\Kk o nx G T k rows K (HP 0 lo) (HP rows.length z)
 |_=>False
def slE(h:Nat->Option Aq)(nx:Nat)(lo z:Option AV)(K:Ai)(x:AV)(G:TI):Prop:=
 match x with
 | .im (.sl _ k rows)=>(k=G.size\/rows=[])/\Wx k rows K (HP 0 lo) (HP rows.length z)
 | .own o=>Wy o nx G lo z K (h o)
 |_=>False
def pB(x:AV)(lo z:Option AV)(K:Ai):Prop:=
 match x with
 | .im (.str s)=>Kj s K (HP 0 lo) (HP s.size z)
 |_=>False
def RN(P:Program)(h:Nat->Option Aq)(nx:Nat)(x:AV)(lo z:Option AV)(K:Ai):TK->Prop
 | .slice e=>Bs (slE h nx lo z K x) (tI P e)
 | .str=>pB x lo z K
 | .bool| .ptr _| .int _| .array _ _| .struct _| .map _ _| .other=>False
def Qsm(P:Program)(h:Nat->Option Aq)(nx:Nat)(x:AV)(lo z:Option AV)(K:Ai)(ti:TI):Prop:=RN P h nx x lo z K ti.kind
def mV(o:Nat):Option Aq->Option (List Nat×Nat×List (List D))
 |some (_,.arr _ k rows)=>some ([o],k,rows)
 |_=>none
def mW(o a n:Nat):Option Aq->Option (List Nat×Nat×List (List D))
 |some (_,.arr _ k rows)=>some ([o],k,(rows.drop a).take n)
 |_=>none
def lL(h:Nat->Option Aq):AV->Option (List Nat×Nat×List (List D))
 | .im (.sl _ k rows)=>some ([],k,rows)
 | .own o=>mV o (h o)
 | .osl o a n=>mW o a n (h o)
 |_=>none
def TE(o:Nat):Option Aq->Option (Nat×Nat×Nat×TypeId×Nat×List (List D))
 |some (true,.arr T k rows)=>some (o,0,rows.length,T,k,rows)
 |_=>none
def TF(o a n:Nat):Option Aq->Option (Nat×Nat×Nat×TypeId×Nat×List (List D))
 |some (true,.arr T k rows)=>some (o,a,n,T,k,rows)
 |_=>none
def Xk(h:Nat->Option Aq):AV->Option (Nat×Nat×Nat×TypeId×Nat×List (List D))
 | .own o=>TE o (h o)
 | .osl o a n=>TF o a n (h o)
 |_=>none
def lC(rows:List (List D))(a m:Nat)(src:List (List D)):List (List D):=rows.take a++src.take m++rows.drop (a+m)
def TG(G:TI)(K:Ai):Option (List Nat×Nat×List (List D))->Option (Nat×Nat×Nat×TypeId×Nat×List (List D))->Prop
 |some (u,ks,z),some (o,a,n,T,k,rows)=>k=G.size/\(ks=G.size\/z=[])/\G.size≠0/\B7 B8 z/\
  K (.im (.int .i64 (min z.length n:Nat))) {use:=o::u,kill:=[o],new:=[(o,(true,.arr T k (lC rows a (min z.length n) z)))]}
 |some _,none=>False
 |none,_=>False
def TH(P:Program)(h:Nat->Option Aq)(d s:AV)(K:Ai):TK->Prop
 | .slice e=>Bs (λz=>TG z K (lL h s) (Xk h d)) (tI P e)
 | .bool| .str| .ptr _| .int _| .array _ _| .struct _| .map _ _| .other=>False
def Qzd(P:Program)(h:Nat->Option Aq)(d s:AV)(K:Ai)(ti:TI):Prop:=TH P h d s K ti.kind
def Zp(z:TI)(K:Ai):Option (Nat×Nat×Nat×TypeId×Nat×List (List D))->Prop
 |some (o,a,n,T,k,rows)=>k=z.size/\z.size≠0/\z.zero.length=z.size/\B8 z.zero=true/\
  K .any {use:=[o],kill:=[o],new:=[(o,(true,.arr T k (lC rows a n (List.replicate n z.zero))))]}
 |none=>False
def T3(P:Program)(h:Nat->Option Aq)(d:AV)(K:Ai):TK->Prop
 | .slice e=>Bs (λz=>Zp z K (Xk h d)) (tI P e)
 | .bool| .str| .ptr _| .int _| .array _ _| .struct _| .map _ _| .other=>False
def Qrt(P:Program)(h:Nat->Option Aq)(d:AV)(K:Ai)(ti:TI):Prop:=T3 P h d K ti.kind
def Wa(nx o:Nat)(K:Ai):Option Aq->Prop
 |some (O,.map G z)=>K (.it nx) {use:=[o],kill:=[o],new:=[(nx,(true,.iter none z)),(o,(false,.map G z))],cnt:=1}
 |_=>False
def rgD(nx:Nat)(K:Ai):D->Prop
 | .mp _ z=>K (.it nx) {new:=[(nx,(true,.iter none z))],cnt:=1}
 |_=>False
def rgM(h:Nat->Option Aq)(nx:Nat)(K:Ai):AV->Prop
 | .mp o=>Wa nx o K (h o)
 | .im d=>rgD nx K d
 |_=>False
def VZ(h:Nat->Option Aq)(nx:Nat)(x:AV)(K:Ai):TK->Prop
 | .map _ _=>rgM h nx K x
 | .bool| .str| .ptr _| .int _| .array _ _| .struct _| .slice _| .other=>False
def Qsh(h:Nat->Option Aq)(nx:Nat)(x:AV)(K:Ai)(ti:TI):Prop:=VZ h nx x K ti.kind
def nxGo(o:Nat)(left:List (D×D))(K:Ai)(i:Nat)(p:D×D):Prop:=
 K (.tup [.im (.bool true),.im p.1,.im p.2]) {use:=[o],kill:=[o],new:=[(o,(true,.iter (some p) (left.eraseIdx i)))]}
def Vy(o:Nat)(K:Ai):Option Aq->Prop
 |some (true,.iter _ left)=>(left=[]->K (.tup [.im (.bool false)]) {use:=[o]})/\ ∀i p,left[i]? =some p->nxGo o left K i p
 |_=>False
def XC(h:Nat->Option Aq)(K:Ai):AV->Prop
 | .it o=>Vy o K (h o)
 |_=>False
def oJ(h:Nat->Option Aq)(x:AV)(K:Ai):Bool->Prop
 |true=>XC h K x
 |false=>False
def TU(o:Nat)(K:Ai):Option Aq->Prop
 |some (true,.iter (some p) _)=>K (.im (.tup [p.1,p.2])) {use:=[o]}
 |_=>False
def Qsz(h:Nat->Option Aq)(K:Ai):AV->Prop
 | .it o=>TU o K (h o)
 |_=>False
def Xj(P:Program)(t:TypeId):Option TypeId:=match P.underlying t with
 |some (.chan _ e)=>some e
 |_=>none
def mcE(nx:Nat)(n:Int)(K:Ai)(z:TI):Prop:=0<=n/\n<=1073741824/\z.bytes<=65536/\K (.ch nx) {new:=[(nx,(true,.chan [] n.toNat))],cnt:=1}
def mcV(P:Program)(nx:Nat)(K:Ai)(e:TypeId):AV->Prop
 | .im (.int .i64 n)=>Bs (mcE nx n K) (tI P e)
 |_=>False
def mcK(P:Program)(nx:Nat)(x:AV)(K:Ai):Option TypeId->Prop
 |some e=>mcV P nx K e x
 |none=>False
def Qi6(P:Program)(nx:Nat)(x:AV)(K:Ai)(T:TypeId):Prop:=mcK P nx x K (Xj P T)
def fK(o:Nat)(K:Ai):Option Aq->Prop
 |some (_,.chan q _)=>G1 K {use:=[o]} q.length
 |_=>False
def US(o:Nat)(h:Nat->Option Aq)(K:Ai):Option TypeId->Prop
 |some _=>fK o K (h o)
 |none=>False
def oY(o:Nat)(d:D)(K:Ai):Option Aq->Prop
 |some (true,.chan q cap)=>q.length<cap/\K .any {use:=[o],kill:=[o],new:=[(o,(true,.chan (q++[d]) cap))]}
 |_=>False
def LU(h:Nat->Option Aq)(c x:AV)(K:Ai):Prop:=
 match c,x with
 | .ch o,.im d=>oY o d K (h o)
 |_,_=>False
def oV(o:Nat)(K:Ai):Option Aq->Prop
 |some (true,.chan q cap)=>q≠[]/\ ∀d r,q=d::r->K (.im d) {use:=[o],kill:=[o],new:=[(o,(true,.chan r cap))]}
 |_=>False
def rvC(h:Nat->Option Aq)(K:Ai):AV->Prop
 | .ch o=>oV o K (h o)
 |_=>False
def rvE(h:Nat->Option Aq)(c:AV)(K:Ai)(z:TI):Prop:=z.zero.length=z.size/\z.size≠0/\rvC h K c
def rvK(P:Program)(h:Nat->Option Aq)(c:AV)(K:Ai):Option TypeId->Prop
 |some e=>Bs (rvE h c K) (tI P e)
 |none=>False
def LS(P:Program)(h:Nat->Option Aq)(T:TypeId)(c:AV)(K:Ai):Prop:=rvK P h c K (Xj P T)
def TX(neg:Bool)(K:Ai)(E:BD){α:Type}(rows:List α):Prop:= ∀b:Bool,(b=true->rows=[])->K (.im (.bool (neg !=b))) E
def TY(o:Nat)(neg:Bool)(K:Ai):Option Aq->Prop
 |some (_,.arr _ _ rows)=>TX neg K {use:=[o]} rows
 |some (_,.arrA _ _ rows)=>TX neg K {use:=[o]} rows
 |_=>False
def O8(h:Nat->Option Aq)(neg:Bool)(K:Ai):AV->Prop
 | .im (.sl _ _ rows)=>TX neg K {} rows
 | .own o=>TY o neg K (h o)
 |_=>False
def IY:D->Bool
 | .sl z _ _=>z
 | .int _ _| .bool _| .str _| .nilp| .nilf| .nili| .nilc| .nilm| .agg _| .tup _| .ref _| .mp _ _| .fn _ _ _| .ifc _ _| .gp _| .tok _=>true
def FR:AV->Bool
 | .im d=>IY d
 | .own _=>false
 | .any| .agg _| .tup _| .ptr _ _| .eptr _ _ _| .mp _| .ch _| .it _| .osl _ _ _| .clo _ _ _=>true
def unS(z:Bool)(x:AV)(n:Nat):Bool:=z && (n==1 && !FR x)
def S7(P:Program)(h:Nat->Option Aq)(T:TypeId)(op:BinOp)(x:AV)(K:Ai):TK->Prop
 | .slice _=>(match op with
   | .eql=>O8 h false K x
   | .neq=>O8 h true K x
   |_=>False)
 | .bool| .str| .ptr _| .int _| .array _ _| .struct _| .map _ _| .other=>False
def Qst(P:Program)(h:Nat->Option Aq)(T:TypeId)(op:BinOp)(x:AV)(K:Ai)(ti:TI):Prop:=S7 P h T op x K ti.kind
def LQ(P:Program)(z:Bool)(T:TypeId)(h:Nat->Option Aq)(op:BinOp)(x y:AV)(K:Ai)(n:Nat):Prop:=
 if unS z x n=true then Bs (Qst P h T op x K) (tI P T) else dZ P T h op x y K n
def Mi(P:Program)(z:Bool)(h:Nat->Option Aq)(T:TypeId)(K:Ai):AV->Prop
 | .ch o=>US o h K (Xj P T)
 | .im d=>Bs (lM z h (.im d) K) (tI P T)
 | .own o=>Bs (lM z h (.own o) K) (tI P T)
 | .osl o a n=>Bs (lM z h (.osl o a n) K) (tI P T)
 | .mp o=>Bs (lM z h (.mp o) K) (tI P T)
 | .any| .agg _| .tup _| .ptr _ _| .eptr _ _ _| .it _| .clo _ _ _=>False
def cZ(P:Program)(z:Bool)(h:Nat->Option Aq)(nx:Nat)(K:Ai):Builtin->List AV->List TypeId->Prop
 | .len,[x],[T]=>Mi P z h T K x
 | .append,[s,x],[T,U]=>Bs (Qlj P h nx s x T K) (tI P U)
 | .delete,[m,k],T::_=>Bs (Qni P h K m k) (tI P T)
 | .copy,[d,s],[T,_]=>Bs (Qzd P h d s K) (tI P T)
 | .clear,[d],[T]=>Bs (Qrt P h d K) (tI P T)
 | .max,[x,y],_=>Ol K x y
 |_,_,_=>False
def yN(P:Program)(V:D6)(z:Bool)(tm:List (Nat×AV))(h:Nat->Option Aq)(nx:Nat)(args:List AV)(G:List TypeId)(K:Ai):Callee->Prop
 | .value f=>Sb V args h nx K (Aw tm f)
 | .builtin b=>cZ P z h nx K b args G
 | .invoke r m=>Oj P V args h nx K m (Aw tm r)
def aI(nx:Nat)(K:Ai):Option KT->Prop
 |some z=>K (.mp nx) {new:=[(nx,(true,.map z []))],cnt:=1}
 |none=>False
def Vg(P:Program)(nx:Nat)(K:Ai):TK->Prop
 | .map k _=>aI nx K (Cb P k)
 | .bool| .str| .ptr _| .int _| .array _ _| .struct _| .slice _| .other=>False
def Qko(P:Program)(nx:Nat)(K:Ai)(ti:TI):Prop:=Vg P nx K ti.kind
def Ec(tm:List (Nat×AV)):List Operand->List AV
 |[]=>[]
 |x::r=>Aw tm x::Ec tm r
def K8(tm:List (Nat×AV)):List (Nat×Operand)->List (Nat×AV)
 |[]=>[]
 |(i,x)::r=>(i,Aw tm x)::K8 tm r
def Qrk(h:Nat->Option Aq)(x:AV)(K:Ai)(ti:TI):Prop:=YM h ti K x
def Qfq(P:Program)(h:Nat->Option Aq)(x i:AV)(K:Ai)(ti:TI):Prop:=Qjp P h x ti K i
def Qno(P:Program)(x i:AV)(K:Ai)(ti:TI):Prop:=Qxc P x ti K i
def TA(o:Nat)(T:TypeId)(cs:List AV):Option (List D)->Option (D×Au)
 |some ds=>some (.ref ds,[(o,(false,.cells T cs))])
 |none=>none
def T9(o:Nat):Option Aq->Option (D×Au)
 |some (_,.cells T z)=>TA o T z (Eo z)
 |some (_,.arr _ _ _)=>none
 |some (_,.arrA _ _ _)=>none
 |some (_,.map _ _)=>none
 |some (_,.chan _ _)=>none
 |some (_,.iter _ _)=>none
 |some (_,.view _)=>none
 |none=>none
def IA(h:Nat->Option Aq):AV->Option (D×Au)
 | .im d=>some (d,[])
 | .ptr o 0=>T9 o (h o)
 | .ptr _ (_+1)=>none
 | .any=>none
 | .agg _=>none
 | .tup _=>none
 | .eptr _ _ _=>none
 | .own _=>none
 | .mp _=>none
 | .ch _=>none
 | .it _=>none
 | .osl _ _ _=>none
 | .clo _ _ _=>none
def T8:Option (D×Au)->Option (List D×Au)->Option (List D×Au)
 |some (d,E),some (ds,F)=>some (d::ds,E++F)
 |some _,none=>none
 |none,_=>none
def PG(h:Nat->Option Aq):List AV->Option (List D×Au)
 |[]=>some ([],[])
 |x::r=>T8 (IA h x) (PG h r)
def hnm:Au->List Nat
 |[]=>[]
 |(n,_)::r=>n::hnm r
def Qz3(f:FuncId)(a b:List D)(first capt:List AV)(K:Ai):Au->Prop
 |[]=>K (.im (.fn f a b)) {}
 |e::r=>K (.im (.fn f a b)) {use:=hnm (e::r),kill:=hnm (e::r),new:=e::r}\/K (.clo f first capt) {}
def OD(f:FuncId)(first capt:List AV)(K:Ai):Option (List D×Au)->Option (List D×Au)->Prop
 |some (a,E),some (b,F)=>Qz3 f a b first capt K (E++F)
 |some _,none=>K (.clo f first capt) {}
 |none,_=>K (.clo f first capt) {}
def Uc(P:Program)(U:TypeId)(f:Nat):Option (TypeId×Nat):=
 match P.underlying U with
 |some (.struct z)=>(z[f]?).map λq=>(q.type,q.offset)
 |_=>none
def St(off n:Nat)(cs:List D):Bool->Option D
 |true=>some (.agg ((cs.drop off).take n))
 |false=>cs[off]?
def Sq(K:Ai):Option D->Prop
 |some d=>K (.im d) {}
 |none=>False
def jB(off:Nat)(K:Ai)(ti:TI):AV->Prop
 | .im (.agg z)=>off+ti.size<=z.length/\Sq K (St off ti.size z ti.agg)
 |_=>False
def Ss(P:Program)(x:AV)(K:Ai):Option (TypeId×Nat)->Prop
 |some (t,off)=>Bs (λti=>jB off K ti x) (tI P t)
 |none=>False
def step(P:Program)(V:D6)(G:Bool)(tm:List (Nat×AV))(h:Nat->Option Aq)(nx:Nat)(T:TypeId)(K:Ai):Op->Prop
 | .move x=>K (Aw tm x) {}
 | .assign x=>Qm9 P tm nx T K x
 | .pick c a b=>Qzp (Aw tm a) (Aw tm b) K (Aw tm c)
 | .alloc T=>Bs (Qsv nx T K) (tI P T)
 | .box T x=>WE nx T K (Aw tm x).cells
 | .build T z=>Bs (Qsy P (K8 tm z.toList) K) (tI P T)
 | .buildSlice T n z=>Bs (Qfp P nx n (K8 tm z.toList) K) (tI P T)
 | .load T x=>Bs (Qrk h (Aw tm x) K) (tI P T)
 | .store T x v=>Bs (Qri h (Aw tm x) (Aw tm v) K) (tI P T)
 | .nilCheck x=>pT h K (Aw tm x)
 | .binOp op T x y _=>LQ P G T h op (Aw tm x) (Aw tm y) K (FT y)
 | .unOp op _ x=>cC K op (Aw tm x)
 | .convert S T x=>XK P h (RQ (tI P T)) (Aw tm x) K (tI P S)
 | .makeFunc (.func f) first capt=>Nat.blt f 1000000000=true/\OD f (Ec tm first.toList) (Ec tm capt.toList) K (PG h (Ec tm first.toList)) (PG h (Ec tm capt.toList))
 | .makeMap T none=>Bs (Qko P nx K) (tI P T)
 | .makeSlice T l c=>Bs (Qhl P nx (Aw tm l) (Aw tm c) K) (tI P T)
 | .fieldAddr T x f=>Bs (Qhg h (Aw tm x) f K) (tI P T)
 | .indexAddr T x i=>Bs (Qfq P h (Aw tm x) (Aw tm i) K) (tI P T)
 | .index T x i=>Bs (Qno P (Aw tm x) (Aw tm i) K) (tI P T)
 | .lookup T m k ok=>Bs (Qnn P h (Aw tm m) (Aw tm k) ok K) (tI P T)
 | .mapUpdate T m k v=>Bs (pQ P h K (Aw tm m) (Aw tm k) (Aw tm v)) (tI P T)
 | .extract x i=>pS i K (Aw tm x)
 | .call c=>yN P V G tm h nx (Ec tm c.args.toList) c.argTypes.toList K c.callee
 | .slice T x lo O none=>Bs (Qsm P h nx (Aw tm x) (Ed tm lo) (Ed tm O) K) (tI P T)
 | .range T x=>Bs (Qsh h nx (Aw tm x) K) (tI P T)
 | .next x false=>oJ h (Aw tm x) K G
 | .entry x=>Qsz h K (Aw tm x)
 | .makeChan T x=>Qi6 P nx (Aw tm x) K T
 | .makeInterface T x=>WF P T K (Aw tm x)
 | .insert T m k v=>Bs (pQ P h K (Aw tm m) (Aw tm k) (Aw tm v)) (tI P T)
 | .field U x f=>Ss P (Aw tm x) K (Uc P U f)
 |_=>False
inductive Ex where
 |normal
 |exit (id:Nat)
 |ret
abbrev CD:=Ex->A9->Prop
def Y7(t:Option Nat)(z:Bool)(s:A9)(Kdo Kskip:A9->Prop):AV->Prop
 | .im (.bool b)=>(b=z->Kdo (s.put t (.im (.bool z))))/\(b= !z->Kskip (s.put t (.im (.bool (!z)))))
 | .im (.tup [])=>Kskip s
 |_=>False
def AH(n:Nat):Au->Bool
 |[]=>true
 |(_,(_,.cells _ z))::r=>AL n z && AH n r
 |(_,(_,.arrA _ _ rows))::r=>rows.all (AL n) && AH n r
 |(_,(_,.arr _ _ _))::r=>AH n r
 |(_,(_,.map _ _))::r=>AH n r
 |(_,(_,.chan _ _))::r=>AH n r
 |(_,(_,.iter _ _))::r=>AH n r
 |(_,(_,.view _))::r=>AH n r
def OM(kill:List Nat)(nx cnt n:Nat):Bool:=(Nat.ble nx n && Nat.blt n (nx+cnt))||(kill.contains n && Nat.blt n nx)
def Jx(kill:List Nat)(nx cnt:Nat):Au->Bool
 |[]=>true
 |(n,_)::r=>OM kill nx cnt n && Jx kill nx cnt r
def BD.ok(E:BD)(nx:Nat)(r:AV):Bool:=r.bel (nx+E.cnt) && (AH (nx+E.cnt) E.new && Jx E.kill nx E.cnt E.new)
def A9.app_nr(tm:List (Nat×AV))(h:Au)(nx:Nat)(dst:Option Nat)(r:AV)(u k:List Nat)(nw:Au)(c:Nat):A9.app ⟨tm,h,nx⟩ dst r ⟨u,k,nw,c⟩=(⟨tm,nw++Cg h k,nx+c⟩:A9).put dst r:=by
 cases dst<;>rfl
def BD.ok_nr(u k:List Nat)(nw:Au)(c nx:Nat)(r:AV):BD.ok ⟨u,k,nw,c⟩ nx r=(r.bel (nx+c) && (AH (nx+c) nw && Jx k nx c nw)):=by
 cases c<;>rfl
structure SOp where
 dst:Option Nat
 op:Op
 type:TypeId
 gd:Option (Option Nat×Bool)
def YR(ops:Array Oper):Option (Nat×Bool)->Option (Option Nat×Bool)
 |none=>none
 |some (j,w)=>some ((ops[j]?).bind (·.dst),w)
def Ha(ops:Array Oper):List Oper->List SOp
 |[]=>[]
 |o::r=>⟨o.dst,o.op,o.type,YR ops o.guard⟩::Ha ops r
def JO(z:A9->Prop)(s:A9)(dst:Option Nat)(r:AV)(E:BD):Prop:=E.ok s.nx r=true/\z (s.app dst r E)
def Em(P:Program)(V:D6)(tm:List (Nat×AV))(h:Nat->Option Aq)(nx:Nat)(ty:TypeId)(K:Ai):Op->Prop
 | .send c x=>LU h (Aw tm c) (Aw tm x) K
 | .recv T c false=>LS P h T (Aw tm c) K
 |op=>step P V true tm h nx ty K op
def Km(P:Program)(V:D6)(dst:Option Nat)(op:Op)(ty:TypeId)(z:A9->Prop)(s:A9):Prop:=
 Em P V s.tm (hget s.h) s.nx ty (JO z s dst) op
def Og(dst:Option Nat)(z:A9->Prop)(s:A9):Prop:=z (s.put dst (.im (.tup [])))
def ZM(P:Program)(V:D6)(dst:Option Nat)(op:Op)(ty:TypeId)(z:Bool)(G:A9->Prop)(s:A9):Option Nat->Prop
 |some t=>Y7 (some t) z s (Km P V dst op ty G) (Og dst G) (AC s.tm t)
 |none=>False
def opS(P:Program)(V:D6)(dst:Option Nat)(op:Op)(ty:TypeId)(G:A9->Prop)(s:A9):Option (Option Nat×Bool)->Prop
 |none=>Km P V dst op ty G s
 |some (t,z)=>ZM P V dst op ty z G s t
def LP(P:Program)(V:D6):List SOp->(A9->Prop)->A9->Prop
 |[],K,s=>K s
 |⟨dst,op,ty,gd⟩::z,K,s=>opS P V dst op ty (LP P V z K) s gd
structure Fp where
 i:Nat
 use:List Nat
 touch:List Nat
 nx:Nat
 cnt:Nat
def Mg:Au->List Nat
 |[]=>[]
 |(n,_)::r=>n::Mg r
def JX:Au->List Nat
 |[]=>[]
 |(_,(_,e))::r=>e.nms++JX r
def K3:List Nat->List Nat->Bool
 |[],_=>true
 |x::r,l=> !l.contains x && K3 r l
def Hl(nx cnt:Nat):List Nat->Bool
 |[]=>true
 |x::r=>(Nat.blt x nx||Nat.ble (nx+cnt) x) && Hl nx cnt r
def Jf:Ground->Bool
 | .data=>true
 | .chain=>true
 | .guard=>true
 | .phase=>true
 | .textOnly _=>false
 | .gcOnly _=>false
def Ef:List (List Nat)->Nat->List Nat
 |[],_=>[]
 |x::_,0=>x
 |_::r,n+1=>Ef r n
def Bl(x:Nat)(l:List Nat):List Nat:=bif l.contains x then l else x::l
def U5:List Nat->List Nat->List Nat
 |[],l=>l
 |x::r,l=>Bl x (U5 r l)
def HQ(acc:List (List Nat)):List Edge->List Nat
 |[]=>[]
 |e::r=>bif Jf e.ground then U5 (e.on::Ef acc e.on) (HQ acc r) else HQ acc r
def F4:List Oper->List (List Nat)->List (List Nat)
 |[],acc=>acc
 |o::r,acc=>F4 r (acc++[HQ acc o.after.toList])
def Fm(cl:List (List Nat))(i j:Nat):Bool:=(Ef cl j).contains i
def sI(cl:List (List Nat))(j:Nat)(use touch z:List Nat)(f:Fp):Bool:=
 bif K3 (use++touch) f.touch && (K3 touch f.use && Hl f.nx f.cnt z) then true else Fm cl f.i j
def Jm(cl:List (List Nat))(j:Nat)(use touch z:List Nat):List Fp->Bool
 |[]=>true
 |f::r=>sI cl j use touch z f && Jm cl j use touch z r
def BD.touch(E:BD):List Nat:=E.kill++Mg E.new
abbrev cQ:=List Fp->A9->Prop
def Nf(cl:List (List Nat))(i:Nat)(acc:List Fp)(z:cQ)(s:A9)(dst:Option Nat)(r:AV)(E:BD):Prop:=
 E.ok s.nx r=true/\Jm cl i (E.use++E.kill) E.touch (E.touch++(r.nms++JX E.new)) acc=true/\z (⟨i,E.use++E.kill,E.touch,s.nx,E.cnt⟩::acc) (s.app dst r E)
def Om(P:Program)(V:D6)(cl:List (List Nat))(i:Nat)(acc:List Fp)(dst:Option Nat)(op:Op)(ty:TypeId)(z:cQ)(s:A9):Prop:=
 step P V false s.tm (hget s.h) s.nx ty (Nf cl i acc z s dst) op
def Of(dst:Option Nat)(acc:List Fp)(z:cQ)(s:A9):Prop:=z acc (s.put dst (.im (.tup [])))
def ZL(P:Program)(V:D6)(cl:List (List Nat))(i:Nat)(acc:List Fp)(dst:Option Nat)(op:Op)(ty:TypeId)(z:Bool)(G:cQ)(s:A9):Option Nat->Prop
 |some t=>Y7 (some t) z s (Om P V cl i acc dst op ty G) (Of dst acc G) (AC s.tm t)
 |none=>False
def opA(P:Program)(V:D6)(cl:List (List Nat))(i:Nat)(acc:List Fp)(dst:Option Nat)(op:Op)(ty:TypeId)(G:cQ)(s:A9):Option (Option Nat×Bool)->Prop
 |none=>Om P V cl i acc dst op ty G s
 |some (t,z)=>ZL P V cl i acc dst op ty z G s t
def X4(P:Program)(V:D6)(cl:List (List Nat)):List SOp->Nat->(A9->Prop)->cQ
 |[],_,K,_,s=>K s
 |⟨dst,op,ty,gd⟩::z,i,K,acc,s=>opA P V cl i acc dst op ty (X4 P V cl z (i+1) K) s gd
def Ow(K:A9->Prop)(Q:CD):CD
 | .normal,s=>K s
 | .exit i,s=>Q (.exit i) s
 | .ret,s=>Q .ret s
def JG(i:Nat)(Q:CD)(s:A9):Bool->Prop
 |true=>Q .normal s
 |false=>Q (.exit i) s
def qX(id:Nat)(Q:CD):CD
 | .normal,s=>Q .normal s
 | .exit i,s=>JG i Q s (i==id)
 | .ret,s=>Q .ret s
def zT(A B:CD->A9->Prop)(Q:CD)(s:A9):AV->Prop
 | .im (.bool b)=>(b=true->A Q s)/\(b=false->B Q s)
 |_=>False
def Ho(s:A9):List (Nat×AV)->Prop
 |[]=>True
 |(t,x)::r=>AC s.tm t=x/\Ho s r
def De(s:A9):Au->Prop
 |[]=>True
 |(o,e)::r=>hget s.h o=some e/\De s r
def sub(s s':A9):Prop:=Ho s s'.tm/\De s s'.h
def C4(n:Nat):List (Nat×AV)->Bool
 |[]=>true
 |(_,x)::r=>x.bel n && C4 n r
def Cz(n:Nat):Au->Bool
 |[]=>true
 |(m,_)::r=>Nat.blt m n && Cz n r
def A9.good(s:A9):Bool:=C4 s.nx s.tm && (AH s.nx s.h && Cz s.nx s.h)
def pm:List (Nat×Option Nat)->Nat->Option Nat
 |[],n=>some n
 |(a,b)::r,n=>if a=n then b else pm r n
def nZ:AV->Prop
 | .im (.sl true _ [])=>True
 |_=>False
def ET(x:AV):Option Nat->Prop
 |some m=>x= .own m
 |none=>nZ x
def Hw(f:Nat->AV)(x:AV):Option Nat->Prop
 |some m=>x=f m
 |none=>False
mutual
def mt(π:List (Nat×Option Nat)):AV->AV->Prop
 | .any,_=>True
 | .im d,x=>x= .im d
 | .own n,x=>ET x (pm π n)
 | .ptr n p,x=>Hw (λm=> .ptr m p) x (pm π n)
 | .eptr n i p,x=>Hw (λm=> .eptr m i p) x (pm π n)
 | .mp n,x=>Hw .mp x (pm π n)
 | .ch n,x=>Hw .ch x (pm π n)
 | .it n,x=>Hw .it x (pm π n)
 | .osl n a k,x=>Hw (λm=> .osl m a k) x (pm π n)
 | .agg z,.agg ds=>DB π z ds
 | .agg z,.im (.agg ds)=>DB π z (ds.map .im)
 | .agg _,_=>False
 | .tup _,_=>False
 | .clo _ _ _,_=>False
def DB(π:List (Nat×Option Nat)):List AV->List AV->Prop
 |[],[]=>True
 |x::r,y::s=>mt π x y/\DB π r s
 |[],_::_=>False
 |_::_,[]=>False
end
def Fu(π:List (Nat×Option Nat)):List (List AV)->List (List AV)->Prop
 |[],[]=>True
 |x::r,y::s=>DB π x y/\Fu π r s
 |[],_::_=>False
 |_::_,[]=>False
def Ft(π:List (Nat×Option Nat)):Ah->Ah->Prop
 | .cells T G,.cells U ds=>T=U/\DB π G ds
 | .cells _ _,_=>False
 | .arr T k rows,e=>e= .arr T k rows
 | .arrA T k rows,.arrA U k' z=>T=U/\k=k'/\Fu π rows z
 | .arrA T k rows,.arr U k' z=>T=U/\k=k'/\Fu π rows (Bo z)
 | .arrA _ _ _,.cells _ _=>False
 | .arrA _ _ _,.map _ _=>False
 | .arrA _ _ _,.chan _ _=>False
 | .arrA _ _ _,.iter _ _=>False
 | .arrA _ _ _,.view _=>False
 | .map Q O,e=>e= .map Q O
 | .chan q c,e=>e= .chan q c
 | .iter a l,e=>e= .iter a l
 | .view G,e=>e= .view G
def Lz(π:List (Nat×Option Nat))(G:Bool)(e':Ah):Option Aq->Prop
 |some (z,e)=>z=G/\Ft π e' e
 |none=>False
def Vq:Bool->Ah->Prop
 |true,.arr _ _ []=>True
 |true,.arrA _ _ []=>True
 |_,_=>False
def Du(s:A9)(π:List (Nat×Option Nat))(z:Bool)(e':Ah):Option Nat->Prop
 |some m=>Lz π z e' (hget s.h m)
 |none=>Vq z e'
def Jw(π:List (Nat×Option Nat))(s:A9):List (Nat×AV)->Prop
 |[]=>True
 |(t,x)::r=>mt π x (AC s.tm t)/\Jw π s r
def Gf(π:List (Nat×Option Nat))(s:A9):Au->Prop
 |[]=>True
 |(n,(z,e))::r=>Du s π z e (pm π n)/\Gf π s r
def JL(lo:Nat):List (Nat×Option Nat)->Prop
 |[]=>True
 |(a,_)::r=>lo<=a/\JL lo r
def Fl(π:List (Nat×Option Nat)):Au->List (Option Nat)
 |[]=>[]
 |(n,_)::r=>pm π n::Fl π r
def CT:List (Option Nat)->Bool
 |[]=>true
 |none::r=>CT r
 |some m::r=> !r.contains (some m) && CT r
def Ao(lo:Nat)(π:List (Nat×Option Nat))(s s':A9):Prop:=JL lo π/\CT (Fl π s'.h)=true/\Jw π s s'.tm/\Gf π s s'.h
def Nu{β:Type}(I:β->A9)(μ:β->Nat)(b:β)(Q:CD):CD
 | .normal,s=> ∃b',μ b'<μ b/\sub s (I b')
 | .exit i,s=>Q (.exit i) s
 | .ret,s=>Q .ret s
def Nt{β:Type}(lo:Nat)(I:β->A9)(μ:β->Nat)(b:β)(Q:CD):CD
 | .normal,s=> ∃b' π,μ b'<μ b/\Ao lo π s (I b')
 | .exit i,s=>Q (.exit i) s
 | .ret,s=>Q .ret s
def dO(z:CD->A9->Prop)(Q:CD)(s:A9):Prop:=
 ∃(β:Type) (I:β->A9) (μ:β->Nat),(∀b,(I b).good=true/\s.nx<=(I b).nx)/\(∃b,sub s (I b))/\ ∀b,z (Nu I μ b Q) (I b)
def Qsi(z:CD->A9->Prop)(Q:CD)(s:A9):Prop:=
 ∃(β:Type) (I:β->A9) (μ:β->Nat),(∀b,(I b).good=true/\s.nx<=(I b).nx)/\(∃b π,Ao s.nx π s (I b))/\ ∀b,z (Nt s.nx I μ b Q) (I b)
def IC(F:List Nat):Au->Au
 |[]=>[]
 |(n,(z,e))::r=>(n,(z && !F.contains n,e))::IC F r
def Ui(F:List Nat)(s:A9):A9:=⟨s.tm,IC F s.h,s.nx⟩
def X8(z:CD->A9->Prop)(Q:CD)(s:A9):Prop:= ∃F:List Nat,dO z Q (Ui F s)
def FU(n:Nat):Ah->AV
 | .arr _ w rows=> .im (.sl false w rows)
 | .cells _ _=> .own n
 | .arrA _ _ _=> .own n
 | .map _ _=> .own n
 | .chan _ _=> .own n
 | .iter _ _=> .own n
 | .view _=> .own n
def HS(n:Nat):Option Aq->AV
 |some e=>FU n e.2
 |none=> .own n
mutual
def AV.fzA(F:List Nat)(H:Au):AV->AV
 | .own n=>bif F.contains n then HS n (hget H n) else .own n
 | .agg z=> .agg (CF F H z)
 | .any=> .any
 | .im d=> .im d
 | .tup z=> .tup z
 | .ptr o p=> .ptr o p
 | .eptr o i p=> .eptr o i p
 | .mp o=> .mp o
 | .ch o=> .ch o
 | .it o=> .it o
 | .osl o a n=> .osl o a n
 | .clo f a c=> .clo f a c
def CF(F:List Nat)(H:Au):List AV->List AV
 |[]=>[]
 |x::r=>x.fzA F H::CF F H r
end
def CL(F:List Nat)(H:Au):List (List AV)->List (List AV)
 |[]=>[]
 |x::r=>CF F H x::CL F H r
def Ah.fzA(F:List Nat)(H:Au):Ah->Ah
 | .cells T z=> .cells T (CF F H z)
 | .arrA T k rows=> .arrA T k (CL F H rows)
 | .arr T k rows=> .arr T k rows
 | .map O G=> .map O G
 | .chan q c=> .chan q c
 | .iter a l=> .iter a l
 | .view z=> .view z
def ID(F:List Nat)(H:Au):List (Nat×AV)->List (Nat×AV)
 |[]=>[]
 |(t,x)::r=>(t,x.fzA F H)::ID F H r
def FQ(F:List Nat)(H:Au):Au->Au
 |[]=>[]
 |(n,(z,e))::r=>(n,(z && !F.contains n,e.fzA F H))::FQ F H r
def PW(F:List Nat)(s:A9):A9:=⟨ID F s.h s.tm,FQ F s.h s.h,s.nx⟩
def Ns{β:Type}(lo:Nat)(I:β->A9)(μ:β->Nat)(b:β)(Q:CD):CD
 | .normal,s=> ∃b' F π,μ b'<μ b/\Ao lo π (PW F s) (I b')
 | .exit i,s=>Q (.exit i) s
 | .ret,s=>Q .ret s
def Qsf(z:CD->A9->Prop)(Q:CD)(s:A9):Prop:=
 ∃(β:Type) (I:β->A9) (μ:β->Nat),(∀b,(I b).good=true/\s.nx<=(I b).nx)/\(∃b F π,Ao s.nx π (PW F s) (I b))/\ ∀b,z (Ns s.nx I μ b Q) (I b)
def Bc(z:CD->A9->Prop)(Q:CD)(s:A9):Prop:=dO z Q s\/Qsi z Q s\/X8 z Q s\/Qsf z Q s
def Bc.frr{z:CD->A9->Prop}{Q:CD}{s:A9}(h:Qsf z Q s):Bc z Q s:=Or.inr (Or.inr (Or.inr h))
def Bc.old{z:CD->A9->Prop}{Q:CD}{s:A9}(h:dO z Q s):Bc z Q s:=Or.inl h
def Bc.ren{z:CD->A9->Prop}{Q:CD}{s:A9}(h:Qsi z Q s):Bc z Q s:=Or.inr (Or.inl h)
def Bc.frz{z:CD->A9->Prop}{Q:CD}{s:A9}(F:List Nat)(h:dO z Q (Ui F s)):Bc z Q s:=Or.inr (Or.inr (Or.inl ⟨F,h⟩))
def D7(P:Program)(V:D6):Code->CD->A9->Prop
 | .skip,Q,s=>Q .normal s
 | .region _ ops false,Q,s=>LP P V (Ha ops ops.toList) (Q .normal) s
 | .region _ ops true,Q,s=>X4 P V (F4 ops.toList []) (Ha ops ops.toList) 0 (Q .normal) [] s
 | .seq a b,Q,s=>D7 P V a (Ow (D7 P V b Q) Q) s
 | .cond c a b,Q,s=>zT (D7 P V a) (D7 P V b) Q s (Aw s.tm c)
 | .block id c,Q,s=>D7 P V c (qX id Q) s
 | .loop c,Q,s=>Bc (D7 P V c) Q s
 | .exit id,Q,s=>Q (.exit id) s
 | .ret,Q,s=>Q .ret s
 |_,_,_=>False
end Go.Ae
