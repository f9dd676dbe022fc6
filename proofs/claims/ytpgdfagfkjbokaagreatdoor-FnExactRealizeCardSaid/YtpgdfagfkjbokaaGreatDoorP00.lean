/- Lemmas. Conditions: none. -/
import Derived.Orders
import Derived.Below
import Derived.Laws.Sem
import Derived.Lib.ItoaNum
set_option linter.all false
set_option maxHeartbeats 8000000
set_option maxRecDepth 100000
namespace Go
def Ay:=@Option.some.inj
def AI:=@Option.some.injEq
def Bi:=@List.getElem?_eq_getElem
def AZ:=@List.mem_of_getElem?
def AN:=@Bool.and_eq_true
def AP:=@Option.getD_some
def Af:=@if_neg
def BW:=@List.getElem?_eq_some_iff
def Bs:=@Option.some_beq_some
def AL:=@Nat.le_refl
def Ai:=@if_pos
def Bq:=@decide_eq_true_eq
def BP:=@List.mem_cons_of_mem
def Bz:=@List.mem_singleton
def Bn:=@List.mem_append
def B8:=@Int.toNat_natCast
def BM:=@List.mem_cons_self
def Bf:=@List.map_cons
def Bh:=@List.mem_cons
def BB:=@List.length_take
def Dj:=@List.getElem?_append_left
def Bt:=@List.mem_range
def CS:=@List.drop_eq_nil_of_le
def CT:=@Option.map_eq_some_iff
def CY:=@List.getElem?_set_self
def Bo:=@List.mem_map
def Ce:=@List.length_drop
def C9:=@List.length_append
def DE:=@List.take_of_length_le
def E3:=@List.getElem?_append_right
def CE:=@Bool.false_eq_true
def Cv:=@List.length_cons
def Dw:=@List.getElem?_set_ne
def Dg:=@Array.length_toList
def CA:=@List.all_eq_true
def CM:=@List.getElem?_map
def Bm:=@cond_false
def CO:=@List.cons_append
def EP:=@Option.bind_eq_some_iff
def Ef:=@List.getD_cons_zero
def E9:=@List.getElem?_eq_none
def D2:=@List.append_nil
def D3:=@Option.map_some
def GY:=@Array.getElem?_eq_getElem
def HG:=@Array.getD_eq_getD_getElem?
def EJ:=@Nat.lt_of_lt_of_le
def G6:=@List.getElem?_cons_zero
def EQ:=@List.getElem?_drop
def FO:=@List.contains_iff_mem
def EK:=@List.append_assoc
def Gd:=@Array.getElem?_toList
def DU:=@List.drop_drop
def CC:=@Nat.zero_le
def BX:=@cond_true
def EA:=@List.length_set
def F3:=@List.flatMap_cons
def Ir:=@List.getElem?_cons_succ
def Iu:=@decide_eq_false_iff_not
def GZ:=@List.mem_append_left
def DH:=@Nat.le_trans
def Eg:=@Bool.true_and
def ES:=@List.map_append
def En:=@Prod.mk.injEq
def Fc:=@List.length_map
def Fq:=@List.nil_append
def Iv:=@List.take_append_drop
def HI:=@Nat.mul_le_mul_right
def Ht:=@List.getD_cons_succ
def BV:=@congrArg
def HJ:=@beq_eq_false_iff_ne
def FA:=@List.length_nil
def Od:=@Array.getElem?_eq_some_iff
def Gi:=@Bool.not_eq_true
def Ha:=@Classical.not_not
def Iw:=@List.getElem?_range
def JK:=@List.mem_iff_getElem?
def G7:=@Option.bind_some
def Cr:=@if_false
def BI:=@if_true
def Ls:=@List.getElem?_replicate
def F8:=@List.drop_zero
def Ob:=@List.eq_of_mem_replicate
def Fo:=@Bool.and_true
def ER:=@Nat.lt_or_ge
def JJ:=@List.map_congr_left
def Gf:=@Bool.false_and
def Im:=@Bool.not_eq_false
def Io:=@List.ext_getElem?
def Ip:=@List.take_add_one
def Oc:=@List.length_replicate
def Gg:=@Nat.add_assoc
def Xf:=@Array.getElem?_setIfInBounds
def F9:=@List.map_nil
def Lu:=@List.drop_succ_cons
def E4:=@Nat.blt_eq
def IS:=@List.take_length
def VF:=@List.drop_eq_getElem_cons
def Iq:=@Bool.or_eq_true
def FP:=@Nat.zero_add
def Lv:=@List.getElem?_take
def Ky:=@List.size_toArray
def F2:=@Nat.add_mul
def Gh:=@Nat.sub_self
def Rj:=@List.mem_append_right
def Xk:=@List.mem_or_eq_of_mem_set
def Qp:=@List.take_succ_cons
def VH:=@ByteArray.size_append
def Xl:=@List.length_eq_zero_iff
def Qq:=@List.pairwise_cons
def Xm:=@Array.getElem?_eq_none
def Qr:=@Bool.eq_false_iff
def Ly:=@List.nodup_cons
def Rk:=@Option.isSome_none
def JL:=@List.all_cons
def nH:=@List.drop_append_of_le_length
def Rl:=@Bool.not_eq_true'
def gK:=@Classical.byContradiction
def G8:=@Nat.ble_eq
def gL:=@Array.getElem?_replicate
def JM:=@List.map_set
def Rm:=@List.getElem_mem
def Lz:=@List.sum_cons
def IT:=@Nat.one_mul
def gM:=@List.zipWith_cons_cons
def nI:=@List.mem_of_find?_eq_some
def VI:=@List.drop_append
def wC:=@List.eq_nil_of_length_eq_zero
def E5:=@Ne.symm
def Ix:=@Array.ext'
def gN:=@Array.getElem?_modify
def Lw:=@List.map_map
def Xg:=@List.nodup_append
def Lx:=@Nat.add_zero
def Qo:=@Bool.or_false
def VG:=@List.cons.injEq
def aL:=@List.find?_eq_none
def gC:=@List.mem_iff_getElem
def Xh:=@Array.toList_map
def wB:=@Int.tdiv_eq_ediv_of_nonneg
def nB:=@Classical.epsilon_spec
def gD:=@List.length_pos_iff
def aM:=@List.length_range
def gE:=@List.length_reverse
def Xi:=@Bool.eq_iff_iff
def Xj:=@List.foldl_cons
def nC:=@List.length_singleton
def nE:=@List.set_append_right
def nG:=@Nat.le_of_ble_eq_true
def gG:=@List.contains_cons
def gH:=@List.set_cons_zero
def gJ:=@Nat.eq_zero_or_pos
def Hb:=@and_self
def aN:=@Array.toList_inj
def Oe:=@Int.le_refl
def aO:=@List.not_mem_nil
def ZcZ:=@List.take_append_of_le_length
def aP:=@beq_self_eq_true
def wL:=@List.eraseIdx_cons_succ
def wM:=@List.filter_cons_of_neg
def wN:=@Nat.add_sub_cancel_left
def Xn:=@Bool.not_false
def Xo:=@List.take_zero
def gS:=@List.contains_nil
def gT:=@not_false_eq_true
def Zdi:=@Array.toList_setIfInBounds
def gU:=@Nat.min_le_right
def wO:=@Array.getElem?_append
def nO:=@List.set_cons_succ
def Zdm:=@List.pairwise_iff_getElem
def wP:=@List.mem_of_mem_take
def wQ:=@Option.some_beq_none
def gV:=@List.find?_some
def gW:=@List.mem_filter
def nP:=@Nat.lt_trichotomy
def Qs:=@beq_iff_eq
def L0:=@forall_eq
def wS:=@Array.toList_append
def wT:=@List.filter_eq_self
def wV:=@List.mem_map_of_mem
def aQ:=@List.take_add
def nQ:=@List.flatMap_nil
def gX:=@List.Perm.refl
def gO:=@decide_eq_true
def wD:=@Int.emod_lt_of_pos
def wE:=@Option.toList_some
def nJ:=@List.all_append
def ZdE:=@List.getElem?_toArray
def nK:=@List.range_succ
def gQ:=@Bool.and_self
def wF:=@not_true_eq_false
def ZdI:=@Array.getElem?_append_left
def ZdJ:=@Int.tmod_eq_emod_of_nonneg
def ZdK:=@List.mem_of_mem_drop
def nL:=@Bool.and_false
def nM:=@List.foldl_nil
def wG:=@Nat.lt_succ_self
def wH:=@Option.getD_none
def ZdP:=@List.flatMap_append
def ZdQ:=@Array.size_setIfInBounds
def gR:=@Nat.zero_mul
def ZdS:=@Option.isSome_iff_exists
def ZdT:=@Array.ext_getElem?
def ZdU:=@Array.extract_size
def nN:=@Bool.not_true
def wI:=@Int.emod_nonneg
def wJ:=@Nat.not_lt_zero
def wK:=@decide_eq_false
def ZdZ:=@List.length_eq_one_iff
def Zea:=@List.zipWith_nil_right
def Zeb:=@Array.toList_push
def Zec:=@Bool.and_eq_false_iff
def nR:=@Bool.true_or
def Zee:=@Int.mul_ediv_add_emod
def Zef:=@Int.mul_le_mul_of_nonneg_right
def Zeg:=@List.getElem?_reverse
def nS:=@Nat.add_comm
def nU:=@Nat.sub_zero
def Zej:=@List.mem_flatMap
def Zek:=@forall_eq_or_imp
def Zel:=@List.range_eq_range'
def xA:=@Bool.false_or
def xB:=@false_implies
def VJ:=@or_false
def Zep:=@Array.getElem?_append_right
def Zeq:=@Array.toList_modify
def Zer:=@List.find?_cons
def Zes:=@List.map_eq_nil_iff
def Zet:=@List.replicate_succ
def Zeu:=@List.toList_toArray
def Zev:=@Nat.mul_le_mul_left
def Zew:=@Int.fdiv_eq_ediv_of_nonneg
def Zex:=@List.exists_cons_of_ne_nil
def Zey:=@List.nodup_iff_pairwise_ne
def Zez:=@List.perm_append_singleton
def ZeA:=@List.perm_ext_iff_of_nodup
def ZeB:=@Array.toList_range
def wW:=@Bool.or_true
def ZeD:=@List.filter_append
def ZeE:=@List.getElem_range
def wX:=@List.set_set
def wY:=@Nat.succ_mul
def Xp:=@true_and
def wZ:=@true_implies
def ZeJ:=@Array.mapM_eq_mapM_toList
def ZeK:=@Bool.and_assoc
def ZeL:=@List.isEmpty_eq_false_iff
def ZeM:=@Array.getElem?_push_size
def ZeN:=@Array.size_append
def ZeO:=@List.Pairwise.imp
def ZeP:=@List.Perm.eq_of_pairwise
def ZeQ:=@List.foldl_append
def ZeR:=@List.getElem?_take_of_lt
def gY:=@and_assoc
def ZeT:=@List.eraseIdx_cons_zero
def ZeU:=@List.filter_cons_of_pos
def ZeV:=@Nat.lt_irrefl
def ZeW:=@Bool.cond_eq_ite
def ZeX:=@List.filter_cons
def ZeY:=@Array.getElem?_push_lt
def ZeZ:=@List.filter_eq_nil_iff
def Zfa:=@Array.getElem?_mapIdx
def Zfb:=@Array.mem_of_getElem?
def Zfc:=@List.eraseIdx_sublist
def Zfd:=@List.head?_cons
def Zfe:=@List.length_filter_le
def Zff:=@List.range_zero
def Zfg:=@List.singleton_append
def Zfh:=@List.sum_nil
def Zfi:=@Nat.le_total
def Zfj:=@Nat.min_eq_left
def Zfk:=@Option.map_none
def Zfl:=@decide_false
def gZ:=@and_true
def Zfn:=@Array.toList_extract
def Zfo:=@List.length_eraseIdx
def Zfp:=@List.pairwise_append
def Zfq:=@List.drop_take
def Zfr:=@List.take_take
def Zfs:=@Option.none_or
def Zft:=@Nat.min_def
def Zfu:=@decide_true
def aT:=@eq_true
def Zfw:=@List.cons.inj
def Zfx:=@List.drop_nil
def Zfy:=@List.take_nil
def Zfz:=@Int.lt_or_le
def ZfA:=@Nat.le_of_eq
def xC:=@ite_self
def aS:=@not_or
end Go
namespace Go.Ae
def isG(_:Nat):Bool:=false
def zJ:Array Value:=(Lib.pow10Tab.map λz=>Value.int .u64 z).toArray
def GP(ok:Nat->Prop)(hp:Nat->Option Obj):Prop:=ok 0/\ ∃T z,hp 0=some (.cells zJ T z)
def GP.mono{ok ok':Nat->Prop}{hp hp':Nat->Option Obj}(h: ∀b o,ok b->hp b=some o->ok' b/\hp' b=some o)(Z:GP ok hp):GP ok' hp':=by
 obtain⟨z,T,Q,O⟩:=Z;exact⟨(h _ _ z O).1,T,Q,(h _ _ z O).2⟩
def GP.at{ok:Nat->Prop}{hp:Nat->Option Obj}(_:GP ok hp){g:Nat}(O:isG g=true):ok g/\ ∃t x T z,hp g=some (.cells #[.iface t x] T z):=by cases O
end Go.Ae
namespace Go.Ae
inductive KK where
 |int (k:IntKind)
 |str
 |bool
 deriving DecidableEq
structure KT where
 agg:Bool
 ks:List KK
 deriving DecidableEq
inductive D where
 |int (k:IntKind) (n:Int)
 |bool (b:Bool)
 |str (s:ByteArray)
 |nilp|nilf|nili|nilc|nilm
 |agg (cs:List D)
 |tup (cs:List D)
 |sl (nz:Bool) (k:Nat) (rows:List (List D))
 |ref (cs:List D)
 |mp (kt:KT) (es:List (D×D))
 |fn (f:FuncId) (first capt:List D)
 |ifc (t:TypeId) (d:D)
 |gp (g:Nat)
 |tok (g:Nat)
def KK.fit:KK->D->Bool
 | .int k,.int k' _=>k==k'
 | .str,.str _=>true
 | .bool,.bool _=>true
 |_,_=>false
def Bw:List KK->List D->Bool
 |[],[]=>true
 |k::ks,d::ds=>k.fit d && Bw ks ds
 |_,_=>false
def KT.fit(z:KT)(d:D):Bool:=
 match z.agg,d with
 |true,.agg ds=>Bw z.ks ds
 |false,d=>Bw z.ks [d]
 |_,_=>false
def Hy:Nat:=140737488355328
def VK(f:Nat):Fn:=if f<1000000000 then .func f else .yield (f - 1000000000)
def WU{f:Nat}(h:f<1000000000):VK f= .func f:=Ai h
def zH(nz:Bool)(v:Value):Prop:=v= .slice none 0 0\/(nz=false/\ ∃a,v= .slice (some a) 0 0)
def uU{nz:Bool}{v:Value}(h:zH nz v): ∃z,v= .slice z 0 0:=by
 rcases h with rfl|⟨_,a,rfl⟩<;>exact⟨_,rfl⟩
def Qr7{v:Value}(h:zH true v):v= .slice none 0 0:=by
 rcases h with rfl|⟨h,_⟩
 .rfl
 .cases h
def Pv{nz:Bool}{v:Value}(h:zH nz v):zH false v:=by
 rcases h with rfl|⟨_,a,rfl⟩
 .exact .inl rfl
 .exact .inr ⟨rfl,a,rfl⟩
mutual
def rd(ok:Nat->Prop)(hp:Nat->Option Obj):D->Value->Prop
 | .int k n,v=>v= .int k n
 | .bool b,v=>v= .bool b
 | .str s,v=>v= .string s
 | .nilp,v=>v= .pointer none
 | .nilf,v=>v= .nilFunc
 | .nili,v=>v= .nilIface
 | .nilc,v=>v= .chan none
 | .nilm,v=>v= .map none
 | .agg cs,v=> ∃vs:Array Value,v= .agg vs/\rdl ok hp cs vs.toList
 | .tup cs,v=> ∃vs:Array Value,v= .tuple vs/\rdl ok hp cs vs.toList
 | .sl nz k rows,v=>(zH nz v/\rows=[])\/
  ∃b p cap vs T Q,v= .slice (some ⟨b,p,none⟩) rows.length cap/\(nz=true->rows≠[])/\rows.length<=cap/\rows.length<=Hy/\ok b/\
   hp b=some (.cells vs T Q)/\rdr ok hp k rows (vs.toList.drop p)
 | .ref cs,v=> ∃b p vs T Q,v= .pointer (some ⟨b,p,none⟩)/\ok b/\hp b=some (.cells vs T Q)/\rdp ok hp cs (vs.toList.drop p)
 | .mp kt Z,v=> ∃b z O,v= .map (some b)/\(∀e∈Z,kt.fit e.1=true)/\ok b/\hp b=some (.map z O)/\rde ok hp Z z.toList/\(z.toList.map (·.born)).Nodup/\ ∀e∈z.toList,e.born<O
 | .fn f first capt,v=> ∃a c:Array Value,v= .func (VK f) a c/\rdl ok hp first a.toList/\rdl ok hp capt c.toList
 | .ifc t d,v=> ∃x,v= .iface t x/\rd ok hp d x
 | .gp g,v=>v= .pointer (some ⟨g,0,none⟩)
 | .tok g,v=>ok g/\(∃t x,v= .iface t x)/\ ∃T Q,hp g=some (.cells #[v] T Q)
def rdl(ok:Nat->Prop)(hp:Nat->Option Obj):List D->List Value->Prop
 |[],vs=>vs=[]
 |d::ds,vs=> ∃v r,vs=v::r/\rd ok hp d v/\rdl ok hp ds r
def rdp(ok:Nat->Prop)(hp:Nat->Option Obj):List D->List Value->Prop
 |[],_=>True
 |d::ds,vs=> ∃v r,vs=v::r/\rd ok hp d v/\rdp ok hp ds r
def rdr(ok:Nat->Prop)(hp:Nat->Option Obj)(k:Nat):List (List D)->List Value->Prop
 |[],_=>True
 |r::z,vs=>r.length=k/\rdp ok hp r vs/\rdr ok hp k z (vs.drop k)
def rde(ok:Nat->Prop)(hp:Nat->Option Obj):List (D×D)->List MapEntry->Prop
 |[],z=>z=[]
 |(x,y)::ds,z=> ∃e r,z=e::r/\rd ok hp x e.key/\rd ok hp y e.val/\rde ok hp ds r
end
section mono
variable {ok ok':Nat->Prop}{hp hp':Nat->Option Obj}
mutual
def GJ(h: ∀b,ok b->ok' b/\hp' b=hp b): ∀(d:D) (v:Value),rd ok hp d v->rd ok' hp' d v
 | .int _ _,_,hd=>by simpa only[rd] using hd
 | .bool _,_,hd=>by simpa only[rd] using hd
 | .str _,_,hd=>by simpa only[rd] using hd
 | .nilp,_,hd=>by simpa only[rd] using hd
 | .nilf,_,hd=>by simpa only[rd] using hd
 | .nili,_,hd=>by simpa only[rd] using hd
 | .nilc,_,hd=>by simpa only[rd] using hd
 | .nilm,_,hd=>by simpa only[rd] using hd
 | .gp _,_,hd=>by simpa only[rd] using hd
 | .tok g,v,hd=>by
   simp only[rd] at hd⊢;obtain⟨z,h3,T,fr,h2⟩:=hd;exact⟨(h g z).1,h3,T,fr,(h g z).2.trans h2⟩
 | .agg cs,v,hd=>by
   simp only[rd] at hd⊢;obtain⟨vs,rfl,z⟩:=hd;exact⟨vs,rfl,Lk h cs _ z⟩
 | .tup cs,v,hd=>by
   simp only[rd] at hd⊢;obtain⟨vs,rfl,z⟩:=hd;exact⟨vs,rfl,Lk h cs _ z⟩
 | .sl nz k rows,v,hd=>by
   simp only[rd] at hd⊢;rcases hd with hd|⟨b,p,cap,vs,T,fr,rfl,z,h2,h3,O,h5,h6⟩
   .exact .inl hd
   .exact .inr ⟨b,p,cap,vs,T,fr,rfl,z,h2,h3,(h b O).1,(h b O).2.trans h5,ZI h k rows _ h6⟩
 | .ref cs,v,hd=>by
   simp only[rd] at hd⊢;obtain⟨b,p,vs,T,fr,rfl,O,h5,h6⟩:=hd;exact⟨b,p,vs,T,fr,rfl,(h b O).1,(h b O).2.trans h5,V3 h cs _ h6⟩
 | .mp kt es,v,hd=>by
   simp only[rd] at hd⊢;obtain⟨b,Z,Q,rfl,h3,O,h5,h6,h7⟩:=hd;exact⟨b,Z,Q,rfl,h3,(h b O).1,(h b O).2.trans h5,Li h es _ h6,h7⟩
 | .fn f first capt,v,hd=>by
   simp only[rd] at hd⊢;obtain⟨a,c,rfl,z,h2⟩:=hd;exact⟨a,c,rfl,Lk h first _ z,Lk h capt _ h2⟩
 | .ifc t d,v,hd=>by
   simp only[rd] at hd⊢;obtain⟨x,rfl,z⟩:=hd;exact⟨x,rfl,GJ h d _ z⟩
def Lk(h: ∀b,ok b->ok' b/\hp' b=hp b): ∀(ds:List D) (vs:List Value),rdl ok hp ds vs->rdl ok' hp' ds vs
 |[],_,hd=>by simpa only[rdl] using hd
 |d::ds,vs,hd=>by
  simp only[rdl] at hd⊢;obtain⟨v,r,rfl,z,O⟩:=hd;exact⟨v,r,rfl,GJ h d v z,Lk h ds r O⟩
def V3(h: ∀b,ok b->ok' b/\hp' b=hp b): ∀(ds:List D) (vs:List Value),rdp ok hp ds vs->rdp ok' hp' ds vs
 |[],_,_=>by simp only[rdp]
 |d::ds,vs,hd=>by
  simp only[rdp] at hd⊢;obtain⟨v,r,rfl,z,O⟩:=hd;exact⟨v,r,rfl,GJ h d v z,V3 h ds r O⟩
def ZI(h: ∀b,ok b->ok' b/\hp' b=hp b)(k:Nat): ∀(z:List (List D)) (vs:List Value),rdr ok hp k z vs->rdr ok' hp' k z vs
 |[],_,_=>by simp only[rdr]
 |r::z,vs,hd=>by
  simp only[rdr] at hd⊢;exact⟨hd.1,V3 h r vs hd.2.1,ZI h k z _ hd.2.2⟩
def Li(h: ∀b,ok b->ok' b/\hp' b=hp b): ∀(ds:List (D×D)) (es:List MapEntry),rde ok hp ds es->rde ok' hp' ds es
 |[],_,hd=>by simpa only[rde] using hd
 |(x,y)::ds,es,hd=>by
  simp only[rde] at hd⊢;obtain⟨e,r,rfl,z,O,Q⟩:=hd;exact⟨e,r,rfl,GJ h x _ z,GJ h y _ O,Li h ds r Q⟩
end
end mono
def D.sc:D->Bool
 | .int _ _| .bool _| .str _| .nilp| .nilf| .nili| .nilc| .nilm=>true
 | .sl true _ []=>true
 |_=>false
def D.scs:D->Bool
 | .agg cs| .tup cs=>cs.all D.sc
 |d=>d.sc
def M7{ok ok':Nat->Prop}{hp hp':Nat->Option Obj}: ∀{d:D} {v:Value},d.sc=true->rd ok hp d v->rd ok' hp' d v:=by
 intro d v h hd;cases d
 case sl nz k rows=>
  cases nz<;>cases rows<;>simp only[D.sc,CE] at h;simp only[rd] at hd⊢;rcases hd with hd|⟨b,p,cap,vs,T,O,_,z,_⟩
  .exact .inl hd
  .exact absurd rfl (z trivial)
 all_goals simp_all [D.sc,rd]
def TW{ok ok':Nat->Prop}{hp hp':Nat->Option Obj}: ∀(ds:List D) (vs:List Value),ds.all D.sc=true->rdl ok hp ds vs->rdl ok' hp' ds vs
 |[],_,_,hd=>by simpa only[rdl] using hd
 |d::ds,vs,h,hd=>by
  simp only[rdl,JL,AN] at hd h⊢;obtain⟨v,r,rfl,z,O⟩:=hd;exact⟨v,r,rfl,M7 h.1 z,TW ds r h.2 O⟩
def W5{ok ok':Nat->Prop}{hp hp':Nat->Option Obj}: ∀{d:D} {v:Value},d.scs=true->rd ok hp d v->rd ok' hp' d v:=by
 intro d v h hd;cases d<;>simp only[D.scs] at h<;>try exact M7 h hd
 all_goals
  simp only[rd] at hd⊢;obtain⟨vs,rfl,z⟩:=hd;exact⟨vs,rfl,TW _ _ h z⟩
inductive AV where
 |any
 |im (d:D)
 |agg (cs:List AV)
 |tup (cs:List AV)
 |ptr (o off:Nat)
 |eptr (o i off:Nat)
 |own (o:Nat)
 |mp (o:Nat)
 |ch (o:Nat)
 |it (o:Nat)
 |osl (o a n:Nat)
 |clo (f:FuncId) (first capt:List AV)
 deriving Inhabited
inductive Ab where
 |cells (T:TypeId) (cs:List AV)
 |arr (T:TypeId) (k:Nat) (rows:List (List D))
 |arrA (T:TypeId) (k:Nat) (rows:List (List AV))
 |map (kt:KT) (es:List (D×D))
 |chan (q:List D) (cap:Nat)
 |iter (last:Option (D×D)) (left:List (D×D))
 |view (cs:List D)
def Ab.isView:Ab->Bool
 | .view _=>true
 | .cells _ _| .arr _ _ _| .arrA _ _ _| .map _ _| .chan _ _| .iter _ _=>false
abbrev Ao:=Bool×Ab
abbrev Ap:=List (Nat×Ao)
structure Ff where
 b:Nat
 p:Nat
 cap:Nat
structure Au where
 ρ:Nat->Option Ff
 ok:Nat->Prop
 h:Nat->Option Ao
 w:World
def Au.hp(S:Au):Nat->Option Obj:=λb=>S.w.heap[b]?
def Ab.len:Ab->Nat
 | .arr _ _ rows=>rows.length
 | .arrA _ _ rows=>rows.length
 |_=>0
def Ab.esz:Ab->Nat
 | .arr _ k _=>k
 | .arrA _ k _=>k
 |_=>0
def PW(r:Option Ff)(z len a n:Nat)(v:Value):Prop:=match r with
 |none=>v= .slice none 0 0/\n=0
 |some l=> ∃p O,v= .slice (some ⟨l.b,p,none⟩) n O/\n<=O/\(n≠0->p=l.p+a*z)/\a+n<=len
mutual
def Aa(S:Au):AV->Value->Prop
 | .any,_=>True
 | .im d,v=>rd S.ok S.hp d v
 | .agg cs,v=> ∃vs:Array Value,v= .agg vs/\AJ S cs vs.toList
 | .tup cs,v=> ∃vs:Array Value,v= .tuple vs/\AJ S cs vs.toList
 | .ptr o off,v=>v.oneCell'=true/\ ∀e,S.h o=some e-> ∃l,S.ρ o=some l/\v= .pointer (some ⟨l.b,l.p+off,none⟩)
 | .eptr o i off,v=>v.oneCell'=true/\ ∀e,S.h o=some e-> ∃l,S.ρ o=some l/\v= .pointer (some ⟨l.b,l.p+i*e.2.esz+off,none⟩)
 | .own o,v=>v.oneCell'=true/\ ∀e,S.h o=some e->match S.ρ o with
  |none=>v= .slice none 0 0
  |some l=>v= .slice (some ⟨l.b,l.p,none⟩) e.2.len l.cap
 | .mp o,v=>v.oneCell'=true/\ ∀e,S.h o=some e-> ∃l,S.ρ o=some l/\v= .map (some l.b)
 | .ch o,v=>v.oneCell'=true/\ ∀e,S.h o=some e-> ∃l,S.ρ o=some l/\v= .chan (some l.b)
 | .it o,v=>v.oneCell'=true/\ ∀e,S.h o=some e-> ∃l,S.ρ o=some l/\v= .pointer (some ⟨l.b,0,none⟩)
 | .osl o a n,v=>v.oneCell'=true/\ ∀e,S.h o=some e->PW (S.ρ o) e.2.esz e.2.len a n v
 | .clo f first capt,v=> ∃a c:Array Value,v= .func (VK f) a c/\AJ S first a.toList/\AJ S capt c.toList
def AJ(S:Au):List AV->List Value->Prop
 |[],vs=>vs=[]
 |x::xs,vs=> ∃v r,vs=v::r/\Aa S x v/\AJ S xs r
end
def Cu(S:Au):List AV->List Value->Prop
 |[],_=>True
 |x::xs,vs=> ∃v r,vs=v::r/\Aa S x v/\Cu S xs r
def BA(S:Au)(k:Nat):List (List AV)->List Value->Prop
 |[],_=>True
 |r::z,vs=>r.length=k/\Cu S r vs/\BA S k z (vs.drop k)
def SP(ok:Nat->Prop)(hp:Nat->Option Obj)(z:Array MapEntry)(O:Array Nat):Option (D×D)->Prop
 |none=>True
 |some (x,y)=> ∃st e,O.back? =some st/\z.find? (·.born==st)=some e/\rd ok hp x e.key/\rd ok hp y e.val
def An(S:Au)(l:Option Ff):Ab->Prop
 | .cells T cs=> ∃Q vs,l=some Q/\Q.p=0/\S.hp Q.b=some (.cells vs T (0,0))/\AJ S cs vs.toList
 | .arr T k rows=>rows.length<=Hy/\match l with
  |none=>rows=[]
  |some Q=>rows.length<=Q.cap/\ ∃vs,S.hp Q.b=some (.cells vs T (0,0))/\Q.p+Q.cap*k<=vs.size/\rdr S.ok S.hp k rows (vs.toList.drop Q.p)
 | .arrA T k rows=>rows.length<=Hy/\match l with
  |none=>rows=[]
  |some Q=>rows.length<=Q.cap/\ ∃vs,S.hp Q.b=some (.cells vs T (0,0))/\Q.p+Q.cap*k<=vs.size/\BA S k rows (vs.toList.drop Q.p)
 | .map kt es=> ∃Q z O,l=some Q/\(∀e∈es,kt.fit e.1=true)/\S.hp Q.b=some (.map z O)/\rde S.ok S.hp es z.toList/\
  (z.toList.map (·.born)).Nodup/\ ∀e∈z.toList,e.born<O
 | .chan q cap=> ∃Q aa ad ac,l=some Q/\S.hp Q.b=some (.chan cap aa false ad ac false)/\rdl S.ok S.hp q aa.toList
 | .iter ab left=> ∃Q mb z O Z,l=some Q/\S.ok mb/\SP S.ok S.hp z Z ab/\S.hp mb=some (.map z O)/\
  S.hp Q.b=some (.mapIter (some mb) O Z O)/\(z.toList.map (·.born)).Nodup/\(∀e∈z.toList,e.born<O)/\
  rde S.ok S.hp left (z.toList.filter λe=> !Z.contains e.born)
 | .view cs=> ∃Q vs T fr,l=some Q/\S.hp Q.b=some (.cells vs T fr)/\rdp S.ok S.hp cs (vs.toList.drop Q.p)
structure AU where
 w:World
 M:Nat->Prop
 ok:Nat->Prop
 n0:Nat
 h0:Nat->Option Ao
 ρ0:Nat->Option Ff
 ds:List Deferred
def AU.mk0(w:World)(M ok:Nat->Prop):AU:=⟨w,M,ok,0,λ_=>none,λ_=>none,[]⟩
def AU.Pre(C:AU)(S:Au):Prop:= ∀o,o<C.n0-> ∀e',S.h o=some e'-> ∃e,C.h0 o=some e/\S.ρ o=C.ρ0 o/\e'.2.esz=e.2.esz/\e'.2.len=e.2.len
structure Wf(C:AU)(S:Au):Prop where
 os:S.w.os=C.w.os
 tape:S.w.tape=C.w.tape
 output:S.w.output=C.w.output
 size:C.w.heap.size<=S.w.heap.size
 keep: ∀b,b<C.w.heap.size-> ¬C.M b->S.w.heap[b]? =C.w.heap[b]?
 ok0: ∀b,C.ok b->S.ok b
 ok1: ∀b,S.ok b->C.ok b\/C.w.heap.size<=b\/C.M b
 oks: ∀b,S.ok b->b<S.w.heap.size
 obj: ∀o e,S.h o=some e->An S (S.ρ o) e.2
 loc: ∀o e l,S.h o=some e->S.ρ o=some l->l.b<S.w.heap.size/\if e.1 then ¬S.ok l.b/\(C.w.heap.size<=l.b\/C.M l.b) else S.ok l.b\/e.2.isView=true
 inj: ∀o o' e e' l l',S.h o=some e->S.h o'=some e'->S.ρ o=some l->S.ρ o'=some l'->l.b=l'.b->(e.1||e'.1)=true->o=o'
 gl:GP (λb=>C.ok b/\ ¬C.M b) (λb=>C.w.heap[b]?)
def Wf.gp{C:AU}{S:Au}(h:Wf C S):GP S.ok S.hp:=by
 refine h.gl.mono λb o O z=>⟨h.ok0 b O.1,?_⟩
 have Q:b<C.w.heap.size:=by
  apply gK;intro hn
  have:C.w.heap[b]? =none:=Xm (by omega)
  rw[this] at z;cases z
 exact (h.keep b Q O.2).trans z
def Wf.glN{C:AU}{S:Au}(h:Wf C S){M:Nat->Prop}(O: ∀b,M b-> ¬S.ok b):GP (λb=>S.ok b/\ ¬M b) (λb=>S.w.heap[b]?):=
 h.gp.mono λb _ z Z=>⟨⟨z,λQ=>O b Q z⟩,Z⟩
mutual
def AV.bel(n:Nat):AV->Bool
 | .any=>true
 | .im _=>true
 | .agg cs=>AF n cs
 | .tup cs=>AF n cs
 | .ptr o _=>Nat.blt o n
 | .eptr o _ _=>Nat.blt o n
 | .own o=>Nat.blt o n
 | .mp o=>Nat.blt o n
 | .ch o=>Nat.blt o n
 | .it o=>Nat.blt o n
 | .osl o _ _=>Nat.blt o n
 | .clo _ a c=>AF n a && AF n c
def AF(n:Nat):List AV->Bool
 |[]=>true
 |x::r=>x.bel n && AF n r
end
mutual
def AV.nms:AV->List Nat
 | .any=>[]
 | .im _=>[]
 | .agg cs=>AA cs
 | .tup cs=>AA cs
 | .ptr o _=>[o]
 | .eptr o _ _=>[o]
 | .own o=>[o]
 | .mp o=>[o]
 | .ch o=>[o]
 | .it o=>[o]
 | .osl o _ _=>[o]
 | .clo _ a c=>AA a++AA c
def AA:List AV->List Nat
 |[]=>[]
 |x::r=>x.nms++AA r
end
def B5:List (List AV)->List Nat
 |[]=>[]
 |x::r=>AA x++B5 r
def Ab.nms:Ab->List Nat
 | .cells _ cs=>AA cs
 | .arr _ _ _=>[]
 | .arrA _ _ rows=>B5 rows
 | .map _ _=>[]
 | .chan _ _=>[]
 | .iter _ _=>[]
 | .view _=>[]
structure Bv(X:Nat->Prop)(S S':Au):Prop where
 ok: ∀b,S.ok b->S'.ok b/\S'.hp b=S.hp b
 nm: ∀o,X o-> ∀e',S'.h o=some e'-> ∃e,S.h o=some e/\S'.ρ o=S.ρ o/\e'.2.esz=e.2.esz/\e'.2.len=e.2.len
def Bv.refl(X:Nat->Prop)(S:Au):Bv X S S:=⟨λ_ h=>⟨h,rfl⟩,λ_ _ e' h=>⟨e',h,rfl,rfl,rfl⟩⟩
section
variable {X:Nat->Prop}{S S':Au}
mutual
def HA(hp:Bv X S S'): ∀(x:AV) (v:Value),(∀o∈x.nms,X o)->Aa S x v->Aa S' x v
 | .any,_,_,_=>by simp only[Aa]
 | .im d,v,_,h=>by
   simp only[Aa] at h⊢;exact GJ hp.ok d v h
 | .agg cs,v,O,h=>by
   simp only[Aa,AV.nms] at h O⊢;obtain⟨vs,rfl,h1⟩:=h;exact⟨vs,rfl,Vx hp cs _ O h1⟩
 | .tup cs,v,O,h=>by
   simp only[Aa,AV.nms] at h O⊢;obtain⟨vs,rfl,h1⟩:=h;exact⟨vs,rfl,Vx hp cs _ O h1⟩
 | .ptr o off,v,O,h=>by
   simp only[Aa,AV.nms,Bz,L0] at h O⊢;obtain⟨z,h⟩:=h;refine⟨z,?_⟩;intro e' Q;obtain⟨e,Z,hr,_,_⟩:=hp.nm o O e' Q;rw[hr];exact h e Z
 | .eptr o i off,v,O,h=>by
   simp only[Aa,AV.nms,Bz,L0] at h O⊢;obtain⟨z,h⟩:=h;refine⟨z,?_⟩;intro e' Q;obtain⟨e,Z,hr,hz,_⟩:=hp.nm o O e' Q;rw[hr,hz];exact h e Z
 | .own o,v,O,h=>by
   simp only[Aa,AV.nms,Bz,L0] at h O⊢;obtain⟨z,h⟩:=h;refine⟨z,?_⟩;intro e' Q;obtain⟨e,Z,hr,_,hl⟩:=hp.nm o O e' Q;rw[hr,hl];exact h e Z
 | .mp o,v,O,h=>by
   simp only[Aa,AV.nms,Bz,L0] at h O⊢;obtain⟨z,h⟩:=h;refine⟨z,?_⟩;intro e' Q;obtain⟨e,Z,hr,_,_⟩:=hp.nm o O e' Q;rw[hr];exact h e Z
 | .ch o,v,O,h=>by
   simp only[Aa,AV.nms,Bz,L0] at h O⊢;obtain⟨z,h⟩:=h;refine⟨z,?_⟩;intro e' Q;obtain⟨e,Z,hr,_,_⟩:=hp.nm o O e' Q;rw[hr];exact h e Z
 | .it o,v,O,h=>by
   simp only[Aa,AV.nms,Bz,L0] at h O⊢;obtain⟨z,h⟩:=h;refine⟨z,?_⟩;intro e' Q;obtain⟨e,Z,hr,_,_⟩:=hp.nm o O e' Q;rw[hr];exact h e Z
 | .osl o a n,v,O,h=>by
   simp only[Aa,AV.nms,Bz,L0] at h O⊢;obtain⟨z,h⟩:=h;refine⟨z,?_⟩;intro e' Q;obtain⟨e,Z,hr,hz,hl⟩:=hp.nm o O e' Q;rw[hr,hz,hl];exact h e Z
 | .clo f fi ca,v,O,h=>by
   simp only[Aa,AV.nms,Bn] at h O⊢;obtain⟨a,c,rfl,h1,h2⟩:=h;exact⟨a,c,rfl,Vx hp fi _ (λo ho=>O o (.inl ho)) h1,Vx hp ca _ (λo ho=>O o (.inr ho)) h2⟩
def Vx(hp:Bv X S S'): ∀(xs:List AV) (vs:List Value),(∀o∈AA xs,X o)->AJ S xs vs->AJ S' xs vs
 |[],_,_,h=>by simpa only[AJ] using h
 |x::xs,vs,O,h=>by
  simp only[AJ,AA,Bn] at h O⊢;obtain⟨v,r,rfl,Q,Z⟩:=h;exact⟨v,r,rfl,HA hp x v (λo z=>O o (.inl z)) Q,Vx hp xs r (λo z=>O o (.inr z)) Z⟩
end
def Qq7(hp:Bv X S S'): ∀(xs:List AV) (vs:List Value),(∀o∈AA xs,X o)->Cu S xs vs->Cu S' xs vs
 |[],_,_,_=>by simp only[Cu]
 |x::xs,vs,O,h=>by
  simp only[Cu,AA,Bn] at h O⊢;obtain⟨v,r,rfl,Q,Z⟩:=h;exact⟨v,r,rfl,HA hp x v (λo z=>O o (.inl z)) Q,Qq7 hp xs r (λo z=>O o (.inr z)) Z⟩
def tD(hp:Bv X S S')(k:Nat): ∀(z:List (List AV)) (vs:List Value),(∀o∈B5 z,X o)->BA S k z vs->BA S' k z vs
 |[],_,_,_=>by simp only[BA]
 |r::z,vs,Q,h=>by
  simp only[BA,B5,Bn] at h Q⊢;exact⟨h.1,Qq7 hp r vs (λo O=>Q o (.inl O)) h.2.1,tD hp k z _ (λo O=>Q o (.inr O)) h.2.2⟩
def Qly{ok ok':Nat->Prop}{hp hp':Nat->Option Obj}(h: ∀b,ok b->ok' b/\hp' b=hp b){z:Array MapEntry}{O:Array Nat}: ∀(l:Option (D×D)),SP ok hp z O l->SP ok' hp' z O l
 |none,_=>trivial
 |some (x,y),Q=>by
  obtain⟨st,e,a,b,c,d⟩:=Q;exact⟨st,e,a,b,GJ h x _ c,GJ h y _ d⟩
def Ho(hp:Bv X S S'){l:Option Ff}(hl: ∀z,l=some z->S'.hp z.b=S.hp z.b): ∀(e:Ab),(∀o∈e.nms,X o)->An S l e->An S' l e
 | .cells T cs,hx,h=>by
   simp only[An,Ab.nms] at h hx⊢;obtain⟨z,vs,O,Z,h3,h4⟩:=h;exact⟨z,vs,O,Z,(hl z O).trans h3,Vx hp cs _ hx h4⟩
 | .arr T k rows,hx,h=>by
   simp only[An] at h⊢;refine⟨h.1,?_⟩;cases l with
   |none=>exact h.2
   |some z=>
    obtain⟨h0,O,vs,Z,h3,h4⟩:=h;exact⟨O,vs,(hl z rfl).trans Z,h3,ZI hp.ok k rows _ h4⟩
 | .arrA T k rows,hx,h=>by
   simp only[An,Ab.nms] at h hx⊢;refine⟨h.1,?_⟩;cases l with
   |none=>exact h.2
   |some z=>
    obtain⟨h0,O,vs,Z,h3,h4⟩:=h;exact⟨O,vs,(hl z rfl).trans Z,h3,tD hp k rows _ hx h4⟩
 | .map kt es,_,h=>by
   simp only[An] at h⊢;obtain⟨z,aa,Q,O,h0,Z,h3,h4⟩:=h;exact⟨z,aa,Q,O,h0,(hl z O).trans Z,Li hp.ok es _ h3,h4⟩
 | .chan q cap,_,h=>by
   simp only[An] at h⊢;obtain⟨z,ag,af,ac,O,Z,h3⟩:=h;exact⟨z,ag,af,ac,O,(hl z O).trans Z,Lk hp.ok q _ h3⟩
 | .iter ab left,_,h=>by
   simp only[An] at h⊢;obtain⟨z,mb,aa,Q,ad,O,Z,h0,h3,h4,h5,h6,h7⟩:=h;exact⟨z,mb,aa,Q,ad,O,(hp.ok mb Z).1,Qly hp.ok ab h0,(hp.ok mb Z).2.trans h3,(hl z O).trans h4,h5,h6,Li hp.ok left _ h7⟩
 | .view cs,_,h=>by
   simp only[An] at h⊢;obtain⟨z,vs,T,fr,O,Z,h3⟩:=h;exact⟨z,vs,T,fr,O,(hl z O).trans Z,V3 hp.ok cs _ h3⟩
end
inductive TK where
 |bool
 |str
 |ptr (e:TypeId)
 |int (k:IntKind)
 |slice (e:TypeId)
 |array (n:Nat) (e:TypeId)
 |struct (fs:List (Nat×Nat))
 |map (k e:TypeId)
 |other
structure TI where
 size:Nat
 bytes:Nat
 agg:Bool
 kind:TK
 zero:List D
def zD:Value->D
 | .bool b=> .bool b
 | .int k n=> .int k n
 | .string s=> .str s
 | .pointer none=> .nilp
 | .slice none _ _=> .sl true 0 []
 | .map none=> .nilm
 | .chan none=> .nilc
 | .nilFunc=> .nilf
 |_=> .nili
def cA:Value->Bool
 | .bool _| .int _ _| .string _| .pointer none| .slice none 0 0| .map none| .chan none| .nilFunc| .nilIface=>true
 |_=>false
def zOf:Bool->Option Value->List D
 |true,some (.agg vs)=>bif vs.toList.all cA then vs.toList.map zD else []
 |false,some v=>bif cA v then [zD v] else []
 |_,_=>[]
def Xq:TypeDesc->Bool
 | .struct _| .array _ _=>true
 |_=>false
def Fx(P:Program):TypeDesc->TK
 | .int k=> .int k
 | .slice e=> .slice e
 | .array n e=> .array n e
 | .struct z=>bif z.toList.all (λf=>(P.info? f.type).isSome) then .struct (z.toList.map λf=>(f.offset,((P.info? f.type).map (·.size)).getD 0)) else .other
 | .map k e=> .map k e
 | .bool=> .bool
 | .string=> .str
 | .pointer e=> .ptr e
 |_=> .other
def tI(P:Program)(t:TypeId):Option TI:=
 match P.info? t,P.underlying t with
 |some i,some u=>some {size:=i.size,bytes:=i.bytes,agg:=Xq u,kind:=Fx P u,zero:=zOf (Xq u) i.zero}
 |_,_=>none
structure Bk where
 use:List Nat:=[]
 kill:List Nat:=[]
 new:Ap:=[]
 cnt:Nat:=0
structure Av where
 tm:List (Nat×AV)
 h:Ap
 nx:Nat
def A8:List (Nat×AV)->Nat->AV
 |[],_=> .any
 |(m,x)::r,n=>bif m==n then x else A8 r n
def hget:Ap->Nat->Option Ao
 |[],_=>none
 |(m,e)::r,n=>bif m==n then some e else hget r n
def Bj:Ap->List Nat->Ap
 |[],_=>[]
 |(m,e)::r,ks=>bif ks.contains m then Bj r ks else (m,e)::Bj r ks
def Av.put(s:Av)(dst:Option Nat)(x:AV):Av:=
 match dst with
 |some d=>⟨(d,x)::s.tm,s.h,s.nx⟩
 |none=>s
def Av.app(s:Av)(dst:Option Nat)(r:AV)(E:Bk):Av:=
 (⟨s.tm,E.new++Bj s.h E.kill,s.nx+E.cnt⟩:Av).put dst r
def kD:Value->AV
 | .bool b=> .im (.bool b)
 | .int k n=> .im (.int k n)
 | .string s=> .im (.str s)
 | .pointer none=> .im .nilp
 | .slice none 0 0=> .im (.sl true 0 [])
 | .map none=> .im .nilm
 | .chan none=> .im .nilc
 | .nilFunc=> .im .nilf
 | .nilIface=> .im .nili
 |_=> .any
def Ax(tm:List (Nat×AV)):Operand->AV
 | .tmp t=>A8 tm t
 | .const v=>kD v
 | .global g=> .im (.gp g)
 | .func f=>bif Nat.blt f 1000000000 then .im (.fn f [] []) else .any
def D.cells:D->List D
 | .agg ds=>ds
 | .int k n=>[.int k n]
 | .bool b=>[.bool b]
 | .str s=>[.str s]
 | .nilp=>[.nilp]
 | .nilf=>[.nilf]
 | .nili=>[.nili]
 | .nilc=>[.nilc]
 | .nilm=>[.nilm]
 | .tup cs=>[.tup cs]
 | .sl Q k rows=>[.sl Q k rows]
 | .ref cs=>[.ref cs]
 | .mp O z=>[.mp O z]
 | .fn f a c=>[.fn f a c]
 | .ifc t d=>[.ifc t d]
 | .gp g=>[.gp g]
 | .tok g=>[.tok g]
def AV.cells:AV->List AV
 | .im d=>d.cells.map .im
 | .agg cs=>cs
 | .any=>[]
 | .tup cs=>[.tup cs]
 | .ptr o p=>[.ptr o p]
 | .eptr o i p=>[.eptr o i p]
 | .own o=>[.own o]
 | .mp o=>[.mp o]
 | .ch o=>[.ch o]
 | .it o=>[.it o]
 | .osl o a n=>[.osl o a n]
 | .clo f a c=>[.clo f a c]
def D.one:D->Bool
 | .agg _| .tup _=>false
 | .int _ _| .bool _| .str _| .nilp| .nilf| .nili| .nilc| .nilm| .sl _ _ _| .ref _| .mp _ _| .fn _ _ _| .ifc _ _| .gp _| .tok _=>true
def AV.one:AV->Bool
 | .im d=>d.one
 | .agg _| .any| .tup _=>false
 | .ptr _ _| .eptr _ _ _| .own _| .mp _| .ch _| .it _| .osl _ _ _| .clo _ _ _=>true
def QY:List AV->Bool
 |[]=>true
 |x::r=>x.one && QY r
def AV.asD:AV->Option D
 | .im d=>some d
 | .agg _| .any| .tup _| .ptr _ _| .eptr _ _ _| .own _| .mp _| .ch _| .it _| .osl _ _ _| .clo _ _ _=>none
def NV:Option D->Option (List D)->Option (List D)
 |some d,some ds=>some (d::ds)
 |some _,none=>none
 |none,_=>none
def DC:List AV->Option (List D)
 |[]=>some []
 |x::r=>NV x.asD (DC r)
def Yo(cs:List AV):Option (List D)->AV
 |some ds=> .im (.agg ds)
 |none=> .agg cs
def hdV:List AV->AV
 |[]=> .any
 |x::_=>x
def oB:List D->D
 |[]=> .nilp
 |x::_=>x
def iZ(agg:Bool)(cs:List AV):AV:=
 bif agg then Yo cs (DC cs) else hdV cs
def bI(agg:Bool)(ds:List D):D:=bif agg then .agg ds else oB ds
def Cb{α:Type}(l:List α)(off:Nat)(x:List α):List α:=l.take off++x++l.drop (off+x.length)
abbrev Ah:=AV->Bk->Prop
mutual
def D.beq:D->D->Bool
 | .int _ a,.int _ b=>a==b
 | .bool a,.bool b=>a==b
 | .str a,.str b=>a==b
 | .agg a,.agg b=>D.beql a b
 |_,_=>false
def D.beql:List D->List D->Bool
 |[],[]=>true
 |a::r,b::s=>D.beq a b && D.beql r s
 |_,_=>false
end
def lk:List (D×D)->D->Option D
 |[],_=>none
 |(k,v)::r,x=>bif D.beq x k then some v else lk r x
def Gy:List (D×D)->D->D->List (D×D)
 |[],x,y=>[(x,y)]
 |(k,v)::r,x,y=>bif D.beq x k then (x,y)::r else (k,v)::Gy r x y
def Ja:List (D×D)->D->List (D×D)
 |[],_=>[]
 |(k,v)::r,x=>bif D.beq x k then r else (k,v)::Ja r x
def aD(P:Program)(O:TypeId->Option KT):List Field->Nat->Option (List KK)
 |[],_=>some []
 |f::Q,off=>
  match O f.type,P.info? f.type with
  |some z,some i=>
   bif f.offset==off && (f.name != "_" && i.size==z.ks.length) then (aD P O Q (off+z.ks.length)).map (z.ks++ ·) else none
  |_,_=>none
def Bp(P:Program):Nat->TypeId->Option KT
 |0,_=>none
 |n+1,t=>
  match P.underlying t with
  |some (.int k)=>some ⟨false,[.int k]⟩
  |some .string=>some ⟨false,[.str]⟩
  |some .bool=>some ⟨false,[.bool]⟩
  |some (.struct z)=>bif P.stoodInHeld t then none else (aD P (Bp P n) z.toList 0).map (⟨true,·⟩)
  |_=>none
def BN(P:Program)(t:TypeId):Option KT:=Bp P 5 t
def Ih{α:Type}(rows:List (List α))(i:Nat)(K:List α->Prop):Prop:= ∀row,rows[i]? =some row->K row
def FS(es:List (D×D))(kd:D)(Ks:D->Prop)(Kn:Prop):Prop:=(∀v,lk es kd=some v->Ks v)/\(lk es kd=none->Kn)
def fQ(ti:TI)(off:Nat)(E:Bk)(K:Ah)(row:List D):Prop:=(ti.agg=true\/ti.size=1)/\off+ti.size<=row.length/\K (.im (bI ti.agg ((row.drop off).take ti.size))) E
def vW(ti:TI)(off:Nat)(E:Bk)(K:Ah)(row:List AV):Prop:=(ti.agg=true\/ti.size=1)/\off+ti.size<=row.length/\K (iZ ti.agg ((row.drop off).take ti.size)) E
def Jj(ti:TI)(o off:Nat)(K:Ah):Option Ao->Prop
 |some (_,.cells _ cs)=>vW ti off {use:=[o]} K cs
 |some (_,.view cs)=>fQ ti off {use:=[o]} K cs
 |_=>False
def Ji(ti:TI)(o i off:Nat)(K:Ah):Option Ao->Prop
 |some (_,.arr _ _ rows)=>i<rows.length/\Ih rows i (fQ ti off {use:=[o]} K)
 |some (_,.arrA _ _ rows)=>i<rows.length/\Ih rows i (vW ti off {use:=[o]} K)
 |_=>False
def WW(h:Nat->Option Ao)(ti:TI)(K:Ah):AV->Prop
 | .im (.ref cs)=>fQ ti 0 {} K cs
 | .im (.gp g)=>isG g=true/\ti.size=1/\ti.agg=false/\K (.im (.tok g)) {}
 | .ptr o off=>Jj ti o off K (h o)
 | .eptr o i off=>Ji ti o i off K (h o)
 |_=>False
def Yg(o i off k z:Nat)(T:TypeId)(rows:List (List D))(K:Ah)(row:List D):Option (List D)->Prop
 |some ds=>off+z<=row.length/\K .any {use:=[o],kill:=[o],new:=[(o,(true,.arr T k (rows.set i (Cb row off ds))))]}
 |none=>False
def Qxz(o i off k z:Nat)(T:TypeId)(rows:List (List D))(ds:Option (List D))(K:Ah)(row:List D):Prop:=Yg o i off k z T rows K row ds
def Qyo(o i off k z:Nat)(T:TypeId)(rows:List (List AV))(vs:List AV)(K:Ah)(row:List AV):Prop:=
 off+z<=row.length/\K .any {use:=[o],kill:=[o],new:=[(o,(true,.arrA T k (rows.set i (Cb row off vs))))]}
def U5(ti:TI)(o off:Nat)(vs:List AV)(K:Ah):Option Ao->Prop
 |some (true,.cells T cs)=>off+ti.size<=cs.length/\K .any {use:=[o],kill:=[o],new:=[(o,(true,.cells T (Cb cs off vs)))]}
 |_=>False
def Jx(ti:TI)(o i off:Nat)(vs:List AV)(K:Ah):Option Ao->Prop
 |some (true,.arr T k rows)=>i<rows.length/\Ih rows i (Qxz o i off k ti.size T rows (DC vs) K)
 |some (true,.arrA T k rows)=>i<rows.length/\Ih rows i (Qyo o i off k ti.size T rows vs K)
 |_=>False
def tG(h:Nat->Option Ao)(ti:TI)(vs:List AV)(K:Ah):AV->Prop
 | .ptr o off=>U5 ti o off vs K (h o)
 | .eptr o i off=>Jx ti o i off vs K (h o)
 |_=>False
def Qri(h:Nat->Option Ao)(x v:AV)(K:Ah)(ti:TI):Prop:=
 ti.size≠0/\v.cells.length=ti.size/\QY v.cells=true/\tG h ti v.cells K x
def Rp(o:Nat)(x:AV)(K:Ah):Option Ao->Prop
 |some _=>K x {use:=[o]}
 |none=>False
def K9(h:Nat->Option Ao)(off:Nat)(K:Ah):AV->Prop
 | .im (.ref cs)=>off<=cs.length/\K (.im (.ref (cs.drop off))) {}
 | .ptr o p=>Rp o (.ptr o (p+off)) K (h o)
 | .eptr o i p=>Rp o (.eptr o i (p+off)) K (h o)
 |_=>False
def XK(h:Nat->Option Ao)(x:AV)(K:Ah):Option (Nat×Nat)->Prop
 |some (off,z)=>z≠0/\K9 h off K x
 |none=>False
def faK(h:Nat->Option Ao)(x:AV)(f:Nat)(K:Ah):TK->Prop
 | .struct z=>XK h x K z[f]?
 |_=>False
def Qhg(h:Nat->Option Ao)(x:AV)(f:Nat)(K:Ah)(ti:TI):Prop:=faK h x f K ti.kind
def xZ(K:Ah)(row:List D):Prop:=K (.im (.ref row)) {}
def LZ(o:Nat)(n:Int)(K:Ah)(z:TI):Option Ao->Prop
 |some (_,.arr _ k rows)=>k=z.size/\0<=n/\n<(rows.length:Int)/\K (.eptr o n.toNat 0) {use:=[o]}
 |some (_,.arrA _ k rows)=>k=z.size/\0<=n/\n<(rows.length:Int)/\K (.eptr o n.toNat 0) {use:=[o]}
 |_=>False
def XZ(h:Nat->Option Ao)(n:Int)(K:Ah)(x:AV)(z:TI):Prop:=
 match x with
 | .im (.sl _ k rows)=>k=z.size/\0<=n/\n<(rows.length:Int)/\Ih rows n.toNat (xZ K)
 | .own o=>LZ o n K z (h o)
 |_=>False
def LY(h:Nat->Option Ao)(m:Nat)(n:Int)(K:Ah)(x:AV)(z:TI):Prop:=
 match x with
 | .ptr o p=>0<=n/\n<(m:Int)/\Rp o (.ptr o (p+n.toNat*z.size)) K (h o)
 | .im (.ref cs)=>0<=n/\n<(m:Int)/\n.toNat*z.size<=cs.length/\K (.im (.ref (cs.drop (n.toNat*z.size)))) {}
 |_=>False
def Bg(f:TI->Prop):Option TI->Prop
 |some ti=>f ti
 |none=>False
def xU(P:Program)(h:Nat->Option Ao)(x:AV)(n:Int)(K:Ah):TK->Prop
 | .slice e=>Bg (XZ h n K x) (tI P e)
 | .array m e=>Bg (LY h m n K x) (tI P e)
 |_=>False
def Qjp(P:Program)(h:Nat->Option Ao)(x:AV)(ti:TI)(K:Ah):AV->Prop
 | .im (.int _ n)=>xU P h x n K ti.kind
 |_=>False
def SI(m:Nat)(n:Int)(cs:List D)(K:Ah)(z:TI):Prop:=
 (z.agg=true\/z.size=1)/\0<=n/\n<(m:Int)/\n.toNat*z.size+z.size<=cs.length/\K (.im (bI z.agg ((cs.drop (n.toNat*z.size)).take z.size))) {}
def cB(s:ByteArray)(i:Nat)(K:UInt8->Prop):Prop:= ∀c,s.data[i]? =some c->K c
def kCh(K:Ah)(c:UInt8):Prop:=K (.im (.int .u8 c.toNat)) {}
def ixK(P:Program)(n:Int)(K:Ah):TK->AV->Prop
 | .array m e,.im (.agg cs)=>Bg (SI m n cs K) (tI P e)
 | .str,.im (.str s)=>0<=n/\n<(s.size:Int)/\cB s n.toNat (kCh K)
 |_,_=>False
def Qxc(P:Program)(x:AV)(ti:TI)(K:Ah):AV->Prop
 | .im (.int _ n)=>ixK P n K ti.kind x
 |_=>False
def G9:BinOp->Nat
 | .shr=>1
 | .shl=>2
 | .add| .sub| .mul| .quo| .rem| .and| .or| .xor| .andNot| .eql| .neq| .lss| .leq| .gtr| .geq=>0
def Xr(k:IntKind)(a b:Int):Int:=k.wrap ((BitVec.ofInt k.bits a &&& BitVec.ofInt k.bits b).toNat:Int)
def orI(k:IntKind)(a b:Int):Int:=k.wrap ((BitVec.ofInt k.bits a|||BitVec.ofInt k.bits b).toNat:Int)
def zN(k:IntKind)(a b:Int):Int:=k.wrap ((BitVec.ofInt k.bits a^^^BitVec.ofInt k.bits b).toNat:Int)
def IM(op:BinOp)(k:IntKind)(a b:Int)(K:Ah):Prop:=
 match op with
 | .add=>K (.im (.int k (k.wrap (a+b)))) {}
 | .sub=>K (.im (.int k (k.wrap (a - b)))) {}
 | .mul=>K (.im (.int k (k.wrap (a*b)))) {}
 | .quo=>b≠0/\K (.im (.int k (k.wrap (a.tdiv b)))) {}
 | .rem=>b≠0/\K (.im (.int k (a.tmod b))) {}
 | .eql=>K (.im (.bool (decide (a=b)))) {}
 | .neq=>K (.im (.bool (!decide (a=b)))) {}
 | .lss=>K (.im (.bool (decide (a<b)))) {}
 | .leq=>K (.im (.bool (decide (a<=b)))) {}
 | .gtr=>K (.im (.bool (decide (b<a)))) {}
 | .geq=>K (.im (.bool (decide (b<=a)))) {}
 | .and=>K (.im (.int k (Xr k a b))) {}
 | .or=>K (.im (.int k (orI k a b))) {}
 | .xor=>K (.im (.int k (zN k a b))) {}
 |_=>False
def nX(neg:Bool)(K:Ah)(b:Bool):Prop:=K (.im (.bool (neg !=b))) {}
def Sf(neg:Bool)(K:Ah):AV->Prop
 | .im (.sl true _ rows)=>nX neg K rows.isEmpty
 |_=>False
def vM(h:Nat->Option Ao)(neg:Bool)(K:Ah):AV->Prop
 | .im .nilp=>nX neg K true
 | .im (.ref _)=>nX neg K false
 | .ptr o _=>Rp o (.im (.bool neg)) K (h o)
 | .eptr o _ _=>Rp o (.im (.bool neg)) K (h o)
 |_=>False
def VX(h:Nat->Option Ao)(neg:Bool)(K:Ah):AV->Prop
 | .im .nilm=>nX neg K true
 | .im (.mp _ _)=>nX neg K false
 | .mp o=>Rp o (.im (.bool neg)) K (h o)
 |_=>False
def WR(h:Nat->Option Ao)(neg:Bool)(K:Ah)(x:AV):Nat->TK->Prop
 |0,.slice _=>Sf neg K x
 |1,.ptr _=>vM h neg K x
 |2,.map _ _=>VX h neg K x
 |_,_=>False
def NG(op:BinOp)(a b:ByteArray)(K:Ah):Prop:=
 match op with
 | .eql=>K (.im (.bool (decide (a=b)))) {}
 | .neq=>K (.im (.bool (!decide (a=b)))) {}
 | .add=>a.size+b.size<=9223372036854775807/\K (.im (.str (a++b))) {}
 |_=>False
def J1(op:BinOp)(a b:Bool)(K:Ah):Prop:=
 match op with
 | .eql=>K (.im (.bool (a==b))) {}
 | .neq=>K (.im (.bool (a !=b))) {}
 |_=>False
def Nb(op:BinOp)(a b:Bool)(K:Ah):Option TI->Prop
 |some ti=>ti.kind= .bool/\J1 op a b K
 |none=>False
def uW(op:BinOp)(a b:List D)(K:Ah):Prop:=
 match op with
 | .eql=>K (.im (.bool (D.beql a b))) {}
 | .neq=>K (.im (.bool (!D.beql a b))) {}
 |_=>False
def uS(P:Program)(T:TypeId)(op:BinOp)(a b:List D)(K:Ah):Option KT->Prop
 |some z=>z.fit (.agg a)=true/\z.fit (.agg b)=true/\P.eqGuardType P.depth T=false/\uW op a b K
 |none=>False
def ZR(op:BinOp)(k:IntKind)(a:Int)(k':IntKind)(b:Int)(K:Ah):Nat->Prop
 |0=>k=k'/\IM op k a b K
 |1=>0<=b/\K (.im (.int k (a.fdiv (2^min b.toNat k.bits)))) {}
 |_+2=>0<=b/\K (.im (.int k (k.wrap (a*2^min b.toNat k.bits)))) {}
def fW(P:Program)(T:TypeId)(op:BinOp)(K:Ah):AV->AV->Prop
 | .im (.int k a),.im (.int k' b)=>ZR op k a k' b K (G9 op)
 | .im (.str a),.im (.str b)=>NG op a b K
 | .im (.bool a),.im (.bool b)=>Nb op a b K (tI P T)
 | .im (.agg a),.im (.agg b)=>uS P T op a b K (BN P T)
 |_,_=>False
def Zb(K:Ah):UnOp->AV->Prop
 | .not,.im (.bool b)=>K (.im (.bool (!b))) {}
 | .neg,.im (.int k n)=>K (.im (.int k (k.wrap (-n)))) {}
 |_,_=>False
def aA(cells:List AV)(vs:List AV):Option (Nat×Nat)->Option (List AV)
 |none=>none
 |some (off,size)=>bif vs.length==size && (Nat.blt 0 size && Nat.ble (off+size) cells.length) then some (Cb cells off vs) else none
def HC(place:Nat->Option (Nat×Nat)):List (Nat×AV)->Option (List AV)->Option (List AV)
 |[],r=>r
 |_::_,none=>none
 |(i,v)::z,some cells=>HC place z (aA cells v.cells (place i))
def Js(k i:Nat):Option (Nat×Nat):=some (i*k,k)
def M3(z:List (Nat×Nat))(i:Nat):Option (Nat×Nat):=z[i]?
def NA(K:Ah):Option (List AV)->Prop
 |some cs=>K (iZ true cs) {}
 |none=>False
def Rx(Q:List AV)(z:List (Nat×AV))(K:Ah)(O:TI):Prop:=NA K (HC (Js O.size) z (some Q))
def xM(P:Program)(O:List AV)(z:List (Nat×AV))(K:Ah):TK->Prop
 | .struct Q=>NA K (HC (M3 Q) z (some O))
 | .array _ e=>Bg (Rx O z K) (tI P e)
 |_=>False
def Qsy(P:Program)(z:List (Nat×AV))(K:Ah)(ti:TI):Prop:=ti.zero.length=ti.size/\ti.size≠0/\xM P (ti.zero.map .im) z K ti.kind
def Ib{α:Type}(k:Nat):Nat->List α->List (List α)
 |0,_=>[]
 |n+1,l=>l.take k::Ib k n (l.drop k)
def Ch{α:Type}:Nat->List α->List α
 |0,_=>[]
 |n+1,z=>z++Ch n z
def IW(nx len e k:Nat)(cs:List AV)(K:Ah):Option (List D)->Prop
 |some ds=>K (.own nx) {new:=[(nx,(true,.arr e k (Ib k len ds)))],cnt:=1}
 |none=>K (.own nx) {new:=[(nx,(true,.arrA e k (Ib k len cs)))],cnt:=1}
def LA(nx len e k:Nat)(K:Ah):Option (List AV)->Prop
 |some cs=>IW nx len e k cs K (DC cs)
 |none=>False
def bsE(nx len e:Nat)(z:List (Nat×AV))(K:Ah)(O:TI):Prop:=
 O.zero.length=O.size/\O.size≠0/\len*O.size<=16777216/\LA nx len e O.size K (HC (Js O.size) z (some (Ch len (O.zero.map .im))))
def bsK(P:Program)(nx len:Nat)(z:List (Nat×AV))(K:Ah):TK->Prop
 | .slice e=>Bg (bsE nx len e z K) (tI P e)
 |_=>False
def zT(P:Program)(nx len:Nat)(z:List (Nat×AV))(K:Ah)(ti:TI):Prop:=bsK P nx len z K ti.kind
def msE(nx e:Nat)(n m:Int)(K:Ah)(z:TI):Prop:=
 z.size≠0/\0<=n/\n<=m/\m<=1073741824/\z.bytes<=65536/\z.zero.length=z.size/\
  K (.own nx) {new:=[(nx,(true,.arr e z.size (List.replicate n.toNat z.zero)))],cnt:=1}
def msK(P:Program)(nx:Nat)(K:Ah):TK->AV->AV->Prop
 | .slice e,.im (.int .i64 n),.im (.int .i64 m)=>Bg (msE nx e n m K) (tI P e)
 |_,_,_=>False
def Qhl(P:Program)(nx:Nat)(l c:AV)(K:Ah)(ti:TI):Prop:=msK P nx K ti.kind l c
inductive Src where
 |d (u:List Nat) (k:Nat) (rows:List (List D))
 |a (u:List Nat) (k:Nat) (rows:List (List AV))
 |no
def ZV(o:Nat):Option Ao->Src
 |some (_,.arr _ k rows)=> .d [o] k rows
 |some (_,.arrA _ k rows)=> .a [o] k rows
 |_=> .no
def FJ(s:ByteArray):List (List D):=s.data.toList.map λb=>[.int .u8 b.toNat]
def Df(h:Nat->Option Ao):AV->Src
 | .im (.sl _ k rows)=> .d [] k rows
 | .im (.str s)=> .d [] 1 (FJ s)
 | .own o=>ZV o (h o)
 |_=> .no
def Be(rows:List (List D)):List (List AV):=rows.map λr=>r.map .im
def BT:List D->Bool
 |[]=>true
 |x::r=>x.one && BT r
def Ck{α:Type}(f:List α->Bool)(rows:List (List α)):Prop:= ∀row∈rows,f row=true
def Src.okOne:Src->Prop
 | .d _ _ rows=>Ck BT rows
 | .a _ _ rows=>Ck QY rows
 | .no=>False
def N5(nx e:Nat)(z:TI)(K:Ah):Src->Prop
 | .d u k rows=>(k=z.size\/rows=[])/\(rows.length+512)*z.bytes<=140737488355328/\K (.own nx) {use:=u,new:=[(nx,(true,.arr e z.size rows))],cnt:=1}
 | .a u k rows=>k=z.size/\(rows.length+512)*z.bytes<=140737488355328/\K (.own nx) {use:=u,kill:=u,new:=[(nx,(true,.arrA e z.size rows))],cnt:=1}
 | .no=>False
def nW(nx e o:Nat)(z:TI)(rows0:List (List D))(K:Ah):Src->Prop
 | .d u k rows=>(k=z.size\/rows=[])/\u≠[o]/\(rows0.length+rows.length+512)*z.bytes<=140737488355328/\
  K (.own nx) {use:=o::u,kill:=[o],new:=[(nx,(true,.arr e z.size (rows0++rows)))],cnt:=1}
 | .a u k rows=>k=z.size/\u≠[o]/\(rows0.length+rows.length+512)*z.bytes<=140737488355328/\
  K (.own nx) {use:=o::u,kill:=o::u,new:=[(nx,(true,.arrA e z.size (Be rows0++rows)))],cnt:=1}
 | .no=>False
def nV(nx e o:Nat)(z:TI)(rows0:List (List AV))(K:Ah):Src->Prop
 | .d u k rows=>(k=z.size\/rows=[])/\u≠[o]/\(rows0.length+rows.length+512)*z.bytes<=140737488355328/\
  K (.own nx) {use:=o::u,kill:=[o],new:=[(nx,(true,.arrA e z.size (rows0++Be rows)))],cnt:=1}
 | .a u k rows=>k=z.size/\u≠[o]/\(rows0.length+rows.length+512)*z.bytes<=140737488355328/\
  K (.own nx) {use:=o::u,kill:=o::u,new:=[(nx,(true,.arrA e z.size (rows0++rows)))],cnt:=1}
 | .no=>False
def IU(nx e o:Nat)(O:TI)(src:Src)(K:Ah):Option Ao->Prop
 |some (true,.arr T k z)=>T=e/\k=O.size/\nW nx e o O z K src
 |some (true,.arrA T k z)=>T=e/\k=O.size/\nV nx e o O z K src
 |_=>False
def Rr(h:Nat->Option Ao)(nx e:Nat)(z:TI)(src:Src)(K:Ah):AV->Prop
 | .im (.sl true _ [])=>N5 nx e z K src
 | .own o=>IU nx e o z src K (h o)
 |_=>False
def apE(h:Nat->Option Ao)(nx e:Nat)(s:AV)(src:Src)(K:Ah)(z:TI):Prop:=
 z.size≠0/\z.zero.length=z.size/\z.bytes≠0/\src.okOne/\Rr h nx e z src K s
def apK(P:Program)(h:Nat->Option Ao)(nx:Nat)(s:AV)(src:Src)(K:Ah):TK->Prop
 | .slice e=>Bg (apE h nx e s src K) (tI P e)
 |_=>False
def Qsl(P:Program)(h:Nat->Option Ao)(nx:Nat)(s x:AV)(K:Ah)(ti:TI):Prop:=apK P h nx s (Df h x) K ti.kind
def FC(K:Ah)(E:Bk)(n:Nat):Prop:=K (.im (.int .i64 n)) E
def Qxr(z:Bool)(o:Nat)(K:Ah):Option Ao->Prop
 |some (_,.arr _ _ rows)=>(z=true->rows.length<=140737488355328)->FC K {use:=[o]} rows.length
 |some (_,.arrA _ _ rows)=>(z=true->rows.length<=140737488355328)->FC K {use:=[o]} rows.length
 |_=>False
def Mf(o:Nat)(K:Ah):Option Ao->Prop
 |some (_,.map _ z)=>FC K {use:=[o]} z.length
 |_=>False
def iW(o n:Nat)(K:Ah):Option Ao->Prop
 |some _=>FC K {use:=[o]} n
 |none=>False
def fV(z:Bool)(h:Nat->Option Ao)(K:Ah):AV->Prop
 | .osl o _ n=>iW o n K (h o)
 | .im (.sl _ _ rows)=>(z=true->rows.length<=140737488355328)->FC K {} rows.length
 | .own o=>Qxr z o K (h o)
 |_=>False
def SR(K:Ah):AV->Prop
 | .im (.str s)=>FC K {} s.size
 |_=>False
def vS(h:Nat->Option Ao)(K:Ah):AV->Prop
 | .im (.mp _ z)=>FC K {} z.length
 | .im .nilm=>FC K {} 0
 | .mp o=>Mf o K (h o)
 |_=>False
def Fu(z:Bool)(h:Nat->Option Ao)(K:Ah)(x:AV):TK->Prop
 | .slice _=>fV z h K x
 | .str=>SR K x
 | .map _ _=>vS h K x
 | .bool| .ptr _| .int _| .array _ _| .struct _| .other=>False
def gA(z:Bool)(h:Nat->Option Ao)(x:AV)(K:Ah)(ti:TI):Prop:=Fu z h K x ti.kind
def Qy3(ok:Bool)(E:Bk)(K:Ah)(v:D):Prop:=K (bif ok then .tup [.im v,.im (.bool true)] else .im v) E
def Jg(z:TI)(ok:Bool)(E:Bk)(K:Ah):Prop:=z.zero.length=z.size/\(z.agg=true\/z.size=1)/\z.size≠0/\K (bif ok then .tup [.im (bI z.agg z.zero),.im (.bool false)] else .im (bI z.agg z.zero)) E
def Ta(o:Nat)(Q:KT)(kd:D)(ok:Bool)(Z:TI)(K:Ah):Option Ao->Prop
 |some (_,.map z O)=>z=Q/\FS O kd (Qy3 ok {use:=[o]} K) (Jg Z ok {use:=[o]} K)
 |_=>False
def gB(h:Nat->Option Ao)(Q:KT)(kd:D)(ok:Bool)(O:TI)(K:Ah):AV->Prop
 | .im (.mp z Z)=>z=Q/\FS Z kd (Qy3 ok {} K) (Jg O ok {} K)
 | .im .nilm=>Jg O ok {} K
 | .mp o=>Ta o Q kd ok O K (h o)
 |_=>False
def Ym(h:Nat->Option Ao)(m:AV)(kd:D)(ok:Bool)(K:Ah)(O:TI):Option KT->Prop
 |some z=>z.fit kd=true/\gB h z kd ok O K m
 |none=>False
def luE(P:Program)(h:Nat->Option Ao)(m:AV)(kd:D)(ok:Bool)(K:Ah)(k:TypeId)(z:TI):Prop:=Ym h m kd ok K z (BN P k)
def luK(P:Program)(h:Nat->Option Ao)(m:AV)(ok:Bool)(K:Ah):TK->AV->Prop
 | .map k e,.im z=>Bg (luE P h m z ok K k) (tI P e)
 |_,_=>False
def Qnn(P:Program)(h:Nat->Option Ao)(m k:AV)(ok:Bool)(K:Ah)(ti:TI):Prop:=luK P h m ok K ti.kind k
def Tn(o:Nat)(z:KT)(kd Z:D)(K:Ah):Option Ao->Prop
 |some (true,.map O Q)=>O=z/\z.fit kd=true/\K .any {use:=[o],kill:=[o],new:=[(o,(true,.map z (Gy Q kd Z)))]}
 |_=>False
def Tm(h:Nat->Option Ao)(o:Nat)(kd O:D)(K:Ah):Option KT->Prop
 |some z=>Tn o z kd O K (h o)
 |none=>False
def KG(P:Program)(h:Nat->Option Ao)(o:Nat)(kd z:D)(K:Ah):TK->Prop
 | .map k _=>Tm h o kd z K (BN P k)
 | .bool| .str| .ptr _| .int _| .array _ _| .struct _| .slice _| .other=>False
def muF(n:Nat)(e:Ab)(K:Ah)(r:AV)(E:Bk):Prop:=E.kill.contains n=false/\K r {use:=n::E.use,kill:=n::E.kill,new:=E.new++[(n,(false,e))],cnt:=E.cnt}
def Tp(P:Program)(h:Nat->Option Ao)(o n:Nat)(kd:D)(K:Ah)(z:TK):Option Ao->Prop
 |some (_,.arr T k rows)=>(o==n)=false/\KG P h o kd (.sl false k rows) (muF n (.arr T k rows) K) z
 |_=>False
def lP(P:Program)(h:Nat->Option Ao)(K:Ah)(m k v:AV)(ti:TI):Prop:=
 match m,k,v with
 | .mp o,.im z,.im O=>KG P h o z O K ti.kind
 | .mp o,.im z,.own n=>Tp P h o n z K ti.kind (h n)
 |_,_,_=>False
def RU(o:Nat)(z:KT)(kd:D)(K:Ah):Option Ao->Prop
 |some (true,.map O Q)=>O=z/\z.fit kd=true/\K .any {use:=[o],kill:=[o],new:=[(o,(true,.map z (Ja Q kd)))]}
 |_=>False
def X9(h:Nat->Option Ao)(o:Nat)(kd:D)(K:Ah):Option KT->Prop
 |some z=>RU o z kd K (h o)
 |none=>False
def RT(P:Program)(h:Nat->Option Ao)(o:Nat)(kd:D)(K:Ah):TK->Prop
 | .map k _=>X9 h o kd K (BN P k)
 | .bool| .str| .ptr _| .int _| .array _ _| .struct _| .slice _| .other=>False
def Qni(P:Program)(h:Nat->Option Ao)(K:Ah)(m k:AV)(ti:TI):Prop:=
 match m,k with
 | .mp o,.im z=>RT P h o z K ti.kind
 |_,_=>False
def exA(K:Ah):Option AV->Prop
 |some c=>K c {}
 |none=>False
def exD(K:Ah):Option D->Prop
 |some d=>K (.im d) {}
 |none=>False
def lS(i:Nat)(K:Ah):AV->Prop
 | .tup cs=>exA K cs[i]?
 | .im (.tup ds)=>exD K ds[i]?
 |_=>False
def lT(h:Nat->Option Ao)(K:Ah):AV->Prop
 | .im (.ref cs)=>K (.im (.ref cs)) {}
 | .im (.ifc t d)=>K (.im (.ifc t d)) {}
 | .ptr o p=>Rp o (.ptr o p) K (h o)
 | .eptr o i p=>Rp o (.eptr o i p) K (h o)
 |_=>False
abbrev Dt:=FuncId->List AV->(Nat->Option Ao)->Nat->Ah->Prop
def QD(V:Dt)(args:List AV)(h:Nat->Option Ao)(nx:Nat)(K:Ah):AV->Prop
 | .im (.fn g first capt)=>V g ((first.map .im)++args++(capt.map .im)) h nx K
 | .clo g first capt=>V g (first++args++capt) h nx K
 |_=>False
def Q5:Option TI->Option TK
 |some ti=>some ti.kind
 |none=>none
def Qjk(nx e:Nat)(K:Ah)(z:TI):Prop:=K (.own nx) {new:=[(nx,(true,.arr e z.size []))],cnt:=1}
def Qg6(P:Program)(nx:Nat)(K:Ah):Option TK->Prop
 |some (.slice e)=>Bg (Qjk nx e K) (tI P e)
 |_=>False
def QS:Value->Bool
 | .slice none 0 0=>true
 |_=>false
def WF:Operand->Bool
 | .const v=>QS v
 | .tmp _| .global _| .func _=>false
def Qk7(P:Program)(nx:Nat)(T:TypeId)(v:AV)(K:Ah):Bool->Prop
 |true=>Qg6 P nx K (Q5 (tI P T))
 |false=>K v {}
def Qm9(P:Program)(tm:List (Nat×AV))(nx:Nat)(T:TypeId)(K:Ah)(x:Operand):Prop:=Qk7 P nx T (Ax tm x) K (WF x && !(T==251))
def M1(c:Bool)(K:Ah)(a b:AV):Prop:=(c=true->K a {})/\(c=false->K b {})
def Qzp(a b:AV)(K:Ah):AV->Prop
 | .im (.bool c)=>M1 c K a b
 |_=>False
def Qsv(nx T:Nat)(K:Ah)(ti:TI):Prop:=ti.zero.length=ti.size/\ti.size≠0/\K (.ptr nx 0) {new:=[(nx,(true,.cells T (ti.zero.map .im)))],cnt:=1}
def UR(nx T:Nat)(K:Ah)(cs:List AV):Prop:=cs≠[]/\K (.ptr nx 0) {new:=[(nx,(true,.cells T cs))],cnt:=1}
def Gu:Value->Nat
 | .slice none 0 0=>1
 | .pointer none=>2
 | .map none=>3
 | .nilIface=>4
 |_=>0
def Gs:Operand->Nat
 | .const v=>Gu v
 | .tmp _| .global _| .func _=>0
def mL(h:Nat->Option Ao)(op:BinOp)(x:AV)(K:Ah)(n:Nat)(ti:TI):Prop:=
 match op with
 | .eql=>WR h false K x n ti.kind
 | .neq=>WR h true K x n ti.kind
 |_=>False
def UQ(_:Program)(_:TypeId)(_:BinOp)(_:AV)(_:Ah):Prop:=False
def aH(P:Program)(T:TypeId)(h:Nat->Option Ao)(op:BinOp)(x y:AV)(K:Ah):Nat->Prop
 |0=>fW P T op K x y
 |1=>Bg (mL h op x K 0) (tI P T)
 |2=>Bg (mL h op x K 1) (tI P T)
 |3=>Bg (mL h op x K 2) (tI P T)
 |_+4=>UQ P T op x K
def KW:Option TK->Ah->AV->Prop
 |some (.int k),K,.im (.int _ n)=>K (.im (.int k (k.wrap n))) {}
 |_,_,_=>False
def uQ(t:Option TK)(x:AV)(K:Ah):Option TI->Prop
 |some _=>KW t K x
 |none=>False
def H5:List (List D)->Option (List Int)
 |[]=>some []
 |[.int .u8 n]::r=>(H5 r).map (n:: ·)
 |_=>none
def Hl(z:List Int):ByteArray:=⟨(z.map λn=>UInt8.ofNat n.toNat).toArray⟩
def LB(u:List Nat)(K:Ah):Option (List Int)->Prop
 |some z=>K (.im (.str (Hl z))) {use:=u}
 |none=>False
def R7(o:Nat)(K:Ah):Option Ao->Prop
 |some (_,.arr _ k rows)=>k=1/\LB [o] K (H5 rows)
 |_=>False
def iD(h:Nat->Option Ao)(K:Ah):AV->Prop
 | .own o=>R7 o K (h o)
 |_=>False
def iE(h:Nat->Option Ao)(K:Ah)(x:AV):Option TK->Prop
 |some (.int .u8)=>iD h K x
 |_=>False
def iF(P:Program)(h:Nat->Option Ao)(K:Ah)(x:AV):TK->Prop
 | .slice e=>iE h K x (Q5 (tI P e))
 |_=>False
def IX(P:Program)(h:Nat->Option Ao)(K:Ah)(x:AV):Option TI->Prop
 |some z=>iF P h K x z.kind
 |none=>False
def TK.isStr:TK->Bool
 | .str=>true
 | .bool| .ptr _| .int _| .array _ _| .struct _| .map _ _| .slice _| .other=>false
def isStr:Option TK->Bool
 |some t=>t.isStr
 |none=>false
def Wi(P:Program)(h:Nat->Option Ao)(t:Option TK)(x:AV)(K:Ah)(s:Option TI):Prop:=if isStr t=true then IX P h K x s else uQ t x K s
def TK.isSl:TK->Bool
 | .slice _=>true
 | .bool| .str| .ptr _| .int _| .array _ _| .struct _| .map _ _| .other=>false
def Qlj(P:Program)(h:Nat->Option Ao)(nx:Nat)(s x:AV)(T:TypeId)(K:Ah)(z:TI):Prop:=(z.kind.isSl||z.kind.isStr)=true/\Bg (Qsl P h nx s x K) (tI P T)
def DI(tm:List (Nat×AV)):Option Operand->Option AV
 |none=>none
 |some x=>some (Ax tm x)
def Hc(z:Nat):Option AV->Option Int
 |none=>some z
 |some (.im (.int _ n))=>some n
 |some _=>none
def UC(k:Nat)(rows:List (List D))(K:Ah):Option Int->Option Int->Prop
 |some l,some m=>0<=l/\l<=m/\m<=(rows.length:Int)/\K (.im (.sl false k ((rows.drop l.toNat).take (m - l).toNat))) {}
 |some _,none=>False
 |none,_=>False
def Jz(s:ByteArray)(K:Ah):Option Int->Option Int->Prop
 |some l,some m=>0<=l/\l<=m/\m<=(s.size:Int)/\K (.im (.str (s.extract l.toNat m.toNat))) {}
 |some _,none=>False
 |none,_=>False
def vO(o nx:Nat)(z:Bool)(T k:Nat)(rows:List (List D))(a n:Nat)(K:Ah):Bool->Prop
 |false=>K (.osl o a n) {use:=[o]}
 |true=>z=true/\K (.own nx) {use:=[o],kill:=[o],new:=[(nx,(true,.arr T k ((rows.drop a).take n)))],cnt:=1}
def J0(o nx:Nat)(z:Bool)(T k:Nat)(rows:List (List D))(K:Ah):Option Int->Option Int->Prop
 |some l,some m=>0<=l/\l<=m/\m<=(rows.length:Int)/\ ∃O,vO o nx z T k rows l.toNat (m - l).toNat K O
 |some _,none=>False
 |none,_=>False
def UD(o nx:Nat)(Q:TI)(lo z:Option AV)(K:Ah):Option Ao->Prop
 |some (O,.arr T k rows)=>k=Q.size/\J0 o nx O T k rows K (Hc 0 lo) (Hc rows.length z)
 |_=>False
def zG(h:Nat->Option Ao)(nx:Nat)(lo z:Option AV)(K:Ah)(x:AV)(O:TI):Prop:=
 match x with
 | .im (.sl _ k rows)=>(k=O.size\/rows=[])/\UC k rows K (Hc 0 lo) (Hc rows.length z)
 | .own o=>UD o nx O lo z K (h o)
 |_=>False
def kK(x:AV)(lo z:Option AV)(K:Ah):Prop:=
 match x with
 | .im (.str s)=>Jz s K (Hc 0 lo) (Hc s.size z)
 |_=>False
def Qz(P:Program)(h:Nat->Option Ao)(nx:Nat)(x:AV)(lo z:Option AV)(K:Ah):TK->Prop
 | .slice e=>Bg (zG h nx lo z K x) (tI P e)
 | .str=>kK x lo z K
 | .bool| .ptr _| .int _| .array _ _| .struct _| .map _ _| .other=>False
def Qsm(P:Program)(h:Nat->Option Ao)(nx:Nat)(x:AV)(lo z:Option AV)(K:Ah)(ti:TI):Prop:=Qz P h nx x lo z K ti.kind
def iJ(o:Nat):Option Ao->Option (List Nat×Nat×List (List D))
 |some (_,.arr _ k rows)=>some ([o],k,rows)
 |_=>none
def iK(o a n:Nat):Option Ao->Option (List Nat×Nat×List (List D))
 |some (_,.arr _ k rows)=>some ([o],k,(rows.drop a).take n)
 |_=>none
def fZ(h:Nat->Option Ao):AV->Option (List Nat×Nat×List (List D))
 | .im (.sl _ k rows)=>some ([],k,rows)
 | .own o=>iJ o (h o)
 | .osl o a n=>iK o a n (h o)
 |_=>none
def RO(o:Nat):Option Ao->Option (Nat×Nat×Nat×TypeId×Nat×List (List D))
 |some (true,.arr T k rows)=>some (o,0,rows.length,T,k,rows)
 |_=>none
def RP(o a n:Nat):Option Ao->Option (Nat×Nat×Nat×TypeId×Nat×List (List D))
 |some (true,.arr T k rows)=>some (o,a,n,T,k,rows)
 |_=>none
def VC(h:Nat->Option Ao):AV->Option (Nat×Nat×Nat×TypeId×Nat×List (List D))
 | .own o=>RO o (h o)
 | .osl o a n=>RP o a n (h o)
 |_=>none
def fR(rows:List (List D))(a m:Nat)(src:List (List D)):List (List D):=rows.take a++src.take m++rows.drop (a+m)
def RQ(O:TI)(K:Ah):Option (List Nat×Nat×List (List D))->Option (Nat×Nat×Nat×TypeId×Nat×List (List D))->Prop
 |some (u,ks,z),some (o,a,n,T,k,rows)=>k=O.size/\(ks=O.size\/z=[])/\O.size≠0/\Ck BT z/\
  K (.im (.int .i64 (min z.length n:Nat))) {use:=o::u,kill:=[o],new:=[(o,(true,.arr T k (fR rows a (min z.length n) z)))]}
 |some _,none=>False
 |none,_=>False
def RS(P:Program)(h:Nat->Option Ao)(d s:AV)(K:Ah):TK->Prop
 | .slice e=>Bg (λz=>RQ z K (fZ h s) (VC h d)) (tI P e)
 | .bool| .str| .ptr _| .int _| .array _ _| .struct _| .map _ _| .other=>False
def Qzd(P:Program)(h:Nat->Option Ao)(d s:AV)(K:Ah)(ti:TI):Prop:=RS P h d s K ti.kind
def X2(z:TI)(K:Ah):Option (Nat×Nat×Nat×TypeId×Nat×List (List D))->Prop
 |some (o,a,n,T,k,rows)=>k=z.size/\z.size≠0/\z.zero.length=z.size/\BT z.zero=true/\
  K .any {use:=[o],kill:=[o],new:=[(o,(true,.arr T k (fR rows a n (List.replicate n z.zero))))]}
 |none=>False
def RC(P:Program)(h:Nat->Option Ao)(d:AV)(K:Ah):TK->Prop
 | .slice e=>Bg (λz=>X2 z K (VC h d)) (tI P e)
 | .bool| .str| .ptr _| .int _| .array _ _| .struct _| .map _ _| .other=>False
def Qrt(P:Program)(h:Nat->Option Ao)(d:AV)(K:Ah)(ti:TI):Prop:=RC P h d K ti.kind
def Uj(nx o:Nat)(K:Ah):Option Ao->Prop
 |some (Q,.map O z)=>K (.it nx) {use:=[o],kill:=[o],new:=[(nx,(true,.iter none z)),(o,(false,.map O z))],cnt:=1}
 |_=>False
def rgD(nx:Nat)(K:Ah):D->Prop
 | .mp _ z=>K (.it nx) {new:=[(nx,(true,.iter none z))],cnt:=1}
 |_=>False
def rgM(h:Nat->Option Ao)(nx:Nat)(K:Ah):AV->Prop
 | .mp o=>Uj nx o K (h o)
 | .im d=>rgD nx K d
 |_=>False
def Ui(h:Nat->Option Ao)(nx:Nat)(x:AV)(K:Ah):TK->Prop
 | .map _ _=>rgM h nx K x
 | .bool| .str| .ptr _| .int _| .array _ _| .struct _| .slice _| .other=>False
def Qsh(h:Nat->Option Ao)(nx:Nat)(x:AV)(K:Ah)(ti:TI):Prop:=Ui h nx x K ti.kind
def yS(o:Nat)(left:List (D×D))(K:Ah)(i:Nat)(p:D×D):Prop:=
 K (.tup [.im (.bool true),.im p.1,.im p.2]) {use:=[o],kill:=[o],new:=[(o,(true,.iter (some p) (left.eraseIdx i)))]}
def T1(o:Nat)(K:Ah):Option Ao->Prop
 |some (true,.iter _ left)=>(left=[]->K (.tup [.im (.bool false)]) {use:=[o]})/\ ∀i p,left[i]? =some p->yS o left K i p
 |_=>False
def VW(h:Nat->Option Ao)(K:Ah):AV->Prop
 | .it o=>T1 o K (h o)
 |_=>False
def jM(h:Nat->Option Ao)(x:AV)(K:Ah):Bool->Prop
 |true=>VW h K x
 |false=>False
def Sd(o:Nat)(K:Ah):Option Ao->Prop
 |some (true,.iter (some p) _)=>K (.im (.tup [p.1,p.2])) {use:=[o]}
 |_=>False
def Qsz(h:Nat->Option Ao)(K:Ah):AV->Prop
 | .it o=>Sd o K (h o)
 |_=>False
def VA(P:Program)(t:TypeId):Option TypeId:=match P.underlying t with
 |some (.chan _ e)=>some e
 |_=>none
def mcE(nx:Nat)(n:Int)(K:Ah)(z:TI):Prop:=0<=n/\n<=1073741824/\z.bytes<=65536/\K (.ch nx) {new:=[(nx,(true,.chan [] n.toNat))],cnt:=1}
def mcV(P:Program)(nx:Nat)(K:Ah)(e:TypeId):AV->Prop
 | .im (.int .i64 n)=>Bg (mcE nx n K) (tI P e)
 |_=>False
def mcK(P:Program)(nx:Nat)(x:AV)(K:Ah):Option TypeId->Prop
 |some e=>mcV P nx K e x
 |none=>False
def Qi6(P:Program)(nx:Nat)(x:AV)(K:Ah)(T:TypeId):Prop:=mcK P nx x K (VA P T)
def bG(o:Nat)(K:Ah):Option Ao->Prop
 |some (_,.chan q _)=>FC K {use:=[o]} q.length
 |_=>False
def SV(o:Nat)(h:Nat->Option Ao)(K:Ah):Option TypeId->Prop
 |some _=>bG o K (h o)
 |none=>False
def kF(o:Nat)(d:D)(K:Ah):Option Ao->Prop
 |some (true,.chan q cap)=>q.length<cap/\K .any {use:=[o],kill:=[o],new:=[(o,(true,.chan (q++[d]) cap))]}
 |_=>False
def KY(h:Nat->Option Ao)(c x:AV)(K:Ah):Prop:=
 match c,x with
 | .ch o,.im d=>kF o d K (h o)
 |_,_=>False
def kC(o:Nat)(K:Ah):Option Ao->Prop
 |some (true,.chan q cap)=>q≠[]/\ ∀d r,q=d::r->K (.im d) {use:=[o],kill:=[o],new:=[(o,(true,.chan r cap))]}
 |_=>False
def rvC(h:Nat->Option Ao)(K:Ah):AV->Prop
 | .ch o=>kC o K (h o)
 |_=>False
def rvE(h:Nat->Option Ao)(c:AV)(K:Ah)(z:TI):Prop:=z.zero.length=z.size/\z.size≠0/\rvC h K c
def rvK(P:Program)(h:Nat->Option Ao)(c:AV)(K:Ah):Option TypeId->Prop
 |some e=>Bg (rvE h c K) (tI P e)
 |none=>False
def KX(P:Program)(h:Nat->Option Ao)(T:TypeId)(c:AV)(K:Ah):Prop:=rvK P h c K (VA P T)
def Sg(neg:Bool)(K:Ah)(E:Bk){α:Type}(rows:List α):Prop:= ∀b:Bool,(b=true->rows=[])->K (.im (.bool (neg !=b))) E
def Sh(o:Nat)(neg:Bool)(K:Ah):Option Ao->Prop
 |some (_,.arr _ _ rows)=>Sg neg K {use:=[o]} rows
 |some (_,.arrA _ _ rows)=>Sg neg K {use:=[o]} rows
 |_=>False
def N6(h:Nat->Option Ao)(neg:Bool)(K:Ah):AV->Prop
 | .im (.sl _ _ rows)=>Sg neg K {} rows
 | .own o=>Sh o neg K (h o)
 |_=>False
def Ii:D->Bool
 | .sl z _ _=>z
 | .int _ _| .bool _| .str _| .nilp| .nilf| .nili| .nilc| .nilm| .agg _| .tup _| .ref _| .mp _ _| .fn _ _ _| .ifc _ _| .gp _| .tok _=>true
def Ft:AV->Bool
 | .im d=>Ii d
 | .own _=>false
 | .any| .agg _| .tup _| .ptr _ _| .eptr _ _ _| .mp _| .ch _| .it _| .osl _ _ _| .clo _ _ _=>true
def unS(z:Bool)(x:AV)(n:Nat):Bool:=z && (n==1 && !Ft x)
def QX(P:Program)(h:Nat->Option Ao)(T:TypeId)(op:BinOp)(x:AV)(K:Ah):TK->Prop
 | .slice _=>(match op with
   | .eql=>N6 h false K x
   | .neq=>N6 h true K x
   |_=>False)
 | .bool| .str| .ptr _| .int _| .array _ _| .struct _| .map _ _| .other=>False
def Qst(P:Program)(h:Nat->Option Ao)(T:TypeId)(op:BinOp)(x:AV)(K:Ah)(ti:TI):Prop:=QX P h T op x K ti.kind
def KV(P:Program)(z:Bool)(T:TypeId)(h:Nat->Option Ao)(op:BinOp)(x y:AV)(K:Ah)(n:Nat):Prop:=
 if unS z x n=true then Bg (Qst P h T op x K) (tI P T) else aH P T h op x y K n
def Ln(P:Program)(z:Bool)(h:Nat->Option Ao)(T:TypeId)(K:Ah):AV->Prop
 | .ch o=>SV o h K (VA P T)
 | .im d=>Bg (gA z h (.im d) K) (tI P T)
 | .own o=>Bg (gA z h (.own o) K) (tI P T)
 | .osl o a n=>Bg (gA z h (.osl o a n) K) (tI P T)
 | .mp o=>Bg (gA z h (.mp o) K) (tI P T)
 | .any| .agg _| .tup _| .ptr _ _| .eptr _ _ _| .it _| .clo _ _ _=>False
def ZC(P:Program)(z:Bool)(h:Nat->Option Ao)(nx:Nat)(K:Ah):Builtin->List AV->List TypeId->Prop
 | .len,[x],[T]=>Ln P z h T K x
 | .append,[s,x],[T,U]=>Bg (Qlj P h nx s x T K) (tI P U)
 | .delete,[m,k],T::_=>Bg (Qni P h K m k) (tI P T)
 | .copy,[d,s],[T,_]=>Bg (Qzd P h d s K) (tI P T)
 | .clear,[d],[T]=>Bg (Qrt P h d K) (tI P T)
 | .max,[_,_],_=>False
 |_,_,_=>False
def uH(P:Program)(V:Dt)(z:Bool)(tm:List (Nat×AV))(h:Nat->Option Ao)(nx:Nat)(args:List AV)(O:List TypeId)(K:Ah):Callee->Prop
 | .value f=>QD V args h nx K (Ax tm f)
 | .builtin b=>ZC P z h nx K b args O
 | .invoke _ _=>False
def Yp(nx:Nat)(K:Ah):Option KT->Prop
 |some z=>K (.mp nx) {new:=[(nx,(true,.map z []))],cnt:=1}
 |none=>False
def Tj(P:Program)(nx:Nat)(K:Ah):TK->Prop
 | .map k _=>Yp nx K (BN P k)
 | .bool| .str| .ptr _| .int _| .array _ _| .struct _| .slice _| .other=>False
def Qko(P:Program)(nx:Nat)(K:Ah)(ti:TI):Prop:=Tj P nx K ti.kind
def DP(tm:List (Nat×AV)):List Operand->List AV
 |[]=>[]
 |x::r=>Ax tm x::DP tm r
def JO(tm:List (Nat×AV)):List (Nat×Operand)->List (Nat×AV)
 |[]=>[]
 |(i,x)::r=>(i,Ax tm x)::JO tm r
def Qrk(h:Nat->Option Ao)(x:AV)(K:Ah)(ti:TI):Prop:=WW h ti K x
def zU(P:Program)(h:Nat->Option Ao)(x i:AV)(K:Ah)(ti:TI):Prop:=Qjp P h x ti K i
def Qno(P:Program)(x i:AV)(K:Ah)(ti:TI):Prop:=Qxc P x ti K i
def RI(o:Nat)(T:TypeId)(cs:List AV):Option (List D)->Option (D×Ap)
 |some ds=>some (.ref ds,[(o,(false,.cells T cs))])
 |none=>none
def RH(o:Nat):Option Ao->Option (D×Ap)
 |some (_,.cells T cs)=>RI o T cs (DC cs)
 |some (_,.arr _ _ _)=>none
 |some (_,.arrA _ _ _)=>none
 |some (_,.map _ _)=>none
 |some (_,.chan _ _)=>none
 |some (_,.iter _ _)=>none
 |some (_,.view _)=>none
 |none=>none
def HK(h:Nat->Option Ao):AV->Option (D×Ap)
 | .im d=>some (d,[])
 | .ptr o 0=>RH o (h o)
 | .ptr _ (_+1)=>none
 | .any=>none
 | .agg _=>none
 | .tup _=>none
 | .eptr _ _ _=>none
 | .own _=>none
 | .mp _=>none
 | .ch _=>none
 | .it _=>none
 | .osl _ _ _=>none
 | .clo _ _ _=>none
def RG:Option (D×Ap)->Option (List D×Ap)->Option (List D×Ap)
 |some (d,E),some (ds,F)=>some (d::ds,E++F)
 |some _,none=>none
 |none,_=>none
def Oy(h:Nat->Option Ao):List AV->Option (List D×Ap)
 |[]=>some ([],[])
 |x::r=>RG (HK h x) (Oy h r)
def hnm:Ap->List Nat
 |[]=>[]
 |(n,_)::r=>n::hnm r
def Qz3(f:FuncId)(a b:List D)(first capt:List AV)(K:Ah):Ap->Prop
 |[]=>K (.im (.fn f a b)) {}
 |e::r=>K (.im (.fn f a b)) {use:=hnm (e::r),kill:=hnm (e::r),new:=e::r}\/K (.clo f first capt) {}
def NE(f:FuncId)(first capt:List AV)(K:Ah):Option (List D×Ap)->Option (List D×Ap)->Prop
 |some (a,E),some (b,F)=>Qz3 f a b first capt K (E++F)
 |some _,none=>K (.clo f first capt) {}
 |none,_=>K (.clo f first capt) {}
def Si(off n:Nat)(cs:List D):Bool->Option D
 |true=>some (.agg ((cs.drop off).take n))
 |false=>cs[off]?
def step(P:Program)(V:Dt)(O:Bool)(tm:List (Nat×AV))(h:Nat->Option Ao)(nx:Nat)(T:TypeId)(K:Ah):Op->Prop
 | .move x=>K (Ax tm x) {}
 | .assign x=>Qm9 P tm nx T K x
 | .pick c a b=>Qzp (Ax tm a) (Ax tm b) K (Ax tm c)
 | .alloc T=>Bg (Qsv nx T K) (tI P T)
 | .box T x=>UR nx T K (Ax tm x).cells
 | .build T z=>Bg (Qsy P (JO tm z.toList) K) (tI P T)
 | .buildSlice T n z=>Bg (zT P nx n (JO tm z.toList) K) (tI P T)
 | .load T x=>Bg (Qrk h (Ax tm x) K) (tI P T)
 | .store T x v=>Bg (Qri h (Ax tm x) (Ax tm v) K) (tI P T)
 | .nilCheck x=>lT h K (Ax tm x)
 | .binOp op T x y _=>KV P O T h op (Ax tm x) (Ax tm y) K (Gs y)
 | .unOp op _ x=>Zb K op (Ax tm x)
 | .convert S T x=>Wi P h (Q5 (tI P T)) (Ax tm x) K (tI P S)
 | .makeFunc (.func f) first capt=>Nat.blt f 1000000000=true/\NE f (DP tm first.toList) (DP tm capt.toList) K (Oy h (DP tm first.toList)) (Oy h (DP tm capt.toList))
 | .makeMap T none=>Bg (Qko P nx K) (tI P T)
 | .makeSlice T l c=>Bg (Qhl P nx (Ax tm l) (Ax tm c) K) (tI P T)
 | .fieldAddr T x f=>Bg (Qhg h (Ax tm x) f K) (tI P T)
 | .indexAddr T x i=>Bg (zU P h (Ax tm x) (Ax tm i) K) (tI P T)
 | .index T x i=>Bg (Qno P (Ax tm x) (Ax tm i) K) (tI P T)
 | .lookup T m k ok=>Bg (Qnn P h (Ax tm m) (Ax tm k) ok K) (tI P T)
 | .mapUpdate T m k v=>Bg (lP P h K (Ax tm m) (Ax tm k) (Ax tm v)) (tI P T)
 | .extract x i=>lS i K (Ax tm x)
 | .call c=>uH P V O tm h nx (DP tm c.args.toList) c.argTypes.toList K c.callee
 | .slice T x lo Q none=>Bg (Qsm P h nx (Ax tm x) (DI tm lo) (DI tm Q) K) (tI P T)
 | .range T x=>Bg (Qsh h nx (Ax tm x) K) (tI P T)
 | .next x false=>jM h (Ax tm x) K O
 | .entry x=>Qsz h K (Ax tm x)
 | .makeChan T x=>Qi6 P nx (Ax tm x) K T
 | .makeInterface _ _=>False
 | .insert T m k v=>Bg (lP P h K (Ax tm m) (Ax tm k) (Ax tm v)) (tI P T)
 | .field _ _ _=>False
 |_=>False
inductive Ex where
 |normal
 |exit (id:Nat)
 |ret
abbrev Cq:=Ex->Av->Prop
def WD(t:Option Nat)(z:Bool)(s:Av)(Kdo Kskip:Av->Prop):AV->Prop
 | .im (.bool b)=>(b=z->Kdo (s.put t (.im (.bool z))))/\(b= !z->Kskip (s.put t (.im (.bool (!z)))))
 | .im (.tup [])=>Kskip s
 |_=>False
def Aw(n:Nat):Ap->Bool
 |[]=>true
 |(_,(_,.cells _ cs))::r=>AF n cs && Aw n r
 |(_,(_,.arrA _ _ rows))::r=>rows.all (AF n) && Aw n r
 |(_,(_,.arr _ _ _))::r=>Aw n r
 |(_,(_,.map _ _))::r=>Aw n r
 |(_,(_,.chan _ _))::r=>Aw n r
 |(_,(_,.iter _ _))::r=>Aw n r
 |(_,(_,.view _))::r=>Aw n r
def Ke(kill:List Nat)(nx cnt n:Nat):Bool:=(Nat.ble nx n && Nat.blt n (nx+cnt))||(kill.contains n && Nat.blt n nx)
def GW(kill:List Nat)(nx cnt:Nat):Ap->Bool
 |[]=>true
 |(n,_)::r=>Ke kill nx cnt n && GW kill nx cnt r
def Bk.ok(E:Bk)(nx:Nat)(r:AV):Bool:=r.bel (nx+E.cnt) && (Aw (nx+E.cnt) E.new && GW E.kill nx E.cnt E.new)
def Av.app_nr(tm:List (Nat×AV))(h:Ap)(nx:Nat)(dst:Option Nat)(r:AV)(u k:List Nat)(nw:Ap)(c:Nat):Av.app ⟨tm,h,nx⟩ dst r ⟨u,k,nw,c⟩=(⟨tm,nw++Bj h k,nx+c⟩:Av).put dst r:=by
 cases dst<;>rfl
def Bk.ok_nr(u k:List Nat)(nw:Ap)(c nx:Nat)(r:AV):Bk.ok ⟨u,k,nw,c⟩ nx r=(r.bel (nx+c) && (Aw (nx+c) nw && GW k nx c nw)):=by
 cases c<;>rfl
structure SOp where
 dst:Option Nat
 op:Op
 type:TypeId
 gd:Option (Option Nat×Bool)
def Xa(ops:Array Oper):Option (Nat×Bool)->Option (Option Nat×Bool)
 |none=>none
 |some (j,w)=>some ((ops[j]?).bind (·.dst),w)
def Ga(ops:Array Oper):List Oper->List SOp
 |[]=>[]
 |o::r=>⟨o.dst,o.op,o.type,Xa ops o.guard⟩::Ga ops r
def D6(z:Av->Prop)(s:Av)(dst:Option Nat)(r:AV)(E:Bk):Prop:=E.ok s.nx r=true/\z (s.app dst r E)
def DS(P:Program)(V:Dt)(tm:List (Nat×AV))(h:Nat->Option Ao)(nx:Nat)(ty:TypeId)(K:Ah):Op->Prop
 | .send c x=>KY h (Ax tm c) (Ax tm x) K
 | .recv T c false=>KX P h T (Ax tm c) K
 |op=>step P V true tm h nx ty K op
def J2(P:Program)(V:Dt)(dst:Option Nat)(op:Op)(ty:TypeId)(z:Av->Prop)(s:Av):Prop:=
 DS P V s.tm (hget s.h) s.nx ty (D6 z s dst) op
def MZ(dst:Option Nat)(z:Av->Prop)(s:Av):Prop:=z (s.put dst (.im (.tup [])))
def XW(P:Program)(V:Dt)(dst:Option Nat)(op:Op)(ty:TypeId)(z:Bool)(O:Av->Prop)(s:Av):Option Nat->Prop
 |some t=>WD (some t) z s (J2 P V dst op ty O) (MZ dst O) (A8 s.tm t)
 |none=>False
def yV(P:Program)(V:Dt)(dst:Option Nat)(op:Op)(ty:TypeId)(O:Av->Prop)(s:Av):Option (Option Nat×Bool)->Prop
 |none=>J2 P V dst op ty O s
 |some (t,z)=>XW P V dst op ty z O s t
def KS(P:Program)(V:Dt):List SOp->(Av->Prop)->Av->Prop
 |[],K,s=>K s
 |⟨dst,op,ty,gd⟩::z,K,s=>yV P V dst op ty (KS P V z K) s gd
structure Fp where
 i:Nat
 use:List Nat
 touch:List Nat
 nx:Nat
 cnt:Nat
def Ia:Ap->List Nat
 |[]=>[]
 |(n,_)::r=>n::Ia r
def Jn:Ap->List Nat
 |[]=>[]
 |(_,(_,e))::r=>e.nms++Jn r
def Ik:List Nat->List Nat->Bool
 |[],_=>true
 |x::r,l=> !l.contains x && Ik r l
def FF(nx cnt:Nat):List Nat->Bool
 |[]=>true
 |x::r=>(Nat.blt x nx||Nat.ble (nx+cnt) x) && FF nx cnt r
def Iz:Ground->Bool
 | .data=>true
 | .chain=>true
 | .guard=>true
 | .phase=>true
 | .textOnly _=>false
 | .gcOnly _=>false
def DN:List (List Nat)->Nat->List Nat
 |[],_=>[]
 |x::_,0=>x
 |_::r,n+1=>DN r n
def ins(x:Nat)(l:List Nat):List Nat:=bif l.contains x then l else x::l
def SC:List Nat->List Nat->List Nat
 |[],l=>l
 |x::r,l=>ins x (SC r l)
def Hf(acc:List (List Nat)):List Edge->List Nat
 |[]=>[]
 |e::r=>bif Iz e.ground then SC (e.on::DN acc e.on) (Hf acc r) else Hf acc r
def EO:List Oper->List (List Nat)->List (List Nat)
 |[],acc=>acc
 |o::r,acc=>EO r (acc++[Hf acc o.after.toList])
def DX(cl:List (List Nat))(i j:Nat):Bool:=(DN cl j).contains i
def iH(cl:List (List Nat))(j:Nat)(use touch z:List Nat)(f:Fp):Bool:=
 bif Ik (use++touch) f.touch && (Ik touch f.use && FF f.nx f.cnt z) then true else DX cl f.i j
def GD(cl:List (List Nat))(j:Nat)(use touch z:List Nat):List Fp->Bool
 |[]=>true
 |f::r=>iH cl j use touch z f && GD cl j use touch z r
def Bk.touch(E:Bk):List Nat:=E.kill++Ia E.new
abbrev Ld:=List Fp->Av->Prop
def GF(cl:List (List Nat))(i:Nat)(acc:List Fp)(z:Ld)(s:Av)(dst:Option Nat)(r:AV)(E:Bk):Prop:=
 E.ok s.nx r=true/\GD cl i (E.use++E.kill) E.touch (E.touch++(r.nms++Jn E.new)) acc=true/\z (⟨i,E.use++E.kill,E.touch,s.nx,E.cnt⟩::acc) (s.app dst r E)
def Nc(P:Program)(V:Dt)(cl:List (List Nat))(i:Nat)(acc:List Fp)(dst:Option Nat)(op:Op)(ty:TypeId)(z:Ld)(s:Av):Prop:=
 step P V false s.tm (hget s.h) s.nx ty (GF cl i acc z s dst) op
def MY(dst:Option Nat)(acc:List Fp)(z:Ld)(s:Av):Prop:=z acc (s.put dst (.im (.tup [])))
def XV(P:Program)(V:Dt)(cl:List (List Nat))(i:Nat)(acc:List Fp)(dst:Option Nat)(op:Op)(ty:TypeId)(z:Bool)(O:Ld)(s:Av):Option Nat->Prop
 |some t=>WD (some t) z s (Nc P V cl i acc dst op ty O) (MY dst acc O) (A8 s.tm t)
 |none=>False
def yU(P:Program)(V:Dt)(cl:List (List Nat))(i:Nat)(acc:List Fp)(dst:Option Nat)(op:Op)(ty:TypeId)(O:Ld)(s:Av):Option (Option Nat×Bool)->Prop
 |none=>Nc P V cl i acc dst op ty O s
 |some (t,z)=>XV P V cl i acc dst op ty z O s t
def VP(P:Program)(V:Dt)(cl:List (List Nat)):List SOp->Nat->(Av->Prop)->Ld
 |[],_,K,_,s=>K s
 |⟨dst,op,ty,gd⟩::z,i,K,acc,s=>yU P V cl i acc dst op ty (VP P V cl z (i+1) K) s gd
def Nk(K:Av->Prop)(Q:Cq):Cq
 | .normal,s=>K s
 | .exit i,s=>Q (.exit i) s
 | .ret,s=>Q .ret s
def Jc(i:Nat)(Q:Cq)(s:Av):Bool->Prop
 |true=>Q .normal s
 |false=>Q (.exit i) s
def mS(id:Nat)(Q:Cq):Cq
 | .normal,s=>Q .normal s
 | .exit i,s=>Jc i Q s (i==id)
 | .ret,s=>Q .ret s
def vP(A B:Cq->Av->Prop)(Q:Cq)(s:Av):AV->Prop
 | .im (.bool b)=>(b=true->A Q s)/\(b=false->B Q s)
 |_=>False
def Gx(s:Av):List (Nat×AV)->Prop
 |[]=>True
 |(t,x)::r=>A8 s.tm t=x/\Gx s r
def Ci(s:Av):Ap->Prop
 |[]=>True
 |(o,e)::r=>hget s.h o=some e/\Ci s r
def sub(s s':Av):Prop:=Gx s s'.tm/\Ci s s'.h
def CF(n:Nat):List (Nat×AV)->Bool
 |[]=>true
 |(_,x)::r=>x.bel n && CF n r
def B9(n:Nat):Ap->Bool
 |[]=>true
 |(m,_)::r=>Nat.blt m n && B9 n r
def Av.good(s:Av):Bool:=CF s.nx s.tm && (Aw s.nx s.h && B9 s.nx s.h)
def pm:List (Nat×Option Nat)->Nat->Option Nat
 |[],n=>some n
 |(a,b)::r,n=>if a=n then b else pm r n
def jC:AV->Prop
 | .im (.sl true _ [])=>True
 |_=>False
def FG(x:AV):Option Nat->Prop
 |some m=>x= .own m
 |none=>jC x
def GS(f:Nat->AV)(x:AV):Option Nat->Prop
 |some m=>x=f m
 |none=>False
mutual
def mt(π:List (Nat×Option Nat)):AV->AV->Prop
 | .any,_=>True
 | .im d,x=>x= .im d
 | .own n,x=>FG x (pm π n)
 | .ptr n p,x=>GS (λm=> .ptr m p) x (pm π n)
 | .eptr n i p,x=>GS (λm=> .eptr m i p) x (pm π n)
 | .mp n,x=>GS .mp x (pm π n)
 | .ch n,x=>GS .ch x (pm π n)
 | .it n,x=>GS .it x (pm π n)
 | .osl n a k,x=>GS (λm=> .osl m a k) x (pm π n)
 | .agg cs,.agg ds=>DL π cs ds
 | .agg cs,.im (.agg ds)=>DL π cs (ds.map .im)
 | .agg _,_=>False
 | .tup _,_=>False
 | .clo _ _ _,_=>False
def DL(π:List (Nat×Option Nat)):List AV->List AV->Prop
 |[],[]=>True
 |x::r,y::s=>mt π x y/\DL π r s
 |[],_::_=>False
 |_::_,[]=>False
end
def Gq(π:List (Nat×Option Nat)):List (List AV)->List (List AV)->Prop
 |[],[]=>True
 |x::r,y::s=>DL π x y/\Gq π r s
 |[],_::_=>False
 |_::_,[]=>False
def EL(π:List (Nat×Option Nat)):Ab->Ab->Prop
 | .cells T cs,.cells U ds=>T=U/\DL π cs ds
 | .cells _ _,_=>False
 | .arr T k rows,e=>e= .arr T k rows
 | .arrA T k rows,.arrA U k' z=>T=U/\k=k'/\Gq π rows z
 | .arrA T k rows,.arr U k' z=>T=U/\k=k'/\Gq π rows (Be z)
 | .arrA _ _ _,.cells _ _=>False
 | .arrA _ _ _,.map _ _=>False
 | .arrA _ _ _,.chan _ _=>False
 | .arrA _ _ _,.iter _ _=>False
 | .arrA _ _ _,.view _=>False
 | .map Q O,e=>e= .map Q O
 | .chan q c,e=>e= .chan q c
 | .iter a l,e=>e= .iter a l
 | .view cs,e=>e= .view cs
def K4(π:List (Nat×Option Nat))(O:Bool)(e':Ab):Option Ao->Prop
 |some (z,e)=>z=O/\EL π e' e
 |none=>False
def Ts:Bool->Ab->Prop
 |true,.arr _ _ []=>True
 |true,.arrA _ _ []=>True
 |_,_=>False
def Et(s:Av)(π:List (Nat×Option Nat))(z:Bool)(e':Ab):Option Nat->Prop
 |some m=>K4 π z e' (hget s.h m)
 |none=>Ts z e'
def Qm(π:List (Nat×Option Nat))(s:Av):List (Nat×AV)->Prop
 |[]=>True
 |(t,x)::r=>mt π x (A8 s.tm t)/\Qm π s r
def GU(π:List (Nat×Option Nat))(s:Av):Ap->Prop
 |[]=>True
 |(n,(z,e))::r=>Et s π z e (pm π n)/\GU π s r
def VL(lo:Nat):List (Nat×Option Nat)->Prop
 |[]=>True
 |(a,_)::r=>lo<=a/\VL lo r
def OD(π:List (Nat×Option Nat)):Ap->List (Option Nat)
 |[]=>[]
 |(n,_)::r=>pm π n::OD π r
def EX:List (Option Nat)->Bool
 |[]=>true
 |none::r=>EX r
 |some m::r=> !r.contains (some m) && EX r
def Aq(lo:Nat)(π:List (Nat×Option Nat))(s s':Av):Prop:=VL lo π/\EX (OD π s'.h)=true/\Qm π s s'.tm/\GU π s s'.h
def Mo{β:Type}(I:β->Av)(μ:β->Nat)(b:β)(Q:Cq):Cq
 | .normal,s=> ∃b',μ b'<μ b/\sub s (I b')
 | .exit i,s=>Q (.exit i) s
 | .ret,s=>Q .ret s
def Mn{β:Type}(lo:Nat)(I:β->Av)(μ:β->Nat)(b:β)(Q:Cq):Cq
 | .normal,s=> ∃b' π,μ b'<μ b/\Aq lo π s (I b')
 | .exit i,s=>Q (.exit i) s
 | .ret,s=>Q .ret s
def ZP(z:Cq->Av->Prop)(Q:Cq)(s:Av):Prop:=
 ∃(β:Type) (I:β->Av) (μ:β->Nat),(∀b,(I b).good=true/\s.nx<=(I b).nx)/\(∃b,sub s (I b))/\ ∀b,z (Mo I μ b Q) (I b)
def Qsi(z:Cq->Av->Prop)(Q:Cq)(s:Av):Prop:=
 ∃(β:Type) (I:β->Av) (μ:β->Nat),(∀b,(I b).good=true/\s.nx<=(I b).nx)/\(∃b π,Aq s.nx π s (I b))/\ ∀b,z (Mn s.nx I μ b Q) (I b)
def HL(F:List Nat):Ap->Ap
 |[]=>[]
 |(n,(z,e))::r=>(n,(z && !F.contains n,e))::HL F r
def Sq(F:List Nat)(s:Av):Av:=⟨s.tm,HL F s.h,s.nx⟩
def VT(z:Cq->Av->Prop)(Q:Cq)(s:Av):Prop:= ∃F:List Nat,ZP z Q (Sq F s)
def Hk(n:Nat):Ab->AV
 | .arr _ w rows=> .im (.sl false w rows)
 | .cells _ _=> .own n
 | .arrA _ _ _=> .own n
 | .map _ _=> .own n
 | .chan _ _=> .own n
 | .iter _ _=> .own n
 | .view _=> .own n
def KN(n:Nat):Option Ao->AV
 |some e=>Hk n e.2
 |none=> .own n
def Jt(o p:Nat):Option (List D)->AV
 |some ds=> .im (.ref ds)
 |none=> .ptr o p
def Fw(o p:Nat):Option Ao->AV
 |some (_,.cells _ cs)=>Jt o p (DC (cs.drop p))
 |some (_,.arr _ _ _)=> .ptr o p
 |some (_,.arrA _ _ _)=> .ptr o p
 |some (_,.map _ _)=> .ptr o p
 |some (_,.chan _ _)=> .ptr o p
 |some (_,.iter _ _)=> .ptr o p
 |some (_,.view _)=> .ptr o p
 |none=> .ptr o p
mutual
def AV.fzA(F:List Nat)(H:Ap):AV->AV
 | .own n=>bif F.contains n then KN n (hget H n) else .own n
 | .agg cs=> .agg (DJ F H cs)
 | .any=> .any
 | .im d=> .im d
 | .tup cs=> .tup cs
 | .ptr o p=>bif F.contains o then (bif F.contains (o+4000000000) then Fw o p (hget H o) else .ptr o p) else .ptr o p
 | .eptr o i p=> .eptr o i p
 | .mp o=> .mp o
 | .ch o=> .ch o
 | .it o=> .it o
 | .osl o a n=> .osl o a n
 | .clo f a c=> .clo f a c
def DJ(F:List Nat)(H:Ap):List AV->List AV
 |[]=>[]
 |x::r=>x.fzA F H::DJ F H r
end
def D5(F:List Nat)(H:Ap):List (List AV)->List (List AV)
 |[]=>[]
 |x::r=>DJ F H x::D5 F H r
def Ab.fzA(F:List Nat)(H:Ap):Ab->Ab
 | .cells T cs=> .cells T (DJ F H cs)
 | .arrA T k rows=> .arrA T k (D5 F H rows)
 | .arr T k rows=> .arr T k rows
 | .map O z=> .map O z
 | .chan q c=> .chan q c
 | .iter a l=> .iter a l
 | .view cs=> .view cs
def HO(F:List Nat)(H:Ap):List (Nat×AV)->List (Nat×AV)
 |[]=>[]
 |(t,x)::r=>(t,x.fzA F H)::HO F H r
def HN(F:List Nat)(H:Ap):Ap->Ap
 |[]=>[]
 |(n,(z,e))::r=>(n,(z && !F.contains n,e.fzA F H))::HN F H r
def Su(F:List Nat)(s:Av):Av:=⟨HO F s.h s.tm,HN F s.h s.h,s.nx⟩
def Mm{β:Type}(lo:Nat)(I:β->Av)(μ:β->Nat)(b:β)(Q:Cq):Cq
 | .normal,s=> ∃b' F π,μ b'<μ b/\Aq lo π (Su F s) (I b')
 | .exit i,s=>Q (.exit i) s
 | .ret,s=>Q .ret s
def Qsf(z:Cq->Av->Prop)(Q:Cq)(s:Av):Prop:=
 ∃(β:Type) (I:β->Av) (μ:β->Nat),(∀b,(I b).good=true/\s.nx<=(I b).nx)/\(∃b F π,Aq s.nx π (Su F s) (I b))/\ ∀b,z (Mm s.nx I μ b Q) (I b)
def AT(z:Cq->Av->Prop)(Q:Cq)(s:Av):Prop:=ZP z Q s\/Qsi z Q s\/VT z Q s\/Qsf z Q s
def AT.frr{z:Cq->Av->Prop}{Q:Cq}{s:Av}(h:Qsf z Q s):AT z Q s:=Or.inr (Or.inr (Or.inr h))
def AT.old{z:Cq->Av->Prop}{Q:Cq}{s:Av}(h:ZP z Q s):AT z Q s:=Or.inl h
def AT.ren{z:Cq->Av->Prop}{Q:Cq}{s:Av}(h:Qsi z Q s):AT z Q s:=Or.inr (Or.inl h)
def AT.frz{z:Cq->Av->Prop}{Q:Cq}{s:Av}(F:List Nat)(h:ZP z Q (Sq F s)):AT z Q s:=Or.inr (Or.inr (Or.inl ⟨F,h⟩))
def Dh(P:Program)(V:Dt):Code->Cq->Av->Prop
 | .skip,Q,s=>Q .normal s
 | .region _ ops false,Q,s=>KS P V (Ga ops ops.toList) (Q .normal) s
 | .region _ ops true,Q,s=>VP P V (EO ops.toList []) (Ga ops ops.toList) 0 (Q .normal) [] s
 | .seq a b,Q,s=>Dh P V a (Nk (Dh P V b Q) Q) s
 | .cond c a b,Q,s=>vP (Dh P V a) (Dh P V b) Q s (Ax s.tm c)
 | .block id c,Q,s=>Dh P V c (mS id Q) s
 | .loop c,Q,s=>AT (Dh P V c) Q s
 | .exit id,Q,s=>Q (.exit id) s
 | .ret,Q,s=>Q .ret s
 |_,_,_=>False
end Go.Ae
