/- Lemmas. Conditions: none. -/
import Derived.Orders
import Derived.Below
import Derived.Laws.Sem
set_option linter.all false
set_option maxHeartbeats 8000000
set_option maxRecDepth 100000
namespace Go
def A7:=@Option.some.inj
def AI:=@Option.some.injEq
def AL:=@Bool.and_eq_true
def Ba:=@List.mem_of_getElem?
def Bk:=@List.getElem?_eq_getElem
def AO:=@Option.getD_some
def Ad:=@if_neg
def Br:=@Option.some_beq_some
def Ak:=@if_pos
def Cx:=@List.getElem?_eq_some_iff
def AN:=@Nat.le_refl
def BQ:=@List.mem_cons_of_mem
def B3:=@decide_eq_true_eq
def B5:=@Int.toNat_natCast
def Be:=@List.mem_cons
def Bs:=@List.mem_append
def Bg:=@List.map_cons
def BR:=@List.mem_cons_self
def BS:=@List.mem_singleton
def CG:=@List.drop_eq_nil_of_le
def BH:=@List.length_take
def Bv:=@List.mem_range
def Bh:=@List.mem_map
def Cj:=@List.length_drop
def Dv:=@List.getElem?_set_self
def CD:=@List.length_append
def D8:=@List.take_of_length_le
def D9:=@Option.map_eq_some_iff
def CP:=@Bool.false_eq_true
def C6:=@List.all_eq_true
def EA:=@List.getElem?_append_left
def Ei:=@Option.bind_eq_some_iff
def Dn:=@Array.length_toList
def DM:=@List.getElem?_set_ne
def Bq:=@cond_false
def CQ:=@List.length_cons
def Du:=@List.getElem?_map
def De:=@List.cons_append
def FQ:=@List.getElem?_append_right
def Eo:=@List.getD_cons_zero
def CY:=@Option.map_some
def Fm:=@List.getElem?_eq_none
def DA:=@List.append_nil
def H7:=@Array.getD_eq_getD_getElem?
def Hn:=@Array.getElem?_eq_getElem
def Gc:=@Array.getElem?_toList
def Ho:=@List.getElem?_cons_zero
def Fb:=@List.append_assoc
def DB:=@Bool.true_and
def CR:=@Nat.zero_le
def Cg:=@cond_true
def Hp:=@List.contains_iff_mem
def E5:=@List.drop_drop
def G6:=@List.getD_cons_succ
def Gh:=@Nat.lt_of_lt_of_le
def Fc:=@List.length_set
def DR:=@Nat.le_trans
def Ep:=@Prod.mk.injEq
def H9:=@Nat.mul_le_mul_right
def Gi:=@Classical.not_not
def J7:=@List.getElem?_cons_succ
def GW:=@List.getElem?_drop
def F7:=@List.length_map
def FR:=@Option.bind_some
def G7:=@List.flatMap_cons
def FC:=@List.nil_append
def Fo:=@Bool.false_and
def II:=@List.mem_append_left
def Ic:=@List.getElem?_range
def FS:=@List.length_nil
def FT:=@List.map_append
def Ie:=@beq_eq_false_iff_ne
def Hq:=@Bool.not_eq_false
def Lv:=@List.getElem?_replicate
def Lw:=@decide_eq_false_iff_not
def Od:=@List.eq_of_mem_replicate
def BM:=@if_true
def Kv:=@List.take_append_drop
def EI:=@Nat.lt_or_ge
def Qg:=@List.mem_of_find?_eq_some
def F5:=@Bool.and_true
def CB:=@if_false
def Ri:=@Array.getElem?_eq_some_iff
def Gd:=@List.drop_zero
def Ib:=@List.take_add_one
def Kr:=@List.map_congr_left
def Ob:=@List.length_replicate
def Gf:=@Nat.add_assoc
def H8:=@Bool.or_eq_true
def E4:=@Nat.blt_eq
def IF:=@Bool.not_eq_true
def IG:=@List.take_length
def V3:=@List.drop_eq_getElem_cons
def Rj:=@List.length_eq_zero_iff
def CZ:=@congrArg
def Kt:=@List.ext_getElem?
def Ku:=@List.size_toArray
def Oc:=@List.drop_succ_cons
def F6:=@Nat.add_mul
def Gg:=@Nat.zero_add
def IH:=@List.nodup_cons
def Qh:=@Option.some_beq_none
def Rk:=@List.mem_append_right
def WU:=@List.mem_or_eq_of_mem_set
def Qj:=@List.take_succ_cons
def GX:=@List.map_nil
def Oh:=@Bool.eq_false_iff
def V4:=@List.mem_iff_getElem?
def fR:=@Array.getElem?_setIfInBounds
def WY:=@Array.getElem?_eq_none
def HA:=@Nat.sub_self
def Qk:=@Bool.not_eq_true'
def Rm:=@Option.isSome_none
def fS:=@Int.tmod_eq_emod_of_nonneg
def J8:=@List.all_cons
def mK:=@List.drop_append_of_le_length
def fT:=@Classical.byContradiction
def G8:=@Nat.ble_eq
def V5:=@List.pairwise_cons
def fU:=@Array.getElem?_replicate
def Ql:=@List.find?_some
def WZ:=@List.mem_map_of_mem
def Rn:=@List.getElem_mem
def Oi:=@decide_eq_true
def Lx:=@List.sum_cons
def IJ:=@Nat.one_mul
def Xa:=@List.getElem?_take
def fV:=@List.zipWith_cons_cons
def V6:=@Array.toList_map
def V7:=@List.drop_append
def vB:=@List.eq_nil_of_length_eq_zero
def WV:=@List.nodup_append
def ZO:=@List.find?_eq_none
def EJ:=@Ne.symm
def fO:=@List.mem_iff_getElem
def Oe:=@List.map_map
def Of:=@List.map_set
def mH:=@Classical.epsilon_spec
def ZP:=@List.length_range
def Rl:=@Bool.or_false
def WW:=@Bool.eq_iff_iff
def mI:=@List.set_append_right
def Qi:=@Nat.add_zero
def mJ:=@Nat.le_of_ble_eq_true
def fP:=@List.contains_cons
def fQ:=@List.set_cons_zero
def ZQ:=@Array.toList_inj
def Og:=@Int.le_refl
def ZR:=@List.not_mem_nil
def ZcT:=@List.take_append_of_le_length
def ZS:=@beq_self_eq_true
def vC:=@List.eraseIdx_cons_succ
def vD:=@List.filter_cons_of_neg
def vG:=@Nat.add_sub_cancel_left
def Hr:=@and_self
def WX:=@Bool.not_false
def Ly:=@Array.ext'
def fZ:=@List.contains_nil
def mP:=@Array.toList_append
def mQ:=@List.length_pos_iff
def mS:=@List.length_reverse
def Zdf:=@Array.toList_setIfInBounds
def Zdg:=@Int.tdiv_eq_ediv_of_nonneg
def gA:=@Nat.min_le_right
def vP:=@Array.getElem?_append
def vQ:=@Array.getElem?_modify
def mT:=@Int.emod_lt_of_pos
def vR:=@List.length_singleton
def mU:=@List.set_cons_succ
def mV:=@Nat.eq_zero_or_pos
def Zdo:=@List.pairwise_iff_getElem
def ZV:=@List.take_zero
def gB:=@Int.emod_nonneg
def gC:=@List.cons.injEq
def gD:=@List.foldl_cons
def gE:=@List.mem_filter
def Qm:=@beq_iff_eq
def Lz:=@forall_eq
def ZW:=@List.take_add
def gG:=@Bool.and_false
def gH:=@List.Perm.refl
def vS:=@Array.extract_size
def vH:=@Option.toList_some
def ZdB:=@List.getElem?_toArray
def mL:=@List.range_succ
def ZU:=@Nat.sub_zero
def mM:=@decide_eq_false
def fW:=@Bool.and_self
def vI:=@Nat.lt_trichotomy
def ZdH:=@Array.getElem?_append_left
def ZdI:=@List.perm_ext_iff_of_nodup
def ZdJ:=@List.mem_of_mem_drop
def ZdK:=@List.mem_of_mem_take
def vJ:=@Nat.lt_succ_self
def vL:=@forall_eq_or_imp
def ZdN:=@List.filter_eq_self
def ZdO:=@List.flatMap_append
def ZdP:=@Array.size_setIfInBounds
def fX:=@Bool.true_or
def ZdR:=@List.Perm.eq_of_pairwise
def fY:=@Nat.zero_mul
def ZdT:=@Option.isSome_iff_exists
def mN:=@Bool.false_or
def mO:=@Bool.not_true
def ZdW:=@Int.tmod_lt_of_pos
def vM:=@List.all_append
def vO:=@Nat.not_lt_zero
def ZdZ:=@List.length_eq_one_iff
def Zea:=@List.zipWith_nil_right
def Zeb:=@Array.toList_push
def Zec:=@not_false_eq_true
def Zed:=@Bool.and_eq_false_iff
def Zee:=@Int.mul_ediv_add_emod
def Zef:=@Int.mul_le_mul_of_nonneg_right
def Zeg:=@List.mem_flatMap
def Zeh:=@Option.getD_none
def Zei:=@List.length_eraseIdx
def Zej:=@List.range_eq_range'
def Zek:=@Array.getElem?_append_right
def Zel:=@Array.toList_modify
def Zem:=@Int.tmod_nonneg
def Zen:=@List.find?_cons
def Zeo:=@List.replicate_succ
def Zep:=@List.toList_toArray
def Zeq:=@Int.fdiv_eq_ediv_of_nonneg
def Zer:=@List.exists_cons_of_ne_nil
def Zes:=@List.nodup_iff_pairwise_ne
def Zet:=@List.perm_append_singleton
def Zeu:=@Array.ext_getElem?
def Zev:=@Array.toList_range
def Zew:=@List.getElem_range
def vT:=@List.set_set
def vU:=@Nat.add_comm
def Xb:=@or_false
def ZeA:=@Array.mapM_eq_mapM_toList
def ZeB:=@Bool.and_assoc
def ZeC:=@List.foldl_nil
def ZeD:=@List.getElem?_eq_none_iff
def ZeE:=@List.isEmpty_eq_false_iff
def ZeF:=@Array.getElem?_push_size
def ZeG:=@Array.size_append
def ZeH:=@List.Pairwise.imp
def gJ:=@and_assoc
def ZeJ:=@List.eraseIdx_cons_zero
def ZeK:=@List.filter_cons_of_pos
def ZeL:=@List.not_any_eq_all_not
def ZeM:=@Nat.lt_irrefl
def ZeN:=@Bool.cond_eq_ite
def ZeO:=@List.any_eq_true
def ZeP:=@List.filter_cons
def ZeQ:=@List.flatMap_nil
def ZeR:=@Array.getElem?_push_lt
def ZeS:=@List.length_pos_of_mem
def ZeT:=@Array.getElem?_mapIdx
def ZeU:=@Array.mem_of_getElem?
def ZeV:=@Bool.or_true
def ZeW:=@List.Perm.append_left
def ZeX:=@List.eraseIdx_sublist
def ZeY:=@List.getElem?_reverse
def ZeZ:=@List.head?_cons
def Zfa:=@List.length_filter_le
def Zfb:=@List.range_zero
def Zfc:=@List.sum_nil
def Zfd:=@Nat.min_eq_left
def Zfe:=@Nat.succ_mul
def Zff:=@decide_false
def Zfg:=@Array.toList_extract
def Zfh:=@List.drop_take
def Zfi:=@List.take_take
def Zfj:=@Option.none_or
def Zfk:=@Nat.min_def
def Zfl:=@decide_true
def Zfm:=@List.cons.inj
def Zfn:=@List.drop_nil
def Zfo:=@List.take_nil
def mW:=@true_and
def gK:=@eq_true
def Zfr:=@Int.lt_or_le
def Zfs:=@Nat.le_of_eq
def vV:=@ite_self
def ZX:=@not_or
end Go
namespace Go.Ae
def Me(g:Nat):Bool:=g==0||g==1
def GE(ok:Nat->Prop)(hp:Nat->Option Obj)(g:Nat)(a:Addr):Prop:=
 ok g/\(∃T z,hp g=some (.cells #[.iface 331 (.pointer (some a))] T z))/\ok a.block/\ ∃c T,hp a.block=some (.cells c T (0,0))
def GP(ok:Nat->Prop)(hp:Nat->Option Obj):Prop:=
 ∃a:Nat->Addr,(∀g,Me g=true->GE ok hp g (a g))/\ ∀g g',Me g=true->Me g'=true->g≠g'->a g≠a g'
def GP.mono{ok ok':Nat->Prop}{hp hp':Nat->Option Obj}(h: ∀b o,ok b->hp b=some o->ok' b/\hp' b=some o)(hg:GP ok hp):GP ok' hp':=by
 obtain⟨a,h1,h2⟩:=hg;refine⟨a,λg z=> ?_,h2⟩;obtain⟨k1,⟨T,Z,k2⟩,O,c,U,Q⟩:=h1 g z;exact⟨(h g _ k1 k2).1,⟨T,Z,(h g _ k1 k2).2⟩,(h _ _ O Q).1,c,U,(h _ _ O Q).2⟩
def GP.at{ok:Nat->Prop}{hp:Nat->Option Obj}(h:GP ok hp){g:Nat}(Q:Me g=true):ok g/\ ∃t x T z,hp g=some (.cells #[.iface t x] T z):=by
 obtain⟨a,O,_⟩:=h;obtain⟨k1,⟨T,z,k2⟩,_⟩:=O g Q;exact⟨k1,_,_,T,z,k2⟩
end Go.Ae
namespace Go.Ae
inductive KK where
 |int (k:IntKind)
 |str
 |bool
 deriving DecidableEq
structure KT where
 agg:Bool
 ks:List KK
 deriving DecidableEq
inductive D where
 |int (k:IntKind) (n:Int)
 |bool (b:Bool)
 |str (s:ByteArray)
 |nilp|nilf|nili|nilc|nilm
 |agg (cs:List D)
 |tup (cs:List D)
 |sl (nz:Bool) (k:Nat) (rows:List (List D))
 |ref (cs:List D)
 |mp (kt:KT) (es:List (D×D))
 |fn (f:FuncId) (first capt:List D)
 |ifc (t:TypeId) (d:D)
 |gp (g:Nat)
 |tok (g:Nat)
def KK.fit:KK->D->Bool
 | .int k,.int k' _=>k==k'
 | .str,.str _=>true
 | .bool,.bool _=>true
 |_,_=>false
def Bx:List KK->List D->Bool
 |[],[]=>true
 |k::ks,d::ds=>k.fit d && Bx ks ds
 |_,_=>false
def KT.fit(z:KT)(d:D):Bool:=
 match z.agg,d with
 |true,.agg ds=>Bx z.ks ds
 |false,d=>Bx z.ks [d]
 |_,_=>false
def JL:Nat:=140737488355328
def V8(f:Nat):Fn:=if f<1000000000 then .func f else .yield (f - 1000000000)
def WK{f:Nat}(h:f<1000000000):V8 f= .func f:=Ak h
def xT(nz:Bool)(v:Value):Prop:=v= .slice none 0 0\/(nz=false/\ ∃a,v= .slice (some a) 0 0)
def tR{nz:Bool}{v:Value}(h:xT nz v): ∃z,v= .slice z 0 0:=by
 rcases h with rfl|⟨_,a,rfl⟩<;>exact⟨_,rfl⟩
def Qr7{v:Value}(h:xT true v):v= .slice none 0 0:=by
 rcases h with rfl|⟨h,_⟩
 .rfl
 .cases h
def Po{nz:Bool}{v:Value}(h:xT nz v):xT false v:=by
 rcases h with rfl|⟨_,a,rfl⟩
 .exact .inl rfl
 .exact .inr ⟨rfl,a,rfl⟩
mutual
def rd(ok:Nat->Prop)(hp:Nat->Option Obj):D->Value->Prop
 | .int k n,v=>v= .int k n
 | .bool b,v=>v= .bool b
 | .str s,v=>v= .string s
 | .nilp,v=>v= .pointer none
 | .nilf,v=>v= .nilFunc
 | .nili,v=>v= .nilIface
 | .nilc,v=>v= .chan none
 | .nilm,v=>v= .map none
 | .agg cs,v=> ∃vs:Array Value,v= .agg vs/\rdl ok hp cs vs.toList
 | .tup cs,v=> ∃vs:Array Value,v= .tuple vs/\rdl ok hp cs vs.toList
 | .sl nz k rows,v=>(xT nz v/\rows=[])\/
  ∃b p cap vs T Q,v= .slice (some ⟨b,p,none⟩) rows.length cap/\(nz=true->rows≠[])/\rows.length<=cap/\rows.length<=JL/\ok b/\
   hp b=some (.cells vs T Q)/\rdr ok hp k rows (vs.toList.drop p)
 | .ref cs,v=> ∃b p vs T Q,v= .pointer (some ⟨b,p,none⟩)/\ok b/\hp b=some (.cells vs T Q)/\rdp ok hp cs (vs.toList.drop p)
 | .mp kt Z,v=> ∃b z O,v= .map (some b)/\(∀e∈Z,kt.fit e.1=true)/\ok b/\hp b=some (.map z O)/\rde ok hp Z z.toList/\(z.toList.map (·.born)).Nodup/\ ∀e∈z.toList,e.born<O
 | .fn f first capt,v=> ∃a c:Array Value,v= .func (V8 f) a c/\rdl ok hp first a.toList/\rdl ok hp capt c.toList
 | .ifc t d,v=> ∃x,v= .iface t x/\rd ok hp d x
 | .gp g,v=>v= .pointer (some ⟨g,0,none⟩)
 | .tok g,v=>ok g/\(∃t x,v= .iface t x)/\ ∃T Q,hp g=some (.cells #[v] T Q)
def rdl(ok:Nat->Prop)(hp:Nat->Option Obj):List D->List Value->Prop
 |[],vs=>vs=[]
 |d::ds,vs=> ∃v r,vs=v::r/\rd ok hp d v/\rdl ok hp ds r
def rdp(ok:Nat->Prop)(hp:Nat->Option Obj):List D->List Value->Prop
 |[],_=>True
 |d::ds,vs=> ∃v r,vs=v::r/\rd ok hp d v/\rdp ok hp ds r
def rdr(ok:Nat->Prop)(hp:Nat->Option Obj)(k:Nat):List (List D)->List Value->Prop
 |[],_=>True
 |r::z,vs=>r.length=k/\rdp ok hp r vs/\rdr ok hp k z (vs.drop k)
def rde(ok:Nat->Prop)(hp:Nat->Option Obj):List (D×D)->List MapEntry->Prop
 |[],z=>z=[]
 |(x,y)::ds,z=> ∃e r,z=e::r/\rd ok hp x e.key/\rd ok hp y e.val/\rde ok hp ds r
end
section mono
variable {ok ok':Nat->Prop}{hp hp':Nat->Option Obj}
mutual
def GJ(h: ∀b,ok b->ok' b/\hp' b=hp b): ∀(d:D) (v:Value),rd ok hp d v->rd ok' hp' d v
 | .int _ _,_,hd=>by simpa only[rd] using hd
 | .bool _,_,hd=>by simpa only[rd] using hd
 | .str _,_,hd=>by simpa only[rd] using hd
 | .nilp,_,hd=>by simpa only[rd] using hd
 | .nilf,_,hd=>by simpa only[rd] using hd
 | .nili,_,hd=>by simpa only[rd] using hd
 | .nilc,_,hd=>by simpa only[rd] using hd
 | .nilm,_,hd=>by simpa only[rd] using hd
 | .gp _,_,hd=>by simpa only[rd] using hd
 | .tok g,v,hd=>by
   simp only[rd] at hd⊢;obtain⟨z,h3,T,fr,h2⟩:=hd;exact⟨(h g z).1,h3,T,fr,(h g z).2.trans h2⟩
 | .agg cs,v,hd=>by
   simp only[rd] at hd⊢;obtain⟨vs,rfl,z⟩:=hd;exact⟨vs,rfl,Lk h cs _ z⟩
 | .tup cs,v,hd=>by
   simp only[rd] at hd⊢;obtain⟨vs,rfl,z⟩:=hd;exact⟨vs,rfl,Lk h cs _ z⟩
 | .sl nz k rows,v,hd=>by
   simp only[rd] at hd⊢;rcases hd with hd|⟨b,p,cap,vs,T,fr,rfl,z,h2,h3,O,h5,h6⟩
   .exact .inl hd
   .exact .inr ⟨b,p,cap,vs,T,fr,rfl,z,h2,h3,(h b O).1,(h b O).2.trans h5,Zq h k rows _ h6⟩
 | .ref cs,v,hd=>by
   simp only[rd] at hd⊢;obtain⟨b,p,vs,T,fr,rfl,O,h5,h6⟩:=hd;exact⟨b,p,vs,T,fr,rfl,(h b O).1,(h b O).2.trans h5,Zp h cs _ h6⟩
 | .mp kt es,v,hd=>by
   simp only[rd] at hd⊢;obtain⟨b,Z,Q,rfl,h3,O,h5,h6,h7⟩:=hd;exact⟨b,Z,Q,rfl,h3,(h b O).1,(h b O).2.trans h5,Li h es _ h6,h7⟩
 | .fn f first capt,v,hd=>by
   simp only[rd] at hd⊢;obtain⟨a,c,rfl,z,h2⟩:=hd;exact⟨a,c,rfl,Lk h first _ z,Lk h capt _ h2⟩
 | .ifc t d,v,hd=>by
   simp only[rd] at hd⊢;obtain⟨x,rfl,z⟩:=hd;exact⟨x,rfl,GJ h d _ z⟩
def Lk(h: ∀b,ok b->ok' b/\hp' b=hp b): ∀(ds:List D) (vs:List Value),rdl ok hp ds vs->rdl ok' hp' ds vs
 |[],_,hd=>by simpa only[rdl] using hd
 |d::ds,vs,hd=>by
  simp only[rdl] at hd⊢;obtain⟨v,r,rfl,z,O⟩:=hd;exact⟨v,r,rfl,GJ h d v z,Lk h ds r O⟩
def Zp(h: ∀b,ok b->ok' b/\hp' b=hp b): ∀(ds:List D) (vs:List Value),rdp ok hp ds vs->rdp ok' hp' ds vs
 |[],_,_=>by simp only[rdp]
 |d::ds,vs,hd=>by
  simp only[rdp] at hd⊢;obtain⟨v,r,rfl,z,O⟩:=hd;exact⟨v,r,rfl,GJ h d v z,Zp h ds r O⟩
def Zq(h: ∀b,ok b->ok' b/\hp' b=hp b)(k:Nat): ∀(z:List (List D)) (vs:List Value),rdr ok hp k z vs->rdr ok' hp' k z vs
 |[],_,_=>by simp only[rdr]
 |r::z,vs,hd=>by
  simp only[rdr] at hd⊢;exact⟨hd.1,Zp h r vs hd.2.1,Zq h k z _ hd.2.2⟩
def Li(h: ∀b,ok b->ok' b/\hp' b=hp b): ∀(ds:List (D×D)) (es:List MapEntry),rde ok hp ds es->rde ok' hp' ds es
 |[],_,hd=>by simpa only[rde] using hd
 |(x,y)::ds,es,hd=>by
  simp only[rde] at hd⊢;obtain⟨e,r,rfl,z,O,Q⟩:=hd;exact⟨e,r,rfl,GJ h x _ z,GJ h y _ O,Li h ds r Q⟩
end
end mono
def D.sc:D->Bool
 | .int _ _| .bool _| .str _| .nilp| .nilf| .nili| .nilc| .nilm=>true
 | .sl true _ []=>true
 |_=>false
def D.scs:D->Bool
 | .agg cs| .tup cs=>cs.all D.sc
 |d=>d.sc
def M9{ok ok':Nat->Prop}{hp hp':Nat->Option Obj}: ∀{d:D} {v:Value},d.sc=true->rd ok hp d v->rd ok' hp' d v:=by
 intro d v h hd;cases d
 case sl nz k rows=>
  cases nz<;>cases rows<;>simp only[D.sc,CP] at h;simp only[rd] at hd⊢;rcases hd with hd|⟨b,p,cap,vs,T,O,_,z,_⟩
  .exact .inl hd
  .exact absurd rfl (z trivial)
 all_goals simp_all [D.sc,rd]
def TW{ok ok':Nat->Prop}{hp hp':Nat->Option Obj}: ∀(ds:List D) (vs:List Value),ds.all D.sc=true->rdl ok hp ds vs->rdl ok' hp' ds vs
 |[],_,_,hd=>by simpa only[rdl] using hd
 |d::ds,vs,h,hd=>by
  simp only[rdl,J8,AL] at hd h⊢;obtain⟨v,r,rfl,z,O⟩:=hd;exact⟨v,r,rfl,M9 h.1 z,TW ds r h.2 O⟩
def KR{ok ok':Nat->Prop}{hp hp':Nat->Option Obj}: ∀{d:D} {v:Value},d.scs=true->rd ok hp d v->rd ok' hp' d v:=by
 intro d v h hd;cases d<;>simp only[D.scs] at h<;>try exact M9 h hd
 all_goals
  simp only[rd] at hd⊢;obtain⟨vs,rfl,z⟩:=hd;exact⟨vs,rfl,TW _ _ h z⟩
inductive AV where
 |any
 |im (d:D)
 |agg (cs:List AV)
 |tup (cs:List AV)
 |ptr (o off:Nat)
 |eptr (o i off:Nat)
 |own (o:Nat)
 |mp (o:Nat)
 |ch (o:Nat)
 |it (o:Nat)
 |osl (o a n:Nat)
 |clo (f:FuncId) (first capt:List AV)
 deriving Inhabited
inductive Ac where
 |cells (T:TypeId) (cs:List AV)
 |arr (T:TypeId) (k:Nat) (rows:List (List D))
 |arrA (T:TypeId) (k:Nat) (rows:List (List AV))
 |map (kt:KT) (es:List (D×D))
 |chan (q:List D) (cap:Nat)
 |iter (last:Option (D×D)) (left:List (D×D))
 |view (cs:List D)
def Ac.isView:Ac->Bool
 | .view _=>true
 | .cells _ _| .arr _ _ _| .arrA _ _ _| .map _ _| .chan _ _| .iter _ _=>false
abbrev An:=Bool×Ac
abbrev Ao:=List (Nat×An)
structure F1 where
 b:Nat
 p:Nat
 cap:Nat
structure Ax where
 ρ:Nat->Option F1
 ok:Nat->Prop
 h:Nat->Option An
 w:World
def Ax.hp(S:Ax):Nat->Option Obj:=λb=>S.w.heap[b]?
def Ac.len:Ac->Nat
 | .arr _ _ rows=>rows.length
 | .arrA _ _ rows=>rows.length
 |_=>0
def Ac.esz:Ac->Nat
 | .arr _ k _=>k
 | .arrA _ k _=>k
 |_=>0
def PN(r:Option F1)(z len a n:Nat)(v:Value):Prop:=match r with
 |none=>v= .slice none 0 0/\n=0
 |some l=> ∃p O,v= .slice (some ⟨l.b,p,none⟩) n O/\n<=O/\(n≠0->p=l.p+a*z)/\a+n<=len
mutual
def Aa(S:Ax):AV->Value->Prop
 | .any,_=>True
 | .im d,v=>rd S.ok S.hp d v
 | .agg cs,v=> ∃vs:Array Value,v= .agg vs/\AM S cs vs.toList
 | .tup cs,v=> ∃vs:Array Value,v= .tuple vs/\AM S cs vs.toList
 | .ptr o off,v=>v.oneCell'=true/\ ∀e,S.h o=some e-> ∃l,S.ρ o=some l/\v= .pointer (some ⟨l.b,l.p+off,none⟩)
 | .eptr o i off,v=>v.oneCell'=true/\ ∀e,S.h o=some e-> ∃l,S.ρ o=some l/\v= .pointer (some ⟨l.b,l.p+i*e.2.esz+off,none⟩)
 | .own o,v=>v.oneCell'=true/\ ∀e,S.h o=some e->match S.ρ o with
  |none=>v= .slice none 0 0
  |some l=>v= .slice (some ⟨l.b,l.p,none⟩) e.2.len l.cap
 | .mp o,v=>v.oneCell'=true/\ ∀e,S.h o=some e-> ∃l,S.ρ o=some l/\v= .map (some l.b)
 | .ch o,v=>v.oneCell'=true/\ ∀e,S.h o=some e-> ∃l,S.ρ o=some l/\v= .chan (some l.b)
 | .it o,v=>v.oneCell'=true/\ ∀e,S.h o=some e-> ∃l,S.ρ o=some l/\v= .pointer (some ⟨l.b,0,none⟩)
 | .osl o a n,v=>v.oneCell'=true/\ ∀e,S.h o=some e->PN (S.ρ o) e.2.esz e.2.len a n v
 | .clo f first capt,v=> ∃a c:Array Value,v= .func (V8 f) a c/\AM S first a.toList/\AM S capt c.toList
def AM(S:Ax):List AV->List Value->Prop
 |[],vs=>vs=[]
 |x::xs,vs=> ∃v r,vs=v::r/\Aa S x v/\AM S xs r
end
def Cv(S:Ax):List AV->List Value->Prop
 |[],_=>True
 |x::xs,vs=> ∃v r,vs=v::r/\Aa S x v/\Cv S xs r
def BG(S:Ax)(k:Nat):List (List AV)->List Value->Prop
 |[],_=>True
 |r::z,vs=>r.length=k/\Cv S r vs/\BG S k z (vs.drop k)
def SR(ok:Nat->Prop)(hp:Nat->Option Obj)(z:Array MapEntry)(O:Array Nat):Option (D×D)->Prop
 |none=>True
 |some (x,y)=> ∃st e,O.back? =some st/\z.find? (·.born==st)=some e/\rd ok hp x e.key/\rd ok hp y e.val
def Ap(S:Ax)(l:Option F1):Ac->Prop
 | .cells T cs=> ∃Q vs,l=some Q/\Q.p=0/\S.hp Q.b=some (.cells vs T (0,0))/\AM S cs vs.toList
 | .arr T k rows=>rows.length<=JL/\match l with
  |none=>rows=[]
  |some Q=>rows.length<=Q.cap/\ ∃vs,S.hp Q.b=some (.cells vs T (0,0))/\Q.p+Q.cap*k<=vs.size/\rdr S.ok S.hp k rows (vs.toList.drop Q.p)
 | .arrA T k rows=>rows.length<=JL/\match l with
  |none=>rows=[]
  |some Q=>rows.length<=Q.cap/\ ∃vs,S.hp Q.b=some (.cells vs T (0,0))/\Q.p+Q.cap*k<=vs.size/\BG S k rows (vs.toList.drop Q.p)
 | .map kt es=> ∃Q z O,l=some Q/\(∀e∈es,kt.fit e.1=true)/\S.hp Q.b=some (.map z O)/\rde S.ok S.hp es z.toList/\
  (z.toList.map (·.born)).Nodup/\ ∀e∈z.toList,e.born<O
 | .chan q cap=> ∃Q aa ad ac,l=some Q/\S.hp Q.b=some (.chan cap aa false ad ac false)/\rdl S.ok S.hp q aa.toList
 | .iter ab left=> ∃Q mb z O Z,l=some Q/\S.ok mb/\SR S.ok S.hp z Z ab/\S.hp mb=some (.map z O)/\
  S.hp Q.b=some (.mapIter (some mb) O Z O)/\(z.toList.map (·.born)).Nodup/\(∀e∈z.toList,e.born<O)/\
  rde S.ok S.hp left (z.toList.filter λe=> !Z.contains e.born)
 | .view cs=> ∃Q vs T fr,l=some Q/\S.hp Q.b=some (.cells vs T fr)/\rdp S.ok S.hp cs (vs.toList.drop Q.p)
structure AY where
 w:World
 M:Nat->Prop
 ok:Nat->Prop
 n0:Nat
 h0:Nat->Option An
 ρ0:Nat->Option F1
 ds:List Deferred
def AY.mk0(w:World)(M ok:Nat->Prop):AY:=⟨w,M,ok,0,λ_=>none,λ_=>none,[]⟩
def AY.Pre(C:AY)(S:Ax):Prop:= ∀o,o<C.n0-> ∀e',S.h o=some e'-> ∃e,C.h0 o=some e/\S.ρ o=C.ρ0 o/\e'.2.esz=e.2.esz/\e'.2.len=e.2.len
structure Wf(C:AY)(S:Ax):Prop where
 os:S.w.os=C.w.os
 tape:S.w.tape=C.w.tape
 output:S.w.output=C.w.output
 size:C.w.heap.size<=S.w.heap.size
 keep: ∀b,b<C.w.heap.size-> ¬C.M b->S.w.heap[b]? =C.w.heap[b]?
 ok0: ∀b,C.ok b->S.ok b
 ok1: ∀b,S.ok b->C.ok b\/C.w.heap.size<=b\/C.M b
 oks: ∀b,S.ok b->b<S.w.heap.size
 obj: ∀o e,S.h o=some e->Ap S (S.ρ o) e.2
 loc: ∀o e l,S.h o=some e->S.ρ o=some l->l.b<S.w.heap.size/\if e.1 then ¬S.ok l.b/\(C.w.heap.size<=l.b\/C.M l.b) else S.ok l.b\/e.2.isView=true
 inj: ∀o o' e e' l l',S.h o=some e->S.h o'=some e'->S.ρ o=some l->S.ρ o'=some l'->l.b=l'.b->(e.1||e'.1)=true->o=o'
 gl:GP (λb=>C.ok b/\ ¬C.M b) (λb=>C.w.heap[b]?)
def Wf.gp{C:AY}{S:Ax}(h:Wf C S):GP S.ok S.hp:=by
 refine h.gl.mono λb o O z=>⟨h.ok0 b O.1,?_⟩
 have Q:b<C.w.heap.size:=by
  apply fT;intro hn
  have:C.w.heap[b]? =none:=WY (by omega)
  rw[this] at z;cases z
 exact (h.keep b Q O.2).trans z
def Wf.glN{C:AY}{S:Ax}(h:Wf C S){M:Nat->Prop}(O: ∀b,M b-> ¬S.ok b):GP (λb=>S.ok b/\ ¬M b) (λb=>S.w.heap[b]?):=
 h.gp.mono λb _ z Z=>⟨⟨z,λQ=>O b Q z⟩,Z⟩
mutual
def AV.bel(n:Nat):AV->Bool
 | .any=>true
 | .im _=>true
 | .agg cs=>AE n cs
 | .tup cs=>AE n cs
 | .ptr o _=>Nat.blt o n
 | .eptr o _ _=>Nat.blt o n
 | .own o=>Nat.blt o n
 | .mp o=>Nat.blt o n
 | .ch o=>Nat.blt o n
 | .it o=>Nat.blt o n
 | .osl o _ _=>Nat.blt o n
 | .clo _ a c=>AE n a && AE n c
def AE(n:Nat):List AV->Bool
 |[]=>true
 |x::r=>x.bel n && AE n r
end
mutual
def AV.nms:AV->List Nat
 | .any=>[]
 | .im _=>[]
 | .agg cs=>AB cs
 | .tup cs=>AB cs
 | .ptr o _=>[o]
 | .eptr o _ _=>[o]
 | .own o=>[o]
 | .mp o=>[o]
 | .ch o=>[o]
 | .it o=>[o]
 | .osl o _ _=>[o]
 | .clo _ a c=>AB a++AB c
def AB:List AV->List Nat
 |[]=>[]
 |x::r=>x.nms++AB r
end
def B9:List (List AV)->List Nat
 |[]=>[]
 |x::r=>AB x++B9 r
def Ac.nms:Ac->List Nat
 | .cells _ cs=>AB cs
 | .arr _ _ _=>[]
 | .arrA _ _ rows=>B9 rows
 | .map _ _=>[]
 | .chan _ _=>[]
 | .iter _ _=>[]
 | .view _=>[]
structure B4(X:Nat->Prop)(S S':Ax):Prop where
 ok: ∀b,S.ok b->S'.ok b/\S'.hp b=S.hp b
 nm: ∀o,X o-> ∀e',S'.h o=some e'-> ∃e,S.h o=some e/\S'.ρ o=S.ρ o/\e'.2.esz=e.2.esz/\e'.2.len=e.2.len
def B4.refl(X:Nat->Prop)(S:Ax):B4 X S S:=⟨λ_ h=>⟨h,rfl⟩,λ_ _ e' h=>⟨e',h,rfl,rfl,rfl⟩⟩
section
variable {X:Nat->Prop}{S S':Ax}
mutual
def HS(hp:B4 X S S'): ∀(x:AV) (v:Value),(∀o∈x.nms,X o)->Aa S x v->Aa S' x v
 | .any,_,_,_=>by simp only[Aa]
 | .im d,v,_,h=>by
   simp only[Aa] at h⊢;exact GJ hp.ok d v h
 | .agg cs,v,O,h=>by
   simp only[Aa,AV.nms] at h O⊢;obtain⟨vs,rfl,h1⟩:=h;exact⟨vs,rfl,Vp hp cs _ O h1⟩
 | .tup cs,v,O,h=>by
   simp only[Aa,AV.nms] at h O⊢;obtain⟨vs,rfl,h1⟩:=h;exact⟨vs,rfl,Vp hp cs _ O h1⟩
 | .ptr o off,v,O,h=>by
   simp only[Aa,AV.nms,BS,Lz] at h O⊢;obtain⟨z,h⟩:=h;refine⟨z,?_⟩;intro e' Q;obtain⟨e,Z,hr,_,_⟩:=hp.nm o O e' Q;rw[hr];exact h e Z
 | .eptr o i off,v,O,h=>by
   simp only[Aa,AV.nms,BS,Lz] at h O⊢;obtain⟨z,h⟩:=h;refine⟨z,?_⟩;intro e' Q;obtain⟨e,Z,hr,hz,_⟩:=hp.nm o O e' Q;rw[hr,hz];exact h e Z
 | .own o,v,O,h=>by
   simp only[Aa,AV.nms,BS,Lz] at h O⊢;obtain⟨z,h⟩:=h;refine⟨z,?_⟩;intro e' Q;obtain⟨e,Z,hr,_,hl⟩:=hp.nm o O e' Q;rw[hr,hl];exact h e Z
 | .mp o,v,O,h=>by
   simp only[Aa,AV.nms,BS,Lz] at h O⊢;obtain⟨z,h⟩:=h;refine⟨z,?_⟩;intro e' Q;obtain⟨e,Z,hr,_,_⟩:=hp.nm o O e' Q;rw[hr];exact h e Z
 | .ch o,v,O,h=>by
   simp only[Aa,AV.nms,BS,Lz] at h O⊢;obtain⟨z,h⟩:=h;refine⟨z,?_⟩;intro e' Q;obtain⟨e,Z,hr,_,_⟩:=hp.nm o O e' Q;rw[hr];exact h e Z
 | .it o,v,O,h=>by
   simp only[Aa,AV.nms,BS,Lz] at h O⊢;obtain⟨z,h⟩:=h;refine⟨z,?_⟩;intro e' Q;obtain⟨e,Z,hr,_,_⟩:=hp.nm o O e' Q;rw[hr];exact h e Z
 | .osl o a n,v,O,h=>by
   simp only[Aa,AV.nms,BS,Lz] at h O⊢;obtain⟨z,h⟩:=h;refine⟨z,?_⟩;intro e' Q;obtain⟨e,Z,hr,hz,hl⟩:=hp.nm o O e' Q;rw[hr,hz,hl];exact h e Z
 | .clo f fi ca,v,O,h=>by
   simp only[Aa,AV.nms,Bs] at h O⊢;obtain⟨a,c,rfl,h1,h2⟩:=h;exact⟨a,c,rfl,Vp hp fi _ (λo ho=>O o (.inl ho)) h1,Vp hp ca _ (λo ho=>O o (.inr ho)) h2⟩
def Vp(hp:B4 X S S'): ∀(xs:List AV) (vs:List Value),(∀o∈AB xs,X o)->AM S xs vs->AM S' xs vs
 |[],_,_,h=>by simpa only[AM] using h
 |x::xs,vs,O,h=>by
  simp only[AM,AB,Bs] at h O⊢;obtain⟨v,r,rfl,Q,Z⟩:=h;exact⟨v,r,rfl,HS hp x v (λo z=>O o (.inl z)) Q,Vp hp xs r (λo z=>O o (.inr z)) Z⟩
end
def Qq7(hp:B4 X S S'): ∀(xs:List AV) (vs:List Value),(∀o∈AB xs,X o)->Cv S xs vs->Cv S' xs vs
 |[],_,_,_=>by simp only[Cv]
 |x::xs,vs,O,h=>by
  simp only[Cv,AB,Bs] at h O⊢;obtain⟨v,r,rfl,Q,Z⟩:=h;exact⟨v,r,rfl,HS hp x v (λo z=>O o (.inl z)) Q,Qq7 hp xs r (λo z=>O o (.inr z)) Z⟩
def sA(hp:B4 X S S')(k:Nat): ∀(z:List (List AV)) (vs:List Value),(∀o∈B9 z,X o)->BG S k z vs->BG S' k z vs
 |[],_,_,_=>by simp only[BG]
 |r::z,vs,Q,h=>by
  simp only[BG,B9,Bs] at h Q⊢;exact⟨h.1,Qq7 hp r vs (λo O=>Q o (.inl O)) h.2.1,sA hp k z _ (λo O=>Q o (.inr O)) h.2.2⟩
def Qly{ok ok':Nat->Prop}{hp hp':Nat->Option Obj}(h: ∀b,ok b->ok' b/\hp' b=hp b){z:Array MapEntry}{O:Array Nat}: ∀(l:Option (D×D)),SR ok hp z O l->SR ok' hp' z O l
 |none,_=>trivial
 |some (x,y),Q=>by
  obtain⟨st,e,a,b,c,d⟩:=Q;exact⟨st,e,a,b,GJ h x _ c,GJ h y _ d⟩
def HR(hp:B4 X S S'){l:Option F1}(hl: ∀z,l=some z->S'.hp z.b=S.hp z.b): ∀(e:Ac),(∀o∈e.nms,X o)->Ap S l e->Ap S' l e
 | .cells T cs,hx,h=>by
   simp only[Ap,Ac.nms] at h hx⊢;obtain⟨z,vs,O,Z,h3,h4⟩:=h;exact⟨z,vs,O,Z,(hl z O).trans h3,Vp hp cs _ hx h4⟩
 | .arr T k rows,hx,h=>by
   simp only[Ap] at h⊢;refine⟨h.1,?_⟩;cases l with
   |none=>exact h.2
   |some z=>
    obtain⟨h0,O,vs,Z,h3,h4⟩:=h;exact⟨O,vs,(hl z rfl).trans Z,h3,Zq hp.ok k rows _ h4⟩
 | .arrA T k rows,hx,h=>by
   simp only[Ap,Ac.nms] at h hx⊢;refine⟨h.1,?_⟩;cases l with
   |none=>exact h.2
   |some z=>
    obtain⟨h0,O,vs,Z,h3,h4⟩:=h;exact⟨O,vs,(hl z rfl).trans Z,h3,sA hp k rows _ hx h4⟩
 | .map kt es,_,h=>by
   simp only[Ap] at h⊢;obtain⟨z,aa,Q,O,h0,Z,h3,h4⟩:=h;exact⟨z,aa,Q,O,h0,(hl z O).trans Z,Li hp.ok es _ h3,h4⟩
 | .chan q cap,_,h=>by
   simp only[Ap] at h⊢;obtain⟨z,ag,af,ac,O,Z,h3⟩:=h;exact⟨z,ag,af,ac,O,(hl z O).trans Z,Lk hp.ok q _ h3⟩
 | .iter ab left,_,h=>by
   simp only[Ap] at h⊢;obtain⟨z,mb,aa,Q,ad,O,Z,h0,h3,h4,h5,h6,h7⟩:=h;exact⟨z,mb,aa,Q,ad,O,(hp.ok mb Z).1,Qly hp.ok ab h0,(hp.ok mb Z).2.trans h3,(hl z O).trans h4,h5,h6,Li hp.ok left _ h7⟩
 | .view cs,_,h=>by
   simp only[Ap] at h⊢;obtain⟨z,vs,T,fr,O,Z,h3⟩:=h;exact⟨z,vs,T,fr,O,(hl z O).trans Z,Zp hp.ok cs _ h3⟩
end
inductive TK where
 |bool
 |str
 |ptr (e:TypeId)
 |int (k:IntKind)
 |slice (e:TypeId)
 |array (n:Nat) (e:TypeId)
 |struct (fs:List (Nat×Nat))
 |map (k e:TypeId)
 |other
structure TI where
 size:Nat
 bytes:Nat
 agg:Bool
 kind:TK
 zero:List D
def zD:Value->D
 | .bool b=> .bool b
 | .int k n=> .int k n
 | .string s=> .str s
 | .pointer none=> .nilp
 | .slice none _ _=> .sl true 0 []
 | .map none=> .nilm
 | .chan none=> .nilc
 | .nilFunc=> .nilf
 |_=> .nili
def bL:Value->Bool
 | .bool _| .int _ _| .string _| .pointer none| .slice none 0 0| .map none| .chan none| .nilFunc| .nilIface=>true
 |_=>false
def zOf:Bool->Option Value->List D
 |true,some (.agg vs)=>bif vs.toList.all bL then vs.toList.map zD else []
 |false,some v=>bif bL v then [zD v] else []
 |_,_=>[]
def Xc:TypeDesc->Bool
 | .struct _| .array _ _=>true
 |_=>false
def Fy(P:Program):TypeDesc->TK
 | .int k=> .int k
 | .slice e=> .slice e
 | .array n e=> .array n e
 | .struct z=>bif z.toList.all (λf=>(P.info? f.type).isSome) then .struct (z.toList.map λf=>(f.offset,((P.info? f.type).map (·.size)).getD 0)) else .other
 | .map k e=> .map k e
 | .bool=> .bool
 | .string=> .str
 | .pointer e=> .ptr e
 |_=> .other
def tI(P:Program)(t:TypeId):Option TI:=
 match P.info? t,P.underlying t with
 |some i,some u=>some {size:=i.size,bytes:=i.bytes,agg:=Xc u,kind:=Fy P u,zero:=zOf (Xc u) i.zero}
 |_,_=>none
structure Bo where
 use:List Nat:=[]
 kill:List Nat:=[]
 new:Ao:=[]
 cnt:Nat:=0
structure Av where
 tm:List (Nat×AV)
 h:Ao
 nx:Nat
def A8:List (Nat×AV)->Nat->AV
 |[],_=> .any
 |(m,x)::r,n=>bif m==n then x else A8 r n
def hget:Ao->Nat->Option An
 |[],_=>none
 |(m,e)::r,n=>bif m==n then some e else hget r n
def Bi:Ao->List Nat->Ao
 |[],_=>[]
 |(m,e)::r,ks=>bif ks.contains m then Bi r ks else (m,e)::Bi r ks
def Av.put(s:Av)(dst:Option Nat)(x:AV):Av:=
 match dst with
 |some d=>⟨(d,x)::s.tm,s.h,s.nx⟩
 |none=>s
def Av.app(s:Av)(dst:Option Nat)(r:AV)(E:Bo):Av:=
 (⟨s.tm,E.new++Bi s.h E.kill,s.nx+E.cnt⟩:Av).put dst r
def kD:Value->AV
 | .bool b=> .im (.bool b)
 | .int k n=> .im (.int k n)
 | .string s=> .im (.str s)
 | .pointer none=> .im .nilp
 | .slice none 0 0=> .im (.sl true 0 [])
 | .map none=> .im .nilm
 | .chan none=> .im .nilc
 | .nilFunc=> .im .nilf
 | .nilIface=> .im .nili
 |_=> .any
def Aq(tm:List (Nat×AV)):Operand->AV
 | .tmp t=>A8 tm t
 | .const v=>kD v
 | .global g=> .im (.gp g)
 | .func f=>bif Nat.blt f 1000000000 then .im (.fn f [] []) else .any
def D.cells:D->List D
 | .agg ds=>ds
 | .int k n=>[.int k n]
 | .bool b=>[.bool b]
 | .str s=>[.str s]
 | .nilp=>[.nilp]
 | .nilf=>[.nilf]
 | .nili=>[.nili]
 | .nilc=>[.nilc]
 | .nilm=>[.nilm]
 | .tup cs=>[.tup cs]
 | .sl Q k rows=>[.sl Q k rows]
 | .ref cs=>[.ref cs]
 | .mp O z=>[.mp O z]
 | .fn f a c=>[.fn f a c]
 | .ifc t d=>[.ifc t d]
 | .gp g=>[.gp g]
 | .tok g=>[.tok g]
def AV.cells:AV->List AV
 | .im d=>d.cells.map .im
 | .agg cs=>cs
 | .any=>[]
 | .tup cs=>[.tup cs]
 | .ptr o p=>[.ptr o p]
 | .eptr o i p=>[.eptr o i p]
 | .own o=>[.own o]
 | .mp o=>[.mp o]
 | .ch o=>[.ch o]
 | .it o=>[.it o]
 | .osl o a n=>[.osl o a n]
 | .clo f a c=>[.clo f a c]
def D.one:D->Bool
 | .agg _| .tup _=>false
 | .int _ _| .bool _| .str _| .nilp| .nilf| .nili| .nilc| .nilm| .sl _ _ _| .ref _| .mp _ _| .fn _ _ _| .ifc _ _| .gp _| .tok _=>true
def AV.one:AV->Bool
 | .im d=>d.one
 | .agg _| .any| .tup _=>false
 | .ptr _ _| .eptr _ _ _| .own _| .mp _| .ch _| .it _| .osl _ _ _| .clo _ _ _=>true
def QV:List AV->Bool
 |[]=>true
 |x::r=>x.one && QV r
def AV.asD:AV->Option D
 | .im d=>some d
 | .agg _| .any| .tup _| .ptr _ _| .eptr _ _ _| .own _| .mp _| .ch _| .it _| .osl _ _ _| .clo _ _ _=>none
def NV:Option D->Option (List D)->Option (List D)
 |some d,some ds=>some (d::ds)
 |some _,none=>none
 |none,_=>none
def DQ:List AV->Option (List D)
 |[]=>some []
 |x::r=>NV x.asD (DQ r)
def XZ(cs:List AV):Option (List D)->AV
 |some ds=> .im (.agg ds)
 |none=> .agg cs
def hdV:List AV->AV
 |[]=> .any
 |x::_=>x
def nG:List D->D
 |[]=> .nilp
 |x::_=>x
def iN(agg:Bool)(cs:List AV):AV:=
 bif agg then XZ cs (DQ cs) else hdV cs
def aW(agg:Bool)(ds:List D):D:=bif agg then .agg ds else nG ds
def Ce{α:Type}(l:List α)(off:Nat)(x:List α):List α:=l.take off++x++l.drop (off+x.length)
abbrev Ai:=AV->Bo->Prop
mutual
def D.beq:D->D->Bool
 | .int _ a,.int _ b=>a==b
 | .bool a,.bool b=>a==b
 | .str a,.str b=>a==b
 | .agg a,.agg b=>D.beql a b
 |_,_=>false
def D.beql:List D->List D->Bool
 |[],[]=>true
 |a::r,b::s=>D.beq a b && D.beql r s
 |_,_=>false
end
def lk:List (D×D)->D->Option D
 |[],_=>none
 |(k,v)::r,x=>bif D.beq x k then some v else lk r x
def Gy:List (D×D)->D->D->List (D×D)
 |[],x,y=>[(x,y)]
 |(k,v)::r,x,y=>bif D.beq x k then (x,y)::r else (k,v)::Gy r x y
def IR:List (D×D)->D->List (D×D)
 |[],_=>[]
 |(k,v)::r,x=>bif D.beq x k then r else (k,v)::IR r x
def ZH(P:Program)(O:TypeId->Option KT):List Field->Nat->Option (List KK)
 |[],_=>some []
 |f::Q,off=>
  match O f.type,P.info? f.type with
  |some z,some i=>
   bif f.offset==off && (f.name != "_" && i.size==z.ks.length) then (ZH P O Q (off+z.ks.length)).map (z.ks++ ·) else none
  |_,_=>none
def Bn(P:Program):Nat->TypeId->Option KT
 |0,_=>none
 |n+1,t=>
  match P.underlying t with
  |some (.int k)=>some ⟨false,[.int k]⟩
  |some .string=>some ⟨false,[.str]⟩
  |some .bool=>some ⟨false,[.bool]⟩
  |some (.struct z)=>bif P.stoodInHeld t then none else (ZH P (Bn P n) z.toList 0).map (⟨true,·⟩)
  |_=>none
def B7(P:Program)(t:TypeId):Option KT:=Bn P 5 t
def J1{α:Type}(rows:List (List α))(i:Nat)(K:List α->Prop):Prop:= ∀row,rows[i]? =some row->K row
def FW(es:List (D×D))(kd:D)(Ks:D->Prop)(Kn:Prop):Prop:=(∀v,lk es kd=some v->Ks v)/\(lk es kd=none->Kn)
def eZ(ti:TI)(off:Nat)(E:Bo)(K:Ai)(row:List D):Prop:=(ti.agg=true\/ti.size=1)/\off+ti.size<=row.length/\K (.im (aW ti.agg ((row.drop off).take ti.size))) E
def uX(ti:TI)(off:Nat)(E:Bo)(K:Ai)(row:List AV):Prop:=(ti.agg=true\/ti.size=1)/\off+ti.size<=row.length/\K (iN ti.agg ((row.drop off).take ti.size)) E
def Ja(ti:TI)(o off:Nat)(K:Ai):Option An->Prop
 |some (_,.cells _ cs)=>uX ti off {use:=[o]} K cs
 |some (_,.view cs)=>eZ ti off {use:=[o]} K cs
 |_=>False
def IZ(ti:TI)(o i off:Nat)(K:Ai):Option An->Prop
 |some (_,.arr _ _ rows)=>i<rows.length/\J1 rows i (eZ ti off {use:=[o]} K)
 |some (_,.arrA _ _ rows)=>i<rows.length/\J1 rows i (uX ti off {use:=[o]} K)
 |_=>False
def WL(h:Nat->Option An)(ti:TI)(K:Ai):AV->Prop
 | .im (.ref cs)=>eZ ti 0 {} K cs
 | .im (.gp g)=>Me g=true/\ti.size=1/\ti.agg=false/\K (.im (.tok g)) {}
 | .ptr o off=>Ja ti o off K (h o)
 | .eptr o i off=>IZ ti o i off K (h o)
 |_=>False
def XS(o i off k z:Nat)(T:TypeId)(rows:List (List D))(K:Ai)(row:List D):Option (List D)->Prop
 |some ds=>off+z<=row.length/\K .any {use:=[o],kill:=[o],new:=[(o,(true,.arr T k (rows.set i (Ce row off ds))))]}
 |none=>False
def Qxz(o i off k z:Nat)(T:TypeId)(rows:List (List D))(ds:Option (List D))(K:Ai)(row:List D):Prop:=XS o i off k z T rows K row ds
def Qyo(o i off k z:Nat)(T:TypeId)(rows:List (List AV))(vs:List AV)(K:Ai)(row:List AV):Prop:=
 off+z<=row.length/\K .any {use:=[o],kill:=[o],new:=[(o,(true,.arrA T k (rows.set i (Ce row off vs))))]}
def U3(ti:TI)(o off:Nat)(vs:List AV)(K:Ai):Option An->Prop
 |some (true,.cells T cs)=>off+ti.size<=cs.length/\K .any {use:=[o],kill:=[o],new:=[(o,(true,.cells T (Ce cs off vs)))]}
 |_=>False
def Jm(ti:TI)(o i off:Nat)(vs:List AV)(K:Ai):Option An->Prop
 |some (true,.arr T k rows)=>i<rows.length/\J1 rows i (Qxz o i off k ti.size T rows (DQ vs) K)
 |some (true,.arrA T k rows)=>i<rows.length/\J1 rows i (Qyo o i off k ti.size T rows vs K)
 |_=>False
def sD(h:Nat->Option An)(ti:TI)(vs:List AV)(K:Ai):AV->Prop
 | .ptr o off=>U3 ti o off vs K (h o)
 | .eptr o i off=>Jm ti o i off vs K (h o)
 |_=>False
def Qri(h:Nat->Option An)(x v:AV)(K:Ai)(ti:TI):Prop:=
 ti.size≠0/\v.cells.length=ti.size/\QV v.cells=true/\sD h ti v.cells K x
def Rq(o:Nat)(x:AV)(K:Ai):Option An->Prop
 |some _=>K x {use:=[o]}
 |none=>False
def K6(h:Nat->Option An)(off:Nat)(K:Ai):AV->Prop
 | .im (.ref cs)=>off<=cs.length/\K (.im (.ref (cs.drop off))) {}
 | .ptr o p=>Rq o (.ptr o (p+off)) K (h o)
 | .eptr o i p=>Rq o (.eptr o i (p+off)) K (h o)
 |_=>False
def X6(h:Nat->Option An)(x:AV)(K:Ai):Option (Nat×Nat)->Prop
 |some (off,z)=>z≠0/\K6 h off K x
 |none=>False
def faK(h:Nat->Option An)(x:AV)(f:Nat)(K:Ai):TK->Prop
 | .struct z=>X6 h x K z[f]?
 |_=>False
def yO(h:Nat->Option An)(x:AV)(f:Nat)(K:Ai)(ti:TI):Prop:=faK h x f K ti.kind
def wO(K:Ai)(row:List D):Prop:=K (.im (.ref row)) {}
def Mc(o:Nat)(n:Int)(K:Ai)(z:TI):Option An->Prop
 |some (_,.arr _ k rows)=>k=z.size/\0<=n/\n<(rows.length:Int)/\K (.eptr o n.toNat 0) {use:=[o]}
 |some (_,.arrA _ k rows)=>k=z.size/\0<=n/\n<(rows.length:Int)/\K (.eptr o n.toNat 0) {use:=[o]}
 |_=>False
def XM(h:Nat->Option An)(n:Int)(K:Ai)(x:AV)(z:TI):Prop:=
 match x with
 | .im (.sl _ k rows)=>k=z.size/\0<=n/\n<(rows.length:Int)/\J1 rows n.toNat (wO K)
 | .own o=>Mc o n K z (h o)
 |_=>False
def Mb(h:Nat->Option An)(m:Nat)(n:Int)(K:Ai)(x:AV)(z:TI):Prop:=
 match x with
 | .ptr o p=>0<=n/\n<(m:Int)/\Rq o (.ptr o (p+n.toNat*z.size)) K (h o)
 | .im (.ref cs)=>0<=n/\n<(m:Int)/\n.toNat*z.size<=cs.length/\K (.im (.ref (cs.drop (n.toNat*z.size)))) {}
 |_=>False
def Bf(f:TI->Prop):Option TI->Prop
 |some ti=>f ti
 |none=>False
def wJ(P:Program)(h:Nat->Option An)(x:AV)(n:Int)(K:Ai):TK->Prop
 | .slice e=>Bf (XM h n K x) (tI P e)
 | .array m e=>Bf (Mb h m n K x) (tI P e)
 |_=>False
def Qjp(P:Program)(h:Nat->Option An)(x:AV)(ti:TI)(K:Ai):AV->Prop
 | .im (.int _ n)=>wJ P h x n K ti.kind
 |_=>False
def SK(m:Nat)(n:Int)(cs:List D)(K:Ai)(z:TI):Prop:=
 (z.agg=true\/z.size=1)/\0<=n/\n<(m:Int)/\n.toNat*z.size+z.size<=cs.length/\K (.im (aW z.agg ((cs.drop (n.toNat*z.size)).take z.size))) {}
def bM(s:ByteArray)(i:Nat)(K:UInt8->Prop):Prop:= ∀c,s.data[i]? =some c->K c
def kCh(K:Ai)(c:UInt8):Prop:=K (.im (.int .u8 c.toNat)) {}
def ixK(P:Program)(n:Int)(K:Ai):TK->AV->Prop
 | .array m e,.im (.agg cs)=>Bf (SK m n cs K) (tI P e)
 | .str,.im (.str s)=>0<=n/\n<(s.size:Int)/\bM s n.toNat (kCh K)
 |_,_=>False
def Qxc(P:Program)(x:AV)(ti:TI)(K:Ai):AV->Prop
 | .im (.int _ n)=>ixK P n K ti.kind x
 |_=>False
def GC:BinOp->Nat
 | .shr=>1
 | .shl=>2
 | .add| .sub| .mul| .quo| .rem| .and| .or| .xor| .andNot| .eql| .neq| .lss| .leq| .gtr| .geq=>0
def Xd(k:IntKind)(a b:Int):Int:=k.wrap ((BitVec.ofInt k.bits a &&& BitVec.ofInt k.bits b).toNat:Int)
def orI(k:IntKind)(a b:Int):Int:=k.wrap ((BitVec.ofInt k.bits a|||BitVec.ofInt k.bits b).toNat:Int)
def xY(k:IntKind)(a b:Int):Int:=k.wrap ((BitVec.ofInt k.bits a^^^BitVec.ofInt k.bits b).toNat:Int)
def I8(op:BinOp)(k:IntKind)(a b:Int)(K:Ai):Prop:=
 match op with
 | .add=>K (.im (.int k (k.wrap (a+b)))) {}
 | .sub=>K (.im (.int k (k.wrap (a - b)))) {}
 | .mul=>K (.im (.int k (k.wrap (a*b)))) {}
 | .quo=>b≠0/\K (.im (.int k (k.wrap (a.tdiv b)))) {}
 | .rem=>b≠0/\K (.im (.int k (a.tmod b))) {}
 | .eql=>K (.im (.bool (decide (a=b)))) {}
 | .neq=>K (.im (.bool (!decide (a=b)))) {}
 | .lss=>K (.im (.bool (decide (a<b)))) {}
 | .leq=>K (.im (.bool (decide (a<=b)))) {}
 | .gtr=>K (.im (.bool (decide (b<a)))) {}
 | .geq=>K (.im (.bool (decide (b<=a)))) {}
 | .and=>K (.im (.int k (Xd k a b))) {}
 | .or=>K (.im (.int k (orI k a b))) {}
 | .xor=>K (.im (.int k (xY k a b))) {}
 |_=>False
def aG(neg:Bool)(K:Ai)(b:Bool):Prop:=K (.im (.bool (neg !=b))) {}
def Sb(neg:Bool)(K:Ai):AV->Prop
 | .im (.sl true _ rows)=>aG neg K rows.isEmpty
 |_=>False
def uN(h:Nat->Option An)(neg:Bool)(K:Ai):AV->Prop
 | .im .nilp=>aG neg K true
 | .im (.ref _)=>aG neg K false
 | .ptr o _=>Rq o (.im (.bool neg)) K (h o)
 | .eptr o _ _=>Rq o (.im (.bool neg)) K (h o)
 |_=>False
def VK(h:Nat->Option An)(neg:Bool)(K:Ai):AV->Prop
 | .im .nilm=>aG neg K true
 | .im (.mp _ _)=>aG neg K false
 | .mp o=>Rq o (.im (.bool neg)) K (h o)
 |_=>False
def WH(h:Nat->Option An)(neg:Bool)(K:Ai)(x:AV):Nat->TK->Prop
 |0,.slice _=>Sb neg K x
 |1,.ptr _=>uN h neg K x
 |2,.map _ _=>VK h neg K x
 |_,_=>False
def NB(op:BinOp)(a b:ByteArray)(K:Ai):Prop:=
 match op with
 | .eql=>K (.im (.bool (decide (a=b)))) {}
 | .neq=>K (.im (.bool (!decide (a=b)))) {}
 | .add=>a.size+b.size<=9223372036854775807/\K (.im (.str (a++b))) {}
 |_=>False
def Jq(op:BinOp)(a b:Bool)(K:Ai):Prop:=
 match op with
 | .eql=>K (.im (.bool (a==b))) {}
 | .neq=>K (.im (.bool (a !=b))) {}
 |_=>False
def MZ(op:BinOp)(a b:Bool)(K:Ai):Option TI->Prop
 |some ti=>ti.kind= .bool/\Jq op a b K
 |none=>False
def tU(op:BinOp)(a b:List D)(K:Ai):Prop:=
 match op with
 | .eql=>K (.im (.bool (D.beql a b))) {}
 | .neq=>K (.im (.bool (!D.beql a b))) {}
 |_=>False
def tP(P:Program)(T:TypeId)(op:BinOp)(a b:List D)(K:Ai):Option KT->Prop
 |some z=>z.fit (.agg a)=true/\z.fit (.agg b)=true/\P.eqGuardType P.depth T=false/\tU op a b K
 |none=>False
def Z7(op:BinOp)(k:IntKind)(a:Int)(k':IntKind)(b:Int)(K:Ai):Nat->Prop
 |0=>k=k'/\I8 op k a b K
 |1=>0<=b/\K (.im (.int k (a.fdiv (2^min b.toNat k.bits)))) {}
 |_+2=>0<=b/\K (.im (.int k (k.wrap (a*2^min b.toNat k.bits)))) {}
def fH(P:Program)(T:TypeId)(op:BinOp)(K:Ai):AV->AV->Prop
 | .im (.int k a),.im (.int k' b)=>Z7 op k a k' b K (GC op)
 | .im (.str a),.im (.str b)=>NB op a b K
 | .im (.bool a),.im (.bool b)=>MZ op a b K (tI P T)
 | .im (.agg a),.im (.agg b)=>tP P T op a b K (B7 P T)
 |_,_=>False
def YK(K:Ai):UnOp->AV->Prop
 | .not,.im (.bool b)=>K (.im (.bool (!b))) {}
 | .neg,.im (.int k n)=>K (.im (.int k (k.wrap (-n)))) {}
 |_,_=>False
def ZE(cells:List AV)(vs:List AV):Option (Nat×Nat)->Option (List AV)
 |none=>none
 |some (off,size)=>bif vs.length==size && (Nat.blt 0 size && Nat.ble (off+size) cells.length) then some (Ce cells off vs) else none
def H5(place:Nat->Option (Nat×Nat)):List (Nat×AV)->Option (List AV)->Option (List AV)
 |[],r=>r
 |_::_,none=>none
 |(i,v)::z,some cells=>H5 place z (ZE cells v.cells (place i))
def Ji(k i:Nat):Option (Nat×Nat):=some (i*k,k)
def M5(z:List (Nat×Nat))(i:Nat):Option (Nat×Nat):=z[i]?
def N5(K:Ai):Option (List AV)->Prop
 |some cs=>K (iN true cs) {}
 |none=>False
def Rw(Q:List AV)(z:List (Nat×AV))(K:Ai)(O:TI):Prop:=N5 K (H5 (Ji O.size) z (some Q))
def wB(P:Program)(O:List AV)(z:List (Nat×AV))(K:Ai):TK->Prop
 | .struct Q=>N5 K (H5 (M5 Q) z (some O))
 | .array _ e=>Bf (Rw O z K) (tI P e)
 |_=>False
def Qsy(P:Program)(z:List (Nat×AV))(K:Ai)(ti:TI):Prop:=ti.zero.length=ti.size/\ti.size≠0/\wB P (ti.zero.map .im) z K ti.kind
def HT{α:Type}(k:Nat):Nat->List α->List (List α)
 |0,_=>[]
 |n+1,l=>l.take k::HT k n (l.drop k)
def Ch{α:Type}:Nat->List α->List α
 |0,_=>[]
 |n+1,z=>z++Ch n z
def IM(nx len e k:Nat)(cs:List AV)(K:Ai):Option (List D)->Prop
 |some ds=>K (.own nx) {new:=[(nx,(true,.arr e k (HT k len ds)))],cnt:=1}
 |none=>K (.own nx) {new:=[(nx,(true,.arrA e k (HT k len cs)))],cnt:=1}
def L5(nx len e k:Nat)(K:Ai):Option (List AV)->Prop
 |some cs=>IM nx len e k cs K (DQ cs)
 |none=>False
def bsE(nx len e:Nat)(z:List (Nat×AV))(K:Ai)(O:TI):Prop:=
 O.zero.length=O.size/\O.size≠0/\len*O.size<=16777216/\L5 nx len e O.size K (H5 (Ji O.size) z (some (Ch len (O.zero.map .im))))
def bsK(P:Program)(nx len:Nat)(z:List (Nat×AV))(K:Ai):TK->Prop
 | .slice e=>Bf (bsE nx len e z K) (tI P e)
 |_=>False
def yG(P:Program)(nx len:Nat)(z:List (Nat×AV))(K:Ai)(ti:TI):Prop:=bsK P nx len z K ti.kind
def msE(nx e:Nat)(n m:Int)(K:Ai)(z:TI):Prop:=
 z.size≠0/\0<=n/\n<=m/\m<=1073741824/\z.bytes<=65536/\z.zero.length=z.size/\
  K (.own nx) {new:=[(nx,(true,.arr e z.size (List.replicate n.toNat z.zero)))],cnt:=1}
def msK(P:Program)(nx:Nat)(K:Ai):TK->AV->AV->Prop
 | .slice e,.im (.int .i64 n),.im (.int .i64 m)=>Bf (msE nx e n m K) (tI P e)
 |_,_,_=>False
def yP(P:Program)(nx:Nat)(l c:AV)(K:Ai)(ti:TI):Prop:=msK P nx K ti.kind l c
inductive BX where
 |d (u:List Nat) (k:Nat) (rows:List (List D))
 |a (u:List Nat) (k:Nat) (rows:List (List AV))
 |no
def ZB(o:Nat):Option An->BX
 |some (_,.arr _ k rows)=> .d [o] k rows
 |some (_,.arrA _ k rows)=> .a [o] k rows
 |_=> .no
def DP(h:Nat->Option An):AV->BX
 | .im (.sl _ k rows)=> .d [] k rows
 | .own o=>ZB o (h o)
 |_=> .no
def Bp(rows:List (List D)):List (List AV):=rows.map λr=>r.map .im
def BK:List D->Bool
 |[]=>true
 |x::r=>x.one && BK r
def BY{α:Type}(f:List α->Bool)(rows:List (List α)):Prop:= ∀row∈rows,f row=true
def BX.okOne:BX->Prop
 | .d _ _ rows=>BY BK rows
 | .a _ _ rows=>BY QV rows
 | .no=>False
def N2(nx e:Nat)(z:TI)(K:Ai):BX->Prop
 | .d u k rows=>(k=z.size\/rows=[])/\(rows.length+512)*z.bytes<=140737488355328/\K (.own nx) {use:=u,new:=[(nx,(true,.arr e z.size rows))],cnt:=1}
 | .a u k rows=>k=z.size/\(rows.length+512)*z.bytes<=140737488355328/\K (.own nx) {use:=u,kill:=u,new:=[(nx,(true,.arrA e z.size rows))],cnt:=1}
 | .no=>False
def mY(nx e o:Nat)(z:TI)(rows0:List (List D))(K:Ai):BX->Prop
 | .d u k rows=>(k=z.size\/rows=[])/\u≠[o]/\(rows0.length+rows.length+512)*z.bytes<=140737488355328/\
  K (.own nx) {use:=o::u,kill:=[o],new:=[(nx,(true,.arr e z.size (rows0++rows)))],cnt:=1}
 | .a u k rows=>k=z.size/\u≠[o]/\(rows0.length+rows.length+512)*z.bytes<=140737488355328/\
  K (.own nx) {use:=o::u,kill:=o::u,new:=[(nx,(true,.arrA e z.size (Bp rows0++rows)))],cnt:=1}
 | .no=>False
def mX(nx e o:Nat)(z:TI)(rows0:List (List AV))(K:Ai):BX->Prop
 | .d u k rows=>(k=z.size\/rows=[])/\u≠[o]/\(rows0.length+rows.length+512)*z.bytes<=140737488355328/\
  K (.own nx) {use:=o::u,kill:=[o],new:=[(nx,(true,.arrA e z.size (rows0++Bp rows)))],cnt:=1}
 | .a u k rows=>k=z.size/\u≠[o]/\(rows0.length+rows.length+512)*z.bytes<=140737488355328/\
  K (.own nx) {use:=o::u,kill:=o::u,new:=[(nx,(true,.arrA e z.size (rows0++rows)))],cnt:=1}
 | .no=>False
def IK(nx e o:Nat)(O:TI)(src:BX)(K:Ai):Option An->Prop
 |some (true,.arr T k z)=>T=e/\k=O.size/\mY nx e o O z K src
 |some (true,.arrA T k z)=>T=e/\k=O.size/\mX nx e o O z K src
 |_=>False
def Rr(h:Nat->Option An)(nx e:Nat)(z:TI)(src:BX)(K:Ai):AV->Prop
 | .im (.sl true _ [])=>N2 nx e z K src
 | .own o=>IK nx e o z src K (h o)
 |_=>False
def apE(h:Nat->Option An)(nx e:Nat)(s:AV)(src:BX)(K:Ai)(z:TI):Prop:=
 z.size≠0/\z.zero.length=z.size/\z.bytes≠0/\src.okOne/\Rr h nx e z src K s
def apK(P:Program)(h:Nat->Option An)(nx:Nat)(s:AV)(src:BX)(K:Ai):TK->Prop
 | .slice e=>Bf (apE h nx e s src K) (tI P e)
 |_=>False
def Qsl(P:Program)(h:Nat->Option An)(nx:Nat)(s x:AV)(K:Ai)(ti:TI):Prop:=apK P h nx s (DP h x) K ti.kind
def FF(K:Ai)(E:Bo)(n:Nat):Prop:=K (.im (.int .i64 n)) E
def Qxr(z:Bool)(o:Nat)(K:Ai):Option An->Prop
 |some (_,.arr _ _ rows)=>(z=true->rows.length<=140737488355328)->FF K {use:=[o]} rows.length
 |some (_,.arrA _ _ rows)=>(z=true->rows.length<=140737488355328)->FF K {use:=[o]} rows.length
 |_=>False
def Mj(o:Nat)(K:Ai):Option An->Prop
 |some (_,.map _ z)=>FF K {use:=[o]} z.length
 |_=>False
def iK(o n:Nat)(K:Ai):Option An->Prop
 |some _=>FF K {use:=[o]} n
 |none=>False
def fG(z:Bool)(h:Nat->Option An)(K:Ai):AV->Prop
 | .osl o _ n=>iK o n K (h o)
 | .im (.sl _ _ rows)=>(z=true->rows.length<=140737488355328)->FF K {} rows.length
 | .own o=>Qxr z o K (h o)
 |_=>False
def SV(K:Ai):AV->Prop
 | .im (.str s)=>FF K {} s.size
 |_=>False
def uS(h:Nat->Option An)(K:Ai):AV->Prop
 | .im (.mp _ z)=>FF K {} z.length
 | .im .nilm=>FF K {} 0
 | .mp o=>Mj o K (h o)
 |_=>False
def Fu(z:Bool)(h:Nat->Option An)(K:Ai)(x:AV):TK->Prop
 | .slice _=>fG z h K x
 | .str=>SV K x
 | .map _ _=>uS h K x
 | .bool| .ptr _| .int _| .array _ _| .struct _| .other=>False
def fL(z:Bool)(h:Nat->Option An)(x:AV)(K:Ai)(ti:TI):Prop:=Fu z h K x ti.kind
def Qy3(ok:Bool)(E:Bo)(K:Ai)(v:D):Prop:=K (bif ok then .tup [.im v,.im (.bool true)] else .im v) E
def IY(z:TI)(ok:Bool)(E:Bo)(K:Ai):Prop:=z.zero.length=z.size/\(z.agg=true\/z.size=1)/\z.size≠0/\K (bif ok then .tup [.im (aW z.agg z.zero),.im (.bool false)] else .im (aW z.agg z.zero)) E
def Tb(o:Nat)(Q:KT)(kd:D)(ok:Bool)(Z:TI)(K:Ai):Option An->Prop
 |some (_,.map z O)=>z=Q/\FW O kd (Qy3 ok {use:=[o]} K) (IY Z ok {use:=[o]} K)
 |_=>False
def fM(h:Nat->Option An)(Q:KT)(kd:D)(ok:Bool)(O:TI)(K:Ai):AV->Prop
 | .im (.mp z Z)=>z=Q/\FW Z kd (Qy3 ok {} K) (IY O ok {} K)
 | .im .nilm=>IY O ok {} K
 | .mp o=>Tb o Q kd ok O K (h o)
 |_=>False
def XY(h:Nat->Option An)(m:AV)(kd:D)(ok:Bool)(K:Ai)(O:TI):Option KT->Prop
 |some z=>z.fit kd=true/\fM h z kd ok O K m
 |none=>False
def luE(P:Program)(h:Nat->Option An)(m:AV)(kd:D)(ok:Bool)(K:Ai)(k:TypeId)(z:TI):Prop:=XY h m kd ok K z (B7 P k)
def luK(P:Program)(h:Nat->Option An)(m:AV)(ok:Bool)(K:Ai):TK->AV->Prop
 | .map k e,.im z=>Bf (luE P h m z ok K k) (tI P e)
 |_,_=>False
def Qnn(P:Program)(h:Nat->Option An)(m k:AV)(ok:Bool)(K:Ai)(ti:TI):Prop:=luK P h m ok K ti.kind k
def Tq(o:Nat)(z:KT)(kd Z:D)(K:Ai):Option An->Prop
 |some (true,.map O Q)=>O=z/\z.fit kd=true/\K .any {use:=[o],kill:=[o],new:=[(o,(true,.map z (Gy Q kd Z)))]}
 |_=>False
def Tp(h:Nat->Option An)(o:Nat)(kd O:D)(K:Ai):Option KT->Prop
 |some z=>Tq o z kd O K (h o)
 |none=>False
def KG(P:Program)(h:Nat->Option An)(o:Nat)(kd z:D)(K:Ai):TK->Prop
 | .map k _=>Tp h o kd z K (B7 P k)
 | .bool| .str| .ptr _| .int _| .array _ _| .struct _| .slice _| .other=>False
def muF(n:Nat)(e:Ac)(K:Ai)(r:AV)(E:Bo):Prop:=E.kill.contains n=false/\K r {use:=n::E.use,kill:=n::E.kill,new:=E.new++[(n,(false,e))],cnt:=E.cnt}
def Tr(P:Program)(h:Nat->Option An)(o n:Nat)(kd:D)(K:Ai)(z:TK):Option An->Prop
 |some (_,.arr T k rows)=>(o==n)=false/\KG P h o kd (.sl false k rows) (muF n (.arr T k rows) K) z
 |_=>False
def rU(P:Program)(h:Nat->Option An)(K:Ai)(m k v:AV)(ti:TI):Prop:=
 match m,k,v with
 | .mp o,.im z,.im O=>KG P h o z O K ti.kind
 | .mp o,.im z,.own n=>Tr P h o n z K ti.kind (h n)
 |_,_,_=>False
def RO(o:Nat)(z:KT)(kd:D)(K:Ai):Option An->Prop
 |some (true,.map O Q)=>O=z/\z.fit kd=true/\K .any {use:=[o],kill:=[o],new:=[(o,(true,.map z (IR Q kd)))]}
 |_=>False
def Xt(h:Nat->Option An)(o:Nat)(kd:D)(K:Ai):Option KT->Prop
 |some z=>RO o z kd K (h o)
 |none=>False
def RN(P:Program)(h:Nat->Option An)(o:Nat)(kd:D)(K:Ai):TK->Prop
 | .map k _=>Xt h o kd K (B7 P k)
 | .bool| .str| .ptr _| .int _| .array _ _| .struct _| .slice _| .other=>False
def Qni(P:Program)(h:Nat->Option An)(K:Ai)(m k:AV)(ti:TI):Prop:=
 match m,k with
 | .mp o,.im z=>RN P h o z K ti.kind
 |_,_=>False
def exA(K:Ai):Option AV->Prop
 |some c=>K c {}
 |none=>False
def exD(K:Ai):Option D->Prop
 |some d=>K (.im d) {}
 |none=>False
def lA(i:Nat)(K:Ai):AV->Prop
 | .tup cs=>exA K cs[i]?
 | .im (.tup ds)=>exD K ds[i]?
 |_=>False
def lB(h:Nat->Option An)(K:Ai):AV->Prop
 | .im (.ref cs)=>K (.im (.ref cs)) {}
 | .im (.ifc t d)=>K (.im (.ifc t d)) {}
 | .ptr o p=>Rq o (.ptr o p) K (h o)
 | .eptr o i p=>Rq o (.eptr o i p) K (h o)
 |_=>False
abbrev CX:=FuncId->List AV->(Nat->Option An)->Nat->Ai->Prop
def Q9(V:CX)(args:List AV)(h:Nat->Option An)(nx:Nat)(K:Ai):AV->Prop
 | .im (.fn g first capt)=>V g ((first.map .im)++args++(capt.map .im)) h nx K
 | .clo g first capt=>V g (first++args++capt) h nx K
 |_=>False
def Qw:Option TI->Option TK
 |some ti=>some ti.kind
 |none=>none
def Qjk(nx e:Nat)(K:Ai)(z:TI):Prop:=K (.own nx) {new:=[(nx,(true,.arr e z.size []))],cnt:=1}
def Qg6(P:Program)(nx:Nat)(K:Ai):Option TK->Prop
 |some (.slice e)=>Bf (Qjk nx e K) (tI P e)
 |_=>False
def QN:Value->Bool
 | .slice none 0 0=>true
 |_=>false
def W7:Operand->Bool
 | .const v=>QN v
 | .tmp _| .global _| .func _=>false
def zC(P:Program)(nx:Nat)(T:TypeId)(v:AV)(K:Ai):Bool->Prop
 |true=>Qg6 P nx K (Qw (tI P T))
 |false=>K v {}
def zT(P:Program)(tm:List (Nat×AV))(nx:Nat)(T:TypeId)(K:Ai)(x:Operand):Prop:=zC P nx T (Aq tm x) K (W7 x && !(T==240))
def M4(c:Bool)(K:Ai)(a b:AV):Prop:=(c=true->K a {})/\(c=false->K b {})
def Qzp(a b:AV)(K:Ai):AV->Prop
 | .im (.bool c)=>M4 c K a b
 |_=>False
def Qsv(nx T:Nat)(K:Ai)(ti:TI):Prop:=ti.zero.length=ti.size/\ti.size≠0/\K (.ptr nx 0) {new:=[(nx,(true,.cells T (ti.zero.map .im)))],cnt:=1}
def UM(nx T:Nat)(K:Ai)(cs:List AV):Prop:=cs≠[]/\K (.ptr nx 0) {new:=[(nx,(true,.cells T cs))],cnt:=1}
def FG:Value->Nat
 | .slice none 0 0=>1
 | .pointer none=>2
 | .map none=>3
 | .nilIface=>4
 |_=>0
def Fv:Operand->Nat
 | .const v=>FG v
 | .tmp _| .global _| .func _=>0
def lW(h:Nat->Option An)(op:BinOp)(x:AV)(K:Ai)(n:Nat)(ti:TI):Prop:=
 match op with
 | .eql=>WH h false K x n ti.kind
 | .neq=>WH h true K x n ti.kind
 |_=>False
def SF(P:Program)(T:TypeId):Bool:=match P.underlying T with
 |some (.interface _)=>true
 |_=>false
def aL(P:Program)(T:TypeId):Bool:=match P.underlying T with
 |some (.interface _)=>false
 |some _=>true
 |none=>false
def aV(P:Program)(t:TypeId)(name:String):Option FuncId:=
 match P.info? t with
 |some i=>match i.methods.find? (·.name==name) with
  |some m=>bif m.path.isEmpty then (match m.func with
   |some (f,false)=>some f
   |_=>none) else none
  |none=>none
 |none=>none
def Wb(P:Program)(t:TypeId)(name:String):Option FuncId:=
 match P.underlying t with
 |some (.pointer _)=>none
 |some _=>aV P t name
 |none=>none
def QE(neg:Bool)(K:Ai):AV->Prop
 | .im .nili=>aG neg K true
 | .im (.ifc _ _)=>aG neg K false
 |_=>False
def Wj(P:Program)(T:TypeId)(op:BinOp)(x:AV)(K:Ai):Prop:=
 SF P T=true/\match op with
 | .eql=>QE false K x
 | .neq=>QE true K x
 |_=>False
def UN(P:Program)(T:TypeId)(K:Ai):AV->Prop
 | .im d=>aL P T=true/\K (.im (.ifc T d)) {}
 |_=>False
def Wi(V:CX)(args:List AV)(h:Nat->Option An)(nx:Nat)(K:Ai)(d:D):Option FuncId->Prop
 |some f=>V f (.im d::args) h nx K
 |none=>False
def Na(P:Program)(V:CX)(args:List AV)(h:Nat->Option An)(nx:Nat)(K:Ai)(m:String):AV->Prop
 | .im (.ifc t d)=>Wi V args h nx K d (Wb P t m)
 |_=>False
def ZK(P:Program)(T:TypeId)(h:Nat->Option An)(op:BinOp)(x y:AV)(K:Ai):Nat->Prop
 |0=>fH P T op K x y
 |1=>Bf (lW h op x K 0) (tI P T)
 |2=>Bf (lW h op x K 1) (tI P T)
 |3=>Bf (lW h op x K 2) (tI P T)
 |_+4=>Wj P T op x K
def KY:Option TK->Ai->AV->Prop
 |some (.int k),K,.im (.int _ n)=>K (.im (.int k (k.wrap n))) {}
 |_,_,_=>False
def tM(t:Option TK)(x:AV)(K:Ai):Option TI->Prop
 |some _=>KY t K x
 |none=>False
def Hw:List (List D)->Option (List Int)
 |[]=>some []
 |[.int .u8 n]::r=>(Hw r).map (n:: ·)
 |_=>none
def Hg(z:List Int):ByteArray:=⟨(z.map λn=>UInt8.ofNat n.toNat).toArray⟩
def L6(u:List Nat)(K:Ai):Option (List Int)->Prop
 |some z=>K (.im (.str (Hg z))) {use:=u}
 |none=>False
def R4(o:Nat)(K:Ai):Option An->Prop
 |some (_,.arr _ k rows)=>k=1/\L6 [o] K (Hw rows)
 |_=>False
def gQ(h:Nat->Option An)(K:Ai):AV->Prop
 | .own o=>R4 o K (h o)
 |_=>False
def gR(h:Nat->Option An)(K:Ai)(x:AV):Option TK->Prop
 |some (.int .u8)=>gQ h K x
 |_=>False
def gS(P:Program)(h:Nat->Option An)(K:Ai)(x:AV):TK->Prop
 | .slice e=>gR h K x (Qw (tI P e))
 |_=>False
def IN(P:Program)(h:Nat->Option An)(K:Ai)(x:AV):Option TI->Prop
 |some z=>gS P h K x z.kind
 |none=>False
def TK.isStr:TK->Bool
 | .str=>true
 | .bool| .ptr _| .int _| .array _ _| .struct _| .map _ _| .slice _| .other=>false
def isStr:Option TK->Bool
 |some t=>t.isStr
 |none=>false
def VS(P:Program)(h:Nat->Option An)(t:Option TK)(x:AV)(K:Ai)(s:Option TI):Prop:=if isStr t=true then IN P h K x s else tM t x K s
def Nb(K:Ai):AV->AV->Prop
 | .im (.int k a),.im (.int k' b)=>k=k'/\K (.im (.int k (max a b))) {}
 |_,_=>False
def TK.isSl:TK->Bool
 | .slice _=>true
 | .bool| .str| .ptr _| .int _| .array _ _| .struct _| .map _ _| .other=>false
def zM(P:Program)(h:Nat->Option An)(nx:Nat)(s x:AV)(T:TypeId)(K:Ai)(z:TI):Prop:=z.kind.isSl=true/\Bf (Qsl P h nx s x K) (tI P T)
def DE(tm:List (Nat×AV)):Option Operand->Option AV
 |none=>none
 |some x=>some (Aq tm x)
def GY(z:Nat):Option AV->Option Int
 |none=>some z
 |some (.im (.int _ n))=>some n
 |some _=>none
def U7(k:Nat)(rows:List (List D))(K:Ai):Option Int->Option Int->Prop
 |some l,some m=>0<=l/\l<=m/\m<=(rows.length:Int)/\K (.im (.sl false k ((rows.drop l.toNat).take (m - l).toNat))) {}
 |some _,none=>False
 |none,_=>False
def Jo(s:ByteArray)(K:Ai):Option Int->Option Int->Prop
 |some l,some m=>0<=l/\l<=m/\m<=(s.size:Int)/\K (.im (.str (s.extract l.toNat m.toNat))) {}
 |some _,none=>False
 |none,_=>False
def uO(o nx:Nat)(z:Bool)(T k:Nat)(rows:List (List D))(a n:Nat)(K:Ai):Bool->Prop
 |false=>K (.osl o a n) {use:=[o]}
 |true=>z=true/\K (.own nx) {use:=[o],kill:=[o],new:=[(nx,(true,.arr T k ((rows.drop a).take n)))],cnt:=1}
def Jp(o nx:Nat)(z:Bool)(T k:Nat)(rows:List (List D))(K:Ai):Option Int->Option Int->Prop
 |some l,some m=>0<=l/\l<=m/\m<=(rows.length:Int)/\ ∃O,uO o nx z T k rows l.toNat (m - l).toNat K O
 |some _,none=>False
 |none,_=>False
def U8(o nx:Nat)(Q:TI)(lo z:Option AV)(K:Ai):Option An->Prop
 |some (O,.arr T k rows)=>k=Q.size/\Jp o nx O T k rows K (GY 0 lo) (GY rows.length z)
 |_=>False
def xS(h:Nat->Option An)(nx:Nat)(lo z:Option AV)(K:Ai)(x:AV)(O:TI):Prop:=
 match x with
 | .im (.sl _ k rows)=>(k=O.size\/rows=[])/\U7 k rows K (GY 0 lo) (GY rows.length z)
 | .own o=>U8 o nx O lo z K (h o)
 |_=>False
def jU(x:AV)(lo z:Option AV)(K:Ai):Prop:=
 match x with
 | .im (.str s)=>Jo s K (GY 0 lo) (GY s.size z)
 |_=>False
def Qu(P:Program)(h:Nat->Option An)(nx:Nat)(x:AV)(lo z:Option AV)(K:Ai):TK->Prop
 | .slice e=>Bf (xS h nx lo z K x) (tI P e)
 | .str=>jU x lo z K
 | .bool| .ptr _| .int _| .array _ _| .struct _| .map _ _| .other=>False
def Qsm(P:Program)(h:Nat->Option An)(nx:Nat)(x:AV)(lo z:Option AV)(K:Ai)(ti:TI):Prop:=Qu P h nx x lo z K ti.kind
def gW(o:Nat):Option An->Option (List Nat×Nat×List (List D))
 |some (_,.arr _ k rows)=>some ([o],k,rows)
 |_=>none
def gX(o a n:Nat):Option An->Option (List Nat×Nat×List (List D))
 |some (_,.arr _ k rows)=>some ([o],k,(rows.drop a).take n)
 |_=>none
def fK(h:Nat->Option An):AV->Option (List Nat×Nat×List (List D))
 | .im (.sl _ k rows)=>some ([],k,rows)
 | .own o=>gW o (h o)
 | .osl o a n=>gX o a n (h o)
 |_=>none
def RH(o:Nat):Option An->Option (Nat×Nat×Nat×TypeId×Nat×List (List D))
 |some (true,.arr T k rows)=>some (o,0,rows.length,T,k,rows)
 |_=>none
def RI(o a n:Nat):Option An->Option (Nat×Nat×Nat×TypeId×Nat×List (List D))
 |some (true,.arr T k rows)=>some (o,a,n,T,k,rows)
 |_=>none
def V2(h:Nat->Option An):AV->Option (Nat×Nat×Nat×TypeId×Nat×List (List D))
 | .own o=>RH o (h o)
 | .osl o a n=>RI o a n (h o)
 |_=>none
def fB(rows:List (List D))(a m:Nat)(src:List (List D)):List (List D):=rows.take a++src.take m++rows.drop (a+m)
def RJ(O:TI)(K:Ai):Option (List Nat×Nat×List (List D))->Option (Nat×Nat×Nat×TypeId×Nat×List (List D))->Prop
 |some (u,ks,z),some (o,a,n,T,k,rows)=>k=O.size/\(ks=O.size\/z=[])/\O.size≠0/\BY BK z/\
  K (.im (.int .i64 (min z.length n:Nat))) {use:=o::u,kill:=[o],new:=[(o,(true,.arr T k (fB rows a (min z.length n) z)))]}
 |some _,none=>False
 |none,_=>False
def RL(P:Program)(h:Nat->Option An)(d s:AV)(K:Ai):TK->Prop
 | .slice e=>Bf (λz=>RJ z K (fK h s) (V2 h d)) (tI P e)
 | .bool| .str| .ptr _| .int _| .array _ _| .struct _| .map _ _| .other=>False
def Qzd(P:Program)(h:Nat->Option An)(d s:AV)(K:Ai)(ti:TI):Prop:=RL P h d s K ti.kind
def Xn(z:TI)(K:Ai):Option (Nat×Nat×Nat×TypeId×Nat×List (List D))->Prop
 |some (o,a,n,T,k,rows)=>k=z.size/\z.size≠0/\z.zero.length=z.size/\BK z.zero=true/\
  K .any {use:=[o],kill:=[o],new:=[(o,(true,.arr T k (fB rows a n (List.replicate n z.zero))))]}
 |none=>False
def R8(P:Program)(h:Nat->Option An)(d:AV)(K:Ai):TK->Prop
 | .slice e=>Bf (λz=>Xn z K (V2 h d)) (tI P e)
 | .bool| .str| .ptr _| .int _| .array _ _| .struct _| .map _ _| .other=>False
def Qrt(P:Program)(h:Nat->Option An)(d:AV)(K:Ai)(ti:TI):Prop:=R8 P h d K ti.kind
def Uj(nx o:Nat)(K:Ai):Option An->Prop
 |some (Q,.map O z)=>K (.it nx) {use:=[o],kill:=[o],new:=[(nx,(true,.iter none z)),(o,(false,.map O z))],cnt:=1}
 |_=>False
def rgD(nx:Nat)(K:Ai):D->Prop
 | .mp _ z=>K (.it nx) {new:=[(nx,(true,.iter none z))],cnt:=1}
 |_=>False
def rgM(h:Nat->Option An)(nx:Nat)(K:Ai):AV->Prop
 | .mp o=>Uj nx o K (h o)
 | .im d=>rgD nx K d
 |_=>False
def Ui(h:Nat->Option An)(nx:Nat)(x:AV)(K:Ai):TK->Prop
 | .map _ _=>rgM h nx K x
 | .bool| .str| .ptr _| .int _| .array _ _| .struct _| .slice _| .other=>False
def Qsh(h:Nat->Option An)(nx:Nat)(x:AV)(K:Ai)(ti:TI):Prop:=Ui h nx x K ti.kind
def xF(o:Nat)(left:List (D×D))(K:Ai)(i:Nat)(p:D×D):Prop:=
 K (.tup [.im (.bool true),.im p.1,.im p.2]) {use:=[o],kill:=[o],new:=[(o,(true,.iter (some p) (left.eraseIdx i)))]}
def T5(o:Nat)(K:Ai):Option An->Prop
 |some (true,.iter _ left)=>(left=[]->K (.tup [.im (.bool false)]) {use:=[o]})/\ ∀i p,left[i]? =some p->xF o left K i p
 |_=>False
def VJ(h:Nat->Option An)(K:Ai):AV->Prop
 | .it o=>T5 o K (h o)
 |_=>False
def jA(h:Nat->Option An)(x:AV)(K:Ai):Bool->Prop
 |true=>VJ h K x
 |false=>False
def RZ(o:Nat)(K:Ai):Option An->Prop
 |some (true,.iter (some p) _)=>K (.im (.tup [p.1,p.2])) {use:=[o]}
 |_=>False
def Qsz(h:Nat->Option An)(K:Ai):AV->Prop
 | .it o=>RZ o K (h o)
 |_=>False
def V1(P:Program)(t:TypeId):Option TypeId:=match P.underlying t with
 |some (.chan _ e)=>some e
 |_=>none
def mcE(nx:Nat)(n:Int)(K:Ai)(z:TI):Prop:=0<=n/\n<=1073741824/\z.bytes<=65536/\K (.ch nx) {new:=[(nx,(true,.chan [] n.toNat))],cnt:=1}
def mcV(P:Program)(nx:Nat)(K:Ai)(e:TypeId):AV->Prop
 | .im (.int .i64 n)=>Bf (mcE nx n K) (tI P e)
 |_=>False
def mcK(P:Program)(nx:Nat)(x:AV)(K:Ai):Option TypeId->Prop
 |some e=>mcV P nx K e x
 |none=>False
def yR(P:Program)(nx:Nat)(x:AV)(K:Ai)(T:TypeId):Prop:=mcK P nx x K (V1 P T)
def aT(o:Nat)(K:Ai):Option An->Prop
 |some (_,.chan q _)=>FF K {use:=[o]} q.length
 |_=>False
def SY(o:Nat)(h:Nat->Option An)(K:Ai):Option TypeId->Prop
 |some _=>aT o K (h o)
 |none=>False
def jP(o:Nat)(d:D)(K:Ai):Option An->Prop
 |some (true,.chan q cap)=>q.length<cap/\K .any {use:=[o],kill:=[o],new:=[(o,(true,.chan (q++[d]) cap))]}
 |_=>False
def La(h:Nat->Option An)(c x:AV)(K:Ai):Prop:=
 match c,x with
 | .ch o,.im d=>jP o d K (h o)
 |_,_=>False
def jM(o:Nat)(K:Ai):Option An->Prop
 |some (true,.chan q cap)=>q≠[]/\ ∀d r,q=d::r->K (.im d) {use:=[o],kill:=[o],new:=[(o,(true,.chan r cap))]}
 |_=>False
def rvC(h:Nat->Option An)(K:Ai):AV->Prop
 | .ch o=>jM o K (h o)
 |_=>False
def rvE(h:Nat->Option An)(c:AV)(K:Ai)(z:TI):Prop:=z.zero.length=z.size/\z.size≠0/\rvC h K c
def rvK(P:Program)(h:Nat->Option An)(c:AV)(K:Ai):Option TypeId->Prop
 |some e=>Bf (rvE h c K) (tI P e)
 |none=>False
def KZ(P:Program)(h:Nat->Option An)(T:TypeId)(c:AV)(K:Ai):Prop:=rvK P h c K (V1 P T)
def Sc(neg:Bool)(K:Ai)(E:Bo){α:Type}(rows:List α):Prop:= ∀b:Bool,(b=true->rows=[])->K (.im (.bool (neg !=b))) E
def Sd(o:Nat)(neg:Bool)(K:Ai):Option An->Prop
 |some (_,.arr _ _ rows)=>Sc neg K {use:=[o]} rows
 |some (_,.arrA _ _ rows)=>Sc neg K {use:=[o]} rows
 |_=>False
def N3(h:Nat->Option An)(neg:Bool)(K:Ai):AV->Prop
 | .im (.sl _ _ rows)=>Sc neg K {} rows
 | .own o=>Sd o neg K (h o)
 |_=>False
def Ia:D->Bool
 | .sl z _ _=>z
 | .int _ _| .bool _| .str _| .nilp| .nilf| .nili| .nilc| .nilm| .agg _| .tup _| .ref _| .mp _ _| .fn _ _ _| .ifc _ _| .gp _| .tok _=>true
def Ft:AV->Bool
 | .im d=>Ia d
 | .own _=>false
 | .any| .agg _| .tup _| .ptr _ _| .eptr _ _ _| .mp _| .ch _| .it _| .osl _ _ _| .clo _ _ _=>true
def unS(z:Bool)(x:AV)(n:Nat):Bool:=z && (n==1 && !Ft x)
def QU(P:Program)(h:Nat->Option An)(T:TypeId)(op:BinOp)(x:AV)(K:Ai):TK->Prop
 | .slice _=>(match op with
   | .eql=>N3 h false K x
   | .neq=>N3 h true K x
   |_=>False)
 | .bool| .str| .ptr _| .int _| .array _ _| .struct _| .map _ _| .other=>False
def Qst(P:Program)(h:Nat->Option An)(T:TypeId)(op:BinOp)(x:AV)(K:Ai)(ti:TI):Prop:=QU P h T op x K ti.kind
def KX(P:Program)(z:Bool)(T:TypeId)(h:Nat->Option An)(op:BinOp)(x y:AV)(K:Ai)(n:Nat):Prop:=
 if unS z x n=true then Bf (Qst P h T op x K) (tI P T) else ZK P T h op x y K n
def Lo(P:Program)(z:Bool)(h:Nat->Option An)(T:TypeId)(K:Ai):AV->Prop
 | .ch o=>SY o h K (V1 P T)
 | .im d=>Bf (fL z h (.im d) K) (tI P T)
 | .own o=>Bf (fL z h (.own o) K) (tI P T)
 | .osl o a n=>Bf (fL z h (.osl o a n) K) (tI P T)
 | .mp o=>Bf (fL z h (.mp o) K) (tI P T)
 | .any| .agg _| .tup _| .ptr _ _| .eptr _ _ _| .it _| .clo _ _ _=>False
def Zl(P:Program)(z:Bool)(h:Nat->Option An)(nx:Nat)(K:Ai):Builtin->List AV->List TypeId->Prop
 | .len,[x],[T]=>Lo P z h T K x
 | .append,[s,x],[T,U]=>Bf (zM P h nx s x T K) (tI P U)
 | .delete,[m,k],T::_=>Bf (Qni P h K m k) (tI P T)
 | .copy,[d,s],[T,_]=>Bf (Qzd P h d s K) (tI P T)
 | .clear,[d],[T]=>Bf (Qrt P h d K) (tI P T)
 | .max,[x,y],_=>Nb K x y
 |_,_,_=>False
def tE(P:Program)(V:CX)(z:Bool)(tm:List (Nat×AV))(h:Nat->Option An)(nx:Nat)(args:List AV)(O:List TypeId)(K:Ai):Callee->Prop
 | .value f=>Q9 V args h nx K (Aq tm f)
 | .builtin b=>Zl P z h nx K b args O
 | .invoke r m=>Na P V args h nx K m (Aq tm r)
def Ya(nx:Nat)(K:Ai):Option KT->Prop
 |some z=>K (.mp nx) {new:=[(nx,(true,.map z []))],cnt:=1}
 |none=>False
def Tm(P:Program)(nx:Nat)(K:Ai):TK->Prop
 | .map k _=>Ya nx K (B7 P k)
 | .bool| .str| .ptr _| .int _| .array _ _| .struct _| .slice _| .other=>False
def zI(P:Program)(nx:Nat)(K:Ai)(ti:TI):Prop:=Tm P nx K ti.kind
def DC(tm:List (Nat×AV)):List Operand->List AV
 |[]=>[]
 |x::r=>Aq tm x::DC tm r
def JA(tm:List (Nat×AV)):List (Nat×Operand)->List (Nat×AV)
 |[]=>[]
 |(i,x)::r=>(i,Aq tm x)::JA tm r
def Qrk(h:Nat->Option An)(x:AV)(K:Ai)(ti:TI):Prop:=WL h ti K x
def yH(P:Program)(h:Nat->Option An)(x i:AV)(K:Ai)(ti:TI):Prop:=Qjp P h x ti K i
def Qno(P:Program)(x i:AV)(K:Ai)(ti:TI):Prop:=Qxc P x ti K i
def RE(o:Nat)(T:TypeId)(cs:List AV):Option (List D)->Option (D×Ao)
 |some ds=>some (.ref ds,[(o,(false,.cells T cs))])
 |none=>none
def RD(o:Nat):Option An->Option (D×Ao)
 |some (_,.cells T cs)=>RE o T cs (DQ cs)
 |some (_,.arr _ _ _)=>none
 |some (_,.arrA _ _ _)=>none
 |some (_,.map _ _)=>none
 |some (_,.chan _ _)=>none
 |some (_,.iter _ _)=>none
 |some (_,.view _)=>none
 |none=>none
def HC(h:Nat->Option An):AV->Option (D×Ao)
 | .im d=>some (d,[])
 | .ptr o 0=>RD o (h o)
 | .ptr _ (_+1)=>none
 | .any=>none
 | .agg _=>none
 | .tup _=>none
 | .eptr _ _ _=>none
 | .own _=>none
 | .mp _=>none
 | .ch _=>none
 | .it _=>none
 | .osl _ _ _=>none
 | .clo _ _ _=>none
def RC:Option (D×Ao)->Option (List D×Ao)->Option (List D×Ao)
 |some (d,E),some (ds,F)=>some (d::ds,E++F)
 |some _,none=>none
 |none,_=>none
def O0(h:Nat->Option An):List AV->Option (List D×Ao)
 |[]=>some ([],[])
 |x::r=>RC (HC h x) (O0 h r)
def hnm:Ao->List Nat
 |[]=>[]
 |(n,_)::r=>n::hnm r
def Qz3(f:FuncId)(a b:List D)(first capt:List AV)(K:Ai):Ao->Prop
 |[]=>K (.im (.fn f a b)) {}
 |e::r=>K (.im (.fn f a b)) {use:=hnm (e::r),kill:=hnm (e::r),new:=e::r}\/K (.clo f first capt) {}
def N9(f:FuncId)(first capt:List AV)(K:Ai):Option (List D×Ao)->Option (List D×Ao)->Prop
 |some (a,E),some (b,F)=>Qz3 f a b first capt K (E++F)
 |some _,none=>K (.clo f first capt) {}
 |none,_=>K (.clo f first capt) {}
def step(P:Program)(V:CX)(O:Bool)(tm:List (Nat×AV))(h:Nat->Option An)(nx:Nat)(T:TypeId)(K:Ai):Op->Prop
 | .move x=>K (Aq tm x) {}
 | .assign x=>zT P tm nx T K x
 | .pick c a b=>Qzp (Aq tm a) (Aq tm b) K (Aq tm c)
 | .alloc T=>Bf (Qsv nx T K) (tI P T)
 | .box T x=>UM nx T K (Aq tm x).cells
 | .build T z=>Bf (Qsy P (JA tm z.toList) K) (tI P T)
 | .buildSlice T n z=>Bf (yG P nx n (JA tm z.toList) K) (tI P T)
 | .load T x=>Bf (Qrk h (Aq tm x) K) (tI P T)
 | .store T x v=>Bf (Qri h (Aq tm x) (Aq tm v) K) (tI P T)
 | .nilCheck x=>lB h K (Aq tm x)
 | .binOp op T x y _=>KX P O T h op (Aq tm x) (Aq tm y) K (Fv y)
 | .unOp op _ x=>YK K op (Aq tm x)
 | .convert S T x=>VS P h (Qw (tI P T)) (Aq tm x) K (tI P S)
 | .makeFunc (.func f) first capt=>Nat.blt f 1000000000=true/\N9 f (DC tm first.toList) (DC tm capt.toList) K (O0 h (DC tm first.toList)) (O0 h (DC tm capt.toList))
 | .makeMap T none=>Bf (zI P nx K) (tI P T)
 | .makeSlice T l c=>Bf (yP P nx (Aq tm l) (Aq tm c) K) (tI P T)
 | .fieldAddr T x f=>Bf (yO h (Aq tm x) f K) (tI P T)
 | .indexAddr T x i=>Bf (yH P h (Aq tm x) (Aq tm i) K) (tI P T)
 | .index T x i=>Bf (Qno P (Aq tm x) (Aq tm i) K) (tI P T)
 | .lookup T m k ok=>Bf (Qnn P h (Aq tm m) (Aq tm k) ok K) (tI P T)
 | .mapUpdate T m k v=>Bf (rU P h K (Aq tm m) (Aq tm k) (Aq tm v)) (tI P T)
 | .extract x i=>lA i K (Aq tm x)
 | .call c=>tE P V O tm h nx (DC tm c.args.toList) c.argTypes.toList K c.callee
 | .slice T x lo Q none=>Bf (Qsm P h nx (Aq tm x) (DE tm lo) (DE tm Q) K) (tI P T)
 | .range T x=>Bf (Qsh h nx (Aq tm x) K) (tI P T)
 | .next x false=>jA h (Aq tm x) K O
 | .entry x=>Qsz h K (Aq tm x)
 | .makeChan T x=>yR P nx (Aq tm x) K T
 | .makeInterface T x=>UN P T K (Aq tm x)
 |_=>False
inductive Ex where
 |normal
 |exit (id:Nat)
 |ret
abbrev Cq:=Ex->Av->Prop
def W5(t:Option Nat)(z:Bool)(s:Av)(Kdo Kskip:Av->Prop):AV->Prop
 | .im (.bool b)=>(b=z->Kdo (s.put t (.im (.bool z))))/\(b= !z->Kskip (s.put t (.im (.bool (!z)))))
 | .im (.tup [])=>Kskip s
 |_=>False
def Au(n:Nat):Ao->Bool
 |[]=>true
 |(_,(_,.cells _ cs))::r=>AE n cs && Au n r
 |(_,(_,.arrA _ _ rows))::r=>rows.all (AE n) && Au n r
 |(_,(_,.arr _ _ _))::r=>Au n r
 |(_,(_,.map _ _))::r=>Au n r
 |(_,(_,.chan _ _))::r=>Au n r
 |(_,(_,.iter _ _))::r=>Au n r
 |(_,(_,.view _))::r=>Au n r
def JW(kill:List Nat)(nx cnt n:Nat):Bool:=(Nat.ble nx n && Nat.blt n (nx+cnt))||(kill.contains n && Nat.blt n nx)
def Hm(kill:List Nat)(nx cnt:Nat):Ao->Bool
 |[]=>true
 |(n,_)::r=>JW kill nx cnt n && Hm kill nx cnt r
def Bo.ok(E:Bo)(nx:Nat)(r:AV):Bool:=r.bel (nx+E.cnt) && (Au (nx+E.cnt) E.new && Hm E.kill nx E.cnt E.new)
def Av.app_nr(tm:List (Nat×AV))(h:Ao)(nx:Nat)(dst:Option Nat)(r:AV)(u k:List Nat)(nw:Ao)(c:Nat):Av.app ⟨tm,h,nx⟩ dst r ⟨u,k,nw,c⟩=(⟨tm,nw++Bi h k,nx+c⟩:Av).put dst r:=by
 cases dst<;>rfl
def Bo.ok_nr(u k:List Nat)(nw:Ao)(c nx:Nat)(r:AV):Bo.ok ⟨u,k,nw,c⟩ nx r=(r.bel (nx+c) && (Au (nx+c) nw && Hm k nx c nw)):=by
 cases c<;>rfl
structure SOp where
 dst:Option Nat
 op:Op
 type:TypeId
 gd:Option (Option Nat×Bool)
def WP(ops:Array Oper):Option (Nat×Bool)->Option (Option Nat×Bool)
 |none=>none
 |some (j,w)=>some ((ops[j]?).bind (·.dst),w)
def Ga(ops:Array Oper):List Oper->List SOp
 |[]=>[]
 |o::r=>⟨o.dst,o.op,o.type,WP ops o.guard⟩::Ga ops r
def DH(z:Av->Prop)(s:Av)(dst:Option Nat)(r:AV)(E:Bo):Prop:=E.ok s.nx r=true/\z (s.app dst r E)
def Ea(P:Program)(V:CX)(tm:List (Nat×AV))(h:Nat->Option An)(nx:Nat)(ty:TypeId)(K:Ai):Op->Prop
 | .send c x=>La h (Aq tm c) (Aq tm x) K
 | .recv T c false=>KZ P h T (Aq tm c) K
 |op=>step P V true tm h nx ty K op
def Jr(P:Program)(V:CX)(dst:Option Nat)(op:Op)(ty:TypeId)(z:Av->Prop)(s:Av):Prop:=
 Ea P V s.tm (hget s.h) s.nx ty (DH z s dst) op
def MX(dst:Option Nat)(z:Av->Prop)(s:Av):Prop:=z (s.put dst (.im (.tup [])))
def XK(P:Program)(V:CX)(dst:Option Nat)(op:Op)(ty:TypeId)(z:Bool)(O:Av->Prop)(s:Av):Option Nat->Prop
 |some t=>W5 (some t) z s (Jr P V dst op ty O) (MX dst O) (A8 s.tm t)
 |none=>False
def xI(P:Program)(V:CX)(dst:Option Nat)(op:Op)(ty:TypeId)(O:Av->Prop)(s:Av):Option (Option Nat×Bool)->Prop
 |none=>Jr P V dst op ty O s
 |some (t,z)=>XK P V dst op ty z O s t
def KV(P:Program)(V:CX):List SOp->(Av->Prop)->Av->Prop
 |[],K,s=>K s
 |⟨dst,op,ty,gd⟩::z,K,s=>xI P V dst op ty (KV P V z K) s gd
structure Fp where
 i:Nat
 use:List Nat
 touch:List Nat
 nx:Nat
 cnt:Nat
def Ll:Ao->List Nat
 |[]=>[]
 |(n,_)::r=>n::Ll r
def Je:Ao->List Nat
 |[]=>[]
 |(_,(_,e))::r=>e.nms++Je r
def J5:List Nat->List Nat->Bool
 |[],_=>true
 |x::r,l=> !l.contains x && J5 r l
def Gs(nx cnt:Nat):List Nat->Bool
 |[]=>true
 |x::r=>(Nat.blt x nx||Nat.ble (nx+cnt) x) && Gs nx cnt r
def Ih:Ground->Bool
 | .data=>true
 | .chain=>true
 | .guard=>true
 | .phase=>true
 | .textOnly _=>false
 | .gcOnly _=>false
def DK:List (List Nat)->Nat->List Nat
 |[],_=>[]
 |x::_,0=>x
 |_::r,n+1=>DK r n
def ins(x:Nat)(l:List Nat):List Nat:=bif l.contains x then l else x::l
def SC:List Nat->List Nat->List Nat
 |[],l=>l
 |x::r,l=>ins x (SC r l)
def Ha(acc:List (List Nat)):List Edge->List Nat
 |[]=>[]
 |e::r=>bif Ih e.ground then SC (e.on::DK acc e.on) (Ha acc r) else Ha acc r
def EN:List Oper->List (List Nat)->List (List Nat)
 |[],acc=>acc
 |o::r,acc=>EN r (acc++[Ha acc o.after.toList])
def ED(cl:List (List Nat))(i j:Nat):Bool:=(DK cl j).contains i
def mZ(cl:List (List Nat))(j:Nat)(use touch z:List Nat)(f:Fp):Bool:=
 bif J5 (use++touch) f.touch && (J5 touch f.use && Gs f.nx f.cnt z) then true else ED cl f.i j
def Ir(cl:List (List Nat))(j:Nat)(use touch z:List Nat):List Fp->Bool
 |[]=>true
 |f::r=>mZ cl j use touch z f && Ir cl j use touch z r
def Bo.touch(E:Bo):List Nat:=E.kill++Ll E.new
abbrev Vn:=List Fp->Av->Prop
def NL(cl:List (List Nat))(i:Nat)(acc:List Fp)(z:Vn)(s:Av)(dst:Option Nat)(r:AV)(E:Bo):Prop:=
 E.ok s.nx r=true/\Ir cl i (E.use++E.kill) E.touch (E.touch++(r.nms++Je E.new)) acc=true/\z (⟨i,E.use++E.kill,E.touch,s.nx,E.cnt⟩::acc) (s.app dst r E)
def Nc(P:Program)(V:CX)(cl:List (List Nat))(i:Nat)(acc:List Fp)(dst:Option Nat)(op:Op)(ty:TypeId)(z:Vn)(s:Av):Prop:=
 step P V false s.tm (hget s.h) s.nx ty (NL cl i acc z s dst) op
def MW(dst:Option Nat)(acc:List Fp)(z:Vn)(s:Av):Prop:=z acc (s.put dst (.im (.tup [])))
def XJ(P:Program)(V:CX)(cl:List (List Nat))(i:Nat)(acc:List Fp)(dst:Option Nat)(op:Op)(ty:TypeId)(z:Bool)(O:Vn)(s:Av):Option Nat->Prop
 |some t=>W5 (some t) z s (Nc P V cl i acc dst op ty O) (MW dst acc O) (A8 s.tm t)
 |none=>False
def xH(P:Program)(V:CX)(cl:List (List Nat))(i:Nat)(acc:List Fp)(dst:Option Nat)(op:Op)(ty:TypeId)(O:Vn)(s:Av):Option (Option Nat×Bool)->Prop
 |none=>Nc P V cl i acc dst op ty O s
 |some (t,z)=>XJ P V cl i acc dst op ty z O s t
def VC(P:Program)(V:CX)(cl:List (List Nat)):List SOp->Nat->(Av->Prop)->Vn
 |[],_,K,_,s=>K s
 |⟨dst,op,ty,gd⟩::z,i,K,acc,s=>xH P V cl i acc dst op ty (VC P V cl z (i+1) K) s gd
def Nk(K:Av->Prop)(Q:Cq):Cq
 | .normal,s=>K s
 | .exit i,s=>Q (.exit i) s
 | .ret,s=>Q .ret s
def IT(i:Nat)(Q:Cq)(s:Av):Bool->Prop
 |true=>Q .normal s
 |false=>Q (.exit i) s
def mD(id:Nat)(Q:Cq):Cq
 | .normal,s=>Q .normal s
 | .exit i,s=>IT i Q s (i==id)
 | .ret,s=>Q .ret s
def uP(A B:Cq->Av->Prop)(Q:Cq)(s:Av):AV->Prop
 | .im (.bool b)=>(b=true->A Q s)/\(b=false->B Q s)
 |_=>False
def Gx(s:Av):List (Nat×AV)->Prop
 |[]=>True
 |(t,x)::r=>A8 s.tm t=x/\Gx s r
def Ci(s:Av):Ao->Prop
 |[]=>True
 |(o,e)::r=>hget s.h o=some e/\Ci s r
def sub(s s':Av):Prop:=Gx s s'.tm/\Ci s s'.h
def CH(n:Nat):List (Nat×AV)->Bool
 |[]=>true
 |(_,x)::r=>x.bel n && CH n r
def BB(n:Nat):Ao->Bool
 |[]=>true
 |(m,_)::r=>Nat.blt m n && BB n r
def Av.good(s:Av):Bool:=CH s.nx s.tm && (Au s.nx s.h && BB s.nx s.h)
def pm:List (Nat×Option Nat)->Nat->Option Nat
 |[],n=>some n
 |(a,b)::r,n=>if a=n then b else pm r n
def iQ:AV->Prop
 | .im (.sl true _ [])=>True
 |_=>False
def FK(x:AV):Option Nat->Prop
 |some m=>x= .own m
 |none=>iQ x
def GS(f:Nat->AV)(x:AV):Option Nat->Prop
 |some m=>x=f m
 |none=>False
mutual
def mt(π:List (Nat×Option Nat)):AV->AV->Prop
 | .any,_=>True
 | .im d,x=>x= .im d
 | .own n,x=>FK x (pm π n)
 | .ptr n p,x=>GS (λm=> .ptr m p) x (pm π n)
 | .eptr n i p,x=>GS (λm=> .eptr m i p) x (pm π n)
 | .mp n,x=>GS .mp x (pm π n)
 | .ch n,x=>GS .ch x (pm π n)
 | .it n,x=>GS .it x (pm π n)
 | .osl n a k,x=>GS (λm=> .osl m a k) x (pm π n)
 | .agg cs,.agg ds=>DI π cs ds
 | .agg cs,.im (.agg ds)=>DI π cs (ds.map .im)
 | .agg _,_=>False
 | .tup _,_=>False
 | .clo _ _ _,_=>False
def DI(π:List (Nat×Option Nat)):List AV->List AV->Prop
 |[],[]=>True
 |x::r,y::s=>mt π x y/\DI π r s
 |[],_::_=>False
 |_::_,[]=>False
end
def GA(π:List (Nat×Option Nat)):List (List AV)->List (List AV)->Prop
 |[],[]=>True
 |x::r,y::s=>DI π x y/\GA π r s
 |[],_::_=>False
 |_::_,[]=>False
def EK(π:List (Nat×Option Nat)):Ac->Ac->Prop
 | .cells T cs,.cells U ds=>T=U/\DI π cs ds
 | .cells _ _,_=>False
 | .arr T k rows,e=>e= .arr T k rows
 | .arrA T k rows,.arrA U k' z=>T=U/\k=k'/\GA π rows z
 | .arrA T k rows,.arr U k' z=>T=U/\k=k'/\GA π rows (Bp z)
 | .arrA _ _ _,.cells _ _=>False
 | .arrA _ _ _,.map _ _=>False
 | .arrA _ _ _,.chan _ _=>False
 | .arrA _ _ _,.iter _ _=>False
 | .arrA _ _ _,.view _=>False
 | .map Q O,e=>e= .map Q O
 | .chan q c,e=>e= .chan q c
 | .iter a l,e=>e= .iter a l
 | .view cs,e=>e= .view cs
def K1(π:List (Nat×Option Nat))(O:Bool)(e':Ac):Option An->Prop
 |some (z,e)=>z=O/\EK π e' e
 |none=>False
def Tu:Bool->Ac->Prop
 |true,.arr _ _ []=>True
 |true,.arrA _ _ []=>True
 |_,_=>False
def Eu(s:Av)(π:List (Nat×Option Nat))(z:Bool)(e':Ac):Option Nat->Prop
 |some m=>K1 π z e' (hget s.h m)
 |none=>Tu z e'
def Qb(π:List (Nat×Option Nat))(s:Av):List (Nat×AV)->Prop
 |[]=>True
 |(t,x)::r=>mt π x (A8 s.tm t)/\Qb π s r
def GU(π:List (Nat×Option Nat))(s:Av):Ao->Prop
 |[]=>True
 |(n,(z,e))::r=>Eu s π z e (pm π n)/\GU π s r
def V9(lo:Nat):List (Nat×Option Nat)->Prop
 |[]=>True
 |(a,_)::r=>lo<=a/\V9 lo r
def OF(π:List (Nat×Option Nat)):Ao->List (Option Nat)
 |[]=>[]
 |(n,_)::r=>pm π n::OF π r
def EU:List (Option Nat)->Bool
 |[]=>true
 |none::r=>EU r
 |some m::r=> !r.contains (some m) && EU r
def Aw(lo:Nat)(π:List (Nat×Option Nat))(s s':Av):Prop:=V9 lo π/\EU (OF π s'.h)=true/\Qb π s s'.tm/\GU π s s'.h
def Ms{β:Type}(I:β->Av)(μ:β->Nat)(b:β)(Q:Cq):Cq
 | .normal,s=> ∃b',μ b'<μ b/\sub s (I b')
 | .exit i,s=>Q (.exit i) s
 | .ret,s=>Q .ret s
def Mr{β:Type}(lo:Nat)(I:β->Av)(μ:β->Nat)(b:β)(Q:Cq):Cq
 | .normal,s=> ∃b' π,μ b'<μ b/\Aw lo π s (I b')
 | .exit i,s=>Q (.exit i) s
 | .ret,s=>Q .ret s
def Z0(z:Cq->Av->Prop)(Q:Cq)(s:Av):Prop:=
 ∃(β:Type) (I:β->Av) (μ:β->Nat),(∀b,(I b).good=true/\s.nx<=(I b).nx)/\(∃b,sub s (I b))/\ ∀b,z (Ms I μ b Q) (I b)
def Qsi(z:Cq->Av->Prop)(Q:Cq)(s:Av):Prop:=
 ∃(β:Type) (I:β->Av) (μ:β->Nat),(∀b,(I b).good=true/\s.nx<=(I b).nx)/\(∃b π,Aw s.nx π s (I b))/\ ∀b,z (Mr s.nx I μ b Q) (I b)
def HF(F:List Nat):Ao->Ao
 |[]=>[]
 |(n,(z,e))::r=>(n,(z && !F.contains n,e))::HF F r
def Sm(F:List Nat)(s:Av):Av:=⟨s.tm,HF F s.h,s.nx⟩
def VG(z:Cq->Av->Prop)(Q:Cq)(s:Av):Prop:= ∃F:List Nat,Z0 z Q (Sm F s)
def He(n:Nat):Ac->AV
 | .arr _ w rows=> .im (.sl false w rows)
 | .cells _ _=> .own n
 | .arrA _ _ _=> .own n
 | .map _ _=> .own n
 | .chan _ _=> .own n
 | .iter _ _=> .own n
 | .view _=> .own n
def KN(n:Nat):Option An->AV
 |some e=>He n e.2
 |none=> .own n
mutual
def AV.fzA(F:List Nat)(H:Ao):AV->AV
 | .own n=>bif F.contains n then KN n (hget H n) else .own n
 | .agg cs=> .agg (DF F H cs)
 | .any=> .any
 | .im d=> .im d
 | .tup cs=> .tup cs
 | .ptr o p=> .ptr o p
 | .eptr o i p=> .eptr o i p
 | .mp o=> .mp o
 | .ch o=> .ch o
 | .it o=> .it o
 | .osl o a n=> .osl o a n
 | .clo f a c=> .clo f a c
def DF(F:List Nat)(H:Ao):List AV->List AV
 |[]=>[]
 |x::r=>x.fzA F H::DF F H r
end
def DG(F:List Nat)(H:Ao):List (List AV)->List (List AV)
 |[]=>[]
 |x::r=>DF F H x::DG F H r
def Ac.fzA(F:List Nat)(H:Ao):Ac->Ac
 | .cells T cs=> .cells T (DF F H cs)
 | .arrA T k rows=> .arrA T k (DG F H rows)
 | .arr T k rows=> .arr T k rows
 | .map O z=> .map O z
 | .chan q c=> .chan q c
 | .iter a l=> .iter a l
 | .view cs=> .view cs
def HI(F:List Nat)(H:Ao):List (Nat×AV)->List (Nat×AV)
 |[]=>[]
 |(t,x)::r=>(t,x.fzA F H)::HI F H r
def HG(F:List Nat)(H:Ao):Ao->Ao
 |[]=>[]
 |(n,(z,e))::r=>(n,(z && !F.contains n,e.fzA F H))::HG F H r
def Sq(F:List Nat)(s:Av):Av:=⟨HI F s.h s.tm,HG F s.h s.h,s.nx⟩
def Mq{β:Type}(lo:Nat)(I:β->Av)(μ:β->Nat)(b:β)(Q:Cq):Cq
 | .normal,s=> ∃b' F π,μ b'<μ b/\Aw lo π (Sq F s) (I b')
 | .exit i,s=>Q (.exit i) s
 | .ret,s=>Q .ret s
def Qsf(z:Cq->Av->Prop)(Q:Cq)(s:Av):Prop:=
 ∃(β:Type) (I:β->Av) (μ:β->Nat),(∀b,(I b).good=true/\s.nx<=(I b).nx)/\(∃b F π,Aw s.nx π (Sq F s) (I b))/\ ∀b,z (Mq s.nx I μ b Q) (I b)
def AU(z:Cq->Av->Prop)(Q:Cq)(s:Av):Prop:=Z0 z Q s\/Qsi z Q s\/VG z Q s\/Qsf z Q s
def AU.frr{z:Cq->Av->Prop}{Q:Cq}{s:Av}(h:Qsf z Q s):AU z Q s:=Or.inr (Or.inr (Or.inr h))
def AU.old{z:Cq->Av->Prop}{Q:Cq}{s:Av}(h:Z0 z Q s):AU z Q s:=Or.inl h
def AU.ren{z:Cq->Av->Prop}{Q:Cq}{s:Av}(h:Qsi z Q s):AU z Q s:=Or.inr (Or.inl h)
def AU.frz{z:Cq->Av->Prop}{Q:Cq}{s:Av}(F:List Nat)(h:Z0 z Q (Sm F s)):AU z Q s:=Or.inr (Or.inr (Or.inl ⟨F,h⟩))
def Da(P:Program)(V:CX):Code->Cq->Av->Prop
 | .skip,Q,s=>Q .normal s
 | .region _ ops false,Q,s=>KV P V (Ga ops ops.toList) (Q .normal) s
 | .region _ ops true,Q,s=>VC P V (EN ops.toList []) (Ga ops ops.toList) 0 (Q .normal) [] s
 | .seq a b,Q,s=>Da P V a (Nk (Da P V b Q) Q) s
 | .cond c a b,Q,s=>uP (Da P V a) (Da P V b) Q s (Aq s.tm c)
 | .block id c,Q,s=>Da P V c (mD id Q) s
 | .loop c,Q,s=>AU (Da P V c) Q s
 | .exit id,Q,s=>Q (.exit id) s
 | .ret,Q,s=>Q .ret s
 |_,_,_=>False
end Go.Ae
