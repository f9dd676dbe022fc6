/- Lemmas. Conditions: none. -/
import Derived.Orders
import Derived.Below
import Derived.Laws.Sem
set_option linter.all false
set_option maxHeartbeats 8000000
set_option maxRecDepth 100000
namespace Go
def Zaa:=@Option.some_beq_none
def Zab:=@Option.some_beq_some
def Zac:=@Option.some.inj
def Zad:=@List.getElem?_eq_getElem
def Zae:=@Option.some.injEq
def Zaf:=@List.mem_of_getElem?
def Zag:=@Option.getD_some
def Zah:=@Bool.and_eq_true
def Zai:=@List.getElem?_eq_some_iff
def Zaj:=@if_neg
def Zak:=@List.getD_cons_zero
def Zal:=@List.mem_singleton
def Zam:=@Int.toNat_natCast
def Zan:=@List.mem_append
def Zao:=@if_pos
def Zap:=@Nat.le_refl
def Zaq:=@List.map_cons
def Zar:=@decide_eq_true_eq
def Zas:=@List.mem_cons_of_mem
def Zat:=@List.mem_cons_self
def Zau:=@List.length_take
def Zav:=@List.getElem?_append_left
def Zaw:=@List.mem_cons
def Zax:=@List.drop_eq_nil_of_le
def Zay:=@Option.map_eq_some_iff
def Zaz:=@List.length_append
def ZaA:=@List.cons_append
def ZaB:=@Bool.false_eq_true
def ZaC:=@List.getElem?_append_right
def ZaD:=@List.getElem?_set_self
def ZaE:=@List.length_cons
def ZaF:=@List.getElem?_set_ne
def ZaG:=@List.map_nil
def ZaH:=@List.length_drop
def ZaI:=@List.mem_range
def ZaJ:=@List.mem_map
def ZaK:=@List.append_nil
def ZaL:=@List.take_of_length_le
def ZaM:=@Option.bind_eq_some_iff
def ZaN:=@List.getElem?_map
def ZaO:=@Option.map_some
def ZaP:=@List.mem_iff_getElem?
def ZaQ:=@if_true
def ZaR:=@Array.getD_eq_getD_getElem?
def ZaS:=@cond_false
def ZaT:=@List.map_append
def ZaU:=@Nat.zero_le
def ZaV:=@List.getElem?_cons_zero
def ZaW:=@Array.length_toList
def ZaX:=@Bool.and_true
def ZaY:=@List.getElem?_eq_none
def ZaZ:=@Bool.not_eq_false
def Zba:=@List.getElem?_cons_succ
def Zbb:=@decide_eq_false_iff_not
def Zbc:=@Classical.not_not
def Zbd:=@Nat.le_trans
def Zbe:=@Array.getElem?_toList
def Zbf:=@cond_true
def Zbg:=@Prod.mk.injEq
def Zbh:=@List.drop_drop
def Zbi:=@List.nil_append
def Zbj:=@Bool.true_and
def Zbk:=@List.take_zero
def Zbl:=@List.mem_append_left
def Zbm:=@Nat.mul_le_mul_right
def Zbn:=@Nat.lt_of_lt_of_le
def Zbo:=@List.nodup_iff_pairwise_ne
def Zbp:=@Nat.lt_or_ge
def Zbq:=@List.contains_iff_mem
def Zbr:=@List.length_map
def Zbs:=@beq_eq_false_iff_ne
def Zbt:=@Array.getElem?_eq_getElem
def Zbu:=@Bool.false_and
def Zbv:=@List.all_eq_true
def Zbw:=@List.eq_of_mem_replicate
def Zbx:=@List.getElem?_replicate
def Zby:=@if_false
def Zbz:=@List.getElem?_drop
def ZbA:=@List.append_assoc
def ZbB:=@List.length_nil
def ZbC:=@List.length_replicate
def ZbD:=@List.mem_append_right
def ZbE:=@List.getD_cons_succ
def ZbF:=@List.getElem?_range
def ZbG:=@List.length_set
def ZbH:=@List.pairwise_cons
def ZbI:=@List.take_succ_cons
def ZbJ:=@congrArg
def ZbK:=@Option.bind_some
def ZbL:=@Array.getElem?_eq_some_iff
def ZbM:=@List.ext_getElem?
def ZbN:=@List.flatMap_cons
def ZbO:=@List.take_add_one
def ZbP:=@List.take_length
def ZbQ:=@Nat.add_mul
def ZbR:=@Nat.zero_add
def ZbS:=@List.length_eq_zero_iff
def ZbT:=@List.length_singleton
def ZbU:=@List.mem_or_eq_of_mem_set
def ZbV:=@List.nodup_append
def ZbW:=@Nat.blt_eq
def ZbX:=@Bool.or_eq_true
def ZbY:=@List.all_append
def ZbZ:=@Bool.not_eq_true'
def Zca:=@List.not_mem_nil
def Zcb:=@List.drop_succ_cons
def Zcc:=@Array.getElem?_setIfInBounds
def Zcd:=@Array.getElem?_eq_none
def Zce:=@List.getElem?_mapIdx
def Zcf:=@List.getElem_mem
def Zcg:=@Bool.eq_false_iff
def Zch:=@Int.le_refl
def Zci:=@List.drop_zero
def Zcj:=@Nat.sub_self
def Zck:=@Int.tmod_eq_emod_of_nonneg
def Zcl:=@and_self
def Zcm:=@Array.getElem?_replicate
def Zcn:=@List.getElem?_take_of_lt
def Zco:=@List.foldl_cons
def Zcp:=@List.map_congr_left
def Zcq:=@List.nodup_cons
def Zcr:=@List.take_append_drop
def Zcs:=@List.length_range
def Zct:=@Nat.one_mul
def Zcu:=@List.zipWith_cons_cons
def Zcv:=@List.drop_eq_getElem_cons
def Zcw:=@Array.toList_map
def Zcx:=@List.drop_append
def Zcy:=@List.eq_nil_of_length_eq_zero
def Zcz:=@Ne.symm
def ZcA:=@List.all_cons
def ZcB:=@List.getElem?_take
def ZcC:=@Nat.add_assoc
def ZcD:=@List.mem_iff_getElem
def ZcE:=@Nat.min_le_right
def ZcF:=@Classical.epsilon_spec
def ZcG:=@List.contains_nil
def ZcH:=@List.length_pos_iff
def ZcI:=@List.size_toArray
def ZcJ:=@Bool.not_false
def ZcK:=@Bool.or_false
def ZcL:=@List.mem_of_find?_eq_some
def ZcM:=@List.pairwise_iff_getElem
def ZcN:=@Bool.eq_iff_iff
def ZcO:=@List.find?_some
def ZcP:=@Nat.le_of_ble_eq_true
def ZcQ:=@List.contains_cons
def ZcR:=@List.find?_eq_none
def ZcS:=@Nat.ble_eq
def ZcT:=@Option.isSome_none
def ZcU:=@Array.toList_inj
def ZcV:=@Bool.not_eq_true
def ZcW:=@List.filter_cons_of_neg
def ZcX:=@Nat.add_sub_cancel_left
def ZcY:=@List.map_set
def ZcZ:=@List.length_reverse
def Zda:=@List.takeWhile_cons
def Zdb:=@List.perm_ext_iff_of_nodup
def Zdc:=@Array.getElem?_append
def Zdd:=@List.set_cons_succ
def Zde:=@List.set_cons_zero
def Zdf:=@List.sum_cons
def Zdg:=@Nat.eq_zero_or_pos
def Zdh:=@List.mem_of_mem_take
def Zdi:=@true_and
def Zdj:=@List.cons.injEq
def Zdk:=@List.pairwise_map
def Zdl:=@forall_eq
def Zdm:=@List.eraseIdx_cons_succ
def Zdn:=@List.mem_map_of_mem
def Zdo:=@List.drop_append_of_le_length
def Zdp:=@List.getElem?_toArray
def Zdq:=@List.map_map
def Zdr:=@List.mem_filter
def Zds:=@Nat.add_zero
def Zdt:=@List.take_add
def Zdu:=@Nat.lt_trichotomy
def Zdv:=@beq_iff_eq
def Zdw:=@Array.getElem?_append_left
def Zdx:=@Array.toList_setIfInBounds
def Zdy:=@Int.tdiv_eq_ediv_of_nonneg
def Zdz:=@List.contains_eq_mem
def ZdA:=@Bool.and_false
def ZdB:=@Classical.byContradiction
def ZdC:=@List.Perm.refl
def ZdD:=@List.foldl_nil
def ZdE:=@List.flatMap_nil
def ZdF:=@List.filter_eq_self
def ZdG:=@List.flatMap_append
def ZdH:=@Array.size_setIfInBounds
def ZdI:=@List.Perm.eq_of_pairwise
def ZdJ:=@Nat.sub_zero
def ZdK:=@Nat.zero_mul
def ZdL:=@decide_false
def ZdM:=@Bool.not_true
def ZdN:=@List.range_zero
def ZdO:=@Nat.not_lt_zero
def ZdP:=@Option.toList_some
def ZdQ:=@or_false
def ZdR:=@List.length_eq_one_iff
def ZdS:=@List.zipWith_nil_right
def ZdT:=@Array.toList_push
def ZdU:=@List.foldl_append
def ZdV:=@eq_true
def ZdW:=@not_false_eq_true
def ZdX:=@Array.getElem?_modify
def ZdY:=@Bool.and_eq_false_iff
def ZdZ:=@Int.mul_le_mul_of_nonneg_right
def Zea:=@List.set_append_right
def Zeb:=@List.any_eq_true
def Zec:=@decide_eq_decide
def Zed:=@List.range_eq_range'
def Zee:=@Bool.and_self
def Zef:=@Bool.false_or
def Zeg:=@Nat.lt_irrefl
def Zeh:=@ite_self
def Zei:=@Array.ext'
def Zej:=@Array.getElem?_append_right
def Zek:=@Array.toList_append
def Zel:=@Array.toList_modify
def Zem:=@List.find?_cons
def Zen:=@List.range_succ
def Zeo:=@List.replicate_succ
def Zep:=@List.toList_toArray
def Zeq:=@Nat.min_eq_left
def Zer:=@decide_eq_false
def Zes:=@Int.fdiv_eq_ediv_of_nonneg
def Zet:=@List.exists_cons_of_ne_nil
def Zeu:=@List.perm_append_singleton
def Zev:=@Array.ext_getElem?
def Zew:=@Array.extract_size
def Zex:=@Array.toList_range
def Zey:=@Bool.true_or
def Zez:=@Int.tmod_lt_of_pos
def ZeA:=@List.getElem_range
def ZeB:=@Nat.add_comm
def ZeC:=@Array.mapM_eq_mapM_toList
def ZeD:=@Bool.and_assoc
def ZeE:=@List.getElem?_eq_none_iff
def ZeF:=@List.isEmpty_eq_false_iff
def ZeG:=@decide_eq_true
def ZeH:=@Option.isSome_iff_exists
def ZeI:=@and_assoc
def ZeJ:=@List.eraseIdx_cons_zero
def ZeK:=@List.filter_cons_of_pos
def ZeL:=@Bool.cond_eq_ite
def ZeM:=@List.filter_cons
def ZeN:=@List.mem_flatMap
def ZeO:=@beq_self_eq_true
def ZeP:=@forall_eq_or_imp
def ZeQ:=@List.append_eq_nil_iff
def ZeR:=@List.length_pos_of_mem
def ZeS:=@Array.getElem?_mapIdx
def ZeT:=@Bool.or_true
def ZeU:=@Int.tmod_nonneg
def ZeV:=@List.eraseIdx_sublist
def ZeW:=@List.getElem?_reverse
def ZeX:=@List.head?_cons
def ZeY:=@List.length_filter_le
def ZeZ:=@List.modify_succ_cons
def Zfa:=@List.sum_nil
def Zfb:=@Nat.succ_mul
def Zfc:=@Array.toList_extract
def Zfd:=@List.mem_of_mem_drop
def Zfe:=@List.pairwise_append
def Zff:=@List.replicate_succ'
def Zfg:=@Int.toNat_zero
def Zfh:=@List.drop_take
def Zfi:=@List.take_succ
def Zfj:=@List.cons.inj
def Zfk:=@List.drop_nil
def Zfl:=@List.take_nil
def Zfm:=@Nat.le_of_eq
end Go
namespace Go.Ae
def isG(_:Nat):Bool:=false
def GP(_:Nat->Prop)(_:Nat->Option Obj):Prop:=True
theorem GP.mono{ok ok':Nat->Prop}{hp hp':Nat->Option Obj}(_: ∀b o,ok b->hp b=some o->ok' b/\hp' b=some o)(_:GP ok hp):GP ok' hp':=trivial
theorem GP.at{ok:Nat->Prop}{hp:Nat->Option Obj}(_:GP ok hp){g:Nat}(hg:isG g=true):ok g/\ ∃t x T fr,hp g=some (.cells #[.iface t x] T fr):=by cases hg
end Go.Ae
namespace Go.Ae
inductive KK where
 |int (k:IntKind)
 |str
 |bool
 deriving DecidableEq
structure KT where
 agg:Bool
 ks:List KK
 deriving DecidableEq
inductive D where
 |int (k:IntKind) (n:Int)
 |bool (b:Bool)
 |str (s:ByteArray)
 |nilp|nilf|nili|nilc|nilm
 |agg (cs:List D)
 |tup (cs:List D)
 |sl (nz:Bool) (k:Nat) (rows:List (List D))
 |ref (cs:List D)
 |mp (kt:KT) (es:List (D×D))
 |fn (f:FuncId) (first capt:List D)
 |ifc (t:TypeId) (d:D)
 |gp (g:Nat)
 |tok (g:Nat)
def KK.fit:KK->D->Bool
 | .int k,.int k' _=>k==k'
 | .str,.str _=>true
 | .bool,.bool _=>true
 |_,_=>false
def fitL:List KK->List D->Bool
 |[],[]=>true
 |k::ks,d::ds=>k.fit d && fitL ks ds
 |_,_=>false
def KT.fit(kt:KT)(d:D):Bool:=
 match kt.agg,d with
 |true,.agg ds=>fitL kt.ks ds
 |false,d=>fitL kt.ks [d]
 |_,_=>false
def LIM:Nat:=140737488355328
def fnV(f:Nat):Fn:=if f<1000000000 then .func f else .yield (f - 1000000000)
theorem Qoi{f:Nat}(h:f<1000000000):fnV f= .func f:=Zao h
def slM(nz:Bool)(v:Value):Prop:=v= .slice none 0 0\/(nz=false/\ ∃a,v= .slice (some a) 0 0)
theorem Qoc{nz:Bool}{v:Value}(h:slM nz v): ∃ao,v= .slice ao 0 0:=by
 rcases h with rfl|⟨_,a,rfl⟩<;>exact⟨_,rfl⟩
theorem Qr7{v:Value}(h:slM true v):v= .slice none 0 0:=by
 rcases h with rfl|⟨h,_⟩
 .rfl
 .cases h
theorem slM_false{nz:Bool}{v:Value}(h:slM nz v):slM false v:=by
 rcases h with rfl|⟨_,a,rfl⟩
 .exact .inl rfl
 .exact .inr ⟨rfl,a,rfl⟩
mutual
def rd(ok:Nat->Prop)(hp:Nat->Option Obj):D->Value->Prop
 | .int k n,v=>v= .int k n
 | .bool b,v=>v= .bool b
 | .str s,v=>v= .string s
 | .nilp,v=>v= .pointer none
 | .nilf,v=>v= .nilFunc
 | .nili,v=>v= .nilIface
 | .nilc,v=>v= .chan none
 | .nilm,v=>v= .map none
 | .agg cs,v=> ∃vs:Array Value,v= .agg vs/\rdl ok hp cs vs.toList
 | .tup cs,v=> ∃vs:Array Value,v= .tuple vs/\rdl ok hp cs vs.toList
 | .sl nz k rows,v=>(slM nz v/\rows=[])\/
  ∃b p cap vs T fr,v= .slice (some ⟨b,p,none⟩) rows.length cap/\(nz=true->rows≠[])/\rows.length<=cap/\rows.length<=LIM/\ok b/\
   hp b=some (.cells vs T fr)/\rdr ok hp k rows (vs.toList.drop p)
 | .ref cs,v=> ∃b p vs T fr,v= .pointer (some ⟨b,p,none⟩)/\ok b/\hp b=some (.cells vs T fr)/\rdp ok hp cs (vs.toList.drop p)
 | .mp kt es,v=> ∃b ents clock,v= .map (some b)/\(∀e∈es,kt.fit e.1=true)/\ok b/\hp b=some (.map ents clock)/\rde ok hp es ents.toList/\(ents.toList.map (·.born)).Nodup/\ ∀e∈ents.toList,e.born<clock
 | .fn f first capt,v=> ∃a c:Array Value,v= .func (fnV f) a c/\rdl ok hp first a.toList/\rdl ok hp capt c.toList
 | .ifc t d,v=> ∃x,v= .iface t x/\rd ok hp d x
 | .gp g,v=>v= .pointer (some ⟨g,0,none⟩)
 | .tok g,v=>ok g/\(∃t x,v= .iface t x)/\ ∃T fr,hp g=some (.cells #[v] T fr)
def rdl(ok:Nat->Prop)(hp:Nat->Option Obj):List D->List Value->Prop
 |[],vs=>vs=[]
 |d::ds,vs=> ∃v r,vs=v::r/\rd ok hp d v/\rdl ok hp ds r
def rdp(ok:Nat->Prop)(hp:Nat->Option Obj):List D->List Value->Prop
 |[],_=>True
 |d::ds,vs=> ∃v r,vs=v::r/\rd ok hp d v/\rdp ok hp ds r
def rdr(ok:Nat->Prop)(hp:Nat->Option Obj)(k:Nat):List (List D)->List Value->Prop
 |[],_=>True
 |r::rs,vs=>r.length=k/\rdp ok hp r vs/\rdr ok hp k rs (vs.drop k)
def rde(ok:Nat->Prop)(hp:Nat->Option Obj):List (D×D)->List MapEntry->Prop
 |[],es=>es=[]
 |(x,y)::ds,es=> ∃e r,es=e::r/\rd ok hp x e.key/\rd ok hp y e.val/\rde ok hp ds r
end
section mono
variable {ok ok':Nat->Prop}{hp hp':Nat->Option Obj}
mutual
theorem Qb8(h: ∀b,ok b->ok' b/\hp' b=hp b): ∀(d:D) (v:Value),rd ok hp d v->rd ok' hp' d v
 | .int _ _,_,hd=>by simpa only[rd] using hd
 | .bool _,_,hd=>by simpa only[rd] using hd
 | .str _,_,hd=>by simpa only[rd] using hd
 | .nilp,_,hd=>by simpa only[rd] using hd
 | .nilf,_,hd=>by simpa only[rd] using hd
 | .nili,_,hd=>by simpa only[rd] using hd
 | .nilc,_,hd=>by simpa only[rd] using hd
 | .nilm,_,hd=>by simpa only[rd] using hd
 | .gp _,_,hd=>by simpa only[rd] using hd
 | .tok g,v,hd=>by
   simp only[rd] at hd⊢;obtain⟨h1,h3,T,fr,h2⟩:=hd;exact⟨(h g h1).1,h3,T,fr,(h g h1).2.trans h2⟩
 | .agg cs,v,hd=>by
   simp only[rd] at hd⊢;obtain⟨vs,rfl,h1⟩:=hd;exact⟨vs,rfl,Qcu h cs _ h1⟩
 | .tup cs,v,hd=>by
   simp only[rd] at hd⊢;obtain⟨vs,rfl,h1⟩:=hd;exact⟨vs,rfl,Qcu h cs _ h1⟩
 | .sl nz k rows,v,hd=>by
   simp only[rd] at hd⊢;rcases hd with hd|⟨b,p,cap,vs,T,fr,rfl,h1,h2,h3,h4,h5,h6⟩
   .exact .inl hd
   .exact .inr ⟨b,p,cap,vs,T,fr,rfl,h1,h2,h3,(h b h4).1,(h b h4).2.trans h5,Qfu h k rows _ h6⟩
 | .ref cs,v,hd=>by
   simp only[rd] at hd⊢;obtain⟨b,p,vs,T,fr,rfl,h4,h5,h6⟩:=hd;exact⟨b,p,vs,T,fr,rfl,(h b h4).1,(h b h4).2.trans h5,Qfm h cs _ h6⟩
 | .mp kt es,v,hd=>by
   simp only[rd] at hd⊢;obtain⟨b,ents,clock,rfl,h3,h4,h5,h6,h7⟩:=hd;exact⟨b,ents,clock,rfl,h3,(h b h4).1,(h b h4).2.trans h5,Qc6 h es _ h6,h7⟩
 | .fn f first capt,v,hd=>by
   simp only[rd] at hd⊢;obtain⟨a,c,rfl,h1,h2⟩:=hd;exact⟨a,c,rfl,Qcu h first _ h1,Qcu h capt _ h2⟩
 | .ifc t d,v,hd=>by
   simp only[rd] at hd⊢;obtain⟨x,rfl,h1⟩:=hd;exact⟨x,rfl,Qb8 h d _ h1⟩
theorem Qcu(h: ∀b,ok b->ok' b/\hp' b=hp b): ∀(ds:List D) (vs:List Value),rdl ok hp ds vs->rdl ok' hp' ds vs
 |[],_,hd=>by simpa only[rdl] using hd
 |d::ds,vs,hd=>by
  simp only[rdl] at hd⊢;obtain⟨v,r,rfl,h1,h2⟩:=hd;exact⟨v,r,rfl,Qb8 h d v h1,Qcu h ds r h2⟩
theorem Qfm(h: ∀b,ok b->ok' b/\hp' b=hp b): ∀(ds:List D) (vs:List Value),rdp ok hp ds vs->rdp ok' hp' ds vs
 |[],_,_=>by simp only[rdp]
 |d::ds,vs,hd=>by
  simp only[rdp] at hd⊢;obtain⟨v,r,rfl,h1,h2⟩:=hd;exact⟨v,r,rfl,Qb8 h d v h1,Qfm h ds r h2⟩
theorem Qfu(h: ∀b,ok b->ok' b/\hp' b=hp b)(k:Nat): ∀(rs:List (List D)) (vs:List Value),rdr ok hp k rs vs->rdr ok' hp' k rs vs
 |[],_,_=>by simp only[rdr]
 |r::rs,vs,hd=>by
  simp only[rdr] at hd⊢;exact⟨hd.1,Qfm h r vs hd.2.1,Qfu h k rs _ hd.2.2⟩
theorem Qc6(h: ∀b,ok b->ok' b/\hp' b=hp b): ∀(ds:List (D×D)) (es:List MapEntry),rde ok hp ds es->rde ok' hp' ds es
 |[],_,hd=>by simpa only[rde] using hd
 |(x,y)::ds,es,hd=>by
  simp only[rde] at hd⊢;obtain⟨e,r,rfl,h1,h2,h3⟩:=hd;exact⟨e,r,rfl,Qb8 h x _ h1,Qb8 h y _ h2,Qc6 h ds r h3⟩
end
end mono
def D.sc:D->Bool
 | .int _ _| .bool _| .str _| .nilp| .nilf| .nili| .nilc| .nilm=>true
 | .sl true _ []=>true
 |_=>false
def D.scs:D->Bool
 | .agg cs| .tup cs=>cs.all D.sc
 |d=>d.sc
theorem rd_sc{ok ok':Nat->Prop}{hp hp':Nat->Option Obj}: ∀{d:D} {v:Value},d.sc=true->rd ok hp d v->rd ok' hp' d v:=by
 intro d v h hd;cases d
 case sl nz k rows=>
  cases nz<;>cases rows<;>simp only[D.sc,ZaB] at h;simp only[rd] at hd⊢;rcases hd with hd|⟨b,p,cap,vs,T,fr,_,h2,_⟩
  .exact .inl hd
  .exact absurd rfl (h2 trivial)
 all_goals simp_all [D.sc,rd]
theorem rdl_sc{ok ok':Nat->Prop}{hp hp':Nat->Option Obj}: ∀(ds:List D) (vs:List Value),ds.all D.sc=true->rdl ok hp ds vs->rdl ok' hp' ds vs
 |[],_,_,hd=>by simpa only[rdl] using hd
 |d::ds,vs,h,hd=>by
  simp only[rdl,ZcA,Zah] at hd h⊢;obtain⟨v,r,rfl,h1,h2⟩:=hd;exact⟨v,r,rfl,rd_sc h.1 h1,rdl_sc ds r h.2 h2⟩
theorem rd_scs{ok ok':Nat->Prop}{hp hp':Nat->Option Obj}: ∀{d:D} {v:Value},d.scs=true->rd ok hp d v->rd ok' hp' d v:=by
 intro d v h hd;cases d<;>simp only[D.scs] at h<;>try exact rd_sc h hd
 all_goals
  simp only[rd] at hd⊢;obtain⟨vs,rfl,h1⟩:=hd;exact⟨vs,rfl,rdl_sc _ _ h h1⟩
inductive AV where
 |any
 |im (d:D)
 |agg (cs:List AV)
 |tup (cs:List AV)
 |ptr (o off:Nat)
 |eptr (o i off:Nat)
 |own (o:Nat)
 |mp (o:Nat)
 |ch (o:Nat)
 |it (o:Nat)
 |osl (o a n:Nat)
 |clo (f:FuncId) (first capt:List AV)
 deriving Inhabited
inductive AObj where
 |cells (T:TypeId) (cs:List AV)
 |arr (T:TypeId) (k:Nat) (rows:List (List D))
 |arrA (T:TypeId) (k:Nat) (rows:List (List AV))
 |map (kt:KT) (es:List (D×D))
 |chan (q:List D) (cap:Nat)
 |iter (last:Option (D×D)) (left:List (D×D))
 |view (cs:List D)
def AObj.isView:AObj->Bool
 | .view _=>true
 | .cells _ _| .arr _ _ _| .arrA _ _ _| .map _ _| .chan _ _| .iter _ _=>false
abbrev Ent:=Bool×AObj
abbrev Qan:=List (Nat×Ent)
structure Loc where
 b:Nat
 p:Nat
 cap:Nat
structure Env where
 ρ:Nat->Option Loc
 ok:Nat->Prop
 h:Nat->Option Ent
 w:World
def Env.hp(S:Env):Nat->Option Obj:=fun b=>S.w.heap[b]?
def AObj.len:AObj->Nat
 | .arr _ _ rows=>rows.length
 | .arrA _ _ rows=>rows.length
 |_=>0
def AObj.esz:AObj->Nat
 | .arr _ k _=>k
 | .arrA _ k _=>k
 |_=>0
def winV(r:Option Loc)(z len a n:Nat)(v:Value):Prop:=match r with
 |none=>v= .slice none 0 0/\n=0
 |some l=> ∃p cp,v= .slice (some ⟨l.b,p,none⟩) n cp/\n<=cp/\(n≠0->p=l.p+a*z)/\a+n<=len
mutual
def conc(S:Env):AV->Value->Prop
 | .any,_=>True
 | .im d,v=>rd S.ok S.hp d v
 | .agg cs,v=> ∃vs:Array Value,v= .agg vs/\Qa0 S cs vs.toList
 | .tup cs,v=> ∃vs:Array Value,v= .tuple vs/\Qa0 S cs vs.toList
 | .ptr o off,v=>v.oneCell'=true/\ ∀e,S.h o=some e-> ∃l,S.ρ o=some l/\v= .pointer (some ⟨l.b,l.p+off,none⟩)
 | .eptr o i off,v=>v.oneCell'=true/\ ∀e,S.h o=some e-> ∃l,S.ρ o=some l/\v= .pointer (some ⟨l.b,l.p+i*e.2.esz+off,none⟩)
 | .own o,v=>v.oneCell'=true/\ ∀e,S.h o=some e->match S.ρ o with
  |none=>v= .slice none 0 0
  |some l=>v= .slice (some ⟨l.b,l.p,none⟩) e.2.len l.cap
 | .mp o,v=>v.oneCell'=true/\ ∀e,S.h o=some e-> ∃l,S.ρ o=some l/\v= .map (some l.b)
 | .ch o,v=>v.oneCell'=true/\ ∀e,S.h o=some e-> ∃l,S.ρ o=some l/\v= .chan (some l.b)
 | .it o,v=>v.oneCell'=true/\ ∀e,S.h o=some e-> ∃l,S.ρ o=some l/\v= .pointer (some ⟨l.b,0,none⟩)
 | .osl o a n,v=>v.oneCell'=true/\ ∀e,S.h o=some e->winV (S.ρ o) e.2.esz e.2.len a n v
 | .clo f first capt,v=> ∃a c:Array Value,v= .func (fnV f) a c/\Qa0 S first a.toList/\Qa0 S capt c.toList
def Qa0(S:Env):List AV->List Value->Prop
 |[],vs=>vs=[]
 |x::xs,vs=> ∃v r,vs=v::r/\conc S x v/\Qa0 S xs r
end
def Qbv(S:Env):List AV->List Value->Prop
 |[],_=>True
 |x::xs,vs=> ∃v r,vs=v::r/\conc S x v/\Qbv S xs r
def Qbb(S:Env)(k:Nat):List (List AV)->List Value->Prop
 |[],_=>True
 |r::rs,vs=>r.length=k/\Qbv S r vs/\Qbb S k rs (vs.drop k)
def lastR(ok:Nat->Prop)(hp:Nat->Option Obj)(ents:Array MapEntry)(seen:Array Nat):Option (D×D)->Prop
 |none=>True
 |some (x,y)=> ∃st e,seen.back? =some st/\ents.find? (·.born==st)=some e/\rd ok hp x e.key/\rd ok hp y e.val
def objc(S:Env)(l:Option Loc):AObj->Prop
 | .cells T cs=> ∃lc vs,l=some lc/\lc.p=0/\S.hp lc.b=some (.cells vs T (0,0))/\Qa0 S cs vs.toList
 | .arr T k rows=>rows.length<=LIM/\match l with
  |none=>rows=[]
  |some lc=>rows.length<=lc.cap/\ ∃vs,S.hp lc.b=some (.cells vs T (0,0))/\lc.p+lc.cap*k<=vs.size/\rdr S.ok S.hp k rows (vs.toList.drop lc.p)
 | .arrA T k rows=>rows.length<=LIM/\match l with
  |none=>rows=[]
  |some lc=>rows.length<=lc.cap/\ ∃vs,S.hp lc.b=some (.cells vs T (0,0))/\lc.p+lc.cap*k<=vs.size/\Qbb S k rows (vs.toList.drop lc.p)
 | .map kt es=> ∃lc ents clock,l=some lc/\(∀e∈es,kt.fit e.1=true)/\S.hp lc.b=some (.map ents clock)/\rde S.ok S.hp es ents.toList/\
  (ents.toList.map (·.born)).Nodup/\ ∀e∈ents.toList,e.born<clock
 | .chan q cap=> ∃lc buf sent rcvd,l=some lc/\S.hp lc.b=some (.chan cap buf false sent rcvd false)/\rdl S.ok S.hp q buf.toList
 | .iter last left=> ∃lc mb ents clock seen,l=some lc/\S.ok mb/\lastR S.ok S.hp ents seen last/\S.hp mb=some (.map ents clock)/\
  S.hp lc.b=some (.mapIter (some mb) clock seen clock)/\(ents.toList.map (·.born)).Nodup/\(∀e∈ents.toList,e.born<clock)/\
  rde S.ok S.hp left (ents.toList.filter fun e=> !seen.contains e.born)
 | .view cs=> ∃lc vs T fr,l=some lc/\S.hp lc.b=some (.cells vs T fr)/\rdp S.ok S.hp cs (vs.toList.drop lc.p)
structure Ctx where
 w:World
 M:Nat->Prop
 ok:Nat->Prop
 n0:Nat
 h0:Nat->Option Ent
 ρ0:Nat->Option Loc
 ds:List Deferred
def Ctx.mk0(w:World)(M ok:Nat->Prop):Ctx:=⟨w,M,ok,0,fun _=>none,fun _=>none,[]⟩
def Ctx.Pre(C:Ctx)(S:Env):Prop:= ∀o,o<C.n0-> ∀e',S.h o=some e'-> ∃e,C.h0 o=some e/\S.ρ o=C.ρ0 o/\e'.2.esz=e.2.esz/\e'.2.len=e.2.len
structure Wf(C:Ctx)(S:Env):Prop where
 os:S.w.os=C.w.os
 tape:S.w.tape=C.w.tape
 output:S.w.output=C.w.output
 size:C.w.heap.size<=S.w.heap.size
 keep: ∀b,b<C.w.heap.size-> ¬C.M b->S.w.heap[b]? =C.w.heap[b]?
 ok0: ∀b,C.ok b->S.ok b
 ok1: ∀b,S.ok b->C.ok b\/C.w.heap.size<=b\/C.M b
 oks: ∀b,S.ok b->b<S.w.heap.size
 obj: ∀o e,S.h o=some e->objc S (S.ρ o) e.2
 loc: ∀o e l,S.h o=some e->S.ρ o=some l->l.b<S.w.heap.size/\if e.1 then ¬S.ok l.b/\(C.w.heap.size<=l.b\/C.M l.b) else S.ok l.b\/e.2.isView=true
 inj: ∀o o' e e' l l',S.h o=some e->S.h o'=some e'->S.ρ o=some l->S.ρ o'=some l'->l.b=l'.b->(e.1||e'.1)=true->o=o'
 gl:GP (fun b=>C.ok b/\ ¬C.M b) (fun b=>C.w.heap[b]?)
theorem Wf.gp{C:Ctx}{S:Env}(h:Wf C S):GP S.ok S.hp:=by
 refine h.gl.mono fun b o hb ho=>⟨h.ok0 b hb.1,?_⟩
 have hs:b<C.w.heap.size:=by
  apply ZdB;intro hn
  have:C.w.heap[b]? =none:=Zcd (by omega)
  rw[this] at ho;cases ho
 exact (h.keep b hs hb.2).trans ho
theorem Wf.glN{C:Ctx}{S:Env}(h:Wf C S){M:Nat->Prop}(hM: ∀b,M b-> ¬S.ok b):GP (fun b=>S.ok b/\ ¬M b) (fun b=>S.w.heap[b]?):=
 h.gp.mono fun b _ hb ho=>⟨⟨hb,fun hm=>hM b hm hb⟩,ho⟩
mutual
def AV.bel(n:Nat):AV->Bool
 | .any=>true
 | .im _=>true
 | .agg cs=>belL n cs
 | .tup cs=>belL n cs
 | .ptr o _=>Nat.blt o n
 | .eptr o _ _=>Nat.blt o n
 | .own o=>Nat.blt o n
 | .mp o=>Nat.blt o n
 | .ch o=>Nat.blt o n
 | .it o=>Nat.blt o n
 | .osl o _ _=>Nat.blt o n
 | .clo _ a c=>belL n a && belL n c
def belL(n:Nat):List AV->Bool
 |[]=>true
 |x::r=>x.bel n && belL n r
end
mutual
def AV.nms:AV->List Nat
 | .any=>[]
 | .im _=>[]
 | .agg cs=>nmsL cs
 | .tup cs=>nmsL cs
 | .ptr o _=>[o]
 | .eptr o _ _=>[o]
 | .own o=>[o]
 | .mp o=>[o]
 | .ch o=>[o]
 | .it o=>[o]
 | .osl o _ _=>[o]
 | .clo _ a c=>nmsL a++nmsL c
def nmsL:List AV->List Nat
 |[]=>[]
 |x::r=>x.nms++nmsL r
end
def nmsR:List (List AV)->List Nat
 |[]=>[]
 |x::r=>nmsL x++nmsR r
def AObj.nms:AObj->List Nat
 | .cells _ cs=>nmsL cs
 | .arr _ _ _=>[]
 | .arrA _ _ rows=>nmsR rows
 | .map _ _=>[]
 | .chan _ _=>[]
 | .iter _ _=>[]
 | .view _=>[]
structure Pres(X:Nat->Prop)(S S':Env):Prop where
 ok: ∀b,S.ok b->S'.ok b/\S'.hp b=S.hp b
 nm: ∀o,X o-> ∀e',S'.h o=some e'-> ∃e,S.h o=some e/\S'.ρ o=S.ρ o/\e'.2.esz=e.2.esz/\e'.2.len=e.2.len
theorem Pres.refl(X:Nat->Prop)(S:Env):Pres X S S:=⟨fun _ h=>⟨h,rfl⟩,fun _ _ e' h=>⟨e',h,rfl,rfl,rfl⟩⟩
section
variable {X:Nat->Prop}{S S':Env}
mutual
theorem Qbt(hp:Pres X S S'): ∀(x:AV) (v:Value),(∀o∈x.nms,X o)->conc S x v->conc S' x v
 | .any,_,_,_=>by simp only[conc]
 | .im d,v,_,h=>by
   simp only[conc] at h⊢;exact Qb8 hp.ok d v h
 | .agg cs,v,hx,h=>by
   simp only[conc,AV.nms] at h hx⊢;obtain⟨vs,rfl,h1⟩:=h;exact⟨vs,rfl,Qcm hp cs _ hx h1⟩
 | .tup cs,v,hx,h=>by
   simp only[conc,AV.nms] at h hx⊢;obtain⟨vs,rfl,h1⟩:=h;exact⟨vs,rfl,Qcm hp cs _ hx h1⟩
 | .ptr o off,v,hx,h=>by
   simp only[conc,AV.nms,Zal,Zdl] at h hx⊢;obtain⟨hone,h⟩:=h;refine⟨hone,?_⟩;intro e' he';obtain⟨e,he,hr,_,_⟩:=hp.nm o hx e' he';rw[hr];exact h e he
 | .eptr o i off,v,hx,h=>by
   simp only[conc,AV.nms,Zal,Zdl] at h hx⊢;obtain⟨hone,h⟩:=h;refine⟨hone,?_⟩;intro e' he';obtain⟨e,he,hr,hz,_⟩:=hp.nm o hx e' he';rw[hr,hz];exact h e he
 | .own o,v,hx,h=>by
   simp only[conc,AV.nms,Zal,Zdl] at h hx⊢;obtain⟨hone,h⟩:=h;refine⟨hone,?_⟩;intro e' he';obtain⟨e,he,hr,_,hl⟩:=hp.nm o hx e' he';rw[hr,hl];exact h e he
 | .mp o,v,hx,h=>by
   simp only[conc,AV.nms,Zal,Zdl] at h hx⊢;obtain⟨hone,h⟩:=h;refine⟨hone,?_⟩;intro e' he';obtain⟨e,he,hr,_,_⟩:=hp.nm o hx e' he';rw[hr];exact h e he
 | .ch o,v,hx,h=>by
   simp only[conc,AV.nms,Zal,Zdl] at h hx⊢;obtain⟨hone,h⟩:=h;refine⟨hone,?_⟩;intro e' he';obtain⟨e,he,hr,_,_⟩:=hp.nm o hx e' he';rw[hr];exact h e he
 | .it o,v,hx,h=>by
   simp only[conc,AV.nms,Zal,Zdl] at h hx⊢;obtain⟨hone,h⟩:=h;refine⟨hone,?_⟩;intro e' he';obtain⟨e,he,hr,_,_⟩:=hp.nm o hx e' he';rw[hr];exact h e he
 | .osl o a n,v,hx,h=>by
   simp only[conc,AV.nms,Zal,Zdl] at h hx⊢;obtain⟨hone,h⟩:=h;refine⟨hone,?_⟩;intro e' he';obtain⟨e,he,hr,hz,hl⟩:=hp.nm o hx e' he';rw[hr,hz,hl];exact h e he
 | .clo f fi ca,v,hx,h=>by
   simp only[conc,AV.nms,Zan] at h hx⊢;obtain⟨a,c,rfl,h1,h2⟩:=h;exact⟨a,c,rfl,Qcm hp fi _ (fun o ho=>hx o (.inl ho)) h1,Qcm hp ca _ (fun o ho=>hx o (.inr ho)) h2⟩
theorem Qcm(hp:Pres X S S'): ∀(xs:List AV) (vs:List Value),(∀o∈nmsL xs,X o)->Qa0 S xs vs->Qa0 S' xs vs
 |[],_,_,h=>by simpa only[Qa0] using h
 |x::xs,vs,hx,h=>by
  simp only[Qa0,nmsL,Zan] at h hx⊢;obtain⟨v,r,rfl,h1,h2⟩:=h;exact⟨v,r,rfl,Qbt hp x v (fun o ho=>hx o (.inl ho)) h1,Qcm hp xs r (fun o ho=>hx o (.inr ho)) h2⟩
end
theorem Qq7(hp:Pres X S S'): ∀(xs:List AV) (vs:List Value),(∀o∈nmsL xs,X o)->Qbv S xs vs->Qbv S' xs vs
 |[],_,_,_=>by simp only[Qbv]
 |x::xs,vs,hx,h=>by
  simp only[Qbv,nmsL,Zan] at h hx⊢;obtain⟨v,r,rfl,h1,h2⟩:=h;exact⟨v,r,rfl,Qbt hp x v (fun o ho=>hx o (.inl ho)) h1,Qq7 hp xs r (fun o ho=>hx o (.inr ho)) h2⟩
theorem Qgx(hp:Pres X S S')(k:Nat): ∀(rs:List (List AV)) (vs:List Value),(∀o∈nmsR rs,X o)->Qbb S k rs vs->Qbb S' k rs vs
 |[],_,_,_=>by simp only[Qbb]
 |r::rs,vs,hx,h=>by
  simp only[Qbb,nmsR,Zan] at h hx⊢;exact⟨h.1,Qq7 hp r vs (fun o ho=>hx o (.inl ho)) h.2.1,Qgx hp k rs _ (fun o ho=>hx o (.inr ho)) h.2.2⟩
theorem Qly{ok ok':Nat->Prop}{hp hp':Nat->Option Obj}(h: ∀b,ok b->ok' b/\hp' b=hp b){ents:Array MapEntry}{seen:Array Nat}: ∀(l:Option (D×D)),lastR ok hp ents seen l->lastR ok' hp' ents seen l
 |none,_=>trivial
 |some (x,y),h1=>by
  obtain⟨st,e,a,b,c,d⟩:=h1;exact⟨st,e,a,b,Qb8 h x _ c,Qb8 h y _ d⟩
theorem Qbr(hp:Pres X S S'){l:Option Loc}(hl: ∀lc,l=some lc->S'.hp lc.b=S.hp lc.b): ∀(e:AObj),(∀o∈e.nms,X o)->objc S l e->objc S' l e
 | .cells T cs,hx,h=>by
   simp only[objc,AObj.nms] at h hx⊢;obtain⟨lc,vs,h1,h2,h3,h4⟩:=h;exact⟨lc,vs,h1,h2,(hl lc h1).trans h3,Qcm hp cs _ hx h4⟩
 | .arr T k rows,hx,h=>by
   simp only[objc] at h⊢;refine⟨h.1,?_⟩;cases l with
   |none=>exact h.2
   |some lc=>
    obtain⟨h0,h1,vs,h2,h3,h4⟩:=h;exact⟨h1,vs,(hl lc rfl).trans h2,h3,Qfu hp.ok k rows _ h4⟩
 | .arrA T k rows,hx,h=>by
   simp only[objc,AObj.nms] at h hx⊢;refine⟨h.1,?_⟩;cases l with
   |none=>exact h.2
   |some lc=>
    obtain⟨h0,h1,vs,h2,h3,h4⟩:=h;exact⟨h1,vs,(hl lc rfl).trans h2,h3,Qgx hp k rows _ hx h4⟩
 | .map kt es,_,h=>by
   simp only[objc] at h⊢;obtain⟨lc,ents,clock,h1,h0,h2,h3,h4⟩:=h;exact⟨lc,ents,clock,h1,h0,(hl lc h1).trans h2,Qc6 hp.ok es _ h3,h4⟩
 | .chan q cap,_,h=>by
   simp only[objc] at h⊢;obtain⟨lc,buf,sent,rcvd,h1,h2,h3⟩:=h;exact⟨lc,buf,sent,rcvd,h1,(hl lc h1).trans h2,Qcu hp.ok q _ h3⟩
 | .iter last left,_,h=>by
   simp only[objc] at h⊢;obtain⟨lc,mb,ents,clock,seen,h1,h2,h0,h3,h4,h5,h6,h7⟩:=h;exact⟨lc,mb,ents,clock,seen,h1,(hp.ok mb h2).1,Qly hp.ok last h0,(hp.ok mb h2).2.trans h3,(hl lc h1).trans h4,h5,h6,Qc6 hp.ok left _ h7⟩
 | .view cs,_,h=>by
   simp only[objc] at h⊢;obtain⟨lc,vs,T,fr,h1,h2,h3⟩:=h;exact⟨lc,vs,T,fr,h1,(hl lc h1).trans h2,Qfm hp.ok cs _ h3⟩
end
inductive TK where
 |bool
 |str
 |ptr (e:TypeId)
 |int (k:IntKind)
 |slice (e:TypeId)
 |array (n:Nat) (e:TypeId)
 |struct (fs:List (Nat×Nat))
 |map (k e:TypeId)
 |other
structure TI where
 size:Nat
 bytes:Nat
 agg:Bool
 kind:TK
 zero:List D
def zD:Value->D
 | .bool b=> .bool b
 | .int k n=> .int k n
 | .string s=> .str s
 | .pointer none=> .nilp
 | .slice none _ _=> .sl true 0 []
 | .map none=> .nilm
 | .chan none=> .nilc
 | .nilFunc=> .nilf
 |_=> .nili
def zOk:Value->Bool
 | .bool _| .int _ _| .string _| .pointer none| .slice none 0 0| .map none| .chan none| .nilFunc| .nilIface=>true
 |_=>false
def zOf:Bool->Option Value->List D
 |true,some (.agg vs)=>bif vs.toList.all zOk then vs.toList.map zD else []
 |false,some v=>bif zOk v then [zD v] else []
 |_,_=>[]
def aggU:TypeDesc->Bool
 | .struct _| .array _ _=>true
 |_=>false
def tkOf(P:Program):TypeDesc->TK
 | .int k=> .int k
 | .slice e=> .slice e
 | .array n e=> .array n e
 | .struct fs=>bif fs.toList.all (fun f=>(P.info? f.type).isSome) then .struct (fs.toList.map fun f=>(f.offset,((P.info? f.type).map (·.size)).getD 0)) else .other
 | .map k e=> .map k e
 | .bool=> .bool
 | .string=> .str
 | .pointer e=> .ptr e
 |_=> .other
def tI(P:Program)(t:TypeId):Option TI:=
 match P.info? t,P.underlying t with
 |some i,some u=>some {size:=i.size,bytes:=i.bytes,agg:=aggU u,kind:=tkOf P u,zero:=zOf (aggU u) i.zero}
 |_,_=>none
structure Eff where
 use:List Nat:=[]
 kill:List Nat:=[]
 new:Qan:=[]
 cnt:Nat:=0
structure Qad where
 tm:List (Nat×AV)
 h:Qan
 nx:Nat
def tget:List (Nat×AV)->Nat->AV
 |[],_=> .any
 |(m,x)::r,n=>bif m==n then x else tget r n
def hget:Qan->Nat->Option Ent
 |[],_=>none
 |(m,e)::r,n=>bif m==n then some e else hget r n
def hdel:Qan->List Nat->Qan
 |[],_=>[]
 |(m,e)::r,ks=>bif ks.contains m then hdel r ks else (m,e)::hdel r ks
def Qad.put(s:Qad)(dst:Option Nat)(x:AV):Qad:=
 match dst with
 |some d=>⟨(d,x)::s.tm,s.h,s.nx⟩
 |none=>s
def Qad.app(s:Qad)(dst:Option Nat)(r:AV)(E:Eff):Qad:=
 (⟨s.tm,E.new++hdel s.h E.kill,s.nx+E.cnt⟩:Qad).put dst r
def kD:Value->AV
 | .bool b=> .im (.bool b)
 | .int k n=> .im (.int k n)
 | .string s=> .im (.str s)
 | .pointer none=> .im .nilp
 | .slice none 0 0=> .im (.sl true 0 [])
 | .map none=> .im .nilm
 | .chan none=> .im .nilc
 | .nilFunc=> .im .nilf
 | .nilIface=> .im .nili
 |_=> .any
def evO(tm:List (Nat×AV)):Operand->AV
 | .tmp t=>tget tm t
 | .const v=>kD v
 | .global g=> .im (.gp g)
 | .func f=>bif Nat.blt f 1000000000 then .im (.fn f [] []) else .any
def D.cells:D->List D
 | .agg ds=>ds
 | .int k n=>[.int k n]
 | .bool b=>[.bool b]
 | .str s=>[.str s]
 | .nilp=>[.nilp]
 | .nilf=>[.nilf]
 | .nili=>[.nili]
 | .nilc=>[.nilc]
 | .nilm=>[.nilm]
 | .tup cs=>[.tup cs]
 | .sl nz k rows=>[.sl nz k rows]
 | .ref cs=>[.ref cs]
 | .mp kt es=>[.mp kt es]
 | .fn f a c=>[.fn f a c]
 | .ifc t d=>[.ifc t d]
 | .gp g=>[.gp g]
 | .tok g=>[.tok g]
def AV.cells:AV->List AV
 | .im d=>d.cells.map .im
 | .agg cs=>cs
 | .any=>[]
 | .tup cs=>[.tup cs]
 | .ptr o p=>[.ptr o p]
 | .eptr o i p=>[.eptr o i p]
 | .own o=>[.own o]
 | .mp o=>[.mp o]
 | .ch o=>[.ch o]
 | .it o=>[.it o]
 | .osl o a n=>[.osl o a n]
 | .clo f a c=>[.clo f a c]
def D.one:D->Bool
 | .agg _| .tup _=>false
 | .int _ _| .bool _| .str _| .nilp| .nilf| .nili| .nilc| .nilm| .sl _ _ _| .ref _| .mp _ _| .fn _ _ _| .ifc _ _| .gp _| .tok _=>true
def AV.one:AV->Bool
 | .im d=>d.one
 | .agg _| .any| .tup _=>false
 | .ptr _ _| .eptr _ _ _| .own _| .mp _| .ch _| .it _| .osl _ _ _| .clo _ _ _=>true
def Qhz:List AV->Bool
 |[]=>true
 |x::r=>x.one && Qhz r
def AV.asD:AV->Option D
 | .im d=>some d
 | .agg _| .any| .tup _| .ptr _ _| .eptr _ _ _| .own _| .mp _| .ch _| .it _| .osl _ _ _| .clo _ _ _=>none
def Qlx:Option D->Option (List D)->Option (List D)
 |some d,some ds=>some (d::ds)
 |some _,none=>none
 |none,_=>none
def Qcr:List AV->Option (List D)
 |[]=>some []
 |x::r=>Qlx x.asD (Qcr r)
def mkO(cs:List AV):Option (List D)->AV
 |some ds=> .im (.agg ds)
 |none=> .agg cs
def hdV:List AV->AV
 |[]=> .any
 |x::_=>x
def hdD:List D->D
 |[]=> .nilp
 |x::_=>x
def mkV(agg:Bool)(cs:List AV):AV:=
 bif agg then mkO cs (Qcr cs) else hdV cs
def mkD(agg:Bool)(ds:List D):D:=bif agg then .agg ds else hdD ds
def Qa5{α:Type}(l:List α)(off:Nat)(x:List α):List α:=l.take off++x++l.drop (off+x.length)
abbrev Kont:=AV->Eff->Prop
mutual
def D.beq:D->D->Bool
 | .int _ a,.int _ b=>a==b
 | .bool a,.bool b=>a==b
 | .str a,.str b=>a==b
 | .agg a,.agg b=>D.beql a b
 |_,_=>false
def D.beql:List D->List D->Bool
 |[],[]=>true
 |a::r,b::s=>D.beq a b && D.beql r s
 |_,_=>false
end
def lk:List (D×D)->D->Option D
 |[],_=>none
 |(k,v)::r,x=>bif D.beq x k then some v else lk r x
def upd:List (D×D)->D->D->List (D×D)
 |[],x,y=>[(x,y)]
 |(k,v)::r,x,y=>bif D.beq x k then (x,y)::r else (k,v)::upd r x y
def del:List (D×D)->D->List (D×D)
 |[],_=>[]
 |(k,v)::r,x=>bif D.beq x k then r else (k,v)::del r x
def Quj(P:Program)(go:TypeId->Option KT):List Field->Nat->Option (List KK)
 |[],_=>some []
 |f::fs,off=>
  match go f.type,P.info? f.type with
  |some kt,some i=>
   bif f.offset==off && (f.name != "_" && i.size==kt.ks.length) then (Quj P go fs (off+kt.ks.length)).map (kt.ks++ ·) else none
  |_,_=>none
def keyC(P:Program):Nat->TypeId->Option KT
 |0,_=>none
 |n+1,t=>
  match P.underlying t with
  |some (.int k)=>some ⟨false,[.int k]⟩
  |some .string=>some ⟨false,[.str]⟩
  |some .bool=>some ⟨false,[.bool]⟩
  |some (.struct fields)=>bif P.stoodInHeld t then none else (Quj P (keyC P n) fields.toList 0).map (⟨true,·⟩)
  |_=>none
def keyT(P:Program)(t:TypeId):Option KT:=keyC P 5 t
def Qi9{α:Type}(rows:List (List α))(i:Nat)(K:List α->Prop):Prop:= ∀row,rows[i]? =some row->K row
def LkVC(es:List (D×D))(kd:D)(Ks:D->Prop)(Kn:Prop):Prop:=(∀v,lk es kd=some v->Ks v)/\(lk es kd=none->Kn)
def Qnv(ti:TI)(off:Nat)(E:Eff)(K:Kont)(row:List D):Prop:=(ti.agg=true\/ti.size=1)/\off+ti.size<=row.length/\K (.im (mkD ti.agg ((row.drop off).take ti.size))) E
def Qwr(ti:TI)(off:Nat)(E:Eff)(K:Kont)(row:List AV):Prop:=(ti.agg=true\/ti.size=1)/\off+ti.size<=row.length/\K (mkV ti.agg ((row.drop off).take ti.size)) E
def ldPtr(ti:TI)(o off:Nat)(K:Kont):Option Ent->Prop
 |some (_,.cells _ cs)=>Qwr ti off {use:=[o]} K cs
 |some (_,.view cs)=>Qnv ti off {use:=[o]} K cs
 |_=>False
def ldElt(ti:TI)(o i off:Nat)(K:Kont):Option Ent->Prop
 |some (_,.arr _ _ rows)=>i<rows.length/\Qi9 rows i (Qnv ti off {use:=[o]} K)
 |some (_,.arrA _ _ rows)=>i<rows.length/\Qi9 rows i (Qwr ti off {use:=[o]} K)
 |_=>False
def Qou(h:Nat->Option Ent)(ti:TI)(K:Kont):AV->Prop
 | .im (.ref cs)=>Qnv ti 0 {} K cs
 | .im (.gp g)=>isG g=true/\ti.size=1/\ti.agg=false/\K (.im (.tok g)) {}
 | .ptr o off=>ldPtr ti o off K (h o)
 | .eptr o i off=>ldElt ti o i off K (h o)
 |_=>False
def kStD(o i off k sz:Nat)(T:TypeId)(rows:List (List D))(K:Kont)(row:List D):Option (List D)->Prop
 |some ds=>off+sz<=row.length/\K .any {use:=[o],kill:=[o],new:=[(o,(true,.arr T k (rows.set i (Qa5 row off ds))))]}
 |none=>False
def Qxz(o i off k sz:Nat)(T:TypeId)(rows:List (List D))(ds:Option (List D))(K:Kont)(row:List D):Prop:=kStD o i off k sz T rows K row ds
def Qyo(o i off k sz:Nat)(T:TypeId)(rows:List (List AV))(vs:List AV)(K:Kont)(row:List AV):Prop:=
 off+sz<=row.length/\K .any {use:=[o],kill:=[o],new:=[(o,(true,.arrA T k (rows.set i (Qa5 row off vs))))]}
def sdPtr(ti:TI)(o off:Nat)(vs:List AV)(K:Kont):Option Ent->Prop
 |some (true,.cells T cs)=>off+ti.size<=cs.length/\K .any {use:=[o],kill:=[o],new:=[(o,(true,.cells T (Qa5 cs off vs)))]}
 |_=>False
def sdElt(ti:TI)(o i off:Nat)(vs:List AV)(K:Kont):Option Ent->Prop
 |some (true,.arr T k rows)=>i<rows.length/\Qi9 rows i (Qxz o i off k ti.size T rows (Qcr vs) K)
 |some (true,.arrA T k rows)=>i<rows.length/\Qi9 rows i (Qyo o i off k ti.size T rows vs K)
 |_=>False
def Qh8(h:Nat->Option Ent)(ti:TI)(vs:List AV)(K:Kont):AV->Prop
 | .ptr o off=>sdPtr ti o off vs K (h o)
 | .eptr o i off=>sdElt ti o i off vs K (h o)
 |_=>False
def Qri(h:Nat->Option Ent)(x v:AV)(K:Kont)(ti:TI):Prop:=
 ti.size≠0/\v.cells.length=ti.size/\Qhz v.cells=true/\Qh8 h ti v.cells K x
def alv(o:Nat)(x:AV)(K:Kont):Option Ent->Prop
 |some _=>K x {use:=[o]}
 |none=>False
def faAt(h:Nat->Option Ent)(off:Nat)(K:Kont):AV->Prop
 | .im (.ref cs)=>off<=cs.length/\K (.im (.ref (cs.drop off))) {}
 | .ptr o p=>alv o (.ptr o (p+off)) K (h o)
 | .eptr o i p=>alv o (.eptr o i (p+off)) K (h o)
 |_=>False
def faOf(h:Nat->Option Ent)(x:AV)(K:Kont):Option (Nat×Nat)->Prop
 |some (off,sz)=>sz≠0/\faAt h off K x
 |none=>False
def faK(h:Nat->Option Ent)(x:AV)(f:Nat)(K:Kont):TK->Prop
 | .struct fs=>faOf h x K fs[f]?
 |_=>False
def Qhg(h:Nat->Option Ent)(x:AV)(f:Nat)(K:Kont)(ti:TI):Prop:=faK h x f K ti.kind
def kRef(K:Kont)(row:List D):Prop:=K (.im (.ref row)) {}
def iaObj(o:Nat)(n:Int)(K:Kont)(te:TI):Option Ent->Prop
 |some (_,.arr _ k rows)=>k=te.size/\0<=n/\n<(rows.length:Int)/\K (.eptr o n.toNat 0) {use:=[o]}
 |some (_,.arrA _ k rows)=>k=te.size/\0<=n/\n<(rows.length:Int)/\K (.eptr o n.toNat 0) {use:=[o]}
 |_=>False
def iaSl(h:Nat->Option Ent)(n:Int)(K:Kont)(x:AV)(te:TI):Prop:=
 match x with
 | .im (.sl _ k rows)=>k=te.size/\0<=n/\n<(rows.length:Int)/\Qi9 rows n.toNat (kRef K)
 | .own o=>iaObj o n K te (h o)
 |_=>False
def iaArr(h:Nat->Option Ent)(m:Nat)(n:Int)(K:Kont)(x:AV)(te:TI):Prop:=
 match x with
 | .ptr o p=>0<=n/\n<(m:Int)/\alv o (.ptr o (p+n.toNat*te.size)) K (h o)
 | .im (.ref cs)=>0<=n/\n<(m:Int)/\n.toNat*te.size<=cs.length/\K (.im (.ref (cs.drop (n.toNat*te.size)))) {}
 |_=>False
def Qax(f:TI->Prop):Option TI->Prop
 |some ti=>f ti
 |none=>False
def iaK(P:Program)(h:Nat->Option Ent)(x:AV)(n:Int)(K:Kont):TK->Prop
 | .slice e=>Qax (iaSl h n K x) (tI P e)
 | .array m e=>Qax (iaArr h m n K x) (tI P e)
 |_=>False
def Qjp(P:Program)(h:Nat->Option Ent)(x:AV)(ti:TI)(K:Kont):AV->Prop
 | .im (.int _ n)=>iaK P h x n K ti.kind
 |_=>False
def ixArr(m:Nat)(n:Int)(cs:List D)(K:Kont)(te:TI):Prop:=
 (te.agg=true\/te.size=1)/\0<=n/\n<(m:Int)/\n.toNat*te.size+te.size<=cs.length/\K (.im (mkD te.agg ((cs.drop (n.toNat*te.size)).take te.size))) {}
def ChVC(s:ByteArray)(i:Nat)(K:UInt8->Prop):Prop:= ∀c,s.data[i]? =some c->K c
def kCh(K:Kont)(c:UInt8):Prop:=K (.im (.int .u8 c.toNat)) {}
def ixK(P:Program)(n:Int)(K:Kont):TK->AV->Prop
 | .array m e,.im (.agg cs)=>Qax (ixArr m n cs K) (tI P e)
 | .str,.im (.str s)=>0<=n/\n<(s.size:Int)/\ChVC s n.toNat (kCh K)
 |_,_=>False
def Qxc(P:Program)(x:AV)(ti:TI)(K:Kont):AV->Prop
 | .im (.int _ n)=>ixK P n K ti.kind x
 |_=>False
def shK:BinOp->Nat
 | .shr=>1
 | .shl=>2
 | .add| .sub| .mul| .quo| .rem| .and| .or| .xor| .andNot| .eql| .neq| .lss| .leq| .gtr| .geq=>0
def andI(k:IntKind)(a b:Int):Int:=k.wrap ((BitVec.ofInt k.bits a &&& BitVec.ofInt k.bits b).toNat:Int)
def orI(k:IntKind)(a b:Int):Int:=k.wrap ((BitVec.ofInt k.bits a|||BitVec.ofInt k.bits b).toNat:Int)
def xorI(k:IntKind)(a b:Int):Int:=k.wrap ((BitVec.ofInt k.bits a^^^BitVec.ofInt k.bits b).toNat:Int)
def Qh2(op:BinOp)(k:IntKind)(a b:Int)(K:Kont):Prop:=
 match op with
 | .add=>K (.im (.int k (k.wrap (a+b)))) {}
 | .sub=>K (.im (.int k (k.wrap (a - b)))) {}
 | .mul=>K (.im (.int k (k.wrap (a*b)))) {}
 | .quo=>b≠0/\K (.im (.int k (k.wrap (a.tdiv b)))) {}
 | .rem=>b≠0/\K (.im (.int k (a.tmod b))) {}
 | .eql=>K (.im (.bool (decide (a=b)))) {}
 | .neq=>K (.im (.bool (!decide (a=b)))) {}
 | .lss=>K (.im (.bool (decide (a<b)))) {}
 | .leq=>K (.im (.bool (decide (a<=b)))) {}
 | .gtr=>K (.im (.bool (decide (b<a)))) {}
 | .geq=>K (.im (.bool (decide (b<=a)))) {}
 | .and=>K (.im (.int k (andI k a b))) {}
 | .or=>K (.im (.int k (orI k a b))) {}
 | .xor=>K (.im (.int k (xorI k a b))) {}
 |_=>False
def eqB(neg:Bool)(K:Kont)(b:Bool):Prop:=K (.im (.bool (neg !=b))) {}
def eqNilS(neg:Bool)(K:Kont):AV->Prop
 | .im (.sl true _ rows)=>eqB neg K rows.isEmpty
 |_=>False
def Qu7(h:Nat->Option Ent)(neg:Bool)(K:Kont):AV->Prop
 | .im .nilp=>eqB neg K true
 | .im (.ref _)=>eqB neg K false
 | .ptr o _=>alv o (.im (.bool neg)) K (h o)
 | .eptr o _ _=>alv o (.im (.bool neg)) K (h o)
 |_=>False
def Qaal(h:Nat->Option Ent)(neg:Bool)(K:Kont):AV->Prop
 | .im .nilm=>eqB neg K true
 | .im (.mp _ _)=>eqB neg K false
 | .mp o=>alv o (.im (.bool neg)) K (h o)
 |_=>False
def Qkv(h:Nat->Option Ent)(neg:Bool)(K:Kont)(x:AV):Nat->TK->Prop
 |0,.slice _=>eqNilS neg K x
 |1,.ptr _=>Qu7 h neg K x
 |2,.map _ _=>Qaal h neg K x
 |_,_=>False
def Qabv(op:BinOp)(a b:ByteArray)(K:Kont):Prop:=
 match op with
 | .eql=>K (.im (.bool (decide (a=b)))) {}
 | .neq=>K (.im (.bool (!decide (a=b)))) {}
 | .add=>a.size+b.size<=9223372036854775807/\K (.im (.str (a++b))) {}
 |_=>False
def stBoo(op:BinOp)(a b:Bool)(K:Kont):Prop:=
 match op with
 | .eql=>K (.im (.bool (a==b))) {}
 | .neq=>K (.im (.bool (a !=b))) {}
 |_=>False
def stBoK(op:BinOp)(a b:Bool)(K:Kont):Option TI->Prop
 |some ti=>ti.kind= .bool/\stBoo op a b K
 |none=>False
def Qok(op:BinOp)(a b:List D)(K:Kont):Prop:=
 match op with
 | .eql=>K (.im (.bool (D.beql a b))) {}
 | .neq=>K (.im (.bool (!D.beql a b))) {}
 |_=>False
def Qoa(P:Program)(T:TypeId)(op:BinOp)(a b:List D)(K:Kont):Option KT->Prop
 |some kt=>kt.fit (.agg a)=true/\kt.fit (.agg b)=true/\P.eqGuardType P.depth T=false/\Qok op a b K
 |none=>False
def Qmf(op:BinOp)(k:IntKind)(a:Int)(k':IntKind)(b:Int)(K:Kont):Nat->Prop
 |0=>k=k'/\Qh2 op k a b K
 |1=>0<=b/\K (.im (.int k (a.fdiv (2^min b.toNat k.bits)))) {}
 |_+2=>0<=b/\K (.im (.int k (k.wrap (a*2^min b.toNat k.bits)))) {}
def Qw4(P:Program)(T:TypeId)(op:BinOp)(K:Kont):AV->AV->Prop
 | .im (.int k a),.im (.int k' b)=>Qmf op k a k' b K (shK op)
 | .im (.str a),.im (.str b)=>Qabv op a b K
 | .im (.bool a),.im (.bool b)=>stBoK op a b K (tI P T)
 | .im (.agg a),.im (.agg b)=>Qoa P T op a b K (keyT P T)
 |_,_=>False
def stUn(K:Kont):UnOp->AV->Prop
 | .not,.im (.bool b)=>K (.im (.bool (!b))) {}
 | .neg,.im (.int k n)=>K (.im (.int k (k.wrap (-n)))) {}
 |_,_=>False
def Qt6(cells:List AV)(vs:List AV):Option (Nat×Nat)->Option (List AV)
 |none=>none
 |some (off,size)=>bif vs.length==size && (Nat.blt 0 size && Nat.ble (off+size) cells.length) then some (Qa5 cells off vs) else none
def Qdp(place:Nat->Option (Nat×Nat)):List (Nat×AV)->Option (List AV)->Option (List AV)
 |[],r=>r
 |_::_,none=>none
 |(i,v)::rest,some cells=>Qdp place rest (Qt6 cells v.cells (place i))
def plArr(k i:Nat):Option (Nat×Nat):=some (i*k,k)
def plStr(fs:List (Nat×Nat))(i:Nat):Option (Nat×Nat):=fs[i]?
def Qabi(K:Kont):Option (List AV)->Prop
 |some cs=>K (mkV true cs) {}
 |none=>False
def bdArr(zs:List AV)(parts:List (Nat×AV))(K:Kont)(te:TI):Prop:=Qabi K (Qdp (plArr te.size) parts (some zs))
def bdK(P:Program)(zs:List AV)(parts:List (Nat×AV))(K:Kont):TK->Prop
 | .struct fs=>Qabi K (Qdp (plStr fs) parts (some zs))
 | .array _ e=>Qax (bdArr zs parts K) (tI P e)
 |_=>False
def Qsy(P:Program)(parts:List (Nat×AV))(K:Kont)(ti:TI):Prop:=ti.zero.length=ti.size/\ti.size≠0/\bdK P (ti.zero.map .im) parts K ti.kind
def Qd0{α:Type}(k:Nat):Nat->List α->List (List α)
 |0,_=>[]
 |n+1,l=>l.take k::Qd0 k n (l.drop k)
def repZ{α:Type}:Nat->List α->List α
 |0,_=>[]
 |n+1,z=>z++repZ n z
def bsObj(nx len e k:Nat)(cs:List AV)(K:Kont):Option (List D)->Prop
 |some ds=>K (.own nx) {new:=[(nx,(true,.arr e k (Qd0 k len ds)))],cnt:=1}
 |none=>K (.own nx) {new:=[(nx,(true,.arrA e k (Qd0 k len cs)))],cnt:=1}
def bsEnd(nx len e k:Nat)(K:Kont):Option (List AV)->Prop
 |some cs=>bsObj nx len e k cs K (Qcr cs)
 |none=>False
def bsE(nx len e:Nat)(parts:List (Nat×AV))(K:Kont)(te:TI):Prop:=
 te.zero.length=te.size/\te.size≠0/\len*te.size<=16777216/\bsEnd nx len e te.size K (Qdp (plArr te.size) parts (some (repZ len (te.zero.map .im))))
def bsK(P:Program)(nx len:Nat)(parts:List (Nat×AV))(K:Kont):TK->Prop
 | .slice e=>Qax (bsE nx len e parts K) (tI P e)
 |_=>False
def Qfp(P:Program)(nx len:Nat)(parts:List (Nat×AV))(K:Kont)(ti:TI):Prop:=bsK P nx len parts K ti.kind
def msE(nx e:Nat)(n m:Int)(K:Kont)(te:TI):Prop:=
 te.size≠0/\0<=n/\n<=m/\m<=1073741824/\te.bytes<=65536/\te.zero.length=te.size/\
  K (.own nx) {new:=[(nx,(true,.arr e te.size (List.replicate n.toNat te.zero)))],cnt:=1}
def msK(P:Program)(nx:Nat)(K:Kont):TK->AV->AV->Prop
 | .slice e,.im (.int .i64 n),.im (.int .i64 m)=>Qax (msE nx e n m K) (tI P e)
 |_,_,_=>False
def Qhl(P:Program)(nx:Nat)(l c:AV)(K:Kont)(ti:TI):Prop:=msK P nx K ti.kind l c
inductive Src where
 |d (u:List Nat) (k:Nat) (rows:List (List D))
 |a (u:List Nat) (k:Nat) (rows:List (List AV))
 |no
def Qmn(o:Nat):Option Ent->Src
 |some (_,.arr _ k rows)=> .d [o] k rows
 |some (_,.arrA _ k rows)=> .a [o] k rows
 |_=> .no
def Qco(h:Nat->Option Ent):AV->Src
 | .im (.sl _ k rows)=> .d [] k rows
 | .own o=>Qmn o (h o)
 |_=> .no
def imR(rows:List (List D)):List (List AV):=rows.map fun r=>r.map .im
def allD:List D->Bool
 |[]=>true
 |x::r=>x.one && allD r
def OneR{α:Type}(f:List α->Bool)(rows:List (List α)):Prop:= ∀row∈rows,f row=true
def Src.okOne:Src->Prop
 | .d _ _ rows=>OneR allD rows
 | .a _ _ rows=>OneR Qhz rows
 | .no=>False
def Qaa6(nx e:Nat)(te:TI)(K:Kont):Src->Prop
 | .d u k rows=>(k=te.size\/rows=[])/\(rows.length+512)*te.bytes<=140737488355328/\K (.own nx) {use:=u,new:=[(nx,(true,.arr e te.size rows))],cnt:=1}
 | .a u k rows=>k=te.size/\(rows.length+512)*te.bytes<=140737488355328/\K (.own nx) {use:=u,kill:=u,new:=[(nx,(true,.arrA e te.size rows))],cnt:=1}
 | .no=>False
def apD(nx e o:Nat)(te:TI)(rows0:List (List D))(K:Kont):Src->Prop
 | .d u k rows=>(k=te.size\/rows=[])/\u≠[o]/\(rows0.length+rows.length+512)*te.bytes<=140737488355328/\
  K (.own nx) {use:=o::u,kill:=[o],new:=[(nx,(true,.arr e te.size (rows0++rows)))],cnt:=1}
 | .a u k rows=>k=te.size/\u≠[o]/\(rows0.length+rows.length+512)*te.bytes<=140737488355328/\
  K (.own nx) {use:=o::u,kill:=o::u,new:=[(nx,(true,.arrA e te.size (imR rows0++rows)))],cnt:=1}
 | .no=>False
def apA(nx e o:Nat)(te:TI)(rows0:List (List AV))(K:Kont):Src->Prop
 | .d u k rows=>(k=te.size\/rows=[])/\u≠[o]/\(rows0.length+rows.length+512)*te.bytes<=140737488355328/\
  K (.own nx) {use:=o::u,kill:=[o],new:=[(nx,(true,.arrA e te.size (rows0++imR rows)))],cnt:=1}
 | .a u k rows=>k=te.size/\u≠[o]/\(rows0.length+rows.length+512)*te.bytes<=140737488355328/\
  K (.own nx) {use:=o::u,kill:=o::u,new:=[(nx,(true,.arrA e te.size (rows0++rows)))],cnt:=1}
 | .no=>False
def apObj(nx e o:Nat)(te:TI)(src:Src)(K:Kont):Option Ent->Prop
 |some (true,.arr T k rows0)=>T=e/\k=te.size/\apD nx e o te rows0 K src
 |some (true,.arrA T k rows0)=>T=e/\k=te.size/\apA nx e o te rows0 K src
 |_=>False
def apTo(h:Nat->Option Ent)(nx e:Nat)(te:TI)(src:Src)(K:Kont):AV->Prop
 | .im (.sl true _ [])=>Qaa6 nx e te K src
 | .own o=>apObj nx e o te src K (h o)
 |_=>False
def apE(h:Nat->Option Ent)(nx e:Nat)(s:AV)(src:Src)(K:Kont)(te:TI):Prop:=
 te.size≠0/\te.zero.length=te.size/\te.bytes≠0/\src.okOne/\apTo h nx e te src K s
def apK(P:Program)(h:Nat->Option Ent)(nx:Nat)(s:AV)(src:Src)(K:Kont):TK->Prop
 | .slice e=>Qax (apE h nx e s src K) (tI P e)
 |_=>False
def Qsl(P:Program)(h:Nat->Option Ent)(nx:Nat)(s x:AV)(K:Kont)(ti:TI):Prop:=apK P h nx s (Qco h x) K ti.kind
def kInt(K:Kont)(E:Eff)(n:Nat):Prop:=K (.im (.int .i64 n)) E
def Qxr(sq:Bool)(o:Nat)(K:Kont):Option Ent->Prop
 |some (_,.arr _ _ rows)=>(sq=true->rows.length<=140737488355328)->kInt K {use:=[o]} rows.length
 |some (_,.arrA _ _ rows)=>(sq=true->rows.length<=140737488355328)->kInt K {use:=[o]} rows.length
 |_=>False
def lenObjM(o:Nat)(K:Kont):Option Ent->Prop
 |some (_,.map _ es)=>kInt K {use:=[o]} es.length
 |_=>False
def lenW(o n:Nat)(K:Kont):Option Ent->Prop
 |some _=>kInt K {use:=[o]} n
 |none=>False
def Qw2(sq:Bool)(h:Nat->Option Ent)(K:Kont):AV->Prop
 | .osl o _ n=>lenW o n K (h o)
 | .im (.sl _ _ rows)=>(sq=true->rows.length<=140737488355328)->kInt K {} rows.length
 | .own o=>Qxr sq o K (h o)
 |_=>False
def lenStr(K:Kont):AV->Prop
 | .im (.str s)=>kInt K {} s.size
 |_=>False
def Qvs(h:Nat->Option Ent)(K:Kont):AV->Prop
 | .im (.mp _ es)=>kInt K {} es.length
 | .im .nilm=>kInt K {} 0
 | .mp o=>lenObjM o K (h o)
 |_=>False
def lenK(sq:Bool)(h:Nat->Option Ent)(K:Kont)(x:AV):TK->Prop
 | .slice _=>Qw2 sq h K x
 | .str=>lenStr K x
 | .map _ _=>Qvs h K x
 | .bool| .ptr _| .int _| .array _ _| .struct _| .other=>False
def Qxt(sq:Bool)(h:Nat->Option Ent)(x:AV)(K:Kont)(ti:TI):Prop:=lenK sq h K x ti.kind
def Qy3(ok:Bool)(E:Eff)(K:Kont)(v:D):Prop:=K (bif ok then .tup [.im v,.im (.bool true)] else .im v) E
def kMiss(te:TI)(ok:Bool)(E:Eff)(K:Kont):Prop:=te.zero.length=te.size/\(te.agg=true\/te.size=1)/\te.size≠0/\K (bif ok then .tup [.im (mkD te.agg te.zero),.im (.bool false)] else .im (mkD te.agg te.zero)) E
def luObj(o:Nat)(kt:KT)(kd:D)(ok:Bool)(te:TI)(K:Kont):Option Ent->Prop
 |some (_,.map kt' es)=>kt'=kt/\LkVC es kd (Qy3 ok {use:=[o]} K) (kMiss te ok {use:=[o]} K)
 |_=>False
def Qyc(h:Nat->Option Ent)(kt:KT)(kd:D)(ok:Bool)(te:TI)(K:Kont):AV->Prop
 | .im (.mp kt' es)=>kt'=kt/\LkVC es kd (Qy3 ok {} K) (kMiss te ok {} K)
 | .im .nilm=>kMiss te ok {} K
 | .mp o=>luObj o kt kd ok te K (h o)
 |_=>False
def luKt(h:Nat->Option Ent)(m:AV)(kd:D)(ok:Bool)(K:Kont)(te:TI):Option KT->Prop
 |some kt=>kt.fit kd=true/\Qyc h kt kd ok te K m
 |none=>False
def luE(P:Program)(h:Nat->Option Ent)(m:AV)(kd:D)(ok:Bool)(K:Kont)(k:TypeId)(te:TI):Prop:=luKt h m kd ok K te (keyT P k)
def luK(P:Program)(h:Nat->Option Ent)(m:AV)(ok:Bool)(K:Kont):TK->AV->Prop
 | .map k e,.im kd=>Qax (luE P h m kd ok K k) (tI P e)
 |_,_=>False
def Qnn(P:Program)(h:Nat->Option Ent)(m k:AV)(ok:Bool)(K:Kont)(ti:TI):Prop:=luK P h m ok K ti.kind k
def muObj(o:Nat)(kt:KT)(kd vd:D)(K:Kont):Option Ent->Prop
 |some (true,.map kt' es)=>kt'=kt/\kt.fit kd=true/\K .any {use:=[o],kill:=[o],new:=[(o,(true,.map kt (upd es kd vd)))]}
 |_=>False
def muKt(h:Nat->Option Ent)(o:Nat)(kd vd:D)(K:Kont):Option KT->Prop
 |some kt=>muObj o kt kd vd K (h o)
 |none=>False
def muK(P:Program)(h:Nat->Option Ent)(o:Nat)(kd vd:D)(K:Kont):TK->Prop
 | .map k _=>muKt h o kd vd K (keyT P k)
 | .bool| .str| .ptr _| .int _| .array _ _| .struct _| .slice _| .other=>False
def muF(n:Nat)(e:AObj)(K:Kont)(r:AV)(E:Eff):Prop:=E.kill.contains n=false/\K r {use:=n::E.use,kill:=n::E.kill,new:=E.new++[(n,(false,e))],cnt:=E.cnt}
def muOwn(P:Program)(h:Nat->Option Ent)(o n:Nat)(kd:D)(K:Kont)(tk:TK):Option Ent->Prop
 |some (_,.arr T k rows)=>(o==n)=false/\muK P h o kd (.sl false k rows) (muF n (.arr T k rows) K) tk
 |_=>False
def Qfc(P:Program)(h:Nat->Option Ent)(K:Kont)(m k v:AV)(ti:TI):Prop:=
 match m,k,v with
 | .mp o,.im kd,.im vd=>muK P h o kd vd K ti.kind
 | .mp o,.im kd,.own n=>muOwn P h o n kd K ti.kind (h n)
 |_,_,_=>False
def deObj(o:Nat)(kt:KT)(kd:D)(K:Kont):Option Ent->Prop
 |some (true,.map kt' es)=>kt'=kt/\kt.fit kd=true/\K .any {use:=[o],kill:=[o],new:=[(o,(true,.map kt (del es kd)))]}
 |_=>False
def deKt(h:Nat->Option Ent)(o:Nat)(kd:D)(K:Kont):Option KT->Prop
 |some kt=>deObj o kt kd K (h o)
 |none=>False
def deK(P:Program)(h:Nat->Option Ent)(o:Nat)(kd:D)(K:Kont):TK->Prop
 | .map k _=>deKt h o kd K (keyT P k)
 | .bool| .str| .ptr _| .int _| .array _ _| .struct _| .slice _| .other=>False
def Qni(P:Program)(h:Nat->Option Ent)(K:Kont)(m k:AV)(ti:TI):Prop:=
 match m,k with
 | .mp o,.im kd=>deK P h o kd K ti.kind
 |_,_=>False
def exA(K:Kont):Option AV->Prop
 |some c=>K c {}
 |none=>False
def exD(K:Kont):Option D->Prop
 |some d=>K (.im d) {}
 |none=>False
def Qgf(i:Nat)(K:Kont):AV->Prop
 | .tup cs=>exA K cs[i]?
 | .im (.tup ds)=>exD K ds[i]?
 |_=>False
def Qgg(h:Nat->Option Ent)(K:Kont):AV->Prop
 | .im (.ref cs)=>K (.im (.ref cs)) {}
 | .im (.ifc t d)=>K (.im (.ifc t d)) {}
 | .ptr o p=>alv o (.ptr o p) K (h o)
 | .eptr o i p=>alv o (.eptr o i p) K (h o)
 |_=>False
abbrev Qbh:=FuncId->List AV->(Nat->Option Ent)->Nat->Kont->Prop
def Qaar(V:Qbh)(args:List AV)(h:Nat->Option Ent)(nx:Nat)(K:Kont):AV->Prop
 | .im (.fn g first capt)=>V g ((first.map .im)++args++(capt.map .im)) h nx K
 | .clo g first capt=>V g (first++args++capt) h nx K
 |_=>False
def tkO:Option TI->Option TK
 |some ti=>some ti.kind
 |none=>none
def Qjk(nx e:Nat)(K:Kont)(te:TI):Prop:=K (.own nx) {new:=[(nx,(true,.arr e te.size []))],cnt:=1}
def Qg6(P:Program)(nx:Nat)(K:Kont):Option TK->Prop
 |some (.slice e)=>Qax (Qjk nx e K) (tI P e)
 |_=>False
def Qdt:Value->Bool
 | .slice none 0 0=>true
 |_=>false
def Qg8:Operand->Bool
 | .const v=>Qdt v
 | .tmp _| .global _| .func _=>false
def Qk7(P:Program)(nx:Nat)(T:TypeId)(v:AV)(K:Kont):Bool->Prop
 |true=>Qg6 P nx K (tkO (tI P T))
 |false=>K v {}
def Qm9(P:Program)(tm:List (Nat×AV))(nx:Nat)(T:TypeId)(K:Kont)(x:Operand):Prop:=Qk7 P nx T (evO tm x) K (Qg8 x && !(T==225))
def pickV(c:Bool)(K:Kont)(a b:AV):Prop:=(c=true->K a {})/\(c=false->K b {})
def Qzp(a b:AV)(K:Kont):AV->Prop
 | .im (.bool c)=>pickV c K a b
 |_=>False
def Qsv(nx T:Nat)(K:Kont)(ti:TI):Prop:=ti.zero.length=ti.size/\ti.size≠0/\K (.ptr nx 0) {new:=[(nx,(true,.cells T (ti.zero.map .im)))],cnt:=1}
def stBox(nx T:Nat)(K:Kont)(cs:List AV):Prop:=cs≠[]/\K (.ptr nx 0) {new:=[(nx,(true,.cells T cs))],cnt:=1}
def nilV:Value->Nat
 | .slice none 0 0=>1
 | .pointer none=>2
 | .map none=>3
 | .nilIface=>4
 |_=>0
def nilC:Operand->Nat
 | .const v=>nilV v
 | .tmp _| .global _| .func _=>0
def Qm5(h:Nat->Option Ent)(op:BinOp)(x:AV)(K:Kont)(n:Nat)(ti:TI):Prop:=
 match op with
 | .eql=>Qkv h false K x n ti.kind
 | .neq=>Qkv h true K x n ti.kind
 |_=>False
def isIfc(P:Program)(T:TypeId):Bool:=match P.underlying T with
 |some (.interface _)=>true
 |_=>false
def isCon(P:Program)(T:TypeId):Bool:=match P.underlying T with
 |some (.interface _)=>false
 |some _=>true
 |none=>false
def methT(P:Program)(t:TypeId)(name:String):Option FuncId:=
 match P.info? t with
 |some i=>match i.methods.find? (·.name==name) with
  |some m=>bif m.path.isEmpty then (match m.func with
   |some (f,false)=>some f
   |_=>none) else none
  |none=>none
 |none=>none
def Qak8(P:Program)(t:TypeId)(name:String):Option FuncId:=
 match P.underlying t with
 |some (.pointer _)=>none
 |some _=>methT P t name
 |none=>none
def Qak0(neg:Bool)(K:Kont):AV->Prop
 | .im .nili=>eqB neg K true
 | .im (.ifc _ _)=>eqB neg K false
 |_=>False
def Qali(P:Program)(T:TypeId)(op:BinOp)(x:AV)(K:Kont):Prop:=
 isIfc P T=true/\match op with
 | .eql=>Qak0 false K x
 | .neq=>Qak0 true K x
 |_=>False
def stIfc(P:Program)(T:TypeId)(K:Kont):AV->Prop
 | .im d=>isCon P T=true/\K (.im (.ifc T d)) {}
 |_=>False
def Qalh(V:Qbh)(args:List AV)(h:Nat->Option Ent)(nx:Nat)(K:Kont)(d:D):Option FuncId->Prop
 |some f=>V f (.im d::args) h nx K
 |none=>False
def stInv(P:Program)(V:Qbh)(args:List AV)(h:Nat->Option Ent)(nx:Nat)(K:Kont)(m:String):AV->Prop
 | .im (.ifc t d)=>Qalh V args h nx K d (Qak8 P t m)
 |_=>False
def Qwb(P:Program)(T:TypeId)(h:Nat->Option Ent)(op:BinOp)(x y:AV)(K:Kont):Nat->Prop
 |0=>Qw4 P T op K x y
 |1=>Qax (Qm5 h op x K 0) (tI P T)
 |2=>Qax (Qm5 h op x K 1) (tI P T)
 |3=>Qax (Qm5 h op x K 2) (tI P T)
 |_+4=>Qali P T op x K
def stConv:Option TK->Kont->AV->Prop
 |some (.int k),K,.im (.int _ n)=>K (.im (.int k (k.wrap n))) {}
 |_,_,_=>False
def Qo0(t:Option TK)(x:AV)(K:Kont):Option TI->Prop
 |some _=>stConv t K x
 |none=>False
def Qadw:List (List D)->Option (List Int)
 |[]=>some []
 |[.int .u8 n]::r=>(Qadw r).map (n:: ·)
 |_=>none
def strI(ns:List Int):ByteArray:=⟨(ns.map fun n=>UInt8.ofNat n.toNat).toArray⟩
def byEnd(u:List Nat)(K:Kont):Option (List Int)->Prop
 |some ns=>K (.im (.str (strI ns))) {use:=u}
 |none=>False
def byObj(o:Nat)(K:Kont):Option Ent->Prop
 |some (_,.arr _ k rows)=>k=1/\byEnd [o] K (Qadw rows)
 |_=>False
def byAV(h:Nat->Option Ent)(K:Kont):AV->Prop
 | .own o=>byObj o K (h o)
 |_=>False
def byEl(h:Nat->Option Ent)(K:Kont)(x:AV):Option TK->Prop
 |some (.int .u8)=>byAV h K x
 |_=>False
def byKd(P:Program)(h:Nat->Option Ent)(K:Kont)(x:AV):TK->Prop
 | .slice e=>byEl h K x (tkO (tI P e))
 |_=>False
def bySrc(P:Program)(h:Nat->Option Ent)(K:Kont)(x:AV):Option TI->Prop
 |some si=>byKd P h K x si.kind
 |none=>False
def TK.isStr:TK->Bool
 | .str=>true
 | .bool| .ptr _| .int _| .array _ _| .struct _| .map _ _| .slice _| .other=>false
def isStr:Option TK->Bool
 |some t=>t.isStr
 |none=>false
def Qaeh(P:Program)(h:Nat->Option Ent)(t:Option TK)(x:AV)(K:Kont)(s:Option TI):Prop:=if isStr t=true then bySrc P h K x s else Qo0 t x K s
def stMax(K:Kont):AV->AV->Prop
 | .im (.int k a),.im (.int k' b)=>k=k'/\K (.im (.int k (max a b))) {}
 |_,_=>False
def TK.isSl:TK->Bool
 | .slice _=>true
 | .bool| .str| .ptr _| .int _| .array _ _| .struct _| .map _ _| .other=>false
def Qlj(P:Program)(h:Nat->Option Ent)(nx:Nat)(s x:AV)(T:TypeId)(K:Kont)(ui:TI):Prop:=ui.kind.isSl=true/\Qax (Qsl P h nx s x K) (tI P T)
def evOo(tm:List (Nat×AV)):Option Operand->Option AV
 |none=>none
 |some x=>some (evO tm x)
def bdV(dflt:Nat):Option AV->Option Int
 |none=>some dflt
 |some (.im (.int _ n))=>some n
 |some _=>none
def slIm(k:Nat)(rows:List (List D))(K:Kont):Option Int->Option Int->Prop
 |some l,some m=>0<=l/\l<=m/\m<=(rows.length:Int)/\K (.im (.sl false k ((rows.drop l.toNat).take (m - l).toNat))) {}
 |some _,none=>False
 |none,_=>False
def slStr(s:ByteArray)(K:Kont):Option Int->Option Int->Prop
 |some l,some m=>0<=l/\l<=m/\m<=(s.size:Int)/\K (.im (.str (s.extract l.toNat m.toNat))) {}
 |some _,none=>False
 |none,_=>False
def Qub(o nx:Nat)(mu:Bool)(T k:Nat)(rows:List (List D))(a n:Nat)(K:Kont):Bool->Prop
 |false=>K (.osl o a n) {use:=[o]}
 |true=>mu=true/\K (.own nx) {use:=[o],kill:=[o],new:=[(nx,(true,.arr T k ((rows.drop a).take n)))],cnt:=1}
def slWin(o nx:Nat)(mu:Bool)(T k:Nat)(rows:List (List D))(K:Kont):Option Int->Option Int->Prop
 |some l,some m=>0<=l/\l<=m/\m<=(rows.length:Int)/\ ∃mv,Qub o nx mu T k rows l.toNat (m - l).toNat K mv
 |some _,none=>False
 |none,_=>False
def slOwn(o nx:Nat)(te:TI)(lo hi:Option AV)(K:Kont):Option Ent->Prop
 |some (mu,.arr T k rows)=>k=te.size/\slWin o nx mu T k rows K (bdV 0 lo) (bdV rows.length hi)
 |_=>False
def slE(h:Nat->Option Ent)(nx:Nat)(lo hi:Option AV)(K:Kont)(x:AV)(te:TI):Prop:=
 match x with
 | .im (.sl _ k rows)=>(k=te.size\/rows=[])/\slIm k rows K (bdV 0 lo) (bdV rows.length hi)
 | .own o=>slOwn o nx te lo hi K (h o)
 |_=>False
def slKs(x:AV)(lo hi:Option AV)(K:Kont):Prop:=
 match x with
 | .im (.str s)=>slStr s K (bdV 0 lo) (bdV s.size hi)
 |_=>False
def slK(P:Program)(h:Nat->Option Ent)(nx:Nat)(x:AV)(lo hi:Option AV)(K:Kont):TK->Prop
 | .slice e=>Qax (slE h nx lo hi K x) (tI P e)
 | .str=>slKs x lo hi K
 | .bool| .ptr _| .int _| .array _ _| .struct _| .map _ _| .other=>False
def Qsm(P:Program)(h:Nat->Option Ent)(nx:Nat)(x:AV)(lo hi:Option AV)(K:Kont)(ti:TI):Prop:=slK P h nx x lo hi K ti.kind
def cySO(o:Nat):Option Ent->Option (List Nat×Nat×List (List D))
 |some (_,.arr _ k rows)=>some ([o],k,rows)
 |_=>none
def cySW(o a n:Nat):Option Ent->Option (List Nat×Nat×List (List D))
 |some (_,.arr _ k rows)=>some ([o],k,(rows.drop a).take n)
 |_=>none
def Qx5(h:Nat->Option Ent):AV->Option (List Nat×Nat×List (List D))
 | .im (.sl _ k rows)=>some ([],k,rows)
 | .own o=>cySO o (h o)
 | .osl o a n=>cySW o a n (h o)
 |_=>none
def cyDO(o:Nat):Option Ent->Option (Nat×Nat×Nat×TypeId×Nat×List (List D))
 |some (true,.arr T k rows)=>some (o,0,rows.length,T,k,rows)
 |_=>none
def cyDW(o a n:Nat):Option Ent->Option (Nat×Nat×Nat×TypeId×Nat×List (List D))
 |some (true,.arr T k rows)=>some (o,a,n,T,k,rows)
 |_=>none
def Qqa(h:Nat->Option Ent):AV->Option (Nat×Nat×Nat×TypeId×Nat×List (List D))
 | .own o=>cyDO o (h o)
 | .osl o a n=>cyDW o a n (h o)
 |_=>none
def Qp0(rows:List (List D))(a m:Nat)(src:List (List D)):List (List D):=rows.take a++src.take m++rows.drop (a+m)
def cyGo(te:TI)(K:Kont):Option (List Nat×Nat×List (List D))->Option (Nat×Nat×Nat×TypeId×Nat×List (List D))->Prop
 |some (u,ks,src),some (o,a,n,T,k,rows)=>k=te.size/\(ks=te.size\/src=[])/\te.size≠0/\OneR allD src/\
  K (.im (.int .i64 (min src.length n:Nat))) {use:=o::u,kill:=[o],new:=[(o,(true,.arr T k (Qp0 rows a (min src.length n) src)))]}
 |some _,none=>False
 |none,_=>False
def cyK(P:Program)(h:Nat->Option Ent)(d s:AV)(K:Kont):TK->Prop
 | .slice e=>Qax (fun te=>cyGo te K (Qx5 h s) (Qqa h d)) (tI P e)
 | .bool| .str| .ptr _| .int _| .array _ _| .struct _| .map _ _| .other=>False
def Qzd(P:Program)(h:Nat->Option Ent)(d s:AV)(K:Kont)(ti:TI):Prop:=cyK P h d s K ti.kind
def clGo(te:TI)(K:Kont):Option (Nat×Nat×Nat×TypeId×Nat×List (List D))->Prop
 |some (o,a,n,T,k,rows)=>k=te.size/\te.size≠0/\te.zero.length=te.size/\allD te.zero=true/\
  K .any {use:=[o],kill:=[o],new:=[(o,(true,.arr T k (Qp0 rows a n (List.replicate n te.zero))))]}
 |none=>False
def clK(P:Program)(h:Nat->Option Ent)(d:AV)(K:Kont):TK->Prop
 | .slice e=>Qax (fun te=>clGo te K (Qqa h d)) (tI P e)
 | .bool| .str| .ptr _| .int _| .array _ _| .struct _| .map _ _| .other=>False
def Qrt(P:Program)(h:Nat->Option Ent)(d:AV)(K:Kont)(ti:TI):Prop:=clK P h d K ti.kind
def rgObj(nx o:Nat)(K:Kont):Option Ent->Prop
 |some (mu,.map kt es)=>K (.it nx) {use:=[o],kill:=[o],new:=[(nx,(true,.iter none es)),(o,(false,.map kt es))],cnt:=1}
 |_=>False
def rgD(nx:Nat)(K:Kont):D->Prop
 | .mp _ es=>K (.it nx) {new:=[(nx,(true,.iter none es))],cnt:=1}
 |_=>False
def rgM(h:Nat->Option Ent)(nx:Nat)(K:Kont):AV->Prop
 | .mp o=>rgObj nx o K (h o)
 | .im d=>rgD nx K d
 |_=>False
def rgK(h:Nat->Option Ent)(nx:Nat)(x:AV)(K:Kont):TK->Prop
 | .map _ _=>rgM h nx K x
 | .bool| .str| .ptr _| .int _| .array _ _| .struct _| .slice _| .other=>False
def Qsh(h:Nat->Option Ent)(nx:Nat)(x:AV)(K:Kont)(ti:TI):Prop:=rgK h nx x K ti.kind
def nxGo(o:Nat)(left:List (D×D))(K:Kont)(i:Nat)(p:D×D):Prop:=
 K (.tup [.im (.bool true),.im p.1,.im p.2]) {use:=[o],kill:=[o],new:=[(o,(true,.iter (some p) (left.eraseIdx i)))]}
def nxObj(o:Nat)(K:Kont):Option Ent->Prop
 |some (true,.iter _ left)=>(left=[]->K (.tup [.im (.bool false)]) {use:=[o]})/\ ∀i p,left[i]? =some p->nxGo o left K i p
 |_=>False
def Qaab(h:Nat->Option Ent)(K:Kont):AV->Prop
 | .it o=>nxObj o K (h o)
 |_=>False
def nxSq(h:Nat->Option Ent)(x:AV)(K:Kont):Bool->Prop
 |true=>Qaab h K x
 |false=>False
def enObj(o:Nat)(K:Kont):Option Ent->Prop
 |some (true,.iter (some p) _)=>K (.im (.tup [p.1,p.2])) {use:=[o]}
 |_=>False
def Qsz(h:Nat->Option Ent)(K:Kont):AV->Prop
 | .it o=>enObj o K (h o)
 |_=>False
def Qp9(P:Program)(t:TypeId):Option TypeId:=match P.underlying t with
 |some (.chan _ e)=>some e
 |_=>none
def mcE(nx:Nat)(n:Int)(K:Kont)(te:TI):Prop:=0<=n/\n<=1073741824/\te.bytes<=65536/\K (.ch nx) {new:=[(nx,(true,.chan [] n.toNat))],cnt:=1}
def mcV(P:Program)(nx:Nat)(K:Kont)(e:TypeId):AV->Prop
 | .im (.int .i64 n)=>Qax (mcE nx n K) (tI P e)
 |_=>False
def mcK(P:Program)(nx:Nat)(x:AV)(K:Kont):Option TypeId->Prop
 |some e=>mcV P nx K e x
 |none=>False
def Qi6(P:Program)(nx:Nat)(x:AV)(K:Kont)(T:TypeId):Prop:=mcK P nx x K (Qp9 P T)
def lnChO(o:Nat)(K:Kont):Option Ent->Prop
 |some (_,.chan q _)=>kInt K {use:=[o]} q.length
 |_=>False
def lnCh(o:Nat)(h:Nat->Option Ent)(K:Kont):Option TypeId->Prop
 |some _=>lnChO o K (h o)
 |none=>False
def sdGo(o:Nat)(d:D)(K:Kont):Option Ent->Prop
 |some (true,.chan q cap)=>q.length<cap/\K .any {use:=[o],kill:=[o],new:=[(o,(true,.chan (q++[d]) cap))]}
 |_=>False
def stSend(h:Nat->Option Ent)(c x:AV)(K:Kont):Prop:=
 match c,x with
 | .ch o,.im d=>sdGo o d K (h o)
 |_,_=>False
def rvGo(o:Nat)(K:Kont):Option Ent->Prop
 |some (true,.chan q cap)=>q≠[]/\ ∀d r,q=d::r->K (.im d) {use:=[o],kill:=[o],new:=[(o,(true,.chan r cap))]}
 |_=>False
def rvC(h:Nat->Option Ent)(K:Kont):AV->Prop
 | .ch o=>rvGo o K (h o)
 |_=>False
def rvE(h:Nat->Option Ent)(c:AV)(K:Kont)(te:TI):Prop:=te.zero.length=te.size/\te.size≠0/\rvC h K c
def rvK(P:Program)(h:Nat->Option Ent)(c:AV)(K:Kont):Option TypeId->Prop
 |some e=>Qax (rvE h c K) (tI P e)
 |none=>False
def stRecv(P:Program)(h:Nat->Option Ent)(T:TypeId)(c:AV)(K:Kont):Prop:=rvK P h c K (Qp9 P T)
def eqUn(neg:Bool)(K:Kont)(E:Eff){α:Type}(rows:List α):Prop:= ∀b:Bool,(b=true->rows=[])->K (.im (.bool (neg !=b))) E
def eqUnO(o:Nat)(neg:Bool)(K:Kont):Option Ent->Prop
 |some (_,.arr _ _ rows)=>eqUn neg K {use:=[o]} rows
 |some (_,.arrA _ _ rows)=>eqUn neg K {use:=[o]} rows
 |_=>False
def Qab2(h:Nat->Option Ent)(neg:Bool)(K:Kont):AV->Prop
 | .im (.sl _ _ rows)=>eqUn neg K {} rows
 | .own o=>eqUnO o neg K (h o)
 |_=>False
def Qir:D->Bool
 | .sl nz _ _=>nz
 | .int _ _| .bool _| .str _| .nilp| .nilf| .nili| .nilc| .nilm| .agg _| .tup _| .ref _| .mp _ _| .fn _ _ _| .ifc _ _| .gp _| .tok _=>true
def isKn:AV->Bool
 | .im d=>Qir d
 | .own _=>false
 | .any| .agg _| .tup _| .ptr _ _| .eptr _ _ _| .mp _| .ch _| .it _| .osl _ _ _| .clo _ _ _=>true
def unS(sq:Bool)(x:AV)(n:Nat):Bool:=sq && (n==1 && !isKn x)
def Qhy(P:Program)(h:Nat->Option Ent)(T:TypeId)(op:BinOp)(x:AV)(K:Kont):TK->Prop
 | .slice _=>(match op with
   | .eql=>Qab2 h false K x
   | .neq=>Qab2 h true K x
   |_=>False)
 | .bool| .str| .ptr _| .int _| .array _ _| .struct _| .map _ _| .other=>False
def Qst(P:Program)(h:Nat->Option Ent)(T:TypeId)(op:BinOp)(x:AV)(K:Kont)(ti:TI):Prop:=Qhy P h T op x K ti.kind
def stBinS(P:Program)(sq:Bool)(T:TypeId)(h:Nat->Option Ent)(op:BinOp)(x y:AV)(K:Kont)(n:Nat):Prop:=
 if unS sq x n=true then Qax (Qst P h T op x K) (tI P T) else Qwb P T h op x y K n
def Qfs(P:Program)(sq:Bool)(h:Nat->Option Ent)(T:TypeId)(K:Kont):AV->Prop
 | .ch o=>lnCh o h K (Qp9 P T)
 | .im d=>Qax (Qxt sq h (.im d) K) (tI P T)
 | .own o=>Qax (Qxt sq h (.own o) K) (tI P T)
 | .osl o a n=>Qax (Qxt sq h (.osl o a n) K) (tI P T)
 | .mp o=>Qax (Qxt sq h (.mp o) K) (tI P T)
 | .any| .agg _| .tup _| .ptr _ _| .eptr _ _ _| .it _| .clo _ _ _=>False
def Qe6(P:Program)(sq:Bool)(h:Nat->Option Ent)(nx:Nat)(K:Kont):Builtin->List AV->List TypeId->Prop
 | .len,[x],[T]=>Qfs P sq h T K x
 | .append,[s,x],[T,U]=>Qax (Qlj P h nx s x T K) (tI P U)
 | .delete,[m,k],T::_=>Qax (Qni P h K m k) (tI P T)
 | .copy,[d,s],[T,_]=>Qax (Qzd P h d s K) (tI P T)
 | .clear,[d],[T]=>Qax (Qrt P h d K) (tI P T)
 | .max,[x,y],_=>stMax K x y
 |_,_,_=>False
def Qle(P:Program)(V:Qbh)(sq:Bool)(tm:List (Nat×AV))(h:Nat->Option Ent)(nx:Nat)(args:List AV)(ts:List TypeId)(K:Kont):Callee->Prop
 | .value f=>Qaar V args h nx K (evO tm f)
 | .builtin b=>Qe6 P sq h nx K b args ts
 | .invoke r m=>stInv P V args h nx K m (evO tm r)
def mmKt(nx:Nat)(K:Kont):Option KT->Prop
 |some kt=>K (.mp nx) {new:=[(nx,(true,.map kt []))],cnt:=1}
 |none=>False
def mmK(P:Program)(nx:Nat)(K:Kont):TK->Prop
 | .map k _=>mmKt nx K (keyT P k)
 | .bool| .str| .ptr _| .int _| .array _ _| .struct _| .slice _| .other=>False
def Qko(P:Program)(nx:Nat)(K:Kont)(ti:TI):Prop:=mmK P nx K ti.kind
def evL(tm:List (Nat×AV)):List Operand->List AV
 |[]=>[]
 |x::r=>evO tm x::evL tm r
def evP(tm:List (Nat×AV)):List (Nat×Operand)->List (Nat×AV)
 |[]=>[]
 |(i,x)::r=>(i,evO tm x)::evP tm r
def Qrk(h:Nat->Option Ent)(x:AV)(K:Kont)(ti:TI):Prop:=Qou h ti K x
def Qfq(P:Program)(h:Nat->Option Ent)(x i:AV)(K:Kont)(ti:TI):Prop:=Qjp P h x ti K i
def Qno(P:Program)(x i:AV)(K:Kont)(ti:TI):Prop:=Qxc P x ti K i
def cpO2(o:Nat)(T:TypeId)(cs:List AV):Option (List D)->Option (D×Qan)
 |some ds=>some (.ref ds,[(o,(false,.cells T cs))])
 |none=>none
def cpO(o:Nat):Option Ent->Option (D×Qan)
 |some (_,.cells T cs)=>cpO2 o T cs (Qcr cs)
 |some (_,.arr _ _ _)=>none
 |some (_,.arrA _ _ _)=>none
 |some (_,.map _ _)=>none
 |some (_,.chan _ _)=>none
 |some (_,.iter _ _)=>none
 |some (_,.view _)=>none
 |none=>none
def cpD(h:Nat->Option Ent):AV->Option (D×Qan)
 | .im d=>some (d,[])
 | .ptr o 0=>cpO o (h o)
 | .ptr _ (_+1)=>none
 | .any=>none
 | .agg _=>none
 | .tup _=>none
 | .eptr _ _ _=>none
 | .own _=>none
 | .mp _=>none
 | .ch _=>none
 | .it _=>none
 | .osl _ _ _=>none
 | .clo _ _ _=>none
def cpC:Option (D×Qan)->Option (List D×Qan)->Option (List D×Qan)
 |some (d,E),some (ds,F)=>some (d::ds,E++F)
 |some _,none=>none
 |none,_=>none
def cpL(h:Nat->Option Ent):List AV->Option (List D×Qan)
 |[]=>some ([],[])
 |x::r=>cpC (cpD h x) (cpL h r)
def hnm:Qan->List Nat
 |[]=>[]
 |(n,_)::r=>n::hnm r
def Qz3(f:FuncId)(a b:List D)(first capt:List AV)(K:Kont):Qan->Prop
 |[]=>K (.im (.fn f a b)) {}
 |e::r=>K (.im (.fn f a b)) {use:=hnm (e::r),kill:=hnm (e::r),new:=e::r}\/K (.clo f first capt) {}
def Qabp(f:FuncId)(first capt:List AV)(K:Kont):Option (List D×Qan)->Option (List D×Qan)->Prop
 |some (a,E),some (b,F)=>Qz3 f a b first capt K (E++F)
 |some _,none=>K (.clo f first capt) {}
 |none,_=>K (.clo f first capt) {}
def step(P:Program)(V:Qbh)(sq:Bool)(tm:List (Nat×AV))(h:Nat->Option Ent)(nx:Nat)(T:TypeId)(K:Kont):Op->Prop
 | .move x=>K (evO tm x) {}
 | .assign x=>Qm9 P tm nx T K x
 | .pick c a b=>Qzp (evO tm a) (evO tm b) K (evO tm c)
 | .alloc T=>Qax (Qsv nx T K) (tI P T)
 | .box T x=>stBox nx T K (evO tm x).cells
 | .build T ps=>Qax (Qsy P (evP tm ps.toList) K) (tI P T)
 | .buildSlice T n ps=>Qax (Qfp P nx n (evP tm ps.toList) K) (tI P T)
 | .load T x=>Qax (Qrk h (evO tm x) K) (tI P T)
 | .store T x v=>Qax (Qri h (evO tm x) (evO tm v) K) (tI P T)
 | .nilCheck x=>Qgg h K (evO tm x)
 | .binOp op T x y _=>stBinS P sq T h op (evO tm x) (evO tm y) K (nilC y)
 | .unOp op _ x=>stUn K op (evO tm x)
 | .convert S T x=>Qaeh P h (tkO (tI P T)) (evO tm x) K (tI P S)
 | .makeFunc (.func f) first capt=>Nat.blt f 1000000000=true/\Qabp f (evL tm first.toList) (evL tm capt.toList) K (cpL h (evL tm first.toList)) (cpL h (evL tm capt.toList))
 | .makeMap T none=>Qax (Qko P nx K) (tI P T)
 | .makeSlice T l c=>Qax (Qhl P nx (evO tm l) (evO tm c) K) (tI P T)
 | .fieldAddr T x f=>Qax (Qhg h (evO tm x) f K) (tI P T)
 | .indexAddr T x i=>Qax (Qfq P h (evO tm x) (evO tm i) K) (tI P T)
 | .index T x i=>Qax (Qno P (evO tm x) (evO tm i) K) (tI P T)
 | .lookup T m k ok=>Qax (Qnn P h (evO tm m) (evO tm k) ok K) (tI P T)
 | .mapUpdate T m k v=>Qax (Qfc P h K (evO tm m) (evO tm k) (evO tm v)) (tI P T)
 | .extract x i=>Qgf i K (evO tm x)
 | .call c=>Qle P V sq tm h nx (evL tm c.args.toList) c.argTypes.toList K c.callee
 | .slice T x lo hi none=>Qax (Qsm P h nx (evO tm x) (evOo tm lo) (evOo tm hi) K) (tI P T)
 | .range T x=>Qax (Qsh h nx (evO tm x) K) (tI P T)
 | .next x false=>nxSq h (evO tm x) K sq
 | .entry x=>Qsz h K (evO tm x)
 | .makeChan T x=>Qi6 P nx (evO tm x) K T
 | .makeInterface T x=>stIfc P T K (evO tm x)
 | .insert T m k v=>Qax (Qfc P h K (evO tm m) (evO tm k) (evO tm v)) (tI P T)
 |_=>False
inductive Ex where
 |normal
 |exit (id:Nat)
 |ret
abbrev Qbl:=Ex->Qad->Prop
def Qg4(t:Option Nat)(want:Bool)(s:Qad)(Kdo Kskip:Qad->Prop):AV->Prop
 | .im (.bool b)=>(b=want->Kdo (s.put t (.im (.bool want))))/\(b= !want->Kskip (s.put t (.im (.bool (!want)))))
 | .im (.tup [])=>Kskip s
 |_=>False
def belH(n:Nat):Qan->Bool
 |[]=>true
 |(_,(_,.cells _ cs))::r=>belL n cs && belH n r
 |(_,(_,.arrA _ _ rows))::r=>rows.all (belL n) && belH n r
 |(_,(_,.arr _ _ _))::r=>belH n r
 |(_,(_,.map _ _))::r=>belH n r
 |(_,(_,.chan _ _))::r=>belH n r
 |(_,(_,.iter _ _))::r=>belH n r
 |(_,(_,.view _))::r=>belH n r
def Qafj(kill:List Nat)(nx cnt n:Nat):Bool:=(Nat.ble nx n && Nat.blt n (nx+cnt))||(kill.contains n && Nat.blt n nx)
def Qpx(kill:List Nat)(nx cnt:Nat):Qan->Bool
 |[]=>true
 |(n,_)::r=>Qafj kill nx cnt n && Qpx kill nx cnt r
def Eff.ok(E:Eff)(nx:Nat)(r:AV):Bool:=r.bel (nx+E.cnt) && (belH (nx+E.cnt) E.new && Qpx E.kill nx E.cnt E.new)
theorem Qad.app_nr(tm:List (Nat×AV))(h:Qan)(nx:Nat)(dst:Option Nat)(r:AV)(u k:List Nat)(nw:Qan)(c:Nat):Qad.app ⟨tm,h,nx⟩ dst r ⟨u,k,nw,c⟩=(⟨tm,nw++hdel h k,nx+c⟩:Qad).put dst r:=by
 cases dst<;>rfl
theorem Eff.ok_nr(u k:List Nat)(nw:Qan)(c nx:Nat)(r:AV):Eff.ok ⟨u,k,nw,c⟩ nx r=(r.bel (nx+c) && (belH (nx+c) nw && Qpx k nx c nw)):=by
 cases c<;>rfl
structure SOp where
 dst:Option Nat
 op:Op
 type:TypeId
 gd:Option (Option Nat×Bool)
def Qx6(ops:Array Oper):Option (Nat×Bool)->Option (Option Nat×Bool)
 |none=>none
 |some (j,w)=>some ((ops[j]?).bind (·.dst),w)
def Qgy(ops:Array Oper):List Oper->List SOp
 |[]=>[]
 |o::r=>⟨o.dst,o.op,o.type,Qx6 ops o.guard⟩::Qgy ops r
def kont(go:Qad->Prop)(s:Qad)(dst:Option Nat)(r:AV)(E:Eff):Prop:=E.ok s.nx r=true/\go (s.app dst r E)
def Qc0(P:Program)(V:Qbh)(tm:List (Nat×AV))(h:Nat->Option Ent)(nx:Nat)(ty:TypeId)(K:Kont):Op->Prop
 | .send c x=>stSend h (evO tm c) (evO tm x) K
 | .recv T c false=>stRecv P h T (evO tm c) K
 |op=>step P V true tm h nx ty K op
def stepS(P:Program)(V:Qbh)(dst:Option Nat)(op:Op)(ty:TypeId)(go:Qad->Prop)(s:Qad):Prop:=
 Qc0 P V s.tm (hget s.h) s.nx ty (kont go s dst) op
def skipS(dst:Option Nat)(go:Qad->Prop)(s:Qad):Prop:=go (s.put dst (.im (.tup [])))
def grdS(P:Program)(V:Qbh)(dst:Option Nat)(op:Op)(ty:TypeId)(want:Bool)(go:Qad->Prop)(s:Qad):Option Nat->Prop
 |some t=>Qg4 (some t) want s (stepS P V dst op ty go) (skipS dst go) (tget s.tm t)
 |none=>False
def opS(P:Program)(V:Qbh)(dst:Option Nat)(op:Op)(ty:TypeId)(go:Qad->Prop)(s:Qad):Option (Option Nat×Bool)->Prop
 |none=>stepS P V dst op ty go s
 |some (t,want)=>grdS P V dst op ty want go s t
def rgS(P:Program)(V:Qbh):List SOp->(Qad->Prop)->Qad->Prop
 |[],K,s=>K s
 |⟨dst,op,ty,gd⟩::rest,K,s=>opS P V dst op ty (rgS P V rest K) s gd
structure Fp where
 i:Nat
 use:List Nat
 touch:List Nat
 nx:Nat
 cnt:Nat
def Qcv:Qan->List Nat
 |[]=>[]
 |(n,_)::r=>n::Qcv r
def nmsH:Qan->List Nat
 |[]=>[]
 |(_,(_,e))::r=>e.nms++nmsH r
def Ql9:List Nat->List Nat->Bool
 |[],_=>true
 |x::r,l=> !l.contains x && Ql9 r l
def outN(nx cnt:Nat):List Nat->Bool
 |[]=>true
 |x::r=>(Nat.blt x nx||Nat.ble (nx+cnt) x) && outN nx cnt r
def bnd:Ground->Bool
 | .data=>true
 | .chain=>true
 | .guard=>true
 | .phase=>true
 | .textOnly _=>false
 | .gcOnly _=>false
def nthL:List (List Nat)->Nat->List Nat
 |[],_=>[]
 |x::_,0=>x
 |_::r,n+1=>nthL r n
def ins(x:Nat)(l:List Nat):List Nat:=bif l.contains x then l else x::l
def insL:List Nat->List Nat->List Nat
 |[],l=>l
 |x::r,l=>ins x (insL r l)
def cloE(acc:List (List Nat)):List Edge->List Nat
 |[]=>[]
 |e::r=>bif bnd e.ground then insL (e.on::nthL acc e.on) (cloE acc r) else cloE acc r
def Qdr:List Oper->List (List Nat)->List (List Nat)
 |[],acc=>acc
 |o::r,acc=>Qdr r (acc++[cloE acc o.after.toList])
def ordB(cl:List (List Nat))(i j:Nat):Bool:=(nthL cl j).contains i
def ckP(cl:List (List Nat))(j:Nat)(use touch names:List Nat)(f:Fp):Bool:=
 bif Ql9 (use++touch) f.touch && (Ql9 touch f.use && outN f.nx f.cnt names) then true else ordB cl f.i j
def Qabz(cl:List (List Nat))(j:Nat)(use touch names:List Nat):List Fp->Bool
 |[]=>true
 |f::r=>ckP cl j use touch names f && Qabz cl j use touch names r
def Eff.touch(E:Eff):List Nat:=E.kill++Qcv E.new
abbrev AGo:=List Fp->Qad->Prop
def kontA(cl:List (List Nat))(i:Nat)(acc:List Fp)(go:AGo)(s:Qad)(dst:Option Nat)(r:AV)(E:Eff):Prop:=
 E.ok s.nx r=true/\Qabz cl i (E.use++E.kill) E.touch (E.touch++(r.nms++nmsH E.new)) acc=true/\go (⟨i,E.use++E.kill,E.touch,s.nx,E.cnt⟩::acc) (s.app dst r E)
def stepA(P:Program)(V:Qbh)(cl:List (List Nat))(i:Nat)(acc:List Fp)(dst:Option Nat)(op:Op)(ty:TypeId)(go:AGo)(s:Qad):Prop:=
 step P V false s.tm (hget s.h) s.nx ty (kontA cl i acc go s dst) op
def skipA(dst:Option Nat)(acc:List Fp)(go:AGo)(s:Qad):Prop:=go acc (s.put dst (.im (.tup [])))
def grdA(P:Program)(V:Qbh)(cl:List (List Nat))(i:Nat)(acc:List Fp)(dst:Option Nat)(op:Op)(ty:TypeId)(want:Bool)(go:AGo)(s:Qad):Option Nat->Prop
 |some t=>Qg4 (some t) want s (stepA P V cl i acc dst op ty go) (skipA dst acc go) (tget s.tm t)
 |none=>False
def opA(P:Program)(V:Qbh)(cl:List (List Nat))(i:Nat)(acc:List Fp)(dst:Option Nat)(op:Op)(ty:TypeId)(go:AGo)(s:Qad):Option (Option Nat×Bool)->Prop
 |none=>stepA P V cl i acc dst op ty go s
 |some (t,want)=>grdA P V cl i acc dst op ty want go s t
def rgA(P:Program)(V:Qbh)(cl:List (List Nat)):List SOp->Nat->(Qad->Prop)->AGo
 |[],_,K,_,s=>K s
 |⟨dst,op,ty,gd⟩::rest,i,K,acc,s=>opA P V cl i acc dst op ty (rgA P V cl rest (i+1) K) s gd
def thenQ(K:Qad->Prop)(Q:Qbl):Qbl
 | .normal,s=>K s
 | .exit i,s=>Q (.exit i) s
 | .ret,s=>Q .ret s
def exitQ(i:Nat)(Q:Qbl)(s:Qad):Bool->Prop
 |true=>Q .normal s
 |false=>Q (.exit i) s
def Qqo(id:Nat)(Q:Qbl):Qbl
 | .normal,s=>Q .normal s
 | .exit i,s=>exitQ i Q s (i==id)
 | .ret,s=>Q .ret s
def Quv(A B:Qbl->Qad->Prop)(Q:Qbl)(s:Qad):AV->Prop
 | .im (.bool b)=>(b=true->A Q s)/\(b=false->B Q s)
 |_=>False
def subT(s:Qad):List (Nat×AV)->Prop
 |[]=>True
 |(t,x)::r=>tget s.tm t=x/\subT s r
def subH(s:Qad):Qan->Prop
 |[]=>True
 |(o,e)::r=>hget s.h o=some e/\subH s r
def sub(s s':Qad):Prop:=subT s s'.tm/\subH s s'.h
def belT(n:Nat):List (Nat×AV)->Bool
 |[]=>true
 |(_,x)::r=>x.bel n && belT n r
def Qam(n:Nat):Qan->Bool
 |[]=>true
 |(m,_)::r=>Nat.blt m n && Qam n r
def Qad.good(s:Qad):Bool:=belT s.nx s.tm && (belH s.nx s.h && Qam s.nx s.h)
def pm:List (Nat×Option Nat)->Nat->Option Nat
 |[],n=>some n
 |(a,b)::r,n=>if a=n then b else pm r n
def nilA:AV->Prop
 | .im (.sl true _ [])=>True
 |_=>False
def ownM(x:AV):Option Nat->Prop
 |some m=>x= .own m
 |none=>nilA x
def Qga(f:Nat->AV)(x:AV):Option Nat->Prop
 |some m=>x=f m
 |none=>False
mutual
def mt(π:List (Nat×Option Nat)):AV->AV->Prop
 | .any,_=>True
 | .im d,x=>x= .im d
 | .own n,x=>ownM x (pm π n)
 | .ptr n p,x=>Qga (fun m=> .ptr m p) x (pm π n)
 | .eptr n i p,x=>Qga (fun m=> .eptr m i p) x (pm π n)
 | .mp n,x=>Qga .mp x (pm π n)
 | .ch n,x=>Qga .ch x (pm π n)
 | .it n,x=>Qga .it x (pm π n)
 | .osl n a k,x=>Qga (fun m=> .osl m a k) x (pm π n)
 | .agg cs,.agg ds=>mtL π cs ds
 | .agg cs,.im (.agg ds)=>mtL π cs (ds.map .im)
 | .agg _,_=>False
 | .tup _,_=>False
 | .clo _ _ _,_=>False
def mtL(π:List (Nat×Option Nat)):List AV->List AV->Prop
 |[],[]=>True
 |x::r,y::s=>mt π x y/\mtL π r s
 |[],_::_=>False
 |_::_,[]=>False
end
def mtR(π:List (Nat×Option Nat)):List (List AV)->List (List AV)->Prop
 |[],[]=>True
 |x::r,y::s=>mtL π x y/\mtR π r s
 |[],_::_=>False
 |_::_,[]=>False
def mtE(π:List (Nat×Option Nat)):AObj->AObj->Prop
 | .cells T cs,.cells U ds=>T=U/\mtL π cs ds
 | .cells _ _,_=>False
 | .arr T k rows,e=>e= .arr T k rows
 | .arrA T k rows,.arrA U k' rows'=>T=U/\k=k'/\mtR π rows rows'
 | .arrA T k rows,.arr U k' rows'=>T=U/\k=k'/\mtR π rows (imR rows')
 | .arrA _ _ _,.cells _ _=>False
 | .arrA _ _ _,.map _ _=>False
 | .arrA _ _ _,.chan _ _=>False
 | .arrA _ _ _,.iter _ _=>False
 | .arrA _ _ _,.view _=>False
 | .map kt es,e=>e= .map kt es
 | .chan q c,e=>e= .chan q c
 | .iter a l,e=>e= .iter a l
 | .view cs,e=>e= .view cs
def entM(π:List (Nat×Option Nat))(mu:Bool)(e':AObj):Option Ent->Prop
 |some (mu',e)=>mu'=mu/\mtE π e' e
 |none=>False
def nilE:Bool->AObj->Prop
 |true,.arr _ _ []=>True
 |true,.arrA _ _ []=>True
 |_,_=>False
def entN(s:Qad)(π:List (Nat×Option Nat))(mu:Bool)(e':AObj):Option Nat->Prop
 |some m=>entM π mu e' (hget s.h m)
 |none=>nilE mu e'
def Qpt(π:List (Nat×Option Nat))(s:Qad):List (Nat×AV)->Prop
 |[]=>True
 |(t,x)::r=>mt π x (tget s.tm t)/\Qpt π s r
def Qgb(π:List (Nat×Option Nat))(s:Qad):Qan->Prop
 |[]=>True
 |(n,(mu,e))::r=>entN s π mu e (pm π n)/\Qgb π s r
def geP(lo:Nat):List (Nat×Option Nat)->Prop
 |[]=>True
 |(a,_)::r=>lo<=a/\geP lo r
def imP(π:List (Nat×Option Nat)):Qan->List (Option Nat)
 |[]=>[]
 |(n,_)::r=>pm π n::imP π r
def nodS:List (Option Nat)->Bool
 |[]=>true
 |none::r=>nodS r
 |some m::r=> !r.contains (some m) && nodS r
def subP(lo:Nat)(π:List (Nat×Option Nat))(s s':Qad):Prop:=geP lo π/\nodS (imP π s'.h)=true/\Qpt π s s'.tm/\Qgb π s s'.h
def loopQ{β:Type}(I:β->Qad)(μ:β->Nat)(b:β)(Q:Qbl):Qbl
 | .normal,s=> ∃b',μ b'<μ b/\sub s (I b')
 | .exit i,s=>Q (.exit i) s
 | .ret,s=>Q .ret s
def loopP{β:Type}(lo:Nat)(I:β->Qad)(μ:β->Nat)(b:β)(Q:Qbl):Qbl
 | .normal,s=> ∃b' π,μ b'<μ b/\subP lo π s (I b')
 | .exit i,s=>Q (.exit i) s
 | .ret,s=>Q .ret s
def Qin(body:Qbl->Qad->Prop)(Q:Qbl)(s:Qad):Prop:=
 ∃(β:Type) (I:β->Qad) (μ:β->Nat),(∀b,(I b).good=true/\s.nx<=(I b).nx)/\(∃b,sub s (I b))/\ ∀b,body (loopQ I μ b Q) (I b)
def Qsi(body:Qbl->Qad->Prop)(Q:Qbl)(s:Qad):Prop:=
 ∃(β:Type) (I:β->Qad) (μ:β->Nat),(∀b,(I b).good=true/\s.nx<=(I b).nx)/\(∃b π,subP s.nx π s (I b))/\ ∀b,body (loopP s.nx I μ b Q) (I b)
def frzH(F:List Nat):Qan->Qan
 |[]=>[]
 |(n,(mu,e))::r=>(n,(mu && !F.contains n,e))::frzH F r
def frzS(F:List Nat)(s:Qad):Qad:=⟨s.tm,frzH F s.h,s.nx⟩
def LoopVC2(body:Qbl->Qad->Prop)(Q:Qbl)(s:Qad):Prop:= ∃F:List Nat,Qin body Q (frzS F s)
def objD(n:Nat):AObj->AV
 | .arr _ w rows=> .im (.sl false w rows)
 | .cells _ _=> .own n
 | .arrA _ _ _=> .own n
 | .map _ _=> .own n
 | .chan _ _=> .own n
 | .iter _ _=> .own n
 | .view _=> .own n
def ownD(n:Nat):Option Ent->AV
 |some e=>objD n e.2
 |none=> .own n
mutual
def AV.fzA(F:List Nat)(H:Qan):AV->AV
 | .own n=>bif F.contains n then ownD n (hget H n) else .own n
 | .agg cs=> .agg (fzAL F H cs)
 | .any=> .any
 | .im d=> .im d
 | .tup cs=> .tup cs
 | .ptr o p=> .ptr o p
 | .eptr o i p=> .eptr o i p
 | .mp o=> .mp o
 | .ch o=> .ch o
 | .it o=> .it o
 | .osl o a n=> .osl o a n
 | .clo f a c=> .clo f a c
def fzAL(F:List Nat)(H:Qan):List AV->List AV
 |[]=>[]
 |x::r=>x.fzA F H::fzAL F H r
end
def fzAR(F:List Nat)(H:Qan):List (List AV)->List (List AV)
 |[]=>[]
 |x::r=>fzAL F H x::fzAR F H r
def AObj.fzA(F:List Nat)(H:Qan):AObj->AObj
 | .cells T cs=> .cells T (fzAL F H cs)
 | .arrA T k rows=> .arrA T k (fzAR F H rows)
 | .arr T k rows=> .arr T k rows
 | .map kt es=> .map kt es
 | .chan q c=> .chan q c
 | .iter a l=> .iter a l
 | .view cs=> .view cs
def fzAT(F:List Nat)(H:Qan):List (Nat×AV)->List (Nat×AV)
 |[]=>[]
 |(t,x)::r=>(t,x.fzA F H)::fzAT F H r
def fzAH(F:List Nat)(H:Qan):Qan->Qan
 |[]=>[]
 |(n,(mu,e))::r=>(n,(mu && !F.contains n,e.fzA F H))::fzAH F H r
def fzAS(F:List Nat)(s:Qad):Qad:=⟨fzAT F s.h s.tm,fzAH F s.h s.h,s.nx⟩
def loopF{β:Type}(lo:Nat)(I:β->Qad)(μ:β->Nat)(b:β)(Q:Qbl):Qbl
 | .normal,s=> ∃b' F π,μ b'<μ b/\subP lo π (fzAS F s) (I b')
 | .exit i,s=>Q (.exit i) s
 | .ret,s=>Q .ret s
def Qsf(body:Qbl->Qad->Prop)(Q:Qbl)(s:Qad):Prop:=
 ∃(β:Type) (I:β->Qad) (μ:β->Nat),(∀b,(I b).good=true/\s.nx<=(I b).nx)/\(∃b F π,subP s.nx π (fzAS F s) (I b))/\ ∀b,body (loopF s.nx I μ b Q) (I b)
def Qay(body:Qbl->Qad->Prop)(Q:Qbl)(s:Qad):Prop:=Qin body Q s\/Qsi body Q s\/LoopVC2 body Q s\/Qsf body Q s
theorem Qay.frr{body:Qbl->Qad->Prop}{Q:Qbl}{s:Qad}(h:Qsf body Q s):Qay body Q s:=Or.inr (Or.inr (Or.inr h))
theorem Qay.old{body:Qbl->Qad->Prop}{Q:Qbl}{s:Qad}(h:Qin body Q s):Qay body Q s:=Or.inl h
theorem Qay.ren{body:Qbl->Qad->Prop}{Q:Qbl}{s:Qad}(h:Qsi body Q s):Qay body Q s:=Or.inr (Or.inl h)
theorem Qay.frz{body:Qbl->Qad->Prop}{Q:Qbl}{s:Qad}(F:List Nat)(h:Qin body Q (frzS F s)):Qay body Q s:=Or.inr (Or.inr (Or.inl ⟨F,h⟩))
def awp(P:Program)(V:Qbh):Code->Qbl->Qad->Prop
 | .skip,Q,s=>Q .normal s
 | .region _ ops false,Q,s=>rgS P V (Qgy ops ops.toList) (Q .normal) s
 | .region _ ops true,Q,s=>rgA P V (Qdr ops.toList []) (Qgy ops ops.toList) 0 (Q .normal) [] s
 | .seq a b,Q,s=>awp P V a (thenQ (awp P V b Q) Q) s
 | .cond c a b,Q,s=>Quv (awp P V a) (awp P V b) Q s (evO s.tm c)
 | .block id c,Q,s=>awp P V c (Qqo id Q) s
 | .loop c,Q,s=>Qay (awp P V c) Q s
 | .exit id,Q,s=>Q (.exit id) s
 | .ret,Q,s=>Q .ret s
 |_,_,_=>False
end Go.Ae
