/- Lemmas. Conditions: none. -/
import Derived.Orders
import Derived.Below
import Derived.Laws.Sem
import Derived.Lib.ItoaNum
set_option linter.all false
set_option maxHeartbeats 8000000
set_option maxRecDepth 100000
namespace Go
def AJ:=@Option.some.inj
def AR:=@Option.some_beq_none
def AS:=@Option.some_beq_some
def AN:=@Option.some.injEq
def Bg:=@List.mem_of_getElem?
def Af:=@if_neg
def AX:=@Option.getD_some
def BA:=@List.getElem?_eq_getElem
def AY:=@Bool.and_eq_true
def Bq:=@Int.toNat_natCast
def Ai:=@if_pos
def Bc:=@List.mem_range
def BQ:=@List.mem_cons_of_mem
def C6:=@List.getElem?_eq_some_iff
def Be:=@List.map_cons
def AU:=@Nat.le_refl
def BS:=@List.mem_singleton
def BU:=@List.mem_cons_self
def Br:=@List.mem_cons
def B7:=@List.mem_append
def Bl:=@List.mem_map
def BO:=@List.cons_append
def D4:=@Option.map_eq_some_iff
def Bk:=@cond_false
def Cu:=@List.length_take
def DY:=@List.drop_eq_nil_of_le
def DW:=@List.getElem?_set_self
def BF:=@List.map_nil
def CF:=@decide_eq_true_eq
def Df:=@Bool.false_eq_true
def CI:=@List.length_drop
def Eh:=@List.getElem?_set_ne
def CR:=@List.all_eq_true
def D3:=@List.getElem?_map
def Dx:=@List.length_cons
def Dg:=@List.nil_append
def Dh:=@Option.map_some
def F9:=@List.take_of_length_le
def EK:=@List.getD_cons_zero
def Ez:=@List.length_append
def DJ:=@List.append_nil
def Fi:=@Array.length_toList
def Fj:=@List.take_succ_cons
def GI:=@Option.bind_eq_some_iff
def Im:=@Array.getD_eq_getD_getElem?
def DX:=@List.map_append
def C5:=@Nat.zero_le
def CS:=@Nat.le_trans
def Io:=@List.getElem?_append_left
def Ga:=@List.getElem?_range
def Gb:=@List.map_congr_left
def FM:=@Nat.lt_of_lt_of_le
def Es:=@List.drop_drop
def Gv:=@List.getD_cons_succ
def Iq:=@List.getElem?_cons_zero
def Cg:=@cond_true
def Kc:=@List.getElem?_append_right
def E5:=@List.take_zero
def Et:=@Bool.and_true
def Ir:=@List.getElem?_eq_none
def E0:=@Prod.mk.injEq
def Iu:=@Nat.mul_le_mul_right
def GK:=@Classical.not_not
def EL:=@Bool.true_and
def DB:=@Nat.add_mul
def HO:=@beq_eq_false_iff_ne
def Kd:=@decide_eq_false_iff_not
def BD:=@if_true
def FO:=@List.length_set
def Gw:=@Option.bind_some
def Jr:=@List.contains_iff_mem
def EZ:=@List.all_cons
def Fa:=@Nat.add_assoc
def LP:=@List.getElem?_replicate
def GL:=@List.length_map
def OF:=@List.eq_of_mem_replicate
def KS:=@Array.getElem?_toList
def QI:=@Array.getElem?_eq_getElem
def Gu:=@Bool.false_and
def KQ:=@List.mem_append_left
def RE:=@Array.getElem?_eq_some_iff
def GJ:=@List.drop_zero
def Ei:=@Nat.blt_eq
def HN:=@Bool.or_eq_true
def QH:=@List.getElem?_cons_succ
def CO:=@if_false
def Jp:=@List.length_range
def Jq:=@List.take_add_one
def OE:=@List.length_replicate
def IM:=@List.take_length
def FN:=@Nat.zero_add
def Fk:=@Nat.one_mul
def Ip:=@List.length_nil
def Gc:=@Nat.add_zero
def Gd:=@Nat.lt_or_ge
def Ka:=@List.append_assoc
def LO:=@List.drop_succ_cons
def Kb:=@List.flatMap_cons
def Wi:=@List.drop_eq_getElem_cons
def KR:=@Bool.not_eq_false
def Dy:=@congrArg
def Wj:=@List.length_eq_zero_iff
def RF:=@List.mem_append_right
def XA:=@List.mem_or_eq_of_mem_set
def RG:=@List.take_append_drop
def LR:=@Bool.eq_false_iff
def Hu:=@List.map_map
def FA:=@Nat.ble_eq
def LS:=@Nat.min_le_right
def Wo:=@ByteArray.size_append
def Wp:=@List.mem_iff_getElem?
def gS:=@Array.getElem?_setIfInBounds
def XB:=@Array.getElem?_eq_none
def QJ:=@Bool.not_eq_true'
def QL:=@and_self
def OI:=@List.not_mem_nil
def ES:=@List.range_zero
def RH:=@List.ext_getElem?
def KU:=@List.sum_cons
def gT:=@Array.getElem?_replicate
def QM:=@List.all_append
def Ke:=@Nat.sub_self
def Kf:=@Nat.zero_mul
def QN:=@decide_eq_false
def RI:=@List.getElem_mem
def Wq:=@List.nodup_append
def XC:=@List.getElem?_drop
def gU:=@List.zipWith_cons_cons
def Wr:=@Array.toList_map
def OJ:=@Bool.or_false
def Wk:=@List.drop_append
def uZ:=@List.eq_nil_of_length_eq_zero
def LQ:=@List.all_nil
def Wl:=@List.cons.injEq
def bA:=@List.contains_cons
def gN:=@List.mem_iff_getElem
def mN:=@Classical.epsilon_spec
def bB:=@List.size_toArray
def Wm:=@Bool.not_false
def Wn:=@decide_eq_true
def mO:=@Nat.le_of_ble_eq_true
def gO:=@List.set_cons_zero
def gQ:=@Option.isSome_none
def bC:=@Array.toList_inj
def OG:=@Int.le_refl
def FP:=@Ne.symm
def vA:=@List.filter_cons_of_neg
def HP:=@ite_self
def gR:=@List.contains_nil
def bD:=@List.foldl_cons
def mP:=@List.length_reverse
def bE:=@List.nodup_cons
def bF:=@Nat.div_le_self
def ZcX:=@Int.tmod_eq_emod_of_nonneg
def OH:=@beq_iff_eq
def vB:=@Array.getElem?_append
def Ws:=@List.map_set
def vI:=@List.set_append_right
def mU:=@List.set_cons_succ
def mV:=@Nat.eq_zero_or_pos
def bI:=@Bool.and_false
def RJ:=@decide_true
def gV:=@List.range_succ
def Zdh:=@Option.isSome_iff_exists
def LU:=@forall_eq
def vJ:=@List.length_pos_iff
def Zdk:=@Nat.add_sub_cancel_left
def mW:=@Bool.not_eq_true
def Zdm:=@List.drop_append_of_le_length
def vL:=@List.pairwise_cons
def mX:=@Bool.eq_iff_iff
def bJ:=@Bool.or_true
def Zdq:=@List.getElem?_toArray
def mY:=@List.mem_filter
def gW:=@Bool.and_self
def gX:=@List.take_add
def vM:=@Nat.lt_trichotomy
def LV:=@or_false
def Zdw:=@Array.getElem?_append_left
def Zdx:=@Array.toList_setIfInBounds
def Zdy:=@Int.tdiv_eq_ediv_of_nonneg
def Zdz:=@List.mem_of_mem_take
def mQ:=@Bool.and_assoc
def mR:=@List.foldl_nil
def vC:=@List.mem_flatMap
def vD:=@beq_self_eq_true
def OK:=@true_and
def ZdF:=@List.filter_eq_self
def ZdG:=@List.map_eq_nil_iff
def ZdH:=@List.takeWhile_cons
def ZdI:=@Array.size_setIfInBounds
def mS:=@Bool.not_true
def ZdK:=@Int.natCast_nonneg
def ZdL:=@List.find?_eq_none
def vE:=@List.find?_some
def vG:=@Nat.min_eq_left
def vH:=@Nat.not_lt_zero
def ZdP:=@Option.toList_some
def ZdQ:=@List.length_eq_one_iff
def ZdR:=@List.zipWith_nil_right
def bG:=@Array.ext'
def ZdT:=@Array.toList_push
def ZdU:=@List.foldl_append
def bH:=@Nat.mod_lt
def ZdW:=@not_false_eq_true
def ZdX:=@Bool.and_eq_false_iff
def mT:=@Bool.true_or
def ZdZ:=@Int.mul_le_mul_of_nonneg_right
def mZ:=@Nat.add_comm
def nA:=@Nat.sub_zero
def Zec:=@List.flatMap_nil
def Zed:=@List.nodup_range
def Zee:=@Nat.le_add_right
def Zef:=@Option.not_isSome_iff_eq_none
def Zeg:=@forall_eq_or_imp
def Zeh:=@List.range_eq_range'
def vP:=@Bool.false_or
def Zej:=@Array.getElem?_append_right
def Zek:=@Array.toList_append
def Zel:=@Array.toList_modify
def Zem:=@List.find?_cons
def Zen:=@List.flatMap_append
def Zeo:=@List.mem_map_of_mem
def Zep:=@List.replicate_succ
def Zeq:=@List.toList_toArray
def nB:=@Nat.le_succ
def Zes:=@Nat.mul_le_mul_left
def Zet:=@Int.fdiv_eq_ediv_of_nonneg
def Zeu:=@List.exists_cons_of_ne_nil
def Zev:=@List.nodup_iff_pairwise_ne
def Zew:=@List.perm_append_singleton
def Zex:=@Array.ext_getElem?
def Zey:=@Array.extract_size
def Zez:=@Array.toList_range
def ZeA:=@List.getElem?_take
def ZeB:=@List.getElem_range
def vO:=@Nat.succ_mul
def ZeD:=@Array.mapM_eq_mapM_toList
def ZeE:=@List.Perm.refl
def ZeF:=@List.isEmpty_eq_false_iff
def ZeG:=@List.mem_of_find?_eq_some
def ZeH:=@List.eraseIdx_cons_succ
def ZeI:=@List.eraseIdx_cons_zero
def ZeJ:=@List.filter_cons_of_pos
def ZeK:=@Nat.mul_assoc
def ZeL:=@Bool.cond_eq_ite
def ZeM:=@List.filter_cons
def ZeN:=@Nat.mod_eq_of_lt
def ZeO:=@ByteArray.append_assoc
def ZeP:=@Array.getElem?_modify
def ZeQ:=@Array.mem_of_getElem?
def ZeR:=@List.concat_eq_append
def ZeS:=@List.eq_nil_or_concat
def ZeT:=@List.eraseIdx_sublist
def ZeU:=@List.getElem?_reverse
def ZeV:=@List.head?_cons
def ZeW:=@List.length_filter_le
def ZeX:=@List.length_singleton
def ZeY:=@List.sum_nil
def ZeZ:=@Nat.le_of_eq
def Zfa:=@Nat.le_total
def nC:=@and_assoc
def Zfc:=@decide_false
def Zfd:=@Array.toList_extract
def Zfe:=@Bool.or_eq_false_iff
def Zff:=@List.mem_of_mem_drop
def Zfg:=@List.drop_take
def Zfh:=@List.cons.inj
def Zfi:=@List.drop_nil
def Zfj:=@List.take_nil
def Zfk:=@Nat.lt_irrefl
def gY:=@eq_true
def Zfm:=@List.set_set
end Go
namespace Go.Ae
def isG(_:Nat):Bool:=false
def kM:Array Value:=(Lib.pow10Tab.map λz=>Value.int .u64 z).toArray
def GP(ok:Nat->Prop)(hp:Nat->Option Obj):Prop:=ok 0/\ ∃T z,hp 0=some (.cells kM T z)
def GP.tab{ok:Nat->Prop}{hp:Nat->Option Obj}(h:GP ok hp):ok 0/\ ∃T z,hp 0=some (.cells kM T z):=h
def GP.mono{ok ok':Nat->Prop}{hp hp':Nat->Option Obj}(h: ∀b o,ok b->hp b=some o->ok' b/\hp' b=some o)(Z:GP ok hp):GP ok' hp':=by
 obtain⟨z,T,Q,O⟩:=Z;exact⟨(h _ _ z O).1,T,Q,(h _ _ z O).2⟩
def GP.at{ok:Nat->Prop}{hp:Nat->Option Obj}(_:GP ok hp){g:Nat}(O:isG g=true):ok g/\ ∃t x T z,hp g=some (.cells #[.iface t x] T z):=by cases O
end Go.Ae
namespace Go.Ae
inductive KK where
 |int (k:IntKind)
 |str
 |bool
 deriving DecidableEq
structure KT where
 agg:Bool
 ks:List KK
 deriving DecidableEq
inductive D where
 |int (k:IntKind) (n:Int)
 |bool (b:Bool)
 |str (s:ByteArray)
 |nilp|nilf|nili|nilc|nilm
 |agg (cs:List D)
 |tup (cs:List D)
 |sl (nz:Bool) (k:Nat) (rows:List (List D))
 |ref (cs:List D)
 |mp (kt:KT) (es:List (D×D))
 |fn (f:FuncId) (first capt:List D)
 |ifc (t:TypeId) (d:D)
 |gp (g:Nat)
 |tok (g:Nat)
def KK.fit:KK->D->Bool
 | .int k,.int k' _=>k==k'
 | .str,.str _=>true
 | .bool,.bool _=>true
 |_,_=>false
def BB:List KK->List D->Bool
 |[],[]=>true
 |k::ks,d::ds=>k.fit d && BB ks ds
 |_,_=>false
def KT.fit(z:KT)(d:D):Bool:=
 match z.agg,d with
 |true,.agg ds=>BB z.ks ds
 |false,d=>BB z.ks [d]
 |_,_=>false
def JT:Nat:=140737488355328
def Yf(f:Nat):Fn:=if f<1000000000 then .func f else .yield (f - 1000000000)
def fX{f:Nat}(h:f<1000000000):Yf f= .func f:=Ai h
def xR(nz:Bool)(v:Value):Prop:=v= .slice none 0 0\/(nz=false/\ ∃a,v= .slice (some a) 0 0)
def tO{nz:Bool}{v:Value}(h:xR nz v): ∃z,v= .slice z 0 0:=by
 rcases h with rfl|⟨_,a,rfl⟩<;>exact⟨_,rfl⟩
def Qr7{v:Value}(h:xR true v):v= .slice none 0 0:=by
 rcases h with rfl|⟨h,_⟩
 .rfl
 .cases h
def PU{nz:Bool}{v:Value}(h:xR nz v):xR false v:=by
 rcases h with rfl|⟨_,a,rfl⟩
 .exact .inl rfl
 .exact .inr ⟨rfl,a,rfl⟩
mutual
def rd(ok:Nat->Prop)(hp:Nat->Option Obj):D->Value->Prop
 | .int k n,v=>v= .int k n
 | .bool b,v=>v= .bool b
 | .str s,v=>v= .string s
 | .nilp,v=>v= .pointer none
 | .nilf,v=>v= .nilFunc
 | .nili,v=>v= .nilIface
 | .nilc,v=>v= .chan none
 | .nilm,v=>v= .map none
 | .agg Z,v=> ∃Q:Array Value,v= .agg Q/\rdl ok hp Z Q.toList
 | .tup Z,v=> ∃Q:Array Value,v= .tuple Q/\rdl ok hp Z Q.toList
 | .sl nz k rows,v=>(xR nz v/\rows=[])\/
  ∃b p cap Q T fr,v= .slice (some ⟨b,p,none⟩) rows.length cap/\(nz=true->rows≠[])/\rows.length<=cap/\rows.length<=JT/\ok b/\
   hp b=some (.cells Q T fr)/\rdr ok hp k rows (Q.toList.drop p)
 | .ref Z,v=> ∃b p Q T fr,v= .pointer (some ⟨b,p,none⟩)/\ok b/\hp b=some (.cells Q T fr)/\rdp ok hp Z (Q.toList.drop p)
 | .mp kt es,v=> ∃b z O,v= .map (some b)/\(∀e∈es,kt.fit e.1=true)/\ok b/\hp b=some (.map z O)/\CD ok hp es z.toList/\(z.toList.map (·.born)).Nodup/\ ∀e∈z.toList,e.born<O
 | .fn f first capt,v=> ∃a c:Array Value,v= .func (Yf f) a c/\rdl ok hp first a.toList/\rdl ok hp capt c.toList
 | .ifc t d,v=> ∃x,v= .iface t x/\rd ok hp d x
 | .gp g,v=>v= .pointer (some ⟨g,0,none⟩)
 | .tok g,v=>ok g/\(∃t x,v= .iface t x)/\ ∃T fr,hp g=some (.cells #[v] T fr)
def rdl(ok:Nat->Prop)(hp:Nat->Option Obj):List D->List Value->Prop
 |[],z=>z=[]
 |d::ds,z=> ∃v r,z=v::r/\rd ok hp d v/\rdl ok hp ds r
def rdp(ok:Nat->Prop)(hp:Nat->Option Obj):List D->List Value->Prop
 |[],_=>True
 |d::ds,z=> ∃v r,z=v::r/\rd ok hp d v/\rdp ok hp ds r
def rdr(ok:Nat->Prop)(hp:Nat->Option Obj)(k:Nat):List (List D)->List Value->Prop
 |[],_=>True
 |r::O,z=>r.length=k/\rdp ok hp r z/\rdr ok hp k O (z.drop k)
def CD(ok:Nat->Prop)(hp:Nat->Option Obj):List (D×D)->List MapEntry->Prop
 |[],z=>z=[]
 |(x,y)::ds,z=> ∃e r,z=e::r/\rd ok hp x e.key/\rd ok hp y e.val/\CD ok hp ds r
end
section mono
variable {ok ok':Nat->Prop}{hp hp':Nat->Option Obj}
mutual
def Hm(h: ∀b,ok b->ok' b/\hp' b=hp b): ∀(d:D) (v:Value),rd ok hp d v->rd ok' hp' d v
 | .int _ _,_,hd=>by simpa only[rd] using hd
 | .bool _,_,hd=>by simpa only[rd] using hd
 | .str _,_,hd=>by simpa only[rd] using hd
 | .nilp,_,hd=>by simpa only[rd] using hd
 | .nilf,_,hd=>by simpa only[rd] using hd
 | .nili,_,hd=>by simpa only[rd] using hd
 | .nilc,_,hd=>by simpa only[rd] using hd
 | .nilm,_,hd=>by simpa only[rd] using hd
 | .gp _,_,hd=>by simpa only[rd] using hd
 | .tok g,v,hd=>by
   simp only[rd] at hd⊢;obtain⟨z,h3,T,fr,h2⟩:=hd;exact⟨(h g z).1,h3,T,fr,(h g z).2.trans h2⟩
 | .agg cs,v,hd=>by
   simp only[rd] at hd⊢;obtain⟨Z,rfl,z⟩:=hd;exact⟨Z,rfl,LF h cs _ z⟩
 | .tup cs,v,hd=>by
   simp only[rd] at hd⊢;obtain⟨Z,rfl,z⟩:=hd;exact⟨Z,rfl,LF h cs _ z⟩
 | .sl nz k rows,v,hd=>by
   simp only[rd] at hd⊢;rcases hd with hd|⟨b,p,cap,Z,T,fr,rfl,z,h2,h3,O,h5,h6⟩
   .exact .inl hd
   .exact .inr ⟨b,p,cap,Z,T,fr,rfl,z,h2,h3,(h b O).1,(h b O).2.trans h5,ZV h k rows _ h6⟩
 | .ref cs,v,hd=>by
   simp only[rd] at hd⊢;obtain⟨b,p,Z,T,fr,rfl,O,h5,h6⟩:=hd;exact⟨b,p,Z,T,fr,rfl,(h b O).1,(h b O).2.trans h5,VV h cs _ h6⟩
 | .mp kt es,v,hd=>by
   simp only[rd] at hd⊢;obtain⟨b,aa,Q,rfl,h3,O,h5,h6,h7⟩:=hd;exact⟨b,aa,Q,rfl,h3,(h b O).1,(h b O).2.trans h5,LD h es _ h6,h7⟩
 | .fn f first capt,v,hd=>by
   simp only[rd] at hd⊢;obtain⟨a,c,rfl,z,h2⟩:=hd;exact⟨a,c,rfl,LF h first _ z,LF h capt _ h2⟩
 | .ifc t d,v,hd=>by
   simp only[rd] at hd⊢;obtain⟨x,rfl,z⟩:=hd;exact⟨x,rfl,Hm h d _ z⟩
def LF(h: ∀b,ok b->ok' b/\hp' b=hp b): ∀(ds:List D) (vs:List Value),rdl ok hp ds vs->rdl ok' hp' ds vs
 |[],_,hd=>by simpa only[rdl] using hd
 |d::ds,vs,hd=>by
  simp only[rdl] at hd⊢;obtain⟨v,r,rfl,z,O⟩:=hd;exact⟨v,r,rfl,Hm h d v z,LF h ds r O⟩
def VV(h: ∀b,ok b->ok' b/\hp' b=hp b): ∀(ds:List D) (vs:List Value),rdp ok hp ds vs->rdp ok' hp' ds vs
 |[],_,_=>by simp only[rdp]
 |d::ds,vs,hd=>by
  simp only[rdp] at hd⊢;obtain⟨v,r,rfl,z,O⟩:=hd;exact⟨v,r,rfl,Hm h d v z,VV h ds r O⟩
def ZV(h: ∀b,ok b->ok' b/\hp' b=hp b)(k:Nat): ∀(z:List (List D)) (vs:List Value),rdr ok hp k z vs->rdr ok' hp' k z vs
 |[],_,_=>by simp only[rdr]
 |r::z,vs,hd=>by
  simp only[rdr] at hd⊢;exact⟨hd.1,VV h r vs hd.2.1,ZV h k z _ hd.2.2⟩
def LD(h: ∀b,ok b->ok' b/\hp' b=hp b): ∀(ds:List (D×D)) (es:List MapEntry),CD ok hp ds es->CD ok' hp' ds es
 |[],_,hd=>by simpa only[CD] using hd
 |(x,y)::ds,es,hd=>by
  simp only[CD] at hd⊢;obtain⟨e,r,rfl,z,O,Q⟩:=hd;exact⟨e,r,rfl,Hm h x _ z,Hm h y _ O,LD h ds r Q⟩
end
end mono
def D.sc:D->Bool
 | .int _ _| .bool _| .str _| .nilp| .nilf| .nili| .nilc| .nilm=>true
 | .sl true _ []=>true
 |_=>false
def D.scs:D->Bool
 | .agg z| .tup z=>z.all D.sc
 |d=>d.sc
def DH{ok ok':Nat->Prop}{hp hp':Nat->Option Obj}: ∀{d:D} {v:Value},d.sc=true->rd ok hp d v->rd ok' hp' d v:=by
 intro d v h hd;cases d
 case sl nz k rows=>
  cases nz<;>cases rows<;>simp only[D.sc,Df] at h;simp only[rd] at hd⊢;rcases hd with hd|⟨b,p,cap,Q,T,O,_,z,_⟩
  .exact .inl hd
  .exact absurd rfl (z trivial)
 all_goals simp_all [D.sc,rd]
def U5{ok ok':Nat->Prop}{hp hp':Nat->Option Obj}: ∀(ds:List D) (vs:List Value),ds.all D.sc=true->rdl ok hp ds vs->rdl ok' hp' ds vs
 |[],_,_,hd=>by simpa only[rdl] using hd
 |d::ds,vs,h,hd=>by
  simp only[rdl,EZ,AY] at hd h⊢;obtain⟨v,r,rfl,z,O⟩:=hd;exact⟨v,r,rfl,DH h.1 z,U5 ds r h.2 O⟩
def WT{ok ok':Nat->Prop}{hp hp':Nat->Option Obj}: ∀{d:D} {v:Value},d.scs=true->rd ok hp d v->rd ok' hp' d v:=by
 intro d v h hd;cases d<;>simp only[D.scs] at h<;>try exact DH h hd
 all_goals
  simp only[rd] at hd⊢;obtain⟨O,rfl,z⟩:=hd;exact⟨O,rfl,U5 _ _ h z⟩
inductive AV where
 |any
 |im (d:D)
 |agg (cs:List AV)
 |tup (cs:List AV)
 |ptr (o off:Nat)
 |eptr (o i off:Nat)
 |own (o:Nat)
 |mp (o:Nat)
 |ch (o:Nat)
 |it (o:Nat)
 |osl (o a n:Nat)
 |clo (f:FuncId) (first capt:List AV)
 deriving Inhabited
inductive Ac where
 |cells (T:TypeId) (cs:List AV)
 |arr (T:TypeId) (k:Nat) (rows:List (List D))
 |arrA (T:TypeId) (k:Nat) (rows:List (List AV))
 |map (kt:KT) (es:List (D×D))
 |chan (q:List D) (cap:Nat)
 |iter (last:Option (D×D)) (left:List (D×D))
 |view (cs:List D)
def Ac.isView:Ac->Bool
 | .view _=>true
 | .cells _ _| .arr _ _ _| .arrA _ _ _| .map _ _| .chan _ _| .iter _ _=>false
abbrev Am:=Bool×Ac
abbrev An:=List (Nat×Am)
structure FS where
 b:Nat
 p:Nat
 cap:Nat
structure A7 where
 ρ:Nat->Option FS
 ok:Nat->Prop
 h:Nat->Option Am
 w:World
def A7.hp(S:A7):Nat->Option Obj:=λb=>S.w.heap[b]?
def Ac.len:Ac->Nat
 | .arr _ _ rows=>rows.length
 | .arrA _ _ rows=>rows.length
 |_=>0
def Ac.esz:Ac->Nat
 | .arr _ k _=>k
 | .arrA _ k _=>k
 |_=>0
def Qz(r:Option FS)(z len a n:Nat)(v:Value):Prop:=match r with
 |none=>v= .slice none 0 0/\n=0
 |some l=> ∃p O,v= .slice (some ⟨l.b,p,none⟩) n O/\n<=O/\(n≠0->p=l.p+a*z)/\a+n<=len
mutual
def Aa(S:A7):AV->Value->Prop
 | .any,_=>True
 | .im d,v=>rd S.ok S.hp d v
 | .agg O,v=> ∃z:Array Value,v= .agg z/\AO S O z.toList
 | .tup O,v=> ∃z:Array Value,v= .tuple z/\AO S O z.toList
 | .ptr o off,v=>v.oneCell'=true/\ ∀e,S.h o=some e-> ∃l,S.ρ o=some l/\v= .pointer (some ⟨l.b,l.p+off,none⟩)
 | .eptr o i off,v=>v.oneCell'=true/\ ∀e,S.h o=some e-> ∃l,S.ρ o=some l/\v= .pointer (some ⟨l.b,l.p+i*e.2.esz+off,none⟩)
 | .own o,v=>v.oneCell'=true/\ ∀e,S.h o=some e->match S.ρ o with
  |none=>v= .slice none 0 0
  |some l=>v= .slice (some ⟨l.b,l.p,none⟩) e.2.len l.cap
 | .mp o,v=>v.oneCell'=true/\ ∀e,S.h o=some e-> ∃l,S.ρ o=some l/\v= .map (some l.b)
 | .ch o,v=>v.oneCell'=true/\ ∀e,S.h o=some e-> ∃l,S.ρ o=some l/\v= .chan (some l.b)
 | .it o,v=>v.oneCell'=true/\ ∀e,S.h o=some e-> ∃l,S.ρ o=some l/\v= .pointer (some ⟨l.b,0,none⟩)
 | .osl o a n,v=>v.oneCell'=true/\ ∀e,S.h o=some e->Qz (S.ρ o) e.2.esz e.2.len a n v
 | .clo f first capt,v=> ∃a c:Array Value,v= .func (Yf f) a c/\AO S first a.toList/\AO S capt c.toList
def AO(S:A7):List AV->List Value->Prop
 |[],z=>z=[]
 |x::xs,z=> ∃v r,z=v::r/\Aa S x v/\AO S xs r
end
def Cz(S:A7):List AV->List Value->Prop
 |[],_=>True
 |x::xs,z=> ∃v r,z=v::r/\Aa S x v/\Cz S xs r
def BG(S:A7)(k:Nat):List (List AV)->List Value->Prop
 |[],_=>True
 |r::O,z=>r.length=k/\Cz S r z/\BG S k O (z.drop k)
def Tx(ok:Nat->Prop)(hp:Nat->Option Obj)(z:Array MapEntry)(O:Array Nat):Option (D×D)->Prop
 |none=>True
 |some (x,y)=> ∃st e,O.back? =some st/\z.find? (·.born==st)=some e/\rd ok hp x e.key/\rd ok hp y e.val
def Ao(S:A7)(l:Option FS):Ac->Prop
 | .cells T cs=> ∃Q Z,l=some Q/\Q.p=0/\S.hp Q.b=some (.cells Z T (0,0))/\AO S cs Z.toList
 | .arr T k rows=>rows.length<=JT/\match l with
  |none=>rows=[]
  |some Q=>rows.length<=Q.cap/\ ∃Z,S.hp Q.b=some (.cells Z T (0,0))/\Q.p+Q.cap*k<=Z.size/\rdr S.ok S.hp k rows (Z.toList.drop Q.p)
 | .arrA T k rows=>rows.length<=JT/\match l with
  |none=>rows=[]
  |some Q=>rows.length<=Q.cap/\ ∃Z,S.hp Q.b=some (.cells Z T (0,0))/\Q.p+Q.cap*k<=Z.size/\BG S k rows (Z.toList.drop Q.p)
 | .map kt es=> ∃Q z O,l=some Q/\(∀e∈es,kt.fit e.1=true)/\S.hp Q.b=some (.map z O)/\CD S.ok S.hp es z.toList/\
  (z.toList.map (·.born)).Nodup/\ ∀e∈z.toList,e.born<O
 | .chan q cap=> ∃Q ab af ad,l=some Q/\S.hp Q.b=some (.chan cap ab false af ad false)/\rdl S.ok S.hp q ab.toList
 | .iter ac left=> ∃Q mb z O aa,l=some Q/\S.ok mb/\Tx S.ok S.hp z aa ac/\S.hp mb=some (.map z O)/\
  S.hp Q.b=some (.mapIter (some mb) O aa O)/\(z.toList.map (·.born)).Nodup/\(∀e∈z.toList,e.born<O)/\
  CD S.ok S.hp left (z.toList.filter λe=> !aa.contains e.born)
 | .view cs=> ∃Q Z T fr,l=some Q/\S.hp Q.b=some (.cells Z T fr)/\rdp S.ok S.hp cs (Z.toList.drop Q.p)
structure Bb where
 w:World
 M:Nat->Prop
 ok:Nat->Prop
 n0:Nat
 h0:Nat->Option Am
 ρ0:Nat->Option FS
 ds:List Deferred
def Bb.mk0(w:World)(M ok:Nat->Prop):Bb:=⟨w,M,ok,0,λ_=>none,λ_=>none,[]⟩
def Bb.Pre(C:Bb)(S:A7):Prop:= ∀o,o<C.n0-> ∀e',S.h o=some e'-> ∃e,C.h0 o=some e/\S.ρ o=C.ρ0 o/\e'.2.esz=e.2.esz/\e'.2.len=e.2.len
structure Wf(C:Bb)(S:A7):Prop where
 os:S.w.os=C.w.os
 tape:S.w.tape=C.w.tape
 output:S.w.output=C.w.output
 dr:C.w.drawn<=S.w.drawn
 size:C.w.heap.size<=S.w.heap.size
 keep: ∀b,b<C.w.heap.size-> ¬C.M b->S.w.heap[b]? =C.w.heap[b]?
 ok0: ∀b,C.ok b->S.ok b
 ok1: ∀b,S.ok b->C.ok b\/C.w.heap.size<=b\/C.M b
 oks: ∀b,S.ok b->b<S.w.heap.size
 obj: ∀o e,S.h o=some e->Ao S (S.ρ o) e.2
 loc: ∀o e l,S.h o=some e->S.ρ o=some l->l.b<S.w.heap.size/\if e.1 then ¬S.ok l.b/\(C.w.heap.size<=l.b\/C.M l.b) else S.ok l.b\/e.2.isView=true
 inj: ∀o o' e e' l l',S.h o=some e->S.h o'=some e'->S.ρ o=some l->S.ρ o'=some l'->l.b=l'.b->(e.1||e'.1)=true->o=o'
 gl:GP (λb=>C.ok b/\ ¬C.M b) (λb=>C.w.heap[b]?)
def Wf.gp{C:Bb}{S:A7}(h:Wf C S):GP S.ok S.hp:=by
 refine h.gl.mono λb o O z=>⟨h.ok0 b O.1,?_⟩
 have Q:b<C.w.heap.size:=by
  apply Classical.byContradiction;intro hn
  have:C.w.heap[b]? =none:=XB (by omega)
  rw[this] at z;cases z
 exact (h.keep b Q O.2).trans z
def Wf.glN{C:Bb}{S:A7}(h:Wf C S){M:Nat->Prop}(O: ∀b,M b-> ¬S.ok b):GP (λb=>S.ok b/\ ¬M b) (λb=>S.w.heap[b]?):=
 h.gp.mono λb _ z Z=>⟨⟨z,λQ=>O b Q z⟩,Z⟩
mutual
def AV.bel(n:Nat):AV->Bool
 | .any=>true
 | .im _=>true
 | .agg z=>AA n z
 | .tup z=>AA n z
 | .ptr o _=>Nat.blt o n
 | .eptr o _ _=>Nat.blt o n
 | .own o=>Nat.blt o n
 | .mp o=>Nat.blt o n
 | .ch o=>Nat.blt o n
 | .it o=>Nat.blt o n
 | .osl o _ _=>Nat.blt o n
 | .clo _ a c=>AA n a && AA n c
def AA(n:Nat):List AV->Bool
 |[]=>true
 |x::r=>x.bel n && AA n r
end
mutual
def AV.nms:AV->List Nat
 | .any=>[]
 | .im _=>[]
 | .agg z=>Au z
 | .tup z=>Au z
 | .ptr o _=>[o]
 | .eptr o _ _=>[o]
 | .own o=>[o]
 | .mp o=>[o]
 | .ch o=>[o]
 | .it o=>[o]
 | .osl o _ _=>[o]
 | .clo _ a c=>Au a++Au c
def Au:List AV->List Nat
 |[]=>[]
 |x::r=>x.nms++Au r
end
def B8:List (List AV)->List Nat
 |[]=>[]
 |x::r=>Au x++B8 r
def Ac.nms:Ac->List Nat
 | .cells _ z=>Au z
 | .arr _ _ _=>[]
 | .arrA _ _ rows=>B8 rows
 | .map _ _=>[]
 | .chan _ _=>[]
 | .iter _ _=>[]
 | .view _=>[]
structure BP(X:Nat->Prop)(S S':A7):Prop where
 ok: ∀b,S.ok b->S'.ok b/\S'.hp b=S.hp b
 nm: ∀o,X o-> ∀e',S'.h o=some e'-> ∃e,S.h o=some e/\S'.ρ o=S.ρ o/\e'.2.esz=e.2.esz/\e'.2.len=e.2.len
def BP.refl(X:Nat->Prop)(S:A7):BP X S S:=⟨λ_ h=>⟨h,rfl⟩,λ_ _ e' h=>⟨e',h,rfl,rfl,rfl⟩⟩
section
variable {X:Nat->Prop}{S S':A7}
mutual
def Jg(hp:BP X S S'): ∀(x:AV) (v:Value),(∀o∈x.nms,X o)->Aa S x v->Aa S' x v
 | .any,_,_,_=>by simp only[Aa]
 | .im d,v,_,h=>by
   simp only[Aa] at h⊢;exact Hm hp.ok d v h
 | .agg cs,v,O,h=>by
   simp only[Aa,AV.nms] at h O⊢;obtain⟨vs,rfl,h1⟩:=h;exact⟨vs,rfl,VO hp cs _ O h1⟩
 | .tup cs,v,O,h=>by
   simp only[Aa,AV.nms] at h O⊢;obtain⟨vs,rfl,h1⟩:=h;exact⟨vs,rfl,VO hp cs _ O h1⟩
 | .ptr o off,v,O,h=>by
   simp only[Aa,AV.nms,BS,LU] at h O⊢;obtain⟨z,h⟩:=h;refine⟨z,?_⟩;intro e' Q;obtain⟨e,Z,hr,_,_⟩:=hp.nm o O e' Q;rw[hr];exact h e Z
 | .eptr o i off,v,O,h=>by
   simp only[Aa,AV.nms,BS,LU] at h O⊢;obtain⟨z,h⟩:=h;refine⟨z,?_⟩;intro e' Q;obtain⟨e,Z,hr,hz,_⟩:=hp.nm o O e' Q;rw[hr,hz];exact h e Z
 | .own o,v,O,h=>by
   simp only[Aa,AV.nms,BS,LU] at h O⊢;obtain⟨z,h⟩:=h;refine⟨z,?_⟩;intro e' Q;obtain⟨e,Z,hr,_,hl⟩:=hp.nm o O e' Q;rw[hr,hl];exact h e Z
 | .mp o,v,O,h=>by
   simp only[Aa,AV.nms,BS,LU] at h O⊢;obtain⟨z,h⟩:=h;refine⟨z,?_⟩;intro e' Q;obtain⟨e,Z,hr,_,_⟩:=hp.nm o O e' Q;rw[hr];exact h e Z
 | .ch o,v,O,h=>by
   simp only[Aa,AV.nms,BS,LU] at h O⊢;obtain⟨z,h⟩:=h;refine⟨z,?_⟩;intro e' Q;obtain⟨e,Z,hr,_,_⟩:=hp.nm o O e' Q;rw[hr];exact h e Z
 | .it o,v,O,h=>by
   simp only[Aa,AV.nms,BS,LU] at h O⊢;obtain⟨z,h⟩:=h;refine⟨z,?_⟩;intro e' Q;obtain⟨e,Z,hr,_,_⟩:=hp.nm o O e' Q;rw[hr];exact h e Z
 | .osl o a n,v,O,h=>by
   simp only[Aa,AV.nms,BS,LU] at h O⊢;obtain⟨z,h⟩:=h;refine⟨z,?_⟩;intro e' Q;obtain⟨e,Z,hr,hz,hl⟩:=hp.nm o O e' Q;rw[hr,hz,hl];exact h e Z
 | .clo f fi ca,v,O,h=>by
   simp only[Aa,AV.nms,B7] at h O⊢;obtain⟨a,c,rfl,h1,h2⟩:=h;exact⟨a,c,rfl,VO hp fi _ (λo ho=>O o (.inl ho)) h1,VO hp ca _ (λo ho=>O o (.inr ho)) h2⟩
def VO(hp:BP X S S'): ∀(xs:List AV) (vs:List Value),(∀o∈Au xs,X o)->AO S xs vs->AO S' xs vs
 |[],_,_,h=>by simpa only[AO] using h
 |x::xs,vs,O,h=>by
  simp only[AO,Au,B7] at h O⊢;obtain⟨v,r,rfl,Q,Z⟩:=h;exact⟨v,r,rfl,Jg hp x v (λo z=>O o (.inl z)) Q,VO hp xs r (λo z=>O o (.inr z)) Z⟩
end
def Qq7(hp:BP X S S'): ∀(xs:List AV) (vs:List Value),(∀o∈Au xs,X o)->Cz S xs vs->Cz S' xs vs
 |[],_,_,_=>by simp only[Cz]
 |x::xs,vs,O,h=>by
  simp only[Cz,Au,B7] at h O⊢;obtain⟨v,r,rfl,Q,Z⟩:=h;exact⟨v,r,rfl,Jg hp x v (λo z=>O o (.inl z)) Q,Qq7 hp xs r (λo z=>O o (.inr z)) Z⟩
def rY(hp:BP X S S')(k:Nat): ∀(z:List (List AV)) (vs:List Value),(∀o∈B8 z,X o)->BG S k z vs->BG S' k z vs
 |[],_,_,_=>by simp only[BG]
 |r::z,vs,Q,h=>by
  simp only[BG,B8,B7] at h Q⊢;exact⟨h.1,Qq7 hp r vs (λo O=>Q o (.inl O)) h.2.1,rY hp k z _ (λo O=>Q o (.inr O)) h.2.2⟩
def Qly{ok ok':Nat->Prop}{hp hp':Nat->Option Obj}(h: ∀b,ok b->ok' b/\hp' b=hp b){z:Array MapEntry}{O:Array Nat}: ∀(l:Option (D×D)),Tx ok hp z O l->Tx ok' hp' z O l
 |none,_=>trivial
 |some (x,y),Q=>by
  obtain⟨st,e,a,b,c,d⟩:=Q;exact⟨st,e,a,b,Hm h x _ c,Hm h y _ d⟩
def HF(hp:BP X S S'){l:Option FS}(hl: ∀z,l=some z->S'.hp z.b=S.hp z.b): ∀(e:Ac),(∀o∈e.nms,X o)->Ao S l e->Ao S' l e
 | .cells T cs,hx,h=>by
   simp only[Ao,Ac.nms] at h hx⊢;obtain⟨z,vs,O,Z,h3,h4⟩:=h;exact⟨z,vs,O,Z,(hl z O).trans h3,VO hp cs _ hx h4⟩
 | .arr T k rows,hx,h=>by
   simp only[Ao] at h⊢;refine⟨h.1,?_⟩;cases l with
   |none=>exact h.2
   |some z=>
    obtain⟨h0,O,vs,Z,h3,h4⟩:=h;exact⟨O,vs,(hl z rfl).trans Z,h3,ZV hp.ok k rows _ h4⟩
 | .arrA T k rows,hx,h=>by
   simp only[Ao,Ac.nms] at h hx⊢;refine⟨h.1,?_⟩;cases l with
   |none=>exact h.2
   |some z=>
    obtain⟨h0,O,vs,Z,h3,h4⟩:=h;exact⟨O,vs,(hl z rfl).trans Z,h3,rY hp k rows _ hx h4⟩
 | .map kt es,_,h=>by
   simp only[Ao] at h⊢;obtain⟨z,aa,Q,O,h0,Z,h3,h4⟩:=h;exact⟨z,aa,Q,O,h0,(hl z O).trans Z,LD hp.ok es _ h3,h4⟩
 | .chan q cap,_,h=>by
   simp only[Ao] at h⊢;obtain⟨z,ag,af,ac,O,Z,h3⟩:=h;exact⟨z,ag,af,ac,O,(hl z O).trans Z,LF hp.ok q _ h3⟩
 | .iter ab left,_,h=>by
   simp only[Ao] at h⊢;obtain⟨z,mb,aa,Q,ad,O,Z,h0,h3,h4,h5,h6,h7⟩:=h;exact⟨z,mb,aa,Q,ad,O,(hp.ok mb Z).1,Qly hp.ok ab h0,(hp.ok mb Z).2.trans h3,(hl z O).trans h4,h5,h6,LD hp.ok left _ h7⟩
 | .view cs,_,h=>by
   simp only[Ao] at h⊢;obtain⟨z,vs,T,fr,O,Z,h3⟩:=h;exact⟨z,vs,T,fr,O,(hl z O).trans Z,VV hp.ok cs _ h3⟩
end
inductive TK where
 |bool
 |str
 |ptr (e:TypeId)
 |int (k:IntKind)
 |slice (e:TypeId)
 |array (n:Nat) (e:TypeId)
 |struct (fs:List (Nat×Nat))
 |map (k e:TypeId)
 |other
structure TI where
 size:Nat
 bytes:Nat
 agg:Bool
 kind:TK
 zero:List D
def zD:Value->D
 | .bool b=> .bool b
 | .int k n=> .int k n
 | .string s=> .str s
 | .pointer none=> .nilp
 | .slice none _ _=> .sl true 0 []
 | .map none=> .nilm
 | .chan none=> .nilc
 | .nilFunc=> .nilf
 |_=> .nili
def cT:Value->Bool
 | .bool _| .int _ _| .string _| .pointer none| .slice none 0 0| .map none| .chan none| .nilFunc| .nilIface=>true
 |_=>false
def zOf:Bool->Option Value->List D
 |true,some (.agg z)=>bif z.toList.all cT then z.toList.map zD else []
 |false,some v=>bif cT v then [zD v] else []
 |_,_=>[]
def OL:TypeDesc->Bool
 | .struct _| .array _ _=>true
 |_=>false
def FI(P:Program):TypeDesc->TK
 | .int k=> .int k
 | .slice e=> .slice e
 | .array n e=> .array n e
 | .struct z=>bif z.toList.all (λf=>(P.info? f.type).isSome) then .struct (z.toList.map λf=>(f.offset,((P.info? f.type).map (·.size)).getD 0)) else .other
 | .map k e=> .map k e
 | .bool=> .bool
 | .string=> .str
 | .pointer e=> .ptr e
 |_=> .other
def tI(P:Program)(t:TypeId):Option TI:=
 match P.info? t,P.underlying t with
 |some i,some u=>some {size:=i.size,bytes:=i.bytes,agg:=OL u,kind:=FI P u,zero:=zOf (OL u) i.zero}
 |_,_=>none
structure B5 where
 use:List Nat:=[]
 kill:List Nat:=[]
 new:An:=[]
 cnt:Nat:=0
structure Az where
 tm:List (Nat×AV)
 h:An
 nx:Nat
def AE:List (Nat×AV)->Nat->AV
 |[],_=> .any
 |(m,x)::r,n=>bif m==n then x else AE r n
def hget:An->Nat->Option Am
 |[],_=>none
 |(m,e)::r,n=>bif m==n then some e else hget r n
def AW:An->List Nat->An
 |[],_=>[]
 |(m,e)::r,ks=>bif ks.contains m then AW r ks else (m,e)::AW r ks
def Az.put(s:Az)(dst:Option Nat)(x:AV):Az:=
 match dst with
 |some d=>⟨(d,x)::s.tm,s.h,s.nx⟩
 |none=>s
def Az.app(s:Az)(dst:Option Nat)(r:AV)(E:B5):Az:=
 (⟨s.tm,E.new++AW s.h E.kill,s.nx+E.cnt⟩:Az).put dst r
def kD:Value->AV
 | .bool b=> .im (.bool b)
 | .int k n=> .im (.int k n)
 | .string s=> .im (.str s)
 | .pointer none=> .im .nilp
 | .slice none 0 0=> .im (.sl true 0 [])
 | .map none=> .im .nilm
 | .chan none=> .im .nilc
 | .nilFunc=> .im .nilf
 | .nilIface=> .im .nili
 |_=> .any
def Ay(tm:List (Nat×AV)):Operand->AV
 | .tmp t=>AE tm t
 | .const v=>kD v
 | .global g=> .im (.gp g)
 | .func f=>bif Nat.blt f 1000000000 then .im (.fn f [] []) else .any
def D.cells:D->List D
 | .agg ds=>ds
 | .int k n=>[.int k n]
 | .bool b=>[.bool b]
 | .str s=>[.str s]
 | .nilp=>[.nilp]
 | .nilf=>[.nilf]
 | .nili=>[.nili]
 | .nilc=>[.nilc]
 | .nilm=>[.nilm]
 | .tup z=>[.tup z]
 | .sl Z k rows=>[.sl Z k rows]
 | .ref z=>[.ref z]
 | .mp Q O=>[.mp Q O]
 | .fn f a c=>[.fn f a c]
 | .ifc t d=>[.ifc t d]
 | .gp g=>[.gp g]
 | .tok g=>[.tok g]
def AV.cells:AV->List AV
 | .im d=>d.cells.map .im
 | .agg z=>z
 | .any=>[]
 | .tup z=>[.tup z]
 | .ptr o p=>[.ptr o p]
 | .eptr o i p=>[.eptr o i p]
 | .own o=>[.own o]
 | .mp o=>[.mp o]
 | .ch o=>[.ch o]
 | .it o=>[.it o]
 | .osl o a n=>[.osl o a n]
 | .clo f a c=>[.clo f a c]
def D.one:D->Bool
 | .agg _| .tup _=>false
 | .int _ _| .bool _| .str _| .nilp| .nilf| .nili| .nilc| .nilm| .sl _ _ _| .ref _| .mp _ _| .fn _ _ _| .ifc _ _| .gp _| .tok _=>true
def AV.one:AV->Bool
 | .im d=>d.one
 | .agg _| .any| .tup _=>false
 | .ptr _ _| .eptr _ _ _| .own _| .mp _| .ch _| .it _| .osl _ _ _| .clo _ _ _=>true
def R5:List AV->Bool
 |[]=>true
 |x::r=>x.one && R5 r
def AV.asD:AV->Option D
 | .im d=>some d
 | .agg _| .any| .tup _| .ptr _ _| .eptr _ _ _| .own _| .mp _| .ch _| .it _| .osl _ _ _| .clo _ _ _=>none
def O7:Option D->Option (List D)->Option (List D)
 |some d,some ds=>some (d::ds)
 |some _,none=>none
 |none,_=>none
def DA:List AV->Option (List D)
 |[]=>some []
 |x::r=>O7 x.asD (DA r)
def Y6(cs:List AV):Option (List D)->AV
 |some ds=> .im (.agg ds)
 |none=> .agg cs
def hdV:List AV->AV
 |[]=> .any
 |x::_=>x
def nM:List D->D
 |[]=> .nilp
 |x::_=>x
def iQ(agg:Bool)(cs:List AV):AV:=
 bif agg then Y6 cs (DA cs) else hdV cs
def cB(agg:Bool)(ds:List D):D:=bif agg then .agg ds else nM ds
def Ch{α:Type}(l:List α)(off:Nat)(x:List α):List α:=l.take off++x++l.drop (off+x.length)
abbrev Ah:=AV->B5->Prop
mutual
def D.beq:D->D->Bool
 | .int _ a,.int _ b=>a==b
 | .bool a,.bool b=>a==b
 | .str a,.str b=>a==b
 | .agg a,.agg b=>D.beql a b
 |_,_=>false
def D.beql:List D->List D->Bool
 |[],[]=>true
 |a::r,b::s=>D.beq a b && D.beql r s
 |_,_=>false
end
def lk:List (D×D)->D->Option D
 |[],_=>none
 |(k,v)::r,x=>bif D.beq x k then some v else lk r x
def EF:List (D×D)->D->D->List (D×D)
 |[],x,y=>[(x,y)]
 |(k,v)::r,x,y=>bif D.beq x k then (x,y)::r else (k,v)::EF r x y
def Mm:List (D×D)->D->List (D×D)
 |[],_=>[]
 |(k,v)::r,x=>bif D.beq x k then r else (k,v)::Mm r x
def aT(P:Program)(O:TypeId->Option KT):List Field->Nat->Option (List KK)
 |[],_=>some []
 |f::Q,off=>
  match O f.type,P.info? f.type with
  |some z,some i=>
   bif f.offset==off && (f.name != "_" && i.size==z.ks.length) then (aT P O Q (off+z.ks.length)).map (z.ks++ ·) else none
  |_,_=>none
def Ea(P:Program):Nat->TypeId->Option KT
 |0,_=>none
 |n+1,t=>
  match P.underlying t with
  |some (.int k)=>some ⟨false,[.int k]⟩
  |some .string=>some ⟨false,[.str]⟩
  |some .bool=>some ⟨false,[.bool]⟩
  |some (.struct z)=>bif P.stoodInHeld t then none else (aT P (Ea P n) z.toList 0).map (⟨true,·⟩)
  |_=>none
def BW(P:Program)(t:TypeId):Option KT:=Ea P 5 t
def JY{α:Type}(rows:List (List α))(i:Nat)(K:List α->Prop):Prop:= ∀row,rows[i]? =some row->K row
def IU(es:List (D×D))(kd:D)(Ks:D->Prop)(Kn:Prop):Prop:=(∀v,lk es kd=some v->Ks v)/\(lk es kd=none->Kn)
def fW(ti:TI)(off:Nat)(E:B5)(K:Ah)(row:List D):Prop:=(ti.agg=true\/ti.size=1)/\off+ti.size<=row.length/\K (.im (cB ti.agg ((row.drop off).take ti.size))) E
def uP(ti:TI)(off:Nat)(E:B5)(K:Ah)(row:List AV):Prop:=(ti.agg=true\/ti.size=1)/\off+ti.size<=row.length/\K (iQ ti.agg ((row.drop off).take ti.size)) E
def J6(ti:TI)(o off:Nat)(K:Ah):Option Am->Prop
 |some (_,.cells _ z)=>uP ti off {use:=[o]} K z
 |some (_,.view z)=>fW ti off {use:=[o]} K z
 |_=>False
def J5(ti:TI)(o i off:Nat)(K:Ah):Option Am->Prop
 |some (_,.arr _ _ rows)=>i<rows.length/\JY rows i (fW ti off {use:=[o]} K)
 |some (_,.arrA _ _ rows)=>i<rows.length/\JY rows i (uP ti off {use:=[o]} K)
 |_=>False
def X0(h:Nat->Option Am)(ti:TI)(K:Ah):AV->Prop
 | .im (.ref z)=>fW ti 0 {} K z
 | .im (.gp g)=>isG g=true/\ti.size=1/\ti.agg=false/\K (.im (.tok g)) {}
 | .ptr o off=>J6 ti o off K (h o)
 | .eptr o i off=>J5 ti o i off K (h o)
 |_=>False
def Yx(o i off k z:Nat)(T:TypeId)(rows:List (List D))(K:Ah)(row:List D):Option (List D)->Prop
 |some ds=>off+z<=row.length/\K .any {use:=[o],kill:=[o],new:=[(o,(true,.arr T k (rows.set i (Ch row off ds))))]}
 |none=>False
def Qxz(o i off k z:Nat)(T:TypeId)(rows:List (List D))(ds:Option (List D))(K:Ah)(row:List D):Prop:=Yx o i off k z T rows K row ds
def Qyo(o i off k z:Nat)(T:TypeId)(rows:List (List AV))(vs:List AV)(K:Ah)(row:List AV):Prop:=
 off+z<=row.length/\K .any {use:=[o],kill:=[o],new:=[(o,(true,.arrA T k (rows.set i (Ch row off vs))))]}
def Vd(ti:TI)(o off:Nat)(vs:List AV)(K:Ah):Option Am->Prop
 |some (true,.cells T z)=>off+ti.size<=z.length/\K .any {use:=[o],kill:=[o],new:=[(o,(true,.cells T (Ch z off vs)))]}
 |_=>False
def JJ(ti:TI)(o i off:Nat)(vs:List AV)(K:Ah):Option Am->Prop
 |some (true,.arr T k rows)=>i<rows.length/\JY rows i (Qxz o i off k ti.size T rows (DA vs) K)
 |some (true,.arrA T k rows)=>i<rows.length/\JY rows i (Qyo o i off k ti.size T rows vs K)
 |_=>False
def sB(h:Nat->Option Am)(ti:TI)(vs:List AV)(K:Ah):AV->Prop
 | .ptr o off=>Vd ti o off vs K (h o)
 | .eptr o i off=>JJ ti o i off vs K (h o)
 |_=>False
def Qri(h:Nat->Option Am)(x v:AV)(K:Ah)(ti:TI):Prop:=
 ti.size≠0/\v.cells.length=ti.size/\R5 v.cells=true/\sB h ti v.cells K x
def RO(o:Nat)(x:AV)(K:Ah):Option Am->Prop
 |some _=>K x {use:=[o]}
 |none=>False
def Li(h:Nat->Option Am)(off:Nat)(K:Ah):AV->Prop
 | .im (.ref z)=>off<=z.length/\K (.im (.ref (z.drop off))) {}
 | .ptr o p=>RO o (.ptr o (p+off)) K (h o)
 | .eptr o i p=>RO o (.eptr o i (p+off)) K (h o)
 |_=>False
def Yc(h:Nat->Option Am)(x:AV)(K:Ah):Option (Nat×Nat)->Prop
 |some (off,z)=>z≠0/\Li h off K x
 |none=>False
def faK(h:Nat->Option Am)(x:AV)(f:Nat)(K:Ah):TK->Prop
 | .struct z=>Yc h x K z[f]?
 |_=>False
def yO(h:Nat->Option Am)(x:AV)(f:Nat)(K:Ah)(ti:TI):Prop:=faK h x f K ti.kind
def wV(K:Ah)(row:List D):Prop:=K (.im (.ref row)) {}
def M5(o:Nat)(n:Int)(K:Ah)(z:TI):Option Am->Prop
 |some (_,.arr _ k rows)=>k=z.size/\0<=n/\n<(rows.length:Int)/\K (.eptr o n.toNat 0) {use:=[o]}
 |some (_,.arrA _ k rows)=>k=z.size/\0<=n/\n<(rows.length:Int)/\K (.eptr o n.toNat 0) {use:=[o]}
 |_=>False
def Th(o a m:Nat)(n:Int)(K:Ah)(z:TI):Option Am->Prop
 |some (_,.arr _ k rows)=>k=z.size/\0<=n/\n<(m:Int)/\a+m<=rows.length/\K (.eptr o (a+n.toNat) 0) {use:=[o]}
 |_=>False
def Tg(h:Nat->Option Am)(n:Int)(K:Ah)(x:AV)(z:TI):Prop:=
 match x with
 | .im (.sl _ k rows)=>k=z.size/\0<=n/\n<(rows.length:Int)/\JY rows n.toNat (wV K)
 | .own o=>M5 o n K z (h o)
 | .osl o a m=>Th o a m n K z (h o)
 |_=>False
def M4(h:Nat->Option Am)(m:Nat)(n:Int)(K:Ah)(x:AV)(z:TI):Prop:=
 match x with
 | .ptr o p=>0<=n/\n<(m:Int)/\RO o (.ptr o (p+n.toNat*z.size)) K (h o)
 | .im (.ref O)=>0<=n/\n<(m:Int)/\n.toNat*z.size<=O.length/\K (.im (.ref (O.drop (n.toNat*z.size)))) {}
 |_=>False
def Bn(f:TI->Prop):Option TI->Prop
 |some ti=>f ti
 |none=>False
def wQ(P:Program)(h:Nat->Option Am)(x:AV)(n:Int)(K:Ah):TK->Prop
 | .slice e=>Bn (Tg h n K x) (tI P e)
 | .array m e=>Bn (M4 h m n K x) (tI P e)
 |_=>False
def Qjp(P:Program)(h:Nat->Option Am)(x:AV)(ti:TI)(K:Ah):AV->Prop
 | .im (.int _ n)=>wQ P h x n K ti.kind
 |_=>False
def Tt(m:Nat)(n:Int)(cs:List D)(K:Ah)(z:TI):Prop:=
 (z.agg=true\/z.size=1)/\0<=n/\n<(m:Int)/\n.toNat*z.size+z.size<=cs.length/\K (.im (cB z.agg ((cs.drop (n.toNat*z.size)).take z.size))) {}
def cU(s:ByteArray)(i:Nat)(K:UInt8->Prop):Prop:= ∀c,s.data[i]? =some c->K c
def kCh(K:Ah)(c:UInt8):Prop:=K (.im (.int .u8 c.toNat)) {}
def ixK(P:Program)(n:Int)(K:Ah):TK->AV->Prop
 | .array m e,.im (.agg z)=>Bn (Tt m n z K) (tI P e)
 | .str,.im (.str s)=>0<=n/\n<(s.size:Int)/\cU s n.toNat (kCh K)
 |_,_=>False
def Qxc(P:Program)(x:AV)(ti:TI)(K:Ah):AV->Prop
 | .im (.int _ n)=>ixK P n K ti.kind x
 |_=>False
def Hj:BinOp->Nat
 | .shr=>1
 | .shl=>2
 | .add| .sub| .mul| .quo| .rem| .and| .or| .xor| .andNot| .eql| .neq| .lss| .leq| .gtr| .geq=>0
def XD(k:IntKind)(a b:Int):Int:=k.wrap ((BitVec.ofInt k.bits a &&& BitVec.ofInt k.bits b).toNat:Int)
def orI(k:IntKind)(a b:Int):Int:=k.wrap ((BitVec.ofInt k.bits a|||BitVec.ofInt k.bits b).toNat:Int)
def xW(k:IntKind)(a b:Int):Int:=k.wrap ((BitVec.ofInt k.bits a^^^BitVec.ofInt k.bits b).toNat:Int)
def Jk(op:BinOp)(k:IntKind)(a b:Int)(K:Ah):Prop:=
 match op with
 | .add=>K (.im (.int k (k.wrap (a+b)))) {}
 | .sub=>K (.im (.int k (k.wrap (a - b)))) {}
 | .mul=>K (.im (.int k (k.wrap (a*b)))) {}
 | .quo=>b≠0/\K (.im (.int k (k.wrap (a.tdiv b)))) {}
 | .rem=>b≠0/\K (.im (.int k (a.tmod b))) {}
 | .eql=>K (.im (.bool (decide (a=b)))) {}
 | .neq=>K (.im (.bool (!decide (a=b)))) {}
 | .lss=>K (.im (.bool (decide (a<b)))) {}
 | .leq=>K (.im (.bool (decide (a<=b)))) {}
 | .gtr=>K (.im (.bool (decide (b<a)))) {}
 | .geq=>K (.im (.bool (decide (b<=a)))) {}
 | .and=>K (.im (.int k (XD k a b))) {}
 | .or=>K (.im (.int k (orI k a b))) {}
 | .xor=>K (.im (.int k (xW k a b))) {}
 |_=>False
def bP(neg:Bool)(K:Ah)(b:Bool):Prop:=K (.im (.bool (neg !=b))) {}
def SE(neg:Bool)(K:Ah):AV->Prop
 | .im (.sl true _ rows)=>bP neg K rows.isEmpty
 |_=>False
def uF(h:Nat->Option Am)(neg:Bool)(K:Ah):AV->Prop
 | .im .nilp=>bP neg K true
 | .im (.ref _)=>bP neg K false
 | .ptr o _=>RO o (.im (.bool neg)) K (h o)
 | .eptr o _ _=>RO o (.im (.bool neg)) K (h o)
 |_=>False
def W7(h:Nat->Option Am)(neg:Bool)(K:Ah):AV->Prop
 | .im .nilm=>bP neg K true
 | .im (.mp _ _)=>bP neg K false
 | .mp o=>RO o (.im (.bool neg)) K (h o)
 |_=>False
def Xu(h:Nat->Option Am)(neg:Bool)(K:Ah)(x:AV):Nat->TK->Prop
 |0,.slice _=>SE neg K x
 |1,.ptr _=>uF h neg K x
 |2,.map _ _=>W7 h neg K x
 |_,_=>False
def Om(op:BinOp)(a b:ByteArray)(K:Ah):Prop:=
 match op with
 | .eql=>K (.im (.bool (decide (a=b)))) {}
 | .neq=>K (.im (.bool (!decide (a=b)))) {}
 | .add=>a.size+b.size<=9223372036854775807/\K (.im (.str (a++b))) {}
 |_=>False
def JM(op:BinOp)(a b:Bool)(K:Ah):Prop:=
 match op with
 | .eql=>K (.im (.bool (a==b))) {}
 | .neq=>K (.im (.bool (a !=b))) {}
 |_=>False
def N5(op:BinOp)(a b:Bool)(K:Ah):Option TI->Prop
 |some ti=>ti.kind= .bool/\JM op a b K
 |none=>False
def tQ(op:BinOp)(a b:List D)(K:Ah):Prop:=
 match op with
 | .eql=>K (.im (.bool (D.beql a b))) {}
 | .neq=>K (.im (.bool (!D.beql a b))) {}
 |_=>False
def tM(P:Program)(T:TypeId)(op:BinOp)(a b:List D)(K:Ah):Option KT->Prop
 |some z=>z.fit (.agg a)=true/\z.fit (.agg b)=true/\P.eqGuardType P.depth T=false/\tQ op a b K
 |none=>False
def aJ(op:BinOp)(k:IntKind)(a:Int)(k':IntKind)(b:Int)(K:Ah):Nat->Prop
 |0=>k=k'/\Jk op k a b K
 |1=>0<=b/\K (.im (.int k (a.fdiv (2^min b.toNat k.bits)))) {}
 |_+2=>0<=b/\K (.im (.int k (k.wrap (a*2^min b.toNat k.bits)))) {}
def gB(P:Program)(T:TypeId)(op:BinOp)(K:Ah):AV->AV->Prop
 | .im (.int k a),.im (.int k' b)=>aJ op k a k' b K (Hj op)
 | .im (.str a),.im (.str b)=>Om op a b K
 | .im (.bool a),.im (.bool b)=>N5 op a b K (tI P T)
 | .im (.agg a),.im (.agg b)=>tM P T op a b K (BW P T)
 |_,_=>False
def Zu(K:Ah):UnOp->AV->Prop
 | .not,.im (.bool b)=>K (.im (.bool (!b))) {}
 | .neg,.im (.int k n)=>K (.im (.int k (k.wrap (-n)))) {}
 |_,_=>False
def aQ(cells:List AV)(vs:List AV):Option (Nat×Nat)->Option (List AV)
 |none=>none
 |some (off,size)=>bif vs.length==size && (Nat.blt 0 size && Nat.ble (off+size) cells.length) then some (Ch cells off vs) else none
def Ij(place:Nat->Option (Nat×Nat)):List (Nat×AV)->Option (List AV)->Option (List AV)
 |[],r=>r
 |_::_,none=>none
 |(i,v)::z,some cells=>Ij place z (aQ cells v.cells (place i))
def JF(k i:Nat):Option (Nat×Nat):=some (i*k,k)
def Nd(z:List (Nat×Nat))(i:Nat):Option (Nat×Nat):=z[i]?
def Of(K:Ah):Option (List AV)->Prop
 |some z=>K (iQ true z) {}
 |none=>False
def RV(Q:List AV)(z:List (Nat×AV))(K:Ah)(O:TI):Prop:=Of K (Ij (JF O.size) z (some Q))
def vX(P:Program)(O:List AV)(z:List (Nat×AV))(K:Ah):TK->Prop
 | .struct Q=>Of K (Ij (Nd Q) z (some O))
 | .array _ e=>Bn (RV O z K) (tI P e)
 |_=>False
def Qsy(P:Program)(z:List (Nat×AV))(K:Ah)(ti:TI):Prop:=ti.zero.length=ti.size/\ti.size≠0/\vX P (ti.zero.map .im) z K ti.kind
def IH{α:Type}(k:Nat):Nat->List α->List (List α)
 |0,_=>[]
 |n+1,l=>l.take k::IH k n (l.drop k)
def Cl{α:Type}:Nat->List α->List α
 |0,_=>[]
 |n+1,z=>z++Cl n z
def Ju(nx len e k:Nat)(cs:List AV)(K:Ah):Option (List D)->Prop
 |some ds=>K (.own nx) {new:=[(nx,(true,.arr e k (IH k len ds)))],cnt:=1}
 |none=>K (.own nx) {new:=[(nx,(true,.arrA e k (IH k len cs)))],cnt:=1}
def Me(nx len e k:Nat)(K:Ah):Option (List AV)->Prop
 |some z=>Ju nx len e k z K (DA z)
 |none=>False
def bsE(nx len e:Nat)(z:List (Nat×AV))(K:Ah)(O:TI):Prop:=
 O.zero.length=O.size/\O.size≠0/\len*O.size<=16777216/\Me nx len e O.size K (Ij (JF O.size) z (some (Cl len (O.zero.map .im))))
def bsK(P:Program)(nx len:Nat)(z:List (Nat×AV))(K:Ah):TK->Prop
 | .slice e=>Bn (bsE nx len e z K) (tI P e)
 |_=>False
def yG(P:Program)(nx len:Nat)(z:List (Nat×AV))(K:Ah)(ti:TI):Prop:=bsK P nx len z K ti.kind
def msE(nx e:Nat)(n m:Int)(K:Ah)(z:TI):Prop:=
 z.size≠0/\0<=n/\n<=m/\m<=1073741824/\z.bytes<=65536/\z.zero.length=z.size/\
  K (.own nx) {new:=[(nx,(true,.arr e z.size (List.replicate n.toNat z.zero)))],cnt:=1}
def msK(P:Program)(nx:Nat)(K:Ah):TK->AV->AV->Prop
 | .slice e,.im (.int .i64 n),.im (.int .i64 m)=>Bn (msE nx e n m K) (tI P e)
 |_,_,_=>False
def yP(P:Program)(nx:Nat)(l c:AV)(K:Ah)(ti:TI):Prop:=msK P nx K ti.kind l c
inductive Src where
 |d (u:List Nat) (k:Nat) (rows:List (List D))
 |a (u:List Nat) (k:Nat) (rows:List (List AV))
 |no
def aM(o:Nat):Option Am->Src
 |some (_,.arr _ k rows)=> .d [o] k rows
 |some (_,.arrA _ k rows)=> .a [o] k rows
 |_=> .no
def JO(s:ByteArray):List (List D):=s.data.toList.map λb=>[.int .u8 b.toNat]
def De(h:Nat->Option Am):AV->Src
 | .im (.sl _ k rows)=> .d [] k rows
 | .im (.str s)=> .d [] 1 (JO s)
 | .own o=>aM o (h o)
 |_=> .no
def Bo(rows:List (List D)):List (List AV):=rows.map λr=>r.map .im
def Bm:List D->Bool
 |[]=>true
 |x::r=>x.one && Bm r
def Bj{α:Type}(f:List α->Bool)(rows:List (List α)):Prop:= ∀row∈rows,f row=true
def Src.okOne:Src->Prop
 | .d _ _ rows=>Bj Bm rows
 | .a _ _ rows=>Bj R5 rows
 | .no=>False
def Oc(nx e:Nat)(z:TI)(K:Ah):Src->Prop
 | .d u k rows=>(k=z.size\/rows=[])/\(rows.length+512)*z.bytes<=140737488355328/\K (.own nx) {use:=u,new:=[(nx,(true,.arr e z.size rows))],cnt:=1}
 | .a u k rows=>k=z.size/\(rows.length+512)*z.bytes<=140737488355328/\K (.own nx) {use:=u,kill:=u,new:=[(nx,(true,.arrA e z.size rows))],cnt:=1}
 | .no=>False
def nG(nx e o:Nat)(z:TI)(rows0:List (List D))(K:Ah):Src->Prop
 | .d u k rows=>(k=z.size\/rows=[])/\u≠[o]/\(rows0.length+rows.length+512)*z.bytes<=140737488355328/\
  K (.own nx) {use:=o::u,kill:=[o],new:=[(nx,(true,.arr e z.size (rows0++rows)))],cnt:=1}
 | .a u k rows=>k=z.size/\u≠[o]/\(rows0.length+rows.length+512)*z.bytes<=140737488355328/\
  K (.own nx) {use:=o::u,kill:=o::u,new:=[(nx,(true,.arrA e z.size (Bo rows0++rows)))],cnt:=1}
 | .no=>False
def nE(nx e o:Nat)(z:TI)(rows0:List (List AV))(K:Ah):Src->Prop
 | .d u k rows=>(k=z.size\/rows=[])/\u≠[o]/\(rows0.length+rows.length+512)*z.bytes<=140737488355328/\
  K (.own nx) {use:=o::u,kill:=[o],new:=[(nx,(true,.arrA e z.size (rows0++Bo rows)))],cnt:=1}
 | .a u k rows=>k=z.size/\u≠[o]/\(rows0.length+rows.length+512)*z.bytes<=140737488355328/\
  K (.own nx) {use:=o::u,kill:=o::u,new:=[(nx,(true,.arrA e z.size (rows0++rows)))],cnt:=1}
 | .no=>False
def Js(nx e o:Nat)(O:TI)(src:Src)(K:Ah):Option Am->Prop
 |some (true,.arr T k z)=>T=e/\k=O.size/\nG nx e o O z K src
 |some (true,.arrA T k z)=>T=e/\k=O.size/\nE nx e o O z K src
 |_=>False
def RQ(h:Nat->Option Am)(nx e:Nat)(z:TI)(src:Src)(K:Ah):AV->Prop
 | .im (.sl true _ [])=>Oc nx e z K src
 | .own o=>Js nx e o z src K (h o)
 |_=>False
def apE(h:Nat->Option Am)(nx e:Nat)(s:AV)(src:Src)(K:Ah)(z:TI):Prop:=
 z.size≠0/\z.zero.length=z.size/\z.bytes≠0/\src.okOne/\RQ h nx e z src K s
def apK(P:Program)(h:Nat->Option Am)(nx:Nat)(s:AV)(src:Src)(K:Ah):TK->Prop
 | .slice e=>Bn (apE h nx e s src K) (tI P e)
 |_=>False
def Qsl(P:Program)(h:Nat->Option Am)(nx:Nat)(s x:AV)(K:Ah)(ti:TI):Prop:=apK P h nx s (De h x) K ti.kind
def Gh(K:Ah)(E:B5)(n:Nat):Prop:=K (.im (.int .i64 n)) E
def Qxr(z:Bool)(o:Nat)(K:Ah):Option Am->Prop
 |some (_,.arr _ _ rows)=>(z=true->rows.length<=140737488355328)->Gh K {use:=[o]} rows.length
 |some (_,.arrA _ _ rows)=>(z=true->rows.length<=140737488355328)->Gh K {use:=[o]} rows.length
 |_=>False
def MF(o:Nat)(K:Ah):Option Am->Prop
 |some (_,.map _ z)=>Gh K {use:=[o]} z.length
 |_=>False
def iO(o n:Nat)(K:Ah):Option Am->Prop
 |some _=>Gh K {use:=[o]} n
 |none=>False
def gA(z:Bool)(h:Nat->Option Am)(K:Ah):AV->Prop
 | .osl o _ n=>iO o n K (h o)
 | .im (.sl _ _ rows)=>(z=true->rows.length<=140737488355328)->Gh K {} rows.length
 | .own o=>Qxr z o K (h o)
 |_=>False
def Ty(K:Ah):AV->Prop
 | .im (.str s)=>Gh K {} s.size
 |_=>False
def uL(h:Nat->Option Am)(K:Ah):AV->Prop
 | .im (.mp _ z)=>Gh K {} z.length
 | .im .nilm=>Gh K {} 0
 | .mp o=>MF o K (h o)
 |_=>False
def FE(z:Bool)(h:Nat->Option Am)(K:Ah)(x:AV):TK->Prop
 | .slice _=>gA z h K x
 | .str=>Ty K x
 | .map _ _=>uL h K x
 | .bool| .ptr _| .int _| .array _ _| .struct _| .other=>False
def gH(z:Bool)(h:Nat->Option Am)(x:AV)(K:Ah)(ti:TI):Prop:=FE z h K x ti.kind
def Qy3(ok:Bool)(E:B5)(K:Ah)(v:D):Prop:=K (bif ok then .tup [.im v,.im (.bool true)] else .im v) E
def J3(z:TI)(ok:Bool)(E:B5)(K:Ah):Prop:=z.zero.length=z.size/\(z.agg=true\/z.size=1)/\z.size≠0/\K (bif ok then .tup [.im (cB z.agg z.zero),.im (.bool false)] else .im (cB z.agg z.zero)) E
def T6(o:Nat)(Q:KT)(kd:D)(ok:Bool)(Z:TI)(K:Ah):Option Am->Prop
 |some (_,.map z O)=>z=Q/\IU O kd (Qy3 ok {use:=[o]} K) (J3 Z ok {use:=[o]} K)
 |_=>False
def gJ(h:Nat->Option Am)(Q:KT)(kd:D)(ok:Bool)(O:TI)(K:Ah):AV->Prop
 | .im (.mp z Z)=>z=Q/\IU Z kd (Qy3 ok {} K) (J3 O ok {} K)
 | .im .nilm=>J3 O ok {} K
 | .mp o=>T6 o Q kd ok O K (h o)
 |_=>False
def Y3(h:Nat->Option Am)(m:AV)(kd:D)(ok:Bool)(K:Ah)(O:TI):Option KT->Prop
 |some z=>z.fit kd=true/\gJ h z kd ok O K m
 |none=>False
def luE(P:Program)(h:Nat->Option Am)(m:AV)(kd:D)(ok:Bool)(K:Ah)(k:TypeId)(z:TI):Prop:=Y3 h m kd ok K z (BW P k)
def luK(P:Program)(h:Nat->Option Am)(m:AV)(ok:Bool)(K:Ah):TK->AV->Prop
 | .map k e,.im z=>Bn (luE P h m z ok K k) (tI P e)
 |_,_=>False
def Qnn(P:Program)(h:Nat->Option Am)(m k:AV)(ok:Bool)(K:Ah)(ti:TI):Prop:=luK P h m ok K ti.kind k
def TJ(o:Nat)(z:KT)(kd Z:D)(K:Ah):Option Am->Prop
 |some (true,.map O Q)=>O=z/\z.fit kd=true/\K .any {use:=[o],kill:=[o],new:=[(o,(true,.map z (EF Q kd Z)))]}
 |_=>False
def TH(h:Nat->Option Am)(o:Nat)(kd O:D)(K:Ah):Option KT->Prop
 |some z=>TJ o z kd O K (h o)
 |none=>False
def Lo(P:Program)(h:Nat->Option Am)(o:Nat)(kd z:D)(K:Ah):TK->Prop
 | .map k _=>TH h o kd z K (BW P k)
 | .bool| .str| .ptr _| .int _| .array _ _| .struct _| .slice _| .other=>False
def muF(n:Nat)(e:Ac)(K:Ah)(r:AV)(E:B5):Prop:=E.kill.contains n=false/\K r {use:=n::E.use,kill:=n::E.kill,new:=E.new++[(n,(false,e))],cnt:=E.cnt}
def TL(P:Program)(h:Nat->Option Am)(o n:Nat)(kd:D)(K:Ah)(z:TK):Option Am->Prop
 |some (_,.arr T k rows)=>(o==n)=false/\Lo P h o kd (.sl false k rows) (muF n (.arr T k rows) K) z
 |_=>False
def lG(P:Program)(h:Nat->Option Am)(K:Ah)(m k v:AV)(ti:TI):Prop:=
 match m,k,v with
 | .mp o,.im z,.im O=>Lo P h o z O K ti.kind
 | .mp o,.im z,.own n=>TL P h o n z K ti.kind (h n)
 |_,_,_=>False
def Sz(o:Nat)(z:KT)(kd:D)(K:Ah):Option Am->Prop
 |some (true,.map O Q)=>O=z/\z.fit kd=true/\K .any {use:=[o],kill:=[o],new:=[(o,(true,.map z (Mm Q kd)))]}
 |_=>False
def XR(h:Nat->Option Am)(o:Nat)(kd:D)(K:Ah):Option KT->Prop
 |some z=>Sz o z kd K (h o)
 |none=>False
def Sy(P:Program)(h:Nat->Option Am)(o:Nat)(kd:D)(K:Ah):TK->Prop
 | .map k _=>XR h o kd K (BW P k)
 | .bool| .str| .ptr _| .int _| .array _ _| .struct _| .slice _| .other=>False
def Qni(P:Program)(h:Nat->Option Am)(K:Ah)(m k:AV)(ti:TI):Prop:=
 match m,k with
 | .mp o,.im z=>Sy P h o z K ti.kind
 |_,_=>False
def exA(K:Ah):Option AV->Prop
 |some c=>K c {}
 |none=>False
def exD(K:Ah):Option D->Prop
 |some d=>K (.im d) {}
 |none=>False
def lI(i:Nat)(K:Ah):AV->Prop
 | .tup z=>exA K z[i]?
 | .im (.tup ds)=>exD K ds[i]?
 |_=>False
def lJ(h:Nat->Option Am)(K:Ah):AV->Prop
 | .im (.ref z)=>K (.im (.ref z)) {}
 | .im (.ifc t d)=>K (.im (.ifc t d)) {}
 | .ptr o p=>RO o (.ptr o p) K (h o)
 | .eptr o i p=>RO o (.eptr o i p) K (h o)
 |_=>False
abbrev Dn:=FuncId->List AV->(Nat->Option Am)->Nat->Ah->Prop
def Re(V:Dn)(args:List AV)(h:Nat->Option Am)(nx:Nat)(K:Ah):AV->Prop
 | .im (.fn g first capt)=>V g ((first.map .im)++args++(capt.map .im)) h nx K
 | .clo g first capt=>V g (first++args++capt) h nx K
 |_=>False
def QV:Option TI->Option TK
 |some ti=>some ti.kind
 |none=>none
def Qjk(nx e:Nat)(K:Ah)(z:TI):Prop:=K (.own nx) {new:=[(nx,(true,.arr e z.size []))],cnt:=1}
def Qg6(P:Program)(nx:Nat)(K:Ah):Option TK->Prop
 |some (.slice e)=>Bn (Qjk nx e K) (tI P e)
 |_=>False
def Rw:Value->Bool
 | .slice none 0 0=>true
 |_=>false
def Xo:Operand->Bool
 | .const v=>Rw v
 | .tmp _| .global _| .func _=>false
def zF(P:Program)(nx:Nat)(T:TypeId)(v:AV)(K:Ah):Bool->Prop
 |true=>Qg6 P nx K (QV (tI P T))
 |false=>K v {}
def zU(P:Program)(tm:List (Nat×AV))(nx:Nat)(T:TypeId)(K:Ah)(x:Operand):Prop:=zF P nx T (Ay tm x) K (Xo x && !(T==236))
def Nb(c:Bool)(K:Ah)(a b:AV):Prop:=(c=true->K a {})/\(c=false->K b {})
def Qzp(a b:AV)(K:Ah):AV->Prop
 | .im (.bool c)=>Nb c K a b
 |_=>False
def Qsv(nx T:Nat)(K:Ah)(ti:TI):Prop:=ti.zero.length=ti.size/\ti.size≠0/\K (.ptr nx 0) {new:=[(nx,(true,.cells T (ti.zero.map .im)))],cnt:=1}
def Vt(nx T:Nat)(K:Ah)(cs:List AV):Prop:=cs≠[]/\K (.ptr nx 0) {new:=[(nx,(true,.cells T cs))],cnt:=1}
def Gj:Value->Nat
 | .slice none 0 0=>1
 | .pointer none=>2
 | .map none=>3
 | .nilIface=>4
 |_=>0
def FG:Operand->Nat
 | .const v=>Gj v
 | .tmp _| .global _| .func _=>0
def lZ(h:Nat->Option Am)(op:BinOp)(x:AV)(K:Ah)(n:Nat)(ti:TI):Prop:=
 match op with
 | .eql=>Xu h false K x n ti.kind
 | .neq=>Xu h true K x n ti.kind
 |_=>False
def Tk(P:Program)(T:TypeId):Bool:=match P.underlying T with
 |some (.interface _)=>true
 |_=>false
def bU(P:Program)(T:TypeId):Bool:=match P.underlying T with
 |some (.interface _)=>false
 |some _=>true
 |none=>false
def cA(P:Program)(t:TypeId)(name:String):Option FuncId:=
 match P.info? t with
 |some i=>match i.methods.find? (·.name==name) with
  |some m=>bif m.path.isEmpty then (match m.func with
   |some (f,false)=>some f
   |_=>none) else none
  |none=>none
 |none=>none
def WM(P:Program)(t:TypeId)(name:String):Option FuncId:=
 match P.underlying t with
 |some (.pointer _)=>none
 |some _=>cA P t name
 |none=>none
def Rg(neg:Bool)(K:Ah):AV->Prop
 | .im .nili=>bP neg K true
 | .im (.ifc _ _)=>bP neg K false
 |_=>False
def WO(P:Program)(T:TypeId)(op:BinOp)(x:AV)(K:Ah):Prop:=
 Tk P T=true/\match op with
 | .eql=>Rg false K x
 | .neq=>Rg true K x
 |_=>False
def Vu(P:Program)(T:TypeId)(K:Ah):AV->Prop
 | .im d=>bU P T=true/\K (.im (.ifc T d)) {}
 |_=>False
def WN(V:Dn)(args:List AV)(h:Nat->Option Am)(nx:Nat)(K:Ah)(d:D):Option FuncId->Prop
 |some f=>V f (.im d::args) h nx K
 |none=>False
def N6(P:Program)(V:Dn)(args:List AV)(h:Nat->Option Am)(nx:Nat)(K:Ah)(m:String):AV->Prop
 | .im (.ifc t d)=>WN V args h nx K d (WM P t m)
 |_=>False
def aV(P:Program)(T:TypeId)(h:Nat->Option Am)(op:BinOp)(x y:AV)(K:Ah):Nat->Prop
 |0=>gB P T op K x y
 |1=>Bn (lZ h op x K 0) (tI P T)
 |2=>Bn (lZ h op x K 1) (tI P T)
 |3=>Bn (lZ h op x K 2) (tI P T)
 |_+4=>WO P T op x K
def L5:Option TK->Ah->AV->Prop
 |some (.int k),K,.im (.int _ n)=>K (.im (.int k (k.wrap n))) {}
 |_,_,_=>False
def tK(t:Option TK)(x:AV)(K:Ah):Option TI->Prop
 |some _=>L5 t K x
 |none=>False
def HW:List (List D)->Option (List Int)
 |[]=>some []
 |[.int .u8 n]::r=>(HW r).map (n:: ·)
 |_=>none
def H9(z:List Int):ByteArray:=⟨(z.map λn=>UInt8.ofNat n.toNat).toArray⟩
def Mf(u:List Nat)(K:Ah):Option (List Int)->Prop
 |some z=>K (.im (.str (H9 z))) {use:=u}
 |none=>False
def Sg(o:Nat)(K:Ah):Option Am->Prop
 |some (_,.arr _ k rows)=>k=1/\Mf [o] K (HW rows)
 |_=>False
def hZ(h:Nat->Option Am)(K:Ah):AV->Prop
 | .own o=>Sg o K (h o)
 |_=>False
def iA(h:Nat->Option Am)(K:Ah)(x:AV):Option TK->Prop
 |some (.int .u8)=>hZ h K x
 |_=>False
def iB(P:Program)(h:Nat->Option Am)(K:Ah)(x:AV):TK->Prop
 | .slice e=>iA h K x (QV (tI P e))
 |_=>False
def Jv(P:Program)(h:Nat->Option Am)(K:Ah)(x:AV):Option TI->Prop
 |some z=>iB P h K x z.kind
 |none=>False
def TK.isStr:TK->Bool
 | .str=>true
 | .bool| .ptr _| .int _| .array _ _| .struct _| .map _ _| .slice _| .other=>false
def isStr:Option TK->Bool
 |some t=>t.isStr
 |none=>false
def WF(P:Program)(h:Nat->Option Am)(t:Option TK)(x:AV)(K:Ah)(s:Option TI):Prop:=if isStr t=true then Jv P h K x s else tK t x K s
def N7(K:Ah):AV->AV->Prop
 | .im (.int k a),.im (.int k' b)=>k=k'/\K (.im (.int k (max a b))) {}
 |_,_=>False
def N8(K:Ah):AV->AV->Prop
 | .im (.int k a),.im (.int k' b)=>k=k'/\K (.im (.int k (min a b))) {}
 |_,_=>False
def TK.isSl:TK->Bool
 | .slice _=>true
 | .bool| .str| .ptr _| .int _| .array _ _| .struct _| .map _ _| .other=>false
def zN(P:Program)(h:Nat->Option Am)(nx:Nat)(s x:AV)(T:TypeId)(K:Ah)(z:TI):Prop:=(z.kind.isSl||z.kind.isStr)=true/\Bn (Qsl P h nx s x K) (tI P T)
def DK(tm:List (Nat×AV)):Option Operand->Option AV
 |none=>none
 |some x=>some (Ay tm x)
def Hv(z:Nat):Option AV->Option Int
 |none=>some z
 |some (.im (.int _ n))=>some n
 |some _=>none
def Vf(k:Nat)(rows:List (List D))(K:Ah):Option Int->Option Int->Prop
 |some l,some m=>0<=l/\l<=m/\m<=(rows.length:Int)/\K (.im (.sl false k ((rows.drop l.toNat).take (m - l).toNat))) {}
 |some _,none=>False
 |none,_=>False
def JK(s:ByteArray)(K:Ah):Option Int->Option Int->Prop
 |some l,some m=>0<=l/\l<=m/\m<=(s.size:Int)/\K (.im (.str (s.extract l.toNat m.toNat))) {}
 |some _,none=>False
 |none,_=>False
def uG(o nx:Nat)(z:Bool)(T k:Nat)(rows:List (List D))(a n:Nat)(K:Ah):Bool->Prop
 |false=>K (.osl o a n) {use:=[o]}
 |true=>z=true/\K (.own nx) {use:=[o],kill:=[o],new:=[(nx,(true,.arr T k ((rows.drop a).take n)))],cnt:=1}
def JL(o nx:Nat)(z:Bool)(T k:Nat)(rows:List (List D))(K:Ah):Option Int->Option Int->Prop
 |some l,some m=>0<=l/\l<=m/\m<=(rows.length:Int)/\ ∃O,uG o nx z T k rows l.toNat (m - l).toNat K O
 |some _,none=>False
 |none,_=>False
def Vg(o nx:Nat)(Q:TI)(lo z:Option AV)(K:Ah):Option Am->Prop
 |some (O,.arr T k rows)=>k=Q.size/\JL o nx O T k rows K (Hv 0 lo) (Hv rows.length z)
 |_=>False
def xQ(h:Nat->Option Am)(nx:Nat)(lo z:Option AV)(K:Ah)(x:AV)(O:TI):Prop:=
 match x with
 | .im (.sl _ k rows)=>(k=O.size\/rows=[])/\Vf k rows K (Hv 0 lo) (Hv rows.length z)
 | .own o=>Vg o nx O lo z K (h o)
 |_=>False
def kE(x:AV)(lo z:Option AV)(K:Ah):Prop:=
 match x with
 | .im (.str s)=>JK s K (Hv 0 lo) (Hv s.size z)
 |_=>False
def QU(P:Program)(h:Nat->Option Am)(nx:Nat)(x:AV)(lo z:Option AV)(K:Ah):TK->Prop
 | .slice e=>Bn (xQ h nx lo z K x) (tI P e)
 | .str=>kE x lo z K
 | .bool| .ptr _| .int _| .array _ _| .struct _| .map _ _| .other=>False
def Qsm(P:Program)(h:Nat->Option Am)(nx:Nat)(x:AV)(lo z:Option AV)(K:Ah)(ti:TI):Prop:=QU P h nx x lo z K ti.kind
def iD(o:Nat):Option Am->Option (List Nat×Nat×List (List D))
 |some (_,.arr _ k rows)=>some ([o],k,rows)
 |_=>none
def iE(o a n:Nat):Option Am->Option (List Nat×Nat×List (List D))
 |some (_,.arr _ k rows)=>some ([o],k,(rows.drop a).take n)
 |_=>none
def gE(h:Nat->Option Am):AV->Option (List Nat×Nat×List (List D))
 | .im (.sl _ k rows)=>some ([],k,rows)
 | .own o=>iD o (h o)
 | .osl o a n=>iE o a n (h o)
 |_=>none
def Su(o:Nat):Option Am->Option (Nat×Nat×Nat×TypeId×Nat×List (List D))
 |some (true,.arr T k rows)=>some (o,0,rows.length,T,k,rows)
 |_=>none
def Sv(o a n:Nat):Option Am->Option (Nat×Nat×Nat×TypeId×Nat×List (List D))
 |some (true,.arr T k rows)=>some (o,a,n,T,k,rows)
 |_=>none
def Wh(h:Nat->Option Am):AV->Option (Nat×Nat×Nat×TypeId×Nat×List (List D))
 | .own o=>Su o (h o)
 | .osl o a n=>Sv o a n (h o)
 |_=>none
def fY(rows:List (List D))(a m:Nat)(src:List (List D)):List (List D):=rows.take a++src.take m++rows.drop (a+m)
def Sw(O:TI)(K:Ah):Option (List Nat×Nat×List (List D))->Option (Nat×Nat×Nat×TypeId×Nat×List (List D))->Prop
 |some (u,ks,z),some (o,a,n,T,k,rows)=>k=O.size/\(ks=O.size\/z=[])/\O.size≠0/\Bj Bm z/\
  K (.im (.int .i64 (min z.length n:Nat))) {use:=o::u,kill:=[o],new:=[(o,(true,.arr T k (fY rows a (min z.length n) z)))]}
 |some _,none=>False
 |none,_=>False
def Sx(P:Program)(h:Nat->Option Am)(d s:AV)(K:Ah):TK->Prop
 | .slice e=>Bn (λz=>Sw z K (gE h s) (Wh h d)) (tI P e)
 | .bool| .str| .ptr _| .int _| .array _ _| .struct _| .map _ _| .other=>False
def Qzd(P:Program)(h:Nat->Option Am)(d s:AV)(K:Ah)(ti:TI):Prop:=Sx P h d s K ti.kind
def XN(z:TI)(K:Ah):Option (Nat×Nat×Nat×TypeId×Nat×List (List D))->Prop
 |some (o,a,n,T,k,rows)=>k=z.size/\z.size≠0/\z.zero.length=z.size/\Bm z.zero=true/\
  K .any {use:=[o],kill:=[o],new:=[(o,(true,.arr T k (fY rows a n (List.replicate n z.zero))))]}
 |none=>False
def Sl(P:Program)(h:Nat->Option Am)(d:AV)(K:Ah):TK->Prop
 | .slice e=>Bn (λz=>XN z K (Wh h d)) (tI P e)
 | .bool| .str| .ptr _| .int _| .array _ _| .struct _| .map _ _| .other=>False
def Qrt(P:Program)(h:Nat->Option Am)(d:AV)(K:Ah)(ti:TI):Prop:=Sl P h d K ti.kind
def UK(nx o:Nat)(K:Ah):Option Am->Prop
 |some (Q,.map O z)=>K (.it nx) {use:=[o],kill:=[o],new:=[(nx,(true,.iter none z)),(o,(false,.map O z))],cnt:=1}
 |_=>False
def rgD(nx:Nat)(K:Ah):D->Prop
 | .mp _ z=>K (.it nx) {new:=[(nx,(true,.iter none z))],cnt:=1}
 |_=>False
def rgM(h:Nat->Option Am)(nx:Nat)(K:Ah):AV->Prop
 | .mp o=>UK nx o K (h o)
 | .im d=>rgD nx K d
 |_=>False
def UJ(h:Nat->Option Am)(nx:Nat)(x:AV)(K:Ah):TK->Prop
 | .map _ _=>rgM h nx K x
 | .bool| .str| .ptr _| .int _| .array _ _| .struct _| .slice _| .other=>False
def Qsh(h:Nat->Option Am)(nx:Nat)(x:AV)(K:Ah)(ti:TI):Prop:=UJ h nx x K ti.kind
def xE(o:Nat)(left:List (D×D))(K:Ah)(i:Nat)(p:D×D):Prop:=
 K (.tup [.im (.bool true),.im p.1,.im p.2]) {use:=[o],kill:=[o],new:=[(o,(true,.iter (some p) (left.eraseIdx i)))]}
def Ub(o:Nat)(K:Ah):Option Am->Prop
 |some (true,.iter _ left)=>(left=[]->K (.tup [.im (.bool false)]) {use:=[o]})/\ ∀i p,left[i]? =some p->xE o left K i p
 |_=>False
def W6(h:Nat->Option Am)(K:Ah):AV->Prop
 | .it o=>Ub o K (h o)
 |_=>False
def jD(h:Nat->Option Am)(x:AV)(K:Ah):Bool->Prop
 |true=>W6 h K x
 |false=>False
def SC(o:Nat)(K:Ah):Option Am->Prop
 |some (true,.iter (some p) _)=>K (.im (.tup [p.1,p.2])) {use:=[o]}
 |_=>False
def Qsz(h:Nat->Option Am)(K:Ah):AV->Prop
 | .it o=>SC o K (h o)
 |_=>False
def Wd(P:Program)(t:TypeId):Option TypeId:=match P.underlying t with
 |some (.chan _ e)=>some e
 |_=>none
def mcE(nx:Nat)(n:Int)(K:Ah)(z:TI):Prop:=0<=n/\n<=1073741824/\z.bytes<=65536/\K (.ch nx) {new:=[(nx,(true,.chan [] n.toNat))],cnt:=1}
def mcV(P:Program)(nx:Nat)(K:Ah)(e:TypeId):AV->Prop
 | .im (.int .i64 n)=>Bn (mcE nx n K) (tI P e)
 |_=>False
def mcK(P:Program)(nx:Nat)(x:AV)(K:Ah):Option TypeId->Prop
 |some e=>mcV P nx K e x
 |none=>False
def yS(P:Program)(nx:Nat)(x:AV)(K:Ah)(T:TypeId):Prop:=mcK P nx x K (Wd P T)
def bZ(o:Nat)(K:Ah):Option Am->Prop
 |some (_,.chan q _)=>Gh K {use:=[o]} q.length
 |_=>False
def T5(o:Nat)(h:Nat->Option Am)(K:Ah):Option TypeId->Prop
 |some _=>bZ o K (h o)
 |none=>False
def jW(o:Nat)(d:D)(K:Ah):Option Am->Prop
 |some (true,.chan q cap)=>q.length<cap/\K .any {use:=[o],kill:=[o],new:=[(o,(true,.chan (q++[d]) cap))]}
 |_=>False
def L7(h:Nat->Option Am)(c x:AV)(K:Ah):Prop:=
 match c,x with
 | .ch o,.im d=>jW o d K (h o)
 |_,_=>False
def jU(o:Nat)(K:Ah):Option Am->Prop
 |some (true,.chan q cap)=>q≠[]/\ ∀d r,q=d::r->K (.im d) {use:=[o],kill:=[o],new:=[(o,(true,.chan r cap))]}
 |_=>False
def rvC(h:Nat->Option Am)(K:Ah):AV->Prop
 | .ch o=>jU o K (h o)
 |_=>False
def rvE(h:Nat->Option Am)(c:AV)(K:Ah)(z:TI):Prop:=z.zero.length=z.size/\z.size≠0/\rvC h K c
def rvK(P:Program)(h:Nat->Option Am)(c:AV)(K:Ah):Option TypeId->Prop
 |some e=>Bn (rvE h c K) (tI P e)
 |none=>False
def L6(P:Program)(h:Nat->Option Am)(T:TypeId)(c:AV)(K:Ah):Prop:=rvK P h c K (Wd P T)
def SF(neg:Bool)(K:Ah)(E:B5){α:Type}(rows:List α):Prop:= ∀b:Bool,(b=true->rows=[])->K (.im (.bool (neg !=b))) E
def SG(o:Nat)(neg:Bool)(K:Ah):Option Am->Prop
 |some (_,.arr _ _ rows)=>SF neg K {use:=[o]} rows
 |some (_,.arrA _ _ rows)=>SF neg K {use:=[o]} rows
 |_=>False
def Od(h:Nat->Option Am)(neg:Bool)(K:Ah):AV->Prop
 | .im (.sl _ _ rows)=>SF neg K {} rows
 | .own o=>SG o neg K (h o)
 |_=>False
def IL:D->Bool
 | .sl z _ _=>z
 | .int _ _| .bool _| .str _| .nilp| .nilf| .nili| .nilc| .nilm| .agg _| .tup _| .ref _| .mp _ _| .fn _ _ _| .ifc _ _| .gp _| .tok _=>true
def FD:AV->Bool
 | .im d=>IL d
 | .own _=>false
 | .any| .agg _| .tup _| .ptr _ _| .eptr _ _ _| .mp _| .ch _| .it _| .osl _ _ _| .clo _ _ _=>true
def unS(z:Bool)(x:AV)(n:Nat):Bool:=z && (n==1 && !FD x)
def R4(P:Program)(h:Nat->Option Am)(T:TypeId)(op:BinOp)(x:AV)(K:Ah):TK->Prop
 | .slice _=>(match op with
   | .eql=>Od h false K x
   | .neq=>Od h true K x
   |_=>False)
 | .bool| .str| .ptr _| .int _| .array _ _| .struct _| .map _ _| .other=>False
def Qst(P:Program)(h:Nat->Option Am)(T:TypeId)(op:BinOp)(x:AV)(K:Ah)(ti:TI):Prop:=R4 P h T op x K ti.kind
def L4(P:Program)(z:Bool)(T:TypeId)(h:Nat->Option Am)(op:BinOp)(x y:AV)(K:Ah)(n:Nat):Prop:=
 if unS z x n=true then Bn (Qst P h T op x K) (tI P T) else aV P T h op x y K n
def LI(P:Program)(z:Bool)(h:Nat->Option Am)(T:TypeId)(K:Ah):AV->Prop
 | .ch o=>T5 o h K (Wd P T)
 | .im d=>Bn (gH z h (.im d) K) (tI P T)
 | .own o=>Bn (gH z h (.own o) K) (tI P T)
 | .osl o a n=>Bn (gH z h (.osl o a n) K) (tI P T)
 | .mp o=>Bn (gH z h (.mp o) K) (tI P T)
 | .any| .agg _| .tup _| .ptr _ _| .eptr _ _ _| .it _| .clo _ _ _=>False
def Xi(P:Program)(z:Bool)(h:Nat->Option Am)(nx:Nat)(K:Ah):Builtin->List AV->List TypeId->Prop
 | .len,[x],[T]=>LI P z h T K x
 | .append,[s,x],[T,U]=>Bn (zN P h nx s x T K) (tI P U)
 | .delete,[m,k],T::_=>Bn (Qni P h K m k) (tI P T)
 | .copy,[d,s],[T,_]=>Bn (Qzd P h d s K) (tI P T)
 | .clear,[d],[T]=>Bn (Qrt P h d K) (tI P T)
 | .max,[x,y],_=>N7 K x y
 | .min,[x,y],_=>N8 K x y
 |_,_,_=>False
def tA(P:Program)(V:Dn)(z:Bool)(tm:List (Nat×AV))(h:Nat->Option Am)(nx:Nat)(args:List AV)(O:List TypeId)(K:Ah):Callee->Prop
 | .value f=>Re V args h nx K (Ay tm f)
 | .builtin b=>Xi P z h nx K b args O
 | .invoke r m=>N6 P V args h nx K m (Ay tm r)
def Y7(nx:Nat)(K:Ah):Option KT->Prop
 |some z=>K (.mp nx) {new:=[(nx,(true,.map z []))],cnt:=1}
 |none=>False
def TF(P:Program)(nx:Nat)(K:Ah):TK->Prop
 | .map k _=>Y7 nx K (BW P k)
 | .bool| .str| .ptr _| .int _| .array _ _| .struct _| .slice _| .other=>False
def zJ(P:Program)(nx:Nat)(K:Ah)(ti:TI):Prop:=TF P nx K ti.kind
def DT(tm:List (Nat×AV)):List Operand->List AV
 |[]=>[]
 |x::r=>Ay tm x::DT tm r
def Kj(tm:List (Nat×AV)):List (Nat×Operand)->List (Nat×AV)
 |[]=>[]
 |(i,x)::r=>(i,Ay tm x)::Kj tm r
def Qrk(h:Nat->Option Am)(x:AV)(K:Ah)(ti:TI):Prop:=X0 h ti K x
def yH(P:Program)(h:Nat->Option Am)(x i:AV)(K:Ah)(ti:TI):Prop:=Qjp P h x ti K i
def Qno(P:Program)(x i:AV)(K:Ah)(ti:TI):Prop:=Qxc P x ti K i
def Sr(o:Nat)(T:TypeId)(cs:List AV):Option (List D)->Option (D×An)
 |some ds=>some (.ref ds,[(o,(false,.cells T cs))])
 |none=>none
def Sq(o:Nat):Option Am->Option (D×An)
 |some (_,.cells T z)=>Sr o T z (DA z)
 |some (_,.arr _ _ _)=>none
 |some (_,.arrA _ _ _)=>none
 |some (_,.map _ _)=>none
 |some (_,.chan _ _)=>none
 |some (_,.iter _ _)=>none
 |some (_,.view _)=>none
 |none=>none
def Iy(h:Nat->Option Am):AV->Option (D×An)
 | .im d=>some (d,[])
 | .ptr o 0=>Sq o (h o)
 | .ptr _ (_+1)=>none
 | .any=>none
 | .agg _=>none
 | .tup _=>none
 | .eptr _ _ _=>none
 | .own _=>none
 | .mp _=>none
 | .ch _=>none
 | .it _=>none
 | .osl _ _ _=>none
 | .clo _ _ _=>none
def Sp:Option (D×An)->Option (List D×An)->Option (List D×An)
 |some (d,E),some (ds,F)=>some (d::ds,E++F)
 |some _,none=>none
 |none,_=>none
def Pd(h:Nat->Option Am):List AV->Option (List D×An)
 |[]=>some ([],[])
 |x::r=>Sp (Iy h x) (Pd h r)
def hnm:An->List Nat
 |[]=>[]
 |(n,_)::r=>n::hnm r
def Qz3(f:FuncId)(a b:List D)(first capt:List AV)(K:Ah):An->Prop
 |[]=>K (.im (.fn f a b)) {}
 |e::r=>K (.im (.fn f a b)) {use:=hnm (e::r),kill:=hnm (e::r),new:=e::r}\/K (.clo f first capt) {}
def Oi(f:FuncId)(first capt:List AV)(K:Ah):Option (List D×An)->Option (List D×An)->Prop
 |some (a,E),some (b,F)=>Qz3 f a b first capt K (E++F)
 |some _,none=>K (.clo f first capt) {}
 |none,_=>K (.clo f first capt) {}
def Ye(P:Program)(U:TypeId)(f:Nat):Option (TypeId×Nat):=
 match P.underlying U with
 |some (.struct z)=>(z[f]?).map λq=>(q.type,q.offset)
 |_=>none
def Rk(off n:Nat)(cs:List D):Bool->Option D
 |true=>some (.agg ((cs.drop off).take n))
 |false=>cs[off]?
def Ri(K:Ah):Option D->Prop
 |some d=>K (.im d) {}
 |none=>False
def dR(off:Nat)(K:Ah)(ti:TI):AV->Prop
 | .im (.agg z)=>off+ti.size<=z.length/\Ri K (Rk off ti.size z ti.agg)
 |_=>False
def Rj(P:Program)(x:AV)(K:Ah):Option (TypeId×Nat)->Prop
 |some (t,off)=>Bn (λti=>dR off K ti x) (tI P t)
 |none=>False
def step(P:Program)(V:Dn)(O:Bool)(tm:List (Nat×AV))(h:Nat->Option Am)(nx:Nat)(T:TypeId)(K:Ah):Op->Prop
 | .move x=>K (Ay tm x) {}
 | .assign x=>zU P tm nx T K x
 | .pick c a b=>Qzp (Ay tm a) (Ay tm b) K (Ay tm c)
 | .alloc T=>Bn (Qsv nx T K) (tI P T)
 | .box T x=>Vt nx T K (Ay tm x).cells
 | .build T z=>Bn (Qsy P (Kj tm z.toList) K) (tI P T)
 | .buildSlice T n z=>Bn (yG P nx n (Kj tm z.toList) K) (tI P T)
 | .load T x=>Bn (Qrk h (Ay tm x) K) (tI P T)
 | .store T x v=>Bn (Qri h (Ay tm x) (Ay tm v) K) (tI P T)
 | .nilCheck x=>lJ h K (Ay tm x)
 | .binOp op T x y _=>L4 P O T h op (Ay tm x) (Ay tm y) K (FG y)
 | .unOp op _ x=>Zu K op (Ay tm x)
 | .convert S T x=>WF P h (QV (tI P T)) (Ay tm x) K (tI P S)
 | .makeFunc (.func f) first capt=>Nat.blt f 1000000000=true/\Oi f (DT tm first.toList) (DT tm capt.toList) K (Pd h (DT tm first.toList)) (Pd h (DT tm capt.toList))
 | .makeMap T none=>Bn (zJ P nx K) (tI P T)
 | .makeSlice T l c=>Bn (yP P nx (Ay tm l) (Ay tm c) K) (tI P T)
 | .fieldAddr T x f=>Bn (yO h (Ay tm x) f K) (tI P T)
 | .indexAddr T x i=>Bn (yH P h (Ay tm x) (Ay tm i) K) (tI P T)
 | .index T x i=>Bn (Qno P (Ay tm x) (Ay tm i) K) (tI P T)
 | .lookup T m k ok=>Bn (Qnn P h (Ay tm m) (Ay tm k) ok K) (tI P T)
 | .mapUpdate T m k v=>Bn (lG P h K (Ay tm m) (Ay tm k) (Ay tm v)) (tI P T)
 | .extract x i=>lI i K (Ay tm x)
 | .call c=>tA P V O tm h nx (DT tm c.args.toList) c.argTypes.toList K c.callee
 | .slice T x lo Q none=>Bn (Qsm P h nx (Ay tm x) (DK tm lo) (DK tm Q) K) (tI P T)
 | .range T x=>Bn (Qsh h nx (Ay tm x) K) (tI P T)
 | .next x false=>jD h (Ay tm x) K O
 | .entry x=>Qsz h K (Ay tm x)
 | .makeChan T x=>yS P nx (Ay tm x) K T
 | .makeInterface T x=>Vu P T K (Ay tm x)
 | .insert T m k v=>Bn (lG P h K (Ay tm m) (Ay tm k) (Ay tm v)) (tI P T)
 | .field U x f=>Rj P (Ay tm x) K (Ye P U f)
 |_=>False
inductive Ex where
 |normal
 |exit (id:Nat)
 |ret
abbrev Ct:=Ex->Az->Prop
def Xm(t:Option Nat)(z:Bool)(s:Az)(Kdo Kskip:Az->Prop):AV->Prop
 | .im (.bool b)=>(b=z->Kdo (s.put t (.im (.bool z))))/\(b= !z->Kskip (s.put t (.im (.bool (!z)))))
 | .im (.tup [])=>Kskip s
 |_=>False
def Aw(n:Nat):An->Bool
 |[]=>true
 |(_,(_,.cells _ z))::r=>AA n z && Aw n r
 |(_,(_,.arrA _ _ rows))::r=>rows.all (AA n) && Aw n r
 |(_,(_,.arr _ _ _))::r=>Aw n r
 |(_,(_,.map _ _))::r=>Aw n r
 |(_,(_,.chan _ _))::r=>Aw n r
 |(_,(_,.iter _ _))::r=>Aw n r
 |(_,(_,.view _))::r=>Aw n r
def K1(kill:List Nat)(nx cnt n:Nat):Bool:=(Nat.ble nx n && Nat.blt n (nx+cnt))||(kill.contains n && Nat.blt n nx)
def HL(kill:List Nat)(nx cnt:Nat):An->Bool
 |[]=>true
 |(n,_)::r=>K1 kill nx cnt n && HL kill nx cnt r
def B5.ok(E:B5)(nx:Nat)(r:AV):Bool:=r.bel (nx+E.cnt) && (Aw (nx+E.cnt) E.new && HL E.kill nx E.cnt E.new)
def Az.app_nr(tm:List (Nat×AV))(h:An)(nx:Nat)(dst:Option Nat)(r:AV)(u k:List Nat)(nw:An)(c:Nat):Az.app ⟨tm,h,nx⟩ dst r ⟨u,k,nw,c⟩=(⟨tm,nw++AW h k,nx+c⟩:Az).put dst r:=by
 cases dst<;>rfl
def B5.ok_nr(u k:List Nat)(nw:An)(c nx:Nat)(r:AV):B5.ok ⟨u,k,nw,c⟩ nx r=(r.bel (nx+c) && (Aw (nx+c) nw && HL k nx c nw)):=by
 cases c<;>rfl
structure SOp where
 dst:Option Nat
 op:Op
 type:TypeId
 gd:Option (Option Nat×Bool)
def gG(ops:Array Oper):Option (Nat×Bool)->Option (Option Nat×Bool)
 |none=>none
 |some (j,w)=>some ((ops[j]?).bind (·.dst),w)
def Ik(ops:Array Oper):List Oper->List SOp
 |[]=>[]
 |o::r=>⟨o.dst,o.op,o.type,gG ops o.guard⟩::Ik ops r
def D6(z:Az->Prop)(s:Az)(dst:Option Nat)(r:AV)(E:B5):Prop:=E.ok s.nx r=true/\z (s.app dst r E)
def DV(P:Program)(V:Dn)(tm:List (Nat×AV))(h:Nat->Option Am)(nx:Nat)(ty:TypeId)(K:Ah):Op->Prop
 | .send c x=>L7 h (Ay tm c) (Ay tm x) K
 | .recv T c false=>L6 P h T (Ay tm c) K
 |op=>step P V true tm h nx ty K op
def JN(P:Program)(V:Dn)(dst:Option Nat)(op:Op)(ty:TypeId)(z:Az->Prop)(s:Az):Prop:=
 DV P V s.tm (hget s.h) s.nx ty (D6 z s dst) op
def N4(dst:Option Nat)(z:Az->Prop)(s:Az):Prop:=z (s.put dst (.im (.tup [])))
def Yn(P:Program)(V:Dn)(dst:Option Nat)(op:Op)(ty:TypeId)(z:Bool)(O:Az->Prop)(s:Az):Option Nat->Prop
 |some t=>Xm (some t) z s (JN P V dst op ty O) (N4 dst O) (AE s.tm t)
 |none=>False
def xJ(P:Program)(V:Dn)(dst:Option Nat)(op:Op)(ty:TypeId)(O:Az->Prop)(s:Az):Option (Option Nat×Bool)->Prop
 |none=>JN P V dst op ty O s
 |some (t,z)=>Yn P V dst op ty z O s t
def PL(P:Program)(V:Dn):List SOp->(Az->Prop)->Az->Prop
 |[],K,s=>K s
 |⟨dst,op,ty,gd⟩::z,K,s=>xJ P V dst op ty (PL P V z K) s gd
structure Fp where
 i:Nat
 use:List Nat
 touch:List Nat
 nx:Nat
 cnt:Nat
def Gp:An->List Nat
 |[]=>[]
 |(n,_)::r=>n::Gp r
def JA:An->List Nat
 |[]=>[]
 |(_,(_,e))::r=>e.nms++JA r
def Gs:List Nat->List Nat->Bool
 |[],_=>true
 |x::r,l=> !l.contains x && Gs r l
def EU(nx cnt:Nat):List Nat->Bool
 |[]=>true
 |x::r=>(Nat.blt x nx||Nat.ble (nx+cnt) x) && EU nx cnt r
def IP:Ground->Bool
 | .data=>true
 | .chain=>true
 | .guard=>true
 | .phase=>true
 | .textOnly _=>false
 | .gcOnly _=>false
def DQ:List (List Nat)->Nat->List Nat
 |[],_=>[]
 |x::_,0=>x
 |_::r,n+1=>DQ r n
def ins(x:Nat)(l:List Nat):List Nat:=bif l.contains x then l else x::l
def Tj:List Nat->List Nat->List Nat
 |[],l=>l
 |x::r,l=>ins x (Tj r l)
def Hw(acc:List (List Nat)):List Edge->List Nat
 |[]=>[]
 |e::r=>bif IP e.ground then Tj (e.on::DQ acc e.on) (Hw acc r) else Hw acc r
def Fh:List Oper->List (List Nat)->List (List Nat)
 |[],acc=>acc
 |o::r,acc=>Fh r (acc++[Hw acc o.after.toList])
def Ed(cl:List (List Nat))(i j:Nat):Bool:=(DQ cl j).contains i
def bO(cl:List (List Nat))(j:Nat)(use touch z:List Nat)(f:Fp):Bool:=
 bif Gs (use++touch) f.touch && (Gs touch f.use && EU f.nx f.cnt z) then true else Ed cl f.i j
def FT(cl:List (List Nat))(j:Nat)(use touch z:List Nat):List Fp->Bool
 |[]=>true
 |f::r=>bO cl j use touch z f && FT cl j use touch z r
def B5.touch(E:B5):List Nat:=E.kill++Gp E.new
abbrev Q3:=List Fp->Az->Prop
def Ja(cl:List (List Nat))(i:Nat)(acc:List Fp)(z:Q3)(s:Az)(dst:Option Nat)(r:AV)(E:B5):Prop:=
 E.ok s.nx r=true/\FT cl i (E.use++E.kill) E.touch (E.touch++(r.nms++JA E.new)) acc=true/\z (⟨i,E.use++E.kill,E.touch,s.nx,E.cnt⟩::acc) (s.app dst r E)
def N9(P:Program)(V:Dn)(cl:List (List Nat))(i:Nat)(acc:List Fp)(dst:Option Nat)(op:Op)(ty:TypeId)(z:Q3)(s:Az):Prop:=
 step P V false s.tm (hget s.h) s.nx ty (Ja cl i acc z s dst) op
def N3(dst:Option Nat)(acc:List Fp)(z:Q3)(s:Az):Prop:=z acc (s.put dst (.im (.tup [])))
def Ym(P:Program)(V:Dn)(cl:List (List Nat))(i:Nat)(acc:List Fp)(dst:Option Nat)(op:Op)(ty:TypeId)(z:Bool)(O:Q3)(s:Az):Option Nat->Prop
 |some t=>Xm (some t) z s (N9 P V cl i acc dst op ty O) (N3 dst acc O) (AE s.tm t)
 |none=>False
def xI(P:Program)(V:Dn)(cl:List (List Nat))(i:Nat)(acc:List Fp)(dst:Option Nat)(op:Op)(ty:TypeId)(O:Q3)(s:Az):Option (Option Nat×Bool)->Prop
 |none=>N9 P V cl i acc dst op ty O s
 |some (t,z)=>Ym P V cl i acc dst op ty z O s t
def Ww(P:Program)(V:Dn)(cl:List (List Nat)):List SOp->Nat->(Az->Prop)->Q3
 |[],_,K,_,s=>K s
 |⟨dst,op,ty,gd⟩::z,i,K,acc,s=>xI P V cl i acc dst op ty (Ww P V cl z (i+1) K) s gd
def NF(K:Az->Prop)(Q:Ct):Ct
 | .normal,s=>K s
 | .exit i,s=>Q (.exit i) s
 | .ret,s=>Q .ret s
def Jy(i:Nat)(Q:Ct)(s:Az):Bool->Prop
 |true=>Q .normal s
 |false=>Q (.exit i) s
def mG(id:Nat)(Q:Ct):Ct
 | .normal,s=>Q .normal s
 | .exit i,s=>Jy i Q s (i==id)
 | .ret,s=>Q .ret s
def uH(A B:Ct->Az->Prop)(Q:Ct)(s:Az):AV->Prop
 | .im (.bool b)=>(b=true->A Q s)/\(b=false->B Q s)
 |_=>False
def Ha(s:Az):List (Nat×AV)->Prop
 |[]=>True
 |(t,x)::r=>AE s.tm t=x/\Ha s r
def Cm(s:Az):An->Prop
 |[]=>True
 |(o,e)::r=>hget s.h o=some e/\Cm s r
def sub(s s':Az):Prop:=Ha s s'.tm/\Cm s s'.h
def Cv(n:Nat):List (Nat×AV)->Bool
 |[]=>true
 |(_,x)::r=>x.bel n && Cv n r
def B6(n:Nat):An->Bool
 |[]=>true
 |(m,_)::r=>Nat.blt m n && B6 n r
def Az.good(s:Az):Bool:=Cv s.nx s.tm && (Aw s.nx s.h && B6 s.nx s.h)
def pm:List (Nat×Option Nat)->Nat->Option Nat
 |[],n=>some n
 |(a,b)::r,n=>if a=n then b else pm r n
def iT:AV->Prop
 | .im (.sl true _ [])=>True
 |_=>False
def EV(x:AV):Option Nat->Prop
 |some m=>x= .own m
 |none=>iT x
def Hs(f:Nat->AV)(x:AV):Option Nat->Prop
 |some m=>x=f m
 |none=>False
mutual
def mt(π:List (Nat×Option Nat)):AV->AV->Prop
 | .any,_=>True
 | .im d,x=>x= .im d
 | .own n,x=>EV x (pm π n)
 | .ptr n p,x=>Hs (λm=> .ptr m p) x (pm π n)
 | .eptr n i p,x=>Hs (λm=> .eptr m i p) x (pm π n)
 | .mp n,x=>Hs .mp x (pm π n)
 | .ch n,x=>Hs .ch x (pm π n)
 | .it n,x=>Hs .it x (pm π n)
 | .osl n a k,x=>Hs (λm=> .osl m a k) x (pm π n)
 | .agg z,.agg ds=>Dz π z ds
 | .agg z,.im (.agg ds)=>Dz π z (ds.map .im)
 | .agg _,_=>False
 | .tup _,_=>False
 | .clo _ _ _,_=>False
def Dz(π:List (Nat×Option Nat)):List AV->List AV->Prop
 |[],[]=>True
 |x::r,y::s=>mt π x y/\Dz π r s
 |[],_::_=>False
 |_::_,[]=>False
end
def FF(π:List (Nat×Option Nat)):List (List AV)->List (List AV)->Prop
 |[],[]=>True
 |x::r,y::s=>Dz π x y/\FF π r s
 |[],_::_=>False
 |_::_,[]=>False
def Ej(π:List (Nat×Option Nat)):Ac->Ac->Prop
 | .cells T O,.cells U ds=>T=U/\Dz π O ds
 | .cells _ _,_=>False
 | .arr T k rows,.arr U k' z=>Ac.arr U k' z= .arr T k rows
 | .arr T k rows,.arrA U k' z=>T=U/\k=k'/\z=Bo rows
 | .arr _ _ _,.cells _ _=>False
 | .arr _ _ _,.map _ _=>False
 | .arr _ _ _,.chan _ _=>False
 | .arr _ _ _,.iter _ _=>False
 | .arr _ _ _,.view _=>False
 | .arrA T k rows,.arrA U k' z=>T=U/\k=k'/\FF π rows z
 | .arrA T k rows,.arr U k' z=>T=U/\k=k'/\FF π rows (Bo z)
 | .arrA _ _ _,.cells _ _=>False
 | .arrA _ _ _,.map _ _=>False
 | .arrA _ _ _,.chan _ _=>False
 | .arrA _ _ _,.iter _ _=>False
 | .arrA _ _ _,.view _=>False
 | .map Z Q,e=>e= .map Z Q
 | .chan q c,e=>e= .chan q c
 | .iter a l,e=>e= .iter a l
 | .view O,e=>e= .view O
def Lb(π:List (Nat×Option Nat))(O:Bool)(e':Ac):Option Am->Prop
 |some (z,e)=>z=O/\Ej π e' e
 |none=>False
def YA:Bool->Ac->Prop
 |true,.arr _ _ []=>True
 |true,.arrA _ _ []=>True
 |_,_=>False
def Cx(s:Az)(π:List (Nat×Option Nat))(z:Bool)(e':Ac):Option Nat->Prop
 |some m=>Lb π z e' (hget s.h m)
 |none=>YA z e'
def GH(π:List (Nat×Option Nat))(s:Az):List (Nat×AV)->Prop
 |[]=>True
 |(t,x)::r=>mt π x (AE s.tm t)/\GH π s r
def EJ(π:List (Nat×Option Nat))(s:Az):An->Prop
 |[]=>True
 |(n,(z,e))::r=>Cx s π z e (pm π n)/\EJ π s r
def GU(lo:Nat):List (Nat×Option Nat)->Prop
 |[]=>True
 |(a,_)::r=>lo<=a/\GU lo r
def DC(π:List (Nat×Option Nat)):An->List (Option Nat)
 |[]=>[]
 |(n,_)::r=>pm π n::DC π r
def Cj:List (Option Nat)->Bool
 |[]=>true
 |none::r=>Cj r
 |some m::r=> !r.contains (some m) && Cj r
def Av(lo:Nat)(π:List (Nat×Option Nat))(s s':Az):Prop:=GU lo π/\Cj (DC π s'.h)=true/\GH π s s'.tm/\EJ π s s'.h
def ML{β:Type}(I:β->Az)(μ:β->Nat)(b:β)(Q:Ct):Ct
 | .normal,s=> ∃b',μ b'<μ b/\sub s (I b')
 | .exit i,s=>Q (.exit i) s
 | .ret,s=>Q .ret s
def MK{β:Type}(lo:Nat)(I:β->Az)(μ:β->Nat)(b:β)(Q:Ct):Ct
 | .normal,s=> ∃b' π,μ b'<μ b/\Av lo π s (I b')
 | .exit i,s=>Q (.exit i) s
 | .ret,s=>Q .ret s
def aH(z:Ct->Az->Prop)(Q:Ct)(s:Az):Prop:=
 ∃(β:Type) (I:β->Az) (μ:β->Nat),(∀b,(I b).good=true/\s.nx<=(I b).nx)/\(∃b,sub s (I b))/\ ∀b,z (ML I μ b Q) (I b)
def Qsi(z:Ct->Az->Prop)(Q:Ct)(s:Az):Prop:=
 ∃(β:Type) (I:β->Az) (μ:β->Nat),(∀b,(I b).good=true/\s.nx<=(I b).nx)/\(∃b π,Av s.nx π s (I b))/\ ∀b,z (MK s.nx I μ b Q) (I b)
def Iz(F:List Nat):An->An
 |[]=>[]
 |(n,(z,e))::r=>(n,(z && !F.contains n,e))::Iz F r
def SO(F:List Nat)(s:Az):Az:=⟨s.tm,Iz F s.h,s.nx⟩
def W1(z:Ct->Az->Prop)(Q:Ct)(s:Az):Prop:= ∃F:List Nat,aH z Q (SO F s)
def H6(n:Nat):Ac->AV
 | .arr _ w rows=> .im (.sl false w rows)
 | .cells _ _=> .own n
 | .arrA _ _ _=> .own n
 | .map _ _=> .own n
 | .chan _ _=> .own n
 | .iter _ _=> .own n
 | .view _=> .own n
def Lw(n:Nat):Option Am->AV
 |some e=>H6 n e.2
 |none=> .own n
def JG(o p:Nat):Option (List D)->AV
 |some ds=> .im (.ref ds)
 |none=> .ptr o p
def FH(o p:Nat):Option Am->AV
 |some (_,.cells _ z)=>JG o p (DA (z.drop p))
 |some (_,.arr _ _ _)=> .ptr o p
 |some (_,.arrA _ _ _)=> .ptr o p
 |some (_,.map _ _)=> .ptr o p
 |some (_,.chan _ _)=> .ptr o p
 |some (_,.iter _ _)=> .ptr o p
 |some (_,.view _)=> .ptr o p
 |none=> .ptr o p
mutual
def AV.fzA(F:List Nat)(H:An):AV->AV
 | .own n=>bif F.contains n then Lw n (hget H n) else .own n
 | .agg z=> .agg (DL F H z)
 | .any=> .any
 | .im d=> .im d
 | .tup z=> .tup z
 | .ptr o p=>bif F.contains o then (bif F.contains (o+4000000000) then FH o p (hget H o) else .ptr o p) else .ptr o p
 | .eptr o i p=> .eptr o i p
 | .mp o=> .mp o
 | .ch o=> .ch o
 | .it o=> .it o
 | .osl o a n=> .osl o a n
 | .clo f a c=> .clo f a c
def DL(F:List Nat)(H:An):List AV->List AV
 |[]=>[]
 |x::r=>x.fzA F H::DL F H r
end
def DM(F:List Nat)(H:An):List (List AV)->List (List AV)
 |[]=>[]
 |x::r=>DL F H x::DM F H r
def Ac.fzA(F:List Nat)(H:An):Ac->Ac
 | .cells T z=> .cells T (DL F H z)
 | .arrA T k rows=> .arrA T k (DM F H rows)
 | .arr T k rows=> .arr T k rows
 | .map Q O=> .map Q O
 | .chan q c=> .chan q c
 | .iter a l=> .iter a l
 | .view z=> .view z
def I6(F:List Nat)(H:An):List (Nat×AV)->List (Nat×AV)
 |[]=>[]
 |(t,x)::r=>(t,x.fzA F H)::I6 F H r
def I5(F:List Nat)(H:An):An->An
 |[]=>[]
 |(n,(z,e))::r=>(n,(z && !F.contains n,e.fzA F H))::I5 F H r
def SR(F:List Nat)(s:Az):Az:=⟨I6 F s.h s.tm,I5 F s.h s.h,s.nx⟩
def MJ{β:Type}(lo:Nat)(I:β->Az)(μ:β->Nat)(b:β)(Q:Ct):Ct
 | .normal,s=> ∃b' F π,μ b'<μ b/\Av lo π (SR F s) (I b')
 | .exit i,s=>Q (.exit i) s
 | .ret,s=>Q .ret s
def Qsf(z:Ct->Az->Prop)(Q:Ct)(s:Az):Prop:=
 ∃(β:Type) (I:β->Az) (μ:β->Nat),(∀b,(I b).good=true/\s.nx<=(I b).nx)/\(∃b F π,Av s.nx π (SR F s) (I b))/\ ∀b,z (MJ s.nx I μ b Q) (I b)
def Ba(z:Ct->Az->Prop)(Q:Ct)(s:Az):Prop:=aH z Q s\/Qsi z Q s\/W1 z Q s\/Qsf z Q s
def Ba.frr{z:Ct->Az->Prop}{Q:Ct}{s:Az}(h:Qsf z Q s):Ba z Q s:=Or.inr (Or.inr (Or.inr h))
def Ba.old{z:Ct->Az->Prop}{Q:Ct}{s:Az}(h:aH z Q s):Ba z Q s:=Or.inl h
def Ba.ren{z:Ct->Az->Prop}{Q:Ct}{s:Az}(h:Qsi z Q s):Ba z Q s:=Or.inr (Or.inl h)
def Ba.frz{z:Ct->Az->Prop}{Q:Ct}{s:Az}(F:List Nat)(h:aH z Q (SO F s)):Ba z Q s:=Or.inr (Or.inr (Or.inl ⟨F,h⟩))
def Di(P:Program)(V:Dn):Code->Ct->Az->Prop
 | .skip,Q,s=>Q .normal s
 | .region _ ops false,Q,s=>PL P V (Ik ops ops.toList) (Q .normal) s
 | .region _ ops true,Q,s=>Ww P V (Fh ops.toList []) (Ik ops ops.toList) 0 (Q .normal) [] s
 | .seq a b,Q,s=>Di P V a (NF (Di P V b Q) Q) s
 | .cond c a b,Q,s=>uH (Di P V a) (Di P V b) Q s (Ay s.tm c)
 | .block id c,Q,s=>Di P V c (mG id Q) s
 | .loop c,Q,s=>Ba (Di P V c) Q s
 | .exit id,Q,s=>Q (.exit id) s
 | .ret,Q,s=>Q .ret s
 |_,_,_=>False
end Go.Ae
