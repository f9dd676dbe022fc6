/- Lemmas. Conditions: none. -/
import Derived.Orders
import Derived.Below
import Derived.Laws.Sem
set_option linter.all false
set_option maxHeartbeats 8000000
set_option maxRecDepth 100000
namespace Go
def AD:=@Option.some.inj
def AJ:=@Option.some.injEq
def AM:=@Option.getD_some
def AZ:=@List.mem_of_getElem?
def Bj:=@List.getElem?_eq_getElem
def AR:=@Bool.and_eq_true
def Af:=@if_neg
def Br:=@Option.some_beq_some
def Cd:=@List.getElem?_eq_some_iff
def An:=@if_pos
def AP:=@Nat.le_refl
def Bx:=@Int.toNat_natCast
def BW:=@List.mem_cons_of_mem
def Be:=@List.map_cons
def BJ:=@List.mem_singleton
def BS:=@List.mem_cons_self
def Bv:=@List.mem_append
def BK:=@decide_eq_true_eq
def Bk:=@List.mem_cons
def BA:=@List.mem_range
def Dl:=@List.drop_eq_nil_of_le
def Dm:=@List.getElem?_set_self
def Ce:=@List.length_take
def Dx:=@Option.map_eq_some_iff
def Bt:=@List.mem_map
def DY:=@List.take_of_length_le
def EB:=@List.getElem?_append_left
def Eg:=@Option.bind_eq_some_iff
def Dj:=@List.getD_cons_zero
def DF:=@List.getElem?_set_ne
def CY:=@Bool.false_eq_true
def CB:=@List.length_drop
def Df:=@List.length_append
def F3:=@List.getElem?_append_right
def CM:=@List.length_cons
def CP:=@List.cons_append
def D1:=@List.getElem?_map
def CQ:=@Option.map_some
def Dw:=@List.all_eq_true
def BD:=@cond_false
def D2:=@List.append_nil
def EH:=@Array.length_toList
def EI:=@List.getD_cons_succ
def HE:=@Array.getD_eq_getD_getElem?
def FE:=@List.getElem?_eq_none
def G9:=@List.getElem?_cons_zero
def Cx:=@Nat.zero_le
def Ey:=@Option.bind_some
def HF:=@List.getElem?_cons_succ
def GX:=@Array.getElem?_toList
def J4:=@Array.getElem?_eq_getElem
def D3:=@Nat.le_trans
def DZ:=@Bool.true_and
def Ck:=@cond_true
def Gk:=@Nat.lt_of_lt_of_le
def HG:=@List.contains_iff_mem
def FU:=@Bool.not_eq_false
def EX:=@List.length_set
def EC:=@List.drop_drop
def HI:=@Nat.mul_le_mul_right
def Ez:=@Prod.mk.injEq
def GA:=@Classical.not_not
def GB:=@List.flatMap_cons
def Kk:=@decide_eq_false_iff_not
def Io:=@List.getElem?_range
def Ip:=@beq_eq_false_iff_ne
def F5:=@Bool.false_and
def GC:=@List.take_length
def Hr:=@List.append_assoc
def Lo:=@List.getElem?_replicate
def Oh:=@List.eq_of_mem_replicate
def Iq:=@List.getElem?_drop
def Kl:=@List.mem_iff_getElem?
def BM:=@if_true
def GD:=@List.map_append
def F6:=@Bool.and_true
def Km:=@List.mem_append_left
def Rj:=@Array.getElem?_eq_some_iff
def GY:=@Bool.or_eq_true
def GZ:=@List.length_map
def Ha:=@List.length_nil
def Hb:=@List.nil_append
def Il:=@List.take_add_one
def Fh:=@Nat.lt_or_ge
def Qj:=@List.length_eq_zero_iff
def CH:=@if_false
def Oe:=@List.length_replicate
def Of:=@List.take_append_drop
def CR:=@congrArg
def Ln:=@List.take_succ_cons
def VE:=@List.drop_eq_getElem_cons
def Hq:=@List.drop_zero
def E3:=@Nat.blt_eq
def Im:=@List.nodup_cons
def FT:=@Nat.zero_add
def Ki:=@Bool.not_eq_true'
def Kj:=@List.ext_getElem?
def Og:=@List.map_congr_left
def F4:=@Nat.add_mul
def Ri:=@List.mem_append_right
def Xd:=@List.mem_or_eq_of_mem_set
def Qk:=@List.drop_succ_cons
def Hc:=@List.map_nil
def Hd:=@Nat.sub_self
def Lq:=@Bool.not_eq_true
def Oi:=@List.size_toArray
def fM:=@Array.getElem?_setIfInBounds
def Xg:=@Array.getElem?_eq_none
def Qn:=@Bool.eq_false_iff
def fN:=@Int.tmod_eq_emod_of_nonneg
def fO:=@Classical.byContradiction
def Xh:=@Option.some_beq_none
def VF:=@List.pairwise_cons
def fP:=@Array.getElem?_replicate
def Rl:=@List.getElem_mem
def Lr:=@List.all_cons
def VG:=@List.nodup_append
def Ls:=@List.sum_cons
def Ht:=@Nat.ble_eq
def IE:=@Nat.one_mul
def fQ:=@List.zipWith_cons_cons
def Rm:=@List.find?_some
def mE:=@List.mem_of_find?_eq_some
def VH:=@Array.toList_map
def VI:=@List.drop_append
def uV:=@List.eq_nil_of_length_eq_zero
def Lu:=@List.map_set
def Rn:=@List.take_zero
def VJ:=@Bool.eq_iff_iff
def Qo:=@Bool.or_false
def ZO:=@List.contains_cons
def lY:=@List.filter_cons_of_neg
def ZP:=@List.find?_eq_none
def ZQ:=@List.getElem?_take
def ZR:=@List.set_cons_zero
def Ql:=@Nat.add_assoc
def ZS:=@Option.isSome_none
def fK:=@List.mem_iff_getElem
def EJ:=@Ne.symm
def lZ:=@Classical.epsilon_spec
def Lp:=@Int.le_refl
def ZU:=@List.contains_nil
def fL:=@List.length_pos_iff
def ZV:=@List.length_range
def Xe:=@List.mem_filter
def mA:=@List.set_append_right
def Qm:=@Nat.add_zero
def mB:=@Nat.le_of_ble_eq_true
def ZW:=@Array.toList_inj
def uS:=@List.eraseIdx_cons_succ
def uU:=@Nat.add_sub_cancel_left
def Hs:=@and_self
def Xf:=@Bool.not_false
def Rk:=@List.map_map
def mC:=@List.filter_eq_self
def mD:=@List.length_reverse
def ZY:=@decide_eq_false
def Oj:=@Array.ext'
def fV:=@Nat.min_le_right
def vA:=@Array.getElem?_append
def vB:=@Bool.and_eq_false_iff
def mI:=@List.set_cons_succ
def mJ:=@Nat.eq_zero_or_pos
def Zdh:=@List.pairwise_iff_getElem
def fW:=@List.cons.injEq
def fX:=@List.foldl_cons
def Qp:=@beq_iff_eq
def Lv:=@forall_eq
def aA:=@Bool.false_or
def vC:=@List.mem_map_of_mem
def Zdo:=@List.drop_append_of_le_length
def mK:=@List.not_mem_nil
def fY:=@Bool.and_false
def fZ:=@List.Perm.refl
def gA:=@Option.none_or
def Zdt:=@List.length_eq_one_iff
def vD:=@Array.extract_size
def vG:=@List.filter_append
def vH:=@Option.toList_some
def Zdx:=@List.getElem?_toArray
def Zdy:=@List.length_filter_le
def Zdz:=@List.length_singleton
def mF:=@List.range_succ
def mG:=@Nat.not_lt_zero
def ZX:=@Nat.sub_zero
def fR:=@Bool.and_self
def fS:=@List.take_add
def uW:=@Nat.lt_trichotomy
def ZdG:=@Array.getElem?_append_left
def ZdH:=@Array.toList_setIfInBounds
def ZdI:=@List.nodup_iff_pairwise_ne
def ZdJ:=@List.mem_of_mem_take
def ZdK:=@List.isEmpty_eq_false_iff
def uX:=@beq_self_eq_true
def ZdM:=@List.flatMap_append
def ZdN:=@Array.size_setIfInBounds
def fT:=@Bool.true_or
def ZdP:=@List.getElem?_take_of_lt
def fU:=@Nat.zero_mul
def mH:=@Bool.not_true
def ZdS:=@Int.tmod_lt_of_pos
def uY:=@List.all_append
def ZdU:=@List.filter_cons_of_pos
def ZdV:=@List.zipWith_nil_right
def ZdW:=@Array.toList_push
def ZdX:=@not_false_eq_true
def uZ:=@decide_eq_true
def ZdZ:=@Array.getElem?_modify
def Zea:=@Int.mul_le_mul_of_nonneg_right
def Zeb:=@List.any_eq_true
def Zec:=@List.filter_cons
def Zed:=@forall_eq_or_imp
def Zee:=@List.length_eraseIdx
def Zef:=@List.range_eq_range'
def Zeg:=@Array.getElem?_append_right
def Zeh:=@Array.toList_append
def Zei:=@Array.toList_modify
def Zej:=@Int.tmod_nonneg
def Zek:=@Int.toNat_of_nonneg
def Zel:=@List.find?_cons
def Zem:=@List.replicate_succ
def Zen:=@List.toList_toArray
def Zeo:=@Int.fdiv_eq_ediv_of_nonneg
def Zep:=@Int.tdiv_eq_ediv_of_nonneg
def Zeq:=@List.exists_cons_of_ne_nil
def Zer:=@List.perm_append_singleton
def Zes:=@List.perm_ext_iff_of_nodup
def Zet:=@Array.ext_getElem?
def Zeu:=@Array.toList_range
def Zev:=@List.getElem_range
def vI:=@List.set_set
def vJ:=@Nat.add_comm
def Zey:=@Array.mapM_eq_mapM_toList
def Zez:=@Bool.and_assoc
def ZeA:=@List.foldl_nil
def ZeB:=@List.getElem?_eq_none_iff
def ZeC:=@List.take_left
def ZeD:=@Decidable.not_not
def ZeE:=@List.Pairwise.imp
def ZeF:=@List.Perm.eq_of_pairwise
def ZeG:=@Option.isSome_iff_exists
def ZeH:=@List.eraseIdx_cons_zero
def ZeI:=@Bool.cond_eq_ite
def ZeJ:=@List.flatMap_nil
def ZeK:=@List.mem_flatMap
def ZeL:=@Array.getElem?_mapIdx
def ZeM:=@Array.mem_of_getElem?
def ZeN:=@Bool.or_true
def ZeO:=@List.Perm.append_left
def ZeP:=@List.eraseIdx_sublist
def ZeQ:=@List.filter_nil
def ZeR:=@List.getElem?_reverse
def ZeS:=@List.head?_cons
def ZeT:=@List.range_zero
def ZeU:=@List.sum_nil
def ZeV:=@Nat.le_of_eq
def ZeW:=@Nat.min_eq_left
def ZeX:=@Nat.succ_mul
def mL:=@and_assoc
def ZeZ:=@decide_false
def gB:=@or_false
def Zfb:=@Array.toList_extract
def Zfc:=@List.mem_of_mem_drop
def Zfd:=@List.drop_take
def Zfe:=@Option.some_or
def aB:=@eq_true
def Zfg:=@List.drop_nil
def Zfh:=@List.take_nil
def Zfi:=@Nat.lt_irrefl
def Zfj:=@Int.add_zero
def vL:=@ite_self
def vM:=@true_and
def aC:=@not_or
end Go
namespace Go.Ae
def Mb(g:Nat):Bool:=g==0||g==1
def GE(ok:Nat->Prop)(hp:Nat->Option Obj)(g:Nat)(a:Addr):Prop:=
 ok g/\(∃T z,hp g=some (.cells #[.iface 392 (.pointer (some a))] T z))/\ok a.block/\ ∃c T,hp a.block=some (.cells c T (0,0))
def GP(ok:Nat->Prop)(hp:Nat->Option Obj):Prop:=
 ∃a:Nat->Addr,(∀g,Mb g=true->GE ok hp g (a g))/\ ∀g g',Mb g=true->Mb g'=true->g≠g'->a g≠a g'
def GP.mono{ok ok':Nat->Prop}{hp hp':Nat->Option Obj}(h: ∀b o,ok b->hp b=some o->ok' b/\hp' b=some o)(hg:GP ok hp):GP ok' hp':=by
 obtain⟨a,Z,h2⟩:=hg;refine⟨a,λg z=> ?_,h2⟩;obtain⟨k1,⟨T,Q,k2⟩,G,c,U,O⟩:=Z g z;exact⟨(h g _ k1 k2).1,⟨T,Q,(h g _ k1 k2).2⟩,(h _ _ G O).1,c,U,(h _ _ G O).2⟩
def GP.at{ok:Nat->Prop}{hp:Nat->Option Obj}(h:GP ok hp){g:Nat}(O:Mb g=true):ok g/\ ∃t x T z,hp g=some (.cells #[.iface t x] T z):=by
 obtain⟨a,G,_⟩:=h;obtain⟨k1,⟨T,z,k2⟩,_⟩:=G g O;exact⟨k1,_,_,T,z,k2⟩
end Go.Ae
namespace Go.Ae
inductive KK where
 |int (k:IntKind)
 |str
 |bool
 deriving DecidableEq
structure KT where
 agg:Bool
 ks:List KK
 deriving DecidableEq
inductive D where
 |int (k:IntKind) (n:Int)
 |bool (b:Bool)
 |str (s:ByteArray)
 |nilp|nilf|nili|nilc|nilm
 |agg (cs:List D)
 |tup (cs:List D)
 |sl (nz:Bool) (k:Nat) (rows:List (List D))
 |ref (cs:List D)
 |mp (kt:KT) (es:List (D×D))
 |fn (f:FuncId) (first capt:List D)
 |ifc (t:TypeId) (d:D)
 |gp (g:Nat)
 |tok (g:Nat)
def KK.fit:KK->D->Bool
 | .int k,.int k' _=>k==k'
 | .str,.str _=>true
 | .bool,.bool _=>true
 |_,_=>false
def B0:List KK->List D->Bool
 |[],[]=>true
 |k::ks,d::ds=>k.fit d && B0 ks ds
 |_,_=>false
def KT.fit(z:KT)(d:D):Bool:=
 match z.agg,d with
 |true,.agg ds=>B0 z.ks ds
 |false,d=>B0 z.ks [d]
 |_,_=>false
def KX:Nat:=140737488355328
def VK(f:Nat):Fn:=if f<1000000000 then .func f else .yield (f - 1000000000)
def WT{f:Nat}(h:f<1000000000):VK f= .func f:=An h
def xL(nz:Bool)(v:Value):Prop:=v= .slice none 0 0\/(nz=false/\ ∃a,v= .slice (some a) 0 0)
def tJ{nz:Bool}{v:Value}(h:xL nz v): ∃z,v= .slice z 0 0:=by
 rcases h with rfl|⟨_,a,rfl⟩<;>exact⟨_,rfl⟩
def Qr7{v:Value}(h:xL true v):v= .slice none 0 0:=by
 rcases h with rfl|⟨h,_⟩
 .rfl
 .cases h
def Pv{nz:Bool}{v:Value}(h:xL nz v):xL false v:=by
 rcases h with rfl|⟨_,a,rfl⟩
 .exact .inl rfl
 .exact .inr ⟨rfl,a,rfl⟩
mutual
def rd(ok:Nat->Prop)(hp:Nat->Option Obj):D->Value->Prop
 | .int k n,v=>v= .int k n
 | .bool b,v=>v= .bool b
 | .str s,v=>v= .string s
 | .nilp,v=>v= .pointer none
 | .nilf,v=>v= .nilFunc
 | .nili,v=>v= .nilIface
 | .nilc,v=>v= .chan none
 | .nilm,v=>v= .map none
 | .agg Q,v=> ∃O:Array Value,v= .agg O/\rdl ok hp Q O.toList
 | .tup Q,v=> ∃O:Array Value,v= .tuple O/\rdl ok hp Q O.toList
 | .sl nz k rows,v=>(xL nz v/\rows=[])\/
  ∃b p cap O T Z,v= .slice (some ⟨b,p,none⟩) rows.length cap/\(nz=true->rows≠[])/\rows.length<=cap/\rows.length<=KX/\ok b/\
   hp b=some (.cells O T Z)/\rdr ok hp k rows (O.toList.drop p)
 | .ref Q,v=> ∃b p O T Z,v= .pointer (some ⟨b,p,none⟩)/\ok b/\hp b=some (.cells O T Z)/\rdp ok hp Q (O.toList.drop p)
 | .mp kt es,v=> ∃b z G,v= .map (some b)/\(∀e∈es,kt.fit e.1=true)/\ok b/\hp b=some (.map z G)/\rde ok hp es z.toList/\(z.toList.map (·.born)).Nodup/\ ∀e∈z.toList,e.born<G
 | .fn f first capt,v=> ∃a c:Array Value,v= .func (VK f) a c/\rdl ok hp first a.toList/\rdl ok hp capt c.toList
 | .ifc t d,v=> ∃x,v= .iface t x/\rd ok hp d x
 | .gp g,v=>v= .pointer (some ⟨g,0,none⟩)
 | .tok g,v=>ok g/\(∃t x,v= .iface t x)/\ ∃T Z,hp g=some (.cells #[v] T Z)
def rdl(ok:Nat->Prop)(hp:Nat->Option Obj):List D->List Value->Prop
 |[],z=>z=[]
 |d::ds,z=> ∃v r,z=v::r/\rd ok hp d v/\rdl ok hp ds r
def rdp(ok:Nat->Prop)(hp:Nat->Option Obj):List D->List Value->Prop
 |[],_=>True
 |d::ds,z=> ∃v r,z=v::r/\rd ok hp d v/\rdp ok hp ds r
def rdr(ok:Nat->Prop)(hp:Nat->Option Obj)(k:Nat):List (List D)->List Value->Prop
 |[],_=>True
 |r::G,z=>r.length=k/\rdp ok hp r z/\rdr ok hp k G (z.drop k)
def rde(ok:Nat->Prop)(hp:Nat->Option Obj):List (D×D)->List MapEntry->Prop
 |[],z=>z=[]
 |(x,y)::ds,z=> ∃e r,z=e::r/\rd ok hp x e.key/\rd ok hp y e.val/\rde ok hp ds r
end
section mono
variable {ok ok':Nat->Prop}{hp hp':Nat->Option Obj}
mutual
def GM(h: ∀b,ok b->ok' b/\hp' b=hp b): ∀(d:D) (v:Value),rd ok hp d v->rd ok' hp' d v
 | .int _ _,_,hd=>by simpa only[rd] using hd
 | .bool _,_,hd=>by simpa only[rd] using hd
 | .str _,_,hd=>by simpa only[rd] using hd
 | .nilp,_,hd=>by simpa only[rd] using hd
 | .nilf,_,hd=>by simpa only[rd] using hd
 | .nili,_,hd=>by simpa only[rd] using hd
 | .nilc,_,hd=>by simpa only[rd] using hd
 | .nilm,_,hd=>by simpa only[rd] using hd
 | .gp _,_,hd=>by simpa only[rd] using hd
 | .tok g,v,hd=>by
   simp only[rd] at hd⊢;obtain⟨z,h3,T,fr,h2⟩:=hd;exact⟨(h g z).1,h3,T,fr,(h g z).2.trans h2⟩
 | .agg Z,v,hd=>by
   simp only[rd] at hd⊢;obtain⟨Q,rfl,z⟩:=hd;exact⟨Q,rfl,La h Z _ z⟩
 | .tup Z,v,hd=>by
   simp only[rd] at hd⊢;obtain⟨Q,rfl,z⟩:=hd;exact⟨Q,rfl,La h Z _ z⟩
 | .sl nz k rows,v,hd=>by
   simp only[rd] at hd⊢;rcases hd with hd|⟨b,p,cap,Q,T,fr,rfl,z,h2,h3,G,h5,h6⟩
   .exact .inl hd
   .exact .inr ⟨b,p,cap,Q,T,fr,rfl,z,h2,h3,(h b G).1,(h b G).2.trans h5,Z2 h k rows _ h6⟩
 | .ref Z,v,hd=>by
   simp only[rd] at hd⊢;obtain⟨b,p,Q,T,fr,rfl,G,h5,h6⟩:=hd;exact⟨b,p,Q,T,fr,rfl,(h b G).1,(h b G).2.trans h5,Z1 h Z _ h6⟩
 | .mp kt es,v,hd=>by
   simp only[rd] at hd⊢;obtain⟨b,aa,O,rfl,h3,G,h5,h6,h7⟩:=hd;exact⟨b,aa,O,rfl,h3,(h b G).1,(h b G).2.trans h5,KZ h es _ h6,h7⟩
 | .fn f first capt,v,hd=>by
   simp only[rd] at hd⊢;obtain⟨a,c,rfl,z,h2⟩:=hd;exact⟨a,c,rfl,La h first _ z,La h capt _ h2⟩
 | .ifc t d,v,hd=>by
   simp only[rd] at hd⊢;obtain⟨x,rfl,z⟩:=hd;exact⟨x,rfl,GM h d _ z⟩
def La(h: ∀b,ok b->ok' b/\hp' b=hp b): ∀(ds:List D) (vs:List Value),rdl ok hp ds vs->rdl ok' hp' ds vs
 |[],_,hd=>by simpa only[rdl] using hd
 |d::ds,vs,hd=>by
  simp only[rdl] at hd⊢;obtain⟨v,r,rfl,z,G⟩:=hd;exact⟨v,r,rfl,GM h d v z,La h ds r G⟩
def Z1(h: ∀b,ok b->ok' b/\hp' b=hp b): ∀(ds:List D) (vs:List Value),rdp ok hp ds vs->rdp ok' hp' ds vs
 |[],_,_=>by simp only[rdp]
 |d::ds,vs,hd=>by
  simp only[rdp] at hd⊢;obtain⟨v,r,rfl,z,G⟩:=hd;exact⟨v,r,rfl,GM h d v z,Z1 h ds r G⟩
def Z2(h: ∀b,ok b->ok' b/\hp' b=hp b)(k:Nat): ∀(z:List (List D)) (vs:List Value),rdr ok hp k z vs->rdr ok' hp' k z vs
 |[],_,_=>by simp only[rdr]
 |r::z,vs,hd=>by
  simp only[rdr] at hd⊢;exact⟨hd.1,Z1 h r vs hd.2.1,Z2 h k z _ hd.2.2⟩
def KZ(h: ∀b,ok b->ok' b/\hp' b=hp b): ∀(ds:List (D×D)) (es:List MapEntry),rde ok hp ds es->rde ok' hp' ds es
 |[],_,hd=>by simpa only[rde] using hd
 |(x,y)::ds,es,hd=>by
  simp only[rde] at hd⊢;obtain⟨e,r,rfl,z,G,O⟩:=hd;exact⟨e,r,rfl,GM h x _ z,GM h y _ G,KZ h ds r O⟩
end
end mono
def D.sc:D->Bool
 | .int _ _| .bool _| .str _| .nilp| .nilf| .nili| .nilc| .nilm=>true
 | .sl true _ []=>true
 |_=>false
def D.scs:D->Bool
 | .agg z| .tup z=>z.all D.sc
 |d=>d.sc
def MA{ok ok':Nat->Prop}{hp hp':Nat->Option Obj}: ∀{d:D} {v:Value},d.sc=true->rd ok hp d v->rd ok' hp' d v:=by
 intro d v h hd;cases d
 case sl nz k rows=>
  cases nz<;>cases rows<;>simp only[D.sc,CY] at h;simp only[rd] at hd⊢;rcases hd with hd|⟨b,p,cap,O,T,G,_,z,_⟩
  .exact .inl hd
  .exact absurd rfl (z trivial)
 all_goals simp_all [D.sc,rd]
def Ud{ok ok':Nat->Prop}{hp hp':Nat->Option Obj}: ∀(ds:List D) (vs:List Value),ds.all D.sc=true->rdl ok hp ds vs->rdl ok' hp' ds vs
 |[],_,_,hd=>by simpa only[rdl] using hd
 |d::ds,vs,h,hd=>by
  simp only[rdl,Lr,AR] at hd h⊢;obtain⟨v,r,rfl,z,G⟩:=hd;exact⟨v,r,rfl,MA h.1 z,Ud ds r h.2 G⟩
def KH{ok ok':Nat->Prop}{hp hp':Nat->Option Obj}: ∀{d:D} {v:Value},d.scs=true->rd ok hp d v->rd ok' hp' d v:=by
 intro d v h hd;cases d<;>simp only[D.scs] at h<;>try exact MA h hd
 all_goals
  simp only[rd] at hd⊢;obtain⟨G,rfl,z⟩:=hd;exact⟨G,rfl,Ud _ _ h z⟩
inductive AV where
 |any
 |im (d:D)
 |agg (cs:List AV)
 |tup (cs:List AV)
 |ptr (o off:Nat)
 |eptr (o i off:Nat)
 |own (o:Nat)
 |mp (o:Nat)
 |ch (o:Nat)
 |it (o:Nat)
 |osl (o a n:Nat)
 |clo (f:FuncId) (first capt:List AV)
 deriving Inhabited
inductive Ad where
 |cells (T:TypeId) (cs:List AV)
 |arr (T:TypeId) (k:Nat) (rows:List (List D))
 |arrA (T:TypeId) (k:Nat) (rows:List (List AV))
 |map (kt:KT) (es:List (D×D))
 |chan (q:List D) (cap:Nat)
 |iter (last:Option (D×D)) (left:List (D×D))
 |view (cs:List D)
def Ad.isView:Ad->Bool
 | .view _=>true
 | .cells _ _| .arr _ _ _| .arrA _ _ _| .map _ _| .chan _ _| .iter _ _=>false
abbrev Au:=Bool×Ad
abbrev Aw:=List (Nat×Au)
structure F7 where
 b:Nat
 p:Nat
 cap:Nat
structure A8 where
 ρ:Nat->Option F7
 ok:Nat->Prop
 h:Nat->Option Au
 w:World
def A8.hp(S:A8):Nat->Option Obj:=λb=>S.w.heap[b]?
def Ad.len:Ad->Nat
 | .arr _ _ rows=>rows.length
 | .arrA _ _ rows=>rows.length
 |_=>0
def Ad.esz:Ad->Nat
 | .arr _ k _=>k
 | .arrA _ k _=>k
 |_=>0
def PU(r:Option F7)(z len a n:Nat)(v:Value):Prop:=match r with
 |none=>v= .slice none 0 0/\n=0
 |some l=> ∃p G,v= .slice (some ⟨l.b,p,none⟩) n G/\n<=G/\(n≠0->p=l.p+a*z)/\a+n<=len
mutual
def Aa(S:A8):AV->Value->Prop
 | .any,_=>True
 | .im d,v=>rd S.ok S.hp d v
 | .agg G,v=> ∃z:Array Value,v= .agg z/\AN S G z.toList
 | .tup G,v=> ∃z:Array Value,v= .tuple z/\AN S G z.toList
 | .ptr o off,v=>v.oneCell'=true/\ ∀e,S.h o=some e-> ∃l,S.ρ o=some l/\v= .pointer (some ⟨l.b,l.p+off,none⟩)
 | .eptr o i off,v=>v.oneCell'=true/\ ∀e,S.h o=some e-> ∃l,S.ρ o=some l/\v= .pointer (some ⟨l.b,l.p+i*e.2.esz+off,none⟩)
 | .own o,v=>v.oneCell'=true/\ ∀e,S.h o=some e->match S.ρ o with
  |none=>v= .slice none 0 0
  |some l=>v= .slice (some ⟨l.b,l.p,none⟩) e.2.len l.cap
 | .mp o,v=>v.oneCell'=true/\ ∀e,S.h o=some e-> ∃l,S.ρ o=some l/\v= .map (some l.b)
 | .ch o,v=>v.oneCell'=true/\ ∀e,S.h o=some e-> ∃l,S.ρ o=some l/\v= .chan (some l.b)
 | .it o,v=>v.oneCell'=true/\ ∀e,S.h o=some e-> ∃l,S.ρ o=some l/\v= .pointer (some ⟨l.b,0,none⟩)
 | .osl o a n,v=>v.oneCell'=true/\ ∀e,S.h o=some e->PU (S.ρ o) e.2.esz e.2.len a n v
 | .clo f first capt,v=> ∃a c:Array Value,v= .func (VK f) a c/\AN S first a.toList/\AN S capt c.toList
def AN(S:A8):List AV->List Value->Prop
 |[],z=>z=[]
 |x::xs,z=> ∃v r,z=v::r/\Aa S x v/\AN S xs r
end
def Cu(S:A8):List AV->List Value->Prop
 |[],_=>True
 |x::xs,z=> ∃v r,z=v::r/\Aa S x v/\Cu S xs r
def BG(S:A8)(k:Nat):List (List AV)->List Value->Prop
 |[],_=>True
 |r::G,z=>r.length=k/\Cu S r z/\BG S k G (z.drop k)
def SY(ok:Nat->Prop)(hp:Nat->Option Obj)(z:Array MapEntry)(G:Array Nat):Option (D×D)->Prop
 |none=>True
 |some (x,y)=> ∃st e,G.back? =some st/\z.find? (·.born==st)=some e/\rd ok hp x e.key/\rd ok hp y e.val
def Av(S:A8)(l:Option F7):Ad->Prop
 | .cells T cs=> ∃O Q,l=some O/\O.p=0/\S.hp O.b=some (.cells Q T (0,0))/\AN S cs Q.toList
 | .arr T k rows=>rows.length<=KX/\match l with
  |none=>rows=[]
  |some O=>rows.length<=O.cap/\ ∃Q,S.hp O.b=some (.cells Q T (0,0))/\O.p+O.cap*k<=Q.size/\rdr S.ok S.hp k rows (Q.toList.drop O.p)
 | .arrA T k rows=>rows.length<=KX/\match l with
  |none=>rows=[]
  |some O=>rows.length<=O.cap/\ ∃Q,S.hp O.b=some (.cells Q T (0,0))/\O.p+O.cap*k<=Q.size/\BG S k rows (Q.toList.drop O.p)
 | .map kt es=> ∃O z G,l=some O/\(∀e∈es,kt.fit e.1=true)/\S.hp O.b=some (.map z G)/\rde S.ok S.hp es z.toList/\
  (z.toList.map (·.born)).Nodup/\ ∀e∈z.toList,e.born<G
 | .chan q cap=> ∃O aa ad ac,l=some O/\S.hp O.b=some (.chan cap aa false ad ac false)/\rdl S.ok S.hp q aa.toList
 | .iter ab left=> ∃O mb z G Z,l=some O/\S.ok mb/\SY S.ok S.hp z Z ab/\S.hp mb=some (.map z G)/\
  S.hp O.b=some (.mapIter (some mb) G Z G)/\(z.toList.map (·.born)).Nodup/\(∀e∈z.toList,e.born<G)/\
  rde S.ok S.hp left (z.toList.filter λe=> !Z.contains e.born)
 | .view cs=> ∃O Q T fr,l=some O/\S.hp O.b=some (.cells Q T fr)/\rdp S.ok S.hp cs (Q.toList.drop O.p)
structure AW where
 w:World
 M:Nat->Prop
 ok:Nat->Prop
 n0:Nat
 h0:Nat->Option Au
 ρ0:Nat->Option F7
 ds:List Deferred
def AW.mk0(w:World)(M ok:Nat->Prop):AW:=⟨w,M,ok,0,λ_=>none,λ_=>none,[]⟩
def AW.Pre(C:AW)(S:A8):Prop:= ∀o,o<C.n0-> ∀e',S.h o=some e'-> ∃e,C.h0 o=some e/\S.ρ o=C.ρ0 o/\e'.2.esz=e.2.esz/\e'.2.len=e.2.len
structure Wf(C:AW)(S:A8):Prop where
 os:S.w.os=C.w.os
 tape:S.w.tape=C.w.tape
 output:S.w.output=C.w.output
 size:C.w.heap.size<=S.w.heap.size
 keep: ∀b,b<C.w.heap.size-> ¬C.M b->S.w.heap[b]? =C.w.heap[b]?
 ok0: ∀b,C.ok b->S.ok b
 ok1: ∀b,S.ok b->C.ok b\/C.w.heap.size<=b\/C.M b
 oks: ∀b,S.ok b->b<S.w.heap.size
 obj: ∀o e,S.h o=some e->Av S (S.ρ o) e.2
 loc: ∀o e l,S.h o=some e->S.ρ o=some l->l.b<S.w.heap.size/\if e.1 then ¬S.ok l.b/\(C.w.heap.size<=l.b\/C.M l.b) else S.ok l.b\/e.2.isView=true
 inj: ∀o o' e e' l l',S.h o=some e->S.h o'=some e'->S.ρ o=some l->S.ρ o'=some l'->l.b=l'.b->(e.1||e'.1)=true->o=o'
 gl:GP (λb=>C.ok b/\ ¬C.M b) (λb=>C.w.heap[b]?)
def Wf.gp{C:AW}{S:A8}(h:Wf C S):GP S.ok S.hp:=by
 refine h.gl.mono λb o hb z=>⟨h.ok0 b hb.1,?_⟩
 have G:b<C.w.heap.size:=by
  apply fO;intro hn
  have:C.w.heap[b]? =none:=Xg (by omega)
  rw[this] at z;cases z
 exact (h.keep b G hb.2).trans z
def Wf.glN{C:AW}{S:A8}(h:Wf C S){M:Nat->Prop}(z: ∀b,M b-> ¬S.ok b):GP (λb=>S.ok b/\ ¬M b) (λb=>S.w.heap[b]?):=
 h.gp.mono λb _ hb O=>⟨⟨hb,λG=>z b G hb⟩,O⟩
mutual
def AV.bel(n:Nat):AV->Bool
 | .any=>true
 | .im _=>true
 | .agg z=>Aq n z
 | .tup z=>Aq n z
 | .ptr o _=>Nat.blt o n
 | .eptr o _ _=>Nat.blt o n
 | .own o=>Nat.blt o n
 | .mp o=>Nat.blt o n
 | .ch o=>Nat.blt o n
 | .it o=>Nat.blt o n
 | .osl o _ _=>Nat.blt o n
 | .clo _ a c=>Aq n a && Aq n c
def Aq(n:Nat):List AV->Bool
 |[]=>true
 |x::r=>x.bel n && Aq n r
end
mutual
def AV.nms:AV->List Nat
 | .any=>[]
 | .im _=>[]
 | .agg z=>AG z
 | .tup z=>AG z
 | .ptr o _=>[o]
 | .eptr o _ _=>[o]
 | .own o=>[o]
 | .mp o=>[o]
 | .ch o=>[o]
 | .it o=>[o]
 | .osl o _ _=>[o]
 | .clo _ a c=>AG a++AG c
def AG:List AV->List Nat
 |[]=>[]
 |x::r=>x.nms++AG r
end
def B6:List (List AV)->List Nat
 |[]=>[]
 |x::r=>AG x++B6 r
def Ad.nms:Ad->List Nat
 | .cells _ z=>AG z
 | .arr _ _ _=>[]
 | .arrA _ _ rows=>B6 rows
 | .map _ _=>[]
 | .chan _ _=>[]
 | .iter _ _=>[]
 | .view _=>[]
structure B1(X:Nat->Prop)(S S':A8):Prop where
 ok: ∀b,S.ok b->S'.ok b/\S'.hp b=S.hp b
 nm: ∀o,X o-> ∀e',S'.h o=some e'-> ∃e,S.h o=some e/\S'.ρ o=S.ρ o/\e'.2.esz=e.2.esz/\e'.2.len=e.2.len
def B1.refl(X:Nat->Prop)(S:A8):B1 X S S:=⟨λ_ h=>⟨h,rfl⟩,λ_ _ e' h=>⟨e',h,rfl,rfl,rfl⟩⟩
section
variable {X:Nat->Prop}{S S':A8}
mutual
def Ic(hp:B1 X S S'): ∀(x:AV) (v:Value),(∀o∈x.nms,X o)->Aa S x v->Aa S' x v
 | .any,_,_,_=>by simp only[Aa]
 | .im d,v,_,h=>by
   simp only[Aa] at h⊢;exact GM hp.ok d v h
 | .agg cs,v,G,h=>by
   simp only[Aa,AV.nms] at h G⊢;obtain⟨vs,rfl,h1⟩:=h;exact⟨vs,rfl,Vz hp cs _ G h1⟩
 | .tup cs,v,G,h=>by
   simp only[Aa,AV.nms] at h G⊢;obtain⟨vs,rfl,h1⟩:=h;exact⟨vs,rfl,Vz hp cs _ G h1⟩
 | .ptr o off,v,G,h=>by
   simp only[Aa,AV.nms,BJ,Lv] at h G⊢;obtain⟨z,h⟩:=h;refine⟨z,?_⟩;intro e' O;obtain⟨e,Q,Z,_,_⟩:=hp.nm o G e' O;rw[Z];exact h e Q
 | .eptr o i off,v,G,h=>by
   simp only[Aa,AV.nms,BJ,Lv] at h G⊢;obtain⟨z,h⟩:=h;refine⟨z,?_⟩;intro e' O;obtain⟨e,Q,Z,hz,_⟩:=hp.nm o G e' O;rw[Z,hz];exact h e Q
 | .own o,v,G,h=>by
   simp only[Aa,AV.nms,BJ,Lv] at h G⊢;obtain⟨z,h⟩:=h;refine⟨z,?_⟩;intro e' O;obtain⟨e,Q,Z,_,hl⟩:=hp.nm o G e' O;rw[Z,hl];exact h e Q
 | .mp o,v,G,h=>by
   simp only[Aa,AV.nms,BJ,Lv] at h G⊢;obtain⟨z,h⟩:=h;refine⟨z,?_⟩;intro e' O;obtain⟨e,Q,Z,_,_⟩:=hp.nm o G e' O;rw[Z];exact h e Q
 | .ch o,v,G,h=>by
   simp only[Aa,AV.nms,BJ,Lv] at h G⊢;obtain⟨z,h⟩:=h;refine⟨z,?_⟩;intro e' O;obtain⟨e,Q,Z,_,_⟩:=hp.nm o G e' O;rw[Z];exact h e Q
 | .it o,v,G,h=>by
   simp only[Aa,AV.nms,BJ,Lv] at h G⊢;obtain⟨z,h⟩:=h;refine⟨z,?_⟩;intro e' O;obtain⟨e,Q,Z,_,_⟩:=hp.nm o G e' O;rw[Z];exact h e Q
 | .osl o a n,v,G,h=>by
   simp only[Aa,AV.nms,BJ,Lv] at h G⊢;obtain⟨z,h⟩:=h;refine⟨z,?_⟩;intro e' O;obtain⟨e,Q,Z,hz,hl⟩:=hp.nm o G e' O;rw[Z,hz,hl];exact h e Q
 | .clo f fi ca,v,G,h=>by
   simp only[Aa,AV.nms,Bv] at h G⊢;obtain⟨a,c,rfl,h1,h2⟩:=h;exact⟨a,c,rfl,Vz hp fi _ (λo ho=>G o (.inl ho)) h1,Vz hp ca _ (λo ho=>G o (.inr ho)) h2⟩
def Vz(hp:B1 X S S'): ∀(xs:List AV) (vs:List Value),(∀o∈AG xs,X o)->AN S xs vs->AN S' xs vs
 |[],_,_,h=>by simpa only[AN] using h
 |x::xs,vs,G,h=>by
  simp only[AN,AG,Bv] at h G⊢;obtain⟨v,r,rfl,O,Q⟩:=h;exact⟨v,r,rfl,Ic hp x v (λo z=>G o (.inl z)) O,Vz hp xs r (λo z=>G o (.inr z)) Q⟩
end
def Qq7(hp:B1 X S S'): ∀(xs:List AV) (vs:List Value),(∀o∈AG xs,X o)->Cu S xs vs->Cu S' xs vs
 |[],_,_,_=>by simp only[Cu]
 |x::xs,vs,G,h=>by
  simp only[Cu,AG,Bv] at h G⊢;obtain⟨v,r,rfl,O,Q⟩:=h;exact⟨v,r,rfl,Ic hp x v (λo z=>G o (.inl z)) O,Qq7 hp xs r (λo z=>G o (.inr z)) Q⟩
def rR(hp:B1 X S S')(k:Nat): ∀(z:List (List AV)) (vs:List Value),(∀o∈B6 z,X o)->BG S k z vs->BG S' k z vs
 |[],_,_,_=>by simp only[BG]
 |r::z,vs,O,h=>by
  simp only[BG,B6,Bv] at h O⊢;exact⟨h.1,Qq7 hp r vs (λo G=>O o (.inl G)) h.2.1,rR hp k z _ (λo G=>O o (.inr G)) h.2.2⟩
def Qly{ok ok':Nat->Prop}{hp hp':Nat->Option Obj}(h: ∀b,ok b->ok' b/\hp' b=hp b){z:Array MapEntry}{G:Array Nat}: ∀(l:Option (D×D)),SY ok hp z G l->SY ok' hp' z G l
 |none,_=>trivial
 |some (x,y),O=>by
  obtain⟨st,e,a,b,c,d⟩:=O;exact⟨st,e,a,b,GM h x _ c,GM h y _ d⟩
def Ib(hp:B1 X S S'){l:Option F7}(hl: ∀z,l=some z->S'.hp z.b=S.hp z.b): ∀(e:Ad),(∀o∈e.nms,X o)->Av S l e->Av S' l e
 | .cells T cs,hx,h=>by
   simp only[Av,Ad.nms] at h hx⊢;obtain⟨z,vs,G,Q,Z,h4⟩:=h;exact⟨z,vs,G,Q,(hl z G).trans Z,Vz hp cs _ hx h4⟩
 | .arr T k rows,hx,h=>by
   simp only[Av] at h⊢;refine⟨h.1,?_⟩;cases l with
   |none=>exact h.2
   |some z=>
    obtain⟨h0,G,vs,Q,Z,h4⟩:=h;exact⟨G,vs,(hl z rfl).trans Q,Z,Z2 hp.ok k rows _ h4⟩
 | .arrA T k rows,hx,h=>by
   simp only[Av,Ad.nms] at h hx⊢;refine⟨h.1,?_⟩;cases l with
   |none=>exact h.2
   |some z=>
    obtain⟨h0,G,vs,Q,Z,h4⟩:=h;exact⟨G,vs,(hl z rfl).trans Q,Z,rR hp k rows _ hx h4⟩
 | .map kt es,_,h=>by
   simp only[Av] at h⊢;obtain⟨z,aa,O,G,h0,Q,Z,h4⟩:=h;exact⟨z,aa,O,G,h0,(hl z G).trans Q,KZ hp.ok es _ Z,h4⟩
 | .chan q cap,_,h=>by
   simp only[Av] at h⊢;obtain⟨z,ag,af,ac,G,Q,Z⟩:=h;exact⟨z,ag,af,ac,G,(hl z G).trans Q,La hp.ok q _ Z⟩
 | .iter ab left,_,h=>by
   simp only[Av] at h⊢;obtain⟨z,mb,aa,O,ad,G,Q,h0,Z,h4,h5,h6,h7⟩:=h;exact⟨z,mb,aa,O,ad,G,(hp.ok mb Q).1,Qly hp.ok ab h0,(hp.ok mb Q).2.trans Z,(hl z G).trans h4,h5,h6,KZ hp.ok left _ h7⟩
 | .view cs,_,h=>by
   simp only[Av] at h⊢;obtain⟨z,vs,T,fr,G,Q,Z⟩:=h;exact⟨z,vs,T,fr,G,(hl z G).trans Q,Z1 hp.ok cs _ Z⟩
end
inductive TK where
 |bool
 |str
 |ptr (e:TypeId)
 |int (k:IntKind)
 |slice (e:TypeId)
 |array (n:Nat) (e:TypeId)
 |struct (fs:List (Nat×Nat))
 |map (k e:TypeId)
 |other
structure TI where
 size:Nat
 bytes:Nat
 agg:Bool
 kind:TK
 zero:List D
def zD:Value->D
 | .bool b=> .bool b
 | .int k n=> .int k n
 | .string s=> .str s
 | .pointer none=> .nilp
 | .slice none _ _=> .sl true 0 []
 | .map none=> .nilm
 | .chan none=> .nilc
 | .nilFunc=> .nilf
 |_=> .nili
def bH:Value->Bool
 | .bool _| .int _ _| .string _| .pointer none| .slice none 0 0| .map none| .chan none| .nilFunc| .nilIface=>true
 |_=>false
def zOf:Bool->Option Value->List D
 |true,some (.agg z)=>bif z.toList.all bH then z.toList.map zD else []
 |false,some v=>bif bH v then [zD v] else []
 |_,_=>[]
def Xi:TypeDesc->Bool
 | .struct _| .array _ _=>true
 |_=>false
def Fv(P:Program):TypeDesc->TK
 | .int k=> .int k
 | .slice e=> .slice e
 | .array n e=> .array n e
 | .struct z=>bif z.toList.all (λf=>(P.info? f.type).isSome) then .struct (z.toList.map λf=>(f.offset,((P.info? f.type).map (·.size)).getD 0)) else .other
 | .map k e=> .map k e
 | .bool=> .bool
 | .string=> .str
 | .pointer e=> .ptr e
 |_=> .other
def tI(P:Program)(t:TypeId):Option TI:=
 match P.info? t,P.underlying t with
 |some i,some u=>some {size:=i.size,bytes:=i.bytes,agg:=Xi u,kind:=Fv P u,zero:=zOf (Xi u) i.zero}
 |_,_=>none
structure Bo where
 use:List Nat:=[]
 kill:List Nat:=[]
 new:Aw:=[]
 cnt:Nat:=0
structure Aj where
 tm:List (Nat×AV)
 h:Aw
 nx:Nat
def AE:List (Nat×AV)->Nat->AV
 |[],_=> .any
 |(m,x)::r,n=>bif m==n then x else AE r n
def hget:Aw->Nat->Option Au
 |[],_=>none
 |(m,e)::r,n=>bif m==n then some e else hget r n
def Bl:Aw->List Nat->Aw
 |[],_=>[]
 |(m,e)::r,ks=>bif ks.contains m then Bl r ks else (m,e)::Bl r ks
def Aj.put(s:Aj)(dst:Option Nat)(x:AV):Aj:=
 match dst with
 |some d=>⟨(d,x)::s.tm,s.h,s.nx⟩
 |none=>s
def Aj.app(s:Aj)(dst:Option Nat)(r:AV)(E:Bo):Aj:=
 (⟨s.tm,E.new++Bl s.h E.kill,s.nx+E.cnt⟩:Aj).put dst r
def kD:Value->AV
 | .bool b=> .im (.bool b)
 | .int k n=> .im (.int k n)
 | .string s=> .im (.str s)
 | .pointer none=> .im .nilp
 | .slice none 0 0=> .im (.sl true 0 [])
 | .map none=> .im .nilm
 | .chan none=> .im .nilc
 | .nilFunc=> .im .nilf
 | .nilIface=> .im .nili
 |_=> .any
def Ay(tm:List (Nat×AV)):Operand->AV
 | .tmp t=>AE tm t
 | .const v=>kD v
 | .global g=> .im (.gp g)
 | .func f=>bif Nat.blt f 1000000000 then .im (.fn f [] []) else .any
def D.cells:D->List D
 | .agg ds=>ds
 | .int k n=>[.int k n]
 | .bool b=>[.bool b]
 | .str s=>[.str s]
 | .nilp=>[.nilp]
 | .nilf=>[.nilf]
 | .nili=>[.nili]
 | .nilc=>[.nilc]
 | .nilm=>[.nilm]
 | .tup z=>[.tup z]
 | .sl Q k rows=>[.sl Q k rows]
 | .ref z=>[.ref z]
 | .mp O G=>[.mp O G]
 | .fn f a c=>[.fn f a c]
 | .ifc t d=>[.ifc t d]
 | .gp g=>[.gp g]
 | .tok g=>[.tok g]
def AV.cells:AV->List AV
 | .im d=>d.cells.map .im
 | .agg z=>z
 | .any=>[]
 | .tup z=>[.tup z]
 | .ptr o p=>[.ptr o p]
 | .eptr o i p=>[.eptr o i p]
 | .own o=>[.own o]
 | .mp o=>[.mp o]
 | .ch o=>[.ch o]
 | .it o=>[.it o]
 | .osl o a n=>[.osl o a n]
 | .clo f a c=>[.clo f a c]
def D.one:D->Bool
 | .agg _| .tup _=>false
 | .int _ _| .bool _| .str _| .nilp| .nilf| .nili| .nilc| .nilm| .sl _ _ _| .ref _| .mp _ _| .fn _ _ _| .ifc _ _| .gp _| .tok _=>true
def AV.one:AV->Bool
 | .im d=>d.one
 | .agg _| .any| .tup _=>false
 | .ptr _ _| .eptr _ _ _| .own _| .mp _| .ch _| .it _| .osl _ _ _| .clo _ _ _=>true
def QX:List AV->Bool
 |[]=>true
 |x::r=>x.one && QX r
def AV.asD:AV->Option D
 | .im d=>some d
 | .agg _| .any| .tup _| .ptr _ _| .eptr _ _ _| .own _| .mp _| .ch _| .it _| .osl _ _ _| .clo _ _ _=>none
def NZ:Option D->Option (List D)->Option (List D)
 |some d,some ds=>some (d::ds)
 |some _,none=>none
 |none,_=>none
def DL:List AV->Option (List D)
 |[]=>some []
 |x::r=>NZ x.asD (DL r)
def Yj(cs:List AV):Option (List D)->AV
 |some ds=> .im (.agg ds)
 |none=> .agg cs
def hdV:List AV->AV
 |[]=> .any
 |x::_=>x
def iF:List D->D
 |[]=> .nilp
 |x::_=>x
def iM(agg:Bool)(cs:List AV):AV:=
 bif agg then Yj cs (DL cs) else hdV cs
def aU(agg:Bool)(ds:List D):D:=bif agg then .agg ds else iF ds
def BX{α:Type}(l:List α)(off:Nat)(x:List α):List α:=l.take off++x++l.drop (off+x.length)
abbrev Ah:=AV->Bo->Prop
mutual
def D.beq:D->D->Bool
 | .int _ a,.int _ b=>a==b
 | .bool a,.bool b=>a==b
 | .str a,.str b=>a==b
 | .agg a,.agg b=>D.beql a b
 |_,_=>false
def D.beql:List D->List D->Bool
 |[],[]=>true
 |a::r,b::s=>D.beq a b && D.beql r s
 |_,_=>false
end
def lk:List (D×D)->D->Option D
 |[],_=>none
 |(k,v)::r,x=>bif D.beq x k then some v else lk r x
def G0:List (D×D)->D->D->List (D×D)
 |[],x,y=>[(x,y)]
 |(k,v)::r,x,y=>bif D.beq x k then (x,y)::r else (k,v)::G0 r x y
def IN:List (D×D)->D->List (D×D)
 |[],_=>[]
 |(k,v)::r,x=>bif D.beq x k then r else (k,v)::IN r x
def ZJ(P:Program)(G:TypeId->Option KT):List Field->Nat->Option (List KK)
 |[],_=>some []
 |f::O,off=>
  match G f.type,P.info? f.type with
  |some z,some i=>
   bif f.offset==off && (f.name != "_" && i.size==z.ks.length) then (ZJ P G O (off+z.ks.length)).map (z.ks++ ·) else none
  |_,_=>none
def Bm(P:Program):Nat->TypeId->Option KT
 |0,_=>none
 |n+1,t=>
  match P.underlying t with
  |some (.int k)=>some ⟨false,[.int k]⟩
  |some .string=>some ⟨false,[.str]⟩
  |some .bool=>some ⟨false,[.bool]⟩
  |some (.struct z)=>bif P.stoodInHeld t then none else (ZJ P (Bm P n) z.toList 0).map (⟨true,·⟩)
  |_=>none
def Bu(P:Program)(t:TypeId):Option KT:=Bm P 5 t
def Jx{α:Type}(rows:List (List α))(i:Nat)(K:List α->Prop):Prop:= ∀row,rows[i]? =some row->K row
def FY(es:List (D×D))(kd:D)(Ks:D->Prop)(Kn:Prop):Prop:=(∀v,lk es kd=some v->Ks v)/\(lk es kd=none->Kn)
def eW(ti:TI)(off:Nat)(E:Bo)(K:Ah)(row:List D):Prop:=(ti.agg=true\/ti.size=1)/\off+ti.size<=row.length/\K (.im (aU ti.agg ((row.drop off).take ti.size))) E
def uN(ti:TI)(off:Nat)(E:Bo)(K:Ah)(row:List AV):Prop:=(ti.agg=true\/ti.size=1)/\off+ti.size<=row.length/\K (iM ti.agg ((row.drop off).take ti.size)) E
def IY(ti:TI)(o off:Nat)(K:Ah):Option Au->Prop
 |some (_,.cells _ z)=>uN ti off {use:=[o]} K z
 |some (_,.view z)=>eW ti off {use:=[o]} K z
 |_=>False
def IX(ti:TI)(o i off:Nat)(K:Ah):Option Au->Prop
 |some (_,.arr _ _ rows)=>i<rows.length/\Jx rows i (eW ti off {use:=[o]} K)
 |some (_,.arrA _ _ rows)=>i<rows.length/\Jx rows i (uN ti off {use:=[o]} K)
 |_=>False
def WU(h:Nat->Option Au)(ti:TI)(K:Ah):AV->Prop
 | .im (.ref z)=>eW ti 0 {} K z
 | .im (.gp g)=>Mb g=true/\ti.size=1/\ti.agg=false/\K (.im (.tok g)) {}
 | .ptr o off=>IY ti o off K (h o)
 | .eptr o i off=>IX ti o i off K (h o)
 |_=>False
def Yb(o i off k z:Nat)(T:TypeId)(rows:List (List D))(K:Ah)(row:List D):Option (List D)->Prop
 |some ds=>off+z<=row.length/\K .any {use:=[o],kill:=[o],new:=[(o,(true,.arr T k (rows.set i (BX row off ds))))]}
 |none=>False
def Qxz(o i off k z:Nat)(T:TypeId)(rows:List (List D))(ds:Option (List D))(K:Ah)(row:List D):Prop:=Yb o i off k z T rows K row ds
def Qyo(o i off k z:Nat)(T:TypeId)(rows:List (List AV))(vs:List AV)(K:Ah)(row:List AV):Prop:=
 off+z<=row.length/\K .any {use:=[o],kill:=[o],new:=[(o,(true,.arrA T k (rows.set i (BX row off vs))))]}
def UE(ti:TI)(o off:Nat)(vs:List AV)(K:Ah):Option Au->Prop
 |some (true,.cells T z)=>off+ti.size<=z.length/\K .any {use:=[o],kill:=[o],new:=[(o,(true,.cells T (BX z off vs)))]}
 |_=>False
def Jl(ti:TI)(o i off:Nat)(vs:List AV)(K:Ah):Option Au->Prop
 |some (true,.arr T k rows)=>i<rows.length/\Jx rows i (Qxz o i off k ti.size T rows (DL vs) K)
 |some (true,.arrA T k rows)=>i<rows.length/\Jx rows i (Qyo o i off k ti.size T rows vs K)
 |_=>False
def rX(h:Nat->Option Au)(ti:TI)(vs:List AV)(K:Ah):AV->Prop
 | .ptr o off=>UE ti o off vs K (h o)
 | .eptr o i off=>Jl ti o i off vs K (h o)
 |_=>False
def Qri(h:Nat->Option Au)(x v:AV)(K:Ah)(ti:TI):Prop:=
 ti.size≠0/\v.cells.length=ti.size/\QX v.cells=true/\rX h ti v.cells K x
def Rr(o:Nat)(x:AV)(K:Ah):Option Au->Prop
 |some _=>K x {use:=[o]}
 |none=>False
def Ky(h:Nat->Option Au)(off:Nat)(K:Ah):AV->Prop
 | .im (.ref z)=>off<=z.length/\K (.im (.ref (z.drop off))) {}
 | .ptr o p=>Rr o (.ptr o (p+off)) K (h o)
 | .eptr o i p=>Rr o (.eptr o i (p+off)) K (h o)
 |_=>False
def XD(h:Nat->Option Au)(x:AV)(K:Ah):Option (Nat×Nat)->Prop
 |some (off,z)=>z≠0/\Ky h off K x
 |none=>False
def faK(h:Nat->Option Au)(x:AV)(f:Nat)(K:Ah):TK->Prop
 | .struct z=>XD h x K z[f]?
 |_=>False
def yJ(h:Nat->Option Au)(x:AV)(f:Nat)(K:Ah)(ti:TI):Prop:=faK h x f K ti.kind
def wK(K:Ah)(row:List D):Prop:=K (.im (.ref row)) {}
def LZ(o:Nat)(n:Int)(K:Ah)(z:TI):Option Au->Prop
 |some (_,.arr _ k rows)=>k=z.size/\0<=n/\n<(rows.length:Int)/\K (.eptr o n.toNat 0) {use:=[o]}
 |some (_,.arrA _ k rows)=>k=z.size/\0<=n/\n<(rows.length:Int)/\K (.eptr o n.toNat 0) {use:=[o]}
 |_=>False
def XV(h:Nat->Option Au)(n:Int)(K:Ah)(x:AV)(z:TI):Prop:=
 match x with
 | .im (.sl _ k rows)=>k=z.size/\0<=n/\n<(rows.length:Int)/\Jx rows n.toNat (wK K)
 | .own o=>LZ o n K z (h o)
 |_=>False
def LY(h:Nat->Option Au)(m:Nat)(n:Int)(K:Ah)(x:AV)(z:TI):Prop:=
 match x with
 | .ptr o p=>0<=n/\n<(m:Int)/\Rr o (.ptr o (p+n.toNat*z.size)) K (h o)
 | .im (.ref G)=>0<=n/\n<(m:Int)/\n.toNat*z.size<=G.length/\K (.im (.ref (G.drop (n.toNat*z.size)))) {}
 |_=>False
def Bg(f:TI->Prop):Option TI->Prop
 |some ti=>f ti
 |none=>False
def wD(P:Program)(h:Nat->Option Au)(x:AV)(n:Int)(K:Ah):TK->Prop
 | .slice e=>Bg (XV h n K x) (tI P e)
 | .array m e=>Bg (LY h m n K x) (tI P e)
 |_=>False
def Qjp(P:Program)(h:Nat->Option Au)(x:AV)(ti:TI)(K:Ah):AV->Prop
 | .im (.int _ n)=>wD P h x n K ti.kind
 |_=>False
def SO(m:Nat)(n:Int)(cs:List D)(K:Ah)(z:TI):Prop:=
 (z.agg=true\/z.size=1)/\0<=n/\n<(m:Int)/\n.toNat*z.size+z.size<=cs.length/\K (.im (aU z.agg ((cs.drop (n.toNat*z.size)).take z.size))) {}
def bI(s:ByteArray)(i:Nat)(K:UInt8->Prop):Prop:= ∀c,s.data[i]? =some c->K c
def kCh(K:Ah)(c:UInt8):Prop:=K (.im (.int .u8 c.toNat)) {}
def ixK(P:Program)(n:Int)(K:Ah):TK->AV->Prop
 | .array m e,.im (.agg z)=>Bg (SO m n z K) (tI P e)
 | .str,.im (.str s)=>0<=n/\n<(s.size:Int)/\bI s n.toNat (kCh K)
 |_,_=>False
def Qxc(P:Program)(x:AV)(ti:TI)(K:Ah):AV->Prop
 | .im (.int _ n)=>ixK P n K ti.kind x
 |_=>False
def GH:BinOp->Nat
 | .shr=>1
 | .shl=>2
 | .add| .sub| .mul| .quo| .rem| .and| .or| .xor| .andNot| .eql| .neq| .lss| .leq| .gtr| .geq=>0
def Om(k:IntKind)(a b:Int):Int:=k.wrap ((BitVec.ofInt k.bits a &&& BitVec.ofInt k.bits b).toNat:Int)
def orI(k:IntKind)(a b:Int):Int:=k.wrap ((BitVec.ofInt k.bits a|||BitVec.ofInt k.bits b).toNat:Int)
def xT(k:IntKind)(a b:Int):Int:=k.wrap ((BitVec.ofInt k.bits a^^^BitVec.ofInt k.bits b).toNat:Int)
def IB(op:BinOp)(k:IntKind)(a b:Int)(K:Ah):Prop:=
 match op with
 | .add=>K (.im (.int k (k.wrap (a+b)))) {}
 | .sub=>K (.im (.int k (k.wrap (a - b)))) {}
 | .mul=>K (.im (.int k (k.wrap (a*b)))) {}
 | .quo=>b≠0/\K (.im (.int k (k.wrap (a.tdiv b)))) {}
 | .rem=>b≠0/\K (.im (.int k (a.tmod b))) {}
 | .eql=>K (.im (.bool (decide (a=b)))) {}
 | .neq=>K (.im (.bool (!decide (a=b)))) {}
 | .lss=>K (.im (.bool (decide (a<b)))) {}
 | .leq=>K (.im (.bool (decide (a<=b)))) {}
 | .gtr=>K (.im (.bool (decide (b<a)))) {}
 | .geq=>K (.im (.bool (decide (b<=a)))) {}
 | .and=>K (.im (.int k (Om k a b))) {}
 | .or=>K (.im (.int k (orI k a b))) {}
 | .xor=>K (.im (.int k (xT k a b))) {}
 |_=>False
def aH(neg:Bool)(K:Ah)(b:Bool):Prop:=K (.im (.bool (neg !=b))) {}
def Se(neg:Bool)(K:Ah):AV->Prop
 | .im (.sl true _ rows)=>aH neg K rows.isEmpty
 |_=>False
def uD(h:Nat->Option Au)(neg:Bool)(K:Ah):AV->Prop
 | .im .nilp=>aH neg K true
 | .im (.ref _)=>aH neg K false
 | .ptr o _=>Rr o (.im (.bool neg)) K (h o)
 | .eptr o _ _=>Rr o (.im (.bool neg)) K (h o)
 |_=>False
def VY(h:Nat->Option Au)(neg:Bool)(K:Ah):AV->Prop
 | .im .nilm=>aH neg K true
 | .im (.mp _ _)=>aH neg K false
 | .mp o=>Rr o (.im (.bool neg)) K (h o)
 |_=>False
def WQ(h:Nat->Option Au)(neg:Bool)(K:Ah)(x:AV):Nat->TK->Prop
 |0,.slice _=>Se neg K x
 |1,.ptr _=>uD h neg K x
 |2,.map _ _=>VY h neg K x
 |_,_=>False
def NC(op:BinOp)(a b:ByteArray)(K:Ah):Prop:=
 match op with
 | .eql=>K (.im (.bool (decide (a=b)))) {}
 | .neq=>K (.im (.bool (!decide (a=b)))) {}
 | .add=>a.size+b.size<=9223372036854775807/\K (.im (.str (a++b))) {}
 |_=>False
def Jp(op:BinOp)(a b:Bool)(K:Ah):Prop:=
 match op with
 | .eql=>K (.im (.bool (a==b))) {}
 | .neq=>K (.im (.bool (a !=b))) {}
 |_=>False
def Nb(op:BinOp)(a b:Bool)(K:Ah):Option TI->Prop
 |some ti=>ti.kind= .bool/\Jp op a b K
 |none=>False
def tM(op:BinOp)(a b:List D)(K:Ah):Prop:=
 match op with
 | .eql=>K (.im (.bool (D.beql a b))) {}
 | .neq=>K (.im (.bool (!D.beql a b))) {}
 |_=>False
def tG(P:Program)(T:TypeId)(op:BinOp)(a b:List D)(K:Ah):Option KT->Prop
 |some z=>z.fit (.agg a)=true/\z.fit (.agg b)=true/\P.eqGuardType P.depth T=false/\tM op a b K
 |none=>False
def ZB(op:BinOp)(k:IntKind)(a:Int)(k':IntKind)(b:Int)(K:Ah):Nat->Prop
 |0=>k=k'/\IB op k a b K
 |1=>0<=b/\K (.im (.int k (a.fdiv (2^min b.toNat k.bits)))) {}
 |_+2=>0<=b/\K (.im (.int k (k.wrap (a*2^min b.toNat k.bits)))) {}
def fD(P:Program)(T:TypeId)(op:BinOp)(K:Ah):AV->AV->Prop
 | .im (.int k a),.im (.int k' b)=>ZB op k a k' b K (GH op)
 | .im (.str a),.im (.str b)=>NC op a b K
 | .im (.bool a),.im (.bool b)=>Nb op a b K (tI P T)
 | .im (.agg a),.im (.agg b)=>tG P T op a b K (Bu P T)
 |_,_=>False
def YX(K:Ah):UnOp->AV->Prop
 | .not,.im (.bool b)=>K (.im (.bool (!b))) {}
 | .neg,.im (.int k n)=>K (.im (.int k (k.wrap (-n)))) {}
 |_,_=>False
def ZH(cells:List AV)(vs:List AV):Option (Nat×Nat)->Option (List AV)
 |none=>none
 |some (off,size)=>bif vs.length==size && (Nat.blt 0 size && Nat.ble (off+size) cells.length) then some (BX cells off vs) else none
def HB(place:Nat->Option (Nat×Nat)):List (Nat×AV)->Option (List AV)->Option (List AV)
 |[],r=>r
 |_::_,none=>none
 |(i,v)::z,some cells=>HB place z (ZH cells v.cells (place i))
def Jh(k i:Nat):Option (Nat×Nat):=some (i*k,k)
def M4(z:List (Nat×Nat))(i:Nat):Option (Nat×Nat):=z[i]?
def N7(K:Ah):Option (List AV)->Prop
 |some z=>K (iM true z) {}
 |none=>False
def Ry(O:List AV)(z:List (Nat×AV))(K:Ah)(G:TI):Prop:=N7 K (HB (Jh G.size) z (some O))
def vU(P:Program)(G:List AV)(z:List (Nat×AV))(K:Ah):TK->Prop
 | .struct O=>N7 K (HB (M4 O) z (some G))
 | .array _ e=>Bg (Ry G z K) (tI P e)
 |_=>False
def Qsy(P:Program)(z:List (Nat×AV))(K:Ah)(ti:TI):Prop:=ti.zero.length=ti.size/\ti.size≠0/\vU P (ti.zero.map .im) z K ti.kind
def Ie{α:Type}(k:Nat):Nat->List α->List (List α)
 |0,_=>[]
 |n+1,l=>l.take k::Ie k n (l.drop k)
def BZ{α:Type}:Nat->List α->List α
 |0,_=>[]
 |n+1,z=>z++BZ n z
def II(nx len e k:Nat)(cs:List AV)(K:Ah):Option (List D)->Prop
 |some ds=>K (.own nx) {new:=[(nx,(true,.arr e k (Ie k len ds)))],cnt:=1}
 |none=>K (.own nx) {new:=[(nx,(true,.arrA e k (Ie k len cs)))],cnt:=1}
def L3(nx len e k:Nat)(K:Ah):Option (List AV)->Prop
 |some z=>II nx len e k z K (DL z)
 |none=>False
def bsE(nx len e:Nat)(z:List (Nat×AV))(K:Ah)(G:TI):Prop:=
 G.zero.length=G.size/\G.size≠0/\len*G.size<=16777216/\L3 nx len e G.size K (HB (Jh G.size) z (some (BZ len (G.zero.map .im))))
def bsK(P:Program)(nx len:Nat)(z:List (Nat×AV))(K:Ah):TK->Prop
 | .slice e=>Bg (bsE nx len e z K) (tI P e)
 |_=>False
def xZ(P:Program)(nx len:Nat)(z:List (Nat×AV))(K:Ah)(ti:TI):Prop:=bsK P nx len z K ti.kind
def msE(nx e:Nat)(n m:Int)(K:Ah)(z:TI):Prop:=
 z.size≠0/\0<=n/\n<=m/\m<=1073741824/\z.bytes<=65536/\z.zero.length=z.size/\
  K (.own nx) {new:=[(nx,(true,.arr e z.size (List.replicate n.toNat z.zero)))],cnt:=1}
def msK(P:Program)(nx:Nat)(K:Ah):TK->AV->AV->Prop
 | .slice e,.im (.int .i64 n),.im (.int .i64 m)=>Bg (msE nx e n m K) (tI P e)
 |_,_,_=>False
def yK(P:Program)(nx:Nat)(l c:AV)(K:Ah)(ti:TI):Prop:=msK P nx K ti.kind l c
inductive Cb where
 |d (u:List Nat) (k:Nat) (rows:List (List D))
 |a (u:List Nat) (k:Nat) (rows:List (List AV))
 |no
def ZE(o:Nat):Option Au->Cb
 |some (_,.arr _ k rows)=> .d [o] k rows
 |some (_,.arrA _ k rows)=> .a [o] k rows
 |_=> .no
def DK(h:Nat->Option Au):AV->Cb
 | .im (.sl _ k rows)=> .d [] k rows
 | .own o=>ZE o (h o)
 |_=> .no
def Bn(rows:List (List D)):List (List AV):=rows.map λr=>r.map .im
def Bz:List D->Bool
 |[]=>true
 |x::r=>x.one && Bz r
def BB{α:Type}(f:List α->Bool)(rows:List (List α)):Prop:= ∀row∈rows,f row=true
def Cb.okOne:Cb->Prop
 | .d _ _ rows=>BB Bz rows
 | .a _ _ rows=>BB QX rows
 | .no=>False
def N4(nx e:Nat)(z:TI)(K:Ah):Cb->Prop
 | .d u k rows=>(k=z.size\/rows=[])/\(rows.length+512)*z.bytes<=140737488355328/\K (.own nx) {use:=u,new:=[(nx,(true,.arr e z.size rows))],cnt:=1}
 | .a u k rows=>k=z.size/\(rows.length+512)*z.bytes<=140737488355328/\K (.own nx) {use:=u,kill:=u,new:=[(nx,(true,.arrA e z.size rows))],cnt:=1}
 | .no=>False
def mN(nx e o:Nat)(z:TI)(rows0:List (List D))(K:Ah):Cb->Prop
 | .d u k rows=>(k=z.size\/rows=[])/\u≠[o]/\(rows0.length+rows.length+512)*z.bytes<=140737488355328/\
  K (.own nx) {use:=o::u,kill:=[o],new:=[(nx,(true,.arr e z.size (rows0++rows)))],cnt:=1}
 | .a u k rows=>k=z.size/\u≠[o]/\(rows0.length+rows.length+512)*z.bytes<=140737488355328/\
  K (.own nx) {use:=o::u,kill:=o::u,new:=[(nx,(true,.arrA e z.size (Bn rows0++rows)))],cnt:=1}
 | .no=>False
def mM(nx e o:Nat)(z:TI)(rows0:List (List AV))(K:Ah):Cb->Prop
 | .d u k rows=>(k=z.size\/rows=[])/\u≠[o]/\(rows0.length+rows.length+512)*z.bytes<=140737488355328/\
  K (.own nx) {use:=o::u,kill:=[o],new:=[(nx,(true,.arrA e z.size (rows0++Bn rows)))],cnt:=1}
 | .a u k rows=>k=z.size/\u≠[o]/\(rows0.length+rows.length+512)*z.bytes<=140737488355328/\
  K (.own nx) {use:=o::u,kill:=o::u,new:=[(nx,(true,.arrA e z.size (rows0++rows)))],cnt:=1}
 | .no=>False
def IF(nx e o:Nat)(G:TI)(src:Cb)(K:Ah):Option Au->Prop
 |some (true,.arr T k z)=>T=e/\k=G.size/\mN nx e o G z K src
 |some (true,.arrA T k z)=>T=e/\k=G.size/\mM nx e o G z K src
 |_=>False
def Rt(h:Nat->Option Au)(nx e:Nat)(z:TI)(src:Cb)(K:Ah):AV->Prop
 | .im (.sl true _ [])=>N4 nx e z K src
 | .own o=>IF nx e o z src K (h o)
 |_=>False
def apE(h:Nat->Option Au)(nx e:Nat)(s:AV)(src:Cb)(K:Ah)(z:TI):Prop:=
 z.size≠0/\z.zero.length=z.size/\z.bytes≠0/\src.okOne/\Rt h nx e z src K s
def apK(P:Program)(h:Nat->Option Au)(nx:Nat)(s:AV)(src:Cb)(K:Ah):TK->Prop
 | .slice e=>Bg (apE h nx e s src K) (tI P e)
 |_=>False
def Qsl(P:Program)(h:Nat->Option Au)(nx:Nat)(s x:AV)(K:Ah)(ti:TI):Prop:=apK P h nx s (DK h x) K ti.kind
def FH(K:Ah)(E:Bo)(n:Nat):Prop:=K (.im (.int .i64 n)) E
def Qxr(z:Bool)(o:Nat)(K:Ah):Option Au->Prop
 |some (_,.arr _ _ rows)=>(z=true->rows.length<=140737488355328)->FH K {use:=[o]} rows.length
 |some (_,.arrA _ _ rows)=>(z=true->rows.length<=140737488355328)->FH K {use:=[o]} rows.length
 |_=>False
def Mi(o:Nat)(K:Ah):Option Au->Prop
 |some (_,.map _ z)=>FH K {use:=[o]} z.length
 |_=>False
def iI(o n:Nat)(K:Ah):Option Au->Prop
 |some _=>FH K {use:=[o]} n
 |none=>False
def fC(z:Bool)(h:Nat->Option Au)(K:Ah):AV->Prop
 | .osl o _ n=>iI o n K (h o)
 | .im (.sl _ _ rows)=>(z=true->rows.length<=140737488355328)->FH K {} rows.length
 | .own o=>Qxr z o K (h o)
 |_=>False
def Tb(K:Ah):AV->Prop
 | .im (.str s)=>FH K {} s.size
 |_=>False
def uJ(h:Nat->Option Au)(K:Ah):AV->Prop
 | .im (.mp _ z)=>FH K {} z.length
 | .im .nilm=>FH K {} 0
 | .mp o=>Mi o K (h o)
 |_=>False
def Fo(z:Bool)(h:Nat->Option Au)(K:Ah)(x:AV):TK->Prop
 | .slice _=>fC z h K x
 | .str=>Tb K x
 | .map _ _=>uJ h K x
 | .bool| .ptr _| .int _| .array _ _| .struct _| .other=>False
def fI(z:Bool)(h:Nat->Option Au)(x:AV)(K:Ah)(ti:TI):Prop:=Fo z h K x ti.kind
def Qy3(ok:Bool)(E:Bo)(K:Ah)(v:D):Prop:=K (bif ok then .tup [.im v,.im (.bool true)] else .im v) E
def IV(z:TI)(ok:Bool)(E:Bo)(K:Ah):Prop:=z.zero.length=z.size/\(z.agg=true\/z.size=1)/\z.size≠0/\K (bif ok then .tup [.im (aU z.agg z.zero),.im (.bool false)] else .im (aU z.agg z.zero)) E
def Th(o:Nat)(O:KT)(kd:D)(ok:Bool)(Q:TI)(K:Ah):Option Au->Prop
 |some (_,.map z G)=>z=O/\FY G kd (Qy3 ok {use:=[o]} K) (IV Q ok {use:=[o]} K)
 |_=>False
def fJ(h:Nat->Option Au)(O:KT)(kd:D)(ok:Bool)(G:TI)(K:Ah):AV->Prop
 | .im (.mp z Q)=>z=O/\FY Q kd (Qy3 ok {} K) (IV G ok {} K)
 | .im .nilm=>IV G ok {} K
 | .mp o=>Th o O kd ok G K (h o)
 |_=>False
def Yi(h:Nat->Option Au)(m:AV)(kd:D)(ok:Bool)(K:Ah)(G:TI):Option KT->Prop
 |some z=>z.fit kd=true/\fJ h z kd ok G K m
 |none=>False
def luE(P:Program)(h:Nat->Option Au)(m:AV)(kd:D)(ok:Bool)(K:Ah)(k:TypeId)(z:TI):Prop:=Yi h m kd ok K z (Bu P k)
def luK(P:Program)(h:Nat->Option Au)(m:AV)(ok:Bool)(K:Ah):TK->AV->Prop
 | .map k e,.im z=>Bg (luE P h m z ok K k) (tI P e)
 |_,_=>False
def zW(P:Program)(h:Nat->Option Au)(m k:AV)(ok:Bool)(K:Ah)(ti:TI):Prop:=luK P h m ok K ti.kind k
def Tv(o:Nat)(z:KT)(kd Q:D)(K:Ah):Option Au->Prop
 |some (true,.map G O)=>G=z/\z.fit kd=true/\K .any {use:=[o],kill:=[o],new:=[(o,(true,.map z (G0 O kd Q)))]}
 |_=>False
def Tu(h:Nat->Option Au)(o:Nat)(kd G:D)(K:Ah):Option KT->Prop
 |some z=>Tv o z kd G K (h o)
 |none=>False
def K8(P:Program)(h:Nat->Option Au)(o:Nat)(kd z:D)(K:Ah):TK->Prop
 | .map k _=>Tu h o kd z K (Bu P k)
 | .bool| .str| .ptr _| .int _| .array _ _| .struct _| .slice _| .other=>False
def muF(n:Nat)(e:Ad)(K:Ah)(r:AV)(E:Bo):Prop:=E.kill.contains n=false/\K r {use:=n::E.use,kill:=n::E.kill,new:=E.new++[(n,(false,e))],cnt:=E.cnt}
def Tw(P:Program)(h:Nat->Option Au)(o n:Nat)(kd:D)(K:Ah)(z:TK):Option Au->Prop
 |some (_,.arr T k rows)=>(o==n)=false/\K8 P h o kd (.sl false k rows) (muF n (.arr T k rows) K) z
 |_=>False
def rM(P:Program)(h:Nat->Option Au)(K:Ah)(m k v:AV)(ti:TI):Prop:=
 match m,k,v with
 | .mp o,.im z,.im G=>K8 P h o z G K ti.kind
 | .mp o,.im z,.own n=>Tw P h o n z K ti.kind (h n)
 |_,_,_=>False
def RS(o:Nat)(z:KT)(kd:D)(K:Ah):Option Au->Prop
 |some (true,.map G O)=>G=z/\z.fit kd=true/\K .any {use:=[o],kill:=[o],new:=[(o,(true,.map z (IN O kd)))]}
 |_=>False
def Xz(h:Nat->Option Au)(o:Nat)(kd:D)(K:Ah):Option KT->Prop
 |some z=>RS o z kd K (h o)
 |none=>False
def RQ(P:Program)(h:Nat->Option Au)(o:Nat)(kd:D)(K:Ah):TK->Prop
 | .map k _=>Xz h o kd K (Bu P k)
 | .bool| .str| .ptr _| .int _| .array _ _| .struct _| .slice _| .other=>False
def zT(P:Program)(h:Nat->Option Au)(K:Ah)(m k:AV)(ti:TI):Prop:=
 match m,k with
 | .mp o,.im z=>RQ P h o z K ti.kind
 |_,_=>False
def exA(K:Ah):Option AV->Prop
 |some c=>K c {}
 |none=>False
def exD(K:Ah):Option D->Prop
 |some d=>K (.im d) {}
 |none=>False
def kO(i:Nat)(K:Ah):AV->Prop
 | .tup z=>exA K z[i]?
 | .im (.tup ds)=>exD K ds[i]?
 |_=>False
def kQ(h:Nat->Option Au)(K:Ah):AV->Prop
 | .im (.ref z)=>K (.im (.ref z)) {}
 | .im (.ifc t d)=>K (.im (.ifc t d)) {}
 | .ptr o p=>Rr o (.ptr o p) K (h o)
 | .eptr o i p=>Rr o (.eptr o i p) K (h o)
 |_=>False
abbrev CW:=FuncId->List AV->(Nat->Option Au)->Nat->Ah->Prop
def Q8(V:CW)(args:List AV)(h:Nat->Option Au)(nx:Nat)(K:Ah):AV->Prop
 | .im (.fn g first capt)=>V g ((first.map .im)++args++(capt.map .im)) h nx K
 | .clo g first capt=>V g (first++args++capt) h nx K
 |_=>False
def Qw:Option TI->Option TK
 |some ti=>some ti.kind
 |none=>none
def Qjk(nx e:Nat)(K:Ah)(z:TI):Prop:=K (.own nx) {new:=[(nx,(true,.arr e z.size []))],cnt:=1}
def Qg6(P:Program)(nx:Nat)(K:Ah):Option TK->Prop
 |some (.slice e)=>Bg (Qjk nx e K) (tI P e)
 |_=>False
def QP:Value->Bool
 | .slice none 0 0=>true
 |_=>false
def WH:Operand->Bool
 | .const v=>QP v
 | .tmp _| .global _| .func _=>false
def yX(P:Program)(nx:Nat)(T:TypeId)(v:AV)(K:Ah):Bool->Prop
 |true=>Qg6 P nx K (Qw (tI P T))
 |false=>K v {}
def zM(P:Program)(tm:List (Nat×AV))(nx:Nat)(T:TypeId)(K:Ah)(x:Operand):Prop:=yX P nx T (Ay tm x) K (WH x && !(T==315))
def M3(c:Bool)(K:Ah)(a b:AV):Prop:=(c=true->K a {})/\(c=false->K b {})
def Qzp(a b:AV)(K:Ah):AV->Prop
 | .im (.bool c)=>M3 c K a b
 |_=>False
def Qsv(nx T:Nat)(K:Ah)(ti:TI):Prop:=ti.zero.length=ti.size/\ti.size≠0/\K (.ptr nx 0) {new:=[(nx,(true,.cells T (ti.zero.map .im)))],cnt:=1}
def UW(nx T:Nat)(K:Ah)(cs:List AV):Prop:=cs≠[]/\K (.ptr nx 0) {new:=[(nx,(true,.cells T cs))],cnt:=1}
def FI:Value->Nat
 | .slice none 0 0=>1
 | .pointer none=>2
 | .map none=>3
 | .nilIface=>4
 |_=>0
def Fq:Operand->Nat
 | .const v=>FI v
 | .tmp _| .global _| .func _=>0
def lO(h:Nat->Option Au)(op:BinOp)(x:AV)(K:Ah)(n:Nat)(ti:TI):Prop:=
 match op with
 | .eql=>WQ h false K x n ti.kind
 | .neq=>WQ h true K x n ti.kind
 |_=>False
def Mc(P:Program)(T:TypeId):Bool:=match P.underlying T with
 |some (.interface _)=>true
 |_=>false
def IT(P:Program)(T:TypeId):Bool:=match P.underlying T with
 |some (.interface _)=>false
 |some _=>true
 |none=>false
def aT(P:Program)(t:TypeId)(name:String):Option FuncId:=
 match P.info? t with
 |some i=>match i.methods.find? (·.name==name) with
  |some m=>bif m.path.isEmpty then (match m.func with
   |some (f,false)=>some f
   |_=>none) else none
  |none=>none
 |none=>none
def GJ(P:Program)(t:TypeId)(name:String):Option FuncId:=
 match P.underlying t with
 |some (.pointer _)=>none
 |some _=>aT P t name
 |none=>none
def QD(neg:Bool)(K:Ah):AV->Prop
 | .im .nili=>aH neg K true
 | .im (.ifc _ _)=>aH neg K false
 |_=>False
def W0(P:Program)(T:TypeId)(op:BinOp)(x:AV)(K:Ah):Prop:=
 Mc P T=true/\match op with
 | .eql=>QD false K x
 | .neq=>QD true K x
 |_=>False
def UX(P:Program)(T:TypeId)(K:Ah):AV->Prop
 | .im d=>IT P T=true/\K (.im (.ifc T d)) {}
 |_=>False
def Wz(V:CW)(args:List AV)(h:Nat->Option Au)(nx:Nat)(K:Ah)(d:D):Option FuncId->Prop
 |some f=>V f (.im d::args) h nx K
 |none=>False
def Nc(P:Program)(V:CW)(args:List AV)(h:Nat->Option Au)(nx:Nat)(K:Ah)(m:String):AV->Prop
 | .im (.ifc t d)=>Wz V args h nx K d (GJ P t m)
 |_=>False
def ZL(P:Program)(T:TypeId)(h:Nat->Option Au)(op:BinOp)(x y:AV)(K:Ah):Nat->Prop
 |0=>fD P T op K x y
 |1=>Bg (lO h op x K 0) (tI P T)
 |2=>Bg (lO h op x K 1) (tI P T)
 |3=>Bg (lO h op x K 2) (tI P T)
 |_+4=>W0 P T op x K
def KP:Option TK->Ah->AV->Prop
 |some (.int k),K,.im (.int _ n)=>K (.im (.int k (k.wrap n))) {}
 |_,_,_=>False
def tE(t:Option TK)(x:AV)(K:Ah):Option TI->Prop
 |some _=>KP t K x
 |none=>False
def H2:List (List D)->Option (List Int)
 |[]=>some []
 |[.int .u8 n]::r=>(H2 r).map (n:: ·)
 |_=>none
def Hj(z:List Int):ByteArray:=⟨(z.map λn=>UInt8.ofNat n.toNat).toArray⟩
def L4(u:List Nat)(K:Ah):Option (List Int)->Prop
 |some z=>K (.im (.str (Hj z))) {use:=u}
 |none=>False
def R7(o:Nat)(K:Ah):Option Au->Prop
 |some (_,.arr _ k rows)=>k=1/\L4 [o] K (H2 rows)
 |_=>False
def gJ(h:Nat->Option Au)(K:Ah):AV->Prop
 | .own o=>R7 o K (h o)
 |_=>False
def gK(h:Nat->Option Au)(K:Ah)(x:AV):Option TK->Prop
 |some (.int .u8)=>gJ h K x
 |_=>False
def gL(P:Program)(h:Nat->Option Au)(K:Ah)(x:AV):TK->Prop
 | .slice e=>gK h K x (Qw (tI P e))
 |_=>False
def IJ(P:Program)(h:Nat->Option Au)(K:Ah)(x:AV):Option TI->Prop
 |some z=>gL P h K x z.kind
 |none=>False
def TK.isStr:TK->Bool
 | .str=>true
 | .bool| .ptr _| .int _| .array _ _| .struct _| .map _ _| .slice _| .other=>false
def isStr:Option TK->Bool
 |some t=>t.isStr
 |none=>false
def Wl(P:Program)(h:Nat->Option Au)(t:Option TK)(x:AV)(K:Ah)(s:Option TI):Prop:=if isStr t=true then IJ P h K x s else tE t x K s
def Nd(K:Ah):AV->AV->Prop
 | .im (.int k a),.im (.int k' b)=>k=k'/\K (.im (.int k (max a b))) {}
 |_,_=>False
def TK.isSl:TK->Bool
 | .slice _=>true
 | .bool| .str| .ptr _| .int _| .array _ _| .struct _| .map _ _| .other=>false
def zG(P:Program)(h:Nat->Option Au)(nx:Nat)(s x:AV)(T:TypeId)(K:Ah)(z:TI):Prop:=z.kind.isSl=true/\Bg (Qsl P h nx s x K) (tI P T)
def D6(tm:List (Nat×AV)):Option Operand->Option AV
 |none=>none
 |some x=>some (Ay tm x)
def He(z:Nat):Option AV->Option Int
 |none=>some z
 |some (.im (.int _ n))=>some n
 |some _=>none
def UG(k:Nat)(rows:List (List D))(K:Ah):Option Int->Option Int->Prop
 |some l,some m=>0<=l/\l<=m/\m<=(rows.length:Int)/\K (.im (.sl false k ((rows.drop l.toNat).take (m - l).toNat))) {}
 |some _,none=>False
 |none,_=>False
def Jn(s:ByteArray)(K:Ah):Option Int->Option Int->Prop
 |some l,some m=>0<=l/\l<=m/\m<=(s.size:Int)/\K (.im (.str (s.extract l.toNat m.toNat))) {}
 |some _,none=>False
 |none,_=>False
def uF(o nx:Nat)(z:Bool)(T k:Nat)(rows:List (List D))(a n:Nat)(K:Ah):Bool->Prop
 |false=>K (.osl o a n) {use:=[o]}
 |true=>z=true/\K (.own nx) {use:=[o],kill:=[o],new:=[(nx,(true,.arr T k ((rows.drop a).take n)))],cnt:=1}
def Jo(o nx:Nat)(z:Bool)(T k:Nat)(rows:List (List D))(K:Ah):Option Int->Option Int->Prop
 |some l,some m=>0<=l/\l<=m/\m<=(rows.length:Int)/\ ∃G,uF o nx z T k rows l.toNat (m - l).toNat K G
 |some _,none=>False
 |none,_=>False
def UH(o nx:Nat)(O:TI)(lo z:Option AV)(K:Ah):Option Au->Prop
 |some (G,.arr T k rows)=>k=O.size/\Jo o nx G T k rows K (He 0 lo) (He rows.length z)
 |_=>False
def xK(h:Nat->Option Au)(nx:Nat)(lo z:Option AV)(K:Ah)(x:AV)(G:TI):Prop:=
 match x with
 | .im (.sl _ k rows)=>(k=G.size\/rows=[])/\UG k rows K (He 0 lo) (He rows.length z)
 | .own o=>UH o nx G lo z K (h o)
 |_=>False
def jP(x:AV)(lo z:Option AV)(K:Ah):Prop:=
 match x with
 | .im (.str s)=>Jn s K (He 0 lo) (He s.size z)
 |_=>False
def Qu(P:Program)(h:Nat->Option Au)(nx:Nat)(x:AV)(lo z:Option AV)(K:Ah):TK->Prop
 | .slice e=>Bg (xK h nx lo z K x) (tI P e)
 | .str=>jP x lo z K
 | .bool| .ptr _| .int _| .array _ _| .struct _| .map _ _| .other=>False
def Qsm(P:Program)(h:Nat->Option Au)(nx:Nat)(x:AV)(lo z:Option AV)(K:Ah)(ti:TI):Prop:=Qu P h nx x lo z K ti.kind
def gP(o:Nat):Option Au->Option (List Nat×Nat×List (List D))
 |some (_,.arr _ k rows)=>some ([o],k,rows)
 |_=>none
def gQ(o a n:Nat):Option Au->Option (List Nat×Nat×List (List D))
 |some (_,.arr _ k rows)=>some ([o],k,(rows.drop a).take n)
 |_=>none
def fG(h:Nat->Option Au):AV->Option (List Nat×Nat×List (List D))
 | .im (.sl _ k rows)=>some ([],k,rows)
 | .own o=>gP o (h o)
 | .osl o a n=>gQ o a n (h o)
 |_=>none
def RL(o:Nat):Option Au->Option (Nat×Nat×Nat×TypeId×Nat×List (List D))
 |some (true,.arr T k rows)=>some (o,0,rows.length,T,k,rows)
 |_=>none
def RN(o a n:Nat):Option Au->Option (Nat×Nat×Nat×TypeId×Nat×List (List D))
 |some (true,.arr T k rows)=>some (o,a,n,T,k,rows)
 |_=>none
def VD(h:Nat->Option Au):AV->Option (Nat×Nat×Nat×TypeId×Nat×List (List D))
 | .own o=>RL o (h o)
 | .osl o a n=>RN o a n (h o)
 |_=>none
def eY(rows:List (List D))(a m:Nat)(src:List (List D)):List (List D):=rows.take a++src.take m++rows.drop (a+m)
def RO(G:TI)(K:Ah):Option (List Nat×Nat×List (List D))->Option (Nat×Nat×Nat×TypeId×Nat×List (List D))->Prop
 |some (u,ks,z),some (o,a,n,T,k,rows)=>k=G.size/\(ks=G.size\/z=[])/\G.size≠0/\BB Bz z/\
  K (.im (.int .i64 (min z.length n:Nat))) {use:=o::u,kill:=[o],new:=[(o,(true,.arr T k (eY rows a (min z.length n) z)))]}
 |some _,none=>False
 |none,_=>False
def RP(P:Program)(h:Nat->Option Au)(d s:AV)(K:Ah):TK->Prop
 | .slice e=>Bg (λz=>RO z K (fG h s) (VD h d)) (tI P e)
 | .bool| .str| .ptr _| .int _| .array _ _| .struct _| .map _ _| .other=>False
def Qzd(P:Program)(h:Nat->Option Au)(d s:AV)(K:Ah)(ti:TI):Prop:=RP P h d s K ti.kind
def Xt(z:TI)(K:Ah):Option (Nat×Nat×Nat×TypeId×Nat×List (List D))->Prop
 |some (o,a,n,T,k,rows)=>k=z.size/\z.size≠0/\z.zero.length=z.size/\Bz z.zero=true/\
  K .any {use:=[o],kill:=[o],new:=[(o,(true,.arr T k (eY rows a n (List.replicate n z.zero))))]}
 |none=>False
def RB(P:Program)(h:Nat->Option Au)(d:AV)(K:Ah):TK->Prop
 | .slice e=>Bg (λz=>Xt z K (VD h d)) (tI P e)
 | .bool| .str| .ptr _| .int _| .array _ _| .struct _| .map _ _| .other=>False
def Qrt(P:Program)(h:Nat->Option Au)(d:AV)(K:Ah)(ti:TI):Prop:=RB P h d K ti.kind
def Uu(nx o:Nat)(K:Ah):Option Au->Prop
 |some (O,.map G z)=>K (.it nx) {use:=[o],kill:=[o],new:=[(nx,(true,.iter none z)),(o,(false,.map G z))],cnt:=1}
 |_=>False
def rgD(nx:Nat)(K:Ah):D->Prop
 | .mp _ z=>K (.it nx) {new:=[(nx,(true,.iter none z))],cnt:=1}
 |_=>False
def rgM(h:Nat->Option Au)(nx:Nat)(K:Ah):AV->Prop
 | .mp o=>Uu nx o K (h o)
 | .im d=>rgD nx K d
 |_=>False
def Ut(h:Nat->Option Au)(nx:Nat)(x:AV)(K:Ah):TK->Prop
 | .map _ _=>rgM h nx K x
 | .bool| .str| .ptr _| .int _| .array _ _| .struct _| .slice _| .other=>False
def Qsh(h:Nat->Option Au)(nx:Nat)(x:AV)(K:Ah)(ti:TI):Prop:=Ut h nx x K ti.kind
def wZ(o:Nat)(left:List (D×D))(K:Ah)(i:Nat)(p:D×D):Prop:=
 K (.tup [.im (.bool true),.im p.1,.im p.2]) {use:=[o],kill:=[o],new:=[(o,(true,.iter (some p) (left.eraseIdx i)))]}
def T9(o:Nat)(K:Ah):Option Au->Prop
 |some (true,.iter _ left)=>(left=[]->K (.tup [.im (.bool false)]) {use:=[o]})/\ ∀i p,left[i]? =some p->wZ o left K i p
 |_=>False
def VX(h:Nat->Option Au)(K:Ah):AV->Prop
 | .it o=>T9 o K (h o)
 |_=>False
def iZ(h:Nat->Option Au)(x:AV)(K:Ah):Bool->Prop
 |true=>VX h K x
 |false=>False
def Sc(o:Nat)(K:Ah):Option Au->Prop
 |some (true,.iter (some p) _)=>K (.im (.tup [p.1,p.2])) {use:=[o]}
 |_=>False
def Qsz(h:Nat->Option Au)(K:Ah):AV->Prop
 | .it o=>Sc o K (h o)
 |_=>False
def VC(P:Program)(t:TypeId):Option TypeId:=match P.underlying t with
 |some (.chan _ e)=>some e
 |_=>none
def mcE(nx:Nat)(n:Int)(K:Ah)(z:TI):Prop:=0<=n/\n<=1073741824/\z.bytes<=65536/\K (.ch nx) {new:=[(nx,(true,.chan [] n.toNat))],cnt:=1}
def mcV(P:Program)(nx:Nat)(K:Ah)(e:TypeId):AV->Prop
 | .im (.int .i64 n)=>Bg (mcE nx n K) (tI P e)
 |_=>False
def mcK(P:Program)(nx:Nat)(x:AV)(K:Ah):Option TypeId->Prop
 |some e=>mcV P nx K e x
 |none=>False
def yM(P:Program)(nx:Nat)(x:AV)(K:Ah)(T:TypeId):Prop:=mcK P nx x K (VC P T)
def aQ(o:Nat)(K:Ah):Option Au->Prop
 |some (_,.chan q _)=>FH K {use:=[o]} q.length
 |_=>False
def Te(o:Nat)(h:Nat->Option Au)(K:Ah):Option TypeId->Prop
 |some _=>aQ o K (h o)
 |none=>False
def jK(o:Nat)(d:D)(K:Ah):Option Au->Prop
 |some (true,.chan q cap)=>q.length<cap/\K .any {use:=[o],kill:=[o],new:=[(o,(true,.chan (q++[d]) cap))]}
 |_=>False
def KR(h:Nat->Option Au)(c x:AV)(K:Ah):Prop:=
 match c,x with
 | .ch o,.im d=>jK o d K (h o)
 |_,_=>False
def jI(o:Nat)(K:Ah):Option Au->Prop
 |some (true,.chan q cap)=>q≠[]/\ ∀d r,q=d::r->K (.im d) {use:=[o],kill:=[o],new:=[(o,(true,.chan r cap))]}
 |_=>False
def rvC(h:Nat->Option Au)(K:Ah):AV->Prop
 | .ch o=>jI o K (h o)
 |_=>False
def rvE(h:Nat->Option Au)(c:AV)(K:Ah)(z:TI):Prop:=z.zero.length=z.size/\z.size≠0/\rvC h K c
def rvK(P:Program)(h:Nat->Option Au)(c:AV)(K:Ah):Option TypeId->Prop
 |some e=>Bg (rvE h c K) (tI P e)
 |none=>False
def KQ(P:Program)(h:Nat->Option Au)(T:TypeId)(c:AV)(K:Ah):Prop:=rvK P h c K (VC P T)
def Sf(neg:Bool)(K:Ah)(E:Bo){α:Type}(rows:List α):Prop:= ∀b:Bool,(b=true->rows=[])->K (.im (.bool (neg !=b))) E
def Sg(o:Nat)(neg:Bool)(K:Ah):Option Au->Prop
 |some (_,.arr _ _ rows)=>Sf neg K {use:=[o]} rows
 |some (_,.arrA _ _ rows)=>Sf neg K {use:=[o]} rows
 |_=>False
def N5(h:Nat->Option Au)(neg:Bool)(K:Ah):AV->Prop
 | .im (.sl _ _ rows)=>Sf neg K {} rows
 | .own o=>Sg o neg K (h o)
 |_=>False
def Ij:D->Bool
 | .sl z _ _=>z
 | .int _ _| .bool _| .str _| .nilp| .nilf| .nili| .nilc| .nilm| .agg _| .tup _| .ref _| .mp _ _| .fn _ _ _| .ifc _ _| .gp _| .tok _=>true
def Fm:AV->Bool
 | .im d=>Ij d
 | .own _=>false
 | .any| .agg _| .tup _| .ptr _ _| .eptr _ _ _| .mp _| .ch _| .it _| .osl _ _ _| .clo _ _ _=>true
def unS(z:Bool)(x:AV)(n:Nat):Bool:=z && (n==1 && !Fm x)
def QW(P:Program)(h:Nat->Option Au)(T:TypeId)(op:BinOp)(x:AV)(K:Ah):TK->Prop
 | .slice _=>(match op with
   | .eql=>N5 h false K x
   | .neq=>N5 h true K x
   |_=>False)
 | .bool| .str| .ptr _| .int _| .array _ _| .struct _| .map _ _| .other=>False
def Qst(P:Program)(h:Nat->Option Au)(T:TypeId)(op:BinOp)(x:AV)(K:Ah)(ti:TI):Prop:=QW P h T op x K ti.kind
def KO(P:Program)(z:Bool)(T:TypeId)(h:Nat->Option Au)(op:BinOp)(x y:AV)(K:Ah)(n:Nat):Prop:=
 if unS z x n=true then Bg (Qst P h T op x K) (tI P T) else ZL P T h op x y K n
def Lh(P:Program)(z:Bool)(h:Nat->Option Au)(T:TypeId)(K:Ah):AV->Prop
 | .ch o=>Te o h K (VC P T)
 | .im d=>Bg (fI z h (.im d) K) (tI P T)
 | .own o=>Bg (fI z h (.own o) K) (tI P T)
 | .osl o a n=>Bg (fI z h (.osl o a n) K) (tI P T)
 | .mp o=>Bg (fI z h (.mp o) K) (tI P T)
 | .any| .agg _| .tup _| .ptr _ _| .eptr _ _ _| .it _| .clo _ _ _=>False
def Zy(P:Program)(z:Bool)(h:Nat->Option Au)(nx:Nat)(K:Ah):Builtin->List AV->List TypeId->Prop
 | .len,[x],[T]=>Lh P z h T K x
 | .append,[s,x],[T,U]=>Bg (zG P h nx s x T K) (tI P U)
 | .delete,[m,k],T::_=>Bg (zT P h K m k) (tI P T)
 | .copy,[d,s],[T,_]=>Bg (Qzd P h d s K) (tI P T)
 | .clear,[d],[T]=>Bg (Qrt P h d K) (tI P T)
 | .max,[x,y],_=>Nd K x y
 |_,_,_=>False
def sW(P:Program)(V:CW)(z:Bool)(tm:List (Nat×AV))(h:Nat->Option Au)(nx:Nat)(args:List AV)(G:List TypeId)(K:Ah):Callee->Prop
 | .value f=>Q8 V args h nx K (Ay tm f)
 | .builtin b=>Zy P z h nx K b args G
 | .invoke r m=>Nc P V args h nx K m (Ay tm r)
def Yk(nx:Nat)(K:Ah):Option KT->Prop
 |some z=>K (.mp nx) {new:=[(nx,(true,.map z []))],cnt:=1}
 |none=>False
def Ts(P:Program)(nx:Nat)(K:Ah):TK->Prop
 | .map k _=>Yk nx K (Bu P k)
 | .bool| .str| .ptr _| .int _| .array _ _| .struct _| .slice _| .other=>False
def zB(P:Program)(nx:Nat)(K:Ah)(ti:TI):Prop:=Ts P nx K ti.kind
def D5(tm:List (Nat×AV)):List Operand->List AV
 |[]=>[]
 |x::r=>Ay tm x::D5 tm r
def J6(tm:List (Nat×AV)):List (Nat×Operand)->List (Nat×AV)
 |[]=>[]
 |(i,x)::r=>(i,Ay tm x)::J6 tm r
def Qrk(h:Nat->Option Au)(x:AV)(K:Ah)(ti:TI):Prop:=WU h ti K x
def yC(P:Program)(h:Nat->Option Au)(x i:AV)(K:Ah)(ti:TI):Prop:=Qjp P h x ti K i
def zX(P:Program)(x i:AV)(K:Ah)(ti:TI):Prop:=Qxc P x ti K i
def RH(o:Nat)(T:TypeId)(cs:List AV):Option (List D)->Option (D×Aw)
 |some ds=>some (.ref ds,[(o,(false,.cells T cs))])
 |none=>none
def RG(o:Nat):Option Au->Option (D×Aw)
 |some (_,.cells T z)=>RH o T z (DL z)
 |some (_,.arr _ _ _)=>none
 |some (_,.arrA _ _ _)=>none
 |some (_,.map _ _)=>none
 |some (_,.chan _ _)=>none
 |some (_,.iter _ _)=>none
 |some (_,.view _)=>none
 |none=>none
def HK(h:Nat->Option Au):AV->Option (D×Aw)
 | .im d=>some (d,[])
 | .ptr o 0=>RG o (h o)
 | .ptr _ (_+1)=>none
 | .any=>none
 | .agg _=>none
 | .tup _=>none
 | .eptr _ _ _=>none
 | .own _=>none
 | .mp _=>none
 | .ch _=>none
 | .it _=>none
 | .osl _ _ _=>none
 | .clo _ _ _=>none
def RF:Option (D×Aw)->Option (List D×Aw)->Option (List D×Aw)
 |some (d,E),some (ds,F)=>some (d::ds,E++F)
 |some _,none=>none
 |none,_=>none
def O1(h:Nat->Option Au):List AV->Option (List D×Aw)
 |[]=>some ([],[])
 |x::r=>RF (HK h x) (O1 h r)
def hnm:Aw->List Nat
 |[]=>[]
 |(n,_)::r=>n::hnm r
def Qz3(f:FuncId)(a b:List D)(first capt:List AV)(K:Ah):Aw->Prop
 |[]=>K (.im (.fn f a b)) {}
 |e::r=>K (.im (.fn f a b)) {use:=hnm (e::r),kill:=hnm (e::r),new:=e::r}\/K (.clo f first capt) {}
def NA(f:FuncId)(first capt:List AV)(K:Ah):Option (List D×Aw)->Option (List D×Aw)->Prop
 |some (a,E),some (b,F)=>Qz3 f a b first capt K (E++F)
 |some _,none=>K (.clo f first capt) {}
 |none,_=>K (.clo f first capt) {}
def step(P:Program)(V:CW)(G:Bool)(tm:List (Nat×AV))(h:Nat->Option Au)(nx:Nat)(T:TypeId)(K:Ah):Op->Prop
 | .move x=>K (Ay tm x) {}
 | .assign x=>zM P tm nx T K x
 | .pick c a b=>Qzp (Ay tm a) (Ay tm b) K (Ay tm c)
 | .alloc T=>Bg (Qsv nx T K) (tI P T)
 | .box T x=>UW nx T K (Ay tm x).cells
 | .build T z=>Bg (Qsy P (J6 tm z.toList) K) (tI P T)
 | .buildSlice T n z=>Bg (xZ P nx n (J6 tm z.toList) K) (tI P T)
 | .load T x=>Bg (Qrk h (Ay tm x) K) (tI P T)
 | .store T x v=>Bg (Qri h (Ay tm x) (Ay tm v) K) (tI P T)
 | .nilCheck x=>kQ h K (Ay tm x)
 | .binOp op T x y _=>KO P G T h op (Ay tm x) (Ay tm y) K (Fq y)
 | .unOp op _ x=>YX K op (Ay tm x)
 | .convert S T x=>Wl P h (Qw (tI P T)) (Ay tm x) K (tI P S)
 | .makeFunc (.func f) first capt=>Nat.blt f 1000000000=true/\NA f (D5 tm first.toList) (D5 tm capt.toList) K (O1 h (D5 tm first.toList)) (O1 h (D5 tm capt.toList))
 | .makeMap T none=>Bg (zB P nx K) (tI P T)
 | .makeSlice T l c=>Bg (yK P nx (Ay tm l) (Ay tm c) K) (tI P T)
 | .fieldAddr T x f=>Bg (yJ h (Ay tm x) f K) (tI P T)
 | .indexAddr T x i=>Bg (yC P h (Ay tm x) (Ay tm i) K) (tI P T)
 | .index T x i=>Bg (zX P (Ay tm x) (Ay tm i) K) (tI P T)
 | .lookup T m k ok=>Bg (zW P h (Ay tm m) (Ay tm k) ok K) (tI P T)
 | .mapUpdate T m k v=>Bg (rM P h K (Ay tm m) (Ay tm k) (Ay tm v)) (tI P T)
 | .extract x i=>kO i K (Ay tm x)
 | .call c=>sW P V G tm h nx (D5 tm c.args.toList) c.argTypes.toList K c.callee
 | .slice T x lo O none=>Bg (Qsm P h nx (Ay tm x) (D6 tm lo) (D6 tm O) K) (tI P T)
 | .range T x=>Bg (Qsh h nx (Ay tm x) K) (tI P T)
 | .next x false=>iZ h (Ay tm x) K G
 | .entry x=>Qsz h K (Ay tm x)
 | .makeChan T x=>yM P nx (Ay tm x) K T
 | .makeInterface T x=>UX P T K (Ay tm x)
 |_=>False
inductive Ex where
 |normal
 |exit (id:Nat)
 |ret
abbrev Cn:=Ex->Aj->Prop
def WF(t:Option Nat)(z:Bool)(s:Aj)(Kdo Kskip:Aj->Prop):AV->Prop
 | .im (.bool b)=>(b=z->Kdo (s.put t (.im (.bool z))))/\(b= !z->Kskip (s.put t (.im (.bool (!z)))))
 | .im (.tup [])=>Kskip s
 |_=>False
def Ac(n:Nat):Aw->Bool
 |[]=>true
 |(_,(_,.cells _ z))::r=>Aq n z && Ac n r
 |(_,(_,.arrA _ _ rows))::r=>rows.all (Aq n) && Ac n r
 |(_,(_,.arr _ _ _))::r=>Ac n r
 |(_,(_,.map _ _))::r=>Ac n r
 |(_,(_,.chan _ _))::r=>Ac n r
 |(_,(_,.iter _ _))::r=>Ac n r
 |(_,(_,.view _))::r=>Ac n r
def JQ(kill:List Nat)(nx cnt n:Nat):Bool:=(Nat.ble nx n && Nat.blt n (nx+cnt))||(kill.contains n && Nat.blt n nx)
def Hp(kill:List Nat)(nx cnt:Nat):Aw->Bool
 |[]=>true
 |(n,_)::r=>JQ kill nx cnt n && Hp kill nx cnt r
def Bo.ok(E:Bo)(nx:Nat)(r:AV):Bool:=r.bel (nx+E.cnt) && (Ac (nx+E.cnt) E.new && Hp E.kill nx E.cnt E.new)
def Aj.app_nr(tm:List (Nat×AV))(h:Aw)(nx:Nat)(dst:Option Nat)(r:AV)(u k:List Nat)(nw:Aw)(c:Nat):Aj.app ⟨tm,h,nx⟩ dst r ⟨u,k,nw,c⟩=(⟨tm,nw++Bl h k,nx+c⟩:Aj).put dst r:=by
 cases dst<;>rfl
def Bo.ok_nr(u k:List Nat)(nw:Aw)(c nx:Nat)(r:AV):Bo.ok ⟨u,k,nw,c⟩ nx r=(r.bel (nx+c) && (Ac (nx+c) nw && Hp k nx c nw)):=by
 cases c<;>rfl
structure SOp where
 dst:Option Nat
 op:Op
 type:TypeId
 gd:Option (Option Nat×Bool)
def WY(ops:Array Oper):Option (Nat×Bool)->Option (Option Nat×Bool)
 |none=>none
 |some (j,w)=>some ((ops[j]?).bind (·.dst),w)
def Gg(ops:Array Oper):List Oper->List SOp
 |[]=>[]
 |o::r=>⟨o.dst,o.op,o.type,WY ops o.guard⟩::Gg ops r
def DP(z:Aj->Prop)(s:Aj)(dst:Option Nat)(r:AV)(E:Bo):Prop:=E.ok s.nx r=true/\z (s.app dst r E)
def DW(P:Program)(V:CW)(tm:List (Nat×AV))(h:Nat->Option Au)(nx:Nat)(ty:TypeId)(K:Ah):Op->Prop
 | .send c x=>KR h (Ay tm c) (Ay tm x) K
 | .recv T c false=>KQ P h T (Ay tm c) K
 |op=>step P V true tm h nx ty K op
def Jq(P:Program)(V:CW)(dst:Option Nat)(op:Op)(ty:TypeId)(z:Aj->Prop)(s:Aj):Prop:=
 DW P V s.tm (hget s.h) s.nx ty (DP z s dst) op
def MZ(dst:Option Nat)(z:Aj->Prop)(s:Aj):Prop:=z (s.put dst (.im (.tup [])))
def XS(P:Program)(V:CW)(dst:Option Nat)(op:Op)(ty:TypeId)(z:Bool)(G:Aj->Prop)(s:Aj):Option Nat->Prop
 |some t=>WF (some t) z s (Jq P V dst op ty G) (MZ dst G) (AE s.tm t)
 |none=>False
def xC(P:Program)(V:CW)(dst:Option Nat)(op:Op)(ty:TypeId)(G:Aj->Prop)(s:Aj):Option (Option Nat×Bool)->Prop
 |none=>Jq P V dst op ty G s
 |some (t,z)=>XS P V dst op ty z G s t
def KM(P:Program)(V:CW):List SOp->(Aj->Prop)->Aj->Prop
 |[],K,s=>K s
 |⟨dst,op,ty,gd⟩::z,K,s=>xC P V dst op ty (KM P V z K) s gd
structure Fp where
 i:Nat
 use:List Nat
 touch:List Nat
 nx:Nat
 cnt:Nat
def Lb:Aw->List Nat
 |[]=>[]
 |(n,_)::r=>n::Lb r
def Jc:Aw->List Nat
 |[]=>[]
 |(_,(_,e))::r=>e.nms++Jc r
def J3:List Nat->List Nat->Bool
 |[],_=>true
 |x::r,l=> !l.contains x && J3 r l
def Gw(nx cnt:Nat):List Nat->Bool
 |[]=>true
 |x::r=>(Nat.blt x nx||Nat.ble (nx+cnt) x) && Gw nx cnt r
def Iu:Ground->Bool
 | .data=>true
 | .chain=>true
 | .guard=>true
 | .phase=>true
 | .textOnly _=>false
 | .gcOnly _=>false
def DB:List (List Nat)->Nat->List Nat
 |[],_=>[]
 |x::_,0=>x
 |_::r,n+1=>DB r n
def ins(x:Nat)(l:List Nat):List Nat:=bif l.contains x then l else x::l
def SI:List Nat->List Nat->List Nat
 |[],l=>l
 |x::r,l=>ins x (SI r l)
def Hf(acc:List (List Nat)):List Edge->List Nat
 |[]=>[]
 |e::r=>bif Iu e.ground then SI (e.on::DB acc e.on) (Hf acc r) else Hf acc r
def EG:List Oper->List (List Nat)->List (List Nat)
 |[],acc=>acc
 |o::r,acc=>EG r (acc++[Hf acc o.after.toList])
def E5(cl:List (List Nat))(i j:Nat):Bool:=(DB cl j).contains i
def mO(cl:List (List Nat))(j:Nat)(use touch z:List Nat)(f:Fp):Bool:=
 bif J3 (use++touch) f.touch && (J3 touch f.use && Gw f.nx f.cnt z) then true else E5 cl f.i j
def I3(cl:List (List Nat))(j:Nat)(use touch z:List Nat):List Fp->Bool
 |[]=>true
 |f::r=>mO cl j use touch z f && I3 cl j use touch z r
def Bo.touch(E:Bo):List Nat:=E.kill++Lb E.new
abbrev Vx:=List Fp->Aj->Prop
def NM(cl:List (List Nat))(i:Nat)(acc:List Fp)(z:Vx)(s:Aj)(dst:Option Nat)(r:AV)(E:Bo):Prop:=
 E.ok s.nx r=true/\I3 cl i (E.use++E.kill) E.touch (E.touch++(r.nms++Jc E.new)) acc=true/\z (⟨i,E.use++E.kill,E.touch,s.nx,E.cnt⟩::acc) (s.app dst r E)
def Nf(P:Program)(V:CW)(cl:List (List Nat))(i:Nat)(acc:List Fp)(dst:Option Nat)(op:Op)(ty:TypeId)(z:Vx)(s:Aj):Prop:=
 step P V false s.tm (hget s.h) s.nx ty (NM cl i acc z s dst) op
def MY(dst:Option Nat)(acc:List Fp)(z:Vx)(s:Aj):Prop:=z acc (s.put dst (.im (.tup [])))
def XR(P:Program)(V:CW)(cl:List (List Nat))(i:Nat)(acc:List Fp)(dst:Option Nat)(op:Op)(ty:TypeId)(z:Bool)(G:Vx)(s:Aj):Option Nat->Prop
 |some t=>WF (some t) z s (Nf P V cl i acc dst op ty G) (MY dst acc G) (AE s.tm t)
 |none=>False
def xB(P:Program)(V:CW)(cl:List (List Nat))(i:Nat)(acc:List Fp)(dst:Option Nat)(op:Op)(ty:TypeId)(G:Vx)(s:Aj):Option (Option Nat×Bool)->Prop
 |none=>Nf P V cl i acc dst op ty G s
 |some (t,z)=>XR P V cl i acc dst op ty z G s t
def VQ(P:Program)(V:CW)(cl:List (List Nat)):List SOp->Nat->(Aj->Prop)->Vx
 |[],_,K,_,s=>K s
 |⟨dst,op,ty,gd⟩::z,i,K,acc,s=>xB P V cl i acc dst op ty (VQ P V cl z (i+1) K) s gd
def Nl(K:Aj->Prop)(Q:Cn):Cn
 | .normal,s=>K s
 | .exit i,s=>Q (.exit i) s
 | .ret,s=>Q .ret s
def IQ(i:Nat)(Q:Cn)(s:Aj):Bool->Prop
 |true=>Q .normal s
 |false=>Q (.exit i) s
def lU(id:Nat)(Q:Cn):Cn
 | .normal,s=>Q .normal s
 | .exit i,s=>IQ i Q s (i==id)
 | .ret,s=>Q .ret s
def uG(A B:Cn->Aj->Prop)(Q:Cn)(s:Aj):AV->Prop
 | .im (.bool b)=>(b=true->A Q s)/\(b=false->B Q s)
 |_=>False
def Gz(s:Aj):List (Nat×AV)->Prop
 |[]=>True
 |(t,x)::r=>AE s.tm t=x/\Gz s r
def Ca(s:Aj):Aw->Prop
 |[]=>True
 |(o,e)::r=>hget s.h o=some e/\Ca s r
def sub(s s':Aj):Prop:=Gz s s'.tm/\Ca s s'.h
def Am(n:Nat):List (Nat×AV)->Bool
 |[]=>true
 |(_,x)::r=>x.bel n && Am n r
def A9(n:Nat):Aw->Bool
 |[]=>true
 |(m,_)::r=>Nat.blt m n && A9 n r
def Aj.good(s:Aj):Bool:=Am s.nx s.tm && (Ac s.nx s.h && A9 s.nx s.h)
def pm:List (Nat×Option Nat)->Nat->Option Nat
 |[],n=>some n
 |(a,b)::r,n=>if a=n then b else pm r n
def iP:AV->Prop
 | .im (.sl true _ [])=>True
 |_=>False
def FL(x:AV):Option Nat->Prop
 |some m=>x= .own m
 |none=>iP x
def GU(f:Nat->AV)(x:AV):Option Nat->Prop
 |some m=>x=f m
 |none=>False
mutual
def mt(π:List (Nat×Option Nat)):AV->AV->Prop
 | .any,_=>True
 | .im d,x=>x= .im d
 | .own n,x=>FL x (pm π n)
 | .ptr n p,x=>GU (λm=> .ptr m p) x (pm π n)
 | .eptr n i p,x=>GU (λm=> .eptr m i p) x (pm π n)
 | .mp n,x=>GU .mp x (pm π n)
 | .ch n,x=>GU .ch x (pm π n)
 | .it n,x=>GU .it x (pm π n)
 | .osl n a k,x=>GU (λm=> .osl m a k) x (pm π n)
 | .agg z,.agg ds=>D9 π z ds
 | .agg z,.im (.agg ds)=>D9 π z (ds.map .im)
 | .agg _,_=>False
 | .tup _,_=>False
 | .clo _ _ _,_=>False
def D9(π:List (Nat×Option Nat)):List AV->List AV->Prop
 |[],[]=>True
 |x::r,y::s=>mt π x y/\D9 π r s
 |[],_::_=>False
 |_::_,[]=>False
end
def GF(π:List (Nat×Option Nat)):List (List AV)->List (List AV)->Prop
 |[],[]=>True
 |x::r,y::s=>D9 π x y/\GF π r s
 |[],_::_=>False
 |_::_,[]=>False
def ED(π:List (Nat×Option Nat)):Ad->Ad->Prop
 | .cells T G,.cells U ds=>T=U/\D9 π G ds
 | .cells _ _,_=>False
 | .arr T k rows,e=>e= .arr T k rows
 | .arrA T k rows,.arrA U k' z=>T=U/\k=k'/\GF π rows z
 | .arrA T k rows,.arr U k' z=>T=U/\k=k'/\GF π rows (Bn z)
 | .arrA _ _ _,.cells _ _=>False
 | .arrA _ _ _,.map _ _=>False
 | .arrA _ _ _,.chan _ _=>False
 | .arrA _ _ _,.iter _ _=>False
 | .arrA _ _ _,.view _=>False
 | .map Q O,e=>e= .map Q O
 | .chan q c,e=>e= .chan q c
 | .iter a l,e=>e= .iter a l
 | .view G,e=>e= .view G
def Kt(π:List (Nat×Option Nat))(G:Bool)(e':Ad):Option Au->Prop
 |some (z,e)=>z=G/\ED π e' e
 |none=>False
def Tz:Bool->Ad->Prop
 |true,.arr _ _ []=>True
 |true,.arrA _ _ []=>True
 |_,_=>False
def Em(s:Aj)(π:List (Nat×Option Nat))(z:Bool)(e':Ad):Option Nat->Prop
 |some m=>Kt π z e' (hget s.h m)
 |none=>Tz z e'
def Qi(π:List (Nat×Option Nat))(s:Aj):List (Nat×AV)->Prop
 |[]=>True
 |(t,x)::r=>mt π x (AE s.tm t)/\Qi π s r
def GV(π:List (Nat×Option Nat))(s:Aj):Aw->Prop
 |[]=>True
 |(n,(z,e))::r=>Em s π z e (pm π n)/\GV π s r
def VL(lo:Nat):List (Nat×Option Nat)->Prop
 |[]=>True
 |(a,_)::r=>lo<=a/\VL lo r
def OI(π:List (Nat×Option Nat)):Aw->List (Option Nat)
 |[]=>[]
 |(n,_)::r=>pm π n::OI π r
def EO:List (Option Nat)->Bool
 |[]=>true
 |none::r=>EO r
 |some m::r=> !r.contains (some m) && EO r
def Az(lo:Nat)(π:List (Nat×Option Nat))(s s':Aj):Prop:=VL lo π/\EO (OI π s'.h)=true/\Qi π s s'.tm/\GV π s s'.h
def Mq{β:Type}(I:β->Aj)(μ:β->Nat)(b:β)(Q:Cn):Cn
 | .normal,s=> ∃b',μ b'<μ b/\sub s (I b')
 | .exit i,s=>Q (.exit i) s
 | .ret,s=>Q .ret s
def Mp{β:Type}(lo:Nat)(I:β->Aj)(μ:β->Nat)(b:β)(Q:Cn):Cn
 | .normal,s=> ∃b' π,μ b'<μ b/\Az lo π s (I b')
 | .exit i,s=>Q (.exit i) s
 | .ret,s=>Q .ret s
def Z8(body:Cn->Aj->Prop)(Q:Cn)(s:Aj):Prop:=
 ∃(β:Type) (I:β->Aj) (μ:β->Nat),(∀b,(I b).good=true/\s.nx<=(I b).nx)/\(∃b,sub s (I b))/\ ∀b,body (Mq I μ b Q) (I b)
def Qsi(body:Cn->Aj->Prop)(Q:Cn)(s:Aj):Prop:=
 ∃(β:Type) (I:β->Aj) (μ:β->Nat),(∀b,(I b).good=true/\s.nx<=(I b).nx)/\(∃b π,Az s.nx π s (I b))/\ ∀b,body (Mp s.nx I μ b Q) (I b)
def HN(F:List Nat):Aw->Aw
 |[]=>[]
 |(n,(z,e))::r=>(n,(z && !F.contains n,e))::HN F r
def Ss(F:List Nat)(s:Aj):Aj:=⟨s.tm,HN F s.h,s.nx⟩
def VU(body:Cn->Aj->Prop)(Q:Cn)(s:Aj):Prop:= ∃F:List Nat,Z8 body Q (Ss F s)
def Hi(n:Nat):Ad->AV
 | .arr _ w rows=> .im (.sl false w rows)
 | .cells _ _=> .own n
 | .arrA _ _ _=> .own n
 | .map _ _=> .own n
 | .chan _ _=> .own n
 | .iter _ _=> .own n
 | .view _=> .own n
def KD(n:Nat):Option Au->AV
 |some e=>Hi n e.2
 |none=> .own n
mutual
def AV.fzA(F:List Nat)(H:Aw):AV->AV
 | .own n=>bif F.contains n then KD n (hget H n) else .own n
 | .agg z=> .agg (D7 F H z)
 | .any=> .any
 | .im d=> .im d
 | .tup z=> .tup z
 | .ptr o p=> .ptr o p
 | .eptr o i p=> .eptr o i p
 | .mp o=> .mp o
 | .ch o=> .ch o
 | .it o=> .it o
 | .osl o a n=> .osl o a n
 | .clo f a c=> .clo f a c
def D7(F:List Nat)(H:Aw):List AV->List AV
 |[]=>[]
 |x::r=>x.fzA F H::D7 F H r
end
def D8(F:List Nat)(H:Aw):List (List AV)->List (List AV)
 |[]=>[]
 |x::r=>D7 F H x::D8 F H r
def Ad.fzA(F:List Nat)(H:Aw):Ad->Ad
 | .cells T z=> .cells T (D7 F H z)
 | .arrA T k rows=> .arrA T k (D8 F H rows)
 | .arr T k rows=> .arr T k rows
 | .map O G=> .map O G
 | .chan q c=> .chan q c
 | .iter a l=> .iter a l
 | .view z=> .view z
def HP(F:List Nat)(H:Aw):List (Nat×AV)->List (Nat×AV)
 |[]=>[]
 |(t,x)::r=>(t,x.fzA F H)::HP F H r
def HO(F:List Nat)(H:Aw):Aw->Aw
 |[]=>[]
 |(n,(z,e))::r=>(n,(z && !F.contains n,e.fzA F H))::HO F H r
def Sv(F:List Nat)(s:Aj):Aj:=⟨HP F s.h s.tm,HO F s.h s.h,s.nx⟩
def Mo{β:Type}(lo:Nat)(I:β->Aj)(μ:β->Nat)(b:β)(Q:Cn):Cn
 | .normal,s=> ∃b' F π,μ b'<μ b/\Az lo π (Sv F s) (I b')
 | .exit i,s=>Q (.exit i) s
 | .ret,s=>Q .ret s
def Qsf(body:Cn->Aj->Prop)(Q:Cn)(s:Aj):Prop:=
 ∃(β:Type) (I:β->Aj) (μ:β->Nat),(∀b,(I b).good=true/\s.nx<=(I b).nx)/\(∃b F π,Az s.nx π (Sv F s) (I b))/\ ∀b,body (Mo s.nx I μ b Q) (I b)
def AQ(body:Cn->Aj->Prop)(Q:Cn)(s:Aj):Prop:=Z8 body Q s\/Qsi body Q s\/VU body Q s\/Qsf body Q s
def AQ.frr{body:Cn->Aj->Prop}{Q:Cn}{s:Aj}(h:Qsf body Q s):AQ body Q s:=Or.inr (Or.inr (Or.inr h))
def AQ.old{body:Cn->Aj->Prop}{Q:Cn}{s:Aj}(h:Z8 body Q s):AQ body Q s:=Or.inl h
def AQ.ren{body:Cn->Aj->Prop}{Q:Cn}{s:Aj}(h:Qsi body Q s):AQ body Q s:=Or.inr (Or.inl h)
def AQ.frz{body:Cn->Aj->Prop}{Q:Cn}{s:Aj}(F:List Nat)(h:Z8 body Q (Ss F s)):AQ body Q s:=Or.inr (Or.inr (Or.inl ⟨F,h⟩))
def CX(P:Program)(V:CW):Code->Cn->Aj->Prop
 | .skip,Q,s=>Q .normal s
 | .region _ ops false,Q,s=>KM P V (Gg ops ops.toList) (Q .normal) s
 | .region _ ops true,Q,s=>VQ P V (EG ops.toList []) (Gg ops ops.toList) 0 (Q .normal) [] s
 | .seq a b,Q,s=>CX P V a (Nl (CX P V b Q) Q) s
 | .cond c a b,Q,s=>uG (CX P V a) (CX P V b) Q s (Ay s.tm c)
 | .block id c,Q,s=>CX P V c (lU id Q) s
 | .loop c,Q,s=>AQ (CX P V c) Q s
 | .exit id,Q,s=>Q (.exit id) s
 | .ret,Q,s=>Q .ret s
 |_,_,_=>False
end Go.Ae
