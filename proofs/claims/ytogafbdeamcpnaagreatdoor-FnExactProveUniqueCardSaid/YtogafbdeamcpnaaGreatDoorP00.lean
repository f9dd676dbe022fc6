/- Lemmas. Conditions: none. -/
import Derived.Orders
import Derived.Below
import Derived.Laws.Sem
set_option linter.all false
set_option maxHeartbeats 8000000
set_option maxRecDepth 100000
namespace Go
def AD:=@Option.some.inj
def AJ:=@Option.some.injEq
def AM:=@Option.getD_some
def AZ:=@List.mem_of_getElem?
def Bk:=@List.getElem?_eq_getElem
def AS:=@Bool.and_eq_true
def Af:=@if_neg
def Bp:=@Option.some_beq_some
def Ce:=@List.getElem?_eq_some_iff
def An:=@if_pos
def AQ:=@Nat.le_refl
def B0:=@Int.toNat_natCast
def BX:=@List.mem_cons_of_mem
def Bd:=@List.map_cons
def BK:=@List.mem_singleton
def BT:=@List.mem_cons_self
def Bx:=@List.mem_append
def BL:=@decide_eq_true_eq
def Bm:=@List.mem_cons
def BD:=@List.mem_range
def Dr:=@List.drop_eq_nil_of_le
def Du:=@List.getElem?_set_self
def Cf:=@List.length_take
def D4:=@Option.map_eq_some_iff
def Bv:=@List.mem_map
def DQ:=@List.take_of_length_le
def De:=@List.getD_cons_zero
def Ef:=@Option.bind_eq_some_iff
def ED:=@List.getElem?_append_left
def DK:=@List.getElem?_set_ne
def Df:=@Bool.false_eq_true
def CG:=@List.length_drop
def Dq:=@List.length_append
def F4:=@List.getElem?_append_right
def CP:=@List.length_cons
def CT:=@List.cons_append
def D2:=@List.getElem?_map
def CQ:=@Option.map_some
def D3:=@List.all_eq_true
def BC:=@cond_false
def EE:=@List.getD_cons_succ
def D8:=@List.append_nil
def EJ:=@Array.length_toList
def HI:=@Array.getD_eq_getD_getElem?
def FG:=@List.getElem?_eq_none
def Eg:=@Option.bind_some
def GF:=@List.getElem?_cons_zero
def Cz:=@Nat.zero_le
def HJ:=@List.getElem?_cons_succ
def Hc:=@Array.getElem?_toList
def J8:=@Array.getElem?_eq_getElem
def D9:=@Nat.le_trans
def Eb:=@Bool.true_and
def Ck:=@cond_true
def Gr:=@Nat.lt_of_lt_of_le
def HK:=@List.contains_iff_mem
def FW:=@Bool.not_eq_false
def FX:=@Classical.not_not
def EZ:=@List.length_set
def EF:=@List.drop_drop
def HL:=@Nat.mul_le_mul_right
def E0:=@Prod.mk.injEq
def GG:=@List.flatMap_cons
def HN:=@List.getElem?_range
def Kt:=@decide_eq_false_iff_not
def Gs:=@List.take_length
def Iu:=@beq_eq_false_iff_ne
def F6:=@Bool.false_and
def Hw:=@List.append_assoc
def Ls:=@List.getElem?_replicate
def Ol:=@List.eq_of_mem_replicate
def BM:=@if_true
def Iv:=@List.getElem?_drop
def Ku:=@List.mem_iff_getElem?
def GH:=@List.map_append
def F7:=@Bool.and_true
def Kv:=@List.mem_append_left
def Rm:=@Array.getElem?_eq_some_iff
def Hd:=@Bool.or_eq_true
def He:=@List.length_map
def Hf:=@List.length_nil
def Hg:=@List.nil_append
def Iq:=@List.take_add_one
def Fj:=@Nat.lt_or_ge
def Qo:=@List.length_eq_zero_iff
def CK:=@if_false
def Oh:=@List.length_replicate
def Oi:=@List.take_append_drop
def Hh:=@List.drop_zero
def CU:=@congrArg
def Lr:=@List.take_succ_cons
def VK:=@List.drop_eq_getElem_cons
def E4:=@Nat.blt_eq
def Ir:=@List.nodup_cons
def FV:=@Nat.zero_add
def Kq:=@Bool.not_eq_true'
def Kr:=@List.ext_getElem?
def Oj:=@List.map_congr_left
def F5:=@Nat.add_mul
def Gq:=@List.map_nil
def Rl:=@List.mem_append_right
def Xm:=@List.mem_or_eq_of_mem_set
def Qp:=@List.drop_succ_cons
def Hi:=@Nat.sub_self
def Lv:=@Bool.not_eq_true
def Om:=@List.size_toArray
def fW:=@Array.getElem?_setIfInBounds
def Xp:=@Array.getElem?_eq_none
def VL:=@Option.some_beq_none
def Qs:=@Bool.eq_false_iff
def fX:=@Int.tmod_eq_emod_of_nonneg
def fY:=@Classical.byContradiction
def VM:=@List.pairwise_cons
def fZ:=@Array.getElem?_replicate
def Ro:=@List.getElem_mem
def Lw:=@List.all_cons
def VN:=@List.nodup_append
def Lx:=@List.sum_cons
def Hy:=@Nat.ble_eq
def IH:=@Nat.one_mul
def gA:=@List.zipWith_cons_cons
def Rp:=@List.find?_some
def mN:=@List.mem_of_find?_eq_some
def VO:=@Array.toList_map
def VP:=@List.drop_append
def vL:=@List.eq_nil_of_length_eq_zero
def Ly:=@List.map_set
def Rq:=@List.take_zero
def VQ:=@Bool.eq_iff_iff
def Qt:=@Bool.or_false
def aA:=@List.contains_cons
def mH:=@List.filter_cons_of_neg
def aB:=@List.find?_eq_none
def aC:=@List.getElem?_take
def aD:=@List.set_cons_zero
def Qq:=@Nat.add_assoc
def aE:=@Option.isSome_none
def fU:=@List.mem_iff_getElem
def EK:=@Ne.symm
def mI:=@Classical.epsilon_spec
def Lu:=@Int.le_refl
def aG:=@List.contains_nil
def fV:=@List.length_pos_iff
def aH:=@List.length_range
def Xn:=@List.mem_filter
def mJ:=@List.set_append_right
def Qr:=@Nat.add_zero
def mK:=@Nat.le_of_ble_eq_true
def aI:=@Array.toList_inj
def vI:=@List.eraseIdx_cons_succ
def vJ:=@Nat.add_sub_cancel_left
def Hx:=@and_self
def Xo:=@Bool.not_false
def Rn:=@List.map_map
def mL:=@List.filter_eq_self
def mM:=@List.length_reverse
def aK:=@decide_eq_false
def Oo:=@Array.ext'
def gG:=@Nat.min_le_right
def vR:=@Array.getElem?_append
def vS:=@Bool.and_eq_false_iff
def mS:=@List.set_cons_succ
def mT:=@Nat.eq_zero_or_pos
def Zdh:=@List.pairwise_iff_getElem
def gH:=@List.cons.injEq
def gJ:=@List.foldl_cons
def Qu:=@beq_iff_eq
def Lz:=@forall_eq
def aL:=@Bool.false_or
def vT:=@List.mem_map_of_mem
def Zdo:=@List.drop_append_of_le_length
def mU:=@List.not_mem_nil
def gK:=@Bool.and_false
def gL:=@List.Perm.refl
def gM:=@Option.none_or
def Zdt:=@List.length_eq_one_iff
def vU:=@Array.extract_size
def vV:=@List.filter_append
def vW:=@Option.toList_some
def Zdx:=@List.getElem?_toArray
def Zdy:=@List.length_filter_le
def Zdz:=@List.length_singleton
def mO:=@List.range_succ
def mP:=@Nat.not_lt_zero
def aJ:=@Nat.sub_zero
def gB:=@Bool.and_self
def gC:=@List.take_add
def vM:=@Nat.lt_trichotomy
def ZdG:=@Array.getElem?_append_left
def ZdH:=@Array.toList_setIfInBounds
def ZdI:=@List.nodup_iff_pairwise_ne
def ZdJ:=@List.mem_of_mem_take
def ZdK:=@List.isEmpty_eq_false_iff
def vO:=@beq_self_eq_true
def ZdM:=@List.flatMap_append
def ZdN:=@Array.size_setIfInBounds
def gD:=@Bool.true_or
def ZdP:=@List.getElem?_take_of_lt
def gE:=@Nat.zero_mul
def mQ:=@Bool.not_true
def ZdS:=@Int.tmod_lt_of_pos
def vP:=@List.all_append
def ZdU:=@List.filter_cons_of_pos
def ZdV:=@List.zipWith_nil_right
def ZdW:=@Array.toList_push
def ZdX:=@not_false_eq_true
def vQ:=@decide_eq_true
def ZdZ:=@Array.getElem?_modify
def Zea:=@Int.mul_le_mul_of_nonneg_right
def Zeb:=@List.any_eq_true
def Zec:=@List.filter_cons
def Zed:=@forall_eq_or_imp
def Zee:=@List.length_eraseIdx
def Zef:=@List.range_eq_range'
def Zeg:=@Array.getElem?_append_right
def Zeh:=@Array.toList_append
def Zei:=@Array.toList_modify
def Zej:=@Int.tmod_nonneg
def Zek:=@Int.toNat_of_nonneg
def Zel:=@List.find?_cons
def Zem:=@List.replicate_succ
def Zen:=@List.toList_toArray
def Zeo:=@Int.fdiv_eq_ediv_of_nonneg
def Zep:=@Int.tdiv_eq_ediv_of_nonneg
def Zeq:=@List.exists_cons_of_ne_nil
def Zer:=@List.perm_append_singleton
def Zes:=@List.perm_ext_iff_of_nodup
def Zet:=@Array.ext_getElem?
def Zeu:=@Array.toList_range
def Zev:=@List.getElem_range
def vX:=@List.set_set
def vY:=@Nat.add_comm
def Zey:=@Array.mapM_eq_mapM_toList
def Zez:=@Bool.and_assoc
def ZeA:=@List.foldl_nil
def ZeB:=@List.getElem?_eq_none_iff
def ZeC:=@List.take_left
def ZeD:=@Decidable.not_not
def ZeE:=@List.Pairwise.imp
def ZeF:=@List.Perm.eq_of_pairwise
def ZeG:=@Option.isSome_iff_exists
def ZeH:=@List.eraseIdx_cons_zero
def ZeI:=@Bool.cond_eq_ite
def ZeJ:=@List.flatMap_nil
def ZeK:=@List.mem_flatMap
def ZeL:=@Array.getElem?_mapIdx
def ZeM:=@Array.mem_of_getElem?
def ZeN:=@Bool.or_true
def ZeO:=@List.Perm.append_left
def ZeP:=@List.eraseIdx_sublist
def ZeQ:=@List.filter_nil
def ZeR:=@List.getElem?_reverse
def ZeS:=@List.head?_cons
def ZeT:=@List.range_zero
def ZeU:=@List.sum_nil
def ZeV:=@Nat.le_of_eq
def ZeW:=@Nat.min_eq_left
def ZeX:=@Nat.succ_mul
def mV:=@and_assoc
def ZeZ:=@decide_false
def gO:=@or_false
def Zfb:=@Array.toList_extract
def Zfc:=@List.mem_of_mem_drop
def Zfd:=@List.drop_take
def Zfe:=@Option.some_or
def aM:=@eq_true
def Zfg:=@List.drop_nil
def Zfh:=@List.take_nil
def Zfi:=@Nat.lt_irrefl
def Zfj:=@Int.add_zero
def vZ:=@ite_self
def wA:=@true_and
def aN:=@not_or
end Go
namespace Go.Ae
def Mg(g:Nat):Bool:=g==0||g==1
def GE(ok:Nat->Prop)(hp:Nat->Option Obj)(g:Nat)(a:Addr):Prop:=
 ok g/\(∃T z,hp g=some (.cells #[.iface 392 (.pointer (some a))] T z))/\ok a.block/\ ∃c T,hp a.block=some (.cells c T (0,0))
def GP(ok:Nat->Prop)(hp:Nat->Option Obj):Prop:=
 ∃a:Nat->Addr,(∀g,Mg g=true->GE ok hp g (a g))/\ ∀g g',Mg g=true->Mg g'=true->g≠g'->a g≠a g'
def GP.mono{ok ok':Nat->Prop}{hp hp':Nat->Option Obj}(h: ∀b o,ok b->hp b=some o->ok' b/\hp' b=some o)(hg:GP ok hp):GP ok' hp':=by
 obtain⟨a,Z,h2⟩:=hg;refine⟨a,λg z=> ?_,h2⟩;obtain⟨k1,⟨T,Q,k2⟩,G,c,U,O⟩:=Z g z;exact⟨(h g _ k1 k2).1,⟨T,Q,(h g _ k1 k2).2⟩,(h _ _ G O).1,c,U,(h _ _ G O).2⟩
def GP.at{ok:Nat->Prop}{hp:Nat->Option Obj}(h:GP ok hp){g:Nat}(O:Mg g=true):ok g/\ ∃t x T z,hp g=some (.cells #[.iface t x] T z):=by
 obtain⟨a,G,_⟩:=h;obtain⟨k1,⟨T,z,k2⟩,_⟩:=G g O;exact⟨k1,_,_,T,z,k2⟩
end Go.Ae
namespace Go.Ae
inductive KK where
 |int (k:IntKind)
 |str
 |bool
 deriving DecidableEq
structure KT where
 agg:Bool
 ks:List KK
 deriving DecidableEq
inductive D where
 |int (k:IntKind) (n:Int)
 |bool (b:Bool)
 |str (s:ByteArray)
 |nilp|nilf|nili|nilc|nilm
 |agg (cs:List D)
 |tup (cs:List D)
 |sl (nz:Bool) (k:Nat) (rows:List (List D))
 |ref (cs:List D)
 |mp (kt:KT) (es:List (D×D))
 |fn (f:FuncId) (first capt:List D)
 |ifc (t:TypeId) (d:D)
 |gp (g:Nat)
 |tok (g:Nat)
def KK.fit:KK->D->Bool
 | .int k,.int k' _=>k==k'
 | .str,.str _=>true
 | .bool,.bool _=>true
 |_,_=>false
def B2:List KK->List D->Bool
 |[],[]=>true
 |k::ks,d::ds=>k.fit d && B2 ks ds
 |_,_=>false
def KT.fit(z:KT)(d:D):Bool:=
 match z.agg,d with
 |true,.agg ds=>B2 z.ks ds
 |false,d=>B2 z.ks [d]
 |_,_=>false
def Lc:Nat:=140737488355328
def VR(f:Nat):Fn:=if f<1000000000 then .func f else .yield (f - 1000000000)
def Xc{f:Nat}(h:f<1000000000):VR f= .func f:=An h
def xX(nz:Bool)(v:Value):Prop:=v= .slice none 0 0\/(nz=false/\ ∃a,v= .slice (some a) 0 0)
def tY{nz:Bool}{v:Value}(h:xX nz v): ∃z,v= .slice z 0 0:=by
 rcases h with rfl|⟨_,a,rfl⟩<;>exact⟨_,rfl⟩
def Qr7{v:Value}(h:xX true v):v= .slice none 0 0:=by
 rcases h with rfl|⟨h,_⟩
 .rfl
 .cases h
def Py{nz:Bool}{v:Value}(h:xX nz v):xX false v:=by
 rcases h with rfl|⟨_,a,rfl⟩
 .exact .inl rfl
 .exact .inr ⟨rfl,a,rfl⟩
mutual
def rd(ok:Nat->Prop)(hp:Nat->Option Obj):D->Value->Prop
 | .int k n,v=>v= .int k n
 | .bool b,v=>v= .bool b
 | .str s,v=>v= .string s
 | .nilp,v=>v= .pointer none
 | .nilf,v=>v= .nilFunc
 | .nili,v=>v= .nilIface
 | .nilc,v=>v= .chan none
 | .nilm,v=>v= .map none
 | .agg Q,v=> ∃O:Array Value,v= .agg O/\rdl ok hp Q O.toList
 | .tup Q,v=> ∃O:Array Value,v= .tuple O/\rdl ok hp Q O.toList
 | .sl nz k rows,v=>(xX nz v/\rows=[])\/
  ∃b p cap O T Z,v= .slice (some ⟨b,p,none⟩) rows.length cap/\(nz=true->rows≠[])/\rows.length<=cap/\rows.length<=Lc/\ok b/\
   hp b=some (.cells O T Z)/\rdr ok hp k rows (O.toList.drop p)
 | .ref Q,v=> ∃b p O T Z,v= .pointer (some ⟨b,p,none⟩)/\ok b/\hp b=some (.cells O T Z)/\rdp ok hp Q (O.toList.drop p)
 | .mp kt es,v=> ∃b z G,v= .map (some b)/\(∀e∈es,kt.fit e.1=true)/\ok b/\hp b=some (.map z G)/\rde ok hp es z.toList/\(z.toList.map (·.born)).Nodup/\ ∀e∈z.toList,e.born<G
 | .fn f first capt,v=> ∃a c:Array Value,v= .func (VR f) a c/\rdl ok hp first a.toList/\rdl ok hp capt c.toList
 | .ifc t d,v=> ∃x,v= .iface t x/\rd ok hp d x
 | .gp g,v=>v= .pointer (some ⟨g,0,none⟩)
 | .tok g,v=>ok g/\(∃t x,v= .iface t x)/\ ∃T Z,hp g=some (.cells #[v] T Z)
def rdl(ok:Nat->Prop)(hp:Nat->Option Obj):List D->List Value->Prop
 |[],z=>z=[]
 |d::ds,z=> ∃v r,z=v::r/\rd ok hp d v/\rdl ok hp ds r
def rdp(ok:Nat->Prop)(hp:Nat->Option Obj):List D->List Value->Prop
 |[],_=>True
 |d::ds,z=> ∃v r,z=v::r/\rd ok hp d v/\rdp ok hp ds r
def rdr(ok:Nat->Prop)(hp:Nat->Option Obj)(k:Nat):List (List D)->List Value->Prop
 |[],_=>True
 |r::G,z=>r.length=k/\rdp ok hp r z/\rdr ok hp k G (z.drop k)
def rde(ok:Nat->Prop)(hp:Nat->Option Obj):List (D×D)->List MapEntry->Prop
 |[],z=>z=[]
 |(x,y)::ds,z=> ∃e r,z=e::r/\rd ok hp x e.key/\rd ok hp y e.val/\rde ok hp ds r
end
section mono
variable {ok ok':Nat->Prop}{hp hp':Nat->Option Obj}
mutual
def GS(h: ∀b,ok b->ok' b/\hp' b=hp b): ∀(d:D) (v:Value),rd ok hp d v->rd ok' hp' d v
 | .int _ _,_,hd=>by simpa only[rd] using hd
 | .bool _,_,hd=>by simpa only[rd] using hd
 | .str _,_,hd=>by simpa only[rd] using hd
 | .nilp,_,hd=>by simpa only[rd] using hd
 | .nilf,_,hd=>by simpa only[rd] using hd
 | .nili,_,hd=>by simpa only[rd] using hd
 | .nilc,_,hd=>by simpa only[rd] using hd
 | .nilm,_,hd=>by simpa only[rd] using hd
 | .gp _,_,hd=>by simpa only[rd] using hd
 | .tok g,v,hd=>by
   simp only[rd] at hd⊢;obtain⟨z,h3,T,fr,h2⟩:=hd;exact⟨(h g z).1,h3,T,fr,(h g z).2.trans h2⟩
 | .agg Z,v,hd=>by
   simp only[rd] at hd⊢;obtain⟨Q,rfl,z⟩:=hd;exact⟨Q,rfl,Li h Z _ z⟩
 | .tup Z,v,hd=>by
   simp only[rd] at hd⊢;obtain⟨Q,rfl,z⟩:=hd;exact⟨Q,rfl,Li h Z _ z⟩
 | .sl nz k rows,v,hd=>by
   simp only[rd] at hd⊢;rcases hd with hd|⟨b,p,cap,Q,T,fr,rfl,z,h2,h3,G,h5,h6⟩
   .exact .inl hd
   .exact .inr ⟨b,p,cap,Q,T,fr,rfl,z,h2,h3,(h b G).1,(h b G).2.trans h5,ZC h k rows _ h6⟩
 | .ref Z,v,hd=>by
   simp only[rd] at hd⊢;obtain⟨b,p,Q,T,fr,rfl,G,h5,h6⟩:=hd;exact⟨b,p,Q,T,fr,rfl,(h b G).1,(h b G).2.trans h5,ZB h Z _ h6⟩
 | .mp kt es,v,hd=>by
   simp only[rd] at hd⊢;obtain⟨b,aa,O,rfl,h3,G,h5,h6,h7⟩:=hd;exact⟨b,aa,O,rfl,h3,(h b G).1,(h b G).2.trans h5,Lg h es _ h6,h7⟩
 | .fn f first capt,v,hd=>by
   simp only[rd] at hd⊢;obtain⟨a,c,rfl,z,h2⟩:=hd;exact⟨a,c,rfl,Li h first _ z,Li h capt _ h2⟩
 | .ifc t d,v,hd=>by
   simp only[rd] at hd⊢;obtain⟨x,rfl,z⟩:=hd;exact⟨x,rfl,GS h d _ z⟩
def Li(h: ∀b,ok b->ok' b/\hp' b=hp b): ∀(ds:List D) (vs:List Value),rdl ok hp ds vs->rdl ok' hp' ds vs
 |[],_,hd=>by simpa only[rdl] using hd
 |d::ds,vs,hd=>by
  simp only[rdl] at hd⊢;obtain⟨v,r,rfl,z,G⟩:=hd;exact⟨v,r,rfl,GS h d v z,Li h ds r G⟩
def ZB(h: ∀b,ok b->ok' b/\hp' b=hp b): ∀(ds:List D) (vs:List Value),rdp ok hp ds vs->rdp ok' hp' ds vs
 |[],_,_=>by simp only[rdp]
 |d::ds,vs,hd=>by
  simp only[rdp] at hd⊢;obtain⟨v,r,rfl,z,G⟩:=hd;exact⟨v,r,rfl,GS h d v z,ZB h ds r G⟩
def ZC(h: ∀b,ok b->ok' b/\hp' b=hp b)(k:Nat): ∀(z:List (List D)) (vs:List Value),rdr ok hp k z vs->rdr ok' hp' k z vs
 |[],_,_=>by simp only[rdr]
 |r::z,vs,hd=>by
  simp only[rdr] at hd⊢;exact⟨hd.1,ZB h r vs hd.2.1,ZC h k z _ hd.2.2⟩
def Lg(h: ∀b,ok b->ok' b/\hp' b=hp b): ∀(ds:List (D×D)) (es:List MapEntry),rde ok hp ds es->rde ok' hp' ds es
 |[],_,hd=>by simpa only[rde] using hd
 |(x,y)::ds,es,hd=>by
  simp only[rde] at hd⊢;obtain⟨e,r,rfl,z,G,O⟩:=hd;exact⟨e,r,rfl,GS h x _ z,GS h y _ G,Lg h ds r O⟩
end
end mono
def D.sc:D->Bool
 | .int _ _| .bool _| .str _| .nilp| .nilf| .nili| .nilc| .nilm=>true
 | .sl true _ []=>true
 |_=>false
def D.scs:D->Bool
 | .agg z| .tup z=>z.all D.sc
 |d=>d.sc
def MG{ok ok':Nat->Prop}{hp hp':Nat->Option Obj}: ∀{d:D} {v:Value},d.sc=true->rd ok hp d v->rd ok' hp' d v:=by
 intro d v h hd;cases d
 case sl nz k rows=>
  cases nz<;>cases rows<;>simp only[D.sc,Df] at h;simp only[rd] at hd⊢;rcases hd with hd|⟨b,p,cap,O,T,G,_,z,_⟩
  .exact .inl hd
  .exact absurd rfl (z trivial)
 all_goals simp_all [D.sc,rd]
def Uj{ok ok':Nat->Prop}{hp hp':Nat->Option Obj}: ∀(ds:List D) (vs:List Value),ds.all D.sc=true->rdl ok hp ds vs->rdl ok' hp' ds vs
 |[],_,_,hd=>by simpa only[rdl] using hd
 |d::ds,vs,h,hd=>by
  simp only[rdl,Lw,AS] at hd h⊢;obtain⟨v,r,rfl,z,G⟩:=hd;exact⟨v,r,rfl,MG h.1 z,Uj ds r h.2 G⟩
def KO{ok ok':Nat->Prop}{hp hp':Nat->Option Obj}: ∀{d:D} {v:Value},d.scs=true->rd ok hp d v->rd ok' hp' d v:=by
 intro d v h hd;cases d<;>simp only[D.scs] at h<;>try exact MG h hd
 all_goals
  simp only[rd] at hd⊢;obtain⟨G,rfl,z⟩:=hd;exact⟨G,rfl,Uj _ _ h z⟩
inductive AV where
 |any
 |im (d:D)
 |agg (cs:List AV)
 |tup (cs:List AV)
 |ptr (o off:Nat)
 |eptr (o i off:Nat)
 |own (o:Nat)
 |mp (o:Nat)
 |ch (o:Nat)
 |it (o:Nat)
 |osl (o a n:Nat)
 |clo (f:FuncId) (first capt:List AV)
 deriving Inhabited
inductive Ad where
 |cells (T:TypeId) (cs:List AV)
 |arr (T:TypeId) (k:Nat) (rows:List (List D))
 |arrA (T:TypeId) (k:Nat) (rows:List (List AV))
 |map (kt:KT) (es:List (D×D))
 |chan (q:List D) (cap:Nat)
 |iter (last:Option (D×D)) (left:List (D×D))
 |view (cs:List D)
def Ad.isView:Ad->Bool
 | .view _=>true
 | .cells _ _| .arr _ _ _| .arrA _ _ _| .map _ _| .chan _ _| .iter _ _=>false
abbrev Au:=Bool×Ad
abbrev Av:=List (Nat×Au)
structure F8 where
 b:Nat
 p:Nat
 cap:Nat
structure A9 where
 ρ:Nat->Option F8
 ok:Nat->Prop
 h:Nat->Option Au
 w:World
def A9.hp(S:A9):Nat->Option Obj:=λb=>S.w.heap[b]?
def Ad.len:Ad->Nat
 | .arr _ _ rows=>rows.length
 | .arrA _ _ rows=>rows.length
 |_=>0
def Ad.esz:Ad->Nat
 | .arr _ k _=>k
 | .arrA _ k _=>k
 |_=>0
def PX(r:Option F8)(z len a n:Nat)(v:Value):Prop:=match r with
 |none=>v= .slice none 0 0/\n=0
 |some l=> ∃p G,v= .slice (some ⟨l.b,p,none⟩) n G/\n<=G/\(n≠0->p=l.p+a*z)/\a+n<=len
mutual
def Aa(S:A9):AV->Value->Prop
 | .any,_=>True
 | .im d,v=>rd S.ok S.hp d v
 | .agg G,v=> ∃z:Array Value,v= .agg z/\AN S G z.toList
 | .tup G,v=> ∃z:Array Value,v= .tuple z/\AN S G z.toList
 | .ptr o off,v=>v.oneCell'=true/\ ∀e,S.h o=some e-> ∃l,S.ρ o=some l/\v= .pointer (some ⟨l.b,l.p+off,none⟩)
 | .eptr o i off,v=>v.oneCell'=true/\ ∀e,S.h o=some e-> ∃l,S.ρ o=some l/\v= .pointer (some ⟨l.b,l.p+i*e.2.esz+off,none⟩)
 | .own o,v=>v.oneCell'=true/\ ∀e,S.h o=some e->match S.ρ o with
  |none=>v= .slice none 0 0
  |some l=>v= .slice (some ⟨l.b,l.p,none⟩) e.2.len l.cap
 | .mp o,v=>v.oneCell'=true/\ ∀e,S.h o=some e-> ∃l,S.ρ o=some l/\v= .map (some l.b)
 | .ch o,v=>v.oneCell'=true/\ ∀e,S.h o=some e-> ∃l,S.ρ o=some l/\v= .chan (some l.b)
 | .it o,v=>v.oneCell'=true/\ ∀e,S.h o=some e-> ∃l,S.ρ o=some l/\v= .pointer (some ⟨l.b,0,none⟩)
 | .osl o a n,v=>v.oneCell'=true/\ ∀e,S.h o=some e->PX (S.ρ o) e.2.esz e.2.len a n v
 | .clo f first capt,v=> ∃a c:Array Value,v= .func (VR f) a c/\AN S first a.toList/\AN S capt c.toList
def AN(S:A9):List AV->List Value->Prop
 |[],z=>z=[]
 |x::xs,z=> ∃v r,z=v::r/\Aa S x v/\AN S xs r
end
def Cy(S:A9):List AV->List Value->Prop
 |[],_=>True
 |x::xs,z=> ∃v r,z=v::r/\Aa S x v/\Cy S xs r
def BH(S:A9)(k:Nat):List (List AV)->List Value->Prop
 |[],_=>True
 |r::G,z=>r.length=k/\Cy S r z/\BH S k G (z.drop k)
def Td(ok:Nat->Prop)(hp:Nat->Option Obj)(z:Array MapEntry)(G:Array Nat):Option (D×D)->Prop
 |none=>True
 |some (x,y)=> ∃st e,G.back? =some st/\z.find? (·.born==st)=some e/\rd ok hp x e.key/\rd ok hp y e.val
def Aw(S:A9)(l:Option F8):Ad->Prop
 | .cells T cs=> ∃O Q,l=some O/\O.p=0/\S.hp O.b=some (.cells Q T (0,0))/\AN S cs Q.toList
 | .arr T k rows=>rows.length<=Lc/\match l with
  |none=>rows=[]
  |some O=>rows.length<=O.cap/\ ∃Q,S.hp O.b=some (.cells Q T (0,0))/\O.p+O.cap*k<=Q.size/\rdr S.ok S.hp k rows (Q.toList.drop O.p)
 | .arrA T k rows=>rows.length<=Lc/\match l with
  |none=>rows=[]
  |some O=>rows.length<=O.cap/\ ∃Q,S.hp O.b=some (.cells Q T (0,0))/\O.p+O.cap*k<=Q.size/\BH S k rows (Q.toList.drop O.p)
 | .map kt es=> ∃O z G,l=some O/\(∀e∈es,kt.fit e.1=true)/\S.hp O.b=some (.map z G)/\rde S.ok S.hp es z.toList/\
  (z.toList.map (·.born)).Nodup/\ ∀e∈z.toList,e.born<G
 | .chan q cap=> ∃O aa ad ac,l=some O/\S.hp O.b=some (.chan cap aa false ad ac false)/\rdl S.ok S.hp q aa.toList
 | .iter ab left=> ∃O mb z G Z,l=some O/\S.ok mb/\Td S.ok S.hp z Z ab/\S.hp mb=some (.map z G)/\
  S.hp O.b=some (.mapIter (some mb) G Z G)/\(z.toList.map (·.born)).Nodup/\(∀e∈z.toList,e.born<G)/\
  rde S.ok S.hp left (z.toList.filter λe=> !Z.contains e.born)
 | .view cs=> ∃O Q T fr,l=some O/\S.hp O.b=some (.cells Q T fr)/\rdp S.ok S.hp cs (Q.toList.drop O.p)
structure AW where
 w:World
 M:Nat->Prop
 ok:Nat->Prop
 n0:Nat
 h0:Nat->Option Au
 ρ0:Nat->Option F8
 ds:List Deferred
def AW.mk0(w:World)(M ok:Nat->Prop):AW:=⟨w,M,ok,0,λ_=>none,λ_=>none,[]⟩
def AW.Pre(C:AW)(S:A9):Prop:= ∀o,o<C.n0-> ∀e',S.h o=some e'-> ∃e,C.h0 o=some e/\S.ρ o=C.ρ0 o/\e'.2.esz=e.2.esz/\e'.2.len=e.2.len
structure Wf(C:AW)(S:A9):Prop where
 os:S.w.os=C.w.os
 tape:S.w.tape=C.w.tape
 output:S.w.output=C.w.output
 size:C.w.heap.size<=S.w.heap.size
 keep: ∀b,b<C.w.heap.size-> ¬C.M b->S.w.heap[b]? =C.w.heap[b]?
 ok0: ∀b,C.ok b->S.ok b
 ok1: ∀b,S.ok b->C.ok b\/C.w.heap.size<=b\/C.M b
 oks: ∀b,S.ok b->b<S.w.heap.size
 obj: ∀o e,S.h o=some e->Aw S (S.ρ o) e.2
 loc: ∀o e l,S.h o=some e->S.ρ o=some l->l.b<S.w.heap.size/\if e.1 then ¬S.ok l.b/\(C.w.heap.size<=l.b\/C.M l.b) else S.ok l.b\/e.2.isView=true
 inj: ∀o o' e e' l l',S.h o=some e->S.h o'=some e'->S.ρ o=some l->S.ρ o'=some l'->l.b=l'.b->(e.1||e'.1)=true->o=o'
 gl:GP (λb=>C.ok b/\ ¬C.M b) (λb=>C.w.heap[b]?)
def Wf.gp{C:AW}{S:A9}(h:Wf C S):GP S.ok S.hp:=by
 refine h.gl.mono λb o hb z=>⟨h.ok0 b hb.1,?_⟩
 have G:b<C.w.heap.size:=by
  apply fY;intro hn
  have:C.w.heap[b]? =none:=Xp (by omega)
  rw[this] at z;cases z
 exact (h.keep b G hb.2).trans z
def Wf.glN{C:AW}{S:A9}(h:Wf C S){M:Nat->Prop}(z: ∀b,M b-> ¬S.ok b):GP (λb=>S.ok b/\ ¬M b) (λb=>S.w.heap[b]?):=
 h.gp.mono λb _ hb O=>⟨⟨hb,λG=>z b G hb⟩,O⟩
mutual
def AV.bel(n:Nat):AV->Bool
 | .any=>true
 | .im _=>true
 | .agg z=>Aq n z
 | .tup z=>Aq n z
 | .ptr o _=>Nat.blt o n
 | .eptr o _ _=>Nat.blt o n
 | .own o=>Nat.blt o n
 | .mp o=>Nat.blt o n
 | .ch o=>Nat.blt o n
 | .it o=>Nat.blt o n
 | .osl o _ _=>Nat.blt o n
 | .clo _ a c=>Aq n a && Aq n c
def Aq(n:Nat):List AV->Bool
 |[]=>true
 |x::r=>x.bel n && Aq n r
end
mutual
def AV.nms:AV->List Nat
 | .any=>[]
 | .im _=>[]
 | .agg z=>AH z
 | .tup z=>AH z
 | .ptr o _=>[o]
 | .eptr o _ _=>[o]
 | .own o=>[o]
 | .mp o=>[o]
 | .ch o=>[o]
 | .it o=>[o]
 | .osl o _ _=>[o]
 | .clo _ a c=>AH a++AH c
def AH:List AV->List Nat
 |[]=>[]
 |x::r=>x.nms++AH r
end
def B7:List (List AV)->List Nat
 |[]=>[]
 |x::r=>AH x++B7 r
def Ad.nms:Ad->List Nat
 | .cells _ z=>AH z
 | .arr _ _ _=>[]
 | .arrA _ _ rows=>B7 rows
 | .map _ _=>[]
 | .chan _ _=>[]
 | .iter _ _=>[]
 | .view _=>[]
structure B3(X:Nat->Prop)(S S':A9):Prop where
 ok: ∀b,S.ok b->S'.ok b/\S'.hp b=S.hp b
 nm: ∀o,X o-> ∀e',S'.h o=some e'-> ∃e,S.h o=some e/\S'.ρ o=S.ρ o/\e'.2.esz=e.2.esz/\e'.2.len=e.2.len
def B3.refl(X:Nat->Prop)(S:A9):B3 X S S:=⟨λ_ h=>⟨h,rfl⟩,λ_ _ e' h=>⟨e',h,rfl,rfl,rfl⟩⟩
section
variable {X:Nat->Prop}{S S':A9}
mutual
def Ii(hp:B3 X S S'): ∀(x:AV) (v:Value),(∀o∈x.nms,X o)->Aa S x v->Aa S' x v
 | .any,_,_,_=>by simp only[Aa]
 | .im d,v,_,h=>by
   simp only[Aa] at h⊢;exact GS hp.ok d v h
 | .agg cs,v,G,h=>by
   simp only[Aa,AV.nms] at h G⊢;obtain⟨vs,rfl,h1⟩:=h;exact⟨vs,rfl,V5 hp cs _ G h1⟩
 | .tup cs,v,G,h=>by
   simp only[Aa,AV.nms] at h G⊢;obtain⟨vs,rfl,h1⟩:=h;exact⟨vs,rfl,V5 hp cs _ G h1⟩
 | .ptr o off,v,G,h=>by
   simp only[Aa,AV.nms,BK,Lz] at h G⊢;obtain⟨z,h⟩:=h;refine⟨z,?_⟩;intro e' O;obtain⟨e,Q,Z,_,_⟩:=hp.nm o G e' O;rw[Z];exact h e Q
 | .eptr o i off,v,G,h=>by
   simp only[Aa,AV.nms,BK,Lz] at h G⊢;obtain⟨z,h⟩:=h;refine⟨z,?_⟩;intro e' O;obtain⟨e,Q,Z,hz,_⟩:=hp.nm o G e' O;rw[Z,hz];exact h e Q
 | .own o,v,G,h=>by
   simp only[Aa,AV.nms,BK,Lz] at h G⊢;obtain⟨z,h⟩:=h;refine⟨z,?_⟩;intro e' O;obtain⟨e,Q,Z,_,hl⟩:=hp.nm o G e' O;rw[Z,hl];exact h e Q
 | .mp o,v,G,h=>by
   simp only[Aa,AV.nms,BK,Lz] at h G⊢;obtain⟨z,h⟩:=h;refine⟨z,?_⟩;intro e' O;obtain⟨e,Q,Z,_,_⟩:=hp.nm o G e' O;rw[Z];exact h e Q
 | .ch o,v,G,h=>by
   simp only[Aa,AV.nms,BK,Lz] at h G⊢;obtain⟨z,h⟩:=h;refine⟨z,?_⟩;intro e' O;obtain⟨e,Q,Z,_,_⟩:=hp.nm o G e' O;rw[Z];exact h e Q
 | .it o,v,G,h=>by
   simp only[Aa,AV.nms,BK,Lz] at h G⊢;obtain⟨z,h⟩:=h;refine⟨z,?_⟩;intro e' O;obtain⟨e,Q,Z,_,_⟩:=hp.nm o G e' O;rw[Z];exact h e Q
 | .osl o a n,v,G,h=>by
   simp only[Aa,AV.nms,BK,Lz] at h G⊢;obtain⟨z,h⟩:=h;refine⟨z,?_⟩;intro e' O;obtain⟨e,Q,Z,hz,hl⟩:=hp.nm o G e' O;rw[Z,hz,hl];exact h e Q
 | .clo f fi ca,v,G,h=>by
   simp only[Aa,AV.nms,Bx] at h G⊢;obtain⟨a,c,rfl,h1,h2⟩:=h;exact⟨a,c,rfl,V5 hp fi _ (λo ho=>G o (.inl ho)) h1,V5 hp ca _ (λo ho=>G o (.inr ho)) h2⟩
def V5(hp:B3 X S S'): ∀(xs:List AV) (vs:List Value),(∀o∈AH xs,X o)->AN S xs vs->AN S' xs vs
 |[],_,_,h=>by simpa only[AN] using h
 |x::xs,vs,G,h=>by
  simp only[AN,AH,Bx] at h G⊢;obtain⟨v,r,rfl,O,Q⟩:=h;exact⟨v,r,rfl,Ii hp x v (λo z=>G o (.inl z)) O,V5 hp xs r (λo z=>G o (.inr z)) Q⟩
end
def Qq7(hp:B3 X S S'): ∀(xs:List AV) (vs:List Value),(∀o∈AH xs,X o)->Cy S xs vs->Cy S' xs vs
 |[],_,_,_=>by simp only[Cy]
 |x::xs,vs,G,h=>by
  simp only[Cy,AH,Bx] at h G⊢;obtain⟨v,r,rfl,O,Q⟩:=h;exact⟨v,r,rfl,Ii hp x v (λo z=>G o (.inl z)) O,Qq7 hp xs r (λo z=>G o (.inr z)) Q⟩
def sG(hp:B3 X S S')(k:Nat): ∀(z:List (List AV)) (vs:List Value),(∀o∈B7 z,X o)->BH S k z vs->BH S' k z vs
 |[],_,_,_=>by simp only[BH]
 |r::z,vs,O,h=>by
  simp only[BH,B7,Bx] at h O⊢;exact⟨h.1,Qq7 hp r vs (λo G=>O o (.inl G)) h.2.1,sG hp k z _ (λo G=>O o (.inr G)) h.2.2⟩
def Qly{ok ok':Nat->Prop}{hp hp':Nat->Option Obj}(h: ∀b,ok b->ok' b/\hp' b=hp b){z:Array MapEntry}{G:Array Nat}: ∀(l:Option (D×D)),Td ok hp z G l->Td ok' hp' z G l
 |none,_=>trivial
 |some (x,y),O=>by
  obtain⟨st,e,a,b,c,d⟩:=O;exact⟨st,e,a,b,GS h x _ c,GS h y _ d⟩
def Ih(hp:B3 X S S'){l:Option F8}(hl: ∀z,l=some z->S'.hp z.b=S.hp z.b): ∀(e:Ad),(∀o∈e.nms,X o)->Aw S l e->Aw S' l e
 | .cells T cs,hx,h=>by
   simp only[Aw,Ad.nms] at h hx⊢;obtain⟨z,vs,G,Q,Z,h4⟩:=h;exact⟨z,vs,G,Q,(hl z G).trans Z,V5 hp cs _ hx h4⟩
 | .arr T k rows,hx,h=>by
   simp only[Aw] at h⊢;refine⟨h.1,?_⟩;cases l with
   |none=>exact h.2
   |some z=>
    obtain⟨h0,G,vs,Q,Z,h4⟩:=h;exact⟨G,vs,(hl z rfl).trans Q,Z,ZC hp.ok k rows _ h4⟩
 | .arrA T k rows,hx,h=>by
   simp only[Aw,Ad.nms] at h hx⊢;refine⟨h.1,?_⟩;cases l with
   |none=>exact h.2
   |some z=>
    obtain⟨h0,G,vs,Q,Z,h4⟩:=h;exact⟨G,vs,(hl z rfl).trans Q,Z,sG hp k rows _ hx h4⟩
 | .map kt es,_,h=>by
   simp only[Aw] at h⊢;obtain⟨z,aa,O,G,h0,Q,Z,h4⟩:=h;exact⟨z,aa,O,G,h0,(hl z G).trans Q,Lg hp.ok es _ Z,h4⟩
 | .chan q cap,_,h=>by
   simp only[Aw] at h⊢;obtain⟨z,ag,af,ac,G,Q,Z⟩:=h;exact⟨z,ag,af,ac,G,(hl z G).trans Q,Li hp.ok q _ Z⟩
 | .iter ab left,_,h=>by
   simp only[Aw] at h⊢;obtain⟨z,mb,aa,O,ad,G,Q,h0,Z,h4,h5,h6,h7⟩:=h;exact⟨z,mb,aa,O,ad,G,(hp.ok mb Q).1,Qly hp.ok ab h0,(hp.ok mb Q).2.trans Z,(hl z G).trans h4,h5,h6,Lg hp.ok left _ h7⟩
 | .view cs,_,h=>by
   simp only[Aw] at h⊢;obtain⟨z,vs,T,fr,G,Q,Z⟩:=h;exact⟨z,vs,T,fr,G,(hl z G).trans Q,ZB hp.ok cs _ Z⟩
end
inductive TK where
 |bool
 |str
 |ptr (e:TypeId)
 |int (k:IntKind)
 |slice (e:TypeId)
 |array (n:Nat) (e:TypeId)
 |struct (fs:List (Nat×Nat))
 |map (k e:TypeId)
 |other
structure TI where
 size:Nat
 bytes:Nat
 agg:Bool
 kind:TK
 zero:List D
def zD:Value->D
 | .bool b=> .bool b
 | .int k n=> .int k n
 | .string s=> .str s
 | .pointer none=> .nilp
 | .slice none _ _=> .sl true 0 []
 | .map none=> .nilm
 | .chan none=> .nilc
 | .nilFunc=> .nilf
 |_=> .nili
def bS:Value->Bool
 | .bool _| .int _ _| .string _| .pointer none| .slice none 0 0| .map none| .chan none| .nilFunc| .nilIface=>true
 |_=>false
def zOf:Bool->Option Value->List D
 |true,some (.agg z)=>bif z.toList.all bS then z.toList.map zD else []
 |false,some v=>bif bS v then [zD v] else []
 |_,_=>[]
def Xq:TypeDesc->Bool
 | .struct _| .array _ _=>true
 |_=>false
def Fw(P:Program):TypeDesc->TK
 | .int k=> .int k
 | .slice e=> .slice e
 | .array n e=> .array n e
 | .struct z=>bif z.toList.all (λf=>(P.info? f.type).isSome) then .struct (z.toList.map λf=>(f.offset,((P.info? f.type).map (·.size)).getD 0)) else .other
 | .map k e=> .map k e
 | .bool=> .bool
 | .string=> .str
 | .pointer e=> .ptr e
 |_=> .other
def tI(P:Program)(t:TypeId):Option TI:=
 match P.info? t,P.underlying t with
 |some i,some u=>some {size:=i.size,bytes:=i.bytes,agg:=Xq u,kind:=Fw P u,zero:=zOf (Xq u) i.zero}
 |_,_=>none
structure Br where
 use:List Nat:=[]
 kill:List Nat:=[]
 new:Av:=[]
 cnt:Nat:=0
structure Ai where
 tm:List (Nat×AV)
 h:Av
 nx:Nat
def AF:List (Nat×AV)->Nat->AV
 |[],_=> .any
 |(m,x)::r,n=>bif m==n then x else AF r n
def hget:Av->Nat->Option Au
 |[],_=>none
 |(m,e)::r,n=>bif m==n then some e else hget r n
def Bh:Av->List Nat->Av
 |[],_=>[]
 |(m,e)::r,ks=>bif ks.contains m then Bh r ks else (m,e)::Bh r ks
def Ai.put(s:Ai)(dst:Option Nat)(x:AV):Ai:=
 match dst with
 |some d=>⟨(d,x)::s.tm,s.h,s.nx⟩
 |none=>s
def Ai.app(s:Ai)(dst:Option Nat)(r:AV)(E:Br):Ai:=
 (⟨s.tm,E.new++Bh s.h E.kill,s.nx+E.cnt⟩:Ai).put dst r
def kD:Value->AV
 | .bool b=> .im (.bool b)
 | .int k n=> .im (.int k n)
 | .string s=> .im (.str s)
 | .pointer none=> .im .nilp
 | .slice none 0 0=> .im (.sl true 0 [])
 | .map none=> .im .nilm
 | .chan none=> .im .nilc
 | .nilFunc=> .im .nilf
 | .nilIface=> .im .nili
 |_=> .any
def Az(tm:List (Nat×AV)):Operand->AV
 | .tmp t=>AF tm t
 | .const v=>kD v
 | .global g=> .im (.gp g)
 | .func f=>bif Nat.blt f 1000000000 then .im (.fn f [] []) else .any
def D.cells:D->List D
 | .agg ds=>ds
 | .int k n=>[.int k n]
 | .bool b=>[.bool b]
 | .str s=>[.str s]
 | .nilp=>[.nilp]
 | .nilf=>[.nilf]
 | .nili=>[.nili]
 | .nilc=>[.nilc]
 | .nilm=>[.nilm]
 | .tup z=>[.tup z]
 | .sl Q k rows=>[.sl Q k rows]
 | .ref z=>[.ref z]
 | .mp O G=>[.mp O G]
 | .fn f a c=>[.fn f a c]
 | .ifc t d=>[.ifc t d]
 | .gp g=>[.gp g]
 | .tok g=>[.tok g]
def AV.cells:AV->List AV
 | .im d=>d.cells.map .im
 | .agg z=>z
 | .any=>[]
 | .tup z=>[.tup z]
 | .ptr o p=>[.ptr o p]
 | .eptr o i p=>[.eptr o i p]
 | .own o=>[.own o]
 | .mp o=>[.mp o]
 | .ch o=>[.ch o]
 | .it o=>[.it o]
 | .osl o a n=>[.osl o a n]
 | .clo f a c=>[.clo f a c]
def D.one:D->Bool
 | .agg _| .tup _=>false
 | .int _ _| .bool _| .str _| .nilp| .nilf| .nili| .nilc| .nilm| .sl _ _ _| .ref _| .mp _ _| .fn _ _ _| .ifc _ _| .gp _| .tok _=>true
def AV.one:AV->Bool
 | .im d=>d.one
 | .agg _| .any| .tup _=>false
 | .ptr _ _| .eptr _ _ _| .own _| .mp _| .ch _| .it _| .osl _ _ _| .clo _ _ _=>true
def Ra:List AV->Bool
 |[]=>true
 |x::r=>x.one && Ra r
def AV.asD:AV->Option D
 | .im d=>some d
 | .agg _| .any| .tup _| .ptr _ _| .eptr _ _ _| .own _| .mp _| .ch _| .it _| .osl _ _ _| .clo _ _ _=>none
def Oc:Option D->Option (List D)->Option (List D)
 |some d,some ds=>some (d::ds)
 |some _,none=>none
 |none,_=>none
def DO:List AV->Option (List D)
 |[]=>some []
 |x::r=>Oc x.asD (DO r)
def Ys(cs:List AV):Option (List D)->AV
 |some ds=> .im (.agg ds)
 |none=> .agg cs
def hdV:List AV->AV
 |[]=> .any
 |x::_=>x
def iO:List D->D
 |[]=> .nilp
 |x::_=>x
def iV(agg:Bool)(cs:List AV):AV:=
 bif agg then Ys cs (DO cs) else hdV cs
def bE(agg:Bool)(ds:List D):D:=bif agg then .agg ds else iO ds
def BY{α:Type}(l:List α)(off:Nat)(x:List α):List α:=l.take off++x++l.drop (off+x.length)
abbrev Ah:=AV->Br->Prop
mutual
def D.beq:D->D->Bool
 | .int _ a,.int _ b=>a==b
 | .bool a,.bool b=>a==b
 | .str a,.str b=>a==b
 | .agg a,.agg b=>D.beql a b
 |_,_=>false
def D.beql:List D->List D->Bool
 |[],[]=>true
 |a::r,b::s=>D.beq a b && D.beql r s
 |_,_=>false
end
def lk:List (D×D)->D->Option D
 |[],_=>none
 |(k,v)::r,x=>bif D.beq x k then some v else lk r x
def G7:List (D×D)->D->D->List (D×D)
 |[],x,y=>[(x,y)]
 |(k,v)::r,x,y=>bif D.beq x k then (x,y)::r else (k,v)::G7 r x y
def IR:List (D×D)->D->List (D×D)
 |[],_=>[]
 |(k,v)::r,x=>bif D.beq x k then r else (k,v)::IR r x
def ZU(P:Program)(G:TypeId->Option KT):List Field->Nat->Option (List KK)
 |[],_=>some []
 |f::O,off=>
  match G f.type,P.info? f.type with
  |some z,some i=>
   bif f.offset==off && (f.name != "_" && i.size==z.ks.length) then (ZU P G O (off+z.ks.length)).map (z.ks++ ·) else none
  |_,_=>none
def Bo(P:Program):Nat->TypeId->Option KT
 |0,_=>none
 |n+1,t=>
  match P.underlying t with
  |some (.int k)=>some ⟨false,[.int k]⟩
  |some .string=>some ⟨false,[.str]⟩
  |some .bool=>some ⟨false,[.bool]⟩
  |some (.struct z)=>bif P.stoodInHeld t then none else (ZU P (Bo P n) z.toList 0).map (⟨true,·⟩)
  |_=>none
def Bw(P:Program)(t:TypeId):Option KT:=Bo P 5 t
def J1{α:Type}(rows:List (List α))(i:Nat)(K:List α->Prop):Prop:= ∀row,rows[i]? =some row->K row
def Gb(es:List (D×D))(kd:D)(Ks:D->Prop)(Kn:Prop):Prop:=(∀v,lk es kd=some v->Ks v)/\(lk es kd=none->Kn)
def fG(ti:TI)(off:Nat)(E:Br)(K:Ah)(row:List D):Prop:=(ti.agg=true\/ti.size=1)/\off+ti.size<=row.length/\K (.im (bE ti.agg ((row.drop off).take ti.size))) E
def vB(ti:TI)(off:Nat)(E:Br)(K:Ah)(row:List AV):Prop:=(ti.agg=true\/ti.size=1)/\off+ti.size<=row.length/\K (iV ti.agg ((row.drop off).take ti.size)) E
def Jb(ti:TI)(o off:Nat)(K:Ah):Option Au->Prop
 |some (_,.cells _ z)=>vB ti off {use:=[o]} K z
 |some (_,.view z)=>fG ti off {use:=[o]} K z
 |_=>False
def Ja(ti:TI)(o i off:Nat)(K:Ah):Option Au->Prop
 |some (_,.arr _ _ rows)=>i<rows.length/\J1 rows i (fG ti off {use:=[o]} K)
 |some (_,.arrA _ _ rows)=>i<rows.length/\J1 rows i (vB ti off {use:=[o]} K)
 |_=>False
def Xd(h:Nat->Option Au)(ti:TI)(K:Ah):AV->Prop
 | .im (.ref z)=>fG ti 0 {} K z
 | .im (.gp g)=>Mg g=true/\ti.size=1/\ti.agg=false/\K (.im (.tok g)) {}
 | .ptr o off=>Jb ti o off K (h o)
 | .eptr o i off=>Ja ti o i off K (h o)
 |_=>False
def Yj(o i off k z:Nat)(T:TypeId)(rows:List (List D))(K:Ah)(row:List D):Option (List D)->Prop
 |some ds=>off+z<=row.length/\K .any {use:=[o],kill:=[o],new:=[(o,(true,.arr T k (rows.set i (BY row off ds))))]}
 |none=>False
def Qxz(o i off k z:Nat)(T:TypeId)(rows:List (List D))(ds:Option (List D))(K:Ah)(row:List D):Prop:=Yj o i off k z T rows K row ds
def Qyo(o i off k z:Nat)(T:TypeId)(rows:List (List AV))(vs:List AV)(K:Ah)(row:List AV):Prop:=
 off+z<=row.length/\K .any {use:=[o],kill:=[o],new:=[(o,(true,.arrA T k (rows.set i (BY row off vs))))]}
def UJ(ti:TI)(o off:Nat)(vs:List AV)(K:Ah):Option Au->Prop
 |some (true,.cells T z)=>off+ti.size<=z.length/\K .any {use:=[o],kill:=[o],new:=[(o,(true,.cells T (BY z off vs)))]}
 |_=>False
def Jq(ti:TI)(o i off:Nat)(vs:List AV)(K:Ah):Option Au->Prop
 |some (true,.arr T k rows)=>i<rows.length/\J1 rows i (Qxz o i off k ti.size T rows (DO vs) K)
 |some (true,.arrA T k rows)=>i<rows.length/\J1 rows i (Qyo o i off k ti.size T rows vs K)
 |_=>False
def sK(h:Nat->Option Au)(ti:TI)(vs:List AV)(K:Ah):AV->Prop
 | .ptr o off=>UJ ti o off vs K (h o)
 | .eptr o i off=>Jq ti o i off vs K (h o)
 |_=>False
def Qri(h:Nat->Option Au)(x v:AV)(K:Ah)(ti:TI):Prop:=
 ti.size≠0/\v.cells.length=ti.size/\Ra v.cells=true/\sK h ti v.cells K x
def Ru(o:Nat)(x:AV)(K:Ah):Option Au->Prop
 |some _=>K x {use:=[o]}
 |none=>False
def K5(h:Nat->Option Au)(off:Nat)(K:Ah):AV->Prop
 | .im (.ref z)=>off<=z.length/\K (.im (.ref (z.drop off))) {}
 | .ptr o p=>Ru o (.ptr o (p+off)) K (h o)
 | .eptr o i p=>Ru o (.eptr o i (p+off)) K (h o)
 |_=>False
def XM(h:Nat->Option Au)(x:AV)(K:Ah):Option (Nat×Nat)->Prop
 |some (off,z)=>z≠0/\K5 h off K x
 |none=>False
def faK(h:Nat->Option Au)(x:AV)(f:Nat)(K:Ah):TK->Prop
 | .struct z=>XM h x K z[f]?
 |_=>False
def yV(h:Nat->Option Au)(x:AV)(f:Nat)(K:Ah)(ti:TI):Prop:=faK h x f K ti.kind
def wY(K:Ah)(row:List D):Prop:=K (.im (.ref row)) {}
def Me(o:Nat)(n:Int)(K:Ah)(z:TI):Option Au->Prop
 |some (_,.arr _ k rows)=>k=z.size/\0<=n/\n<(rows.length:Int)/\K (.eptr o n.toNat 0) {use:=[o]}
 |some (_,.arrA _ k rows)=>k=z.size/\0<=n/\n<(rows.length:Int)/\K (.eptr o n.toNat 0) {use:=[o]}
 |_=>False
def Yd(h:Nat->Option Au)(n:Int)(K:Ah)(x:AV)(z:TI):Prop:=
 match x with
 | .im (.sl _ k rows)=>k=z.size/\0<=n/\n<(rows.length:Int)/\J1 rows n.toNat (wY K)
 | .own o=>Me o n K z (h o)
 |_=>False
def Md(h:Nat->Option Au)(m:Nat)(n:Int)(K:Ah)(x:AV)(z:TI):Prop:=
 match x with
 | .ptr o p=>0<=n/\n<(m:Int)/\Ru o (.ptr o (p+n.toNat*z.size)) K (h o)
 | .im (.ref G)=>0<=n/\n<(m:Int)/\n.toNat*z.size<=G.length/\K (.im (.ref (G.drop (n.toNat*z.size)))) {}
 |_=>False
def Bg(f:TI->Prop):Option TI->Prop
 |some ti=>f ti
 |none=>False
def wQ(P:Program)(h:Nat->Option Au)(x:AV)(n:Int)(K:Ah):TK->Prop
 | .slice e=>Bg (Yd h n K x) (tI P e)
 | .array m e=>Bg (Md h m n K x) (tI P e)
 |_=>False
def Qjp(P:Program)(h:Nat->Option Au)(x:AV)(ti:TI)(K:Ah):AV->Prop
 | .im (.int _ n)=>wQ P h x n K ti.kind
 |_=>False
def SU(m:Nat)(n:Int)(cs:List D)(K:Ah)(z:TI):Prop:=
 (z.agg=true\/z.size=1)/\0<=n/\n<(m:Int)/\n.toNat*z.size+z.size<=cs.length/\K (.im (bE z.agg ((cs.drop (n.toNat*z.size)).take z.size))) {}
def bT(s:ByteArray)(i:Nat)(K:UInt8->Prop):Prop:= ∀c,s.data[i]? =some c->K c
def kCh(K:Ah)(c:UInt8):Prop:=K (.im (.int .u8 c.toNat)) {}
def ixK(P:Program)(n:Int)(K:Ah):TK->AV->Prop
 | .array m e,.im (.agg z)=>Bg (SU m n z K) (tI P e)
 | .str,.im (.str s)=>0<=n/\n<(s.size:Int)/\bT s n.toNat (kCh K)
 |_,_=>False
def Qxc(P:Program)(x:AV)(ti:TI)(K:Ah):AV->Prop
 | .im (.int _ n)=>ixK P n K ti.kind x
 |_=>False
def GL:BinOp->Nat
 | .shr=>1
 | .shl=>2
 | .add| .sub| .mul| .quo| .rem| .and| .or| .xor| .andNot| .eql| .neq| .lss| .leq| .gtr| .geq=>0
def Ot(k:IntKind)(a b:Int):Int:=k.wrap ((BitVec.ofInt k.bits a &&& BitVec.ofInt k.bits b).toNat:Int)
def orI(k:IntKind)(a b:Int):Int:=k.wrap ((BitVec.ofInt k.bits a|||BitVec.ofInt k.bits b).toNat:Int)
def yH(k:IntKind)(a b:Int):Int:=k.wrap ((BitVec.ofInt k.bits a^^^BitVec.ofInt k.bits b).toNat:Int)
def IE(op:BinOp)(k:IntKind)(a b:Int)(K:Ah):Prop:=
 match op with
 | .add=>K (.im (.int k (k.wrap (a+b)))) {}
 | .sub=>K (.im (.int k (k.wrap (a - b)))) {}
 | .mul=>K (.im (.int k (k.wrap (a*b)))) {}
 | .quo=>b≠0/\K (.im (.int k (k.wrap (a.tdiv b)))) {}
 | .rem=>b≠0/\K (.im (.int k (a.tmod b))) {}
 | .eql=>K (.im (.bool (decide (a=b)))) {}
 | .neq=>K (.im (.bool (!decide (a=b)))) {}
 | .lss=>K (.im (.bool (decide (a<b)))) {}
 | .leq=>K (.im (.bool (decide (a<=b)))) {}
 | .gtr=>K (.im (.bool (decide (b<a)))) {}
 | .geq=>K (.im (.bool (decide (b<=a)))) {}
 | .and=>K (.im (.int k (Ot k a b))) {}
 | .or=>K (.im (.int k (orI k a b))) {}
 | .xor=>K (.im (.int k (yH k a b))) {}
 |_=>False
def aS(neg:Bool)(K:Ah)(b:Bool):Prop:=K (.im (.bool (neg !=b))) {}
def Sh(neg:Bool)(K:Ah):AV->Prop
 | .im (.sl true _ rows)=>aS neg K rows.isEmpty
 |_=>False
def uR(h:Nat->Option Au)(neg:Bool)(K:Ah):AV->Prop
 | .im .nilp=>aS neg K true
 | .im (.ref _)=>aS neg K false
 | .ptr o _=>Ru o (.im (.bool neg)) K (h o)
 | .eptr o _ _=>Ru o (.im (.bool neg)) K (h o)
 |_=>False
def Wg(h:Nat->Option Au)(neg:Bool)(K:Ah):AV->Prop
 | .im .nilm=>aS neg K true
 | .im (.mp _ _)=>aS neg K false
 | .mp o=>Ru o (.im (.bool neg)) K (h o)
 |_=>False
def WZ(h:Nat->Option Au)(neg:Bool)(K:Ah)(x:AV):Nat->TK->Prop
 |0,.slice _=>Sh neg K x
 |1,.ptr _=>uR h neg K x
 |2,.map _ _=>Wg h neg K x
 |_,_=>False
def NG(op:BinOp)(a b:ByteArray)(K:Ah):Prop:=
 match op with
 | .eql=>K (.im (.bool (decide (a=b)))) {}
 | .neq=>K (.im (.bool (!decide (a=b)))) {}
 | .add=>a.size+b.size<=9223372036854775807/\K (.im (.str (a++b))) {}
 |_=>False
def Ju(op:BinOp)(a b:Bool)(K:Ah):Prop:=
 match op with
 | .eql=>K (.im (.bool (a==b))) {}
 | .neq=>K (.im (.bool (a !=b))) {}
 |_=>False
def Ng(op:BinOp)(a b:Bool)(K:Ah):Option TI->Prop
 |some ti=>ti.kind= .bool/\Ju op a b K
 |none=>False
def uB(op:BinOp)(a b:List D)(K:Ah):Prop:=
 match op with
 | .eql=>K (.im (.bool (D.beql a b))) {}
 | .neq=>K (.im (.bool (!D.beql a b))) {}
 |_=>False
def tW(P:Program)(T:TypeId)(op:BinOp)(a b:List D)(K:Ah):Option KT->Prop
 |some z=>z.fit (.agg a)=true/\z.fit (.agg b)=true/\P.eqGuardType P.depth T=false/\uB op a b K
 |none=>False
def ZK(op:BinOp)(k:IntKind)(a:Int)(k':IntKind)(b:Int)(K:Ah):Nat->Prop
 |0=>k=k'/\IE op k a b K
 |1=>0<=b/\K (.im (.int k (a.fdiv (2^min b.toNat k.bits)))) {}
 |_+2=>0<=b/\K (.im (.int k (k.wrap (a*2^min b.toNat k.bits)))) {}
def fN(P:Program)(T:TypeId)(op:BinOp)(K:Ah):AV->AV->Prop
 | .im (.int k a),.im (.int k' b)=>ZK op k a k' b K (GL op)
 | .im (.str a),.im (.str b)=>NG op a b K
 | .im (.bool a),.im (.bool b)=>Ng op a b K (tI P T)
 | .im (.agg a),.im (.agg b)=>tW P T op a b K (Bw P T)
 |_,_=>False
def Zg(K:Ah):UnOp->AV->Prop
 | .not,.im (.bool b)=>K (.im (.bool (!b))) {}
 | .neg,.im (.int k n)=>K (.im (.int k (k.wrap (-n)))) {}
 |_,_=>False
def ZR(cells:List AV)(vs:List AV):Option (Nat×Nat)->Option (List AV)
 |none=>none
 |some (off,size)=>bif vs.length==size && (Nat.blt 0 size && Nat.ble (off+size) cells.length) then some (BY cells off vs) else none
def HF(place:Nat->Option (Nat×Nat)):List (Nat×AV)->Option (List AV)->Option (List AV)
 |[],r=>r
 |_::_,none=>none
 |(i,v)::z,some cells=>HF place z (ZR cells v.cells (place i))
def Jl(k i:Nat):Option (Nat×Nat):=some (i*k,k)
def MA(z:List (Nat×Nat))(i:Nat):Option (Nat×Nat):=z[i]?
def NB(K:Ah):Option (List AV)->Prop
 |some z=>K (iV true z) {}
 |none=>False
def R1(O:List AV)(z:List (Nat×AV))(K:Ah)(G:TI):Prop:=NB K (HF (Jl G.size) z (some O))
def wH(P:Program)(G:List AV)(z:List (Nat×AV))(K:Ah):TK->Prop
 | .struct O=>NB K (HF (MA O) z (some G))
 | .array _ e=>Bg (R1 G z K) (tI P e)
 |_=>False
def Qsy(P:Program)(z:List (Nat×AV))(K:Ah)(ti:TI):Prop:=ti.zero.length=ti.size/\ti.size≠0/\wH P (ti.zero.map .im) z K ti.kind
def Ij{α:Type}(k:Nat):Nat->List α->List (List α)
 |0,_=>[]
 |n+1,l=>l.take k::Ij k n (l.drop k)
def Ca{α:Type}:Nat->List α->List α
 |0,_=>[]
 |n+1,z=>z++Ca n z
def IL(nx len e k:Nat)(cs:List AV)(K:Ah):Option (List D)->Prop
 |some ds=>K (.own nx) {new:=[(nx,(true,.arr e k (Ij k len ds)))],cnt:=1}
 |none=>K (.own nx) {new:=[(nx,(true,.arrA e k (Ij k len cs)))],cnt:=1}
def L7(nx len e k:Nat)(K:Ah):Option (List AV)->Prop
 |some z=>IL nx len e k z K (DO z)
 |none=>False
def bsE(nx len e:Nat)(z:List (Nat×AV))(K:Ah)(G:TI):Prop:=
 G.zero.length=G.size/\G.size≠0/\len*G.size<=16777216/\L7 nx len e G.size K (HF (Jl G.size) z (some (Ca len (G.zero.map .im))))
def bsK(P:Program)(nx len:Nat)(z:List (Nat×AV))(K:Ah):TK->Prop
 | .slice e=>Bg (bsE nx len e z K) (tI P e)
 |_=>False
def yN(P:Program)(nx len:Nat)(z:List (Nat×AV))(K:Ah)(ti:TI):Prop:=bsK P nx len z K ti.kind
def msE(nx e:Nat)(n m:Int)(K:Ah)(z:TI):Prop:=
 z.size≠0/\0<=n/\n<=m/\m<=1073741824/\z.bytes<=65536/\z.zero.length=z.size/\
  K (.own nx) {new:=[(nx,(true,.arr e z.size (List.replicate n.toNat z.zero)))],cnt:=1}
def msK(P:Program)(nx:Nat)(K:Ah):TK->AV->AV->Prop
 | .slice e,.im (.int .i64 n),.im (.int .i64 m)=>Bg (msE nx e n m K) (tI P e)
 |_,_,_=>False
def yW(P:Program)(nx:Nat)(l c:AV)(K:Ah)(ti:TI):Prop:=msK P nx K ti.kind l c
inductive Cd where
 |d (u:List Nat) (k:Nat) (rows:List (List D))
 |a (u:List Nat) (k:Nat) (rows:List (List AV))
 |no
def ZN(o:Nat):Option Au->Cd
 |some (_,.arr _ k rows)=> .d [o] k rows
 |some (_,.arrA _ k rows)=> .a [o] k rows
 |_=> .no
def DN(h:Nat->Option Au):AV->Cd
 | .im (.sl _ k rows)=> .d [] k rows
 | .own o=>ZN o (h o)
 |_=> .no
def Bq(rows:List (List D)):List (List AV):=rows.map λr=>r.map .im
def B1:List D->Bool
 |[]=>true
 |x::r=>x.one && B1 r
def BE{α:Type}(f:List α->Bool)(rows:List (List α)):Prop:= ∀row∈rows,f row=true
def Cd.okOne:Cd->Prop
 | .d _ _ rows=>BE B1 rows
 | .a _ _ rows=>BE Ra rows
 | .no=>False
def N8(nx e:Nat)(z:TI)(K:Ah):Cd->Prop
 | .d u k rows=>(k=z.size\/rows=[])/\(rows.length+512)*z.bytes<=140737488355328/\K (.own nx) {use:=u,new:=[(nx,(true,.arr e z.size rows))],cnt:=1}
 | .a u k rows=>k=z.size/\(rows.length+512)*z.bytes<=140737488355328/\K (.own nx) {use:=u,kill:=u,new:=[(nx,(true,.arrA e z.size rows))],cnt:=1}
 | .no=>False
def mX(nx e o:Nat)(z:TI)(rows0:List (List D))(K:Ah):Cd->Prop
 | .d u k rows=>(k=z.size\/rows=[])/\u≠[o]/\(rows0.length+rows.length+512)*z.bytes<=140737488355328/\
  K (.own nx) {use:=o::u,kill:=[o],new:=[(nx,(true,.arr e z.size (rows0++rows)))],cnt:=1}
 | .a u k rows=>k=z.size/\u≠[o]/\(rows0.length+rows.length+512)*z.bytes<=140737488355328/\
  K (.own nx) {use:=o::u,kill:=o::u,new:=[(nx,(true,.arrA e z.size (Bq rows0++rows)))],cnt:=1}
 | .no=>False
def mW(nx e o:Nat)(z:TI)(rows0:List (List AV))(K:Ah):Cd->Prop
 | .d u k rows=>(k=z.size\/rows=[])/\u≠[o]/\(rows0.length+rows.length+512)*z.bytes<=140737488355328/\
  K (.own nx) {use:=o::u,kill:=[o],new:=[(nx,(true,.arrA e z.size (rows0++Bq rows)))],cnt:=1}
 | .a u k rows=>k=z.size/\u≠[o]/\(rows0.length+rows.length+512)*z.bytes<=140737488355328/\
  K (.own nx) {use:=o::u,kill:=o::u,new:=[(nx,(true,.arrA e z.size (rows0++rows)))],cnt:=1}
 | .no=>False
def II(nx e o:Nat)(G:TI)(src:Cd)(K:Ah):Option Au->Prop
 |some (true,.arr T k z)=>T=e/\k=G.size/\mX nx e o G z K src
 |some (true,.arrA T k z)=>T=e/\k=G.size/\mW nx e o G z K src
 |_=>False
def Rw(h:Nat->Option Au)(nx e:Nat)(z:TI)(src:Cd)(K:Ah):AV->Prop
 | .im (.sl true _ [])=>N8 nx e z K src
 | .own o=>II nx e o z src K (h o)
 |_=>False
def apE(h:Nat->Option Au)(nx e:Nat)(s:AV)(src:Cd)(K:Ah)(z:TI):Prop:=
 z.size≠0/\z.zero.length=z.size/\z.bytes≠0/\src.okOne/\Rw h nx e z src K s
def apK(P:Program)(h:Nat->Option Au)(nx:Nat)(s:AV)(src:Cd)(K:Ah):TK->Prop
 | .slice e=>Bg (apE h nx e s src K) (tI P e)
 |_=>False
def Qsl(P:Program)(h:Nat->Option Au)(nx:Nat)(s x:AV)(K:Ah)(ti:TI):Prop:=apK P h nx s (DN h x) K ti.kind
def FJ(K:Ah)(E:Br)(n:Nat):Prop:=K (.im (.int .i64 n)) E
def Qxr(z:Bool)(o:Nat)(K:Ah):Option Au->Prop
 |some (_,.arr _ _ rows)=>(z=true->rows.length<=140737488355328)->FJ K {use:=[o]} rows.length
 |some (_,.arrA _ _ rows)=>(z=true->rows.length<=140737488355328)->FJ K {use:=[o]} rows.length
 |_=>False
def Mn(o:Nat)(K:Ah):Option Au->Prop
 |some (_,.map _ z)=>FJ K {use:=[o]} z.length
 |_=>False
def iR(o n:Nat)(K:Ah):Option Au->Prop
 |some _=>FJ K {use:=[o]} n
 |none=>False
def fM(z:Bool)(h:Nat->Option Au)(K:Ah):AV->Prop
 | .osl o _ n=>iR o n K (h o)
 | .im (.sl _ _ rows)=>(z=true->rows.length<=140737488355328)->FJ K {} rows.length
 | .own o=>Qxr z o K (h o)
 |_=>False
def Tg(K:Ah):AV->Prop
 | .im (.str s)=>FJ K {} s.size
 |_=>False
def uX(h:Nat->Option Au)(K:Ah):AV->Prop
 | .im (.mp _ z)=>FJ K {} z.length
 | .im .nilm=>FJ K {} 0
 | .mp o=>Mn o K (h o)
 |_=>False
def Fs(z:Bool)(h:Nat->Option Au)(K:Ah)(x:AV):TK->Prop
 | .slice _=>fM z h K x
 | .str=>Tg K x
 | .map _ _=>uX h K x
 | .bool| .ptr _| .int _| .array _ _| .struct _| .other=>False
def fS(z:Bool)(h:Nat->Option Au)(x:AV)(K:Ah)(ti:TI):Prop:=Fs z h K x ti.kind
def Qy3(ok:Bool)(E:Br)(K:Ah)(v:D):Prop:=K (bif ok then .tup [.im v,.im (.bool true)] else .im v) E
def IY(z:TI)(ok:Bool)(E:Br)(K:Ah):Prop:=z.zero.length=z.size/\(z.agg=true\/z.size=1)/\z.size≠0/\K (bif ok then .tup [.im (bE z.agg z.zero),.im (.bool false)] else .im (bE z.agg z.zero)) E
def Tn(o:Nat)(O:KT)(kd:D)(ok:Bool)(Q:TI)(K:Ah):Option Au->Prop
 |some (_,.map z G)=>z=O/\Gb G kd (Qy3 ok {use:=[o]} K) (IY Q ok {use:=[o]} K)
 |_=>False
def fT(h:Nat->Option Au)(O:KT)(kd:D)(ok:Bool)(G:TI)(K:Ah):AV->Prop
 | .im (.mp z Q)=>z=O/\Gb Q kd (Qy3 ok {} K) (IY G ok {} K)
 | .im .nilm=>IY G ok {} K
 | .mp o=>Tn o O kd ok G K (h o)
 |_=>False
def Yq(h:Nat->Option Au)(m:AV)(kd:D)(ok:Bool)(K:Ah)(G:TI):Option KT->Prop
 |some z=>z.fit kd=true/\fT h z kd ok G K m
 |none=>False
def luE(P:Program)(h:Nat->Option Au)(m:AV)(kd:D)(ok:Bool)(K:Ah)(k:TypeId)(z:TI):Prop:=Yq h m kd ok K z (Bw P k)
def luK(P:Program)(h:Nat->Option Au)(m:AV)(ok:Bool)(K:Ah):TK->AV->Prop
 | .map k e,.im z=>Bg (luE P h m z ok K k) (tI P e)
 |_,_=>False
def Qnn(P:Program)(h:Nat->Option Au)(m k:AV)(ok:Bool)(K:Ah)(ti:TI):Prop:=luK P h m ok K ti.kind k
def Tz(o:Nat)(z:KT)(kd Q:D)(K:Ah):Option Au->Prop
 |some (true,.map G O)=>G=z/\z.fit kd=true/\K .any {use:=[o],kill:=[o],new:=[(o,(true,.map z (G7 O kd Q)))]}
 |_=>False
def Ty(h:Nat->Option Au)(o:Nat)(kd G:D)(K:Ah):Option KT->Prop
 |some z=>Tz o z kd G K (h o)
 |none=>False
def KE(P:Program)(h:Nat->Option Au)(o:Nat)(kd z:D)(K:Ah):TK->Prop
 | .map k _=>Ty h o kd z K (Bw P k)
 | .bool| .str| .ptr _| .int _| .array _ _| .struct _| .slice _| .other=>False
def muF(n:Nat)(e:Ad)(K:Ah)(r:AV)(E:Br):Prop:=E.kill.contains n=false/\K r {use:=n::E.use,kill:=n::E.kill,new:=E.new++[(n,(false,e))],cnt:=E.cnt}
def T3(P:Program)(h:Nat->Option Au)(o n:Nat)(kd:D)(K:Ah)(z:TK):Option Au->Prop
 |some (_,.arr T k rows)=>(o==n)=false/\KE P h o kd (.sl false k rows) (muF n (.arr T k rows) K) z
 |_=>False
def sB(P:Program)(h:Nat->Option Au)(K:Ah)(m k v:AV)(ti:TI):Prop:=
 match m,k,v with
 | .mp o,.im z,.im G=>KE P h o z G K ti.kind
 | .mp o,.im z,.own n=>T3 P h o n z K ti.kind (h n)
 |_,_,_=>False
def RV(o:Nat)(z:KT)(kd:D)(K:Ah):Option Au->Prop
 |some (true,.map G O)=>G=z/\z.fit kd=true/\K .any {use:=[o],kill:=[o],new:=[(o,(true,.map z (IR O kd)))]}
 |_=>False
def X7(h:Nat->Option Au)(o:Nat)(kd:D)(K:Ah):Option KT->Prop
 |some z=>RV o z kd K (h o)
 |none=>False
def RU(P:Program)(h:Nat->Option Au)(o:Nat)(kd:D)(K:Ah):TK->Prop
 | .map k _=>X7 h o kd K (Bw P k)
 | .bool| .str| .ptr _| .int _| .array _ _| .struct _| .slice _| .other=>False
def Qni(P:Program)(h:Nat->Option Au)(K:Ah)(m k:AV)(ti:TI):Prop:=
 match m,k with
 | .mp o,.im z=>RU P h o z K ti.kind
 |_,_=>False
def exA(K:Ah):Option AV->Prop
 |some c=>K c {}
 |none=>False
def exD(K:Ah):Option D->Prop
 |some d=>K (.im d) {}
 |none=>False
def lD(i:Nat)(K:Ah):AV->Prop
 | .tup z=>exA K z[i]?
 | .im (.tup ds)=>exD K ds[i]?
 |_=>False
def lE(h:Nat->Option Au)(K:Ah):AV->Prop
 | .im (.ref z)=>K (.im (.ref z)) {}
 | .im (.ifc t d)=>K (.im (.ifc t d)) {}
 | .ptr o p=>Ru o (.ptr o p) K (h o)
 | .eptr o i p=>Ru o (.eptr o i p) K (h o)
 |_=>False
abbrev Db:=FuncId->List AV->(Nat->Option Au)->Nat->Ah->Prop
def QD(V:Db)(args:List AV)(h:Nat->Option Au)(nx:Nat)(K:Ah):AV->Prop
 | .im (.fn g first capt)=>V g ((first.map .im)++args++(capt.map .im)) h nx K
 | .clo g first capt=>V g (first++args++capt) h nx K
 |_=>False
def Q5:Option TI->Option TK
 |some ti=>some ti.kind
 |none=>none
def Qjk(nx e:Nat)(K:Ah)(z:TI):Prop:=K (.own nx) {new:=[(nx,(true,.arr e z.size []))],cnt:=1}
def Qg6(P:Program)(nx:Nat)(K:Ah):Option TK->Prop
 |some (.slice e)=>Bg (Qjk nx e K) (tI P e)
 |_=>False
def QT:Value->Bool
 | .slice none 0 0=>true
 |_=>false
def WQ:Operand->Bool
 | .const v=>QT v
 | .tmp _| .global _| .func _=>false
def zK(P:Program)(nx:Nat)(T:TypeId)(v:AV)(K:Ah):Bool->Prop
 |true=>Qg6 P nx K (Q5 (tI P T))
 |false=>K v {}
def zY(P:Program)(tm:List (Nat×AV))(nx:Nat)(T:TypeId)(K:Ah)(x:Operand):Prop:=zK P nx T (Az tm x) K (WQ x && !(T==315))
def M9(c:Bool)(K:Ah)(a b:AV):Prop:=(c=true->K a {})/\(c=false->K b {})
def Qzp(a b:AV)(K:Ah):AV->Prop
 | .im (.bool c)=>M9 c K a b
 |_=>False
def Qsv(nx T:Nat)(K:Ah)(ti:TI):Prop:=ti.zero.length=ti.size/\ti.size≠0/\K (.ptr nx 0) {new:=[(nx,(true,.cells T (ti.zero.map .im)))],cnt:=1}
def Vb(nx T:Nat)(K:Ah)(cs:List AV):Prop:=cs≠[]/\K (.ptr nx 0) {new:=[(nx,(true,.cells T cs))],cnt:=1}
def FK:Value->Nat
 | .slice none 0 0=>1
 | .pointer none=>2
 | .map none=>3
 | .nilIface=>4
 |_=>0
def Ft:Operand->Nat
 | .const v=>FK v
 | .tmp _| .global _| .func _=>0
def lX(h:Nat->Option Au)(op:BinOp)(x:AV)(K:Ah)(n:Nat)(ti:TI):Prop:=
 match op with
 | .eql=>WZ h false K x n ti.kind
 | .neq=>WZ h true K x n ti.kind
 |_=>False
def Mh(P:Program)(T:TypeId):Bool:=match P.underlying T with
 |some (.interface _)=>true
 |_=>false
def IW(P:Program)(T:TypeId):Bool:=match P.underlying T with
 |some (.interface _)=>false
 |some _=>true
 |none=>false
def bD(P:Program)(t:TypeId)(name:String):Option FuncId:=
 match P.info? t with
 |some i=>match i.methods.find? (·.name==name) with
  |some m=>bif m.path.isEmpty then (match m.func with
   |some (f,false)=>some f
   |_=>none) else none
  |none=>none
 |none=>none
def GO(P:Program)(t:TypeId)(name:String):Option FuncId:=
 match P.underlying t with
 |some (.pointer _)=>none
 |some _=>bD P t name
 |none=>none
def QH(neg:Bool)(K:Ah):AV->Prop
 | .im .nili=>aS neg K true
 | .im (.ifc _ _)=>aS neg K false
 |_=>False
def WA(P:Program)(T:TypeId)(op:BinOp)(x:AV)(K:Ah):Prop:=
 Mh P T=true/\match op with
 | .eql=>QH false K x
 | .neq=>QH true K x
 |_=>False
def Vc(P:Program)(T:TypeId)(K:Ah):AV->Prop
 | .im d=>IW P T=true/\K (.im (.ifc T d)) {}
 |_=>False
def W9(V:Db)(args:List AV)(h:Nat->Option Au)(nx:Nat)(K:Ah)(d:D):Option FuncId->Prop
 |some f=>V f (.im d::args) h nx K
 |none=>False
def Nh(P:Program)(V:Db)(args:List AV)(h:Nat->Option Au)(nx:Nat)(K:Ah)(m:String):AV->Prop
 | .im (.ifc t d)=>W9 V args h nx K d (GO P t m)
 |_=>False
def ZW(P:Program)(T:TypeId)(h:Nat->Option Au)(op:BinOp)(x y:AV)(K:Ah):Nat->Prop
 |0=>fN P T op K x y
 |1=>Bg (lX h op x K 0) (tI P T)
 |2=>Bg (lX h op x K 1) (tI P T)
 |3=>Bg (lX h op x K 2) (tI P T)
 |_+4=>WA P T op x K
def KV:Option TK->Ah->AV->Prop
 |some (.int k),K,.im (.int _ n)=>K (.im (.int k (k.wrap n))) {}
 |_,_,_=>False
def tU(t:Option TK)(x:AV)(K:Ah):Option TI->Prop
 |some _=>KV t K x
 |none=>False
def H6:List (List D)->Option (List Int)
 |[]=>some []
 |[.int .u8 n]::r=>(H6 r).map (n:: ·)
 |_=>none
def Hp(z:List Int):ByteArray:=⟨(z.map λn=>UInt8.ofNat n.toNat).toArray⟩
def L8(u:List Nat)(K:Ah):Option (List Int)->Prop
 |some z=>K (.im (.str (Hp z))) {use:=u}
 |none=>False
def RA(o:Nat)(K:Ah):Option Au->Prop
 |some (_,.arr _ k rows)=>k=1/\L8 [o] K (H6 rows)
 |_=>False
def gV(h:Nat->Option Au)(K:Ah):AV->Prop
 | .own o=>RA o K (h o)
 |_=>False
def gW(h:Nat->Option Au)(K:Ah)(x:AV):Option TK->Prop
 |some (.int .u8)=>gV h K x
 |_=>False
def gX(P:Program)(h:Nat->Option Au)(K:Ah)(x:AV):TK->Prop
 | .slice e=>gW h K x (Q5 (tI P e))
 |_=>False
def IM(P:Program)(h:Nat->Option Au)(K:Ah)(x:AV):Option TI->Prop
 |some z=>gX P h K x z.kind
 |none=>False
def TK.isStr:TK->Bool
 | .str=>true
 | .bool| .ptr _| .int _| .array _ _| .struct _| .map _ _| .slice _| .other=>false
def isStr:Option TK->Bool
 |some t=>t.isStr
 |none=>false
def Wr(P:Program)(h:Nat->Option Au)(t:Option TK)(x:AV)(K:Ah)(s:Option TI):Prop:=if isStr t=true then IM P h K x s else tU t x K s
def Ni(K:Ah):AV->AV->Prop
 | .im (.int k a),.im (.int k' b)=>k=k'/\K (.im (.int k (max a b))) {}
 |_,_=>False
def TK.isSl:TK->Bool
 | .slice _=>true
 | .bool| .str| .ptr _| .int _| .array _ _| .struct _| .map _ _| .other=>false
def zS(P:Program)(h:Nat->Option Au)(nx:Nat)(s x:AV)(T:TypeId)(K:Ah)(z:TI):Prop:=z.kind.isSl=true/\Bg (Qsl P h nx s x K) (tI P T)
def DC(tm:List (Nat×AV)):Option Operand->Option AV
 |none=>none
 |some x=>some (Az tm x)
def Hj(z:Nat):Option AV->Option Int
 |none=>some z
 |some (.im (.int _ n))=>some n
 |some _=>none
def UL(k:Nat)(rows:List (List D))(K:Ah):Option Int->Option Int->Prop
 |some l,some m=>0<=l/\l<=m/\m<=(rows.length:Int)/\K (.im (.sl false k ((rows.drop l.toNat).take (m - l).toNat))) {}
 |some _,none=>False
 |none,_=>False
def Js(s:ByteArray)(K:Ah):Option Int->Option Int->Prop
 |some l,some m=>0<=l/\l<=m/\m<=(s.size:Int)/\K (.im (.str (s.extract l.toNat m.toNat))) {}
 |some _,none=>False
 |none,_=>False
def uS(o nx:Nat)(z:Bool)(T k:Nat)(rows:List (List D))(a n:Nat)(K:Ah):Bool->Prop
 |false=>K (.osl o a n) {use:=[o]}
 |true=>z=true/\K (.own nx) {use:=[o],kill:=[o],new:=[(nx,(true,.arr T k ((rows.drop a).take n)))],cnt:=1}
def Jt(o nx:Nat)(z:Bool)(T k:Nat)(rows:List (List D))(K:Ah):Option Int->Option Int->Prop
 |some l,some m=>0<=l/\l<=m/\m<=(rows.length:Int)/\ ∃G,uS o nx z T k rows l.toNat (m - l).toNat K G
 |some _,none=>False
 |none,_=>False
def UM(o nx:Nat)(O:TI)(lo z:Option AV)(K:Ah):Option Au->Prop
 |some (G,.arr T k rows)=>k=O.size/\Jt o nx G T k rows K (Hj 0 lo) (Hj rows.length z)
 |_=>False
def xW(h:Nat->Option Au)(nx:Nat)(lo z:Option AV)(K:Ah)(x:AV)(G:TI):Prop:=
 match x with
 | .im (.sl _ k rows)=>(k=G.size\/rows=[])/\UL k rows K (Hj 0 lo) (Hj rows.length z)
 | .own o=>UM o nx G lo z K (h o)
 |_=>False
def jZ(x:AV)(lo z:Option AV)(K:Ah):Prop:=
 match x with
 | .im (.str s)=>Js s K (Hj 0 lo) (Hj s.size z)
 |_=>False
def Q3(P:Program)(h:Nat->Option Au)(nx:Nat)(x:AV)(lo z:Option AV)(K:Ah):TK->Prop
 | .slice e=>Bg (xW h nx lo z K x) (tI P e)
 | .str=>jZ x lo z K
 | .bool| .ptr _| .int _| .array _ _| .struct _| .map _ _| .other=>False
def Qsm(P:Program)(h:Nat->Option Au)(nx:Nat)(x:AV)(lo z:Option AV)(K:Ah)(ti:TI):Prop:=Q3 P h nx x lo z K ti.kind
def hC(o:Nat):Option Au->Option (List Nat×Nat×List (List D))
 |some (_,.arr _ k rows)=>some ([o],k,rows)
 |_=>none
def hZ(o a n:Nat):Option Au->Option (List Nat×Nat×List (List D))
 |some (_,.arr _ k rows)=>some ([o],k,(rows.drop a).take n)
 |_=>none
def fQ(h:Nat->Option Au):AV->Option (List Nat×Nat×List (List D))
 | .im (.sl _ k rows)=>some ([],k,rows)
 | .own o=>hC o (h o)
 | .osl o a n=>hZ o a n (h o)
 |_=>none
def RP(o:Nat):Option Au->Option (Nat×Nat×Nat×TypeId×Nat×List (List D))
 |some (true,.arr T k rows)=>some (o,0,rows.length,T,k,rows)
 |_=>none
def RQ(o a n:Nat):Option Au->Option (Nat×Nat×Nat×TypeId×Nat×List (List D))
 |some (true,.arr T k rows)=>some (o,a,n,T,k,rows)
 |_=>none
def VJ(h:Nat->Option Au):AV->Option (Nat×Nat×Nat×TypeId×Nat×List (List D))
 | .own o=>RP o (h o)
 | .osl o a n=>RQ o a n (h o)
 |_=>none
def fI(rows:List (List D))(a m:Nat)(src:List (List D)):List (List D):=rows.take a++src.take m++rows.drop (a+m)
def RS(G:TI)(K:Ah):Option (List Nat×Nat×List (List D))->Option (Nat×Nat×Nat×TypeId×Nat×List (List D))->Prop
 |some (u,ks,z),some (o,a,n,T,k,rows)=>k=G.size/\(ks=G.size\/z=[])/\G.size≠0/\BE B1 z/\
  K (.im (.int .i64 (min z.length n:Nat))) {use:=o::u,kill:=[o],new:=[(o,(true,.arr T k (fI rows a (min z.length n) z)))]}
 |some _,none=>False
 |none,_=>False
def RT(P:Program)(h:Nat->Option Au)(d s:AV)(K:Ah):TK->Prop
 | .slice e=>Bg (λz=>RS z K (fQ h s) (VJ h d)) (tI P e)
 | .bool| .str| .ptr _| .int _| .array _ _| .struct _| .map _ _| .other=>False
def Qzd(P:Program)(h:Nat->Option Au)(d s:AV)(K:Ah)(ti:TI):Prop:=RT P h d s K ti.kind
def X1(z:TI)(K:Ah):Option (Nat×Nat×Nat×TypeId×Nat×List (List D))->Prop
 |some (o,a,n,T,k,rows)=>k=z.size/\z.size≠0/\z.zero.length=z.size/\B1 z.zero=true/\
  K .any {use:=[o],kill:=[o],new:=[(o,(true,.arr T k (fI rows a n (List.replicate n z.zero))))]}
 |none=>False
def RE(P:Program)(h:Nat->Option Au)(d:AV)(K:Ah):TK->Prop
 | .slice e=>Bg (λz=>X1 z K (VJ h d)) (tI P e)
 | .bool| .str| .ptr _| .int _| .array _ _| .struct _| .map _ _| .other=>False
def Qrt(P:Program)(h:Nat->Option Au)(d:AV)(K:Ah)(ti:TI):Prop:=RE P h d K ti.kind
def U1(nx o:Nat)(K:Ah):Option Au->Prop
 |some (O,.map G z)=>K (.it nx) {use:=[o],kill:=[o],new:=[(nx,(true,.iter none z)),(o,(false,.map G z))],cnt:=1}
 |_=>False
def rgD(nx:Nat)(K:Ah):D->Prop
 | .mp _ z=>K (.it nx) {new:=[(nx,(true,.iter none z))],cnt:=1}
 |_=>False
def rgM(h:Nat->Option Au)(nx:Nat)(K:Ah):AV->Prop
 | .mp o=>U1 nx o K (h o)
 | .im d=>rgD nx K d
 |_=>False
def Uz(h:Nat->Option Au)(nx:Nat)(x:AV)(K:Ah):TK->Prop
 | .map _ _=>rgM h nx K x
 | .bool| .str| .ptr _| .int _| .array _ _| .struct _| .slice _| .other=>False
def Qsh(h:Nat->Option Au)(nx:Nat)(x:AV)(K:Ah)(ti:TI):Prop:=Uz h nx x K ti.kind
def xM(o:Nat)(left:List (D×D))(K:Ah)(i:Nat)(p:D×D):Prop:=
 K (.tup [.im (.bool true),.im p.1,.im p.2]) {use:=[o],kill:=[o],new:=[(o,(true,.iter (some p) (left.eraseIdx i)))]}
def TE(o:Nat)(K:Ah):Option Au->Prop
 |some (true,.iter _ left)=>(left=[]->K (.tup [.im (.bool false)]) {use:=[o]})/\ ∀i p,left[i]? =some p->xM o left K i p
 |_=>False
def Wd(h:Nat->Option Au)(K:Ah):AV->Prop
 | .it o=>TE o K (h o)
 |_=>False
def jI(h:Nat->Option Au)(x:AV)(K:Ah):Bool->Prop
 |true=>Wd h K x
 |false=>False
def Sf(o:Nat)(K:Ah):Option Au->Prop
 |some (true,.iter (some p) _)=>K (.im (.tup [p.1,p.2])) {use:=[o]}
 |_=>False
def Qsz(h:Nat->Option Au)(K:Ah):AV->Prop
 | .it o=>Sf o K (h o)
 |_=>False
def VI(P:Program)(t:TypeId):Option TypeId:=match P.underlying t with
 |some (.chan _ e)=>some e
 |_=>none
def mcE(nx:Nat)(n:Int)(K:Ah)(z:TI):Prop:=0<=n/\n<=1073741824/\z.bytes<=65536/\K (.ch nx) {new:=[(nx,(true,.chan [] n.toNat))],cnt:=1}
def mcV(P:Program)(nx:Nat)(K:Ah)(e:TypeId):AV->Prop
 | .im (.int .i64 n)=>Bg (mcE nx n K) (tI P e)
 |_=>False
def mcK(P:Program)(nx:Nat)(x:AV)(K:Ah):Option TypeId->Prop
 |some e=>mcV P nx K e x
 |none=>False
def yY(P:Program)(nx:Nat)(x:AV)(K:Ah)(T:TypeId):Prop:=mcK P nx x K (VI P T)
def bB(o:Nat)(K:Ah):Option Au->Prop
 |some (_,.chan q _)=>FJ K {use:=[o]} q.length
 |_=>False
def Tj(o:Nat)(h:Nat->Option Au)(K:Ah):Option TypeId->Prop
 |some _=>bB o K (h o)
 |none=>False
def jU(o:Nat)(d:D)(K:Ah):Option Au->Prop
 |some (true,.chan q cap)=>q.length<cap/\K .any {use:=[o],kill:=[o],new:=[(o,(true,.chan (q++[d]) cap))]}
 |_=>False
def KX(h:Nat->Option Au)(c x:AV)(K:Ah):Prop:=
 match c,x with
 | .ch o,.im d=>jU o d K (h o)
 |_,_=>False
def jS(o:Nat)(K:Ah):Option Au->Prop
 |some (true,.chan q cap)=>q≠[]/\ ∀d r,q=d::r->K (.im d) {use:=[o],kill:=[o],new:=[(o,(true,.chan r cap))]}
 |_=>False
def rvC(h:Nat->Option Au)(K:Ah):AV->Prop
 | .ch o=>jS o K (h o)
 |_=>False
def rvE(h:Nat->Option Au)(c:AV)(K:Ah)(z:TI):Prop:=z.zero.length=z.size/\z.size≠0/\rvC h K c
def rvK(P:Program)(h:Nat->Option Au)(c:AV)(K:Ah):Option TypeId->Prop
 |some e=>Bg (rvE h c K) (tI P e)
 |none=>False
def KW(P:Program)(h:Nat->Option Au)(T:TypeId)(c:AV)(K:Ah):Prop:=rvK P h c K (VI P T)
def Si(neg:Bool)(K:Ah)(E:Br){α:Type}(rows:List α):Prop:= ∀b:Bool,(b=true->rows=[])->K (.im (.bool (neg !=b))) E
def Sj(o:Nat)(neg:Bool)(K:Ah):Option Au->Prop
 |some (_,.arr _ _ rows)=>Si neg K {use:=[o]} rows
 |some (_,.arrA _ _ rows)=>Si neg K {use:=[o]} rows
 |_=>False
def N9(h:Nat->Option Au)(neg:Bool)(K:Ah):AV->Prop
 | .im (.sl _ _ rows)=>Si neg K {} rows
 | .own o=>Sj o neg K (h o)
 |_=>False
def Io:D->Bool
 | .sl z _ _=>z
 | .int _ _| .bool _| .str _| .nilp| .nilf| .nili| .nilc| .nilm| .agg _| .tup _| .ref _| .mp _ _| .fn _ _ _| .ifc _ _| .gp _| .tok _=>true
def Fq:AV->Bool
 | .im d=>Io d
 | .own _=>false
 | .any| .agg _| .tup _| .ptr _ _| .eptr _ _ _| .mp _| .ch _| .it _| .osl _ _ _| .clo _ _ _=>true
def unS(z:Bool)(x:AV)(n:Nat):Bool:=z && (n==1 && !Fq x)
def QZ(P:Program)(h:Nat->Option Au)(T:TypeId)(op:BinOp)(x:AV)(K:Ah):TK->Prop
 | .slice _=>(match op with
   | .eql=>N9 h false K x
   | .neq=>N9 h true K x
   |_=>False)
 | .bool| .str| .ptr _| .int _| .array _ _| .struct _| .map _ _| .other=>False
def Qst(P:Program)(h:Nat->Option Au)(T:TypeId)(op:BinOp)(x:AV)(K:Ah)(ti:TI):Prop:=QZ P h T op x K ti.kind
def KU(P:Program)(z:Bool)(T:TypeId)(h:Nat->Option Au)(op:BinOp)(x y:AV)(K:Ah)(n:Nat):Prop:=
 if unS z x n=true then Bg (Qst P h T op x K) (tI P T) else ZW P T h op x y K n
def Ln(P:Program)(z:Bool)(h:Nat->Option Au)(T:TypeId)(K:Ah):AV->Prop
 | .ch o=>Tj o h K (VI P T)
 | .im d=>Bg (fS z h (.im d) K) (tI P T)
 | .own o=>Bg (fS z h (.own o) K) (tI P T)
 | .osl o a n=>Bg (fS z h (.osl o a n) K) (tI P T)
 | .mp o=>Bg (fS z h (.mp o) K) (tI P T)
 | .any| .agg _| .tup _| .ptr _ _| .eptr _ _ _| .it _| .clo _ _ _=>False
def Z7(P:Program)(z:Bool)(h:Nat->Option Au)(nx:Nat)(K:Ah):Builtin->List AV->List TypeId->Prop
 | .len,[x],[T]=>Ln P z h T K x
 | .append,[s,x],[T,U]=>Bg (zS P h nx s x T K) (tI P U)
 | .delete,[m,k],T::_=>Bg (Qni P h K m k) (tI P T)
 | .copy,[d,s],[T,_]=>Bg (Qzd P h d s K) (tI P T)
 | .clear,[d],[T]=>Bg (Qrt P h d K) (tI P T)
 | .max,[x,y],_=>Ni K x y
 |_,_,_=>False
def tL(P:Program)(V:Db)(z:Bool)(tm:List (Nat×AV))(h:Nat->Option Au)(nx:Nat)(args:List AV)(G:List TypeId)(K:Ah):Callee->Prop
 | .value f=>QD V args h nx K (Az tm f)
 | .builtin b=>Z7 P z h nx K b args G
 | .invoke r m=>Nh P V args h nx K m (Az tm r)
def Yt(nx:Nat)(K:Ah):Option KT->Prop
 |some z=>K (.mp nx) {new:=[(nx,(true,.map z []))],cnt:=1}
 |none=>False
def Tw(P:Program)(nx:Nat)(K:Ah):TK->Prop
 | .map k _=>Yt nx K (Bw P k)
 | .bool| .str| .ptr _| .int _| .array _ _| .struct _| .slice _| .other=>False
def zO(P:Program)(nx:Nat)(K:Ah)(ti:TI):Prop:=Tw P nx K ti.kind
def DB(tm:List (Nat×AV)):List Operand->List AV
 |[]=>[]
 |x::r=>Az tm x::DB tm r
def JA(tm:List (Nat×AV)):List (Nat×Operand)->List (Nat×AV)
 |[]=>[]
 |(i,x)::r=>(i,Az tm x)::JA tm r
def Qrk(h:Nat->Option Au)(x:AV)(K:Ah)(ti:TI):Prop:=Xd h ti K x
def yO(P:Program)(h:Nat->Option Au)(x i:AV)(K:Ah)(ti:TI):Prop:=Qjp P h x ti K i
def Qno(P:Program)(x i:AV)(K:Ah)(ti:TI):Prop:=Qxc P x ti K i
def RL(o:Nat)(T:TypeId)(cs:List AV):Option (List D)->Option (D×Av)
 |some ds=>some (.ref ds,[(o,(false,.cells T cs))])
 |none=>none
def RJ(o:Nat):Option Au->Option (D×Av)
 |some (_,.cells T z)=>RL o T z (DO z)
 |some (_,.arr _ _ _)=>none
 |some (_,.arrA _ _ _)=>none
 |some (_,.map _ _)=>none
 |some (_,.chan _ _)=>none
 |some (_,.iter _ _)=>none
 |some (_,.view _)=>none
 |none=>none
def HP(h:Nat->Option Au):AV->Option (D×Av)
 | .im d=>some (d,[])
 | .ptr o 0=>RJ o (h o)
 | .ptr _ (_+1)=>none
 | .any=>none
 | .agg _=>none
 | .tup _=>none
 | .eptr _ _ _=>none
 | .own _=>none
 | .mp _=>none
 | .ch _=>none
 | .it _=>none
 | .osl _ _ _=>none
 | .clo _ _ _=>none
def RI:Option (D×Av)->Option (List D×Av)->Option (List D×Av)
 |some (d,E),some (ds,F)=>some (d::ds,E++F)
 |some _,none=>none
 |none,_=>none
def O4(h:Nat->Option Au):List AV->Option (List D×Av)
 |[]=>some ([],[])
 |x::r=>RI (HP h x) (O4 h r)
def hnm:Av->List Nat
 |[]=>[]
 |(n,_)::r=>n::hnm r
def Qz3(f:FuncId)(a b:List D)(first capt:List AV)(K:Ah):Av->Prop
 |[]=>K (.im (.fn f a b)) {}
 |e::r=>K (.im (.fn f a b)) {use:=hnm (e::r),kill:=hnm (e::r),new:=e::r}\/K (.clo f first capt) {}
def NE(f:FuncId)(first capt:List AV)(K:Ah):Option (List D×Av)->Option (List D×Av)->Prop
 |some (a,E),some (b,F)=>Qz3 f a b first capt K (E++F)
 |some _,none=>K (.clo f first capt) {}
 |none,_=>K (.clo f first capt) {}
def step(P:Program)(V:Db)(G:Bool)(tm:List (Nat×AV))(h:Nat->Option Au)(nx:Nat)(T:TypeId)(K:Ah):Op->Prop
 | .move x=>K (Az tm x) {}
 | .assign x=>zY P tm nx T K x
 | .pick c a b=>Qzp (Az tm a) (Az tm b) K (Az tm c)
 | .alloc T=>Bg (Qsv nx T K) (tI P T)
 | .box T x=>Vb nx T K (Az tm x).cells
 | .build T z=>Bg (Qsy P (JA tm z.toList) K) (tI P T)
 | .buildSlice T n z=>Bg (yN P nx n (JA tm z.toList) K) (tI P T)
 | .load T x=>Bg (Qrk h (Az tm x) K) (tI P T)
 | .store T x v=>Bg (Qri h (Az tm x) (Az tm v) K) (tI P T)
 | .nilCheck x=>lE h K (Az tm x)
 | .binOp op T x y _=>KU P G T h op (Az tm x) (Az tm y) K (Ft y)
 | .unOp op _ x=>Zg K op (Az tm x)
 | .convert S T x=>Wr P h (Q5 (tI P T)) (Az tm x) K (tI P S)
 | .makeFunc (.func f) first capt=>Nat.blt f 1000000000=true/\NE f (DB tm first.toList) (DB tm capt.toList) K (O4 h (DB tm first.toList)) (O4 h (DB tm capt.toList))
 | .makeMap T none=>Bg (zO P nx K) (tI P T)
 | .makeSlice T l c=>Bg (yW P nx (Az tm l) (Az tm c) K) (tI P T)
 | .fieldAddr T x f=>Bg (yV h (Az tm x) f K) (tI P T)
 | .indexAddr T x i=>Bg (yO P h (Az tm x) (Az tm i) K) (tI P T)
 | .index T x i=>Bg (Qno P (Az tm x) (Az tm i) K) (tI P T)
 | .lookup T m k ok=>Bg (Qnn P h (Az tm m) (Az tm k) ok K) (tI P T)
 | .mapUpdate T m k v=>Bg (sB P h K (Az tm m) (Az tm k) (Az tm v)) (tI P T)
 | .extract x i=>lD i K (Az tm x)
 | .call c=>tL P V G tm h nx (DB tm c.args.toList) c.argTypes.toList K c.callee
 | .slice T x lo O none=>Bg (Qsm P h nx (Az tm x) (DC tm lo) (DC tm O) K) (tI P T)
 | .range T x=>Bg (Qsh h nx (Az tm x) K) (tI P T)
 | .next x false=>jI h (Az tm x) K G
 | .entry x=>Qsz h K (Az tm x)
 | .makeChan T x=>yY P nx (Az tm x) K T
 | .makeInterface T x=>Vc P T K (Az tm x)
 |_=>False
inductive Ex where
 |normal
 |exit (id:Nat)
 |ret
abbrev Cq:=Ex->Ai->Prop
def WO(t:Option Nat)(z:Bool)(s:Ai)(Kdo Kskip:Ai->Prop):AV->Prop
 | .im (.bool b)=>(b=z->Kdo (s.put t (.im (.bool z))))/\(b= !z->Kskip (s.put t (.im (.bool (!z)))))
 | .im (.tup [])=>Kskip s
 |_=>False
def Ac(n:Nat):Av->Bool
 |[]=>true
 |(_,(_,.cells _ z))::r=>Aq n z && Ac n r
 |(_,(_,.arrA _ _ rows))::r=>rows.all (Aq n) && Ac n r
 |(_,(_,.arr _ _ _))::r=>Ac n r
 |(_,(_,.map _ _))::r=>Ac n r
 |(_,(_,.chan _ _))::r=>Ac n r
 |(_,(_,.iter _ _))::r=>Ac n r
 |(_,(_,.view _))::r=>Ac n r
def JV(kill:List Nat)(nx cnt n:Nat):Bool:=(Nat.ble nx n && Nat.blt n (nx+cnt))||(kill.contains n && Nat.blt n nx)
def Hv(kill:List Nat)(nx cnt:Nat):Av->Bool
 |[]=>true
 |(n,_)::r=>JV kill nx cnt n && Hv kill nx cnt r
def Br.ok(E:Br)(nx:Nat)(r:AV):Bool:=r.bel (nx+E.cnt) && (Ac (nx+E.cnt) E.new && Hv E.kill nx E.cnt E.new)
def Ai.app_nr(tm:List (Nat×AV))(h:Av)(nx:Nat)(dst:Option Nat)(r:AV)(u k:List Nat)(nw:Av)(c:Nat):Ai.app ⟨tm,h,nx⟩ dst r ⟨u,k,nw,c⟩=(⟨tm,nw++Bh h k,nx+c⟩:Ai).put dst r:=by
 cases dst<;>rfl
def Br.ok_nr(u k:List Nat)(nw:Av)(c nx:Nat)(r:AV):Br.ok ⟨u,k,nw,c⟩ nx r=(r.bel (nx+c) && (Ac (nx+c) nw && Hv k nx c nw)):=by
 cases c<;>rfl
structure SOp where
 dst:Option Nat
 op:Op
 type:TypeId
 gd:Option (Option Nat×Bool)
def Xh(ops:Array Oper):Option (Nat×Bool)->Option (Option Nat×Bool)
 |none=>none
 |some (j,w)=>some ((ops[j]?).bind (·.dst),w)
def Gl(ops:Array Oper):List Oper->List SOp
 |[]=>[]
 |o::r=>⟨o.dst,o.op,o.type,Xh ops o.guard⟩::Gl ops r
def DT(z:Ai->Prop)(s:Ai)(dst:Option Nat)(r:AV)(E:Br):Prop:=E.ok s.nx r=true/\z (s.app dst r E)
def DZ(P:Program)(V:Db)(tm:List (Nat×AV))(h:Nat->Option Au)(nx:Nat)(ty:TypeId)(K:Ah):Op->Prop
 | .send c x=>KX h (Az tm c) (Az tm x) K
 | .recv T c false=>KW P h T (Az tm c) K
 |op=>step P V true tm h nx ty K op
def Jv(P:Program)(V:Db)(dst:Option Nat)(op:Op)(ty:TypeId)(z:Ai->Prop)(s:Ai):Prop:=
 DZ P V s.tm (hget s.h) s.nx ty (DT z s dst) op
def Nd(dst:Option Nat)(z:Ai->Prop)(s:Ai):Prop:=z (s.put dst (.im (.tup [])))
def Ya(P:Program)(V:Db)(dst:Option Nat)(op:Op)(ty:TypeId)(z:Bool)(G:Ai->Prop)(s:Ai):Option Nat->Prop
 |some t=>WO (some t) z s (Jv P V dst op ty G) (Nd dst G) (AF s.tm t)
 |none=>False
def xP(P:Program)(V:Db)(dst:Option Nat)(op:Op)(ty:TypeId)(G:Ai->Prop)(s:Ai):Option (Option Nat×Bool)->Prop
 |none=>Jv P V dst op ty G s
 |some (t,z)=>Ya P V dst op ty z G s t
def KR(P:Program)(V:Db):List SOp->(Ai->Prop)->Ai->Prop
 |[],K,s=>K s
 |⟨dst,op,ty,gd⟩::z,K,s=>xP P V dst op ty (KR P V z K) s gd
structure Fp where
 i:Nat
 use:List Nat
 touch:List Nat
 nx:Nat
 cnt:Nat
def Lj:Av->List Nat
 |[]=>[]
 |(n,_)::r=>n::Lj r
def Jg:Av->List Nat
 |[]=>[]
 |(_,(_,e))::r=>e.nms++Jg r
def J7:List Nat->List Nat->Bool
 |[],_=>true
 |x::r,l=> !l.contains x && J7 r l
def G3(nx cnt:Nat):List Nat->Bool
 |[]=>true
 |x::r=>(Nat.blt x nx||Nat.ble (nx+cnt) x) && G3 nx cnt r
def Ix:Ground->Bool
 | .data=>true
 | .chain=>true
 | .guard=>true
 | .phase=>true
 | .textOnly _=>false
 | .gcOnly _=>false
def DI:List (List Nat)->Nat->List Nat
 |[],_=>[]
 |x::_,0=>x
 |_::r,n+1=>DI r n
def ins(x:Nat)(l:List Nat):List Nat:=bif l.contains x then l else x::l
def SN:List Nat->List Nat->List Nat
 |[],l=>l
 |x::r,l=>ins x (SN r l)
def Hk(acc:List (List Nat)):List Edge->List Nat
 |[]=>[]
 |e::r=>bif Ix e.ground then SN (e.on::DI acc e.on) (Hk acc r) else Hk acc r
def EI:List Oper->List (List Nat)->List (List Nat)
 |[],acc=>acc
 |o::r,acc=>EI r (acc++[Hk acc o.after.toList])
def E6(cl:List (List Nat))(i j:Nat):Bool:=(DI cl j).contains i
def mY(cl:List (List Nat))(j:Nat)(use touch z:List Nat)(f:Fp):Bool:=
 bif J7 (use++touch) f.touch && (J7 touch f.use && G3 f.nx f.cnt z) then true else E6 cl f.i j
def I5(cl:List (List Nat))(j:Nat)(use touch z:List Nat):List Fp->Bool
 |[]=>true
 |f::r=>mY cl j use touch z f && I5 cl j use touch z r
def Br.touch(E:Br):List Nat:=E.kill++Lj E.new
abbrev V3:=List Fp->Ai->Prop
def NP(cl:List (List Nat))(i:Nat)(acc:List Fp)(z:V3)(s:Ai)(dst:Option Nat)(r:AV)(E:Br):Prop:=
 E.ok s.nx r=true/\I5 cl i (E.use++E.kill) E.touch (E.touch++(r.nms++Jg E.new)) acc=true/\z (⟨i,E.use++E.kill,E.touch,s.nx,E.cnt⟩::acc) (s.app dst r E)
def Nj(P:Program)(V:Db)(cl:List (List Nat))(i:Nat)(acc:List Fp)(dst:Option Nat)(op:Op)(ty:TypeId)(z:V3)(s:Ai):Prop:=
 step P V false s.tm (hget s.h) s.nx ty (NP cl i acc z s dst) op
def Nc(dst:Option Nat)(acc:List Fp)(z:V3)(s:Ai):Prop:=z acc (s.put dst (.im (.tup [])))
def XZ(P:Program)(V:Db)(cl:List (List Nat))(i:Nat)(acc:List Fp)(dst:Option Nat)(op:Op)(ty:TypeId)(z:Bool)(G:V3)(s:Ai):Option Nat->Prop
 |some t=>WO (some t) z s (Nj P V cl i acc dst op ty G) (Nc dst acc G) (AF s.tm t)
 |none=>False
def xO(P:Program)(V:Db)(cl:List (List Nat))(i:Nat)(acc:List Fp)(dst:Option Nat)(op:Op)(ty:TypeId)(G:V3)(s:Ai):Option (Option Nat×Bool)->Prop
 |none=>Nj P V cl i acc dst op ty G s
 |some (t,z)=>XZ P V cl i acc dst op ty z G s t
def VW(P:Program)(V:Db)(cl:List (List Nat)):List SOp->Nat->(Ai->Prop)->V3
 |[],_,K,_,s=>K s
 |⟨dst,op,ty,gd⟩::z,i,K,acc,s=>xO P V cl i acc dst op ty (VW P V cl z (i+1) K) s gd
def Nq(K:Ai->Prop)(Q:Cq):Cq
 | .normal,s=>K s
 | .exit i,s=>Q (.exit i) s
 | .ret,s=>Q .ret s
def IT(i:Nat)(Q:Cq)(s:Ai):Bool->Prop
 |true=>Q .normal s
 |false=>Q (.exit i) s
def mD(id:Nat)(Q:Cq):Cq
 | .normal,s=>Q .normal s
 | .exit i,s=>IT i Q s (i==id)
 | .ret,s=>Q .ret s
def uU(A B:Cq->Ai->Prop)(Q:Cq)(s:Ai):AV->Prop
 | .im (.bool b)=>(b=true->A Q s)/\(b=false->B Q s)
 |_=>False
def G6(s:Ai):List (Nat×AV)->Prop
 |[]=>True
 |(t,x)::r=>AF s.tm t=x/\G6 s r
def Cb(s:Ai):Av->Prop
 |[]=>True
 |(o,e)::r=>hget s.h o=some e/\Cb s r
def sub(s s':Ai):Prop:=G6 s s'.tm/\Cb s s'.h
def Am(n:Nat):List (Nat×AV)->Bool
 |[]=>true
 |(_,x)::r=>x.bel n && Am n r
def A8(n:Nat):Av->Bool
 |[]=>true
 |(m,_)::r=>Nat.blt m n && A8 n r
def Ai.good(s:Ai):Bool:=Am s.nx s.tm && (Ac s.nx s.h && A8 s.nx s.h)
def pm:List (Nat×Option Nat)->Nat->Option Nat
 |[],n=>some n
 |(a,b)::r,n=>if a=n then b else pm r n
def iY:AV->Prop
 | .im (.sl true _ [])=>True
 |_=>False
def FN(x:AV):Option Nat->Prop
 |some m=>x= .own m
 |none=>iY x
def GZ(f:Nat->AV)(x:AV):Option Nat->Prop
 |some m=>x=f m
 |none=>False
mutual
def mt(π:List (Nat×Option Nat)):AV->AV->Prop
 | .any,_=>True
 | .im d,x=>x= .im d
 | .own n,x=>FN x (pm π n)
 | .ptr n p,x=>GZ (λm=> .ptr m p) x (pm π n)
 | .eptr n i p,x=>GZ (λm=> .eptr m i p) x (pm π n)
 | .mp n,x=>GZ .mp x (pm π n)
 | .ch n,x=>GZ .ch x (pm π n)
 | .it n,x=>GZ .it x (pm π n)
 | .osl n a k,x=>GZ (λm=> .osl m a k) x (pm π n)
 | .agg z,.agg ds=>DG π z ds
 | .agg z,.im (.agg ds)=>DG π z (ds.map .im)
 | .agg _,_=>False
 | .tup _,_=>False
 | .clo _ _ _,_=>False
def DG(π:List (Nat×Option Nat)):List AV->List AV->Prop
 |[],[]=>True
 |x::r,y::s=>mt π x y/\DG π r s
 |[],_::_=>False
 |_::_,[]=>False
end
def GJ(π:List (Nat×Option Nat)):List (List AV)->List (List AV)->Prop
 |[],[]=>True
 |x::r,y::s=>DG π x y/\GJ π r s
 |[],_::_=>False
 |_::_,[]=>False
def EG(π:List (Nat×Option Nat)):Ad->Ad->Prop
 | .cells T G,.cells U ds=>T=U/\DG π G ds
 | .cells _ _,_=>False
 | .arr T k rows,e=>e= .arr T k rows
 | .arrA T k rows,.arrA U k' z=>T=U/\k=k'/\GJ π rows z
 | .arrA T k rows,.arr U k' z=>T=U/\k=k'/\GJ π rows (Bq z)
 | .arrA _ _ _,.cells _ _=>False
 | .arrA _ _ _,.map _ _=>False
 | .arrA _ _ _,.chan _ _=>False
 | .arrA _ _ _,.iter _ _=>False
 | .arrA _ _ _,.view _=>False
 | .map Q O,e=>e= .map Q O
 | .chan q c,e=>e= .chan q c
 | .iter a l,e=>e= .iter a l
 | .view G,e=>e= .view G
def K0(π:List (Nat×Option Nat))(G:Bool)(e':Ad):Option Au->Prop
 |some (z,e)=>z=G/\EG π e' e
 |none=>False
def T6:Bool->Ad->Prop
 |true,.arr _ _ []=>True
 |true,.arrA _ _ []=>True
 |_,_=>False
def Ep(s:Ai)(π:List (Nat×Option Nat))(z:Bool)(e':Ad):Option Nat->Prop
 |some m=>K0 π z e' (hget s.h m)
 |none=>T6 z e'
def Qn(π:List (Nat×Option Nat))(s:Ai):List (Nat×AV)->Prop
 |[]=>True
 |(t,x)::r=>mt π x (AF s.tm t)/\Qn π s r
def Ha(π:List (Nat×Option Nat))(s:Ai):Av->Prop
 |[]=>True
 |(n,(z,e))::r=>Ep s π z e (pm π n)/\Ha π s r
def VS(lo:Nat):List (Nat×Option Nat)->Prop
 |[]=>True
 |(a,_)::r=>lo<=a/\VS lo r
def OM(π:List (Nat×Option Nat)):Av->List (Option Nat)
 |[]=>[]
 |(n,_)::r=>pm π n::OM π r
def EP:List (Option Nat)->Bool
 |[]=>true
 |none::r=>EP r
 |some m::r=> !r.contains (some m) && EP r
def Ay(lo:Nat)(π:List (Nat×Option Nat))(s s':Ai):Prop:=VS lo π/\EP (OM π s'.h)=true/\Qn π s s'.tm/\Ha π s s'.h
def Mv{β:Type}(I:β->Ai)(μ:β->Nat)(b:β)(Q:Cq):Cq
 | .normal,s=> ∃b',μ b'<μ b/\sub s (I b')
 | .exit i,s=>Q (.exit i) s
 | .ret,s=>Q .ret s
def Mu{β:Type}(lo:Nat)(I:β->Ai)(μ:β->Nat)(b:β)(Q:Cq):Cq
 | .normal,s=> ∃b' π,μ b'<μ b/\Ay lo π s (I b')
 | .exit i,s=>Q (.exit i) s
 | .ret,s=>Q .ret s
def ZI(body:Cq->Ai->Prop)(Q:Cq)(s:Ai):Prop:=
 ∃(β:Type) (I:β->Ai) (μ:β->Nat),(∀b,(I b).good=true/\s.nx<=(I b).nx)/\(∃b,sub s (I b))/\ ∀b,body (Mv I μ b Q) (I b)
def Qsi(body:Cq->Ai->Prop)(Q:Cq)(s:Ai):Prop:=
 ∃(β:Type) (I:β->Ai) (μ:β->Nat),(∀b,(I b).good=true/\s.nx<=(I b).nx)/\(∃b π,Ay s.nx π s (I b))/\ ∀b,body (Mu s.nx I μ b Q) (I b)
def HR(F:List Nat):Av->Av
 |[]=>[]
 |(n,(z,e))::r=>(n,(z && !F.contains n,e))::HR F r
def Sw(F:List Nat)(s:Ai):Ai:=⟨s.tm,HR F s.h,s.nx⟩
def Wa(body:Cq->Ai->Prop)(Q:Cq)(s:Ai):Prop:= ∃F:List Nat,ZI body Q (Sw F s)
def Hn(n:Nat):Ad->AV
 | .arr _ w rows=> .im (.sl false w rows)
 | .cells _ _=> .own n
 | .arrA _ _ _=> .own n
 | .map _ _=> .own n
 | .chan _ _=> .own n
 | .iter _ _=> .own n
 | .view _=> .own n
def KI(n:Nat):Option Au->AV
 |some e=>Hn n e.2
 |none=> .own n
mutual
def AV.fzA(F:List Nat)(H:Av):AV->AV
 | .own n=>bif F.contains n then KI n (hget H n) else .own n
 | .agg z=> .agg (DE F H z)
 | .any=> .any
 | .im d=> .im d
 | .tup z=> .tup z
 | .ptr o p=> .ptr o p
 | .eptr o i p=> .eptr o i p
 | .mp o=> .mp o
 | .ch o=> .ch o
 | .it o=> .it o
 | .osl o a n=> .osl o a n
 | .clo f a c=> .clo f a c
def DE(F:List Nat)(H:Av):List AV->List AV
 |[]=>[]
 |x::r=>x.fzA F H::DE F H r
end
def DF(F:List Nat)(H:Av):List (List AV)->List (List AV)
 |[]=>[]
 |x::r=>DE F H x::DF F H r
def Ad.fzA(F:List Nat)(H:Av):Ad->Ad
 | .cells T z=> .cells T (DE F H z)
 | .arrA T k rows=> .arrA T k (DF F H rows)
 | .arr T k rows=> .arr T k rows
 | .map O G=> .map O G
 | .chan q c=> .chan q c
 | .iter a l=> .iter a l
 | .view z=> .view z
def HT(F:List Nat)(H:Av):List (Nat×AV)->List (Nat×AV)
 |[]=>[]
 |(t,x)::r=>(t,x.fzA F H)::HT F H r
def HS(F:List Nat)(H:Av):Av->Av
 |[]=>[]
 |(n,(z,e))::r=>(n,(z && !F.contains n,e.fzA F H))::HS F H r
def Sz(F:List Nat)(s:Ai):Ai:=⟨HT F s.h s.tm,HS F s.h s.h,s.nx⟩
def Mt{β:Type}(lo:Nat)(I:β->Ai)(μ:β->Nat)(b:β)(Q:Cq):Cq
 | .normal,s=> ∃b' F π,μ b'<μ b/\Ay lo π (Sz F s) (I b')
 | .exit i,s=>Q (.exit i) s
 | .ret,s=>Q .ret s
def Qsf(body:Cq->Ai->Prop)(Q:Cq)(s:Ai):Prop:=
 ∃(β:Type) (I:β->Ai) (μ:β->Nat),(∀b,(I b).good=true/\s.nx<=(I b).nx)/\(∃b F π,Ay s.nx π (Sz F s) (I b))/\ ∀b,body (Mt s.nx I μ b Q) (I b)
def AP(body:Cq->Ai->Prop)(Q:Cq)(s:Ai):Prop:=ZI body Q s\/Qsi body Q s\/Wa body Q s\/Qsf body Q s
def AP.frr{body:Cq->Ai->Prop}{Q:Cq}{s:Ai}(h:Qsf body Q s):AP body Q s:=Or.inr (Or.inr (Or.inr h))
def AP.old{body:Cq->Ai->Prop}{Q:Cq}{s:Ai}(h:ZI body Q s):AP body Q s:=Or.inl h
def AP.ren{body:Cq->Ai->Prop}{Q:Cq}{s:Ai}(h:Qsi body Q s):AP body Q s:=Or.inr (Or.inl h)
def AP.frz{body:Cq->Ai->Prop}{Q:Cq}{s:Ai}(F:List Nat)(h:ZI body Q (Sw F s)):AP body Q s:=Or.inr (Or.inr (Or.inl ⟨F,h⟩))
def Dc(P:Program)(V:Db):Code->Cq->Ai->Prop
 | .skip,Q,s=>Q .normal s
 | .region _ ops false,Q,s=>KR P V (Gl ops ops.toList) (Q .normal) s
 | .region _ ops true,Q,s=>VW P V (EI ops.toList []) (Gl ops ops.toList) 0 (Q .normal) [] s
 | .seq a b,Q,s=>Dc P V a (Nq (Dc P V b Q) Q) s
 | .cond c a b,Q,s=>uU (Dc P V a) (Dc P V b) Q s (Az s.tm c)
 | .block id c,Q,s=>Dc P V c (mD id Q) s
 | .loop c,Q,s=>AP (Dc P V c) Q s
 | .exit id,Q,s=>Q (.exit id) s
 | .ret,Q,s=>Q .ret s
 |_,_,_=>False
end Go.Ae
