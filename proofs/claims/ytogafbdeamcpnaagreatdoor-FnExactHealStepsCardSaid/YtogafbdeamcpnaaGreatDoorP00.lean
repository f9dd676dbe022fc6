/- Lemmas. Conditions: none. -/
import Derived.Orders
import Derived.Below
import Derived.Laws.Sem
set_option linter.all false
set_option maxHeartbeats 8000000
set_option maxRecDepth 100000
namespace Go
def AE:=@Option.some.inj
def AI:=@Option.some.injEq
def AY:=@List.mem_of_getElem?
def Bh:=@List.getElem?_eq_getElem
def AQ:=@Option.getD_some
def AS:=@Bool.and_eq_true
def Ag:=@if_neg
def Bz:=@Option.some_beq_some
def Cd:=@List.getElem?_eq_some_iff
def AN:=@Nat.le_refl
def Bt:=@Int.toNat_natCast
def Ao:=@if_pos
def BE:=@List.mem_singleton
def BR:=@List.mem_cons_of_mem
def Bd:=@List.map_cons
def Br:=@List.mem_append
def BM:=@List.mem_cons_self
def Bi:=@List.mem_cons
def B6:=@List.mem_range
def CZ:=@List.drop_eq_nil_of_le
def Da:=@List.getElem?_set_self
def Ch:=@decide_eq_true_eq
def Bm:=@List.mem_map
def Df:=@Option.map_eq_some_iff
def Ci:=@List.length_take
def DB:=@List.take_of_length_le
def CE:=@Bool.false_eq_true
def D4:=@List.getElem?_set_ne
def Eg:=@Option.bind_eq_some_iff
def E7:=@List.getElem?_append_left
def Cx:=@List.length_drop
def Dn:=@List.length_append
def Fo:=@List.getElem?_append_right
def CX:=@List.cons_append
def CY:=@List.length_cons
def Dp:=@List.all_eq_true
def D9:=@List.getElem?_map
def Eh:=@List.getD_cons_zero
def B8:=@cond_false
def Ds:=@Option.map_some
def E8:=@Array.length_toList
def Ho:=@Array.getD_eq_getD_getElem?
def DA:=@List.append_nil
def F7:=@List.getElem?_eq_none
def CP:=@Bool.true_and
def GL:=@List.getElem?_cons_zero
def Gi:=@List.contains_iff_mem
def G4:=@Array.getElem?_toList
def EN:=@Option.bind_some
def Ew:=@List.length_set
def CF:=@Nat.zero_le
def Jc:=@Array.getElem?_eq_getElem
def Ei:=@Bool.false_and
def Dt:=@Nat.le_trans
def Ca:=@cond_true
def FL:=@Nat.lt_of_lt_of_le
def F8:=@Classical.not_not
def G6:=@List.getD_cons_succ
def Ey:=@List.drop_drop
def Hq:=@Nat.mul_le_mul_right
def Jd:=@List.getElem?_cons_succ
def Ej:=@Prod.mk.injEq
def Gj:=@List.flatMap_cons
def HK:=@List.getElem?_range
def F9:=@List.map_append
def HL:=@beq_eq_false_iff_ne
def KB:=@List.getElem?_replicate
def GO:=@List.take_add_one
def KC:=@decide_eq_false_iff_not
def FM:=@List.length_map
def N1:=@List.eq_of_mem_replicate
def ET:=@Bool.and_true
def HN:=@List.getElem?_drop
def BI:=@if_true
def JF:=@List.mem_append_left
def Qy:=@Array.getElem?_eq_some_iff
def HO:=@Bool.not_eq_false
def HP:=@List.append_assoc
def G5:=@List.length_nil
def KA:=@List.take_append_drop
def EO:=@Nat.lt_or_ge
def Cy:=@if_false
def GM:=@List.nil_append
def Nw:=@List.length_replicate
def HJ:=@List.take_length
def Fh:=@Nat.zero_add
def Hp:=@Bool.or_eq_true
def UP:=@List.drop_eq_getElem_cons
def GN:=@List.drop_zero
def Qv:=@List.length_eq_zero_iff
def CL:=@congrArg
def El:=@Nat.blt_eq
def P7:=@List.mem_iff_getElem?
def JE:=@List.ext_getElem?
def Nx:=@List.map_congr_left
def Fi:=@Nat.add_mul
def Ip:=@List.nodup_cons
def Qw:=@List.mem_append_right
def Ww:=@List.mem_or_eq_of_mem_set
def P8:=@List.drop_succ_cons
def P9:=@List.take_succ_cons
def Ny:=@Bool.eq_false_iff
def Nz:=@Bool.not_eq_true'
def N0:=@List.size_toArray
def GR:=@List.map_nil
def GS:=@Nat.sub_self
def dB:=@Array.getElem?_setIfInBounds
def Wy:=@Array.getElem?_eq_none
def N3:=@Bool.not_eq_true
def KD:=@List.mem_filter
def dC:=@Int.tmod_eq_emod_of_nonneg
def Je:=@List.all_cons
def dD:=@Classical.byContradiction
def Wz:=@List.mem_iff_getElem
def UR:=@List.pairwise_cons
def dF:=@Array.getElem?_replicate
def Q4:=@List.getElem_mem
def US:=@List.nodup_append
def KE:=@List.sum_cons
def GU:=@Nat.ble_eq
def Iq:=@Nat.one_mul
def JG:=@List.map_set
def dG:=@List.zipWith_cons_cons
def Q5:=@Bool.eq_iff_iff
def UT:=@Array.toList_map
def UU:=@List.drop_append
def rM:=@List.eq_nil_of_length_eq_zero
def Ze:=@List.filter_eq_self
def Q6:=@Bool.not_false
def iX:=@List.eraseIdx_cons_succ
def YY:=@List.find?_eq_none
def YZ:=@List.getElem?_take
def Za:=@List.set_cons_zero
def PA:=@Nat.add_assoc
def Zb:=@Option.isSome_none
def cW:=@Option.some_beq_none
def N2:=@Nat.add_zero
def E9:=@Ne.symm
def iU:=@Classical.epsilon_spec
def Zc:=@List.length_range
def Qz:=@Bool.or_false
def rJ:=@List.mem_of_find?_eq_some
def UQ:=@List.take_zero
def Wx:=@List.find?_some
def iV:=@List.set_append_right
def iW:=@Nat.le_of_ble_eq_true
def cX:=@List.contains_cons
def cY:=@Option.toList_some
def Zd:=@Array.toList_inj
def rK:=@List.filter_cons_of_neg
def rL:=@Nat.add_sub_cancel_left
def GQ:=@and_self
def Q3:=@List.map_map
def cZ:=@List.contains_nil
def dA:=@Nat.lt_trichotomy
def PB:=@Int.le_refl
def jA:=@List.length_pos_iff
def jB:=@List.length_reverse
def N4:=@Array.ext'
def dL:=@Nat.min_le_right
def N5:=@beq_iff_eq
def rQ:=@Array.getElem?_append
def jC:=@List.set_cons_succ
def jD:=@Nat.eq_zero_or_pos
def Zg:=@Bool.and_false
def Zh:=@decide_eq_true
def dM:=@List.cons.injEq
def dN:=@decide_eq_false
def KF:=@forall_eq
def Zi:=@Bool.and_self
def Zj:=@Bool.not_true
def rR:=@List.mem_map_of_mem
def Zdq:=@List.drop_append_of_le_length
def jE:=@List.filter_cons
def jF:=@List.not_mem_nil
def dO:=@List.Perm.refl
def rU:=@Array.extract_size
def jG:=@List.foldl_cons
def yU:=@List.getElem?_toArray
def yV:=@List.length_filter_le
def jH:=@List.range_succ
def jI:=@Nat.not_lt_zero
def Zf:=@Nat.sub_zero
def dH:=@List.take_add
def ZdC:=@Array.getElem?_append_left
def ZdD:=@Array.toList_setIfInBounds
def yN:=@List.mem_of_mem_take
def ZdF:=@List.pairwise_iff_getElem
def rN:=@List.any_eq_true
def rO:=@beq_self_eq_true
def yO:=@List.flatMap_append
def ZdJ:=@Array.size_setIfInBounds
def dJ:=@Bool.true_or
def dK:=@Nat.zero_mul
def iY:=@Bool.false_or
def yP:=@Int.tmod_lt_of_pos
def rP:=@List.all_append
def yQ:=@List.filter_append
def ZdQ:=@List.length_eq_one_iff
def ZdR:=@List.zipWith_nil_right
def yR:=@Array.toList_push
def yS:=@not_false_eq_true
def ZdU:=@Array.getElem?_modify
def ZdV:=@Bool.and_eq_false_iff
def ZdW:=@Int.mul_le_mul_of_nonneg_right
def ZdX:=@List.length_singleton
def iZ:=@List.set_set
def yT:=@forall_eq_or_imp
def Zea:=@List.range_eq_range'
def Zeb:=@Array.getElem?_append_right
def Zec:=@Array.toList_append
def Zed:=@Array.toList_modify
def zA:=@Int.tmod_nonneg
def zB:=@List.find?_cons
def Zeg:=@List.replicate_succ
def Zeh:=@List.toList_toArray
def Zei:=@Int.fdiv_eq_ediv_of_nonneg
def Zej:=@Int.tdiv_eq_ediv_of_nonneg
def Zek:=@List.exists_cons_of_ne_nil
def Zel:=@List.nodup_iff_pairwise_ne
def Zem:=@List.perm_append_singleton
def Zen:=@List.perm_ext_iff_of_nodup
def Zeo:=@Array.ext_getElem?
def Zep:=@Array.toList_range
def Zeq:=@List.getElem_range
def rV:=@Nat.add_comm
def Zes:=@Array.mapM_eq_mapM_toList
def zC:=@Bool.and_assoc
def zE:=@List.foldl_nil
def Zev:=@List.getElem?_eq_none_iff
def Zew:=@List.isEmpty_eq_false_iff
def zF:=@List.take_left
def Zey:=@Decidable.not_not
def Zez:=@List.Pairwise.imp
def ZeA:=@List.Perm.eq_of_pairwise
def ZeB:=@Option.isSome_iff_exists
def ZeC:=@List.eraseIdx_cons_zero
def ZeD:=@List.filter_cons_of_pos
def ZeE:=@List.not_any_eq_all_not
def ZeF:=@Bool.cond_eq_ite
def ZeG:=@List.flatMap_nil
def ZeH:=@List.mem_flatMap
def ZeI:=@List.length_pos_of_mem
def ZeJ:=@Array.getElem?_mapIdx
def ZeK:=@Array.mem_of_getElem?
def yW:=@Bool.or_true
def ZeM:=@List.eraseIdx_sublist
def ZeN:=@List.filter_nil
def ZeO:=@List.getElem?_reverse
def ZeP:=@List.head?_cons
def ZeQ:=@List.range_zero
def yX:=@List.sum_nil
def ZeS:=@Nat.min_eq_left
def yY:=@Nat.succ_mul
def jJ:=@and_assoc
def yZ:=@decide_false
def dP:=@or_false
def ZeX:=@Array.toList_extract
def ZeY:=@List.length_eraseIdx
def ZeZ:=@List.mem_of_mem_drop
def Zfa:=@List.drop_take
def zG:=@decide_true
def Zk:=@eq_true
def Zfd:=@List.cons.inj
def Zfe:=@List.drop_nil
def Zff:=@List.map_take
def Zfg:=@List.take_nil
def Zfh:=@Nat.lt_irrefl
def Zfi:=@Nat.le_of_eq
def rW:=@ite_self
def rX:=@true_and
def Zl:=@not_or
end Go
namespace Go.Ae
def L3(g:Nat):Bool:=g==0||g==1
def GE(ok:Nat->Prop)(hp:Nat->Option Obj)(g:Nat)(a:Addr):Prop:=
 ok g/\(∃T z,hp g=some (.cells #[.iface 392 (.pointer (some a))] T z))/\ok a.block/\ ∃c T,hp a.block=some (.cells c T (0,0))
def GP(ok:Nat->Prop)(hp:Nat->Option Obj):Prop:=
 ∃a:Nat->Addr,(∀g,L3 g=true->GE ok hp g (a g))/\ ∀g g',L3 g=true->L3 g'=true->g≠g'->a g≠a g'
def GP.mono{ok ok':Nat->Prop}{hp hp':Nat->Option Obj}(h: ∀b o,ok b->hp b=some o->ok' b/\hp' b=some o)(hg:GP ok hp):GP ok' hp':=by
 obtain⟨a,Z,h2⟩:=hg;refine⟨a,λg z=> ?_,h2⟩;obtain⟨k1,⟨T,Q,k2⟩,G,c,U,O⟩:=Z g z;exact⟨(h g _ k1 k2).1,⟨T,Q,(h g _ k1 k2).2⟩,(h _ _ G O).1,c,U,(h _ _ G O).2⟩
def GP.at{ok:Nat->Prop}{hp:Nat->Option Obj}(h:GP ok hp){g:Nat}(O:L3 g=true):ok g/\ ∃t x T z,hp g=some (.cells #[.iface t x] T z):=by
 obtain⟨a,G,_⟩:=h;obtain⟨k1,⟨T,z,k2⟩,_⟩:=G g O;exact⟨k1,_,_,T,z,k2⟩
end Go.Ae
namespace Go.Ae
inductive KK where
 |int (k:IntKind)
 |str
 |bool
 deriving DecidableEq
structure KT where
 agg:Bool
 ks:List KK
 deriving DecidableEq
inductive D where
 |int (k:IntKind) (n:Int)
 |bool (b:Bool)
 |str (s:ByteArray)
 |nilp|nilf|nili|nilc|nilm
 |agg (cs:List D)
 |tup (cs:List D)
 |sl (nz:Bool) (k:Nat) (rows:List (List D))
 |ref (cs:List D)
 |mp (kt:KT) (es:List (D×D))
 |fn (f:FuncId) (first capt:List D)
 |ifc (t:TypeId) (d:D)
 |gp (g:Nat)
 |tok (g:Nat)
def KK.fit:KK->D->Bool
 | .int k,.int k' _=>k==k'
 | .str,.str _=>true
 | .bool,.bool _=>true
 |_,_=>false
def Bw:List KK->List D->Bool
 |[],[]=>true
 |k::ks,d::ds=>k.fit d && Bw ks ds
 |_,_=>false
def KT.fit(z:KT)(d:D):Bool:=
 match z.agg,d with
 |true,.agg ds=>Bw z.ks ds
 |false,d=>Bw z.ks [d]
 |_,_=>false
def Kr:Nat:=140737488355328
def UV(f:Nat):Fn:=if f<1000000000 then .func f else .yield (f - 1000000000)
def Wm{f:Nat}(h:f<1000000000):UV f= .func f:=Ao h
def tZ(nz:Bool)(v:Value):Prop:=v= .slice none 0 0\/(nz=false/\ ∃a,v= .slice (some a) 0 0)
def pT{nz:Bool}{v:Value}(h:tZ nz v): ∃z,v= .slice z 0 0:=by
 rcases h with rfl|⟨_,a,rfl⟩<;>exact⟨_,rfl⟩
def wX{v:Value}(h:tZ true v):v= .slice none 0 0:=by
 rcases h with rfl|⟨h,_⟩
 .rfl
 .cases h
def OF{nz:Bool}{v:Value}(h:tZ nz v):tZ false v:=by
 rcases h with rfl|⟨_,a,rfl⟩
 .exact .inl rfl
 .exact .inr ⟨rfl,a,rfl⟩
mutual
def rd(ok:Nat->Prop)(hp:Nat->Option Obj):D->Value->Prop
 | .int k n,v=>v= .int k n
 | .bool b,v=>v= .bool b
 | .str s,v=>v= .string s
 | .nilp,v=>v= .pointer none
 | .nilf,v=>v= .nilFunc
 | .nili,v=>v= .nilIface
 | .nilc,v=>v= .chan none
 | .nilm,v=>v= .map none
 | .agg Q,v=> ∃O:Array Value,v= .agg O/\rdl ok hp Q O.toList
 | .tup Q,v=> ∃O:Array Value,v= .tuple O/\rdl ok hp Q O.toList
 | .sl nz k rows,v=>(tZ nz v/\rows=[])\/
  ∃b p cap O T Z,v= .slice (some ⟨b,p,none⟩) rows.length cap/\(nz=true->rows≠[])/\rows.length<=cap/\rows.length<=Kr/\ok b/\
   hp b=some (.cells O T Z)/\rdr ok hp k rows (O.toList.drop p)
 | .ref Q,v=> ∃b p O T Z,v= .pointer (some ⟨b,p,none⟩)/\ok b/\hp b=some (.cells O T Z)/\rdp ok hp Q (O.toList.drop p)
 | .mp kt es,v=> ∃b z G,v= .map (some b)/\(∀e∈es,kt.fit e.1=true)/\ok b/\hp b=some (.map z G)/\rde ok hp es z.toList/\(z.toList.map (·.born)).Nodup/\ ∀e∈z.toList,e.born<G
 | .fn f first capt,v=> ∃a c:Array Value,v= .func (UV f) a c/\rdl ok hp first a.toList/\rdl ok hp capt c.toList
 | .ifc t d,v=> ∃x,v= .iface t x/\rd ok hp d x
 | .gp g,v=>v= .pointer (some ⟨g,0,none⟩)
 | .tok g,v=>ok g/\(∃t x,v= .iface t x)/\ ∃T Z,hp g=some (.cells #[v] T Z)
def rdl(ok:Nat->Prop)(hp:Nat->Option Obj):List D->List Value->Prop
 |[],z=>z=[]
 |d::ds,z=> ∃v r,z=v::r/\rd ok hp d v/\rdl ok hp ds r
def rdp(ok:Nat->Prop)(hp:Nat->Option Obj):List D->List Value->Prop
 |[],_=>True
 |d::ds,z=> ∃v r,z=v::r/\rd ok hp d v/\rdp ok hp ds r
def rdr(ok:Nat->Prop)(hp:Nat->Option Obj)(k:Nat):List (List D)->List Value->Prop
 |[],_=>True
 |r::G,z=>r.length=k/\rdp ok hp r z/\rdr ok hp k G (z.drop k)
def rde(ok:Nat->Prop)(hp:Nat->Option Obj):List (D×D)->List MapEntry->Prop
 |[],z=>z=[]
 |(x,y)::ds,z=> ∃e r,z=e::r/\rd ok hp x e.key/\rd ok hp y e.val/\rde ok hp ds r
end
section mono
variable {ok ok':Nat->Prop}{hp hp':Nat->Option Obj}
mutual
def Gs(h: ∀b,ok b->ok' b/\hp' b=hp b): ∀(d:D) (v:Value),rd ok hp d v->rd ok' hp' d v
 | .int _ _,_,hd=>by simpa only[rd] using hd
 | .bool _,_,hd=>by simpa only[rd] using hd
 | .str _,_,hd=>by simpa only[rd] using hd
 | .nilp,_,hd=>by simpa only[rd] using hd
 | .nilf,_,hd=>by simpa only[rd] using hd
 | .nili,_,hd=>by simpa only[rd] using hd
 | .nilc,_,hd=>by simpa only[rd] using hd
 | .nilm,_,hd=>by simpa only[rd] using hd
 | .gp _,_,hd=>by simpa only[rd] using hd
 | .tok g,v,hd=>by
   simp only[rd] at hd⊢;obtain⟨z,h3,T,fr,h2⟩:=hd;exact⟨(h g z).1,h3,T,fr,(h g z).2.trans h2⟩
 | .agg Z,v,hd=>by
   simp only[rd] at hd⊢;obtain⟨Q,rfl,z⟩:=hd;exact⟨Q,rfl,Ky h Z _ z⟩
 | .tup Z,v,hd=>by
   simp only[rd] at hd⊢;obtain⟨Q,rfl,z⟩:=hd;exact⟨Q,rfl,Ky h Z _ z⟩
 | .sl nz k rows,v,hd=>by
   simp only[rd] at hd⊢;rcases hd with hd|⟨b,p,cap,Q,T,fr,rfl,z,h2,h3,G,h5,h6⟩
   .exact .inl hd
   .exact .inr ⟨b,p,cap,Q,T,fr,rfl,z,h2,h3,(h b G).1,(h b G).2.trans h5,YC h k rows _ h6⟩
 | .ref Z,v,hd=>by
   simp only[rd] at hd⊢;obtain⟨b,p,Q,T,fr,rfl,G,h5,h6⟩:=hd;exact⟨b,p,Q,T,fr,rfl,(h b G).1,(h b G).2.trans h5,YB h Z _ h6⟩
 | .mp kt es,v,hd=>by
   simp only[rd] at hd⊢;obtain⟨b,aa,O,rfl,h3,G,h5,h6,h7⟩:=hd;exact⟨b,aa,O,rfl,h3,(h b G).1,(h b G).2.trans h5,Kw h es _ h6,h7⟩
 | .fn f first capt,v,hd=>by
   simp only[rd] at hd⊢;obtain⟨a,c,rfl,z,h2⟩:=hd;exact⟨a,c,rfl,Ky h first _ z,Ky h capt _ h2⟩
 | .ifc t d,v,hd=>by
   simp only[rd] at hd⊢;obtain⟨x,rfl,z⟩:=hd;exact⟨x,rfl,Gs h d _ z⟩
def Ky(h: ∀b,ok b->ok' b/\hp' b=hp b): ∀(ds:List D) (vs:List Value),rdl ok hp ds vs->rdl ok' hp' ds vs
 |[],_,hd=>by simpa only[rdl] using hd
 |d::ds,vs,hd=>by
  simp only[rdl] at hd⊢;obtain⟨v,r,rfl,z,G⟩:=hd;exact⟨v,r,rfl,Gs h d v z,Ky h ds r G⟩
def YB(h: ∀b,ok b->ok' b/\hp' b=hp b): ∀(ds:List D) (vs:List Value),rdp ok hp ds vs->rdp ok' hp' ds vs
 |[],_,_=>by simp only[rdp]
 |d::ds,vs,hd=>by
  simp only[rdp] at hd⊢;obtain⟨v,r,rfl,z,G⟩:=hd;exact⟨v,r,rfl,Gs h d v z,YB h ds r G⟩
def YC(h: ∀b,ok b->ok' b/\hp' b=hp b)(k:Nat): ∀(z:List (List D)) (vs:List Value),rdr ok hp k z vs->rdr ok' hp' k z vs
 |[],_,_=>by simp only[rdr]
 |r::z,vs,hd=>by
  simp only[rdr] at hd⊢;exact⟨hd.1,YB h r vs hd.2.1,YC h k z _ hd.2.2⟩
def Kw(h: ∀b,ok b->ok' b/\hp' b=hp b): ∀(ds:List (D×D)) (es:List MapEntry),rde ok hp ds es->rde ok' hp' ds es
 |[],_,hd=>by simpa only[rde] using hd
 |(x,y)::ds,es,hd=>by
  simp only[rde] at hd⊢;obtain⟨e,r,rfl,z,G,O⟩:=hd;exact⟨e,r,rfl,Gs h x _ z,Gs h y _ G,Kw h ds r O⟩
end
end mono
def D.sc:D->Bool
 | .int _ _| .bool _| .str _| .nilp| .nilf| .nili| .nilc| .nilm=>true
 | .sl true _ []=>true
 |_=>false
def D.scs:D->Bool
 | .agg z| .tup z=>z.all D.sc
 |d=>d.sc
def Mb{ok ok':Nat->Prop}{hp hp':Nat->Option Obj}: ∀{d:D} {v:Value},d.sc=true->rd ok hp d v->rd ok' hp' d v:=by
 intro d v h hd;cases d
 case sl nz k rows=>
  cases nz<;>cases rows<;>simp only[D.sc,CE] at h;simp only[rd] at hd⊢;rcases hd with hd|⟨b,p,cap,O,T,G,_,z,_⟩
  .exact .inl hd
  .exact absurd rfl (z trivial)
 all_goals simp_all [D.sc,rd]
def Tf{ok ok':Nat->Prop}{hp hp':Nat->Option Obj}: ∀(ds:List D) (vs:List Value),ds.all D.sc=true->rdl ok hp ds vs->rdl ok' hp' ds vs
 |[],_,_,hd=>by simpa only[rdl] using hd
 |d::ds,vs,h,hd=>by
  simp only[rdl,Je,AS] at hd h⊢;obtain⟨v,r,rfl,z,G⟩:=hd;exact⟨v,r,rfl,Mb h.1 z,Tf ds r h.2 G⟩
def Kf{ok ok':Nat->Prop}{hp hp':Nat->Option Obj}: ∀{d:D} {v:Value},d.scs=true->rd ok hp d v->rd ok' hp' d v:=by
 intro d v h hd;cases d<;>simp only[D.scs] at h<;>try exact Mb h hd
 all_goals
  simp only[rd] at hd⊢;obtain⟨G,rfl,z⟩:=hd;exact⟨G,rfl,Tf _ _ h z⟩
inductive AV where
 |any
 |im (d:D)
 |agg (cs:List AV)
 |tup (cs:List AV)
 |ptr (o off:Nat)
 |eptr (o i off:Nat)
 |own (o:Nat)
 |mp (o:Nat)
 |ch (o:Nat)
 |it (o:Nat)
 |osl (o a n:Nat)
 |clo (f:FuncId) (first capt:List AV)
 deriving Inhabited
inductive Ad where
 |cells (T:TypeId) (cs:List AV)
 |arr (T:TypeId) (k:Nat) (rows:List (List D))
 |arrA (T:TypeId) (k:Nat) (rows:List (List AV))
 |map (kt:KT) (es:List (D×D))
 |chan (q:List D) (cap:Nat)
 |iter (last:Option (D×D)) (left:List (D×D))
 |view (cs:List D)
def Ad.isView:Ad->Bool
 | .view _=>true
 | .cells _ _| .arr _ _ _| .arrA _ _ _| .map _ _| .chan _ _| .iter _ _=>false
abbrev Aq:=Bool×Ad
abbrev Ap:=List (Nat×Aq)
structure Fj where
 b:Nat
 p:Nat
 cap:Nat
structure Ay where
 ρ:Nat->Option Fj
 ok:Nat->Prop
 h:Nat->Option Aq
 w:World
def Ay.hp(S:Ay):Nat->Option Obj:=λb=>S.w.heap[b]?
def Ad.len:Ad->Nat
 | .arr _ _ rows=>rows.length
 | .arrA _ _ rows=>rows.length
 |_=>0
def Ad.esz:Ad->Nat
 | .arr _ k _=>k
 | .arrA _ k _=>k
 |_=>0
def Pn(r:Option Fj)(z len a n:Nat)(v:Value):Prop:=match r with
 |none=>v= .slice none 0 0/\n=0
 |some l=> ∃p G,v= .slice (some ⟨l.b,p,none⟩) n G/\n<=G/\(n≠0->p=l.p+a*z)/\a+n<=len
mutual
def Aa(S:Ay):AV->Value->Prop
 | .any,_=>True
 | .im d,v=>rd S.ok S.hp d v
 | .agg G,v=> ∃z:Array Value,v= .agg z/\AM S G z.toList
 | .tup G,v=> ∃z:Array Value,v= .tuple z/\AM S G z.toList
 | .ptr o off,v=>v.oneCell'=true/\ ∀e,S.h o=some e-> ∃l,S.ρ o=some l/\v= .pointer (some ⟨l.b,l.p+off,none⟩)
 | .eptr o i off,v=>v.oneCell'=true/\ ∀e,S.h o=some e-> ∃l,S.ρ o=some l/\v= .pointer (some ⟨l.b,l.p+i*e.2.esz+off,none⟩)
 | .own o,v=>v.oneCell'=true/\ ∀e,S.h o=some e->match S.ρ o with
  |none=>v= .slice none 0 0
  |some l=>v= .slice (some ⟨l.b,l.p,none⟩) e.2.len l.cap
 | .mp o,v=>v.oneCell'=true/\ ∀e,S.h o=some e-> ∃l,S.ρ o=some l/\v= .map (some l.b)
 | .ch o,v=>v.oneCell'=true/\ ∀e,S.h o=some e-> ∃l,S.ρ o=some l/\v= .chan (some l.b)
 | .it o,v=>v.oneCell'=true/\ ∀e,S.h o=some e-> ∃l,S.ρ o=some l/\v= .pointer (some ⟨l.b,0,none⟩)
 | .osl o a n,v=>v.oneCell'=true/\ ∀e,S.h o=some e->Pn (S.ρ o) e.2.esz e.2.len a n v
 | .clo f first capt,v=> ∃a c:Array Value,v= .func (UV f) a c/\AM S first a.toList/\AM S capt c.toList
def AM(S:Ay):List AV->List Value->Prop
 |[],z=>z=[]
 |x::xs,z=> ∃v r,z=v::r/\Aa S x v/\AM S xs r
end
def Cn(S:Ay):List AV->List Value->Prop
 |[],_=>True
 |x::xs,z=> ∃v r,z=v::r/\Aa S x v/\Cn S xs r
def BB(S:Ay)(k:Nat):List (List AV)->List Value->Prop
 |[],_=>True
 |r::G,z=>r.length=k/\Cn S r z/\BB S k G (z.drop k)
def Sd(ok:Nat->Prop)(hp:Nat->Option Obj)(z:Array MapEntry)(G:Array Nat):Option (D×D)->Prop
 |none=>True
 |some (x,y)=> ∃st e,G.back? =some st/\z.find? (·.born==st)=some e/\rd ok hp x e.key/\rd ok hp y e.val
def Au(S:Ay)(l:Option Fj):Ad->Prop
 | .cells T cs=> ∃O Q,l=some O/\O.p=0/\S.hp O.b=some (.cells Q T (0,0))/\AM S cs Q.toList
 | .arr T k rows=>rows.length<=Kr/\match l with
  |none=>rows=[]
  |some O=>rows.length<=O.cap/\ ∃Q,S.hp O.b=some (.cells Q T (0,0))/\O.p+O.cap*k<=Q.size/\rdr S.ok S.hp k rows (Q.toList.drop O.p)
 | .arrA T k rows=>rows.length<=Kr/\match l with
  |none=>rows=[]
  |some O=>rows.length<=O.cap/\ ∃Q,S.hp O.b=some (.cells Q T (0,0))/\O.p+O.cap*k<=Q.size/\BB S k rows (Q.toList.drop O.p)
 | .map kt es=> ∃O z G,l=some O/\(∀e∈es,kt.fit e.1=true)/\S.hp O.b=some (.map z G)/\rde S.ok S.hp es z.toList/\
  (z.toList.map (·.born)).Nodup/\ ∀e∈z.toList,e.born<G
 | .chan q cap=> ∃O aa ad ac,l=some O/\S.hp O.b=some (.chan cap aa false ad ac false)/\rdl S.ok S.hp q aa.toList
 | .iter ab left=> ∃O mb z G Z,l=some O/\S.ok mb/\Sd S.ok S.hp z Z ab/\S.hp mb=some (.map z G)/\
  S.hp O.b=some (.mapIter (some mb) G Z G)/\(z.toList.map (·.born)).Nodup/\(∀e∈z.toList,e.born<G)/\
  rde S.ok S.hp left (z.toList.filter λe=> !Z.contains e.born)
 | .view cs=> ∃O Q T fr,l=some O/\S.hp O.b=some (.cells Q T fr)/\rdp S.ok S.hp cs (Q.toList.drop O.p)
structure AX where
 w:World
 M:Nat->Prop
 ok:Nat->Prop
 n0:Nat
 h0:Nat->Option Aq
 ρ0:Nat->Option Fj
 ds:List Deferred
def AX.mk0(w:World)(M ok:Nat->Prop):AX:=⟨w,M,ok,0,λ_=>none,λ_=>none,[]⟩
def AX.Pre(C:AX)(S:Ay):Prop:= ∀o,o<C.n0-> ∀e',S.h o=some e'-> ∃e,C.h0 o=some e/\S.ρ o=C.ρ0 o/\e'.2.esz=e.2.esz/\e'.2.len=e.2.len
structure Wf(C:AX)(S:Ay):Prop where
 os:S.w.os=C.w.os
 tape:S.w.tape=C.w.tape
 output:S.w.output=C.w.output
 size:C.w.heap.size<=S.w.heap.size
 keep: ∀b,b<C.w.heap.size-> ¬C.M b->S.w.heap[b]? =C.w.heap[b]?
 ok0: ∀b,C.ok b->S.ok b
 ok1: ∀b,S.ok b->C.ok b\/C.w.heap.size<=b\/C.M b
 oks: ∀b,S.ok b->b<S.w.heap.size
 obj: ∀o e,S.h o=some e->Au S (S.ρ o) e.2
 loc: ∀o e l,S.h o=some e->S.ρ o=some l->l.b<S.w.heap.size/\if e.1 then ¬S.ok l.b/\(C.w.heap.size<=l.b\/C.M l.b) else S.ok l.b\/e.2.isView=true
 inj: ∀o o' e e' l l',S.h o=some e->S.h o'=some e'->S.ρ o=some l->S.ρ o'=some l'->l.b=l'.b->(e.1||e'.1)=true->o=o'
 gl:GP (λb=>C.ok b/\ ¬C.M b) (λb=>C.w.heap[b]?)
def Wf.gp{C:AX}{S:Ay}(h:Wf C S):GP S.ok S.hp:=by
 refine h.gl.mono λb o hb z=>⟨h.ok0 b hb.1,?_⟩
 have G:b<C.w.heap.size:=by
  apply dD;intro hn
  have:C.w.heap[b]? =none:=Wy (by omega)
  rw[this] at z;cases z
 exact (h.keep b G hb.2).trans z
def Wf.glN{C:AX}{S:Ay}(h:Wf C S){M:Nat->Prop}(z: ∀b,M b-> ¬S.ok b):GP (λb=>S.ok b/\ ¬M b) (λb=>S.w.heap[b]?):=
 h.gp.mono λb _ hb O=>⟨⟨hb,λG=>z b G hb⟩,O⟩
mutual
def AV.bel(n:Nat):AV->Bool
 | .any=>true
 | .im _=>true
 | .agg z=>Av n z
 | .tup z=>Av n z
 | .ptr o _=>Nat.blt o n
 | .eptr o _ _=>Nat.blt o n
 | .own o=>Nat.blt o n
 | .mp o=>Nat.blt o n
 | .ch o=>Nat.blt o n
 | .it o=>Nat.blt o n
 | .osl o _ _=>Nat.blt o n
 | .clo _ a c=>Av n a && Av n c
def Av(n:Nat):List AV->Bool
 |[]=>true
 |x::r=>x.bel n && Av n r
end
mutual
def AV.nms:AV->List Nat
 | .any=>[]
 | .im _=>[]
 | .agg z=>AC z
 | .tup z=>AC z
 | .ptr o _=>[o]
 | .eptr o _ _=>[o]
 | .own o=>[o]
 | .mp o=>[o]
 | .ch o=>[o]
 | .it o=>[o]
 | .osl o _ _=>[o]
 | .clo _ a c=>AC a++AC c
def AC:List AV->List Nat
 |[]=>[]
 |x::r=>x.nms++AC r
end
def B2:List (List AV)->List Nat
 |[]=>[]
 |x::r=>AC x++B2 r
def Ad.nms:Ad->List Nat
 | .cells _ z=>AC z
 | .arr _ _ _=>[]
 | .arrA _ _ rows=>B2 rows
 | .map _ _=>[]
 | .chan _ _=>[]
 | .iter _ _=>[]
 | .view _=>[]
structure Bx(X:Nat->Prop)(S S':Ay):Prop where
 ok: ∀b,S.ok b->S'.ok b/\S'.hp b=S.hp b
 nm: ∀o,X o-> ∀e',S'.h o=some e'-> ∃e,S.h o=some e/\S'.ρ o=S.ρ o/\e'.2.esz=e.2.esz/\e'.2.len=e.2.len
def Bx.refl(X:Nat->Prop)(S:Ay):Bx X S S:=⟨λ_ h=>⟨h,rfl⟩,λ_ _ e' h=>⟨e',h,rfl,rfl,rfl⟩⟩
section
variable {X:Nat->Prop}{S S':Ay}
mutual
def H9(hp:Bx X S S'): ∀(x:AV) (v:Value),(∀o∈x.nms,X o)->Aa S x v->Aa S' x v
 | .any,_,_,_=>by simp only[Aa]
 | .im d,v,_,h=>by
   simp only[Aa] at h⊢;exact Gs hp.ok d v h
 | .agg cs,v,G,h=>by
   simp only[Aa,AV.nms] at h G⊢;obtain⟨vs,rfl,h1⟩:=h;exact⟨vs,rfl,UA hp cs _ G h1⟩
 | .tup cs,v,G,h=>by
   simp only[Aa,AV.nms] at h G⊢;obtain⟨vs,rfl,h1⟩:=h;exact⟨vs,rfl,UA hp cs _ G h1⟩
 | .ptr o off,v,G,h=>by
   simp only[Aa,AV.nms,BE,KF] at h G⊢;obtain⟨z,h⟩:=h;refine⟨z,?_⟩;intro e' O;obtain⟨e,Q,Z,_,_⟩:=hp.nm o G e' O;rw[Z];exact h e Q
 | .eptr o i off,v,G,h=>by
   simp only[Aa,AV.nms,BE,KF] at h G⊢;obtain⟨z,h⟩:=h;refine⟨z,?_⟩;intro e' O;obtain⟨e,Q,Z,hz,_⟩:=hp.nm o G e' O;rw[Z,hz];exact h e Q
 | .own o,v,G,h=>by
   simp only[Aa,AV.nms,BE,KF] at h G⊢;obtain⟨z,h⟩:=h;refine⟨z,?_⟩;intro e' O;obtain⟨e,Q,Z,_,hl⟩:=hp.nm o G e' O;rw[Z,hl];exact h e Q
 | .mp o,v,G,h=>by
   simp only[Aa,AV.nms,BE,KF] at h G⊢;obtain⟨z,h⟩:=h;refine⟨z,?_⟩;intro e' O;obtain⟨e,Q,Z,_,_⟩:=hp.nm o G e' O;rw[Z];exact h e Q
 | .ch o,v,G,h=>by
   simp only[Aa,AV.nms,BE,KF] at h G⊢;obtain⟨z,h⟩:=h;refine⟨z,?_⟩;intro e' O;obtain⟨e,Q,Z,_,_⟩:=hp.nm o G e' O;rw[Z];exact h e Q
 | .it o,v,G,h=>by
   simp only[Aa,AV.nms,BE,KF] at h G⊢;obtain⟨z,h⟩:=h;refine⟨z,?_⟩;intro e' O;obtain⟨e,Q,Z,_,_⟩:=hp.nm o G e' O;rw[Z];exact h e Q
 | .osl o a n,v,G,h=>by
   simp only[Aa,AV.nms,BE,KF] at h G⊢;obtain⟨z,h⟩:=h;refine⟨z,?_⟩;intro e' O;obtain⟨e,Q,Z,hz,hl⟩:=hp.nm o G e' O;rw[Z,hz,hl];exact h e Q
 | .clo f fi ca,v,G,h=>by
   simp only[Aa,AV.nms,Br] at h G⊢;obtain⟨a,c,rfl,h1,h2⟩:=h;exact⟨a,c,rfl,UA hp fi _ (λo ho=>G o (.inl ho)) h1,UA hp ca _ (λo ho=>G o (.inr ho)) h2⟩
def UA(hp:Bx X S S'): ∀(xs:List AV) (vs:List Value),(∀o∈AC xs,X o)->AM S xs vs->AM S' xs vs
 |[],_,_,h=>by simpa only[AM] using h
 |x::xs,vs,G,h=>by
  simp only[AM,AC,Br] at h G⊢;obtain⟨v,r,rfl,O,Q⟩:=h;exact⟨v,r,rfl,H9 hp x v (λo z=>G o (.inl z)) O,UA hp xs r (λo z=>G o (.inr z)) Q⟩
end
def Qq7(hp:Bx X S S'): ∀(xs:List AV) (vs:List Value),(∀o∈AC xs,X o)->Cn S xs vs->Cn S' xs vs
 |[],_,_,_=>by simp only[Cn]
 |x::xs,vs,G,h=>by
  simp only[Cn,AC,Br] at h G⊢;obtain⟨v,r,rfl,O,Q⟩:=h;exact⟨v,r,rfl,H9 hp x v (λo z=>G o (.inl z)) O,Qq7 hp xs r (λo z=>G o (.inr z)) Q⟩
def oB(hp:Bx X S S')(k:Nat): ∀(z:List (List AV)) (vs:List Value),(∀o∈B2 z,X o)->BB S k z vs->BB S' k z vs
 |[],_,_,_=>by simp only[BB]
 |r::z,vs,O,h=>by
  simp only[BB,B2,Br] at h O⊢;exact⟨h.1,Qq7 hp r vs (λo G=>O o (.inl G)) h.2.1,oB hp k z _ (λo G=>O o (.inr G)) h.2.2⟩
def Qly{ok ok':Nat->Prop}{hp hp':Nat->Option Obj}(h: ∀b,ok b->ok' b/\hp' b=hp b){z:Array MapEntry}{G:Array Nat}: ∀(l:Option (D×D)),Sd ok hp z G l->Sd ok' hp' z G l
 |none,_=>trivial
 |some (x,y),O=>by
  obtain⟨st,e,a,b,c,d⟩:=O;exact⟨st,e,a,b,Gs h x _ c,Gs h y _ d⟩
def H8(hp:Bx X S S'){l:Option Fj}(hl: ∀z,l=some z->S'.hp z.b=S.hp z.b): ∀(e:Ad),(∀o∈e.nms,X o)->Au S l e->Au S' l e
 | .cells T cs,hx,h=>by
   simp only[Au,Ad.nms] at h hx⊢;obtain⟨z,vs,G,Q,Z,h4⟩:=h;exact⟨z,vs,G,Q,(hl z G).trans Z,UA hp cs _ hx h4⟩
 | .arr T k rows,hx,h=>by
   simp only[Au] at h⊢;refine⟨h.1,?_⟩;cases l with
   |none=>exact h.2
   |some z=>
    obtain⟨h0,G,vs,Q,Z,h4⟩:=h;exact⟨G,vs,(hl z rfl).trans Q,Z,YC hp.ok k rows _ h4⟩
 | .arrA T k rows,hx,h=>by
   simp only[Au,Ad.nms] at h hx⊢;refine⟨h.1,?_⟩;cases l with
   |none=>exact h.2
   |some z=>
    obtain⟨h0,G,vs,Q,Z,h4⟩:=h;exact⟨G,vs,(hl z rfl).trans Q,Z,oB hp k rows _ hx h4⟩
 | .map kt es,_,h=>by
   simp only[Au] at h⊢;obtain⟨z,aa,O,G,h0,Q,Z,h4⟩:=h;exact⟨z,aa,O,G,h0,(hl z G).trans Q,Kw hp.ok es _ Z,h4⟩
 | .chan q cap,_,h=>by
   simp only[Au] at h⊢;obtain⟨z,ag,af,ac,G,Q,Z⟩:=h;exact⟨z,ag,af,ac,G,(hl z G).trans Q,Ky hp.ok q _ Z⟩
 | .iter ab left,_,h=>by
   simp only[Au] at h⊢;obtain⟨z,mb,aa,O,ad,G,Q,h0,Z,h4,h5,h6,h7⟩:=h;exact⟨z,mb,aa,O,ad,G,(hp.ok mb Q).1,Qly hp.ok ab h0,(hp.ok mb Q).2.trans Z,(hl z G).trans h4,h5,h6,Kw hp.ok left _ h7⟩
 | .view cs,_,h=>by
   simp only[Au] at h⊢;obtain⟨z,vs,T,fr,G,Q,Z⟩:=h;exact⟨z,vs,T,fr,G,(hl z G).trans Q,YB hp.ok cs _ Z⟩
end
inductive TK where
 |bool
 |str
 |ptr (e:TypeId)
 |int (k:IntKind)
 |slice (e:TypeId)
 |array (n:Nat) (e:TypeId)
 |struct (fs:List (Nat×Nat))
 |map (k e:TypeId)
 |other
structure TI where
 size:Nat
 bytes:Nat
 agg:Bool
 kind:TK
 zero:List D
def zD:Value->D
 | .bool b=> .bool b
 | .int k n=> .int k n
 | .string s=> .str s
 | .pointer none=> .nilp
 | .slice none _ _=> .sl true 0 []
 | .map none=> .nilm
 | .chan none=> .nilc
 | .nilFunc=> .nilf
 |_=> .nili
def ZL:Value->Bool
 | .bool _| .int _ _| .string _| .pointer none| .slice none 0 0| .map none| .chan none| .nilFunc| .nilIface=>true
 |_=>false
def zOf:Bool->Option Value->List D
 |true,some (.agg z)=>bif z.toList.all ZL then z.toList.map zD else []
 |false,some v=>bif ZL v then [zD v] else []
 |_,_=>[]
def W0:TypeDesc->Bool
 | .struct _| .array _ _=>true
 |_=>false
def Fa(P:Program):TypeDesc->TK
 | .int k=> .int k
 | .slice e=> .slice e
 | .array n e=> .array n e
 | .struct z=>bif z.toList.all (λf=>(P.info? f.type).isSome) then .struct (z.toList.map λf=>(f.offset,((P.info? f.type).map (·.size)).getD 0)) else .other
 | .map k e=> .map k e
 | .bool=> .bool
 | .string=> .str
 | .pointer e=> .ptr e
 |_=> .other
def tI(P:Program)(t:TypeId):Option TI:=
 match P.info? t,P.underlying t with
 |some i,some u=>some {size:=i.size,bytes:=i.bytes,agg:=W0 u,kind:=Fa P u,zero:=zOf (W0 u) i.zero}
 |_,_=>none
structure Bk where
 use:List Nat:=[]
 kill:List Nat:=[]
 new:Ap:=[]
 cnt:Nat:=0
structure Aj where
 tm:List (Nat×AV)
 h:Ap
 nx:Nat
def AD:List (Nat×AV)->Nat->AV
 |[],_=> .any
 |(m,x)::r,n=>bif m==n then x else AD r n
def hget:Ap->Nat->Option Aq
 |[],_=>none
 |(m,e)::r,n=>bif m==n then some e else hget r n
def Bg:Ap->List Nat->Ap
 |[],_=>[]
 |(m,e)::r,ks=>bif ks.contains m then Bg r ks else (m,e)::Bg r ks
def Aj.put(s:Aj)(dst:Option Nat)(x:AV):Aj:=
 match dst with
 |some d=>⟨(d,x)::s.tm,s.h,s.nx⟩
 |none=>s
def Aj.app(s:Aj)(dst:Option Nat)(r:AV)(E:Bk):Aj:=
 (⟨s.tm,E.new++Bg s.h E.kill,s.nx+E.cnt⟩:Aj).put dst r
def kD:Value->AV
 | .bool b=> .im (.bool b)
 | .int k n=> .im (.int k n)
 | .string s=> .im (.str s)
 | .pointer none=> .im .nilp
 | .slice none 0 0=> .im (.sl true 0 [])
 | .map none=> .im .nilm
 | .chan none=> .im .nilc
 | .nilFunc=> .im .nilf
 | .nilIface=> .im .nili
 |_=> .any
def Aw(tm:List (Nat×AV)):Operand->AV
 | .tmp t=>AD tm t
 | .const v=>kD v
 | .global g=> .im (.gp g)
 | .func f=>bif Nat.blt f 1000000000 then .im (.fn f [] []) else .any
def D.cells:D->List D
 | .agg ds=>ds
 | .int k n=>[.int k n]
 | .bool b=>[.bool b]
 | .str s=>[.str s]
 | .nilp=>[.nilp]
 | .nilf=>[.nilf]
 | .nili=>[.nili]
 | .nilc=>[.nilc]
 | .nilm=>[.nilm]
 | .tup z=>[.tup z]
 | .sl Q k rows=>[.sl Q k rows]
 | .ref z=>[.ref z]
 | .mp O G=>[.mp O G]
 | .fn f a c=>[.fn f a c]
 | .ifc t d=>[.ifc t d]
 | .gp g=>[.gp g]
 | .tok g=>[.tok g]
def AV.cells:AV->List AV
 | .im d=>d.cells.map .im
 | .agg z=>z
 | .any=>[]
 | .tup z=>[.tup z]
 | .ptr o p=>[.ptr o p]
 | .eptr o i p=>[.eptr o i p]
 | .own o=>[.own o]
 | .mp o=>[.mp o]
 | .ch o=>[.ch o]
 | .it o=>[.it o]
 | .osl o a n=>[.osl o a n]
 | .clo f a c=>[.clo f a c]
def D.one:D->Bool
 | .agg _| .tup _=>false
 | .int _ _| .bool _| .str _| .nilp| .nilf| .nili| .nilc| .nilm| .sl _ _ _| .ref _| .mp _ _| .fn _ _ _| .ifc _ _| .gp _| .tok _=>true
def AV.one:AV->Bool
 | .im d=>d.one
 | .agg _| .any| .tup _=>false
 | .ptr _ _| .eptr _ _ _| .own _| .mp _| .ch _| .it _| .osl _ _ _| .clo _ _ _=>true
def Qj:List AV->Bool
 |[]=>true
 |x::r=>x.one && Qj r
def AV.asD:AV->Option D
 | .im d=>some d
 | .agg _| .any| .tup _| .ptr _ _| .eptr _ _ _| .own _| .mp _| .ch _| .it _| .osl _ _ _| .clo _ _ _=>none
def Nq:Option D->Option (List D)->Option (List D)
 |some d,some ds=>some (d::ds)
 |some _,none=>none
 |none,_=>none
def D8:List AV->Option (List D)
 |[]=>some []
 |x::r=>Nq x.asD (D8 r)
def Xv(cs:List AV):Option (List D)->AV
 |some ds=> .im (.agg ds)
 |none=> .agg cs
def zM:List AV->AV
 |[]=> .any
 |x::_=>x
def eJ:List D->D
 |[]=> .nilp
 |x::_=>x
def eU(agg:Bool)(cs:List AV):AV:=
 bif agg then Xv cs (D8 cs) else zM cs
def Z5(agg:Bool)(ds:List D):D:=bif agg then .agg ds else eJ ds
def BP{α:Type}(l:List α)(off:Nat)(x:List α):List α:=l.take off++x++l.drop (off+x.length)
abbrev Ai:=AV->Bk->Prop
mutual
def D.beq:D->D->Bool
 | .int _ a,.int _ b=>a==b
 | .bool a,.bool b=>a==b
 | .str a,.str b=>a==b
 | .agg a,.agg b=>D.beql a b
 |_,_=>false
def D.beql:List D->List D->Bool
 |[],[]=>true
 |a::r,b::s=>D.beq a b && D.beql r s
 |_,_=>false
end
def lk:List (D×D)->D->Option D
 |[],_=>none
 |(k,v)::r,x=>bif D.beq x k then some v else lk r x
def FY:List (D×D)->D->D->List (D×D)
 |[],x,y=>[(x,y)]
 |(k,v)::r,x,y=>bif D.beq x k then (x,y)::r else (k,v)::FY r x y
def I0:List (D×D)->D->List (D×D)
 |[],_=>[]
 |(k,v)::r,x=>bif D.beq x k then r else (k,v)::I0 r x
def YS(P:Program)(G:TypeId->Option KT):List Field->Nat->Option (List KK)
 |[],_=>some []
 |f::O,off=>
  match G f.type,P.info? f.type with
  |some z,some i=>
   bif f.offset==off && (f.name != "_" && i.size==z.ks.length) then (YS P G O (off+z.ks.length)).map (z.ks++ ·) else none
  |_,_=>none
def Bj(P:Program):Nat->TypeId->Option KT
 |0,_=>none
 |n+1,t=>
  match P.underlying t with
  |some (.int k)=>some ⟨false,[.int k]⟩
  |some .string=>some ⟨false,[.str]⟩
  |some .bool=>some ⟨false,[.bool]⟩
  |some (.struct z)=>bif P.stoodInHeld t then none else (YS P (Bj P n) z.toList 0).map (⟨true,·⟩)
  |_=>none
def Bp(P:Program)(t:TypeId):Option KT:=Bj P 5 t
def IX{α:Type}(rows:List (List α))(i:Nat)(K:List α->Prop):Prop:= ∀row,rows[i]? =some row->K row
def FD(es:List (D×D))(kd:D)(Ks:D->Prop)(Kn:Prop):Prop:=(∀v,lk es kd=some v->Ks v)/\(lk es kd=none->Kn)
def cH(ti:TI)(off:Nat)(E:Bk)(K:Ai)(row:List D):Prop:=(ti.agg=true\/ti.size=1)/\off+ti.size<=row.length/\K (.im (Z5 ti.agg ((row.drop off).take ti.size))) E
def rE(ti:TI)(off:Nat)(E:Bk)(K:Ai)(row:List AV):Prop:=(ti.agg=true\/ti.size=1)/\off+ti.size<=row.length/\K (eU ti.agg ((row.drop off).take ti.size)) E
def IA(ti:TI)(o off:Nat)(K:Ai):Option Aq->Prop
 |some (_,.cells _ z)=>rE ti off {use:=[o]} K z
 |some (_,.view z)=>cH ti off {use:=[o]} K z
 |_=>False
def I9(ti:TI)(o i off:Nat)(K:Ai):Option Aq->Prop
 |some (_,.arr _ _ rows)=>i<rows.length/\IX rows i (cH ti off {use:=[o]} K)
 |some (_,.arrA _ _ rows)=>i<rows.length/\IX rows i (rE ti off {use:=[o]} K)
 |_=>False
def Wn(h:Nat->Option Aq)(ti:TI)(K:Ai):AV->Prop
 | .im (.ref z)=>cH ti 0 {} K z
 | .im (.gp g)=>L3 g=true/\ti.size=1/\ti.agg=false/\K (.im (.tok g)) {}
 | .ptr o off=>IA ti o off K (h o)
 | .eptr o i off=>I9 ti o i off K (h o)
 |_=>False
def Xn(o i off k z:Nat)(T:TypeId)(rows:List (List D))(K:Ai)(row:List D):Option (List D)->Prop
 |some ds=>off+z<=row.length/\K .any {use:=[o],kill:=[o],new:=[(o,(true,.arr T k (rows.set i (BP row off ds))))]}
 |none=>False
def Qxz(o i off k z:Nat)(T:TypeId)(rows:List (List D))(ds:Option (List D))(K:Ai)(row:List D):Prop:=Xn o i off k z T rows K row ds
def Qyo(o i off k z:Nat)(T:TypeId)(rows:List (List AV))(vs:List AV)(K:Ai)(row:List AV):Prop:=
 off+z<=row.length/\K .any {use:=[o],kill:=[o],new:=[(o,(true,.arrA T k (rows.set i (BP row off vs))))]}
def TJ(ti:TI)(o off:Nat)(vs:List AV)(K:Ai):Option Aq->Prop
 |some (true,.cells T z)=>off+ti.size<=z.length/\K .any {use:=[o],kill:=[o],new:=[(o,(true,.cells T (BP z off vs)))]}
 |_=>False
def IM(ti:TI)(o i off:Nat)(vs:List AV)(K:Ai):Option Aq->Prop
 |some (true,.arr T k rows)=>i<rows.length/\IX rows i (Qxz o i off k ti.size T rows (D8 vs) K)
 |some (true,.arrA T k rows)=>i<rows.length/\IX rows i (Qyo o i off k ti.size T rows vs K)
 |_=>False
def oE(h:Nat->Option Aq)(ti:TI)(vs:List AV)(K:Ai):AV->Prop
 | .ptr o off=>TJ ti o off vs K (h o)
 | .eptr o i off=>IM ti o i off vs K (h o)
 |_=>False
def wZ(h:Nat->Option Aq)(x v:AV)(K:Ai)(ti:TI):Prop:=
 ti.size≠0/\v.cells.length=ti.size/\Qj v.cells=true/\oE h ti v.cells K x
def Q9(o:Nat)(x:AV)(K:Ai):Option Aq->Prop
 |some _=>K x {use:=[o]}
 |none=>False
def JQ(h:Nat->Option Aq)(off:Nat)(K:Ai):AV->Prop
 | .im (.ref z)=>off<=z.length/\K (.im (.ref (z.drop off))) {}
 | .ptr o p=>Q9 o (.ptr o (p+off)) K (h o)
 | .eptr o i p=>Q9 o (.eptr o i (p+off)) K (h o)
 |_=>False
def WW(h:Nat->Option Aq)(x:AV)(K:Ai):Option (Nat×Nat)->Prop
 |some (off,z)=>z≠0/\JQ h off K x
 |none=>False
def faK(h:Nat->Option Aq)(x:AV)(f:Nat)(K:Ai):TK->Prop
 | .struct z=>WW h x K z[f]?
 |_=>False
def uY(h:Nat->Option Aq)(x:AV)(f:Nat)(K:Ai)(ti:TI):Prop:=faK h x f K ti.kind
def sV(K:Ai)(row:List D):Prop:=K (.im (.ref row)) {}
def L2(o:Nat)(n:Int)(K:Ai)(z:TI):Option Aq->Prop
 |some (_,.arr _ k rows)=>k=z.size/\0<=n/\n<(rows.length:Int)/\K (.eptr o n.toNat 0) {use:=[o]}
 |some (_,.arrA _ k rows)=>k=z.size/\0<=n/\n<(rows.length:Int)/\K (.eptr o n.toNat 0) {use:=[o]}
 |_=>False
def Xh(h:Nat->Option Aq)(n:Int)(K:Ai)(x:AV)(z:TI):Prop:=
 match x with
 | .im (.sl _ k rows)=>k=z.size/\0<=n/\n<(rows.length:Int)/\IX rows n.toNat (sV K)
 | .own o=>L2 o n K z (h o)
 |_=>False
def L0(h:Nat->Option Aq)(m:Nat)(n:Int)(K:Ai)(x:AV)(z:TI):Prop:=
 match x with
 | .ptr o p=>0<=n/\n<(m:Int)/\Q9 o (.ptr o (p+n.toNat*z.size)) K (h o)
 | .im (.ref G)=>0<=n/\n<(m:Int)/\n.toNat*z.size<=G.length/\K (.im (.ref (G.drop (n.toNat*z.size)))) {}
 |_=>False
def Bc(f:TI->Prop):Option TI->Prop
 |some ti=>f ti
 |none=>False
def sN(P:Program)(h:Nat->Option Aq)(x:AV)(n:Int)(K:Ai):TK->Prop
 | .slice e=>Bc (Xh h n K x) (tI P e)
 | .array m e=>Bc (L0 h m n K x) (tI P e)
 |_=>False
def Qjp(P:Program)(h:Nat->Option Aq)(x:AV)(ti:TI)(K:Ai):AV->Prop
 | .im (.int _ n)=>sN P h x n K ti.kind
 |_=>False
def RW(m:Nat)(n:Int)(cs:List D)(K:Ai)(z:TI):Prop:=
 (z.agg=true\/z.size=1)/\0<=n/\n<(m:Int)/\n.toNat*z.size+z.size<=cs.length/\K (.im (Z5 z.agg ((cs.drop (n.toNat*z.size)).take z.size))) {}
def ZM(s:ByteArray)(i:Nat)(K:UInt8->Prop):Prop:= ∀c,s.data[i]? =some c->K c
def kCh(K:Ai)(c:UInt8):Prop:=K (.im (.int .u8 c.toNat)) {}
def zO(P:Program)(n:Int)(K:Ai):TK->AV->Prop
 | .array m e,.im (.agg z)=>Bc (RW m n z K) (tI P e)
 | .str,.im (.str s)=>0<=n/\n<(s.size:Int)/\ZM s n.toNat (kCh K)
 |_,_=>False
def Qxc(P:Program)(x:AV)(ti:TI)(K:Ai):AV->Prop
 | .im (.int _ n)=>zO P n K ti.kind x
 |_=>False
def Gm:BinOp->Nat
 | .shr=>1
 | .shl=>2
 | .add| .sub| .mul| .quo| .rem| .and| .or| .xor| .andNot| .eql| .neq| .lss| .leq| .gtr| .geq=>0
def W1(k:IntKind)(a b:Int):Int:=k.wrap ((BitVec.ofInt k.bits a &&& BitVec.ofInt k.bits b).toNat:Int)
def orI(k:IntKind)(a b:Int):Int:=k.wrap ((BitVec.ofInt k.bits a|||BitVec.ofInt k.bits b).toNat:Int)
def uI(k:IntKind)(a b:Int):Int:=k.wrap ((BitVec.ofInt k.bits a^^^BitVec.ofInt k.bits b).toNat:Int)
def Il(op:BinOp)(k:IntKind)(a b:Int)(K:Ai):Prop:=
 match op with
 | .add=>K (.im (.int k (k.wrap (a+b)))) {}
 | .sub=>K (.im (.int k (k.wrap (a - b)))) {}
 | .mul=>K (.im (.int k (k.wrap (a*b)))) {}
 | .quo=>b≠0/\K (.im (.int k (k.wrap (a.tdiv b)))) {}
 | .rem=>b≠0/\K (.im (.int k (a.tmod b))) {}
 | .eql=>K (.im (.bool (decide (a=b)))) {}
 | .neq=>K (.im (.bool (!decide (a=b)))) {}
 | .lss=>K (.im (.bool (decide (a<b)))) {}
 | .leq=>K (.im (.bool (decide (a<=b)))) {}
 | .gtr=>K (.im (.bool (decide (b<a)))) {}
 | .geq=>K (.im (.bool (decide (b<=a)))) {}
 | .and=>K (.im (.int k (W1 k a b))) {}
 | .or=>K (.im (.int k (orI k a b))) {}
 | .xor=>K (.im (.int k (uI k a b))) {}
 |_=>False
def Zs(neg:Bool)(K:Ai)(b:Bool):Prop:=K (.im (.bool (neg !=b))) {}
def Rt(neg:Bool)(K:Ai):AV->Prop
 | .im (.sl true _ rows)=>Zs neg K rows.isEmpty
 |_=>False
def qN(h:Nat->Option Aq)(neg:Bool)(K:Ai):AV->Prop
 | .im .nilp=>Zs neg K true
 | .im (.ref _)=>Zs neg K false
 | .ptr o _=>Q9 o (.im (.bool neg)) K (h o)
 | .eptr o _ _=>Q9 o (.im (.bool neg)) K (h o)
 |_=>False
def Vm(h:Nat->Option Aq)(neg:Bool)(K:Ai):AV->Prop
 | .im .nilm=>Zs neg K true
 | .im (.mp _ _)=>Zs neg K false
 | .mp o=>Q9 o (.im (.bool neg)) K (h o)
 |_=>False
def Wj(h:Nat->Option Aq)(neg:Bool)(K:Ai)(x:AV):Nat->TK->Prop
 |0,.slice _=>Rt neg K x
 |1,.ptr _=>qN h neg K x
 |2,.map _ _=>Vm h neg K x
 |_,_=>False
def MY(op:BinOp)(a b:ByteArray)(K:Ai):Prop:=
 match op with
 | .eql=>K (.im (.bool (decide (a=b)))) {}
 | .neq=>K (.im (.bool (!decide (a=b)))) {}
 | .add=>a.size+b.size<=9223372036854775807/\K (.im (.str (a++b))) {}
 |_=>False
def IQ(op:BinOp)(a b:Bool)(K:Ai):Prop:=
 match op with
 | .eql=>K (.im (.bool (a==b))) {}
 | .neq=>K (.im (.bool (a !=b))) {}
 |_=>False
def M1(op:BinOp)(a b:Bool)(K:Ai):Option TI->Prop
 |some ti=>ti.kind= .bool/\IQ op a b K
 |none=>False
def pV(op:BinOp)(a b:List D)(K:Ai):Prop:=
 match op with
 | .eql=>K (.im (.bool (D.beql a b))) {}
 | .neq=>K (.im (.bool (!D.beql a b))) {}
 |_=>False
def pR(P:Program)(T:TypeId)(op:BinOp)(a b:List D)(K:Ai):Option KT->Prop
 |some z=>z.fit (.agg a)=true/\z.fit (.agg b)=true/\P.eqGuardType P.depth T=false/\pV op a b K
 |none=>False
def YJ(op:BinOp)(k:IntKind)(a:Int)(k':IntKind)(b:Int)(K:Ai):Nat->Prop
 |0=>k=k'/\Il op k a b K
 |1=>0<=b/\K (.im (.int k (a.fdiv (2^min b.toNat k.bits)))) {}
 |_+2=>0<=b/\K (.im (.int k (k.wrap (a*2^min b.toNat k.bits)))) {}
def cO(P:Program)(T:TypeId)(op:BinOp)(K:Ai):AV->AV->Prop
 | .im (.int k a),.im (.int k' b)=>YJ op k a k' b K (Gm op)
 | .im (.str a),.im (.str b)=>MY op a b K
 | .im (.bool a),.im (.bool b)=>M1 op a b K (tI P T)
 | .im (.agg a),.im (.agg b)=>pR P T op a b K (Bp P T)
 |_,_=>False
def Yf(K:Ai):UnOp->AV->Prop
 | .not,.im (.bool b)=>K (.im (.bool (!b))) {}
 | .neg,.im (.int k n)=>K (.im (.int k (k.wrap (-n)))) {}
 |_,_=>False
def YP(cells:List AV)(vs:List AV):Option (Nat×Nat)->Option (List AV)
 |none=>none
 |some (off,size)=>bif vs.length==size && (Nat.blt 0 size && Nat.ble (off+size) cells.length) then some (BP cells off vs) else none
def Hi(place:Nat->Option (Nat×Nat)):List (Nat×AV)->Option (List AV)->Option (List AV)
 |[],r=>r
 |_::_,none=>none
 |(i,v)::z,some cells=>Hi place z (YP cells v.cells (place i))
def II(k i:Nat):Option (Nat×Nat):=some (i*k,k)
def LX(z:List (Nat×Nat))(i:Nat):Option (Nat×Nat):=z[i]?
def MT(K:Ai):Option (List AV)->Prop
 |some z=>K (eU true z) {}
 |none=>False
def QF(O:List AV)(z:List (Nat×AV))(K:Ai)(G:TI):Prop:=MT K (Hi (II G.size) z (some O))
def sE(P:Program)(G:List AV)(z:List (Nat×AV))(K:Ai):TK->Prop
 | .struct O=>MT K (Hi (LX O) z (some G))
 | .array _ e=>Bc (QF G z K) (tI P e)
 |_=>False
def xQ(P:Program)(z:List (Nat×AV))(K:Ai)(ti:TI):Prop:=ti.zero.length=ti.size/\ti.size≠0/\sE P (ti.zero.map .im) z K ti.kind
def HA{α:Type}(k:Nat):Nat->List α->List (List α)
 |0,_=>[]
 |n+1,l=>l.take k::HA k n (l.drop k)
def BS{α:Type}:Nat->List α->List α
 |0,_=>[]
 |n+1,z=>z++BS n z
def Iv(nx len e k:Nat)(cs:List AV)(K:Ai):Option (List D)->Prop
 |some ds=>K (.own nx) {new:=[(nx,(true,.arr e k (HA k len ds)))],cnt:=1}
 |none=>K (.own nx) {new:=[(nx,(true,.arrA e k (HA k len cs)))],cnt:=1}
def KO(nx len e k:Nat)(K:Ai):Option (List AV)->Prop
 |some z=>Iv nx len e k z K (D8 z)
 |none=>False
def bsE(nx len e:Nat)(z:List (Nat×AV))(K:Ai)(G:TI):Prop:=
 G.zero.length=G.size/\G.size≠0/\len*G.size<=16777216/\KO nx len e G.size K (Hi (II G.size) z (some (BS len (G.zero.map .im))))
def bsK(P:Program)(nx len:Nat)(z:List (Nat×AV))(K:Ai):TK->Prop
 | .slice e=>Bc (bsE nx len e z K) (tI P e)
 |_=>False
def uO(P:Program)(nx len:Nat)(z:List (Nat×AV))(K:Ai)(ti:TI):Prop:=bsK P nx len z K ti.kind
def zR(nx e:Nat)(n m:Int)(K:Ai)(z:TI):Prop:=
 z.size≠0/\0<=n/\n<=m/\m<=1073741824/\z.bytes<=65536/\z.zero.length=z.size/\
  K (.own nx) {new:=[(nx,(true,.arr e z.size (List.replicate n.toNat z.zero)))],cnt:=1}
def msK(P:Program)(nx:Nat)(K:Ai):TK->AV->AV->Prop
 | .slice e,.im (.int .i64 n),.im (.int .i64 m)=>Bc (zR nx e n m K) (tI P e)
 |_,_,_=>False
def uZ(P:Program)(nx:Nat)(l c:AV)(K:Ai)(ti:TI):Prop:=msK P nx K ti.kind l c
inductive BW where
 |d (u:List Nat) (k:Nat) (rows:List (List D))
 |a (u:List Nat) (k:Nat) (rows:List (List AV))
 |no
def YM(o:Nat):Option Aq->BW
 |some (_,.arr _ k rows)=> .d [o] k rows
 |some (_,.arrA _ k rows)=> .a [o] k rows
 |_=> .no
def D7(h:Nat->Option Aq):AV->BW
 | .im (.sl _ k rows)=> .d [] k rows
 | .own o=>YM o (h o)
 |_=> .no
def Bl(rows:List (List D)):List (List AV):=rows.map λr=>r.map .im
def BC:List D->Bool
 |[]=>true
 |x::r=>x.one && BC r
def BL{α:Type}(f:List α->Bool)(rows:List (List α)):Prop:= ∀row∈rows,f row=true
def BW.okOne:BW->Prop
 | .d _ _ rows=>BL BC rows
 | .a _ _ rows=>BL Qj rows
 | .no=>False
def MQ(nx e:Nat)(z:TI)(K:Ai):BW->Prop
 | .d u k rows=>(k=z.size\/rows=[])/\(rows.length+512)*z.bytes<=140737488355328/\K (.own nx) {use:=u,new:=[(nx,(true,.arr e z.size rows))],cnt:=1}
 | .a u k rows=>k=z.size/\(rows.length+512)*z.bytes<=140737488355328/\K (.own nx) {use:=u,kill:=u,new:=[(nx,(true,.arrA e z.size rows))],cnt:=1}
 | .no=>False
def jL(nx e o:Nat)(z:TI)(rows0:List (List D))(K:Ai):BW->Prop
 | .d u k rows=>(k=z.size\/rows=[])/\u≠[o]/\(rows0.length+rows.length+512)*z.bytes<=140737488355328/\
  K (.own nx) {use:=o::u,kill:=[o],new:=[(nx,(true,.arr e z.size (rows0++rows)))],cnt:=1}
 | .a u k rows=>k=z.size/\u≠[o]/\(rows0.length+rows.length+512)*z.bytes<=140737488355328/\
  K (.own nx) {use:=o::u,kill:=o::u,new:=[(nx,(true,.arrA e z.size (Bl rows0++rows)))],cnt:=1}
 | .no=>False
def jK(nx e o:Nat)(z:TI)(rows0:List (List AV))(K:Ai):BW->Prop
 | .d u k rows=>(k=z.size\/rows=[])/\u≠[o]/\(rows0.length+rows.length+512)*z.bytes<=140737488355328/\
  K (.own nx) {use:=o::u,kill:=[o],new:=[(nx,(true,.arrA e z.size (rows0++Bl rows)))],cnt:=1}
 | .a u k rows=>k=z.size/\u≠[o]/\(rows0.length+rows.length+512)*z.bytes<=140737488355328/\
  K (.own nx) {use:=o::u,kill:=o::u,new:=[(nx,(true,.arrA e z.size (rows0++rows)))],cnt:=1}
 | .no=>False
def Ir(nx e o:Nat)(G:TI)(src:BW)(K:Ai):Option Aq->Prop
 |some (true,.arr T k z)=>T=e/\k=G.size/\jL nx e o G z K src
 |some (true,.arrA T k z)=>T=e/\k=G.size/\jK nx e o G z K src
 |_=>False
def QA(h:Nat->Option Aq)(nx e:Nat)(z:TI)(src:BW)(K:Ai):AV->Prop
 | .im (.sl true _ [])=>MQ nx e z K src
 | .own o=>Ir nx e o z src K (h o)
 |_=>False
def apE(h:Nat->Option Aq)(nx e:Nat)(s:AV)(src:BW)(K:Ai)(z:TI):Prop:=
 z.size≠0/\z.zero.length=z.size/\z.bytes≠0/\src.okOne/\QA h nx e z src K s
def apK(P:Program)(h:Nat->Option Aq)(nx:Nat)(s:AV)(src:BW)(K:Ai):TK->Prop
 | .slice e=>Bc (apE h nx e s src K) (tI P e)
 |_=>False
def Qsl(P:Program)(h:Nat->Option Aq)(nx:Nat)(s x:AV)(K:Ai)(ti:TI):Prop:=apK P h nx s (D7 h x) K ti.kind
def Ft(K:Ai)(E:Bk)(n:Nat):Prop:=K (.im (.int .i64 n)) E
def Qxr(z:Bool)(o:Nat)(K:Ai):Option Aq->Prop
 |some (_,.arr _ _ rows)=>(z=true->rows.length<=140737488355328)->Ft K {use:=[o]} rows.length
 |some (_,.arrA _ _ rows)=>(z=true->rows.length<=140737488355328)->Ft K {use:=[o]} rows.length
 |_=>False
def L9(o:Nat)(K:Ai):Option Aq->Prop
 |some (_,.map _ z)=>Ft K {use:=[o]} z.length
 |_=>False
def eP(o n:Nat)(K:Ai):Option Aq->Prop
 |some _=>Ft K {use:=[o]} n
 |none=>False
def cN(z:Bool)(h:Nat->Option Aq)(K:Ai):AV->Prop
 | .osl o _ n=>eP o n K (h o)
 | .im (.sl _ _ rows)=>(z=true->rows.length<=140737488355328)->Ft K {} rows.length
 | .own o=>Qxr z o K (h o)
 |_=>False
def Sg(K:Ai):AV->Prop
 | .im (.str s)=>Ft K {} s.size
 |_=>False
def qX(h:Nat->Option Aq)(K:Ai):AV->Prop
 | .im (.mp _ z)=>Ft K {} z.length
 | .im .nilm=>Ft K {} 0
 | .mp o=>L9 o K (h o)
 |_=>False
def EW(z:Bool)(h:Nat->Option Aq)(K:Ai)(x:AV):TK->Prop
 | .slice _=>cN z h K x
 | .str=>Sg K x
 | .map _ _=>qX h K x
 | .bool| .ptr _| .int _| .array _ _| .struct _| .other=>False
def cU(z:Bool)(h:Nat->Option Aq)(x:AV)(K:Ai)(ti:TI):Prop:=EW z h K x ti.kind
def yC(ok:Bool)(E:Bk)(K:Ai)(v:D):Prop:=K (bif ok then .tup [.im v,.im (.bool true)] else .im v) E
def I6(z:TI)(ok:Bool)(E:Bk)(K:Ai):Prop:=z.zero.length=z.size/\(z.agg=true\/z.size=1)/\z.size≠0/\K (bif ok then .tup [.im (Z5 z.agg z.zero),.im (.bool false)] else .im (Z5 z.agg z.zero)) E
def Sl(o:Nat)(O:KT)(kd:D)(ok:Bool)(Q:TI)(K:Ai):Option Aq->Prop
 |some (_,.map z G)=>z=O/\FD G kd (yC ok {use:=[o]} K) (I6 Q ok {use:=[o]} K)
 |_=>False
def cV(h:Nat->Option Aq)(O:KT)(kd:D)(ok:Bool)(G:TI)(K:Ai):AV->Prop
 | .im (.mp z Q)=>z=O/\FD Q kd (yC ok {} K) (I6 G ok {} K)
 | .im .nilm=>I6 G ok {} K
 | .mp o=>Sl o O kd ok G K (h o)
 |_=>False
def Xu(h:Nat->Option Aq)(m:AV)(kd:D)(ok:Bool)(K:Ai)(G:TI):Option KT->Prop
 |some z=>z.fit kd=true/\cV h z kd ok G K m
 |none=>False
def luE(P:Program)(h:Nat->Option Aq)(m:AV)(kd:D)(ok:Bool)(K:Ai)(k:TypeId)(z:TI):Prop:=Xu h m kd ok K z (Bp P k)
def luK(P:Program)(h:Nat->Option Aq)(m:AV)(ok:Bool)(K:Ai):TK->AV->Prop
 | .map k e,.im z=>Bc (luE P h m z ok K k) (tI P e)
 |_,_=>False
def wN(P:Program)(h:Nat->Option Aq)(m k:AV)(ok:Bool)(K:Ai)(ti:TI):Prop:=luK P h m ok K ti.kind k
def Sy(o:Nat)(z:KT)(kd Q:D)(K:Ai):Option Aq->Prop
 |some (true,.map G O)=>G=z/\z.fit kd=true/\K .any {use:=[o],kill:=[o],new:=[(o,(true,.map z (FY O kd Q)))]}
 |_=>False
def Sx(h:Nat->Option Aq)(o:Nat)(kd G:D)(K:Ai):Option KT->Prop
 |some z=>Sy o z kd G K (h o)
 |none=>False
def JY(P:Program)(h:Nat->Option Aq)(o:Nat)(kd z:D)(K:Ai):TK->Prop
 | .map k _=>Sx h o kd z K (Bp P k)
 | .bool| .str| .ptr _| .int _| .array _ _| .struct _| .slice _| .other=>False
def zS(n:Nat)(e:Ad)(K:Ai)(r:AV)(E:Bk):Prop:=E.kill.contains n=false/\K r {use:=n::E.use,kill:=n::E.kill,new:=E.new++[(n,(false,e))],cnt:=E.cnt}
def Sz(P:Program)(h:Nat->Option Aq)(o n:Nat)(kd:D)(K:Ai)(z:TK):Option Aq->Prop
 |some (_,.arr T k rows)=>(o==n)=false/\JY P h o kd (.sl false k rows) (zS n (.arr T k rows) K) z
 |_=>False
def nW(P:Program)(h:Nat->Option Aq)(K:Ai)(m k v:AV)(ti:TI):Prop:=
 match m,k,v with
 | .mp o,.im z,.im G=>JY P h o z G K ti.kind
 | .mp o,.im z,.own n=>Sz P h o n z K ti.kind (h n)
 |_,_,_=>False
def Rg(o:Nat)(z:KT)(kd:D)(K:Ai):Option Aq->Prop
 |some (true,.map G O)=>G=z/\z.fit kd=true/\K .any {use:=[o],kill:=[o],new:=[(o,(true,.map z (I0 O kd)))]}
 |_=>False
def WJ(h:Nat->Option Aq)(o:Nat)(kd:D)(K:Ai):Option KT->Prop
 |some z=>Rg o z kd K (h o)
 |none=>False
def Rf(P:Program)(h:Nat->Option Aq)(o:Nat)(kd:D)(K:Ai):TK->Prop
 | .map k _=>WJ h o kd K (Bp P k)
 | .bool| .str| .ptr _| .int _| .array _ _| .struct _| .slice _| .other=>False
def wK(P:Program)(h:Nat->Option Aq)(K:Ai)(m k:AV)(ti:TI):Prop:=
 match m,k with
 | .mp o,.im z=>Rf P h o z K ti.kind
 |_,_=>False
def exA(K:Ai):Option AV->Prop
 |some c=>K c {}
 |none=>False
def exD(K:Ai):Option D->Prop
 |some d=>K (.im d) {}
 |none=>False
def gQ(i:Nat)(K:Ai):AV->Prop
 | .tup z=>exA K z[i]?
 | .im (.tup ds)=>exD K ds[i]?
 |_=>False
def gR(h:Nat->Option Aq)(K:Ai):AV->Prop
 | .im (.ref z)=>K (.im (.ref z)) {}
 | .im (.ifc t d)=>K (.im (.ifc t d)) {}
 | .ptr o p=>Q9 o (.ptr o p) K (h o)
 | .eptr o i p=>Q9 o (.eptr o i p) K (h o)
 |_=>False
abbrev CK:=FuncId->List AV->(Nat->Option Aq)->Nat->Ai->Prop
def PR(V:CK)(args:List AV)(h:Nat->Option Aq)(nx:Nat)(K:Ai):AV->Prop
 | .im (.fn g first capt)=>V g ((first.map .im)++args++(capt.map .im)) h nx K
 | .clo g first capt=>V g (first++args++capt) h nx K
 |_=>False
def PJ:Option TI->Option TK
 |some ti=>some ti.kind
 |none=>none
def Qjk(nx e:Nat)(K:Ai)(z:TI):Prop:=K (.own nx) {new:=[(nx,(true,.arr e z.size []))],cnt:=1}
def Qg6(P:Program)(nx:Nat)(K:Ai):Option TK->Prop
 |some (.slice e)=>Bc (Qjk nx e K) (tI P e)
 |_=>False
def Qd:Value->Bool
 | .slice none 0 0=>true
 |_=>false
def VV:Operand->Bool
 | .const v=>Qd v
 | .tmp _| .global _| .func _=>false
def vQ(P:Program)(nx:Nat)(T:TypeId)(v:AV)(K:Ai):Bool->Prop
 |true=>Qg6 P nx K (PJ (tI P T))
 |false=>K v {}
def wD(P:Program)(tm:List (Nat×AV))(nx:Nat)(T:TypeId)(K:Ai)(x:Operand):Prop:=vQ P nx T (Aw tm x) K (VV x && !(T==315))
def LV(c:Bool)(K:Ai)(a b:AV):Prop:=(c=true->K a {})/\(c=false->K b {})
def yL(a b:AV)(K:Ai):AV->Prop
 | .im (.bool c)=>LV c K a b
 |_=>False
def xP(nx T:Nat)(K:Ai)(ti:TI):Prop:=ti.zero.length=ti.size/\ti.size≠0/\K (.ptr nx 0) {new:=[(nx,(true,.cells T (ti.zero.map .im)))],cnt:=1}
def Ue(nx T:Nat)(K:Ai)(cs:List AV):Prop:=cs≠[]/\K (.ptr nx 0) {new:=[(nx,(true,.cells T cs))],cnt:=1}
def Fu:Value->Nat
 | .slice none 0 0=>1
 | .pointer none=>2
 | .map none=>3
 | .nilIface=>4
 |_=>0
def EX:Operand->Nat
 | .const v=>Fu v
 | .tmp _| .global _| .func _=>0
def iJ(h:Nat->Option Aq)(op:BinOp)(x:AV)(K:Ai)(n:Nat)(ti:TI):Prop:=
 match op with
 | .eql=>Wj h false K x n ti.kind
 | .neq=>Wj h true K x n ti.kind
 |_=>False
def RQ(P:Program)(T:TypeId):Bool:=match P.underlying T with
 |some (.interface _)=>true
 |_=>false
def Zx(P:Program)(T:TypeId):Bool:=match P.underlying T with
 |some (.interface _)=>false
 |some _=>true
 |none=>false
def Z4(P:Program)(t:TypeId)(name:String):Option FuncId:=
 match P.info? t with
 |some i=>match i.methods.find? (·.name==name) with
  |some m=>bif m.path.isEmpty then (match m.func with
   |some (f,false)=>some f
   |_=>none) else none
  |none=>none
 |none=>none
def V7(P:Program)(t:TypeId)(name:String):Option FuncId:=
 match P.underlying t with
 |some (.pointer _)=>none
 |some _=>Z4 P t name
 |none=>none
def PU(neg:Bool)(K:Ai):AV->Prop
 | .im .nili=>Zs neg K true
 | .im (.ifc _ _)=>Zs neg K false
 |_=>False
def VD(P:Program)(T:TypeId)(op:BinOp)(x:AV)(K:Ai):Prop:=
 RQ P T=true/\match op with
 | .eql=>PU false K x
 | .neq=>PU true K x
 |_=>False
def Uf(P:Program)(T:TypeId)(K:Ai):AV->Prop
 | .im d=>Zx P T=true/\K (.im (.ifc T d)) {}
 |_=>False
def VC(V:CK)(args:List AV)(h:Nat->Option Aq)(nx:Nat)(K:Ai)(d:D):Option FuncId->Prop
 |some f=>V f (.im d::args) h nx K
 |none=>False
def M2(P:Program)(V:CK)(args:List AV)(h:Nat->Option Aq)(nx:Nat)(K:Ai)(m:String):AV->Prop
 | .im (.ifc t d)=>VC V args h nx K d (V7 P t m)
 |_=>False
def YU(P:Program)(T:TypeId)(h:Nat->Option Aq)(op:BinOp)(x y:AV)(K:Ai):Nat->Prop
 |0=>cO P T op K x y
 |1=>Bc (iJ h op x K 0) (tI P T)
 |2=>Bc (iJ h op x K 1) (tI P T)
 |3=>Bc (iJ h op x K 2) (tI P T)
 |_+4=>VD P T op x K
def Kk:Option TK->Ai->AV->Prop
 |some (.int k),K,.im (.int _ n)=>K (.im (.int k (k.wrap n))) {}
 |_,_,_=>False
def pP(t:Option TK)(x:AV)(K:Ai):Option TI->Prop
 |some _=>Kk t K x
 |none=>False
def GZ:List (List D)->Option (List Int)
 |[]=>some []
 |[.int .u8 n]::r=>(GZ r).map (n:: ·)
 |_=>none
def GF(z:List Int):ByteArray:=⟨(z.map λn=>UInt8.ofNat n.toNat).toArray⟩
def KP(u:List Nat)(K:Ai):Option (List Int)->Prop
 |some z=>K (.im (.str (GF z))) {use:=u}
 |none=>False
def QN(o:Nat)(K:Ai):Option Aq->Prop
 |some (_,.arr _ k rows)=>k=1/\KP [o] K (GZ rows)
 |_=>False
def dU(h:Nat->Option Aq)(K:Ai):AV->Prop
 | .own o=>QN o K (h o)
 |_=>False
def dV(h:Nat->Option Aq)(K:Ai)(x:AV):Option TK->Prop
 |some (.int .u8)=>dU h K x
 |_=>False
def dW(P:Program)(h:Nat->Option Aq)(K:Ai)(x:AV):TK->Prop
 | .slice e=>dV h K x (PJ (tI P e))
 |_=>False
def Iw(P:Program)(h:Nat->Option Aq)(K:Ai)(x:AV):Option TI->Prop
 |some z=>dW P h K x z.kind
 |none=>False
def TK.isStr:TK->Bool
 | .str=>true
 | .bool| .ptr _| .int _| .array _ _| .struct _| .map _ _| .slice _| .other=>false
def isStr:Option TK->Bool
 |some t=>t.isStr
 |none=>false
def Vw(P:Program)(h:Nat->Option Aq)(t:Option TK)(x:AV)(K:Ai)(s:Option TI):Prop:=if isStr t=true then Iw P h K x s else pP t x K s
def M3(K:Ai):AV->AV->Prop
 | .im (.int k a),.im (.int k' b)=>k=k'/\K (.im (.int k (max a b))) {}
 |_,_=>False
def TK.isSl:TK->Bool
 | .slice _=>true
 | .bool| .str| .ptr _| .int _| .array _ _| .struct _| .map _ _| .other=>false
def vX(P:Program)(h:Nat->Option Aq)(nx:Nat)(s x:AV)(T:TypeId)(K:Ai)(z:TI):Prop:=z.kind.isSl=true/\Bc (Qsl P h nx s x K) (tI P T)
def Dv(tm:List (Nat×AV)):Option Operand->Option AV
 |none=>none
 |some x=>some (Aw tm x)
def G7(z:Nat):Option AV->Option Int
 |none=>some z
 |some (.im (.int _ n))=>some n
 |some _=>none
def TM(k:Nat)(rows:List (List D))(K:Ai):Option Int->Option Int->Prop
 |some l,some m=>0<=l/\l<=m/\m<=(rows.length:Int)/\K (.im (.sl false k ((rows.drop l.toNat).take (m - l).toNat))) {}
 |some _,none=>False
 |none,_=>False
def IN(s:ByteArray)(K:Ai):Option Int->Option Int->Prop
 |some l,some m=>0<=l/\l<=m/\m<=(s.size:Int)/\K (.im (.str (s.extract l.toNat m.toNat))) {}
 |some _,none=>False
 |none,_=>False
def qO(o nx:Nat)(z:Bool)(T k:Nat)(rows:List (List D))(a n:Nat)(K:Ai):Bool->Prop
 |false=>K (.osl o a n) {use:=[o]}
 |true=>z=true/\K (.own nx) {use:=[o],kill:=[o],new:=[(nx,(true,.arr T k ((rows.drop a).take n)))],cnt:=1}
def IP(o nx:Nat)(z:Bool)(T k:Nat)(rows:List (List D))(K:Ai):Option Int->Option Int->Prop
 |some l,some m=>0<=l/\l<=m/\m<=(rows.length:Int)/\ ∃G,qO o nx z T k rows l.toNat (m - l).toNat K G
 |some _,none=>False
 |none,_=>False
def TN(o nx:Nat)(O:TI)(lo z:Option AV)(K:Ai):Option Aq->Prop
 |some (G,.arr T k rows)=>k=O.size/\IP o nx G T k rows K (G7 0 lo) (G7 rows.length z)
 |_=>False
def tY(h:Nat->Option Aq)(nx:Nat)(lo z:Option AV)(K:Ai)(x:AV)(G:TI):Prop:=
 match x with
 | .im (.sl _ k rows)=>(k=G.size\/rows=[])/\TM k rows K (G7 0 lo) (G7 rows.length z)
 | .own o=>TN o nx G lo z K (h o)
 |_=>False
def fX(x:AV)(lo z:Option AV)(K:Ai):Prop:=
 match x with
 | .im (.str s)=>IN s K (G7 0 lo) (G7 s.size z)
 |_=>False
def PH(P:Program)(h:Nat->Option Aq)(nx:Nat)(x:AV)(lo z:Option AV)(K:Ai):TK->Prop
 | .slice e=>Bc (tY h nx lo z K x) (tI P e)
 | .str=>fX x lo z K
 | .bool| .ptr _| .int _| .array _ _| .struct _| .map _ _| .other=>False
def xL(P:Program)(h:Nat->Option Aq)(nx:Nat)(x:AV)(lo z:Option AV)(K:Ai)(ti:TI):Prop:=PH P h nx x lo z K ti.kind
def dZ(o:Nat):Option Aq->Option (List Nat×Nat×List (List D))
 |some (_,.arr _ k rows)=>some ([o],k,rows)
 |_=>none
def eA(o a n:Nat):Option Aq->Option (List Nat×Nat×List (List D))
 |some (_,.arr _ k rows)=>some ([o],k,(rows.drop a).take n)
 |_=>none
def cR(h:Nat->Option Aq):AV->Option (List Nat×Nat×List (List D))
 | .im (.sl _ k rows)=>some ([],k,rows)
 | .own o=>dZ o (h o)
 | .osl o a n=>eA o a n (h o)
 |_=>none
def Rb(o:Nat):Option Aq->Option (Nat×Nat×Nat×TypeId×Nat×List (List D))
 |some (true,.arr T k rows)=>some (o,0,rows.length,T,k,rows)
 |_=>none
def Rc(o a n:Nat):Option Aq->Option (Nat×Nat×Nat×TypeId×Nat×List (List D))
 |some (true,.arr T k rows)=>some (o,a,n,T,k,rows)
 |_=>none
def UO(h:Nat->Option Aq):AV->Option (Nat×Nat×Nat×TypeId×Nat×List (List D))
 | .own o=>Rb o (h o)
 | .osl o a n=>Rc o a n (h o)
 |_=>none
def cJ(rows:List (List D))(a m:Nat)(src:List (List D)):List (List D):=rows.take a++src.take m++rows.drop (a+m)
def Rd(G:TI)(K:Ai):Option (List Nat×Nat×List (List D))->Option (Nat×Nat×Nat×TypeId×Nat×List (List D))->Prop
 |some (u,ks,z),some (o,a,n,T,k,rows)=>k=G.size/\(ks=G.size\/z=[])/\G.size≠0/\BL BC z/\
  K (.im (.int .i64 (min z.length n:Nat))) {use:=o::u,kill:=[o],new:=[(o,(true,.arr T k (cJ rows a (min z.length n) z)))]}
 |some _,none=>False
 |none,_=>False
def Re(P:Program)(h:Nat->Option Aq)(d s:AV)(K:Ai):TK->Prop
 | .slice e=>Bc (λz=>Rd z K (cR h s) (UO h d)) (tI P e)
 | .bool| .str| .ptr _| .int _| .array _ _| .struct _| .map _ _| .other=>False
def yJ(P:Program)(h:Nat->Option Aq)(d s:AV)(K:Ai)(ti:TI):Prop:=Re P h d s K ti.kind
def WD(z:TI)(K:Ai):Option (Nat×Nat×Nat×TypeId×Nat×List (List D))->Prop
 |some (o,a,n,T,k,rows)=>k=z.size/\z.size≠0/\z.zero.length=z.size/\BC z.zero=true/\
  K .any {use:=[o],kill:=[o],new:=[(o,(true,.arr T k (cJ rows a n (List.replicate n z.zero))))]}
 |none=>False
def QS(P:Program)(h:Nat->Option Aq)(d:AV)(K:Ai):TK->Prop
 | .slice e=>Bc (λz=>WD z K (UO h d)) (tI P e)
 | .bool| .str| .ptr _| .int _| .array _ _| .struct _| .map _ _| .other=>False
def xD(P:Program)(h:Nat->Option Aq)(d:AV)(K:Ai)(ti:TI):Prop:=QS P h d K ti.kind
def Tx(nx o:Nat)(K:Ai):Option Aq->Prop
 |some (O,.map G z)=>K (.it nx) {use:=[o],kill:=[o],new:=[(nx,(true,.iter none z)),(o,(false,.map G z))],cnt:=1}
 |_=>False
def rgD(nx:Nat)(K:Ai):D->Prop
 | .mp _ z=>K (.it nx) {new:=[(nx,(true,.iter none z))],cnt:=1}
 |_=>False
def zU(h:Nat->Option Aq)(nx:Nat)(K:Ai):AV->Prop
 | .mp o=>Tx nx o K (h o)
 | .im d=>rgD nx K d
 |_=>False
def Tw(h:Nat->Option Aq)(nx:Nat)(x:AV)(K:Ai):TK->Prop
 | .map _ _=>zU h nx K x
 | .bool| .str| .ptr _| .int _| .array _ _| .struct _| .slice _| .other=>False
def xJ(h:Nat->Option Aq)(nx:Nat)(x:AV)(K:Ai)(ti:TI):Prop:=Tw h nx x K ti.kind
def tL(o:Nat)(left:List (D×D))(K:Ai)(i:Nat)(p:D×D):Prop:=
 K (.tup [.im (.bool true),.im p.1,.im p.2]) {use:=[o],kill:=[o],new:=[(o,(true,.iter (some p) (left.eraseIdx i)))]}
def SE(o:Nat)(K:Ai):Option Aq->Prop
 |some (true,.iter _ left)=>(left=[]->K (.tup [.im (.bool false)]) {use:=[o]})/\ ∀i p,left[i]? =some p->tL o left K i p
 |_=>False
def Vl(h:Nat->Option Aq)(K:Ai):AV->Prop
 | .it o=>SE o K (h o)
 |_=>False
def fH(h:Nat->Option Aq)(x:AV)(K:Ai):Bool->Prop
 |true=>Vl h K x
 |false=>False
def Rr(o:Nat)(K:Ai):Option Aq->Prop
 |some (true,.iter (some p) _)=>K (.im (.tup [p.1,p.2])) {use:=[o]}
 |_=>False
def xR(h:Nat->Option Aq)(K:Ai):AV->Prop
 | .it o=>Rr o K (h o)
 |_=>False
def UN(P:Program)(t:TypeId):Option TypeId:=match P.underlying t with
 |some (.chan _ e)=>some e
 |_=>none
def zP(nx:Nat)(n:Int)(K:Ai)(z:TI):Prop:=0<=n/\n<=1073741824/\z.bytes<=65536/\K (.ch nx) {new:=[(nx,(true,.chan [] n.toNat))],cnt:=1}
def mcV(P:Program)(nx:Nat)(K:Ai)(e:TypeId):AV->Prop
 | .im (.int .i64 n)=>Bc (zP nx n K) (tI P e)
 |_=>False
def zQ(P:Program)(nx:Nat)(x:AV)(K:Ai):Option TypeId->Prop
 |some e=>mcV P nx K e x
 |none=>False
def vB(P:Program)(nx:Nat)(x:AV)(K:Ai)(T:TypeId):Prop:=zQ P nx x K (UN P T)
def Z2(o:Nat)(K:Ai):Option Aq->Prop
 |some (_,.chan q _)=>Ft K {use:=[o]} q.length
 |_=>False
def Si(o:Nat)(h:Nat->Option Aq)(K:Ai):Option TypeId->Prop
 |some _=>Z2 o K (h o)
 |none=>False
def fT(o:Nat)(d:D)(K:Ai):Option Aq->Prop
 |some (true,.chan q cap)=>q.length<cap/\K .any {use:=[o],kill:=[o],new:=[(o,(true,.chan (q++[d]) cap))]}
 |_=>False
def Km(h:Nat->Option Aq)(c x:AV)(K:Ai):Prop:=
 match c,x with
 | .ch o,.im d=>fT o d K (h o)
 |_,_=>False
def fR(o:Nat)(K:Ai):Option Aq->Prop
 |some (true,.chan q cap)=>q≠[]/\ ∀d r,q=d::r->K (.im d) {use:=[o],kill:=[o],new:=[(o,(true,.chan r cap))]}
 |_=>False
def rvC(h:Nat->Option Aq)(K:Ai):AV->Prop
 | .ch o=>fR o K (h o)
 |_=>False
def rvE(h:Nat->Option Aq)(c:AV)(K:Ai)(z:TI):Prop:=z.zero.length=z.size/\z.size≠0/\rvC h K c
def zV(P:Program)(h:Nat->Option Aq)(c:AV)(K:Ai):Option TypeId->Prop
 |some e=>Bc (rvE h c K) (tI P e)
 |none=>False
def Kl(P:Program)(h:Nat->Option Aq)(T:TypeId)(c:AV)(K:Ai):Prop:=zV P h c K (UN P T)
def Ru(neg:Bool)(K:Ai)(E:Bk){α:Type}(rows:List α):Prop:= ∀b:Bool,(b=true->rows=[])->K (.im (.bool (neg !=b))) E
def Rv(o:Nat)(neg:Bool)(K:Ai):Option Aq->Prop
 |some (_,.arr _ _ rows)=>Ru neg K {use:=[o]} rows
 |some (_,.arrA _ _ rows)=>Ru neg K {use:=[o]} rows
 |_=>False
def MR(h:Nat->Option Aq)(neg:Bool)(K:Ai):AV->Prop
 | .im (.sl _ _ rows)=>Ru neg K {} rows
 | .own o=>Rv o neg K (h o)
 |_=>False
def HG:D->Bool
 | .sl z _ _=>z
 | .int _ _| .bool _| .str _| .nilp| .nilf| .nili| .nilc| .nilm| .agg _| .tup _| .ref _| .mp _ _| .fn _ _ _| .ifc _ _| .gp _| .tok _=>true
def EV:AV->Bool
 | .im d=>HG d
 | .own _=>false
 | .any| .agg _| .tup _| .ptr _ _| .eptr _ _ _| .mp _| .ch _| .it _| .osl _ _ _| .clo _ _ _=>true
def unS(z:Bool)(x:AV)(n:Nat):Bool:=z && (n==1 && !EV x)
def Qi(P:Program)(h:Nat->Option Aq)(T:TypeId)(op:BinOp)(x:AV)(K:Ai):TK->Prop
 | .slice _=>(match op with
   | .eql=>MR h false K x
   | .neq=>MR h true K x
   |_=>False)
 | .bool| .str| .ptr _| .int _| .array _ _| .struct _| .map _ _| .other=>False
def xN(P:Program)(h:Nat->Option Aq)(T:TypeId)(op:BinOp)(x:AV)(K:Ai)(ti:TI):Prop:=Qi P h T op x K ti.kind
def Kj(P:Program)(z:Bool)(T:TypeId)(h:Nat->Option Aq)(op:BinOp)(x y:AV)(K:Ai)(n:Nat):Prop:=
 if unS z x n=true then Bc (xN P h T op x K) (tI P T) else YU P T h op x y K n
def K4(P:Program)(z:Bool)(h:Nat->Option Aq)(T:TypeId)(K:Ai):AV->Prop
 | .ch o=>Si o h K (UN P T)
 | .im d=>Bc (cU z h (.im d) K) (tI P T)
 | .own o=>Bc (cU z h (.own o) K) (tI P T)
 | .osl o a n=>Bc (cU z h (.osl o a n) K) (tI P T)
 | .mp o=>Bc (cU z h (.mp o) K) (tI P T)
 | .any| .agg _| .tup _| .ptr _ _| .eptr _ _ _| .it _| .clo _ _ _=>False
def Y8(P:Program)(z:Bool)(h:Nat->Option Aq)(nx:Nat)(K:Ai):Builtin->List AV->List TypeId->Prop
 | .len,[x],[T]=>K4 P z h T K x
 | .append,[s,x],[T,U]=>Bc (vX P h nx s x T K) (tI P U)
 | .delete,[m,k],T::_=>Bc (wK P h K m k) (tI P T)
 | .copy,[d,s],[T,_]=>Bc (yJ P h d s K) (tI P T)
 | .clear,[d],[T]=>Bc (xD P h d K) (tI P T)
 | .max,[x,y],_=>M3 K x y
 |_,_,_=>False
def pH(P:Program)(V:CK)(z:Bool)(tm:List (Nat×AV))(h:Nat->Option Aq)(nx:Nat)(args:List AV)(ts:List TypeId)(K:Ai):Callee->Prop
 | .value f=>PR V args h nx K (Aw tm f)
 | .builtin b=>Y8 P z h nx K b args ts
 | .invoke r m=>M2 P V args h nx K m (Aw tm r)
def Xw(nx:Nat)(K:Ai):Option KT->Prop
 |some z=>K (.mp nx) {new:=[(nx,(true,.map z []))],cnt:=1}
 |none=>False
def Sv(P:Program)(nx:Nat)(K:Ai):TK->Prop
 | .map k _=>Xw nx K (Bp P k)
 | .bool| .str| .ptr _| .int _| .array _ _| .struct _| .slice _| .other=>False
def vT(P:Program)(nx:Nat)(K:Ai)(ti:TI):Prop:=Sv P nx K ti.kind
def Du(tm:List (Nat×AV)):List Operand->List AV
 |[]=>[]
 |x::r=>Aw tm x::Du tm r
def Jg(tm:List (Nat×AV)):List (Nat×Operand)->List (Nat×AV)
 |[]=>[]
 |(i,x)::r=>(i,Aw tm x)::Jg tm r
def xA(h:Nat->Option Aq)(x:AV)(K:Ai)(ti:TI):Prop:=Wn h ti K x
def uP(P:Program)(h:Nat->Option Aq)(x i:AV)(K:Ai)(ti:TI):Prop:=Qjp P h x ti K i
def wO(P:Program)(x i:AV)(K:Ai)(ti:TI):Prop:=Qxc P x ti K i
def QY(o:Nat)(T:TypeId)(cs:List AV):Option (List D)->Option (D×Ap)
 |some ds=>some (.ref ds,[(o,(false,.cells T cs))])
 |none=>none
def QX(o:Nat):Option Aq->Option (D×Ap)
 |some (_,.cells T z)=>QY o T z (D8 z)
 |some (_,.arr _ _ _)=>none
 |some (_,.arrA _ _ _)=>none
 |some (_,.map _ _)=>none
 |some (_,.chan _ _)=>none
 |some (_,.iter _ _)=>none
 |some (_,.view _)=>none
 |none=>none
def Ht(h:Nat->Option Aq):AV->Option (D×Ap)
 | .im d=>some (d,[])
 | .ptr o 0=>QX o (h o)
 | .ptr _ (_+1)=>none
 | .any=>none
 | .agg _=>none
 | .tup _=>none
 | .eptr _ _ _=>none
 | .own _=>none
 | .mp _=>none
 | .ch _=>none
 | .it _=>none
 | .osl _ _ _=>none
 | .clo _ _ _=>none
def QW:Option (D×Ap)->Option (List D×Ap)->Option (List D×Ap)
 |some (d,E),some (ds,F)=>some (d::ds,E++F)
 |some _,none=>none
 |none,_=>none
def NJ(h:Nat->Option Aq):List AV->Option (List D×Ap)
 |[]=>some ([],[])
 |x::r=>QW (Ht h x) (NJ h r)
def hnm:Ap->List Nat
 |[]=>[]
 |(n,_)::r=>n::hnm r
def yI(f:FuncId)(a b:List D)(first capt:List AV)(K:Ai):Ap->Prop
 |[]=>K (.im (.fn f a b)) {}
 |e::r=>K (.im (.fn f a b)) {use:=hnm (e::r),kill:=hnm (e::r),new:=e::r}\/K (.clo f first capt) {}
def MW(f:FuncId)(first capt:List AV)(K:Ai):Option (List D×Ap)->Option (List D×Ap)->Prop
 |some (a,E),some (b,F)=>yI f a b first capt K (E++F)
 |some _,none=>K (.clo f first capt) {}
 |none,_=>K (.clo f first capt) {}
def step(P:Program)(V:CK)(G:Bool)(tm:List (Nat×AV))(h:Nat->Option Aq)(nx:Nat)(T:TypeId)(K:Ai):Op->Prop
 | .move x=>K (Aw tm x) {}
 | .assign x=>wD P tm nx T K x
 | .pick c a b=>yL (Aw tm a) (Aw tm b) K (Aw tm c)
 | .alloc T=>Bc (xP nx T K) (tI P T)
 | .box T x=>Ue nx T K (Aw tm x).cells
 | .build T z=>Bc (xQ P (Jg tm z.toList) K) (tI P T)
 | .buildSlice T n z=>Bc (uO P nx n (Jg tm z.toList) K) (tI P T)
 | .load T x=>Bc (xA h (Aw tm x) K) (tI P T)
 | .store T x v=>Bc (wZ h (Aw tm x) (Aw tm v) K) (tI P T)
 | .nilCheck x=>gR h K (Aw tm x)
 | .binOp op T x y _=>Kj P G T h op (Aw tm x) (Aw tm y) K (EX y)
 | .unOp op _ x=>Yf K op (Aw tm x)
 | .convert S T x=>Vw P h (PJ (tI P T)) (Aw tm x) K (tI P S)
 | .makeFunc (.func f) first capt=>Nat.blt f 1000000000=true/\MW f (Du tm first.toList) (Du tm capt.toList) K (NJ h (Du tm first.toList)) (NJ h (Du tm capt.toList))
 | .makeMap T none=>Bc (vT P nx K) (tI P T)
 | .makeSlice T l c=>Bc (uZ P nx (Aw tm l) (Aw tm c) K) (tI P T)
 | .fieldAddr T x f=>Bc (uY h (Aw tm x) f K) (tI P T)
 | .indexAddr T x i=>Bc (uP P h (Aw tm x) (Aw tm i) K) (tI P T)
 | .index T x i=>Bc (wO P (Aw tm x) (Aw tm i) K) (tI P T)
 | .lookup T m k ok=>Bc (wN P h (Aw tm m) (Aw tm k) ok K) (tI P T)
 | .mapUpdate T m k v=>Bc (nW P h K (Aw tm m) (Aw tm k) (Aw tm v)) (tI P T)
 | .extract x i=>gQ i K (Aw tm x)
 | .call c=>pH P V G tm h nx (Du tm c.args.toList) c.argTypes.toList K c.callee
 | .slice T x lo O none=>Bc (xL P h nx (Aw tm x) (Dv tm lo) (Dv tm O) K) (tI P T)
 | .range T x=>Bc (xJ h nx (Aw tm x) K) (tI P T)
 | .next x false=>fH h (Aw tm x) K G
 | .entry x=>xR h K (Aw tm x)
 | .makeChan T x=>vB P nx (Aw tm x) K T
 | .makeInterface T x=>Uf P T K (Aw tm x)
 |_=>False
inductive Ex where
 |normal
 |exit (id:Nat)
 |ret
abbrev Cb:=Ex->Aj->Prop
def VT(t:Option Nat)(z:Bool)(s:Aj)(Kdo Kskip:Aj->Prop):AV->Prop
 | .im (.bool b)=>(b=z->Kdo (s.put t (.im (.bool z))))/\(b= !z->Kskip (s.put t (.im (.bool (!z)))))
 | .im (.tup [])=>Kskip s
 |_=>False
def Ac(n:Nat):Ap->Bool
 |[]=>true
 |(_,(_,.cells _ z))::r=>Av n z && Ac n r
 |(_,(_,.arrA _ _ rows))::r=>rows.all (Av n) && Ac n r
 |(_,(_,.arr _ _ _))::r=>Ac n r
 |(_,(_,.map _ _))::r=>Ac n r
 |(_,(_,.chan _ _))::r=>Ac n r
 |(_,(_,.iter _ _))::r=>Ac n r
 |(_,(_,.view _))::r=>Ac n r
def Jy(kill:List Nat)(nx cnt n:Nat):Bool:=(Nat.ble nx n && Nat.blt n (nx+cnt))||(kill.contains n && Nat.blt n nx)
def G1(kill:List Nat)(nx cnt:Nat):Ap->Bool
 |[]=>true
 |(n,_)::r=>Jy kill nx cnt n && G1 kill nx cnt r
def Bk.ok(E:Bk)(nx:Nat)(r:AV):Bool:=r.bel (nx+E.cnt) && (Ac (nx+E.cnt) E.new && G1 E.kill nx E.cnt E.new)
def Aj.app_nr(tm:List (Nat×AV))(h:Ap)(nx:Nat)(dst:Option Nat)(r:AV)(u k:List Nat)(nw:Ap)(c:Nat):Aj.app ⟨tm,h,nx⟩ dst r ⟨u,k,nw,c⟩=(⟨tm,nw++Bg h k,nx+c⟩:Aj).put dst r:=by
 cases dst<;>rfl
def Bk.ok_nr(u k:List Nat)(nw:Ap)(c nx:Nat)(r:AV):Bk.ok ⟨u,k,nw,c⟩ nx r=(r.bel (nx+c) && (Ac (nx+c) nw && G1 k nx c nw)):=by
 cases c<;>rfl
structure SOp where
 dst:Option Nat
 op:Op
 type:TypeId
 gd:Option (Option Nat×Bool)
def Wr(ops:Array Oper):Option (Nat×Bool)->Option (Option Nat×Bool)
 |none=>none
 |some (j,w)=>some ((ops[j]?).bind (·.dst),w)
def FJ(ops:Array Oper):List Oper->List SOp
 |[]=>[]
 |o::r=>⟨o.dst,o.op,o.type,Wr ops o.guard⟩::FJ ops r
def CR(z:Aj->Prop)(s:Aj)(dst:Option Nat)(r:AV)(E:Bk):Prop:=E.ok s.nx r=true/\z (s.app dst r E)
def DI(P:Program)(V:CK)(tm:List (Nat×AV))(h:Nat->Option Aq)(nx:Nat)(ty:TypeId)(K:Ai):Op->Prop
 | .send c x=>Km h (Aw tm c) (Aw tm x) K
 | .recv T c false=>Kl P h T (Aw tm c) K
 |op=>step P V true tm h nx ty K op
def IR(P:Program)(V:CK)(dst:Option Nat)(op:Op)(ty:TypeId)(z:Aj->Prop)(s:Aj):Prop:=
 DI P V s.tm (hget s.h) s.nx ty (CR z s dst) op
def Mx(dst:Option Nat)(z:Aj->Prop)(s:Aj):Prop:=z (s.put dst (.im (.tup [])))
def Xe(P:Program)(V:CK)(dst:Option Nat)(op:Op)(ty:TypeId)(z:Bool)(G:Aj->Prop)(s:Aj):Option Nat->Prop
 |some t=>VT (some t) z s (IR P V dst op ty G) (Mx dst G) (AD s.tm t)
 |none=>False
def tP(P:Program)(V:CK)(dst:Option Nat)(op:Op)(ty:TypeId)(G:Aj->Prop)(s:Aj):Option (Option Nat×Bool)->Prop
 |none=>IR P V dst op ty G s
 |some (t,z)=>Xe P V dst op ty z G s t
def Ki(P:Program)(V:CK):List SOp->(Aj->Prop)->Aj->Prop
 |[],K,s=>K s
 |⟨dst,op,ty,gd⟩::z,K,s=>tP P V dst op ty (Ki P V z K) s gd
structure Fp where
 i:Nat
 use:List Nat
 touch:List Nat
 nx:Nat
 cnt:Nat
def IW:Ap->List Nat
 |[]=>[]
 |(n,_)::r=>n::IW r
def IE:Ap->List Nat
 |[]=>[]
 |(_,(_,e))::r=>e.nms++IE r
def HI:List Nat->List Nat->Bool
 |[],_=>true
 |x::r,l=> !l.contains x && HI r l
def Fx(nx cnt:Nat):List Nat->Bool
 |[]=>true
 |x::r=>(Nat.blt x nx||Nat.ble (nx+cnt) x) && Fx nx cnt r
def HR:Ground->Bool
 | .data=>true
 | .chain=>true
 | .guard=>true
 | .phase=>true
 | .textOnly _=>false
 | .gcOnly _=>false
def D1:List (List Nat)->Nat->List Nat
 |[],_=>[]
 |x::_,0=>x
 |_::r,n+1=>D1 r n
def zN(x:Nat)(l:List Nat):List Nat:=bif l.contains x then l else x::l
def RO:List Nat->List Nat->List Nat
 |[],l=>l
 |x::r,l=>zN x (RO r l)
def G8(acc:List (List Nat)):List Edge->List Nat
 |[]=>[]
 |e::r=>bif HR e.ground then RO (e.on::D1 acc e.on) (G8 acc r) else G8 acc r
def E6:List Oper->List (List Nat)->List (List Nat)
 |[],acc=>acc
 |o::r,acc=>E6 r (acc++[G8 acc o.after.toList])
def DN(cl:List (List Nat))(i j:Nat):Bool:=(D1 cl j).contains i
def dX(cl:List (List Nat))(j:Nat)(use touch z:List Nat)(f:Fp):Bool:=
 bif HI (use++touch) f.touch && (HI touch f.use && Fx f.nx f.cnt z) then true else DN cl f.i j
def Gp(cl:List (List Nat))(j:Nat)(use touch z:List Nat):List Fp->Bool
 |[]=>true
 |f::r=>dX cl j use touch z f && Gp cl j use touch z r
def Bk.touch(E:Bk):List Nat:=E.kill++IW E.new
abbrev MN:=List Fp->Aj->Prop
def Hd(cl:List (List Nat))(i:Nat)(acc:List Fp)(z:MN)(s:Aj)(dst:Option Nat)(r:AV)(E:Bk):Prop:=
 E.ok s.nx r=true/\Gp cl i (E.use++E.kill) E.touch (E.touch++(r.nms++IE E.new)) acc=true/\z (⟨i,E.use++E.kill,E.touch,s.nx,E.cnt⟩::acc) (s.app dst r E)
def M4(P:Program)(V:CK)(cl:List (List Nat))(i:Nat)(acc:List Fp)(dst:Option Nat)(op:Op)(ty:TypeId)(z:MN)(s:Aj):Prop:=
 step P V false s.tm (hget s.h) s.nx ty (Hd cl i acc z s dst) op
def Mw(dst:Option Nat)(acc:List Fp)(z:MN)(s:Aj):Prop:=z acc (s.put dst (.im (.tup [])))
def Xd(P:Program)(V:CK)(cl:List (List Nat))(i:Nat)(acc:List Fp)(dst:Option Nat)(op:Op)(ty:TypeId)(z:Bool)(G:MN)(s:Aj):Option Nat->Prop
 |some t=>VT (some t) z s (M4 P V cl i acc dst op ty G) (Mw dst acc G) (AD s.tm t)
 |none=>False
def tO(P:Program)(V:CK)(cl:List (List Nat))(i:Nat)(acc:List Fp)(dst:Option Nat)(op:Op)(ty:TypeId)(G:MN)(s:Aj):Option (Option Nat×Bool)->Prop
 |none=>M4 P V cl i acc dst op ty G s
 |some (t,z)=>Xd P V cl i acc dst op ty z G s t
def Vc(P:Program)(V:CK)(cl:List (List Nat)):List SOp->Nat->(Aj->Prop)->MN
 |[],_,K,_,s=>K s
 |⟨dst,op,ty,gd⟩::z,i,K,acc,s=>tO P V cl i acc dst op ty (Vc P V cl z (i+1) K) s gd
def M7(K:Aj->Prop)(Q:Cb):Cb
 | .normal,s=>K s
 | .exit i,s=>Q (.exit i) s
 | .ret,s=>Q .ret s
def I2(i:Nat)(Q:Cb)(s:Aj):Bool->Prop
 |true=>Q .normal s
 |false=>Q (.exit i) s
def iP(id:Nat)(Q:Cb):Cb
 | .normal,s=>Q .normal s
 | .exit i,s=>I2 i Q s (i==id)
 | .ret,s=>Q .ret s
def qQ(A B:Cb->Aj->Prop)(Q:Cb)(s:Aj):AV->Prop
 | .im (.bool b)=>(b=true->A Q s)/\(b=false->B Q s)
 |_=>False
def FX(s:Aj):List (Nat×AV)->Prop
 |[]=>True
 |(t,x)::r=>AD s.tm t=x/\FX s r
def BU(s:Aj):Ap->Prop
 |[]=>True
 |(o,e)::r=>hget s.h o=some e/\BU s r
def sub(s s':Aj):Prop:=FX s s'.tm/\BU s s'.h
def An(n:Nat):List (Nat×AV)->Bool
 |[]=>true
 |(_,x)::r=>x.bel n && An n r
def A9(n:Nat):Ap->Bool
 |[]=>true
 |(m,_)::r=>Nat.blt m n && A9 n r
def Aj.good(s:Aj):Bool:=An s.nx s.tm && (Ac s.nx s.h && A9 s.nx s.h)
def pm:List (Nat×Option Nat)->Nat->Option Nat
 |[],n=>some n
 |(a,b)::r,n=>if a=n then b else pm r n
def eX:AV->Prop
 | .im (.sl true _ [])=>True
 |_=>False
def Fy(x:AV):Option Nat->Prop
 |some m=>x= .own m
 |none=>eX x
def Gz(f:Nat->AV)(x:AV):Option Nat->Prop
 |some m=>x=f m
 |none=>False
mutual
def mt(π:List (Nat×Option Nat)):AV->AV->Prop
 | .any,_=>True
 | .im d,x=>x= .im d
 | .own n,x=>Fy x (pm π n)
 | .ptr n p,x=>Gz (λm=> .ptr m p) x (pm π n)
 | .eptr n i p,x=>Gz (λm=> .eptr m i p) x (pm π n)
 | .mp n,x=>Gz .mp x (pm π n)
 | .ch n,x=>Gz .ch x (pm π n)
 | .it n,x=>Gz .it x (pm π n)
 | .osl n a k,x=>Gz (λm=> .osl m a k) x (pm π n)
 | .agg z,.agg ds=>Dz π z ds
 | .agg z,.im (.agg ds)=>Dz π z (ds.map .im)
 | .agg _,_=>False
 | .tup _,_=>False
 | .clo _ _ _,_=>False
def Dz(π:List (Nat×Option Nat)):List AV->List AV->Prop
 |[],[]=>True
 |x::r,y::s=>mt π x y/\Dz π r s
 |[],_::_=>False
 |_::_,[]=>False
end
def Gk(π:List (Nat×Option Nat)):List (List AV)->List (List AV)->Prop
 |[],[]=>True
 |x::r,y::s=>Dz π x y/\Gk π r s
 |[],_::_=>False
 |_::_,[]=>False
def Ez(π:List (Nat×Option Nat)):Ad->Ad->Prop
 | .cells T G,.cells U ds=>T=U/\Dz π G ds
 | .cells _ _,_=>False
 | .arr T k rows,e=>e= .arr T k rows
 | .arrA T k rows,.arrA U k' z=>T=U/\k=k'/\Gk π rows z
 | .arrA T k rows,.arr U k' z=>T=U/\k=k'/\Gk π rows (Bl z)
 | .arrA _ _ _,.cells _ _=>False
 | .arrA _ _ _,.map _ _=>False
 | .arrA _ _ _,.chan _ _=>False
 | .arrA _ _ _,.iter _ _=>False
 | .arrA _ _ _,.view _=>False
 | .map Q O,e=>e= .map Q O
 | .chan q c,e=>e= .chan q c
 | .iter a l,e=>e= .iter a l
 | .view G,e=>e= .view G
def JL(π:List (Nat×Option Nat))(G:Bool)(e':Ad):Option Aq->Prop
 |some (z,e)=>z=G/\Ez π e' e
 |none=>False
def S8:Bool->Ad->Prop
 |true,.arr _ _ []=>True
 |true,.arrA _ _ []=>True
 |_,_=>False
def Ea(s:Aj)(π:List (Nat×Option Nat))(z:Bool)(e':Ad):Option Nat->Prop
 |some m=>JL π z e' (hget s.h m)
 |none=>S8 z e'
def P4(π:List (Nat×Option Nat))(s:Aj):List (Nat×AV)->Prop
 |[]=>True
 |(t,x)::r=>mt π x (AD s.tm t)/\P4 π s r
def G0(π:List (Nat×Option Nat))(s:Aj):Ap->Prop
 |[]=>True
 |(n,(z,e))::r=>Ea s π z e (pm π n)/\G0 π s r
def UW(lo:Nat):List (Nat×Option Nat)->Prop
 |[]=>True
 |(a,_)::r=>lo<=a/\UW lo r
def NY(π:List (Nat×Option Nat)):Ap->List (Option Nat)
 |[]=>[]
 |(n,_)::r=>pm π n::NY π r
def ED:List (Option Nat)->Bool
 |[]=>true
 |none::r=>ED r
 |some m::r=> !r.contains (some m) && ED r
def A8(lo:Nat)(π:List (Nat×Option Nat))(s s':Aj):Prop:=UW lo π/\ED (NY π s'.h)=true/\P4 π s s'.tm/\G0 π s s'.h
def LI{β:Type}(I:β->Aj)(μ:β->Nat)(b:β)(Q:Cb):Cb
 | .normal,s=> ∃b',μ b'<μ b/\sub s (I b')
 | .exit i,s=>Q (.exit i) s
 | .ret,s=>Q .ret s
def LH{β:Type}(lo:Nat)(I:β->Aj)(μ:β->Nat)(b:β)(Q:Cb):Cb
 | .normal,s=> ∃b' π,μ b'<μ b/\A8 lo π s (I b')
 | .exit i,s=>Q (.exit i) s
 | .ret,s=>Q .ret s
def YI(body:Cb->Aj->Prop)(Q:Cb)(s:Aj):Prop:=
 ∃(β:Type) (I:β->Aj) (μ:β->Nat),(∀b,(I b).good=true/\s.nx<=(I b).nx)/\(∃b,sub s (I b))/\ ∀b,body (LI I μ b Q) (I b)
def xK(body:Cb->Aj->Prop)(Q:Cb)(s:Aj):Prop:=
 ∃(β:Type) (I:β->Aj) (μ:β->Nat),(∀b,(I b).good=true/\s.nx<=(I b).nx)/\(∃b π,A8 s.nx π s (I b))/\ ∀b,body (LH s.nx I μ b Q) (I b)
def Hu(F:List Nat):Ap->Ap
 |[]=>[]
 |(n,(z,e))::r=>(n,(z && !F.contains n,e))::Hu F r
def R3(F:List Nat)(s:Aj):Aj:=⟨s.tm,Hu F s.h,s.nx⟩
def Vh(body:Cb->Aj->Prop)(Q:Cb)(s:Aj):Prop:= ∃F:List Nat,YI body Q (R3 F s)
def GC(n:Nat):Ad->AV
 | .arr _ w rows=> .im (.sl false w rows)
 | .cells _ _=> .own n
 | .arrA _ _ _=> .own n
 | .map _ _=> .own n
 | .chan _ _=> .own n
 | .iter _ _=> .own n
 | .view _=> .own n
def Kc(n:Nat):Option Aq->AV
 |some e=>GC n e.2
 |none=> .own n
mutual
def AV.fzA(F:List Nat)(H:Ap):AV->AV
 | .own n=>bif F.contains n then Kc n (hget H n) else .own n
 | .agg z=> .agg (Dw F H z)
 | .any=> .any
 | .im d=> .im d
 | .tup z=> .tup z
 | .ptr o p=> .ptr o p
 | .eptr o i p=> .eptr o i p
 | .mp o=> .mp o
 | .ch o=> .ch o
 | .it o=> .it o
 | .osl o a n=> .osl o a n
 | .clo f a c=> .clo f a c
def Dw(F:List Nat)(H:Ap):List AV->List AV
 |[]=>[]
 |x::r=>x.fzA F H::Dw F H r
end
def Dx(F:List Nat)(H:Ap):List (List AV)->List (List AV)
 |[]=>[]
 |x::r=>Dw F H x::Dx F H r
def Ad.fzA(F:List Nat)(H:Ap):Ad->Ad
 | .cells T z=> .cells T (Dw F H z)
 | .arrA T k rows=> .arrA T k (Dx F H rows)
 | .arr T k rows=> .arr T k rows
 | .map O G=> .map O G
 | .chan q c=> .chan q c
 | .iter a l=> .iter a l
 | .view z=> .view z
def Hw(F:List Nat)(H:Ap):List (Nat×AV)->List (Nat×AV)
 |[]=>[]
 |(t,x)::r=>(t,x.fzA F H)::Hw F H r
def Hv(F:List Nat)(H:Ap):Ap->Ap
 |[]=>[]
 |(n,(z,e))::r=>(n,(z && !F.contains n,e.fzA F H))::Hv F H r
def R6(F:List Nat)(s:Aj):Aj:=⟨Hw F s.h s.tm,Hv F s.h s.h,s.nx⟩
def LG{β:Type}(lo:Nat)(I:β->Aj)(μ:β->Nat)(b:β)(Q:Cb):Cb
 | .normal,s=> ∃b' F π,μ b'<μ b/\A8 lo π (R6 F s) (I b')
 | .exit i,s=>Q (.exit i) s
 | .ret,s=>Q .ret s
def xI(body:Cb->Aj->Prop)(Q:Cb)(s:Aj):Prop:=
 ∃(β:Type) (I:β->Aj) (μ:β->Nat),(∀b,(I b).good=true/\s.nx<=(I b).nx)/\(∃b F π,A8 s.nx π (R6 F s) (I b))/\ ∀b,body (LG s.nx I μ b Q) (I b)
def AR(body:Cb->Aj->Prop)(Q:Cb)(s:Aj):Prop:=YI body Q s\/xK body Q s\/Vh body Q s\/xI body Q s
def AR.frr{body:Cb->Aj->Prop}{Q:Cb}{s:Aj}(h:xI body Q s):AR body Q s:=Or.inr (Or.inr (Or.inr h))
def AR.old{body:Cb->Aj->Prop}{Q:Cb}{s:Aj}(h:YI body Q s):AR body Q s:=Or.inl h
def AR.ren{body:Cb->Aj->Prop}{Q:Cb}{s:Aj}(h:xK body Q s):AR body Q s:=Or.inr (Or.inl h)
def AR.frz{body:Cb->Aj->Prop}{Q:Cb}{s:Aj}(F:List Nat)(h:YI body Q (R3 F s)):AR body Q s:=Or.inr (Or.inr (Or.inl ⟨F,h⟩))
def CM(P:Program)(V:CK):Code->Cb->Aj->Prop
 | .skip,Q,s=>Q .normal s
 | .region _ ops false,Q,s=>Ki P V (FJ ops ops.toList) (Q .normal) s
 | .region _ ops true,Q,s=>Vc P V (E6 ops.toList []) (FJ ops ops.toList) 0 (Q .normal) [] s
 | .seq a b,Q,s=>CM P V a (M7 (CM P V b Q) Q) s
 | .cond c a b,Q,s=>qQ (CM P V a) (CM P V b) Q s (Aw s.tm c)
 | .block id c,Q,s=>CM P V c (iP id Q) s
 | .loop c,Q,s=>AR (CM P V c) Q s
 | .exit id,Q,s=>Q (.exit id) s
 | .ret,Q,s=>Q .ret s
 |_,_,_=>False
end Go.Ae
