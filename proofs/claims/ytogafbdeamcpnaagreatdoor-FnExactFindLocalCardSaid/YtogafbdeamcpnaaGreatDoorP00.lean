/- Lemmas. Conditions: none. -/
import Derived.Orders
import Derived.Below
import Derived.Laws.Sem
set_option linter.all false
set_option maxHeartbeats 8000000
set_option maxRecDepth 100000
namespace Go
def Al:=@Option.some.inj
def An:=@Option.some.injEq
def Ao:=@Option.getD_some
def Ax:=@List.mem_of_getElem?
def A8:=@List.getElem?_eq_getElem
def Av:=@Bool.and_eq_true
def Ab:=@if_neg
def AC:=@Option.some_beq_some
def Ba:=@List.getElem?_eq_some_iff
def Af:=@if_pos
def Ar:=@Nat.le_refl
def AH:=@Int.toNat_natCast
def AX:=@List.mem_cons_of_mem
def Ay:=@List.map_cons
def AO:=@List.mem_singleton
def AU:=@List.mem_cons_self
def AG:=@List.mem_append
def AP:=@decide_eq_true_eq
def A9:=@List.mem_cons
def AJ:=@List.mem_range
def B9:=@List.drop_eq_nil_of_le
def BA:=@List.getElem?_set_self
def Bb:=@List.length_take
def BF:=@Option.map_eq_some_iff
def AF:=@List.mem_map
def BX:=@List.take_of_length_le
def Ci:=@List.getElem?_append_left
def Cb:=@Option.bind_eq_some_iff
def B8:=@List.getD_cons_zero
def BM:=@List.getElem?_set_ne
def B1:=@Bool.false_eq_true
def Bn:=@List.length_drop
def B5:=@List.length_append
def C8:=@List.getElem?_append_right
def Bs:=@List.length_cons
def Bv:=@List.cons_append
def BI:=@List.getElem?_map
def Bw:=@Option.map_some
def BE:=@List.all_eq_true
def AM:=@cond_false
def BJ:=@List.append_nil
def Cm:=@Array.length_toList
def Cn:=@List.getD_cons_succ
def DO:=@Array.getD_eq_getD_getElem?
def CH:=@List.getElem?_eq_none
def De:=@List.getElem?_cons_zero
def Bj:=@Nat.zero_le
def Ce:=@Option.bind_some
def DP:=@List.getElem?_cons_succ
def Dx:=@Array.getElem?_toList
def EA:=@Array.getElem?_eq_getElem
def BK:=@Nat.le_trans
def BY:=@Bool.true_and
def Bc:=@cond_true
def CY:=@Nat.lt_of_lt_of_le
def DQ:=@List.contains_iff_mem
def CN:=@Bool.not_eq_false
def Cr:=@List.length_set
def Cj:=@List.drop_drop
def DR:=@Nat.mul_le_mul_right
def Cf:=@Prod.mk.injEq
def Df:=@Classical.not_not
def Dg:=@List.flatMap_cons
def EZ:=@decide_eq_false_iff_not
def Ee:=@List.getElem?_range
def Ef:=@beq_eq_false_iff_ne
def CA:=@Bool.false_and
def Dh:=@List.take_length
def DA:=@List.append_assoc
def Fu:=@List.getElem?_replicate
def Gf:=@List.eq_of_mem_replicate
def Eg:=@List.getElem?_drop
def Fa:=@List.mem_iff_getElem?
def AQ:=@if_true
def Di:=@List.map_append
def CB:=@Bool.and_true
def Fb:=@List.mem_append_left
def Hi:=@Array.getElem?_eq_some_iff
def Dy:=@Bool.or_eq_true
def Dz:=@List.length_map
def D0:=@List.length_nil
def D1:=@List.nil_append
def Ec:=@List.take_add_one
def Cz:=@Nat.lt_or_ge
def Gy:=@List.length_eq_zero_iff
def Bp:=@if_false
def Gb:=@List.length_replicate
def Gc:=@List.take_append_drop
def Bx:=@congrArg
def Ft:=@List.take_succ_cons
def H6:=@List.drop_eq_getElem_cons
def D9:=@List.drop_zero
def Ch:=@Nat.blt_eq
def Ed:=@List.nodup_cons
def CM:=@Nat.zero_add
def EX:=@Bool.not_eq_true'
def EY:=@List.ext_getElem?
def Gd:=@List.map_congr_left
def C9:=@Nat.add_mul
def Hh:=@List.mem_append_right
def IQ:=@List.mem_or_eq_of_mem_set
def Gz:=@List.drop_succ_cons
def D2:=@List.map_nil
def D3:=@Nat.sub_self
def Fw:=@Bool.not_eq_true
def Gg:=@List.size_toArray
def Lx:=@Array.getElem?_setIfInBounds
def IT:=@Array.getElem?_eq_none
def G2:=@Bool.eq_false_iff
def Ly:=@Int.tmod_eq_emod_of_nonneg
def Lz:=@Classical.byContradiction
def IU:=@Option.some_beq_none
def H7:=@List.pairwise_cons
def L0:=@Array.getElem?_replicate
def Hk:=@List.getElem_mem
def Fx:=@List.all_cons
def H9:=@List.nodup_append
def Fy:=@List.sum_cons
def DC:=@Nat.ble_eq
def Ew:=@Nat.one_mul
def L2:=@List.zipWith_cons_cons
def Hl:=@List.find?_some
def M2:=@List.mem_of_find?_eq_some
def HA:=@Array.toList_map
def HB:=@List.drop_append
def P4:=@List.eq_nil_of_length_eq_zero
def Fz:=@List.map_set
def Hm:=@List.take_zero
def HC:=@Bool.eq_iff_iff
def G3:=@Bool.or_false
def J2:=@List.contains_cons
def Mv:=@List.filter_cons_of_neg
def J3:=@List.find?_eq_none
def J4:=@List.getElem?_take
def J5:=@List.set_cons_zero
def G0:=@Nat.add_assoc
def J6:=@Option.isSome_none
def Lv:=@List.mem_iff_getElem
def Co:=@Ne.symm
def Mw:=@Classical.epsilon_spec
def Fv:=@Int.le_refl
def J7:=@List.contains_nil
def Lw:=@List.length_pos_iff
def J8:=@List.length_range
def IR:=@List.mem_filter
def Mx:=@List.set_append_right
def G1:=@Nat.add_zero
def My:=@Nat.le_of_ble_eq_true
def J9:=@Array.toList_inj
def P2:=@List.eraseIdx_cons_succ
def P3:=@Nat.add_sub_cancel_left
def DB:=@and_self
def IS:=@Bool.not_false
def Hj:=@List.map_map
def Mz:=@List.filter_eq_self
def M1:=@List.length_reverse
def JB:=@decide_eq_false
def Gh:=@Array.ext'
def L7:=@Nat.min_le_right
def P9:=@Array.getElem?_append
def PA:=@Bool.and_eq_false_iff
def M6:=@List.set_cons_succ
def M7:=@Nat.eq_zero_or_pos
def R1:=@List.pairwise_iff_getElem
def L8:=@List.cons.injEq
def L9:=@List.foldl_cons
def G4:=@beq_iff_eq
def F1:=@forall_eq
def JC:=@Bool.false_or
def PB:=@List.mem_map_of_mem
def UZ:=@List.drop_append_of_le_length
def M8:=@List.not_mem_nil
def LA:=@Bool.and_false
def LB:=@List.Perm.refl
def LC:=@Option.none_or
def R2:=@List.length_eq_one_iff
def PC:=@Array.extract_size
def PD:=@List.filter_append
def PE:=@Option.toList_some
def R3:=@List.getElem?_toArray
def R4:=@List.length_filter_le
def R5:=@List.length_singleton
def M3:=@List.range_succ
def M4:=@Nat.not_lt_zero
def JA:=@Nat.sub_zero
def L3:=@Bool.and_self
def L4:=@List.take_add
def P5:=@Nat.lt_trichotomy
def UQ:=@Array.getElem?_append_left
def UR:=@Array.toList_setIfInBounds
def US:=@List.nodup_iff_pairwise_ne
def Rw:=@List.mem_of_mem_take
def UT:=@List.isEmpty_eq_false_iff
def P6:=@beq_self_eq_true
def Rx:=@List.flatMap_append
def UU:=@Array.size_setIfInBounds
def L5:=@Bool.true_or
def UV:=@List.getElem?_take_of_lt
def L6:=@Nat.zero_mul
def M5:=@Bool.not_true
def Ry:=@Int.tmod_lt_of_pos
def P7:=@List.all_append
def UW:=@List.filter_cons_of_pos
def UX:=@List.zipWith_nil_right
def Rz:=@Array.toList_push
def R0:=@not_false_eq_true
def P8:=@decide_eq_true
def UY:=@Array.getElem?_modify
def Yd:=@Int.mul_le_mul_of_nonneg_right
def RD:=@List.any_eq_true
def RE:=@List.filter_cons
def RF:=@forall_eq_or_imp
def Vj:=@List.length_eraseIdx
def Vk:=@List.range_eq_range'
def Ye:=@Array.getElem?_append_right
def Vl:=@Array.toList_append
def Vm:=@Array.toList_modify
def RG:=@Int.tmod_nonneg
def Vn:=@Int.toNat_of_nonneg
def RH:=@List.find?_cons
def Vo:=@List.replicate_succ
def Vp:=@List.toList_toArray
def Yf:=@Int.fdiv_eq_ediv_of_nonneg
def Yg:=@Int.tdiv_eq_ediv_of_nonneg
def Yh:=@List.exists_cons_of_ne_nil
def Yi:=@List.perm_append_singleton
def Yj:=@List.perm_ext_iff_of_nodup
def Vq:=@Array.ext_getElem?
def Vr:=@Array.toList_range
def Vs:=@List.getElem_range
def PF:=@List.set_set
def PG:=@Nat.add_comm
def Yk:=@Array.mapM_eq_mapM_toList
def RI:=@Bool.and_assoc
def R6:=@List.foldl_nil
def XU:=@List.getElem?_eq_none_iff
def R7:=@List.take_left
def Va:=@Decidable.not_not
def Vb:=@List.Pairwise.imp
def XV:=@List.Perm.eq_of_pairwise
def XW:=@Option.isSome_iff_exists
def XX:=@List.eraseIdx_cons_zero
def Vc:=@Bool.cond_eq_ite
def Vd:=@List.flatMap_nil
def Ve:=@List.mem_flatMap
def XY:=@Array.getElem?_mapIdx
def XZ:=@Array.mem_of_getElem?
def R8:=@Bool.or_true
def Ya:=@List.Perm.append_left
def Yb:=@List.eraseIdx_sublist
def Vf:=@List.filter_nil
def Yc:=@List.getElem?_reverse
def Vg:=@List.head?_cons
def Vh:=@List.range_zero
def R9:=@List.sum_nil
def RA:=@Nat.le_of_eq
def Vi:=@Nat.min_eq_left
def RB:=@Nat.succ_mul
def M9:=@and_assoc
def RC:=@decide_false
def LD:=@or_false
def Yl:=@Array.toList_extract
def Ym:=@List.mem_of_mem_drop
def Vt:=@List.drop_take
def Vu:=@Option.some_or
def JD:=@eq_true
def Vv:=@List.drop_nil
def Vw:=@List.take_nil
def Vx:=@Nat.lt_irrefl
def Vy:=@Int.add_zero
def PH:=@ite_self
def PI:=@true_and
def JE:=@not_or
end Go
namespace Go.Ae
def isG(g:Nat):Bool:=g==0||g==1
def GE(ok:Nat->Prop)(hp:Nat->Option Obj)(g:Nat)(a:Addr):Prop:=
 ok g/\(∃T z,hp g=some (.cells #[.iface 392 (.pointer (some a))] T z))/\ok a.block/\ ∃c T,hp a.block=some (.cells c T (0,0))
def GP(ok:Nat->Prop)(hp:Nat->Option Obj):Prop:=
 ∃a:Nat->Addr,(∀g,isG g=true->GE ok hp g (a g))/\ ∀g g',isG g=true->isG g'=true->g≠g'->a g≠a g'
def GP.mono{ok ok':Nat->Prop}{hp hp':Nat->Option Obj}(h: ∀b o,ok b->hp b=some o->ok' b/\hp' b=some o)(hg:GP ok hp):GP ok' hp':=by
 obtain⟨a,Z,h2⟩:=hg;refine⟨a,λg z=> ?_,h2⟩;obtain⟨k1,⟨T,Q,k2⟩,G,c,U,O⟩:=Z g z;exact⟨(h g _ k1 k2).1,⟨T,Q,(h g _ k1 k2).2⟩,(h _ _ G O).1,c,U,(h _ _ G O).2⟩
def GP.at{ok:Nat->Prop}{hp:Nat->Option Obj}(h:GP ok hp){g:Nat}(O:isG g=true):ok g/\ ∃t x T z,hp g=some (.cells #[.iface t x] T z):=by
 obtain⟨a,G,_⟩:=h;obtain⟨k1,⟨T,z,k2⟩,_⟩:=G g O;exact⟨k1,_,_,T,z,k2⟩
end Go.Ae
namespace Go.Ae
inductive KK where
 |int (k:IntKind)
 |str
 |bool
 deriving DecidableEq
structure KT where
 agg:Bool
 ks:List KK
 deriving DecidableEq
inductive D where
 |int (k:IntKind) (n:Int)
 |bool (b:Bool)
 |str (s:ByteArray)
 |nilp|nilf|nili|nilc|nilm
 |agg (cs:List D)
 |tup (cs:List D)
 |sl (nz:Bool) (k:Nat) (rows:List (List D))
 |ref (cs:List D)
 |mp (kt:KT) (es:List (D×D))
 |fn (f:FuncId) (first capt:List D)
 |ifc (t:TypeId) (d:D)
 |gp (g:Nat)
 |tok (g:Nat)
def KK.fit:KK->D->Bool
 | .int k,.int k' _=>k==k'
 | .str,.str _=>true
 | .bool,.bool _=>true
 |_,_=>false
def fitL:List KK->List D->Bool
 |[],[]=>true
 |k::ks,d::ds=>k.fit d && fitL ks ds
 |_,_=>false
def KT.fit(z:KT)(d:D):Bool:=
 match z.agg,d with
 |true,.agg ds=>fitL z.ks ds
 |false,d=>fitL z.ks [d]
 |_,_=>false
def LIM:Nat:=140737488355328
def fnV(f:Nat):Fn:=if f<1000000000 then .func f else .yield (f - 1000000000)
def II{f:Nat}(h:f<1000000000):fnV f= .func f:=Af h
def slM(nz:Bool)(v:Value):Prop:=v= .slice none 0 0\/(nz=false/\ ∃a,v= .slice (some a) 0 0)
def OW{nz:Bool}{v:Value}(h:slM nz v): ∃z,v= .slice z 0 0:=by
 rcases h with rfl|⟨_,a,rfl⟩<;>exact⟨_,rfl⟩
def QL{v:Value}(h:slM true v):v= .slice none 0 0:=by
 rcases h with rfl|⟨h,_⟩
 .rfl
 .cases h
def slM_false{nz:Bool}{v:Value}(h:slM nz v):slM false v:=by
 rcases h with rfl|⟨_,a,rfl⟩
 .exact .inl rfl
 .exact .inr ⟨rfl,a,rfl⟩
mutual
def rd(ok:Nat->Prop)(hp:Nat->Option Obj):D->Value->Prop
 | .int k n,v=>v= .int k n
 | .bool b,v=>v= .bool b
 | .str s,v=>v= .string s
 | .nilp,v=>v= .pointer none
 | .nilf,v=>v= .nilFunc
 | .nili,v=>v= .nilIface
 | .nilc,v=>v= .chan none
 | .nilm,v=>v= .map none
 | .agg Q,v=> ∃O:Array Value,v= .agg O/\rdl ok hp Q O.toList
 | .tup Q,v=> ∃O:Array Value,v= .tuple O/\rdl ok hp Q O.toList
 | .sl nz k rows,v=>(slM nz v/\rows=[])\/
  ∃b p cap O T Z,v= .slice (some ⟨b,p,none⟩) rows.length cap/\(nz=true->rows≠[])/\rows.length<=cap/\rows.length<=LIM/\ok b/\
   hp b=some (.cells O T Z)/\rdr ok hp k rows (O.toList.drop p)
 | .ref Q,v=> ∃b p O T Z,v= .pointer (some ⟨b,p,none⟩)/\ok b/\hp b=some (.cells O T Z)/\rdp ok hp Q (O.toList.drop p)
 | .mp kt es,v=> ∃b z G,v= .map (some b)/\(∀e∈es,kt.fit e.1=true)/\ok b/\hp b=some (.map z G)/\rde ok hp es z.toList/\(z.toList.map (·.born)).Nodup/\ ∀e∈z.toList,e.born<G
 | .fn f first capt,v=> ∃a c:Array Value,v= .func (fnV f) a c/\rdl ok hp first a.toList/\rdl ok hp capt c.toList
 | .ifc t d,v=> ∃x,v= .iface t x/\rd ok hp d x
 | .gp g,v=>v= .pointer (some ⟨g,0,none⟩)
 | .tok g,v=>ok g/\(∃t x,v= .iface t x)/\ ∃T Z,hp g=some (.cells #[v] T Z)
def rdl(ok:Nat->Prop)(hp:Nat->Option Obj):List D->List Value->Prop
 |[],z=>z=[]
 |d::ds,z=> ∃v r,z=v::r/\rd ok hp d v/\rdl ok hp ds r
def rdp(ok:Nat->Prop)(hp:Nat->Option Obj):List D->List Value->Prop
 |[],_=>True
 |d::ds,z=> ∃v r,z=v::r/\rd ok hp d v/\rdp ok hp ds r
def rdr(ok:Nat->Prop)(hp:Nat->Option Obj)(k:Nat):List (List D)->List Value->Prop
 |[],_=>True
 |r::G,z=>r.length=k/\rdp ok hp r z/\rdr ok hp k G (z.drop k)
def rde(ok:Nat->Prop)(hp:Nat->Option Obj):List (D×D)->List MapEntry->Prop
 |[],z=>z=[]
 |(x,y)::ds,z=> ∃e r,z=e::r/\rd ok hp x e.key/\rd ok hp y e.val/\rde ok hp ds r
end
section mono
variable {ok ok':Nat->Prop}{hp hp':Nat->Option Obj}
mutual
def Dp(h: ∀b,ok b->ok' b/\hp' b=hp b): ∀(d:D) (v:Value),rd ok hp d v->rd ok' hp' d v
 | .int _ _,_,hd=>by simpa only[rd] using hd
 | .bool _,_,hd=>by simpa only[rd] using hd
 | .str _,_,hd=>by simpa only[rd] using hd
 | .nilp,_,hd=>by simpa only[rd] using hd
 | .nilf,_,hd=>by simpa only[rd] using hd
 | .nili,_,hd=>by simpa only[rd] using hd
 | .nilc,_,hd=>by simpa only[rd] using hd
 | .nilm,_,hd=>by simpa only[rd] using hd
 | .gp _,_,hd=>by simpa only[rd] using hd
 | .tok g,v,hd=>by
   simp only[rd] at hd⊢;obtain⟨z,h3,T,fr,h2⟩:=hd;exact⟨(h g z).1,h3,T,fr,(h g z).2.trans h2⟩
 | .agg Z,v,hd=>by
   simp only[rd] at hd⊢;obtain⟨Q,rfl,z⟩:=hd;exact⟨Q,rfl,Ff h Z _ z⟩
 | .tup Z,v,hd=>by
   simp only[rd] at hd⊢;obtain⟨Q,rfl,z⟩:=hd;exact⟨Q,rfl,Ff h Z _ z⟩
 | .sl nz k rows,v,hd=>by
   simp only[rd] at hd⊢;rcases hd with hd|⟨b,p,cap,Q,T,fr,rfl,z,h2,h3,G,h5,h6⟩
   .exact .inl hd
   .exact .inr ⟨b,p,cap,Q,T,fr,rfl,z,h2,h3,(h b G).1,(h b G).2.trans h5,Jh h k rows _ h6⟩
 | .ref Z,v,hd=>by
   simp only[rd] at hd⊢;obtain⟨b,p,Q,T,fr,rfl,G,h5,h6⟩:=hd;exact⟨b,p,Q,T,fr,rfl,(h b G).1,(h b G).2.trans h5,Jg h Z _ h6⟩
 | .mp kt es,v,hd=>by
   simp only[rd] at hd⊢;obtain⟨b,aa,O,rfl,h3,G,h5,h6,h7⟩:=hd;exact⟨b,aa,O,rfl,h3,(h b G).1,(h b G).2.trans h5,Fe h es _ h6,h7⟩
 | .fn f first capt,v,hd=>by
   simp only[rd] at hd⊢;obtain⟨a,c,rfl,z,h2⟩:=hd;exact⟨a,c,rfl,Ff h first _ z,Ff h capt _ h2⟩
 | .ifc t d,v,hd=>by
   simp only[rd] at hd⊢;obtain⟨x,rfl,z⟩:=hd;exact⟨x,rfl,Dp h d _ z⟩
def Ff(h: ∀b,ok b->ok' b/\hp' b=hp b): ∀(ds:List D) (vs:List Value),rdl ok hp ds vs->rdl ok' hp' ds vs
 |[],_,hd=>by simpa only[rdl] using hd
 |d::ds,vs,hd=>by
  simp only[rdl] at hd⊢;obtain⟨v,r,rfl,z,G⟩:=hd;exact⟨v,r,rfl,Dp h d v z,Ff h ds r G⟩
def Jg(h: ∀b,ok b->ok' b/\hp' b=hp b): ∀(ds:List D) (vs:List Value),rdp ok hp ds vs->rdp ok' hp' ds vs
 |[],_,_=>by simp only[rdp]
 |d::ds,vs,hd=>by
  simp only[rdp] at hd⊢;obtain⟨v,r,rfl,z,G⟩:=hd;exact⟨v,r,rfl,Dp h d v z,Jg h ds r G⟩
def Jh(h: ∀b,ok b->ok' b/\hp' b=hp b)(k:Nat): ∀(z:List (List D)) (vs:List Value),rdr ok hp k z vs->rdr ok' hp' k z vs
 |[],_,_=>by simp only[rdr]
 |r::z,vs,hd=>by
  simp only[rdr] at hd⊢;exact⟨hd.1,Jg h r vs hd.2.1,Jh h k z _ hd.2.2⟩
def Fe(h: ∀b,ok b->ok' b/\hp' b=hp b): ∀(ds:List (D×D)) (es:List MapEntry),rde ok hp ds es->rde ok' hp' ds es
 |[],_,hd=>by simpa only[rde] using hd
 |(x,y)::ds,es,hd=>by
  simp only[rde] at hd⊢;obtain⟨e,r,rfl,z,G,O⟩:=hd;exact⟨e,r,rfl,Dp h x _ z,Dp h y _ G,Fe h ds r O⟩
end
end mono
def D.sc:D->Bool
 | .int _ _| .bool _| .str _| .nilp| .nilf| .nili| .nilc| .nilm=>true
 | .sl true _ []=>true
 |_=>false
def D.scs:D->Bool
 | .agg z| .tup z=>z.all D.sc
 |d=>d.sc
def rd_sc{ok ok':Nat->Prop}{hp hp':Nat->Option Obj}: ∀{d:D} {v:Value},d.sc=true->rd ok hp d v->rd ok' hp' d v:=by
 intro d v h hd;cases d
 case sl nz k rows=>
  cases nz<;>cases rows<;>simp only[D.sc,B1] at h;simp only[rd] at hd⊢;rcases hd with hd|⟨b,p,cap,O,T,G,_,z,_⟩
  .exact .inl hd
  .exact absurd rfl (z trivial)
 all_goals simp_all [D.sc,rd]
def rdl_sc{ok ok':Nat->Prop}{hp hp':Nat->Option Obj}: ∀(ds:List D) (vs:List Value),ds.all D.sc=true->rdl ok hp ds vs->rdl ok' hp' ds vs
 |[],_,_,hd=>by simpa only[rdl] using hd
 |d::ds,vs,h,hd=>by
  simp only[rdl,Fx,Av] at hd h⊢;obtain⟨v,r,rfl,z,G⟩:=hd;exact⟨v,r,rfl,rd_sc h.1 z,rdl_sc ds r h.2 G⟩
def rd_scs{ok ok':Nat->Prop}{hp hp':Nat->Option Obj}: ∀{d:D} {v:Value},d.scs=true->rd ok hp d v->rd ok' hp' d v:=by
 intro d v h hd;cases d<;>simp only[D.scs] at h<;>try exact rd_sc h hd
 all_goals
  simp only[rd] at hd⊢;obtain⟨G,rfl,z⟩:=hd;exact⟨G,rfl,rdl_sc _ _ h z⟩
inductive AV where
 |any
 |im (d:D)
 |agg (cs:List AV)
 |tup (cs:List AV)
 |ptr (o off:Nat)
 |eptr (o i off:Nat)
 |own (o:Nat)
 |mp (o:Nat)
 |ch (o:Nat)
 |it (o:Nat)
 |osl (o a n:Nat)
 |clo (f:FuncId) (first capt:List AV)
 deriving Inhabited
inductive AObj where
 |cells (T:TypeId) (cs:List AV)
 |arr (T:TypeId) (k:Nat) (rows:List (List D))
 |arrA (T:TypeId) (k:Nat) (rows:List (List AV))
 |map (kt:KT) (es:List (D×D))
 |chan (q:List D) (cap:Nat)
 |iter (last:Option (D×D)) (left:List (D×D))
 |view (cs:List D)
def AObj.isView:AObj->Bool
 | .view _=>true
 | .cells _ _| .arr _ _ _| .arrA _ _ _| .map _ _| .chan _ _| .iter _ _=>false
abbrev Ent:=Bool×AObj
abbrev Ag:=List (Nat×Ent)
structure Loc where
 b:Nat
 p:Nat
 cap:Nat
structure Env where
 ρ:Nat->Option Loc
 ok:Nat->Prop
 h:Nat->Option Ent
 w:World
def Env.hp(S:Env):Nat->Option Obj:=λb=>S.w.heap[b]?
def AObj.len:AObj->Nat
 | .arr _ _ rows=>rows.length
 | .arrA _ _ rows=>rows.length
 |_=>0
def AObj.esz:AObj->Nat
 | .arr _ k _=>k
 | .arrA _ k _=>k
 |_=>0
def winV(r:Option Loc)(z len a n:Nat)(v:Value):Prop:=match r with
 |none=>v= .slice none 0 0/\n=0
 |some l=> ∃p G,v= .slice (some ⟨l.b,p,none⟩) n G/\n<=G/\(n≠0->p=l.p+a*z)/\a+n<=len
mutual
def conc(S:Env):AV->Value->Prop
 | .any,_=>True
 | .im d,v=>rd S.ok S.hp d v
 | .agg G,v=> ∃z:Array Value,v= .agg z/\Ap S G z.toList
 | .tup G,v=> ∃z:Array Value,v= .tuple z/\Ap S G z.toList
 | .ptr o off,v=>v.oneCell'=true/\ ∀e,S.h o=some e-> ∃l,S.ρ o=some l/\v= .pointer (some ⟨l.b,l.p+off,none⟩)
 | .eptr o i off,v=>v.oneCell'=true/\ ∀e,S.h o=some e-> ∃l,S.ρ o=some l/\v= .pointer (some ⟨l.b,l.p+i*e.2.esz+off,none⟩)
 | .own o,v=>v.oneCell'=true/\ ∀e,S.h o=some e->match S.ρ o with
  |none=>v= .slice none 0 0
  |some l=>v= .slice (some ⟨l.b,l.p,none⟩) e.2.len l.cap
 | .mp o,v=>v.oneCell'=true/\ ∀e,S.h o=some e-> ∃l,S.ρ o=some l/\v= .map (some l.b)
 | .ch o,v=>v.oneCell'=true/\ ∀e,S.h o=some e-> ∃l,S.ρ o=some l/\v= .chan (some l.b)
 | .it o,v=>v.oneCell'=true/\ ∀e,S.h o=some e-> ∃l,S.ρ o=some l/\v= .pointer (some ⟨l.b,0,none⟩)
 | .osl o a n,v=>v.oneCell'=true/\ ∀e,S.h o=some e->winV (S.ρ o) e.2.esz e.2.len a n v
 | .clo f first capt,v=> ∃a c:Array Value,v= .func (fnV f) a c/\Ap S first a.toList/\Ap S capt c.toList
def Ap(S:Env):List AV->List Value->Prop
 |[],z=>z=[]
 |x::xs,z=> ∃v r,z=v::r/\conc S x v/\Ap S xs r
end
def Bg(S:Env):List AV->List Value->Prop
 |[],_=>True
 |x::xs,z=> ∃v r,z=v::r/\conc S x v/\Bg S xs r
def AN(S:Env)(k:Nat):List (List AV)->List Value->Prop
 |[],_=>True
 |r::G,z=>r.length=k/\Bg S r z/\AN S k G (z.drop k)
def lastR(ok:Nat->Prop)(hp:Nat->Option Obj)(z:Array MapEntry)(G:Array Nat):Option (D×D)->Prop
 |none=>True
 |some (x,y)=> ∃st e,G.back? =some st/\z.find? (·.born==st)=some e/\rd ok hp x e.key/\rd ok hp y e.val
def objc(S:Env)(l:Option Loc):AObj->Prop
 | .cells T cs=> ∃O Q,l=some O/\O.p=0/\S.hp O.b=some (.cells Q T (0,0))/\Ap S cs Q.toList
 | .arr T k rows=>rows.length<=LIM/\match l with
  |none=>rows=[]
  |some O=>rows.length<=O.cap/\ ∃Q,S.hp O.b=some (.cells Q T (0,0))/\O.p+O.cap*k<=Q.size/\rdr S.ok S.hp k rows (Q.toList.drop O.p)
 | .arrA T k rows=>rows.length<=LIM/\match l with
  |none=>rows=[]
  |some O=>rows.length<=O.cap/\ ∃Q,S.hp O.b=some (.cells Q T (0,0))/\O.p+O.cap*k<=Q.size/\AN S k rows (Q.toList.drop O.p)
 | .map kt es=> ∃O z G,l=some O/\(∀e∈es,kt.fit e.1=true)/\S.hp O.b=some (.map z G)/\rde S.ok S.hp es z.toList/\
  (z.toList.map (·.born)).Nodup/\ ∀e∈z.toList,e.born<G
 | .chan q cap=> ∃O aa ad ac,l=some O/\S.hp O.b=some (.chan cap aa false ad ac false)/\rdl S.ok S.hp q aa.toList
 | .iter ab left=> ∃O mb z G Z,l=some O/\S.ok mb/\lastR S.ok S.hp z Z ab/\S.hp mb=some (.map z G)/\
  S.hp O.b=some (.mapIter (some mb) G Z G)/\(z.toList.map (·.born)).Nodup/\(∀e∈z.toList,e.born<G)/\
  rde S.ok S.hp left (z.toList.filter λe=> !Z.contains e.born)
 | .view cs=> ∃O Q T fr,l=some O/\S.hp O.b=some (.cells Q T fr)/\rdp S.ok S.hp cs (Q.toList.drop O.p)
structure Ctx where
 w:World
 M:Nat->Prop
 ok:Nat->Prop
 n0:Nat
 h0:Nat->Option Ent
 ρ0:Nat->Option Loc
 ds:List Deferred
def Ctx.mk0(w:World)(M ok:Nat->Prop):Ctx:=⟨w,M,ok,0,λ_=>none,λ_=>none,[]⟩
def Ctx.Pre(C:Ctx)(S:Env):Prop:= ∀o,o<C.n0-> ∀e',S.h o=some e'-> ∃e,C.h0 o=some e/\S.ρ o=C.ρ0 o/\e'.2.esz=e.2.esz/\e'.2.len=e.2.len
structure Wf(C:Ctx)(S:Env):Prop where
 os:S.w.os=C.w.os
 tape:S.w.tape=C.w.tape
 output:S.w.output=C.w.output
 size:C.w.heap.size<=S.w.heap.size
 keep: ∀b,b<C.w.heap.size-> ¬C.M b->S.w.heap[b]? =C.w.heap[b]?
 ok0: ∀b,C.ok b->S.ok b
 ok1: ∀b,S.ok b->C.ok b\/C.w.heap.size<=b\/C.M b
 oks: ∀b,S.ok b->b<S.w.heap.size
 obj: ∀o e,S.h o=some e->objc S (S.ρ o) e.2
 loc: ∀o e l,S.h o=some e->S.ρ o=some l->l.b<S.w.heap.size/\if e.1 then ¬S.ok l.b/\(C.w.heap.size<=l.b\/C.M l.b) else S.ok l.b\/e.2.isView=true
 inj: ∀o o' e e' l l',S.h o=some e->S.h o'=some e'->S.ρ o=some l->S.ρ o'=some l'->l.b=l'.b->(e.1||e'.1)=true->o=o'
 gl:GP (λb=>C.ok b/\ ¬C.M b) (λb=>C.w.heap[b]?)
def Wf.gp{C:Ctx}{S:Env}(h:Wf C S):GP S.ok S.hp:=by
 refine h.gl.mono λb o hb z=>⟨h.ok0 b hb.1,?_⟩
 have G:b<C.w.heap.size:=by
  apply Lz;intro hn
  have:C.w.heap[b]? =none:=IT (by omega)
  rw[this] at z;cases z
 exact (h.keep b G hb.2).trans z
def Wf.glN{C:Ctx}{S:Env}(h:Wf C S){M:Nat->Prop}(z: ∀b,M b-> ¬S.ok b):GP (λb=>S.ok b/\ ¬M b) (λb=>S.w.heap[b]?):=
 h.gp.mono λb _ hb O=>⟨⟨hb,λG=>z b G hb⟩,O⟩
mutual
def AV.bel(n:Nat):AV->Bool
 | .any=>true
 | .im _=>true
 | .agg z=>belL n z
 | .tup z=>belL n z
 | .ptr o _=>Nat.blt o n
 | .eptr o _ _=>Nat.blt o n
 | .own o=>Nat.blt o n
 | .mp o=>Nat.blt o n
 | .ch o=>Nat.blt o n
 | .it o=>Nat.blt o n
 | .osl o _ _=>Nat.blt o n
 | .clo _ a c=>belL n a && belL n c
def belL(n:Nat):List AV->Bool
 |[]=>true
 |x::r=>x.bel n && belL n r
end
mutual
def AV.nms:AV->List Nat
 | .any=>[]
 | .im _=>[]
 | .agg z=>nmsL z
 | .tup z=>nmsL z
 | .ptr o _=>[o]
 | .eptr o _ _=>[o]
 | .own o=>[o]
 | .mp o=>[o]
 | .ch o=>[o]
 | .it o=>[o]
 | .osl o _ _=>[o]
 | .clo _ a c=>nmsL a++nmsL c
def nmsL:List AV->List Nat
 |[]=>[]
 |x::r=>x.nms++nmsL r
end
def nmsR:List (List AV)->List Nat
 |[]=>[]
 |x::r=>nmsL x++nmsR r
def AObj.nms:AObj->List Nat
 | .cells _ z=>nmsL z
 | .arr _ _ _=>[]
 | .arrA _ _ rows=>nmsR rows
 | .map _ _=>[]
 | .chan _ _=>[]
 | .iter _ _=>[]
 | .view _=>[]
structure Pres(X:Nat->Prop)(S S':Env):Prop where
 ok: ∀b,S.ok b->S'.ok b/\S'.hp b=S.hp b
 nm: ∀o,X o-> ∀e',S'.h o=some e'-> ∃e,S.h o=some e/\S'.ρ o=S.ρ o/\e'.2.esz=e.2.esz/\e'.2.len=e.2.len
def Pres.refl(X:Nat->Prop)(S:Env):Pres X S S:=⟨λ_ h=>⟨h,rfl⟩,λ_ _ e' h=>⟨e',h,rfl,rfl,rfl⟩⟩
section
variable {X:Nat->Prop}{S S':Env}
mutual
def DV(hp:Pres X S S'): ∀(x:AV) (v:Value),(∀o∈x.nms,X o)->conc S x v->conc S' x v
 | .any,_,_,_=>by simp only[conc]
 | .im d,v,_,h=>by
   simp only[conc] at h⊢;exact Dp hp.ok d v h
 | .agg cs,v,G,h=>by
   simp only[conc,AV.nms] at h G⊢;obtain⟨vs,rfl,h1⟩:=h;exact⟨vs,rfl,Ho hp cs _ G h1⟩
 | .tup cs,v,G,h=>by
   simp only[conc,AV.nms] at h G⊢;obtain⟨vs,rfl,h1⟩:=h;exact⟨vs,rfl,Ho hp cs _ G h1⟩
 | .ptr o off,v,G,h=>by
   simp only[conc,AV.nms,AO,F1] at h G⊢;obtain⟨z,h⟩:=h;refine⟨z,?_⟩;intro e' O;obtain⟨e,Q,Z,_,_⟩:=hp.nm o G e' O;rw[Z];exact h e Q
 | .eptr o i off,v,G,h=>by
   simp only[conc,AV.nms,AO,F1] at h G⊢;obtain⟨z,h⟩:=h;refine⟨z,?_⟩;intro e' O;obtain⟨e,Q,Z,hz,_⟩:=hp.nm o G e' O;rw[Z,hz];exact h e Q
 | .own o,v,G,h=>by
   simp only[conc,AV.nms,AO,F1] at h G⊢;obtain⟨z,h⟩:=h;refine⟨z,?_⟩;intro e' O;obtain⟨e,Q,Z,_,hl⟩:=hp.nm o G e' O;rw[Z,hl];exact h e Q
 | .mp o,v,G,h=>by
   simp only[conc,AV.nms,AO,F1] at h G⊢;obtain⟨z,h⟩:=h;refine⟨z,?_⟩;intro e' O;obtain⟨e,Q,Z,_,_⟩:=hp.nm o G e' O;rw[Z];exact h e Q
 | .ch o,v,G,h=>by
   simp only[conc,AV.nms,AO,F1] at h G⊢;obtain⟨z,h⟩:=h;refine⟨z,?_⟩;intro e' O;obtain⟨e,Q,Z,_,_⟩:=hp.nm o G e' O;rw[Z];exact h e Q
 | .it o,v,G,h=>by
   simp only[conc,AV.nms,AO,F1] at h G⊢;obtain⟨z,h⟩:=h;refine⟨z,?_⟩;intro e' O;obtain⟨e,Q,Z,_,_⟩:=hp.nm o G e' O;rw[Z];exact h e Q
 | .osl o a n,v,G,h=>by
   simp only[conc,AV.nms,AO,F1] at h G⊢;obtain⟨z,h⟩:=h;refine⟨z,?_⟩;intro e' O;obtain⟨e,Q,Z,hz,hl⟩:=hp.nm o G e' O;rw[Z,hz,hl];exact h e Q
 | .clo f fi ca,v,G,h=>by
   simp only[conc,AV.nms,AG] at h G⊢;obtain⟨a,c,rfl,h1,h2⟩:=h;exact⟨a,c,rfl,Ho hp fi _ (λo ho=>G o (.inl ho)) h1,Ho hp ca _ (λo ho=>G o (.inr ho)) h2⟩
def Ho(hp:Pres X S S'): ∀(xs:List AV) (vs:List Value),(∀o∈nmsL xs,X o)->Ap S xs vs->Ap S' xs vs
 |[],_,_,h=>by simpa only[Ap] using h
 |x::xs,vs,G,h=>by
  simp only[Ap,nmsL,AG] at h G⊢;obtain⟨v,r,rfl,O,Q⟩:=h;exact⟨v,r,rfl,DV hp x v (λo z=>G o (.inl z)) O,Ho hp xs r (λo z=>G o (.inr z)) Q⟩
end
def Wb(hp:Pres X S S'): ∀(xs:List AV) (vs:List Value),(∀o∈nmsL xs,X o)->Bg S xs vs->Bg S' xs vs
 |[],_,_,_=>by simp only[Bg]
 |x::xs,vs,G,h=>by
  simp only[Bg,nmsL,AG] at h G⊢;obtain⟨v,r,rfl,O,Q⟩:=h;exact⟨v,r,rfl,DV hp x v (λo z=>G o (.inl z)) O,Wb hp xs r (λo z=>G o (.inr z)) Q⟩
def Ot(hp:Pres X S S')(k:Nat): ∀(z:List (List AV)) (vs:List Value),(∀o∈nmsR z,X o)->AN S k z vs->AN S' k z vs
 |[],_,_,_=>by simp only[AN]
 |r::z,vs,O,h=>by
  simp only[AN,nmsR,AG] at h O⊢;exact⟨h.1,Wb hp r vs (λo G=>O o (.inl G)) h.2.1,Ot hp k z _ (λo G=>O o (.inr G)) h.2.2⟩
def SO{ok ok':Nat->Prop}{hp hp':Nat->Option Obj}(h: ∀b,ok b->ok' b/\hp' b=hp b){z:Array MapEntry}{G:Array Nat}: ∀(l:Option (D×D)),lastR ok hp z G l->lastR ok' hp' z G l
 |none,_=>trivial
 |some (x,y),O=>by
  obtain⟨st,e,a,b,c,d⟩:=O;exact⟨st,e,a,b,Dp h x _ c,Dp h y _ d⟩
def DU(hp:Pres X S S'){l:Option Loc}(hl: ∀z,l=some z->S'.hp z.b=S.hp z.b): ∀(e:AObj),(∀o∈e.nms,X o)->objc S l e->objc S' l e
 | .cells T cs,hx,h=>by
   simp only[objc,AObj.nms] at h hx⊢;obtain⟨z,vs,G,Q,Z,h4⟩:=h;exact⟨z,vs,G,Q,(hl z G).trans Z,Ho hp cs _ hx h4⟩
 | .arr T k rows,hx,h=>by
   simp only[objc] at h⊢;refine⟨h.1,?_⟩;cases l with
   |none=>exact h.2
   |some z=>
    obtain⟨h0,G,vs,Q,Z,h4⟩:=h;exact⟨G,vs,(hl z rfl).trans Q,Z,Jh hp.ok k rows _ h4⟩
 | .arrA T k rows,hx,h=>by
   simp only[objc,AObj.nms] at h hx⊢;refine⟨h.1,?_⟩;cases l with
   |none=>exact h.2
   |some z=>
    obtain⟨h0,G,vs,Q,Z,h4⟩:=h;exact⟨G,vs,(hl z rfl).trans Q,Z,Ot hp k rows _ hx h4⟩
 | .map kt es,_,h=>by
   simp only[objc] at h⊢;obtain⟨z,aa,O,G,h0,Q,Z,h4⟩:=h;exact⟨z,aa,O,G,h0,(hl z G).trans Q,Fe hp.ok es _ Z,h4⟩
 | .chan q cap,_,h=>by
   simp only[objc] at h⊢;obtain⟨z,ag,af,ac,G,Q,Z⟩:=h;exact⟨z,ag,af,ac,G,(hl z G).trans Q,Ff hp.ok q _ Z⟩
 | .iter ab left,_,h=>by
   simp only[objc] at h⊢;obtain⟨z,mb,aa,O,ad,G,Q,h0,Z,h4,h5,h6,h7⟩:=h;exact⟨z,mb,aa,O,ad,G,(hp.ok mb Q).1,SO hp.ok ab h0,(hp.ok mb Q).2.trans Z,(hl z G).trans h4,h5,h6,Fe hp.ok left _ h7⟩
 | .view cs,_,h=>by
   simp only[objc] at h⊢;obtain⟨z,vs,T,fr,G,Q,Z⟩:=h;exact⟨z,vs,T,fr,G,(hl z G).trans Q,Jg hp.ok cs _ Z⟩
end
inductive TK where
 |bool
 |str
 |ptr (e:TypeId)
 |int (k:IntKind)
 |slice (e:TypeId)
 |array (n:Nat) (e:TypeId)
 |struct (fs:List (Nat×Nat))
 |map (k e:TypeId)
 |other
structure TI where
 size:Nat
 bytes:Nat
 agg:Bool
 kind:TK
 zero:List D
def zD:Value->D
 | .bool b=> .bool b
 | .int k n=> .int k n
 | .string s=> .str s
 | .pointer none=> .nilp
 | .slice none _ _=> .sl true 0 []
 | .map none=> .nilm
 | .chan none=> .nilc
 | .nilFunc=> .nilf
 |_=> .nili
def zOk:Value->Bool
 | .bool _| .int _ _| .string _| .pointer none| .slice none 0 0| .map none| .chan none| .nilFunc| .nilIface=>true
 |_=>false
def zOf:Bool->Option Value->List D
 |true,some (.agg z)=>bif z.toList.all zOk then z.toList.map zD else []
 |false,some v=>bif zOk v then [zD v] else []
 |_,_=>[]
def aggU:TypeDesc->Bool
 | .struct _| .array _ _=>true
 |_=>false
def tkOf(P:Program):TypeDesc->TK
 | .int k=> .int k
 | .slice e=> .slice e
 | .array n e=> .array n e
 | .struct z=>bif z.toList.all (λf=>(P.info? f.type).isSome) then .struct (z.toList.map λf=>(f.offset,((P.info? f.type).map (·.size)).getD 0)) else .other
 | .map k e=> .map k e
 | .bool=> .bool
 | .string=> .str
 | .pointer e=> .ptr e
 |_=> .other
def tI(P:Program)(t:TypeId):Option TI:=
 match P.info? t,P.underlying t with
 |some i,some u=>some {size:=i.size,bytes:=i.bytes,agg:=aggU u,kind:=tkOf P u,zero:=zOf (aggU u) i.zero}
 |_,_=>none
structure Eff where
 use:List Nat:=[]
 kill:List Nat:=[]
 new:Ag:=[]
 cnt:Nat:=0
structure Ac where
 tm:List (Nat×AV)
 h:Ag
 nx:Nat
def tget:List (Nat×AV)->Nat->AV
 |[],_=> .any
 |(m,x)::r,n=>bif m==n then x else tget r n
def hget:Ag->Nat->Option Ent
 |[],_=>none
 |(m,e)::r,n=>bif m==n then some e else hget r n
def hdel:Ag->List Nat->Ag
 |[],_=>[]
 |(m,e)::r,ks=>bif ks.contains m then hdel r ks else (m,e)::hdel r ks
def Ac.put(s:Ac)(dst:Option Nat)(x:AV):Ac:=
 match dst with
 |some d=>⟨(d,x)::s.tm,s.h,s.nx⟩
 |none=>s
def Ac.app(s:Ac)(dst:Option Nat)(r:AV)(E:Eff):Ac:=
 (⟨s.tm,E.new++hdel s.h E.kill,s.nx+E.cnt⟩:Ac).put dst r
def kD:Value->AV
 | .bool b=> .im (.bool b)
 | .int k n=> .im (.int k n)
 | .string s=> .im (.str s)
 | .pointer none=> .im .nilp
 | .slice none 0 0=> .im (.sl true 0 [])
 | .map none=> .im .nilm
 | .chan none=> .im .nilc
 | .nilFunc=> .im .nilf
 | .nilIface=> .im .nili
 |_=> .any
def evO(tm:List (Nat×AV)):Operand->AV
 | .tmp t=>tget tm t
 | .const v=>kD v
 | .global g=> .im (.gp g)
 | .func f=>bif Nat.blt f 1000000000 then .im (.fn f [] []) else .any
def D.cells:D->List D
 | .agg ds=>ds
 | .int k n=>[.int k n]
 | .bool b=>[.bool b]
 | .str s=>[.str s]
 | .nilp=>[.nilp]
 | .nilf=>[.nilf]
 | .nili=>[.nili]
 | .nilc=>[.nilc]
 | .nilm=>[.nilm]
 | .tup z=>[.tup z]
 | .sl Q k rows=>[.sl Q k rows]
 | .ref z=>[.ref z]
 | .mp O G=>[.mp O G]
 | .fn f a c=>[.fn f a c]
 | .ifc t d=>[.ifc t d]
 | .gp g=>[.gp g]
 | .tok g=>[.tok g]
def AV.cells:AV->List AV
 | .im d=>d.cells.map .im
 | .agg z=>z
 | .any=>[]
 | .tup z=>[.tup z]
 | .ptr o p=>[.ptr o p]
 | .eptr o i p=>[.eptr o i p]
 | .own o=>[.own o]
 | .mp o=>[.mp o]
 | .ch o=>[.ch o]
 | .it o=>[.it o]
 | .osl o a n=>[.osl o a n]
 | .clo f a c=>[.clo f a c]
def D.one:D->Bool
 | .agg _| .tup _=>false
 | .int _ _| .bool _| .str _| .nilp| .nilf| .nili| .nilc| .nilm| .sl _ _ _| .ref _| .mp _ _| .fn _ _ _| .ifc _ _| .gp _| .tok _=>true
def AV.one:AV->Bool
 | .im d=>d.one
 | .agg _| .any| .tup _=>false
 | .ptr _ _| .eptr _ _ _| .own _| .mp _| .ch _| .it _| .osl _ _ _| .clo _ _ _=>true
def GX:List AV->Bool
 |[]=>true
 |x::r=>x.one && GX r
def AV.asD:AV->Option D
 | .im d=>some d
 | .agg _| .any| .tup _| .ptr _ _| .eptr _ _ _| .own _| .mp _| .ch _| .it _| .osl _ _ _| .clo _ _ _=>none
def FY:Option D->Option (List D)->Option (List D)
 |some d,some ds=>some (d::ds)
 |some _,none=>none
 |none,_=>none
def BQ:List AV->Option (List D)
 |[]=>some []
 |x::r=>FY x.asD (BQ r)
def mkO(cs:List AV):Option (List D)->AV
 |some ds=> .im (.agg ds)
 |none=> .agg cs
def hdV:List AV->AV
 |[]=> .any
 |x::_=>x
def hdD:List D->D
 |[]=> .nilp
 |x::_=>x
def mkV(agg:Bool)(cs:List AV):AV:=
 bif agg then mkO cs (BQ cs) else hdV cs
def mkD(agg:Bool)(ds:List D):D:=bif agg then .agg ds else hdD ds
def AY{α:Type}(l:List α)(off:Nat)(x:List α):List α:=l.take off++x++l.drop (off+x.length)
abbrev Kont:=AV->Eff->Prop
mutual
def D.beq:D->D->Bool
 | .int _ a,.int _ b=>a==b
 | .bool a,.bool b=>a==b
 | .str a,.str b=>a==b
 | .agg a,.agg b=>D.beql a b
 |_,_=>false
def D.beql:List D->List D->Bool
 |[],[]=>true
 |a::r,b::s=>D.beq a b && D.beql r s
 |_,_=>false
end
def lk:List (D×D)->D->Option D
 |[],_=>none
 |(k,v)::r,x=>bif D.beq x k then some v else lk r x
def upd:List (D×D)->D->D->List (D×D)
 |[],x,y=>[(x,y)]
 |(k,v)::r,x,y=>bif D.beq x k then (x,y)::r else (k,v)::upd r x y
def del:List (D×D)->D->List (D×D)
 |[],_=>[]
 |(k,v)::r,x=>bif D.beq x k then r else (k,v)::del r x
def Jx(P:Program)(G:TypeId->Option KT):List Field->Nat->Option (List KK)
 |[],_=>some []
 |f::O,off=>
  match G f.type,P.info? f.type with
  |some z,some i=>
   bif f.offset==off && (f.name != "_" && i.size==z.ks.length) then (Jx P G O (off+z.ks.length)).map (z.ks++ ·) else none
  |_,_=>none
def keyC(P:Program):Nat->TypeId->Option KT
 |0,_=>none
 |n+1,t=>
  match P.underlying t with
  |some (.int k)=>some ⟨false,[.int k]⟩
  |some .string=>some ⟨false,[.str]⟩
  |some .bool=>some ⟨false,[.bool]⟩
  |some (.struct z)=>bif P.stoodInHeld t then none else (Jx P (keyC P n) z.toList 0).map (⟨true,·⟩)
  |_=>none
def keyT(P:Program)(t:TypeId):Option KT:=keyC P 5 t
def E3{α:Type}(rows:List (List α))(i:Nat)(K:List α->Prop):Prop:= ∀row,rows[i]? =some row->K row
def LkVC(es:List (D×D))(kd:D)(G:D->Prop)(z:Prop):Prop:=(∀v,lk es kd=some v->G v)/\(lk es kd=none->z)
def Lg(ti:TI)(off:Nat)(E:Eff)(K:Kont)(row:List D):Prop:=(ti.agg=true\/ti.size=1)/\off+ti.size<=row.length/\K (.im (mkD ti.agg ((row.drop off).take ti.size))) E
def Py(ti:TI)(off:Nat)(E:Eff)(K:Kont)(row:List AV):Prop:=(ti.agg=true\/ti.size=1)/\off+ti.size<=row.length/\K (mkV ti.agg ((row.drop off).take ti.size)) E
def ldPtr(ti:TI)(o off:Nat)(K:Kont):Option Ent->Prop
 |some (_,.cells _ z)=>Py ti off {use:=[o]} K z
 |some (_,.view z)=>Lg ti off {use:=[o]} K z
 |_=>False
def ldElt(ti:TI)(o i off:Nat)(K:Kont):Option Ent->Prop
 |some (_,.arr _ _ rows)=>i<rows.length/\E3 rows i (Lg ti off {use:=[o]} K)
 |some (_,.arrA _ _ rows)=>i<rows.length/\E3 rows i (Py ti off {use:=[o]} K)
 |_=>False
def IJ(h:Nat->Option Ent)(ti:TI)(K:Kont):AV->Prop
 | .im (.ref z)=>Lg ti 0 {} K z
 | .im (.gp g)=>isG g=true/\ti.size=1/\ti.agg=false/\K (.im (.tok g)) {}
 | .ptr o off=>ldPtr ti o off K (h o)
 | .eptr o i off=>ldElt ti o i off K (h o)
 |_=>False
def kStD(o i off k z:Nat)(T:TypeId)(rows:List (List D))(K:Kont)(row:List D):Option (List D)->Prop
 |some ds=>off+z<=row.length/\K .any {use:=[o],kill:=[o],new:=[(o,(true,.arr T k (rows.set i (AY row off ds))))]}
 |none=>False
def UD(o i off k z:Nat)(T:TypeId)(rows:List (List D))(ds:Option (List D))(K:Kont)(row:List D):Prop:=kStD o i off k z T rows K row ds
def UI(o i off k z:Nat)(T:TypeId)(rows:List (List AV))(vs:List AV)(K:Kont)(row:List AV):Prop:=
 off+z<=row.length/\K .any {use:=[o],kill:=[o],new:=[(o,(true,.arrA T k (rows.set i (AY row off vs))))]}
def sdPtr(ti:TI)(o off:Nat)(vs:List AV)(K:Kont):Option Ent->Prop
 |some (true,.cells T z)=>off+ti.size<=z.length/\K .any {use:=[o],kill:=[o],new:=[(o,(true,.cells T (AY z off vs)))]}
 |_=>False
def sdElt(ti:TI)(o i off:Nat)(vs:List AV)(K:Kont):Option Ent->Prop
 |some (true,.arr T k rows)=>i<rows.length/\E3 rows i (UD o i off k ti.size T rows (BQ vs) K)
 |some (true,.arrA T k rows)=>i<rows.length/\E3 rows i (UI o i off k ti.size T rows vs K)
 |_=>False
def Ox(h:Nat->Option Ent)(ti:TI)(vs:List AV)(K:Kont):AV->Prop
 | .ptr o off=>sdPtr ti o off vs K (h o)
 | .eptr o i off=>sdElt ti o i off vs K (h o)
 |_=>False
def QN(h:Nat->Option Ent)(x v:AV)(K:Kont)(ti:TI):Prop:=
 ti.size≠0/\v.cells.length=ti.size/\GX v.cells=true/\Ox h ti v.cells K x
def alv(o:Nat)(x:AV)(K:Kont):Option Ent->Prop
 |some _=>K x {use:=[o]}
 |none=>False
def faAt(h:Nat->Option Ent)(off:Nat)(K:Kont):AV->Prop
 | .im (.ref z)=>off<=z.length/\K (.im (.ref (z.drop off))) {}
 | .ptr o p=>alv o (.ptr o (p+off)) K (h o)
 | .eptr o i p=>alv o (.eptr o i (p+off)) K (h o)
 |_=>False
def faOf(h:Nat->Option Ent)(x:AV)(K:Kont):Option (Nat×Nat)->Prop
 |some (off,z)=>z≠0/\faAt h off K x
 |none=>False
def faK(h:Nat->Option Ent)(x:AV)(f:Nat)(K:Kont):TK->Prop
 | .struct z=>faOf h x K z[f]?
 |_=>False
def PV(h:Nat->Option Ent)(x:AV)(f:Nat)(K:Kont)(ti:TI):Prop:=faK h x f K ti.kind
def kRef(K:Kont)(row:List D):Prop:=K (.im (.ref row)) {}
def iaObj(o:Nat)(n:Int)(K:Kont)(z:TI):Option Ent->Prop
 |some (_,.arr _ k rows)=>k=z.size/\0<=n/\n<(rows.length:Int)/\K (.eptr o n.toNat 0) {use:=[o]}
 |some (_,.arrA _ k rows)=>k=z.size/\0<=n/\n<(rows.length:Int)/\K (.eptr o n.toNat 0) {use:=[o]}
 |_=>False
def iaSl(h:Nat->Option Ent)(n:Int)(K:Kont)(x:AV)(z:TI):Prop:=
 match x with
 | .im (.sl _ k rows)=>k=z.size/\0<=n/\n<(rows.length:Int)/\E3 rows n.toNat (kRef K)
 | .own o=>iaObj o n K z (h o)
 |_=>False
def iaArr(h:Nat->Option Ent)(m:Nat)(n:Int)(K:Kont)(x:AV)(z:TI):Prop:=
 match x with
 | .ptr o p=>0<=n/\n<(m:Int)/\alv o (.ptr o (p+n.toNat*z.size)) K (h o)
 | .im (.ref G)=>0<=n/\n<(m:Int)/\n.toNat*z.size<=G.length/\K (.im (.ref (G.drop (n.toNat*z.size)))) {}
 |_=>False
def Az(f:TI->Prop):Option TI->Prop
 |some ti=>f ti
 |none=>False
def iaK(P:Program)(h:Nat->Option Ent)(x:AV)(n:Int)(K:Kont):TK->Prop
 | .slice e=>Az (iaSl h n K x) (tI P e)
 | .array m e=>Az (iaArr h m n K x) (tI P e)
 |_=>False
def S5(P:Program)(h:Nat->Option Ent)(x:AV)(ti:TI)(K:Kont):AV->Prop
 | .im (.int _ n)=>iaK P h x n K ti.kind
 |_=>False
def ixArr(m:Nat)(n:Int)(cs:List D)(K:Kont)(z:TI):Prop:=
 (z.agg=true\/z.size=1)/\0<=n/\n<(m:Int)/\n.toNat*z.size+z.size<=cs.length/\K (.im (mkD z.agg ((cs.drop (n.toNat*z.size)).take z.size))) {}
def ChVC(s:ByteArray)(i:Nat)(K:UInt8->Prop):Prop:= ∀c,s.data[i]? =some c->K c
def kCh(K:Kont)(c:UInt8):Prop:=K (.im (.int .u8 c.toNat)) {}
def ixK(P:Program)(n:Int)(K:Kont):TK->AV->Prop
 | .array m e,.im (.agg z)=>Az (ixArr m n z K) (tI P e)
 | .str,.im (.str s)=>0<=n/\n<(s.size:Int)/\ChVC s n.toNat (kCh K)
 |_,_=>False
def Uy(P:Program)(x:AV)(ti:TI)(K:Kont):AV->Prop
 | .im (.int _ n)=>ixK P n K ti.kind x
 |_=>False
def shK:BinOp->Nat
 | .shr=>1
 | .shl=>2
 | .add| .sub| .mul| .quo| .rem| .and| .or| .xor| .andNot| .eql| .neq| .lss| .leq| .gtr| .geq=>0
def andI(k:IntKind)(a b:Int):Int:=k.wrap ((BitVec.ofInt k.bits a &&& BitVec.ofInt k.bits b).toNat:Int)
def orI(k:IntKind)(a b:Int):Int:=k.wrap ((BitVec.ofInt k.bits a|||BitVec.ofInt k.bits b).toNat:Int)
def xorI(k:IntKind)(a b:Int):Int:=k.wrap ((BitVec.ofInt k.bits a^^^BitVec.ofInt k.bits b).toNat:Int)
def Et(op:BinOp)(k:IntKind)(a b:Int)(K:Kont):Prop:=
 match op with
 | .add=>K (.im (.int k (k.wrap (a+b)))) {}
 | .sub=>K (.im (.int k (k.wrap (a - b)))) {}
 | .mul=>K (.im (.int k (k.wrap (a*b)))) {}
 | .quo=>b≠0/\K (.im (.int k (k.wrap (a.tdiv b)))) {}
 | .rem=>b≠0/\K (.im (.int k (a.tmod b))) {}
 | .eql=>K (.im (.bool (decide (a=b)))) {}
 | .neq=>K (.im (.bool (!decide (a=b)))) {}
 | .lss=>K (.im (.bool (decide (a<b)))) {}
 | .leq=>K (.im (.bool (decide (a<=b)))) {}
 | .gtr=>K (.im (.bool (decide (b<a)))) {}
 | .geq=>K (.im (.bool (decide (b<=a)))) {}
 | .and=>K (.im (.int k (andI k a b))) {}
 | .or=>K (.im (.int k (orI k a b))) {}
 | .xor=>K (.im (.int k (xorI k a b))) {}
 |_=>False
def eqB(neg:Bool)(K:Kont)(b:Bool):Prop:=K (.im (.bool (neg !=b))) {}
def eqNilS(neg:Bool)(K:Kont):AV->Prop
 | .im (.sl true _ rows)=>eqB neg K rows.isEmpty
 |_=>False
def Po(h:Nat->Option Ent)(neg:Bool)(K:Kont):AV->Prop
 | .im .nilp=>eqB neg K true
 | .im (.ref _)=>eqB neg K false
 | .ptr o _=>alv o (.im (.bool neg)) K (h o)
 | .eptr o _ _=>alv o (.im (.bool neg)) K (h o)
 |_=>False
def HI(h:Nat->Option Ent)(neg:Bool)(K:Kont):AV->Prop
 | .im .nilm=>eqB neg K true
 | .im (.mp _ _)=>eqB neg K false
 | .mp o=>alv o (.im (.bool neg)) K (h o)
 |_=>False
def IF(h:Nat->Option Ent)(neg:Bool)(K:Kont)(x:AV):Nat->TK->Prop
 |0,.slice _=>eqNilS neg K x
 |1,.ptr _=>Po h neg K x
 |2,.map _ _=>HI h neg K x
 |_,_=>False
def FB(op:BinOp)(a b:ByteArray)(K:Kont):Prop:=
 match op with
 | .eql=>K (.im (.bool (decide (a=b)))) {}
 | .neq=>K (.im (.bool (!decide (a=b)))) {}
 | .add=>a.size+b.size<=9223372036854775807/\K (.im (.str (a++b))) {}
 |_=>False
def stBoo(op:BinOp)(a b:Bool)(K:Kont):Prop:=
 match op with
 | .eql=>K (.im (.bool (a==b))) {}
 | .neq=>K (.im (.bool (a !=b))) {}
 |_=>False
def stBoK(op:BinOp)(a b:Bool)(K:Kont):Option TI->Prop
 |some ti=>ti.kind= .bool/\stBoo op a b K
 |none=>False
def OZ(op:BinOp)(a b:List D)(K:Kont):Prop:=
 match op with
 | .eql=>K (.im (.bool (D.beql a b))) {}
 | .neq=>K (.im (.bool (!D.beql a b))) {}
 |_=>False
def OU(P:Program)(T:TypeId)(op:BinOp)(a b:List D)(K:Kont):Option KT->Prop
 |some z=>z.fit (.agg a)=true/\z.fit (.agg b)=true/\P.eqGuardType P.depth T=false/\OZ op a b K
 |none=>False
def Jp(op:BinOp)(k:IntKind)(a:Int)(k':IntKind)(b:Int)(K:Kont):Nat->Prop
 |0=>k=k'/\Et op k a b K
 |1=>0<=b/\K (.im (.int k (a.fdiv (2^min b.toNat k.bits)))) {}
 |_+2=>0<=b/\K (.im (.int k (k.wrap (a*2^min b.toNat k.bits)))) {}
def Ln(P:Program)(T:TypeId)(op:BinOp)(K:Kont):AV->AV->Prop
 | .im (.int k a),.im (.int k' b)=>Jp op k a k' b K (shK op)
 | .im (.str a),.im (.str b)=>FB op a b K
 | .im (.bool a),.im (.bool b)=>stBoK op a b K (tI P T)
 | .im (.agg a),.im (.agg b)=>OU P T op a b K (keyT P T)
 |_,_=>False
def stUn(K:Kont):UnOp->AV->Prop
 | .not,.im (.bool b)=>K (.im (.bool (!b))) {}
 | .neg,.im (.int k n)=>K (.im (.int k (k.wrap (-n)))) {}
 |_,_=>False
def Jv(cells:List AV)(vs:List AV):Option (Nat×Nat)->Option (List AV)
 |none=>none
 |some (off,size)=>bif vs.length==size && (Nat.blt 0 size && Nat.ble (off+size) cells.length) then some (AY cells off vs) else none
def DM(place:Nat->Option (Nat×Nat)):List (Nat×AV)->Option (List AV)->Option (List AV)
 |[],r=>r
 |_::_,none=>none
 |(i,v)::z,some cells=>DM place z (Jv cells v.cells (place i))
def plArr(k i:Nat):Option (Nat×Nat):=some (i*k,k)
def plStr(z:List (Nat×Nat))(i:Nat):Option (Nat×Nat):=z[i]?
def F6(K:Kont):Option (List AV)->Prop
 |some z=>K (mkV true z) {}
 |none=>False
def bdArr(O:List AV)(z:List (Nat×AV))(K:Kont)(G:TI):Prop:=F6 K (DM (plArr G.size) z (some O))
def bdK(P:Program)(G:List AV)(z:List (Nat×AV))(K:Kont):TK->Prop
 | .struct O=>F6 K (DM (plStr O) z (some G))
 | .array _ e=>Az (bdArr G z K) (tI P e)
 |_=>False
def Rd(P:Program)(z:List (Nat×AV))(K:Kont)(ti:TI):Prop:=ti.zero.length=ti.size/\ti.size≠0/\bdK P (ti.zero.map .im) z K ti.kind
def DW{α:Type}(k:Nat):Nat->List α->List (List α)
 |0,_=>[]
 |n+1,l=>l.take k::DW k n (l.drop k)
def repZ{α:Type}:Nat->List α->List α
 |0,_=>[]
 |n+1,z=>z++repZ n z
def bsObj(nx len e k:Nat)(cs:List AV)(K:Kont):Option (List D)->Prop
 |some ds=>K (.own nx) {new:=[(nx,(true,.arr e k (DW k len ds)))],cnt:=1}
 |none=>K (.own nx) {new:=[(nx,(true,.arrA e k (DW k len cs)))],cnt:=1}
def bsEnd(nx len e k:Nat)(K:Kont):Option (List AV)->Prop
 |some z=>bsObj nx len e k z K (BQ z)
 |none=>False
def bsE(nx len e:Nat)(z:List (Nat×AV))(K:Kont)(G:TI):Prop:=
 G.zero.length=G.size/\G.size≠0/\len*G.size<=16777216/\bsEnd nx len e G.size K (DM (plArr G.size) z (some (repZ len (G.zero.map .im))))
def bsK(P:Program)(nx len:Nat)(z:List (Nat×AV))(K:Kont):TK->Prop
 | .slice e=>Az (bsE nx len e z K) (tI P e)
 |_=>False
def PN(P:Program)(nx len:Nat)(z:List (Nat×AV))(K:Kont)(ti:TI):Prop:=bsK P nx len z K ti.kind
def msE(nx e:Nat)(n m:Int)(K:Kont)(z:TI):Prop:=
 z.size≠0/\0<=n/\n<=m/\m<=1073741824/\z.bytes<=65536/\z.zero.length=z.size/\
  K (.own nx) {new:=[(nx,(true,.arr e z.size (List.replicate n.toNat z.zero)))],cnt:=1}
def msK(P:Program)(nx:Nat)(K:Kont):TK->AV->AV->Prop
 | .slice e,.im (.int .i64 n),.im (.int .i64 m)=>Az (msE nx e n m K) (tI P e)
 |_,_,_=>False
def PW(P:Program)(nx:Nat)(l c:AV)(K:Kont)(ti:TI):Prop:=msK P nx K ti.kind l c
inductive Src where
 |d (u:List Nat) (k:Nat) (rows:List (List D))
 |a (u:List Nat) (k:Nat) (rows:List (List AV))
 |no
def Js(o:Nat):Option Ent->Src
 |some (_,.arr _ k rows)=> .d [o] k rows
 |some (_,.arrA _ k rows)=> .a [o] k rows
 |_=> .no
def BP(h:Nat->Option Ent):AV->Src
 | .im (.sl _ k rows)=> .d [] k rows
 | .own o=>Js o (h o)
 |_=> .no
def imR(rows:List (List D)):List (List AV):=rows.map λr=>r.map .im
def allD:List D->Bool
 |[]=>true
 |x::r=>x.one && allD r
def OneR{α:Type}(f:List α->Bool)(rows:List (List α)):Prop:= ∀row∈rows,f row=true
def Src.okOne:Src->Prop
 | .d _ _ rows=>OneR allD rows
 | .a _ _ rows=>OneR GX rows
 | .no=>False
def F3(nx e:Nat)(z:TI)(K:Kont):Src->Prop
 | .d u k rows=>(k=z.size\/rows=[])/\(rows.length+512)*z.bytes<=140737488355328/\K (.own nx) {use:=u,new:=[(nx,(true,.arr e z.size rows))],cnt:=1}
 | .a u k rows=>k=z.size/\(rows.length+512)*z.bytes<=140737488355328/\K (.own nx) {use:=u,kill:=u,new:=[(nx,(true,.arrA e z.size rows))],cnt:=1}
 | .no=>False
def apD(nx e o:Nat)(z:TI)(rows0:List (List D))(K:Kont):Src->Prop
 | .d u k rows=>(k=z.size\/rows=[])/\u≠[o]/\(rows0.length+rows.length+512)*z.bytes<=140737488355328/\
  K (.own nx) {use:=o::u,kill:=[o],new:=[(nx,(true,.arr e z.size (rows0++rows)))],cnt:=1}
 | .a u k rows=>k=z.size/\u≠[o]/\(rows0.length+rows.length+512)*z.bytes<=140737488355328/\
  K (.own nx) {use:=o::u,kill:=o::u,new:=[(nx,(true,.arrA e z.size (imR rows0++rows)))],cnt:=1}
 | .no=>False
def apA(nx e o:Nat)(z:TI)(rows0:List (List AV))(K:Kont):Src->Prop
 | .d u k rows=>(k=z.size\/rows=[])/\u≠[o]/\(rows0.length+rows.length+512)*z.bytes<=140737488355328/\
  K (.own nx) {use:=o::u,kill:=[o],new:=[(nx,(true,.arrA e z.size (rows0++imR rows)))],cnt:=1}
 | .a u k rows=>k=z.size/\u≠[o]/\(rows0.length+rows.length+512)*z.bytes<=140737488355328/\
  K (.own nx) {use:=o::u,kill:=o::u,new:=[(nx,(true,.arrA e z.size (rows0++rows)))],cnt:=1}
 | .no=>False
def apObj(nx e o:Nat)(G:TI)(src:Src)(K:Kont):Option Ent->Prop
 |some (true,.arr T k z)=>T=e/\k=G.size/\apD nx e o G z K src
 |some (true,.arrA T k z)=>T=e/\k=G.size/\apA nx e o G z K src
 |_=>False
def apTo(h:Nat->Option Ent)(nx e:Nat)(z:TI)(src:Src)(K:Kont):AV->Prop
 | .im (.sl true _ [])=>F3 nx e z K src
 | .own o=>apObj nx e o z src K (h o)
 |_=>False
def apE(h:Nat->Option Ent)(nx e:Nat)(s:AV)(src:Src)(K:Kont)(z:TI):Prop:=
 z.size≠0/\z.zero.length=z.size/\z.bytes≠0/\src.okOne/\apTo h nx e z src K s
def apK(P:Program)(h:Nat->Option Ent)(nx:Nat)(s:AV)(src:Src)(K:Kont):TK->Prop
 | .slice e=>Az (apE h nx e s src K) (tI P e)
 |_=>False
def TL(P:Program)(h:Nat->Option Ent)(nx:Nat)(s x:AV)(K:Kont)(ti:TI):Prop:=apK P h nx s (BP h x) K ti.kind
def kInt(K:Kont)(E:Eff)(n:Nat):Prop:=K (.im (.int .i64 n)) E
def U9(z:Bool)(o:Nat)(K:Kont):Option Ent->Prop
 |some (_,.arr _ _ rows)=>(z=true->rows.length<=140737488355328)->kInt K {use:=[o]} rows.length
 |some (_,.arrA _ _ rows)=>(z=true->rows.length<=140737488355328)->kInt K {use:=[o]} rows.length
 |_=>False
def lenObjM(o:Nat)(K:Kont):Option Ent->Prop
 |some (_,.map _ z)=>kInt K {use:=[o]} z.length
 |_=>False
def lenW(o n:Nat)(K:Kont):Option Ent->Prop
 |some _=>kInt K {use:=[o]} n
 |none=>False
def Lm(z:Bool)(h:Nat->Option Ent)(K:Kont):AV->Prop
 | .osl o _ n=>lenW o n K (h o)
 | .im (.sl _ _ rows)=>(z=true->rows.length<=140737488355328)->kInt K {} rows.length
 | .own o=>U9 z o K (h o)
 |_=>False
def lenStr(K:Kont):AV->Prop
 | .im (.str s)=>kInt K {} s.size
 |_=>False
def Pu(h:Nat->Option Ent)(K:Kont):AV->Prop
 | .im (.mp _ z)=>kInt K {} z.length
 | .im .nilm=>kInt K {} 0
 | .mp o=>lenObjM o K (h o)
 |_=>False
def lenK(z:Bool)(h:Nat->Option Ent)(K:Kont)(x:AV):TK->Prop
 | .slice _=>Lm z h K x
 | .str=>lenStr K x
 | .map _ _=>Pu h K x
 | .bool| .ptr _| .int _| .array _ _| .struct _| .other=>False
def Ls(z:Bool)(h:Nat->Option Ent)(x:AV)(K:Kont)(ti:TI):Prop:=lenK z h K x ti.kind
def Rl(ok:Bool)(E:Eff)(K:Kont)(v:D):Prop:=K (bif ok then .tup [.im v,.im (.bool true)] else .im v) E
def kMiss(z:TI)(ok:Bool)(E:Eff)(K:Kont):Prop:=z.zero.length=z.size/\(z.agg=true\/z.size=1)/\z.size≠0/\K (bif ok then .tup [.im (mkD z.agg z.zero),.im (.bool false)] else .im (mkD z.agg z.zero)) E
def luObj(o:Nat)(O:KT)(kd:D)(ok:Bool)(Q:TI)(K:Kont):Option Ent->Prop
 |some (_,.map z G)=>z=O/\LkVC G kd (Rl ok {use:=[o]} K) (kMiss Q ok {use:=[o]} K)
 |_=>False
def Lu(h:Nat->Option Ent)(O:KT)(kd:D)(ok:Bool)(G:TI)(K:Kont):AV->Prop
 | .im (.mp z Q)=>z=O/\LkVC Q kd (Rl ok {} K) (kMiss G ok {} K)
 | .im .nilm=>kMiss G ok {} K
 | .mp o=>luObj o O kd ok G K (h o)
 |_=>False
def luKt(h:Nat->Option Ent)(m:AV)(kd:D)(ok:Bool)(K:Kont)(G:TI):Option KT->Prop
 |some z=>z.fit kd=true/\Lu h z kd ok G K m
 |none=>False
def luE(P:Program)(h:Nat->Option Ent)(m:AV)(kd:D)(ok:Bool)(K:Kont)(k:TypeId)(z:TI):Prop:=luKt h m kd ok K z (keyT P k)
def luK(P:Program)(h:Nat->Option Ent)(m:AV)(ok:Bool)(K:Kont):TK->AV->Prop
 | .map k e,.im z=>Az (luE P h m z ok K k) (tI P e)
 |_,_=>False
def QB(P:Program)(h:Nat->Option Ent)(m k:AV)(ok:Bool)(K:Kont)(ti:TI):Prop:=luK P h m ok K ti.kind k
def muObj(o:Nat)(z:KT)(kd Q:D)(K:Kont):Option Ent->Prop
 |some (true,.map G O)=>G=z/\z.fit kd=true/\K .any {use:=[o],kill:=[o],new:=[(o,(true,.map z (upd O kd Q)))]}
 |_=>False
def muKt(h:Nat->Option Ent)(o:Nat)(kd G:D)(K:Kont):Option KT->Prop
 |some z=>muObj o z kd G K (h o)
 |none=>False
def muK(P:Program)(h:Nat->Option Ent)(o:Nat)(kd z:D)(K:Kont):TK->Prop
 | .map k _=>muKt h o kd z K (keyT P k)
 | .bool| .str| .ptr _| .int _| .array _ _| .struct _| .slice _| .other=>False
def muF(n:Nat)(e:AObj)(K:Kont)(r:AV)(E:Eff):Prop:=E.kill.contains n=false/\K r {use:=n::E.use,kill:=n::E.kill,new:=E.new++[(n,(false,e))],cnt:=E.cnt}
def muOwn(P:Program)(h:Nat->Option Ent)(o n:Nat)(kd:D)(K:Kont)(z:TK):Option Ent->Prop
 |some (_,.arr T k rows)=>(o==n)=false/\muK P h o kd (.sl false k rows) (muF n (.arr T k rows) K) z
 |_=>False
def Oj(P:Program)(h:Nat->Option Ent)(K:Kont)(m k v:AV)(ti:TI):Prop:=
 match m,k,v with
 | .mp o,.im z,.im G=>muK P h o z G K ti.kind
 | .mp o,.im z,.own n=>muOwn P h o n z K ti.kind (h n)
 |_,_,_=>False
def deObj(o:Nat)(z:KT)(kd:D)(K:Kont):Option Ent->Prop
 |some (true,.map G O)=>G=z/\z.fit kd=true/\K .any {use:=[o],kill:=[o],new:=[(o,(true,.map z (del O kd)))]}
 |_=>False
def deKt(h:Nat->Option Ent)(o:Nat)(kd:D)(K:Kont):Option KT->Prop
 |some z=>deObj o z kd K (h o)
 |none=>False
def deK(P:Program)(h:Nat->Option Ent)(o:Nat)(kd:D)(K:Kont):TK->Prop
 | .map k _=>deKt h o kd K (keyT P k)
 | .bool| .str| .ptr _| .int _| .array _ _| .struct _| .slice _| .other=>False
def Q8(P:Program)(h:Nat->Option Ent)(K:Kont)(m k:AV)(ti:TI):Prop:=
 match m,k with
 | .mp o,.im z=>deK P h o z K ti.kind
 |_,_=>False
def exA(K:Kont):Option AV->Prop
 |some c=>K c {}
 |none=>False
def exD(K:Kont):Option D->Prop
 |some d=>K (.im d) {}
 |none=>False
def LQ(i:Nat)(K:Kont):AV->Prop
 | .tup z=>exA K z[i]?
 | .im (.tup ds)=>exD K ds[i]?
 |_=>False
def LR(h:Nat->Option Ent)(K:Kont):AV->Prop
 | .im (.ref z)=>K (.im (.ref z)) {}
 | .im (.ifc t d)=>K (.im (.ifc t d)) {}
 | .ptr o p=>alv o (.ptr o p) K (h o)
 | .eptr o i p=>alv o (.eptr o i p) K (h o)
 |_=>False
abbrev B0:=FuncId->List AV->(Nat->Option Ent)->Nat->Kont->Prop
def G6(V:B0)(args:List AV)(h:Nat->Option Ent)(nx:Nat)(K:Kont):AV->Prop
 | .im (.fn g first capt)=>V g ((first.map .im)++args++(capt.map .im)) h nx K
 | .clo g first capt=>V g (first++args++capt) h nx K
 |_=>False
def tkO:Option TI->Option TK
 |some ti=>some ti.kind
 |none=>none
def Sx(nx e:Nat)(K:Kont)(z:TI):Prop:=K (.own nx) {new:=[(nx,(true,.arr e z.size []))],cnt:=1}
def Ss(P:Program)(nx:Nat)(K:Kont):Option TK->Prop
 |some (.slice e)=>Az (Sx nx e K) (tI P e)
 |_=>False
def GN:Value->Bool
 | .slice none 0 0=>true
 |_=>false
def I6:Operand->Bool
 | .const v=>GN v
 | .tmp _| .global _| .func _=>false
def Qj(P:Program)(nx:Nat)(T:TypeId)(v:AV)(K:Kont):Bool->Prop
 |true=>Ss P nx K (tkO (tI P T))
 |false=>K v {}
def Qy(P:Program)(tm:List (Nat×AV))(nx:Nat)(T:TypeId)(K:Kont)(x:Operand):Prop:=Qj P nx T (evO tm x) K (I6 x && !(T==315))
def pickV(c:Bool)(K:Kont)(a b:AV):Prop:=(c=true->K a {})/\(c=false->K b {})
def Ru(a b:AV)(K:Kont):AV->Prop
 | .im (.bool c)=>pickV c K a b
 |_=>False
def Rc(nx T:Nat)(K:Kont)(ti:TI):Prop:=ti.zero.length=ti.size/\ti.size≠0/\K (.ptr nx 0) {new:=[(nx,(true,.cells T (ti.zero.map .im)))],cnt:=1}
def stBox(nx T:Nat)(K:Kont)(cs:List AV):Prop:=cs≠[]/\K (.ptr nx 0) {new:=[(nx,(true,.cells T cs))],cnt:=1}
def nilV:Value->Nat
 | .slice none 0 0=>1
 | .pointer none=>2
 | .map none=>3
 | .nilIface=>4
 |_=>0
def nilC:Operand->Nat
 | .const v=>nilV v
 | .tmp _| .global _| .func _=>0
def Ml(h:Nat->Option Ent)(op:BinOp)(x:AV)(K:Kont)(n:Nat)(ti:TI):Prop:=
 match op with
 | .eql=>IF h false K x n ti.kind
 | .neq=>IF h true K x n ti.kind
 |_=>False
def isIfc(P:Program)(T:TypeId):Bool:=match P.underlying T with
 |some (.interface _)=>true
 |_=>false
def isCon(P:Program)(T:TypeId):Bool:=match P.underlying T with
 |some (.interface _)=>false
 |some _=>true
 |none=>false
def methT(P:Program)(t:TypeId)(name:String):Option FuncId:=
 match P.info? t with
 |some i=>match i.methods.find? (·.name==name) with
  |some m=>bif m.path.isEmpty then (match m.func with
   |some (f,false)=>some f
   |_=>none) else none
  |none=>none
 |none=>none
def Dl(P:Program)(t:TypeId)(name:String):Option FuncId:=
 match P.underlying t with
 |some (.pointer _)=>none
 |some _=>methT P t name
 |none=>none
def GB(neg:Bool)(K:Kont):AV->Prop
 | .im .nili=>eqB neg K true
 | .im (.ifc _ _)=>eqB neg K false
 |_=>False
def Io(P:Program)(T:TypeId)(op:BinOp)(x:AV)(K:Kont):Prop:=
 isIfc P T=true/\match op with
 | .eql=>GB false K x
 | .neq=>GB true K x
 |_=>False
def stIfc(P:Program)(T:TypeId)(K:Kont):AV->Prop
 | .im d=>isCon P T=true/\K (.im (.ifc T d)) {}
 |_=>False
def Im(V:B0)(args:List AV)(h:Nat->Option Ent)(nx:Nat)(K:Kont)(d:D):Option FuncId->Prop
 |some f=>V f (.im d::args) h nx K
 |none=>False
def stInv(P:Program)(V:B0)(args:List AV)(h:Nat->Option Ent)(nx:Nat)(K:Kont)(m:String):AV->Prop
 | .im (.ifc t d)=>Im V args h nx K d (Dl P t m)
 |_=>False
def Jz(P:Program)(T:TypeId)(h:Nat->Option Ent)(op:BinOp)(x y:AV)(K:Kont):Nat->Prop
 |0=>Ln P T op K x y
 |1=>Az (Ml h op x K 0) (tI P T)
 |2=>Az (Ml h op x K 1) (tI P T)
 |3=>Az (Ml h op x K 2) (tI P T)
 |_+4=>Io P T op x K
def stConv:Option TK->Kont->AV->Prop
 |some (.int k),K,.im (.int _ n)=>K (.im (.int k (k.wrap n))) {}
 |_,_,_=>False
def OS(t:Option TK)(x:AV)(K:Kont):Option TI->Prop
 |some _=>stConv t K x
 |none=>False
def DF:List (List D)->Option (List Int)
 |[]=>some []
 |[.int .u8 n]::r=>(DF r).map (n:: ·)
 |_=>none
def strI(z:List Int):ByteArray:=⟨(z.map λn=>UInt8.ofNat n.toNat).toArray⟩
def byEnd(u:List Nat)(K:Kont):Option (List Int)->Prop
 |some z=>K (.im (.str (strI z))) {use:=u}
 |none=>False
def byObj(o:Nat)(K:Kont):Option Ent->Prop
 |some (_,.arr _ k rows)=>k=1/\byEnd [o] K (DF rows)
 |_=>False
def byAV(h:Nat->Option Ent)(K:Kont):AV->Prop
 | .own o=>byObj o K (h o)
 |_=>False
def byEl(h:Nat->Option Ent)(K:Kont)(x:AV):Option TK->Prop
 |some (.int .u8)=>byAV h K x
 |_=>False
def byKd(P:Program)(h:Nat->Option Ent)(K:Kont)(x:AV):TK->Prop
 | .slice e=>byEl h K x (tkO (tI P e))
 |_=>False
def bySrc(P:Program)(h:Nat->Option Ent)(K:Kont)(x:AV):Option TI->Prop
 |some z=>byKd P h K x z.kind
 |none=>False
def TK.isStr:TK->Bool
 | .str=>true
 | .bool| .ptr _| .int _| .array _ _| .struct _| .map _ _| .slice _| .other=>false
def isStr:Option TK->Bool
 |some t=>t.isStr
 |none=>false
def HU(P:Program)(h:Nat->Option Ent)(t:Option TK)(x:AV)(K:Kont)(s:Option TI):Prop:=if isStr t=true then bySrc P h K x s else OS t x K s
def stMax(K:Kont):AV->AV->Prop
 | .im (.int k a),.im (.int k' b)=>k=k'/\K (.im (.int k (max a b))) {}
 |_,_=>False
def TK.isSl:TK->Bool
 | .slice _=>true
 | .bool| .str| .ptr _| .int _| .array _ _| .struct _| .map _ _| .other=>false
def Qr(P:Program)(h:Nat->Option Ent)(nx:Nat)(s x:AV)(T:TypeId)(K:Kont)(z:TI):Prop:=z.kind.isSl=true/\Az (TL P h nx s x K) (tI P T)
def evOo(tm:List (Nat×AV)):Option Operand->Option AV
 |none=>none
 |some x=>some (evO tm x)
def bdV(z:Nat):Option AV->Option Int
 |none=>some z
 |some (.im (.int _ n))=>some n
 |some _=>none
def slIm(k:Nat)(rows:List (List D))(K:Kont):Option Int->Option Int->Prop
 |some l,some m=>0<=l/\l<=m/\m<=(rows.length:Int)/\K (.im (.sl false k ((rows.drop l.toNat).take (m - l).toNat))) {}
 |some _,none=>False
 |none,_=>False
def slStr(s:ByteArray)(K:Kont):Option Int->Option Int->Prop
 |some l,some m=>0<=l/\l<=m/\m<=(s.size:Int)/\K (.im (.str (s.extract l.toNat m.toNat))) {}
 |some _,none=>False
 |none,_=>False
def Pp(o nx:Nat)(z:Bool)(T k:Nat)(rows:List (List D))(a n:Nat)(K:Kont):Bool->Prop
 |false=>K (.osl o a n) {use:=[o]}
 |true=>z=true/\K (.own nx) {use:=[o],kill:=[o],new:=[(nx,(true,.arr T k ((rows.drop a).take n)))],cnt:=1}
def slWin(o nx:Nat)(z:Bool)(T k:Nat)(rows:List (List D))(K:Kont):Option Int->Option Int->Prop
 |some l,some m=>0<=l/\l<=m/\m<=(rows.length:Int)/\ ∃G,Pp o nx z T k rows l.toNat (m - l).toNat K G
 |some _,none=>False
 |none,_=>False
def slOwn(o nx:Nat)(O:TI)(lo z:Option AV)(K:Kont):Option Ent->Prop
 |some (G,.arr T k rows)=>k=O.size/\slWin o nx G T k rows K (bdV 0 lo) (bdV rows.length z)
 |_=>False
def slE(h:Nat->Option Ent)(nx:Nat)(lo z:Option AV)(K:Kont)(x:AV)(G:TI):Prop:=
 match x with
 | .im (.sl _ k rows)=>(k=G.size\/rows=[])/\slIm k rows K (bdV 0 lo) (bdV rows.length z)
 | .own o=>slOwn o nx G lo z K (h o)
 |_=>False
def slKs(x:AV)(lo z:Option AV)(K:Kont):Prop:=
 match x with
 | .im (.str s)=>slStr s K (bdV 0 lo) (bdV s.size z)
 |_=>False
def slK(P:Program)(h:Nat->Option Ent)(nx:Nat)(x:AV)(lo z:Option AV)(K:Kont):TK->Prop
 | .slice e=>Az (slE h nx lo z K x) (tI P e)
 | .str=>slKs x lo z K
 | .bool| .ptr _| .int _| .array _ _| .struct _| .map _ _| .other=>False
def QZ(P:Program)(h:Nat->Option Ent)(nx:Nat)(x:AV)(lo z:Option AV)(K:Kont)(ti:TI):Prop:=slK P h nx x lo z K ti.kind
def cySO(o:Nat):Option Ent->Option (List Nat×Nat×List (List D))
 |some (_,.arr _ k rows)=>some ([o],k,rows)
 |_=>none
def cySW(o a n:Nat):Option Ent->Option (List Nat×Nat×List (List D))
 |some (_,.arr _ k rows)=>some ([o],k,(rows.drop a).take n)
 |_=>none
def Lq(h:Nat->Option Ent):AV->Option (List Nat×Nat×List (List D))
 | .im (.sl _ k rows)=>some ([],k,rows)
 | .own o=>cySO o (h o)
 | .osl o a n=>cySW o a n (h o)
 |_=>none
def cyDO(o:Nat):Option Ent->Option (Nat×Nat×Nat×TypeId×Nat×List (List D))
 |some (true,.arr T k rows)=>some (o,0,rows.length,T,k,rows)
 |_=>none
def cyDW(o a n:Nat):Option Ent->Option (Nat×Nat×Nat×TypeId×Nat×List (List D))
 |some (true,.arr T k rows)=>some (o,a,n,T,k,rows)
 |_=>none
def H5(h:Nat->Option Ent):AV->Option (Nat×Nat×Nat×TypeId×Nat×List (List D))
 | .own o=>cyDO o (h o)
 | .osl o a n=>cyDW o a n (h o)
 |_=>none
def Li(rows:List (List D))(a m:Nat)(src:List (List D)):List (List D):=rows.take a++src.take m++rows.drop (a+m)
def cyGo(G:TI)(K:Kont):Option (List Nat×Nat×List (List D))->Option (Nat×Nat×Nat×TypeId×Nat×List (List D))->Prop
 |some (u,ks,z),some (o,a,n,T,k,rows)=>k=G.size/\(ks=G.size\/z=[])/\G.size≠0/\OneR allD z/\
  K (.im (.int .i64 (min z.length n:Nat))) {use:=o::u,kill:=[o],new:=[(o,(true,.arr T k (Li rows a (min z.length n) z)))]}
 |some _,none=>False
 |none,_=>False
def cyK(P:Program)(h:Nat->Option Ent)(d s:AV)(K:Kont):TK->Prop
 | .slice e=>Az (λz=>cyGo z K (Lq h s) (H5 h d)) (tI P e)
 | .bool| .str| .ptr _| .int _| .array _ _| .struct _| .map _ _| .other=>False
def Rs(P:Program)(h:Nat->Option Ent)(d s:AV)(K:Kont)(ti:TI):Prop:=cyK P h d s K ti.kind
def clGo(z:TI)(K:Kont):Option (Nat×Nat×Nat×TypeId×Nat×List (List D))->Prop
 |some (o,a,n,T,k,rows)=>k=z.size/\z.size≠0/\z.zero.length=z.size/\allD z.zero=true/\
  K .any {use:=[o],kill:=[o],new:=[(o,(true,.arr T k (Li rows a n (List.replicate n z.zero))))]}
 |none=>False
def clK(P:Program)(h:Nat->Option Ent)(d:AV)(K:Kont):TK->Prop
 | .slice e=>Az (λz=>clGo z K (H5 h d)) (tI P e)
 | .bool| .str| .ptr _| .int _| .array _ _| .struct _| .map _ _| .other=>False
def QR(P:Program)(h:Nat->Option Ent)(d:AV)(K:Kont)(ti:TI):Prop:=clK P h d K ti.kind
def rgObj(nx o:Nat)(K:Kont):Option Ent->Prop
 |some (O,.map G z)=>K (.it nx) {use:=[o],kill:=[o],new:=[(nx,(true,.iter none z)),(o,(false,.map G z))],cnt:=1}
 |_=>False
def rgD(nx:Nat)(K:Kont):D->Prop
 | .mp _ z=>K (.it nx) {new:=[(nx,(true,.iter none z))],cnt:=1}
 |_=>False
def rgM(h:Nat->Option Ent)(nx:Nat)(K:Kont):AV->Prop
 | .mp o=>rgObj nx o K (h o)
 | .im d=>rgD nx K d
 |_=>False
def rgK(h:Nat->Option Ent)(nx:Nat)(x:AV)(K:Kont):TK->Prop
 | .map _ _=>rgM h nx K x
 | .bool| .str| .ptr _| .int _| .array _ _| .struct _| .slice _| .other=>False
def QX(h:Nat->Option Ent)(nx:Nat)(x:AV)(K:Kont)(ti:TI):Prop:=rgK h nx x K ti.kind
def nxGo(o:Nat)(left:List (D×D))(K:Kont)(i:Nat)(p:D×D):Prop:=
 K (.tup [.im (.bool true),.im p.1,.im p.2]) {use:=[o],kill:=[o],new:=[(o,(true,.iter (some p) (left.eraseIdx i)))]}
def nxObj(o:Nat)(K:Kont):Option Ent->Prop
 |some (true,.iter _ left)=>(left=[]->K (.tup [.im (.bool false)]) {use:=[o]})/\ ∀i p,left[i]? =some p->nxGo o left K i p
 |_=>False
def HG(h:Nat->Option Ent)(K:Kont):AV->Prop
 | .it o=>nxObj o K (h o)
 |_=>False
def nxSq(h:Nat->Option Ent)(x:AV)(K:Kont):Bool->Prop
 |true=>HG h K x
 |false=>False
def enObj(o:Nat)(K:Kont):Option Ent->Prop
 |some (true,.iter (some p) _)=>K (.im (.tup [p.1,p.2])) {use:=[o]}
 |_=>False
def Re(h:Nat->Option Ent)(K:Kont):AV->Prop
 | .it o=>enObj o K (h o)
 |_=>False
def H4(P:Program)(t:TypeId):Option TypeId:=match P.underlying t with
 |some (.chan _ e)=>some e
 |_=>none
def mcE(nx:Nat)(n:Int)(K:Kont)(z:TI):Prop:=0<=n/\n<=1073741824/\z.bytes<=65536/\K (.ch nx) {new:=[(nx,(true,.chan [] n.toNat))],cnt:=1}
def mcV(P:Program)(nx:Nat)(K:Kont)(e:TypeId):AV->Prop
 | .im (.int .i64 n)=>Az (mcE nx n K) (tI P e)
 |_=>False
def mcK(P:Program)(nx:Nat)(x:AV)(K:Kont):Option TypeId->Prop
 |some e=>mcV P nx K e x
 |none=>False
def PY(P:Program)(nx:Nat)(x:AV)(K:Kont)(T:TypeId):Prop:=mcK P nx x K (H4 P T)
def lnChO(o:Nat)(K:Kont):Option Ent->Prop
 |some (_,.chan q _)=>kInt K {use:=[o]} q.length
 |_=>False
def lnCh(o:Nat)(h:Nat->Option Ent)(K:Kont):Option TypeId->Prop
 |some _=>lnChO o K (h o)
 |none=>False
def sdGo(o:Nat)(d:D)(K:Kont):Option Ent->Prop
 |some (true,.chan q cap)=>q.length<cap/\K .any {use:=[o],kill:=[o],new:=[(o,(true,.chan (q++[d]) cap))]}
 |_=>False
def stSend(h:Nat->Option Ent)(c x:AV)(K:Kont):Prop:=
 match c,x with
 | .ch o,.im d=>sdGo o d K (h o)
 |_,_=>False
def rvGo(o:Nat)(K:Kont):Option Ent->Prop
 |some (true,.chan q cap)=>q≠[]/\ ∀d r,q=d::r->K (.im d) {use:=[o],kill:=[o],new:=[(o,(true,.chan r cap))]}
 |_=>False
def rvC(h:Nat->Option Ent)(K:Kont):AV->Prop
 | .ch o=>rvGo o K (h o)
 |_=>False
def rvE(h:Nat->Option Ent)(c:AV)(K:Kont)(z:TI):Prop:=z.zero.length=z.size/\z.size≠0/\rvC h K c
def rvK(P:Program)(h:Nat->Option Ent)(c:AV)(K:Kont):Option TypeId->Prop
 |some e=>Az (rvE h c K) (tI P e)
 |none=>False
def stRecv(P:Program)(h:Nat->Option Ent)(T:TypeId)(c:AV)(K:Kont):Prop:=rvK P h c K (H4 P T)
def eqUn(neg:Bool)(K:Kont)(E:Eff){α:Type}(rows:List α):Prop:= ∀b:Bool,(b=true->rows=[])->K (.im (.bool (neg !=b))) E
def eqUnO(o:Nat)(neg:Bool)(K:Kont):Option Ent->Prop
 |some (_,.arr _ _ rows)=>eqUn neg K {use:=[o]} rows
 |some (_,.arrA _ _ rows)=>eqUn neg K {use:=[o]} rows
 |_=>False
def F4(h:Nat->Option Ent)(neg:Bool)(K:Kont):AV->Prop
 | .im (.sl _ _ rows)=>eqUn neg K {} rows
 | .own o=>eqUnO o neg K (h o)
 |_=>False
def Ea:D->Bool
 | .sl z _ _=>z
 | .int _ _| .bool _| .str _| .nilp| .nilf| .nili| .nilc| .nilm| .agg _| .tup _| .ref _| .mp _ _| .fn _ _ _| .ifc _ _| .gp _| .tok _=>true
def isKn:AV->Bool
 | .im d=>Ea d
 | .own _=>false
 | .any| .agg _| .tup _| .ptr _ _| .eptr _ _ _| .mp _| .ch _| .it _| .osl _ _ _| .clo _ _ _=>true
def unS(z:Bool)(x:AV)(n:Nat):Bool:=z && (n==1 && !isKn x)
def GW(P:Program)(h:Nat->Option Ent)(T:TypeId)(op:BinOp)(x:AV)(K:Kont):TK->Prop
 | .slice _=>(match op with
   | .eql=>F4 h false K x
   | .neq=>F4 h true K x
   |_=>False)
 | .bool| .str| .ptr _| .int _| .array _ _| .struct _| .map _ _| .other=>False
def Ra(P:Program)(h:Nat->Option Ent)(T:TypeId)(op:BinOp)(x:AV)(K:Kont)(ti:TI):Prop:=GW P h T op x K ti.kind
def stBinS(P:Program)(z:Bool)(T:TypeId)(h:Nat->Option Ent)(op:BinOp)(x y:AV)(K:Kont)(n:Nat):Prop:=
 if unS z x n=true then Az (Ra P h T op x K) (tI P T) else Jz P T h op x y K n
def Fk(P:Program)(z:Bool)(h:Nat->Option Ent)(T:TypeId)(K:Kont):AV->Prop
 | .ch o=>lnCh o h K (H4 P T)
 | .im d=>Az (Ls z h (.im d) K) (tI P T)
 | .own o=>Az (Ls z h (.own o) K) (tI P T)
 | .osl o a n=>Az (Ls z h (.osl o a n) K) (tI P T)
 | .mp o=>Az (Ls z h (.mp o) K) (tI P T)
 | .any| .agg _| .tup _| .ptr _ _| .eptr _ _ _| .it _| .clo _ _ _=>False
def Jd(P:Program)(z:Bool)(h:Nat->Option Ent)(nx:Nat)(K:Kont):Builtin->List AV->List TypeId->Prop
 | .len,[x],[T]=>Fk P z h T K x
 | .append,[s,x],[T,U]=>Az (Qr P h nx s x T K) (tI P U)
 | .delete,[m,k],T::_=>Az (Q8 P h K m k) (tI P T)
 | .copy,[d,s],[T,_]=>Az (Rs P h d s K) (tI P T)
 | .clear,[d],[T]=>Az (QR P h d K) (tI P T)
 | .max,[x,y],_=>stMax K x y
 |_,_,_=>False
def OL(P:Program)(V:B0)(z:Bool)(tm:List (Nat×AV))(h:Nat->Option Ent)(nx:Nat)(args:List AV)(G:List TypeId)(K:Kont):Callee->Prop
 | .value f=>G6 V args h nx K (evO tm f)
 | .builtin b=>Jd P z h nx K b args G
 | .invoke r m=>stInv P V args h nx K m (evO tm r)
def mmKt(nx:Nat)(K:Kont):Option KT->Prop
 |some z=>K (.mp nx) {new:=[(nx,(true,.map z []))],cnt:=1}
 |none=>False
def mmK(P:Program)(nx:Nat)(K:Kont):TK->Prop
 | .map k _=>mmKt nx K (keyT P k)
 | .bool| .str| .ptr _| .int _| .array _ _| .struct _| .slice _| .other=>False
def Qn(P:Program)(nx:Nat)(K:Kont)(ti:TI):Prop:=mmK P nx K ti.kind
def evL(tm:List (Nat×AV)):List Operand->List AV
 |[]=>[]
 |x::r=>evO tm x::evL tm r
def evP(tm:List (Nat×AV)):List (Nat×Operand)->List (Nat×AV)
 |[]=>[]
 |(i,x)::r=>(i,evO tm x)::evP tm r
def QO(h:Nat->Option Ent)(x:AV)(K:Kont)(ti:TI):Prop:=IJ h ti K x
def PO(P:Program)(h:Nat->Option Ent)(x i:AV)(K:Kont)(ti:TI):Prop:=S5 P h x ti K i
def QC(P:Program)(x i:AV)(K:Kont)(ti:TI):Prop:=Uy P x ti K i
def cpO2(o:Nat)(T:TypeId)(cs:List AV):Option (List D)->Option (D×Ag)
 |some ds=>some (.ref ds,[(o,(false,.cells T cs))])
 |none=>none
def cpO(o:Nat):Option Ent->Option (D×Ag)
 |some (_,.cells T z)=>cpO2 o T z (BQ z)
 |some (_,.arr _ _ _)=>none
 |some (_,.arrA _ _ _)=>none
 |some (_,.map _ _)=>none
 |some (_,.chan _ _)=>none
 |some (_,.iter _ _)=>none
 |some (_,.view _)=>none
 |none=>none
def cpD(h:Nat->Option Ent):AV->Option (D×Ag)
 | .im d=>some (d,[])
 | .ptr o 0=>cpO o (h o)
 | .ptr _ (_+1)=>none
 | .any=>none
 | .agg _=>none
 | .tup _=>none
 | .eptr _ _ _=>none
 | .own _=>none
 | .mp _=>none
 | .ch _=>none
 | .it _=>none
 | .osl _ _ _=>none
 | .clo _ _ _=>none
def cpC:Option (D×Ag)->Option (List D×Ag)->Option (List D×Ag)
 |some (d,E),some (ds,F)=>some (d::ds,E++F)
 |some _,none=>none
 |none,_=>none
def cpL(h:Nat->Option Ent):List AV->Option (List D×Ag)
 |[]=>some ([],[])
 |x::r=>cpC (cpD h x) (cpL h r)
def hnm:Ag->List Nat
 |[]=>[]
 |(n,_)::r=>n::hnm r
def Rr(f:FuncId)(a b:List D)(first capt:List AV)(K:Kont):Ag->Prop
 |[]=>K (.im (.fn f a b)) {}
 |e::r=>K (.im (.fn f a b)) {use:=hnm (e::r),kill:=hnm (e::r),new:=e::r}\/K (.clo f first capt) {}
def F9(f:FuncId)(first capt:List AV)(K:Kont):Option (List D×Ag)->Option (List D×Ag)->Prop
 |some (a,E),some (b,F)=>Rr f a b first capt K (E++F)
 |some _,none=>K (.clo f first capt) {}
 |none,_=>K (.clo f first capt) {}
def step(P:Program)(V:B0)(G:Bool)(tm:List (Nat×AV))(h:Nat->Option Ent)(nx:Nat)(T:TypeId)(K:Kont):Op->Prop
 | .move x=>K (evO tm x) {}
 | .assign x=>Qy P tm nx T K x
 | .pick c a b=>Ru (evO tm a) (evO tm b) K (evO tm c)
 | .alloc T=>Az (Rc nx T K) (tI P T)
 | .box T x=>stBox nx T K (evO tm x).cells
 | .build T z=>Az (Rd P (evP tm z.toList) K) (tI P T)
 | .buildSlice T n z=>Az (PN P nx n (evP tm z.toList) K) (tI P T)
 | .load T x=>Az (QO h (evO tm x) K) (tI P T)
 | .store T x v=>Az (QN h (evO tm x) (evO tm v) K) (tI P T)
 | .nilCheck x=>LR h K (evO tm x)
 | .binOp op T x y _=>stBinS P G T h op (evO tm x) (evO tm y) K (nilC y)
 | .unOp op _ x=>stUn K op (evO tm x)
 | .convert S T x=>HU P h (tkO (tI P T)) (evO tm x) K (tI P S)
 | .makeFunc (.func f) first capt=>Nat.blt f 1000000000=true/\F9 f (evL tm first.toList) (evL tm capt.toList) K (cpL h (evL tm first.toList)) (cpL h (evL tm capt.toList))
 | .makeMap T none=>Az (Qn P nx K) (tI P T)
 | .makeSlice T l c=>Az (PW P nx (evO tm l) (evO tm c) K) (tI P T)
 | .fieldAddr T x f=>Az (PV h (evO tm x) f K) (tI P T)
 | .indexAddr T x i=>Az (PO P h (evO tm x) (evO tm i) K) (tI P T)
 | .index T x i=>Az (QC P (evO tm x) (evO tm i) K) (tI P T)
 | .lookup T m k ok=>Az (QB P h (evO tm m) (evO tm k) ok K) (tI P T)
 | .mapUpdate T m k v=>Az (Oj P h K (evO tm m) (evO tm k) (evO tm v)) (tI P T)
 | .extract x i=>LQ i K (evO tm x)
 | .call c=>OL P V G tm h nx (evL tm c.args.toList) c.argTypes.toList K c.callee
 | .slice T x lo O none=>Az (QZ P h nx (evO tm x) (evOo tm lo) (evOo tm O) K) (tI P T)
 | .range T x=>Az (QX h nx (evO tm x) K) (tI P T)
 | .next x false=>nxSq h (evO tm x) K G
 | .entry x=>Re h K (evO tm x)
 | .makeChan T x=>PY P nx (evO tm x) K T
 | .makeInterface T x=>stIfc P T K (evO tm x)
 |_=>False
inductive Ex where
 |normal
 |exit (id:Nat)
 |ret
abbrev Be:=Ex->Ac->Prop
def I4(t:Option Nat)(z:Bool)(s:Ac)(O G:Ac->Prop):AV->Prop
 | .im (.bool b)=>(b=z->O (s.put t (.im (.bool z))))/\(b= !z->G (s.put t (.im (.bool (!z)))))
 | .im (.tup [])=>G s
 |_=>False
def belH(n:Nat):Ag->Bool
 |[]=>true
 |(_,(_,.cells _ z))::r=>belL n z && belH n r
 |(_,(_,.arrA _ _ rows))::r=>rows.all (belL n) && belH n r
 |(_,(_,.arr _ _ _))::r=>belH n r
 |(_,(_,.map _ _))::r=>belH n r
 |(_,(_,.chan _ _))::r=>belH n r
 |(_,(_,.iter _ _))::r=>belH n r
 |(_,(_,.view _))::r=>belH n r
def EH(kill:List Nat)(nx cnt n:Nat):Bool:=(Nat.ble nx n && Nat.blt n (nx+cnt))||(kill.contains n && Nat.blt n nx)
def D8(kill:List Nat)(nx cnt:Nat):Ag->Bool
 |[]=>true
 |(n,_)::r=>EH kill nx cnt n && D8 kill nx cnt r
def Eff.ok(E:Eff)(nx:Nat)(r:AV):Bool:=r.bel (nx+E.cnt) && (belH (nx+E.cnt) E.new && D8 E.kill nx E.cnt E.new)
def Ac.app_nr(tm:List (Nat×AV))(h:Ag)(nx:Nat)(dst:Option Nat)(r:AV)(u k:List Nat)(nw:Ag)(c:Nat):Ac.app ⟨tm,h,nx⟩ dst r ⟨u,k,nw,c⟩=(⟨tm,nw++hdel h k,nx+c⟩:Ac).put dst r:=by
 cases dst<;>rfl
def Eff.ok_nr(u k:List Nat)(nw:Ag)(c nx:Nat)(r:AV):Eff.ok ⟨u,k,nw,c⟩ nx r=(r.bel (nx+c) && (belH (nx+c) nw && D8 k nx c nw)):=by
 cases c<;>rfl
structure SOp where
 dst:Option Nat
 op:Op
 type:TypeId
 gd:Option (Option Nat×Bool)
def IN(ops:Array Oper):Option (Nat×Bool)->Option (Option Nat×Bool)
 |none=>none
 |some (j,w)=>some ((ops[j]?).bind (·.dst),w)
def CU(ops:Array Oper):List Oper->List SOp
 |[]=>[]
 |o::r=>⟨o.dst,o.op,o.type,IN ops o.guard⟩::CU ops r
def kont(z:Ac->Prop)(s:Ac)(dst:Option Nat)(r:AV)(E:Eff):Prop:=E.ok s.nx r=true/\z (s.app dst r E)
def BV(P:Program)(V:B0)(tm:List (Nat×AV))(h:Nat->Option Ent)(nx:Nat)(ty:TypeId)(K:Kont):Op->Prop
 | .send c x=>stSend h (evO tm c) (evO tm x) K
 | .recv T c false=>stRecv P h T (evO tm c) K
 |op=>step P V true tm h nx ty K op
def stepS(P:Program)(V:B0)(dst:Option Nat)(op:Op)(ty:TypeId)(z:Ac->Prop)(s:Ac):Prop:=
 BV P V s.tm (hget s.h) s.nx ty (kont z s dst) op
def skipS(dst:Option Nat)(z:Ac->Prop)(s:Ac):Prop:=z (s.put dst (.im (.tup [])))
def grdS(P:Program)(V:B0)(dst:Option Nat)(op:Op)(ty:TypeId)(z:Bool)(G:Ac->Prop)(s:Ac):Option Nat->Prop
 |some t=>I4 (some t) z s (stepS P V dst op ty G) (skipS dst G) (tget s.tm t)
 |none=>False
def opS(P:Program)(V:B0)(dst:Option Nat)(op:Op)(ty:TypeId)(G:Ac->Prop)(s:Ac):Option (Option Nat×Bool)->Prop
 |none=>stepS P V dst op ty G s
 |some (t,z)=>grdS P V dst op ty z G s t
def rgS(P:Program)(V:B0):List SOp->(Ac->Prop)->Ac->Prop
 |[],K,s=>K s
 |⟨dst,op,ty,gd⟩::z,K,s=>opS P V dst op ty (rgS P V z K) s gd
structure Fp where
 i:Nat
 use:List Nat
 touch:List Nat
 nx:Nat
 cnt:Nat
def Fg:Ag->List Nat
 |[]=>[]
 |(n,_)::r=>n::Fg r
def nmsH:Ag->List Nat
 |[]=>[]
 |(_,(_,e))::r=>e.nms++nmsH r
def E9:List Nat->List Nat->Bool
 |[],_=>true
 |x::r,l=> !l.contains x && E9 r l
def outN(nx cnt:Nat):List Nat->Bool
 |[]=>true
 |x::r=>(Nat.blt x nx||Nat.ble (nx+cnt) x) && outN nx cnt r
def bnd:Ground->Bool
 | .data=>true
 | .chain=>true
 | .guard=>true
 | .phase=>true
 | .textOnly _=>false
 | .gcOnly _=>false
def nthL:List (List Nat)->Nat->List Nat
 |[],_=>[]
 |x::_,0=>x
 |_::r,n+1=>nthL r n
def ins(x:Nat)(l:List Nat):List Nat:=bif l.contains x then l else x::l
def insL:List Nat->List Nat->List Nat
 |[],l=>l
 |x::r,l=>ins x (insL r l)
def cloE(acc:List (List Nat)):List Edge->List Nat
 |[]=>[]
 |e::r=>bif bnd e.ground then insL (e.on::nthL acc e.on) (cloE acc r) else cloE acc r
def Cl:List Oper->List (List Nat)->List (List Nat)
 |[],acc=>acc
 |o::r,acc=>Cl r (acc++[cloE acc o.after.toList])
def ordB(cl:List (List Nat))(i j:Nat):Bool:=(nthL cl j).contains i
def ckP(cl:List (List Nat))(j:Nat)(use touch z:List Nat)(f:Fp):Bool:=
 bif E9 (use++touch) f.touch && (E9 touch f.use && outN f.nx f.cnt z) then true else ordB cl f.i j
def Ek(cl:List (List Nat))(j:Nat)(use touch z:List Nat):List Fp->Bool
 |[]=>true
 |f::r=>ckP cl j use touch z f && Ek cl j use touch z r
def Eff.touch(E:Eff):List Nat:=E.kill++Fg E.new
abbrev AGo:=List Fp->Ac->Prop
def FL(cl:List (List Nat))(i:Nat)(acc:List Fp)(z:AGo)(s:Ac)(dst:Option Nat)(r:AV)(E:Eff):Prop:=
 E.ok s.nx r=true/\Ek cl i (E.use++E.kill) E.touch (E.touch++(r.nms++nmsH E.new)) acc=true/\z (⟨i,E.use++E.kill,E.touch,s.nx,E.cnt⟩::acc) (s.app dst r E)
def stepA(P:Program)(V:B0)(cl:List (List Nat))(i:Nat)(acc:List Fp)(dst:Option Nat)(op:Op)(ty:TypeId)(z:AGo)(s:Ac):Prop:=
 step P V false s.tm (hget s.h) s.nx ty (FL cl i acc z s dst) op
def skipA(dst:Option Nat)(acc:List Fp)(z:AGo)(s:Ac):Prop:=z acc (s.put dst (.im (.tup [])))
def grdA(P:Program)(V:B0)(cl:List (List Nat))(i:Nat)(acc:List Fp)(dst:Option Nat)(op:Op)(ty:TypeId)(z:Bool)(G:AGo)(s:Ac):Option Nat->Prop
 |some t=>I4 (some t) z s (stepA P V cl i acc dst op ty G) (skipA dst acc G) (tget s.tm t)
 |none=>False
def opA(P:Program)(V:B0)(cl:List (List Nat))(i:Nat)(acc:List Fp)(dst:Option Nat)(op:Op)(ty:TypeId)(G:AGo)(s:Ac):Option (Option Nat×Bool)->Prop
 |none=>stepA P V cl i acc dst op ty G s
 |some (t,z)=>grdA P V cl i acc dst op ty z G s t
def rgA(P:Program)(V:B0)(cl:List (List Nat)):List SOp->Nat->(Ac->Prop)->AGo
 |[],_,K,_,s=>K s
 |⟨dst,op,ty,gd⟩::z,i,K,acc,s=>opA P V cl i acc dst op ty (rgA P V cl z (i+1) K) s gd
def thenQ(K:Ac->Prop)(Q:Be):Be
 | .normal,s=>K s
 | .exit i,s=>Q (.exit i) s
 | .ret,s=>Q .ret s
def exitQ(i:Nat)(Q:Be)(s:Ac):Bool->Prop
 |true=>Q .normal s
 |false=>Q (.exit i) s
def Mr(id:Nat)(Q:Be):Be
 | .normal,s=>Q .normal s
 | .exit i,s=>exitQ i Q s (i==id)
 | .ret,s=>Q .ret s
def Pq(A B:Be->Ac->Prop)(Q:Be)(s:Ac):AV->Prop
 | .im (.bool b)=>(b=true->A Q s)/\(b=false->B Q s)
 |_=>False
def subT(s:Ac):List (Nat×AV)->Prop
 |[]=>True
 |(t,x)::r=>tget s.tm t=x/\subT s r
def subH(s:Ac):Ag->Prop
 |[]=>True
 |(o,e)::r=>hget s.h o=some e/\subH s r
def sub(s s':Ac):Prop:=subT s s'.tm/\subH s s'.h
def belT(n:Nat):List (Nat×AV)->Bool
 |[]=>true
 |(_,x)::r=>x.bel n && belT n r
def Ai(n:Nat):Ag->Bool
 |[]=>true
 |(m,_)::r=>Nat.blt m n && Ai n r
def Ac.good(s:Ac):Bool:=belT s.nx s.tm && (belH s.nx s.h && Ai s.nx s.h)
def pm:List (Nat×Option Nat)->Nat->Option Nat
 |[],n=>some n
 |(a,b)::r,n=>if a=n then b else pm r n
def nilA:AV->Prop
 | .im (.sl true _ [])=>True
 |_=>False
def ownM(x:AV):Option Nat->Prop
 |some m=>x= .own m
 |none=>nilA x
def Dv(f:Nat->AV)(x:AV):Option Nat->Prop
 |some m=>x=f m
 |none=>False
mutual
def mt(π:List (Nat×Option Nat)):AV->AV->Prop
 | .any,_=>True
 | .im d,x=>x= .im d
 | .own n,x=>ownM x (pm π n)
 | .ptr n p,x=>Dv (λm=> .ptr m p) x (pm π n)
 | .eptr n i p,x=>Dv (λm=> .eptr m i p) x (pm π n)
 | .mp n,x=>Dv .mp x (pm π n)
 | .ch n,x=>Dv .ch x (pm π n)
 | .it n,x=>Dv .it x (pm π n)
 | .osl n a k,x=>Dv (λm=> .osl m a k) x (pm π n)
 | .agg z,.agg ds=>mtL π z ds
 | .agg z,.im (.agg ds)=>mtL π z (ds.map .im)
 | .agg _,_=>False
 | .tup _,_=>False
 | .clo _ _ _,_=>False
def mtL(π:List (Nat×Option Nat)):List AV->List AV->Prop
 |[],[]=>True
 |x::r,y::s=>mt π x y/\mtL π r s
 |[],_::_=>False
 |_::_,[]=>False
end
def mtR(π:List (Nat×Option Nat)):List (List AV)->List (List AV)->Prop
 |[],[]=>True
 |x::r,y::s=>mtL π x y/\mtR π r s
 |[],_::_=>False
 |_::_,[]=>False
def mtE(π:List (Nat×Option Nat)):AObj->AObj->Prop
 | .cells T G,.cells U ds=>T=U/\mtL π G ds
 | .cells _ _,_=>False
 | .arr T k rows,e=>e= .arr T k rows
 | .arrA T k rows,.arrA U k' z=>T=U/\k=k'/\mtR π rows z
 | .arrA T k rows,.arr U k' z=>T=U/\k=k'/\mtR π rows (imR z)
 | .arrA _ _ _,.cells _ _=>False
 | .arrA _ _ _,.map _ _=>False
 | .arrA _ _ _,.chan _ _=>False
 | .arrA _ _ _,.iter _ _=>False
 | .arrA _ _ _,.view _=>False
 | .map Q O,e=>e= .map Q O
 | .chan q c,e=>e= .chan q c
 | .iter a l,e=>e= .iter a l
 | .view G,e=>e= .view G
def entM(π:List (Nat×Option Nat))(G:Bool)(e':AObj):Option Ent->Prop
 |some (z,e)=>z=G/\mtE π e' e
 |none=>False
def nilE:Bool->AObj->Prop
 |true,.arr _ _ []=>True
 |true,.arrA _ _ []=>True
 |_,_=>False
def entN(s:Ac)(π:List (Nat×Option Nat))(z:Bool)(e':AObj):Option Nat->Prop
 |some m=>entM π z e' (hget s.h m)
 |none=>nilE z e'
def Gx(π:List (Nat×Option Nat))(s:Ac):List (Nat×AV)->Prop
 |[]=>True
 |(t,x)::r=>mt π x (tget s.tm t)/\Gx π s r
def Dw(π:List (Nat×Option Nat))(s:Ac):Ag->Prop
 |[]=>True
 |(n,(z,e))::r=>entN s π z e (pm π n)/\Dw π s r
def geP(lo:Nat):List (Nat×Option Nat)->Prop
 |[]=>True
 |(a,_)::r=>lo<=a/\geP lo r
def imP(π:List (Nat×Option Nat)):Ag->List (Option Nat)
 |[]=>[]
 |(n,_)::r=>pm π n::imP π r
def nodS:List (Option Nat)->Bool
 |[]=>true
 |none::r=>nodS r
 |some m::r=> !r.contains (some m) && nodS r
def subP(lo:Nat)(π:List (Nat×Option Nat))(s s':Ac):Prop:=geP lo π/\nodS (imP π s'.h)=true/\Gx π s s'.tm/\Dw π s s'.h
def loopQ{β:Type}(I:β->Ac)(μ:β->Nat)(b:β)(Q:Be):Be
 | .normal,s=> ∃b',μ b'<μ b/\sub s (I b')
 | .exit i,s=>Q (.exit i) s
 | .ret,s=>Q .ret s
def loopP{β:Type}(lo:Nat)(I:β->Ac)(μ:β->Nat)(b:β)(Q:Be):Be
 | .normal,s=> ∃b' π,μ b'<μ b/\subP lo π s (I b')
 | .exit i,s=>Q (.exit i) s
 | .ret,s=>Q .ret s
def Jn(body:Be->Ac->Prop)(Q:Be)(s:Ac):Prop:=
 ∃(β:Type) (I:β->Ac) (μ:β->Nat),(∀b,(I b).good=true/\s.nx<=(I b).nx)/\(∃b,sub s (I b))/\ ∀b,body (loopQ I μ b Q) (I b)
def QY(body:Be->Ac->Prop)(Q:Be)(s:Ac):Prop:=
 ∃(β:Type) (I:β->Ac) (μ:β->Nat),(∀b,(I b).good=true/\s.nx<=(I b).nx)/\(∃b π,subP s.nx π s (I b))/\ ∀b,body (loopP s.nx I μ b Q) (I b)
def frzH(F:List Nat):Ag->Ag
 |[]=>[]
 |(n,(z,e))::r=>(n,(z && !F.contains n,e))::frzH F r
def frzS(F:List Nat)(s:Ac):Ac:=⟨s.tm,frzH F s.h,s.nx⟩
def LoopVC2(body:Be->Ac->Prop)(Q:Be)(s:Ac):Prop:= ∃F:List Nat,Jn body Q (frzS F s)
def objD(n:Nat):AObj->AV
 | .arr _ w rows=> .im (.sl false w rows)
 | .cells _ _=> .own n
 | .arrA _ _ _=> .own n
 | .map _ _=> .own n
 | .chan _ _=> .own n
 | .iter _ _=> .own n
 | .view _=> .own n
def ownD(n:Nat):Option Ent->AV
 |some e=>objD n e.2
 |none=> .own n
mutual
def AV.fzA(F:List Nat)(H:Ag):AV->AV
 | .own n=>bif F.contains n then ownD n (hget H n) else .own n
 | .agg z=> .agg (fzAL F H z)
 | .any=> .any
 | .im d=> .im d
 | .tup z=> .tup z
 | .ptr o p=> .ptr o p
 | .eptr o i p=> .eptr o i p
 | .mp o=> .mp o
 | .ch o=> .ch o
 | .it o=> .it o
 | .osl o a n=> .osl o a n
 | .clo f a c=> .clo f a c
def fzAL(F:List Nat)(H:Ag):List AV->List AV
 |[]=>[]
 |x::r=>x.fzA F H::fzAL F H r
end
def fzAR(F:List Nat)(H:Ag):List (List AV)->List (List AV)
 |[]=>[]
 |x::r=>fzAL F H x::fzAR F H r
def AObj.fzA(F:List Nat)(H:Ag):AObj->AObj
 | .cells T z=> .cells T (fzAL F H z)
 | .arrA T k rows=> .arrA T k (fzAR F H rows)
 | .arr T k rows=> .arr T k rows
 | .map O G=> .map O G
 | .chan q c=> .chan q c
 | .iter a l=> .iter a l
 | .view z=> .view z
def fzAT(F:List Nat)(H:Ag):List (Nat×AV)->List (Nat×AV)
 |[]=>[]
 |(t,x)::r=>(t,x.fzA F H)::fzAT F H r
def fzAH(F:List Nat)(H:Ag):Ag->Ag
 |[]=>[]
 |(n,(z,e))::r=>(n,(z && !F.contains n,e.fzA F H))::fzAH F H r
def fzAS(F:List Nat)(s:Ac):Ac:=⟨fzAT F s.h s.tm,fzAH F s.h s.h,s.nx⟩
def loopF{β:Type}(lo:Nat)(I:β->Ac)(μ:β->Nat)(b:β)(Q:Be):Be
 | .normal,s=> ∃b' F π,μ b'<μ b/\subP lo π (fzAS F s) (I b')
 | .exit i,s=>Q (.exit i) s
 | .ret,s=>Q .ret s
def QW(body:Be->Ac->Prop)(Q:Be)(s:Ac):Prop:=
 ∃(β:Type) (I:β->Ac) (μ:β->Nat),(∀b,(I b).good=true/\s.nx<=(I b).nx)/\(∃b F π,subP s.nx π (fzAS F s) (I b))/\ ∀b,body (loopF s.nx I μ b Q) (I b)
def Au(body:Be->Ac->Prop)(Q:Be)(s:Ac):Prop:=Jn body Q s\/QY body Q s\/LoopVC2 body Q s\/QW body Q s
def Au.frr{body:Be->Ac->Prop}{Q:Be}{s:Ac}(h:QW body Q s):Au body Q s:=Or.inr (Or.inr (Or.inr h))
def Au.old{body:Be->Ac->Prop}{Q:Be}{s:Ac}(h:Jn body Q s):Au body Q s:=Or.inl h
def Au.ren{body:Be->Ac->Prop}{Q:Be}{s:Ac}(h:QY body Q s):Au body Q s:=Or.inr (Or.inl h)
def Au.frz{body:Be->Ac->Prop}{Q:Be}{s:Ac}(F:List Nat)(h:Jn body Q (frzS F s)):Au body Q s:=Or.inr (Or.inr (Or.inl ⟨F,h⟩))
def awp(P:Program)(V:B0):Code->Be->Ac->Prop
 | .skip,Q,s=>Q .normal s
 | .region _ ops false,Q,s=>rgS P V (CU ops ops.toList) (Q .normal) s
 | .region _ ops true,Q,s=>rgA P V (Cl ops.toList []) (CU ops ops.toList) 0 (Q .normal) [] s
 | .seq a b,Q,s=>awp P V a (thenQ (awp P V b Q) Q) s
 | .cond c a b,Q,s=>Pq (awp P V a) (awp P V b) Q s (evO s.tm c)
 | .block id c,Q,s=>awp P V c (Mr id Q) s
 | .loop c,Q,s=>Au (awp P V c) Q s
 | .exit id,Q,s=>Q (.exit id) s
 | .ret,Q,s=>Q .ret s
 |_,_,_=>False
end Go.Ae
