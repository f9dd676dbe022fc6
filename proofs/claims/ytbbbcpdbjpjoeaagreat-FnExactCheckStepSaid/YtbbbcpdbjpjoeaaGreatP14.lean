/- What is proved: the law FnExactCheckStep returns true for every input, and each argument reads afterwards as it read before. Conditions: none. -/
import Derived.Test.YtbbbcpdbjpjoeaaGreatP13
import Derived.Shelf.Spec.SlicesInsertGrow
set_option linter.all false
set_option maxHeartbeats 8000000
set_option maxRecDepth 100000
namespace Go.Proofs
open Go.Shelf Go.RowKit Go.Lib
theorem Tryz.pl101:(Tryz.prog.info? 101).map (fun i=>(i.zero,i.size,i.bytes))=some (some (.agg #[.int .i64 0,.int .i64 0,.int .i64 0]),3,24):=by kernel_rfl
theorem Qdu{P:Program}(w:World)(dT sT ty elem:TypeId)(k b o dLen dCap:Nat)(a:Addr)(sLen sCap:Nat)(cs:List Value)
 (hu:P.underlying dT=some (.slice elem))(hs:(P.info? elem).map (·.size)=some k)(hn:cs.length=Nat.min sLen dLen*k)
 (hsrc: ∀j v,cs[j]? =some v→w.cell? (a.add j)=some v)(hc: ∀j,j<cs.length→(w.cell? ⟨b,o+j,none⟩).isSome=true)(hf: ∀j,j<cs.length→w.frozen? ⟨b,o+j,none⟩=false)(h1: ∀v∈cs,v.oneCell'=true):
 (Builtin.copy_ #[dT,sT] ty #[.slice (some ⟨b,o,none⟩) dLen dCap,.slice (some a) sLen sCap]).run P w= .ok (goInt (Nat.min sLen dLen)) (w.setCells b o cs):=by
 have hl:=run_loadCells_list (P:=P) w a cs hsrc;have hst:=run_storeCells_cells (P:=P) b o cs 0 w (by simpa using hc) (by simpa using hf) h1;cases hq:P.info? elem with
 |none=>simp[hq] at hs
 |some i=>
  have hi:i.size=k:=by simpa[hq] using hs
  simp[Builtin.copy_,run_underlying hu,Builtin.lenOf,Builtin.firstCells,sizeOf,typeInfo,hq,hi,←hn,hl,hst]
theorem Qc4(b:Nat): ∀(vs:List Value) (o:Nat) (w:World) (cv:Array Value) (T:TypeId) (fr:Nat×Nat),w.heap[b]? =some (.cells cv T fr)→o+vs.length≤cv.size→
 (∃cv',(w.setCells b o vs).heap[b]? =some (.cells cv' T fr)∧cv'.toList=cv.toList.take o++vs++cv.toList.drop (o+vs.length))
 |[],o,w,cv,T,fr,h,_=>⟨cv,h,by simp⟩
 |v::r,o,w,cv,T,fr,h,hl=>by
  simp only[List.length_cons] at hl;have h1:(w.setCell ⟨b,o,none⟩ v).heap[b]? =some (.cells (cv.setIfInBounds o v) T fr):=by
   simp only[World.setCell,Array.getElem?_modify,if_true,h];rfl
  obtain⟨cv',g1,g2⟩:=Qc4 b r (o+1) _ _ T fr h1 (by simp;omega);refine⟨cv',g1,?_⟩;rw[g2,Array.toList_setIfInBounds,List.take_set,List.drop_set];have e1:(cv.toList.take (o+1)).set o v=cv.toList.take o++[v]:=by
   rw[List.take_add_one,List.getElem?_eq_getElem (by simp;omega),Option.toList_some,List.set_append_right _ _ (by simp;omega)]
   have:o - (cv.toList.take o).length=0:=by simp;omega
   rw[this];rfl
  rw[e1,if_pos (by omega)];simp only[List.append_assoc,List.singleton_append,List.cons_append,List.nil_append,List.length_cons];rw[show o+1+r.length=o+(r.length+1) by omega]
theorem Qbo(b:Nat): ∀(vs:List Value) (o:Nat) (w:World) (x:Nat),x≠b→(w.setCells b o vs).heap[x]? =w.heap[x]?
 |[],_,_,_,_=>rfl
 |v::r,o,w,x,h=>by
  rw[World.setCells,Qbo b r _ _ x h];simp only[World.setCell,Array.getElem?_modify];rw[if_neg (fun e=>h e.symm)]
theorem Qc3(b:Nat): ∀(vs:List Value) (o:Nat) (w:World),(w.setCells b o vs).heap.size=w.heap.size∧(w.setCells b o vs).os=w.os∧(w.setCells b o vs).tape=w.tape∧(w.setCells b o vs).output=w.output
 |[],_,_=>⟨rfl,rfl,rfl,rfl⟩
 |v::r,o,w=>by
  obtain⟨h1,h2,h3,h4⟩:=Qc3 b r (o+1) (w.setCell ⟨b,o,none⟩ v);exact⟨by rw[World.setCells,h1];simp[World.setCell],h2,h3,h4⟩
structure Qk4(w w':World)(b n:Nat)(T:TypeId)(k:Nat)(cs:List Value)(b' off' c':Nat):Prop where
 cap:n≤c'
 wh:b'=b∨b'=w.heap.size
 size:w.heap.size≤w'.heap.size
 lt:b'<w'.heap.size
 os:w'.os=w.os
 tape:w'.tape=w.tape
 output:w'.output=w.output
 keep: ∀x,x<w.heap.size→x≠b→w'.heap[x]? =w.heap[x]?
 row: ∃cv,w'.heap[b']? =some (.cells cv T (0,0))∧off'+c'*k≤cv.size∧ ∃r,cv.toList.drop off'=cs++r
structure InsIn(w:World)(b off n c vb voff:Nat)(cs vs:List Value):Prop where
 hcl:cs.length=n*3
 hvl:vs.length=3
 hnc:n≤c
 hn:n≤100000
 hvb:vb≠b
 hcs: ∀j v,cs[j]? =some v→w.cell? ⟨b,off+j,none⟩=some v
 hsp: ∀j,j<c*3→(w.cell? ⟨b,off+j,none⟩).isSome=true
 hfz: ∀x j,x=b∨x=vb→w.frozen? ⟨x,j,none⟩=false
 hvs: ∀j v,vs[j]? =some v→w.cell? ⟨vb,voff+j,none⟩=some v
 h1c: ∀v∈cs,v.oneCell'=true
 h1v: ∀v∈vs,v.oneCell'=true
 sa: ∃tA kA,w.shape? vb=some (tA,kA)
 sb: ∃tB kB,w.shape? b=some (tB,kB)∧kB≠0
theorem Tryz.ins_shift{w:World}{b off n c vb voff:Nat}{cs vs:List Value}(H:InsIn w b off n c vb voff cs vs)(i:Nat)(hi:i<n)(hroom:n+1≤c)(vc:Nat):
 Calls Tryz.prog 62 #[.slice (some ⟨b,off,none⟩) n c,.int .i64 i,.slice (some ⟨vb,voff,none⟩) 1 vc] w fun e w'=>
  e= .returned (.slice (some ⟨b,off,none⟩) (n+1) c)∧w'=(w.drew.setCells b (off+(i+1)*3) (cs.drop (i*3))).setCells b (off+i*3) vs:=by
 obtain⟨hcl,hvl,hnc,hn,hvb,hcs,hsp,hfz,hvs,h1c,h1v,⟨tA,kA,hsa⟩,tB,kB,hsb,hkB⟩:=H;have hz2: ¬((i:Int)=(n:Int)):=by omega
 have hsz:(Tryz.prog.info? 101).map (·.size)=some 3:=by kernel_rfl
 have u45:Tryz.prog.underlying 45=some (.slice 101):=by kernel_rfl
 have hov: ∀lb cb,(callFunc 97 #[.slice (some ⟨vb,voff,none⟩) 1 vc,.slice (some ⟨b,off+(i+1)*3,none⟩) lb cb]).run Tryz.prog w= .ok (.value (.bool false)) w:=fun lb cb=>by
  rw[run_callFunc_extern Tryz.func97 (by kernel_rfl) (by kernel_rfl) (by kernel_rfl) (e:=Extern.SlicesOverlaps.overlaps #[45,45] #[4]) (by kernel_rfl),
   Lib.run_overlaps_apart w 45 4 101 u45 3 Tryz.sizeOf101 ⟨vb,voff,none⟩ ⟨b,off+(i+1)*3,none⟩ 1 vc lb cb hvb tA tB kA kB hsa hsb hkB (hfz _ _ (.inr rfl)) (hfz _ _ (.inr rfl))]
  rfl
 have hdl:(cs.drop (i*3)).length=n*3 - i*3:=by rw[List.length_drop,hcl]
 have hcp1: ∀ty dc sc,(Builtin.copy_ #[45,45] ty #[.slice (some ⟨b,off+(i+1)*3,none⟩) (n - i) dc,.slice (some ⟨b,off+i*3,none⟩) (n+1 - i) sc]).run Tryz.prog w.drew= .ok (goInt (Nat.min (n+1 - i) (n - i))) (w.drew.setCells b (off+(i+1)*3) (cs.drop (i*3))):=fun ty dc sc=>
  Qdu w.drew _ _ ty 101 3 b (off+(i+1)*3) (n - i) dc ⟨b,off+i*3,none⟩ (n+1 - i) sc (cs.drop (i*3)) u45 hsz (by rw[hdl];simp only[Nat.min_def];split<;>omega)
   (fun j v hj=>by rw[Addr.add_lit,Nat.add_assoc];exact hcs (i*3+j) v (by rwa [List.getElem?_drop] at hj))
   (fun j hj=>by rw[Nat.add_assoc];exact hsp _ (by omega)) (fun j hj=>hfz _ _ (.inl rfl)) (fun v hv=>h1c v (List.mem_of_mem_drop hv))
 obtain⟨W1,hW1⟩: ∃W1,W1=w.drew.setCells b (off+(i+1)*3) (cs.drop (i*3)):=⟨_,rfl⟩;have hsp1: ∀k,k<c*3→(W1.cell? ⟨b,off+k,none⟩).isSome=true:=fun k hk=>by
  rw[hW1];exact isSome_setCells b _ _ _ (fun j hj=>by rw[Nat.add_assoc];exact hsp _ (by omega)) _ (hsp k hk)
 have hcp2: ∀(W:World),(∀x,W.cell? x=W1.cell? x)→(∀x,W.frozen? x=W1.frozen? x)→ ∀ty dc,(Builtin.copy_ #[45,45] ty #[.slice (some ⟨b,off+i*3,none⟩) (n+1 - i) dc,.slice (some ⟨vb,voff,none⟩) 1 vc]).run Tryz.prog W= .ok (goInt (Nat.min 1 (n+1 - i))) (W.setCells b (off+i*3) vs):=fun W hWc hWf ty dc=>
  Qdu W _ _ ty 101 3 b (off+i*3) (n+1 - i) dc ⟨vb,voff,none⟩ 1 vc vs u45 hsz (by rw[hvl];simp only[Nat.min_def];split<;>omega)
   (fun j v hj=>by
    rw[Addr.add_lit,hWc,hW1,World.cell?_setCells_out b _ _ _ _ (fun h _=>absurd h hvb)];exact hvs j v hj)
   (fun j hj=>by rw[hWc,Nat.add_assoc];exact hsp1 _ (by omega)) (fun j hj=>by rw[hWf,hW1,World.frozen?_setCells];exact hfz _ _ (.inl rfl)) h1v
 rw[←hW1] at hcp1;have hw1:IntKind.i64.wrap ((i:Int)+1)=(i:Int)+1:=by rw[IntKind.wrap_i64];omega
 have hw2:IntKind.i64.wrap ((n:Int)+1)=(n:Int)+1:=by rw[IntKind.wrap_i64];omega
 have hb1:(0:Int)≤(i:Int)+1:=by omega
 have hin:i≤n:=by omega
 have htn:((i:Int)+1).toNat=i+1:=by omega
 have hb2: ¬(c=i+1):=by omega
 have hb3:(i:Int)≤(n:Int)+1:=by omega
 have hb4: ¬(c=i):=by omega
 have Qaq:Tryz.prog.follows .mixedOrders=true:=by kernel_rfl
 go_enter Tryz.func62,Tryz.ntmps62
 go_wp2_with (simp only[hov])
 go_region_law_o (refine step_copy_runI rfl _ _ 45 45 rfl _ _ (by simp[Act.eval,Act.put]) (by simp[Act.eval,Act.put]) (hcp1 _ _ _) ?_)
 go_wp2_with (at_builtin;refine wpList_copy_runI _ rfl _ _ 45 45 rfl _ _ rfl rfl (hcp2 _ (fun _=>rfl) (fun _=>rfl) _ _) ?_)
 go_ret
 first|exact⟨rfl,rfl⟩|exact⟨rfl,by rw[hW1]⟩
theorem Tryz.insSrc{w:World}{b off n c vb voff:Nat}{cs vs:List Value}(H:InsIn w b off n c vb voff cs vs)(vc:Nat):Src Tryz.prog 3 45 (.slice (some ⟨vb,voff,none⟩) 1 vc) 1 vs w:=
 Src.ofSlice w (show Tryz.prog.underlying 45=some (.slice 101) by kernel_rfl) ⟨vb,voff,none⟩ 1 vc vs (by rw[H.hvl]) (fun j u hj=>by rw[Addr.add_lit];exact H.hvs j u hj) H.h1v
theorem Tryz.ins_end_room{w:World}{b off n c vb voff:Nat}{cs vs:List Value}(H:InsIn w b off n c vb voff cs vs)(hroom:n+1≤c)(vc:Nat):
 Calls Tryz.prog 62 #[.slice (some ⟨b,off,none⟩) n c,.int .i64 n,.slice (some ⟨vb,voff,none⟩) 1 vc] w fun e w'=>
  e= .returned (.slice (some ⟨b,off,none⟩) (n+1) c)∧w'=w.setCells b (off+n*3) vs:=by
 obtain⟨i0,hi0,hz0,hzs,hzb⟩:=info_parts Tryz.pl101;have u45:Tryz.prog.underlying 45=some (.slice 101):=by kernel_rfl
 have hsrc:=Tryz.insSrc H vc;have hsp:=H.hsp;have hfz:=H.hfz;have hvl:=H.hvl;have hrun: ∀ty,(Builtin.append_ #[45,45] ty #[.slice (some ⟨b,off,none⟩) n c,.slice (some ⟨vb,voff,none⟩) 1 vc]).run Tryz.prog w= .ok (.slice (some ⟨b,off,none⟩) (n+1) c) (w.setCells b (off+n*3) vs):=fun ty=>by
  have:=run_append_room_src w 45 45 ty 101 i0 u45 hi0 b off n c (.slice (some ⟨vb,voff,none⟩) 1 vc) 1 vs (by rw[hzs];exact hsrc) hroom
   (fun j hj=>by rw[hzs,Nat.add_assoc];exact hsp _ (by omega)) (fun j hj=>hfz _ _ (.inl rfl))
  rwa [hzs] at this
 clear hsrc hi0 hz0 hzs hzb
 go_enter Tryz.func62,Tryz.ntmps62
 go_wp2_with (at_builtin;refine Lib.wpList_append_run _ rfl _ _ _ _ rfl _ _ rfl rfl _ _ (hrun _) ?_)
 go_ret
 exact⟨rfl,rfl⟩
theorem Tryz.ins_end_grow{w:World}{base:Option Addr}{n c vb voff:Nat}{cs vs:List Value}(hcl:cs.length=n*3)(hvl:vs.length=3)(hnc:n≤c)(hn:n≤100000)(hroom:c<n+1)(hnil:base=none→n=0)
 (hcs: ∀a,base=some a→ ∀j v,cs[j]? =some v→w.cell? (a.add j)=some v)
 (hvs: ∀j v,vs[j]? =some v→w.cell? ⟨vb,voff+j,none⟩=some v)(h1v: ∀v∈vs,v.oneCell'=true)(vc:Nat):
 Calls Tryz.prog 62 #[.slice base n c,.int .i64 n,.slice (some ⟨vb,voff,none⟩) 1 vc] w fun e w'=>
  e= .returned (.slice (some ⟨w.heap.size,0,none⟩) (n+1) (grownCap w (n+1) c 101))∧
  w'=w.drew.alloc (.cells ((cs++vs).toArray++Builtin.zeroCells #[.int .i64 0,.int .i64 0,.int .i64 0] (grownCap w (n+1) c 101 - (n+1))) 101):=by
 obtain⟨i0,hi0,hz0,hzs,hzb⟩:=info_parts Tryz.pl101;have u45:Tryz.prog.underlying 45=some (.slice 101):=by kernel_rfl
 have hsrc:Src Tryz.prog 3 45 (.slice (some ⟨vb,voff,none⟩) 1 vc) 1 vs w:=
  Src.ofSlice w u45 ⟨vb,voff,none⟩ 1 vc vs (by rw[hvl]) (fun j u hj=>by rw[Addr.add_lit];exact hvs j u hj) h1v
 have hold:(Builtin.firstCells i0.size n (.slice base n c)).run Tryz.prog w.drew= .ok cs.toArray w.drew:=by
  rw[hzs];cases base with
  |none=>
   have h0:=hnil rfl;subst h0;rw[List.length_eq_zero_iff.1 (by omega:cs.length=0)];exact run_firstCells_none w.drew 3 0 0 c
  |some a=>exact run_firstCells_some w.drew 3 n a n c cs hcl (fun j v hj=>hcs a rfl j v hj)
 have hrun: ∀ty,(Builtin.append_ #[45,45] ty #[.slice base n c,.slice (some ⟨vb,voff,none⟩) 1 vc]).run Tryz.prog w= .ok (.slice (some ⟨w.heap.size,0,none⟩) (n+1) (grownCap w (n+1) c 101)) (w.drew.alloc (.cells ((cs++vs).toArray++Builtin.zeroCells #[.int .i64 0,.int .i64 0,.int .i64 0] (grownCap w (n+1) c 101 - (n+1))) 101)):=fun ty=>
  run_append_grow_src w 45 45 ty 101 i0 _ u45 hi0 hz0 base n c cs hold _ 1 vs (by rw[hzs];exact hsrc) hroom (by omega) (by rw[hzb];exact growslice_fits hroom (by omega))
 clear hsrc hi0 hz0 hzs hzb hold
 go_enter Tryz.func62,Tryz.ntmps62
 cases base with
 |none=>
  have h0:=hnil rfl;subst h0
  go_wp2_with (at_builtin;refine Lib.wpList_append_run _ rfl _ _ _ _ rfl _ _ rfl rfl _ _ (hrun _) ?_)
  go_ret
  exact⟨rfl,rfl⟩
 |some a=>
  obtain⟨ab,ao,asp⟩:=a
  go_wp2_with (at_builtin;refine Lib.wpList_append_run _ rfl _ _ _ _ rfl _ _ rfl rfl _ _ (hrun _) ?_)
  all_goals (go_ret;exact⟨rfl,rfl⟩)
def z3:Array Value:= #[.int .i64 0,.int .i64 0,.int .i64 0]
theorem Tryz.ins_grow{w:World}{b off n c vb voff:Nat}{cs vs:List Value}(H:InsIn w b off n c vb voff cs vs)(i:Nat)(hi:i<n)(hroom:c<n+1)(vc:Nat):
 Calls Tryz.prog 62 #[.slice (some ⟨b,off,none⟩) n c,.int .i64 i,.slice (some ⟨vb,voff,none⟩) 1 vc] w fun e w'=>
  e= .returned (.slice (some ⟨w.heap.size,0,none⟩) (n+1) (grownCap w (n+1) c 101))∧
  w'=(((w.alloc (.cells ((cs.take (i*3)).toArray++Builtin.zeroCells z3 (n+1 - i)++Builtin.zeroCells z3 (grownCap w (n+1) c 101 - (n+1))) 101)).drew.setCells w.heap.size (i*3) vs).drew).setCells w.heap.size ((i+1)*3) (cs.drop (i*3)):=by
 obtain⟨hcl,hvl,hnc,hn,hvb,hcs,hsp,hfz,hvs,h1c,h1v,_,_⟩:=H;obtain⟨i0,hi0,hz0,hzs,hzb⟩:=info_parts Tryz.pl101;have u45:Tryz.prog.underlying 45=some (.slice 101):=by kernel_rfl
 have u3:Tryz.prog.underlying 3=some (.int .i64):=by kernel_rfl
 have hz2: ¬((i:Int)=(n:Int)):=by omega
 have hz3:(c:Int)<(n:Int)+1:=by omega
 have hsz:(Tryz.prog.info? 101).map (·.size)=some 3:=by kernel_rfl
 have hbw:b<w.heap.size:=block_lt_of_cell (hcs 0 _ (List.getElem?_eq_getElem (by omega)));have hvw:vb<w.heap.size:=block_lt_of_cell (hvs 0 _ (List.getElem?_eq_getElem (by omega)));have hkk:(n:Int)+1 - (i:Int)=((n+1 - i:Nat):Int):=by omega
 have hik:i+(n+1 - i)=n+1:=by omega
 have hold:(Builtin.firstCells i0.size i (.slice (some ⟨b,off,none⟩) i c)).run Tryz.prog w.drew= .ok (cs.take (i*3)).toArray w.drew:=by
  rw[hzs];exact run_firstCells_some w.drew 3 i ⟨b,off,none⟩ i c (cs.take (i*3)) (by rw[List.length_take];omega) (fun j v hj=>by
   rw[Addr.add_lit];rw[List.getElem?_take] at hj;split at hj
   ·exact hcs j v hj
   ·cases hj)
 have hrz: ∀ty,(Builtin.append_ #[45,3] ty #[.slice (some ⟨b,off,none⟩) i c,.int .i64 ((n:Int)+1 - (i:Int))]).run Tryz.prog w=
  .ok (.slice (some ⟨w.heap.size,0,none⟩) (n+1) (grownCap w (n+1) c 101)) (w.drew.alloc (.cells ((cs.take (i*3)).toArray++Builtin.zeroCells z3 (n+1 - i)++Builtin.zeroCells z3 (grownCap w (n+1) c 101 - (n+1))) 101)):=fun ty=>by
  have h:=Lib.run_append_grow_zeros w 45 3 ty 101 i0 _ .i64 .i64 u45 u3 hi0 hz0 (some ⟨b,off,none⟩) i c (cs.take (i*3)) hold (n+1 - i) (by omega) (by omega) (by omega) (by omega) (by rw[hzb];omega) (by rw[hzb,hik];exact growslice_fits hroom (by omega));rw[hik] at h;rw[hkk];exact h
 obtain⟨G,hG⟩: ∃G,G=grownCap w (n+1) c 101:=⟨_,rfl⟩;obtain⟨ROW,hROW⟩: ∃ROW:Array Value,ROW=(cs.take (i*3)).toArray++Builtin.zeroCells z3 (n+1 - i)++Builtin.zeroCells z3 (G - (n+1)):=⟨_,rfl⟩;rw[←hG] at hrz⊢;rw[←hROW] at hrz⊢;have hRl:(n+1)*3≤ROW.size:=by
  rw[hROW];simp[Builtin.zeroCells,z3];omega
 obtain⟨W1,hW1⟩: ∃W1,W1=w.drew.alloc (.cells ROW 101):=⟨_,rfl⟩;rw[←hW1] at hrz;have hN: ∀j,j<(n+1)*3→(W1.cell? ⟨w.heap.size,j,none⟩).isSome=true:=fun j hj=>by
  rw[hW1,World.cell?_alloc_at (w:=w.drew) ROW _ w.heap.size j rfl,Array.getElem?_eq_getElem (by omega)];rfl
 have hNf: ∀j,W1.frozen? ⟨w.heap.size,j,none⟩=false:=fun j=>by rw[hW1];exact World.frozen?_alloc_at (w:=w.drew) ROW _ w.heap.size j rfl
 have hOb: ∀j v,w.cell? ⟨b,j,none⟩=some v→W1.cell? ⟨b,j,none⟩=some v:=fun j v h=>by rw[hW1,World.cell?_alloc_past (w:=w.drew) _ b j hbw];exact h
 have hOv: ∀j v,w.cell? ⟨vb,j,none⟩=some v→W1.cell? ⟨vb,j,none⟩=some v:=fun j v h=>by rw[hW1,World.cell?_alloc_past (w:=w.drew) _ vb j hvw];exact h
 have hcpA: ∀(W:World),(∀x,W.cell? x=W1.cell? x)→(∀x,W.frozen? x=W1.frozen? x)→ ∀ty dc,(Builtin.copy_ #[45,45] ty #[.slice (some ⟨w.heap.size,i*3,none⟩) (n+1 - i) dc,.slice (some ⟨vb,voff,none⟩) 1 vc]).run Tryz.prog W= .ok (goInt (Nat.min 1 (n+1 - i))) (W.setCells w.heap.size (i*3) vs):=fun W hWc hWf ty dc=>
  Qdu W _ _ ty 101 3 w.heap.size (i*3) (n+1 - i) dc ⟨vb,voff,none⟩ 1 vc vs u45 hsz (by rw[hvl];simp only[Nat.min_def];split<;>omega)
   (fun j v hj=>by rw[Addr.add_lit,hWc];exact hOv _ v (hvs j v hj))
   (fun j hj=>by rw[hWc];exact hN _ (by omega)) (fun j hj=>by rw[hWf];exact hNf _) h1v
 have hGn:n+1≤G:=by rw[hG];exact grownCap_ge w _ _ _
 have hG63:G≤9223372036854775807:=by
  have:=grownCap_le_maxLen w (n+1) c 101 (by unfold maxLen;omega)
  rw[←hG] at this;unfold maxLen at this;omega
 have hGi: ¬(G=i):=by omega
 have hGim: ¬(G=i+1):=by omega
 have hci: ¬(c=i):=by omega
 have hbN:b≠w.heap.size:=by omega
 have hdl:(cs.drop (i*3)).length=n*3 - i*3:=by rw[List.length_drop,hcl]
 have hcpB: ∀(W:World),(∀x,W.cell? x=(W1.setCells w.heap.size (i*3) vs).cell? x)→(∀x,W.frozen? x=(W1.setCells w.heap.size (i*3) vs).frozen? x)→ ∀ty dc sc,(Builtin.copy_ #[45,45] ty #[.slice (some ⟨w.heap.size,(i+1)*3,none⟩) (n - i) dc,.slice (some ⟨b,off+i*3,none⟩) (n - i) sc]).run Tryz.prog W= .ok (goInt (Nat.min (n - i) (n - i))) (W.setCells w.heap.size ((i+1)*3) (cs.drop (i*3))):=fun W hWc hWf ty dc sc=>
  Qdu W _ _ ty 101 3 w.heap.size ((i+1)*3) (n - i) dc ⟨b,off+i*3,none⟩ (n - i) sc (cs.drop (i*3)) u45 hsz (by rw[hdl];simp only[Nat.min_def];split<;>omega)
   (fun j v hj=>by
    rw[Addr.add_lit,hWc,World.cell?_setCells_out _ _ _ _ _ (fun h _=>absurd h hbN),Nat.add_assoc];exact hOb _ v (hcs (i*3+j) v (by rwa [List.getElem?_drop] at hj)))
   (fun j hj=>by rw[hWc];exact isSome_setCells _ _ _ _ (fun t ht=>hN _ (by omega)) _ (hN _ (by omega)))
   (fun j hj=>by rw[hWf,World.frozen?_setCells];exact hNf _) (fun v hv=>h1c v (List.mem_of_mem_drop hv))
 subst hW1;have hE1: ∀x,((w.alloc (.cells ROW 101)).drew).cell? x=(w.drew.alloc (.cells ROW 101)).cell? x:=fun x=>rfl
 have hE2: ∀x,((w.alloc (.cells ROW 101)).drew).frozen? x=(w.drew.alloc (.cells ROW 101)).frozen? x:=fun x=>rfl
 have hF1: ∀x,(((w.alloc (.cells ROW 101)).drew.setCells w.heap.size (i*3) vs).drew).cell? x=((w.drew.alloc (.cells ROW 101)).setCells w.heap.size (i*3) vs).cell? x:=fun x=>rfl
 have hF2: ∀x,(((w.alloc (.cells ROW 101)).drew.setCells w.heap.size (i*3) vs).drew).frozen? x=((w.drew.alloc (.cells ROW 101)).setCells w.heap.size (i*3) vs).frozen? x:=fun x=>rfl
 have hw1:IntKind.i64.wrap ((i:Int)+1)=(i:Int)+1:=by rw[IntKind.wrap_i64];omega
 have hw2:IntKind.i64.wrap ((n:Int)+1)=(n:Int)+1:=by rw[IntKind.wrap_i64];omega
 have hw3:IntKind.i64.wrap ((n:Int)+1 - (i:Int))=(n:Int)+1 - (i:Int):=by rw[IntKind.wrap_i64];omega
 have hb1:(0:Int)≤(i:Int)+1:=by omega
 have hin:i≤n:=by omega
 have htn:((i:Int)+1).toNat=i+1:=by omega
 have hb3:(i:Int)≤(n:Int):=by omega
 have Qaq:Tryz.prog.follows .mixedOrders=true:=by kernel_rfl
 clear hkk hik hold hROW hG hRl hsz hi0 hz0 hzs hzb
 go_enter Tryz.func62,Tryz.ntmps62
 go_wp2_with (first
  |(at_builtin;refine Lib.wpList_append_run _ rfl _ _ _ _ rfl _ _ rfl rfl _ _ (hrz _) ?_)
  |(at_builtin;refine wpList_copy_runI _ rfl _ _ 45 45 rfl _ _ rfl rfl (hcpA _ hE1 hE2 _ _) ?_)
  |(at_builtin;refine wpList_copy_runI _ rfl _ _ 45 45 rfl _ _ rfl rfl (hcpB _ (fun _=>rfl) (fun _=>rfl) _ _ _) ?_))
 go_region_law_o (refine step_copy_runI rfl _ _ 45 45 rfl (.slice (some ⟨w.heap.size,(i+1)*3,none⟩) (n - i) (G - (i+1))) (.slice (some ⟨b,off+i*3,none⟩) (n - i) (c - i)) (by simp[Act.eval,Act.put]) (by simp[Act.eval,Act.put]) (hcpB _ hF1 hF2 3 (G - (i+1)) (c - i)) ?_)
 go_wp2
 go_ret
 exact⟨rfl,rfl⟩
end Go.Proofs
namespace Go.Proofs
open Go.Shelf Go.RowKit Go.Lib
theorem Qyy{A:Type}{L cs r0:List A}{off:Nat}(h:L.drop off=cs++r0)(hoff:off≤L.length)(j:Nat)(hj:j≤cs.length):L.take (off+j)=L.take off++cs.take j:=by
 rw[List.take_add,h,List.take_append_of_le_length hj]
theorem Qk4.here{w w':World}{b n T k off c:Nat}{cs:List Value}(hb:b<w.heap.size)(hn:n≤c)(h1:w'.heap.size=w.heap.size)(h2:w'.os=w.os)(h3:w'.tape=w.tape)(h4:w'.output=w.output)
 (h5: ∀x,x≠b→w'.heap[x]? =w.heap[x]?)(h6: ∃cv,w'.heap[b]? =some (.cells cv T (0,0))∧off+c*k≤cv.size∧ ∃r,cv.toList.drop off=cs++r):Qk4 w w' b n T k cs b off c:=
 ⟨hn,.inl rfl,by omega,by omega,h2,h3,h4,fun x _ hx=>h5 x hx,h6⟩
section
variable {w:World}{b off n c:Nat}{cs vs:List Value}{cv:Array Value}
theorem out_shift(hb:b<w.heap.size)(hcv:w.heap[b]? =some (.cells cv 101 (0,0)))(hsz:off+c*3≤cv.size){r0:List Value}(hr:cv.toList.drop off=cs++r0)(hcl:cs.length=n*3)(hvl:vs.length=3)(i:Nat)(hi:i<n)(hroom:n+1≤c):
 Qk4 w ((w.drew.setCells b (off+(i+1)*3) (cs.drop (i*3))).setCells b (off+i*3) vs) b (n+1) 101 3 (cs.take (i*3)++vs++cs.drop (i*3)) b off c:=by
 have hcv':w.drew.heap[b]? =some (.cells cv 101 (0,0)):=hcv;have hdl:(cs.drop (i*3)).length=n*3 - i*3:=by rw[List.length_drop,hcl]
 obtain⟨cv1,a1,a2⟩:=Qc4 b (cs.drop (i*3)) (off+(i+1)*3) w.drew cv 101 (0,0) hcv' (by omega);have hl1:cv1.toList.length=cv.size:=by
  rw[a2];simp only[List.length_append,List.length_take,List.length_drop,Array.length_toList];omega
 obtain⟨cv2,b1,b2⟩:=Qc4 b vs (off+i*3) _ cv1 101 (0,0) a1 (by rw[Array.length_toList] at hl1;omega);have hl2:cv2.toList.length=cv.size:=by
  rw[b2];simp only[List.length_append,List.length_take,List.length_drop,hl1];omega
 obtain⟨r1,r2,r3,r4⟩:=Qc3 b (cs.drop (i*3)) (off+(i+1)*3) w.drew;obtain⟨s1,s2,s3,s4⟩:=Qc3 b vs (off+i*3) (w.drew.setCells b (off+(i+1)*3) (cs.drop (i*3)));refine Qk4.here hb hroom (s1.trans r1) (s2.trans r2) (s3.trans r3) (s4.trans r4) (fun x hx=>(Qbo b _ _ _ x hx).trans (Qbo b _ _ _ x hx)) ⟨cv2,b1,by rw[Array.length_toList] at hl2;omega,cv.toList.drop (off+(i+1)*3+(cs.drop (i*3)).length),?_⟩;have hoff:off≤cv.toList.length:=by rw[Array.length_toList];omega
 have e1:cv1.toList.take (off+i*3)=cv.toList.take off++cs.take (i*3):=by
  rw[a2,List.append_assoc,List.take_append_of_le_length (by rw[List.length_take,Array.length_toList];omega),List.take_take,show min (off+i*3) (off+(i+1)*3)=off+i*3 by omega];exact Qyy hr hoff _ (by omega)
 have e2:cv1.toList.drop (off+i*3+vs.length)=cs.drop (i*3)++cv.toList.drop (off+(i+1)*3+(cs.drop (i*3)).length):=by
  rw[a2,hvl,List.append_assoc,List.drop_append_of_le_length (by rw[List.length_take,Array.length_toList];omega),List.drop_eq_nil_of_le (by rw[List.length_take];omega),List.nil_append]
 rw[b2,e1,e2,List.append_assoc,List.append_assoc,List.drop_append_of_le_length (by rw[List.length_take];omega),List.drop_eq_nil_of_le (by rw[List.length_take];omega),List.nil_append];simp only[List.append_assoc]
theorem Qtv(hb:b<w.heap.size)(hcv:w.heap[b]? =some (.cells cv 101 (0,0)))(hsz:off+c*3≤cv.size){r0:List Value}(hr:cv.toList.drop off=cs++r0)(hcl:cs.length=n*3)(hvl:vs.length=3)(hroom:n+1≤c):
 Qk4 w (w.setCells b (off+n*3) vs) b (n+1) 101 3 (cs.take (n*3)++vs++cs.drop (n*3)) b off c:=by
 obtain⟨cv1,a1,a2⟩:=Qc4 b vs (off+n*3) w cv 101 (0,0) hcv (by omega);have hl1:cv1.toList.length=cv.size:=by
  rw[a2];simp only[List.length_append,List.length_take,List.length_drop,Array.length_toList];omega
 obtain⟨r1,r2,r3,r4⟩:=Qc3 b vs (off+n*3) w;refine Qk4.here hb hroom r1 r2 r3 r4 (fun x hx=>Qbo b _ _ _ x hx) ⟨cv1,a1,by rw[Array.length_toList] at hl1;omega,cv.toList.drop (off+n*3+vs.length),?_⟩;have hoff:off≤cv.toList.length:=by rw[Array.length_toList];omega
 rw[a2,Qyy hr hoff _ (by omega),List.append_assoc,List.append_assoc,List.drop_append_of_le_length (by rw[List.length_take];omega),List.drop_eq_nil_of_le (by rw[List.length_take];omega),List.nil_append];rw[List.drop_eq_nil_of_le (show cs.length≤n*3 by omega),List.append_nil];simp only[List.append_assoc]
theorem Qye(k:Nat):(Builtin.zeroCells z3 k).size=k*3:=by simp[Builtin.zeroCells,z3]
theorem Qme(hb:b≤w.heap.size)(hcl:cs.length=n*3)(hvl:vs.length=3){G:Nat}(hG:n+1≤G):
 Qk4 w (w.drew.alloc (.cells ((cs++vs).toArray++Builtin.zeroCells #[.int .i64 0,.int .i64 0,.int .i64 0] (G - (n+1))) 101)) b (n+1) 101 3 (cs.take (n*3)++vs++cs.drop (n*3)) w.heap.size 0 G:=by
 have hz:=Qye (G - (n+1));obtain⟨ROW,hROW⟩: ∃ROW:Array Value,ROW=(cs++vs).toArray++Builtin.zeroCells #[.int .i64 0,.int .i64 0,.int .i64 0] (G - (n+1)):=⟨_,rfl⟩;rw[←hROW];have hRs:0+G*3≤ROW.size:=by
  rw[hROW,Array.size_append,List.size_toArray,List.length_append,hcl,hvl];show 0+G*3≤n*3+3+(Builtin.zeroCells z3 (G - (n+1))).size;omega
 have hRl:ROW.toList.drop 0=cs.take (n*3)++vs++cs.drop (n*3)++(Builtin.zeroCells #[.int .i64 0,.int .i64 0,.int .i64 0] (G - (n+1))).toList:=by
  rw[hROW,List.drop_zero,Array.toList_append,List.take_of_length_le (show cs.length≤n*3 by omega),List.drop_eq_nil_of_le (show cs.length≤n*3 by omega),List.append_nil]
 have hS:(w.drew.alloc (.cells ROW 101)).heap.size=w.heap.size+1:=by simp only[World.alloc,World.drew,Array.size_push]
 refine⟨hG,.inr rfl,by omega,by omega,rfl,rfl,rfl,fun x hx _=> ?_,ROW,?_,hRs,_,hRl⟩
 ·simp only[World.alloc,World.drew];rw[Array.getElem?_push_lt hx,Array.getElem?_eq_getElem hx]
 ·simp only[World.alloc,World.drew];exact Array.getElem?_push_size
theorem out_grow(hb:b<w.heap.size)(hcl:cs.length=n*3)(hvl:vs.length=3)(i:Nat)(hi:i<n){G:Nat}(hG:n+1≤G):
 Qk4 w ((((w.alloc (.cells ((cs.take (i*3)).toArray++Builtin.zeroCells z3 (n+1 - i)++Builtin.zeroCells z3 (G - (n+1))) 101)).drew.setCells w.heap.size (i*3) vs).drew).setCells w.heap.size ((i+1)*3) (cs.drop (i*3))) b (n+1) 101 3 (cs.take (i*3)++vs++cs.drop (i*3)) w.heap.size 0 G:=by
 obtain⟨ROW,hROW⟩: ∃ROW:Array Value,ROW=(cs.take (i*3)).toArray++Builtin.zeroCells z3 (n+1 - i)++Builtin.zeroCells z3 (G - (n+1)):=⟨_,rfl⟩;rw[←hROW];have hz1:=Qye (n+1 - i);have hz2:=Qye (G - (n+1));have hRs:ROW.size=G*3:=by
  rw[hROW,Array.size_append,Array.size_append,List.size_toArray,List.length_take,hz1,hz2];omega
 have hRt:ROW.toList.take (i*3)=cs.take (i*3):=by
  rw[hROW,Array.toList_append,Array.toList_append,List.append_assoc,List.take_append_of_le_length (by rw[List.length_take];omega),List.take_take,Nat.min_self]
 have hdl:(cs.drop (i*3)).length=n*3 - i*3:=by rw[List.length_drop,hcl]
 have h0:(w.alloc (.cells ROW 101)).drew.heap[w.heap.size]? =some (.cells ROW 101 (0,0)):=by
  simp only[World.alloc,World.drew];exact Array.getElem?_push_size
 obtain⟨cv1,a1,a2⟩:=Qc4 w.heap.size vs (i*3) _ ROW 101 (0,0) h0 (by omega);have hl1:cv1.toList.length=ROW.size:=by
  rw[a2];simp only[List.length_append,List.length_take,List.length_drop,Array.length_toList];omega
 have a1':((w.alloc (.cells ROW 101)).drew.setCells w.heap.size (i*3) vs).drew.heap[w.heap.size]? =some (.cells cv1 101 (0,0)):=a1;obtain⟨cv2,b1,b2⟩:=Qc4 w.heap.size (cs.drop (i*3)) ((i+1)*3) _ cv1 101 (0,0) a1' (by rw[Array.length_toList] at hl1;omega);have hl2:cv2.toList.length=ROW.size:=by
  rw[b2];simp only[List.length_append,List.length_take,List.length_drop,hl1];omega
 obtain⟨r1,r2,r3,r4⟩:=Qc3 w.heap.size vs (i*3) (w.alloc (.cells ROW 101)).drew;obtain⟨s1,s2,s3,s4⟩:=Qc3 w.heap.size (cs.drop (i*3)) ((i+1)*3) ((w.alloc (.cells ROW 101)).drew.setCells w.heap.size (i*3) vs).drew;have hs:((w.alloc (.cells ROW 101)).drew).heap.size=w.heap.size+1:=by simp only[World.alloc,World.drew,Array.size_push]
 have hS:=s1.trans (r1.trans hs);refine⟨hG,.inr rfl,by omega,by omega,s2.trans r2,s3.trans r3,s4.trans r4,fun x hx _=> ?_,cv2,b1,by rw[Array.length_toList] at hl2;omega,cv1.toList.drop ((i+1)*3+(cs.drop (i*3)).length),?_⟩
 ·refine (Qbo _ _ _ _ x (by omega)).trans ((Qbo _ _ _ _ x (by omega)).trans ?_);simp only[World.alloc,World.drew];rw[Array.getElem?_push_lt hx,Array.getElem?_eq_getElem hx]
 ·have e1:cv1.toList.take ((i+1)*3)=cs.take (i*3)++vs:=by
   rw[a2,List.take_append_of_le_length (by rw[List.length_append,List.length_take,Array.length_toList];omega),List.take_of_length_le (by rw[List.length_append,List.length_take];omega),hRt]
  rw[List.drop_zero,b2,e1]
end
end Go.Proofs
namespace Go.Ae
open Go.Proofs Go.Sort Go.Shelf
def insP(l:List Qab)(i:Nat)(x:Qab):List Qab:=l.take i++[x]++l.drop i
theorem Qn8(l r:List Qab):flP (l++r)=flP l++flP r:=by simp[flP]
theorem Qz5: ∀(l:List Qab) (i:Nat),flP (l.take i)=(flP l).take (i*3)
 |[],i=>by simp[flP]
 |x::r,0=>by simp[flP]
 |x::r,i+1=>by
  rw[List.take_succ_cons,show x::r.take i=[x]++r.take i from rfl,show x::r=[x]++r from rfl,Qn8,Qn8,Qz5 r i,show (i+1)*3=(flP [x]).length+i*3 by rw[Qlt];simp;omega,List.take_length_add_append]
theorem Qza: ∀(l:List Qab) (i:Nat),flP (l.drop i)=(flP l).drop (i*3)
 |[],i=>by simp[flP]
 |x::r,0=>by simp[flP]
 |x::r,i+1=>by
  rw[List.drop_succ_cons,show x::r=[x]++r from rfl,Qn8,Qza r i,show (i+1)*3=(flP [x]).length+i*3 by rw[Qlt];simp;omega,List.drop_length_add_append]
theorem flP_ins(l:List Qab)(i:Nat)(x:Qab):flP (insP l i x)=(flP l).take (i*3)++encP x++(flP l).drop (i*3):=by
 rw[insP,Qn8,Qn8,Qz5,Qza];simp[flP]
theorem flP_one{l:List Qab}: ∀v∈flP l,v.oneCell'=true:=by
 intro v hv;simp only[flP,List.mem_flatMap,encP,List.mem_cons,List.not_mem_nil,or_false] at hv;obtain⟨x,_,rfl|rfl|rfl⟩:=hv<;>rfl
theorem insP_len(l:List Qab)(i:Nat)(x:Qab):(insP l i x).length=l.length+1:=by
 simp only[insP,List.length_append,List.length_take,List.length_drop,List.length_singleton];omega
def insC.ca(a:List Qab×Nat×Qab):List AV:=[.own 0,.im (.int .i64 a.2.1),.own 1]
def insC.H0(a:List Qab×Nat×Qab):Qan:=[(0,(true,.arr 101 3 (a.1.map Qab.c))),(1,(true,.arr 101 3 [Qab.c a.2.2]))]
def insC.H1(a:List Qab×Nat×Qab):Qan:=[(2,(true,.arr 101 3 ((insP a.1 a.2.1 a.2.2).map Qab.c)))]
def insC.row:Row:=orow insC.ca insC.H0 2 (fun a=>a.2.1≤a.1.length∧a.1.length≤100000) (fun j=>j==0) (fun _=> .own 2) insC.H1 1
theorem insC.ok:Qas Tryz.prog 62 insC.row:=by
 rintro args h nx K ⟨⟨l,i,x⟩,τ,U,KL,hpre,rfl,hheap,hN,hK⟩;refine⟨Qh7 (by kernel_rfl),_,_,?_,hK⟩;intro C S vs R hW huse hfresh hnames hargs hfin;simp only at hpre;obtain⟨hi,hlen⟩:=hpre;have hs0:sgx τ 2 nx 0=τ 0:=if_pos (by omega);have hs1:sgx τ 2 nx 1=τ 1:=if_pos (by omega);have hs2:sgx τ 2 nx 2=nx:=by rw[sgx,if_neg (by omega)];rfl
 simp only[insC.ca,renL,AV.ren,hs0,hs1,Qa0,conc,rd] at hargs;obtain⟨v0,r0,hv,⟨hone0,hown0⟩,v1,r1,hr1,hv1,v2,r2,hr2,⟨hone2,hown2⟩,hr3⟩:=hargs;subst hr3 hr2 hv1 hr1;have hvs:vs= #[v0,.int .i64 i,v2]:=by apply Array.ext';simpa using hv
 subst hvs;have hd0:domB (insC.H0 (l,i,x)) 0=true:=rfl;have hd1:domB (insC.H0 (l,i,x)) 1=true:=rfl;have hm0:S.h (τ 0)=some (true,.arr 101 3 (l.map Qab.c)):=by
  rw[huse (τ 0) (List.mem_append_left _ (hN.u 0 hd0))]
  have:=hheap.1
  rwa [hs0] at this
 have hm1:S.h (τ 1)=some (true,.arr 101 3 [Qab.c x]):=by
  rw[huse (τ 1) (List.mem_append_left _ (hN.u 1 hd1))]
  have:=hheap.2.1
  rwa [hs1] at this
 have hk0: ∀n,n∈KL↔n=τ 0:=by
  intro n;constructor
  ·intro hn;obtain⟨j,h1,h2,h3⟩:=hN.k1 n hn
   have:j=0:=by simpa using h2
   rw[h3,this]
  ·rintro rfl;exact hN.k2 0 hd0 rfl
 have hne:τ 0≠τ 1:=fun h=>by have:=hN.inj 0 1 hd0 hd1 h;omega
 have hlt0:=hN.lt 0 hd0;have hnx:S.h nx=none:=hfresh nx ⟨Nat.le_refl _,Nat.lt_succ_self _⟩;have hnn: ∀n f,S.h n=some f→nx∉f.2.nms:=fun n f hf hin=>hnames n f hf nx hin ⟨Nat.le_refl _,Nat.lt_succ_self _⟩
 obtain⟨m,hmm⟩: ∃m,m=τ 0:=⟨_,rfl⟩;rw[←hmm] at hm0 hown0 hk0 hne hlt0;have hil:=insP_len l i x;have fin: ∀(w':World) (lo:Loc),Qjb S nx (.arr 101 3 ((insP l i x).map Qab.c)) (some lo) [m] w'→
  objc (S.one nx (.arr 101 3 ((insP l i x).map Qab.c)) (some lo) [m] w') (some lo) (.arr 101 3 ((insP l i x).map Qab.c))→R (.returned (.slice (some ⟨lo.b,lo.p,none⟩) (l.length+1) lo.cap)) w':=by
  intro w' lo hone hob;have hp:=Qg2 hW hone;refine hfin _ _ (Qqp hW hone hob) ?_ ⟨hp.ok,fun n hn=>hp.nm n (.inr (fun h=>hn (by rw[h];exact⟨Nat.le_refl _,Nat.lt_succ_self _⟩)))⟩ ?_
  ·funext n;simp only[Env.one,Eff.appf,insC.H1,renH,hs2,hget,AObj.ren];by_cases hn:n=nx
   ·subst hn;simp
   ·have h1:(nx==n)=false:=by simpa using fun h=>hn h.symm
    simp only[h1,cond_false,hn,if_false,List.mem_singleton];by_cases h2:n=m
    ·rw[if_pos h2,List.contains_iff_mem.2 ((hk0 n).2 h2)];rfl
    ·have h3:KL.contains n=false:=by rw[←Bool.not_eq_true,List.contains_iff_mem,hk0];exact h2
     rw[if_neg h2,h3];rfl
  ·simp only[AV.ren,hs2,conc];refine⟨rfl,fun e he=> ?_⟩;simp only[Env.one,if_true] at he⊢;obtain rfl:=Option.some.inj he;simp only[AObj.len,List.length_map,hil]
 have hobj1:=hW.obj _ _ hm1;have hown2':=hown2 _ hm1;cases hρ1:S.ρ (τ 1) with
 |none=>rw[hρ1] at hobj1;simp only[objc] at hobj1;cases hobj1.2
 |some l1=>
 rw[hρ1] at hobj1 hown2';simp only[objc,AObj.len,List.length_singleton] at hobj1 hown2';obtain⟨_,p2,pv,p3,p4,p5⟩:=hobj1;obtain⟨hlb1,_⟩:=hW.loc _ _ l1 hm1 hρ1;rw[show [Qab.c x]=[x].map Qab.c from rfl,Ql5] at p5;obtain⟨rest1,p5⟩:=p5;have hheap1:S.w.heap[l1.b]? =some (.cells pv 101 (0,0)):=p3;have hvl:(encP x).length=3:=rfl;have hvsc: ∀j v,(encP x)[j]? =some v→S.w.cell? ⟨l1.b,l1.p+j,none⟩=some v:=by
  intro j v hj;have hj3:j<3:=by
   rcases Nat.lt_or_ge j 3 with h|h
   ·exact h
   ·rw[List.getElem?_eq_none (by rw[hvl];exact h)] at hj;cases hj
  have h1:(pv.toList.drop l1.p)[j]? =(flP [x]++rest1)[j]? :=by rw[p5]
  rw[List.getElem?_drop,Array.getElem?_toList,List.getElem?_append_left (by rw[Qlt];simpa using hj3)] at h1;simp only[World.cell?,hheap1,Option.isSome_none,Bool.false_eq_true,if_false];rw[h1];simpa[flP] using hj
 have h1v: ∀v∈encP x,v.oneCell'=true:=by
  intro v hv;simp only[encP,List.mem_cons,List.not_mem_nil,or_false] at hv;rcases hv with rfl|rfl|rfl<;>rfl
 have hcl:(flP l).length=l.length*3:=Qlt l;have hobj:=hW.obj _ _ hm0;have hown':=hown0 _ hm0;have done: ∀(b:Nat) (w':World) (b' off' c':Nat),(∀lo,S.ρ m=some lo→lo.b=b)→(b<S.w.heap.size→ ∃lo,S.ρ m=some lo)→Qk4 S.w w' b (l.length+1) 101 3 ((flP l).take (i*3)++encP x++(flP l).drop (i*3)) b' off' c'→R (.returned (.slice (some ⟨b',off',none⟩) (l.length+1) c')) w':=by
  intro b w' b' off' c' hb0 hb1 hO;obtain⟨cv,q1,q2,q3⟩:=hO.row;refine fin w' ⟨b',off',c'⟩ ⟨hO.os,hO.tape,hO.output,hO.size,?_,.inr hnx,?_,?_,?_⟩ ?_
  ·intro y hy hny;refine hO.keep y hy (fun hyb=> ?_);subst hyb;obtain⟨lo,hlo⟩:=hb1 hy;exact hny m _ lo (by simp) hm0 hlo (hb0 lo hlo)
  ·intro lo hlo;obtain rfl:=Option.some.inj hlo;refine⟨hO.lt,?_⟩;rcases hO.wh with h|h
   ·rcases Nat.lt_or_ge b S.w.heap.size with hbs|hbs
    ·obtain⟨lo,hlo⟩:=hb1 hbs;exact .inr ⟨m,_,lo,by simp,hm0,hlo,(hb0 lo hlo).trans h.symm⟩
    ·exact .inl (by simp only;omega)
   ·exact .inl (by simp only;omega)
  ·intro f hf;rw[hnx] at hf;cases hf
  ·intro n f hf _;exact hnn n f hf
  ·simp only[objc,List.length_map,hil];refine⟨by simp only[LIM];omega,hO.cap,cv,q1,q2,?_⟩;rw[Ql5,flP_ins];exact q3
 rw[hown2'];cases hρ:S.ρ m with
 |none=>
  rw[hρ] at hown' hobj;simp only[objc] at hobj;have ha:l=[]:=by simpa using hobj.2
  subst ha;have hi0:i=0:=by simpa using hi
  subst hi0;simp only at hown';rw[hown'];refine (Tryz.ins_end_grow (w:=S.w) (base:=none) (n:=0) (c:=0) (vb:=l1.b) (voff:=l1.p) (cs:=[]) (vs:=encP x) rfl hvl (Nat.le_refl _) (by omega) (by omega) (fun _=>rfl) (fun a ha=>by cases ha) hvsc h1v l1.cap).mono ?_;rintro e w' ⟨rfl,rfl⟩;exact done S.w.heap.size _ _ _ _ (fun lo hlo=>by rw[hρ] at hlo;cases hlo) (fun h=>absurd h (Nat.lt_irrefl _)) (Qme (cs:=[]) (n:=0) (Nat.le_refl _) rfl hvl (grownCap_ge S.w _ _ _))
 |some lc=>
  rw[hρ] at hown' hobj;simp only[objc,AObj.len,List.length_map] at hobj hown';obtain⟨g1,g2,cv,g3,g4,g5⟩:=hobj;obtain⟨hlb,_⟩:=hW.loc _ _ lc hm0 hρ;rw[Ql5] at g5;obtain⟨rest,g5⟩:=g5;have hheap0:S.w.heap[lc.b]? =some (.cells cv 101 (0,0)):=g3;have hvb:l1.b≠lc.b:=fun h=>hne (hW.inj _ _ _ _ lc l1 hm0 hm1 hρ hρ1 h.symm rfl)
  have hcs: ∀j v,(flP l)[j]? =some v→S.w.cell? ⟨lc.b,lc.p+j,none⟩=some v:=by
   intro j v hj;have hj3:j<(flP l).length:=by
    rcases Nat.lt_or_ge j (flP l).length with h|h
    ·exact h
    ·rw[List.getElem?_eq_none h] at hj;cases hj
   have h1:(cv.toList.drop lc.p)[j]? =(flP l++rest)[j]? :=by rw[g5]
   rw[List.getElem?_drop,Array.getElem?_toList,List.getElem?_append_left hj3] at h1;simp only[World.cell?,hheap0,Option.isSome_none,Bool.false_eq_true,if_false];rw[h1,hj]
  have hin: ∀(h:0<lc.cap),InsIn S.w lc.b lc.p l.length lc.cap l1.b l1.p (flP l) (encP x):=fun hpos=>by
   refine⟨hcl,hvl,g2,hlen,hvb,hcs,?_,?_,hvsc,flP_one,h1v,⟨_,_,by simp only[World.shape?,hheap1];rfl⟩,⟨_,_,by simp only[World.shape?,hheap0];rfl,by omega⟩⟩
   ·intro j hj;simp only[World.cell?,hheap0,Option.isSome_none,Bool.false_eq_true,if_false];rw[Array.getElem?_eq_getElem (by omega)];rfl
   ·rintro y j (rfl|rfl)
    ·simp[World.frozen?,hheap0]
    ·simp[World.frozen?,hheap1]
  have hb0: ∀lo,S.ρ m=some lo→lo.b=lc.b:=fun lo hlo=>by rw[hρ] at hlo;rw[Option.some.inj hlo]
  have hb1:lc.b<S.w.heap.size→ ∃lo,S.ρ m=some lo:=fun _=>⟨lc,hρ⟩
  rw[hown'];by_cases hie:i<l.length
  ·by_cases hroom:l.length+1≤lc.cap
   ·refine (Tryz.ins_shift (hin (by omega)) i hie hroom l1.cap).mono ?_;rintro e w' ⟨rfl,rfl⟩;exact done lc.b _ _ _ _ hb0 hb1 (out_shift hlb hheap0 g4 g5 hcl hvl i hie hroom)
   ·refine (Tryz.ins_grow (hin (by omega)) i hie (by omega) l1.cap).mono ?_;rintro e w' ⟨rfl,rfl⟩;exact done lc.b _ _ _ _ hb0 hb1 (out_grow hlb hcl hvl i hie (grownCap_ge S.w _ _ _))
  ·have hie':i=l.length:=by omega
   subst hie';by_cases hroom:l.length+1≤lc.cap
   ·refine (Tryz.ins_end_room (hin (by omega)) hroom l1.cap).mono ?_;rintro e w' ⟨rfl,rfl⟩;exact done lc.b _ _ _ _ hb0 hb1 (Qtv hlb hheap0 g4 g5 hcl hvl hroom)
   ·refine (Tryz.ins_end_grow (w:=S.w) (base:=some ⟨lc.b,lc.p,none⟩) (n:=l.length) (c:=lc.cap) (vb:=l1.b) (voff:=l1.p) (cs:=flP l) (vs:=encP x) hcl hvl g2 hlen (by omega) (fun h=>by cases h) (fun a ha=> ?_) hvsc h1v l1.cap).mono ?_
    ·obtain rfl:=Option.some.inj ha;intro j v hj;rw[Addr.add_lit];exact hcs j v hj
    ·rintro e w' ⟨rfl,rfl⟩;exact done lc.b _ _ _ _ hb0 hb1 (Qme (Nat.le_of_lt hlb) hcl hvl (grownCap_ge S.w _ _ _))
end Go.Ae
namespace Go.Ae
open Go.Proofs
theorem ins_bef(p:Qae)(t:Int): ∀(l:List Qab) (q:Option Qae),Qaz q l=true→(∀x∈l,x.At≠p)→insP l (befP l p) ⟨p,t⟩=insT p t l
 |[],_,_,_=>rfl
 |x::r,q,h,hn=>by
  have hx:=hn x (List.mem_cons_self ..);simp only[Qbq,Bool.and_eq_true] at h;have ih:=ins_bef p t r (some x.At) h.2.2.2 (fun y hy=>hn y (List.mem_cons_of_mem _ hy));simp only[insT];by_cases hl:Qap x.At p=true
  ·have h2:Qap p x.At=false:=by
    simp only[Qap] at hl⊢;grind
   rw[h2,if_neg (by simp),←ih];simp[befP,List.takeWhile_cons,hl,insP]
  ·rw[Bool.not_eq_true] at hl;rw[if_pos (Qq4 hl hx)];simp[befP,List.takeWhile_cons,hl,insP]
def wth_.ar:List PK→Option (Asm×Qae×Int)
 |[.val (.agg x0),.val (.agg x1),.val (.int .i64 x2)]=>(Asm.d x0).bind fun y0=>(Qae.d x1).bind fun y1=>some (y0,y1,x2)
 |_=>none
def wth_.ae(a:Asm×Qae×Int):List PK:=[.val (.agg (Asm.c a.1)),.val (.agg (Qae.c a.2.1)),.val (.int .i64 a.2.2)]
theorem wth_.le: ∀ps a,wth_.ar ps=some a→LeKL ps (wth_.ae a):=by
 intro ps a h;unfold wth_.ar at h;split at h
 ·simp only[Option.bind_eq_some_iff,Option.some.injEq] at h;obtain⟨y0,h0,y1,h1,rfl⟩:=h;exact⟨Qav (Asm.d_le _ _ h0),Qav (Qae.d_le _ _ h1),LeK.refl _,trivial⟩
 ·cases h
def wth_.fv(a:Asm×Qae×Int):Asm:=(fun a p t=>⟨insT p t a.Tiles⟩) (a.1) (a.2.1) (a.2.2)
def wth_.row:Row:=vrow wth_.ar (fun a=>Qaz none a.1.Tiles=true∧Qbi a.2.1=true∧atA a.1 a.2.1<0∧a.1.Tiles.length≤500) (fun a=>(fun b=>D.agg (Asm.c b)) (wth_.fv a))
def wth_.q(a:List AV)(h:Nat→Option Ent)(n:Nat)(K:Kont):=show wth_.row a h n K=Qa1 _ _ _ (nmsL a) K (pkL h a) from rfl
theorem wth_.ok:Qas Tryz.prog 31 wth_.row:=by
 refine Qaj Qaq (tC BinP.ok (tC clonC.ok (tC insC.ok tN))) Tryz.func31 rfl (by kernel_rfl) (by kernel_rfl) wth_.le (n:=3) (fun _=>rfl) (by decide) (rc:=(vAgg Asm.d)) (re:=(fun b=>D.agg (Asm.c b))) (Qb1 Asm.d_le) (f:=wth_.fv) ?_;intro a hpre;simp only[Tryz.f31,Option.getD];simp (config:={maxSteps:=10000000}) (disch:=omega) only[ZA,ZT,simprocAttr,Asm.d,rch,wth_.ae,wth_.fv,BinP.q,BinP.ar,BinP.fv];obtain⟨h1,h2,h3,h4⟩:=hpre;refine⟨h1,orow.os a.1.Tiles [] (by omega) (fun j=>by simp[domB,hget]) rfl rfl ?_ ?_⟩
 ·simp (config:={maxSteps:=10000000}) (disch:=omega) only[ZA,ZT,simprocAttr,Asm.d,rch,wth_.ae,wth_.fv,BinP.q,BinP.ar,BinP.fv,clonC.ca,Qer]
 simp (config:={maxSteps:=10000000}) (disch:=omega) only[ZA,ZT,simprocAttr,Asm.d,rch,wth_.ae,wth_.fv,BinP.q,BinP.ar,BinP.fv,clonC.H1,sub];have hb:befP a.1.Tiles a.2.1≤a.1.Tiles.length:=(List.takeWhile_prefix _).length_le;have hno:=atA_no h1 h3;refine orow.os (a.1.Tiles,befP a.1.Tiles a.2.1,⟨a.2.1,a.2.2⟩) [3,23] ⟨hb,by simp only;omega⟩ (fun j=> ?_) rfl rfl ?_ ?_
 ·simp only[domB,insC.H0,hget];by_cases hj:j=0
  ·subst hj;simp
  ·by_cases hj1:j=1
   ·subst hj1;simp
   ·have e1:(0==j)=false:=by simpa using fun h=>hj h.symm
    have e2:(1==j)=false:=by simpa using fun h=>hj1 h.symm
    simp[e1,e2];omega
 ·simp (config:={maxSteps:=10000000}) (disch:=omega) only[ZA,ZT,simprocAttr,Asm.d,rch,wth_.ae,wth_.fv,BinP.q,BinP.ar,BinP.fv,insC.ca,insC.H0,Qer,List.getD_cons_zero,List.getD_cons_succ]
 simp (config:={maxSteps:=10000000}) (disch:=omega) only[ZA,ZT,simprocAttr,Asm.d,rch,wth_.ae,wth_.fv,BinP.q,BinP.ar,BinP.fv,insC.H1,sub,List.getD_cons_zero,List.getD_cons_succ];rw[ins_bef a.2.1 a.2.2 a.1.Tiles none h1 hno]
end Go.Ae
namespace Go.Ae
open Go.Proofs
def fitI(m:Sim)(a:Asm)(o:Opt):Bool:=Qau o.Tile 0 (m.Big.Set.Tiles.length - 1) && Qpg m.Big (Qbw (Qui m.Big a).Tl) o.At o.Tile
def chkI(m:Sim)(a:Asm)(o:Opt):Int:=
 if Qek m a≠0 then Qek m a
 else if fitI m a o=false then 2
 else if 500≤a.Tiles.length then 4
 else if (repS m a).2=false then 7
 else if (folI m a ⟨insT o.At o.Tile a.Tiles⟩).2=false then 10 else 0
theorem tl_lk(p:Qae): ∀(l:List Qab) (t:List (Qae×Int)),(∃x∈l,x.At=p∧lkP (l.foldl (fun t x=>updP t x.At x.Tile) t) p=some x.Tile)∨((∀x∈l,x.At≠p)∧lkP (l.foldl (fun t x=>updP t x.At x.Tile) t) p=lkP t p)
 |[],t=> .inr ⟨by simp,rfl⟩
 |y::r,t=>by
  simp only[List.foldl_cons];rcases tl_lk p r (updP t y.At y.Tile) with ⟨x,h1,h2,h3⟩|⟨h1,h2⟩
  ·exact .inl ⟨x,List.mem_cons_of_mem _ h1,h2,h3⟩
  ·rw[h2,Qyq];by_cases h:p=y.At
   ·rw[if_pos h];exact .inl ⟨y,List.mem_cons_self ..,h.symm,rfl⟩
   ·rw[if_neg h];refine .inr ⟨fun x hx=> ?_,rfl⟩;rcases List.mem_cons.1 hx with rfl|hx
    ·exact Ne.symm h
    ·exact h1 x hx
theorem tl_neg{s:Qaa}{a:Asm}(h: ∀x∈a.Tiles,Qcs s x.Tile){p:Qae}(hp:Qbw (tlUp a.Tiles) p<0):(∀x∈a.Tiles,x.At≠p)∧atA a p<0:=by
 have hn: ∀x∈a.Tiles,x.At≠p:=by
  rcases tl_lk p a.Tiles [] with ⟨x,h1,h2,h3⟩|⟨h1,_⟩
  ·simp only[Qbw,tlUp,h3,Option.getD_some] at hp
   have:=(h x h1).1
   omega
  ·exact h1
 refine⟨hn,?_⟩
 have:a.Tiles.find? (fun x=>decide (x.At=p))=none:=by
  rw[List.find?_eq_none];intro x hx;simpa using hn x hx
 simp[atA,this]
def chk_.ar:List PK→Option (Sim×Asm×Opt)
 |[.val (.agg x0),.val (.agg x1),.val (.agg x2)]=>(Sim.d x0).bind fun y0=>(Asm.d x1).bind fun y1=>(Opt.d x2).bind fun y2=>some (y0,y1,y2)
 |_=>none
def chk_.ae(a:Sim×Asm×Opt):List PK:=[.val (.agg (Sim.c a.1)),.val (.agg (Asm.c a.2.1)),.val (.agg (Opt.c a.2.2))]
theorem chk_.le: ∀ps a,chk_.ar ps=some a→LeKL ps (chk_.ae a):=by
 intro ps a h;unfold chk_.ar at h;split at h
 ·simp only[Option.bind_eq_some_iff,Option.some.injEq] at h;obtain⟨y0,h0,y1,h1,y2,h2,rfl⟩:=h;exact⟨Qav (Sim.d_le _ _ h0),Qav (Asm.d_le _ _ h1),Qav (Opt.d_le _ _ h2),trivial⟩
 ·cases h
def chk_.fv(a:Sim×Asm×Opt):Int:=(chkI) (a.1) (a.2.1) (a.2.2)
def chk_.row:Row:=Qfi chk_.ar (fun a=>Qf6 a.1.Big.Set∧Qf6 a.1.Small.Set) (fun a=>(D.int .i64) (chk_.fv a))
def chk_.q(a:List AV)(h:Nat→Option Ent)(n:Nat)(K:Kont):=show chk_.row a h n K=Qct _ _ _ (rchL h a) K (pkFL h a) from rfl
theorem chk_.ok:Qas Tryz.prog 10 chk_.row:=by
 refine Qbn Qaq (tC simCode_.ok (tC isTile.ok (tC newC.ok (tC fitsC.ok (tC rep_.ok (tC wth_.ok (tC fol_.ok tN))))))) Tryz.func10 rfl (by kernel_rfl) (by kernel_rfl) chk_.le (n:=3) (fun _=>rfl) (by decide) (rc:=(vInt)) (re:=(D.int .i64)) (Qa3) (f:=chk_.fv) ?_;intro a hpre;simp only[Tryz.f10,Option.getD];simp (config:={maxSteps:=10000000}) (disch:=omega) only[ZA,ZT,simprocAttr,Asm.d,rch,chk_.ae,chk_.fv,simCode_.q,simCode_.ar,simCode_.fv,isTile.q,isTile.ar,isTile.fv,fitsC.q,fitsC.ar,fitsC.fv,rep_.q,rep_.ar,rep_.fv,wth_.q,wth_.ar,wth_.fv,fol_.q,fol_.ar,fol_.fv,Qah,Qag,Qac,Qaf,Qai,D.sc,D.scs,scL,decD];obtain⟨m,a,o⟩:=a;simp only at hpre⊢;refine⟨hpre,?_⟩;by_cases c1:Qek m a=0
 case neg=>
  rw[if_pos c1];simp only[chkI];rw[if_pos c1]
 rw[if_neg (fun h=>h c1)];have hk:chkI m a o=if fitI m a o=false then 2 else if 500≤a.Tiles.length then 4 else if (repS m a).2=false then 7 else if (folI m a ⟨insT o.At o.Tile a.Tiles⟩).2=false then 10 else 0:=if_neg (fun h=>h c1)
 rw[hk];have hv:Qeh m=true∧(Qcl m.Big.Set && Qcp m.Big.Set a)=true:=by
  simp only[Qek] at c1;by_cases q1:simI m=false
  ·rw[if_pos q1] at c1;omega
  ·rw[if_neg q1] at c1;by_cases q2:(Qcl m.Big.Set && Qcp m.Big.Set a)=false
   ·rw[if_pos q2] at c1;omega
   ·rw[Bool.not_eq_false] at q1 q2;exact⟨by rw[←Qyl];exact q1,q2⟩
 have hbp:=Qof hv.2;by_cases c2:Qau o.Tile 0 (m.Big.Set.Tiles.length - 1)=true
 case neg=>
  rw[if_neg c2];rw[Bool.not_eq_true] at c2
  have:fitI m a o=false:=by simp only[fitI,c2,Bool.false_and]
  rw[if_pos this]
 rw[if_pos c2];have hnp:newC.pre (m.Big,a):=⟨hbp.1.1,by
  have:=hv.2
  simp only[Qcl,Qau,Bool.and_eq_true,decide_eq_true_eq] at this;simp only;omega,fun y hy=>⟨hbp.1.2.1.2 y hy,hbp.1.2.2.2 y hy⟩⟩
 refine orow.os (m.Big,a) [] hnp (fun j=>by simp[domB,hget]) rfl rfl ?_ ?_
 ·simp (config:={maxSteps:=10000000}) (disch:=omega) only[ZA,ZT,simprocAttr,Asm.d,rch,chk_.ae,chk_.fv,simCode_.q,simCode_.ar,simCode_.fv,isTile.q,isTile.ar,isTile.fv,fitsC.q,fitsC.ar,fitsC.fv,rep_.q,rep_.ar,rep_.fv,wth_.q,wth_.ar,wth_.fv,fol_.q,fol_.ar,fol_.fv,Qah,Qag,Qac,Qaf,Qai,D.sc,D.scs,scL,decD,newC.ca,Qer,Qar.c,Asm.c]
 simp (config:={maxSteps:=10000000}) (disch:=omega) only[ZA,ZT,simprocAttr,Asm.d,rch,chk_.ae,chk_.fv,simCode_.q,simCode_.ar,simCode_.fv,isTile.q,isTile.ar,isTile.fv,fitsC.q,fitsC.ar,fitsC.fv,rep_.q,rep_.ar,rep_.fv,wth_.q,wth_.ar,wth_.fv,fol_.q,fol_.ar,fol_.fv,Qah,Qag,Qac,Qaf,Qai,D.sc,D.scs,scL,decD,newC.H1,sub];refine⟨⟨hbp.1.1,(Qwp hnp).2.1,?_⟩,?_⟩
 ·simp only[Qau,Bool.and_eq_true,decide_eq_true_eq] at c2;exact⟨c2.1,by omega⟩
 have hfi:fitI m a o=Qpg m.Big (Qbw (Qui m.Big a).Tl) o.At o.Tile:=by simp only[fitI,c2,Bool.true_and]
 rw[←hfi];by_cases c3:fitI m a o=false
 ·rw[if_pos c3,if_pos c3]
 rw[if_neg c3,if_neg c3];intro _;by_cases c4:500≤a.Tiles.length
 ·rw[if_pos (by omega),if_pos c4]
 rw[if_neg (by omega),if_neg c4];have hok:=hv.2;rw[Bool.and_eq_true] at hok;refine⟨Qdf hv.1 hok.2,?_⟩;by_cases c5:(repS m a).2=false
 ·rw[if_pos c5,if_pos c5]
 rw[if_neg c5,if_neg c5];rw[Bool.not_eq_false,hfi] at c3;simp only[Qpg,Bool.and_eq_true,decide_eq_true_eq] at c3;obtain⟨d1,d2,_⟩:=c3;obtain⟨n1,n2⟩:=tl_neg (s:=m.Big.Set) hbp.1.2.1.2 (show Qbw (tlUp a.Tiles) o.At<0 from d2);have hform:=hbp.1.2.1.1;refine⟨⟨hform,d1,n2,by omega⟩,⟨hv.1,hok.2,?_⟩,?_⟩
 ·have ht:=c2;have hs:=hok.1;simp only[Qau,Bool.and_eq_true,decide_eq_true_eq] at ht;simp only[Qcl,Qau,Bool.and_eq_true,decide_eq_true_eq] at hs;have h159:Qau o.Tile 0 159=true:=by
   simp only[Qau,Bool.and_eq_true,decide_eq_true_eq];omega
  simp only[Qcp,Bool.and_eq_true,decide_eq_true_eq,List.all_eq_true];refine⟨⟨Qki d1 h159 _ none hform (fun q h=>by cases h) n1,by rw[Qkk];omega⟩,fun x hx=> ?_⟩;rcases (Qlc _ _ _ _).1 hx with rfl|hx
  ·exact c2
  ·have:=hbp.1.2.1.2 x hx
   simp only[Qau,Bool.and_eq_true,decide_eq_true_eq];exact⟨this.1,by have:=this.2;omega⟩
 ·split
  ·rfl
  ·rfl
end Go.Ae
namespace Go.Ae
open Go.Proofs
theorem Qaan{l:List Qab}(h:(l.map Qab.At).Nodup): ∀x∈l,∀y∈l,x.At=y.At→x=y:=by
 induction l with
 |nil=>intro x hx;cases hx
 |cons z r ih=>
  simp only[List.map_cons,List.nodup_cons] at h;intro x hx y hy e;rcases List.mem_cons.1 hx with ex|hx2<;>rcases List.mem_cons.1 hy with ey|hy2
  ·rw[ex,ey]
  ·exact absurd (List.mem_map.2 ⟨y,hy2,by rw[←e,ex]⟩) h.1
  ·exact absurd (List.mem_map.2 ⟨x,hx2,by rw[e,ey]⟩) h.1
  ·exact ih h.2 x hx2 y hy2 e
theorem tl_at{a:Asm}(hf:Qaz none a.Tiles=true):Qbw (tlUp a.Tiles)=atA a:=by
 funext p;rcases tl_lk p a.Tiles [] with ⟨x,h1,h2,h3⟩|⟨h1,h2⟩
 ·simp only[Qbw,tlUp,h3,Option.getD_some,atA];cases hq:a.Tiles.find? (fun x=>decide (x.At=p)) with
  |none=>
   have:=List.find?_eq_none.1 hq x h1
   simp[h2] at this
  |some y=>
   have hy:=List.find?_some hq;simp only[decide_eq_true_eq] at hy
   have:=Qaan (Qix hf) x h1 y (List.mem_of_find?_eq_some hq) (h2.trans hy.symm)
   rw[this];rfl
 ·have:a.Tiles.find? (fun x=>decide (x.At=p))=none:=by
   rw[List.find?_eq_none];intro x hx;simpa using h1 x hx
  simp only[Qbw,tlUp,h2,atA,this];rfl
theorem idx_at{s:Qaa}{a:Asm}(h: ∀x∈a.Tiles,Qcs s x.Tile)(p:Qae):Qaw (fun x=>decide (x.At=p)) 0 a.Tiles<0↔atA a p<0:=by
 simp only[atA];rcases Qep (fun x=>decide (x.At=p)) a.Tiles 0 with ⟨h1,h2⟩|⟨i,x,h1,h2,h3⟩
 ·rw[h1,h2];simp
 ·rw[h1,h2]
  have:=(h x (List.mem_of_getElem? h3)).1
  simp only[Option.map_some,Option.getD_some];omega
theorem fit_law{m:Sim}{a:Asm}(h:Qn7 m.Big.Set a)(o:Opt):fitI m a o=canS m.Big a o:=by
 have e:Qbw (Qui m.Big a).Tl=atA a:=tl_at h.1;simp only[fitI,Qpg,canS,e,bindF_A];have h2:decide (atA a o.At<0)=decide (Qaw (fun x=>decide (x.At=o.At)) 0 a.Tiles<0):=by rw[decide_eq_decide];exact (idx_at h.2 o.At).symm
 rw[h2];cases Qbi o.At<;>cases Qau o.Tile 0 (m.Big.Set.Tiles.length - 1)<;>simp
end Go.Ae
namespace Go.Ae
open Go.Proofs
theorem fit_can{m:Sim}{s:Qar}{a:Asm}(h:Qn7 s.Set a)(o:Opt)(ht:Qcs s.Set o.Tile):Qpg s (Qbw (Qui s a).Tl) o.At o.Tile=canS s a o:=by
 have:=fit_law (m:={m with Big:=s}) h o
 simp only[fitI] at this;rw[←this];have hw:Qau o.Tile 0 (s.Set.Tiles.length - 1)=true:=by
  simp only[Qau,Bool.and_eq_true,decide_eq_true_eq];exact⟨ht.1,by have:=ht.2;omega⟩
 rw[hw,Bool.true_and]
theorem Qqz(s:Qar)(x:Asm): ∀(l:List Qab),(Qgk s x l).2<0↔ ∀t∈l,Qaw (fun z=>decide (z.At=t.At)) 0 x.Tiles<0→canS s x ⟨t.At,t.Tile⟩=false
 |[]=>by simp[Qgk]
 |t::r=>by
  have ih:=Qqz s x r;simp only[Qgk,List.mem_cons,forall_eq_or_imp];by_cases c1:Qaw (fun z=>decide (z.At=t.At)) 0 x.Tiles<0
  ·rw[if_pos c1];by_cases c2:canS s x ⟨t.At,t.Tile⟩=true
   ·rw[if_pos c2];constructor
    ·intro h;exact absurd h (by simp)
    ·intro h;rw[h.1 c1] at c2;cases c2
   ·rw[if_neg c2,ih];exact⟨fun h=>⟨fun _=>by simpa using c2,h⟩,fun h=>h.2⟩
  ·rw[if_neg c1,ih];exact⟨fun h=>⟨fun h1=>absurd h1 c1,h⟩,fun h=>h.2⟩
theorem new_uniq{p q:Asm}(hp:Qaz none p.Tiles=true)(hq:Qaz none q.Tiles=true)(hl:q.Tiles.length=p.Tiles.length+1)(hin: ∀z∈p.Tiles,∃y∈q.Tiles,y.At=z.At)
 {t y:Qab}(ht:t∈q.Tiles)(hy:y∈q.Tiles)(hnt: ∀z∈p.Tiles,z.At≠t.At)(hny: ∀z∈p.Tiles,z.At≠y.At):t=y:=by
 by_cases he:t.At=y.At
 ·exact Qaan (Qix hq) t ht y hy he
 ·exfalso
  have:=Qpo (t.At::y.At::p.Tiles.map Qab.At) (q.Tiles.map Qab.At) (by
   rw[List.nodup_cons,List.nodup_cons];refine⟨fun h=> ?_,fun h=> ?_,Qix hp⟩
   ·rcases List.mem_cons.1 h with h|h
    ·exact he h
    ·obtain⟨z,hz,e⟩:=List.mem_map.1 h;exact hnt z hz e
   ·obtain⟨z,hz,e⟩:=List.mem_map.1 h;exact hny z hz e) (by
   intro v hv;rcases List.mem_cons.1 hv with rfl|hv
   ·exact List.mem_map_of_mem ht
   ·rcases List.mem_cons.1 hv with rfl|hv
    ·exact List.mem_map_of_mem hy
    ·obtain⟨z,hz,rfl⟩:=List.mem_map.1 hv;obtain⟨u,hu,e⟩:=hin z hz;rw[←e];exact List.mem_map_of_mem hu)
  simp only[List.length_cons,List.length_map] at this;omega
theorem fol_law{m:Sim}{x b:Asm}(h0:Qeh m=true)(hx:Qcp m.Big.Set x=true)(hb:Qcp m.Big.Set b=true)(hr:(repS m x).2=true):
 (folI m x b).2=false↔(Qmr m (repS m x).1 b).2<0:=by
 simp only[folI,Qmr];by_cases c1:(repS m b).2=true
 case neg=>
  rw[if_neg c1,if_pos (.inr (by simpa using c1))];simp
 rw[if_pos c1,if_neg (by rw[hr,c1];simp)];have hfx:=Qgc (Qdf h0 hx);have hfb:=Qgc (Qdf h0 hb);have hix:=Qph h0 hx;have hib:=Qph h0 hb;have hlx:=Qr0 (Qdf h0 hx);have hlb:=Qr0 (Qdf h0 hb);have hx5:=(Qdg hx).2;have hb5:=(Qdg hb).2;obtain⟨p,hp⟩: ∃p,p=(repS m x).1:=⟨_,rfl⟩;obtain⟨q,hq⟩: ∃q,q=(repS m b).1:=⟨_,rfl⟩;simp only[←hp,←hq] at hfx hfb hix hib hlx hlb⊢;simp only[Qmk];by_cases c2:p=q
 ·rw[if_pos c2,if_pos c2];simp
 rw[if_neg c2,if_neg c2];have hw:Qhi p q=p.Tiles.all (fun z=>decide (atA q z.At=z.Tile)):=by
  simp only[Qhi,hfx,hfb,Bool.true_and];rw[decide_eq_true (show p.Tiles.length≤500 by omega),decide_eq_true (show q.Tiles.length≤500 by omega)];rfl
 by_cases c3:q.Tiles.length=p.Tiles.length+1∧p.Tiles.all (fun z=>decide (atA q z.At=z.Tile))=true
 case neg=>
  rw[if_neg c3];simp only[Qd7];rw[if_neg (by rw[hw];exact c3)];simp
 rw[if_pos c3,Qqz];obtain⟨i,y,g1,_,_⟩:=Qjz hfx hfb c3.1;have hG:Qd7 p q=(⟨y.At,y.Tile⟩,true):=by
  simp only[Qd7];rw[if_pos (by rw[hw];exact c3),g1];rfl
 have hyq:=List.mem_of_find?_eq_some g1;have hyn:=List.find?_some g1;simp only[Qqb,decide_eq_true_eq] at hyn;rw[hG];simp only[Bool.true_and];have hfc:=fit_can (m:=m) (s:=m.Small) (a:=p) hix ⟨y.At,y.Tile⟩ (hib.2 y hyq);rw[hfc];have hyi:=(idx_at hix.2 y.At).2 hyn;constructor
 ·intro h t ht hti
  have:t=y:=by
   refine new_uniq hfx hfb c3.1 (fun z hz=> ?_) ht hyq (Qma hti) (Qma hyi);have hz':=List.all_eq_true.1 c3.2 z hz;rw[decide_eq_true_eq] at hz';have hz0:=(hix.2 z hz).1;simp only[atA] at hz';cases hf:q.Tiles.find? (fun x=>decide (x.At=z.At)) with
   |none=>rw[hf] at hz';simp at hz';omega
   |some u=>
    have:=List.find?_some hf
    exact⟨u,List.mem_of_find?_eq_some hf,by simpa using this⟩
  rw[this];exact h
 ·intro h;exact h y hyq hyi
theorem step_law(m:Sim)(a:Asm)(o:Opt):chkI m a o=Qi0 m a o:=by
 simp only[chkI,Qi0];by_cases h0:Qeh m=true∧Qcp m.Big.Set a=true
 case neg=>
  have hs:Qek m a=1:=by
   simp only[Qek];by_cases q1:simI m=false
   ·rw[if_pos q1]
   ·rw[if_neg q1];by_cases q2:(Qcl m.Big.Set && Qcp m.Big.Set a)=false
    ·rw[if_pos q2]
    ·rw[Bool.not_eq_false,Bool.and_eq_true] at q2;rw[Bool.not_eq_false,Qyl] at q1;exact absurd ⟨q1,q2.2⟩ h0
  rw[hs,if_pos (show ((1:Int)≠0) by decide),if_pos h0]
 obtain⟨hs,ha⟩:=h0;have hbig:=Quu hs;have hsc:Qek m a=0:=by
  simp only[Qek,Qyl,hs,hbig,ha];rfl
 rw[hsc,if_neg (show ¬((0:Int)≠0) by decide),if_neg (show ¬ ¬(Qeh m=true∧Qcp m.Big.Set a=true) from fun h=>h ⟨hs,ha⟩)];have hain:=(Qdg ha).1;rw[fit_law hain];by_cases c1:canS m.Big a o=false
 ·rw[if_pos c1,if_pos c1]
 rw[if_neg c1,if_neg c1];by_cases c2:500≤a.Tiles.length
 ·rw[if_pos c2,if_pos c2]
 rw[if_neg c2,if_neg c2];by_cases c3:(repS m a).2=false
 ·rw[if_pos c3,if_pos c3]
 rw[if_neg c3,if_neg c3];rw[Bool.not_eq_false] at c1 c3;have hb:=put_ok hbig ha c1 (by omega);rw[Qi8] at hb⊢
 have:=fol_law hs ha hb c3
 by_cases c4:(folI m a ⟨insT o.At o.Tile a.Tiles⟩).2=false
 ·rw[if_pos c4,if_pos (this.1 c4)]
 ·rw[if_neg c4,if_neg (fun h=>c4 (this.2 h))]
end Go.Ae
namespace Go.Ae
open Go.Proofs
theorem Qn3{n:Nat}{l:Int}(h:0≤szC n l):(n:Int)≤l∧szC n l≤l∧0≤l:=by
 simp only[szC] at h⊢;split at h
 ·omega
 ·rename_i c;rw[if_neg c];omega
theorem Qu5: ∀(a:List Tile) (l:Int),0≤l→l≤1048576→0≤Qdz Qcn a l→ ∀x∈a,x.Sides.length≤1073741824
 |[],_,_,_,_=>by intro x hx;cases hx
 |y::r,l,h0,hl,h=>by
  simp only[Qdz] at h;split at h
  ·omega
  ·rename_i c;have hy:0≤Qcn y l:=by omega
   have h1:0≤szC y.Name.size l:=by
    simp only[Qcn] at hy;split at hy
    ·omega
    ·omega
   have e:Qcn y l=szC y.Sides.length (szC y.Name.size l):=by
    simp only[Qcn];rw[if_neg (by omega)]
   rw[e] at hy h;obtain⟨a1,a2,a3⟩:=Qn3 hy;obtain⟨b1,b2,b3⟩:=Qn3 h1;intro x hx;rcases List.mem_cons.1 hx with rfl|hx
   ·omega
   ·exact Qu5 r _ hy (by omega) h x hx
theorem szSet_sm{s:Qaa}{l:Int}(hl: -1≤l)(hl2:l≤1048576)(h:0≤Qqd s l):smSet s:=by
 have hg:=Qo1 s.Glues l hl;simp only[Qqd] at h;split at h
 ·omega
 rename_i c;have hg0:0≤Qcj s.Glues l:=by omega
 have hgc:0≤szC s.Glues.length l:=by
  simp only[Qcj] at hg0;split at hg0
  ·omega
  ·omega
 have htc:0≤szC s.Tiles.length (Qcj s.Glues l):=by
  simp only[Qds] at h;split at h
  ·omega
  ·omega
 have e:Qds s.Tiles (Qcj s.Glues l)=Qdz Qcn s.Tiles (szC s.Tiles.length (Qcj s.Glues l)):=by
  simp only[Qds];rw[if_neg (by omega)]
 rw[e] at h;obtain⟨a1,a2,a3⟩:=Qn3 hgc;obtain⟨b1,b2,b3⟩:=Qn3 htc;exact⟨by omega,by omega,Qu5 s.Tiles _ htc (by omega) h⟩
theorem Qz9{s:Qar}{l:Int}(hl: -1≤l)(hl2:l≤1048576)(h:0≤Qlr s l):smSys s:=by
 have hb:=Qxk s.Set l hl;simp only[Qlr] at h;split at h
 ·omega
 rename_i c;obtain⟨a1,a2,a3⟩:=Qn3 h;exact⟨szSet_sm hl hl2 (by omega),by omega⟩
theorem szSim_sm{s:Sim}{l:Int}(hl: -1≤l)(hl2:l≤1048576)(h:0≤Qab0 s l):smSim s∧Qab0 s l≤1048576:=by
 have hb:=Qtd s.Big l hl;have hc:=Qtd s.Small (Qlr s.Big l) hb.1;simp only[Qab0] at h⊢;split at h
 ·omega
 rename_i c1;rw[if_neg c1];split at h
 ·omega
 rename_i c2;rw[if_neg c2];obtain⟨a1,a2,a3⟩:=Qn3 h;exact⟨⟨Qz9 hl hl2 (by omega),Qz9 hb.1 (by omega) (by omega),by omega⟩,by omega⟩
def lawS.ar:List PK→Option (Sim×Asm×Opt)
 |[.val (.agg x0),.val (.agg x1),.val (.agg x2)]=>(Sim.d x0).bind fun y0=>(Asm.d x1).bind fun y1=>(Opt.d x2).bind fun y2=>some (y0,y1,y2)
 |_=>none
def lawS.ae(a:Sim×Asm×Opt):List PK:=[.val (.agg (Sim.c a.1)),.val (.agg (Asm.c a.2.1)),.val (.agg (Opt.c a.2.2))]
theorem lawS.le: ∀ps a,lawS.ar ps=some a→LeKL ps (lawS.ae a):=by
 intro ps a h;unfold lawS.ar at h;split at h
 ·simp only[Option.bind_eq_some_iff,Option.some.injEq] at h;obtain⟨y0,h0,y1,h1,y2,h2,rfl⟩:=h;exact⟨Qav (Sim.d_le _ _ h0),Qav (Asm.d_le _ _ h1),Qav (Opt.d_le _ _ h2),trivial⟩
 ·cases h
def lawS.rc:D→Option (Bool):=Qa8
def lawS.re:Bool→D:=D.bool
theorem lawS.rle: ∀d b,lawS.rc d=some b→Le d (lawS.re b):=Qat
def lawS.fv(a:Sim×Asm×Opt):Bool:=(fun _ _ _=>true) (a.1) (a.2.1) (a.2.2)
def lawS.row:Row:=vrow lawS.ar (fun a=>nmOk a.1.Big.Set∧nmOk a.1.Small.Set) (fun a=>lawS.re (lawS.fv a))
def lawS.q(a:List AV)(h:Nat→Option Ent)(n:Nat)(K:Kont):=show lawS.row a h n K=Qa1 _ _ _ (nmsL a) K (pkL h a) from rfl
theorem lawS.ok:Qas Tryz.prog 3 lawS.row:=by
 refine Qaj Qaq (tC szSimulation.ok (tC szAssembly.ok (tC toSimulation.ok (tC toAssembly.ok (tC toOption.ok (tC spec_CheckStep.ok (tC chk_.ok (tC eqSimulation.ok (tC eqAssembly.ok tN))))))))) Tryz.func3 rfl (by kernel_rfl) (by kernel_rfl) lawS.le (n:=3) (fun _=>rfl) (by decide) (rc:=lawS.rc) (re:=lawS.re) lawS.rle (f:=lawS.fv) ?_;intro a hpre;simp only[Tryz.f3,Option.getD];simp (config:={maxSteps:=10000000}) (disch:=omega) only[ZA,ZT,simprocAttr,Asm.d,rch,lawS.ae,lawS.fv,lawS.rc,szSimulation.q,szSimulation.ar,szSimulation.fv,szAssembly.q,szAssembly.ar,szAssembly.fv,toSimulation.q,toSimulation.ar,toSimulation.fv,toAssembly.q,toAssembly.ar,toAssembly.fv,toOption.q,toOption.ar,toOption.fv,spec_CheckStep.q,spec_CheckStep.ar,spec_CheckStep.fv,chk_.q,chk_.ar,chk_.fv,eqSimulation.q,eqSimulation.ar,eqSimulation.fv,eqAssembly.q,eqAssembly.ar,eqAssembly.fv];refine⟨hpre,?_⟩;split
 ·trivial
 rename_i c1;obtain⟨h1,h2⟩:=szSim_sm (s:=a.1) (l:=1048576) (by decide) (by decide) (by omega);refine⟨⟨by omega,h2⟩,?_⟩;split
 ·trivial
 rename_i c2;obtain⟨b1,_,_⟩:=Qn3 (n:=a.2.1.Tiles.length) (l:=Qab0 a.1 1048576) (by simp only[Qab3] at c2;omega);have h3:a.2.1.Tiles.length≤1073741824:=by omega
 refine⟨h1,h3,h1,h3,hpre,?_⟩;rw[if_neg (fun h=>h (step_law a.1 a.2.1 a.2.2))];exact⟨h1,h3⟩
end Go.Ae
