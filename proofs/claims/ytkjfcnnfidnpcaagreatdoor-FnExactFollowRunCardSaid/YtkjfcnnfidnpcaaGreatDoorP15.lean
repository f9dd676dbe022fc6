/- Lemmas. Conditions: none. -/
import Derived.Test.YtkjfcnnfidnpcaaGreatDoorP14
import Derived.Shelf.Spec.SlicesInsertGrow
set_option linter.all false
set_option maxHeartbeats 8000000
set_option maxRecDepth 100000
namespace Go.Proofs
open Go.Shelf Go.RowKit Go.Lib
def Tryz.pl101:(Tryz.prog.info? 97).map (λi=>(i.zero,i.size,i.bytes))=some (some (.agg #[.int .i64 0,.int .i64 0,.int .i64 0]),3,24):=by kernel_rfl
def yD{P:Program}(w:World)(dT sT ty O:TypeId)(k b o z Q:Nat)(a:Addr)(sLen sCap:Nat)(cs:List Value)
 (hu:P.underlying dT=some (.slice O))(hs:(P.info? O).map (·.size)=some k)(hn:cs.length=Nat.min sLen z*k)
 (Z: ∀j v,cs[j]? =some v->w.cell? (a.add j)=some v)(hc: ∀j,j<cs.length->(w.cell? ⟨b,o+j,none⟩).isSome=true)(hf: ∀j,j<cs.length->w.frozen? ⟨b,o+j,none⟩=false)(h1: ∀v∈cs,v.oneCell'=true):
 (Builtin.copy_ #[dT,sT] ty #[.slice (some ⟨b,o,none⟩) z Q,.slice (some a) sLen sCap]).run P w= .ok (goInt (Nat.min sLen z)) (w.setCells b o cs):=by
 have hl:=run_loadCells_list (P:=P) w a cs Z;have aa:=run_storeCells_cells (P:=P) b o cs 0 w (by simpa using hc) (by simpa using hf) h1;cases hq:P.info? O with
 |none=>simp[hq] at hs
 |some i=>
  have hi:i.size=k:=by simpa[hq] using hs
  simp[Builtin.copy_,run_underlying hu,Builtin.lenOf,Builtin.firstCells,sizeOf,typeInfo,hq,hi,<-hn,hl,aa]
def kM(b:Nat): ∀(vs:List Value) (o:Nat) (w:World) (cv:Array Value) (T:TypeId) (O:Nat×Nat),w.heap[b]? =some (.cells cv T O)->o+vs.length<=cv.size->
 (∃z,(w.setCells b o vs).heap[b]? =some (.cells z T O)/\z.toList=cv.toList.take o++vs++cv.toList.drop (o+vs.length))
 |[],o,w,cv,T,O,h,_=>⟨cv,h,by simp⟩
 |v::r,o,w,cv,T,O,h,hl=>by
  simp only[CQ] at hl;have Z:(w.setCell ⟨b,o,none⟩ v).heap[b]? =some (.cells (cv.setIfInBounds o v) T O):=by
   simp only[World.setCell,vQ,BM,h];rfl
  obtain⟨z,g1,g2⟩:=kM b r (o+1) _ _ T O Z (by simp;omega);refine⟨z,g1,?_⟩;rw[g2,Zdf,List.take_set,List.drop_set];have Q:(cv.toList.take (o+1)).set o v=cv.toList.take o++[v]:=by
   rw[Ib,Bk (by simp;omega),vH,mI _ _ (by simp;omega)]
   have:o - (cv.toList.take o).length=0:=by simp;omega
   rw[this];rfl
  rw[Q,Ak (by omega)];simp only[Fb,De,FC,CQ];rw[show o+1+r.length=o+(r.length+1) by omega]
def kK(b:Nat): ∀(vs:List Value) (o:Nat) (w:World) (x:Nat),x≠b->(w.setCells b o vs).heap[x]? =w.heap[x]?
 |[],_,_,_,_=>rfl
 |v::r,o,w,x,h=>by
  rw[World.setCells,kK b r _ _ x h];simp only[World.setCell,vQ];rw[Ad (λe=>h e.symm)]
def kL(b:Nat): ∀(vs:List Value) (o:Nat) (w:World),(w.setCells b o vs).heap.size=w.heap.size/\(w.setCells b o vs).os=w.os/\(w.setCells b o vs).tape=w.tape/\(w.setCells b o vs).output=w.output
 |[],_,_=>⟨rfl,rfl,rfl,rfl⟩
 |v::r,o,w=>by
  obtain⟨z,O,Q,Z⟩:=kL b r (o+1) (w.setCell ⟨b,o,none⟩ v);exact⟨by rw[World.setCells,z];simp[World.setCell],O,Q,Z⟩
structure WE(w w':World)(b n:Nat)(T:TypeId)(k:Nat)(cs:List Value)(b' off' c':Nat):Prop where
 cap:n<=c'
 wh:b'=b\/b'=w.heap.size
 size:w.heap.size<=w'.heap.size
 lt:b'<w'.heap.size
 os:w'.os=w.os
 tape:w'.tape=w.tape
 output:w'.output=w.output
 keep: ∀x,x<w.heap.size->x≠b->w'.heap[x]? =w.heap[x]?
 row: ∃cv,w'.heap[b']? =some (.cells cv T (0,0))/\off'+c'*k<=cv.size/\ ∃r,cv.toList.drop off'=cs++r
structure Im(w:World)(b off n c vb voff:Nat)(cs vs:List Value):Prop where
 hcl:cs.length=n*3
 hvl:vs.length=3
 hnc:n<=c
 hn:n<=100000
 hvb:vb≠b
 hcs: ∀j v,cs[j]? =some v->w.cell? ⟨b,off+j,none⟩=some v
 hsp: ∀j,j<c*3->(w.cell? ⟨b,off+j,none⟩).isSome=true
 hfz: ∀x j,x=b\/x=vb->w.frozen? ⟨x,j,none⟩=false
 hvs: ∀j v,vs[j]? =some v->w.cell? ⟨vb,voff+j,none⟩=some v
 h1c: ∀v∈cs,v.oneCell'=true
 h1v: ∀v∈vs,v.oneCell'=true
 sa: ∃tA kA,w.shape? vb=some (tA,kA)
 sb: ∃tB kB,w.shape? b=some (tB,kB)/\kB≠0
def Tryz.ins_shift{w:World}{b off n c vb voff:Nat}{cs vs:List Value}(H:Im w b off n c vb voff cs vs)(i:Nat)(hi:i<n)(aj:n+1<=c)(vc:Nat):
 Calls Tryz.prog 64 #[.slice (some ⟨b,off,none⟩) n c,.int .i64 i,.slice (some ⟨vb,voff,none⟩) 1 vc] w λe w'=>
  e= .returned (.slice (some ⟨b,off,none⟩) (n+1) c)/\w'=(w.drew.setCells b (off+(i+1)*3) (cs.drop (i*3))).setCells b (off+i*3) vs:=by
 obtain⟨hcl,hvl,hnc,hn,hvb,hcs,hsp,hfz,hvs,h1c,h1v,⟨tA,kA,ak⟩,tB,kB,am,ah⟩:=H;have az: ¬((i:Int)=(n:Int)):=by omega
 have ad:(Tryz.prog.info? 97).map (·.size)=some 3:=by kernel_rfl
 have Z:Tryz.prog.underlying 36=some (.slice 97):=by kernel_rfl
 have ai: ∀lb cb,(callFunc 99 #[.slice (some ⟨vb,voff,none⟩) 1 vc,.slice (some ⟨b,off+(i+1)*3,none⟩) lb cb]).run Tryz.prog w= .ok (.value (.bool false)) w:=λlb cb=>by
  rw[run_callFunc_extern Tryz.func99 (by kernel_rfl) (by kernel_rfl) (by kernel_rfl) (e:=Extern.SlicesOverlaps.overlaps #[36,36] #[4]) (by kernel_rfl),
   Lib.run_overlaps_apart w 36 4 97 Z 3 Tryz.sizeOf97 ⟨vb,voff,none⟩ ⟨b,off+(i+1)*3,none⟩ 1 vc lb cb hvb tA tB kA kB ak am ah (hfz _ _ (.inr rfl)) (hfz _ _ (.inr rfl))]
  rfl
 have ag:(cs.drop (i*3)).length=n*3 - i*3:=by rw[Cj,hcl]
 have z: ∀ty Q sc,(Builtin.copy_ #[36,36] ty #[.slice (some ⟨b,off+(i+1)*3,none⟩) (n - i) Q,.slice (some ⟨b,off+i*3,none⟩) (n+1 - i) sc]).run Tryz.prog w.drew= .ok (goInt (Nat.min (n+1 - i) (n - i))) (w.drew.setCells b (off+(i+1)*3) (cs.drop (i*3))):=λty Q sc=>
  yD w.drew _ _ ty 97 3 b (off+(i+1)*3) (n - i) Q ⟨b,off+i*3,none⟩ (n+1 - i) sc (cs.drop (i*3)) Z ad (by rw[ag];simp only[Zfk];split<;>omega)
   (λj v O=>by rw[Addr.add_lit,Gf];exact hcs (i*3+j) v (by rwa [GW] at O))
   (λj O=>by rw[Gf];exact hsp _ (by omega)) (λj O=>hfz _ _ (.inl rfl)) (λv hv=>h1c v (ZdJ hv))
 obtain⟨W1,hW1⟩: ∃W1,W1=w.drew.setCells b (off+(i+1)*3) (cs.drop (i*3)):=⟨_,rfl⟩;have ac: ∀k,k<c*3->(W1.cell? ⟨b,off+k,none⟩).isSome=true:=λk hk=>by
  rw[hW1];exact isSome_setCells b _ _ _ (λj O=>by rw[Gf];exact hsp _ (by omega)) _ (hsp k hk)
 have ab: ∀(W:World),(∀x,W.cell? x=W1.cell? x)->(∀x,W.frozen? x=W1.frozen? x)-> ∀ty Q,(Builtin.copy_ #[36,36] ty #[.slice (some ⟨b,off+i*3,none⟩) (n+1 - i) Q,.slice (some ⟨vb,voff,none⟩) 1 vc]).run Tryz.prog W= .ok (goInt (Nat.min 1 (n+1 - i))) (W.setCells b (off+i*3) vs):=λW aa af ty Q=>
  yD W _ _ ty 97 3 b (off+i*3) (n+1 - i) Q ⟨vb,voff,none⟩ 1 vc vs Z ad (by rw[hvl];simp only[Zfk];split<;>omega)
   (λj v O=>by
    rw[Addr.add_lit,aa,hW1,World.cell?_setCells_out b _ _ _ _ (λh _=>absurd h hvb)];exact hvs j v O)
   (λj O=>by rw[aa,Gf];exact ac _ (by omega)) (λj O=>by rw[af,hW1,World.frozen?_setCells];exact hfz _ _ (.inl rfl)) h1v
 rw[<-hW1] at z;have ax:IntKind.i64.wrap ((i:Int)+1)=(i:Int)+1:=by rw[IntKind.wrap_i64];omega
 have ay:IntKind.i64.wrap ((n:Int)+1)=(n:Int)+1:=by rw[IntKind.wrap_i64];omega
 have an:(0:Int)<=(i:Int)+1:=by omega
 have av:i<=n:=by omega
 have aw:((i:Int)+1).toNat=i+1:=by omega
 have ao: ¬(c=i+1):=by omega
 have aq:(i:Int)<=(n:Int)+1:=by omega
 have au: ¬(c=i):=by omega
 have CF:Tryz.prog.follows .mixedOrders=true:=by kernel_rfl
 go_enter Tryz.func64,Tryz.ntmps64
 go_wp2_with (simp only[ai])
 go_region_law_o (refine step_copy_runI rfl _ _ 36 36 rfl _ _ (by simp[Act.eval,Act.put]) (by simp[Act.eval,Act.put]) (z _ _ _) ?_)
 go_wp2_with (at_builtin;refine wpList_copy_runI _ rfl _ _ 36 36 rfl _ _ rfl rfl (ab _ (λ_=>rfl) (λ_=>rfl) _ _) ?_)
 go_ret
 first|exact⟨rfl,rfl⟩|exact⟨rfl,by rw[hW1]⟩
def Tryz.insSrc{w:World}{b off n c vb voff:Nat}{cs vs:List Value}(H:Im w b off n c vb voff cs vs)(z:Nat):Src Tryz.prog 3 36 (.slice (some ⟨vb,voff,none⟩) 1 z) 1 vs w:=
 Src.ofSlice w (show Tryz.prog.underlying 36=some (.slice 97) by kernel_rfl) ⟨vb,voff,none⟩ 1 z vs (by rw[H.hvl]) (λj u O=>by rw[Addr.add_lit];exact H.hvs j u O) H.h1v
def Tryz.ins_end_room{w:World}{b off n c vb voff:Nat}{cs vs:List Value}(H:Im w b off n c vb voff cs vs)(Q:n+1<=c)(vc:Nat):
 Calls Tryz.prog 64 #[.slice (some ⟨b,off,none⟩) n c,.int .i64 n,.slice (some ⟨vb,voff,none⟩) 1 vc] w λe w'=>
  e= .returned (.slice (some ⟨b,off,none⟩) (n+1) c)/\w'=w.setCells b (off+n*3) vs:=by
 obtain⟨i0,Z,ab,z,ac⟩:=info_parts Tryz.pl101;have ad:Tryz.prog.underlying 36=some (.slice 97):=by kernel_rfl
 have O:=Tryz.insSrc H vc;have hsp:=H.hsp;have hfz:=H.hfz;have hvl:=H.hvl;have aa: ∀ty,(Builtin.append_ #[36,36] ty #[.slice (some ⟨b,off,none⟩) n c,.slice (some ⟨vb,voff,none⟩) 1 vc]).run Tryz.prog w= .ok (.slice (some ⟨b,off,none⟩) (n+1) c) (w.setCells b (off+n*3) vs):=λty=>by
  have:=run_append_room_src w 36 36 ty 97 i0 ad Z b off n c (.slice (some ⟨vb,voff,none⟩) 1 vc) 1 vs (by rw[z];exact O) Q
   (λj hj=>by rw[z,Gf];exact hsp _ (by omega)) (λj hj=>hfz _ _ (.inl rfl))
  rwa [z] at this
 clear O Z ab z ac
 go_enter Tryz.func64,Tryz.ntmps64
 go_wp2_with (at_builtin;refine Lib.wpList_append_run _ rfl _ _ _ _ rfl _ _ rfl rfl _ _ (aa _) ?_)
 go_ret
 exact⟨rfl,rfl⟩
def Tryz.ins_end_grow{w:World}{base:Option Addr}{n c vb voff:Nat}{cs vs:List Value}(hcl:cs.length=n*3)(hvl:vs.length=3)(hnc:n<=c)(hn:n<=100000)(z:c<n+1)(O:base=none->n=0)
 (hcs: ∀a,base=some a-> ∀j v,cs[j]? =some v->w.cell? (a.add j)=some v)
 (hvs: ∀j v,vs[j]? =some v->w.cell? ⟨vb,voff+j,none⟩=some v)(h1v: ∀v∈vs,v.oneCell'=true)(vc:Nat):
 Calls Tryz.prog 64 #[.slice base n c,.int .i64 n,.slice (some ⟨vb,voff,none⟩) 1 vc] w λe w'=>
  e= .returned (.slice (some ⟨w.heap.size,0,none⟩) (n+1) (grownCap w (n+1) c 97))/\
  w'=w.drew.alloc (.cells ((cs++vs).toArray++Builtin.zeroCells #[.int .i64 0,.int .i64 0,.int .i64 0] (grownCap w (n+1) c 97 - (n+1))) 97):=by
 obtain⟨i0,ad,af,ac,ag⟩:=info_parts Tryz.pl101;have ah:Tryz.prog.underlying 36=some (.slice 97):=by kernel_rfl
 have aa:Src Tryz.prog 3 36 (.slice (some ⟨vb,voff,none⟩) 1 vc) 1 vs w:=
  Src.ofSlice w ah ⟨vb,voff,none⟩ 1 vc vs (by rw[hvl]) (λj u hj=>by rw[Addr.add_lit];exact hvs j u hj) h1v
 have Q:(Builtin.firstCells i0.size n (.slice base n c)).run Tryz.prog w.drew= .ok cs.toArray w.drew:=by
  rw[ac];cases base with
  |none=>
   have h0:=O rfl;subst h0;rw[Rj.1 (by omega:cs.length=0)];exact run_firstCells_none w.drew 3 0 0 c
  |some a=>exact run_firstCells_some w.drew 3 n a n c cs hcl (λj v hj=>hcs a rfl j v hj)
 have Z: ∀ty,(Builtin.append_ #[36,36] ty #[.slice base n c,.slice (some ⟨vb,voff,none⟩) 1 vc]).run Tryz.prog w= .ok (.slice (some ⟨w.heap.size,0,none⟩) (n+1) (grownCap w (n+1) c 97)) (w.drew.alloc (.cells ((cs++vs).toArray++Builtin.zeroCells #[.int .i64 0,.int .i64 0,.int .i64 0] (grownCap w (n+1) c 97 - (n+1))) 97)):=λty=>
  run_append_grow_src w 36 36 ty 97 i0 _ ah ad af base n c cs Q _ 1 vs (by rw[ac];exact aa) z (by omega) (by rw[ag];exact growslice_fits z (by omega))
 clear aa ad af ac ag Q
 go_enter Tryz.func64,Tryz.ntmps64
 cases base with
 |none=>
  have h0:=O rfl;subst h0
  go_wp2_with (at_builtin;refine Lib.wpList_append_run _ rfl _ _ _ _ rfl _ _ rfl rfl _ _ (Z _) ?_)
  go_ret
  exact⟨rfl,rfl⟩
 |some a=>
  obtain⟨ab,ao,ai⟩:=a
  go_wp2_with (at_builtin;refine Lib.wpList_append_run _ rfl _ _ _ _ rfl _ _ rfl rfl _ _ (Z _) ?_)
  all_goals (go_ret;exact⟨rfl,rfl⟩)
def z3:Array Value:= #[.int .i64 0,.int .i64 0,.int .i64 0]
def Tryz.ins_grow{w:World}{b off n c vb voff:Nat}{cs vs:List Value}(H:Im w b off n c vb voff cs vs)(i:Nat)(hi:i<n)(ag:c<n+1)(vc:Nat):
 Calls Tryz.prog 64 #[.slice (some ⟨b,off,none⟩) n c,.int .i64 i,.slice (some ⟨vb,voff,none⟩) 1 vc] w λe w'=>
  e= .returned (.slice (some ⟨w.heap.size,0,none⟩) (n+1) (grownCap w (n+1) c 97))/\
  w'=(((w.alloc (.cells ((cs.take (i*3)).toArray++Builtin.zeroCells z3 (n+1 - i)++Builtin.zeroCells z3 (grownCap w (n+1) c 97 - (n+1))) 97)).drew.setCells w.heap.size (i*3) vs).drew).setCells w.heap.size ((i+1)*3) (cs.drop (i*3)):=by
 obtain⟨hcl,hvl,hnc,hn,hvb,hcs,hsp,hfz,hvs,h1c,h1v,_,_⟩:=H;obtain⟨i0,an,aq,au,ai⟩:=info_parts Tryz.pl101;have aj:Tryz.prog.underlying 36=some (.slice 97):=by kernel_rfl
 have u3:Tryz.prog.underlying 3=some (.int .i64):=by kernel_rfl
 have br: ¬((i:Int)=(n:Int)):=by omega
 have bt:(c:Int)<(n:Int)+1:=by omega
 have ah:(Tryz.prog.info? 97).map (·.size)=some 3:=by kernel_rfl
 have ba:b<w.heap.size:=block_lt_of_cell (hcs 0 _ (Bk (by omega)));have bc:vb<w.heap.size:=block_lt_of_cell (hvs 0 _ (Bk (by omega)));have ao:(n:Int)+1 - (i:Int)=((n+1 - i:Nat):Int):=by omega
 have af:i+(n+1 - i)=n+1:=by omega
 have ac:(Builtin.firstCells i0.size i (.slice (some ⟨b,off,none⟩) i c)).run Tryz.prog w.drew= .ok (cs.take (i*3)).toArray w.drew:=by
  rw[au];exact run_firstCells_some w.drew 3 i ⟨b,off,none⟩ i c (cs.take (i*3)) (by rw[BH];omega) (λj v Q=>by
   rw[Addr.add_lit];rw[Xa] at Q;split at Q
   .exact hcs j v Q
   .cases Q)
 have aa: ∀ty,(Builtin.append_ #[36,3] ty #[.slice (some ⟨b,off,none⟩) i c,.int .i64 ((n:Int)+1 - (i:Int))]).run Tryz.prog w=
  .ok (.slice (some ⟨w.heap.size,0,none⟩) (n+1) (grownCap w (n+1) c 97)) (w.drew.alloc (.cells ((cs.take (i*3)).toArray++Builtin.zeroCells z3 (n+1 - i)++Builtin.zeroCells z3 (grownCap w (n+1) c 97 - (n+1))) 97)):=λty=>by
  have h:=Lib.run_append_grow_zeros w 36 3 ty 97 i0 _ .i64 .i64 aj u3 an aq (some ⟨b,off,none⟩) i c (cs.take (i*3)) ac (n+1 - i) (by omega) (by omega) (by omega) (by omega) (by rw[ai];omega) (by rw[ai,af];exact growslice_fits ag (by omega));rw[af] at h;rw[ao];exact h
 obtain⟨G,hG⟩: ∃G,G=grownCap w (n+1) c 97:=⟨_,rfl⟩;obtain⟨z,hROW⟩: ∃z:Array Value,z=(cs.take (i*3)).toArray++Builtin.zeroCells z3 (n+1 - i)++Builtin.zeroCells z3 (G - (n+1)):=⟨_,rfl⟩;rw[<-hG] at aa⊢;rw[<-hROW] at aa⊢;have a8:(n+1)*3<=z.size:=by
  rw[hROW];simp[Builtin.zeroCells,z3];omega
 obtain⟨W1,hW1⟩: ∃W1,W1=w.drew.alloc (.cells z 97):=⟨_,rfl⟩;rw[<-hW1] at aa;have hN: ∀j,j<(n+1)*3->(W1.cell? ⟨w.heap.size,j,none⟩).isSome=true:=λj Q=>by
  rw[hW1,World.cell?_alloc_at (w:=w.drew) z _ w.heap.size j rfl,Hn (by omega)];rfl
 have ak: ∀j,W1.frozen? ⟨w.heap.size,j,none⟩=false:=λj=>by rw[hW1];exact World.frozen?_alloc_at (w:=w.drew) z _ w.heap.size j rfl
 have az: ∀j v,w.cell? ⟨b,j,none⟩=some v->W1.cell? ⟨b,j,none⟩=some v:=λj v h=>by rw[hW1,World.cell?_alloc_past (w:=w.drew) _ b j ba];exact h
 have a0: ∀j v,w.cell? ⟨vb,j,none⟩=some v->W1.cell? ⟨vb,j,none⟩=some v:=λj v h=>by rw[hW1,World.cell?_alloc_past (w:=w.drew) _ vb j bc];exact h
 have am: ∀(W:World),(∀x,W.cell? x=W1.cell? x)->(∀x,W.frozen? x=W1.frozen? x)-> ∀ty dc,(Builtin.copy_ #[36,36] ty #[.slice (some ⟨w.heap.size,i*3,none⟩) (n+1 - i) dc,.slice (some ⟨vb,voff,none⟩) 1 vc]).run Tryz.prog W= .ok (goInt (Nat.min 1 (n+1 - i))) (W.setCells w.heap.size (i*3) vs):=λW Z ad ty dc=>
  yD W _ _ ty 97 3 w.heap.size (i*3) (n+1 - i) dc ⟨vb,voff,none⟩ 1 vc vs aj ah (by rw[hvl];simp only[Zfk];split<;>omega)
   (λj v Q=>by rw[Addr.add_lit,Z];exact a0 _ v (hvs j v Q))
   (λj Q=>by rw[Z];exact hN _ (by omega)) (λj Q=>by rw[ad];exact ak _) h1v
 have bg:n+1<=G:=by rw[hG];exact grownCap_ge w _ _ _
 have bd:G<=9223372036854775807:=by
  have:=grownCap_le_maxLen w (n+1) c 97 (by unfold maxLen;omega)
  rw[<-hG] at this;unfold maxLen at this;omega
 have bf: ¬(G=i):=by omega
 have be: ¬(G=i+1):=by omega
 have bj: ¬(c=i):=by omega
 have a9:b≠w.heap.size:=by omega
 have bb:(cs.drop (i*3)).length=n*3 - i*3:=by rw[Cj,hcl]
 have ab: ∀(W:World),(∀x,W.cell? x=(W1.setCells w.heap.size (i*3) vs).cell? x)->(∀x,W.frozen? x=(W1.setCells w.heap.size (i*3) vs).frozen? x)-> ∀ty dc sc,(Builtin.copy_ #[36,36] ty #[.slice (some ⟨w.heap.size,(i+1)*3,none⟩) (n - i) dc,.slice (some ⟨b,off+i*3,none⟩) (n - i) sc]).run Tryz.prog W= .ok (goInt (Nat.min (n - i) (n - i))) (W.setCells w.heap.size ((i+1)*3) (cs.drop (i*3))):=λW Z ad ty dc sc=>
  yD W _ _ ty 97 3 w.heap.size ((i+1)*3) (n - i) dc ⟨b,off+i*3,none⟩ (n - i) sc (cs.drop (i*3)) aj ah (by rw[bb];simp only[Zfk];split<;>omega)
   (λj v Q=>by
    rw[Addr.add_lit,Z,World.cell?_setCells_out _ _ _ _ _ (λh _=>absurd h a9),Gf];exact az _ v (hcs (i*3+j) v (by rwa [GW] at Q)))
   (λj Q=>by rw[Z];exact isSome_setCells _ _ _ _ (λt ht=>hN _ (by omega)) _ (hN _ (by omega)))
   (λj Q=>by rw[ad,World.frozen?_setCells];exact ak _) (λv hv=>h1c v (ZdJ hv))
 subst hW1;have av: ∀x,((w.alloc (.cells z 97)).drew).cell? x=(w.drew.alloc (.cells z 97)).cell? x:=λx=>rfl
 have aw: ∀x,((w.alloc (.cells z 97)).drew).frozen? x=(w.drew.alloc (.cells z 97)).frozen? x:=λx=>rfl
 have ax: ∀x,(((w.alloc (.cells z 97)).drew.setCells w.heap.size (i*3) vs).drew).cell? x=((w.drew.alloc (.cells z 97)).setCells w.heap.size (i*3) vs).cell? x:=λx=>rfl
 have ay: ∀x,(((w.alloc (.cells z 97)).drew.setCells w.heap.size (i*3) vs).drew).frozen? x=((w.drew.alloc (.cells z 97)).setCells w.heap.size (i*3) vs).frozen? x:=λx=>rfl
 have bn:IntKind.i64.wrap ((i:Int)+1)=(i:Int)+1:=by rw[IntKind.wrap_i64];omega
 have bo:IntKind.i64.wrap ((n:Int)+1)=(n:Int)+1:=by rw[IntKind.wrap_i64];omega
 have bp:IntKind.i64.wrap ((n:Int)+1 - (i:Int))=(n:Int)+1 - (i:Int):=by rw[IntKind.wrap_i64];omega
 have bh:(0:Int)<=(i:Int)+1:=by omega
 have bl:i<=n:=by omega
 have bm:((i:Int)+1).toNat=i+1:=by omega
 have bi:(i:Int)<=(n:Int):=by omega
 have CF:Tryz.prog.follows .mixedOrders=true:=by kernel_rfl
 clear ao af ac hROW hG a8 ah an aq au ai
 go_enter Tryz.func64,Tryz.ntmps64
 go_wp2_with (first
  |(at_builtin;refine Lib.wpList_append_run _ rfl _ _ _ _ rfl _ _ rfl rfl _ _ (aa _) ?_)
  |(at_builtin;refine wpList_copy_runI _ rfl _ _ 36 36 rfl _ _ rfl rfl (am _ av aw _ _) ?_)
  |(at_builtin;refine wpList_copy_runI _ rfl _ _ 36 36 rfl _ _ rfl rfl (ab _ (λ_=>rfl) (λ_=>rfl) _ _ _) ?_))
 go_region_law_o (refine step_copy_runI rfl _ _ 36 36 rfl (.slice (some ⟨w.heap.size,(i+1)*3,none⟩) (n - i) (G - (i+1))) (.slice (some ⟨b,off+i*3,none⟩) (n - i) (c - i)) (by simp[Act.eval,Act.put]) (by simp[Act.eval,Act.put]) (ab _ ax ay 3 (G - (i+1)) (c - i)) ?_)
 go_wp2
 go_ret
 exact⟨rfl,rfl⟩
def Qyy{A:Type}{L cs r0:List A}{off:Nat}(h:L.drop off=cs++r0)(z:off<=L.length)(j:Nat)(O:j<=cs.length):L.take (off+j)=L.take off++cs.take j:=by
 rw[ZW,h,ZcT O]
def WE.here{w w':World}{b n T k off c:Nat}{cs:List Value}(hb:b<w.heap.size)(hn:n<=c)(h1:w'.heap.size=w.heap.size)(z:w'.os=w.os)(O:w'.tape=w.tape)(Q:w'.output=w.output)
 (Z: ∀x,x≠b->w'.heap[x]? =w.heap[x]?)(h6: ∃cv,w'.heap[b]? =some (.cells cv T (0,0))/\off+c*k<=cv.size/\ ∃r,cv.toList.drop off=cs++r):WE w w' b n T k cs b off c:=
 ⟨hn,.inl rfl,by omega,by omega,z,O,Q,λx _ hx=>Z x hx,h6⟩
section
variable {w:World}{b off n c:Nat}{cs vs:List Value}{cv:Array Value}
def OX(hb:b<w.heap.size)(ac:w.heap[b]? =some (.cells cv 97 (0,0)))(ag:off+c*3<=cv.size){r0:List Value}(hr:cv.toList.drop off=cs++r0)(hcl:cs.length=n*3)(hvl:vs.length=3)(i:Nat)(hi:i<n)(O:n+1<=c):
 WE w ((w.drew.setCells b (off+(i+1)*3) (cs.drop (i*3))).setCells b (off+i*3) vs) b (n+1) 97 3 (cs.take (i*3)++vs++cs.drop (i*3)) b off c:=by
 have Z:w.drew.heap[b]? =some (.cells cv 97 (0,0)):=ac;have af:(cs.drop (i*3)).length=n*3 - i*3:=by rw[Cj,hcl]
 obtain⟨z,a1,a2⟩:=kM b (cs.drop (i*3)) (off+(i+1)*3) w.drew cv 97 (0,0) Z (by omega);have aa:z.toList.length=cv.size:=by
  rw[a2];simp only[CD,BH,Cj,Dn];omega
 obtain⟨Q,b1,b2⟩:=kM b vs (off+i*3) _ z 97 (0,0) a1 (by rw[Dn] at aa;omega);have ad:Q.toList.length=cv.size:=by
  rw[b2];simp only[CD,BH,Cj,aa];omega
 obtain⟨r1,r2,r3,r4⟩:=kL b (cs.drop (i*3)) (off+(i+1)*3) w.drew;obtain⟨s1,s2,s3,s4⟩:=kL b vs (off+i*3) (w.drew.setCells b (off+(i+1)*3) (cs.drop (i*3)));refine WE.here hb O (s1.trans r1) (s2.trans r2) (s3.trans r3) (s4.trans r4) (λx hx=>(kK b _ _ _ x hx).trans (kK b _ _ _ x hx)) ⟨Q,b1,by rw[Dn] at ad;omega,cv.toList.drop (off+(i+1)*3+(cs.drop (i*3)).length),?_⟩;have ab:off<=cv.toList.length:=by rw[Dn];omega
 have e1:z.toList.take (off+i*3)=cv.toList.take off++cs.take (i*3):=by
  rw[a2,Fb,ZcT (by rw[BH,Dn];omega),Zfi,show min (off+i*3) (off+(i+1)*3)=off+i*3 by omega];exact Qyy hr ab _ (by omega)
 have e2:z.toList.drop (off+i*3+vs.length)=cs.drop (i*3)++cv.toList.drop (off+(i+1)*3+(cs.drop (i*3)).length):=by
  rw[a2,hvl,Fb,mK (by rw[BH,Dn];omega),CG (by rw[BH];omega),FC]
 rw[b2,e1,e2,Fb,Fb,mK (by rw[BH];omega),CG (by rw[BH];omega),FC];simp only[Fb]
def Qtv(hb:b<w.heap.size)(Z:w.heap[b]? =some (.cells cv 97 (0,0)))(ab:off+c*3<=cv.size){r0:List Value}(hr:cv.toList.drop off=cs++r0)(hcl:cs.length=n*3)(hvl:vs.length=3)(z:n+1<=c):
 WE w (w.setCells b (off+n*3) vs) b (n+1) 97 3 (cs.take (n*3)++vs++cs.drop (n*3)) b off c:=by
 obtain⟨O,a1,a2⟩:=kM b vs (off+n*3) w cv 97 (0,0) Z (by omega);have aa:O.toList.length=cv.size:=by
  rw[a2];simp only[CD,BH,Cj,Dn];omega
 obtain⟨r1,r2,r3,r4⟩:=kL b vs (off+n*3) w;refine WE.here hb z r1 r2 r3 r4 (λx hx=>kK b _ _ _ x hx) ⟨O,a1,by rw[Dn] at aa;omega,cv.toList.drop (off+n*3+vs.length),?_⟩;have Q:off<=cv.toList.length:=by rw[Dn];omega
 rw[a2,Qyy hr Q _ (by omega),Fb,Fb,mK (by rw[BH];omega),CG (by rw[BH];omega),FC];rw[CG (show cs.length<=n*3 by omega),DA];simp only[Fb]
def Qye(k:Nat):(Builtin.zeroCells z3 k).size=k*3:=by simp[Builtin.zeroCells,z3]
def Qme(hb:b<=w.heap.size)(hcl:cs.length=n*3)(hvl:vs.length=3){G:Nat}(hG:n+1<=G):
 WE w (w.drew.alloc (.cells ((cs++vs).toArray++Builtin.zeroCells #[.int .i64 0,.int .i64 0,.int .i64 0] (G - (n+1))) 97)) b (n+1) 97 3 (cs.take (n*3)++vs++cs.drop (n*3)) w.heap.size 0 G:=by
 have hz:=Qye (G - (n+1));obtain⟨z,hROW⟩: ∃z:Array Value,z=(cs++vs).toArray++Builtin.zeroCells #[.int .i64 0,.int .i64 0,.int .i64 0] (G - (n+1)):=⟨_,rfl⟩;rw[<-hROW];have Q:0+G*3<=z.size:=by
  rw[hROW,ZeG,Ku,CD,hcl,hvl];show 0+G*3<=n*3+3+(Builtin.zeroCells z3 (G - (n+1))).size;omega
 have O:z.toList.drop 0=cs.take (n*3)++vs++cs.drop (n*3)++(Builtin.zeroCells #[.int .i64 0,.int .i64 0,.int .i64 0] (G - (n+1))).toList:=by
  rw[hROW,Gd,mP,D8 (show cs.length<=n*3 by omega),CG (show cs.length<=n*3 by omega),DA]
 have hS:(w.drew.alloc (.cells z 97)).heap.size=w.heap.size+1:=by simp only[World.alloc,World.drew,Array.size_push]
 refine⟨hG,.inr rfl,by omega,by omega,rfl,rfl,rfl,λx Z _=> ?_,z,?_,Q,_,O⟩
 .simp only[World.alloc,World.drew];rw[ZeR Z,Hn Z]
 .simp only[World.alloc,World.drew];exact ZeF
def TH(hb:b<w.heap.size)(hcl:cs.length=n*3)(hvl:vs.length=3)(i:Nat)(hi:i<n){G:Nat}(hG:n+1<=G):
 WE w ((((w.alloc (.cells ((cs.take (i*3)).toArray++Builtin.zeroCells z3 (n+1 - i)++Builtin.zeroCells z3 (G - (n+1))) 97)).drew.setCells w.heap.size (i*3) vs).drew).setCells w.heap.size ((i+1)*3) (cs.drop (i*3))) b (n+1) 97 3 (cs.take (i*3)++vs++cs.drop (i*3)) w.heap.size 0 G:=by
 obtain⟨z,hROW⟩: ∃z:Array Value,z=(cs.take (i*3)).toArray++Builtin.zeroCells z3 (n+1 - i)++Builtin.zeroCells z3 (G - (n+1)):=⟨_,rfl⟩;rw[<-hROW];have ad:=Qye (n+1 - i);have af:=Qye (G - (n+1));have ag:z.size=G*3:=by
  rw[hROW,ZeG,ZeG,Ku,BH,ad,af];omega
 have ab:z.toList.take (i*3)=cs.take (i*3):=by
  rw[hROW,mP,mP,Fb,ZcT (by rw[BH];omega),Zfi,Nat.min_self]
 have ah:(cs.drop (i*3)).length=n*3 - i*3:=by rw[Cj,hcl]
 have h0:(w.alloc (.cells z 97)).drew.heap[w.heap.size]? =some (.cells z 97 (0,0)):=by
  simp only[World.alloc,World.drew];exact ZeF
 obtain⟨O,a1,a2⟩:=kM w.heap.size vs (i*3) _ z 97 (0,0) h0 (by omega);have Z:O.toList.length=z.size:=by
  rw[a2];simp only[CD,BH,Cj,Dn];omega
 have aa:((w.alloc (.cells z 97)).drew.setCells w.heap.size (i*3) vs).drew.heap[w.heap.size]? =some (.cells O 97 (0,0)):=a1;obtain⟨Q,b1,b2⟩:=kM w.heap.size (cs.drop (i*3)) ((i+1)*3) _ O 97 (0,0) aa (by rw[Dn] at Z;omega);have ac:Q.toList.length=z.size:=by
  rw[b2];simp only[CD,BH,Cj,Z];omega
 obtain⟨r1,r2,r3,r4⟩:=kL w.heap.size vs (i*3) (w.alloc (.cells z 97)).drew;obtain⟨s1,s2,s3,s4⟩:=kL w.heap.size (cs.drop (i*3)) ((i+1)*3) ((w.alloc (.cells z 97)).drew.setCells w.heap.size (i*3) vs).drew;have hs:((w.alloc (.cells z 97)).drew).heap.size=w.heap.size+1:=by simp only[World.alloc,World.drew,Array.size_push]
 have hS:=s1.trans (r1.trans hs);refine⟨hG,.inr rfl,by omega,by omega,s2.trans r2,s3.trans r3,s4.trans r4,λx hx _=> ?_,Q,b1,by rw[Dn] at ac;omega,O.toList.drop ((i+1)*3+(cs.drop (i*3)).length),?_⟩
 .refine (kK _ _ _ _ x (by omega)).trans ((kK _ _ _ _ x (by omega)).trans ?_);simp only[World.alloc,World.drew];rw[ZeR hx,Hn hx]
 .have e1:O.toList.take ((i+1)*3)=cs.take (i*3)++vs:=by
   rw[a2,ZcT (by rw[CD,BH,Dn];omega),D8 (by rw[CD,BH];omega),ab]
  rw[Gd,b2,e1]
end
end Go.Proofs
namespace Go.Ae
open Go.Proofs Go.Sort Go.Shelf
def Gn(l:List Ah)(i:Nat)(x:Ah):List Ah:=l.take i++[x]++l.drop i
def tJ(l r:List Ah):Dp (l++r)=Dp l++Dp r:=by simp[Dp]
def Qz5: ∀(l:List Ah) (i:Nat),Dp (l.take i)=(Dp l).take (i*3)
 |[],i=>by simp[Dp]
 |x::r,0=>by simp[Dp]
 |x::r,i+1=>by
  rw[Qj,show x::r.take i=[x]++r.take i from rfl,show x::r=[x]++r from rfl,tJ,tJ,Qz5 r i,show (i+1)*3=(Dp [x]).length+i*3 by rw[lS];simp;omega,List.take_length_add_append]
def Qza: ∀(l:List Ah) (i:Nat),Dp (l.drop i)=(Dp l).drop (i*3)
 |[],i=>by simp[Dp]
 |x::r,0=>by simp[Dp]
 |x::r,i+1=>by
  rw[Oc,show x::r=[x]++r from rfl,tJ,Qza r i,show (i+1)*3=(Dp [x]).length+i*3 by rw[lS];simp;omega,List.drop_length_add_append]
def XA(l:List Ah)(i:Nat)(x:Ah):Dp (Gn l i x)=(Dp l).take (i*3)++BV x++(Dp l).drop (i*3):=by
 rw[Gn,tJ,tJ,Qz5,Qza];simp[Dp]
def XB{l:List Ah}: ∀v∈Dp l,v.oneCell'=true:=by
 intro v z;simp only[Dp,Zeg,BV,Be,ZR,Xb] at z;obtain⟨x,_,rfl|rfl|rfl⟩:=z<;>rfl
def SD(l:List Ah)(i:Nat)(x:Ah):(Gn l i x).length=l.length+1:=by
 simp only[Gn,CD,BH,Cj,vR];omega
def insC.ca(a:List Ah×Nat×Ah):List AV:=[.own 0,.im (.int .i64 a.2.1),.own 1]
def insC.H0(a:List Ah×Nat×Ah):Ao:=[(0,(true,.arr 97 3 (a.1.map Ah.c))),(1,(true,.arr 97 3 [Ah.c a.2.2]))]
def insC.H1(a:List Ah×Nat×Ah):Ao:=[(2,(true,.arr 97 3 ((Gn a.1 a.2.1 a.2.2).map Ah.c)))]
def insC.row:Ay:=AA insC.ca insC.H0 2 (λa=>a.2.1<=a.1.length/\a.1.length<=100000) (λj=>j==0) (λ_=> .own 2) insC.H1 1
def insC.ok:A9 64 insC.row:=by
 rintro args h nx K ⟨⟨l,i,x⟩,τ,U,KL,a0,rfl,aj,hN,hK⟩;refine⟨Lq (by kernel_rfl),_,_,?_,hK⟩;intro C S vs R hW a8 aq ax ai bf;simp only at a0;obtain⟨hi,ay⟩:=a0;have bm:BW τ 2 nx 0=τ 0:=Ak (by omega);have bn:BW τ 2 nx 1=τ 1:=Ak (by omega);have bo:BW τ 2 nx 2=nx:=by rw[BW,Ad (by omega)];rfl
 simp only[insC.ca,AJ,AV.ren,bm,bn,AM,Aa,rd] at ai;obtain⟨v0,r0,hv,⟨bw,am⟩,v1,r1,bz,b9,v2,r2,b0,⟨bx,bb⟩,b8⟩:=ai;subst b8 b0 b9 bz;have hvs:vs= #[v0,.int .i64 i,v2]:=by apply Ly;simpa using hv
 subst hvs;have ao:Al (insC.H0 (l,i,x)) 0=true:=rfl;have be:Al (insC.H0 (l,i,x)) 1=true:=rfl;have ah:S.h (τ 0)=some (true,.arr 97 3 (l.map Ah.c)):=by
  rw[a8 (τ 0) (II _ (hN.u 0 ao))]
  have:=aj.1
  rwa [bm] at this
 have aw:S.h (τ 1)=some (true,.arr 97 3 [Ah.c x]):=by
  rw[a8 (τ 1) (II _ (hN.u 1 be))]
  have:=aj.2.1
  rwa [bn] at this
 have ba: ∀n,n∈KL↔n=τ 0:=by
  intro n;constructor
  .intro hn;obtain⟨j,h1,h2,h3⟩:=hN.k1 n hn
   have:j=0:=by simpa using h2
   rw[h3,this]
  .rintro rfl;exact hN.k2 0 ao rfl
 have bj:τ 0≠τ 1:=λh=>by have:=hN.inj 0 1 ao be h;omega
 have bi:=hN.lt 0 ao;have bl:S.h nx=none:=aq nx ⟨AN _,vJ _⟩;have bt: ∀n f,S.h n=some f->nx∉f.2.nms:=λn f hf ak=>ax n f hf nx ak ⟨AN _,vJ _⟩
 obtain⟨m,hmm⟩: ∃m,m=τ 0:=⟨_,rfl⟩;rw[<-hmm] at ah am ba bj bi;have bh:=SD l i x;have fin: ∀(w':World) (lo:F1),IA S nx (.arr 97 3 ((Gn l i x).map Ah.c)) (some lo) [m] w'->
  Ap (S.one nx (.arr 97 3 ((Gn l i x).map Ah.c)) (some lo) [m] w') (some lo) (.arr 97 3 ((Gn l i x).map Ah.c))->R (.returned (.slice (some ⟨lo.b,lo.p,none⟩) (l.length+1) lo.cap)) w':=by
  intro w' lo az bv;have hp:=Zt hW az;refine bf _ _ (fE hW az bv) ?_ ⟨hp.ok,λn hn=>hp.nm n (.inr (λh=>hn (by rw[h];exact⟨AN _,vJ _⟩)))⟩ ?_
  .funext n;simp only[Ax.one,Bo.appf,insC.H1,AZ,bo,hget,Ac.ren];by_cases hn:n=nx
   .subst hn;simp
   .have h1:(nx==n)=false:=by simpa using λh=>hn h.symm
    simp only[h1,Bq,hn,CB,BS];by_cases h2:n=m
    .rw[Ak h2,Hp.2 ((ba n).2 h2)];rfl
    .have h3:KL.contains n=false:=by rw[<-IF,Hp,ba];exact h2
     rw[Ad h2,h3];rfl
  .simp only[AV.ren,bo,Aa];refine⟨rfl,λe he=> ?_⟩;simp only[Ax.one,BM] at he⊢;obtain rfl:=A7 he;simp only[Ac.len,F7,bh]
 have Q:=hW.obj _ _ aw;have ad:=bb _ aw;cases hρ1:S.ρ (τ 1) with
 |none=>rw[hρ1] at Q;simp only[Ap] at Q;cases Q.2
 |some l1=>
 rw[hρ1] at Q ad;simp only[Ap,Ac.len,vR] at Q ad;obtain⟨_,p2,pv,p3,p4,p5⟩:=Q;obtain⟨cc,_⟩:=hW.loc _ _ l1 aw hρ1;rw[show [Ah.c x]=[x].map Ah.c from rfl,lO] at p5;obtain⟨bc,p5⟩:=p5;have ac:S.w.heap[l1.b]? =some (.cells pv 97 (0,0)):=p3;have hvl:(BV x).length=3:=rfl;have an: ∀j v,(BV x)[j]? =some v->S.w.cell? ⟨l1.b,l1.p+j,none⟩=some v:=by
  intro j v hj;have a9:j<3:=by
   rcases EI j 3 with h|h
   .exact h
   .rw[Fm (by rw[hvl];exact h)] at hj;cases hj
  have h1:(pv.toList.drop l1.p)[j]? =(Dp [x]++bc)[j]? :=by rw[p5]
  rw[GW,Gc,EA (by rw[lS];simpa using a9)] at h1;simp only[World.cell?,ac,Rm,CP,CB];rw[h1];simpa[Dp] using hj
 have h1v: ∀v∈BV x,v.oneCell'=true:=by
  intro v hv;simp only[BV,Be,ZR,Xb] at hv;rcases hv with rfl|rfl|rfl<;>rfl
 have hcl:(Dp l).length=l.length*3:=lS l;have ab:=hW.obj _ _ ah;have Z:=am _ ah;have done: ∀(b:Nat) (w':World) (b' off' c':Nat),(∀lo,S.ρ m=some lo->lo.b=b)->(b<S.w.heap.size-> ∃lo,S.ρ m=some lo)->WE S.w w' b (l.length+1) 97 3 ((Dp l).take (i*3)++BV x++(Dp l).drop (i*3)) b' off' c'->R (.returned (.slice (some ⟨b',off',none⟩) (l.length+1) c')) w':=by
  intro b w' b' off' c' af ag hO;obtain⟨cv,q1,q2,q3⟩:=hO.row;refine fin w' ⟨b',off',c'⟩ ⟨hO.os,hO.tape,hO.output,hO.size,?_,.inr bl,?_,?_,?_⟩ ?_
  .intro y hy bu;refine hO.keep y hy (λcb=> ?_);subst cb;obtain⟨lo,O⟩:=ag hy;exact bu m _ lo (by simp) ah O (af lo O)
  .intro lo O;obtain rfl:=A7 O;refine⟨hO.lt,?_⟩;rcases hO.wh with h|h
   .rcases EI b S.w.heap.size with bd|bd
    .obtain⟨lo,O⟩:=ag bd;exact .inr ⟨m,_,lo,by simp,ah,O,(af lo O).trans h.symm⟩
    .exact .inl (by simp only;omega)
   .exact .inl (by simp only;omega)
  .intro f hf;rw[bl] at hf;cases hf
  .intro n f hf _;exact bt n f hf
  .simp only[Ap,F7,bh];refine⟨by simp only[JL];omega,hO.cap,cv,q1,q2,?_⟩;rw[lO,XA];exact q3
 rw[ad];cases hρ:S.ρ m with
 |none=>
  rw[hρ] at Z ab;simp only[Ap] at ab;have ha:l=[]:=by simpa using ab.2
  subst ha;have br:i=0:=by simpa using hi
  subst br;simp only at Z;rw[Z];refine (Tryz.ins_end_grow (w:=S.w) (base:=none) (n:=0) (c:=0) (vb:=l1.b) (voff:=l1.p) (cs:=[]) (vs:=BV x) rfl hvl (AN _) (by omega) (by omega) (λ_=>rfl) (λa ha=>by cases ha) an h1v l1.cap).mono ?_;rintro e w' ⟨rfl,rfl⟩;exact done S.w.heap.size _ _ _ _ (λlo O=>by rw[hρ] at O;cases O) (λh=>absurd h (ZeM _)) (Qme (cs:=[]) (n:=0) (AN _) rfl hvl (grownCap_ge S.w _ _ _))
 |some lc=>
  rw[hρ] at Z ab;simp only[Ap,Ac.len,F7] at ab Z;obtain⟨g1,g2,cv,g3,g4,g5⟩:=ab;obtain⟨av,_⟩:=hW.loc _ _ lc ah hρ;rw[lO] at g5;obtain⟨bp,g5⟩:=g5;have z:S.w.heap[lc.b]? =some (.cells cv 97 (0,0)):=g3;have hvb:l1.b≠lc.b:=λh=>bj (hW.inj _ _ _ _ lc l1 ah aw hρ hρ1 h.symm rfl)
  have hcs: ∀j v,(Dp l)[j]? =some v->S.w.cell? ⟨lc.b,lc.p+j,none⟩=some v:=by
   intro j v hj;have a9:j<(Dp l).length:=by
    rcases EI j (Dp l).length with h|h
    .exact h
    .rw[Fm h] at hj;cases hj
   have h1:(cv.toList.drop lc.p)[j]? =(Dp l++bp)[j]? :=by rw[g5]
   rw[GW,Gc,EA a9] at h1;simp only[World.cell?,z,Rm,CP,CB];rw[h1,hj]
  have ak: ∀(h:0<lc.cap),Im S.w lc.b lc.p l.length lc.cap l1.b l1.p (Dp l) (BV x):=λcd=>by
   refine⟨hcl,hvl,g2,ay,hvb,hcs,?_,?_,an,XB,h1v,⟨_,_,by simp only[World.shape?,ac];rfl⟩,⟨_,_,by simp only[World.shape?,z];rfl,by omega⟩⟩
   .intro j hj;simp only[World.cell?,z,Rm,CP,CB];rw[Hn (by omega)];rfl
   .rintro y j (rfl|rfl)
    .simp[World.frozen?,z]
    .simp[World.frozen?,ac]
  have af: ∀lo,S.ρ m=some lo->lo.b=lc.b:=λlo O=>by rw[hρ] at O;rw[A7 O]
  have ag:lc.b<S.w.heap.size-> ∃lo,S.ρ m=some lo:=λ_=>⟨lc,hρ⟩
  rw[Z];by_cases au:i<l.length
  .by_cases aa:l.length+1<=lc.cap
   .refine (Tryz.ins_shift (ak (by omega)) i au aa l1.cap).mono ?_;rintro e w' ⟨rfl,rfl⟩;exact done lc.b _ _ _ _ af ag (OX av z g4 g5 hcl hvl i au aa)
   .refine (Tryz.ins_grow (ak (by omega)) i au (by omega) l1.cap).mono ?_;rintro e w' ⟨rfl,rfl⟩;exact done lc.b _ _ _ _ af ag (TH av hcl hvl i au (grownCap_ge S.w _ _ _))
  .have bg:i=l.length:=by omega
   subst bg;by_cases aa:l.length+1<=lc.cap
   .refine (Tryz.ins_end_room (ak (by omega)) aa l1.cap).mono ?_;rintro e w' ⟨rfl,rfl⟩;exact done lc.b _ _ _ _ af ag (Qtv av z g4 g5 hcl hvl aa)
   .refine (Tryz.ins_end_grow (w:=S.w) (base:=some ⟨lc.b,lc.p,none⟩) (n:=l.length) (c:=lc.cap) (vb:=l1.b) (voff:=l1.p) (cs:=Dp l) (vs:=BV x) hcl hvl g2 ay (by omega) (λh=>by cases h) (λa ha=> ?_) an h1v l1.cap).mono ?_
    .obtain rfl:=A7 ha;intro j v hj;rw[Addr.add_lit];exact hcs j v hj
    .rintro e w' ⟨rfl,rfl⟩;exact done lc.b _ _ _ _ af ag (Qme (Nat.le_of_lt av) hcl hvl (grownCap_ge S.w _ _ _))
end Go.Ae
namespace Go.Ae
open Go.Proofs
def Md(p:Ab)(t:Int): ∀(l:List Ah) (q:Option Ab),Cd q l=true->(∀x∈l,x.At≠p)->Gn l (EQ l p) ⟨p,t⟩=C8 p t l
 |[],_,_,_=>rfl
 |x::r,q,h,hn=>by
  have Q:=hn x (BR ..);simp only[Vo,AL] at h;have ih:=Md p t r (some x.At) h.2.2.2 (λy Z=>hn y (BQ _ Z));simp only[C8];by_cases z:Bl x.At p=true
  .have O:Bl p x.At=false:=by
    simp only[Bl] at z⊢;grind
   rw[O,Ad (by simp),<-ih];simp[EQ,z,Gn]
  .rw[IF] at z;rw[Ak (Qq4 z Q)];simp[EQ,z,Gn]
def wth_.fv(a:Af×Ab×Int):Af:=(λa p t=>⟨C8 p t a.Tiles⟩) (a.1) (a.2.1) (a.2.2)
def wth_.row:Ay:=vK (b3 (qR Af.d_le) (qR Ab.d_le) qI) (rA Af.d_le) (λa=>Cd none a.1.Tiles=true/\DY a.2.1=true/\Bj a.1 a.2.1<0/\a.1.Tiles.length<=500) wth_.fv
def wth_.q:=AT (R:=wth_.row) rfl
def wth_.ok:A9 31 wth_.row:=by
 refine vw (tC BinP.ok (tC clonC.ok (tC insC.ok tN))) Tryz.func31 ?_;intro a O;simp only[Tryz.f31];simp only[ZA,simprocAttr,wth_.fv,BinP.q,BinP.ar,BinP.fv];obtain⟨Q,h2,h3,h4⟩:=O;refine⟨Q,AA.os a.1.Tiles [] (by omega) (λj=>by simp[Al,hget]) rfl rfl ?_ ?_⟩
 .simp only[ZA,simprocAttr,clonC.ca,CO]
 simp only[ZA,simprocAttr,clonC.H1];have hb:EQ a.1.Tiles a.2.1<=a.1.Tiles.length:=(List.takeWhile_prefix _).length_le;have Z:=Ru Q h3;refine AA.os (a.1.Tiles,EQ a.1.Tiles a.2.1,⟨a.2.1,a.2.2⟩) [3,23] ⟨hb,by simp only;omega⟩ (λj=> ?_) rfl rfl ?_ ?_
 .simp only[Al,insC.H0,hget];by_cases hj:j=0
  .subst hj;simp
  .by_cases z:j=1
   .subst z;simp
   .have e1:(0==j)=false:=by simpa using λh=>hj h.symm
    have e2:(1==j)=false:=by simpa using λh=>z h.symm
    simp[e1,e2];omega
 .simp only[ZA,simprocAttr,insC.ca,insC.H0,CO,Eo,G6]
 simp only[ZA,simprocAttr,Af.d,insC.H1];rw[Md a.2.1 a.2.2 a.1.Tiles none Q Z]
def iA(m:AF)(a:Af)(o:AD):Bool:=AW o.Tile 0 (m.Big.Set.Tiles.length - 1) && IC m.Big (C5 (Qe m.Big a).Tl) o.At o.Tile
def bG(p:Ab): ∀(l:List Ah) (t:List (Ab×Int)),(∃x∈l,x.At=p/\Bz (l.foldl (λt x=>Bt t x.At x.Tile) t) p=some x.Tile)\/((∀x∈l,x.At≠p)/\Bz (l.foldl (λt x=>Bt t x.At x.Tile) t) p=Bz t p)
 |[],t=> .inr ⟨by simp,rfl⟩
 |y::r,t=>by
  simp only[gD];rcases bG p r (Bt t y.At y.Tile) with ⟨x,z,O,Z⟩|⟨z,O⟩
  .exact .inl ⟨x,BQ _ z,O,Z⟩
  .rw[O,fN];by_cases h:p=y.At
   .rw[Ak h];exact .inl ⟨y,BR ..,h.symm,rfl⟩
   .rw[Ad h];refine .inr ⟨λx Q=> ?_,rfl⟩;rcases Be.1 Q with rfl|Q
    .exact EJ h
    .exact z x Q
def xV{a:Af}(hf:Cd none a.Tiles=true):C5 (CC a.Tiles)=Bj a:=by
 funext p;rcases bG p a.Tiles [] with ⟨x,z,O,Z⟩|⟨z,O⟩
 .simp only[C5,CC,Z,AO,Bj];cases hq:a.Tiles.find? (λx=>decide (x.At=p)) with
  |none=>
   have:=ZO.1 hq x z
   simp[O] at this
  |some y=>
   have Q:=Ql hq;simp only[B3] at Q
   have:=bO (eG hf) x z y (Qg hq) (O.trans Q.symm)
   rw[this];rfl
 .have:a.Tiles.find? (λx=>decide (x.At=p))=none:=by
   rw[ZO];intro x hx;simpa using z x hx
  simp only[C5,CC,O,Bj,this];rfl
def X9{m:AF}{a:Af}(h:FB m.Big.Set a)(o:AD):iA m a o=C7 m.Big a o:=by
 have e:C5 (Qe m.Big a).Tl=Bj a:=xV h.1;simp only[iA,IC,C7,e,bY];have z:decide (Bj a o.At<0)=decide (Bm (λx=>decide (x.At=o.At)) 0 a.Tiles<0):=by rw[decide_eq_decide];exact (Iy h.2 o.At).symm
 rw[z];cases DY o.At<;>cases AW o.Tile 0 (m.Big.Set.Tiles.length - 1)<;>simp
def X8{m:AF}{s:AG}{a:Af}(h:FB s.Set a)(o:AD)(z:Fi s.Set o.Tile):IC s (C5 (Qe s a).Tl) o.At o.Tile=C7 s a o:=by
 have:=X9 (m:={m with Big:=s}) h o
 simp only[iA] at this;rw[<-this];have O:AW o.Tile 0 (s.Set.Tiles.length - 1)=true:=by
  simp only[AW,AL,B3];exact⟨z.1,by have:=z.2;omega⟩
 rw[O,DB]
def Qqz(s:AG)(x:Af): ∀(l:List Ah),(Jz s x l).2<0↔ ∀t∈l,Bm (λz=>decide (z.At=t.At)) 0 x.Tiles<0->C7 s x ⟨t.At,t.Tile⟩=false
 |[]=>by simp[Jz]
 |t::r=>by
  have ih:=Qqz s x r;simp only[Jz,Be,vL];by_cases c1:Bm (λz=>decide (z.At=t.At)) 0 x.Tiles<0
  .rw[Ak c1];by_cases O:C7 s x ⟨t.At,t.Tile⟩=true
   .rw[Ak O];constructor
    .intro h;exact absurd h (by simp)
    .intro h;rw[h.1 c1] at O;cases O
   .rw[Ad O,ih];exact⟨λh=>⟨λ_=>by simpa using O,h⟩,λh=>h.2⟩
  .rw[Ad c1,ih];exact⟨λh=>⟨λQ=>absurd Q c1,h⟩,λh=>h.2⟩
def rN{p q:Af}(hp:Cd none p.Tiles=true)(hq:Cd none q.Tiles=true)(hl:q.Tiles.length=p.Tiles.length+1)(Z: ∀z∈p.Tiles,∃y∈q.Tiles,y.At=z.At)
 {t y:Ah}(ht:t∈q.Tiles)(hy:y∈q.Tiles)(aa: ∀z∈p.Tiles,z.At≠t.At)(ab: ∀z∈p.Tiles,z.At≠y.At):t=y:=by
 by_cases he:t.At=y.At
 .exact bO (eG hq) t ht y hy he
 .exfalso
  have:=Qpo (t.At::y.At::p.Tiles.map Ah.At) (q.Tiles.map Ah.At) (by
   rw[IH,IH];refine⟨λh=> ?_,λh=> ?_,eG hp⟩
   .rcases Be.1 h with h|h
    .exact he h
    .obtain⟨z,Q,e⟩:=Bh.1 h;exact aa z Q e
   .obtain⟨z,Q,e⟩:=Bh.1 h;exact ab z Q e) (by
   intro v O;rcases Be.1 O with rfl|O
   .exact WZ ht
   .rcases Be.1 O with rfl|O
    .exact WZ hy
    .obtain⟨z,Q,rfl⟩:=Bh.1 O;obtain⟨u,hu,e⟩:=Z z Q;rw[<-e];exact WZ hu)
  simp only[CQ,F7] at this;omega
def LM{m:AF}{x b:Af}(h0:EO m=true)(hx:E8 m.Big.Set x=true)(hb:E8 m.Big.Set b=true)(hr:(AP m x).2=true):
 (Fs m x b).2=false↔(Kl m (AP m x).1 b).2<0:=by
 simp only[Fs,Kl];by_cases c1:(AP m b).2=true
 case neg=>
  rw[Ad c1,Ak (.inr (by simpa using c1))];simp
 rw[Ak c1,Ad (by rw[hr,c1];simp)];have Q:=Zu (Kc h0 hx);have O:=Zu (Kc h0 hb);have Z:=lZ h0 hx;have ac:=lZ h0 hb;have ai:=uG (Kc h0 hx);have ah:=uG (Kc h0 hb);have am:=(HU hx).2;have ak:=(HU hb).2;obtain⟨p,hp⟩: ∃p,p=(AP m x).1:=⟨_,rfl⟩;obtain⟨q,hq⟩: ∃q,q=(AP m b).1:=⟨_,rfl⟩;simp only[<-hp,<-hq] at Q O Z ac ai ah⊢;simp only[WJ];by_cases c2:p=q
 .rw[Ak c2,Ak c2];simp
 rw[Ad c2,Ad c2];have hw:QT p q=p.Tiles.all (λz=>decide (Bj q z.At=z.Tile)):=by
  simp only[QT,Q,O,DB];rw[Oi (show p.Tiles.length<=500 by omega),Oi (show q.Tiles.length<=500 by omega)];rfl
 by_cases c3:q.Tiles.length=p.Tiles.length+1/\p.Tiles.all (λz=>decide (Bj q z.At=z.Tile))=true
 case neg=>
  rw[Ad c3];simp only[Kb];rw[Ad (by rw[hw];exact c3)];simp
 rw[Ak c3,Qqz];obtain⟨i,y,g1,_,_⟩:=zA Q O c3.1;have hG:Kb p q=(⟨y.At,y.Tile⟩,true):=by
  simp only[Kb];rw[Ak (by rw[hw];exact c3),g1];rfl
 have ab:=Qg g1;have af:=Ql g1;simp only[Rf,B3] at af;rw[hG];simp only[DB];have ag:=X8 (m:=m) (s:=m.Small) (a:=p) Z ⟨y.At,y.Tile⟩ (ac.2 y ab);rw[ag];have ad:=(Iy Z.2 y.At).2 af;constructor
 .intro h t ht aj
  have:t=y:=by
   refine rN Q O c3.1 (λz hz=> ?_) ht ab (eV aj) (eV ad);have aa:=C6.1 c3.2 z hz;rw[B3] at aa;have an:=(Z.2 z hz).1;simp only[Bj] at aa;cases hf:q.Tiles.find? (λx=>decide (x.At=z.At)) with
   |none=>rw[hf] at aa;simp at aa;omega
   |some u=>
    have:=Ql hf
    exact⟨u,Qg hf,by simpa using this⟩
  rw[this];exact h
 .intro h;exact h y ab ad
def LN{l:List Ah}(h:Cd none l=true):l.Pairwise (λa b=>Bl a.At b.At=true):=by
 rw[Zdo];intro i j O Q z;exact (dN l none h).2 i j _ _ z (Bk O) (Bk Q)
def Si{l m:List Ah}(z:Cd none l=true)(O:Cd none m=true)(h: ∀x,x∈l↔x∈m):l=m:=by
 have nd: ∀{k:List Ah},Cd none k=true->k.Nodup:=λhk=>(List.pairwise_map.1 (eG hk)).imp λh e=>h (by rw[e])
 refine ZdR (le:=λa b=>Bl a.At b.At=true) (λa b _ _ Q Z=> ?_) (LN z) (LN O) ((ZdI (nd z) (nd O)).2 h)
 have:=dR Q Z
 rw[lN] at this;cases this
def dD(s:AG)(x:Af): ∀(l:List Ah),¬(Jz s x l).2<0-> ∃t∈l,Bm (λz=>decide (z.At=t.At)) 0 x.Tiles<0/\Jz s x l=(⟨t.At,t.Tile⟩,1)
 |[],h=>absurd (show ((T9,-1):AD×Int).2<0 by decide) h
 |t::r,h=>by
  rw[Jz] at h⊢;by_cases c1:Bm (λz=>decide (z.At=t.At)) 0 x.Tiles<0
  .rw[Ak c1] at h⊢;by_cases c2:C7 s x ⟨t.At,t.Tile⟩=true
   .rw[Ak c2];exact⟨t,BR ..,c1,rfl⟩
   .rw[Ad c2] at h⊢;obtain⟨u,Z,O,Q⟩:=dD s x r h;exact⟨u,BQ _ Z,O,Q⟩
  .rw[Ad c1] at h⊢;obtain⟨u,Z,O,Q⟩:=dD s x r h;exact⟨u,BQ _ Z,O,Q⟩
def rH{m:AF}{x b:Af}(h0:EO m=true)(hx:E8 m.Big.Set x=true)(hb:E8 m.Big.Set b=true)(hr:(AP m x).2=true)(hn: ¬(Kl m (AP m x).1 b).2<0):
 (AP m b).2=true/\((Kl m (AP m x).1 b).2=0/\(AP m b).1=(AP m x).1/\(Fs m x b).1=[]\/
  (Kl m (AP m x).1 b).2=1/\(AP m b).1=BJ (AP m x).1 (Kl m (AP m x).1 b).1.At (Kl m (AP m x).1 b).1.Tile/\(Fs m x b).1=[(Kl m (AP m x).1 b).1]):=by
 have ac:(AP m b).2=true:=by
  simp only[Kl] at hn;by_cases c:(AP m b).2=true
  .exact c
  .rw[Ad c] at hn;exact absurd (by decide) hn
 refine⟨ac,?_⟩;simp only[Fs,Kl] at hn⊢;rw[Ak ac] at hn⊢;rw[Ad (show ¬((AP m x).2=false\/(AP m b).2=false) by rw[hr,ac];decide)];have Z:=Zu (Kc h0 hx);have Q:=Zu (Kc h0 hb);have ab:=lZ h0 hx;have ai:=uG (Kc h0 hx);have aq:=(HU hx).2;obtain⟨p,hp⟩: ∃p,p=(AP m x).1:=⟨_,rfl⟩;obtain⟨q,hq⟩: ∃q,q=(AP m b).1:=⟨_,rfl⟩;simp only[<-hp,<-hq] at Z Q ab ai hn⊢;simp only[WJ] at hn⊢;by_cases c2:p=q
 .rw[Ak c2,Ak c2];exact .inl ⟨rfl,c2.symm,rfl⟩
 rw[Ad c2] at hn;rw[Ad c2,Ad c2];by_cases c3:q.Tiles.length=p.Tiles.length+1/\p.Tiles.all (λz=>decide (Bj q z.At=z.Tile))=true
 case neg=>rw[Ad c3] at hn;exact absurd (by decide) hn
 rw[Ak c3] at hn⊢;obtain⟨t,ht,ak,hR⟩:=dD _ _ _ hn;rw[hR];have aa: ∀z∈p.Tiles,z∈q.Tiles:=λz hz=>by
  have O:=C6.1 c3.2 z hz;rw[B3] at O;have au:=(ab.2 z hz).1;simp only[Bj] at O;cases hf:q.Tiles.find? (λx=>decide (x.At=z.At)) with
  |none=>rw[hf] at O;simp at O;omega
  |some u=>
   have h1:=Ql hf;simp only[B3] at h1;rw[hf] at O;simp only[CY,AO] at O
   have:u=z:=by cases u;cases z;simp only at h1 O;rw[h1,O]
   rw[<-this];exact Qg hf
 have ad:=eV ak;have ag: ∀y∈q.Tiles,(∀z∈p.Tiles,z.At≠y.At)->y=t:=λy hy aj=>rN Z Q c3.1 (λz hz=>⟨z,aa z hz,rfl⟩) hy ht aj ad
 have hw:QT p q=p.Tiles.all (λz=>decide (Bj q z.At=z.Tile)):=by
  have ao:=c3.1;have h1:=uG (Kc h0 hb);have h2:=(HU hb).2;rw[<-hq] at h1;simp only[QT,Z,Q,DB];rw[Oi (show p.Tiles.length<=500 by omega),Oi (show q.Tiles.length<=500 by omega)];rfl
 obtain⟨i,y,g1,_,_⟩:=zA Z Q c3.1;have am:=Qg g1;have ah:=Ql g1;simp only[Rf,B3] at ah;have an:=ag y am (eV ((Iy ab.2 y.At).2 ah));have hG:(Kb p q).1=⟨t.At,t.Tile⟩:=by
  simp only[Kb];rw[Ak (by rw[hw];exact c3),g1,an];rfl
 refine .inr ⟨rfl,?_,by rw[hG]⟩;rw[QX];have af:=Vw _ _ Q t ht
 have:q.Tiles=C8 t.At t.Tile p.Tiles:=by
  refine Si Q (sS af.1 af.2 _ _ Z (λ_ h=>by cases h) ad) λz=> ?_
  rw[lP];constructor
  .intro hz;by_cases c: ∀u∈p.Tiles,u.At≠z.At
   .exact .inl (ag z hz c)
   .have ⟨u,hu⟩: ∃u,u∈p.Tiles/\u.At=z.At:=by
     false_or_by_contra
     rename_i hc;exact c λu hu he=>hc ⟨u,hu,he⟩
    exact .inr (by rw[<-bO (eG Q) u (aa u hu.1) z hz hu.2];exact hu.1)
  .rintro (rfl|hz)
   .exact ht
   .exact aa z hz
 cases q;simp only at this;rw[this]
def xL(s:AG):Af->List AD->Prop
 |_,[]=>True
 |b,o::r=>C7 s b o=true/\b.Tiles.length<500/\xL s (BJ b o.At o.Tile) r
def S7{s:AG}{l:List Int}(hs:s.Set.Tiles.length<=160): ∀(n:Nat) (b:Af) (d:List AD),FB s.Set b->(IW s l n b d).2.2=0-> ∃r,(IW s l n b d).1=d++r/\xL s b r
 |0,b,d,_,_=>⟨[],by simp[IW],trivial⟩
 |n+1,b,d,O,h=>by
  rw[IW] at h⊢;cases ho:GB s l b d.length with
  |none=>exact⟨[],by simp,trivial⟩
  |some o=>
   rw[ho] at h;simp only at h⊢;by_cases z:500<=b.Tiles.length
   .rw[Ak z] at h;exact absurd h (by decide)
   .rw[Ad z] at h⊢;have Q:=QF O ho;obtain⟨r,Z,h2⟩:=S7 hs n _ _ (Kz hs O Q) h;exact⟨o::r,by rw[Z,Fb];rfl,Q,by omega,h2⟩
def K7(m:AF):List AD->Af->List AD->Option (List AD)
 |[],_,out=>some out
 |o::r,a,out=>if (Fs m a (BJ a o.At o.Tile)).2=false then none else K7 m r (BJ a o.At o.Tile) (out++(Fs m a (BJ a o.At o.Tile)).1)
def UO(m:AF):Af×Bool:=((AP m m.Big.Seed).1,(AP m m.Big.Seed).2 && decide ((AP m m.Big.Seed).1=m.Small.Seed))
def Dx(m:AF)(l:List Int)(n:Int):List AD×Af×Int:=
 if EO m=false then ([],⟨[]⟩,1) else if (E6 m.Big l n).2.2≠0 then ([],⟨[]⟩,(E6 m.Big l n).2.2) else if (UO m).2=false then ([],⟨[]⟩,10)
 else match K7 m (E6 m.Big l n).1 m.Big.Seed [] with
  |none=>([],⟨[]⟩,10)
  |some d=>(d,(E6 m.Big l n).2.1,0)
def Wq{m:AF}(h:EO m=true):EP m.Big=true/\E8 m.Big.Set m.Big.Seed=true:=by
 have:EP m.Big=true:=by
  simp only[EO,AL] at h;exact h.1
 exact⟨this,(QB this).2.2⟩
def S8{s:AG}{l:List Int}{n:Int}(h:(E6 s l n).2.2=0):xL s s.Seed (E6 s l n).1/\(E6 s l n).1.length<=500:=by
 by_cases c1:EP s=false
 .simp only[E6] at h;rw[Ak c1] at h;exact absurd h (by decide)
 by_cases z:DZ l=false\/AW n 0 500=false
 .simp only[E6] at h;rw[Ad c1,Ak z] at h;exact absurd h (by decide)
 have e:E6 s l n=IW s l n.toNat s.Seed []:=by simp only[E6];rw[Ad c1,Ad z]
 rw[e] at h⊢;obtain⟨_,q2,q3,q4⟩:=MQ c1;have hl:=(dH s l n.toNat s.Seed [] q3).1;have hn:n.toNat<=500:=by
  have Q: ¬AW n 0 500=false:=λh=>z (.inr h)
  simp only[AW,Hq,AL,B3] at Q;omega
 obtain⟨r,O,Z⟩:=S7 q4 n.toNat s.Seed [] q2 h;rw[FC] at O;exact⟨by rw[O];exact Z,by simp only[FS] at hl;omega⟩
def stS_.fv(a:AF):Af×Bool:=(UO) a
def stS_.row:Ay:=vK (b1 (qP 10 AF.d_le)) (r2 (rA Af.d_le) rB) (λa=>EO a=true) stS_.fv
def stS_.q:=AT (R:=stS_.row) rfl
def stS_.ok:A9 23 stS_.row:=by
 refine vw (tC l32Represent.ok (tC l03Same.ok tN)) Tryz.func23 ?_;intro a z;simp only[Tryz.f23];simp only[ZA,simprocAttr,Af.d,stS_.fv,l32Represent.q,l32Represent.fv,l03Same.q,l03Same.fv];have O:=Kc z (Wq z).2;refine⟨O,?_⟩;simp only[UO];split
 .rename_i c;rw[c];rfl
 .rename_i c;simp[c]
def flwS_.fv(a:AF×(List Int)×Int):(List AD)×Af×Int:=(Dx) (a.1) (a.2.1) (a.2.2)
def flwS_.row:Ay:=vK (b3 (qR AF.d_le) (qS DO Dc) qI) (r3 (rS AD.d_le AD.c_n) (rA Af.d_le) rI) (λa=>True) flwS_.fv
def flwS_.q:=AT (R:=flwS_.row) rfl
def flwS_.ok:A9 5 flwS_.row:=by
 refine vw (tC l32Ok.ok (tC GrwNS_.ok (tC stS_.ok (tC l03Own.ok (tC l03Put.ok (tC l32Right.ok tN)))))) Tryz.func5 ?_;intro a Z;simp only[Tryz.f5];simp only[ZA,simprocAttr,Af.d,flwS_.fv,l32Ok.q,l32Ok.fv,GrwNS_.q,GrwNS_.fv,stS_.q,stS_.fv,l03Own.q,l03Own.fv];obtain⟨m,l,n⟩:=a;simp only[Dx];by_cases c1:EO m=true
 case neg=>rw[Ak (by simpa using c1),Ak (by simpa using c1)]
 have n1: ¬EO m=false:=by rw[c1];decide
 rw[Ad n1,Ad n1];by_cases c2:(E6 m.Big l n).2.2=0
 case neg=>rw[Ak c2,Ak c2]
 have n2: ¬ ¬(E6 m.Big l n).2.2=0:=λh=>h c2
 rw[Ad n2,Ad n2];refine⟨c1,?_⟩;by_cases c3:(UO m).2=true
 case neg=>rw[Ak (by simpa using c3),Ak (by simpa using c3)]
 have n3: ¬(UO m).2=false:=by rw[c3];decide
 rw[Ad n3,Ad n3];obtain⟨ab,af⟩:=S8 c2;obtain⟨hs,ad⟩:=Wq c1;have ac:(AP m m.Big.Seed).2=true:=by
  simp only[UO,AL] at c3;exact c3.1
 obtain⟨w,hw⟩: ∃w,w=E6 m.Big l n:=⟨_,rfl⟩;simp only[<-hw] at ab af⊢;refine⟨by have:=(HU ad).2;omega,?_⟩;refine AU.ren ⟨{q:Nat×Af×List AD//(q.1<=w.1.length/\q.2.2.length<=q.1)/\E8 m.Big.Set q.2.1=true/\(AP m q.2.1).2=true/\xL m.Big q.2.1 (w.1.drop q.1)/\K7 m (w.1.drop q.1) q.2.1 q.2.2=K7 m w.1 m.Big.Seed []},λq=>⟨[(16,.im (.int .i64 q.1.1)),(15,.own 7),(14,.ptr 5 0),(12,.ptr 4 0),(10,.ptr 3 0),(9,.im (.sl false 3 (w.1.map AD.c))),(8,.im (.int .i64 0)),(7,.ptr 2 0),(6,.own 1),(3,.ptr 0 0)],[(7,(true,.arr 72 3 (q.1.2.2.map AD.c))),(5,(true,.cells 38 [.im (.sl false 3 (q.1.2.1.Tiles.map Ah.c))])),(4,(true,.cells 38 [.im (.sl false 3 ((AP m q.1.2.1).1.Tiles.map Ah.c))])),(3,(true,.cells 38 [.im (.sl false 3 (w.2.1.Tiles.map Ah.c))])),(2,(true,.cells 38 [.im (.sl true 0 [])])),(1,(true,.arr 72 3 [])),(0,(true,.cells 48 [.im (.sl false 2 (m.Big.Set.Glues.map Am.c)),.im (.sl false 2 (m.Big.Set.Tiles.map Tile.c)),.im (.sl false 3 (m.Big.Seed.Tiles.map Ah.c)),.im (.int .i64 m.Big.Temperature),.im (.sl false 2 (m.Small.Set.Glues.map Am.c)),.im (.sl false 2 (m.Small.Set.Tiles.map Tile.c)),.im (.sl false 3 (m.Small.Seed.Tiles.map Ah.c)),.im (.int .i64 m.Small.Temperature),.im (.int .i64 m.Scale),.im (.sl false 1 (m.Labels.map Aj))]))],8⟩,λq=>w.1.length - q.1.1,λq=>⟨by simp[ZG],by simp⟩,⟨⟨(0,m.Big.Seed,[]),by simp only;exact⟨⟨CR _,AN _⟩,ad,ac,ab,rfl⟩⟩,[(7,some 6)],?_⟩,λq=> ?_⟩
 .simp only[Aw];simp only[ZA,simprocAttr,Br]
  try simp[UO]
 obtain⟨⟨k,b,d⟩,⟨e1,e0⟩,e2,e3,e4,z⟩:=q;simp only at e0 e1 e2 e3 e4 z;simp only[ZA,simprocAttr,Af.d,l03Put.q,l03Put.fv,l32Right.q,l32Right.fv,AR];have ah:=(HU e2).2;have Z:=Kc c1 e2;have ai:=uG Z;have ag:=lZ c1 e2;refine λ_=>⟨λc4=>⟨c4,λo ho=>⟨c4,λo2 aa=>⟨by omega,?_⟩⟩⟩,λc4=> ?_⟩
 .rw[ho] at aa;obtain rfl:=A7 aa;rw[E9 ho] at e4 z;obtain⟨f1,f2,f3⟩:=e4;have O:=TQ (Quu c1) e2 f1 f2;rw[K7] at z;have Q:=LM c1 e2 O e3;refine⟨⟨Kc c1 O,rV (Qj0 c1),ag,by omega⟩,λc5=> ?_,λc5=> ?_⟩
  .rw[Ak (Q.2 c5)] at z;rw[<-z]
  .obtain⟨r1,r2⟩:=rH c1 e2 O e3 c5;rw[Ad (λh=>c5 (Q.1 h))] at z;refine⟨λc6=> ?_,λc6=> ?_⟩
   .rcases r2 with ⟨r2,_⟩|⟨_,r3,r4⟩
    .omega
    rw[r4] at z;refine⟨by omega,by simp[BY,BK,D.one],?_,⟨(k+1,BJ b o.At o.Tile,d++[(Kl m (AP m b).1 (BJ b o.At o.Tile)).1]),by simp only;exact⟨⟨by omega,by simp only[CD,CQ,FS];omega⟩,O,r1,f3,z⟩⟩,[(7,some 10)],by simp only;omega,?_⟩
    .omega
    simp only[Aw];simp only[ZA,simprocAttr,Br];exact⟨AC (by omega) (by omega),by rw[FT];rfl,by rw[r3]⟩
   .rcases r2 with ⟨_,r3,r4⟩|⟨r2,_⟩
    case inr=>exact absurd r2 c6
    rw[r4,DA] at z;refine⟨⟨(k+1,BJ b o.At o.Tile,d),by simp only;exact⟨⟨by omega,by omega⟩,O,r1,f3,z⟩⟩,[],by simp only;omega,?_⟩;simp only[Aw];simp only[ZA,simprocAttr,Br];exact⟨AC (by omega) (by omega),by rw[r3]⟩
 .rw[CG (by omega),K7] at z;rw[<-z]
def sdR_.fv(a:AF):Bool:=(λm=>(UO m).2) a
def sdR_.row:Ay:=D1 (b1 (qR AF.d_le)) rB (λa=>EO a=true) sdR_.fv
def sdR_.q:=DX (R:=sdR_.row) rfl
def sdR_.ok:A9 30 sdR_.row:=by
 refine GF (tC rep_.ok (tC SameAsm.ok tN)) Tryz.func30 ?_;intro a z;simp only[Tryz.f30];simp only[ZA,simprocAttr,Af.d,sdR_.fv,rep_.q,rep_.fv,SameAsm.q,SameAsm.fv,D.sc,D.scs,BC];have O:=Kc z (Wq z).2;refine⟨O,?_⟩;simp only[UO];split
 .rename_i c;rw[c];rfl
 .rename_i c;simp[c]
def flI.ca(a:AF×List Int×Int):List AV:=[.im (.agg (AF.c a.1)),.im (.sl false 1 (a.2.1.map Aj)),.im (.int .i64 a.2.2)]
def flI.H1(a:AF×List Int×Int):Ao:=Gm (Dx a.1 a.2.1 a.2.2)
def flI.row:Ay:=AA flI.ca (λ_=>[]) 0 (λa=>QQ a.1.Big.Set/\QQ a.1.Small.Set) (λ_=>false) (λa=>G9 (Dx a.1 a.2.1 a.2.2)) flI.H1 20
def flI.ok:A9 8 flI.row:=by
 refine Qr (tC simI_.ok (tC grsI.ok (tC sdR_.ok (tC wth_.ok (tC fol_.ok tN))))) Tryz.func8 (exB:=LW) (R:=λa r=>r=G9 (Dx a.1 a.2.1 a.2.2)) (λ_=>rfl)
  (λa=>by simp[flI.ca,AF.c,AE,AV.bel,Au,BB,BU]) (λa p hp=> ?_) (λa r h=>by subst h;exact CN.refl _) ?_
 rotate_left
 intro a Q;simp only[Tryz.f8,flI.ca,AF.c];simp only[ZA,simprocAttr,CS,simI_.q,simI_.fv,F3,AF.c];obtain⟨m,l,n⟩:=a;simp only at Q⊢;refine⟨Q,?_⟩;simp only[Y7];by_cases c1:EO m=true
 case neg=>
  rw[Ak (by simpa using c1)];have z:Dx m l n=([],⟨[]⟩,1):=by simp only[Dx];rw[Ak (by simpa using c1)]
  refine⟨[],[(0,some 3),(1,none),(2,some 2)],⟨[(6,.own 0),(7,.ptr 2 0),(8,.im (.int .i64 1))],[(2,(true,.cells 38 [.own 1])),(0,(true,.arr 72 3 ([]))),(1,(true,.arr 97 3 ([])))],3⟩,?_,by simp[ZG],by simp,?_⟩
  .simp only[Aw];simp only[ZA,simprocAttr,Br,Qh]
   try simp
  .simp only[ZA,simprocAttr,LW,G9,flI.H1,z,Gm]
   try simp
 have n1: ¬EO m=false:=by rw[c1];decide
 rw[Ad n1];refine AA.os (m.Big,l,n) [] Q.1 (λj=>by simp[Al,hget]) rfl rfl ?_ ?_
 .simp only[ZA,simprocAttr,grsI.ca,CO,AG.c]
  try exact⟨rfl,rfl,rfl⟩
 obtain⟨w,hw⟩: ∃w,w=E6 m.Big l n:=⟨_,rfl⟩;simp only[ZA,simprocAttr,CS,sdR_.q,sdR_.fv,F3,AF.c,grsI.H1,Gm,G9,<-hw];by_cases c2:w.2.2=0
 case neg=>
  rw[Ak c2];have z:Dx m l n=([],⟨[]⟩,w.2.2):=by simp only[Dx];rw[Ad n1,<-hw,Ak c2]
  refine⟨[],[(0,some 24),(1,none),(2,some 2)],⟨[(6,.own 0),(7,.ptr 2 0),(8,.im (.int .i64 w.2.2))],[(2,(true,.cells 38 [.own 1])),(0,(true,.arr 72 3 ([]))),(1,(true,.arr 97 3 ([])))],3⟩,?_,by simp[ZG],by simp,?_⟩
  .simp only[Aw];simp only[ZA,simprocAttr,Br,Qh]
   try simp
  .simp only[ZA,simprocAttr,LW,flI.H1,z,Gm]
   try simp
 rw[Ad (λh=>h c2)];refine⟨c1,?_⟩;by_cases c3:(UO m).2=true
 case neg=>
  rw[Ak (by simpa using c3)];have z:Dx m l n=([],⟨[]⟩,10):=by simp only[Dx];rw[Ad n1,<-hw,Ad (λh=>h c2),Ak (by simpa using c3)]
  refine⟨[],[(0,some 24),(1,none),(2,some 2)],⟨[(6,.own 0),(7,.ptr 2 0),(8,.im (.int .i64 10))],[(2,(true,.cells 38 [.own 1])),(0,(true,.arr 72 3 ([]))),(1,(true,.arr 97 3 ([])))],3⟩,?_,by simp[ZG],by simp,?_⟩
  .simp only[Aw];simp only[ZA,simprocAttr,Br,Qh]
   try simp
  .simp only[ZA,simprocAttr,LW,flI.H1,z,Gm]
   try simp
 rw[Ad (by simp[c3])];obtain⟨ac,ag⟩:=S8 (hw▸c2);obtain⟨hs,ah⟩:=Wq c1;rw[<-hw] at ac ag;have ad:(AP m m.Big.Seed).2=true:=by
  simp only[UO,AL] at c3;exact c3.1
 have z:Dx m l n=match K7 m w.1 m.Big.Seed [] with
  |none=>([],⟨[]⟩,10)
  |some d=>(d,w.2.1,0):=by
  simp only[Dx];rw[Ad n1,<-hw,Ad (λh=>h c2),Ad (by rw[c3];decide)]
 intro _;refine AU.ren ⟨{q:Nat×Af×List AD//(q.1<=w.1.length/\q.2.2.length<=q.1)/\E8 m.Big.Set q.2.1=true/\(AP m q.2.1).2=true/\xL m.Big q.2.1 (w.1.drop q.1)/\K7 m (w.1.drop q.1) q.2.1 q.2.2=K7 m w.1 m.Big.Seed []},λq=>⟨[(47,.im (.int .i64 q.1.1)),(46,.im (.int .i64 w.1.length)),(45,.own 3),(13,.own 26),(12,.ptr 24 0),(10,.ptr 23 0),(8,.im (.int .i64 0)),(7,.ptr 2 0),(6,.own 1),(3,.ptr 0 0)],[(26,(true,.arr 72 3 (q.1.2.2.map AD.c))),(24,(true,.cells 38 [.im (.sl false 3 (q.1.2.1.Tiles.map Ah.c))])),(23,(true,.cells 38 [.own 4])),(3,(true,.arr 72 3 (w.1.map AD.c))),(4,(true,.arr 97 3 (w.2.1.Tiles.map Ah.c))),(2,(true,.cells 38 [.im (.sl true 0 [])])),(1,(true,.arr 72 3 [])),(0,(true,.cells 48 [.im (.sl false 2 (m.Big.Set.Glues.map Am.c)),.im (.sl false 2 (m.Big.Set.Tiles.map Tile.c)),.im (.sl false 3 (m.Big.Seed.Tiles.map Ah.c)),.im (.int .i64 m.Big.Temperature),.im (.sl false 2 (m.Small.Set.Glues.map Am.c)),.im (.sl false 2 (m.Small.Set.Tiles.map Tile.c)),.im (.sl false 3 (m.Small.Seed.Tiles.map Ah.c)),.im (.int .i64 m.Small.Temperature),.im (.int .i64 m.Scale),.im (.sl false 1 (m.Labels.map Aj))]))],27⟩,λq=>w.1.length - q.1.1,λq=>⟨by simp[ZG],by simp⟩,⟨⟨(0,m.Big.Seed,[]),by simp only;exact⟨⟨CR _,AN _⟩,ah,ad,ac,rfl⟩⟩,[(26,some 25)],?_⟩,λq=> ?_⟩
 .simp only[Aw];simp only[ZA,simprocAttr,Br]
  try simp
 obtain⟨⟨k,b,d⟩,⟨e1,e0⟩,e2,e3,e4,Z⟩:=q;simp only at e0 e1 e2 e3 e4 Z;simp only[ZA,simprocAttr,Af.d,CS,wth_.q,wth_.fv,fol_.q,fol_.fv,F3,DL,AF.c,AR];have ab:=HU e2;refine⟨λc4=>⟨c4,c4,λo ho=> ?_⟩,λc4=> ?_⟩
 .rw[E9 ho] at e4 Z;obtain⟨f1,f2,f3⟩:=e4;have O:=TQ (Quu c1) e2 f1 f2;rw[K7] at Z;have aa:=LM c1 e2 O e3;have af:=rH c1 e2 O e3;have g1:DY o.At=true/\Bj b o.At<0:=by
   simp only[C7,AL,B3] at f1;exact⟨f1.1,(Iy ab.1.2 o.At).1 f1.2.2.1⟩
  rw[QX] at O Z f3 aa af;refine⟨⟨ab.1.1,g1.1,g1.2,ab.2⟩,⟨c1,e2,O⟩,λc5=> ?_,λc5=> ?_⟩
  .rw[Ak c5] at Z;have z:Dx m l n=([],⟨[]⟩,10):=by rw[z,<-Z]
   refine⟨[],[(0,some 29),(1,none),(2,some 2)],⟨[(6,.own 0),(7,.ptr 2 0),(8,.im (.int .i64 10))],[(2,(true,.cells 38 [.own 1])),(0,(true,.arr 72 3 ([]))),(1,(true,.arr 97 3 ([])))],3⟩,?_,by simp[ZG],by simp,?_⟩
   .simp only[Aw];simp only[ZA,simprocAttr,Br,Qh]
    try simp
   .simp only[ZA,simprocAttr,LW,flI.H1,z,Gm]
    try simp
  .rw[Ad c5] at Z;obtain⟨r1,r2⟩:=af (λh=>c5 (aa.2 h));have r3:(Fs m b ⟨C8 o.At o.Tile b.Tiles⟩).1.length<=1:=by
    rcases r2 with ⟨_,_,r⟩|⟨_,_,r⟩<;>rw[r]<;>simp
   refine⟨by omega,⟨(k+1,⟨C8 o.At o.Tile b.Tiles⟩,d++(Fs m b ⟨C8 o.At o.Tile b.Tiles⟩).1),by simp only;exact⟨⟨by omega,by rw[CD];omega⟩,O,r1,f3,Z⟩⟩,[(26,some 29)],by simp only;omega,?_⟩;simp only[Aw];simp only[ZA,simprocAttr,Br];exact⟨AC (by omega) (by omega),by rw[FT]⟩
 .rw[CG (by omega),K7] at Z;have z:Dx m l n=(d,w.2.1,0):=by rw[z,<-Z]
  refine⟨[],[(0,some 26),(1,some 4),(2,some 2)],⟨[(6,.own 0),(7,.ptr 2 0),(8,.im (.int .i64 0))],[(2,(true,.cells 38 [.own 1])),(0,(true,.arr 72 3 (d.map AD.c))),(1,(true,.arr 97 3 (w.2.1.Tiles.map Ah.c)))],3⟩,?_,by simp[ZG],by simp,?_⟩
  .simp only[Aw];simp only[ZA,simprocAttr,Br]
   try simp
  .simp only[ZA,simprocAttr,LW,flI.H1,z,Gm]
   try simp
 simp[flI.H1,Gm] at hp;rcases hp with rfl|rfl
 .exact .inr ⟨by omega,by omega,rfl,rfl⟩
 .exact .inr ⟨by omega,by omega,rfl,rfl⟩
def pk3g{h:Nat->Option An}{x y z:AV}{p q r:PK}(O:Ej h x=some p)(Q:Ej h y=some q)(Z:Ej h z=some r):Ct h [x,y,z]=some [p,q,r]:=by simp only[Ct,O,Q,Z,Hv]
def iF(s:AG)(l:List Int)(n:Int):(E6 s l n).1.length<=500/\(E6 s l n).2.1.Tiles.length<=500:=by
 simp only[E6];split
 .simp
 rename_i c1;split
 .simp
 rename_i z;have O:0<=n/\n<=500:=by
  have: ¬AW n 0 500=false:=λh=>z (.inr h)
  simpa[AW] using this
 have:=dH s l n.toNat s.Seed [] (jO (by simpa using c1))
 simp only[FS] at this;exact⟨by omega,this.2⟩
structure FY(h:Nat->Option An)(N:Nat)(m:AF):Prop where
 a:Db h (N+7) (N+9) (N+2000012) (N+10) m.Big
 b:Db h (N+2000020) (N+2000022) (N+4000025) (N+2000023) m.Small
 l:h (N+4000027)=some (true,.arr 2 1 (m.Labels.map Aj))
def U6(N:Nat)(m:AF):List AV:=[.own (N+7),.own (N+9),.own (N+2000012),.im (.int .i64 m.Big.Temperature),.own (N+2000020),.own (N+2000022),.own (N+4000025),.im (.int .i64 m.Small.Temperature),.im (.int .i64 m.Scale),.own (N+4000027)]
def FY.mono{h h':Nat->Option An}{N:Nat}{m:AF}(O:ID m)(hs:FY h N m)(z: ∀j,N+7<=j->j<N+4000028->h' j=h j):FY h' N m:=by
 have Z:=O.a.t;have h2:=O.b.t;exact⟨hs.a.mono λj Q=>z j (by omega) (by omega),hs.b.mono λj Q=>z j (by omega) (by omega),by rw[z _ (by omega) (by omega)];exact hs.l⟩
def FY.pk{h:Nat->Option An}{N:Nat}{m:AF}(hs:FY h N m):Ej h (.agg (U6 N m))=some (.val (.agg (AF.c m))):=by
 have:bk h (6+3) (.agg (U6 N m))=some (.agg (AF.c m)):=by
  simp only[U6,bk,Ar,hs.a.g,hs.a.t,hs.a.p,hs.b.g,hs.b.t,hs.b.p,hs.l,Ko,dF hs.a.f,dF hs.b.f,CY,AF.c]
 simp only[Ej,this,EX,CY]
def Ng{L:Ao}{h:Nat->Option An}{o nx a b c d:Nat}{s:AG}(O:a=nx+(o+7))(Q:b=nx+(o+9))(Z:c=nx+(o+2000012))(ed:d=nx+(o+10))(hB:Fl s)(hL: ∀j e,hget (Ef o s) j=some e->hget L j=some e)(h1: ∀j e,hget L j=some e->h (nx+j)=some (e.1,e.2.ren λj=>nx+j)):Db h a b c d s:=by
 subst O Q Z ed;have ht:=hB.t;have hm:min s.Set.Tiles.length 1048576=s.Set.Tiles.length:=by omega
 have g: ∀j e,hget (Ef o s) j=some e->h (nx+j)=some (e.1,e.2.ren λj=>nx+j):=λj e he=>h1 j e (hL j e he)
 refine⟨g (o+7) (true,.arr 167 2 (s.Set.Glues.map Am.c)) (by simp only[Ef,hget,ZS,Cg]),?_,g (o+2000012) (true,.arr 97 3 (s.Seed.Tiles.map Ah.c)) (by simp only[Ef,hget,AX _ _ (show o+7≠o+2000012 by omega),AX _ _ (show o+9≠o+2000012 by omega),Bq,ZS,Cg]),λi z=> ?_⟩
 .rw[g (o+9) (true,.arrA 170 2 (GD (o+10) s.Set.Tiles)) (by simp only[Ef,hget,AX _ _ (show o+7≠o+9 by omega),Bq,ZS,Cg])];simp only[Ac.ren];congr 3;simp only[GD,Oe];refine Kr λi z=> ?_
  simp only[Function.comp,AJ,AV.ren];rw[<-Gf nx]
 .have e:hget (Ef o s) (o+10+i)=some (Dz s.Set.Tiles i):=by
   simp only[Ef,hget,AX _ _ (show o+7≠o+10+i by omega),AX _ _ (show o+9≠o+10+i by omega),AX _ _ (show o+2000012≠o+10+i by omega),Bq];rw[hm];exact GK _ _ _ _ z
  rw[Gf,g _ _ e];rfl
def dG{o j:Nat}{s:AG}(h:j<o+7\/o+2000013<=j):hget (Ef o s) j=none:=by
 cases e:hget (Ef o s) j with
 |none=>rfl
 |some x=>
  have:=QH (Zv e)
  simp only at this;omega
def wZ{m:AF}(Q:ID m){nx:Nat}{O:Ao}(h: ∀j e,hget (toMX.H1 m) j=some e->hget O (nx+j)=some (e.1,e.2.ren λj=>nx+j)):FY (hget O) (nx+3) m:=by
 have Z:=Ng (L:=toMX.H1 m) (h:=hget O) (nx:=nx) (o:=3) (a:=nx+3+7) (b:=nx+3+9) (c:=nx+3+2000012) (d:=nx+3+10) (by omega) (by omega) (by omega) (by omega) Q.a (λj e z=> ?_) h;have eb:=Ng (L:=toMX.H1 m) (h:=hget O) (nx:=nx) (o:=2000016) (a:=nx+3+2000020) (b:=nx+3+2000022) (c:=nx+3+4000025) (d:=nx+3+2000023) (by omega) (by omega) (by omega) (by omega) Q.b (λj e z=> ?_) h
 .exact⟨Z,eb,by rw[show nx+3+4000027=nx+4000030 by omega];exact h 4000030 _ rfl⟩
 .have hn: ¬(j<2000016+7\/2000016+2000013<=j):=λq=>by rw[dG q] at z;cases z
  simp only[toMX.H1,hget,AX _ _ (show 4000030≠j by omega),Bq,IB,dG (o:=3) (s:=m.Big) (j:=j) (by omega),Zfj];exact z
 .have hn: ¬(j<3+7\/3+2000013<=j):=λq=>by rw[dG q] at z;cases z
  simp only[toMX.H1,hget,AX _ _ (show 4000030≠j by omega),Bq,IB,z,Option.some_or]
def Nh{o:Nat}{s:AG}(O:Fl s){p:Nat×An}(hp:p∈Ef o s): ∀j∈p.2.2.nms,j<o+2000013:=by
 have ht:=O.t;simp only[Ef,Be,AS,Bh,Bv] at hp;rcases hp with rfl|rfl|rfl|⟨i,hi,rfl⟩
 .simp[Ac.nms]
 .intro m z;simp only[Ac.nms] at z;obtain⟨r,Z,z⟩:=Ff.1 z;obtain⟨j,Q,rfl⟩:=Bh.1 Z
  have:=Bv.1 Q
  simp[AB,AV.nms] at z;omega
 .simp[Ac.nms]
 .simp[Dz,Ac.nms]
def xA{m:AF}(Q:ID m): ∀p∈toMX.H1 m,p.1<4000031/\ ∀j∈p.2.2.nms,j<4000031:=by
 intro p hp;rcases Be.1 hp with rfl|hp
 .exact⟨by omega,by simp[Ac.nms]⟩
 rcases Bs.1 hp with hp|hp
 .have Z:=QH hp;have z:=Nh Q.a hp;exact⟨by omega,λj O=>by have:=z j O;omega⟩
 .have Z:=QH hp;have z:=Nh Q.b hp;exact⟨by omega,λj O=>by have:=z j O;omega⟩
def Th{N nx:Nat}{tm:List (Nat×AV)}{h:Ao}{dst:Option Nat}{go:Av->Prop}{m:AF}{k:Int}(Q:ID m)(hk:0<=k)(ab:k<=1048576)(hS:FY (hget h) N m)(ac:N+4000028<=nx)
 (aa: ∀O:Ao,(∀j,j<N+7\/N+4000028<=j->hget O j=hget h j)->go ((⟨tm,O,nx⟩:Av).put dst (.im (.int .i64 (Y9 (m,k)+m.Labels.length))))):
 Ca.row [.agg (U6 N m),.im (.int .i64 k)] (hget h) nx (DH go ⟨tm,h,nx⟩ dst):=by
 have hσ: ∀j,j<4000028->BW (λj=>N+j) 4000028 nx j=N+j:=λj z=>Ak z
 have hd: ∀j,Al (Ca.H0 (m,k)) j=true->7<=j/\j<4000028:=λj z=>by
  have:=(Ca.dom0 _ _).1 z
  have h1:=Ws this;simp only[KW,Co] at this;omega
 refine AA.tau (m,k) (λj=>N+j) ⟨Q,hk,ab⟩ (λ_ _=>rfl) (λj z=>by have:=hd j z;omega) (λi j _ _ h=>by omega) (Ca.hcl _) ⟨?_,?_⟩ (by simp[Ca.r0,AV.nms]) (λO _ Z=>aa O λj z=>Z j λi hi=>by have:=hd i hi;omega)
 .simp only[Ca.ca,U6,AJ,AV.ren,hσ 7 (by omega),hσ 9 (by omega),hσ 2000012 (by omega),hσ 2000020 (by omega),hσ 2000022 (by omega),hσ 4000025 (by omega),hσ 4000027 (by omega)]
 .simp only[Ca.H0,CO,hσ 4000027 (by omega)];have l1:=CT m.Big.Set.Tiles;have l2:=CT m.Small.Set.Tiles;have hb:Db (hget h) (N+2000013+7) (N+2000013+9) (N+2000013+2000012) (N+2000013+10) m.Small:=by
   rw[show N+2000013+7=N+2000020 by omega,show N+2000013+9=N+2000022 by omega,show N+2000013+2000012=N+4000025 by omega,show N+2000013+10=N+2000023 by omega];exact hS.b
  refine⟨hS.l,(Qwi ..).2 ⟨rJ (N:=N) (λj z=>hσ j (by simp only[Co] at z;omega)) ((US Q.a).2 hS.a) (λi=>rfl),rJ (N:=N) (λj z=>hσ j (by simp only[Co] at z;omega)) ((US Q.b).2 hb) (λi=>rfl)⟩⟩
def toMR.row:Ay:=xJ toSimulation.row toMX.row
def toMR.ok:A9 6 toMR.row:=KM toSimulation.ok toMX.ok
def U5(m:AF):a1 (kR AF.d) [.val (.agg (AF.c m))]=some m:=by simp only[a1,kR,AF.d_c,FR]
def xR(s t:AF):a2 (kR AF.d) (kR AF.d) [.val (.agg (AF.c s)),.val (.agg (AF.c t))]=some (s,t):=by simp only[a2,kR,AF.d_c,FR]
def flR(m:AF)(l:List Int)(n:Int):a3 (kR AF.d) (kS Cl) kI [.val (.agg (AF.c m)),.val (.sl false 1 (l.map Aj)),.val (.int .i64 n)]=some (m,l,n):=by simp only[a3,kR,kS,kI,AF.d_c,NO VV,FR]
def flV.row:Ay:=Fg (a3 (kR AF.d) (kS Cl) kI) (λa=>QQ a.1.Big.Set/\QQ a.1.Small.Set) (λa=>G9 (Dx a.1 a.2.1 a.2.2)) flI.H1 20
def flV.ok:A9 8 flV.row:=
 pO (A:=AF×List Int×Int) (ca:=λ(a:AF×List Int×Int)=>[D.agg (AF.c a.1),D.sl false 1 (a.2.1.map Aj),D.int .i64 a.2.2]) (by kernel_rfl) flI.ok (λ_=>rfl) (aB (Mg AF.d_le) (SL 1 DO (λ_=>rfl)) aN) (λ_=>iG _) (λ_=>iH _)
def XC(m:AF)(a b:Af):(Fs m a b).1.length<=1:=by
 simp only[Fs];split
 .simp
 split<;>simp
def LL{m:AF}: ∀(l:List AD) (a:Af) (o d:List AD),K7 m l a o=some d->d.length<=o.length+l.length
 |[],_,o,d,h=>by rw[K7] at h;obtain rfl:=A7 h;simp
 |x::r,a,o,d,h=>by
  rw[K7] at h;split at h
  .cases h
  .have:=LL r _ _ _ h
   have:=XC m a (BJ a x.At x.Tile)
   simp only[CD,CQ] at*;omega
def iB(m:AF)(l:List Int)(n:Int):(Dx m l n).1.length<=500/\(Dx m l n).2.1.Tiles.length<=500:=by
 have z:=iF m.Big l n;simp only[Dx];split
 .simp
 split
 .simp
 split
 .simp
 cases e:K7 m (E6 m.Big l n).1 m.Big.Seed [] with
 |none=>simp
 |some d=>
  have:=LL _ _ _ _ e
  simp only[FS] at this;exact⟨by simp only;omega,z.2⟩
def YO{m:AF}{l:Int}(O: -1<=l)(z:l<=1048576)(h:0<=JQ m l):ID m:=by
 have b1:=mG m.Big l O;have b2:=mG m.Small (J6 m.Big l) b1.1;simp only[JQ] at h;split at h
 .omega
 split at h
 .omega
 obtain⟨q1,_,_⟩:=Ra h;exact⟨Ni O z (by omega),Ni b1.1 (by omega) (by omega),by omega⟩
def jS{m:AF}(z:ID m):0<=Y9 (m,1)+m.Labels.length/\Y9 (m,1)+m.Labels.length<=33554432:=by
 have q1:Y8 (m,1)=syK (m.Big,1)+3*m.Big.Seed.Tiles.length:=rfl;have q2:Y9 (m,1)=syK (m.Small,Y8 (m,1))+3*m.Small.Seed.Tiles.length:=rfl;obtain⟨_,O,Q⟩:=z.a.sk (k:=1) (by decide) (by decide);obtain⟨_,Z,p6⟩:=z.b.sk (k:=Y8 (m,1)) (by omega) (by omega)
 have:=z.l
 omega
def lawFl.rc:D->Option (Bool):=PO
def lawFl.re:Bool->D:=D.bool
def lawFl.rle: ∀d b,lawFl.rc d=some b->Le d (lawFl.re b):=Ze
def lawFl.fv(a:AF×(List Int)×Int):Bool:=(λ_ _ _=>true) (a.1) (a.2.1) (a.2.2)
def lawFl.row:Ay:=vK (b3 (qR AF.d_le) (qS DO Dc) qI) (RK.mk lawFl.rc lawFl.re lawFl.rle) (λa=>FH a.1.Big.Set/\FH a.1.Small.Set) lawFl.fv
def lawFl.q:=AT (R:=lawFl.row) rfl
def Qf:=J @toSimulation.fv.eq_1<|J @toInt64S.fv.eq_1<|J @eqOptionSF.fv.eq_1 @eqAsmF.fv.eq_1
def lawFl.ok:A9 3 lawFl.row:=by
 refine vw (tC szSimulation.ok (tC toMR.ok (tC toIR.ok (tC flwS_.ok (tC flV.ok (tC eqOptionSF.ok (tC eqAsmF.ok (tC eqSimF.ok (tC eqInt64SF.ok (tC Ca.ok (tC mkIC.ok (tC mkOC.ok (tC mkAC.ok (tC heldO_.ok (tC heldA_.ok tN))))))))))))))) Tryz.func3 ?_;intro a ac;simp only[Tryz.f3];simp(maxSteps:=9^9)(disch:=omega)only[ZA,simprocAttr,lawFl.fv,lawFl.rc,szSimulation.q,szSimulation.fv];obtain⟨m,l,n⟩:=a;simp only at ac⊢;intro _;split
 .trivial
 rename_i c2;refine⟨ac,?_⟩;split
 .trivial
 rename_i c0;have hB:=YO (m:=m) (l:=1048576) (by decide) (by decide) (by omega);have h1:=(UV (s:=m) (l:=1048576) (by decide) (by decide) (by omega)).1;have hl:l.length<=1048576:=by omega
 have aj:l.length<=1073741824:=by omega
 refine .inl (vK.call [.val (.agg (AF.c m))] rfl m (U5 m) h1 ?_);simp(disch:=omega)only[ZA,simprocAttr,Qf,Bu];refine .inl (vK.call [.val (.sl false 1 (l.map Aj))] rfl l (SE l) aj ?_);simp(disch:=omega)only[ZA,simprocAttr,Qf,flwS_.q,flwS_.fv,Bu];obtain⟨w,hw⟩: ∃w,w=Dx m l n:=⟨_,rfl⟩;have au:=iB m l n;obtain⟨O,w1,w2⟩:=w;simp only[<-hw] at au⊢;refine .inr (AA.nw m hB rfl rfl (xA hB) (by simp[toMX.r0,AV.nms,AB]) λak hH1 z=> ?_);have Z:hget ak 0=some (true,.cells 33 [AV.im (D.sl false 2 (List.map Am.c m.Big.Set.Glues)),AV.im (D.sl false 2 (List.map Tile.c m.Big.Set.Tiles)),AV.im (D.sl false 3 (List.map Ah.c m.Big.Seed.Tiles)),AV.im (D.int IntKind.i64 m.Big.Temperature),AV.im (D.sl false 2 (List.map Am.c m.Small.Set.Glues)),AV.im (D.sl false 2 (List.map Tile.c m.Small.Set.Tiles)),AV.im (D.sl false 3 (List.map Ah.c m.Small.Seed.Tiles)),AV.im (D.int IntKind.i64 m.Small.Temperature),AV.im (D.int IntKind.i64 m.Scale),AV.im (D.sl false 1 (List.map Aj m.Labels))]):=z 0 (by omega);have k1:hget ak 1=some (true,.cells 38 [AV.im (D.sl false 3 (List.map Ah.c w1.Tiles))]):=z 1 (by omega);have S1:FY (hget ak) 5 m:=wZ hB hH1;clear hH1 z;simp only[toMX.r0,AV.ren,AJ];simp(disch:=omega)only[ZA,simprocAttr,Bu];refine .inr (AA.nw l aj rfl rfl (aM l) (by simp[AV.nms]) λaf hH1 z=> ?_);have Z:hget af 0=_:=((z 0 (by omega)).trans (Ix _ _ _ (by omega))).trans Z;have k1:hget af 1=_:=((z 1 (by omega)).trans (Ix _ _ _ (by omega))).trans k1;have S2:FY (hget af) 5 m:=S1.mono hB λj _ hj=>(z j (by omega)).trans (Ix _ _ _ (by omega))
 have cm:hget af 4000033=some (true,.cells 48 [.own 12,.own 14,.own 2000017,.im (.int .i64 m.Big.Temperature),.own 2000025,.own 2000027,.own 4000030,.im (.int .i64 m.Small.Temperature),.im (.int .i64 m.Scale),.own 4000032]):=z _ (by omega);have ol:hget af 4000035=some (true,.arr 2 1 (l.map Aj)):=hH1 1 _ rfl;clear hH1 z;simp only[AV.ren];simp(disch:=omega)only[ZA,simprocAttr,Bu,cm];refine Fg.nw [.val (.agg (AF.c m)),.val (.sl false 1 (l.map Aj)),.val (.int .i64 n)] (pk3g S2.pk (JU ol) rfl) (m,l,n) (flR m l n) ac (Sy _) (K9 _) λaa hH1 z=> ?_
 simp only[<-hw,flI.H1] at hH1⊢;have Z:hget aa 0=_:=(z 0 (by omega)).trans Z;have k1:hget aa 1=_:=(z 1 (by omega)).trans k1;have cm:hget aa 4000033=_:=(z 4000033 (by omega)).trans cm;have ol:hget aa 4000035=_:=(z 4000035 (by omega)).trans ol;have S3:FY (hget aa) 5 m:=S2.mono hB λj _ hj=>z j (by omega)
 have gg:hget aa 4000036=some (true,.arr 72 3 (O.map AD.c)):=hH1 0 _ rfl;have gp:hget aa 4000037=some (true,.arr 97 3 (w1.Tiles.map Ah.c)):=hH1 1 _ rfl;clear hH1 z;simp only[G9,AV.ren,AJ];simp(disch:=omega)only[ZA,simprocAttr,Bu];generalize hG:((4000056,(true,Ac.cells 38 [AV.own 4000037]))::Bi aa [4000056]:Ao)=HX3;have S3:FY (hget HX3) 5 m:=S3.mono hB λj _ hj=>pg hG (by omega) rfl
 have Z:=pg hG (by omega) Z;have k1:=pg hG (by omega) k1;have cm:=pg hG (by omega) cm;have ol:=pg hG (by omega) ol;have gg:=pg hG (by omega) gg;have gp:=pg hG (by omega) gp;have ga:hget HX3 4000056=some (true,.cells 38 [.own 4000037]):=by rw[<-hG];rfl
 clear hG;refine D1.call [_,_] (Qs (JU gg) rfl) (O,O) (TA _ _) trivial ?_;simp(disch:=omega)only[ZA,simprocAttr,Qf,Bu,k1,ga];refine D1.call [_,_] (Qs (Jh gp) rfl) (w1,w1) (Rt _ _) trivial ?_;simp(disch:=omega)only[ZA,simprocAttr,Qf,Bu,Z,cm];refine .inl (vK.callA [.val (.agg (AF.c m))] rfl m (U5 m) h1 rfl λu=> ?_);simp(disch:=omega)only[ZA,simprocAttr,Qf];refine D1.callA [_,_] (Qs S3.pk rfl) (m,m) (xR _ _) trivial rfl λu2=> ?_
 simp(disch:=omega)only[ZA,simprocAttr,Bu,eqSimF.fv];refine .inl (vK.call [.val (.sl false 1 (l.map Aj))] rfl l (SE l) aj ?_);simp(disch:=omega)only[ZA,simprocAttr,Qf];refine D1.call [_,_] (Qs (JU ol) rfl) (l,l) (wK _ _) trivial ?_;simp(disch:=omega)only[ZA,simprocAttr,Bu,cm,eqInt64SF.fv];refine Th (N:=5) hB (by decide) (by decide) S3 (by omega) λad Q=> ?_
 have Z:hget ad 0=_:=(Q 0 (by omega)).trans Z;have k1:hget ad 1=_:=(Q 1 (by omega)).trans k1;have ol:hget ad 4000035=_:=(Q 4000035 (by omega)).trans ol;have gg:hget ad 4000036=_:=(Q 4000036 (by omega)).trans gg;have gp:hget ad 4000037=_:=(Q 4000037 (by omega)).trans gp;have ga:hget ad 4000056=_:=(Q 4000056 (by omega)).trans ga;obtain⟨y3,y2⟩:=jS hB;obtain⟨m1,hm1⟩: ∃m1,m1=Y9 (m,1)+m.Labels.length:=⟨_,rfl⟩;rw[<-hm1] at y2 y3;simp only[<-hm1];clear Q S3 hm1;simp(disch:=omega)only[ZA,simprocAttr,Bu];refine pN (by omega) (by omega) ol (by omega) λag _ Q=> ?_
 have Z:hget ag 0=_:=(Q 0 (by omega)).trans Z;have k1:hget ag 1=_:=(Q 1 (by omega)).trans k1;have gg:hget ag 4000036=_:=(Q 4000036 (by omega)).trans gg;have gp:hget ag 4000037=_:=(Q 4000037 (by omega)).trans gp;have ga:hget ag 4000056=_:=(Q 4000056 (by omega)).trans ga;clear Q;simp(disch:=omega)only[ZA,simprocAttr,Bu];rw[Ak (by omega)];refine D1.call [_,_] (Qs (JU gg) rfl) (O,O) (TA _ _) trivial ?_;simp(disch:=omega)only[ZA,simprocAttr,Qf,Bu,k1,ga];refine D1.call [_,_] (Qs (Jh gp) rfl) (w1,w1) (Rt _ _) trivial ?_;simp(disch:=omega)only[ZA,simprocAttr,Qf,Bu];refine OM (by decide) (by omega) gg (by omega) λah hj Q=> ?_
 have Z:hget ah 0=_:=(Q 0 (by omega)).trans Z;have k1:hget ah 1=_:=(Q 1 (by omega)).trans k1;have gg:hget ah 4000036=some (true,.arr 72 3 ((Dq (oF 1) O.length).map AD.c)):=hj 0 _ rfl;have gp:hget ah 4000037=_:=(Q 4000037 (by omega)).trans gp;have ga:hget ah 4000056=_:=(Q 4000056 (by omega)).trans ga;clear hj Q;simp(disch:=omega)only[ZA,simprocAttr,Bu,ga];refine OJ (by omega) (by omega) gp (by omega) λai gp Q=> ?_
 have Z:hget ai 0=_:=(Q 0 (by omega)).trans Z;have k1:hget ai 1=_:=(Q 1 (by omega)).trans k1;have gg:hget ai 4000036=_:=(Q 4000036 (by omega)).trans gg;have ga:hget ai 4000056=_:=(Q 4000056 (by omega)).trans ga;clear Q;simp(disch:=omega)only[ZA,simprocAttr,Bu];have an:(0:Int)<=1/\(1:Int)+3*(Dq (oF 1) O.length).length<=1099511627776:=by rw[Wm];omega
 have aq:heldO_.fv (Dq (oF 1) O.length,1)=1+3*O.length:=S9 1 O.length;have am:(0:Int)<=1+3*O.length/\(1:Int)+3*O.length+3*(Dq (pF (1+3*O.length)) w1.Tiles.length).length<=1099511627776:=by rw[Wm];omega
 have ao:heldA_.fv (⟨Dq (pF (1+3*O.length)) w1.Tiles.length⟩,1+3*O.length)=1+3*O.length+3*w1.Tiles.length:=SA _ _;refine D1.call [_,_] (Qs (JU gg) rfl) (Dq (oF 1) O.length,1) (aY _ _) an ?_;simp only[aq];simp(disch:=omega)only[ZA,simprocAttr,Bu,ga];rw[Ad (by omega)];refine D1.call [_,_] (Qs (Jh (a:=⟨Dq (pF (1+3*O.length)) w1.Tiles.length⟩) gp) rfl) (⟨Dq (pF (1+3*O.length)) w1.Tiles.length⟩,1+3*O.length) (aC _ _) am ?_;simp only[ao];simp(disch:=omega)only[ZA,simprocAttr,Bu,Z];rw[Ad (by omega)];refine .inl (vK.call [.val (.agg (AF.c m))] rfl m (U5 m) h1 ?_);simp(disch:=omega)only[ZA,simprocAttr,Qf,Bu];refine .inl (vK.call [.val (.sl false 1 (l.map Aj))] rfl l (SE l) aj ?_);simp(disch:=omega)only[ZA,simprocAttr,Qf,Bu];refine Fg.nw [.val (.agg (AF.c m)),.val (.sl false 1 (l.map Aj)),.val (.int .i64 n)] rfl (m,l,n) (flR m l n) ac (Sy _) (K9 _) λab hH1 z=> ?_
 simp only[<-hw,flI.H1] at hH1⊢;have Z:hget ab 0=_:=(z 0 (by omega)).trans Z;have k1:hget ab 1=_:=(z 1 (by omega)).trans k1;have gg:hget ab 4000036=_:=(z 4000036 (by omega)).trans gg;have gp:hget ab 4000037=_:=(z 4000037 (by omega)).trans gp;have ga:hget ab 4000056=_:=(z 4000056 (by omega)).trans ga;have gh:hget ab 4000057=some (true,.arr 72 3 (O.map AD.c)):=hH1 0 _ rfl;have gq:hget ab 4000058=some (true,.arr 97 3 (w1.Tiles.map Ah.c)):=hH1 1 _ rfl;clear hH1 z;simp only[G9,AV.ren,AJ];simp(disch:=omega)only[ZA,simprocAttr,Bu];generalize hG:((4000077,(true,Ac.cells 38 [AV.own 4000058]))::Bi ab [4000077]:Ao)=HX8;have Z:=pg hG (by omega) Z;have k1:=pg hG (by omega) k1;have gg:=pg hG (by omega) gg;have gp:=pg hG (by omega) gp;have ga:=pg hG (by omega) ga;have gh:=pg hG (by omega) gh;have gq:=pg hG (by omega) gq;have gb:hget HX8 4000077=some (true,.cells 38 [.own 4000058]):=by rw[<-hG];rfl
 clear hG;refine D1.call [_,_] (Qs (JU gh) rfl) (O,O) (TA _ _) trivial ?_;simp(disch:=omega)only[ZA,simprocAttr,Qf,Bu,k1,gb];refine D1.call [_,_] (Qs (Jh gq) rfl) (w1,w1) (Rt _ _) trivial ?_;simp(disch:=omega)only[ZA,simprocAttr,Qf,Bu];refine D1.call [_,_] (Qs (JU gg) rfl) (Dq (oF 1) O.length,1) (aY _ _) an ?_;simp only[aq];simp(disch:=omega)only[ZA,simprocAttr,Bu,ga];rw[Ad (by omega)];refine D1.call [_,_] (Qs (Jh (a:=⟨Dq (pF (1+3*O.length)) w1.Tiles.length⟩) gp) rfl) (⟨Dq (pF (1+3*O.length)) w1.Tiles.length⟩,1+3*O.length) (aC _ _) am ?_;simp only[ao];simp(disch:=omega)only[ZA,simprocAttr,Bu];rw[Ad (by omega)];trivial
end Go.Ae
