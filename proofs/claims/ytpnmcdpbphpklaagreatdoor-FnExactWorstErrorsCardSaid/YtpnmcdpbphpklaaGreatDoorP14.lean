/- Lemmas. Conditions: none. -/
import Derived.Test.YtpnmcdpbphpklaaGreatDoorP13
import Derived.Shelf.Spec.SlicesInsertGrow
set_option linter.all false
set_option maxHeartbeats 8000000
set_option maxRecDepth 100000
namespace Go.Proofs
open Go.Shelf Go.RowKit Go.Lib
def Tryz.pl101:(Tryz.prog.info? 119).map (λi=>(i.zero,i.size,i.bytes))=some (some (.agg #[.int .i64 0,.int .i64 0,.int .i64 0]),3,24):=by kernel_rfl
def xM{P:Program}(w:World)(dT sT ty G:TypeId)(k b o z O:Nat)(a:Addr)(sLen sCap:Nat)(cs:List Value)
 (hu:P.underlying dT=some (.slice G))(hs:(P.info? G).map (·.size)=some k)(hn:cs.length=Nat.min sLen z*k)
 (Q: ∀j v,cs[j]? =some v->w.cell? (a.add j)=some v)(hc: ∀j,j<cs.length->(w.cell? ⟨b,o+j,none⟩).isSome=true)(hf: ∀j,j<cs.length->w.frozen? ⟨b,o+j,none⟩=false)(h1: ∀v∈cs,v.oneCell'=true):
 (Builtin.copy_ #[dT,sT] ty #[.slice (some ⟨b,o,none⟩) z O,.slice (some a) sLen sCap]).run P w= .ok (goInt (Nat.min sLen z)) (w.setCells b o cs):=by
 have hl:=run_loadCells_list (P:=P) w a cs Q;have Z:=run_storeCells_cells (P:=P) b o cs 0 w (by simpa using hc) (by simpa using hf) h1;cases hq:P.info? G with
 |none=>simp[hq] at hs
 |some i=>
  have hi:i.size=k:=by simpa[hq] using hs
  simp[Builtin.copy_,run_underlying hu,Builtin.lenOf,Builtin.firstCells,sizeOf,typeInfo,hq,hi,<-hn,hl,Z]
def jM(b:Nat): ∀(vs:List Value) (o:Nat) (w:World) (cv:Array Value) (T:TypeId) (G:Nat×Nat),w.heap[b]? =some (.cells cv T G)->o+vs.length<=cv.size->
 (∃z,(w.setCells b o vs).heap[b]? =some (.cells z T G)/\z.toList=cv.toList.take o++vs++cv.toList.drop (o+vs.length))
 |[],o,w,cv,T,G,h,_=>⟨cv,h,by simp⟩
 |v::r,o,w,cv,T,G,h,Z=>by
  simp only[Cr] at Z;have Q:(w.setCell ⟨b,o,none⟩ v).heap[b]? =some (.cells (cv.setIfInBounds o v) T G):=by
   simp only[World.setCell,fB,BF,h];rfl
  obtain⟨z,g1,g2⟩:=jM b r (o+1) _ _ T G Q (by simp;omega);refine⟨z,g1,?_⟩;rw[g2,Zdt,List.take_set,List.drop_set];have O:(cv.toList.take (o+1)).set o v=cv.toList.take o++[v]:=by
   rw[G9,Bd (by simp;omega),WZ,fD _ _ (by simp;omega)]
   have:o - (cv.toList.take o).length=0:=by simp;omega
   rw[this];rfl
  rw[O,Ai (by omega)];simp only[E0,List.singleton_append,CW,Fb,Cr];rw[show o+1+r.length=o+(r.length+1) by omega]
def jK(b:Nat): ∀(vs:List Value) (o:Nat) (w:World) (x:Nat),x≠b->(w.setCells b o vs).heap[x]? =w.heap[x]?
 |[],_,_,_,_=>rfl
 |v::r,o,w,x,h=>by
  rw[World.setCells,jK b r _ _ x h];simp only[World.setCell,fB];rw[Ad (λe=>h e.symm)]
def jL(b:Nat): ∀(vs:List Value) (o:Nat) (w:World),(w.setCells b o vs).heap.size=w.heap.size/\(w.setCells b o vs).os=w.os/\(w.setCells b o vs).tape=w.tape/\(w.setCells b o vs).output=w.output
 |[],_,_=>⟨rfl,rfl,rfl,rfl⟩
 |v::r,o,w=>by
  obtain⟨z,G,O,Q⟩:=jL b r (o+1) (w.setCell ⟨b,o,none⟩ v);exact⟨by rw[World.setCells,z];simp[World.setCell],G,O,Q⟩
def N3(b:Nat): ∀(vs:List Value) (o:Nat) (w:World),(w.setCells b o vs).drawn=w.drawn
 |[],_,_=>rfl
 |v::r,o,w=>(N3 b r (o+1) (w.setCell ⟨b,o,none⟩ v)).trans rfl
structure WF(w w':World)(b n:Nat)(T:TypeId)(k:Nat)(cs:List Value)(b' off' c':Nat):Prop where
 cap:n<=c'
 wh:b'=b\/b'=w.heap.size
 size:w.heap.size<=w'.heap.size
 lt:b'<w'.heap.size
 os:w'.os=w.os
 tape:w'.tape=w.tape
 output:w'.output=w.output
 dr:w.drawn<=w'.drawn
 keep: ∀x,x<w.heap.size->x≠b->w'.heap[x]? =w.heap[x]?
 row: ∃cv,w'.heap[b']? =some (.cells cv T (0,0))/\off'+c'*k<=cv.size/\ ∃r,cv.toList.drop off'=cs++r
structure Ij(w:World)(b off n c vb voff:Nat)(cs vs:List Value):Prop where
 hcl:cs.length=n*3
 hvl:vs.length=3
 hnc:n<=c
 hn:n<=100000
 hvb:vb≠b
 hcs: ∀j v,cs[j]? =some v->w.cell? ⟨b,off+j,none⟩=some v
 hsp: ∀j,j<c*3->(w.cell? ⟨b,off+j,none⟩).isSome=true
 hfz: ∀x j,x=b\/x=vb->w.frozen? ⟨x,j,none⟩=false
 hvs: ∀j v,vs[j]? =some v->w.cell? ⟨vb,voff+j,none⟩=some v
 h1c: ∀v∈cs,v.oneCell'=true
 h1v: ∀v∈vs,v.oneCell'=true
 sa: ∃tA kA,w.shape? vb=some (tA,kA)
 sb: ∃tB kB,w.shape? b=some (tB,kB)/\kB≠0
def Tryz.ins_shift{w:World}{b off n c vb voff:Nat}{cs vs:List Value}(H:Ij w b off n c vb voff cs vs)(i:Nat)(hi:i<n)(aj:n+1<=c)(vc:Nat):
 Calls Tryz.prog 121 #[.slice (some ⟨b,off,none⟩) n c,.int .i64 i,.slice (some ⟨vb,voff,none⟩) 1 vc] w λe w'=>
  e= .returned (.slice (some ⟨b,off,none⟩) (n+1) c)/\w'=(w.drew.setCells b (off+(i+1)*3) (cs.drop (i*3))).setCells b (off+i*3) vs:=by
 obtain⟨hcl,hvl,hnc,hn,hvb,hcs,hsp,hfz,hvs,h1c,h1v,⟨tA,kA,ak⟩,tB,kB,am,ah⟩:=H;have az: ¬((i:Int)=(n:Int)):=by omega
 have ad:(Tryz.prog.info? 119).map (·.size)=some 3:=by kernel_rfl
 have Q:Tryz.prog.underlying 39=some (.slice 119):=by kernel_rfl
 have ai: ∀lb cb,(callFunc 173 #[.slice (some ⟨vb,voff,none⟩) 1 vc,.slice (some ⟨b,off+(i+1)*3,none⟩) lb cb]).run Tryz.prog w= .ok (.value (.bool false)) w:=λlb cb=>by
  rw[run_callFunc_extern Tryz.func173 (by kernel_rfl) (by kernel_rfl) (by kernel_rfl) (e:=Extern.SlicesOverlaps.overlaps #[39,39] #[4]) (by kernel_rfl),
   Lib.run_overlaps_apart w 39 4 119 Q 3 Tryz.sizeOf119 ⟨vb,voff,none⟩ ⟨b,off+(i+1)*3,none⟩ 1 vc lb cb hvb tA tB kA kB ak am ah (hfz _ _ (.inr rfl)) (hfz _ _ (.inr rfl))]
  rfl
 have ag:(cs.drop (i*3)).length=n*3 - i*3:=by rw[Ch,hcl]
 have z: ∀ty O sc,(Builtin.copy_ #[39,39] ty #[.slice (some ⟨b,off+(i+1)*3,none⟩) (n - i) O,.slice (some ⟨b,off+i*3,none⟩) (n+1 - i) sc]).run Tryz.prog w.drew= .ok (goInt (Nat.min (n+1 - i) (n - i))) (w.drew.setCells b (off+(i+1)*3) (cs.drop (i*3))):=λty O sc=>
  xM w.drew _ _ ty 119 3 b (off+(i+1)*3) (n - i) O ⟨b,off+i*3,none⟩ (n+1 - i) sc (cs.drop (i*3)) Q ad (by rw[ag];simp only[ZfA];split<;>omega)
   (λj v G=>by rw[Addr.add_lit,I4];exact hcs (i*3+j) v (by rwa [Ez] at G))
   (λj G=>by rw[I4];exact hsp _ (by omega)) (λj G=>hfz _ _ (.inl rfl)) (λv hv=>h1c v (ZdT hv))
 obtain⟨Z,hW1⟩: ∃Z,Z=w.drew.setCells b (off+(i+1)*3) (cs.drop (i*3)):=⟨_,rfl⟩;have ac: ∀k,k<c*3->(Z.cell? ⟨b,off+k,none⟩).isSome=true:=λk hk=>by
  rw[hW1];exact isSome_setCells b _ _ _ (λj G=>by rw[I4];exact hsp _ (by omega)) _ (hsp k hk)
 have ab: ∀(W:World),(∀x,W.cell? x=Z.cell? x)->(∀x,W.frozen? x=Z.frozen? x)-> ∀ty O,(Builtin.copy_ #[39,39] ty #[.slice (some ⟨b,off+i*3,none⟩) (n+1 - i) O,.slice (some ⟨vb,voff,none⟩) 1 vc]).run Tryz.prog W= .ok (goInt (Nat.min 1 (n+1 - i))) (W.setCells b (off+i*3) vs):=λW aa af ty O=>
  xM W _ _ ty 119 3 b (off+i*3) (n+1 - i) O ⟨vb,voff,none⟩ 1 vc vs Q ad (by rw[hvl];simp only[ZfA];split<;>omega)
   (λj v G=>by
    rw[Addr.add_lit,aa,hW1,World.cell?_setCells_out b _ _ _ _ (λh _=>absurd h hvb)];exact hvs j v G)
   (λj G=>by rw[aa,I4];exact ac _ (by omega)) (λj G=>by rw[af,hW1,World.frozen?_setCells];exact hfz _ _ (.inl rfl)) h1v
 rw[<-hW1] at z;have ax:IntKind.i64.wrap ((i:Int)+1)=(i:Int)+1:=by rw[IntKind.wrap_i64];omega
 have ay:IntKind.i64.wrap ((n:Int)+1)=(n:Int)+1:=by rw[IntKind.wrap_i64];omega
 have an:(0:Int)<=(i:Int)+1:=by omega
 have av:i<=n:=by omega
 have aw:((i:Int)+1).toNat=i+1:=by omega
 have ao: ¬(c=i+1):=by omega
 have aq:(i:Int)<=(n:Int)+1:=by omega
 have au: ¬(c=i):=by omega
 have CS:Tryz.prog.follows .mixedOrders=true:=by kernel_rfl
 go_enter Tryz.func121,Tryz.ntmps121
 go_wp2_with (simp only[ai])
 go_region_law_o (refine step_copy_runI rfl _ _ 39 39 rfl _ _ (by simp[Act.eval,Act.put]) (by simp[Act.eval,Act.put]) (z _ _ _) ?_)
 go_wp2_with (at_builtin;refine wpList_copy_runI _ rfl _ _ 39 39 rfl _ _ rfl rfl (ab _ (λ_=>rfl) (λ_=>rfl) _ _) ?_)
 go_ret
 first|exact⟨rfl,rfl⟩|exact⟨rfl,by rw[hW1]⟩
def Tryz.insSrc{w:World}{b off n c vb voff:Nat}{cs vs:List Value}(H:Ij w b off n c vb voff cs vs)(z:Nat):Src Tryz.prog 3 39 (.slice (some ⟨vb,voff,none⟩) 1 z) 1 vs w:=
 Src.ofSlice w (show Tryz.prog.underlying 39=some (.slice 119) by kernel_rfl) ⟨vb,voff,none⟩ 1 z vs (by rw[H.hvl]) (λj u G=>by rw[Addr.add_lit];exact H.hvs j u G) H.h1v
def Tryz.ins_end_room{w:World}{b off n c vb voff:Nat}{cs vs:List Value}(H:Ij w b off n c vb voff cs vs)(O:n+1<=c)(vc:Nat):
 Calls Tryz.prog 121 #[.slice (some ⟨b,off,none⟩) n c,.int .i64 n,.slice (some ⟨vb,voff,none⟩) 1 vc] w λe w'=>
  e= .returned (.slice (some ⟨b,off,none⟩) (n+1) c)/\w'=w.setCells b (off+n*3) vs:=by
 obtain⟨i0,Q,aa,z,ab⟩:=info_parts Tryz.pl101;have ac:Tryz.prog.underlying 39=some (.slice 119):=by kernel_rfl
 have G:=Tryz.insSrc H vc;have hsp:=H.hsp;have hfz:=H.hfz;have hvl:=H.hvl;have Z: ∀ty,(Builtin.append_ #[39,39] ty #[.slice (some ⟨b,off,none⟩) n c,.slice (some ⟨vb,voff,none⟩) 1 vc]).run Tryz.prog w= .ok (.slice (some ⟨b,off,none⟩) (n+1) c) (w.setCells b (off+n*3) vs):=λty=>by
  have:=run_append_room_src w 39 39 ty 119 i0 ac Q b off n c (.slice (some ⟨vb,voff,none⟩) 1 vc) 1 vs (by rw[z];exact G) O
   (λj hj=>by rw[z,I4];exact hsp _ (by omega)) (λj hj=>hfz _ _ (.inl rfl))
  rwa [z] at this
 clear G Q aa z ab
 go_enter Tryz.func121,Tryz.ntmps121
 go_wp2_with (at_builtin;refine Lib.wpList_append_run _ rfl _ _ _ _ rfl _ _ rfl rfl _ _ (Z _) ?_)
 go_ret
 exact⟨rfl,rfl⟩
def Tryz.ins_end_grow{w:World}{base:Option Addr}{n c vb voff:Nat}{cs vs:List Value}(hcl:cs.length=n*3)(hvl:vs.length=3)(hnc:n<=c)(hn:n<=100000)(z:c<n+1)(G:base=none->n=0)
 (hcs: ∀a,base=some a-> ∀j v,cs[j]? =some v->w.cell? (a.add j)=some v)
 (hvs: ∀j v,vs[j]? =some v->w.cell? ⟨vb,voff+j,none⟩=some v)(h1v: ∀v∈vs,v.oneCell'=true)(vc:Nat):
 Calls Tryz.prog 121 #[.slice base n c,.int .i64 n,.slice (some ⟨vb,voff,none⟩) 1 vc] w λe w'=>
  e= .returned (.slice (some ⟨w.heap.size,0,none⟩) (n+1) (grownCap w (n+1) c 119))/\
  w'=w.drew.alloc (.cells ((cs++vs).toArray++Builtin.zeroCells #[.int .i64 0,.int .i64 0,.int .i64 0] (grownCap w (n+1) c 119 - (n+1))) 119):=by
 obtain⟨i0,ac,ad,aa,af⟩:=info_parts Tryz.pl101;have ag:Tryz.prog.underlying 39=some (.slice 119):=by kernel_rfl
 have Z:Src Tryz.prog 3 39 (.slice (some ⟨vb,voff,none⟩) 1 vc) 1 vs w:=
  Src.ofSlice w ag ⟨vb,voff,none⟩ 1 vc vs (by rw[hvl]) (λj u hj=>by rw[Addr.add_lit];exact hvs j u hj) h1v
 have O:(Builtin.firstCells i0.size n (.slice base n c)).run Tryz.prog w.drew= .ok cs.toArray w.drew:=by
  rw[aa];cases base with
  |none=>
   have h0:=G rfl;subst h0;rw[Ra.1 (by omega:cs.length=0)];exact run_firstCells_none w.drew 3 0 0 c
  |some a=>exact run_firstCells_some w.drew 3 n a n c cs hcl (λj v hj=>hcs a rfl j v hj)
 have Q: ∀ty,(Builtin.append_ #[39,39] ty #[.slice base n c,.slice (some ⟨vb,voff,none⟩) 1 vc]).run Tryz.prog w= .ok (.slice (some ⟨w.heap.size,0,none⟩) (n+1) (grownCap w (n+1) c 119)) (w.drew.alloc (.cells ((cs++vs).toArray++Builtin.zeroCells #[.int .i64 0,.int .i64 0,.int .i64 0] (grownCap w (n+1) c 119 - (n+1))) 119)):=λty=>
  run_append_grow_src w 39 39 ty 119 i0 _ ag ac ad base n c cs O _ 1 vs (by rw[aa];exact Z) z (by omega) (by rw[af];exact growslice_fits z (by omega))
 clear Z ac ad aa af O
 go_enter Tryz.func121,Tryz.ntmps121
 cases base with
 |none=>
  have h0:=G rfl;subst h0
  go_wp2_with (at_builtin;refine Lib.wpList_append_run _ rfl _ _ _ _ rfl _ _ rfl rfl _ _ (Q _) ?_)
  go_ret
  exact⟨rfl,rfl⟩
 |some a=>
  obtain⟨ab,ao,ah⟩:=a
  go_wp2_with (at_builtin;refine Lib.wpList_append_run _ rfl _ _ _ _ rfl _ _ rfl rfl _ _ (Q _) ?_)
  all_goals (go_ret;exact⟨rfl,rfl⟩)
def z3:Array Value:= #[.int .i64 0,.int .i64 0,.int .i64 0]
def Tryz.ins_grow{w:World}{b off n c vb voff:Nat}{cs vs:List Value}(H:Ij w b off n c vb voff cs vs)(i:Nat)(hi:i<n)(ag:c<n+1)(vc:Nat):
 Calls Tryz.prog 121 #[.slice (some ⟨b,off,none⟩) n c,.int .i64 i,.slice (some ⟨vb,voff,none⟩) 1 vc] w λe w'=>
  e= .returned (.slice (some ⟨w.heap.size,0,none⟩) (n+1) (grownCap w (n+1) c 119))/\
  w'=(((w.alloc (.cells ((cs.take (i*3)).toArray++Builtin.zeroCells z3 (n+1 - i)++Builtin.zeroCells z3 (grownCap w (n+1) c 119 - (n+1))) 119)).drew.setCells w.heap.size (i*3) vs).drew).setCells w.heap.size ((i+1)*3) (cs.drop (i*3)):=by
 obtain⟨hcl,hvl,hnc,hn,hvb,hcs,hsp,hfz,hvs,h1c,h1v,_,_⟩:=H;obtain⟨i0,an,aq,au,ai⟩:=info_parts Tryz.pl101;have aj:Tryz.prog.underlying 39=some (.slice 119):=by kernel_rfl
 have u3:Tryz.prog.underlying 3=some (.int .i64):=by kernel_rfl
 have bq: ¬((i:Int)=(n:Int)):=by omega
 have br:(c:Int)<(n:Int)+1:=by omega
 have ah:(Tryz.prog.info? 119).map (·.size)=some 3:=by kernel_rfl
 have ba:b<w.heap.size:=block_lt_of_cell (hcs 0 _ (Bd (by omega)));have bc:vb<w.heap.size:=block_lt_of_cell (hvs 0 _ (Bd (by omega)));have ao:(n:Int)+1 - (i:Int)=((n+1 - i:Nat):Int):=by omega
 have af:i+(n+1 - i)=n+1:=by omega
 have ac:(Builtin.firstCells i0.size i (.slice (some ⟨b,off,none⟩) i c)).run Tryz.prog w.drew= .ok (cs.take (i*3)).toArray w.drew:=by
  rw[au];exact run_firstCells_some w.drew 3 i ⟨b,off,none⟩ i c (cs.take (i*3)) (by rw[Bw];omega) (λj v O=>by
   rw[Addr.add_lit];rw[KM] at O;split at O
   .exact hcs j v O
   .cases O)
 have aa: ∀ty,(Builtin.append_ #[39,3] ty #[.slice (some ⟨b,off,none⟩) i c,.int .i64 ((n:Int)+1 - (i:Int))]).run Tryz.prog w=
  .ok (.slice (some ⟨w.heap.size,0,none⟩) (n+1) (grownCap w (n+1) c 119)) (w.drew.alloc (.cells ((cs.take (i*3)).toArray++Builtin.zeroCells z3 (n+1 - i)++Builtin.zeroCells z3 (grownCap w (n+1) c 119 - (n+1))) 119)):=λty=>by
  have h:=Lib.run_append_grow_zeros w 39 3 ty 119 i0 _ .i64 .i64 aj u3 an aq (some ⟨b,off,none⟩) i c (cs.take (i*3)) ac (n+1 - i) (by omega) (by omega) (by omega) (by omega) (by rw[ai];omega) (by rw[ai,af];exact growslice_fits ag (by omega));rw[af] at h;rw[ao];exact h
 obtain⟨G,hG⟩: ∃G,G=grownCap w (n+1) c 119:=⟨_,rfl⟩;obtain⟨z,hROW⟩: ∃z:Array Value,z=(cs.take (i*3)).toArray++Builtin.zeroCells z3 (n+1 - i)++Builtin.zeroCells z3 (G - (n+1)):=⟨_,rfl⟩;rw[<-hG] at aa⊢;rw[<-hROW] at aa⊢;have a8:(n+1)*3<=z.size:=by
  rw[hROW];simp[Builtin.zeroCells,z3];omega
 obtain⟨Z,hW1⟩: ∃Z,Z=w.drew.alloc (.cells z 119):=⟨_,rfl⟩;rw[<-hW1] at aa;have hN: ∀j,j<(n+1)*3->(Z.cell? ⟨w.heap.size,j,none⟩).isSome=true:=λj O=>by
  rw[hW1,World.cell?_alloc_at (w:=w.drew) z _ w.heap.size j rfl,GR (by omega)];rfl
 have ak: ∀j,Z.frozen? ⟨w.heap.size,j,none⟩=false:=λj=>by rw[hW1];exact World.frozen?_alloc_at (w:=w.drew) z _ w.heap.size j rfl
 have az: ∀j v,w.cell? ⟨b,j,none⟩=some v->Z.cell? ⟨b,j,none⟩=some v:=λj v h=>by rw[hW1,World.cell?_alloc_past (w:=w.drew) _ b j ba];exact h
 have a0: ∀j v,w.cell? ⟨vb,j,none⟩=some v->Z.cell? ⟨vb,j,none⟩=some v:=λj v h=>by rw[hW1,World.cell?_alloc_past (w:=w.drew) _ vb j bc];exact h
 have am: ∀(W:World),(∀x,W.cell? x=Z.cell? x)->(∀x,W.frozen? x=Z.frozen? x)-> ∀ty dc,(Builtin.copy_ #[39,39] ty #[.slice (some ⟨w.heap.size,i*3,none⟩) (n+1 - i) dc,.slice (some ⟨vb,voff,none⟩) 1 vc]).run Tryz.prog W= .ok (goInt (Nat.min 1 (n+1 - i))) (W.setCells w.heap.size (i*3) vs):=λW Q ad ty dc=>
  xM W _ _ ty 119 3 w.heap.size (i*3) (n+1 - i) dc ⟨vb,voff,none⟩ 1 vc vs aj ah (by rw[hvl];simp only[ZfA];split<;>omega)
   (λj v O=>by rw[Addr.add_lit,Q];exact a0 _ v (hvs j v O))
   (λj O=>by rw[Q];exact hN _ (by omega)) (λj O=>by rw[ad];exact ak _) h1v
 have bg:n+1<=G:=by rw[hG];exact grownCap_ge w _ _ _
 have bd:G<=9223372036854775807:=by
  have:=grownCap_le_maxLen w (n+1) c 119 (by unfold maxLen;omega)
  rw[<-hG] at this;unfold maxLen at this;omega
 have bf: ¬(G=i):=by omega
 have be: ¬(G=i+1):=by omega
 have bj: ¬(c=i):=by omega
 have a9:b≠w.heap.size:=by omega
 have bb:(cs.drop (i*3)).length=n*3 - i*3:=by rw[Ch,hcl]
 have ab: ∀(W:World),(∀x,W.cell? x=(Z.setCells w.heap.size (i*3) vs).cell? x)->(∀x,W.frozen? x=(Z.setCells w.heap.size (i*3) vs).frozen? x)-> ∀ty dc sc,(Builtin.copy_ #[39,39] ty #[.slice (some ⟨w.heap.size,(i+1)*3,none⟩) (n - i) dc,.slice (some ⟨b,off+i*3,none⟩) (n - i) sc]).run Tryz.prog W= .ok (goInt (Nat.min (n - i) (n - i))) (W.setCells w.heap.size ((i+1)*3) (cs.drop (i*3))):=λW Q ad ty dc sc=>
  xM W _ _ ty 119 3 w.heap.size ((i+1)*3) (n - i) dc ⟨b,off+i*3,none⟩ (n - i) sc (cs.drop (i*3)) aj ah (by rw[bb];simp only[ZfA];split<;>omega)
   (λj v O=>by
    rw[Addr.add_lit,Q,World.cell?_setCells_out _ _ _ _ _ (λh _=>absurd h a9),I4];exact az _ v (hcs (i*3+j) v (by rwa [Ez] at O)))
   (λj O=>by rw[Q];exact isSome_setCells _ _ _ _ (λt ht=>hN _ (by omega)) _ (hN _ (by omega)))
   (λj O=>by rw[ad,World.frozen?_setCells];exact ak _) (λv hv=>h1c v (ZdT hv))
 subst hW1;have av: ∀x,((w.alloc (.cells z 119)).drew).cell? x=(w.drew.alloc (.cells z 119)).cell? x:=λx=>rfl
 have aw: ∀x,((w.alloc (.cells z 119)).drew).frozen? x=(w.drew.alloc (.cells z 119)).frozen? x:=λx=>rfl
 have ax: ∀x,(((w.alloc (.cells z 119)).drew.setCells w.heap.size (i*3) vs).drew).cell? x=((w.drew.alloc (.cells z 119)).setCells w.heap.size (i*3) vs).cell? x:=λx=>rfl
 have ay: ∀x,(((w.alloc (.cells z 119)).drew.setCells w.heap.size (i*3) vs).drew).frozen? x=((w.drew.alloc (.cells z 119)).setCells w.heap.size (i*3) vs).frozen? x:=λx=>rfl
 have bn:IntKind.i64.wrap ((i:Int)+1)=(i:Int)+1:=by rw[IntKind.wrap_i64];omega
 have bo:IntKind.i64.wrap ((n:Int)+1)=(n:Int)+1:=by rw[IntKind.wrap_i64];omega
 have bp:IntKind.i64.wrap ((n:Int)+1 - (i:Int))=(n:Int)+1 - (i:Int):=by rw[IntKind.wrap_i64];omega
 have bh:(0:Int)<=(i:Int)+1:=by omega
 have bl:i<=n:=by omega
 have bm:((i:Int)+1).toNat=i+1:=by omega
 have bi:(i:Int)<=(n:Int):=by omega
 have CS:Tryz.prog.follows .mixedOrders=true:=by kernel_rfl
 clear ao af ac hROW hG a8 ah an aq au ai
 go_enter Tryz.func121,Tryz.ntmps121
 go_wp2_with (first
  |(at_builtin;refine Lib.wpList_append_run _ rfl _ _ _ _ rfl _ _ rfl rfl _ _ (aa _) ?_)
  |(at_builtin;refine wpList_copy_runI _ rfl _ _ 39 39 rfl _ _ rfl rfl (am _ av aw _ _) ?_)
  |(at_builtin;refine wpList_copy_runI _ rfl _ _ 39 39 rfl _ _ rfl rfl (ab _ (λ_=>rfl) (λ_=>rfl) _ _ _) ?_))
 go_region_law_o (refine step_copy_runI rfl _ _ 39 39 rfl (.slice (some ⟨w.heap.size,(i+1)*3,none⟩) (n - i) (G - (i+1))) (.slice (some ⟨b,off+i*3,none⟩) (n - i) (c - i)) (by simp[Act.eval,Act.put]) (by simp[Act.eval,Act.put]) (ab _ ax ay 3 (G - (i+1)) (c - i)) ?_)
 go_wp2
 go_ret
 exact⟨rfl,rfl⟩
def Qyy{A:Type}{L cs r0:List A}{off:Nat}(h:L.drop off=cs++r0)(z:off<=L.length)(j:Nat)(G:j<=cs.length):L.take (off+j)=L.take off++cs.take j:=by
 rw[ZN,h,Zdl G]
def WF.here{w w':World}{b n T k off c:Nat}{cs:List Value}(hb:b<w.heap.size)(hn:n<=c)(h1:w'.heap.size=w.heap.size)(z:w'.os=w.os)(G:w'.tape=w.tape)(O:w'.output=w.output)(hd:w.drawn<=w'.drawn)
 (Q: ∀x,x≠b->w'.heap[x]? =w.heap[x]?)(Z: ∃cv,w'.heap[b]? =some (.cells cv T (0,0))/\off+c*k<=cv.size/\ ∃r,cv.toList.drop off=cs++r):WF w w' b n T k cs b off c:=
 ⟨hn,.inl rfl,by omega,by omega,z,G,O,hd,λx _ hx=>Q x hx,Z⟩
section
variable {w:World}{b off n c:Nat}{cs vs:List Value}{cv:Array Value}
def OL(hb:b<w.heap.size)(ab:w.heap[b]? =some (.cells cv 119 (0,0)))(af:off+c*3<=cv.size){r0:List Value}(hr:cv.toList.drop off=cs++r0)(hcl:cs.length=n*3)(hvl:vs.length=3)(i:Nat)(hi:i<n)(G:n+1<=c):
 WF w ((w.drew.setCells b (off+(i+1)*3) (cs.drop (i*3))).setCells b (off+i*3) vs) b (n+1) 119 3 (cs.take (i*3)++vs++cs.drop (i*3)) b off c:=by
 have Q:w.drew.heap[b]? =some (.cells cv 119 (0,0)):=ab;have ad:(cs.drop (i*3)).length=n*3 - i*3:=by rw[Ch,hcl]
 obtain⟨z,a1,a2⟩:=jM b (cs.drop (i*3)) (off+(i+1)*3) w.drew cv 119 (0,0) Q (by omega);have Z:z.toList.length=cv.size:=by
  rw[a2];simp only[BQ,Bw,Ch,Dm];omega
 obtain⟨O,b1,b2⟩:=jM b vs (off+i*3) _ z 119 (0,0) a1 (by rw[Dm] at Z;omega);have ac:O.toList.length=cv.size:=by
  rw[b2];simp only[BQ,Bw,Ch,Z];omega
 obtain⟨r1,r2,r3,r4⟩:=jL b (cs.drop (i*3)) (off+(i+1)*3) w.drew;obtain⟨s1,s2,s3,s4⟩:=jL b vs (off+i*3) (w.drew.setCells b (off+(i+1)*3) (cs.drop (i*3)));refine WF.here hb G (s1.trans r1) (s2.trans r2) (s3.trans r3) (s4.trans r4) (by rw[N3,N3];exact Rj _) (λx hx=>(jK b _ _ _ x hx).trans (jK b _ _ _ x hx)) ⟨O,b1,by rw[Dm] at ac;omega,cv.toList.drop (off+(i+1)*3+(cs.drop (i*3)).length),?_⟩;have aa:off<=cv.toList.length:=by rw[Dm];omega
 have e1:z.toList.take (off+i*3)=cv.toList.take off++cs.take (i*3):=by
  rw[a2,E0,Zdl (by rw[Bw,Dm];omega),Zfz,show min (off+i*3) (off+(i+1)*3)=off+i*3 by omega];exact Qyy hr aa _ (by omega)
 have e2:z.toList.drop (off+i*3+vs.length)=cs.drop (i*3)++cv.toList.drop (off+(i+1)*3+(cs.drop (i*3)).length):=by
  rw[a2,hvl,E0,fF (by rw[Bw,Dm];omega),CO (by rw[Bw];omega),Fb]
 rw[b2,e1,e2,E0,E0,fF (by rw[Bw];omega),CO (by rw[Bw];omega),Fb];simp only[E0]
def Qtv(hb:b<w.heap.size)(Q:w.heap[b]? =some (.cells cv 119 (0,0)))(aa:off+c*3<=cv.size){r0:List Value}(hr:cv.toList.drop off=cs++r0)(hcl:cs.length=n*3)(hvl:vs.length=3)(z:n+1<=c):
 WF w (w.setCells b (off+n*3) vs) b (n+1) 119 3 (cs.take (n*3)++vs++cs.drop (n*3)) b off c:=by
 obtain⟨G,a1,a2⟩:=jM b vs (off+n*3) w cv 119 (0,0) Q (by omega);have Z:G.toList.length=cv.size:=by
  rw[a2];simp only[BQ,Bw,Ch,Dm];omega
 obtain⟨r1,r2,r3,r4⟩:=jL b vs (off+n*3) w;refine WF.here hb z r1 r2 r3 r4 (by rw[N3];exact AF _) (λx hx=>jK b _ _ _ x hx) ⟨G,a1,by rw[Dm] at Z;omega,cv.toList.drop (off+n*3+vs.length),?_⟩;have O:off<=cv.toList.length:=by rw[Dm];omega
 rw[a2,Qyy hr O _ (by omega),E0,E0,fF (by rw[Bw];omega),CO (by rw[Bw];omega),Fb];rw[CO (show cs.length<=n*3 by omega),CC];simp only[E0]
def Qye(k:Nat):(Builtin.zeroCells z3 k).size=k*3:=by simp[Builtin.zeroCells,z3]
def Qme(hb:b<=w.heap.size)(hcl:cs.length=n*3)(hvl:vs.length=3){G:Nat}(hG:n+1<=G):
 WF w (w.drew.alloc (.cells ((cs++vs).toArray++Builtin.zeroCells #[.int .i64 0,.int .i64 0,.int .i64 0] (G - (n+1))) 119)) b (n+1) 119 3 (cs.take (n*3)++vs++cs.drop (n*3)) w.heap.size 0 G:=by
 have hz:=Qye (G - (n+1));obtain⟨z,hROW⟩: ∃z:Array Value,z=(cs++vs).toArray++Builtin.zeroCells #[.int .i64 0,.int .i64 0,.int .i64 0] (G - (n+1)):=⟨_,rfl⟩;rw[<-hROW];have Q:0+G*3<=z.size:=by
  rw[hROW,ZeY,VA,BQ,hcl,hvl];show 0+G*3<=n*3+3+(Builtin.zeroCells z3 (G - (n+1))).size;omega
 have O:z.toList.drop 0=cs.take (n*3)++vs++cs.drop (n*3)++(Builtin.zeroCells #[.int .i64 0,.int .i64 0,.int .i64 0] (G - (n+1))).toList:=by
  rw[hROW,FR,mC,DP (show cs.length<=n*3 by omega),CO (show cs.length<=n*3 by omega),CC]
 have hS:(w.drew.alloc (.cells z 119)).heap.size=w.heap.size+1:=by simp only[World.alloc,World.drew,Array.size_push]
 refine⟨hG,.inr rfl,by omega,by omega,rfl,rfl,rfl,Rj _,λx Z _=> ?_,z,?_,Q,_,O⟩
 .simp only[World.alloc,World.drew];rw[Zfi Z,GR Z]
 .simp only[World.alloc,World.drew];exact ZeX
def T7(hb:b<w.heap.size)(hcl:cs.length=n*3)(hvl:vs.length=3)(i:Nat)(hi:i<n){G:Nat}(hG:n+1<=G):
 WF w ((((w.alloc (.cells ((cs.take (i*3)).toArray++Builtin.zeroCells z3 (n+1 - i)++Builtin.zeroCells z3 (G - (n+1))) 119)).drew.setCells w.heap.size (i*3) vs).drew).setCells w.heap.size ((i+1)*3) (cs.drop (i*3))) b (n+1) 119 3 (cs.take (i*3)++vs++cs.drop (i*3)) w.heap.size 0 G:=by
 obtain⟨z,hROW⟩: ∃z:Array Value,z=(cs.take (i*3)).toArray++Builtin.zeroCells z3 (n+1 - i)++Builtin.zeroCells z3 (G - (n+1)):=⟨_,rfl⟩;rw[<-hROW];have ad:=Qye (n+1 - i);have af:=Qye (G - (n+1));have ag:z.size=G*3:=by
  rw[hROW,ZeY,ZeY,VA,Bw,ad,af];omega
 have ab:z.toList.take (i*3)=cs.take (i*3):=by
  rw[hROW,mC,mC,E0,Zdl (by rw[Bw];omega),Zfz,Nat.min_self]
 have ah:(cs.drop (i*3)).length=n*3 - i*3:=by rw[Ch,hcl]
 have h0:(w.alloc (.cells z 119)).drew.heap[w.heap.size]? =some (.cells z 119 (0,0)):=by
  simp only[World.alloc,World.drew];exact ZeX
 obtain⟨O,a1,a2⟩:=jM w.heap.size vs (i*3) _ z 119 (0,0) h0 (by omega);have Z:O.toList.length=z.size:=by
  rw[a2];simp only[BQ,Bw,Ch,Dm];omega
 have aa:((w.alloc (.cells z 119)).drew.setCells w.heap.size (i*3) vs).drew.heap[w.heap.size]? =some (.cells O 119 (0,0)):=a1;obtain⟨Q,b1,b2⟩:=jM w.heap.size (cs.drop (i*3)) ((i+1)*3) _ O 119 (0,0) aa (by rw[Dm] at Z;omega);have ac:Q.toList.length=z.size:=by
  rw[b2];simp only[BQ,Bw,Ch,Z];omega
 obtain⟨r1,r2,r3,r4⟩:=jL w.heap.size vs (i*3) (w.alloc (.cells z 119)).drew;obtain⟨s1,s2,s3,s4⟩:=jL w.heap.size (cs.drop (i*3)) ((i+1)*3) ((w.alloc (.cells z 119)).drew.setCells w.heap.size (i*3) vs).drew;have hs:((w.alloc (.cells z 119)).drew).heap.size=w.heap.size+1:=by simp only[World.alloc,World.drew,Array.size_push]
 have hS:=s1.trans (r1.trans hs);refine⟨hG,.inr rfl,by omega,by omega,s2.trans r2,s3.trans r3,s4.trans r4,by rw[N3];exact BR (BR (Rj _) (uX (N3 _ vs _ (w.alloc (.cells z 119)).drew).symm)) (Rj _),λx hx _=> ?_,Q,b1,by rw[Dm] at ac;omega,O.toList.drop ((i+1)*3+(cs.drop (i*3)).length),?_⟩
 .refine (jK _ _ _ _ x (by omega)).trans ((jK _ _ _ _ x (by omega)).trans ?_);simp only[World.alloc,World.drew];rw[Zfi hx,GR hx]
 .have e1:O.toList.take ((i+1)*3)=cs.take (i*3)++vs:=by
   rw[a2,Zdl (by rw[BQ,Bw,Dm];omega),DP (by rw[BQ,Bw];omega),ab]
  rw[FR,b2,e1]
end
end Go.Proofs
namespace Go.Ae
open Go.Proofs Go.Sort Go.Shelf
def Gk(l:List Aj)(i:Nat)(x:Aj):List Aj:=l.take i++[x]++l.drop i
def sK(l r:List Aj):DY (l++r)=DY l++DY r:=by simp[DY]
def Qz5: ∀(l:List Aj) (i:Nat),DY (l.take i)=(DY l).take (i*3)
 |[],i=>by simp[DY]
 |x::r,0=>by simp[DY]
 |x::r,i+1=>by
  rw[JO,show x::r.take i=[x]++r.take i from rfl,show x::r=[x]++r from rfl,sK,sK,Qz5 r i,show (i+1)*3=(DY [x]).length+i*3 by rw[zB];simp;omega,List.take_length_add_append]
def Qza: ∀(l:List Aj) (i:Nat),DY (l.drop i)=(DY l).drop (i*3)
 |[],i=>by simp[DY]
 |x::r,0=>by simp[DY]
 |x::r,i+1=>by
  rw[JN,show x::r=[x]++r from rfl,sK,Qza r i,show (i+1)*3=(DY [x]).length+i*3 by rw[zB];simp;omega,List.drop_length_add_append]
def XC(l:List Aj)(i:Nat)(x:Aj):DY (Gk l i x)=(DY l).take (i*3)++FB x++(DY l).drop (i*3):=by
 rw[Gk,sK,sK,Qz5,Qza];simp[DY]
def XD{l:List Aj}: ∀v∈DY l,v.oneCell'=true:=by
 intro v z;simp only[DY,V5,FB,Bx,Ri,NR] at z;obtain⟨x,_,rfl|rfl|rfl⟩:=z<;>rfl
def SA(l:List Aj)(i:Nat)(x:Aj):(Gk l i x).length=l.length+1:=by
 simp only[Gk,BQ,Bw,Ch,uU];omega
def insC.ca(a:List Aj×Nat×Aj):List AV:=[.own 0,.im (.int .i64 a.2.1),.own 1]
def insC.H0(a:List Aj×Nat×Aj):Ar:=[(0,(true,.arr 119 3 (a.1.map Aj.c))),(1,(true,.arr 119 3 [Aj.c a.2.2]))]
def insC.H1(a:List Aj×Nat×Aj):Ar:=[(2,(true,.arr 119 3 ((Gk a.1 a.2.1 a.2.2).map Aj.c)))]
def insC.row:Ax:=AE insC.ca insC.H0 2 (λa=>a.2.1<=a.1.length/\a.1.length<=100000) (λj=>j==0) (λ_=> .own 2) insC.H1 1
def insC.ok:AA 121 insC.row:=by
 rintro b9 h nx K ⟨⟨l,i,x⟩,τ,U,KL,az,rfl,ai,hN,hK⟩;refine⟨KH (by kernel_rfl),_,_,?_,hK⟩;intro C S vs R hW a0 ao aw ah be;simp only at az;obtain⟨hi,ax⟩:=az;have bl:Di τ 2 nx 0=τ 0:=Ai (by omega);have bm:Di τ 2 nx 1=τ 1:=Ai (by omega);have bn:Di τ 2 nx 2=nx:=by rw[Di,Ad (by omega)];rfl
 simp only[insC.ca,AU,AV.ren,bl,bm,AJ,Aa,rd] at ah;obtain⟨v0,r0,hv,⟨bu,ak⟩,v1,r1,bw,b0,v2,r2,bx,⟨bv,ba⟩,bz⟩:=ah;subst bz bx b0 bw;have hvs:vs= #[v0,.int .i64 i,v2]:=by apply I3;simpa using hv
 subst hvs;have an:An (insC.H0 (l,i,x)) 0=true:=rfl;have bd:An (insC.H0 (l,i,x)) 1=true:=rfl;have ag:S.h (τ 0)=some (true,.arr 119 3 (l.map Aj.c)):=by
  rw[a0 (τ 0) (G7 _ (hN.u 0 an))]
  have:=ai.1
  rwa [bl] at this
 have av:S.h (τ 1)=some (true,.arr 119 3 [Aj.c x]):=by
  rw[a0 (τ 1) (G7 _ (hN.u 1 bd))]
  have:=ai.2.1
  rwa [bm] at this
 have a9: ∀n,n∈KL↔n=τ 0:=by
  intro n;constructor
  .intro hn;obtain⟨j,h1,h2,h3⟩:=hN.k1 n hn
   have:j=0:=by simpa using h2
   rw[h3,this]
  .rintro rfl;exact hN.k2 0 an rfl
 have bi:τ 0≠τ 1:=λh=>by have:=hN.inj 0 1 an bd h;omega
 have bh:=hN.lt 0 an;have bj:S.h nx=none:=ao nx ⟨AF _,uM _⟩;have bq: ∀n f,S.h n=some f->nx∉f.2.nms:=λn f hf aj=>aw n f hf nx aj ⟨AF _,uM _⟩
 obtain⟨m,hmm⟩: ∃m,m=τ 0:=⟨_,rfl⟩;rw[<-hmm] at ag ak a9 bi bh;have bg:=SA l i x;have fin: ∀(w':World) (lo:Fe),HW S nx (.arr 119 3 ((Gk l i x).map Aj.c)) (some lo) [m] w'->
  Al (S.one nx (.arr 119 3 ((Gk l i x).map Aj.c)) (some lo) [m] w') (some lo) (.arr 119 3 ((Gk l i x).map Aj.c))->R (.returned (.slice (some ⟨lo.b,lo.p,none⟩) (l.length+1) lo.cap)) w':=by
  intro w' lo ay bt;have hp:=W6 hW ay;refine be _ _ (Z6 hW ay bt) ?_ ⟨hp.ok,λn hn=>hp.nm n (.inr (λh=>hn (by rw[h];exact⟨AF _,uM _⟩)))⟩ ?_
  .funext n;simp only[Au.one,Bz.appf,insC.H1,B1,bn,hget,Ag.ren];by_cases hn:n=nx
   .subst hn;simp
   .have h1:(nx==n)=false:=by simpa using λh=>hn h.symm
    simp only[h1,Ct,hn,Cu,B4];by_cases h2:n=m
    .rw[Ai h2,G6.2 ((a9 n).2 h2)];rfl
    .have h3:KL.contains n=false:=by rw[<-JQ,G6,a9];exact h2
     rw[Ad h2,h3];rfl
  .simp only[AV.ren,bn,Aa];refine⟨rfl,λe he=> ?_⟩;simp only[Au.one,BF] at he⊢;obtain rfl:=Aw he;simp only[Ag.len,EJ,bg]
 have O:=hW.obj _ _ av;have ac:=ba _ av;cases hρ1:S.ρ (τ 1) with
 |none=>rw[hρ1] at O;simp only[Al] at O;cases O.2
 |some l1=>
 rw[hρ1] at O ac;simp only[Al,Ag.len,uU] at O ac;obtain⟨_,p2,pv,p3,p4,p5⟩:=O;obtain⟨cb,_⟩:=hW.loc _ _ l1 av hρ1;rw[show [Aj.c x]=[x].map Aj.c from rfl,yW] at p5;obtain⟨bb,p5⟩:=p5;have ab:S.w.heap[l1.b]? =some (.cells pv 119 (0,0)):=p3;have hvl:(FB x).length=3:=rfl;have am: ∀j v,(FB x)[j]? =some v->S.w.cell? ⟨l1.b,l1.p+j,none⟩=some v:=by
  intro j v hj;have a8:j<3:=by
   rcases EI j 3 with h|h
   .exact h
   .rw[Fz (by rw[hvl];exact h)] at hj;cases hj
  have h1:(pv.toList.drop l1.p)[j]? =(DY [x]++bb)[j]? :=by rw[p5]
  rw[Ez,GU,DQ (by rw[zB];simpa using a8)] at h1;simp only[World.cell?,ab,Xc,CN,Cu];rw[h1];simpa[DY] using hj
 have h1v: ∀v∈FB x,v.oneCell'=true:=by
  intro v hv;simp only[FB,Bx,Ri,NR] at hv;rcases hv with rfl|rfl|rfl<;>rfl
 have hcl:(DY l).length=l.length*3:=zB l;have aa:=hW.obj _ _ ag;have Q:=ak _ ag;have done: ∀(b:Nat) (w':World) (b' off' c':Nat),(∀lo,S.ρ m=some lo->lo.b=b)->(b<S.w.heap.size-> ∃lo,S.ρ m=some lo)->WF S.w w' b (l.length+1) 119 3 ((DY l).take (i*3)++FB x++(DY l).drop (i*3)) b' off' c'->R (.returned (.slice (some ⟨b',off',none⟩) (l.length+1) c')) w':=by
  intro b w' b' off' c' ad af hO;obtain⟨cv,q1,q2,q3⟩:=hO.row;refine fin w' ⟨b',off',c'⟩ ⟨hO.os,hO.tape,hO.output,hO.dr,hO.size,?_,.inr bj,?_,?_,?_⟩ ?_
  .intro y hy br;refine hO.keep y hy (λb8=> ?_);subst b8;obtain⟨lo,G⟩:=af hy;exact br m _ lo (by simp) ag G (ad lo G)
  .intro lo G;obtain rfl:=Aw G;refine⟨hO.lt,?_⟩;rcases hO.wh with h|h
   .rcases EI b S.w.heap.size with bc|bc
    .obtain⟨lo,G⟩:=af bc;exact .inr ⟨m,_,lo,by simp,ag,G,(ad lo G).trans h.symm⟩
    .exact .inl (by simp only;omega)
   .exact .inl (by simp only;omega)
  .intro f hf;rw[bj] at hf;cases hf
  .intro n f hf _;exact bq n f hf
  .simp only[Al,EJ,bg];refine⟨by simp only[Hq];omega,hO.cap,cv,q1,q2,?_⟩;rw[yW,XC];exact q3
 rw[ac];cases hρ:S.ρ m with
 |none=>
  rw[hρ] at Q aa;simp only[Al] at aa;have ha:l=[]:=by simpa using aa.2
  subst ha;have bp:i=0:=by simpa using hi
  subst bp;simp only at Q;rw[Q];refine (Tryz.ins_end_grow (w:=S.w) (base:=none) (n:=0) (c:=0) (vb:=l1.b) (voff:=l1.p) (cs:=[]) (vs:=FB x) rfl hvl (AF _) (by omega) (by omega) (λ_=>rfl) (λa ha=>by cases ha) am h1v l1.cap).mono ?_;rintro e w' ⟨rfl,rfl⟩;exact done S.w.heap.size _ _ _ _ (λlo G=>by rw[hρ] at G;cases G) (λh=>absurd h (Zfe _)) (Qme (cs:=[]) (n:=0) (AF _) rfl hvl (grownCap_ge S.w _ _ _))
 |some lc=>
  rw[hρ] at Q aa;simp only[Al,Ag.len,EJ] at aa Q;obtain⟨g1,g2,cv,g3,g4,g5⟩:=aa;obtain⟨au,_⟩:=hW.loc _ _ lc ag hρ;rw[yW] at g5;obtain⟨bo,g5⟩:=g5;have z:S.w.heap[lc.b]? =some (.cells cv 119 (0,0)):=g3;have hvb:l1.b≠lc.b:=λh=>bi (hW.inj _ _ _ _ lc l1 ag av hρ hρ1 h.symm rfl)
  have hcs: ∀j v,(DY l)[j]? =some v->S.w.cell? ⟨lc.b,lc.p+j,none⟩=some v:=by
   intro j v hj;have a8:j<(DY l).length:=by
    rcases EI j (DY l).length with h|h
    .exact h
    .rw[Fz h] at hj;cases hj
   have h1:(cv.toList.drop lc.p)[j]? =(DY l++bo)[j]? :=by rw[g5]
   rw[Ez,GU,DQ a8] at h1;simp only[World.cell?,z,Xc,CN,Cu];rw[h1,hj]
  have aj: ∀(h:0<lc.cap),Ij S.w lc.b lc.p l.length lc.cap l1.b l1.p (DY l) (FB x):=λcc=>by
   refine⟨hcl,hvl,g2,ax,hvb,hcs,?_,?_,am,XD,h1v,⟨_,_,by simp only[World.shape?,ab];rfl⟩,⟨_,_,by simp only[World.shape?,z];rfl,by omega⟩⟩
   .intro j hj;simp only[World.cell?,z,Xc,CN,Cu];rw[GR (by omega)];rfl
   .rintro y j (rfl|rfl)
    .simp[World.frozen?,z]
    .simp[World.frozen?,ab]
  have ad: ∀lo,S.ρ m=some lo->lo.b=lc.b:=λlo G=>by rw[hρ] at G;rw[Aw G]
  have af:lc.b<S.w.heap.size-> ∃lo,S.ρ m=some lo:=λ_=>⟨lc,hρ⟩
  rw[Q];by_cases aq:i<l.length
  .by_cases Z:l.length+1<=lc.cap
   .refine (Tryz.ins_shift (aj (by omega)) i aq Z l1.cap).mono ?_;rintro e w' ⟨rfl,rfl⟩;exact done lc.b _ _ _ _ ad af (OL au z g4 g5 hcl hvl i aq Z)
   .refine (Tryz.ins_grow (aj (by omega)) i aq (by omega) l1.cap).mono ?_;rintro e w' ⟨rfl,rfl⟩;exact done lc.b _ _ _ _ ad af (T7 au hcl hvl i aq (grownCap_ge S.w _ _ _))
  .have bf:i=l.length:=by omega
   subst bf;by_cases Z:l.length+1<=lc.cap
   .refine (Tryz.ins_end_room (aj (by omega)) Z l1.cap).mono ?_;rintro e w' ⟨rfl,rfl⟩;exact done lc.b _ _ _ _ ad af (Qtv au z g4 g5 hcl hvl Z)
   .refine (Tryz.ins_end_grow (w:=S.w) (base:=some ⟨lc.b,lc.p,none⟩) (n:=l.length) (c:=lc.cap) (vb:=l1.b) (voff:=l1.p) (cs:=DY l) (vs:=FB x) hcl hvl g2 ax (by omega) (λh=>by cases h) (λa ha=> ?_) am h1v l1.cap).mono ?_
    .obtain rfl:=Aw ha;intro j v hj;rw[Addr.add_lit];exact hcs j v hj
    .rintro e w' ⟨rfl,rfl⟩;exact done lc.b _ _ _ _ ad af (Qme (Nat.le_of_lt au) hcl hvl (grownCap_ge S.w _ _ _))
end Go.Ae
namespace Go.Ae
open Go.Proofs
def LJ(p:Ac)(t:Int): ∀(l:List Aj) (q:Option Ac),Ck q l=true->(∀x∈l,x.At≠p)->Gk l (ER l p) ⟨p,t⟩=CJ p t l
 |[],_,_,_=>rfl
 |x::r,q,h,hn=>by
  have O:=hn x (Cb ..);simp only[N8,AO] at h;have ih:=LJ p t r (some x.At) h.2.2.2 (λy Q=>hn y (BZ _ Q));simp only[CJ];by_cases z:Bj x.At p=true
  .have G:Bj p x.At=false:=by
    simp only[Bj] at z⊢;grind
   rw[G,Ad (by simp),<-ih];simp[ER,z,Gk]
  .rw[JQ] at z;rw[Ai (Qq4 z O)];simp[ER,z,Gk]
def wth_.fv(a:Ab×Ac×Int):Ab:=(λa p t=>⟨CJ p t a.Tiles⟩) (a.1) (a.2.1) (a.2.2)
def wth_.row:Ax:=vK (b3 (qR Ab.d_le) (qR Ac.d_le) qI) (rA Ab.d_le) (λa=>Ck none a.1.Tiles=true/\Dl a.2.1=true/\Bq a.1 a.2.1<0/\a.1.Tiles.length<=500) wth_.fv
def wth_.q:=AX (R:=wth_.row) rfl
def wth_.ok:AA 65 wth_.row:=by
 refine vw (tC BinP.ok (tC clonC.ok (tC insC.ok tN))) Tryz.func65 ?_;intro a G;simp only[Tryz.f65];simp only[ZA,simprocAttr,wth_.fv,BinP.q,BinP.ar,BinP.fv];obtain⟨O,h2,h3,h4⟩:=G;refine⟨O,AE.os a.1.Tiles [] (by omega) (λj=>by simp[An,hget]) rfl rfl ?_ ?_⟩
 .simp only[ZA,simprocAttr,clonC.ca,CV]
 simp only[ZA,simprocAttr,clonC.H1];have hb:ER a.1.Tiles a.2.1<=a.1.Tiles.length:=(List.takeWhile_prefix _).length_le;have Q:=fT O h3;refine AE.os (a.1.Tiles,ER a.1.Tiles a.2.1,⟨a.2.1,a.2.2⟩) [3,23] ⟨hb,by simp only;omega⟩ (λj=> ?_) rfl rfl ?_ ?_
 .simp only[An,insC.H0,hget];by_cases Z:j=0
  .subst Z;simp
  .by_cases z:j=1
   .subst z;simp
   .have e1:(0==j)=false:=by simpa using λh=>Z h.symm
    have e2:(1==j)=false:=by simpa using λh=>z h.symm
    simp[e1,e2];omega
 .simp only[ZA,simprocAttr,insC.ca,insC.H0,CV,Cz,D4]
 simp only[ZA,simprocAttr,Ab.d,insC.H1];rw[LJ a.2.1 a.2.2 a.1.Tiles none O Q]
def bA(p:Ac): ∀(l:List Aj) (t:List (Ac×Int)),(∃x∈l,x.At=p/\B6 (l.foldl (λt x=>Bs t x.At x.Tile) t) p=some x.Tile)\/((∀x∈l,x.At≠p)/\B6 (l.foldl (λt x=>Bs t x.At x.Tile) t) p=B6 t p)
 |[],t=> .inr ⟨by simp,rfl⟩
 |y::r,t=>by
  simp only[NQ];rcases bA p r (Bs t y.At y.Tile) with ⟨x,z,G,Q⟩|⟨z,G⟩
  .exact .inl ⟨x,BZ _ z,G,Q⟩
  .rw[G,lS];by_cases h:p=y.At
   .rw[Ai h];exact .inl ⟨y,Cb ..,h.symm,rfl⟩
   .rw[Ad h];refine .inr ⟨λx O=> ?_,rfl⟩;rcases Bx.1 O with rfl|O
    .exact E3 h
    .exact z x O
def xI{a:Ab}(hf:Ck none a.Tiles=true):Cl (BT a.Tiles)=Bq a:=by
 funext p;rcases bA p a.Tiles [] with ⟨x,z,G,Q⟩|⟨z,G⟩
 .simp only[Cl,BT,Q,AS,Bq];cases hq:a.Tiles.find? (λx=>decide (x.At=p)) with
  |none=>
   have:=Re.1 hq x z
   simp[G] at this
  |some y=>
   have O:=V8 hq;simp only[Bo] at O
   have:=bM (eJ hf) x z y (fG hq) (G.trans O.symm)
   rw[this];rfl
 .have:a.Tiles.find? (λx=>decide (x.At=p))=none:=by
   rw[Re];intro x Z;simpa using z x Z
  simp only[Cl,BT,G,Bq,this];rfl
def LY{p q:Ac}: ∀{d:Nat},q∈O8 p d↔q=p\/ ∃k:Nat,k<d/\Dl (Cm p k)=true/\q=Cm p k
 |0=>by simp[O8]
 |d+1=>by
  rw[O8,Bp,LY (d:=d)];constructor
  .rintro ((h|⟨k,O,z,G⟩)|h)
   .exact .inl h
   .exact .inr ⟨k,by omega,z,G⟩
   .split at h
    .rename_i g;exact .inr ⟨d,by omega,g,by simpa using h⟩
    .cases h
  .rintro (h|⟨k,O,z,G⟩)
   .exact .inl (.inl h)
   .by_cases e:k=d
    .subst e;exact .inr (by rw[Ai z,G];simp)
    .exact .inl (.inr ⟨k,by omega,z,G⟩)
def bC{s:Am}{a:Ab}(G:Fy s.Set a)(o:Ba)(O:Bf o.Tile 0 (s.Set.Tiles.length - 1)=true):K6 s (Bq a) o=Es s a o:=by
 have z:=J6 G.2 o.At;simp only[K6,Es,O,F2,Qy];by_cases h:Bq a o.At<0
 .rw[JS h,JS (z.2 h)]
 .rw[KO h,KO (λg=>h (z.1 g))]
def MX{s:Am}{a:Ab}(z:Fy s.Set a){o:Ba}:o∈Zd (Gd s a)↔Es s a o=true:=by
 have G:=xI z.1;have e:Zd (Gd s a)=B8 (λp=>FV (K6 s (Bq a)) p s.Set.Tiles.length) (BX (GA (BT a.Tiles))):=by
  rw[Zd];simp only[Gd,G]
 rw[e,B8,V5];constructor
 .rintro⟨p,_,hm⟩;obtain⟨t,ht,rfl⟩:=BI.1 hm;obtain⟨k,hk,rfl,hf⟩:=QB.1 ht;have hw:Bf ((k:Nat):Int) 0 (s.Set.Tiles.length - 1)=true:=by
   simp only[Bf,AO,Bo];omega
  rw[<-bC z (Gn p k) hw];exact hf
 .intro h;have O:=h;simp only[Es,AO] at O;have hn:=MY z h;rw[J4 _ (AF _),El] at hn;obtain⟨⟨hp,_⟩,x,hx,d,hd,Z⟩:=hn;refine⟨o.At,?_,BI.2 ⟨o.Tile,?_,rfl⟩⟩
  .rw[FZ,GA,V5];have h0:0<=Cl (BT a.Tiles) x.At:=by
    rw[G,Rs z.1 hx];exact (z.2 x hx).1
   obtain⟨v,hv⟩: ∃v,B6 (BT a.Tiles) x.At=some v:=by
    cases g:B6 (BT a.Tiles) x.At with
    |some v=>exact⟨v,rfl⟩
    |none=>rw[Cl,g] at h0;exact absurd h0 (by decide)
   exact⟨(x.At,v),VQ hv,LY.2 (.inr ⟨d,hd,by rw[Z];exact hp,Z.symm⟩)⟩
  .have Q:=O.2.1;simp only[Bf,AO,Bo] at Q;have e:((o.Tile.toNat:Nat):Int)=o.Tile:=uF Q.1;refine QB.2 ⟨o.Tile.toNat,by omega,e.symm,?_⟩;rw[e,bC z ⟨o.At,o.Tile⟩ O.2.1];exact h
end Go.Ae
namespace Go.Ae
open Go.Proofs
def upC:List (Ab×Ba)->D
 |[]=> .nilp
 |(a,o)::r=> .ref [.sl false 3 (a.Tiles.map Aj.c),upC r,.int .i64 o.At.X,.int .i64 o.At.Y,.int .i64 o.Tile]
structure Vx where
 A:Ab
 Up:List (Ab×Ba)
 By:Ba
def Vx.c(x:Vx):List D:=[.sl false 3 (x.A.Tiles.map Aj.c),upC x.Up,.int .i64 x.By.At.X,.int .i64 x.By.At.Y,.int .i64 x.By.Tile]
open Classical in
noncomputable def Vx.d (ds:List D):Option Vx:=if h: ∃x:Vx,x.c=ds then some (Classical.choose h) else none
def Vx.len(x:Vx):(Vx.c x).length=5:=rfl
def Vx.ch(v:Vx):List (Ab×Ba):=(v.A,v.By)::v.Up
end Go.Ae
namespace Go.Ae
open Go.Proofs
end Go.Ae
