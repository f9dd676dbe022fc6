/- Lemmas. Conditions: none. -/
import Derived.Test.YtpnmcdpbphpklaaGreatDoorP14
import Derived.Shelf.Strconv.Itoa4
import Derived.Shelf.Strings.Builder1
set_option linter.all false
set_option maxHeartbeats 8000000
set_option maxRecDepth 100000
namespace Go.Proofs
open Go.Shelf
def Tryz.fmtL_ren:Go.Shelf.Ren:=⟨λ|173=>210|246=>253|283=>278|284=>279|285=>280|286=>281|129=>242|317=>299|318=>300|319=>301|320=>302|337=>309|338=>310|n=>n,λ|2=>2|3=>3|9=>9|4=>4|171=>340|0=>0|53=>304|37=>224|5=>5|173=>342|212=>367|51=>302|20=>20|213=>368|46=>238|232=>378|233=>379|n=>n,λ|17=>0|18=>1|19=>2|n=>n⟩
def Tryz.fmtL:Go.Proofs.LaysM.n173 Tryz.prog Tryz.fmtL_ren:={
 mixed:=by kernel_rfl
 f129:=Tryz.func242.trans (BY some (by kernel_rfl))
 f173:=Tryz.func210.trans (BY some (by kernel_rfl))
 f246:=Tryz.func253.trans (BY some (by kernel_rfl))
 f283:=Tryz.func278.trans (BY some (by kernel_rfl))
 f284:=Tryz.func279.trans (BY some (by kernel_rfl))
 f285:=Tryz.func280.trans (BY some (by kernel_rfl))
 f286:=Tryz.func281.trans (BY some (by kernel_rfl))
 f317:=Tryz.func299.trans (BY some (by kernel_rfl))
 f318:=Tryz.func300.trans (BY some (by kernel_rfl))
 f319:=Tryz.func301.trans (BY some (by kernel_rfl))
 f320:=Tryz.func302.trans (BY some (by kernel_rfl))
 f337:=Tryz.func309.trans (BY some (by kernel_rfl))
 f338:=Tryz.func310.trans (BY some (by kernel_rfl))
 t0:=Tryz.underlying0
 a0:=Tryz.isAgg0
 z0:=Tryz.sizeOf0
 v0:=Tryz.zeroValue0
 t2:=Tryz.underlying2
 a2:=Tryz.isAgg2
 z2:=Tryz.sizeOf2
 v2:=Tryz.zeroValue2
 t3:=Tryz.underlying3
 a3:=Tryz.isAgg3
 z3:=Tryz.sizeOf3
 v3:=Tryz.zeroValue3
 t4:=Tryz.underlying4
 a4:=Tryz.isAgg4
 z4:=Tryz.sizeOf4
 v4:=Tryz.zeroValue4
 t5:=Tryz.underlying5
 a5:=Tryz.isAgg5
 z5:=Tryz.sizeOf5
 v5:=Tryz.zeroValue5
 t9:=Tryz.underlying9
 a9:=Tryz.isAgg9
 z9:=Tryz.sizeOf9
 v9:=Tryz.zeroValue9
 t20:=Tryz.underlying20
 a20:=Tryz.isAgg20
 z20:=Tryz.sizeOf20
 v20:=Tryz.zeroValue20
 t37:=Tryz.underlying224
 a37:=Tryz.isAgg224
 z37:=Tryz.sizeOf224
 v37:=Tryz.zeroValue224
 t46:=Tryz.underlying238
 a46:=Tryz.isAgg238
 z46:=Tryz.sizeOf238
 v46:=Tryz.zeroValue238
 t51:=Tryz.underlying302
 a51:=Tryz.isAgg302
 z51:=Tryz.sizeOf302
 v51:=Tryz.zeroValue302
 t53:=Tryz.underlying304
 a53:=Tryz.isAgg304
 z53:=Tryz.sizeOf304
 v53:=Tryz.zeroValue304
 t171:=Tryz.underlying340
 a171:=Tryz.isAgg340
 z171:=Tryz.sizeOf340
 v171:=Tryz.zeroValue340
 t173:=Tryz.underlying342
 a173:=Tryz.isAgg342
 z173:=Tryz.sizeOf342
 v173:=Tryz.zeroValue342
 t212:=Tryz.underlying367
 a212:=Tryz.isAgg367
 z212:=Tryz.sizeOf367
 v212:=Tryz.zeroValue367
 t213:=Tryz.underlying368
 a213:=Tryz.isAgg368
 z213:=Tryz.sizeOf368
 t232:=Tryz.underlying378
 a232:=Tryz.isAgg378
 z232:=Tryz.sizeOf378
 v232:=Tryz.zeroValue378
 t233:=Tryz.underlying379
 a233:=Tryz.isAgg379
 z233:=Tryz.sizeOf379
 v233:=Tryz.zeroValue379
 g17:=by kernel_rfl
 g18:=by kernel_rfl
 g19:=by kernel_rfl
 i0:=by kernel_rfl
 i2:=by kernel_rfl
 i3:=by kernel_rfl
 i4:=by kernel_rfl
 i5:=by kernel_rfl
 i9:=by kernel_rfl
 i20:=by kernel_rfl
 i37:=by kernel_rfl
 i46:=by kernel_rfl
 i51:=by kernel_rfl
 i53:=by kernel_rfl
 i171:=by kernel_rfl
 i173:=by kernel_rfl
 i212:=by kernel_rfl
 i232:=by kernel_rfl
 i233:=by kernel_rfl
 m17:=by kernel_rfl
 m18:=by kernel_rfl
 m19:=by kernel_rfl}
end Go.Proofs
namespace Go.Proofs
open Go.Shelf Go.RowKit Go.Lib
def Tryz.bldI:(Tryz.prog.info? 226).map (·.size)=some 2:=by kernel_rfl
def Tryz.bldL:liesAt Tryz.prog Tryz.prog.depth 226 (2/Tryz.prog.cellsOf 226) 0 226 1=true:=by kernel_rfl
def Tryz.cc_used(b:Nat)(w:World)(h0:w.cell? ⟨b,0,none⟩=some (.pointer (some ⟨b,0,none⟩))):
 Calls Tryz.prog 209 #[.pointer (some ⟨b,0,none⟩)] w λe w'=>e= .returned (.tuple #[])/\w'=w:=by
 obtain⟨j,z,_⟩:=CX.1 Tryz.bldI;have G:Tryz.prog.underlying 223=some (.pointer 226):=by kernel_rfl
 go_enter Tryz.func209,Tryz.ntmps209
 go_wp2
 rw[Lib.run_neq_ptr_same w _ G z]
 go_wp2
 go_end0
 exact⟨rfl,rfl⟩
def Tryz.cc_fresh(b:Nat)(w:World)(h0:w.cell? ⟨b,0,none⟩=some (.pointer none))(z:w.shape? b=some (226,2))(hfz:w.frozen? ⟨b,0,none⟩=false):
 Calls Tryz.prog 209 #[.pointer (some ⟨b,0,none⟩)] w λe w'=>e= .returned (.tuple #[])/\w'=w.setCell ⟨b,0,none⟩ (.pointer (some ⟨b,0,none⟩)):=by
 obtain⟨j,O,G⟩:=CX.1 Tryz.bldI;have Q:Tryz.prog.underlying 223=some (.pointer 226):=by kernel_rfl
 have Z:Tryz.prog.underlying 311=some .unsafePointer:=by kernel_rfl
 go_enter Tryz.func209,Tryz.ntmps209
 go_wp2
 rw[Lib.run_to_unsafe w ⟨b,0,none⟩ Q Z O (by rw[G];decide) z (Nat.zero_lt_succ 1)];simp only[Result.andThen];rw[Oper.upon_value]
 go_wp2
 rw[run_callFunc_extern Tryz.func252 (by kernel_rfl) (by kernel_rfl) (by kernel_rfl) (e:=Extern.AbiNoEscape.same) (by kernel_rfl)];rw[Lib.run_noEscape];simp only[Result.andThen];rw[Oper.upon_value]
 go_wp2
 rw[Lib.run_from_unsafe w ⟨b,0,none⟩ Z Q O z Tryz.bldL];simp only[Result.andThen];rw[Oper.upon_value]
 go_wp2
 go_end0
 exact⟨rfl,rfl⟩
def SU{P:Program}{e:TypeId}(G:P.cellsOf e=1)(z off n:Nat)(hn:off+n<=z):liesAt P P.depth e z off e n=true:=by
 have hd:P.depth=(2*(P.types.size+Made.depth)+1)+1:=rfl;rw[hd];simp only[liesAt,HY];left;rw[hd];simp[rowAt,G,hn,sameLayout,Nat.mod_one]
def Qat7{P:Program}(w:World)(pt it ty e:TypeId)(hp:P.underlying pt=some (.pointer e))(hc:P.cellsOf e=1)(g q cells:Nat)(ac:w.shape? g=some (e,cells))(l:List UInt8)(h0:l≠[])(hn:q+l.length<=cells)(ad:l.length<=9223372036854775807)
 (z: ∀j x,l[j]? =some x->w.cell? ((⟨g,q,none⟩:Addr).add j)=some (.int .u8 x.toNat)):
 (Builtin.unsafeString_ #[pt,it] ty #[.pointer (some ⟨g,q,none⟩),.int .i64 l.length]).run P w= .ok (.string ⟨l.toArray⟩) (w.freeze ⟨g,q,none⟩ l.length):=by
 have hl:l.length≠0:=by simpa using h0
 have ab:=run_loadBytes (P:=P) w l ⟨g,q,none⟩ .empty z;have G:=SU (P:=P) hc (cells/P.cellsOf e) q l.length (by rw[hc];simpa using hn);have O: ¬(9223372036854775807:Int)<(l.length:Int):=by omega
 have Q:Builtin.unsafeString_ #[pt,it] ty #[.pointer (some ⟨g,q,none⟩),.int .i64 l.length]=
  (do
   let n <-asInt (.int .i64 l.length)
   if n<0 then runtimePanic (.error "unsafe.String: len out of range")
   if n>IntKind.i64.max then unsupported (.unsafePointer "String: a length above the largest int")
   if n=0 then pure (.string .empty)
   else if <-variablesAt ⟨g,q,none⟩ (<-elemOf pt) n.toNat then do
    let s <-loadBytes ⟨g,q,none⟩ .empty n.toNat
    freeze ⟨g,q,none⟩ n.toNat
    pure (.string s)
   else unsupported (.unsafePointer "String: not so many bytes at ptr")):=rfl
 rw[Q];have Z:IntKind.i64.max=9223372036854775807:=rfl;have aa: ¬(l.length:Int)<0:=by omega
 simp[asInt,asIntOf,Z,O,aa,hl,variablesAt,ac,elemOf,run_underlying hp,G,ab]
def Tryz.bld_str(b g q cap:Nat)(v0:Value)(l:List UInt8)(w:World)(h0:l≠[])(hb:w.heap[b]? =some (.cells #[v0,.slice (some ⟨g,q,none⟩) l.length cap] 226 (0,0)))(z:Array Value)
 (hg:w.heap[g]? =some (.cells z 5 (0,0)))(G:cap≠0)(hn:q+l.length<=z.size)(Z:l.length<=140737488355328)(O: ∀j x,l[j]? =some x->z[q+j]? =some (.int .u8 x.toNat)):
 Calls Tryz.prog 168 #[.pointer (some ⟨b,0,none⟩)] w λe w'=>e= .returned (.string ⟨l.toArray⟩)/\w'=w.drew.freeze ⟨g,q,none⟩ l.length:=by
 have c1:w.drew.cell? ⟨b,1,none⟩=some (.slice (some ⟨g,q,none⟩) l.length cap):=by
  have:w.drew.heap[b]? =some (.cells #[v0,.slice (some ⟨g,q,none⟩) l.length cap] 226 (0,0)):=hb
  rw[Lib.cell_of_heap this];rfl
 have aa:(Builtin.unsafeSliceData_ #[224] 272 #[.slice (some ⟨g,q,none⟩) l.length cap]).run Tryz.prog w.drew= .ok (.pointer (some ⟨g,q,none⟩)) w.drew:=
  Lib.run_unsafeSliceData_row _ _ _ _ _ _ G
 have ab:(Builtin.unsafeString_ #[272,3] 9 #[.pointer (some ⟨g,q,none⟩),.int .i64 l.length]).run Tryz.prog w.drew= .ok (.string ⟨l.toArray⟩) (w.drew.freeze ⟨g,q,none⟩ l.length):=by
  have Q:w.drew.heap[g]? =some (.cells z 5 (0,0)):=hg;refine Qat7 w.drew 272 3 9 5 (by kernel_rfl) (by kernel_rfl) g q z.size (by simp[World.shape?,Q]) l h0 hn (by omega) ?_;intro j x hx;rw[Addr.add_lit,Lib.cell_of_heap Q];simpa using O j x hx
 have CS:Tryz.prog.follows .mixedOrders=true:=by kernel_rfl
 clear G hn Z O hg
 go_enter Tryz.func168,Tryz.ntmps168
 go_wp2
 go_region_o
 all_goals (go_wp2;go_ret;exact⟨rfl,rfl⟩)
end Go.Proofs
namespace Go.Ae
open Go.Proofs
def bR(l:List UInt8):List (List D):=l.map λb=>[.int .u8 b.toNat]
def Dn(u:Bool):AV:=if u=true then .ptr 0 0 else .im .nilp
def Cv(a:Bool×List UInt8):Ar:=[(0,(true,.cells 226 [Dn a.1,.own 1])),(1,(true,.arr 5 1 (bR a.2)))]
def Q9(a:Bool×List UInt8)(j:Nat):An (Cv a) j=true↔j<2:=by
 simp only[An,Cv,hget];rcases (by omega:j=0\/j=1\/2<=j) with rfl|rfl|h
 .simp
 .simp
 .have h0:(0==j)=false:=by simp;omega
  have z:(1==j)=false:=by simp;omega
  simp[h0,z];omega
def Ux{w:World}{b i:Nat}{v:Value}{vs:Array Value}{T:TypeId}{z:Nat×Nat}(h:w.heap[b]? =some (.cells vs T z)):(w.setCell ⟨b,i,none⟩ v).heap=w.heap.setIfInBounds b (.cells (vs.setIfInBounds i v) T z):=by
 apply uG;intro j;simp only[World.setCell,fB,WX];by_cases e:b=j
 .subst e;have O:=(NN.1 h).1;have G:w.heap[b]= .cells vs T z:=by simpa[GR O] using h
  simp[O,G]
 .simp[e]
def Zc{C:AT}{S:Au}(hW:Wf C S){m:Nat}{f:Ag}{lc:Fe}(hm:S.h m=some (true,f))(hl:S.ρ m=some lc){W':World}(Q:S.w.heap.size<=W'.heap.size)(ag:W'.os=S.w.os)(ht:W'.tape=S.w.tape)(ab:W'.output=S.w.output)(ac:S.w.drawn<=W'.drawn)
 (hk: ∀b,b≠lc.b->b<S.w.heap.size->W'.heap[b]? =S.w.heap[b]?):
 Wf C ⟨S.ρ,S.ok,λn=>if n=m then none else S.h n,W'⟩/\B3 (λ_=>True) S ⟨S.ρ,S.ok,λn=>if n=m then none else S.h n,W'⟩:=by
 obtain⟨g1,g2⟩:=hW.loc m _ lc hm hl;simp only[BF] at g2;have af: ∀b,S.ok b->W'.heap[b]? =S.w.heap[b]? :=λb z=>hk b (λe=>g2.1 (e▸z)) (hW.oks b z)
 have hP:B3 (λ_=>True) S ⟨S.ρ,S.ok,λn=>if n=m then none else S.h n,W'⟩:=by
  refine⟨λb z=>⟨z,af b z⟩,λo _ e' O=> ?_⟩;simp only at O;split at O
  .cases O
  .exact⟨e',O,rfl,rfl,rfl⟩
 refine⟨⟨ag.trans hW.os,ht.trans hW.tape,ab.trans hW.output,BR hW.dr ac,BR hW.size Q,λb z hM=> ?_,hW.ok0,hW.ok1,λb z=>E8 (hW.oks b z) Q,λo e he=> ?_,λo e l G Z=> ?_,λo o' e e' l l' G Z h3 h4 h5 h6=> ?_,hW.gl⟩,hP⟩
 .refine (hk b (λe=> ?_) (E8 z hW.size)).trans (hW.keep b z hM);rcases g2.2 with h|h
  .omega
  .exact hM (e▸h)
 .simp only at he;split at he
  .cases he
  .rename_i ad;refine Hh hP (λl aa=> ?_) e.2 (λ_ _=>trivial) (hW.obj o e he);have z:=(hW.loc o e l he aa).1;exact hk l.b (λe2=>ad (hW.inj o m _ _ l lc he hm aa hl e2 (by simp))) z
 .simp only at G;split at G
  .cases G
  .obtain⟨q1,q2⟩:=hW.loc o e l G Z;exact⟨E8 q1 Q,q2⟩
 .simp only at G Z;split at G
  .cases G
  .split at Z
   .cases Z
   .exact hW.inj o o' e e' l l' G Z h3 h4 h5 h6
def ccC.ca(_:Bool×List UInt8):List AV:=[.ptr 0 0]
def ccC.H1(_:Bool×List UInt8):Ar:=[(0,(true,.cells 226 [.ptr 0 0,.own 1]))]
def ccK(j:Nat):Bool:=j==0
def ccC.row:Ax:=AE ccC.ca Cv 2 (λ_=>True) ccK (λ_=> .im (.tup [])) ccC.H1 0
def ccC.ok:AA 209 ccC.row:=by
 rintro bg h nx K ⟨a,τ,U,KL,bi,rfl,aj,hN,hK⟩;refine⟨KH (by kernel_rfl),_,_,?_,hK⟩;intro C S vs R hW av ax ay Z af;have Q:Di τ 2 nx 0=τ 0:=Ai (by omega);have am:Di τ 2 nx 1=τ 1:=Ai (by omega);have ai:An (Cv a) 0=true:=rfl;have a8:An (Cv a) 1=true:=rfl;simp only[ccC.ca,AU,AV.ren,Q,AJ,Aa] at Z;obtain⟨v0,r0,hv,⟨bh,au⟩,bf⟩:=Z;subst bf;have hvs:vs= #[v0]:=by apply I3;simpa using hv
 subst hvs;have bb:h (τ 0)=some (true,.cells 226 [(Dn a.1).ren (Di τ 2 nx),.own (τ 1)]):=by
  have:=lL aj 0 _ (show ((0,(true,Ag.cells 226 [Dn a.1,.own 1])):Nat×Ap)∈Cv a by simp[Cv])
  simpa only[Q,Ag.ren,AU,AV.ren,am] using this
 have G:S.h (τ 0)=some (true,.cells 226 [(Dn a.1).ren (Di τ 2 nx),.own (τ 1)]):=by
  rw[av (τ 0) (G7 _ (hN.u 0 ai)),bb]
 have ao: ∀n,n∈KL↔n=τ 0:=by
  intro n;constructor
  .intro hn;obtain⟨j,h1,h2,h3⟩:=hN.k1 n hn
   have:j=0:=by simpa[ccK] using h2
   rw[h3,this]
  .rintro rfl;exact hN.k2 0 ai rfl
 have ag:=hW.obj _ _ G;simp only[Al] at ag;obtain⟨O,cv,hρ,ad,a9,hcl⟩:=ag;obtain⟨l',aq,aw⟩:=au _ G;rw[hρ] at aq;obtain rfl:=Aw aq;rw[ad] at aw;simp only[AJ] at hcl;obtain⟨p0,q0,a0,aa,p1,q1,bd,az,be⟩:=hcl;subst be bd;have an:cv= #[p0,p1]:=by apply I3;simpa using a0
 subst an aw;have z:S.w.heap[O.b]? =some (.cells #[p0,p1] 226 (0,0)):=a9;have ab:S.w.cell? ⟨O.b,0,none⟩=some p0:=by rw[Lib.cell_of_heap z];rfl
 cases hu:a.1 with
 |true=>
  rw[hu] at G aa;have hp:p0= .pointer (some ⟨O.b,0,none⟩):=by
   simp only[Dn,BF,AV.ren,Q,Aa] at aa;obtain⟨l2,h2,h3⟩:=aa.2 _ G;rw[hρ] at h2;obtain rfl:=Aw h2;rw[h3,ad]
  refine (Tryz.cc_used O.b S.w (by rw[ab,hp])).mono ?_;rintro e w' ⟨rfl,rfl⟩;refine af (.tuple #[]) S hW ?_ (B3.refl _ _) ⟨#[],rfl,rfl⟩;funext n;simp only[Bz.appf,ccC.H1,B1,hget,Q,Ag.ren,AU,AV.ren,am];by_cases hn:n=τ 0
  .subst hn;simp only[Dn,BF,AV.ren,Q] at G;simp[G]
  .have h1:(τ 0==n)=false:=by simpa using λh=>hn h.symm
   have h2:KL.contains n=false:=by rw[<-JQ,G6,ao];exact hn
   simp only[h1,Ct,h2]
 |false=>
  rw[hu] at G aa;have hp:p0= .pointer none:=by simpa only[Dn,CN,Cu,AV.ren,Aa,rd] using aa
  refine (Tryz.cc_fresh O.b S.w (by rw[ab,hp]) (by simp[World.shape?,z]) (Lib.frozen_of_heap z 0)).mono ?_;rintro e w' ⟨rfl,rfl⟩;have ah:=Ux (i:=0) (v:= .pointer (some ⟨O.b,0,none⟩)) z;have ac:HW S (τ 0) (.cells 226 [.ptr (τ 0) 0,.own (τ 1)]) (some O) [τ 0] (S.w.setCell ⟨O.b,0,none⟩ (.pointer (some ⟨O.b,0,none⟩))):=Zy hW G hρ ah rfl rfl rfl rfl rfl;have ak:=W6 hW ac;have ba:=(NN.1 z).1;have bj:τ 1≠τ 0:=λe=>by have:=hN.inj 1 0 a8 ai e;omega
  have bc:Al (S.one (τ 0) (.cells 226 [.ptr (τ 0) 0,.own (τ 1)]) (some O) [τ 0] (S.w.setCell ⟨O.b,0,none⟩ (.pointer (some ⟨O.b,0,none⟩)))) (some O) (.cells 226 [.ptr (τ 0) 0,.own (τ 1)]):=by
   simp only[Al];refine⟨O,#[.pointer (some ⟨O.b,0,none⟩),p1],rfl,ad,?_,?_⟩
   .simp only[Au.hp,Au.one,ah,WX,BF,ba];rfl
   .simp only[AJ];refine⟨_,_,rfl,?_,_,_,rfl,?_,rfl⟩
    .simp only[Aa];refine⟨rfl,λe he=>⟨O,by simp[Au.one],by rw[ad]⟩⟩
    .exact Hu ak _ _ (λo ho=>by
      simp only[AV.nms,B4] at ho;exact .inl (by rw[G];simp)) az
  refine af (.tuple #[]) _ (Z6 hW ac bc) ?_ ⟨ak.ok,λn _=>ak.nm n (.inl (by rw[G];simp))⟩ ⟨#[],rfl,rfl⟩;funext n;simp only[Au.one,Bz.appf,ccC.H1,B1,hget,Q,Ag.ren,AU,AV.ren,am];by_cases hn:n=τ 0
  .subst hn;simp
  .have h1:(τ 0==n)=false:=by simpa using λh=>hn h.symm
   have h2:KL.contains n=false:=by rw[<-JQ,G6,ao];exact hn
   simp only[h1,Ct,h2,hn,Cu,B4]
def pK{ok:Nat->Prop}{hp:Nat->Option Obj}: ∀(l:List UInt8) (vs:List Value),rdr ok hp 1 (bR l) vs-> ∀(j:Nat) (x:UInt8),l[j]? =some x->vs[j]? =some (Value.int .u8 x.toNat)
 |[],_,_,j,x,h=>by simp at h
 |b::l,vs,h,j,x,z=>by
  simp only[bR,Bb,rdr,rdp] at h;obtain⟨_,⟨v,r,rfl,G,_⟩,O⟩:=h;cases j with
  |zero=>
   simp only[G4,AI] at z⊢;subst z;simpa only[rd] using G
  |succ j=>
   rw[I2] at z⊢;exact pK l r (by simpa[bR] using O) j x z
def Sl{w:World}{g q n:Nat}(hn:n≠0):(∀b,b≠g->(w.freeze ⟨g,q,none⟩ n).heap[b]? =w.heap[b]?)/\(w.freeze ⟨g,q,none⟩ n).heap.size=w.heap.size/\(w.freeze ⟨g,q,none⟩ n).os=w.os/\(w.freeze ⟨g,q,none⟩ n).tape=w.tape/\(w.freeze ⟨g,q,none⟩ n).output=w.output:=by
 unfold World.freeze;rw[Ad hn];refine⟨λb z=> ?_,by simp,rfl,rfl,rfl⟩;simp only[fB];rw[Ad (λe=>z e.symm)]
def fV(j:Nat):Bool:=j==1
def bsC.r0(a:Bool×List UInt8):AV:= .im (.str ⟨a.2.toArray⟩)
def bsC.row:Ax:=AE ccC.ca Cv 2 (λa=>a.2≠[]) fV bsC.r0 (λ_=>[]) 0
def bsC.ok:AA 168 bsC.row:=by
 rintro bh h nx K ⟨a,τ,U,KL,aa,rfl,Q,hN,hK⟩;refine⟨KH (by kernel_rfl),_,_,?_,hK⟩;intro C S vs R hW ab ax ay O am;have au:Di τ 2 nx 0=τ 0:=Ai (by omega);have av:Di τ 2 nx 1=τ 1:=Ai (by omega);have a9:An (Cv a) 0=true:=rfl;have ak:An (Cv a) 1=true:=rfl;simp only[ccC.ca,AU,AV.ren,au,AJ,Aa] at O;obtain⟨v0,r0,hv,⟨bi,aq⟩,bg⟩:=O;subst bg;have hvs:vs= #[v0]:=by apply I3;simpa using hv
 subst hvs;have bb:h (τ 0)=some (true,.cells 226 [(Dn a.1).ren (Di τ 2 nx),.own (τ 1)]):=by
  have:=lL Q 0 _ (show ((0,(true,Ag.cells 226 [Dn a.1,.own 1])):Nat×Ap)∈Cv a by simp[Cv])
  simpa only[au,Ag.ren,AU,AV.ren,av] using this
 have ag:S.h (τ 0)=some (true,.cells 226 [(Dn a.1).ren (Di τ 2 nx),.own (τ 1)]):=by
  rw[ab (τ 0) (G7 _ (hN.u 0 a9)),bb]
 have bc:h (τ 1)=some (true,.arr 5 1 (bR a.2)):=by
  have:=lL Q 1 _ (show ((1,(true,Ag.arr 5 1 (bR a.2))):Nat×Ap)∈Cv a by simp[Cv])
  simpa only[av,Ag.ren] using this
 have ac:S.h (τ 1)=some (true,.arr 5 1 (bR a.2)):=by
  rw[ab (τ 1) (G7 _ (hN.u 1 ak)),bc]
 have an: ∀n,n∈KL↔n=τ 1:=by
  intro n;constructor
  .intro hn;obtain⟨j,h1,h2,h3⟩:=hN.k1 n hn
   have:j=1:=by simpa[fV] using h2
   rw[h3,this]
  .rintro rfl;exact hN.k2 1 ak rfl
 have Z:=hW.obj _ _ ag;simp only[Al] at Z;obtain⟨lc,cv,hρ,bd,ba,hcl⟩:=Z;obtain⟨l',ao,aw⟩:=aq _ ag;rw[hρ] at ao;obtain rfl:=Aw ao;rw[bd] at aw;simp only[AJ] at hcl;obtain⟨p0,q0,a8,bl,p1,q1,be,ai,bf⟩:=hcl;subst bf be;have aj:cv= #[p0,p1]:=by apply I3;simpa using a8
 subst aj aw;have G:=hW.obj _ _ ac;simp only[Aa] at ai;have z:=ai.2 _ ac;have ah:(bR a.2).length=a.2.length:=by simp[bR]
 have bj:0<a.2.length:=fL.2 aa;cases hρ1:S.ρ (τ 1) with
 |none=>
  rw[hρ1] at G;simp only[Al] at G
  have:=BY List.length G.2
  rw[ah] at this;rw[F3] at this;omega
 |some l1=>
  rw[hρ1] at G z;simp only[Al,Ag.len] at G z;obtain⟨k1,k2,ad,k3,k4,k5⟩:=G;rw[ah] at k1 k2 z;simp only[Hq] at k1;subst z;have a0: ∀j x,a.2[j]? =some x->ad[l1.p+j]? =some (Value.int .u8 x.toNat):=λj x hx=>by
   have:=pK a.2 _ k5 j x hx
   rw[Ez] at this;simpa using this
  refine (Tryz.bld_str lc.b l1.b l1.p l1.cap p0 a.2 S.w aa ba ad k3 (by omega) (by omega) k1 a0).mono ?_;rintro e w' ⟨rfl,rfl⟩;obtain⟨f1,f2,f3,f4,f5⟩:=Sl (w:=S.w.drew) (g:=l1.b) (q:=l1.p) (n:=a.2.length) (by omega);obtain⟨az,af⟩:=Zc hW ac hρ1 (W':=S.w.drew.freeze ⟨l1.b,l1.p,none⟩ a.2.length) (by rw[f2];exact AF _) f3 f4 f5 (by unfold World.freeze;split<;>exact Rj _) (λb hb _=>f1 b hb);refine am (.string ⟨a.2.toArray⟩) _ az ?_ ⟨af.ok,λn _=>af.nm n trivial⟩ (by simp only[bsC.r0,AV.ren,Aa,rd]);funext n;simp only[Bz.appf,B1,hget];by_cases hn:n=τ 1
  .subst hn
   have:KL.contains (τ 1)=true:=by rw[G6,an]
   rw[Ai rfl,this];rfl
  .have h2:KL.contains n=false:=by rw[<-JQ,G6,an];exact hn
   simp only[h2,hn,Cu,Ct]
def Gl(n:Int):ByteArray:=⟨(Lib.itoa n).toArray⟩
def jC{C:AT}{S:Au}(hW:Wf C S):Lib.TabIs Tryz.prog S.w "internal/strconv.uint64pow10" .u64 Lib.pow10Tab:=by
 obtain⟨_,T,z,h⟩:=hW.gp;have G:Tryz.prog.globalNamed "internal/strconv.uint64pow10" =some 0:=by kernel_rfl
 have h':S.w.heap[0]? =some (.cells xH T z):=h;unfold Lib.TabIs World.var?;rw[G];simp only[H3,h'];rfl
def Sf{C:AT}{S:Au}(hW:Wf C S){W':World}(O:S.w.heap.size<=W'.heap.size)(ab:W'.os=S.w.os)(ht:W'.tape=S.w.tape)(G:W'.output=S.w.output)(aa:S.w.drawn<=W'.drawn)(hk: ∀b,b<S.w.heap.size->W'.heap[b]? =S.w.heap[b]?):
 ∃(Q:AT) (S1:Au),Q.w=S.w/\Q.ok=S.ok/\(∀b,¬Q.M b)/\Wf Q S1/\S1.w=W':=by
 refine⟨⟨S.w,λ_=>False,S.ok,0,λ_=>none,λ_=>none,[]⟩,⟨λ_=>none,S.ok,λ_=>none,W'⟩,rfl,rfl,λ_ h=>h,?_,rfl⟩;exact⟨ab,ht,G,aa,O,λb Z _=>hk b Z,λ_ h=>h,λ_ h=> .inl h,λb Z=>E8 (hW.oks b Z) O,λo e z=>(by cases z),λo e l z=>(by cases z),λo o' e e' l l' z=>(by cases z),hW.glN λ_ h=>h.elim⟩
def fmt_.fv(a:Int×Int):ByteArray:=(λn _=>Gl n) (a.1) (a.2)
def fmt_.row:Ax:=Fv (b2 qI qI) rT (λa=> -9223372036854775808<=a.1/\a.1<=9223372036854775807/\a.2=10) fmt_.fv
def fmt_.q:=CR (R:=fmt_.row) rfl
def fmt_.ok:AA 210 fmt_.row:=by
 refine Quy (by kernel_rfl) (b2 qI qI).l rT.l λa G C S vs RR hW O z=> ?_
 obtain⟨n,b⟩:=a;obtain⟨Q,Z,h3⟩:=G;simp only at Q Z h3;subst h3;simp only[b2,qI,Ec,HK,rd] at O;obtain⟨v0,r0,hv,rfl,v1,r1,rfl,rfl,rfl⟩:=O;have hvs:vs= #[.int .i64 n,.int .i64 10]:=by apply I3;simpa using hv
 subst hvs;refine (Any.strconv_FormatInt_10 Tryz.fmtL n Q Z S.w (jC hW)).mono ?_;rintro e w' ⟨rfl,k,os,rfl⟩;obtain⟨C0,S1,e1,e2,e3,e4,e5⟩:=Sf hW (W':=Sort.grow (S.w.drewN k) os) (by simp[Sort.grow]) rfl rfl rfl (uL _ _) (λb hb=>by
  simp only[Sort.grow];rw[Zds (by simpa using hb)]
  rfl)
 have:=z (.string (Gl n)) C0 S1 (.str (Gl n)) e1 e2 e3 e4 rfl (by simp only[rd])
 rw[e5] at this;exact this
end Go.Ae
