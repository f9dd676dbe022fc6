/- Lemmas. Conditions: none. -/
import Derived.Test.YtpgdfagfkjbokaaGreatDoorP13
import Derived.Shelf.Strconv.Itoa4
import Derived.Shelf.Strings.Builder1
import Derived.Shelf.Spec.SlicesInsertGrow
set_option linter.all false
set_option maxHeartbeats 8000000
set_option maxRecDepth 100000
namespace Go.Proofs
open Go.Shelf
def Tryz.fmtL_ren:Go.Shelf.Ren:=⟨λ|173=>150|246=>179|283=>200|284=>201|285=>202|286=>203|129=>176|317=>223|318=>224|319=>225|320=>226|337=>237|338=>238|n=>n,λ|2=>2|3=>3|9=>9|4=>4|171=>278|0=>0|53=>250|37=>174|5=>5|173=>280|212=>307|51=>248|20=>20|213=>308|46=>188|232=>329|233=>330|n=>n,λ|17=>0|18=>1|19=>2|n=>n⟩
def Tryz.fmtL:Go.Proofs.LaysM.n173 Tryz.prog Tryz.fmtL_ren:={
 mixed:=by kernel_rfl
 f129:=Tryz.func176.trans (BV some (by kernel_rfl))
 f173:=Tryz.func150.trans (BV some (by kernel_rfl))
 f246:=Tryz.func179.trans (BV some (by kernel_rfl))
 f283:=Tryz.func200.trans (BV some (by kernel_rfl))
 f284:=Tryz.func201.trans (BV some (by kernel_rfl))
 f285:=Tryz.func202.trans (BV some (by kernel_rfl))
 f286:=Tryz.func203.trans (BV some (by kernel_rfl))
 f317:=Tryz.func223.trans (BV some (by kernel_rfl))
 f318:=Tryz.func224.trans (BV some (by kernel_rfl))
 f319:=Tryz.func225.trans (BV some (by kernel_rfl))
 f320:=Tryz.func226.trans (BV some (by kernel_rfl))
 f337:=Tryz.func237.trans (BV some (by kernel_rfl))
 f338:=Tryz.func238.trans (BV some (by kernel_rfl))
 t0:=Tryz.underlying0
 a0:=Tryz.isAgg0
 z0:=Tryz.sizeOf0
 v0:=Tryz.zeroValue0
 t2:=Tryz.underlying2
 a2:=Tryz.isAgg2
 z2:=Tryz.sizeOf2
 v2:=Tryz.zeroValue2
 t3:=Tryz.underlying3
 a3:=Tryz.isAgg3
 z3:=Tryz.sizeOf3
 v3:=Tryz.zeroValue3
 t4:=Tryz.underlying4
 a4:=Tryz.isAgg4
 z4:=Tryz.sizeOf4
 v4:=Tryz.zeroValue4
 t5:=Tryz.underlying5
 a5:=Tryz.isAgg5
 z5:=Tryz.sizeOf5
 v5:=Tryz.zeroValue5
 t9:=Tryz.underlying9
 a9:=Tryz.isAgg9
 z9:=Tryz.sizeOf9
 v9:=Tryz.zeroValue9
 t20:=Tryz.underlying20
 a20:=Tryz.isAgg20
 z20:=Tryz.sizeOf20
 v20:=Tryz.zeroValue20
 t37:=Tryz.underlying174
 a37:=Tryz.isAgg174
 z37:=Tryz.sizeOf174
 v37:=Tryz.zeroValue174
 t46:=Tryz.underlying188
 a46:=Tryz.isAgg188
 z46:=Tryz.sizeOf188
 v46:=Tryz.zeroValue188
 t51:=Tryz.underlying248
 a51:=Tryz.isAgg248
 z51:=Tryz.sizeOf248
 v51:=Tryz.zeroValue248
 t53:=Tryz.underlying250
 a53:=Tryz.isAgg250
 z53:=Tryz.sizeOf250
 v53:=Tryz.zeroValue250
 t171:=Tryz.underlying278
 a171:=Tryz.isAgg278
 z171:=Tryz.sizeOf278
 v171:=Tryz.zeroValue278
 t173:=Tryz.underlying280
 a173:=Tryz.isAgg280
 z173:=Tryz.sizeOf280
 v173:=Tryz.zeroValue280
 t212:=Tryz.underlying307
 a212:=Tryz.isAgg307
 z212:=Tryz.sizeOf307
 v212:=Tryz.zeroValue307
 t213:=Tryz.underlying308
 a213:=Tryz.isAgg308
 z213:=Tryz.sizeOf308
 t232:=Tryz.underlying329
 a232:=Tryz.isAgg329
 z232:=Tryz.sizeOf329
 v232:=Tryz.zeroValue329
 t233:=Tryz.underlying330
 a233:=Tryz.isAgg330
 z233:=Tryz.sizeOf330
 v233:=Tryz.zeroValue330
 g17:=by kernel_rfl
 g18:=by kernel_rfl
 g19:=by kernel_rfl
 i0:=by kernel_rfl
 i2:=by kernel_rfl
 i3:=by kernel_rfl
 i4:=by kernel_rfl
 i5:=by kernel_rfl
 i9:=by kernel_rfl
 i20:=by kernel_rfl
 i37:=by kernel_rfl
 i46:=by kernel_rfl
 i51:=by kernel_rfl
 i53:=by kernel_rfl
 i171:=by kernel_rfl
 i173:=by kernel_rfl
 i212:=by kernel_rfl
 i232:=by kernel_rfl
 i233:=by kernel_rfl
 m17:=by kernel_rfl
 m18:=by kernel_rfl
 m19:=by kernel_rfl}
end Go.Proofs
namespace Go.Proofs
open Go.Shelf Go.RowKit Go.Lib
def Tryz.bldI:(Tryz.prog.info? 176).map (·.size)=some 2:=by kernel_rfl
def Tryz.bldL:liesAt Tryz.prog Tryz.prog.depth 176 (2/Tryz.prog.cellsOf 176) 0 176 1=true:=by kernel_rfl
def Tryz.cc_used(b:Nat)(w:World)(h0:w.cell? ⟨b,0,none⟩=some (.pointer (some ⟨b,0,none⟩))):
 Calls Tryz.prog 149 #[.pointer (some ⟨b,0,none⟩)] w λe w'=>e= .returned (.tuple #[])/\w'=w:=by
 obtain⟨j,z,_⟩:=CT.1 Tryz.bldI;have O:Tryz.prog.underlying 173=some (.pointer 176):=by kernel_rfl
 go_enter Tryz.func149,Tryz.ntmps149
 go_wp2
 rw[Lib.run_neq_ptr_same w _ O z]
 go_wp2
 go_end0
 exact⟨rfl,rfl⟩
def Tryz.cc_fresh(b:Nat)(w:World)(h0:w.cell? ⟨b,0,none⟩=some (.pointer none))(z:w.shape? b=some (176,2))(hfz:w.frozen? ⟨b,0,none⟩=false):
 Calls Tryz.prog 149 #[.pointer (some ⟨b,0,none⟩)] w λe w'=>e= .returned (.tuple #[])/\w'=w.setCell ⟨b,0,none⟩ (.pointer (some ⟨b,0,none⟩)):=by
 obtain⟨j,Q,O⟩:=CT.1 Tryz.bldI;have Z:Tryz.prog.underlying 173=some (.pointer 176):=by kernel_rfl
 have u2:Tryz.prog.underlying 252=some .unsafePointer:=by kernel_rfl
 go_enter Tryz.func149,Tryz.ntmps149
 go_wp2
 rw[Lib.run_to_unsafe w ⟨b,0,none⟩ Z u2 Q (by rw[O];decide) z (Nat.zero_lt_succ 1)];simp only[Result.andThen];rw[Oper.upon_value]
 go_wp2
 rw[run_callFunc_extern Tryz.func178 (by kernel_rfl) (by kernel_rfl) (by kernel_rfl) (e:=Extern.AbiNoEscape.same) (by kernel_rfl)];rw[Lib.run_noEscape];simp only[Result.andThen];rw[Oper.upon_value]
 go_wp2
 rw[Lib.run_from_unsafe w ⟨b,0,none⟩ u2 Z Q z Tryz.bldL];simp only[Result.andThen];rw[Oper.upon_value]
 go_wp2
 go_end0
 exact⟨rfl,rfl⟩
def SS{P:Program}{e:TypeId}(O:P.cellsOf e=1)(z off n:Nat)(hn:off+n<=z):liesAt P P.depth e z off e n=true:=by
 have hd:P.depth=(2*(P.types.size+Made.depth)+1)+1:=rfl;rw[hd];simp only[liesAt,Iq];left;rw[hd];simp[rowAt,O,hn,sameLayout,Nat.mod_one]
def Qat7{P:Program}(w:World)(pt it ty e:TypeId)(hp:P.underlying pt=some (.pointer e))(hc:P.cellsOf e=1)(g q cells:Nat)(ad:w.shape? g=some (e,cells))(l:List UInt8)(h0:l≠[])(hn:q+l.length<=cells)(af:l.length<=9223372036854775807)
 (z: ∀j x,l[j]? =some x->w.cell? ((⟨g,q,none⟩:Addr).add j)=some (.int .u8 x.toNat)):
 (Builtin.unsafeString_ #[pt,it] ty #[.pointer (some ⟨g,q,none⟩),.int .i64 l.length]).run P w= .ok (.string ⟨l.toArray⟩) (w.freeze ⟨g,q,none⟩ l.length):=by
 have hl:l.length≠0:=by simpa using h0
 have ac:=run_loadBytes (P:=P) w l ⟨g,q,none⟩ .empty z;have O:=SS (P:=P) hc (cells/P.cellsOf e) q l.length (by rw[hc];simpa using hn);have Q: ¬(9223372036854775807:Int)<(l.length:Int):=by omega
 have Z:Builtin.unsafeString_ #[pt,it] ty #[.pointer (some ⟨g,q,none⟩),.int .i64 l.length]=
  (do
   let n <-asInt (.int .i64 l.length)
   if n<0 then runtimePanic (.error "unsafe.String: len out of range")
   if n>IntKind.i64.max then unsupported (.unsafePointer "String: a length above the largest int")
   if n=0 then pure (.string .empty)
   else if <-variablesAt ⟨g,q,none⟩ (<-elemOf pt) n.toNat then do
    let s <-loadBytes ⟨g,q,none⟩ .empty n.toNat
    freeze ⟨g,q,none⟩ n.toNat
    pure (.string s)
   else unsupported (.unsafePointer "String: not so many bytes at ptr")):=rfl
 rw[Z];have aa:IntKind.i64.max=9223372036854775807:=rfl;have ab: ¬(l.length:Int)<0:=by omega
 simp[asInt,asIntOf,aa,Q,ab,hl,variablesAt,ad,elemOf,run_underlying hp,O,ac]
def Tryz.bld_str(b g q cap:Nat)(v0:Value)(l:List UInt8)(w:World)(h0:l≠[])(hb:w.heap[b]? =some (.cells #[v0,.slice (some ⟨g,q,none⟩) l.length cap] 176 (0,0)))(z:Array Value)
 (hg:w.heap[g]? =some (.cells z 5 (0,0)))(O:cap≠0)(hn:q+l.length<=z.size)(aa:l.length<=140737488355328)(Q: ∀j x,l[j]? =some x->z[q+j]? =some (.int .u8 x.toNat)):
 Calls Tryz.prog 112 #[.pointer (some ⟨b,0,none⟩)] w λe w'=>e= .returned (.string ⟨l.toArray⟩)/\w'=w.drew.freeze ⟨g,q,none⟩ l.length:=by
 have c1:w.drew.cell? ⟨b,1,none⟩=some (.slice (some ⟨g,q,none⟩) l.length cap):=by
  have:w.drew.heap[b]? =some (.cells #[v0,.slice (some ⟨g,q,none⟩) l.length cap] 176 (0,0)):=hb
  rw[Lib.cell_of_heap this];rfl
 have ab:(Builtin.unsafeSliceData_ #[174] 225 #[.slice (some ⟨g,q,none⟩) l.length cap]).run Tryz.prog w.drew= .ok (.pointer (some ⟨g,q,none⟩)) w.drew:=
  Lib.run_unsafeSliceData_row _ _ _ _ _ _ O
 have ac:(Builtin.unsafeString_ #[225,3] 9 #[.pointer (some ⟨g,q,none⟩),.int .i64 l.length]).run Tryz.prog w.drew= .ok (.string ⟨l.toArray⟩) (w.drew.freeze ⟨g,q,none⟩ l.length):=by
  have Z:w.drew.heap[g]? =some (.cells z 5 (0,0)):=hg;refine Qat7 w.drew 225 3 9 5 (by kernel_rfl) (by kernel_rfl) g q z.size (by simp[World.shape?,Z]) l h0 hn (by omega) ?_;intro j x hx;rw[Addr.add_lit,Lib.cell_of_heap Z];simpa using Q j x hx
 have Dd:Tryz.prog.follows .mixedOrders=true:=by kernel_rfl
 clear O hn aa Q hg
 go_enter Tryz.func112,Tryz.ntmps112
 go_wp2
 go_region_o
 all_goals (go_wp2;go_ret;exact⟨rfl,rfl⟩)
end Go.Proofs
namespace Go.Ae
open Go.Proofs
def bR(l:List UInt8):List (List D):=l.map λb=>[.int .u8 b.toNat]
def Dl(u:Bool):AV:=if u=true then .ptr 0 0 else .im .nilp
def Cs(a:Bool×List UInt8):Ap:=[(0,(true,.cells 176 [Dl a.1,.own 1])),(1,(true,.arr 5 1 (bR a.2)))]
def QJ(a:Bool×List UInt8)(j:Nat):Ak (Cs a) j=true↔j<2:=by
 simp only[Ak,Cs,hget];rcases (by omega:j=0\/j=1\/2<=j) with rfl|rfl|h
 .simp
 .simp
 .have h0:(0==j)=false:=by simp;omega
  have z:(1==j)=false:=by simp;omega
  simp[h0,z];omega
def U6{w:World}{b i:Nat}{v:Value}{vs:Array Value}{T:TypeId}{z:Nat×Nat}(h:w.heap[b]? =some (.cells vs T z)):(w.setCell ⟨b,i,none⟩ v).heap=w.heap.setIfInBounds b (.cells (vs.setIfInBounds i v) T z):=by
 apply ZdT;intro j;simp only[World.setCell,gN,Xf];by_cases e:b=j
 .subst e;have Q:=(Od.1 h).1;have O:w.heap[b]= .cells vs T z:=by simpa[GY Q] using h
  simp[Q,O]
 .simp[e]
def Zv{C:AU}{S:Au}(hW:Wf C S){m:Nat}{f:Ab}{lc:Ff}(hm:S.h m=some (true,f))(hl:S.ρ m=some lc){W':World}(Z:S.w.heap.size<=W'.heap.size)(af:W'.os=S.w.os)(ht:W'.tape=S.w.tape)(ab:W'.output=S.w.output)
 (hk: ∀b,b≠lc.b->b<S.w.heap.size->W'.heap[b]? =S.w.heap[b]?):
 Wf C ⟨S.ρ,S.ok,λn=>if n=m then none else S.h n,W'⟩/\Bv (λ_=>True) S ⟨S.ρ,S.ok,λn=>if n=m then none else S.h n,W'⟩:=by
 obtain⟨g1,g2⟩:=hW.loc m _ lc hm hl;simp only[BI] at g2;have ad: ∀b,S.ok b->W'.heap[b]? =S.w.heap[b]? :=λb z=>hk b (λe=>g2.1 (e▸z)) (hW.oks b z)
 have hP:Bv (λ_=>True) S ⟨S.ρ,S.ok,λn=>if n=m then none else S.h n,W'⟩:=by
  refine⟨λb z=>⟨z,ad b z⟩,λo _ e' Q=> ?_⟩;simp only at Q;split at Q
  .cases Q
  .exact⟨e',Q,rfl,rfl,rfl⟩
 refine⟨⟨af.trans hW.os,ht.trans hW.tape,ab.trans hW.output,DH hW.size Z,λb z hM=> ?_,hW.ok0,hW.ok1,λb z=>EJ (hW.oks b z) Z,λo e he=> ?_,λo e l O h2=> ?_,λo o' e e' l l' O h2 h3 h4 h5 h6=> ?_,hW.gl⟩,hP⟩
 .refine (hk b (λe=> ?_) (EJ z hW.size)).trans (hW.keep b z hM);rcases g2.2 with h|h
  .omega
  .exact hM (e▸h)
 .simp only at he;split at he
  .cases he
  .rename_i ac;refine Ho hP (λl aa=> ?_) e.2 (λ_ _=>trivial) (hW.obj o e he);have z:=(hW.loc o e l he aa).1;exact hk l.b (λe2=>ac (hW.inj o m _ _ l lc he hm aa hl e2 (by simp))) z
 .simp only at O;split at O
  .cases O
  .obtain⟨q1,q2⟩:=hW.loc o e l O h2;exact⟨EJ q1 Z,q2⟩
 .simp only at O h2;split at O
  .cases O
  .split at h2
   .cases h2
   .exact hW.inj o o' e e' l l' O h2 h3 h4 h5 h6
def ccC.ca(_:Bool×List UInt8):List AV:=[.ptr 0 0]
def ccC.H1(_:Bool×List UInt8):Ap:=[(0,(true,.cells 176 [.ptr 0 0,.own 1]))]
def ccK(j:Nat):Bool:=j==0
def ccC.row:A7:=AB ccC.ca Cs 2 (λ_=>True) ccK (λ_=> .im (.tup [])) ccC.H1 0
def ccC.ok:AC 149 ccC.row:=by
 rintro args h nx K ⟨a,τ,U,KL,bi,rfl,ak,hN,hK⟩;refine⟨Lp (by kernel_rfl),_,_,?_,hK⟩;intro C S vs R hW aw ay az aa ag;have Z:BE τ 2 nx 0=τ 0:=Ai (by omega);have an:BE τ 2 nx 1=τ 1:=Ai (by omega);have aj:Ak (Cs a) 0=true:=rfl;have a9:Ak (Cs a) 1=true:=rfl;simp only[ccC.ca,AH,AV.ren,Z,AJ,Aa] at aa;obtain⟨v0,r0,hv,⟨bh,av⟩,bg⟩:=aa;subst bg;have hvs:vs= #[v0]:=by apply Ix;simpa using hv
 subst hvs;have bc:h (τ 0)=some (true,.cells 176 [(Dl a.1).ren (BE τ 2 nx),.own (τ 1)]):=by
  have:=mO ak 0 _ (show ((0,(true,Ab.cells 176 [Dl a.1,.own 1])):Nat×Ao)∈Cs a by simp[Cs])
  simpa only[Z,Ab.ren,AH,AV.ren,an] using this
 have O:S.h (τ 0)=some (true,.cells 176 [(Dl a.1).ren (BE τ 2 nx),.own (τ 1)]):=by
  rw[aw (τ 0) (GZ _ (hN.u 0 aj)),bc]
 have aq: ∀n,n∈KL↔n=τ 0:=by
  intro n;constructor
  .intro hn;obtain⟨j,h1,h2,h3⟩:=hN.k1 n hn
   have:j=0:=by simpa[ccK] using h2
   rw[h3,this]
  .rintro rfl;exact hN.k2 0 aj rfl
 have ah:=hW.obj _ _ O;simp only[An] at ah;obtain⟨Q,cv,hρ,af,ba,hcl⟩:=ah;obtain⟨l',au,ax⟩:=av _ O;rw[hρ] at au;obtain rfl:=Ay au;rw[af] at ax;simp only[AJ] at hcl;obtain⟨p0,q0,a8,ab,p1,q1,be,a0,bf⟩:=hcl;subst bf be;have ao:cv= #[p0,p1]:=by apply Ix;simpa using a8
 subst ao ax;have z:S.w.heap[Q.b]? =some (.cells #[p0,p1] 176 (0,0)):=ba;have ac:S.w.cell? ⟨Q.b,0,none⟩=some p0:=by rw[Lib.cell_of_heap z];rfl
 cases hu:a.1 with
 |true=>
  rw[hu] at O ab;have hp:p0= .pointer (some ⟨Q.b,0,none⟩):=by
   simp only[Dl,BI,AV.ren,Z,Aa] at ab;obtain⟨l2,h2,h3⟩:=ab.2 _ O;rw[hρ] at h2;obtain rfl:=Ay h2;rw[h3,af]
  refine (Tryz.cc_used Q.b S.w (by rw[ac,hp])).mono ?_;rintro e w' ⟨rfl,rfl⟩;refine ag (.tuple #[]) S hW ?_ (Bv.refl _ _) ⟨#[],rfl,rfl⟩;funext n;simp only[Bk.appf,ccC.H1,AS,hget,Z,Ab.ren,AH,AV.ren,an];by_cases hn:n=τ 0
  .subst hn;simp only[Dl,BI,AV.ren,Z] at O;simp[O]
  .have h1:(τ 0==n)=false:=by simpa using λh=>hn h.symm
   have h2:KL.contains n=false:=by rw[<-Gi,FO,aq];exact hn
   simp only[h1,Bm,h2]
 |false=>
  rw[hu] at O ab;have hp:p0= .pointer none:=by simpa only[Dl,CE,Cr,AV.ren,Aa,rd] using ab
  refine (Tryz.cc_fresh Q.b S.w (by rw[ac,hp]) (by simp[World.shape?,z]) (Lib.frozen_of_heap z 0)).mono ?_;rintro e w' ⟨rfl,rfl⟩;have ai:=U6 (i:=0) (v:= .pointer (some ⟨Q.b,0,none⟩)) z;have ad:Ij S (τ 0) (.cells 176 [.ptr (τ 0) 0,.own (τ 1)]) (some Q) [τ 0] (S.w.setCell ⟨Q.b,0,none⟩ (.pointer (some ⟨Q.b,0,none⟩))):=ZQ hW O hρ ai rfl rfl rfl rfl rfl;have am:=WC hW ad;have bb:=(Od.1 z).1;have bj:τ 1≠τ 0:=λe=>by have:=hN.inj 1 0 a9 aj e;omega
  have bd:An (S.one (τ 0) (.cells 176 [.ptr (τ 0) 0,.own (τ 1)]) (some Q) [τ 0] (S.w.setCell ⟨Q.b,0,none⟩ (.pointer (some ⟨Q.b,0,none⟩)))) (some Q) (.cells 176 [.ptr (τ 0) 0,.own (τ 1)]):=by
   simp only[An];refine⟨Q,#[.pointer (some ⟨Q.b,0,none⟩),p1],rfl,af,?_,?_⟩
   .simp only[Au.hp,Au.one,ai,Xf,BI,bb];rfl
   .simp only[AJ];refine⟨_,_,rfl,?_,_,_,rfl,?_,rfl⟩
    .simp only[Aa];refine⟨rfl,λe he=>⟨Q,by simp[Au.one],by rw[af]⟩⟩
    .exact HA am _ _ (λo ho=>by
      simp only[AV.nms,Bz] at ho;exact .inl (by rw[O];simp)) a0
  refine ag (.tuple #[]) _ (ZY hW ad bd) ?_ ⟨am.ok,λn _=>am.nm n (.inl (by rw[O];simp))⟩ ⟨#[],rfl,rfl⟩;funext n;simp only[Au.one,Bk.appf,ccC.H1,AS,hget,Z,Ab.ren,AH,AV.ren,an];by_cases hn:n=τ 0
  .subst hn;simp
  .have h1:(τ 0==n)=false:=by simpa using λh=>hn h.symm
   have h2:KL.contains n=false:=by rw[<-Gi,FO,aq];exact hn
   simp only[h1,Bm,h2,hn,Cr,Bz]
def sC{ok:Nat->Prop}{hp:Nat->Option Obj}: ∀(l:List UInt8) (vs:List Value),rdr ok hp 1 (bR l) vs-> ∀(j:Nat) (x:UInt8),l[j]? =some x->vs[j]? =some (Value.int .u8 x.toNat)
 |[],_,_,j,x,h=>by simp at h
 |b::l,vs,h,j,x,z=>by
  simp only[bR,Bf,rdr,rdp] at h;obtain⟨_,⟨v,r,rfl,O,_⟩,Q⟩:=h;cases j with
  |zero=>
   simp only[G6,AI] at z⊢;subst z;simpa only[rd] using O
  |succ j=>
   rw[Ir] at z⊢;exact sC l r (by simpa[bR] using Q) j x z
def Sr{w:World}{g q n:Nat}(hn:n≠0):(∀b,b≠g->(w.freeze ⟨g,q,none⟩ n).heap[b]? =w.heap[b]?)/\(w.freeze ⟨g,q,none⟩ n).heap.size=w.heap.size/\(w.freeze ⟨g,q,none⟩ n).os=w.os/\(w.freeze ⟨g,q,none⟩ n).tape=w.tape/\(w.freeze ⟨g,q,none⟩ n).output=w.output:=by
 unfold World.freeze;rw[Af hn];refine⟨λb z=> ?_,by simp,rfl,rfl,rfl⟩;simp only[gN];rw[Af (λe=>z e.symm)]
def iC(j:Nat):Bool:=j==1
def bsC.r0(a:Bool×List UInt8):AV:= .im (.str ⟨a.2.toArray⟩)
def bsC.row:A7:=AB ccC.ca Cs 2 (λa=>a.2≠[]) iC bsC.r0 (λ_=>[]) 0
def bsC.ok:AC 112 bsC.row:=by
 rintro args h nx K ⟨a,τ,U,KL,ab,rfl,Z,hN,hK⟩;refine⟨Lp (by kernel_rfl),_,_,?_,hK⟩;intro C S vs R hW ac ay az Q an;have av:BE τ 2 nx 0=τ 0:=Ai (by omega);have aw:BE τ 2 nx 1=τ 1:=Ai (by omega);have ba:Ak (Cs a) 0=true:=rfl;have am:Ak (Cs a) 1=true:=rfl;simp only[ccC.ca,AH,AV.ren,av,AJ,Aa] at Q;obtain⟨v0,r0,hv,⟨bi,au⟩,bh⟩:=Q;subst bh;have hvs:vs= #[v0]:=by apply Ix;simpa using hv
 subst hvs;have bc:h (τ 0)=some (true,.cells 176 [(Dl a.1).ren (BE τ 2 nx),.own (τ 1)]):=by
  have:=mO Z 0 _ (show ((0,(true,Ab.cells 176 [Dl a.1,.own 1])):Nat×Ao)∈Cs a by simp[Cs])
  simpa only[av,Ab.ren,AH,AV.ren,aw] using this
 have ah:S.h (τ 0)=some (true,.cells 176 [(Dl a.1).ren (BE τ 2 nx),.own (τ 1)]):=by
  rw[ac (τ 0) (GZ _ (hN.u 0 ba)),bc]
 have bd:h (τ 1)=some (true,.arr 5 1 (bR a.2)):=by
  have:=mO Z 1 _ (show ((1,(true,Ab.arr 5 1 (bR a.2))):Nat×Ao)∈Cs a by simp[Cs])
  simpa only[aw,Ab.ren] using this
 have ad:S.h (τ 1)=some (true,.arr 5 1 (bR a.2)):=by
  rw[ac (τ 1) (GZ _ (hN.u 1 am)),bd]
 have ao: ∀n,n∈KL↔n=τ 1:=by
  intro n;constructor
  .intro hn;obtain⟨j,h1,h2,h3⟩:=hN.k1 n hn
   have:j=1:=by simpa[iC] using h2
   rw[h3,this]
  .rintro rfl;exact hN.k2 1 am rfl
 have aa:=hW.obj _ _ ah;simp only[An] at aa;obtain⟨lc,cv,hρ,be,bb,hcl⟩:=aa;obtain⟨l',aq,ax⟩:=au _ ah;rw[hρ] at aq;obtain rfl:=Ay aq;rw[be] at ax;simp only[AJ] at hcl;obtain⟨p0,q0,a9,bl,p1,q1,bf,aj,bg⟩:=hcl;subst bg bf;have ak:cv= #[p0,p1]:=by apply Ix;simpa using a9
 subst ak ax;have O:=hW.obj _ _ ad;simp only[Aa] at aj;have z:=aj.2 _ ad;have ai:(bR a.2).length=a.2.length:=by simp[bR]
 have bj:0<a.2.length:=gD.2 ab;cases hρ1:S.ρ (τ 1) with
 |none=>
  rw[hρ1] at O;simp only[An] at O
  have:=BV List.length O.2
  rw[ai] at this;rw[FA] at this;omega
 |some l1=>
  rw[hρ1] at O z;simp only[An,Ab.len] at O z;obtain⟨k1,k2,af,k3,k4,k5⟩:=O;rw[ai] at k1 k2 z;simp only[Hy] at k1;subst z;have a8: ∀j x,a.2[j]? =some x->af[l1.p+j]? =some (Value.int .u8 x.toNat):=λj x hx=>by
   have:=sC a.2 _ k5 j x hx
   rw[EQ] at this;simpa using this
  refine (Tryz.bld_str lc.b l1.b l1.p l1.cap p0 a.2 S.w ab bb af k3 (by omega) (by omega) k1 a8).mono ?_;rintro e w' ⟨rfl,rfl⟩;obtain⟨f1,f2,f3,f4,f5⟩:=Sr (w:=S.w.drew) (g:=l1.b) (q:=l1.p) (n:=a.2.length) (by omega);obtain⟨a0,ag⟩:=Zv hW ad hρ1 (W':=S.w.drew.freeze ⟨l1.b,l1.p,none⟩ a.2.length) (by rw[f2];exact AL _) f3 f4 f5 (λb hb _=>f1 b hb);refine an (.string ⟨a.2.toArray⟩) _ a0 ?_ ⟨ag.ok,λn _=>ag.nm n trivial⟩ (by simp only[bsC.r0,AV.ren,Aa,rd]);funext n;simp only[Bk.appf,AS,hget];by_cases hn:n=τ 1
  .subst hn
   have:KL.contains (τ 1)=true:=by rw[FO,ao]
   rw[Ai rfl,this];rfl
  .have h2:KL.contains n=false:=by rw[<-Gi,FO,ao];exact hn
   simp only[h2,hn,Cr,Bm]
def Gn(n:Int):ByteArray:=⟨(Lib.itoa n).toArray⟩
def kX{C:AU}{S:Au}(hW:Wf C S):Lib.TabIs Tryz.prog S.w "internal/strconv.uint64pow10" .u64 Lib.pow10Tab:=by
 obtain⟨_,T,z,h⟩:=hW.gp;have O:Tryz.prog.globalNamed "internal/strconv.uint64pow10" =some 0:=by kernel_rfl
 have h':S.w.heap[0]? =some (.cells zJ T z):=h;unfold Lib.TabIs World.var?;rw[O];simp only[G7,h'];rfl
def Sk{C:AU}{S:Au}(hW:Wf C S){W':World}(Q:S.w.heap.size<=W'.heap.size)(aa:W'.os=S.w.os)(ht:W'.tape=S.w.tape)(O:W'.output=S.w.output)(hk: ∀b,b<S.w.heap.size->W'.heap[b]? =S.w.heap[b]?):
 ∃(Z:AU) (S1:Au),Z.w=S.w/\Z.ok=S.ok/\(∀b,¬Z.M b)/\Wf Z S1/\S1.w=W':=by
 refine⟨⟨S.w,λ_=>False,S.ok,0,λ_=>none,λ_=>none,[]⟩,⟨λ_=>none,S.ok,λ_=>none,W'⟩,rfl,rfl,λ_ h=>h,?_,rfl⟩;exact⟨aa,ht,O,Q,λb hb _=>hk b hb,λ_ h=>h,λ_ h=> .inl h,λb hb=>EJ (hW.oks b hb) Q,λo e z=>(by cases z),λo e l z=>(by cases z),λo o' e e' l l' z=>(by cases z),hW.glN λ_ h=>h.elim⟩
def fmt_.fv(a:Int×Int):ByteArray:=(λn _=>Gn n) (a.1) (a.2)
def fmt_.row:A7:=Dy (b2 qI qI) rT (λa=> -9223372036854775808<=a.1/\a.1<=9223372036854775807/\a.2=10) fmt_.fv
def fmt_.q:=CP (R:=fmt_.row) rfl
def fmt_.ok:AC 150 fmt_.row:=by
 refine Quy (by kernel_rfl) (b2 qI qI).l rT.l λa O C S vs RR hW Q z=> ?_
 obtain⟨n,b⟩:=a;obtain⟨Z,h2,h3⟩:=O;simp only at Z h2 h3;subst h3;simp only[b2,qI,E7,HY,rd] at Q;obtain⟨v0,r0,hv,rfl,v1,r1,rfl,rfl,rfl⟩:=Q;have hvs:vs= #[.int .i64 n,.int .i64 10]:=by apply Ix;simpa using hv
 subst hvs;refine (Any.strconv_FormatInt_10 Tryz.fmtL n Z h2 S.w (kX hW)).mono ?_;rintro e w' ⟨rfl,k,os,rfl⟩;obtain⟨C0,S1,e1,e2,e3,e4,e5⟩:=Sk hW (W':=Sort.grow (S.w.drewN k) os) (by simp[Sort.grow]) rfl rfl rfl (λb hb=>by
  simp only[Sort.grow];rw[ZdI (by simpa using hb)]
  rfl)
 have:=z (.string (Gn n)) C0 S1 (.str (Gn n)) e1 e2 e3 e4 rfl (by simp only[rd])
 rw[e5] at this;exact this
end Go.Ae
