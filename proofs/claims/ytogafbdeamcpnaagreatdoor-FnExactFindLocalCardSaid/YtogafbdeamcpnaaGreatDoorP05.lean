/- Lemmas. Conditions: none. -/
import Derived.Test.YtogafbdeamcpnaaGreatDoorP04
set_option linter.all false
set_option maxHeartbeats 8000000
set_option maxRecDepth 100000
namespace Go.Ae
def ef_fit1(ks:List KK)(ds:List D):KT.fit ⟨true,ks⟩ (.agg ds)=fitL ks ds:=rfl
def ef_fit2(ks:List KK)(k:IntKind)(n:Int):KT.fit ⟨false,ks⟩ (.int k n)=fitL ks [.int k n]:=rfl
def ef_fit3(ks:List KK)(s:ByteArray):KT.fit ⟨false,ks⟩ (.str s)=fitL ks [.str s]:=rfl
def ef_fit4(ks:List KK)(s:Bool):KT.fit ⟨false,ks⟩ (.bool s)=fitL ks [.bool s]:=rfl
def ef_resV0:resV []= .tup []:=rfl
def ef_resV2(x y:AV):resV [x,y]= .tup [x,y]:=rfl
def ef_resV3(x y z:AV):resV [x,y,z]= .tup [x,y,z]:=rfl
def ef_resV4(x y z w:AV):resV [x,y,z,w]= .tup [x,y,z,w]:=rfl
def Sc(t:Option Nat)(z:Bool)(s:Ac)(O G:Ac->Prop)(b:Bool):I4 t z s O G (.im (.bool b))=if b=z then O (s.put t (.im (.bool z))) else G (s.put t (.im (.bool (!z)))):=by
 cases b<;>cases z<;>simp[I4]
def ef_condVC(A B:Be->Ac->Prop)(Q:Be)(s:Ac)(b:Bool):Pq A B Q s (.im (.bool b))=if b=true then A Q s else B Q s:=by
 cases b<;>simp[Pq]
def ef_pickV(c:Bool)(K:Kont)(a b:AV):pickV c K a b=if c=true then K a {} else K b {}:=by
 cases c<;>simp[pickV]
def ef_tget(m:Nat)(x:AV)(r:List (Nat×AV))(n:Nat):tget ((m,x)::r) n=if m=n then x else tget r n:=by
 by_cases h:m=n
 .subst h;simp[tget]
 .have:(m==n)=false:=by simpa using h
  simp[tget,this,h]
def ef_hget(m:Nat)(x:Ent)(r:Ag)(n:Nat):hget ((m,x)::r) n=if m=n then some x else hget r n:=by
 by_cases h:m=n
 .subst h;simp[hget]
 .have:(m==n)=false:=by simpa using h
  simp[hget,this,h]
def ef_hdel(m:Nat)(x:Ent)(r:Ag)(ks:List Nat):hdel ((m,x)::r) ks=if ks.contains m=true then hdel r ks else (m,x)::hdel r ks:=by
 cases h:ks.contains m<;>simp only[hdel,h]<;>simp
def ef_ckP(cl:List (List Nat))(j:Nat)(use touch z:List Nat)(f:Fp):ckP cl j use touch z f=if (E9 (use++touch) f.touch && (E9 touch f.use && outN f.nx f.cnt z))=true then true else ordB cl f.i j:=by
 unfold ckP;cases (E9 (use++touch) f.touch && (E9 touch f.use && outN f.nx f.cnt z))<;>rfl
def nv_int(k:IntKind)(n:Int):nilV (.int k n)=0:=rfl
def nv_bool(b:Bool):nilV (.bool b)=0:=rfl
def nv_str(s:ByteArray):nilV (.string s)=0:=rfl
def nv_agg(cs:Array Value):nilV (.agg cs)=0:=rfl
def ns_int(k:IntKind)(n:Int):GN (.int k n)=false:=rfl
def ns_bool(b:Bool):GN (.bool b)=false:=rfl
def ns_str(s:ByteArray):GN (.string s)=false:=rfl
def ns_agg(cs:Array Value):GN (.agg cs)=false:=rfl
def ns_ptr(a:Option Addr):GN (.pointer a)=false:=rfl
def ns_map(a:Option Nat):GN (.map a)=false:=rfl
def ns_nf:GN .nilFunc=false:=rfl
def ns_ni:GN .nilIface=false:=rfl
section
variable (P:Program)(V:B0)(tm:List (Nat×AV))(h:Nat->Option Ent)(nx:Nat)(ty:TypeId)(K:Kont)
def sc_move(x:Operand):BV P V tm h nx ty K (.move x)=step P V true tm h nx ty K (.move x):=rfl
def sc_assign(x:Operand):BV P V tm h nx ty K (.assign x)=step P V true tm h nx ty K (.assign x):=rfl
def sc_pick(c:Operand)(a:Operand)(b:Operand):BV P V tm h nx ty K (.pick c a b)=step P V true tm h nx ty K (.pick c a b):=rfl
def sc_alloc(t:TypeId):BV P V tm h nx ty K (.alloc t)=step P V true tm h nx ty K (.alloc t):=rfl
def sc_box(t:TypeId)(x:Operand):BV P V tm h nx ty K (.box t x)=step P V true tm h nx ty K (.box t x):=rfl
def sc_build(t:TypeId)(ps:Array (Nat×Operand)):BV P V tm h nx ty K (.build t ps)=step P V true tm h nx ty K (.build t ps):=rfl
def Yx(t:TypeId)(n:Nat)(ps:Array (Nat×Operand)):BV P V tm h nx ty K (.buildSlice t n ps)=step P V true tm h nx ty K (.buildSlice t n ps):=rfl
def sc_load(t:TypeId)(x:Operand):BV P V tm h nx ty K (.load t x)=step P V true tm h nx ty K (.load t x):=rfl
def sc_store(t:TypeId)(x:Operand)(v:Operand):BV P V tm h nx ty K (.store t x v)=step P V true tm h nx ty K (.store t x v):=rfl
def YR(x:Operand):BV P V tm h nx ty K (.nilCheck x)=step P V true tm h nx ty K (.nilCheck x):=rfl
def sc_binOp(op:BinOp)(t:TypeId)(x:Operand)(y:Operand)(u:TypeId):BV P V tm h nx ty K (.binOp op t x y u)=step P V true tm h nx ty K (.binOp op t x y u):=rfl
def sc_unOp(op:UnOp)(t:TypeId)(x:Operand):BV P V tm h nx ty K (.unOp op t x)=step P V true tm h nx ty K (.unOp op t x):=rfl
def RN(s:TypeId)(t:TypeId)(x:Operand):BV P V tm h nx ty K (.convert s t x)=step P V true tm h nx ty K (.convert s t x):=rfl
def YT(f:Fn)(a:Array Operand)(c:Array Operand):BV P V tm h nx ty K (.makeFunc f a c)=step P V true tm h nx ty K (.makeFunc f a c):=rfl
def RL(t:TypeId)(r:Option Operand):BV P V tm h nx ty K (.makeMap t r)=step P V true tm h nx ty K (.makeMap t r):=rfl
def YE(t:TypeId)(l:Operand)(c:Operand):BV P V tm h nx ty K (.makeSlice t l c)=step P V true tm h nx ty K (.makeSlice t l c):=rfl
def Y8(t:TypeId)(x:Operand)(f:Nat):BV P V tm h nx ty K (.fieldAddr t x f)=step P V true tm h nx ty K (.fieldAddr t x f):=rfl
def YD(t:TypeId)(x:Operand)(i:Operand):BV P V tm h nx ty K (.indexAddr t x i)=step P V true tm h nx ty K (.indexAddr t x i):=rfl
def sc_index(t:TypeId)(x:Operand)(i:Operand):BV P V tm h nx ty K (.index t x i)=step P V true tm h nx ty K (.index t x i):=rfl
def sc_lookup(t:TypeId)(m:Operand)(k:Operand)(ok:Bool):BV P V tm h nx ty K (.lookup t m k ok)=step P V true tm h nx ty K (.lookup t m k ok):=rfl
def YJ(t:TypeId)(m:Operand)(k:Operand)(v:Operand):BV P V tm h nx ty K (.mapUpdate t m k v)=step P V true tm h nx ty K (.mapUpdate t m k v):=rfl
def Se(x:Operand)(i:Nat):BV P V tm h nx ty K (.extract x i)=step P V true tm h nx ty K (.extract x i):=rfl
def sc_call(c:Call):BV P V tm h nx ty K (.call c)=step P V true tm h nx ty K (.call c):=rfl
def sc_slice(t:TypeId)(x:Operand)(lo:Option Operand)(z:Option Operand)(G:Option Operand):BV P V tm h nx ty K (.slice t x lo z G)=step P V true tm h nx ty K (.slice t x lo z G):=rfl
def sc_range(t:TypeId)(x:Operand):BV P V tm h nx ty K (.range t x)=step P V true tm h nx ty K (.range t x):=rfl
def sc_next(x:Operand)(b:Bool):BV P V tm h nx ty K (.next x b)=step P V true tm h nx ty K (.next x b):=rfl
def sc_entry(x:Operand):BV P V tm h nx ty K (.entry x)=step P V true tm h nx ty K (.entry x):=rfl
def YU(t:TypeId)(x:Operand):BV P V tm h nx ty K (.makeChan t x)=step P V true tm h nx ty K (.makeChan t x):=rfl
def Yp(t:TypeId)(x:Operand):BV P V tm h nx ty K (.makeInterface t x)=step P V true tm h nx ty K (.makeInterface t x):=rfl
def sc_panic(x:Operand):BV P V tm h nx ty K (.panic x)=step P V true tm h nx ty K (.panic x):=rfl
def Yy(x:Operand)(t:TypeId)(u:TypeId)(ok:Bool):BV P V tm h nx ty K (.typeAssert x t u ok)=step P V true tm h nx ty K (.typeAssert x t u ok):=rfl
end
def J{a b:Prop}(x:a)(y:b):a/\b:=⟨x,y⟩
def VC0:=J @tget.eq_1<|J @hget.eq_1<|J @hdel.eq_1<|J @Ac.put.eq_1<|J @Ac.put.eq_2<|J @Ac.app_nr<|J @kD.eq_1<|J @kD.eq_2<|J @kD.eq_3<|J @kD.eq_4<|J @kD.eq_5<|J @kD.eq_6<|J @kD.eq_7<|J @kD.eq_8<|J @kD.eq_9<|J @evO.eq_1<|J @evO.eq_2<|J @evO.eq_3<|J @evO.eq_4<|J @D.cells.eq_1<|J @D.cells.eq_2<|J @D.cells.eq_3<|J @D.cells.eq_4<|J @D.cells.eq_5<|J @D.cells.eq_6<|J @D.cells.eq_7<|J @D.cells.eq_8<|J @D.cells.eq_9<|J @D.cells.eq_10<|@D.cells.eq_11
def VC1:=J @D.cells.eq_12<|J @D.cells.eq_13<|J @D.cells.eq_14<|J @D.cells.eq_15<|J @D.cells.eq_16<|J @D.cells.eq_17<|J @AV.cells.eq_1<|J @AV.cells.eq_2<|J @AV.cells.eq_3<|J @AV.cells.eq_4<|J @AV.cells.eq_5<|J @AV.cells.eq_6<|J @AV.cells.eq_7<|J @AV.cells.eq_8<|J @AV.cells.eq_9<|J @AV.cells.eq_10<|J @AV.cells.eq_11<|J @AV.cells.eq_12<|J @D.one.eq_1<|J @D.one.eq_2<|J @D.one.eq_3<|J @D.one.eq_4<|J @D.one.eq_5<|J @D.one.eq_6<|J @D.one.eq_7<|J @D.one.eq_8<|J @D.one.eq_9<|J @D.one.eq_10<|J @D.one.eq_11<|@D.one.eq_12
def VC2:=J @D.one.eq_13<|J @D.one.eq_14<|J @D.one.eq_15<|J @D.one.eq_16<|J @D.one.eq_17<|J @AV.one.eq_1<|J @AV.one.eq_2<|J @AV.one.eq_3<|J @AV.one.eq_4<|J @AV.one.eq_5<|J @AV.one.eq_6<|J @AV.one.eq_7<|J @AV.one.eq_8<|J @AV.one.eq_9<|J @AV.one.eq_10<|J @AV.one.eq_11<|J @AV.one.eq_12<|J @GX.eq_1<|J @GX.eq_2<|J @AV.asD.eq_1<|J @AV.asD.eq_2<|J @AV.asD.eq_3<|J @AV.asD.eq_4<|J @AV.asD.eq_5<|J @AV.asD.eq_6<|J @AV.asD.eq_7<|J @AV.asD.eq_8<|J @AV.asD.eq_9<|J @AV.asD.eq_10<|@AV.asD.eq_11
def VC3:=J @AV.asD.eq_12<|J @FY.eq_1<|J @FY.eq_2<|J @FY.eq_3<|J @BQ.eq_1<|J @BQ.eq_2<|J @mkO.eq_1<|J @mkO.eq_2<|J @hdV.eq_1<|J @hdV.eq_2<|J @hdD.eq_1<|J @hdD.eq_2<|J @mkV.eq_1<|J @mkD.eq_1<|J @AY.eq_1<|J @D.beq.eq_1<|J @D.beq.eq_2<|J @D.beq.eq_3<|J @D.beq.eq_4<|J @D.beql.eq_1<|J @D.beql.eq_2<|J @lk.eq_1<|J @lk.eq_2<|J @upd.eq_1<|J @upd.eq_2<|J @del.eq_1<|J @del.eq_2<|J @Lg.eq_1<|J @Py.eq_1<|@ldPtr.eq_1
def VC4:=J @ldPtr.eq_2<|J @ldElt.eq_1<|J @ldElt.eq_2<|J @IJ.eq_1<|J @IJ.eq_2<|J @IJ.eq_3<|J @IJ.eq_4<|J @kStD.eq_1<|J @kStD.eq_2<|J @UD.eq_1<|J @UI.eq_1<|J @sdPtr.eq_1<|J @sdElt.eq_1<|J @sdElt.eq_2<|J @Ox.eq_1<|J @Ox.eq_2<|J @QN.eq_1<|J @alv.eq_1<|J @alv.eq_2<|J @faAt.eq_1<|J @faAt.eq_2<|J @faAt.eq_3<|J @faOf.eq_1<|J @faOf.eq_2<|J @faK.eq_1<|J @PV.eq_1<|J @kRef.eq_1<|J @iaObj.eq_1<|J @iaObj.eq_2<|@iaSl.eq_1
def VC5:=J @iaSl.eq_2<|J @iaArr.eq_1<|J @iaArr.eq_2<|J @Az.eq_1<|J @Az.eq_2<|J @iaK.eq_1<|J @iaK.eq_2<|J @S5.eq_1<|J @ixArr.eq_1<|J @kCh.eq_1<|J @ixK.eq_1<|J @ixK.eq_2<|J @Uy.eq_1<|J @shK.eq_1<|J @shK.eq_2<|J @shK.eq_3<|J @shK.eq_4<|J @shK.eq_5<|J @shK.eq_6<|J @shK.eq_7<|J @shK.eq_8<|J @shK.eq_9<|J @shK.eq_10<|J @shK.eq_11<|J @shK.eq_12<|J @shK.eq_13<|J @shK.eq_14<|J @shK.eq_15<|J @shK.eq_16<|@shK.eq_17
def VC6:=J @Et.eq_1<|J @Et.eq_2<|J @Et.eq_3<|J @Et.eq_4<|J @Et.eq_5<|J @Et.eq_6<|J @Et.eq_7<|J @Et.eq_8<|J @Et.eq_9<|J @Et.eq_10<|J @Et.eq_11<|J @Et.eq_12<|J @Et.eq_13<|J @Et.eq_14<|J @eqB.eq_1<|J @eqNilS.eq_1<|J @Po.eq_1<|J @Po.eq_2<|J @Po.eq_3<|J @Po.eq_4<|J @HI.eq_1<|J @HI.eq_2<|J @HI.eq_3<|J @IF.eq_1<|J @IF.eq_2<|J @IF.eq_3<|J @FB.eq_1<|J @FB.eq_2<|J @FB.eq_3<|@stBoo.eq_1
def VC7:=J @stBoo.eq_2<|J @stBoK.eq_1<|J @stBoK.eq_2<|J @OZ.eq_1<|J @OZ.eq_2<|J @OU.eq_1<|J @OU.eq_2<|J @Jp.eq_1<|J @Jp.eq_2<|J @Jp.eq_3<|J @Ln.eq_1<|J @Ln.eq_2<|J @Ln.eq_3<|J @Ln.eq_4<|J @stUn.eq_1<|J @stUn.eq_2<|J @Jv.eq_1<|J @Jv.eq_2<|J @DM.eq_1<|J @DM.eq_2<|J @DM.eq_3<|J @plArr.eq_1<|J @plStr.eq_1<|J @F6.eq_1<|J @F6.eq_2<|J @bdArr.eq_1<|J @bdK.eq_1<|J @bdK.eq_2<|J @Rd.eq_1<|@DW.eq_1
def VC8:=J @DW.eq_2<|J @repZ.eq_1<|J @repZ.eq_2<|J @bsObj.eq_1<|J @bsObj.eq_2<|J @bsEnd.eq_1<|J @bsEnd.eq_2<|J @bsE.eq_1<|J @bsK.eq_1<|J @PN.eq_1<|J @msE.eq_1<|J @msK.eq_1<|J @PW.eq_1<|J @Js.eq_1<|J @Js.eq_2<|J @BP.eq_1<|J @BP.eq_2<|J @imR.eq_1<|J @allD.eq_1<|J @allD.eq_2<|J @Src.okOne.eq_1<|J @Src.okOne.eq_2<|J @Src.okOne.eq_3<|J @F3.eq_1<|J @F3.eq_2<|J @F3.eq_3<|J @apD.eq_1<|J @apD.eq_2<|J @apD.eq_3<|@apA.eq_1
def VC9:=J @apA.eq_2<|J @apA.eq_3<|J @apObj.eq_1<|J @apObj.eq_2<|J @apTo.eq_1<|J @apTo.eq_2<|J @apE.eq_1<|J @apK.eq_1<|J @TL.eq_1<|J @kInt.eq_1<|J @U9.eq_1<|J @U9.eq_2<|J @lenObjM.eq_1<|J @lenW.eq_1<|J @lenW.eq_2<|J @Lm.eq_1<|J @Lm.eq_2<|J @Lm.eq_3<|J @lenStr.eq_1<|J @Pu.eq_1<|J @Pu.eq_2<|J @Pu.eq_3<|J @lenK.eq_1<|J @lenK.eq_2<|J @lenK.eq_3<|J @lenK.eq_4<|J @lenK.eq_5<|J @lenK.eq_6<|J @lenK.eq_7<|@lenK.eq_8
def VC10:=J @lenK.eq_9<|J @Ls.eq_1<|J @Rl.eq_1<|J @kMiss.eq_1<|J @luObj.eq_1<|J @Lu.eq_1<|J @Lu.eq_2<|J @Lu.eq_3<|J @luKt.eq_1<|J @luKt.eq_2<|J @luE.eq_1<|J @luK.eq_1<|J @QB.eq_1<|J @muObj.eq_1<|J @muKt.eq_1<|J @muKt.eq_2<|J @muK.eq_1<|J @muK.eq_2<|J @muK.eq_3<|J @muK.eq_4<|J @muK.eq_5<|J @muK.eq_6<|J @muK.eq_7<|J @muK.eq_8<|J @muK.eq_9<|J @muF.eq_1<|J @muOwn.eq_1<|J @Oj.eq_1<|J @Oj.eq_2<|@deObj.eq_1
def VC11:=J @deKt.eq_1<|J @deKt.eq_2<|J @deK.eq_1<|J @deK.eq_2<|J @deK.eq_3<|J @deK.eq_4<|J @deK.eq_5<|J @deK.eq_6<|J @deK.eq_7<|J @deK.eq_8<|J @deK.eq_9<|J @Q8.eq_1<|J @exA.eq_1<|J @exA.eq_2<|J @exD.eq_1<|J @exD.eq_2<|J @LQ.eq_1<|J @LQ.eq_2<|J @LR.eq_1<|J @LR.eq_2<|J @LR.eq_3<|J @LR.eq_4<|J @G6.eq_1<|J @G6.eq_2<|J @tkO.eq_1<|J @tkO.eq_2<|J @Sx.eq_1<|J @Ss.eq_1<|J @GN.eq_1<|@I6.eq_1
def VC12:=J @I6.eq_2<|J @I6.eq_3<|J @I6.eq_4<|J @Qj.eq_1<|J @Qj.eq_2<|J @Qy.eq_1<|J @Ru.eq_1<|J @Rc.eq_1<|J @stBox.eq_1<|J @nilV.eq_1<|J @nilV.eq_2<|J @nilV.eq_3<|J @nilV.eq_4<|J @nilC.eq_1<|J @nilC.eq_2<|J @nilC.eq_3<|J @nilC.eq_4<|J @Ml.eq_1<|J @Ml.eq_2<|J @GB.eq_1<|J @GB.eq_2<|J @Io.eq_1<|J @Io.eq_2<|J @stIfc.eq_1<|J @Im.eq_1<|J @Im.eq_2<|J @stInv.eq_1<|J @Jz.eq_1<|J @Jz.eq_2<|@Jz.eq_3
def VC13:=J @Jz.eq_4<|J @Jz.eq_5<|J @stConv.eq_1<|J @OS.eq_1<|J @OS.eq_2<|J @DF.eq_1<|J @DF.eq_2<|J @strI.eq_1<|J @byEnd.eq_1<|J @byEnd.eq_2<|J @byObj.eq_1<|J @byAV.eq_1<|J @byEl.eq_1<|J @byKd.eq_1<|J @bySrc.eq_1<|J @bySrc.eq_2<|J @TK.isStr.eq_1<|J @TK.isStr.eq_2<|J @TK.isStr.eq_3<|J @TK.isStr.eq_4<|J @TK.isStr.eq_5<|J @TK.isStr.eq_6<|J @TK.isStr.eq_7<|J @TK.isStr.eq_8<|J @TK.isStr.eq_9<|J @isStr.eq_1<|J @isStr.eq_2<|J @HU.eq_1<|J @stMax.eq_1<|@TK.isSl.eq_1
def VC14:=J @TK.isSl.eq_2<|J @TK.isSl.eq_3<|J @TK.isSl.eq_4<|J @TK.isSl.eq_5<|J @TK.isSl.eq_6<|J @TK.isSl.eq_7<|J @TK.isSl.eq_8<|J @TK.isSl.eq_9<|J @Qr.eq_1<|J @evOo.eq_1<|J @evOo.eq_2<|J @bdV.eq_1<|J @bdV.eq_2<|J @slIm.eq_1<|J @slIm.eq_2<|J @slIm.eq_3<|J @slStr.eq_1<|J @slStr.eq_2<|J @slStr.eq_3<|J @Pp.eq_1<|J @Pp.eq_2<|J @slWin.eq_1<|J @slWin.eq_2<|J @slWin.eq_3<|J @slOwn.eq_1<|J @slE.eq_1<|J @slE.eq_2<|J @slKs.eq_1<|J @slK.eq_1<|@slK.eq_2
def VC15:=J @slK.eq_3<|J @slK.eq_4<|J @slK.eq_5<|J @slK.eq_6<|J @slK.eq_7<|J @slK.eq_8<|J @slK.eq_9<|J @QZ.eq_1<|J @cySO.eq_1<|J @cySW.eq_1<|J @Lq.eq_1<|J @Lq.eq_2<|J @Lq.eq_3<|J @cyDO.eq_1<|J @cyDW.eq_1<|J @H5.eq_1<|J @H5.eq_2<|J @Li.eq_1<|J @cyGo.eq_1<|J @cyGo.eq_2<|J @cyGo.eq_3<|J @cyK.eq_1<|J @cyK.eq_2<|J @cyK.eq_3<|J @cyK.eq_4<|J @cyK.eq_5<|J @cyK.eq_6<|J @cyK.eq_7<|J @cyK.eq_8<|@cyK.eq_9
def VC16:=J @Rs.eq_1<|J @clGo.eq_1<|J @clGo.eq_2<|J @clK.eq_1<|J @clK.eq_2<|J @clK.eq_3<|J @clK.eq_4<|J @clK.eq_5<|J @clK.eq_6<|J @clK.eq_7<|J @clK.eq_8<|J @clK.eq_9<|J @QR.eq_1<|J @rgObj.eq_1<|J @rgD.eq_1<|J @rgM.eq_1<|J @rgM.eq_2<|J @rgK.eq_1<|J @rgK.eq_2<|J @rgK.eq_3<|J @rgK.eq_4<|J @rgK.eq_5<|J @rgK.eq_6<|J @rgK.eq_7<|J @rgK.eq_8<|J @rgK.eq_9<|J @QX.eq_1<|J @nxGo.eq_1<|J @nxObj.eq_1<|@HG.eq_1
def VC17:=J @nxSq.eq_1<|J @nxSq.eq_2<|J @enObj.eq_1<|J @Re.eq_1<|J @mcE.eq_1<|J @mcV.eq_1<|J @mcK.eq_1<|J @mcK.eq_2<|J @PY.eq_1<|J @lnChO.eq_1<|J @lnCh.eq_1<|J @lnCh.eq_2<|J @sdGo.eq_1<|J @stSend.eq_1<|J @rvGo.eq_1<|J @rvC.eq_1<|J @rvE.eq_1<|J @rvK.eq_1<|J @rvK.eq_2<|J @stRecv.eq_1<|J @eqUn.eq_1<|J @eqUnO.eq_1<|J @eqUnO.eq_2<|J @F4.eq_1<|J @F4.eq_2<|J @Ea.eq_1<|J @Ea.eq_2<|J @Ea.eq_3<|J @Ea.eq_4<|@Ea.eq_5
def VC18:=J @Ea.eq_6<|J @Ea.eq_7<|J @Ea.eq_8<|J @Ea.eq_9<|J @Ea.eq_10<|J @Ea.eq_11<|J @Ea.eq_12<|J @Ea.eq_13<|J @Ea.eq_14<|J @Ea.eq_15<|J @Ea.eq_16<|J @Ea.eq_17<|J @isKn.eq_1<|J @isKn.eq_2<|J @isKn.eq_3<|J @isKn.eq_4<|J @isKn.eq_5<|J @isKn.eq_6<|J @isKn.eq_7<|J @isKn.eq_8<|J @isKn.eq_9<|J @isKn.eq_10<|J @isKn.eq_11<|J @isKn.eq_12<|J @unS.eq_1<|J @GW.eq_1<|J @GW.eq_2<|J @GW.eq_4<|J @GW.eq_5<|@GW.eq_6
def VC19:=J @GW.eq_7<|J @GW.eq_8<|J @GW.eq_9<|J @GW.eq_10<|J @GW.eq_11<|J @Ra.eq_1<|J @stBinS.eq_1<|J @Fk.eq_1<|J @Fk.eq_2<|J @Fk.eq_3<|J @Fk.eq_4<|J @Fk.eq_5<|J @Fk.eq_6<|J @Fk.eq_7<|J @Fk.eq_8<|J @Fk.eq_9<|J @Fk.eq_10<|J @Fk.eq_11<|J @Fk.eq_12<|J @Jd.eq_1<|J @Jd.eq_2<|J @Jd.eq_3<|J @Jd.eq_4<|J @Jd.eq_5<|J @Jd.eq_6<|J @OL.eq_1<|J @OL.eq_2<|J @OL.eq_3<|J @mmKt.eq_1<|@mmKt.eq_2
def VC20:=J @mmK.eq_1<|J @mmK.eq_2<|J @mmK.eq_3<|J @mmK.eq_4<|J @mmK.eq_5<|J @mmK.eq_6<|J @mmK.eq_7<|J @mmK.eq_8<|J @mmK.eq_9<|J @Qn.eq_1<|J @evL.eq_1<|J @evL.eq_2<|J @evP.eq_1<|J @evP.eq_2<|J @QO.eq_1<|J @PO.eq_1<|J @QC.eq_1<|J @cpO2.eq_1<|J @cpO2.eq_2<|J @cpO.eq_1<|J @cpO.eq_2<|J @cpO.eq_3<|J @cpO.eq_4<|J @cpO.eq_5<|J @cpO.eq_6<|J @cpO.eq_7<|J @cpO.eq_8<|J @cpD.eq_1<|J @cpD.eq_2<|@cpD.eq_3
def VC21:=J @cpD.eq_4<|J @cpD.eq_5<|J @cpD.eq_6<|J @cpD.eq_7<|J @cpD.eq_8<|J @cpD.eq_9<|J @cpD.eq_10<|J @cpD.eq_11<|J @cpD.eq_12<|J @cpD.eq_13<|J @cpC.eq_1<|J @cpC.eq_2<|J @cpC.eq_3<|J @cpL.eq_1<|J @cpL.eq_2<|J @hnm.eq_1<|J @hnm.eq_2<|J @Rr.eq_1<|J @Rr.eq_2<|J @F9.eq_1<|J @F9.eq_2<|J @F9.eq_3<|J @step.eq_1<|J @step.eq_2<|J @step.eq_3<|J @step.eq_4<|J @step.eq_5<|J @step.eq_6<|J @step.eq_7<|@step.eq_8
def VC22:=J @step.eq_9<|J @step.eq_10<|J @step.eq_11<|J @step.eq_12<|J @step.eq_13<|J @step.eq_14<|J @step.eq_15<|J @step.eq_16<|J @step.eq_17<|J @step.eq_18<|J @step.eq_19<|J @step.eq_20<|J @step.eq_21<|J @step.eq_22<|J @step.eq_23<|J @step.eq_24<|J @step.eq_25<|J @step.eq_26<|J @step.eq_27<|J @step.eq_28<|J @step.eq_29<|J @I4.eq_2<|J @belH.eq_1<|J @belH.eq_2<|J @belH.eq_3<|J @belH.eq_4<|J @belH.eq_5<|J @belH.eq_6<|J @belH.eq_7<|@belH.eq_8
def VC23:=J @EH.eq_1<|J @D8.eq_1<|J @D8.eq_2<|J @Eff.ok_nr<|J @IN.eq_1<|J @IN.eq_2<|J @CU.eq_1<|J @CU.eq_2<|J @kont.eq_1<|J @BV.eq_1<|J @BV.eq_2<|J @stepS.eq_1<|J @skipS.eq_1<|J @grdS.eq_1<|J @grdS.eq_2<|J @opS.eq_1<|J @opS.eq_2<|J @rgS.eq_1<|J @rgS.eq_2<|J @Fg.eq_1<|J @Fg.eq_2<|J @nmsH.eq_1<|J @nmsH.eq_2<|J @E9.eq_1<|J @E9.eq_2<|J @outN.eq_1<|J @outN.eq_2<|J @bnd.eq_1<|J @bnd.eq_2<|@bnd.eq_3
def VC24:=J @bnd.eq_4<|J @bnd.eq_5<|J @bnd.eq_6<|J @nthL.eq_1<|J @nthL.eq_2<|J @nthL.eq_3<|J @ins.eq_1<|J @insL.eq_1<|J @insL.eq_2<|J @cloE.eq_1<|J @cloE.eq_2<|J @Cl.eq_1<|J @Cl.eq_2<|J @ordB.eq_1<|J @Ek.eq_1<|J @Ek.eq_2<|J @Eff.touch.eq_1<|J @FL.eq_1<|J @stepA.eq_1<|J @skipA.eq_1<|J @grdA.eq_1<|J @grdA.eq_2<|J @opA.eq_1<|J @opA.eq_2<|J @rgA.eq_1<|J @rgA.eq_2<|J @thenQ.eq_1<|J @thenQ.eq_2<|J @thenQ.eq_3<|@exitQ.eq_1
def VC25:=J @exitQ.eq_2<|J @Mr.eq_1<|J @Mr.eq_2<|J @Mr.eq_3<|J @subT.eq_1<|J @subT.eq_2<|J @subH.eq_1<|J @subH.eq_2<|J @belT.eq_1<|J @belT.eq_2<|J @Ai.eq_1<|J @Ai.eq_2<|J @Ac.good.eq_1<|J @pm.eq_1<|J @pm.eq_2<|J @nilA.eq_1<|J @ownM.eq_1<|J @ownM.eq_2<|J @Dv.eq_1<|J @Dv.eq_2<|J @mt.eq_1<|J @mt.eq_2<|J @mt.eq_3<|J @mt.eq_4<|J @mt.eq_5<|J @mt.eq_6<|J @mt.eq_7<|J @mt.eq_8<|J @mt.eq_9<|@mt.eq_10
def VC26:=J @mt.eq_11<|J @mt.eq_13<|J @mt.eq_14<|J @mtL.eq_1<|J @mtL.eq_2<|J @mtL.eq_3<|J @mtL.eq_4<|J @mtR.eq_1<|J @mtR.eq_2<|J @mtR.eq_3<|J @mtR.eq_4<|J @mtE.eq_1<|J @mtE.eq_3<|J @mtE.eq_4<|J @mtE.eq_5<|J @mtE.eq_6<|J @mtE.eq_7<|J @mtE.eq_8<|J @mtE.eq_9<|J @mtE.eq_10<|J @mtE.eq_11<|J @mtE.eq_12<|J @mtE.eq_13<|J @mtE.eq_14<|J @entM.eq_1<|J @entM.eq_2<|J @nilE.eq_1<|J @nilE.eq_2<|J @entN.eq_1<|@entN.eq_2
def VC27:=J @Gx.eq_1<|J @Gx.eq_2<|J @Dw.eq_1<|J @Dw.eq_2<|J @geP.eq_1<|J @geP.eq_2<|J @imP.eq_1<|J @imP.eq_2<|J @nodS.eq_1<|J @nodS.eq_2<|J @nodS.eq_3<|J @loopQ.eq_1<|J @loopQ.eq_2<|J @loopQ.eq_3<|J @loopP.eq_1<|J @loopP.eq_2<|J @loopP.eq_3<|J @frzH.eq_1<|J @frzH.eq_2<|J @frzS.eq_1<|J @objD.eq_1<|J @objD.eq_2<|J @objD.eq_3<|J @objD.eq_4<|J @objD.eq_5<|J @objD.eq_6<|J @objD.eq_7<|J @ownD.eq_1<|J @ownD.eq_2<|@AV.fzA.eq_1
def VC28:=J @AV.fzA.eq_2<|J @AV.fzA.eq_3<|J @AV.fzA.eq_4<|J @AV.fzA.eq_5<|J @AV.fzA.eq_6<|J @AV.fzA.eq_7<|J @AV.fzA.eq_8<|J @AV.fzA.eq_9<|J @AV.fzA.eq_10<|J @AV.fzA.eq_11<|J @AV.fzA.eq_12<|J @fzAL.eq_1<|J @fzAL.eq_2<|J @fzAR.eq_1<|J @fzAR.eq_2<|J @AObj.fzA.eq_1<|J @AObj.fzA.eq_2<|J @AObj.fzA.eq_3<|J @AObj.fzA.eq_4<|J @AObj.fzA.eq_5<|J @AObj.fzA.eq_6<|J @AObj.fzA.eq_7<|J @fzAT.eq_1<|J @fzAT.eq_2<|J @fzAH.eq_1<|J @fzAH.eq_2<|J @fzAS.eq_1<|J @loopF.eq_1<|J @loopF.eq_2<|@loopF.eq_3
def VC29:=J @awp.eq_1<|J @awp.eq_2<|J @awp.eq_3<|J @awp.eq_4<|J @awp.eq_5<|J @awp.eq_6<|J @awp.eq_7<|J @awp.eq_8<|J @awp.eq_9<|J @KK.fit.eq_1<|J @KK.fit.eq_2<|J @KK.fit.eq_3<|J @fitL.eq_1<|J @fitL.eq_2<|J @AV.bel.eq_1<|J @AV.bel.eq_2<|J @AV.bel.eq_3<|J @AV.bel.eq_4<|J @AV.bel.eq_5<|J @AV.bel.eq_6<|J @AV.bel.eq_7<|J @AV.bel.eq_8<|J @AV.bel.eq_9<|J @AV.bel.eq_10<|J @AV.bel.eq_11<|J @AV.bel.eq_12<|J @belL.eq_1<|J @belL.eq_2<|J @AV.nms.eq_1<|@AV.nms.eq_2
def VC30:=J @AV.nms.eq_3<|J @AV.nms.eq_4<|J @AV.nms.eq_5<|J @AV.nms.eq_6<|J @AV.nms.eq_7<|J @AV.nms.eq_8<|J @AV.nms.eq_9<|J @AV.nms.eq_10<|J @AV.nms.eq_11<|J @AV.nms.eq_12<|J @nmsL.eq_1<|J @nmsL.eq_2<|J @nmsR.eq_1<|J @nmsR.eq_2<|J @AObj.nms.eq_1<|J @AObj.nms.eq_2<|J @AObj.nms.eq_3<|J @AObj.nms.eq_4<|J @AObj.nms.eq_5<|J @AObj.nms.eq_6<|J @AObj.nms.eq_7<|J @AV.ren.eq_1<|J @AV.ren.eq_2<|J @AV.ren.eq_3<|J @AV.ren.eq_4<|J @AV.ren.eq_5<|J @AV.ren.eq_6<|J @AV.ren.eq_7<|J @AV.ren.eq_8<|@AV.ren.eq_9
def VC31:=J @AV.ren.eq_10<|J @AV.ren.eq_11<|J @AV.ren.eq_12<|J @renL.eq_1<|J @renL.eq_2<|J @AObj.ren.eq_1<|J @AObj.ren.eq_2<|J @AObj.ren.eq_3<|J @AObj.ren.eq_4<|J @AObj.ren.eq_5<|J @AObj.ren.eq_6<|J @AObj.ren.eq_7<|J @mapO.eq_1<|J @mapO.eq_2<|J @Gr.eq_1<|J @Gr.eq_2<|J @IL.eq_1<|J @IG.eq_1<|J @mkT.eq_1<|J @mkT.eq_2<|J @mkC.eq_1<|J @mkC.eq_2<|J @mkC.eq_3<|J @mkCO.eq_1<|J @kp.eq_1<|J @kp.eq_2<|J @asDO.eq_1<|J @asDO.eq_2<|J @cvt.eq_1<|@cvt.eq_2
def VC32:=J @cvt.eq_3<|J @cvt.eq_4<|J @cvt.eq_5<|J @cvt.eq_6<|J @cvt.eq_7<|J @cvt.eq_8<|J @cvt.eq_9<|J @cvt.eq_10<|J @cvt.eq_11<|J @cvt.eq_12<|J @cvt.eq_13<|J @cvt.eq_14<|J @cellC.eq_1<|J @cellP.eq_1<|J @cellP.eq_2<|J @ER.eq_1<|J @ER.eq_2<|J @resV.eq_1<|J @entry.eq_1<|J @entry.eq_2<|J @idxL.eq_1<|J @idxL.eq_2<|J @kxOf.eq_1<|J @cvtE.eq_1<|J @cvtE.eq_2<|J @cvtE.eq_3<|J @cvtE.eq_4<|J @cvtE.eq_5<|J @cvtE.eq_6<|@cvtE.eq_7
def VC33:=J @consE.eq_1<|J @consE.eq_2<|J @consE.eq_3<|J @klE.eq_1<|J @klE.eq_2<|J @outKl.eq_1<|J @outKl.eq_2<|J @exE.eq_1<|J @exE.eq_2<|J @exE.eq_3<|J @outEx.eq_1<|J @outEx.eq_2<|J @appO.eq_1<|J @appO.eq_2<|J @appO.eq_3<|J @roOk.eq_1<|J @roOk.eq_2<|J @exOk.eq_1<|J @exOk.eq_2<|J @retO3.eq_1<|J @retO3.eq_2<|J @retO3.eq_3<|J @retO2.eq_1<|J @retO1.eq_1<|J @retO1.eq_2<|J @retO.eq_1<|J @retQ.eq_1<|J @retQ.eq_2<|J @retQ.eq_3<|@exNo.eq_1
def VC34:=J @geK.eq_1<|J @geK.eq_2<|J @exRes.eq_1<|J @sg.eq_1<|J @renH.eq_1<|J @renH.eq_2<|J @tab.eq_1<|J @tab.eq_2<|J @B7.eq_1<|J @B7.eq_2<|J @B7.eq_3<|J @BH.eq_1<|J @BH.eq_2<|J @BH.eq_3<|J @cnum.eq_1<|J @cnum.eq_2<|J @cnum.eq_3<|J @fzO.eq_1<|J @fzO.eq_2<|J @fzO.eq_3<|J @fzO.eq_4<|J @fzO.eq_5<|J @fzO.eq_6<|J @fzO.eq_7<|J @fzO.eq_8<|J @fzM.eq_1<|J @fzM.eq_2<|J @fzM.eq_3<|J @fzM.eq_4<|@fzM.eq_5
def VC35:=J @fzM.eq_6<|J @fzM.eq_7<|J @fzM.eq_8<|J @fzG.eq_1<|J @fzG.eq_2<|J @fzD.eq_1<|J @fzD.eq_2<|J @fzD.eq_3<|J @fzD.eq_4<|J @fzD.eq_5<|J @fzD.eq_6<|J @fzD.eq_7<|J @fzD.eq_8<|J @fzD.eq_9<|J @fzD.eq_10<|J @fzD.eq_11<|J @fzD.eq_12<|J @fzL.eq_1<|J @fzL.eq_2<|J @pkD.eq_1<|J @pkD.eq_2<|J @pkI.eq_1<|J @pkI.eq_2<|J @pkI.eq_3<|J @pkI.eq_4<|J @pkI.eq_5<|J @pkI.eq_6<|J @pkI.eq_7<|J @pkI.eq_8<|@pkI.eq_9
def VC36:=J @pkI.eq_10<|J @pkI.eq_11<|J @pkI.eq_12<|J @pkI.eq_13<|J @pkI.eq_14<|J @pkI.eq_15<|J @pkI.eq_16<|J @pkI.eq_17<|J @pkC.eq_1<|J @pkC.eq_2<|J @pkO.eq_1<|J @pkO.eq_2<|J @pkO.eq_3<|J @pkO.eq_4<|J @pkO.eq_5<|J @pkO.eq_6<|J @pkO.eq_7<|J @pkO.eq_8<|J @pk1.eq_1<|J @pk1.eq_2<|J @pk1.eq_3<|J @pk1.eq_4<|J @pk1.eq_5<|J @pk1.eq_6<|J @pk1.eq_7<|J @pk1.eq_8<|J @pk1.eq_9<|J @pk1.eq_10<|J @pk1.eq_11<|@pk1.eq_12
def VC37:=J @Lh.eq_1<|J @Lh.eq_2<|J @Lh.eq_3<|J @pkL.eq_1<|J @pkL.eq_2<|J @decK.eq_1<|J @decK.eq_2<|J @frE.eq_1<|J @frE.eq_2<|J @IV.eq_1<|J @IV.eq_2<|J @vrow.eq_1<|J @decA.eq_1<|J @decA.eq_2<|J @decA.eq_3<|J @decA.eq_4<|J @decA.eq_5<|J @decA.eq_6<|J @decA.eq_7<|J @decA.eq_8<|J @decA.eq_9<|J @decA.eq_10<|J @decA.eq_11<|J @decA.eq_12<|J @pureR.eq_1<|J @sgx.eq_1<|J @domB.eq_1<|J @kxB.eq_1<|J @entOk.eq_1<|@entOk.eq_2
def VC38:=J @Cq.eq_1<|J @Cq.eq_2<|J @roB.eq_1<|J @roB.eq_2<|J @retB3.eq_1<|J @retB3.eq_2<|J @retB2.eq_1<|J @retB1.eq_1<|J @retB1.eq_2<|J @retB.eq_1<|J @F8.eq_1<|J @F8.eq_2<|J @F8.eq_3<|J @C4.eq_1<|J @C4.eq_2<|J @C4.eq_3<|J @Bu.eq_1<|J @Bu.eq_2<|J @AT.eq_1<|J @AT.eq_2<|J @osn.eq_1<|J @KJ.eq_1<|J @KJ.eq_2<|J @IP.eq_1<|J @IP.eq_2<|J @klO.eq_1<|J @klO.eq_2<|J @scL.eq_1<|J @scL.eq_2<|@frO.eq_1
def VC39:=J @frA.eq_1<|J @frA.eq_2<|J @frAL.eq_1<|J @frAL.eq_2<|J @frB.eq_1<|J @frB.eq_2<|J @frB.eq_3<|J @frBL.eq_1<|J @frBL.eq_2<|J @frP.eq_1<|J @frP.eq_2<|J @frP.eq_3<|J @frP.eq_4<|J @retF1.eq_1<|J @retF1.eq_2<|J @retF.eq_1<|J @J1.eq_1<|J @J1.eq_2<|J @J1.eq_3<|J @Fs.eq_1<|J @Fs.eq_2<|J @bkMap.eq_1<|J @Jw.eq_1<|J @Jw.eq_2<|J @bkFn.eq_1<|J @bkFn.eq_2<|J @bkFn.eq_3<|J @bk.eq_1<|J @bk.eq_2<|@bk.eq_3
def VC40:=J @bk.eq_4<|J @bk.eq_5<|J @bk.eq_6<|J @bk.eq_7<|J @bk.eq_8<|J @bk.eq_9<|J @bk.eq_10<|J @bk.eq_11<|J @bk.eq_12<|J @bk.eq_13<|J @pkFP.eq_1<|J @pkFV.eq_1<|J @pkF.eq_1<|J @pkF.eq_2<|J @pkF.eq_3<|J @pkF.eq_4<|J @pkF.eq_5<|J @pkF.eq_6<|J @pkF.eq_7<|J @pkF.eq_8<|J @pkF.eq_9<|J @pkF.eq_10<|J @pkF.eq_11<|J @pkF.eq_12<|J @Ei.eq_1<|J @Ei.eq_2<|J @Ei.eq_3<|J @pkFL.eq_1<|J @pkFL.eq_2<|@Iz.eq_1
def VC41:=J @Iz.eq_2<|J @decD.eq_1<|J @ef_fit1<|J @ef_fit2<|J @ef_fit3<|J @ef_fit4<|J @ef_resV0<|J @ef_resV2<|J @ef_resV3<|J @ef_resV4<|J @Sc<|J @ef_condVC<|J @ef_pickV<|J @ef_tget<|J @ef_hget<|J @ef_hdel<|J @ef_ckP<|J @nv_int<|J @nv_bool<|J @nv_str<|J @nv_agg<|J @ns_int<|J @ns_bool<|J @ns_str<|J @ns_agg<|J @ns_ptr<|J @ns_map<|J @ns_nf<|J @ns_ni<|@sc_move
def VC42:=J @sc_assign<|J @sc_pick<|J @sc_alloc<|J @sc_box<|J @sc_build<|J @Yx<|J @sc_load<|J @sc_store<|J @YR<|J @sc_binOp<|J @sc_unOp<|J @RN<|J @YT<|J @RL<|J @YE<|J @Y8<|J @YD<|J @sc_index<|J @sc_lookup<|J @YJ<|J @Se<|J @sc_call<|J @sc_slice<|J @sc_range<|J @sc_next<|J @sc_entry<|J @YU<|J @Yp<|J @sc_panic<|@Yy
end Go.Ae
