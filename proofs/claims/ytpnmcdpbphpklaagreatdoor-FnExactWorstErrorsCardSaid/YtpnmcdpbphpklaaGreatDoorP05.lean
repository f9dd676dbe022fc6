/- Lemmas. Conditions: none. -/
import Derived.Test.YtpnmcdpbphpklaaGreatDoorP04
set_option linter.all false
set_option maxHeartbeats 8000000
set_option maxRecDepth 100000
namespace Go.Ae
def X0(ks:List KK)(ds:List D):KT.fit ⟨true,ks⟩ (.agg ds)=B5 ks ds:=rfl
def X1(ks:List KK)(k:IntKind)(n:Int):KT.fit ⟨false,ks⟩ (.int k n)=B5 ks [.int k n]:=rfl
def X2(ks:List KK)(s:ByteArray):KT.fit ⟨false,ks⟩ (.str s)=B5 ks [.str s]:=rfl
def X3(ks:List KK)(s:Bool):KT.fit ⟨false,ks⟩ (.bool s)=B5 ks [.bool s]:=rfl
def RT:Dr []= .tup []:=rfl
def RU(x y:AV):Dr [x,y]= .tup [x,y]:=rfl
def RV(x y z:AV):Dr [x,y,z]= .tup [x,y,z]:=rfl
def RW(x y z w:AV):Dr [x,y,z,w]= .tup [x,y,z,w]:=rfl
def Qabq(t:Option Nat)(z:Bool)(s:Az)(Kdo Kskip:Az->Prop)(b:Bool):W7 t z s Kdo Kskip (.im (.bool b))=if b=z then Kdo (s.put t (.im (.bool z))) else Kskip (s.put t (.im (.bool (!z)))):=by
 cases b<;>cases z<;>simp[W7]
def Oo(A B:Cq->Az->Prop)(Q:Cq)(s:Az)(b:Bool):tO A B Q s (.im (.bool b))=if b=true then A Q s else B Q s:=by
 cases b<;>simp[tO]
def RS(c:Bool)(K:Ah)(a b:AV):Mi c K a b=if c=true then K a {} else K b {}:=by
 cases c<;>simp[Mi]
def X6(m:Nat)(x:AV)(r:List (Nat×AV))(n:Nat):Ay ((m,x)::r) n=if m=n then x else Ay r n:=by
 by_cases h:m=n
 .subst h;simp[Ay]
 .have:(m==n)=false:=by simpa using h
  simp[Ay,this,h]
def X5(m:Nat)(x:Ap)(r:Ar)(n:Nat):hget ((m,x)::r) n=if m=n then some x else hget r n:=by
 by_cases h:m=n
 .subst h;simp[hget]
 .have:(m==n)=false:=by simpa using h
  simp[hget,this,h]
def X4(m:Nat)(x:Ap)(r:Ar)(ks:List Nat):Cn ((m,x)::r) ks=if ks.contains m=true then Cn r ks else (m,x)::Cn r ks:=by
 cases h:ks.contains m<;>simp only[Cn,h]<;>simp
def gH(cl:List (List Nat))(j:Nat)(use touch z:List Nat)(f:Fp):vS cl j use touch z f=if (ND (use++touch) f.touch && (ND touch f.use && Hc f.nx f.cnt z))=true then true else EF cl f.i j:=by
 unfold vS;cases (ND (use++touch) f.touch && (ND touch f.use && Hc f.nx f.cnt z))<;>rfl
def iD(k:IntKind)(n:Int):FD (.int k n)=0:=rfl
def Yl(b:Bool):FD (.bool b)=0:=rfl
def iE(s:ByteArray):FD (.string s)=0:=rfl
def iC(cs:Array Value):FD (.agg cs)=0:=rfl
def hC(k:IntKind)(n:Int):QJ (.int k n)=false:=rfl
def Yj(b:Bool):QJ (.bool b)=false:=rfl
def iB(s:ByteArray):QJ (.string s)=false:=rfl
def gZ(cs:Array Value):QJ (.agg cs)=false:=rfl
def iA(a:Option Addr):QJ (.pointer a)=false:=rfl
def hZ(a:Option Nat):QJ (.map a)=false:=rfl
def wQ:QJ .nilFunc=false:=rfl
def wS:QJ .nilIface=false:=rfl
section
variable (P:Program)(V:Df)(tm:List (Nat×AV))(h:Nat->Option Ap)(nx:Nat)(ty:TypeId)(K:Ah)
def Y5(x:Operand):DO P V tm h nx ty K (.move x)=step P V true tm h nx ty K (.move x):=rfl
def Pd(x:Operand):DO P V tm h nx ty K (.assign x)=step P V true tm h nx ty K (.assign x):=rfl
def Y7(c:Operand)(a:Operand)(b:Operand):DO P V tm h nx ty K (.pick c a b)=step P V true tm h nx ty K (.pick c a b):=rfl
def Uk(t:TypeId):DO P V tm h nx ty K (.alloc t)=step P V true tm h nx ty K (.alloc t):=rfl
def iT(t:TypeId)(x:Operand):DO P V tm h nx ty K (.box t x)=step P V true tm h nx ty K (.box t x):=rfl
def Um(t:TypeId)(ps:Array (Nat×Operand)):DO P V tm h nx ty K (.build t ps)=step P V true tm h nx ty K (.build t ps):=rfl
def Qs8(t:TypeId)(n:Nat)(ps:Array (Nat×Operand)):DO P V tm h nx ty K (.buildSlice t n ps)=step P V true tm h nx ty K (.buildSlice t n ps):=rfl
def Y4(t:TypeId)(x:Operand):DO P V tm h nx ty K (.load t x)=step P V true tm h nx ty K (.load t x):=rfl
def Uv(t:TypeId)(x:Operand)(v:Operand):DO P V tm h nx ty K (.store t x v)=step P V true tm h nx ty K (.store t x v):=rfl
def Qyd(x:Operand):DO P V tm h nx ty K (.nilCheck x)=step P V true tm h nx ty K (.nilCheck x):=rfl
def Ul(op:BinOp)(t:TypeId)(x:Operand)(y:Operand)(u:TypeId):DO P V tm h nx ty K (.binOp op t x y u)=step P V true tm h nx ty K (.binOp op t x y u):=rfl
def Y8(op:UnOp)(t:TypeId)(x:Operand):DO P V tm h nx ty K (.unOp op t x)=step P V true tm h nx ty K (.unOp op t x):=rfl
def Qaa9(s:TypeId)(t:TypeId)(x:Operand):DO P V tm h nx ty K (.convert s t x)=step P V true tm h nx ty K (.convert s t x):=rfl
def Qyi(f:Fn)(a:Array Operand)(c:Array Operand):DO P V tm h nx ty K (.makeFunc f a c)=step P V true tm h nx ty K (.makeFunc f a c):=rfl
def Qaa8(t:TypeId)(r:Option Operand):DO P V tm h nx ty K (.makeMap t r)=step P V true tm h nx ty K (.makeMap t r):=rfl
def Qvy(t:TypeId)(l:Operand)(c:Operand):DO P V tm h nx ty K (.makeSlice t l c)=step P V true tm h nx ty K (.makeSlice t l c):=rfl
def Qv2(t:TypeId)(x:Operand)(f:Nat):DO P V tm h nx ty K (.fieldAddr t x f)=step P V true tm h nx ty K (.fieldAddr t x f):=rfl
def Qvr(t:TypeId)(x:Operand)(i:Operand):DO P V tm h nx ty K (.indexAddr t x i)=step P V true tm h nx ty K (.indexAddr t x i):=rfl
def Uq(t:TypeId)(x:Operand)(i:Operand):DO P V tm h nx ty K (.index t x i)=step P V true tm h nx ty K (.index t x i):=rfl
def Pf(t:TypeId)(m:Operand)(k:Operand)(ok:Bool):DO P V tm h nx ty K (.lookup t m k ok)=step P V true tm h nx ty K (.lookup t m k ok):=rfl
def Qwt(t:TypeId)(m:Operand)(k:Operand)(v:Operand):DO P V tm h nx ty K (.mapUpdate t m k v)=step P V true tm h nx ty K (.mapUpdate t m k v):=rfl
def Pe(t:TypeId)(m:Operand)(k:Operand)(v:Operand):DO P V tm h nx ty K (.insert t m k v)=step P V true tm h nx ty K (.insert t m k v):=rfl
def Qabt(x:Operand)(i:Nat):DO P V tm h nx ty K (.extract x i)=step P V true tm h nx ty K (.extract x i):=rfl
def Uo(t:TypeId)(x:Operand)(i:Nat):DO P V tm h nx ty K (.field t x i)=step P V true tm h nx ty K (.field t x i):=rfl
def Y3(c:Call):DO P V tm h nx ty K (.call c)=step P V true tm h nx ty K (.call c):=rfl
def Uu(t:TypeId)(x:Operand)(lo:Option Operand)(z:Option Operand)(G:Option Operand):DO P V tm h nx ty K (.slice t x lo z G)=step P V true tm h nx ty K (.slice t x lo z G):=rfl
def Ut(t:TypeId)(x:Operand):DO P V tm h nx ty K (.range t x)=step P V true tm h nx ty K (.range t x):=rfl
def Y6(x:Operand)(b:Bool):DO P V tm h nx ty K (.next x b)=step P V true tm h nx ty K (.next x b):=rfl
def Un(x:Operand):DO P V tm h nx ty K (.entry x)=step P V true tm h nx ty K (.entry x):=rfl
def Qyj(t:TypeId)(x:Operand):DO P V tm h nx ty K (.makeChan t x)=step P V true tm h nx ty K (.makeChan t x):=rfl
def Qmy(t:TypeId)(x:Operand):DO P V tm h nx ty K (.makeInterface t x)=step P V true tm h nx ty K (.makeInterface t x):=rfl
def Ur(x:Operand):DO P V tm h nx ty K (.panic x)=step P V true tm h nx ty K (.panic x):=rfl
def Qs9(x:Operand)(t:TypeId)(u:TypeId)(ok:Bool):DO P V tm h nx ty K (.typeAssert x t u ok)=step P V true tm h nx ty K (.typeAssert x t u ok):=rfl
end
def J{a b:Prop}(x:a)(y:b):a/\b:=⟨x,y⟩
def VC0:=J @Ay.eq_1<|J @hget.eq_1<|J @Cn.eq_1<|J @Az.put.eq_1<|J @Az.put.eq_2<|J @Az.app_nr<|J @kD.eq_1<|J @kD.eq_2<|J @kD.eq_3<|J @kD.eq_4<|J @kD.eq_5<|J @kD.eq_6<|J @kD.eq_7<|J @kD.eq_8<|J @kD.eq_9<|J @Aq.eq_1<|J @Aq.eq_2<|J @Aq.eq_3<|J @Aq.eq_4<|J @D.cells.eq_1<|J @D.cells.eq_2<|J @D.cells.eq_3<|J @D.cells.eq_4<|J @D.cells.eq_5<|J @D.cells.eq_6<|J @D.cells.eq_7<|J @D.cells.eq_8<|J @D.cells.eq_9<|J @D.cells.eq_10<|@D.cells.eq_11
def VC1:=J @D.cells.eq_12<|J @D.cells.eq_13<|J @D.cells.eq_14<|J @D.cells.eq_15<|J @D.cells.eq_16<|J @D.cells.eq_17<|J @AV.cells.eq_1<|J @AV.cells.eq_2<|J @AV.cells.eq_3<|J @AV.cells.eq_4<|J @AV.cells.eq_5<|J @AV.cells.eq_6<|J @AV.cells.eq_7<|J @AV.cells.eq_8<|J @AV.cells.eq_9<|J @AV.cells.eq_10<|J @AV.cells.eq_11<|J @AV.cells.eq_12<|J @D.one.eq_1<|J @D.one.eq_2<|J @D.one.eq_3<|J @D.one.eq_4<|J @D.one.eq_5<|J @D.one.eq_6<|J @D.one.eq_7<|J @D.one.eq_8<|J @D.one.eq_9<|J @D.one.eq_10<|J @D.one.eq_11<|@D.one.eq_12
def VC2:=J @D.one.eq_13<|J @D.one.eq_14<|J @D.one.eq_15<|J @D.one.eq_16<|J @D.one.eq_17<|J @AV.one.eq_1<|J @AV.one.eq_2<|J @AV.one.eq_3<|J @AV.one.eq_4<|J @AV.one.eq_5<|J @AV.one.eq_6<|J @AV.one.eq_7<|J @AV.one.eq_8<|J @AV.one.eq_9<|J @AV.one.eq_10<|J @AV.one.eq_11<|J @AV.one.eq_12<|J @QQ.eq_1<|J @QQ.eq_2<|J @AV.asD.eq_1<|J @AV.asD.eq_2<|J @AV.asD.eq_3<|J @AV.asD.eq_4<|J @AV.asD.eq_5<|J @AV.asD.eq_6<|J @AV.asD.eq_7<|J @AV.asD.eq_8<|J @AV.asD.eq_9<|J @AV.asD.eq_10<|@AV.asD.eq_11
def VC3:=J @AV.asD.eq_12<|J @NE.eq_1<|J @NE.eq_2<|J @NE.eq_3<|J @D3.eq_1<|J @D3.eq_2<|J @Ye.eq_1<|J @Ye.eq_2<|J @hdV.eq_1<|J @hdV.eq_2<|J @gM.eq_1<|J @gM.eq_2<|J @gV.eq_1<|J @aS.eq_1<|J @Cf.eq_1<|J @D.beq.eq_1<|J @D.beq.eq_2<|J @D.beq.eq_3<|J @D.beq.eq_4<|J @D.beql.eq_1<|J @D.beql.eq_2<|J @lk.eq_1<|J @lk.eq_2<|J @Gu.eq_1<|J @Gu.eq_2<|J @IC.eq_1<|J @IC.eq_2<|J @eN.eq_1<|J @tV.eq_1<|@IM.eq_1
def VC4:=J @IM.eq_2<|J @IL.eq_1<|J @IL.eq_2<|J @WN.eq_1<|J @WN.eq_2<|J @WN.eq_3<|J @WN.eq_4<|J @XU.eq_1<|J @XU.eq_2<|J @Qxz.eq_1<|J @Qyo.eq_1<|J @Uw.eq_1<|J @Je.eq_1<|J @Je.eq_2<|J @rF.eq_1<|J @rF.eq_2<|J @Qri.eq_1<|J @Rp.eq_1<|J @Rp.eq_2<|J @Kf.eq_1<|J @Kf.eq_2<|J @Kf.eq_3<|J @XA.eq_1<|J @XA.eq_2<|J @faK.eq_1<|J @xX.eq_1<|J @wF.eq_1<|J @LH.eq_1<|J @LH.eq_2<|@S6.eq_1
def VC5:=J @S6.eq_3<|J @S7.eq_1<|J @S6.eq_2<|J @LG.eq_1<|J @LG.eq_2<|J @Bi.eq_1<|J @Bi.eq_2<|J @wA.eq_1<|J @wA.eq_2<|J @Qjp.eq_1<|J @SG.eq_1<|J @kCh.eq_1<|J @ixK.eq_1<|J @ixK.eq_2<|J @Qxc.eq_1<|J @GC.eq_1<|J @GC.eq_2<|J @GC.eq_3<|J @GC.eq_4<|J @GC.eq_5<|J @GC.eq_6<|J @GC.eq_7<|J @GC.eq_8<|J @GC.eq_9<|J @GC.eq_10<|J @GC.eq_11<|J @GC.eq_12<|J @GC.eq_13<|J @GC.eq_14<|J @GC.eq_15<|J @GC.eq_16<|@GC.eq_17
def VC6:=J @Iz.eq_1<|J @Iz.eq_2<|J @Iz.eq_3<|J @Iz.eq_4<|J @Iz.eq_5<|J @Iz.eq_6<|J @Iz.eq_7<|J @Iz.eq_8<|J @Iz.eq_9<|J @Iz.eq_10<|J @Iz.eq_11<|J @Iz.eq_12<|J @Iz.eq_13<|J @Iz.eq_14<|J @aA.eq_1<|J @RZ.eq_1<|J @tM.eq_1<|J @tM.eq_2<|J @tM.eq_3<|J @tM.eq_4<|J @VP.eq_1<|J @VP.eq_2<|J @VP.eq_3<|J @WI.eq_1<|J @WI.eq_2<|J @WI.eq_3<|J @Nq.eq_1<|J @Nq.eq_2<|J @Nq.eq_3<|@Jh.eq_1
def VC7:=J @Jh.eq_2<|J @MJ.eq_1<|J @MJ.eq_2<|J @sR.eq_1<|J @sR.eq_2<|J @sP.eq_1<|J @sP.eq_2<|J @Z0.eq_1<|J @Z0.eq_2<|J @Z0.eq_3<|J @eU.eq_1<|J @eU.eq_2<|J @eU.eq_3<|J @eU.eq_4<|J @YP.eq_1<|J @YP.eq_2<|J @Z7.eq_1<|J @Z7.eq_2<|J @Hw.eq_1<|J @Hw.eq_2<|J @Hw.eq_3<|J @IX.eq_1<|J @Ml.eq_1<|J @Nk.eq_1<|J @Nk.eq_2<|J @Ru.eq_1<|J @vP.eq_1<|J @vP.eq_2<|J @Qsy.eq_1<|@HO.eq_1
def VC8:=J @HO.eq_2<|J @Ci.eq_1<|J @Ci.eq_2<|J @I8.eq_1<|J @I8.eq_2<|J @Ld.eq_1<|J @Ld.eq_2<|J @bsE.eq_1<|J @bsK.eq_1<|J @xP.eq_1<|J @msE.eq_1<|J @msK.eq_1<|J @xY.eq_1<|J @Z3.eq_1<|J @Z3.eq_2<|J @Dg.eq_1<|J @Dg.eq_2<|J @Dg.eq_3<|J @Bm.eq_1<|J @Bn.eq_1<|J @Bn.eq_2<|J @Src.okOne.eq_1<|J @Src.okOne.eq_2<|J @Src.okOne.eq_3<|J @Ng.eq_1<|J @Ng.eq_2<|J @Ng.eq_3<|J @mK.eq_1<|J @mK.eq_2<|J @mK.eq_3<|@mJ.eq_1
def VC9:=J @mJ.eq_2<|J @mJ.eq_3<|J @I6.eq_1<|J @I6.eq_2<|J @Rq.eq_1<|J @Rq.eq_2<|J @apE.eq_1<|J @apK.eq_1<|J @Qsl.eq_1<|J @FC.eq_1<|J @Qxr.eq_1<|J @Qxr.eq_2<|J @LN.eq_1<|J @gS.eq_1<|J @gS.eq_2<|J @eT.eq_1<|J @eT.eq_2<|J @eT.eq_3<|J @SS.eq_1<|J @tR.eq_1<|J @tR.eq_2<|J @tR.eq_3<|J @Fm.eq_1<|J @Fm.eq_2<|J @Fm.eq_3<|J @Fm.eq_4<|J @Fm.eq_5<|J @Fm.eq_6<|J @Fm.eq_7<|@Fm.eq_8
def VC10:=J @Fm.eq_9<|J @eY.eq_1<|J @Qy3.eq_1<|J @IJ.eq_1<|J @Tb.eq_1<|J @eZ.eq_1<|J @eZ.eq_2<|J @eZ.eq_3<|J @Yc.eq_1<|J @Yc.eq_2<|J @luE.eq_1<|J @luK.eq_1<|J @zW.eq_1<|J @Tj.eq_1<|J @Ti.eq_1<|J @Ti.eq_2<|J @Kp.eq_1<|J @Kp.eq_2<|J @Kp.eq_3<|J @Kp.eq_4<|J @Kp.eq_5<|J @Kp.eq_6<|J @Kp.eq_7<|J @Kp.eq_8<|J @Kp.eq_9<|J @muF.eq_1<|J @Tk.eq_1<|J @jU.eq_1<|J @jU.eq_2<|@RL.eq_1
def VC11:=J @Xy.eq_1<|J @Xy.eq_2<|J @RJ.eq_1<|J @RJ.eq_2<|J @RJ.eq_3<|J @RJ.eq_4<|J @RJ.eq_5<|J @RJ.eq_6<|J @RJ.eq_7<|J @RJ.eq_8<|J @RJ.eq_9<|J @zR.eq_1<|J @exA.eq_1<|J @exA.eq_2<|J @exD.eq_1<|J @exD.eq_2<|J @jX.eq_1<|J @jX.eq_2<|J @jY.eq_1<|J @jY.eq_2<|J @jY.eq_3<|J @jY.eq_4<|J @Qw.eq_1<|J @Qw.eq_2<|J @Qo.eq_1<|J @Qo.eq_2<|J @Qjk.eq_1<|J @Qg6.eq_1<|J @QJ.eq_1<|@W9.eq_1
def VC12:=J @W9.eq_2<|J @W9.eq_3<|J @W9.eq_4<|J @yP.eq_1<|J @yP.eq_2<|J @zJ.eq_1<|J @Qzp.eq_1<|J @Qsv.eq_1<|J @UI.eq_1<|J @FD.eq_1<|J @FD.eq_2<|J @FD.eq_3<|J @FD.eq_4<|J @Fq.eq_1<|J @Fq.eq_2<|J @Fq.eq_3<|J @Fq.eq_4<|J @lF.eq_1<|J @lF.eq_2<|J @Q3.eq_1<|J @Q3.eq_2<|J @Wc.eq_1<|J @Wc.eq_2<|J @UJ.eq_1<|J @Wb.eq_1<|J @Wb.eq_2<|J @MK.eq_1<|J @ZC.eq_1<|J @ZC.eq_2<|@ZC.eq_3
def VC13:=J @ZC.eq_4<|J @ZC.eq_5<|J @K2.eq_1<|J @sN.eq_1<|J @sN.eq_2<|J @Hr.eq_1<|J @Hr.eq_2<|J @P3.eq_1<|J @Lg.eq_1<|J @Lg.eq_2<|J @R0.eq_1<|J @fW.eq_1<|J @fX.eq_1<|J @fY.eq_1<|J @I9.eq_1<|J @I9.eq_2<|J @TK.isStr.eq_1<|J @TK.isStr.eq_2<|J @TK.isStr.eq_3<|J @TK.isStr.eq_4<|J @TK.isStr.eq_5<|J @TK.isStr.eq_6<|J @TK.isStr.eq_7<|J @TK.isStr.eq_8<|J @TK.isStr.eq_9<|J @isStr.eq_1<|J @isStr.eq_2<|J @VT.eq_1<|J @ML.eq_1<|@TK.isSl.eq_1
def VC14:=J @TK.isSl.eq_2<|J @TK.isSl.eq_3<|J @TK.isSl.eq_4<|J @TK.isSl.eq_5<|J @TK.isSl.eq_6<|J @TK.isSl.eq_7<|J @TK.isSl.eq_8<|J @TK.isSl.eq_9<|J @zA.eq_1<|J @DA.eq_1<|J @DA.eq_2<|J @GW.eq_1<|J @GW.eq_2<|J @U3.eq_1<|J @U3.eq_2<|J @U3.eq_3<|J @Jf.eq_1<|J @Jf.eq_2<|J @Jf.eq_3<|J @eR.eq_1<|J @eR.eq_2<|J @Jg.eq_1<|J @Jg.eq_2<|J @Jg.eq_3<|J @U4.eq_1<|J @xF.eq_1<|J @xF.eq_2<|J @iX.eq_1<|J @Qm.eq_1<|@Qm.eq_2
def VC15:=J @Qm.eq_3<|J @Qm.eq_4<|J @Qm.eq_5<|J @Qm.eq_6<|J @Qm.eq_7<|J @Qm.eq_8<|J @Qm.eq_9<|J @Qsm.eq_1<|J @gD.eq_1<|J @gE.eq_1<|J @eX.eq_1<|J @eX.eq_2<|J @eX.eq_3<|J @RF.eq_1<|J @RG.eq_1<|J @Vv.eq_1<|J @Vv.eq_2<|J @eO.eq_1<|J @RH.eq_1<|J @RH.eq_2<|J @RH.eq_3<|J @RI.eq_1<|J @RI.eq_2<|J @RI.eq_3<|J @RI.eq_4<|J @RI.eq_5<|J @RI.eq_6<|J @RI.eq_7<|J @RI.eq_8<|@RI.eq_9
def VC16:=J @Qzd.eq_1<|J @Xq.eq_1<|J @Xq.eq_2<|J @R5.eq_1<|J @R5.eq_2<|J @R5.eq_3<|J @R5.eq_4<|J @R5.eq_5<|J @R5.eq_6<|J @R5.eq_7<|J @R5.eq_8<|J @R5.eq_9<|J @Qrt.eq_1<|J @Ud.eq_1<|J @rgD.eq_1<|J @rgM.eq_1<|J @rgM.eq_2<|J @Uc.eq_1<|J @Uc.eq_2<|J @Uc.eq_3<|J @Uc.eq_4<|J @Uc.eq_5<|J @Uc.eq_6<|J @Uc.eq_7<|J @Uc.eq_8<|J @Uc.eq_9<|J @Qsh.eq_1<|J @wT.eq_1<|J @Tv.eq_1<|@VO.eq_1
def VC17:=J @iG.eq_1<|J @iG.eq_2<|J @RX.eq_1<|J @Qsz.eq_1<|J @mcE.eq_1<|J @mcV.eq_1<|J @mcK.eq_1<|J @mcK.eq_2<|J @yC.eq_1<|J @aO.eq_1<|J @SX.eq_1<|J @SX.eq_2<|J @iU.eq_1<|J @K4.eq_1<|J @iS.eq_1<|J @rvC.eq_1<|J @rvE.eq_1<|J @rvK.eq_1<|J @rvK.eq_2<|J @K3.eq_1<|J @Sa.eq_1<|J @Sb.eq_1<|J @Sb.eq_2<|J @Nh.eq_1<|J @Nh.eq_2<|J @HU.eq_1<|J @HU.eq_2<|J @HU.eq_3<|J @HU.eq_4<|J @HU.eq_5<|@HU.eq_6
def VC18:=J @HU.eq_7<|J @HU.eq_8<|J @HU.eq_9<|J @HU.eq_10<|J @HU.eq_11<|J @HU.eq_12<|J @HU.eq_13<|J @HU.eq_14<|J @HU.eq_15<|J @HU.eq_16<|J @HU.eq_17<|J @Fl.eq_1<|J @Fl.eq_2<|J @Fl.eq_3<|J @Fl.eq_4<|J @Fl.eq_5<|J @Fl.eq_6<|J @Fl.eq_7<|J @Fl.eq_8<|J @Fl.eq_9<|J @Fl.eq_10<|J @Fl.eq_11<|J @Fl.eq_12<|J @unS.eq_1<|J @QP.eq_1<|J @QP.eq_2<|J @QP.eq_4<|J @QP.eq_5<|J @QP.eq_6<|@QP.eq_7
def VC19:=J @QP.eq_8<|J @QP.eq_9<|J @QP.eq_10<|J @QP.eq_11<|J @Qst.eq_1<|J @K1.eq_1<|J @KF.eq_1<|J @KF.eq_2<|J @KF.eq_3<|J @KF.eq_4<|J @KF.eq_5<|J @KF.eq_6<|J @KF.eq_7<|J @KF.eq_8<|J @KF.eq_9<|J @KF.eq_10<|J @KF.eq_11<|J @KF.eq_12<|J @Zk.eq_1<|J @Zk.eq_2<|J @Zk.eq_3<|J @Zk.eq_4<|J @Zk.eq_5<|J @Zk.eq_6<|J @sG.eq_1<|J @sG.eq_2<|J @sG.eq_3<|J @Yf.eq_1<|J @Yf.eq_2<|@Tg.eq_1
def VC20:=J @Tg.eq_2<|J @Tg.eq_3<|J @Tg.eq_4<|J @Tg.eq_5<|J @Tg.eq_6<|J @Tg.eq_7<|J @Tg.eq_8<|J @Tg.eq_9<|J @yT.eq_1<|J @D9.eq_1<|J @D9.eq_2<|J @Jv.eq_1<|J @Jv.eq_2<|J @Qrk.eq_1<|J @xQ.eq_1<|J @zX.eq_1<|J @RC.eq_1<|J @RC.eq_2<|J @RB.eq_1<|J @RB.eq_2<|J @RB.eq_3<|J @RB.eq_4<|J @RB.eq_5<|J @RB.eq_6<|J @RB.eq_7<|J @RB.eq_8<|J @H6.eq_1<|J @H6.eq_2<|J @H6.eq_3<|@H6.eq_4
def VC21:=J @H6.eq_5<|J @H6.eq_6<|J @H6.eq_7<|J @H6.eq_8<|J @H6.eq_9<|J @H6.eq_10<|J @H6.eq_11<|J @H6.eq_12<|J @H6.eq_13<|J @BH.eq_1<|J @BH.eq_2<|J @BH.eq_3<|J @Oh.eq_1<|J @Oh.eq_2<|J @hnm.eq_1<|J @hnm.eq_2<|J @Qz3.eq_1<|J @Qz3.eq_2<|J @Nn.eq_1<|J @Nn.eq_2<|J @Nn.eq_3<|J @Q8.eq_1<|J @Q8.eq_2<|J @Q6.eq_1<|J @Q6.eq_2<|J @cK.eq_1<|J @Q7.eq_1<|J @Q7.eq_2<|J @step.eq_1<|@step.eq_2
def VC22:=J @step.eq_3<|J @step.eq_4<|J @step.eq_5<|J @step.eq_6<|J @step.eq_7<|J @step.eq_8<|J @step.eq_9<|J @step.eq_10<|J @step.eq_11<|J @step.eq_12<|J @step.eq_13<|J @step.eq_14<|J @step.eq_15<|J @step.eq_16<|J @step.eq_17<|J @step.eq_18<|J @step.eq_19<|J @step.eq_20<|J @step.eq_21<|J @step.eq_22<|J @step.eq_23<|J @step.eq_24<|J @step.eq_25<|J @step.eq_26<|J @step.eq_27<|J @step.eq_28<|J @step.eq_29<|J @step.eq_30<|J @step.eq_31<|@W7.eq_2
def VC23:=J @AD.eq_1<|J @AD.eq_2<|J @AD.eq_3<|J @AD.eq_4<|J @AD.eq_5<|J @AD.eq_6<|J @AD.eq_7<|J @AD.eq_8<|J @IR.eq_1<|J @NH.eq_1<|J @NH.eq_2<|J @Bz.ok_nr<|J @WS.eq_1<|J @WS.eq_2<|J @Gc.eq_1<|J @Gc.eq_2<|J @SN.eq_1<|J @DO.eq_1<|J @DO.eq_2<|J @Ji.eq_1<|J @ME.eq_1<|J @XM.eq_1<|J @XM.eq_2<|J @wX.eq_1<|J @wX.eq_2<|J @K0.eq_1<|J @K0.eq_2<|J @KC.eq_1<|J @KC.eq_2<|@IS.eq_1
def VC24:=J @IS.eq_2<|J @ND.eq_1<|J @ND.eq_2<|J @Hc.eq_1<|J @Hc.eq_2<|J @Ib.eq_1<|J @Ib.eq_2<|J @Ib.eq_3<|J @Ib.eq_4<|J @Ib.eq_5<|J @Ib.eq_6<|J @DI.eq_1<|J @DI.eq_2<|J @DI.eq_3<|J @ins.eq_1<|J @S9.eq_1<|J @S9.eq_2<|J @GX.eq_1<|J @GX.eq_2<|J @EN.eq_1<|J @EN.eq_2<|J @EF.eq_1<|J @Nt.eq_1<|J @Nt.eq_2<|J @Bz.touch.eq_1<|J @aL.eq_1<|J @MM.eq_1<|J @MD.eq_1<|J @XL.eq_1<|@XL.eq_2
def VC25:=J @wW.eq_1<|J @wW.eq_2<|J @VG.eq_1<|J @VG.eq_2<|J @MP.eq_1<|J @MP.eq_2<|J @MP.eq_3<|J @IE.eq_1<|J @IE.eq_2<|J @lP.eq_1<|J @lP.eq_2<|J @lP.eq_3<|J @Gs.eq_1<|J @Gs.eq_2<|J @CE.eq_1<|J @CE.eq_2<|J @CQ.eq_1<|J @CQ.eq_2<|J @Cg.eq_1<|J @Cg.eq_2<|J @Az.good.eq_1<|J @pm.eq_1<|J @pm.eq_2<|J @gY.eq_1<|J @He.eq_1<|J @He.eq_2<|J @GO.eq_1<|J @GO.eq_2<|J @mt.eq_1<|@mt.eq_2
def VC26:=J @mt.eq_3<|J @mt.eq_4<|J @mt.eq_5<|J @mt.eq_6<|J @mt.eq_7<|J @mt.eq_8<|J @mt.eq_9<|J @mt.eq_10<|J @mt.eq_11<|J @mt.eq_13<|J @mt.eq_14<|J @DZ.eq_1<|J @DZ.eq_2<|J @DZ.eq_3<|J @DZ.eq_4<|J @GB.eq_1<|J @GB.eq_2<|J @GB.eq_3<|J @GB.eq_4<|J @EK.eq_1<|J @EK.eq_3<|J @EK.eq_4<|J @EK.eq_5<|J @EK.eq_6<|J @EK.eq_7<|J @EK.eq_8<|J @EK.eq_9<|J @EK.eq_10<|J @EK.eq_11<|J @EK.eq_12<|@EK.eq_13
def VC27:=J @EK.eq_14<|J @Ka.eq_1<|J @Ka.eq_2<|J @Tp.eq_1<|J @Tp.eq_2<|J @EC.eq_1<|J @EC.eq_2<|J @QW.eq_1<|J @QW.eq_2<|J @Hj.eq_1<|J @Hj.eq_2<|J @VD.eq_1<|J @VD.eq_2<|J @O4.eq_1<|J @O4.eq_2<|J @EW.eq_1<|J @EW.eq_2<|J @EW.eq_3<|J @LW.eq_1<|J @LW.eq_2<|J @LW.eq_3<|J @LV.eq_1<|J @LV.eq_2<|J @LV.eq_3<|J @H7.eq_1<|J @H7.eq_2<|J @Sk.eq_1<|J @Hb.eq_1<|J @Hb.eq_2<|@Hb.eq_3
def VC28:=J @Hb.eq_4<|J @Hb.eq_5<|J @Hb.eq_6<|J @Hb.eq_7<|J @Ku.eq_1<|J @Ku.eq_2<|J @IY.eq_1<|J @IY.eq_2<|J @Ft.eq_1<|J @Ft.eq_2<|J @Ft.eq_3<|J @Ft.eq_4<|J @Ft.eq_5<|J @Ft.eq_6<|J @Ft.eq_7<|J @Ft.eq_8<|J @AV.fzA.eq_1<|J @AV.fzA.eq_2<|J @AV.fzA.eq_3<|J @AV.fzA.eq_4<|J @AV.fzA.eq_5<|J @AV.fzA.eq_6<|J @AV.fzA.eq_7<|J @AV.fzA.eq_8<|J @AV.fzA.eq_9<|J @AV.fzA.eq_10<|J @AV.fzA.eq_11<|J @AV.fzA.eq_12<|J @DB.eq_1<|@DB.eq_2
def VC29:=J @DC.eq_1<|J @DC.eq_2<|J @Ag.fzA.eq_1<|J @Ag.fzA.eq_2<|J @Ag.fzA.eq_3<|J @Ag.fzA.eq_4<|J @Ag.fzA.eq_5<|J @Ag.fzA.eq_6<|J @Ag.fzA.eq_7<|J @H9.eq_1<|J @H9.eq_2<|J @H8.eq_1<|J @H8.eq_2<|J @Sr.eq_1<|J @LU.eq_1<|J @LU.eq_2<|J @LU.eq_3<|J @Dh.eq_1<|J @Dh.eq_2<|J @Dh.eq_3<|J @Dh.eq_4<|J @Dh.eq_5<|J @Dh.eq_6<|J @Dh.eq_7<|J @Dh.eq_8<|J @Dh.eq_9<|J @KK.fit.eq_1<|J @KK.fit.eq_2<|J @KK.fit.eq_3<|@B5.eq_1
def VC30:=J @B5.eq_2<|J @AV.bel.eq_1<|J @AV.bel.eq_2<|J @AV.bel.eq_3<|J @AV.bel.eq_4<|J @AV.bel.eq_5<|J @AV.bel.eq_6<|J @AV.bel.eq_7<|J @AV.bel.eq_8<|J @AV.bel.eq_9<|J @AV.bel.eq_10<|J @AV.bel.eq_11<|J @AV.bel.eq_12<|J @AN.eq_1<|J @AN.eq_2<|J @AV.nms.eq_1<|J @AV.nms.eq_2<|J @AV.nms.eq_3<|J @AV.nms.eq_4<|J @AV.nms.eq_5<|J @AV.nms.eq_6<|J @AV.nms.eq_7<|J @AV.nms.eq_8<|J @AV.nms.eq_9<|J @AV.nms.eq_10<|J @AV.nms.eq_11<|J @AV.nms.eq_12<|J @A9.eq_1<|J @A9.eq_2<|@BB.eq_1
def VC31:=J @BB.eq_2<|J @Ag.nms.eq_1<|J @Ag.nms.eq_2<|J @Ag.nms.eq_3<|J @Ag.nms.eq_4<|J @Ag.nms.eq_5<|J @Ag.nms.eq_6<|J @Ag.nms.eq_7<|J @AV.ren.eq_1<|J @AV.ren.eq_2<|J @AV.ren.eq_3<|J @AV.ren.eq_4<|J @AV.ren.eq_5<|J @AV.ren.eq_6<|J @AV.ren.eq_7<|J @AV.ren.eq_8<|J @AV.ren.eq_9<|J @AV.ren.eq_10<|J @AV.ren.eq_11<|J @AV.ren.eq_12<|J @AU.eq_1<|J @AU.eq_2<|J @Ag.ren.eq_1<|J @Ag.ren.eq_2<|J @Ag.ren.eq_3<|J @Ag.ren.eq_4<|J @Ag.ren.eq_5<|J @Ag.ren.eq_6<|J @Ag.ren.eq_7<|@A7.eq_1
def VC32:=J @A7.eq_2<|J @PS.eq_1<|J @PS.eq_2<|J @WP.eq_1<|J @WJ.eq_1<|J @mO.eq_1<|J @mO.eq_2<|J @gU.eq_1<|J @gU.eq_2<|J @gU.eq_3<|J @IP.eq_1<|J @kp.eq_1<|J @kp.eq_2<|J @Em.eq_1<|J @Em.eq_2<|J @Bl.eq_1<|J @Bl.eq_2<|J @Bl.eq_3<|J @Bl.eq_4<|J @Bl.eq_5<|J @Bl.eq_6<|J @Bl.eq_7<|J @Bl.eq_8<|J @Bl.eq_9<|J @Bl.eq_10<|J @Bl.eq_11<|J @Bl.eq_12<|J @Bl.eq_13<|J @Bl.eq_14<|@Lh.eq_1
def VC33:=J @IA.eq_1<|J @IA.eq_2<|J @JF.eq_1<|J @JF.eq_2<|J @Dr.eq_1<|J @entry.eq_1<|J @entry.eq_2<|J @XP.eq_1<|J @XP.eq_2<|J @HA.eq_1<|J @D8.eq_1<|J @D8.eq_2<|J @D8.eq_3<|J @D8.eq_4<|J @D8.eq_5<|J @D8.eq_6<|J @D8.eq_7<|J @IB.eq_1<|J @IB.eq_2<|J @IB.eq_3<|J @klE.eq_1<|J @klE.eq_2<|J @IU.eq_1<|J @IU.eq_2<|J @exE.eq_1<|J @exE.eq_2<|J @exE.eq_3<|J @IT.eq_1<|J @IT.eq_2<|@Rr.eq_1
def VC34:=J @Rr.eq_2<|J @Rr.eq_3<|J @Y2.eq_1<|J @Y2.eq_2<|J @X9.eq_1<|J @X9.eq_2<|J @IZ.eq_1<|J @IZ.eq_2<|J @IZ.eq_3<|J @aX.eq_1<|J @M4.eq_1<|J @M4.eq_2<|J @TZ.eq_1<|J @OW.eq_1<|J @OW.eq_2<|J @OW.eq_3<|J @Kd.eq_1<|J @vZ.eq_1<|J @vZ.eq_2<|J @vX.eq_1<|J @sg.eq_1<|J @B1.eq_1<|J @B1.eq_2<|J @Qn.eq_1<|J @Qn.eq_2<|J @CU.eq_1<|J @CU.eq_2<|J @CU.eq_3<|J @CT.eq_1<|@CT.eq_2
def VC35:=J @CT.eq_3<|J @BN.eq_1<|J @BN.eq_2<|J @BN.eq_3<|J @Qh.eq_1<|J @Qh.eq_2<|J @Qh.eq_3<|J @Qh.eq_4<|J @Qh.eq_5<|J @Qh.eq_6<|J @Qh.eq_7<|J @Qh.eq_8<|J @Qg.eq_1<|J @Qg.eq_2<|J @Qg.eq_3<|J @Qg.eq_4<|J @Qg.eq_5<|J @Qg.eq_6<|J @Qg.eq_7<|J @Qg.eq_8<|J @mN.eq_1<|J @mN.eq_2<|J @Eo.eq_1<|J @Eo.eq_2<|J @Eo.eq_3<|J @Eo.eq_4<|J @Eo.eq_5<|J @Eo.eq_6<|J @Eo.eq_7<|J @Eo.eq_8<|@Eo.eq_9
def VC36:=J @Eo.eq_10<|J @Eo.eq_11<|J @Eo.eq_12<|J @Ss.eq_1<|J @Ss.eq_2<|J @aU.eq_1<|J @aU.eq_2<|J @F5.eq_1<|J @F5.eq_2<|J @F5.eq_3<|J @F5.eq_4<|J @F5.eq_5<|J @F5.eq_6<|J @F5.eq_7<|J @F5.eq_8<|J @F5.eq_9<|J @F5.eq_10<|J @F5.eq_11<|J @F5.eq_12<|J @F5.eq_13<|J @F5.eq_14<|J @F5.eq_15<|J @F5.eq_16<|J @F5.eq_17<|J @pkC.eq_1<|J @pkC.eq_2<|J @Ql.eq_1<|J @Ql.eq_2<|J @Ql.eq_3<|@Ql.eq_4
def VC37:=J @Ql.eq_5<|J @Ql.eq_6<|J @Ql.eq_7<|J @Ql.eq_8<|J @pkR.eq_1<|J @pkR.eq_2<|J @TA.eq_1<|J @TA.eq_2<|J @TA.eq_3<|J @TA.eq_4<|J @TA.eq_5<|J @TA.eq_6<|J @TA.eq_7<|J @TA.eq_8<|J @Ih.eq_1<|J @Ih.eq_2<|J @Ih.eq_3<|J @Ih.eq_4<|J @Ih.eq_5<|J @Ih.eq_6<|J @Ih.eq_7<|J @Ih.eq_8<|J @Ih.eq_9<|J @Ih.eq_10<|J @Ih.eq_11<|J @Ih.eq_12<|J @WK.eq_1<|J @WK.eq_2<|J @WK.eq_3<|@Mk.eq_1
def VC38:=J @Mk.eq_2<|J @EA.eq_1<|J @EA.eq_2<|J @VC.eq_1<|J @VC.eq_2<|J @bL.eq_1<|J @bL.eq_2<|J @FH.eq_1<|J @ES.eq_1<|J @ES.eq_2<|J @ES.eq_3<|J @ES.eq_4<|J @ES.eq_5<|J @ES.eq_6<|J @ES.eq_7<|J @ES.eq_8<|J @ES.eq_9<|J @ES.eq_10<|J @ES.eq_11<|J @ES.eq_12<|J @Mo.eq_1<|J @Di.eq_1<|J @An.eq_1<|J @XV.eq_1<|J @RY.eq_1<|J @RY.eq_2<|J @Hy.eq_1<|J @Hy.eq_2<|J @Ja.eq_1<|@Ja.eq_2
def VC39:=J @Mz.eq_1<|J @Mz.eq_2<|J @aW.eq_1<|J @My.eq_1<|J @My.eq_2<|J @HG.eq_1<|J @Nm.eq_1<|J @Nm.eq_2<|J @Nm.eq_3<|J @AG.eq_1<|J @AG.eq_2<|J @AG.eq_3<|J @CV.eq_1<|J @CV.eq_2<|J @Cx.eq_1<|J @Cx.eq_2<|J @Qk.eq_1<|J @eE.eq_1<|J @eE.eq_2<|J @ZF.eq_1<|J @ZF.eq_2<|J @VE.eq_1<|J @VE.eq_2<|J @Fc.eq_1<|J @Fc.eq_2<|J @gK.eq_1<|J @mM.eq_1<|J @mM.eq_2<|J @IH.eq_1<|@IH.eq_2
def VC40:=J @Sj.eq_1<|J @Sj.eq_2<|J @Sj.eq_3<|J @Kg.eq_1<|J @Kg.eq_2<|J @Oz.eq_1<|J @Oz.eq_2<|J @Oz.eq_3<|J @Oz.eq_4<|J @M3.eq_1<|J @M3.eq_2<|J @Kz.eq_1<|J @ZE.eq_1<|J @ZE.eq_2<|J @ZE.eq_3<|J @WR.eq_1<|J @WR.eq_2<|J @Lb.eq_1<|J @Z8.eq_1<|J @Z8.eq_2<|J @Od.eq_1<|J @Od.eq_2<|J @Od.eq_3<|J @bk.eq_1<|J @bk.eq_2<|J @bk.eq_3<|J @bk.eq_4<|J @bk.eq_5<|J @bk.eq_6<|@bk.eq_7
def VC41:=J @bk.eq_8<|J @bk.eq_9<|J @bk.eq_10<|J @bk.eq_11<|J @bk.eq_12<|J @bk.eq_13<|J @IV.eq_1<|J @Er.eq_1<|J @Lc.eq_1<|J @Lc.eq_2<|J @Xl.eq_1<|J @EL.eq_1<|J @EL.eq_2<|J @EL.eq_3<|J @EL.eq_4<|J @EL.eq_5<|J @EL.eq_6<|J @EL.eq_7<|J @EL.eq_8<|J @EL.eq_9<|J @EL.eq_10<|J @EL.eq_11<|J @EL.eq_12<|J @GE.eq_1<|J @GE.eq_2<|J @GE.eq_3<|J @CK.eq_1<|J @CK.eq_2<|J @Wy.eq_1<|@Wy.eq_2
def VC42:=J @Bt.eq_1<|J @X0<|J @X1<|J @X2<|J @X3<|J @RT<|J @RU<|J @RV<|J @RW<|J @Qabq<|J @Oo<|J @RS<|J @X6<|J @X5<|J @X4<|J @gH<|J @iD<|J @Yl<|J @iE<|J @iC<|J @hC<|J @Yj<|J @iB<|J @gZ<|J @iA<|J @hZ<|J @wQ<|J @wS<|J @Y5<|@Pd
def VC43:=J @Y7<|J @Uk<|J @iT<|J @Um<|J @Qs8<|J @Y4<|J @Uv<|J @Qyd<|J @Ul<|J @Y8<|J @Qaa9<|J @Qyi<|J @Qaa8<|J @Qvy<|J @Qv2<|J @Qvr<|J @Uq<|J @Pf<|J @Qwt<|J @Pe<|J @Qabt<|J @Uo<|J @Y3<|J @Uu<|J @Ut<|J @Y6<|J @Un<|J @Qyj<|J @Qmy<|J @Ur<|@Qs9
end Go.Ae
