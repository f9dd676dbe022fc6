/- Lemmas. Conditions: none. -/
import Derived.Test.YtogafbdeamcpnaaGreatDoorP04
set_option linter.all false
set_option maxHeartbeats 8000000
set_option maxRecDepth 100000
namespace Go.Ae
def X1(ks:List KK)(ds:List D):KT.fit ⟨true,ks⟩ (.agg ds)=B0 ks ds:=rfl
def X2(ks:List KK)(k:IntKind)(n:Int):KT.fit ⟨false,ks⟩ (.int k n)=B0 ks [.int k n]:=rfl
def X3(ks:List KK)(s:ByteArray):KT.fit ⟨false,ks⟩ (.str s)=B0 ks [.str s]:=rfl
def X4(ks:List KK)(s:Bool):KT.fit ⟨false,ks⟩ (.bool s)=B0 ks [.bool s]:=rfl
def RY:Db []= .tup []:=rfl
def RZ(x y:AV):Db [x,y]= .tup [x,y]:=rfl
def Sa(x y z:AV):Db [x,y,z]= .tup [x,y,z]:=rfl
def Sb(x y z w:AV):Db [x,y,z,w]= .tup [x,y,z,w]:=rfl
def Qabq(t:Option Nat)(z:Bool)(s:Aj)(Kdo Kskip:Aj->Prop)(b:Bool):WF t z s Kdo Kskip (.im (.bool b))=if b=z then Kdo (s.put t (.im (.bool z))) else Kskip (s.put t (.im (.bool (!z)))):=by
 cases b<;>cases z<;>simp[WF]
def O6(A B:Cn->Aj->Prop)(Q:Cn)(s:Aj)(b:Bool):uG A B Q s (.im (.bool b))=if b=true then A Q s else B Q s:=by
 cases b<;>simp[uG]
def RX(c:Bool)(K:Ah)(a b:AV):M3 c K a b=if c=true then K a {} else K b {}:=by
 cases c<;>simp[M3]
def X7(m:Nat)(x:AV)(r:List (Nat×AV))(n:Nat):AE ((m,x)::r) n=if m=n then x else AE r n:=by
 by_cases h:m=n
 .subst h;simp[AE]
 .have:(m==n)=false:=by simpa using h
  simp[AE,this,h]
def X6(m:Nat)(x:Au)(r:Aw)(n:Nat):hget ((m,x)::r) n=if m=n then some x else hget r n:=by
 by_cases h:m=n
 .subst h;simp[hget]
 .have:(m==n)=false:=by simpa using h
  simp[hget,this,h]
def X5(m:Nat)(x:Au)(r:Aw)(ks:List Nat):Bl ((m,x)::r) ks=if ks.contains m=true then Bl r ks else (m,x)::Bl r ks:=by
 cases h:ks.contains m<;>simp only[Bl,h]<;>simp
def gS(cl:List (List Nat))(j:Nat)(use touch z:List Nat)(f:Fp):mO cl j use touch z f=if (J3 (use++touch) f.touch && (J3 touch f.use && Gw f.nx f.cnt z))=true then true else E5 cl f.i j:=by
 unfold mO;cases (J3 (use++touch) f.touch && (J3 touch f.use && Gw f.nx f.cnt z))<;>rfl
def iW(k:IntKind)(n:Int):FI (.int k n)=0:=rfl
def Yq(b:Bool):FI (.bool b)=0:=rfl
def iX(s:ByteArray):FI (.string s)=0:=rfl
def iV(cs:Array Value):FI (.agg cs)=0:=rfl
def iR(k:IntKind)(n:Int):QP (.int k n)=false:=rfl
def Yo(b:Bool):QP (.bool b)=false:=rfl
def iU(s:ByteArray):QP (.string s)=false:=rfl
def iQ(cs:Array Value):QP (.agg cs)=false:=rfl
def iT(a:Option Addr):QP (.pointer a)=false:=rfl
def iS(a:Option Nat):QP (.map a)=false:=rfl
def wX:QP .nilFunc=false:=rfl
def wY:QP .nilIface=false:=rfl
section
variable (P:Program)(V:CW)(tm:List (Nat×AV))(h:Nat->Option Au)(nx:Nat)(ty:TypeId)(K:Ah)
def YE(x:Operand):DW P V tm h nx ty K (.move x)=step P V true tm h nx ty K (.move x):=rfl
def Pt(x:Operand):DW P V tm h nx ty K (.assign x)=step P V true tm h nx ty K (.assign x):=rfl
def YG(c:Operand)(a:Operand)(b:Operand):DW P V tm h nx ty K (.pick c a b)=step P V true tm h nx ty K (.pick c a b):=rfl
def U4(t:TypeId):DW P V tm h nx ty K (.alloc t)=step P V true tm h nx ty K (.alloc t):=rfl
def jJ(t:TypeId)(x:Operand):DW P V tm h nx ty K (.box t x)=step P V true tm h nx ty K (.box t x):=rfl
def U6(t:TypeId)(ps:Array (Nat×Operand)):DW P V tm h nx ty K (.build t ps)=step P V true tm h nx ty K (.build t ps):=rfl
def Qs8(t:TypeId)(n:Nat)(ps:Array (Nat×Operand)):DW P V tm h nx ty K (.buildSlice t n ps)=step P V true tm h nx ty K (.buildSlice t n ps):=rfl
def YD(t:TypeId)(x:Operand):DW P V tm h nx ty K (.load t x)=step P V true tm h nx ty K (.load t x):=rfl
def UC(t:TypeId)(x:Operand)(v:Operand):DW P V tm h nx ty K (.store t x v)=step P V true tm h nx ty K (.store t x v):=rfl
def Qyd(x:Operand):DW P V tm h nx ty K (.nilCheck x)=step P V true tm h nx ty K (.nilCheck x):=rfl
def U5(op:BinOp)(t:TypeId)(x:Operand)(y:Operand)(u:TypeId):DW P V tm h nx ty K (.binOp op t x y u)=step P V true tm h nx ty K (.binOp op t x y u):=rfl
def YH(op:UnOp)(t:TypeId)(x:Operand):DW P V tm h nx ty K (.unOp op t x)=step P V true tm h nx ty K (.unOp op t x):=rfl
def Qaa9(s:TypeId)(t:TypeId)(x:Operand):DW P V tm h nx ty K (.convert s t x)=step P V true tm h nx ty K (.convert s t x):=rfl
def Qyi(f:Fn)(a:Array Operand)(c:Array Operand):DW P V tm h nx ty K (.makeFunc f a c)=step P V true tm h nx ty K (.makeFunc f a c):=rfl
def Qaa8(t:TypeId)(r:Option Operand):DW P V tm h nx ty K (.makeMap t r)=step P V true tm h nx ty K (.makeMap t r):=rfl
def Qvy(t:TypeId)(l:Operand)(c:Operand):DW P V tm h nx ty K (.makeSlice t l c)=step P V true tm h nx ty K (.makeSlice t l c):=rfl
def Qv2(t:TypeId)(x:Operand)(f:Nat):DW P V tm h nx ty K (.fieldAddr t x f)=step P V true tm h nx ty K (.fieldAddr t x f):=rfl
def Qvr(t:TypeId)(x:Operand)(i:Operand):DW P V tm h nx ty K (.indexAddr t x i)=step P V true tm h nx ty K (.indexAddr t x i):=rfl
def U8(t:TypeId)(x:Operand)(i:Operand):DW P V tm h nx ty K (.index t x i)=step P V true tm h nx ty K (.index t x i):=rfl
def Pu(t:TypeId)(m:Operand)(k:Operand)(ok:Bool):DW P V tm h nx ty K (.lookup t m k ok)=step P V true tm h nx ty K (.lookup t m k ok):=rfl
def Qwt(t:TypeId)(m:Operand)(k:Operand)(v:Operand):DW P V tm h nx ty K (.mapUpdate t m k v)=step P V true tm h nx ty K (.mapUpdate t m k v):=rfl
def Qabt(x:Operand)(i:Nat):DW P V tm h nx ty K (.extract x i)=step P V true tm h nx ty K (.extract x i):=rfl
def YC(c:Call):DW P V tm h nx ty K (.call c)=step P V true tm h nx ty K (.call c):=rfl
def UB(t:TypeId)(x:Operand)(lo:Option Operand)(z:Option Operand)(G:Option Operand):DW P V tm h nx ty K (.slice t x lo z G)=step P V true tm h nx ty K (.slice t x lo z G):=rfl
def UA(t:TypeId)(x:Operand):DW P V tm h nx ty K (.range t x)=step P V true tm h nx ty K (.range t x):=rfl
def YF(x:Operand)(b:Bool):DW P V tm h nx ty K (.next x b)=step P V true tm h nx ty K (.next x b):=rfl
def U7(x:Operand):DW P V tm h nx ty K (.entry x)=step P V true tm h nx ty K (.entry x):=rfl
def Qyj(t:TypeId)(x:Operand):DW P V tm h nx ty K (.makeChan t x)=step P V true tm h nx ty K (.makeChan t x):=rfl
def Qmy(t:TypeId)(x:Operand):DW P V tm h nx ty K (.makeInterface t x)=step P V true tm h nx ty K (.makeInterface t x):=rfl
def U9(x:Operand):DW P V tm h nx ty K (.panic x)=step P V true tm h nx ty K (.panic x):=rfl
def Qs9(x:Operand)(t:TypeId)(u:TypeId)(ok:Bool):DW P V tm h nx ty K (.typeAssert x t u ok)=step P V true tm h nx ty K (.typeAssert x t u ok):=rfl
end
def J{a b:Prop}(x:a)(y:b):a/\b:=⟨x,y⟩
def VC0:=J @AE.eq_1<|J @hget.eq_1<|J @Bl.eq_1<|J @Aj.put.eq_1<|J @Aj.put.eq_2<|J @Aj.app_nr<|J @kD.eq_1<|J @kD.eq_2<|J @kD.eq_3<|J @kD.eq_4<|J @kD.eq_5<|J @kD.eq_6<|J @kD.eq_7<|J @kD.eq_8<|J @kD.eq_9<|J @Ay.eq_1<|J @Ay.eq_2<|J @Ay.eq_3<|J @Ay.eq_4<|J @D.cells.eq_1<|J @D.cells.eq_2<|J @D.cells.eq_3<|J @D.cells.eq_4<|J @D.cells.eq_5<|J @D.cells.eq_6<|J @D.cells.eq_7<|J @D.cells.eq_8<|J @D.cells.eq_9<|J @D.cells.eq_10<|@D.cells.eq_11
def VC1:=J @D.cells.eq_12<|J @D.cells.eq_13<|J @D.cells.eq_14<|J @D.cells.eq_15<|J @D.cells.eq_16<|J @D.cells.eq_17<|J @AV.cells.eq_1<|J @AV.cells.eq_2<|J @AV.cells.eq_3<|J @AV.cells.eq_4<|J @AV.cells.eq_5<|J @AV.cells.eq_6<|J @AV.cells.eq_7<|J @AV.cells.eq_8<|J @AV.cells.eq_9<|J @AV.cells.eq_10<|J @AV.cells.eq_11<|J @AV.cells.eq_12<|J @D.one.eq_1<|J @D.one.eq_2<|J @D.one.eq_3<|J @D.one.eq_4<|J @D.one.eq_5<|J @D.one.eq_6<|J @D.one.eq_7<|J @D.one.eq_8<|J @D.one.eq_9<|J @D.one.eq_10<|J @D.one.eq_11<|@D.one.eq_12
def VC2:=J @D.one.eq_13<|J @D.one.eq_14<|J @D.one.eq_15<|J @D.one.eq_16<|J @D.one.eq_17<|J @AV.one.eq_1<|J @AV.one.eq_2<|J @AV.one.eq_3<|J @AV.one.eq_4<|J @AV.one.eq_5<|J @AV.one.eq_6<|J @AV.one.eq_7<|J @AV.one.eq_8<|J @AV.one.eq_9<|J @AV.one.eq_10<|J @AV.one.eq_11<|J @AV.one.eq_12<|J @QX.eq_1<|J @QX.eq_2<|J @AV.asD.eq_1<|J @AV.asD.eq_2<|J @AV.asD.eq_3<|J @AV.asD.eq_4<|J @AV.asD.eq_5<|J @AV.asD.eq_6<|J @AV.asD.eq_7<|J @AV.asD.eq_8<|J @AV.asD.eq_9<|J @AV.asD.eq_10<|@AV.asD.eq_11
def VC3:=J @AV.asD.eq_12<|J @NZ.eq_1<|J @NZ.eq_2<|J @NZ.eq_3<|J @DL.eq_1<|J @DL.eq_2<|J @Yj.eq_1<|J @Yj.eq_2<|J @hdV.eq_1<|J @hdV.eq_2<|J @iF.eq_1<|J @iF.eq_2<|J @iM.eq_1<|J @aU.eq_1<|J @BX.eq_1<|J @D.beq.eq_1<|J @D.beq.eq_2<|J @D.beq.eq_3<|J @D.beq.eq_4<|J @D.beql.eq_1<|J @D.beql.eq_2<|J @lk.eq_1<|J @lk.eq_2<|J @G0.eq_1<|J @G0.eq_2<|J @IN.eq_1<|J @IN.eq_2<|J @eW.eq_1<|J @uN.eq_1<|@IY.eq_1
def VC4:=J @IY.eq_2<|J @IX.eq_1<|J @IX.eq_2<|J @WU.eq_1<|J @WU.eq_2<|J @WU.eq_3<|J @WU.eq_4<|J @Yb.eq_1<|J @Yb.eq_2<|J @Qxz.eq_1<|J @Qyo.eq_1<|J @UE.eq_1<|J @Jl.eq_1<|J @Jl.eq_2<|J @rX.eq_1<|J @rX.eq_2<|J @Qri.eq_1<|J @Rr.eq_1<|J @Rr.eq_2<|J @Ky.eq_1<|J @Ky.eq_2<|J @Ky.eq_3<|J @XD.eq_1<|J @XD.eq_2<|J @faK.eq_1<|J @yJ.eq_1<|J @wK.eq_1<|J @LZ.eq_1<|J @LZ.eq_2<|@XV.eq_1
def VC5:=J @XV.eq_2<|J @LY.eq_1<|J @LY.eq_2<|J @Bg.eq_1<|J @Bg.eq_2<|J @wD.eq_1<|J @wD.eq_2<|J @Qjp.eq_1<|J @SO.eq_1<|J @kCh.eq_1<|J @ixK.eq_1<|J @ixK.eq_2<|J @Qxc.eq_1<|J @GH.eq_1<|J @GH.eq_2<|J @GH.eq_3<|J @GH.eq_4<|J @GH.eq_5<|J @GH.eq_6<|J @GH.eq_7<|J @GH.eq_8<|J @GH.eq_9<|J @GH.eq_10<|J @GH.eq_11<|J @GH.eq_12<|J @GH.eq_13<|J @GH.eq_14<|J @GH.eq_15<|J @GH.eq_16<|@GH.eq_17
def VC6:=J @IB.eq_1<|J @IB.eq_2<|J @IB.eq_3<|J @IB.eq_4<|J @IB.eq_5<|J @IB.eq_6<|J @IB.eq_7<|J @IB.eq_8<|J @IB.eq_9<|J @IB.eq_10<|J @IB.eq_11<|J @IB.eq_12<|J @IB.eq_13<|J @IB.eq_14<|J @aH.eq_1<|J @Se.eq_1<|J @uD.eq_1<|J @uD.eq_2<|J @uD.eq_3<|J @uD.eq_4<|J @VY.eq_1<|J @VY.eq_2<|J @VY.eq_3<|J @WQ.eq_1<|J @WQ.eq_2<|J @WQ.eq_3<|J @NC.eq_1<|J @NC.eq_2<|J @NC.eq_3<|@Jp.eq_1
def VC7:=J @Jp.eq_2<|J @Nb.eq_1<|J @Nb.eq_2<|J @tM.eq_1<|J @tM.eq_2<|J @tG.eq_1<|J @tG.eq_2<|J @ZB.eq_1<|J @ZB.eq_2<|J @ZB.eq_3<|J @fD.eq_1<|J @fD.eq_2<|J @fD.eq_3<|J @fD.eq_4<|J @YX.eq_1<|J @YX.eq_2<|J @ZH.eq_1<|J @ZH.eq_2<|J @HB.eq_1<|J @HB.eq_2<|J @HB.eq_3<|J @Jh.eq_1<|J @M4.eq_1<|J @N7.eq_1<|J @N7.eq_2<|J @Ry.eq_1<|J @vU.eq_1<|J @vU.eq_2<|J @Qsy.eq_1<|@Ie.eq_1
def VC8:=J @Ie.eq_2<|J @BZ.eq_1<|J @BZ.eq_2<|J @II.eq_1<|J @II.eq_2<|J @L3.eq_1<|J @L3.eq_2<|J @bsE.eq_1<|J @bsK.eq_1<|J @xZ.eq_1<|J @msE.eq_1<|J @msK.eq_1<|J @yK.eq_1<|J @ZE.eq_1<|J @ZE.eq_2<|J @DK.eq_1<|J @DK.eq_2<|J @Bn.eq_1<|J @Bz.eq_1<|J @Bz.eq_2<|J @Cb.okOne.eq_1<|J @Cb.okOne.eq_2<|J @Cb.okOne.eq_3<|J @N4.eq_1<|J @N4.eq_2<|J @N4.eq_3<|J @mN.eq_1<|J @mN.eq_2<|J @mN.eq_3<|@mM.eq_1
def VC9:=J @mM.eq_2<|J @mM.eq_3<|J @IF.eq_1<|J @IF.eq_2<|J @Rt.eq_1<|J @Rt.eq_2<|J @apE.eq_1<|J @apK.eq_1<|J @Qsl.eq_1<|J @FH.eq_1<|J @Qxr.eq_1<|J @Qxr.eq_2<|J @Mi.eq_1<|J @iI.eq_1<|J @iI.eq_2<|J @fC.eq_1<|J @fC.eq_2<|J @fC.eq_3<|J @Tb.eq_1<|J @uJ.eq_1<|J @uJ.eq_2<|J @uJ.eq_3<|J @Fo.eq_1<|J @Fo.eq_2<|J @Fo.eq_3<|J @Fo.eq_4<|J @Fo.eq_5<|J @Fo.eq_6<|J @Fo.eq_7<|@Fo.eq_8
def VC10:=J @Fo.eq_9<|J @fI.eq_1<|J @Qy3.eq_1<|J @IV.eq_1<|J @Th.eq_1<|J @fJ.eq_1<|J @fJ.eq_2<|J @fJ.eq_3<|J @Yi.eq_1<|J @Yi.eq_2<|J @luE.eq_1<|J @luK.eq_1<|J @zW.eq_1<|J @Tv.eq_1<|J @Tu.eq_1<|J @Tu.eq_2<|J @K8.eq_1<|J @K8.eq_2<|J @K8.eq_3<|J @K8.eq_4<|J @K8.eq_5<|J @K8.eq_6<|J @K8.eq_7<|J @K8.eq_8<|J @K8.eq_9<|J @muF.eq_1<|J @Tw.eq_1<|J @rM.eq_1<|J @rM.eq_2<|@RS.eq_1
def VC11:=J @Xz.eq_1<|J @Xz.eq_2<|J @RQ.eq_1<|J @RQ.eq_2<|J @RQ.eq_3<|J @RQ.eq_4<|J @RQ.eq_5<|J @RQ.eq_6<|J @RQ.eq_7<|J @RQ.eq_8<|J @RQ.eq_9<|J @zT.eq_1<|J @exA.eq_1<|J @exA.eq_2<|J @exD.eq_1<|J @exD.eq_2<|J @kO.eq_1<|J @kO.eq_2<|J @kQ.eq_1<|J @kQ.eq_2<|J @kQ.eq_3<|J @kQ.eq_4<|J @Q8.eq_1<|J @Q8.eq_2<|J @Qw.eq_1<|J @Qw.eq_2<|J @Qjk.eq_1<|J @Qg6.eq_1<|J @QP.eq_1<|@WH.eq_1
def VC12:=J @WH.eq_2<|J @WH.eq_3<|J @WH.eq_4<|J @yX.eq_1<|J @yX.eq_2<|J @zM.eq_1<|J @Qzp.eq_1<|J @Qsv.eq_1<|J @UW.eq_1<|J @FI.eq_1<|J @FI.eq_2<|J @FI.eq_3<|J @FI.eq_4<|J @Fq.eq_1<|J @Fq.eq_2<|J @Fq.eq_3<|J @Fq.eq_4<|J @lO.eq_1<|J @lO.eq_2<|J @QD.eq_1<|J @QD.eq_2<|J @W0.eq_1<|J @W0.eq_2<|J @UX.eq_1<|J @Wz.eq_1<|J @Wz.eq_2<|J @Nc.eq_1<|J @ZL.eq_1<|J @ZL.eq_2<|@ZL.eq_3
def VC13:=J @ZL.eq_4<|J @ZL.eq_5<|J @KP.eq_1<|J @tE.eq_1<|J @tE.eq_2<|J @H2.eq_1<|J @H2.eq_2<|J @Hj.eq_1<|J @L4.eq_1<|J @L4.eq_2<|J @R7.eq_1<|J @gJ.eq_1<|J @gK.eq_1<|J @gL.eq_1<|J @IJ.eq_1<|J @IJ.eq_2<|J @TK.isStr.eq_1<|J @TK.isStr.eq_2<|J @TK.isStr.eq_3<|J @TK.isStr.eq_4<|J @TK.isStr.eq_5<|J @TK.isStr.eq_6<|J @TK.isStr.eq_7<|J @TK.isStr.eq_8<|J @TK.isStr.eq_9<|J @isStr.eq_1<|J @isStr.eq_2<|J @Wl.eq_1<|J @Nd.eq_1<|@TK.isSl.eq_1
def VC14:=J @TK.isSl.eq_2<|J @TK.isSl.eq_3<|J @TK.isSl.eq_4<|J @TK.isSl.eq_5<|J @TK.isSl.eq_6<|J @TK.isSl.eq_7<|J @TK.isSl.eq_8<|J @TK.isSl.eq_9<|J @zG.eq_1<|J @D6.eq_1<|J @D6.eq_2<|J @He.eq_1<|J @He.eq_2<|J @UG.eq_1<|J @UG.eq_2<|J @UG.eq_3<|J @Jn.eq_1<|J @Jn.eq_2<|J @Jn.eq_3<|J @uF.eq_1<|J @uF.eq_2<|J @Jo.eq_1<|J @Jo.eq_2<|J @Jo.eq_3<|J @UH.eq_1<|J @xK.eq_1<|J @xK.eq_2<|J @jP.eq_1<|J @Qu.eq_1<|@Qu.eq_2
def VC15:=J @Qu.eq_3<|J @Qu.eq_4<|J @Qu.eq_5<|J @Qu.eq_6<|J @Qu.eq_7<|J @Qu.eq_8<|J @Qu.eq_9<|J @Qsm.eq_1<|J @gP.eq_1<|J @gQ.eq_1<|J @fG.eq_1<|J @fG.eq_2<|J @fG.eq_3<|J @RL.eq_1<|J @RN.eq_1<|J @VD.eq_1<|J @VD.eq_2<|J @eY.eq_1<|J @RO.eq_1<|J @RO.eq_2<|J @RO.eq_3<|J @RP.eq_1<|J @RP.eq_2<|J @RP.eq_3<|J @RP.eq_4<|J @RP.eq_5<|J @RP.eq_6<|J @RP.eq_7<|J @RP.eq_8<|@RP.eq_9
def VC16:=J @Qzd.eq_1<|J @Xt.eq_1<|J @Xt.eq_2<|J @RB.eq_1<|J @RB.eq_2<|J @RB.eq_3<|J @RB.eq_4<|J @RB.eq_5<|J @RB.eq_6<|J @RB.eq_7<|J @RB.eq_8<|J @RB.eq_9<|J @Qrt.eq_1<|J @Uu.eq_1<|J @rgD.eq_1<|J @rgM.eq_1<|J @rgM.eq_2<|J @Ut.eq_1<|J @Ut.eq_2<|J @Ut.eq_3<|J @Ut.eq_4<|J @Ut.eq_5<|J @Ut.eq_6<|J @Ut.eq_7<|J @Ut.eq_8<|J @Ut.eq_9<|J @Qsh.eq_1<|J @wZ.eq_1<|J @T9.eq_1<|@VX.eq_1
def VC17:=J @iZ.eq_1<|J @iZ.eq_2<|J @Sc.eq_1<|J @Qsz.eq_1<|J @mcE.eq_1<|J @mcV.eq_1<|J @mcK.eq_1<|J @mcK.eq_2<|J @yM.eq_1<|J @aQ.eq_1<|J @Te.eq_1<|J @Te.eq_2<|J @jK.eq_1<|J @KR.eq_1<|J @jI.eq_1<|J @rvC.eq_1<|J @rvE.eq_1<|J @rvK.eq_1<|J @rvK.eq_2<|J @KQ.eq_1<|J @Sf.eq_1<|J @Sg.eq_1<|J @Sg.eq_2<|J @N5.eq_1<|J @N5.eq_2<|J @Ij.eq_1<|J @Ij.eq_2<|J @Ij.eq_3<|J @Ij.eq_4<|@Ij.eq_5
def VC18:=J @Ij.eq_6<|J @Ij.eq_7<|J @Ij.eq_8<|J @Ij.eq_9<|J @Ij.eq_10<|J @Ij.eq_11<|J @Ij.eq_12<|J @Ij.eq_13<|J @Ij.eq_14<|J @Ij.eq_15<|J @Ij.eq_16<|J @Ij.eq_17<|J @Fm.eq_1<|J @Fm.eq_2<|J @Fm.eq_3<|J @Fm.eq_4<|J @Fm.eq_5<|J @Fm.eq_6<|J @Fm.eq_7<|J @Fm.eq_8<|J @Fm.eq_9<|J @Fm.eq_10<|J @Fm.eq_11<|J @Fm.eq_12<|J @unS.eq_1<|J @QW.eq_1<|J @QW.eq_2<|J @QW.eq_4<|J @QW.eq_5<|@QW.eq_6
def VC19:=J @QW.eq_7<|J @QW.eq_8<|J @QW.eq_9<|J @QW.eq_10<|J @QW.eq_11<|J @Qst.eq_1<|J @KO.eq_1<|J @Lh.eq_1<|J @Lh.eq_2<|J @Lh.eq_3<|J @Lh.eq_4<|J @Lh.eq_5<|J @Lh.eq_6<|J @Lh.eq_7<|J @Lh.eq_8<|J @Lh.eq_9<|J @Lh.eq_10<|J @Lh.eq_11<|J @Lh.eq_12<|J @Zy.eq_1<|J @Zy.eq_2<|J @Zy.eq_3<|J @Zy.eq_4<|J @Zy.eq_5<|J @Zy.eq_6<|J @sW.eq_1<|J @sW.eq_2<|J @sW.eq_3<|J @Yk.eq_1<|@Yk.eq_2
def VC20:=J @Ts.eq_1<|J @Ts.eq_2<|J @Ts.eq_3<|J @Ts.eq_4<|J @Ts.eq_5<|J @Ts.eq_6<|J @Ts.eq_7<|J @Ts.eq_8<|J @Ts.eq_9<|J @zB.eq_1<|J @D5.eq_1<|J @D5.eq_2<|J @J6.eq_1<|J @J6.eq_2<|J @Qrk.eq_1<|J @yC.eq_1<|J @zX.eq_1<|J @RH.eq_1<|J @RH.eq_2<|J @RG.eq_1<|J @RG.eq_2<|J @RG.eq_3<|J @RG.eq_4<|J @RG.eq_5<|J @RG.eq_6<|J @RG.eq_7<|J @RG.eq_8<|J @HK.eq_1<|J @HK.eq_2<|@HK.eq_3
def VC21:=J @HK.eq_4<|J @HK.eq_5<|J @HK.eq_6<|J @HK.eq_7<|J @HK.eq_8<|J @HK.eq_9<|J @HK.eq_10<|J @HK.eq_11<|J @HK.eq_12<|J @HK.eq_13<|J @RF.eq_1<|J @RF.eq_2<|J @RF.eq_3<|J @O1.eq_1<|J @O1.eq_2<|J @hnm.eq_1<|J @hnm.eq_2<|J @Qz3.eq_1<|J @Qz3.eq_2<|J @NA.eq_1<|J @NA.eq_2<|J @NA.eq_3<|J @step.eq_1<|J @step.eq_2<|J @step.eq_3<|J @step.eq_4<|J @step.eq_5<|J @step.eq_6<|J @step.eq_7<|@step.eq_8
def VC22:=J @step.eq_9<|J @step.eq_10<|J @step.eq_11<|J @step.eq_12<|J @step.eq_13<|J @step.eq_14<|J @step.eq_15<|J @step.eq_16<|J @step.eq_17<|J @step.eq_18<|J @step.eq_19<|J @step.eq_20<|J @step.eq_21<|J @step.eq_22<|J @step.eq_23<|J @step.eq_24<|J @step.eq_25<|J @step.eq_26<|J @step.eq_27<|J @step.eq_28<|J @step.eq_29<|J @WF.eq_2<|J @Ac.eq_1<|J @Ac.eq_2<|J @Ac.eq_3<|J @Ac.eq_4<|J @Ac.eq_5<|J @Ac.eq_6<|J @Ac.eq_7<|@Ac.eq_8
def VC23:=J @JQ.eq_1<|J @Hp.eq_1<|J @Hp.eq_2<|J @Bo.ok_nr<|J @WY.eq_1<|J @WY.eq_2<|J @Gg.eq_1<|J @Gg.eq_2<|J @DP.eq_1<|J @DW.eq_1<|J @DW.eq_2<|J @Jq.eq_1<|J @MZ.eq_1<|J @XS.eq_1<|J @XS.eq_2<|J @xC.eq_1<|J @xC.eq_2<|J @KM.eq_1<|J @KM.eq_2<|J @Lb.eq_1<|J @Lb.eq_2<|J @Jc.eq_1<|J @Jc.eq_2<|J @J3.eq_1<|J @J3.eq_2<|J @Gw.eq_1<|J @Gw.eq_2<|J @Iu.eq_1<|J @Iu.eq_2<|@Iu.eq_3
def VC24:=J @Iu.eq_4<|J @Iu.eq_5<|J @Iu.eq_6<|J @DB.eq_1<|J @DB.eq_2<|J @DB.eq_3<|J @ins.eq_1<|J @SI.eq_1<|J @SI.eq_2<|J @Hf.eq_1<|J @Hf.eq_2<|J @EG.eq_1<|J @EG.eq_2<|J @E5.eq_1<|J @I3.eq_1<|J @I3.eq_2<|J @Bo.touch.eq_1<|J @NM.eq_1<|J @Nf.eq_1<|J @MY.eq_1<|J @XR.eq_1<|J @XR.eq_2<|J @xB.eq_1<|J @xB.eq_2<|J @VQ.eq_1<|J @VQ.eq_2<|J @Nl.eq_1<|J @Nl.eq_2<|J @Nl.eq_3<|@IQ.eq_1
def VC25:=J @IQ.eq_2<|J @lU.eq_1<|J @lU.eq_2<|J @lU.eq_3<|J @Gz.eq_1<|J @Gz.eq_2<|J @Ca.eq_1<|J @Ca.eq_2<|J @Am.eq_1<|J @Am.eq_2<|J @A9.eq_1<|J @A9.eq_2<|J @Aj.good.eq_1<|J @pm.eq_1<|J @pm.eq_2<|J @iP.eq_1<|J @FL.eq_1<|J @FL.eq_2<|J @GU.eq_1<|J @GU.eq_2<|J @mt.eq_1<|J @mt.eq_2<|J @mt.eq_3<|J @mt.eq_4<|J @mt.eq_5<|J @mt.eq_6<|J @mt.eq_7<|J @mt.eq_8<|J @mt.eq_9<|@mt.eq_10
def VC26:=J @mt.eq_11<|J @mt.eq_13<|J @mt.eq_14<|J @D9.eq_1<|J @D9.eq_2<|J @D9.eq_3<|J @D9.eq_4<|J @GF.eq_1<|J @GF.eq_2<|J @GF.eq_3<|J @GF.eq_4<|J @ED.eq_1<|J @ED.eq_3<|J @ED.eq_4<|J @ED.eq_5<|J @ED.eq_6<|J @ED.eq_7<|J @ED.eq_8<|J @ED.eq_9<|J @ED.eq_10<|J @ED.eq_11<|J @ED.eq_12<|J @ED.eq_13<|J @ED.eq_14<|J @Kt.eq_1<|J @Kt.eq_2<|J @Tz.eq_1<|J @Tz.eq_2<|J @Em.eq_1<|@Em.eq_2
def VC27:=J @Qi.eq_1<|J @Qi.eq_2<|J @GV.eq_1<|J @GV.eq_2<|J @VL.eq_1<|J @VL.eq_2<|J @OI.eq_1<|J @OI.eq_2<|J @EO.eq_1<|J @EO.eq_2<|J @EO.eq_3<|J @Mq.eq_1<|J @Mq.eq_2<|J @Mq.eq_3<|J @Mp.eq_1<|J @Mp.eq_2<|J @Mp.eq_3<|J @HN.eq_1<|J @HN.eq_2<|J @Ss.eq_1<|J @Hi.eq_1<|J @Hi.eq_2<|J @Hi.eq_3<|J @Hi.eq_4<|J @Hi.eq_5<|J @Hi.eq_6<|J @Hi.eq_7<|J @KD.eq_1<|J @KD.eq_2<|@AV.fzA.eq_1
def VC28:=J @AV.fzA.eq_2<|J @AV.fzA.eq_3<|J @AV.fzA.eq_4<|J @AV.fzA.eq_5<|J @AV.fzA.eq_6<|J @AV.fzA.eq_7<|J @AV.fzA.eq_8<|J @AV.fzA.eq_9<|J @AV.fzA.eq_10<|J @AV.fzA.eq_11<|J @AV.fzA.eq_12<|J @D7.eq_1<|J @D7.eq_2<|J @D8.eq_1<|J @D8.eq_2<|J @Ad.fzA.eq_1<|J @Ad.fzA.eq_2<|J @Ad.fzA.eq_3<|J @Ad.fzA.eq_4<|J @Ad.fzA.eq_5<|J @Ad.fzA.eq_6<|J @Ad.fzA.eq_7<|J @HP.eq_1<|J @HP.eq_2<|J @HO.eq_1<|J @HO.eq_2<|J @Sv.eq_1<|J @Mo.eq_1<|J @Mo.eq_2<|@Mo.eq_3
def VC29:=J @CX.eq_1<|J @CX.eq_2<|J @CX.eq_3<|J @CX.eq_4<|J @CX.eq_5<|J @CX.eq_6<|J @CX.eq_7<|J @CX.eq_8<|J @CX.eq_9<|J @KK.fit.eq_1<|J @KK.fit.eq_2<|J @KK.fit.eq_3<|J @B0.eq_1<|J @B0.eq_2<|J @AV.bel.eq_1<|J @AV.bel.eq_2<|J @AV.bel.eq_3<|J @AV.bel.eq_4<|J @AV.bel.eq_5<|J @AV.bel.eq_6<|J @AV.bel.eq_7<|J @AV.bel.eq_8<|J @AV.bel.eq_9<|J @AV.bel.eq_10<|J @AV.bel.eq_11<|J @AV.bel.eq_12<|J @Aq.eq_1<|J @Aq.eq_2<|J @AV.nms.eq_1<|@AV.nms.eq_2
def VC30:=J @AV.nms.eq_3<|J @AV.nms.eq_4<|J @AV.nms.eq_5<|J @AV.nms.eq_6<|J @AV.nms.eq_7<|J @AV.nms.eq_8<|J @AV.nms.eq_9<|J @AV.nms.eq_10<|J @AV.nms.eq_11<|J @AV.nms.eq_12<|J @AG.eq_1<|J @AG.eq_2<|J @B6.eq_1<|J @B6.eq_2<|J @Ad.nms.eq_1<|J @Ad.nms.eq_2<|J @Ad.nms.eq_3<|J @Ad.nms.eq_4<|J @Ad.nms.eq_5<|J @Ad.nms.eq_6<|J @Ad.nms.eq_7<|J @AV.ren.eq_1<|J @AV.ren.eq_2<|J @AV.ren.eq_3<|J @AV.ren.eq_4<|J @AV.ren.eq_5<|J @AV.ren.eq_6<|J @AV.ren.eq_7<|J @AV.ren.eq_8<|@AV.ren.eq_9
def VC31:=J @AV.ren.eq_10<|J @AV.ren.eq_11<|J @AV.ren.eq_12<|J @AL.eq_1<|J @AL.eq_2<|J @Ad.ren.eq_1<|J @Ad.ren.eq_2<|J @Ad.ren.eq_3<|J @Ad.ren.eq_4<|J @Ad.ren.eq_5<|J @Ad.ren.eq_6<|J @Ad.ren.eq_7<|J @A7.eq_1<|J @A7.eq_2<|J @Qd.eq_1<|J @Qd.eq_2<|J @WW.eq_1<|J @WR.eq_1<|J @mU.eq_1<|J @mU.eq_2<|J @iL.eq_1<|J @iL.eq_2<|J @iL.eq_3<|J @Ja.eq_1<|J @kp.eq_1<|J @kp.eq_2<|J @Eh.eq_1<|J @Eh.eq_2<|J @Bd.eq_1<|@Bd.eq_2
def VC32:=J @Bd.eq_3<|J @Bd.eq_4<|J @Bd.eq_5<|J @Bd.eq_6<|J @Bd.eq_7<|J @Bd.eq_8<|J @Bd.eq_9<|J @Bd.eq_10<|J @Bd.eq_11<|J @Bd.eq_12<|J @Bd.eq_13<|J @Bd.eq_14<|J @L5.eq_1<|J @IL.eq_1<|J @IL.eq_2<|J @Ka.eq_1<|J @Ka.eq_2<|J @Db.eq_1<|J @entry.eq_1<|J @entry.eq_2<|J @XW.eq_1<|J @XW.eq_2<|J @HQ.eq_1<|J @Cy.eq_1<|J @Cy.eq_2<|J @Cy.eq_3<|J @Cy.eq_4<|J @Cy.eq_5<|J @Cy.eq_6<|@Cy.eq_7
def VC33:=J @IM.eq_1<|J @IM.eq_2<|J @IM.eq_3<|J @klE.eq_1<|J @klE.eq_2<|J @Jf.eq_1<|J @Jf.eq_2<|J @exE.eq_1<|J @exE.eq_2<|J @exE.eq_3<|J @Je.eq_1<|J @Je.eq_2<|J @Ru.eq_1<|J @Ru.eq_2<|J @Ru.eq_3<|J @YB.eq_1<|J @YB.eq_2<|J @XC.eq_1<|J @XC.eq_2<|J @Jj.eq_1<|J @Jj.eq_2<|J @Jj.eq_3<|J @bB.eq_1<|J @ML.eq_1<|J @ML.eq_2<|J @Uo.eq_1<|J @Pm.eq_1<|J @Pm.eq_2<|J @Pm.eq_3<|@Kw.eq_1
def VC34:=J @wB.eq_1<|J @wB.eq_2<|J @wA.eq_1<|J @sg.eq_1<|J @AY.eq_1<|J @AY.eq_2<|J @Qv.eq_1<|J @Qv.eq_2<|J @Di.eq_1<|J @Di.eq_2<|J @Di.eq_3<|J @D0.eq_1<|J @D0.eq_2<|J @D0.eq_3<|J @BI.eq_1<|J @BI.eq_2<|J @BI.eq_3<|J @Qs.eq_1<|J @Qs.eq_2<|J @Qs.eq_3<|J @Qs.eq_4<|J @Qs.eq_5<|J @Qs.eq_6<|J @Qs.eq_7<|J @Qs.eq_8<|J @Qr.eq_1<|J @Qr.eq_2<|J @Qr.eq_3<|J @Qr.eq_4<|@Qr.eq_5
def VC35:=J @Qr.eq_6<|J @Qr.eq_7<|J @Qr.eq_8<|J @mS.eq_1<|J @mS.eq_2<|J @Eo.eq_1<|J @Eo.eq_2<|J @Eo.eq_3<|J @Eo.eq_4<|J @Eo.eq_5<|J @Eo.eq_6<|J @Eo.eq_7<|J @Eo.eq_8<|J @Eo.eq_9<|J @Eo.eq_10<|J @Eo.eq_11<|J @Eo.eq_12<|J @Sw.eq_1<|J @Sw.eq_2<|J @aX.eq_1<|J @aX.eq_2<|J @FV.eq_1<|J @FV.eq_2<|J @FV.eq_3<|J @FV.eq_4<|J @FV.eq_5<|J @FV.eq_6<|J @FV.eq_7<|J @FV.eq_8<|@FV.eq_9
def VC36:=J @FV.eq_10<|J @FV.eq_11<|J @FV.eq_12<|J @FV.eq_13<|J @FV.eq_14<|J @FV.eq_15<|J @FV.eq_16<|J @FV.eq_17<|J @pkC.eq_1<|J @pkC.eq_2<|J @TT.eq_1<|J @TT.eq_2<|J @TT.eq_3<|J @TT.eq_4<|J @TT.eq_5<|J @TT.eq_6<|J @TT.eq_7<|J @TT.eq_8<|J @JB.eq_1<|J @JB.eq_2<|J @JB.eq_3<|J @JB.eq_4<|J @JB.eq_5<|J @JB.eq_6<|J @JB.eq_7<|J @JB.eq_8<|J @JB.eq_9<|J @JB.eq_10<|J @JB.eq_11<|@JB.eq_12
def VC37:=J @eX.eq_1<|J @eX.eq_2<|J @eX.eq_3<|J @KE.eq_1<|J @KE.eq_2<|J @El.eq_1<|J @El.eq_2<|J @Sr.eq_1<|J @Sr.eq_2<|J @Zq.eq_1<|J @Zq.eq_2<|J @Ec.eq_1<|J @EK.eq_1<|J @EK.eq_2<|J @EK.eq_3<|J @EK.eq_4<|J @EK.eq_5<|J @EK.eq_6<|J @EK.eq_7<|J @EK.eq_8<|J @EK.eq_9<|J @EK.eq_10<|J @EK.eq_11<|J @EK.eq_12<|J @M7.eq_1<|J @Cg.eq_1<|J @Ao.eq_1<|J @IW.eq_1<|J @Sd.eq_1<|@Sd.eq_2
def VC38:=J @EW.eq_1<|J @EW.eq_2<|J @HU.eq_1<|J @HU.eq_2<|J @MJ.eq_1<|J @MJ.eq_2<|J @bA.eq_1<|J @MI.eq_1<|J @MI.eq_2<|J @HT.eq_1<|J @N9.eq_1<|J @N9.eq_2<|J @N9.eq_3<|J @Fy.eq_1<|J @Fy.eq_2<|J @Fy.eq_3<|J @CO.eq_1<|J @CO.eq_2<|J @BR.eq_1<|J @BR.eq_2<|J @Iw.eq_1<|J @eB.eq_1<|J @eB.eq_2<|J @WZ.eq_1<|J @WZ.eq_2<|J @VM.eq_1<|J @VM.eq_2<|J @U3.eq_1<|J @U3.eq_2<|@hC.eq_1
def VC39:=J @mQ.eq_1<|J @mQ.eq_2<|J @IS.eq_1<|J @IS.eq_2<|J @Sq.eq_1<|J @Sq.eq_2<|J @Sq.eq_3<|J @Kz.eq_1<|J @Kz.eq_2<|J @OD.eq_1<|J @OD.eq_2<|J @OD.eq_3<|J @OD.eq_4<|J @MK.eq_1<|J @MK.eq_2<|J @KJ.eq_1<|J @ZN.eq_1<|J @ZN.eq_2<|J @ZN.eq_3<|J @Lm.eq_1<|J @Lm.eq_2<|J @R6.eq_1<|J @ZI.eq_1<|J @ZI.eq_2<|J @R5.eq_1<|J @R5.eq_2<|J @R5.eq_3<|J @bk.eq_1<|J @bk.eq_2<|@bk.eq_3
def VC40:=J @bk.eq_4<|J @bk.eq_5<|J @bk.eq_6<|J @bk.eq_7<|J @bk.eq_8<|J @bk.eq_9<|J @bk.eq_10<|J @bk.eq_11<|J @bk.eq_12<|J @bk.eq_13<|J @Y0.eq_1<|J @Ft.eq_1<|J @ER.eq_1<|J @ER.eq_2<|J @ER.eq_3<|J @ER.eq_4<|J @ER.eq_5<|J @ER.eq_6<|J @ER.eq_7<|J @ER.eq_8<|J @ER.eq_9<|J @ER.eq_10<|J @ER.eq_11<|J @ER.eq_12<|J @I1.eq_1<|J @I1.eq_2<|J @I1.eq_3<|J @C7.eq_1<|J @C7.eq_2<|@WA.eq_1
def VC41:=J @WA.eq_2<|J @B4.eq_1<|J @X1<|J @X2<|J @X3<|J @X4<|J @RY<|J @RZ<|J @Sa<|J @Sb<|J @Qabq<|J @O6<|J @RX<|J @X7<|J @X6<|J @X5<|J @gS<|J @iW<|J @Yq<|J @iX<|J @iV<|J @iR<|J @Yo<|J @iU<|J @iQ<|J @iT<|J @iS<|J @wX<|J @wY<|@YE
def VC42:=J @Pt<|J @YG<|J @U4<|J @jJ<|J @U6<|J @Qs8<|J @YD<|J @UC<|J @Qyd<|J @U5<|J @YH<|J @Qaa9<|J @Qyi<|J @Qaa8<|J @Qvy<|J @Qv2<|J @Qvr<|J @U8<|J @Pu<|J @Qwt<|J @Qabt<|J @YC<|J @UB<|J @UA<|J @YF<|J @U7<|J @Qyj<|J @Qmy<|J @U9<|@Qs9
end Go.Ae
