/- Lemmas. Conditions: none. -/
import Derived.Test.YtogafbdeamcpnaaGreatDoorP04
set_option linter.all false
set_option maxHeartbeats 8000000
set_option maxRecDepth 100000
namespace Go.Ae
def WL(ks:List KK)(ds:List D):KT.fit ⟨true,ks⟩ (.agg ds)=Bw ks ds:=rfl
def WM(ks:List KK)(k:IntKind)(n:Int):KT.fit ⟨false,ks⟩ (.int k n)=Bw ks [.int k n]:=rfl
def WN(ks:List KK)(s:ByteArray):KT.fit ⟨false,ks⟩ (.str s)=Bw ks [.str s]:=rfl
def WO(ks:List KK)(s:Bool):KT.fit ⟨false,ks⟩ (.bool s)=Bw ks [.bool s]:=rfl
def Rn:CT []= .tup []:=rfl
def Ro(x y:AV):CT [x,y]= .tup [x,y]:=rfl
def Rp(x y z:AV):CT [x,y,z]= .tup [x,y,z]:=rfl
def Rq(x y z w:AV):CT [x,y,z,w]= .tup [x,y,z,w]:=rfl
def Qabq(t:Option Nat)(z:Bool)(s:Aj)(Kdo Kskip:Aj->Prop)(b:Bool):VT t z s Kdo Kskip (.im (.bool b))=if b=z then Kdo (s.put t (.im (.bool z))) else Kskip (s.put t (.im (.bool (!z)))):=by
 cases b<;>cases z<;>simp[VT]
def NN(A B:Cb->Aj->Prop)(Q:Cb)(s:Aj)(b:Bool):qQ A B Q s (.im (.bool b))=if b=true then A Q s else B Q s:=by
 cases b<;>simp[qQ]
def Rm(c:Bool)(K:Ai)(a b:AV):LV c K a b=if c=true then K a {} else K b {}:=by
 cases c<;>simp[LV]
def WR(m:Nat)(x:AV)(r:List (Nat×AV))(n:Nat):AD ((m,x)::r) n=if m=n then x else AD r n:=by
 by_cases h:m=n
 .subst h;simp[AD]
 .have:(m==n)=false:=by simpa using h
  simp[AD,this,h]
def WQ(m:Nat)(x:Aq)(r:Ap)(n:Nat):hget ((m,x)::r) n=if m=n then some x else hget r n:=by
 by_cases h:m=n
 .subst h;simp[hget]
 .have:(m==n)=false:=by simpa using h
  simp[hget,this,h]
def WP(m:Nat)(x:Aq)(r:Ap)(ks:List Nat):Bg ((m,x)::r) ks=if ks.contains m=true then Bg r ks else (m,x)::Bg r ks:=by
 cases h:ks.contains m<;>simp only[Bg,h]<;>simp
def eC(cl:List (List Nat))(j:Nat)(use touch z:List Nat)(f:Fp):dX cl j use touch z f=if (HI (use++touch) f.touch && (HI touch f.use && Fx f.nx f.cnt z))=true then true else DN cl f.i j:=by
 unfold dX;cases (HI (use++touch) f.touch && (HI touch f.use && Fx f.nx f.cnt z))<;>rfl
def fE(k:IntKind)(n:Int):Fu (.int k n)=0:=rfl
def X2(b:Bool):Fu (.bool b)=0:=rfl
def fF(s:ByteArray):Fu (.string s)=0:=rfl
def fD(cs:Array Value):Fu (.agg cs)=0:=rfl
def eZ(k:IntKind)(n:Int):Qd (.int k n)=false:=rfl
def X0(b:Bool):Qd (.bool b)=false:=rfl
def fC(s:ByteArray):Qd (.string s)=false:=rfl
def eY(cs:Array Value):Qd (.agg cs)=false:=rfl
def fB(a:Option Addr):Qd (.pointer a)=false:=rfl
def fA(a:Option Nat):Qd (.map a)=false:=rfl
def tJ:Qd .nilFunc=false:=rfl
def tK:Qd .nilIface=false:=rfl
section
variable (P:Program)(V:CK)(tm:List (Nat×AV))(h:Nat->Option Aq)(nx:Nat)(ty:TypeId)(K:Ai)
def XO(x:Operand):DI P V tm h nx ty K (.move x)=step P V true tm h nx ty K (.move x):=rfl
def OD(x:Operand):DI P V tm h nx ty K (.assign x)=step P V true tm h nx ty K (.assign x):=rfl
def XQ(c:Operand)(a:Operand)(b:Operand):DI P V tm h nx ty K (.pick c a b)=step P V true tm h nx ty K (.pick c a b):=rfl
def T8(t:TypeId):DI P V tm h nx ty K (.alloc t)=step P V true tm h nx ty K (.alloc t):=rfl
def fS(t:TypeId)(x:Operand):DI P V tm h nx ty K (.box t x)=step P V true tm h nx ty K (.box t x):=rfl
def TA(t:TypeId)(ps:Array (Nat×Operand)):DI P V tm h nx ty K (.build t ps)=step P V true tm h nx ty K (.build t ps):=rfl
def Qs8(t:TypeId)(n:Nat)(ps:Array (Nat×Operand)):DI P V tm h nx ty K (.buildSlice t n ps)=step P V true tm h nx ty K (.buildSlice t n ps):=rfl
def XN(t:TypeId)(x:Operand):DI P V tm h nx ty K (.load t x)=step P V true tm h nx ty K (.load t x):=rfl
def TH(t:TypeId)(x:Operand)(v:Operand):DI P V tm h nx ty K (.store t x v)=step P V true tm h nx ty K (.store t x v):=rfl
def Qyd(x:Operand):DI P V tm h nx ty K (.nilCheck x)=step P V true tm h nx ty K (.nilCheck x):=rfl
def T9(op:BinOp)(t:TypeId)(x:Operand)(y:Operand)(u:TypeId):DI P V tm h nx ty K (.binOp op t x y u)=step P V true tm h nx ty K (.binOp op t x y u):=rfl
def XR(op:UnOp)(t:TypeId)(x:Operand):DI P V tm h nx ty K (.unOp op t x)=step P V true tm h nx ty K (.unOp op t x):=rfl
def Qaa9(s:TypeId)(t:TypeId)(x:Operand):DI P V tm h nx ty K (.convert s t x)=step P V true tm h nx ty K (.convert s t x):=rfl
def Qyi(f:Fn)(a:Array Operand)(c:Array Operand):DI P V tm h nx ty K (.makeFunc f a c)=step P V true tm h nx ty K (.makeFunc f a c):=rfl
def zZ(t:TypeId)(r:Option Operand):DI P V tm h nx ty K (.makeMap t r)=step P V true tm h nx ty K (.makeMap t r):=rfl
def Qvy(t:TypeId)(l:Operand)(c:Operand):DI P V tm h nx ty K (.makeSlice t l c)=step P V true tm h nx ty K (.makeSlice t l c):=rfl
def Qv2(t:TypeId)(x:Operand)(f:Nat):DI P V tm h nx ty K (.fieldAddr t x f)=step P V true tm h nx ty K (.fieldAddr t x f):=rfl
def Qvr(t:TypeId)(x:Operand)(i:Operand):DI P V tm h nx ty K (.indexAddr t x i)=step P V true tm h nx ty K (.indexAddr t x i):=rfl
def TC(t:TypeId)(x:Operand)(i:Operand):DI P V tm h nx ty K (.index t x i)=step P V true tm h nx ty K (.index t x i):=rfl
def OE(t:TypeId)(m:Operand)(k:Operand)(ok:Bool):DI P V tm h nx ty K (.lookup t m k ok)=step P V true tm h nx ty K (.lookup t m k ok):=rfl
def Qwt(t:TypeId)(m:Operand)(k:Operand)(v:Operand):DI P V tm h nx ty K (.mapUpdate t m k v)=step P V true tm h nx ty K (.mapUpdate t m k v):=rfl
def Qabt(x:Operand)(i:Nat):DI P V tm h nx ty K (.extract x i)=step P V true tm h nx ty K (.extract x i):=rfl
def XM(c:Call):DI P V tm h nx ty K (.call c)=step P V true tm h nx ty K (.call c):=rfl
def TG(t:TypeId)(x:Operand)(lo:Option Operand)(z:Option Operand)(G:Option Operand):DI P V tm h nx ty K (.slice t x lo z G)=step P V true tm h nx ty K (.slice t x lo z G):=rfl
def TF(t:TypeId)(x:Operand):DI P V tm h nx ty K (.range t x)=step P V true tm h nx ty K (.range t x):=rfl
def XP(x:Operand)(b:Bool):DI P V tm h nx ty K (.next x b)=step P V true tm h nx ty K (.next x b):=rfl
def TB(x:Operand):DI P V tm h nx ty K (.entry x)=step P V true tm h nx ty K (.entry x):=rfl
def Qyj(t:TypeId)(x:Operand):DI P V tm h nx ty K (.makeChan t x)=step P V true tm h nx ty K (.makeChan t x):=rfl
def Qmy(t:TypeId)(x:Operand):DI P V tm h nx ty K (.makeInterface t x)=step P V true tm h nx ty K (.makeInterface t x):=rfl
def TE(x:Operand):DI P V tm h nx ty K (.panic x)=step P V true tm h nx ty K (.panic x):=rfl
def Qs9(x:Operand)(t:TypeId)(u:TypeId)(ok:Bool):DI P V tm h nx ty K (.typeAssert x t u ok)=step P V true tm h nx ty K (.typeAssert x t u ok):=rfl
end
def J{a b:Prop}(x:a)(y:b):a/\b:=⟨x,y⟩
def VC0:=J @AD.eq_1<|J @hget.eq_1<|J @Bg.eq_1<|J @Aj.put.eq_1<|J @Aj.put.eq_2<|J @Aj.app_nr<|J @kD.eq_1<|J @kD.eq_2<|J @kD.eq_3<|J @kD.eq_4<|J @kD.eq_5<|J @kD.eq_6<|J @kD.eq_7<|J @kD.eq_8<|J @kD.eq_9<|J @Aw.eq_1<|J @Aw.eq_2<|J @Aw.eq_3<|J @Aw.eq_4<|J @D.cells.eq_1<|J @D.cells.eq_2<|J @D.cells.eq_3<|J @D.cells.eq_4<|J @D.cells.eq_5<|J @D.cells.eq_6<|J @D.cells.eq_7<|J @D.cells.eq_8<|J @D.cells.eq_9<|J @D.cells.eq_10<|@D.cells.eq_11
def VC1:=J @D.cells.eq_12<|J @D.cells.eq_13<|J @D.cells.eq_14<|J @D.cells.eq_15<|J @D.cells.eq_16<|J @D.cells.eq_17<|J @AV.cells.eq_1<|J @AV.cells.eq_2<|J @AV.cells.eq_3<|J @AV.cells.eq_4<|J @AV.cells.eq_5<|J @AV.cells.eq_6<|J @AV.cells.eq_7<|J @AV.cells.eq_8<|J @AV.cells.eq_9<|J @AV.cells.eq_10<|J @AV.cells.eq_11<|J @AV.cells.eq_12<|J @D.one.eq_1<|J @D.one.eq_2<|J @D.one.eq_3<|J @D.one.eq_4<|J @D.one.eq_5<|J @D.one.eq_6<|J @D.one.eq_7<|J @D.one.eq_8<|J @D.one.eq_9<|J @D.one.eq_10<|J @D.one.eq_11<|@D.one.eq_12
def VC2:=J @D.one.eq_13<|J @D.one.eq_14<|J @D.one.eq_15<|J @D.one.eq_16<|J @D.one.eq_17<|J @AV.one.eq_1<|J @AV.one.eq_2<|J @AV.one.eq_3<|J @AV.one.eq_4<|J @AV.one.eq_5<|J @AV.one.eq_6<|J @AV.one.eq_7<|J @AV.one.eq_8<|J @AV.one.eq_9<|J @AV.one.eq_10<|J @AV.one.eq_11<|J @AV.one.eq_12<|J @Qj.eq_1<|J @Qj.eq_2<|J @AV.asD.eq_1<|J @AV.asD.eq_2<|J @AV.asD.eq_3<|J @AV.asD.eq_4<|J @AV.asD.eq_5<|J @AV.asD.eq_6<|J @AV.asD.eq_7<|J @AV.asD.eq_8<|J @AV.asD.eq_9<|J @AV.asD.eq_10<|@AV.asD.eq_11
def VC3:=J @AV.asD.eq_12<|J @Nq.eq_1<|J @Nq.eq_2<|J @Nq.eq_3<|J @D8.eq_1<|J @D8.eq_2<|J @Xv.eq_1<|J @Xv.eq_2<|J @zM.eq_1<|J @zM.eq_2<|J @eJ.eq_1<|J @eJ.eq_2<|J @eU.eq_1<|J @Z5.eq_1<|J @BP.eq_1<|J @D.beq.eq_1<|J @D.beq.eq_2<|J @D.beq.eq_3<|J @D.beq.eq_4<|J @D.beql.eq_1<|J @D.beql.eq_2<|J @lk.eq_1<|J @lk.eq_2<|J @FY.eq_1<|J @FY.eq_2<|J @I0.eq_1<|J @I0.eq_2<|J @cH.eq_1<|J @rE.eq_1<|@IA.eq_1
def VC4:=J @IA.eq_2<|J @I9.eq_1<|J @I9.eq_2<|J @Wn.eq_1<|J @Wn.eq_2<|J @Wn.eq_3<|J @Wn.eq_4<|J @Xn.eq_1<|J @Xn.eq_2<|J @Qxz.eq_1<|J @Qyo.eq_1<|J @TJ.eq_1<|J @IM.eq_1<|J @IM.eq_2<|J @oE.eq_1<|J @oE.eq_2<|J @wZ.eq_1<|J @Q9.eq_1<|J @Q9.eq_2<|J @JQ.eq_1<|J @JQ.eq_2<|J @JQ.eq_3<|J @WW.eq_1<|J @WW.eq_2<|J @faK.eq_1<|J @uY.eq_1<|J @sV.eq_1<|J @L2.eq_1<|J @L2.eq_2<|@Xh.eq_1
def VC5:=J @Xh.eq_2<|J @L0.eq_1<|J @L0.eq_2<|J @Bc.eq_1<|J @Bc.eq_2<|J @sN.eq_1<|J @sN.eq_2<|J @Qjp.eq_1<|J @RW.eq_1<|J @kCh.eq_1<|J @zO.eq_1<|J @zO.eq_2<|J @Qxc.eq_1<|J @Gm.eq_1<|J @Gm.eq_2<|J @Gm.eq_3<|J @Gm.eq_4<|J @Gm.eq_5<|J @Gm.eq_6<|J @Gm.eq_7<|J @Gm.eq_8<|J @Gm.eq_9<|J @Gm.eq_10<|J @Gm.eq_11<|J @Gm.eq_12<|J @Gm.eq_13<|J @Gm.eq_14<|J @Gm.eq_15<|J @Gm.eq_16<|@Gm.eq_17
def VC6:=J @Il.eq_1<|J @Il.eq_2<|J @Il.eq_3<|J @Il.eq_4<|J @Il.eq_5<|J @Il.eq_6<|J @Il.eq_7<|J @Il.eq_8<|J @Il.eq_9<|J @Il.eq_10<|J @Il.eq_11<|J @Il.eq_12<|J @Il.eq_13<|J @Il.eq_14<|J @Zs.eq_1<|J @Rt.eq_1<|J @qN.eq_1<|J @qN.eq_2<|J @qN.eq_3<|J @qN.eq_4<|J @Vm.eq_1<|J @Vm.eq_2<|J @Vm.eq_3<|J @Wj.eq_1<|J @Wj.eq_2<|J @Wj.eq_3<|J @MY.eq_1<|J @MY.eq_2<|J @MY.eq_3<|@IQ.eq_1
def VC7:=J @IQ.eq_2<|J @M1.eq_1<|J @M1.eq_2<|J @pV.eq_1<|J @pV.eq_2<|J @pR.eq_1<|J @pR.eq_2<|J @YJ.eq_1<|J @YJ.eq_2<|J @YJ.eq_3<|J @cO.eq_1<|J @cO.eq_2<|J @cO.eq_3<|J @cO.eq_4<|J @Yf.eq_1<|J @Yf.eq_2<|J @YP.eq_1<|J @YP.eq_2<|J @Hi.eq_1<|J @Hi.eq_2<|J @Hi.eq_3<|J @II.eq_1<|J @LX.eq_1<|J @MT.eq_1<|J @MT.eq_2<|J @QF.eq_1<|J @sE.eq_1<|J @sE.eq_2<|J @xQ.eq_1<|@HA.eq_1
def VC8:=J @HA.eq_2<|J @BS.eq_1<|J @BS.eq_2<|J @Iv.eq_1<|J @Iv.eq_2<|J @KO.eq_1<|J @KO.eq_2<|J @bsE.eq_1<|J @bsK.eq_1<|J @uO.eq_1<|J @zR.eq_1<|J @msK.eq_1<|J @uZ.eq_1<|J @YM.eq_1<|J @YM.eq_2<|J @D7.eq_1<|J @D7.eq_2<|J @Bl.eq_1<|J @BC.eq_1<|J @BC.eq_2<|J @BW.okOne.eq_1<|J @BW.okOne.eq_2<|J @BW.okOne.eq_3<|J @MQ.eq_1<|J @MQ.eq_2<|J @MQ.eq_3<|J @jL.eq_1<|J @jL.eq_2<|J @jL.eq_3<|@jK.eq_1
def VC9:=J @jK.eq_2<|J @jK.eq_3<|J @Ir.eq_1<|J @Ir.eq_2<|J @QA.eq_1<|J @QA.eq_2<|J @apE.eq_1<|J @apK.eq_1<|J @Qsl.eq_1<|J @Ft.eq_1<|J @Qxr.eq_1<|J @Qxr.eq_2<|J @L9.eq_1<|J @eP.eq_1<|J @eP.eq_2<|J @cN.eq_1<|J @cN.eq_2<|J @cN.eq_3<|J @Sg.eq_1<|J @qX.eq_1<|J @qX.eq_2<|J @qX.eq_3<|J @EW.eq_1<|J @EW.eq_2<|J @EW.eq_3<|J @EW.eq_4<|J @EW.eq_5<|J @EW.eq_6<|J @EW.eq_7<|@EW.eq_8
def VC10:=J @EW.eq_9<|J @cU.eq_1<|J @yC.eq_1<|J @I6.eq_1<|J @Sl.eq_1<|J @cV.eq_1<|J @cV.eq_2<|J @cV.eq_3<|J @Xu.eq_1<|J @Xu.eq_2<|J @luE.eq_1<|J @luK.eq_1<|J @wN.eq_1<|J @Sy.eq_1<|J @Sx.eq_1<|J @Sx.eq_2<|J @JY.eq_1<|J @JY.eq_2<|J @JY.eq_3<|J @JY.eq_4<|J @JY.eq_5<|J @JY.eq_6<|J @JY.eq_7<|J @JY.eq_8<|J @JY.eq_9<|J @zS.eq_1<|J @Sz.eq_1<|J @nW.eq_1<|J @nW.eq_2<|@Rg.eq_1
def VC11:=J @WJ.eq_1<|J @WJ.eq_2<|J @Rf.eq_1<|J @Rf.eq_2<|J @Rf.eq_3<|J @Rf.eq_4<|J @Rf.eq_5<|J @Rf.eq_6<|J @Rf.eq_7<|J @Rf.eq_8<|J @Rf.eq_9<|J @wK.eq_1<|J @exA.eq_1<|J @exA.eq_2<|J @exD.eq_1<|J @exD.eq_2<|J @gQ.eq_1<|J @gQ.eq_2<|J @gR.eq_1<|J @gR.eq_2<|J @gR.eq_3<|J @gR.eq_4<|J @PR.eq_1<|J @PR.eq_2<|J @PJ.eq_1<|J @PJ.eq_2<|J @Qjk.eq_1<|J @Qg6.eq_1<|J @Qd.eq_1<|@VV.eq_1
def VC12:=J @VV.eq_2<|J @VV.eq_3<|J @VV.eq_4<|J @vQ.eq_1<|J @vQ.eq_2<|J @wD.eq_1<|J @yL.eq_1<|J @xP.eq_1<|J @Ue.eq_1<|J @Fu.eq_1<|J @Fu.eq_2<|J @Fu.eq_3<|J @Fu.eq_4<|J @EX.eq_1<|J @EX.eq_2<|J @EX.eq_3<|J @EX.eq_4<|J @iJ.eq_1<|J @iJ.eq_2<|J @PU.eq_1<|J @PU.eq_2<|J @VD.eq_1<|J @VD.eq_2<|J @Uf.eq_1<|J @VC.eq_1<|J @VC.eq_2<|J @M2.eq_1<|J @YU.eq_1<|J @YU.eq_2<|@YU.eq_3
def VC13:=J @YU.eq_4<|J @YU.eq_5<|J @Kk.eq_1<|J @pP.eq_1<|J @pP.eq_2<|J @GZ.eq_1<|J @GZ.eq_2<|J @GF.eq_1<|J @KP.eq_1<|J @KP.eq_2<|J @QN.eq_1<|J @dU.eq_1<|J @dV.eq_1<|J @dW.eq_1<|J @Iw.eq_1<|J @Iw.eq_2<|J @TK.isStr.eq_1<|J @TK.isStr.eq_2<|J @TK.isStr.eq_3<|J @TK.isStr.eq_4<|J @TK.isStr.eq_5<|J @TK.isStr.eq_6<|J @TK.isStr.eq_7<|J @TK.isStr.eq_8<|J @TK.isStr.eq_9<|J @isStr.eq_1<|J @isStr.eq_2<|J @Vw.eq_1<|J @M3.eq_1<|@TK.isSl.eq_1
def VC14:=J @TK.isSl.eq_2<|J @TK.isSl.eq_3<|J @TK.isSl.eq_4<|J @TK.isSl.eq_5<|J @TK.isSl.eq_6<|J @TK.isSl.eq_7<|J @TK.isSl.eq_8<|J @TK.isSl.eq_9<|J @vX.eq_1<|J @Dv.eq_1<|J @Dv.eq_2<|J @G7.eq_1<|J @G7.eq_2<|J @TM.eq_1<|J @TM.eq_2<|J @TM.eq_3<|J @IN.eq_1<|J @IN.eq_2<|J @IN.eq_3<|J @qO.eq_1<|J @qO.eq_2<|J @IP.eq_1<|J @IP.eq_2<|J @IP.eq_3<|J @TN.eq_1<|J @tY.eq_1<|J @tY.eq_2<|J @fX.eq_1<|J @PH.eq_1<|@PH.eq_2
def VC15:=J @PH.eq_3<|J @PH.eq_4<|J @PH.eq_5<|J @PH.eq_6<|J @PH.eq_7<|J @PH.eq_8<|J @PH.eq_9<|J @xL.eq_1<|J @dZ.eq_1<|J @eA.eq_1<|J @cR.eq_1<|J @cR.eq_2<|J @cR.eq_3<|J @Rb.eq_1<|J @Rc.eq_1<|J @UO.eq_1<|J @UO.eq_2<|J @cJ.eq_1<|J @Rd.eq_1<|J @Rd.eq_2<|J @Rd.eq_3<|J @Re.eq_1<|J @Re.eq_2<|J @Re.eq_3<|J @Re.eq_4<|J @Re.eq_5<|J @Re.eq_6<|J @Re.eq_7<|J @Re.eq_8<|@Re.eq_9
def VC16:=J @yJ.eq_1<|J @WD.eq_1<|J @WD.eq_2<|J @QS.eq_1<|J @QS.eq_2<|J @QS.eq_3<|J @QS.eq_4<|J @QS.eq_5<|J @QS.eq_6<|J @QS.eq_7<|J @QS.eq_8<|J @QS.eq_9<|J @xD.eq_1<|J @Tx.eq_1<|J @rgD.eq_1<|J @zU.eq_1<|J @zU.eq_2<|J @Tw.eq_1<|J @Tw.eq_2<|J @Tw.eq_3<|J @Tw.eq_4<|J @Tw.eq_5<|J @Tw.eq_6<|J @Tw.eq_7<|J @Tw.eq_8<|J @Tw.eq_9<|J @xJ.eq_1<|J @tL.eq_1<|J @SE.eq_1<|@Vl.eq_1
def VC17:=J @fH.eq_1<|J @fH.eq_2<|J @Rr.eq_1<|J @xR.eq_1<|J @zP.eq_1<|J @mcV.eq_1<|J @zQ.eq_1<|J @zQ.eq_2<|J @vB.eq_1<|J @Z2.eq_1<|J @Si.eq_1<|J @Si.eq_2<|J @fT.eq_1<|J @Km.eq_1<|J @fR.eq_1<|J @rvC.eq_1<|J @rvE.eq_1<|J @zV.eq_1<|J @zV.eq_2<|J @Kl.eq_1<|J @Ru.eq_1<|J @Rv.eq_1<|J @Rv.eq_2<|J @MR.eq_1<|J @MR.eq_2<|J @HG.eq_1<|J @HG.eq_2<|J @HG.eq_3<|J @HG.eq_4<|@HG.eq_5
def VC18:=J @HG.eq_6<|J @HG.eq_7<|J @HG.eq_8<|J @HG.eq_9<|J @HG.eq_10<|J @HG.eq_11<|J @HG.eq_12<|J @HG.eq_13<|J @HG.eq_14<|J @HG.eq_15<|J @HG.eq_16<|J @HG.eq_17<|J @EV.eq_1<|J @EV.eq_2<|J @EV.eq_3<|J @EV.eq_4<|J @EV.eq_5<|J @EV.eq_6<|J @EV.eq_7<|J @EV.eq_8<|J @EV.eq_9<|J @EV.eq_10<|J @EV.eq_11<|J @EV.eq_12<|J @unS.eq_1<|J @Qi.eq_1<|J @Qi.eq_2<|J @Qi.eq_4<|J @Qi.eq_5<|@Qi.eq_6
def VC19:=J @Qi.eq_7<|J @Qi.eq_8<|J @Qi.eq_9<|J @Qi.eq_10<|J @Qi.eq_11<|J @xN.eq_1<|J @Kj.eq_1<|J @K4.eq_1<|J @K4.eq_2<|J @K4.eq_3<|J @K4.eq_4<|J @K4.eq_5<|J @K4.eq_6<|J @K4.eq_7<|J @K4.eq_8<|J @K4.eq_9<|J @K4.eq_10<|J @K4.eq_11<|J @K4.eq_12<|J @Y8.eq_1<|J @Y8.eq_2<|J @Y8.eq_3<|J @Y8.eq_4<|J @Y8.eq_5<|J @Y8.eq_6<|J @pH.eq_1<|J @pH.eq_2<|J @pH.eq_3<|J @Xw.eq_1<|@Xw.eq_2
def VC20:=J @Sv.eq_1<|J @Sv.eq_2<|J @Sv.eq_3<|J @Sv.eq_4<|J @Sv.eq_5<|J @Sv.eq_6<|J @Sv.eq_7<|J @Sv.eq_8<|J @Sv.eq_9<|J @vT.eq_1<|J @Du.eq_1<|J @Du.eq_2<|J @Jg.eq_1<|J @Jg.eq_2<|J @xA.eq_1<|J @uP.eq_1<|J @wO.eq_1<|J @QY.eq_1<|J @QY.eq_2<|J @QX.eq_1<|J @QX.eq_2<|J @QX.eq_3<|J @QX.eq_4<|J @QX.eq_5<|J @QX.eq_6<|J @QX.eq_7<|J @QX.eq_8<|J @Ht.eq_1<|J @Ht.eq_2<|@Ht.eq_3
def VC21:=J @Ht.eq_4<|J @Ht.eq_5<|J @Ht.eq_6<|J @Ht.eq_7<|J @Ht.eq_8<|J @Ht.eq_9<|J @Ht.eq_10<|J @Ht.eq_11<|J @Ht.eq_12<|J @Ht.eq_13<|J @QW.eq_1<|J @QW.eq_2<|J @QW.eq_3<|J @NJ.eq_1<|J @NJ.eq_2<|J @hnm.eq_1<|J @hnm.eq_2<|J @yI.eq_1<|J @yI.eq_2<|J @MW.eq_1<|J @MW.eq_2<|J @MW.eq_3<|J @step.eq_1<|J @step.eq_2<|J @step.eq_3<|J @step.eq_4<|J @step.eq_5<|J @step.eq_6<|J @step.eq_7<|@step.eq_8
def VC22:=J @step.eq_9<|J @step.eq_10<|J @step.eq_11<|J @step.eq_12<|J @step.eq_13<|J @step.eq_14<|J @step.eq_15<|J @step.eq_16<|J @step.eq_17<|J @step.eq_18<|J @step.eq_19<|J @step.eq_20<|J @step.eq_21<|J @step.eq_22<|J @step.eq_23<|J @step.eq_24<|J @step.eq_25<|J @step.eq_26<|J @step.eq_27<|J @step.eq_28<|J @step.eq_29<|J @VT.eq_2<|J @Ac.eq_1<|J @Ac.eq_2<|J @Ac.eq_3<|J @Ac.eq_4<|J @Ac.eq_5<|J @Ac.eq_6<|J @Ac.eq_7<|@Ac.eq_8
def VC23:=J @Jy.eq_1<|J @G1.eq_1<|J @G1.eq_2<|J @Bk.ok_nr<|J @Wr.eq_1<|J @Wr.eq_2<|J @FJ.eq_1<|J @FJ.eq_2<|J @CR.eq_1<|J @DI.eq_1<|J @DI.eq_2<|J @IR.eq_1<|J @Mx.eq_1<|J @Xe.eq_1<|J @Xe.eq_2<|J @tP.eq_1<|J @tP.eq_2<|J @Ki.eq_1<|J @Ki.eq_2<|J @IW.eq_1<|J @IW.eq_2<|J @IE.eq_1<|J @IE.eq_2<|J @HI.eq_1<|J @HI.eq_2<|J @Fx.eq_1<|J @Fx.eq_2<|J @HR.eq_1<|J @HR.eq_2<|@HR.eq_3
def VC24:=J @HR.eq_4<|J @HR.eq_5<|J @HR.eq_6<|J @D1.eq_1<|J @D1.eq_2<|J @D1.eq_3<|J @zN.eq_1<|J @RO.eq_1<|J @RO.eq_2<|J @G8.eq_1<|J @G8.eq_2<|J @E6.eq_1<|J @E6.eq_2<|J @DN.eq_1<|J @Gp.eq_1<|J @Gp.eq_2<|J @Bk.touch.eq_1<|J @Hd.eq_1<|J @M4.eq_1<|J @Mw.eq_1<|J @Xd.eq_1<|J @Xd.eq_2<|J @tO.eq_1<|J @tO.eq_2<|J @Vc.eq_1<|J @Vc.eq_2<|J @M7.eq_1<|J @M7.eq_2<|J @M7.eq_3<|@I2.eq_1
def VC25:=J @I2.eq_2<|J @iP.eq_1<|J @iP.eq_2<|J @iP.eq_3<|J @FX.eq_1<|J @FX.eq_2<|J @BU.eq_1<|J @BU.eq_2<|J @An.eq_1<|J @An.eq_2<|J @A9.eq_1<|J @A9.eq_2<|J @Aj.good.eq_1<|J @pm.eq_1<|J @pm.eq_2<|J @eX.eq_1<|J @Fy.eq_1<|J @Fy.eq_2<|J @Gz.eq_1<|J @Gz.eq_2<|J @mt.eq_1<|J @mt.eq_2<|J @mt.eq_3<|J @mt.eq_4<|J @mt.eq_5<|J @mt.eq_6<|J @mt.eq_7<|J @mt.eq_8<|J @mt.eq_9<|@mt.eq_10
def VC26:=J @mt.eq_11<|J @mt.eq_13<|J @mt.eq_14<|J @Dz.eq_1<|J @Dz.eq_2<|J @Dz.eq_3<|J @Dz.eq_4<|J @Gk.eq_1<|J @Gk.eq_2<|J @Gk.eq_3<|J @Gk.eq_4<|J @Ez.eq_1<|J @Ez.eq_3<|J @Ez.eq_4<|J @Ez.eq_5<|J @Ez.eq_6<|J @Ez.eq_7<|J @Ez.eq_8<|J @Ez.eq_9<|J @Ez.eq_10<|J @Ez.eq_11<|J @Ez.eq_12<|J @Ez.eq_13<|J @Ez.eq_14<|J @JL.eq_1<|J @JL.eq_2<|J @S8.eq_1<|J @S8.eq_2<|J @Ea.eq_1<|@Ea.eq_2
def VC27:=J @P4.eq_1<|J @P4.eq_2<|J @G0.eq_1<|J @G0.eq_2<|J @UW.eq_1<|J @UW.eq_2<|J @NY.eq_1<|J @NY.eq_2<|J @ED.eq_1<|J @ED.eq_2<|J @ED.eq_3<|J @LI.eq_1<|J @LI.eq_2<|J @LI.eq_3<|J @LH.eq_1<|J @LH.eq_2<|J @LH.eq_3<|J @Hu.eq_1<|J @Hu.eq_2<|J @R3.eq_1<|J @GC.eq_1<|J @GC.eq_2<|J @GC.eq_3<|J @GC.eq_4<|J @GC.eq_5<|J @GC.eq_6<|J @GC.eq_7<|J @Kc.eq_1<|J @Kc.eq_2<|@AV.fzA.eq_1
def VC28:=J @AV.fzA.eq_2<|J @AV.fzA.eq_3<|J @AV.fzA.eq_4<|J @AV.fzA.eq_5<|J @AV.fzA.eq_6<|J @AV.fzA.eq_7<|J @AV.fzA.eq_8<|J @AV.fzA.eq_9<|J @AV.fzA.eq_10<|J @AV.fzA.eq_11<|J @AV.fzA.eq_12<|J @Dw.eq_1<|J @Dw.eq_2<|J @Dx.eq_1<|J @Dx.eq_2<|J @Ad.fzA.eq_1<|J @Ad.fzA.eq_2<|J @Ad.fzA.eq_3<|J @Ad.fzA.eq_4<|J @Ad.fzA.eq_5<|J @Ad.fzA.eq_6<|J @Ad.fzA.eq_7<|J @Hw.eq_1<|J @Hw.eq_2<|J @Hv.eq_1<|J @Hv.eq_2<|J @R6.eq_1<|J @LG.eq_1<|J @LG.eq_2<|@LG.eq_3
def VC29:=J @CM.eq_1<|J @CM.eq_2<|J @CM.eq_3<|J @CM.eq_4<|J @CM.eq_5<|J @CM.eq_6<|J @CM.eq_7<|J @CM.eq_8<|J @CM.eq_9<|J @KK.fit.eq_1<|J @KK.fit.eq_2<|J @KK.fit.eq_3<|J @Bw.eq_1<|J @Bw.eq_2<|J @AV.bel.eq_1<|J @AV.bel.eq_2<|J @AV.bel.eq_3<|J @AV.bel.eq_4<|J @AV.bel.eq_5<|J @AV.bel.eq_6<|J @AV.bel.eq_7<|J @AV.bel.eq_8<|J @AV.bel.eq_9<|J @AV.bel.eq_10<|J @AV.bel.eq_11<|J @AV.bel.eq_12<|J @Av.eq_1<|J @Av.eq_2<|J @AV.nms.eq_1<|@AV.nms.eq_2
def VC30:=J @AV.nms.eq_3<|J @AV.nms.eq_4<|J @AV.nms.eq_5<|J @AV.nms.eq_6<|J @AV.nms.eq_7<|J @AV.nms.eq_8<|J @AV.nms.eq_9<|J @AV.nms.eq_10<|J @AV.nms.eq_11<|J @AV.nms.eq_12<|J @AC.eq_1<|J @AC.eq_2<|J @B2.eq_1<|J @B2.eq_2<|J @Ad.nms.eq_1<|J @Ad.nms.eq_2<|J @Ad.nms.eq_3<|J @Ad.nms.eq_4<|J @Ad.nms.eq_5<|J @Ad.nms.eq_6<|J @Ad.nms.eq_7<|J @AV.ren.eq_1<|J @AV.ren.eq_2<|J @AV.ren.eq_3<|J @AV.ren.eq_4<|J @AV.ren.eq_5<|J @AV.ren.eq_6<|J @AV.ren.eq_7<|J @AV.ren.eq_8<|@AV.ren.eq_9
def VC31:=J @AV.ren.eq_10<|J @AV.ren.eq_11<|J @AV.ren.eq_12<|J @AL.eq_1<|J @AL.eq_2<|J @Ad.ren.eq_1<|J @Ad.ren.eq_2<|J @Ad.ren.eq_3<|J @Ad.ren.eq_4<|J @Ad.ren.eq_5<|J @Ad.ren.eq_6<|J @Ad.ren.eq_7<|J @Ax.eq_1<|J @Ax.eq_2<|J @Pz.eq_1<|J @Pz.eq_2<|J @Wp.eq_1<|J @Wk.eq_1<|J @jP.eq_1<|J @jP.eq_2<|J @eS.eq_1<|J @eS.eq_2<|J @eS.eq_3<|J @IC.eq_1<|J @kp.eq_1<|J @kp.eq_2<|J @DW.eq_1<|J @DW.eq_2<|J @Bb.eq_1<|@Bb.eq_2
def VC32:=J @Bb.eq_3<|J @Bb.eq_4<|J @Bb.eq_5<|J @Bb.eq_6<|J @Bb.eq_7<|J @Bb.eq_8<|J @Bb.eq_9<|J @Bb.eq_10<|J @Bb.eq_11<|J @Bb.eq_12<|J @Bb.eq_13<|J @Bb.eq_14<|J @KQ.eq_1<|J @Iy.eq_1<|J @Iy.eq_2<|J @J7.eq_1<|J @J7.eq_2<|J @CT.eq_1<|J @entry.eq_1<|J @entry.eq_2<|J @Xi.eq_1<|J @Xi.eq_2<|J @Hx.eq_1<|J @Ct.eq_1<|J @Ct.eq_2<|J @Ct.eq_3<|J @Ct.eq_4<|J @Ct.eq_5<|J @Ct.eq_6<|@Ct.eq_7
def VC33:=J @Iz.eq_1<|J @Iz.eq_2<|J @Iz.eq_3<|J @klE.eq_1<|J @klE.eq_2<|J @IG.eq_1<|J @IG.eq_2<|J @zJ.eq_1<|J @zJ.eq_2<|J @zJ.eq_3<|J @IF.eq_1<|J @IF.eq_2<|J @QB.eq_1<|J @QB.eq_2<|J @QB.eq_3<|J @XL.eq_1<|J @XL.eq_2<|J @WV.eq_1<|J @WV.eq_2<|J @IK.eq_1<|J @IK.eq_2<|J @IK.eq_3<|J @ZD.eq_1<|J @Mm.eq_1<|J @Mm.eq_2<|J @Tt.eq_1<|J @O7.eq_1<|J @O7.eq_2<|J @O7.eq_3<|@JO.eq_1
def VC34:=J @sL.eq_1<|J @sL.eq_2<|J @sK.eq_1<|J @sg.eq_1<|J @AW.eq_1<|J @AW.eq_2<|J @PI.eq_1<|J @PI.eq_2<|J @De.eq_1<|J @De.eq_2<|J @De.eq_3<|J @Dr.eq_1<|J @Dr.eq_2<|J @Dr.eq_3<|J @BF.eq_1<|J @BF.eq_2<|J @BF.eq_3<|J @PF.eq_1<|J @PF.eq_2<|J @PF.eq_3<|J @PF.eq_4<|J @PF.eq_5<|J @PF.eq_6<|J @PF.eq_7<|J @PF.eq_8<|J @PE.eq_1<|J @PE.eq_2<|J @PE.eq_3<|J @PE.eq_4<|@PE.eq_5
def VC35:=J @PE.eq_6<|J @PE.eq_7<|J @PE.eq_8<|J @jO.eq_1<|J @jO.eq_2<|J @Eb.eq_1<|J @Eb.eq_2<|J @Eb.eq_3<|J @Eb.eq_4<|J @Eb.eq_5<|J @Eb.eq_6<|J @Eb.eq_7<|J @Eb.eq_8<|J @Eb.eq_9<|J @Eb.eq_10<|J @Eb.eq_11<|J @Eb.eq_12<|J @R7.eq_1<|J @R7.eq_2<|J @Z8.eq_1<|J @Z8.eq_2<|J @FU.eq_1<|J @FU.eq_2<|J @FU.eq_3<|J @FU.eq_4<|J @FU.eq_5<|J @FU.eq_6<|J @FU.eq_7<|J @FU.eq_8<|@FU.eq_9
def VC36:=J @FU.eq_10<|J @FU.eq_11<|J @FU.eq_12<|J @FU.eq_13<|J @FU.eq_14<|J @FU.eq_15<|J @FU.eq_16<|J @FU.eq_17<|J @zT.eq_1<|J @zT.eq_2<|J @SV.eq_1<|J @SV.eq_2<|J @SV.eq_3<|J @SV.eq_4<|J @SV.eq_5<|J @SV.eq_6<|J @SV.eq_7<|J @SV.eq_8<|J @Jl.eq_1<|J @Jl.eq_2<|J @Jl.eq_3<|J @Jl.eq_4<|J @Jl.eq_5<|J @Jl.eq_6<|J @Jl.eq_7<|J @Jl.eq_8<|J @Jl.eq_9<|J @Jl.eq_10<|J @Jl.eq_11<|@Jl.eq_12
def VC37:=J @cI.eq_1<|J @cI.eq_2<|J @cI.eq_3<|J @IH.eq_1<|J @IH.eq_2<|J @DK.eq_1<|J @DK.eq_2<|J @PD.eq_1<|J @PD.eq_2<|J @Vi.eq_1<|J @Vi.eq_2<|J @CU.eq_1<|J @EA.eq_1<|J @EA.eq_2<|J @EA.eq_3<|J @EA.eq_4<|J @EA.eq_5<|J @EA.eq_6<|J @EA.eq_7<|J @EA.eq_8<|J @EA.eq_9<|J @EA.eq_10<|J @EA.eq_11<|J @EA.eq_12<|J @LZ.eq_1<|J @BT.eq_1<|J @Am.eq_1<|J @I8.eq_1<|J @Rs.eq_1<|@Rs.eq_2
def VC38:=J @EK.eq_1<|J @EK.eq_2<|J @H3.eq_1<|J @H3.eq_2<|J @Mk.eq_1<|J @Mk.eq_2<|J @ZC.eq_1<|J @Mj.eq_1<|J @Mj.eq_2<|J @H2.eq_1<|J @MV.eq_1<|J @MV.eq_2<|J @MV.eq_3<|J @F3.eq_1<|J @F3.eq_2<|J @F3.eq_3<|J @D3.eq_1<|J @D3.eq_2<|J @BK.eq_1<|J @BK.eq_2<|J @HT.eq_1<|J @bV.eq_1<|J @bV.eq_2<|J @Ws.eq_1<|J @Ws.eq_2<|J @UZ.eq_1<|J @UZ.eq_2<|J @T7.eq_1<|J @T7.eq_2<|@eF.eq_1
def VC39:=J @jN.eq_1<|J @jN.eq_2<|J @I4.eq_1<|J @I4.eq_2<|J @R2.eq_1<|J @R2.eq_2<|J @R2.eq_3<|J @JR.eq_1<|J @JR.eq_2<|J @NU.eq_1<|J @NU.eq_2<|J @NU.eq_3<|J @NU.eq_4<|J @Ml.eq_1<|J @Ml.eq_2<|J @Kh.eq_1<|J @YX.eq_1<|J @YX.eq_2<|J @YX.eq_3<|J @K9.eq_1<|J @K9.eq_2<|J @QM.eq_1<|J @YQ.eq_1<|J @YQ.eq_2<|J @QL.eq_1<|J @QL.eq_2<|J @QL.eq_3<|J @bk.eq_1<|J @bk.eq_2<|@bk.eq_3
def VC40:=J @bk.eq_4<|J @bk.eq_5<|J @bk.eq_6<|J @bk.eq_7<|J @bk.eq_8<|J @bk.eq_9<|J @bk.eq_10<|J @bk.eq_11<|J @bk.eq_12<|J @bk.eq_13<|J @X9.eq_1<|J @EZ.eq_1<|J @Ed.eq_1<|J @Ed.eq_2<|J @Ed.eq_3<|J @Ed.eq_4<|J @Ed.eq_5<|J @Ed.eq_6<|J @Ed.eq_7<|J @Ed.eq_8<|J @Ed.eq_9<|J @Ed.eq_10<|J @Ed.eq_11<|J @Ed.eq_12<|J @GY.eq_1<|J @GY.eq_2<|J @GY.eq_3<|J @Ce.eq_1<|J @Ce.eq_2<|@VN.eq_1
def VC41:=J @VN.eq_2<|J @Bv.eq_1<|J @WL<|J @WM<|J @WN<|J @WO<|J @Rn<|J @Ro<|J @Rp<|J @Rq<|J @Qabq<|J @NN<|J @Rm<|J @WR<|J @WQ<|J @WP<|J @eC<|J @fE<|J @X2<|J @fF<|J @fD<|J @eZ<|J @X0<|J @fC<|J @eY<|J @fB<|J @fA<|J @tJ<|J @tK<|@XO
def VC42:=J @OD<|J @XQ<|J @T8<|J @fS<|J @TA<|J @Qs8<|J @XN<|J @TH<|J @Qyd<|J @T9<|J @XR<|J @Qaa9<|J @Qyi<|J @zZ<|J @Qvy<|J @Qv2<|J @Qvr<|J @TC<|J @OE<|J @Qwt<|J @Qabt<|J @XM<|J @TG<|J @TF<|J @XP<|J @TB<|J @Qyj<|J @Qmy<|J @TE<|@Qs9
end Go.Ae
