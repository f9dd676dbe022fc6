/- Lemmas. Conditions: none. -/
import Derived.Test.YtkjfcnnfidnpcaaGreatDoorP04
set_option linter.all false
set_option maxHeartbeats 8000000
set_option maxRecDepth 100000
namespace Go.Ae
def Xv(ks:List KK)(ds:List D):KT.fit ⟨true,ks⟩ (.agg ds)=Bx ks ds:=rfl
def Xw(ks:List KK)(k:IntKind)(n:Int):KT.fit ⟨false,ks⟩ (.int k n)=Bx ks [.int k n]:=rfl
def Xx(ks:List KK)(s:ByteArray):KT.fit ⟨false,ks⟩ (.str s)=Bx ks [.str s]:=rfl
def Xy(ks:List KK)(s:Bool):KT.fit ⟨false,ks⟩ (.bool s)=Bx ks [.bool s]:=rfl
def RV:Dh []= .tup []:=rfl
def RW(x y:AV):Dh [x,y]= .tup [x,y]:=rfl
def RX(x y z:AV):Dh [x,y,z]= .tup [x,y,z]:=rfl
def RY(x y z w:AV):Dh [x,y,z,w]= .tup [x,y,z,w]:=rfl
def Qabq(t:Option Nat)(z:Bool)(s:Av)(Kdo Kskip:Av->Prop)(b:Bool):W5 t z s Kdo Kskip (.im (.bool b))=if b=z then Kdo (s.put t (.im (.bool z))) else Kskip (s.put t (.im (.bool (!z)))):=by
 cases b<;>cases z<;>simp[W5]
def O5(A B:Cq->Av->Prop)(Q:Cq)(s:Av)(b:Bool):uP A B Q s (.im (.bool b))=if b=true then A Q s else B Q s:=by
 cases b<;>simp[uP]
def RU(c:Bool)(K:Ai)(a b:AV):M4 c K a b=if c=true then K a {} else K b {}:=by
 cases c<;>simp[M4]
def X1(m:Nat)(x:AV)(r:List (Nat×AV))(n:Nat):A8 ((m,x)::r) n=if m=n then x else A8 r n:=by
 by_cases h:m=n
 .subst h;simp[A8]
 .have:(m==n)=false:=by simpa using h
  simp[A8,this,h]
def X0(m:Nat)(x:An)(r:Ao)(n:Nat):hget ((m,x)::r) n=if m=n then some x else hget r n:=by
 by_cases h:m=n
 .subst h;simp[hget]
 .have:(m==n)=false:=by simpa using h
  simp[hget,this,h]
def Xz(m:Nat)(x:An)(r:Ao)(ks:List Nat):Bi ((m,x)::r) ks=if ks.contains m=true then Bi r ks else (m,x)::Bi r ks:=by
 cases h:ks.contains m<;>simp only[Bi,h]<;>simp
def gZ(cl:List (List Nat))(j:Nat)(use touch z:List Nat)(f:Fp):mZ cl j use touch z f=if (J5 (use++touch) f.touch && (J5 touch f.use && Gs f.nx f.cnt z))=true then true else ED cl f.i j:=by
 unfold mZ;cases (J5 (use++touch) f.touch && (J5 touch f.use && Gs f.nx f.cnt z))<;>rfl
def iX(k:IntKind)(n:Int):FG (.int k n)=0:=rfl
def Yg(b:Bool):FG (.bool b)=0:=rfl
def iY(s:ByteArray):FG (.string s)=0:=rfl
def iW(cs:Array Value):FG (.agg cs)=0:=rfl
def iS(k:IntKind)(n:Int):QN (.int k n)=false:=rfl
def Ye(b:Bool):QN (.bool b)=false:=rfl
def iV(s:ByteArray):QN (.string s)=false:=rfl
def iR(cs:Array Value):QN (.agg cs)=false:=rfl
def iU(a:Option Addr):QN (.pointer a)=false:=rfl
def iT(a:Option Nat):QN (.map a)=false:=rfl
def xD:QN .nilFunc=false:=rfl
def xE:QN .nilIface=false:=rfl
section
variable (P:Program)(V:CX)(tm:List (Nat×AV))(h:Nat->Option An)(nx:Nat)(ty:TypeId)(K:Ai)
def Y1(x:Operand):Ea P V tm h nx ty K (.move x)=step P V true tm h nx ty K (.move x):=rfl
def Pm(x:Operand):Ea P V tm h nx ty K (.assign x)=step P V true tm h nx ty K (.assign x):=rfl
def Y3(c:Operand)(a:Operand)(b:Operand):Ea P V tm h nx ty K (.pick c a b)=step P V true tm h nx ty K (.pick c a b):=rfl
def Ur(t:TypeId):Ea P V tm h nx ty K (.alloc t)=step P V true tm h nx ty K (.alloc t):=rfl
def jN(t:TypeId)(x:Operand):Ea P V tm h nx ty K (.box t x)=step P V true tm h nx ty K (.box t x):=rfl
def Uu(t:TypeId)(ps:Array (Nat×Operand)):Ea P V tm h nx ty K (.build t ps)=step P V true tm h nx ty K (.build t ps):=rfl
def Qs8(t:TypeId)(n:Nat)(ps:Array (Nat×Operand)):Ea P V tm h nx ty K (.buildSlice t n ps)=step P V true tm h nx ty K (.buildSlice t n ps):=rfl
def Y0(t:TypeId)(x:Operand):Ea P V tm h nx ty K (.load t x)=step P V true tm h nx ty K (.load t x):=rfl
def U1(t:TypeId)(x:Operand)(v:Operand):Ea P V tm h nx ty K (.store t x v)=step P V true tm h nx ty K (.store t x v):=rfl
def Qyd(x:Operand):Ea P V tm h nx ty K (.nilCheck x)=step P V true tm h nx ty K (.nilCheck x):=rfl
def Ut(op:BinOp)(t:TypeId)(x:Operand)(y:Operand)(u:TypeId):Ea P V tm h nx ty K (.binOp op t x y u)=step P V true tm h nx ty K (.binOp op t x y u):=rfl
def Y4(op:UnOp)(t:TypeId)(x:Operand):Ea P V tm h nx ty K (.unOp op t x)=step P V true tm h nx ty K (.unOp op t x):=rfl
def Qaa9(s:TypeId)(t:TypeId)(x:Operand):Ea P V tm h nx ty K (.convert s t x)=step P V true tm h nx ty K (.convert s t x):=rfl
def Qyi(f:Fn)(a:Array Operand)(c:Array Operand):Ea P V tm h nx ty K (.makeFunc f a c)=step P V true tm h nx ty K (.makeFunc f a c):=rfl
def Qaa8(t:TypeId)(r:Option Operand):Ea P V tm h nx ty K (.makeMap t r)=step P V true tm h nx ty K (.makeMap t r):=rfl
def Qvy(t:TypeId)(l:Operand)(c:Operand):Ea P V tm h nx ty K (.makeSlice t l c)=step P V true tm h nx ty K (.makeSlice t l c):=rfl
def Qv2(t:TypeId)(x:Operand)(f:Nat):Ea P V tm h nx ty K (.fieldAddr t x f)=step P V true tm h nx ty K (.fieldAddr t x f):=rfl
def Qvr(t:TypeId)(x:Operand)(i:Operand):Ea P V tm h nx ty K (.indexAddr t x i)=step P V true tm h nx ty K (.indexAddr t x i):=rfl
def Uw(t:TypeId)(x:Operand)(i:Operand):Ea P V tm h nx ty K (.index t x i)=step P V true tm h nx ty K (.index t x i):=rfl
def Pn(t:TypeId)(m:Operand)(k:Operand)(ok:Bool):Ea P V tm h nx ty K (.lookup t m k ok)=step P V true tm h nx ty K (.lookup t m k ok):=rfl
def Qwt(t:TypeId)(m:Operand)(k:Operand)(v:Operand):Ea P V tm h nx ty K (.mapUpdate t m k v)=step P V true tm h nx ty K (.mapUpdate t m k v):=rfl
def Qabt(x:Operand)(i:Nat):Ea P V tm h nx ty K (.extract x i)=step P V true tm h nx ty K (.extract x i):=rfl
def Yz(c:Call):Ea P V tm h nx ty K (.call c)=step P V true tm h nx ty K (.call c):=rfl
def Uz(t:TypeId)(x:Operand)(lo:Option Operand)(z:Option Operand)(O:Option Operand):Ea P V tm h nx ty K (.slice t x lo z O)=step P V true tm h nx ty K (.slice t x lo z O):=rfl
def Uy(t:TypeId)(x:Operand):Ea P V tm h nx ty K (.range t x)=step P V true tm h nx ty K (.range t x):=rfl
def Y2(x:Operand)(b:Bool):Ea P V tm h nx ty K (.next x b)=step P V true tm h nx ty K (.next x b):=rfl
def Uv(x:Operand):Ea P V tm h nx ty K (.entry x)=step P V true tm h nx ty K (.entry x):=rfl
def Qyj(t:TypeId)(x:Operand):Ea P V tm h nx ty K (.makeChan t x)=step P V true tm h nx ty K (.makeChan t x):=rfl
def Qmy(t:TypeId)(x:Operand):Ea P V tm h nx ty K (.makeInterface t x)=step P V true tm h nx ty K (.makeInterface t x):=rfl
def Ux(x:Operand):Ea P V tm h nx ty K (.panic x)=step P V true tm h nx ty K (.panic x):=rfl
def Qs9(x:Operand)(t:TypeId)(u:TypeId)(ok:Bool):Ea P V tm h nx ty K (.typeAssert x t u ok)=step P V true tm h nx ty K (.typeAssert x t u ok):=rfl
end
def J{a b:Prop}(x:a)(y:b):a/\b:=⟨x,y⟩
def VC0:=J @A8.eq_1<|J @hget.eq_1<|J @Bi.eq_1<|J @Av.put.eq_1<|J @Av.put.eq_2<|J @Av.app_nr<|J @kD.eq_1<|J @kD.eq_2<|J @kD.eq_3<|J @kD.eq_4<|J @kD.eq_5<|J @kD.eq_6<|J @kD.eq_7<|J @kD.eq_8<|J @kD.eq_9<|J @Aq.eq_1<|J @Aq.eq_2<|J @Aq.eq_3<|J @Aq.eq_4<|J @D.cells.eq_1<|J @D.cells.eq_2<|J @D.cells.eq_3<|J @D.cells.eq_4<|J @D.cells.eq_5<|J @D.cells.eq_6<|J @D.cells.eq_7<|J @D.cells.eq_8<|J @D.cells.eq_9<|J @D.cells.eq_10<|@D.cells.eq_11
def VC1:=J @D.cells.eq_12<|J @D.cells.eq_13<|J @D.cells.eq_14<|J @D.cells.eq_15<|J @D.cells.eq_16<|J @D.cells.eq_17<|J @AV.cells.eq_1<|J @AV.cells.eq_2<|J @AV.cells.eq_3<|J @AV.cells.eq_4<|J @AV.cells.eq_5<|J @AV.cells.eq_6<|J @AV.cells.eq_7<|J @AV.cells.eq_8<|J @AV.cells.eq_9<|J @AV.cells.eq_10<|J @AV.cells.eq_11<|J @AV.cells.eq_12<|J @D.one.eq_1<|J @D.one.eq_2<|J @D.one.eq_3<|J @D.one.eq_4<|J @D.one.eq_5<|J @D.one.eq_6<|J @D.one.eq_7<|J @D.one.eq_8<|J @D.one.eq_9<|J @D.one.eq_10<|J @D.one.eq_11<|@D.one.eq_12
def VC2:=J @D.one.eq_13<|J @D.one.eq_14<|J @D.one.eq_15<|J @D.one.eq_16<|J @D.one.eq_17<|J @AV.one.eq_1<|J @AV.one.eq_2<|J @AV.one.eq_3<|J @AV.one.eq_4<|J @AV.one.eq_5<|J @AV.one.eq_6<|J @AV.one.eq_7<|J @AV.one.eq_8<|J @AV.one.eq_9<|J @AV.one.eq_10<|J @AV.one.eq_11<|J @AV.one.eq_12<|J @QV.eq_1<|J @QV.eq_2<|J @AV.asD.eq_1<|J @AV.asD.eq_2<|J @AV.asD.eq_3<|J @AV.asD.eq_4<|J @AV.asD.eq_5<|J @AV.asD.eq_6<|J @AV.asD.eq_7<|J @AV.asD.eq_8<|J @AV.asD.eq_9<|J @AV.asD.eq_10<|@AV.asD.eq_11
def VC3:=J @AV.asD.eq_12<|J @NV.eq_1<|J @NV.eq_2<|J @NV.eq_3<|J @DQ.eq_1<|J @DQ.eq_2<|J @XZ.eq_1<|J @XZ.eq_2<|J @hdV.eq_1<|J @hdV.eq_2<|J @nG.eq_1<|J @nG.eq_2<|J @iN.eq_1<|J @aW.eq_1<|J @Ce.eq_1<|J @D.beq.eq_1<|J @D.beq.eq_2<|J @D.beq.eq_3<|J @D.beq.eq_4<|J @D.beql.eq_1<|J @D.beql.eq_2<|J @lk.eq_1<|J @lk.eq_2<|J @Gy.eq_1<|J @Gy.eq_2<|J @IR.eq_1<|J @IR.eq_2<|J @eZ.eq_1<|J @uX.eq_1<|@Ja.eq_1
def VC4:=J @Ja.eq_2<|J @IZ.eq_1<|J @IZ.eq_2<|J @WL.eq_1<|J @WL.eq_2<|J @WL.eq_3<|J @WL.eq_4<|J @XS.eq_1<|J @XS.eq_2<|J @Qxz.eq_1<|J @Qyo.eq_1<|J @U3.eq_1<|J @Jm.eq_1<|J @Jm.eq_2<|J @sD.eq_1<|J @sD.eq_2<|J @Qri.eq_1<|J @Rq.eq_1<|J @Rq.eq_2<|J @K6.eq_1<|J @K6.eq_2<|J @K6.eq_3<|J @X6.eq_1<|J @X6.eq_2<|J @faK.eq_1<|J @yO.eq_1<|J @wO.eq_1<|J @Mc.eq_1<|J @Mc.eq_2<|@XM.eq_1
def VC5:=J @XM.eq_2<|J @Mb.eq_1<|J @Mb.eq_2<|J @Bf.eq_1<|J @Bf.eq_2<|J @wJ.eq_1<|J @wJ.eq_2<|J @Qjp.eq_1<|J @SK.eq_1<|J @kCh.eq_1<|J @ixK.eq_1<|J @ixK.eq_2<|J @Qxc.eq_1<|J @GC.eq_1<|J @GC.eq_2<|J @GC.eq_3<|J @GC.eq_4<|J @GC.eq_5<|J @GC.eq_6<|J @GC.eq_7<|J @GC.eq_8<|J @GC.eq_9<|J @GC.eq_10<|J @GC.eq_11<|J @GC.eq_12<|J @GC.eq_13<|J @GC.eq_14<|J @GC.eq_15<|J @GC.eq_16<|@GC.eq_17
def VC6:=J @I8.eq_1<|J @I8.eq_2<|J @I8.eq_3<|J @I8.eq_4<|J @I8.eq_5<|J @I8.eq_6<|J @I8.eq_7<|J @I8.eq_8<|J @I8.eq_9<|J @I8.eq_10<|J @I8.eq_11<|J @I8.eq_12<|J @I8.eq_13<|J @I8.eq_14<|J @aG.eq_1<|J @Sb.eq_1<|J @uN.eq_1<|J @uN.eq_2<|J @uN.eq_3<|J @uN.eq_4<|J @VK.eq_1<|J @VK.eq_2<|J @VK.eq_3<|J @WH.eq_1<|J @WH.eq_2<|J @WH.eq_3<|J @NB.eq_1<|J @NB.eq_2<|J @NB.eq_3<|@Jq.eq_1
def VC7:=J @Jq.eq_2<|J @MZ.eq_1<|J @MZ.eq_2<|J @tU.eq_1<|J @tU.eq_2<|J @tP.eq_1<|J @tP.eq_2<|J @Z7.eq_1<|J @Z7.eq_2<|J @Z7.eq_3<|J @fH.eq_1<|J @fH.eq_2<|J @fH.eq_3<|J @fH.eq_4<|J @YK.eq_1<|J @YK.eq_2<|J @ZE.eq_1<|J @ZE.eq_2<|J @H5.eq_1<|J @H5.eq_2<|J @H5.eq_3<|J @Ji.eq_1<|J @M5.eq_1<|J @N5.eq_1<|J @N5.eq_2<|J @Rw.eq_1<|J @wB.eq_1<|J @wB.eq_2<|J @Qsy.eq_1<|@HT.eq_1
def VC8:=J @HT.eq_2<|J @Ch.eq_1<|J @Ch.eq_2<|J @IM.eq_1<|J @IM.eq_2<|J @L5.eq_1<|J @L5.eq_2<|J @bsE.eq_1<|J @bsK.eq_1<|J @yG.eq_1<|J @msE.eq_1<|J @msK.eq_1<|J @yP.eq_1<|J @ZB.eq_1<|J @ZB.eq_2<|J @DP.eq_1<|J @DP.eq_2<|J @Bp.eq_1<|J @BK.eq_1<|J @BK.eq_2<|J @BX.okOne.eq_1<|J @BX.okOne.eq_2<|J @BX.okOne.eq_3<|J @N2.eq_1<|J @N2.eq_2<|J @N2.eq_3<|J @mY.eq_1<|J @mY.eq_2<|J @mY.eq_3<|@mX.eq_1
def VC9:=J @mX.eq_2<|J @mX.eq_3<|J @IK.eq_1<|J @IK.eq_2<|J @Rr.eq_1<|J @Rr.eq_2<|J @apE.eq_1<|J @apK.eq_1<|J @Qsl.eq_1<|J @FF.eq_1<|J @Qxr.eq_1<|J @Qxr.eq_2<|J @Mj.eq_1<|J @iK.eq_1<|J @iK.eq_2<|J @fG.eq_1<|J @fG.eq_2<|J @fG.eq_3<|J @SV.eq_1<|J @uS.eq_1<|J @uS.eq_2<|J @uS.eq_3<|J @Fu.eq_1<|J @Fu.eq_2<|J @Fu.eq_3<|J @Fu.eq_4<|J @Fu.eq_5<|J @Fu.eq_6<|J @Fu.eq_7<|@Fu.eq_8
def VC10:=J @Fu.eq_9<|J @fL.eq_1<|J @Qy3.eq_1<|J @IY.eq_1<|J @Tb.eq_1<|J @fM.eq_1<|J @fM.eq_2<|J @fM.eq_3<|J @XY.eq_1<|J @XY.eq_2<|J @luE.eq_1<|J @luK.eq_1<|J @Qnn.eq_1<|J @Tq.eq_1<|J @Tp.eq_1<|J @Tp.eq_2<|J @KG.eq_1<|J @KG.eq_2<|J @KG.eq_3<|J @KG.eq_4<|J @KG.eq_5<|J @KG.eq_6<|J @KG.eq_7<|J @KG.eq_8<|J @KG.eq_9<|J @muF.eq_1<|J @Tr.eq_1<|J @rU.eq_1<|J @rU.eq_2<|@RO.eq_1
def VC11:=J @Xt.eq_1<|J @Xt.eq_2<|J @RN.eq_1<|J @RN.eq_2<|J @RN.eq_3<|J @RN.eq_4<|J @RN.eq_5<|J @RN.eq_6<|J @RN.eq_7<|J @RN.eq_8<|J @RN.eq_9<|J @Qni.eq_1<|J @exA.eq_1<|J @exA.eq_2<|J @exD.eq_1<|J @exD.eq_2<|J @lA.eq_1<|J @lA.eq_2<|J @lB.eq_1<|J @lB.eq_2<|J @lB.eq_3<|J @lB.eq_4<|J @Q9.eq_1<|J @Q9.eq_2<|J @Qw.eq_1<|J @Qw.eq_2<|J @Qjk.eq_1<|J @Qg6.eq_1<|J @QN.eq_1<|@W7.eq_1
def VC12:=J @W7.eq_2<|J @W7.eq_3<|J @W7.eq_4<|J @zC.eq_1<|J @zC.eq_2<|J @zT.eq_1<|J @Qzp.eq_1<|J @Qsv.eq_1<|J @UM.eq_1<|J @FG.eq_1<|J @FG.eq_2<|J @FG.eq_3<|J @FG.eq_4<|J @Fv.eq_1<|J @Fv.eq_2<|J @Fv.eq_3<|J @Fv.eq_4<|J @lW.eq_1<|J @lW.eq_2<|J @QE.eq_1<|J @QE.eq_2<|J @Wj.eq_1<|J @Wj.eq_2<|J @UN.eq_1<|J @Wi.eq_1<|J @Wi.eq_2<|J @Na.eq_1<|J @ZK.eq_1<|J @ZK.eq_2<|@ZK.eq_3
def VC13:=J @ZK.eq_4<|J @ZK.eq_5<|J @KY.eq_1<|J @tM.eq_1<|J @tM.eq_2<|J @Hw.eq_1<|J @Hw.eq_2<|J @Hg.eq_1<|J @L6.eq_1<|J @L6.eq_2<|J @R4.eq_1<|J @gQ.eq_1<|J @gR.eq_1<|J @gS.eq_1<|J @IN.eq_1<|J @IN.eq_2<|J @TK.isStr.eq_1<|J @TK.isStr.eq_2<|J @TK.isStr.eq_3<|J @TK.isStr.eq_4<|J @TK.isStr.eq_5<|J @TK.isStr.eq_6<|J @TK.isStr.eq_7<|J @TK.isStr.eq_8<|J @TK.isStr.eq_9<|J @isStr.eq_1<|J @isStr.eq_2<|J @VS.eq_1<|J @Nb.eq_1<|@TK.isSl.eq_1
def VC14:=J @TK.isSl.eq_2<|J @TK.isSl.eq_3<|J @TK.isSl.eq_4<|J @TK.isSl.eq_5<|J @TK.isSl.eq_6<|J @TK.isSl.eq_7<|J @TK.isSl.eq_8<|J @TK.isSl.eq_9<|J @zM.eq_1<|J @DE.eq_1<|J @DE.eq_2<|J @GY.eq_1<|J @GY.eq_2<|J @U7.eq_1<|J @U7.eq_2<|J @U7.eq_3<|J @Jo.eq_1<|J @Jo.eq_2<|J @Jo.eq_3<|J @uO.eq_1<|J @uO.eq_2<|J @Jp.eq_1<|J @Jp.eq_2<|J @Jp.eq_3<|J @U8.eq_1<|J @xS.eq_1<|J @xS.eq_2<|J @jU.eq_1<|J @Qu.eq_1<|@Qu.eq_2
def VC15:=J @Qu.eq_3<|J @Qu.eq_4<|J @Qu.eq_5<|J @Qu.eq_6<|J @Qu.eq_7<|J @Qu.eq_8<|J @Qu.eq_9<|J @Qsm.eq_1<|J @gW.eq_1<|J @gX.eq_1<|J @fK.eq_1<|J @fK.eq_2<|J @fK.eq_3<|J @RH.eq_1<|J @RI.eq_1<|J @V2.eq_1<|J @V2.eq_2<|J @fB.eq_1<|J @RJ.eq_1<|J @RJ.eq_2<|J @RJ.eq_3<|J @RL.eq_1<|J @RL.eq_2<|J @RL.eq_3<|J @RL.eq_4<|J @RL.eq_5<|J @RL.eq_6<|J @RL.eq_7<|J @RL.eq_8<|@RL.eq_9
def VC16:=J @Qzd.eq_1<|J @Xn.eq_1<|J @Xn.eq_2<|J @R8.eq_1<|J @R8.eq_2<|J @R8.eq_3<|J @R8.eq_4<|J @R8.eq_5<|J @R8.eq_6<|J @R8.eq_7<|J @R8.eq_8<|J @R8.eq_9<|J @Qrt.eq_1<|J @Uj.eq_1<|J @rgD.eq_1<|J @rgM.eq_1<|J @rgM.eq_2<|J @Ui.eq_1<|J @Ui.eq_2<|J @Ui.eq_3<|J @Ui.eq_4<|J @Ui.eq_5<|J @Ui.eq_6<|J @Ui.eq_7<|J @Ui.eq_8<|J @Ui.eq_9<|J @Qsh.eq_1<|J @xF.eq_1<|J @T5.eq_1<|@VJ.eq_1
def VC17:=J @jA.eq_1<|J @jA.eq_2<|J @RZ.eq_1<|J @Qsz.eq_1<|J @mcE.eq_1<|J @mcV.eq_1<|J @mcK.eq_1<|J @mcK.eq_2<|J @yR.eq_1<|J @aT.eq_1<|J @SY.eq_1<|J @SY.eq_2<|J @jP.eq_1<|J @La.eq_1<|J @jM.eq_1<|J @rvC.eq_1<|J @rvE.eq_1<|J @rvK.eq_1<|J @rvK.eq_2<|J @KZ.eq_1<|J @Sc.eq_1<|J @Sd.eq_1<|J @Sd.eq_2<|J @N3.eq_1<|J @N3.eq_2<|J @Ia.eq_1<|J @Ia.eq_2<|J @Ia.eq_3<|J @Ia.eq_4<|@Ia.eq_5
def VC18:=J @Ia.eq_6<|J @Ia.eq_7<|J @Ia.eq_8<|J @Ia.eq_9<|J @Ia.eq_10<|J @Ia.eq_11<|J @Ia.eq_12<|J @Ia.eq_13<|J @Ia.eq_14<|J @Ia.eq_15<|J @Ia.eq_16<|J @Ia.eq_17<|J @Ft.eq_1<|J @Ft.eq_2<|J @Ft.eq_3<|J @Ft.eq_4<|J @Ft.eq_5<|J @Ft.eq_6<|J @Ft.eq_7<|J @Ft.eq_8<|J @Ft.eq_9<|J @Ft.eq_10<|J @Ft.eq_11<|J @Ft.eq_12<|J @unS.eq_1<|J @QU.eq_1<|J @QU.eq_2<|J @QU.eq_4<|J @QU.eq_5<|@QU.eq_6
def VC19:=J @QU.eq_7<|J @QU.eq_8<|J @QU.eq_9<|J @QU.eq_10<|J @QU.eq_11<|J @Qst.eq_1<|J @KX.eq_1<|J @Lo.eq_1<|J @Lo.eq_2<|J @Lo.eq_3<|J @Lo.eq_4<|J @Lo.eq_5<|J @Lo.eq_6<|J @Lo.eq_7<|J @Lo.eq_8<|J @Lo.eq_9<|J @Lo.eq_10<|J @Lo.eq_11<|J @Lo.eq_12<|J @Zl.eq_1<|J @Zl.eq_2<|J @Zl.eq_3<|J @Zl.eq_4<|J @Zl.eq_5<|J @Zl.eq_6<|J @tE.eq_1<|J @tE.eq_2<|J @tE.eq_3<|J @Ya.eq_1<|@Ya.eq_2
def VC20:=J @Tm.eq_1<|J @Tm.eq_2<|J @Tm.eq_3<|J @Tm.eq_4<|J @Tm.eq_5<|J @Tm.eq_6<|J @Tm.eq_7<|J @Tm.eq_8<|J @Tm.eq_9<|J @zI.eq_1<|J @DC.eq_1<|J @DC.eq_2<|J @JA.eq_1<|J @JA.eq_2<|J @Qrk.eq_1<|J @yH.eq_1<|J @Qno.eq_1<|J @RE.eq_1<|J @RE.eq_2<|J @RD.eq_1<|J @RD.eq_2<|J @RD.eq_3<|J @RD.eq_4<|J @RD.eq_5<|J @RD.eq_6<|J @RD.eq_7<|J @RD.eq_8<|J @HC.eq_1<|J @HC.eq_2<|@HC.eq_3
def VC21:=J @HC.eq_4<|J @HC.eq_5<|J @HC.eq_6<|J @HC.eq_7<|J @HC.eq_8<|J @HC.eq_9<|J @HC.eq_10<|J @HC.eq_11<|J @HC.eq_12<|J @HC.eq_13<|J @RC.eq_1<|J @RC.eq_2<|J @RC.eq_3<|J @O0.eq_1<|J @O0.eq_2<|J @hnm.eq_1<|J @hnm.eq_2<|J @Qz3.eq_1<|J @Qz3.eq_2<|J @N9.eq_1<|J @N9.eq_2<|J @N9.eq_3<|J @step.eq_1<|J @step.eq_2<|J @step.eq_3<|J @step.eq_4<|J @step.eq_5<|J @step.eq_6<|J @step.eq_7<|@step.eq_8
def VC22:=J @step.eq_9<|J @step.eq_10<|J @step.eq_11<|J @step.eq_12<|J @step.eq_13<|J @step.eq_14<|J @step.eq_15<|J @step.eq_16<|J @step.eq_17<|J @step.eq_18<|J @step.eq_19<|J @step.eq_20<|J @step.eq_21<|J @step.eq_22<|J @step.eq_23<|J @step.eq_24<|J @step.eq_25<|J @step.eq_26<|J @step.eq_27<|J @step.eq_28<|J @step.eq_29<|J @W5.eq_2<|J @Au.eq_1<|J @Au.eq_2<|J @Au.eq_3<|J @Au.eq_4<|J @Au.eq_5<|J @Au.eq_6<|J @Au.eq_7<|@Au.eq_8
def VC23:=J @JW.eq_1<|J @Hm.eq_1<|J @Hm.eq_2<|J @Bo.ok_nr<|J @WP.eq_1<|J @WP.eq_2<|J @Ga.eq_1<|J @Ga.eq_2<|J @DH.eq_1<|J @Ea.eq_1<|J @Ea.eq_2<|J @Jr.eq_1<|J @MX.eq_1<|J @XK.eq_1<|J @XK.eq_2<|J @xI.eq_1<|J @xI.eq_2<|J @KV.eq_1<|J @KV.eq_2<|J @Ll.eq_1<|J @Ll.eq_2<|J @Je.eq_1<|J @Je.eq_2<|J @J5.eq_1<|J @J5.eq_2<|J @Gs.eq_1<|J @Gs.eq_2<|J @Ih.eq_1<|J @Ih.eq_2<|@Ih.eq_3
def VC24:=J @Ih.eq_4<|J @Ih.eq_5<|J @Ih.eq_6<|J @DK.eq_1<|J @DK.eq_2<|J @DK.eq_3<|J @ins.eq_1<|J @SC.eq_1<|J @SC.eq_2<|J @Ha.eq_1<|J @Ha.eq_2<|J @EN.eq_1<|J @EN.eq_2<|J @ED.eq_1<|J @Ir.eq_1<|J @Ir.eq_2<|J @Bo.touch.eq_1<|J @NL.eq_1<|J @Nc.eq_1<|J @MW.eq_1<|J @XJ.eq_1<|J @XJ.eq_2<|J @xH.eq_1<|J @xH.eq_2<|J @VC.eq_1<|J @VC.eq_2<|J @Nk.eq_1<|J @Nk.eq_2<|J @Nk.eq_3<|@IT.eq_1
def VC25:=J @IT.eq_2<|J @mD.eq_1<|J @mD.eq_2<|J @mD.eq_3<|J @Gx.eq_1<|J @Gx.eq_2<|J @Ci.eq_1<|J @Ci.eq_2<|J @CH.eq_1<|J @CH.eq_2<|J @BB.eq_1<|J @BB.eq_2<|J @Av.good.eq_1<|J @pm.eq_1<|J @pm.eq_2<|J @iQ.eq_1<|J @FK.eq_1<|J @FK.eq_2<|J @GS.eq_1<|J @GS.eq_2<|J @mt.eq_1<|J @mt.eq_2<|J @mt.eq_3<|J @mt.eq_4<|J @mt.eq_5<|J @mt.eq_6<|J @mt.eq_7<|J @mt.eq_8<|J @mt.eq_9<|@mt.eq_10
def VC26:=J @mt.eq_11<|J @mt.eq_13<|J @mt.eq_14<|J @DI.eq_1<|J @DI.eq_2<|J @DI.eq_3<|J @DI.eq_4<|J @GA.eq_1<|J @GA.eq_2<|J @GA.eq_3<|J @GA.eq_4<|J @EK.eq_1<|J @EK.eq_3<|J @EK.eq_4<|J @EK.eq_5<|J @EK.eq_6<|J @EK.eq_7<|J @EK.eq_8<|J @EK.eq_9<|J @EK.eq_10<|J @EK.eq_11<|J @EK.eq_12<|J @EK.eq_13<|J @EK.eq_14<|J @K1.eq_1<|J @K1.eq_2<|J @Tu.eq_1<|J @Tu.eq_2<|J @Eu.eq_1<|@Eu.eq_2
def VC27:=J @Qb.eq_1<|J @Qb.eq_2<|J @GU.eq_1<|J @GU.eq_2<|J @V9.eq_1<|J @V9.eq_2<|J @OF.eq_1<|J @OF.eq_2<|J @EU.eq_1<|J @EU.eq_2<|J @EU.eq_3<|J @Ms.eq_1<|J @Ms.eq_2<|J @Ms.eq_3<|J @Mr.eq_1<|J @Mr.eq_2<|J @Mr.eq_3<|J @HF.eq_1<|J @HF.eq_2<|J @Sm.eq_1<|J @He.eq_1<|J @He.eq_2<|J @He.eq_3<|J @He.eq_4<|J @He.eq_5<|J @He.eq_6<|J @He.eq_7<|J @KN.eq_1<|J @KN.eq_2<|@AV.fzA.eq_1
def VC28:=J @AV.fzA.eq_2<|J @AV.fzA.eq_3<|J @AV.fzA.eq_4<|J @AV.fzA.eq_5<|J @AV.fzA.eq_6<|J @AV.fzA.eq_7<|J @AV.fzA.eq_8<|J @AV.fzA.eq_9<|J @AV.fzA.eq_10<|J @AV.fzA.eq_11<|J @AV.fzA.eq_12<|J @DF.eq_1<|J @DF.eq_2<|J @DG.eq_1<|J @DG.eq_2<|J @Ac.fzA.eq_1<|J @Ac.fzA.eq_2<|J @Ac.fzA.eq_3<|J @Ac.fzA.eq_4<|J @Ac.fzA.eq_5<|J @Ac.fzA.eq_6<|J @Ac.fzA.eq_7<|J @HI.eq_1<|J @HI.eq_2<|J @HG.eq_1<|J @HG.eq_2<|J @Sq.eq_1<|J @Mq.eq_1<|J @Mq.eq_2<|@Mq.eq_3
def VC29:=J @Da.eq_1<|J @Da.eq_2<|J @Da.eq_3<|J @Da.eq_4<|J @Da.eq_5<|J @Da.eq_6<|J @Da.eq_7<|J @Da.eq_8<|J @Da.eq_9<|J @KK.fit.eq_1<|J @KK.fit.eq_2<|J @KK.fit.eq_3<|J @Bx.eq_1<|J @Bx.eq_2<|J @AV.bel.eq_1<|J @AV.bel.eq_2<|J @AV.bel.eq_3<|J @AV.bel.eq_4<|J @AV.bel.eq_5<|J @AV.bel.eq_6<|J @AV.bel.eq_7<|J @AV.bel.eq_8<|J @AV.bel.eq_9<|J @AV.bel.eq_10<|J @AV.bel.eq_11<|J @AV.bel.eq_12<|J @AE.eq_1<|J @AE.eq_2<|J @AV.nms.eq_1<|@AV.nms.eq_2
def VC30:=J @AV.nms.eq_3<|J @AV.nms.eq_4<|J @AV.nms.eq_5<|J @AV.nms.eq_6<|J @AV.nms.eq_7<|J @AV.nms.eq_8<|J @AV.nms.eq_9<|J @AV.nms.eq_10<|J @AV.nms.eq_11<|J @AV.nms.eq_12<|J @AB.eq_1<|J @AB.eq_2<|J @B9.eq_1<|J @B9.eq_2<|J @Ac.nms.eq_1<|J @Ac.nms.eq_2<|J @Ac.nms.eq_3<|J @Ac.nms.eq_4<|J @Ac.nms.eq_5<|J @Ac.nms.eq_6<|J @Ac.nms.eq_7<|J @AV.ren.eq_1<|J @AV.ren.eq_2<|J @AV.ren.eq_3<|J @AV.ren.eq_4<|J @AV.ren.eq_5<|J @AV.ren.eq_6<|J @AV.ren.eq_7<|J @AV.ren.eq_8<|@AV.ren.eq_9
def VC31:=J @AV.ren.eq_10<|J @AV.ren.eq_11<|J @AV.ren.eq_12<|J @AJ.eq_1<|J @AJ.eq_2<|J @Ac.ren.eq_1<|J @Ac.ren.eq_2<|J @Ac.ren.eq_3<|J @Ac.ren.eq_4<|J @Ac.ren.eq_5<|J @Ac.ren.eq_6<|J @Ac.ren.eq_7<|J @Ar.eq_1<|J @Ar.eq_2<|J @PW.eq_1<|J @PW.eq_2<|J @WN.eq_1<|J @WI.eq_1<|J @nH.eq_1<|J @nH.eq_2<|J @iM.eq_1<|J @iM.eq_2<|J @iM.eq_3<|J @Jc.eq_1<|J @kp.eq_1<|J @kp.eq_2<|J @Er.eq_1<|J @Er.eq_2<|J @Bb.eq_1<|@Bb.eq_2
def VC32:=J @Bb.eq_3<|J @Bb.eq_4<|J @Bb.eq_5<|J @Bb.eq_6<|J @Bb.eq_7<|J @Bb.eq_8<|J @Bb.eq_9<|J @Bb.eq_10<|J @Bb.eq_11<|J @Bb.eq_12<|J @Bb.eq_13<|J @Bb.eq_14<|J @L7.eq_1<|J @IP.eq_1<|J @IP.eq_2<|J @Kh.eq_1<|J @Kh.eq_2<|J @Dh.eq_1<|J @entry.eq_1<|J @entry.eq_2<|J @XN.eq_1<|J @XN.eq_2<|J @HJ.eq_1<|J @Ck.eq_1<|J @Ck.eq_2<|J @Ck.eq_3<|J @Ck.eq_4<|J @Ck.eq_5<|J @Ck.eq_6<|@Ck.eq_7
def VC33:=J @IQ.eq_1<|J @IQ.eq_2<|J @IQ.eq_3<|J @klE.eq_1<|J @klE.eq_2<|J @Jg.eq_1<|J @Jg.eq_2<|J @exE.eq_1<|J @exE.eq_2<|J @exE.eq_3<|J @Jf.eq_1<|J @Jf.eq_2<|J @Rs.eq_1<|J @Rs.eq_2<|J @Rs.eq_3<|J @Yx.eq_1<|J @Yx.eq_2<|J @X5.eq_1<|J @X5.eq_2<|J @Jk.eq_1<|J @Jk.eq_2<|J @Jk.eq_3<|J @bC.eq_1<|J @ML.eq_1<|J @ML.eq_2<|J @Uf.eq_1<|J @Pg.eq_1<|J @Pg.eq_2<|J @Pg.eq_3<|@K4.eq_1
def VC34:=J @wI.eq_1<|J @wI.eq_2<|J @wH.eq_1<|J @sg.eq_1<|J @AZ.eq_1<|J @AZ.eq_2<|J @Qv.eq_1<|J @Qv.eq_2<|J @Dt.eq_1<|J @Dt.eq_2<|J @Dt.eq_3<|J @D7.eq_1<|J @D7.eq_2<|J @D7.eq_3<|J @BL.eq_1<|J @BL.eq_2<|J @BL.eq_3<|J @Qp.eq_1<|J @Qp.eq_2<|J @Qp.eq_3<|J @Qp.eq_4<|J @Qp.eq_5<|J @Qp.eq_6<|J @Qp.eq_7<|J @Qp.eq_8<|J @Qo.eq_1<|J @Qo.eq_2<|J @Qo.eq_3<|J @Qo.eq_4<|@Qo.eq_5
def VC35:=J @Qo.eq_6<|J @Qo.eq_7<|J @Qo.eq_8<|J @nC.eq_1<|J @nC.eq_2<|J @Ew.eq_1<|J @Ew.eq_2<|J @Ew.eq_3<|J @Ew.eq_4<|J @Ew.eq_5<|J @Ew.eq_6<|J @Ew.eq_7<|J @Ew.eq_8<|J @Ew.eq_9<|J @Ew.eq_10<|J @Ew.eq_11<|J @Ew.eq_12<|J @Sr.eq_1<|J @Sr.eq_2<|J @aZ.eq_1<|J @aZ.eq_2<|J @Gu.eq_1<|J @Gu.eq_2<|J @Gu.eq_3<|J @Gu.eq_4<|J @Gu.eq_5<|J @Gu.eq_6<|J @Gu.eq_7<|J @Gu.eq_8<|@Gu.eq_9
def VC36:=J @Gu.eq_10<|J @Gu.eq_11<|J @Gu.eq_12<|J @Gu.eq_13<|J @Gu.eq_14<|J @Gu.eq_15<|J @Gu.eq_16<|J @Gu.eq_17<|J @pkC.eq_1<|J @pkC.eq_2<|J @TN.eq_1<|J @TN.eq_2<|J @TN.eq_3<|J @TN.eq_4<|J @TN.eq_5<|J @TN.eq_6<|J @TN.eq_7<|J @TN.eq_8<|J @JE.eq_1<|J @JE.eq_2<|J @JE.eq_3<|J @JE.eq_4<|J @JE.eq_5<|J @JE.eq_6<|J @JE.eq_7<|J @JE.eq_8<|J @JE.eq_9<|J @JE.eq_10<|J @JE.eq_11<|@JE.eq_12
def VC37:=J @fA.eq_1<|J @fA.eq_2<|J @fA.eq_3<|J @KO.eq_1<|J @KO.eq_2<|J @EB.eq_1<|J @EB.eq_2<|J @Sl.eq_1<|J @Sl.eq_2<|J @Zd.eq_1<|J @Zd.eq_2<|J @Dj.eq_1<|J @ER.eq_1<|J @ER.eq_2<|J @ER.eq_3<|J @ER.eq_4<|J @ER.eq_5<|J @ER.eq_6<|J @ER.eq_7<|J @ER.eq_8<|J @ER.eq_9<|J @ER.eq_10<|J @ER.eq_11<|J @ER.eq_12<|J @M7.eq_1<|J @BW.eq_1<|J @Al.eq_1<|J @Ii.eq_1<|J @Sa.eq_1<|@Sa.eq_2
def VC38:=J @Eh.eq_1<|J @Eh.eq_2<|J @HO.eq_1<|J @HO.eq_2<|J @MJ.eq_1<|J @MJ.eq_2<|J @bB.eq_1<|J @MI.eq_1<|J @MI.eq_2<|J @HN.eq_1<|J @N7.eq_1<|J @N7.eq_2<|J @N7.eq_3<|J @F3.eq_1<|J @F3.eq_2<|J @F3.eq_3<|J @CO.eq_1<|J @CO.eq_2<|J @BU.eq_1<|J @BU.eq_2<|J @Ik.eq_1<|J @eA.eq_1<|J @eA.eq_2<|J @WQ.eq_1<|J @WQ.eq_2<|J @VA.eq_1<|J @VA.eq_2<|J @Qt.eq_1<|J @Qt.eq_2<|@iD.eq_1
def VC39:=J @nB.eq_1<|J @nB.eq_2<|J @IV.eq_1<|J @IV.eq_2<|J @Sk.eq_1<|J @Sk.eq_2<|J @Sk.eq_3<|J @K8.eq_1<|J @K8.eq_2<|J @OB.eq_1<|J @OB.eq_2<|J @OB.eq_3<|J @OB.eq_4<|J @MK.eq_1<|J @MK.eq_2<|J @KU.eq_1<|J @ZN.eq_1<|J @ZN.eq_2<|J @ZN.eq_3<|J @Ko.eq_1<|J @Ko.eq_2<|J @R2.eq_1<|J @ZF.eq_1<|J @ZF.eq_2<|J @R1.eq_1<|J @R1.eq_2<|J @R1.eq_3<|J @bk.eq_1<|J @bk.eq_2<|@bk.eq_3
def VC40:=J @bk.eq_4<|J @bk.eq_5<|J @bk.eq_6<|J @bk.eq_7<|J @bk.eq_8<|J @bk.eq_9<|J @bk.eq_10<|J @bk.eq_11<|J @bk.eq_12<|J @bk.eq_13<|J @Yn.eq_1<|J @EX.eq_1<|J @Ej.eq_1<|J @Ej.eq_2<|J @Ej.eq_3<|J @Ej.eq_4<|J @Ej.eq_5<|J @Ej.eq_6<|J @Ej.eq_7<|J @Ej.eq_8<|J @Ej.eq_9<|J @Ej.eq_10<|J @Ej.eq_11<|J @Ej.eq_12<|J @Hv.eq_1<|J @Hv.eq_2<|J @Hv.eq_3<|J @Ct.eq_1<|J @Ct.eq_2<|@Ww.eq_1
def VC41:=J @Ww.eq_2<|J @BC.eq_1<|J @Xv<|J @Xw<|J @Xx<|J @Xy<|J @RV<|J @RW<|J @RX<|J @RY<|J @Qabq<|J @O5<|J @RU<|J @X1<|J @X0<|J @Xz<|J @gZ<|J @iX<|J @Yg<|J @iY<|J @iW<|J @iS<|J @Ye<|J @iV<|J @iR<|J @iU<|J @iT<|J @xD<|J @xE<|@Y1
def VC42:=J @Pm<|J @Y3<|J @Ur<|J @jN<|J @Uu<|J @Qs8<|J @Y0<|J @U1<|J @Qyd<|J @Ut<|J @Y4<|J @Qaa9<|J @Qyi<|J @Qaa8<|J @Qvy<|J @Qv2<|J @Qvr<|J @Uw<|J @Pn<|J @Qwt<|J @Qabt<|J @Yz<|J @Uz<|J @Uy<|J @Y2<|J @Uv<|J @Qyj<|J @Qmy<|J @Ux<|@Qs9
end Go.Ae
