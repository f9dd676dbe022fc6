/- Lemmas. Conditions: none. -/
import Derived.Test.YtogafbdeamcpnaaGreatDoorP04
set_option linter.all false
set_option maxHeartbeats 8000000
set_option maxRecDepth 100000
namespace Go.Ae
def X9(ks:List KK)(ds:List D):KT.fit ⟨true,ks⟩ (.agg ds)=B2 ks ds:=rfl
def XA(ks:List KK)(k:IntKind)(n:Int):KT.fit ⟨false,ks⟩ (.int k n)=B2 ks [.int k n]:=rfl
def XB(ks:List KK)(s:ByteArray):KT.fit ⟨false,ks⟩ (.str s)=B2 ks [.str s]:=rfl
def XC(ks:List KK)(s:Bool):KT.fit ⟨false,ks⟩ (.bool s)=B2 ks [.bool s]:=rfl
def Sb:Di []= .tup []:=rfl
def Sc(x y:AV):Di [x,y]= .tup [x,y]:=rfl
def Sd(x y z:AV):Di [x,y,z]= .tup [x,y,z]:=rfl
def Se(x y z w:AV):Di [x,y,z,w]= .tup [x,y,z,w]:=rfl
def Qabq(t:Option Nat)(z:Bool)(s:Ai)(Kdo Kskip:Ai->Prop)(b:Bool):WO t z s Kdo Kskip (.im (.bool b))=if b=z then Kdo (s.put t (.im (.bool z))) else Kskip (s.put t (.im (.bool (!z)))):=by
 cases b<;>cases z<;>simp[WO]
def O9(A B:Cq->Ai->Prop)(Q:Cq)(s:Ai)(b:Bool):uU A B Q s (.im (.bool b))=if b=true then A Q s else B Q s:=by
 cases b<;>simp[uU]
def Sa(c:Bool)(K:Ah)(a b:AV):M9 c K a b=if c=true then K a {} else K b {}:=by
 cases c<;>simp[M9]
def XG(m:Nat)(x:AV)(r:List (Nat×AV))(n:Nat):AF ((m,x)::r) n=if m=n then x else AF r n:=by
 by_cases h:m=n
 .subst h;simp[AF]
 .have:(m==n)=false:=by simpa using h
  simp[AF,this,h]
def XE(m:Nat)(x:Au)(r:Av)(n:Nat):hget ((m,x)::r) n=if m=n then some x else hget r n:=by
 by_cases h:m=n
 .subst h;simp[hget]
 .have:(m==n)=false:=by simpa using h
  simp[hget,this,h]
def XD(m:Nat)(x:Au)(r:Av)(ks:List Nat):Bh ((m,x)::r) ks=if ks.contains m=true then Bh r ks else (m,x)::Bh r ks:=by
 cases h:ks.contains m<;>simp only[Bh,h]<;>simp
def iB(cl:List (List Nat))(j:Nat)(use touch z:List Nat)(f:Fp):mY cl j use touch z f=if (J7 (use++touch) f.touch && (J7 touch f.use && G3 f.nx f.cnt z))=true then true else E6 cl f.i j:=by
 unfold mY;cases (J7 (use++touch) f.touch && (J7 touch f.use && G3 f.nx f.cnt z))<;>rfl
def jF(k:IntKind)(n:Int):FK (.int k n)=0:=rfl
def Yz(b:Bool):FK (.bool b)=0:=rfl
def jG(s:ByteArray):FK (.string s)=0:=rfl
def jE(cs:Array Value):FK (.agg cs)=0:=rfl
def jA(k:IntKind)(n:Int):QT (.int k n)=false:=rfl
def Yx(b:Bool):QT (.bool b)=false:=rfl
def jD(s:ByteArray):QT (.string s)=false:=rfl
def iZ(cs:Array Value):QT (.agg cs)=false:=rfl
def jC(a:Option Addr):QT (.pointer a)=false:=rfl
def jB(a:Option Nat):QT (.map a)=false:=rfl
def xK:QT .nilFunc=false:=rfl
def xL:QT .nilIface=false:=rfl
section
variable (P:Program)(V:Db)(tm:List (Nat×AV))(h:Nat->Option Au)(nx:Nat)(ty:TypeId)(K:Ah)
def YN(x:Operand):DZ P V tm h nx ty K (.move x)=step P V true tm h nx ty K (.move x):=rfl
def Pw(x:Operand):DZ P V tm h nx ty K (.assign x)=step P V true tm h nx ty K (.assign x):=rfl
def YP(c:Operand)(a:Operand)(b:Operand):DZ P V tm h nx ty K (.pick c a b)=step P V true tm h nx ty K (.pick c a b):=rfl
def U9(t:TypeId):DZ P V tm h nx ty K (.alloc t)=step P V true tm h nx ty K (.alloc t):=rfl
def jT(t:TypeId)(x:Operand):DZ P V tm h nx ty K (.box t x)=step P V true tm h nx ty K (.box t x):=rfl
def UB(t:TypeId)(ps:Array (Nat×Operand)):DZ P V tm h nx ty K (.build t ps)=step P V true tm h nx ty K (.build t ps):=rfl
def Qs8(t:TypeId)(n:Nat)(ps:Array (Nat×Operand)):DZ P V tm h nx ty K (.buildSlice t n ps)=step P V true tm h nx ty K (.buildSlice t n ps):=rfl
def YM(t:TypeId)(x:Operand):DZ P V tm h nx ty K (.load t x)=step P V true tm h nx ty K (.load t x):=rfl
def UH(t:TypeId)(x:Operand)(v:Operand):DZ P V tm h nx ty K (.store t x v)=step P V true tm h nx ty K (.store t x v):=rfl
def Qyd(x:Operand):DZ P V tm h nx ty K (.nilCheck x)=step P V true tm h nx ty K (.nilCheck x):=rfl
def UA(op:BinOp)(t:TypeId)(x:Operand)(y:Operand)(u:TypeId):DZ P V tm h nx ty K (.binOp op t x y u)=step P V true tm h nx ty K (.binOp op t x y u):=rfl
def YQ(op:UnOp)(t:TypeId)(x:Operand):DZ P V tm h nx ty K (.unOp op t x)=step P V true tm h nx ty K (.unOp op t x):=rfl
def Qaa9(s:TypeId)(t:TypeId)(x:Operand):DZ P V tm h nx ty K (.convert s t x)=step P V true tm h nx ty K (.convert s t x):=rfl
def Qyi(f:Fn)(a:Array Operand)(c:Array Operand):DZ P V tm h nx ty K (.makeFunc f a c)=step P V true tm h nx ty K (.makeFunc f a c):=rfl
def Qaa8(t:TypeId)(r:Option Operand):DZ P V tm h nx ty K (.makeMap t r)=step P V true tm h nx ty K (.makeMap t r):=rfl
def Qvy(t:TypeId)(l:Operand)(c:Operand):DZ P V tm h nx ty K (.makeSlice t l c)=step P V true tm h nx ty K (.makeSlice t l c):=rfl
def Qv2(t:TypeId)(x:Operand)(f:Nat):DZ P V tm h nx ty K (.fieldAddr t x f)=step P V true tm h nx ty K (.fieldAddr t x f):=rfl
def Qvr(t:TypeId)(x:Operand)(i:Operand):DZ P V tm h nx ty K (.indexAddr t x i)=step P V true tm h nx ty K (.indexAddr t x i):=rfl
def UD(t:TypeId)(x:Operand)(i:Operand):DZ P V tm h nx ty K (.index t x i)=step P V true tm h nx ty K (.index t x i):=rfl
def Px(t:TypeId)(m:Operand)(k:Operand)(ok:Bool):DZ P V tm h nx ty K (.lookup t m k ok)=step P V true tm h nx ty K (.lookup t m k ok):=rfl
def Qwt(t:TypeId)(m:Operand)(k:Operand)(v:Operand):DZ P V tm h nx ty K (.mapUpdate t m k v)=step P V true tm h nx ty K (.mapUpdate t m k v):=rfl
def Qabt(x:Operand)(i:Nat):DZ P V tm h nx ty K (.extract x i)=step P V true tm h nx ty K (.extract x i):=rfl
def YL(c:Call):DZ P V tm h nx ty K (.call c)=step P V true tm h nx ty K (.call c):=rfl
def UG(t:TypeId)(x:Operand)(lo:Option Operand)(z:Option Operand)(G:Option Operand):DZ P V tm h nx ty K (.slice t x lo z G)=step P V true tm h nx ty K (.slice t x lo z G):=rfl
def UF(t:TypeId)(x:Operand):DZ P V tm h nx ty K (.range t x)=step P V true tm h nx ty K (.range t x):=rfl
def YO(x:Operand)(b:Bool):DZ P V tm h nx ty K (.next x b)=step P V true tm h nx ty K (.next x b):=rfl
def UC(x:Operand):DZ P V tm h nx ty K (.entry x)=step P V true tm h nx ty K (.entry x):=rfl
def Qyj(t:TypeId)(x:Operand):DZ P V tm h nx ty K (.makeChan t x)=step P V true tm h nx ty K (.makeChan t x):=rfl
def Qmy(t:TypeId)(x:Operand):DZ P V tm h nx ty K (.makeInterface t x)=step P V true tm h nx ty K (.makeInterface t x):=rfl
def UE(x:Operand):DZ P V tm h nx ty K (.panic x)=step P V true tm h nx ty K (.panic x):=rfl
def Qs9(x:Operand)(t:TypeId)(u:TypeId)(ok:Bool):DZ P V tm h nx ty K (.typeAssert x t u ok)=step P V true tm h nx ty K (.typeAssert x t u ok):=rfl
end
def J{a b:Prop}(x:a)(y:b):a/\b:=⟨x,y⟩
def VC0:=J @AF.eq_1<|J @hget.eq_1<|J @Bh.eq_1<|J @Ai.put.eq_1<|J @Ai.put.eq_2<|J @Ai.app_nr<|J @kD.eq_1<|J @kD.eq_2<|J @kD.eq_3<|J @kD.eq_4<|J @kD.eq_5<|J @kD.eq_6<|J @kD.eq_7<|J @kD.eq_8<|J @kD.eq_9<|J @Az.eq_1<|J @Az.eq_2<|J @Az.eq_3<|J @Az.eq_4<|J @D.cells.eq_1<|J @D.cells.eq_2<|J @D.cells.eq_3<|J @D.cells.eq_4<|J @D.cells.eq_5<|J @D.cells.eq_6<|J @D.cells.eq_7<|J @D.cells.eq_8<|J @D.cells.eq_9<|J @D.cells.eq_10<|@D.cells.eq_11
def VC1:=J @D.cells.eq_12<|J @D.cells.eq_13<|J @D.cells.eq_14<|J @D.cells.eq_15<|J @D.cells.eq_16<|J @D.cells.eq_17<|J @AV.cells.eq_1<|J @AV.cells.eq_2<|J @AV.cells.eq_3<|J @AV.cells.eq_4<|J @AV.cells.eq_5<|J @AV.cells.eq_6<|J @AV.cells.eq_7<|J @AV.cells.eq_8<|J @AV.cells.eq_9<|J @AV.cells.eq_10<|J @AV.cells.eq_11<|J @AV.cells.eq_12<|J @D.one.eq_1<|J @D.one.eq_2<|J @D.one.eq_3<|J @D.one.eq_4<|J @D.one.eq_5<|J @D.one.eq_6<|J @D.one.eq_7<|J @D.one.eq_8<|J @D.one.eq_9<|J @D.one.eq_10<|J @D.one.eq_11<|@D.one.eq_12
def VC2:=J @D.one.eq_13<|J @D.one.eq_14<|J @D.one.eq_15<|J @D.one.eq_16<|J @D.one.eq_17<|J @AV.one.eq_1<|J @AV.one.eq_2<|J @AV.one.eq_3<|J @AV.one.eq_4<|J @AV.one.eq_5<|J @AV.one.eq_6<|J @AV.one.eq_7<|J @AV.one.eq_8<|J @AV.one.eq_9<|J @AV.one.eq_10<|J @AV.one.eq_11<|J @AV.one.eq_12<|J @Ra.eq_1<|J @Ra.eq_2<|J @AV.asD.eq_1<|J @AV.asD.eq_2<|J @AV.asD.eq_3<|J @AV.asD.eq_4<|J @AV.asD.eq_5<|J @AV.asD.eq_6<|J @AV.asD.eq_7<|J @AV.asD.eq_8<|J @AV.asD.eq_9<|J @AV.asD.eq_10<|@AV.asD.eq_11
def VC3:=J @AV.asD.eq_12<|J @Oc.eq_1<|J @Oc.eq_2<|J @Oc.eq_3<|J @DO.eq_1<|J @DO.eq_2<|J @Ys.eq_1<|J @Ys.eq_2<|J @hdV.eq_1<|J @hdV.eq_2<|J @iO.eq_1<|J @iO.eq_2<|J @iV.eq_1<|J @bE.eq_1<|J @BY.eq_1<|J @D.beq.eq_1<|J @D.beq.eq_2<|J @D.beq.eq_3<|J @D.beq.eq_4<|J @D.beql.eq_1<|J @D.beql.eq_2<|J @lk.eq_1<|J @lk.eq_2<|J @G7.eq_1<|J @G7.eq_2<|J @IR.eq_1<|J @IR.eq_2<|J @fG.eq_1<|J @vB.eq_1<|@Jb.eq_1
def VC4:=J @Jb.eq_2<|J @Ja.eq_1<|J @Ja.eq_2<|J @Xd.eq_1<|J @Xd.eq_2<|J @Xd.eq_3<|J @Xd.eq_4<|J @Yj.eq_1<|J @Yj.eq_2<|J @Qxz.eq_1<|J @Qyo.eq_1<|J @UJ.eq_1<|J @Jq.eq_1<|J @Jq.eq_2<|J @sK.eq_1<|J @sK.eq_2<|J @Qri.eq_1<|J @Ru.eq_1<|J @Ru.eq_2<|J @K5.eq_1<|J @K5.eq_2<|J @K5.eq_3<|J @XM.eq_1<|J @XM.eq_2<|J @faK.eq_1<|J @yV.eq_1<|J @wY.eq_1<|J @Me.eq_1<|J @Me.eq_2<|@Yd.eq_1
def VC5:=J @Yd.eq_2<|J @Md.eq_1<|J @Md.eq_2<|J @Bg.eq_1<|J @Bg.eq_2<|J @wQ.eq_1<|J @wQ.eq_2<|J @Qjp.eq_1<|J @SU.eq_1<|J @kCh.eq_1<|J @ixK.eq_1<|J @ixK.eq_2<|J @Qxc.eq_1<|J @GL.eq_1<|J @GL.eq_2<|J @GL.eq_3<|J @GL.eq_4<|J @GL.eq_5<|J @GL.eq_6<|J @GL.eq_7<|J @GL.eq_8<|J @GL.eq_9<|J @GL.eq_10<|J @GL.eq_11<|J @GL.eq_12<|J @GL.eq_13<|J @GL.eq_14<|J @GL.eq_15<|J @GL.eq_16<|@GL.eq_17
def VC6:=J @IE.eq_1<|J @IE.eq_2<|J @IE.eq_3<|J @IE.eq_4<|J @IE.eq_5<|J @IE.eq_6<|J @IE.eq_7<|J @IE.eq_8<|J @IE.eq_9<|J @IE.eq_10<|J @IE.eq_11<|J @IE.eq_12<|J @IE.eq_13<|J @IE.eq_14<|J @aS.eq_1<|J @Sh.eq_1<|J @uR.eq_1<|J @uR.eq_2<|J @uR.eq_3<|J @uR.eq_4<|J @Wg.eq_1<|J @Wg.eq_2<|J @Wg.eq_3<|J @WZ.eq_1<|J @WZ.eq_2<|J @WZ.eq_3<|J @NG.eq_1<|J @NG.eq_2<|J @NG.eq_3<|@Ju.eq_1
def VC7:=J @Ju.eq_2<|J @Ng.eq_1<|J @Ng.eq_2<|J @uB.eq_1<|J @uB.eq_2<|J @tW.eq_1<|J @tW.eq_2<|J @ZK.eq_1<|J @ZK.eq_2<|J @ZK.eq_3<|J @fN.eq_1<|J @fN.eq_2<|J @fN.eq_3<|J @fN.eq_4<|J @Zg.eq_1<|J @Zg.eq_2<|J @ZR.eq_1<|J @ZR.eq_2<|J @HF.eq_1<|J @HF.eq_2<|J @HF.eq_3<|J @Jl.eq_1<|J @MA.eq_1<|J @NB.eq_1<|J @NB.eq_2<|J @R1.eq_1<|J @wH.eq_1<|J @wH.eq_2<|J @Qsy.eq_1<|@Ij.eq_1
def VC8:=J @Ij.eq_2<|J @Ca.eq_1<|J @Ca.eq_2<|J @IL.eq_1<|J @IL.eq_2<|J @L7.eq_1<|J @L7.eq_2<|J @bsE.eq_1<|J @bsK.eq_1<|J @yN.eq_1<|J @msE.eq_1<|J @msK.eq_1<|J @yW.eq_1<|J @ZN.eq_1<|J @ZN.eq_2<|J @DN.eq_1<|J @DN.eq_2<|J @Bq.eq_1<|J @B1.eq_1<|J @B1.eq_2<|J @Cd.okOne.eq_1<|J @Cd.okOne.eq_2<|J @Cd.okOne.eq_3<|J @N8.eq_1<|J @N8.eq_2<|J @N8.eq_3<|J @mX.eq_1<|J @mX.eq_2<|J @mX.eq_3<|@mW.eq_1
def VC9:=J @mW.eq_2<|J @mW.eq_3<|J @II.eq_1<|J @II.eq_2<|J @Rw.eq_1<|J @Rw.eq_2<|J @apE.eq_1<|J @apK.eq_1<|J @Qsl.eq_1<|J @FJ.eq_1<|J @Qxr.eq_1<|J @Qxr.eq_2<|J @Mn.eq_1<|J @iR.eq_1<|J @iR.eq_2<|J @fM.eq_1<|J @fM.eq_2<|J @fM.eq_3<|J @Tg.eq_1<|J @uX.eq_1<|J @uX.eq_2<|J @uX.eq_3<|J @Fs.eq_1<|J @Fs.eq_2<|J @Fs.eq_3<|J @Fs.eq_4<|J @Fs.eq_5<|J @Fs.eq_6<|J @Fs.eq_7<|@Fs.eq_8
def VC10:=J @Fs.eq_9<|J @fS.eq_1<|J @Qy3.eq_1<|J @IY.eq_1<|J @Tn.eq_1<|J @fT.eq_1<|J @fT.eq_2<|J @fT.eq_3<|J @Yq.eq_1<|J @Yq.eq_2<|J @luE.eq_1<|J @luK.eq_1<|J @Qnn.eq_1<|J @Tz.eq_1<|J @Ty.eq_1<|J @Ty.eq_2<|J @KE.eq_1<|J @KE.eq_2<|J @KE.eq_3<|J @KE.eq_4<|J @KE.eq_5<|J @KE.eq_6<|J @KE.eq_7<|J @KE.eq_8<|J @KE.eq_9<|J @muF.eq_1<|J @T3.eq_1<|J @sB.eq_1<|J @sB.eq_2<|@RV.eq_1
def VC11:=J @X7.eq_1<|J @X7.eq_2<|J @RU.eq_1<|J @RU.eq_2<|J @RU.eq_3<|J @RU.eq_4<|J @RU.eq_5<|J @RU.eq_6<|J @RU.eq_7<|J @RU.eq_8<|J @RU.eq_9<|J @Qni.eq_1<|J @exA.eq_1<|J @exA.eq_2<|J @exD.eq_1<|J @exD.eq_2<|J @lD.eq_1<|J @lD.eq_2<|J @lE.eq_1<|J @lE.eq_2<|J @lE.eq_3<|J @lE.eq_4<|J @QD.eq_1<|J @QD.eq_2<|J @Q5.eq_1<|J @Q5.eq_2<|J @Qjk.eq_1<|J @Qg6.eq_1<|J @QT.eq_1<|@WQ.eq_1
def VC12:=J @WQ.eq_2<|J @WQ.eq_3<|J @WQ.eq_4<|J @zK.eq_1<|J @zK.eq_2<|J @zY.eq_1<|J @Qzp.eq_1<|J @Qsv.eq_1<|J @Vb.eq_1<|J @FK.eq_1<|J @FK.eq_2<|J @FK.eq_3<|J @FK.eq_4<|J @Ft.eq_1<|J @Ft.eq_2<|J @Ft.eq_3<|J @Ft.eq_4<|J @lX.eq_1<|J @lX.eq_2<|J @QH.eq_1<|J @QH.eq_2<|J @WA.eq_1<|J @WA.eq_2<|J @Vc.eq_1<|J @W9.eq_1<|J @W9.eq_2<|J @Nh.eq_1<|J @ZW.eq_1<|J @ZW.eq_2<|@ZW.eq_3
def VC13:=J @ZW.eq_4<|J @ZW.eq_5<|J @KV.eq_1<|J @tU.eq_1<|J @tU.eq_2<|J @H6.eq_1<|J @H6.eq_2<|J @Hp.eq_1<|J @L8.eq_1<|J @L8.eq_2<|J @RA.eq_1<|J @gV.eq_1<|J @gW.eq_1<|J @gX.eq_1<|J @IM.eq_1<|J @IM.eq_2<|J @TK.isStr.eq_1<|J @TK.isStr.eq_2<|J @TK.isStr.eq_3<|J @TK.isStr.eq_4<|J @TK.isStr.eq_5<|J @TK.isStr.eq_6<|J @TK.isStr.eq_7<|J @TK.isStr.eq_8<|J @TK.isStr.eq_9<|J @isStr.eq_1<|J @isStr.eq_2<|J @Wr.eq_1<|J @Ni.eq_1<|@TK.isSl.eq_1
def VC14:=J @TK.isSl.eq_2<|J @TK.isSl.eq_3<|J @TK.isSl.eq_4<|J @TK.isSl.eq_5<|J @TK.isSl.eq_6<|J @TK.isSl.eq_7<|J @TK.isSl.eq_8<|J @TK.isSl.eq_9<|J @zS.eq_1<|J @DC.eq_1<|J @DC.eq_2<|J @Hj.eq_1<|J @Hj.eq_2<|J @UL.eq_1<|J @UL.eq_2<|J @UL.eq_3<|J @Js.eq_1<|J @Js.eq_2<|J @Js.eq_3<|J @uS.eq_1<|J @uS.eq_2<|J @Jt.eq_1<|J @Jt.eq_2<|J @Jt.eq_3<|J @UM.eq_1<|J @xW.eq_1<|J @xW.eq_2<|J @jZ.eq_1<|J @Q3.eq_1<|@Q3.eq_2
def VC15:=J @Q3.eq_3<|J @Q3.eq_4<|J @Q3.eq_5<|J @Q3.eq_6<|J @Q3.eq_7<|J @Q3.eq_8<|J @Q3.eq_9<|J @Qsm.eq_1<|J @hC.eq_1<|J @hZ.eq_1<|J @fQ.eq_1<|J @fQ.eq_2<|J @fQ.eq_3<|J @RP.eq_1<|J @RQ.eq_1<|J @VJ.eq_1<|J @VJ.eq_2<|J @fI.eq_1<|J @RS.eq_1<|J @RS.eq_2<|J @RS.eq_3<|J @RT.eq_1<|J @RT.eq_2<|J @RT.eq_3<|J @RT.eq_4<|J @RT.eq_5<|J @RT.eq_6<|J @RT.eq_7<|J @RT.eq_8<|@RT.eq_9
def VC16:=J @Qzd.eq_1<|J @X1.eq_1<|J @X1.eq_2<|J @RE.eq_1<|J @RE.eq_2<|J @RE.eq_3<|J @RE.eq_4<|J @RE.eq_5<|J @RE.eq_6<|J @RE.eq_7<|J @RE.eq_8<|J @RE.eq_9<|J @Qrt.eq_1<|J @U1.eq_1<|J @rgD.eq_1<|J @rgM.eq_1<|J @rgM.eq_2<|J @Uz.eq_1<|J @Uz.eq_2<|J @Uz.eq_3<|J @Uz.eq_4<|J @Uz.eq_5<|J @Uz.eq_6<|J @Uz.eq_7<|J @Uz.eq_8<|J @Uz.eq_9<|J @Qsh.eq_1<|J @xM.eq_1<|J @TE.eq_1<|@Wd.eq_1
def VC17:=J @jI.eq_1<|J @jI.eq_2<|J @Sf.eq_1<|J @Qsz.eq_1<|J @mcE.eq_1<|J @mcV.eq_1<|J @mcK.eq_1<|J @mcK.eq_2<|J @yY.eq_1<|J @bB.eq_1<|J @Tj.eq_1<|J @Tj.eq_2<|J @jU.eq_1<|J @KX.eq_1<|J @jS.eq_1<|J @rvC.eq_1<|J @rvE.eq_1<|J @rvK.eq_1<|J @rvK.eq_2<|J @KW.eq_1<|J @Si.eq_1<|J @Sj.eq_1<|J @Sj.eq_2<|J @N9.eq_1<|J @N9.eq_2<|J @Io.eq_1<|J @Io.eq_2<|J @Io.eq_3<|J @Io.eq_4<|@Io.eq_5
def VC18:=J @Io.eq_6<|J @Io.eq_7<|J @Io.eq_8<|J @Io.eq_9<|J @Io.eq_10<|J @Io.eq_11<|J @Io.eq_12<|J @Io.eq_13<|J @Io.eq_14<|J @Io.eq_15<|J @Io.eq_16<|J @Io.eq_17<|J @Fq.eq_1<|J @Fq.eq_2<|J @Fq.eq_3<|J @Fq.eq_4<|J @Fq.eq_5<|J @Fq.eq_6<|J @Fq.eq_7<|J @Fq.eq_8<|J @Fq.eq_9<|J @Fq.eq_10<|J @Fq.eq_11<|J @Fq.eq_12<|J @unS.eq_1<|J @QZ.eq_1<|J @QZ.eq_2<|J @QZ.eq_4<|J @QZ.eq_5<|@QZ.eq_6
def VC19:=J @QZ.eq_7<|J @QZ.eq_8<|J @QZ.eq_9<|J @QZ.eq_10<|J @QZ.eq_11<|J @Qst.eq_1<|J @KU.eq_1<|J @Ln.eq_1<|J @Ln.eq_2<|J @Ln.eq_3<|J @Ln.eq_4<|J @Ln.eq_5<|J @Ln.eq_6<|J @Ln.eq_7<|J @Ln.eq_8<|J @Ln.eq_9<|J @Ln.eq_10<|J @Ln.eq_11<|J @Ln.eq_12<|J @Z7.eq_1<|J @Z7.eq_2<|J @Z7.eq_3<|J @Z7.eq_4<|J @Z7.eq_5<|J @Z7.eq_6<|J @tL.eq_1<|J @tL.eq_2<|J @tL.eq_3<|J @Yt.eq_1<|@Yt.eq_2
def VC20:=J @Tw.eq_1<|J @Tw.eq_2<|J @Tw.eq_3<|J @Tw.eq_4<|J @Tw.eq_5<|J @Tw.eq_6<|J @Tw.eq_7<|J @Tw.eq_8<|J @Tw.eq_9<|J @zO.eq_1<|J @DB.eq_1<|J @DB.eq_2<|J @JA.eq_1<|J @JA.eq_2<|J @Qrk.eq_1<|J @yO.eq_1<|J @Qno.eq_1<|J @RL.eq_1<|J @RL.eq_2<|J @RJ.eq_1<|J @RJ.eq_2<|J @RJ.eq_3<|J @RJ.eq_4<|J @RJ.eq_5<|J @RJ.eq_6<|J @RJ.eq_7<|J @RJ.eq_8<|J @HP.eq_1<|J @HP.eq_2<|@HP.eq_3
def VC21:=J @HP.eq_4<|J @HP.eq_5<|J @HP.eq_6<|J @HP.eq_7<|J @HP.eq_8<|J @HP.eq_9<|J @HP.eq_10<|J @HP.eq_11<|J @HP.eq_12<|J @HP.eq_13<|J @RI.eq_1<|J @RI.eq_2<|J @RI.eq_3<|J @O4.eq_1<|J @O4.eq_2<|J @hnm.eq_1<|J @hnm.eq_2<|J @Qz3.eq_1<|J @Qz3.eq_2<|J @NE.eq_1<|J @NE.eq_2<|J @NE.eq_3<|J @step.eq_1<|J @step.eq_2<|J @step.eq_3<|J @step.eq_4<|J @step.eq_5<|J @step.eq_6<|J @step.eq_7<|@step.eq_8
def VC22:=J @step.eq_9<|J @step.eq_10<|J @step.eq_11<|J @step.eq_12<|J @step.eq_13<|J @step.eq_14<|J @step.eq_15<|J @step.eq_16<|J @step.eq_17<|J @step.eq_18<|J @step.eq_19<|J @step.eq_20<|J @step.eq_21<|J @step.eq_22<|J @step.eq_23<|J @step.eq_24<|J @step.eq_25<|J @step.eq_26<|J @step.eq_27<|J @step.eq_28<|J @step.eq_29<|J @WO.eq_2<|J @Ac.eq_1<|J @Ac.eq_2<|J @Ac.eq_3<|J @Ac.eq_4<|J @Ac.eq_5<|J @Ac.eq_6<|J @Ac.eq_7<|@Ac.eq_8
def VC23:=J @JV.eq_1<|J @Hv.eq_1<|J @Hv.eq_2<|J @Br.ok_nr<|J @Xh.eq_1<|J @Xh.eq_2<|J @Gl.eq_1<|J @Gl.eq_2<|J @DT.eq_1<|J @DZ.eq_1<|J @DZ.eq_2<|J @Jv.eq_1<|J @Nd.eq_1<|J @Ya.eq_1<|J @Ya.eq_2<|J @xP.eq_1<|J @xP.eq_2<|J @KR.eq_1<|J @KR.eq_2<|J @Lj.eq_1<|J @Lj.eq_2<|J @Jg.eq_1<|J @Jg.eq_2<|J @J7.eq_1<|J @J7.eq_2<|J @G3.eq_1<|J @G3.eq_2<|J @Ix.eq_1<|J @Ix.eq_2<|@Ix.eq_3
def VC24:=J @Ix.eq_4<|J @Ix.eq_5<|J @Ix.eq_6<|J @DI.eq_1<|J @DI.eq_2<|J @DI.eq_3<|J @ins.eq_1<|J @SN.eq_1<|J @SN.eq_2<|J @Hk.eq_1<|J @Hk.eq_2<|J @EI.eq_1<|J @EI.eq_2<|J @E6.eq_1<|J @I5.eq_1<|J @I5.eq_2<|J @Br.touch.eq_1<|J @NP.eq_1<|J @Nj.eq_1<|J @Nc.eq_1<|J @XZ.eq_1<|J @XZ.eq_2<|J @xO.eq_1<|J @xO.eq_2<|J @VW.eq_1<|J @VW.eq_2<|J @Nq.eq_1<|J @Nq.eq_2<|J @Nq.eq_3<|@IT.eq_1
def VC25:=J @IT.eq_2<|J @mD.eq_1<|J @mD.eq_2<|J @mD.eq_3<|J @G6.eq_1<|J @G6.eq_2<|J @Cb.eq_1<|J @Cb.eq_2<|J @Am.eq_1<|J @Am.eq_2<|J @A8.eq_1<|J @A8.eq_2<|J @Ai.good.eq_1<|J @pm.eq_1<|J @pm.eq_2<|J @iY.eq_1<|J @FN.eq_1<|J @FN.eq_2<|J @GZ.eq_1<|J @GZ.eq_2<|J @mt.eq_1<|J @mt.eq_2<|J @mt.eq_3<|J @mt.eq_4<|J @mt.eq_5<|J @mt.eq_6<|J @mt.eq_7<|J @mt.eq_8<|J @mt.eq_9<|@mt.eq_10
def VC26:=J @mt.eq_11<|J @mt.eq_13<|J @mt.eq_14<|J @DG.eq_1<|J @DG.eq_2<|J @DG.eq_3<|J @DG.eq_4<|J @GJ.eq_1<|J @GJ.eq_2<|J @GJ.eq_3<|J @GJ.eq_4<|J @EG.eq_1<|J @EG.eq_3<|J @EG.eq_4<|J @EG.eq_5<|J @EG.eq_6<|J @EG.eq_7<|J @EG.eq_8<|J @EG.eq_9<|J @EG.eq_10<|J @EG.eq_11<|J @EG.eq_12<|J @EG.eq_13<|J @EG.eq_14<|J @K0.eq_1<|J @K0.eq_2<|J @T6.eq_1<|J @T6.eq_2<|J @Ep.eq_1<|@Ep.eq_2
def VC27:=J @Qn.eq_1<|J @Qn.eq_2<|J @Ha.eq_1<|J @Ha.eq_2<|J @VS.eq_1<|J @VS.eq_2<|J @OM.eq_1<|J @OM.eq_2<|J @EP.eq_1<|J @EP.eq_2<|J @EP.eq_3<|J @Mv.eq_1<|J @Mv.eq_2<|J @Mv.eq_3<|J @Mu.eq_1<|J @Mu.eq_2<|J @Mu.eq_3<|J @HR.eq_1<|J @HR.eq_2<|J @Sw.eq_1<|J @Hn.eq_1<|J @Hn.eq_2<|J @Hn.eq_3<|J @Hn.eq_4<|J @Hn.eq_5<|J @Hn.eq_6<|J @Hn.eq_7<|J @KI.eq_1<|J @KI.eq_2<|@AV.fzA.eq_1
def VC28:=J @AV.fzA.eq_2<|J @AV.fzA.eq_3<|J @AV.fzA.eq_4<|J @AV.fzA.eq_5<|J @AV.fzA.eq_6<|J @AV.fzA.eq_7<|J @AV.fzA.eq_8<|J @AV.fzA.eq_9<|J @AV.fzA.eq_10<|J @AV.fzA.eq_11<|J @AV.fzA.eq_12<|J @DE.eq_1<|J @DE.eq_2<|J @DF.eq_1<|J @DF.eq_2<|J @Ad.fzA.eq_1<|J @Ad.fzA.eq_2<|J @Ad.fzA.eq_3<|J @Ad.fzA.eq_4<|J @Ad.fzA.eq_5<|J @Ad.fzA.eq_6<|J @Ad.fzA.eq_7<|J @HT.eq_1<|J @HT.eq_2<|J @HS.eq_1<|J @HS.eq_2<|J @Sz.eq_1<|J @Mt.eq_1<|J @Mt.eq_2<|@Mt.eq_3
def VC29:=J @Dc.eq_1<|J @Dc.eq_2<|J @Dc.eq_3<|J @Dc.eq_4<|J @Dc.eq_5<|J @Dc.eq_6<|J @Dc.eq_7<|J @Dc.eq_8<|J @Dc.eq_9<|J @KK.fit.eq_1<|J @KK.fit.eq_2<|J @KK.fit.eq_3<|J @B2.eq_1<|J @B2.eq_2<|J @AV.bel.eq_1<|J @AV.bel.eq_2<|J @AV.bel.eq_3<|J @AV.bel.eq_4<|J @AV.bel.eq_5<|J @AV.bel.eq_6<|J @AV.bel.eq_7<|J @AV.bel.eq_8<|J @AV.bel.eq_9<|J @AV.bel.eq_10<|J @AV.bel.eq_11<|J @AV.bel.eq_12<|J @Aq.eq_1<|J @Aq.eq_2<|J @AV.nms.eq_1<|@AV.nms.eq_2
def VC30:=J @AV.nms.eq_3<|J @AV.nms.eq_4<|J @AV.nms.eq_5<|J @AV.nms.eq_6<|J @AV.nms.eq_7<|J @AV.nms.eq_8<|J @AV.nms.eq_9<|J @AV.nms.eq_10<|J @AV.nms.eq_11<|J @AV.nms.eq_12<|J @AH.eq_1<|J @AH.eq_2<|J @B7.eq_1<|J @B7.eq_2<|J @Ad.nms.eq_1<|J @Ad.nms.eq_2<|J @Ad.nms.eq_3<|J @Ad.nms.eq_4<|J @Ad.nms.eq_5<|J @Ad.nms.eq_6<|J @Ad.nms.eq_7<|J @AV.ren.eq_1<|J @AV.ren.eq_2<|J @AV.ren.eq_3<|J @AV.ren.eq_4<|J @AV.ren.eq_5<|J @AV.ren.eq_6<|J @AV.ren.eq_7<|J @AV.ren.eq_8<|@AV.ren.eq_9
def VC31:=J @AV.ren.eq_10<|J @AV.ren.eq_11<|J @AV.ren.eq_12<|J @AL.eq_1<|J @AL.eq_2<|J @Ad.ren.eq_1<|J @Ad.ren.eq_2<|J @Ad.ren.eq_3<|J @Ad.ren.eq_4<|J @Ad.ren.eq_5<|J @Ad.ren.eq_6<|J @Ad.ren.eq_7<|J @A7.eq_1<|J @A7.eq_2<|J @Qh.eq_1<|J @Qh.eq_2<|J @Xf.eq_1<|J @Xa.eq_1<|J @nG.eq_1<|J @nG.eq_2<|J @iU.eq_1<|J @iU.eq_2<|J @iU.eq_3<|J @Jd.eq_1<|J @kp.eq_1<|J @kp.eq_2<|J @Ek.eq_1<|J @Ek.eq_2<|J @Be.eq_1<|@Be.eq_2
def VC32:=J @Be.eq_3<|J @Be.eq_4<|J @Be.eq_5<|J @Be.eq_6<|J @Be.eq_7<|J @Be.eq_8<|J @Be.eq_9<|J @Be.eq_10<|J @Be.eq_11<|J @Be.eq_12<|J @Be.eq_13<|J @Be.eq_14<|J @L9.eq_1<|J @IP.eq_1<|J @IP.eq_2<|J @Kf.eq_1<|J @Kf.eq_2<|J @Di.eq_1<|J @entry.eq_1<|J @entry.eq_2<|J @Ye.eq_1<|J @Ye.eq_2<|J @HU.eq_1<|J @C5.eq_1<|J @C5.eq_2<|J @C5.eq_3<|J @C5.eq_4<|J @C5.eq_5<|J @C5.eq_6<|@C5.eq_7
def VC33:=J @IQ.eq_1<|J @IQ.eq_2<|J @IQ.eq_3<|J @klE.eq_1<|J @klE.eq_2<|J @Jj.eq_1<|J @Jj.eq_2<|J @exE.eq_1<|J @exE.eq_2<|J @exE.eq_3<|J @Ji.eq_1<|J @Ji.eq_2<|J @Rx.eq_1<|J @Rx.eq_2<|J @Rx.eq_3<|J @YK.eq_1<|J @YK.eq_2<|J @XL.eq_1<|J @XL.eq_2<|J @Jn.eq_1<|J @Jn.eq_2<|J @Jn.eq_3<|J @bM.eq_1<|J @MR.eq_1<|J @MR.eq_2<|J @Uw.eq_1<|J @Pp.eq_1<|J @Pp.eq_2<|J @Pp.eq_3<|@K3.eq_1
def VC34:=J @wO.eq_1<|J @wO.eq_2<|J @wN.eq_1<|J @sg.eq_1<|J @AY.eq_1<|J @AY.eq_2<|J @Q4.eq_1<|J @Q4.eq_2<|J @Dt.eq_1<|J @Dt.eq_2<|J @Dt.eq_3<|J @D7.eq_1<|J @D7.eq_2<|J @D7.eq_3<|J @BJ.eq_1<|J @BJ.eq_2<|J @BJ.eq_3<|J @Qy.eq_1<|J @Qy.eq_2<|J @Qy.eq_3<|J @Qy.eq_4<|J @Qy.eq_5<|J @Qy.eq_6<|J @Qy.eq_7<|J @Qy.eq_8<|J @Qw.eq_1<|J @Qw.eq_2<|J @Qw.eq_3<|J @Qw.eq_4<|@Qw.eq_5
def VC35:=J @Qw.eq_6<|J @Qw.eq_7<|J @Qw.eq_8<|J @nB.eq_1<|J @nB.eq_2<|J @Er.eq_1<|J @Er.eq_2<|J @Er.eq_3<|J @Er.eq_4<|J @Er.eq_5<|J @Er.eq_6<|J @Er.eq_7<|J @Er.eq_8<|J @Er.eq_9<|J @Er.eq_10<|J @Er.eq_11<|J @Er.eq_12<|J @S4.eq_1<|J @S4.eq_2<|J @bH.eq_1<|J @bH.eq_2<|J @FY.eq_1<|J @FY.eq_2<|J @FY.eq_3<|J @FY.eq_4<|J @FY.eq_5<|J @FY.eq_6<|J @FY.eq_7<|J @FY.eq_8<|@FY.eq_9
def VC36:=J @FY.eq_10<|J @FY.eq_11<|J @FY.eq_12<|J @FY.eq_13<|J @FY.eq_14<|J @FY.eq_15<|J @FY.eq_16<|J @FY.eq_17<|J @pkC.eq_1<|J @pkC.eq_2<|J @TW.eq_1<|J @TW.eq_2<|J @TW.eq_3<|J @TW.eq_4<|J @TW.eq_5<|J @TW.eq_6<|J @TW.eq_7<|J @TW.eq_8<|J @JG.eq_1<|J @JG.eq_2<|J @JG.eq_3<|J @JG.eq_4<|J @JG.eq_5<|J @JG.eq_6<|J @JG.eq_7<|J @JG.eq_8<|J @JG.eq_9<|J @JG.eq_10<|J @JG.eq_11<|@JG.eq_12
def VC37:=J @fH.eq_1<|J @fH.eq_2<|J @fH.eq_3<|J @KJ.eq_1<|J @KJ.eq_2<|J @Eo.eq_1<|J @Eo.eq_2<|J @Sv.eq_1<|J @Sv.eq_2<|J @Zz.eq_1<|J @Zz.eq_2<|J @Ee.eq_1<|J @EL.eq_1<|J @EL.eq_2<|J @EL.eq_3<|J @EL.eq_4<|J @EL.eq_5<|J @EL.eq_6<|J @EL.eq_7<|J @EL.eq_8<|J @EL.eq_9<|J @EL.eq_10<|J @EL.eq_11<|J @EL.eq_12<|J @MD.eq_1<|J @Cm.eq_1<|J @Ao.eq_1<|J @IZ.eq_1<|J @Sg.eq_1<|@Sg.eq_2
def VC38:=J @EY.eq_1<|J @EY.eq_2<|J @Ia.eq_1<|J @Ia.eq_2<|J @MP.eq_1<|J @MP.eq_2<|J @bL.eq_1<|J @MO.eq_1<|J @MO.eq_2<|J @HZ.eq_1<|J @ND.eq_1<|J @ND.eq_2<|J @ND.eq_3<|J @Fe.eq_1<|J @Fe.eq_2<|J @Fe.eq_3<|J @CO.eq_1<|J @CO.eq_2<|J @BO.eq_1<|J @BO.eq_2<|J @Iz.eq_1<|J @eO.eq_1<|J @eO.eq_2<|J @Xi.eq_1<|J @Xi.eq_2<|J @VT.eq_1<|J @VT.eq_2<|J @JH.eq_1<|J @JH.eq_2<|@iI.eq_1
def VC39:=J @nA.eq_1<|J @nA.eq_2<|J @IV.eq_1<|J @IV.eq_2<|J @Su.eq_1<|J @Su.eq_2<|J @Su.eq_3<|J @K6.eq_1<|J @K6.eq_2<|J @OG.eq_1<|J @OG.eq_2<|J @OG.eq_3<|J @OG.eq_4<|J @MQ.eq_1<|J @MQ.eq_2<|J @KQ.eq_1<|J @ZY.eq_1<|J @ZY.eq_2<|J @ZY.eq_3<|J @Km.eq_1<|J @Km.eq_2<|J @R9.eq_1<|J @ZS.eq_1<|J @ZS.eq_2<|J @R8.eq_1<|J @R8.eq_2<|J @R8.eq_3<|J @bk.eq_1<|J @bk.eq_2<|@bk.eq_3
def VC40:=J @bk.eq_4<|J @bk.eq_5<|J @bk.eq_6<|J @bk.eq_7<|J @bk.eq_8<|J @bk.eq_9<|J @bk.eq_10<|J @bk.eq_11<|J @bk.eq_12<|J @bk.eq_13<|J @Y9.eq_1<|J @ES.eq_1<|J @E7.eq_1<|J @E7.eq_2<|J @E7.eq_3<|J @E7.eq_4<|J @E7.eq_5<|J @E7.eq_6<|J @E7.eq_7<|J @E7.eq_8<|J @E7.eq_9<|J @E7.eq_10<|J @E7.eq_11<|J @E7.eq_12<|J @I3.eq_1<|J @I3.eq_2<|J @I3.eq_3<|J @CB.eq_1<|J @CB.eq_2<|@WJ.eq_1
def VC41:=J @WJ.eq_2<|J @Bn.eq_1<|J @X9<|J @XA<|J @XB<|J @XC<|J @Sb<|J @Sc<|J @Sd<|J @Se<|J @Qabq<|J @O9<|J @Sa<|J @XG<|J @XE<|J @XD<|J @iB<|J @jF<|J @Yz<|J @jG<|J @jE<|J @jA<|J @Yx<|J @jD<|J @iZ<|J @jC<|J @jB<|J @xK<|J @xL<|@YN
def VC42:=J @Pw<|J @YP<|J @U9<|J @jT<|J @UB<|J @Qs8<|J @YM<|J @UH<|J @Qyd<|J @UA<|J @YQ<|J @Qaa9<|J @Qyi<|J @Qaa8<|J @Qvy<|J @Qv2<|J @Qvr<|J @UD<|J @Px<|J @Qwt<|J @Qabt<|J @YL<|J @UG<|J @UF<|J @YO<|J @UC<|J @Qyj<|J @Qmy<|J @UE<|@Qs9
end Go.Ae
