/- Lemmas. Conditions: none. -/
import Derived.Test.YtogafbdeamcpnaaGreatDoorP04
set_option linter.all false
set_option maxHeartbeats 8000000
set_option maxRecDepth 100000
namespace Go.Ae
def XA(ks:List KK)(ds:List D):KT.fit ⟨true,ks⟩ (.agg ds)=B2 ks ds:=rfl
def XB(ks:List KK)(k:IntKind)(n:Int):KT.fit ⟨false,ks⟩ (.int k n)=B2 ks [.int k n]:=rfl
def XC(ks:List KK)(s:ByteArray):KT.fit ⟨false,ks⟩ (.str s)=B2 ks [.str s]:=rfl
def XD(ks:List KK)(s:Bool):KT.fit ⟨false,ks⟩ (.bool s)=B2 ks [.bool s]:=rfl
def Sa:Di []= .tup []:=rfl
def Sb(x y:AV):Di [x,y]= .tup [x,y]:=rfl
def Sc(x y z:AV):Di [x,y,z]= .tup [x,y,z]:=rfl
def Sd(x y z w:AV):Di [x,y,z,w]= .tup [x,y,z,w]:=rfl
def Qabq(t:Option Nat)(z:Bool)(s:Ai)(O G:Ai->Prop)(b:Bool):WP t z s O G (.im (.bool b))=if b=z then O (s.put t (.im (.bool z))) else G (s.put t (.im (.bool (!z)))):=by
 cases b<;>cases z<;>simp[WP]
def O8(A B:Cp->Ai->Prop)(Q:Cp)(s:Ai)(b:Bool):uV A B Q s (.im (.bool b))=if b=true then A Q s else B Q s:=by
 cases b<;>simp[uV]
def RZ(c:Bool)(K:Ah)(a b:AV):M8 c K a b=if c=true then K a {} else K b {}:=by
 cases c<;>simp[M8]
def XH(m:Nat)(x:AV)(r:List (Nat×AV))(n:Nat):AF ((m,x)::r) n=if m=n then x else AF r n:=by
 by_cases h:m=n
 .subst h;simp[AF]
 .have:(m==n)=false:=by simpa using h
  simp[AF,this,h]
def XG(m:Nat)(x:Au)(r:Av)(n:Nat):hget ((m,x)::r) n=if m=n then some x else hget r n:=by
 by_cases h:m=n
 .subst h;simp[hget]
 .have:(m==n)=false:=by simpa using h
  simp[hget,this,h]
def XE(m:Nat)(x:Au)(r:Av)(ks:List Nat):Bh ((m,x)::r) ks=if ks.contains m=true then Bh r ks else (m,x)::Bh r ks:=by
 cases h:ks.contains m<;>simp only[Bh,h]<;>simp
def iC(cl:List (List Nat))(j:Nat)(use touch z:List Nat)(f:Fp):mZ cl j use touch z f=if (J7 (use++touch) f.touch && (J7 touch f.use && G3 f.nx f.cnt z))=true then true else E6 cl f.i j:=by
 unfold mZ;cases (J7 (use++touch) f.touch && (J7 touch f.use && G3 f.nx f.cnt z))<;>rfl
def jG(k:IntKind)(n:Int):FJ (.int k n)=0:=rfl
def Y0(b:Bool):FJ (.bool b)=0:=rfl
def jH(s:ByteArray):FJ (.string s)=0:=rfl
def jF(cs:Array Value):FJ (.agg cs)=0:=rfl
def jB(k:IntKind)(n:Int):QS (.int k n)=false:=rfl
def Yy(b:Bool):QS (.bool b)=false:=rfl
def jE(s:ByteArray):QS (.string s)=false:=rfl
def jA(cs:Array Value):QS (.agg cs)=false:=rfl
def jD(a:Option Addr):QS (.pointer a)=false:=rfl
def jC(a:Option Nat):QS (.map a)=false:=rfl
def xL:QS .nilFunc=false:=rfl
def xM:QS .nilIface=false:=rfl
section
variable (P:Program)(V:Db)(tm:List (Nat×AV))(h:Nat->Option Au)(nx:Nat)(ty:TypeId)(K:Ah)
def YO(x:Operand):DZ P V tm h nx ty K (.move x)=step P V true tm h nx ty K (.move x):=rfl
def Pv(x:Operand):DZ P V tm h nx ty K (.assign x)=step P V true tm h nx ty K (.assign x):=rfl
def YQ(c:Operand)(a:Operand)(b:Operand):DZ P V tm h nx ty K (.pick c a b)=step P V true tm h nx ty K (.pick c a b):=rfl
def UA(t:TypeId):DZ P V tm h nx ty K (.alloc t)=step P V true tm h nx ty K (.alloc t):=rfl
def jU(t:TypeId)(x:Operand):DZ P V tm h nx ty K (.box t x)=step P V true tm h nx ty K (.box t x):=rfl
def UC(t:TypeId)(ps:Array (Nat×Operand)):DZ P V tm h nx ty K (.build t ps)=step P V true tm h nx ty K (.build t ps):=rfl
def Qs8(t:TypeId)(n:Nat)(ps:Array (Nat×Operand)):DZ P V tm h nx ty K (.buildSlice t n ps)=step P V true tm h nx ty K (.buildSlice t n ps):=rfl
def YN(t:TypeId)(x:Operand):DZ P V tm h nx ty K (.load t x)=step P V true tm h nx ty K (.load t x):=rfl
def UI(t:TypeId)(x:Operand)(v:Operand):DZ P V tm h nx ty K (.store t x v)=step P V true tm h nx ty K (.store t x v):=rfl
def Qyd(x:Operand):DZ P V tm h nx ty K (.nilCheck x)=step P V true tm h nx ty K (.nilCheck x):=rfl
def UB(op:BinOp)(t:TypeId)(x:Operand)(y:Operand)(u:TypeId):DZ P V tm h nx ty K (.binOp op t x y u)=step P V true tm h nx ty K (.binOp op t x y u):=rfl
def YR(op:UnOp)(t:TypeId)(x:Operand):DZ P V tm h nx ty K (.unOp op t x)=step P V true tm h nx ty K (.unOp op t x):=rfl
def Qaa9(s:TypeId)(t:TypeId)(x:Operand):DZ P V tm h nx ty K (.convert s t x)=step P V true tm h nx ty K (.convert s t x):=rfl
def Qyi(f:Fn)(a:Array Operand)(c:Array Operand):DZ P V tm h nx ty K (.makeFunc f a c)=step P V true tm h nx ty K (.makeFunc f a c):=rfl
def Qaa8(t:TypeId)(r:Option Operand):DZ P V tm h nx ty K (.makeMap t r)=step P V true tm h nx ty K (.makeMap t r):=rfl
def Qvy(t:TypeId)(l:Operand)(c:Operand):DZ P V tm h nx ty K (.makeSlice t l c)=step P V true tm h nx ty K (.makeSlice t l c):=rfl
def Qv2(t:TypeId)(x:Operand)(f:Nat):DZ P V tm h nx ty K (.fieldAddr t x f)=step P V true tm h nx ty K (.fieldAddr t x f):=rfl
def Qvr(t:TypeId)(x:Operand)(i:Operand):DZ P V tm h nx ty K (.indexAddr t x i)=step P V true tm h nx ty K (.indexAddr t x i):=rfl
def UE(t:TypeId)(x:Operand)(i:Operand):DZ P V tm h nx ty K (.index t x i)=step P V true tm h nx ty K (.index t x i):=rfl
def Pw(t:TypeId)(m:Operand)(k:Operand)(ok:Bool):DZ P V tm h nx ty K (.lookup t m k ok)=step P V true tm h nx ty K (.lookup t m k ok):=rfl
def Qwt(t:TypeId)(m:Operand)(k:Operand)(v:Operand):DZ P V tm h nx ty K (.mapUpdate t m k v)=step P V true tm h nx ty K (.mapUpdate t m k v):=rfl
def Qabt(x:Operand)(i:Nat):DZ P V tm h nx ty K (.extract x i)=step P V true tm h nx ty K (.extract x i):=rfl
def YM(c:Call):DZ P V tm h nx ty K (.call c)=step P V true tm h nx ty K (.call c):=rfl
def UH(t:TypeId)(x:Operand)(lo:Option Operand)(z:Option Operand)(G:Option Operand):DZ P V tm h nx ty K (.slice t x lo z G)=step P V true tm h nx ty K (.slice t x lo z G):=rfl
def UG(t:TypeId)(x:Operand):DZ P V tm h nx ty K (.range t x)=step P V true tm h nx ty K (.range t x):=rfl
def YP(x:Operand)(b:Bool):DZ P V tm h nx ty K (.next x b)=step P V true tm h nx ty K (.next x b):=rfl
def UD(x:Operand):DZ P V tm h nx ty K (.entry x)=step P V true tm h nx ty K (.entry x):=rfl
def Qyj(t:TypeId)(x:Operand):DZ P V tm h nx ty K (.makeChan t x)=step P V true tm h nx ty K (.makeChan t x):=rfl
def Qmy(t:TypeId)(x:Operand):DZ P V tm h nx ty K (.makeInterface t x)=step P V true tm h nx ty K (.makeInterface t x):=rfl
def UF(x:Operand):DZ P V tm h nx ty K (.panic x)=step P V true tm h nx ty K (.panic x):=rfl
def Qs9(x:Operand)(t:TypeId)(u:TypeId)(ok:Bool):DZ P V tm h nx ty K (.typeAssert x t u ok)=step P V true tm h nx ty K (.typeAssert x t u ok):=rfl
end
def J{a b:Prop}(x:a)(y:b):a/\b:=⟨x,y⟩
def VC0:=J @AF.eq_1<|J @hget.eq_1<|J @Bh.eq_1<|J @Ai.put.eq_1<|J @Ai.put.eq_2<|J @Ai.app_nr<|J @kD.eq_1<|J @kD.eq_2<|J @kD.eq_3<|J @kD.eq_4<|J @kD.eq_5<|J @kD.eq_6<|J @kD.eq_7<|J @kD.eq_8<|J @kD.eq_9<|J @Az.eq_1<|J @Az.eq_2<|J @Az.eq_3<|J @Az.eq_4<|J @D.cells.eq_1<|J @D.cells.eq_2<|J @D.cells.eq_3<|J @D.cells.eq_4<|J @D.cells.eq_5<|J @D.cells.eq_6<|J @D.cells.eq_7<|J @D.cells.eq_8<|J @D.cells.eq_9<|J @D.cells.eq_10<|@D.cells.eq_11
def VC1:=J @D.cells.eq_12<|J @D.cells.eq_13<|J @D.cells.eq_14<|J @D.cells.eq_15<|J @D.cells.eq_16<|J @D.cells.eq_17<|J @AV.cells.eq_1<|J @AV.cells.eq_2<|J @AV.cells.eq_3<|J @AV.cells.eq_4<|J @AV.cells.eq_5<|J @AV.cells.eq_6<|J @AV.cells.eq_7<|J @AV.cells.eq_8<|J @AV.cells.eq_9<|J @AV.cells.eq_10<|J @AV.cells.eq_11<|J @AV.cells.eq_12<|J @D.one.eq_1<|J @D.one.eq_2<|J @D.one.eq_3<|J @D.one.eq_4<|J @D.one.eq_5<|J @D.one.eq_6<|J @D.one.eq_7<|J @D.one.eq_8<|J @D.one.eq_9<|J @D.one.eq_10<|J @D.one.eq_11<|@D.one.eq_12
def VC2:=J @D.one.eq_13<|J @D.one.eq_14<|J @D.one.eq_15<|J @D.one.eq_16<|J @D.one.eq_17<|J @AV.one.eq_1<|J @AV.one.eq_2<|J @AV.one.eq_3<|J @AV.one.eq_4<|J @AV.one.eq_5<|J @AV.one.eq_6<|J @AV.one.eq_7<|J @AV.one.eq_8<|J @AV.one.eq_9<|J @AV.one.eq_10<|J @AV.one.eq_11<|J @AV.one.eq_12<|J @QZ.eq_1<|J @QZ.eq_2<|J @AV.asD.eq_1<|J @AV.asD.eq_2<|J @AV.asD.eq_3<|J @AV.asD.eq_4<|J @AV.asD.eq_5<|J @AV.asD.eq_6<|J @AV.asD.eq_7<|J @AV.asD.eq_8<|J @AV.asD.eq_9<|J @AV.asD.eq_10<|@AV.asD.eq_11
def VC3:=J @AV.asD.eq_12<|J @Ob.eq_1<|J @Ob.eq_2<|J @Ob.eq_3<|J @DO.eq_1<|J @DO.eq_2<|J @Yt.eq_1<|J @Yt.eq_2<|J @hdV.eq_1<|J @hdV.eq_2<|J @iP.eq_1<|J @iP.eq_2<|J @iW.eq_1<|J @bF.eq_1<|J @BY.eq_1<|J @D.beq.eq_1<|J @D.beq.eq_2<|J @D.beq.eq_3<|J @D.beq.eq_4<|J @D.beql.eq_1<|J @D.beql.eq_2<|J @lk.eq_1<|J @lk.eq_2<|J @G7.eq_1<|J @G7.eq_2<|J @IQ.eq_1<|J @IQ.eq_2<|J @fH.eq_1<|J @vC.eq_1<|@Ja.eq_1
def VC4:=J @Ja.eq_2<|J @IZ.eq_1<|J @IZ.eq_2<|J @Xe.eq_1<|J @Xe.eq_2<|J @Xe.eq_3<|J @Xe.eq_4<|J @Yk.eq_1<|J @Yk.eq_2<|J @Qxz.eq_1<|J @Qyo.eq_1<|J @UK.eq_1<|J @Jp.eq_1<|J @Jp.eq_2<|J @sL.eq_1<|J @sL.eq_2<|J @Qri.eq_1<|J @Rt.eq_1<|J @Rt.eq_2<|J @K4.eq_1<|J @K4.eq_2<|J @K4.eq_3<|J @XN.eq_1<|J @XN.eq_2<|J @faK.eq_1<|J @yW.eq_1<|J @wZ.eq_1<|J @Md.eq_1<|J @Md.eq_2<|@Ye.eq_1
def VC5:=J @Ye.eq_2<|J @Mc.eq_1<|J @Mc.eq_2<|J @Bg.eq_1<|J @Bg.eq_2<|J @wS.eq_1<|J @wS.eq_2<|J @Qjp.eq_1<|J @SU.eq_1<|J @kCh.eq_1<|J @ixK.eq_1<|J @ixK.eq_2<|J @Qxc.eq_1<|J @GL.eq_1<|J @GL.eq_2<|J @GL.eq_3<|J @GL.eq_4<|J @GL.eq_5<|J @GL.eq_6<|J @GL.eq_7<|J @GL.eq_8<|J @GL.eq_9<|J @GL.eq_10<|J @GL.eq_11<|J @GL.eq_12<|J @GL.eq_13<|J @GL.eq_14<|J @GL.eq_15<|J @GL.eq_16<|@GL.eq_17
def VC6:=J @IC.eq_1<|J @IC.eq_2<|J @IC.eq_3<|J @IC.eq_4<|J @IC.eq_5<|J @IC.eq_6<|J @IC.eq_7<|J @IC.eq_8<|J @IC.eq_9<|J @IC.eq_10<|J @IC.eq_11<|J @IC.eq_12<|J @IC.eq_13<|J @IC.eq_14<|J @aT.eq_1<|J @Sg.eq_1<|J @uS.eq_1<|J @uS.eq_2<|J @uS.eq_3<|J @uS.eq_4<|J @Wh.eq_1<|J @Wh.eq_2<|J @Wh.eq_3<|J @Xa.eq_1<|J @Xa.eq_2<|J @Xa.eq_3<|J @NF.eq_1<|J @NF.eq_2<|J @NF.eq_3<|@Jt.eq_1
def VC7:=J @Jt.eq_2<|J @Nf.eq_1<|J @Nf.eq_2<|J @uC.eq_1<|J @uC.eq_2<|J @tX.eq_1<|J @tX.eq_2<|J @ZL.eq_1<|J @ZL.eq_2<|J @ZL.eq_3<|J @fO.eq_1<|J @fO.eq_2<|J @fO.eq_3<|J @fO.eq_4<|J @Zh.eq_1<|J @Zh.eq_2<|J @ZS.eq_1<|J @ZS.eq_2<|J @HE.eq_1<|J @HE.eq_2<|J @HE.eq_3<|J @Jk.eq_1<|J @M9.eq_1<|J @NA.eq_1<|J @NA.eq_2<|J @R0.eq_1<|J @wI.eq_1<|J @wI.eq_2<|J @Qsy.eq_1<|@Ii.eq_1
def VC8:=J @Ii.eq_2<|J @Ca.eq_1<|J @Ca.eq_2<|J @IK.eq_1<|J @IK.eq_2<|J @L6.eq_1<|J @L6.eq_2<|J @bsE.eq_1<|J @bsK.eq_1<|J @yO.eq_1<|J @msE.eq_1<|J @msK.eq_1<|J @yX.eq_1<|J @ZO.eq_1<|J @ZO.eq_2<|J @DN.eq_1<|J @DN.eq_2<|J @Bo.eq_1<|J @B1.eq_1<|J @B1.eq_2<|J @Cd.okOne.eq_1<|J @Cd.okOne.eq_2<|J @Cd.okOne.eq_3<|J @N7.eq_1<|J @N7.eq_2<|J @N7.eq_3<|J @mY.eq_1<|J @mY.eq_2<|J @mY.eq_3<|@mX.eq_1
def VC9:=J @mX.eq_2<|J @mX.eq_3<|J @IG.eq_1<|J @IG.eq_2<|J @Rv.eq_1<|J @Rv.eq_2<|J @apE.eq_1<|J @apK.eq_1<|J @Qsl.eq_1<|J @FI.eq_1<|J @Qxr.eq_1<|J @Qxr.eq_2<|J @Mm.eq_1<|J @iS.eq_1<|J @iS.eq_2<|J @fN.eq_1<|J @fN.eq_2<|J @fN.eq_3<|J @Tg.eq_1<|J @uY.eq_1<|J @uY.eq_2<|J @uY.eq_3<|J @Fq.eq_1<|J @Fq.eq_2<|J @Fq.eq_3<|J @Fq.eq_4<|J @Fq.eq_5<|J @Fq.eq_6<|J @Fq.eq_7<|@Fq.eq_8
def VC10:=J @Fq.eq_9<|J @fT.eq_1<|J @Qy3.eq_1<|J @IX.eq_1<|J @Tn.eq_1<|J @fU.eq_1<|J @fU.eq_2<|J @fU.eq_3<|J @Yr.eq_1<|J @Yr.eq_2<|J @luE.eq_1<|J @luK.eq_1<|J @Qnn.eq_1<|J @Tz.eq_1<|J @Ty.eq_1<|J @Ty.eq_2<|J @KD.eq_1<|J @KD.eq_2<|J @KD.eq_3<|J @KD.eq_4<|J @KD.eq_5<|J @KD.eq_6<|J @KD.eq_7<|J @KD.eq_8<|J @KD.eq_9<|J @muF.eq_1<|J @T3.eq_1<|J @sC.eq_1<|J @sC.eq_2<|@RU.eq_1
def VC11:=J @X8.eq_1<|J @X8.eq_2<|J @RT.eq_1<|J @RT.eq_2<|J @RT.eq_3<|J @RT.eq_4<|J @RT.eq_5<|J @RT.eq_6<|J @RT.eq_7<|J @RT.eq_8<|J @RT.eq_9<|J @Qni.eq_1<|J @exA.eq_1<|J @exA.eq_2<|J @exD.eq_1<|J @exD.eq_2<|J @lE.eq_1<|J @lE.eq_2<|J @lF.eq_1<|J @lF.eq_2<|J @lF.eq_3<|J @lF.eq_4<|J @QC.eq_1<|J @QC.eq_2<|J @Q4.eq_1<|J @Q4.eq_2<|J @Qjk.eq_1<|J @Qg6.eq_1<|J @QS.eq_1<|@WR.eq_1
def VC12:=J @WR.eq_2<|J @WR.eq_3<|J @WR.eq_4<|J @zL.eq_1<|J @zL.eq_2<|J @zZ.eq_1<|J @Qzp.eq_1<|J @Qsv.eq_1<|J @Vc.eq_1<|J @FJ.eq_1<|J @FJ.eq_2<|J @FJ.eq_3<|J @FJ.eq_4<|J @Fs.eq_1<|J @Fs.eq_2<|J @Fs.eq_3<|J @Fs.eq_4<|J @lY.eq_1<|J @lY.eq_2<|J @QG.eq_1<|J @QG.eq_2<|J @WB.eq_1<|J @WB.eq_2<|J @Vd.eq_1<|J @WA.eq_1<|J @WA.eq_2<|J @Ng.eq_1<|J @ZX.eq_1<|J @ZX.eq_2<|@ZX.eq_3
def VC13:=J @ZX.eq_4<|J @ZX.eq_5<|J @KU.eq_1<|J @tV.eq_1<|J @tV.eq_2<|J @H5.eq_1<|J @H5.eq_2<|J @Ho.eq_1<|J @L7.eq_1<|J @L7.eq_2<|J @R9.eq_1<|J @gW.eq_1<|J @gX.eq_1<|J @gY.eq_1<|J @IL.eq_1<|J @IL.eq_2<|J @TK.isStr.eq_1<|J @TK.isStr.eq_2<|J @TK.isStr.eq_3<|J @TK.isStr.eq_4<|J @TK.isStr.eq_5<|J @TK.isStr.eq_6<|J @TK.isStr.eq_7<|J @TK.isStr.eq_8<|J @TK.isStr.eq_9<|J @isStr.eq_1<|J @isStr.eq_2<|J @Ws.eq_1<|J @Nh.eq_1<|@TK.isSl.eq_1
def VC14:=J @TK.isSl.eq_2<|J @TK.isSl.eq_3<|J @TK.isSl.eq_4<|J @TK.isSl.eq_5<|J @TK.isSl.eq_6<|J @TK.isSl.eq_7<|J @TK.isSl.eq_8<|J @TK.isSl.eq_9<|J @zT.eq_1<|J @DC.eq_1<|J @DC.eq_2<|J @Hi.eq_1<|J @Hi.eq_2<|J @UM.eq_1<|J @UM.eq_2<|J @UM.eq_3<|J @Jr.eq_1<|J @Jr.eq_2<|J @Jr.eq_3<|J @uU.eq_1<|J @uU.eq_2<|J @Js.eq_1<|J @Js.eq_2<|J @Js.eq_3<|J @UN.eq_1<|J @xX.eq_1<|J @xX.eq_2<|J @kA.eq_1<|J @Qz.eq_1<|@Qz.eq_2
def VC15:=J @Qz.eq_3<|J @Qz.eq_4<|J @Qz.eq_5<|J @Qz.eq_6<|J @Qz.eq_7<|J @Qz.eq_8<|J @Qz.eq_9<|J @Qsm.eq_1<|J @hZ.eq_1<|J @iA.eq_1<|J @fR.eq_1<|J @fR.eq_2<|J @fR.eq_3<|J @RO.eq_1<|J @RP.eq_1<|J @VK.eq_1<|J @VK.eq_2<|J @fJ.eq_1<|J @RQ.eq_1<|J @RQ.eq_2<|J @RQ.eq_3<|J @RS.eq_1<|J @RS.eq_2<|J @RS.eq_3<|J @RS.eq_4<|J @RS.eq_5<|J @RS.eq_6<|J @RS.eq_7<|J @RS.eq_8<|@RS.eq_9
def VC16:=J @Qzd.eq_1<|J @X2.eq_1<|J @X2.eq_2<|J @RD.eq_1<|J @RD.eq_2<|J @RD.eq_3<|J @RD.eq_4<|J @RD.eq_5<|J @RD.eq_6<|J @RD.eq_7<|J @RD.eq_8<|J @RD.eq_9<|J @Qrt.eq_1<|J @U1.eq_1<|J @rgD.eq_1<|J @rgM.eq_1<|J @rgM.eq_2<|J @Uz.eq_1<|J @Uz.eq_2<|J @Uz.eq_3<|J @Uz.eq_4<|J @Uz.eq_5<|J @Uz.eq_6<|J @Uz.eq_7<|J @Uz.eq_8<|J @Uz.eq_9<|J @Qsh.eq_1<|J @xN.eq_1<|J @TE.eq_1<|@Wg.eq_1
def VC17:=J @jJ.eq_1<|J @jJ.eq_2<|J @Se.eq_1<|J @Qsz.eq_1<|J @mcE.eq_1<|J @mcV.eq_1<|J @mcK.eq_1<|J @mcK.eq_2<|J @yZ.eq_1<|J @bC.eq_1<|J @Tj.eq_1<|J @Tj.eq_2<|J @jV.eq_1<|J @KW.eq_1<|J @jT.eq_1<|J @rvC.eq_1<|J @rvE.eq_1<|J @rvK.eq_1<|J @rvK.eq_2<|J @KV.eq_1<|J @Sh.eq_1<|J @Si.eq_1<|J @Si.eq_2<|J @N8.eq_1<|J @N8.eq_2<|J @Im.eq_1<|J @Im.eq_2<|J @Im.eq_3<|J @Im.eq_4<|@Im.eq_5
def VC18:=J @Im.eq_6<|J @Im.eq_7<|J @Im.eq_8<|J @Im.eq_9<|J @Im.eq_10<|J @Im.eq_11<|J @Im.eq_12<|J @Im.eq_13<|J @Im.eq_14<|J @Im.eq_15<|J @Im.eq_16<|J @Im.eq_17<|J @FH.eq_1<|J @FH.eq_2<|J @FH.eq_3<|J @FH.eq_4<|J @FH.eq_5<|J @FH.eq_6<|J @FH.eq_7<|J @FH.eq_8<|J @FH.eq_9<|J @FH.eq_10<|J @FH.eq_11<|J @FH.eq_12<|J @unS.eq_1<|J @QY.eq_1<|J @QY.eq_2<|J @QY.eq_4<|J @QY.eq_5<|@QY.eq_6
def VC19:=J @QY.eq_7<|J @QY.eq_8<|J @QY.eq_9<|J @QY.eq_10<|J @QY.eq_11<|J @Qst.eq_1<|J @KS.eq_1<|J @Lm.eq_1<|J @Lm.eq_2<|J @Lm.eq_3<|J @Lm.eq_4<|J @Lm.eq_5<|J @Lm.eq_6<|J @Lm.eq_7<|J @Lm.eq_8<|J @Lm.eq_9<|J @Lm.eq_10<|J @Lm.eq_11<|J @Lm.eq_12<|J @Z8.eq_1<|J @Z8.eq_2<|J @Z8.eq_3<|J @Z8.eq_4<|J @Z8.eq_5<|J @Z8.eq_6<|J @tM.eq_1<|J @tM.eq_2<|J @tM.eq_3<|J @Yu.eq_1<|@Yu.eq_2
def VC20:=J @Tw.eq_1<|J @Tw.eq_2<|J @Tw.eq_3<|J @Tw.eq_4<|J @Tw.eq_5<|J @Tw.eq_6<|J @Tw.eq_7<|J @Tw.eq_8<|J @Tw.eq_9<|J @zP.eq_1<|J @DB.eq_1<|J @DB.eq_2<|J @JA.eq_1<|J @JA.eq_2<|J @Qrk.eq_1<|J @yP.eq_1<|J @Qno.eq_1<|J @RJ.eq_1<|J @RJ.eq_2<|J @RI.eq_1<|J @RI.eq_2<|J @RI.eq_3<|J @RI.eq_4<|J @RI.eq_5<|J @RI.eq_6<|J @RI.eq_7<|J @RI.eq_8<|J @HO.eq_1<|J @HO.eq_2<|@HO.eq_3
def VC21:=J @HO.eq_4<|J @HO.eq_5<|J @HO.eq_6<|J @HO.eq_7<|J @HO.eq_8<|J @HO.eq_9<|J @HO.eq_10<|J @HO.eq_11<|J @HO.eq_12<|J @HO.eq_13<|J @RH.eq_1<|J @RH.eq_2<|J @RH.eq_3<|J @O3.eq_1<|J @O3.eq_2<|J @hnm.eq_1<|J @hnm.eq_2<|J @Qz3.eq_1<|J @Qz3.eq_2<|J @ND.eq_1<|J @ND.eq_2<|J @ND.eq_3<|J @step.eq_1<|J @step.eq_2<|J @step.eq_3<|J @step.eq_4<|J @step.eq_5<|J @step.eq_6<|J @step.eq_7<|@step.eq_8
def VC22:=J @step.eq_9<|J @step.eq_10<|J @step.eq_11<|J @step.eq_12<|J @step.eq_13<|J @step.eq_14<|J @step.eq_15<|J @step.eq_16<|J @step.eq_17<|J @step.eq_18<|J @step.eq_19<|J @step.eq_20<|J @step.eq_21<|J @step.eq_22<|J @step.eq_23<|J @step.eq_24<|J @step.eq_25<|J @step.eq_26<|J @step.eq_27<|J @step.eq_28<|J @step.eq_29<|J @WP.eq_2<|J @Ac.eq_1<|J @Ac.eq_2<|J @Ac.eq_3<|J @Ac.eq_4<|J @Ac.eq_5<|J @Ac.eq_6<|J @Ac.eq_7<|@Ac.eq_8
def VC23:=J @JU.eq_1<|J @Hu.eq_1<|J @Hu.eq_2<|J @Bp.ok_nr<|J @Xi.eq_1<|J @Xi.eq_2<|J @Gl.eq_1<|J @Gl.eq_2<|J @DT.eq_1<|J @DZ.eq_1<|J @DZ.eq_2<|J @Ju.eq_1<|J @Nc.eq_1<|J @Yb.eq_1<|J @Yb.eq_2<|J @xQ.eq_1<|J @xQ.eq_2<|J @KQ.eq_1<|J @KQ.eq_2<|J @Li.eq_1<|J @Li.eq_2<|J @Jf.eq_1<|J @Jf.eq_2<|J @J7.eq_1<|J @J7.eq_2<|J @G3.eq_1<|J @G3.eq_2<|J @IJ.eq_1<|J @IJ.eq_2<|@IJ.eq_3
def VC24:=J @IJ.eq_4<|J @IJ.eq_5<|J @IJ.eq_6<|J @DI.eq_1<|J @DI.eq_2<|J @DI.eq_3<|J @ins.eq_1<|J @SN.eq_1<|J @SN.eq_2<|J @Hj.eq_1<|J @Hj.eq_2<|J @EI.eq_1<|J @EI.eq_2<|J @E6.eq_1<|J @I3.eq_1<|J @I3.eq_2<|J @Bp.touch.eq_1<|J @NO.eq_1<|J @Ni.eq_1<|J @Nb.eq_1<|J @Ya.eq_1<|J @Ya.eq_2<|J @xP.eq_1<|J @xP.eq_2<|J @VX.eq_1<|J @VX.eq_2<|J @Np.eq_1<|J @Np.eq_2<|J @Np.eq_3<|@IS.eq_1
def VC25:=J @IS.eq_2<|J @mE.eq_1<|J @mE.eq_2<|J @mE.eq_3<|J @G6.eq_1<|J @G6.eq_2<|J @Cb.eq_1<|J @Cb.eq_2<|J @Am.eq_1<|J @Am.eq_2<|J @A8.eq_1<|J @A8.eq_2<|J @Ai.good.eq_1<|J @pm.eq_1<|J @pm.eq_2<|J @iZ.eq_1<|J @FM.eq_1<|J @FM.eq_2<|J @GY.eq_1<|J @GY.eq_2<|J @mt.eq_1<|J @mt.eq_2<|J @mt.eq_3<|J @mt.eq_4<|J @mt.eq_5<|J @mt.eq_6<|J @mt.eq_7<|J @mt.eq_8<|J @mt.eq_9<|@mt.eq_10
def VC26:=J @mt.eq_11<|J @mt.eq_13<|J @mt.eq_14<|J @DG.eq_1<|J @DG.eq_2<|J @DG.eq_3<|J @DG.eq_4<|J @GJ.eq_1<|J @GJ.eq_2<|J @GJ.eq_3<|J @GJ.eq_4<|J @EG.eq_1<|J @EG.eq_3<|J @EG.eq_4<|J @EG.eq_5<|J @EG.eq_6<|J @EG.eq_7<|J @EG.eq_8<|J @EG.eq_9<|J @EG.eq_10<|J @EG.eq_11<|J @EG.eq_12<|J @EG.eq_13<|J @EG.eq_14<|J @Kz.eq_1<|J @Kz.eq_2<|J @T6.eq_1<|J @T6.eq_2<|J @Ep.eq_1<|@Ep.eq_2
def VC27:=J @Qm.eq_1<|J @Qm.eq_2<|J @GZ.eq_1<|J @GZ.eq_2<|J @VT.eq_1<|J @VT.eq_2<|J @OL.eq_1<|J @OL.eq_2<|J @EP.eq_1<|J @EP.eq_2<|J @EP.eq_3<|J @Mu.eq_1<|J @Mu.eq_2<|J @Mu.eq_3<|J @Mt.eq_1<|J @Mt.eq_2<|J @Mt.eq_3<|J @HQ.eq_1<|J @HQ.eq_2<|J @Sv.eq_1<|J @Hm.eq_1<|J @Hm.eq_2<|J @Hm.eq_3<|J @Hm.eq_4<|J @Hm.eq_5<|J @Hm.eq_6<|J @Hm.eq_7<|J @KH.eq_1<|J @KH.eq_2<|@AV.fzA.eq_1
def VC28:=J @AV.fzA.eq_2<|J @AV.fzA.eq_3<|J @AV.fzA.eq_4<|J @AV.fzA.eq_5<|J @AV.fzA.eq_6<|J @AV.fzA.eq_7<|J @AV.fzA.eq_8<|J @AV.fzA.eq_9<|J @AV.fzA.eq_10<|J @AV.fzA.eq_11<|J @AV.fzA.eq_12<|J @DE.eq_1<|J @DE.eq_2<|J @DF.eq_1<|J @DF.eq_2<|J @Ad.fzA.eq_1<|J @Ad.fzA.eq_2<|J @Ad.fzA.eq_3<|J @Ad.fzA.eq_4<|J @Ad.fzA.eq_5<|J @Ad.fzA.eq_6<|J @Ad.fzA.eq_7<|J @HS.eq_1<|J @HS.eq_2<|J @HR.eq_1<|J @HR.eq_2<|J @Sy.eq_1<|J @Ms.eq_1<|J @Ms.eq_2<|@Ms.eq_3
def VC29:=J @Dc.eq_1<|J @Dc.eq_2<|J @Dc.eq_3<|J @Dc.eq_4<|J @Dc.eq_5<|J @Dc.eq_6<|J @Dc.eq_7<|J @Dc.eq_8<|J @Dc.eq_9<|J @KK.fit.eq_1<|J @KK.fit.eq_2<|J @KK.fit.eq_3<|J @B2.eq_1<|J @B2.eq_2<|J @AV.bel.eq_1<|J @AV.bel.eq_2<|J @AV.bel.eq_3<|J @AV.bel.eq_4<|J @AV.bel.eq_5<|J @AV.bel.eq_6<|J @AV.bel.eq_7<|J @AV.bel.eq_8<|J @AV.bel.eq_9<|J @AV.bel.eq_10<|J @AV.bel.eq_11<|J @AV.bel.eq_12<|J @Aq.eq_1<|J @Aq.eq_2<|J @AV.nms.eq_1<|@AV.nms.eq_2
def VC30:=J @AV.nms.eq_3<|J @AV.nms.eq_4<|J @AV.nms.eq_5<|J @AV.nms.eq_6<|J @AV.nms.eq_7<|J @AV.nms.eq_8<|J @AV.nms.eq_9<|J @AV.nms.eq_10<|J @AV.nms.eq_11<|J @AV.nms.eq_12<|J @AH.eq_1<|J @AH.eq_2<|J @B7.eq_1<|J @B7.eq_2<|J @Ad.nms.eq_1<|J @Ad.nms.eq_2<|J @Ad.nms.eq_3<|J @Ad.nms.eq_4<|J @Ad.nms.eq_5<|J @Ad.nms.eq_6<|J @Ad.nms.eq_7<|J @AV.ren.eq_1<|J @AV.ren.eq_2<|J @AV.ren.eq_3<|J @AV.ren.eq_4<|J @AV.ren.eq_5<|J @AV.ren.eq_6<|J @AV.ren.eq_7<|J @AV.ren.eq_8<|@AV.ren.eq_9
def VC31:=J @AV.ren.eq_10<|J @AV.ren.eq_11<|J @AV.ren.eq_12<|J @AL.eq_1<|J @AL.eq_2<|J @Ad.ren.eq_1<|J @Ad.ren.eq_2<|J @Ad.ren.eq_3<|J @Ad.ren.eq_4<|J @Ad.ren.eq_5<|J @Ad.ren.eq_6<|J @Ad.ren.eq_7<|J @A7.eq_1<|J @A7.eq_2<|J @Qg.eq_1<|J @Qg.eq_2<|J @Xg.eq_1<|J @Xb.eq_1<|J @nH.eq_1<|J @nH.eq_2<|J @iV.eq_1<|J @iV.eq_2<|J @iV.eq_3<|J @Jc.eq_1<|J @kp.eq_1<|J @kp.eq_2<|J @Ek.eq_1<|J @Ek.eq_2<|J @Be.eq_1<|@Be.eq_2
def VC32:=J @Be.eq_3<|J @Be.eq_4<|J @Be.eq_5<|J @Be.eq_6<|J @Be.eq_7<|J @Be.eq_8<|J @Be.eq_9<|J @Be.eq_10<|J @Be.eq_11<|J @Be.eq_12<|J @Be.eq_13<|J @Be.eq_14<|J @L8.eq_1<|J @IN.eq_1<|J @IN.eq_2<|J @Ke.eq_1<|J @Ke.eq_2<|J @Di.eq_1<|J @entry.eq_1<|J @entry.eq_2<|J @Yf.eq_1<|J @Yf.eq_2<|J @HT.eq_1<|J @C5.eq_1<|J @C5.eq_2<|J @C5.eq_3<|J @C5.eq_4<|J @C5.eq_5<|J @C5.eq_6<|@C5.eq_7
def VC33:=J @IP.eq_1<|J @IP.eq_2<|J @IP.eq_3<|J @klE.eq_1<|J @klE.eq_2<|J @Ji.eq_1<|J @Ji.eq_2<|J @exE.eq_1<|J @exE.eq_2<|J @exE.eq_3<|J @Jh.eq_1<|J @Jh.eq_2<|J @Rw.eq_1<|J @Rw.eq_2<|J @Rw.eq_3<|J @YL.eq_1<|J @YL.eq_2<|J @XM.eq_1<|J @XM.eq_2<|J @Jm.eq_1<|J @Jm.eq_2<|J @Jm.eq_3<|J @bN.eq_1<|J @MQ.eq_1<|J @MQ.eq_2<|J @Uw.eq_1<|J @Po.eq_1<|J @Po.eq_2<|J @Po.eq_3<|@K2.eq_1
def VC34:=J @wP.eq_1<|J @wP.eq_2<|J @wO.eq_1<|J @sg.eq_1<|J @AY.eq_1<|J @AY.eq_2<|J @Q3.eq_1<|J @Q3.eq_2<|J @Dt.eq_1<|J @Dt.eq_2<|J @Dt.eq_3<|J @D7.eq_1<|J @D7.eq_2<|J @D7.eq_3<|J @BJ.eq_1<|J @BJ.eq_2<|J @BJ.eq_3<|J @Qw.eq_1<|J @Qw.eq_2<|J @Qw.eq_3<|J @Qw.eq_4<|J @Qw.eq_5<|J @Qw.eq_6<|J @Qw.eq_7<|J @Qw.eq_8<|J @Qv.eq_1<|J @Qv.eq_2<|J @Qv.eq_3<|J @Qv.eq_4<|@Qv.eq_5
def VC35:=J @Qv.eq_6<|J @Qv.eq_7<|J @Qv.eq_8<|J @nC.eq_1<|J @nC.eq_2<|J @Er.eq_1<|J @Er.eq_2<|J @Er.eq_3<|J @Er.eq_4<|J @Er.eq_5<|J @Er.eq_6<|J @Er.eq_7<|J @Er.eq_8<|J @Er.eq_9<|J @Er.eq_10<|J @Er.eq_11<|J @Er.eq_12<|J @Sz.eq_1<|J @Sz.eq_2<|J @bI.eq_1<|J @bI.eq_2<|J @FX.eq_1<|J @FX.eq_2<|J @FX.eq_3<|J @FX.eq_4<|J @FX.eq_5<|J @FX.eq_6<|J @FX.eq_7<|J @FX.eq_8<|@FX.eq_9
def VC36:=J @FX.eq_10<|J @FX.eq_11<|J @FX.eq_12<|J @FX.eq_13<|J @FX.eq_14<|J @FX.eq_15<|J @FX.eq_16<|J @FX.eq_17<|J @pkC.eq_1<|J @pkC.eq_2<|J @TW.eq_1<|J @TW.eq_2<|J @TW.eq_3<|J @TW.eq_4<|J @TW.eq_5<|J @TW.eq_6<|J @TW.eq_7<|J @TW.eq_8<|J @JG.eq_1<|J @JG.eq_2<|J @JG.eq_3<|J @JG.eq_4<|J @JG.eq_5<|J @JG.eq_6<|J @JG.eq_7<|J @JG.eq_8<|J @JG.eq_9<|J @JG.eq_10<|J @JG.eq_11<|@JG.eq_12
def VC37:=J @fI.eq_1<|J @fI.eq_2<|J @fI.eq_3<|J @KI.eq_1<|J @KI.eq_2<|J @Eo.eq_1<|J @Eo.eq_2<|J @Su.eq_1<|J @Su.eq_2<|J @Z0.eq_1<|J @Z0.eq_2<|J @Ee.eq_1<|J @EL.eq_1<|J @EL.eq_2<|J @EL.eq_3<|J @EL.eq_4<|J @EL.eq_5<|J @EL.eq_6<|J @EL.eq_7<|J @EL.eq_8<|J @EL.eq_9<|J @EL.eq_10<|J @EL.eq_11<|J @EL.eq_12<|J @MC.eq_1<|J @Cl.eq_1<|J @Ao.eq_1<|J @IY.eq_1<|J @Sf.eq_1<|@Sf.eq_2
def VC38:=J @EY.eq_1<|J @EY.eq_2<|J @HZ.eq_1<|J @HZ.eq_2<|J @MO.eq_1<|J @MO.eq_2<|J @bM.eq_1<|J @MN.eq_1<|J @MN.eq_2<|J @HY.eq_1<|J @NC.eq_1<|J @NC.eq_2<|J @NC.eq_3<|J @Fe.eq_1<|J @Fe.eq_2<|J @Fe.eq_3<|J @CO.eq_1<|J @CO.eq_2<|J @BO.eq_1<|J @BO.eq_2<|J @Ix.eq_1<|J @eP.eq_1<|J @eP.eq_2<|J @Xj.eq_1<|J @Xj.eq_2<|J @VU.eq_1<|J @VU.eq_2<|J @U9.eq_1<|J @U9.eq_2<|@iJ.eq_1
def VC39:=J @nB.eq_1<|J @nB.eq_2<|J @IU.eq_1<|J @IU.eq_2<|J @St.eq_1<|J @St.eq_2<|J @St.eq_3<|J @K5.eq_1<|J @K5.eq_2<|J @OF.eq_1<|J @OF.eq_2<|J @OF.eq_3<|J @OF.eq_4<|J @MP.eq_1<|J @MP.eq_2<|J @KP.eq_1<|J @aA.eq_1<|J @aA.eq_2<|J @aA.eq_3<|J @Kl.eq_1<|J @Kl.eq_2<|J @R8.eq_1<|J @ZU.eq_1<|J @ZU.eq_2<|J @R7.eq_1<|J @R7.eq_2<|J @R7.eq_3<|J @bk.eq_1<|J @bk.eq_2<|@bk.eq_3
def VC40:=J @bk.eq_4<|J @bk.eq_5<|J @bk.eq_6<|J @bk.eq_7<|J @bk.eq_8<|J @bk.eq_9<|J @bk.eq_10<|J @bk.eq_11<|J @bk.eq_12<|J @bk.eq_13<|J @YA.eq_1<|J @ES.eq_1<|J @E7.eq_1<|J @E7.eq_2<|J @E7.eq_3<|J @E7.eq_4<|J @E7.eq_5<|J @E7.eq_6<|J @E7.eq_7<|J @E7.eq_8<|J @E7.eq_9<|J @E7.eq_10<|J @E7.eq_11<|J @E7.eq_12<|J @I1.eq_1<|J @I1.eq_2<|J @I1.eq_3<|J @CB.eq_1<|J @CB.eq_2<|@WK.eq_1
def VC41:=J @WK.eq_2<|J @Bs.eq_1<|J @XA<|J @XB<|J @XC<|J @XD<|J @Sa<|J @Sb<|J @Sc<|J @Sd<|J @Qabq<|J @O8<|J @RZ<|J @XH<|J @XG<|J @XE<|J @iC<|J @jG<|J @Y0<|J @jH<|J @jF<|J @jB<|J @Yy<|J @jE<|J @jA<|J @jD<|J @jC<|J @xL<|J @xM<|@YO
def VC42:=J @Pv<|J @YQ<|J @UA<|J @jU<|J @UC<|J @Qs8<|J @YN<|J @UI<|J @Qyd<|J @UB<|J @YR<|J @Qaa9<|J @Qyi<|J @Qaa8<|J @Qvy<|J @Qv2<|J @Qvr<|J @UE<|J @Pw<|J @Qwt<|J @Qabt<|J @YM<|J @UH<|J @UG<|J @YP<|J @UD<|J @Qyj<|J @Qmy<|J @UF<|@Qs9
end Go.Ae
