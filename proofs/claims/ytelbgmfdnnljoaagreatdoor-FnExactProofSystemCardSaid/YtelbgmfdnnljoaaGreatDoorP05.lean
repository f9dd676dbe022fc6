/- Lemmas. Conditions: none. -/
import Derived.Test.YtelbgmfdnnljoaaGreatDoorP04
set_option linter.all false
set_option maxHeartbeats 8000000
set_option maxRecDepth 100000
namespace Go.Ae
def WO(ks:List KK)(ds:List D):KT.fit ⟨true,ks⟩ (.agg ds)=B3 ks ds:=rfl
def WP(ks:List KK)(k:IntKind)(n:Int):KT.fit ⟨false,ks⟩ (.int k n)=B3 ks [.int k n]:=rfl
def WQ(ks:List KK)(s:ByteArray):KT.fit ⟨false,ks⟩ (.str s)=B3 ks [.str s]:=rfl
def WR(ks:List KK)(s:Bool):KT.fit ⟨false,ks⟩ (.bool s)=B3 ks [.bool s]:=rfl
def R2:CX []= .tup []:=rfl
def R3(x y:AV):CX [x,y]= .tup [x,y]:=rfl
def R4(x y z:AV):CX [x,y,z]= .tup [x,y,z]:=rfl
def R5(x y z w:AV):CX [x,y,z,w]= .tup [x,y,z,w]:=rfl
def Qabq(t:Option Nat)(z:Bool)(s:Az)(Kdo Kskip:Az->Prop)(b:Bool):Wd t z s Kdo Kskip (.im (.bool b))=if b=z then Kdo (s.put t (.im (.bool z))) else Kskip (s.put t (.im (.bool (!z)))):=by
 cases b<;>cases z<;>simp[Wd]
def Oi(A B:Ci->Az->Prop)(Q:Ci)(s:Az)(b:Bool):qA A B Q s (.im (.bool b))=if b=true then A Q s else B Q s:=by
 cases b<;>simp[qA]
def R1(c:Bool)(K:Ah)(a b:AV):Mt c K a b=if c=true then K a {} else K b {}:=by
 cases c<;>simp[Mt]
def WU(m:Nat)(x:AV)(r:List (Nat×AV))(n:Nat):A8 ((m,x)::r) n=if m=n then x else A8 r n:=by
 by_cases h:m=n
 .subst h;simp[A8]
 .have:(m==n)=false:=by simpa using h
  simp[A8,this,h]
def WT(m:Nat)(x:Am)(r:Ao)(n:Nat):hget ((m,x)::r) n=if m=n then some x else hget r n:=by
 by_cases h:m=n
 .subst h;simp[hget]
 .have:(m==n)=false:=by simpa using h
  simp[hget,this,h]
def WS(m:Nat)(x:Am)(r:Ao)(ks:List Nat):Ba ((m,x)::r) ks=if ks.contains m=true then Ba r ks else (m,x)::Ba r ks:=by
 cases h:ks.contains m<;>simp only[Ba,h]<;>simp
def eF(cl:List (List Nat))(j:Nat)(use touch z:List Nat)(f:Fp):jU cl j use touch z f=if (Jz (use++touch) f.touch && (Jz touch f.use && Gs f.nx f.cnt z))=true then true else E0 cl f.i j:=by
 unfold jU;cases (Jz (use++touch) f.touch && (Jz touch f.use && Gs f.nx f.cnt z))<;>rfl
def fB(k:IntKind)(n:Int):FH (.int k n)=0:=rfl
def X9(b:Bool):FH (.bool b)=0:=rfl
def fC(s:ByteArray):FH (.string s)=0:=rfl
def fA(cs:Array Value):FH (.agg cs)=0:=rfl
def eW(k:IntKind)(n:Int):Qu (.int k n)=false:=rfl
def X7(b:Bool):Qu (.bool b)=false:=rfl
def eZ(s:ByteArray):Qu (.string s)=false:=rfl
def eV(cs:Array Value):Qu (.agg cs)=false:=rfl
def eY(a:Option Addr):Qu (.pointer a)=false:=rfl
def eX(a:Option Nat):Qu (.map a)=false:=rfl
def tD:Qu .nilFunc=false:=rfl
def tE:Qu .nilIface=false:=rfl
section
variable (P:Program)(V:CT)(tm:List (Nat×AV))(h:Nat->Option Am)(nx:Nat)(ty:TypeId)(K:Ah)
def XS(x:Operand):DA P V tm h nx ty K (.move x)=step P V true tm h nx ty K (.move x):=rfl
def OR(x:Operand):DA P V tm h nx ty K (.assign x)=step P V true tm h nx ty K (.assign x):=rfl
def XU(c:Operand)(a:Operand)(b:Operand):DA P V tm h nx ty K (.pick c a b)=step P V true tm h nx ty K (.pick c a b):=rfl
def TN(t:TypeId):DA P V tm h nx ty K (.alloc t)=step P V true tm h nx ty K (.alloc t):=rfl
def fS(t:TypeId)(x:Operand):DA P V tm h nx ty K (.box t x)=step P V true tm h nx ty K (.box t x):=rfl
def TP(t:TypeId)(ps:Array (Nat×Operand)):DA P V tm h nx ty K (.build t ps)=step P V true tm h nx ty K (.build t ps):=rfl
def Qs8(t:TypeId)(n:Nat)(ps:Array (Nat×Operand)):DA P V tm h nx ty K (.buildSlice t n ps)=step P V true tm h nx ty K (.buildSlice t n ps):=rfl
def XR(t:TypeId)(x:Operand):DA P V tm h nx ty K (.load t x)=step P V true tm h nx ty K (.load t x):=rfl
def TW(t:TypeId)(x:Operand)(v:Operand):DA P V tm h nx ty K (.store t x v)=step P V true tm h nx ty K (.store t x v):=rfl
def Qyd(x:Operand):DA P V tm h nx ty K (.nilCheck x)=step P V true tm h nx ty K (.nilCheck x):=rfl
def TO(op:BinOp)(t:TypeId)(x:Operand)(y:Operand)(u:TypeId):DA P V tm h nx ty K (.binOp op t x y u)=step P V true tm h nx ty K (.binOp op t x y u):=rfl
def XV(op:UnOp)(t:TypeId)(x:Operand):DA P V tm h nx ty K (.unOp op t x)=step P V true tm h nx ty K (.unOp op t x):=rfl
def Qaa9(s:TypeId)(t:TypeId)(x:Operand):DA P V tm h nx ty K (.convert s t x)=step P V true tm h nx ty K (.convert s t x):=rfl
def Qyi(f:Fn)(a:Array Operand)(c:Array Operand):DA P V tm h nx ty K (.makeFunc f a c)=step P V true tm h nx ty K (.makeFunc f a c):=rfl
def Qaa8(t:TypeId)(r:Option Operand):DA P V tm h nx ty K (.makeMap t r)=step P V true tm h nx ty K (.makeMap t r):=rfl
def Qvy(t:TypeId)(l:Operand)(c:Operand):DA P V tm h nx ty K (.makeSlice t l c)=step P V true tm h nx ty K (.makeSlice t l c):=rfl
def Qv2(t:TypeId)(x:Operand)(f:Nat):DA P V tm h nx ty K (.fieldAddr t x f)=step P V true tm h nx ty K (.fieldAddr t x f):=rfl
def Qvr(t:TypeId)(x:Operand)(i:Operand):DA P V tm h nx ty K (.indexAddr t x i)=step P V true tm h nx ty K (.indexAddr t x i):=rfl
def TS(t:TypeId)(x:Operand)(i:Operand):DA P V tm h nx ty K (.index t x i)=step P V true tm h nx ty K (.index t x i):=rfl
def OT(t:TypeId)(m:Operand)(k:Operand)(ok:Bool):DA P V tm h nx ty K (.lookup t m k ok)=step P V true tm h nx ty K (.lookup t m k ok):=rfl
def Qwt(t:TypeId)(m:Operand)(k:Operand)(v:Operand):DA P V tm h nx ty K (.mapUpdate t m k v)=step P V true tm h nx ty K (.mapUpdate t m k v):=rfl
def OS(t:TypeId)(m:Operand)(k:Operand)(v:Operand):DA P V tm h nx ty K (.insert t m k v)=step P V true tm h nx ty K (.insert t m k v):=rfl
def Qabt(x:Operand)(i:Nat):DA P V tm h nx ty K (.extract x i)=step P V true tm h nx ty K (.extract x i):=rfl
def TR(t:TypeId)(x:Operand)(i:Nat):DA P V tm h nx ty K (.field t x i)=step P V true tm h nx ty K (.field t x i):=rfl
def XQ(c:Call):DA P V tm h nx ty K (.call c)=step P V true tm h nx ty K (.call c):=rfl
def TV(t:TypeId)(x:Operand)(lo:Option Operand)(z:Option Operand)(G:Option Operand):DA P V tm h nx ty K (.slice t x lo z G)=step P V true tm h nx ty K (.slice t x lo z G):=rfl
def TU(t:TypeId)(x:Operand):DA P V tm h nx ty K (.range t x)=step P V true tm h nx ty K (.range t x):=rfl
def XT(x:Operand)(b:Bool):DA P V tm h nx ty K (.next x b)=step P V true tm h nx ty K (.next x b):=rfl
def TQ(x:Operand):DA P V tm h nx ty K (.entry x)=step P V true tm h nx ty K (.entry x):=rfl
def Qyj(t:TypeId)(x:Operand):DA P V tm h nx ty K (.makeChan t x)=step P V true tm h nx ty K (.makeChan t x):=rfl
def Qmy(t:TypeId)(x:Operand):DA P V tm h nx ty K (.makeInterface t x)=step P V true tm h nx ty K (.makeInterface t x):=rfl
def TT(x:Operand):DA P V tm h nx ty K (.panic x)=step P V true tm h nx ty K (.panic x):=rfl
def Qs9(x:Operand)(t:TypeId)(u:TypeId)(ok:Bool):DA P V tm h nx ty K (.typeAssert x t u ok)=step P V true tm h nx ty K (.typeAssert x t u ok):=rfl
end
def J{a b:Prop}(x:a)(y:b):a/\b:=⟨x,y⟩
def VC0:=J @A8.eq_1<|J @hget.eq_1<|J @Ba.eq_1<|J @Az.put.eq_1<|J @Az.put.eq_2<|J @Az.app_nr<|J @kD.eq_1<|J @kD.eq_2<|J @kD.eq_3<|J @kD.eq_4<|J @kD.eq_5<|J @kD.eq_6<|J @kD.eq_7<|J @kD.eq_8<|J @kD.eq_9<|J @Ap.eq_1<|J @Ap.eq_2<|J @Ap.eq_3<|J @Ap.eq_4<|J @D.cells.eq_1<|J @D.cells.eq_2<|J @D.cells.eq_3<|J @D.cells.eq_4<|J @D.cells.eq_5<|J @D.cells.eq_6<|J @D.cells.eq_7<|J @D.cells.eq_8<|J @D.cells.eq_9<|J @D.cells.eq_10<|@D.cells.eq_11
def VC1:=J @D.cells.eq_12<|J @D.cells.eq_13<|J @D.cells.eq_14<|J @D.cells.eq_15<|J @D.cells.eq_16<|J @D.cells.eq_17<|J @AV.cells.eq_1<|J @AV.cells.eq_2<|J @AV.cells.eq_3<|J @AV.cells.eq_4<|J @AV.cells.eq_5<|J @AV.cells.eq_6<|J @AV.cells.eq_7<|J @AV.cells.eq_8<|J @AV.cells.eq_9<|J @AV.cells.eq_10<|J @AV.cells.eq_11<|J @AV.cells.eq_12<|J @D.one.eq_1<|J @D.one.eq_2<|J @D.one.eq_3<|J @D.one.eq_4<|J @D.one.eq_5<|J @D.one.eq_6<|J @D.one.eq_7<|J @D.one.eq_8<|J @D.one.eq_9<|J @D.one.eq_10<|J @D.one.eq_11<|@D.one.eq_12
def VC2:=J @D.one.eq_13<|J @D.one.eq_14<|J @D.one.eq_15<|J @D.one.eq_16<|J @D.one.eq_17<|J @AV.one.eq_1<|J @AV.one.eq_2<|J @AV.one.eq_3<|J @AV.one.eq_4<|J @AV.one.eq_5<|J @AV.one.eq_6<|J @AV.one.eq_7<|J @AV.one.eq_8<|J @AV.one.eq_9<|J @AV.one.eq_10<|J @AV.one.eq_11<|J @AV.one.eq_12<|J @Q7.eq_1<|J @Q7.eq_2<|J @AV.asD.eq_1<|J @AV.asD.eq_2<|J @AV.asD.eq_3<|J @AV.asD.eq_4<|J @AV.asD.eq_5<|J @AV.asD.eq_6<|J @AV.asD.eq_7<|J @AV.asD.eq_8<|J @AV.asD.eq_9<|J @AV.asD.eq_10<|J @AV.asD.eq_11<|@AV.asD.eq_12
def VC3:=J @NB.eq_1<|J @NB.eq_2<|J @NB.eq_3<|J @Ds.eq_1<|J @Ds.eq_2<|J @X1.eq_1<|J @X1.eq_2<|J @zQ.eq_1<|J @zQ.eq_2<|J @jZ.eq_1<|J @jZ.eq_2<|J @eQ.eq_1<|J @Z4.eq_1<|J @BW.eq_1<|J @D.beq.eq_1<|J @D.beq.eq_2<|J @D.beq.eq_3<|J @D.beq.eq_4<|J @D.beql.eq_1<|J @D.beql.eq_2<|J @lk.eq_1<|J @lk.eq_2<|J @Ek.eq_1<|J @Ek.eq_2<|J @L2.eq_1<|J @L2.eq_2<|J @cS.eq_1<|J @qL.eq_1<|J @IS.eq_1<|@IS.eq_2
def VC4:=J @IR.eq_1<|J @IR.eq_2<|J @Wu.eq_1<|J @Wu.eq_2<|J @Wu.eq_3<|J @Wu.eq_4<|J @Xs.eq_1<|J @Xs.eq_2<|J @Qxz.eq_1<|J @Qyo.eq_1<|J @TZ.eq_1<|J @Jg.eq_1<|J @Jg.eq_2<|J @nU.eq_1<|J @nU.eq_2<|J @wW.eq_1<|J @QP.eq_1<|J @QP.eq_2<|J @K0.eq_1<|J @K0.eq_2<|J @K0.eq_3<|J @WX.eq_1<|J @WX.eq_2<|J @faK.eq_1<|J @uN.eq_1<|J @sV.eq_1<|J @LK.eq_1<|J @LK.eq_2<|J @Sc.eq_1<|@Sb.eq_1
def VC5:=J @Sb.eq_2<|J @Sb.eq_3<|J @LJ.eq_1<|J @LJ.eq_2<|J @Bh.eq_1<|J @Bh.eq_2<|J @sQ.eq_1<|J @sQ.eq_2<|J @Qjp.eq_1<|J @Sl.eq_1<|J @kCh.eq_1<|J @zS.eq_1<|J @zS.eq_2<|J @Qxc.eq_1<|J @GF.eq_1<|J @GF.eq_2<|J @GF.eq_3<|J @GF.eq_4<|J @GF.eq_5<|J @GF.eq_6<|J @GF.eq_7<|J @GF.eq_8<|J @GF.eq_9<|J @GF.eq_10<|J @GF.eq_11<|J @GF.eq_12<|J @GF.eq_13<|J @GF.eq_14<|J @GF.eq_15<|J @GF.eq_16<|@GF.eq_17
def VC6:=J @I5.eq_1<|J @I5.eq_2<|J @I5.eq_3<|J @I5.eq_4<|J @I5.eq_5<|J @I5.eq_6<|J @I5.eq_7<|J @I5.eq_8<|J @I5.eq_9<|J @I5.eq_10<|J @I5.eq_11<|J @I5.eq_12<|J @I5.eq_13<|J @I5.eq_14<|J @Zs.eq_1<|J @R8.eq_1<|J @pY.eq_1<|J @pY.eq_2<|J @pY.eq_3<|J @pY.eq_4<|J @V5.eq_1<|J @V5.eq_2<|J @V5.eq_3<|J @Wn.eq_1<|J @Wn.eq_2<|J @Wn.eq_3<|J @Nu.eq_1<|J @Nu.eq_2<|J @Nu.eq_3<|@Jj.eq_1
def VC7:=J @Jj.eq_2<|J @MJ.eq_1<|J @MJ.eq_2<|J @pJ.eq_1<|J @pJ.eq_2<|J @pG.eq_1<|J @pG.eq_2<|J @YP.eq_1<|J @YP.eq_2<|J @YP.eq_3<|J @cX.eq_1<|J @cX.eq_2<|J @cX.eq_3<|J @cX.eq_4<|J @Yk.eq_1<|J @Yk.eq_2<|J @YW.eq_1<|J @YW.eq_2<|J @Hy.eq_1<|J @Hy.eq_2<|J @Hy.eq_3<|J @Jc.eq_1<|J @Mv.eq_1<|J @Nn.eq_1<|J @Nn.eq_2<|J @QV.eq_1<|J @rZ.eq_1<|J @rZ.eq_2<|J @xP.eq_1<|@Ia.eq_1
def VC8:=J @Ia.eq_2<|J @BY.eq_1<|J @BY.eq_2<|J @IF.eq_1<|J @IF.eq_2<|J @Lu.eq_1<|J @Lu.eq_2<|J @bsE.eq_1<|J @bsK.eq_1<|J @uF.eq_1<|J @zV.eq_1<|J @msK.eq_1<|J @uO.eq_1<|J @YS.eq_1<|J @YS.eq_2<|J @CP.eq_1<|J @CP.eq_2<|J @CP.eq_3<|J @Bi.eq_1<|J @Bo.eq_1<|J @Bo.eq_2<|J @Src.okOne.eq_1<|J @Src.okOne.eq_2<|J @Src.okOne.eq_3<|J @Nk.eq_1<|J @Nk.eq_2<|J @Nk.eq_3<|J @jS.eq_1<|J @jS.eq_2<|J @jS.eq_3<|@jR.eq_1
def VC9:=J @jR.eq_2<|J @jR.eq_3<|J @ID.eq_1<|J @ID.eq_2<|J @QR.eq_1<|J @QR.eq_2<|J @apE.eq_1<|J @apK.eq_1<|J @Qsl.eq_1<|J @FF.eq_1<|J @Qxr.eq_1<|J @Qxr.eq_2<|J @LW.eq_1<|J @eO.eq_1<|J @eO.eq_2<|J @cW.eq_1<|J @cW.eq_2<|J @cW.eq_3<|J @Sr.eq_1<|J @qF.eq_1<|J @qF.eq_2<|J @qF.eq_3<|J @Fk.eq_1<|J @Fk.eq_2<|J @Fk.eq_3<|J @Fk.eq_4<|J @Fk.eq_5<|J @Fk.eq_6<|J @Fk.eq_7<|@Fk.eq_8
def VC10:=J @Fk.eq_9<|J @dC.eq_1<|J @xW.eq_1<|J @IP.eq_1<|J @Sx.eq_1<|J @dD.eq_1<|J @dD.eq_2<|J @dD.eq_3<|J @Xy.eq_1<|J @Xy.eq_2<|J @luE.eq_1<|J @luK.eq_1<|J @wI.eq_1<|J @SC.eq_1<|J @SB.eq_1<|J @SB.eq_2<|J @K6.eq_1<|J @K6.eq_2<|J @K6.eq_3<|J @K6.eq_4<|J @K6.eq_5<|J @K6.eq_6<|J @K6.eq_7<|J @K6.eq_8<|J @K6.eq_9<|J @zW.eq_1<|J @SD.eq_1<|J @gV.eq_1<|J @gV.eq_2<|@Ry.eq_1
def VC11:=J @WM.eq_1<|J @WM.eq_2<|J @Rx.eq_1<|J @Rx.eq_2<|J @Rx.eq_3<|J @Rx.eq_4<|J @Rx.eq_5<|J @Rx.eq_6<|J @Rx.eq_7<|J @Rx.eq_8<|J @Rx.eq_9<|J @wF.eq_1<|J @exA.eq_1<|J @exA.eq_2<|J @exD.eq_1<|J @exD.eq_2<|J @gX.eq_1<|J @gX.eq_2<|J @gY.eq_1<|J @gY.eq_2<|J @gY.eq_3<|J @gY.eq_4<|J @Qf.eq_1<|J @Qf.eq_2<|J @PW.eq_1<|J @PW.eq_2<|J @Qjk.eq_1<|J @Qg6.eq_1<|J @Qu.eq_1<|J @Wh.eq_1<|@Wh.eq_2
def VC12:=J @Wh.eq_3<|J @Wh.eq_4<|J @vE.eq_1<|J @vE.eq_2<|J @vW.eq_1<|J @yH.eq_1<|J @xO.eq_1<|J @Ur.eq_1<|J @FH.eq_1<|J @FH.eq_2<|J @FH.eq_3<|J @FH.eq_4<|J @Fl.eq_1<|J @Fl.eq_2<|J @Fl.eq_3<|J @Fl.eq_4<|J @iN.eq_1<|J @iN.eq_2<|J @Qi.eq_1<|J @Qi.eq_2<|J @VI.eq_1<|J @VI.eq_2<|J @Ut.eq_1<|J @VH.eq_1<|J @VH.eq_2<|J @MK.eq_1<|J @Za.eq_1<|J @Za.eq_2<|J @Za.eq_3<|@Za.eq_4
def VC13:=J @Za.eq_5<|J @KJ.eq_1<|J @pD.eq_1<|J @pD.eq_2<|J @Hq.eq_1<|J @Hq.eq_2<|J @GZ.eq_1<|J @Lv.eq_1<|J @Lv.eq_2<|J @Rg.eq_1<|J @dY.eq_1<|J @dZ.eq_1<|J @eA.eq_1<|J @IG.eq_1<|J @IG.eq_2<|J @TK.isStr.eq_1<|J @TK.isStr.eq_2<|J @TK.isStr.eq_3<|J @TK.isStr.eq_4<|J @TK.isStr.eq_5<|J @TK.isStr.eq_6<|J @TK.isStr.eq_7<|J @TK.isStr.eq_8<|J @TK.isStr.eq_9<|J @isStr.eq_1<|J @isStr.eq_2<|J @VC.eq_1<|J @ML.eq_1<|J @MM.eq_1<|@TK.isSl.eq_1
def VC14:=J @TK.isSl.eq_2<|J @TK.isSl.eq_3<|J @TK.isSl.eq_4<|J @TK.isSl.eq_5<|J @TK.isSl.eq_6<|J @TK.isSl.eq_7<|J @TK.isSl.eq_8<|J @TK.isSl.eq_9<|J @vP.eq_1<|J @Dx.eq_1<|J @Dx.eq_2<|J @GR.eq_1<|J @GR.eq_2<|J @Uc.eq_1<|J @Uc.eq_2<|J @Uc.eq_3<|J @Jh.eq_1<|J @Jh.eq_2<|J @Jh.eq_3<|J @pZ.eq_1<|J @pZ.eq_2<|J @Ji.eq_1<|J @Ji.eq_2<|J @Ji.eq_3<|J @Ud.eq_1<|J @tT.eq_1<|J @tT.eq_2<|J @fY.eq_1<|J @PV.eq_1<|J @PV.eq_2<|@PV.eq_3
def VC15:=J @PV.eq_4<|J @PV.eq_5<|J @PV.eq_6<|J @PV.eq_7<|J @PV.eq_8<|J @PV.eq_9<|J @xL.eq_1<|J @eC.eq_1<|J @eD.eq_1<|J @dA.eq_1<|J @dA.eq_2<|J @dA.eq_3<|J @Rt.eq_1<|J @Ru.eq_1<|J @Vg.eq_1<|J @Vg.eq_2<|J @cU.eq_1<|J @Rv.eq_1<|J @Rv.eq_2<|J @Rv.eq_3<|J @Rw.eq_1<|J @Rw.eq_2<|J @Rw.eq_3<|J @Rw.eq_4<|J @Rw.eq_5<|J @Rw.eq_6<|J @Rw.eq_7<|J @Rw.eq_8<|J @Rw.eq_9<|@yF.eq_1
def VC16:=J @WI.eq_1<|J @WI.eq_2<|J @Rl.eq_1<|J @Rl.eq_2<|J @Rl.eq_3<|J @Rl.eq_4<|J @Rl.eq_5<|J @Rl.eq_6<|J @Rl.eq_7<|J @Rl.eq_8<|J @Rl.eq_9<|J @xB.eq_1<|J @TE.eq_1<|J @rgD.eq_1<|J @zZ.eq_1<|J @zZ.eq_2<|J @TC.eq_1<|J @TC.eq_2<|J @TC.eq_3<|J @TC.eq_4<|J @TC.eq_5<|J @TC.eq_6<|J @TC.eq_7<|J @TC.eq_8<|J @TC.eq_9<|J @xJ.eq_1<|J @tF.eq_1<|J @SQ.eq_1<|J @V4.eq_1<|@fE.eq_1
def VC17:=J @fE.eq_2<|J @R6.eq_1<|J @xQ.eq_1<|J @zT.eq_1<|J @mcV.eq_1<|J @zU.eq_1<|J @zU.eq_2<|J @uR.eq_1<|J @Z2.eq_1<|J @Sw.eq_1<|J @Sw.eq_2<|J @fT.eq_1<|J @KN.eq_1<|J @fR.eq_1<|J @rvC.eq_1<|J @rvE.eq_1<|J @rvK.eq_1<|J @rvK.eq_2<|J @KM.eq_1<|J @R9.eq_1<|J @RA.eq_1<|J @RA.eq_2<|J @Nl.eq_1<|J @Nl.eq_2<|J @Ig.eq_1<|J @Ig.eq_2<|J @Ig.eq_3<|J @Ig.eq_4<|J @Ig.eq_5<|J @Ig.eq_6<|@Ig.eq_7
def VC18:=J @Ig.eq_8<|J @Ig.eq_9<|J @Ig.eq_10<|J @Ig.eq_11<|J @Ig.eq_12<|J @Ig.eq_13<|J @Ig.eq_14<|J @Ig.eq_15<|J @Ig.eq_16<|J @Ig.eq_17<|J @Fj.eq_1<|J @Fj.eq_2<|J @Fj.eq_3<|J @Fj.eq_4<|J @Fj.eq_5<|J @Fj.eq_6<|J @Fj.eq_7<|J @Fj.eq_8<|J @Fj.eq_9<|J @Fj.eq_10<|J @Fj.eq_11<|J @Fj.eq_12<|J @unS.eq_1<|J @Q6.eq_1<|J @Q6.eq_2<|J @Q6.eq_4<|J @Q6.eq_5<|J @Q6.eq_6<|J @Q6.eq_7<|@Q6.eq_8
def VC19:=J @Q6.eq_9<|J @Q6.eq_10<|J @Q6.eq_11<|J @xM.eq_1<|J @KI.eq_1<|J @KY.eq_1<|J @KY.eq_2<|J @KY.eq_3<|J @KY.eq_4<|J @KY.eq_5<|J @KY.eq_6<|J @KY.eq_7<|J @KY.eq_8<|J @KY.eq_9<|J @KY.eq_10<|J @KY.eq_11<|J @KY.eq_12<|J @Wa.eq_1<|J @Wa.eq_2<|J @Wa.eq_3<|J @Wa.eq_4<|J @Wa.eq_5<|J @Wa.eq_6<|J @Wa.eq_7<|J @oV.eq_1<|J @oV.eq_2<|J @oV.eq_3<|J @X2.eq_1<|J @X2.eq_2<|@S9.eq_1
def VC20:=J @S9.eq_2<|J @S9.eq_3<|J @S9.eq_4<|J @S9.eq_5<|J @S9.eq_6<|J @S9.eq_7<|J @S9.eq_8<|J @S9.eq_9<|J @vJ.eq_1<|J @D8.eq_1<|J @D8.eq_2<|J @J9.eq_1<|J @J9.eq_2<|J @wY.eq_1<|J @uG.eq_1<|J @wJ.eq_1<|J @Rq.eq_1<|J @Rq.eq_2<|J @Rp.eq_1<|J @Rp.eq_2<|J @Rp.eq_3<|J @Rp.eq_4<|J @Rp.eq_5<|J @Rp.eq_6<|J @Rp.eq_7<|J @Rp.eq_8<|J @HJ.eq_1<|J @HJ.eq_2<|J @HJ.eq_3<|J @HJ.eq_4<|@HJ.eq_5
def VC21:=J @HJ.eq_6<|J @HJ.eq_7<|J @HJ.eq_8<|J @HJ.eq_9<|J @HJ.eq_10<|J @HJ.eq_11<|J @HJ.eq_12<|J @HJ.eq_13<|J @Ro.eq_1<|J @Ro.eq_2<|J @Ro.eq_3<|J @Oe.eq_1<|J @Oe.eq_2<|J @hnm.eq_1<|J @hnm.eq_2<|J @yE.eq_1<|J @yE.eq_2<|J @Nr.eq_1<|J @Nr.eq_2<|J @Nr.eq_3<|J @Qm.eq_1<|J @Qm.eq_2<|J @Qk.eq_1<|J @Qk.eq_2<|J @aM.eq_1<|J @Ql.eq_1<|J @Ql.eq_2<|J @step.eq_1<|J @step.eq_2<|@step.eq_3
def VC22:=J @step.eq_4<|J @step.eq_5<|J @step.eq_6<|J @step.eq_7<|J @step.eq_8<|J @step.eq_9<|J @step.eq_10<|J @step.eq_11<|J @step.eq_12<|J @step.eq_13<|J @step.eq_14<|J @step.eq_15<|J @step.eq_16<|J @step.eq_17<|J @step.eq_18<|J @step.eq_19<|J @step.eq_20<|J @step.eq_21<|J @step.eq_22<|J @step.eq_23<|J @step.eq_24<|J @step.eq_25<|J @step.eq_26<|J @step.eq_27<|J @step.eq_28<|J @step.eq_29<|J @step.eq_30<|J @step.eq_31<|J @Wd.eq_2<|@Av.eq_1
def VC23:=J @Av.eq_2<|J @Av.eq_3<|J @Av.eq_4<|J @Av.eq_5<|J @Av.eq_6<|J @Av.eq_7<|J @Av.eq_8<|J @JO.eq_1<|J @Hi.eq_1<|J @Hi.eq_2<|J @Bv.ok_nr<|J @dB.eq_1<|J @dB.eq_2<|J @Hz.eq_1<|J @Hz.eq_2<|J @Ez.eq_1<|J @DA.eq_1<|J @DA.eq_2<|J @Jk.eq_1<|J @MI.eq_1<|J @Xi.eq_1<|J @Xi.eq_2<|J @tL.eq_1<|J @tL.eq_2<|J @ON.eq_1<|J @ON.eq_2<|J @KV.eq_1<|J @KV.eq_2<|J @IW.eq_1<|J @IW.eq_2<|@Jz.eq_1
def VC24:=J @Jz.eq_2<|J @Gs.eq_1<|J @Gs.eq_2<|J @Ik.eq_1<|J @Ik.eq_2<|J @Ik.eq_3<|J @Ik.eq_4<|J @Ik.eq_5<|J @Ik.eq_6<|J @D3.eq_1<|J @D3.eq_2<|J @D3.eq_3<|J @zR.eq_1<|J @Se.eq_1<|J @Se.eq_2<|J @GS.eq_1<|J @GS.eq_2<|J @ED.eq_1<|J @ED.eq_2<|J @E0.eq_1<|J @Iu.eq_1<|J @Iu.eq_2<|J @Bv.touch.eq_1<|J @Nz.eq_1<|J @MN.eq_1<|J @MH.eq_1<|J @Xh.eq_1<|J @Xh.eq_2<|J @tK.eq_1<|@tK.eq_2
def VC25:=J @Vv.eq_1<|J @Vv.eq_2<|J @MQ.eq_1<|J @MQ.eq_2<|J @MQ.eq_3<|J @IJ.eq_1<|J @IJ.eq_2<|J @iV.eq_1<|J @iV.eq_2<|J @iV.eq_3<|J @Gw.eq_1<|J @Gw.eq_2<|J @BZ.eq_1<|J @BZ.eq_2<|J @Cp.eq_1<|J @Cp.eq_2<|J @BB.eq_1<|J @BB.eq_2<|J @Az.good.eq_1<|J @pm.eq_1<|J @pm.eq_2<|J @eU.eq_1<|J @EO.eq_1<|J @EO.eq_2<|J @GO.eq_1<|J @GO.eq_2<|J @mt.eq_1<|J @mt.eq_2<|J @mt.eq_3<|@mt.eq_4
def VC26:=J @mt.eq_5<|J @mt.eq_6<|J @mt.eq_7<|J @mt.eq_8<|J @mt.eq_9<|J @mt.eq_10<|J @mt.eq_11<|J @mt.eq_13<|J @mt.eq_14<|J @Dp.eq_1<|J @Dp.eq_2<|J @Dp.eq_3<|J @Dp.eq_4<|J @FQ.eq_1<|J @FQ.eq_2<|J @FQ.eq_3<|J @FQ.eq_4<|J @DM.eq_1<|J @DM.eq_3<|J @DM.eq_4<|J @DM.eq_5<|J @DM.eq_6<|J @DM.eq_7<|J @DM.eq_8<|J @DM.eq_9<|J @DM.eq_10<|J @DM.eq_11<|J @DM.eq_12<|J @DM.eq_13<|J @DM.eq_14<|@DM.eq_15
def VC27:=J @DM.eq_16<|J @DM.eq_17<|J @DM.eq_18<|J @DM.eq_19<|J @DM.eq_20<|J @Kv.eq_1<|J @Kv.eq_2<|J @X5.eq_1<|J @X5.eq_2<|J @CE.eq_1<|J @CE.eq_2<|J @H4.eq_1<|J @H4.eq_2<|J @ES.eq_1<|J @ES.eq_2<|J @HO.eq_1<|J @HO.eq_2<|J @Es.eq_1<|J @Es.eq_2<|J @Cr.eq_1<|J @Cr.eq_2<|J @Cr.eq_3<|J @Mc.eq_1<|J @Mc.eq_2<|J @Mc.eq_3<|J @Mb.eq_1<|J @Mb.eq_2<|J @Mb.eq_3<|J @HK.eq_1<|@HK.eq_2
def VC28:=J @RI.eq_1<|J @GY.eq_1<|J @GY.eq_2<|J @GY.eq_3<|J @GY.eq_4<|J @GY.eq_5<|J @GY.eq_6<|J @GY.eq_7<|J @KD.eq_1<|J @KD.eq_2<|J @Jd.eq_1<|J @Jd.eq_2<|J @Fm.eq_1<|J @Fm.eq_2<|J @Fm.eq_3<|J @Fm.eq_4<|J @Fm.eq_5<|J @Fm.eq_6<|J @Fm.eq_7<|J @Fm.eq_8<|J @AV.fzA.eq_1<|J @AV.fzA.eq_2<|J @AV.fzA.eq_3<|J @AV.fzA.eq_4<|J @AV.fzA.eq_5<|J @AV.fzA.eq_6<|J @AV.fzA.eq_7<|J @AV.fzA.eq_8<|J @AV.fzA.eq_9<|@AV.fzA.eq_10
def VC29:=J @AV.fzA.eq_11<|J @AV.fzA.eq_12<|J @Dy.eq_1<|J @Dy.eq_2<|J @Dz.eq_1<|J @Dz.eq_2<|J @Ac.fzA.eq_1<|J @Ac.fzA.eq_2<|J @Ac.fzA.eq_3<|J @Ac.fzA.eq_4<|J @Ac.fzA.eq_5<|J @Ac.fzA.eq_6<|J @Ac.fzA.eq_7<|J @HN.eq_1<|J @HN.eq_2<|J @HL.eq_1<|J @HL.eq_2<|J @RN.eq_1<|J @Ma.eq_1<|J @Ma.eq_2<|J @Ma.eq_3<|J @CR.eq_1<|J @CR.eq_2<|J @CR.eq_3<|J @CR.eq_4<|J @CR.eq_5<|J @CR.eq_6<|J @CR.eq_7<|J @CR.eq_8<|J @CR.eq_9<|@KK.fit.eq_1
def VC30:=J @KK.fit.eq_2<|J @KK.fit.eq_3<|J @B3.eq_1<|J @B3.eq_2<|J @AV.bel.eq_1<|J @AV.bel.eq_2<|J @AV.bel.eq_3<|J @AV.bel.eq_4<|J @AV.bel.eq_5<|J @AV.bel.eq_6<|J @AV.bel.eq_7<|J @AV.bel.eq_8<|J @AV.bel.eq_9<|J @AV.bel.eq_10<|J @AV.bel.eq_11<|J @AV.bel.eq_12<|J @AD.eq_1<|J @AD.eq_2<|J @AV.nms.eq_1<|J @AV.nms.eq_2<|J @AV.nms.eq_3<|J @AV.nms.eq_4<|J @AV.nms.eq_5<|J @AV.nms.eq_6<|J @AV.nms.eq_7<|J @AV.nms.eq_8<|J @AV.nms.eq_9<|J @AV.nms.eq_10<|J @AV.nms.eq_11<|@AV.nms.eq_12
def VC31:=J @Aw.eq_1<|J @Aw.eq_2<|J @Bx.eq_1<|J @Bx.eq_2<|J @Ac.nms.eq_1<|J @Ac.nms.eq_2<|J @Ac.nms.eq_3<|J @Ac.nms.eq_4<|J @Ac.nms.eq_5<|J @Ac.nms.eq_6<|J @Ac.nms.eq_7<|J @AV.ren.eq_1<|J @AV.ren.eq_2<|J @AV.ren.eq_3<|J @AV.ren.eq_4<|J @AV.ren.eq_5<|J @AV.ren.eq_6<|J @AV.ren.eq_7<|J @AV.ren.eq_8<|J @AV.ren.eq_9<|J @AV.ren.eq_10<|J @AV.ren.eq_11<|J @AV.ren.eq_12<|J @AH.eq_1<|J @AH.eq_2<|J @Ac.ren.eq_1<|J @Ac.ren.eq_2<|J @Ac.ren.eq_3<|J @Ac.ren.eq_4<|@Ac.ren.eq_5
def VC32:=J @Ac.ren.eq_6<|J @Ac.ren.eq_7<|J @Aq.eq_1<|J @Aq.eq_2<|J @P7.eq_1<|J @P7.eq_2<|J @Ww.eq_1<|J @Wq.eq_1<|J @kA.eq_1<|J @kA.eq_2<|J @eP.eq_1<|J @eP.eq_2<|J @eP.eq_3<|J @IU.eq_1<|J @kp.eq_1<|J @kp.eq_2<|J @Ee.eq_1<|J @Ee.eq_2<|J @Bd.eq_1<|J @Bd.eq_2<|J @Bd.eq_3<|J @Bd.eq_4<|J @Bd.eq_5<|J @Bd.eq_6<|J @Bd.eq_7<|J @Bd.eq_8<|J @Bd.eq_9<|J @Bd.eq_10<|J @Bd.eq_11<|J @Bd.eq_12<|@Bd.eq_13
def VC33:=J @Bd.eq_14<|J @Lw.eq_1<|J @IH.eq_1<|J @IH.eq_2<|J @Ka.eq_1<|J @Ka.eq_2<|J @CX.eq_1<|J @entry.eq_1<|J @entry.eq_2<|J @Xm.eq_1<|J @Xm.eq_2<|J @HP.eq_1<|J @Cd.eq_1<|J @Cd.eq_2<|J @Cd.eq_3<|J @Cd.eq_4<|J @Cd.eq_5<|J @Cd.eq_6<|J @Cd.eq_7<|J @II.eq_1<|J @II.eq_2<|J @II.eq_3<|J @klE.eq_1<|J @klE.eq_2<|J @Ja.eq_1<|J @Ja.eq_2<|J @zP.eq_1<|J @zP.eq_2<|J @zP.eq_3<|@IZ.eq_1
def VC34:=J @IZ.eq_2<|J @QS.eq_1<|J @QS.eq_2<|J @QS.eq_3<|J @XP.eq_1<|J @XP.eq_2<|J @WW.eq_1<|J @WW.eq_2<|J @Je.eq_1<|J @Je.eq_2<|J @Je.eq_3<|J @ZC.eq_1<|J @M9.eq_1<|J @M9.eq_2<|J @T9.eq_1<|J @OM.eq_1<|J @OM.eq_2<|J @OM.eq_3<|J @Ky.eq_1<|J @sL.eq_1<|J @sL.eq_2<|J @sK.eq_1<|J @sg.eq_1<|J @AX.eq_1<|J @AX.eq_2<|J @tab.eq_1<|J @tab.eq_2<|J @CL.eq_1<|J @CL.eq_2<|@CL.eq_3
def VC35:=J @CJ.eq_1<|J @CJ.eq_2<|J @CJ.eq_3<|J @BH.eq_1<|J @BH.eq_2<|J @BH.eq_3<|J @PS.eq_1<|J @PS.eq_2<|J @PS.eq_3<|J @PS.eq_4<|J @PS.eq_5<|J @PS.eq_6<|J @PS.eq_7<|J @PS.eq_8<|J @PR.eq_1<|J @PR.eq_2<|J @PR.eq_3<|J @PR.eq_4<|J @PR.eq_5<|J @PR.eq_6<|J @PR.eq_7<|J @PR.eq_8<|J @jY.eq_1<|J @jY.eq_2<|J @Eg.eq_1<|J @Eg.eq_2<|J @Eg.eq_3<|J @Eg.eq_4<|J @Eg.eq_5<|J @Eg.eq_6<|@Eg.eq_7
def VC36:=J @Eg.eq_8<|J @Eg.eq_9<|J @Eg.eq_10<|J @Eg.eq_11<|J @Eg.eq_12<|J @RO.eq_1<|J @RO.eq_2<|J @Z8.eq_1<|J @Z8.eq_2<|J @F1.eq_1<|J @F1.eq_2<|J @F1.eq_3<|J @F1.eq_4<|J @F1.eq_5<|J @F1.eq_6<|J @F1.eq_7<|J @F1.eq_8<|J @F1.eq_9<|J @F1.eq_10<|J @F1.eq_11<|J @F1.eq_12<|J @F1.eq_13<|J @F1.eq_14<|J @F1.eq_15<|J @F1.eq_16<|J @F1.eq_17<|J @zX.eq_1<|J @zX.eq_2<|J @PU.eq_1<|@PU.eq_2
def VC37:=J @PU.eq_3<|J @PU.eq_4<|J @PU.eq_5<|J @PU.eq_6<|J @PU.eq_7<|J @PU.eq_8<|J @zY.eq_1<|J @zY.eq_2<|J @Tg.eq_1<|J @Tg.eq_2<|J @Tg.eq_3<|J @Tg.eq_4<|J @Tg.eq_5<|J @Tg.eq_6<|J @Tg.eq_7<|J @Tg.eq_8<|J @Im.eq_1<|J @Im.eq_2<|J @Im.eq_3<|J @Im.eq_4<|J @Im.eq_5<|J @Im.eq_6<|J @Im.eq_7<|J @Im.eq_8<|J @Im.eq_9<|J @Im.eq_10<|J @Im.eq_11<|J @Im.eq_12<|J @Wt.eq_1<|@Wt.eq_2
def VC38:=J @Wt.eq_3<|J @Io.eq_1<|J @Io.eq_2<|J @DE.eq_1<|J @DE.eq_2<|J @PP.eq_1<|J @PP.eq_2<|J @V1.eq_1<|J @V1.eq_2<|J @E4.eq_1<|J @EJ.eq_1<|J @EJ.eq_2<|J @EJ.eq_3<|J @EJ.eq_4<|J @EJ.eq_5<|J @EJ.eq_6<|J @EJ.eq_7<|J @EJ.eq_8<|J @EJ.eq_9<|J @EJ.eq_10<|J @EJ.eq_11<|J @EJ.eq_12<|J @Mw.eq_1<|J @B0.eq_1<|J @Aj.eq_1<|J @GU.eq_1<|J @R7.eq_1<|J @R7.eq_2<|J @E5.eq_1<|J @E5.eq_2<|@HT.eq_1
def VC39:=J @HT.eq_2<|J @M7.eq_1<|J @M7.eq_2<|J @ZB.eq_1<|J @M6.eq_1<|J @M6.eq_2<|J @HS.eq_1<|J @Nq.eq_1<|J @Nq.eq_2<|J @Nq.eq_3<|J @Br.eq_1<|J @Br.eq_2<|J @Br.eq_3<|J @D5.eq_1<|J @D5.eq_2<|J @BU.eq_1<|J @BU.eq_2<|J @IY.eq_1<|J @cF.eq_1<|J @cF.eq_2<|J @Zd.eq_1<|J @Zd.eq_2<|J @Vt.eq_1<|J @Vt.eq_2<|J @BJ.eq_1<|J @BJ.eq_2<|J @jX.eq_1<|J @jW.eq_1<|J @jW.eq_2<|@IL.eq_1
def VC40:=J @IL.eq_2<|J @RH.eq_1<|J @RH.eq_2<|J @RH.eq_3<|J @K1.eq_1<|J @K1.eq_2<|J @PQ.eq_1<|J @PQ.eq_2<|J @PQ.eq_3<|J @PQ.eq_4<|J @M8.eq_1<|J @M8.eq_2<|J @KG.eq_1<|J @Zc.eq_1<|J @Zc.eq_2<|J @Zc.eq_3<|J @ND.eq_1<|J @ND.eq_2<|J @Lp.eq_1<|J @YX.eq_1<|J @YX.eq_2<|J @NW.eq_1<|J @NW.eq_2<|J @NW.eq_3<|J @bk.eq_1<|J @bk.eq_2<|J @bk.eq_3<|J @bk.eq_4<|J @bk.eq_5<|@bk.eq_6
def VC41:=J @bk.eq_7<|J @bk.eq_8<|J @bk.eq_9<|J @bk.eq_10<|J @bk.eq_11<|J @bk.eq_12<|J @bk.eq_13<|J @Jb.eq_1<|J @DU.eq_1<|J @Lq.eq_1<|J @Lq.eq_2<|J @WD.eq_1<|J @DN.eq_1<|J @DN.eq_2<|J @DN.eq_3<|J @DN.eq_4<|J @DN.eq_5<|J @DN.eq_6<|J @DN.eq_7<|J @DN.eq_8<|J @DN.eq_9<|J @DN.eq_10<|J @DN.eq_11<|J @DN.eq_12<|J @FT.eq_1<|J @FT.eq_2<|J @FT.eq_3<|J @BR.eq_1<|J @BR.eq_2<|J @UQ.eq_1<|@UQ.eq_2
def VC42:=J @AQ.eq_1<|J @WO<|J @WP<|J @WQ<|J @WR<|J @R2<|J @R3<|J @R4<|J @R5<|J @Qabq<|J @Oi<|J @R1<|J @WU<|J @WT<|J @WS<|J @eF<|J @fB<|J @X9<|J @fC<|J @fA<|J @eW<|J @X7<|J @eZ<|J @eV<|J @eY<|J @eX<|J @tD<|J @tE<|J @XS<|@OR
def VC43:=J @XU<|J @TN<|J @fS<|J @TP<|J @Qs8<|J @XR<|J @TW<|J @Qyd<|J @TO<|J @XV<|J @Qaa9<|J @Qyi<|J @Qaa8<|J @Qvy<|J @Qv2<|J @Qvr<|J @TS<|J @OT<|J @Qwt<|J @OS<|J @Qabt<|J @TR<|J @XQ<|J @TV<|J @TU<|J @XT<|J @TQ<|J @Qyj<|J @Qmy<|J @TT<|@Qs9
end Go.Ae
