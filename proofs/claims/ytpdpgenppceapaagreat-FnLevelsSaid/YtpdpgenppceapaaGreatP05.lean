/- Lemmas. Conditions: none. -/
import Derived.Test.YtpdpgenppceapaaGreatP04
set_option linter.all false
set_option maxHeartbeats 8000000
set_option maxRecDepth 100000
namespace Go.Ae
def Zz(ks:List KK)(ds:List D):KT.fit ⟨true,ks⟩ (.agg ds)=BE ks ds:=rfl
def Z0(ks:List KK)(k:IntKind)(n:Int):KT.fit ⟨false,ks⟩ (.int k n)=BE ks [.int k n]:=rfl
def Z1(ks:List KK)(s:ByteArray):KT.fit ⟨false,ks⟩ (.str s)=BE ks [.str s]:=rfl
def Z2(ks:List KK)(s:Bool):KT.fit ⟨false,ks⟩ (.bool s)=BE ks [.bool s]:=rfl
def TQ:DE []= .tup []:=rfl
def TR(x y:AV):DE [x,y]= .tup [x,y]:=rfl
def TS(x y z:AV):DE [x,y,z]= .tup [x,y,z]:=rfl
def TT(x y z w:AV):DE [x,y,z,w]= .tup [x,y,z,w]:=rfl
def Qabq(t:Option Nat)(z:Bool)(s:A9)(Kdo Kskip:A9->Prop)(b:Bool):Y7 t z s Kdo Kskip (.im (.bool b))=if b=z then Kdo (s.put t (.im (.bool z))) else Kskip (s.put t (.im (.bool (!z)))):=by
 cases b<;>cases z<;>simp[Y7]
def PM(A B:CD->A9->Prop)(Q:CD)(s:A9)(b:Bool):zT A B Q s (.im (.bool b))=if b=true then A Q s else B Q s:=by
 cases b<;>simp[zT]
def TP(c:Bool)(K:Ai)(a b:AV):ND c K a b=if c=true then K a {} else K b {}:=by
 cases c<;>simp[ND]
def Z5(m:Nat)(x:AV)(r:List (Nat×AV))(n:Nat):AC ((m,x)::r) n=if m=n then x else AC r n:=by
 by_cases h:m=n
 .subst h;simp[AC]
 .have:(m==n)=false:=by simpa using h
  simp[AC,this,h]
def Z4(m:Nat)(x:Aq)(r:Au)(n:Nat):hget ((m,x)::r) n=if m=n then some x else hget r n:=by
 by_cases h:m=n
 .subst h;simp[hget]
 .have:(m==n)=false:=by simpa using h
  simp[hget,this,h]
def Z3(m:Nat)(x:Aq)(r:Au)(ks:List Nat):Cg ((m,x)::r) ks=if ks.contains m=true then Cg r ks else (m,x)::Cg r ks:=by
 cases h:ks.contains m<;>simp only[Cg,h]<;>simp
def mY(cl:List (List Nat))(j:Nat)(use touch z:List Nat)(f:Fp):sI cl j use touch z f=if (K3 (use++touch) f.touch && (K3 touch f.use && Hl f.nx f.cnt z))=true then true else Fm cl f.i j:=by
 unfold sI;cases (K3 (use++touch) f.touch && (K3 touch f.use && Hl f.nx f.cnt z))<;>rfl
def oG(k:IntKind)(n:Int):G2 (.int k n)=0:=rfl
def aP(b:Bool):G2 (.bool b)=0:=rfl
def oH(s:ByteArray):G2 (.string s)=0:=rfl
def oF(cs:Array Value):G2 (.agg cs)=0:=rfl
def oB(k:IntKind)(n:Int):Sx (.int k n)=false:=rfl
def aN(b:Bool):Sx (.bool b)=false:=rfl
def oE(s:ByteArray):Sx (.string s)=false:=rfl
def oA(cs:Array Value):Sx (.agg cs)=false:=rfl
def oD(a:Option Addr):Sx (.pointer a)=false:=rfl
def oC(a:Option Nat):Sx (.map a)=false:=rfl
def ns_nf:Sx .nilFunc=false:=rfl
def ns_ni:Sx .nilIface=false:=rfl
section
variable (P:Program)(V:D6)(tm:List (Nat×AV))(h:Nat->Option Aq)(nx:Nat)(ty:TypeId)(K:Ai)
def bI(x:Operand):Em P V tm h nx ty K (.move x)=step P V true tm h nx ty K (.move x):=rfl
def QE(x:Operand):Em P V tm h nx ty K (.assign x)=step P V true tm h nx ty K (.assign x):=rfl
def bK(c:Operand)(a:Operand)(b:Operand):Em P V tm h nx ty K (.pick c a b)=step P V true tm h nx ty K (.pick c a b):=rfl
def Wk(t:TypeId):Em P V tm h nx ty K (.alloc t)=step P V true tm h nx ty K (.alloc t):=rfl
def oW(t:TypeId)(x:Operand):Em P V tm h nx ty K (.box t x)=step P V true tm h nx ty K (.box t x):=rfl
def Wm(t:TypeId)(ps:Array (Nat×Operand)):Em P V tm h nx ty K (.build t ps)=step P V true tm h nx ty K (.build t ps):=rfl
def Qs8(t:TypeId)(n:Nat)(ps:Array (Nat×Operand)):Em P V tm h nx ty K (.buildSlice t n ps)=step P V true tm h nx ty K (.buildSlice t n ps):=rfl
def bH(t:TypeId)(x:Operand):Em P V tm h nx ty K (.load t x)=step P V true tm h nx ty K (.load t x):=rfl
def Wt(t:TypeId)(x:Operand)(v:Operand):Em P V tm h nx ty K (.store t x v)=step P V true tm h nx ty K (.store t x v):=rfl
def Qyd(x:Operand):Em P V tm h nx ty K (.nilCheck x)=step P V true tm h nx ty K (.nilCheck x):=rfl
def Wl(op:BinOp)(t:TypeId)(x:Operand)(y:Operand)(u:TypeId):Em P V tm h nx ty K (.binOp op t x y u)=step P V true tm h nx ty K (.binOp op t x y u):=rfl
def bL(op:UnOp)(t:TypeId)(x:Operand):Em P V tm h nx ty K (.unOp op t x)=step P V true tm h nx ty K (.unOp op t x):=rfl
def Qaa9(s:TypeId)(t:TypeId)(x:Operand):Em P V tm h nx ty K (.convert s t x)=step P V true tm h nx ty K (.convert s t x):=rfl
def Qyi(f:Fn)(a:Array Operand)(c:Array Operand):Em P V tm h nx ty K (.makeFunc f a c)=step P V true tm h nx ty K (.makeFunc f a c):=rfl
def Qaa8(t:TypeId)(r:Option Operand):Em P V tm h nx ty K (.makeMap t r)=step P V true tm h nx ty K (.makeMap t r):=rfl
def Qvy(t:TypeId)(l:Operand)(c:Operand):Em P V tm h nx ty K (.makeSlice t l c)=step P V true tm h nx ty K (.makeSlice t l c):=rfl
def Qv2(t:TypeId)(x:Operand)(f:Nat):Em P V tm h nx ty K (.fieldAddr t x f)=step P V true tm h nx ty K (.fieldAddr t x f):=rfl
def Qvr(t:TypeId)(x:Operand)(i:Operand):Em P V tm h nx ty K (.indexAddr t x i)=step P V true tm h nx ty K (.indexAddr t x i):=rfl
def Wp(t:TypeId)(x:Operand)(i:Operand):Em P V tm h nx ty K (.index t x i)=step P V true tm h nx ty K (.index t x i):=rfl
def QG(t:TypeId)(m:Operand)(k:Operand)(ok:Bool):Em P V tm h nx ty K (.lookup t m k ok)=step P V true tm h nx ty K (.lookup t m k ok):=rfl
def Qwt(t:TypeId)(m:Operand)(k:Operand)(v:Operand):Em P V tm h nx ty K (.mapUpdate t m k v)=step P V true tm h nx ty K (.mapUpdate t m k v):=rfl
def QF(t:TypeId)(m:Operand)(k:Operand)(v:Operand):Em P V tm h nx ty K (.insert t m k v)=step P V true tm h nx ty K (.insert t m k v):=rfl
def Qabt(x:Operand)(i:Nat):Em P V tm h nx ty K (.extract x i)=step P V true tm h nx ty K (.extract x i):=rfl
def Wo(t:TypeId)(x:Operand)(i:Nat):Em P V tm h nx ty K (.field t x i)=step P V true tm h nx ty K (.field t x i):=rfl
def bG(c:Call):Em P V tm h nx ty K (.call c)=step P V true tm h nx ty K (.call c):=rfl
def Ws(t:TypeId)(x:Operand)(lo:Option Operand)(z:Option Operand)(G:Option Operand):Em P V tm h nx ty K (.slice t x lo z G)=step P V true tm h nx ty K (.slice t x lo z G):=rfl
def Wr(t:TypeId)(x:Operand):Em P V tm h nx ty K (.range t x)=step P V true tm h nx ty K (.range t x):=rfl
def bJ(x:Operand)(b:Bool):Em P V tm h nx ty K (.next x b)=step P V true tm h nx ty K (.next x b):=rfl
def Wn(x:Operand):Em P V tm h nx ty K (.entry x)=step P V true tm h nx ty K (.entry x):=rfl
def Qyj(t:TypeId)(x:Operand):Em P V tm h nx ty K (.makeChan t x)=step P V true tm h nx ty K (.makeChan t x):=rfl
def Qmy(t:TypeId)(x:Operand):Em P V tm h nx ty K (.makeInterface t x)=step P V true tm h nx ty K (.makeInterface t x):=rfl
def Wq(x:Operand):Em P V tm h nx ty K (.panic x)=step P V true tm h nx ty K (.panic x):=rfl
def Qs9(x:Operand)(t:TypeId)(u:TypeId)(ok:Bool):Em P V tm h nx ty K (.typeAssert x t u ok)=step P V true tm h nx ty K (.typeAssert x t u ok):=rfl
end
def J{a b:Prop}(x:a)(y:b):a/\b:=⟨x,y⟩
def VC0:=J @AC.eq_1<|J @hget.eq_1<|J @Cg.eq_1<|J @A9.put.eq_1<|J @A9.put.eq_2<|J @A9.app_nr<|J @kD.eq_1<|J @kD.eq_2<|J @kD.eq_3<|J @kD.eq_4<|J @kD.eq_5<|J @kD.eq_6<|J @kD.eq_7<|J @kD.eq_8<|J @kD.eq_9<|J @Aw.eq_1<|J @Aw.eq_2<|J @Aw.eq_3<|J @Aw.eq_4<|J @D.cells.eq_1<|J @D.cells.eq_2<|J @D.cells.eq_3<|J @D.cells.eq_4<|J @D.cells.eq_5<|J @D.cells.eq_6<|J @D.cells.eq_7<|J @D.cells.eq_8<|J @D.cells.eq_9<|J @D.cells.eq_10<|@D.cells.eq_11
def VC1:=J @D.cells.eq_12<|J @D.cells.eq_13<|J @D.cells.eq_14<|J @D.cells.eq_15<|J @D.cells.eq_16<|J @D.cells.eq_17<|J @AV.cells.eq_1<|J @AV.cells.eq_2<|J @AV.cells.eq_3<|J @AV.cells.eq_4<|J @AV.cells.eq_5<|J @AV.cells.eq_6<|J @AV.cells.eq_7<|J @AV.cells.eq_8<|J @AV.cells.eq_9<|J @AV.cells.eq_10<|J @AV.cells.eq_11<|J @AV.cells.eq_12<|J @D.one.eq_1<|J @D.one.eq_2<|J @D.one.eq_3<|J @D.one.eq_4<|J @D.one.eq_5<|J @D.one.eq_6<|J @D.one.eq_7<|J @D.one.eq_8<|J @D.one.eq_9<|J @D.one.eq_10<|J @D.one.eq_11<|@D.one.eq_12
def VC2:=J @D.one.eq_13<|J @D.one.eq_14<|J @D.one.eq_15<|J @D.one.eq_16<|J @D.one.eq_17<|J @AV.one.eq_1<|J @AV.one.eq_2<|J @AV.one.eq_3<|J @AV.one.eq_4<|J @AV.one.eq_5<|J @AV.one.eq_6<|J @AV.one.eq_7<|J @AV.one.eq_8<|J @AV.one.eq_9<|J @AV.one.eq_10<|J @AV.one.eq_11<|J @AV.one.eq_12<|J @Mk.eq_1<|J @Mk.eq_2<|J @AV.asD.eq_1<|J @AV.asD.eq_2<|J @AV.asD.eq_3<|J @AV.asD.eq_4<|J @AV.asD.eq_5<|J @AV.asD.eq_6<|J @AV.asD.eq_7<|J @AV.asD.eq_8<|J @AV.asD.eq_9<|J @AV.asD.eq_10<|@AV.asD.eq_11
def VC3:=J @AV.asD.eq_12<|J @Pj.eq_1<|J @Pj.eq_2<|J @Pj.eq_3<|J @Eo.eq_1<|J @Eo.eq_2<|J @aH.eq_1<|J @aH.eq_2<|J @hdV.eq_1<|J @hdV.eq_2<|J @sL.eq_1<|J @sL.eq_2<|J @nW.eq_1<|J @fN.eq_1<|J @Cq.eq_1<|J @D.beq.eq_1<|J @D.beq.eq_2<|J @D.beq.eq_3<|J @D.beq.eq_4<|J @D.beql.eq_1<|J @D.beql.eq_2<|J @lk.eq_1<|J @lk.eq_2<|J @Hp.eq_1<|J @Hp.eq_2<|J @JE.eq_1<|J @JE.eq_2<|J @kZ.eq_1<|J @Qwr.eq_1<|@JQ.eq_1
def VC4:=J @JQ.eq_2<|J @JP.eq_1<|J @JP.eq_2<|J @YM.eq_1<|J @YM.eq_2<|J @YM.eq_3<|J @YM.eq_4<|J @ZW.eq_1<|J @ZW.eq_2<|J @Qxz.eq_1<|J @Qyo.eq_1<|J @Wv.eq_1<|J @Kh.eq_1<|J @Kh.eq_2<|J @xO.eq_1<|J @xO.eq_2<|J @Qri.eq_1<|J @SU.eq_1<|J @SU.eq_2<|J @L5.eq_1<|J @L5.eq_2<|J @L5.eq_3<|J @Z8.eq_1<|J @Z8.eq_2<|J @faK.eq_1<|J @Qhg.eq_1<|J @kRef.eq_1<|J @MW.eq_1<|J @MW.eq_2<|@ZO.eq_1
def VC5:=J @ZO.eq_2<|J @MV.eq_1<|J @MV.eq_2<|J @Bs.eq_1<|J @Bs.eq_2<|J @iaK.eq_1<|J @iaK.eq_2<|J @Qjp.eq_1<|J @UB.eq_1<|J @kCh.eq_1<|J @ixK.eq_1<|J @ixK.eq_2<|J @Qxc.eq_1<|J @H4.eq_1<|J @H4.eq_2<|J @H4.eq_3<|J @H4.eq_4<|J @H4.eq_5<|J @H4.eq_6<|J @H4.eq_7<|J @H4.eq_8<|J @H4.eq_9<|J @H4.eq_10<|J @H4.eq_11<|J @H4.eq_12<|J @H4.eq_13<|J @H4.eq_14<|J @H4.eq_15<|J @H4.eq_16<|@H4.eq_17
def VC6:=J @Jt.eq_1<|J @Jt.eq_2<|J @Jt.eq_3<|J @Jt.eq_4<|J @Jt.eq_5<|J @Jt.eq_6<|J @Jt.eq_7<|J @Jt.eq_8<|J @Jt.eq_9<|J @Jt.eq_10<|J @Jt.eq_11<|J @Jt.eq_12<|J @Jt.eq_13<|J @Jt.eq_14<|J @fB.eq_1<|J @TW.eq_1<|J @zR.eq_1<|J @zR.eq_2<|J @zR.eq_3<|J @zR.eq_4<|J @XD.eq_1<|J @XD.eq_2<|J @XD.eq_3<|J @YH.eq_1<|J @YH.eq_2<|J @YH.eq_3<|J @OF.eq_1<|J @OF.eq_2<|J @OF.eq_3<|@Kl.eq_1
def VC7:=J @Kl.eq_2<|J @Oi.eq_1<|J @Oi.eq_2<|J @zE.eq_1<|J @zE.eq_2<|J @yY.eq_1<|J @yY.eq_2<|J @dP.eq_1<|J @dP.eq_2<|J @dP.eq_3<|J @lI.eq_1<|J @lI.eq_2<|J @lI.eq_3<|J @lI.eq_4<|J @cC.eq_1<|J @cC.eq_2<|J @dV.eq_1<|J @dV.eq_2<|J @Iy.eq_1<|J @Iy.eq_2<|J @Iy.eq_3<|J @Ka.eq_1<|J @NE.eq_1<|J @OA.eq_1<|J @OA.eq_2<|J @Tc.eq_1<|J @bdK.eq_1<|J @bdK.eq_2<|J @Qsy.eq_1<|@IU.eq_1
def VC8:=J @IU.eq_2<|J @Cv.eq_1<|J @Cv.eq_2<|J @JA.eq_1<|J @JA.eq_2<|J @Mz.eq_1<|J @Mz.eq_2<|J @bsE.eq_1<|J @bsK.eq_1<|J @Qfp.eq_1<|J @msE.eq_1<|J @msK.eq_1<|J @Qhl.eq_1<|J @dS.eq_1<|J @dS.eq_2<|J @En.eq_1<|J @En.eq_2<|J @Bo.eq_1<|J @B8.eq_1<|J @B8.eq_2<|J @Src.okOne.eq_1<|J @Src.okOne.eq_2<|J @Src.okOne.eq_3<|J @O7.eq_1<|J @O7.eq_2<|J @O7.eq_3<|J @sH.eq_1<|J @sH.eq_2<|J @sH.eq_3<|@sG.eq_1
def VC9:=J @sG.eq_2<|J @sG.eq_3<|J @J8.eq_1<|J @J8.eq_2<|J @SX.eq_1<|J @SX.eq_2<|J @apE.eq_1<|J @apK.eq_1<|J @Qsl.eq_1<|J @G1.eq_1<|J @Qxr.eq_1<|J @Qxr.eq_2<|J @Nk.eq_1<|J @nQ.eq_1<|J @nQ.eq_2<|J @lH.eq_1<|J @lH.eq_2<|J @lH.eq_3<|J @UM.eq_1<|J @zW.eq_1<|J @zW.eq_2<|J @zW.eq_3<|J @FS.eq_1<|J @FS.eq_2<|J @FS.eq_3<|J @FS.eq_4<|J @FS.eq_5<|J @FS.eq_6<|J @FS.eq_7<|@FS.eq_8
def VC10:=J @FS.eq_9<|J @lM.eq_1<|J @Qy3.eq_1<|J @JN.eq_1<|J @UY.eq_1<|J @lN.eq_1<|J @lN.eq_2<|J @lN.eq_3<|J @aG.eq_1<|J @aG.eq_2<|J @luE.eq_1<|J @luK.eq_1<|J @Qnn.eq_1<|J @Vj.eq_1<|J @Vi.eq_1<|J @Vi.eq_2<|J @LH.eq_1<|J @LH.eq_2<|J @LH.eq_3<|J @LH.eq_4<|J @LH.eq_5<|J @LH.eq_6<|J @LH.eq_7<|J @LH.eq_8<|J @LH.eq_9<|J @muF.eq_1<|J @Vk.eq_1<|J @pQ.eq_1<|J @pQ.eq_2<|@TL.eq_1
def VC11:=J @Zx.eq_1<|J @Zx.eq_2<|J @TJ.eq_1<|J @TJ.eq_2<|J @TJ.eq_3<|J @TJ.eq_4<|J @TJ.eq_5<|J @TJ.eq_6<|J @TJ.eq_7<|J @TJ.eq_8<|J @TJ.eq_9<|J @Qni.eq_1<|J @exA.eq_1<|J @exA.eq_2<|J @exD.eq_1<|J @exD.eq_2<|J @pS.eq_1<|J @pS.eq_2<|J @pT.eq_1<|J @pT.eq_2<|J @pT.eq_3<|J @pT.eq_4<|J @Sb.eq_1<|J @Sb.eq_2<|J @RQ.eq_1<|J @RQ.eq_2<|J @Qjk.eq_1<|J @Qg6.eq_1<|J @Sx.eq_1<|@Y9.eq_1
def VC12:=J @Y9.eq_2<|J @Y9.eq_3<|J @Y9.eq_4<|J @Qk7.eq_1<|J @Qk7.eq_2<|J @Qm9.eq_1<|J @Qzp.eq_1<|J @Qsv.eq_1<|J @WE.eq_1<|J @G2.eq_1<|J @G2.eq_2<|J @G2.eq_3<|J @G2.eq_4<|J @FT.eq_1<|J @FT.eq_2<|J @FT.eq_3<|J @FT.eq_4<|J @qL.eq_1<|J @qL.eq_2<|J @Sh.eq_1<|J @Sh.eq_2<|J @Yi.eq_1<|J @Yi.eq_2<|J @WF.eq_1<|J @Yh.eq_1<|J @Yh.eq_2<|J @Oj.eq_1<|J @dZ.eq_1<|J @dZ.eq_2<|@dZ.eq_3
def VC13:=J @dZ.eq_4<|J @dZ.eq_5<|J @LR.eq_1<|J @yV.eq_1<|J @yV.eq_2<|J @Il.eq_1<|J @Il.eq_2<|J @Ko.eq_1<|J @M1.eq_1<|J @M1.eq_2<|J @Tp.eq_1<|J @mO.eq_1<|J @mP.eq_1<|J @mQ.eq_1<|J @JB.eq_1<|J @JB.eq_2<|J @TK.isStr.eq_1<|J @TK.isStr.eq_2<|J @TK.isStr.eq_3<|J @TK.isStr.eq_4<|J @TK.isStr.eq_5<|J @TK.isStr.eq_6<|J @TK.isStr.eq_7<|J @TK.isStr.eq_8<|J @TK.isStr.eq_9<|J @isStr.eq_1<|J @isStr.eq_2<|J @XK.eq_1<|J @Ol.eq_1<|@TK.isSl.eq_1
def VC14:=J @TK.isSl.eq_2<|J @TK.isSl.eq_3<|J @TK.isSl.eq_4<|J @TK.isSl.eq_5<|J @TK.isSl.eq_6<|J @TK.isSl.eq_7<|J @TK.isSl.eq_8<|J @TK.isSl.eq_9<|J @Qlj.eq_1<|J @Ed.eq_1<|J @Ed.eq_2<|J @HP.eq_1<|J @HP.eq_2<|J @Wx.eq_1<|J @Wx.eq_2<|J @Wx.eq_3<|J @Kj.eq_1<|J @Kj.eq_2<|J @Kj.eq_3<|J @zS.eq_1<|J @zS.eq_2<|J @Kk.eq_1<|J @Kk.eq_2<|J @Kk.eq_3<|J @Wy.eq_1<|J @slE.eq_1<|J @slE.eq_2<|J @pB.eq_1<|J @RN.eq_1<|@RN.eq_2
def VC15:=J @RN.eq_3<|J @RN.eq_4<|J @RN.eq_5<|J @RN.eq_6<|J @RN.eq_7<|J @RN.eq_8<|J @RN.eq_9<|J @Qsm.eq_1<|J @mV.eq_1<|J @mW.eq_1<|J @lL.eq_1<|J @lL.eq_2<|J @lL.eq_3<|J @TE.eq_1<|J @TF.eq_1<|J @Xk.eq_1<|J @Xk.eq_2<|J @lC.eq_1<|J @TG.eq_1<|J @TG.eq_2<|J @TG.eq_3<|J @TH.eq_1<|J @TH.eq_2<|J @TH.eq_3<|J @TH.eq_4<|J @TH.eq_5<|J @TH.eq_6<|J @TH.eq_7<|J @TH.eq_8<|@TH.eq_9
def VC16:=J @Qzd.eq_1<|J @Zp.eq_1<|J @Zp.eq_2<|J @T3.eq_1<|J @T3.eq_2<|J @T3.eq_3<|J @T3.eq_4<|J @T3.eq_5<|J @T3.eq_6<|J @T3.eq_7<|J @T3.eq_8<|J @T3.eq_9<|J @Qrt.eq_1<|J @Wa.eq_1<|J @rgD.eq_1<|J @rgM.eq_1<|J @rgM.eq_2<|J @VZ.eq_1<|J @VZ.eq_2<|J @VZ.eq_3<|J @VZ.eq_4<|J @VZ.eq_5<|J @VZ.eq_6<|J @VZ.eq_7<|J @VZ.eq_8<|J @VZ.eq_9<|J @Qsh.eq_1<|J @nxGo.eq_1<|J @Vy.eq_1<|@XC.eq_1
def VC17:=J @oJ.eq_1<|J @oJ.eq_2<|J @TU.eq_1<|J @Qsz.eq_1<|J @mcE.eq_1<|J @mcV.eq_1<|J @mcK.eq_1<|J @mcK.eq_2<|J @Qi6.eq_1<|J @fK.eq_1<|J @US.eq_1<|J @US.eq_2<|J @oY.eq_1<|J @LU.eq_1<|J @oV.eq_1<|J @rvC.eq_1<|J @rvE.eq_1<|J @rvK.eq_1<|J @rvK.eq_2<|J @LS.eq_1<|J @TX.eq_1<|J @TY.eq_1<|J @TY.eq_2<|J @O8.eq_1<|J @O8.eq_2<|J @IY.eq_1<|J @IY.eq_2<|J @IY.eq_3<|J @IY.eq_4<|@IY.eq_5
def VC18:=J @IY.eq_6<|J @IY.eq_7<|J @IY.eq_8<|J @IY.eq_9<|J @IY.eq_10<|J @IY.eq_11<|J @IY.eq_12<|J @IY.eq_13<|J @IY.eq_14<|J @IY.eq_15<|J @IY.eq_16<|J @IY.eq_17<|J @FR.eq_1<|J @FR.eq_2<|J @FR.eq_3<|J @FR.eq_4<|J @FR.eq_5<|J @FR.eq_6<|J @FR.eq_7<|J @FR.eq_8<|J @FR.eq_9<|J @FR.eq_10<|J @FR.eq_11<|J @FR.eq_12<|J @unS.eq_1<|J @S7.eq_1<|J @S7.eq_2<|J @S7.eq_4<|J @S7.eq_5<|@S7.eq_6
def VC19:=J @S7.eq_7<|J @S7.eq_8<|J @S7.eq_9<|J @S7.eq_10<|J @S7.eq_11<|J @Qst.eq_1<|J @LQ.eq_1<|J @Mi.eq_1<|J @Mi.eq_2<|J @Mi.eq_3<|J @Mi.eq_4<|J @Mi.eq_5<|J @Mi.eq_6<|J @Mi.eq_7<|J @Mi.eq_8<|J @Mi.eq_9<|J @Mi.eq_10<|J @Mi.eq_11<|J @Mi.eq_12<|J @cZ.eq_1<|J @cZ.eq_2<|J @cZ.eq_3<|J @cZ.eq_4<|J @cZ.eq_5<|J @cZ.eq_6<|J @yN.eq_1<|J @yN.eq_2<|J @yN.eq_3<|J @aI.eq_1<|@aI.eq_2
def VC20:=J @Vg.eq_1<|J @Vg.eq_2<|J @Vg.eq_3<|J @Vg.eq_4<|J @Vg.eq_5<|J @Vg.eq_6<|J @Vg.eq_7<|J @Vg.eq_8<|J @Vg.eq_9<|J @Qko.eq_1<|J @Ec.eq_1<|J @Ec.eq_2<|J @K8.eq_1<|J @K8.eq_2<|J @Qrk.eq_1<|J @Qfq.eq_1<|J @Qno.eq_1<|J @TA.eq_1<|J @TA.eq_2<|J @T9.eq_1<|J @T9.eq_2<|J @T9.eq_3<|J @T9.eq_4<|J @T9.eq_5<|J @T9.eq_6<|J @T9.eq_7<|J @T9.eq_8<|J @IA.eq_1<|J @IA.eq_2<|@IA.eq_3
def VC21:=J @IA.eq_4<|J @IA.eq_5<|J @IA.eq_6<|J @IA.eq_7<|J @IA.eq_8<|J @IA.eq_9<|J @IA.eq_10<|J @IA.eq_11<|J @IA.eq_12<|J @IA.eq_13<|J @T8.eq_1<|J @T8.eq_2<|J @T8.eq_3<|J @PG.eq_1<|J @PG.eq_2<|J @hnm.eq_1<|J @hnm.eq_2<|J @Qz3.eq_1<|J @Qz3.eq_2<|J @OD.eq_1<|J @OD.eq_2<|J @OD.eq_3<|J @St.eq_1<|J @St.eq_2<|J @Sq.eq_1<|J @Sq.eq_2<|J @jB.eq_1<|J @Ss.eq_1<|J @Ss.eq_2<|@step.eq_1
def VC22:=J @step.eq_2<|J @step.eq_3<|J @step.eq_4<|J @step.eq_5<|J @step.eq_6<|J @step.eq_7<|J @step.eq_8<|J @step.eq_9<|J @step.eq_10<|J @step.eq_11<|J @step.eq_12<|J @step.eq_13<|J @step.eq_14<|J @step.eq_15<|J @step.eq_16<|J @step.eq_17<|J @step.eq_18<|J @step.eq_19<|J @step.eq_20<|J @step.eq_21<|J @step.eq_22<|J @step.eq_23<|J @step.eq_24<|J @step.eq_25<|J @step.eq_26<|J @step.eq_27<|J @step.eq_28<|J @step.eq_29<|J @step.eq_30<|@step.eq_31
def VC23:=J @Y7.eq_2<|J @AH.eq_1<|J @AH.eq_2<|J @AH.eq_3<|J @AH.eq_4<|J @AH.eq_5<|J @AH.eq_6<|J @AH.eq_7<|J @AH.eq_8<|J @OM.eq_1<|J @Jx.eq_1<|J @Jx.eq_2<|J @BD.ok_nr<|J @YR.eq_1<|J @YR.eq_2<|J @Ha.eq_1<|J @Ha.eq_2<|J @JO.eq_1<|J @Em.eq_1<|J @Em.eq_2<|J @Km.eq_1<|J @Og.eq_1<|J @ZM.eq_1<|J @ZM.eq_2<|J @opS.eq_1<|J @opS.eq_2<|J @LP.eq_1<|J @LP.eq_2<|J @Mg.eq_1<|@Mg.eq_2
def VC24:=J @JX.eq_1<|J @JX.eq_2<|J @K3.eq_1<|J @K3.eq_2<|J @Hl.eq_1<|J @Hl.eq_2<|J @Jf.eq_1<|J @Jf.eq_2<|J @Jf.eq_3<|J @Jf.eq_4<|J @Jf.eq_5<|J @Jf.eq_6<|J @Ef.eq_1<|J @Ef.eq_2<|J @Ef.eq_3<|J @Bl.eq_1<|J @U5.eq_1<|J @U5.eq_2<|J @HQ.eq_1<|J @HQ.eq_2<|J @F4.eq_1<|J @F4.eq_2<|J @Fm.eq_1<|J @Jm.eq_1<|J @Jm.eq_2<|J @BD.touch.eq_1<|J @Nf.eq_1<|J @Om.eq_1<|J @Of.eq_1<|@ZL.eq_1
def VC25:=J @ZL.eq_2<|J @opA.eq_1<|J @opA.eq_2<|J @X4.eq_1<|J @X4.eq_2<|J @Ow.eq_1<|J @Ow.eq_2<|J @Ow.eq_3<|J @JG.eq_1<|J @JG.eq_2<|J @qX.eq_1<|J @qX.eq_2<|J @qX.eq_3<|J @Ho.eq_1<|J @Ho.eq_2<|J @De.eq_1<|J @De.eq_2<|J @C4.eq_1<|J @C4.eq_2<|J @Cz.eq_1<|J @Cz.eq_2<|J @A9.good.eq_1<|J @pm.eq_1<|J @pm.eq_2<|J @nZ.eq_1<|J @ET.eq_1<|J @ET.eq_2<|J @Hw.eq_1<|J @Hw.eq_2<|@mt.eq_1
def VC26:=J @mt.eq_2<|J @mt.eq_3<|J @mt.eq_4<|J @mt.eq_5<|J @mt.eq_6<|J @mt.eq_7<|J @mt.eq_8<|J @mt.eq_9<|J @mt.eq_10<|J @mt.eq_11<|J @mt.eq_13<|J @mt.eq_14<|J @DB.eq_1<|J @DB.eq_2<|J @DB.eq_3<|J @DB.eq_4<|J @Fu.eq_1<|J @Fu.eq_2<|J @Fu.eq_3<|J @Fu.eq_4<|J @Ft.eq_1<|J @Ft.eq_3<|J @Ft.eq_4<|J @Ft.eq_5<|J @Ft.eq_6<|J @Ft.eq_7<|J @Ft.eq_8<|J @Ft.eq_9<|J @Ft.eq_10<|@Ft.eq_11
def VC27:=J @Ft.eq_12<|J @Ft.eq_13<|J @Ft.eq_14<|J @Lz.eq_1<|J @Lz.eq_2<|J @Vq.eq_1<|J @Vq.eq_2<|J @Du.eq_1<|J @Du.eq_2<|J @Jw.eq_1<|J @Jw.eq_2<|J @Gf.eq_1<|J @Gf.eq_2<|J @JL.eq_1<|J @JL.eq_2<|J @Fl.eq_1<|J @Fl.eq_2<|J @CT.eq_1<|J @CT.eq_2<|J @CT.eq_3<|J @Nu.eq_1<|J @Nu.eq_2<|J @Nu.eq_3<|J @Nt.eq_1<|J @Nt.eq_2<|J @Nt.eq_3<|J @IC.eq_1<|J @IC.eq_2<|J @Ui.eq_1<|@FU.eq_1
def VC28:=J @FU.eq_2<|J @FU.eq_3<|J @FU.eq_4<|J @FU.eq_5<|J @FU.eq_6<|J @FU.eq_7<|J @HS.eq_1<|J @HS.eq_2<|J @AV.fzA.eq_1<|J @AV.fzA.eq_2<|J @AV.fzA.eq_3<|J @AV.fzA.eq_4<|J @AV.fzA.eq_5<|J @AV.fzA.eq_6<|J @AV.fzA.eq_7<|J @AV.fzA.eq_8<|J @AV.fzA.eq_9<|J @AV.fzA.eq_10<|J @AV.fzA.eq_11<|J @AV.fzA.eq_12<|J @CF.eq_1<|J @CF.eq_2<|J @CL.eq_1<|J @CL.eq_2<|J @Ah.fzA.eq_1<|J @Ah.fzA.eq_2<|J @Ah.fzA.eq_3<|J @Ah.fzA.eq_4<|J @Ah.fzA.eq_5<|@Ah.fzA.eq_6
def VC29:=J @Ah.fzA.eq_7<|J @ID.eq_1<|J @ID.eq_2<|J @FQ.eq_1<|J @FQ.eq_2<|J @PW.eq_1<|J @Ns.eq_1<|J @Ns.eq_2<|J @Ns.eq_3<|J @D7.eq_1<|J @D7.eq_2<|J @D7.eq_3<|J @D7.eq_4<|J @D7.eq_5<|J @D7.eq_6<|J @D7.eq_7<|J @D7.eq_8<|J @D7.eq_9<|J @KK.fit.eq_1<|J @KK.fit.eq_2<|J @KK.fit.eq_3<|J @BE.eq_1<|J @BE.eq_2<|J @AV.bel.eq_1<|J @AV.bel.eq_2<|J @AV.bel.eq_3<|J @AV.bel.eq_4<|J @AV.bel.eq_5<|J @AV.bel.eq_6<|@AV.bel.eq_7
def VC30:=J @AV.bel.eq_8<|J @AV.bel.eq_9<|J @AV.bel.eq_10<|J @AV.bel.eq_11<|J @AV.bel.eq_12<|J @AL.eq_1<|J @AL.eq_2<|J @AV.nms.eq_1<|J @AV.nms.eq_2<|J @AV.nms.eq_3<|J @AV.nms.eq_4<|J @AV.nms.eq_5<|J @AV.nms.eq_6<|J @AV.nms.eq_7<|J @AV.nms.eq_8<|J @AV.nms.eq_9<|J @AV.nms.eq_10<|J @AV.nms.eq_11<|J @AV.nms.eq_12<|J @AE.eq_1<|J @AE.eq_2<|J @BJ.eq_1<|J @BJ.eq_2<|J @Ah.nms.eq_1<|J @Ah.nms.eq_2<|J @Ah.nms.eq_3<|J @Ah.nms.eq_4<|J @Ah.nms.eq_5<|J @Ah.nms.eq_6<|@Ah.nms.eq_7
def VC31:=J @AV.ren.eq_1<|J @AV.ren.eq_2<|J @AV.ren.eq_3<|J @AV.ren.eq_4<|J @AV.ren.eq_5<|J @AV.ren.eq_6<|J @AV.ren.eq_7<|J @AV.ren.eq_8<|J @AV.ren.eq_9<|J @AV.ren.eq_10<|J @AV.ren.eq_11<|J @AV.ren.eq_12<|J @Bn.eq_1<|J @Bn.eq_2<|J @Ah.ren.eq_1<|J @Ah.ren.eq_2<|J @Ah.ren.eq_3<|J @Ah.ren.eq_4<|J @Ah.ren.eq_5<|J @Ah.ren.eq_6<|J @Ah.ren.eq_7<|J @AA.eq_1<|J @AA.eq_2<|J @R2.eq_1<|J @R2.eq_2<|J @YO.eq_1<|J @YJ.eq_1<|J @sO.eq_1<|J @sO.eq_2<|@nV.eq_1
def VC32:=J @nV.eq_2<|J @nV.eq_3<|J @JT.eq_1<|J @kp.eq_1<|J @kp.eq_2<|J @EO.eq_1<|J @EO.eq_2<|J @Bx.eq_1<|J @Bx.eq_2<|J @Bx.eq_3<|J @Bx.eq_4<|J @Bx.eq_5<|J @Bx.eq_6<|J @Bx.eq_7<|J @Bx.eq_8<|J @Bx.eq_9<|J @Bx.eq_10<|J @Bx.eq_11<|J @Bx.eq_12<|J @Bx.eq_13<|J @Bx.eq_14<|J @M3.eq_1<|J @JC.eq_1<|J @JC.eq_2<|J @Lg.eq_1<|J @Lg.eq_2<|J @DE.eq_1<|J @entry.eq_1<|J @entry.eq_2<|@ZP.eq_1
def VC33:=J @ZP.eq_2<|J @IG.eq_1<|J @DQ.eq_1<|J @DQ.eq_2<|J @DQ.eq_3<|J @DQ.eq_4<|J @DQ.eq_5<|J @DQ.eq_6<|J @DQ.eq_7<|J @JD.eq_1<|J @JD.eq_2<|J @JD.eq_3<|J @klE.eq_1<|J @klE.eq_2<|J @JZ.eq_1<|J @JZ.eq_2<|J @exE.eq_1<|J @exE.eq_2<|J @exE.eq_3<|J @JY.eq_1<|J @JY.eq_2<|J @SY.eq_1<|J @SY.eq_2<|J @SY.eq_3<|J @bF.eq_1<|J @bF.eq_2<|J @Z7.eq_1<|J @Z7.eq_2<|J @Kd.eq_1<|@Kd.eq_2
def VC34:=J @Kd.eq_3<|J @fU.eq_1<|J @NS.eq_1<|J @NS.eq_2<|J @VX.eq_1<|J @Q5.eq_1<|J @Q5.eq_2<|J @Q5.eq_3<|J @L3.eq_1<|J @geK.eq_1<|J @geK.eq_2<|J @exRes.eq_1<|J @sg.eq_1<|J @Cd.eq_1<|J @Cd.eq_2<|J @RP.eq_1<|J @RP.eq_2<|J @DM.eq_1<|J @DM.eq_2<|J @DM.eq_3<|J @Ea.eq_1<|J @Ea.eq_2<|J @Ea.eq_3<|J @Ca.eq_1<|J @Ca.eq_2<|J @Ca.eq_3<|J @RI.eq_1<|J @RI.eq_2<|J @RI.eq_3<|@RI.eq_4
def VC35:=J @RI.eq_5<|J @RI.eq_6<|J @RI.eq_7<|J @RI.eq_8<|J @RH.eq_1<|J @RH.eq_2<|J @RH.eq_3<|J @RH.eq_4<|J @RH.eq_5<|J @RH.eq_6<|J @RH.eq_7<|J @RH.eq_8<|J @sJ.eq_1<|J @sJ.eq_2<|J @ER.eq_1<|J @ER.eq_2<|J @ER.eq_3<|J @ER.eq_4<|J @ER.eq_5<|J @ER.eq_6<|J @ER.eq_7<|J @ER.eq_8<|J @ER.eq_9<|J @ER.eq_10<|J @ER.eq_11<|J @ER.eq_12<|J @Un.eq_1<|J @Un.eq_2<|J @fR.eq_1<|@fR.eq_2
def VC36:=J @Gk.eq_1<|J @Gk.eq_2<|J @Gk.eq_3<|J @Gk.eq_4<|J @Gk.eq_5<|J @Gk.eq_6<|J @Gk.eq_7<|J @Gk.eq_8<|J @Gk.eq_9<|J @Gk.eq_10<|J @Gk.eq_11<|J @Gk.eq_12<|J @Gk.eq_13<|J @Gk.eq_14<|J @Gk.eq_15<|J @Gk.eq_16<|J @Gk.eq_17<|J @pkC.eq_1<|J @pkC.eq_2<|J @VE.eq_1<|J @VE.eq_2<|J @VE.eq_3<|J @VE.eq_4<|J @VE.eq_5<|J @VE.eq_6<|J @VE.eq_7<|J @VE.eq_8<|J @KD.eq_1<|J @KD.eq_2<|@KD.eq_3
def VC37:=J @KD.eq_4<|J @KD.eq_5<|J @KD.eq_6<|J @KD.eq_7<|J @KD.eq_8<|J @KD.eq_9<|J @KD.eq_10<|J @KD.eq_11<|J @KD.eq_12<|J @lA.eq_1<|J @lA.eq_2<|J @lA.eq_3<|J @RL.eq_1<|J @RL.eq_2<|J @Fj.eq_1<|J @Fj.eq_2<|J @X0.eq_1<|J @X0.eq_2<|J @gB.eq_1<|J @gB.eq_2<|J @FY.eq_1<|J @F7.eq_1<|J @F7.eq_2<|J @F7.eq_3<|J @F7.eq_4<|J @F7.eq_5<|J @F7.eq_6<|J @F7.eq_7<|J @F7.eq_8<|@F7.eq_9
def VC38:=J @F7.eq_10<|J @F7.eq_11<|J @F7.eq_12<|J @NH.eq_1<|J @FW.eq_1<|J @Av.eq_1<|J @Qc.eq_1<|J @TV.eq_1<|J @TV.eq_2<|J @GB.eq_1<|J @GB.eq_2<|J @Ke.eq_1<|J @Ke.eq_2<|J @NQ.eq_1<|J @NQ.eq_2<|J @fT.eq_1<|J @NP.eq_1<|J @NP.eq_2<|J @IQ.eq_1<|J @OC.eq_1<|J @OC.eq_2<|J @OC.eq_3<|J @AR.eq_1<|J @AR.eq_2<|J @AR.eq_3<|J @EJ.eq_1<|J @EJ.eq_2<|J @Df.eq_1<|J @Df.eq_2<|@Qs.eq_1
def VC39:=J @kC.eq_1<|J @kC.eq_2<|J @eI.eq_1<|J @eI.eq_2<|J @X1.eq_1<|J @X1.eq_2<|J @Cm.eq_1<|J @Cm.eq_2<|J @nI.eq_1<|J @nH.eq_1<|J @nH.eq_2<|J @JK.eq_1<|J @JK.eq_2<|J @Uh.eq_1<|J @Uh.eq_2<|J @Uh.eq_3<|J @L6.eq_1<|J @L6.eq_2<|J @PT.eq_1<|J @PT.eq_2<|J @PT.eq_3<|J @PT.eq_4<|J @NR.eq_1<|J @NR.eq_2<|J @LO.eq_1<|J @eH.eq_1<|J @eH.eq_2<|J @eH.eq_3<|J @eE.eq_1<|@eE.eq_2
def VC40:=J @Tn.eq_1<|J @dW.eq_1<|J @dW.eq_2<|J @Tm.eq_1<|J @Tm.eq_2<|J @Tm.eq_3<|J @bk.eq_1<|J @bk.eq_2<|J @bk.eq_3<|J @bk.eq_4<|J @bk.eq_5<|J @bk.eq_6<|J @bk.eq_7<|J @bk.eq_8<|J @bk.eq_9<|J @bk.eq_10<|J @bk.eq_11<|J @bk.eq_12<|J @bk.eq_13<|J @aW.eq_1<|J @IP.eq_1<|J @Hm.eq_1<|J @Hm.eq_2<|J @Hm.eq_3<|J @Hm.eq_4<|J @Hm.eq_5<|J @Hm.eq_6<|J @Hm.eq_7<|J @Hm.eq_8<|@Hm.eq_9
def VC41:=J @Hm.eq_10<|J @Hm.eq_11<|J @Hm.eq_12<|J @Jk.eq_1<|J @Jk.eq_2<|J @Jk.eq_3<|J @DT.eq_1<|J @DT.eq_2<|J @Y4.eq_1<|J @Y4.eq_2<|J @Be.eq_1<|J @Zz<|J @Z0<|J @Z1<|J @Z2<|J @TQ<|J @TR<|J @TS<|J @TT<|J @Qabq<|J @PM<|J @TP<|J @Z5<|J @Z4<|J @Z3<|J @mY<|J @oG<|J @aP<|J @oH<|@oF
def VC42:=J @oB<|J @aN<|J @oE<|J @oA<|J @oD<|J @oC<|J @ns_nf<|J @ns_ni<|J @bI<|J @QE<|J @bK<|J @Wk<|J @oW<|J @Wm<|J @Qs8<|J @bH<|J @Wt<|J @Qyd<|J @Wl<|J @bL<|J @Qaa9<|J @Qyi<|J @Qaa8<|J @Qvy<|J @Qv2<|J @Qvr<|J @Wp<|J @QG<|J @Qwt<|@QF
def VC43:=J @Qabt<|J @Wo<|J @bG<|J @Ws<|J @Wr<|J @bJ<|J @Wn<|J @Qyj<|J @Qmy<|J @Wq<|@Qs9
end Go.Ae
