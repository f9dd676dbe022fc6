/- Lemmas. Conditions: none. -/
import Derived.Test.YtpgdfagfkjbokaaGreatDoorP04
set_option linter.all false
set_option maxHeartbeats 8000000
set_option maxRecDepth 100000
namespace Go.Ae
def XB(ks:List KK)(ds:List D):KT.fit ⟨true,ks⟩ (.agg ds)=Bw ks ds:=rfl
def XC(ks:List KK)(k:IntKind)(n:Int):KT.fit ⟨false,ks⟩ (.int k n)=Bw ks [.int k n]:=rfl
def XD(ks:List KK)(s:ByteArray):KT.fit ⟨false,ks⟩ (.str s)=Bw ks [.str s]:=rfl
def XE(ks:List KK)(s:Bool):KT.fit ⟨false,ks⟩ (.bool s)=Bw ks [.bool s]:=rfl
def RZ:Dp []= .tup []:=rfl
def Sa(x y:AV):Dp [x,y]= .tup [x,y]:=rfl
def Sb(x y z:AV):Dp [x,y,z]= .tup [x,y,z]:=rfl
def Sc(x y z w:AV):Dp [x,y,z,w]= .tup [x,y,z,w]:=rfl
def Qabq(t:Option Nat)(z:Bool)(s:Av)(Kdo Kskip:Av->Prop)(b:Bool):WD t z s Kdo Kskip (.im (.bool b))=if b=z then Kdo (s.put t (.im (.bool z))) else Kskip (s.put t (.im (.bool (!z)))):=by
 cases b<;>cases z<;>simp[WD]
def O3(A B:Cq->Av->Prop)(Q:Cq)(s:Av)(b:Bool):vP A B Q s (.im (.bool b))=if b=true then A Q s else B Q s:=by
 cases b<;>simp[vP]
def RY(c:Bool)(K:Ah)(a b:AV):M1 c K a b=if c=true then K a {} else K b {}:=by
 cases c<;>simp[M1]
def XI(m:Nat)(x:AV)(r:List (Nat×AV))(n:Nat):A8 ((m,x)::r) n=if m=n then x else A8 r n:=by
 by_cases h:m=n
 .subst h;simp[A8]
 .have:(m==n)=false:=by simpa using h
  simp[A8,this,h]
def XH(m:Nat)(x:Ao)(r:Ap)(n:Nat):hget ((m,x)::r) n=if m=n then some x else hget r n:=by
 by_cases h:m=n
 .subst h;simp[hget]
 .have:(m==n)=false:=by simpa using h
  simp[hget,this,h]
def XG(m:Nat)(x:Ao)(r:Ap)(ks:List Nat):Bj ((m,x)::r) ks=if ks.contains m=true then Bj r ks else (m,x)::Bj r ks:=by
 cases h:ks.contains m<;>simp only[Bj,h]<;>simp
def iN(cl:List (List Nat))(j:Nat)(use touch z:List Nat)(f:Fp):iH cl j use touch z f=if (Ik (use++touch) f.touch && (Ik touch f.use && FF f.nx f.cnt z))=true then true else DX cl f.i j:=by
 unfold iH;cases (Ik (use++touch) f.touch && (Ik touch f.use && FF f.nx f.cnt z))<;>rfl
def jJ(k:IntKind)(n:Int):Gu (.int k n)=0:=rfl
def Yv(b:Bool):Gu (.bool b)=0:=rfl
def jK(s:ByteArray):Gu (.string s)=0:=rfl
def jI(cs:Array Value):Gu (.agg cs)=0:=rfl
def jE(k:IntKind)(n:Int):QS (.int k n)=false:=rfl
def Yt(b:Bool):QS (.bool b)=false:=rfl
def jH(s:ByteArray):QS (.string s)=false:=rfl
def jD(cs:Array Value):QS (.agg cs)=false:=rfl
def jG(a:Option Addr):QS (.pointer a)=false:=rfl
def jF(a:Option Nat):QS (.map a)=false:=rfl
def yQ:QS .nilFunc=false:=rfl
def yR:QS .nilIface=false:=rfl
section
variable (P:Program)(V:Dt)(tm:List (Nat×AV))(h:Nat->Option Ao)(nx:Nat)(ty:TypeId)(K:Ah)
def YH(x:Operand):DS P V tm h nx ty K (.move x)=step P V true tm h nx ty K (.move x):=rfl
def Pq(x:Operand):DS P V tm h nx ty K (.assign x)=step P V true tm h nx ty K (.assign x):=rfl
def YJ(c:Operand)(a:Operand)(b:Operand):DS P V tm h nx ty K (.pick c a b)=step P V true tm h nx ty K (.pick c a b):=rfl
def Ut(t:TypeId):DS P V tm h nx ty K (.alloc t)=step P V true tm h nx ty K (.alloc t):=rfl
def kE(t:TypeId)(x:Operand):DS P V tm h nx ty K (.box t x)=step P V true tm h nx ty K (.box t x):=rfl
def Uv(t:TypeId)(ps:Array (Nat×Operand)):DS P V tm h nx ty K (.build t ps)=step P V true tm h nx ty K (.build t ps):=rfl
def Qs8(t:TypeId)(n:Nat)(ps:Array (Nat×Operand)):DS P V tm h nx ty K (.buildSlice t n ps)=step P V true tm h nx ty K (.buildSlice t n ps):=rfl
def YG(t:TypeId)(x:Operand):DS P V tm h nx ty K (.load t x)=step P V true tm h nx ty K (.load t x):=rfl
def U4(t:TypeId)(x:Operand)(v:Operand):DS P V tm h nx ty K (.store t x v)=step P V true tm h nx ty K (.store t x v):=rfl
def Qyd(x:Operand):DS P V tm h nx ty K (.nilCheck x)=step P V true tm h nx ty K (.nilCheck x):=rfl
def Uu(op:BinOp)(t:TypeId)(x:Operand)(y:Operand)(u:TypeId):DS P V tm h nx ty K (.binOp op t x y u)=step P V true tm h nx ty K (.binOp op t x y u):=rfl
def YK(op:UnOp)(t:TypeId)(x:Operand):DS P V tm h nx ty K (.unOp op t x)=step P V true tm h nx ty K (.unOp op t x):=rfl
def Qaa9(s:TypeId)(t:TypeId)(x:Operand):DS P V tm h nx ty K (.convert s t x)=step P V true tm h nx ty K (.convert s t x):=rfl
def Qyi(f:Fn)(a:Array Operand)(c:Array Operand):DS P V tm h nx ty K (.makeFunc f a c)=step P V true tm h nx ty K (.makeFunc f a c):=rfl
def Qaa8(t:TypeId)(r:Option Operand):DS P V tm h nx ty K (.makeMap t r)=step P V true tm h nx ty K (.makeMap t r):=rfl
def Qvy(t:TypeId)(l:Operand)(c:Operand):DS P V tm h nx ty K (.makeSlice t l c)=step P V true tm h nx ty K (.makeSlice t l c):=rfl
def Qv2(t:TypeId)(x:Operand)(f:Nat):DS P V tm h nx ty K (.fieldAddr t x f)=step P V true tm h nx ty K (.fieldAddr t x f):=rfl
def Qvr(t:TypeId)(x:Operand)(i:Operand):DS P V tm h nx ty K (.indexAddr t x i)=step P V true tm h nx ty K (.indexAddr t x i):=rfl
def Uy(t:TypeId)(x:Operand)(i:Operand):DS P V tm h nx ty K (.index t x i)=step P V true tm h nx ty K (.index t x i):=rfl
def Pt(t:TypeId)(m:Operand)(k:Operand)(ok:Bool):DS P V tm h nx ty K (.lookup t m k ok)=step P V true tm h nx ty K (.lookup t m k ok):=rfl
def Qwt(t:TypeId)(m:Operand)(k:Operand)(v:Operand):DS P V tm h nx ty K (.mapUpdate t m k v)=step P V true tm h nx ty K (.mapUpdate t m k v):=rfl
def Ps(t:TypeId)(m:Operand)(k:Operand)(v:Operand):DS P V tm h nx ty K (.insert t m k v)=step P V true tm h nx ty K (.insert t m k v):=rfl
def Qabt(x:Operand)(i:Nat):DS P V tm h nx ty K (.extract x i)=step P V true tm h nx ty K (.extract x i):=rfl
def Ux(t:TypeId)(x:Operand)(i:Nat):DS P V tm h nx ty K (.field t x i)=step P V true tm h nx ty K (.field t x i):=rfl
def YF(c:Call):DS P V tm h nx ty K (.call c)=step P V true tm h nx ty K (.call c):=rfl
def U3(t:TypeId)(x:Operand)(lo:Option Operand)(z:Option Operand)(O:Option Operand):DS P V tm h nx ty K (.slice t x lo z O)=step P V true tm h nx ty K (.slice t x lo z O):=rfl
def U1(t:TypeId)(x:Operand):DS P V tm h nx ty K (.range t x)=step P V true tm h nx ty K (.range t x):=rfl
def YI(x:Operand)(b:Bool):DS P V tm h nx ty K (.next x b)=step P V true tm h nx ty K (.next x b):=rfl
def Uw(x:Operand):DS P V tm h nx ty K (.entry x)=step P V true tm h nx ty K (.entry x):=rfl
def Qyj(t:TypeId)(x:Operand):DS P V tm h nx ty K (.makeChan t x)=step P V true tm h nx ty K (.makeChan t x):=rfl
def Qmy(t:TypeId)(x:Operand):DS P V tm h nx ty K (.makeInterface t x)=step P V true tm h nx ty K (.makeInterface t x):=rfl
def Uz(x:Operand):DS P V tm h nx ty K (.panic x)=step P V true tm h nx ty K (.panic x):=rfl
def Qs9(x:Operand)(t:TypeId)(u:TypeId)(ok:Bool):DS P V tm h nx ty K (.typeAssert x t u ok)=step P V true tm h nx ty K (.typeAssert x t u ok):=rfl
end
def J{a b:Prop}(x:a)(y:b):a/\b:=⟨x,y⟩
def VC0:=J @A8.eq_1<|J @hget.eq_1<|J @Bj.eq_1<|J @Av.put.eq_1<|J @Av.put.eq_2<|J @Av.app_nr<|J @kD.eq_1<|J @kD.eq_2<|J @kD.eq_3<|J @kD.eq_4<|J @kD.eq_5<|J @kD.eq_6<|J @kD.eq_7<|J @kD.eq_8<|J @kD.eq_9<|J @Ax.eq_1<|J @Ax.eq_2<|J @Ax.eq_3<|J @Ax.eq_4<|J @D.cells.eq_1<|J @D.cells.eq_2<|J @D.cells.eq_3<|J @D.cells.eq_4<|J @D.cells.eq_5<|J @D.cells.eq_6<|J @D.cells.eq_7<|J @D.cells.eq_8<|J @D.cells.eq_9<|J @D.cells.eq_10 @D.cells.eq_11
def VC1:=J @D.cells.eq_12<|J @D.cells.eq_13<|J @D.cells.eq_14<|J @D.cells.eq_15<|J @D.cells.eq_16<|J @D.cells.eq_17<|J @AV.cells.eq_1<|J @AV.cells.eq_2<|J @AV.cells.eq_3<|J @AV.cells.eq_4<|J @AV.cells.eq_5<|J @AV.cells.eq_6<|J @AV.cells.eq_7<|J @AV.cells.eq_8<|J @AV.cells.eq_9<|J @AV.cells.eq_10<|J @AV.cells.eq_11<|J @AV.cells.eq_12<|J @D.one.eq_1<|J @D.one.eq_2<|J @D.one.eq_3<|J @D.one.eq_4<|J @D.one.eq_5<|J @D.one.eq_6<|J @D.one.eq_7<|J @D.one.eq_8<|J @D.one.eq_9<|J @D.one.eq_10<|J @D.one.eq_11 @D.one.eq_12
def VC2:=J @D.one.eq_13<|J @D.one.eq_14<|J @D.one.eq_15<|J @D.one.eq_16<|J @D.one.eq_17<|J @AV.one.eq_1<|J @AV.one.eq_2<|J @AV.one.eq_3<|J @AV.one.eq_4<|J @AV.one.eq_5<|J @AV.one.eq_6<|J @AV.one.eq_7<|J @AV.one.eq_8<|J @AV.one.eq_9<|J @AV.one.eq_10<|J @AV.one.eq_11<|J @AV.one.eq_12<|J @QY.eq_1<|J @QY.eq_2<|J @AV.asD.eq_1<|J @AV.asD.eq_2<|J @AV.asD.eq_3<|J @AV.asD.eq_4<|J @AV.asD.eq_5<|J @AV.asD.eq_6<|J @AV.asD.eq_7<|J @AV.asD.eq_8<|J @AV.asD.eq_9<|J @AV.asD.eq_10 @AV.asD.eq_11
def VC3:=J @AV.asD.eq_12<|J @NV.eq_1<|J @NV.eq_2<|J @NV.eq_3<|J @DC.eq_1<|J @DC.eq_2<|J @Yo.eq_1<|J @Yo.eq_2<|J @hdV.eq_1<|J @hdV.eq_2<|J @oB.eq_1<|J @oB.eq_2<|J @iZ.eq_1<|J @bI.eq_1<|J @Cb.eq_1<|J @D.beq.eq_1<|J @D.beq.eq_2<|J @D.beq.eq_3<|J @D.beq.eq_4<|J @D.beql.eq_1<|J @D.beql.eq_2<|J @lk.eq_1<|J @lk.eq_2<|J @Gy.eq_1<|J @Gy.eq_2<|J @Ja.eq_1<|J @Ja.eq_2<|J @fQ.eq_1<|J @vW.eq_1 @Jj.eq_1
def VC4:=J @Jj.eq_2<|J @Ji.eq_1<|J @Ji.eq_2<|J @WW.eq_1<|J @WW.eq_2<|J @WW.eq_3<|J @WW.eq_4<|J @Yg.eq_1<|J @Yg.eq_2<|J @Qxz.eq_1<|J @Qyo.eq_1<|J @U5.eq_1<|J @Jx.eq_1<|J @Jx.eq_2<|J @tG.eq_1<|J @tG.eq_2<|J @Qri.eq_1<|J @Rp.eq_1<|J @Rp.eq_2<|J @K9.eq_1<|J @K9.eq_2<|J @K9.eq_3<|J @XK.eq_1<|J @XK.eq_2<|J @faK.eq_1<|J @Qhg.eq_1<|J @xZ.eq_1<|J @LZ.eq_1<|J @LZ.eq_2 @XZ.eq_1
def VC5:=J @XZ.eq_2<|J @LY.eq_1<|J @LY.eq_2<|J @Bg.eq_1<|J @Bg.eq_2<|J @xU.eq_1<|J @xU.eq_2<|J @Qjp.eq_1<|J @SI.eq_1<|J @kCh.eq_1<|J @ixK.eq_1<|J @ixK.eq_2<|J @Qxc.eq_1<|J @G9.eq_1<|J @G9.eq_2<|J @G9.eq_3<|J @G9.eq_4<|J @G9.eq_5<|J @G9.eq_6<|J @G9.eq_7<|J @G9.eq_8<|J @G9.eq_9<|J @G9.eq_10<|J @G9.eq_11<|J @G9.eq_12<|J @G9.eq_13<|J @G9.eq_14<|J @G9.eq_15<|J @G9.eq_16 @G9.eq_17
def VC6:=J @IM.eq_1<|J @IM.eq_2<|J @IM.eq_3<|J @IM.eq_4<|J @IM.eq_5<|J @IM.eq_6<|J @IM.eq_7<|J @IM.eq_8<|J @IM.eq_9<|J @IM.eq_10<|J @IM.eq_11<|J @IM.eq_12<|J @IM.eq_13<|J @IM.eq_14<|J @nX.eq_1<|J @Sf.eq_1<|J @vM.eq_1<|J @vM.eq_2<|J @vM.eq_3<|J @vM.eq_4<|J @VX.eq_1<|J @VX.eq_2<|J @VX.eq_3<|J @WR.eq_1<|J @WR.eq_2<|J @WR.eq_3<|J @NG.eq_1<|J @NG.eq_2<|J @NG.eq_3 @J1.eq_1
def VC7:=J @J1.eq_2<|J @Nb.eq_1<|J @Nb.eq_2<|J @uW.eq_1<|J @uW.eq_2<|J @uS.eq_1<|J @uS.eq_2<|J @ZR.eq_1<|J @ZR.eq_2<|J @ZR.eq_3<|J @fW.eq_1<|J @fW.eq_2<|J @fW.eq_3<|J @fW.eq_4<|J @Zb.eq_1<|J @Zb.eq_2<|J @aA.eq_1<|J @aA.eq_2<|J @HC.eq_1<|J @HC.eq_2<|J @HC.eq_3<|J @Js.eq_1<|J @M3.eq_1<|J @NA.eq_1<|J @NA.eq_2<|J @Rx.eq_1<|J @xM.eq_1<|J @xM.eq_2<|J @Qsy.eq_1 @Ib.eq_1
def VC8:=J @Ib.eq_2<|J @Ch.eq_1<|J @Ch.eq_2<|J @IW.eq_1<|J @IW.eq_2<|J @LA.eq_1<|J @LA.eq_2<|J @bsE.eq_1<|J @bsK.eq_1<|J @zT.eq_1<|J @msE.eq_1<|J @msK.eq_1<|J @Qhl.eq_1<|J @ZV.eq_1<|J @ZV.eq_2<|J @Df.eq_1<|J @Df.eq_2<|J @Df.eq_3<|J @Be.eq_1<|J @BT.eq_1<|J @BT.eq_2<|J @Src.okOne.eq_1<|J @Src.okOne.eq_2<|J @Src.okOne.eq_3<|J @N5.eq_1<|J @N5.eq_2<|J @N5.eq_3<|J @nW.eq_1<|J @nW.eq_2<|J @nW.eq_3 @nV.eq_1
def VC9:=J @nV.eq_2<|J @nV.eq_3<|J @IU.eq_1<|J @IU.eq_2<|J @Rr.eq_1<|J @Rr.eq_2<|J @apE.eq_1<|J @apK.eq_1<|J @Qsl.eq_1<|J @FC.eq_1<|J @Qxr.eq_1<|J @Qxr.eq_2<|J @Mf.eq_1<|J @iW.eq_1<|J @iW.eq_2<|J @fV.eq_1<|J @fV.eq_2<|J @fV.eq_3<|J @SR.eq_1<|J @vS.eq_1<|J @vS.eq_2<|J @vS.eq_3<|J @Fu.eq_1<|J @Fu.eq_2<|J @Fu.eq_3<|J @Fu.eq_4<|J @Fu.eq_5<|J @Fu.eq_6<|J @Fu.eq_7 @Fu.eq_8
def VC10:=J @Fu.eq_9<|J @gA.eq_1<|J @Qy3.eq_1<|J @Jg.eq_1<|J @Ta.eq_1<|J @gB.eq_1<|J @gB.eq_2<|J @gB.eq_3<|J @Ym.eq_1<|J @Ym.eq_2<|J @luE.eq_1<|J @luK.eq_1<|J @Qnn.eq_1<|J @Tn.eq_1<|J @Tm.eq_1<|J @Tm.eq_2<|J @KG.eq_1<|J @KG.eq_2<|J @KG.eq_3<|J @KG.eq_4<|J @KG.eq_5<|J @KG.eq_6<|J @KG.eq_7<|J @KG.eq_8<|J @KG.eq_9<|J @muF.eq_1<|J @Tp.eq_1<|J @lP.eq_1<|J @lP.eq_2 @RU.eq_1
def VC11:=J @X9.eq_1<|J @X9.eq_2<|J @RT.eq_1<|J @RT.eq_2<|J @RT.eq_3<|J @RT.eq_4<|J @RT.eq_5<|J @RT.eq_6<|J @RT.eq_7<|J @RT.eq_8<|J @RT.eq_9<|J @Qni.eq_1<|J @exA.eq_1<|J @exA.eq_2<|J @exD.eq_1<|J @exD.eq_2<|J @lS.eq_1<|J @lS.eq_2<|J @lT.eq_1<|J @lT.eq_2<|J @lT.eq_3<|J @lT.eq_4<|J @QD.eq_1<|J @QD.eq_2<|J @Q5.eq_1<|J @Q5.eq_2<|J @Qjk.eq_1<|J @Qg6.eq_1<|J @QS.eq_1 @WF.eq_1
def VC12:=J @WF.eq_2<|J @WF.eq_3<|J @WF.eq_4<|J @Qk7.eq_1<|J @Qk7.eq_2<|J @Qm9.eq_1<|J @Qzp.eq_1<|J @Qsv.eq_1<|J @UR.eq_1<|J @Gu.eq_1<|J @Gu.eq_2<|J @Gu.eq_3<|J @Gu.eq_4<|J @Gs.eq_1<|J @Gs.eq_2<|J @Gs.eq_3<|J @Gs.eq_4<|J @mL.eq_1<|J @mL.eq_2<|J @UQ.eq_1<|J @aH.eq_1<|J @aH.eq_2 @aH.eq_3
def VC13:=J @aH.eq_4<|J @aH.eq_5<|J @KW.eq_1<|J @uQ.eq_1<|J @uQ.eq_2<|J @H5.eq_1<|J @H5.eq_2<|J @Hl.eq_1<|J @LB.eq_1<|J @LB.eq_2<|J @R7.eq_1<|J @iD.eq_1<|J @iE.eq_1<|J @iF.eq_1<|J @IX.eq_1<|J @IX.eq_2<|J @TK.isStr.eq_1<|J @TK.isStr.eq_2<|J @TK.isStr.eq_3<|J @TK.isStr.eq_4<|J @TK.isStr.eq_5<|J @TK.isStr.eq_6<|J @TK.isStr.eq_7<|J @TK.isStr.eq_8<|J @TK.isStr.eq_9<|J @isStr.eq_1<|J @isStr.eq_2<|J @Wi.eq_1 @TK.isSl.eq_1
def VC14:=J @TK.isSl.eq_2<|J @TK.isSl.eq_3<|J @TK.isSl.eq_4<|J @TK.isSl.eq_5<|J @TK.isSl.eq_6<|J @TK.isSl.eq_7<|J @TK.isSl.eq_8<|J @TK.isSl.eq_9<|J @Qlj.eq_1<|J @DI.eq_1<|J @DI.eq_2<|J @Hc.eq_1<|J @Hc.eq_2<|J @UC.eq_1<|J @UC.eq_2<|J @UC.eq_3<|J @Jz.eq_1<|J @Jz.eq_2<|J @Jz.eq_3<|J @vO.eq_1<|J @vO.eq_2<|J @J0.eq_1<|J @J0.eq_2<|J @J0.eq_3<|J @UD.eq_1<|J @zG.eq_1<|J @zG.eq_2<|J @kK.eq_1<|J @Qz.eq_1 @Qz.eq_2
def VC15:=J @Qz.eq_3<|J @Qz.eq_4<|J @Qz.eq_5<|J @Qz.eq_6<|J @Qz.eq_7<|J @Qz.eq_8<|J @Qz.eq_9<|J @Qsm.eq_1<|J @iJ.eq_1<|J @iK.eq_1<|J @fZ.eq_1<|J @fZ.eq_2<|J @fZ.eq_3<|J @RO.eq_1<|J @RP.eq_1<|J @VC.eq_1<|J @VC.eq_2<|J @fR.eq_1<|J @RQ.eq_1<|J @RQ.eq_2<|J @RQ.eq_3<|J @RS.eq_1<|J @RS.eq_2<|J @RS.eq_3<|J @RS.eq_4<|J @RS.eq_5<|J @RS.eq_6<|J @RS.eq_7<|J @RS.eq_8 @RS.eq_9
def VC16:=J @Qzd.eq_1<|J @X2.eq_1<|J @X2.eq_2<|J @RC.eq_1<|J @RC.eq_2<|J @RC.eq_3<|J @RC.eq_4<|J @RC.eq_5<|J @RC.eq_6<|J @RC.eq_7<|J @RC.eq_8<|J @RC.eq_9<|J @Qrt.eq_1<|J @Uj.eq_1<|J @rgD.eq_1<|J @rgM.eq_1<|J @rgM.eq_2<|J @Ui.eq_1<|J @Ui.eq_2<|J @Ui.eq_3<|J @Ui.eq_4<|J @Ui.eq_5<|J @Ui.eq_6<|J @Ui.eq_7<|J @Ui.eq_8<|J @Ui.eq_9<|J @Qsh.eq_1<|J @yS.eq_1<|J @T1.eq_1 @VW.eq_1
def VC17:=J @jM.eq_1<|J @jM.eq_2<|J @Sd.eq_1<|J @Qsz.eq_1<|J @mcE.eq_1<|J @mcV.eq_1<|J @mcK.eq_1<|J @mcK.eq_2<|J @Qi6.eq_1<|J @bG.eq_1<|J @SV.eq_1<|J @SV.eq_2<|J @kF.eq_1<|J @KY.eq_1<|J @kC.eq_1<|J @rvC.eq_1<|J @rvE.eq_1<|J @rvK.eq_1<|J @rvK.eq_2<|J @KX.eq_1<|J @Sg.eq_1<|J @Sh.eq_1<|J @Sh.eq_2<|J @N6.eq_1<|J @N6.eq_2<|J @Ii.eq_1<|J @Ii.eq_2<|J @Ii.eq_3<|J @Ii.eq_4<|J @Ii.eq_5 @Ii.eq_6
def VC18:=J @Ii.eq_7<|J @Ii.eq_8<|J @Ii.eq_9<|J @Ii.eq_10<|J @Ii.eq_11<|J @Ii.eq_12<|J @Ii.eq_13<|J @Ii.eq_14<|J @Ii.eq_15<|J @Ii.eq_16<|J @Ii.eq_17<|J @Ft.eq_1<|J @Ft.eq_2<|J @Ft.eq_3<|J @Ft.eq_4<|J @Ft.eq_5<|J @Ft.eq_6<|J @Ft.eq_7<|J @Ft.eq_8<|J @Ft.eq_9<|J @Ft.eq_10<|J @Ft.eq_11<|J @Ft.eq_12<|J @unS.eq_1<|J @QX.eq_1<|J @QX.eq_2<|J @QX.eq_4<|J @QX.eq_5<|J @QX.eq_6 @QX.eq_7
def VC19:=J @QX.eq_8<|J @QX.eq_9<|J @QX.eq_10<|J @QX.eq_11<|J @Qst.eq_1<|J @KV.eq_1<|J @Ln.eq_1<|J @Ln.eq_2<|J @Ln.eq_3<|J @Ln.eq_4<|J @Ln.eq_5<|J @Ln.eq_6<|J @Ln.eq_7<|J @Ln.eq_8<|J @Ln.eq_9<|J @Ln.eq_10<|J @Ln.eq_11<|J @Ln.eq_12<|J @ZC.eq_1<|J @ZC.eq_2<|J @ZC.eq_3<|J @ZC.eq_4<|J @ZC.eq_5<|J @ZC.eq_6<|J @uH.eq_1<|J @uH.eq_2<|J @uH.eq_3<|J @Yp.eq_1<|J @Yp.eq_2 @Tj.eq_1
def VC20:=J @Tj.eq_2<|J @Tj.eq_3<|J @Tj.eq_4<|J @Tj.eq_5<|J @Tj.eq_6<|J @Tj.eq_7<|J @Tj.eq_8<|J @Tj.eq_9<|J @Qko.eq_1<|J @DP.eq_1<|J @DP.eq_2<|J @JO.eq_1<|J @JO.eq_2<|J @Qrk.eq_1<|J @zU.eq_1<|J @Qno.eq_1<|J @RI.eq_1<|J @RI.eq_2<|J @RH.eq_1<|J @RH.eq_2<|J @RH.eq_3<|J @RH.eq_4<|J @RH.eq_5<|J @RH.eq_6<|J @RH.eq_7<|J @RH.eq_8<|J @HK.eq_1<|J @HK.eq_2<|J @HK.eq_3 @HK.eq_4
def VC21:=J @HK.eq_5<|J @HK.eq_6<|J @HK.eq_7<|J @HK.eq_8<|J @HK.eq_9<|J @HK.eq_10<|J @HK.eq_11<|J @HK.eq_12<|J @HK.eq_13<|J @RG.eq_1<|J @RG.eq_2<|J @RG.eq_3<|J @Oy.eq_1<|J @Oy.eq_2<|J @hnm.eq_1<|J @hnm.eq_2<|J @Qz3.eq_1<|J @Qz3.eq_2<|J @NE.eq_1<|J @NE.eq_2<|J @NE.eq_3<|J @Si.eq_1<|J @Si.eq_2<|J @step.eq_1 @step.eq_2
def VC22:=J @step.eq_3<|J @step.eq_4<|J @step.eq_5<|J @step.eq_6<|J @step.eq_7<|J @step.eq_8<|J @step.eq_9<|J @step.eq_10<|J @step.eq_11<|J @step.eq_12<|J @step.eq_13<|J @step.eq_14<|J @step.eq_15<|J @step.eq_16<|J @step.eq_17<|J @step.eq_18<|J @step.eq_19<|J @step.eq_20<|J @step.eq_21<|J @step.eq_22<|J @step.eq_23<|J @step.eq_24<|J @step.eq_25<|J @step.eq_26<|J @step.eq_27<|J @step.eq_28<|J @step.eq_29<|J @step.eq_30<|J @step.eq_31 @WD.eq_2
def VC23:=J @Aw.eq_1<|J @Aw.eq_2<|J @Aw.eq_3<|J @Aw.eq_4<|J @Aw.eq_5<|J @Aw.eq_6<|J @Aw.eq_7<|J @Aw.eq_8<|J @Ke.eq_1<|J @GW.eq_1<|J @GW.eq_2<|J @Bk.ok_nr<|J @Xa.eq_1<|J @Xa.eq_2<|J @Ga.eq_1<|J @Ga.eq_2<|J @D6.eq_1<|J @DS.eq_1<|J @DS.eq_2<|J @J2.eq_1<|J @MZ.eq_1<|J @XW.eq_1<|J @XW.eq_2<|J @yV.eq_1<|J @yV.eq_2<|J @KS.eq_1<|J @KS.eq_2<|J @Ia.eq_1<|J @Ia.eq_2 @Jn.eq_1
def VC24:=J @Jn.eq_2<|J @Ik.eq_1<|J @Ik.eq_2<|J @FF.eq_1<|J @FF.eq_2<|J @Iz.eq_1<|J @Iz.eq_2<|J @Iz.eq_3<|J @Iz.eq_4<|J @Iz.eq_5<|J @Iz.eq_6<|J @DN.eq_1<|J @DN.eq_2<|J @DN.eq_3<|J @ins.eq_1<|J @SC.eq_1<|J @SC.eq_2<|J @Hf.eq_1<|J @Hf.eq_2<|J @EO.eq_1<|J @EO.eq_2<|J @DX.eq_1<|J @GD.eq_1<|J @GD.eq_2<|J @Bk.touch.eq_1<|J @GF.eq_1<|J @Nc.eq_1<|J @MY.eq_1<|J @XV.eq_1 @XV.eq_2
def VC25:=J @yU.eq_1<|J @yU.eq_2<|J @VP.eq_1<|J @VP.eq_2<|J @Nk.eq_1<|J @Nk.eq_2<|J @Nk.eq_3<|J @Jc.eq_1<|J @Jc.eq_2<|J @mS.eq_1<|J @mS.eq_2<|J @mS.eq_3<|J @Gx.eq_1<|J @Gx.eq_2<|J @Ci.eq_1<|J @Ci.eq_2<|J @CF.eq_1<|J @CF.eq_2<|J @B9.eq_1<|J @B9.eq_2<|J @Av.good.eq_1<|J @pm.eq_1<|J @pm.eq_2<|J @jC.eq_1<|J @FG.eq_1<|J @FG.eq_2<|J @GS.eq_1<|J @GS.eq_2<|J @mt.eq_1 @mt.eq_2
def VC26:=J @mt.eq_3<|J @mt.eq_4<|J @mt.eq_5<|J @mt.eq_6<|J @mt.eq_7<|J @mt.eq_8<|J @mt.eq_9<|J @mt.eq_10<|J @mt.eq_11<|J @mt.eq_13<|J @mt.eq_14<|J @DL.eq_1<|J @DL.eq_2<|J @DL.eq_3<|J @DL.eq_4<|J @Gq.eq_1<|J @Gq.eq_2<|J @Gq.eq_3<|J @Gq.eq_4<|J @EL.eq_1<|J @EL.eq_3<|J @EL.eq_4<|J @EL.eq_5<|J @EL.eq_6<|J @EL.eq_7<|J @EL.eq_8<|J @EL.eq_9<|J @EL.eq_10<|J @EL.eq_11<|J @EL.eq_12 @EL.eq_13
def VC27:=J @EL.eq_14<|J @K4.eq_1<|J @K4.eq_2<|J @Ts.eq_1<|J @Ts.eq_2<|J @Et.eq_1<|J @Et.eq_2<|J @Qm.eq_1<|J @Qm.eq_2<|J @GU.eq_1<|J @GU.eq_2<|J @VL.eq_1<|J @VL.eq_2<|J @OD.eq_1<|J @OD.eq_2<|J @EX.eq_1<|J @EX.eq_2<|J @EX.eq_3<|J @Mo.eq_1<|J @Mo.eq_2<|J @Mo.eq_3<|J @Mn.eq_1<|J @Mn.eq_2<|J @Mn.eq_3<|J @HL.eq_1<|J @HL.eq_2<|J @Sq.eq_1<|J @Hk.eq_1<|J @Hk.eq_2 @Hk.eq_3
def VC28:=J @Hk.eq_4<|J @Hk.eq_5<|J @Hk.eq_6<|J @Hk.eq_7<|J @KN.eq_1<|J @KN.eq_2<|J @Jt.eq_1<|J @Jt.eq_2<|J @Fw.eq_1<|J @Fw.eq_2<|J @Fw.eq_3<|J @Fw.eq_4<|J @Fw.eq_5<|J @Fw.eq_6<|J @Fw.eq_7<|J @Fw.eq_8<|J @AV.fzA.eq_1<|J @AV.fzA.eq_2<|J @AV.fzA.eq_3<|J @AV.fzA.eq_4<|J @AV.fzA.eq_5<|J @AV.fzA.eq_6<|J @AV.fzA.eq_7<|J @AV.fzA.eq_8<|J @AV.fzA.eq_9<|J @AV.fzA.eq_10<|J @AV.fzA.eq_11<|J @AV.fzA.eq_12<|J @DJ.eq_1 @DJ.eq_2
def VC29:=J @D5.eq_1<|J @D5.eq_2<|J @Ab.fzA.eq_1<|J @Ab.fzA.eq_2<|J @Ab.fzA.eq_3<|J @Ab.fzA.eq_4<|J @Ab.fzA.eq_5<|J @Ab.fzA.eq_6<|J @Ab.fzA.eq_7<|J @HO.eq_1<|J @HO.eq_2<|J @HN.eq_1<|J @HN.eq_2<|J @Su.eq_1<|J @Mm.eq_1<|J @Mm.eq_2<|J @Mm.eq_3<|J @Dh.eq_1<|J @Dh.eq_2<|J @Dh.eq_3<|J @Dh.eq_4<|J @Dh.eq_5<|J @Dh.eq_6<|J @Dh.eq_7<|J @Dh.eq_8<|J @Dh.eq_9<|J @KK.fit.eq_1<|J @KK.fit.eq_2<|J @KK.fit.eq_3 @Bw.eq_1
def VC30:=J @Bw.eq_2<|J @AV.bel.eq_1<|J @AV.bel.eq_2<|J @AV.bel.eq_3<|J @AV.bel.eq_4<|J @AV.bel.eq_5<|J @AV.bel.eq_6<|J @AV.bel.eq_7<|J @AV.bel.eq_8<|J @AV.bel.eq_9<|J @AV.bel.eq_10<|J @AV.bel.eq_11<|J @AV.bel.eq_12<|J @AF.eq_1<|J @AF.eq_2<|J @AV.nms.eq_1<|J @AV.nms.eq_2<|J @AV.nms.eq_3<|J @AV.nms.eq_4<|J @AV.nms.eq_5<|J @AV.nms.eq_6<|J @AV.nms.eq_7<|J @AV.nms.eq_8<|J @AV.nms.eq_9<|J @AV.nms.eq_10<|J @AV.nms.eq_11<|J @AV.nms.eq_12<|J @AA.eq_1<|J @AA.eq_2 @B5.eq_1
def VC31:=J @B5.eq_2<|J @Ab.nms.eq_1<|J @Ab.nms.eq_2<|J @Ab.nms.eq_3<|J @Ab.nms.eq_4<|J @Ab.nms.eq_5<|J @Ab.nms.eq_6<|J @Ab.nms.eq_7<|J @AV.ren.eq_1<|J @AV.ren.eq_2<|J @AV.ren.eq_3<|J @AV.ren.eq_4<|J @AV.ren.eq_5<|J @AV.ren.eq_6<|J @AV.ren.eq_7<|J @AV.ren.eq_8<|J @AV.ren.eq_9<|J @AV.ren.eq_10<|J @AV.ren.eq_11<|J @AV.ren.eq_12<|J @AH.eq_1<|J @AH.eq_2<|J @Ab.ren.eq_1<|J @Ab.ren.eq_2<|J @Ab.ren.eq_3<|J @Ab.ren.eq_4<|J @Ab.ren.eq_5<|J @Ab.ren.eq_6<|J @Ab.ren.eq_7 @Ar.eq_1
def VC32:=J @Ar.eq_2<|J @Qh.eq_1<|J @Qh.eq_2<|J @WY.eq_1<|J @WS.eq_1<|J @oC.eq_1<|J @oC.eq_2<|J @iY.eq_1<|J @iY.eq_2<|J @iY.eq_3<|J @Jl.eq_1<|J @kp.eq_1<|J @kp.eq_2<|J @Er.eq_1<|J @Er.eq_2<|J @Ba.eq_1<|J @Ba.eq_2<|J @Ba.eq_3<|J @Ba.eq_4<|J @Ba.eq_5<|J @Ba.eq_6<|J @Ba.eq_7<|J @Ba.eq_8<|J @Ba.eq_9<|J @Ba.eq_10<|J @Ba.eq_11<|J @Ba.eq_12<|J @Ba.eq_13<|J @Ba.eq_14 @LC.eq_1
def VC33:=J @IY.eq_1<|J @IY.eq_2<|J @Kp.eq_1<|J @Kp.eq_2<|J @Dp.eq_1<|J @entry.eq_1<|J @entry.eq_2<|J @Ya.eq_1<|J @Ya.eq_2<|J @HP.eq_1<|J @Cm.eq_1<|J @Cm.eq_2<|J @Cm.eq_3<|J @Cm.eq_4<|J @Cm.eq_5<|J @Cm.eq_6<|J @Cm.eq_7<|J @IZ.eq_1<|J @IZ.eq_2<|J @IZ.eq_3<|J @klE.eq_1<|J @klE.eq_2<|J @Jp.eq_1<|J @Jp.eq_2<|J @exE.eq_1<|J @exE.eq_2<|J @exE.eq_3<|J @Jo.eq_1<|J @Jo.eq_2 @Rs.eq_1
def VC34:=J @Rs.eq_2<|J @Rs.eq_3<|J @YC.eq_1<|J @YC.eq_2<|J @XJ.eq_1<|J @XJ.eq_2<|J @Jv.eq_1<|J @Jv.eq_2<|J @Jv.eq_3<|J @bS.eq_1<|J @ML.eq_1<|J @ML.eq_2<|J @Uf.eq_1<|J @Pj.eq_1<|J @Pj.eq_2<|J @Pj.eq_3<|J @K7.eq_1<|J @xT.eq_1<|J @xT.eq_2<|J @xS.eq_1<|J @sg.eq_1<|J @AS.eq_1<|J @AS.eq_2<|J @Q4.eq_1<|J @Q4.eq_2<|J @CR.eq_1<|J @CR.eq_2<|J @CR.eq_3<|J @CQ.eq_1 @CQ.eq_2
def VC35:=J @CQ.eq_3<|J @BK.eq_1<|J @BK.eq_2<|J @BK.eq_3<|J @Qv.eq_1<|J @Qv.eq_2<|J @Qv.eq_3<|J @Qv.eq_4<|J @Qv.eq_5<|J @Qv.eq_6<|J @Qv.eq_7<|J @Qv.eq_8<|J @Qu.eq_1<|J @Qu.eq_2<|J @Qu.eq_3<|J @Qu.eq_4<|J @Qu.eq_5<|J @Qu.eq_6<|J @Qu.eq_7<|J @Qu.eq_8<|J @oA.eq_1<|J @oA.eq_2<|J @Eu.eq_1<|J @Eu.eq_2<|J @Eu.eq_3<|J @Eu.eq_4<|J @Eu.eq_5<|J @Eu.eq_6<|J @Eu.eq_7<|J @Eu.eq_8 @Eu.eq_9
def VC36:=J @Eu.eq_10<|J @Eu.eq_11<|J @Eu.eq_12<|J @Sv.eq_1<|J @Sv.eq_2<|J @bN.eq_1<|J @bN.eq_2<|J @F4.eq_1<|J @F4.eq_2<|J @F4.eq_3<|J @F4.eq_4<|J @F4.eq_5<|J @F4.eq_6<|J @F4.eq_7<|J @F4.eq_8<|J @F4.eq_9<|J @F4.eq_10<|J @F4.eq_11<|J @F4.eq_12<|J @F4.eq_13<|J @F4.eq_14<|J @F4.eq_15<|J @F4.eq_16<|J @F4.eq_17<|J @pkC.eq_1<|J @pkC.eq_2<|J @Qy.eq_1<|J @Qy.eq_2<|J @Qy.eq_3 @Qy.eq_4
def VC37:=J @Qy.eq_5<|J @Qy.eq_6<|J @Qy.eq_7<|J @Qy.eq_8<|J @pkR.eq_1<|J @pkR.eq_2<|J @TJ.eq_1<|J @TJ.eq_2<|J @TJ.eq_3<|J @TJ.eq_4<|J @TJ.eq_5<|J @TJ.eq_6<|J @TJ.eq_7<|J @TJ.eq_8<|J @I8.eq_1<|J @I8.eq_2<|J @I8.eq_3<|J @I8.eq_4<|J @I8.eq_5<|J @I8.eq_6<|J @I8.eq_7<|J @I8.eq_8<|J @I8.eq_9<|J @I8.eq_10<|J @I8.eq_11<|J @I8.eq_12<|J @WT.eq_1<|J @WT.eq_2<|J @WT.eq_3 @Hv.eq_1
def VC38:=J @Hv.eq_2<|J @DV.eq_1<|J @DV.eq_2<|J @O8.eq_1<|J @O8.eq_2<|J @Vt.eq_1<|J @Vt.eq_2<|J @DO.eq_1<|J @EU.eq_1<|J @EU.eq_2<|J @EU.eq_3<|J @EU.eq_4<|J @EU.eq_5<|J @EU.eq_6<|J @EU.eq_7<|J @EU.eq_8<|J @EU.eq_9<|J @EU.eq_10<|J @EU.eq_11<|J @EU.eq_12<|J @M5.eq_1<|J @BE.eq_1<|J @Ak.eq_1<|J @I5.eq_1<|J @Se.eq_1<|J @Se.eq_2<|J @El.eq_1<|J @El.eq_2<|J @HU.eq_1 @HU.eq_2
def VC39:=J @MJ.eq_1<|J @MJ.eq_2<|J @bQ.eq_1<|J @MI.eq_1<|J @MI.eq_2<|J @HT.eq_1<|J @NC.eq_1<|J @NC.eq_2<|J @NC.eq_3<|J @FK.eq_1<|J @FK.eq_2<|J @FK.eq_3<|J @CL.eq_1<|J @CL.eq_2<|J @BS.eq_1<|J @BS.eq_2<|J @I7.eq_1<|J @eY.eq_1<|J @eY.eq_2<|J @Xb.eq_1<|J @Xb.eq_2<|J @VM.eq_1<|J @VM.eq_2<|J @Ur.eq_1<|J @Ur.eq_2<|J @iQ.eq_1<|J @nZ.eq_1<|J @nZ.eq_2<|J @Je.eq_1 @Je.eq_2
def VC40:=J @Sp.eq_1<|J @Sp.eq_2<|J @Sp.eq_3<|J @KA.eq_1<|J @KA.eq_2<|J @OA.eq_1<|J @OA.eq_2<|J @OA.eq_3<|J @OA.eq_4<|J @MK.eq_1<|J @MK.eq_2<|J @KR.eq_1<|J @aK.eq_1<|J @aK.eq_2<|J @aK.eq_3<|J @Kv.eq_1<|J @Kv.eq_2<|J @L8.eq_1<|J @aB.eq_1<|J @aB.eq_2<|J @Ot.eq_1<|J @Ot.eq_2<|J @Ot.eq_3<|J @bk.eq_1<|J @bk.eq_2<|J @bk.eq_3<|J @bk.eq_4<|J @bk.eq_5<|J @bk.eq_6 @bk.eq_7
def VC41:=J @bk.eq_8<|J @bk.eq_9<|J @bk.eq_10<|J @bk.eq_11<|J @bk.eq_12<|J @bk.eq_13<|J @Jr.eq_1<|J @DY.eq_1<|J @L9.eq_1<|J @L9.eq_2<|J @Xw.eq_1<|J @Dc.eq_1<|J @Dc.eq_2<|J @Dc.eq_3<|J @Dc.eq_4<|J @Dc.eq_5<|J @Dc.eq_6<|J @Dc.eq_7<|J @Dc.eq_8<|J @Dc.eq_9<|J @Dc.eq_10<|J @Dc.eq_11<|J @Dc.eq_12<|J @Hz.eq_1<|J @Hz.eq_2<|J @Hz.eq_3<|J @Cf.eq_1<|J @Cf.eq_2<|J @Vy.eq_1 @Vy.eq_2
def VC42:=J @BC.eq_1<|J @XB<|J @XC<|J @XD<|J @XE<|J @RZ<|J @Sa<|J @Sb<|J @Sc<|J @Qabq<|J @O3<|J @RY<|J @XI<|J @XH<|J @XG<|J @iN<|J @jJ<|J @Yv<|J @jK<|J @jI<|J @jE<|J @Yt<|J @jH<|J @jD<|J @jG<|J @jF<|J @yQ<|J @yR<|J @YH @Pq
def VC43:=J @YJ<|J @Ut<|J @kE<|J @Uv<|J @Qs8<|J @YG<|J @U4<|J @Qyd<|J @Uu<|J @YK<|J @Qaa9<|J @Qyi<|J @Qaa8<|J @Qvy<|J @Qv2<|J @Qvr<|J @Uy<|J @Pt<|J @Qwt<|J @Ps<|J @Qabt<|J @Ux<|J @YF<|J @U3<|J @U1<|J @YI<|J @Uw<|J @Qyj<|J @Qmy<|J @Uz @Qs9
end Go.Ae
