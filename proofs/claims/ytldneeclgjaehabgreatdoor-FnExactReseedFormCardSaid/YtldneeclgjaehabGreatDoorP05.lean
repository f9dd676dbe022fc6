/- Lemmas. Conditions: none. -/
import Derived.Test.YtldneeclgjaehabGreatDoorP04
set_option linter.all false
set_option maxHeartbeats 8000000
set_option maxRecDepth 100000
namespace Go.Ae
def Zi(ks:List KK)(ds:List D):KT.fit ⟨true,ks⟩ (.agg ds)=BH ks ds:=rfl
def Zj(ks:List KK)(k:IntKind)(n:Int):KT.fit ⟨false,ks⟩ (.int k n)=BH ks [.int k n]:=rfl
def Zk(ks:List KK)(s:MM):KT.fit ⟨false,ks⟩ (.str s)=BH ks [.str s]:=rfl
def Zl(ks:List KK)(s:Bool):KT.fit ⟨false,ks⟩ (.bool s)=BH ks [.bool s]:=rfl
def Tm:DB []= .tup []:=rfl
def Tp(x y:AV):DB [x,y]= .tup [x,y]:=rfl
def Tq(x y z:AV):DB [x,y,z]= .tup [x,y,z]:=rfl
def Tr(x y z w:AV):DB [x,y,z,w]= .tup [x,y,z,w]:=rfl
def Qabq(t:Option Nat)(z:Bool)(s:Az)(Kdo Kskip:Az->Prop)(b:Bool):Yp t z s Kdo Kskip (.im (.bool b))=if b=z then Kdo (s.put t (.im (.bool z))) else Kskip (s.put t (.im (.bool (!z)))):=by
 cases b<;>cases z<;>simp[Yp]
def P8(A B:CI->Az->Prop)(Q:CI)(s:Az)(b:Bool):yO A B Q s (.im (.bool b))=if b=true then A Q s else B Q s:=by
 cases b<;>simp[yO]
def Tk(c:Bool)(K:Al)(a b:AV):NC c K a b=if c=true then K a {} else K b {}:=by
 cases c<;>simp[NC]
def Zo(m:Nat)(x:AV)(r:TmT)(n:Nat):AF ((m,x)::r) n=if m=n then x else AF r n:=by
 by_cases h:m=n
 .subst h;simp[AF]
 .have:(m==n)=false:=by simpa using h
  simp[AF,this,h]
def Zn(m:Nat)(x:Ap)(r:An)(n:Nat):hget ((m,x)::r) n=if m=n then some x else hget r n:=by
 by_cases h:m=n
 .subst h;simp[hget]
 .have:(m==n)=false:=by simpa using h
  simp[hget,this,h]
def Zm(m:Nat)(x:Ap)(r:An)(ks:List Nat):Bp ((m,x)::r) ks=if ks.contains m=true then Bp r ks else (m,x)::Bp r ks:=by
 cases h:ks.contains m<;>simp only[Bp,h]<;>simp
def mB(cl:List (List Nat))(j:Nat)(use touch z:List Nat)(f:Fp):YZ cl j use touch z f=if (GE (use++touch) f.touch && (GE touch f.use && Fm f.nx f.cnt z))=true then true else D0 cl f.i j:=by
 unfold YZ;cases (GE (use++touch) f.touch && (GE touch f.use && Fm f.nx f.cnt z))<;>rfl
def mZ(k:IntKind)(n:Int):Ha (.int k n)=0:=rfl
def aB(b:Bool):Ha (.bool b)=0:=rfl
def nA(s:MM):Ha (.string s)=0:=rfl
def mY(cs:Array Value):Ha (.agg cs)=0:=rfl
def mT(k:IntKind)(n:Int):RY (.int k n)=false:=rfl
def ZW(b:Bool):RY (.bool b)=false:=rfl
def mW(s:MM):RY (.string s)=false:=rfl
def mS(cs:Array Value):RY (.agg cs)=false:=rfl
def mV(a:Option Addr):RY (.pointer a)=false:=rfl
def mU(a:Option Nat):RY (.map a)=false:=rfl
def ns_nf:RY .nilFunc=false:=rfl
def ns_ni:RY .nilIface=false:=rfl
section
variable (P:Program)(V:DK)(tm:TmT)(h:HpT)(nx:Nat)(ty:TypeId)(K:Al)
def bA(x:Operand):E3 P V tm h nx ty K (.move x)=step P V true tm h nx ty K (.move x):=rfl
def Qp(x:Operand):E3 P V tm h nx ty K (.assign x)=step P V true tm h nx ty K (.assign x):=rfl
def bC(c:Operand)(a:Operand)(b:Operand):E3 P V tm h nx ty K (.pick c a b)=step P V true tm h nx ty K (.pick c a b):=rfl
def VE(t:TypeId):E3 P V tm h nx ty K (.alloc t)=step P V true tm h nx ty K (.alloc t):=rfl
def nZ(t:TypeId)(x:Operand):E3 P V tm h nx ty K (.box t x)=step P V true tm h nx ty K (.box t x):=rfl
def VG(t:TypeId)(ps:Array (Nat×Operand)):E3 P V tm h nx ty K (.build t ps)=step P V true tm h nx ty K (.build t ps):=rfl
def Qs8(t:TypeId)(n:Nat)(ps:Array (Nat×Operand)):E3 P V tm h nx ty K (.buildSlice t n ps)=step P V true tm h nx ty K (.buildSlice t n ps):=rfl
def aZ(t:TypeId)(x:Operand):E3 P V tm h nx ty K (.load t x)=step P V true tm h nx ty K (.load t x):=rfl
def VN(t:TypeId)(x:Operand)(v:Operand):E3 P V tm h nx ty K (.store t x v)=step P V true tm h nx ty K (.store t x v):=rfl
def Qyd(x:Operand):E3 P V tm h nx ty K (.nilCheck x)=step P V true tm h nx ty K (.nilCheck x):=rfl
def VF(op:BinOp)(t:TypeId)(x:Operand)(y:Operand)(u:TypeId):E3 P V tm h nx ty K (.binOp op t x y u)=step P V true tm h nx ty K (.binOp op t x y u):=rfl
def bD(op:UnOp)(t:TypeId)(x:Operand):E3 P V tm h nx ty K (.unOp op t x)=step P V true tm h nx ty K (.unOp op t x):=rfl
def Qaa9(s:TypeId)(t:TypeId)(x:Operand):E3 P V tm h nx ty K (.convert s t x)=step P V true tm h nx ty K (.convert s t x):=rfl
def Qyi(f:Fn)(a:Array Operand)(c:Array Operand):E3 P V tm h nx ty K (.makeFunc f a c)=step P V true tm h nx ty K (.makeFunc f a c):=rfl
def Qaa8(t:TypeId)(r:Option Operand):E3 P V tm h nx ty K (.makeMap t r)=step P V true tm h nx ty K (.makeMap t r):=rfl
def Qvy(t:TypeId)(l:Operand)(c:Operand):E3 P V tm h nx ty K (.makeSlice t l c)=step P V true tm h nx ty K (.makeSlice t l c):=rfl
def Qv2(t:TypeId)(x:Operand)(f:Nat):E3 P V tm h nx ty K (.fieldAddr t x f)=step P V true tm h nx ty K (.fieldAddr t x f):=rfl
def Qvr(t:TypeId)(x:Operand)(i:Operand):E3 P V tm h nx ty K (.indexAddr t x i)=step P V true tm h nx ty K (.indexAddr t x i):=rfl
def VJ(t:TypeId)(x:Operand)(i:Operand):E3 P V tm h nx ty K (.index t x i)=step P V true tm h nx ty K (.index t x i):=rfl
def Qr(t:TypeId)(m:Operand)(k:Operand)(ok:Bool):E3 P V tm h nx ty K (.lookup t m k ok)=step P V true tm h nx ty K (.lookup t m k ok):=rfl
def Qwt(t:TypeId)(m:Operand)(k:Operand)(v:Operand):E3 P V tm h nx ty K (.mapUpdate t m k v)=step P V true tm h nx ty K (.mapUpdate t m k v):=rfl
def Qq(t:TypeId)(m:Operand)(k:Operand)(v:Operand):E3 P V tm h nx ty K (.insert t m k v)=step P V true tm h nx ty K (.insert t m k v):=rfl
def Qabt(x:Operand)(i:Nat):E3 P V tm h nx ty K (.extract x i)=step P V true tm h nx ty K (.extract x i):=rfl
def VI(t:TypeId)(x:Operand)(i:Nat):E3 P V tm h nx ty K (.field t x i)=step P V true tm h nx ty K (.field t x i):=rfl
def aY(c:Call):E3 P V tm h nx ty K (.call c)=step P V true tm h nx ty K (.call c):=rfl
def VM(t:TypeId)(x:Operand)(lo:Option Operand)(z:Option Operand)(O:Option Operand):E3 P V tm h nx ty K (.slice t x lo z O)=step P V true tm h nx ty K (.slice t x lo z O):=rfl
def VL(t:TypeId)(x:Operand):E3 P V tm h nx ty K (.range t x)=step P V true tm h nx ty K (.range t x):=rfl
def bB(x:Operand)(b:Bool):E3 P V tm h nx ty K (.next x b)=step P V true tm h nx ty K (.next x b):=rfl
def VH(x:Operand):E3 P V tm h nx ty K (.entry x)=step P V true tm h nx ty K (.entry x):=rfl
def Qyj(t:TypeId)(x:Operand):E3 P V tm h nx ty K (.makeChan t x)=step P V true tm h nx ty K (.makeChan t x):=rfl
def Qmy(t:TypeId)(x:Operand):E3 P V tm h nx ty K (.makeInterface t x)=step P V true tm h nx ty K (.makeInterface t x):=rfl
def VK(x:Operand):E3 P V tm h nx ty K (.panic x)=step P V true tm h nx ty K (.panic x):=rfl
def Qs9(x:Operand)(t:TypeId)(u:TypeId)(ok:Bool):E3 P V tm h nx ty K (.typeAssert x t u ok)=step P V true tm h nx ty K (.typeAssert x t u ok):=rfl
end
def J{a b:Prop}(x:a)(y:b):a/\b:=⟨x,y⟩
def VC0:=J @AF.eq_1<|J @hget.eq_1<|J @Bp.eq_1<|J @Az.put.eq_1<|J @Az.put.eq_2<|J @Az.app_nr<|J @kD.eq_1<|J @kD.eq_2<|J @kD.eq_3<|J @kD.eq_4<|J @kD.eq_5<|J @kD.eq_6<|J @kD.eq_7<|J @kD.eq_8<|J @kD.eq_9<|J @Ay.eq_1<|J @Ay.eq_2<|J @Ay.eq_3<|J @Ay.eq_4<|J @D.cells.eq_1<|J @D.cells.eq_2<|J @D.cells.eq_3<|J @D.cells.eq_4<|J @D.cells.eq_5<|J @D.cells.eq_6<|J @D.cells.eq_7<|J @D.cells.eq_8<|J @D.cells.eq_9<|J @D.cells.eq_10<|@D.cells.eq_11
def VC1:=J @D.cells.eq_12<|J @D.cells.eq_13<|J @D.cells.eq_14<|J @D.cells.eq_15<|J @D.cells.eq_16<|J @D.cells.eq_17<|J @AV.cells.eq_1<|J @AV.cells.eq_2<|J @AV.cells.eq_3<|J @AV.cells.eq_4<|J @AV.cells.eq_5<|J @AV.cells.eq_6<|J @AV.cells.eq_7<|J @AV.cells.eq_8<|J @AV.cells.eq_9<|J @AV.cells.eq_10<|J @AV.cells.eq_11<|J @AV.cells.eq_12<|J @D.one.eq_1<|J @D.one.eq_2<|J @D.one.eq_3<|J @D.one.eq_4<|J @D.one.eq_5<|J @D.one.eq_6<|J @D.one.eq_7<|J @D.one.eq_8<|J @D.one.eq_9<|J @D.one.eq_10<|J @D.one.eq_11<|@D.one.eq_12
def VC2:=J @D.one.eq_13<|J @D.one.eq_14<|J @D.one.eq_15<|J @D.one.eq_16<|J @D.one.eq_17<|J @AV.one.eq_1<|J @AV.one.eq_2<|J @AV.one.eq_3<|J @AV.one.eq_4<|J @AV.one.eq_5<|J @AV.one.eq_6<|J @AV.one.eq_7<|J @AV.one.eq_8<|J @AV.one.eq_9<|J @AV.one.eq_10<|J @AV.one.eq_11<|J @AV.one.eq_12<|J @Si.eq_1<|J @Si.eq_2<|J @AV.asD.eq_1<|J @AV.asD.eq_2<|J @AV.asD.eq_3<|J @AV.asD.eq_4<|J @AV.asD.eq_5<|J @AV.asD.eq_6<|J @AV.asD.eq_7<|J @AV.asD.eq_8<|J @AV.asD.eq_9<|J @AV.asD.eq_10<|J @AV.asD.eq_11<|@AV.asD.eq_12
def VC3:=J @Pb.eq_1<|J @Pb.eq_2<|J @Pb.eq_3<|J @Ea.eq_1<|J @Ea.eq_2<|J @ZO.eq_1<|J @ZO.eq_2<|J @hdV.eq_1<|J @hdV.eq_2<|J @rZ.eq_1<|J @rZ.eq_2<|J @mN.eq_1<|J @fK.eq_1<|J @C6.eq_1<|J @D.beq.eq_1<|J @D.beq.eq_2<|J @D.beq.eq_3<|J @D.beq.eq_4<|J @D.beql.eq_1<|J @D.beql.eq_2<|J @lk.eq_1<|J @lk.eq_2<|J @Fq.eq_1<|J @Fq.eq_2<|J @MH.eq_1<|J @MH.eq_2<|J @jX.eq_1<|J @yW.eq_1<|J @JU.eq_1<|@JU.eq_2
def VC4:=J @JT.eq_1<|J @JT.eq_2<|J @Y3.eq_1<|J @Y3.eq_2<|J @Y3.eq_3<|J @Y3.eq_4<|J @ZD.eq_1<|J @ZD.eq_2<|J @Qxz.eq_1<|J @Qyo.eq_1<|J @VO.eq_1<|J @Kj.eq_1<|J @Kj.eq_2<|J @wP.eq_1<|J @wP.eq_2<|J @Qri.eq_1<|J @S7.eq_1<|J @S7.eq_2<|J @LD.eq_1<|J @LD.eq_2<|J @LD.eq_3<|J @Zr.eq_1<|J @Zr.eq_2<|J @faK.eq_1<|J @Qhg.eq_1<|J @kRef.eq_1<|J @Nc.eq_1<|J @Nc.eq_2<|J @TW.eq_1<|@TV.eq_1
def VC5:=J @TV.eq_2<|J @TV.eq_3<|J @Nb.eq_1<|J @Nb.eq_2<|J @Bz.eq_1<|J @Bz.eq_2<|J @iaK.eq_1<|J @iaK.eq_2<|J @Qjp.eq_1<|J @Uf.eq_1<|J @kCh.eq_1<|J @ixK.eq_1<|J @ixK.eq_2<|J @Qxc.eq_1<|J @HC.eq_1<|J @HC.eq_2<|J @HC.eq_3<|J @HC.eq_4<|J @HC.eq_5<|J @HC.eq_6<|J @HC.eq_7<|J @HC.eq_8<|J @HC.eq_9<|J @HC.eq_10<|J @HC.eq_11<|J @HC.eq_12<|J @HC.eq_13<|J @HC.eq_14<|J @HC.eq_15<|J @HC.eq_16<|@HC.eq_17
def VC6:=J @J4.eq_1<|J @J4.eq_2<|J @J4.eq_3<|J @J4.eq_4<|J @J4.eq_5<|J @J4.eq_6<|J @J4.eq_7<|J @J4.eq_8<|J @J4.eq_9<|J @J4.eq_10<|J @J4.eq_11<|J @J4.eq_12<|J @J4.eq_13<|J @J4.eq_14<|J @eQ.eq_1<|J @Tu.eq_1<|J @yM.eq_1<|J @yM.eq_2<|J @yM.eq_3<|J @yM.eq_4<|J @X1.eq_1<|J @X1.eq_2<|J @X1.eq_3<|J @Yz.eq_1<|J @Yz.eq_2<|J @Yz.eq_3<|J @OD.eq_1<|J @OD.eq_2<|J @OD.eq_3<|@Km.eq_1
def VC7:=J @Km.eq_2<|J @Ob.eq_1<|J @Ob.eq_2<|J @xY.eq_1<|J @xY.eq_2<|J @xU.eq_1<|J @xU.eq_2<|J @dN.eq_1<|J @dN.eq_2<|J @dN.eq_3<|J @kE.eq_1<|J @kE.eq_2<|J @kE.eq_3<|J @kE.eq_4<|J @bT.eq_1<|J @bT.eq_2<|J @dU.eq_1<|J @dU.eq_2<|J @IF.eq_1<|J @IF.eq_2<|J @IF.eq_3<|J @Kc.eq_1<|J @NE.eq_1<|J @O8.eq_1<|J @O8.eq_2<|J @SG.eq_1<|J @zF.eq_1<|J @zF.eq_2<|J @Qsy.eq_1<|@IZ.eq_1
def VC8:=J @IZ.eq_2<|J @C9.eq_1<|J @C9.eq_2<|J @JG.eq_1<|J @JG.eq_2<|J @M9.eq_1<|J @M9.eq_2<|J @bsE.eq_1<|J @bsK.eq_1<|J @Qfp.eq_1<|J @msE.eq_1<|J @msK.eq_1<|J @Qhl.eq_1<|J @dQ.eq_1<|J @dQ.eq_2<|J @DE.eq_1<|J @DE.eq_2<|J @DE.eq_3<|J @Bw.eq_1<|J @Ee.eq_1<|J @Ee.eq_2<|J @Src.okOne.eq_1<|J @Src.okOne.eq_2<|J @Src.okOne.eq_3<|J @O5.eq_1<|J @O5.eq_2<|J @O5.eq_3<|J @rR.eq_1<|J @rR.eq_2<|J @rR.eq_3<|@rQ.eq_1
def VC9:=J @rQ.eq_2<|J @rQ.eq_3<|J @JD.eq_1<|J @JD.eq_2<|J @S9.eq_1<|J @S9.eq_2<|J @apE.eq_1<|J @apK.eq_1<|J @Qsl.eq_1<|J @GY.eq_1<|J @Qxr.eq_1<|J @Qxr.eq_2<|J @Nm.eq_1<|J @mK.eq_1<|J @mK.eq_2<|J @kA.eq_1<|J @kA.eq_2<|J @kA.eq_3<|J @Uk.eq_1<|J @yS.eq_1<|J @yS.eq_2<|J @yS.eq_3<|J @Gx.eq_1<|J @Gx.eq_2<|J @Gx.eq_3<|J @Gx.eq_4<|J @Gx.eq_5<|J @Gx.eq_6<|J @Gx.eq_7<|@Gx.eq_8
def VC10:=J @Gx.eq_9<|J @kK.eq_1<|J @Qy3.eq_1<|J @JR.eq_1<|J @Uq.eq_1<|J @kL.eq_1<|J @kL.eq_2<|J @kL.eq_3<|J @ZK.eq_1<|J @ZK.eq_2<|J @luE.eq_1<|J @luK.eq_1<|J @Qnn.eq_1<|J @U4.eq_1<|J @U3.eq_1<|J @U3.eq_2<|J @LL.eq_1<|J @LL.eq_2<|J @LL.eq_3<|J @LL.eq_4<|J @LL.eq_5<|J @LL.eq_6<|J @LL.eq_7<|J @LL.eq_8<|J @LL.eq_9<|J @muF.eq_1<|J @U5.eq_1<|J @pI.eq_1<|J @pI.eq_2<|@Tg.eq_1
def VC11:=J @Zg.eq_1<|J @Zg.eq_2<|J @Tf.eq_1<|J @Tf.eq_2<|J @Tf.eq_3<|J @Tf.eq_4<|J @Tf.eq_5<|J @Tf.eq_6<|J @Tf.eq_7<|J @Tf.eq_8<|J @Tf.eq_9<|J @Qni.eq_1<|J @exA.eq_1<|J @exA.eq_2<|J @exD.eq_1<|J @exD.eq_2<|J @pJ.eq_1<|J @pJ.eq_2<|J @pK.eq_1<|J @pK.eq_2<|J @pK.eq_3<|J @pK.eq_4<|J @R7.eq_1<|J @R7.eq_2<|J @Rx.eq_1<|J @Rx.eq_2<|J @Qjk.eq_1<|J @Qg6.eq_1<|J @RY.eq_1<|J @Yr.eq_1<|@Yr.eq_2
def VC12:=J @Yr.eq_3<|J @Yr.eq_4<|J @Qk7.eq_1<|J @Qk7.eq_2<|J @Qm9.eq_1<|J @Qzp.eq_1<|J @Qsv.eq_1<|J @Wg.eq_1<|J @Ha.eq_1<|J @Ha.eq_2<|J @Ha.eq_3<|J @Ha.eq_4<|J @Gy.eq_1<|J @Gy.eq_2<|J @Gy.eq_3<|J @Gy.eq_4<|J @qD.eq_1<|J @qD.eq_2<|J @RE.eq_1<|J @RE.eq_2<|J @XP.eq_1<|J @XP.eq_2<|J @Wh.eq_1<|J @XO.eq_1<|J @XO.eq_2<|J @Oc.eq_1<|J @dY.eq_1<|J @dY.eq_2<|J @dY.eq_3<|@dY.eq_4
def VC13:=J @dY.eq_5<|J @LZ.eq_1<|J @xS.eq_1<|J @xS.eq_2<|J @I6.eq_1<|J @I6.eq_2<|J @Ig.eq_1<|J @MA.eq_1<|J @MA.eq_2<|J @SN.eq_1<|J @lQ.eq_1<|J @lR.eq_1<|J @lS.eq_1<|J @JH.eq_1<|J @JH.eq_2<|J @TK.isStr.eq_1<|J @TK.isStr.eq_2<|J @TK.isStr.eq_3<|J @TK.isStr.eq_4<|J @TK.isStr.eq_5<|J @TK.isStr.eq_6<|J @TK.isStr.eq_7<|J @TK.isStr.eq_8<|J @TK.isStr.eq_9<|J @isStr.eq_1<|J @isStr.eq_2<|J @XA.eq_1<|J @Od.eq_1<|J @Oe.eq_1<|@TK.isSl.eq_1
def VC14:=J @TK.isSl.eq_2<|J @TK.isSl.eq_3<|J @TK.isSl.eq_4<|J @TK.isSl.eq_5<|J @TK.isSl.eq_6<|J @TK.isSl.eq_7<|J @TK.isSl.eq_8<|J @TK.isSl.eq_9<|J @Qlj.eq_1<|J @Eo.eq_1<|J @Eo.eq_2<|J @HU.eq_1<|J @HU.eq_2<|J @VQ.eq_1<|J @VQ.eq_2<|J @VQ.eq_3<|J @Kk.eq_1<|J @Kk.eq_2<|J @Kk.eq_3<|J @yN.eq_1<|J @yN.eq_2<|J @Kl.eq_1<|J @Kl.eq_2<|J @Kl.eq_3<|J @VR.eq_1<|J @slE.eq_1<|J @slE.eq_2<|J @oD.eq_1<|J @Rv.eq_1<|J @Rv.eq_2<|@Rv.eq_3
def VC15:=J @Rv.eq_4<|J @Rv.eq_5<|J @Rv.eq_6<|J @Rv.eq_7<|J @Rv.eq_8<|J @Rv.eq_9<|J @Qsm.eq_1<|J @lY.eq_1<|J @lZ.eq_1<|J @kH.eq_1<|J @kH.eq_2<|J @kH.eq_3<|J @Tb.eq_1<|J @Tc.eq_1<|J @Xg.eq_1<|J @Xg.eq_2<|J @jY.eq_1<|J @Td.eq_1<|J @Td.eq_2<|J @Td.eq_3<|J @Te.eq_1<|J @Te.eq_2<|J @Te.eq_3<|J @Te.eq_4<|J @Te.eq_5<|J @Te.eq_6<|J @Te.eq_7<|J @Te.eq_8<|J @Te.eq_9<|@Qzd.eq_1
def VC16:=J @Za.eq_1<|J @Za.eq_2<|J @SR.eq_1<|J @SR.eq_2<|J @SR.eq_3<|J @SR.eq_4<|J @SR.eq_5<|J @SR.eq_6<|J @SR.eq_7<|J @SR.eq_8<|J @SR.eq_9<|J @Qrt.eq_1<|J @V3.eq_1<|J @rgD.eq_1<|J @rgM.eq_1<|J @rgM.eq_2<|J @V2.eq_1<|J @V2.eq_2<|J @V2.eq_3<|J @V2.eq_4<|J @V2.eq_5<|J @V2.eq_6<|J @V2.eq_7<|J @V2.eq_8<|J @V2.eq_9<|J @Qsh.eq_1<|J @nxGo.eq_1<|J @UL.eq_1<|J @X0.eq_1<|@nC.eq_1
def VC17:=J @nC.eq_2<|J @Ts.eq_1<|J @Qsz.eq_1<|J @mcE.eq_1<|J @mcV.eq_1<|J @mcK.eq_1<|J @mcK.eq_2<|J @Qi6.eq_1<|J @fI.eq_1<|J @Uo.eq_1<|J @Uo.eq_2<|J @oA.eq_1<|J @Mb.eq_1<|J @nY.eq_1<|J @rvC.eq_1<|J @rvE.eq_1<|J @rvK.eq_1<|J @rvK.eq_2<|J @Ma.eq_1<|J @Tv.eq_1<|J @Tw.eq_1<|J @Tw.eq_2<|J @O6.eq_1<|J @O6.eq_2<|J @Jd.eq_1<|J @Jd.eq_2<|J @Jd.eq_3<|J @Jd.eq_4<|J @Jd.eq_5<|J @Jd.eq_6<|@Jd.eq_7
def VC18:=J @Jd.eq_8<|J @Jd.eq_9<|J @Jd.eq_10<|J @Jd.eq_11<|J @Jd.eq_12<|J @Jd.eq_13<|J @Jd.eq_14<|J @Jd.eq_15<|J @Jd.eq_16<|J @Jd.eq_17<|J @Gw.eq_1<|J @Gw.eq_2<|J @Gw.eq_3<|J @Gw.eq_4<|J @Gw.eq_5<|J @Gw.eq_6<|J @Gw.eq_7<|J @Gw.eq_8<|J @Gw.eq_9<|J @Gw.eq_10<|J @Gw.eq_11<|J @Gw.eq_12<|J @unS.eq_1<|J @Sh.eq_1<|J @Sh.eq_2<|J @Sh.eq_4<|J @Sh.eq_5<|J @Sh.eq_6<|J @Sh.eq_7<|@Sh.eq_8
def VC19:=J @Sh.eq_9<|J @Sh.eq_10<|J @Sh.eq_11<|J @Qst.eq_1<|J @LY.eq_1<|J @Mo.eq_1<|J @Mo.eq_2<|J @Mo.eq_3<|J @Mo.eq_4<|J @Mo.eq_5<|J @Mo.eq_6<|J @Mo.eq_7<|J @Mo.eq_8<|J @Mo.eq_9<|J @Mo.eq_10<|J @Mo.eq_11<|J @Mo.eq_12<|J @Ym.eq_1<|J @Ym.eq_2<|J @Ym.eq_3<|J @Ym.eq_4<|J @Ym.eq_5<|J @Ym.eq_6<|J @Ym.eq_7<|J @xL.eq_1<|J @xL.eq_2<|J @xL.eq_3<|J @ZP.eq_1<|J @ZP.eq_2<|@Uz.eq_1
def VC20:=J @Uz.eq_2<|J @Uz.eq_3<|J @Uz.eq_4<|J @Uz.eq_5<|J @Uz.eq_6<|J @Uz.eq_7<|J @Uz.eq_8<|J @Uz.eq_9<|J @Qko.eq_1<|J @Ey.eq_1<|J @Ey.eq_2<|J @KA.eq_1<|J @KA.eq_2<|J @Qrk.eq_1<|J @Qfq.eq_1<|J @Qno.eq_1<|J @SY.eq_1<|J @SY.eq_2<|J @SX.eq_1<|J @SX.eq_2<|J @SX.eq_3<|J @SX.eq_4<|J @SX.eq_5<|J @SX.eq_6<|J @SX.eq_7<|J @SX.eq_8<|J @IP.eq_1<|J @IP.eq_2<|J @IP.eq_3<|J @IP.eq_4<|@IP.eq_5
def VC21:=J @IP.eq_6<|J @IP.eq_7<|J @IP.eq_8<|J @IP.eq_9<|J @IP.eq_10<|J @IP.eq_11<|J @IP.eq_12<|J @IP.eq_13<|J @SV.eq_1<|J @SV.eq_2<|J @SV.eq_3<|J @P3.eq_1<|J @P3.eq_2<|J @hnm.eq_1<|J @hnm.eq_2<|J @Qz3.eq_1<|J @Qz3.eq_2<|J @OB.eq_1<|J @OB.eq_2<|J @OB.eq_3<|J @RH.eq_1<|J @RH.eq_2<|J @RF.eq_1<|J @RF.eq_2<|J @gW.eq_1<|J @RG.eq_1<|J @RG.eq_2<|J @step.eq_1<|J @step.eq_2<|@step.eq_3
def VC22:=J @step.eq_4<|J @step.eq_5<|J @step.eq_6<|J @step.eq_7<|J @step.eq_8<|J @step.eq_9<|J @step.eq_10<|J @step.eq_11<|J @step.eq_12<|J @step.eq_13<|J @step.eq_14<|J @step.eq_15<|J @step.eq_16<|J @step.eq_17<|J @step.eq_18<|J @step.eq_19<|J @step.eq_20<|J @step.eq_21<|J @step.eq_22<|J @step.eq_23<|J @step.eq_24<|J @step.eq_25<|J @step.eq_26<|J @step.eq_27<|J @step.eq_28<|J @step.eq_29<|J @step.eq_30<|J @step.eq_31<|J @Yp.eq_2<|@Ar.eq_1
def VC23:=J @Ar.eq_2<|J @Ar.eq_3<|J @Ar.eq_4<|J @Ar.eq_5<|J @Ar.eq_6<|J @Ar.eq_7<|J @Ar.eq_8<|J @I8.eq_1<|J @GO.eq_1<|J @GO.eq_2<|J @BA.ok_nr<|J @kJ.eq_1<|J @kJ.eq_2<|J @IG.eq_1<|J @IG.eq_2<|J @De.eq_1<|J @E3.eq_1<|J @E3.eq_2<|J @Ko.eq_1<|J @NZ.eq_1<|J @Z3.eq_1<|J @Z3.eq_2<|J @opS.eq_1<|J @opS.eq_2<|J @Qk.eq_1<|J @Qk.eq_2<|J @GL.eq_1<|J @GL.eq_2<|J @JY.eq_1<|J @JY.eq_2<|@GE.eq_1
def VC24:=J @GE.eq_2<|J @Fm.eq_1<|J @Fm.eq_2<|J @Jj.eq_1<|J @Jj.eq_2<|J @Jj.eq_3<|J @Jj.eq_4<|J @Jj.eq_5<|J @Jj.eq_6<|J @Er.eq_1<|J @Er.eq_2<|J @Er.eq_3<|J @ins.eq_1<|J @TZ.eq_1<|J @TZ.eq_2<|J @HW.eq_1<|J @HW.eq_2<|J @FV.eq_1<|J @FV.eq_2<|J @D0.eq_1<|J @FR.eq_1<|J @FR.eq_2<|J @BA.touch.eq_1<|J @FT.eq_1<|J @Of.eq_1<|J @NY.eq_1<|J @Z2.eq_1<|J @Z2.eq_2<|J @opA.eq_1<|@opA.eq_2
def VC25:=J @Xr.eq_1<|J @Xr.eq_2<|J @Ol.eq_1<|J @Ol.eq_2<|J @Ol.eq_3<|J @JL.eq_1<|J @JL.eq_2<|J @qL.eq_1<|J @qL.eq_2<|J @qL.eq_3<|J @H2.eq_1<|J @H2.eq_2<|J @C5.eq_1<|J @C5.eq_2<|J @Cl.eq_1<|J @Cl.eq_2<|J @B5.eq_1<|J @B5.eq_2<|J @Az.good.eq_1<|J @pm.eq_1<|J @pm.eq_2<|J @mR.eq_1<|J @DS.eq_1<|J @DS.eq_2<|J @Hh.eq_1<|J @Hh.eq_2<|J @mt.eq_1<|J @mt.eq_2<|J @mt.eq_3<|@mt.eq_4
def VC26:=J @mt.eq_5<|J @mt.eq_6<|J @mt.eq_7<|J @mt.eq_8<|J @mt.eq_9<|J @mt.eq_10<|J @mt.eq_11<|J @mt.eq_13<|J @mt.eq_14<|J @Dl.eq_1<|J @Dl.eq_2<|J @Dl.eq_3<|J @Dl.eq_4<|J @Hm.eq_1<|J @Hm.eq_2<|J @Hm.eq_3<|J @Hm.eq_4<|J @Df.eq_1<|J @Df.eq_3<|J @Df.eq_4<|J @Df.eq_5<|J @Df.eq_6<|J @Df.eq_7<|J @Df.eq_8<|J @Df.eq_9<|J @Df.eq_10<|J @Df.eq_11<|J @Df.eq_12<|J @Df.eq_13<|J @Df.eq_14<|@Df.eq_15
def VC27:=J @Df.eq_16<|J @Df.eq_17<|J @Df.eq_18<|J @Df.eq_19<|J @Df.eq_20<|J @D9.eq_1<|J @D9.eq_2<|J @ZU.eq_1<|J @ZU.eq_2<|J @Ci.eq_1<|J @Ci.eq_2<|J @EQ.eq_1<|J @EQ.eq_2<|J @F6.eq_1<|J @F6.eq_2<|J @JP.eq_1<|J @JP.eq_2<|J @EZ.eq_1<|J @EZ.eq_2<|J @Dg.eq_1<|J @Dg.eq_2<|J @Dg.eq_3<|J @Nt.eq_1<|J @Nt.eq_2<|J @Nt.eq_3<|J @Ns.eq_1<|J @Ns.eq_2<|J @Ns.eq_3<|J @IQ.eq_1<|@IQ.eq_2
def VC28:=J @T9.eq_1<|J @Ia.eq_1<|J @Ia.eq_2<|J @Ia.eq_3<|J @Ia.eq_4<|J @Ia.eq_5<|J @Ia.eq_6<|J @Ia.eq_7<|J @LS.eq_1<|J @LS.eq_2<|J @Ke.eq_1<|J @Ke.eq_2<|J @Gz.eq_1<|J @Gz.eq_2<|J @Gz.eq_3<|J @Gz.eq_4<|J @Gz.eq_5<|J @Gz.eq_6<|J @Gz.eq_7<|J @Gz.eq_8<|J @AV.fzA.eq_1<|J @AV.fzA.eq_2<|J @AV.fzA.eq_3<|J @AV.fzA.eq_4<|J @AV.fzA.eq_5<|J @AV.fzA.eq_6<|J @AV.fzA.eq_7<|J @AV.fzA.eq_8<|J @AV.fzA.eq_9<|@AV.fzA.eq_10
def VC29:=J @AV.fzA.eq_11<|J @AV.fzA.eq_12<|J @DN.eq_1<|J @DN.eq_2<|J @DO.eq_1<|J @DO.eq_2<|J @Ad.fzA.eq_1<|J @Ad.fzA.eq_2<|J @Ad.fzA.eq_3<|J @Ad.fzA.eq_4<|J @Ad.fzA.eq_5<|J @Ad.fzA.eq_6<|J @Ad.fzA.eq_7<|J @IR.eq_1<|J @IR.eq_2<|J @Hw.eq_1<|J @Hw.eq_2<|J @PH.eq_1<|J @Nr.eq_1<|J @Nr.eq_2<|J @Nr.eq_3<|J @DH.eq_1<|J @DH.eq_2<|J @DH.eq_3<|J @DH.eq_4<|J @DH.eq_5<|J @DH.eq_6<|J @DH.eq_7<|J @DH.eq_8<|J @DH.eq_9<|@KK.fit.eq_1
def VC30:=J @KK.fit.eq_2<|J @KK.fit.eq_3<|J @BH.eq_1<|J @BH.eq_2<|J @AV.bel.eq_1<|J @AV.bel.eq_2<|J @AV.bel.eq_3<|J @AV.bel.eq_4<|J @AV.bel.eq_5<|J @AV.bel.eq_6<|J @AV.bel.eq_7<|J @AV.bel.eq_8<|J @AV.bel.eq_9<|J @AV.bel.eq_10<|J @AV.bel.eq_11<|J @AV.bel.eq_12<|J @A9.eq_1<|J @A9.eq_2<|J @AV.nms.eq_1<|J @AV.nms.eq_2<|J @AV.nms.eq_3<|J @AV.nms.eq_4<|J @AV.nms.eq_5<|J @AV.nms.eq_6<|J @AV.nms.eq_7<|J @AV.nms.eq_8<|J @AV.nms.eq_9<|J @AV.nms.eq_10<|J @AV.nms.eq_11<|@AV.nms.eq_12
def VC31:=J @Av.eq_1<|J @Av.eq_2<|J @BI.eq_1<|J @BI.eq_2<|J @Ad.nms.eq_1<|J @Ad.nms.eq_2<|J @Ad.nms.eq_3<|J @Ad.nms.eq_4<|J @Ad.nms.eq_5<|J @Ad.nms.eq_6<|J @Ad.nms.eq_7<|J @AV.ren.eq_1<|J @AV.ren.eq_2<|J @AV.ren.eq_3<|J @AV.ren.eq_4<|J @AV.ren.eq_5<|J @AV.ren.eq_6<|J @AV.ren.eq_7<|J @AV.ren.eq_8<|J @AV.ren.eq_9<|J @AV.ren.eq_10<|J @AV.ren.eq_11<|J @AV.ren.eq_12<|J @AN.eq_1<|J @AN.eq_2<|J @Ad.ren.eq_1<|J @Ad.ren.eq_2<|J @Ad.ren.eq_3<|J @Ad.ren.eq_4<|@Ad.ren.eq_5
def VC32:=J @Ad.ren.eq_6<|J @Ad.ren.eq_7<|J @Aw.eq_1<|J @Aw.eq_2<|J @Ra.eq_1<|J @Ra.eq_2<|J @Y5.eq_1<|J @Y1.eq_1<|J @mM.eq_1<|J @mM.eq_2<|J @mL.eq_1<|J @mL.eq_2<|J @mL.eq_3<|J @JW.eq_1<|J @kp.eq_1<|J @kp.eq_2<|J @Fg.eq_1<|J @Fg.eq_2<|J @Bs.eq_1<|J @Bs.eq_2<|J @Bs.eq_3<|J @Bs.eq_4<|J @Bs.eq_5<|J @Bs.eq_6<|J @Bs.eq_7<|J @Bs.eq_8<|J @Bs.eq_9<|J @Bs.eq_10<|J @Bs.eq_11<|J @Bs.eq_12<|@Bs.eq_13
def VC33:=J @Bs.eq_14<|J @MC.eq_1<|J @JI.eq_1<|J @JI.eq_2<|J @Lo.eq_1<|J @Lo.eq_2<|J @DB.eq_1<|J @entry.eq_1<|J @entry.eq_2<|J @Z6.eq_1<|J @Z6.eq_2<|J @IS.eq_1<|J @Cd.eq_1<|J @Cd.eq_2<|J @Cd.eq_3<|J @Cd.eq_4<|J @Cd.eq_5<|J @Cd.eq_6<|J @Cd.eq_7<|J @JJ.eq_1<|J @JJ.eq_2<|J @JJ.eq_3<|J @klE.eq_1<|J @klE.eq_2<|J @Ka.eq_1<|J @Ka.eq_2<|J @exE.eq_1<|J @exE.eq_2<|J @exE.eq_3<|@JZ.eq_1
def VC34:=J @JZ.eq_2<|J @SA.eq_1<|J @SA.eq_2<|J @SA.eq_3<|J @aV.eq_1<|J @aV.eq_2<|J @Zq.eq_1<|J @Zq.eq_2<|J @Kh.eq_1<|J @Kh.eq_2<|J @Kh.eq_3<|J @fP.eq_1<|J @NS.eq_1<|J @NS.eq_2<|J @Vz.eq_1<|J @Qj.eq_1<|J @Qj.eq_2<|J @Qj.eq_3<|J @LB.eq_1<|J @geK.eq_1<|J @geK.eq_2<|J @exRes.eq_1<|J @sg.eq_1<|J @AW.eq_1<|J @AW.eq_2<|J @tab.eq_1<|J @tab.eq_2<|J @D7.eq_1<|J @D7.eq_2<|@D7.eq_3
def VC35:=J @D6.eq_1<|J @D6.eq_2<|J @D6.eq_3<|J @Cm.eq_1<|J @Cm.eq_2<|J @Cm.eq_3<|J @Rr.eq_1<|J @Rr.eq_2<|J @Rr.eq_3<|J @Rr.eq_4<|J @Rr.eq_5<|J @Rr.eq_6<|J @Rr.eq_7<|J @Rr.eq_8<|J @Rq.eq_1<|J @Rq.eq_2<|J @Rq.eq_3<|J @Rq.eq_4<|J @Rq.eq_5<|J @Rq.eq_6<|J @Rq.eq_7<|J @Rq.eq_8<|J @rY.eq_1<|J @rY.eq_2<|J @Fi.eq_1<|J @Fi.eq_2<|J @Fi.eq_3<|J @Fi.eq_4<|J @Fi.eq_5<|J @Fi.eq_6<|@Fi.eq_7
def VC36:=J @Fi.eq_8<|J @Fi.eq_9<|J @Fi.eq_10<|J @Fi.eq_11<|J @Fi.eq_12<|J @TG.eq_1<|J @TG.eq_2<|J @fN.eq_1<|J @fN.eq_2<|J @GH.eq_1<|J @GH.eq_2<|J @GH.eq_3<|J @GH.eq_4<|J @GH.eq_5<|J @GH.eq_6<|J @GH.eq_7<|J @GH.eq_8<|J @GH.eq_9<|J @GH.eq_10<|J @GH.eq_11<|J @GH.eq_12<|J @GH.eq_13<|J @GH.eq_14<|J @GH.eq_15<|J @GH.eq_16<|J @GH.eq_17<|J @pkC.eq_1<|J @pkC.eq_2<|J @Ru.eq_1<|@Ru.eq_2
def VC37:=J @Ru.eq_3<|J @Ru.eq_4<|J @Ru.eq_5<|J @Ru.eq_6<|J @Ru.eq_7<|J @Ru.eq_8<|J @pkR.eq_1<|J @pkR.eq_2<|J @UZ.eq_1<|J @UZ.eq_2<|J @UZ.eq_3<|J @UZ.eq_4<|J @UZ.eq_5<|J @UZ.eq_6<|J @UZ.eq_7<|J @UZ.eq_8<|J @Jm.eq_1<|J @Jm.eq_2<|J @Jm.eq_3<|J @Jm.eq_4<|J @Jm.eq_5<|J @Jm.eq_6<|J @Jm.eq_7<|J @Jm.eq_8<|J @Jm.eq_9<|J @Jm.eq_10<|J @Jm.eq_11<|J @Jm.eq_12<|J @Y2.eq_1<|@Y2.eq_2
def VC38:=J @Y2.eq_3<|J @I1.eq_1<|J @I1.eq_2<|J @DM.eq_1<|J @DM.eq_2<|J @PE.eq_1<|J @PE.eq_2<|J @WI.eq_1<|J @WI.eq_2<|J @Ei.eq_1<|J @FY.eq_1<|J @FY.eq_2<|J @FY.eq_3<|J @FY.eq_4<|J @FY.eq_5<|J @FY.eq_6<|J @FY.eq_7<|J @FY.eq_8<|J @FY.eq_9<|J @FY.eq_10<|J @FY.eq_11<|J @FY.eq_12<|J @NG.eq_1<|J @B2.eq_1<|J @Ai.eq_1<|J @Hl.eq_1<|J @Tt.eq_1<|J @Tt.eq_2<|J @E4.eq_1<|J @E4.eq_2<|@I2.eq_1
def VC39:=J @I2.eq_2<|J @Kg.eq_1<|J @Kg.eq_2<|J @Vw.eq_1<|J @Kf.eq_1<|J @Kf.eq_2<|J @Ib.eq_1<|J @OA.eq_1<|J @OA.eq_2<|J @OA.eq_3<|J @Bh.eq_1<|J @Bh.eq_2<|J @Bh.eq_3<|J @Du.eq_1<|J @Du.eq_2<|J @Ca.eq_1<|J @Ca.eq_2<|J @IU.eq_1<|J @jN.eq_1<|J @jN.eq_2<|J @eD.eq_1<|J @eD.eq_2<|J @Xp.eq_1<|J @Xp.eq_2<|J @B4.eq_1<|J @B4.eq_2<|J @rX.eq_1<|J @rW.eq_1<|J @rW.eq_2<|@JN.eq_1
def VC40:=J @JN.eq_2<|J @T6.eq_1<|J @T6.eq_2<|J @T6.eq_3<|J @LF.eq_1<|J @LF.eq_2<|J @Rp.eq_1<|J @Rp.eq_2<|J @Rp.eq_3<|J @Rp.eq_4<|J @NR.eq_1<|J @NR.eq_2<|J @LV.eq_1<|J @eC.eq_1<|J @eC.eq_2<|J @eC.eq_3<|J @Lu.eq_1<|J @Lu.eq_2<|J @M7.eq_1<|J @dV.eq_1<|J @dV.eq_2<|J @Py.eq_1<|J @Py.eq_2<|J @Py.eq_3<|J @bk.eq_1<|J @bk.eq_2<|J @bk.eq_3<|J @bk.eq_4<|J @bk.eq_5<|@bk.eq_6
def VC41:=J @bk.eq_7<|J @bk.eq_8<|J @bk.eq_9<|J @bk.eq_10<|J @bk.eq_11<|J @bk.eq_12<|J @bk.eq_13<|J @Kb.eq_1<|J @EE.eq_1<|J @M8.eq_1<|J @M8.eq_2<|J @YT.eq_1<|J @DX.eq_1<|J @DX.eq_2<|J @DX.eq_3<|J @DX.eq_4<|J @DX.eq_5<|J @DX.eq_6<|J @DX.eq_7<|J @DX.eq_8<|J @DX.eq_9<|J @DX.eq_10<|J @DX.eq_11<|J @DX.eq_12<|J @HF.eq_1<|J @HF.eq_2<|J @HF.eq_3<|J @Co.eq_1<|J @Co.eq_2<|J @RV.eq_1<|@RV.eq_2
def VC42:=J @AO.eq_1<|J @Zi<|J @Zj<|J @Zk<|J @Zl<|J @Tm<|J @Tp<|J @Tq<|J @Tr<|J @Qabq<|J @P8<|J @Tk<|J @Zo<|J @Zn<|J @Zm<|J @mB<|J @mZ<|J @aB<|J @nA<|J @mY<|J @mT<|J @ZW<|J @mW<|J @mS<|J @mV<|J @mU<|J @ns_nf<|J @ns_ni<|J @bA<|@Qp
def VC43:=J @bC<|J @VE<|J @nZ<|J @VG<|J @Qs8<|J @aZ<|J @VN<|J @Qyd<|J @VF<|J @bD<|J @Qaa9<|J @Qyi<|J @Qaa8<|J @Qvy<|J @Qv2<|J @Qvr<|J @VJ<|J @Qr<|J @Qwt<|J @Qq<|J @Qabt<|J @VI<|J @aY<|J @VM<|J @VL<|J @bB<|J @VH<|J @Qyj<|J @Qmy<|J @VK<|@Qs9
end Go.Ae
