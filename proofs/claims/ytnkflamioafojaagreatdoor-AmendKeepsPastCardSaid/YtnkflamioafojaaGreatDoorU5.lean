import Derived.Test.YtnkflamioafojaaGreatDoorU3
set_option linter.all false
open Go Go.GP
namespace Gt
set_option maxRecDepth 100000
noncomputable section
def Ip(a0:bQ)(a1:Int):d4L:=l9 (BG a0) λ(x:Bool)=>l7 x (l7 (J8 a0.1 a1) (some (E5 a1 a0.2))
 (some false)) (some false)
def CY(a0:Int):Option bQ:=l7 (o9 a0 1) (some (0,1)) (l7 (o9 a0 2) (some (-1000000000000,1000000000000)) (l7 (o9 a0
 3) (some (-1000000000000000,1000000000000000)) (l7 (o9 a0 4) (some (-1000000000,1000000000)) (l7 (o9 a0 5) (some (0,109572)) (l7 (o9
 a0 6) (some (0,15)) (some (0,-1)))))))
def jX(a0:F6):d4L:=l9 (CY a0.1) λ(x:bQ)=>l7 (E5 a0.2.2 x.1) (some false) (l7 (E5 x.2
 a0.2.2) (some false) (l7 (o9 a0.1 6) (l7 (J8 0 a0.2.1) (some (E5 a0.2.1 8)) (some false)) (some (o9 a0.2.1 0))))
def xm(a0:Int):d4L:=l9 (l7 (J8 1 a0) (l7 (J8 a0 8) (some (Sum.inr true)) (l7 (J8 36 a0) (l7 (J8 a0 39)
 (some (Sum.inr true)) (some (Sum.inl PUnit.unit))) (some (Sum.inl PUnit.unit)))) (l7 (J8 36 a0) (l7 (J8 a0 39) (some (Sum.inr true)) (some
 (Sum.inl PUnit.unit))) (some (Sum.inl PUnit.unit)))) λ(o:PUnit⊕Bool)=>U4 o (λ(x:PUnit)=>l7 (o9 a0 14) (some true) (l7 (o9
 a0 15) (some true) (l7 (o9 a0 16) (some true) (l7 (o9 a0 33) (some true) (some (o9 a0 34)))))) λ(r:Bool)=>some r
def Gh(a0:bQ)(a1:Int):d4L:=l9 (l9 (jr a0.1) λ(x:Int)=>l7 (D9 (o9 x a1)) (some (Sum.inr
 false)) (l7 (D9 (o9 a0.2 0)) (l9 (xm a0.1) λ(x:Bool)=>l7 (D9 x) (some (Sum.inr false)) (some (Sum.inl PUnit.unit)))
 (some (Sum.inl PUnit.unit)))) λ(o:PUnit⊕Bool)=>U4 o (λ(x:PUnit)=>l9 (l7 (o9 a0.1 14) (some (o9 a0.1 14)) (l7 (o9 a0.1
 15) (some (o9 a0.1 15)) (some (o9 a0.1 16)))) λ(x:Bool)=>l7 x (l7 (J8 0 a0.2) (some (J8 a0.2 5)) (some false)) (l7 (o9 a0.1 34)
 (l7 (J8 0 a0.2) (some (J8 (dG a0.2 8) 5)) (some false)) (l7 (o9 a0.1 6) (some (J8 0 a0.2)) (some true)))) λ(r:Bool)=>some r
def wo(a0:bQ)(a1:dK):d4L:=l7 (o9 a0.1 7) (l7 (J8 0 a0.2) (some (E5 a0.2 (o8 a1.2.1))) (some false)) (l7
 (o9 a0.1 8) (l7 (J8 0 a0.2) (l7 (E5 a0.2 (o8 a1.2.2.1)) (l9 (G9 a1.2.2.1 a0.2) λ(x:F6)=>some (D9 (o9 x.1 0))) (some
 false)) (some false)) (l7 (o9 a0.1 33) (l7 (J8 0 a0.2) (some (E5 a0.2 (o8 a1.2.2.2.2.2))) (some false)) (l7 (o9 a0.1 34) (some (E5
 (cZ IntKind.i64 a0.2 8) (o8 a1.2.2.2.2.2))) (l9 (l7 (o9 a0.1 36) (some (o9 a0.1 36)) (l7 (o9 a0.1 37) (some (o9 a0.1 37)) (l7
 (o9 a0.1 38) (some (o9 a0.1 38)) (some (o9 a0.1 39))))) λ(x:Bool)=>l7 x (l7 (J8 0 a0.2) (some (E5 a0.2 (o8 a1.2.2.2.2.1))) (some
 false)) (some true)))))
def JO(a0:Int)(a1:bQ):d4L:=l7 (D9 (o9 a1.2 0)) (some false) (l7 (o9 a0 36) (l7 (o9 a1.1 2) (some true)
 (some (o9 a1.1 3))) (l7 (o9 a0 39) (l7 (J8 2 a1.1) (some (J8 a1.1 5)) (some false)) (some (o9 a1.1 1))))
def VL(a0:F6)(a1:bQ):d4L:=l9 (jX a0) λ(x:Bool)=>l7 x (l7 (o9 a0.1 a1.1) (some (o9
 a0.2.1 a1.2)) (some false)) (some false)
def SK(a0:Int)(a1:Int)(a2:Int)(a3:Bool):d4M:=l7 (o9 a0 36) (some (C9 IntKind.i64 a1 a2)) (l7 (o9 a0 37) (some
 (Z7 IntKind.i64 a1 a2)) (l7 (o9 a0 38) (l7 (E5 a1 a2) (some a2) (some a1)) (l7 a3 (some a2) (l7 (E5 a1 a2) (some a2) (some a1)))))
def eU(a0:Int)(a1:Int):Option (F6×Int):=l9 (jX (a0,0,a1)) λ(x:Bool)=>l7 (D9 x) (some ((0,0,0),
 3)) (some ((a0,0,a1),0))
def oV(a0:bQ)(a1:dK):Option (F6×Int):=l9 (G9 a1.2.2.2.2.1 a0.2) λ(x:bQ)=>l9 (JO a0.1 x)
 λ(x_1:Bool)=>l7 (D9 x_1) (some ((0,0,0),8)) (l9 (l7 (o9 a0.1 37) (some 1) (some 0)) λ(x_2:Int)=>l9 (U3 (λ(x_3:
 F6×bQ)=>l7 (E5 x_3.2.2 (o8 a1.2.2.2.1)) (l9 (G9 a1.2.2.2.1 x_3.2.2) λ(x_4:List F6)=>l9 (l7 (J8 (o8 x_4)
 a0.2) (some (Sum.inr ((0,0,0),6))) (l9 (G9 x_4 a0.2) λ(x:F6)=>l7 (o9 x.1 0) (some (Sum.inr ((0,0,0),6))) (some (Sum.inl
 x_3.1)))) λ(o:F6⊕F6×Int)=>U4 o (λ(x_5:F6)=>l9 (G9 x_4 a0.2) λ(x_6:F6)=>l9 (VL x_6 x) λ
 (x_7:Bool)=>l7 (D9 x_7) (some (Out.rt ((0,0,0),8))) (l9 (G9 x_4 a0.2) λ(x_8:F6)=>l9 (SK a0.1 x_3.2.1 x_8.2.2
 (o9 x_3.2.2 0)) λ(x_9:Int)=>l9 (eU x.1 x_9) λ(x:F6×Int)=>l7 (D9 (o9 x.2 0)) (some (Out.rt ((0,0,0),x.2)))
 (some (Out.nx (x_5,x_9,C9 IntKind.i64 x_3.2.2 1))))) λ(r:F6×Int)=>some (Out.rt r)) (some (Out.ex (x_3.1,x_3.2.1)))) ((0,0,0),
 x_2,0)) λ(o:F6×Int⊕F6×Int)=>U4 o (λ(y:F6×Int)=>l7 (o9 a0.1 39) (l7 (o9 (o8 a1.2.2.2.1) 0) (some ((0,
 0,0),6)) (l9 (eU x.1 y.2) λ(x:F6×Int)=>some x)) (l9 (eU x.1 y.2) λ(x:F6×Int)=>some x)) λ(r:
 F6×Int)=>some r)
def iC(a0:bQ)(a1:dK):Option (F6×Int):=l7 (o9 a0.1 7) (l9 (G9 a1.2.1 a0.2) λ(x:F6)=>l9
 (jX x) λ(x:Bool)=>l7 (D9 x) (some ((0,0,0),8)) (l9 (G9 a1.2.1 a0.2) λ(x:F6)=>some (x,0))) (l7 (o9
 a0.1 8) (l9 (G9 a1.2.2.1 a0.2) λ(x:F6)=>l9 (jX x) λ(x:Bool)=>l7 (D9 x) (some ((0,0,0),8)) (l9 (G9
 a1.2.2.1 a0.2) λ(x:F6)=>some (x,0))) (l7 (o9 a0.1 9) (l9 (eU 5 a1.1) λ(x:F6×Int)=>some x) (l7 (o9 a0.1
 35) (l9 (eU 2 (o8 a1.2.2.2.1)) λ(x:F6×Int)=>some x) (l7 (o9 a0.1 6) (l9 (jX (6,cZ IntKind.i64 a0.2
 16,dG a0.2 16)) λ(x:Bool)=>l7 (D9 x) (some ((0,0,0),3)) (some ((6,cZ IntKind.i64 a0.2 16,dG a0.2 16),0))) (l9 (eU
 a0.1 a0.2) λ(x:F6×Int)=>some x)))))
def Gi(a0:Int):d4L:=l7 (o9 a0 2) (some true) (l7 (o9 a0 3) (some true) (some (o9 a0 4)))
def uw(a0:Bool):Option (F6×Int):=l7 a0 (some ((1,0,1),0)) (some ((1,0,0),0))
def Rk(a0:lG)(a1:Int)(a2:Int):d4L:=l9 (Ip a0.1 a1) λ(x:Bool)=>l7 x (l7 (J8 a0.2.1 a2)
 (some (E5 a2 a0.2.2.1)) (some false)) (some false)
def Me(a0:ak)(a1:Int)(a2:Int):Option (Int×Bool):=l9 (U3 (λ(x:Int)=>l7 (E5 x (o8 a0.2.2.2)) (l9 (G9
 a0.2.2.2 x) λ(x_1:lG)=>l9 (Rk x_1 a1 a2) λ(x_2:Bool)=>l7 x_2 (some (Out.rt (x,true))) (some (Out.nx (C9
 IntKind.i64 x 1)))) (some (Out.ex PUnit.unit))) 0) λ(o:PUnit⊕Int×Bool)=>U4 o (λ(y:PUnit)=>some (0,false)) λ(r:Int×Bool)
 =>some r
def wK(a0:ak)(a1:Int)(a2:F6):Option (F6×Int):=l9 (l7 (D9 (o9 a2.1 a0.2.1.1)) (some (Sum.inr ((0,0,0),
 8))) (l7 (D9 (o9 a2.2.1 a0.2.1.2)) (some (Sum.inr ((0,0,0),8))) (l7 (E5 a0.2.2.1.1 1) (some (Sum.inr ((0,0,0),8))) (l7 (E5 6
 a0.2.2.1.1) (some (Sum.inr ((0,0,0),8))) (some (Sum.inl (0,0,0))))))) λ(o:F6⊕F6×Int)=>U4 o (λ(x:F6)=>l9
 (Me a0 a1 a2.2.2) λ(x:Int×Bool)=>l7 (D9 x.2) (some ((0,0,0),6)) (l9 (G9 a0.2.2.2 x.1) λ(x:lG)=>l9
 (jX (a0.2.2.1.1,a0.2.2.1.2,x.2.2.2)) λ(x_1:Bool)=>l7 (D9 x_1) (some ((0,0,0),3)) (some ((a0.2.2.1.1,a0.2.2.1.2,
 x.2.2.2),0)))) λ(r:F6×Int)=>some r
def Io(a0:Int):d4L:=l7 (J8 0 a0) (some (J8 a0 5)) (some false)
def kD(a0:Int)(a1:Int):d4L:=l7 (E5 a1 a0) (some true) (some (E5 a0 (G8 IntKind.i64 0 a1)))
def AY(a0:Int)(a1:Int):Option (Int×Int×Bool):=l9 (l7 (E5 a1 0) (some (C9 IntKind.u64 (wrap IntKind.u64 (G8
 IntKind.i64 0 (C9 IntKind.i64 a1 1))) 1)) (some (wrap IntKind.u64 a1))) λ(x:Int)=>l7 (E5 0 (wrap IntKind.i64 (cZ IntKind.u64 x
 1000000))) (l9 (qH IntKind.i64 1000000000000000 (wrap IntKind.i64 (cZ IntKind.u64 x 1000000))) λ(x_1:Int)=>l7 (E5 x_1 a0) (some
 (0,0,false)) (l7 (E5 1000000000000000 (C9 IntKind.i64 (C9 IntKind.i64 (Z7 IntKind.i64 a0 (wrap IntKind.i64 (cZ IntKind.u64 x 1000000)))
 (Z7 IntKind.i64 (cZ IntKind.i64 a0 1000000) (wrap IntKind.i64 (dG x 1000000)))) (cZ IntKind.i64 (Z7 IntKind.i64 (dG a0 1000000) (wrap
 IntKind.i64 (dG x 1000000))) 1000000))) (some (0,0,false)) (l7 (E5 a1 0) (some (G8 IntKind.i64 0 (C9 IntKind.i64 (C9 IntKind.i64 (Z7
 IntKind.i64 a0 (wrap IntKind.i64 (cZ IntKind.u64 x 1000000))) (Z7 IntKind.i64 (cZ IntKind.i64 a0 1000000) (wrap IntKind.i64 (dG x 1000000))))
 (cZ IntKind.i64 (Z7 IntKind.i64 (dG a0 1000000) (wrap IntKind.i64 (dG x 1000000))) 1000000)),G8 IntKind.i64 0 (dG (Z7 IntKind.i64
 (dG a0 1000000) (wrap IntKind.i64 (dG x 1000000))) 1000000),true)) (some (C9 IntKind.i64 (C9 IntKind.i64 (Z7 IntKind.i64 a0 (wrap
 IntKind.i64 (cZ IntKind.u64 x 1000000))) (Z7 IntKind.i64 (cZ IntKind.i64 a0 1000000) (wrap IntKind.i64 (dG x 1000000)))) (cZ IntKind.i64
 (Z7 IntKind.i64 (dG a0 1000000) (wrap IntKind.i64 (dG x 1000000))) 1000000),dG (Z7 IntKind.i64 (dG a0 1000000) (wrap IntKind.i64 (dG x
 1000000))) 1000000,true))))) (l7 (E5 1000000000000000 (C9 IntKind.i64 (C9 IntKind.i64 (Z7 IntKind.i64 a0 (wrap IntKind.i64 (cZ
 IntKind.u64 x 1000000))) (Z7 IntKind.i64 (cZ IntKind.i64 a0 1000000) (wrap IntKind.i64 (dG x 1000000)))) (cZ IntKind.i64 (Z7 IntKind.i64
 (dG a0 1000000) (wrap IntKind.i64 (dG x 1000000))) 1000000))) (some (0,0,false)) (l7 (E5 a1 0) (some (G8 IntKind.i64 0 (C9 IntKind.i64
 (C9 IntKind.i64 (Z7 IntKind.i64 a0 (wrap IntKind.i64 (cZ IntKind.u64 x 1000000))) (Z7 IntKind.i64 (cZ IntKind.i64 a0 1000000) (wrap
 IntKind.i64 (dG x 1000000)))) (cZ IntKind.i64 (Z7 IntKind.i64 (dG a0 1000000) (wrap IntKind.i64 (dG x 1000000))) 1000000)),G8
 IntKind.i64 0 (dG (Z7 IntKind.i64 (dG a0 1000000) (wrap IntKind.i64 (dG x 1000000))) 1000000),true)) (some (C9 IntKind.i64 (C9
 IntKind.i64 (Z7 IntKind.i64 a0 (wrap IntKind.i64 (cZ IntKind.u64 x 1000000))) (Z7 IntKind.i64 (cZ IntKind.i64 a0 1000000) (wrap IntKind.i64
 (dG x 1000000)))) (cZ IntKind.i64 (Z7 IntKind.i64 (dG a0 1000000) (wrap IntKind.i64 (dG x 1000000))) 1000000),dG (Z7 IntKind.i64 (dG
 a0 1000000) (wrap IntKind.i64 (dG x 1000000))) 1000000,true))))
def oQ(a0:Int)(a1:Int)(a2:Int)(a3:Bool)(a4:Int):d4M:=l9 (l7 (o9 a4 0) (l7 a3 (some (E5 0 a1)) (some
 false)) (l7 (o9 a4 1) (l7 (D9 a3) (some (E5 0 a1)) (some false)) (l7 (o9 a4 3) (some (E5 0 a1)) (l7 (o9 a4 4) (some (J8 (G8
 IntKind.i64 a2 a1) a1)) (l7 (o9 a4 5) (l7 (E5 (G8 IntKind.i64 a2 a1) a1) (some true) (l7 (o9 a1 (G8 IntKind.i64 a2 a1)) (some (o9
 (dG a0 2) 1)) (some false))) (some false)))))) λ(x:Bool)=>l7 x (l7 a3 (some (G8 IntKind.i64 0 (C9 IntKind.i64 a0 1))) (some (C9
 IntKind.i64 a0 1))) (l7 a3 (some (G8 IntKind.i64 0 a0)) (some a0))
def JM(a0:Int)(a1:Int)(a2:Int):d4M:=l9 (aX (λ(x:bQ)=>l7 (E5 x.2 0) (some (Sum.inl (G8 IntKind.i64
 x.1 1,C9 IntKind.i64 x.2 1000000))) (some (Sum.inr x))) (a0,a1)) λ(y:bQ)=>l9 (aX (λ(x:bQ)=>l7 (J8 1000000 x.2)
 (some (Sum.inl (C9 IntKind.i64 x.1 1,G8 IntKind.i64 x.2 1000000))) (some (Sum.inr x))) y) λ(y:bQ)=>l7 (J8 0 y.1) (l9
 (oQ y.1 y.2 1000000 false a2) λ(x:Int)=>some x) (l7 (o9 y.2 0) (some y.1) (l9 (oQ (G8 IntKind.i64 (G8
 IntKind.i64 0 y.1) 1) (G8 IntKind.i64 1000000 y.2) 1000000 true a2) λ(x:Int)=>some x))
def yH(a0:ak)(a1:Int)(a2:Int)(a3:Int):Option bQ:=l9 (Io a3) λ(x:Bool)=>l7 (D9 x) (some (0,
 1)) (l9 (l7 (D9 (fG (o9 a0.2.1.1 3) (o9 a0.2.1.2 0))) (some (Sum.inr (0,8))) (l7 (D9 (fG (o9 a0.2.2.1.1 4) (o9 a0.2.2.1.2 0)))
 (some (Sum.inr (0,8))) (some (Sum.inl PUnit.unit)))) λ(o:PUnit⊕bQ)=>U4 o (λ(x:PUnit)=>l9 (kD a2 1000000000000000)
 λ(x:Bool)=>l7 x (some (0,3)) (l9 (U3 (λ(x:F6)=>l7 (E5 x.2.2 (o8 a0.2.2.2)) (l9 (G9 a0.2.2.2 x.2.2) λ(x_1:
 lG)=>l9 (G9 a0.2.2.2 x.2.2) λ(x_2:lG)=>l7 (J8 (qG x_2.2.2.1 a2) (mZ x_1.2.1 0)) (some (Out.nx (x.1,x.2.1,C9 IntKind.i64
 x.2.2 1))) (l9 (G9 a0.2.2.2 x.2.2) λ(x_3:lG)=>l9 (Ip x_3.1 a1) λ(x_4:Bool)=>l7 (D9 x_4) (some (Out.nx (x.1,
 x.2.1,C9 IntKind.i64 x.2.2 1))) (l9 (G9 a0.2.2.2 x.2.2) λ(x_5:lG)=>l9 (AY (G8 IntKind.i64 (qG x_2.2.2.1 a2)
 (mZ x_1.2.1 0)) x_5.2.2.2) λ(x_6:Int×Int×Bool)=>l7 (D9 x_6.2.2) (some (Out.rt (0,3))) (some (Out.nx (C9 IntKind.i64 x.1 x_6.1,
 C9 IntKind.i64 x.2.1 x_6.2.1,C9 IntKind.i64 x.2.2 1)))))) (some (Out.ex (x.1,x.2.1)))) (0,0,0)) λ(o:bQ⊕bQ)=>U4 o (λ(y:
 bQ)=>l9 (JM y.1 y.2 a3) λ(x:Int)=>l9 (kD x 1000000000000000) λ(x_1:Bool)=>l7 x_1 (some (0,3)) (some
 (x,0))) λ(r:bQ)=>some r)) λ(r:bQ)=>some r)
def qE(a0:Int)(a1:Int)(a2:Int):Option (F6×Int):=l7 (D9 (o9 a2 0)) (some ((0,0,0),a2)) (l9 (eU a0 a1)
 λ(x:F6×Int)=>some x)
def lF(a0:bQ)(a1:F6)(a2:dK):Option (F6×Int):=l9 (l7 (o9 a0.1 10) (l9 (Gi a1.1) λ(x:
 Bool)=>l7 (D9 x) (some (Sum.inr ((0,0,0),8))) (l9 (eU a1.1 (G8 IntKind.i64 0 a1.2.2)) λ(x:F6×Int)=>some (Sum.inr
 x))) (l7 (o9 a0.1 25) (l7 (D9 (o9 a1.1 1)) (some (Sum.inr ((0,0,0),8))) (l9 (uw (o9 a1.2.2 0)) λ(x:F6×Int)=>
 some (Sum.inr x))) (l9 (l7 (o9 a0.1 31) (some (o9 a0.1 31)) (some (o9 a0.1 32))) λ(x:Bool)=>l7 x (l7 (D9 (o9 a1.1 5)) (some
 (Sum.inr ((0,0,0),8))) (l9 (yF a1.2.2) λ(x:F6)=>l7 (o9 a0.1 31) (l9 (eU 2 x.1) λ(x:F6×Int)=>
 some (Sum.inr x)) (l9 (eU 2 x.2.1) λ(x:F6×Int)=>some (Sum.inr x)))) (l7 (o9 a0.1 33) (l9 (G9 a2.2.2.2.2.2 a0.2) λ
 (x:ak)=>l9 (wK x a2.1 a1) λ(x:F6×Int)=>some (Sum.inr x)) (some (Sum.inl (0,0,0))))))) λ(o:F6⊕F6×
 Int)=>U4 o (λ(x:F6)=>l9 (G9 a2.2.2.2.2.2 (cZ IntKind.i64 a0.2 8)) λ(x_1:ak)=>l9 (l7 (D9 (o9 a1.1 3)) (some
 (Sum.inr ((0,0,0),8))) (l7 (D9 (o9 x_1.2.1.1 3)) (some (Sum.inr ((0,0,0),8))) (l7 (D9 (o9 x_1.2.1.2 0)) (some (Sum.inr ((0,0,0),
 8))) (l7 (D9 (o9 x_1.2.2.1.1 4)) (some (Sum.inr ((0,0,0),8))) (l7 (D9 (o9 x_1.2.2.1.2 0)) (some (Sum.inr ((0,0,0),8))) (some
 (Sum.inl x))))))) λ(o:F6⊕F6×Int)=>U4 o (λ(x:F6)=>l9 (yH x_1 a2.1 a1.2.2 (dG a0.2 8)) λ(x:bQ)
 =>l9 (qE 3 x.1 x.2) λ(x:F6×Int)=>some x) λ(r:F6×Int)=>some r) λ(r:F6×Int)=>some r
def zU(a0:Int)(a1:Int)(a2:Int):Option (F6×Int):=l9 (CY a0) λ(x:bQ)=>l7 (E5 a1 0) (l7 (E5
 a2 0) (l7 (D9 (o9 (G8 IntKind.i64 0 a2) 0)) (l9 (qH IntKind.i64 x.2 (G8 IntKind.i64 0 a2)) λ(x:Int)=>l7 (E5 x (G8
 IntKind.i64 0 a1)) (some ((0,0,0),3)) (l9 (eU a0 (Z7 IntKind.i64 a1 a2)) λ(x:F6×Int)=>some x)) (l9 (eU a0
 (Z7 IntKind.i64 a1 a2)) λ(x:F6×Int)=>some x)) (l7 (D9 (o9 a2 0)) (l9 (qH IntKind.i64 x.2 a2) λ(x:Int)=>l7 (E5 x
 (G8 IntKind.i64 0 a1)) (some ((0,0,0),3)) (l9 (eU a0 (Z7 IntKind.i64 a1 a2)) λ(x:F6×Int)=>some x)) (l9 (eU
 a0 (Z7 IntKind.i64 a1 a2)) λ(x:F6×Int)=>some x))) (l7 (E5 a2 0) (l7 (D9 (o9 (G8 IntKind.i64 0 a2) 0)) (l9 (qH
 IntKind.i64 x.2 (G8 IntKind.i64 0 a2)) λ(x:Int)=>l7 (E5 x a1) (some ((0,0,0),3)) (l9 (eU a0 (Z7 IntKind.i64 a1 a2)) λ
 (x:F6×Int)=>some x)) (l9 (eU a0 (Z7 IntKind.i64 a1 a2)) λ(x:F6×Int)=>some x)) (l7 (D9 (o9 a2 0)) (l9
 (qH IntKind.i64 x.2 a2) λ(x:Int)=>l7 (E5 x a1) (some ((0,0,0),3)) (l9 (eU a0 (Z7 IntKind.i64 a1 a2)) λ(x:F6×
 Int)=>some x)) (l9 (eU a0 (Z7 IntKind.i64 a1 a2)) λ(x:F6×Int)=>some x)))
def BD(a0:Int):d4M:=l7 (E5 a0 0) (some (G8 IntKind.i64 0 a0)) (some a0)
def LY(a0:Int)(a1:Int)(a2:Int)(a3:Int):Option bQ:=l9 (Io a3) λ(x:Bool)=>l7 (D9 x) (some (0,1))
 (l7 (o9 a2 0) (some (0,12)) (l9 (l9 (kD a0 1000000000000000) λ(x:Bool)=>l7 x (some (Sum.inr (0,3))) (l9
 (kD a1 1000000000) λ(x:Bool)=>l7 x (some (Sum.inr (0,3))) (l9 (kD a2 1000000000) λ(x:Bool)=>l7 x (some
 (Sum.inr (0,3))) (some (Sum.inl PUnit.unit))))) λ(o:PUnit⊕bQ)=>U4 o (λ(x:PUnit)=>l9 (BD a0) λ(x:Int)=>l9
 (BD a1) λ(x_1:Int)=>l9 (BD a2) λ(x_2:Int)=>l7 (E5 0 x_1) (l9 (qH IntKind.i64 x x_2) λ(x_3:Int)=>l9
 (qH IntKind.i64 1000000000000000 x_1) λ(x_4:Int)=>l7 (E5 x_4 x_3) (some (0,3)) (l9 (zt x x_2) λ(x_5:Int)=>l9 (qH
 IntKind.i64 x x_2) λ(x:Int)=>l9 (qH IntKind.i64 (Z7 IntKind.i64 x_5 x_1) x_2) λ(x_6:Int)=>l9 (zt (Z7 IntKind.i64 x_5
 x_1) x_2) λ(x_7:Int)=>l9 (oQ (C9 IntKind.i64 (Z7 IntKind.i64 x x_1) x_6) x_7 x_2 (D9 (jY (D9 (jY (E5 a0 0) (E5 a1
 0))) (E5 a2 0))) a3) λ(x:Int)=>l9 (kD x 1000000000000000) λ(x_8:Bool)=>l7 x_8 (some (0,3)) (some (x,0)))) (l9
 (zt x x_2) λ(x_3:Int)=>l9 (qH IntKind.i64 x x_2) λ(x:Int)=>l9 (qH IntKind.i64 (Z7 IntKind.i64 x_3 x_1) x_2) λ(x_4:
 Int)=>l9 (zt (Z7 IntKind.i64 x_3 x_1) x_2) λ(x_5:Int)=>l9 (oQ (C9 IntKind.i64 (Z7 IntKind.i64 x x_1) x_4) x_5 x_2
 (D9 (jY (D9 (jY (E5 a0 0) (E5 a1 0))) (E5 a2 0))) a3) λ(x:Int)=>l9 (kD x 1000000000000000) λ(x_6:Bool)=>l7
 x_6 (some (0,3)) (some (x,0)))) λ(r:bQ)=>some r))
def Ji(a0:Int)(a1:Int)(a2:Int):Option bQ:=l9 (LY a0 a1 1000000 a2) λ(x:bQ)=>some x
def lD(a0:Int)(a1:Int):d4L:=l7 (E5 a1 a0) (some true) (some (E5 a0 (G8 IntKind.i64 0 a1)))
def BF(a0:Int)(a1:Int):Option bQ:=l9 (qH IntKind.i64 a0 a1) λ(x:Int)=>l9 (zt a0 a1) λ(x_1:Int)=>l7
 (E5 x_1 0) (some (G8 IntKind.i64 x 1,C9 IntKind.i64 x_1 a1)) (some (x,x_1))
def dX(a0:Int)(a1:Int)(a2:Int)(a3:Int):d4M:=l7 (o9 a1 0) (some a0) (l9 (l7 (o9 a3 1) (some true) (l7
 (o9 a3 2) (l7 (E5 a0 0) (some true) (l7 (o9 a3 3) (some (J8 0 a0)) (some false))) (l7 (o9 a3 3) (some (J8 0 a0)) (some false)))) λ
 (x:Bool)=>l7 (o9 a3 4) (l7 (o9 a1 (G8 IntKind.i64 a2 a1)) (l7 (o9 a3 4) (l7 (J8 0 a0) (some (C9 IntKind.i64 a0 1)) (l7
 (o9 a3 5) (l7 (D9 (o9 (dG a0 2) 0)) (some (C9 IntKind.i64 a0 1)) (some a0)) (some a0))) (l7 (o9 a3 5) (l7 (D9 (o9 (dG a0 2)
 0)) (some (C9 IntKind.i64 a0 1)) (some a0)) (some a0))) (l7 (E5 (G8 IntKind.i64 a2 a1) a1) (some (C9 IntKind.i64 a0 1)) (some a0))) (l7
 (o9 a3 5) (l7 (o9 a1 (G8 IntKind.i64 a2 a1)) (l7 (o9 a3 4) (l7 (J8 0 a0) (some (C9 IntKind.i64 a0 1)) (l7 (o9 a3 5) (l7 (D9
 (o9 (dG a0 2) 0)) (some (C9 IntKind.i64 a0 1)) (some a0)) (some a0))) (l7 (o9 a3 5) (l7 (D9 (o9 (dG a0 2) 0)) (some (C9
 IntKind.i64 a0 1)) (some a0)) (some a0))) (l7 (E5 (G8 IntKind.i64 a2 a1) a1) (some (C9 IntKind.i64 a0 1)) (some a0))) (l7 x (some (C9
 IntKind.i64 a0 1)) (some a0))))
def QB(a0:Int)(a1:Int)(a2:Int):Option bQ:=l7 (E5 a2 0) (some (0,1)) (l7 (E5 5 a2) (some (0,1)) (l9 (lD
 a0 1000000000) λ(x:Bool)=>l7 x (some (0,3)) (l9 (lD a1 1000000000) λ(x:Bool)=>l7 x (some (0,3)) (l9
 (BF (Z7 IntKind.i64 a0 a1) 1000000) λ(x:bQ)=>l9 (dX x.1 x.2 1000000 a2) λ(x:Int)=>l9 (lD x
 1000000000) λ(x_1:Bool)=>l7 x_1 (some (0,3)) (some (x,0))))))
def Ap(a0:Int)(a1:Int)(a2:Int):Option bQ:=l9 (l7 (E5 a2 0) (some (Sum.inr (0,1))) (l7 (E5 5 a2) (some
 (Sum.inr (0,1))) (some (Sum.inl PUnit.unit)))) λ(o:PUnit⊕bQ)=>U4 o (λ(x:PUnit)=>l7 (o9 a1 0) (some (0,12)) (l9
 (lD a0 1000000000000000) λ(x:Bool)=>l7 x (some (0,3)) (l9 (lD a1 1000000000000000) λ(x:Bool)=>l7 x (some
 (0,3)) (l7 (E5 a1 0) (l9 (BF (G8 IntKind.i64 0 a0) (G8 IntKind.i64 0 a1)) λ(x:bQ)=>l9 (lD x.1 1001) λ
 (x_1:Bool)=>l7 x_1 (some (0,3)) (l9 (qH IntKind.i64 (Z7 IntKind.i64 x.2 1000) (G8 IntKind.i64 0 a1)) λ(x_2:Int)=>l9
 (zt (Z7 IntKind.i64 x.2 1000) (G8 IntKind.i64 0 a1)) λ(x_3:Int)=>l9 (qH IntKind.i64 (Z7 IntKind.i64 x_3 1000) (G8 IntKind.i64
 0 a1)) λ(x_4:Int)=>l9 (zt (Z7 IntKind.i64 x_3 1000) (G8 IntKind.i64 0 a1)) λ(x_5:Int)=>l9 (dX (C9 IntKind.i64
 (C9 IntKind.i64 (Z7 IntKind.i64 x.1 1000000) (Z7 IntKind.i64 x_2 1000)) x_4) x_5 (G8 IntKind.i64 0 a1) a2) λ(x:Int)=>l9
 (lD x 1000000000) λ(x_6:Bool)=>l7 x_6 (some (0,3)) (some (x,0)))) (l9 (BF a0 a1) λ(x:bQ)=>l9
 (lD x.1 1001) λ(x_1:Bool)=>l7 x_1 (some (0,3)) (l9 (qH IntKind.i64 (Z7 IntKind.i64 x.2 1000) a1) λ(x_2:Int)=>
 l9 (zt (Z7 IntKind.i64 x.2 1000) a1) λ(x_3:Int)=>l9 (qH IntKind.i64 (Z7 IntKind.i64 x_3 1000) a1) λ(x_4:Int)=>l9
 (zt (Z7 IntKind.i64 x_3 1000) a1) λ(x_5:Int)=>l9 (dX (C9 IntKind.i64 (C9 IntKind.i64 (Z7 IntKind.i64 x.1 1000000)
 (Z7 IntKind.i64 x_2 1000)) x_4) x_5 a1 a2) λ(x:Int)=>l9 (lD x 1000000000) λ(x_6:Bool)=>l7 x_6 (some (0,3)) (some (x,
 0)))))))) λ(r:bQ)=>some r
def CW(a0:Int)(a1:Int)(a2:Int):Option bQ:=l9 (Io a2) λ(x:Bool)=>l7 (D9 x) (some (0,1)) (l7 (o9
 a1 0) (some (0,12)) (l9 (kD a0 4611686018427387904) λ(x:Bool)=>l7 x (some (0,3)) (l9 (kD a1
 4611686018427387904) λ(x:Bool)=>l7 x (some (0,3)) (l9 (BD a0) λ(x:Int)=>l9 (BD a1) λ(x_1:Int)=>l9
 (qH IntKind.i64 x x_1) λ(x_2:Int)=>l9 (zt x x_1) λ(x:Int)=>l9 (oQ x_2 x x_1 (D9 (jY (E5 a0 0) (E5 a1 0)))
 a2) λ(x:Int)=>some (x,0)))))
def Ey(a0:Int)(a1:Int)(a2:Int):Option bQ:=l9 (Io a2) λ(x:Bool)=>l7 (D9 x) (some (0,1)) (l7 (E5
 a1 1) (some (0,12)) (l9 (kD a0 1000000000000000) λ(x:Bool)=>l7 x (some (0,3)) (l7 (E5 1000000000000000 a1) (some (0,3))
 (l9 (BD a0) λ(x:Int)=>l9 (qH IntKind.i64 x a1) λ(x_1:Int)=>l9 (zt x a1) λ(x:Int)=>l9 (oQ x_1
 x a1 (E5 a0 0) a2) λ(x:Int)=>l9 (kD (Z7 IntKind.i64 x a1) 1000000000000000) λ(x_2:Bool)=>l7 x_2 (some (0,3)) (some
 (Z7 IntKind.i64 x a1,0))))))
def CZ(a0:bQ)(a1:F6)(a2:F6):Option (F6×Int):=l9 (l9 (l7 (o9 a0.1 13) (l7 (o9 a2.1 2) (l7 (o9
 a1.1 3) (some true) (some (o9 a1.1 2))) (some false)) (some false)) λ(x:Bool)=>l7 x (l9 (zU a1.1 a1.2.2 a2.2.2) λ(x:
 F6×Int)=>some (Sum.inr x)) (l9 (l7 (o9 a0.1 14) (l7 (o9 a2.1 4) (some (o9 a1.1 3)) (some false)) (some false)) λ(x:Bool)=>
 l7 x (l9 (Ji a1.2.2 a2.2.2 a0.2) λ(x:bQ)=>l9 (qE a1.1 x.1 x.2) λ(x:F6×Int)=>some (Sum.inr x)) (l9
 (l7 (o9 a0.1 14) (l7 (o9 a2.1 4) (some (o9 a1.1 4)) (some false)) (some false)) λ(x:Bool)=>l7 x (l9 (QB a1.2.2 a2.2.2
 a0.2) λ(x:bQ)=>l9 (qE a1.1 x.1 x.2) λ(x:F6×Int)=>some (Sum.inr x)) (l9 (l7 (o9 a0.1 15) (l7 (o9 a1.1 3)
 (some (o9 a2.1 3)) (some false)) (some false)) λ(x:Bool)=>l7 x (l9 (Ap a1.2.2 a2.2.2 a0.2) λ(x:bQ)=>l9
 (qE 4 x.1 x.2) λ(x:F6×Int)=>some (Sum.inr x)) (l9 (l7 (o9 a0.1 15) (l7 (o9 a2.1 2) (l7 (o9 a1.1 3) (some true)
 (some (o9 a1.1 2))) (some false)) (some false)) λ(x:Bool)=>l7 x (l9 (CW a1.2.2 a2.2.2 a0.2) λ(x:bQ)=>l9
 (qE a1.1 x.1 x.2) λ(x:F6×Int)=>some (Sum.inr x)) (l7 (o9 a0.1 16) (l7 (o9 a1.1 3) (l7 (o9 a2.1 3) (l9
 (Ey a1.2.2 a2.2.2 a0.2) λ(x:bQ)=>l9 (qE a1.1 x.1 x.2) λ(x:F6×Int)=>some (Sum.inr x)) (some (Sum.inl (0,
 0,0)))) (some (Sum.inl (0,0,0)))) (some (Sum.inl (0,0,0))))))))) λ(o:F6⊕F6×Int)=>U4 o (λ(x:F6)=>some ((0,0,0),
 8)) λ(r:F6×Int)=>some r
def zT(a0:Int)(a1:Int)(a2:Int):Option bQ:=l9 (l7 (E5 a0 1900) (some (Sum.inr (0,3))) (l7 (E5 2199 a0) (some
 (Sum.inr (0,3))) (l7 (E5 a2 1) (some (Sum.inr (0,3))) (l9 (iw a0 a1) λ(x:Int)=>l7 (E5 x a2) (some (Sum.inr (0,
 3))) (some (Sum.inl PUnit.unit)))))) λ(o:PUnit⊕bQ)=>U4 o (λ(x:PUnit)=>l9 (aX (λ(x:bQ)=>l7 (E5 x.2 a0) (l9
 (kE x.2) λ(x_1:Int)=>some (Sum.inl (C9 IntKind.i64 x.1 x_1,C9 IntKind.i64 x.2 1))) (some (Sum.inr x.1))) (G8 IntKind.i64
 a2 1,1900)) λ(y:Int)=>l9 (aX (λ(x:bQ)=>l7 (E5 x.2 a1) (l9 (iw a0 x.2) λ(x_1:Int)=>some (Sum.inl
 (C9 IntKind.i64 x.1 x_1,C9 IntKind.i64 x.2 1))) (some (Sum.inr x.1))) (y,1)) λ(y:Int)=>some (y,0)) λ(r:bQ)=>some r
def qC(a0:Int)(a1:Int):Option bQ:=l9 (l9 (uq a0) λ(x:Bool)=>l7 (D9 x) (some (Sum.inr (0,3)))
 (l7 (E5 a1 (-3600)) (some (Sum.inr (0,3))) (l7 (E5 3600 a1) (some (Sum.inr (0,3))) (some (Sum.inl PUnit.unit))))) λ(o:PUnit⊕bQ)
 =>U4 o (λ(x:PUnit)=>l9 (yF a0) λ(x:F6)=>l9 (iw (cZ IntKind.i64 (C9 IntKind.i64 (G8
 IntKind.i64 (C9 IntKind.i64 (Z7 IntKind.i64 12 x.1) x.2.1) 1) a1) 12) (C9 IntKind.i64 (dG (C9 IntKind.i64 (G8 IntKind.i64 (C9
 IntKind.i64 (Z7 IntKind.i64 12 x.1) x.2.1) 1) a1) 12) 1)) λ(x_1:Int)=>l9 (zT (cZ IntKind.i64 (C9 IntKind.i64 (G8
 IntKind.i64 (C9 IntKind.i64 (Z7 IntKind.i64 12 x.1) x.2.1) 1) a1) 12) (C9 IntKind.i64 (dG (C9 IntKind.i64 (G8 IntKind.i64 (C9
 IntKind.i64 (Z7 IntKind.i64 12 x.1) x.2.1) 1) a1) 12) 1) (qG x.2.2 x_1)) λ(x:bQ)=>some x) λ(r:bQ)=>some r
def wJ(a0:Int)(a1:Int):d4M:=l9 (uq a0) λ(x:Bool)=>l7 (D9 x) (some 0) (l9 (uq a1)
 λ(x:Bool)=>l7 (D9 x) (some 0) (l9 (U3 (λ(x:Int)=>l9 (qC a0 (Z7 IntKind.i64 12 (C9 IntKind.i64 x 1))) λ
 (x_1:bQ)=>l7 (D9 (o9 x_1.2 0)) (some (Out.rt x)) (l7 (E5 a1 x_1.1) (some (Out.rt x)) (some (Out.nx (C9 IntKind.i64 x 1))))) 0) λ
 (o:PUnit⊕Int)=>U4 o (λ(y:PUnit)=>none) λ(r:Int)=>some r))
def BH(a0:Int)(a1:F6)(a2:F6):Option (F6×Int):=l7 (D9 (o9 a1.1 5)) (some ((0,0,0),8)) (l7 (o9 a0 27)
 (l7 (D9 (o9 a2.1 2)) (some ((0,0,0),8)) (l7 (o9 a0 27) (l9 (eU 5 (C9 IntKind.i64 a1.2.2 a2.2.2)) λ(x:F6×Int)=>
 some x) (l9 (qC a1.2.2 a2.2.2) λ(x:bQ)=>l9 (qE 5 x.1 x.2) λ(x:F6×Int)=>some x))) (l7 (o9 a0 28)
 (l7 (D9 (o9 a2.1 2)) (some ((0,0,0),8)) (l7 (o9 a0 27) (l9 (eU 5 (C9 IntKind.i64 a1.2.2 a2.2.2)) λ(x:F6×Int)=>
 some x) (l9 (qC a1.2.2 a2.2.2) λ(x:bQ)=>l9 (qE 5 x.1 x.2) λ(x:F6×Int)=>some x))) (l7 (D9 (o9
 a2.1 5)) (some ((0,0,0),8)) (l7 (o9 a0 29) (l9 (eU 2 (G8 IntKind.i64 a2.2.2 a1.2.2)) λ(x:F6×Int)=>some x) (l9
 (wJ a1.2.2 a2.2.2) λ(x:Int)=>l9 (eU 2 x) λ(x:F6×Int)=>some x)))))
def vS(a0:Int)(a1:F6)(a2:F6):Option (F6×Int):=l9 (l7 (D9 (o9 a1.1 a2.1)) (some (Sum.inr ((0,0,0),
 8))) (l7 (D9 (o9 a1.2.1 a2.2.1)) (some (Sum.inr ((0,0,0),8))) (some (Sum.inl (0,0,0))))) λ(o:F6⊕F6×Int)=>U4 o (λ(x
 :F6)=>l9 (l7 (o9 a0 19) (l9 (uw (o9 a1.2.2 a2.2.2)) λ(x:F6×Int)=>some (Sum.inr x)) (l7 (o9 a0 20) (l9
 (uw (D9 (o9 a1.2.2 a2.2.2))) λ(x:F6×Int)=>some (Sum.inr x)) (l9 (l7 (o9 a0 23) (some (o9 a0 23)) (some (o9 a0 24)))
 λ(x_1:Bool)=>l7 x_1 (l7 (D9 (o9 a1.1 1)) (some (Sum.inr ((0,0,0),8))) (l7 (o9 (C9 IntKind.i64 a1.2.2 a2.2.2) 2) (l9
 (uw true) λ(x:F6×Int)=>some (Sum.inr x)) (l7 (o9 a0 24) (l9 (uw (o9 (C9 IntKind.i64 a1.2.2 a2.2.2) 1)) λ
 (x:F6×Int)=>some (Sum.inr x)) (l9 (uw false) λ(x:F6×Int)=>some (Sum.inr x))))) (l9 (l7 (o9 a0 11) (some
 (o9 a0 11)) (some (o9 a0 12))) λ(x_2:Bool)=>l7 x_2 (l9 (Gi a1.1) λ(x:Bool)=>l7 (D9 x) (some (Sum.inr ((0,0,0),
 8))) (l7 (o9 a0 11) (l9 (eU a1.1 (C9 IntKind.i64 a1.2.2 a2.2.2)) λ(x:F6×Int)=>some (Sum.inr x)) (l9 (eU a1.1
 (G8 IntKind.i64 a1.2.2 a2.2.2)) λ(x:F6×Int)=>some (Sum.inr x)))) (some (Sum.inl x)))))) λ(o:F6⊕F6×Int)=>U4 o (λ
 (x:F6)=>l9 (l9 (Gi a1.1) λ(x_1:Bool)=>l7 (D9 x_1) (l7 (D9 (o9 a1.1 5)) (some (Sum.inr ((0,0,0),8)))
 (some (Sum.inl x))) (some (Sum.inl x))) λ(o:F6⊕F6×Int)=>U4 o (λ(x:F6)=>l7 (o9 a0 21) (l9 (uw (E5
 a1.2.2 a2.2.2)) λ(x:F6×Int)=>some x) (l7 (o9 a0 22) (l9 (uw (J8 a1.2.2 a2.2.2)) λ(x:F6×Int)=>some x)
 (l7 (jY (o9 a0 17) (E5 a1.2.2 a2.2.2)) (some (a1,0)) (some (a2,0))))) λ(r:F6×Int)=>some r) λ(r:F6×Int)=>some r)
 λ(r:F6×Int)=>some r
def jB(a0:bQ)(a1:F6)(a2:F6):Option (F6×Int):=l7 (J8 13 a0.1) (l7 (J8 a0.1 16) (l9 (CZ a0
 a1 a2) λ(x:F6×Int)=>some x) (l7 (J8 27 a0.1) (l9 (BH a0.1 a1 a2) λ(x:F6×Int)=>some x) (l9
 (vS a0.1 a1 a2) λ(x:F6×Int)=>some x))) (l7 (J8 27 a0.1) (l9 (BH a0.1 a1 a2) λ(x:F6×Int)=>some
 x) (l9 (vS a0.1 a1 a2) λ(x:F6×Int)=>some x))
def vZ(a0:bQ)(a1:List F6)(a2:dK):Option (F6×Int):=l9 (Gh a0 (o8 a1)) λ(x:Bool)=>l7 (D9
 x) (some ((0,0,0),2)) (l9 (wo a0 a2) λ(x:Bool)=>l7 (D9 x) (some ((0,0,0),6)) (l9 (U3 (λ(x:F6×Int)=>
 l7 (E5 x.2 (o8 a1)) (l9 (G9 a1 x.2) λ(x_1:F6)=>l9 (jX x_1) λ(x_2:Bool)=>l7 (D9 x_2) (some (Out.rt
 ((0,0,0),8))) (some (Out.nx (x.1,C9 IntKind.i64 x.2 1)))) (some (Out.ex x.1))) ((0,0,0),0)) λ(o:F6⊕F6×Int)=>U4 o (λ
 (y:F6)=>l7 (o9 (o8 a1) 0) (l7 (J8 36 a0.1) (l7 (J8 a0.1 39) (l9 (oV a0 a2) λ(x:F6×Int)=>some x)
 (l9 (iC a0 a2) λ(x:F6×Int)=>some x)) (l9 (iC a0 a2) λ(x:F6×Int)=>some x)) (l7 (o9 (o8 a1)
 1) (l9 (G9 a1 0) λ(x:F6)=>l9 (lF a0 x a2) λ(x:F6×Int)=>some x) (l7 (o9 (o8 a1) 2) (l9 (G9 a1 0)
 λ(x:F6)=>l9 (G9 a1 1) λ(x_1:F6)=>l9 (jB a0 x x_1) λ(x:F6×Int)=>some x) (l9 (G9 a1 0) λ(x:
 F6)=>l9 (G9 a1 1) λ(x_1:F6)=>l9 (G9 a1 2) λ(x_2:F6)=>l7 (D9 (o9 x.1 1)) (some ((0,0,0),8)) (l7 (D9
 (o9 x_1.1 x_2.1)) (some ((0,0,0),8)) (l7 (D9 (o9 x_1.2.1 x_2.2.1)) (some ((0,0,0),8)) (l7 (o9 x.2.2 1) (some (x_1,0)) (some (x_2,
 0))))))))) λ(r:F6×Int)=>some r))
end
end Gt
