import Derived.Test.YtpkmnnphdanlpaaGreatDoorT3
set_option linter.all false
open Go Go.GP
namespace Gt
set_option maxRecDepth 100000
noncomputable section
def AB:Option (List (List UInt8)):=some [[105,102],[116,104,101,110],[101,108,115,101],[111,114],[97,110,100],[110,
 111,116],[116,114,117,101],[102,97,108,115,101],[116,111,100,97,121],[115,104,97,114,101],[100,105,118],[114,111,117,110,
 100],[109,105,110],[109,97,120],[112,108,117,115],[109,111,110,116,104,115],[100,97,121,115],[121,101,97,114,115],[121,
 101,97,114],[109,111,110,116,104],[116,97,98],[98,97,110,100],[99,111,117,110,116],[115,117,109],[97,108,108],[97,110,
 121],[109,111,115,116],[101,110,117,109],[116,97,98,108,101],[114,111,119],[115,99,111,112,101],[109,101,109,98,101,114,
 115],[105,110,112,117,116],[100,101,102],[114,117,108,101],[111,102],[111,118,101,114],[112,114,105,111],[102,114,111,109],
 [116,111],[101,110,100],[119,104,101,110],[105,115],[115,114,99],[98,111,111,108],[105,110,116],[109,111,110,101,121],[114,
 97,116,101],[100,97,116,101],[100,111,119,110],[117,112],[122,101,114,111],[97,119,97,121],[104,97,108,102],[101,118,101,
 110]]
def aS(a0:H5)(a1:List dU):Option Bool:=l9 (D5 a0.1 6) (l9 (V6 0 a0.2) (some (I8 a0.2 (x9 a1))) (some false))
 (l9 (V6 1 a0.1) (l9 (V6 a0.1 5) (some (D5 a0.2 0)) (some false)) (some false))
def dR(a0:H5)(a1:List dU):Option H5:=o6 (aS a0 a1) λ(x:Bool)=>l9 (H9 x) (some (0,-1)) (l9
 (D5 a0.1 1) (some (0,1)) (l9 (D5 a0.1 2) (some (-1000000000000,1000000000000)) (l9 (D5 a0.1 3) (some (-1000000000000000,
 1000000000000000)) (l9 (D5 a0.1 4) (some (-1000000000,1000000000)) (l9 (D5 a0.1 5) (some (0,109572)) (o6 (X0 a1 a0.2) λ(x:dU)
 =>some (0,ae IntKind.i64 (x9 x.2) 1)))))))
def Kz(a0:Int)(a1:H5)(a2:List dU):Option Bool:=o6 (dR a1 a2) λ(x:H5)=>l9 (V6 x.1 a0) (some (V6 a0
 x.2)) (some false)
def oN(a0:Int):Option Int:=o6 (l9 (V6 1 a0) (l9 (V6 a0 9) (some (Sum.inr 0)) (l9 (V6 35 a0) (l9 (V6 a0 39) (some
 (Sum.inr 0)) (some (Sum.inl PUnit.unit))) (some (Sum.inl PUnit.unit)))) (l9 (V6 35 a0) (l9 (V6 a0 39) (some (Sum.inr 0)) (some (Sum.inl
 PUnit.unit))) (some (Sum.inl PUnit.unit)))) λ(o:PUnit⊕Int)=>bP o (λ(x:PUnit)=>l9 (D5 a0 10) (l9 (D5 a0 10) (some 1) (l9
 (D5 a0 26) (some 3) (l9 (V6 11 a0) (l9 (V6 a0 30) (some 2) (some (-1))) (some (-1))))) (l9 (D5 a0 25) (l9 (D5 a0 25) (some 1) (l9
 (D5 a0 26) (some 3) (l9 (V6 11 a0) (l9 (V6 a0 30) (some 2) (some (-1))) (some (-1))))) (l9 (D5 a0 31) (l9 (D5 a0 31) (some 1) (l9
 (D5 a0 26) (some 3) (l9 (V6 11 a0) (l9 (V6 a0 30) (some 2) (some (-1))) (some (-1))))) (l9 (D5 a0 32) (l9 (D5 a0 32) (some 1) (l9
 (D5 a0 26) (some 3) (l9 (V6 11 a0) (l9 (V6 a0 30) (some 2) (some (-1))) (some (-1))))) (l9 (D5 a0 33) (l9 (D5 a0 33) (some 1) (l9
 (D5 a0 26) (some 3) (l9 (V6 11 a0) (l9 (V6 a0 30) (some 2) (some (-1))) (some (-1))))) (l9 (D5 a0 34) (some 1) (l9 (D5 a0 26) (some
 3) (l9 (V6 11 a0) (l9 (V6 a0 30) (some 2) (some (-1))) (some (-1)))))))))) λ(r:Int)=>some r
def jX(a0:Int):Option Bool:=o6 (l9 (V6 1 a0) (l9 (V6 a0 8) (some (Sum.inr true)) (l9 (V6 36 a0) (l9 (V6 a0 39)
 (some (Sum.inr true)) (some (Sum.inl PUnit.unit))) (some (Sum.inl PUnit.unit)))) (l9 (V6 36 a0) (l9 (V6 a0 39) (some (Sum.inr true)) (some
 (Sum.inl PUnit.unit))) (some (Sum.inl PUnit.unit)))) λ(o:PUnit⊕Bool)=>bP o (λ(x:PUnit)=>l9 (D5 a0 14) (some true) (l9 (D5
 a0 15) (some true) (l9 (D5 a0 16) (some true) (l9 (D5 a0 33) (some true) (some (D5 a0 34)))))) λ(r:Bool)=>some r
def jF(a0:Int):Option H5:=some (a0,0)
def vH(a0:H5)(a1:X5):Option Bool:=o6 (l9 (D5 a0.1 1) (some (D5 a0.1 1)) (l9 (D5 a0.1 2) (some (D5 a0.1 2))
 (l9 (D5 a0.1 3) (some (D5 a0.1 3)) (l9 (D5 a0.1 4) (some (D5 a0.1 4)) (some (D5 a0.1 5)))))) λ(x:Bool)=>l9 x (o6 (jF
 a0.1) λ(x:H5)=>o6 (dR x a1.1) λ(x:H5)=>l9 (V6 x.1 a0.2) (some (V6 a0.2 x.2)) (some false)) (o6 (l9 (D5
 a0.1 14) (some (D5 a0.1 14)) (l9 (D5 a0.1 15) (some (D5 a0.1 15)) (some (D5 a0.1 16)))) λ(x:Bool)=>l9 x (l9 (V6 0 a0.2) (some
 (V6 a0.2 5)) (some false)) (l9 (D5 a0.1 34) (l9 (V6 0 a0.2) (some (V6 (iY a0.2 8) 5)) (some false)) (l9 (D5 a0.1 6) (some (V6 0
 a0.2)) (some true))))
def wS(a0:H5)(a1:X5):Option Bool:=l9 (D5 a0.1 6) (l9 (I8 (dX IntKind.i64 a0.2 16) (x9 a1.1)) (o6 (X0
 a1.1 (dX IntKind.i64 a0.2 16)) λ(x:dU)=>some (I8 (iY a0.2 16) (x9 x.2))) (some false)) (l9 (D5 a0.1 7) (l9 (V6 0 a0.2) (some
 (I8 a0.2 (x9 a1.2.2.1))) (some false)) (l9 (D5 a0.1 8) (l9 (V6 0 a0.2) (some (I8 a0.2 (x9 a1.2.2.2.1))) (some false)) (l9 (D5 a0.1
 33) (l9 (V6 0 a0.2) (some (I8 a0.2 (x9 a1.2.1))) (some false)) (l9 (D5 a0.1 34) (some (I8 (dX IntKind.i64 a0.2 8) (x9 a1.2.1)))
 (l9 (D5 a0.1 35) (some a1.2.2.2.2.2) (o6 (l9 (D5 a0.1 36) (some (D5 a0.1 36)) (l9 (D5 a0.1 37) (some (D5 a0.1 37)) (l9 (D5 a0.1
 38) (some (D5 a0.1 38)) (some (D5 a0.1 39))))) λ(x:Bool)=>l9 x (l9 a1.2.2.2.2.2 (l9 (V6 0 a0.2) (some (I8 a0.2 (x9
 a1.2.2.2.2.1))) (some false)) (some false)) (some true)))))))
def xJ(a0:Int):Option Bool:=l9 (D5 a0 2) (some true) (l9 (D5 a0 3) (some true) (some (D5 a0 4)))
def tK(a0:Int):Option Bool:=o6 (xJ a0) λ(x:Bool)=>l9 x (some true) (some (D5 a0 5))
def nZ(a0:H5)(a1:X5):Option (H5×Bool):=o6 (l9 (D5 a0.1 6) (some (6,dX IntKind.i64 a0.2 16)) (l9 (D5
 a0.1 7) (o6 (X0 a1.2.2.1 a0.2) λ(x:H5)=>some x) (l9 (D5 a0.1 8) (o6 (X0 a1.2.2.2.1 a0.2) λ(x:H5)=>some x) (l9 (D5
 a0.1 9) (o6 (jF 5) λ(x:H5)=>some x) (l9 (D5 a0.1 35) (o6 (jF 2) λ(x:H5)=>some x) (o6 (l9 (D5
 a0.1 36) (some (D5 a0.1 36)) (l9 (D5 a0.1 37) (some (D5 a0.1 37)) (l9 (D5 a0.1 38) (some (D5 a0.1 38)) (some (D5 a0.1 39))))) λ(x:
 Bool)=>l9 x (o6 (X0 a1.2.2.2.2.1 a0.2) λ(x:H5)=>some x) (o6 (jF a0.1) λ(x:H5)=>some x))))))) λ(x:H5)
 =>o6 (aS x a1.1) λ(x_1:Bool)=>l9 (D5 a0.1 36) (l9 x_1 (l9 (D5 x.1 2) (some (x,true)) (some (x,D5 x.1 3))) (some
 (x,false))) (l9 (D5 a0.1 37) (l9 (D5 a0.1 37) (l9 x_1 (some (x,D5 x.1 1)) (some (x,false))) (l9 (D5 a0.1 39) (l9 x_1 (o6
 (tK x.1) λ(x_2:Bool)=>some (x,x_2)) (some (x,false))) (some (x,x_1)))) (l9 (D5 a0.1 38) (l9 x_1 (some (x,D5 x.1 1))
 (some (x,false))) (l9 (D5 a0.1 39) (l9 x_1 (o6 (tK x.1) λ(x_2:Bool)=>some (x,x_2)) (some (x,false))) (some (x,
 x_1)))))
def vI(a0:H5)(a1:H5)(a2:X5):Option (H5×Bool):=l9 (D5 a0.1 10) (o6 (xJ a1.1) λ(x:Bool)
 =>some (a1,x)) (l9 (D5 a0.1 25) (some (a1,D5 a1.1 1)) (o6 (l9 (D5 a0.1 31) (some (D5 a0.1 31)) (some (D5 a0.1 32))) λ(x:Bool)
 =>l9 x (o6 (jF 2) λ(x:H5)=>some (x,D5 a1.1 5)) (l9 (D5 a0.1 33) (o6 (X0 a2.2.1 a0.2) λ(x:nR)=>o6
 (aS x.2.1 a2.1) λ(x_1:Bool)=>l9 x_1 (o6 (aS x.2.2.1 a2.1) λ(x_2:Bool)=>l9 x_2 (some (x.2.2.1,oP
 (D5 a1.1 x.2.1.1) (D5 a1.2 x.2.1.2))) (some (x.2.2.1,false))) (some (x.2.2.1,false))) (o6 (X0 a2.2.1 (dX IntKind.i64 a0.2 8)) λ(x:
 nR)=>l9 (D5 a1.1 3) (o6 (jF 3) λ(x_1:H5)=>l9 (oP (D5 x.2.1.1 x_1.1) (D5 x.2.1.2 x_1.2)) (o6 (jF 4)
 λ(x_2:H5)=>some (a1,oP (D5 x.2.2.1.1 x_2.1) (D5 x.2.2.1.2 x_2.2))) (some (a1,false))) (some (a1,false))))))
def Vy(a0:Int)(a1:Int)(a2:Int):Option (H5×Bool):=l9 (D5 a0 13) (o6 (jF a1) λ(x:H5)=>l9 (D5 a2
 2) (l9 (D5 a1 2) (some (x,true)) (some (x,D5 a1 3))) (some (x,false))) (l9 (D5 a0 14) (o6 (jF a1) λ(x:H5)=>l9
 (D5 a2 4) (l9 (D5 a1 3) (some (x,true)) (some (x,D5 a1 4))) (some (x,false))) (l9 (D5 a1 3) (l9 (D5 a2 3) (o6 (jF 4) λ
 (x:H5)=>some (x,true)) (o6 (jF a1) λ(x:H5)=>l9 (D5 a2 2) (l9 (D5 a1 2) (some (x,true)) (some (x,D5 a1 3)))
 (some (x,false)))) (o6 (jF a1) λ(x:H5)=>l9 (D5 a2 2) (l9 (D5 a1 2) (some (x,true)) (some (x,D5 a1 3))) (some (x,
 false)))))
def xI(a0:Int)(a1:H5)(a2:H5):Option (H5×Bool):=o6 (o6 (l9 (D5 a0 11) (some (D5 a0 11)) (some (D5 a0
 12))) λ(x:Bool)=>l9 x (l9 (oP (D5 a1.1 a2.1) (D5 a1.2 a2.2)) (o6 (xJ a1.1) λ(x:Bool)=>some (Sum.inr (a1,x)))
 (some (Sum.inr (a1,false)))) (o6 (l9 (D5 a0 13) (some (D5 a0 13)) (l9 (D5 a0 14) (some (D5 a0 14)) (some (D5 a0 15)))) λ(x:Bool)
 =>l9 x (o6 (Vy a0 a1.1 a2.1) λ(x:H5×Bool)=>some (Sum.inr x)) (l9 (D5 a0 16) (l9 (D5 a1.1 3) (some (Sum.inr (a1,
 D5 a2.1 3))) (some (Sum.inr (a1,false)))) (o6 (l9 (D5 a0 17) (some (D5 a0 17)) (some (D5 a0 18))) λ(x:Bool)=>l9 x (l9 (oP
 (D5 a1.1 a2.1) (D5 a1.2 a2.2)) (o6 (tK a1.1) λ(x:Bool)=>some (Sum.inr (a1,x))) (some (Sum.inr (a1,false)))) (o6 (l9
 (D5 a0 19) (some (D5 a0 19)) (some (D5 a0 20))) λ(x:Bool)=>l9 x (o6 (jF 1) λ(x:H5)=>some (Sum.inr (x,oP (D5
 a1.1 a2.1) (D5 a1.2 a2.2)))) (o6 (l9 (D5 a0 21) (some (D5 a0 21)) (some (D5 a0 22))) λ(x:Bool)=>l9 x (o6 (jF 1) λ(x
 :H5)=>l9 (oP (D5 a1.1 a2.1) (D5 a1.2 a2.2)) (o6 (tK a1.1) λ(x_1:Bool)=>some (Sum.inr (x,x_1))) (some (Sum.inr (x,
 false)))) (l9 (D5 a0 23) (l9 (D5 a0 23) (l9 (D5 a1.1 1) (some (Sum.inr (a1,D5 a2.1 1))) (some (Sum.inr (a1,false)))) (l9 (D5 a0
 27) (l9 (D5 a0 27) (l9 (D5 a1.1 5) (some (Sum.inr (a1,D5 a2.1 2))) (some (Sum.inr (a1,false)))) (some (Sum.inl (0,0)))) (l9 (D5 a0
 28) (l9 (D5 a1.1 5) (some (Sum.inr (a1,D5 a2.1 2))) (some (Sum.inr (a1,false)))) (some (Sum.inl (0,0)))))) (l9 (D5 a0 24) (l9 (D5
 a1.1 1) (some (Sum.inr (a1,D5 a2.1 1))) (some (Sum.inr (a1,false)))) (l9 (D5 a0 27) (l9 (D5 a0 27) (l9 (D5 a1.1 5) (some (Sum.inr (a1,
 D5 a2.1 2))) (some (Sum.inr (a1,false)))) (some (Sum.inl (0,0)))) (l9 (D5 a0 28) (l9 (D5 a1.1 5) (some (Sum.inr (a1,D5 a2.1 2))) (some
 (Sum.inr (a1,false)))) (some (Sum.inl (0,0))))))))))))) λ(o:H5⊕H5×Bool)=>bP o (λ(x:H5)=>o6 (jF 2) λ(x:
 H5)=>l9 (D5 a1.1 5) (some (x,D5 a2.1 5)) (some (x,false))) λ(r:H5×Bool)=>some r
def zC(a0:H5)(a1:List H5)(a2:X5):Option (H5×Int):=o6 (l9 (H9 (D5 a0.2 0)) (o6 (jX
 a0.1) λ(x:Bool)=>l9 (H9 x) (some (Sum.inr ((0,0),2))) (some (Sum.inl (0,0)))) (some (Sum.inl (0,0)))) λ(o:H5⊕H5×Int)
 =>bP o (λ(x:H5)=>o6 (vH a0 a2) λ(x:Bool)=>l9 (H9 x) (some ((0,0),3)) (o6 (wS a0 a2) λ(x:
 Bool)=>l9 (H9 x) (some ((0,0),6)) (l9 (D5 (x9 a1) 0) (o6 (nZ a0 a2) λ(x:H5×Bool)=>l9 (H9 x.2) (some ((0,
 0),8)) (some (x.1,0))) (l9 (D5 (x9 a1) 1) (o6 (X0 a1 0) λ(x:H5)=>o6 (vI a0 x a2) λ(x:H5×Bool)=>l9
 (H9 x.2) (some ((0,0),8)) (some (x.1,0))) (l9 (D5 (x9 a1) 2) (o6 (X0 a1 0) λ(x:H5)=>o6 (X0 a1 1) λ(x_1:H5)=>
 o6 (xI a0.1 x x_1) λ(x:H5×Bool)=>l9 (H9 x.2) (some ((0,0),8)) (some (x.1,0))) (o6 (X0 a1 1) λ(x:H5)=>
 o6 (X0 a1 0) λ(x_1:H5)=>l9 (D5 x_1.1 1) (o6 (X0 a1 1) λ(x_2:H5)=>o6 (X0 a1 2) λ(x_3:H5)=>l9 (H9
 (oP (D5 x_2.1 x_3.1) (D5 x_2.2 x_3.2))) (some ((0,0),8)) (some (x,0))) (l9 (H9 false) (some ((0,0),8)) (some (x,0))))))))) λ(r:
 H5×Int)=>some r
def wK(a0:BP):Option H5:=some (a0.1,a0.2.1)
def Bz(a0:Int):Option Bool:=l9 (V6 0 a0) (some (V6 a0 109572)) (some false)
def DT(a0:Int):Option Bool:=l9 (D5 (iY a0 4) 0) (l9 (H9 (D5 (iY a0 100) 0)) (some true) (some (D5 (iY a0 400) 0)))
 (some false)
def oU(a0:Int):Option Int:=o6 (DT a0) λ(x:Bool)=>l9 x (some 366) (some 365)
def nM(a0:Int)(a1:Int):Option Int:=l9 (D5 a1 2) (o6 (DT a0) λ(x:Bool)=>l9 x (some 29) (some 28))
 (o6 (l9 (D5 a1 4) (some (D5 a1 4)) (l9 (D5 a1 6) (some (D5 a1 6)) (l9 (D5 a1 9) (some (D5 a1 9)) (some (D5 a1 11))))) λ(x:
 Bool)=>l9 x (some 30) (l9 (D5 a1 1) (l9 (D5 a1 1) (some 31) (some 0)) (l9 (D5 a1 3) (l9 (D5 a1 3) (some 31) (some 0)) (l9
 (D5 a1 5) (l9 (D5 a1 5) (some 31) (some 0)) (l9 (D5 a1 7) (l9 (D5 a1 7) (some 31) (some 0)) (l9 (D5 a1 8) (l9 (D5 a1 8) (some
 31) (some 0)) (l9 (D5 a1 10) (l9 (D5 a1 10) (some 31) (some 0)) (l9 (D5 a1 12) (some 31) (some 0)))))))))
def FC(a0:Int):Option BP:=o6 (Bz a0) λ(x:Bool)=>l9 (H9 x) (some (0,0,0)) (o6 (lT (λ(x:H5)
 =>o6 (oU x.2) λ(x_1:Int)=>l9 (V6 x_1 x.1) (o6 (oU x.2) λ(x_2:Int)=>some (Sum.inl (ae
 IntKind.i64 x.1 x_2,I5 IntKind.i64 x.2 1))) (some (Sum.inr x))) (a0,1900)) λ(y:H5)=>o6 (lT (λ(x:H5)=>o6
 (nM y.2 x.2) λ(x_1:Int)=>l9 (V6 x_1 x.1) (o6 (nM y.2 x.2) λ(x_2:Int)=>some (Sum.inl (ae
 IntKind.i64 x.1 x_2,I5 IntKind.i64 x.2 1))) (some (Sum.inr x))) (y.1,1)) λ(y_1:H5)=>some (y.2,y_1.2,I5 IntKind.i64 y_1.1 1))
def mD(a0:List jq):Option (List (List UInt8)):=
 o6
 (lT
  (λ(x:List (List UInt8)×Int)=>
   l9 (I8 x.2 (x9 a0))
    (o6 (X0 a0 x.2) λ(x_1:jq)=>
     o6 (jV x.1 [x_1.1]) λ(x_2:List (List UInt8))=>some (Sum.inl (x_2,I5 IntKind.i64 x.2 1)))
    (some (Sum.inr x.1)))
  ([],0))
 λ(y:List (List UInt8))=>some y
def um(a0:gV)(a1:Int):Option D7:=
 o6
 (l9 (I8 a1 0) (some (Sum.inr ([],[],[],[],[])))
  (l9 (V6 (x9 a0.2.2) a1) (some (Sum.inr ([],[],[],[],[]))) (some (Sum.inl ([],[],[],[],[])))))
 λ(o:D7⊕D7)=>
 bP o
  (λ(x:D7)=>
   o6 (X0 a0.2.2 a1) λ(x:O0)=>
    o6 (mD x.2.2.1) λ(x_1:List (List UInt8))=>
     o6 (mD x.2.2.2.1) λ(x_2:List (List UInt8))=>
      o6
       (lT
        (λ(x:D7×Int)=>
         l9 (I8 x.2 (x9 a0.2.1))
          (o6 (X0 a0.2.1 x.2) λ(x_3:nR)=>
           o6 (jV x.1.2.1 [x_3.1]) λ(x_4:List (List UInt8))=>
            some (Sum.inl ((x.1.1,x_4,x.1.2.2),I5 IntKind.i64 x.2 1)))
          (some (Sum.inr x.1)))
        ((a0.1,[],x_1,x_2,[]),0))
       λ(y:D7)=>
       l9 (V6 0 x.2.1)
        (l9 (I8 x.2.1 (x9 a0.2.2))
         (o6 (X0 a0.2.2 x.2.1) λ(x:O0)=>
          o6 (mD x.2.2.2.1) λ(x:List (List UInt8))=>
           some (y.1,y.2.1,y.2.2.1,y.2.2.2.1,x))
         (some y))
        (some y))
  λ(r:D7)=>some r
def tN(a0:H5):Option (BP×Bool):=
 l9 (V6 1 a0.1) (l9 (V6 a0.1 5) (some ((a0.1,0,a0.2),true)) (some ((0,0,0),false)))
 (some ((0,0,0),false))
def XE(a0:H5)(a1:D7):Option (List (List UInt8)):=
 l9 (D5 a0.1 7) (some a1.2.2.1)
 (l9 (D5 a0.1 8) (some a1.2.2.2.1) (l9 (D5 a0.1 33) (some a1.2.1) (some a1.2.2.2.2)))
def Z5(a0:H5)(a1:D7):Option Int:=
 o6 (tN a0) λ(x:BP×Bool)=>
 l9 x.2
  (o6 (dR (x.1.1,0) []) λ(x_1:H5)=>
   l9 (I8 x.1.2.2 x_1.1) (some 3) (l9 (I8 x_1.2 x.1.2.2) (some 3) (some 0)))
  (l9 (D5 a0.1 6)
   (l9 (I8 a0.2 0) (some 6)
    (l9 (V6 (x9 a1.1) (dX IntKind.i64 a0.2 16)) (some 6)
     (o6 (X0 a1.1 (dX IntKind.i64 a0.2 16)) λ(x:dU)=>
      l9 (V6 (x9 x.2) (iY a0.2 16)) (some 6) (some 0))))
   (o6
    (l9 (D5 a0.1 7) (some true)
     (l9 (D5 a0.1 8) (some true)
      (l9 (D5 a0.1 33) (some true) (l9 (V6 36 a0.1) (some (V6 a0.1 39)) (some false)))))
    λ(x:Bool)=>
    l9 x
     (l9 (I8 a0.2 0) (some 6)
      (o6 (XE a0 a1) λ(x:List (List UInt8))=>l9 (V6 (x9 x) a0.2) (some 6) (some 0)))
     (l9 (D5 a0.1 34)
      (l9 (I8 a0.2 0) (some 6)
       (l9 (V6 (x9 a1.2.1) (dX IntKind.i64 a0.2 8)) (some 6)
        (l9 (I8 5 (iY a0.2 8)) (some 3) (some 0))))
      (o6 (l9 (D5 a0.1 14) (some true) (l9 (D5 a0.1 15) (some true) (some (D5 a0.1 16))))
       λ(x:Bool)=>
       l9 x (l9 (I8 a0.2 0) (some 3) (l9 (I8 5 a0.2) (some 3) (some 0)))
        (l9 (H9 (D5 a0.2 0)) (some 2) (some 0))))))
def BA(a0:BP)(a1:List dU):Option Bool:=
 o6 (wK a0) λ(x:H5)=>
 o6 (aS x a1) λ(x:Bool)=>
  l9 x (o6 (wK a0) λ(x:H5)=>o6 (Kz a0.2.2 x a1) λ(x:Bool)=>some x)
   (some false)
def xG(r196:Int->Option (List UInt8))(a0:Int):Option (List UInt8):=
 l9 (I8 a0 10) (some (BR [wrap IntKind.u8 (I5 IntKind.u64 48 a0)]))
 (o6 (r196 (dX IntKind.u64 a0 10)) λ(x:List UInt8)=>
  o6 (Z7 x (BR [wrap IntKind.u8 (I5 IntKind.u64 48 (iY a0 10))])) λ(x:List UInt8)=>some x)
def vG:Nat->(M.den (.dat (.int .u64))->Option (aW ([(false,(.dat .str))]++[])))
 |0=>λa0=>none
 |n+1=>λa0=>xG (vG n) a0
def DN:M.den (.dat (.int .u64))->Option (aW ([(false,(.dat .str))]++[])):=λa0=>(vG au) a0
def qi(a0:Int):Option (List UInt8):=
 l9 (I8 a0 0)
 (o6 (DN (I5 IntKind.u64 (wrap IntKind.u64 (ae IntKind.i64 0 (I5 IntKind.i64 a0 1))) 1))
  λ(x:List UInt8)=>o6 (Z7 [45] x) λ(x:List UInt8)=>some x)
 (o6 (DN (wrap IntKind.u64 a0)) λ(x:List UInt8)=>some x)
def NM(a0:Int):Option Int:=
 some (zk (zi a0 0) 9)
def AA(a0:List UInt8):Option (List UInt8×Bool):=
 l9 (I8 0 (x9 a0))
 (o6 (sat a0 0) λ(x:Int)=>
  l9 (D5 x 45) (o6 (bQ a0 1 (x9 a0)) λ(x:List UInt8)=>some (x,true)) (some (a0,false)))
 (some (a0,false))
def jL(a0:Int)(a1:Int):Option (List UInt8):=
 o6 (NM a1) λ(x:Int)=>
 l9 (D5 x 0) (o6 (qi a0) λ(x:List UInt8)=>some x)
  (o6 (qi a0) λ(x_1:List UInt8)=>
   o6 (AA x_1) λ(x_2:List UInt8×Bool)=>
    o6
     (lT
      (λ(x_3:List UInt8)=>
       l9 (V6 (x9 x_3) x) (o6 (Z7 [48] x_3) λ(x:List UInt8)=>some (Sum.inl x))
        (some (Sum.inr x_3)))
      x_2.1)
     λ(y:List UInt8)=>
     o6 (bQ y 0 (ae IntKind.i64 (x9 y) x)) λ(x_3:List UInt8)=>
      o6 (Z7 x_3 [46]) λ(x_4:List UInt8)=>
       o6 (bQ y (ae IntKind.i64 (x9 y) x) (x9 y)) λ(x:List UInt8)=>
        o6 (Z7 x_4 x) λ(x:List UInt8)=>
         l9 x_2.2 (o6 (Z7 [45] x) λ(x:List UInt8)=>some x) (some x))
def zN(a0:Int)(a1:Int):Option (List UInt8):=
 o6 (qi a0) λ(x:List UInt8)=>
 o6
  (lT
   (λ(x:List UInt8)=>
    l9 (I8 (x9 x) a1) (o6 (Z7 [48] x) λ(x:List UInt8)=>some (Sum.inl x)) (some (Sum.inr x)))
   x)
  λ(y:List UInt8)=>some y
def DR(a0:Int):Option (List UInt8):=
 o6 (Bz a0) λ(x:Bool)=>
 l9 (H9 x) (some [])
  (o6 (FC a0) λ(x:BP)=>
   o6 (zN x.1 4) λ(x_1:List UInt8)=>
    o6 (Z7 x_1 [45]) λ(x_2:List UInt8)=>
     o6 (zN x.2.1 2) λ(x_3:List UInt8)=>
      o6 (Z7 x_2 x_3) λ(x_4:List UInt8)=>
       o6 (Z7 x_4 [45]) λ(x_5:List UInt8)=>
        o6 (zN x.2.2 2) λ(x:List UInt8)=>o6 (Z7 x_5 x) λ(x:List UInt8)=>some x)
def xH(a0:BP)(a1:List dU):Option (List UInt8×Int):=
 o6 (wK a0) λ(x:H5)=>
 o6 (aS x a1) λ(x:Bool)=>
  l9 (H9 x) (some ([],8))
   (o6 (BA a0 a1) λ(x:Bool)=>
    l9 (H9 x) (some ([],3))
     (l9 (D5 a0.1 1)
      (l9 (D5 a0.2.2 0) (some ([102,97,108,115,101],0)) (some ([116,114,117,101],0)))
      (l9 (D5 a0.1 2) (o6 (qi a0.2.2) λ(x:List UInt8)=>some (x,0))
       (l9 (D5 a0.1 3) (o6 (jL a0.2.2 2) λ(x:List UInt8)=>some (x,0))
        (l9 (D5 a0.1 4)
         (o6 (jL a0.2.2 4) λ(x:List UInt8)=>
          o6 (Z7 x [37]) λ(x:List UInt8)=>some (x,0))
         (l9 (D5 a0.1 5) (o6 (DR a0.2.2) λ(x:List UInt8)=>some (x,0))
          (o6 (X0 a1 a0.2.1) λ(x:dU)=>
           o6 (X0 x.2 a0.2.2) λ(x:List UInt8)=>some (x,0))))))))
def mV(a0:Int):Option (List UInt8×Int):=
 l9 (D5 a0 24) (some ([111,114],1))
 (l9 (D5 a0 23) (some ([97,110,100],2))
  (l9 (D5 a0 19) (some ([61,61],3))
   (l9 (D5 a0 20) (some ([33,61],3))
    (l9 (D5 a0 21) (some ([60],3))
     (l9 (D5 a0 22) (some ([60,61],3))
      (l9 (D5 a0 11) (some ([43],4))
       (l9 (D5 a0 12) (some ([45],4)) (l9 (D5 a0 13) (some ([42],5)) (some ([],0))))))))))
def AC(a0:Int):Option (List UInt8):=
 l9 (D5 a0 14) (some [115,104,97,114,101])
 (l9 (D5 a0 15) (some [100,105,118])
  (l9 (D5 a0 16) (some [114,111,117,110,100])
   (l9 (D5 a0 17) (some [109,105,110])
    (l9 (D5 a0 18) (some [109,97,120])
     (l9 (D5 a0 27) (some [112,108,117,115])
      (l9 (D5 a0 28) (some [109,111,110,116,104,115])
       (l9 (D5 a0 29) (some [100,97,121,115])
        (l9 (D5 a0 30) (some [121,101,97,114,115])
         (l9 (D5 a0 31) (some [121,101,97,114])
          (l9 (D5 a0 32) (some [109,111,110,116,104])
           (l9 (D5 a0 33) (some [116,97,98])
            (l9 (D5 a0 34) (some [98,97,110,100])
             (l9 (D5 a0 35) (some [99,111,117,110,116])
              (l9 (D5 a0 36) (some [115,117,109])
               (l9 (D5 a0 37) (some [97,108,108])
                (l9 (D5 a0 38) (some [97,110,121])
                 (l9 (D5 a0 39) (some [109,111,115,116]) (some []))))))))))))))))))
def ZC(a0:Int):Option Int:=
 o6
 (lT
  (λ(x:H5)=>
   l9 (I8 x.2 a0) (some (Sum.inl (JK IntKind.i64 x.1 2,I5 IntKind.i64 x.2 1))) (some (Sum.inr x.1)))
  (1,0))
 λ(y:Int)=>some y
end
end Gt
