import Derived.Test.YtpiondedhhgjbaaGreatDoorV3
set_option linter.all false
open Go Go.GP
namespace Gt
set_option maxRecDepth 100000
noncomputable section
def KX(a0:Int):c6J:=l7 (U7 97 a0) (some (U7 a0 122)) (some false)
def SS(a0:Int):c6J:=l7 (U7 48 a0) (some (U7 a0 57)) (some false)
def Oo(a0:Int):c6J:=l9 (KX a0) λ(x:Bool)=>l7 x (some true) (l9 (SS a0) λ(x:Bool)=>
 l7 x (some true) (some (C9 a0 95)))
def xM:Option (List c6F):=some [[105,102],[116,104,101,110],[101,108,115,101],[111,114],[97,110,100],[110,
 111,116],[116,114,117,101],[102,97,108,115,101],[116,111,100,97,121],[115,104,97,114,101],[100,105,118],[114,111,117,110,
 100],[109,105,110],[109,97,120],[112,108,117,115],[109,111,110,116,104,115],[100,97,121,115],[121,101,97,114,115],[121,
 101,97,114],[109,111,110,116,104],[116,97,98],[98,97,110,100],[99,111,117,110,116],[115,117,109],[97,108,108],[97,110,
 121],[109,111,115,116],[101,110,117,109],[116,97,98,108,101],[114,111,119],[115,99,111,112,101],[109,101,109,98,101,114,
 115],[105,110,112,117,116],[100,101,102],[114,117,108,101],[111,102],[111,118,101,114],[112,114,105,111],[102,114,111,109],
 [116,111],[101,110,100],[119,104,101,110],[105,115],[115,114,99],[98,111,111,108],[105,110,116],[109,111,110,101,121],[114,
 97,116,101],[100,97,116,101],[100,111,119,110],[117,112],[122,101,114,111],[97,119,97,121],[104,97,108,102],[101,118,101,
 110]]
def kY(a0:c6F):c6J:=l9 (l7 (C9 (A7 a0) 0) (some (Sum.inr false)) (l7 (I5 16 (A7 a0)) (some
 (Sum.inr false)) (l9 (sat a0 0) λ(x:Int)=>l9 (KX x) λ(x:Bool)=>l7 (H5 x) (some (Sum.inr false)) (some (Sum.inl
 PUnit.unit))))) λ(o:PUnit⊕Bool)=>Z8 o (λ(x:PUnit)=>l9 (V4 (λ(x:Int)=>l7 (I5 x (A7 a0)) (l9 (sat a0 x) λ
 (x_1:Int)=>l9 (Oo x_1) λ(x_2:Bool)=>l7 (H5 x_2) (some (Out.rt false)) (some (Out.nx (G5 IntKind.i64 x 1)))) (some
 (Out.ex PUnit.unit))) 0) λ(o:PUnit⊕Bool)=>Z8 o (λ(y:PUnit)=>l9 xM λ(x:List c6F)=>l9 (V4 (λ
 (x_1:Int)=>l7 (I5 x_1 (A7 x)) (l9 (P5 x x_1) λ(x_2:c6F)=>l9 (aN x (Z7 x_1)) λ(x:c6F)=>l7 (seq x
 a0) (some (Out.rt false)) (some (Out.nx (G5 IntKind.i64 x_1 1)))) (some (Out.ex PUnit.unit))) 0) λ(o:PUnit⊕Bool)=>Z8 o (λ(y:PUnit)
 =>some true) λ(r:Bool)=>some r) λ(r:Bool)=>some r) λ(r:Bool)=>some r
def dm(a0:H6)(a1:List bK):c6J:=l7 (C9 a0.1 6) (l7 (U7 0 a0.2) (some (I5 a0.2 (A7 a1))) (some false))
 (l7 (U7 1 a0.1) (l7 (U7 a0.1 5) (some (C9 a0.2 0)) (some false)) (some false))
def eQ(a0:H6)(a1:List bK):Option H6:=l9 (dm a0 a1) λ(x:Bool)=>l7 (H5 x) (some (0,-1)) (l7
 (C9 a0.1 1) (some (0,1)) (l7 (C9 a0.1 2) (some (-1000000000000,1000000000000)) (l7 (C9 a0.1 3) (some (-1000000000000000,
 1000000000000000)) (l7 (C9 a0.1 4) (some (-1000000000,1000000000)) (l7 (C9 a0.1 5) (some (0,109572)) (l9 (P5 a1 a0.2) λ(x:bK)
 =>some (0,N9 IntKind.i64 (A7 x.2) 1)))))))
def VQ(a0:Int)(a1:H6)(a2:List bK):c6J:=l9 (eQ a1 a2) λ(x:H6)=>l7 (U7 x.1 a0) (some (U7 a0
 x.2)) (some false)
def lI(a0:Int):c6K:=l9 (l7 (U7 1 a0) (l7 (U7 a0 9) (some (Sum.inr 0)) (l7 (U7 35 a0) (l7 (U7 a0 39) (some
 (Sum.inr 0)) (some (Sum.inl PUnit.unit))) (some (Sum.inl PUnit.unit)))) (l7 (U7 35 a0) (l7 (U7 a0 39) (some (Sum.inr 0)) (some (Sum.inl
 PUnit.unit))) (some (Sum.inl PUnit.unit)))) λ(o:PUnit⊕Int)=>Z8 o (λ(x:PUnit)=>l7 (C9 a0 10) (l7 (C9 a0 10) (some 1) (l7
 (C9 a0 26) (some 3) (l7 (U7 11 a0) (l7 (U7 a0 30) (some 2) (some (-1))) (some (-1))))) (l7 (C9 a0 25) (l7 (C9 a0 25) (some 1) (l7
 (C9 a0 26) (some 3) (l7 (U7 11 a0) (l7 (U7 a0 30) (some 2) (some (-1))) (some (-1))))) (l7 (C9 a0 31) (l7 (C9 a0 31) (some 1) (l7
 (C9 a0 26) (some 3) (l7 (U7 11 a0) (l7 (U7 a0 30) (some 2) (some (-1))) (some (-1))))) (l7 (C9 a0 32) (l7 (C9 a0 32) (some 1) (l7
 (C9 a0 26) (some 3) (l7 (U7 11 a0) (l7 (U7 a0 30) (some 2) (some (-1))) (some (-1))))) (l7 (C9 a0 33) (l7 (C9 a0 33) (some 1) (l7
 (C9 a0 26) (some 3) (l7 (U7 11 a0) (l7 (U7 a0 30) (some 2) (some (-1))) (some (-1))))) (l7 (C9 a0 34) (some 1) (l7 (C9 a0 26) (some
 3) (l7 (U7 11 a0) (l7 (U7 a0 30) (some 2) (some (-1))) (some (-1)))))))))) λ(r:Int)=>some r
def zA(a0:List H6):Option (c6G×H6):=l7 (I5 48 (A7 a0)) (some ([],0,4)) (l7 (C9 (A7 a0) 0) (some ([],0,
 5)) (l9 (V4 (λ(x:c6G×c6G×Int)=>l7 (I5 x.2.2 (A7 a0)) (l9 (P5 a0 x.2.2) λ(x_1:H6)=>l9 (lI
 x_1.1) λ(x_2:Int)=>l7 (I5 x_2 0) (some (Out.rt ([],x.2.2,2))) (l7 (I5 (A7 x.2.1) x_2) (some (Out.rt ([],x.2.2,5))) (l7 (I5 0
 x_2) (l9 (P5 x.2.1 (N9 IntKind.i64 (A7 x.2.1) x_2)) λ(x_3:Int)=>l9 (aN x.2.1 (Z7 (N9 IntKind.i64 (A7 x.2.1) x_2))) λ(x_4
 :Int)=>l7 (mi 0 (N9 IntKind.i64 (A7 x.2.1) x_2) (A7 x.2.1)) (l9 (eG (kH x.2.1 (Z7 0) (Z7 (N9 IntKind.i64 (A7 x.2.1)
 x_2))) [x_4]) λ(x_5:c6G)=>l9 (eG x.1 [x_4]) λ(x_6:c6G)=>l7 (I5 12 (A7 x_5)) (some (Out.rt ([],x.2.2,16))) (some
 (Out.nx (x_6,x_5,G5 IntKind.i64 x.2.2 1)))) none) (l9 (eG x.2.1 [x.2.2]) λ(x_3:c6G)=>l9 (eG x.1 [x.2.2]) λ(x_4:List
 Int)=>l7 (I5 12 (A7 x_3)) (some (Out.rt ([],x.2.2,16))) (some (Out.nx (x_4,x_3,G5 IntKind.i64 x.2.2 1))))))) (some (Out.ex (x.1,
 x.2.1)))) ([],[],0)) λ(o:c6G×c6G⊕c6G×H6)=>Z8 o (λ(y:c6G×c6G)=>l7 (I5 1 (A7 y.2)) (some
 ([],A7 a0,4)) (some (y.1,0,0))) λ(r:c6G×H6)=>some r))
def kT(a0:Int):c6J:=l9 (l7 (U7 1 a0) (l7 (U7 a0 8) (some (Sum.inr true)) (l7 (U7 36 a0) (l7 (U7 a0 39)
 (some (Sum.inr true)) (some (Sum.inl PUnit.unit))) (some (Sum.inl PUnit.unit)))) (l7 (U7 36 a0) (l7 (U7 a0 39) (some (Sum.inr true)) (some
 (Sum.inl PUnit.unit))) (some (Sum.inl PUnit.unit)))) λ(o:PUnit⊕Bool)=>Z8 o (λ(x:PUnit)=>l7 (C9 a0 14) (some true) (l7 (C9
 a0 15) (some true) (l7 (C9 a0 16) (some true) (l7 (C9 a0 33) (some true) (some (C9 a0 34)))))) λ(r:Bool)=>some r
def kz(a0:Int):Option H6:=some (a0,0)
def yC(a0:H6)(a1:Y0):c6J:=l9 (l7 (C9 a0.1 1) (some (C9 a0.1 1)) (l7 (C9 a0.1 2) (some (C9 a0.1 2))
 (l7 (C9 a0.1 3) (some (C9 a0.1 3)) (l7 (C9 a0.1 4) (some (C9 a0.1 4)) (some (C9 a0.1 5)))))) λ(x:Bool)=>l7 x (l9 (kz
 a0.1) λ(x:H6)=>l9 (eQ x a1.1) λ(x:H6)=>l7 (U7 x.1 a0.2) (some (U7 a0.2 x.2)) (some false)) (l9 (l7 (C9
 a0.1 14) (some (C9 a0.1 14)) (l7 (C9 a0.1 15) (some (C9 a0.1 15)) (some (C9 a0.1 16)))) λ(x:Bool)=>l7 x (l7 (U7 0 a0.2) (some
 (U7 a0.2 5)) (some false)) (l7 (C9 a0.1 34) (l7 (U7 0 a0.2) (some (U7 (fE a0.2 8) 5)) (some false)) (l7 (C9 a0.1 6) (some (U7 0
 a0.2)) (some true))))
def Ad(a0:H6)(a1:Y0):c6J:=l7 (C9 a0.1 6) (l7 (I5 (aO IntKind.i64 a0.2 16) (A7 a1.1)) (l9 (P5
 a1.1 (aO IntKind.i64 a0.2 16)) λ(x:bK)=>some (I5 (fE a0.2 16) (A7 x.2))) (some false)) (l7 (C9 a0.1 7) (l7 (U7 0 a0.2) (some
 (I5 a0.2 (A7 a1.2.2.1))) (some false)) (l7 (C9 a0.1 8) (l7 (U7 0 a0.2) (some (I5 a0.2 (A7 a1.2.2.2.1))) (some false)) (l7 (C9 a0.1
 33) (l7 (U7 0 a0.2) (some (I5 a0.2 (A7 a1.2.1))) (some false)) (l7 (C9 a0.1 34) (some (I5 (aO IntKind.i64 a0.2 8) (A7 a1.2.1)))
 (l7 (C9 a0.1 35) (some a1.2.2.2.2.2) (l9 (l7 (C9 a0.1 36) (some (C9 a0.1 36)) (l7 (C9 a0.1 37) (some (C9 a0.1 37)) (l7 (C9 a0.1
 38) (some (C9 a0.1 38)) (some (C9 a0.1 39))))) λ(x:Bool)=>l7 x (l7 a1.2.2.2.2.2 (l7 (U7 0 a0.2) (some (I5 a0.2 (A7
 a1.2.2.2.2.1))) (some false)) (some false)) (some true)))))))
def Ba(a0:Int):c6J:=l7 (C9 a0 2) (some true) (l7 (C9 a0 3) (some true) (some (C9 a0 4)))
def wH(a0:Int):c6J:=l9 (Ba a0) λ(x:Bool)=>l7 x (some true) (some (C9 a0 5))
def qh(a0:H6)(a1:Y0):Option (H6×Bool):=l9 (l7 (C9 a0.1 6) (some (6,aO IntKind.i64 a0.2 16)) (l7 (C9
 a0.1 7) (l9 (P5 a1.2.2.1 a0.2) λ(x:H6)=>some x) (l7 (C9 a0.1 8) (l9 (P5 a1.2.2.2.1 a0.2) λ(x:H6)=>some x) (l7 (C9
 a0.1 9) (l9 (kz 5) λ(x:H6)=>some x) (l7 (C9 a0.1 35) (l9 (kz 2) λ(x:H6)=>some x) (l9 (l7 (C9
 a0.1 36) (some (C9 a0.1 36)) (l7 (C9 a0.1 37) (some (C9 a0.1 37)) (l7 (C9 a0.1 38) (some (C9 a0.1 38)) (some (C9 a0.1 39))))) λ(x:
 Bool)=>l7 x (l9 (P5 a1.2.2.2.2.1 a0.2) λ(x:H6)=>some x) (l9 (kz a0.1) λ(x:H6)=>some x))))))) λ(x:H6)
 =>l9 (dm x a1.1) λ(x_1:Bool)=>l7 (C9 a0.1 36) (l7 x_1 (l7 (C9 x.1 2) (some (x,true)) (some (x,C9 x.1 3))) (some
 (x,false))) (l7 (C9 a0.1 37) (l7 (C9 a0.1 37) (l7 x_1 (some (x,C9 x.1 1)) (some (x,false))) (l7 (C9 a0.1 39) (l7 x_1 (l9
 (wH x.1) λ(x_2:Bool)=>some (x,x_2)) (some (x,false))) (some (x,x_1)))) (l7 (C9 a0.1 38) (l7 x_1 (some (x,C9 x.1 1))
 (some (x,false))) (l7 (C9 a0.1 39) (l7 x_1 (l9 (wH x.1) λ(x_2:Bool)=>some (x,x_2)) (some (x,false))) (some (x,
 x_1)))))
def yD(a0:H6)(a1:H6)(a2:Y0):Option (H6×Bool):=l7 (C9 a0.1 10) (l9 (Ba a1.1) λ(x:Bool)
 =>some (a1,x)) (l7 (C9 a0.1 25) (some (a1,C9 a1.1 1)) (l9 (l7 (C9 a0.1 31) (some (C9 a0.1 31)) (some (C9 a0.1 32))) λ(x:Bool)
 =>l7 x (l9 (kz 2) λ(x:H6)=>some (x,C9 a1.1 5)) (l7 (C9 a0.1 33) (l9 (P5 a2.2.1 a0.2) λ(x:eP)=>l9
 (dm x.2.1 a2.1) λ(x_1:Bool)=>l7 x_1 (l9 (dm x.2.2.1 a2.1) λ(x_2:Bool)=>l7 x_2 (some (x.2.2.1,iV
 (C9 a1.1 x.2.1.1) (C9 a1.2 x.2.1.2))) (some (x.2.2.1,false))) (some (x.2.2.1,false))) (l9 (P5 a2.2.1 (aO IntKind.i64 a0.2 8)) λ(x:
 eP)=>l7 (C9 a1.1 3) (l9 (kz 3) λ(x_1:H6)=>l7 (iV (C9 x.2.1.1 x_1.1) (C9 x.2.1.2 x_1.2)) (l9 (kz 4)
 λ(x_2:H6)=>some (a1,iV (C9 x.2.2.1.1 x_2.1) (C9 x.2.2.1.2 x_2.2))) (some (a1,false))) (some (a1,false))))))
def Zq(a0:Int)(a1:Int)(a2:Int):Option (H6×Bool):=l7 (C9 a0 13) (l9 (kz a1) λ(x:H6)=>l7 (C9 a2
 2) (l7 (C9 a1 2) (some (x,true)) (some (x,C9 a1 3))) (some (x,false))) (l7 (C9 a0 14) (l9 (kz a1) λ(x:H6)=>l7
 (C9 a2 4) (l7 (C9 a1 3) (some (x,true)) (some (x,C9 a1 4))) (some (x,false))) (l7 (C9 a1 3) (l7 (C9 a2 3) (l9 (kz 4) λ
 (x:H6)=>some (x,true)) (l9 (kz a1) λ(x:H6)=>l7 (C9 a2 2) (l7 (C9 a1 2) (some (x,true)) (some (x,C9 a1 3)))
 (some (x,false)))) (l9 (kz a1) λ(x:H6)=>l7 (C9 a2 2) (l7 (C9 a1 2) (some (x,true)) (some (x,C9 a1 3))) (some (x,
 false)))))
def AZ(a0:Int)(a1:H6)(a2:H6):Option (H6×Bool):=l9 (l9 (l7 (C9 a0 11) (some (C9 a0 11)) (some (C9 a0
 12))) λ(x:Bool)=>l7 x (l7 (iV (C9 a1.1 a2.1) (C9 a1.2 a2.2)) (l9 (Ba a1.1) λ(x:Bool)=>some (Sum.inr (a1,x)))
 (some (Sum.inr (a1,false)))) (l9 (l7 (C9 a0 13) (some (C9 a0 13)) (l7 (C9 a0 14) (some (C9 a0 14)) (some (C9 a0 15)))) λ(x:Bool)
 =>l7 x (l9 (Zq a0 a1.1 a2.1) λ(x:H6×Bool)=>some (Sum.inr x)) (l7 (C9 a0 16) (l7 (C9 a1.1 3) (some (Sum.inr (a1,
 C9 a2.1 3))) (some (Sum.inr (a1,false)))) (l9 (l7 (C9 a0 17) (some (C9 a0 17)) (some (C9 a0 18))) λ(x:Bool)=>l7 x (l7 (iV
 (C9 a1.1 a2.1) (C9 a1.2 a2.2)) (l9 (wH a1.1) λ(x:Bool)=>some (Sum.inr (a1,x))) (some (Sum.inr (a1,false)))) (l9 (l7
 (C9 a0 19) (some (C9 a0 19)) (some (C9 a0 20))) λ(x:Bool)=>l7 x (l9 (kz 1) λ(x:H6)=>some (Sum.inr (x,iV (C9
 a1.1 a2.1) (C9 a1.2 a2.2)))) (l9 (l7 (C9 a0 21) (some (C9 a0 21)) (some (C9 a0 22))) λ(x:Bool)=>l7 x (l9 (kz 1) λ(x
 :H6)=>l7 (iV (C9 a1.1 a2.1) (C9 a1.2 a2.2)) (l9 (wH a1.1) λ(x_1:Bool)=>some (Sum.inr (x,x_1))) (some (Sum.inr (x,
 false)))) (l7 (C9 a0 23) (l7 (C9 a0 23) (l7 (C9 a1.1 1) (some (Sum.inr (a1,C9 a2.1 1))) (some (Sum.inr (a1,false)))) (l7 (C9 a0
 27) (l7 (C9 a0 27) (l7 (C9 a1.1 5) (some (Sum.inr (a1,C9 a2.1 2))) (some (Sum.inr (a1,false)))) (some (Sum.inl (0,0)))) (l7 (C9 a0
 28) (l7 (C9 a1.1 5) (some (Sum.inr (a1,C9 a2.1 2))) (some (Sum.inr (a1,false)))) (some (Sum.inl (0,0)))))) (l7 (C9 a0 24) (l7 (C9
 a1.1 1) (some (Sum.inr (a1,C9 a2.1 1))) (some (Sum.inr (a1,false)))) (l7 (C9 a0 27) (l7 (C9 a0 27) (l7 (C9 a1.1 5) (some (Sum.inr (a1,
 C9 a2.1 2))) (some (Sum.inr (a1,false)))) (some (Sum.inl (0,0)))) (l7 (C9 a0 28) (l7 (C9 a1.1 5) (some (Sum.inr (a1,C9 a2.1 2))) (some
 (Sum.inr (a1,false)))) (some (Sum.inl (0,0))))))))))))) λ(o:H6⊕H6×Bool)=>Z8 o (λ(x:H6)=>l9 (kz 2) λ(x:
 H6)=>l7 (C9 a1.1 5) (some (x,C9 a2.1 5)) (some (x,false))) λ(r:H6×Bool)=>some r
def DX(a0:H6)(a1:List H6)(a2:Y0):Option (H6×Int):=l9 (l7 (H5 (C9 a0.2 0)) (l9 (kT
 a0.1) λ(x:Bool)=>l7 (H5 x) (some (Sum.inr ((0,0),2))) (some (Sum.inl (0,0)))) (some (Sum.inl (0,0)))) λ(o:H6⊕H6×Int)
 =>Z8 o (λ(x:H6)=>l9 (yC a0 a2) λ(x:Bool)=>l7 (H5 x) (some ((0,0),3)) (l9 (Ad a0 a2) λ(x:
 Bool)=>l7 (H5 x) (some ((0,0),6)) (l7 (C9 (A7 a1) 0) (l9 (qh a0 a2) λ(x:H6×Bool)=>l7 (H5 x.2) (some ((0,
 0),8)) (some (x.1,0))) (l7 (C9 (A7 a1) 1) (l9 (P5 a1 0) λ(x:H6)=>l9 (yD a0 x a2) λ(x:H6×Bool)=>l7
 (H5 x.2) (some ((0,0),8)) (some (x.1,0))) (l7 (C9 (A7 a1) 2) (l9 (P5 a1 0) λ(x:H6)=>l9 (P5 a1 1) λ(x_1:H6)=>
 l9 (AZ a0.1 x x_1) λ(x:H6×Bool)=>l7 (H5 x.2) (some ((0,0),8)) (some (x.1,0))) (l9 (P5 a1 1) λ(x:H6)=>
 l9 (P5 a1 0) λ(x_1:H6)=>l7 (C9 x_1.1 1) (l9 (P5 a1 1) λ(x_2:H6)=>l9 (P5 a1 2) λ(x_3:H6)=>l7 (H5
 (iV (C9 x_2.1 x_3.1) (C9 x_2.2 x_3.2))) (some ((0,0),8)) (some (x,0))) (l7 (H5 false) (some ((0,0),8)) (some (x,0))))))))) λ(r:
 H6×Int)=>some r
def Ff(a0:aI):Option H6:=some (a0.1,a0.2.1)
def PV(a0:List H6):Option (c6G×Int):=l9 (zA a0) λ(x:c6G×H6)=>some (x.1,x.2.2)
def AY(a0:List H6)(a1:Int):Option c6G:=l9 (zA a0) λ(x:c6G×H6)=>l9 (l7 (H5
 (C9 x.2.2 0)) (some (Sum.inr [])) (l7 (I5 a1 0) (some (Sum.inr [])) (l7 (U7 (A7 a0) a1) (some (Sum.inr [])) (some (Sum.inl PUnit.unit)))))
 λ(o:PUnit⊕c6G)=>Z8 o (λ(x_1:PUnit)=>l9 (P5 a0 a1) λ(x_2:H6)=>l9 (lI x_2.1) λ(x_3:Int)=>l9
 (BD x_3 0) λ(x_4:c6G)=>l9 (fA (λ(x_5:c6G×H6)=>l7 (U7 0 x_5.2.2) (l9 (P5 x_5.1 x_5.2.2) λ(x_6:Int)
 =>l9 (aN x_5.1 (Z7 x_5.2.2)) λ(x_7:Int)=>l9 (P5 x.1 x_5.2.1) λ(x_8:Int)=>l9 (aN x.1 (Z7 x_5.2.1)) λ(x:Int)=>
 some (Sum.inl (fD x_5.1 (Z7 x_5.2.2) x_5.2.1,N9 IntKind.i64 x 1,N9 IntKind.i64 x_5.2.2 1))) (some (Sum.inr x_5.1))) (x_4,N9 IntKind.i64
 a1 1,N9 IntKind.i64 x_3 1)) λ(y:c6G)=>some y) λ(r:c6G)=>some r
def Gi(a0:Int):c6J:=l7 (U7 0 a0) (some (U7 a0 109572)) (some false)
def Jk(a0:Int):c6J:=l7 (C9 (fE a0 4) 0) (l7 (H5 (C9 (fE a0 100) 0)) (some true) (some (C9 (fE a0 400) 0)))
 (some false)
def qL(a0:Int):c6K:=l9 (Jk a0) λ(x:Bool)=>l7 x (some 366) (some 365)
def pM(a0:Int)(a1:Int):c6K:=l7 (C9 a1 2) (l9 (Jk a0) λ(x:Bool)=>l7 x (some 29) (some 28))
 (l9 (l7 (C9 a1 4) (some (C9 a1 4)) (l7 (C9 a1 6) (some (C9 a1 6)) (l7 (C9 a1 9) (some (C9 a1 9)) (some (C9 a1 11))))) λ(x:
 Bool)=>l7 x (some 30) (l7 (C9 a1 1) (l7 (C9 a1 1) (some 31) (some 0)) (l7 (C9 a1 3) (l7 (C9 a1 3) (some 31) (some 0)) (l7
 (C9 a1 5) (l7 (C9 a1 5) (some 31) (some 0)) (l7 (C9 a1 7) (l7 (C9 a1 7) (some 31) (some 0)) (l7 (C9 a1 8) (l7 (C9 a1 8) (some
 31) (some 0)) (l7 (C9 a1 10) (l7 (C9 a1 10) (some 31) (some 0)) (l7 (C9 a1 12) (some 31) (some 0)))))))))
def KW(a0:Int):Option aI:=l9 (Gi a0) λ(x:Bool)=>l7 (H5 x) (some (0,0,0)) (l9 (fA (λ(x:H6)
 =>l9 (qL x.2) λ(x_1:Int)=>l7 (U7 x_1 x.1) (l9 (qL x.2) λ(x_2:Int)=>some (Sum.inl (N9
 IntKind.i64 x.1 x_2,G5 IntKind.i64 x.2 1))) (some (Sum.inr x))) (a0,1900)) λ(y:H6)=>l9 (fA (λ(x:H6)=>l9
 (pM y.2 x.2) λ(x_1:Int)=>l7 (U7 x_1 x.1) (l9 (pM y.2 x.2) λ(x_2:Int)=>some (Sum.inl (N9
 IntKind.i64 x.1 x_2,G5 IntKind.i64 x.2 1))) (some (Sum.inr x))) (y.1,1)) λ(y_1:H6)=>some (y.2,y_1.2,G5 IntKind.i64 y_1.1 1))
abbrev F9:Type:=Ty.den (.prod (.sl (.prod (.int .i64) (.int .i64))) (.prod (.sl (.prod .str (.sl .str))) (.prod (.sl .str) (.prod (.sl .str) (.prod (.sl .str) (.sl .str))))))
def nT(a0:List mW):Option (List c6F):=
 l9
 (fA
  (λ(x:List c6F×Int)=>
   l7 (I5 x.2 (A7 a0))
    (l9 (P5 a0 x.2) λ(x_1:mW)=>
     l9 (eG x.1 [x_1.1]) λ(x_2:List c6F)=>some (Sum.inl (x_2,G5 IntKind.i64 x.2 1)))
    (some (Sum.inr x.1)))
  ([],0))
 λ(y:List c6F)=>some y
def tN(a0:Z9)(a1:Int):Option E9:=
 l9
 (l7 (I5 a1 0) (some (Sum.inr ([],[],[],[],[])))
  (l7 (U7 (A7 a0.2.2) a1) (some (Sum.inr ([],[],[],[],[]))) (some (Sum.inl ([],[],[],[],[])))))
 λ(o:E9⊕E9)=>
 Z8 o
  (λ(x:E9)=>
   l9 (P5 a0.2.2 a1) λ(x:au)=>
    l9 (nT x.2.2.1) λ(x_1:List c6F)=>
     l9 (nT x.2.2.2.1) λ(x_2:List c6F)=>
      l9
       (fA
        (λ(x:E9×Int)=>
         l7 (I5 x.2 (A7 a0.2.1))
          (l9 (P5 a0.2.1 x.2) λ(x_3:eP)=>
           l9 (eG x.1.2.1 [x_3.1]) λ(x_4:List c6F)=>
            some (Sum.inl ((x.1.1,x_4,x.1.2.2),G5 IntKind.i64 x.2 1)))
          (some (Sum.inr x.1)))
        ((a0.1,[],x_1,x_2,[]),0))
       λ(y:E9)=>
       l7 (U7 0 x.2.1)
        (l7 (I5 x.2.1 (A7 a0.2.2))
         (l9 (P5 a0.2.2 x.2.1) λ(x:au)=>
          l9 (nT x.2.2.2.1) λ(x:List c6F)=>
           some (y.1,y.2.1,y.2.2.1,y.2.2.2.1,x))
         (some y))
        (some y))
  λ(r:E9)=>some r
def fM(a0:H6):Option (aI×Bool):=
 l7 (U7 1 a0.1) (l7 (U7 a0.1 5) (some ((a0.1,0,a0.2),true)) (some ((0,0,0),false)))
 (some ((0,0,0),false))
def tK(a0:H6)(a1:E9):Option (List c6F):=
 l7 (C9 a0.1 7) (some a1.2.2.1)
 (l7 (C9 a0.1 8) (some a1.2.2.2.1) (l7 (C9 a0.1 33) (some a1.2.1) (some a1.2.2.2.2)))
def X3(a0:H6)(a1:E9):c6K:=
 l9 (fM a0) λ(x:aI×Bool)=>
 l7 x.2
  (l9 (eQ (x.1.1,0) []) λ(x_1:H6)=>
   l7 (I5 x.1.2.2 x_1.1) (some 3) (l7 (I5 x_1.2 x.1.2.2) (some 3) (some 0)))
  (l7 (C9 a0.1 6)
   (l7 (I5 a0.2 0) (some 6)
    (l7 (U7 (A7 a1.1) (aO IntKind.i64 a0.2 16)) (some 6)
     (l9 (P5 a1.1 (aO IntKind.i64 a0.2 16)) λ(x:bK)=>
      l7 (U7 (A7 x.2) (fE a0.2 16)) (some 6) (some 0))))
   (l9
    (l7 (C9 a0.1 7) (some true)
     (l7 (C9 a0.1 8) (some true)
      (l7 (C9 a0.1 33) (some true) (l7 (U7 36 a0.1) (some (U7 a0.1 39)) (some false)))))
    λ(x:Bool)=>
    l7 x
     (l7 (I5 a0.2 0) (some 6)
      (l9 (tK a0 a1) λ(x:List c6F)=>l7 (U7 (A7 x) a0.2) (some 6) (some 0)))
     (l7 (C9 a0.1 34)
      (l7 (I5 a0.2 0) (some 6)
       (l7 (U7 (A7 a1.2.1) (aO IntKind.i64 a0.2 8)) (some 6)
        (l7 (I5 5 (fE a0.2 8)) (some 3) (some 0))))
      (l9 (l7 (C9 a0.1 14) (some true) (l7 (C9 a0.1 15) (some true) (some (C9 a0.1 16))))
       λ(x:Bool)=>
       l7 x (l7 (I5 a0.2 0) (some 3) (l7 (I5 5 a0.2) (some 3) (some 0)))
        (l7 (H5 (C9 a0.2 0)) (some 2) (some 0))))))
def KY(a0:aI)(a1:List bK):c6J:=
 l9 (Ff a0) λ(x:H6)=>
 l9 (dm x a1) λ(x:Bool)=>
  l7 x (l9 (Ff a0) λ(x:H6)=>l9 (VQ a0.2.2 x a1) λ(x:Bool)=>some x)
   (some false)
def AX(r196:Int->Option c6F)(a0:Int):Option c6F:=
 l7 (I5 a0 10) (some (C_ [wrap IntKind.u8 (G5 IntKind.u64 48 a0)]))
 (l9 (r196 (aO IntKind.u64 a0 10)) λ(x:c6F)=>
  l9 (N8 x (C_ [wrap IntKind.u8 (G5 IntKind.u64 48 (fE a0 10))])) λ(x:c6F)=>some x)
def yB:Nat->(M.den (.dat (.int .u64))->Option (U0 ([(false,(.dat .str))]++[])))
 |0=>λa0=>none
 |n+1=>λa0=>AX (yB n) a0
def Jj:M.den (.dat (.int .u64))->Option (U0 ([(false,(.dat .str))]++[])):=λa0=>(yB dZ) a0
def qg(a0:Int):Option c6F:=
 l7 (I5 a0 0)
 (l9 (Jj (G5 IntKind.u64 (wrap IntKind.u64 (N9 IntKind.i64 0 (G5 IntKind.i64 a0 1))) 1))
  λ(x:c6F)=>l9 (N8 [45] x) λ(x:c6F)=>some x)
 (l9 (Jj (wrap IntKind.u64 a0)) λ(x:c6F)=>some x)
def SQ(a0:Int):c6K:=
 some (Dj (wL a0 0) 9)
def Fe(a0:c6F):Option (c6F×Bool):=
 l7 (I5 0 (A7 a0))
 (l9 (sat a0 0) λ(x:Int)=>
  l7 (C9 x 45) (l9 (gy a0 1 (A7 a0)) λ(x:c6F)=>some (x,true)) (some (a0,false)))
 (some (a0,false))
def pK(a0:Int)(a1:Int):Option c6F:=
 l9 (SQ a1) λ(x:Int)=>
 l7 (C9 x 0) (l9 (qg a0) λ(x:c6F)=>some x)
  (l9 (qg a0) λ(x_1:c6F)=>
   l9 (Fe x_1) λ(x_2:c6F×Bool)=>
    l9
     (fA
      (λ(x_3:c6F)=>
       l7 (U7 (A7 x_3) x) (l9 (N8 [48] x_3) λ(x:c6F)=>some (Sum.inl x))
        (some (Sum.inr x_3)))
      x_2.1)
     λ(y:c6F)=>
     l9 (gy y 0 (N9 IntKind.i64 (A7 y) x)) λ(x_3:c6F)=>
      l9 (N8 x_3 [46]) λ(x_4:c6F)=>
       l9 (gy y (N9 IntKind.i64 (A7 y) x) (A7 y)) λ(x:c6F)=>
        l9 (N8 x_4 x) λ(x:c6F)=>
         l7 x_2.2 (l9 (N8 [45] x) λ(x:c6F)=>some x) (some x))
def Ej(a0:Int)(a1:Int):Option c6F:=
 l9 (qg a0) λ(x:c6F)=>
 l9
  (fA
   (λ(x:c6F)=>
    l7 (I5 (A7 x) a1) (l9 (N8 [48] x) λ(x:c6F)=>some (Sum.inl x)) (some (Sum.inr x)))
   x)
  λ(y:c6F)=>some y
def vN(a0:Int):Option c6F:=
 l9 (Gi a0) λ(x:Bool)=>
 l7 (H5 x) (some [])
  (l9 (KW a0) λ(x:aI)=>
   l9 (Ej x.1 4) λ(x_1:c6F)=>
    l9 (N8 x_1 [45]) λ(x_2:c6F)=>
     l9 (Ej x.2.1 2) λ(x_3:c6F)=>
      l9 (N8 x_2 x_3) λ(x_4:c6F)=>
       l9 (N8 x_4 [45]) λ(x_5:c6F)=>
        l9 (Ej x.2.2 2) λ(x:c6F)=>l9 (N8 x_5 x) λ(x:c6F)=>some x)
def vO(a0:aI)(a1:List bK):Option (c6F×Int):=
 l9 (Ff a0) λ(x:H6)=>
 l9 (dm x a1) λ(x:Bool)=>
  l7 (H5 x) (some ([],8))
   (l9 (KY a0 a1) λ(x:Bool)=>
    l7 (H5 x) (some ([],3))
     (l7 (C9 a0.1 1)
      (l7 (C9 a0.2.2 0) (some ([102,97,108,115,101],0)) (some ([116,114,117,101],0)))
      (l7 (C9 a0.1 2) (l9 (qg a0.2.2) λ(x:c6F)=>some (x,0))
       (l7 (C9 a0.1 3) (l9 (pK a0.2.2 2) λ(x:c6F)=>some (x,0))
        (l7 (C9 a0.1 4)
         (l9 (pK a0.2.2 4) λ(x:c6F)=>
          l9 (N8 x [37]) λ(x:c6F)=>some (x,0))
         (l7 (C9 a0.1 5) (l9 (vN a0.2.2) λ(x:c6F)=>some (x,0))
          (l9 (P5 a1 a0.2.1) λ(x:bK)=>
           l9 (P5 x.2 a0.2.2) λ(x:c6F)=>some (x,0))))))))
def ik(a0:Int):Option (c6F×Int):=
 l7 (C9 a0 24) (some ([111,114],1))
 (l7 (C9 a0 23) (some ([97,110,100],2))
  (l7 (C9 a0 19) (some ([61,61],3))
   (l7 (C9 a0 20) (some ([33,61],3))
    (l7 (C9 a0 21) (some ([60],3))
     (l7 (C9 a0 22) (some ([60,61],3))
      (l7 (C9 a0 11) (some ([43],4))
       (l7 (C9 a0 12) (some ([45],4)) (l7 (C9 a0 13) (some ([42],5)) (some ([],0))))))))))
def Ci(a0:Int):Option c6F:=
 l7 (C9 a0 14) (some [115,104,97,114,101])
 (l7 (C9 a0 15) (some [100,105,118])
  (l7 (C9 a0 16) (some [114,111,117,110,100])
   (l7 (C9 a0 17) (some [109,105,110])
    (l7 (C9 a0 18) (some [109,97,120])
     (l7 (C9 a0 27) (some [112,108,117,115])
      (l7 (C9 a0 28) (some [109,111,110,116,104,115])
       (l7 (C9 a0 29) (some [100,97,121,115])
        (l7 (C9 a0 30) (some [121,101,97,114,115])
         (l7 (C9 a0 31) (some [121,101,97,114])
          (l7 (C9 a0 32) (some [109,111,110,116,104])
           (l7 (C9 a0 33) (some [116,97,98])
            (l7 (C9 a0 34) (some [98,97,110,100])
             (l7 (C9 a0 35) (some [99,111,117,110,116])
              (l7 (C9 a0 36) (some [115,117,109])
               (l7 (C9 a0 37) (some [97,108,108])
                (l7 (C9 a0 38) (some [97,110,121])
                 (l7 (C9 a0 39) (some [109,111,115,116]) (some []))))))))))))))))))
def a0B:Option (List c6F):=
 some
 [[100,111,119,110],[117,112],[122,101,114,111],[97,119,97,121],[104,97,108,102],
  [101,118,101,110]]
def xN(a0:Int):Option c6F:=
 l9 a0B λ(x:List c6F)=>
 l9 (P5 x a0) λ(x_1:c6F)=>l9 (aN x (Z7 a0)) λ(x:c6F)=>some x
def aQ(r55:F9->Int->Option (c6F×Int×F9))(r101:F9->H6->c6G->Option (c6F×F9))(r99:F9->Int->Int->Option (c6F×F9))(a0:F9)(a1:Int):Option (c6F×Int×F9):=
 l9 (P5 a0.1 a1) λ(x:H6)=>
 l9 (AY a0.1 a1) λ(x_1:c6G)=>
  l9 (fM x) λ(x_2:aI×Bool)=>
   l7 x_2.2
    (l9 (vO x_2.1 []) λ(x:c6F×Int)=>
     l7 (I5 x_2.1.2.2 0) (some (x.1,6,a0)) (some (x.1,7,a0)))
    (l9 (ik x.1) λ(x_3:c6F×Int)=>
     l7 (H5 (seq x_3.1 []))
      (l7 (C9 x_3.2 3)
       (l9 (P5 x_1 0) λ(x:Int)=>
        l9 (aN x_1 (Z7 0)) λ(x:Int)=>
         l9 (r99 a0 x 4) λ(x:c6F×F9)=>
          l9 (N8 x.1 [32]) λ(x_4:c6F)=>
           l9 (N8 x_4 x_3.1) λ(x_5:c6F)=>
            l9 (N8 x_5 [32]) λ(x_6:c6F)=>
             l9 (P5 x_1 1) λ(x_7:Int)=>
              l9 (aN x_1 (Z7 1)) λ(x_8:Int)=>
               l9 (r99 x.2 x_8 (G5 IntKind.i64 x_3.2 1))
                λ(x:c6F×F9)=>
                l9 (N8 x_6 x.1) λ(x_9:c6F)=>some (x_9,x_3.2,x.2))
       (l9 (P5 x_1 0) λ(x:Int)=>
        l9 (aN x_1 (Z7 0)) λ(x:Int)=>
         l9 (r99 a0 x x_3.2) λ(x:c6F×F9)=>
          l9 (N8 x.1 [32]) λ(x_4:c6F)=>
           l9 (N8 x_4 x_3.1) λ(x_5:c6F)=>
            l9 (N8 x_5 [32]) λ(x_6:c6F)=>
             l9 (P5 x_1 1) λ(x_7:Int)=>
              l9 (aN x_1 (Z7 1)) λ(x_8:Int)=>
               l9 (r99 x.2 x_8 (G5 IntKind.i64 x_3.2 1))
                λ(x:c6F×F9)=>
                l9 (N8 x_6 x.1) λ(x_9:c6F)=>some (x_9,x_3.2,x.2)))
      (l7 (C9 x.1 6)
       (l9 (P5 a0.2.1 (aO IntKind.i64 x.2 16)) λ(x_4:bK)=>
        l9 (N8 x_4.1 [58]) λ(x_5:c6F)=>
         l9 (P5 a0.2.1 (aO IntKind.i64 x.2 16)) λ(x_6:bK)=>
          l9 (P5 x_6.2 (fE x.2 16)) λ(x:c6F)=>
           l9 (N8 x_5 x) λ(x:c6F)=>some (x,7,a0))
       (l9 (l7 (C9 x.1 7) (some (C9 x.1 7)) (some (C9 x.1 8))) λ(x_4:Bool)=>
        l7 x_4
         (l9 (tK x a0.2) λ(x_5:List c6F)=>
          l9 (P5 x_5 x.2) λ(x:c6F)=>some (x,7,a0))
         (l7 (C9 x.1 9) (some ([116,111,100,97,121],7,a0))
          (l7 (C9 x.1 10)
           (l9 (P5 x_1 0) λ(x:Int)=>
            l9 (aN x_1 (Z7 0)) λ(x:Int)=>
             l9 (P5 a0.1 x) λ(x:H6)=>
              l7 (C9 x.1 2)
               (l9 (P5 x_1 0) λ(x:Int)=>
                l9 (aN x_1 (Z7 0)) λ(x:Int)=>
                 l9 (r55 a0 x) λ(x:c6F×Int×F9)=>
                  l9 (N8 [45,40] x.1) λ(x_5:c6F)=>
                   l9 (N8 x_5 [41]) λ(x_6:c6F)=>some (x_6,6,x.2.2))
               (l7 (C9 x.1 3)
                (l9 (P5 x_1 0) λ(x:Int)=>
                 l9 (aN x_1 (Z7 0)) λ(x:Int)=>
                  l9 (r55 a0 x) λ(x:c6F×Int×F9)=>
                   l9 (N8 [45,40] x.1) λ(x_5:c6F)=>
                    l9 (N8 x_5 [41]) λ(x_6:c6F)=>some (x_6,6,x.2.2))
                (l7 (C9 x.1 4)
                 (l9 (P5 x_1 0) λ(x:Int)=>
                  l9 (aN x_1 (Z7 0)) λ(x:Int)=>
                   l9 (r55 a0 x) λ(x:c6F×Int×F9)=>
                    l9 (N8 [45,40] x.1) λ(x_5:c6F)=>
                     l9 (N8 x_5 [41]) λ(x_6:c6F)=>some (x_6,6,x.2.2))
                 (l9 (P5 x_1 0) λ(x:Int)=>
                  l9 (aN x_1 (Z7 0)) λ(x:Int)=>
                   l9 (r99 a0 x 6) λ(x:c6F×F9)=>
                    l9 (N8 [45] x.1) λ(x_5:c6F)=>some (x_5,6,x.2)))))
           (l7 (C9 x.1 25)
            (l9 (P5 x_1 0) λ(x:Int)=>
             l9 (aN x_1 (Z7 0)) λ(x:Int)=>
              l9 (r99 a0 x 6) λ(x:c6F×F9)=>
               l9 (N8 [110,111,116,32] x.1) λ(x_5:c6F)=>some (x_5,6,x.2))
            (l7 (C9 x.1 26)
             (l9 (P5 x_1 0) λ(x:Int)=>
              l9 (aN x_1 (Z7 0)) λ(x:Int)=>
               l9 (r99 a0 x 0) λ(x:c6F×F9)=>
                l9 (N8 [105,102,32] x.1) λ(x_5:c6F)=>
                 l9 (N8 x_5 [32,116,104,101,110,32]) λ(x_6:c6F)=>
                  l9 (P5 x_1 1) λ(x_7:Int)=>
                   l9 (aN x_1 (Z7 1)) λ(x_8:Int)=>
                    l9 (r99 x.2 x_8 0) λ(x:c6F×F9)=>
                     l9 (N8 x_6 x.1) λ(x_9:c6F)=>
                      l9 (N8 x_9 [32,101,108,115,101,32]) λ(x_10:c6F)=>
                       l9 (P5 x_1 2) λ(x_11:Int)=>
                        l9 (aN x_1 (Z7 2)) λ(x_12:Int)=>
                         l9 (r99 x.2 x_12 0) λ(x:c6F×F9)=>
                          l9 (N8 x_10 x.1) λ(x_13:c6F)=>
                           some (x_13,0,x.2))
             (l9 (Ci x.1) λ(x_5:c6F)=>
              l9 (N8 x_5 [40]) λ(x_6:c6F)=>
               l9 (r101 a0 x x_1) λ(x:c6F×F9)=>
                l9 (N8 x_6 x.1) λ(x_7:c6F)=>
                 l9 (N8 x_7 [41]) λ(x_8:c6F)=>some (x_8,7,x.2)))))))))
def qi(r55:F9->Int->Option (c6F×Int×F9))(r101:F9->H6->c6G->Option (c6F×F9))(r99:F9->Int->Int->Option (c6F×F9))(a0:F9)(a1:H6)(a2:c6G):Option (c6F×F9):=
 l9
 (l7 (C9 a1.1 34)
  (l9 (P5 a0.2.2.1 (aO IntKind.i64 a1.2 8)) λ(x:c6F)=>
   l9 (eG [] [x]) λ(x:List c6F)=>some x)
  (some []))
 λ(x:List c6F)=>
 l9
  (l7 (C9 a1.1 33)
   (l9 (tK a1 a0.2) λ(x_1:List c6F)=>
    l9 (P5 x_1 a1.2) λ(x_2:c6F)=>l9 (eG x [x_2]) λ(x:List c6F)=>some x)
   (l7 (U7 36 a1.1)
    (l9 (tK a1 a0.2) λ(x_1:List c6F)=>
     l9 (P5 x_1 a1.2) λ(x_2:c6F)=>l9 (eG x [x_2]) λ(x:List c6F)=>some x)
    (some x)))
  λ(x:List c6F)=>
  l9
   (fA
    (λ(x:F9×List c6F×Int)=>
     l7 (I5 x.2.2 (A7 a2))
      (l9 (P5 a2 x.2.2) λ(x_1:Int)=>
       l9 (r99 x.1 x_1 0) λ(x_2:c6F×F9)=>
        l9 (eG x.2.1 [x_2.1]) λ(x_3:List c6F)=>
         some (Sum.inl (x_2.2,x_3,G5 IntKind.i64 x.2.2 1)))
      (some (Sum.inr (x.1,x.2.1))))
    (a0,x,0))
   λ(y:F9×List c6F)=>
   l9
    (l7 (C9 a1.1 14)
     (l9 (xN a1.2) λ(x:c6F)=>l9 (eG y.2 [x]) λ(x:List c6F)=>some x)
     (l7 (C9 a1.1 15)
      (l9 (xN a1.2) λ(x:c6F)=>l9 (eG y.2 [x]) λ(x:List c6F)=>some x)
      (l7 (C9 a1.1 16)
       (l9 (xN a1.2) λ(x:c6F)=>
        l9 (eG y.2 [x]) λ(x:List c6F)=>some x)
       (some y.2))))
    λ(x:List c6F)=>
    l7 (C9 a1.1 34)
     (l9 (xN (fE a1.2 8)) λ(x_1:c6F)=>
      l9 (eG x [x_1]) λ(x:List c6F)=>
       l9
        (fA
         (λ(x_2:c6F×Int)=>
          l7 (I5 x_2.2 (A7 x))
           (l7 (I5 0 x_2.2)
            (l9 (N8 x_2.1 [44,32]) λ(x_3:c6F)=>
             l9 (P5 x x_2.2) λ(x_4:c6F)=>
              l9 (aN x (Z7 x_2.2)) λ(x:c6F)=>
               l9 (N8 x_3 x) λ(x:c6F)=>some (Sum.inl (x,G5 IntKind.i64 x_2.2 1)))
            (l9 (P5 x x_2.2) λ(x_3:c6F)=>
             l9 (aN x (Z7 x_2.2)) λ(x:c6F)=>
              l9 (N8 x_2.1 x) λ(x:c6F)=>some (Sum.inl (x,G5 IntKind.i64 x_2.2 1))))
           (some (Sum.inr x_2.1)))
         ([],0))
        λ(y_1:c6F)=>some (y_1,y.1))
     (l9
      (fA
       (λ(x_1:c6F×Int)=>
        l7 (I5 x_1.2 (A7 x))
         (l7 (I5 0 x_1.2)
          (l9 (N8 x_1.1 [44,32]) λ(x_2:c6F)=>
           l9 (P5 x x_1.2) λ(x_3:c6F)=>
            l9 (aN x (Z7 x_1.2)) λ(x:c6F)=>
             l9 (N8 x_2 x) λ(x:c6F)=>some (Sum.inl (x,G5 IntKind.i64 x_1.2 1)))
          (l9 (P5 x x_1.2) λ(x_2:c6F)=>
           l9 (aN x (Z7 x_1.2)) λ(x:c6F)=>
            l9 (N8 x_1.1 x) λ(x:c6F)=>some (Sum.inl (x,G5 IntKind.i64 x_1.2 1))))
         (some (Sum.inr x_1.1)))
       ([],0))
      λ(y_1:c6F)=>some (y_1,y.1))
def rV(r55:F9->Int->Option (c6F×Int×F9))(r101:F9->H6->c6G->Option (c6F×F9))(r99:F9->Int->Int->Option (c6F×F9))(a0:F9)(a1:Int)(a2:Int):Option (c6F×F9):=
 l9 (r55 a0 a1) λ(x:c6F×Int×F9)=>
 l7 (I5 x.2.1 a2)
  (l9 (N8 [40] x.1) λ(x_1:c6F)=>l9 (N8 x_1 [41]) λ(x_2:c6F)=>some (x_2,x.2.2))
  (some (x.1,x.2.2))
def F6:Nat->(M.den (.box (.dat (.prod (.sl (.prod (.int .i64) (.int .i64))) (.prod (.sl (.prod .str (.sl .str))) (.prod (.sl .str) (.prod (.sl .str) (.prod (.sl .str) (.sl .str))))))))->M.den (.dat (.int .i64))->Option (U0 ([(false,(.dat .str)),(false,(.dat (.int .i64)))]++[(true,(.dat (.prod (.sl (.prod (.int .i64) (.int .i64))) (.prod (.sl (.prod .str (.sl .str))) (.prod (.sl .str) (.prod (.sl .str) (.prod (.sl .str) (.sl .str))))))))])))×(M.den (.box (.dat (.prod (.sl (.prod (.int .i64) (.int .i64))) (.prod (.sl (.prod .str (.sl .str))) (.prod (.sl .str) (.prod (.sl .str) (.prod (.sl .str) (.sl .str))))))))->M.den (.dat (.prod (.int .i64) (.int .i64)))->M.den (.dat (.sl (.int .i64)))->Option (U0 ([(false,(.dat .str))]++[(true,(.dat (.prod (.sl (.prod (.int .i64) (.int .i64))) (.prod (.sl (.prod .str (.sl .str))) (.prod (.sl .str) (.prod (.sl .str) (.prod (.sl .str) (.sl .str))))))))])))×(M.den (.box (.dat (.prod (.sl (.prod (.int .i64) (.int .i64))) (.prod (.sl (.prod .str (.sl .str))) (.prod (.sl .str) (.prod (.sl .str) (.prod (.sl .str) (.sl .str))))))))->M.den (.dat (.int .i64))->M.den (.dat (.int .i64))->Option (U0 ([(false,(.dat .str))]++[(true,(.dat (.prod (.sl (.prod (.int .i64) (.int .i64))) (.prod (.sl (.prod .str (.sl .str))) (.prod (.sl .str) (.prod (.sl .str) (.prod (.sl .str) (.sl .str))))))))])))
 |0=>(λa0 a1=>none,λa0 a1 a2=>none,λa0 a1 a2=>none)|n+1=>(λa0 a1=>aQ (F6 n).1 (F6 n).2.1 (F6 n).2.2 a0 a1,λa0 a1 a2=>qi (F6 n).1 (F6 n).2.1 (F6 n).2.2 a0 a1 a2,λa0 a1 a2=>rV (F6 n).1 (F6 n).2.1 (F6 n).2.2 a0 a1 a2)
def Fg:M.den (.box (.dat (.prod (.sl (.prod (.int .i64) (.int .i64))) (.prod (.sl (.prod .str (.sl .str))) (.prod (.sl .str) (.prod (.sl .str) (.prod (.sl .str) (.sl .str))))))))->M.den (.dat (.int .i64))->Option (U0 ([(false,(.dat .str)),(false,(.dat (.int .i64)))]++[(true,(.dat (.prod (.sl (.prod (.int .i64) (.int .i64))) (.prod (.sl (.prod .str (.sl .str))) (.prod (.sl .str) (.prod (.sl .str) (.prod (.sl .str) (.sl .str))))))))])):=λa0 a1=>(F6 dZ).1 a0 a1
def Bc(a0:List H6)(a1:E9):Option (c6F×Int):=
 l9 (PV a0) λ(x:c6G×Int)=>
 l7 (H5 (C9 x.2 0)) (some ([],x.2))
  (l9
   (V4
    (λ(x:Int)=>
     l7 (I5 x (A7 a0))
      (l9 (P5 a0 x) λ(x_1:H6)=>
       l9 (X3 x_1 a1) λ(x_2:Int)=>
        l7 (H5 (C9 x_2 0)) (some (Out.rt ([],x_2))) (some (Out.nx (G5 IntKind.i64 x 1))))
      (some (Out.ex PUnit.unit)))
    0)
   λ(o:PUnit⊕c6F×Int)=>
   Z8 o
    (λ(y:PUnit)=>
     l9 (Fg (a0,a1) (N9 IntKind.i64 (A7 a0) 1))
      λ(x:c6F×Int×F9)=>some (x.1,0))
    λ(r:c6F×Int)=>some r)
def qM{α:Type}(p:α)(c:Int):Option (Int×α):=some (c,p)
def wI(a0:Int):c6J:=
 l7 (C9 a0 3) (some true) (some (C9 a0 4))
def Oq(a0:F8):c6J:=
 l9
 (l7 (seq a0.2.2.2.2.1 [])
  (l7 (seq a0.2.2.2.2.2.1 [])
   (l7 (C9 a0.2.2.2.2.2.2.1 0)
    (l7 (C9 (A7 a0.2.2.2.2.2.2.2.1) 0)
     (l7 (C9 (A7 a0.2.2.2.2.2.2.2.2.1) 0) (some (seq a0.2.2.2.2.2.2.2.2.2.1 [])) (some false)) (some false))
    (some false))
   (some false))
  (some false))
 λ(x:Bool)=>
 l9 (wI a0.1) λ(x_1:Bool)=>
  l7 x_1
   (l7 x
    (l7 (seq a0.2.2.1 [])
     (l7 (seq a0.2.2.2.1 [])
      (l7 (iV (C9 a0.2.2.2.2.2.2.2.2.2.2.2.1.1 0) (C9 a0.2.2.2.2.2.2.2.2.2.2.2.1.2 0))
       (l7 (C9 a0.1 3) (some true) (some (C9 a0.2.2.2.2.2.2.2.2.2.2.2.2.2.2 0))) (some false))
      (some false))
     (some false))
    (some false))
   (l7 (C9 a0.1 1)
    (l7 (seq a0.2.2.2.2.2.2.2.2.2.2.1 [])
     (some
      (iV (C9 a0.2.2.2.2.2.2.2.2.2.2.2.1.1 0)
       (iV (C9 a0.2.2.2.2.2.2.2.2.2.2.2.1.2 0)
        (iV (C9 a0.2.2.2.2.2.2.2.2.2.2.2.2.1 0)
         (iV (C9 a0.2.2.2.2.2.2.2.2.2.2.2.2.2.1 0) (C9 a0.2.2.2.2.2.2.2.2.2.2.2.2.2.2 0))))))
     (some false))
    (l7 x
     (l7 (seq a0.2.2.2.2.2.2.2.2.2.2.1 [])
      (some
       (iV (C9 a0.2.2.2.2.2.2.2.2.2.2.2.1.1 0)
        (iV (C9 a0.2.2.2.2.2.2.2.2.2.2.2.1.2 0)
         (iV (C9 a0.2.2.2.2.2.2.2.2.2.2.2.2.1 0)
          (iV (C9 a0.2.2.2.2.2.2.2.2.2.2.2.2.2.1 0) (C9 a0.2.2.2.2.2.2.2.2.2.2.2.2.2.2 0))))))
      (some false))
     (some false)))
def DY(a0:c6F):c6J:=
 l9
 (V4
  (λ(x:Int)=>
   l7 (I5 x (A7 a0))
    (l9 (sat a0 x) λ(x_1:Int)=>
     l7 (I5 x_1 32) (some (Out.rt false))
      (l9 (sat a0 x) λ(x_2:Int)=>
       l7 (I5 126 x_2) (some (Out.rt false))
        (l9 (sat a0 x) λ(x_3:Int)=>
         l7 (C9 x_3 34) (some (Out.rt false)) (some (Out.nx (G5 IntKind.i64 x 1))))))
    (some (Out.ex PUnit.unit)))
  0)
 λ(o:PUnit⊕Bool)=>Z8 o (λ(y:PUnit)=>some (U7 (A7 a0) 64)) λ(r:Bool)=>some r
def DC(a0:F8):c6J:=
 l9 (wI a0.1) λ(x:Bool)=>
 l7 x (l9 (kY a0.2.2.2.2.2.2.2.2.2.2.1) λ(x:Bool)=>some x)
  (l9 (kY a0.2.2.1) λ(x:Bool)=>
   l7 (H5 x) (some false)
    (l9 (kY a0.2.2.2.1) λ(x:Bool)=>
     l7 (H5 x) (some false)
      (l7 (C9 a0.1 2) (some true)
       (l9 (kY a0.2.2.2.2.1) λ(x:Bool)=>
        l7 x
         (l7 (seq a0.2.2.2.2.2.1 []) (l9 (DY a0.2.2.2.2.2.2.2.2.2.1) λ(x:Bool)=>some x)
          (l9 (kY a0.2.2.2.2.2.1) λ(x:Bool)=>
           l7 x (l9 (DY a0.2.2.2.2.2.2.2.2.2.1) λ(x:Bool)=>some x) (some false)))
         (some false)))))
def He(a0:Z9)(a1:c6F):c6K:=
 l9
 (V4
  (λ(x:Int)=>
   l7 (I5 x (A7 a0.2.1))
    (l9 (P5 a0.2.1 x) λ(x_1:eP)=>
     l7 (seq x_1.1 a1) (some (Out.rt x)) (some (Out.nx (G5 IntKind.i64 x 1))))
    (some (Out.ex PUnit.unit)))
  0)
 λ(o:PUnit⊕Int)=>Z8 o (λ(y:PUnit)=>some (-1)) λ(r:Int)=>some r
def Bd(a0:Int)(a1:Uo)(a2:Z9):Option (c6F×Int):=
 l9 (vO (a1.1,a1.2,a0) a2.1) λ(x:c6F×Int)=>some x
def GZ(a0:Z9)(a1:F8):Option (c6F×Int):=
 l9 (He a0 a1.2.2.2.2.2.2.2.2.2.2.1) λ(x:Int)=>
 l7 (I5 x 0) (some ([],6))
  (l9 (P5 a0.2.1 x) λ(x:eP)=>
   l9 (Bd a1.2.2.2.2.2.2.2.2.2.2.2.2.1 x.2.1 a0) λ(x_1:c6F×Int)=>
    l7 (H5 (C9 x_1.2 0)) (some ([],x_1.2))
     (l9 (eQ x.2.1 a0.1) λ(x_2:Uo)=>
      l9
       (l7 (H5 (C9 a1.2.2.2.2.2.2.2.2.2.2.2.2.2.1 (G5 IntKind.i64 x_2.2 1)))
        (l9 (Bd a1.2.2.2.2.2.2.2.2.2.2.2.2.2.1 x.2.1 a0) λ(x:c6F×Int)=>
         l7 (H5 (C9 x.2 0)) (some (Sum.inr ([],x.2))) (some (Sum.inl x.1)))
        (some (Sum.inl [101,110,100])))
       λ(o:c6F⊕c6F×Int)=>
       Z8 o
        (λ(x_3:c6F)=>
         l9 (N8 a1.2.2.2.2.2.2.2.2.2.2.1 [32,102,114,111,109,32]) λ(x_4:c6F)=>
          l9 (vN a1.2.1) λ(x_5:c6F)=>
           l9 (N8 x_4 x_5) λ(x_6:c6F)=>
            l9 (N8 x_6 [32]) λ(x_7:c6F)=>
             l9 (N8 x_7 x_1.1) λ(x_8:c6F)=>
              l9 (N8 x_8 [32]) λ(x_9:c6F)=>
               l9 (N8 x_9 x_3) λ(x_10:c6F)=>
                l7 (C9 a1.1 4)
                 (l9 (N8 [114,101,112,101,97,108,114,111,119,32] x_10)
                  λ(x:c6F)=>some (x,0))
                 (l9 (Bd a1.2.2.2.2.2.2.2.2.2.2.2.2.2.2 x.2.2.1 a0)
                  λ(x:c6F×Int)=>
                  l7 (H5 (C9 x.2 0)) (some ([],x.2))
                   (l9 (N8 [105,110,115,101,114,116,114,111,119,32] x_10)
                    λ(x_11:c6F)=>
                    l9 (N8 x_11 [32]) λ(x_12:c6F)=>
                     l9 (N8 x_12 x.1) λ(x:c6F)=>some (x,0))))
        λ(r:c6F×Int)=>some r))
def Ha(a0:Z9)(a1:c6F):c6K:=
 l9
 (V4
  (λ(x:Int)=>
   l7 (I5 x (A7 a0.2.2))
    (l9 (P5 a0.2.2 x) λ(x_1:au)=>
     l7 (seq x_1.1 a1) (some (Out.rt x)) (some (Out.nx (G5 IntKind.i64 x 1))))
    (some (Out.ex PUnit.unit)))
  0)
 λ(o:PUnit⊕Int)=>Z8 o (λ(y:PUnit)=>some (-1)) λ(r:Int)=>some r
def Cj(a0:Z9)(a1:F8):Option (c6F×Int):=
 l9 (Ha a0 a1.2.2.1) λ(x:Int)=>
 l7 (I5 x 0) (some ([],6))
  (l9 (tN a0 x) λ(x:E9)=>
   l9 (N8 [105,110,115,101,114,116,32] a1.2.2.1) λ(x_1:c6F)=>
    l9 (N8 x_1 [32]) λ(x_2:c6F)=>
     l9 (N8 x_2 a1.2.2.2.1) λ(x_3:c6F)=>
      l9 (N8 x_3 [32,111,102,32]) λ(x_4:c6F)=>
       l9 (N8 x_4 a1.2.2.2.2.1) λ(x_5:c6F)=>
        l9
         (l7 (H5 (seq a1.2.2.2.2.2.1 []))
          (l9 (N8 x_5 [32,111,118,101,114,32]) λ(x:c6F)=>
           l9 (N8 x a1.2.2.2.2.2.1) λ(x:c6F)=>some x)
          (some x_5))
         λ(x_6:c6F)=>
         l9
          (l7 (I5 0 a1.2.2.2.2.2.2.1)
           (l9 (N8 x_6 [32,112,114,105,111,32]) λ(x:c6F)=>
            l9 (qg a1.2.2.2.2.2.2.1) λ(x_7:c6F)=>
             l9 (N8 x x_7) λ(x:c6F)=>some x)
           (some x_6))
          λ(x_7:c6F)=>
          l9 (N8 x_7 [32,102,114,111,109,32]) λ(x_8:c6F)=>
           l9 (vN a1.2.1) λ(x_9:c6F)=>
            l9 (N8 x_8 x_9) λ(x_10:c6F)=>
             l7 (I5 0 (A7 a1.2.2.2.2.2.2.2.1))
              (l9 (Bc a1.2.2.2.2.2.2.2.1 x) λ(x_11:c6F×Int)=>
               l7 (H5 (C9 x_11.2 0)) (some ([],x_11.2))
                (l9 (N8 x_10 [32,119,104,101,110,32]) λ(x_12:c6F)=>
                 l9 (N8 x_12 x_11.1) λ(x_13:c6F)=>
                  l9 (Bc a1.2.2.2.2.2.2.2.2.1 x) λ(x:c6F×Int)=>
                   l7 (H5 (C9 x.2 0)) (some ([],x.2))
                    (l9 (N8 x_13 [32,105,115,32]) λ(x_14:c6F)=>
                     l9 (N8 x_14 x.1) λ(x:c6F)=>
                      l7 (H5 (seq a1.2.2.2.2.2.2.2.2.2.1 []))
                       (l9 (N8 x [32,115,114,99,32,34]) λ(x:c6F)=>
                        l9 (N8 x a1.2.2.2.2.2.2.2.2.2.1) λ(x:c6F)=>
                         l9 (N8 x [34]) λ(x:c6F)=>some (x,0))
                       (some (x,0)))))
              (l9 (Bc a1.2.2.2.2.2.2.2.2.1 x) λ(x:c6F×Int)=>
               l7 (H5 (C9 x.2 0)) (some ([],x.2))
                (l9 (N8 x_10 [32,105,115,32]) λ(x_11:c6F)=>
                 l9 (N8 x_11 x.1) λ(x:c6F)=>
                  l7 (H5 (seq a1.2.2.2.2.2.2.2.2.2.1 []))
                   (l9 (N8 x [32,115,114,99,32,34]) λ(x:c6F)=>
                    l9 (N8 x a1.2.2.2.2.2.2.2.2.2.1) λ(x:c6F)=>
                     l9 (N8 x [34]) λ(x:c6F)=>some (x,0))
                   (some (x,0)))))
def VR(a0:Z9)(a1:F8):Option (c6F×Int):=
 l9
 (l7 (I5 a1.1 1) (some (Sum.inr ([],1)))
  (l7 (I5 4 a1.1) (some (Sum.inr ([],1))) (some (Sum.inl PUnit.unit))))
 λ(o:PUnit⊕c6F×Int)=>
 Z8 o
  (λ(x:PUnit)=>
   l9
    (l9 (Oq a1) λ(x:Bool)=>
     l7 (H5 x) (some (Sum.inr ([],2)))
      (l9 (DC a1) λ(x:Bool)=>
       l7 (H5 x) (some (Sum.inr ([],2))) (some (Sum.inl PUnit.unit))))
    λ(o:PUnit⊕c6F×Int)=>
    Z8 o
     (λ(x:PUnit)=>
      l9
       (l7 (I5 a1.2.1 0) (some (Sum.inr ([],3)))
        (l7 (I5 109572 a1.2.1) (some (Sum.inr ([],3)))
         (l7 (I5 a1.2.2.2.2.2.2.1 0) (some (Sum.inr ([],3)))
          (l7 (I5 9 a1.2.2.2.2.2.2.1) (some (Sum.inr ([],3))) (some (Sum.inl PUnit.unit))))))
       λ(o:PUnit⊕c6F×Int)=>
       Z8 o
        (λ(x:PUnit)=>
         l9 (wI a1.1) λ(x:Bool)=>
          l7 x (l9 (GZ a0 a1) λ(x:c6F×Int)=>some x)
           (l7 (C9 a1.1 1) (l9 (Cj a0 a1) λ(x:c6F×Int)=>some x)
            (l9 (N8 [114,101,112,101,97,108,32] a1.2.2.1) λ(x:c6F)=>
             l9 (N8 x [32]) λ(x:c6F)=>
              l9 (N8 x a1.2.2.2.1) λ(x:c6F)=>
               l9 (N8 x [32,102,114,111,109,32]) λ(x:c6F)=>
                l9 (vN a1.2.1) λ(x_1:c6F)=>
                 l9 (N8 x x_1) λ(x:c6F)=>some (x,0))))
        λ(r:c6F×Int)=>some r)
     λ(r:c6F×Int)=>some r)
  λ(r:c6F×Int)=>some r
end
end Gt
