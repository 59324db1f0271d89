import Derived.Test.YtpdhfchnaibpmabGreatDoorT2
set_option linter.all false
open Go Go.GP
namespace Gt
set_option maxRecDepth 100000
noncomputable section
def Qm(a0:Int):c9n:=l7 (N7 97 a0) (some (N7 a0 122)) (some false)
def Yy(a0:Int):c9n:=l7 (N7 48 a0) (some (N7 a0 57)) (some false)
def Ub(a0:Int):c9n:=o5 (Qm a0) λ(x:Bool)=>l7 x (some true) (o5 (Yy a0) λ(x:Bool)=>
 l7 x (some true) (some (x8 a0 95)))
def zD:Option (List c9i):=some [[105,102],[116,104,101,110],[101,108,115,101],[111,114],[97,110,100],[110,
 111,116],[116,114,117,101],[102,97,108,115,101],[116,111,100,97,121],[115,104,97,114,101],[100,105,118],[114,111,117,110,
 100],[109,105,110],[109,97,120],[112,108,117,115],[109,111,110,116,104,115],[100,97,121,115],[121,101,97,114,115],[121,
 101,97,114],[109,111,110,116,104],[116,97,98],[98,97,110,100],[99,111,117,110,116],[115,117,109],[97,108,108],[97,110,
 121],[109,111,115,116],[101,110,117,109],[116,97,98,108,101],[114,111,119],[115,99,111,112,101],[109,101,109,98,101,114,
 115],[105,110,112,117,116],[100,101,102],[114,117,108,101],[111,102],[111,118,101,114],[112,114,105,111],[102,114,111,109],
 [116,111],[101,110,100],[119,104,101,110],[105,115],[115,114,99],[98,111,111,108],[105,110,116],[109,111,110,101,121],[114,
 97,116,101],[100,97,116,101],[100,111,119,110],[117,112],[122,101,114,111],[97,119,97,121],[104,97,108,102],[101,118,101,
 110]]
def iO(a0:c9i):c9n:=o5 (l7 (x8 (o9 a0) 0) (some (Sum.inr false)) (l7 (E9 16 (o9 a0)) (some
 (Sum.inr false)) (o5 (sat a0 0) λ(x:Int)=>o5 (Qm x) λ(x:Bool)=>l7 (D9 x) (some (Sum.inr false)) (some (Sum.inl
 PUnit.unit))))) λ(o:PUnit⊕Bool)=>X9 o (λ(x:PUnit)=>o5 (V7 (λ(x:Int)=>l7 (E9 x (o9 a0)) (o5 (sat a0 x) λ
 (x_1:Int)=>o5 (Ub x_1) λ(x_2:Bool)=>l7 (D9 x_2) (some (Out.rt false)) (some (Out.nx (A7 IntKind.i64 x 1)))) (some
 (Out.ex PUnit.unit))) 0) λ(o:PUnit⊕Bool)=>X9 o (λ(y:PUnit)=>o5 zD λ(x:List c9i)=>o5 (V7 (λ
 (x_1:Int)=>l7 (E9 x_1 (o9 x)) (o5 (F9 x x_1) λ(x_2:c9i)=>o5 (O8 x (U6 x_1)) λ(x:c9i)=>l7 (seq x
 a0) (some (Out.rt false)) (some (Out.nx (A7 IntKind.i64 x_1 1)))) (some (Out.ex PUnit.unit))) 0) λ(o:PUnit⊕Bool)=>X9 o (λ(y:PUnit)
 =>some true) λ(r:Bool)=>some r) λ(r:Bool)=>some r) λ(r:Bool)=>some r
def lV(a0:S9)(a1:Int)(a2:Int)(a3:c9i):c9n:=o5 (V7 (λ(x:Int)=>l7 (E9 x (o9 a0.1))
 (l7 (E9 1 a1) (o5 (F9 a0.1 x) λ(x_1:dB)=>l7 (seq x_1.1 a3) (some (Out.rt true)) (some (Out.nx (A7 IntKind.i64 x 1)))) (l7
 (E9 x a2) (o5 (F9 a0.1 x) λ(x_1:dB)=>l7 (seq x_1.1 a3) (some (Out.rt true)) (some (Out.nx (A7 IntKind.i64 x 1)))) (some (Out.nx
 (A7 IntKind.i64 x 1))))) (some (Out.ex PUnit.unit))) 0) λ(o:PUnit⊕Bool)=>X9 o (λ(y:PUnit)=>o5 (V7 (λ(x:Int)=>l7
 (E9 x (o9 a0.2.1)) (l7 (E9 2 a1) (o5 (F9 a0.2.1 x) λ(x_1:bn)=>l7 (seq x_1.1 a3) (some (Out.rt true)) (some (Out.nx (A7
 IntKind.i64 x 1)))) (l7 (x8 a1 2) (l7 (E9 x a2) (o5 (F9 a0.2.1 x) λ(x_1:bn)=>l7 (seq x_1.1 a3) (some (Out.rt true)) (some
 (Out.nx (A7 IntKind.i64 x 1)))) (some (Out.nx (A7 IntKind.i64 x 1)))) (some (Out.nx (A7 IntKind.i64 x 1))))) (some (Out.ex PUnit.unit))) 0) λ
 (o:PUnit⊕Bool)=>X9 o (λ(y:PUnit)=>o5 (V7 (λ(x:Int)=>l7 (E9 x (o9 a0.2.2)) (l7 (x8 a1 3) (l7 (E9 x a2)
 (o5 (F9 a0.2.2 x) λ(x_1:A8)=>l7 (seq x_1.1 a3) (some (Out.rt true)) (some (Out.nx (A7 IntKind.i64 x 1)))) (some (Out.nx (A7
 IntKind.i64 x 1)))) (some (Out.nx (A7 IntKind.i64 x 1)))) (some (Out.ex PUnit.unit))) 0) λ(o:PUnit⊕Bool)=>X9 o (λ(y:PUnit)=>some
 false) λ(r:Bool)=>some r) λ(r:Bool)=>some r) λ(r:Bool)=>some r
def GV(a0:S9)(a1:Int):Option F6:=o5 (F9 a0.1 a1) λ(x:dB)=>o5 (iO x.1) λ(x_1:
 Bool)=>l7 (D9 x_1) (some (2,1,a1,0)) (o5 (lV a0 1 a1 x.1) λ(x_2:Bool)=>l7 x_2 (some (7,1,a1,0)) (l7 (x8
 (o9 x.2) 0) (some (5,1,a1,0)) (l7 (E9 16 (o9 x.2)) (some (4,1,a1,116)) (o5 (V7 (λ(x_3:F6×F6×Int)=>
 l7 (E9 x_3.2.2 (o9 x.2)) (o5 (F9 x.2 x_3.2.2) λ(x_4:c9i)=>o5 (iO x_4) λ(x_5:Bool)=>l7 (D9 x_5)
 (some (Out.rt (2,x_3.2.1.2.1,x_3.2.1.2.2.1,A7 IntKind.i64 100 x_3.2.2))) (o5 (V7 (λ(x_6:F6×F6×Int)=>l7 (E9
 x_6.2.2 x_3.2.2) (o5 (F9 x.2 x_6.2.2) λ(x_7:c9i)=>o5 (F9 x.2 x_3.2.2) λ(x:c9i)=>l7 (seq x_7 x) (some (Out.rt
 (7,x_6.2.1.2))) (some (Out.nx (x_6.1,x_6.2.1,A7 IntKind.i64 x_6.2.2 1)))) (some (Out.ex (x_6.1,x_6.2.1)))) (x_3.1,(x_3.2.1.1,x_3.2.1.2.1,
 x_3.2.1.2.2.1,A7 IntKind.i64 100 x_3.2.2),0)) λ(o:F6×F6⊕F6)=>X9 o (λ(y:F6×F6)=>some
 (Out.nx (y.1,y.2,A7 IntKind.i64 x_3.2.2 1))) λ(r:F6)=>some (Out.rt r))) (some (Out.ex x_3.1))) ((0,0,0,0),(0,1,a1,0),0))
 λ(o:F6⊕F6)=>X9 o (λ(y:F6)=>some (0,0,0,0)) λ(r:F6)=>some r))))
def eU(a0:I7)(a1:List dB):c9n:=l7 (x8 a0.1 6) (l7 (N7 0 a0.2) (some (E9 a0.2 (o9 a1))) (some false))
 (l7 (N7 1 a0.1) (l7 (N7 a0.1 5) (some (x8 a0.2 0)) (some false)) (some false))
def CZ(a0:I7):c9n:=l7 (N7 0 a0.1) (l7 (N7 a0.1 a0.2) (some (N7 a0.2 109573)) (some false)) (some false)
def pM(a0:I7)(a1:List dB):Option I7:=o5 (eU a0 a1) λ(x:Bool)=>l7 (D9 x) (some (0,-1)) (l7
 (x8 a0.1 1) (some (0,1)) (l7 (x8 a0.1 2) (some (-1000000000000,1000000000000)) (l7 (x8 a0.1 3) (some (-1000000000000000,
 1000000000000000)) (l7 (x8 a0.1 4) (some (-1000000000,1000000000)) (l7 (x8 a0.1 5) (some (0,109572)) (o5 (F9 a1 a0.2) λ(x:dB)
 =>some (0,J3 IntKind.i64 (o9 x.2) 1)))))))
def MH(a0:Int)(a1:I7)(a2:List dB):c9n:=o5 (pM a1 a2) λ(x:I7)=>l7 (N7 x.1 a0) (some (N7 a0
 x.2)) (some false)
def Qn(a0:rF)(a1:bn)(a2:List dB):c9n:=o5 (o5 (CZ a0.1) λ(x:Bool)=>l7 (D9 x) (some
 (Sum.inr true)) (l7 (x8 a0.1.1 a0.1.2) (some (Sum.inr true)) (l7 (N7 a0.2.2.1 a0.2.1) (some (Sum.inr true)) (some (Sum.inl PUnit.unit)))))
 λ(o:PUnit⊕Bool)=>X9 o (λ(x:PUnit)=>o5 (MH a0.2.1 a1.2.1 a2) λ(x:Bool)=>l7 (D9 x) (some true) (o5 (MH
 (J3 IntKind.i64 a0.2.2.1 1) a1.2.1 a2) λ(x:Bool)=>l7 (D9 x) (some true) (o5 (MH a0.2.2.2 a1.2.2.1 a2) λ(x:Bool)=>some
 (D9 x)))) λ(r:Bool)=>some r
def GN(a0:I7)(a1:I7):Option (I7×Bool):=o5 (CZ a0) λ(x:Bool)=>l7 (D9 x) (some ((0,0),
 false)) (o5 (CZ a1) λ(x:Bool)=>l7 (D9 x) (some ((0,0),false)) (l7 (N7 (qR a0.2 a1.2) (oD a0.1 a1.1)) (some ((0,0),
 false)) (some ((oD a0.1 a1.1,qR a0.2 a1.2),true))))
def Jn(a0:rF)(a1:rF):c9n:=o5 (GN a0.1 a1.1) λ(x:I7×Bool)=>l7 x.2 (some (E9 (oD
 a0.2.1 a1.2.1) (qR a0.2.2.1 a1.2.2.1))) (some false)
def Jm(a0:bn)(a1:List dB):Option I7:=l7 (E9 64 (o9 a0.2.2.2)) (some (64,4)) (o5 (o5 (eU
 a0.2.1 a1) λ(x:Bool)=>l7 (D9 x) (some (Sum.inr (-1,8))) (o5 (eU a0.2.2.1 a1) λ(x:Bool)=>l7 (D9 x) (some
 (Sum.inr (-1,8))) (some (Sum.inl PUnit.unit)))) λ(o:PUnit⊕I7)=>X9 o (λ(x:PUnit)=>o5 (V7 (λ(x:Int)=>l7 (E9 x
 (o9 a0.2.2.2)) (o5 (F9 a0.2.2.2 x) λ(x_1:rF)=>o5 (Qn x_1 a0 a1) λ(x_2:Bool)=>l7 x_2 (some (Out.rt (x,3)))
 (o5 (V7 (λ(x_3:Int)=>l7 (E9 x_3 x) (o5 (F9 a0.2.2.2 x_3) λ(x_4:rF)=>o5 (F9 a0.2.2.2 x) λ(x_5:rF)=>o5
 (Jn x_4 x_5) λ(x_6:Bool)=>l7 x_6 (some (Out.rt (x,11))) (some (Out.nx (A7 IntKind.i64 x_3 1)))) (some (Out.ex PUnit.unit)))
 0) λ(o:PUnit⊕I7)=>X9 o (λ(y:PUnit)=>some (Out.nx (A7 IntKind.i64 x 1))) λ(r:I7)=>some (Out.rt r))) (some (Out.ex
 PUnit.unit))) 0) λ(o:PUnit⊕I7)=>X9 o (λ(y:PUnit)=>some (0,0)) λ(r:I7)=>some r) λ(r:I7)=>some r)
def Fq(a0:S9)(a1:Int):Option F6:=o5 (F9 a0.2.1 a1) λ(x:bn)=>o5 (iO x.1) λ(x_1:
 Bool)=>l7 (D9 x_1) (some (2,2,a1,0)) (o5 (lV a0 2 a1 x.1) λ(x_2:Bool)=>l7 x_2 (some (7,2,a1,0)) (o5
 (Jm x a0.1) λ(x:I7)=>l7 (x8 x.2 0) (some (0,0,0,0)) (l7 (N7 0 x.1) (some (x.2,2,a1,A7 IntKind.i64 100 x.1))
 (some (x.2,2,a1,0)))))
def zH(a0:List bH)(a1:Int)(a2:c9i):c9n:=o5 (V7 (λ(x:Int)=>l7 (E9 x a1) (l7 (E9 x
 (o9 a0)) (o5 (F9 a0 x) λ(x_1:bH)=>l7 (seq x_1.1 a2) (some (Out.rt true)) (some (Out.nx (A7 IntKind.i64 x 1)))) (some (Out.ex
 PUnit.unit))) (some (Out.ex PUnit.unit))) 0) λ(o:PUnit⊕Bool)=>X9 o (λ(y:PUnit)=>some false) λ(r:Bool)=>some r
def Fh(a0:S9)(a1:Int):Option F6:=o5 (F9 a0.2.2 a1) λ(x:A8)=>o5 (V7 (λ(x_1:F6×
 Int)=>l7 (E9 x_1.2 (o9 x.2.2.1)) (o5 (F9 x.2.2.1 x_1.2) λ(x_2:bH)=>o5 (iO x_2.1) λ(x_3:Bool)=>l7
 (D9 x_3) (l7 (D9 (x8 2 0)) (some (Out.rt (2,3,a1,A7 IntKind.i64 100 x_1.2))) (some (Out.nx (x_1.1,A7 IntKind.i64 x_1.2 1)))) (o5
 (F9 x.2.2.1 x_1.2) λ(x_4:bH)=>o5 (zH x.2.2.1 x_1.2 x_4.1) λ(x_5:Bool)=>l7 x_5 (l7 (D9 (x8 7 0)) (some
 (Out.rt (7,3,a1,A7 IntKind.i64 100 x_1.2))) (some (Out.nx (x_1.1,A7 IntKind.i64 x_1.2 1)))) (o5 (F9 x.2.2.1 x_1.2) λ(x:bH)=>
 o5 (eU x.2 a0.1) λ(x:Bool)=>l7 (D9 x) (l7 (D9 (x8 8 0)) (some (Out.rt (8,3,a1,A7 IntKind.i64 100 x_1.2)))
 (some (Out.nx (x_1.1,A7 IntKind.i64 x_1.2 1)))) (l7 (D9 (x8 0 0)) (some (Out.rt (0,3,a1,A7 IntKind.i64 100 x_1.2))) (some (Out.nx
 (x_1.1,A7 IntKind.i64 x_1.2 1))))))) (some (Out.ex x_1.1))) ((0,0,0,0),0)) λ(o:F6⊕F6)=>X9 o (λ(y:F6)
 =>o5 (V7 (λ(x_1:F6×Int)=>l7 (E9 x_1.2 (o9 x.2.2.2.1)) (o5 (o5 (F9 x.2.2.2.1 x_1.2) λ(x_2:bH)=>o5
 (iO x_2.1) λ(x_3:Bool)=>l7 (D9 x_3) (some (2,3,a1,A7 IntKind.i64 200 x_1.2)) (o5 (F9 x.2.2.2.1 x_1.2) λ(x_4:
 bH)=>o5 (zH x.2.2.1 (o9 x.2.2.1) x_4.1) λ(x_5:Bool)=>l7 x_5 (some (7,3,a1,A7 IntKind.i64 200 x_1.2)) (o5
 (F9 x.2.2.2.1 x_1.2) λ(x_6:bH)=>o5 (zH x.2.2.2.1 x_1.2 x_6.1) λ(x_7:Bool)=>l7 x_7 (some (7,3,a1,A7
 IntKind.i64 200 x_1.2)) (o5 (F9 x.2.2.2.1 x_1.2) λ(x:bH)=>o5 (eU x.2 a0.1) λ(x:Bool)=>l7 (D9 x) (some (8,
 3,a1,A7 IntKind.i64 200 x_1.2)) (some (0,3,a1,A7 IntKind.i64 200 x_1.2)))))) λ(x:F6)=>l7 (D9 (x8 x.1 0)) (some (Out.rt
 x)) (some (Out.nx (x_1.1,A7 IntKind.i64 x_1.2 1)))) (some (Out.ex x_1.1))) (y,0)) λ(o:F6⊕F6)=>X9 o (λ(y:
 F6)=>some (0,0,0,0)) λ(r:F6)=>some r) λ(r:F6)=>some r
def GX(a0:c9i):c9n:=o5 (V7 (λ(x:Int)=>l7 (E9 x (o9 a0)) (o5 (sat a0 x) λ(x_1:Int)=>
 l7 (E9 x_1 32) (some (Out.rt false)) (o5 (sat a0 x) λ(x_2:Int)=>l7 (E9 126 x_2) (some (Out.rt false)) (o5 (sat a0 x) λ(x_3:
 Int)=>l7 (x8 x_3 34) (some (Out.rt false)) (some (Out.nx (A7 IntKind.i64 x 1)))))) (some (Out.ex PUnit.unit))) 0) λ(o:PUnit⊕Bool)=>
 X9 o (λ(y:PUnit)=>some (N7 (o9 a0) 64)) λ(r:Bool)=>some r
def Fj(a0:List bH):Option (List I7):=o5 (ay (λ(x:List I7×Int)=>l7 (E9 x.2 (o9 a0)) (o5 (F9 a0
 x.2) λ(x_1:bH)=>o5 (di x.1 [x_1.2]) λ(x_2:List I7)=>some (Sum.inl (x_2,A7 IntKind.i64 x.2 1))) (some (Sum.inr x.1)))
 ([],0)) λ(y:List I7)=>some y
def GU(a0:S9)(a1:Int):Option J5:=o5 (l7 (E9 a1 0) (some (Sum.inr ([],[],[],[],[],false))) (l7 (N7
 (o9 a0.2.2) a1) (some (Sum.inr ([],[],[],[],[],false))) (some (Sum.inl ([],[],[],[],[],false))))) λ(o:J5⊕J5)=>
 X9 o (λ(x:J5)=>o5 (F9 a0.2.2 a1) λ(x:A8)=>o5 (Fj x.2.2.1) λ(x_1:List I7)=>o5
 (Fj x.2.2.2.1) λ(x_2:List I7)=>l7 (N7 0 x.2.1) (l7 (E9 x.2.1 (o9 a0.2.2)) (o5 (F9 a0.2.2 x.2.1) λ(x:
 A8)=>o5 (Fj x.2.2.2.1) λ(x:List I7)=>some (a0.1,a0.2.1,x_1,x_2,x,true)) (some (a0.1,a0.2.1,x_1,x_2,[],
 false))) (some (a0.1,a0.2.1,x_1,x_2,[],false))) λ(r:J5)=>some r
def kC(a0:Int):c9o:=o5 (l7 (N7 1 a0) (l7 (N7 a0 9) (some (Sum.inr 0)) (l7 (N7 35 a0) (l7 (N7 a0 39) (some
 (Sum.inr 0)) (some (Sum.inl PUnit.unit))) (some (Sum.inl PUnit.unit)))) (l7 (N7 35 a0) (l7 (N7 a0 39) (some (Sum.inr 0)) (some (Sum.inl
 PUnit.unit))) (some (Sum.inl PUnit.unit)))) λ(o:PUnit⊕Int)=>X9 o (λ(x:PUnit)=>l7 (x8 a0 10) (l7 (x8 a0 10) (some 1) (l7
 (x8 a0 26) (some 3) (l7 (N7 11 a0) (l7 (N7 a0 30) (some 2) (some (-1))) (some (-1))))) (l7 (x8 a0 25) (l7 (x8 a0 25) (some 1) (l7
 (x8 a0 26) (some 3) (l7 (N7 11 a0) (l7 (N7 a0 30) (some 2) (some (-1))) (some (-1))))) (l7 (x8 a0 31) (l7 (x8 a0 31) (some 1) (l7
 (x8 a0 26) (some 3) (l7 (N7 11 a0) (l7 (N7 a0 30) (some 2) (some (-1))) (some (-1))))) (l7 (x8 a0 32) (l7 (x8 a0 32) (some 1) (l7
 (x8 a0 26) (some 3) (l7 (N7 11 a0) (l7 (N7 a0 30) (some 2) (some (-1))) (some (-1))))) (l7 (x8 a0 33) (l7 (x8 a0 33) (some 1) (l7
 (x8 a0 26) (some 3) (l7 (N7 11 a0) (l7 (N7 a0 30) (some 2) (some (-1))) (some (-1))))) (l7 (x8 a0 34) (some 1) (l7 (x8 a0 26) (some
 3) (l7 (N7 11 a0) (l7 (N7 a0 30) (some 2) (some (-1))) (some (-1)))))))))) λ(r:Int)=>some r
def yh(a0:List I7):Option (c9h×I7):=l7 (E9 48 (o9 a0)) (some ([],0,4)) (l7 (x8 (o9 a0) 0) (some ([],0,
 5)) (o5 (V7 (λ(x:c9h×c9h×Int)=>l7 (E9 x.2.2 (o9 a0)) (o5 (F9 a0 x.2.2) λ(x_1:I7)=>o5 (kC
 x_1.1) λ(x_2:Int)=>l7 (E9 x_2 0) (some (Out.rt ([],x.2.2,2))) (l7 (E9 (o9 x.2.1) x_2) (some (Out.rt ([],x.2.2,5))) (l7 (E9 0
 x_2) (o5 (F9 x.2.1 (J3 IntKind.i64 (o9 x.2.1) x_2)) λ(x_3:Int)=>o5 (O8 x.2.1 (U6 (J3 IntKind.i64 (o9 x.2.1) x_2))) λ(x_4
 :Int)=>l7 (qp 0 (J3 IntKind.i64 (o9 x.2.1) x_2) (o9 x.2.1)) (o5 (di (qh x.2.1 (U6 0) (U6 (J3 IntKind.i64 (o9 x.2.1)
 x_2))) [x_4]) λ(x_5:c9h)=>o5 (di x.1 [x_4]) λ(x_6:c9h)=>l7 (E9 12 (o9 x_5)) (some (Out.rt ([],x.2.2,16))) (some
 (Out.nx (x_6,x_5,A7 IntKind.i64 x.2.2 1)))) none) (o5 (di x.2.1 [x.2.2]) λ(x_3:c9h)=>o5 (di x.1 [x.2.2]) λ(x_4:List
 Int)=>l7 (E9 12 (o9 x_3)) (some (Out.rt ([],x.2.2,16))) (some (Out.nx (x_4,x_3,A7 IntKind.i64 x.2.2 1))))))) (some (Out.ex (x.1,
 x.2.1)))) ([],[],0)) λ(o:c9h×c9h⊕c9h×I7)=>X9 o (λ(y:c9h×c9h)=>l7 (E9 1 (o9 y.2)) (some
 ([],o9 a0,4)) (some (y.1,0,0))) λ(r:c9h×I7)=>some r))
def fF(a0:Int):c9n:=o5 (l7 (N7 1 a0) (l7 (N7 a0 8) (some (Sum.inr true)) (l7 (N7 36 a0) (l7 (N7 a0 39)
 (some (Sum.inr true)) (some (Sum.inl PUnit.unit))) (some (Sum.inl PUnit.unit)))) (l7 (N7 36 a0) (l7 (N7 a0 39) (some (Sum.inr true)) (some
 (Sum.inl PUnit.unit))) (some (Sum.inl PUnit.unit)))) λ(o:PUnit⊕Bool)=>X9 o (λ(x:PUnit)=>l7 (x8 a0 14) (some true) (l7 (x8
 a0 15) (some true) (l7 (x8 a0 16) (some true) (l7 (x8 a0 33) (some true) (some (x8 a0 34)))))) λ(r:Bool)=>some r
def jI(a0:Int):Option I7:=some (a0,0)
def rW(a0:I7)(a1:J5):c9n:=o5 (l7 (x8 a0.1 1) (some (x8 a0.1 1)) (l7 (x8 a0.1 2) (some (x8 a0.1 2))
 (l7 (x8 a0.1 3) (some (x8 a0.1 3)) (l7 (x8 a0.1 4) (some (x8 a0.1 4)) (some (x8 a0.1 5)))))) λ(x:Bool)=>l7 x (o5 (jI
 a0.1) λ(x:I7)=>o5 (pM x a1.1) λ(x:I7)=>l7 (N7 x.1 a0.2) (some (N7 a0.2 x.2)) (some false)) (o5 (l7 (x8
 a0.1 14) (some (x8 a0.1 14)) (l7 (x8 a0.1 15) (some (x8 a0.1 15)) (some (x8 a0.1 16)))) λ(x:Bool)=>l7 x (l7 (N7 0 a0.2) (some
 (N7 a0.2 5)) (some false)) (l7 (x8 a0.1 34) (l7 (N7 0 a0.2) (some (N7 (eF a0.2 8) 5)) (some false)) (l7 (x8 a0.1 6) (some (N7 0
 a0.2)) (some true))))
def qm(a0:I7)(a1:J5):c9n:=l7 (x8 a0.1 6) (l7 (E9 (dV IntKind.i64 a0.2 16) (o9 a1.1)) (o5 (F9
 a1.1 (dV IntKind.i64 a0.2 16)) λ(x:dB)=>some (E9 (eF a0.2 16) (o9 x.2))) (some false)) (l7 (x8 a0.1 7) (l7 (N7 0 a0.2) (some
 (E9 a0.2 (o9 a1.2.2.1))) (some false)) (l7 (x8 a0.1 8) (l7 (N7 0 a0.2) (some (E9 a0.2 (o9 a1.2.2.2.1))) (some false)) (l7 (x8 a0.1
 33) (l7 (N7 0 a0.2) (some (E9 a0.2 (o9 a1.2.1))) (some false)) (l7 (x8 a0.1 34) (some (E9 (dV IntKind.i64 a0.2 8) (o9 a1.2.1)))
 (l7 (x8 a0.1 35) (some a1.2.2.2.2.2) (o5 (l7 (x8 a0.1 36) (some (x8 a0.1 36)) (l7 (x8 a0.1 37) (some (x8 a0.1 37)) (l7 (x8 a0.1
 38) (some (x8 a0.1 38)) (some (x8 a0.1 39))))) λ(x:Bool)=>l7 x (l7 a1.2.2.2.2.2 (l7 (N7 0 a0.2) (some (E9 a0.2 (o9
 a1.2.2.2.2.1))) (some false)) (some false)) (some true)))))))
def xK(a0:Int):c9n:=l7 (x8 a0 2) (some true) (l7 (x8 a0 3) (some true) (some (x8 a0 4)))
def sD(a0:Int):c9n:=o5 (xK a0) λ(x:Bool)=>l7 x (some true) (some (x8 a0 5))
def bZ(a0:I7)(a1:J5):Option (I7×Bool):=o5 (l7 (x8 a0.1 6) (some (6,dV IntKind.i64 a0.2 16)) (l7 (x8
 a0.1 7) (o5 (F9 a1.2.2.1 a0.2) λ(x:I7)=>some x) (l7 (x8 a0.1 8) (o5 (F9 a1.2.2.2.1 a0.2) λ(x:I7)=>some x) (l7 (x8
 a0.1 9) (o5 (jI 5) λ(x:I7)=>some x) (l7 (x8 a0.1 35) (o5 (jI 2) λ(x:I7)=>some x) (o5 (l7 (x8
 a0.1 36) (some (x8 a0.1 36)) (l7 (x8 a0.1 37) (some (x8 a0.1 37)) (l7 (x8 a0.1 38) (some (x8 a0.1 38)) (some (x8 a0.1 39))))) λ(x:
 Bool)=>l7 x (o5 (F9 a1.2.2.2.2.1 a0.2) λ(x:I7)=>some x) (o5 (jI a0.1) λ(x:I7)=>some x))))))) λ(x:I7)
 =>o5 (eU x a1.1) λ(x_1:Bool)=>l7 (x8 a0.1 36) (l7 x_1 (l7 (x8 x.1 2) (some (x,true)) (some (x,x8 x.1 3))) (some
 (x,false))) (l7 (x8 a0.1 37) (l7 (x8 a0.1 37) (l7 x_1 (some (x,x8 x.1 1)) (some (x,false))) (l7 (x8 a0.1 39) (l7 x_1 (o5
 (sD x.1) λ(x_2:Bool)=>some (x,x_2)) (some (x,false))) (some (x,x_1)))) (l7 (x8 a0.1 38) (l7 x_1 (some (x,x8 x.1 1))
 (some (x,false))) (l7 (x8 a0.1 39) (l7 x_1 (o5 (sD x.1) λ(x_2:Bool)=>some (x,x_2)) (some (x,false))) (some (x,
 x_1)))))
def lU(a0:I7)(a1:I7)(a2:J5):Option (I7×Bool):=l7 (x8 a0.1 10) (o5 (xK a1.1) λ(x:Bool)
 =>some (a1,x)) (l7 (x8 a0.1 25) (some (a1,x8 a1.1 1)) (o5 (l7 (x8 a0.1 31) (some (x8 a0.1 31)) (some (x8 a0.1 32))) λ(x:Bool)
 =>l7 x (o5 (jI 2) λ(x:I7)=>some (x,x8 a1.1 5)) (l7 (x8 a0.1 33) (o5 (F9 a2.2.1 a0.2) λ(x:bn)=>o5
 (eU x.2.1 a2.1) λ(x_1:Bool)=>l7 x_1 (o5 (eU x.2.2.1 a2.1) λ(x_2:Bool)=>l7 x_2 (some (x.2.2.1,V9
 (x8 a1.1 x.2.1.1) (x8 a1.2 x.2.1.2))) (some (x.2.2.1,false))) (some (x.2.2.1,false))) (o5 (F9 a2.2.1 (dV IntKind.i64 a0.2 8)) λ(x:
 bn)=>l7 (x8 a1.1 3) (o5 (jI 3) λ(x_1:I7)=>l7 (V9 (x8 x.2.1.1 x_1.1) (x8 x.2.1.2 x_1.2)) (o5 (jI 4)
 λ(x_2:I7)=>some (a1,V9 (x8 x.2.2.1.1 x_2.1) (x8 x.2.2.1.2 x_2.2))) (some (a1,false))) (some (a1,false))))))
def a4v(a0:Int)(a1:Int)(a2:Int):Option (I7×Bool):=l7 (x8 a0 13) (o5 (jI a1) λ(x:I7)=>l7 (x8 a2
 2) (l7 (x8 a1 2) (some (x,true)) (some (x,x8 a1 3))) (some (x,false))) (l7 (x8 a0 14) (o5 (jI a1) λ(x:I7)=>l7
 (x8 a2 4) (l7 (x8 a1 3) (some (x,true)) (some (x,x8 a1 4))) (some (x,false))) (l7 (x8 a1 3) (l7 (x8 a2 3) (o5 (jI 4) λ
 (x:I7)=>some (x,true)) (o5 (jI a1) λ(x:I7)=>l7 (x8 a2 2) (l7 (x8 a1 2) (some (x,true)) (some (x,x8 a1 3)))
 (some (x,false)))) (o5 (jI a1) λ(x:I7)=>l7 (x8 a2 2) (l7 (x8 a1 2) (some (x,true)) (some (x,x8 a1 3))) (some (x,
 false)))))
def uV(a0:Int)(a1:I7)(a2:I7):Option (I7×Bool):=o5 (o5 (l7 (x8 a0 11) (some (x8 a0 11)) (some (x8 a0
 12))) λ(x:Bool)=>l7 x (l7 (V9 (x8 a1.1 a2.1) (x8 a1.2 a2.2)) (o5 (xK a1.1) λ(x:Bool)=>some (Sum.inr (a1,x)))
 (some (Sum.inr (a1,false)))) (o5 (l7 (x8 a0 13) (some (x8 a0 13)) (l7 (x8 a0 14) (some (x8 a0 14)) (some (x8 a0 15)))) λ(x:Bool)
 =>l7 x (o5 (a4v a0 a1.1 a2.1) λ(x:I7×Bool)=>some (Sum.inr x)) (l7 (x8 a0 16) (l7 (x8 a1.1 3) (some (Sum.inr (a1,
 x8 a2.1 3))) (some (Sum.inr (a1,false)))) (o5 (l7 (x8 a0 17) (some (x8 a0 17)) (some (x8 a0 18))) λ(x:Bool)=>l7 x (l7 (V9
 (x8 a1.1 a2.1) (x8 a1.2 a2.2)) (o5 (sD a1.1) λ(x:Bool)=>some (Sum.inr (a1,x))) (some (Sum.inr (a1,false)))) (o5 (l7
 (x8 a0 19) (some (x8 a0 19)) (some (x8 a0 20))) λ(x:Bool)=>l7 x (o5 (jI 1) λ(x:I7)=>some (Sum.inr (x,V9 (x8
 a1.1 a2.1) (x8 a1.2 a2.2)))) (o5 (l7 (x8 a0 21) (some (x8 a0 21)) (some (x8 a0 22))) λ(x:Bool)=>l7 x (o5 (jI 1) λ(x
 :I7)=>l7 (V9 (x8 a1.1 a2.1) (x8 a1.2 a2.2)) (o5 (sD a1.1) λ(x_1:Bool)=>some (Sum.inr (x,x_1))) (some (Sum.inr (x,
 false)))) (l7 (x8 a0 23) (l7 (x8 a0 23) (l7 (x8 a1.1 1) (some (Sum.inr (a1,x8 a2.1 1))) (some (Sum.inr (a1,false)))) (l7 (x8 a0
 27) (l7 (x8 a0 27) (l7 (x8 a1.1 5) (some (Sum.inr (a1,x8 a2.1 2))) (some (Sum.inr (a1,false)))) (some (Sum.inl (0,0)))) (l7 (x8 a0
 28) (l7 (x8 a1.1 5) (some (Sum.inr (a1,x8 a2.1 2))) (some (Sum.inr (a1,false)))) (some (Sum.inl (0,0)))))) (l7 (x8 a0 24) (l7 (x8
 a1.1 1) (some (Sum.inr (a1,x8 a2.1 1))) (some (Sum.inr (a1,false)))) (l7 (x8 a0 27) (l7 (x8 a0 27) (l7 (x8 a1.1 5) (some (Sum.inr (a1,
 x8 a2.1 2))) (some (Sum.inr (a1,false)))) (some (Sum.inl (0,0)))) (l7 (x8 a0 28) (l7 (x8 a1.1 5) (some (Sum.inr (a1,x8 a2.1 2))) (some
 (Sum.inr (a1,false)))) (some (Sum.inl (0,0))))))))))))) λ(o:I7⊕I7×Bool)=>X9 o (λ(x:I7)=>o5 (jI 2) λ(x:
 I7)=>l7 (x8 a1.1 5) (some (x,x8 a2.1 5)) (some (x,false))) λ(r:I7×Bool)=>some r
def Eb(a0:I7)(a1:List I7)(a2:J5):Option (I7×Int):=o5 (l7 (D9 (x8 a0.2 0)) (o5 (fF
 a0.1) λ(x:Bool)=>l7 (D9 x) (some (Sum.inr ((0,0),2))) (some (Sum.inl (0,0)))) (some (Sum.inl (0,0)))) λ(o:I7⊕I7×Int)
 =>X9 o (λ(x:I7)=>o5 (rW a0 a2) λ(x:Bool)=>l7 (D9 x) (some ((0,0),3)) (o5 (qm a0 a2) λ(x:
 Bool)=>l7 (D9 x) (some ((0,0),6)) (l7 (x8 (o9 a1) 0) (o5 (bZ a0 a2) λ(x:I7×Bool)=>l7 (D9 x.2) (some ((0,
 0),8)) (some (x.1,0))) (l7 (x8 (o9 a1) 1) (o5 (F9 a1 0) λ(x:I7)=>o5 (lU a0 x a2) λ(x:I7×Bool)=>l7
 (D9 x.2) (some ((0,0),8)) (some (x.1,0))) (l7 (x8 (o9 a1) 2) (o5 (F9 a1 0) λ(x:I7)=>o5 (F9 a1 1) λ(x_1:I7)=>
 o5 (uV a0.1 x x_1) λ(x:I7×Bool)=>l7 (D9 x.2) (some ((0,0),8)) (some (x.1,0))) (o5 (F9 a1 1) λ(x:I7)=>
 o5 (F9 a1 0) λ(x_1:I7)=>l7 (x8 x_1.1 1) (o5 (F9 a1 1) λ(x_2:I7)=>o5 (F9 a1 2) λ(x_3:I7)=>l7 (D9
 (V9 (x8 x_2.1 x_3.1) (x8 x_2.2 x_3.2))) (some ((0,0),8)) (some (x,0))) (l7 (D9 false) (some ((0,0),8)) (some (x,0))))))))) λ(r:
 I7×Int)=>some r
def NU(a0:List I7)(a1:J5):Option (I7×I7):=o5 (yh a0) λ(x:c9h×I7)=>l7 (D9
 (x8 x.2.2 0)) (some ((0,0),x.2)) (o5 (V7 (λ(x:I7×List I7×Int)=>l7 (E9 x.2.2 (o9 a0)) (o5 (F9 a0 x.2.2) λ(x_1:
 I7)=>o5 (kC x_1.1) λ(x_2:Int)=>o5 (F9 a0 x.2.2) λ(x_3:I7)=>l7 (qp (J3 IntKind.i64 (o9 x.2.1) x_2)
 (o9 x.2.1) (o9 x.2.1)) (o5 (Eb x_3 (qh x.2.1 (U6 (J3 IntKind.i64 (o9 x.2.1) x_2)) (U6 (o9 x.2.1))) a1) λ(x_4:I7×
 Int)=>l7 (D9 (x8 x_4.2 0)) (some (Out.rt ((0,0),x.2.2,x_4.2))) (l7 (qp 0 (J3 IntKind.i64 (o9 x.2.1) x_2) (o9 x.2.1)) (o5
 (di (qh x.2.1 (U6 0) (U6 (J3 IntKind.i64 (o9 x.2.1) x_2))) [x_4.1]) λ(x_5:List I7)=>some (Out.nx (x.1,x_5,A7 IntKind.i64
 x.2.2 1))) none)) none) (some (Out.ex (x.1,x.2.1)))) ((0,0),[],0)) λ(o:I7×List I7⊕I7×I7)=>X9 o (λ(y:I7×List
 I7)=>o5 (F9 y.2 0) λ(x:I7)=>o5 (O8 y.2 (U6 0)) λ(x:I7)=>some (x,0,0)) λ(r:I7×I7)=>some r)
def yj(a0:List I7)(a1:J5)(a2:I7):c9o:=o5 (NU a0 a1) λ(x:I7×I7)=>l7 (D9
 (x8 x.2.2 0)) (some x.2.2) (l7 (D9 (V9 (x8 x.1.1 a2.1) (x8 x.1.2 a2.2))) (some 8) (some 0))
def GY(a0:S9)(a1:Int)(a2:Int):c9o:=o5 (F9 a0.2.2 a1) λ(x:A8)=>o5 (F9 x.2.2.2.2 a2) λ(x_1:
 V8)=>o5 (iO x_1.1) λ(x_2:Bool)=>l7 (D9 x_2) (some 2) (o5 (V7 (λ(x_3:I7)=>l7 (E9 x_3.2 a2)
 (o5 (F9 x.2.2.2.2 x_3.2) λ(x_4:V8)=>l7 (seq x_4.1 x_1.1) (some (Out.rt 7)) (o5 (F9 x.2.2.2.2 x_3.2) λ(x:V8)=>l7
 (x8 x.2.1 x_1.2.1) (some (Out.nx (A7 IntKind.i64 x_3.1 1,A7 IntKind.i64 x_3.2 1))) (some (Out.nx (x_3.1,A7 IntKind.i64 x_3.2 1))))) (some
 (Out.ex x_3.1))) (0,0)) λ(o:Int⊕Int)=>X9 o (λ(y:Int)=>o5 (l7 (E9 x_1.2.1 0) (some (Sum.inr 6)) (l7 (N7 (o9 x.2.2.2.1)
 x_1.2.1) (some (Sum.inr 6)) (some (Sum.inl PUnit.unit)))) λ(o:PUnit⊕Int)=>X9 o (λ(x_3:PUnit)=>o5 (l7 (D9 (x8 x_1.2.2.1
 (-1))) (l7 (E9 x_1.2.2.1 0) (some (Sum.inr 9)) (l7 (N7 a2 x_1.2.2.1) (some (Sum.inr 9)) (o5 (F9 x.2.2.2.2 x_1.2.2.1) λ(x:V8)=>
 l7 (D9 (x8 x.2.1 x_1.2.1)) (some (Sum.inr 9)) (some (Sum.inl PUnit.unit))))) (some (Sum.inl PUnit.unit))) λ(o:PUnit⊕Int)=>X9 o (λ
 (x_4:PUnit)=>o5 (l7 (E9 x_1.2.2.2.1 0) (some (Sum.inr 3)) (l7 (E9 9 x_1.2.2.2.1) (some (Sum.inr 3)) (o5 (CZ x_1.2.2.2.2.1)
 λ(x:Bool)=>l7 (D9 x) (some (Sum.inr 3)) (l7 (x8 x_1.2.2.2.2.1.1 x_1.2.2.2.2.1.2) (some (Sum.inr 3)) (some (Sum.inl PUnit.unit))))))
 λ(o:PUnit⊕Int)=>X9 o (λ(x_5:PUnit)=>l7 (N7 8 y) (some 4) (o5 (GX x_1.2.2.2.2.2.2.2) λ(x_6:Bool)=>l7
 (D9 x_6) (some 2) (o5 (GU a0 a1) λ(x_7:J5)=>l7 (E9 0 (o9 x_1.2.2.2.2.2.1)) (o5 (yj
 x_1.2.2.2.2.2.1 x_7 (1,0)) λ(x_8:Int)=>l7 (D9 (x8 x_8 0)) (some x_8) (o5 (F9 x.2.2.2.1 x_1.2.1) λ(x:bH)=>o5
 (yj x_1.2.2.2.2.2.2.1 x_7 x.2) λ(x:Int)=>some x)) (o5 (F9 x.2.2.2.1 x_1.2.1) λ(x:bH)=>o5 (yj
 x_1.2.2.2.2.2.2.1 x_7 x.2) λ(x:Int)=>some x)))) λ(r:Int)=>some r) λ(r:Int)=>some r) λ(r:Int)=>some r) λ(r:Int)=>
 some r)
def Jp(a0:A8)(a1:Int):c9n:=l7 (N7 0 a1) (some (E9 a1 (o9 a0.2.2.2.1))) (some false)
def uX(a0:c9h)(a1:Int):Option c9h:=o5 (ay (λ(x:c9h×Bool×Int)=>l7 (E9 x.2.2 (o9 a0)) (l7
 (D9 x.2.1) (o5 (F9 a0 x.2.2) λ(x_1:Int)=>l7 (N7 a1 x_1) (o5 (F9 a0 x.2.2) λ(x_2:Int)=>l7 (E9 a1 x_2) (o5 (di x.1
 [a1]) λ(x_3:c9h)=>o5 (F9 a0 x.2.2) λ(x_4:Int)=>o5 (di x_3 [x_4]) λ(x_5:c9h)=>some (Sum.inl (x_5,true,A7
 IntKind.i64 x.2.2 1))) (o5 (F9 a0 x.2.2) λ(x_3:Int)=>o5 (di x.1 [x_3]) λ(x_4:c9h)=>some (Sum.inl (x_4,true,A7
 IntKind.i64 x.2.2 1)))) (o5 (F9 a0 x.2.2) λ(x_2:Int)=>o5 (di x.1 [x_2]) λ(x_3:c9h)=>some (Sum.inl (x_3,x.2.1,A7
 IntKind.i64 x.2.2 1)))) (o5 (F9 a0 x.2.2) λ(x_1:Int)=>o5 (di x.1 [x_1]) λ(x_2:c9h)=>some (Sum.inl (x_2,x.2.1,A7
 IntKind.i64 x.2.2 1)))) (some (Sum.inr (x.1,x.2.1)))) ([],false,0)) λ(y:c9h×Bool)=>l7 (D9 y.2) (o5 (di y.1 [a1]) λ(x:
 c9h)=>some x) (some y.1)
def sK(a0:List I7):Option fP:=o5 (ay (λ(x:c9h×c9h×c9h×Int)=>l7 (E9 x.2.2.2
 (o9 a0)) (o5 (F9 a0 x.2.2.2) λ(x_1:I7)=>l7 (x8 x_1.1 7) (o5 (F9 a0 x.2.2.2) λ(x_2:I7)=>o5 (uX x.1
 x_2.2) λ(x_3:c9h)=>l7 (x8 x_1.1 8) (o5 (F9 a0 x.2.2.2) λ(x_4:I7)=>o5 (uX x.2.1 x_4.2) λ(x_5:c9h)
 =>l7 (N7 36 x_1.1) (l7 (N7 x_1.1 39) (o5 (F9 a0 x.2.2.2) λ(x_6:I7)=>o5 (uX x.2.2.1 x_6.2) λ(x_7:c9h)=>
 some (Sum.inl (x_3,x_5,x_7,A7 IntKind.i64 x.2.2.2 1))) (some (Sum.inl (x_3,x_5,x.2.2.1,A7 IntKind.i64 x.2.2.2 1)))) (some (Sum.inl (x_3,
 x_5,x.2.2.1,A7 IntKind.i64 x.2.2.2 1)))) (l7 (N7 36 x_1.1) (l7 (N7 x_1.1 39) (o5 (F9 a0 x.2.2.2) λ(x_4:I7)=>o5
 (uX x.2.2.1 x_4.2) λ(x_5:c9h)=>some (Sum.inl (x_3,x.2.1,x_5,A7 IntKind.i64 x.2.2.2 1))) (some (Sum.inl (x_3,x.2.1,
 x.2.2.1,A7 IntKind.i64 x.2.2.2 1)))) (some (Sum.inl (x_3,x.2.1,x.2.2.1,A7 IntKind.i64 x.2.2.2 1))))) (l7 (x8 x_1.1 8) (o5 (F9 a0
 x.2.2.2) λ(x_2:I7)=>o5 (uX x.2.1 x_2.2) λ(x_3:c9h)=>l7 (N7 36 x_1.1) (l7 (N7 x_1.1 39) (o5 (F9 a0
 x.2.2.2) λ(x_4:I7)=>o5 (uX x.2.2.1 x_4.2) λ(x_5:c9h)=>some (Sum.inl (x.1,x_3,x_5,A7 IntKind.i64 x.2.2.2 1)))
 (some (Sum.inl (x.1,x_3,x.2.2.1,A7 IntKind.i64 x.2.2.2 1)))) (some (Sum.inl (x.1,x_3,x.2.2.1,A7 IntKind.i64 x.2.2.2 1)))) (l7 (N7 36
 x_1.1) (l7 (N7 x_1.1 39) (o5 (F9 a0 x.2.2.2) λ(x_2:I7)=>o5 (uX x.2.2.1 x_2.2) λ(x_3:c9h)=>some (Sum.inl
 (x.1,x.2.1,x_3,A7 IntKind.i64 x.2.2.2 1))) (some (Sum.inl (x.1,x.2.1,x.2.2.1,A7 IntKind.i64 x.2.2.2 1)))) (some (Sum.inl (x.1,x.2.1,
 x.2.2.1,A7 IntKind.i64 x.2.2.2 1)))))) (some (Sum.inr (x.1,x.2.1,x.2.2.1)))) ([],[],[],0)) λ(y:fP)=>some y
def nR(a0:c9h)(a1:Int):Option c9h:=o5 (ay (λ(x:c9h×Bool×Int)=>l7 (E9 x.2.2 (o9 a0)) (l7
 (D9 x.2.1) (o5 (F9 a0 x.2.2) λ(x_1:Int)=>l7 (N7 a1 x_1) (o5 (F9 a0 x.2.2) λ(x_2:Int)=>l7 (E9 a1 x_2) (o5 (di x.1
 [a1]) λ(x_3:c9h)=>o5 (F9 a0 x.2.2) λ(x_4:Int)=>o5 (di x_3 [x_4]) λ(x_5:c9h)=>some (Sum.inl (x_5,true,A7
 IntKind.i64 x.2.2 1))) (o5 (F9 a0 x.2.2) λ(x_3:Int)=>o5 (di x.1 [x_3]) λ(x_4:c9h)=>some (Sum.inl (x_4,true,A7
 IntKind.i64 x.2.2 1)))) (o5 (F9 a0 x.2.2) λ(x_2:Int)=>o5 (di x.1 [x_2]) λ(x_3:c9h)=>some (Sum.inl (x_3,x.2.1,A7
 IntKind.i64 x.2.2 1)))) (o5 (F9 a0 x.2.2) λ(x_1:Int)=>o5 (di x.1 [x_1]) λ(x_2:c9h)=>some (Sum.inl (x_2,x.2.1,A7
 IntKind.i64 x.2.2 1)))) (some (Sum.inr (x.1,x.2.1)))) ([],false,0)) λ(y:c9h×Bool)=>l7 (D9 y.2) (o5 (di y.1 [a1]) λ(x:
 c9h)=>some x) (some y.1)
def Ed(a0:A8)(a1:Int):Option c9h:=o5 (Jp a0 a1) λ(x:Bool)=>l7 (D9 x) (some []) (o5 (ay (λ
 (x:c9h×Int)=>l7 (E9 x.2 (o9 a0.2.2.2.2)) (o5 (F9 a0.2.2.2.2 x.2) λ(x_1:V8)=>l7 (D9 (x8 x_1.2.1 a1)) (some
 (Sum.inl (x.1,A7 IntKind.i64 x.2 1))) (o5 (F9 a0.2.2.2.2 x.2) λ(x_2:V8)=>o5 (sK x_2.2.2.2.2.2.1) λ(x_3:
 fP)=>o5 (F9 a0.2.2.2.2 x.2) λ(x_4:V8)=>o5 (sK x_4.2.2.2.2.2.2.1) λ(x_5:fP)=>o5
 (ay (λ(x:c9h×Int)=>l7 (E9 x.2 (o9 x_3.2.1)) (o5 (F9 x_3.2.1 x.2) λ(x_6:Int)=>o5 (O8 x_3.2.1 (U6 x.2)) λ
 (x_7:Int)=>o5 (Jp a0 x_7) λ(x_8:Bool)=>l7 x_8 (o5 (F9 x_3.2.1 x.2) λ(x_9:Int)=>o5 (O8 x_3.2.1 (U6 x.2)) λ
 (x_10:Int)=>o5 (nR x.1 x_10) λ(x_11:c9h)=>some (Sum.inl (x_11,A7 IntKind.i64 x.2 1))) (some (Sum.inl (x.1,A7
 IntKind.i64 x.2 1)))) (some (Sum.inr x.1))) (x.1,0)) λ(y:c9h)=>o5 (ay (λ(x:c9h×Int)=>l7 (E9 x.2 (o9 x_5.2.1))
 (o5 (F9 x_5.2.1 x.2) λ(x_6:Int)=>o5 (O8 x_5.2.1 (U6 x.2)) λ(x_7:Int)=>o5 (Jp a0 x_7) λ(x_8:Bool)=>l7 x_8
 (o5 (F9 x_5.2.1 x.2) λ(x_9:Int)=>o5 (O8 x_5.2.1 (U6 x.2)) λ(x_10:Int)=>o5 (nR x.1 x_10) λ(x_11:c9h)=>
 some (Sum.inl (x_11,A7 IntKind.i64 x.2 1))) (some (Sum.inl (x.1,A7 IntKind.i64 x.2 1)))) (some (Sum.inr x.1))) (y,0)) λ(y:c9h)=>
 some (Sum.inl (y,A7 IntKind.i64 x.2 1)))) (some (Sum.inr x.1))) ([],0)) λ(y:c9h)=>some y)
def oV(a0:A8)(a1:Int):Option c9h:=o5 (Ed a0 a1) λ(x:c9h)=>o5 (ay (λ(x:c9h
 ×Int)=>l7 (E9 x.2 (o9 a0.2.2.2.1)) (o5 (ay (λ(x_1:c9h×Int)=>l7 (E9 x_1.2 (o9 x.1)) (o5 (F9 x.1 x_1.2) λ(x:
 Int)=>o5 (Ed a0 x) λ(x:c9h)=>o5 (ay (λ(x_2:c9h×Int)=>l7 (E9 x_2.2 (o9 x)) (o5 (F9 x x_2.2)
 λ(x_3:Int)=>o5 (O8 x (U6 x_2.2)) λ(x:Int)=>o5 (nR x_2.1 x) λ(x:c9h)=>some (Sum.inl (x,A7 IntKind.i64
 x_2.2 1))) (some (Sum.inr x_2.1))) (x_1.1,0)) λ(y:c9h)=>some (Sum.inl (y,A7 IntKind.i64 x_1.2 1))) (some (Sum.inr x_1.1))) (x.1,0))
 λ(y:c9h)=>some (Sum.inl (y,A7 IntKind.i64 x.2 1))) (some (Sum.inr x.1))) (x,0)) λ(y:c9h)=>some y
def Fp(a0:S9)(a1:Int):Option F6:=o5 (F9 a0.2.2 a1) λ(x:A8)=>o5 (iO x.1) λ(x_1:
 Bool)=>l7 (D9 x_1) (some (2,3,a1,0)) (o5 (lV a0 3 a1 x.1) λ(x_2:Bool)=>l7 x_2 (some (7,3,a1,0)) (o5 (l7
 (D9 (x8 x.2.1 (-1))) (l7 (E9 x.2.1 0) (some (Sum.inr (6,3,a1,0))) (l7 (N7 a1 x.2.1) (some (Sum.inr (6,3,a1,0))) (o5 (F9 a0.2.2
 x.2.1) λ(x:A8)=>l7 (D9 (x8 x.2.1 (-1))) (some (Sum.inr (6,3,a1,0))) (some (Sum.inl ((0,0,0,0),0,3,a1,0)))))) (some
 (Sum.inl ((0,0,0,0),0,3,a1,0)))) λ(o:F6×F6⊕F6)=>X9 o (λ(x_3:F6×F6)=>l7 (E9
 12 (o9 x.2.2.1)) (some (4,x_3.2.2.1,x_3.2.2.2.1,112)) (l7 (E9 12 (o9 x.2.2.2.1)) (some (4,x_3.2.2.1,x_3.2.2.2.1,212)) (o5
 (Fh a0 a1) λ(x_4:F6)=>l7 (D9 (x8 x_4.1 0)) (some x_4) (o5 (V7 (λ(x_5:F6×Int)=>l7 (E9
 x_5.2 (o9 x.2.2.2.2)) (o5 (GY a0 a1 x_5.2) λ(x:Int)=>l7 (D9 (x8 x 0)) (some (Out.rt (x,3,a1,A7 IntKind.i64 300
 x_5.2))) (some (Out.nx (x_5.1,A7 IntKind.i64 x_5.2 1)))) (some (Out.ex x_5.1))) (x_3.1,0)) λ(o:F6⊕F6)=>X9 o (λ(y:
 F6)=>o5 (V7 (λ(x_5:F6×Int)=>l7 (E9 x_5.2 (o9 x.2.2.2.1)) (o5 (oV x x_5.2) λ(x:c9h)
 =>o5 (V7 (λ(x_6:F6×Int)=>l7 (E9 x_6.2 (o9 x)) (o5 (F9 x x_6.2) λ(x:Int)=>l7 (x8 x x_5.2) (some (Out.rt
 (9,3,a1,A7 IntKind.i64 200 x_5.2))) (some (Out.nx (x_6.1,A7 IntKind.i64 x_6.2 1)))) (some (Out.ex x_6.1))) (x_5.1,0)) λ(o:F6⊕
 F6)=>X9 o (λ(y:F6)=>some (Out.nx (y,A7 IntKind.i64 x_5.2 1))) λ(r:F6)=>some (Out.rt r)) (some (Out.ex
 x_5.1))) (y,0)) λ(o:F6⊕F6)=>X9 o (λ(y:F6)=>some (0,0,0,0)) λ(r:F6)=>some r) λ(r:
 F6)=>some r)))) λ(r:F6)=>some r))
def zG(a0:S9):Option F6:=l7 (E9 8 (o9 a0.1)) (some (4,1,8,0)) (o5 (V7 (λ(x:F6×Int)=>l7
 (E9 x.2 (o9 a0.1)) (o5 (GV a0 x.2) λ(x_1:F6)=>l7 (D9 (x8 x_1.1 0)) (some (Out.rt x_1)) (some (Out.nx (x.1,
 A7 IntKind.i64 x.2 1)))) (some (Out.ex x.1))) ((0,0,0,0),0)) λ(o:F6⊕F6)=>X9 o (λ(y:F6)=>l7 (E9 8
 (o9 a0.2.1)) (some (4,2,8,0)) (o5 (V7 (λ(x:F6×Int)=>l7 (E9 x.2 (o9 a0.2.1)) (o5 (Fq a0 x.2) λ
 (x_1:F6)=>l7 (D9 (x8 x_1.1 0)) (some (Out.rt x_1)) (some (Out.nx (x.1,A7 IntKind.i64 x.2 1)))) (some (Out.ex x.1))) (y,0)) λ
 (o:F6⊕F6)=>X9 o (λ(y:F6)=>l7 (E9 4 (o9 a0.2.2)) (some (4,3,4,0)) (o5 (V7 (λ(x:F6×
 Int)=>l7 (E9 x.2 (o9 a0.2.2)) (o5 (Fp a0 x.2) λ(x_1:F6)=>l7 (D9 (x8 x_1.1 0)) (some (Out.rt x_1)) (some
 (Out.nx (x.1,A7 IntKind.i64 x.2 1)))) (some (Out.ex x.1))) (y,0)) λ(o:F6⊕F6)=>X9 o (λ(y:F6)=>some (0,
 0,0,0)) λ(r:F6)=>some r)) λ(r:F6)=>some r)) λ(r:F6)=>some r)
def Tf(a0:S9):c9n:=o5 (zG a0) λ(x:F6)=>some (x8 x.1 0)
def a0D(a0:D8):Option I7:=some (a0.1,a0.2.1)
def Ee(a0:S9)(a1:List bH)(a2:List D8):Option I7:=l7 (E9 (o9 a2) (o9 a1)) (some (o9 a2,5)) (l7 (E9
 (o9 a1) (o9 a2)) (some (o9 a1,4)) (o5 (V7 (λ(x:Int)=>l7 (E9 x (o9 a2)) (o5 (F9 a2 x) λ(x_1:D8)=>o5
 (a0D x_1) λ(x_2:I7)=>o5 (F9 a1 x) λ(x_3:bH)=>l7 (D9 (V9 (x8 x_2.1 x_3.2.1) (x8 x_2.2 x_3.2.2))) (some
 (Out.rt (x,8))) (o5 (F9 a2 x) λ(x_4:D8)=>o5 (F9 a1 x) λ(x_5:bH)=>o5 (MH x_4.2.2 x_5.2 a0.1) λ(x_6:Bool)
 =>l7 (D9 x_6) (some (Out.rt (x,3))) (some (Out.nx (A7 IntKind.i64 x 1))))) (some (Out.ex PUnit.unit))) 0) λ(o:PUnit⊕I7)=>X9 o
 (λ(y:PUnit)=>some (0,0)) λ(r:I7)=>some r))
def La(a0:S9)(a1:Int):Option I7:=o5 (F9 a0.2.2 a1) λ(x:A8)=>l7 (E9 x.2.1 0) (some (-1,0)) (l7 (N7
 (o9 a0.2.2) x.2.1) (some (-1,0)) (some (x.2.1,8)))
def Jq(a0:S9)(a1:Int)(a2:dI):Option D8:=o5 (l7 (E9 a1 0) (some (Sum.inr (-1,-1,6))) (l7 (N7 (o9
 a0.2.2) a1) (some (Sum.inr (-1,-1,6))) (some (Sum.inl PUnit.unit)))) λ(o:PUnit⊕D8)=>X9 o (λ(x:PUnit)=>o5 (l7 (E9 a2.1
 0) (some (Sum.inr (-1,-1,3))) (l7 (E9 109572 a2.1) (some (Sum.inr (-1,-1,3))) (some (Sum.inl PUnit.unit)))) λ(o:PUnit⊕D8)=>X9
 o (λ(x:PUnit)=>o5 (F9 a0.2.2 a1) λ(x:A8)=>o5 (Ee a0 x.2.2.1 a2.2.1) λ(x:I7)=>l7 (D9 (x8 x.2 0))
 (some (-1,x)) (o5 (La a0 a1) λ(x:I7)=>l7 (E9 x.2 (o9 a2.2.2)) (some (x.2,-1,4)) (o5 (V7 (λ(x_1:Int)=>
 l7 (E9 x_1 (o9 a2.2.2)) (o5 (F9 a0.2.2 x.1) λ(x:A8)=>o5 (F9 a2.2.2 x_1) λ(x_2:List D8)=>o5 (Ee a0
 x.2.2.1 x_2) λ(x:I7)=>l7 (D9 (x8 x.2 0)) (some (Out.rt (x_1,x))) (some (Out.nx (A7 IntKind.i64 x_1 1)))) (some (Out.ex
 PUnit.unit))) 0) λ(o:PUnit⊕D8)=>X9 o (λ(y:PUnit)=>some (0,0,0)) λ(r:D8)=>some r))) λ(r:D8)=>some r) λ
 (r:D8)=>some r
def Js(a0:S9)(a1:Int)(a2:dI)(a3:Int)(a4:Bool):Option F6:=o5 (Tf a0) λ(x:Bool)=>l7
 (D9 x) (some (1,-1,-1,-1)) (o5 (l7 (E9 a1 0) (some (Sum.inr (6,-1,-1,-1))) (l7 (N7 (o9 a0.2.2) a1) (some (Sum.inr (6,-1,-1,
 -1))) (l7 a4 (l7 (E9 a3 0) (some (Sum.inr (6,-1,-1,-1))) (o5 (F9 a0.2.2 a1) λ(x:A8)=>l7 (N7 (o9 x.2.2.2.1) a3) (some
 (Sum.inr (6,-1,-1,-1))) (some (Sum.inl (0,0,0,0))))) (some (Sum.inl (0,0,0,0)))))) λ(o:F6⊕F6)=>X9 o (λ(x:
 F6)=>o5 (Jq a0 a1 a2) λ(x:D8)=>l7 (D9 (x8 x.2.2 0)) (some (x.2.2,x.1,-1,-1)) (some (0,0,0,0))) λ(r
 :F6)=>some r)
def qH(a0:S9)(a1:Int):Option A8:=o5 (F9 a0.2.2 a1) λ(x:A8)=>l7 (E9 x.2.1 0) (some ([],0,[],[],
 [])) (l7 (N7 (o9 a0.2.2) x.2.1) (some ([],0,[],[],[])) (o5 (F9 a0.2.2 x.2.1) λ(x:A8)=>some x))
def OX(a0:S9)(a1:dI)(a2:Int):Option aK:=o5 (F9 a1.2.2 a2) λ(x:List D8)=>some (a1.1,x,[],[],[],
 a0.2.1)
def Fg(a0:c9h)(a1:Int):c9n:=o5 (V7 (λ(x:Int)=>l7 (E9 x (o9 a0)) (o5 (F9 a0 x) λ(x_1:Int)=>
 l7 (x8 x_1 a1) (some (Out.rt true)) (some (Out.nx (A7 IntKind.i64 x 1)))) (some (Out.ex PUnit.unit))) 0) λ(o:PUnit⊕Bool)=>X9 o (λ
 (y:PUnit)=>some false) λ(r:Bool)=>some r
def Gu(a0:A8)(a1:Int)(a2:c9h):c9n:=o5 (Ed a0 a1) λ(x:c9h)=>o5 (V7 (λ(x_1:
 Int)=>l7 (E9 x_1 (o9 x)) (o5 (F9 x x_1) λ(x_2:Int)=>o5 (O8 x (U6 x_1)) λ(x:Int)=>o5 (Fg a2 x) λ(x:
 Bool)=>l7 (D9 x) (some (Out.rt false)) (some (Out.nx (A7 IntKind.i64 x_1 1)))) (some (Out.ex PUnit.unit))) 0) λ(o:PUnit⊕Bool)=>X9
 o (λ(y:PUnit)=>some true) λ(r:Bool)=>some r
def yG(a0:A8):Option (c9h×Int):=o5 (V7 (λ(x:c9h)=>l7 (E9 (o9 x) (o9 a0.2.2.2.1)) (o5
 (ay (λ(x_1:Int)=>l7 (E9 x_1 (o9 a0.2.2.2.1)) (o5 (Fg x x_1) λ(x_2:Bool)=>l7 x_2 (some (Sum.inl (A7 IntKind.i64
 x_1 1))) (o5 (Gu a0 x_1 x) λ(x:Bool)=>l7 (D9 x) (some (Sum.inl (A7 IntKind.i64 x_1 1))) (some (Sum.inr x_1)))) (some
 (Sum.inr x_1))) 0) λ(y:Int)=>l7 (x8 y (o9 a0.2.2.2.1)) (some (Out.rt ([],9))) (o5 (di x [y]) λ(x:c9h)=>some (Out.nx
 x))) (some (Out.ex x))) []) λ(o:c9h⊕c9h×Int)=>X9 o (λ(y:c9h)=>some (y,0)) λ(r:c9h×Int)=>some r
def zC(a0:I7)(a1:Int):c9n:=o5 (CZ a0) λ(x:Bool)=>l7 x (l7 (N7 a0.1 a1) (some (E9 a1 a0.2))
 (some false)) (some false)
def KZ(a0:A8)(a1:Int)(a2:Int):Option c9h:=o5 (ay (λ(x:c9h×Int)=>l7 (E9 x.2 (o9
 a0.2.2.2.2)) (o5 (F9 a0.2.2.2.2 x.2) λ(x_1:V8)=>l7 (x8 x_1.2.1 a1) (o5 (F9 a0.2.2.2.2 x.2) λ(x_2:V8)=>o5
 (zC x_2.2.2.2.2.1 a2) λ(x_3:Bool)=>l7 x_3 (o5 (di x.1 [x.2]) λ(x_4:c9h)=>some (Sum.inl (x_4,A7 IntKind.i64
 x.2 1))) (some (Sum.inl (x.1,A7 IntKind.i64 x.2 1)))) (some (Sum.inl (x.1,A7 IntKind.i64 x.2 1)))) (some (Sum.inr x.1))) ([],0)) λ(y:List
 Int)=>some y
def Kt(a0:c9h)(a1:Int):c9o:=o5 (V7 (λ(x:Int)=>l7 (E9 x (o9 a0)) (o5 (F9 a0 x) λ(x_1:Int)=>
 l7 (x8 x_1 a1) (some (Out.rt x)) (some (Out.nx (A7 IntKind.i64 x 1)))) (some (Out.ex PUnit.unit))) 0) λ(o:PUnit⊕Int)=>X9 o (λ(y:
 PUnit)=>some (-1)) λ(r:Int)=>some r
def Ob(a0:A8)(a1:c9h)(a2:Int):c9o:=o5 (F9 a0.2.2.2.2 a2) λ(x:V8)=>o5 (V7 (λ(x:I7)
 =>l7 (N7 0 x.2) (l7 (E9 x.2 x.1) (o5 (Kt a1 x.2) λ(x_1:Int)=>l7 (N7 0 x_1) (some (Out.rt x_1)) (o5 (F9 a0.2.2.2.2
 x.2) λ(x_2:V8)=>some (Out.nx (x.2,x_2.2.2.1)))) (some (Out.ex PUnit.unit))) (some (Out.ex PUnit.unit))) (a2,x.2.2.1)) λ(o:PUnit⊕
 Int)=>X9 o (λ(y:PUnit)=>some (-1)) λ(r:Int)=>some r
def Oa(a0:A8)(a1:Int)(a2:Int):Option fP:=o5 (KZ a0 a1 a2) λ(x:c9h)=>o5 (ay (λ
 (x_1:c9h×c9h×Int)=>l7 (E9 x_1.2.2 (o9 x)) (o5 (F9 x x_1.2.2) λ(x_2:Int)=>o5 (O8 x (U6 x_1.2.2)) λ(x_3:
 Int)=>o5 (Ob a0 x x_3) λ(x_4:Int)=>o5 (di x_1.1 [x_4]) λ(x_5:c9h)=>o5 (F9 x x_1.2.2) λ(x_6:Int)=>
 o5 (O8 x (U6 x_1.2.2)) λ(x:Int)=>o5 (F9 a0.2.2.2.2 x) λ(x:V8)=>o5 (di x_1.2.1 [x.2.2.2.1]) λ(x:c9h)=>some
 (Sum.inl (x_5,x,A7 IntKind.i64 x_1.2.2 1))) (some (Sum.inr (x_1.1,x_1.2.1)))) ([],[],0)) λ(y:c9h×c9h)=>some (x,y)
def VA(a0:List I7):Option (c9h×Int):=o5 (yh a0) λ(x:c9h×I7)=>some (x.1,x.2.2)
def Ea(a0:List I7)(a1:Int):Option c9h:=o5 (yh a0) λ(x:c9h×I7)=>o5 (l7 (D9
 (x8 x.2.2 0)) (some (Sum.inr [])) (l7 (E9 a1 0) (some (Sum.inr [])) (l7 (N7 (o9 a0) a1) (some (Sum.inr [])) (some (Sum.inl PUnit.unit)))))
 λ(o:PUnit⊕c9h)=>X9 o (λ(x_1:PUnit)=>o5 (F9 a0 a1) λ(x_2:I7)=>o5 (kC x_2.1) λ(x_3:Int)=>o5
 (qU x_3 0) λ(x_4:c9h)=>o5 (ay (λ(x_5:c9h×I7)=>l7 (N7 0 x_5.2.2) (o5 (F9 x_5.1 x_5.2.2) λ(x_6:Int)
 =>o5 (O8 x_5.1 (U6 x_5.2.2)) λ(x_7:Int)=>o5 (F9 x.1 x_5.2.1) λ(x_8:Int)=>o5 (O8 x.1 (U6 x_5.2.1)) λ(x:Int)=>
 some (Sum.inl (bu x_5.1 (U6 x_5.2.2) x_5.2.1,J3 IntKind.i64 x 1,J3 IntKind.i64 x_5.2.2 1))) (some (Sum.inr x_5.1))) (x_4,J3 IntKind.i64
 a1 1,J3 IntKind.i64 x_3 1)) λ(y:c9h)=>some y) λ(r:c9h)=>some r
def Ec(a0:Int):Option I7:=l7 (x8 a0 1) (some (0,1)) (l7 (x8 a0 2) (some (-1000000000000,1000000000000)) (l7 (x8 a0
 3) (some (-1000000000000000,1000000000000000)) (l7 (x8 a0 4) (some (-1000000000,1000000000)) (l7 (x8 a0 5) (some (0,109572)) (l7 (x8
 a0 6) (some (0,15)) (some (0,-1)))))))
def jc(a0:D8):c9n:=o5 (Ec a0.1) λ(x:I7)=>l7 (E9 a0.2.2 x.1) (some false) (l7 (E9 x.2
 a0.2.2) (some false) (l7 (x8 a0.1 6) (l7 (N7 0 a0.2.1) (some (E9 a0.2.1 8)) (some false)) (some (x8 a0.2.1 0))))
def yA(a0:Int):c9n:=o5 (l7 (N7 1 a0) (l7 (N7 a0 8) (some (Sum.inr true)) (l7 (N7 36 a0) (l7 (N7 a0 39)
 (some (Sum.inr true)) (some (Sum.inl PUnit.unit))) (some (Sum.inl PUnit.unit)))) (l7 (N7 36 a0) (l7 (N7 a0 39) (some (Sum.inr true)) (some
 (Sum.inl PUnit.unit))) (some (Sum.inl PUnit.unit)))) λ(o:PUnit⊕Bool)=>X9 o (λ(x:PUnit)=>l7 (x8 a0 14) (some true) (l7 (x8
 a0 15) (some true) (l7 (x8 a0 16) (some true) (l7 (x8 a0 33) (some true) (some (x8 a0 34)))))) λ(r:Bool)=>some r
def Io(a0:I7)(a1:Int):c9n:=o5 (o5 (kC a0.1) λ(x:Int)=>l7 (D9 (x8 x a1)) (some (Sum.inr
 false)) (l7 (D9 (x8 a0.2 0)) (o5 (yA a0.1) λ(x:Bool)=>l7 (D9 x) (some (Sum.inr false)) (some (Sum.inl PUnit.unit)))
 (some (Sum.inl PUnit.unit)))) λ(o:PUnit⊕Bool)=>X9 o (λ(x:PUnit)=>o5 (l7 (x8 a0.1 14) (some (x8 a0.1 14)) (l7 (x8 a0.1
 15) (some (x8 a0.1 15)) (some (x8 a0.1 16)))) λ(x:Bool)=>l7 x (l7 (N7 0 a0.2) (some (N7 a0.2 5)) (some false)) (l7 (x8 a0.1 34)
 (l7 (N7 0 a0.2) (some (N7 (eF a0.2 8) 5)) (some false)) (l7 (x8 a0.1 6) (some (N7 0 a0.2)) (some true)))) λ(r:Bool)=>some r
def xq(a0:I7)(a1:aK):c9n:=l7 (x8 a0.1 7) (l7 (N7 0 a0.2) (some (E9 a0.2 (o9 a1.2.1))) (some false)) (l7
 (x8 a0.1 8) (l7 (N7 0 a0.2) (l7 (E9 a0.2 (o9 a1.2.2.1)) (o5 (F9 a1.2.2.1 a0.2) λ(x:D8)=>some (D9 (x8 x.1 0))) (some
 false)) (some false)) (l7 (x8 a0.1 33) (l7 (N7 0 a0.2) (some (E9 a0.2 (o9 a1.2.2.2.2.2))) (some false)) (l7 (x8 a0.1 34) (some (E9
 (dV IntKind.i64 a0.2 8) (o9 a1.2.2.2.2.2))) (o5 (l7 (x8 a0.1 36) (some (x8 a0.1 36)) (l7 (x8 a0.1 37) (some (x8 a0.1 37)) (l7
 (x8 a0.1 38) (some (x8 a0.1 38)) (some (x8 a0.1 39))))) λ(x:Bool)=>l7 x (l7 (N7 0 a0.2) (some (E9 a0.2 (o9 a1.2.2.2.2.1))) (some
 false)) (some true)))))
def KY(a0:Int)(a1:I7):c9n:=l7 (D9 (x8 a1.2 0)) (some false) (l7 (x8 a0 36) (l7 (x8 a1.1 2) (some true)
 (some (x8 a1.1 3))) (l7 (x8 a0 39) (l7 (N7 2 a1.1) (some (N7 a1.1 5)) (some false)) (some (x8 a1.1 1))))
def Xh(a0:D8)(a1:I7):c9n:=o5 (jc a0) λ(x:Bool)=>l7 x (l7 (x8 a0.1 a1.1) (some (x8
 a0.2.1 a1.2)) (some false)) (some false)
def Uc(a0:Int)(a1:Int)(a2:Int)(a3:Bool):c9o:=l7 (x8 a0 36) (some (A7 IntKind.i64 a1 a2)) (l7 (x8 a0 37) (some
 (aA IntKind.i64 a1 a2)) (l7 (x8 a0 38) (l7 (E9 a1 a2) (some a2) (some a1)) (l7 a3 (some a2) (l7 (E9 a1 a2) (some a2) (some a1)))))
def cu(a0:Int)(a1:Int):Option (D8×Int):=o5 (jc (a0,0,a1)) λ(x:Bool)=>l7 (D9 x) (some ((0,0,0),
 3)) (some ((a0,0,a1),0))
def pO(a0:I7)(a1:aK):Option (D8×Int):=o5 (F9 a1.2.2.2.2.1 a0.2) λ(x:I7)=>o5 (KY a0.1 x)
 λ(x_1:Bool)=>l7 (D9 x_1) (some ((0,0,0),8)) (o5 (l7 (x8 a0.1 37) (some 1) (some 0)) λ(x_2:Int)=>o5 (V7 (λ(x_3:
 D8×I7)=>l7 (E9 x_3.2.2 (o9 a1.2.2.2.1)) (o5 (F9 a1.2.2.2.1 x_3.2.2) λ(x_4:List D8)=>o5 (l7 (N7 (o9 x_4)
 a0.2) (some (Sum.inr ((0,0,0),6))) (o5 (F9 x_4 a0.2) λ(x:D8)=>l7 (x8 x.1 0) (some (Sum.inr ((0,0,0),6))) (some (Sum.inl
 x_3.1)))) λ(o:D8⊕D8×Int)=>X9 o (λ(x_5:D8)=>o5 (F9 x_4 a0.2) λ(x_6:D8)=>o5 (Xh x_6 x) λ
 (x_7:Bool)=>l7 (D9 x_7) (some (Out.rt ((0,0,0),8))) (o5 (F9 x_4 a0.2) λ(x_8:D8)=>o5 (Uc a0.1 x_3.2.1 x_8.2.2
 (x8 x_3.2.2 0)) λ(x_9:Int)=>o5 (cu x.1 x_9) λ(x:D8×Int)=>l7 (D9 (x8 x.2 0)) (some (Out.rt ((0,0,0),x.2)))
 (some (Out.nx (x_5,x_9,A7 IntKind.i64 x_3.2.2 1))))) λ(r:D8×Int)=>some (Out.rt r)) (some (Out.ex (x_3.1,x_3.2.1)))) ((0,0,0),
 x_2,0)) λ(o:D8×Int⊕D8×Int)=>X9 o (λ(y:D8×Int)=>l7 (x8 a0.1 39) (l7 (x8 (o9 a1.2.2.2.1) 0) (some ((0,
 0,0),6)) (o5 (cu x.1 y.2) λ(x:D8×Int)=>some x)) (o5 (cu x.1 y.2) λ(x:D8×Int)=>some x)) λ(r:
 D8×Int)=>some r)
def dn(a0:I7)(a1:aK):Option (D8×Int):=l7 (x8 a0.1 7) (o5 (F9 a1.2.1 a0.2) λ(x:D8)=>o5
 (jc x) λ(x:Bool)=>l7 (D9 x) (some ((0,0,0),8)) (o5 (F9 a1.2.1 a0.2) λ(x:D8)=>some (x,0))) (l7 (x8
 a0.1 8) (o5 (F9 a1.2.2.1 a0.2) λ(x:D8)=>o5 (jc x) λ(x:Bool)=>l7 (D9 x) (some ((0,0,0),8)) (o5 (F9
 a1.2.2.1 a0.2) λ(x:D8)=>some (x,0))) (l7 (x8 a0.1 9) (o5 (cu 5 a1.1) λ(x:D8×Int)=>some x) (l7 (x8 a0.1
 35) (o5 (cu 2 (o9 a1.2.2.2.1)) λ(x:D8×Int)=>some x) (l7 (x8 a0.1 6) (o5 (jc (6,dV IntKind.i64 a0.2
 16,eF a0.2 16)) λ(x:Bool)=>l7 (D9 x) (some ((0,0,0),3)) (some ((6,dV IntKind.i64 a0.2 16,eF a0.2 16),0))) (o5 (cu
 a0.1 a0.2) λ(x:D8×Int)=>some x)))))
def Aq(a0:Int):c9n:=l7 (x8 a0 2) (some true) (l7 (x8 a0 3) (some true) (some (x8 a0 4)))
def uY(a0:Bool):Option (D8×Int):=l7 a0 (some ((1,0,1),0)) (some ((1,0,0),0))
def zy(a0:Int):c9n:=l7 (N7 0 a0) (some (N7 a0 109572)) (some false)
def NT(a0:Int):c9n:=l7 (x8 (eF a0 4) 0) (l7 (D9 (x8 (eF a0 100) 0)) (some true) (some (x8 (eF a0 400) 0)))
 (some false)
def mV(a0:Int):c9o:=o5 (NT a0) λ(x:Bool)=>l7 x (some 366) (some 365)
def jq(a0:Int)(a1:Int):c9o:=l7 (x8 a1 2) (o5 (NT a0) λ(x:Bool)=>l7 x (some 29) (some 28))
 (o5 (l7 (x8 a1 4) (some (x8 a1 4)) (l7 (x8 a1 6) (some (x8 a1 6)) (l7 (x8 a1 9) (some (x8 a1 9)) (some (x8 a1 11))))) λ(x:
 Bool)=>l7 x (some 30) (l7 (x8 a1 1) (l7 (x8 a1 1) (some 31) (some 0)) (l7 (x8 a1 3) (l7 (x8 a1 3) (some 31) (some 0)) (l7
 (x8 a1 5) (l7 (x8 a1 5) (some 31) (some 0)) (l7 (x8 a1 7) (l7 (x8 a1 7) (some 31) (some 0)) (l7 (x8 a1 8) (l7 (x8 a1 8) (some
 31) (some 0)) (l7 (x8 a1 10) (l7 (x8 a1 10) (some 31) (some 0)) (l7 (x8 a1 12) (some 31) (some 0)))))))))
def Gs(a0:Int):Option D8:=o5 (zy a0) λ(x:Bool)=>l7 (D9 x) (some (0,0,0)) (o5 (ay (λ(x:I7)
 =>o5 (mV x.2) λ(x_1:Int)=>l7 (N7 x_1 x.1) (o5 (mV x.2) λ(x_2:Int)=>some (Sum.inl (J3
 IntKind.i64 x.1 x_2,A7 IntKind.i64 x.2 1))) (some (Sum.inr x))) (a0,1900)) λ(y:I7)=>o5 (ay (λ(x:I7)=>o5
 (jq y.2 x.2) λ(x_1:Int)=>l7 (N7 x_1 x.1) (o5 (jq y.2 x.2) λ(x_2:Int)=>some (Sum.inl (J3
 IntKind.i64 x.1 x_2,A7 IntKind.i64 x.2 1))) (some (Sum.inr x))) (y.1,1)) λ(y_1:I7)=>some (y.2,y_1.2,A7 IntKind.i64 y_1.1 1))
def Td(a0:rF)(a1:Int)(a2:Int):c9n:=o5 (zC a0.1 a1) λ(x:Bool)=>l7 x (l7 (N7 a0.2.1 a2)
 (some (E9 a2 a0.2.2.1)) (some false)) (some false)
def NV(a0:bn)(a1:Int)(a2:Int):Option (Int×Bool):=o5 (V7 (λ(x:Int)=>l7 (E9 x (o9 a0.2.2.2)) (o5 (F9
 a0.2.2.2 x) λ(x_1:rF)=>o5 (Td x_1 a1 a2) λ(x_2:Bool)=>l7 x_2 (some (Out.rt (x,true))) (some (Out.nx (A7
 IntKind.i64 x 1)))) (some (Out.ex PUnit.unit))) 0) λ(o:PUnit⊕Int×Bool)=>X9 o (λ(y:PUnit)=>some (0,false)) λ(r:Int×Bool)
 =>some r
def NY(a0:bn)(a1:Int)(a2:D8):Option (D8×Int):=o5 (l7 (D9 (x8 a2.1 a0.2.1.1)) (some (Sum.inr ((0,0,0),
 8))) (l7 (D9 (x8 a2.2.1 a0.2.1.2)) (some (Sum.inr ((0,0,0),8))) (l7 (E9 a0.2.2.1.1 1) (some (Sum.inr ((0,0,0),8))) (l7 (E9 6
 a0.2.2.1.1) (some (Sum.inr ((0,0,0),8))) (some (Sum.inl (0,0,0))))))) λ(o:D8⊕D8×Int)=>X9 o (λ(x:D8)=>o5
 (NV a0 a1 a2.2.2) λ(x:Int×Bool)=>l7 (D9 x.2) (some ((0,0,0),6)) (o5 (F9 a0.2.2.2 x.1) λ(x:rF)=>o5
 (jc (a0.2.2.1.1,a0.2.2.1.2,x.2.2.2)) λ(x_1:Bool)=>l7 (D9 x_1) (some ((0,0,0),3)) (some ((a0.2.2.1.1,a0.2.2.1.2,
 x.2.2.2),0)))) λ(r:D8×Int)=>some r
def Jk(a0:Int):c9n:=l7 (N7 0 a0) (some (N7 a0 5)) (some false)
def kL(a0:Int)(a1:Int):c9n:=l7 (E9 a1 a0) (some true) (some (E9 a0 (J3 IntKind.i64 0 a1)))
def Ce(a0:Int)(a1:Int):Option (Int×Int×Bool):=o5 (l7 (E9 a1 0) (some (A7 IntKind.u64 (wrap IntKind.u64 (J3
 IntKind.i64 0 (A7 IntKind.i64 a1 1))) 1)) (some (wrap IntKind.u64 a1))) λ(x:Int)=>l7 (E9 0 (wrap IntKind.i64 (dV IntKind.u64 x
 1000000))) (o5 (qZ IntKind.i64 1000000000000000 (wrap IntKind.i64 (dV IntKind.u64 x 1000000))) λ(x_1:Int)=>l7 (E9 x_1 a0) (some
 (0,0,false)) (l7 (E9 1000000000000000 (A7 IntKind.i64 (A7 IntKind.i64 (aA IntKind.i64 a0 (wrap IntKind.i64 (dV IntKind.u64 x 1000000)))
 (aA IntKind.i64 (dV IntKind.i64 a0 1000000) (wrap IntKind.i64 (eF x 1000000)))) (dV IntKind.i64 (aA IntKind.i64 (eF a0 1000000) (wrap
 IntKind.i64 (eF x 1000000))) 1000000))) (some (0,0,false)) (l7 (E9 a1 0) (some (J3 IntKind.i64 0 (A7 IntKind.i64 (A7 IntKind.i64 (aA
 IntKind.i64 a0 (wrap IntKind.i64 (dV IntKind.u64 x 1000000))) (aA IntKind.i64 (dV IntKind.i64 a0 1000000) (wrap IntKind.i64 (eF x 1000000))))
 (dV IntKind.i64 (aA IntKind.i64 (eF a0 1000000) (wrap IntKind.i64 (eF x 1000000))) 1000000)),J3 IntKind.i64 0 (eF (aA IntKind.i64
 (eF a0 1000000) (wrap IntKind.i64 (eF x 1000000))) 1000000),true)) (some (A7 IntKind.i64 (A7 IntKind.i64 (aA IntKind.i64 a0 (wrap
 IntKind.i64 (dV IntKind.u64 x 1000000))) (aA IntKind.i64 (dV IntKind.i64 a0 1000000) (wrap IntKind.i64 (eF x 1000000)))) (dV IntKind.i64
 (aA IntKind.i64 (eF a0 1000000) (wrap IntKind.i64 (eF x 1000000))) 1000000),eF (aA IntKind.i64 (eF a0 1000000) (wrap IntKind.i64 (eF x
 1000000))) 1000000,true))))) (l7 (E9 1000000000000000 (A7 IntKind.i64 (A7 IntKind.i64 (aA IntKind.i64 a0 (wrap IntKind.i64 (dV
 IntKind.u64 x 1000000))) (aA IntKind.i64 (dV IntKind.i64 a0 1000000) (wrap IntKind.i64 (eF x 1000000)))) (dV IntKind.i64 (aA IntKind.i64
 (eF a0 1000000) (wrap IntKind.i64 (eF x 1000000))) 1000000))) (some (0,0,false)) (l7 (E9 a1 0) (some (J3 IntKind.i64 0 (A7 IntKind.i64
 (A7 IntKind.i64 (aA IntKind.i64 a0 (wrap IntKind.i64 (dV IntKind.u64 x 1000000))) (aA IntKind.i64 (dV IntKind.i64 a0 1000000) (wrap
 IntKind.i64 (eF x 1000000)))) (dV IntKind.i64 (aA IntKind.i64 (eF a0 1000000) (wrap IntKind.i64 (eF x 1000000))) 1000000)),J3
 IntKind.i64 0 (eF (aA IntKind.i64 (eF a0 1000000) (wrap IntKind.i64 (eF x 1000000))) 1000000),true)) (some (A7 IntKind.i64 (A7
 IntKind.i64 (aA IntKind.i64 a0 (wrap IntKind.i64 (dV IntKind.u64 x 1000000))) (aA IntKind.i64 (dV IntKind.i64 a0 1000000) (wrap IntKind.i64
 (eF x 1000000)))) (dV IntKind.i64 (aA IntKind.i64 (eF a0 1000000) (wrap IntKind.i64 (eF x 1000000))) 1000000),eF (aA IntKind.i64 (eF
 a0 1000000) (wrap IntKind.i64 (eF x 1000000))) 1000000,true))))
def pK(a0:Int)(a1:Int)(a2:Int)(a3:Bool)(a4:Int):c9o:=o5 (l7 (x8 a4 0) (l7 a3 (some (E9 0 a1)) (some
 false)) (l7 (x8 a4 1) (l7 (D9 a3) (some (E9 0 a1)) (some false)) (l7 (x8 a4 3) (some (E9 0 a1)) (l7 (x8 a4 4) (some (N7 (J3
 IntKind.i64 a2 a1) a1)) (l7 (x8 a4 5) (l7 (E9 (J3 IntKind.i64 a2 a1) a1) (some true) (l7 (x8 a1 (J3 IntKind.i64 a2 a1)) (some (x8
 (eF a0 2) 1)) (some false))) (some false)))))) λ(x:Bool)=>l7 x (l7 a3 (some (J3 IntKind.i64 0 (A7 IntKind.i64 a0 1))) (some (A7
 IntKind.i64 a0 1))) (l7 a3 (some (J3 IntKind.i64 0 a0)) (some a0))
def KX(a0:Int)(a1:Int)(a2:Int):c9o:=o5 (ay (λ(x:I7)=>l7 (E9 x.2 0) (some (Sum.inl (J3 IntKind.i64
 x.1 1,A7 IntKind.i64 x.2 1000000))) (some (Sum.inr x))) (a0,a1)) λ(y:I7)=>o5 (ay (λ(x:I7)=>l7 (N7 1000000 x.2)
 (some (Sum.inl (A7 IntKind.i64 x.1 1,J3 IntKind.i64 x.2 1000000))) (some (Sum.inr x))) y) λ(y:I7)=>l7 (N7 0 y.1) (o5
 (pK y.1 y.2 1000000 false a2) λ(x:Int)=>some x) (l7 (x8 y.2 0) (some y.1) (o5 (pK (J3 IntKind.i64 (J3
 IntKind.i64 0 y.1) 1) (J3 IntKind.i64 1000000 y.2) 1000000 true a2) λ(x:Int)=>some x))
def Jl(a0:bn)(a1:Int)(a2:Int)(a3:Int):Option I7:=o5 (Jk a3) λ(x:Bool)=>l7 (D9 x) (some (0,
 1)) (o5 (l7 (D9 (V9 (x8 a0.2.1.1 3) (x8 a0.2.1.2 0))) (some (Sum.inr (0,8))) (l7 (D9 (V9 (x8 a0.2.2.1.1 4) (x8 a0.2.2.1.2 0)))
 (some (Sum.inr (0,8))) (some (Sum.inl PUnit.unit)))) λ(o:PUnit⊕I7)=>X9 o (λ(x:PUnit)=>o5 (kL a2 1000000000000000)
 λ(x:Bool)=>l7 x (some (0,3)) (o5 (V7 (λ(x:D8)=>l7 (E9 x.2.2 (o9 a0.2.2.2)) (o5 (F9 a0.2.2.2 x.2.2) λ(x_1:
 rF)=>o5 (F9 a0.2.2.2 x.2.2) λ(x_2:rF)=>l7 (N7 (qR x_2.2.2.1 a2) (oD x_1.2.1 0)) (some (Out.nx (x.1,x.2.1,A7 IntKind.i64
 x.2.2 1))) (o5 (F9 a0.2.2.2 x.2.2) λ(x_3:rF)=>o5 (zC x_3.1 a1) λ(x_4:Bool)=>l7 (D9 x_4) (some (Out.nx (x.1,
 x.2.1,A7 IntKind.i64 x.2.2 1))) (o5 (F9 a0.2.2.2 x.2.2) λ(x_5:rF)=>o5 (Ce (J3 IntKind.i64 (qR x_2.2.2.1 a2)
 (oD x_1.2.1 0)) x_5.2.2.2) λ(x_6:Int×Int×Bool)=>l7 (D9 x_6.2.2) (some (Out.rt (0,3))) (some (Out.nx (A7 IntKind.i64 x.1 x_6.1,
 A7 IntKind.i64 x.2.1 x_6.2.1,A7 IntKind.i64 x.2.2 1)))))) (some (Out.ex (x.1,x.2.1)))) (0,0,0)) λ(o:I7⊕I7)=>X9 o (λ(y:
 I7)=>o5 (KX y.1 y.2 a3) λ(x:Int)=>o5 (kL x 1000000000000000) λ(x_1:Bool)=>l7 x_1 (some (0,3)) (some
 (x,0))) λ(r:I7)=>some r)) λ(r:I7)=>some r)
def tX(a0:Int)(a1:Int)(a2:Int):Option (D8×Int):=l7 (D9 (x8 a2 0)) (some ((0,0,0),a2)) (o5 (cu a0 a1)
 λ(x:D8×Int)=>some x)
def iZ(a0:I7)(a1:D8)(a2:aK):Option (D8×Int):=o5 (l7 (x8 a0.1 10) (o5 (Aq a1.1) λ(x:
 Bool)=>l7 (D9 x) (some (Sum.inr ((0,0,0),8))) (o5 (cu a1.1 (J3 IntKind.i64 0 a1.2.2)) λ(x:D8×Int)=>some (Sum.inr
 x))) (l7 (x8 a0.1 25) (l7 (D9 (x8 a1.1 1)) (some (Sum.inr ((0,0,0),8))) (o5 (uY (x8 a1.2.2 0)) λ(x:D8×Int)=>
 some (Sum.inr x))) (o5 (l7 (x8 a0.1 31) (some (x8 a0.1 31)) (some (x8 a0.1 32))) λ(x:Bool)=>l7 x (l7 (D9 (x8 a1.1 5)) (some
 (Sum.inr ((0,0,0),8))) (o5 (Gs a1.2.2) λ(x:D8)=>l7 (x8 a0.1 31) (o5 (cu 2 x.1) λ(x:D8×Int)=>
 some (Sum.inr x)) (o5 (cu 2 x.2.1) λ(x:D8×Int)=>some (Sum.inr x)))) (l7 (x8 a0.1 33) (o5 (F9 a2.2.2.2.2.2 a0.2) λ
 (x:bn)=>o5 (NY x a2.1 a1) λ(x:D8×Int)=>some (Sum.inr x)) (some (Sum.inl (0,0,0))))))) λ(o:D8⊕D8×
 Int)=>X9 o (λ(x:D8)=>o5 (F9 a2.2.2.2.2.2 (dV IntKind.i64 a0.2 8)) λ(x_1:bn)=>o5 (l7 (D9 (x8 a1.1 3)) (some
 (Sum.inr ((0,0,0),8))) (l7 (D9 (x8 x_1.2.1.1 3)) (some (Sum.inr ((0,0,0),8))) (l7 (D9 (x8 x_1.2.1.2 0)) (some (Sum.inr ((0,0,0),
 8))) (l7 (D9 (x8 x_1.2.2.1.1 4)) (some (Sum.inr ((0,0,0),8))) (l7 (D9 (x8 x_1.2.2.1.2 0)) (some (Sum.inr ((0,0,0),8))) (some
 (Sum.inl x))))))) λ(o:D8⊕D8×Int)=>X9 o (λ(x:D8)=>o5 (Jl x_1 a2.1 a1.2.2 (eF a0.2 8)) λ(x:I7)
 =>o5 (tX 3 x.1 x.2) λ(x:D8×Int)=>some x) λ(r:D8×Int)=>some r) λ(r:D8×Int)=>some r
def vS(a0:Int)(a1:Int)(a2:Int):Option (D8×Int):=o5 (Ec a0) λ(x:I7)=>l7 (E9 a1 0) (l7 (E9
 a2 0) (l7 (D9 (x8 (J3 IntKind.i64 0 a2) 0)) (o5 (qZ IntKind.i64 x.2 (J3 IntKind.i64 0 a2)) λ(x:Int)=>l7 (E9 x (J3
 IntKind.i64 0 a1)) (some ((0,0,0),3)) (o5 (cu a0 (aA IntKind.i64 a1 a2)) λ(x:D8×Int)=>some x)) (o5 (cu a0
 (aA IntKind.i64 a1 a2)) λ(x:D8×Int)=>some x)) (l7 (D9 (x8 a2 0)) (o5 (qZ IntKind.i64 x.2 a2) λ(x:Int)=>l7 (E9 x
 (J3 IntKind.i64 0 a1)) (some ((0,0,0),3)) (o5 (cu a0 (aA IntKind.i64 a1 a2)) λ(x:D8×Int)=>some x)) (o5 (cu
 a0 (aA IntKind.i64 a1 a2)) λ(x:D8×Int)=>some x))) (l7 (E9 a2 0) (l7 (D9 (x8 (J3 IntKind.i64 0 a2) 0)) (o5 (qZ
 IntKind.i64 x.2 (J3 IntKind.i64 0 a2)) λ(x:Int)=>l7 (E9 x a1) (some ((0,0,0),3)) (o5 (cu a0 (aA IntKind.i64 a1 a2)) λ
 (x:D8×Int)=>some x)) (o5 (cu a0 (aA IntKind.i64 a1 a2)) λ(x:D8×Int)=>some x)) (l7 (D9 (x8 a2 0)) (o5
 (qZ IntKind.i64 x.2 a2) λ(x:Int)=>l7 (E9 x a1) (some ((0,0,0),3)) (o5 (cu a0 (aA IntKind.i64 a1 a2)) λ(x:D8×
 Int)=>some x)) (o5 (cu a0 (aA IntKind.i64 a1 a2)) λ(x:D8×Int)=>some x)))
def CX(a0:Int):c9o:=l7 (E9 a0 0) (some (J3 IntKind.i64 0 a0)) (some a0)
def NS(a0:Int)(a1:Int)(a2:Int)(a3:Int):Option I7:=o5 (Jk a3) λ(x:Bool)=>l7 (D9 x) (some (0,1))
 (l7 (x8 a2 0) (some (0,12)) (o5 (o5 (kL a0 1000000000000000) λ(x:Bool)=>l7 x (some (Sum.inr (0,3))) (o5
 (kL a1 1000000000) λ(x:Bool)=>l7 x (some (Sum.inr (0,3))) (o5 (kL a2 1000000000) λ(x:Bool)=>l7 x (some
 (Sum.inr (0,3))) (some (Sum.inl PUnit.unit))))) λ(o:PUnit⊕I7)=>X9 o (λ(x:PUnit)=>o5 (CX a0) λ(x:Int)=>o5
 (CX a1) λ(x_1:Int)=>o5 (CX a2) λ(x_2:Int)=>l7 (E9 0 x_1) (o5 (qZ IntKind.i64 x x_2) λ(x_3:Int)=>o5
 (qZ IntKind.i64 1000000000000000 x_1) λ(x_4:Int)=>l7 (E9 x_4 x_3) (some (0,3)) (o5 (AL x x_2) λ(x_5:Int)=>o5 (qZ
 IntKind.i64 x x_2) λ(x:Int)=>o5 (qZ IntKind.i64 (aA IntKind.i64 x_5 x_1) x_2) λ(x_6:Int)=>o5 (AL (aA IntKind.i64 x_5
 x_1) x_2) λ(x_7:Int)=>o5 (pK (A7 IntKind.i64 (aA IntKind.i64 x x_1) x_6) x_7 x_2 (D9 (jT (D9 (jT (E9 a0 0) (E9 a1
 0))) (E9 a2 0))) a3) λ(x:Int)=>o5 (kL x 1000000000000000) λ(x_8:Bool)=>l7 x_8 (some (0,3)) (some (x,0)))) (o5
 (AL x x_2) λ(x_3:Int)=>o5 (qZ IntKind.i64 x x_2) λ(x:Int)=>o5 (qZ IntKind.i64 (aA IntKind.i64 x_3 x_1) x_2) λ(x_4:
 Int)=>o5 (AL (aA IntKind.i64 x_3 x_1) x_2) λ(x_5:Int)=>o5 (pK (A7 IntKind.i64 (aA IntKind.i64 x x_1) x_4) x_5 x_2
 (D9 (jT (D9 (jT (E9 a0 0) (E9 a1 0))) (E9 a2 0))) a3) λ(x:Int)=>o5 (kL x 1000000000000000) λ(x_6:Bool)=>l7
 x_6 (some (0,3)) (some (x,0)))) λ(r:I7)=>some r))
def Kr(a0:Int)(a1:Int)(a2:Int):Option I7:=o5 (NS a0 a1 1000000 a2) λ(x:I7)=>some x
def lT(a0:Int)(a1:Int):c9n:=l7 (E9 a1 a0) (some true) (some (E9 a0 (J3 IntKind.i64 0 a1)))
def CY(a0:Int)(a1:Int):Option I7:=o5 (qZ IntKind.i64 a0 a1) λ(x:Int)=>o5 (AL a0 a1) λ(x_1:Int)=>l7
 (E9 x_1 0) (some (J3 IntKind.i64 x 1,A7 IntKind.i64 x_1 a1)) (some (x,x_1))
def fE(a0:Int)(a1:Int)(a2:Int)(a3:Int):c9o:=l7 (x8 a1 0) (some a0) (o5 (l7 (x8 a3 1) (some true) (l7
 (x8 a3 2) (l7 (E9 a0 0) (some true) (l7 (x8 a3 3) (some (N7 0 a0)) (some false))) (l7 (x8 a3 3) (some (N7 0 a0)) (some false)))) λ
 (x:Bool)=>l7 (x8 a3 4) (l7 (x8 a1 (J3 IntKind.i64 a2 a1)) (l7 (x8 a3 4) (l7 (N7 0 a0) (some (A7 IntKind.i64 a0 1)) (l7
 (x8 a3 5) (l7 (D9 (x8 (eF a0 2) 0)) (some (A7 IntKind.i64 a0 1)) (some a0)) (some a0))) (l7 (x8 a3 5) (l7 (D9 (x8 (eF a0 2)
 0)) (some (A7 IntKind.i64 a0 1)) (some a0)) (some a0))) (l7 (E9 (J3 IntKind.i64 a2 a1) a1) (some (A7 IntKind.i64 a0 1)) (some a0))) (l7
 (x8 a3 5) (l7 (x8 a1 (J3 IntKind.i64 a2 a1)) (l7 (x8 a3 4) (l7 (N7 0 a0) (some (A7 IntKind.i64 a0 1)) (l7 (x8 a3 5) (l7 (D9
 (x8 (eF a0 2) 0)) (some (A7 IntKind.i64 a0 1)) (some a0)) (some a0))) (l7 (x8 a3 5) (l7 (D9 (x8 (eF a0 2) 0)) (some (A7
 IntKind.i64 a0 1)) (some a0)) (some a0))) (l7 (E9 (J3 IntKind.i64 a2 a1) a1) (some (A7 IntKind.i64 a0 1)) (some a0))) (l7 x (some (A7
 IntKind.i64 a0 1)) (some a0))))
def RJ(a0:Int)(a1:Int)(a2:Int):Option I7:=l7 (E9 a2 0) (some (0,1)) (l7 (E9 5 a2) (some (0,1)) (o5 (lT
 a0 1000000000) λ(x:Bool)=>l7 x (some (0,3)) (o5 (lT a1 1000000000) λ(x:Bool)=>l7 x (some (0,3)) (o5
 (CY (aA IntKind.i64 a0 a1) 1000000) λ(x:I7)=>o5 (fE x.1 x.2 1000000 a2) λ(x:Int)=>o5 (lT x
 1000000000) λ(x_1:Bool)=>l7 x_1 (some (0,3)) (some (x,0))))))
def BJ(a0:Int)(a1:Int)(a2:Int):Option I7:=o5 (l7 (E9 a2 0) (some (Sum.inr (0,1))) (l7 (E9 5 a2) (some
 (Sum.inr (0,1))) (some (Sum.inl PUnit.unit)))) λ(o:PUnit⊕I7)=>X9 o (λ(x:PUnit)=>l7 (x8 a1 0) (some (0,12)) (o5
 (lT a0 1000000000000000) λ(x:Bool)=>l7 x (some (0,3)) (o5 (lT a1 1000000000000000) λ(x:Bool)=>l7 x (some
 (0,3)) (l7 (E9 a1 0) (o5 (CY (J3 IntKind.i64 0 a0) (J3 IntKind.i64 0 a1)) λ(x:I7)=>o5 (lT x.1 1001) λ
 (x_1:Bool)=>l7 x_1 (some (0,3)) (o5 (qZ IntKind.i64 (aA IntKind.i64 x.2 1000) (J3 IntKind.i64 0 a1)) λ(x_2:Int)=>o5
 (AL (aA IntKind.i64 x.2 1000) (J3 IntKind.i64 0 a1)) λ(x_3:Int)=>o5 (qZ IntKind.i64 (aA IntKind.i64 x_3 1000) (J3 IntKind.i64
 0 a1)) λ(x_4:Int)=>o5 (AL (aA IntKind.i64 x_3 1000) (J3 IntKind.i64 0 a1)) λ(x_5:Int)=>o5 (fE (A7 IntKind.i64
 (A7 IntKind.i64 (aA IntKind.i64 x.1 1000000) (aA IntKind.i64 x_2 1000)) x_4) x_5 (J3 IntKind.i64 0 a1) a2) λ(x:Int)=>o5
 (lT x 1000000000) λ(x_6:Bool)=>l7 x_6 (some (0,3)) (some (x,0)))) (o5 (CY a0 a1) λ(x:I7)=>o5
 (lT x.1 1001) λ(x_1:Bool)=>l7 x_1 (some (0,3)) (o5 (qZ IntKind.i64 (aA IntKind.i64 x.2 1000) a1) λ(x_2:Int)=>
 o5 (AL (aA IntKind.i64 x.2 1000) a1) λ(x_3:Int)=>o5 (qZ IntKind.i64 (aA IntKind.i64 x_3 1000) a1) λ(x_4:Int)=>o5
 (AL (aA IntKind.i64 x_3 1000) a1) λ(x_5:Int)=>o5 (fE (A7 IntKind.i64 (A7 IntKind.i64 (aA IntKind.i64 x.1 1000000)
 (aA IntKind.i64 x_2 1000)) x_4) x_5 a1 a2) λ(x:Int)=>o5 (lT x 1000000000) λ(x_6:Bool)=>l7 x_6 (some (0,3)) (some (x,
 0)))))))) λ(r:I7)=>some r
def DZ(a0:Int)(a1:Int)(a2:Int):Option I7:=o5 (Jk a2) λ(x:Bool)=>l7 (D9 x) (some (0,1)) (l7 (x8
 a1 0) (some (0,12)) (o5 (kL a0 4611686018427387904) λ(x:Bool)=>l7 x (some (0,3)) (o5 (kL a1
 4611686018427387904) λ(x:Bool)=>l7 x (some (0,3)) (o5 (CX a0) λ(x:Int)=>o5 (CX a1) λ(x_1:Int)=>o5
 (qZ IntKind.i64 x x_1) λ(x_2:Int)=>o5 (AL x x_1) λ(x:Int)=>o5 (pK x_2 x x_1 (D9 (jT (E9 a0 0) (E9 a1 0)))
 a2) λ(x:Int)=>some (x,0)))))
def FO(a0:Int)(a1:Int)(a2:Int):Option I7:=o5 (Jk a2) λ(x:Bool)=>l7 (D9 x) (some (0,1)) (l7 (E9
 a1 1) (some (0,12)) (o5 (kL a0 1000000000000000) λ(x:Bool)=>l7 x (some (0,3)) (l7 (E9 1000000000000000 a1) (some (0,3))
 (o5 (CX a0) λ(x:Int)=>o5 (qZ IntKind.i64 x a1) λ(x_1:Int)=>o5 (AL x a1) λ(x:Int)=>o5 (pK x_1
 x a1 (E9 a0 0) a2) λ(x:Int)=>o5 (kL (aA IntKind.i64 x a1) 1000000000000000) λ(x_2:Bool)=>l7 x_2 (some (0,3)) (some
 (aA IntKind.i64 x a1,0))))))
def xM(a0:I7)(a1:D8)(a2:D8):Option (D8×Int):=o5 (o5 (l7 (x8 a0.1 13) (l7 (x8 a2.1 2) (l7 (x8
 a1.1 3) (some true) (some (x8 a1.1 2))) (some false)) (some false)) λ(x:Bool)=>l7 x (o5 (vS a1.1 a1.2.2 a2.2.2) λ(x:
 D8×Int)=>some (Sum.inr x)) (o5 (l7 (x8 a0.1 14) (l7 (x8 a2.1 4) (some (x8 a1.1 3)) (some false)) (some false)) λ(x:Bool)=>
 l7 x (o5 (Kr a1.2.2 a2.2.2 a0.2) λ(x:I7)=>o5 (tX a1.1 x.1 x.2) λ(x:D8×Int)=>some (Sum.inr x)) (o5
 (l7 (x8 a0.1 14) (l7 (x8 a2.1 4) (some (x8 a1.1 4)) (some false)) (some false)) λ(x:Bool)=>l7 x (o5 (RJ a1.2.2 a2.2.2
 a0.2) λ(x:I7)=>o5 (tX a1.1 x.1 x.2) λ(x:D8×Int)=>some (Sum.inr x)) (o5 (l7 (x8 a0.1 15) (l7 (x8 a1.1 3)
 (some (x8 a2.1 3)) (some false)) (some false)) λ(x:Bool)=>l7 x (o5 (BJ a1.2.2 a2.2.2 a0.2) λ(x:I7)=>o5
 (tX 4 x.1 x.2) λ(x:D8×Int)=>some (Sum.inr x)) (o5 (l7 (x8 a0.1 15) (l7 (x8 a2.1 2) (l7 (x8 a1.1 3) (some true)
 (some (x8 a1.1 2))) (some false)) (some false)) λ(x:Bool)=>l7 x (o5 (DZ a1.2.2 a2.2.2 a0.2) λ(x:I7)=>o5
 (tX a1.1 x.1 x.2) λ(x:D8×Int)=>some (Sum.inr x)) (l7 (x8 a0.1 16) (l7 (x8 a1.1 3) (l7 (x8 a2.1 3) (o5
 (FO a1.2.2 a2.2.2 a0.2) λ(x:I7)=>o5 (tX a1.1 x.1 x.2) λ(x:D8×Int)=>some (Sum.inr x)) (some (Sum.inl (0,
 0,0)))) (some (Sum.inl (0,0,0)))) (some (Sum.inl (0,0,0))))))))) λ(o:D8⊕D8×Int)=>X9 o (λ(x:D8)=>some ((0,0,0),
 8)) λ(r:D8×Int)=>some r
def Bg(a0:Int)(a1:Int)(a2:Int):Option I7:=o5 (l7 (E9 a0 1900) (some (Sum.inr (0,3))) (l7 (E9 2199 a0) (some
 (Sum.inr (0,3))) (l7 (E9 a2 1) (some (Sum.inr (0,3))) (o5 (jq a0 a1) λ(x:Int)=>l7 (E9 x a2) (some (Sum.inr (0,
 3))) (some (Sum.inl PUnit.unit)))))) λ(o:PUnit⊕I7)=>X9 o (λ(x:PUnit)=>o5 (ay (λ(x:I7)=>l7 (E9 x.2 a0) (o5
 (mV x.2) λ(x_1:Int)=>some (Sum.inl (A7 IntKind.i64 x.1 x_1,A7 IntKind.i64 x.2 1))) (some (Sum.inr x.1))) (J3 IntKind.i64
 a2 1,1900)) λ(y:Int)=>o5 (ay (λ(x:I7)=>l7 (E9 x.2 a1) (o5 (jq a0 x.2) λ(x_1:Int)=>some (Sum.inl
 (A7 IntKind.i64 x.1 x_1,A7 IntKind.i64 x.2 1))) (some (Sum.inr x.1))) (y,1)) λ(y:Int)=>some (y,0)) λ(r:I7)=>some r
def qV(a0:Int)(a1:Int):Option I7:=o5 (o5 (zy a0) λ(x:Bool)=>l7 (D9 x) (some (Sum.inr (0,3)))
 (l7 (E9 a1 (-3600)) (some (Sum.inr (0,3))) (l7 (E9 3600 a1) (some (Sum.inr (0,3))) (some (Sum.inl PUnit.unit))))) λ(o:PUnit⊕I7)
 =>X9 o (λ(x:PUnit)=>o5 (Gs a0) λ(x:D8)=>o5 (jq (dV IntKind.i64 (A7 IntKind.i64 (J3
 IntKind.i64 (A7 IntKind.i64 (aA IntKind.i64 12 x.1) x.2.1) 1) a1) 12) (A7 IntKind.i64 (eF (A7 IntKind.i64 (J3 IntKind.i64 (A7
 IntKind.i64 (aA IntKind.i64 12 x.1) x.2.1) 1) a1) 12) 1)) λ(x_1:Int)=>o5 (Bg (dV IntKind.i64 (A7 IntKind.i64 (J3
 IntKind.i64 (A7 IntKind.i64 (aA IntKind.i64 12 x.1) x.2.1) 1) a1) 12) (A7 IntKind.i64 (eF (A7 IntKind.i64 (J3 IntKind.i64 (A7
 IntKind.i64 (aA IntKind.i64 12 x.1) x.2.1) 1) a1) 12) 1) (qR x.2.2 x_1)) λ(x:I7)=>some x) λ(r:I7)=>some r
def xJ(a0:Int)(a1:Int):c9o:=o5 (zy a0) λ(x:Bool)=>l7 (D9 x) (some 0) (o5 (zy a1)
 λ(x:Bool)=>l7 (D9 x) (some 0) (o5 (V7 (λ(x:Int)=>o5 (qV a0 (aA IntKind.i64 12 (A7 IntKind.i64 x 1))) λ
 (x_1:I7)=>l7 (D9 (x8 x_1.2 0)) (some (Out.rt x)) (l7 (E9 a1 x_1.1) (some (Out.rt x)) (some (Out.nx (A7 IntKind.i64 x 1))))) 0) λ
 (o:PUnit⊕Int)=>X9 o (λ(y:PUnit)=>none) λ(r:Int)=>some r))
def zF(a0:Int)(a1:D8)(a2:D8):Option (D8×Int):=l7 (D9 (x8 a1.1 5)) (some ((0,0,0),8)) (l7 (x8 a0 27)
 (l7 (D9 (x8 a2.1 2)) (some ((0,0,0),8)) (l7 (x8 a0 27) (o5 (cu 5 (A7 IntKind.i64 a1.2.2 a2.2.2)) λ(x:D8×Int)=>
 some x) (o5 (qV a1.2.2 a2.2.2) λ(x:I7)=>o5 (tX 5 x.1 x.2) λ(x:D8×Int)=>some x))) (l7 (x8 a0 28)
 (l7 (D9 (x8 a2.1 2)) (some ((0,0,0),8)) (l7 (x8 a0 27) (o5 (cu 5 (A7 IntKind.i64 a1.2.2 a2.2.2)) λ(x:D8×Int)=>
 some x) (o5 (qV a1.2.2 a2.2.2) λ(x:I7)=>o5 (tX 5 x.1 x.2) λ(x:D8×Int)=>some x))) (l7 (D9 (x8
 a2.1 5)) (some ((0,0,0),8)) (l7 (x8 a0 29) (o5 (cu 2 (J3 IntKind.i64 a2.2.2 a1.2.2)) λ(x:D8×Int)=>some x) (o5
 (xJ a1.2.2 a2.2.2) λ(x:Int)=>o5 (cu 2 x) λ(x:D8×Int)=>some x)))))
def qo(a0:Int)(a1:D8)(a2:D8):Option (D8×Int):=o5 (l7 (D9 (x8 a1.1 a2.1)) (some (Sum.inr ((0,0,0),
 8))) (l7 (D9 (x8 a1.2.1 a2.2.1)) (some (Sum.inr ((0,0,0),8))) (some (Sum.inl (0,0,0))))) λ(o:D8⊕D8×Int)=>X9 o (λ(x
 :D8)=>o5 (l7 (x8 a0 19) (o5 (uY (x8 a1.2.2 a2.2.2)) λ(x:D8×Int)=>some (Sum.inr x)) (l7 (x8 a0 20) (o5
 (uY (D9 (x8 a1.2.2 a2.2.2))) λ(x:D8×Int)=>some (Sum.inr x)) (o5 (l7 (x8 a0 23) (some (x8 a0 23)) (some (x8 a0 24)))
 λ(x_1:Bool)=>l7 x_1 (l7 (D9 (x8 a1.1 1)) (some (Sum.inr ((0,0,0),8))) (l7 (x8 (A7 IntKind.i64 a1.2.2 a2.2.2) 2) (o5
 (uY true) λ(x:D8×Int)=>some (Sum.inr x)) (l7 (x8 a0 24) (o5 (uY (x8 (A7 IntKind.i64 a1.2.2 a2.2.2) 1)) λ
 (x:D8×Int)=>some (Sum.inr x)) (o5 (uY false) λ(x:D8×Int)=>some (Sum.inr x))))) (o5 (l7 (x8 a0 11) (some
 (x8 a0 11)) (some (x8 a0 12))) λ(x_2:Bool)=>l7 x_2 (o5 (Aq a1.1) λ(x:Bool)=>l7 (D9 x) (some (Sum.inr ((0,0,0),
 8))) (l7 (x8 a0 11) (o5 (cu a1.1 (A7 IntKind.i64 a1.2.2 a2.2.2)) λ(x:D8×Int)=>some (Sum.inr x)) (o5 (cu a1.1
 (J3 IntKind.i64 a1.2.2 a2.2.2)) λ(x:D8×Int)=>some (Sum.inr x)))) (some (Sum.inl x)))))) λ(o:D8⊕D8×Int)=>X9 o (λ
 (x:D8)=>o5 (o5 (Aq a1.1) λ(x_1:Bool)=>l7 (D9 x_1) (l7 (D9 (x8 a1.1 5)) (some (Sum.inr ((0,0,0),8)))
 (some (Sum.inl x))) (some (Sum.inl x))) λ(o:D8⊕D8×Int)=>X9 o (λ(x:D8)=>l7 (x8 a0 21) (o5 (uY (E9
 a1.2.2 a2.2.2)) λ(x:D8×Int)=>some x) (l7 (x8 a0 22) (o5 (uY (N7 a1.2.2 a2.2.2)) λ(x:D8×Int)=>some x)
 (l7 (jT (x8 a0 17) (E9 a1.2.2 a2.2.2)) (some (a1,0)) (some (a2,0))))) λ(r:D8×Int)=>some r) λ(r:D8×Int)=>some r)
 λ(r:D8×Int)=>some r
def fG(a0:I7)(a1:D8)(a2:D8):Option (D8×Int):=l7 (N7 13 a0.1) (l7 (N7 a0.1 16) (o5 (xM a0
 a1 a2) λ(x:D8×Int)=>some x) (l7 (N7 27 a0.1) (o5 (zF a0.1 a1 a2) λ(x:D8×Int)=>some x) (o5
 (qo a0.1 a1 a2) λ(x:D8×Int)=>some x))) (l7 (N7 27 a0.1) (o5 (zF a0.1 a1 a2) λ(x:D8×Int)=>some
 x) (o5 (qo a0.1 a1 a2) λ(x:D8×Int)=>some x))
def sF(a0:I7)(a1:List D8)(a2:aK):Option (D8×Int):=o5 (Io a0 (o9 a1)) λ(x:Bool)=>l7 (D9
 x) (some ((0,0,0),2)) (o5 (xq a0 a2) λ(x:Bool)=>l7 (D9 x) (some ((0,0,0),6)) (o5 (V7 (λ(x:D8×Int)=>
 l7 (E9 x.2 (o9 a1)) (o5 (F9 a1 x.2) λ(x_1:D8)=>o5 (jc x_1) λ(x_2:Bool)=>l7 (D9 x_2) (some (Out.rt
 ((0,0,0),8))) (some (Out.nx (x.1,A7 IntKind.i64 x.2 1)))) (some (Out.ex x.1))) ((0,0,0),0)) λ(o:D8⊕D8×Int)=>X9 o (λ
 (y:D8)=>l7 (x8 (o9 a1) 0) (l7 (N7 36 a0.1) (l7 (N7 a0.1 39) (o5 (pO a0 a2) λ(x:D8×Int)=>some x)
 (o5 (dn a0 a2) λ(x:D8×Int)=>some x)) (o5 (dn a0 a2) λ(x:D8×Int)=>some x)) (l7 (x8 (o9 a1)
 1) (o5 (F9 a1 0) λ(x:D8)=>o5 (iZ a0 x a2) λ(x:D8×Int)=>some x) (l7 (x8 (o9 a1) 2) (o5 (F9 a1 0)
 λ(x:D8)=>o5 (F9 a1 1) λ(x_1:D8)=>o5 (fG a0 x x_1) λ(x:D8×Int)=>some x) (o5 (F9 a1 0) λ(x:
 D8)=>o5 (F9 a1 1) λ(x_1:D8)=>o5 (F9 a1 2) λ(x_2:D8)=>l7 (D9 (x8 x.1 1)) (some ((0,0,0),8)) (l7 (D9
 (x8 x_1.1 x_2.1)) (some ((0,0,0),8)) (l7 (D9 (x8 x_1.2.1 x_2.2.1)) (some ((0,0,0),8)) (l7 (x8 x.2.2 1) (some (x_1,0)) (some (x_2,
 0))))))))) λ(r:D8×Int)=>some r))
def Ff(r118:List I7->Int->aK->Option (D8×Int))(r150:List I7->Int->c9h->aK->Option (D8×Int))(a0
 :List I7)(a1:Int)(a2:aK):Option (D8×Int):=o5 (Ea a0 a1) λ(x:c9h)=>o5 (F9 a0 a1) λ(x_1:
 I7)=>o5 (l7 (x8 x_1.1 23) (o5 (r150 a0 a1 x a2) λ(x:D8×Int)=>some (Sum.inr x)) (l7 (x8 x_1.1 24) (o5 (r150 a0 a1 x
 a2) λ(x:D8×Int)=>some (Sum.inr x)) (l7 (x8 x_1.1 26) (o5 (r150 a0 a1 x a2) λ(x:D8×Int)=>some (Sum.inr x)) (some
 (Sum.inl (0,0,0)))))) λ(o:D8⊕D8×Int)=>X9 o (λ(x_2:D8)=>o5 (V7 (λ(x_3:D8×List D8×Int)=>
 l7 (E9 x_3.2.2 (o9 x)) (o5 (F9 x x_3.2.2) λ(x_4:Int)=>o5 (O8 x (U6 x_3.2.2)) λ(x:Int)=>o5 (r118 a0 x a2) λ(x:
 D8×Int)=>l7 (D9 (x8 x.2 0)) (some (Out.rt ((0,0,0),x.2))) (o5 (di x_3.2.1 [x.1]) λ(x:List D8)=>some (Out.nx (x_3.1,
 x,A7 IntKind.i64 x_3.2.2 1)))) (some (Out.ex (x_3.1,x_3.2.1)))) (x_2,[],0)) λ(o:D8×List D8⊕D8×Int)=>X9 o (λ(y:
 D8×List D8)=>o5 (F9 a0 a1) λ(x:I7)=>o5 (sF x y.2 a2) λ(x:D8×Int)=>some x) λ(r:D8×Int)
 =>some r) λ(r:D8×Int)=>some r
def BK(r118:List I7->Int->aK->Option (D8×Int))(r150:List I7->Int->c9h->aK->Option (D8×Int))(a0:
 List I7)(a1:Int)(a2:c9h)(a3:aK):Option (D8×Int):=o5 (F9 a0 a1) λ(x:I7)=>l7 (D9 (x8 x.2 0)) (some
 ((0,0,0),2)) (o5 (F9 a2 0) λ(x:Int)=>o5 (r118 a0 x a3) λ(x:D8×Int)=>l7 (D9 (x8 x.2 0)) (some ((0,0,0),x.2))
 (o5 (l7 (D9 (x8 x.1.1 1)) (some (Sum.inr ((0,0,0),8))) (o5 (jc x.1) λ(x:Bool)=>l7 (D9 x) (some (Sum.inr ((0,
 0,0),8))) (some (Sum.inl (0,0,0))))) λ(o:D8⊕D8×Int)=>X9 o (λ(x_1:D8)=>o5 (F9 a0 a1) λ(x_2:I7)=>
 l7 (x8 x_2.1 26) (l7 (x8 x.1.2.2 1) (o5 (F9 a2 1) λ(x:Int)=>o5 (r118 a0 x a3) λ(x:D8×Int)=>some x) (o5 (F9 a2
 2) λ(x:Int)=>o5 (r118 a0 x a3) λ(x:D8×Int)=>some x)) (o5 (F9 a0 a1) λ(x_3:I7)=>l7 (jT (x8 x_3.1 23) (x8
 x.1.2.2 0)) (some (x.1,0)) (o5 (F9 a2 1) λ(x:Int)=>o5 (r118 a0 x a3) λ(x:D8×Int)=>l7 (D9 (x8 x.2 0)) (some ((0,0,
 0),x.2)) (l7 (D9 (x8 x.1.1 1)) (some ((0,0,0),8)) (o5 (jc x.1) λ(x_4:Bool)=>l7 (D9 x_4) (some ((0,0,0),8))
 (some (x.1,0))))))) λ(r:D8×Int)=>some r))
def ae:Nat->(M.den (.dat (.sl (.prod (.int .i64) (.int .i64))))->M.den (.dat (.int .i64))->M.den (.dat (.prod (.int .i64) (.prod (.sl (.prod (.int .i64) (.prod (.int .i64) (.int .i64)))) (.prod (.sl (.prod (.int .i64) (.prod (.int .i64) (.int .i64)))) (.prod (.sl (.sl (.prod (.int .i64) (.prod (.int .i64) (.int .i64))))) (.prod (.sl (.prod (.int .i64) (.int .i64))) (.sl (.prod .str (.prod (.prod (.int .i64) (.int .i64)) (.prod (.prod (.int .i64) (.int .i64)) (.sl (.prod (.prod (.int .i64) (.int .i64)) (.prod (.int .i64) (.prod (.int .i64) (.int .i64)))))))))))))))->Option (iy ([(true,(.dat (.prod (.int .i64) (.prod (.int .i64) (.int .i64))))),(false,(.dat (.int .i64)))]++[])))×(M.den (.dat (.sl (.prod (.int .i64) (.int .i64))))->M.den (.dat (.int .i64))->M.den (.dat (.sl (.int .i64)))->M.den (.dat (.prod (.int .i64) (.prod (.sl (.prod (.int .i64) (.prod (.int .i64) (.int .i64)))) (.prod (.sl (.prod (.int .i64) (.prod (.int .i64) (.int .i64)))) (.prod (.sl (.sl (.prod (.int .i64) (.prod (.int .i64) (.int .i64))))) (.prod (.sl (.prod (.int .i64) (.int .i64))) (.sl (.prod .str (.prod (.prod (.int .i64) (.int .i64)) (.prod (.prod (.int .i64) (.int .i64)) (.sl (.prod (.prod (.int .i64) (.int .i64)) (.prod (.int .i64) (.prod (.int .i64) (.int .i64)))))))))))))))->Option (iy ([(true,(.dat (.prod (.int .i64) (.prod (.int .i64) (.int .i64))))),(false,(.dat (.int .i64)))]++[])))
 |0=>(λa0 a1 a2=>none,λa0 a1 a2 a3=>none)|n+1=>(λa0 a1 a2=>Ff (ae n).1 (ae n).2 a0 a1 a2,λa0 a1 a2 a3=>BK (ae n).1 (ae n).2 a0 a1 a2 a3)
def Yz:M.den (.dat (.sl (.prod (.int .i64) (.int .i64))))->M.den (.dat (.int .i64))->M.den (.dat (.prod (.int .i64) (.prod (.sl (.prod (.int .i64) (.prod (.int .i64) (.int .i64)))) (.prod (.sl (.prod (.int .i64) (.prod (.int .i64) (.int .i64)))) (.prod (.sl (.sl (.prod (.int .i64) (.prod (.int .i64) (.int .i64))))) (.prod (.sl (.prod (.int .i64) (.int .i64))) (.sl (.prod .str (.prod (.prod (.int .i64) (.int .i64)) (.prod (.prod (.int .i64) (.int .i64)) (.sl (.prod (.prod (.int .i64) (.int .i64)) (.prod (.int .i64) (.prod (.int .i64) (.int .i64)))))))))))))))->Option (iy ([(true,(.dat (.prod (.int .i64) (.prod (.int .i64) (.int .i64))))),(false,(.dat (.int .i64)))]++[])):=λa0 a1 a2=>(ae lG).1 a0 a1 a2
def NW(a0:List I7)(a1:aK):Option (D8×Int):=o5 (VA a0) λ(x:c9h×Int)=>l7 (D9 (x8 x.2 0))
 (some ((0,0,0),x.2)) (o5 (Yz a0 (J3 IntKind.i64 (o9 a0) 1) a1) λ(x:D8×Int)=>some x)
def Jo(a0:c9h)(a1:c9h):c9o:=l7 (D9 (x8 (o9 a0) (o9 a1))) (some 2) (l7 (E9 8 (o9 a0)) (some 4)
 (o5 (V7 (λ(x:Int)=>l7 (E9 x (o9 a0)) (o5 (F9 a0 x) λ(x_1:Int)=>l7 (E9 x_1 (-1)) (some (Out.rt 9)) (o5 (F9 a0 x)
 λ(x_2:Int)=>l7 (N7 x x_2) (some (Out.rt 9)) (o5 (F9 a1 x) λ(x_3:Int)=>l7 (E9 x_3 0) (some (Out.rt 3)) (o5 (F9 a1 x) λ
 (x_4:Int)=>l7 (E9 9 x_4) (some (Out.rt 3)) (some (Out.nx (A7 IntKind.i64 x 1))))))) (some (Out.ex PUnit.unit))) 0) λ(o:PUnit⊕Int)=>
 X9 o (λ(y:PUnit)=>some 0) λ(r:Int)=>some r))
def Qo(a0:c9h)(a1:Int):Option c9h:=o5 (ay (λ(x:c9h×Int)=>l7 (E9 x.2 (o9 a0)) (o5 (F9
 a0 x.2) λ(x_1:Int)=>l7 (x8 x_1 a1) (o5 (di x.1 [x.2]) λ(x_2:c9h)=>some (Sum.inl (x_2,A7 IntKind.i64 x.2 1))) (some
 (Sum.inl (x.1,A7 IntKind.i64 x.2 1)))) (some (Sum.inr x.1))) ([],0)) λ(y:c9h)=>some y
def AV(r120:c9h->c9h->c9s->Int->c9o)(r152:c9h->c9h->c9s->Int->Option c9h)
 (r153:c9h->c9h->c9s->Int->c9o) (a0:c9h) (a1:c9h) (a2:c9s) (a3:Int):c9o:=o5 (r152
 a0 a1 a2 a3) λ(x:c9h)=>l7 (x8 (o9 x) 0) (some (-1)) (l7 (E9 1 (o9 x)) (some (-2)) (o5 (F9 x 0) λ(x:Int)=>o5
 (r153 a0 a1 a2 x) λ(x:Int)=>some x))
def GR(r120:c9h->c9h->c9s->Int->c9o)(r152:c9h->c9h->c9s->Int->Option c9h)
 (r153:c9h->c9h->c9s->Int->c9o) (a0:c9h) (a1:c9h) (a2:c9s) (a3:Int):Option c9h:=o5
 (Qo a0 a3) λ(x:c9h)=>o5 (ay (λ(x_1:c9h×Int)=>l7 (E9 x_1.2 (o9 x)) (o5 (F9 x x_1.2) λ(x_2:
 Int)=>o5 (O8 x (U6 x_1.2)) λ(x_3:Int)=>o5 (r153 a0 a1 a2 x_3) λ(x_4:Int)=>l7 (x8 x_4 (-1)) (some (Sum.inl (x_1.1,A7
 IntKind.i64 x_1.2 1))) (o5 (l7 (E9 0 (o9 x_1.1)) (o5 (F9 x x_1.2) λ(x_5:Int)=>o5 (O8 x (U6 x_1.2)) λ(x:Int)=>o5
 (F9 a1 x) λ(x:Int)=>o5 (F9 x_1.1 0) λ(x_6:Int)=>o5 (O8 x_1.1 (U6 0)) λ(x_7:Int)=>o5 (F9 a1 x_7) λ(x_8:Int)
 =>l7 (E9 x_8 x) (some []) (some x_1.1)) (some x_1.1)) λ(x_5:c9h)=>l7 (x8 (o9 x_5) 0) (o5 (F9 x x_1.2) λ(x_6:Int)=>
 o5 (O8 x (U6 x_1.2)) λ(x:Int)=>o5 (di x_5 [x]) λ(x:c9h)=>some (Sum.inl (x,A7 IntKind.i64 x_1.2 1))) (o5 (F9 x
 x_1.2) λ(x_6:Int)=>o5 (O8 x (U6 x_1.2)) λ(x_7:Int)=>o5 (F9 a1 x_7) λ(x_8:Int)=>o5 (F9 x_5 0) λ(x_9:Int)=>
 o5 (O8 x_5 (U6 0)) λ(x_10:Int)=>o5 (F9 a1 x_10) λ(x_11:Int)=>l7 (x8 x_8 x_11) (o5 (F9 x x_1.2) λ(x_12:Int)=>
 o5 (O8 x (U6 x_1.2)) λ(x:Int)=>o5 (di x_5 [x]) λ(x:c9h)=>some (Sum.inl (x,A7 IntKind.i64 x_1.2 1))) (some (Sum.inl
 (x_5,A7 IntKind.i64 x_1.2 1)))))) (some (Sum.inr x_1.1))) ([],0)) λ(y:c9h)=>some y
def Cf(r120:c9h->c9h->c9s->Int->c9o)(r152:c9h->c9h->c9s->Int->Option c9h)
 (r153:c9h->c9h->c9s->Int->c9o) (a0:c9h) (a1:c9h) (a2:c9s) (a3:Int):c9o:=o5 (r120
 a0 a1 a2 a3) λ(x:Int)=>l7 (x8 x (-1)) (o5 (F9 a2 a3) λ(x_1:Bool)=>l7 x_1 (some a3) (some x)) (some x)
def V4:Nat->(M.den (.dat (.sl (.int .i64)))->M.den (.dat (.sl (.int .i64)))->M.den (.dat (.sl .bool))->M.den (.dat (.int .i64))->Option (iy ([(false,(.dat (.int .i64)))]++[])))×(M.den (.dat (.sl (.int .i64)))->M.den (.dat (.sl (.int .i64)))->M.den (.dat (.sl .bool))->M.den (.dat (.int .i64))->Option (iy ([(false,(.dat (.sl (.int .i64))))]++[])))×(M.den (.dat (.sl (.int .i64)))->M.den (.dat (.sl (.int .i64)))->M.den (.dat (.sl .bool))->M.den (.dat (.int .i64))->Option (iy ([(false,(.dat (.int .i64)))]++[])))
 |0=>(λa0 a1 a2 a3=>none,λa0 a1 a2 a3=>none,λa0 a1 a2 a3=>none)|n+1=>(λa0 a1 a2 a3=>AV (V4 n).1 (V4 n).2.1 (V4 n).2.2 a0 a1 a2 a3,λa0 a1 a2 a3=>GR (V4 n).1 (V4 n).2.1 (V4 n).2.2 a0 a1 a2 a3,λa0 a1 a2 a3=>Cf (V4 n).1 (V4 n).2.1 (V4 n).2.2 a0 a1 a2 a3)
def Qp:M.den (.dat (.sl (.int .i64)))->M.den (.dat (.sl (.int .i64)))->M.den (.dat (.sl .bool))->M.den (.dat (.int .i64))->Option (iy ([(false,(.dat (.int .i64)))]++[])):=λa0 a1 a2 a3=>(V4 lG).1 a0 a1 a2 a3
def NZ(a0:c9h)(a1:c9h)(a2:c9s):c9o:=o5 (Jo a0 a1) λ(x:Int)=>l7 (D9 (x8 x 0))
 (some (-1)) (l7 (D9 (x8 (o9 a2) (o9 a0))) (some (-1)) (o5 (Qp a0 a1 a2 (-1)) λ(x:Int)=>some x))
def Oc(a0:A8)(a1:aK)(a2:Int)(a3:Int):Option (Int×F6):=o5 (Oa a0 a3 a1.1) λ(x:
 fP)=>o5 (V7 (λ(x_1:F6×c9s×Int)=>l7 (E9 x_1.2.2 (o9 x.1)) (o5 (F9 x.1 x_1.2.2) λ(x_2:Int)
 =>o5 (O8 x.1 (U6 x_1.2.2)) λ(x_3:Int)=>o5 (F9 a0.2.2.2.2 x_3) λ(x_4:V8)=>l7 (x8 (o9 x_4.2.2.2.2.2.1) 0) (o5
 (di x_1.2.1 [true]) λ(x:c9s)=>some (Out.nx (x_1.1,x,A7 IntKind.i64 x_1.2.2 1))) (o5 (NW x_4.2.2.2.2.2.1 a1) λ(x_5:
 D8×Int)=>l7 (D9 (x8 x_5.2 0)) (o5 (F9 x.1 x_1.2.2) λ(x_6:Int)=>o5 (O8 x.1 (U6 x_1.2.2)) λ(x:Int)=>some (Out.rt
 (0,x_5.2,a2,a3,x))) (o5 (di x_1.2.1 [x8 x_5.1.2.2 1]) λ(x:c9s)=>some (Out.nx (x_1.1,x,A7 IntKind.i64 x_1.2.2 1))))) (some
 (Out.ex (x_1.1,x_1.2.1)))) ((0,0,0,0),[],0)) λ(o:F6×c9s⊕Int×F6)=>X9 o (λ(y:F6×c9s)=>
 o5 (NZ x.2.1 x.2.2 y.2) λ(x_1:Int)=>l7 (E9 x_1 0) (some (x_1,0,0,0,0)) (o5 (F9 x.1 x_1) λ(x_2:Int)=>o5
 (O8 x.1 (U6 x_1)) λ(x:Int)=>some (x,0,0,0,0))) λ(r:Int×F6)=>some r
def Oe(a0:A8)(a1:aK)(a2:Int)(a3:Int):Option (D8×Int×F6):=o5 (Oc a0 a1 a2 a3) λ(x:Int
 ×F6)=>l7 (D9 (x8 x.2.1 0)) (some ((0,0,0),0,x.2)) (l7 (x8 x.1 (-1)) (some ((0,0,0),0,10,a2,a3,-1)) (l7 (x8 x.1
 (-2)) (some ((0,0,0),0,11,a2,a3,-1)) (o5 (F9 a0.2.2.2.2 x.1) λ(x_1:V8)=>o5 (NW x_1.2.2.2.2.2.2.1 a1) λ(x_2:
 D8×Int)=>l7 (D9 (x8 x_2.2 0)) (some ((0,0,0),0,x_2.2,a2,a3,x.1)) (some (x_2.1,x.1,0,0,0,0)))))
def zJ(a0:A8)(a1:aK)(a2:Int)(a3:c9s):Option (List D8×c9h×F6):=o5 (qU (o9
 a0.2.2.2.1) (0,0,0)) λ(x:List D8)=>o5 (qU (o9 a0.2.2.2.1) 0) λ(x_1:c9h)=>o5 (yG a0) λ(x_2:
 c9h×Int)=>o5 (V7 (λ(x:(Int×List D8×PUnit×List (List D8)×List I7×List bn)×F6×List D8×
 c9h×Int)=>l7 (E9 x.2.2.2.2 (o9 x_2.1)) (o5 (F9 x_2.1 x.2.2.2.2) λ(x_3:Int)=>o5 (O8 x_2.1 (U6 x.2.2.2.2)) λ(x_4:
 Int)=>o5 (F9 a3 x_4) λ(x_5:Bool)=>l7 (D9 x_5) (some (Out.nx ((x.1.1,x.1.2.1,PUnit.unit,x.1.2.2.2),x.2.1,x.2.2.1,x.2.2.2.1,
 A7 IntKind.i64 x.2.2.2.2 1))) (o5 (Oe a0 (x.1.1,x.1.2.1,x.2.2.1,x.1.2.2.2) a2 x_4) λ(x_6:D8×Int×F6)=>l7
 (D9 (x8 x_6.2.2.1 0)) (some (Out.rt ([],[],x_6.2.2))) (o5 (F9 x.2.2.1 x_4) λ(x_7:D8)=>o5 (O8 x.2.2.1 (U6 x_4)) λ(x_8:
 D8)=>o5 (F9 x.2.2.2.1 x_4) λ(x_9:Int)=>o5 (O8 x.2.2.2.1 (U6 x_4)) λ(x_10:Int)=>some (Out.nx ((x.1.1,x.1.2.1,
 PUnit.unit,x.1.2.2.2),x.2.1,bu x.2.2.1 (U6 x_4) x_6.1,bu x.2.2.2.1 (U6 x_4) x_6.2.1,A7 IntKind.i64 x.2.2.2.2 1))))) (some (Out.ex
 (x.2.1,x.2.2.1,x.2.2.2.1)))) ((a1.1,a1.2.1,PUnit.unit,a1.2.2.2),(0,0,0,0),x,x_1,0)) λ(o:F6×Sz⊕List D8×
 c9h×F6)=>X9 o (λ(y:F6×Sz)=>some (y.2.1,y.2.2,0,0,0,0)) λ(r:List D8×c9h×
 F6)=>some r
def yH(a0:S9)(a1:Int)(a2:dI)(a3:c9s):Option (List (List D8)×List c9h×F6):=o5
 (qH a0 a1) λ(x:A8)=>o5 (V7 (λ(x_1:F6×List (List D8)×List c9h×Int)=>l7 (E9
 x_1.2.2.2 (o9 a2.2.2)) (o5 (OX a0 a2 x_1.2.2.2) λ(x_2:aK)=>o5 (zJ x x_2 x_1.2.2.2 a3) λ(x:List D8
 ×c9h×F6)=>l7 (D9 (x8 x.2.2.1 0)) (some (Out.rt ([],[],x.2.2))) (o5 (di x_1.2.1 [x.1]) λ(x_3:List (List D8))
 =>o5 (di x_1.2.2.1 [x.2.1]) λ(x:List c9h)=>some (Out.nx (x_1.1,x_3,x,A7 IntKind.i64 x_1.2.2.2 1)))) (some (Out.ex (x_1.1,
 x_1.2.1,x_1.2.2.1)))) ((0,0,0,0),[],[],0)) λ(o:F6×List (List D8)×List c9h⊕List (List D8)×List c9h×
 F6)=>X9 o (λ(y:F6×List (List D8)×List c9h)=>some (y.2.1,y.2.2,0,0,0,0)) λ(r:List (List D8)×
 List c9h×F6)=>some r
def Xi(a0:S9)(a1:Int)(a2:dI)(a3:List (List D8)):Option aK:=o5 (qH a0 a1) λ(x:A8)=>o5
 (ay (λ(x_1:aK×Int)=>l7 (E9 x_1.2 (o9 x.2.2.2.1)) (o5 (F9 x.2.2.2.1 x_1.2) λ(x:bH)=>o5 (di x_1.1.2.2.2.2.1
 [x.2]) λ(x:List I7)=>some (Sum.inl ((x_1.1.1,x_1.1.2.1,x_1.1.2.2.1,x_1.1.2.2.2.1,x,x_1.1.2.2.2.2.2),A7 IntKind.i64 x_1.2 1))) (some
 (Sum.inr x_1.1))) ((a2.1,a2.2.1,[],a3,[],a0.2.1),0)) λ(y:aK)=>some y
def FT(a0:A8)(a1:c9s)(a2:Int):Option c9s:=o5 (F9 a1 a2) λ(x:Bool)=>o5 (O8 a1 (U6 a2)) λ
 (x:Bool)=>o5 (oV a0 a2) λ(x:c9h)=>o5 (ay (λ(x_1:c9s×Int)=>l7 (E9 x_1.2 (o9 x)) (o5
 (F9 x x_1.2) λ(x:Int)=>o5 (F9 x_1.1 x) λ(x_2:Bool)=>o5 (O8 x_1.1 (U6 x)) λ(x_3:Bool)=>some (Sum.inl (bu x_1.1 (U6
 x) true,A7 IntKind.i64 x_1.2 1))) (some (Sum.inr x_1.1))) (bu a1 (U6 a2) true,0)) λ(y:c9s)=>some y
def Ar(a0:A8)(a1:Int):Option c9h:=o5 (Jp a0 a1) λ(x:Bool)=>l7 (D9 x) (some []) (o5
 (oV a0 a1) λ(x:c9h)=>o5 (nR x a1) λ(x:c9h)=>o5 (ay (λ(x_1:c9h×Int)=>l7 (E9
 x_1.2 (o9 a0.2.2.2.2)) (o5 (F9 a0.2.2.2.2 x_1.2) λ(x_2:V8)=>o5 (Fg x x_2.2.1) λ(x:Bool)=>l7 (D9 x) (some
 (Sum.inl (x_1.1,A7 IntKind.i64 x_1.2 1))) (o5 (F9 a0.2.2.2.2 x_1.2) λ(x:V8)=>o5 (sK x.2.2.2.2.2.1) λ(x:
 fP)=>o5 (F9 a0.2.2.2.2 x_1.2) λ(x_3:V8)=>o5 (sK x_3.2.2.2.2.2.2.1) λ(x_4:fP)=>o5
 (ay (λ(x_5:c9h×Int)=>l7 (E9 x_5.2 (o9 x.2.2)) (o5 (F9 x.2.2 x_5.2) λ(x_6:Int)=>o5 (O8 x.2.2 (U6 x_5.2)) λ
 (x:Int)=>o5 (nR x_5.1 x) λ(x:c9h)=>some (Sum.inl (x,A7 IntKind.i64 x_5.2 1))) (some (Sum.inr x_5.1))) (x_1.1,0)) λ
 (y:c9h)=>o5 (ay (λ(x:c9h×Int)=>l7 (E9 x.2 (o9 x_4.2.2)) (o5 (F9 x_4.2.2 x.2) λ(x_5:Int)=>o5 (O8
 x_4.2.2 (U6 x.2)) λ(x_6:Int)=>o5 (nR x.1 x_6) λ(x_7:c9h)=>some (Sum.inl (x_7,A7 IntKind.i64 x.2 1))) (some
 (Sum.inr x.1))) (y,0)) λ(y:c9h)=>some (Sum.inl (y,A7 IntKind.i64 x_1.2 1)))) (some (Sum.inr x_1.1))) ([],0)) λ(y:c9h)=>
 some y)
def zK(a0:S9)(a1:Int)(a2:c9s)(a3:Int):Option c9s:=o5 (F9 a0.2.2 a1) λ(x:A8)=>o5
 (Ar x a3) λ(x:c9h)=>o5 (ay (λ(x_1:c9s×Int)=>l7 (E9 x_1.2 (o9 x)) (o5 (qH a0
 a1) λ(x_2:A8)=>o5 (F9 x x_1.2) λ(x_3:Int)=>o5 (O8 x (U6 x_1.2)) λ(x:Int)=>o5 (FT x_2 x_1.1 x) λ(x
 :c9s)=>some (Sum.inl (x,A7 IntKind.i64 x_1.2 1))) (some (Sum.inr x_1.1))) (a2,0)) λ(y:c9s)=>some y
def Jr(a0:S9)(a1:Int)(a2:dI)(a3:Int):Option (D8×Int×F6):=o5 (F9 a0.2.2 a1) λ(x:A8)
 =>o5 (qU (o9 x.2.2.2.1) false) λ(x_1:c9s)=>o5 (FT x x_1 a3) λ(x_2:c9s)=>o5 (qH a0
 a1) λ(x_3:A8)=>o5 (qU (o9 x_3.2.2.2.1) false) λ(x_4:c9s)=>o5 (zK a0 a1 x_4 a3) λ(x_5:List
 Bool)=>o5 (yH a0 a1 a2 x_5) λ(x_6:List (List D8)×List c9h×F6)=>l7 (D9 (x8 x_6.2.2.1 0))
 (some ((0,0,0),0,x_6.2.2)) (o5 (Xi a0 a1 a2 x_6.1) λ(x_7:aK)=>o5 (zJ x x_7 (-1) x_2) λ(x:List D8×
 c9h×F6)=>l7 (D9 (x8 x.2.2.1 0)) (some ((0,0,0),0,x.2.2)) (o5 (F9 x.1 a3) λ(x_8:D8)=>o5 (O8 x.1 (U6
 a3)) λ(x_9:D8)=>o5 (F9 x.2.1 a3) λ(x_10:Int)=>o5 (O8 x.2.1 (U6 a3)) λ(x:Int)=>some (x_9,x,0,0,0,0)))
def FP(a0:S9)(a1:Int)(a2:dI)(a3:Int):Option (D8×Int×F6):=o5 (Js a0 a1 a2 a3 true) λ
 (x:F6)=>l7 (D9 (x8 x.1 0)) (some ((0,0,0),0,x)) (o5 (Jr a0 a1 a2 a3) λ(x:D8×Int×F6)=>
 some x)
def Oo(a0:List c9i)(a1:List c9i):c9n:=
 l7 (D9 (x8 (o9 a0) (o9 a1))) (some false)
 (o5
  (V7
   (λ(x:Int)=>
    l7 (E9 x (o9 a0))
     (l7 (E9 x (o9 a1))
      (o5 (F9 a0 x) λ(x_1:c9i)=>
       o5 (F9 a1 x) λ(x_2:c9i)=>
        l7 (D9 (seq x_1 x_2)) (some (Out.rt false)) (some (Out.nx (A7 IntKind.i64 x 1))))
      (some (Out.ex PUnit.unit)))
     (some (Out.ex PUnit.unit)))
   0)
  λ(o:PUnit⊕Bool)=>X9 o (λ(y:PUnit)=>some true) λ(r:Bool)=>some r)
def Xw(a0:dB)(a1:dB):c9n:=
 l7 (seq a0.1 a1.1) (o5 (Oo a0.2 a1.2) λ(x:Bool)=>some x) (some false)
def Ug(a0:List dB)(a1:List dB):c9n:=
 l7 (D9 (x8 (o9 a0) (o9 a1))) (some false)
 (o5
  (V7
   (λ(x:Int)=>
    l7 (E9 x (o9 a0))
     (l7 (E9 x (o9 a1))
      (o5 (F9 a0 x) λ(x_1:dB)=>
       o5 (F9 a1 x) λ(x_2:dB)=>
        o5 (Xw x_1 x_2) λ(x_3:Bool)=>
         l7 (D9 x_3) (some (Out.rt false)) (some (Out.nx (A7 IntKind.i64 x 1))))
      (some (Out.ex PUnit.unit)))
     (some (Out.ex PUnit.unit)))
   0)
  λ(o:PUnit⊕Bool)=>X9 o (λ(y:PUnit)=>some true) λ(r:Bool)=>some r)
def Xy(a0:List rF)(a1:List rF):c9n:=
 l7 (D9 (x8 (o9 a0) (o9 a1))) (some false)
 (o5
  (V7
   (λ(x:Int)=>
    l7 (E9 x (o9 a0))
     (l7 (E9 x (o9 a1))
      (o5 (F9 a0 x) λ(x_1:rF)=>
       o5 (F9 a1 x) λ(x_2:rF)=>
        l7
         (D9
          (V9 (x8 x_1.1.1 x_2.1.1)
           (V9 (x8 x_1.1.2 x_2.1.2)
            (V9 (x8 x_1.2.1 x_2.2.1) (V9 (x8 x_1.2.2.1 x_2.2.2.1) (x8 x_1.2.2.2 x_2.2.2.2))))))
         (some (Out.rt false)) (some (Out.nx (A7 IntKind.i64 x 1))))
      (some (Out.ex PUnit.unit)))
     (some (Out.ex PUnit.unit)))
   0)
  λ(o:PUnit⊕Bool)=>X9 o (λ(y:PUnit)=>some true) λ(r:Bool)=>some r)
def Uh(a0:bn)(a1:bn):c9n:=
 l7 (seq a0.1 a1.1)
 (l7 (V9 (x8 a0.2.1.1 a1.2.1.1) (x8 a0.2.1.2 a1.2.1.2))
  (l7 (V9 (x8 a0.2.2.1.1 a1.2.2.1.1) (x8 a0.2.2.1.2 a1.2.2.1.2))
   (o5 (Xy a0.2.2.2 a1.2.2.2) λ(x:Bool)=>some x) (some false))
  (some false))
 (some false)
def QD(a0:List bn)(a1:List bn):c9n:=
 l7 (D9 (x8 (o9 a0) (o9 a1))) (some false)
 (o5
  (V7
   (λ(x:Int)=>
    l7 (E9 x (o9 a0))
     (l7 (E9 x (o9 a1))
      (o5 (F9 a0 x) λ(x_1:bn)=>
       o5 (F9 a1 x) λ(x_2:bn)=>
        o5 (Uh x_1 x_2) λ(x_3:Bool)=>
         l7 (D9 x_3) (some (Out.rt false)) (some (Out.nx (A7 IntKind.i64 x 1))))
      (some (Out.ex PUnit.unit)))
     (some (Out.ex PUnit.unit)))
   0)
  λ(o:PUnit⊕Bool)=>X9 o (λ(y:PUnit)=>some true) λ(r:Bool)=>some r)
def Dh(a0:List bH)(a1:List bH):c9n:=
 l7 (D9 (x8 (o9 a0) (o9 a1))) (some false)
 (o5
  (V7
   (λ(x:Int)=>
    l7 (E9 x (o9 a0))
     (l7 (E9 x (o9 a1))
      (o5 (F9 a0 x) λ(x_1:bH)=>
       o5 (F9 a1 x) λ(x_2:bH)=>
        l7 (D9 (V9 (seq x_1.1 x_2.1) (V9 (x8 x_1.2.1 x_2.2.1) (x8 x_1.2.2 x_2.2.2))))
         (some (Out.rt false)) (some (Out.nx (A7 IntKind.i64 x 1))))
      (some (Out.ex PUnit.unit)))
     (some (Out.ex PUnit.unit)))
   0)
  λ(o:PUnit⊕Bool)=>X9 o (λ(y:PUnit)=>some true) λ(r:Bool)=>some r)
def AX(a0:S9)(a1:S9):c9n:=
 o5
 (o5 (Ug a0.1 a1.1) λ(x:Bool)=>
  l7 (D9 x) (some (Sum.inr false))
   (o5 (QD a0.2.1 a1.2.1) λ(x:Bool)=>
    l7 (D9 x) (some (Sum.inr false))
     (l7 (D9 (x8 (o9 a0.2.2) (o9 a1.2.2))) (some (Sum.inr false)) (some (Sum.inl PUnit.unit)))))
 λ(o:PUnit⊕Bool)=>
 X9 o
  (λ(x:PUnit)=>
   o5
    (V7
     (λ(x:Int)=>
      l7 (E9 x (o9 a0.2.2))
       (o5 (F9 a0.2.2 x) λ(x_1:A8)=>
        o5 (F9 a1.2.2 x) λ(x_2:A8)=>
         l7 (D9 (seq x_1.1 x_2.1)) (some (Out.rt false))
          (l7 (D9 (x8 x_1.2.1 x_2.2.1)) (some (Out.rt false))
           (o5 (Dh x_1.2.2.1 x_2.2.2.1) λ(x_3:Bool)=>
            l7 (D9 x_3) (some (Out.rt false))
             (o5 (Dh x_1.2.2.2.1 x_2.2.2.2.1) λ(x_4:Bool)=>
              l7 (D9 x_4) (some (Out.rt false)) (some (Out.nx (A7 IntKind.i64 x 1)))))))
       (some (Out.ex PUnit.unit)))
     0)
    λ(o:PUnit⊕Bool)=>X9 o (λ(y:PUnit)=>some true) λ(r:Bool)=>some r)
  λ(r:Bool)=>some r
def Lc(a0:S9)(a1:c9i):c9o:=
 o5
 (V7
  (λ(x:Int)=>
   l7 (E9 x (o9 a0.2.2))
    (o5 (F9 a0.2.2 x) λ(x_1:A8)=>
     l7 (seq x_1.1 a1) (some (Out.rt x)) (some (Out.nx (A7 IntKind.i64 x 1))))
    (some (Out.ex PUnit.unit)))
  0)
 λ(o:PUnit⊕Int)=>X9 o (λ(y:PUnit)=>some (-1)) λ(r:Int)=>some r
def Og(a0:A8)(a1:c9i):c9o:=
 o5
 (V7
  (λ(x:Int)=>
   l7 (E9 x (o9 a0.2.2.2.2))
    (o5 (F9 a0.2.2.2.2 x) λ(x_1:V8)=>
     l7 (seq x_1.1 a1) (some (Out.rt x)) (some (Out.nx (A7 IntKind.i64 x 1))))
    (some (Out.ex PUnit.unit)))
  0)
 λ(o:PUnit⊕Int)=>X9 o (λ(y:PUnit)=>some (-1)) λ(r:Int)=>some r
def yR(a0:S9)(a1:c9i)(a2:c9i):Option (A8×Int×Bool):=
 o5 (Lc a0 a1) λ(x:Int)=>
 l7 (E9 x 0) (some (([],0,[],[],[]),0,false))
  (o5 (F9 a0.2.2 x) λ(x_1:A8)=>
   o5 (Og x_1 a2) λ(x_2:Int)=>
    l7 (E9 x_2 0) (some (([],0,[],[],[]),0,false))
     (o5 (F9 a0.2.2 x) λ(x:A8)=>some (x,x_2,true)))
def FU(a0:A8)(a1:Int):Option c9i:=
 l7 (E9 a1 0) (some [])
 (l7 (N7 (o9 a0.2.2.2.1) a1) (some []) (o5 (F9 a0.2.2.2.1 a1) λ(x:bH)=>some x.1))
def Au(a0:A8)(a1:Int):Option c9i:=
 l7 (E9 a1 0) (some [])
 (l7 (N7 (o9 a0.2.2.2.2) a1) (some []) (o5 (F9 a0.2.2.2.2 a1) λ(x:V8)=>some x.1))
def Om(a0:List ak)(a1:List ak):c9n:=
 l7 (D9 (x8 (o9 a0) (o9 a1))) (some false)
 (o5
  (V7
   (λ(x:Int)=>
    l7 (E9 x (o9 a0))
     (l7 (E9 x (o9 a1))
      (o5 (F9 a0 x) λ(x_1:ak)=>
       o5 (F9 a1 x) λ(x_2:ak)=>
        l7 (D9 (V9 (x8 x_1.1 x_2.1) (x8 x_1.2 x_2.2))) (some (Out.rt false))
         (some (Out.nx (A7 IntKind.i64 x 1))))
      (some (Out.ex PUnit.unit)))
     (some (Out.ex PUnit.unit)))
   0)
  λ(o:PUnit⊕Bool)=>X9 o (λ(y:PUnit)=>some true) λ(r:Bool)=>some r)
def Qq(a0:A8)(a1:Int)(a2:A8)(a3:Int):c9n:=
 o5 (F9 a0.2.2.2.2 a1) λ(x:V8)=>
 o5 (F9 a2.2.2.2.2 a3) λ(x_1:V8)=>
  o5 (FU a0 x.2.1) λ(x_2:c9i)=>
   o5 (FU a2 x_1.2.1) λ(x_3:c9i)=>
    l7 (seq x_2 x_3)
     (o5 (Au a0 x.2.2.1) λ(x_4:c9i)=>
      o5 (Au a2 x_1.2.2.1) λ(x_5:c9i)=>
       l7 (seq x_4 x_5)
        (l7 (x8 x.2.2.2.1 x_1.2.2.2.1)
         (l7 (V9 (x8 x.2.2.2.2.1.1 x_1.2.2.2.2.1.1) (x8 x.2.2.2.2.1.2 x_1.2.2.2.2.1.2))
          (o5 (Om x.2.2.2.2.2.1 x_1.2.2.2.2.2.1) λ(x_6:Bool)=>
           l7 x_6
            (o5 (Om x.2.2.2.2.2.2.1 x_1.2.2.2.2.2.2.1) λ(x_7:Bool)=>
             l7 x_7 (some (seq x.2.2.2.2.2.2.2 x_1.2.2.2.2.2.2.2)) (some false))
            (some false))
          (some false))
         (some false))
        (some false))
     (some false)
def Ci(a0:S9)(a1:S9):Option (List O0):=
 o5
 (ay
  (λ(x:List O0×Int)=>
   l7 (E9 x.2 (o9 a0.2.2))
    (o5 (F9 a0.2.2 x.2) λ(x_1:A8)=>
     o5
      (ay
       (λ(x:List O0×Int)=>
        l7 (E9 x.2 (o9 x_1.2.2.2.2))
         (o5 (F9 x_1.2.2.2.2 x.2) λ(x_2:V8)=>
          o5 (yR a1 x_1.1 x_2.1) λ(x_3:A8×Int×Bool)=>
           l7 (D9 x_3.2.2)
            (o5 (F9 x_1.2.2.2.2 x.2) λ(x_4:V8)=>
             o5 (di x.1 [(x_1.1,x_4.1,1)]) λ(x_5:List O0)=>
              some (Sum.inl (x_5,A7 IntKind.i64 x.2 1)))
            (o5 (Qq x_1 x.2 x_3.1 x_3.2.1) λ(x_4:Bool)=>
             l7 (D9 x_4)
              (o5 (F9 x_1.2.2.2.2 x.2) λ(x_5:V8)=>
               o5 (di x.1 [(x_1.1,x_5.1,3)]) λ(x_6:List O0)=>
                some (Sum.inl (x_6,A7 IntKind.i64 x.2 1)))
              (some (Sum.inl (x.1,A7 IntKind.i64 x.2 1)))))
         (some (Sum.inr x.1)))
       (x.1,0))
      λ(y:List O0)=>some (Sum.inl (y,A7 IntKind.i64 x.2 1)))
    (some (Sum.inr x.1)))
  ([],0))
 λ(y:List O0)=>
 o5
  (ay
   (λ(x:List O0×Int)=>
    l7 (E9 x.2 (o9 a1.2.2))
     (o5 (F9 a1.2.2 x.2) λ(x_1:A8)=>
      o5
       (ay
        (λ(x:List O0×Int)=>
         l7 (E9 x.2 (o9 x_1.2.2.2.2))
          (o5 (F9 x_1.2.2.2.2 x.2) λ(x_2:V8)=>
           o5 (yR a0 x_1.1 x_2.1) λ(x_3:A8×Int×Bool)=>
            l7 (D9 x_3.2.2)
             (o5 (F9 x_1.2.2.2.2 x.2) λ(x_4:V8)=>
              o5 (di x.1 [(x_1.1,x_4.1,2)]) λ(x_5:List O0)=>
               some (Sum.inl (x_5,A7 IntKind.i64 x.2 1)))
             (some (Sum.inl (x.1,A7 IntKind.i64 x.2 1))))
          (some (Sum.inr x.1)))
        (x.1,0))
       λ(y:List O0)=>some (Sum.inl (y,A7 IntKind.i64 x.2 1)))
     (some (Sum.inr x.1)))
   (y,0))
  λ(y:List O0)=>some y
def Xj(a0:c9h)(a1:Int):c9n:=
 o5
 (V7
  (λ(x:Int)=>
   l7 (E9 x (o9 a0))
    (o5 (F9 a0 x) λ(x_1:Int)=>
     l7 (x8 x_1 a1) (some (Out.rt true)) (some (Out.nx (A7 IntKind.i64 x 1))))
    (some (Out.ex PUnit.unit)))
  0)
 λ(o:PUnit⊕Bool)=>X9 o (λ(y:PUnit)=>some false) λ(r:Bool)=>some r
def FV(a0:A8)(a1:c9h)(a2:c9i):c9n:=
 o5
 (V7
  (λ(x:Int)=>
   l7 (E9 x (o9 a0.2.2.2.2))
    (o5 (F9 a0.2.2.2.2 x) λ(x_1:V8)=>
     l7 (seq x_1.1 a2)
      (o5 (F9 a0.2.2.2.2 x) λ(x_2:V8)=>
       o5 (Xj a1 x_2.2.1) λ(x_3:Bool)=>
        l7 x_3 (some (Out.rt true)) (some (Out.nx (A7 IntKind.i64 x 1))))
      (some (Out.nx (A7 IntKind.i64 x 1))))
    (some (Out.ex PUnit.unit)))
  0)
 λ(o:PUnit⊕Bool)=>X9 o (λ(y:PUnit)=>some false) λ(r:Bool)=>some r
def zM(a0:S9)(a1:Int)(a2:Int)(a3:c9i)(a4:c9i):c9n:=
 o5 (F9 a0.2.2 a1) λ(x:A8)=>
 o5 (oV x a2) λ(x_1:c9h)=>
  o5 (di x_1 [a2]) λ(x_2:c9h)=>
   o5
    (l7 (seq x.1 a3)
     (o5 (FV x x_2 a4) λ(x:Bool)=>l7 x (some (Sum.inr true)) (some (Sum.inl PUnit.unit)))
     (some (Sum.inl PUnit.unit)))
    λ(o:PUnit⊕Bool)=>
    X9 o
     (λ(x_3:PUnit)=>
      l7 (E9 x.2.1 0) (some false)
       (o5 (F9 a0.2.2 x.2.1) λ(x_4:A8)=>
        o5 (Ar x a2) λ(x:c9h)=>
         o5
          (ay
           (λ(x_5:c9h×Int)=>
            l7 (E9 x_5.2 (o9 x))
             (o5 (F9 x x_5.2) λ(x_6:Int)=>
              o5 (O8 x (U6 x_5.2)) λ(x_7:Int)=>
               o5 (di x_5.1 [x_7]) λ(x_8:c9h)=>
                o5 (F9 x x_5.2) λ(x_9:Int)=>
                 o5 (O8 x (U6 x_5.2)) λ(x:Int)=>
                  o5 (oV x_4 x) λ(x:c9h)=>
                   o5 (di x_8 x) λ(x:c9h)=>
                    some (Sum.inl (x,A7 IntKind.i64 x_5.2 1)))
             (some (Sum.inr x_5.1)))
           ([],0))
          λ(y:c9h)=>
          l7 (seq x_4.1 a3) (o5 (FV x_4 y a4) λ(x:Bool)=>some x) (some false)))
     λ(r:Bool)=>some r
def Ld(a0:S9)(a1:S9)(a2:Int)(a3:dI)(a4:Int):Option (X4×Int):=
 o5
 (o5 (zG a0) λ(x:F6)=>
  l7 (D9 (x8 x.1 0)) (some (Sum.inr (((0,0,0),(0,0,0),0,0,[]),1)))
   (o5 (zG a1) λ(x:F6)=>
    l7 (D9 (x8 x.1 0)) (some (Sum.inr (((0,0,0),(0,0,0),0,0,[]),1)))
     (some (Sum.inl ((0,0,0),(0,0,0),0,0,[])))))
 λ(o:X4⊕X4×Int)=>
 X9 o
  (λ(x:X4)=>
   o5
    (l7 (E9 a2 0) (some (Sum.inr (((0,0,0),(0,0,0),0,0,[]),6)))
     (l7 (N7 (o9 a0.2.2) a2) (some (Sum.inr (((0,0,0),(0,0,0),0,0,[]),6)))
      (l7 (E9 a4 0) (some (Sum.inr (((0,0,0),(0,0,0),0,0,[]),6)))
       (o5 (F9 a0.2.2 a2) λ(x_1:A8)=>
        l7 (N7 (o9 x_1.2.2.2.1) a4) (some (Sum.inr (((0,0,0),(0,0,0),0,0,[]),6)))
         (some (Sum.inl x))))))
    λ(o:X4⊕X4×Int)=>
    X9 o
     (λ(x:X4)=>
      o5 (AX a0 a1) λ(x:Bool)=>
       l7 (D9 x) (some (((0,0,0),(0,0,0),0,0,[]),8))
        (o5 (FP a0 a2 a3 a4) λ(x:D8×Int×F6)=>
         o5 (FP a1 a2 a3 a4) λ(x_1:D8×Int×F6)=>
          o5 (Ci a0 a1) λ(x_2:List O0)=>
           o5
            (ay
             (λ(x:X4×Int)=>
              l7 (E9 x.2 (o9 x_2))
               (o5 (F9 x_2 x.2) λ(x_3:O0)=>
                o5 (O8 x_2 (U6 x.2)) λ(x_4:O0)=>
                 l7 (D9 (x8 x_4.2.2 2))
                  (o5 (zM a0 a2 a4 x_4.1 x_4.2.1) λ(x_5:Bool)=>
                   l7 x_5
                    (o5 (di x.1.2.2.2.2 [x_4]) λ(x_6:List O0)=>
                     some
                      (Sum.inl
                       ((x.1.1,x.1.2.1,x.1.2.2.1,x.1.2.2.2.1,x_6),A7 IntKind.i64 x.2 1)))
                    (l7 (D9 (x8 x_4.2.2 1))
                     (o5 (zM a1 a2 a4 x_4.1 x_4.2.1) λ(x_6:Bool)=>
                      l7 x_6
                       (o5 (di x.1.2.2.2.2 [x_4]) λ(x_7:List O0)=>
                        some
                         (Sum.inl
                          ((x.1.1,x.1.2.1,x.1.2.2.1,x.1.2.2.2.1,x_7),
                           A7 IntKind.i64 x.2 1)))
                       (some (Sum.inl (x.1,A7 IntKind.i64 x.2 1))))
                     (some (Sum.inl (x.1,A7 IntKind.i64 x.2 1)))))
                  (l7 (D9 (x8 x_4.2.2 1))
                   (o5 (zM a1 a2 a4 x_4.1 x_4.2.1) λ(x_5:Bool)=>
                    l7 x_5
                     (o5 (di x.1.2.2.2.2 [x_4]) λ(x_6:List O0)=>
                      some
                       (Sum.inl
                        ((x.1.1,x.1.2.1,x.1.2.2.1,x.1.2.2.2.1,x_6),
                         A7 IntKind.i64 x.2 1)))
                     (some (Sum.inl (x.1,A7 IntKind.i64 x.2 1))))
                   (some (Sum.inl (x.1,A7 IntKind.i64 x.2 1)))))
               (some (Sum.inr x.1)))
             ((x.1,x_1.1,x.2.2.1,x_1.2.2.1,[]),0))
            λ(y:X4)=>some (y,0)))
     λ(r:X4×Int)=>some r)
  λ(r:X4×Int)=>some r
end
end Gt
