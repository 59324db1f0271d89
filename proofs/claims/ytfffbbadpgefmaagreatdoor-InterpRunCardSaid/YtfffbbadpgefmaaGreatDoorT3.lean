import Derived.Test.YtfffbbadpgefmaaGreatDoorT2
set_option linter.all false
open Go Go.GP
namespace Gt
set_option maxRecDepth 100000
noncomputable section
def b3k:List MG:=[uiM]
def b7a:Ret:=⟨[(.tmp 2,uiM)],[]⟩
def d8L:Env:=⟨33,eqs,tt,gl,[],[],[],[],[]⟩
def c6o:Ann:=.seq lfA (.seq (.joinR [(2,17)] ⟨[],[]⟩ lfA) lfA)
def aU (a0:Int):Option Int:=l9 (l7 (ile 1 a0) (l7 (ile a0 9) (some (.inr 0)) (l7 (ile 35 a0) (l7 (ile a0 39) (some
 (.inr 0)) (some (.inl ()))) (some (.inl ())))) (l7 (ile 35 a0) (l7 (ile a0 39) (some (.inr 0)) (some (.inl
 ()))) (some (.inl ())))) fun o=>L8 o (fun(x:PUnit)=>l7 (ieq a0 10) (l7 (ieq a0 10) (some 1) (l7
 (ieq a0 26) (some 3) (l7 (ile 11 a0) (l7 (ile a0 30) (some 2) (some (-1))) (some (-1))))) (l7 (ieq a0 25) (l7 (ieq a0 25) (some 1) (l7
 (ieq a0 26) (some 3) (l7 (ile 11 a0) (l7 (ile a0 30) (some 2) (some (-1))) (some (-1))))) (l7 (ieq a0 31) (l7 (ieq a0 31) (some 1) (l7
 (ieq a0 26) (some 3) (l7 (ile 11 a0) (l7 (ile a0 30) (some 2) (some (-1))) (some (-1))))) (l7 (ieq a0 32) (l7 (ieq a0 32) (some 1) (l7
 (ieq a0 26) (some 3) (l7 (ile 11 a0) (l7 (ile a0 30) (some 2) (some (-1))) (some (-1))))) (l7 (ieq a0 33) (l7 (ieq a0 33) (some 1) (l7
 (ieq a0 26) (some 3) (l7 (ile 11 a0) (l7 (ile a0 30) (some 2) (some (-1))) (some (-1))))) (l7 (ieq a0 34) (some 1) (l7 (ieq a0 26) (some
 3) (l7 (ile 11 a0) (l7 (ile a0 30) (some 2) (some (-1))) (some (-1)))))))))) fun r=>some r
def a7O:FSpec:=mkS b3k b7a fun x=>aU x
def b2F:List MG:=[(false,(.dat y12))]
def b6v:Ret:=⟨[(.tmp 2,uoM),(.tmp 3,uiM),(.tmp 4,uiM)],[]⟩
def d8d:Env:=⟨70,eqs,tt,gl,[(202,a7O)],[],[],[],[]⟩
def c5E:Ann:=.seq lfA (.seq lfA (.seq lfA (.seq lfA (.seq (.seq lfA (.blk (.loopR [(2,10),(16,64)] ⟨[(5,uoM),(6,uoM),(7,uiM)],[]⟩ 0 ⟨[(5,uoM),(6,uoM)],[]⟩ lfA))) lfA))))
def jK (a0:List F6):Option (List Int×F6):=l7 (ilt 48 (o8 a0)) (some ([],0,4)) (l7 (ieq (o8 a0) 0) (some ([],0,
 5)) (l9 (J9 (fun(x:List Int×List Int×Int)=>l7 (ilt x.2.2 (o8 a0)) (l9 (lat a0 x.2.2) fun x_1=>l9 (aU
 x_1.1) fun x_2=>l7 (ilt x_2 0) (some (.rt ([],x.2.2,2))) (l7 (ilt (o8 x.2.1) x_2) (some (.rt ([],x.2.2,5))) (l7 (ilt 0
 x_2) (l9 (lat x.2.1 (G8 .i64 (o8 x.2.1) x_2)) fun x_3=>l9 (I9 x.2.1 (toN (G8 .i64 (o8 x.2.1) x_2))) fun(x_4
 :Int)=>l7 (jm 0 (G8 .i64 (o8 x.2.1) x_2) (o8 x.2.1)) (l9 (X9 (gu x.2.1 (toN 0) (toN (G8 .i64 (o8 x.2.1)
 x_2))) [x_4]) fun x_5=>l9 (X9 x.1 [x_4]) fun x_6=>l7 (ilt 12 (o8 x_5)) (some (.rt ([],x.2.2,16))) (some
 (.nx (x_6,x_5,x8 .i64 x.2.2 1)))) none) (l9 (X9 x.2.1 [x.2.2]) fun x_3=>l9 (X9 x.1 [x.2.2]) fun x_4=>l7 (ilt 12 (o8 x_3)) (some (.rt ([],x.2.2,16))) (some (.nx (x_4,x_3,x8 .i64 x.2.2 1))))))) (some (.ex (x.1,
 x.2.1)))) ([],[],0)) fun o=>L8 o (fun(y:List Int×List Int)=>l7 (ilt 1 (o8 y.2)) (some
 ([],o8 a0,4)) (some (y.1,0,0))) fun r=>some r))
def b1i:FSpec:=mkS b2F b6v fun x=>jK x
def b5s:List MG:=[uiM]
def b9i:Ret:=⟨[(.tmp 2,ubM)],[]⟩
def e0T:Env:=⟨35,eqs,tt,gl,[],[],[],[],[]⟩
def c8w:Ann:=.seq lfA (.seq (.joinR [(2,17)] ⟨[],[]⟩ lfA) lfA)
def az (a0:Int):Option Bool:=l9 (l7 (ile 1 a0) (l7 (ile a0 8) (some (.inr true)) (l7 (ile 36 a0) (l7 (ile a0 39)
 (some (.inr true)) (some (.inl ()))) (some (.inl ())))) (l7 (ile 36 a0) (l7 (ile a0 39) (some (.inr true)) (some
 (.inl ()))) (some (.inl ())))) fun o=>L8 o (fun(x:PUnit)=>l7 (ieq a0 14) (some true) (l7 (ieq
 a0 15) (some true) (l7 (ieq a0 16) (some true) (l7 (ieq a0 33) (some true) (some (ieq a0 34)))))) fun r=>some r
def d4E:FSpec:=mkS b5s b9i fun x=>az x
def b5A:List MG:=[uiM]
def b9q:Ret:=⟨[(.cell 2 52,(true,(.dat y2)))],[]⟩
def e1b:Env:=⟨5,eqs,tt,gl,[],[],[],[],[]⟩
def c8F:Ann:=.leaf
def bD (a0:Int):Option F6:=some (a0,0)
def a5f:FSpec:=mkS b5A b9q fun x=>bD x
def b5t:List MG:=[(true,(.dat y2)),(true,(.dat y55))]
def b9j:Ret:=⟨[(.tmp 4,ubM)],[]⟩
def e0U:Env:=⟨62,eqs,tt,gl,[(347,a5f),(178,c1s)],[],[],[],[]⟩
def c8x:Ann:=.seq lfA (.seq (.seq lfA (.blk (.seq (.join [(9,15)] ⟨[(9,ubM)],[]⟩ lfA) (.cond lfA (.seq (.join [(34,38)] ⟨[(34,ubM)],[]⟩ lfA) lfA))))) lfA)
def jW (a0:F6) (a1:I8):Option Bool:=l9 (l7 (ieq a0.1 1) (some (ieq a0.1 1)) (l7 (ieq a0.1 2) (some (ieq a0.1 2))
 (l7 (ieq a0.1 3) (some (ieq a0.1 3)) (l7 (ieq a0.1 4) (some (ieq a0.1 4)) (some (ieq a0.1 5)))))) fun x=>l7 x (l9 (bD
 a0.1) fun x=>l9 (fU x a1.1) fun x=>l7 (ile x.1 a0.2) (some (ile a0.2 x.2)) (some false)) (l9 (l7 (ieq
 a0.1 14) (some (ieq a0.1 14)) (l7 (ieq a0.1 15) (some (ieq a0.1 15)) (some (ieq a0.1 16)))) fun x=>l7 x (l7 (ile 0 a0.2) (some
 (ile a0.2 5)) (some false)) (l7 (ieq a0.1 34) (l7 (ile 0 a0.2) (some (ile (X5 a0.2 8) 5)) (some false)) (l7 (ieq a0.1 6) (some (ile 0
 a0.2)) (some true))))
def d4F:FSpec:=mkS b5t b9j fun x=>jW x.1 x.2
def b5u:List MG:=[(true,(.dat y2)),(true,(.dat y55))]
def b9k:Ret:=⟨[(.tmp 4,ubM)],[]⟩
def e0V:Env:=⟨103,eqs,tt,gl,[],[],[],[],[]⟩
def c8y:Ann:=.seq lfA (.seq (.seq lfA (.blk (.seq lfA (.cond lfA (.seq lfA (.cond lfA (.seq lfA (.cond lfA (.seq lfA (.cond lfA (.seq lfA (.cond lfA (.seq lfA (.cond lfA (.seq (.join [(83,88)] ⟨[(83,ubM)],[]⟩ lfA) lfA))))))))))))))) lfA)
def lN (a0:F6) (a1:I8):Option Bool:=l7 (ieq a0.1 6) (l7 (ilt (X4 .i64 a0.2 16) (o8 a1.1)) (l9 (lat
 a1.1 (X4 .i64 a0.2 16)) fun x=>some (ilt (X5 a0.2 16) (o8 x.2))) (some false)) (l7 (ieq a0.1 7) (l7 (ile 0 a0.2) (some
 (ilt a0.2 (o8 a1.2.2.1))) (some false)) (l7 (ieq a0.1 8) (l7 (ile 0 a0.2) (some (ilt a0.2 (o8 a1.2.2.2.1))) (some false)) (l7 (ieq a0.1
 33) (l7 (ile 0 a0.2) (some (ilt a0.2 (o8 a1.2.1))) (some false)) (l7 (ieq a0.1 34) (some (ilt (X4 .i64 a0.2 8) (o8 a1.2.1)))
 (l7 (ieq a0.1 35) (some a1.2.2.2.2.2) (l9 (l7 (ieq a0.1 36) (some (ieq a0.1 36)) (l7 (ieq a0.1 37) (some (ieq a0.1 37)) (l7 (ieq a0.1
 38) (some (ieq a0.1 38)) (some (ieq a0.1 39))))) fun x=>l7 x (l7 a1.2.2.2.2.2 (l7 (ile 0 a0.2) (some (ilt a0.2 (o8
 a1.2.2.2.2.1))) (some false)) (some false)) (some true)))))))
def d4G:FSpec:=mkS b5u b9k fun x=>lN x.1 x.2
def b5C:List MG:=[uiM]
def b9s:Ret:=⟨[(.tmp 2,ubM)],[]⟩
def e1d:Env:=⟨13,eqs,tt,gl,[],[],[],[],[]⟩
def c8H:Ann:=.leaf
def qo (a0:Int):Option Bool:=l7 (ieq a0 2) (some true) (l7 (ieq a0 3) (some true) (some (ieq a0 4)))
def b1v:FSpec:=mkS b5C b9s fun x=>qo x
def b5B:List MG:=[uiM]
def b9r:Ret:=⟨[(.tmp 2,ubM)],[]⟩
def e1c:Env:=⟨9,eqs,tt,gl,[(349,b1v)],[],[],[],[]⟩
def c8G:Ann:=.leaf
def kL (a0:Int):Option Bool:=l9 (qo a0) fun x=>l7 x (some true) (some (ieq a0 5))
def c1W:FSpec:=mkS b5B b9r fun x=>kL x
def b5v:List MG:=[(true,(.dat y2)),(true,(.dat y55))]
def b9l:Ret:=⟨[(.cell 4 52,(true,(.dat y2))),(.tmp 5,ubM)],[]⟩
def e0W:Env:=⟨91,eqs,tt,gl,[(347,a5f),(228,a5e),(348,c1W)],[],[],[],[]⟩
def c8A:Ann:=.seq lfA (.seq lfA (.seq (.join [(6,7),(9,53),(7000384,7000385)] ⟨[(6,(false,(.box (.dat y2))))],[]⟩ (.seq lfA (.blk (.seq lfA (.cond lfA (.seq lfA (.cond lfA (.seq lfA (.cond lfA (.seq lfA (.cond lfA (.seq lfA (.cond lfA (.seq (.join [(42,47)] ⟨[(42,ubM)],[]⟩ lfA) lfA)))))))))))))) lfA))
def eU (a0:F6) (a1:I8):Option (F6×Bool):=l9 (l7 (ieq a0.1 6) (some (6,X4 .i64 a0.2 16)) (l7 (ieq
 a0.1 7) (l9 (lat a1.2.2.1 a0.2) fun x=>some x) (l7 (ieq a0.1 8) (l9 (lat a1.2.2.2.1 a0.2) fun x=>some x) (l7 (ieq
 a0.1 9) (l9 (bD 5) fun x=>some x) (l7 (ieq a0.1 35) (l9 (bD 2) fun x=>some x) (l9 (l7 (ieq
 a0.1 36) (some (ieq a0.1 36)) (l7 (ieq a0.1 37) (some (ieq a0.1 37)) (l7 (ieq a0.1 38) (some (ieq a0.1 38)) (some (ieq a0.1 39))))) fun(x:
 Bool)=>l7 x (l9 (lat a1.2.2.2.2.1 a0.2) fun x=>some x) (l9 (bD a0.1) fun x=>some x))))))) fun x
 =>l9 (X6 x a1.1) fun x_1=>l7 (ieq a0.1 36) (l7 x_1 (l7 (ieq x.1 2) (some (x,true)) (some (x,ieq x.1 3))) (some
 (x,false))) (l7 (ieq a0.1 37) (l7 (ieq a0.1 37) (l7 x_1 (some (x,ieq x.1 1)) (some (x,false))) (l7 (ieq a0.1 39) (l7 x_1 (l9
 (kL x.1) fun x_2=>some (x,x_2)) (some (x,false))) (some (x,x_1)))) (l7 (ieq a0.1 38) (l7 x_1 (some (x,ieq x.1 1))
 (some (x,false))) (l7 (ieq a0.1 39) (l7 x_1 (l9 (kL x.1) fun x_2=>some (x,x_2)) (some (x,false))) (some (x,
 x_1)))))
def d4H:FSpec:=mkS b5v b9l fun x=>eU x.1 x.2
def b5w:List MG:=[(true,(.dat y2)),(true,(.dat y2)),(true,(.dat y55))]
def b9m:Ret:=⟨[(.cell 6 52,(true,(.dat y2))),(.tmp 7,ubM)],[]⟩
def e0X:Env:=⟨82,eqs,tt,gl,[(349,b1v),(347,a5f),(228,a5e)],[],[],[],[]⟩
def c8B:Ann:=.seq lfA (.seq (.seq lfA (.blk (.seq lfA (.cond lfA (.seq lfA (.cond lfA (.seq (.join [(24,27)] ⟨[(24,ubM)],[]⟩ lfA) lfA))))))) lfA)
def mF (a0:F6) (a1:F6) (a2:I8):Option (F6×Bool):=l7 (ieq a0.1 10) (l9 (qo a1.1) fun x
 =>some (a1,x)) (l7 (ieq a0.1 25) (some (a1,ieq a1.1 1)) (l9 (l7 (ieq a0.1 31) (some (ieq a0.1 31)) (some (ieq a0.1 32))) fun x
 =>l7 x (l9 (bD 2) fun x=>some (x,ieq a1.1 5)) (l7 (ieq a0.1 33) (l9 (lat a2.2.1 a0.2) fun x=>l9
 (X6 x.2.1 a2.1) fun x_1=>l7 x_1 (l9 (X6 x.2.2.1 a2.1) fun x_2=>l7 x_2 (some (x.2.2.1,aH
 (ieq a1.1 x.2.1.1) (ieq a1.2 x.2.1.2))) (some (x.2.2.1,false))) (some (x.2.2.1,false))) (l9 (lat a2.2.1 (X4 .i64 a0.2 8)) fun(x:
 V8)=>l7 (ieq a1.1 3) (l9 (bD 3) fun x_1=>l7 (aH (ieq x.2.1.1 x_1.1) (ieq x.2.1.2 x_1.2)) (l9 (bD 4)
 fun x_2=>some (a1,aH (ieq x.2.2.1.1 x_2.1) (ieq x.2.2.1.2 x_2.2))) (some (a1,false))) (some (a1,false))))))
def d4I:FSpec:=mkS b5w b9m fun x=>mF x.1 x.2.1 x.2.2
def b5D:List MG:=[uiM,uiM,uiM]
def b9t:Ret:=⟨[(.cell 6 52,(true,(.dat y2))),(.tmp 7,ubM)],[]⟩
def e1e:Env:=⟨56,eqs,tt,gl,[(347,a5f)],[],[],[],[]⟩
def c8I:Ann:=.leaf
def JY (a0:Int) (a1:Int) (a2:Int):Option (F6×Bool):=l7 (ieq a0 13) (l9 (bD a1) fun x=>l7 (ieq a2
 2) (l7 (ieq a1 2) (some (x,true)) (some (x,ieq a1 3))) (some (x,false))) (l7 (ieq a0 14) (l9 (bD a1) fun x=>l7
 (ieq a2 4) (l7 (ieq a1 3) (some (x,true)) (some (x,ieq a1 4))) (some (x,false))) (l7 (ieq a1 3) (l7 (ieq a2 3) (l9 (bD 4) fun
 (x:F6)=>some (x,true)) (l9 (bD a1) fun x=>l7 (ieq a2 2) (l7 (ieq a1 2) (some (x,true)) (some (x,ieq a1 3)))
 (some (x,false)))) (l9 (bD a1) fun x=>l7 (ieq a2 2) (l7 (ieq a1 2) (some (x,true)) (some (x,ieq a1 3))) (some (x,
 false)))))
def d4L:FSpec:=mkS b5D b9t fun x=>JY x.1 x.2.1 x.2.2
def b5x:List MG:=[uiM,(true,(.dat y2)),(true,(.dat y2))]
def b9n:Ret:=⟨[(.cell 6 52,(true,(.dat y2))),(.tmp 7,ubM)],[]⟩
def e0Y:Env:=⟨108,eqs,tt,gl,[(349,b1v),(350,d4L),(348,c1W),(347,a5f)],[],[],[],[]⟩
def c8C:Ann:=.seq lfA (.seq (.joinR [(6,99),(4000384,4000385)] ⟨[(6,(false,(.box (.dat y2))))],[]⟩ (.seq lfA (.blk (.seq (.join [(9,12)] ⟨[(9,ubM)],[]⟩ lfA) (.cond lfA (.seq (.join [(21,25)] ⟨[(21,ubM)],[]⟩ lfA) (.cond lfA (.seq lfA (.cond lfA (.seq (.join [(44,47)] ⟨[(44,ubM)],[]⟩ lfA) (.cond lfA (.seq (.join [(56,59)] ⟨[(56,ubM)],[]⟩ lfA) (.cond lfA (.seq (.join [(63,66)] ⟨[(63,ubM)],[]⟩ lfA) lfA)))))))))))))) lfA)
def qm (a0:Int) (a1:F6) (a2:F6):Option (F6×Bool):=l9 (l9 (l7 (ieq a0 11) (some (ieq a0 11)) (some (ieq a0
 12))) fun x=>l7 x (l7 (aH (ieq a1.1 a2.1) (ieq a1.2 a2.2)) (l9 (qo a1.1) fun x=>some (.inr (a1,x)))
 (some (.inr (a1,false)))) (l9 (l7 (ieq a0 13) (some (ieq a0 13)) (l7 (ieq a0 14) (some (ieq a0 14)) (some (ieq a0 15)))) fun x
 =>l7 x (l9 (JY a0 a1.1 a2.1) fun x=>some (.inr x)) (l7 (ieq a0 16) (l7 (ieq a1.1 3) (some (.inr (a1,
 ieq a2.1 3))) (some (.inr (a1,false)))) (l9 (l7 (ieq a0 17) (some (ieq a0 17)) (some (ieq a0 18))) fun x=>l7 x (l7 (aH
 (ieq a1.1 a2.1) (ieq a1.2 a2.2)) (l9 (kL a1.1) fun x=>some (.inr (a1,x))) (some (.inr (a1,false)))) (l9 (l7
 (ieq a0 19) (some (ieq a0 19)) (some (ieq a0 20))) fun x=>l7 x (l9 (bD 1) fun x=>some (.inr (x,aH (ieq
 a1.1 a2.1) (ieq a1.2 a2.2)))) (l9 (l7 (ieq a0 21) (some (ieq a0 21)) (some (ieq a0 22))) fun x=>l7 x (l9 (bD 1) fun(x
 :F6)=>l7 (aH (ieq a1.1 a2.1) (ieq a1.2 a2.2)) (l9 (kL a1.1) fun x_1=>some (.inr (x,x_1))) (some (.inr (x,
 false)))) (l7 (ieq a0 23) (l7 (ieq a0 23) (l7 (ieq a1.1 1) (some (.inr (a1,ieq a2.1 1))) (some (.inr (a1,false)))) (l7 (ieq a0
 27) (l7 (ieq a0 27) (l7 (ieq a1.1 5) (some (.inr (a1,ieq a2.1 2))) (some (.inr (a1,false)))) (some (.inl (0,0)))) (l7 (ieq a0
 28) (l7 (ieq a1.1 5) (some (.inr (a1,ieq a2.1 2))) (some (.inr (a1,false)))) (some (.inl (0,0)))))) (l7 (ieq a0 24) (l7 (ieq
 a1.1 1) (some (.inr (a1,ieq a2.1 1))) (some (.inr (a1,false)))) (l7 (ieq a0 27) (l7 (ieq a0 27) (l7 (ieq a1.1 5) (some (.inr (a1,
 ieq a2.1 2))) (some (.inr (a1,false)))) (some (.inl (0,0)))) (l7 (ieq a0 28) (l7 (ieq a1.1 5) (some (.inr (a1,ieq a2.1 2))) (some
 (.inr (a1,false)))) (some (.inl (0,0))))))))))))) fun o=>L8 o (fun(x:F6)=>l9 (bD 2) fun(x:
 F6)=>l7 (ieq a1.1 5) (some (x,ieq a2.1 5)) (some (x,false))) fun r=>some r
def d4J:FSpec:=mkS b5x b9n fun x=>qm x.1 x.2.1 x.2.2
def b4P:List MG:=[(true,(.dat y2)),(false,(.dat y12)),(true,(.dat y55))]
def b8F:Ret:=⟨[(.cell 6 52,(true,(.dat y2))),(.tmp 7,uiM)],[]⟩
def e0q:Env:=⟨87,eqs,tt,gl,[(335,d4E),(336,d4F),(337,d4G),(338,d4H),(339,d4I),(340,d4J)],[],[],[],[]⟩
def c7T:Ann:=.seq lfA (.seq (.joinR [(6,8),(10,20),(4000384,4000385)] ⟨[(6,(false,(.box (.dat y2))))],[]⟩ lfA) lfA)
def ql (a0:F6) (a1:List F6) (a2:I8):Option (F6×Int):=l9 (l7 (D6 (ieq a0.2 0)) (l9 (az
 a0.1) fun x=>l7 (D6 x) (some (.inr ((0,0),2))) (some (.inl (0,0)))) (some (.inl (0,0)))) fun o
 =>L8 o (fun(x:F6)=>l9 (jW a0 a2) fun x=>l7 (D6 x) (some ((0,0),3)) (l9 (lN a0 a2) fun(x:
 Bool)=>l7 (D6 x) (some ((0,0),6)) (l7 (ieq (o8 a1) 0) (l9 (eU a0 a2) fun x=>l7 (D6 x.2) (some ((0,
 0),8)) (some (x.1,0))) (l7 (ieq (o8 a1) 1) (l9 (lat a1 0) fun x=>l9 (mF a0 x a2) fun x=>l7
 (D6 x.2) (some ((0,0),8)) (some (x.1,0))) (l7 (ieq (o8 a1) 2) (l9 (lat a1 0) fun x=>l9 (lat a1 1) fun x_1=>
 l9 (qm a0.1 x x_1) fun x=>l7 (D6 x.2) (some ((0,0),8)) (some (x.1,0))) (l9 (lat a1 1) fun x=>
 l9 (lat a1 0) fun x_1=>l7 (ieq x_1.1 1) (l9 (lat a1 1) fun x_2=>l9 (lat a1 2) fun x_3=>l7 (D6
 (aH (ieq x_2.1 x_3.1) (ieq x_2.2 x_3.2))) (some ((0,0),8)) (some (x,0))) (l7 (D6 false) (some ((0,0),8)) (some (x,0))))))))) fun(r:
 F6×Int)=>some r
def d4q:FSpec:=mkS b4P b8F fun x=>ql x.1 x.2.1 x.2.2
def b4m:List MG:=[(false,(.dat y12)),(true,(.dat y55))]
def b8c:Ret:=⟨[(.cell 4 52,(true,(.dat y2))),(.tmp 5,uiM),(.tmp 6,uiM)],[]⟩
def d9N:Env:=⟨67,eqs,tt,gl,[(148,b1i),(202,a7O),(305,d4q)],[],[],[],[]⟩
def c7q:Ann:=.seq lfA (.seq lfA (.seq lfA (.seq lfA (.seq (.seq lfA (.blk (.loopR [(4,7),(10,15),(26,64),(4000256,4000257)] ⟨[(4,(false,(.box (.dat y2)))),(10,(false,(.own y2))),(11,uiM)],[]⟩ 0 ⟨[(4,(false,(.box (.dat y2)))),(10,(false,(.own y2)))],[]⟩ lfA))) lfA))))
def yI (a0:List F6) (a1:I8):Option (F6×F6):=l9 (jK a0) fun x=>l7 (D6
 (ieq x.2.2 0)) (some ((0,0),x.2)) (l9 (J9 (fun(x:F6×List F6×Int)=>l7 (ilt x.2.2 (o8 a0)) (l9 (lat a0 x.2.2) fun(x_1:
 F6)=>l9 (aU x_1.1) fun x_2=>l9 (lat a0 x.2.2) fun x_3=>l7 (jm (G8 .i64 (o8 x.2.1) x_2)
 (o8 x.2.1) (o8 x.2.1)) (l9 (ql x_3 (gu x.2.1 (toN (G8 .i64 (o8 x.2.1) x_2)) (toN (o8 x.2.1))) a1) fun x_4=>l7 (D6 (ieq x_4.2 0)) (some (.rt ((0,0),x.2.2,x_4.2))) (l7 (jm 0 (G8 .i64 (o8 x.2.1) x_2) (o8 x.2.1)) (l9
 (X9 (gu x.2.1 (toN 0) (toN (G8 .i64 (o8 x.2.1) x_2))) [x_4.1]) fun x_5=>some (.nx (x.1,x_5,x8 .i64
 x.2.2 1))) none)) none) (some (.ex (x.1,x.2.1)))) ((0,0),[],0)) fun o=>L8 o (fun(y:F6×List
 F6)=>l9 (lat y.2 0) fun x=>l9 (I9 y.2 (toN 0)) fun x=>some (x,0,0)) fun r=>some r)
def d3Y:FSpec:=mkS b4m b8c fun x=>yI x.1 x.2
def b3J:List MG:=[(false,(.dat y12)),(true,(.dat y55)),(true,(.dat y2))]
def b7z:Ret:=⟨[(.tmp 6,uiM)],[]⟩
def d9k:Env:=⟨23,eqs,tt,gl,[(273,d3Y)],[],[],[],[]⟩
def c6N:Ann:=.leaf
def jL (a0:List F6) (a1:I8) (a2:F6):Option Int:=l9 (yI a0 a1) fun x=>l7 (D6
 (ieq x.2.2 0)) (some x.2.2) (l7 (D6 (aH (ieq x.1.1 a2.1) (ieq x.1.2 a2.2))) (some 8) (some 0))
def d3E:FSpec:=mkS b3J b7z fun x=>jL x.1 x.2.1 x.2.2
def b2V:List MG:=[(true,(.dat y27)),uiM,uiM]
def b6L:Ret:=⟨[(.tmp 6,uiM)],[]⟩
def d8w:Env:=⟨144,eqs,tt,gl,[(173,a5d),(112,a7E),(232,d3C),(233,d3D),(234,d3E)],[],[],[],[]⟩
def c5Z:Ann:=.seq lfA (.seq lfA (.seq lfA (.seq lfA (.seq lfA (.seq (.seq lfA (.blk (.loopR [(6,7),(9,11),(27,52)] ⟨[(9,uiM),(10,uiM)],[]⟩ 0 ⟨[(9,uiM)],[]⟩ lfA))) (.seq (.joinR [(6,7),(52,63)] ⟨[],[]⟩ lfA) (.seq (.joinR [(6,7),(63,89)] ⟨[],[]⟩ lfA) (.seq (.joinR [(6,7),(89,112)] ⟨[],[]⟩ lfA) lfA))))))))
def sJ (a0:L6) (a1:Int) (a2:Int):Option Int:=l9 (lat a0.2.2 a1) fun x=>l9 (lat x.2.2.2.2 a2) fun(x_1:
 X0)=>l9 (Y3 x_1.1) fun x_2=>l7 (D6 x_2) (some 2) (l9 (J9 (fun(x_3:F6)=>l7 (ilt x_3.2 a2)
 (l9 (lat x.2.2.2.2 x_3.2) fun x_4=>l7 (seq x_4.1 x_1.1) (some (.rt 7)) (l9 (lat x.2.2.2.2 x_3.2) fun x=>l7
 (ieq x.2.1 x_1.2.1) (some (.nx (x8 .i64 x_3.1 1,x8 .i64 x_3.2 1))) (some (.nx (x_3.1,x8 .i64 x_3.2 1))))) (some
 (.ex x_3.1))) (0,0)) fun o=>L8 o (fun(y:Int)=>l9 (l7 (ilt x_1.2.1 0) (some (.inr 6)) (l7 (ile (o8 x.2.2.2.1)
 x_1.2.1) (some (.inr 6)) (some (.inl ())))) fun o=>L8 o (fun(x_3:PUnit)=>l9 (l7 (D6 (ieq x_1.2.2.1
 (-1))) (l7 (ilt x_1.2.2.1 0) (some (.inr 9)) (l7 (ile a2 x_1.2.2.1) (some (.inr 9)) (l9 (lat x.2.2.2.2 x_1.2.2.1) fun x=>
 l7 (D6 (ieq x.2.1 x_1.2.1)) (some (.inr 9)) (some (.inl ()))))) (some (.inl ()))) fun o=>L8 o (fun
 (x_4:PUnit)=>l9 (l7 (ilt x_1.2.2.2.1 0) (some (.inr 3)) (l7 (ilt 9 x_1.2.2.2.1) (some (.inr 3)) (l9 (pF x_1.2.2.2.2.1)
 fun x=>l7 (D6 x) (some (.inr 3)) (l7 (ieq x_1.2.2.2.2.1.1 x_1.2.2.2.2.1.2) (some (.inr 3)) (some (.inl ()))))))
 fun o=>L8 o (fun(x_5:PUnit)=>l7 (ile 8 y) (some 4) (l9 (sH x_1.2.2.2.2.2.2.2) fun x_6=>l7
 (D6 x_6) (some 2) (l9 (sD a0 a1) fun x_7=>l7 (ilt 0 (o8 x_1.2.2.2.2.2.1)) (l9 (jL
 x_1.2.2.2.2.2.1 x_7 (1,0)) fun x_8=>l7 (D6 (ieq x_8 0)) (some x_8) (l9 (lat x.2.2.2.1 x_1.2.1) fun x=>l9
 (jL x_1.2.2.2.2.2.2.1 x_7 x.2) fun x=>some x)) (l9 (lat x.2.2.2.1 x_1.2.1) fun x=>l9 (jL
 x_1.2.2.2.2.2.2.1 x_7 x.2) fun x=>some x)))) fun r=>some r) fun r=>some r) fun r=>some r) fun r=>
 some r)
def d2Y:FSpec:=mkS b2V b6L fun x=>sJ x.1 x.2.1 x.2.2
def b2f:List MG:=[(true,(.dat y24)),uiM]
def b5T:Ret:=⟨[(.tmp 4,ubM)],[]⟩
def d7A:Env:=⟨14,eqs,tt,gl,[],[],[],[],[]⟩
def c5a:Ann:=.leaf
def xG (a0:A8) (a1:Int):Option Bool:=l7 (ile 0 a1) (some (ilt a1 (o8 a0.2.2.2.1))) (some false)
def c1o:FSpec:=mkS b2f b5T fun x=>xG x.1 x.2
def d0q:List MG:=[(false,(.dat y32)),uiM]
def d1W:Ret:=⟨[(.tmp 4,uoM)],[]⟩
def e81:Env:=⟨48,eqs,tt,gl,[],[],[],[],[]⟩
def d6V:Ann:=.seq lfA (.seq lfA (.seq lfA (.seq (.seq lfA (.blk (.loop [(5,41)] ⟨[(5,uoM),(6,ubM),(7,uiM)],[]⟩ 0 ⟨[(5,uoM),(6,ubM)],[]⟩ lfA))) lfA)))
def iR (a0:List Int) (a1:Int):Option (List Int):=l9 (N8 (fun(x:List Int×Bool×Int)=>l7 (ilt x.2.2 (o8 a0)) (l7
 (D6 x.2.1) (l9 (lat a0 x.2.2) fun x_1=>l7 (ile a1 x_1) (l9 (lat a0 x.2.2) fun x_2=>l7 (ilt a1 x_2) (l9 (X9 x.1
 [a1]) fun x_3=>l9 (lat a0 x.2.2) fun x_4=>l9 (X9 x_3 [x_4]) fun x_5=>some (.inl (x_5,true,x8
 .i64 x.2.2 1))) (l9 (lat a0 x.2.2) fun x_3=>l9 (X9 x.1 [x_3]) fun x_4=>some (.inl (x_4,true,x8
 .i64 x.2.2 1)))) (l9 (lat a0 x.2.2) fun x_2=>l9 (X9 x.1 [x_2]) fun x_3=>some (.inl (x_3,x.2.1,x8
 .i64 x.2.2 1)))) (l9 (lat a0 x.2.2) fun x_1=>l9 (X9 x.1 [x_1]) fun x_2=>some (.inl (x_2,x.2.1,x8
 .i64 x.2.2 1)))) (some (.inr (x.1,x.2.1)))) ([],false,0)) fun y=>l7 (D6 y.2) (l9 (X9 y.1 [a1]) fun(x:
 List Int)=>some x) (some y.1)
def s81:FSpec:=mkS d0q d1W fun x=>iR x.1 x.2
def c9T:List MG:=[(false,(.dat y12))]
def d1y:Ret:=⟨[(.tmp 2,uoM),(.tmp 3,uoM),(.tmp 4,uoM)],[]⟩
def e51:Env:=⟨55,eqs,tt,gl,[(81,s81)],[],[],[],[]⟩
def d6x:Ann:=.seq lfA (.seq lfA (.seq (.seq lfA (.blk (.loop [(5,52)] ⟨[(5,uoM),(6,uoM),(7,uoM),(8,uiM)],[]⟩ 0 ⟨[(5,uoM),(6,uoM),(7,uoM)],[]⟩ lfA))) lfA))
def dW (a0:List F6):Option Z5:=l9 (N8 (fun(x:List Int×List Int×List Int×Int)=>l7 (ilt x.2.2.2
 (o8 a0)) (l9 (lat a0 x.2.2.2) fun x_1=>l7 (ieq x_1.1 7) (l9 (lat a0 x.2.2.2) fun x_2=>l9 (iR x.1
 x_2.2) fun x_3=>l7 (ieq x_1.1 8) (l9 (lat a0 x.2.2.2) fun x_4=>l9 (iR x.2.1 x_4.2) fun x_5
 =>l7 (ile 36 x_1.1) (l7 (ile x_1.1 39) (l9 (lat a0 x.2.2.2) fun x_6=>l9 (iR x.2.2.1 x_6.2) fun x_7=>
 some (.inl (x_3,x_5,x_7,x8 .i64 x.2.2.2 1))) (some (.inl (x_3,x_5,x.2.2.1,x8 .i64 x.2.2.2 1)))) (some (.inl (x_3,
 x_5,x.2.2.1,x8 .i64 x.2.2.2 1)))) (l7 (ile 36 x_1.1) (l7 (ile x_1.1 39) (l9 (lat a0 x.2.2.2) fun x_4=>l9
 (iR x.2.2.1 x_4.2) fun x_5=>some (.inl (x_3,x.2.1,x_5,x8 .i64 x.2.2.2 1))) (some (.inl (x_3,x.2.1,
 x.2.2.1,x8 .i64 x.2.2.2 1)))) (some (.inl (x_3,x.2.1,x.2.2.1,x8 .i64 x.2.2.2 1))))) (l7 (ieq x_1.1 8) (l9 (lat a0
 x.2.2.2) fun x_2=>l9 (iR x.2.1 x_2.2) fun x_3=>l7 (ile 36 x_1.1) (l7 (ile x_1.1 39) (l9 (lat a0
 x.2.2.2) fun x_4=>l9 (iR x.2.2.1 x_4.2) fun x_5=>some (.inl (x.1,x_3,x_5,x8 .i64 x.2.2.2 1)))
 (some (.inl (x.1,x_3,x.2.2.1,x8 .i64 x.2.2.2 1)))) (some (.inl (x.1,x_3,x.2.2.1,x8 .i64 x.2.2.2 1)))) (l7 (ile 36
 x_1.1) (l7 (ile x_1.1 39) (l9 (lat a0 x.2.2.2) fun x_2=>l9 (iR x.2.2.1 x_2.2) fun x_3=>some (.inl
 (x.1,x.2.1,x_3,x8 .i64 x.2.2.2 1))) (some (.inl (x.1,x.2.1,x.2.2.1,x8 .i64 x.2.2.2 1)))) (some (.inl (x.1,x.2.1,
 x.2.2.1,x8 .i64 x.2.2.2 1)))))) (some (.inr (x.1,x.2.1,x.2.2.1)))) ([],[],[],0)) fun y=>some y
def s51:FSpec:=mkS c9T d1y fun x=>dW x
def b2e:List MG:=[(false,(.dat y32)),uiM]
def b5S:Ret:=⟨[(.tmp 4,uoM)],[]⟩
def d7z:Env:=⟨48,eqs,tt,gl,[],[],[],[],[]⟩
def c4Z:Ann:=.seq lfA (.seq lfA (.seq lfA (.seq (.seq lfA (.blk (.loop [(5,41)] ⟨[(5,uoM),(6,ubM),(7,uiM)],[]⟩ 0 ⟨[(5,uoM),(6,ubM)],[]⟩ lfA))) lfA)))
def dJ (a0:List Int) (a1:Int):Option (List Int):=l9 (N8 (fun(x:List Int×Bool×Int)=>l7 (ilt x.2.2 (o8 a0)) (l7
 (D6 x.2.1) (l9 (lat a0 x.2.2) fun x_1=>l7 (ile a1 x_1) (l9 (lat a0 x.2.2) fun x_2=>l7 (ilt a1 x_2) (l9 (X9 x.1
 [a1]) fun x_3=>l9 (lat a0 x.2.2) fun x_4=>l9 (X9 x_3 [x_4]) fun x_5=>some (.inl (x_5,true,x8
 .i64 x.2.2 1))) (l9 (lat a0 x.2.2) fun x_3=>l9 (X9 x.1 [x_3]) fun x_4=>some (.inl (x_4,true,x8
 .i64 x.2.2 1)))) (l9 (lat a0 x.2.2) fun x_2=>l9 (X9 x.1 [x_2]) fun x_3=>some (.inl (x_3,x.2.1,x8
 .i64 x.2.2 1)))) (l9 (lat a0 x.2.2) fun x_1=>l9 (X9 x.1 [x_1]) fun x_2=>some (.inl (x_2,x.2.1,x8
 .i64 x.2.2 1)))) (some (.inr (x.1,x.2.1)))) ([],false,0)) fun y=>l7 (D6 y.2) (l9 (X9 y.1 [a1]) fun(x:
 List Int)=>some x) (some y.1)
def b1f:FSpec:=mkS b2e b5S fun x=>dJ x.1 x.2
def b2d:List MG:=[(true,(.dat y24)),uiM]
def b5R:Ret:=⟨[(.tmp 4,uoM)],[]⟩
def d7y:Env:=⟨93,eqs,tt,gl,[(115,c1o),(51,s51),(114,b1f)],[],[],[],[]⟩
def c4Y:Ann:=.seq lfA (.seq lfA (.seq lfA (.seq (.seq lfA (.blk (.loop [(5,15),(19,92)] ⟨[(5,uoM),(6,uiM)],[]⟩ 0 ⟨[(5,uoM)],[]⟩ (.seq lfA (.seq (.blk (.seq lfA (.seq lfA (.seq lfA (.seq (.seq lfA (.blk (.loop [(5,6),(13,14),(56,74),(24000000,24000001)] ⟨[(5,uoM),(13,uiM)],[]⟩ 2 ⟨[(5,uoM)],[]⟩ lfA))) (.seq lfA (.blk (.loop [(5,6),(14,15),(74,92),(55000000,55000001)] ⟨[(5,uoM),(14,uiM)],[]⟩ 4 ⟨[(5,uoM)],[]⟩ lfA)))))))) lfA))))) lfA)))
def qx (a0:A8) (a1:Int):Option (List Int):=l9 (xG a0 a1) fun x=>l7 (D6 x) (some []) (l9 (N8 (fun
 (x:List Int×Int)=>l7 (ilt x.2 (o8 a0.2.2.2.2)) (l9 (lat a0.2.2.2.2 x.2) fun x_1=>l7 (D6 (ieq x_1.2.1 a1)) (some
 (.inl (x.1,x8 .i64 x.2 1))) (l9 (lat a0.2.2.2.2 x.2) fun x_2=>l9 (dW x_2.2.2.2.2.2.1) fun(x_3:
 Z5)=>l9 (lat a0.2.2.2.2 x.2) fun x_4=>l9 (dW x_4.2.2.2.2.2.2.1) fun x_5=>l9
 (N8 (fun(x:List Int×Int)=>l7 (ilt x.2 (o8 x_3.2.1)) (l9 (lat x_3.2.1 x.2) fun x_6=>l9 (I9 x_3.2.1 (toN x.2)) fun
 (x_7:Int)=>l9 (xG a0 x_7) fun x_8=>l7 x_8 (l9 (lat x_3.2.1 x.2) fun x_9=>l9 (I9 x_3.2.1 (toN x.2)) fun
 (x_10:Int)=>l9 (dJ x.1 x_10) fun x_11=>some (.inl (x_11,x8 .i64 x.2 1))) (some (.inl (x.1,x8
 .i64 x.2 1)))) (some (.inr x.1))) (x.1,0)) fun y=>l9 (N8 (fun(x:List Int×Int)=>l7 (ilt x.2 (o8 x_5.2.1))
 (l9 (lat x_5.2.1 x.2) fun x_6=>l9 (I9 x_5.2.1 (toN x.2)) fun x_7=>l9 (xG a0 x_7) fun x_8=>l7 x_8
 (l9 (lat x_5.2.1 x.2) fun x_9=>l9 (I9 x_5.2.1 (toN x.2)) fun x_10=>l9 (dJ x.1 x_10) fun x_11=>
 some (.inl (x_11,x8 .i64 x.2 1))) (some (.inl (x.1,x8 .i64 x.2 1)))) (some (.inr x.1))) (y,0)) fun y=>
 some (.inl (y,x8 .i64 x.2 1)))) (some (.inr x.1))) ([],0)) fun y=>some y)
def c1n:FSpec:=mkS b2d b5R fun x=>qx x.1 x.2
def d0r:List MG:=[(true,(.dat y24)),uiM]
def d1X:Ret:=⟨[(.tmp 4,(false,(.dat y32)))],[]⟩
def e82:Env:=⟨47,eqs,tt,gl,[(113,c1n),(114,b1f)],[],[],[],[]⟩
def d6W:Ann:=.seq lfA (.seq lfA (.seq (.seq lfA (.blk (.loop [(5,11),(14,46),(7000832,7000833)] ⟨[(5,(false,(.dat y32))),(6,uiM)],[]⟩ 0 ⟨[(5,(false,(.dat y32)))],[]⟩ (.seq lfA (.seq (.blk (.seq lfA (.seq lfA (.blk (.loop [(5,6),(8,11),(22,46)] ⟨[(5,(false,(.dat y32))),(8,uiM)],[]⟩ 2 ⟨[(5,(false,(.dat y32)))],[]⟩ (.seq lfA (.seq (.blk (.seq lfA (.seq lfA (.blk (.loop [(5,6),(10,11),(34,46)] ⟨[(5,(false,(.dat y32))),(10,uiM)],[]⟩ 4 ⟨[(5,(false,(.dat y32)))],[]⟩ lfA))))) lfA))))))) lfA))))) lfA))
def iZ (a0:A8) (a1:Int):Option (List Int):=l9 (qx a0 a1) fun x=>l9 (N8 (fun(x:List Int
 ×Int)=>l7 (ilt x.2 (o8 a0.2.2.2.1)) (l9 (N8 (fun(x_1:List Int×Int)=>l7 (ilt x_1.2 (o8 x.1)) (l9 (lat x.1 x_1.2) fun(x:
 Int)=>l9 (qx a0 x) fun x=>l9 (N8 (fun(x_2:List Int×Int)=>l7 (ilt x_2.2 (o8 x)) (l9 (lat x x_2.2)
 fun x_3=>l9 (I9 x (toN x_2.2)) fun x=>l9 (dJ x_2.1 x) fun x=>some (.inl (x,x8 .i64
 x_2.2 1))) (some (.inr x_2.1))) (x_1.1,0)) fun y=>some (.inl (y,x8 .i64 x_1.2 1))) (some (.inr x_1.1))) (x.1,0))
 fun y=>some (.inl (y,x8 .i64 x.2 1))) (some (.inr x.1))) (x,0)) fun y=>some y
def s82:FSpec:=mkS d0r d1X fun x=>iZ x.1 x.2
def b2s:List MG:=[(true,(.dat y27)),uiM]
def b6i:Ret:=⟨[(.cell 4 120,(true,(.dat y37)))],[]⟩
def d7P:Env:=⟨125,eqs,tt,gl,[(173,a5d),(174,b1j),(176,d2X),(177,d2Y),(82,s82)],[],[],[],[]⟩
def c5p:Ann:=.seq lfA (.seq lfA (.seq lfA (.seq lfA (.seq lfA (.seq (.joinR [(4,5),(6,7),(33,59),(4000256,4000257),(10000384,10000385)] ⟨[(4,(false,(.box (.dat y37)))),(6,(false,(.box (.dat y37))))],[]⟩ lfA) (.seq lfA (.seq lfA (.seq lfA (.seq lfA (.seq (.seq lfA (.blk (.loopR [(4,5),(8,10),(80,98),(38000000,38000001)] ⟨[(4,(false,(.box (.dat y37)))),(8,uiM)],[]⟩ 0 ⟨[(4,(false,(.box (.dat y37))))],[]⟩ lfA))) (.seq (.seq lfA (.blk (.loopR [(4,5),(10,13),(98,124),(102000000,102000001)] ⟨[(4,(false,(.box (.dat y37)))),(10,uiM)],[]⟩ 2 ⟨[(4,(false,(.box (.dat y37))))],[]⟩ (.seq lfA (.seq (.blk (.seq lfA (.seq lfA (.blk (.loopR [(4,5),(12,13),(108,124),(132000000,132000001)] ⟨[(4,(false,(.box (.dat y37)))),(12,uiM)],[]⟩ 4 ⟨[(4,(false,(.box (.dat y37))))],[]⟩ lfA))))) lfA))))) lfA)))))))))))
def qE (a0:L6) (a1:Int):Option E8:=l9 (lat a0.2.2 a1) fun x=>l9 (Y3 x.1) fun(x_1:
 Bool)=>l7 (D6 x_1) (some (2,3,a1,0)) (l9 (bH a0 3 a1 x.1) fun x_2=>l7 x_2 (some (7,3,a1,0)) (l9 (l7
 (D6 (ieq x.2.1 (-1))) (l7 (ilt x.2.1 0) (some (.inr (6,3,a1,0))) (l7 (ile a1 x.2.1) (some (.inr (6,3,a1,0))) (l9 (lat a0.2.2
 x.2.1) fun x=>l7 (D6 (ieq x.2.1 (-1))) (some (.inr (6,3,a1,0))) (some (.inl ((0,0,0,0),0,3,a1,0)))))) (some
 (.inl ((0,0,0,0),0,3,a1,0)))) fun o=>L8 o (fun(x_3:E8×E8)=>l7 (ilt
 12 (o8 x.2.2.1)) (some (4,x_3.2.2.1,x_3.2.2.2.1,112)) (l7 (ilt 12 (o8 x.2.2.2.1)) (some (4,x_3.2.2.1,x_3.2.2.2.1,212)) (l9
 (qA a0 a1) fun x_4=>l7 (D6 (ieq x_4.1 0)) (some x_4) (l9 (J9 (fun(x_5:E8×Int)=>l7 (ilt
 x_5.2 (o8 x.2.2.2.2)) (l9 (sJ a0 a1 x_5.2) fun x=>l7 (D6 (ieq x 0)) (some (.rt (x,3,a1,x8 .i64 300
 x_5.2))) (some (.nx (x_5.1,x8 .i64 x_5.2 1)))) (some (.ex x_5.1))) (x_3.1,0)) fun o=>L8 o (fun(y:
 E8)=>l9 (J9 (fun(x_5:E8×Int)=>l7 (ilt x_5.2 (o8 x.2.2.2.1)) (l9 (iZ x x_5.2) fun x
 =>l9 (J9 (fun(x_6:E8×Int)=>l7 (ilt x_6.2 (o8 x)) (l9 (lat x x_6.2) fun x=>l7 (ieq x x_5.2) (some (.rt
 (9,3,a1,x8 .i64 200 x_5.2))) (some (.nx (x_6.1,x8 .i64 x_6.2 1)))) (some (.ex x_6.1))) (x_5.1,0)) fun o=>L8 o (fun(y:E8)=>some (.nx (y,x8 .i64 x_5.2 1))) fun r=>some (.rt r)) (some (.ex
 x_5.1))) (y,0)) fun o=>L8 o (fun(y:E8)=>some (0,0,0,0)) fun r=>some r) fun(r:
 E8)=>some r)))) fun r=>some r))
def d2C:FSpec:=mkS b2s b6i fun x=>qE x.1 x.2
def d0C:List MG:=[(true,(.dat y27))]
def d2i:Ret:=⟨[(.cell 2 120,(true,(.dat y37)))],[]⟩
def e93:Env:=⟨67,eqs,tt,gl,[(130,d2A),(131,d2B),(132,d2C)],[],[],[],[]⟩
def d7h:Ann:=.seq lfA (.seq lfA (.seq (.seq lfA (.blk (.loopR [(2,5),(14,28),(4000128,4000129)] ⟨[(2,(false,(.box (.dat y37)))),(3,uiM)],[]⟩ 0 ⟨[(2,(false,(.box (.dat y37))))],[]⟩ lfA))) (.seq lfA (.seq (.seq lfA (.blk (.loopR [(2,3),(5,7),(33,47),(22000000,22000001)] ⟨[(2,(false,(.box (.dat y37)))),(5,uiM)],[]⟩ 2 ⟨[(2,(false,(.box (.dat y37))))],[]⟩ lfA))) (.seq lfA (.seq (.seq lfA (.blk (.loopR [(2,3),(7,9),(52,66),(63000000,63000001)] ⟨[(2,(false,(.box (.dat y37)))),(7,uiM)],[]⟩ 4 ⟨[(2,(false,(.box (.dat y37))))],[]⟩ lfA))) lfA))))))
def vG (a0:L6):Option E8:=l7 (ilt 8 (o8 a0.1)) (some (4,1,8,0)) (l9 (J9 (fun(x:E8×Int)=>l7
 (ilt x.2 (o8 a0.1)) (l9 (sF a0 x.2) fun x_1=>l7 (D6 (ieq x_1.1 0)) (some (.rt x_1)) (some (.nx (x.1,
 x8 .i64 x.2 1)))) (some (.ex x.1))) ((0,0,0,0),0)) fun o=>L8 o (fun(y:E8)=>l7 (ilt 8
 (o8 a0.2.1)) (some (4,2,8,0)) (l9 (J9 (fun(x:E8×Int)=>l7 (ilt x.2 (o8 a0.2.1)) (l9 (qF a0 x.2) fun
 (x_1:E8)=>l7 (D6 (ieq x_1.1 0)) (some (.rt x_1)) (some (.nx (x.1,x8 .i64 x.2 1)))) (some (.ex x.1))) (y,0)) fun
 (o:E8⊕E8)=>L8 o (fun(y:E8)=>l7 (ilt 4 (o8 a0.2.2)) (some (4,3,4,0)) (l9 (J9 (fun(x:E8×
 Int)=>l7 (ilt x.2 (o8 a0.2.2)) (l9 (qE a0 x.2) fun x_1=>l7 (D6 (ieq x_1.1 0)) (some (.rt x_1)) (some
 (.nx (x.1,x8 .i64 x.2 1)))) (some (.ex x.1))) (y,0)) fun o=>L8 o (fun(y:E8)=>some (0,
 0,0,0)) fun r=>some r)) fun r=>some r)) fun r=>some r)
def s93:FSpec:=mkS d0C d2i fun x=>vG x
def d0b:List MG:=[(true,(.dat y27))]
def d1G:Ret:=⟨[(.tmp 2,ubM)],[]⟩
def e59:Env:=⟨7,eqs,tt,gl,[(93,s93)],[],[],[],[]⟩
def d6F:Ann:=.leaf
def BJ (a0:L6):Option Bool:=l9 (vG a0) fun x=>some (ieq x.1 0)
def s59:FSpec:=mkS d0b d1G fun x=>BJ x
def b2t:List MG:=[(true,(.dat y3))]
def b6j:Ret:=⟨[(.cell 2 52,(true,(.dat y2)))],[]⟩
def d7Q:Env:=⟨8,eqs,tt,gl,[],[],[],[],[]⟩
def c5q:Ann:=.leaf
def IU (a0:F8):Option F6:=some (a0.1,a0.2.1)
def d2D:FSpec:=mkS b2t b6j fun x=>IU x
def d0D:List MG:=[(true,(.dat y27)),(false,(.dat y11)),(false,(.dat y28))]
def d2j:Ret:=⟨[(.tmp 6,uiM),(.tmp 7,uiM)],[]⟩
def e94:Env:=⟨56,eqs,tt,gl,[(133,d2D),(134,c1q)],[],[],[],[]⟩
def d7i:Ann:=.seq lfA (.seq lfA (.seq lfA (.seq (.seq lfA (.blk (.loopR [(6,9),(23,56)] ⟨[(8,uiM)],[]⟩ 0 ⟨[],[]⟩ lfA))) lfA)))
def qG (a0:L6) (a1:List bi) (a2:List F8):Option F6:=l7 (ilt (o8 a2) (o8 a1)) (some (o8 a2,5)) (l7 (ilt
 (o8 a1) (o8 a2)) (some (o8 a1,4)) (l9 (J9 (fun(x:Int)=>l7 (ilt x (o8 a2)) (l9 (lat a2 x) fun x_1=>l9
 (IU x_1) fun x_2=>l9 (lat a1 x) fun x_3=>l7 (D6 (aH (ieq x_2.1 x_3.2.1) (ieq x_2.2 x_3.2.2))) (some
 (.rt (x,8))) (l9 (lat a2 x) fun x_4=>l9 (lat a1 x) fun x_5=>l9 (zM x_4.2.2 x_5.2 a0.1) fun x_6
 =>l7 (D6 x_6) (some (.rt (x,3))) (some (.nx (x8 .i64 x 1))))) (some (.ex ()))) 0) fun o=>L8 o
 (fun(y:PUnit)=>some (0,0)) fun r=>some r))
def s94:FSpec:=mkS d0D d2j fun x=>qG x.1 x.2.1 x.2.2
def d0E:List MG:=[(true,(.dat y27)),uiM]
def d2k:Ret:=⟨[(.tmp 4,uiM),(.tmp 5,uiM)],[]⟩
def e95:Env:=⟨23,eqs,tt,gl,[],[],[],[],[]⟩
def d7j:Ann:=.leaf
def xk (a0:L6) (a1:Int):Option F6:=l9 (lat a0.2.2 a1) fun x=>l7 (ilt x.2.1 0) (some (-1,0)) (l7 (ile
 (o8 a0.2.2) x.2.1) (some (-1,0)) (some (x.2.1,8)))
def s95:FSpec:=mkS d0E d2k fun x=>xk x.1 x.2
def d0c:List MG:=[(true,(.dat y27)),uiM,(true,(.dat y31))]
def d1H:Ret:=⟨[(.tmp 6,uiM),(.tmp 7,uiM),(.tmp 8,uiM)],[]⟩
def e60:Env:=⟨90,eqs,tt,gl,[(94,s94),(95,s95)],[],[],[],[]⟩
def d6G:Ann:=.seq lfA (.seq (.joinR [(6,9),(16,25)] ⟨[],[]⟩ lfA) (.seq (.joinR [(6,9),(25,33)] ⟨[],[]⟩ lfA) (.seq lfA (.seq lfA (.seq lfA (.seq lfA (.seq (.seq lfA (.blk (.loopR [(6,9),(13,16),(62,90)] ⟨[(13,uiM)],[]⟩ 0 ⟨[],[]⟩ lfA))) lfA)))))))
def vH (a0:L6) (a1:Int) (a2:U8):Option F8:=l9 (l7 (ilt a1 0) (some (.inr (-1,-1,6))) (l7 (ile (o8
 a0.2.2) a1) (some (.inr (-1,-1,6))) (some (.inl ())))) fun o=>L8 o (fun(x:PUnit)=>l9 (l7 (ilt a2.1
 0) (some (.inr (-1,-1,3))) (l7 (ilt 109572 a2.1) (some (.inr (-1,-1,3))) (some (.inl ())))) fun o=>L8
 o (fun(x:PUnit)=>l9 (lat a0.2.2 a1) fun x=>l9 (qG a0 x.2.2.1 a2.2.1) fun x=>l7 (D6 (ieq x.2 0))
 (some (-1,x)) (l9 (xk a0 a1) fun x=>l7 (ilt x.2 (o8 a2.2.2)) (some (x.2,-1,4)) (l9 (J9 (fun(x_1:Int)=>
 l7 (ilt x_1 (o8 a2.2.2)) (l9 (lat a0.2.2 x.1) fun x=>l9 (lat a2.2.2 x_1) fun x_2=>l9 (qG a0
 x.2.2.1 x_2) fun x=>l7 (D6 (ieq x.2 0)) (some (.rt (x_1,x))) (some (.nx (x8 .i64 x_1 1)))) (some (.ex
 ()))) 0) fun o=>L8 o (fun(y:PUnit)=>some (0,0,0)) fun r=>some r))) fun r=>some r) fun
 (r:F8)=>some r
def s60:FSpec:=mkS d0c d1H fun x=>vH x.1 x.2.1 x.2.2
def c9C:List MG:=[(true,(.dat y27)),uiM,(true,(.dat y31)),uiM,ubM]
def d1g:Ret:=⟨[(.cell 10 39,(true,(.dat y37)))],[]⟩
def e30:Env:=⟨60,eqs,tt,gl,[(59,s59),(60,s60)],[],[],[],[]⟩
def d6g:Ann:=.seq lfA (.seq lfA (.seq (.joinR [(10,11),(18,46),(4000640,4000641)] ⟨[(10,(false,(.box (.dat y37))))],[]⟩ lfA) lfA))
def lG (a0:L6) (a1:Int) (a2:U8) (a3:Int) (a4:Bool):Option E8:=l9 (BJ a0) fun x=>l7
 (D6 x) (some (1,-1,-1,-1)) (l9 (l7 (ilt a1 0) (some (.inr (6,-1,-1,-1))) (l7 (ile (o8 a0.2.2) a1) (some (.inr (6,-1,-1,
 -1))) (l7 a4 (l7 (ilt a3 0) (some (.inr (6,-1,-1,-1))) (l9 (lat a0.2.2 a1) fun x=>l7 (ile (o8 x.2.2.2.1) a3) (some
 (.inr (6,-1,-1,-1))) (some (.inl (0,0,0,0))))) (some (.inl (0,0,0,0)))))) fun o=>L8 o (fun(x:
 E8)=>l9 (vH a0 a1 a2) fun x=>l7 (D6 (ieq x.2.2 0)) (some (x.2.2,x.1,-1,-1)) (some (0,0,0,0))) fun(r
 :E8)=>some r)
def s30:FSpec:=mkS c9C d1g fun x=>lG x.1 x.2.1 x.2.2.1 x.2.2.2.1 x.2.2.2.2
def c9F:List MG:=[(true,(.dat y27)),uiM]
def d1j:Ret:=⟨[(.cell 4 47,(true,(.dat y24)))],[]⟩
def e33:Env:=⟨27,eqs,tt,gl,[],[],[],[],[]⟩
def d6j:Ann:=.leaf
def aB (a0:L6) (a1:Int):Option A8:=l9 (lat a0.2.2 a1) fun x=>l7 (ilt x.2.1 0) (some ([],0,[],[],
 [])) (l7 (ile (o8 a0.2.2) x.2.1) (some ([],0,[],[],[])) (l9 (lat a0.2.2 x.2.1) fun x=>some x))
def s33:FSpec:=mkS c9F d1j fun x=>aB x.1 x.2
def c9E:List MG:=[uiM]
def d1i:Ret:=⟨[(.tmp 2,(false,(.own .bool)))],[]⟩
def e32:Env:=⟨16,eqs,tt,gl,[],[],[],[],[]⟩
def d6i:Ann:=.seq lfA (.seq lfA (.seq (.seq lfA (.blk (.loop [(3,5),(7,15),(7000384,7000385)] ⟨[(3,(false,(.own .bool))),(4,uiM)],[]⟩ 0 ⟨[(3,(false,(.own .bool)))],[]⟩ lfA))) lfA))
def xH (a0:Int):Option (List Bool):=l9 (gU a0 false) fun x=>l9 (N8 (fun(x:List Bool×Int)=>l7 (ilt
 x.2 a0) (l9 (lat x.1 x.2) fun x_1=>l9 (I9 x.1 (toN x.2)) fun x_2=>some (.inl (S9 x.1 (toN x.2) true,x8
 .i64 x.2 1))) (some (.inr x.1))) (x,0)) fun y=>some y
def s32:FSpec:=mkS c9E d1i fun x=>xH x
def d0d:List MG:=[(true,(.dat y27)),(true,(.dat y31)),uiM]
def d1I:Ret:=⟨[(.cell 6 50,(true,(.dat y42)))],[]⟩
def e61:Env:=⟨17,eqs,tt,gl,[],[],[],[],[]⟩
def d6H:Ann:=.leaf
def xW (a0:L6) (a1:U8) (a2:Int):Option P5:=l9 (lat a1.2.2 a2) fun x=>some (a1.1,x,[],[],[],
 a0.2.1)
def s61:FSpec:=mkS d0d d1I fun x=>xW x.1 x.2.1 x.2.2
def d0F:List MG:=[(false,(.dat y32)),uiM]
def d2l:Ret:=⟨[(.tmp 4,ubM)],[]⟩
def e96:Env:=⟨18,eqs,tt,gl,[],[],[],[],[]⟩
def d7k:Ann:=.seq lfA (.seq (.seq lfA (.blk (.loopR [(4,18)] ⟨[(5,uiM)],[]⟩ 0 ⟨[],[]⟩ lfA))) lfA)
def ui (a0:List Int) (a1:Int):Option Bool:=l9 (J9 (fun(x:Int)=>l7 (ilt x (o8 a0)) (l9 (lat a0 x) fun x_1=>
 l7 (ieq x_1 a1) (some (.rt true)) (some (.nx (x8 .i64 x 1)))) (some (.ex ()))) 0) fun o=>L8 o (fun
 (y:PUnit)=>some false) fun r=>some r
def s96:FSpec:=mkS d0F d2l fun x=>ui x.1 x.2
def d0G:List MG:=[(true,(.dat y24)),uiM,(false,(.dat y32))]
def d2m:Ret:=⟨[(.tmp 6,ubM)],[]⟩
def e97:Env:=⟨25,eqs,tt,gl,[(113,c1n),(96,s96)],[],[],[],[]⟩
def d7l:Ann:=.seq lfA (.seq lfA (.seq (.seq lfA (.blk (.loopR [(6,7),(8,9),(12,25)] ⟨[(8,uiM)],[]⟩ 0 ⟨[],[]⟩ lfA))) lfA))
def uj (a0:A8) (a1:Int) (a2:List Int):Option Bool:=l9 (qx a0 a1) fun x=>l9 (J9 (fun(x_1:
 Int)=>l7 (ilt x_1 (o8 x)) (l9 (lat x x_1) fun x_2=>l9 (I9 x (toN x_1)) fun x=>l9 (ui a2 x) fun(x:
 Bool)=>l7 (D6 x) (some (.rt false)) (some (.nx (x8 .i64 x_1 1)))) (some (.ex ()))) 0) fun o=>L8
 o (fun(y:PUnit)=>some true) fun r=>some r
def s97:FSpec:=mkS d0G d2m fun x=>uj x.1 x.2.1 x.2.2
def d0e:List MG:=[(true,(.dat y24))]
def d1J:Ret:=⟨[(.tmp 2,uoM),(.tmp 3,uiM)],[]⟩
def e62:Env:=⟨41,eqs,tt,gl,[(96,s96),(97,s97)],[],[],[],[]⟩
def d6I:Ann:=.seq lfA (.seq lfA (.seq (.blk (.loopR [(2,40)] ⟨[(4,uoM)],[]⟩ 0 ⟨[(4,uoM)],[]⟩ (.seq lfA (.blk (.seq lfA (.seq (.blk (.loop [(5,6),(12,31)] ⟨[(5,uiM)],[]⟩ 2 ⟨[(5,uiM)],[]⟩ lfA)) lfA)))))) lfA))
def jw (a0:A8):Option (List Int×Int):=l9 (J9 (fun(x:List Int)=>l7 (ilt (o8 x) (o8 a0.2.2.2.1)) (l9
 (N8 (fun(x_1:Int)=>l7 (ilt x_1 (o8 a0.2.2.2.1)) (l9 (ui x x_1) fun x_2=>l7 x_2 (some (.inl (x8 .i64
 x_1 1))) (l9 (uj a0 x_1 x) fun x=>l7 (D6 x) (some (.inl (x8 .i64 x_1 1))) (some (.inr x_1)))) (some
 (.inr x_1))) 0) fun y=>l7 (ieq y (o8 a0.2.2.2.1)) (some (.rt ([],9))) (l9 (X9 x [y]) fun x=>some (.nx
 x))) (some (.ex x))) []) fun o=>L8 o (fun(y:List Int)=>some (y,0)) fun r=>some r
def s62:FSpec:=mkS d0e d1J fun x=>jw x
def d0p:List MG:=[(true,(.dat y2)),uiM]
def d1V:Ret:=⟨[(.tmp 4,ubM)],[]⟩
def e80:Env:=⟨19,eqs,tt,gl,[(112,a7E)],[],[],[],[]⟩
def d6U:Ann:=.leaf
def lw (a0:F6) (a1:Int):Option Bool:=l9 (pF a0) fun x=>l7 x (l7 (ile a0.1 a1) (some (ilt a1 a0.2))
 (some false)) (some false)
def s80:FSpec:=mkS d0p d1V fun x=>lw x.1 x.2
def c9S:List MG:=[(true,(.dat y24)),uiM,uiM]
def d1x:Ret:=⟨[(.tmp 6,uoM)],[]⟩
def e50:Env:=⟨39,eqs,tt,gl,[(80,s80)],[],[],[],[]⟩
def d6w:Ann:=.seq lfA (.seq lfA (.seq (.seq lfA (.blk (.loop [(7,38)] ⟨[(7,uoM),(8,uiM)],[]⟩ 0 ⟨[(7,uoM)],[]⟩ lfA))) lfA))
def ru (a0:A8) (a1:Int) (a2:Int):Option (List Int):=l9 (N8 (fun(x:List Int×Int)=>l7 (ilt x.2 (o8
 a0.2.2.2.2)) (l9 (lat a0.2.2.2.2 x.2) fun x_1=>l7 (ieq x_1.2.1 a1) (l9 (lat a0.2.2.2.2 x.2) fun x_2=>l9
 (lw x_2.2.2.2.2.1 a2) fun x_3=>l7 x_3 (l9 (X9 x.1 [x.2]) fun x_4=>some (.inl (x_4,x8 .i64
 x.2 1))) (some (.inl (x.1,x8 .i64 x.2 1)))) (some (.inl (x.1,x8 .i64 x.2 1)))) (some (.inr x.1))) ([],0)) fun y=>some y
def s50:FSpec:=mkS c9S d1x fun x=>ru x.1 x.2.1 x.2.2
def b2E:List MG:=[(false,(.dat y32)),uiM]
def b6u:Ret:=⟨[(.tmp 4,uiM)],[]⟩
def d8c:Env:=⟨19,eqs,tt,gl,[],[],[],[],[]⟩
def c5C:Ann:=.seq lfA (.seq (.seq lfA (.blk (.loopR [(4,19)] ⟨[(5,uiM)],[]⟩ 0 ⟨[],[]⟩ lfA))) lfA)
def xF (a0:List Int) (a1:Int):Option Int:=l9 (J9 (fun(x:Int)=>l7 (ilt x (o8 a0)) (l9 (lat a0 x) fun x_1=>
 l7 (ieq x_1 a1) (some (.rt x)) (some (.nx (x8 .i64 x 1)))) (some (.ex ()))) 0) fun o=>L8 o (fun(y:
 PUnit)=>some (-1)) fun r=>some r
def d2L:FSpec:=mkS b2E b6u fun x=>xF x.1 x.2
def b2g:List MG:=[(true,(.dat y24)),(false,(.dat y32)),uiM]
def b5U:Ret:=⟨[(.tmp 6,uiM)],[]⟩
def d7B:Env:=⟨35,eqs,tt,gl,[(147,d2L)],[],[],[],[]⟩
def c5b:Ann:=.seq lfA (.seq lfA (.seq (.blk (.loopR [(2,3),(6,9),(15,35)] ⟨[(2,uiM),(7,uiM)],[]⟩ 0 ⟨[],[]⟩ lfA)) lfA))
def yM (a0:A8) (a1:List Int) (a2:Int):Option Int:=l9 (lat a0.2.2.2.2 a2) fun x=>l9 (J9 (fun(x:F6)
 =>l7 (ile 0 x.2) (l7 (ilt x.2 x.1) (l9 (xF a1 x.2) fun x_1=>l7 (ile 0 x_1) (some (.rt x_1)) (l9 (lat a0.2.2.2.2
 x.2) fun x_2=>some (.nx (x.2,x_2.2.2.1)))) (some (.ex ()))) (some (.ex ()))) (a2,x.2.2.1)) fun o=>L8 o (fun(y:PUnit)=>some (-1)) fun r=>some r
def d2s:FSpec:=mkS b2g b5U fun x=>yM x.1 x.2.1 x.2.2
def d0t:List MG:=[(true,(.dat y24)),uiM,uiM]
def d1Z:Ret:=⟨[(.tmp 6,uoM),(.tmp 7,uoM),(.tmp 8,uoM)],[]⟩
def e84:Env:=⟨48,eqs,tt,gl,[(50,s50),(116,d2s)],[],[],[],[]⟩
def d6Y:Ann:=.seq lfA (.seq lfA (.seq lfA (.seq (.seq lfA (.blk (.loop [(10,13),(17,45)] ⟨[(10,uoM),(11,uoM),(12,uiM)],[]⟩ 0 ⟨[(10,uoM),(11,uoM)],[]⟩ lfA))) lfA)))
def yL (a0:A8) (a1:Int) (a2:Int):Option Z5:=l9 (ru a0 a1 a2) fun x=>l9 (N8 (fun
 (x_1:List Int×List Int×Int)=>l7 (ilt x_1.2.2 (o8 x)) (l9 (lat x x_1.2.2) fun x_2=>l9 (I9 x (toN x_1.2.2)) fun(x_3:
 Int)=>l9 (yM a0 x x_3) fun x_4=>l9 (X9 x_1.1 [x_4]) fun x_5=>l9 (lat x x_1.2.2) fun x_6=>
 l9 (I9 x (toN x_1.2.2)) fun x=>l9 (lat a0.2.2.2.2 x) fun x=>l9 (X9 x_1.2.1 [x.2.2.2.1]) fun x=>some
 (.inl (x_5,x,x8 .i64 x_1.2.2 1))) (some (.inr (x_1.1,x_1.2.1)))) ([],[],0)) fun y=>some (x,y)
def s84:FSpec:=mkS d0t d1Z fun x=>yL x.1 x.2.1 x.2.2
def b2h:List MG:=[(false,(.dat y12))]
def b5V:Ret:=⟨[(.tmp 2,uoM),(.tmp 3,uiM)],[]⟩
def d7C:Env:=⟨15,eqs,tt,gl,[(148,b1i)],[],[],[],[]⟩
def c5c:Ann:=.leaf
def Eb (a0:List F6):Option (List Int×Int):=l9 (jK a0) fun x=>some (x.1,x.2.2)
def d2t:FSpec:=mkS b2h b5V fun x=>Eb x
def b2G:List MG:=[(false,(.dat y12)),uiM]
def b6w:Ret:=⟨[(.tmp 4,uoM)],[]⟩
def d8e:Env:=⟨56,eqs,tt,gl,[(148,b1i),(202,a7O)],[],[],[],[]⟩
def c5F:Ann:=.seq lfA (.seq lfA (.seq (.joinR [(4,5),(18,30)] ⟨[],[]⟩ lfA) (.seq lfA (.seq lfA (.seq lfA (.seq (.seq lfA (.blk (.loop [(9,12),(42,55),(23002368,23002369)] ⟨[(9,uoM),(10,uiM),(11,uiM)],[]⟩ 0 ⟨[(9,uoM)],[]⟩ lfA))) lfA))))))
def pG (a0:List F6) (a1:Int):Option (List Int):=l9 (jK a0) fun x=>l9 (l7 (D6
 (ieq x.2.2 0)) (some (.inr [])) (l7 (ilt a1 0) (some (.inr [])) (l7 (ile (o8 a0) a1) (some (.inr [])) (some (.inl ())))))
 fun o=>L8 o (fun(x_1:PUnit)=>l9 (lat a0 a1) fun x_2=>l9 (aU x_2.1) fun x_3=>l9
 (gU x_3 0) fun x_4=>l9 (N8 (fun(x_5:List Int×F6)=>l7 (ile 0 x_5.2.2) (l9 (lat x_5.1 x_5.2.2) fun x_6
 =>l9 (I9 x_5.1 (toN x_5.2.2)) fun x_7=>l9 (lat x.1 x_5.2.1) fun x_8=>l9 (I9 x.1 (toN x_5.2.1)) fun x=>
 some (.inl (S9 x_5.1 (toN x_5.2.2) x_5.2.1,G8 .i64 x 1,G8 .i64 x_5.2.2 1))) (some (.inr x_5.1))) (x_4,G8 .i64
 a1 1,G8 .i64 x_3 1)) fun y=>some y) fun r=>some r
def d2M:FSpec:=mkS b2G b6w fun x=>pG x.1 x.2
def b3S:List MG:=[uiM]
def b7I:Ret:=⟨[(.tmp 2,uiM),(.tmp 3,uiM)],[]⟩
def d9t:Env:=⟨17,eqs,tt,gl,[],[],[],[],[]⟩
def c6W:Ann:=.leaf
def qp (a0:Int):Option F6:=l7 (ieq a0 1) (some (0,1)) (l7 (ieq a0 2) (some (-1000000000000,1000000000000)) (l7 (ieq a0
 3) (some (-1000000000000000,1000000000000000)) (l7 (ieq a0 4) (some (-1000000000,1000000000)) (l7 (ieq a0 5) (some (0,109572)) (l7 (ieq
 a0 6) (some (0,15)) (some (0,-1)))))))
def c1A:FSpec:=mkS b3S b7I fun x=>qp x
def b3l:List MG:=[(true,(.dat y3))]
def b7b:Ret:=⟨[(.tmp 2,ubM)],[]⟩
def d8M:Env:=⟨35,eqs,tt,gl,[(250,c1A)],[],[],[],[]⟩
def c6p:Ann:=.leaf
def Z4 (a0:F8):Option Bool:=l9 (qp a0.1) fun x=>l7 (ilt a0.2.2 x.1) (some false) (l7 (ilt x.2
 a0.2.2) (some false) (l7 (ieq a0.1 6) (l7 (ile 0 a0.2.1) (some (ilt a0.2.1 8)) (some false)) (some (ieq a0.2.1 0))))
def a0B:FSpec:=mkS b3l b7b fun x=>Z4 x
def b3T:List MG:=[uiM]
def b7J:Ret:=⟨[(.tmp 2,ubM)],[]⟩
def d9u:Env:=⟨35,eqs,tt,gl,[],[],[],[],[]⟩
def c6X:Ann:=.seq lfA (.seq (.joinR [(2,17)] ⟨[],[]⟩ lfA) lfA)
def kM (a0:Int):Option Bool:=l9 (l7 (ile 1 a0) (l7 (ile a0 8) (some (.inr true)) (l7 (ile 36 a0) (l7 (ile a0 39)
 (some (.inr true)) (some (.inl ()))) (some (.inl ())))) (l7 (ile 36 a0) (l7 (ile a0 39) (some (.inr true)) (some
 (.inl ()))) (some (.inl ())))) fun o=>L8 o (fun(x:PUnit)=>l7 (ieq a0 14) (some true) (l7 (ieq
 a0 15) (some true) (l7 (ieq a0 16) (some true) (l7 (ieq a0 33) (some true) (some (ieq a0 34)))))) fun r=>some r
def d3J:FSpec:=mkS b3T b7J fun x=>kM x
def b3m:List MG:=[(true,(.dat y2)),uiM]
def b7c:Ret:=⟨[(.tmp 4,ubM)],[]⟩
def d8N:Env:=⟨51,eqs,tt,gl,[(202,a7O),(251,d3J)],[],[],[],[]⟩
def c6q:Ann:=.seq lfA (.seq (.joinR [(4,21)] ⟨[],[]⟩ lfA) (.seq (.seq lfA (.blk (.seq (.join [(23,27)] ⟨[(23,ubM)],[]⟩ lfA) lfA))) lfA))
def vz (a0:F6) (a1:Int):Option Bool:=l9 (l9 (aU a0.1) fun x=>l7 (D6 (ieq x a1)) (some (.inr
 false)) (l7 (D6 (ieq a0.2 0)) (l9 (kM a0.1) fun x=>l7 (D6 x) (some (.inr false)) (some (.inl ())))
 (some (.inl ())))) fun o=>L8 o (fun(x:PUnit)=>l9 (l7 (ieq a0.1 14) (some (ieq a0.1 14)) (l7 (ieq a0.1
 15) (some (ieq a0.1 15)) (some (ieq a0.1 16)))) fun x=>l7 x (l7 (ile 0 a0.2) (some (ile a0.2 5)) (some false)) (l7 (ieq a0.1 34)
 (l7 (ile 0 a0.2) (some (ile (X5 a0.2 8) 5)) (some false)) (l7 (ieq a0.1 6) (some (ile 0 a0.2)) (some true)))) fun r=>some r
def d3j:FSpec:=mkS b3m b7c fun x=>vz x.1 x.2
def b3n:List MG:=[(true,(.dat y2)),(true,(.dat y42))]
def b7d:Ret:=⟨[(.tmp 4,ubM)],[]⟩
def d8O:Env:=⟨81,eqs,tt,gl,[],[],[],[],[]⟩
def c6r:Ann:=.seq lfA (.seq (.seq lfA (.blk (.seq lfA (.cond lfA (.seq lfA (.cond lfA (.seq lfA (.cond lfA (.seq lfA (.cond lfA (.seq (.join [(65,70)] ⟨[(65,ubM)],[]⟩ lfA) lfA))))))))))) lfA)
def uh (a0:F6) (a1:P5):Option Bool:=l7 (ieq a0.1 7) (l7 (ile 0 a0.2) (some (ilt a0.2 (o8 a1.2.1))) (some false)) (l7
 (ieq a0.1 8) (l7 (ile 0 a0.2) (l7 (ilt a0.2 (o8 a1.2.2.1)) (l9 (lat a1.2.2.1 a0.2) fun x=>some (D6 (ieq x.1 0))) (some
 false)) (some false)) (l7 (ieq a0.1 33) (l7 (ile 0 a0.2) (some (ilt a0.2 (o8 a1.2.2.2.2.2))) (some false)) (l7 (ieq a0.1 34) (some (ilt
 (X4 .i64 a0.2 8) (o8 a1.2.2.2.2.2))) (l9 (l7 (ieq a0.1 36) (some (ieq a0.1 36)) (l7 (ieq a0.1 37) (some (ieq a0.1 37)) (l7
 (ieq a0.1 38) (some (ieq a0.1 38)) (some (ieq a0.1 39))))) fun x=>l7 x (l7 (ile 0 a0.2) (some (ilt a0.2 (o8 a1.2.2.2.2.1))) (some
 false)) (some true)))))
def d3k:FSpec:=mkS b3n b7d fun x=>uh x.1 x.2
def b3U:List MG:=[uiM,(true,(.dat y2))]
def b7K:Ret:=⟨[(.tmp 4,ubM)],[]⟩
def d9v:Env:=⟨32,eqs,tt,gl,[],[],[],[],[]⟩
def c6Y:Ann:=.leaf
def xh (a0:Int) (a1:F6):Option Bool:=l7 (D6 (ieq a1.2 0)) (some false) (l7 (ieq a0 36) (l7 (ieq a1.1 2) (some true)
 (some (ieq a1.1 3))) (l7 (ieq a0 39) (l7 (ile 2 a1.1) (some (ile a1.1 5)) (some false)) (some (ieq a1.1 1))))
def d3K:FSpec:=mkS b3U b7K fun x=>xh x.1 x.2
def b3V:List MG:=[(true,(.dat y3)),(true,(.dat y2))]
def b7L:Ret:=⟨[(.tmp 4,ubM)],[]⟩
def d9w:Env:=⟨21,eqs,tt,gl,[(203,a0B)],[],[],[],[]⟩
def c6Z:Ann:=.leaf
def GX (a0:F8) (a1:F6):Option Bool:=l9 (Z4 a0) fun x=>l7 x (l7 (ieq a0.1 a1.1) (some (ieq
 a0.2.1 a1.2)) (some false)) (some false)
def d3L:FSpec:=mkS b3V b7L fun x=>GX x.1 x.2
def b3W:List MG:=[uiM,uiM,uiM,ubM]
def b7M:Ret:=⟨[(.tmp 8,uiM)],[]⟩
def d9x:Env:=⟨35,eqs,tt,gl,[],[],[],[],[]⟩
def c7a:Ann:=.leaf
def Ec (a0:Int) (a1:Int) (a2:Int) (a3:Bool):Option Int:=l7 (ieq a0 36) (some (x8 .i64 a1 a2)) (l7 (ieq a0 37) (some
 (N9 .i64 a1 a2)) (l7 (ieq a0 38) (l7 (ilt a1 a2) (some a2) (some a1)) (l7 a3 (some a2) (l7 (ilt a1 a2) (some a2) (some a1)))))
def d3M:FSpec:=mkS b3W b7M fun x=>Ec x.1 x.2.1 x.2.2.1 x.2.2.2
def b3X:List MG:=[uiM,uiM]
def b7N:Ret:=⟨[(.cell 4 60,(true,(.dat y3))),(.tmp 5,uiM)],[]⟩
def d9y:Env:=⟨15,eqs,tt,gl,[(203,a0B)],[],[],[],[]⟩
def c7b:Ann:=.leaf
def U7 (a0:Int) (a1:Int):Option (F8×Int):=l9 (Z4 (a0,0,a1)) fun x=>l7 (D6 x) (some ((0,0,0),
 3)) (some ((a0,0,a1),0))
def YC:FSpec:=mkS b3X b7N fun x=>U7 x.1 x.2
def b3o:List MG:=[(true,(.dat y2)),(true,(.dat y42))]
def b7e:Ret:=⟨[(.cell 4 60,(true,(.dat y3))),(.tmp 5,uiM)],[]⟩
def d8P:Env:=⟨102,eqs,tt,gl,[(252,d3K),(253,d3L),(254,d3M),(255,YC)],[],[],[],[]⟩
def c6s:Ann:=.seq lfA (.seq lfA (.seq lfA (.seq lfA (.seq (.join [(7,8),(24,27)] ⟨[(7,uiM)],[]⟩ lfA) (.seq (.seq lfA (.blk (.loopR [(4,6),(7,12),(27,86),(4000256,4000257)] ⟨[(4,(false,(.box (.dat y3)))),(7,uiM),(8,uiM)],[]⟩ 0 ⟨[(4,(false,(.box (.dat y3)))),(7,uiM)],[]⟩ (.seq lfA (.seq (.blk (.seq lfA (.seq (.joinR [(4,6),(39,54),(35000000,35000001)] ⟨[(4,(false,(.box (.dat y3))))],[]⟩ lfA) lfA))) lfA))))) lfA)))))
def iW (a0:F6) (a1:P5):Option (F8×Int):=l9 (lat a1.2.2.2.2.1 a0.2) fun x=>l9 (xh a0.1 x)
 fun x_1=>l7 (D6 x_1) (some ((0,0,0),8)) (l9 (l7 (ieq a0.1 37) (some 1) (some 0)) fun x_2=>l9 (J9 (fun(x_3:
 F8×F6)=>l7 (ilt x_3.2.2 (o8 a1.2.2.2.1)) (l9 (lat a1.2.2.2.1 x_3.2.2) fun x_4=>l9 (l7 (ile (o8 x_4)
 a0.2) (some (.inr ((0,0,0),6))) (l9 (lat x_4 a0.2) fun x=>l7 (ieq x.1 0) (some (.inr ((0,0,0),6))) (some (.inl
 x_3.1)))) fun o=>L8 o (fun(x_5:F8)=>l9 (lat x_4 a0.2) fun x_6=>l9 (GX x_6 x) fun
 (x_7:Bool)=>l7 (D6 x_7) (some (.rt ((0,0,0),8))) (l9 (lat x_4 a0.2) fun x_8=>l9 (Ec a0.1 x_3.2.1 x_8.2.2
 (ieq x_3.2.2 0)) fun x_9=>l9 (U7 x.1 x_9) fun x=>l7 (D6 (ieq x.2 0)) (some (.rt ((0,0,0),x.2)))
 (some (.nx (x_5,x_9,x8 .i64 x_3.2.2 1))))) fun r=>some (.rt r)) (some (.ex (x_3.1,x_3.2.1)))) ((0,0,0),
 x_2,0)) fun o=>L8 o (fun(y:F8×Int)=>l7 (ieq a0.1 39) (l7 (ieq (o8 a1.2.2.2.1) 0) (some ((0,
 0,0),6)) (l9 (U7 x.1 y.2) fun x=>some x)) (l9 (U7 x.1 y.2) fun x=>some x)) fun(r:
 F8×Int)=>some r)
def d3l:FSpec:=mkS b3o b7e fun x=>iW x.1 x.2
def b3p:List MG:=[(true,(.dat y2)),(true,(.dat y42))]
def b7f:Ret:=⟨[(.cell 4 60,(true,(.dat y3))),(.tmp 5,uiM)],[]⟩
def d8Q:Env:=⟨79,eqs,tt,gl,[(203,a0B),(255,YC)],[],[],[],[]⟩
def c6t:Ann:=.leaf
def aA (a0:F6) (a1:P5):Option (F8×Int):=l7 (ieq a0.1 7) (l9 (lat a1.2.1 a0.2) fun x=>l9
 (Z4 x) fun x=>l7 (D6 x) (some ((0,0,0),8)) (l9 (lat a1.2.1 a0.2) fun x=>some (x,0))) (l7 (ieq
 a0.1 8) (l9 (lat a1.2.2.1 a0.2) fun x=>l9 (Z4 x) fun x=>l7 (D6 x) (some ((0,0,0),8)) (l9 (lat
 a1.2.2.1 a0.2) fun x=>some (x,0))) (l7 (ieq a0.1 9) (l9 (U7 5 a1.1) fun x=>some x) (l7 (ieq a0.1
 35) (l9 (U7 2 (o8 a1.2.2.2.1)) fun x=>some x) (l7 (ieq a0.1 6) (l9 (Z4 (6,X4 .i64 a0.2
 16,X5 a0.2 16)) fun x=>l7 (D6 x) (some ((0,0,0),3)) (some ((6,X4 .i64 a0.2 16,X5 a0.2 16),0))) (l9 (U7
 a0.1 a0.2) fun x=>some x)))))
def d3m:FSpec:=mkS b3p b7f fun x=>aA x.1 x.2
def b3Y:List MG:=[uiM]
def b7O:Ret:=⟨[(.tmp 2,ubM)],[]⟩
def d9z:Env:=⟨13,eqs,tt,gl,[],[],[],[],[]⟩
def c7c:Ann:=.leaf
def vC (a0:Int):Option Bool:=l7 (ieq a0 2) (some true) (l7 (ieq a0 3) (some true) (some (ieq a0 4)))
def c1B:FSpec:=mkS b3Y b7O fun x=>vC x
def b3Z:List MG:=[ubM]
def b7P:Ret:=⟨[(.cell 2 60,(true,(.dat y3))),(.tmp 3,uiM)],[]⟩
def d9A:Env:=⟨8,eqs,tt,gl,[],[],[],[],[]⟩
def c7d:Ann:=.leaf
def iY (a0:Bool):Option (F8×Int):=l7 a0 (some ((1,0,1),0)) (some ((1,0,0),0))
def c1C:FSpec:=mkS b3Z b7P fun x=>iY x
def b4y:List MG:=[uiM]
def b8o:Ret:=⟨[(.tmp 2,ubM)],[]⟩
def d9Z:Env:=⟨9,eqs,tt,gl,[],[],[],[],[]⟩
def c7C:Ann:=.leaf
def lM (a0:Int):Option Bool:=l7 (ile 0 a0) (some (ile a0 109572)) (some false)
def b1q:FSpec:=mkS b4y b8o fun x=>lM x
def b5c:List MG:=[uiM]
def b8S:Ret:=⟨[(.tmp 2,ubM)],[]⟩
def e0D:Env:=⟨16,eqs,tt,gl,[],[],[],[],[]⟩
def c8g:Ann:=.leaf
def yH (a0:Int):Option Bool:=l7 (ieq (X5 a0 4) 0) (l7 (D6 (ieq (X5 a0 100) 0)) (some true) (some (ieq (X5 a0 400) 0)))
 (some false)
def c1O:FSpec:=mkS b5c b8S fun x=>yH x
def b4z:List MG:=[uiM]
def b8p:Ret:=⟨[(.tmp 2,uiM)],[]⟩
def e0a:Env:=⟨5,eqs,tt,gl,[(318,c1O)],[],[],[],[]⟩
def c7D:Ann:=.leaf
def bV (a0:Int):Option Int:=l9 (yH a0) fun x=>l7 x (some 366) (some 365)
def c1G:FSpec:=mkS b4z b8p fun x=>bV x
def b4A:List MG:=[uiM,uiM]
def b8q:Ret:=⟨[(.tmp 4,uiM)],[]⟩
def e0b:Env:=⟨23,eqs,tt,gl,[(318,c1O)],[],[],[],[]⟩
def c7E:Ann:=.seq lfA (.seq (.seq lfA (.blk (.seq lfA (.cond lfA (.seq (.join [(10,15)] ⟨[(10,ubM)],[]⟩ lfA) lfA))))) lfA)
def Z7 (a0:Int) (a1:Int):Option Int:=l7 (ieq a1 2) (l9 (yH a0) fun x=>l7 x (some 29) (some 28))
 (l9 (l7 (ieq a1 4) (some (ieq a1 4)) (l7 (ieq a1 6) (some (ieq a1 6)) (l7 (ieq a1 9) (some (ieq a1 9)) (some (ieq a1 11))))) fun(x:
 Bool)=>l7 x (some 30) (l7 (ieq a1 1) (l7 (ieq a1 1) (some 31) (some 0)) (l7 (ieq a1 3) (l7 (ieq a1 3) (some 31) (some 0)) (l7
 (ieq a1 5) (l7 (ieq a1 5) (some 31) (some 0)) (l7 (ieq a1 7) (l7 (ieq a1 7) (some 31) (some 0)) (l7 (ieq a1 8) (l7 (ieq a1 8) (some
 31) (some 0)) (l7 (ieq a1 10) (l7 (ieq a1 10) (some 31) (some 0)) (l7 (ieq a1 12) (some 31) (some 0)))))))))
def b1r:FSpec:=mkS b4A b8q fun x=>Z7 x.1 x.2
def b4a:List MG:=[uiM]
def b7Q:Ret:=⟨[(.tmp 2,uiM),(.tmp 3,uiM),(.tmp 4,uiM)],[]⟩
def d9B:Env:=⟨36,eqs,tt,gl,[(287,b1q),(288,c1G),(289,b1r)],[],[],[],[]⟩
def c7e:Ann:=.seq lfA (.seq lfA (.seq lfA (.seq (.blk (.loop [(0,1),(5,6),(10,20)] ⟨[(0,uiM),(5,uiM)],[]⟩ 0 ⟨[(0,uiM),(5,uiM)],[]⟩ lfA)) (.seq (.blk (.loop [(0,1),(6,7),(20,32)] ⟨[(0,uiM),(6,uiM)],[]⟩ 2 ⟨[(0,uiM),(6,uiM)],[]⟩ lfA)) lfA))))
def ug (a0:Int):Option F8:=l9 (lM a0) fun x=>l7 (D6 x) (some (0,0,0)) (l9 (N8 (fun(x:F6)
 =>l9 (bV x.2) fun x_1=>l7 (ile x_1 x.1) (l9 (bV x.2) fun x_2=>some (.inl (G8
 .i64 x.1 x_2,x8 .i64 x.2 1))) (some (.inr x))) (a0,1900)) fun y=>l9 (N8 (fun(x:F6)=>l9
 (Z7 y.2 x.2) fun x_1=>l7 (ile x_1 x.1) (l9 (Z7 y.2 x.2) fun x_2=>some (.inl (G8
 .i64 x.1 x_2,x8 .i64 x.2 1))) (some (.inr x))) (y.1,1)) fun y_1=>some (y.2,y_1.2,x8 .i64 y_1.1 1))
def c1E:FSpec:=mkS b4a b7Q fun x=>ug x
def b5d:List MG:=[(true,(.dat y4)),uiM,uiM]
def b8T:Ret:=⟨[(.tmp 6,ubM)],[]⟩
def e0E:Env:=⟨23,eqs,tt,gl,[(80,s80)],[],[],[],[]⟩
def c8h:Ann:=.leaf
def BI (a0:uw) (a1:Int) (a2:Int):Option Bool:=l9 (lw a0.1 a1) fun x=>l7 x (l7 (ile a0.2.1 a2)
 (some (ilt a2 a0.2.2.1)) (some false)) (some false)
def d4w:FSpec:=mkS b5d b8T fun x=>BI x.1 x.2.1 x.2.2
def b4B:List MG:=[(true,(.dat y8)),uiM,uiM]
def b8r:Ret:=⟨[(.tmp 6,uiM),(.tmp 7,ubM)],[]⟩
def e0c:Env:=⟨25,eqs,tt,gl,[(319,d4w)],[],[],[],[]⟩
def c7F:Ann:=.seq lfA (.seq (.seq lfA (.blk (.loopR [(6,25)] ⟨[(8,uiM)],[]⟩ 0 ⟨[],[]⟩ lfA))) lfA)
def yJ (a0:V8) (a1:Int) (a2:Int):Option (Int×Bool):=l9 (J9 (fun(x:Int)=>l7 (ilt x (o8 a0.2.2.2)) (l9 (lat
 a0.2.2.2 x) fun x_1=>l9 (BI x_1 a1 a2) fun x_2=>l7 x_2 (some (.rt (x,true))) (some (.nx (x8
 .i64 x 1)))) (some (.ex ()))) 0) fun o=>L8 o (fun(y:PUnit)=>some (0,false)) fun r
 =>some r
def d4f:FSpec:=mkS b4B b8r fun x=>yJ x.1 x.2.1 x.2.2
def b4b:List MG:=[(true,(.dat y8)),uiM,(true,(.dat y3))]
def b7R:Ret:=⟨[(.cell 6 60,(true,(.dat y3))),(.tmp 7,uiM)],[]⟩
def d9C:Env:=⟨67,eqs,tt,gl,[(290,d4f),(203,a0B)],[],[],[],[]⟩
def c7f:Ann:=.seq lfA (.seq (.joinR [(6,8),(11,38),(4000384,4000385)] ⟨[(6,(false,(.box (.dat y3))))],[]⟩ lfA) lfA)
def Ed (a0:V8) (a1:Int) (a2:F8):Option (F8×Int):=l9 (l7 (D6 (ieq a2.1 a0.2.1.1)) (some (.inr ((0,0,0),
 8))) (l7 (D6 (ieq a2.2.1 a0.2.1.2)) (some (.inr ((0,0,0),8))) (l7 (ilt a0.2.2.1.1 1) (some (.inr ((0,0,0),8))) (l7 (ilt 6
 a0.2.2.1.1) (some (.inr ((0,0,0),8))) (some (.inl (0,0,0))))))) fun o=>L8 o (fun(x:F8)=>l9
 (yJ a0 a1 a2.2.2) fun x=>l7 (D6 x.2) (some ((0,0,0),6)) (l9 (lat a0.2.2.2 x.1) fun x=>l9
 (Z4 (a0.2.2.1.1,a0.2.2.1.2,x.2.2.2)) fun x_1=>l7 (D6 x_1) (some ((0,0,0),3)) (some ((a0.2.2.1.1,a0.2.2.1.2,
 x.2.2.2),0)))) fun r=>some r
def d3N:FSpec:=mkS b4b b7R fun x=>Ed x.1 x.2.1 x.2.2
def b4C:List MG:=[uiM]
def b8s:Ret:=⟨[(.tmp 2,ubM)],[]⟩
def e0d:Env:=⟨9,eqs,tt,gl,[],[],[],[],[]⟩
def c7G:Ann:=.leaf
def wM (a0:Int):Option Bool:=l7 (ile 0 a0) (some (ile a0 5)) (some false)
def a7Y:FSpec:=mkS b4C b8s fun x=>wM x
def b4D:List MG:=[uiM,uiM]
def b8t:Ret:=⟨[(.tmp 4,ubM)],[]⟩
def e0e:Env:=⟨14,eqs,tt,gl,[],[],[],[],[]⟩
def c7H:Ann:=.leaf
def aX (a0:Int) (a1:Int):Option Bool:=l7 (ilt a1 a0) (some true) (some (ilt a0 (G8 .i64 0 a1)))
def a7Z:FSpec:=mkS b4D b8t fun x=>aX x.1 x.2
def b4E:List MG:=[uiM,uiM]
def b8u:Ret:=⟨[(.tmp 4,uiM),(.tmp 5,uiM),(.tmp 6,ubM)],[]⟩
def e0f:Env:=⟨62,eqs,tt,gl,[],[],[],[],[]⟩
def c7I:Ann:=.seq lfA (.seq lfA (.seq (.join [(7,8),(14,21)] ⟨[(7,(false,(.dat (.int .u64))))],[]⟩ lfA) lfA))
def mJ (a0:Int) (a1:Int):Option (Int×Int×Bool):=l9 (l7 (ilt a1 0) (some (x8 .u64 (wrap .u64 (G8
 .i64 0 (x8 .i64 a1 1))) 1)) (some (wrap .u64 a1))) fun x=>l7 (ilt 0 (wrap .i64 (X4 .u64 x
 1000000))) (l9 (iI .i64 1000000000000000 (wrap .i64 (X4 .u64 x 1000000))) fun x_1=>l7 (ilt x_1 a0) (some
 (0,0,false)) (l7 (ilt 1000000000000000 (x8 .i64 (x8 .i64 (N9 .i64 a0 (wrap .i64 (X4 .u64 x 1000000)))
 (N9 .i64 (X4 .i64 a0 1000000) (wrap .i64 (X5 x 1000000)))) (X4 .i64 (N9 .i64 (X5 a0 1000000) (wrap
 .i64 (X5 x 1000000))) 1000000))) (some (0,0,false)) (l7 (ilt a1 0) (some (G8 .i64 0 (x8 .i64 (x8 .i64 (N9
 .i64 a0 (wrap .i64 (X4 .u64 x 1000000))) (N9 .i64 (X4 .i64 a0 1000000) (wrap .i64 (X5 x 1000000))))
 (X4 .i64 (N9 .i64 (X5 a0 1000000) (wrap .i64 (X5 x 1000000))) 1000000)),G8 .i64 0 (X5 (N9 .i64
 (X5 a0 1000000) (wrap .i64 (X5 x 1000000))) 1000000),true)) (some (x8 .i64 (x8 .i64 (N9 .i64 a0 (wrap
 .i64 (X4 .u64 x 1000000))) (N9 .i64 (X4 .i64 a0 1000000) (wrap .i64 (X5 x 1000000)))) (X4 .i64
 (N9 .i64 (X5 a0 1000000) (wrap .i64 (X5 x 1000000))) 1000000),X5 (N9 .i64 (X5 a0 1000000) (wrap .i64 (X5 x
 1000000))) 1000000,true))))) (l7 (ilt 1000000000000000 (x8 .i64 (x8 .i64 (N9 .i64 a0 (wrap .i64 (X4
 .u64 x 1000000))) (N9 .i64 (X4 .i64 a0 1000000) (wrap .i64 (X5 x 1000000)))) (X4 .i64 (N9 .i64
 (X5 a0 1000000) (wrap .i64 (X5 x 1000000))) 1000000))) (some (0,0,false)) (l7 (ilt a1 0) (some (G8 .i64 0 (x8 .i64
 (x8 .i64 (N9 .i64 a0 (wrap .i64 (X4 .u64 x 1000000))) (N9 .i64 (X4 .i64 a0 1000000) (wrap
 .i64 (X5 x 1000000)))) (X4 .i64 (N9 .i64 (X5 a0 1000000) (wrap .i64 (X5 x 1000000))) 1000000)),G8
 .i64 0 (X5 (N9 .i64 (X5 a0 1000000) (wrap .i64 (X5 x 1000000))) 1000000),true)) (some (x8 .i64 (x8
 .i64 (N9 .i64 a0 (wrap .i64 (X4 .u64 x 1000000))) (N9 .i64 (X4 .i64 a0 1000000) (wrap .i64
 (X5 x 1000000)))) (X4 .i64 (N9 .i64 (X5 a0 1000000) (wrap .i64 (X5 x 1000000))) 1000000),X5 (N9 .i64 (X5
 a0 1000000) (wrap .i64 (X5 x 1000000))) 1000000,true))))
def d4g:FSpec:=mkS b4E b8u fun x=>mJ x.1 x.2
def b5e:List MG:=[uiM,uiM,uiM,ubM,uiM]
def b8U:Ret:=⟨[(.tmp 10,uiM)],[]⟩
def e0F:Env:=⟨65,eqs,tt,gl,[],[],[],[],[]⟩
def c8i:Ann:=.seq lfA (.seq lfA (.seq (.join [(11,58)] ⟨[(11,ubM)],[]⟩ lfA) lfA))
def eF (a0:Int) (a1:Int) (a2:Int) (a3:Bool) (a4:Int):Option Int:=l9 (l7 (ieq a4 0) (l7 a3 (some (ilt 0 a1)) (some
 false)) (l7 (ieq a4 1) (l7 (D6 a3) (some (ilt 0 a1)) (some false)) (l7 (ieq a4 3) (some (ilt 0 a1)) (l7 (ieq a4 4) (some (ile (G8
 .i64 a2 a1) a1)) (l7 (ieq a4 5) (l7 (ilt (G8 .i64 a2 a1) a1) (some true) (l7 (ieq a1 (G8 .i64 a2 a1)) (some (ieq
 (X5 a0 2) 1)) (some false))) (some false)))))) fun x=>l7 x (l7 a3 (some (G8 .i64 0 (x8 .i64 a0 1))) (some (x8
 .i64 a0 1))) (l7 a3 (some (G8 .i64 0 a0)) (some a0))
def a8a:FSpec:=mkS b5e b8U fun x=>eF x.1 x.2.1 x.2.2.1 x.2.2.2.1 x.2.2.2.2
def b4F:List MG:=[uiM,uiM,uiM]
def b8v:Ret:=⟨[(.tmp 6,uiM)],[]⟩
def e0g:Env:=⟨35,eqs,tt,gl,[(320,a8a)],[],[],[],[]⟩
def c7J:Ann:=.seq lfA (.seq (.blk (.loop [(0,2),(7,13)] ⟨[(0,uiM),(1,uiM)],[]⟩ 0 ⟨[(0,uiM),(1,uiM)],[]⟩ lfA)) (.seq (.blk (.loop [(0,2),(13,19)] ⟨[(0,uiM),(1,uiM)],[]⟩ 2 ⟨[(0,uiM),(1,uiM)],[]⟩ lfA)) lfA))
def xg (a0:Int) (a1:Int) (a2:Int):Option Int:=l9 (N8 (fun(x:F6)=>l7 (ilt x.2 0) (some (.inl (G8 .i64
 x.1 1,x8 .i64 x.2 1000000))) (some (.inr x))) (a0,a1)) fun y=>l9 (N8 (fun(x:F6)=>l7 (ile 1000000 x.2)
 (some (.inl (x8 .i64 x.1 1,G8 .i64 x.2 1000000))) (some (.inr x))) y) fun y=>l7 (ile 0 y.1) (l9
 (eF y.1 y.2 1000000 false a2) fun x=>some x) (l7 (ieq y.2 0) (some y.1) (l9 (eF (G8 .i64 (G8
 .i64 0 y.1) 1) (G8 .i64 1000000 y.2) 1000000 true a2) fun x=>some x))
def d4h:FSpec:=mkS b4F b8v fun x=>xg x.1 x.2.1 x.2.2
def b4c:List MG:=[(true,(.dat y8)),uiM,uiM,uiM]
def b7S:Ret:=⟨[(.tmp 8,uiM),(.tmp 9,uiM)],[]⟩
def d9D:Env:=⟨99,eqs,tt,gl,[(291,a7Y),(292,a7Z),(80,s80),(293,d4g),(294,d4h)],[],[],[],[]⟩
def c7g:Ann:=.seq lfA (.seq lfA (.seq (.joinR [(8,10),(22,32)] ⟨[],[]⟩ lfA) (.seq lfA (.seq lfA (.seq (.seq lfA (.blk (.loopR [(8,18),(34,92)] ⟨[(10,uiM),(11,uiM),(12,uiM)],[]⟩ 0 ⟨[(10,uiM),(11,uiM)],[]⟩ lfA))) lfA)))))
def uZ (a0:V8) (a1:Int) (a2:Int) (a3:Int):Option F6:=l9 (wM a3) fun x=>l7 (D6 x) (some (0,
 1)) (l9 (l7 (D6 (aH (ieq a0.2.1.1 3) (ieq a0.2.1.2 0))) (some (.inr (0,8))) (l7 (D6 (aH (ieq a0.2.2.1.1 4) (ieq a0.2.2.1.2 0)))
 (some (.inr (0,8))) (some (.inl ())))) fun o=>L8 o (fun(x:PUnit)=>l9 (aX a2 1000000000000000)
 fun x=>l7 x (some (0,3)) (l9 (J9 (fun(x:F8)=>l7 (ilt x.2.2 (o8 a0.2.2.2)) (l9 (lat a0.2.2.2 x.2.2) fun(x_1:
 uw)=>l9 (lat a0.2.2.2 x.2.2) fun x_2=>l7 (ile (jf x_2.2.2.1 a2) (fO x_1.2.1 0)) (some (.nx (x.1,x.2.1,x8 .i64
 x.2.2 1))) (l9 (lat a0.2.2.2 x.2.2) fun x_3=>l9 (lw x_3.1 a1) fun x_4=>l7 (D6 x_4) (some (.nx (x.1,
 x.2.1,x8 .i64 x.2.2 1))) (l9 (lat a0.2.2.2 x.2.2) fun x_5=>l9 (mJ (G8 .i64 (jf x_2.2.2.1 a2)
 (fO x_1.2.1 0)) x_5.2.2.2) fun x_6=>l7 (D6 x_6.2.2) (some (.rt (0,3))) (some (.nx (x8 .i64 x.1 x_6.1,
 x8 .i64 x.2.1 x_6.2.1,x8 .i64 x.2.2 1)))))) (some (.ex (x.1,x.2.1)))) (0,0,0)) fun o=>L8 o (fun(y:
 F6)=>l9 (xg y.1 y.2 a3) fun x=>l9 (aX x 1000000000000000) fun x_1=>l7 x_1 (some (0,3)) (some
 (x,0))) fun r=>some r)) fun r=>some r)
def d3O:FSpec:=mkS b4c b7S fun x=>uZ x.1 x.2.1 x.2.2.1 x.2.2.2
def b4d:List MG:=[uiM,uiM,uiM]
def b7T:Ret:=⟨[(.cell 6 60,(true,(.dat y3))),(.tmp 7,uiM)],[]⟩
def d9E:Env:=⟨17,eqs,tt,gl,[(255,YC)],[],[],[],[]⟩
def c7h:Ann:=.leaf
def jk (a0:Int) (a1:Int) (a2:Int):Option (F8×Int):=l7 (D6 (ieq a2 0)) (some ((0,0,0),a2)) (l9 (U7 a0 a1)
 fun x=>some x)
def b1m:FSpec:=mkS b4d b7T fun x=>jk x.1 x.2.1 x.2.2
def b3q:List MG:=[(true,(.dat y2)),(true,(.dat y3)),(true,(.dat y42))]
def b7g:Ret:=⟨[(.cell 6 60,(true,(.dat y3))),(.tmp 7,uiM)],[]⟩
def d8R:Env:=⟨134,eqs,tt,gl,[(256,c1B),(255,YC),(257,c1C),(258,c1E),(259,d3N),(260,d3O),(261,b1m)],[],[],[],[]⟩
def c6u:Ann:=.seq lfA (.seq (.joinR [(6,11),(14,82),(4000384,4000385)] ⟨[(6,(false,(.box (.dat y3))))],[]⟩ (.seq lfA (.blk (.seq lfA (.cond lfA (.seq lfA (.cond lfA (.seq (.join [(43,46)] ⟨[(43,ubM)],[]⟩ lfA) lfA)))))))) (.seq lfA (.seq (.joinR [(6,8),(89,117),(6000000,6000001)] ⟨[(6,(false,(.box (.dat y3))))],[]⟩ lfA) lfA)))
def fV (a0:F6) (a1:F8) (a2:P5):Option (F8×Int):=l9 (l7 (ieq a0.1 10) (l9 (vC a1.1) fun(x:
 Bool)=>l7 (D6 x) (some (.inr ((0,0,0),8))) (l9 (U7 a1.1 (G8 .i64 0 a1.2.2)) fun x=>some (.inr
 x))) (l7 (ieq a0.1 25) (l7 (D6 (ieq a1.1 1)) (some (.inr ((0,0,0),8))) (l9 (iY (ieq a1.2.2 0)) fun x=>
 some (.inr x))) (l9 (l7 (ieq a0.1 31) (some (ieq a0.1 31)) (some (ieq a0.1 32))) fun x=>l7 x (l7 (D6 (ieq a1.1 5)) (some
 (.inr ((0,0,0),8))) (l9 (ug a1.2.2) fun x=>l7 (ieq a0.1 31) (l9 (U7 2 x.1) fun x=>
 some (.inr x)) (l9 (U7 2 x.2.1) fun x=>some (.inr x)))) (l7 (ieq a0.1 33) (l9 (lat a2.2.2.2.2.2 a0.2) fun
 (x:V8)=>l9 (Ed x a2.1 a1) fun x=>some (.inr x)) (some (.inl (0,0,0))))))) fun o=>L8 o (fun(x:F8)=>l9 (lat a2.2.2.2.2.2 (X4 .i64 a0.2 8)) fun x_1=>l9 (l7 (D6 (ieq a1.1 3)) (some
 (.inr ((0,0,0),8))) (l7 (D6 (ieq x_1.2.1.1 3)) (some (.inr ((0,0,0),8))) (l7 (D6 (ieq x_1.2.1.2 0)) (some (.inr ((0,0,0),
 8))) (l7 (D6 (ieq x_1.2.2.1.1 4)) (some (.inr ((0,0,0),8))) (l7 (D6 (ieq x_1.2.2.1.2 0)) (some (.inr ((0,0,0),8))) (some
 (.inl x))))))) fun o=>L8 o (fun(x:F8)=>l9 (uZ x_1 a2.1 a1.2.2 (X5 a0.2 8)) fun x
 =>l9 (jk 3 x.1 x.2) fun x=>some x) fun r=>some r) fun r=>some r
def d3n:FSpec:=mkS b3q b7g fun x=>fV x.1 x.2.1 x.2.2
def b4G:List MG:=[uiM,uiM,uiM]
def b8w:Ret:=⟨[(.cell 6 60,(true,(.dat y3))),(.tmp 7,uiM)],[]⟩
def e0h:Env:=⟨44,eqs,tt,gl,[(250,c1A),(255,YC)],[],[],[],[]⟩
def c7K:Ann:=.leaf
def nP (a0:Int) (a1:Int) (a2:Int):Option (F8×Int):=l9 (qp a0) fun x=>l7 (ilt a1 0) (l7 (ilt
 a2 0) (l7 (D6 (ieq (G8 .i64 0 a2) 0)) (l9 (iI .i64 x.2 (G8 .i64 0 a2)) fun x=>l7 (ilt x (G8
 .i64 0 a1)) (some ((0,0,0),3)) (l9 (U7 a0 (N9 .i64 a1 a2)) fun x=>some x)) (l9 (U7 a0
 (N9 .i64 a1 a2)) fun x=>some x)) (l7 (D6 (ieq a2 0)) (l9 (iI .i64 x.2 a2) fun x=>l7 (ilt x
 (G8 .i64 0 a1)) (some ((0,0,0),3)) (l9 (U7 a0 (N9 .i64 a1 a2)) fun x=>some x)) (l9 (U7
 a0 (N9 .i64 a1 a2)) fun x=>some x))) (l7 (ilt a2 0) (l7 (D6 (ieq (G8 .i64 0 a2) 0)) (l9 (iI
 .i64 x.2 (G8 .i64 0 a2)) fun x=>l7 (ilt x a1) (some ((0,0,0),3)) (l9 (U7 a0 (N9 .i64 a1 a2)) fun
 (x:F8×Int)=>some x)) (l9 (U7 a0 (N9 .i64 a1 a2)) fun x=>some x)) (l7 (D6 (ieq a2 0)) (l9
 (iI .i64 x.2 a2) fun x=>l7 (ilt x a1) (some ((0,0,0),3)) (l9 (U7 a0 (N9 .i64 a1 a2)) fun x=>some x)) (l9 (U7 a0 (N9 .i64 a1 a2)) fun x=>some x)))
def d4i:FSpec:=mkS b4G b8w fun x=>nP x.1 x.2.1 x.2.2
def b5j:List MG:=[uiM]
def b8Z:Ret:=⟨[(.tmp 2,uiM)],[]⟩
def e0K:Env:=⟨8,eqs,tt,gl,[],[],[],[],[]⟩
def c8n:Ann:=.leaf
def qj (a0:Int):Option Int:=l7 (ilt a0 0) (some (G8 .i64 0 a0)) (some a0)
def b1u:FSpec:=mkS b5j b8Z fun x=>qj x
def b5f:List MG:=[uiM,uiM,uiM,uiM]
def b8V:Ret:=⟨[(.tmp 8,uiM),(.tmp 9,uiM)],[]⟩
def e0G:Env:=⟨79,eqs,tt,gl,[(291,a7Y),(292,a7Z),(325,b1u),(320,a8a)],[],[],[],[]⟩
def c8j:Ann:=.seq lfA (.seq lfA (.seq lfA (.seq (.joinR [(8,10),(21,31)] ⟨[],[]⟩ lfA) lfA)))
def yG (a0:Int) (a1:Int) (a2:Int) (a3:Int):Option F6:=l9 (wM a3) fun x=>l7 (D6 x) (some (0,1))
 (l7 (ieq a2 0) (some (0,12)) (l9 (l9 (aX a0 1000000000000000) fun x=>l7 x (some (.inr (0,3))) (l9
 (aX a1 1000000000) fun x=>l7 x (some (.inr (0,3))) (l9 (aX a2 1000000000) fun x=>l7 x (some
 (.inr (0,3))) (some (.inl ()))))) fun o=>L8 o (fun(x:PUnit)=>l9 (qj a0) fun x=>l9
 (qj a1) fun x_1=>l9 (qj a2) fun x_2=>l7 (ilt 0 x_1) (l9 (iI .i64 x x_2) fun x_3=>l9
 (iI .i64 1000000000000000 x_1) fun x_4=>l7 (ilt x_4 x_3) (some (0,3)) (l9 (kQ x x_2) fun x_5=>l9 (iI
 .i64 x x_2) fun x=>l9 (iI .i64 (N9 .i64 x_5 x_1) x_2) fun x_6=>l9 (kQ (N9 .i64 x_5
 x_1) x_2) fun x_7=>l9 (eF (x8 .i64 (N9 .i64 x x_1) x_6) x_7 x_2 (D6 (dB (D6 (dB (ilt a0 0) (ilt a1
 0))) (ilt a2 0))) a3) fun x=>l9 (aX x 1000000000000000) fun x_8=>l7 x_8 (some (0,3)) (some (x,0)))) (l9
 (kQ x x_2) fun x_3=>l9 (iI .i64 x x_2) fun x=>l9 (iI .i64 (N9 .i64 x_3 x_1) x_2) fun(x_4:
 Int)=>l9 (kQ (N9 .i64 x_3 x_1) x_2) fun x_5=>l9 (eF (x8 .i64 (N9 .i64 x x_1) x_4) x_5 x_2
 (D6 (dB (D6 (dB (ilt a0 0) (ilt a1 0))) (ilt a2 0))) a3) fun x=>l9 (aX x 1000000000000000) fun x_6=>l7
 x_6 (some (0,3)) (some (x,0)))) fun r=>some r))
def d4x:FSpec:=mkS b5f b8V fun x=>yG x.1 x.2.1 x.2.2.1 x.2.2.2
def b4H:List MG:=[uiM,uiM,uiM]
def b8x:Ret:=⟨[(.tmp 6,uiM),(.tmp 7,uiM)],[]⟩
def e0i:Env:=⟨14,eqs,tt,gl,[(321,d4x)],[],[],[],[]⟩
def c7L:Ann:=.leaf
def xE (a0:Int) (a1:Int) (a2:Int):Option F6:=l9 (yG a0 a1 1000000 a2) fun x=>some x
def d4j:FSpec:=mkS b4H b8x fun x=>xE x.1 x.2.1 x.2.2
def b5g:List MG:=[uiM,uiM]
def b8W:Ret:=⟨[(.tmp 4,ubM)],[]⟩
def e0H:Env:=⟨14,eqs,tt,gl,[],[],[],[],[]⟩
def c8k:Ann:=.leaf
def bU (a0:Int) (a1:Int):Option Bool:=l7 (ilt a1 a0) (some true) (some (ilt a0 (G8 .i64 0 a1)))
def c1P:FSpec:=mkS b5g b8W fun x=>bU x.1 x.2
def b5h:List MG:=[uiM,uiM]
def b8X:Ret:=⟨[(.tmp 4,uiM),(.tmp 5,uiM)],[]⟩
def e0I:Env:=⟨23,eqs,tt,gl,[],[],[],[],[]⟩
def c8l:Ann:=.leaf
def pz (a0:Int) (a1:Int):Option F6:=l9 (iI .i64 a0 a1) fun x=>l9 (kQ a0 a1) fun x_1=>l7
 (ilt x_1 0) (some (G8 .i64 x 1,x8 .i64 x_1 a1)) (some (x,x_1))
def c1Q:FSpec:=mkS b5h b8X fun x=>pz x.1 x.2
def b5i:List MG:=[uiM,uiM,uiM,uiM]
def b8Y:Ret:=⟨[(.tmp 8,uiM)],[]⟩
def e0J:Env:=⟨66,eqs,tt,gl,[],[],[],[],[]⟩
def c8m:Ann:=.seq lfA (.seq lfA (.seq (.join [(9,10),(13,31)] ⟨[(9,ubM)],[]⟩ lfA) lfA))
def U6 (a0:Int) (a1:Int) (a2:Int) (a3:Int):Option Int:=l7 (ieq a1 0) (some a0) (l9 (l7 (ieq a3 1) (some true) (l7
 (ieq a3 2) (l7 (ilt a0 0) (some true) (l7 (ieq a3 3) (some (ile 0 a0)) (some false))) (l7 (ieq a3 3) (some (ile 0 a0)) (some false)))) fun
 (x:Bool)=>l7 (ieq a3 4) (l7 (ieq a1 (G8 .i64 a2 a1)) (l7 (ieq a3 4) (l7 (ile 0 a0) (some (x8 .i64 a0 1)) (l7
 (ieq a3 5) (l7 (D6 (ieq (X5 a0 2) 0)) (some (x8 .i64 a0 1)) (some a0)) (some a0))) (l7 (ieq a3 5) (l7 (D6 (ieq (X5 a0 2)
 0)) (some (x8 .i64 a0 1)) (some a0)) (some a0))) (l7 (ilt (G8 .i64 a2 a1) a1) (some (x8 .i64 a0 1)) (some a0))) (l7
 (ieq a3 5) (l7 (ieq a1 (G8 .i64 a2 a1)) (l7 (ieq a3 4) (l7 (ile 0 a0) (some (x8 .i64 a0 1)) (l7 (ieq a3 5) (l7 (D6
 (ieq (X5 a0 2) 0)) (some (x8 .i64 a0 1)) (some a0)) (some a0))) (l7 (ieq a3 5) (l7 (D6 (ieq (X5 a0 2) 0)) (some (x8
 .i64 a0 1)) (some a0)) (some a0))) (l7 (ilt (G8 .i64 a2 a1) a1) (some (x8 .i64 a0 1)) (some a0))) (l7 x (some (x8
 .i64 a0 1)) (some a0))))
def c1R:FSpec:=mkS b5i b8Y fun x=>U6 x.1 x.2.1 x.2.2.1 x.2.2.2
def b4I:List MG:=[uiM,uiM,uiM]
def b8y:Ret:=⟨[(.tmp 6,uiM),(.tmp 7,uiM)],[]⟩
def e0j:Env:=⟨37,eqs,tt,gl,[(322,c1P),(323,c1Q),(324,c1R)],[],[],[],[]⟩
def c7M:Ann:=.leaf
def CU (a0:Int) (a1:Int) (a2:Int):Option F6:=l7 (ilt a2 0) (some (0,1)) (l7 (ilt 5 a2) (some (0,1)) (l9 (bU
 a0 1000000000) fun x=>l7 x (some (0,3)) (l9 (bU a1 1000000000) fun x=>l7 x (some (0,3)) (l9
 (pz (N9 .i64 a0 a1) 1000000) fun x=>l9 (U6 x.1 x.2 1000000 a2) fun x=>l9 (bU x
 1000000000) fun x_1=>l7 x_1 (some (0,3)) (some (x,0))))))
def d4k:FSpec:=mkS b4I b8y fun x=>CU x.1 x.2.1 x.2.2
def b4J:List MG:=[uiM,uiM,uiM]
def b8z:Ret:=⟨[(.tmp 6,uiM),(.tmp 7,uiM)],[]⟩
def e0k:Env:=⟨71,eqs,tt,gl,[(322,c1P),(323,c1Q),(324,c1R)],[],[],[],[]⟩
def c7N:Ann:=.seq lfA (.seq (.joinR [(6,8),(13,19)] ⟨[],[]⟩ lfA) lfA)
def nz (a0:Int) (a1:Int) (a2:Int):Option F6:=l9 (l7 (ilt a2 0) (some (.inr (0,1))) (l7 (ilt 5 a2) (some
 (.inr (0,1))) (some (.inl ())))) fun o=>L8 o (fun(x:PUnit)=>l7 (ieq a1 0) (some (0,12)) (l9
 (bU a0 1000000000000000) fun x=>l7 x (some (0,3)) (l9 (bU a1 1000000000000000) fun x=>l7 x (some
 (0,3)) (l7 (ilt a1 0) (l9 (pz (G8 .i64 0 a0) (G8 .i64 0 a1)) fun x=>l9 (bU x.1 1001) fun
 (x_1:Bool)=>l7 x_1 (some (0,3)) (l9 (iI .i64 (N9 .i64 x.2 1000) (G8 .i64 0 a1)) fun x_2=>l9
 (kQ (N9 .i64 x.2 1000) (G8 .i64 0 a1)) fun x_3=>l9 (iI .i64 (N9 .i64 x_3 1000) (G8 .i64
 0 a1)) fun x_4=>l9 (kQ (N9 .i64 x_3 1000) (G8 .i64 0 a1)) fun x_5=>l9 (U6 (x8 .i64
 (x8 .i64 (N9 .i64 x.1 1000000) (N9 .i64 x_2 1000)) x_4) x_5 (G8 .i64 0 a1) a2) fun x=>l9
 (bU x 1000000000) fun x_6=>l7 x_6 (some (0,3)) (some (x,0)))) (l9 (pz a0 a1) fun x=>l9
 (bU x.1 1001) fun x_1=>l7 x_1 (some (0,3)) (l9 (iI .i64 (N9 .i64 x.2 1000) a1) fun x_2=>
 l9 (kQ (N9 .i64 x.2 1000) a1) fun x_3=>l9 (iI .i64 (N9 .i64 x_3 1000) a1) fun x_4=>l9
 (kQ (N9 .i64 x_3 1000) a1) fun x_5=>l9 (U6 (x8 .i64 (x8 .i64 (N9 .i64 x.1 1000000)
 (N9 .i64 x_2 1000)) x_4) x_5 a1 a2) fun x=>l9 (bU x 1000000000) fun x_6=>l7 x_6 (some (0,3)) (some (x,
 0)))))))) fun r=>some r
def d4l:FSpec:=mkS b4J b8z fun x=>nz x.1 x.2.1 x.2.2
def b4K:List MG:=[uiM,uiM,uiM]
def b8A:Ret:=⟨[(.tmp 6,uiM),(.tmp 7,uiM)],[]⟩
def e0l:Env:=⟨39,eqs,tt,gl,[(291,a7Y),(292,a7Z),(325,b1u),(320,a8a)],[],[],[],[]⟩
def c7O:Ann:=.leaf
def pq (a0:Int) (a1:Int) (a2:Int):Option F6:=l9 (wM a2) fun x=>l7 (D6 x) (some (0,1)) (l7 (ieq
 a1 0) (some (0,12)) (l9 (aX a0 4611686018427387904) fun x=>l7 x (some (0,3)) (l9 (aX a1
 4611686018427387904) fun x=>l7 x (some (0,3)) (l9 (qj a0) fun x=>l9 (qj a1) fun x_1=>l9
 (iI .i64 x x_1) fun x_2=>l9 (kQ x x_1) fun x=>l9 (eF x_2 x x_1 (D6 (dB (ilt a0 0) (ilt a1 0)))
 a2) fun x=>some (x,0)))))
def d4m:FSpec:=mkS b4K b8A fun x=>pq x.1 x.2.1 x.2.2
def b4L:List MG:=[uiM,uiM,uiM]
def b8B:Ret:=⟨[(.tmp 6,uiM),(.tmp 7,uiM)],[]⟩
def e0m:Env:=⟨39,eqs,tt,gl,[(291,a7Y),(292,a7Z),(325,b1u),(320,a8a)],[],[],[],[]⟩
def c7P:Ann:=.leaf
def rq (a0:Int) (a1:Int) (a2:Int):Option F6:=l9 (wM a2) fun x=>l7 (D6 x) (some (0,1)) (l7 (ilt
 a1 1) (some (0,12)) (l9 (aX a0 1000000000000000) fun x=>l7 x (some (0,3)) (l7 (ilt 1000000000000000 a1) (some (0,3))
 (l9 (qj a0) fun x=>l9 (iI .i64 x a1) fun x_1=>l9 (kQ x a1) fun x=>l9 (eF x_1
 x a1 (ilt a0 0) a2) fun x=>l9 (aX (N9 .i64 x a1) 1000000000000000) fun x_2=>l7 x_2 (some (0,3)) (some
 (N9 .i64 x a1,0))))))
def d4n:FSpec:=mkS b4L b8B fun x=>rq x.1 x.2.1 x.2.2
def b4e:List MG:=[(true,(.dat y2)),(true,(.dat y3)),(true,(.dat y3))]
def b7U:Ret:=⟨[(.cell 6 60,(true,(.dat y3))),(.tmp 7,uiM)],[]⟩
def d9F:Env:=⟨199,eqs,tt,gl,[(295,d4i),(296,d4j),(261,b1m),(297,d4k),(298,d4l),(299,d4m),(300,d4n)],[],[],[],[]⟩
def c7i:Ann:=.seq lfA (.seq lfA (.seq (.joinR [(6,8),(9,19),(22,198),(4000384,4000385)] ⟨[(6,(false,(.box (.dat y3))))],[]⟩ (.blk (.seq (.join [(22,39)] ⟨[(22,ubM)],[]⟩ lfA) (.cond lfA (.seq (.join [(48,60)] ⟨[(48,ubM)],[]⟩ lfA) (.cond lfA (.seq (.join [(77,91)] ⟨[(77,ubM)],[]⟩ lfA) (.cond lfA (.seq (.join [(108,120)] ⟨[(108,ubM)],[]⟩ lfA) (.cond lfA (.seq (.join [(135,152)] ⟨[(135,ubM)],[]⟩ lfA) lfA))))))))))) lfA))
def qw (a0:F6) (a1:F8) (a2:F8):Option (F8×Int):=l9 (l9 (l7 (ieq a0.1 13) (l7 (ieq a2.1 2) (l7 (ieq
 a1.1 3) (some true) (some (ieq a1.1 2))) (some false)) (some false)) fun x=>l7 x (l9 (nP a1.1 a1.2.2 a2.2.2) fun(x:
 F8×Int)=>some (.inr x)) (l9 (l7 (ieq a0.1 14) (l7 (ieq a2.1 4) (some (ieq a1.1 3)) (some false)) (some false)) fun x=>
 l7 x (l9 (xE a1.2.2 a2.2.2 a0.2) fun x=>l9 (jk a1.1 x.1 x.2) fun x=>some (.inr x)) (l9
 (l7 (ieq a0.1 14) (l7 (ieq a2.1 4) (some (ieq a1.1 4)) (some false)) (some false)) fun x=>l7 x (l9 (CU a1.2.2 a2.2.2
 a0.2) fun x=>l9 (jk a1.1 x.1 x.2) fun x=>some (.inr x)) (l9 (l7 (ieq a0.1 15) (l7 (ieq a1.1 3)
 (some (ieq a2.1 3)) (some false)) (some false)) fun x=>l7 x (l9 (nz a1.2.2 a2.2.2 a0.2) fun x=>l9
 (jk 4 x.1 x.2) fun x=>some (.inr x)) (l9 (l7 (ieq a0.1 15) (l7 (ieq a2.1 2) (l7 (ieq a1.1 3) (some true)
 (some (ieq a1.1 2))) (some false)) (some false)) fun x=>l7 x (l9 (pq a1.2.2 a2.2.2 a0.2) fun x=>l9
 (jk a1.1 x.1 x.2) fun x=>some (.inr x)) (l7 (ieq a0.1 16) (l7 (ieq a1.1 3) (l7 (ieq a2.1 3) (l9
 (rq a1.2.2 a2.2.2 a0.2) fun x=>l9 (jk a1.1 x.1 x.2) fun x=>some (.inr x)) (some (.inl (0,
 0,0)))) (some (.inl (0,0,0)))) (some (.inl (0,0,0))))))))) fun o=>L8 o (fun(x:F8)=>some ((0,0,0),
 8)) fun r=>some r
def d3P:FSpec:=mkS b4e b7U fun x=>qw x.1 x.2.1 x.2.2
def b5k:List MG:=[uiM,uiM,uiM]
def b9a:Ret:=⟨[(.tmp 6,uiM),(.tmp 7,uiM)],[]⟩
def e0L:Env:=⟨50,eqs,tt,gl,[(289,b1r),(288,c1G)],[],[],[],[]⟩
def c8o:Ann:=.seq lfA (.seq (.joinR [(6,8),(11,28)] ⟨[],[]⟩ lfA) (.seq lfA (.seq (.seq lfA (.blk (.loop [(8,10),(30,39)] ⟨[(8,uiM),(9,uiM)],[]⟩ 0 ⟨[(8,uiM)],[]⟩ lfA))) (.seq (.seq lfA (.blk (.loop [(8,9),(10,11),(39,49)] ⟨[(8,uiM),(10,uiM)],[]⟩ 2 ⟨[(8,uiM)],[]⟩ lfA))) lfA))))
def nO (a0:Int) (a1:Int) (a2:Int):Option F6:=l9 (l7 (ilt a0 1900) (some (.inr (0,3))) (l7 (ilt 2199 a0) (some
 (.inr (0,3))) (l7 (ilt a2 1) (some (.inr (0,3))) (l9 (Z7 a0 a1) fun x=>l7 (ilt x a2) (some (.inr (0,
 3))) (some (.inl ())))))) fun o=>L8 o (fun(x:PUnit)=>l9 (N8 (fun(x:F6)=>l7 (ilt x.2 a0) (l9
 (bV x.2) fun x_1=>some (.inl (x8 .i64 x.1 x_1,x8 .i64 x.2 1))) (some (.inr x.1))) (G8 .i64
 a2 1,1900)) fun y=>l9 (N8 (fun(x:F6)=>l7 (ilt x.2 a1) (l9 (Z7 a0 x.2) fun x_1=>some (.inl
 (x8 .i64 x.1 x_1,x8 .i64 x.2 1))) (some (.inr x.1))) (y,1)) fun y=>some (y,0)) fun r=>some r
def d4y:FSpec:=mkS b5k b9a fun x=>nO x.1 x.2.1 x.2.2
def b4M:List MG:=[uiM,uiM]
def b8C:Ret:=⟨[(.tmp 4,uiM),(.tmp 5,uiM)],[]⟩
def e0n:Env:=⟨50,eqs,tt,gl,[(287,b1q),(258,c1E),(289,b1r),(326,d4y)],[],[],[],[]⟩
def c7Q:Ann:=.seq lfA (.seq (.joinR [(4,6),(10,21)] ⟨[],[]⟩ lfA) lfA)
def fE (a0:Int) (a1:Int):Option F6:=l9 (l9 (lM a0) fun x=>l7 (D6 x) (some (.inr (0,3)))
 (l7 (ilt a1 (-3600)) (some (.inr (0,3))) (l7 (ilt 3600 a1) (some (.inr (0,3))) (some (.inl ()))))) fun o
 =>L8 o (fun(x:PUnit)=>l9 (ug a0) fun x=>l9 (Z7 (X4 .i64 (x8 .i64 (G8
 .i64 (x8 .i64 (N9 .i64 12 x.1) x.2.1) 1) a1) 12) (x8 .i64 (X5 (x8 .i64 (G8 .i64 (x8
 .i64 (N9 .i64 12 x.1) x.2.1) 1) a1) 12) 1)) fun x_1=>l9 (nO (X4 .i64 (x8 .i64 (G8
 .i64 (x8 .i64 (N9 .i64 12 x.1) x.2.1) 1) a1) 12) (x8 .i64 (X5 (x8 .i64 (G8 .i64 (x8
 .i64 (N9 .i64 12 x.1) x.2.1) 1) a1) 12) 1) (jf x.2.2 x_1)) fun x=>some x) fun r=>some r
def c1H:FSpec:=mkS b4M b8C fun x=>fE x.1 x.2
def b4N:List MG:=[uiM,uiM]
def b8D:Ret:=⟨[(.tmp 4,uiM)],[]⟩
def e0o:Env:=⟨34,eqs,tt,gl,[(287,b1q),(301,c1H)],[],[],[],[]⟩
def c7R:Ann:=.seq lfA (.seq lfA (.seq lfA (.blk (.loopR [(4,8),(16,34)] ⟨[(5,uiM)],[]⟩ 999999 ⟨[],[]⟩ lfA))))
def jh (a0:Int) (a1:Int):Option Int:=l9 (lM a0) fun x=>l7 (D6 x) (some 0) (l9 (lM a1)
 fun x=>l7 (D6 x) (some 0) (l9 (J9 (fun(x:Int)=>l9 (fE a0 (N9 .i64 12 (x8 .i64 x 1))) fun
 (x_1:F6)=>l7 (D6 (ieq x_1.2 0)) (some (.rt x)) (l7 (ilt a1 x_1.1) (some (.rt x)) (some (.nx (x8 .i64 x 1))))) 0) fun
 (o:PUnit⊕Int)=>L8 o (fun(y:PUnit)=>none) fun r=>some r))
def d4o:FSpec:=mkS b4N b8D fun x=>jh x.1 x.2
def b4f:List MG:=[uiM,(true,(.dat y3)),(true,(.dat y3))]
def b7V:Ret:=⟨[(.cell 6 60,(true,(.dat y3))),(.tmp 7,uiM)],[]⟩
def d9G:Env:=⟨69,eqs,tt,gl,[(255,YC),(301,c1H),(261,b1m),(302,d4o)],[],[],[],[]⟩
def c7j:Ann:=.leaf
def pI (a0:Int) (a1:F8) (a2:F8):Option (F8×Int):=l7 (D6 (ieq a1.1 5)) (some ((0,0,0),8)) (l7 (ieq a0 27)
 (l7 (D6 (ieq a2.1 2)) (some ((0,0,0),8)) (l7 (ieq a0 27) (l9 (U7 5 (x8 .i64 a1.2.2 a2.2.2)) fun x=>
 some x) (l9 (fE a1.2.2 a2.2.2) fun x=>l9 (jk 5 x.1 x.2) fun x=>some x))) (l7 (ieq a0 28)
 (l7 (D6 (ieq a2.1 2)) (some ((0,0,0),8)) (l7 (ieq a0 27) (l9 (U7 5 (x8 .i64 a1.2.2 a2.2.2)) fun x=>
 some x) (l9 (fE a1.2.2 a2.2.2) fun x=>l9 (jk 5 x.1 x.2) fun x=>some x))) (l7 (D6 (ieq
 a2.1 5)) (some ((0,0,0),8)) (l7 (ieq a0 29) (l9 (U7 2 (G8 .i64 a2.2.2 a1.2.2)) fun x=>some x) (l9
 (jh a1.2.2 a2.2.2) fun x=>l9 (U7 2 x) fun x=>some x)))))
def d3Q:FSpec:=mkS b4f b7V fun x=>pI x.1 x.2.1 x.2.2
def b4g:List MG:=[uiM,(true,(.dat y3)),(true,(.dat y3))]
def b7W:Ret:=⟨[(.cell 6 60,(true,(.dat y3))),(.tmp 7,uiM)],[]⟩
def d9H:Env:=⟨141,eqs,tt,gl,[(257,c1C),(256,c1B),(255,YC)],[],[],[],[]⟩
def c7k:Ann:=.seq lfA (.seq (.joinR [(6,21),(4000384,4000385)] ⟨[(6,(false,(.box (.dat y3))))],[]⟩ lfA) (.seq (.joinR [(6,8),(21,100),(6000000,6000001)] ⟨[(6,(false,(.box (.dat y3))))],[]⟩ (.seq lfA (.blk (.seq lfA (.cond lfA (.seq lfA (.cond lfA (.seq (.join [(42,45)] ⟨[(42,ubM)],[]⟩ lfA) (.cond lfA (.seq (.join [(70,73)] ⟨[(70,ubM)],[]⟩ lfA) lfA)))))))))) (.seq (.joinR [(6,8),(100,110),(16000000,16000001)] ⟨[(6,(false,(.box (.dat y3))))],[]⟩ lfA) lfA)))
def ji (a0:Int) (a1:F8) (a2:F8):Option (F8×Int):=l9 (l7 (D6 (ieq a1.1 a2.1)) (some (.inr ((0,0,0),
 8))) (l7 (D6 (ieq a1.2.1 a2.2.1)) (some (.inr ((0,0,0),8))) (some (.inl (0,0,0))))) fun o=>L8 o (fun(x
 :F8)=>l9 (l7 (ieq a0 19) (l9 (iY (ieq a1.2.2 a2.2.2)) fun x=>some (.inr x)) (l7 (ieq a0 20) (l9
 (iY (D6 (ieq a1.2.2 a2.2.2))) fun x=>some (.inr x)) (l9 (l7 (ieq a0 23) (some (ieq a0 23)) (some (ieq a0 24)))
 fun x_1=>l7 x_1 (l7 (D6 (ieq a1.1 1)) (some (.inr ((0,0,0),8))) (l7 (ieq (x8 .i64 a1.2.2 a2.2.2) 2) (l9
 (iY true) fun x=>some (.inr x)) (l7 (ieq a0 24) (l9 (iY (ieq (x8 .i64 a1.2.2 a2.2.2) 1)) fun
 (x:F8×Int)=>some (.inr x)) (l9 (iY false) fun x=>some (.inr x))))) (l9 (l7 (ieq a0 11) (some
 (ieq a0 11)) (some (ieq a0 12))) fun x_2=>l7 x_2 (l9 (vC a1.1) fun x=>l7 (D6 x) (some (.inr ((0,0,0),
 8))) (l7 (ieq a0 11) (l9 (U7 a1.1 (x8 .i64 a1.2.2 a2.2.2)) fun x=>some (.inr x)) (l9 (U7 a1.1
 (G8 .i64 a1.2.2 a2.2.2)) fun x=>some (.inr x)))) (some (.inl x)))))) fun o=>L8 o (fun
 (x:F8)=>l9 (l9 (vC a1.1) fun x_1=>l7 (D6 x_1) (l7 (D6 (ieq a1.1 5)) (some (.inr ((0,0,0),8)))
 (some (.inl x))) (some (.inl x))) fun o=>L8 o (fun(x:F8)=>l7 (ieq a0 21) (l9 (iY (ilt
 a1.2.2 a2.2.2)) fun x=>some x) (l7 (ieq a0 22) (l9 (iY (ile a1.2.2 a2.2.2)) fun x=>some x)
 (l7 (dB (ieq a0 17) (ilt a1.2.2 a2.2.2)) (some (a1,0)) (some (a2,0))))) fun r=>some r) fun r=>some r)
 fun r=>some r
def d3R:FSpec:=mkS b4g b7W fun x=>ji x.1 x.2.1 x.2.2
def b3r:List MG:=[(true,(.dat y2)),(true,(.dat y3)),(true,(.dat y3))]
def b7h:Ret:=⟨[(.cell 6 60,(true,(.dat y3))),(.tmp 7,uiM)],[]⟩
def d8S:Env:=⟨39,eqs,tt,gl,[(262,d3P),(263,d3Q),(264,d3R)],[],[],[],[]⟩
def c6v:Ann:=.leaf
def aK (a0:F6) (a1:F8) (a2:F8):Option (F8×Int):=l7 (ile 13 a0.1) (l7 (ile a0.1 16) (l9 (qw a0
 a1 a2) fun x=>some x) (l7 (ile 27 a0.1) (l9 (pI a0.1 a1 a2) fun x=>some x) (l9
 (ji a0.1 a1 a2) fun x=>some x))) (l7 (ile 27 a0.1) (l9 (pI a0.1 a1 a2) fun x=>some
 x) (l9 (ji a0.1 a1 a2) fun x=>some x))
def d3o:FSpec:=mkS b3r b7h fun x=>aK x.1 x.2.1 x.2.2
def b2H:List MG:=[(true,(.dat y2)),(false,(.dat y28)),(true,(.dat y42))]
def b6x:Ret:=⟨[(.cell 6 60,(true,(.dat y3))),(.tmp 7,uiM)],[]⟩
def d8g:Env:=⟨112,eqs,tt,gl,[(204,d3j),(205,d3k),(203,a0B),(206,d3l),(207,d3m),(208,d3n),(209,d3o)],[],[],[],[]⟩
def c5H:Ann:=.seq lfA (.seq lfA (.seq lfA (.seq (.seq lfA (.blk (.loopR [(6,9),(23,36),(4000384,4000385)] ⟨[(6,(false,(.box (.dat y3)))),(8,uiM)],[]⟩ 0 ⟨[(6,(false,(.box (.dat y3))))],[]⟩ lfA))) lfA)))
def iV (a0:F6) (a1:List F8) (a2:P5):Option (F8×Int):=l9 (vz a0 (o8 a1)) fun x=>l7 (D6
 x) (some ((0,0,0),2)) (l9 (uh a0 a2) fun x=>l7 (D6 x) (some ((0,0,0),6)) (l9 (J9 (fun(x:F8×Int)=>
 l7 (ilt x.2 (o8 a1)) (l9 (lat a1 x.2) fun x_1=>l9 (Z4 x_1) fun x_2=>l7 (D6 x_2) (some (.rt
 ((0,0,0),8))) (some (.nx (x.1,x8 .i64 x.2 1)))) (some (.ex x.1))) ((0,0,0),0)) fun o=>L8 o (fun
 (y:F8)=>l7 (ieq (o8 a1) 0) (l7 (ile 36 a0.1) (l7 (ile a0.1 39) (l9 (iW a0 a2) fun x=>some x)
 (l9 (aA a0 a2) fun x=>some x)) (l9 (aA a0 a2) fun x=>some x)) (l7 (ieq (o8 a1)
 1) (l9 (lat a1 0) fun x=>l9 (fV a0 x a2) fun x=>some x) (l7 (ieq (o8 a1) 2) (l9 (lat a1 0)
 fun x=>l9 (lat a1 1) fun x_1=>l9 (aK a0 x x_1) fun x=>some x) (l9 (lat a1 0) fun(x:
 F8)=>l9 (lat a1 1) fun x_1=>l9 (lat a1 2) fun x_2=>l7 (D6 (ieq x.1 1)) (some ((0,0,0),8)) (l7 (D6
 (ieq x_1.1 x_2.1)) (some ((0,0,0),8)) (l7 (D6 (ieq x_1.2.1 x_2.2.1)) (some ((0,0,0),8)) (l7 (ieq x.2.2 1) (some (x_1,0)) (some (x_2,
 0))))))))) fun r=>some r))
def d2N:FSpec:=mkS b2H b6x fun x=>iV x.1 x.2.1 x.2.2
def Yj:List MG:=[(false,(.dat y12)),uiM,(true,(.dat y42))]
def a7f:List MG:=[(false,(.dat y12)),uiM,(false,(.dat y32)),(true,(.dat y42))]
def b5W:Ret:=⟨[(.cell 6 60,(true,(.dat y3))),(.tmp 7,uiM)],[]⟩
def d7D (r118:M.den (.dat y12)→M.den diM→M.den (.dat y42)→Option (U4 ([(true,(.dat y3)),uiM]++[]))) (r150:M.den (.dat y12)→M.den diM→M.den (.dat y32)→M.den (.dat y42)→Option (U4 ([(true,(.dat y3)),uiM]++[]))):Env:=⟨72,eqs,tt,gl,[(149,d2M),(150,⟨a7f,[(true,(.dat y3)),uiM],[],fun x=>r150 x.1 x.2.1 x.2.2.1 x.2.2.2⟩),(118,⟨Yj,[(true,(.dat y3)),uiM],[],fun x=>r118 x.1 x.2.1 x.2.2⟩),(151,d2N)],[],[],[],[]⟩
def c5d:Ann:=.seq lfA (.seq lfA (.seq lfA (.seq (.joinR [(6,8),(22,39),(4000384,4000385)] ⟨[(6,(false,(.box (.dat y3))))],[]⟩ lfA) (.seq lfA (.seq (.seq lfA (.blk (.loopR [(6,8),(10,14),(39,63),(12000000,12000001)] ⟨[(6,(false,(.box (.dat y3)))),(10,(false,(.own y3))),(11,uiM)],[]⟩ 0 ⟨[(6,(false,(.box (.dat y3)))),(10,(false,(.own y3)))],[]⟩ lfA))) lfA)))))
def wO (r118:List F6→Int→P5→Option (F8×Int)) (r150:List F6→Int→List Int→P5→Option (F8×Int)) (a0
 :List F6) (a1:Int) (a2:P5):Option (F8×Int):=l9 (pG a0 a1) fun x=>l9 (lat a0 a1) fun(x_1:
 F6)=>l9 (l7 (ieq x_1.1 23) (l9 (r150 a0 a1 x a2) fun x=>some (.inr x)) (l7 (ieq x_1.1 24) (l9 (r150 a0 a1 x
 a2) fun x=>some (.inr x)) (l7 (ieq x_1.1 26) (l9 (r150 a0 a1 x a2) fun x=>some (.inr x)) (some
 (.inl (0,0,0)))))) fun o=>L8 o (fun(x_2:F8)=>l9 (J9 (fun(x_3:F8×List F8×Int)=>
 l7 (ilt x_3.2.2 (o8 x)) (l9 (lat x x_3.2.2) fun x_4=>l9 (I9 x (toN x_3.2.2)) fun x=>l9 (r118 a0 x a2) fun(x:
 F8×Int)=>l7 (D6 (ieq x.2 0)) (some (.rt ((0,0,0),x.2))) (l9 (X9 x_3.2.1 [x.1]) fun x=>some (.nx (x_3.1,
 x,x8 .i64 x_3.2.2 1)))) (some (.ex (x_3.1,x_3.2.1)))) (x_2,[],0)) fun o=>L8 o (fun(y:
 F8×List F8)=>l9 (lat a0 a1) fun x=>l9 (iV x y.2 a2) fun x=>some x) fun r
 =>some r) fun r=>some r
def d0R:Ret:=⟨[(.cell 8 60,(true,(.dat y3))),(.tmp 9,uiM)],[]⟩
def d8f (r118:M.den (.dat y12)→M.den diM→M.den (.dat y42)→Option (U4 ([(true,(.dat y3)),uiM]++[]))) (r150:M.den (.dat y12)→M.den diM→M.den (.dat y32)→M.den (.dat y42)→Option (U4 ([(true,(.dat y3)),uiM]++[]))):Env:=⟨102,eqs,tt,gl,[(118,⟨Yj,[(true,(.dat y3)),uiM],[],fun x=>r118 x.1 x.2.1 x.2.2⟩),(203,a0B)],[],[],[],[]⟩
def c5G:Ann:=.seq lfA (.seq lfA (.seq lfA (.seq lfA (.seq (.joinR [(8,10),(34,43),(4000512,4000513)] ⟨[(8,(false,(.box (.dat y3))))],[]⟩ lfA) lfA))))
def su (r118:List F6→Int→P5→Option (F8×Int)) (r150:List F6→Int→List Int→P5→Option (F8×Int)) (a0:
 List F6) (a1:Int) (a2:List Int) (a3:P5):Option (F8×Int):=l9 (lat a0 a1) fun x=>l7 (D6 (ieq x.2 0)) (some
 ((0,0,0),2)) (l9 (lat a2 0) fun x=>l9 (r118 a0 x a3) fun x=>l7 (D6 (ieq x.2 0)) (some ((0,0,0),x.2))
 (l9 (l7 (D6 (ieq x.1.1 1)) (some (.inr ((0,0,0),8))) (l9 (Z4 x.1) fun x=>l7 (D6 x) (some (.inr ((0,
 0,0),8))) (some (.inl (0,0,0))))) fun o=>L8 o (fun(x_1:F8)=>l9 (lat a0 a1) fun x_2=>
 l7 (ieq x_2.1 26) (l7 (ieq x.1.2.2 1) (l9 (lat a2 1) fun x=>l9 (r118 a0 x a3) fun x=>some x) (l9 (lat a2
 2) fun x=>l9 (r118 a0 x a3) fun x=>some x)) (l9 (lat a0 a1) fun x_3=>l7 (dB (ieq x_3.1 23) (ieq
 x.1.2.2 0)) (some (x.1,0)) (l9 (lat a2 1) fun x=>l9 (r118 a0 x a3) fun x=>l7 (D6 (ieq x.2 0)) (some ((0,0,
 0),x.2)) (l7 (D6 (ieq x.1.1 1)) (some ((0,0,0),8)) (l9 (Z4 x.1) fun x_4=>l7 (D6 x_4) (some ((0,0,0),8))
 (some (x.1,0))))))) fun r=>some r))
def J5:Nat→(M.den (.dat y12)→M.den diM→M.den (.dat y42)→Option (U4 ([(true,(.dat y3)),uiM]++[])))×(M.den (.dat y12)→M.den diM→M.den (.dat y32)→M.den (.dat y42)→Option (U4 ([(true,(.dat y3)),uiM]++[])))
 | 0=>(fun a0 a1 a2=>none,fun a0 a1 a2 a3=>none)
 | n+1=>(fun a0 a1 a2=>wO (J5 n).1 (J5 n).2 a0 a1 a2,fun a0 a1 a2 a3=>su (J5 n).1 (J5 n).2 a0 a1 a2 a3)
def FQ:M.den (.dat y12)→M.den diM→M.den (.dat y42)→Option (U4 ([(true,(.dat y3)),uiM]++[])):=fun a0 a1 a2=>(J5 bJ).1 a0 a1 a2
def d2u:FSpec:=mkS Yj b5W fun x=>FQ x.1 x.2.1 x.2.2
def d0u:List MG:=[(false,(.dat y12)),(true,(.dat y42))]
def d2a:Ret:=⟨[(.cell 4 60,(true,(.dat y3))),(.tmp 5,uiM)],[]⟩
def e85:Env:=⟨25,eqs,tt,gl,[(117,d2t),(118,d2u)],[],[],[],[]⟩
def d6Z:Ann:=.leaf
def zN (a0:List F6) (a1:P5):Option (F8×Int):=l9 (Eb a0) fun x=>l7 (D6 (ieq x.2 0))
 (some ((0,0,0),x.2)) (l9 (FQ a0 (G8 .i64 (o8 a0) 1) a1) fun x=>some x)
def s85:FSpec:=mkS d0u d2a fun x=>zN x.1 x.2
def b2i:List MG:=[(false,(.dat y32)),(false,(.dat y32))]
def b5X:Ret:=⟨[(.tmp 4,uiM)],[]⟩
def d7E:Env:=⟨45,eqs,tt,gl,[],[],[],[],[]⟩
def c5e:Ann:=.seq lfA (.seq lfA (.seq lfA (.seq (.seq lfA (.blk (.loopR [(4,6),(14,45)] ⟨[(5,uiM)],[]⟩ 0 ⟨[],[]⟩ lfA))) lfA)))
def vF (a0:List Int) (a1:List Int):Option Int:=l7 (D6 (ieq (o8 a0) (o8 a1))) (some 2) (l7 (ilt 8 (o8 a0)) (some 4)
 (l9 (J9 (fun(x:Int)=>l7 (ilt x (o8 a0)) (l9 (lat a0 x) fun x_1=>l7 (ilt x_1 (-1)) (some (.rt 9)) (l9 (lat a0 x)
 fun x_2=>l7 (ile x x_2) (some (.rt 9)) (l9 (lat a1 x) fun x_3=>l7 (ilt x_3 0) (some (.rt 3)) (l9 (lat a1 x) fun
 (x_4:Int)=>l7 (ilt 9 x_4) (some (.rt 3)) (some (.nx (x8 .i64 x 1))))))) (some (.ex ()))) 0) fun o=>
 L8 o (fun(y:PUnit)=>some 0) fun r=>some r))
def d2v:FSpec:=mkS b2i b5X fun x=>vF x.1 x.2
def b3s:List MG:=[(false,(.dat y32)),uiM]
def b7i:Ret:=⟨[(.tmp 4,uoM)],[]⟩
def d8T:Env:=⟨25,eqs,tt,gl,[],[],[],[],[]⟩
def c6w:Ann:=.seq lfA (.seq lfA (.seq (.seq lfA (.blk (.loop [(5,7),(8,24),(7000448,7000449)] ⟨[(5,uoM),(6,uiM)],[]⟩ 0 ⟨[(5,uoM)],[]⟩ lfA))) lfA))
def zO (a0:List Int) (a1:Int):Option (List Int):=l9 (N8 (fun(x:List Int×Int)=>l7 (ilt x.2 (o8 a0)) (l9 (lat
 a0 x.2) fun x_1=>l7 (ieq x_1 a1) (l9 (X9 x.1 [x.2]) fun x_2=>some (.inl (x_2,x8 .i64 x.2 1))) (some
 (.inl (x.1,x8 .i64 x.2 1)))) (some (.inr x.1))) ([],0)) fun y=>some y
def d3p:FSpec:=mkS b3s b7i fun x=>zO x.1 x.2
def a2o:List MG:=[(false,(.dat y32)),(false,(.dat y32)),(false,(.dat (.sl .bool))),uiM]
def a7g:List MG:=[(false,(.dat y32)),(false,(.dat y32)),(false,(.dat (.sl .bool))),uiM]
def a2r:List MG:=[(false,(.dat y32)),(false,(.dat y32)),(false,(.dat (.sl .bool))),uiM]
def b5Y:Ret:=⟨[(.tmp 8,uiM)],[]⟩
def d7F (r120:M.den (.dat y32)→M.den (.dat y32)→M.den (.dat (.sl .bool))→M.den diM→Option (U4 ([uiM]++[]))) (r152:M.den (.dat y32)→M.den (.dat y32)→M.den (.dat (.sl .bool))→M.den diM→Option (U4 ([(false,(.dat y32))]++[]))) (r153:M.den (.dat y32)→M.den (.dat y32)→M.den (.dat (.sl .bool))→M.den diM→Option (U4 ([uiM]++[]))):Env:=⟨28,eqs,tt,gl,[(152,⟨a7g,[(false,(.dat y32))],[],fun x=>r152 x.1 x.2.1 x.2.2.1 x.2.2.2⟩),(153,⟨a2r,[uiM],[],fun x=>r153 x.1 x.2.1 x.2.2.1 x.2.2.2⟩)],[],[],[],[]⟩
def c5f:Ann:=.leaf
def qP (r120:List Int→List Int→List Bool→Int→Option Int) (r152:List Int→List Int→List Bool→Int→Option (List Int))
 (r153:List Int→List Int→List Bool→Int→Option Int) (a0:List Int) (a1:List Int) (a2:List Bool) (a3:Int):Option Int:=l9 (r152
 a0 a1 a2 a3) fun x=>l7 (ieq (o8 x) 0) (some (-1)) (l7 (ilt 1 (o8 x)) (some (-2)) (l9 (lat x 0) fun x=>l9
 (r153 a0 a1 a2 x) fun x=>some x))
def d0S:Ret:=⟨[(.tmp 8,(false,(.dat y32)))],[]⟩
def d8h (r120:M.den (.dat y32)→M.den (.dat y32)→M.den (.dat (.sl .bool))→M.den diM→Option (U4 ([uiM]++[]))) (r152:M.den (.dat y32)→M.den (.dat y32)→M.den (.dat (.sl .bool))→M.den diM→Option (U4 ([(false,(.dat y32))]++[]))) (r153:M.den (.dat y32)→M.den (.dat y32)→M.den (.dat (.sl .bool))→M.den diM→Option (U4 ([uiM]++[]))):Env:=⟨78,eqs,tt,gl,[(210,d3p),(153,⟨a2r,[uiM],[],fun x=>r153 x.1 x.2.1 x.2.2.1 x.2.2.2⟩)],[],[],[],[]⟩
def c5I:Ann:=.seq lfA (.seq lfA (.seq lfA (.seq (.seq lfA (.blk (.loop [(10,12),(16,77),(10000960,10000961)] ⟨[(10,uoM),(11,uiM)],[]⟩ 0 ⟨[(10,uoM)],[]⟩ (.seq lfA (.seq (.blk (.seq lfA (.seq (.join [(10,11),(31,51),(17000000,17000001)] ⟨[(10,uoM)],[]⟩ lfA) lfA))) lfA))))) lfA)))
def xU (r120:List Int→List Int→List Bool→Int→Option Int) (r152:List Int→List Int→List Bool→Int→Option (List Int))
 (r153:List Int→List Int→List Bool→Int→Option Int) (a0:List Int) (a1:List Int) (a2:List Bool) (a3:Int):Option (List Int):=l9
 (zO a0 a3) fun x=>l9 (N8 (fun(x_1:List Int×Int)=>l7 (ilt x_1.2 (o8 x)) (l9 (lat x x_1.2) fun(x_2:
 Int)=>l9 (I9 x (toN x_1.2)) fun x_3=>l9 (r153 a0 a1 a2 x_3) fun x_4=>l7 (ieq x_4 (-1)) (some (.inl (x_1.1,x8
 .i64 x_1.2 1))) (l9 (l7 (ilt 0 (o8 x_1.1)) (l9 (lat x x_1.2) fun x_5=>l9 (I9 x (toN x_1.2)) fun x=>l9
 (lat a1 x) fun x=>l9 (lat x_1.1 0) fun x_6=>l9 (I9 x_1.1 (toN 0)) fun x_7=>l9 (lat a1 x_7) fun x_8
 =>l7 (ilt x_8 x) (some []) (some x_1.1)) (some x_1.1)) fun x_5=>l7 (ieq (o8 x_5) 0) (l9 (lat x x_1.2) fun x_6=>
 l9 (I9 x (toN x_1.2)) fun x=>l9 (X9 x_5 [x]) fun x=>some (.inl (x,x8 .i64 x_1.2 1))) (l9 (lat x
 x_1.2) fun x_6=>l9 (I9 x (toN x_1.2)) fun x_7=>l9 (lat a1 x_7) fun x_8=>l9 (lat x_5 0) fun x_9=>
 l9 (I9 x_5 (toN 0)) fun x_10=>l9 (lat a1 x_10) fun x_11=>l7 (ieq x_8 x_11) (l9 (lat x x_1.2) fun x_12=>
 l9 (I9 x (toN x_1.2)) fun x=>l9 (X9 x_5 [x]) fun x=>some (.inl (x,x8 .i64 x_1.2 1))) (some (.inl
 (x_5,x8 .i64 x_1.2 1)))))) (some (.inr x_1.1))) ([],0)) fun y=>some y
def d0T:Ret:=⟨[(.tmp 8,uiM)],[]⟩
def d8i (r120:M.den (.dat y32)→M.den (.dat y32)→M.den (.dat (.sl .bool))→M.den diM→Option (U4 ([uiM]++[]))) (r152:M.den (.dat y32)→M.den (.dat y32)→M.den (.dat (.sl .bool))→M.den diM→Option (U4 ([(false,(.dat y32))]++[]))) (r153:M.den (.dat y32)→M.den (.dat y32)→M.den (.dat (.sl .bool))→M.den diM→Option (U4 ([uiM]++[]))):Env:=⟨25,eqs,tt,gl,[(120,⟨a2o,[uiM],[],fun x=>r120 x.1 x.2.1 x.2.2.1 x.2.2.2⟩)],[],[],[],[]⟩
def c5J:Ann:=.leaf
def tu (r120:List Int→List Int→List Bool→Int→Option Int) (r152:List Int→List Int→List Bool→Int→Option (List Int))
 (r153:List Int→List Int→List Bool→Int→Option Int) (a0:List Int) (a1:List Int) (a2:List Bool) (a3:Int):Option Int:=l9 (r120
 a0 a1 a2 a3) fun x=>l7 (ieq x (-1)) (l9 (lat a2 a3) fun x_1=>l7 x_1 (some a3) (some x)) (some x)
def F9:Nat→(M.den (.dat y32)→M.den (.dat y32)→M.den (.dat (.sl .bool))→M.den diM→Option (U4 ([uiM]++[])))×(M.den (.dat y32)→M.den (.dat y32)→M.den (.dat (.sl .bool))→M.den diM→Option (U4 ([(false,(.dat y32))]++[])))×(M.den (.dat y32)→M.den (.dat y32)→M.den (.dat (.sl .bool))→M.den diM→Option (U4 ([uiM]++[])))
 | 0=>(fun a0 a1 a2 a3=>none,fun a0 a1 a2 a3=>none,fun a0 a1 a2 a3=>none)
 | n+1=>(fun a0 a1 a2 a3=>qP (F9 n).1 (F9 n).2.1 (F9 n).2.2 a0 a1 a2 a3,fun a0 a1 a2 a3=>xU (F9 n).1 (F9 n).2.1 (F9 n).2.2 a0 a1 a2 a3,fun a0 a1 a2 a3=>tu (F9 n).1 (F9 n).2.1 (F9 n).2.2 a0 a1 a2 a3)
def zQ:M.den (.dat y32)→M.den (.dat y32)→M.den (.dat (.sl .bool))→M.den diM→Option (U4 ([uiM]++[])):=fun a0 a1 a2 a3=>(F9 bJ).1 a0 a1 a2 a3
def d2w:FSpec:=mkS a2o b5Y fun x=>zQ x.1 x.2.1 x.2.2.1 x.2.2.2
def d0v:List MG:=[(false,(.dat y32)),(false,(.dat y32)),(false,(.dat (.sl .bool)))]
def d2b:Ret:=⟨[(.tmp 6,uiM)],[]⟩
def e86:Env:=⟨22,eqs,tt,gl,[(119,d2v),(120,d2w)],[],[],[],[]⟩
def d7a:Ann:=.leaf
def yK (a0:List Int) (a1:List Int) (a2:List Bool):Option Int:=l9 (vF a0 a1) fun x=>l7 (D6 (ieq x 0))
 (some (-1)) (l7 (D6 (ieq (o8 a2) (o8 a0))) (some (-1)) (l9 (zQ a0 a1 a2 (-1)) fun x=>some x))
def s86:FSpec:=mkS d0v d2b fun x=>yK x.1 x.2.1 x.2.2
def c9W:List MG:=[(true,(.dat y24)),(true,(.dat y42)),uiM,uiM]
def d1B:Ret:=⟨[(.tmp 8,uiM),(.cell 9 39,(true,(.dat y37)))],[]⟩
def e54:Env:=⟨84,eqs,tt,gl,[(84,s84),(85,s85),(86,s86)],[],[],[],[]⟩
def d6A:Ann:=.seq lfA (.seq lfA (.seq lfA (.seq (.seq lfA (.blk (.loopR [(8,10),(13,18),(28,71),(4000576,4000577)] ⟨[(9,(false,(.box (.dat y37)))),(13,(false,(.own .bool))),(14,uiM)],[]⟩ 0 ⟨[(9,(false,(.box (.dat y37)))),(13,(false,(.own .bool)))],[]⟩ lfA))) lfA)))
def vI (a0:A8) (a1:P5) (a2:Int) (a3:Int):Option (Int×E8):=l9 (yL a0 a3 a1.1) fun(x:
 Z5)=>l9 (J9 (fun(x_1:E8×List Bool×Int)=>l7 (ilt x_1.2.2 (o8 x.1)) (l9 (lat x.1 x_1.2.2) fun x_2
 =>l9 (I9 x.1 (toN x_1.2.2)) fun x_3=>l9 (lat a0.2.2.2.2 x_3) fun x_4=>l7 (ieq (o8 x_4.2.2.2.2.2.1) 0) (l9
 (X9 x_1.2.1 [true]) fun x=>some (.nx (x_1.1,x,x8 .i64 x_1.2.2 1))) (l9 (zN x_4.2.2.2.2.2.1 a1) fun(x_5:
 F8×Int)=>l7 (D6 (ieq x_5.2 0)) (l9 (lat x.1 x_1.2.2) fun x_6=>l9 (I9 x.1 (toN x_1.2.2)) fun x=>some (.rt
 (0,x_5.2,a2,a3,x))) (l9 (X9 x_1.2.1 [ieq x_5.1.2.2 1]) fun x=>some (.nx (x_1.1,x,x8 .i64 x_1.2.2 1))))) (some
 (.ex (x_1.1,x_1.2.1)))) ((0,0,0,0),[],0)) fun o=>L8 o (fun(y:E8×List Bool)=>
 l9 (yK x.2.1 x.2.2 y.2) fun x_1=>l7 (ilt x_1 0) (some (x_1,0,0,0,0)) (l9 (lat x.1 x_1) fun x_2=>l9
 (I9 x.1 (toN x_1)) fun x=>some (x,0,0,0,0))) fun r=>some r
def s54:FSpec:=mkS c9W d1B fun x=>vI x.1 x.2.1 x.2.2.1 x.2.2.2
def d0f:List MG:=[(true,(.dat y24)),(true,(.dat y42)),uiM,uiM]
def d1K:Ret:=⟨[(.cell 8 60,(true,(.dat y3))),(.tmp 9,uiM),(.cell 10 39,(true,(.dat y37)))],[]⟩
def e63:Env:=⟨62,eqs,tt,gl,[(54,s54),(85,s85)],[],[],[],[]⟩
def d6J:Ann:=.leaf
def yN (a0:A8) (a1:P5) (a2:Int) (a3:Int):Option (F8×Int×E8):=l9 (vI a0 a1 a2 a3) fun x=>l7 (D6 (ieq x.2.1 0)) (some ((0,0,0),0,x.2)) (l7 (ieq x.1 (-1)) (some ((0,0,0),0,10,a2,a3,-1)) (l7 (ieq x.1
 (-2)) (some ((0,0,0),0,11,a2,a3,-1)) (l9 (lat a0.2.2.2.2 x.1) fun x_1=>l9 (zN x_1.2.2.2.2.2.2.1 a1) fun(x_2:
 F8×Int)=>l7 (D6 (ieq x_2.2 0)) (some ((0,0,0),0,x_2.2,a2,a3,x.1)) (some (x_2.1,x.1,0,0,0,0)))))
def s63:FSpec:=mkS d0f d1K fun x=>yN x.1 x.2.1 x.2.2.1 x.2.2.2
def c9G:List MG:=[(true,(.dat y24)),(true,(.dat y42)),uiM,(false,(.dat (.sl .bool)))]
def d1k:Ret:=⟨[(.tmp 8,(false,(.own y3))),(.tmp 9,uoM),(.cell 10 39,(true,(.dat y37)))],[]⟩
def e34:Env:=⟨74,eqs,tt,gl,[(62,s62),(63,s63)],[],[],[],[]⟩
def d6k:Ann:=.seq lfA (.seq lfA (.seq lfA (.seq lfA (.seq (.seq lfA (.blk (.loopR [(5,6),(8,13),(15,20),(33,71),(4000320,4000321),(4000640,4000641),(7001472,7001473),(10001728,10001729)] ⟨[(5,(false,(.box (.pair diM (.pair (.dat y28) (.pair (.cell none) (.pair (.dat y29) (.pair (.dat y12) (.dat y9))))))))),(10,(false,(.box (.dat y37)))),(11,(false,(.own y3))),(12,uoM),(15,uiM)],[]⟩ 0 ⟨[(10,(false,(.box (.dat y37)))),(11,(false,(.own y3))),(12,uoM)],[]⟩ lfA))) lfA))))
def gI (a0:A8) (a1:P5) (a2:Int) (a3:List Bool):Option (List F8×List Int×E8):=l9 (gU (o8
 a0.2.2.2.1) (0,0,0)) fun x=>l9 (gU (o8 a0.2.2.2.1) 0) fun x_1=>l9 (jw a0) fun(x_2:
 List Int×Int)=>l9 (J9 (fun(x:(Int×List F8×PUnit×List (List F8)×List F6×List V8)×E8×List F8×
 List Int×Int)=>l7 (ilt x.2.2.2.2 (o8 x_2.1)) (l9 (lat x_2.1 x.2.2.2.2) fun x_3=>l9 (I9 x_2.1 (toN x.2.2.2.2)) fun(x_4:
 Int)=>l9 (lat a3 x_4) fun x_5=>l7 (D6 x_5) (some (.nx ((x.1.1,x.1.2.1,(),x.1.2.2.2),x.2.1,x.2.2.1,x.2.2.2.1,
 x8 .i64 x.2.2.2.2 1))) (l9 (yN a0 (x.1.1,x.1.2.1,x.2.2.1,x.1.2.2.2) a2 x_4) fun x_6=>l7
 (D6 (ieq x_6.2.2.1 0)) (some (.rt ([],[],x_6.2.2))) (l9 (lat x.2.2.1 x_4) fun x_7=>l9 (I9 x.2.2.1 (toN x_4)) fun(x_8:
 F8)=>l9 (lat x.2.2.2.1 x_4) fun x_9=>l9 (I9 x.2.2.2.1 (toN x_4)) fun x_10=>some (.nx ((x.1.1,x.1.2.1,
 (),x.1.2.2.2),x.2.1,S9 x.2.2.1 (toN x_4) x_6.1,S9 x.2.2.2.1 (toN x_4) x_6.2.1,x8 .i64 x.2.2.2.2 1))))) (some (.ex
 (x.2.1,x.2.2.1,x.2.2.2.1)))) ((a1.1,a1.2.1,(),a1.2.2.2),(0,0,0,0),x,x_1,0)) fun o=>L8 o (fun(y:E8×kw)=>some (y.2.1,y.2.2,0,0,0,0)) fun r=>some r
def s34:FSpec:=mkS c9G d1k fun x=>gI x.1 x.2.1 x.2.2.1 x.2.2.2
def c9D:List MG:=[(true,(.dat y27)),uiM,(true,(.dat y31)),(false,(.dat (.sl .bool)))]
def d1h:Ret:=⟨[(.tmp 8,(false,(.own y28))),(.tmp 9,(false,(.own y32))),(.cell 10 39,(true,(.dat y37)))],[]⟩
def e31:Env:=⟨55,eqs,tt,gl,[(33,s33),(61,s61),(34,s34)],[],[],[],[]⟩
def d6h:Ann:=.seq lfA (.seq lfA (.seq lfA (.seq lfA (.seq (.seq lfA (.blk (.loopR [(8,13),(14,18),(21,52),(4000640,4000641)] ⟨[(10,(false,(.box (.dat y37)))),(11,(false,(.own y28))),(12,(false,(.own y32))),(14,uiM)],[]⟩ 0 ⟨[(10,(false,(.box (.dat y37)))),(11,(false,(.own y28))),(12,(false,(.own y32)))],[]⟩ lfA))) lfA))))
def dD (a0:L6) (a1:Int) (a2:U8) (a3:List Bool):Option (List (List F8)×List (List Int)×E8):=l9
 (aB a0 a1) fun x=>l9 (J9 (fun(x_1:E8×List (List F8)×List (List Int)×Int)=>l7 (ilt
 x_1.2.2.2 (o8 a2.2.2)) (l9 (xW a0 a2 x_1.2.2.2) fun x_2=>l9 (gI x x_2 x_1.2.2.2 a3) fun x=>l7 (D6 (ieq x.2.2.1 0)) (some (.rt ([],[],x.2.2))) (l9 (X9 x_1.2.1 [x.1]) fun x_3
 =>l9 (X9 x_1.2.2.1 [x.2.1]) fun x=>some (.nx (x_1.1,x_3,x,x8 .i64 x_1.2.2.2 1)))) (some (.ex (x_1.1,
 x_1.2.1,x_1.2.2.1)))) ((0,0,0,0),[],[],0)) fun o=>L8 o (fun(y:E8×List (List F8)×List (List Int))=>some (y.2.1,y.2.2,0,0,0,0)) fun r=>some r
def s31:FSpec:=mkS c9D d1h fun x=>dD x.1 x.2.1 x.2.2.1 x.2.2.2
def c9H:List MG:=[(true,(.dat y27)),uiM,(true,(.dat y31)),(false,(.dat y29))]
def d1l:Ret:=⟨[(.cell 8 50,(true,(.dat y42)))],[]⟩
def e35:Env:=⟨42,eqs,tt,gl,[(33,s33)],[],[],[],[]⟩
def d6l:Ann:=.seq lfA (.seq lfA (.seq lfA (.seq (.seq lfA (.blk (.loop [(9,10),(11,12),(23,41),(7000576,7000577)] ⟨[(9,(false,(.box (.pair diM (.pair (.dat y28) (.pair (.dat y28) (.pair (.dat y29) (.pair (.own y2) (.dat y9))))))))),(11,uiM)],[]⟩ 0 ⟨[(9,(false,(.box (.pair diM (.pair (.dat y28) (.pair (.dat y28) (.pair (.dat y29) (.pair (.own y2) (.dat y9)))))))))],[]⟩ lfA))) lfA)))
def zg (a0:L6) (a1:Int) (a2:U8) (a3:List (List F8)):Option P5:=l9 (aB a0 a1) fun x=>l9
 (N8 (fun(x_1:P5×Int)=>l7 (ilt x_1.2 (o8 x.2.2.2.1)) (l9 (lat x.2.2.2.1 x_1.2) fun x=>l9 (X9 x_1.1.2.2.2.2.1
 [x.2]) fun x=>some (.inl ((x_1.1.1,x_1.1.2.1,x_1.1.2.2.1,x_1.1.2.2.2.1,x,x_1.1.2.2.2.2.2),x8 .i64 x_1.2 1))) (some
 (.inr x_1.1))) ((a2.1,a2.2.1,[],a3,[],a0.2.1),0)) fun y=>some y
def s35:FSpec:=mkS c9H d1l fun x=>zg x.1 x.2.1 x.2.2.1 x.2.2.2
def c9l:List MG:=[(true,(.dat y27)),uiM,(true,(.dat y31))]
def d0N:Ret:=⟨[(.cell 6 36,(true,(.dat y36))),(.cell 7 39,(true,(.dat y37)))],[]⟩
def e13:Env:=⟨96,eqs,tt,gl,[(30,s30),(33,s33),(32,s32),(31,s31),(35,s35),(34,s34)],[],[],[],[]⟩
def d5R:Ann:=.seq lfA (.seq lfA (.seq lfA (.seq lfA (.seq lfA (.seq lfA (.seq lfA (.seq lfA (.seq lfA (.seq (.seq lfA (.blk (.loop [(16,18),(74,94),(36003968,36003970),(49001024,49001025)] ⟨[(16,(false,(.box (.pair (.own y3) (.pair oiM (.own y33)))))),(17,uiM)],[]⟩ 0 ⟨[(16,(false,(.box (.pair (.own y3) (.pair oiM (.own y33))))))],[]⟩ lfA))) lfA)))))))))
def CV (a0:L6) (a1:Int) (a2:U8):Option (dY×E8):=l9 (lG a0 a1 a2 0 false) fun x=>
 l7 (D6 (ieq x.1 0)) (some (([],[],[]),x)) (l9 (aB a0 a1) fun x=>l9 (xH (o8 x.2.2.2.1)) fun(x:
 List Bool)=>l9 (dD a0 a1 a2 x) fun x=>l7 (D6 (ieq x.2.2.1 0))
 (some (([],[],[]),x.2.2)) (l9 (lat a0.2.2 a1) fun x_1=>l9 (zg a0 a1 a2 x.1) fun x_2=>l9 (xH (o8
 x_1.2.2.2.1)) fun x_3=>l9 (gI x_1 x_2 (-1) x_3) fun x_4=>l7 (D6 (ieq
 x_4.2.2.1 0)) (some (([],[],[]),x_4.2.2)) (l9 (N8 (fun(x_5:dY×Int)=>l7 (ilt x_5.2 (o8 x.1)) (l9 (lat x.1 x_5.2) fun(x_6
 :List F8)=>l9 (lat x.2.1 x_5.2) fun x_7=>l9 (I9 x.2.1 (toN x_5.2)) fun x=>l9 (X9 x_5.1.2.2 [(x_6,
 x)]) fun x=>some (.inl ((x_5.1.1,x_5.1.2.1,x),x8 .i64 x_5.2 1))) (some (.inr x_5.1))) ((x_4.1,x_4.2.1,
 []),0)) fun y=>some (y,0,0,0,0))))
def s13:FSpec:=mkS c9l d0N fun x=>CV x.1 x.2.1 x.2.2
def c9q:List MG:=[(false,(.dat y28)),(false,(.dat y28))]
def d0W:Ret:=⟨[(.tmp 4,ubM)],[]⟩
def e20:Env:=⟨32,eqs,tt,gl,[],[],[],[],[]⟩
def d5W:Ann:=.seq lfA (.seq lfA (.seq (.seq lfA (.blk (.loopR [(4,6),(11,32)] ⟨[(5,uiM)],[]⟩ 0 ⟨[],[]⟩ lfA))) lfA))
def xJ (a0:List F8) (a1:List F8):Option Bool:=l7 (D6 (ieq (o8 a0) (o8 a1))) (some false) (l9 (J9 (fun(x:
 Int)=>l7 (ilt x (o8 a0)) (l7 (ilt x (o8 a1)) (l9 (lat a0 x) fun x_1=>l9 (lat a1 x) fun x_2=>l7 (D6
 (aH (ieq x_1.1 x_2.1) (aH (ieq x_1.2.1 x_2.2.1) (ieq x_1.2.2 x_2.2.2)))) (some (.rt false)) (some (.nx (x8 .i64 x 1)))) (some
 (.ex ()))) (some (.ex ()))) 0) fun o=>L8 o (fun(y:PUnit)=>some true) fun r=>some r)
def s20:FSpec:=mkS c9q d0W fun x=>xJ x.1 x.2
def d0g:List MG:=[(true,(.dat y33)),(true,(.dat y33))]
def d1L:Ret:=⟨[(.tmp 4,ubM)],[]⟩
def e64:Env:=⟨17,eqs,tt,gl,[(20,s20),(26,s26)],[],[],[],[]⟩
def d6K:Ann:=.leaf
def oq (a0:kw) (a1:kw):Option Bool:=l9 (xJ a0.1 a1.1) fun x=>l7 x (l9
 (zk a0.2 a1.2) fun x=>some x) (some false)
def s64:FSpec:=mkS d0g d1L fun x=>oq x.1 x.2
def c9I:List MG:=[(false,(.dat y34)),(false,(.dat y34))]
def d1m:Ret:=⟨[(.tmp 4,ubM)],[]⟩
def e36:Env:=⟨33,eqs,tt,gl,[(64,s64)],[],[],[],[]⟩
def d6m:Ann:=.seq lfA (.seq lfA (.seq (.seq lfA (.blk (.loopR [(4,6),(11,33)] ⟨[(5,uiM)],[]⟩ 0 ⟨[],[]⟩ lfA))) lfA))
def mV (a0:List kw) (a1:List kw):Option Bool:=l7 (D6 (ieq (o8 a0) (o8 a1))) (some false) (l9
 (J9 (fun(x:Int)=>l7 (ilt x (o8 a0)) (l7 (ilt x (o8 a1)) (l9 (lat a0 x) fun x_1=>l9 (lat a1 x) fun(x_2:
 kw)=>l9 (oq x_1 x_2) fun x_3=>l7 (D6 x_3) (some (.rt false)) (some (.nx (x8 .i64 x
 1)))) (some (.ex ()))) (some (.ex ()))) 0) fun o=>L8 o (fun(y:PUnit)=>some true) fun r=>
 some r)
def s36:FSpec:=mkS c9I d1m fun x=>mV x.1 x.2
def c9m:List MG:=[(true,(.dat y36)),(true,(.dat y36))]
def d0P:Ret:=⟨[(.tmp 4,ubM)],[]⟩
def e14:Env:=⟨24,eqs,tt,gl,[(20,s20),(26,s26),(36,s36)],[],[],[],[]⟩
def d5S:Ann:=.leaf
def xI (a0:dY) (a1:dY):Option Bool:=l9 (xJ a0.1 a1.1) fun x=>l7 x (l9 (zk a0.2.1
 a1.2.1) fun x=>l7 x (l9 (mV a0.2.2 a1.2.2) fun x=>some x) (some false)) (some false)
def s14:FSpec:=mkS c9m d0P fun x=>xI x.1 x.2
def ps3:List MG:=[(true,(.dat y27)),uiM,(true,(.dat y31))]
def rt3:Ret:=⟨[(.tmp 6,ubM)],[]⟩
def e3:Env:=⟨41,eqs,tt,gl,[(10,s10),(11,s11),(12,s12),(13,s13),(14,s14)],[],[],[],[]⟩
def an3:Ann:=.leaf
def xP (a0:L6) (a1:Int) (a2:U8):Option Bool:=l9 (lL a0 a2) fun x=>l7 (D6 x) (l9 bz
 fun x=>some x) (l9 (lX a0 a1 a2) fun x=>l9 (CV a0 a1 a2) fun x_1
 =>l9 (xI x.1 x_1.1) fun x_2=>l7 x_2 (l7 (aH (ieq x.2.1 x_1.2.1) (aH (ieq x.2.2.1 x_1.2.2.1) (aH (ieq x.2.2.2.1
 x_1.2.2.2.1) (ieq x.2.2.2.2 x_1.2.2.2.2)))) (l9 bz fun x=>some x) (some false)) (some false))
def s3:FSpec:=mkS ps3 rt3 fun x=>xP x.1 x.2.1 x.2.2
def a7j:List MG:=[(true,(.dat y19)),(false,(.rp (.int .i64))),(false,(.rp (.int .i64)))]
def a7C:Ret:=⟨[(.tmp 4,ubM)],[]⟩
def c8W:Env:=⟨15,eqs,tt,gl,[(70,s70)],[],[],[],[]⟩
def b9U:Ann:=.leaf
def xZ (a0:X0) (a1:Int) (a2:Int):Option Bool:=l7 (ieq a0.2.1 a1) (l9 (aI a0.2.2.2.2.1 a2) fun(x:
 Bool)=>some x) (some false)
def a8c:FSpec:=mkS a7j a7C fun x=>xZ x.1 x.2.1 x.2.2
def a7i:List MG:=[(false,(.dat y20)),(false,(.fn 76 [(.int .i64),(.int .i64)]))]
def a7B:Ret:=⟨[(.tmp 4,uoM),(.tmp 5,uoM)],[]⟩
def c8V:Env:=⟨59,eqs,tt,gl,[(76,a8c)],[],[],[],[]⟩
def b9T:Ann:=.seq lfA (.seq lfA (.seq lfA (.seq (.seq lfA (.blk (.loop [(6,12),(17,57),(10000896,10000897)] ⟨[(6,uoM),(7,uoM),(8,uoM),(17,uiM)],[]⟩ 0 ⟨[(6,uoM),(7,uoM)],[]⟩ (.seq lfA (.seq lfA (.seq (.blk (.seq lfA (.seq lfA (.seq (.join [(11,12),(22,36)] ⟨[(11,uiM)],[]⟩ lfA) lfA)))) lfA)))))) lfA)))
def lV (a0:List X0) (a1:F6):Option (List Int×List Int):=l9 (gU (o8 a0) 0) fun x=>l9
 (N8 (fun(x:List Int×List Int×List Int×Int)=>l7 (ilt x.2.2.2 (o8 a0)) (l9 (lat a0 x.2.2.2) fun x_1=>l9 (l7
 (ile 0 x_1.2.2.1) (l7 (ilt x_1.2.2.1 x.2.2.2) (l9 (lat x.2.2.1 x_1.2.2.1) fun x_2=>l9 (I9 x.2.2.1 (toN x_1.2.2.1)) fun x
 =>some x) (some (-1))) (some (-1))) fun x_2=>l9 (lat x.2.2.1 x.2.2.2) fun x_3=>l9 (I9 x.2.2.1 (toN x.2.2.2)) fun(x_4:
 Int)=>l9 (xZ x_1 a1.1 a1.2) fun x_5=>l7 x_5 (l9 (lat (S9 x.2.2.1 (toN x.2.2.2) x_2) x.2.2.2) fun x_6
 =>l9 (I9 (S9 x.2.2.1 (toN x.2.2.2) x_2) (toN x.2.2.2)) fun x_7=>l9 (X9 x.1 [x.2.2.2]) fun x_8=>l9 (X9
 x.2.1 [x_2]) fun x_9=>some (.inl (x_8,x_9,S9 (S9 x.2.2.1 (toN x.2.2.2) x_2) (toN x.2.2.2) (o8 x.1),x8 .i64
 x.2.2.2 1))) (some (.inl (x.1,x.2.1,S9 x.2.2.1 (toN x.2.2.2) x_2,x8 .i64 x.2.2.2 1)))) (some (.inr (x.1,x.2.1)))) ([],[],x,
 0)) fun y=>some y
def b9y:FSpec:=mkS a7i a7B fun x=>lV x.1 x.2
def c9O:List MG:=[(true,(.dat y24)),uiM,uiM]
def d1s:Ret:=⟨[(.tmp 6,uoM)],[]⟩
def e46:Env:=⟨17,eqs,tt,gl,[(76,a8c),(72,b9y)],[],[],[],[]⟩
def d6s:Ann:=.leaf
def jQ (a0:A8) (a1:Int) (a2:Int):Option (List Int):=l9 (lV a0.2.2.2.2 (a1,a2)) fun x=>some x.1
def s46:FSpec:=mkS c9O d1s fun x=>jQ x.1 x.2.1 x.2.2
def c9J:List MG:=[(true,(.dat y24)),uiM,uiM,uiM]
def d1n:Ret:=⟨[(.tmp 8,ubM)],[]⟩
def e37:Env:=⟨36,eqs,tt,gl,[(46,s46)],[],[],[],[]⟩
def d6n:Ann:=.seq lfA (.seq lfA (.seq (.seq lfA (.blk (.loopR [(8,9),(10,11),(15,36)] ⟨[(10,uiM)],[]⟩ 0 ⟨[],[]⟩ lfA))) lfA))
def wX (a0:A8) (a1:Int) (a2:Int) (a3:Int):Option Bool:=l9 (jQ a0 a1 a3) fun x=>l9
 (J9 (fun(x_1:Int)=>l7 (ilt x_1 (o8 x)) (l9 (lat x x_1) fun x_2=>l9 (I9 x (toN x_1)) fun x=>l7 (ieq x a2)
 (l7 (ile 0 a2) (some (.rt (ilt a2 (o8 a0.2.2.2.2)))) (some (.rt false))) (some (.nx (x8 .i64 x_1 1)))) (some (.ex
 ()))) 0) fun o=>L8 o (fun(y:PUnit)=>some false) fun r=>some r
def s37:FSpec:=mkS c9J d1n fun x=>wX x.1 x.2.1 x.2.2.1 x.2.2.2
def c9n:List MG:=[(true,(.dat y24)),(true,(.dat y42)),(false,(.dat y28)),(false,(.dat y32))]
def d0Q:Ret:=⟨[(.tmp 8,ubM)],[]⟩
def e15:Env:=⟨69,eqs,tt,gl,[(37,s37),(38,s38)],[],[],[],[]⟩
def d5T:Ann:=.seq lfA (.seq (.joinR [(8,9),(12,26)] ⟨[],[]⟩ lfA) (.seq lfA (.seq (.seq lfA (.blk (.loopR [(8,12),(28,69)] ⟨[(9,uiM)],[]⟩ 0 ⟨[],[]⟩ lfA))) lfA)))
def kH (a0:A8) (a1:P5) (a2:List F8) (a3:List Int):Option Bool:=l9 (l7 (D6 (ieq (o8 a2) (o8 a0.2.2.2.1)))
 (some (.inr false)) (l7 (D6 (ieq (o8 a3) (o8 a0.2.2.2.1))) (some (.inr false)) (some (.inl ())))) fun o=>
 L8 o (fun(x:PUnit)=>l9 (J9 (fun(x:Int)=>l7 (ilt x (o8 a0.2.2.2.1)) (l9 (lat a3 x) fun x_1=>l9 (wX
 a0 x x_1 a1.1) fun x_2=>l7 (D6 x_2) (some (.rt false)) (l9 (lat a3 x) fun x_3=>l9 (lat a0.2.2.2.2 x_3) fun(x_4:
 X0)=>l9 (wo x_4.2.2.2.2.2.2.1 (a1.1,a1.2.1,a2,a1.2.2.2)) fun x_5=>l7 (D6 (ieq x_5.2 0)) (some (.rt
 false)) (l9 (lat a2 x) fun x_6=>l7 (D6 (aH (ieq x_5.1.1 x_6.1) (aH (ieq x_5.1.2.1 x_6.2.1) (ieq x_5.1.2.2 x_6.2.2)))) (some
 (.rt false)) (some (.nx (x8 .i64 x 1)))))) (some (.ex ()))) 0) fun o=>L8 o (fun(y:PUnit)=>some
 true) fun r=>some r) fun r=>some r
def s15:FSpec:=mkS c9n d0Q fun x=>kH x.1 x.2.1 x.2.2.1 x.2.2.2
def ps4:List MG:=[(true,(.dat y27)),uiM,(true,(.dat y31))]
def rt4:Ret:=⟨[(.tmp 6,ubM)],[]⟩
def e4:Env:=⟨156,eqs,tt,gl,[(10,s10),(11,s11),(12,s12),(15,s15)],[],[],[],[]⟩
def an4:Ann:=.seq lfA (.seq lfA (.seq lfA (.seq lfA (.seq (.joinR [(6,7),(37,55)] ⟨[],[]⟩ lfA) (.seq lfA (.seq lfA (.seq (.joinR [(6,7),(10,15),(67,146),(43000640,43000641)] ⟨[(10,(false,(.box (.pair diM (.pair (.dat y28) (.pair (.dat y28) (.pair (.own y28) (.pair (.own y2) (.dat y9)))))))))],[]⟩ (.seq (.join [(67,78)] ⟨[(77,ubM)],[]⟩ lfA) (.cond (.seq lfA (.seq (.seq lfA (.blk (.loop [(10,11),(12,13),(84,102),(43000640,43000641)] ⟨[(10,(false,(.box (.pair diM (.pair (.dat y28) (.pair (.dat y28) (.pair (.cell (some none)) (.pair (.own y2) (.dat y9))))))))),(12,uiM)],[]⟩ 0 ⟨[(10,(false,(.box (.pair diM (.pair (.dat y28) (.pair (.dat y28) (.pair (.cell (some none)) (.pair (.own y2) (.dat y9)))))))))],[]⟩ lfA))) (.seq lfA (.blk (.loopR [(6,7),(10,11),(13,15),(102,146),(59000000,59000002)] ⟨[(10,(false,(.box (.pair diM (.pair (.dat y28) (.pair (.dat y28) (.pair (.own y28) (.pair (.own y2) (.dat y9))))))))),(13,uiM)],[]⟩ 2 ⟨[(10,(false,(.box (.pair diM (.pair (.dat y28) (.pair (.dat y28) (.pair (.own y28) (.pair (.own y2) (.dat y9)))))))))],[]⟩ lfA))))) lfA))) lfA)))))))
def kG (a0:L6) (a1:Int) (a2:U8):Option Bool:=l9 (lL a0 a2) fun x=>l7 (D6 x) (l9
 bz fun x=>some x) (l9 (lX a0 a1 a2) fun x=>l7 (D6 (ieq x.2.1 0)) (l7 (ieq (o8
 x.1.1) 0) (l9 bz fun x=>some x) (some false)) (l9 (l7 (ilt a1 0) (some (.inr false)) (l7 (ile (o8 a0.2.2) a1)
 (some (.inr false)) (l7 (D6 (ieq (o8 x.1.2.2) (o8 a2.2.2))) (some (.inr false)) (some (.inl ()))))) fun o
 =>L8 o (fun(x_1:PUnit)=>l9 (lat a0.2.2 a1) fun x_2=>l9 (l9 (l7 (ile 0 x_2.2.1) (some (ilt x_2.2.1 (o8 a0.2.2)))
 (some false)) fun x_3=>l7 x_3 (l9 (lat a0.2.2 x_2.2.1) fun x_4=>l9 (N8 (fun(x:(Int×List F8×List F8
 ×PUnit×List F6×List V8)×Int)=>l7 (ilt x.2 (o8 x_4.2.2.2.1)) (l9 (lat x_4.2.2.2.1 x.2) fun x_5=>l9 (X9
 x.1.2.2.2.2.1 [x_5.2]) fun x_6=>some (.inl ((x.1.1,x.1.2.1,x.1.2.2.1,(),x_6,x.1.2.2.2.2.2),x8 .i64 x.2
 1))) (some (.inr (x.1.1,x.1.2.1,x.1.2.2.1,(),x.1.2.2.2.2)))) ((a2.1,a2.2.1,[],(),[],a0.2.1),0)) fun y=>l9 (J9 (fun(x_5:P5×Int)=>l7 (ilt x_5.2 (o8 x.1.2.2)) (l9 (lat
 a2.2.2 x_5.2) fun x_6=>l9 (lat x.1.2.2 x_5.2) fun x_7=>l9 (lat x.1.2.2 x_5.2) fun x_8
 =>l9 (kH x_4 (a2.1,x_6,[],[],[],a0.2.1) x_7.1 x_8.2) fun x_9=>l7 (D6 x_9) (some (.rt false)) (l9 (lat
 x.1.2.2 x_5.2) fun x=>l9 (X9 x_5.1.2.2.2.1 [x.1]) fun x=>some (.nx ((x_5.1.1,x_5.1.2.1,
 x_5.1.2.2.1,x,x_5.1.2.2.2.2),x8 .i64 x_5.2 1)))) (some (.ex x_5.1))) ((y.1,y.2.1,y.2.2.1,[],y.2.2.2.2),0)) fun o
 =>L8 o (fun(y:P5)=>some (.inl y)) fun r=>some (.inr r)) (some (.inl (a2.1,a2.2.1,[],[],[],a0.2.1)))) fun o=>L8 o (fun(x_3:P5)=>l9 (kH x_2 x_3 x.1.1 x.1.2.1) fun x=>l7 x (l9 bz fun x=>
 some x) (some false)) fun r=>some r) fun r=>some r))
def s4:FSpec:=mkS ps4 rt4 fun x=>kG x.1 x.2.1 x.2.2
def WJ (a0:Int) (a1:F6) (a2:List bK):Option Bool:=l9 (iT a1 a2) fun x=>l7 (ile x.1 a0) (some
 (ile a0 x.2)) (some false)
def e1l:List MG:=[(true,(.dat y3)),(false,(.dat y1))]
def e1n:Ret:=⟨[(.tmp 4,ubM)],[]⟩
def Za (a0:F8) (a1:List bK):Option Bool:=l9 (ak (a0.1,a0.2.1) a1) fun x=>l7 x (l9
 (WJ a0.2.2 (a0.1,a0.2.1) a1) fun x=>some x) (some false)
def s16:FSpec:=mkS e1l e1n fun x=>Za x.1 x.2
def e5:Env:=⟨98,eqs,tt,gl,[(10,s10),(11,s11),(12,s12),(16,s16)],[],[],[],[]⟩
def d0k:List MG:=[(true,(.dat y24)),uiM]
def d1Q:Ret:=⟨[(.tmp 4,uoM)],[]⟩
def e69:Env:=⟨95,eqs,tt,gl,[(103,b1d),(102,c1i),(47,s47),(104,c1j)],[],[],[],[]⟩
def d6P:Ann:=.seq lfA (.seq (.joinR [(4,5),(17,26)] ⟨[],[]⟩ lfA) (.seq lfA (.seq lfA (.seq (.seq lfA (.blk (.loop [(5,6),(7,8),(38,46),(17001856,17001857)] ⟨[(5,(false,(.own .bool))),(38,uiM)],[]⟩ 0 ⟨[(5,(false,(.own .bool)))],[]⟩ lfA))) (.seq lfA (.seq (.seq lfA (.blk (.loop [(8,9),(10,17),(49,93)] ⟨[(8,uoM),(49,uiM)],[]⟩ 2 ⟨[(8,uoM)],[]⟩ lfA))) lfA))))))
def rP (a0:A8) (a1:Int):Option (List Int):=l9 (l7 (ilt a1 0) (some (.inr [])) (l7 (ile (o8 a0.2.2.2.1) a1)
 (some (.inr [])) (some (.inl ())))) fun o=>L8 o (fun(x:PUnit)=>l9 (gU (o8 a0.2.2.2.1) false) fun
 (x:List Bool)=>l9 (lat x a1) fun x_1=>l9 (I9 x (toN a1)) fun x_2=>l9 (kX a0) fun x_3=>l9 (pX x_3 a1) fun x_4=>l9 (N8 (fun(x:List Bool×Int)=>l7 (ilt x.2 (o8 x_4)) (l9 (lat x_4
 x.2) fun x_5=>l9 (I9 x_4 (toN x.2)) fun x_6=>l9 (lat x.1 x_6) fun x_7=>l9 (I9 x.1 (toN x_6)) fun(x_8:
 Bool)=>some (.inl (S9 x.1 (toN x_6) true,x8 .i64 x.2 1))) (some (.inr x.1))) (S9 x (toN a1) true,0)) fun y=>
 l9 (N8 (fun(x:List Int×Int)=>l7 (ilt x.2 (o8 a0.2.2.2.2)) (l9 (lat a0.2.2.2.2 x.2) fun x_5=>l7 (ilt x_5.2.1 0)
 (some (.inl (x.1,x8 .i64 x.2 1))) (l7 (ile (o8 a0.2.2.2.1) x_5.2.1) (some (.inl (x.1,x8 .i64 x.2 1))) (l9 (lat y
 x_5.2.1) fun x_6=>l9 (I9 y (toN x_5.2.1)) fun x_7=>l7 (D6 x_7) (some (.inl (x.1,x8 .i64 x.2 1))) (l9
 (fB x_5.2.2.2.2.2.1) fun x_8=>l9 (fB x_5.2.2.2.2.2.2.1) fun x_9=>l9 (X9
 x.1 x_8.2.2) fun x_10=>l9 (X9 x_10 x_9.2.2) fun x_11=>some (.inl (x_11,x8 .i64 x.2 1)))))) (some
 (.inr x.1))) ([],0)) fun y=>l9 (uD y) fun x=>some x) fun r=>some r
def s69:FSpec:=mkS d0k d1Q fun x=>rP x.1 x.2
def c9Q:List MG:=[(false,(.box (.pair (.dat y24) (.pair (.dat y24) (.pair (.own .bool) (.own .bool)))))),uiM]
def d1v:Ret:=⟨[],[(0,(true,(.pair (.dat y24) (.pair (.dat y24) (.pair (.own .bool) (.own .bool))))))]⟩
def e48:Env:=⟨30,eqs,tt,gl,[(68,s68)],[],[],[],[0]⟩
def d6u:Ann:=.seq lfA (.seq lfA (.blk (.loop [(0,1),(5,6),(19,30),(1000000,1000003)] ⟨[(0,(false,(.box (.pair (.dat y24) (.pair (.dat y24) (.pair (.own .bool) (.own .bool))))))),(19,uiM)],[]⟩ 0 ⟨[(0,(false,(.box (.pair (.dat y24) (.pair (.dat y24) (.pair (.own .bool) (.own .bool)))))))],[]⟩ lfA)))
def bY (a0:I4) (a1:Int):Option I4:=l9 (lat a0.2.2.2 a1) fun x=>l9 (I9 a0.2.2.2
 (toN a1)) fun x=>l9 (jD a0.2.1 a1) fun x=>l9 (N8 (fun(x_1:I4×Int)=>l7 (ilt x_1.2
 (o8 x)) (l9 (lat x x_1.2) fun x_2=>l9 (I9 x (toN x_1.2)) fun x=>l9 (lat x_1.1.2.2.2 x) fun x_3=>l9
 (I9 x_1.1.2.2.2 (toN x)) fun x_4=>some (.inl ((x_1.1.1,x_1.1.2.1,x_1.1.2.2.1,S9 x_1.1.2.2.2 (toN x) true),x8 .i64
 x_1.2 1))) (some (.inr x_1.1))) ((a0.1,a0.2.1,a0.2.2.1,S9 a0.2.2.2 (toN a1) true),0)) fun y=>some y
def s48:FSpec:=mkS c9Q d1v fun x=>bY x.1 x.2
def c9M:List MG:=[(false,(.box (.pair (.dat y24) (.pair (.dat y24) (.pair (.own .bool) (.own .bool)))))),uiM]
def d1q:Ret:=⟨[],[(0,(true,(.pair (.dat y24) (.pair (.dat y24) (.pair (.own .bool) (.own .bool))))))]⟩
def e41:Env:=⟨47,eqs,tt,gl,[(68,s68),(69,s69),(48,s48)],[],[],[],[0]⟩
def d6q:Ann:=.seq lfA (.seq (.seq lfA (.blk (.loop [(0,1),(5,6),(21,32),(1000000,1000003)] ⟨[(0,(false,(.box (.pair (.dat y24) (.pair (.dat y24) (.pair (.own .bool) (.own .bool))))))),(21,uiM)],[]⟩ 0 ⟨[(0,(false,(.box (.pair (.dat y24) (.pair (.dat y24) (.pair (.own .bool) (.own .bool)))))))],[]⟩ lfA))) (.seq lfA (.blk (.loop [(0,1),(7,8),(39,47),(12000000,12000003)] ⟨[(0,(false,(.box (.pair (.dat y24) (.pair (.dat y24) (.pair (.own .bool) (.own .bool))))))),(39,uiM)],[]⟩ 2 ⟨[(0,(false,(.box (.pair (.dat y24) (.pair (.dat y24) (.pair (.own .bool) (.own .bool)))))))],[]⟩ lfA))))
def iH (a0:I4) (a1:Int):Option I4:=l9 (lat a0.2.2.1 a1) fun x=>l9 (I9 a0.2.2.1 (toN
 a1)) fun x=>l9 (jD a0.1 a1) fun x=>l9 (N8 (fun(x_1:I4×Int)=>l7 (ilt x_1.2 (o8
 x)) (l9 (lat x x_1.2) fun x_2=>l9 (I9 x (toN x_1.2)) fun x=>l9 (lat x_1.1.2.2.1 x) fun x_3=>l9 (I9
 x_1.1.2.2.1 (toN x)) fun x_4=>some (.inl ((x_1.1.1,x_1.1.2.1,S9 x_1.1.2.2.1 (toN x) true,x_1.1.2.2.2),x8 .i64 x_1.2 1)))
 (some (.inr x_1.1))) ((a0.1,a0.2.1,S9 a0.2.2.1 (toN a1) true,a0.2.2.2),0)) fun y=>l9 (rP y.1 a1) fun(x
 :List Int)=>l9 (N8 (fun(x_1:I4×Int)=>l7 (ilt x_1.2 (o8 x)) (l9 (lat x x_1.2) fun x_2=>l9 (I9 x (toN
 x_1.2)) fun x=>l9 (bY x_1.1 x) fun x=>some (.inl (x,x8 .i64 x_1.2 1))) (some
 (.inr x_1.1))) (y,0)) fun y=>some y
def s41:FSpec:=mkS c9M d1q fun x=>iH x.1 x.2
def c9o:List MG:=[(true,(.dat y27)),uiM,(true,(.dat y31)),uiM]
def d0U:Ret:=⟨[(.cell 8 60,(true,(.dat y3))),(.tmp 9,uiM),(.cell 10 39,(true,(.dat y37)))],[]⟩
def e17:Env:=⟨57,eqs,tt,gl,[(27,s27),(28,s28),(41,s41),(29,s29)],[],[],[],[]⟩
def d5U:Ann:=.leaf
def lg (a0:L6) (a1:Int) (a2:U8) (a3:Int):Option (F8×Int×E8):=l9 (dC a0 a1 a2 true
 a3) fun x=>l7 (D6 (ieq x.1 0)) (some ((0,0,0),0,x)) (l9 (jI a0 a1) fun x=>l9
 (iH x a3) fun x=>l9 (jH a0 a1 a2 x) fun x=>
 l7 (D6 (ieq x.2.2.1.1 0)) (some ((0,0,0),0,x.2.2.1)) (l9 (lat x.1.1 a3) fun x_1=>l9 (lat x.1.2.1 a3) fun x=>
 some (x_1,x,0,0,0,0)))
def s17:FSpec:=mkS c9o d0U fun x=>lg x.1 x.2.1 x.2.2.1 x.2.2.2
def c9U:List MG:=[(true,(.dat y24)),(false,(.ownb .bool)),uiM]
def d1z:Ret:=⟨[],[(1,(false,(.own .bool)))]⟩
def e52:Env:=⟨26,eqs,tt,gl,[(82,s82)],[],[],[],[1]⟩
def d6y:Ann:=.seq lfA (.seq lfA (.seq lfA (.seq lfA (.blk (.loop [(1,2),(7,8),(14,26),(1000000,1000001)] ⟨[(1,(false,(.own .bool))),(7,uiM)],[]⟩ 0 ⟨[(1,(false,(.own .bool)))],[]⟩ lfA)))))
def kN (a0:A8) (a1:List Bool) (a2:Int):Option (List Bool):=l9 (lat a1 a2) fun x=>l9 (I9 a1 (toN a2)) fun
 (x:Bool)=>l9 (iZ a0 a2) fun x=>l9 (N8 (fun(x_1:List Bool×Int)=>l7 (ilt x_1.2 (o8 x)) (l9
 (lat x x_1.2) fun x=>l9 (lat x_1.1 x) fun x_2=>l9 (I9 x_1.1 (toN x)) fun x_3=>some (.inl (S9 x_1.1 (toN
 x) true,x8 .i64 x_1.2 1))) (some (.inr x_1.1))) (S9 a1 (toN a2) true,0)) fun y=>some y
def s52:FSpec:=mkS c9U d1z fun x=>kN x.1 x.2.1 x.2.2
def d0s:List MG:=[(true,(.dat y24)),uiM]
def d1Y:Ret:=⟨[(.tmp 4,uoM)],[]⟩
def e83:Env:=⟨88,eqs,tt,gl,[(115,c1o),(82,s82),(114,b1f),(96,s96),(51,s51)],[],[],[],[]⟩
def d6X:Ann:=.seq lfA (.seq lfA (.seq lfA (.seq lfA (.seq (.seq lfA (.blk (.loop [(6,16),(25,87)] ⟨[(6,uoM),(7,uiM)],[]⟩ 0 ⟨[(6,uoM)],[]⟩ (.seq lfA (.seq (.blk (.seq lfA (.seq lfA (.seq lfA (.seq (.seq lfA (.blk (.loop [(6,7),(14,15),(63,75),(27000000,27000001)] ⟨[(6,uoM),(14,uiM)],[]⟩ 2 ⟨[(6,uoM)],[]⟩ lfA))) (.seq lfA (.blk (.loop [(6,7),(15,16),(75,87),(58000000,58000001)] ⟨[(6,uoM),(15,uiM)],[]⟩ 4 ⟨[(6,uoM)],[]⟩ lfA)))))))) lfA))))) lfA))))
def qy (a0:A8) (a1:Int):Option (List Int):=l9 (xG a0 a1) fun x=>l7 (D6 x) (some []) (l9
 (iZ a0 a1) fun x=>l9 (dJ x a1) fun x=>l9 (N8 (fun(x_1:List Int×Int)=>l7 (ilt
 x_1.2 (o8 a0.2.2.2.2)) (l9 (lat a0.2.2.2.2 x_1.2) fun x_2=>l9 (ui x x_2.2.1) fun x=>l7 (D6 x) (some
 (.inl (x_1.1,x8 .i64 x_1.2 1))) (l9 (lat a0.2.2.2.2 x_1.2) fun x=>l9 (dW x.2.2.2.2.2.1) fun(x:
 Z5)=>l9 (lat a0.2.2.2.2 x_1.2) fun x_3=>l9 (dW x_3.2.2.2.2.2.2.1) fun x_4=>l9
 (N8 (fun(x_5:List Int×Int)=>l7 (ilt x_5.2 (o8 x.2.2)) (l9 (lat x.2.2 x_5.2) fun x_6=>l9 (I9 x.2.2 (toN x_5.2)) fun
 (x:Int)=>l9 (dJ x_5.1 x) fun x=>some (.inl (x,x8 .i64 x_5.2 1))) (some (.inr x_5.1))) (x_1.1,0)) fun
 (y:List Int)=>l9 (N8 (fun(x:List Int×Int)=>l7 (ilt x.2 (o8 x_4.2.2)) (l9 (lat x_4.2.2 x.2) fun x_5=>l9 (I9
 x_4.2.2 (toN x.2)) fun x_6=>l9 (dJ x.1 x_6) fun x_7=>some (.inl (x_7,x8 .i64 x.2 1))) (some
 (.inr x.1))) (y,0)) fun y=>some (.inl (y,x8 .i64 x_1.2 1)))) (some (.inr x_1.1))) ([],0)) fun y=>
 some y)
def s83:FSpec:=mkS d0s d1Y fun x=>qy x.1 x.2
def c9V:List MG:=[(true,(.dat y27)),uiM,(false,(.ownb .bool)),uiM]
def d1A:Ret:=⟨[],[(2,(false,(.own .bool)))]⟩
def e53:Env:=⟨32,eqs,tt,gl,[(83,s83),(33,s33),(52,s52)],[],[],[],[2]⟩
def d6z:Ann:=.seq lfA (.seq lfA (.seq lfA (.blk (.loop [(2,3),(9,10),(17,32),(1000000,1000001)] ⟨[(2,(false,(.own .bool))),(9,uiM)],[]⟩ 0 ⟨[(2,(false,(.own .bool)))],[]⟩ lfA))))
def gJ (a0:L6) (a1:Int) (a2:List Bool) (a3:Int):Option (List Bool):=l9 (lat a0.2.2 a1) fun x=>l9
 (qy x a3) fun x=>l9 (N8 (fun(x_1:List Bool×Int)=>l7 (ilt x_1.2 (o8 x)) (l9 (aB a0
 a1) fun x_2=>l9 (lat x x_1.2) fun x_3=>l9 (I9 x (toN x_1.2)) fun x=>l9 (kN x_2 x_1.1 x) fun(x
 :List Bool)=>some (.inl (x,x8 .i64 x_1.2 1))) (some (.inr x_1.1))) (a2,0)) fun y=>some y
def s53:FSpec:=mkS c9V d1A fun x=>gJ x.1 x.2.1 x.2.2.1 x.2.2.2
def c9N:List MG:=[(true,(.dat y27)),uiM,(true,(.dat y31)),uiM]
def d1r:Ret:=⟨[(.cell 8 60,(true,(.dat y3))),(.tmp 9,uiM),(.cell 10 39,(true,(.dat y37)))],[]⟩
def e42:Env:=⟨84,eqs,tt,gl,[(52,s52),(33,s33),(53,s53),(31,s31),(35,s35),(34,s34)],[],[],[],[]⟩
def d6r:Ann:=.leaf
def tC (a0:L6) (a1:Int) (a2:U8) (a3:Int):Option (F8×Int×E8):=l9 (lat a0.2.2 a1) fun x
 =>l9 (gU (o8 x.2.2.2.1) false) fun x_1=>l9 (kN x x_1 a3) fun x_2=>l9 (aB a0
 a1) fun x_3=>l9 (gU (o8 x_3.2.2.2.1) false) fun x_4=>l9 (gJ a0 a1 x_4 a3) fun x_5=>l9 (dD a0 a1 a2 x_5) fun x_6=>l7 (D6 (ieq x_6.2.2.1 0))
 (some ((0,0,0),0,x_6.2.2)) (l9 (zg a0 a1 a2 x_6.1) fun x_7=>l9 (gI x x_7 (-1) x_2) fun x=>l7 (D6 (ieq x.2.2.1 0)) (some ((0,0,0),0,x.2.2)) (l9 (lat x.1 a3) fun x_8=>l9 (I9 x.1 (toN
 a3)) fun x_9=>l9 (lat x.2.1 a3) fun x_10=>l9 (I9 x.2.1 (toN a3)) fun x=>some (x_9,x,0,0,0,0)))
def s42:FSpec:=mkS c9N d1r fun x=>tC x.1 x.2.1 x.2.2.1 x.2.2.2
def c9p:List MG:=[(true,(.dat y27)),uiM,(true,(.dat y31)),uiM]
def d0V:Ret:=⟨[(.cell 8 60,(true,(.dat y3))),(.tmp 9,uiM),(.cell 10 39,(true,(.dat y37)))],[]⟩
def e18:Env:=⟨30,eqs,tt,gl,[(30,s30),(42,s42)],[],[],[],[]⟩
def d5V:Ann:=.leaf
def rC (a0:L6) (a1:Int) (a2:U8) (a3:Int):Option (F8×Int×E8):=l9 (lG a0 a1 a2 a3 true) fun
 (x:E8)=>l7 (D6 (ieq x.1 0)) (some ((0,0,0),0,x)) (l9 (tC a0 a1 a2 a3) fun x=>
 some x)
def s18:FSpec:=mkS c9p d0V fun x=>rC x.1 x.2.1 x.2.2.1 x.2.2.2
def ps6:List MG:=[(true,(.dat y27)),uiM,(true,(.dat y31)),uiM]
def rt6:Ret:=⟨[(.tmp 8,ubM)],[]⟩
def e6:Env:=⟨54,eqs,tt,gl,[(10,s10),(11,s11),(17,s17),(18,s18)],[],[],[],[]⟩
def an6:Ann:=.leaf
def qO (a0:L6) (a1:Int) (a2:U8) (a3:Int):Option Bool:=l9 (lL a0 a2) fun x=>l7 (D6 x)
 (l9 bz fun x=>some x) (l9 (lg a0 a1 a2 a3) fun x=>l9 (rC a0 a1 a2
 a3) fun x_1=>l7 (aH (ieq x.1.1 x_1.1.1) (aH (ieq x.1.2.1 x_1.1.2.1) (ieq x.1.2.2 x_1.1.2.2))) (l7 (ieq
 x.2.1 x_1.2.1) (l7 (aH (ieq x.2.2.1 x_1.2.2.1) (aH (ieq x.2.2.2.1 x_1.2.2.2.1) (aH (ieq x.2.2.2.2.1 x_1.2.2.2.2.1) (ieq x.2.2.2.2.2
 x_1.2.2.2.2.2)))) (l9 bz fun x=>some x) (some false)) (some false)) (some false))
def s6:FSpec:=mkS ps6 rt6 fun x=>qO x.1 x.2.1 x.2.2.1 x.2.2.2
def zu:Option F6:=some (0,109573)
def Js (a0:V8) (a1:Int):Option V8:=l9 (N8 (fun(x:List uw×Int)=>l7 (ilt x.2 (o8 a0.2.2.2)) (l9
 (lat a0.2.2.2 x.2) fun x_1=>l9 (aI x_1.1 a1) fun x_2=>l7 x_2 (l9 zu fun x_3
 =>l9 (X9 x.1 [(x_3,x_1.2)]) fun x_4=>some (.inl (x_4,x8 .i64 x.2 1))) (some (.inl (x.1,x8 .i64 x.2
 1)))) (some (.inr x.1))) ([],0)) fun y=>some (a0.1,a0.2.1,a0.2.2.1,y)
def Hf (a0:X0) (a1:Int):Option Bool:=l9 (aI a0.2.2.2.2.1 a1) fun x=>some x
def Dv (a0:List X0) (a1:Int):Option (List Int×List Int):=l9 (gU (o8 a0) 0) fun x=>l9
 (N8 (fun(x:List Int×List Int×List Int×Int)=>l7 (ilt x.2.2.2 (o8 a0)) (l9 (lat a0 x.2.2.2) fun x_1=>l9 (l7
 (ile 0 x_1.2.2.1) (l7 (ilt x_1.2.2.1 x.2.2.2) (l9 (lat x.2.2.1 x_1.2.2.1) fun x_2=>l9 (I9 x.2.2.1 (toN x_1.2.2.1)) fun x
 =>some x) (some (-1))) (some (-1))) fun x_2=>l9 (lat x.2.2.1 x.2.2.2) fun x_3=>l9 (I9 x.2.2.1 (toN x.2.2.2)) fun(x_4:
 Int)=>l9 (Hf x_1 a1) fun x_5=>l7 x_5 (l9 (lat (S9 x.2.2.1 (toN x.2.2.2) x_2) x.2.2.2) fun x_6=>
 l9 (I9 (S9 x.2.2.1 (toN x.2.2.2) x_2) (toN x.2.2.2)) fun x_7=>l9 (X9 x.1 [x.2.2.2]) fun x_8=>l9 (X9 x.2.1
 [x_2]) fun x_9=>some (.inl (x_8,x_9,S9 (S9 x.2.2.1 (toN x.2.2.2) x_2) (toN x.2.2.2) (o8 x.1),x8 .i64 x.2.2.2 1)))
 (some (.inl (x.1,x.2.1,S9 x.2.2.1 (toN x.2.2.2) x_2,x8 .i64 x.2.2.2 1)))) (some (.inr (x.1,x.2.1)))) ([],[],x,0)) fun(y:
 List Int×List Int)=>some y
def Jr (a0:A8) (a1:Int):Option A8:=l9 (Dv a0.2.2.2.2 a1) fun x=>
 l9 (N8 (fun(x_1:List X0×Int)=>l7 (ilt x_1.2 (o8 x.1)) (l9 (lat x.1 x_1.2) fun x_2=>l9 (I9 x.1 (toN x_1.2)) fun
 (x_3:Int)=>l9 (lat a0.2.2.2.2 x_3) fun x_4=>l9 (lat x.2 x_1.2) fun x_5=>l9 (I9 x.2 (toN x_1.2)) fun x=>
 l9 zu fun x_6=>l9 (BO x_4.2.2.2.2.2.1) fun x_7=>l9 (BO x_4.2.2.2.2.2.2.1) fun
 (x_8:List F6)=>l9 (X9 x_1.1 [(x_4.1,x_4.2.1,x,x_4.2.2.2.1,x_6,x_7,x_8,x_4.2.2.2.2.2.2.2)]) fun x=>some (.inl
 (x,x8 .i64 x_1.2 1))) (some (.inr x_1.1))) ([],0)) fun y=>l9 (BO a0.2.2.1) fun x=>l9
 (BO a0.2.2.2.1) fun x_1=>some (a0.1,a0.2.1,x,x_1,y)
def e1m:List MG:=[(true,(.dat y27)),uiM]
def e1o:Ret:=⟨[(.cell 4 26,(true,(.dat y27)))],[]⟩
def Ov (a0:L6) (a1:Int):Option L6:=l9 (N8 (fun(x:(List bK×PUnit×PUnit)×Int)=>l7 (ilt x.2 (o8 a0.1))
 (l9 (lat a0.1 x.2) fun x_1=>l9 (BO x_1.2) fun x_2=>l9 (X9 x.1.1 [(x_1.1,x_2)]) fun x_3=>some (.inl ((x_3,(),()),x8 .i64 x.2 1))) (some (.inr (x.1.1,(),())))) (([],(),
 ()),0)) fun y=>l9 (N8 (fun(x:(List bK×List V8×PUnit)×Int)=>l7 (ilt x.2 (o8
 a0.2.1)) (l9 (lat a0.2.1 x.2) fun x_1=>l9 (Js x_1 a1) fun x_2=>l9 (X9 x.1.2.1 [x_2]) fun(x_3:
 List V8)=>some (.inl ((x.1.1,x_3,()),x8 .i64 x.2 1))) (some (.inr (x.1.1,x.1.2.1,())))) ((y.1,[],
 ()),0)) fun y=>l9 (N8 (fun(x:L6×Int)=>l7 (ilt x.2 (o8 a0.2.2)) (l9 (lat a0.2.2
 x.2) fun x_1=>l9 (Jr x_1 a1) fun x_2=>l9 (X9 x.1.2.2 [x_2]) fun x_3=>some (.inl
 ((x.1.1,x.1.2.1,x_3),x8 .i64 x.2 1))) (some (.inr x.1))) ((y.1,y.2.1,[]),0)) fun y=>some y
def s19:FSpec:=mkS e1m e1o fun x=>Ov x.1 x.2
def e7:Env:=⟨73,eqs,tt,gl,[(10,s10),(11,s11),(12,s12),(19,s19),(20,s20)],[],[],[],[]⟩
def c9r:List MG:=[(true,(.dat y27)),uiM,(true,(.dat y31)),uiM]
def d0X:Ret:=⟨[(.tmp 8,uiM),(.cell 9 39,(true,(.dat y37)))],[]⟩
def e21:Env:=⟨111,eqs,tt,gl,[(27,s27),(28,s28),(46,s46),(47,s47),(41,s41),(48,s48),(29,s29),(49,s49)],[],[],[],[]⟩
def d5X:Ann:=.seq lfA (.seq lfA (.seq lfA (.seq lfA (.seq (.seq lfA (.blk (.loop [(12,13),(14,18),(19,20),(21,22),(49,85),(23002688,23002691)] ⟨[(12,(false,(.box (.pair (.dat y24) (.pair (.dat y24) (.pair (.own .bool) (.own .bool))))))),(49,uiM)],[]⟩ 0 ⟨[(12,(false,(.box (.pair (.dat y24) (.pair (.dat y24) (.pair (.own .bool) (.own .bool)))))))],[]⟩ (.seq lfA (.seq lfA (.seq (.blk (.seq lfA (.seq lfA (.seq (.seq lfA (.blk (.loop [(12,13),(19,20),(66,74),(30000000,30000003)] ⟨[(12,(false,(.box (.pair (.dat y24) (.pair (.dat y24) (.pair (.own .bool) (.own .bool))))))),(66,uiM)],[]⟩ 2 ⟨[(12,(false,(.box (.pair (.dat y24) (.pair (.dat y24) (.pair (.own .bool) (.own .bool)))))))],[]⟩ lfA))) (.seq lfA (.blk (.loop [(12,13),(21,22),(76,84),(54000000,54000003)] ⟨[(12,(false,(.box (.pair (.dat y24) (.pair (.dat y24) (.pair (.own .bool) (.own .bool))))))),(76,uiM)],[]⟩ 4 ⟨[(12,(false,(.box (.pair (.dat y24) (.pair (.dat y24) (.pair (.own .bool) (.own .bool)))))))],[]⟩ lfA))))))) lfA)))))) lfA))))
def gZ (a0:L6) (a1:Int) (a2:U8) (a3:Int):Option (Int×E8):=l9 (dC a0 a1 a2 true a3) fun
 (x:E8)=>l7 (D6 (ieq x.1 0)) (some (0,x)) (l9 (lat a0.2.2 a1) fun x=>l9 (jI a0 a1) fun(x_1:
 I4)=>l9 (jQ x a3 a2.1) fun x_2=>l9 (N8 (fun(x_3:I4×Int)=>l7 (ilt x_3.2 (o8
 x_2)) (l9 (lat x_2 x_3.2) fun x_4=>l9 (I9 x_2 (toN x_3.2)) fun x_5=>l9 (lat x.2.2.2.2 x_5) fun x=>l9
 (fB x.2.2.2.2.2.1) fun x=>l9 (N8 (fun(x_6:I4×Int)=>l7 (ilt x_6.2 (o8 x.2.1)) (l9
 (lat x.2.1 x_6.2) fun x_7=>l9 (I9 x.2.1 (toN x_6.2)) fun x=>l9 (iH x_6.1 x) fun x=>
 some (.inl (x,x8 .i64 x_6.2 1))) (some (.inr x_6.1))) (x_3.1,0)) fun y=>l9 (N8 (fun(x_6:I4×
 Int)=>l7 (ilt x_6.2 (o8 x.2.2)) (l9 (lat x.2.2 x_6.2) fun x_7=>l9 (I9 x.2.2 (toN x_6.2)) fun x=>l9
 (bY x_6.1 x) fun x=>some (.inl (x,x8 .i64 x_6.2 1))) (some (.inr x_6.1))) (y,0)) fun(y:
 I4)=>some (.inl (y,x8 .i64 x_3.2 1))) (some (.inr x_3.1))) (x_1,0)) fun y=>l9 (jH
 a0 a1 a2 y) fun x_3=>l7 (D6 (ieq x_3.2.2.1.1 0)) (some (0,x_3.2.2.1)) (l9 (ng
 x x_3.2.1 (-1) a3) fun x=>l7 (D6 (ieq x.2.1 0)) (some (0,x.2)) (some (x.1,0,0,0,0))))
def s21:FSpec:=mkS c9r d0X fun x=>gZ x.1 x.2.1 x.2.2.1 x.2.2.2
def c9s:List MG:=[(true,(.dat y27)),uiM,(true,(.dat y31)),uiM]
def d0Y:Ret:=⟨[(.tmp 8,uiM),(.cell 9 39,(true,(.dat y37)))],[]⟩
def e22:Env:=⟨151,eqs,tt,gl,[(30,s30),(33,s33),(50,s50),(51,s51),(52,s52),(53,s53),(31,s31),(35,s35),(34,s34),(54,s54)],[],[],[],[]⟩
def d5Y:Ann:=.seq lfA (.seq lfA (.seq lfA (.seq lfA (.seq lfA (.seq lfA (.seq lfA (.seq (.seq lfA (.blk (.loop [(12,14),(15,21),(57,113),(23002880,23002881),(26003264,26003265)] ⟨[(12,(false,(.own .bool))),(13,(false,(.own .bool))),(15,uiM)],[]⟩ 0 ⟨[(12,(false,(.own .bool))),(13,(false,(.own .bool)))],[]⟩ (.seq lfA (.seq (.blk (.seq lfA (.seq (.seq lfA (.blk (.loop [(12,14),(19,20),(77,98),(36000000,36000002)] ⟨[(12,(false,(.own .bool))),(13,(false,(.own .bool))),(19,uiM)],[]⟩ 2 ⟨[(12,(false,(.own .bool))),(13,(false,(.own .bool)))],[]⟩ lfA))) (.seq lfA (.blk (.loop [(13,14),(20,21),(98,113),(57000001,57000002)] ⟨[(13,(false,(.own .bool))),(20,uiM)],[]⟩ 4 ⟨[(13,(false,(.own .bool)))],[]⟩ lfA)))))) lfA))))) lfA)))))))
def lF (a0:L6) (a1:Int) (a2:U8) (a3:Int):Option (Int×E8):=l9 (lG a0 a1 a2 a3 true) fun(x:
 E8)=>l7 (D6 (ieq x.1 0)) (some (0,x)) (l9 (lat a0.2.2 a1) fun x=>l9 (gU (o8 x.2.2.2.1) false) fun x_1=>l9 (aB a0 a1) fun x_2=>l9 (gU (o8 x_2.2.2.2.1) false) fun x_3=>l9 (ru x
 a3 a2.1) fun x_4=>l9 (N8 (fun(x_5:List Bool×List Bool×Int)=>l7 (ilt x_5.2.2 (o8 x_4)) (l9 (lat x_4 x_5.2.2) fun
 (x_6:Int)=>l9 (I9 x_4 (toN x_5.2.2)) fun x_7=>l9 (lat x.2.2.2.2 x_7) fun x_8=>l9 (dW
 x_8.2.2.2.2.2.1) fun x_9=>l9 (N8 (fun(x_10:List Bool×List Bool×Int)=>l7 (ilt x_10.2.2 (o8 x_9.2.1)) (l9
 (lat x_9.2.1 x_10.2.2) fun x_11=>l9 (I9 x_9.2.1 (toN x_10.2.2)) fun x_12=>l9 (kN x x_10.1 x_12) fun x=>l9 (lat x_9.2.1 x_10.2.2) fun x_13=>l9 (I9 x_9.2.1 (toN x_10.2.2)) fun x_14=>l9 (gJ a0 a1
 x_10.2.1 x_14) fun x_15=>some (.inl (x,x_15,x8 .i64 x_10.2.2 1))) (some (.inr (x_10.1,x_10.2.1)))) (x_5.1,x_5.2.1,
 0)) fun y=>l9 (N8 (fun(x:List Bool×Int)=>l7 (ilt x.2 (o8 x_9.2.2)) (l9 (aB a0 a1) fun
 (x_10:A8)=>l9 (lat x_9.2.2 x.2) fun x_11=>l9 (I9 x_9.2.2 (toN x.2)) fun x_12=>l9 (kN x_10 x.1 x_12)
 fun x_13=>some (.inl (x_13,x8 .i64 x.2 1))) (some (.inr x.1))) (y.2,0)) fun y_1=>some (.inl (y.1,
 y_1,x8 .i64 x_5.2.2 1))) (some (.inr (x_5.1,x_5.2.1)))) (x_1,x_3,0)) fun y=>l9 (dD
 a0 a1 a2 y.2) fun x_5=>l7 (D6 (ieq x_5.2.2.1 0)) (some (0,x_5.2.2)) (l9 (zg
 a0 a1 a2 x_5.1) fun x_6=>l9 (gI x x_6 (-1) y.1) fun x_7=>l7 (D6 (ieq
 x_7.2.2.1 0)) (some (0,x_7.2.2)) (l9 (vI x (x_6.1,x_6.2.1,x_7.1,x_6.2.2.2) (-1) a3) fun x=>some x)))
def s22:FSpec:=mkS c9s d0Y fun x=>lF x.1 x.2.1 x.2.2.1 x.2.2.2
def ps8:List MG:=[(true,(.dat y27)),uiM,(true,(.dat y31)),uiM]
def rt8:Ret:=⟨[(.tmp 8,ubM)],[]⟩
def e8:Env:=⟨45,eqs,tt,gl,[(10,s10),(11,s11),(21,s21),(22,s22)],[],[],[],[]⟩
def an8:Ann:=.leaf
def lZ (a0:L6) (a1:Int) (a2:U8) (a3:Int):Option Bool:=l9 (lL a0 a2) fun x=>l7 (D6 x)
 (l9 bz fun x=>some x) (l9 (gZ a0 a1 a2 a3) fun x=>l9 (lF a0 a1 a2
 a3) fun x_1=>l7 (ieq x.1 x_1.1) (l7 (aH (ieq x.2.1 x_1.2.1) (aH (ieq x.2.2.1 x_1.2.2.1) (aH (ieq x.2.2.2.1
 x_1.2.2.2.1) (ieq x.2.2.2.2 x_1.2.2.2.2)))) (l9 bz fun x=>some x) (some false)) (some false))
def s8:FSpec:=mkS ps8 rt8 fun x=>lZ x.1 x.2.1 x.2.2.1 x.2.2.2
def ps9:List MG:=[(true,(.dat y27)),uiM,(true,(.dat y31)),uiM]
def rt9:Ret:=⟨[(.tmp 8,ubM)],[]⟩
def e9:Env:=⟨109,eqs,tt,gl,[(10,s10),(11,s11),(12,s12),(17,s17),(21,s21)],[],[],[],[]⟩
def an9:Ann:=.seq lfA (.seq lfA (.seq lfA (.seq (.joinR [(8,9),(28,38)] ⟨[],[]⟩ lfA) lfA)))
def nR (a0:L6) (a1:Int) (a2:U8) (a3:Int):Option Bool:=l9 (lL a0 a2) fun x=>l7 (D6 x)
 (l9 bz fun x=>some x) (l9 (lX a0 a1 a2) fun x=>l9 (l7 (D6 (ieq x.2.1 0)) (l9
 bz fun x=>some (.inr x)) (l7 (ieq (o8 x.1.1) 0) (l9 bz fun x=>some (.inr x)) (some (.inl
 ())))) fun o=>L8 o (fun(x_1:PUnit)=>l7 (D6 (ieq (o8 x.1.2.1) (o8 x.1.1))) (some false) (l9 (kQ a3
 (o8 x.1.1)) fun x_2=>l9 (kQ (x8 .i64 x_2 (o8 x.1.1)) (o8 x.1.1)) fun x_3=>l9 (lg a0 a1 a2
 x_3) fun x_4=>l9 (gZ a0 a1 a2 x_3) fun x_5=>l7 (aH (ieq x_4.2.2.1 0)
 (aH (ieq x_4.2.2.2.1 0) (aH (ieq x_4.2.2.2.2.1 0) (ieq x_4.2.2.2.2.2 0)))) (l9 (lat x.1.1 x_3) fun x_6=>l7 (aH (ieq x_4.1.1
 x_6.1) (aH (ieq x_4.1.2.1 x_6.2.1) (ieq x_4.1.2.2 x_6.2.2))) (l9 (lat x.1.2.1 x_3) fun x=>l7 (ieq x_4.2.1 x) (l7 (aH (ieq
 x_5.2.1 0) (aH (ieq x_5.2.2.1 0) (aH (ieq x_5.2.2.2.1 0) (ieq x_5.2.2.2.2 0)))) (l7 (ieq x_5.1 x_4.2.1) (l9 bz fun x=>
 some x) (some false)) (some false)) (some false)) (some false)) (some false))) fun r=>some r)
def s9:FSpec:=mkS ps9 rt9 fun x=>nR x.1 x.2.1 x.2.2.1 x.2.2.2
end
end Gt
