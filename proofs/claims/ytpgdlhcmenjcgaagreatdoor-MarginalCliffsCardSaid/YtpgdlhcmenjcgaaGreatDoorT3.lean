import Derived.Test.YtpgdlhcmenjcgaaGreatDoorT2
set_option linter.all false
open Go Go.GP
namespace Gt
set_option maxRecDepth 100000
noncomputable section
def d5f:Ann:=.seq lfA (.seq lfA (.seq lfA (.seq lfA (.seq lfA (.seq lfA (.seq lfA (.seq (.seq lfA (.blk (.loopR [(4,5),(6,9),(42,79),(4000256,4000257),(10000384,10000385)] ⟨[(4,(false,(.box (.dat y32)))),(6,(false,(.box (.dat y32)))),(7,uiM)],[]⟩ 0 ⟨[(4,(false,(.box (.dat y32))))],[]⟩ (.seq lfA (.seq (.blk (.seq lfA (.seq lfA (.seq lfA (.blk (.loopR [(4,5),(6,7),(8,9),(61,79),(72000000,72000002)] ⟨[(4,(false,(.box (.dat y32)))),(6,(false,(.box (.dat y32)))),(8,uiM)],[]⟩ 2 ⟨[(4,(false,(.box (.dat y32)))),(6,(false,(.box (.dat y32))))],[]⟩ lfA)))))) lfA))))) lfA)))))))
def qY (a0:L8) (a1:Int):Option A7:=l9 (lat a0.1 a1) fun x=>l9 (X5 x.1) fun
 (x_1:Bool)=>l7 (D6 x_1) (some (2,1,a1,0)) (l9 (aY a0 1 a1 x.1) fun x_2=>l7 x_2 (some (7,1,a1,0)) (l7
 (ieq (o8 x.2) 0) (some (5,1,a1,0)) (l7 (ilt 16 (o8 x.2)) (some (4,1,a1,116)) (l9 (J7 (fun(x_3:A7×
 A7×Int)=>l7 (ilt x_3.2.2 (o8 x.2)) (l9 (lat x.2 x_3.2.2) fun x_4=>l9 (X5 x_4) fun
 (x_5:Bool)=>l7 (D6 x_5) (some (.rt (2,x_3.2.1.2.1,x_3.2.1.2.2.1,x9 .i64 100 x_3.2.2))) (l9 (J7 (fun(x_6:
 A7×A7×Int)=>l7 (ilt x_6.2.2 x_3.2.2) (l9 (lat x.2 x_6.2.2) fun x_7=>l9 (lat x.2
 x_3.2.2) fun x=>l7 (seq x_7 x) (some (.rt (7,x_6.2.1.2))) (some (.nx (x_6.1,x_6.2.1,x9 .i64 x_6.2.2 1)))) (some
 (.ex (x_6.1,x_6.2.1)))) (x_3.1,(x_3.2.1.1,x_3.2.1.2.1,x_3.2.1.2.2.1,x9 .i64 100 x_3.2.2),0)) fun o=>J9 o (fun(y:A7×A7)=>some (.nx (y.1,y.2,x9 .i64
 x_3.2.2 1))) fun r=>some (.rt r))) (some (.ex x_3.1))) ((0,0,0,0),(0,1,a1,0),0)) fun o=>J9 o (fun(y:A7)=>some (0,0,0,0)) fun r=>some r))))
def s71:FSpec:=mkS c8o c9Y fun x=>qY x.1 x.2
def b0S:List MG:=[(true,(.dat y2)),(false,(.dat y1))]
def b4A:Ret:=⟨[(.tmp 4,ubM)],[]⟩
def d6q:Env:=⟨31,eqs,tt,gl,[],[],[],[],[]⟩
def c3y:Ann:=.leaf
def V7 (a0:o9) (a1:List bT):Option Bool:=l7 (ieq a0.1 6) (l7 (ile 0 a0.2) (some (ilt a0.2 (o8 a1))) (some
 false)) (l7 (ile 1 a0.1) (l7 (ile a0.1 5) (some (ieq a0.2 0)) (some false)) (some false))
def a3i:FSpec:=mkS b0S b4A fun x=>V7 x.1 x.2
def b0W:List MG:=[(true,(.dat y2))]
def b4E:Ret:=⟨[(.tmp 2,ubM)],[]⟩
def d6u:Env:=⟨18,eqs,tt,gl,[],[],[],[],[]⟩
def c3C:Ann:=.leaf
def oC (a0:o9):Option Bool:=l7 (ile 0 a0.1) (l7 (ile a0.1 a0.2) (some (ile a0.2 109573)) (some false)) (some false)
def a6g:FSpec:=mkS b0W b4E fun x=>oC x
def b0t:List MG:=[(true,(.dat y2)),(false,(.dat y1))]
def b4a:Ret:=⟨[(.tmp 4,uiM),(.tmp 5,uiM)],[]⟩
def d5Q:Env:=⟨30,eqs,tt,gl,[(153,a3i)],[],[],[],[]⟩
def c2X:Ann:=.leaf
def fU (a0:o9) (a1:List bT):Option o9:=l9 (V7 a0 a1) fun x=>l7 (D6 x) (some (0,
 -1)) (l7 (ieq a0.1 1) (some (0,1)) (l7 (ieq a0.1 2) (some (-1000000000000,1000000000000)) (l7 (ieq a0.1 3) (some (-1000000000000000,
 1000000000000000)) (l7 (ieq a0.1 4) (some (-1000000000,1000000000)) (l7 (ieq a0.1 5) (some (0,109572)) (l9 (lat a1 a0.2) fun x
 =>some (0,G5 .i64 (o8 x.2) 1)))))))
def b9k:FSpec:=mkS b0t b4a fun x=>fU x.1 x.2
def c8s:List MG:=[uiM,(true,(.dat y2)),(false,(.dat y1))]
def d0c:Ret:=⟨[(.tmp 6,ubM)],[]⟩
def e75:Env:=⟨23,eqs,tt,gl,[(116,b9k)],[],[],[],[]⟩
def d5j:Ann:=.leaf
def yR (a0:Int) (a1:o9) (a2:List bT):Option Bool:=l9 (fU a1 a2) fun x=>l7 (ile x.1 a0) (some
 (ile a0 x.2)) (some false)
def s75:FSpec:=mkS c8s d0c fun x=>yR x.1 x.2.1 x.2.2
def b0T:List MG:=[(true,(.dat y4)),(true,(.dat y8)),(false,(.dat y1))]
def b4B:Ret:=⟨[(.tmp 6,ubM)],[]⟩
def d6r:Env:=⟨53,eqs,tt,gl,[(157,a6g),(75,s75)],[],[],[],[]⟩
def c3z:Ann:=.seq lfA (.seq (.joinR [(6,27)] ⟨[],[]⟩ lfA) lfA)
def zN (a0:uQ) (a1:Y1) (a2:List bT):Option Bool:=l9 (l9 (oC a0.1) fun x=>l7 (D6 x) (some
 (.inr true)) (l7 (ieq a0.1.1 a0.1.2) (some (.inr true)) (l7 (ile a0.2.2.1 a0.2.1) (some (.inr true)) (some (.inl ())))))
 fun o=>J9 o (fun(x:PUnit)=>l9 (yR a0.2.1 a1.2.1 a2) fun x=>l7 (D6 x) (some true) (l9 (yR
 (G5 .i64 a0.2.2.1 1) a1.2.1 a2) fun x=>l7 (D6 x) (some true) (l9 (yR a0.2.2.2 a1.2.2.1 a2) fun x=>some
 (D6 x)))) fun r=>some r
def d0T:FSpec:=mkS b0T b4B fun x=>zN x.1 x.2.1 x.2.2
def b1o:List MG:=[(true,(.dat y2)),(true,(.dat y2))]
def b4X:Ret:=⟨[(.cell 4 74,(true,(.dat y2))),(.tmp 5,ubM)],[]⟩
def d6O:Env:=⟨34,eqs,tt,gl,[(157,a6g)],[],[],[],[]⟩
def c3Z:Ann:=.leaf
def qV (a0:o9) (a1:o9):Option (o9×Bool):=l9 (oC a0) fun x=>l7 (D6 x) (some
 ((0,0),false)) (l9 (oC a1) fun x=>l7 (D6 x) (some ((0,0),false)) (l7 (ile (eX a0.2 a1.2) (fO a0.1 a1.1)) (some
 ((0,0),false)) (some ((fO a0.1 a1.1,eX a0.2 a1.2),true))))
def d1m:FSpec:=mkS b1o b4X fun x=>qV x.1 x.2
def b0U:List MG:=[(true,(.dat y4)),(true,(.dat y4))]
def b4C:Ret:=⟨[(.tmp 4,ubM)],[]⟩
def d6s:Env:=⟨29,eqs,tt,gl,[(186,d1m)],[],[],[],[]⟩
def c3A:Ann:=.leaf
def uz (a0:uQ) (a1:uQ):Option Bool:=l9 (qV a0.1 a1.1) fun x=>l7 x.2 (some (ilt (fO
 a0.2.1 a1.2.1) (eX a0.2.2.1 a1.2.2.1))) (some false)
def d0U:FSpec:=mkS b0U b4C fun x=>uz x.1 x.2
def b0q:List MG:=[(true,(.dat y8)),(false,(.dat y1))]
def b3X:Ret:=⟨[(.tmp 4,uiM),(.tmp 5,uiM)],[]⟩
def d5N:Env:=⟨57,eqs,tt,gl,[(153,a3i),(154,d0T),(155,d0U)],[],[],[],[]⟩
def c2T:Ann:=.seq lfA (.seq lfA (.seq (.joinR [(4,6),(12,24)] ⟨[],[]⟩ lfA) (.seq (.seq lfA (.blk (.loopR [(4,8),(24,57)] ⟨[(6,uiM)],[]⟩ 0 ⟨[],[]⟩ (.seq lfA (.seq (.blk (.seq lfA (.seq lfA (.blk (.loopR [(4,6),(7,8),(40,57)] ⟨[(7,uiM)],[]⟩ 2 ⟨[],[]⟩ lfA))))) lfA))))) lfA)))
def uy (a0:Y1) (a1:List bT):Option o9:=l7 (ilt 64 (o8 a0.2.2.2)) (some (64,4)) (l9 (l9 (V7
 a0.2.1 a1) fun x=>l7 (D6 x) (some (.inr (-1,8))) (l9 (V7 a0.2.2.1 a1) fun x=>l7 (D6 x) (some
 (.inr (-1,8))) (some (.inl ())))) fun o=>J9 o (fun(x:PUnit)=>l9 (J7 (fun(x:Int)=>l7 (ilt
 x (o8 a0.2.2.2)) (l9 (lat a0.2.2.2 x) fun x_1=>l9 (zN x_1 a0 a1) fun x_2=>l7 x_2 (some (.rt (x,3)))
 (l9 (J7 (fun(x_3:Int)=>l7 (ilt x_3 x) (l9 (lat a0.2.2.2 x_3) fun x_4=>l9 (lat a0.2.2.2 x) fun x_5=>l9
 (uz x_4 x_5) fun x_6=>l7 x_6 (some (.rt (x,11))) (some (.nx (x9 .i64 x_3 1)))) (some (.ex ())))
 0) fun o=>J9 o (fun(y:PUnit)=>some (.nx (x9 .i64 x 1))) fun r=>some (.rt r))) (some
 (.ex ()))) 0) fun o=>J9 o (fun(y:PUnit)=>some (0,0)) fun r=>some r) fun r=>
 some r)
def d0z:FSpec:=mkS b0q b3X fun x=>uy x.1 x.2
def c8p:List MG:=[(true,(.dat y27)),uiM]
def c9Z:Ret:=⟨[(.cell 4 82,(true,(.dat y32)))],[]⟩
def e72:Env:=⟨47,eqs,tt,gl,[(111,a3h),(112,a9i),(113,d0z)],[],[],[],[]⟩
def d5g:Ann:=.leaf
def pR (a0:L8) (a1:Int):Option A7:=l9 (lat a0.2.1 a1) fun x=>l9 (X5 x.1)
 fun x_1=>l7 (D6 x_1) (some (2,2,a1,0)) (l9 (aY a0 2 a1 x.1) fun x_2=>l7 x_2 (some (7,2,a1,0))
 (l9 (uy x a0.1) fun x=>l7 (ieq x.2 0) (some (0,0,0,0)) (l7 (ile 0 x.1) (some (x.2,2,a1,x9 .i64
 100 x.1)) (some (x.2,2,a1,0)))))
def s72:FSpec:=mkS c8p c9Z fun x=>pR x.1 x.2
def b0V:List MG:=[(false,(.dat y11)),uiM,(false,(.dat .str))]
def b4D:Ret:=⟨[(.tmp 6,ubM)],[]⟩
def d6t:Env:=⟨26,eqs,tt,gl,[],[],[],[],[]⟩
def c3B:Ann:=.seq lfA (.seq (.seq lfA (.blk (.loopR [(6,26)] ⟨[(7,uiM)],[]⟩ 0 ⟨[],[]⟩ lfA))) lfA)
def lg (a0:List bg) (a1:Int) (a2:List UInt8):Option Bool:=l9 (J7 (fun(x:Int)=>l7 (ilt x a1) (l7 (ilt x
 (o8 a0)) (l9 (lat a0 x) fun x_1=>l7 (seq x_1.1 a2) (some (.rt true)) (some (.nx (x9 .i64 x 1)))) (some (.ex
 ()))) (some (.ex ()))) 0) fun o=>J9 o (fun(y:PUnit)=>some false) fun r=>some r
def d0V:FSpec:=mkS b0V b4D fun x=>lg x.1 x.2.1 x.2.2
def b0r:List MG:=[(true,(.dat y27)),uiM]
def b3Y:Ret:=⟨[(.cell 4 82,(true,(.dat y32)))],[]⟩
def d5O:Env:=⟨122,eqs,tt,gl,[(111,a3h),(156,d0V),(153,a3i)],[],[],[],[]⟩
def c2V:Ann:=.seq lfA (.seq lfA (.seq (.seq lfA (.blk (.loopR [(4,5),(6,8),(15,61),(4000256,4000257)] ⟨[(4,(false,(.box (.dat y32)))),(6,uiM)],[]⟩ 0 ⟨[(4,(false,(.box (.dat y32))))],[]⟩ lfA))) (.seq (.seq lfA (.blk (.loopR [(4,5),(8,10),(61,121),(15000000,15000001)] ⟨[(4,(false,(.box (.dat y32)))),(8,uiM)],[]⟩ 2 ⟨[(4,(false,(.box (.dat y32))))],[]⟩ (.seq lfA (.seq (.blk (.seq lfA (.seq (.join [(9,10),(72,117),(78000576,78000577)] ⟨[(9,(false,(.box (.dat y32))))],[]⟩ lfA) lfA))) lfA))))) lfA)))
def pK (a0:L8) (a1:Int):Option A7:=l9 (lat a0.2.2 a1) fun x=>l9 (J7 (fun(x_1:
 A7×Int)=>l7 (ilt x_1.2 (o8 x.2.2.1)) (l9 (lat x.2.2.1 x_1.2) fun x_2=>l9 (X5 x_2.1) fun
 (x_3:Bool)=>l7 (D6 x_3) (l7 (D6 (ieq 2 0)) (some (.rt (2,3,a1,x9 .i64 100 x_1.2))) (some (.nx (x_1.1,x9
 .i64 x_1.2 1)))) (l9 (lat x.2.2.1 x_1.2) fun x_4=>l9 (lg x.2.2.1 x_1.2 x_4.1) fun x_5=>l7 x_5
 (l7 (D6 (ieq 7 0)) (some (.rt (7,3,a1,x9 .i64 100 x_1.2))) (some (.nx (x_1.1,x9 .i64 x_1.2 1)))) (l9 (lat x.2.2.1
 x_1.2) fun x=>l9 (V7 x.2 a0.1) fun x=>l7 (D6 x) (l7 (D6 (ieq 8 0)) (some (.rt (8,3,a1,x9
 .i64 100 x_1.2))) (some (.nx (x_1.1,x9 .i64 x_1.2 1)))) (l7 (D6 (ieq 0 0)) (some (.rt (0,3,a1,x9 .i64 100
 x_1.2))) (some (.nx (x_1.1,x9 .i64 x_1.2 1))))))) (some (.ex x_1.1))) ((0,0,0,0),0)) fun o=>J9 o (fun(y:A7)=>l9 (J7 (fun(x_1:A7×Int)=>l7 (ilt x_1.2 (o8
 x.2.2.2.1)) (l9 (l9 (lat x.2.2.2.1 x_1.2) fun x_2=>l9 (X5 x_2.1) fun x_3=>l7 (D6 x_3) (some (2,
 3,a1,x9 .i64 200 x_1.2)) (l9 (lat x.2.2.2.1 x_1.2) fun x_4=>l9 (lg x.2.2.1 (o8 x.2.2.1) x_4.1) fun(x_5:
 Bool)=>l7 x_5 (some (7,3,a1,x9 .i64 200 x_1.2)) (l9 (lat x.2.2.2.1 x_1.2) fun x_6=>l9 (lg x.2.2.2.1
 x_1.2 x_6.1) fun x_7=>l7 x_7 (some (7,3,a1,x9 .i64 200 x_1.2)) (l9 (lat x.2.2.2.1 x_1.2) fun x=>l9
 (V7 x.2 a0.1) fun x=>l7 (D6 x) (some (8,3,a1,x9 .i64 200 x_1.2)) (some (0,3,a1,x9 .i64 200
 x_1.2)))))) fun x=>l7 (D6 (ieq x.1 0)) (some (.rt x)) (some (.nx (x_1.1,x9 .i64 x_1.2 1)))) (some
 (.ex x_1.1))) (y,0)) fun o=>J9 o (fun(y:A7)=>some (0,0,0,0)) fun(r:
 A7)=>some r) fun r=>some r
def d0A:FSpec:=mkS b0r b3Y fun x=>pK x.1 x.2
def b0X:List MG:=[(false,(.dat .str))]
def b4F:Ret:=⟨[(.tmp 2,ubM)],[]⟩
def d6v:Env:=⟨29,eqs,tt,gl,[],[],[],[],[]⟩
def c3E:Ann:=.seq lfA (.seq (.seq lfA (.blk (.loopR [(2,26)] ⟨[(3,uiM)],[]⟩ 0 ⟨[],[]⟩ lfA))) lfA)
def qZ (a0:List UInt8):Option Bool:=l9 (J7 (fun(x:Int)=>l7 (ilt x (o8 a0)) (l9 (sat a0 x) fun x_1=>
 l7 (ilt x_1 32) (some (.rt false)) (l9 (sat a0 x) fun x_2=>l7 (ilt 126 x_2) (some (.rt false)) (l9 (sat a0 x) fun(x_3:
 Int)=>l7 (ieq x_3 34) (some (.rt false)) (some (.nx (x9 .i64 x 1)))))) (some (.ex ()))) 0) fun o=>
 J9 o (fun(y:PUnit)=>some (ile (o8 a0) 64)) fun r=>some r
def d0W:FSpec:=mkS b0X b4F fun x=>qZ x
def b1p:List MG:=[(false,(.dat y11))]
def b4Y:Ret:=⟨[(.tmp 2,(false,(.own y2)))],[]⟩
def d6P:Env:=⟨20,eqs,tt,gl,[],[],[],[],[]⟩
def c4a:Ann:=.seq lfA (.seq lfA (.seq (.seq lfA (.blk (.loop [(3,19)] ⟨[(3,(false,(.own y2))),(4,uiM)],[]⟩ 0 ⟨[(3,(false,(.own y2)))],[]⟩ lfA))) lfA))
def pM (a0:List bg):Option (List o9):=l9 (P5 (fun(x:List o9×Int)=>l7 (ilt x.2 (o8 a0)) (l9
 (lat a0 x.2) fun x_1=>l9 (X9 x.1 [x_1.2]) fun x_2=>some (.inl (x_2,x9 .i64 x.2 1))) (some
 (.inr x.1))) ([],0)) fun y=>some y
def d1n:FSpec:=mkS b1p b4Y fun x=>pM x
def b0Y:List MG:=[(true,(.dat y27)),uiM]
def b4G:Ret:=⟨[(.cell 4 169,(true,(.dat y51)))],[]⟩
def d6w:Env:=⟨55,eqs,tt,gl,[(187,d1n)],[],[],[],[]⟩
def c3F:Ann:=.seq lfA (.seq (.joinR [(4,5),(7,17),(4000256,4000257)] ⟨[(4,(false,(.box (.dat y51))))],[]⟩ lfA) lfA)
def qX (a0:L8) (a1:Int):Option H8:=l9 (l7 (ilt a1 0) (some (.inr ([],[],[],[],[],false))) (l7 (ile
 (o8 a0.2.2) a1) (some (.inr ([],[],[],[],[],false))) (some (.inl ([],[],[],[],[],false))))) fun o=>
 J9 o (fun(x:H8)=>l9 (lat a0.2.2 a1) fun x=>l9 (pM x.2.2.1) fun x_1=>l9
 (pM x.2.2.2.1) fun x_2=>l7 (ile 0 x.2.1) (l7 (ilt x.2.1 (o8 a0.2.2)) (l9 (lat a0.2.2 x.2.1) fun(x:
 D8)=>l9 (pM x.2.2.2.1) fun x=>some (a0.1,a0.2.1,x_1,x_2,x,true)) (some (a0.1,a0.2.1,x_1,x_2,[],
 false))) (some (a0.1,a0.2.1,x_1,x_2,[],false))) fun r=>some r
def d0X:FSpec:=mkS b0Y b4G fun x=>qX x.1 x.2
def b1H:List MG:=[uiM]
def b5r:Ret:=⟨[(.tmp 2,uiM)],[]⟩
def d7k:Env:=⟨33,eqs,tt,gl,[],[],[],[],[]⟩
def c4v:Ann:=.seq lfA (.seq (.joinR [(2,17)] ⟨[],[]⟩ lfA) lfA)
def aJ (a0:Int):Option Int:=l9 (l7 (ile 1 a0) (l7 (ile a0 9) (some (.inr 0)) (l7 (ile 35 a0) (l7 (ile a0 39) (some
 (.inr 0)) (some (.inl ()))) (some (.inl ())))) (l7 (ile 35 a0) (l7 (ile a0 39) (some (.inr 0)) (some (.inl
 ()))) (some (.inl ())))) fun o=>J9 o (fun(x:PUnit)=>l7 (ieq a0 10) (l7 (ieq a0 10) (some 1) (l7
 (ieq a0 26) (some 3) (l7 (ile 11 a0) (l7 (ile a0 30) (some 2) (some (-1))) (some (-1))))) (l7 (ieq a0 25) (l7 (ieq a0 25) (some 1) (l7
 (ieq a0 26) (some 3) (l7 (ile 11 a0) (l7 (ile a0 30) (some 2) (some (-1))) (some (-1))))) (l7 (ieq a0 31) (l7 (ieq a0 31) (some 1) (l7
 (ieq a0 26) (some 3) (l7 (ile 11 a0) (l7 (ile a0 30) (some 2) (some (-1))) (some (-1))))) (l7 (ieq a0 32) (l7 (ieq a0 32) (some 1) (l7
 (ieq a0 26) (some 3) (l7 (ile 11 a0) (l7 (ile a0 30) (some 2) (some (-1))) (some (-1))))) (l7 (ieq a0 33) (l7 (ieq a0 33) (some 1) (l7
 (ieq a0 26) (some 3) (l7 (ile 11 a0) (l7 (ile a0 30) (some 2) (some (-1))) (some (-1))))) (l7 (ieq a0 34) (some 1) (l7 (ieq a0 26) (some
 3) (l7 (ile 11 a0) (l7 (ile a0 30) (some 2) (some (-1))) (some (-1)))))))))) fun r=>some r
def a6m:FSpec:=mkS b1H b5r fun x=>aJ x
def b1u:List MG:=[(false,(.dat y12))]
def b5e:Ret:=⟨[(.tmp 2,uoM),(.tmp 3,uiM),(.tmp 4,uiM)],[]⟩
def d6V:Env:=⟨70,eqs,tt,gl,[(219,a6m)],[],[],[],[]⟩
def c4g:Ann:=.seq lfA (.seq lfA (.seq lfA (.seq lfA (.seq (.seq lfA (.blk (.loopR [(2,10),(16,64)] ⟨[(5,uoM),(6,uoM),(7,uiM)],[]⟩ 0 ⟨[(5,uoM),(6,uoM)],[]⟩ lfA))) lfA))))
def jB (a0:List o9):Option (List Int×o9):=l7 (ilt 48 (o8 a0)) (some ([],0,4)) (l7 (ieq (o8 a0) 0) (some
 ([],0,5)) (l9 (J7 (fun(x:List Int×List Int×Int)=>l7 (ilt x.2.2 (o8 a0)) (l9 (lat a0 x.2.2) fun x_1=>l9
 (aJ x_1.1) fun x_2=>l7 (ilt x_2 0) (some (.rt ([],x.2.2,2))) (l7 (ilt (o8 x.2.1) x_2) (some (.rt ([],x.2.2,5)))
 (l7 (ilt 0 x_2) (l9 (lat x.2.1 (G5 .i64 (o8 x.2.1) x_2)) fun x_3=>l9 (J4 x.2.1 (toN (G5 .i64 (o8 x.2.1)
 x_2))) fun x_4=>l7 (ja 0 (G5 .i64 (o8 x.2.1) x_2) (o8 x.2.1)) (l9 (X9 (gq x.2.1 (toN 0) (toN (G5 .i64
 (o8 x.2.1) x_2))) [x_4]) fun x_5=>l9 (X9 x.1 [x_4]) fun x_6=>l7 (ilt 12 (o8 x_5)) (some (.rt ([],x.2.2,
 16))) (some (.nx (x_6,x_5,x9 .i64 x.2.2 1)))) none) (l9 (X9 x.2.1 [x.2.2]) fun x_3=>l9 (X9 x.1 [x.2.2]) fun
 (x_4:List Int)=>l7 (ilt 12 (o8 x_3)) (some (.rt ([],x.2.2,16))) (some (.nx (x_4,x_3,x9 .i64 x.2.2 1))))))) (some (.ex
 (x.1,x.2.1)))) ([],[],0)) fun o=>J9 o (fun(y:List Int×List Int)=>l7 (ilt 1 (o8
 y.2)) (some ([],o8 a0,4)) (some (y.1,0,0))) fun r=>some r))
def a9n:FSpec:=mkS b1u b5e fun x=>jB x
def b2k:List MG:=[uiM]
def b5U:Ret:=⟨[(.tmp 2,ubM)],[]⟩
def d7P:Env:=⟨35,eqs,tt,gl,[],[],[],[],[]⟩
def c5d:Ann:=.seq lfA (.seq (.joinR [(2,17)] ⟨[],[]⟩ lfA) lfA)
def ah (a0:Int):Option Bool:=l9 (l7 (ile 1 a0) (l7 (ile a0 8) (some (.inr true)) (l7 (ile 36 a0) (l7 (ile a0 39)
 (some (.inr true)) (some (.inl ()))) (some (.inl ())))) (l7 (ile 36 a0) (l7 (ile a0 39) (some (.inr true)) (some
 (.inl ()))) (some (.inl ())))) fun o=>J9 o (fun(x:PUnit)=>l7 (ieq a0 14) (some true) (l7 (ieq
 a0 15) (some true) (l7 (ieq a0 16) (some true) (l7 (ieq a0 33) (some true) (some (ieq a0 34)))))) fun r=>some r
def d1Z:FSpec:=mkS b2k b5U fun x=>ah x
def b2Q:List MG:=[uiM]
def b6A:Ret:=⟨[(.cell 2 54,(true,(.dat y2)))],[]⟩
def d8v:Env:=⟨5,eqs,tt,gl,[],[],[],[],[]⟩
def c5K:Ann:=.leaf
def aW (a0:Int):Option o9:=some (a0,0)
def a3k:FSpec:=mkS b2Q b6A fun x=>aW x
def b2l:List MG:=[(true,(.dat y2)),(true,(.dat y51))]
def b5V:Ret:=⟨[(.tmp 4,ubM)],[]⟩
def d7Q:Env:=⟨62,eqs,tt,gl,[(295,a3k),(116,b9k)],[],[],[],[]⟩
def c5e:Ann:=.seq lfA (.seq (.seq lfA (.blk (.seq (.join [(9,15)] ⟨[(9,ubM)],[]⟩ lfA) (.cond lfA (.seq (.join [(34,38)] ⟨[(34,ubM)],[]⟩ lfA) lfA))))) lfA)
def jL (a0:o9) (a1:H8):Option Bool:=l9 (l7 (ieq a0.1 1) (some (ieq a0.1 1)) (l7 (ieq a0.1 2) (some (ieq a0.1
 2)) (l7 (ieq a0.1 3) (some (ieq a0.1 3)) (l7 (ieq a0.1 4) (some (ieq a0.1 4)) (some (ieq a0.1 5)))))) fun x=>l7 x (l9
 (aW a0.1) fun x=>l9 (fU x a1.1) fun x=>l7 (ile x.1 a0.2) (some (ile a0.2 x.2)) (some false))
 (l9 (l7 (ieq a0.1 14) (some (ieq a0.1 14)) (l7 (ieq a0.1 15) (some (ieq a0.1 15)) (some (ieq a0.1 16)))) fun x=>l7 x (l7
 (ile 0 a0.2) (some (ile a0.2 5)) (some false)) (l7 (ieq a0.1 34) (l7 (ile 0 a0.2) (some (ile (V6 a0.2 8) 5)) (some false)) (l7 (ieq a0.1
 6) (some (ile 0 a0.2)) (some true))))
def d2a:FSpec:=mkS b2l b5V fun x=>jL x.1 x.2
def b2m:List MG:=[(true,(.dat y2)),(true,(.dat y51))]
def b5W:Ret:=⟨[(.tmp 4,ubM)],[]⟩
def d7R:Env:=⟨103,eqs,tt,gl,[],[],[],[],[]⟩
def c5f:Ann:=.seq lfA (.seq (.seq lfA (.blk (.seq lfA (.cond lfA (.seq lfA (.cond lfA (.seq lfA (.cond lfA (.seq lfA (.cond lfA (.seq lfA (.cond lfA (.seq lfA (.cond lfA (.seq (.join [(83,88)] ⟨[(83,ubM)],[]⟩ lfA) lfA))))))))))))))) lfA)
def lG (a0:o9) (a1:H8):Option Bool:=l7 (ieq a0.1 6) (l7 (ilt (V5 .i64 a0.2 16) (o8 a1.1)) (l9 (lat
 a1.1 (V5 .i64 a0.2 16)) fun x=>some (ilt (V6 a0.2 16) (o8 x.2))) (some false)) (l7 (ieq a0.1 7) (l7 (ile 0 a0.2) (some
 (ilt a0.2 (o8 a1.2.2.1))) (some false)) (l7 (ieq a0.1 8) (l7 (ile 0 a0.2) (some (ilt a0.2 (o8 a1.2.2.2.1))) (some false)) (l7 (ieq a0.1
 33) (l7 (ile 0 a0.2) (some (ilt a0.2 (o8 a1.2.1))) (some false)) (l7 (ieq a0.1 34) (some (ilt (V5 .i64 a0.2 8) (o8 a1.2.1)))
 (l7 (ieq a0.1 35) (some a1.2.2.2.2.2) (l9 (l7 (ieq a0.1 36) (some (ieq a0.1 36)) (l7 (ieq a0.1 37) (some (ieq a0.1 37)) (l7 (ieq a0.1
 38) (some (ieq a0.1 38)) (some (ieq a0.1 39))))) fun x=>l7 x (l7 a1.2.2.2.2.2 (l7 (ile 0 a0.2) (some (ilt a0.2 (o8
 a1.2.2.2.2.1))) (some false)) (some false)) (some true)))))))
def d2b:FSpec:=mkS b2m b5W fun x=>lG x.1 x.2
def b2S:List MG:=[uiM]
def b6C:Ret:=⟨[(.tmp 2,ubM)],[]⟩
def d8x:Env:=⟨13,eqs,tt,gl,[],[],[],[],[]⟩
def c5N:Ann:=.leaf
def pz (a0:Int):Option Bool:=l7 (ieq a0 2) (some true) (l7 (ieq a0 3) (some true) (some (ieq a0 4)))
def a9s:FSpec:=mkS b2S b6C fun x=>pz x
def b2R:List MG:=[uiM]
def b6B:Ret:=⟨[(.tmp 2,ubM)],[]⟩
def d8w:Env:=⟨9,eqs,tt,gl,[(297,a9s)],[],[],[],[]⟩
def c5M:Ann:=.leaf
def kz (a0:Int):Option Bool:=l9 (pz a0) fun x=>l7 x (some true) (some (ieq a0 5))
def b9G:FSpec:=mkS b2R b6B fun x=>kz x
def b2n:List MG:=[(true,(.dat y2)),(true,(.dat y51))]
def b5X:Ret:=⟨[(.cell 4 54,(true,(.dat y2))),(.tmp 5,ubM)],[]⟩
def d7S:Env:=⟨91,eqs,tt,gl,[(295,a3k),(153,a3i),(296,b9G)],[],[],[],[]⟩
def c5g:Ann:=.seq lfA (.seq lfA (.seq (.join [(6,7),(9,53),(7000384,7000385)] ⟨[(6,(false,(.box (.dat y2))))],[]⟩ (.seq lfA (.blk (.seq lfA (.cond lfA (.seq lfA (.cond lfA (.seq lfA (.cond lfA (.seq lfA (.cond lfA (.seq lfA (.cond lfA (.seq (.join [(42,47)] ⟨[(42,ubM)],[]⟩ lfA) lfA)))))))))))))) lfA))
def dW (a0:o9) (a1:H8):Option (o9×Bool):=l9 (l7 (ieq a0.1 6) (some (6,V5 .i64 a0.2 16)) (l7
 (ieq a0.1 7) (l9 (lat a1.2.2.1 a0.2) fun x=>some x) (l7 (ieq a0.1 8) (l9 (lat a1.2.2.2.1 a0.2) fun x=>some
 x) (l7 (ieq a0.1 9) (l9 (aW 5) fun x=>some x) (l7 (ieq a0.1 35) (l9 (aW 2) fun x=>some x)
 (l9 (l7 (ieq a0.1 36) (some (ieq a0.1 36)) (l7 (ieq a0.1 37) (some (ieq a0.1 37)) (l7 (ieq a0.1 38) (some (ieq a0.1 38)) (some (ieq a0.1
 39))))) fun x=>l7 x (l9 (lat a1.2.2.2.2.1 a0.2) fun x=>some x) (l9 (aW a0.1) fun x=>some
 x))))))) fun x=>l9 (V7 x a1.1) fun x_1=>l7 (ieq a0.1 36) (l7 x_1 (l7 (ieq x.1 2) (some (x,true))
 (some (x,ieq x.1 3))) (some (x,false))) (l7 (ieq a0.1 37) (l7 (ieq a0.1 37) (l7 x_1 (some (x,ieq x.1 1)) (some (x,false))) (l7 (ieq
 a0.1 39) (l7 x_1 (l9 (kz x.1) fun x_2=>some (x,x_2)) (some (x,false))) (some (x,x_1)))) (l7 (ieq a0.1 38) (l7
 x_1 (some (x,ieq x.1 1)) (some (x,false))) (l7 (ieq a0.1 39) (l7 x_1 (l9 (kz x.1) fun x_2=>some (x,x_2)) (some (x,
 false))) (some (x,x_1)))))
def d2c:FSpec:=mkS b2n b5X fun x=>dW x.1 x.2
def b2o:List MG:=[(true,(.dat y2)),(true,(.dat y2)),(true,(.dat y51))]
def b5Y:Ret:=⟨[(.cell 6 54,(true,(.dat y2))),(.tmp 7,ubM)],[]⟩
def d7T:Env:=⟨82,eqs,tt,gl,[(297,a9s),(295,a3k),(153,a3i)],[],[],[],[]⟩
def c5h:Ann:=.seq lfA (.seq (.seq lfA (.blk (.seq lfA (.cond lfA (.seq lfA (.cond lfA (.seq (.join [(24,27)] ⟨[(24,ubM)],[]⟩ lfA) lfA))))))) lfA)
def lQ (a0:o9) (a1:o9) (a2:H8):Option (o9×Bool):=l7 (ieq a0.1 10) (l9 (pz a1.1) fun
 (x:Bool)=>some (a1,x)) (l7 (ieq a0.1 25) (some (a1,ieq a1.1 1)) (l9 (l7 (ieq a0.1 31) (some (ieq a0.1 31)) (some (ieq a0.1 32))) fun
 (x:Bool)=>l7 x (l9 (aW 2) fun x=>some (x,ieq a1.1 5)) (l7 (ieq a0.1 33) (l9 (lat a2.2.1 a0.2) fun(x:
 Y1)=>l9 (V7 x.2.1 a2.1) fun x_1=>l7 x_1 (l9 (V7 x.2.2.1 a2.1) fun x_2=>l7 x_2 (some
 (x.2.2.1,aK (ieq a1.1 x.2.1.1) (ieq a1.2 x.2.1.2))) (some (x.2.2.1,false))) (some (x.2.2.1,false))) (l9 (lat a2.2.1 (V5 .i64 a0.2
 8)) fun x=>l7 (ieq a1.1 3) (l9 (aW 3) fun x_1=>l7 (aK (ieq x.2.1.1 x_1.1) (ieq x.2.1.2 x_1.2)) (l9
 (aW 4) fun x_2=>some (a1,aK (ieq x.2.2.1.1 x_2.1) (ieq x.2.2.1.2 x_2.2))) (some (a1,false))) (some (a1,false))))))
def d2d:FSpec:=mkS b2o b5Y fun x=>lQ x.1 x.2.1 x.2.2
def b2T:List MG:=[uiM,uiM,uiM]
def b6D:Ret:=⟨[(.cell 6 54,(true,(.dat y2))),(.tmp 7,ubM)],[]⟩
def d8y:Env:=⟨56,eqs,tt,gl,[(295,a3k)],[],[],[],[]⟩
def c5O:Ann:=.leaf
def Jh (a0:Int) (a1:Int) (a2:Int):Option (o9×Bool):=l7 (ieq a0 13) (l9 (aW a1) fun x=>l7
 (ieq a2 2) (l7 (ieq a1 2) (some (x,true)) (some (x,ieq a1 3))) (some (x,false))) (l7 (ieq a0 14) (l9 (aW a1) fun x
 =>l7 (ieq a2 4) (l7 (ieq a1 3) (some (x,true)) (some (x,ieq a1 4))) (some (x,false))) (l7 (ieq a1 3) (l7 (ieq a2 3) (l9
 (aW 4) fun x=>some (x,true)) (l9 (aW a1) fun x=>l7 (ieq a2 2) (l7 (ieq a1 2) (some (x,
 true)) (some (x,ieq a1 3))) (some (x,false)))) (l9 (aW a1) fun x=>l7 (ieq a2 2) (l7 (ieq a1 2) (some (x,true))
 (some (x,ieq a1 3))) (some (x,false)))))
def d2u:FSpec:=mkS b2T b6D fun x=>Jh x.1 x.2.1 x.2.2
def b2p:List MG:=[uiM,(true,(.dat y2)),(true,(.dat y2))]
def b5Z:Ret:=⟨[(.cell 6 54,(true,(.dat y2))),(.tmp 7,ubM)],[]⟩
def d7U:Env:=⟨108,eqs,tt,gl,[(297,a9s),(298,d2u),(296,b9G),(295,a3k)],[],[],[],[]⟩
def c5i:Ann:=.seq lfA (.seq (.joinR [(6,99),(4000384,4000385)] ⟨[(6,(false,(.box (.dat y2))))],[]⟩ (.seq lfA (.blk (.seq (.join [(9,12)] ⟨[(9,ubM)],[]⟩ lfA) (.cond lfA (.seq (.join [(21,25)] ⟨[(21,ubM)],[]⟩ lfA) (.cond lfA (.seq lfA (.cond lfA (.seq (.join [(44,47)] ⟨[(44,ubM)],[]⟩ lfA) (.cond lfA (.seq (.join [(56,59)] ⟨[(56,ubM)],[]⟩ lfA) (.cond lfA (.seq (.join [(63,66)] ⟨[(63,ubM)],[]⟩ lfA) lfA)))))))))))))) lfA)
def pq (a0:Int) (a1:o9) (a2:o9):Option (o9×Bool):=l9 (l9 (l7 (ieq a0 11) (some (ieq a0 11)) (some
 (ieq a0 12))) fun x=>l7 x (l7 (aK (ieq a1.1 a2.1) (ieq a1.2 a2.2)) (l9 (pz a1.1) fun x=>some (.inr (a1,
 x))) (some (.inr (a1,false)))) (l9 (l7 (ieq a0 13) (some (ieq a0 13)) (l7 (ieq a0 14) (some (ieq a0 14)) (some (ieq a0 15)))) fun(x:
 Bool)=>l7 x (l9 (Jh a0 a1.1 a2.1) fun x=>some (.inr x)) (l7 (ieq a0 16) (l7 (ieq a1.1 3) (some
 (.inr (a1,ieq a2.1 3))) (some (.inr (a1,false)))) (l9 (l7 (ieq a0 17) (some (ieq a0 17)) (some (ieq a0 18))) fun x=>l7 x
 (l7 (aK (ieq a1.1 a2.1) (ieq a1.2 a2.2)) (l9 (kz a1.1) fun x=>some (.inr (a1,x))) (some (.inr (a1,false))))
 (l9 (l7 (ieq a0 19) (some (ieq a0 19)) (some (ieq a0 20))) fun x=>l7 x (l9 (aW 1) fun x=>some (.inr
 (x,aK (ieq a1.1 a2.1) (ieq a1.2 a2.2)))) (l9 (l7 (ieq a0 21) (some (ieq a0 21)) (some (ieq a0 22))) fun x=>l7 x (l9
 (aW 1) fun x=>l7 (aK (ieq a1.1 a2.1) (ieq a1.2 a2.2)) (l9 (kz a1.1) fun x_1=>some (.inr (x,
 x_1))) (some (.inr (x,false)))) (l7 (ieq a0 23) (l7 (ieq a0 23) (l7 (ieq a1.1 1) (some (.inr (a1,ieq a2.1 1))) (some (.inr (a1,
 false)))) (l7 (ieq a0 27) (l7 (ieq a0 27) (l7 (ieq a1.1 5) (some (.inr (a1,ieq a2.1 2))) (some (.inr (a1,false)))) (some (.inl
 (0,0)))) (l7 (ieq a0 28) (l7 (ieq a1.1 5) (some (.inr (a1,ieq a2.1 2))) (some (.inr (a1,false)))) (some (.inl (0,0)))))) (l7
 (ieq a0 24) (l7 (ieq a1.1 1) (some (.inr (a1,ieq a2.1 1))) (some (.inr (a1,false)))) (l7 (ieq a0 27) (l7 (ieq a0 27) (l7 (ieq
 a1.1 5) (some (.inr (a1,ieq a2.1 2))) (some (.inr (a1,false)))) (some (.inl (0,0)))) (l7 (ieq a0 28) (l7 (ieq a1.1 5) (some
 (.inr (a1,ieq a2.1 2))) (some (.inr (a1,false)))) (some (.inl (0,0))))))))))))) fun o=>J9 o (fun(x
 :o9)=>l9 (aW 2) fun x=>l7 (ieq a1.1 5) (some (x,ieq a2.1 5)) (some (x,false))) fun r
 =>some r
def d2e:FSpec:=mkS b2p b5Z fun x=>pq x.1 x.2.1 x.2.2
def b1I:List MG:=[(true,(.dat y2)),(false,(.dat y12)),(true,(.dat y51))]
def b5s:Ret:=⟨[(.cell 6 54,(true,(.dat y2))),(.tmp 7,uiM)],[]⟩
def d7l:Env:=⟨87,eqs,tt,gl,[(257,d1Z),(258,d2a),(259,d2b),(260,d2c),(261,d2d),(262,d2e)],[],[],[],[]⟩
def c4w:Ann:=.seq lfA (.seq (.joinR [(6,8),(10,20),(4000384,4000385)] ⟨[(6,(false,(.box (.dat y2))))],[]⟩ lfA) lfA)
def pg (a0:o9) (a1:List o9) (a2:H8):Option (o9×Int):=l9 (l7 (D6 (ieq a0.2 0)) (l9
 (ah a0.1) fun x=>l7 (D6 x) (some (.inr ((0,0),2))) (some (.inl (0,0)))) (some (.inl (0,0)))) fun(o:
 o9⊕o9×Int)=>J9 o (fun(x:o9)=>l9 (jL a0 a2) fun x=>l7 (D6 x) (some ((0,0),3)) (l9
 (lG a0 a2) fun x=>l7 (D6 x) (some ((0,0),6)) (l7 (ieq (o8 a1) 0) (l9 (dW a0 a2) fun x
 =>l7 (D6 x.2) (some ((0,0),8)) (some (x.1,0))) (l7 (ieq (o8 a1) 1) (l9 (lat a1 0) fun x=>l9 (lQ a0 x
 a2) fun x=>l7 (D6 x.2) (some ((0,0),8)) (some (x.1,0))) (l7 (ieq (o8 a1) 2) (l9 (lat a1 0) fun x
 =>l9 (lat a1 1) fun x_1=>l9 (pq a0.1 x x_1) fun x=>l7 (D6 x.2) (some ((0,0),8)) (some
 (x.1,0))) (l9 (lat a1 1) fun x=>l9 (lat a1 0) fun x_1=>l7 (ieq x_1.1 1) (l9 (lat a1 1) fun(x_2:
 o9)=>l9 (lat a1 2) fun x_3=>l7 (D6 (aK (ieq x_2.1 x_3.1) (ieq x_2.2 x_3.2))) (some ((0,0),8)) (some (x,0)))
 (l7 (D6 false) (some ((0,0),8)) (some (x,0))))))))) fun r=>some r
def d1D:FSpec:=mkS b1I b5s fun x=>pg x.1 x.2.1 x.2.2
def b1q:List MG:=[(false,(.dat y12)),(true,(.dat y51))]
def b4Z:Ret:=⟨[(.cell 4 54,(true,(.dat y2))),(.tmp 5,uiM),(.tmp 6,uiM)],[]⟩
def d6Q:Env:=⟨67,eqs,tt,gl,[(193,a9n),(219,a6m),(220,d1D)],[],[],[],[]⟩
def c4b:Ann:=.seq lfA (.seq lfA (.seq lfA (.seq lfA (.seq (.seq lfA (.blk (.loopR [(4,7),(10,15),(26,64),(4000256,4000257)] ⟨[(4,(false,(.box (.dat y2)))),(10,(false,(.own y2))),(11,uiM)],[]⟩ 0 ⟨[(4,(false,(.box (.dat y2)))),(10,(false,(.own y2)))],[]⟩ lfA))) lfA))))
def xI (a0:List o9) (a1:H8):Option (o9×o9):=l9 (jB a0) fun x
 =>l7 (D6 (ieq x.2.2 0)) (some ((0,0),x.2)) (l9 (J7 (fun(x:o9×List o9×Int)=>l7 (ilt x.2.2 (o8 a0)) (l9
 (lat a0 x.2.2) fun x_1=>l9 (aJ x_1.1) fun x_2=>l9 (lat a0 x.2.2) fun x_3=>l7 (ja (G5
 .i64 (o8 x.2.1) x_2) (o8 x.2.1) (o8 x.2.1)) (l9 (pg x_3 (gq x.2.1 (toN (G5 .i64 (o8 x.2.1) x_2)) (toN (o8
 x.2.1))) a1) fun x_4=>l7 (D6 (ieq x_4.2 0)) (some (.rt ((0,0),x.2.2,x_4.2))) (l7 (ja 0 (G5 .i64 (o8
 x.2.1) x_2) (o8 x.2.1)) (l9 (X9 (gq x.2.1 (toN 0) (toN (G5 .i64 (o8 x.2.1) x_2))) [x_4.1]) fun x_5=>some
 (.nx (x.1,x_5,x9 .i64 x.2.2 1))) none)) none) (some (.ex (x.1,x.2.1)))) ((0,0),[],0)) fun o=>J9 o (fun(y:o9×List o9)=>l9 (lat y.2 0) fun x=>l9 (J4 y.2 (toN 0)) fun(x:
 o9)=>some (x,0,0)) fun r=>some r)
def d1o:FSpec:=mkS b1q b4Z fun x=>xI x.1 x.2
def b0Z:List MG:=[(false,(.dat y12)),(true,(.dat y51)),(true,(.dat y2))]
def b4H:Ret:=⟨[(.tmp 6,uiM)],[]⟩
def d6x:Env:=⟨23,eqs,tt,gl,[(188,d1o)],[],[],[],[]⟩
def c3G:Ann:=.leaf
def jC (a0:List o9) (a1:H8) (a2:o9):Option Int:=l9 (xI a0 a1) fun x=>l7 (D6 (ieq x.2.2 0)) (some x.2.2) (l7 (D6 (aK (ieq x.1.1 a2.1) (ieq x.1.2 a2.2))) (some 8) (some 0))
def d0Y:FSpec:=mkS b0Z b4H fun x=>jC x.1 x.2.1 x.2.2
def b0s:List MG:=[(true,(.dat y27)),uiM,uiM]
def b3Z:Ret:=⟨[(.tmp 6,uiM)],[]⟩
def d5P:Env:=⟨144,eqs,tt,gl,[(111,a3h),(157,a6g),(158,d0W),(159,d0X),(160,d0Y)],[],[],[],[]⟩
def c2W:Ann:=.seq lfA (.seq lfA (.seq lfA (.seq lfA (.seq lfA (.seq (.seq lfA (.blk (.loopR [(6,7),(9,11),(27,52)] ⟨[(9,uiM),(10,uiM)],[]⟩ 0 ⟨[(9,uiM)],[]⟩ lfA))) (.seq (.joinR [(6,7),(52,63)] ⟨[],[]⟩ lfA) (.seq (.joinR [(6,7),(63,89)] ⟨[],[]⟩ lfA) (.seq (.joinR [(6,7),(89,112)] ⟨[],[]⟩ lfA) lfA))))))))
def rf (a0:L8) (a1:Int) (a2:Int):Option Int:=l9 (lat a0.2.2 a1) fun x=>l9 (lat x.2.2.2.2 a2) fun(x_1:
 V9)=>l9 (X5 x_1.1) fun x_2=>l7 (D6 x_2) (some 2) (l9 (J7 (fun(x_3:o9)=>l7 (ilt x_3.2 a2)
 (l9 (lat x.2.2.2.2 x_3.2) fun x_4=>l7 (seq x_4.1 x_1.1) (some (.rt 7)) (l9 (lat x.2.2.2.2 x_3.2) fun x=>l7
 (ieq x.2.1 x_1.2.1) (some (.nx (x9 .i64 x_3.1 1,x9 .i64 x_3.2 1))) (some (.nx (x_3.1,x9 .i64 x_3.2 1))))) (some
 (.ex x_3.1))) (0,0)) fun o=>J9 o (fun(y:Int)=>l9 (l7 (ilt x_1.2.1 0) (some (.inr 6)) (l7 (ile (o8 x.2.2.2.1)
 x_1.2.1) (some (.inr 6)) (some (.inl ())))) fun o=>J9 o (fun(x_3:PUnit)=>l9 (l7 (D6 (ieq x_1.2.2.1
 (-1))) (l7 (ilt x_1.2.2.1 0) (some (.inr 9)) (l7 (ile a2 x_1.2.2.1) (some (.inr 9)) (l9 (lat x.2.2.2.2 x_1.2.2.1) fun x=>
 l7 (D6 (ieq x.2.1 x_1.2.1)) (some (.inr 9)) (some (.inl ()))))) (some (.inl ()))) fun o=>J9 o (fun
 (x_4:PUnit)=>l9 (l7 (ilt x_1.2.2.2.1 0) (some (.inr 3)) (l7 (ilt 9 x_1.2.2.2.1) (some (.inr 3)) (l9 (oC x_1.2.2.2.2.1)
 fun x=>l7 (D6 x) (some (.inr 3)) (l7 (ieq x_1.2.2.2.2.1.1 x_1.2.2.2.2.1.2) (some (.inr 3)) (some (.inl ()))))))
 fun o=>J9 o (fun(x_5:PUnit)=>l7 (ile 8 y) (some 4) (l9 (qZ x_1.2.2.2.2.2.2.2) fun x_6=>l7
 (D6 x_6) (some 2) (l9 (qX a0 a1) fun x_7=>l7 (ilt 0 (o8 x_1.2.2.2.2.2.1)) (l9 (jC
 x_1.2.2.2.2.2.1 x_7 (1,0)) fun x_8=>l7 (D6 (ieq x_8 0)) (some x_8) (l9 (lat x.2.2.2.1 x_1.2.1) fun x=>l9
 (jC x_1.2.2.2.2.2.2.1 x_7 x.2) fun x=>some x)) (l9 (lat x.2.2.2.1 x_1.2.1) fun x=>l9 (jC
 x_1.2.2.2.2.2.2.1 x_7 x.2) fun x=>some x)))) fun r=>some r) fun r=>some r) fun r=>some r) fun r=>
 some r)
def d0B:FSpec:=mkS b0s b3Z fun x=>rf x.1 x.2.1 x.2.2
def b0w:List MG:=[(true,(.dat y24)),uiM]
def b4d:Ret:=⟨[(.tmp 4,ubM)],[]⟩
def d5T:Env:=⟨14,eqs,tt,gl,[],[],[],[],[]⟩
def c3a:Ann:=.leaf
def wP (a0:D8) (a1:Int):Option Bool:=l7 (ile 0 a1) (some (ilt a1 (o8 a0.2.2.2.1))) (some false)
def b9m:FSpec:=mkS b0w b4d fun x=>wP x.1 x.2
def b1a:List MG:=[(false,(.dat y33)),uiM]
def b4I:Ret:=⟨[(.tmp 4,uoM)],[]⟩
def d6y:Env:=⟨48,eqs,tt,gl,[],[],[],[],[]⟩
def c3H:Ann:=.seq lfA (.seq lfA (.seq lfA (.seq (.seq lfA (.blk (.loop [(5,41)] ⟨[(5,uoM),(6,ubM),(7,uiM)],[]⟩ 0 ⟨[(5,uoM),(6,ubM)],[]⟩ lfA))) lfA)))
def iG (a0:List Int) (a1:Int):Option (List Int):=l9 (P5 (fun(x:List Int×Bool×Int)=>l7 (ilt x.2.2 (o8 a0)) (l7
 (D6 x.2.1) (l9 (lat a0 x.2.2) fun x_1=>l7 (ile a1 x_1) (l9 (lat a0 x.2.2) fun x_2=>l7 (ilt a1 x_2) (l9 (X9 x.1
 [a1]) fun x_3=>l9 (lat a0 x.2.2) fun x_4=>l9 (X9 x_3 [x_4]) fun x_5=>some (.inl (x_5,true,x9
 .i64 x.2.2 1))) (l9 (lat a0 x.2.2) fun x_3=>l9 (X9 x.1 [x_3]) fun x_4=>some (.inl (x_4,true,x9
 .i64 x.2.2 1)))) (l9 (lat a0 x.2.2) fun x_2=>l9 (X9 x.1 [x_2]) fun x_3=>some (.inl (x_3,x.2.1,x9
 .i64 x.2.2 1)))) (l9 (lat a0 x.2.2) fun x_1=>l9 (X9 x.1 [x_1]) fun x_2=>some (.inl (x_2,x.2.1,x9
 .i64 x.2.2 1)))) (some (.inr (x.1,x.2.1)))) ([],false,0)) fun y=>l7 (D6 y.2) (l9 (X9 y.1 [a1]) fun(x:
 List Int)=>some x) (some y.1)
def d0Z:FSpec:=mkS b1a b4I fun x=>iG x.1 x.2
def b0y:List MG:=[(false,(.dat y12))]
def b4f:Ret:=⟨[(.tmp 2,uoM),(.tmp 3,uoM),(.tmp 4,uoM)],[]⟩
def d5V:Env:=⟨55,eqs,tt,gl,[(161,d0Z)],[],[],[],[]⟩
def c3c:Ann:=.seq lfA (.seq lfA (.seq (.seq lfA (.blk (.loop [(5,52)] ⟨[(5,uoM),(6,uoM),(7,uoM),(8,uiM)],[]⟩ 0 ⟨[(5,uoM),(6,uoM),(7,uoM)],[]⟩ lfA))) lfA))
def fF (a0:List o9):Option X3:=l9 (P5 (fun(x:List Int×List Int×List Int×Int)=>l7 (ilt
 x.2.2.2 (o8 a0)) (l9 (lat a0 x.2.2.2) fun x_1=>l7 (ieq x_1.1 7) (l9 (lat a0 x.2.2.2) fun x_2=>l9
 (iG x.1 x_2.2) fun x_3=>l7 (ieq x_1.1 8) (l9 (lat a0 x.2.2.2) fun x_4=>l9 (iG x.2.1
 x_4.2) fun x_5=>l7 (ile 36 x_1.1) (l7 (ile x_1.1 39) (l9 (lat a0 x.2.2.2) fun x_6=>l9 (iG
 x.2.2.1 x_6.2) fun x_7=>some (.inl (x_3,x_5,x_7,x9 .i64 x.2.2.2 1))) (some (.inl (x_3,x_5,x.2.2.1,x9
 .i64 x.2.2.2 1)))) (some (.inl (x_3,x_5,x.2.2.1,x9 .i64 x.2.2.2 1)))) (l7 (ile 36 x_1.1) (l7 (ile x_1.1 39) (l9 (lat
 a0 x.2.2.2) fun x_4=>l9 (iG x.2.2.1 x_4.2) fun x_5=>some (.inl (x_3,x.2.1,x_5,x9 .i64
 x.2.2.2 1))) (some (.inl (x_3,x.2.1,x.2.2.1,x9 .i64 x.2.2.2 1)))) (some (.inl (x_3,x.2.1,x.2.2.1,x9 .i64 x.2.2.2 1)))))
 (l7 (ieq x_1.1 8) (l9 (lat a0 x.2.2.2) fun x_2=>l9 (iG x.2.1 x_2.2) fun x_3=>l7 (ile 36 x_1.1)
 (l7 (ile x_1.1 39) (l9 (lat a0 x.2.2.2) fun x_4=>l9 (iG x.2.2.1 x_4.2) fun x_5=>some (.inl (x.1,
 x_3,x_5,x9 .i64 x.2.2.2 1))) (some (.inl (x.1,x_3,x.2.2.1,x9 .i64 x.2.2.2 1)))) (some (.inl (x.1,x_3,x.2.2.1,x9
 .i64 x.2.2.2 1)))) (l7 (ile 36 x_1.1) (l7 (ile x_1.1 39) (l9 (lat a0 x.2.2.2) fun x_2=>l9 (iG x.2.2.1
 x_2.2) fun x_3=>some (.inl (x.1,x.2.1,x_3,x9 .i64 x.2.2.2 1))) (some (.inl (x.1,x.2.1,x.2.2.1,x9 .i64
 x.2.2.2 1)))) (some (.inl (x.1,x.2.1,x.2.2.1,x9 .i64 x.2.2.2 1)))))) (some (.inr (x.1,x.2.1,x.2.2.1)))) ([],[],[],0)) fun(y:
 X3)=>some y
def b9n:FSpec:=mkS b0y b4f fun x=>fF x
def b0v:List MG:=[(false,(.dat y33)),uiM]
def b4c:Ret:=⟨[(.tmp 4,uoM)],[]⟩
def d5S:Env:=⟨48,eqs,tt,gl,[],[],[],[],[]⟩
def c2Z:Ann:=.seq lfA (.seq lfA (.seq lfA (.seq (.seq lfA (.blk (.loop [(5,41)] ⟨[(5,uoM),(6,ubM),(7,uiM)],[]⟩ 0 ⟨[(5,uoM),(6,ubM)],[]⟩ lfA))) lfA)))
def dB (a0:List Int) (a1:Int):Option (List Int):=l9 (P5 (fun(x:List Int×Bool×Int)=>l7 (ilt x.2.2 (o8 a0)) (l7
 (D6 x.2.1) (l9 (lat a0 x.2.2) fun x_1=>l7 (ile a1 x_1) (l9 (lat a0 x.2.2) fun x_2=>l7 (ilt a1 x_2) (l9 (X9 x.1
 [a1]) fun x_3=>l9 (lat a0 x.2.2) fun x_4=>l9 (X9 x_3 [x_4]) fun x_5=>some (.inl (x_5,true,x9
 .i64 x.2.2 1))) (l9 (lat a0 x.2.2) fun x_3=>l9 (X9 x.1 [x_3]) fun x_4=>some (.inl (x_4,true,x9
 .i64 x.2.2 1)))) (l9 (lat a0 x.2.2) fun x_2=>l9 (X9 x.1 [x_2]) fun x_3=>some (.inl (x_3,x.2.1,x9
 .i64 x.2.2 1)))) (l9 (lat a0 x.2.2) fun x_1=>l9 (X9 x.1 [x_1]) fun x_2=>some (.inl (x_2,x.2.1,x9
 .i64 x.2.2 1)))) (some (.inr (x.1,x.2.1)))) ([],false,0)) fun y=>l7 (D6 y.2) (l9 (X9 y.1 [a1]) fun(x:
 List Int)=>some x) (some y.1)
def a9j:FSpec:=mkS b0v b4c fun x=>dB x.1 x.2
def b0u:List MG:=[(true,(.dat y24)),uiM]
def b4b:Ret:=⟨[(.tmp 4,uoM)],[]⟩
def d5R:Env:=⟨93,eqs,tt,gl,[(119,b9m),(121,b9n),(118,a9j)],[],[],[],[]⟩
def c2Y:Ann:=.seq lfA (.seq lfA (.seq lfA (.seq (.seq lfA (.blk (.loop [(5,15),(19,92)] ⟨[(5,uoM),(6,uiM)],[]⟩ 0 ⟨[(5,uoM)],[]⟩ (.seq lfA (.seq (.blk (.seq lfA (.seq lfA (.seq lfA (.seq (.seq lfA (.blk (.loop [(5,6),(13,14),(56,74),(24000000,24000001)] ⟨[(5,uoM),(13,uiM)],[]⟩ 2 ⟨[(5,uoM)],[]⟩ lfA))) (.seq lfA (.blk (.loop [(5,6),(14,15),(74,92),(55000000,55000001)] ⟨[(5,uoM),(14,uiM)],[]⟩ 4 ⟨[(5,uoM)],[]⟩ lfA)))))))) lfA))))) lfA)))
def pI (a0:D8) (a1:Int):Option (List Int):=l9 (wP a0 a1) fun x=>l7 (D6 x) (some []) (l9 (P5 (fun
 (x:List Int×Int)=>l7 (ilt x.2 (o8 a0.2.2.2.2)) (l9 (lat a0.2.2.2.2 x.2) fun x_1=>l7 (D6 (ieq x_1.2.1 a1)) (some
 (.inl (x.1,x9 .i64 x.2 1))) (l9 (lat a0.2.2.2.2 x.2) fun x_2=>l9 (fF x_2.2.2.2.2.2.1) fun(x_3:
 X3)=>l9 (lat a0.2.2.2.2 x.2) fun x_4=>l9 (fF x_4.2.2.2.2.2.2.1) fun x_5=>l9
 (P5 (fun(x:List Int×Int)=>l7 (ilt x.2 (o8 x_3.2.1)) (l9 (lat x_3.2.1 x.2) fun x_6=>l9 (J4 x_3.2.1 (toN x.2)) fun
 (x_7:Int)=>l9 (wP a0 x_7) fun x_8=>l7 x_8 (l9 (lat x_3.2.1 x.2) fun x_9=>l9 (J4 x_3.2.1 (toN x.2)) fun
 (x_10:Int)=>l9 (dB x.1 x_10) fun x_11=>some (.inl (x_11,x9 .i64 x.2 1))) (some (.inl (x.1,x9
 .i64 x.2 1)))) (some (.inr x.1))) (x.1,0)) fun y=>l9 (P5 (fun(x:List Int×Int)=>l7 (ilt x.2 (o8 x_5.2.1))
 (l9 (lat x_5.2.1 x.2) fun x_6=>l9 (J4 x_5.2.1 (toN x.2)) fun x_7=>l9 (wP a0 x_7) fun x_8=>l7 x_8
 (l9 (lat x_5.2.1 x.2) fun x_9=>l9 (J4 x_5.2.1 (toN x.2)) fun x_10=>l9 (dB x.1 x_10) fun x_11=>
 some (.inl (x_11,x9 .i64 x.2 1))) (some (.inl (x.1,x9 .i64 x.2 1)))) (some (.inr x.1))) (y,0)) fun y=>
 some (.inl (y,x9 .i64 x.2 1)))) (some (.inr x.1))) ([],0)) fun y=>some y)
def b9l:FSpec:=mkS b0u b4b fun x=>pI x.1 x.2
def c8t:List MG:=[(true,(.dat y24)),uiM]
def d0d:Ret:=⟨[(.tmp 4,(false,(.dat y33)))],[]⟩
def e76:Env:=⟨47,eqs,tt,gl,[(117,b9l),(118,a9j)],[],[],[],[]⟩
def d5k:Ann:=.seq lfA (.seq lfA (.seq (.seq lfA (.blk (.loop [(5,11),(14,46),(7000832,7000833)] ⟨[(5,(false,(.dat y33))),(6,uiM)],[]⟩ 0 ⟨[(5,(false,(.dat y33)))],[]⟩ (.seq lfA (.seq (.blk (.seq lfA (.seq lfA (.blk (.loop [(5,6),(8,11),(22,46)] ⟨[(5,(false,(.dat y33))),(8,uiM)],[]⟩ 2 ⟨[(5,(false,(.dat y33)))],[]⟩ (.seq lfA (.seq (.blk (.seq lfA (.seq lfA (.blk (.loop [(5,6),(10,11),(34,46)] ⟨[(5,(false,(.dat y33))),(10,uiM)],[]⟩ 4 ⟨[(5,(false,(.dat y33)))],[]⟩ lfA))))) lfA))))))) lfA))))) lfA))
def iM (a0:D8) (a1:Int):Option (List Int):=l9 (pI a0 a1) fun x=>l9 (P5 (fun(x:List Int
 ×Int)=>l7 (ilt x.2 (o8 a0.2.2.2.1)) (l9 (P5 (fun(x_1:List Int×Int)=>l7 (ilt x_1.2 (o8 x.1)) (l9 (lat x.1 x_1.2) fun(x:
 Int)=>l9 (pI a0 x) fun x=>l9 (P5 (fun(x_2:List Int×Int)=>l7 (ilt x_2.2 (o8 x)) (l9 (lat x x_2.2)
 fun x_3=>l9 (J4 x (toN x_2.2)) fun x=>l9 (dB x_2.1 x) fun x=>some (.inl (x,x9 .i64
 x_2.2 1))) (some (.inr x_2.1))) (x_1.1,0)) fun y=>some (.inl (y,x9 .i64 x_1.2 1))) (some (.inr x_1.1))) (x.1,0))
 fun y=>some (.inl (y,x9 .i64 x.2 1))) (some (.inr x.1))) (x,0)) fun y=>some y
def s76:FSpec:=mkS c8t d0d fun x=>iM x.1 x.2
def c8q:List MG:=[(true,(.dat y27)),uiM]
def d0a:Ret:=⟨[(.cell 4 82,(true,(.dat y32)))],[]⟩
def e73:Env:=⟨125,eqs,tt,gl,[(111,a3h),(112,a9i),(114,d0A),(115,d0B),(76,s76)],[],[],[],[]⟩
def d5h:Ann:=.seq lfA (.seq lfA (.seq lfA (.seq lfA (.seq lfA (.seq (.joinR [(4,5),(6,7),(33,59),(4000256,4000257),(10000384,10000385)] ⟨[(4,(false,(.box (.dat y32)))),(6,(false,(.box (.dat y32))))],[]⟩ lfA) (.seq lfA (.seq lfA (.seq lfA (.seq lfA (.seq (.seq lfA (.blk (.loopR [(4,5),(8,10),(80,98),(38000000,38000001)] ⟨[(4,(false,(.box (.dat y32)))),(8,uiM)],[]⟩ 0 ⟨[(4,(false,(.box (.dat y32))))],[]⟩ lfA))) (.seq (.seq lfA (.blk (.loopR [(4,5),(10,13),(98,124),(102000000,102000001)] ⟨[(4,(false,(.box (.dat y32)))),(10,uiM)],[]⟩ 2 ⟨[(4,(false,(.box (.dat y32))))],[]⟩ (.seq lfA (.seq (.blk (.seq lfA (.seq lfA (.blk (.loopR [(4,5),(12,13),(108,124),(132000000,132000001)] ⟨[(4,(false,(.box (.dat y32)))),(12,uiM)],[]⟩ 4 ⟨[(4,(false,(.box (.dat y32))))],[]⟩ lfA))))) lfA))))) lfA)))))))))))
def pO (a0:L8) (a1:Int):Option A7:=l9 (lat a0.2.2 a1) fun x=>l9 (X5 x.1)
 fun x_1=>l7 (D6 x_1) (some (2,3,a1,0)) (l9 (aY a0 3 a1 x.1) fun x_2=>l7 x_2 (some (7,3,a1,0))
 (l9 (l7 (D6 (ieq x.2.1 (-1))) (l7 (ilt x.2.1 0) (some (.inr (6,3,a1,0))) (l7 (ile a1 x.2.1) (some (.inr (6,3,a1,0))) (l9
 (lat a0.2.2 x.2.1) fun x=>l7 (D6 (ieq x.2.1 (-1))) (some (.inr (6,3,a1,0))) (some (.inl ((0,0,0,0),0,3,a1,0))))))
 (some (.inl ((0,0,0,0),0,3,a1,0)))) fun o=>J9 o (fun(x_3:
 A7×A7)=>l7 (ilt 12 (o8 x.2.2.1)) (some (4,x_3.2.2.1,x_3.2.2.2.1,112)) (l7 (ilt 12 (o8 x.2.2.2.1))
 (some (4,x_3.2.2.1,x_3.2.2.2.1,212)) (l9 (pK a0 a1) fun x_4=>l7 (D6 (ieq x_4.1 0)) (some x_4)
 (l9 (J7 (fun(x_5:A7×Int)=>l7 (ilt x_5.2 (o8 x.2.2.2.2)) (l9 (rf a0 a1 x_5.2) fun x=>
 l7 (D6 (ieq x 0)) (some (.rt (x,3,a1,x9 .i64 300 x_5.2))) (some (.nx (x_5.1,x9 .i64 x_5.2 1)))) (some (.ex
 x_5.1))) (x_3.1,0)) fun o=>J9 o (fun(y:A7)=>l9 (J7 (fun(x_5:
 A7×Int)=>l7 (ilt x_5.2 (o8 x.2.2.2.1)) (l9 (iM x x_5.2) fun x=>l9 (J7 (fun(x_6:
 A7×Int)=>l7 (ilt x_6.2 (o8 x)) (l9 (lat x x_6.2) fun x=>l7 (ieq x x_5.2) (some (.rt (9,3,a1,x9
 .i64 200 x_5.2))) (some (.nx (x_6.1,x9 .i64 x_6.2 1)))) (some (.ex x_6.1))) (x_5.1,0)) fun o=>J9 o (fun(y:A7)=>some (.nx (y,x9 .i64 x_5.2 1))) fun r=>some
 (.rt r)) (some (.ex x_5.1))) (y,0)) fun o=>J9 o (fun(y:A7)=>some (0,
 0,0,0)) fun r=>some r) fun r=>some r)))) fun r=>some r))
def s73:FSpec:=mkS c8q d0a fun x=>pO x.1 x.2
def c7T:List MG:=[(true,(.dat y27))]
def c9D:Ret:=⟨[(.cell 2 82,(true,(.dat y32)))],[]⟩
def e50:Env:=⟨67,eqs,tt,gl,[(71,s71),(72,s72),(73,s73)],[],[],[],[]⟩
def d4K:Ann:=.seq lfA (.seq lfA (.seq (.seq lfA (.blk (.loopR [(2,5),(14,28),(4000128,4000129)] ⟨[(2,(false,(.box (.dat y32)))),(3,uiM)],[]⟩ 0 ⟨[(2,(false,(.box (.dat y32))))],[]⟩ lfA))) (.seq lfA (.seq (.seq lfA (.blk (.loopR [(2,3),(5,7),(33,47),(22000000,22000001)] ⟨[(2,(false,(.box (.dat y32)))),(5,uiM)],[]⟩ 2 ⟨[(2,(false,(.box (.dat y32))))],[]⟩ lfA))) (.seq lfA (.seq (.seq lfA (.blk (.loopR [(2,3),(7,9),(52,66),(63000000,63000001)] ⟨[(2,(false,(.box (.dat y32)))),(7,uiM)],[]⟩ 4 ⟨[(2,(false,(.box (.dat y32))))],[]⟩ lfA))) lfA))))))
def uD (a0:L8):Option A7:=l7 (ilt 8 (o8 a0.1)) (some (4,1,8,0)) (l9 (J7 (fun(x:
 A7×Int)=>l7 (ilt x.2 (o8 a0.1)) (l9 (qY a0 x.2) fun x_1=>l7 (D6 (ieq x_1.1
 0)) (some (.rt x_1)) (some (.nx (x.1,x9 .i64 x.2 1)))) (some (.ex x.1))) ((0,0,0,0),0)) fun o=>J9 o (fun(y:A7)=>l7 (ilt 8 (o8 a0.2.1)) (some (4,2,8,0)) (l9 (J7 (fun(x:
 A7×Int)=>l7 (ilt x.2 (o8 a0.2.1)) (l9 (pR a0 x.2) fun x_1=>l7 (D6 (ieq
 x_1.1 0)) (some (.rt x_1)) (some (.nx (x.1,x9 .i64 x.2 1)))) (some (.ex x.1))) (y,0)) fun o=>J9 o (fun(y:A7)=>l7 (ilt 4 (o8 a0.2.2)) (some (4,3,4,0)) (l9 (J7 (fun(x:
 A7×Int)=>l7 (ilt x.2 (o8 a0.2.2)) (l9 (pO a0 x.2) fun x_1=>l7 (D6 (ieq
 x_1.1 0)) (some (.rt x_1)) (some (.nx (x.1,x9 .i64 x.2 1)))) (some (.ex x.1))) (y,0)) fun o=>J9 o (fun(y:A7)=>some (0,0,0,0)) fun r=>some r)) fun(r:
 A7)=>some r)) fun r=>some r)
def s50:FSpec:=mkS c7T c9D fun x=>uD x
def c7C:List MG:=[(true,(.dat y27))]
def c9m:Ret:=⟨[(.tmp 2,ubM)],[]⟩
def e32:Env:=⟨7,eqs,tt,gl,[(50,s50)],[],[],[],[]⟩
def d4t:Ann:=.leaf
def AB (a0:L8):Option Bool:=l9 (uD a0) fun x=>some (ieq x.1 0)
def s32:FSpec:=mkS c7C c9m fun x=>AB x
def c7t:List MG:=[(true,(.dat y27)),uiM,uiM,uiM]
def c9d:Ret:=⟨[(.tmp 8,uiM)],[]⟩
def e23:Env:=⟨67,eqs,tt,gl,[(32,s32)],[],[],[],[]⟩
def d4k:Ann:=.seq lfA (.seq lfA (.seq (.joinR [(8,9),(14,23)] ⟨[],[]⟩ lfA) (.seq lfA (.seq (.joinR [(8,9),(28,48)] ⟨[],[]⟩ lfA) lfA))))
def lq (a0:L8) (a1:Int) (a2:Int) (a3:Int):Option Int:=l9 (AB a0) fun x=>l7 (D6 x) (some 1)
 (l9 (l7 (ilt a1 0) (some (.inr 6)) (l7 (ile (o8 a0.2.2) a1) (some (.inr 6)) (some (.inl ())))) fun o=>
 J9 o (fun(x:PUnit)=>l9 (lat a0.2.2 a1) fun x=>l9 (l7 (ilt a2 0) (some (.inr 6)) (l7 (ile (o8 x.2.2.2.1) a2)
 (some (.inr 6)) (l7 (ilt a3 0) (some (.inr 6)) (l7 (ile (o8 x.2.2.1) a3) (some (.inr 6)) (some (.inl ())))))) fun(o:
 PUnit⊕Int)=>J9 o (fun(x_1:PUnit)=>l9 (lat x.2.2.2.1 a2) fun x_2=>l7 (D6 (aK (ieq x_2.2.1 3) (ieq x_2.2.2 0))) (some
 8) (l9 (lat x.2.2.1 a3) fun x=>l7 (D6 (aK (ieq x.2.1 3) (ieq x.2.2 0))) (some 8) (some 0))) fun r=>some r) fun(r:
 Int)=>some r)
def s23:FSpec:=mkS c7t c9d fun x=>lq x.1 x.2.1 x.2.2.1 x.2.2.2
def c8r:List MG:=[(true,(.dat y3))]
def d0b:Ret:=⟨[(.cell 2 54,(true,(.dat y2)))],[]⟩
def e74:Env:=⟨8,eqs,tt,gl,[],[],[],[],[]⟩
def d5i:Ann:=.leaf
def Hu (a0:F7):Option o9:=some (a0.1,a0.2.1)
def s74:FSpec:=mkS c8r d0b fun x=>Hu x
def c7U:List MG:=[(true,(.dat y27)),(false,(.dat y11)),(false,(.dat y28))]
def c9E:Ret:=⟨[(.tmp 6,uiM),(.tmp 7,uiM)],[]⟩
def e51:Env:=⟨56,eqs,tt,gl,[(74,s74),(75,s75)],[],[],[],[]⟩
def d4L:Ann:=.seq lfA (.seq lfA (.seq lfA (.seq (.seq lfA (.blk (.loopR [(6,9),(23,56)] ⟨[(8,uiM)],[]⟩ 0 ⟨[],[]⟩ lfA))) lfA)))
def pU (a0:L8) (a1:List bg) (a2:List F7):Option o9:=l7 (ilt (o8 a2) (o8 a1)) (some (o8 a2,5)) (l7
 (ilt (o8 a1) (o8 a2)) (some (o8 a1,4)) (l9 (J7 (fun(x:Int)=>l7 (ilt x (o8 a2)) (l9 (lat a2 x) fun x_1=>l9
 (Hu x_1) fun x_2=>l9 (lat a1 x) fun x_3=>l7 (D6 (aK (ieq x_2.1 x_3.2.1) (ieq x_2.2 x_3.2.2))) (some
 (.rt (x,8))) (l9 (lat a2 x) fun x_4=>l9 (lat a1 x) fun x_5=>l9 (yR x_4.2.2 x_5.2 a0.1) fun x_6
 =>l7 (D6 x_6) (some (.rt (x,3))) (some (.nx (x9 .i64 x 1))))) (some (.ex ()))) 0) fun o=>
 J9 o (fun(y:PUnit)=>some (0,0)) fun r=>some r))
def s51:FSpec:=mkS c7U c9E fun x=>pU x.1 x.2.1 x.2.2
def c7V:List MG:=[(true,(.dat y27)),uiM]
def c9F:Ret:=⟨[(.tmp 4,uiM),(.tmp 5,uiM)],[]⟩
def e52:Env:=⟨23,eqs,tt,gl,[],[],[],[],[]⟩
def d4M:Ann:=.leaf
def wC (a0:L8) (a1:Int):Option o9:=l9 (lat a0.2.2 a1) fun x=>l7 (ilt x.2.1 0) (some (-1,0)) (l7
 (ile (o8 a0.2.2) x.2.1) (some (-1,0)) (some (x.2.1,8)))
def s52:FSpec:=mkS c7V c9F fun x=>wC x.1 x.2
def c7D:List MG:=[(true,(.dat y27)),uiM,(true,(.dat y31))]
def c9n:Ret:=⟨[(.tmp 6,uiM),(.tmp 7,uiM),(.tmp 8,uiM)],[]⟩
def e33:Env:=⟨90,eqs,tt,gl,[(51,s51),(52,s52)],[],[],[],[]⟩
def d4u:Ann:=.seq lfA (.seq (.joinR [(6,9),(16,25)] ⟨[],[]⟩ lfA) (.seq (.joinR [(6,9),(25,33)] ⟨[],[]⟩ lfA) (.seq lfA (.seq lfA (.seq lfA (.seq lfA (.seq (.seq lfA (.blk (.loopR [(6,9),(13,16),(62,90)] ⟨[(13,uiM)],[]⟩ 0 ⟨[],[]⟩ lfA))) lfA)))))))
def lh (a0:L8) (a1:Int) (a2:U0):Option F7:=l9 (l7 (ilt a1 0) (some (.inr (-1,-1,6))) (l7 (ile (o8
 a0.2.2) a1) (some (.inr (-1,-1,6))) (some (.inl ())))) fun o=>J9 o (fun(x:PUnit)=>l9 (l7 (ilt a2.1
 0) (some (.inr (-1,-1,3))) (l7 (ilt 109572 a2.1) (some (.inr (-1,-1,3))) (some (.inl ())))) fun o=>J9
 o (fun(x:PUnit)=>l9 (lat a0.2.2 a1) fun x=>l9 (pU a0 x.2.2.1 a2.2.1) fun x=>l7 (D6 (ieq x.2
 0)) (some (-1,x)) (l9 (wC a0 a1) fun x=>l7 (ilt x.2 (o8 a2.2.2)) (some (x.2,-1,4)) (l9 (J7 (fun(x_1:
 Int)=>l7 (ilt x_1 (o8 a2.2.2)) (l9 (lat a0.2.2 x.1) fun x=>l9 (lat a2.2.2 x_1) fun x_2=>l9
 (pU a0 x.2.2.1 x_2) fun x=>l7 (D6 (ieq x.2 0)) (some (.rt (x_1,x))) (some (.nx (x9 .i64 x_1 1))))
 (some (.ex ()))) 0) fun o=>J9 o (fun(y:PUnit)=>some (0,0,0)) fun r=>some r))) fun r
 =>some r) fun r=>some r
def s33:FSpec:=mkS c7D c9n fun x=>lh x.1 x.2.1 x.2.2
def c7W:List MG:=[(true,(.dat y24)),(false,(.ownb .bool)),uiM]
def c9G:Ret:=⟨[],[(1,(false,(.own .bool)))]⟩
def e53:Env:=⟨26,eqs,tt,gl,[(76,s76)],[],[],[],[1]⟩
def d4N:Ann:=.seq lfA (.seq lfA (.seq lfA (.seq lfA (.blk (.loop [(1,2),(7,8),(14,26),(1000000,1000001)] ⟨[(1,(false,(.own .bool))),(7,uiM)],[]⟩ 0 ⟨[(1,(false,(.own .bool)))],[]⟩ lfA)))))
def qF (a0:D8) (a1:List Bool) (a2:Int):Option (List Bool):=l9 (lat a1 a2) fun x=>l9 (J4 a1 (toN a2)) fun
 (x:Bool)=>l9 (iM a0 a2) fun x=>l9 (P5 (fun(x_1:List Bool×Int)=>l7 (ilt x_1.2 (o8 x)) (l9
 (lat x x_1.2) fun x=>l9 (lat x_1.1 x) fun x_2=>l9 (J4 x_1.1 (toN x)) fun x_3=>some (.inl (P6 x_1.1 (toN
 x) true,x9 .i64 x_1.2 1))) (some (.inr x_1.1))) (P6 a1 (toN a2) true,0)) fun y=>some y
def s53:FSpec:=mkS c7W c9G fun x=>qF x.1 x.2.1 x.2.2
def c7X:List MG:=[(true,(.dat y27)),uiM]
def c9H:Ret:=⟨[(.cell 4 61,(true,(.dat y24)))],[]⟩
def e54:Env:=⟨27,eqs,tt,gl,[],[],[],[],[]⟩
def d4O:Ann:=.leaf
def dX (a0:L8) (a1:Int):Option D8:=l9 (lat a0.2.2 a1) fun x=>l7 (ilt x.2.1 0) (some ([],0,[],[],
 [])) (l7 (ile (o8 a0.2.2) x.2.1) (some ([],0,[],[],[])) (l9 (lat a0.2.2 x.2.1) fun x=>some x))
def s54:FSpec:=mkS c7X c9H fun x=>dX x.1 x.2
def b0x:List MG:=[(false,(.dat y33)),uiM]
def b4e:Ret:=⟨[(.tmp 4,ubM)],[]⟩
def d5U:Env:=⟨18,eqs,tt,gl,[],[],[],[],[]⟩
def c3b:Ann:=.seq lfA (.seq (.seq lfA (.blk (.loopR [(4,18)] ⟨[(5,uiM)],[]⟩ 0 ⟨[],[]⟩ lfA))) lfA)
def sK (a0:List Int) (a1:Int):Option Bool:=l9 (J7 (fun(x:Int)=>l7 (ilt x (o8 a0)) (l9 (lat a0 x) fun x_1=>
 l7 (ieq x_1 a1) (some (.rt true)) (some (.nx (x9 .i64 x 1)))) (some (.ex ()))) 0) fun o=>J9 o (fun
 (y:PUnit)=>some false) fun r=>some r
def a9k:FSpec:=mkS b0x b4e fun x=>sK x.1 x.2
def c8u:List MG:=[(true,(.dat y24)),uiM]
def d0e:Ret:=⟨[(.tmp 4,uoM)],[]⟩
def e77:Env:=⟨88,eqs,tt,gl,[(119,b9m),(76,s76),(118,a9j),(120,a9k),(121,b9n)],[],[],[],[]⟩
def d5l:Ann:=.seq lfA (.seq lfA (.seq lfA (.seq lfA (.seq (.seq lfA (.blk (.loop [(6,16),(25,87)] ⟨[(6,uoM),(7,uiM)],[]⟩ 0 ⟨[(6,uoM)],[]⟩ (.seq lfA (.seq (.blk (.seq lfA (.seq lfA (.seq lfA (.seq (.seq lfA (.blk (.loop [(6,7),(14,15),(63,75),(27000000,27000001)] ⟨[(6,uoM),(14,uiM)],[]⟩ 2 ⟨[(6,uoM)],[]⟩ lfA))) (.seq lfA (.blk (.loop [(6,7),(15,16),(75,87),(58000000,58000001)] ⟨[(6,uoM),(15,uiM)],[]⟩ 4 ⟨[(6,uoM)],[]⟩ lfA)))))))) lfA))))) lfA))))
def pJ (a0:D8) (a1:Int):Option (List Int):=l9 (wP a0 a1) fun x=>l7 (D6 x) (some []) (l9
 (iM a0 a1) fun x=>l9 (dB x a1) fun x=>l9 (P5 (fun(x_1:List Int×Int)=>l7 (ilt
 x_1.2 (o8 a0.2.2.2.2)) (l9 (lat a0.2.2.2.2 x_1.2) fun x_2=>l9 (sK x x_2.2.1) fun x=>l7 (D6 x) (some
 (.inl (x_1.1,x9 .i64 x_1.2 1))) (l9 (lat a0.2.2.2.2 x_1.2) fun x=>l9 (fF x.2.2.2.2.2.1) fun(x:
 X3)=>l9 (lat a0.2.2.2.2 x_1.2) fun x_3=>l9 (fF x_3.2.2.2.2.2.2.1) fun x_4=>l9
 (P5 (fun(x_5:List Int×Int)=>l7 (ilt x_5.2 (o8 x.2.2)) (l9 (lat x.2.2 x_5.2) fun x_6=>l9 (J4 x.2.2 (toN x_5.2)) fun
 (x:Int)=>l9 (dB x_5.1 x) fun x=>some (.inl (x,x9 .i64 x_5.2 1))) (some (.inr x_5.1))) (x_1.1,0)) fun
 (y:List Int)=>l9 (P5 (fun(x:List Int×Int)=>l7 (ilt x.2 (o8 x_4.2.2)) (l9 (lat x_4.2.2 x.2) fun x_5=>l9 (J4
 x_4.2.2 (toN x.2)) fun x_6=>l9 (dB x.1 x_6) fun x_7=>some (.inl (x_7,x9 .i64 x.2 1))) (some
 (.inr x.1))) (y,0)) fun y=>some (.inl (y,x9 .i64 x_1.2 1)))) (some (.inr x_1.1))) ([],0)) fun y=>
 some y)
def s77:FSpec:=mkS c8u d0e fun x=>pJ x.1 x.2
def c7Y:List MG:=[(true,(.dat y27)),uiM,(false,(.ownb .bool)),uiM]
def c9I:Ret:=⟨[],[(2,(false,(.own .bool)))]⟩
def e55:Env:=⟨32,eqs,tt,gl,[(77,s77),(54,s54),(53,s53)],[],[],[],[2]⟩
def d4P:Ann:=.seq lfA (.seq lfA (.seq lfA (.blk (.loop [(2,3),(9,10),(17,32),(1000000,1000001)] ⟨[(2,(false,(.own .bool))),(9,uiM)],[]⟩ 0 ⟨[(2,(false,(.own .bool)))],[]⟩ lfA))))
def jP (a0:L8) (a1:Int) (a2:List Bool) (a3:Int):Option (List Bool):=l9 (lat a0.2.2 a1) fun x=>l9
 (pJ x a3) fun x=>l9 (P5 (fun(x_1:List Bool×Int)=>l7 (ilt x_1.2 (o8 x)) (l9 (dX a0
 a1) fun x_2=>l9 (lat x x_1.2) fun x_3=>l9 (J4 x (toN x_1.2)) fun x=>l9 (qF x_2 x_1.1 x) fun(x
 :List Bool)=>some (.inl (x,x9 .i64 x_1.2 1))) (some (.inr x_1.1))) (a2,0)) fun y=>some y
def s55:FSpec:=mkS c7Y c9I fun x=>jP x.1 x.2.1 x.2.2.1 x.2.2.2
def c8v:List MG:=[(true,(.dat y27)),(true,(.dat y31)),uiM]
def d0f:Ret:=⟨[(.cell 6 109,(true,(.dat y42)))],[]⟩
def e78:Env:=⟨17,eqs,tt,gl,[],[],[],[],[]⟩
def d5m:Ann:=.leaf
def wY (a0:L8) (a1:U0) (a2:Int):Option P9:=l9 (lat a1.2.2 a2) fun x=>some (a1.1,x,[],[],[],
 a0.2.1)
def s78:FSpec:=mkS c8v d0f fun x=>wY x.1 x.2.1 x.2.2
def b0z:List MG:=[(true,(.dat y24)),uiM,(false,(.dat y33))]
def b4g:Ret:=⟨[(.tmp 6,ubM)],[]⟩
def d5W:Env:=⟨25,eqs,tt,gl,[(117,b9l),(120,a9k)],[],[],[],[]⟩
def c3d:Ann:=.seq lfA (.seq lfA (.seq (.seq lfA (.blk (.loopR [(6,7),(8,9),(12,25)] ⟨[(8,uiM)],[]⟩ 0 ⟨[],[]⟩ lfA))) lfA))
def sN (a0:D8) (a1:Int) (a2:List Int):Option Bool:=l9 (pI a0 a1) fun x=>l9 (J7 (fun(x_1:
 Int)=>l7 (ilt x_1 (o8 x)) (l9 (lat x x_1) fun x_2=>l9 (J4 x (toN x_1)) fun x=>l9 (sK a2 x) fun(x:
 Bool)=>l7 (D6 x) (some (.rt false)) (some (.nx (x9 .i64 x_1 1)))) (some (.ex ()))) 0) fun o=>J9
 o (fun(y:PUnit)=>some true) fun r=>some r
def d0C:FSpec:=mkS b0z b4g fun x=>sN x.1 x.2.1 x.2.2
def c8w:List MG:=[(true,(.dat y24))]
def d0g:Ret:=⟨[(.tmp 2,uoM),(.tmp 3,uiM)],[]⟩
def e79:Env:=⟨41,eqs,tt,gl,[(120,a9k),(122,d0C)],[],[],[],[]⟩
def d5n:Ann:=.seq lfA (.seq lfA (.seq (.blk (.loopR [(2,40)] ⟨[(4,uoM)],[]⟩ 0 ⟨[(4,uoM)],[]⟩ (.seq lfA (.blk (.seq lfA (.seq (.blk (.loop [(5,6),(12,31)] ⟨[(5,uiM)],[]⟩ 2 ⟨[(5,uiM)],[]⟩ lfA)) lfA)))))) lfA))
def jg (a0:D8):Option (List Int×Int):=l9 (J7 (fun(x:List Int)=>l7 (ilt (o8 x) (o8 a0.2.2.2.1)) (l9
 (P5 (fun(x_1:Int)=>l7 (ilt x_1 (o8 a0.2.2.2.1)) (l9 (sK x x_1) fun x_2=>l7 x_2 (some (.inl (x9 .i64
 x_1 1))) (l9 (sN a0 x_1 x) fun x=>l7 (D6 x) (some (.inl (x9 .i64 x_1 1))) (some (.inr x_1)))) (some
 (.inr x_1))) 0) fun y=>l7 (ieq y (o8 a0.2.2.2.1)) (some (.rt ([],9))) (l9 (X9 x [y]) fun x=>some (.nx
 x))) (some (.ex x))) []) fun o=>J9 o (fun(y:List Int)=>some (y,0)) fun r=>some r
def s79:FSpec:=mkS c8w d0g fun x=>jg x
def b1J:List MG:=[(true,(.dat y2)),uiM]
def b5t:Ret:=⟨[(.tmp 4,ubM)],[]⟩
def d7m:Env:=⟨19,eqs,tt,gl,[(157,a6g)],[],[],[],[]⟩
def c4x:Ann:=.leaf
def kY (a0:o9) (a1:Int):Option Bool:=l9 (oC a0) fun x=>l7 x (l7 (ile a0.1 a1) (some (ilt a1
 a0.2)) (some false)) (some false)
def a9o:FSpec:=mkS b1J b5t fun x=>kY x.1 x.2
def b1r:List MG:=[(true,(.dat y24)),uiM,uiM]
def b5a:Ret:=⟨[(.tmp 6,uoM)],[]⟩
def d6R:Env:=⟨39,eqs,tt,gl,[(221,a9o)],[],[],[],[]⟩
def c4c:Ann:=.seq lfA (.seq lfA (.seq (.seq lfA (.blk (.loop [(7,38)] ⟨[(7,uoM),(8,uiM)],[]⟩ 0 ⟨[(7,uoM)],[]⟩ lfA))) lfA))
def wB (a0:D8) (a1:Int) (a2:Int):Option (List Int):=l9 (P5 (fun(x:List Int×Int)=>l7 (ilt x.2 (o8
 a0.2.2.2.2)) (l9 (lat a0.2.2.2.2 x.2) fun x_1=>l7 (ieq x_1.2.1 a1) (l9 (lat a0.2.2.2.2 x.2) fun x_2=>l9
 (kY x_2.2.2.2.2.1 a2) fun x_3=>l7 x_3 (l9 (X9 x.1 [x.2]) fun x_4=>some (.inl (x_4,x9 .i64
 x.2 1))) (some (.inl (x.1,x9 .i64 x.2 1)))) (some (.inl (x.1,x9 .i64 x.2 1)))) (some (.inr x.1))) ([],0)) fun y=>some y
def d1p:FSpec:=mkS b1r b5a fun x=>wB x.1 x.2.1 x.2.2
def b1K:List MG:=[(false,(.dat y33)),uiM]
def b5u:Ret:=⟨[(.tmp 4,uiM)],[]⟩
def d7n:Env:=⟨19,eqs,tt,gl,[],[],[],[],[]⟩
def c4y:Ann:=.seq lfA (.seq (.seq lfA (.blk (.loopR [(4,19)] ⟨[(5,uiM)],[]⟩ 0 ⟨[],[]⟩ lfA))) lfA)
def wO (a0:List Int) (a1:Int):Option Int:=l9 (J7 (fun(x:Int)=>l7 (ilt x (o8 a0)) (l9 (lat a0 x) fun x_1=>
 l7 (ieq x_1 a1) (some (.rt x)) (some (.nx (x9 .i64 x 1)))) (some (.ex ()))) 0) fun o=>J9 o (fun(y:
 PUnit)=>some (-1)) fun r=>some r
def d1E:FSpec:=mkS b1K b5u fun x=>wO x.1 x.2
def b1s:List MG:=[(true,(.dat y24)),(false,(.dat y33)),uiM]
def b5b:Ret:=⟨[(.tmp 6,uiM)],[]⟩
def d6S:Env:=⟨35,eqs,tt,gl,[(222,d1E)],[],[],[],[]⟩
def c4d:Ann:=.seq lfA (.seq lfA (.seq (.blk (.loopR [(2,3),(6,9),(15,35)] ⟨[(2,uiM),(7,uiM)],[]⟩ 0 ⟨[],[]⟩ lfA)) lfA))
def xN (a0:D8) (a1:List Int) (a2:Int):Option Int:=l9 (lat a0.2.2.2.2 a2) fun x=>l9 (J7 (fun(x:
 o9)=>l7 (ile 0 x.2) (l7 (ilt x.2 x.1) (l9 (wO a1 x.2) fun x_1=>l7 (ile 0 x_1) (some (.rt x_1)) (l9 (lat
 a0.2.2.2.2 x.2) fun x_2=>some (.nx (x.2,x_2.2.2.1)))) (some (.ex ()))) (some (.ex ()))) (a2,x.2.2.1)) fun(o:
 PUnit⊕Int)=>J9 o (fun(y:PUnit)=>some (-1)) fun r=>some r
def d1q:FSpec:=mkS b1s b5b fun x=>xN x.1 x.2.1 x.2.2
def b1b:List MG:=[(true,(.dat y24)),uiM,uiM]
def b4J:Ret:=⟨[(.tmp 6,uoM),(.tmp 7,uoM),(.tmp 8,uoM)],[]⟩
def d6z:Env:=⟨48,eqs,tt,gl,[(189,d1p),(190,d1q)],[],[],[],[]⟩
def c3I:Ann:=.seq lfA (.seq lfA (.seq lfA (.seq (.seq lfA (.blk (.loop [(10,13),(17,45)] ⟨[(10,uoM),(11,uoM),(12,uiM)],[]⟩ 0 ⟨[(10,uoM),(11,uoM)],[]⟩ lfA))) lfA)))
def xM (a0:D8) (a1:Int) (a2:Int):Option X3:=l9 (wB a0 a1 a2) fun x=>l9 (P5 (fun
 (x_1:List Int×List Int×Int)=>l7 (ilt x_1.2.2 (o8 x)) (l9 (lat x x_1.2.2) fun x_2=>l9 (J4 x (toN x_1.2.2)) fun(x_3:
 Int)=>l9 (xN a0 x x_3) fun x_4=>l9 (X9 x_1.1 [x_4]) fun x_5=>l9 (lat x x_1.2.2) fun x_6=>
 l9 (J4 x (toN x_1.2.2)) fun x=>l9 (lat a0.2.2.2.2 x) fun x=>l9 (X9 x_1.2.1 [x.2.2.2.1]) fun x=>some
 (.inl (x_5,x,x9 .i64 x_1.2.2 1))) (some (.inr (x_1.1,x_1.2.1)))) ([],[],0)) fun y=>some (x,y)
def d1a:FSpec:=mkS b1b b4J fun x=>xM x.1 x.2.1 x.2.2
def b1d:List MG:=[(false,(.dat y12))]
def b4L:Ret:=⟨[(.tmp 2,uoM),(.tmp 3,uiM)],[]⟩
def d6B:Env:=⟨15,eqs,tt,gl,[(193,a9n)],[],[],[],[]⟩
def c3K:Ann:=.leaf
def CY (a0:List o9):Option (List Int×Int):=l9 (jB a0) fun x=>some (x.1,x.2.2)
def d1c:FSpec:=mkS b1d b4L fun x=>CY x
def b1v:List MG:=[(false,(.dat y12)),uiM]
def b5f:Ret:=⟨[(.tmp 4,uoM)],[]⟩
def d6W:Env:=⟨56,eqs,tt,gl,[(193,a9n),(219,a6m)],[],[],[],[]⟩
def c4h:Ann:=.seq lfA (.seq lfA (.seq (.joinR [(4,5),(18,30)] ⟨[],[]⟩ lfA) (.seq lfA (.seq lfA (.seq lfA (.seq (.seq lfA (.blk (.loop [(9,12),(42,55),(23002368,23002369)] ⟨[(9,uoM),(10,uiM),(11,uiM)],[]⟩ 0 ⟨[(9,uoM)],[]⟩ lfA))) lfA))))))
def oD (a0:List o9) (a1:Int):Option (List Int):=l9 (jB a0) fun x=>l9 (l7
 (D6 (ieq x.2.2 0)) (some (.inr [])) (l7 (ilt a1 0) (some (.inr [])) (l7 (ile (o8 a0) a1) (some (.inr [])) (some (.inl
 ()))))) fun o=>J9 o (fun(x_1:PUnit)=>l9 (lat a0 a1) fun x_2=>l9 (aJ x_2.1) fun
 (x_3:Int)=>l9 (iU x_3 0) fun x_4=>l9 (P5 (fun(x_5:List Int×o9)=>l7 (ile 0 x_5.2.2) (l9 (lat x_5.1
 x_5.2.2) fun x_6=>l9 (J4 x_5.1 (toN x_5.2.2)) fun x_7=>l9 (lat x.1 x_5.2.1) fun x_8=>l9 (J4 x.1 (toN
 x_5.2.1)) fun x=>some (.inl (P6 x_5.1 (toN x_5.2.2) x_5.2.1,G5 .i64 x 1,G5 .i64 x_5.2.2 1))) (some (.inr
 x_5.1))) (x_4,G5 .i64 a1 1,G5 .i64 x_3 1)) fun y=>some y) fun r=>some r
def d1t:FSpec:=mkS b1v b5f fun x=>oD x.1 x.2
def b2r:List MG:=[uiM]
def b6b:Ret:=⟨[(.tmp 2,uiM),(.tmp 3,uiM)],[]⟩
def d7W:Env:=⟨17,eqs,tt,gl,[],[],[],[],[]⟩
def c5k:Ann:=.leaf
def pF (a0:Int):Option o9:=l7 (ieq a0 1) (some (0,1)) (l7 (ieq a0 2) (some (-1000000000000,1000000000000)) (l7 (ieq
 a0 3) (some (-1000000000000000,1000000000000000)) (l7 (ieq a0 4) (some (-1000000000,1000000000)) (l7 (ieq a0 5) (some (0,109572)) (l7
 (ieq a0 6) (some (0,15)) (some (0,-1)))))))
def b9z:FSpec:=mkS b2r b6b fun x=>pF x
def b1L:List MG:=[(true,(.dat y3))]
def b5v:Ret:=⟨[(.tmp 2,ubM)],[]⟩
def d7q:Env:=⟨35,eqs,tt,gl,[(264,b9z)],[],[],[],[]⟩
def c4B:Ann:=.leaf
def Y2 (a0:F7):Option Bool:=l9 (pF a0.1) fun x=>l7 (ilt a0.2.2 x.1) (some false) (l7 (ilt
 x.2 a0.2.2) (some false) (l7 (ieq a0.1 6) (l7 (ile 0 a0.2.1) (some (ilt a0.2.1 8)) (some false)) (some (ieq a0.2.1 0))))
def YU:FSpec:=mkS b1L b5v fun x=>Y2 x
def b2s:List MG:=[uiM]
def b6c:Ret:=⟨[(.tmp 2,ubM)],[]⟩
def d7X:Env:=⟨35,eqs,tt,gl,[],[],[],[],[]⟩
def c5l:Ann:=.seq lfA (.seq (.joinR [(2,17)] ⟨[],[]⟩ lfA) lfA)
def kC (a0:Int):Option Bool:=l9 (l7 (ile 1 a0) (l7 (ile a0 8) (some (.inr true)) (l7 (ile 36 a0) (l7 (ile a0 39)
 (some (.inr true)) (some (.inl ()))) (some (.inl ())))) (l7 (ile 36 a0) (l7 (ile a0 39) (some (.inr true)) (some
 (.inl ()))) (some (.inl ())))) fun o=>J9 o (fun(x:PUnit)=>l7 (ieq a0 14) (some true) (l7 (ieq
 a0 15) (some true) (l7 (ieq a0 16) (some true) (l7 (ieq a0 33) (some true) (some (ieq a0 34)))))) fun r=>some r
def d2g:FSpec:=mkS b2s b6c fun x=>kC x
def b1M:List MG:=[(true,(.dat y2)),uiM]
def b5w:Ret:=⟨[(.tmp 4,ubM)],[]⟩
def d7r:Env:=⟨51,eqs,tt,gl,[(219,a6m),(265,d2g)],[],[],[],[]⟩
def c4C:Ann:=.seq lfA (.seq (.joinR [(4,21)] ⟨[],[]⟩ lfA) (.seq (.seq lfA (.blk (.seq (.join [(23,27)] ⟨[(23,ubM)],[]⟩ lfA) lfA))) lfA))
def uA (a0:o9) (a1:Int):Option Bool:=l9 (l9 (aJ a0.1) fun x=>l7 (D6 (ieq x a1)) (some (.inr
 false)) (l7 (D6 (ieq a0.2 0)) (l9 (kC a0.1) fun x=>l7 (D6 x) (some (.inr false)) (some (.inl ())))
 (some (.inl ())))) fun o=>J9 o (fun(x:PUnit)=>l9 (l7 (ieq a0.1 14) (some (ieq a0.1 14)) (l7 (ieq a0.1
 15) (some (ieq a0.1 15)) (some (ieq a0.1 16)))) fun x=>l7 x (l7 (ile 0 a0.2) (some (ile a0.2 5)) (some false)) (l7 (ieq a0.1 34)
 (l7 (ile 0 a0.2) (some (ile (V6 a0.2 8) 5)) (some false)) (l7 (ieq a0.1 6) (some (ile 0 a0.2)) (some true)))) fun r=>some r
def d1F:FSpec:=mkS b1M b5w fun x=>uA x.1 x.2
def b1N:List MG:=[(true,(.dat y2)),(true,(.dat y42))]
def b5x:Ret:=⟨[(.tmp 4,ubM)],[]⟩
def d7s:Env:=⟨81,eqs,tt,gl,[],[],[],[],[]⟩
def c4E:Ann:=.seq lfA (.seq (.seq lfA (.blk (.seq lfA (.cond lfA (.seq lfA (.cond lfA (.seq lfA (.cond lfA (.seq lfA (.cond lfA (.seq (.join [(65,70)] ⟨[(65,ubM)],[]⟩ lfA) lfA))))))))))) lfA)
def EE (a0:o9) (a1:P9):Option Bool:=l7 (ieq a0.1 7) (l7 (ile 0 a0.2) (some (ilt a0.2 (o8 a1.2.1))) (some false))
 (l7 (ieq a0.1 8) (l7 (ile 0 a0.2) (l7 (ilt a0.2 (o8 a1.2.2.1)) (l9 (lat a1.2.2.1 a0.2) fun x=>some (D6 (ieq x.1 0)))
 (some false)) (some false)) (l7 (ieq a0.1 33) (l7 (ile 0 a0.2) (some (ilt a0.2 (o8 a1.2.2.2.2.2))) (some false)) (l7 (ieq a0.1 34) (some
 (ilt (V5 .i64 a0.2 8) (o8 a1.2.2.2.2.2))) (l9 (l7 (ieq a0.1 36) (some (ieq a0.1 36)) (l7 (ieq a0.1 37) (some (ieq a0.1 37))
 (l7 (ieq a0.1 38) (some (ieq a0.1 38)) (some (ieq a0.1 39))))) fun x=>l7 x (l7 (ile 0 a0.2) (some (ilt a0.2 (o8 a1.2.2.2.2.1)))
 (some false)) (some true)))))
def d1G:FSpec:=mkS b1N b5x fun x=>EE x.1 x.2
def b2t:List MG:=[uiM,(true,(.dat y2))]
def b6d:Ret:=⟨[(.tmp 4,ubM)],[]⟩
def d7Y:Env:=⟨32,eqs,tt,gl,[],[],[],[],[]⟩
def c5m:Ann:=.leaf
def wz (a0:Int) (a1:o9):Option Bool:=l7 (D6 (ieq a1.2 0)) (some false) (l7 (ieq a0 36) (l7 (ieq a1.1 2) (some
 true) (some (ieq a1.1 3))) (l7 (ieq a0 39) (l7 (ile 2 a1.1) (some (ile a1.1 5)) (some false)) (some (ieq a1.1 1))))
def d2h:FSpec:=mkS b2t b6d fun x=>wz x.1 x.2
def b2u:List MG:=[(true,(.dat y3)),(true,(.dat y2))]
def b6e:Ret:=⟨[(.tmp 4,ubM)],[]⟩
def d7Z:Env:=⟨21,eqs,tt,gl,[(225,YU)],[],[],[],[]⟩
def c5n:Ann:=.leaf
def FO (a0:F7) (a1:o9):Option Bool:=l9 (Y2 a0) fun x=>l7 x (l7 (ieq a0.1 a1.1) (some (ieq
 a0.2.1 a1.2)) (some false)) (some false)
def d2i:FSpec:=mkS b2u b6e fun x=>FO x.1 x.2
def b2v:List MG:=[uiM,uiM,uiM,ubM]
def b6f:Ret:=⟨[(.tmp 8,uiM)],[]⟩
def d8a:Env:=⟨35,eqs,tt,gl,[],[],[],[],[]⟩
def c5o:Ann:=.leaf
def CZ (a0:Int) (a1:Int) (a2:Int) (a3:Bool):Option Int:=l7 (ieq a0 36) (some (x9 .i64 a1 a2)) (l7 (ieq a0 37) (some
 (L9 .i64 a1 a2)) (l7 (ieq a0 38) (l7 (ilt a1 a2) (some a2) (some a1)) (l7 a3 (some a2) (l7 (ilt a1 a2) (some a2) (some a1)))))
def d2j:FSpec:=mkS b2v b6f fun x=>CZ x.1 x.2.1 x.2.2.1 x.2.2.2
def b2w:List MG:=[uiM,uiM]
def b6g:Ret:=⟨[(.cell 4 67,(true,(.dat y3))),(.tmp 5,uiM)],[]⟩
def d8b:Env:=⟨15,eqs,tt,gl,[(225,YU)],[],[],[],[]⟩
def c5p:Ann:=.leaf
def U4 (a0:Int) (a1:Int):Option (F7×Int):=l9 (Y2 (a0,0,a1)) fun x=>l7 (D6 x) (some ((0,0,0),
 3)) (some ((a0,0,a1),0))
def Xh:FSpec:=mkS b2w b6g fun x=>U4 x.1 x.2
def b1O:List MG:=[(true,(.dat y2)),(true,(.dat y42))]
def b5y:Ret:=⟨[(.cell 4 67,(true,(.dat y3))),(.tmp 5,uiM)],[]⟩
def d7t:Env:=⟨102,eqs,tt,gl,[(266,d2h),(267,d2i),(268,d2j),(269,Xh)],[],[],[],[]⟩
def c4F:Ann:=.seq lfA (.seq lfA (.seq lfA (.seq lfA (.seq (.join [(7,8),(24,27)] ⟨[(7,uiM)],[]⟩ lfA) (.seq (.seq lfA (.blk (.loopR [(4,6),(7,12),(27,86),(4000256,4000257)] ⟨[(4,(false,(.box (.dat y3)))),(7,uiM),(8,uiM)],[]⟩ 0 ⟨[(4,(false,(.box (.dat y3)))),(7,uiM)],[]⟩ (.seq lfA (.seq (.blk (.seq lfA (.seq (.joinR [(4,6),(39,54),(35000000,35000001)] ⟨[(4,(false,(.box (.dat y3))))],[]⟩ lfA) lfA))) lfA))))) lfA)))))
def qE (a0:o9) (a1:P9):Option (F7×Int):=l9 (lat a1.2.2.2.2.1 a0.2) fun x=>l9 (wz
 a0.1 x) fun x_1=>l7 (D6 x_1) (some ((0,0,0),8)) (l9 (l7 (ieq a0.1 37) (some 1) (some 0)) fun x_2=>l9 (J7
 (fun(x_3:F7×o9)=>l7 (ilt x_3.2.2 (o8 a1.2.2.2.1)) (l9 (lat a1.2.2.2.1 x_3.2.2) fun x_4=>l9 (l7 (ile
 (o8 x_4) a0.2) (some (.inr ((0,0,0),6))) (l9 (lat x_4 a0.2) fun x=>l7 (ieq x.1 0) (some (.inr ((0,0,0),6))) (some
 (.inl x_3.1)))) fun o=>J9 o (fun(x_5:F7)=>l9 (lat x_4 a0.2) fun x_6=>l9 (FO x_6
 x) fun x_7=>l7 (D6 x_7) (some (.rt ((0,0,0),8))) (l9 (lat x_4 a0.2) fun x_8=>l9 (CZ a0.1 x_3.2.1
 x_8.2.2 (ieq x_3.2.2 0)) fun x_9=>l9 (U4 x.1 x_9) fun x=>l7 (D6 (ieq x.2 0)) (some (.rt ((0,0,0),
 x.2))) (some (.nx (x_5,x_9,x9 .i64 x_3.2.2 1))))) fun r=>some (.rt r)) (some (.ex (x_3.1,x_3.2.1)))) ((0,0,
 0),x_2,0)) fun o=>J9 o (fun(y:F7×Int)=>l7 (ieq a0.1 39) (l7 (ieq (o8 a1.2.2.2.1) 0) (some
 ((0,0,0),6)) (l9 (U4 x.1 y.2) fun x=>some x)) (l9 (U4 x.1 y.2) fun x=>some x)) fun(r
 :F7×Int)=>some r)
def d1H:FSpec:=mkS b1O b5y fun x=>qE x.1 x.2
def b1P:List MG:=[(true,(.dat y2)),(true,(.dat y42))]
def b5z:Ret:=⟨[(.cell 4 67,(true,(.dat y3))),(.tmp 5,uiM)],[]⟩
def d7u:Env:=⟨79,eqs,tt,gl,[(225,YU),(269,Xh)],[],[],[],[]⟩
def c4G:Ann:=.leaf
def di (a0:o9) (a1:P9):Option (F7×Int):=l7 (ieq a0.1 7) (l9 (lat a1.2.1 a0.2) fun x=>l9
 (Y2 x) fun x=>l7 (D6 x) (some ((0,0,0),8)) (l9 (lat a1.2.1 a0.2) fun x=>some (x,0))) (l7 (ieq
 a0.1 8) (l9 (lat a1.2.2.1 a0.2) fun x=>l9 (Y2 x) fun x=>l7 (D6 x) (some ((0,0,0),8)) (l9 (lat
 a1.2.2.1 a0.2) fun x=>some (x,0))) (l7 (ieq a0.1 9) (l9 (U4 5 a1.1) fun x=>some x) (l7 (ieq a0.1
 35) (l9 (U4 2 (o8 a1.2.2.2.1)) fun x=>some x) (l7 (ieq a0.1 6) (l9 (Y2 (6,V5 .i64 a0.2
 16,V6 a0.2 16)) fun x=>l7 (D6 x) (some ((0,0,0),3)) (some ((6,V5 .i64 a0.2 16,V6 a0.2 16),0))) (l9 (U4
 a0.1 a0.2) fun x=>some x)))))
def d1I:FSpec:=mkS b1P b5z fun x=>di x.1 x.2
def b2x:List MG:=[uiM]
def b6h:Ret:=⟨[(.tmp 2,ubM)],[]⟩
def d8c:Env:=⟨13,eqs,tt,gl,[],[],[],[],[]⟩
def c5q:Ann:=.leaf
def uB (a0:Int):Option Bool:=l7 (ieq a0 2) (some true) (l7 (ieq a0 3) (some true) (some (ieq a0 4)))
def b9A:FSpec:=mkS b2x b6h fun x=>uB x
def b2y:List MG:=[ubM]
def b6i:Ret:=⟨[(.cell 2 67,(true,(.dat y3))),(.tmp 3,uiM)],[]⟩
def d8d:Env:=⟨8,eqs,tt,gl,[],[],[],[],[]⟩
def c5r:Ann:=.leaf
def iI (a0:Bool):Option (F7×Int):=l7 a0 (some ((1,0,1),0)) (some ((1,0,0),0))
def b9B:FSpec:=mkS b2y b6i fun x=>iI x
def b2U:List MG:=[uiM]
def b6E:Ret:=⟨[(.tmp 2,ubM)],[]⟩
def d8z:Env:=⟨9,eqs,tt,gl,[],[],[],[],[]⟩
def c5P:Ann:=.leaf
def lF (a0:Int):Option Bool:=l7 (ile 0 a0) (some (ile a0 109572)) (some false)
def a9t:FSpec:=mkS b2U b6E fun x=>lF x
def b3s:List MG:=[uiM]
def b7c:Ret:=⟨[(.tmp 2,ubM)],[]⟩
def d8X:Env:=⟨16,eqs,tt,gl,[],[],[],[],[]⟩
def c6o:Ann:=.leaf
def xH (a0:Int):Option Bool:=l7 (ieq (V6 a0 4) 0) (l7 (D6 (ieq (V6 a0 100) 0)) (some true) (some (ieq (V6 a0 400) 0)))
 (some false)
def b9K:FSpec:=mkS b3s b7c fun x=>xH x
def b2V:List MG:=[uiM]
def b6F:Ret:=⟨[(.tmp 2,uiM)],[]⟩
def d8A:Env:=⟨5,eqs,tt,gl,[(325,b9K)],[],[],[],[]⟩
def c5Q:Ann:=.leaf
def bF (a0:Int):Option Int:=l9 (xH a0) fun x=>l7 x (some 366) (some 365)
def b9H:FSpec:=mkS b2V b6F fun x=>bF x
def b2W:List MG:=[uiM,uiM]
def b6G:Ret:=⟨[(.tmp 4,uiM)],[]⟩
def d8B:Env:=⟨23,eqs,tt,gl,[(325,b9K)],[],[],[],[]⟩
def c5R:Ann:=.seq lfA (.seq (.seq lfA (.blk (.seq lfA (.cond lfA (.seq (.join [(10,15)] ⟨[(10,ubM)],[]⟩ lfA) lfA))))) lfA)
def Y8 (a0:Int) (a1:Int):Option Int:=l7 (ieq a1 2) (l9 (xH a0) fun x=>l7 x (some 29) (some 28))
 (l9 (l7 (ieq a1 4) (some (ieq a1 4)) (l7 (ieq a1 6) (some (ieq a1 6)) (l7 (ieq a1 9) (some (ieq a1 9)) (some (ieq a1 11))))) fun(x:
 Bool)=>l7 x (some 30) (l7 (ieq a1 1) (l7 (ieq a1 1) (some 31) (some 0)) (l7 (ieq a1 3) (l7 (ieq a1 3) (some 31) (some 0)) (l7
 (ieq a1 5) (l7 (ieq a1 5) (some 31) (some 0)) (l7 (ieq a1 7) (l7 (ieq a1 7) (some 31) (some 0)) (l7 (ieq a1 8) (l7 (ieq a1 8) (some
 31) (some 0)) (l7 (ieq a1 10) (l7 (ieq a1 10) (some 31) (some 0)) (l7 (ieq a1 12) (some 31) (some 0)))))))))
def a9u:FSpec:=mkS b2W b6G fun x=>Y8 x.1 x.2
def b2z:List MG:=[uiM]
def b6j:Ret:=⟨[(.tmp 2,uiM),(.tmp 3,uiM),(.tmp 4,uiM)],[]⟩
def d8e:Env:=⟨36,eqs,tt,gl,[(299,a9t),(300,b9H),(301,a9u)],[],[],[],[]⟩
def c5s:Ann:=.seq lfA (.seq lfA (.seq lfA (.seq (.blk (.loop [(0,1),(5,6),(10,20)] ⟨[(0,uiM),(5,uiM)],[]⟩ 0 ⟨[(0,uiM),(5,uiM)],[]⟩ lfA)) (.seq (.blk (.loop [(0,1),(6,7),(20,32)] ⟨[(0,uiM),(6,uiM)],[]⟩ 2 ⟨[(0,uiM),(6,uiM)],[]⟩ lfA)) lfA))))
def sJ (a0:Int):Option F7:=l9 (lF a0) fun x=>l7 (D6 x) (some (0,0,0)) (l9 (P5 (fun(x:
 o9)=>l9 (bF x.2) fun x_1=>l7 (ile x_1 x.1) (l9 (bF x.2) fun x_2=>some (.inl
 (G5 .i64 x.1 x_2,x9 .i64 x.2 1))) (some (.inr x))) (a0,1900)) fun y=>l9 (P5 (fun(x:o9)=>
 l9 (Y8 y.2 x.2) fun x_1=>l7 (ile x_1 x.1) (l9 (Y8 y.2 x.2) fun x_2=>some (.inl (G5
 .i64 x.1 x_2,x9 .i64 x.2 1))) (some (.inr x))) (y.1,1)) fun y_1=>some (y.2,y_1.2,x9 .i64 y_1.1 1))
def b9C:FSpec:=mkS b2z b6j fun x=>sJ x
def b3t:List MG:=[(true,(.dat y4)),uiM,uiM]
def b7d:Ret:=⟨[(.tmp 6,ubM)],[]⟩
def d8Y:Env:=⟨23,eqs,tt,gl,[(221,a9o)],[],[],[],[]⟩
def c6p:Ann:=.leaf
def AA (a0:uQ) (a1:Int) (a2:Int):Option Bool:=l9 (kY a0.1 a1) fun x=>l7 x (l7 (ile a0.2.1 a2)
 (some (ilt a2 a0.2.2.1)) (some false)) (some false)
def d2J:FSpec:=mkS b3t b7d fun x=>AA x.1 x.2.1 x.2.2
def b2X:List MG:=[(true,(.dat y8)),uiM,uiM]
def b6H:Ret:=⟨[(.tmp 6,uiM),(.tmp 7,ubM)],[]⟩
def d8C:Env:=⟨25,eqs,tt,gl,[(326,d2J)],[],[],[],[]⟩
def c5S:Ann:=.seq lfA (.seq (.seq lfA (.blk (.loopR [(6,25)] ⟨[(8,uiM)],[]⟩ 0 ⟨[],[]⟩ lfA))) lfA)
def xJ (a0:Y1) (a1:Int) (a2:Int):Option (Int×Bool):=l9 (J7 (fun(x:Int)=>l7 (ilt x (o8 a0.2.2.2)) (l9 (lat
 a0.2.2.2 x) fun x_1=>l9 (AA x_1 a1 a2) fun x_2=>l7 x_2 (some (.rt (x,true))) (some (.nx (x9
 .i64 x 1)))) (some (.ex ()))) 0) fun o=>J9 o (fun(y:PUnit)=>some (0,false)) fun r
 =>some r
def d2v:FSpec:=mkS b2X b6H fun x=>xJ x.1 x.2.1 x.2.2
def b2A:List MG:=[(true,(.dat y8)),uiM,(true,(.dat y3))]
def b6k:Ret:=⟨[(.cell 6 67,(true,(.dat y3))),(.tmp 7,uiM)],[]⟩
def d8f:Env:=⟨67,eqs,tt,gl,[(302,d2v),(225,YU)],[],[],[],[]⟩
def c5t:Ann:=.seq lfA (.seq (.joinR [(6,8),(11,38),(4000384,4000385)] ⟨[(6,(false,(.box (.dat y3))))],[]⟩ lfA) lfA)
def Dc (a0:Y1) (a1:Int) (a2:F7):Option (F7×Int):=l9 (l7 (D6 (ieq a2.1 a0.2.1.1)) (some (.inr ((0,0,0),
 8))) (l7 (D6 (ieq a2.2.1 a0.2.1.2)) (some (.inr ((0,0,0),8))) (l7 (ilt a0.2.2.1.1 1) (some (.inr ((0,0,0),8))) (l7 (ilt 6
 a0.2.2.1.1) (some (.inr ((0,0,0),8))) (some (.inl (0,0,0))))))) fun o=>J9 o (fun(x:F7)=>l9
 (xJ a0 a1 a2.2.2) fun x=>l7 (D6 x.2) (some ((0,0,0),6)) (l9 (lat a0.2.2.2 x.1) fun x=>l9
 (Y2 (a0.2.2.1.1,a0.2.2.1.2,x.2.2.2)) fun x_1=>l7 (D6 x_1) (some ((0,0,0),3)) (some ((a0.2.2.1.1,a0.2.2.1.2,
 x.2.2.2),0)))) fun r=>some r
def d2k:FSpec:=mkS b2A b6k fun x=>Dc x.1 x.2.1 x.2.2
def b2Y:List MG:=[uiM]
def b6I:Ret:=⟨[(.tmp 2,ubM)],[]⟩
def d8D:Env:=⟨9,eqs,tt,gl,[],[],[],[],[]⟩
def c5T:Ann:=.leaf
def vK (a0:Int):Option Bool:=l7 (ile 0 a0) (some (ile a0 5)) (some false)
def a6n:FSpec:=mkS b2Y b6I fun x=>vK x
def b2Z:List MG:=[uiM,uiM]
def b6J:Ret:=⟨[(.tmp 4,ubM)],[]⟩
def d8E:Env:=⟨14,eqs,tt,gl,[],[],[],[],[]⟩
def c5V:Ann:=.leaf
def aN (a0:Int) (a1:Int):Option Bool:=l7 (ilt a1 a0) (some true) (some (ilt a0 (G5 .i64 0 a1)))
def a6o:FSpec:=mkS b2Z b6J fun x=>aN x.1 x.2
def b3a:List MG:=[uiM,uiM]
def b6K:Ret:=⟨[(.tmp 4,uiM),(.tmp 5,uiM),(.tmp 6,ubM)],[]⟩
def d8F:Env:=⟨62,eqs,tt,gl,[],[],[],[],[]⟩
def c5W:Ann:=.seq lfA (.seq lfA (.seq (.join [(7,8),(14,21)] ⟨[(7,(false,(.dat (.int .u64))))],[]⟩ lfA) lfA))
def lS (a0:Int) (a1:Int):Option (Int×Int×Bool):=l9 (l7 (ilt a1 0) (some (x9 .u64 (wrap .u64 (G5
 .i64 0 (x9 .i64 a1 1))) 1)) (some (wrap .u64 a1))) fun x=>l7 (ilt 0 (wrap .i64 (V5 .u64 x
 1000000))) (l9 (fH .i64 1000000000000000 (wrap .i64 (V5 .u64 x 1000000))) fun x_1=>l7 (ilt x_1 a0) (some
 (0,0,false)) (l7 (ilt 1000000000000000 (x9 .i64 (x9 .i64 (L9 .i64 a0 (wrap .i64 (V5 .u64 x 1000000)))
 (L9 .i64 (V5 .i64 a0 1000000) (wrap .i64 (V6 x 1000000)))) (V5 .i64 (L9 .i64 (V6 a0 1000000) (wrap
 .i64 (V6 x 1000000))) 1000000))) (some (0,0,false)) (l7 (ilt a1 0) (some (G5 .i64 0 (x9 .i64 (x9 .i64 (L9
 .i64 a0 (wrap .i64 (V5 .u64 x 1000000))) (L9 .i64 (V5 .i64 a0 1000000) (wrap .i64 (V6 x 1000000))))
 (V5 .i64 (L9 .i64 (V6 a0 1000000) (wrap .i64 (V6 x 1000000))) 1000000)),G5 .i64 0 (V6 (L9 .i64
 (V6 a0 1000000) (wrap .i64 (V6 x 1000000))) 1000000),true)) (some (x9 .i64 (x9 .i64 (L9 .i64 a0 (wrap
 .i64 (V5 .u64 x 1000000))) (L9 .i64 (V5 .i64 a0 1000000) (wrap .i64 (V6 x 1000000)))) (V5 .i64
 (L9 .i64 (V6 a0 1000000) (wrap .i64 (V6 x 1000000))) 1000000),V6 (L9 .i64 (V6 a0 1000000) (wrap .i64 (V6 x
 1000000))) 1000000,true))))) (l7 (ilt 1000000000000000 (x9 .i64 (x9 .i64 (L9 .i64 a0 (wrap .i64 (V5
 .u64 x 1000000))) (L9 .i64 (V5 .i64 a0 1000000) (wrap .i64 (V6 x 1000000)))) (V5 .i64 (L9 .i64
 (V6 a0 1000000) (wrap .i64 (V6 x 1000000))) 1000000))) (some (0,0,false)) (l7 (ilt a1 0) (some (G5 .i64 0 (x9 .i64
 (x9 .i64 (L9 .i64 a0 (wrap .i64 (V5 .u64 x 1000000))) (L9 .i64 (V5 .i64 a0 1000000) (wrap
 .i64 (V6 x 1000000)))) (V5 .i64 (L9 .i64 (V6 a0 1000000) (wrap .i64 (V6 x 1000000))) 1000000)),G5
 .i64 0 (V6 (L9 .i64 (V6 a0 1000000) (wrap .i64 (V6 x 1000000))) 1000000),true)) (some (x9 .i64 (x9
 .i64 (L9 .i64 a0 (wrap .i64 (V5 .u64 x 1000000))) (L9 .i64 (V5 .i64 a0 1000000) (wrap .i64
 (V6 x 1000000)))) (V5 .i64 (L9 .i64 (V6 a0 1000000) (wrap .i64 (V6 x 1000000))) 1000000),V6 (L9 .i64 (V6
 a0 1000000) (wrap .i64 (V6 x 1000000))) 1000000,true))))
def d2w:FSpec:=mkS b3a b6K fun x=>lS x.1 x.2
def b3u:List MG:=[uiM,uiM,uiM,ubM,uiM]
def b7e:Ret:=⟨[(.tmp 10,uiM)],[]⟩
def d8Z:Env:=⟨65,eqs,tt,gl,[],[],[],[],[]⟩
def c6q:Ann:=.seq lfA (.seq lfA (.seq (.join [(11,58)] ⟨[(11,ubM)],[]⟩ lfA) lfA))
def dQ (a0:Int) (a1:Int) (a2:Int) (a3:Bool) (a4:Int):Option Int:=l9 (l7 (ieq a4 0) (l7 a3 (some (ilt 0 a1)) (some
 false)) (l7 (ieq a4 1) (l7 (D6 a3) (some (ilt 0 a1)) (some false)) (l7 (ieq a4 3) (some (ilt 0 a1)) (l7 (ieq a4 4) (some (ile (G5
 .i64 a2 a1) a1)) (l7 (ieq a4 5) (l7 (ilt (G5 .i64 a2 a1) a1) (some true) (l7 (ieq a1 (G5 .i64 a2 a1)) (some (ieq
 (V6 a0 2) 1)) (some false))) (some false)))))) fun x=>l7 x (l7 a3 (some (G5 .i64 0 (x9 .i64 a0 1))) (some (x9
 .i64 a0 1))) (l7 a3 (some (G5 .i64 0 a0)) (some a0))
def a6q:FSpec:=mkS b3u b7e fun x=>dQ x.1 x.2.1 x.2.2.1 x.2.2.2.1 x.2.2.2.2
def b3b:List MG:=[uiM,uiM,uiM]
def b6L:Ret:=⟨[(.tmp 6,uiM)],[]⟩
def d8G:Env:=⟨35,eqs,tt,gl,[(327,a6q)],[],[],[],[]⟩
def c5X:Ann:=.seq lfA (.seq (.blk (.loop [(0,2),(7,13)] ⟨[(0,uiM),(1,uiM)],[]⟩ 0 ⟨[(0,uiM),(1,uiM)],[]⟩ lfA)) (.seq (.blk (.loop [(0,2),(13,19)] ⟨[(0,uiM),(1,uiM)],[]⟩ 2 ⟨[(0,uiM),(1,uiM)],[]⟩ lfA)) lfA))
def ww (a0:Int) (a1:Int) (a2:Int):Option Int:=l9 (P5 (fun(x:o9)=>l7 (ilt x.2 0) (some (.inl (G5
 .i64 x.1 1,x9 .i64 x.2 1000000))) (some (.inr x))) (a0,a1)) fun y=>l9 (P5 (fun(x:o9)=>l7
 (ile 1000000 x.2) (some (.inl (x9 .i64 x.1 1,G5 .i64 x.2 1000000))) (some (.inr x))) y) fun y=>l7 (ile 0
 y.1) (l9 (dQ y.1 y.2 1000000 false a2) fun x=>some x) (l7 (ieq y.2 0) (some y.1) (l9 (dQ (G5 .i64
 (G5 .i64 0 y.1) 1) (G5 .i64 1000000 y.2) 1000000 true a2) fun x=>some x))
def d2x:FSpec:=mkS b3b b6L fun x=>ww x.1 x.2.1 x.2.2
def b2B:List MG:=[(true,(.dat y8)),uiM,uiM,uiM]
def b6l:Ret:=⟨[(.tmp 8,uiM),(.tmp 9,uiM)],[]⟩
def d8g:Env:=⟨99,eqs,tt,gl,[(303,a6n),(304,a6o),(221,a9o),(305,d2w),(306,d2x)],[],[],[],[]⟩
def c5u:Ann:=.seq lfA (.seq lfA (.seq (.joinR [(8,10),(22,32)] ⟨[],[]⟩ lfA) (.seq lfA (.seq lfA (.seq (.seq lfA (.blk (.loopR [(8,18),(34,92)] ⟨[(10,uiM),(11,uiM),(12,uiM)],[]⟩ 0 ⟨[(10,uiM),(11,uiM)],[]⟩ lfA))) lfA)))))
def uw (a0:Y1) (a1:Int) (a2:Int) (a3:Int):Option o9:=l9 (vK a3) fun x=>l7 (D6 x) (some
 (0,1)) (l9 (l7 (D6 (aK (ieq a0.2.1.1 3) (ieq a0.2.1.2 0))) (some (.inr (0,8))) (l7 (D6 (aK (ieq a0.2.2.1.1 4) (ieq a0.2.2.1.2
 0))) (some (.inr (0,8))) (some (.inl ())))) fun o=>J9 o (fun(x:PUnit)=>l9 (aN a2
 1000000000000000) fun x=>l7 x (some (0,3)) (l9 (J7 (fun(x:F7)=>l7 (ilt x.2.2 (o8 a0.2.2.2)) (l9 (lat a0.2.2.2
 x.2.2) fun x_1=>l9 (lat a0.2.2.2 x.2.2) fun x_2=>l7 (ile (eX x_2.2.2.1 a2) (fO x_1.2.1 0)) (some (.nx (x.1,x.2.1,
 x9 .i64 x.2.2 1))) (l9 (lat a0.2.2.2 x.2.2) fun x_3=>l9 (kY x_3.1 a1) fun x_4=>l7 (D6 x_4)
 (some (.nx (x.1,x.2.1,x9 .i64 x.2.2 1))) (l9 (lat a0.2.2.2 x.2.2) fun x_5=>l9 (lS (G5 .i64
 (eX x_2.2.2.1 a2) (fO x_1.2.1 0)) x_5.2.2.2) fun x_6=>l7 (D6 x_6.2.2) (some (.rt (0,3))) (some (.nx (x9
 .i64 x.1 x_6.1,x9 .i64 x.2.1 x_6.2.1,x9 .i64 x.2.2 1)))))) (some (.ex (x.1,x.2.1)))) (0,0,0)) fun o=>J9 o (fun(y:o9)=>l9 (ww y.1 y.2 a3) fun x=>l9 (aN x 1000000000000000) fun(x_1:
 Bool)=>l7 x_1 (some (0,3)) (some (x,0))) fun r=>some r)) fun r=>some r)
def d2l:FSpec:=mkS b2B b6l fun x=>uw x.1 x.2.1 x.2.2.1 x.2.2.2
def b2C:List MG:=[uiM,uiM,uiM]
def b6m:Ret:=⟨[(.cell 6 67,(true,(.dat y3))),(.tmp 7,uiM)],[]⟩
def d8h:Env:=⟨17,eqs,tt,gl,[(269,Xh)],[],[],[],[]⟩
def c5v:Ann:=.leaf
def iY (a0:Int) (a1:Int) (a2:Int):Option (F7×Int):=l7 (D6 (ieq a2 0)) (some ((0,0,0),a2)) (l9 (U4 a0 a1)
 fun x=>some x)
def a9p:FSpec:=mkS b2C b6m fun x=>iY x.1 x.2.1 x.2.2
def b1Q:List MG:=[(true,(.dat y2)),(true,(.dat y3)),(true,(.dat y42))]
def b5A:Ret:=⟨[(.cell 6 67,(true,(.dat y3))),(.tmp 7,uiM)],[]⟩
def d7v:Env:=⟨134,eqs,tt,gl,[(270,b9A),(269,Xh),(271,b9B),(272,b9C),(273,d2k),(274,d2l),(275,a9p)],[],[],[],[]⟩
def c4H:Ann:=.seq lfA (.seq (.joinR [(6,11),(14,82),(4000384,4000385)] ⟨[(6,(false,(.box (.dat y3))))],[]⟩ (.seq lfA (.blk (.seq lfA (.cond lfA (.seq lfA (.cond lfA (.seq (.join [(43,46)] ⟨[(43,ubM)],[]⟩ lfA) lfA)))))))) (.seq lfA (.seq (.joinR [(6,8),(89,117),(6000000,6000001)] ⟨[(6,(false,(.box (.dat y3))))],[]⟩ lfA) lfA)))
def jO (a0:o9) (a1:F7) (a2:P9):Option (F7×Int):=l9 (l7 (ieq a0.1 10) (l9 (uB a1.1) fun(x:
 Bool)=>l7 (D6 x) (some (.inr ((0,0,0),8))) (l9 (U4 a1.1 (G5 .i64 0 a1.2.2)) fun x=>some (.inr
 x))) (l7 (ieq a0.1 25) (l7 (D6 (ieq a1.1 1)) (some (.inr ((0,0,0),8))) (l9 (iI (ieq a1.2.2 0)) fun x=>
 some (.inr x))) (l9 (l7 (ieq a0.1 31) (some (ieq a0.1 31)) (some (ieq a0.1 32))) fun x=>l7 x (l7 (D6 (ieq a1.1 5)) (some
 (.inr ((0,0,0),8))) (l9 (sJ a1.2.2) fun x=>l7 (ieq a0.1 31) (l9 (U4 2 x.1) fun x=>
 some (.inr x)) (l9 (U4 2 x.2.1) fun x=>some (.inr x)))) (l7 (ieq a0.1 33) (l9 (lat a2.2.2.2.2.2 a0.2) fun
 (x:Y1)=>l9 (Dc x a2.1 a1) fun x=>some (.inr x)) (some (.inl (0,0,0))))))) fun o=>J9 o (fun(x:F7)=>l9 (lat a2.2.2.2.2.2 (V5 .i64 a0.2 8)) fun x_1=>l9 (l7 (D6 (ieq a1.1 3)) (some
 (.inr ((0,0,0),8))) (l7 (D6 (ieq x_1.2.1.1 3)) (some (.inr ((0,0,0),8))) (l7 (D6 (ieq x_1.2.1.2 0)) (some (.inr ((0,0,0),
 8))) (l7 (D6 (ieq x_1.2.2.1.1 4)) (some (.inr ((0,0,0),8))) (l7 (D6 (ieq x_1.2.2.1.2 0)) (some (.inr ((0,0,0),8))) (some
 (.inl x))))))) fun o=>J9 o (fun(x:F7)=>l9 (uw x_1 a2.1 a1.2.2 (V6 a0.2 8)) fun(x:
 o9)=>l9 (iY 3 x.1 x.2) fun x=>some x) fun r=>some r) fun r=>some r
def d1J:FSpec:=mkS b1Q b5A fun x=>jO x.1 x.2.1 x.2.2
def b3c:List MG:=[uiM,uiM,uiM]
def b6M:Ret:=⟨[(.cell 6 67,(true,(.dat y3))),(.tmp 7,uiM)],[]⟩
def d8H:Env:=⟨44,eqs,tt,gl,[(264,b9z),(269,Xh)],[],[],[],[]⟩
def c5Y:Ann:=.leaf
def mP (a0:Int) (a1:Int) (a2:Int):Option (F7×Int):=l9 (pF a0) fun x=>l7 (ilt a1 0) (l7
 (ilt a2 0) (l7 (D6 (ieq (G5 .i64 0 a2) 0)) (l9 (fH .i64 x.2 (G5 .i64 0 a2)) fun x=>l7 (ilt x (G5
 .i64 0 a1)) (some ((0,0,0),3)) (l9 (U4 a0 (L9 .i64 a1 a2)) fun x=>some x)) (l9 (U4 a0
 (L9 .i64 a1 a2)) fun x=>some x)) (l7 (D6 (ieq a2 0)) (l9 (fH .i64 x.2 a2) fun x=>l7 (ilt x
 (G5 .i64 0 a1)) (some ((0,0,0),3)) (l9 (U4 a0 (L9 .i64 a1 a2)) fun x=>some x)) (l9 (U4
 a0 (L9 .i64 a1 a2)) fun x=>some x))) (l7 (ilt a2 0) (l7 (D6 (ieq (G5 .i64 0 a2) 0)) (l9 (fH
 .i64 x.2 (G5 .i64 0 a2)) fun x=>l7 (ilt x a1) (some ((0,0,0),3)) (l9 (U4 a0 (L9 .i64 a1 a2)) fun
 (x:F7×Int)=>some x)) (l9 (U4 a0 (L9 .i64 a1 a2)) fun x=>some x)) (l7 (D6 (ieq a2 0)) (l9
 (fH .i64 x.2 a2) fun x=>l7 (ilt x a1) (some ((0,0,0),3)) (l9 (U4 a0 (L9 .i64 a1 a2)) fun x=>some x)) (l9 (U4 a0 (L9 .i64 a1 a2)) fun x=>some x)))
def d2y:FSpec:=mkS b3c b6M fun x=>mP x.1 x.2.1 x.2.2
def b3w:List MG:=[uiM]
def b7g:Ret:=⟨[(.tmp 2,uiM)],[]⟩
def d9b:Env:=⟨8,eqs,tt,gl,[],[],[],[],[]⟩
def c6s:Ann:=.leaf
def oZ (a0:Int):Option Int:=l7 (ilt a0 0) (some (G5 .i64 0 a0)) (some a0)
def a9x:FSpec:=mkS b3w b7g fun x=>oZ x
def b3v:List MG:=[uiM,uiM,uiM,uiM]
def b7f:Ret:=⟨[(.tmp 8,uiM),(.tmp 9,uiM)],[]⟩
def d9a:Env:=⟨79,eqs,tt,gl,[(303,a6n),(304,a6o),(329,a9x),(327,a6q)],[],[],[],[]⟩
def c6r:Ann:=.seq lfA (.seq lfA (.seq lfA (.seq (.joinR [(8,10),(21,31)] ⟨[],[]⟩ lfA) lfA)))
def xG (a0:Int) (a1:Int) (a2:Int) (a3:Int):Option o9:=l9 (vK a3) fun x=>l7 (D6 x) (some (0,
 1)) (l7 (ieq a2 0) (some (0,12)) (l9 (l9 (aN a0 1000000000000000) fun x=>l7 x (some (.inr (0,3))) (l9
 (aN a1 1000000000) fun x=>l7 x (some (.inr (0,3))) (l9 (aN a2 1000000000) fun x=>l7 x (some
 (.inr (0,3))) (some (.inl ()))))) fun o=>J9 o (fun(x:PUnit)=>l9 (oZ a0) fun x=>
 l9 (oZ a1) fun x_1=>l9 (oZ a2) fun x_2=>l7 (ilt 0 x_1) (l9 (fH .i64 x x_2) fun x_3=>
 l9 (fH .i64 1000000000000000 x_1) fun x_4=>l7 (ilt x_4 x_3) (some (0,3)) (l9 (qf x x_2) fun x_5=>l9
 (fH .i64 x x_2) fun x=>l9 (fH .i64 (L9 .i64 x_5 x_1) x_2) fun x_6=>l9 (qf (L9 .i64
 x_5 x_1) x_2) fun x_7=>l9 (dQ (x9 .i64 (L9 .i64 x x_1) x_6) x_7 x_2 (D6 (bZ (D6 (bZ (ilt a0 0) (ilt
 a1 0))) (ilt a2 0))) a3) fun x=>l9 (aN x 1000000000000000) fun x_8=>l7 x_8 (some (0,3)) (some (x,0)))) (l9
 (qf x x_2) fun x_3=>l9 (fH .i64 x x_2) fun x=>l9 (fH .i64 (L9 .i64 x_3 x_1) x_2) fun(x_4:
 Int)=>l9 (qf (L9 .i64 x_3 x_1) x_2) fun x_5=>l9 (dQ (x9 .i64 (L9 .i64 x x_1) x_4) x_5 x_2
 (D6 (bZ (D6 (bZ (ilt a0 0) (ilt a1 0))) (ilt a2 0))) a3) fun x=>l9 (aN x 1000000000000000) fun x_6=>l7
 x_6 (some (0,3)) (some (x,0)))) fun r=>some r))
def d2K:FSpec:=mkS b3v b7f fun x=>xG x.1 x.2.1 x.2.2.1 x.2.2.2
def b3d:List MG:=[uiM,uiM,uiM]
def b6N:Ret:=⟨[(.tmp 6,uiM),(.tmp 7,uiM)],[]⟩
def d8I:Env:=⟨14,eqs,tt,gl,[(328,d2K)],[],[],[],[]⟩
def c5Z:Ann:=.leaf
def wM (a0:Int) (a1:Int) (a2:Int):Option o9:=l9 (xG a0 a1 1000000 a2) fun x=>some x
def d2z:FSpec:=mkS b3d b6N fun x=>wM x.1 x.2.1 x.2.2
def c7J:List MG:=[uiM,uiM]
def c9t:Ret:=⟨[(.tmp 4,ubM)],[]⟩
def e40:Env:=⟨14,eqs,tt,gl,[],[],[],[],[]⟩
def d4A:Ann:=.leaf
def bD (a0:Int) (a1:Int):Option Bool:=l7 (ilt a1 a0) (some true) (some (ilt a0 (G5 .i64 0 a1)))
def s40:FSpec:=mkS c7J c9t fun x=>bD x.1 x.2
def c7K:List MG:=[uiM,uiM]
def c9u:Ret:=⟨[(.tmp 4,uiM),(.tmp 5,uiM)],[]⟩
def e41:Env:=⟨23,eqs,tt,gl,[],[],[],[],[]⟩
def d4B:Ann:=.leaf
def oz (a0:Int) (a1:Int):Option o9:=l9 (fH .i64 a0 a1) fun x=>l9 (qf a0 a1) fun x_1=>
 l7 (ilt x_1 0) (some (G5 .i64 x 1,x9 .i64 x_1 a1)) (some (x,x_1))
def s41:FSpec:=mkS c7K c9u fun x=>oz x.1 x.2
def c7L:List MG:=[uiM,uiM,uiM,uiM]
def c9v:Ret:=⟨[(.tmp 8,uiM)],[]⟩
def e42:Env:=⟨66,eqs,tt,gl,[],[],[],[],[]⟩
def d4C:Ann:=.seq lfA (.seq lfA (.seq (.join [(9,10),(13,31)] ⟨[(9,ubM)],[]⟩ lfA) lfA))
def U3 (a0:Int) (a1:Int) (a2:Int) (a3:Int):Option Int:=l7 (ieq a1 0) (some a0) (l9 (l7 (ieq a3 1) (some true) (l7
 (ieq a3 2) (l7 (ilt a0 0) (some true) (l7 (ieq a3 3) (some (ile 0 a0)) (some false))) (l7 (ieq a3 3) (some (ile 0 a0)) (some false)))) fun
 (x:Bool)=>l7 (ieq a3 4) (l7 (ieq a1 (G5 .i64 a2 a1)) (l7 (ieq a3 4) (l7 (ile 0 a0) (some (x9 .i64 a0 1)) (l7
 (ieq a3 5) (l7 (D6 (ieq (V6 a0 2) 0)) (some (x9 .i64 a0 1)) (some a0)) (some a0))) (l7 (ieq a3 5) (l7 (D6 (ieq (V6 a0 2)
 0)) (some (x9 .i64 a0 1)) (some a0)) (some a0))) (l7 (ilt (G5 .i64 a2 a1) a1) (some (x9 .i64 a0 1)) (some a0))) (l7
 (ieq a3 5) (l7 (ieq a1 (G5 .i64 a2 a1)) (l7 (ieq a3 4) (l7 (ile 0 a0) (some (x9 .i64 a0 1)) (l7 (ieq a3 5) (l7 (D6
 (ieq (V6 a0 2) 0)) (some (x9 .i64 a0 1)) (some a0)) (some a0))) (l7 (ieq a3 5) (l7 (D6 (ieq (V6 a0 2) 0)) (some (x9
 .i64 a0 1)) (some a0)) (some a0))) (l7 (ilt (G5 .i64 a2 a1) a1) (some (x9 .i64 a0 1)) (some a0))) (l7 x (some (x9
 .i64 a0 1)) (some a0))))
def s42:FSpec:=mkS c7L c9v fun x=>U3 x.1 x.2.1 x.2.2.1 x.2.2.2
def b3e:List MG:=[uiM,uiM,uiM]
def b6O:Ret:=⟨[(.tmp 6,uiM),(.tmp 7,uiM)],[]⟩
def d8J:Env:=⟨37,eqs,tt,gl,[(40,s40),(41,s41),(42,s42)],[],[],[],[]⟩
def c6a:Ann:=.leaf
def BG (a0:Int) (a1:Int) (a2:Int):Option o9:=l7 (ilt a2 0) (some (0,1)) (l7 (ilt 5 a2) (some (0,1)) (l9
 (bD a0 1000000000) fun x=>l7 x (some (0,3)) (l9 (bD a1 1000000000) fun x=>l7 x (some (0,3))
 (l9 (oz (L9 .i64 a0 a1) 1000000) fun x=>l9 (U3 x.1 x.2 1000000 a2) fun x=>l9
 (bD x 1000000000) fun x_1=>l7 x_1 (some (0,3)) (some (x,0))))))
def d2A:FSpec:=mkS b3e b6O fun x=>BG x.1 x.2.1 x.2.2
def c7w:List MG:=[uiM,uiM,uiM]
def c9g:Ret:=⟨[(.tmp 6,uiM),(.tmp 7,uiM)],[]⟩
def e26:Env:=⟨71,eqs,tt,gl,[(40,s40),(41,s41),(42,s42)],[],[],[],[]⟩
def d4n:Ann:=.seq lfA (.seq (.joinR [(6,8),(13,19)] ⟨[],[]⟩ lfA) lfA)
def jA (a0:Int) (a1:Int) (a2:Int):Option o9:=l9 (l7 (ilt a2 0) (some (.inr (0,1))) (l7 (ilt 5 a2) (some
 (.inr (0,1))) (some (.inl ())))) fun o=>J9 o (fun(x:PUnit)=>l7 (ieq a1 0) (some (0,12)) (l9
 (bD a0 1000000000000000) fun x=>l7 x (some (0,3)) (l9 (bD a1 1000000000000000) fun x=>l7 x (some
 (0,3)) (l7 (ilt a1 0) (l9 (oz (G5 .i64 0 a0) (G5 .i64 0 a1)) fun x=>l9 (bD x.1 1001)
 fun x_1=>l7 x_1 (some (0,3)) (l9 (fH .i64 (L9 .i64 x.2 1000) (G5 .i64 0 a1)) fun x_2=>l9
 (qf (L9 .i64 x.2 1000) (G5 .i64 0 a1)) fun x_3=>l9 (fH .i64 (L9 .i64 x_3 1000) (G5 .i64
 0 a1)) fun x_4=>l9 (qf (L9 .i64 x_3 1000) (G5 .i64 0 a1)) fun x_5=>l9 (U3 (x9 .i64
 (x9 .i64 (L9 .i64 x.1 1000000) (L9 .i64 x_2 1000)) x_4) x_5 (G5 .i64 0 a1) a2) fun x=>l9
 (bD x 1000000000) fun x_6=>l7 x_6 (some (0,3)) (some (x,0)))) (l9 (oz a0 a1) fun x=>l9
 (bD x.1 1001) fun x_1=>l7 x_1 (some (0,3)) (l9 (fH .i64 (L9 .i64 x.2 1000) a1) fun x_2=>
 l9 (qf (L9 .i64 x.2 1000) a1) fun x_3=>l9 (fH .i64 (L9 .i64 x_3 1000) a1) fun x_4=>l9
 (qf (L9 .i64 x_3 1000) a1) fun x_5=>l9 (U3 (x9 .i64 (x9 .i64 (L9 .i64 x.1 1000000)
 (L9 .i64 x_2 1000)) x_4) x_5 a1 a2) fun x=>l9 (bD x 1000000000) fun x_6=>l7 x_6 (some (0,3)) (some (x,
 0)))))))) fun r=>some r
def s26:FSpec:=mkS c7w c9g fun x=>jA x.1 x.2.1 x.2.2
def b3f:List MG:=[uiM,uiM,uiM]
def b6P:Ret:=⟨[(.tmp 6,uiM),(.tmp 7,uiM)],[]⟩
def d8K:Env:=⟨39,eqs,tt,gl,[(303,a6n),(304,a6o),(329,a9x),(327,a6q)],[],[],[],[]⟩
def c6b:Ann:=.leaf
def ou (a0:Int) (a1:Int) (a2:Int):Option o9:=l9 (vK a2) fun x=>l7 (D6 x) (some (0,1)) (l7
 (ieq a1 0) (some (0,12)) (l9 (aN a0 4611686018427387904) fun x=>l7 x (some (0,3)) (l9 (aN a1
 4611686018427387904) fun x=>l7 x (some (0,3)) (l9 (oZ a0) fun x=>l9 (oZ a1) fun x_1=>l9
 (fH .i64 x x_1) fun x_2=>l9 (qf x x_1) fun x=>l9 (dQ x_2 x x_1 (D6 (bZ (ilt a0 0) (ilt a1 0)))
 a2) fun x=>some (x,0)))))
def d2B:FSpec:=mkS b3f b6P fun x=>ou x.1 x.2.1 x.2.2
def b3g:List MG:=[uiM,uiM,uiM]
def b6Q:Ret:=⟨[(.tmp 6,uiM),(.tmp 7,uiM)],[]⟩
def d8L:Env:=⟨39,eqs,tt,gl,[(303,a6n),(304,a6o),(329,a9x),(327,a6q)],[],[],[],[]⟩
def c6c:Ann:=.leaf
def qC (a0:Int) (a1:Int) (a2:Int):Option o9:=l9 (vK a2) fun x=>l7 (D6 x) (some (0,1)) (l7
 (ilt a1 1) (some (0,12)) (l9 (aN a0 1000000000000000) fun x=>l7 x (some (0,3)) (l7 (ilt 1000000000000000 a1) (some
 (0,3)) (l9 (oZ a0) fun x=>l9 (fH .i64 x a1) fun x_1=>l9 (qf x a1) fun x=>l9
 (dQ x_1 x a1 (ilt a0 0) a2) fun x=>l9 (aN (L9 .i64 x a1) 1000000000000000) fun x_2=>l7 x_2
 (some (0,3)) (some (L9 .i64 x a1,0))))))
def d2C:FSpec:=mkS b3g b6Q fun x=>qC x.1 x.2.1 x.2.2
def b2D:List MG:=[(true,(.dat y2)),(true,(.dat y3)),(true,(.dat y3))]
def b6n:Ret:=⟨[(.cell 6 67,(true,(.dat y3))),(.tmp 7,uiM)],[]⟩
def d8i:Env:=⟨199,eqs,tt,gl,[(307,d2y),(308,d2z),(275,a9p),(309,d2A),(26,s26),(310,d2B),(311,d2C)],[],[],[],[]⟩
def c5w:Ann:=.seq lfA (.seq lfA (.seq (.joinR [(6,8),(9,19),(22,198),(4000384,4000385)] ⟨[(6,(false,(.box (.dat y3))))],[]⟩ (.blk (.seq (.join [(22,39)] ⟨[(22,ubM)],[]⟩ lfA) (.cond lfA (.seq (.join [(48,60)] ⟨[(48,ubM)],[]⟩ lfA) (.cond lfA (.seq (.join [(77,91)] ⟨[(77,ubM)],[]⟩ lfA) (.cond lfA (.seq (.join [(108,120)] ⟨[(108,ubM)],[]⟩ lfA) (.cond lfA (.seq (.join [(135,152)] ⟨[(135,ubM)],[]⟩ lfA) lfA))))))))))) lfA))
def pG (a0:o9) (a1:F7) (a2:F7):Option (F7×Int):=l9 (l9 (l7 (ieq a0.1 13) (l7 (ieq a2.1 2) (l7
 (ieq a1.1 3) (some true) (some (ieq a1.1 2))) (some false)) (some false)) fun x=>l7 x (l9 (mP a1.1 a1.2.2 a2.2.2) fun(x
 :F7×Int)=>some (.inr x)) (l9 (l7 (ieq a0.1 14) (l7 (ieq a2.1 4) (some (ieq a1.1 3)) (some false)) (some false)) fun x
 =>l7 x (l9 (wM a1.2.2 a2.2.2 a0.2) fun x=>l9 (iY a1.1 x.1 x.2) fun x=>some (.inr x))
 (l9 (l7 (ieq a0.1 14) (l7 (ieq a2.1 4) (some (ieq a1.1 4)) (some false)) (some false)) fun x=>l7 x (l9 (BG a1.2.2
 a2.2.2 a0.2) fun x=>l9 (iY a1.1 x.1 x.2) fun x=>some (.inr x)) (l9 (l7 (ieq a0.1 15) (l7
 (ieq a1.1 3) (some (ieq a2.1 3)) (some false)) (some false)) fun x=>l7 x (l9 (jA a1.2.2 a2.2.2 a0.2) fun(x:
 o9)=>l9 (iY 4 x.1 x.2) fun x=>some (.inr x)) (l9 (l7 (ieq a0.1 15) (l7 (ieq a2.1 2) (l7 (ieq
 a1.1 3) (some true) (some (ieq a1.1 2))) (some false)) (some false)) fun x=>l7 x (l9 (ou a1.2.2 a2.2.2 a0.2) fun(x:
 o9)=>l9 (iY a1.1 x.1 x.2) fun x=>some (.inr x)) (l7 (ieq a0.1 16) (l7 (ieq a1.1 3) (l7 (ieq a2.1
 3) (l9 (qC a1.2.2 a2.2.2 a0.2) fun x=>l9 (iY a1.1 x.1 x.2) fun x=>some (.inr x)) (some
 (.inl (0,0,0)))) (some (.inl (0,0,0)))) (some (.inl (0,0,0))))))))) fun o=>J9 o (fun(x:F7)=>
 some ((0,0,0),8)) fun r=>some r
def d2m:FSpec:=mkS b2D b6n fun x=>pG x.1 x.2.1 x.2.2
def b3x:List MG:=[uiM,uiM,uiM]
def b7h:Ret:=⟨[(.tmp 6,uiM),(.tmp 7,uiM)],[]⟩
def d9c:Env:=⟨50,eqs,tt,gl,[(301,a9u),(300,b9H)],[],[],[],[]⟩
def c6t:Ann:=.seq lfA (.seq (.joinR [(6,8),(11,28)] ⟨[],[]⟩ lfA) (.seq lfA (.seq (.seq lfA (.blk (.loop [(8,10),(30,39)] ⟨[(8,uiM),(9,uiM)],[]⟩ 0 ⟨[(8,uiM)],[]⟩ lfA))) (.seq (.seq lfA (.blk (.loop [(8,9),(10,11),(39,49)] ⟨[(8,uiM),(10,uiM)],[]⟩ 2 ⟨[(8,uiM)],[]⟩ lfA))) lfA))))
def mO (a0:Int) (a1:Int) (a2:Int):Option o9:=l9 (l7 (ilt a0 1900) (some (.inr (0,3))) (l7 (ilt 2199 a0) (some
 (.inr (0,3))) (l7 (ilt a2 1) (some (.inr (0,3))) (l9 (Y8 a0 a1) fun x=>l7 (ilt x a2) (some (.inr (0,
 3))) (some (.inl ())))))) fun o=>J9 o (fun(x:PUnit)=>l9 (P5 (fun(x:o9)=>l7 (ilt x.2
 a0) (l9 (bF x.2) fun x_1=>some (.inl (x9 .i64 x.1 x_1,x9 .i64 x.2 1))) (some (.inr x.1))) (G5
 .i64 a2 1,1900)) fun y=>l9 (P5 (fun(x:o9)=>l7 (ilt x.2 a1) (l9 (Y8 a0 x.2) fun x_1
 =>some (.inl (x9 .i64 x.1 x_1,x9 .i64 x.2 1))) (some (.inr x.1))) (y,1)) fun y=>some (y,0)) fun r
 =>some r
def d2L:FSpec:=mkS b3x b7h fun x=>mO x.1 x.2.1 x.2.2
def b3h:List MG:=[uiM,uiM]
def b6R:Ret:=⟨[(.tmp 4,uiM),(.tmp 5,uiM)],[]⟩
def d8M:Env:=⟨50,eqs,tt,gl,[(299,a9t),(272,b9C),(301,a9u),(330,d2L)],[],[],[],[]⟩
def c6d:Ann:=.seq lfA (.seq (.joinR [(4,6),(10,21)] ⟨[],[]⟩ lfA) lfA)
def eH (a0:Int) (a1:Int):Option o9:=l9 (l9 (lF a0) fun x=>l7 (D6 x) (some (.inr (0,3)))
 (l7 (ilt a1 (-3600)) (some (.inr (0,3))) (l7 (ilt 3600 a1) (some (.inr (0,3))) (some (.inl ()))))) fun o=>J9 o (fun(x:PUnit)=>l9 (sJ a0) fun x=>l9 (Y8 (V5 .i64 (x9 .i64
 (G5 .i64 (x9 .i64 (L9 .i64 12 x.1) x.2.1) 1) a1) 12) (x9 .i64 (V6 (x9 .i64 (G5 .i64 (x9
 .i64 (L9 .i64 12 x.1) x.2.1) 1) a1) 12) 1)) fun x_1=>l9 (mO (V5 .i64 (x9 .i64 (G5
 .i64 (x9 .i64 (L9 .i64 12 x.1) x.2.1) 1) a1) 12) (x9 .i64 (V6 (x9 .i64 (G5 .i64 (x9
 .i64 (L9 .i64 12 x.1) x.2.1) 1) a1) 12) 1) (eX x.2.2 x_1)) fun x=>some x) fun r=>some r
def b9I:FSpec:=mkS b3h b6R fun x=>eH x.1 x.2
def b3i:List MG:=[uiM,uiM]
def b6S:Ret:=⟨[(.tmp 4,uiM)],[]⟩
def d8N:Env:=⟨34,eqs,tt,gl,[(299,a9t),(312,b9I)],[],[],[],[]⟩
def c6e:Ann:=.seq lfA (.seq lfA (.seq lfA (.blk (.loopR [(4,8),(16,34)] ⟨[(5,uiM)],[]⟩ 999999 ⟨[],[]⟩ lfA))))
def iV (a0:Int) (a1:Int):Option Int:=l9 (lF a0) fun x=>l7 (D6 x) (some 0) (l9 (lF a1)
 fun x=>l7 (D6 x) (some 0) (l9 (J7 (fun(x:Int)=>l9 (eH a0 (L9 .i64 12 (x9 .i64 x 1))) fun
 (x_1:o9)=>l7 (D6 (ieq x_1.2 0)) (some (.rt x)) (l7 (ilt a1 x_1.1) (some (.rt x)) (some (.nx (x9 .i64 x 1))))) 0)
 fun o=>J9 o (fun(y:PUnit)=>none) fun r=>some r))
def d2D:FSpec:=mkS b3i b6S fun x=>iV x.1 x.2
def b2E:List MG:=[uiM,(true,(.dat y3)),(true,(.dat y3))]
def b6o:Ret:=⟨[(.cell 6 67,(true,(.dat y3))),(.tmp 7,uiM)],[]⟩
def d8j:Env:=⟨69,eqs,tt,gl,[(269,Xh),(312,b9I),(275,a9p),(313,d2D)],[],[],[],[]⟩
def c5x:Ann:=.leaf
def oG (a0:Int) (a1:F7) (a2:F7):Option (F7×Int):=l7 (D6 (ieq a1.1 5)) (some ((0,0,0),8)) (l7 (ieq a0 27)
 (l7 (D6 (ieq a2.1 2)) (some ((0,0,0),8)) (l7 (ieq a0 27) (l9 (U4 5 (x9 .i64 a1.2.2 a2.2.2)) fun x=>
 some x) (l9 (eH a1.2.2 a2.2.2) fun x=>l9 (iY 5 x.1 x.2) fun x=>some x))) (l7 (ieq a0
 28) (l7 (D6 (ieq a2.1 2)) (some ((0,0,0),8)) (l7 (ieq a0 27) (l9 (U4 5 (x9 .i64 a1.2.2 a2.2.2)) fun x
 =>some x) (l9 (eH a1.2.2 a2.2.2) fun x=>l9 (iY 5 x.1 x.2) fun x=>some x))) (l7
 (D6 (ieq a2.1 5)) (some ((0,0,0),8)) (l7 (ieq a0 29) (l9 (U4 2 (G5 .i64 a2.2.2 a1.2.2)) fun x=>some x)
 (l9 (iV a1.2.2 a2.2.2) fun x=>l9 (U4 2 x) fun x=>some x)))))
def d2n:FSpec:=mkS b2E b6o fun x=>oG x.1 x.2.1 x.2.2
def b2F:List MG:=[uiM,(true,(.dat y3)),(true,(.dat y3))]
def b6p:Ret:=⟨[(.cell 6 67,(true,(.dat y3))),(.tmp 7,uiM)],[]⟩
def d8k:Env:=⟨141,eqs,tt,gl,[(271,b9B),(270,b9A),(269,Xh)],[],[],[],[]⟩
def c5y:Ann:=.seq lfA (.seq (.joinR [(6,21),(4000384,4000385)] ⟨[(6,(false,(.box (.dat y3))))],[]⟩ lfA) (.seq (.joinR [(6,8),(21,100),(6000000,6000001)] ⟨[(6,(false,(.box (.dat y3))))],[]⟩ (.seq lfA (.blk (.seq lfA (.cond lfA (.seq lfA (.cond lfA (.seq (.join [(42,45)] ⟨[(42,ubM)],[]⟩ lfA) (.cond lfA (.seq (.join [(70,73)] ⟨[(70,ubM)],[]⟩ lfA) lfA)))))))))) (.seq (.joinR [(6,8),(100,110),(16000000,16000001)] ⟨[(6,(false,(.box (.dat y3))))],[]⟩ lfA) lfA)))
def iW (a0:Int) (a1:F7) (a2:F7):Option (F7×Int):=l9 (l7 (D6 (ieq a1.1 a2.1)) (some (.inr ((0,0,0),
 8))) (l7 (D6 (ieq a1.2.1 a2.2.1)) (some (.inr ((0,0,0),8))) (some (.inl (0,0,0))))) fun o=>J9 o (fun(x
 :F7)=>l9 (l7 (ieq a0 19) (l9 (iI (ieq a1.2.2 a2.2.2)) fun x=>some (.inr x)) (l7 (ieq a0 20) (l9
 (iI (D6 (ieq a1.2.2 a2.2.2))) fun x=>some (.inr x)) (l9 (l7 (ieq a0 23) (some (ieq a0 23)) (some (ieq a0 24)))
 fun x_1=>l7 x_1 (l7 (D6 (ieq a1.1 1)) (some (.inr ((0,0,0),8))) (l7 (ieq (x9 .i64 a1.2.2 a2.2.2) 2) (l9
 (iI true) fun x=>some (.inr x)) (l7 (ieq a0 24) (l9 (iI (ieq (x9 .i64 a1.2.2 a2.2.2) 1)) fun
 (x:F7×Int)=>some (.inr x)) (l9 (iI false) fun x=>some (.inr x))))) (l9 (l7 (ieq a0 11) (some
 (ieq a0 11)) (some (ieq a0 12))) fun x_2=>l7 x_2 (l9 (uB a1.1) fun x=>l7 (D6 x) (some (.inr ((0,0,0),
 8))) (l7 (ieq a0 11) (l9 (U4 a1.1 (x9 .i64 a1.2.2 a2.2.2)) fun x=>some (.inr x)) (l9 (U4 a1.1
 (G5 .i64 a1.2.2 a2.2.2)) fun x=>some (.inr x)))) (some (.inl x)))))) fun o=>J9 o (fun
 (x:F7)=>l9 (l9 (uB a1.1) fun x_1=>l7 (D6 x_1) (l7 (D6 (ieq a1.1 5)) (some (.inr ((0,0,0),8)))
 (some (.inl x))) (some (.inl x))) fun o=>J9 o (fun(x:F7)=>l7 (ieq a0 21) (l9 (iI (ilt
 a1.2.2 a2.2.2)) fun x=>some x) (l7 (ieq a0 22) (l9 (iI (ile a1.2.2 a2.2.2)) fun x=>some x)
 (l7 (bZ (ieq a0 17) (ilt a1.2.2 a2.2.2)) (some (a1,0)) (some (a2,0))))) fun r=>some r) fun r=>some r)
 fun r=>some r
def d2o:FSpec:=mkS b2F b6p fun x=>iW x.1 x.2.1 x.2.2
def b1R:List MG:=[(true,(.dat y2)),(true,(.dat y3)),(true,(.dat y3))]
def b5B:Ret:=⟨[(.cell 6 67,(true,(.dat y3))),(.tmp 7,uiM)],[]⟩
def d7w:Env:=⟨39,eqs,tt,gl,[(276,d2m),(277,d2n),(278,d2o)],[],[],[],[]⟩
def c4I:Ann:=.leaf
def ay (a0:o9) (a1:F7) (a2:F7):Option (F7×Int):=l7 (ile 13 a0.1) (l7 (ile a0.1 16) (l9 (pG
 a0 a1 a2) fun x=>some x) (l7 (ile 27 a0.1) (l9 (oG a0.1 a1 a2) fun x=>some x) (l9
 (iW a0.1 a1 a2) fun x=>some x))) (l7 (ile 27 a0.1) (l9 (oG a0.1 a1 a2) fun x=>some
 x) (l9 (iW a0.1 a1 a2) fun x=>some x))
def d1K:FSpec:=mkS b1R b5B fun x=>ay x.1 x.2.1 x.2.2
def b1w:List MG:=[(true,(.dat y2)),(false,(.dat y28)),(true,(.dat y42))]
def b5g:Ret:=⟨[(.cell 6 67,(true,(.dat y3))),(.tmp 7,uiM)],[]⟩
def d6Y:Env:=⟨112,eqs,tt,gl,[(226,d1F),(227,d1G),(225,YU),(228,d1H),(229,d1I),(230,d1J),(231,d1K)],[],[],[],[]⟩
def c4j:Ann:=.seq lfA (.seq lfA (.seq lfA (.seq (.seq lfA (.blk (.loopR [(6,9),(23,36),(4000384,4000385)] ⟨[(6,(false,(.box (.dat y3)))),(8,uiM)],[]⟩ 0 ⟨[(6,(false,(.box (.dat y3))))],[]⟩ lfA))) lfA)))
def jM (a0:o9) (a1:List F7) (a2:P9):Option (F7×Int):=l9 (uA a0 (o8 a1)) fun x=>l7
 (D6 x) (some ((0,0,0),2)) (l9 (EE a0 a2) fun x=>l7 (D6 x) (some ((0,0,0),6)) (l9 (J7 (fun(x:F7×
 Int)=>l7 (ilt x.2 (o8 a1)) (l9 (lat a1 x.2) fun x_1=>l9 (Y2 x_1) fun x_2=>l7 (D6 x_2) (some
 (.rt ((0,0,0),8))) (some (.nx (x.1,x9 .i64 x.2 1)))) (some (.ex x.1))) ((0,0,0),0)) fun o=>J9
 o (fun(y:F7)=>l7 (ieq (o8 a1) 0) (l7 (ile 36 a0.1) (l7 (ile a0.1 39) (l9 (qE a0 a2) fun x=>some
 x) (l9 (di a0 a2) fun x=>some x)) (l9 (di a0 a2) fun x=>some x)) (l7 (ieq (o8
 a1) 1) (l9 (lat a1 0) fun x=>l9 (jO a0 x a2) fun x=>some x) (l7 (ieq (o8 a1) 2) (l9 (lat a1
 0) fun x=>l9 (lat a1 1) fun x_1=>l9 (ay a0 x x_1) fun x=>some x) (l9 (lat a1 0) fun
 (x:F7)=>l9 (lat a1 1) fun x_1=>l9 (lat a1 2) fun x_2=>l7 (D6 (ieq x.1 1)) (some ((0,0,0),8)) (l7
 (D6 (ieq x_1.1 x_2.1)) (some ((0,0,0),8)) (l7 (D6 (ieq x_1.2.1 x_2.2.1)) (some ((0,0,0),8)) (l7 (ieq x.2.2 1) (some (x_1,0)) (some
 (x_2,0))))))))) fun r=>some r))
def d1v:FSpec:=mkS b1w b5g fun x=>jM x.1 x.2.1 x.2.2
def WN:List MG:=[(false,(.dat y12)),uiM,(true,(.dat y42))]
def a5k:List MG:=[(false,(.dat y12)),uiM,(false,(.dat y33)),(true,(.dat y42))]
def b4M:Ret:=⟨[(.cell 6 67,(true,(.dat y3))),(.tmp 7,uiM)],[]⟩
def d6C (r165:M.den (.dat y12)→M.den diM→M.den (.dat y42)→Option (S9 ([(true,(.dat y3)),uiM]++[]))) (r195:M.den (.dat y12)→M.den diM→M.den (.dat y33)→M.den (.dat y42)→Option (S9 ([(true,(.dat y3)),uiM]++[]))):Env:=⟨72,eqs,tt,gl,[(194,d1t),(195,⟨a5k,[(true,(.dat y3)),uiM],[],fun x=>r195 x.1 x.2.1 x.2.2.1 x.2.2.2⟩),(165,⟨WN,[(true,(.dat y3)),uiM],[],fun x=>r165 x.1 x.2.1 x.2.2⟩),(196,d1v)],[],[],[],[]⟩
def c3M:Ann:=.seq lfA (.seq lfA (.seq lfA (.seq (.joinR [(6,8),(22,39),(4000384,4000385)] ⟨[(6,(false,(.box (.dat y3))))],[]⟩ lfA) (.seq lfA (.seq (.seq lfA (.blk (.loopR [(6,8),(10,14),(39,63),(12000000,12000001)] ⟨[(6,(false,(.box (.dat y3)))),(10,(false,(.own y3))),(11,uiM)],[]⟩ 0 ⟨[(6,(false,(.box (.dat y3)))),(10,(false,(.own y3)))],[]⟩ lfA))) lfA)))))
def vM (r165:List o9→Int→P9→Option (F7×Int)) (r195:List o9→Int→List Int→P9→Option (F7×
 Int)) (a0:List o9) (a1:Int) (a2:P9):Option (F7×Int):=l9 (oD a0 a1) fun x=>l9 (lat a0 a1)
 fun x_1=>l9 (l7 (ieq x_1.1 23) (l9 (r195 a0 a1 x a2) fun x=>some (.inr x)) (l7 (ieq x_1.1 24)
 (l9 (r195 a0 a1 x a2) fun x=>some (.inr x)) (l7 (ieq x_1.1 26) (l9 (r195 a0 a1 x a2) fun x=>some
 (.inr x)) (some (.inl (0,0,0)))))) fun o=>J9 o (fun(x_2:F7)=>l9 (J7 (fun(x_3:F7×List
 F7×Int)=>l7 (ilt x_3.2.2 (o8 x)) (l9 (lat x x_3.2.2) fun x_4=>l9 (J4 x (toN x_3.2.2)) fun x=>l9 (r165 a0
 x a2) fun x=>l7 (D6 (ieq x.2 0)) (some (.rt ((0,0,0),x.2))) (l9 (X9 x_3.2.1 [x.1]) fun x=>some
 (.nx (x_3.1,x,x9 .i64 x_3.2.2 1)))) (some (.ex (x_3.1,x_3.2.1)))) (x_2,[],0)) fun o=>
 J9 o (fun(y:F7×List F7)=>l9 (lat a0 a1) fun x=>l9 (jM x y.2 a2) fun x=>some x) fun
 (r:F7×Int)=>some r) fun r=>some r
def c8V:Ret:=⟨[(.cell 8 67,(true,(.dat y3))),(.tmp 9,uiM)],[]⟩
def d6X (r165:M.den (.dat y12)→M.den diM→M.den (.dat y42)→Option (S9 ([(true,(.dat y3)),uiM]++[]))) (r195:M.den (.dat y12)→M.den diM→M.den (.dat y33)→M.den (.dat y42)→Option (S9 ([(true,(.dat y3)),uiM]++[]))):Env:=⟨102,eqs,tt,gl,[(165,⟨WN,[(true,(.dat y3)),uiM],[],fun x=>r165 x.1 x.2.1 x.2.2⟩),(225,YU)],[],[],[],[]⟩
def c4i:Ann:=.seq lfA (.seq lfA (.seq lfA (.seq lfA (.seq (.joinR [(8,10),(34,43),(4000512,4000513)] ⟨[(8,(false,(.box (.dat y3))))],[]⟩ lfA) lfA))))
def qW (r165:List o9→Int→P9→Option (F7×Int)) (r195:List o9→Int→List Int→P9→Option (F7×
 Int)) (a0:List o9) (a1:Int) (a2:List Int) (a3:P9):Option (F7×Int):=l9 (lat a0 a1) fun x=>l7 (D6
 (ieq x.2 0)) (some ((0,0,0),2)) (l9 (lat a2 0) fun x=>l9 (r165 a0 x a3) fun x=>l7 (D6 (ieq x.2 0)) (some
 ((0,0,0),x.2)) (l9 (l7 (D6 (ieq x.1.1 1)) (some (.inr ((0,0,0),8))) (l9 (Y2 x.1) fun x=>l7 (D6 x)
 (some (.inr ((0,0,0),8))) (some (.inl (0,0,0))))) fun o=>J9 o (fun(x_1:F7)=>l9 (lat a0 a1) fun
 (x_2:o9)=>l7 (ieq x_2.1 26) (l7 (ieq x.1.2.2 1) (l9 (lat a2 1) fun x=>l9 (r165 a0 x a3) fun x=>
 some x) (l9 (lat a2 2) fun x=>l9 (r165 a0 x a3) fun x=>some x)) (l9 (lat a0 a1) fun x_3=>l7
 (bZ (ieq x_3.1 23) (ieq x.1.2.2 0)) (some (x.1,0)) (l9 (lat a2 1) fun x=>l9 (r165 a0 x a3) fun x=>l7 (D6
 (ieq x.2 0)) (some ((0,0,0),x.2)) (l7 (D6 (ieq x.1.1 1)) (some ((0,0,0),8)) (l9 (Y2 x.1) fun x_4=>l7 (D6
 x_4) (some ((0,0,0),8)) (some (x.1,0))))))) fun r=>some r))
def I8:Nat→(M.den (.dat y12)→M.den diM→M.den (.dat y42)→Option (S9 ([(true,(.dat y3)),uiM]++[])))×(M.den (.dat y12)→M.den diM→M.den (.dat y33)→M.den (.dat y42)→Option (S9 ([(true,(.dat y3)),uiM]++[])))
 | 0=>(fun a0 a1 a2=>none,fun a0 a1 a2 a3=>none)
 | n+1=>(fun a0 a1 a2=>vM (I8 n).1 (I8 n).2 a0 a1 a2,fun a0 a1 a2 a3=>qW (I8 n).1 (I8 n).2 a0 a1 a2 a3)
def EF:M.den (.dat y12)→M.den diM→M.den (.dat y42)→Option (S9 ([(true,(.dat y3)),uiM]++[])):=fun a0 a1 a2=>(I8 bK).1 a0 a1 a2
def d1d:FSpec:=mkS WN b4M fun x=>EF x.1 x.2.1 x.2.2
def b0B:List MG:=[(false,(.dat y12)),(true,(.dat y42))]
def b4i:Ret:=⟨[(.cell 4 67,(true,(.dat y3))),(.tmp 5,uiM)],[]⟩
def d5Y:Env:=⟨25,eqs,tt,gl,[(164,d1c),(165,d1d)],[],[],[],[]⟩
def c3f:Ann:=.leaf
def yS (a0:List o9) (a1:P9):Option (F7×Int):=l9 (CY a0) fun x=>l7 (D6 (ieq x.2
 0)) (some ((0,0,0),x.2)) (l9 (EF a0 (G5 .i64 (o8 a0) 1) a1) fun x=>some x)
def b9o:FSpec:=mkS b0B b4i fun x=>yS x.1 x.2
def b1t:List MG:=[(false,(.dat y33)),(false,(.dat y33))]
def b5c:Ret:=⟨[(.tmp 4,uiM)],[]⟩
def d6T:Env:=⟨45,eqs,tt,gl,[],[],[],[],[]⟩
def c4e:Ann:=.seq lfA (.seq lfA (.seq lfA (.seq (.seq lfA (.blk (.loopR [(4,6),(14,45)] ⟨[(5,uiM)],[]⟩ 0 ⟨[],[]⟩ lfA))) lfA)))
def uC (a0:List Int) (a1:List Int):Option Int:=l7 (D6 (ieq (o8 a0) (o8 a1))) (some 2) (l7 (ilt 8 (o8 a0)) (some 4)
 (l9 (J7 (fun(x:Int)=>l7 (ilt x (o8 a0)) (l9 (lat a0 x) fun x_1=>l7 (ilt x_1 (-1)) (some (.rt 9)) (l9 (lat a0 x)
 fun x_2=>l7 (ile x x_2) (some (.rt 9)) (l9 (lat a1 x) fun x_3=>l7 (ilt x_3 0) (some (.rt 3)) (l9 (lat a1 x) fun
 (x_4:Int)=>l7 (ilt 9 x_4) (some (.rt 3)) (some (.nx (x9 .i64 x 1))))))) (some (.ex ()))) 0) fun o=>
 J9 o (fun(y:PUnit)=>some 0) fun r=>some r))
def d1r:FSpec:=mkS b1t b5c fun x=>uC x.1 x.2
def b2q:List MG:=[(false,(.dat y33)),uiM]
def b6a:Ret:=⟨[(.tmp 4,uoM)],[]⟩
def d7V:Env:=⟨25,eqs,tt,gl,[],[],[],[],[]⟩
def c5j:Ann:=.seq lfA (.seq lfA (.seq (.seq lfA (.blk (.loop [(5,7),(8,24),(7000448,7000449)] ⟨[(5,uoM),(6,uiM)],[]⟩ 0 ⟨[(5,uoM)],[]⟩ lfA))) lfA))
def yT (a0:List Int) (a1:Int):Option (List Int):=l9 (P5 (fun(x:List Int×Int)=>l7 (ilt x.2 (o8 a0)) (l9 (lat
 a0 x.2) fun x_1=>l7 (ieq x_1 a1) (l9 (X9 x.1 [x.2]) fun x_2=>some (.inl (x_2,x9 .i64 x.2 1))) (some
 (.inl (x.1,x9 .i64 x.2 1)))) (some (.inr x.1))) ([],0)) fun y=>some y
def d2f:FSpec:=mkS b2q b6a fun x=>yT x.1 x.2
def a0W:List MG:=[(false,(.dat y33)),(false,(.dat y33)),(false,(.dat (.sl .bool))),uiM]
def a5m:List MG:=[(false,(.dat y33)),(false,(.dat y33)),(false,(.dat (.sl .bool))),uiM]
def a0X:List MG:=[(false,(.dat y33)),(false,(.dat y33)),(false,(.dat (.sl .bool))),uiM]
def b5d:Ret:=⟨[(.tmp 8,uiM)],[]⟩
def d6U (r192:M.den (.dat y33)→M.den (.dat y33)→M.den (.dat (.sl .bool))→M.den diM→Option (S9 ([uiM]++[]))) (r223:M.den (.dat y33)→M.den (.dat y33)→M.den (.dat (.sl .bool))→M.den diM→Option (S9 ([(false,(.dat y33))]++[]))) (r224:M.den (.dat y33)→M.den (.dat y33)→M.den (.dat (.sl .bool))→M.den diM→Option (S9 ([uiM]++[]))):Env:=⟨28,eqs,tt,gl,[(223,⟨a5m,[(false,(.dat y33))],[],fun x=>r223 x.1 x.2.1 x.2.2.1 x.2.2.2⟩),(224,⟨a0X,[uiM],[],fun x=>r224 x.1 x.2.1 x.2.2.1 x.2.2.2⟩)],[],[],[],[]⟩
def c4f:Ann:=.leaf
def qi (r192:List Int→List Int→List Bool→Int→Option Int) (r223:List Int→List Int→List Bool→Int→Option (List Int))
 (r224:List Int→List Int→List Bool→Int→Option Int) (a0:List Int) (a1:List Int) (a2:List Bool) (a3:Int):Option Int:=l9 (r223
 a0 a1 a2 a3) fun x=>l7 (ieq (o8 x) 0) (some (-1)) (l7 (ilt 1 (o8 x)) (some (-2)) (l9 (lat x 0) fun x=>l9
 (r224 a0 a1 a2 x) fun x=>some x))
def c9a:Ret:=⟨[(.tmp 8,(false,(.dat y33)))],[]⟩
def d7o (r192:M.den (.dat y33)→M.den (.dat y33)→M.den (.dat (.sl .bool))→M.den diM→Option (S9 ([uiM]++[]))) (r223:M.den (.dat y33)→M.den (.dat y33)→M.den (.dat (.sl .bool))→M.den diM→Option (S9 ([(false,(.dat y33))]++[]))) (r224:M.den (.dat y33)→M.den (.dat y33)→M.den (.dat (.sl .bool))→M.den diM→Option (S9 ([uiM]++[]))):Env:=⟨78,eqs,tt,gl,[(263,d2f),(224,⟨a0X,[uiM],[],fun x=>r224 x.1 x.2.1 x.2.2.1 x.2.2.2⟩)],[],[],[],[]⟩
def c4z:Ann:=.seq lfA (.seq lfA (.seq lfA (.seq (.seq lfA (.blk (.loop [(10,12),(16,77),(10000960,10000961)] ⟨[(10,uoM),(11,uiM)],[]⟩ 0 ⟨[(10,uoM)],[]⟩ (.seq lfA (.seq (.blk (.seq lfA (.seq (.join [(10,11),(31,51),(17000000,17000001)] ⟨[(10,uoM)],[]⟩ lfA) lfA))) lfA))))) lfA)))
def wX (r192:List Int→List Int→List Bool→Int→Option Int) (r223:List Int→List Int→List Bool→Int→Option (List Int))
 (r224:List Int→List Int→List Bool→Int→Option Int) (a0:List Int) (a1:List Int) (a2:List Bool) (a3:Int):Option (List Int):=l9
 (yT a0 a3) fun x=>l9 (P5 (fun(x_1:List Int×Int)=>l7 (ilt x_1.2 (o8 x)) (l9 (lat x x_1.2) fun(x_2:
 Int)=>l9 (J4 x (toN x_1.2)) fun x_3=>l9 (r224 a0 a1 a2 x_3) fun x_4=>l7 (ieq x_4 (-1)) (some (.inl (x_1.1,x9
 .i64 x_1.2 1))) (l9 (l7 (ilt 0 (o8 x_1.1)) (l9 (lat x x_1.2) fun x_5=>l9 (J4 x (toN x_1.2)) fun x=>l9
 (lat a1 x) fun x=>l9 (lat x_1.1 0) fun x_6=>l9 (J4 x_1.1 (toN 0)) fun x_7=>l9 (lat a1 x_7) fun x_8
 =>l7 (ilt x_8 x) (some []) (some x_1.1)) (some x_1.1)) fun x_5=>l7 (ieq (o8 x_5) 0) (l9 (lat x x_1.2) fun x_6=>
 l9 (J4 x (toN x_1.2)) fun x=>l9 (X9 x_5 [x]) fun x=>some (.inl (x,x9 .i64 x_1.2 1))) (l9 (lat x
 x_1.2) fun x_6=>l9 (J4 x (toN x_1.2)) fun x_7=>l9 (lat a1 x_7) fun x_8=>l9 (lat x_5 0) fun x_9=>
 l9 (J4 x_5 (toN 0)) fun x_10=>l9 (lat a1 x_10) fun x_11=>l7 (ieq x_8 x_11) (l9 (lat x x_1.2) fun x_12=>
 l9 (J4 x (toN x_1.2)) fun x=>l9 (X9 x_5 [x]) fun x=>some (.inl (x,x9 .i64 x_1.2 1))) (some (.inl
 (x_5,x9 .i64 x_1.2 1)))))) (some (.inr x_1.1))) ([],0)) fun y=>some y
def c9c:Ret:=⟨[(.tmp 8,uiM)],[]⟩
def d7p (r192:M.den (.dat y33)→M.den (.dat y33)→M.den (.dat (.sl .bool))→M.den diM→Option (S9 ([uiM]++[]))) (r223:M.den (.dat y33)→M.den (.dat y33)→M.den (.dat (.sl .bool))→M.den diM→Option (S9 ([(false,(.dat y33))]++[]))) (r224:M.den (.dat y33)→M.den (.dat y33)→M.den (.dat (.sl .bool))→M.den diM→Option (S9 ([uiM]++[]))):Env:=⟨25,eqs,tt,gl,[(192,⟨a0W,[uiM],[],fun x=>r192 x.1 x.2.1 x.2.2.1 x.2.2.2⟩)],[],[],[],[]⟩
def c4A:Ann:=.leaf
def rQ (r192:List Int→List Int→List Bool→Int→Option Int) (r223:List Int→List Int→List Bool→Int→Option (List Int))
 (r224:List Int→List Int→List Bool→Int→Option Int) (a0:List Int) (a1:List Int) (a2:List Bool) (a3:Int):Option Int:=l9 (r192
 a0 a1 a2 a3) fun x=>l7 (ieq x (-1)) (l9 (lat a2 a3) fun x_1=>l7 x_1 (some a3) (some x)) (some x)
def F9:Nat→(M.den (.dat y33)→M.den (.dat y33)→M.den (.dat (.sl .bool))→M.den diM→Option (S9 ([uiM]++[])))×(M.den (.dat y33)→M.den (.dat y33)→M.den (.dat (.sl .bool))→M.den diM→Option (S9 ([(false,(.dat y33))]++[])))×(M.den (.dat y33)→M.den (.dat y33)→M.den (.dat (.sl .bool))→M.den diM→Option (S9 ([uiM]++[])))
 | 0=>(fun a0 a1 a2 a3=>none,fun a0 a1 a2 a3=>none,fun a0 a1 a2 a3=>none)
 | n+1=>(fun a0 a1 a2 a3=>qi (F9 n).1 (F9 n).2.1 (F9 n).2.2 a0 a1 a2 a3,fun a0 a1 a2 a3=>wX (F9 n).1 (F9 n).2.1 (F9 n).2.2 a0 a1 a2 a3,fun a0 a1 a2 a3=>rQ (F9 n).1 (F9 n).2.1 (F9 n).2.2 a0 a1 a2 a3)
def yU:M.den (.dat y33)→M.den (.dat y33)→M.den (.dat (.sl .bool))→M.den diM→Option (S9 ([uiM]++[])):=fun a0 a1 a2 a3=>(F9 bK).1 a0 a1 a2 a3
def d1s:FSpec:=mkS a0W b5d fun x=>yU x.1 x.2.1 x.2.2.1 x.2.2.2
def b1c:List MG:=[(false,(.dat y33)),(false,(.dat y33)),(false,(.dat (.sl .bool)))]
def b4K:Ret:=⟨[(.tmp 6,uiM)],[]⟩
def d6A:Env:=⟨22,eqs,tt,gl,[(191,d1r),(192,d1s)],[],[],[],[]⟩
def c3J:Ann:=.leaf
def xK (a0:List Int) (a1:List Int) (a2:List Bool):Option Int:=l9 (uC a0 a1) fun x=>l7 (D6 (ieq x 0))
 (some (-1)) (l7 (D6 (ieq (o8 a2) (o8 a0))) (some (-1)) (l9 (yU a0 a1 a2 (-1)) fun x=>some x))
def d1b:FSpec:=mkS b1c b4K fun x=>xK x.1 x.2.1 x.2.2
def b0A:List MG:=[(true,(.dat y24)),(true,(.dat y42)),uiM,uiM]
def b4h:Ret:=⟨[(.tmp 8,uiM),(.cell 9 85,(true,(.dat y32)))],[]⟩
def d5X:Env:=⟨84,eqs,tt,gl,[(162,d1a),(124,b9o),(163,d1b)],[],[],[],[]⟩
def c3e:Ann:=.seq lfA (.seq lfA (.seq lfA (.seq (.seq lfA (.blk (.loopR [(8,10),(13,18),(28,71),(4000576,4000577)] ⟨[(9,(false,(.box (.dat y32)))),(13,(false,(.own .bool))),(14,uiM)],[]⟩ 0 ⟨[(9,(false,(.box (.dat y32)))),(13,(false,(.own .bool)))],[]⟩ lfA))) lfA)))
def xO (a0:D8) (a1:P9) (a2:Int) (a3:Int):Option (Int×A7):=l9 (xM a0 a3 a1.1) fun(x:
 X3)=>l9 (J7 (fun(x_1:A7×List Bool×Int)=>l7 (ilt x_1.2.2 (o8 x.1)) (l9 (lat x.1 x_1.2.2) fun
 (x_2:Int)=>l9 (J4 x.1 (toN x_1.2.2)) fun x_3=>l9 (lat a0.2.2.2.2 x_3) fun x_4=>l7 (ieq (o8 x_4.2.2.2.2.2.1) 0)
 (l9 (X9 x_1.2.1 [true]) fun x=>some (.nx (x_1.1,x,x9 .i64 x_1.2.2 1))) (l9 (yS x_4.2.2.2.2.2.1 a1) fun
 (x_5:F7×Int)=>l7 (D6 (ieq x_5.2 0)) (l9 (lat x.1 x_1.2.2) fun x_6=>l9 (J4 x.1 (toN x_1.2.2)) fun x=>some
 (.rt (0,x_5.2,a2,a3,x))) (l9 (X9 x_1.2.1 [ieq x_5.1.2.2 1]) fun x=>some (.nx (x_1.1,x,x9 .i64 x_1.2.2
 1))))) (some (.ex (x_1.1,x_1.2.1)))) ((0,0,0,0),[],0)) fun o=>J9 o (fun
 (y:A7×List Bool)=>l9 (xK x.2.1 x.2.2 y.2) fun x_1=>l7 (ilt x_1 0) (some (x_1,0,0,0,0)) (l9
 (lat x.1 x_1) fun x_2=>l9 (J4 x.1 (toN x_1)) fun x=>some (x,0,0,0,0))) fun r=>some r
def d0D:FSpec:=mkS b0A b4h fun x=>xO x.1 x.2.1 x.2.2.1 x.2.2.2
def c8x:List MG:=[(true,(.dat y24)),(true,(.dat y42)),uiM,uiM]
def d0h:Ret:=⟨[(.cell 8 67,(true,(.dat y3))),(.tmp 9,uiM),(.cell 10 85,(true,(.dat y32)))],[]⟩
def e80:Env:=⟨62,eqs,tt,gl,[(123,d0D),(124,b9o)],[],[],[],[]⟩
def d5o:Ann:=.leaf
def xP (a0:D8) (a1:P9) (a2:Int) (a3:Int):Option (F7×Int×A7):=l9 (xO a0 a1 a2 a3) fun
 (x:Int×A7)=>l7 (D6 (ieq x.2.1 0)) (some ((0,0,0),0,x.2)) (l7 (ieq x.1 (-1)) (some ((0,0,0),0,10,a2,a3,-1))
 (l7 (ieq x.1 (-2)) (some ((0,0,0),0,11,a2,a3,-1)) (l9 (lat a0.2.2.2.2 x.1) fun x_1=>l9 (yS x_1.2.2.2.2.2.2.1 a1)
 fun x_2=>l7 (D6 (ieq x_2.2 0)) (some ((0,0,0),0,x_2.2,a2,a3,x.1)) (some (x_2.1,x.1,0,0,0,0)))))
def s80:FSpec:=mkS c8x d0h fun x=>xP x.1 x.2.1 x.2.2.1 x.2.2.2
def c8a:List MG:=[(true,(.dat y24)),(true,(.dat y42)),uiM,(false,(.dat (.sl .bool)))]
def c9K:Ret:=⟨[(.tmp 8,(false,(.own y3))),(.tmp 9,uoM),(.cell 10 85,(true,(.dat y32)))],[]⟩
def e57:Env:=⟨74,eqs,tt,gl,[(79,s79),(80,s80)],[],[],[],[]⟩
def d4R:Ann:=.seq lfA (.seq lfA (.seq lfA (.seq lfA (.seq (.seq lfA (.blk (.loopR [(5,6),(8,13),(15,20),(33,71),(4000320,4000321),(4000640,4000641),(7001472,7001473),(10001728,10001729)] ⟨[(5,(false,(.box (.pair diM (.pair (.dat y28) (.pair (.cell none) (.pair (.dat y29) (.pair (.dat y12) (.dat y9))))))))),(10,(false,(.box (.dat y32)))),(11,(false,(.own y3))),(12,uoM),(15,uiM)],[]⟩ 0 ⟨[(10,(false,(.box (.dat y32)))),(11,(false,(.own y3))),(12,uoM)],[]⟩ lfA))) lfA))))
def lm (a0:D8) (a1:P9) (a2:Int) (a3:List Bool):Option (List F7×List Int×A7):=l9 (iU (o8
 a0.2.2.2.1) (0,0,0)) fun x=>l9 (iU (o8 a0.2.2.2.1) 0) fun x_1=>l9 (jg a0) fun(x_2:
 List Int×Int)=>l9 (J7 (fun(x:(Int×List F7×PUnit×List (List F7)×List o9×List Y1)×A7×
 List F7×List Int×Int)=>l7 (ilt x.2.2.2.2 (o8 x_2.1)) (l9 (lat x_2.1 x.2.2.2.2) fun x_3=>l9 (J4 x_2.1 (toN
 x.2.2.2.2)) fun x_4=>l9 (lat a3 x_4) fun x_5=>l7 (D6 x_5) (some (.nx ((x.1.1,x.1.2.1,(),x.1.2.2.2),x.2.1,
 x.2.2.1,x.2.2.2.1,x9 .i64 x.2.2.2.2 1))) (l9 (xP a0 (x.1.1,x.1.2.1,x.2.2.1,x.1.2.2.2) a2 x_4) fun x_6=>l7 (D6 (ieq x_6.2.2.1 0)) (some (.rt ([],[],x_6.2.2))) (l9 (lat x.2.2.1 x_4) fun x_7=>l9 (J4
 x.2.2.1 (toN x_4)) fun x_8=>l9 (lat x.2.2.2.1 x_4) fun x_9=>l9 (J4 x.2.2.2.1 (toN x_4)) fun x_10=>some
 (.nx ((x.1.1,x.1.2.1,(),x.1.2.2.2),x.2.1,P6 x.2.2.1 (toN x_4) x_6.1,P6 x.2.2.2.1 (toN x_4) x_6.2.1,x9 .i64 x.2.2.2.2
 1))))) (some (.ex (x.2.1,x.2.2.1,x.2.2.2.1)))) ((a1.1,a1.2.1,(),a1.2.2.2),(0,0,0,0),x,x_1,0)) fun o=>J9 o (fun(y:A7×Qw)=>some (y.2.1,y.2.2,0,0,
 0,0)) fun r=>some r
def s57:FSpec:=mkS c8a c9K fun x=>lm x.1 x.2.1 x.2.2.1 x.2.2.2
def c7Z:List MG:=[(true,(.dat y27)),uiM,(true,(.dat y31)),(false,(.dat (.sl .bool)))]
def c9J:Ret:=⟨[(.tmp 8,(false,(.own y28))),(.tmp 9,(false,(.own y33))),(.cell 10 85,(true,(.dat y32)))],[]⟩
def e56:Env:=⟨55,eqs,tt,gl,[(54,s54),(78,s78),(57,s57)],[],[],[],[]⟩
def d4Q:Ann:=.seq lfA (.seq lfA (.seq lfA (.seq lfA (.seq (.seq lfA (.blk (.loopR [(8,13),(14,18),(21,52),(4000640,4000641)] ⟨[(10,(false,(.box (.dat y32)))),(11,(false,(.own y28))),(12,(false,(.own y33))),(14,uiM)],[]⟩ 0 ⟨[(10,(false,(.box (.dat y32)))),(11,(false,(.own y28))),(12,(false,(.own y33)))],[]⟩ lfA))) lfA))))
def jh (a0:L8) (a1:Int) (a2:U0) (a3:List Bool):Option (List (List F7)×List (List Int)×A7)
 :=l9 (dX a0 a1) fun x=>l9 (J7 (fun(x_1:A7×List (List F7)×List (List Int)×Int)=>
 l7 (ilt x_1.2.2.2 (o8 a2.2.2)) (l9 (wY a0 a2 x_1.2.2.2) fun x_2=>l9 (lm x x_2 x_1.2.2.2 a3) fun(x:
 List F7×List Int×A7)=>l7 (D6 (ieq x.2.2.1 0)) (some (.rt ([],[],x.2.2))) (l9 (X9 x_1.2.1 [x.1]) fun(x_3:
 List (List F7))=>l9 (X9 x_1.2.2.1 [x.2.1]) fun x=>some (.nx (x_1.1,x_3,x,x9 .i64 x_1.2.2.2 1))))
 (some (.ex (x_1.1,x_1.2.1,x_1.2.2.1)))) ((0,0,0,0),[],[],0)) fun o=>J9 o (fun(y:A7×List (List F7)×List (List Int))=>some
 (y.2.1,y.2.2,0,0,0,0)) fun r=>some r
def s56:FSpec:=mkS c7Z c9J fun x=>jh x.1 x.2.1 x.2.2.1 x.2.2.2
def c8b:List MG:=[(true,(.dat y27)),uiM,(true,(.dat y31)),(false,(.dat y29))]
def c9L:Ret:=⟨[(.cell 8 109,(true,(.dat y42)))],[]⟩
def e58:Env:=⟨42,eqs,tt,gl,[(54,s54)],[],[],[],[]⟩
def d4S:Ann:=.seq lfA (.seq lfA (.seq lfA (.seq (.seq lfA (.blk (.loop [(9,10),(11,12),(23,41),(7000576,7000577)] ⟨[(9,(false,(.box (.pair diM (.pair (.dat y28) (.pair (.dat y28) (.pair (.dat y29) (.pair (.own y2) (.dat y9))))))))),(11,uiM)],[]⟩ 0 ⟨[(9,(false,(.box (.pair diM (.pair (.dat y28) (.pair (.dat y28) (.pair (.dat y29) (.pair (.own y2) (.dat y9)))))))))],[]⟩ lfA))) lfA)))
def FP (a0:L8) (a1:Int) (a2:U0) (a3:List (List F7)):Option P9:=l9 (dX a0 a1) fun x=>l9
 (P5 (fun(x_1:P9×Int)=>l7 (ilt x_1.2 (o8 x.2.2.2.1)) (l9 (lat x.2.2.2.1 x_1.2) fun x=>l9 (X9 x_1.1.2.2.2.2.1
 [x.2]) fun x=>some (.inl ((x_1.1.1,x_1.1.2.1,x_1.1.2.2.1,x_1.1.2.2.2.1,x,x_1.1.2.2.2.2.2),x9 .i64 x_1.2 1)))
 (some (.inr x_1.1))) ((a2.1,a2.2.1,[],a3,[],a0.2.1),0)) fun y=>some y
def s58:FSpec:=mkS c8b c9L fun x=>FP x.1 x.2.1 x.2.2.1 x.2.2.2
def c7E:List MG:=[(true,(.dat y27)),uiM,(true,(.dat y31)),uiM]
def c9o:Ret:=⟨[(.cell 8 67,(true,(.dat y3))),(.tmp 9,uiM),(.cell 10 85,(true,(.dat y32)))],[]⟩
def e34:Env:=⟨84,eqs,tt,gl,[(53,s53),(54,s54),(55,s55),(56,s56),(58,s58),(57,s57)],[],[],[],[]⟩
def d4v:Ann:=.leaf
def fG (a0:L8) (a1:Int) (a2:U0) (a3:Int):Option (F7×Int×A7):=l9 (lat a0.2.2 a1) fun(x:
 D8)=>l9 (iU (o8 x.2.2.2.1) false) fun x_1=>l9 (qF x x_1 a3) fun x_2=>l9
 (dX a0 a1) fun x_3=>l9 (iU (o8 x_3.2.2.2.1) false) fun x_4=>l9 (jP a0 a1 x_4
 a3) fun x_5=>l9 (jh a0 a1 a2 x_5) fun x_6=>
 l7 (D6 (ieq x_6.2.2.1 0)) (some ((0,0,0),0,x_6.2.2)) (l9 (FP a0 a1 a2 x_6.1) fun x_7=>l9 (lm x x_7 (-1)
 x_2) fun x=>l7 (D6 (ieq x.2.2.1 0)) (some ((0,0,0),0,x.2.2)) (l9 (lat x.1 a3) fun(x_8
 :F7)=>l9 (J4 x.1 (toN a3)) fun x_9=>l9 (lat x.2.1 a3) fun x_10=>l9 (J4 x.2.1 (toN a3)) fun x=>
 some (x_9,x,0,0,0,0)))
def s34:FSpec:=mkS c7E c9o fun x=>fG x.1 x.2.1 x.2.2.1 x.2.2.2
def c7u:List MG:=[(true,(.dat y27)),uiM,(true,(.dat y31)),uiM,uiM,uiM]
def c9e:Ret:=⟨[(.tmp 12,uiM),(.tmp 13,uiM)],[]⟩
def e24:Env:=⟨64,eqs,tt,gl,[(33,s33),(34,s34)],[],[],[],[]⟩
def d4l:Ann:=.leaf
def iJ (a0:L8) (a1:Int) (a2:U0) (a3:Int) (a4:Int) (a5:Int):Option o9:=l7 (ilt a4 (o8 a2.2.1)) (l9 (X9
 [] a2.2.1) fun x=>l9 (lat x a4) fun x_1=>l9 (J4 x (toN a4)) fun x_2=>l9 (lh a0 a1
 (a2.1,P6 x (toN a4) (3,0,a5),a2.2.2)) fun x_3=>l7 (D6 (ieq x_3.2.2 0)) (some (0,x_3.2.2)) (l9 (fG a0 a1
 (a2.1,P6 x (toN a4) (3,0,a5),a2.2.2) a3) fun x=>l7 (D6 (ieq x.2.2.1 0)) (some (0,x.2.2.1)) (some
 (x.1.2.2,0)))) (l9 (lh a0 a1 a2) fun x=>l7 (D6 (ieq x.2.2 0)) (some (0,x.2.2)) (l9 (fG a0 a1 a2
 a3) fun x=>l7 (D6 (ieq x.2.2.1 0)) (some (0,x.2.2.1)) (some (x.1.2.2,0))))
def s24:FSpec:=mkS c7u c9e fun x=>iJ x.1 x.2.1 x.2.2.1 x.2.2.2.1 x.2.2.2.2.1 x.2.2.2.2.2
def c7e:List MG:=[(true,(.dat y27)),uiM,(true,(.dat y31)),uiM,uiM,uiM]
def c8L:Ret:=⟨[(.tmp 12,uiM),(.tmp 13,uiM)],[]⟩
def e11:Env:=⟨32,eqs,tt,gl,[(23,s23),(24,s24)],[],[],[],[]⟩
def d3Y:Ann:=.leaf
def wE (a0:L8) (a1:Int) (a2:U0) (a3:Int) (a4:Int) (a5:Int):Option o9:=l9 (lq a0 a1 a3 a4) fun(x
 :Int)=>l7 (D6 (ieq x 0)) (some (0,x)) (l9 (iJ a0 a1 a2 a3 a4 a5) fun x=>some x)
def s11:FSpec:=mkS c7e c8L fun x=>wE x.1 x.2.1 x.2.2.1 x.2.2.2.1 x.2.2.2.2.1 x.2.2.2.2.2
def ps3:List MG:=[(true,(.dat y27)),(true,(.dat y31)),(true,(.dat y32))]
def rt3:Ret:=⟨[(.tmp 6,ubM)],[]⟩
def e3:Env:=⟨59,eqs,tt,gl,[(7,s7),(8,s8),(9,s9),(10,s10),(11,s11)],[],[],[],[]⟩
def an3:Ann:=.seq lfA (.seq (.joinR [(6,7),(11,20)] ⟨[],[]⟩ lfA) lfA)
def mQ (a0:L8) (a1:U0) (a2:A7):Option Bool:=l9 (l9 (kD a0) fun x=>l7
 (D6 x) (l9 Y6 fun x=>some (.inr x)) (l9 (jb a1) fun x=>l7 (D6 x) (l9 Y6 fun(x
 :Bool)=>some (.inr x)) (some (.inl ())))) fun o=>J9 o (fun(x:PUnit)=>l9 (fD a0 a2.1 a1
 a2.2.1 a2.2.2.1 a2.2.2.2) fun x=>l9 (wE a0 a2.1 a1 a2.2.1 a2.2.2.1 a2.2.2.2) fun x_1=>l7 (ieq x.1
 x_1.1) (l7 (ieq x.2 x_1.2) (l9 Y6 fun x=>some x) (some false)) (some false)) fun r=>some r
def s3:FSpec:=mkS ps3 rt3 fun x=>mQ x.1 x.2.1 x.2.2
def c7g:List MG:=[(true,(.dat y27)),uiM,(true,(.dat y31)),uiM,uiM,uiM]
def c8N:Ret:=⟨[(.tmp 12,uiM),(.tmp 13,uiM)],[]⟩
def e13:Env:=⟨80,eqs,tt,gl,[(23,s23),(24,s24),(26,s26)],[],[],[],[]⟩
def d4a:Ann:=.leaf
def Df (a0:L8) (a1:Int) (a2:U0) (a3:Int) (a4:Int) (a5:Int):Option o9:=l9 (lq a0 a1 a3 a4) fun(x:
 Int)=>l7 (D6 (ieq x 0)) (some (0,x)) (l7 (ilt a5 1) (some (0,3)) (l7 (ilt 1000000000000000 a5) (some (0,3)) (l7 (ile (o8 a2.2.1)
 a4) (some (0,5)) (l9 (lat a2.2.1 a4) fun x=>l9 (iJ a0 a1 a2 a3 a4 x.2.2) fun x_1=>l7 (D6 (ieq
 x_1.2 0)) (some (0,x_1.2)) (l9 (iJ a0 a1 a2 a3 a4 (x9 .i64 x.2.2 a5)) fun x=>l7 (D6 (ieq x.2 0)) (some
 (0,x.2)) (l9 (jA (G5 .i64 x.1 x_1.1) a5 4) fun x=>some x))))))
def s13:FSpec:=mkS c7g c8N fun x=>Df x.1 x.2.1 x.2.2.1 x.2.2.2.1 x.2.2.2.2.1 x.2.2.2.2.2
def ps4:List MG:=[(true,(.dat y27)),(true,(.dat y31)),(true,(.dat y32))]
def rt4:Ret:=⟨[(.tmp 6,ubM)],[]⟩
def e4:Env:=⟨59,eqs,tt,gl,[(7,s7),(8,s8),(9,s9),(12,s12),(13,s13)],[],[],[],[]⟩
def an4:Ann:=.seq lfA (.seq (.joinR [(6,7),(11,20)] ⟨[],[]⟩ lfA) lfA)
def rM (a0:L8) (a1:U0) (a2:A7):Option Bool:=l9 (l9 (kD a0) fun x=>l7
 (D6 x) (l9 Y6 fun x=>some (.inr x)) (l9 (jb a1) fun x=>l7 (D6 x) (l9 Y6 fun(x
 :Bool)=>some (.inr x)) (some (.inl ())))) fun o=>J9 o (fun(x:PUnit)=>l9 (qx a0 a2.1 a1
 a2.2.1 a2.2.2.1 a2.2.2.2) fun x=>l9 (Df a0 a2.1 a1 a2.2.1 a2.2.2.1 a2.2.2.2) fun x_1=>l7 (ieq x.1
 x_1.1) (l7 (ieq x.2 x_1.2) (l9 Y6 fun x=>some x) (some false)) (some false)) fun r=>some r
def s4:FSpec:=mkS ps4 rt4 fun x=>rM x.1 x.2.1 x.2.2
def c7x:List MG:=[(true,(.dat y2)),uiM]
def c9h:Ret:=⟨[(.tmp 4,uiM)],[]⟩
def e27:Env:=⟨20,eqs,tt,gl,[],[],[],[],[]⟩
def d4o:Ann:=.leaf
def uF (a0:o9) (a1:Int):Option Int:=l7 (ile a0.2 a0.1) (some 0) (l9 (fH .i64 (G5 .i64 (G5
 .i64 a0.2 a0.1) 1) a1) fun x=>some (eX (x9 .i64 x 1) 4097))
def s27:FSpec:=mkS c7x c9h fun x=>uF x.1 x.2
def c7h:List MG:=[(true,(.dat y2)),uiM]
def c8O:Ret:=⟨[(.tmp 4,ubM)],[]⟩
def e14:Env:=⟨38,eqs,tt,gl,[(27,s27)],[],[],[],[]⟩
def d4b:Ann:=.leaf
def Bo (a0:o9) (a1:Int):Option Bool:=l7 (ilt a1 1) (some true) (l7 (ilt 1000000000000000 a1) (some true) (l7 (ilt a0.1
 (-1000000000000001)) (some true) (l7 (ilt 1000000000000001 a0.2) (some true) (l7 (ile a0.2 a0.1) (some true) (l9 (uF a0 a1) fun(x
 :Int)=>l7 (ile x 60) (some true) (some (ilt 4096 x)))))))
def s14:FSpec:=mkS c7h c8O fun x=>Bo x.1 x.2
def c7l:List MG:=[(true,(.dat y27)),uiM,(true,(.dat y31)),uiM,uiM,(true,(.dat y2)),uiM]
def c8Q:Ret:=⟨[(.tmp 14,(false,(.own y3))),(.tmp 15,uiM)],[]⟩
def e16:Env:=⟨106,eqs,tt,gl,[(23,s23),(27,s27),(24,s24)],[],[],[],[]⟩
def d4d:Ann:=.seq lfA (.seq lfA (.seq lfA (.seq (.joinR [(14,16),(31,57)] ⟨[],[]⟩ lfA) (.seq lfA (.seq lfA (.seq lfA (.seq lfA (.seq (.seq lfA (.blk (.loopR [(14,16),(18,23),(62,105)] ⟨[(18,(false,(.own y3))),(19,uiM),(20,uiM)],[]⟩ 0 ⟨[(18,(false,(.own y3)))],[]⟩ lfA))) lfA))))))))
def pV (a0:L8) (a1:Int) (a2:U0) (a3:Int) (a4:Int) (a5:o9) (a6:Int):Option (List F7×Int):=l9
 (lq a0 a1 a3 a4) fun x=>l7 (D6 (ieq x 0)) (some ([],x)) (l9 (l7 (ilt a6 1) (some (.inr ([],3))) (l7 (ilt
 1000000000000000 a6) (some (.inr ([],3))) (l7 (ilt a5.1 (-1000000000000001)) (some (.inr ([],3))) (l7 (ilt 1000000000000001 a5.1) (some
 (.inr ([],3))) (l7 (ilt a5.2 (-1000000000000001)) (some (.inr ([],3))) (l7 (ilt 1000000000000001 a5.2) (some (.inr ([],3))) (some
 (.inl ())))))))) fun o=>J9 o (fun(x:PUnit)=>l9 (uF a5 a6) fun x=>l7 (ilt
 4096 x) (some ([],4)) (l9 (J7 (fun(x_1:List F7×o9)=>l7 (ilt x_1.2.2 x) (l9 (iJ a0 a1 a2 a3 a4 (x9
 .i64 a5.1 (L9 .i64 x_1.2.2 a6))) fun x=>l7 (D6 (ieq x.2 0)) (some (.rt ([],x.2))) (l7 (ilt 0 x_1.2.2)
 (l7 (ilt x.1 x_1.2.1) (l9 (X9 x_1.1 [(x9 .i64 a5.1 (L9 .i64 x_1.2.2 a6),x_1.2.1,x.1)]) fun x_2=>some
 (.nx (x_2,x.1,x9 .i64 x_1.2.2 1))) (some (.nx (x_1.1,x.1,x9 .i64 x_1.2.2 1)))) (some (.nx (x_1.1,x.1,x9
 .i64 x_1.2.2 1))))) (some (.ex x_1.1))) ([],0,0)) fun o=>J9 o (fun(y:List F7)=>some (y,
 0)) fun r=>some r)) fun r=>some r)
def s16:FSpec:=mkS c7l c8Q fun x=>pV x.1 x.2.1 x.2.2.1 x.2.2.2.1 x.2.2.2.2.1 x.2.2.2.2.2.1 x.2.2.2.2.2.2
def ps5:List MG:=[(true,(.dat y27)),(true,(.dat y31)),(true,(.dat y32)),(true,(.dat y2))]
def rt5:Ret:=⟨[(.tmp 8,ubM)],[]⟩
def e5:Env:=⟨70,eqs,tt,gl,[(7,s7),(8,s8),(14,s14),(9,s9),(15,s15),(16,s16),(17,s17)],[],[],[],[]⟩
def an5:Ann:=.seq lfA (.seq (.joinR [(8,9),(13,29)] ⟨[],[]⟩ lfA) lfA)
def jZ (a0:L8) (a1:U0) (a2:A7) (a3:o9):Option Bool:=l9 (l9 (kD a0) fun
 (x:Bool)=>l7 (D6 x) (l9 Y6 fun x=>some (.inr x)) (l9 (jb a1) fun x=>l7 (D6 x)
 (l9 Y6 fun x=>some (.inr x)) (l9 (Bo a3 a2.2.2.2) fun x=>l7 (D6 x) (l9 Y6 fun(x:
 Bool)=>some (.inr x)) (some (.inl ()))))) fun o=>J9 o (fun(x:PUnit)=>l9 (ed a0 a2.1 a1
 a2.2.1 a2.2.2.1 a3 a2.2.2.2) fun x=>l9 (pV a0 a2.1 a1 a2.2.1 a2.2.2.1 a3 a2.2.2.2) fun x_1=>l9 (wQ x.1 x_1.1) fun x_2=>l7 x_2 (l7 (ieq x.2 x_1.2) (l9 Y6 fun x=>some x) (some false))
 (some false)) fun r=>some r
def s5:FSpec:=mkS ps5 rt5 fun x=>jZ x.1 x.2.1 x.2.2.1 x.2.2.2
def ps6:List MG:=[(true,(.dat y27)),(true,(.dat y31)),(true,(.dat y32)),(true,(.dat y2))]
def rt6:Ret:=⟨[(.tmp 8,ubM)],[]⟩
def e6:Env:=⟨143,eqs,tt,gl,[(7,s7),(8,s8),(14,s14),(9,s9),(15,s15),(10,s10)],[],[],[],[]⟩
def an6:Ann:=.seq lfA (.seq (.joinR [(8,9),(17,33)] ⟨[],[]⟩ lfA) (.seq lfA (.seq (.joinR [(8,9),(48,66)] ⟨[],[]⟩ lfA) (.seq lfA (.seq (.seq lfA (.blk (.loopR [(8,9),(11,17),(66,136)] ⟨[(11,uiM),(12,uiM),(13,uiM)],[]⟩ 0 ⟨[(11,uiM)],[]⟩ lfA))) lfA)))))
def nZ (a0:L8) (a1:U0) (a2:A7) (a3:o9):Option Bool:=l9 (l9 (kD a0) fun(x
 :Bool)=>l7 (D6 x) (l9 Y6 fun x=>some (.inr x)) (l9 (jb a1) fun x=>l7 (D6 x) (l9
 Y6 fun x=>some (.inr x)) (l9 (Bo a3 a2.2.2.2) fun x=>l7 (D6 x) (l9 Y6 fun x=>
 some (.inr x)) (some (.inl ()))))) fun o=>J9 o (fun(x:PUnit)=>l9 (ed a0 a2.1 a1 a2.2.1
 a2.2.2.1 a3 a2.2.2.2) fun x=>l9 (l7 (D6 (ieq x.2 0)) (l7 (ieq (o8 x.1) 0) (l9 Y6 fun x=>
 some (.inr x)) (some (.inr false))) (l7 (ilt a2.2.2.2 1) (l7 (ieq (o8 x.1) 0) (l9 Y6 fun x=>some (.inr x))
 (some (.inr false))) (l7 (ilt 1000000000000000 a2.2.2.2) (l7 (ieq (o8 x.1) 0) (l9 Y6 fun x=>some (.inr x)) (some
 (.inr false))) (some (.inl ()))))) fun o=>J9 o (fun(x_1:PUnit)=>l9 (J7 (fun(x_2:F7)=>l7
 (ilt x_2.2.2 60) (l7 (ilt a3.1 a3.2) (l7 (ilt (x9 .i64 a3.1 (L9 .i64 x_2.2.2 a2.2.2.2)) a3.2) (l9 (fD a0
 a2.1 a1 a2.2.1 a2.2.2.1 (x9 .i64 a3.1 (L9 .i64 x_2.2.2 a2.2.2.2))) fun x_3=>l7 (D6 (ieq x_3.2 0)) (some
 (.rt false)) (l7 (ilt 0 x_2.2.2) (l7 (ilt x_3.1 x_2.2.1) (l7 (ile (o8 x.1) x_2.1) (some (.rt false)) (l9 (lat x.1 x_2.1) fun(x_4
 :F7)=>l9 (J4 x.1 (toN x_2.1)) fun x=>l7 (D6 (aK (ieq x.1 (x9 .i64 a3.1 (L9 .i64 x_2.2.2 a2.2.2.2)))
 (aK (ieq x.2.1 x_2.2.1) (ieq x.2.2 x_3.1)))) (some (.rt false)) (some (.nx (x9 .i64 x_2.1 1,x_3.1,x9 .i64 x_2.2.2 1)))))
 (some (.nx (x_2.1,x_3.1,x9 .i64 x_2.2.2 1)))) (some (.nx (x_2.1,x_3.1,x9 .i64 x_2.2.2 1))))) (some (.ex x_2.1))) (some
 (.ex x_2.1))) (some (.ex x_2.1))) (0,0,0)) fun o=>J9 o (fun(y:Int)=>l7 (ieq y (o8 x.1)) (l9 Y6 fun
 (x:Bool)=>some x) (some false)) fun r=>some r) fun r=>some r) fun r=>some r
def s6:FSpec:=mkS ps6 rt6 fun x=>nZ x.1 x.2.1 x.2.2.1 x.2.2.2
end
end Gt
