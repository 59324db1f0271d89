import Derived.Test.YtfffbbadpgefmaaGreatDoorU1
set_option linter.all false
open Go Go.GP
namespace Gt
set_option maxRecDepth 100000
noncomputable section
def a5Q (f:Func):Code:=match f.body with | some c=>c | none=> .skip
abbrev mkS (ps:List MG) (rt:Ret) (F:U4 ps→Option rt.den):FSpec:=⟨ps,rt.rs.map (·.2),rt.outs.map (·.2),F⟩
abbrev lfA:Ann:=.leaf
abbrev diM:M:=.dat (.int .i64)
abbrev oiM:M:=.own (.int .i64)
abbrev dbM:M:=.dat .bool
abbrev uiM:MG:=(false,diM)
abbrev ubM:MG:=(false,dbM)
abbrev uoM:MG:=(false,oiM)
abbrev y0:Ty:=.prod .str (.sl .str)
abbrev y1:Ty:=.sl y0
abbrev y2:Ty:=.prod (.int .i64) (.int .i64)
abbrev y3:Ty:=.prod (.int .i64) y2
abbrev y4:Ty:=.prod y2 y3
abbrev y5:Ty:=.sl y4
abbrev y6:Ty:=.prod y2 y5
abbrev y7:Ty:=.prod y2 y6
abbrev y8:Ty:=.prod .str y7
abbrev y9:Ty:=.sl y8
abbrev y10:Ty:=.prod .str y2
abbrev y11:Ty:=.sl y10
abbrev y12:Ty:=.sl y2
abbrev y13:Ty:=.prod y12 .str
abbrev y14:Ty:=.prod y12 y13
abbrev y15:Ty:=.prod y2 y14
abbrev y16:Ty:=.prod (.int .i64) y15
abbrev y17:Ty:=.prod (.int .i64) y16
abbrev y18:Ty:=.prod (.int .i64) y17
abbrev y19:Ty:=.prod .str y18
abbrev y20:Ty:=.sl y19
abbrev y21:Ty:=.prod y11 y20
abbrev y22:Ty:=.prod y11 y21
abbrev y23:Ty:=.prod (.int .i64) y22
abbrev y24:Ty:=.prod .str y23
abbrev y25:Ty:=.sl y24
abbrev y26:Ty:=.prod y9 y25
abbrev y27:Ty:=.prod y1 y26
abbrev y28:Ty:=.sl y3
abbrev y29:Ty:=.sl y28
abbrev y30:Ty:=.prod y28 y29
abbrev y31:Ty:=.prod (.int .i64) y30
abbrev y32:Ty:=.sl (.int .i64)
abbrev y33:Ty:=.prod y28 y32
abbrev y34:Ty:=.sl y33
abbrev y35:Ty:=.prod y32 y34
abbrev y36:Ty:=.prod y28 y35
abbrev y37:Ty:=.prod (.int .i64) y3
abbrev y38:Ty:=.prod y12 y9
abbrev y39:Ty:=.prod y29 y38
abbrev y40:Ty:=.prod y28 y39
abbrev y41:Ty:=.prod y28 y40
abbrev y42:Ty:=.prod (.int .i64) y41
abbrev y43:Ty:=.prod (.sl .bool) (.sl .bool)
abbrev y44:Ty:=.prod y24 y43
abbrev y45:Ty:=.prod y24 y44
abbrev y46:Ty:=.sl y32
abbrev y47:Ty:=.prod y32 y42
abbrev y48:Ty:=.prod y12 y47
abbrev y49:Ty:=.prod y32 y32
abbrev y50:Ty:=.prod y32 y49
abbrev y51:Ty:=.prod y12 .bool
abbrev y52:Ty:=.prod y12 y51
abbrev y53:Ty:=.prod y12 y52
abbrev y54:Ty:=.prod y9 y53
abbrev y55:Ty:=.prod y1 y54
def tt:List (Nat×TI):=[
 (3,⟨1,8,(.int .i64),some (.int .i64),[.i .i64 0]⟩),
 (4,⟨1,1,.bool,some .bool,[.b false]⟩),
 (5,⟨1,1,(.int .u8),some (.int .u8),[.i .u8 0]⟩),
 (9,⟨1,16,.str,some .str,[.s []]⟩),
 (22,⟨1,24,(.sl 105),some y1,[.nl]⟩),
 (23,⟨1,24,(.sl 109),some y9,[.nl]⟩),
 (24,⟨1,24,(.sl 47),some y25,[.nl]⟩),
 (26,⟨3,72,(.struct [(22,0),(23,1),(24,2)]),some y27,[.nl,.nl,.nl]⟩),
 (27,⟨1,24,(.sl 60),some y28,[.nl]⟩),
 (28,⟨1,24,(.sl 27),some y29,[.nl]⟩),
 (30,⟨3,56,(.struct [(3,0),(27,1),(28,2)]),some y31,[.i .i64 0,.nl,.nl]⟩),
 (33,⟨1,24,(.sl 3),some y32,[.nl]⟩),
 (34,⟨1,24,(.sl 57),some y34,[.nl]⟩),
 (36,⟨3,72,(.struct [(27,0),(33,1),(34,2)]),some y36,[.nl,.nl,.nl]⟩),
 (37,⟨1,8,(.int .i64),some (.int .i64),[.i .i64 0]⟩),
 (39,⟨4,32,(.struct [(37,0),(3,1),(3,2),(3,3)]),some y37,[.i .i64 0,.i .i64 0,.i .i64 0,.i .i64 0]⟩),
 (44,⟨1,24,(.sl 54),some y11,[.nl]⟩),
 (45,⟨1,24,(.sl 99),some y20,[.nl]⟩),
 (47,⟨5,96,(.struct [(9,0),(3,1),(44,2),(44,3),(45,4)]),some y24,[.s [],.i .i64 0,.nl,.nl,.nl]⟩),
 (48,⟨1,24,(.sl 52),some y12,[.nl]⟩),
 (50,⟨6,128,(.struct [(3,0),(27,1),(27,2),(28,3),(48,4),(23,5)]),some y42,[.i .i64 0,.nl,.nl,.nl,.nl,.nl]⟩),
 (52,⟨2,16,(.struct [(3,0),(3,1)]),some y2,[.i .i64 0,.i .i64 0]⟩),
 (54,⟨3,32,(.struct [(9,0),(52,1)]),some y10,[.s [],.i .i64 0,.i .i64 0]⟩),
 (57,⟨2,48,(.struct [(27,0),(33,1)]),some y33,[.nl,.nl]⟩),
 (60,⟨3,24,(.struct [(3,0),(3,1),(3,2)]),some y3,[.i .i64 0,.i .i64 0,.i .i64 0]⟩),
 (72,⟨2,16,(.struct [(3,0),(3,1)]),some y2,[.i .i64 0,.i .i64 0]⟩),
 (73,⟨1,24,(.sl 72),some y12,[.nl]⟩),
 (78,⟨1,24,(.sl 4),some (.sl .bool),[.nl]⟩),
 (80,⟨12,240,(.struct [(47,0),(47,5),(78,10),(78,11)]),some y45,[.s [],.i .i64 0,.nl,.nl,.nl,.s [],.i .i64 0,.nl,.nl,.nl,.nl,.nl]⟩),
 (84,⟨1,24,(.sl 33),some y46,[.nl]⟩),
 (97,⟨2,16,(.struct [(3,0),(3,1)]),some y2,[.i .i64 0,.i .i64 0]⟩),
 (99,⟨9,120,(.struct [(9,0),(3,1),(3,2),(3,3),(97,4),(73,6),(73,7),(9,8)]),some y19,[.s [],.i .i64 0,.i .i64 0,.i .i64 0,.i .i64 0,.i .i64 0,.nl,.nl,.s []]⟩),
 (103,⟨1,24,(.sl 9),some (.sl .str),[.nl]⟩),
 (105,⟨2,40,(.struct [(9,0),(103,1)]),some y0,[.s [],.nl]⟩),
 (107,⟨1,24,(.sl 140),some y5,[.nl]⟩),
 (109,⟨6,72,(.struct [(9,0),(52,1),(52,3),(107,5)]),some y8,[.s [],.i .i64 0,.i .i64 0,.i .i64 0,.i .i64 0,.nl]⟩),
 (120,⟨4,32,(.struct [(37,0),(3,1),(3,2),(3,3)]),some y37,[.i .i64 0,.i .i64 0,.i .i64 0,.i .i64 0]⟩),
 (134,⟨8,176,(.struct [(73,0),(33,1),(50,2)]),some y48,[.nl,.nl,.i .i64 0,.nl,.nl,.nl,.nl,.nl]⟩),
 (140,⟨5,40,(.struct [(97,0),(3,2),(3,3),(3,4)]),some y4,[.i .i64 0,.i .i64 0,.i .i64 0,.i .i64 0,.i .i64 0]⟩),
 (172,⟨3,72,(.struct [(33,0),(33,1),(33,2)]),some y50,[.nl,.nl,.nl]⟩),
 (185,⟨1,8,(.ptr 186),none,[]⟩),
 (186,⟨1,24,(.sl 3),some y32,[.nl]⟩),
 (201,⟨1,8,(.int .u64),some (.int .u64),[.i .u64 0]⟩),
 (219,⟨6,128,(.struct [(22,0),(23,1),(48,2),(48,3),(48,4),(4,5)]),some y55,[.nl,.nl,.nl,.nl,.nl,.b false]⟩),
 (252,⟨1,8,(.int .u64),some (.int .u64),[.i .u64 0]⟩),
 (306,⟨1,16,.other,none,[]⟩),
 (310,⟨12,96,(.arr 12 3),none,[.i .i64 0,.i .i64 0,.i .i64 0,.i .i64 0,.i .i64 0,.i .i64 0,.i .i64 0,.i .i64 0,.i .i64 0,.i .i64 0,.i .i64 0,.i .i64 0]⟩)]
def eqs:List (Nat×List Ty):=[(39,[(.int .i64),(.int .i64),(.int .i64),(.int .i64)]),(52,[(.int .i64),(.int .i64)]),(60,[(.int .i64),(.int .i64),(.int .i64)])]
def gl:List (Nat×(t:Ty)×List t.den):=[(2,⟨.int .i64,[31,28,31,30,31,30,31,31,30,31,30,31]⟩)]
abbrev F6:Type:=Ty.den y2
abbrev bi:Type:=Ty.den y10
abbrev F8:Type:=Ty.den y3
abbrev bK:Type:=Ty.den y0
abbrev E8:Type:=Ty.den y37
abbrev uw:Type:=Ty.den y4
abbrev Z5:Type:=Ty.den y50
abbrev kw:Type:=Ty.den y33
abbrev U8:Type:=Ty.den y31
abbrev dY:Type:=Ty.den y36
abbrev V8:Type:=Ty.den y8
abbrev X0:Type:=Ty.den y19
abbrev I8:Type:=Ty.den y55
abbrev P5:Type:=Ty.den y42
abbrev A8:Type:=Ty.den y24
abbrev P7:Type:=Ty.den y48
abbrev I4:Type:=Ty.den y45
abbrev L6:Type:=Ty.den y27
def c9X:List MG:=[(true,(.dat y24))]
def d1C:Ret:=⟨[(.tmp 2,ubM)],[]⟩
def e55:Env:=⟨93,eqs,tt,gl,[],[],[],[],[]⟩
def d6B:Ann:=.seq lfA (.seq (.joinR [(2,3),(7,29)] ⟨[],[]⟩ lfA) (.seq (.seq lfA (.blk (.loopR [(2,4),(29,44)] ⟨[(3,uiM)],[]⟩ 0 ⟨[],[]⟩ lfA))) (.seq (.seq lfA (.blk (.loopR [(2,3),(4,5),(44,59)] ⟨[(4,uiM)],[]⟩ 2 ⟨[],[]⟩ lfA))) (.seq (.seq lfA (.blk (.loopR [(2,3),(5,7),(59,93)] ⟨[(5,uiM)],[]⟩ 4 ⟨[],[]⟩ lfA))) lfA))))
def sN (a0:A8):Option Bool:=l9 (l7 (ilt 80 (o8 a0.1)) (some (.inr false)) (l7 (ilt 14 (o8 a0.2.2.1)) (some
 (.inr false)) (l7 (ilt 14 (o8 a0.2.2.2.1)) (some (.inr false)) (l7 (ilt 60 (o8 a0.2.2.2.2)) (some (.inr false)) (some (.inl
 ())))))) fun o=>L8 o (fun(x:PUnit)=>l9 (J9 (fun(x:Int)=>l7 (ilt x (o8 a0.2.2.1)) (l9 (lat
 a0.2.2.1 x) fun x_1=>l7 (ilt 80 (o8 x_1.1)) (some (.rt false)) (some (.nx (x8 .i64 x 1)))) (some (.ex
 ()))) 0) fun o=>L8 o (fun(y:PUnit)=>l9 (J9 (fun(x:Int)=>l7 (ilt x (o8 a0.2.2.2.1)) (l9 (lat
 a0.2.2.2.1 x) fun x_1=>l7 (ilt 80 (o8 x_1.1)) (some (.rt false)) (some (.nx (x8 .i64 x 1)))) (some (.ex
 ()))) 0) fun o=>L8 o (fun(y:PUnit)=>l9 (J9 (fun(x:Int)=>l7 (ilt x (o8 a0.2.2.2.2)) (l9 (lat
 a0.2.2.2.2 x) fun x_1=>l7 (ilt 80 (o8 x_1.1)) (some (.rt false)) (l7 (ilt 80 (o8 x_1.2.2.2.2.2.2.2)) (some (.rt false))
 (l7 (ilt 50 (o8 x_1.2.2.2.2.2.1)) (some (.rt false)) (l7 (ilt 50 (o8 x_1.2.2.2.2.2.2.1)) (some (.rt false)) (some (.nx (x8
 .i64 x 1))))))) (some (.ex ()))) 0) fun o=>L8 o (fun(y:PUnit)=>some true) fun r=>some r) fun
 (r:Bool)=>some r) fun r=>some r) fun r=>some r
def s55:FSpec:=mkS c9X d1C fun x=>sN x
def c9t:List MG:=[(true,(.dat y27))]
def d0Z:Ret:=⟨[(.tmp 2,ubM)],[]⟩
def e23:Env:=⟨127,eqs,tt,gl,[(55,s55)],[],[],[],[]⟩
def d5Z:Ann:=.seq lfA (.seq (.joinR [(2,3),(9,25)] ⟨[],[]⟩ lfA) (.seq lfA (.seq lfA (.seq (.seq lfA (.blk (.loopR [(2,3),(5,7),(25,72)] ⟨[(5,uiM)],[]⟩ 0 ⟨[],[]⟩ (.seq lfA (.seq (.blk (.seq lfA (.seq lfA (.blk (.loopR [(2,3),(6,7),(50,72)] ⟨[(6,uiM)],[]⟩ 2 ⟨[],[]⟩ lfA))))) lfA))))) (.seq (.seq lfA (.blk (.loopR [(2,4),(7,8),(72,100)] ⟨[(3,uiM),(7,uiM)],[]⟩ 4 ⟨[],[]⟩ lfA))) (.seq (.seq lfA (.blk (.loopR [(2,3),(4,5),(8,9),(100,127)] ⟨[(4,uiM),(8,uiM)],[]⟩ 6 ⟨[],[]⟩ lfA))) lfA))))))
def xm (a0:L6):Option Bool:=l9 (l7 (ilt 9 (o8 a0.1)) (some (.inr false)) (l7 (ilt 9 (o8 a0.2.1)) (some (.inr
 false)) (l7 (ilt 5 (o8 a0.2.2)) (some (.inr false)) (some (.inl ()))))) fun o=>L8 o (fun(x:PUnit)=>l9
 (J9 (fun(x:Int)=>l7 (ilt x (o8 a0.1)) (l9 (lat a0.1 x) fun x_1=>l7 (ilt 80 (o8 x_1.1)) (some (.rt false)) (l9
 (lat a0.1 x) fun x_2=>l7 (ilt 20 (o8 x_2.2)) (some (.rt false)) (l9 (J9 (fun(x_3:Int)=>l9 (lat a0.1 x) fun(x_4:
 bK)=>l7 (ilt x_3 (o8 x_4.2)) (l9 (lat a0.1 x) fun x=>l9 (lat x.2 x_3) fun x=>l7 (ilt 80 (o8 x))
 (some (.rt false)) (some (.nx (x8 .i64 x_3 1)))) (some (.ex ()))) 0) fun o=>L8 o (fun(y:PUnit)=>
 some (.nx (x8 .i64 x 1))) fun r=>some (.rt r)))) (some (.ex ()))) 0) fun o=>L8 o (fun(y:
 PUnit)=>l9 (J9 (fun(x:F6)=>l7 (ilt x.2 (o8 a0.2.1)) (l9 (lat a0.2.1 x.2) fun x_1=>l9 (lat a0.2.1 x.2) fun
 (x_2:V8)=>l7 (ilt 80 (o8 x_2.1)) (some (.rt false)) (l7 (ilt 150 (x8 .i64 x.1 (o8 x_1.2.2.2))) (some (.rt false))
 (some (.nx (x8 .i64 x.1 (o8 x_1.2.2.2),x8 .i64 x.2 1))))) (some (.ex ()))) (0,0)) fun o=>L8
 o (fun(y:PUnit)=>l9 (J9 (fun(x:F6)=>l7 (ilt x.2 (o8 a0.2.2)) (l9 (lat a0.2.2 x.2) fun x_1=>l7 (ilt 60
 (x8 .i64 x.1 (o8 x_1.2.2.2.2))) (some (.rt false)) (l9 (lat a0.2.2 x.2) fun x_2=>l9 (sN x_2) fun(x_3:
 Bool)=>l7 (D6 x_3) (some (.rt false)) (some (.nx (x8 .i64 x.1 (o8 x_1.2.2.2.2),x8 .i64 x.2 1))))) (some (.ex
 ()))) (0,0)) fun o=>L8 o (fun(y:PUnit)=>some true) fun r=>some r) fun r=>some r) fun(r:
 Bool)=>some r) fun r=>some r
def s23:FSpec:=mkS c9t d0Z fun x=>xm x
def c9u:List MG:=[(true,(.dat y31))]
def d1a:Ret:=⟨[(.tmp 2,ubM)],[]⟩
def e24:Env:=⟨28,eqs,tt,gl,[],[],[],[],[]⟩
def d6a:Ann:=.seq lfA (.seq lfA (.seq (.seq lfA (.blk (.loopR [(2,4),(14,28)] ⟨[(3,uiM)],[]⟩ 0 ⟨[],[]⟩ lfA))) lfA))
def vJ (a0:U8):Option Bool:=l7 (ilt 14 (o8 a0.2.1)) (some false) (l7 (ilt 10 (o8 a0.2.2)) (some false) (l9 (J9
 (fun(x:Int)=>l7 (ilt x (o8 a0.2.2)) (l9 (lat a0.2.2 x) fun x_1=>l7 (ilt 14 (o8 x_1)) (some (.rt false)) (some
 (.nx (x8 .i64 x 1)))) (some (.ex ()))) 0) fun o=>L8 o (fun(y:PUnit)=>some true) fun r=>
 some r))
def s24:FSpec:=mkS c9u d1a fun x=>vJ x
def c9g:List MG:=[(true,(.dat y27)),(true,(.dat y31))]
def d0J:Ret:=⟨[(.tmp 4,ubM)],[]⟩
def e10:Env:=⟨11,eqs,tt,gl,[(23,s23),(24,s24)],[],[],[],[]⟩
def d5O:Ann:=.leaf
def lL (a0:L6) (a1:U8):Option Bool:=l9 (xm a0) fun x=>l7 x (l9 (vJ a1) fun x
 =>some x) (some false)
def s10:FSpec:=mkS c9g d0J fun x=>lL x.1 x.2
def c9v:List MG:=[(false,(.dat y12))]
def d1b:Ret:=⟨[(.cell 2 26,(true,(.pair (.dat y1) (.pair (.dat y9) (.own y24)))))],[]⟩
def e25:Env:=⟨22,eqs,tt,gl,[],[],[],[],[]⟩
def d6b:Ann:=.leaf
def Kw (a0:List F6):Option L6:=some ([],[],[([104,111,117,115,101],-1,[([97],3,0)],[([100],3,0)],[([98,97,115,
 101],0,-1,0,(0,109573),[],a0,[])])])
def s25:FSpec:=mkS c9v d1b fun x=>Kw x
def b2K:List MG:=[(false,(.dat (.int .u8)))]
def b6A:Ret:=⟨[(.tmp 2,ubM)],[]⟩
def d8l:Env:=⟨9,eqs,tt,gl,[],[],[],[],[]⟩
def c5N:Ann:=.leaf
def nN (a0:Int):Option Bool:=l7 (ile 97 a0) (some (ile a0 122)) (some false)
def c1r:FSpec:=mkS b2K b6A fun x=>nN x
def b3v:List MG:=[(false,(.dat (.int .u8)))]
def b7l:Ret:=⟨[(.tmp 2,ubM)],[]⟩
def d8W:Env:=⟨9,eqs,tt,gl,[],[],[],[],[]⟩
def c6z:Ann:=.leaf
def qX (a0:Int):Option Bool:=l7 (ile 48 a0) (some (ile a0 57)) (some false)
def d3s:FSpec:=mkS b3v b7l fun x=>qX x
def b2L:List MG:=[(false,(.dat .str))]
def b6B:Ret:=⟨[(.tmp 2,uiM)],[]⟩
def d8m:Env:=⟨29,eqs,tt,gl,[(158,c1r),(213,d3s)],[],[],[],[]⟩
def c5O:Ann:=.seq lfA (.seq lfA (.seq (.blk (.loop [(3,28)] ⟨[(3,uiM)],[]⟩ 0 ⟨[(3,uiM)],[]⟩ lfA)) lfA))
def qi (a0:List UInt8):Option Int:=l9 (N8 (fun(x:Int)=>l7 (ilt x (o8 a0)) (l9 (sat a0 x) fun x_1=>
 l9 (nN x_1) fun x_2=>l7 x_2 (some (.inl (x8 .i64 x 1))) (l9 (sat a0 x) fun x_3=>l9
 (qX x_3) fun x_4=>l7 x_4 (some (.inl (x8 .i64 x 1))) (l9 (sat a0 x) fun x_5=>l7 (ieq x_5 95)
 (some (.inl (x8 .i64 x 1))) (some (.inr x))))) (some (.inr x))) 0) fun y=>some y
def d2Q:FSpec:=mkS b2L b6B fun x=>qi x
def b2M:List MG:=[(false,(.dat .str))]
def b6C:Ret:=⟨[(.tmp 2,ubM)],[]⟩
def d8n:Env:=⟨60,eqs,tt,gl,[],[],[],[],[]⟩
def c5P:Ann:=.seq lfA (.seq (.seq lfA (.blk (.seq (.join [(4,60)] ⟨[(4,ubM)],[]⟩ lfA) lfA))) lfA)
def uQ (a0:List UInt8):Option Bool:=l9 (l7 (seq a0 [105,102]) (some (seq a0 [105,102])) (l7 (seq a0 [116,104,101,110])
 (some (seq a0 [116,104,101,110])) (l7 (seq a0 [101,108,115,101]) (some (seq a0 [101,108,115,101])) (l7 (seq a0 [111,114]) (some (seq
 a0 [111,114])) (l7 (seq a0 [97,110,100]) (some (seq a0 [97,110,100])) (l7 (seq a0 [110,111,116]) (some (seq a0 [110,111,116])) (l7
 (seq a0 [116,114,117,101]) (some (seq a0 [116,114,117,101])) (l7 (seq a0 [102,97,108,115,101]) (some (seq a0 [102,97,108,115,101]))
 (l7 (seq a0 [116,111,100,97,121]) (some (seq a0 [116,111,100,97,121])) (l7 (seq a0 [115,104,97,114,101]) (some (seq a0 [115,104,
 97,114,101])) (l7 (seq a0 [100,105,118]) (some (seq a0 [100,105,118])) (l7 (seq a0 [114,111,117,110,100]) (some (seq a0 [114,111,
 117,110,100])) (l7 (seq a0 [109,105,110]) (some (seq a0 [109,105,110])) (l7 (seq a0 [109,97,120]) (some (seq a0 [109,97,120])) (l7
 (seq a0 [112,108,117,115]) (some (seq a0 [112,108,117,115])) (l7 (seq a0 [109,111,110,116,104,115]) (some (seq a0 [109,111,110,116,
 104,115])) (l7 (seq a0 [100,97,121,115]) (some (seq a0 [100,97,121,115])) (l7 (seq a0 [121,101,97,114,115]) (some (seq a0 [121,101,
 97,114,115])) (l7 (seq a0 [121,101,97,114]) (some (seq a0 [121,101,97,114])) (l7 (seq a0 [109,111,110,116,104]) (some (seq a0 [109,
 111,110,116,104])) (l7 (seq a0 [116,97,98]) (some (seq a0 [116,97,98])) (l7 (seq a0 [98,97,110,100]) (some (seq a0 [98,97,110,
 100])) (l7 (seq a0 [99,111,117,110,116]) (some (seq a0 [99,111,117,110,116])) (l7 (seq a0 [115,117,109]) (some (seq a0 [115,117,
 109])) (l7 (seq a0 [97,108,108]) (some (seq a0 [97,108,108])) (l7 (seq a0 [97,110,121]) (some (seq a0 [97,110,121])) (l7 (seq a0
 [109,111,115,116]) (some (seq a0 [109,111,115,116])) (l7 (seq a0 [101,110,117,109]) (some (seq a0 [101,110,117,109])) (l7 (seq a0
 [116,97,98,108,101]) (some (seq a0 [116,97,98,108,101])) (l7 (seq a0 [114,111,119]) (some (seq a0 [114,111,119])) (l7 (seq a0 [115,
 99,111,112,101]) (some (seq a0 [115,99,111,112,101])) (l7 (seq a0 [109,101,109,98,101,114,115]) (some (seq a0 [109,101,109,98,
 101,114,115])) (l7 (seq a0 [105,110,112,117,116]) (some (seq a0 [105,110,112,117,116])) (l7 (seq a0 [100,101,102]) (some (seq a0
 [100,101,102])) (l7 (seq a0 [114,117,108,101]) (some (seq a0 [114,117,108,101])) (l7 (seq a0 [111,102]) (some (seq a0 [111,102]))
 (l7 (seq a0 [111,118,101,114]) (some (seq a0 [111,118,101,114])) (l7 (seq a0 [112,114,105,111]) (some (seq a0 [112,114,105,111]))
 (l7 (seq a0 [102,114,111,109]) (some (seq a0 [102,114,111,109])) (l7 (seq a0 [116,111]) (some (seq a0 [116,111])) (l7 (seq a0 [101,
 110,100]) (some (seq a0 [101,110,100])) (l7 (seq a0 [119,104,101,110]) (some (seq a0 [119,104,101,110])) (l7 (seq a0 [105,115]) (some
 (seq a0 [105,115])) (l7 (seq a0 [115,114,99]) (some (seq a0 [115,114,99])) (l7 (seq a0 [98,111,111,108]) (some (seq a0 [98,111,111,
 108])) (l7 (seq a0 [105,110,116]) (some (seq a0 [105,110,116])) (l7 (seq a0 [109,111,110,101,121]) (some (seq a0 [109,111,110,101,
 121])) (l7 (seq a0 [114,97,116,101]) (some (seq a0 [114,97,116,101])) (l7 (seq a0 [100,97,116,101]) (some (seq a0 [100,97,116,
 101])) (l7 (seq a0 [100,111,119,110]) (some (seq a0 [100,111,119,110])) (l7 (seq a0 [117,112]) (some (seq a0 [117,112])) (l7 (seq a0
 [122,101,114,111]) (some (seq a0 [122,101,114,111])) (l7 (seq a0 [97,119,97,121]) (some (seq a0 [97,119,97,121])) (l7 (seq a0 [104,
 97,108,102]) (some (seq a0 [104,97,108,102])) (some (seq a0 [101,118,101,110])))))))))))))))))))))))))))))))))))))))))))))))))))))))) fun(x
 :Bool)=>l7 x (some true) (some false)
def d2R:FSpec:=mkS b2M b6C fun x=>uQ x
def b2l:List MG:=[(false,(.dat .str))]
def b6b:Ret:=⟨[(.tmp 2,ubM)],[]⟩
def d7I:Env:=⟨27,eqs,tt,gl,[(158,c1r),(159,d2Q),(160,d2R)],[],[],[],[]⟩
def c5i:Ann:=.leaf
def aJ (a0:List UInt8):Option Bool:=l7 (D6 (seq a0 [])) (l9 (sat a0 0) fun x=>l9 (nN x) fun(x:
 Bool)=>l7 x (l9 (qi a0) fun x=>l7 (ieq x (o8 a0)) (l7 (ile (o8 a0) 16) (l9 (uQ a0) fun(x:
 Bool)=>some (D6 x)) (some false)) (some false)) (some false)) (some false)
def a5b:FSpec:=mkS b2l b6b fun x=>aJ x
def a2w:List MG:=[(true,(.dat y0)),(false,(.rp .str))]
def a3c:Ret:=⟨[(.tmp 3,ubM)],[]⟩
def c0z:Env:=⟨8,eqs,tt,gl,[],[],[],[],[]⟩
def b0f:Ann:=.leaf
def BG (a0:bK) (a1:List UInt8):Option Bool:=some (seq a0.1 a1)
def a0y:FSpec:=mkS a2w a3c fun x=>BG x.1 x.2
def a2D:List MG:=[(false,(.dat y1)),(false,(.fn 162 [.str]))]
def a3j:Ret:=⟨[(.tmp 4,uiM)],[]⟩
def c0G:Env:=⟨19,eqs,tt,gl,[(162,a0y)],[],[],[],[]⟩
def b0m:Ann:=.seq lfA (.seq (.seq lfA (.blk (.loopR [(4,6),(8,19)] ⟨[(8,uiM)],[]⟩ 0 ⟨[],[]⟩ lfA))) lfA)
def dM (a0:List bK) (a1:List UInt8):Option Int:=l9 (J9 (fun(x:Int)=>l7 (ilt x (o8 a0))
 (l9 (lat a0 x) fun x_1=>l9 (BG x_1 a1) fun x_2=>l7 x_2 (some (.rt x)) (some (.nx (x8 .i64 x
 1)))) (some (.ex ()))) 0) fun o=>L8 o (fun(y:PUnit)=>some (-1)) fun r=>some r
def a7P:FSpec:=mkS a2D a3j fun x=>dM x.1 x.2
def a2v:List MG:=[(false,(.dat y1)),(false,(.fn 162 [.str]))]
def a3b:Ret:=⟨[(.tmp 4,ubM)],[]⟩
def c0y:Env:=⟨9,eqs,tt,gl,[(214,a7P)],[],[],[],[]⟩
def b0e:Ann:=.leaf
def bW (a0:List bK) (a1:List UInt8):Option Bool:=l9 (dM a0 a1) fun(x
 :Int)=>some (ile 0 x)
def a7J:FSpec:=mkS a2v a3b fun x=>bW x.1 x.2
def b2m:List MG:=[(false,(.dat y1)),(false,(.dat .str))]
def b6c:Ret:=⟨[(.tmp 4,ubM)],[]⟩
def d7J:Env:=⟨8,eqs,tt,gl,[(162,a0y),(161,a7J)],[],[],[],[]⟩
def c5j:Ann:=.leaf
def tV (a0:List bK) (a1:List UInt8):Option Bool:=l9 (bW a0 a1) fun x=>some x
def b1g:FSpec:=mkS b2m b6c fun x=>tV x.1 x.2
def b3t:List MG:=[(false,(.dat (.sl .str))),(false,(.dat .str))]
def b7j:Ret:=⟨[(.tmp 4,uiM)],[]⟩
def d8U:Env:=⟨19,eqs,tt,gl,[],[],[],[],[]⟩
def c6x:Ann:=.seq lfA (.seq (.seq lfA (.blk (.loopR [(4,6),(8,19)] ⟨[(8,uiM)],[]⟩ 0 ⟨[],[]⟩ lfA))) lfA)
def jq (a0:List (List UInt8)) (a1:List UInt8):Option Int:=l9 (J9 (fun(x:Int)=>l7 (ilt x (o8 a0))
 (l9 (lat a0 x) fun x_1=>l7 (seq a1 x_1) (some (.rt x)) (some (.nx (x8 .i64 x 1)))) (some (.ex ())))
 0) fun o=>L8 o (fun(y:PUnit)=>some (-1)) fun r=>some r
def d3q:FSpec:=mkS b3t b7j fun x=>jq x.1 x.2
def b2I:List MG:=[(false,(.dat (.sl .str))),(false,(.dat .str))]
def b6y:Ret:=⟨[(.tmp 4,ubM)],[]⟩
def d8j:Env:=⟨9,eqs,tt,gl,[(211,d3q)],[],[],[],[]⟩
def c5K:Ann:=.leaf
def dA (a0:List (List UInt8)) (a1:List UInt8):Option Bool:=l9 (jq a0 a1) fun x
 =>some (ile 0 x)
def d2O:FSpec:=mkS b2I b6y fun x=>dA x.1 x.2
def b2j:List MG:=[(true,(.dat y27)),uiM,(true,(.dat y0))]
def b5Z:Ret:=⟨[(.tmp 6,uiM),(.tmp 7,uiM)],[]⟩
def d7G:Env:=⟨55,eqs,tt,gl,[(123,a5b),(124,b1g),(154,d2O)],[],[],[],[]⟩
def c5g:Ann:=.seq lfA (.seq lfA (.seq (.seq lfA (.blk (.loopR [(6,10),(36,55)] ⟨[(36,uiM)],[]⟩ 1 ⟨[],[]⟩ lfA))) lfA))
def wY (a0:L6) (a1:Int) (a2:bK):Option F6:=l9 (aJ a2.1) fun x=>l7 (D6 x) (some (2,0))
 (l9 (Fj a0.1 0 a1) fun x=>l9 (tV x a2.1) fun x=>l7 x (some (7,0)) (l7 (ieq (o8 a2.2) 0) (some
 (5,0)) (l7 (ilt 16 (o8 a2.2)) (some (4,116)) (l9 (J9 (fun(x:Int)=>l7 (ilt x (o8 a2.2)) (l9 (lat a2.2 x) fun x_1=>l9 (aJ x_1) fun x_2=>l7 (D6 x_2) (some (.rt (2,x8 .i64 100 x))) (l9 (Fj a2.2 0 x) fun
 (x_3:List (List UInt8))=>l9 (dA x_3 x_1) fun x_4=>l7 x_4 (some (.rt (7,x8 .i64 100 x)))
 (some (.nx (x8 .i64 x 1))))) (some (.ex ()))) 0) fun o=>L8 o (fun(y:PUnit)=>some (0,0)) fun(r:
 F6)=>some r))))
def d2x:FSpec:=mkS b2j b5Z fun x=>wY x.1 x.2.1 x.2.2
def d0w:List MG:=[(true,(.dat y27))]
def d2c:Ret:=⟨[(.cell 2 120,(true,(.dat y37)))],[]⟩
def e87:Env:=⟨35,eqs,tt,gl,[(121,d2x)],[],[],[],[]⟩
def d7b:Ann:=.seq lfA (.seq lfA (.seq (.seq lfA (.blk (.loopR [(2,7),(15,34),(4000128,4000129)] ⟨[(2,(false,(.box (.dat y37)))),(15,uiM)],[]⟩ 0 ⟨[(2,(false,(.box (.dat y37))))],[]⟩ lfA))) lfA))
def uM (a0:L6):Option E8:=l7 (ilt 8 (o8 a0.1)) (some (4,1,8,0)) (l9 (J9 (fun(x:E8×Int)=>l7
 (ilt x.2 (o8 a0.1)) (l9 (lat a0.1 x.2) fun x_1=>l9 (wY a0 x.2 x_1) fun x_2=>l7 (D6 (ieq x_2.1 0))
 (some (.rt (x_2.1,1,x.2,x_2.2))) (some (.nx (x.1,x8 .i64 x.2 1)))) (some (.ex x.1))) ((0,0,0,0),0)) fun o=>L8 o (fun(y:E8)=>some (0,0,0,0)) fun r=>some r)
def s87:FSpec:=mkS d0w d2c fun x=>uM x
def c9L:List MG:=[(true,(.dat y2)),(false,(.dat y1))]
def d1p:Ret:=⟨[(.tmp 4,ubM)],[]⟩
def e39:Env:=⟨28,eqs,tt,gl,[],[],[],[],[]⟩
def d6p:Ann:=.seq lfA (.seq (.seq lfA (.blk (.seq (.join [(7,13)] ⟨[(7,ubM)],[]⟩ lfA) lfA))) lfA)
def ak (a0:F6) (a1:List bK):Option Bool:=l9 (l7 (ieq a0.1 1) (some (ieq a0.1 1)) (l7 (ieq a0.1 2) (some (ieq a0.1
 2)) (l7 (ieq a0.1 3) (some (ieq a0.1 3)) (l7 (ieq a0.1 4) (some (ieq a0.1 4)) (some (ieq a0.1 5)))))) fun x=>l7 x (some (ieq a0.2
 0)) (l7 (ieq a0.1 6) (l7 (ile 0 a0.2) (some (ilt a0.2 (o8 a1))) (some false)) (some false))
def s39:FSpec:=mkS c9L d1p fun x=>ak x.1 x.2
def d0i:List MG:=[(true,(.dat y2)),(false,(.dat y1))]
def d1O:Ret:=⟨[(.tmp 4,uiM),(.tmp 5,uiM)],[]⟩
def e67:Env:=⟨30,eqs,tt,gl,[(39,s39)],[],[],[],[]⟩
def d6N:Ann:=.leaf
def iT (a0:F6) (a1:List bK):Option F6:=l9 (ak a0 a1) fun x=>l7 (D6 x) (some (0,-1)) (l7
 (ieq a0.1 1) (some (0,1)) (l7 (ieq a0.1 2) (some (-1000000000000,1000000000000)) (l7 (ieq a0.1 3) (some (-1000000000000000,
 1000000000000000)) (l7 (ieq a0.1 4) (some (-1000000000,1000000000)) (l7 (ieq a0.1 5) (some (0,109572)) (l9 (lat a1 a0.2) fun x
 =>some (0,G8 .i64 (o8 x.2) 1)))))))
def s67:FSpec:=mkS d0i d1O fun x=>iT x.1 x.2
def b1Y:List MG:=[(true,(.dat y2))]
def b5M:Ret:=⟨[(.tmp 2,ubM)],[]⟩
def d7t:Env:=⟨18,eqs,tt,gl,[],[],[],[],[]⟩
def c4S:Ann:=.leaf
def jC (a0:F6):Option Bool:=l7 (ile 0 a0.1) (l7 (ile a0.1 a0.2) (some (ile a0.2 109573)) (some false)) (some false)
def b1e:FSpec:=mkS b1Y b5M fun x=>jC x
def b4h:List MG:=[(true,(.dat y2))]
def b7X:Ret:=⟨[(.tmp 2,ubM)],[]⟩
def d9I:Env:=⟨12,eqs,tt,gl,[(105,b1e)],[],[],[],[]⟩
def c7l:Ann:=.leaf
def nX (a0:F6):Option Bool:=l9 (jC a0) fun x=>l7 x (some (ilt a0.1 a0.2)) (some false)
def d3S:FSpec:=mkS b4h b7X fun x=>nX x
def b3u:List MG:=[(true,(.dat y2)),(true,(.dat y2))]
def b7k:Ret:=⟨[(.cell 4 97,(true,(.dat y2))),(.tmp 5,ubM)],[]⟩
def d8V:Env:=⟨34,eqs,tt,gl,[(265,d3S)],[],[],[],[]⟩
def c6y:Ann:=.leaf
def kT (a0:F6) (a1:F6):Option (F6×Bool):=l9 (nX a0) fun x=>l7 (D6 x) (some ((0,
 0),false)) (l9 (nX a1) fun x=>l7 (D6 x) (some ((0,0),false)) (l7 (ile (jf a0.2 a1.2) (fO a0.1 a1.1))
 (some ((0,0),false)) (some ((fO a0.1 a1.1,jf a0.2 a1.2),true))))
def d3r:FSpec:=mkS b3u b7k fun x=>kT x.1 x.2
def b2J:List MG:=[(true,(.dat y4)),(true,(.dat y4))]
def b6z:Ret:=⟨[(.tmp 4,ubM)],[]⟩
def d8k:Env:=⟨29,eqs,tt,gl,[(212,d3r)],[],[],[],[]⟩
def c5M:Ann:=.leaf
def vO (a0:uw) (a1:uw):Option Bool:=l9 (kT a0.1 a1.1) fun x=>l7 x.2 (some (ilt (fO
 a0.2.1 a1.2.1) (jf a0.2.2.1 a1.2.2.1))) (some false)
def d2P:FSpec:=mkS b2J b6z fun x=>vO x.1 x.2
def a2u:List MG:=[(true,(.dat y4)),(false,(.rp y4))]
def a3a:Ret:=⟨[(.tmp 3,ubM)],[]⟩
def c0x:Env:=⟨7,eqs,tt,gl,[(157,d2P)],[],[],[],[]⟩
def b0d:Ann:=.leaf
def lI (a0:uw) (a1:uw):Option Bool:=l9 (vO a0 a1) fun x=>some x
def a0x:FSpec:=mkS a2u a3a fun x=>lI x.1 x.2
def a2s:List MG:=[(false,(.dat y5)),(false,(.fn 156 [y4]))]
def a2Y:Ret:=⟨[(.tmp 4,uiM),(.tmp 5,ubM)],[]⟩
def c0u:Env:=⟨20,eqs,tt,gl,[(156,a0x)],[],[],[],[]⟩
def b0b:Ann:=.seq lfA (.seq (.seq lfA (.blk (.loopR [(4,8),(10,20)] ⟨[(10,uiM)],[]⟩ 0 ⟨[],[]⟩ lfA))) lfA)
def kU (a0:List uw) (a1:uw):Option (Int×Bool):=l9 (J9 (fun(x:Int)=>l7 (ilt x (o8 a0)) (l9 (lat a0 x)
 fun x_1=>l9 (lI x_1 a1) fun x_2=>l7 x_2 (some (.rt (x,true))) (some (.nx (x8 .i64 x 1))))
 (some (.ex ()))) 0) fun o=>L8 o (fun(y:PUnit)=>some (0,false)) fun r=>some r
def a7H:FSpec:=mkS a2s a2Y fun x=>kU x.1 x.2
def b2k:List MG:=[(true,(.dat y8)),(false,(.dat y1))]
def b6a:Ret:=⟨[(.tmp 4,uiM),(.tmp 5,uiM)],[]⟩
def d7H:Env:=⟨121,eqs,tt,gl,[(39,s39),(67,s67),(105,b1e),(156,a0x),(155,a7H)],[],[],[],[]⟩
def c5h:Ann:=.seq lfA (.seq lfA (.seq (.joinR [(4,6),(18,30)] ⟨[],[]⟩ lfA) (.seq lfA (.seq lfA (.seq (.seq lfA (.blk (.loopR [(4,6),(10,14),(47,121)] ⟨[(47,uiM)],[]⟩ 0 ⟨[],[]⟩ (.seq lfA (.seq lfA (.seq (.blk (.seq lfA (.seq (.joinR [(4,6),(52,73)] ⟨[],[]⟩ lfA) (.seq (.joinR [(4,6),(73,98)] ⟨[],[]⟩ lfA) lfA)))) lfA)))))) lfA)))))
def vN (a0:V8) (a1:List bK):Option F6:=l7 (ilt 64 (o8 a0.2.2.2)) (some (64,4)) (l9 (l9 (ak
 a0.2.1 a1) fun x=>l7 (D6 x) (some (.inr (-1,8))) (l9 (ak a0.2.2.1 a1) fun x=>l7 (D6 x) (some
 (.inr (-1,8))) (some (.inl ())))) fun o=>L8 o (fun(x:PUnit)=>l9 (iT a0.2.1 a1) fun x
 =>l9 (iT a0.2.2.1 a1) fun x_1=>l9 (J9 (fun(x_2:Int)=>l7 (ilt x_2 (o8 a0.2.2.2)) (l9 (lat a0.2.2.2 x_2)
 fun x_3=>l9 (l9 (jC x_3.1) fun x=>l7 (D6 x) (some (.inr (x_2,3))) (l7 (ieq x_3.1.1 x_3.1.2)
 (some (.inr (x_2,3))) (l7 (ile x_3.2.2.1 x_3.2.1) (some (.inr (x_2,3))) (some (.inl ()))))) fun o=>L8 o
 (fun(x_4:PUnit)=>l9 (l7 (ilt x_3.2.1 x.1) (some (.inr (x_2,3))) (l7 (ilt x.2 x_3.2.1) (some (.inr (x_2,3))) (l7 (ilt (G8
 .i64 x_3.2.2.1 1) x.1) (some (.inr (x_2,3))) (l7 (ilt x.2 (G8 .i64 x_3.2.2.1 1)) (some (.inr (x_2,3))) (some (.inl
 ())))))) fun o=>L8 o (fun(x:PUnit)=>l7 (ilt x_3.2.2.2 x_1.1) (some (.rt (x_2,3))) (l7 (ilt x_1.2
 x_3.2.2.2) (some (.rt (x_2,3))) (l9 (Fj a0.2.2.2 0 x_2) fun x=>l9 (kU x x_3) fun x=>
 l7 x.2 (some (.rt (x_2,11))) (some (.nx (x8 .i64 x_2 1)))))) fun r=>some (.rt r)) fun r=>some (.rt
 r)) (some (.ex ()))) 0) fun o=>L8 o (fun(y:PUnit)=>some (0,0)) fun r=>some r) fun r=>
 some r)
def d2y:FSpec:=mkS b2k b6a fun x=>vN x.1 x.2
def a2y:List MG:=[(true,(.dat y8)),(false,(.rp .str))]
def a3e:Ret:=⟨[(.tmp 3,ubM)],[]⟩
def c0B:Env:=⟨8,eqs,tt,gl,[],[],[],[],[]⟩
def b0h:Ann:=.leaf
def zD (a0:V8) (a1:List UInt8):Option Bool:=some (seq a0.1 a1)
def a0z:FSpec:=mkS a2y a3e fun x=>zD x.1 x.2
def a2E:List MG:=[(false,(.dat y9)),(false,(.fn 164 [.str]))]
def a3k:Ret:=⟨[(.tmp 4,uiM)],[]⟩
def c0H:Env:=⟨19,eqs,tt,gl,[(164,a0z)],[],[],[],[]⟩
def b0n:Ann:=.seq lfA (.seq (.seq lfA (.blk (.loopR [(4,6),(8,19)] ⟨[(8,uiM)],[]⟩ 0 ⟨[],[]⟩ lfA))) lfA)
def dh (a0:List V8) (a1:List UInt8):Option Int:=l9 (J9 (fun(x:Int)=>l7 (ilt x (o8 a0))
 (l9 (lat a0 x) fun x_1=>l9 (zD x_1 a1) fun x_2=>l7 x_2 (some (.rt x)) (some (.nx (x8 .i64
 x 1)))) (some (.ex ()))) 0) fun o=>L8 o (fun(y:PUnit)=>some (-1)) fun r=>some r
def a7Q:FSpec:=mkS a2E a3k fun x=>dh x.1 x.2
def a2x:List MG:=[(false,(.dat y9)),(false,(.fn 164 [.str]))]
def a3d:Ret:=⟨[(.tmp 4,ubM)],[]⟩
def c0A:Env:=⟨9,eqs,tt,gl,[(215,a7Q)],[],[],[],[]⟩
def b0g:Ann:=.leaf
def aY (a0:List V8) (a1:List UInt8):Option Bool:=l9 (dh a0 a1)
 fun x=>some (ile 0 x)
def a7K:FSpec:=mkS a2x a3d fun x=>aY x.1 x.2
def b2n:List MG:=[(false,(.dat y9)),(false,(.dat .str))]
def b6d:Ret:=⟨[(.tmp 4,ubM)],[]⟩
def d7K:Env:=⟨8,eqs,tt,gl,[(164,a0z),(163,a7K)],[],[],[],[]⟩
def c5k:Ann:=.leaf
def uP (a0:List V8) (a1:List UInt8):Option Bool:=l9 (aY a0 a1) fun x=>some x
def c1p:FSpec:=mkS b2n b6d fun x=>uP x.1 x.2
def d0x:List MG:=[(true,(.dat y27))]
def d2d:Ret:=⟨[(.cell 2 120,(true,(.dat y37)))],[]⟩
def e88:Env:=⟨68,eqs,tt,gl,[(122,d2y),(123,a5b),(124,b1g),(125,c1p)],[],[],[],[]⟩
def d7c:Ann:=.seq lfA (.seq lfA (.seq (.seq lfA (.blk (.loopR [(2,8),(16,67),(4000128,4000129)] ⟨[(2,(false,(.box (.dat y37)))),(16,uiM)],[]⟩ 0 ⟨[(2,(false,(.box (.dat y37))))],[]⟩ (.seq lfA (.seq lfA (.seq (.blk (.seq lfA (.seq lfA (.seq lfA (.seq (.join [(5,6),(30,62),(37000320,37000321)] ⟨[(5,(false,(.box (.dat y37))))],[]⟩ lfA) lfA))))) lfA)))))) lfA))
def rV (a0:L6):Option E8:=l7 (ilt 8 (o8 a0.2.1)) (some (4,2,8,0)) (l9 (J9 (fun(x:E8×Int)=>
 l7 (ilt x.2 (o8 a0.2.1)) (l9 (lat a0.2.1 x.2) fun x_1=>l9 (vN x_1 a0.1) fun x_2=>l9 (l9
 (aJ x_1.1) fun x_3=>l7 (D6 x_3) (some (2,2,x.2,0)) (l9 (tV a0.1 x_1.1) fun x_4=>l7 x_4
 (some (7,2,x.2,0)) (l9 (Fj a0.2.1 0 x.2) fun x_5=>l9 (uP x_5 x_1.1) fun x_6=>l7 x_6 (some (7,2,
 x.2,0)) (l7 (D6 (ieq x_2.2 0)) (l7 (D6 (ieq x_2.1 (-1))) (some (x_2.2,2,x.2,x8 .i64 100 x_2.1)) (some (x_2.2,2,x.2,0)))
 (some (0,2,x.2,0)))))) fun x_3=>l7 (D6 (ieq x_3.1 0)) (some (.rt x_3)) (some (.nx (x.1,x8 .i64 x.2 1))))
 (some (.ex x.1))) ((0,0,0,0),0)) fun o=>L8 o (fun(y:E8)=>some (0,0,0,0)) fun r
 =>some r)
def s88:FSpec:=mkS d0x d2d fun x=>rV x
def a2A:List MG:=[(true,(.dat y24)),(false,(.rp y24))]
def a3g:Ret:=⟨[(.tmp 3,ubM)],[]⟩
def c0D:Env:=⟨9,eqs,tt,gl,[],[],[],[],[]⟩
def b0j:Ann:=.leaf
def wE (a0:A8) (a1:A8):Option Bool:=some (seq a0.1 a1.1)
def a0A:FSpec:=mkS a2A a3g fun x=>wE x.1 x.2
def a2F:List MG:=[(false,(.dat y25)),(false,(.fn 166 [y24]))]
def a3l:Ret:=⟨[(.tmp 4,uiM)],[]⟩
def c0I:Env:=⟨19,eqs,tt,gl,[(166,a0A)],[],[],[],[]⟩
def b0o:Ann:=.seq lfA (.seq (.seq lfA (.blk (.loopR [(4,6),(8,19)] ⟨[(8,uiM)],[]⟩ 0 ⟨[],[]⟩ lfA))) lfA)
def df (a0:List A8) (a1:A8):Option Int:=l9 (J9 (fun(x:Int)=>l7 (ilt x (o8 a0))
 (l9 (lat a0 x) fun x_1=>l9 (wE x_1 a1) fun x_2=>l7 x_2 (some (.rt x)) (some (.nx (x8
 .i64 x 1)))) (some (.ex ()))) 0) fun o=>L8 o (fun(y:PUnit)=>some (-1)) fun r=>some r
def a7R:FSpec:=mkS a2F a3l fun x=>df x.1 x.2
def a2z:List MG:=[(false,(.dat y25)),(false,(.fn 166 [y24]))]
def a3f:Ret:=⟨[(.tmp 4,ubM)],[]⟩
def c0C:Env:=⟨9,eqs,tt,gl,[(216,a7R)],[],[],[],[]⟩
def b0i:Ann:=.leaf
def Y7 (a0:List A8) (a1:A8):Option Bool:=l9 (df a0 a1) fun
 (x:Int)=>some (ile 0 x)
def a7L:FSpec:=mkS a2z a3f fun x=>Y7 x.1 x.2
def a2G:List MG:=[(true,(.dat y10)),(false,(.rp y10))]
def a3m:Ret:=⟨[(.tmp 3,ubM)],[]⟩
def c0J:Env:=⟨9,eqs,tt,gl,[],[],[],[],[]⟩
def b0p:Ann:=.leaf
def wC (a0:bi) (a1:bi):Option Bool:=some (seq a0.1 a1.1)
def a0C:FSpec:=mkS a2G a3m fun x=>wC x.1 x.2
def a2L:List MG:=[(false,(.dat y11)),(false,(.fn 217 [y10]))]
def a3r:Ret:=⟨[(.tmp 4,uiM)],[]⟩
def c0O:Env:=⟨19,eqs,tt,gl,[(217,a0C)],[],[],[],[]⟩
def b0u:Ann:=.seq lfA (.seq (.seq lfA (.blk (.loopR [(4,6),(8,19)] ⟨[(8,uiM)],[]⟩ 0 ⟨[],[]⟩ lfA))) lfA)
def cZ (a0:List bi) (a1:bi):Option Int:=l9 (J9 (fun(x:Int)=>l7 (ilt x (o8 a0))
 (l9 (lat a0 x) fun x_1=>l9 (wC x_1 a1) fun x_2=>l7 x_2 (some (.rt x)) (some (.nx (x8
 .i64 x 1)))) (some (.ex ()))) 0) fun o=>L8 o (fun(y:PUnit)=>some (-1)) fun r=>some r
def a7U:FSpec:=mkS a2L a3r fun x=>cZ x.1 x.2
def a2H:List MG:=[(false,(.dat y11)),(false,(.fn 217 [y10]))]
def a3n:Ret:=⟨[(.tmp 4,ubM)],[]⟩
def c0K:Env:=⟨9,eqs,tt,gl,[(266,a7U)],[],[],[],[]⟩
def b0q:Ann:=.leaf
def U9 (a0:List bi) (a1:bi):Option Bool:=l9 (cZ a0 a1) fun
 (x:Int)=>some (ile 0 x)
def a7S:FSpec:=mkS a2H a3n fun x=>U9 x.1 x.2
def b2N:List MG:=[(true,(.dat y27)),(true,(.dat y10)),(false,(.dat y11)),(false,(.dat y11))]
def b6D:Ret:=⟨[(.tmp 8,uiM)],[]⟩
def d8o:Env:=⟨32,eqs,tt,gl,[(217,a0C),(123,a5b),(218,a7S),(39,s39)],[],[],[],[]⟩
def c5Q:Ann:=.leaf
def oU (a0:L6) (a1:bi) (a2:List bi) (a3:List bi):Option Int:=l9 (aJ a1.1) fun x=>
 l7 (D6 x) (some 2) (l9 (U9 a2 a1) fun x=>l7 x (some 7) (l9
 (U9 a3 a1) fun x=>l7 x (some 7) (l9 (ak a1.2 a0.1) fun x=>l7 (D6
 x) (some 8) (some 0))))
def d2S:FSpec:=mkS b2N b6D fun x=>oU x.1 x.2.1 x.2.2.1 x.2.2.2
def b3w:List MG:=[(false,(.dat y11))]
def b7m:Ret:=⟨[(.tmp 2,(false,(.own y2)))],[]⟩
def d8X:Env:=⟨19,eqs,tt,gl,[],[],[],[],[]⟩
def c6A:Ann:=.seq lfA (.seq lfA (.seq (.seq lfA (.blk (.loop [(3,4),(5,6),(8,18)] ⟨[(3,(false,(.own y2))),(8,uiM)],[]⟩ 0 ⟨[(3,(false,(.own y2)))],[]⟩ lfA))) lfA))
def lh (a0:List bi):Option (List F6):=l9 (N8 (fun(x:List F6×Int)=>l7 (ilt x.2 (o8 a0)) (l9 (lat a0
 x.2) fun x_1=>l9 (X9 x.1 [x_1.2]) fun x_2=>some (.inl (x_2,x8 .i64 x.2 1))) (some (.inr x.1)))
 ([],0)) fun y=>some y
def d3t:FSpec:=mkS b3w b7m fun x=>lh x
def b2O:List MG:=[(true,(.dat y27)),uiM]
def b6E:Ret:=⟨[(.cell 4 219,(true,(.dat y55)))],[]⟩
def d8p:Env:=⟨45,eqs,tt,gl,[(219,d3t)],[],[],[],[]⟩
def c5R:Ann:=.leaf
def iJ (a0:L6) (a1:Int):Option I8:=l9 (lat a0.2.2 a1) fun x=>l9 (lh x.2.2.1) fun
 (x_1:List F6)=>l9 (lh x.2.2.2.1) fun x_2=>l7 (ile 0 x.2.1) (l7 (ilt x.2.1 (o8 a0.2.2)) (l9 (lat
 a0.2.2 x.2.1) fun x=>l9 (lh x.2.2.2.1) fun x=>some (a0.1,a0.2.1,x_1,x_2,x,true)) (some (a0.1,
 a0.2.1,x_1,x_2,[],false))) (some (a0.1,a0.2.1,x_1,x_2,[],false))
def d2T:FSpec:=mkS b2O b6E fun x=>iJ x.1 x.2
def a2J:List MG:=[(true,(.dat y19)),(false,(.rp y19))]
def a3p:Ret:=⟨[(.tmp 3,ubM)],[]⟩
def c0M:Env:=⟨9,eqs,tt,gl,[],[],[],[],[]⟩
def b0s:Ann:=.leaf
def xQ (a0:X0) (a1:X0):Option Bool:=some (seq a0.1 a1.1)
def a0D:FSpec:=mkS a2J a3p fun x=>xQ x.1 x.2
def a2M:List MG:=[(false,(.dat y20)),(false,(.fn 221 [y19]))]
def a3s:Ret:=⟨[(.tmp 4,uiM)],[]⟩
def c0P:Env:=⟨19,eqs,tt,gl,[(221,a0D)],[],[],[],[]⟩
def b0v:Ann:=.seq lfA (.seq (.seq lfA (.blk (.loopR [(4,6),(8,19)] ⟨[(8,uiM)],[]⟩ 0 ⟨[],[]⟩ lfA))) lfA)
def dN (a0:List X0) (a1:X0):Option Int:=l9 (J9 (fun(x:Int)=>l7 (ilt x (o8 a0)) (l9
 (lat a0 x) fun x_1=>l9 (xQ x_1 a1) fun x_2=>l7 x_2 (some (.rt x)) (some (.nx (x8 .i64 x
 1)))) (some (.ex ()))) 0) fun o=>L8 o (fun(y:PUnit)=>some (-1)) fun r=>some r
def a7V:FSpec:=mkS a2M a3s fun x=>dN x.1 x.2
def a2I:List MG:=[(false,(.dat y20)),(false,(.fn 221 [y19]))]
def a3o:Ret:=⟨[(.tmp 4,ubM)],[]⟩
def c0L:Env:=⟨9,eqs,tt,gl,[(267,a7V)],[],[],[],[]⟩
def b0r:Ann:=.leaf
def ae (a0:List X0) (a1:X0):Option Bool:=l9 (dN a0 a1) fun(x:
 Int)=>some (ile 0 x)
def a7T:FSpec:=mkS a2I a3o fun x=>ae x.1 x.2
def c9x:List MG:=[(false,(.dat .str)),(false,(.dat .str))]
def d3T:FSpec:=⟨c9x,[ubM],[],fun x=>qQ x.1 x.2⟩
def b3x:List MG:=[(false,(.dat .str))]
def b7n:Ret:=⟨[(.tmp 2,ubM)],[]⟩
def d8Y:Env:=⟨27,eqs,tt,gl,[(268,d3T)],[],[],[],[]⟩
def c6B:Ann:=.seq lfA (.seq lfA (.seq (.seq lfA (.blk (.loopR [(2,4),(13,27)] ⟨[(13,uiM)],[]⟩ 0 ⟨[],[]⟩ lfA))) lfA))
def rW (a0:List UInt8):Option Bool:=l7 (ilt 64 (o8 a0)) (some false) (l9 (qQ a0 [34]) fun x=>l7 x
 (some false) (l9 (J9 (fun(x:Int)=>l7 (ilt x (o8 a0)) (l9 (sat a0 x) fun x_1=>l7 (ilt x_1 32) (some (.rt false))
 (l9 (sat a0 x) fun x_2=>l7 (ilt 126 x_2) (some (.rt false)) (some (.nx (x8 .i64 x 1))))) (some (.ex ())))
 0) fun o=>L8 o (fun(y:PUnit)=>some true) fun r=>some r))
def d3u:FSpec:=mkS b3x b7n fun x=>rW x
def b2v:List MG:=[uiM]
def b6l:Ret:=⟨[(.tmp 2,uiM)],[]⟩
def d7S:Env:=⟨47,eqs,tt,gl,[],[],[],[],[]⟩
def c5s:Ann:=.seq lfA (.seq (.seq lfA (.blk (.seq (.join [(4,19)] ⟨[(4,ubM)],[]⟩ lfA) (.cond lfA (.seq (.join [(19,26)] ⟨[(19,ubM)],[]⟩ lfA) (.cond lfA (.seq (.join [(26,45)] ⟨[(26,ubM)],[]⟩ lfA) lfA))))))) lfA)
def iw (a0:Int):Option Int:=l9 (l7 (ieq a0 1) (some (ieq a0 1)) (l7 (ieq a0 2) (some (ieq a0 2)) (l7 (ieq a0 3) (some (ieq
 a0 3)) (l7 (ieq a0 4) (some (ieq a0 4)) (l7 (ieq a0 5) (some (ieq a0 5)) (l7 (ieq a0 6) (some (ieq a0 6)) (l7 (ieq a0 7) (some (ieq a0
 7)) (l7 (ieq a0 8) (some (ieq a0 8)) (l7 (ieq a0 9) (some (ieq a0 9)) (l7 (ieq a0 35) (some (ieq a0 35)) (l7 (ieq a0 36) (some (ieq a0
 36)) (l7 (ieq a0 37) (some (ieq a0 37)) (l7 (ieq a0 38) (some (ieq a0 38)) (some (ieq a0 39))))))))))))))) fun x=>l7 x (some 0)
 (l9 (l7 (ieq a0 10) (some (ieq a0 10)) (l7 (ieq a0 25) (some (ieq a0 25)) (l7 (ieq a0 31) (some (ieq a0 31)) (l7 (ieq a0 32) (some
 (ieq a0 32)) (l7 (ieq a0 33) (some (ieq a0 33)) (some (ieq a0 34))))))) fun x=>l7 x (some 1) (l9 (l7 (ieq a0 11) (some (ieq a0
 11)) (l7 (ieq a0 12) (some (ieq a0 12)) (l7 (ieq a0 13) (some (ieq a0 13)) (l7 (ieq a0 14) (some (ieq a0 14)) (l7 (ieq a0 15) (some (ieq
 a0 15)) (l7 (ieq a0 16) (some (ieq a0 16)) (l7 (ieq a0 17) (some (ieq a0 17)) (l7 (ieq a0 18) (some (ieq a0 18)) (l7 (ieq a0 19) (some
 (ieq a0 19)) (l7 (ieq a0 20) (some (ieq a0 20)) (l7 (ieq a0 21) (some (ieq a0 21)) (l7 (ieq a0 22) (some (ieq a0 22)) (l7 (ieq a0 23)
 (some (ieq a0 23)) (l7 (ieq a0 24) (some (ieq a0 24)) (l7 (ieq a0 27) (some (ieq a0 27)) (l7 (ieq a0 28) (some (ieq a0 28)) (l7 (ieq a0
 29) (some (ieq a0 29)) (some (ieq a0 30))))))))))))))))))) fun x=>l7 x (some 2) (l7 (ieq a0 26) (some 3) (some (-1)))))
def a5c:FSpec:=mkS b2v b6l fun x=>iw x
def d0H:List MG:=[(false,(.dat y12))]
def d2n:Ret:=⟨[(.tmp 2,uoM),(.tmp 3,uiM),(.tmp 4,uiM)],[]⟩
def e98:Env:=⟨76,eqs,tt,gl,[(135,a5c)],[],[],[],[]⟩
def d7m:Ann:=.seq lfA (.seq lfA (.seq lfA (.seq lfA (.seq lfA (.seq (.seq lfA (.blk (.loopR [(2,10),(21,70),(27001152,27001153)] ⟨[(5,uoM),(6,uoM),(21,uiM)],[]⟩ 0 ⟨[(5,uoM),(6,uoM)],[]⟩ lfA))) lfA)))))
def oM (a0:List F6):Option (List Int×F6):=l7 (ilt 48 (o8 a0)) (some ([],0,4)) (l7 (ieq (o8 a0) 0) (some ([],0,
 5)) (l9 (gU (o8 a0) 0) fun x=>l9 (J9 (fun(x:List Int×List Int×Int)=>l7 (ilt x.2.2 (o8 a0)) (l9 (lat a0
 x.2.2) fun x_1=>l9 (iw x_1.1) fun x_2=>l7 (ilt x_2 0) (some (.rt ([],x.2.2,2))) (l7 (ilt (o8 x.2.1)
 x_2) (some (.rt ([],x.2.2,5))) (l9 (lat x.1 x.2.2) fun x_3=>l9 (I9 x.1 (toN x.2.2)) fun x_4=>l7 (ilt 0 x_2)
 (l9 (lat x.2.1 (G8 .i64 (o8 x.2.1) x_2)) fun x_5=>l9 (I9 x.2.1 (toN (G8 .i64 (o8 x.2.1) x_2))) fun(x_6:
 Int)=>l9 (lat (S9 x.1 (toN x.2.2) x.2.2) x.2.2) fun x_7=>l9 (I9 (S9 x.1 (toN x.2.2) x.2.2) (toN x.2.2)) fun x_8=>
 l7 (jm 0 (G8 .i64 (o8 x.2.1) x_2) (o8 x.2.1)) (l9 (lat (S9 (S9 x.1 (toN x.2.2) x.2.2) (toN x.2.2) x_6) x.2.2) fun(x_9:
 Int)=>l9 (I9 (S9 (S9 x.1 (toN x.2.2) x.2.2) (toN x.2.2) x_6) (toN x.2.2)) fun x_10=>l9 (X9 (gu x.2.1 (toN 0) (toN (G8
 .i64 (o8 x.2.1) x_2))) [x_10]) fun x_11=>l7 (ilt 12 (o8 x_11)) (some (.rt ([],x.2.2,16))) (some (.nx (S9 (S9
 x.1 (toN x.2.2) x.2.2) (toN x.2.2) x_6,x_11,x8 .i64 x.2.2 1)))) none) (l7 (jm 0 (G8 .i64 (o8 x.2.1) x_2) (o8 x.2.1))
 (l9 (lat (S9 x.1 (toN x.2.2) x.2.2) x.2.2) fun x_5=>l9 (I9 (S9 x.1 (toN x.2.2) x.2.2) (toN x.2.2)) fun x_6=>l9
 (X9 (gu x.2.1 (toN 0) (toN (G8 .i64 (o8 x.2.1) x_2))) [x_6]) fun x_7=>l7 (ilt 12 (o8 x_7)) (some (.rt ([],
 x.2.2,16))) (some (.nx (S9 x.1 (toN x.2.2) x.2.2,x_7,x8 .i64 x.2.2 1)))) none)))) (some (.ex (x.1,x.2.1)))) (x,[],0)) fun(o:
 List Int×List Int⊕List Int×F6)=>L8 o (fun(y:List Int×List Int)=>l7 (ilt 1 (o8 y.2)) (some ([],o8 a0,4)) (some (y.1,0,
 0))) fun r=>some r))
def s98:FSpec:=mkS d0H d2n fun x=>oM x
def b2X:List MG:=[uiM]
def b6N:Ret:=⟨[(.tmp 2,ubM)],[]⟩
def d8y:Env:=⟨22,eqs,tt,gl,[],[],[],[],[]⟩
def c6b:Ann:=.leaf
def dL (a0:Int):Option Bool:=l7 (ieq a0 1) (l7 (ieq a0 1) (some true) (some false)) (l7 (ieq a0 2) (l7 (ieq a0 2) (some
 true) (some false)) (l7 (ieq a0 3) (l7 (ieq a0 3) (some true) (some false)) (l7 (ieq a0 4) (l7 (ieq a0 4) (some true) (some false))
 (l7 (ieq a0 5) (l7 (ieq a0 5) (some true) (some false)) (l7 (ieq a0 6) (l7 (ieq a0 6) (some true) (some false)) (l7 (ieq a0 7) (l7
 (ieq a0 7) (some true) (some false)) (l7 (ieq a0 8) (l7 (ieq a0 8) (some true) (some false)) (l7 (ieq a0 14) (l7 (ieq a0 14) (some true)
 (some false)) (l7 (ieq a0 15) (l7 (ieq a0 15) (some true) (some false)) (l7 (ieq a0 16) (l7 (ieq a0 16) (some true) (some false)) (l7
 (ieq a0 33) (l7 (ieq a0 33) (some true) (some false)) (l7 (ieq a0 34) (l7 (ieq a0 34) (some true) (some false)) (l7 (ieq a0 36) (l7
 (ieq a0 36) (some true) (some false)) (l7 (ieq a0 37) (l7 (ieq a0 37) (some true) (some false)) (l7 (ieq a0 38) (l7 (ieq a0 38) (some
 true) (some false)) (l7 (ieq a0 39) (some true) (some false)))))))))))))))))
def c1t:FSpec:=mkS b2X b6N fun x=>dL x
def b5l:List MG:=[uiM,uiM,(true,(.dat y55))]
def b9b:Ret:=⟨[(.cell 6 52,(true,(.dat y2))),(.tmp 7,uiM)],[]⟩
def e0M:Env:=⟨30,eqs,tt,gl,[(67,s67)],[],[],[],[]⟩
def c8p:Ann:=.leaf
def dU (a0:Int) (a1:Int) (a2:I8):Option (F6×Int):=l9 (iT (a1,0) a2.1) fun x=>l7 (ilt
 a0 x.1) (some ((0,0),3)) (l7 (ilt x.2 a0) (some ((0,0),3)) (some ((a1,0),0)))
def d4z:FSpec:=mkS b5l b9b fun x=>dU x.1 x.2.1 x.2.2
def b5m:List MG:=[uiM,(true,(.dat y55))]
def b9c:Ret:=⟨[(.cell 4 52,(true,(.dat y2))),(.tmp 5,uiM)],[]⟩
def e0N:Env:=⟨34,eqs,tt,gl,[],[],[],[],[]⟩
def c8q:Ann:=.leaf
def wV (a0:Int) (a1:I8):Option (F6×Int):=l7 (ilt a0 0) (some ((0,0),3)) (l7 (ile (o8 a1.1) (X4 .i64
 a0 16)) (some ((0,0),6)) (l9 (lat a1.1 (X4 .i64 a0 16)) fun x=>l7 (ile (o8 x.2) (X5 a0 16)) (some ((0,0),6)) (some
 ((6,X4 .i64 a0 16),0))))
def d4A:FSpec:=mkS b5m b9c fun x=>wV x.1 x.2
def b5n:List MG:=[uiM,(false,(.dat y12)),(true,(.dat y55))]
def b9d:Ret:=⟨[(.cell 6 52,(true,(.dat y2))),(.tmp 7,uiM)],[]⟩
def e0O:Env:=⟨30,eqs,tt,gl,[(39,s39)],[],[],[],[]⟩
def c8r:Ann:=.leaf
def dI (a0:Int) (a1:List F6) (a2:I8):Option (F6×Int):=l7 (ilt a0 0) (some ((0,0),6)) (l7 (ile (o8 a1)
 a0) (some ((0,0),6)) (l9 (lat a1 a0) fun x=>l9 (ak x a2.1) fun x=>l7 (D6 x) (some ((0,0),8))
 (l9 (lat a1 a0) fun x=>some (x,0))))
def c1S:FSpec:=mkS b5n b9d fun x=>dI x.1 x.2.1 x.2.2
def b5q:List MG:=[uiM]
def b9g:Ret:=⟨[(.tmp 2,ubM)],[]⟩
def e0R:Env:=⟨9,eqs,tt,gl,[],[],[],[],[]⟩
def c8u:Ann:=.leaf
def gp (a0:Int):Option Bool:=l7 (ile 0 a0) (some (ile a0 5)) (some false)
def c1T:FSpec:=mkS b5q b9g fun x=>gp x
def b5o:List MG:=[(true,(.dat y2)),(true,(.dat y2)),(true,(.dat y55))]
def b9e:Ret:=⟨[(.cell 6 52,(true,(.dat y2))),(.tmp 7,uiM)],[]⟩
def e0P:Env:=⟨84,eqs,tt,gl,[(333,c1T),(39,s39)],[],[],[],[]⟩
def c8s:Ann:=.seq lfA (.seq lfA (.seq (.joinR [(6,9),(13,30),(4000384,4000385)] ⟨[(6,(false,(.box (.dat y2)))),(8,uiM)],[]⟩ lfA) (.seq (.joinR [(6,8),(30,40),(9000000,9000001)] ⟨[(6,(false,(.box (.dat y2))))],[]⟩ lfA) (.seq lfA (.seq (.joinR [(6,8),(52,70),(27000000,27000001)] ⟨[(6,(false,(.box (.dat y2))))],[]⟩ lfA) lfA)))))
def kZ (a0:F6) (a1:F6) (a2:I8):Option (F6×Int):=l9 (l7 (ieq a0.1 34) (l7 (ilt a0.2 0) (some (.inr
 ((0,0),3))) (l9 (gp (X5 a0.2 8)) fun x=>l7 (D6 x) (some (.inr ((0,0),3))) (some (.inl ((0,0),X4
 .i64 a0.2 8))))) (some (.inl ((0,0),a0.2)))) fun o=>L8 o (fun(x:F6×Int)=>l9 (l7 (ilt
 x.2 0) (some (.inr ((0,0),6))) (l7 (ile (o8 a2.2.1) x.2) (some (.inr ((0,0),6))) (some (.inl x.1)))) fun o
 =>L8 o (fun(x_1:F6)=>l9 (lat a2.2.1 x.2) fun x_2=>l9 (lat a2.2.1 x.2) fun x=>l9 (l9 (ak
 x_2.2.1 a2.1) fun x_3=>l7 (D6 x_3) (some (.inr ((0,0),8))) (l9 (ak x.2.2.1 a2.1) fun x=>l7 (D6
 x) (some (.inr ((0,0),8))) (l7 (D6 (aH (ieq a1.1 x_2.2.1.1) (ieq a1.2 x_2.2.1.2))) (some (.inr ((0,0),8))) (some (.inl x_1)))))
 fun o=>L8 o (fun(x_3:F6)=>l7 (ieq a0.1 34) (l7 (D6 (ieq x_2.2.1.1 3)) (some ((0,0),8)) (l7 (D6
 (ieq x.2.2.1.1 4)) (some ((0,0),8)) (some (x_2.2.1,0)))) (some (x.2.2.1,0))) fun r=>some r) fun r=>some r)
 fun r=>some r
def d4B:FSpec:=mkS b5o b9e fun x=>kZ x.1 x.2.1 x.2.2
def b5y:List MG:=[uiM]
def b9o:Ret:=⟨[(.tmp 2,ubM)],[]⟩
def e0Z:Env:=⟨13,eqs,tt,gl,[],[],[],[],[]⟩
def c8D:Ann:=.leaf
def fM (a0:Int):Option Bool:=l7 (ieq a0 2) (some true) (l7 (ieq a0 3) (some true) (some (ieq a0 4)))
def c1V:FSpec:=mkS b5y b9o fun x=>fM x
def b5p:List MG:=[(true,(.dat y2)),(true,(.dat y55))]
def b9f:Ret:=⟨[(.cell 4 52,(true,(.dat y2))),(.tmp 5,uiM)],[]⟩
def e0Q:Env:=⟨62,eqs,tt,gl,[(330,c1S),(345,c1V)],[],[],[],[]⟩
def c8t:Ann:=.seq lfA (.seq lfA (.seq lfA (.seq lfA (.seq lfA (.seq lfA (.seq (.join [(8,9),(30,58)] ⟨[(8,ubM)],[]⟩ lfA) lfA))))))
def jF (a0:F6) (a1:I8):Option (F6×Int):=l7 (D6 a1.2.2.2.2.2) (some ((0,0),6)) (l7 (ieq a0.1 35) (some
 ((2,0),0)) (l9 (dI a0.2 a1.2.2.2.2.1 a1) fun x=>l7 (D6 (ieq x.2 0)) (some ((0,0),x.2)) (l9 (l7 (ieq
 a0.1 36) (l7 (ieq x.1.1 2) (some true) (some (ieq x.1.1 3))) (l7 (ieq a0.1 37) (l7 (ieq a0.1 37) (some (ieq x.1.1 1)) (l7 (ieq a0.1 39)
 (l9 (fM x.1.1) fun x_1=>l7 x_1 (some true) (some (ieq x.1.1 5))) (some false))) (l7 (ieq a0.1 38) (some (ieq x.1.1 1))
 (l7 (ieq a0.1 39) (l9 (fM x.1.1) fun x_1=>l7 x_1 (some true) (some (ieq x.1.1 5))) (some false))))) fun x_1
 =>l7 (D6 x_1) (some ((0,0),8)) (some (x.1,0)))))
def d4C:FSpec:=mkS b5p b9f fun x=>jF x.1 x.2
def b5z:List MG:=[uiM,uiM,uiM]
def b9p:Ret:=⟨[(.cell 6 52,(true,(.dat y2))),(.tmp 7,ubM)],[]⟩
def e1a:Env:=⟨47,eqs,tt,gl,[],[],[],[],[]⟩
def c8E:Ann:=.leaf
def Cc (a0:Int) (a1:Int) (a2:Int):Option (F6×Bool):=l7 (ieq a0 14) (l7 (ieq a2 4) (l7 (ieq a1 3) (some ((a1,0),
 true)) (some ((a1,0),ieq a1 4))) (some ((a1,0),false))) (l7 (ieq a2 2) (l7 (ieq a1 2) (some ((a1,0),true)) (some ((a1,0),ieq a1 3)))
 (l7 (ieq a0 15) (l7 (ieq a1 3) (l7 (ieq a2 3) (some ((4,0),true)) (some ((0,0),false))) (some ((0,0),false))) (some ((0,0),false))))
def d4K:FSpec:=mkS b5z b9p fun x=>Cc x.1 x.2.1 x.2.2
def b5r:List MG:=[uiM,(false,(.dat y12))]
def b9h:Ret:=⟨[(.cell 4 52,(true,(.dat y2))),(.tmp 5,ubM)],[]⟩
def e0S:Env:=⟨222,eqs,tt,gl,[(345,c1V),(346,d4K)],[],[],[],[]⟩
def c8v:Ann:=.seq lfA (.seq lfA (.seq (.joinR [(4,6),(8,221),(4000256,4000257)] ⟨[(4,(false,(.box (.dat y2))))],[]⟩ (.seq lfA (.blk (.seq lfA (.cond lfA (.seq lfA (.cond lfA (.seq (.join [(27,30)] ⟨[(27,ubM)],[]⟩ lfA) (.cond lfA (.seq (.join [(47,51)] ⟨[(47,ubM)],[]⟩ lfA) (.cond lfA (.seq lfA (.cond lfA (.seq (.join [(80,83)] ⟨[(80,ubM)],[]⟩ lfA) (.cond lfA (.seq (.join [(107,110)] ⟨[(107,ubM)],[]⟩ lfA) (.cond lfA (.seq (.join [(118,121)] ⟨[(118,ubM)],[]⟩ lfA) (.cond lfA (.seq (.join [(143,146)] ⟨[(143,ubM)],[]⟩ lfA) (.cond lfA (.seq lfA (.cond lfA (.seq (.join [(178,181)] ⟨[(178,ubM)],[]⟩ lfA) lfA)))))))))))))))))))))))) lfA))
def iy (a0:Int) (a1:List F6):Option (F6×Bool):=l9 (l7 (ieq a0 10) (l9 (lat a1 0) fun x=>l9 (lat
 a1 0) fun x_1=>l9 (fM x_1.1) fun x_2=>some (.inr (x,x_2))) (l7 (ieq a0 25) (l9 (lat a1 0) fun(x:
 F6)=>some (.inr ((1,0),ieq x.1 1))) (l9 (l7 (ieq a0 11) (some (ieq a0 11)) (some (ieq a0 12))) fun x=>l7 x (l9 (lat
 a1 0) fun x=>l9 (lat a1 0) fun x_1=>l9 (lat a1 1) fun x_2=>l7 (aH (ieq x_1.1 x_2.1) (ieq x_1.2 x_2.2))
 (l9 (lat a1 0) fun x_3=>l9 (fM x_3.1) fun x_4=>some (.inr (x,x_4))) (some (.inr (x,false)))) (l9
 (l7 (ieq a0 13) (some (ieq a0 13)) (l7 (ieq a0 14) (some (ieq a0 14)) (some (ieq a0 15)))) fun x=>l7 x (l9 (lat a1 0) fun(x:
 F6)=>l9 (lat a1 1) fun x_1=>l9 (Cc a0 x.1 x_1.1) fun x=>some (.inr x)) (l7 (ieq a0 16)
 (l9 (lat a1 0) fun x=>l9 (lat a1 0) fun x_1=>l7 (ieq x_1.1 3) (l9 (lat a1 1) fun x_2=>some (.inr
 (x,ieq x_2.1 3))) (some (.inr (x,false)))) (l9 (l7 (ieq a0 17) (some (ieq a0 17)) (some (ieq a0 18))) fun x=>l7 x (l9
 (lat a1 0) fun x=>l9 (lat a1 0) fun x_1=>l9 (lat a1 1) fun x_2=>l7 (aH (ieq x_1.1 x_2.1) (ieq x_1.2
 x_2.2)) (l9 (lat a1 0) fun x_3=>l9 (fM x_3.1) fun x_4=>l7 x_4 (some (.inr (x,true))) (l9 (lat a1 0)
 fun x_5=>some (.inr (x,ieq x_5.1 5)))) (some (.inr (x,false)))) (l9 (l7 (ieq a0 19) (some (ieq a0 19)) (some (ieq a0 20)))
 fun x=>l7 x (l9 (lat a1 0) fun x=>l9 (lat a1 1) fun x_1=>some (.inr ((1,0),aH (ieq x.1 x_1.1) (ieq
 x.2 x_1.2)))) (l9 (l7 (ieq a0 21) (some (ieq a0 21)) (some (ieq a0 22))) fun x=>l7 x (l9 (lat a1 0) fun x=>l9
 (lat a1 1) fun x_1=>l7 (aH (ieq x.1 x_1.1) (ieq x.2 x_1.2)) (l9 (lat a1 0) fun x=>l9 (fM x.1) fun(x:
 Bool)=>l7 x (some (.inr ((1,0),true))) (l9 (lat a1 0) fun x=>some (.inr ((1,0),ieq x.1 5)))) (some (.inr ((1,0),
 false)))) (l9 (l7 (ieq a0 23) (some (ieq a0 23)) (some (ieq a0 24))) fun x=>l7 x (l9 (lat a1 0) fun x=>l7 (ieq
 x.1 1) (l9 (lat a1 1) fun x=>some (.inr ((1,0),ieq x.1 1))) (some (.inr ((1,0),false)))) (l7 (ieq a0 26) (l9 (lat a1
 1) fun x=>l9 (lat a1 0) fun x_1=>l7 (ieq x_1.1 1) (l9 (lat a1 1) fun x_2=>l9 (lat a1 2) fun(x_3:
 F6)=>some (.inr (x,aH (ieq x_2.1 x_3.1) (ieq x_2.2 x_3.2)))) (some (.inr (x,false)))) (l9 (l7 (ieq a0 27) (some (ieq a0 27))
 (some (ieq a0 28))) fun x=>l7 x (l9 (lat a1 0) fun x=>l9 (lat a1 0) fun x_1=>l7 (ieq x_1.1 5) (l9
 (lat a1 1) fun x_2=>some (.inr (x,ieq x_2.1 2))) (some (.inr (x,false)))) (l7 (ieq a0 29) (l7 (ieq a0 29) (l9 (lat a1 0)
 fun x=>l7 (ieq x.1 5) (l9 (lat a1 1) fun x=>some (.inr ((2,0),ieq x.1 5))) (some (.inr ((2,0),false))))
 (l7 (ieq a0 31) (l7 (ieq a0 31) (l9 (lat a1 0) fun x=>some (.inr ((2,0),ieq x.1 5))) (some (.inl (0,0)))) (l7 (ieq
 a0 32) (l9 (lat a1 0) fun x=>some (.inr ((2,0),ieq x.1 5))) (some (.inl (0,0)))))) (l7 (ieq a0 30) (l9 (lat a1 0) fun
 (x:F6)=>l7 (ieq x.1 5) (l9 (lat a1 1) fun x=>some (.inr ((2,0),ieq x.1 5))) (some (.inr ((2,0),false)))) (l7
 (ieq a0 31) (l7 (ieq a0 31) (l9 (lat a1 0) fun x=>some (.inr ((2,0),ieq x.1 5))) (some (.inl (0,0)))) (l7 (ieq a0 32)
 (l9 (lat a1 0) fun x=>some (.inr ((2,0),ieq x.1 5))) (some (.inl (0,0)))))))))))))))))) fun o=>
 L8 o (fun(x:F6)=>some ((0,0),false)) fun r=>some r
def d4D:FSpec:=mkS b5r b9h fun x=>iy x.1 x.2
def b4O:List MG:=[(true,(.dat y2)),(false,(.dat y12)),(true,(.dat y55))]
def b8E:Ret:=⟨[(.cell 6 52,(true,(.dat y2))),(.tmp 7,uiM)],[]⟩
def e0p:Env:=⟨125,eqs,tt,gl,[(328,d4z),(329,d4A),(330,c1S),(331,d4B),(332,d4C),(333,c1T),(334,d4D)],[],[],[],[]⟩
def c7S:Ann:=.seq lfA (.seq (.joinR [(6,8),(10,114),(4000384,4000385)] ⟨[(6,(false,(.box (.dat y2))))],[]⟩ (.seq lfA (.blk (.seq lfA (.cond lfA (.seq lfA (.cond lfA (.seq lfA (.cond lfA (.seq lfA (.cond lfA (.seq lfA (.cond lfA (.seq lfA (.cond lfA (.seq lfA (.cond lfA (.seq lfA (.cond lfA (.seq lfA (.cond lfA (.seq (.join [(83,86)] ⟨[(83,ubM)],[]⟩ lfA) (.cond lfA (.seq (.join [(94,100)] ⟨[(94,ubM)],[]⟩ lfA) lfA)))))))))))))))))))))))) lfA)
def U5 (a0:F6) (a1:List F6) (a2:I8):Option (F6×Int):=l9 (l7 (ieq a0.1 1) (l9 (dU a0.2 1
 a2) fun x=>some (.inr x)) (l7 (ieq a0.1 2) (l9 (dU a0.2 2 a2) fun x=>some (.inr x))
 (l7 (ieq a0.1 3) (l9 (dU a0.2 3 a2) fun x=>some (.inr x)) (l7 (ieq a0.1 4) (l9 (dU a0.2
 4 a2) fun x=>some (.inr x)) (l7 (ieq a0.1 5) (l9 (dU a0.2 5 a2) fun x=>some (.inr x))
 (l7 (ieq a0.1 6) (l9 (wV a0.2 a2) fun x=>some (.inr x)) (l7 (ieq a0.1 7) (l9 (dI a0.2
 a2.2.2.1 a2) fun x=>some (.inr x)) (l7 (ieq a0.1 8) (l9 (dI a0.2 a2.2.2.2.1 a2) fun x=>some
 (.inr x)) (l7 (ieq a0.1 9) (some (.inr ((5,0),0))) (l9 (l7 (ieq a0.1 33) (some (ieq a0.1 33)) (some (ieq a0.1 34))) fun x
 =>l7 x (l9 (lat a1 0) fun x=>l9 (kZ a0 x a2) fun x=>some (.inr x)) (l9 (l7 (ieq a0.1 35)
 (some (ieq a0.1 35)) (l7 (ieq a0.1 36) (some (ieq a0.1 36)) (l7 (ieq a0.1 37) (some (ieq a0.1 37)) (l7 (ieq a0.1 38) (some (ieq a0.1 38))
 (some (ieq a0.1 39)))))) fun x=>l7 x (l9 (jF a0 a2) fun x=>some (.inr x)) (l7 (ieq a0.1 14)
 (l7 (ieq a0.1 14) (l9 (gp a0.2) fun x=>l7 (D6 x) (some (.inr ((0,0),3))) (some (.inl (0,0)))) (some
 (.inl (0,0)))) (l7 (ieq a0.1 15) (l7 (ieq a0.1 15) (l9 (gp a0.2) fun x=>l7 (D6 x) (some (.inr ((0,0),
 3))) (some (.inl (0,0)))) (some (.inl (0,0)))) (l7 (ieq a0.1 16) (l9 (gp a0.2) fun x=>l7 (D6 x) (some
 (.inr ((0,0),3))) (some (.inl (0,0)))) (some (.inl (0,0))))))))))))))))) fun o=>L8 o (fun(x:F6)=>
 l9 (iy a0.1 a1) fun x=>l7 (D6 x.2) (some ((0,0),8)) (some (x.1,0))) fun r=>some r
def d4p:FSpec:=mkS b4O b8E fun x=>U5 x.1 x.2.1 x.2.2
def b4i:List MG:=[(false,(.dat y12)),(true,(.dat y55))]
def b7Y:Ret:=⟨[(.cell 4 52,(true,(.dat y2))),(.tmp 5,uiM),(.tmp 6,uiM)],[]⟩
def d9J:Env:=⟨75,eqs,tt,gl,[(98,s98),(179,c1t),(135,a5c),(304,d4p)],[],[],[],[]⟩
def c7m:Ann:=.seq lfA (.seq lfA (.seq lfA (.seq lfA (.seq (.seq lfA (.blk (.loopR [(4,7),(10,16),(29,72),(4000256,4000257)] ⟨[(4,(false,(.box (.dat y2)))),(10,(false,(.own y2))),(29,uiM)],[]⟩ 0 ⟨[(4,(false,(.box (.dat y2)))),(10,(false,(.own y2)))],[]⟩ lfA))) lfA))))
def Aw (a0:List F6) (a1:I8):Option (F6×F6):=l9 (oM a0) fun x=>l7 (D6
 (ieq x.2.2 0)) (some ((0,0),x.2)) (l9 (J9 (fun(x:F6×List F6×Int)=>l7 (ilt x.2.2 (o8 a0)) (l9 (lat a0 x.2.2) fun(x_1:
 F6)=>l7 (D6 (ieq x_1.2 0)) (l9 (dL x_1.1) fun x_2=>l7 (D6 x_2) (some (.rt ((0,0),x.2.2,2))) (l9
 (iw x_1.1) fun x_3=>l7 (jm (G8 .i64 (o8 x.2.1) x_3) (o8 x.2.1) (o8 x.2.1)) (l9 (U5 x_1 (gu
 x.2.1 (toN (G8 .i64 (o8 x.2.1) x_3)) (toN (o8 x.2.1))) a1) fun x_4=>l7 (D6 (ieq x_4.2 0)) (some (.rt ((0,0),
 x.2.2,x_4.2))) (l7 (jm 0 (G8 .i64 (o8 x.2.1) x_3) (o8 x.2.1)) (l9 (X9 (gu x.2.1 (toN 0) (toN (G8 .i64 (o8
 x.2.1) x_3))) [x_4.1]) fun x_5=>some (.nx (x.1,x_5,x8 .i64 x.2.2 1))) none)) none)) (l9 (iw x_1.1) fun(x_2
 :Int)=>l7 (jm (G8 .i64 (o8 x.2.1) x_2) (o8 x.2.1) (o8 x.2.1)) (l9 (U5 x_1 (gu x.2.1 (toN (G8 .i64
 (o8 x.2.1) x_2)) (toN (o8 x.2.1))) a1) fun x_3=>l7 (D6 (ieq x_3.2 0)) (some (.rt ((0,0),x.2.2,x_3.2))) (l7 (jm
 0 (G8 .i64 (o8 x.2.1) x_2) (o8 x.2.1)) (l9 (X9 (gu x.2.1 (toN 0) (toN (G8 .i64 (o8 x.2.1) x_2))) [x_3.1]) fun(x_4:
 List F6)=>some (.nx (x.1,x_4,x8 .i64 x.2.2 1))) none)) none)) (some (.ex (x.1,x.2.1)))) ((0,0),[],0)) fun o=>L8 o (fun(y:F6×List F6)=>l9 (lat y.2 0) fun x=>l9 (I9 y.2 (toN 0)) fun x=>
 some (x,0,0)) fun r=>some r)
def d3U:FSpec:=mkS b4i b7Y fun x=>Aw x.1 x.2
def b3y:List MG:=[(false,(.dat y12)),(true,(.dat y55)),(true,(.dat y2))]
def b7o:Ret:=⟨[(.tmp 6,uiM)],[]⟩
def d8Z:Env:=⟨23,eqs,tt,gl,[(269,d3U)],[],[],[],[]⟩
def c6C:Ann:=.leaf
def nK (a0:List F6) (a1:I8) (a2:F6):Option Int:=l9 (Aw a0 a1) fun x=>l7 (D6
 (ieq x.2.2 0)) (some x.2.2) (l7 (D6 (aH (ieq x.1.1 a2.1) (ieq x.1.2 a2.2))) (some 8) (some 0))
def d3v:FSpec:=mkS b3y b7o fun x=>nK x.1 x.2.1 x.2.2
def b2P:List MG:=[(true,(.dat y24)),uiM,(true,(.dat y55))]
def b6F:Ret:=⟨[(.tmp 6,uiM)],[]⟩
def d8q:Env:=⟨145,eqs,tt,gl,[(123,a5b),(221,a0D),(220,a7T),(222,d3u),(223,d3v)],[],[],[],[]⟩
def c5S:Ann:=.seq lfA (.seq lfA (.seq lfA (.seq (.seq lfA (.blk (.loop [(8,9),(10,11),(22,34)] ⟨[(8,uiM),(22,uiM)],[]⟩ 0 ⟨[(8,uiM)],[]⟩ lfA))) (.seq (.joinR [(6,8),(34,122),(7000448,7000449)] ⟨[(7,(false,(.rp y19)))],[]⟩ (.blk (.seq lfA (.cond lfA (.seq lfA (.cond lfA (.seq (.join [(46,58)] ⟨[(46,ubM)],[]⟩ lfA) (.cond lfA (.seq (.join [(58,85)] ⟨[(58,ubM)],[]⟩ lfA) (.cond lfA (.seq (.join [(85,94)] ⟨[(85,ubM)],[]⟩ lfA) lfA))))))))))) lfA))))
def wZ (a0:A8) (a1:Int) (a2:I8):Option Int:=l9 (lat a0.2.2.2.2 a1) fun x=>l9 (Fj a0.2.2.2.2 0 a1)
 fun x_1=>l9 (N8 (fun(x_2:F6)=>l7 (ilt x_2.2 (o8 x_1)) (l9 (lat x_1 x_2.2) fun x_3=>l7 (ieq
 x_3.2.1 x.2.1) (some (.inl (x8 .i64 x_2.1 1,x8 .i64 x_2.2 1))) (some (.inl (x_2.1,x8 .i64 x_2.2 1)))) (some
 (.inr x_2.1))) (0,0)) fun y=>l9 (l9 (aJ x.1) fun x_2=>l7 (D6 x_2) (some (.inr 2)) (l9 (Fj
 a0.2.2.2.2 0 a1) fun x_3=>l9 (ae x_3 x) fun x_4=>l7 x_4 (some (.inr 7))
 (l9 (l7 (ilt x.2.1 0) (some true) (some (ile (o8 a0.2.2.2.1) x.2.1))) fun x_5=>l7 x_5 (some (.inr 6)) (l9 (l7 (D6
 (ieq x.2.2.1 (-1))) (l7 (ilt x.2.2.1 0) (some true) (l7 (ile a1 x.2.2.1) (some true) (l9 (lat a0.2.2.2.2 x.2.2.1) fun x_6=>some
 (D6 (ieq x_6.2.1 x.2.1))))) (some false)) fun x_6=>l7 x_6 (some (.inr 9)) (l9 (l7 (ilt x.2.2.2.1 0) (some true) (some (ilt 9
 x.2.2.2.1))) fun x_7=>l7 x_7 (some (.inr 3)) (l7 (ilt x.2.2.2.2.1.1 0) (some (.inr 3)) (l7 (ile x.2.2.2.2.1.2
 x.2.2.2.2.1.1) (some (.inr 3)) (l7 (ilt 109573 x.2.2.2.2.1.2) (some (.inr 3)) (l7 (ile 8 y) (some (.inr 4)) (l9 (rW
 x.2.2.2.2.2.2.2) fun x_8=>l7 (D6 x_8) (some (.inr 2)) (some (.inl x)))))))))))) fun o=>L8 o (fun(x:
 X0)=>l7 (ilt 0 (o8 x.2.2.2.2.2.1)) (l9 (nK x.2.2.2.2.2.1 a2 (1,0)) fun x_2=>l7 (D6 (ieq x_2 0)) (some x_2)
 (l9 (lat a0.2.2.2.1 x.2.1) fun x_3=>l9 (nK x.2.2.2.2.2.2.1 a2 x_3.2) fun x=>some x)) (l9 (lat a0.2.2.2.1
 x.2.1) fun x_2=>l9 (nK x.2.2.2.2.2.2.1 a2 x_2.2) fun x=>some x)) fun r=>some r
def d2U:FSpec:=mkS b2P b6F fun x=>wZ x.1 x.2.1 x.2.2
def c9h:List MG:=[(false,(.ownb (.int .i64)))]
def c1k:FSpec:=⟨c9h,[],[uoM],fun x=>zn x⟩
def c9i:List MG:=[uoM]
def c1l:FSpec:=⟨c9i,[uoM],[],fun x=>jM x⟩
def d0m:List MG:=[uoM]
def d1S:Ret:=⟨[(.tmp 2,uoM)],[]⟩
def e77:Env:=⟨7,eqs,tt,gl,[(106,c1k),(107,c1l)],[],[],[],[]⟩
def d6R:Ann:=.leaf
def nI (a0:List Int):Option (List Int):=l9 (zn a0) fun x=>l9 (jM x) fun x=>some x
def s77:FSpec:=mkS d0m d1S fun x=>nI x
def c9P:List MG:=[(false,(.dat y12))]
def d1t:Ret:=⟨[(.tmp 2,uoM),(.tmp 3,uoM),(.tmp 4,uoM)],[]⟩
def e47:Env:=⟨49,eqs,tt,gl,[(77,s77)],[],[],[],[]⟩
def d6t:Ann:=.seq lfA (.seq lfA (.seq (.seq lfA (.blk (.loop [(5,8),(9,10),(12,43)] ⟨[(5,uoM),(6,uoM),(7,uoM),(12,uiM)],[]⟩ 0 ⟨[(5,uoM),(6,uoM),(7,uoM)],[]⟩ lfA))) lfA))
def fB (a0:List F6):Option Z5:=l9 (N8 (fun(x:List Int×List Int×List Int×Int)=>l7 (ilt x.2.2.2
 (o8 a0)) (l9 (lat a0 x.2.2.2) fun x_1=>l7 (ieq x_1.1 7) (l9 (X9 x.1 [x_1.2]) fun x_2=>some (.inl (x_2,
 x.2.1,x.2.2.1,x8 .i64 x.2.2.2 1))) (l7 (ieq x_1.1 8) (l9 (X9 x.2.1 [x_1.2]) fun x_2=>some (.inl (x.1,x_2,
 x.2.2.1,x8 .i64 x.2.2.2 1))) (l7 (ieq x_1.1 36) (l7 (ieq x_1.1 36) (l9 (X9 x.2.2.1 [x_1.2]) fun x_2=>some
 (.inl (x.1,x.2.1,x_2,x8 .i64 x.2.2.2 1))) (some (.inl (x.1,x.2.1,x.2.2.1,x8 .i64 x.2.2.2 1)))) (l7 (ieq x_1.1 37)
 (l7 (ieq x_1.1 37) (l9 (X9 x.2.2.1 [x_1.2]) fun x_2=>some (.inl (x.1,x.2.1,x_2,x8 .i64 x.2.2.2 1))) (some
 (.inl (x.1,x.2.1,x.2.2.1,x8 .i64 x.2.2.2 1)))) (l7 (ieq x_1.1 38) (l7 (ieq x_1.1 38) (l9 (X9 x.2.2.1 [x_1.2]) fun(x_2:
 List Int)=>some (.inl (x.1,x.2.1,x_2,x8 .i64 x.2.2.2 1))) (some (.inl (x.1,x.2.1,x.2.2.1,x8 .i64 x.2.2.2 1)))) (l7
 (ieq x_1.1 39) (l9 (X9 x.2.2.1 [x_1.2]) fun x_2=>some (.inl (x.1,x.2.1,x_2,x8 .i64 x.2.2.2 1))) (some (.inl
 (x.1,x.2.1,x.2.2.1,x8 .i64 x.2.2.2 1))))))))) (some (.inr (x.1,x.2.1,x.2.2.1)))) ([],[],[],0)) fun y=>l9
 (nI y.1) fun x=>l9 (nI y.2.1) fun x_1=>l9 (nI y.2.2) fun x_2=>
 some (x,x_1,x_2)
def s47:FSpec:=mkS c9P d1t fun x=>fB x
def b2C:List MG:=[(true,(.dat y19)),uiM]
def b6s:Ret:=⟨[(.tmp 4,uoM)],[]⟩
def d8a:Env:=⟨67,eqs,tt,gl,[(47,s47)],[],[],[],[]⟩
def c5A:Ann:=.seq lfA (.seq lfA (.seq lfA (.seq lfA (.seq (.seq lfA (.blk (.loop [(5,6),(13,14),(32,48)] ⟨[(5,uoM),(32,uiM)],[]⟩ 0 ⟨[(5,uoM)],[]⟩ lfA))) (.seq (.seq lfA (.blk (.loop [(5,6),(15,16),(50,66),(21000000,21000001)] ⟨[(5,uoM),(50,uiM)],[]⟩ 2 ⟨[(5,uoM)],[]⟩ lfA))) lfA)))))
def lT (a0:X0) (a1:Int):Option (List Int):=l9 (fB a0.2.2.2.2.2.1) fun x=>l9
 (fB a0.2.2.2.2.2.2.1) fun x_1=>l9 (N8 (fun(x_2:List Int×Int)=>l7 (ilt x_2.2 (o8 x.2.1)) (l9
 (lat x.2.1 x_2.2) fun x_3=>l9 (I9 x.2.1 (toN x_2.2)) fun x=>l7 (ile 0 x) (l7 (ilt x a1) (l9 (X9 x_2.1 [x]) fun(x
 :List Int)=>some (.inl (x,x8 .i64 x_2.2 1))) (some (.inl (x_2.1,x8 .i64 x_2.2 1)))) (some (.inl (x_2.1,x8
 .i64 x_2.2 1)))) (some (.inr x_2.1))) ([],0)) fun y=>l9 (N8 (fun(x:List Int×Int)=>l7 (ilt x.2 (o8
 x_1.2.1)) (l9 (lat x_1.2.1 x.2) fun x_2=>l9 (I9 x_1.2.1 (toN x.2)) fun x_3=>l7 (ile 0 x_3) (l7 (ilt x_3 a1) (l9
 (X9 x.1 [x_3]) fun x_4=>some (.inl (x_4,x8 .i64 x.2 1))) (some (.inl (x.1,x8 .i64 x.2 1)))) (some (.inl
 (x.1,x8 .i64 x.2 1)))) (some (.inr x.1))) (y,0)) fun y=>some y
def d2J:FSpec:=mkS b2C b6s fun x=>lT x.1 x.2
def b1X:List MG:=[uoM]
def b5L:Ret:=⟨[(.tmp 2,uoM)],[]⟩
def d7s:Env:=⟨7,eqs,tt,gl,[(106,c1k),(107,c1l)],[],[],[],[]⟩
def c4R:Ann:=.leaf
def uD (a0:List Int):Option (List Int):=l9 (zn a0) fun x=>l9 (jM x) fun x=>some x
def c1j:FSpec:=mkS b1X b5L fun x=>uD x
def b1W:List MG:=[(true,(.dat y24))]
def b5K:Ret:=⟨[(.tmp 2,(false,(.dat y46)))],[]⟩
def d7r:Env:=⟨58,eqs,tt,gl,[(143,d2J),(104,c1j)],[(84,oiM)],[7,36,50,53],[],[]⟩
def c4Q:Ann:=.seq lfA (.seq lfA (.seq (.seq lfA (.blk (.loop [(3,4),(5,6),(15,44),(7000704,7000705)] ⟨[(3,(false,(.owns oiM))),(15,uiM)],[]⟩ 0 ⟨[(3,(false,(.owns oiM)))],[]⟩ lfA))) (.seq (.seq lfA (.blk (.loop [(3,4),(6,8),(44,45),(46,57),(15000000,15000001)] ⟨[(3,(false,(.owns oiM))),(46,uiM)],[(44,3)]⟩ 2 ⟨[(3,(false,(.owns oiM)))],[]⟩ lfA))) lfA)))
def kX (a0:A8):Option (List (List Int)):=l9 (gU (o8 a0.2.2.2.1) []) fun x=>l9 (N8 (fun(x:
 List (List Int)×Int)=>l7 (ilt x.2 (o8 a0.2.2.2.2)) (l9 (lat a0.2.2.2.2 x.2) fun x_1=>l7 (ile 0 x_1.2.1) (l7 (ilt
 x_1.2.1 (o8 x.1)) (l7 (inb x_1.2.1 (o8 x.1)) (l9 (I9 x.1 (toN x_1.2.1)) fun x_2=>l9 (lT x_1 (o8 x.1))
 fun x_3=>l9 (X9 x_2 x_3) fun x_4=>l7 (inb x_1.2.1 (o8 x.1)) (l7 (IG (toN x_1.2.1) (toN x_1.2.1)) (l9
 (I9 x.1 (toN x_1.2.1)) fun x_5=>some (.inl (S9 x.1 (toN x_1.2.1) x_4,x8 .i64 x.2 1))) none) none) none) (some
 (.inl (x.1,x8 .i64 x.2 1)))) (some (.inl (x.1,x8 .i64 x.2 1)))) (some (.inr x.1))) (x,0)) fun y=>
 l9 (N8 (fun(x:List (List Int)×Int)=>l7 (ilt x.2 (o8 y)) (l7 (inb x.2 (o8 x.1)) (l9 (I9 x.1 (toN x.2)) fun x_1=>l9 (uD x_1) fun x_2=>l7 (inb x.2 (o8 x.1)) (l7 (IG (toN x.2) (toN x.2)) (l9 (I9 x.1 (toN x.2))
 fun x_3=>some (.inl (S9 x.1 (toN x.2) x_2,x8 .i64 x.2 1))) none) none) none) (some (.inr x.1))) (y,0)) fun(y:
 List (List Int))=>some y
def b1d:FSpec:=mkS b1W b5K fun x=>kX x
def b1V:List MG:=[(false,(.dat y46)),uiM]
def b5J:Ret:=⟨[(.tmp 4,uoM)],[]⟩
def d7q:Env:=⟨62,eqs,tt,gl,[],[],[],[],[]⟩
def c4P:Ann:=.seq lfA (.seq lfA (.seq lfA (.seq (.blk (.loop [(5,8),(9,10),(18,48),(7000960,7000961),(10001088,10001089)] ⟨[(5,(false,(.own .bool))),(6,uoM)],[]⟩ 0 ⟨[(5,(false,(.own .bool)))],[]⟩ (.seq lfA (.blk (.seq lfA (.seq lfA (.seq lfA (.blk (.loop [(5,7),(9,10),(31,48),(14000000,14000002)] ⟨[(5,(false,(.own .bool))),(6,uoM),(31,uiM)],[]⟩ 2 ⟨[(5,(false,(.own .bool))),(6,uoM)],[]⟩ lfA))))))))) (.seq lfA (.seq (.seq lfA (.blk (.loop [(10,13),(50,61)] ⟨[(10,uoM),(50,uiM)],[]⟩ 4 ⟨[(10,uoM)],[]⟩ lfA))) lfA)))))
def pX (a0:List (List Int)) (a1:Int):Option (List Int):=l9 (gU (o8 a0) false) fun x=>l9 (N8 (fun(x:
 List Bool×List Int)=>l7 (ilt 0 (o8 x.2)) (l9 (lat x.2 0) fun x_1=>l9 (I9 x.2 (toN 0)) fun x_2=>l7 (jm 1
 (o8 x.2) (o8 x.2)) (l9 (lat a0 x_2) fun x_3=>l9 (N8 (fun(x:List Bool×List Int×Int)=>l7 (ilt x.2.2 (o8 x_3))
 (l9 (lat x_3 x.2.2) fun x_4=>l9 (lat x.1 x_4) fun x_5=>l9 (I9 x.1 (toN x_4)) fun x_6=>l7 (D6 x_6)
 (l9 (lat x.1 x_4) fun x_7=>l9 (I9 x.1 (toN x_4)) fun x_8=>l9 (X9 x.2.1 [x_4]) fun x_9=>some
 (.inl (S9 x.1 (toN x_4) true,x_9,x8 .i64 x.2.2 1))) (some (.inl (x.1,x.2.1,x8 .i64 x.2.2 1)))) (some (.inr (x.1,
 x.2.1)))) (x.1,gu x.2 (toN 1) (toN (o8 x.2)),0)) fun y=>some (.inl y)) none) (some (.inr x.1))) (x,[a1]))
 fun y=>l9 (N8 (fun(x:List Int×Int)=>l7 (ilt x.2 (o8 y)) (l9 (lat y x.2) fun x_1=>l9 (I9 y (toN
 x.2)) fun x_2=>l7 x_2 (l9 (X9 x.1 [x.2]) fun x_3=>some (.inl (x_3,x8 .i64 x.2 1))) (some (.inl
 (x.1,x8 .i64 x.2 1)))) (some (.inr x.1))) ([],0)) fun y=>some y
def c1i:FSpec:=mkS b1V b5J fun x=>pX x.1 x.2
def d0j:List MG:=[(true,(.dat y24)),uiM]
def d1P:Ret:=⟨[(.tmp 4,uoM)],[]⟩
def e68:Env:=⟨18,eqs,tt,gl,[(103,b1d),(102,c1i)],[],[],[],[]⟩
def d6O:Ann:=.leaf
def jD (a0:A8) (a1:Int):Option (List Int):=l7 (ilt a1 0) (some []) (l7 (ile (o8 a0.2.2.2.1) a1) (some []) (l9
 (kX a0) fun x=>l9 (pX x a1) fun x=>some x))
def s68:FSpec:=mkS d0j d1P fun x=>jD x.1 x.2
def b3z:List MG:=[(false,(.dat y32)),uiM]
def b7p:Ret:=⟨[(.tmp 4,uiM)],[]⟩
def d9a:Env:=⟨19,eqs,tt,gl,[],[],[],[],[]⟩
def c6D:Ann:=.seq lfA (.seq (.seq lfA (.blk (.loopR [(4,6),(8,19)] ⟨[(8,uiM)],[]⟩ 0 ⟨[],[]⟩ lfA))) lfA)
def pR (a0:List Int) (a1:Int):Option Int:=l9 (J9 (fun(x:Int)=>l7 (ilt x (o8 a0)) (l9 (lat a0 x) fun(x_1
 :Int)=>l7 (ieq a1 x_1) (some (.rt x)) (some (.nx (x8 .i64 x 1)))) (some (.ex ()))) 0) fun o=>L8 o
 (fun(y:PUnit)=>some (-1)) fun r=>some r
def d3w:FSpec:=mkS b3z b7p fun x=>pR x.1 x.2
def b2Q:List MG:=[(false,(.dat y32)),uiM]
def b6G:Ret:=⟨[(.tmp 4,ubM)],[]⟩
def d8r:Env:=⟨9,eqs,tt,gl,[(224,d3w)],[],[],[],[]⟩
def c5T:Ann:=.leaf
def ik (a0:List Int) (a1:Int):Option Bool:=l9 (pR a0 a1) fun x=>some (ile 0 x)
def d2V:FSpec:=mkS b2Q b6G fun x=>ik x.1 x.2
def b2o:List MG:=[(true,(.dat y27)),uiM]
def b6e:Ret:=⟨[(.tmp 4,uiM),(.tmp 5,uiM)],[]⟩
def d7L:Env:=⟨163,eqs,tt,gl,[(124,b1g),(125,c1p),(166,a0A),(165,a7L),(123,a5b),(167,d2S),(168,d2T),(169,d2U),(68,s68),(170,d2V)],[],[],[],[]⟩
def c5l:Ann:=.seq lfA (.seq lfA (.seq lfA (.seq (.join [(6,7),(8,9),(28,45),(7000384,7000385)] ⟨[(6,(false,(.rp y24))),(8,ubM)],[]⟩ lfA) (.seq (.joinR [(4,6),(45,86)] ⟨[],[]⟩ (.blk (.seq lfA (.cond lfA (.seq lfA (.cond lfA (.seq (.join [(52,76)] ⟨[(52,ubM)],[]⟩ lfA) lfA))))))) (.seq (.seq lfA (.blk (.loopR [(4,6),(9,12),(89,107)] ⟨[(89,uiM)],[]⟩ 1 ⟨[],[]⟩ lfA))) (.seq (.seq lfA (.blk (.loopR [(4,6),(12,15),(110,130)] ⟨[(110,uiM)],[]⟩ 3 ⟨[],[]⟩ lfA))) (.seq lfA (.seq (.seq lfA (.blk (.loopR [(4,6),(16,18),(136,149)] ⟨[(136,uiM)],[]⟩ 5 ⟨[],[]⟩ lfA))) (.seq (.seq lfA (.blk (.loopR [(4,6),(18,19),(152,163)] ⟨[(152,uiM)],[]⟩ 7 ⟨[],[]⟩ lfA))) lfA)))))))))
def uN (a0:L6) (a1:Int):Option F6:=l9 (lat a0.2.2 a1) fun x=>l9 (Fj a0.2.2 0 a1) fun x_1
 =>l9 (l9 (tV a0.1 x.1) fun x_2=>l7 x_2 (some (x,true)) (l9 (uP a0.2.1 x.1) fun x_3=>l7 x_3
 (some (x,true)) (l9 (Y7 x_1 x) fun x_4=>some (x,x_4)))) fun x=>l9 (l9
 (aJ x.1.1) fun x_2=>l7 (D6 x_2) (some (.inr (2,0))) (l7 x.2 (some (.inr (7,0))) (l9 (l7 (D6 (ieq
 x.1.2.1 (-1))) (l7 (ilt x.1.2.1 0) (some true) (l7 (ile a1 x.1.2.1) (some true) (l9 (lat x_1 x.1.2.1) fun x=>some (D6 (ieq
 x.2.1 (-1)))))) (some false)) fun x_3=>l7 x_3 (some (.inr (6,0))) (l7 (ilt 12 (o8 x.1.2.2.1)) (some (.inr (4,112))) (l7
 (ilt 12 (o8 x.1.2.2.2.1)) (some (.inr (4,212))) (some (.inl ()))))))) fun o=>L8 o (fun(x_2:PUnit)=>l9
 (J9 (fun(x_3:Int)=>l7 (ilt x_3 (o8 x.1.2.2.1)) (l9 (lat x.1.2.2.1 x_3) fun x_4=>l9 (Fj x.1.2.2.1 0 x_3) fun(x:
 List bi)=>l9 (oU a0 x_4 x []) fun x=>l7 (D6 (ieq x 0)) (some (.rt (x,x8 .i64 100 x_3))) (some
 (.nx (x8 .i64 x_3 1)))) (some (.ex ()))) 0) fun o=>L8 o (fun(y:PUnit)=>l9 (J9 (fun(x_3:
 Int)=>l7 (ilt x_3 (o8 x.1.2.2.2.1)) (l9 (lat x.1.2.2.2.1 x_3) fun x_4=>l9 (Fj x.1.2.2.2.1 0 x_3) fun x_5
 =>l9 (oU a0 x_4 x.1.2.2.1 x_5) fun x=>l7 (D6 (ieq x 0)) (some (.rt (x,x8 .i64 200 x_3))) (some (.nx
 (x8 .i64 x_3 1)))) (some (.ex ()))) 0) fun o=>L8 o (fun(y:PUnit)=>l9 (iJ a0 a1)
 fun x_3=>l9 (J9 (fun(x_4:Int)=>l7 (ilt x_4 (o8 x.1.2.2.2.2)) (l9 (wZ x.1 x_4 x_3) fun x=>
 l7 (D6 (ieq x 0)) (some (.rt (x,x8 .i64 300 x_4))) (some (.nx (x8 .i64 x_4 1)))) (some (.ex ()))) 0) fun(o
 :PUnit⊕F6)=>L8 o (fun(y:PUnit)=>l9 (J9 (fun(x_4:Int)=>l7 (ilt x_4 (o8 x.1.2.2.2.1)) (l9 (jD x.1 x_4)
 fun x=>l9 (ik x x_4) fun x=>l7 x (some (.rt (9,x8 .i64 200 x_4))) (some (.nx
 (x8 .i64 x_4 1)))) (some (.ex ()))) 0) fun o=>L8 o (fun(y:PUnit)=>some (0,0)) fun r=>some
 r) fun r=>some r) fun r=>some r) fun r=>some r) fun r=>some r
def d2z:FSpec:=mkS b2o b6e fun x=>uN x.1 x.2
def d0y:List MG:=[(true,(.dat y27))]
def d2e:Ret:=⟨[(.cell 2 120,(true,(.dat y37)))],[]⟩
def e89:Env:=⟨31,eqs,tt,gl,[(126,d2z)],[],[],[],[]⟩
def d7d:Ann:=.seq lfA (.seq lfA (.seq (.seq lfA (.blk (.loopR [(2,6),(14,30),(4000128,4000129)] ⟨[(2,(false,(.box (.dat y37)))),(14,uiM)],[]⟩ 0 ⟨[(2,(false,(.box (.dat y37))))],[]⟩ lfA))) lfA))
def rU (a0:L6):Option E8:=l7 (ilt 4 (o8 a0.2.2)) (some (4,3,4,0)) (l9 (J9 (fun(x:E8×Int)=>
 l7 (ilt x.2 (o8 a0.2.2)) (l9 (uN a0 x.2) fun x_1=>l7 (D6 (ieq x_1.1 0)) (some (.rt (x_1.1,3,x.2,x_1.2)))
 (some (.nx (x.1,x8 .i64 x.2 1)))) (some (.ex x.1))) ((0,0,0,0),0)) fun o=>L8 o (fun(y:
 E8)=>some (0,0,0,0)) fun r=>some r)
def s89:FSpec:=mkS d0y d2e fun x=>rU x
def c9Y:List MG:=[(true,(.dat y27))]
def d1D:Ret:=⟨[(.cell 2 120,(true,(.dat y37)))],[]⟩
def e56:Env:=⟨19,eqs,tt,gl,[(87,s87),(88,s88),(89,s89)],[],[],[],[]⟩
def d6C:Ann:=.leaf
def yB (a0:L6):Option E8:=l9 (uM a0) fun x=>l7 (D6 (ieq x.1 0)) (some x) (l9
 (rV a0) fun x=>l7 (D6 (ieq x.1 0)) (some x) (l9 (rU a0) fun x=>some x))
def s56:FSpec:=mkS c9Y d1D fun x=>yB x
def d0z:List MG:=[(true,(.dat y27)),(false,(.dat y28)),(false,(.dat y11))]
def d2f:Ret:=⟨[(.tmp 6,uiM),(.tmp 7,uiM)],[]⟩
def e90:Env:=⟨71,eqs,tt,gl,[(67,s67)],[],[],[],[]⟩
def d7e:Ann:=.seq lfA (.seq lfA (.seq lfA (.seq (.seq lfA (.blk (.loopR [(6,13),(29,71)] ⟨[(29,uiM)],[]⟩ 0 ⟨[],[]⟩ lfA))) lfA)))
def gm (a0:L6) (a1:List F8) (a2:List bi):Option F6:=l7 (ilt (o8 a1) (o8 a2)) (some (o8 a1,5))
 (l7 (ilt (o8 a2) (o8 a1)) (some (o8 a2,4)) (l9 (J9 (fun(x:Int)=>l7 (ilt x (o8 a1)) (l9 (lat a1 x) fun x_1=>
 l9 (lat a2 x) fun x_2=>l7 (D6 (ieq x_1.1 x_2.2.1)) (some (.rt (x,8))) (l7 (D6 (ieq x_1.2.1 x_2.2.2)) (some (.rt (x,
 8))) (l9 (iT x_2.2 a0.1) fun x_3=>l7 (ilt x_1.2.2 x_3.1) (some (.rt (x,3))) (l7 (ilt x_3.2 x_1.2.2) (some (.rt
 (x,3))) (some (.nx (x8 .i64 x 1))))))) (some (.ex ()))) 0) fun o=>L8 o (fun(y:PUnit)=>some (0,0))
 fun r=>some r))
def s90:FSpec:=mkS d0z d2f fun x=>gm x.1 x.2.1 x.2.2
def d0A:List MG:=[(true,(.dat y27)),uiM]
def d2g:Ret:=⟨[(.tmp 4,(false,(.dat y11))),(.tmp 5,uiM)],[]⟩
def e91:Env:=⟨28,eqs,tt,gl,[],[],[],[],[]⟩
def d7f:Ann:=.leaf
def jr (a0:L6) (a1:Int):Option (List bi×Int):=l9 (lat a0.2.2 a1) fun x=>l7 (ilt x.2.1 0) (some
 ([],0)) (l7 (ile (o8 a0.2.2) x.2.1) (some ([],0)) (l9 (lat a0.2.2 x.2.1) fun x=>some (x.2.2.1,8)))
def s91:FSpec:=mkS d0A d2g fun x=>jr x.1 x.2
def c9Z:List MG:=[(true,(.dat y27)),uiM,(true,(.dat y31))]
def d1E:Ret:=⟨[(.tmp 6,uiM),(.tmp 7,uiM),(.tmp 8,uiM)],[]⟩
def e57:Env:=⟨84,eqs,tt,gl,[(90,s90),(91,s91)],[],[],[],[]⟩
def d6D:Ann:=.seq lfA (.seq (.joinR [(6,9),(17,26)] ⟨[],[]⟩ lfA) (.seq (.joinR [(6,9),(26,34)] ⟨[],[]⟩ lfA) (.seq lfA (.seq lfA (.seq lfA (.seq (.seq lfA (.blk (.loopR [(6,9),(13,17),(66,84)] ⟨[(66,uiM)],[]⟩ 0 ⟨[],[]⟩ lfA))) lfA))))))
def nU (a0:L6) (a1:Int) (a2:U8):Option F8:=l9 (l7 (ilt a1 0) (some (.inr (-1,-1,6))) (l7 (ile (o8
 a0.2.2) a1) (some (.inr (-1,-1,6))) (some (.inl ())))) fun o=>L8 o (fun(x:PUnit)=>l9 (l7 (ilt a2.1
 0) (some (.inr (-1,-1,3))) (l7 (ilt 109572 a2.1) (some (.inr (-1,-1,3))) (some (.inl ())))) fun o=>L8
 o (fun(x:PUnit)=>l9 (lat a0.2.2 a1) fun x=>l9 (gm a0 a2.2.1 x.2.2.1) fun x=>l7 (D6 (ieq
 x.2 0)) (some (-1,x)) (l9 (jr a0 a1) fun x=>l7 (ilt x.2 (o8 a2.2.2)) (some (x.2,-1,4)) (l9
 (J9 (fun(x_1:Int)=>l7 (ilt x_1 (o8 a2.2.2)) (l9 (lat a2.2.2 x_1) fun x_2=>l9 (gm a0 x_2 x.1)
 fun x=>l7 (D6 (ieq x.2 0)) (some (.rt (x_1,x))) (some (.nx (x8 .i64 x_1 1)))) (some (.ex ()))) 0) fun(o
 :PUnit⊕F8)=>L8 o (fun(y:PUnit)=>some (0,0,0)) fun r=>some r))) fun r=>some r) fun r=>some r
def s57:FSpec:=mkS c9Z d1E fun x=>nU x.1 x.2.1 x.2.2
def c9y:List MG:=[(true,(.dat y27)),uiM,(true,(.dat y31)),ubM,uiM]
def d1d:Ret:=⟨[(.cell 10 39,(true,(.dat y37)))],[]⟩
def e27:Env:=⟨63,eqs,tt,gl,[(56,s56),(57,s57)],[],[],[],[]⟩
def d6d:Ann:=.seq lfA (.seq lfA (.seq (.joinR [(10,11),(21,49),(4000640,4000641)] ⟨[(10,(false,(.box (.dat y37))))],[]⟩ lfA) lfA))
def dC (a0:L6) (a1:Int) (a2:U8) (a3:Bool) (a4:Int):Option E8:=l9 (yB a0) fun(x:
 E8)=>l7 (D6 (ieq x.1 0)) (some (1,-1,-1,-1)) (l9 (l7 (ilt a1 0) (some (.inr (6,-1,-1,-1))) (l7 (ile (o8 a0.2.2)
 a1) (some (.inr (6,-1,-1,-1))) (l7 a3 (l7 (ilt a4 0) (some (.inr (6,-1,-1,-1))) (l9 (lat a0.2.2 a1) fun x=>l7
 (ile (o8 x.2.2.2.1) a4) (some (.inr (6,-1,-1,-1))) (some (.inl (0,0,0,0))))) (some (.inl (0,0,0,0)))))) fun o=>L8 o (fun(x:E8)=>l9 (nU a0 a1 a2) fun x=>l7 (D6 (ieq x.2.2 0)) (some (x.2.2,x.1,
 -1,-1)) (some (0,0,0,0))) fun r=>some r)
def s27:FSpec:=mkS c9y d1d fun x=>dC x.1 x.2.1 x.2.2.1 x.2.2.2.1 x.2.2.2.2
def c9A:List MG:=[(true,(.dat y27)),uiM]
def d1e:Ret:=⟨[(.tmp 4,(false,(.box (.pair (.dat y24) (.pair (.dat y24) (.pair (.own .bool) (.own .bool)))))))],[]⟩
def e28:Env:=⟨52,eqs,tt,gl,[],[],[],[],[]⟩
def d6e:Ann:=.leaf
def jI (a0:L6) (a1:Int):Option I4:=l9 (lat a0.2.2 a1) fun x=>l9 (gU (o8 x.2.2.2.1) false) fun
 (x_1:List Bool)=>l7 (ile 0 x.2.1) (l9 (lat a0.2.2 x.2.1) fun x_2=>l9 (gU (o8 x_2.2.2.2.1) false) fun x_3
 =>some (x,x_2,x_1,x_3)) (some (x,([],0,[],[],[]),x_1,[]))
def s28:FSpec:=mkS c9A d1e fun x=>jI x.1 x.2
def a2N:List MG:=[(false,(.box oiM)),(false,(.ifc 3 diM))]
def a3t:Ret:=⟨[],[(0,(true,oiM))]⟩
def c0Q:Env:=⟨20,eqs,tt,gl,[],[],[],[],[0]⟩
def b0w:Ann:=.leaf
def uC (a0:List Int) (a1:Int):Option (List Int):=l9 (X9 a0 [a1]) fun x=>some x
def a8b:FSpec:=mkS a2N a3t fun x=>uC x.1 x.2
def b2p:List MG:=[(false,(.dat y32))]
def b6f:Ret:=⟨[(.tmp 2,uiM)],[]⟩
def d7M:Env:=⟨5,eqs,tt,gl,[],[],[],[],[]⟩
def c5m:Ann:=.leaf
def dQ (a0:List Int):Option Int:=some (o8 a0)
def b1h:FSpec:=mkS b2p b6f fun x=>dQ x
def b5E:List MG:=[(false,(.dat y32)),uiM,uiM]
def b9u:Ret:=⟨[(.tmp 6,ubM)],[]⟩
def e1f:Env:=⟨16,eqs,tt,gl,[],[],[],[],[]⟩
def c8J:Ann:=.leaf
def X3 (a0:List Int) (a1:Int) (a2:Int):Option Bool:=l9 (lat a0 a1) fun x=>l9 (lat a0 a2) fun x_1=>
 some (ilt x x_1)
def c1X:FSpec:=mkS b5E b9u fun x=>X3 x.1 x.2.1 x.2.2
def b5G:List MG:=[(false,(.ownb (.int .i64))),uiM,uiM]
def b9w:Ret:=⟨[],[(0,uoM)]⟩
def e1h:Env:=⟨20,eqs,tt,gl,[],[],[],[],[0]⟩
def c8L:Ann:=.leaf
def Y0 (a0:List Int) (a1:Int) (a2:Int):Option (List Int):=l9 (lat a0 a2) fun x=>l9 (I9 a0 (toN a2)) fun(x
 :Int)=>l9 (lat a0 a1) fun x_1=>l9 (I9 a0 (toN a1)) fun x_2=>l9 (lat a0 a1) fun x_3=>l9 (I9 a0 (toN
 a1)) fun x_4=>l9 (lat (S9 a0 (toN a1) x) a2) fun x_5=>l9 (I9 (S9 a0 (toN a1) x) (toN a2)) fun x_6=>some
 (S9 (S9 a0 (toN a1) x) (toN a2) x_2)
def b1w:FSpec:=mkS b5G b9w fun x=>Y0 x.1 x.2.1 x.2.2
def a2B:List MG:=[(false,(.ifc 185 (.box oiM))),uiM]
def a3h:Ret:=⟨[],[(0,(true,oiM))]⟩
def c0E:Env:=⟨23,eqs,tt,gl,[(369,c1X),(372,b1w)],[],[],[((185,"Less"),369,some 186),((185,"Swap"),372,some 186)],[0]⟩
def b0k:Ann:=.blk (.loop [(0,2),(4,23),(1000000,1000002)] ⟨[(0,(false,(.ifc 185 (.box oiM)))),(1,uiM)],[]⟩ 0 ⟨[(0,(false,(.ifc 185 (.box oiM))))],[]⟩ lfA)
def nV (a0:List Int) (a1:Int):Option (List Int):=l9 (N8 (fun(x:List Int×Int)=>l7 (ieq (X4 .i64 (G8
 .i64 x.2 1) 2) x.2) (some (.inr x.1)) (l9 (X3 x.1 x.2 (X4 .i64 (G8 .i64 x.2 1) 2)) fun x_1=>
 l7 (D6 x_1) (some (.inr x.1)) (l9 (Y0 x.1 (X4 .i64 (G8 .i64 x.2 1) 2) x.2) fun x_2=>some
 (.inl (x_2,X4 .i64 (G8 .i64 x.2 1) 2))))) (a0,a1)) fun y=>some y
def a7M:FSpec:=mkS a2B a3h fun x=>nV x.1 x.2
def a2p:List MG:=[(false,(.ifc 185 (.box oiM))),(false,(.ifc 3 diM))]
def a2W:Ret:=⟨[],[(0,(true,oiM))]⟩
def c0s:Env:=⟨12,eqs,tt,gl,[(371,a8b),(128,b1h),(171,a7M)],[],[],[((185,"Len"),128,some 186),((185,"Push"),371,none)],[0]⟩
def a9Z:Ann:=.leaf
def aj (a0:List Int) (a1:Int):Option (List Int):=l9 (uC a0 a1) fun x=>l9
 (dQ x) fun x_1=>l9 (nV x (G8 .i64 x_1 1)) fun x=>some x
def a7F:FSpec:=mkS a2p a2W fun x=>aj x.1 x.2
def a2C:List MG:=[(false,(.ifc 185 (.box oiM))),uiM,uiM]
def a3i:Ret:=⟨[(.tmp 6,ubM)],[(0,(true,oiM))]⟩
def c0F:Env:=⟨48,eqs,tt,gl,[(369,c1X),(372,b1w)],[],[],[((185,"Less"),369,some 186),((185,"Swap"),372,some 186)],[0]⟩
def b0l:Ann:=.seq lfA (.seq lfA (.seq (.blk (.loop [(0,1),(7,11),(12,45),(1000000,1000002)] ⟨[(0,(false,(.ifc 185 (.box oiM)))),(7,uiM)],[]⟩ 0 ⟨[(0,(false,(.ifc 185 (.box oiM)))),(7,uiM)],[]⟩ lfA)) lfA))
def kR (a0:List Int) (a1:Int) (a2:Int):Option (Bool×List Int):=l9 (N8 (fun(x:List Int×Int)=>l7 (ile a2
 (x8 .i64 (N9 .i64 2 x.2) 1)) (some (.inr x)) (l7 (ilt (x8 .i64 (N9 .i64 2 x.2) 1) 0) (some (.inr x))
 (l7 (ilt (x8 .i64 (x8 .i64 (N9 .i64 2 x.2) 1) 1) a2) (l9 (X3 x.1 (x8 .i64 (x8 .i64
 (N9 .i64 2 x.2) 1) 1) (x8 .i64 (N9 .i64 2 x.2) 1)) fun x_1=>l7 x_1 (l9 (X3 x.1 (x8
 .i64 (x8 .i64 (N9 .i64 2 x.2) 1) 1) x.2) fun x_2=>l7 (D6 x_2) (some (.inr x)) (l9 (Y0
 x.1 x.2 (x8 .i64 (x8 .i64 (N9 .i64 2 x.2) 1) 1)) fun x_3=>some (.inl (x_3,x8 .i64 (x8
 .i64 (N9 .i64 2 x.2) 1) 1)))) (l9 (X3 x.1 (x8 .i64 (N9 .i64 2 x.2) 1) x.2) fun x_2=>
 l7 (D6 x_2) (some (.inr x)) (l9 (Y0 x.1 x.2 (x8 .i64 (N9 .i64 2 x.2) 1)) fun x_3=>some
 (.inl (x_3,x8 .i64 (N9 .i64 2 x.2) 1))))) (l9 (X3 x.1 (x8 .i64 (N9 .i64 2 x.2) 1) x.2) fun
 (x_1:Bool)=>l7 (D6 x_1) (some (.inr x)) (l9 (Y0 x.1 x.2 (x8 .i64 (N9 .i64 2 x.2) 1)) fun x_2=>some (.inl (x_2,x8 .i64 (N9 .i64 2 x.2) 1))))))) (a0,a1)) fun y=>some (ilt a1 y.2,y.1)
def a7N:FSpec:=mkS a2C a3i fun x=>kR x.1 x.2.1 x.2.2
def b5F:List MG:=[(false,(.box oiM))]
def b9v:Ret:=⟨[(.tmp 2,(false,(.ifc 3 diM)))],[(0,(true,oiM))]⟩
def e1g:Env:=⟨23,eqs,tt,gl,[],[],[],[],[0]⟩
def c8K:Ann:=.leaf
def vY (a0:List Int):Option (Int×List Int):=l9 (lat a0 (G8 .i64 (o8 a0) 1)) fun x=>l9 (I9 a0 (toN
 (G8 .i64 (o8 a0) 1))) fun x=>l7 (jm 0 (G8 .i64 (o8 a0) 1) (o8 a0)) (some (x,gu a0 (toN 0) (toN (G8
 .i64 (o8 a0) 1)))) none
def d4M:FSpec:=mkS b5F b9v fun x=>vY x
def a2q:List MG:=[(false,(.ifc 185 (.box oiM)))]
def a2X:Ret:=⟨[(.tmp 2,(false,(.ifc 3 diM)))],[(0,(true,oiM))]⟩
def c0t:Env:=⟨15,eqs,tt,gl,[(128,b1h),(372,b1w),(172,a7N),(370,d4M)],[],[],[((185,"Len"),128,some 186),((185,"Pop"),370,none),((185,"Swap"),372,some 186)],[0]⟩
def b0a:Ann:=.leaf
def jc (a0:List Int):Option (Int×List Int):=l9 (dQ a0) fun x=>l9 (Y0 a0 0 (G8
 .i64 x 1)) fun x_1=>l9 (kR x_1 0 (G8 .i64 x 1)) fun x=>l9
 (vY x.2) fun x=>some x
def a7G:FSpec:=mkS a2q a2X fun x=>jc x
def d0B:List MG:=[(true,(.dat y24))]
def d2h:Ret:=⟨[(.tmp 2,uoM),(.tmp 3,uiM)],[]⟩
def e92:Env:=⟨113,eqs,tt,gl,[(103,b1d),(127,a7F),(128,b1h),(129,a7G)],[(84,oiM)],[12,50,77,80],[],[]⟩
def d7g:Ann:=.seq lfA (.seq lfA (.seq lfA (.seq lfA (.seq lfA (.seq (.seq lfA (.blk (.loop [(5,10),(11,12),(29,65),(10001344,10001345),(13001536,13001537),(16001600,16001601),(16001664,16001665)] ⟨[(5,(false,(.owns oiM))),(6,uoM),(7,(false,(.box oiM))),(29,uiM)],[]⟩ 0 ⟨[(5,(false,(.owns oiM))),(6,uoM),(7,(false,(.box oiM)))],[]⟩ (.seq lfA (.seq lfA (.seq (.blk (.seq lfA (.seq lfA (.seq (.seq lfA (.blk (.loop [(5,6),(11,12),(41,56),(23000000,23000001)] ⟨[(5,(false,(.owns oiM))),(41,uiM)],[]⟩ 2 ⟨[(5,(false,(.owns oiM)))],[]⟩ lfA))) lfA)))) lfA)))))) (.seq lfA (.seq (.blk (.loop [(5,8),(12,15),(16,17),(65,107),(24000000,24000004)] ⟨[(5,(false,(.dat y46))),(6,uoM),(7,(false,(.box oiM))),(12,uoM)],[]⟩ 4 ⟨[(12,uoM)],[]⟩ (.seq lfA (.blk (.seq lfA (.seq lfA (.seq lfA (.blk (.loop [(6,8),(16,17),(86,107),(79000000,79000002),(91004672,91004673)] ⟨[(6,uoM),(7,(false,(.box oiM))),(86,uiM)],[]⟩ 6 ⟨[(6,uoM),(7,(false,(.box oiM)))],[]⟩ lfA))))))))) lfA)))))))
def jP (a0:A8):Option (List Int×Int):=l9 (kX a0) fun x=>l9 (gU (o8 x) [])
 fun x_1=>l9 (gU (o8 x) 0) fun x_2=>l9 (N8 (fun(x_3:List (List Int)×List Int×List Int×Int)
 =>l7 (ilt x_3.2.2.2 (o8 x)) (l9 (lat x x_3.2.2.2) fun x=>l9 (lat x_3.2.1 x_3.2.2.2) fun x_4=>l9 (I9 x_3.2.1
 (toN x_3.2.2.2)) fun x_5=>l9 (N8 (fun(x_6:List (List Int)×Int)=>l7 (ilt x_6.2 (o8 x)) (l9 (lat x x_6.2) fun x
 =>l7 (inb x (o8 x_6.1)) (l9 (I9 x_6.1 (toN x)) fun x_7=>l9 (X9 x_7 [x_3.2.2.2]) fun x_8=>l7 (inb x
 (o8 x_6.1)) (l7 (IG (toN x) (toN x)) (l9 (I9 x_6.1 (toN x)) fun x_9=>some (.inl (S9 x_6.1 (toN x) x_8,x8
 .i64 x_6.2 1))) none) none) none) (some (.inr x_6.1))) (x_3.1,0)) fun y=>l7 (ieq (o8 x) 0) (l9
 (aj x_3.2.2.1 x_3.2.2.2) fun x_6=>some (.inl (y,S9 x_3.2.1 (toN x_3.2.2.2) (o8 x),x_6,x8 .i64
 x_3.2.2.2 1))) (some (.inl (y,S9 x_3.2.1 (toN x_3.2.2.2) (o8 x),x_3.2.2.1,x8 .i64 x_3.2.2.2 1)))) (some (.inr (x_3.1,x_3.2.1,
 x_3.2.2.1)))) (x_1,x_2,[],0)) fun y=>l9 (N8 (fun(x:List (List Int)×Z5)=>l9
 (dQ x.2.2.1) fun x_3=>l7 (ilt 0 x_3) (l9 (jc x.2.2.1) fun x_4=>l9 (X9 x.2.2.2
 [x_4.1]) fun x_5=>l9 (lat x.1 x_4.1) fun x_6=>l9 (N8 (fun(x:List Int×List Int×Int)=>l7 (ilt x.2.2
 (o8 x_6)) (l9 (lat x_6 x.2.2) fun x_7=>l9 (lat x.1 x_7) fun x_8=>l9 (I9 x.1 (toN x_7)) fun x_9=>l9 (lat
 x.1 x_7) fun x_10=>l9 (I9 x.1 (toN x_7)) fun x_11=>l9 (lat (S9 x.1 (toN x_7) (G8 .i64 x_9 1)) x_7) fun(x_12:
 Int)=>l9 (I9 (S9 x.1 (toN x_7) (G8 .i64 x_9 1)) (toN x_7)) fun x_13=>l7 (ieq x_13 0) (l9 (aj x.2.1
 x_7) fun x_14=>some (.inl (S9 x.1 (toN x_7) (G8 .i64 x_9 1),x_14,x8 .i64 x.2.2 1))) (some (.inl (S9 x.1
 (toN x_7) (G8 .i64 x_9 1),x.2.1,x8 .i64 x.2.2 1)))) (some (.inr (x.1,x.2.1)))) (x.2.1,x_4.2,0)) fun y=>some (.inl (x.1,y.1,y.2,x_5))) (some (.inr x.2.2.2))) (y.1,y.2.1,y.2.2,[])) fun y=>l7 (ilt (o8 y) (o8 x))
 (some ([],9)) (some (y,0))
def s92:FSpec:=mkS d0B d2h fun x=>jP x
def d0l:List MG:=[(true,(.dat y2)),uiM]
def d1R:Ret:=⟨[(.tmp 4,ubM)],[]⟩
def e70:Env:=⟨19,eqs,tt,gl,[(105,b1e)],[],[],[],[]⟩
def d6Q:Ann:=.leaf
def aI (a0:F6) (a1:Int):Option Bool:=l9 (jC a0) fun x=>l7 x (l7 (ile a0.1 a1) (some (ilt
 a1 a0.2)) (some false)) (some false)
def s70:FSpec:=mkS d0l d1R fun x=>aI x.1 x.2
def a2n:List MG:=[(true,(.dat y19)),(false,(.rp (.int .i64))),(false,(.rp (.int .i64)))]
def a2V:Ret:=⟨[(.tmp 4,ubM)],[]⟩
def c0r:Env:=⟨15,eqs,tt,gl,[(70,s70)],[],[],[],[]⟩
def a9Y:Ann:=.leaf
def lU (a0:X0) (a1:Int) (a2:Int):Option Bool:=l7 (ieq a0.2.1 a1) (l9 (aI a0.2.2.2.2.1 a2) fun(x:
 Bool)=>some x) (some false)
def a0v:FSpec:=mkS a2n a2V fun x=>lU x.1 x.2.1 x.2.2
def a7h:List MG:=[(false,(.dat y20)),(false,(.fn 108 [(.int .i64),(.int .i64)]))]
def a7A:Ret:=⟨[(.tmp 4,uoM),(.tmp 5,uoM)],[]⟩
def c8U:Env:=⟨59,eqs,tt,gl,[(108,a0v)],[],[],[],[]⟩
def b9S:Ann:=.seq lfA (.seq lfA (.seq lfA (.seq (.seq lfA (.blk (.loop [(6,12),(17,57),(10000896,10000897)] ⟨[(6,uoM),(7,uoM),(8,uoM),(17,uiM)],[]⟩ 0 ⟨[(6,uoM),(7,uoM)],[]⟩ (.seq lfA (.seq lfA (.seq (.blk (.seq lfA (.seq lfA (.seq (.join [(11,12),(22,36)] ⟨[(11,uiM)],[]⟩ lfA) lfA)))) lfA)))))) lfA)))
def iG (a0:List X0) (a1:F6):Option (List Int×List Int):=l9 (gU (o8 a0) 0) fun x=>l9 (N8
 (fun(x:List Int×List Int×List Int×Int)=>l7 (ilt x.2.2.2 (o8 a0)) (l9 (lat a0 x.2.2.2) fun x_1=>l9 (l7 (ile 0
 x_1.2.2.1) (l7 (ilt x_1.2.2.1 x.2.2.2) (l9 (lat x.2.2.1 x_1.2.2.1) fun x_2=>l9 (I9 x.2.2.1 (toN x_1.2.2.1)) fun x=>
 some x) (some (-1))) (some (-1))) fun x_2=>l9 (lat x.2.2.1 x.2.2.2) fun x_3=>l9 (I9 x.2.2.1 (toN x.2.2.2)) fun(x_4:
 Int)=>l9 (lU x_1 a1.1 a1.2) fun x_5=>l7 x_5 (l9 (lat (S9 x.2.2.1 (toN x.2.2.2) x_2) x.2.2.2) fun x_6
 =>l9 (I9 (S9 x.2.2.1 (toN x.2.2.2) x_2) (toN x.2.2.2)) fun x_7=>l9 (X9 x.1 [x.2.2.2]) fun x_8=>l9 (X9
 x.2.1 [x_2]) fun x_9=>some (.inl (x_8,x_9,S9 (S9 x.2.2.1 (toN x.2.2.2) x_2) (toN x.2.2.2) (o8 x.1),x8 .i64
 x.2.2.2 1))) (some (.inl (x.1,x.2.1,S9 x.2.2.1 (toN x.2.2.2) x_2,x8 .i64 x.2.2.2 1)))) (some (.inr (x.1,x.2.1)))) ([],[],x,
 0)) fun y=>some y
def b9x:FSpec:=mkS a7h a7A fun x=>iG x.1 x.2
def d0n:List MG:=[(true,(.dat y24)),uiM,uiM]
def d1T:Ret:=⟨[(.tmp 6,uoM),(.tmp 7,uoM),(.tmp 8,uoM)],[]⟩
def e78:Env:=⟨40,eqs,tt,gl,[(108,a0v),(72,b9x)],[],[],[],[]⟩
def d6S:Ann:=.seq lfA (.seq lfA (.seq lfA (.seq (.seq lfA (.blk (.loop [(11,12),(13,14),(23,37)] ⟨[(11,uoM),(23,uiM)],[]⟩ 0 ⟨[(11,uoM)],[]⟩ lfA))) lfA)))
def pY (a0:A8) (a1:Int) (a2:Int):Option Z5:=l9 (iG a0.2.2.2.2 (a1,a2)) fun x=>l9 (N8 (fun(x_1:List Int×Int)=>l7 (ilt x_1.2 (o8 x.1)) (l9 (lat x.1 x_1.2) fun x_2=>l9 (I9 x.1
 (toN x_1.2)) fun x=>l9 (lat a0.2.2.2.2 x) fun x=>l9 (X9 x_1.1 [x.2.2.2.1]) fun x=>some (.inl (x,x8
 .i64 x_1.2 1))) (some (.inr x_1.1))) ([],0)) fun y=>some (x.1,x.2,y)
def s78:FSpec:=mkS d0n d1T fun x=>pY x.1 x.2.1 x.2.2
def d0h:List MG:=[(false,(.dat y12))]
def d1M:Ret:=⟨[(.tmp 2,uoM),(.tmp 3,uiM)],[]⟩
def e65:Env:=⟨15,eqs,tt,gl,[(98,s98)],[],[],[],[]⟩
def d6L:Ann:=.leaf
def EY (a0:List F6):Option (List Int×Int):=l9 (oM a0) fun x=>some (x.1,x.2.2)
def s65:FSpec:=mkS d0h d1M fun x=>EY x
def d0I:List MG:=[(true,(.dat y48)),uiM]
def d2o:Ret:=⟨[(.tmp 4,uoM)],[]⟩
def e99:Env:=⟨36,eqs,tt,gl,[(135,a5c)],[],[],[],[]⟩
def d7n:Ann:=.seq lfA (.seq lfA (.seq lfA (.seq (.seq lfA (.blk (.loop [(5,8),(21,35),(7000960,7000961)] ⟨[(5,uoM),(6,uiM),(7,uiM)],[]⟩ 0 ⟨[(5,uoM)],[]⟩ lfA))) lfA)))
def dR (a0:P7) (a1:Int):Option (List Int):=l9 (lat a0.1 a1) fun x=>l9 (iw x.1) fun
 (x:Int)=>l9 (gU x 0) fun x=>l9 (N8 (fun(x:List Int×F6)=>l7 (ile 0 x.2.2) (l9 (lat x.1 x.2.2) fun(x_1:
 Int)=>l9 (I9 x.1 (toN x.2.2)) fun x_2=>l9 (lat a0.2.1 x.2.1) fun x_3=>some (.inl (S9 x.1 (toN x.2.2) x.2.1,G8
 .i64 x_3 1,G8 .i64 x.2.2 1))) (some (.inr x.1))) (x,G8 .i64 a1 1,G8 .i64 (o8 x) 1)) fun y=>
 some y
def s99:FSpec:=mkS d0I d2o fun x=>dR x.1 x.2
def b2B:List MG:=[(true,(.dat y3))]
def b6r:Ret:=⟨[(.tmp 2,ubM)],[]⟩
def d7Z:Env:=⟨83,eqs,tt,gl,[],[],[],[],[]⟩
def c5z:Ann:=.seq lfA (.seq (.joinR [(2,11)] ⟨[],[]⟩ lfA) lfA)
def au (a0:F8):Option Bool:=l9 (l7 (D6 (ieq a0.1 6)) (l7 (D6 (ieq a0.2.1 0)) (some (.inr false)) (some (.inl
 ()))) (some (.inl ()))) fun o=>L8 o (fun(x:PUnit)=>l7 (ieq a0.1 1) (l7 (ieq a0.2.2 0) (some true)
 (some (ieq a0.2.2 1))) (l7 (ieq a0.1 2) (l7 (ile (-1000000000000) a0.2.2) (some (ile a0.2.2 1000000000000)) (some false)) (l7 (ieq a0.1 3)
 (l7 (ile (-1000000000000000) a0.2.2) (some (ile a0.2.2 1000000000000000)) (some false)) (l7 (ieq a0.1 4) (l7 (ile (-1000000000) a0.2.2)
 (some (ile a0.2.2 1000000000)) (some false)) (l7 (ieq a0.1 5) (l7 (ile 0 a0.2.2) (some (ile a0.2.2 109572)) (some false)) (l7 (ieq a0.1 6)
 (l7 (ile 0 a0.2.1) (l7 (ilt a0.2.1 8) (l7 (ile 0 a0.2.2) (some (ilt a0.2.2 16)) (some false)) (some false)) (some false)) (some false)))))))
 fun r=>some r
def a0w:FSpec:=mkS b2B b6r fun x=>au x
def b2w:List MG:=[(true,(.dat y2))]
def b6m:Ret:=⟨[(.tmp 2,ubM)],[]⟩
def d7U:Env:=⟨48,eqs,tt,gl,[(135,a5c),(179,c1t)],[],[],[],[]⟩
def c5u:Ann:=.seq lfA (.seq (.joinR [(2,18)] ⟨[],[]⟩ lfA) (.seq (.seq lfA (.blk (.seq (.join [(20,24)] ⟨[(20,ubM)],[]⟩ lfA) lfA))) lfA))
def jE (a0:F6):Option Bool:=l9 (l9 (iw a0.1) fun x=>l7 (ilt x 0) (some (.inr false)) (l7 (D6
 (ieq a0.2 0)) (l9 (dL a0.1) fun x=>l7 (D6 x) (some (.inr false)) (some (.inl ()))) (some (.inl
 ())))) fun o=>L8 o (fun(x:PUnit)=>l9 (l7 (ieq a0.1 14) (some (ieq a0.1 14)) (l7 (ieq a0.1 15) (some (ieq
 a0.1 15)) (some (ieq a0.1 16)))) fun x=>l7 x (l7 (ile 0 a0.2) (some (ile a0.2 5)) (some false)) (l7 (ieq a0.1 34) (l7 (ile 0
 a0.2) (some (ile (X5 a0.2 8) 5)) (some false)) (l7 (ieq a0.1 6) (some (ile 0 a0.2)) (some true)))) fun r=>some r
def d2E:FSpec:=mkS b2w b6m fun x=>jE x
def b2x:List MG:=[(true,(.dat y2)),(true,(.dat y42))]
def b6n:Ret:=⟨[(.tmp 4,ubM)],[]⟩
def d7V:Env:=⟨81,eqs,tt,gl,[],[],[],[],[]⟩
def c5v:Ann:=.seq lfA (.seq (.seq lfA (.blk (.seq lfA (.cond lfA (.seq lfA (.cond lfA (.seq lfA (.cond lfA (.seq lfA (.cond lfA (.seq (.join [(65,70)] ⟨[(65,ubM)],[]⟩ lfA) lfA))))))))))) lfA)
def bn (a0:F6) (a1:P5):Option Bool:=l7 (ieq a0.1 7) (l7 (ile 0 a0.2) (some (ilt a0.2 (o8 a1.2.1))) (some false)) (l7
 (ieq a0.1 8) (l7 (ile 0 a0.2) (l7 (ilt a0.2 (o8 a1.2.2.1)) (l9 (lat a1.2.2.1 a0.2) fun x=>some (D6 (ieq x.1 0))) (some
 false)) (some false)) (l7 (ieq a0.1 33) (l7 (ile 0 a0.2) (some (ilt a0.2 (o8 a1.2.2.2.2.2))) (some false)) (l7 (ieq a0.1 34) (some (ilt
 (X4 .i64 a0.2 8) (o8 a1.2.2.2.2.2))) (l9 (l7 (ieq a0.1 36) (some (ieq a0.1 36)) (l7 (ieq a0.1 37) (some (ieq a0.1 37)) (l7
 (ieq a0.1 38) (some (ieq a0.1 38)) (some (ieq a0.1 39))))) fun x=>l7 x (l7 (ile 0 a0.2) (some (ilt a0.2 (o8 a1.2.2.2.2.1))) (some
 false)) (some true)))))
def d2F:FSpec:=mkS b2x b6n fun x=>bn x.1 x.2
def b2y:List MG:=[(false,(.dat y28))]
def b6o:Ret:=⟨[(.tmp 2,ubM)],[]⟩
def d7W:Env:=⟨15,eqs,tt,gl,[(142,a0w)],[],[],[],[]⟩
def c5w:Ann:=.seq lfA (.seq (.seq lfA (.blk (.loopR [(2,3),(4,5),(7,15)] ⟨[(7,uiM)],[]⟩ 0 ⟨[],[]⟩ lfA))) lfA)
def nY (a0:List F8):Option Bool:=l9 (J9 (fun(x:Int)=>l7 (ilt x (o8 a0)) (l9 (lat a0 x) fun x_1
 =>l9 (au x_1) fun x_2=>l7 (D6 x_2) (some (.rt false)) (some (.nx (x8 .i64 x 1)))) (some (.ex
 ()))) 0) fun o=>L8 o (fun(y:PUnit)=>some true) fun r=>some r
def d2G:FSpec:=mkS b2y b6o fun x=>nY x
def b2Y:List MG:=[(true,(.dat y3)),(true,(.dat y2))]
def b6O:Ret:=⟨[(.tmp 4,ubM)],[]⟩
def d8z:Env:=⟨21,eqs,tt,gl,[(142,a0w)],[],[],[],[]⟩
def c6c:Ann:=.leaf
def uH (a0:F8) (a1:F6):Option Bool:=l9 (au a0) fun x=>l7 x (l7 (ieq a0.1 a1.1) (some (ieq
 a0.2.1 a1.2)) (some false)) (some false)
def c1u:FSpec:=mkS b2Y b6O fun x=>uH x.1 x.2
def b3K:List MG:=[uiM]
def b7A:Ret:=⟨[(.tmp 2,ubM)],[]⟩
def d9l:Env:=⟨13,eqs,tt,gl,[],[],[],[],[]⟩
def c6O:Ann:=.leaf
def kD (a0:Int):Option Bool:=l7 (ieq a0 2) (some true) (l7 (ieq a0 3) (some true) (some (ieq a0 4)))
def b1k:FSpec:=mkS b3K b7A fun x=>kD x
def b2Z:List MG:=[uiM,(true,(.dat y2))]
def b6P:Ret:=⟨[(.tmp 4,ubM)],[]⟩
def d8A:Env:=⟨32,eqs,tt,gl,[(235,b1k)],[],[],[],[]⟩
def c6d:Ann:=.leaf
def lW (a0:Int) (a1:F6):Option Bool:=l7 (D6 (ieq a1.2 0)) (some false) (l7 (ieq a0 36) (l7 (ieq a1.1 2) (some
 true) (some (ieq a1.1 3))) (l7 (ieq a0 39) (l9 (kD a1.1) fun x=>l7 x (some true) (some (ieq a1.1 5))) (some (ieq a1.1
 1))))
def d2Z:FSpec:=mkS b2Z b6P fun x=>lW x.1 x.2
def b3a:List MG:=[uiM,uiM]
def b6Q:Ret:=⟨[(.tmp 4,ubM)],[]⟩
def d8B:Env:=⟨16,eqs,tt,gl,[(235,b1k)],[],[],[],[]⟩
def c6e:Ann:=.leaf
def jS (a0:Int) (a1:Int):Option Bool:=l7 (ieq a0 10) (l9 (kD a1) fun x=>some x) (l7 (ieq a0 25)
 (some (ieq a1 1)) (some (ieq a1 5)))
def d3a:FSpec:=mkS b3a b6Q fun x=>jS x.1 x.2
def b3c:List MG:=[(true,(.dat y3)),(true,(.dat y3))]
def b6S:Ret:=⟨[(.tmp 4,ubM)],[]⟩
def d8D:Env:=⟨17,eqs,tt,gl,[],[],[],[],[]⟩
def c6g:Ann:=.leaf
def kE (a0:F8) (a1:F8):Option Bool:=l7 (ieq a0.1 a1.1) (some (ieq a0.2.1 a1.2.1)) (some false)
def c1w:FSpec:=mkS b3c b6S fun x=>kE x.1 x.2
def b3b:List MG:=[uiM,(true,(.dat y3)),(true,(.dat y3))]
def b6R:Ret:=⟨[(.tmp 6,ubM)],[]⟩
def d8C:Env:=⟨134,eqs,tt,gl,[(184,c1w),(235,b1k)],[],[],[],[]⟩
def c6f:Ann:=.seq lfA (.seq (.joinR [(6,126)] ⟨[],[]⟩ (.seq lfA (.blk (.seq (.join [(8,11)] ⟨[(8,ubM)],[]⟩ lfA) (.cond lfA (.seq lfA (.cond lfA (.seq lfA (.cond lfA (.seq lfA (.cond lfA (.seq lfA (.cond lfA (.seq (.join [(80,85)] ⟨[(80,ubM)],[]⟩ lfA) (.cond lfA (.seq (.join [(98,101)] ⟨[(98,ubM)],[]⟩ lfA) lfA)))))))))))))))) lfA)
def U1 (a0:Int) (a1:F8) (a2:F8):Option Bool:=l9 (l9 (l7 (ieq a0 11) (some (ieq a0 11)) (some (ieq a0 12)))
 fun x=>l7 x (l9 (kE a1 a2) fun x=>l7 x (l9 (kD a1.1) fun x=>some (.inr x))
 (some (.inr false))) (l7 (ieq a0 13) (l7 (ieq a2.1 2) (l7 (ieq a1.1 2) (some (.inr true)) (some (.inr (ieq a1.1 3)))) (some
 (.inr false))) (l7 (ieq a0 14) (l7 (ieq a2.1 4) (l7 (ieq a1.1 3) (some (.inr true)) (some (.inr (ieq a1.1 4)))) (some (.inr
 false))) (l7 (ieq a0 15) (l7 (ieq a2.1 2) (l7 (ieq a1.1 2) (some (.inr true)) (some (.inr (ieq a1.1 3)))) (l7 (ieq a1.1 3) (some
 (.inr (ieq a2.1 3))) (some (.inr false)))) (l7 (ieq a0 16) (l7 (ieq a1.1 3) (some (.inr (ieq a2.1 3))) (some (.inr false))) (l9
 (l7 (ieq a0 17) (some (ieq a0 17)) (l7 (ieq a0 18) (some (ieq a0 18)) (l7 (ieq a0 21) (some (ieq a0 21)) (some (ieq a0 22))))) fun(x:
 Bool)=>l7 x (l9 (kE a1 a2) fun x=>l7 x (l9 (kD a1.1) fun x=>l7 x (some (.inr true))
 (some (.inr (ieq a1.1 5)))) (some (.inr false))) (l9 (l7 (ieq a0 19) (some (ieq a0 19)) (some (ieq a0 20))) fun x=>l7 x
 (l9 (kE a1 a2) fun x=>some (.inr x)) (l7 (ieq a0 23) (l7 (ieq a0 23) (l7 (ieq a1.1 1) (some (.inr (ieq a2.1
 1))) (some (.inr false))) (l7 (ieq a0 27) (l7 (ieq a0 27) (l7 (ieq a1.1 5) (some (.inr (ieq a2.1 2))) (some (.inr false))) (some
 (.inl ()))) (l7 (ieq a0 28) (l7 (ieq a1.1 5) (some (.inr (ieq a2.1 2))) (some (.inr false))) (some (.inl ())))))
 (l7 (ieq a0 24) (l7 (ieq a1.1 1) (some (.inr (ieq a2.1 1))) (some (.inr false))) (l7 (ieq a0 27) (l7 (ieq a0 27) (l7 (ieq a1.1
 5) (some (.inr (ieq a2.1 2))) (some (.inr false))) (some (.inl ()))) (l7 (ieq a0 28) (l7 (ieq a1.1 5) (some (.inr (ieq a2.1
 2))) (some (.inr false))) (some (.inl ()))))))))))))) fun o=>L8 o (fun(x:PUnit)=>l7 (ieq a1.1 5) (some
 (ieq a2.1 5)) (some false)) fun r=>some r
def d3b:FSpec:=mkS b3b b6R fun x=>U1 x.1 x.2.1 x.2.2
def b2z:List MG:=[(true,(.dat y2)),(false,(.dat y28)),(true,(.dat y42))]
def b6p:Ret:=⟨[(.tmp 6,ubM)],[]⟩
def d7X:Env:=⟨133,eqs,tt,gl,[(142,a0w),(180,c1u),(181,d2Z),(182,d3a),(183,d3b),(184,c1w)],[],[],[],[]⟩
def c5x:Ann:=.seq lfA (.seq (.joinR [(6,95)] ⟨[],[]⟩ (.seq lfA (.blk (.seq lfA (.cond lfA (.seq lfA (.cond lfA (.seq lfA (.cond lfA (.seq lfA (.cond lfA (.seq (.join [(81,86)] ⟨[(81,ubM)],[]⟩ lfA) lfA)))))))))))) lfA)
def O7 (a0:F6) (a1:List F8) (a2:P5):Option Bool:=l9 (l7 (ieq a0.1 7) (l9 (lat a2.2.1 a0.2) fun x=>
 l9 (au x) fun x=>some (.inr x)) (l7 (ieq a0.1 8) (l9 (lat a2.2.2.1 a0.2) fun x=>l9 (au
 x) fun x=>some (.inr x)) (l7 (ieq a0.1 33) (l9 (lat a2.2.2.2.2.2 a0.2) fun x=>l9 (lat a1 0) fun x_1=>
 l9 (uH x_1 x.2.1) fun x_2=>l7 x_2 (l7 (ile 1 x.2.2.1.1) (some (.inr (ile x.2.2.1.1 6))) (some (.inr false)))
 (some (.inr false))) (l7 (ieq a0.1 34) (l9 (lat a2.2.2.2.2.2 (X4 .i64 a0.2 8)) fun x=>l9 (lat a1 0) fun(x_1:
 F8)=>l7 (ieq x_1.1 3) (l7 (aH (ieq x.2.1.1 3) (ieq x.2.1.2 0)) (some (.inr (aH (ieq x.2.2.1.1 4) (ieq x.2.2.1.2 0)))) (some
 (.inr false))) (some (.inr false))) (l9 (l7 (ieq a0.1 36) (some (ieq a0.1 36)) (l7 (ieq a0.1 37) (some (ieq a0.1 37)) (l7 (ieq a0.1
 38) (some (ieq a0.1 38)) (some (ieq a0.1 39))))) fun x=>l7 x (l9 (lat a2.2.2.2.2.1 a0.2) fun x=>l9
 (lW a0.1 x) fun x=>some (.inr x)) (some (.inl ()))))))) fun o=>L8 o (fun(x:PUnit)=>
 l7 (ieq (o8 a1) 1) (l9 (lat a1 0) fun x=>l9 (jS a0.1 x.1) fun x=>some x) (l7 (ieq (o8 a1) 2)
 (l9 (lat a1 0) fun x=>l9 (lat a1 1) fun x_1=>l9 (U1 a0.1 x x_1) fun x=>some x) (l7
 (ieq (o8 a1) 3) (l9 (lat a1 0) fun x=>l7 (ieq x.1 1) (l9 (lat a1 1) fun x=>l9 (lat a1 2) fun x_1
 =>l9 (kE x x_1) fun x=>some x) (some false)) (some true)))) fun r=>some r
def d2H:FSpec:=mkS b2z b6p fun x=>O7 x.1 x.2.1 x.2.2
def b3d:List MG:=[(true,(.dat y2)),(true,(.dat y42))]
def b6T:Ret:=⟨[(.cell 4 60,(true,(.dat y3))),(.tmp 5,uiM)],[]⟩
def d8E:Env:=⟨113,eqs,tt,gl,[(180,c1u),(142,a0w)],[],[],[],[]⟩
def c6h:Ann:=.seq lfA (.seq lfA (.seq lfA (.seq (.join [(7,8),(22,26),(10000448,10000449)] ⟨[(7,(false,(.box (.dat y3))))],[]⟩ lfA) (.seq (.joinR [(4,6),(26,36),(4000256,4000257)] ⟨[(4,(false,(.box (.dat y3))))],[]⟩ lfA) (.seq (.seq lfA (.blk (.loopR [(4,6),(7,11),(39,112),(12000000,12000001),(20000000,20000001)] ⟨[(4,(false,(.box (.dat y3)))),(7,(false,(.box (.dat y3)))),(39,uiM)],[]⟩ 0 ⟨[(4,(false,(.box (.dat y3)))),(7,(false,(.box (.dat y3))))],[]⟩ (.seq lfA (.seq lfA (.seq (.blk (.seq lfA (.seq (.joinR [(4,6),(44,59),(35000000,35000001)] ⟨[(4,(false,(.box (.dat y3))))],[]⟩ lfA) lfA))) lfA)))))) lfA)))))
def kY (a0:F6) (a1:P5):Option (F8×Int):=l9 (lat a1.2.2.2.2.1 a0.2) fun x=>l9 (l7 (ieq a0.1 37)
 (some (x.1,x.2,1)) (some (x.1,x.2,0))) fun x_1=>l9 (l7 (ieq a0.1 39) (l7 (ieq (o8 a1.2.2.2.1) 0) (some (.inr ((0,0,
 0),6))) (some (.inl (0,0,0)))) (some (.inl (0,0,0)))) fun o=>L8 o (fun(x_2:F8)=>l9 (J9 (fun
 (x_3:F8×F8×Int)=>l7 (ilt x_3.2.2 (o8 a1.2.2.2.1)) (l9 (lat a1.2.2.2.1 x_3.2.2) fun x_4=>l9 (l7 (ile
 (o8 x_4) a0.2) (some (.inr ((0,0,0),6))) (l9 (lat x_4 a0.2) fun x=>l7 (ieq x.1 0) (some (.inr ((0,0,0),6))) (some
 (.inl x_3.1)))) fun o=>L8 o (fun(x_5:F8)=>l9 (lat x_4 a0.2) fun x_6=>l9 (uH
 x_6 x) fun x=>l7 (D6 x) (some (.rt ((0,0,0),8))) (l7 (ieq a0.1 36) (l9 (au (x_3.2.1.1,x_3.2.1.2.1,x8
 .i64 x_3.2.1.2.2 x_6.2.2)) fun x=>l7 (D6 x) (some (.rt ((0,0,0),3))) (some (.nx (x_5,(x_3.2.1.1,x_3.2.1.2.1,x8
 .i64 x_3.2.1.2.2 x_6.2.2),x8 .i64 x_3.2.2 1)))) (l7 (ieq a0.1 37) (some (.nx (x_5,(x_3.2.1.1,x_3.2.1.2.1,jf x_3.2.1.2.2
 x_6.2.2),x8 .i64 x_3.2.2 1))) (l7 (ieq a0.1 38) (some (.nx (x_5,(x_3.2.1.1,x_3.2.1.2.1,fO x_3.2.1.2.2 x_6.2.2),x8 .i64
 x_3.2.2 1))) (l7 (ieq a0.1 39) (l7 (ieq x_3.2.2 0) (some (.nx (x_5,x_6,x8 .i64 x_3.2.2 1))) (l7 (ilt x_3.2.1.2.2 x_6.2.2)
 (some (.nx (x_5,x_6,x8 .i64 x_3.2.2 1))) (some (.nx (x_5,x_3.2.1,x8 .i64 x_3.2.2 1))))) (some (.nx (x_5,x_3.2.1,x8
 .i64 x_3.2.2 1)))))))) fun r=>some (.rt r)) (some (.ex (x_3.1,x_3.2.1)))) (x_2,x_1,0)) fun o=>L8 o (fun(y:F8×F8)=>some (y.2,0)) fun r=>some r) fun r=>some r
def d3c:FSpec:=mkS b3d b6T fun x=>kY x.1 x.2
def a2K:List MG:=[(true,(.dat y4)),(false,(.rp (.int .i64))),(false,(.rp (.int .i64)))]
def a3q:Ret:=⟨[(.tmp 4,ubM)],[]⟩
def c0N:Env:=⟨21,eqs,tt,gl,[(70,s70)],[],[],[],[]⟩
def b0t:Ann:=.leaf
def zW (a0:uw) (a1:Int) (a2:Int):Option Bool:=l9 (aI a0.1 a1) fun x=>l7 x (l7 (ile a0.2.1
 a2) (some (ilt a2 a0.2.2.1)) (some false)) (some false)
def a0E:FSpec:=mkS a2K a3q fun x=>zW x.1 x.2.1 x.2.2
def a2t:List MG:=[(false,(.dat y5)),(false,(.fn 236 [(.int .i64),(.int .i64)]))]
def a2Z:Ret:=⟨[(.tmp 4,uiM),(.tmp 5,ubM)],[]⟩
def c0w:Env:=⟨20,eqs,tt,gl,[(236,a0E)],[],[],[],[]⟩
def b0c:Ann:=.seq lfA (.seq (.seq lfA (.blk (.loopR [(4,8),(10,20)] ⟨[(10,uiM)],[]⟩ 0 ⟨[],[]⟩ lfA))) lfA)
def mX (a0:List uw) (a1:F6):Option (Int×Bool):=l9 (J9 (fun(x:Int)=>l7 (ilt x (o8 a0)) (l9
 (lat a0 x) fun x_1=>l9 (zW x_1 a1.1 a1.2) fun x_2=>l7 x_2 (some (.rt (x,true))) (some (.nx (x8
 .i64 x 1)))) (some (.ex ()))) 0) fun o=>L8 o (fun(y:PUnit)=>some (0,false)) fun r
 =>some r
def a7I:FSpec:=mkS a2t a2Z fun x=>mX x.1 x.2
def b3e:List MG:=[(true,(.dat y8)),uiM,uiM]
def b6U:Ret:=⟨[(.tmp 6,uiM),(.tmp 7,ubM)],[]⟩
def d8F:Env:=⟨14,eqs,tt,gl,[(236,a0E),(155,a7I)],[],[],[],[]⟩
def c6i:Ann:=.leaf
def yS (a0:V8) (a1:Int) (a2:Int):Option (Int×Bool):=l9 (mX a0.2.2.2 (a1,a2)) fun x
 =>some x
def d3d:FSpec:=mkS b3e b6U fun x=>yS x.1 x.2.1 x.2.2
def c9z:List MG:=[(false,(.dat (.int .u64))),(false,(.dat (.int .u64)))]
def a7W:FSpec:=⟨c9z,[(false,(.dat (.int .u64))),(false,(.dat (.int .u64)))],[],fun x=>kV x.1 x.2⟩
def b3i:List MG:=[(false,(.dat (.int .u64)))]
def b6Y:Ret:=⟨[(.tmp 2,uiM)],[]⟩
def d8J:Env:=⟨25,eqs,tt,gl,[],[],[],[],[]⟩
def c6m:Ann:=.leaf
def rX (a0:Int):Option Int:=l7 (ile 4294967296 a0) (l7 (ile 65536 (kF .u64 a0 32)) (l7 (ile 256 (kF .u64
 (kF .u64 a0 32) 16)) (l9 (sat [0,1,2,2,3,3,3,3,4,4,4,4,4,4,4,4,5,5,5,5,5,5,5,5,5,5,5,5,5,5,5,5,6,6,6,
 6,6,6,6,6,6,6,6,6,6,6,6,6,6,6,6,6,6,6,6,6,6,6,6,6,6,6,6,6,7,7,7,7,7,7,7,7,7,7,7,7,7,7,7,7,7,7,7,7,7,
 7,7,7,7,7,7,7,7,7,7,7,7,7,7,7,7,7,7,7,7,7,7,7,7,7,7,7,7,7,7,7,7,7,7,7,7,7,7,7,7,7,7,7,8,8,8,8,8,8,8,
 8,8,8,8,8,8,8,8,8,8,8,8,8,8,8,8,8,8,8,8,8,8,8,8,8,8,8,8,8,8,8,8,8,8,8,8,8,8,8,8,8,8,8,8,8,8,8,8,8,8,
 8,8,8,8,8,8,8,8,8,8,8,8,8,8,8,8,8,8,8,8,8,8,8,8,8,8,8,8,8,8,8,8,8,8,8,8,8,8,8,8,8,8,8,8,8,8,8,8,8,8,
 8,8,8,8,8,8,8,8,8,8,8,8,8,8,8,8,8,8,8,8,8] (wrap .u8 (kF .u64 (kF .u64 (kF .u64 a0 32) 16) 8)))
 fun x=>some (x8 .i64 (x8 .i64 (x8 .i64 32 16) 8) (wrap .i64 x))) (l9 (sat [0,1,2,2,3,3,3,3,4,
 4,4,4,4,4,4,4,5,5,5,5,5,5,5,5,5,5,5,5,5,5,5,5,6,6,6,6,6,6,6,6,6,6,6,6,6,6,6,6,6,6,6,6,6,6,6,6,6,6,6,
 6,6,6,6,6,7,7,7,7,7,7,7,7,7,7,7,7,7,7,7,7,7,7,7,7,7,7,7,7,7,7,7,7,7,7,7,7,7,7,7,7,7,7,7,7,7,7,7,7,7,
 7,7,7,7,7,7,7,7,7,7,7,7,7,7,7,7,7,7,7,8,8,8,8,8,8,8,8,8,8,8,8,8,8,8,8,8,8,8,8,8,8,8,8,8,8,8,8,8,8,8,
 8,8,8,8,8,8,8,8,8,8,8,8,8,8,8,8,8,8,8,8,8,8,8,8,8,8,8,8,8,8,8,8,8,8,8,8,8,8,8,8,8,8,8,8,8,8,8,8,8,8,
 8,8,8,8,8,8,8,8,8,8,8,8,8,8,8,8,8,8,8,8,8,8,8,8,8,8,8,8,8,8,8,8,8,8,8,8,8,8,8,8,8,8,8,8,8,8,8] (wrap
 .u8 (kF .u64 (kF .u64 a0 32) 16))) fun x=>some (x8 .i64 (x8 .i64 32 16) (wrap .i64 x))))
 (l7 (ile 256 (kF .u64 a0 32)) (l9 (sat [0,1,2,2,3,3,3,3,4,4,4,4,4,4,4,4,5,5,5,5,5,5,5,5,5,5,5,5,5,5,5,
 5,6,6,6,6,6,6,6,6,6,6,6,6,6,6,6,6,6,6,6,6,6,6,6,6,6,6,6,6,6,6,6,6,7,7,7,7,7,7,7,7,7,7,7,7,7,7,7,7,7,
 7,7,7,7,7,7,7,7,7,7,7,7,7,7,7,7,7,7,7,7,7,7,7,7,7,7,7,7,7,7,7,7,7,7,7,7,7,7,7,7,7,7,7,7,7,7,7,8,8,8,
 8,8,8,8,8,8,8,8,8,8,8,8,8,8,8,8,8,8,8,8,8,8,8,8,8,8,8,8,8,8,8,8,8,8,8,8,8,8,8,8,8,8,8,8,8,8,8,8,8,8,
 8,8,8,8,8,8,8,8,8,8,8,8,8,8,8,8,8,8,8,8,8,8,8,8,8,8,8,8,8,8,8,8,8,8,8,8,8,8,8,8,8,8,8,8,8,8,8,8,8,8,
 8,8,8,8,8,8,8,8,8,8,8,8,8,8,8,8,8,8,8,8,8,8,8,8,8] (wrap .u8 (kF .u64 (kF .u64 a0 32) 8))) fun(x:
 Int)=>some (x8 .i64 (x8 .i64 32 8) (wrap .i64 x))) (l9 (sat [0,1,2,2,3,3,3,3,4,4,4,4,4,4,4,4,5,5,5,
 5,5,5,5,5,5,5,5,5,5,5,5,5,6,6,6,6,6,6,6,6,6,6,6,6,6,6,6,6,6,6,6,6,6,6,6,6,6,6,6,6,6,6,6,6,7,7,7,7,7,
 7,7,7,7,7,7,7,7,7,7,7,7,7,7,7,7,7,7,7,7,7,7,7,7,7,7,7,7,7,7,7,7,7,7,7,7,7,7,7,7,7,7,7,7,7,7,7,7,7,7,
 7,7,7,7,7,7,7,7,7,8,8,8,8,8,8,8,8,8,8,8,8,8,8,8,8,8,8,8,8,8,8,8,8,8,8,8,8,8,8,8,8,8,8,8,8,8,8,8,8,8,
 8,8,8,8,8,8,8,8,8,8,8,8,8,8,8,8,8,8,8,8,8,8,8,8,8,8,8,8,8,8,8,8,8,8,8,8,8,8,8,8,8,8,8,8,8,8,8,8,8,8,
 8,8,8,8,8,8,8,8,8,8,8,8,8,8,8,8,8,8,8,8,8,8,8,8,8,8,8,8,8,8,8,8,8,8,8,8,8] (wrap .u8 (kF .u64 a0
 32))) fun x=>some (x8 .i64 32 (wrap .i64 x))))) (l7 (ile 65536 a0) (l7 (ile 256 (kF .u64 a0 16)) (l9 (sat
 [0,1,2,2,3,3,3,3,4,4,4,4,4,4,4,4,5,5,5,5,5,5,5,5,5,5,5,5,5,5,5,5,6,6,6,6,6,6,6,6,6,6,6,6,6,6,6,6,6,
 6,6,6,6,6,6,6,6,6,6,6,6,6,6,6,7,7,7,7,7,7,7,7,7,7,7,7,7,7,7,7,7,7,7,7,7,7,7,7,7,7,7,7,7,7,7,7,7,7,7,
 7,7,7,7,7,7,7,7,7,7,7,7,7,7,7,7,7,7,7,7,7,7,7,7,7,7,7,7,7,8,8,8,8,8,8,8,8,8,8,8,8,8,8,8,8,8,8,8,8,8,
 8,8,8,8,8,8,8,8,8,8,8,8,8,8,8,8,8,8,8,8,8,8,8,8,8,8,8,8,8,8,8,8,8,8,8,8,8,8,8,8,8,8,8,8,8,8,8,8,8,8,
 8,8,8,8,8,8,8,8,8,8,8,8,8,8,8,8,8,8,8,8,8,8,8,8,8,8,8,8,8,8,8,8,8,8,8,8,8,8,8,8,8,8,8,8,8,8,8,8,8,8,
 8,8,8,8,8,8,8] (wrap .u8 (kF .u64 (kF .u64 a0 16) 8))) fun x=>some (x8 .i64 (x8 .i64 (x8
 .i64 0 16) 8) (wrap .i64 x))) (l9 (sat [0,1,2,2,3,3,3,3,4,4,4,4,4,4,4,4,5,5,5,5,5,5,5,5,5,5,5,5,5,5,5,
 5,6,6,6,6,6,6,6,6,6,6,6,6,6,6,6,6,6,6,6,6,6,6,6,6,6,6,6,6,6,6,6,6,7,7,7,7,7,7,7,7,7,7,7,7,7,7,7,7,7,
 7,7,7,7,7,7,7,7,7,7,7,7,7,7,7,7,7,7,7,7,7,7,7,7,7,7,7,7,7,7,7,7,7,7,7,7,7,7,7,7,7,7,7,7,7,7,7,8,8,8,
 8,8,8,8,8,8,8,8,8,8,8,8,8,8,8,8,8,8,8,8,8,8,8,8,8,8,8,8,8,8,8,8,8,8,8,8,8,8,8,8,8,8,8,8,8,8,8,8,8,8,
 8,8,8,8,8,8,8,8,8,8,8,8,8,8,8,8,8,8,8,8,8,8,8,8,8,8,8,8,8,8,8,8,8,8,8,8,8,8,8,8,8,8,8,8,8,8,8,8,8,8,
 8,8,8,8,8,8,8,8,8,8,8,8,8,8,8,8,8,8,8,8,8,8,8,8,8] (wrap .u8 (kF .u64 a0 16))) fun x=>some (x8
 .i64 (x8 .i64 0 16) (wrap .i64 x)))) (l7 (ile 256 a0) (l9 (sat [0,1,2,2,3,3,3,3,4,4,4,4,4,4,4,4,5,5,5,
 5,5,5,5,5,5,5,5,5,5,5,5,5,6,6,6,6,6,6,6,6,6,6,6,6,6,6,6,6,6,6,6,6,6,6,6,6,6,6,6,6,6,6,6,6,7,7,7,7,7,
 7,7,7,7,7,7,7,7,7,7,7,7,7,7,7,7,7,7,7,7,7,7,7,7,7,7,7,7,7,7,7,7,7,7,7,7,7,7,7,7,7,7,7,7,7,7,7,7,7,7,
 7,7,7,7,7,7,7,7,7,8,8,8,8,8,8,8,8,8,8,8,8,8,8,8,8,8,8,8,8,8,8,8,8,8,8,8,8,8,8,8,8,8,8,8,8,8,8,8,8,8,
 8,8,8,8,8,8,8,8,8,8,8,8,8,8,8,8,8,8,8,8,8,8,8,8,8,8,8,8,8,8,8,8,8,8,8,8,8,8,8,8,8,8,8,8,8,8,8,8,8,8,
 8,8,8,8,8,8,8,8,8,8,8,8,8,8,8,8,8,8,8,8,8,8,8,8,8,8,8,8,8,8,8,8,8,8,8,8,8] (wrap .u8 (kF .u64 a0
 8))) fun x=>some (x8 .i64 (x8 .i64 0 8) (wrap .i64 x))) (l9 (sat [0,1,2,2,3,3,3,3,4,4,4,4,4,4,4,
 4,5,5,5,5,5,5,5,5,5,5,5,5,5,5,5,5,6,6,6,6,6,6,6,6,6,6,6,6,6,6,6,6,6,6,6,6,6,6,6,6,6,6,6,6,6,6,6,6,7,
 7,7,7,7,7,7,7,7,7,7,7,7,7,7,7,7,7,7,7,7,7,7,7,7,7,7,7,7,7,7,7,7,7,7,7,7,7,7,7,7,7,7,7,7,7,7,7,7,7,7,
 7,7,7,7,7,7,7,7,7,7,7,7,7,8,8,8,8,8,8,8,8,8,8,8,8,8,8,8,8,8,8,8,8,8,8,8,8,8,8,8,8,8,8,8,8,8,8,8,8,8,
 8,8,8,8,8,8,8,8,8,8,8,8,8,8,8,8,8,8,8,8,8,8,8,8,8,8,8,8,8,8,8,8,8,8,8,8,8,8,8,8,8,8,8,8,8,8,8,8,8,8,
 8,8,8,8,8,8,8,8,8,8,8,8,8,8,8,8,8,8,8,8,8,8,8,8,8,8,8,8,8,8,8,8,8,8,8,8,8,8,8,8,8] (wrap .u8 a0)) fun
 (x:Int)=>some (x8 .i64 0 (wrap .i64 x)))))
def d3h:FSpec:=mkS b3i b6Y fun x=>rX x
def b4Q:List MG:=[(false,(.dat (.int .u64)))]
def b8G:Ret:=⟨[(.tmp 2,uiM)],[]⟩
def e0r:Env:=⟨6,eqs,tt,gl,[(200,d3h)],[],[],[],[]⟩
def c7U:Ann:=.leaf
def fP (a0:Int):Option Int:=l9 (rX a0) fun x=>some (G8 .i64 64 x)
def d4r:FSpec:=mkS b4Q b8G fun x=>fP x
def b4n:List MG:=[(false,(.dat (.int .u64))),(false,(.dat (.int .u64))),(false,(.dat (.int .u64)))]
def b8d:Ret:=⟨[(.tmp 6,(false,(.dat (.int .u64)))),(.tmp 7,(false,(.dat (.int .u64))))],[]⟩
def d9O:Env:=⟨135,eqs,tt,gl,[(306,d4r)],[],[],[],[]⟩
def c7r:Ann:=.seq lfA (.seq (.join [(19,22)] ⟨[],[]⟩ lfA) (.seq (.join [(22,26)] ⟨[],[]⟩ lfA) (.seq lfA (.seq lfA (.seq lfA (.seq lfA (.seq lfA (.seq lfA (.seq lfA (.seq lfA (.seq lfA (.seq lfA (.seq lfA (.seq (.blk (.loop [(15,17),(67,86)] ⟨[(15,(false,(.dat (.int .u64)))),(16,(false,(.dat (.int .u64))))],[]⟩ 0 ⟨[(15,(false,(.dat (.int .u64))))],[]⟩ lfA)) (.seq lfA (.seq lfA (.seq lfA (.seq (.blk (.loop [(16,17),(18,19),(102,121)] ⟨[(16,(false,(.dat (.int .u64)))),(18,(false,(.dat (.int .u64))))],[]⟩ 2 ⟨[(18,(false,(.dat (.int .u64))))],[]⟩ lfA)) lfA))))))))))))))))))
def fC (a0:Int) (a1:Int) (a2:Int):Option F6:=l9 (l7 (ieq a2 0) none (some ())) fun x=>l9 (l7
 (ile a2 a0) none (some ())) fun x=>l7 (ieq a0 0) (l9 (iI .u64 a1 a2) fun x=>l9 (kQ a1 a2) fun
 (x_1:Int)=>some (x,x_1)) (l9 (fP a2) fun x=>l9 (Qn .u64 a2 (wrap .u64 x)) fun x_1
 =>l9 (Qn .u64 a0 (wrap .u64 x)) fun x_2=>l9 (Qo .u64 a1 (G8 .u64 64 (wrap .u64 x))) fun
 (x_3:Int)=>l9 (Qn .u64 a1 (wrap .u64 x)) fun x_4=>l9 (iI .u64 (ior .u64 x_2 x_3) (kF
 .u64 x_1 32)) fun x_5=>l9 (N8 (fun(x:F6)=>l7 (ile 4294967296 x.1) (l7 (ile 4294967296 (x8 .u64 x.2
 (kF .u64 x_1 32))) (some (.inr (G8 .u64 x.1 1))) (some (.inl (G8 .u64 x.1 1,x8 .u64 x.2 (kF .u64
 x_1 32))))) (l7 (ilt (x8 .u64 (N9 .u64 4294967296 x.2) (kF .u64 x_4 32)) (N9 .u64 x.1 (XB .u64 x_1
 4294967295))) (l7 (ile 4294967296 (x8 .u64 x.2 (kF .u64 x_1 32))) (some (.inr (G8 .u64 x.1 1))) (some (.inl (G8
 .u64 x.1 1,x8 .u64 x.2 (kF .u64 x_1 32))))) (some (.inr x.1)))) (x_5,G8 .u64 (ior .u64 x_2 x_3) (N9
 .u64 x_5 (kF .u64 x_1 32)))) fun y=>l9 (iI .u64 (G8 .u64 (x8 .u64 (N9 .u64 (ior
 .u64 x_2 x_3) 4294967296) (kF .u64 x_4 32)) (N9 .u64 y x_1)) (kF .u64 x_1 32)) fun x_6=>l9 (N8 (fun
 (x:F6)=>l7 (ile 4294967296 x.2) (l7 (ile 4294967296 (x8 .u64 x.1 (kF .u64 x_1 32))) (some (.inr (G8 .u64
 x.2 1))) (some (.inl (x8 .u64 x.1 (kF .u64 x_1 32),G8 .u64 x.2 1)))) (l7 (ilt (x8 .u64 (N9 .u64
 4294967296 x.1) (XB .u64 x_4 4294967295)) (N9 .u64 x.2 (XB .u64 x_1 4294967295))) (l7 (ile 4294967296 (x8 .u64
 x.1 (kF .u64 x_1 32))) (some (.inr (G8 .u64 x.2 1))) (some (.inl (x8 .u64 x.1 (kF .u64 x_1 32),G8
 .u64 x.2 1)))) (some (.inr x.2)))) (G8 .u64 (G8 .u64 (x8 .u64 (N9 .u64 (ior .u64 x_2 x_3)
 4294967296) (kF .u64 x_4 32)) (N9 .u64 y x_1)) (N9 .u64 x_6 (kF .u64 x_1 32)),x_6)) fun y_1=>l9
 (Qo .u64 (G8 .u64 (x8 .u64 (N9 .u64 (G8 .u64 (x8 .u64 (N9 .u64 (ior .u64 x_2
 x_3) 4294967296) (kF .u64 x_4 32)) (N9 .u64 y x_1)) 4294967296) (XB .u64 x_4 4294967295)) (N9 .u64 y_1 x_1))
 (wrap .u64 x)) fun x=>some (x8 .u64 (N9 .u64 y 4294967296) y_1,x))
def b1n:FSpec:=mkS b4n b8d fun x=>fC x.1 x.2.1 x.2.2
def b3L:List MG:=[uiM,uiM]
def b7B:Ret:=⟨[(.tmp 4,uiM),(.tmp 5,uiM),(.tmp 6,ubM)],[]⟩
def d9m:Env:=⟨47,eqs,tt,gl,[(274,a7W),(275,b1n)],[],[],[],[]⟩
def c6P:Ann:=.leaf
def mW (a0:Int) (a1:Int):Option (Int×Int×Bool):=l7 (ilt a1 0) (l9 (kV (wrap .u64 a0) (G8 .u64
 0 (wrap .u64 a1))) fun x=>l7 (ile 1000000 x.1) (some (0,0,false)) (l9 (fC x.1 x.2 1000000) fun x=>
 l7 (ilt 1000000000000000 x.1) (some (0,0,false)) (l7 (ilt a1 0) (some (G8 .i64 0 (wrap .i64 x.1),G8 .i64 0 (wrap
 .i64 x.2),true)) (some (wrap .i64 x.1,wrap .i64 x.2,true))))) (l9 (kV (wrap .u64 a0) (wrap .u64 a1))
 fun x=>l7 (ile 1000000 x.1) (some (0,0,false)) (l9 (fC x.1 x.2 1000000) fun x=>l7 (ilt
 1000000000000000 x.1) (some (0,0,false)) (l7 (ilt a1 0) (some (G8 .i64 0 (wrap .i64 x.1),G8 .i64 0 (wrap .i64
 x.2),true)) (some (wrap .i64 x.1,wrap .i64 x.2,true)))))
def d3F:FSpec:=mkS b3L b7B fun x=>mW x.1 x.2
def b4R:List MG:=[uiM]
def b8H:Ret:=⟨[(.tmp 2,ubM)],[]⟩
def e0s:Env:=⟨9,eqs,tt,gl,[],[],[],[],[]⟩
def c7V:Ann:=.leaf
def jJ (a0:Int):Option Bool:=l7 (ile 0 a0) (some (ile a0 5)) (some false)
def b1s:FSpec:=mkS b4R b8H fun x=>jJ x
def b4S:List MG:=[uiM,uiM]
def b8I:Ret:=⟨[(.tmp 4,ubM)],[]⟩
def e0t:Env:=⟨14,eqs,tt,gl,[],[],[],[],[]⟩
def c7W:Ann:=.leaf
def fQ (a0:Int) (a1:Int):Option Bool:=l7 (ilt a1 a0) (some true) (some (ilt a0 (G8 .i64 0 a1)))
def b1t:FSpec:=mkS b4S b8I fun x=>fQ x.1 x.2
def b4T:List MG:=[uiM]
def b8J:Ret:=⟨[(.tmp 2,(false,(.dat (.int .u64))))],[]⟩
def e0u:Env:=⟨10,eqs,tt,gl,[],[],[],[],[]⟩
def c7X:Ann:=.leaf
def fD (a0:Int):Option Int:=l7 (ilt a0 0) (some (G8 .u64 0 (wrap .u64 a0))) (some (wrap .u64 a0))
def c1I:FSpec:=mkS b4T b8J fun x=>fD x
def b4U:List MG:=[(false,(.dat (.int .u64))),(false,(.dat (.int .u64))),(false,(.dat (.int .u64))),ubM,uiM]
def b8K:Ret:=⟨[(.tmp 10,(false,(.dat (.int .u64))))],[]⟩
def e0v:Env:=⟨55,eqs,tt,gl,[],[],[],[],[]⟩
def c7Y:Ann:=.leaf
def gz (a0:Int) (a1:Int) (a2:Int) (a3:Bool) (a4:Int):Option Int:=l7 (ieq a1 0) (some a0) (l7 (ieq a4 0) (l7
 a3 (some (x8 .u64 a0 1)) (some a0)) (l7 (ieq a4 1) (l7 (D6 a3) (some (x8 .u64 a0 1)) (some a0)) (l7 (ieq a4 3) (some
 (x8 .u64 a0 1)) (l7 (ieq a4 4) (l7 (ile (G8 .u64 a2 a1) a1) (some (x8 .u64 a0 1)) (some a0)) (l7 (ieq a4 5)
 (l7 (ilt (G8 .u64 a2 a1) a1) (some (x8 .u64 a0 1)) (l7 (ieq a1 (G8 .u64 a2 a1)) (l7 (ieq (X5 a0 2) 1) (some
 (x8 .u64 a0 1)) (some a0)) (some a0))) (some a0))))))
def c1J:FSpec:=mkS b4U b8K fun x=>gz x.1 x.2.1 x.2.2.1 x.2.2.2.1 x.2.2.2.2
def b4V:List MG:=[(false,(.dat (.int .u64))),ubM]
def b8L:Ret:=⟨[(.tmp 4,uiM)],[]⟩
def e0w:Env:=⟨11,eqs,tt,gl,[],[],[],[],[]⟩
def c7Z:Ann:=.leaf
def uU (a0:Int) (a1:Bool):Option Int:=l7 a1 (some (G8 .i64 0 (wrap .i64 a0))) (some (wrap .i64 a0))
def c1K:FSpec:=mkS b4V b8L fun x=>uU x.1 x.2
def b4o:List MG:=[uiM,uiM,uiM]
def b8e:Ret:=⟨[(.tmp 6,uiM),(.tmp 7,uiM)],[]⟩
def d9P:Env:=⟨45,eqs,tt,gl,[(307,b1s),(308,b1t),(309,c1I),(310,c1J),(311,c1K)],[],[],[],[]⟩
def c7s:Ann:=.leaf
def bC (a0:Int) (a1:Int) (a2:Int):Option F6:=l9 (jJ a2) fun x=>l7 (D6 x) (some (0,1)) (l7
 (ieq a1 0) (some (0,12)) (l9 (fQ a0 4611686018427387904) fun x=>l7 x (some (0,3)) (l9 (fQ a1
 4611686018427387904) fun x=>l7 x (some (0,3)) (l9 (fD a0) fun x=>l9 (fD a1) fun x_1
 =>l9 (iI .u64 x x_1) fun x_2=>l9 (kQ x x_1) fun x=>l9 (gz x_2 x x_1 (D6 (dB (ilt a0
 0) (ilt a1 0))) a2) fun x=>l9 (uU x (D6 (dB (ilt a0 0) (ilt a1 0)))) fun x=>some (x,0)))))
def a7X:FSpec:=mkS b4o b8e fun x=>bC x.1 x.2.1 x.2.2
def b3M:List MG:=[uiM,uiM,uiM]
def b7C:Ret:=⟨[(.tmp 6,uiM),(.tmp 7,uiM)],[]⟩
def d9n:Env:=⟨60,eqs,tt,gl,[(276,a7X)],[],[],[],[]⟩
def c6Q:Ann:=.leaf
def vP (a0:Int) (a1:Int) (a2:Int):Option F6:=l7 (ilt (x8 .i64 a0 (X4 .i64 a1 1000000))
 (-2000000000000000)) (some (0,3)) (l7 (ilt 2000000000000000 (x8 .i64 a0 (X4 .i64 a1 1000000))) (some (0,3)) (l7 (ilt 1
 (x8 .i64 a0 (X4 .i64 a1 1000000))) (l9 (bC (x8 .i64 (N9 .i64 (x8 .i64 (X5 (x8
 .i64 a0 (X4 .i64 a1 1000000)) 2) 2) 1000000) (X5 a1 1000000)) 1000000 a2) fun x=>l7 (D6 (ieq x.2 0)) (some (0,
 x.2)) (l7 (ilt (x8 .i64 (G8 .i64 (x8 .i64 a0 (X4 .i64 a1 1000000)) (x8 .i64 (X5 (x8 .i64
 a0 (X4 .i64 a1 1000000)) 2) 2)) x.1) (-1000000000000000)) (some (0,3)) (l7 (ilt 1000000000000000 (x8 .i64 (G8 .i64
 (x8 .i64 a0 (X4 .i64 a1 1000000)) (x8 .i64 (X5 (x8 .i64 a0 (X4 .i64 a1 1000000)) 2) 2)) x.1)) (some
 (0,3)) (some (x8 .i64 (G8 .i64 (x8 .i64 a0 (X4 .i64 a1 1000000)) (x8 .i64 (X5 (x8 .i64 a0
 (X4 .i64 a1 1000000)) 2) 2)) x.1,0))))) (l7 (ilt (x8 .i64 a0 (X4 .i64 a1 1000000)) (-1)) (l9 (bC (x8
 .i64 (N9 .i64 (G8 .i64 (X5 (x8 .i64 a0 (X4 .i64 a1 1000000)) 2) 2) 1000000) (X5 a1 1000000)) 1000000
 a2) fun x=>l7 (D6 (ieq x.2 0)) (some (0,x.2)) (l7 (ilt (x8 .i64 (G8 .i64 (x8 .i64 a0 (X4
 .i64 a1 1000000)) (G8 .i64 (X5 (x8 .i64 a0 (X4 .i64 a1 1000000)) 2) 2)) x.1) (-1000000000000000)) (some (0,3))
 (l7 (ilt 1000000000000000 (x8 .i64 (G8 .i64 (x8 .i64 a0 (X4 .i64 a1 1000000)) (G8 .i64 (X5 (x8
 .i64 a0 (X4 .i64 a1 1000000)) 2) 2)) x.1)) (some (0,3)) (some (x8 .i64 (G8 .i64 (x8 .i64 a0 (X4
 .i64 a1 1000000)) (G8 .i64 (X5 (x8 .i64 a0 (X4 .i64 a1 1000000)) 2) 2)) x.1,0))))) (l9 (bC (x8
 .i64 (N9 .i64 (X5 (x8 .i64 a0 (X4 .i64 a1 1000000)) 2) 1000000) (X5 a1 1000000)) 1000000 a2) fun x=>
 l7 (D6 (ieq x.2 0)) (some (0,x.2)) (l7 (ilt (x8 .i64 (G8 .i64 (x8 .i64 a0 (X4 .i64 a1 1000000)) (X5
 (x8 .i64 a0 (X4 .i64 a1 1000000)) 2)) x.1) (-1000000000000000)) (some (0,3)) (l7 (ilt 1000000000000000 (x8 .i64 (G8
 .i64 (x8 .i64 a0 (X4 .i64 a1 1000000)) (X5 (x8 .i64 a0 (X4 .i64 a1 1000000)) 2)) x.1)) (some (0,3))
 (some (x8 .i64 (G8 .i64 (x8 .i64 a0 (X4 .i64 a1 1000000)) (X5 (x8 .i64 a0 (X4 .i64 a1
 1000000)) 2)) x.1,0))))))))
def d3G:FSpec:=mkS b3M b7C fun x=>vP x.1 x.2.1 x.2.2
def b3f:List MG:=[(true,(.dat y8)),uiM,uiM,uiM]
def b6V:Ret:=⟨[(.tmp 8,uiM),(.tmp 9,uiM)],[]⟩
def d8G:Env:=⟨90,eqs,tt,gl,[(70,s70),(237,d3F),(238,d3G)],[],[],[],[]⟩
def c6j:Ann:=.seq lfA (.seq (.joinR [(8,10),(19,25)] ⟨[],[]⟩ lfA) (.seq (.joinR [(8,10),(25,35)] ⟨[],[]⟩ lfA) (.seq (.joinR [(8,10),(35,41)] ⟨[],[]⟩ lfA) (.seq lfA (.seq (.seq lfA (.blk (.loopR [(8,12),(13,19),(44,84)] ⟨[(10,uiM),(11,uiM),(44,uiM)],[]⟩ 0 ⟨[(10,uiM),(11,uiM)],[]⟩ lfA))) lfA)))))
def vM (a0:V8) (a1:Int) (a2:Int) (a3:Int):Option F6:=l9 (l7 (ilt a3 0) (some (.inr (0,1))) (l7 (ilt 5 a3)
 (some (.inr (0,1))) (some (.inl ())))) fun o=>L8 o (fun(x:PUnit)=>l9 (l7 (D6 (aH (ieq a0.2.1.1 3)
 (ieq a0.2.1.2 0))) (some (.inr (0,8))) (l7 (D6 (aH (ieq a0.2.2.1.1 4) (ieq a0.2.2.1.2 0))) (some (.inr (0,8))) (some (.inl
 ())))) fun o=>L8 o (fun(x:PUnit)=>l9 (l7 (ilt a2 (-1000000000000000)) (some (.inr (0,3))) (l7 (ilt
 1000000000000000 a2) (some (.inr (0,3))) (some (.inl ())))) fun o=>L8 o (fun(x:PUnit)=>l9 (J9 (fun(x
 :F8)=>l7 (ilt x.2.2 (o8 a0.2.2.2)) (l9 (lat a0.2.2.2 x.2.2) fun x_1=>l9 (aI x_1.1 a1) fun x_2
 =>l7 (D6 x_2) (some (.nx (x.1,x.2.1,x8 .i64 x.2.2 1))) (l7 (ile (jf x_1.2.2.1 a2) (fO x_1.2.1 0)) (some (.nx (x.1,
 x.2.1,x8 .i64 x.2.2 1))) (l9 (mW (G8 .i64 (jf x_1.2.2.1 a2) (fO x_1.2.1 0)) x_1.2.2.2) fun x_3=>l7 (D6 x_3.2.2) (some (.rt (0,3))) (some (.nx (x8 .i64 x.1 x_3.1,x8 .i64 x.2.1 x_3.2.1,x8 .i64
 x.2.2 1)))))) (some (.ex (x.1,x.2.1)))) (0,0,0)) fun o=>L8 o (fun(y:F6)=>l9 (vP y.1 y.2 a3) fun(x
 :F6)=>some x) fun r=>some r) fun r=>some r) fun r=>some r) fun r=>some r
def d3e:FSpec:=mkS b3f b6V fun x=>vM x.1 x.2.1 x.2.2.1 x.2.2.2
def b3N:List MG:=[ubM]
def b7D:Ret:=⟨[(.cell 2 60,(true,(.dat y3)))],[]⟩
def d9o:Env:=⟨6,eqs,tt,gl,[],[],[],[],[]⟩
def c6R:Ann:=.leaf
def je (a0:Bool):Option F8:=l7 a0 (some (1,0,1)) (some (1,0,0))
def c1y:FSpec:=mkS b3N b7D fun x=>je x
def b4p:List MG:=[uiM]
def b8f:Ret:=⟨[(.tmp 2,ubM)],[]⟩
def d9Q:Env:=⟨9,eqs,tt,gl,[],[],[],[],[]⟩
def c7t:Ann:=.leaf
def oL (a0:Int):Option Bool:=l7 (ile 0 a0) (some (ile a0 109572)) (some false)
def b1o:FSpec:=mkS b4p b8f fun x=>oL x
def b4W:List MG:=[uiM]
def b8M:Ret:=⟨[(.tmp 2,uiM)],[]⟩
def e0x:Env:=⟨11,eqs,tt,gl,[],[],[],[],[]⟩
def c8a:Ann:=.leaf
def oK (a0:Int):Option Int:=some (x8 .i64 (G8 .i64 (X4 .i64 a0 4) (X4 .i64 a0 100)) (X4
 .i64 a0 400))
def d4s:FSpec:=mkS b4W b8M fun x=>oK x
def b4q:List MG:=[uiM]
def b8g:Ret:=⟨[(.tmp 2,uiM)],[]⟩
def d9R:Env:=⟨12,eqs,tt,gl,[(312,d4s)],[],[],[],[]⟩
def c7u:Ann:=.leaf
def jd (a0:Int):Option Int:=l9 (oK (G8 .i64 a0 1)) fun x=>l9 (oK 1899) fun(x_1:
 Int)=>some (G8 .i64 (x8 .i64 (N9 .i64 (G8 .i64 a0 1900) 365) x) x_1)
def c1F:FSpec:=mkS b4q b8g fun x=>jd x
def b4X:List MG:=[uiM]
def b8N:Ret:=⟨[(.tmp 2,ubM)],[]⟩
def e0y:Env:=⟨16,eqs,tt,gl,[],[],[],[],[]⟩
def c8b:Ann:=.leaf
def Aj (a0:Int):Option Bool:=l7 (ieq (X5 a0 4) 0) (l7 (D6 (ieq (X5 a0 100) 0)) (some true) (some (ieq (X5 a0 400) 0)))
 (some false)
def d4t:FSpec:=mkS b4X b8N fun x=>Aj x
def b4r:List MG:=[uiM,uiM]
def b8h:Ret:=⟨[(.tmp 4,uiM)],[]⟩
def d9S:Env:=⟨21,eqs,tt,gl,[(313,d4t)],[],[],[],[]⟩
def c7v:Ann:=.leaf
def bP (a0:Int) (a1:Int):Option Int:=l7 (ilt a1 1) (some 0) (l7 (ilt 12 a1) (some 0) (l7 (ieq a1 2) (l9 (Aj
 a0) fun x=>l7 x (some 29) (l9 (lat [31,28,31,30,31,30,31,31,30,31,30,31] (G8 .i64 a1 1)) fun x=>some
 x)) (l9 (lat [31,28,31,30,31,30,31,31,30,31,30,31] (G8 .i64 a1 1)) fun x=>some x)))
def b1p:FSpec:=mkS b4r b8h fun x=>bP x.1 x.2
def b3O:List MG:=[uiM]
def b7E:Ret:=⟨[(.tmp 2,uiM),(.tmp 3,uiM),(.tmp 4,uiM)],[]⟩
def d9p:Env:=⟨45,eqs,tt,gl,[(277,b1o),(278,c1F),(279,b1p)],[],[],[],[]⟩
def c6S:Ann:=.seq lfA (.seq lfA (.seq lfA (.seq (.blk (.loop [(5,6),(15,22)] ⟨[(5,uiM)],[]⟩ 0 ⟨[(5,uiM)],[]⟩ lfA)) (.seq lfA (.seq (.seq lfA (.blk (.loopR [(2,5),(6,9),(26,45)] ⟨[(6,uiM),(26,uiM)],[]⟩ 2 ⟨[],[]⟩ lfA))) lfA)))))
def oJ (a0:Int):Option F8:=l9 (oL a0) fun x=>l7 (D6 x) (some (0,0,0)) (l9 (N8 (fun(x:Int)=>
 l9 (jd (x8 .i64 x 1)) fun x_1=>l7 (ile x_1 a0) (some (.inl (x8 .i64 x 1))) (some (.inr x))) (x8
 .i64 1900 (X4 .i64 a0 366))) fun y=>l9 (jd y) fun x=>l9 (J9 (fun(x:F6)=>l7 (ilt
 x.2 12) (l9 (bP y (x8 .i64 x.2 1)) fun x_1=>l7 (ilt x.1 x_1) (some (.rt (y,x8 .i64 x.2 1,x8
 .i64 x.1 1))) (some (.nx (G8 .i64 x.1 x_1,x8 .i64 x.2 1)))) (some (.ex ()))) (G8 .i64 a0 x,0)) fun
 (o:PUnit⊕F8)=>L8 o (fun(y:PUnit)=>some (0,0,0)) fun r=>some r)
def b1l:FSpec:=mkS b3O b7E fun x=>oJ x
def b3g:List MG:=[uiM,(true,(.dat y3))]
def b6W:Ret:=⟨[(.cell 4 60,(true,(.dat y3)))],[]⟩
def d8H:Env:=⟨36,eqs,tt,gl,[(239,c1y),(240,b1l)],[],[],[],[]⟩
def c6k:Ann:=.leaf
def zy (a0:Int) (a1:F8):Option F8:=l7 (ieq a0 10) (some (a1.1,0,G8 .i64 0 a1.2.2)) (l7 (ieq a0 25) (l9
 (je (ieq a1.2.2 0)) fun x=>some x) (l9 (oJ a1.2.2) fun x=>l7 (ieq a0 31) (some (2,0,x.1)) (some (2,
 0,x.2.1))))
def d3f:FSpec:=mkS b3g b6W fun x=>zy x.1 x.2
def b4s:List MG:=[uiM,uiM]
def b8i:Ret:=⟨[(.tmp 4,uiM),(.tmp 5,uiM)],[]⟩
def d9T:Env:=⟨38,eqs,tt,gl,[(274,a7W)],[],[],[],[]⟩
def c7w:Ann:=.leaf
def qc (a0:Int) (a1:Int):Option F6:=l9 (kV (wrap .u64 (fO a0 (G8 .i64 0 a0))) (wrap .u64 (fO
 a1 (G8 .i64 0 a1)))) fun x=>l7 (D6 (ieq x.1 0)) (some (0,3)) (l7 (ilt 1000000000000000 x.2) (some (0,3)) (l7 (D6
 (dB (ilt a0 0) (ilt a1 0))) (some (G8 .i64 0 (wrap .i64 x.2),0)) (some (wrap .i64 x.2,0))))
def d3Z:FSpec:=mkS b4s b8i fun x=>qc x.1 x.2
def b4Y:List MG:=[uiM,uiM,uiM,uiM]
def b8O:Ret:=⟨[(.tmp 8,uiM),(.tmp 9,uiM)],[]⟩
def e0z:Env:=⟨72,eqs,tt,gl,[(307,b1s),(308,b1t),(309,c1I),(274,a7W),(275,b1n),(310,c1J),(311,c1K)],[],[],[],[]⟩
def c8c:Ann:=.seq lfA (.seq lfA (.seq lfA (.seq (.joinR [(8,10),(21,31)] ⟨[],[]⟩ lfA) lfA)))
def yD (a0:Int) (a1:Int) (a2:Int) (a3:Int):Option F6:=l9 (jJ a3) fun x=>l7 (D6 x) (some (0,
 1)) (l7 (ieq a2 0) (some (0,12)) (l9 (l9 (fQ a0 1000000000000000) fun x=>l7 x (some (.inr (0,3))) (l9
 (fQ a1 1000000000) fun x=>l7 x (some (.inr (0,3))) (l9 (fQ a2 1000000000) fun x=>l7 x (some
 (.inr (0,3))) (some (.inl ()))))) fun o=>L8 o (fun(x:PUnit)=>l9 (fD a0) fun x=>
 l9 (fD a1) fun x_1=>l9 (kV x x_1) fun x=>l9 (fD a2) fun x_2=>l7 (ile x_2
 x.1) (some (0,3)) (l9 (fC x.1 x.2 x_2) fun x=>l7 (ilt 1000000000000000 x.1) (some (0,3)) (l9
 (gz x.1 x.2 x_2 (D6 (dB (D6 (dB (ilt a0 0) (ilt a1 0))) (ilt a2 0))) a3) fun x=>l7 (ilt 1000000000000000 x)
 (some (0,3)) (l9 (uU x (D6 (dB (D6 (dB (ilt a0 0) (ilt a1 0))) (ilt a2 0)))) fun x=>some (x,0))))) fun r
 =>some r))
def d4u:FSpec:=mkS b4Y b8O fun x=>yD x.1 x.2.1 x.2.2.1 x.2.2.2
def b4t:List MG:=[uiM,uiM,uiM]
def b8j:Ret:=⟨[(.tmp 6,uiM),(.tmp 7,uiM)],[]⟩
def d9U:Env:=⟨14,eqs,tt,gl,[(314,d4u)],[],[],[],[]⟩
def c7x:Ann:=.leaf
def zK (a0:Int) (a1:Int) (a2:Int):Option F6:=l9 (yD a0 a1 1000000 a2) fun x=>some x
def d4a:FSpec:=mkS b4t b8j fun x=>zK x.1 x.2.1 x.2.2
def b4Z:List MG:=[uiM]
def b8P:Ret:=⟨[(.tmp 2,ubM)],[]⟩
def e0A:Env:=⟨9,eqs,tt,gl,[],[],[],[],[]⟩
def c8d:Ann:=.leaf
def uY (a0:Int):Option Bool:=l7 (ile 0 a0) (some (ile a0 5)) (some false)
def c1M:FSpec:=mkS b4Z b8P fun x=>uY x
def b5a:List MG:=[uiM,uiM]
def b8Q:Ret:=⟨[(.tmp 4,ubM)],[]⟩
def e0B:Env:=⟨14,eqs,tt,gl,[],[],[],[],[]⟩
def c8e:Ann:=.leaf
def pg (a0:Int) (a1:Int):Option Bool:=l7 (ilt a1 a0) (some true) (some (ilt a0 (G8 .i64 0 a1)))
def c1N:FSpec:=mkS b5a b8Q fun x=>pg x.1 x.2
def b4u:List MG:=[uiM,uiM,uiM]
def b8k:Ret:=⟨[(.tmp 6,uiM),(.tmp 7,uiM)],[]⟩
def d9V:Env:=⟨33,eqs,tt,gl,[(315,c1M),(316,c1N),(276,a7X)],[],[],[],[]⟩
def c7y:Ann:=.leaf
def FN (a0:Int) (a1:Int) (a2:Int):Option F6:=l9 (uY a2) fun x=>l7 (D6 x) (some (0,1)) (l9
 (pg a0 1000000000) fun x=>l7 x (some (0,3)) (l9 (pg a1 1000000000) fun x=>l7 x (some (0,3)) (l9
 (bC (N9 .i64 a0 a1) 1000000 a2) fun x=>l7 (D6 (ieq x.2 0)) (some (0,x.2)) (l9 (pg x.1 1000000000)
 fun x_1=>l7 x_1 (some (0,3)) (some (x.1,0))))))
def d4b:FSpec:=mkS b4u b8k fun x=>FN x.1 x.2.1 x.2.2
def b4v:List MG:=[uiM,uiM,uiM]
def b8l:Ret:=⟨[(.tmp 6,uiM),(.tmp 7,uiM)],[]⟩
def d9W:Env:=⟨38,eqs,tt,gl,[(307,b1s),(308,b1t),(276,a7X)],[],[],[],[]⟩
def c7z:Ann:=.leaf
def qZ (a0:Int) (a1:Int) (a2:Int):Option F6:=l9 (jJ a2) fun x=>l7 (D6 x) (some (0,1)) (l7
 (ilt a1 1) (some (0,12)) (l9 (fQ a0 1000000000000000) fun x=>l7 x (some (0,3)) (l7 (ilt 1000000000000000 a1) (some
 (0,3)) (l9 (bC a0 a1 a2) fun x=>l7 (D6 (ieq x.2 0)) (some (0,x.2)) (l9 (fQ (N9 .i64 x.1 a1)
 1000000000000000) fun x_1=>l7 x_1 (some (0,3)) (some (N9 .i64 x.1 a1,0)))))))
def d4c:FSpec:=mkS b4v b8l fun x=>qZ x.1 x.2.1 x.2.2
def b5b:List MG:=[(false,(.dat (.int .u64))),(false,(.dat (.int .u64))),(false,(.dat (.int .u64))),ubM,uiM]
def b8R:Ret:=⟨[(.tmp 10,ubM)],[]⟩
def e0C:Env:=⟨49,eqs,tt,gl,[],[],[],[],[]⟩
def c8f:Ann:=.leaf
def xf (a0:Int) (a1:Int) (a2:Int) (a3:Bool) (a4:Int):Option Bool:=l7 (ieq a1 0) (some false) (l7 (ieq a4 0) (some a3)
 (l7 (ieq a4 1) (some (D6 a3)) (l7 (ieq a4 3) (some true) (l7 (ieq a4 4) (some (ile (G8 .u64 a2 a1) a1)) (l7 (ieq a4 5) (l7
 (ilt (G8 .u64 a2 a1) a1) (some true) (l7 (ieq a1 (G8 .u64 a2 a1)) (some (ieq (X5 a0 2) 1)) (some false))) (some false))))))
def d4v:FSpec:=mkS b5b b8R fun x=>xf x.1 x.2.1 x.2.2.1 x.2.2.2.1 x.2.2.2.2
def b4w:List MG:=[uiM,uiM,uiM]
def b8m:Ret:=⟨[(.tmp 6,uiM),(.tmp 7,uiM)],[]⟩
def d9X:Env:=⟨73,eqs,tt,gl,[(315,c1M),(316,c1N),(274,a7W),(275,b1n),(317,d4v)],[],[],[],[]⟩
def c7A:Ann:=.leaf
def oZ (a0:Int) (a1:Int) (a2:Int):Option F6:=l9 (uY a2) fun x=>l7 (D6 x) (some (0,1)) (l7
 (ieq a1 0) (some (0,12)) (l9 (pg a0 1000000000000000) fun x=>l7 x (some (0,3)) (l9 (pg a1 1000000000000000)
 fun x=>l7 x (some (0,3)) (l9 (kV (wrap .u64 (fO a0 (G8 .i64 0 a0))) 1000000) fun x=>l7 (ile
 (wrap .u64 (fO a1 (G8 .i64 0 a1))) x.1) (some (0,3)) (l9 (fC x.1 x.2 (wrap .u64 (fO a1 (G8 .i64
 0 a1)))) fun x=>l7 (ilt 1000000000 x.1) (some (0,3)) (l9 (xf x.1 x.2 (wrap .u64 (fO a1 (G8 .i64 0
 a1))) (D6 (dB (ilt a0 0) (ilt a1 0))) a2) fun x_1=>l7 x_1 (l7 (ilt 1000000000 (x8 .i64 (wrap .i64 x.1) 1)) (some
 (0,3)) (l7 (D6 (dB (ilt a0 0) (ilt a1 0))) (some (G8 .i64 0 (x8 .i64 (wrap .i64 x.1) 1),0)) (some (x8 .i64
 (wrap .i64 x.1) 1,0)))) (l7 (ilt 1000000000 (wrap .i64 x.1)) (some (0,3)) (l7 (D6 (dB (ilt a0 0) (ilt a1 0))) (some (G8
 .i64 0 (wrap .i64 x.1),0)) (some (wrap .i64 x.1,0))))))))))
def d4d:FSpec:=mkS b4w b8m fun x=>oZ x.1 x.2.1 x.2.2
def b3P:List MG:=[(true,(.dat y2)),(true,(.dat y3)),(true,(.dat y3))]
def b7F:Ret:=⟨[(.cell 6 60,(true,(.dat y3))),(.tmp 7,uiM)],[]⟩
def d9q:Env:=⟨105,eqs,tt,gl,[(280,d3Z),(281,d4a),(282,d4b),(283,d4c),(276,a7X),(284,d4d)],[],[],[],[]⟩
def c6T:Ann:=.seq lfA (.seq lfA (.seq (.blk (.seq lfA (.cond lfA (.seq (.join [(38,47)] ⟨[(38,ubM)],[]⟩ lfA) lfA)))) lfA))
def tK (a0:F6) (a1:F8) (a2:F8):Option (F8×Int):=l7 (ieq a0.1 13) (l9 (qc a1.2.2 a2.2.2) fun(x:
 F6)=>some ((a1.1,0,x.1),x.2)) (l9 (l7 (ieq a0.1 14) (some (ieq a1.1 3)) (some false)) fun x=>l7 x (l9 (zK
 a1.2.2 a2.2.2 a0.2) fun x=>some ((a1.1,0,x.1),x.2)) (l7 (ieq a0.1 14) (l9 (FN a1.2.2 a2.2.2 a0.2) fun x=>some
 ((a1.1,0,x.1),x.2)) (l7 (ieq a0.1 16) (l9 (qZ a1.2.2 a2.2.2 a0.2) fun x=>some ((a1.1,0,x.1),x.2)) (l7 (ieq a2.1
 2) (l9 (bC a1.2.2 a2.2.2 a0.2) fun x=>some ((a1.1,0,x.1),x.2)) (l9 (oZ a1.2.2 a2.2.2 a0.2) fun(x:
 F6)=>some ((4,0,x.1),x.2))))))
def d3H:FSpec:=mkS b3P b7F fun x=>tK x.1 x.2.1 x.2.2
def b4x:List MG:=[uiM,uiM,uiM]
def b8n:Ret:=⟨[(.tmp 6,uiM),(.tmp 7,uiM)],[]⟩
def d9Y:Env:=⟨53,eqs,tt,gl,[(279,b1p),(278,c1F)],[],[],[],[]⟩
def c7B:Ann:=.seq lfA (.seq (.joinR [(6,8),(10,35)] ⟨[],[]⟩ lfA) (.seq lfA (.seq (.seq lfA (.blk (.loop [(8,10),(39,49)] ⟨[(8,uiM),(39,uiM)],[]⟩ 0 ⟨[(8,uiM)],[]⟩ lfA))) lfA)))
def yl (a0:Int) (a1:Int) (a2:Int):Option F6:=l9 (l7 (ilt a0 1900) (some (.inr (0,3))) (l7 (ilt 2199 a0) (some
 (.inr (0,3))) (l7 (ilt a1 1) (some (.inr (0,3))) (l7 (ilt 12 a1) (some (.inr (0,3))) (l7 (ilt a2 1) (some (.inr (0,3)))
 (l9 (bP a0 a1) fun x=>l7 (ilt x a2) (some (.inr (0,3))) (some (.inl ())))))))) fun o
 =>L8 o (fun(x:PUnit)=>l9 (jd a0) fun x=>l9 (N8 (fun(x:F6)=>l7 (ilt x.2 (G8 .i64 a1 1))
 (l9 (bP a0 (x8 .i64 x.2 1)) fun x_1=>some (.inl (x8 .i64 x.1 x_1,x8 .i64 x.2 1))) (some
 (.inr x.1))) (x,0)) fun y=>some (G8 .i64 (x8 .i64 y a2) 1,0)) fun r=>some r
def d4e:FSpec:=mkS b4x b8n fun x=>yl x.1 x.2.1 x.2.2
def b3Q:List MG:=[uiM,uiM]
def b7G:Ret:=⟨[(.tmp 4,uiM),(.tmp 5,uiM)],[]⟩
def d9r:Env:=⟨57,eqs,tt,gl,[(277,b1o),(240,b1l),(279,b1p),(285,d4e)],[],[],[],[]⟩
def c6U:Ann:=.seq lfA (.seq (.joinR [(4,6),(10,21)] ⟨[],[]⟩ lfA) lfA)
def kW (a0:Int) (a1:Int):Option F6:=l9 (l9 (oL a0) fun x=>l7 (D6 x) (some (.inr (0,3)))
 (l7 (ilt a1 (-3600)) (some (.inr (0,3))) (l7 (ilt 3600 a1) (some (.inr (0,3))) (some (.inl ()))))) fun o
 =>L8 o (fun(x:PUnit)=>l9 (oJ a0) fun x=>l7 (ilt (x8 .i64 (G8 .i64 (x8 .i64 (N9
 .i64 (G8 .i64 x.1 1900) 12) x.2.1) 1) a1) 0) (some (0,3)) (l7 (ilt 3599 (x8 .i64 (G8 .i64 (x8 .i64
 (N9 .i64 (G8 .i64 x.1 1900) 12) x.2.1) 1) a1)) (some (0,3)) (l9 (bP (x8 .i64 1900 (X4 .i64
 (x8 .i64 (G8 .i64 (x8 .i64 (N9 .i64 (G8 .i64 x.1 1900) 12) x.2.1) 1) a1) 12)) (x8 .i64 (X5
 (x8 .i64 (G8 .i64 (x8 .i64 (N9 .i64 (G8 .i64 x.1 1900) 12) x.2.1) 1) a1) 12) 1)) fun x_1=>
 l9 (yl (x8 .i64 1900 (X4 .i64 (x8 .i64 (G8 .i64 (x8 .i64 (N9 .i64 (G8
 .i64 x.1 1900) 12) x.2.1) 1) a1) 12)) (x8 .i64 (X5 (x8 .i64 (G8 .i64 (x8 .i64 (N9 .i64 (G8
 .i64 x.1 1900) 12) x.2.1) 1) a1) 12) 1) (jf x.2.2 x_1)) fun x=>some x))) fun r=>some r
def c1z:FSpec:=mkS b3Q b7G fun x=>kW x.1 x.2
def b3R:List MG:=[uiM,uiM]
def b7H:Ret:=⟨[(.tmp 4,uiM)],[]⟩
def d9s:Env:=⟨60,eqs,tt,gl,[(277,b1o),(240,b1l),(242,c1z)],[],[],[],[]⟩
def c6V:Ann:=.leaf
def gX (a0:Int) (a1:Int):Option Int:=l9 (oL a0) fun x=>l7 (D6 x) (some 0) (l9 (oL a1) fun
 (x:Bool)=>l7 (D6 x) (some 0) (l7 (ilt a1 a0) (some 0) (l9 (oJ a0) fun x=>l9 (oJ a1) fun x_1
 =>l9 (kW a0 (N9 .i64 12 (G8 .i64 x_1.1 x.1))) fun x_2=>l7 (D6 (ieq x_2.2 0)) (some (fO (G8
 .i64 (G8 .i64 x_1.1 x.1) 1) 0)) (l7 (ilt a1 x_2.1) (some (fO (G8 .i64 (G8 .i64 x_1.1 x.1) 1) 0)) (some (fO
 (G8 .i64 x_1.1 x.1) 0))))))
def d3I:FSpec:=mkS b3R b7H fun x=>gX x.1 x.2
def b3h:List MG:=[(true,(.dat y2)),(true,(.dat y3)),(true,(.dat y3))]
def b6X:Ret:=⟨[(.cell 6 60,(true,(.dat y3))),(.tmp 7,uiM)],[]⟩
def d8I:Env:=⟨139,eqs,tt,gl,[(241,d3H),(239,c1y),(242,c1z),(243,d3I)],[],[],[],[]⟩
def c6l:Ann:=.seq lfA (.seq (.joinR [(6,133),(4000384,4000385)] ⟨[(6,(false,(.box (.dat y3))))],[]⟩ (.seq lfA (.blk (.seq (.join [(12,15)] ⟨[(12,ubM)],[]⟩ lfA) (.cond lfA (.seq lfA (.cond lfA (.seq (.join [(33,38)] ⟨[(33,ubM)],[]⟩ lfA) (.cond lfA (.seq (.join [(44,47)] ⟨[(44,ubM)],[]⟩ lfA) lfA)))))))))) lfA)
def di (a0:F6) (a1:F8) (a2:F8):Option (F8×Int):=l9 (l9 (l7 (ieq a0.1 11) (some (ieq a0.1 11)) (some (ieq
 a0.1 27))) fun x=>l7 x (some (.inr ((a1.1,0,x8 .i64 a1.2.2 a2.2.2),0))) (l7 (ieq a0.1 12) (some (.inr ((a1.1,0,
 G8 .i64 a1.2.2 a2.2.2),0))) (l9 (l7 (ieq a0.1 13) (some (ieq a0.1 13)) (l7 (ieq a0.1 14) (some (ieq a0.1 14)) (l7 (ieq a0.1 15)
 (some (ieq a0.1 15)) (some (ieq a0.1 16))))) fun x=>l7 x (l9 (tK a0 a1 a2) fun x=>some (.inr x))
 (l9 (l7 (ieq a0.1 17) (some (ieq a0.1 17)) (some (ieq a0.1 18))) fun x=>l7 x (l7 (dB (ieq a0.1 17) (ilt a2.2.2 a1.2.2))
 (some (.inr (a2,0))) (some (.inr (a1,0)))) (l7 (ieq a0.1 19) (l9 (je (ieq a1.2.2 a2.2.2)) fun x=>some (.inr (x,
 0))) (l7 (ieq a0.1 20) (l9 (je (D6 (ieq a1.2.2 a2.2.2))) fun x=>some (.inr (x,0))) (l7 (ieq a0.1 21) (l9
 (je (ilt a1.2.2 a2.2.2)) fun x=>some (.inr (x,0))) (l7 (ieq a0.1 22) (l9 (je (ile a1.2.2 a2.2.2)) fun(x:
 F8)=>some (.inr (x,0))) (l7 (ieq a0.1 23) (l7 (ieq a1.2.2 1) (l9 (je (ieq a2.2.2 1)) fun x=>some (.inr (x,
 0))) (l9 (je false) fun x=>some (.inr (x,0)))) (l7 (ieq a0.1 24) (l7 (ieq a1.2.2 1) (l9 (je true) fun(x
 :F8)=>some (.inr (x,0))) (l9 (je (ieq a2.2.2 1)) fun x=>some (.inr (x,0)))) (l7 (ieq a0.1 28) (l9
 (kW a1.2.2 a2.2.2) fun x=>some (.inr ((5,0,x.1),x.2))) (l7 (ieq a0.1 29) (some (.inr ((2,0,G8 .i64
 a2.2.2 a1.2.2),0))) (some (.inl (0,0,0))))))))))))))) fun o=>L8 o (fun(x:F8)=>l9 (gX
 a1.2.2 a2.2.2) fun x=>some ((2,0,x),0)) fun r=>some r
def d3g:FSpec:=mkS b3h b6X fun x=>di x.1 x.2.1 x.2.2
def b2A:List MG:=[(true,(.dat y2)),(false,(.dat y28)),(true,(.dat y42))]
def b6q:Ret:=⟨[(.cell 6 60,(true,(.dat y3))),(.tmp 7,uiM)],[]⟩
def d7Y:Env:=⟨165,eqs,tt,gl,[(185,d3c),(186,d3d),(187,d3e),(188,d3f),(189,d3g)],[],[],[],[]⟩
def c5y:Ann:=.seq lfA (.seq (.joinR [(6,132),(4000384,4000385)] ⟨[(6,(false,(.box (.dat y3))))],[]⟩ (.seq lfA (.blk (.seq (.join [(15,21)] ⟨[(15,ubM)],[]⟩ lfA) (.cond lfA (.seq lfA (.cond lfA (.seq lfA (.cond lfA (.seq lfA (.cond lfA (.seq lfA (.cond lfA (.seq lfA (.cond lfA (.seq (.join [(62,67)] ⟨[(62,ubM)],[]⟩ lfA) lfA)))))))))))))))) lfA)
def O8 (a0:F6) (a1:List F8) (a2:P5):Option (F8×Int):=l9 (l9 (l7 (ieq a0.1 1) (some (ieq a0.1 1)) (l7
 (ieq a0.1 2) (some (ieq a0.1 2)) (l7 (ieq a0.1 3) (some (ieq a0.1 3)) (l7 (ieq a0.1 4) (some (ieq a0.1 4)) (some (ieq a0.1 5)))))) fun(x:
 Bool)=>l7 x (some (.inr ((a0.1,0,a0.2),0))) (l7 (ieq a0.1 6) (some (.inr ((6,X4 .i64 a0.2 16,X5 a0.2 16),0))) (l7
 (ieq a0.1 7) (l9 (lat a2.2.1 a0.2) fun x=>some (.inr (x,0))) (l7 (ieq a0.1 8) (l9 (lat a2.2.2.1 a0.2) fun x=>
 some (.inr (x,0))) (l7 (ieq a0.1 9) (some (.inr ((5,0,a2.1),0))) (l7 (ieq a0.1 35) (some (.inr ((2,0,o8 a2.2.2.2.1),0)))
 (l9 (l7 (ieq a0.1 36) (some (ieq a0.1 36)) (l7 (ieq a0.1 37) (some (ieq a0.1 37)) (l7 (ieq a0.1 38) (some (ieq a0.1 38)) (some (ieq a0.1
 39))))) fun x=>l7 x (l9 (kY a0 a2) fun x=>some (.inr x)) (l7 (ieq a0.1 33) (l9 (lat
 a2.2.2.2.2.2 a0.2) fun x=>l9 (lat a1 0) fun x_1=>l9 (yS x a2.1 x_1.2.2) fun x_2=>l7
 (D6 x_2.2) (some (.inr ((0,0,0),6))) (l9 (lat x.2.2.2 x_2.1) fun x_3=>some (.inr ((x.2.2.1.1,x.2.2.1.2,x_3.2.2.2),0))))
 (l7 (ieq a0.1 34) (l9 (lat a2.2.2.2.2.2 (X4 .i64 a0.2 8)) fun x=>l9 (lat a1 0) fun x_1=>l9
 (vM x a2.1 x_1.2.2 (X5 a0.2 8)) fun x=>some (.inr ((3,0,x.1),x.2))) (some (.inl (0,0,0)))))))))))) fun(o:
 F8⊕F8×Int)=>L8 o (fun(x:F8)=>l7 (ieq (o8 a1) 1) (l9 (lat a1 0) fun x=>l9 (zy a0.1 x) fun(x
 :F8)=>some (x,0)) (l7 (ieq (o8 a1) 2) (l9 (lat a1 0) fun x=>l9 (lat a1 1) fun x_1=>l9 (di a0
 x x_1) fun x=>some x) (l9 (lat a1 0) fun x=>l7 (ieq x.2.2 1) (l9 (lat a1 1) fun x=>some (x,0))
 (l9 (lat a1 2) fun x=>some (x,0))))) fun r=>some r
def d2I:FSpec:=mkS b2A b6q fun x=>O8 x.1 x.2.1 x.2.2
def b1U:List MG:=[(true,(.dat y2)),(false,(.dat y28)),(true,(.dat y42))]
def b5I:Ret:=⟨[(.cell 6 60,(true,(.dat y3))),(.tmp 7,uiM)],[]⟩
def d7p:Env:=⟨54,eqs,tt,gl,[(137,d2E),(135,a5c),(138,d2F),(139,d2G),(140,d2H),(141,d2I),(142,a0w)],[],[],[],[]⟩
def c4O:Ann:=.seq lfA (.seq (.joinR [(6,8),(10,22),(4000384,4000385)] ⟨[(6,(false,(.box (.dat y3))))],[]⟩ lfA) lfA)
def sU (a0:F6) (a1:List F8) (a2:P5):Option (F8×Int):=l9 (l9 (jE a0) fun x=>l7 (D6
 x) (some (.inr ((0,0,0),2))) (l9 (iw a0.1) fun x=>l7 (D6 (ieq (o8 a1) x)) (some (.inr ((0,0,0),2))) (some
 (.inl (0,0,0))))) fun o=>L8 o (fun(x:F8)=>l9 (bn a0 a2) fun x=>l7 (D6 x)
 (some ((0,0,0),6)) (l9 (nY a1) fun x=>l7 (D6 x) (some ((0,0,0),8)) (l9 (O7 a0 a1 a2) fun(x:
 Bool)=>l7 (D6 x) (some ((0,0,0),8)) (l9 (O8 a0 a1 a2) fun x=>l7 (D6 (ieq x.2 0)) (some ((0,0,0),
 x.2)) (l9 (au x.1) fun x_1=>l7 (D6 x_1) (some ((0,0,0),3)) (some (x.1,0))))))) fun r=>some r
def d2p:FSpec:=mkS b1U b5I fun x=>sU x.1 x.2.1 x.2.2
def a7e:List MG:=[(true,(.dat y48)),uiM]
def a4I:List MG:=[(true,(.dat y48)),uiM]
def a7d:List MG:=[(true,(.dat y48)),(true,(.dat y2)),(false,(.dat y32))]
def d0O:Ret:=⟨[(.cell 4 60,(true,(.dat y3))),(.tmp 5,uiM)],[]⟩
def d7T (r136:M.den (.dat y48)→M.den diM→Option (U4 ([(true,(.dat y3)),uiM]++[]))) (r66:M.den (.dat y48)→M.den diM→Option (U4 ([(true,(.dat y3)),uiM]++[]))) (r100:M.den (.dat y48)→M.den (.dat y2)→M.den (.dat y32)→Option (U4 ([(true,(.dat y3)),uiM]++[]))):Env:=⟨28,eqs,tt,gl,[(66,⟨a4I,[(true,(.dat y3)),uiM],[],fun x=>r66 x.1 x.2⟩),(142,a0w)],[],[],[],[]⟩
def c5t:Ann:=.leaf
def iP (r136:P7→Int→Option (F8×Int)) (r66:P7→Int→Option (F8×Int)) (r100:
 P7→F6→List Int→Option (F8×Int)) (a0:P7) (a1:Int):Option (F8×Int):=l9 (r66 a0 a1) fun(x:
 F8×Int)=>l7 (D6 (ieq x.2 0)) (some ((0,0,0),x.2)) (l7 (D6 (ieq x.1.1 1)) (some ((0,0,0),8)) (l9 (au x.1) fun
 (x_1:Bool)=>l7 (D6 x_1) (some ((0,0,0),8)) (some (x.1,0))))
def d1N:Ret:=⟨[(.cell 4 60,(true,(.dat y3))),(.tmp 5,uiM)],[]⟩
def e66 (r136:M.den (.dat y48)→M.den diM→Option (U4 ([(true,(.dat y3)),uiM]++[]))) (r66:M.den (.dat y48)→M.den diM→Option (U4 ([(true,(.dat y3)),uiM]++[]))) (r100:M.den (.dat y48)→M.den (.dat y2)→M.den (.dat y32)→Option (U4 ([(true,(.dat y3)),uiM]++[]))):Env:=⟨65,eqs,tt,gl,[(99,s99),(100,⟨a7d,[(true,(.dat y3)),uiM],[],fun x=>r100 x.1 x.2.1 x.2.2⟩),(66,⟨a4I,[(true,(.dat y3)),uiM],[],fun x=>r66 x.1 x.2⟩),(101,d2p)],[],[],[],[]⟩
def d6M:Ann:=.seq lfA (.seq lfA (.seq lfA (.seq (.joinR [(4,6),(21,33),(4000256,4000257)] ⟨[(4,(false,(.box (.dat y3))))],[]⟩ lfA) (.seq lfA (.seq (.seq lfA (.blk (.loopR [(4,6),(8,13),(38,58),(12000000,12000001),(37002240,37002241)] ⟨[(4,(false,(.box (.dat y3)))),(8,(false,(.own y3))),(38,uiM)],[]⟩ 1 ⟨[(4,(false,(.box (.dat y3)))),(8,(false,(.own y3)))],[]⟩ lfA))) lfA)))))
def kC (r136:P7→Int→Option (F8×Int)) (r66:P7→Int→Option (F8×Int)) (r100:
 P7→F6→List Int→Option (F8×Int)) (a0:P7) (a1:Int):Option (F8×Int):=l9 (lat a0.1 a1) fun(x:
 F6)=>l9 (dR a0 a1) fun x_1=>l9 (l7 (ieq x.1 23) (l7 (ieq x.1 23) (l9 (r100 a0 x x_1) fun(x:
 F8×Int)=>some (.inr x)) (some (.inl (0,0,0)))) (l7 (ieq x.1 24) (l7 (ieq x.1 24) (l9 (r100 a0 x x_1) fun x
 =>some (.inr x)) (some (.inl (0,0,0)))) (l7 (ieq x.1 26) (l9 (r100 a0 x x_1) fun x=>some (.inr x)) (some
 (.inl (0,0,0)))))) fun o=>L8 o (fun(x_2:F8)=>l9 (gU (o8 x_1) (0,0,0)) fun x_3=>
 l9 (J9 (fun(x:F8×List F8×Int)=>l7 (ilt x.2.2 (o8 x_1)) (l9 (lat x_1 x.2.2) fun x_4=>l9 (I9 x_1 (toN
 x.2.2)) fun x_5=>l9 (r66 a0 x_5) fun x_6=>l7 (D6 (ieq x_6.2 0)) (some (.rt ((0,0,0),x_6.2))) (l9 (lat
 x.2.1 x.2.2) fun x_7=>l9 (I9 x.2.1 (toN x.2.2)) fun x_8=>some (.nx (x.1,S9 x.2.1 (toN x.2.2) x_6.1,x8
 .i64 x.2.2 1)))) (some (.ex (x.1,x.2.1)))) (x_2,x_3,0)) fun o=>L8 o (fun(y:F8×List
 F8)=>l9 (sU x y.2 a0.2.2) fun x=>some x) fun r=>some r) fun r=>some r
def d0K:Ret:=⟨[(.cell 6 60,(true,(.dat y3))),(.tmp 7,uiM)],[]⟩
def d7o (r136:M.den (.dat y48)→M.den diM→Option (U4 ([(true,(.dat y3)),uiM]++[]))) (r66:M.den (.dat y48)→M.den diM→Option (U4 ([(true,(.dat y3)),uiM]++[]))) (r100:M.den (.dat y48)→M.den (.dat y2)→M.den (.dat y32)→Option (U4 ([(true,(.dat y3)),uiM]++[]))):Env:=⟨69,eqs,tt,gl,[(136,⟨a7e,[(true,(.dat y3)),uiM],[],fun x=>r136 x.1 x.2⟩),(66,⟨a4I,[(true,(.dat y3)),uiM],[],fun x=>r66 x.1 x.2⟩)],[],[],[],[]⟩
def c4N:Ann:=.seq lfA (.seq lfA (.seq lfA (.seq lfA (.seq (.blk (.seq (.join [(26,35)] ⟨[(26,ubM)],[]⟩ lfA) lfA)) lfA))))
def fK (r136:P7→Int→Option (F8×Int)) (r66:P7→Int→Option (F8×Int)) (r100:
 P7→F6→List Int→Option (F8×Int)) (a0:P7) (a1:F6) (a2:List Int):Option (F8×Int):=l7
 (D6 (ieq a1.2 0)) (some ((0,0,0),2)) (l9 (lat a2 0) fun x=>l9 (r136 a0 x) fun x=>l7 (D6 (ieq x.2 0))
 (some ((0,0,0),x.2)) (l9 (l7 (ieq a1.1 26) (some (ieq x.1.2.2 1)) (some false)) fun x_1=>l7 x_1 (l9 (lat a2 1) fun(x:
 Int)=>l9 (r66 a0 x) fun x=>some x) (l7 (ieq a1.1 26) (l9 (lat a2 2) fun x=>l9 (r66 a0 x) fun x=>some x) (l7 (dB (ieq a1.1 23) (ieq x.1.2.2 0)) (some (x.1,0)) (l9 (lat a2 1) fun x=>l9 (r136 a0 x) fun x=>some x)))))
def A7:Nat→(M.den (.dat y48)→M.den diM→Option (U4 ([(true,(.dat y3)),uiM]++[])))×(M.den (.dat y48)→M.den diM→Option (U4 ([(true,(.dat y3)),uiM]++[])))×(M.den (.dat y48)→M.den (.dat y2)→M.den (.dat y32)→Option (U4 ([(true,(.dat y3)),uiM]++[])))
 | 0=>(fun a0 a1=>none,fun a0 a1=>none,fun a0 a1 a2=>none)
 | n+1=>(fun a0 a1=>iP (A7 n).1 (A7 n).2.1 (A7 n).2.2 a0 a1,fun a0 a1=>kC (A7 n).1 (A7 n).2.1 (A7 n).2.2 a0 a1,fun a0 a1 a2=>fK (A7 n).1 (A7 n).2.1 (A7 n).2.2 a0 a1 a2)
def qN:M.den (.dat y48)→M.den diM→Option (U4 ([(true,(.dat y3)),uiM]++[])):=fun a0 a1=>(A7 bJ).2.1 a0 a1
def s66:FSpec:=mkS a4I d1N fun x=>qN x.1 x.2
def c9K:List MG:=[(false,(.dat y12)),(true,(.dat y42))]
def d1o:Ret:=⟨[(.cell 4 60,(true,(.dat y3))),(.tmp 5,uiM)],[]⟩
def e38:Env:=⟨27,eqs,tt,gl,[(65,s65),(66,s66)],[],[],[],[]⟩
def d6o:Ann:=.leaf
def wo (a0:List F6) (a1:P5):Option (F8×Int):=l9 (EY a0) fun x=>l7 (D6 (ieq x.2 0))
 (some ((0,0,0),x.2)) (l9 (qN (a0,x.1,a1) (G8 .i64 (o8 a0) 1)) fun x=>some x)
def s38:FSpec:=mkS c9K d1o fun x=>wo x.1 x.2
def b1Z:List MG:=[(false,(.dat y32)),(false,(.dat y32))]
def b5N:Ret:=⟨[(.tmp 4,uiM)],[]⟩
def d7u:Env:=⟨42,eqs,tt,gl,[],[],[],[],[]⟩
def c4T:Ann:=.seq lfA (.seq lfA (.seq lfA (.seq (.seq lfA (.blk (.loopR [(4,7),(17,42)] ⟨[(17,uiM)],[]⟩ 0 ⟨[],[]⟩ lfA))) lfA)))
def nZ (a0:List Int) (a1:List Int):Option Int:=l7 (D6 (ieq (o8 a0) (o8 a1))) (some 2) (l7 (ilt 8 (o8 a0)) (some
 4) (l9 (J9 (fun(x:Int)=>l7 (ilt x (o8 a0)) (l9 (lat a0 x) fun x_1=>l7 (ilt x_1 (-1)) (some (.rt 9)) (l7 (ile x
 x_1) (some (.rt 9)) (l9 (lat a1 x) fun x_2=>l7 (ilt x_2 0) (some (.rt 3)) (l9 (lat a1 x) fun x_3=>l7 (ilt 9
 x_3) (some (.rt 3)) (some (.nx (x8 .i64 x 1))))))) (some (.ex ()))) 0) fun o=>L8 o (fun(y:PUnit)=>
 some 0) fun r=>some r))
def d2q:FSpec:=mkS b1Z b5N fun x=>nZ x.1 x.2
def b3j:List MG:=[(false,(.dat y32)),uiM]
def b6Z:Ret:=⟨[(.tmp 4,uoM)],[]⟩
def d8K:Env:=⟨24,eqs,tt,gl,[],[],[],[],[]⟩
def c6n:Ann:=.seq lfA (.seq lfA (.seq (.seq lfA (.blk (.loop [(5,8),(10,23)] ⟨[(5,uoM),(10,uiM)],[]⟩ 0 ⟨[(5,uoM)],[]⟩ lfA))) lfA))
def jX (a0:List Int) (a1:Int):Option (List Int):=l9 (N8 (fun(x:List Int×Int)=>l7 (ilt x.2 (o8 a0)) (l9
 (lat a0 x.2) fun x_1=>l7 (ieq x_1 a1) (l9 (X9 x.1 [x.2]) fun x_2=>some (.inl (x_2,x8 .i64 x.2 1)))
 (some (.inl (x.1,x8 .i64 x.2 1)))) (some (.inr x.1))) ([],0)) fun y=>some y
def d3i:FSpec:=mkS b3j b6Z fun x=>jX x.1 x.2
def b2D:List MG:=[(true,(.dat y50)),uiM]
def b6t:Ret:=⟨[(.tmp 4,uoM)],[]⟩
def d8b:Env:=⟨67,eqs,tt,gl,[(201,d3i)],[],[],[],[]⟩
def c5B:Ann:=.seq lfA (.seq lfA (.seq (.seq lfA (.blk (.loop [(5,6),(7,8),(13,66)] ⟨[(5,uoM),(13,uiM)],[]⟩ 0 ⟨[(5,uoM)],[]⟩ (.seq lfA (.seq lfA (.seq (.blk (.seq lfA (.seq lfA (.seq (.join [(5,6),(23,43),(14000000,14000001)] ⟨[(5,uoM)],[]⟩ lfA) lfA)))) lfA)))))) lfA))
def mP (a0:Z5) (a1:Int):Option (List Int):=l9 (jX a0.1 a1) fun x=>l9 (N8
 (fun(x_1:List Int×Int)=>l7 (ilt x_1.2 (o8 x)) (l9 (lat x x_1.2) fun x_2=>l9 (I9 x (toN x_1.2)) fun x=>l9
 (lat a0.2.2 x) fun x_3=>l7 (ieq x_3 (-1)) (some (.inl (x_1.1,x8 .i64 x_1.2 1))) (l9 (l7 (ilt 0 (o8 x_1.1)) (l9
 (lat a0.2.1 x) fun x=>l9 (lat x_1.1 0) fun x_4=>l9 (I9 x_1.1 (toN 0)) fun x_5=>l9 (lat a0.2.1 x_5) fun(x_6
 :Int)=>l7 (ilt x_6 x) (l7 (jm 0 0 (o8 x_1.1)) (some (gu x_1.1 (toN 0) (toN 0))) none) (some x_1.1)) (some x_1.1)) fun x_4=>l7 (ieq (o8 x_4) 0) (l9 (X9 x_4 [x]) fun x=>some (.inl (x,x8 .i64 x_1.2 1))) (l9 (lat a0.2.1 x) fun
 (x_5:Int)=>l9 (lat x_4 0) fun x_6=>l9 (I9 x_4 (toN 0)) fun x_7=>l9 (lat a0.2.1 x_7) fun x_8=>l7 (ieq
 x_5 x_8) (l9 (X9 x_4 [x]) fun x=>some (.inl (x,x8 .i64 x_1.2 1))) (some (.inl (x_4,x8 .i64 x_1.2
 1)))))) (some (.inr x_1.1))) ([],0)) fun y=>some y
def d2K:FSpec:=mkS b2D b6t fun x=>mP x.1 x.2
def b2b:List MG:=[(true,(.dat y50)),uiM]
def b5P:Ret:=⟨[(.tmp 4,uiM)],[]⟩
def d7w:Env:=⟨22,eqs,tt,gl,[(146,d2K)],[],[],[],[]⟩
def c4W:Ann:=.leaf
def aT (a0:Z5) (a1:Int):Option Int:=l9 (mP a0 a1) fun x=>l7 (ieq (o8
 x) 0) (some (-1)) (l7 (ieq (o8 x) 1) (l9 (lat x 0) fun x_1=>l9 (I9 x (toN 0)) fun x=>l9 (lat a0.2.2 x) fun(x:
 Int)=>some x) (some (-2)))
def c1m:FSpec:=mkS b2b b5P fun x=>aT x.1 x.2
def b2a:List MG:=[(false,(.dat y32)),(false,(.dat y32)),(false,(.dat (.sl .bool)))]
def b5O:Ret:=⟨[(.tmp 6,uoM)],[]⟩
def d7v:Env:=⟨48,eqs,tt,gl,[(111,c1m)],[],[],[],[]⟩
def c4V:Ann:=.seq lfA (.seq lfA (.seq (.seq lfA (.blk (.loop [(7,9),(18,46),(7000448,7000449),(7000832,7000833)] ⟨[(7,(false,(.box (.pair (.dat y32) (.pair (.dat y32) oiM))))),(8,uiM)],[]⟩ 0 ⟨[(7,(false,(.box (.pair (.dat y32) (.pair (.dat y32) oiM)))))],[]⟩ lfA))) lfA))
def og (a0:List Int) (a1:List Int) (a2:List Bool):Option (List Int):=l9 (gU (o8 a0) 0) fun x=>l9
 (N8 (fun(x:Z5×Int)=>l7 (ile 0 x.2) (l9 (aT x.1 x.2) fun x_1=>l9 (lat x.1.2.2 x.2) fun
 (x_2:Int)=>l9 (I9 x.1.2.2 (toN x.2)) fun x_3=>l9 (lat (S9 x.1.2.2 (toN x.2) x_1) x.2) fun x_4=>l9 (I9 (S9
 x.1.2.2 (toN x.2) x_1) (toN x.2)) fun x_5=>l7 (ieq x_5 (-1)) (l9 (lat a2 x.2) fun x_6=>l7 x_6 (l9 (lat (S9 x.1.2.2
 (toN x.2) x_1) x.2) fun x_7=>l9 (I9 (S9 x.1.2.2 (toN x.2) x_1) (toN x.2)) fun x_8=>some (.inl ((x.1.1,x.1.2.1,S9
 (S9 x.1.2.2 (toN x.2) x_1) (toN x.2) x.2),G8 .i64 x.2 1))) (some (.inl ((x.1.1,x.1.2.1,S9 x.1.2.2 (toN x.2) x_1),G8 .i64
 x.2 1)))) (some (.inl ((x.1.1,x.1.2.1,S9 x.1.2.2 (toN x.2) x_1),G8 .i64 x.2 1)))) (some (.inr x.1))) ((a0,a1,x),G8
 .i64 (o8 a0) 1)) fun y=>some y.2.2
def d2r:FSpec:=mkS b2a b5O fun x=>og x.1 x.2.1 x.2.2
def d0o:List MG:=[(false,(.dat y32)),(false,(.dat y32)),(false,(.dat (.sl .bool)))]
def d1U:Ret:=⟨[(.tmp 6,uiM)],[]⟩
def e79:Env:=⟨26,eqs,tt,gl,[(109,d2q),(110,d2r),(111,c1m)],[],[],[],[]⟩
def d6T:Ann:=.leaf
def sK (a0:List Int) (a1:List Int) (a2:List Bool):Option Int:=l9 (nZ a0 a1) fun x=>l7 (D6 (ieq
 x 0)) (some (-1)) (l7 (D6 (ieq (o8 a2) (o8 a0))) (some (-1)) (l9 (og a0 a1 a2) fun x=>l9
 (aT (a0,a1,x) (-1)) fun x=>some x))
def s79:FSpec:=mkS d0o d1U fun x=>sK x.1 x.2.1 x.2.2
def c9R:List MG:=[(true,(.dat y24)),(true,(.dat y42)),uiM,uiM]
def d1w:Ret:=⟨[(.tmp 8,uiM),(.cell 9 39,(true,(.dat y37)))],[]⟩
def e49:Env:=⟨87,eqs,tt,gl,[(78,s78),(38,s38),(79,s79)],[],[],[],[]⟩
def d6v:Ann:=.seq lfA (.seq lfA (.seq lfA (.seq (.seq lfA (.blk (.loopR [(8,10),(13,18),(33,74),(4000576,4000577),(10001920,10001921)] ⟨[(9,(false,(.box (.dat y37)))),(13,(false,(.own .bool))),(33,uiM)],[]⟩ 0 ⟨[(9,(false,(.box (.dat y37)))),(13,(false,(.own .bool)))],[]⟩ lfA))) lfA)))
def ng (a0:A8) (a1:P5) (a2:Int) (a3:Int):Option (Int×E8):=l9 (pY a0 a3 a1.1) fun(x:
 Z5)=>l9 (gU (o8 x.1) false) fun x_1=>l9 (J9 (fun(x_2:E8×List Bool×Int)=>l7 (ilt
 x_2.2.2 (o8 x.1)) (l9 (lat x.1 x_2.2.2) fun x_3=>l9 (I9 x.1 (toN x_2.2.2)) fun x=>l9 (lat a0.2.2.2.2 x) fun(x_4:
 X0)=>l7 (ieq (o8 x_4.2.2.2.2.2.1) 0) (l9 (lat x_2.2.1 x_2.2.2) fun x=>l9 (I9 x_2.2.1 (toN x_2.2.2)) fun x=>
 some (.nx (x_2.1,S9 x_2.2.1 (toN x_2.2.2) true,x8 .i64 x_2.2.2 1))) (l9 (lat a0.2.2.2.2 x) fun x_5=>l9 (wo
 x_5.2.2.2.2.2.1 a1) fun x_6=>l7 (D6 (ieq x_6.2 0)) (some (.rt (0,x_6.2,a2,a3,x))) (l9 (lat x_2.2.1 x_2.2.2) fun(x
 :Bool)=>l9 (I9 x_2.2.1 (toN x_2.2.2)) fun x=>some (.nx (x_2.1,S9 x_2.2.1 (toN x_2.2.2) (ieq x_6.1.2.2 1),x8 .i64
 x_2.2.2 1))))) (some (.ex (x_2.1,x_2.2.1)))) ((0,0,0,0),x_1,0)) fun o=>L8 o (fun(y:
 E8×List Bool)=>l9 (sK x.2.1 x.2.2 y.2) fun x_2=>l7 (ilt x_2 0) (some (x_2,0,0,0,0)) (l9 (lat x.1 x_2)
 fun x_3=>l9 (I9 x.1 (toN x_2)) fun x=>some (x,0,0,0,0))) fun r=>some r
def s49:FSpec:=mkS c9R d1w fun x=>ng x.1 x.2.1 x.2.2.1 x.2.2.2
def d0a:List MG:=[(true,(.dat y24)),(false,(.box (.pair diM (.pair (.dat y28) (.pair (.own y3) (.pair (.dat y29) (.pair (.dat y12) (.dat y9)))))))),uiM,(false,(.dat (.sl .bool)))]
def d1F:Ret:=⟨[(.tmp 8,uoM),(.cell 9 39,(true,(.dat y37)))],[(1,(true,(.pair diM (.pair (.dat y28) (.pair (.own y3) (.pair (.dat y29) (.pair (.dat y12) (.dat y9))))))))]⟩
def e58:Env:=⟨105,eqs,tt,gl,[(92,s92),(49,s49),(38,s38)],[],[],[],[1]⟩
def d6E:Ann:=.seq lfA (.seq lfA (.seq lfA (.seq lfA (.seq (.seq lfA (.blk (.loopR [(1,2),(8,11),(14,19),(37,103),(1000000,1000001),(4000576,4000577),(7001472,7001473),(10001856,10001857)] ⟨[(1,(false,(.box (.pair diM (.pair (.dat y28) (.pair (.own y3) (.pair (.dat y29) (.pair (.dat y12) (.dat y9))))))))),(9,(false,(.box (.dat y37)))),(10,uoM),(37,uiM)],[]⟩ 0 ⟨[(1,(false,(.box (.pair diM (.pair (.dat y28) (.pair (.own y3) (.pair (.dat y29) (.pair (.dat y12) (.dat y9))))))))),(9,(false,(.box (.dat y37)))),(10,uoM)],[]⟩ lfA))) lfA))))
def bu (a0:A8) (a1:P5) (a2:Int) (a3:List Bool):Option (List Int×E8×P5):=l9 (gU (o8
 a0.2.2.2.1) (0,0,0)) fun x=>l9 (gU (o8 a0.2.2.2.1) 0) fun x_1=>l9 (jP a0) fun(x_2:
 List Int×Int)=>l9 (J9 (fun(x:P5×E8×List Int×Int)=>l7 (ilt x.2.2.2 (o8 x_2.1)) (l9 (lat x_2.1 x.2.2.2) fun(x_3
 :Int)=>l9 (I9 x_2.1 (toN x.2.2.2)) fun x_4=>l9 (lat a3 x_4) fun x_5=>l7 (D6 x_5) (some (.nx (x.1,x.2.1,
 x.2.2.1,x8 .i64 x.2.2.2 1))) (l9 (ng a0 x.1 a2 x_4) fun x_6=>l7 (D6 (ieq x_6.2.1 0)) (some
 (.rt ([],x_6.2,x.1))) (l7 (ieq x_6.1 (-1)) (some (.rt ([],(10,a2,x_4,-1),x.1))) (l7 (ieq x_6.1 (-2)) (some (.rt ([],(11,a2,
 x_4,-1),x.1))) (l9 (lat a0.2.2.2.2 x_6.1) fun x_7=>l9 (wo x_7.2.2.2.2.2.2.1 x.1) fun x_8=>l7 (D6
 (ieq x_8.2 0)) (some (.rt ([],(x_8.2,a2,x_4,x_6.1),x.1))) (l9 (lat x.1.2.2.1 x_4) fun x_9=>l9 (I9 x.1.2.2.1 (toN x_4))
 fun x_10=>l9 (lat x.2.2.1 x_4) fun x_11=>l9 (I9 x.2.2.1 (toN x_4)) fun x_12=>some (.nx ((x.1.1,x.1.2.1,
 S9 x.1.2.2.1 (toN x_4) x_8.1,x.1.2.2.2),x.2.1,S9 x.2.2.1 (toN x_4) x_6.1,x8 .i64 x.2.2.2 1)))))))) (some (.ex (x.1,x.2.1,
 x.2.2.1)))) ((a1.1,a1.2.1,x,a1.2.2.2),(0,0,0,0),x_1,0)) fun o=>L8 o (fun
 (y:P5×E8×List Int)=>some (y.2.2,(0,0,0,0),y.1)) fun r=>some r
def s58:FSpec:=mkS d0a d1F fun x=>bu x.1 x.2.1 x.2.2.1 x.2.2.2
def c9B:List MG:=[(true,(.dat y27)),uiM,(true,(.dat y31)),(false,(.box (.pair (.dat y24) (.pair (.dat y24) (.pair (.own .bool) (.own .bool))))))]
def d1f:Ret:=⟨[(.cell 8 36,(true,(.dat y36))),(.cell 9 50,(true,(.dat y42))),(.cell 10 39,(true,(.dat y37)))],[(3,(true,(.pair (.dat y24) (.pair (.dat y24) (.pair (.own .bool) (.own .bool))))))]⟩
def e29:Env:=⟨123,eqs,tt,gl,[(58,s58)],[],[],[],[3]⟩
def d6f:Ann:=.seq lfA (.seq lfA (.seq lfA (.seq (.seq lfA (.blk (.loop [(11,12),(14,15),(35,47),(7000704,7000705)] ⟨[(11,(false,(.box (.pair diM (.pair (.dat y28) (.pair (.cell (some none)) (.pair (.cell (some none)) (.pair (.own y2) (.dat y9))))))))),(35,uiM)],[]⟩ 0 ⟨[(11,(false,(.box (.pair diM (.pair (.dat y28) (.pair (.cell (some none)) (.pair (.cell (some none)) (.pair (.own y2) (.dat y9)))))))))],[]⟩ lfA))) (.seq (.seq lfA (.blk (.loopR [(8,13),(15,20),(50,97),(4000512,4000513),(4000576,4000577),(4000640,4000641),(10000768,10000769),(18000000,18000002)] ⟨[(8,(false,(.box (.dat y36)))),(9,(false,(.box (.dat y42)))),(10,(false,(.box (.dat y37)))),(11,(false,(.box (.pair diM (.pair (.dat y28) (.pair (.cell (some none)) (.pair (.own y28) (.pair (.own y2) (.dat y9))))))))),(12,(false,(.box (.pair (.dat y28) (.pair (.dat y32) (.own y33)))))),(50,uiM)],[]⟩ 2 ⟨[(8,(false,(.box (.dat y36)))),(9,(false,(.box (.dat y42)))),(10,(false,(.box (.dat y37)))),(11,(false,(.box (.pair diM (.pair (.dat y28) (.pair (.cell (some none)) (.pair (.own y28) (.pair (.own y2) (.dat y9))))))))),(12,(false,(.box (.pair (.dat y28) (.pair (.dat y32) (.own y33))))))],[]⟩ lfA))) lfA))))
def jH (a0:L6) (a1:Int) (a2:U8) (a3:I4):Option (dY×P5×E8×I4):=l9 (N8
 (fun(x:(Int×List F8×PUnit×PUnit×List F6×List V8)×Int)=>l7 (ilt x.2 (o8 a3.2.1.2.2.2.1)) (l9 (lat a3.2.1.2.2.2.1
 x.2) fun x_1=>l9 (X9 x.1.2.2.2.2.1 [x_1.2]) fun x_2=>some (.inl ((x.1.1,x.1.2.1,(),(),x_2,
 x.1.2.2.2.2.2),x8 .i64 x.2 1))) (some (.inr (x.1.1,x.1.2.1,(),(),x.1.2.2.2.2)))) ((a2.1,a2.2.1,(),
 (),[],a0.2.1),0)) fun y=>l9 (J9 (fun(x:dY×P5×
 E8×(Int×List F8×PUnit×List (List F8)×List F6×List V8)×dY×Int)=>l7 (ilt x.2.2.2.2.2 (o8 a2.2.2))
 (l9 (lat a2.2.2 x.2.2.2.2.2) fun x_1=>l9 (bu a3.2.1 (a2.1,x_1,[],[],[],a0.2.1) x.2.2.2.2.2 a3.2.2.2)
 fun x_2=>l7 (D6 (ieq x_2.2.1.1 0)) (some (.rt (([],[],[]),(0,[],[],[],[],[]),x_2.2.1,a3)))
 (l9 (X9 x.2.2.2.1.2.2.2.1 [x_2.2.2.2.2.1]) fun x_3=>l9 (X9 x.2.2.2.2.1.2.2 [(x_2.2.2.2.2.1,x_2.1)]) fun(x_4:
 List kw)=>some (.nx (x.1,x.2.1,x.2.2.1,(x.2.2.2.1.1,x.2.2.2.1.2.1,(),x_3,x.2.2.2.1.2.2.2.2),(x.2.2.2.2.1.1,
 x.2.2.2.2.1.2.1,x_4),x8 .i64 x.2.2.2.2.2 1)))) (some (.ex (x.1,x.2.1,x.2.2.1,(x.2.2.2.1.1,x.2.2.2.1.2.1,(),
 x.2.2.2.1.2.2.2),x.2.2.2.2.1)))) (([],[],[]),(0,[],[],[],[],[]),(0,0,0,0),(y.1,y.2.1,(),[],y.2.2.2.2),([],[],[]),0))
 fun o=>L8 o (fun(y:dY×P5×E8×(Int×List F8×PUnit×List (List F8)×List F6×List
 V8)×dY)=>l9 (bu a3.1 (y.2.2.2.1.1,y.2.2.2.1.2.1,[],y.2.2.2.1.2.2.2) (-1) a3.2.2.1) fun x=>l7 (D6 (ieq x.2.1.1 0)) (some (([],[],[]),(0,[],[],[],[],[]),x.2.1,a3)) (some ((x.2.2.2.2.1,x.1,
 y.2.2.2.2.2.2),x.2.2,(0,0,0,0),a3))) fun r=>some r
def s29:FSpec:=mkS c9B d1f fun x=>jH x.1 x.2.1 x.2.2.1 x.2.2.2
def c9k:List MG:=[(true,(.dat y27)),uiM,(true,(.dat y31))]
def d0M:Ret:=⟨[(.cell 6 36,(true,(.dat y36))),(.cell 7 39,(true,(.dat y37)))],[]⟩
def e12:Env:=⟨68,eqs,tt,gl,[(27,s27),(28,s28),(29,s29)],[],[],[],[]⟩
def d5Q:Ann:=.seq lfA (.seq lfA (.seq lfA (.seq (.seq lfA (.blk (.loop [(9,11),(32,42),(20001664,20001667)] ⟨[(9,(false,(.box (.pair (.dat y24) (.pair (.dat y24) (.pair (.own .bool) (.own .bool))))))),(32,uiM)],[]⟩ 0 ⟨[(9,(false,(.box (.pair (.dat y24) (.pair (.dat y24) (.pair (.own .bool) (.own .bool)))))))],[]⟩ lfA))) (.seq (.seq lfA (.blk (.loop [(9,10),(11,12),(47,57),(28000000,28000003)] ⟨[(9,(false,(.box (.pair (.dat y24) (.pair (.dat y24) (.pair (.own .bool) (.own .bool))))))),(47,uiM)],[]⟩ 2 ⟨[(9,(false,(.box (.pair (.dat y24) (.pair (.dat y24) (.pair (.own .bool) (.own .bool)))))))],[]⟩ lfA))) lfA))))
def lX (a0:L6) (a1:Int) (a2:U8):Option (dY×E8):=l9 (dC a0 a1 a2 false 0) fun(x:
 E8)=>l7 (D6 (ieq x.1 0)) (some (([],[],[]),x)) (l9 (jI a0 a1) fun x=>l9 (N8 (fun(x_1:
 I4×Int)=>l7 (ilt x_1.2 (o8 x.2.2.1)) (l9 (lat x_1.1.2.2.1 x_1.2) fun x=>l9 (I9 x_1.1.2.2.1 (toN x_1.2)) fun(x
 :Bool)=>some (.inl ((x_1.1.1,x_1.1.2.1,S9 x_1.1.2.2.1 (toN x_1.2) true,x_1.1.2.2.2),x8 .i64 x_1.2 1))) (some (.inr x_1.1)))
 (x,0)) fun y=>l9 (N8 (fun(x:I4×Int)=>l7 (ilt x.2 (o8 y.2.2.2)) (l9 (lat x.1.2.2.2 x.2) fun(x_1
 :Bool)=>l9 (I9 x.1.2.2.2 (toN x.2)) fun x_2=>some (.inl ((x.1.1,x.1.2.1,x.1.2.2.1,S9 x.1.2.2.2 (toN x.2) true),x8
 .i64 x.2 1))) (some (.inr x.1))) (y,0)) fun y=>l9 (jH a0 a1 a2 y) fun x=>some (x.1,x.2.2.1))
def s12:FSpec:=mkS c9k d0M fun x=>lX x.1 x.2.1 x.2.2
def c9w:List MG:=[(false,(.dat y32)),(false,(.dat y32))]
def d1c:Ret:=⟨[(.tmp 4,ubM)],[]⟩
def e26:Env:=⟨32,eqs,tt,gl,[],[],[],[],[]⟩
def d6c:Ann:=.seq lfA (.seq lfA (.seq (.seq lfA (.blk (.loopR [(4,6),(11,32)] ⟨[(5,uiM)],[]⟩ 0 ⟨[],[]⟩ lfA))) lfA))
def zk (a0:List Int) (a1:List Int):Option Bool:=l7 (D6 (ieq (o8 a0) (o8 a1))) (some false) (l9 (J9 (fun(x:Int)=>
 l7 (ilt x (o8 a0)) (l7 (ilt x (o8 a1)) (l9 (lat a0 x) fun x_1=>l9 (lat a1 x) fun x_2=>l7 (D6 (ieq x_1 x_2))
 (some (.rt false)) (some (.nx (x8 .i64 x 1)))) (some (.ex ()))) (some (.ex ()))) 0) fun o=>
 L8 o (fun(y:PUnit)=>some true) fun r=>some r)
def s26:FSpec:=mkS c9w d1c fun x=>zk x.1 x.2
def c9j:List MG:=[]
def d0L:Ret:=⟨[(.tmp 0,ubM)],[]⟩
def e11:Env:=⟨57,eqs,tt,gl,[(25,s25),(12,s12),(26,s26)],[],[],[],[]⟩
def d5P:Ann:=.seq lfA (.seq lfA (.seq lfA (.seq lfA (.seq (.joinR [(0,1),(17,44)] ⟨[],[]⟩ lfA) lfA))))
def bz:Option Bool:=l9 (Kw [(7,0)]) fun x=>l9 (lX x 0 (0,[(3,0,500)],[])) fun x_1=>l9 (l7 (D6 (aH (ieq x_1.2.1 0) (aH (ieq x_1.2.2.1 0) (aH (ieq x_1.2.2.2.1 0) (ieq x_1.2.2.2.2 0))))) (some (.inr
 false)) (l7 (D6 (ieq (o8 x_1.1.1) 1)) (some (.inr false)) (l9 (lat x_1.1.1 0) fun x=>l9 (lat [(3,0,500)] 0) fun(x_2:
 F8)=>l7 (D6 (aH (ieq x.1 x_2.1) (aH (ieq x.2.1 x_2.2.1) (ieq x.2.2 x_2.2.2)))) (some (.inr false)) (l9 (zk x_1.1.2.1 [0])
 fun x=>l7 (D6 x) (some (.inr false)) (some (.inl ())))))) fun o=>L8 o (fun(x_2:PUnit)=>l9
 (lat x.2.2 0) fun x_3=>l9 (I9 x.2.2 (toN 0)) fun x_4=>l9 (lX (x.1,x.2.1,S9 x.2.2 (toN 0) (x_4.1,
 x_4.2.1,x_4.2.2.1,x_4.2.2.2.1,[])) 0 (0,[(3,0,500)],[])) fun x=>some (aH (ieq x.2.1 10) (aH (ieq x.2.2.1 (-1))
 (aH (ieq x.2.2.2.1 0) (ieq x.2.2.2.2 (-1)))))) fun r=>some r
def s11:FSpec:=mkS c9j d0L fun x=>bz
def AQ (a0:Int):Option Bool:=l7 (ile 97 a0) (some (ile a0 122)) (some false)
def FP (a0:Int):Option Bool:=l7 (ile 48 a0) (some (ile a0 57)) (some false)
def Ea (a0:Int):Option Bool:=l9 (AQ a0) fun x=>l7 x (some true) (l9 (FP a0) fun x=>
 l7 x (some true) (some (ieq a0 95)))
def lC:Option (List (List UInt8)):=some [[105,102],[116,104,101,110],[101,108,115,101],[111,114],[97,110,100],[110,
 111,116],[116,114,117,101],[102,97,108,115,101],[116,111,100,97,121],[115,104,97,114,101],[100,105,118],[114,111,117,110,
 100],[109,105,110],[109,97,120],[112,108,117,115],[109,111,110,116,104,115],[100,97,121,115],[121,101,97,114,115],[121,
 101,97,114],[109,111,110,116,104],[116,97,98],[98,97,110,100],[99,111,117,110,116],[115,117,109],[97,108,108],[97,110,
 121],[109,111,115,116],[101,110,117,109],[116,97,98,108,101],[114,111,119],[115,99,111,112,101],[109,101,109,98,101,114,
 115],[105,110,112,117,116],[100,101,102],[114,117,108,101],[111,102],[111,118,101,114],[112,114,105,111],[102,114,111,109],
 [116,111],[101,110,100],[119,104,101,110],[105,115],[115,114,99],[98,111,111,108],[105,110,116],[109,111,110,101,121],[114,
 97,116,101],[100,97,116,101],[100,111,119,110],[117,112],[122,101,114,111],[97,119,97,121],[104,97,108,102],[101,118,101,
 110]]
def Y3 (a0:List UInt8):Option Bool:=l9 (l7 (ieq (o8 a0) 0) (some (.inr false)) (l7 (ilt 16 (o8 a0)) (some
 (.inr false)) (l9 (sat a0 0) fun x=>l9 (AQ x) fun x=>l7 (D6 x) (some (.inr false)) (some (.inl
 ()))))) fun o=>L8 o (fun(x:PUnit)=>l9 (J9 (fun(x:Int)=>l7 (ilt x (o8 a0)) (l9 (sat a0 x) fun
 (x_1:Int)=>l9 (Ea x_1) fun x_2=>l7 (D6 x_2) (some (.rt false)) (some (.nx (x8 .i64 x 1)))) (some
 (.ex ()))) 0) fun o=>L8 o (fun(y:PUnit)=>l9 lC fun x=>l9 (J9 (fun
 (x_1:Int)=>l7 (ilt x_1 (o8 x)) (l9 (lat x x_1) fun x_2=>l9 (I9 x (toN x_1)) fun x=>l7 (seq x
 a0) (some (.rt false)) (some (.nx (x8 .i64 x_1 1)))) (some (.ex ()))) 0) fun o=>L8 o (fun(y:PUnit)
 =>some true) fun r=>some r) fun r=>some r) fun r=>some r
def bH (a0:L6) (a1:Int) (a2:Int) (a3:List UInt8):Option Bool:=l9 (J9 (fun(x:Int)=>l7 (ilt x (o8 a0.1))
 (l7 (ilt 1 a1) (l9 (lat a0.1 x) fun x_1=>l7 (seq x_1.1 a3) (some (.rt true)) (some (.nx (x8 .i64 x 1)))) (l7
 (ilt x a2) (l9 (lat a0.1 x) fun x_1=>l7 (seq x_1.1 a3) (some (.rt true)) (some (.nx (x8 .i64 x 1)))) (some (.nx
 (x8 .i64 x 1))))) (some (.ex ()))) 0) fun o=>L8 o (fun(y:PUnit)=>l9 (J9 (fun(x:Int)=>l7
 (ilt x (o8 a0.2.1)) (l7 (ilt 2 a1) (l9 (lat a0.2.1 x) fun x_1=>l7 (seq x_1.1 a3) (some (.rt true)) (some (.nx (x8
 .i64 x 1)))) (l7 (ieq a1 2) (l7 (ilt x a2) (l9 (lat a0.2.1 x) fun x_1=>l7 (seq x_1.1 a3) (some (.rt true)) (some
 (.nx (x8 .i64 x 1)))) (some (.nx (x8 .i64 x 1)))) (some (.nx (x8 .i64 x 1))))) (some (.ex ()))) 0) fun
 (o:PUnit⊕Bool)=>L8 o (fun(y:PUnit)=>l9 (J9 (fun(x:Int)=>l7 (ilt x (o8 a0.2.2)) (l7 (ieq a1 3) (l7 (ilt x a2)
 (l9 (lat a0.2.2 x) fun x_1=>l7 (seq x_1.1 a3) (some (.rt true)) (some (.nx (x8 .i64 x 1)))) (some (.nx (x8
 .i64 x 1)))) (some (.nx (x8 .i64 x 1)))) (some (.ex ()))) 0) fun o=>L8 o (fun(y:PUnit)=>some
 false) fun r=>some r) fun r=>some r) fun r=>some r
def sF (a0:L6) (a1:Int):Option E8:=l9 (lat a0.1 a1) fun x=>l9 (Y3 x.1) fun(x_1:
 Bool)=>l7 (D6 x_1) (some (2,1,a1,0)) (l9 (bH a0 1 a1 x.1) fun x_2=>l7 x_2 (some (7,1,a1,0)) (l7 (ieq
 (o8 x.2) 0) (some (5,1,a1,0)) (l7 (ilt 16 (o8 x.2)) (some (4,1,a1,116)) (l9 (J9 (fun(x_3:E8×E8×Int)=>
 l7 (ilt x_3.2.2 (o8 x.2)) (l9 (lat x.2 x_3.2.2) fun x_4=>l9 (Y3 x_4) fun x_5=>l7 (D6 x_5)
 (some (.rt (2,x_3.2.1.2.1,x_3.2.1.2.2.1,x8 .i64 100 x_3.2.2))) (l9 (J9 (fun(x_6:E8×E8×Int)=>l7 (ilt
 x_6.2.2 x_3.2.2) (l9 (lat x.2 x_6.2.2) fun x_7=>l9 (lat x.2 x_3.2.2) fun x=>l7 (seq x_7 x) (some (.rt
 (7,x_6.2.1.2))) (some (.nx (x_6.1,x_6.2.1,x8 .i64 x_6.2.2 1)))) (some (.ex (x_6.1,x_6.2.1)))) (x_3.1,(x_3.2.1.1,x_3.2.1.2.1,
 x_3.2.1.2.2.1,x8 .i64 100 x_3.2.2),0)) fun o=>L8 o (fun(y:E8×E8)=>some
 (.nx (y.1,y.2,x8 .i64 x_3.2.2 1))) fun r=>some (.rt r))) (some (.ex x_3.1))) ((0,0,0,0),(0,1,a1,0),0))
 fun o=>L8 o (fun(y:E8)=>some (0,0,0,0)) fun r=>some r))))
def X6 (a0:F6) (a1:List bK):Option Bool:=l7 (ieq a0.1 6) (l7 (ile 0 a0.2) (some (ilt a0.2 (o8 a1))) (some false))
 (l7 (ile 1 a0.1) (l7 (ile a0.1 5) (some (ieq a0.2 0)) (some false)) (some false))
def pF (a0:F6):Option Bool:=l7 (ile 0 a0.1) (l7 (ile a0.1 a0.2) (some (ile a0.2 109573)) (some false)) (some false)
def fU (a0:F6) (a1:List bK):Option F6:=l9 (X6 a0 a1) fun x=>l7 (D6 x) (some (0,-1)) (l7
 (ieq a0.1 1) (some (0,1)) (l7 (ieq a0.1 2) (some (-1000000000000,1000000000000)) (l7 (ieq a0.1 3) (some (-1000000000000000,
 1000000000000000)) (l7 (ieq a0.1 4) (some (-1000000000,1000000000)) (l7 (ieq a0.1 5) (some (0,109572)) (l9 (lat a1 a0.2) fun x
 =>some (0,G8 .i64 (o8 x.2) 1)))))))
def zM (a0:Int) (a1:F6) (a2:List bK):Option Bool:=l9 (fU a1 a2) fun x=>l7 (ile x.1 a0) (some (ile a0
 x.2)) (some false)
def AU (a0:uw) (a1:V8) (a2:List bK):Option Bool:=l9 (l9 (pF a0.1) fun x=>l7 (D6 x) (some
 (.inr true)) (l7 (ieq a0.1.1 a0.1.2) (some (.inr true)) (l7 (ile a0.2.2.1 a0.2.1) (some (.inr true)) (some (.inl ())))))
 fun o=>L8 o (fun(x:PUnit)=>l9 (zM a0.2.1 a1.2.1 a2) fun x=>l7 (D6 x) (some true) (l9 (zM
 (G8 .i64 a0.2.2.1 1) a1.2.1 a2) fun x=>l7 (D6 x) (some true) (l9 (zM a0.2.2.2 a1.2.2.1 a2) fun x=>some
 (D6 x)))) fun r=>some r
def rZ (a0:F6) (a1:F6):Option (F6×Bool):=l9 (pF a0) fun x=>l7 (D6 x) (some ((0,0),
 false)) (l9 (pF a1) fun x=>l7 (D6 x) (some ((0,0),false)) (l7 (ile (jf a0.2 a1.2) (fO a0.1 a1.1)) (some ((0,0),
 false)) (some ((fO a0.1 a1.1,jf a0.2 a1.2),true))))
def vk (a0:uw) (a1:uw):Option Bool:=l9 (rZ a0.1 a1.1) fun x=>l7 x.2 (some (ilt (fO
 a0.2.1 a1.2.1) (jf a0.2.2.1 a1.2.2.1))) (some false)
def vg (a0:V8) (a1:List bK):Option F6:=l7 (ilt 64 (o8 a0.2.2.2)) (some (64,4)) (l9 (l9 (X6
 a0.2.1 a1) fun x=>l7 (D6 x) (some (.inr (-1,8))) (l9 (X6 a0.2.2.1 a1) fun x=>l7 (D6 x) (some
 (.inr (-1,8))) (some (.inl ())))) fun o=>L8 o (fun(x:PUnit)=>l9 (J9 (fun(x:Int)=>l7 (ilt x
 (o8 a0.2.2.2)) (l9 (lat a0.2.2.2 x) fun x_1=>l9 (AU x_1 a0 a1) fun x_2=>l7 x_2 (some (.rt (x,3)))
 (l9 (J9 (fun(x_3:Int)=>l7 (ilt x_3 x) (l9 (lat a0.2.2.2 x_3) fun x_4=>l9 (lat a0.2.2.2 x) fun x_5=>l9
 (vk x_4 x_5) fun x_6=>l7 x_6 (some (.rt (x,11))) (some (.nx (x8 .i64 x_3 1)))) (some (.ex ())))
 0) fun o=>L8 o (fun(y:PUnit)=>some (.nx (x8 .i64 x 1))) fun r=>some (.rt r))) (some (.ex
 ()))) 0) fun o=>L8 o (fun(y:PUnit)=>some (0,0)) fun r=>some r) fun r=>some r)
def qF (a0:L6) (a1:Int):Option E8:=l9 (lat a0.2.1 a1) fun x=>l9 (Y3 x.1) fun(x_1:
 Bool)=>l7 (D6 x_1) (some (2,2,a1,0)) (l9 (bH a0 2 a1 x.1) fun x_2=>l7 x_2 (some (7,2,a1,0)) (l9
 (vg x a0.1) fun x=>l7 (ieq x.2 0) (some (0,0,0,0)) (l7 (ile 0 x.1) (some (x.2,2,a1,x8 .i64 100 x.1))
 (some (x.2,2,a1,0)))))
def lD (a0:List bi) (a1:Int) (a2:List UInt8):Option Bool:=l9 (J9 (fun(x:Int)=>l7 (ilt x a1) (l7 (ilt x
 (o8 a0)) (l9 (lat a0 x) fun x_1=>l7 (seq x_1.1 a2) (some (.rt true)) (some (.nx (x8 .i64 x 1)))) (some (.ex
 ()))) (some (.ex ()))) 0) fun o=>L8 o (fun(y:PUnit)=>some false) fun r=>some r
def qA (a0:L6) (a1:Int):Option E8:=l9 (lat a0.2.2 a1) fun x=>l9 (J9 (fun(x_1:E8×
 Int)=>l7 (ilt x_1.2 (o8 x.2.2.1)) (l9 (lat x.2.2.1 x_1.2) fun x_2=>l9 (Y3 x_2.1) fun x_3=>l7
 (D6 x_3) (l7 (D6 (ieq 2 0)) (some (.rt (2,3,a1,x8 .i64 100 x_1.2))) (some (.nx (x_1.1,x8 .i64 x_1.2 1)))) (l9
 (lat x.2.2.1 x_1.2) fun x_4=>l9 (lD x.2.2.1 x_1.2 x_4.1) fun x_5=>l7 x_5 (l7 (D6 (ieq 7 0)) (some
 (.rt (7,3,a1,x8 .i64 100 x_1.2))) (some (.nx (x_1.1,x8 .i64 x_1.2 1)))) (l9 (lat x.2.2.1 x_1.2) fun x=>
 l9 (X6 x.2 a0.1) fun x=>l7 (D6 x) (l7 (D6 (ieq 8 0)) (some (.rt (8,3,a1,x8 .i64 100 x_1.2)))
 (some (.nx (x_1.1,x8 .i64 x_1.2 1)))) (l7 (D6 (ieq 0 0)) (some (.rt (0,3,a1,x8 .i64 100 x_1.2))) (some (.nx
 (x_1.1,x8 .i64 x_1.2 1))))))) (some (.ex x_1.1))) ((0,0,0,0),0)) fun o=>L8 o (fun(y:E8)
 =>l9 (J9 (fun(x_1:E8×Int)=>l7 (ilt x_1.2 (o8 x.2.2.2.1)) (l9 (l9 (lat x.2.2.2.1 x_1.2) fun x_2=>l9
 (Y3 x_2.1) fun x_3=>l7 (D6 x_3) (some (2,3,a1,x8 .i64 200 x_1.2)) (l9 (lat x.2.2.2.1 x_1.2) fun(x_4:
 bi)=>l9 (lD x.2.2.1 (o8 x.2.2.1) x_4.1) fun x_5=>l7 x_5 (some (7,3,a1,x8 .i64 200 x_1.2)) (l9
 (lat x.2.2.2.1 x_1.2) fun x_6=>l9 (lD x.2.2.2.1 x_1.2 x_6.1) fun x_7=>l7 x_7 (some (7,3,a1,x8
 .i64 200 x_1.2)) (l9 (lat x.2.2.2.1 x_1.2) fun x=>l9 (X6 x.2 a0.1) fun x=>l7 (D6 x) (some (8,
 3,a1,x8 .i64 200 x_1.2)) (some (0,3,a1,x8 .i64 200 x_1.2)))))) fun x=>l7 (D6 (ieq x.1 0)) (some (.rt
 x)) (some (.nx (x_1.1,x8 .i64 x_1.2 1)))) (some (.ex x_1.1))) (y,0)) fun o=>L8 o (fun(y:
 E8)=>some (0,0,0,0)) fun r=>some r) fun r=>some r
def sH (a0:List UInt8):Option Bool:=l9 (J9 (fun(x:Int)=>l7 (ilt x (o8 a0)) (l9 (sat a0 x) fun x_1=>
 l7 (ilt x_1 32) (some (.rt false)) (l9 (sat a0 x) fun x_2=>l7 (ilt 126 x_2) (some (.rt false)) (l9 (sat a0 x) fun(x_3:
 Int)=>l7 (ieq x_3 34) (some (.rt false)) (some (.nx (x8 .i64 x 1)))))) (some (.ex ()))) 0) fun o=>
 L8 o (fun(y:PUnit)=>some (ile (o8 a0) 64)) fun r=>some r
def qC (a0:List bi):Option (List F6):=l9 (N8 (fun(x:List F6×Int)=>l7 (ilt x.2 (o8 a0)) (l9 (lat a0
 x.2) fun x_1=>l9 (X9 x.1 [x_1.2]) fun x_2=>some (.inl (x_2,x8 .i64 x.2 1))) (some (.inr x.1)))
 ([],0)) fun y=>some y
def sD (a0:L6) (a1:Int):Option I8:=l9 (l7 (ilt a1 0) (some (.inr ([],[],[],[],[],false))) (l7 (ile
 (o8 a0.2.2) a1) (some (.inr ([],[],[],[],[],false))) (some (.inl ([],[],[],[],[],false))))) fun o=>
 L8 o (fun(x:I8)=>l9 (lat a0.2.2 a1) fun x=>l9 (qC x.2.2.1) fun x_1=>l9
 (qC x.2.2.2.1) fun x_2=>l7 (ile 0 x.2.1) (l7 (ilt x.2.1 (o8 a0.2.2)) (l9 (lat a0.2.2 x.2.1) fun(x:
 A8)=>l9 (qC x.2.2.2.1) fun x=>some (a0.1,a0.2.1,x_1,x_2,x,true)) (some (a0.1,a0.2.1,x_1,x_2,[],
 false))) (some (a0.1,a0.2.1,x_1,x_2,[],false))) fun r=>some r
def aU (a0:Int):Option Int:=l9 (l7 (ile 1 a0) (l7 (ile a0 9) (some (.inr 0)) (l7 (ile 35 a0) (l7 (ile a0 39) (some
 (.inr 0)) (some (.inl ()))) (some (.inl ())))) (l7 (ile 35 a0) (l7 (ile a0 39) (some (.inr 0)) (some (.inl
 ()))) (some (.inl ())))) fun o=>L8 o (fun(x:PUnit)=>l7 (ieq a0 10) (l7 (ieq a0 10) (some 1) (l7
 (ieq a0 26) (some 3) (l7 (ile 11 a0) (l7 (ile a0 30) (some 2) (some (-1))) (some (-1))))) (l7 (ieq a0 25) (l7 (ieq a0 25) (some 1) (l7
 (ieq a0 26) (some 3) (l7 (ile 11 a0) (l7 (ile a0 30) (some 2) (some (-1))) (some (-1))))) (l7 (ieq a0 31) (l7 (ieq a0 31) (some 1) (l7
 (ieq a0 26) (some 3) (l7 (ile 11 a0) (l7 (ile a0 30) (some 2) (some (-1))) (some (-1))))) (l7 (ieq a0 32) (l7 (ieq a0 32) (some 1) (l7
 (ieq a0 26) (some 3) (l7 (ile 11 a0) (l7 (ile a0 30) (some 2) (some (-1))) (some (-1))))) (l7 (ieq a0 33) (l7 (ieq a0 33) (some 1) (l7
 (ieq a0 26) (some 3) (l7 (ile 11 a0) (l7 (ile a0 30) (some 2) (some (-1))) (some (-1))))) (l7 (ieq a0 34) (some 1) (l7 (ieq a0 26) (some
 3) (l7 (ile 11 a0) (l7 (ile a0 30) (some 2) (some (-1))) (some (-1)))))))))) fun r=>some r
def jK (a0:List F6):Option (List Int×F6):=l7 (ilt 48 (o8 a0)) (some ([],0,4)) (l7 (ieq (o8 a0) 0) (some ([],0,
 5)) (l9 (J9 (fun(x:List Int×List Int×Int)=>l7 (ilt x.2.2 (o8 a0)) (l9 (lat a0 x.2.2) fun x_1=>l9 (aU
 x_1.1) fun x_2=>l7 (ilt x_2 0) (some (.rt ([],x.2.2,2))) (l7 (ilt (o8 x.2.1) x_2) (some (.rt ([],x.2.2,5))) (l7 (ilt 0
 x_2) (l9 (lat x.2.1 (G8 .i64 (o8 x.2.1) x_2)) fun x_3=>l9 (I9 x.2.1 (toN (G8 .i64 (o8 x.2.1) x_2))) fun(x_4
 :Int)=>l7 (jm 0 (G8 .i64 (o8 x.2.1) x_2) (o8 x.2.1)) (l9 (X9 (gu x.2.1 (toN 0) (toN (G8 .i64 (o8 x.2.1)
 x_2))) [x_4]) fun x_5=>l9 (X9 x.1 [x_4]) fun x_6=>l7 (ilt 12 (o8 x_5)) (some (.rt ([],x.2.2,16))) (some
 (.nx (x_6,x_5,x8 .i64 x.2.2 1)))) none) (l9 (X9 x.2.1 [x.2.2]) fun x_3=>l9 (X9 x.1 [x.2.2]) fun x_4=>l7 (ilt 12 (o8 x_3)) (some (.rt ([],x.2.2,16))) (some (.nx (x_4,x_3,x8 .i64 x.2.2 1))))))) (some (.ex (x.1,
 x.2.1)))) ([],[],0)) fun o=>L8 o (fun(y:List Int×List Int)=>l7 (ilt 1 (o8 y.2)) (some
 ([],o8 a0,4)) (some (y.1,0,0))) fun r=>some r))
def az (a0:Int):Option Bool:=l9 (l7 (ile 1 a0) (l7 (ile a0 8) (some (.inr true)) (l7 (ile 36 a0) (l7 (ile a0 39)
 (some (.inr true)) (some (.inl ()))) (some (.inl ())))) (l7 (ile 36 a0) (l7 (ile a0 39) (some (.inr true)) (some
 (.inl ()))) (some (.inl ())))) fun o=>L8 o (fun(x:PUnit)=>l7 (ieq a0 14) (some true) (l7 (ieq
 a0 15) (some true) (l7 (ieq a0 16) (some true) (l7 (ieq a0 33) (some true) (some (ieq a0 34)))))) fun r=>some r
def bD (a0:Int):Option F6:=some (a0,0)
def jW (a0:F6) (a1:I8):Option Bool:=l9 (l7 (ieq a0.1 1) (some (ieq a0.1 1)) (l7 (ieq a0.1 2) (some (ieq a0.1 2))
 (l7 (ieq a0.1 3) (some (ieq a0.1 3)) (l7 (ieq a0.1 4) (some (ieq a0.1 4)) (some (ieq a0.1 5)))))) fun x=>l7 x (l9 (bD
 a0.1) fun x=>l9 (fU x a1.1) fun x=>l7 (ile x.1 a0.2) (some (ile a0.2 x.2)) (some false)) (l9 (l7 (ieq
 a0.1 14) (some (ieq a0.1 14)) (l7 (ieq a0.1 15) (some (ieq a0.1 15)) (some (ieq a0.1 16)))) fun x=>l7 x (l7 (ile 0 a0.2) (some
 (ile a0.2 5)) (some false)) (l7 (ieq a0.1 34) (l7 (ile 0 a0.2) (some (ile (X5 a0.2 8) 5)) (some false)) (l7 (ieq a0.1 6) (some (ile 0
 a0.2)) (some true))))
def lN (a0:F6) (a1:I8):Option Bool:=l7 (ieq a0.1 6) (l7 (ilt (X4 .i64 a0.2 16) (o8 a1.1)) (l9 (lat
 a1.1 (X4 .i64 a0.2 16)) fun x=>some (ilt (X5 a0.2 16) (o8 x.2))) (some false)) (l7 (ieq a0.1 7) (l7 (ile 0 a0.2) (some
 (ilt a0.2 (o8 a1.2.2.1))) (some false)) (l7 (ieq a0.1 8) (l7 (ile 0 a0.2) (some (ilt a0.2 (o8 a1.2.2.2.1))) (some false)) (l7 (ieq a0.1
 33) (l7 (ile 0 a0.2) (some (ilt a0.2 (o8 a1.2.1))) (some false)) (l7 (ieq a0.1 34) (some (ilt (X4 .i64 a0.2 8) (o8 a1.2.1)))
 (l7 (ieq a0.1 35) (some a1.2.2.2.2.2) (l9 (l7 (ieq a0.1 36) (some (ieq a0.1 36)) (l7 (ieq a0.1 37) (some (ieq a0.1 37)) (l7 (ieq a0.1
 38) (some (ieq a0.1 38)) (some (ieq a0.1 39))))) fun x=>l7 x (l7 a1.2.2.2.2.2 (l7 (ile 0 a0.2) (some (ilt a0.2 (o8
 a1.2.2.2.2.1))) (some false)) (some false)) (some true)))))))
def qo (a0:Int):Option Bool:=l7 (ieq a0 2) (some true) (l7 (ieq a0 3) (some true) (some (ieq a0 4)))
def kL (a0:Int):Option Bool:=l9 (qo a0) fun x=>l7 x (some true) (some (ieq a0 5))
def eU (a0:F6) (a1:I8):Option (F6×Bool):=l9 (l7 (ieq a0.1 6) (some (6,X4 .i64 a0.2 16)) (l7 (ieq
 a0.1 7) (l9 (lat a1.2.2.1 a0.2) fun x=>some x) (l7 (ieq a0.1 8) (l9 (lat a1.2.2.2.1 a0.2) fun x=>some x) (l7 (ieq
 a0.1 9) (l9 (bD 5) fun x=>some x) (l7 (ieq a0.1 35) (l9 (bD 2) fun x=>some x) (l9 (l7 (ieq
 a0.1 36) (some (ieq a0.1 36)) (l7 (ieq a0.1 37) (some (ieq a0.1 37)) (l7 (ieq a0.1 38) (some (ieq a0.1 38)) (some (ieq a0.1 39))))) fun(x:
 Bool)=>l7 x (l9 (lat a1.2.2.2.2.1 a0.2) fun x=>some x) (l9 (bD a0.1) fun x=>some x))))))) fun x
 =>l9 (X6 x a1.1) fun x_1=>l7 (ieq a0.1 36) (l7 x_1 (l7 (ieq x.1 2) (some (x,true)) (some (x,ieq x.1 3))) (some
 (x,false))) (l7 (ieq a0.1 37) (l7 (ieq a0.1 37) (l7 x_1 (some (x,ieq x.1 1)) (some (x,false))) (l7 (ieq a0.1 39) (l7 x_1 (l9
 (kL x.1) fun x_2=>some (x,x_2)) (some (x,false))) (some (x,x_1)))) (l7 (ieq a0.1 38) (l7 x_1 (some (x,ieq x.1 1))
 (some (x,false))) (l7 (ieq a0.1 39) (l7 x_1 (l9 (kL x.1) fun x_2=>some (x,x_2)) (some (x,false))) (some (x,
 x_1)))))
def mF (a0:F6) (a1:F6) (a2:I8):Option (F6×Bool):=l7 (ieq a0.1 10) (l9 (qo a1.1) fun x
 =>some (a1,x)) (l7 (ieq a0.1 25) (some (a1,ieq a1.1 1)) (l9 (l7 (ieq a0.1 31) (some (ieq a0.1 31)) (some (ieq a0.1 32))) fun x
 =>l7 x (l9 (bD 2) fun x=>some (x,ieq a1.1 5)) (l7 (ieq a0.1 33) (l9 (lat a2.2.1 a0.2) fun x=>l9
 (X6 x.2.1 a2.1) fun x_1=>l7 x_1 (l9 (X6 x.2.2.1 a2.1) fun x_2=>l7 x_2 (some (x.2.2.1,aH
 (ieq a1.1 x.2.1.1) (ieq a1.2 x.2.1.2))) (some (x.2.2.1,false))) (some (x.2.2.1,false))) (l9 (lat a2.2.1 (X4 .i64 a0.2 8)) fun(x:
 V8)=>l7 (ieq a1.1 3) (l9 (bD 3) fun x_1=>l7 (aH (ieq x.2.1.1 x_1.1) (ieq x.2.1.2 x_1.2)) (l9 (bD 4)
 fun x_2=>some (a1,aH (ieq x.2.2.1.1 x_2.1) (ieq x.2.2.1.2 x_2.2))) (some (a1,false))) (some (a1,false))))))
def JY (a0:Int) (a1:Int) (a2:Int):Option (F6×Bool):=l7 (ieq a0 13) (l9 (bD a1) fun x=>l7 (ieq a2
 2) (l7 (ieq a1 2) (some (x,true)) (some (x,ieq a1 3))) (some (x,false))) (l7 (ieq a0 14) (l9 (bD a1) fun x=>l7
 (ieq a2 4) (l7 (ieq a1 3) (some (x,true)) (some (x,ieq a1 4))) (some (x,false))) (l7 (ieq a1 3) (l7 (ieq a2 3) (l9 (bD 4) fun
 (x:F6)=>some (x,true)) (l9 (bD a1) fun x=>l7 (ieq a2 2) (l7 (ieq a1 2) (some (x,true)) (some (x,ieq a1 3)))
 (some (x,false)))) (l9 (bD a1) fun x=>l7 (ieq a2 2) (l7 (ieq a1 2) (some (x,true)) (some (x,ieq a1 3))) (some (x,
 false)))))
def qm (a0:Int) (a1:F6) (a2:F6):Option (F6×Bool):=l9 (l9 (l7 (ieq a0 11) (some (ieq a0 11)) (some (ieq a0
 12))) fun x=>l7 x (l7 (aH (ieq a1.1 a2.1) (ieq a1.2 a2.2)) (l9 (qo a1.1) fun x=>some (.inr (a1,x)))
 (some (.inr (a1,false)))) (l9 (l7 (ieq a0 13) (some (ieq a0 13)) (l7 (ieq a0 14) (some (ieq a0 14)) (some (ieq a0 15)))) fun x
 =>l7 x (l9 (JY a0 a1.1 a2.1) fun x=>some (.inr x)) (l7 (ieq a0 16) (l7 (ieq a1.1 3) (some (.inr (a1,
 ieq a2.1 3))) (some (.inr (a1,false)))) (l9 (l7 (ieq a0 17) (some (ieq a0 17)) (some (ieq a0 18))) fun x=>l7 x (l7 (aH
 (ieq a1.1 a2.1) (ieq a1.2 a2.2)) (l9 (kL a1.1) fun x=>some (.inr (a1,x))) (some (.inr (a1,false)))) (l9 (l7
 (ieq a0 19) (some (ieq a0 19)) (some (ieq a0 20))) fun x=>l7 x (l9 (bD 1) fun x=>some (.inr (x,aH (ieq
 a1.1 a2.1) (ieq a1.2 a2.2)))) (l9 (l7 (ieq a0 21) (some (ieq a0 21)) (some (ieq a0 22))) fun x=>l7 x (l9 (bD 1) fun(x
 :F6)=>l7 (aH (ieq a1.1 a2.1) (ieq a1.2 a2.2)) (l9 (kL a1.1) fun x_1=>some (.inr (x,x_1))) (some (.inr (x,
 false)))) (l7 (ieq a0 23) (l7 (ieq a0 23) (l7 (ieq a1.1 1) (some (.inr (a1,ieq a2.1 1))) (some (.inr (a1,false)))) (l7 (ieq a0
 27) (l7 (ieq a0 27) (l7 (ieq a1.1 5) (some (.inr (a1,ieq a2.1 2))) (some (.inr (a1,false)))) (some (.inl (0,0)))) (l7 (ieq a0
 28) (l7 (ieq a1.1 5) (some (.inr (a1,ieq a2.1 2))) (some (.inr (a1,false)))) (some (.inl (0,0)))))) (l7 (ieq a0 24) (l7 (ieq
 a1.1 1) (some (.inr (a1,ieq a2.1 1))) (some (.inr (a1,false)))) (l7 (ieq a0 27) (l7 (ieq a0 27) (l7 (ieq a1.1 5) (some (.inr (a1,
 ieq a2.1 2))) (some (.inr (a1,false)))) (some (.inl (0,0)))) (l7 (ieq a0 28) (l7 (ieq a1.1 5) (some (.inr (a1,ieq a2.1 2))) (some
 (.inr (a1,false)))) (some (.inl (0,0))))))))))))) fun o=>L8 o (fun(x:F6)=>l9 (bD 2) fun(x:
 F6)=>l7 (ieq a1.1 5) (some (x,ieq a2.1 5)) (some (x,false))) fun r=>some r
def ql (a0:F6) (a1:List F6) (a2:I8):Option (F6×Int):=l9 (l7 (D6 (ieq a0.2 0)) (l9 (az
 a0.1) fun x=>l7 (D6 x) (some (.inr ((0,0),2))) (some (.inl (0,0)))) (some (.inl (0,0)))) fun o
 =>L8 o (fun(x:F6)=>l9 (jW a0 a2) fun x=>l7 (D6 x) (some ((0,0),3)) (l9 (lN a0 a2) fun(x:
 Bool)=>l7 (D6 x) (some ((0,0),6)) (l7 (ieq (o8 a1) 0) (l9 (eU a0 a2) fun x=>l7 (D6 x.2) (some ((0,
 0),8)) (some (x.1,0))) (l7 (ieq (o8 a1) 1) (l9 (lat a1 0) fun x=>l9 (mF a0 x a2) fun x=>l7
 (D6 x.2) (some ((0,0),8)) (some (x.1,0))) (l7 (ieq (o8 a1) 2) (l9 (lat a1 0) fun x=>l9 (lat a1 1) fun x_1=>
 l9 (qm a0.1 x x_1) fun x=>l7 (D6 x.2) (some ((0,0),8)) (some (x.1,0))) (l9 (lat a1 1) fun x=>
 l9 (lat a1 0) fun x_1=>l7 (ieq x_1.1 1) (l9 (lat a1 1) fun x_2=>l9 (lat a1 2) fun x_3=>l7 (D6
 (aH (ieq x_2.1 x_3.1) (ieq x_2.2 x_3.2))) (some ((0,0),8)) (some (x,0))) (l7 (D6 false) (some ((0,0),8)) (some (x,0))))))))) fun(r:
 F6×Int)=>some r
def yI (a0:List F6) (a1:I8):Option (F6×F6):=l9 (jK a0) fun x=>l7 (D6
 (ieq x.2.2 0)) (some ((0,0),x.2)) (l9 (J9 (fun(x:F6×List F6×Int)=>l7 (ilt x.2.2 (o8 a0)) (l9 (lat a0 x.2.2) fun(x_1:
 F6)=>l9 (aU x_1.1) fun x_2=>l9 (lat a0 x.2.2) fun x_3=>l7 (jm (G8 .i64 (o8 x.2.1) x_2)
 (o8 x.2.1) (o8 x.2.1)) (l9 (ql x_3 (gu x.2.1 (toN (G8 .i64 (o8 x.2.1) x_2)) (toN (o8 x.2.1))) a1) fun x_4=>l7 (D6 (ieq x_4.2 0)) (some (.rt ((0,0),x.2.2,x_4.2))) (l7 (jm 0 (G8 .i64 (o8 x.2.1) x_2) (o8 x.2.1)) (l9
 (X9 (gu x.2.1 (toN 0) (toN (G8 .i64 (o8 x.2.1) x_2))) [x_4.1]) fun x_5=>some (.nx (x.1,x_5,x8 .i64
 x.2.2 1))) none)) none) (some (.ex (x.1,x.2.1)))) ((0,0),[],0)) fun o=>L8 o (fun(y:F6×List
 F6)=>l9 (lat y.2 0) fun x=>l9 (I9 y.2 (toN 0)) fun x=>some (x,0,0)) fun r=>some r)
def jL (a0:List F6) (a1:I8) (a2:F6):Option Int:=l9 (yI a0 a1) fun x=>l7 (D6
 (ieq x.2.2 0)) (some x.2.2) (l7 (D6 (aH (ieq x.1.1 a2.1) (ieq x.1.2 a2.2))) (some 8) (some 0))
def sJ (a0:L6) (a1:Int) (a2:Int):Option Int:=l9 (lat a0.2.2 a1) fun x=>l9 (lat x.2.2.2.2 a2) fun(x_1:
 X0)=>l9 (Y3 x_1.1) fun x_2=>l7 (D6 x_2) (some 2) (l9 (J9 (fun(x_3:F6)=>l7 (ilt x_3.2 a2)
 (l9 (lat x.2.2.2.2 x_3.2) fun x_4=>l7 (seq x_4.1 x_1.1) (some (.rt 7)) (l9 (lat x.2.2.2.2 x_3.2) fun x=>l7
 (ieq x.2.1 x_1.2.1) (some (.nx (x8 .i64 x_3.1 1,x8 .i64 x_3.2 1))) (some (.nx (x_3.1,x8 .i64 x_3.2 1))))) (some
 (.ex x_3.1))) (0,0)) fun o=>L8 o (fun(y:Int)=>l9 (l7 (ilt x_1.2.1 0) (some (.inr 6)) (l7 (ile (o8 x.2.2.2.1)
 x_1.2.1) (some (.inr 6)) (some (.inl ())))) fun o=>L8 o (fun(x_3:PUnit)=>l9 (l7 (D6 (ieq x_1.2.2.1
 (-1))) (l7 (ilt x_1.2.2.1 0) (some (.inr 9)) (l7 (ile a2 x_1.2.2.1) (some (.inr 9)) (l9 (lat x.2.2.2.2 x_1.2.2.1) fun x=>
 l7 (D6 (ieq x.2.1 x_1.2.1)) (some (.inr 9)) (some (.inl ()))))) (some (.inl ()))) fun o=>L8 o (fun
 (x_4:PUnit)=>l9 (l7 (ilt x_1.2.2.2.1 0) (some (.inr 3)) (l7 (ilt 9 x_1.2.2.2.1) (some (.inr 3)) (l9 (pF x_1.2.2.2.2.1)
 fun x=>l7 (D6 x) (some (.inr 3)) (l7 (ieq x_1.2.2.2.2.1.1 x_1.2.2.2.2.1.2) (some (.inr 3)) (some (.inl ()))))))
 fun o=>L8 o (fun(x_5:PUnit)=>l7 (ile 8 y) (some 4) (l9 (sH x_1.2.2.2.2.2.2.2) fun x_6=>l7
 (D6 x_6) (some 2) (l9 (sD a0 a1) fun x_7=>l7 (ilt 0 (o8 x_1.2.2.2.2.2.1)) (l9 (jL
 x_1.2.2.2.2.2.1 x_7 (1,0)) fun x_8=>l7 (D6 (ieq x_8 0)) (some x_8) (l9 (lat x.2.2.2.1 x_1.2.1) fun x=>l9
 (jL x_1.2.2.2.2.2.2.1 x_7 x.2) fun x=>some x)) (l9 (lat x.2.2.2.1 x_1.2.1) fun x=>l9 (jL
 x_1.2.2.2.2.2.2.1 x_7 x.2) fun x=>some x)))) fun r=>some r) fun r=>some r) fun r=>some r) fun r=>
 some r)
def xG (a0:A8) (a1:Int):Option Bool:=l7 (ile 0 a1) (some (ilt a1 (o8 a0.2.2.2.1))) (some false)
def iR (a0:List Int) (a1:Int):Option (List Int):=l9 (N8 (fun(x:List Int×Bool×Int)=>l7 (ilt x.2.2 (o8 a0)) (l7
 (D6 x.2.1) (l9 (lat a0 x.2.2) fun x_1=>l7 (ile a1 x_1) (l9 (lat a0 x.2.2) fun x_2=>l7 (ilt a1 x_2) (l9 (X9 x.1
 [a1]) fun x_3=>l9 (lat a0 x.2.2) fun x_4=>l9 (X9 x_3 [x_4]) fun x_5=>some (.inl (x_5,true,x8
 .i64 x.2.2 1))) (l9 (lat a0 x.2.2) fun x_3=>l9 (X9 x.1 [x_3]) fun x_4=>some (.inl (x_4,true,x8
 .i64 x.2.2 1)))) (l9 (lat a0 x.2.2) fun x_2=>l9 (X9 x.1 [x_2]) fun x_3=>some (.inl (x_3,x.2.1,x8
 .i64 x.2.2 1)))) (l9 (lat a0 x.2.2) fun x_1=>l9 (X9 x.1 [x_1]) fun x_2=>some (.inl (x_2,x.2.1,x8
 .i64 x.2.2 1)))) (some (.inr (x.1,x.2.1)))) ([],false,0)) fun y=>l7 (D6 y.2) (l9 (X9 y.1 [a1]) fun(x:
 List Int)=>some x) (some y.1)
def dW (a0:List F6):Option Z5:=l9 (N8 (fun(x:List Int×List Int×List Int×Int)=>l7 (ilt x.2.2.2
 (o8 a0)) (l9 (lat a0 x.2.2.2) fun x_1=>l7 (ieq x_1.1 7) (l9 (lat a0 x.2.2.2) fun x_2=>l9 (iR x.1
 x_2.2) fun x_3=>l7 (ieq x_1.1 8) (l9 (lat a0 x.2.2.2) fun x_4=>l9 (iR x.2.1 x_4.2) fun x_5
 =>l7 (ile 36 x_1.1) (l7 (ile x_1.1 39) (l9 (lat a0 x.2.2.2) fun x_6=>l9 (iR x.2.2.1 x_6.2) fun x_7=>
 some (.inl (x_3,x_5,x_7,x8 .i64 x.2.2.2 1))) (some (.inl (x_3,x_5,x.2.2.1,x8 .i64 x.2.2.2 1)))) (some (.inl (x_3,
 x_5,x.2.2.1,x8 .i64 x.2.2.2 1)))) (l7 (ile 36 x_1.1) (l7 (ile x_1.1 39) (l9 (lat a0 x.2.2.2) fun x_4=>l9
 (iR x.2.2.1 x_4.2) fun x_5=>some (.inl (x_3,x.2.1,x_5,x8 .i64 x.2.2.2 1))) (some (.inl (x_3,x.2.1,
 x.2.2.1,x8 .i64 x.2.2.2 1)))) (some (.inl (x_3,x.2.1,x.2.2.1,x8 .i64 x.2.2.2 1))))) (l7 (ieq x_1.1 8) (l9 (lat a0
 x.2.2.2) fun x_2=>l9 (iR x.2.1 x_2.2) fun x_3=>l7 (ile 36 x_1.1) (l7 (ile x_1.1 39) (l9 (lat a0
 x.2.2.2) fun x_4=>l9 (iR x.2.2.1 x_4.2) fun x_5=>some (.inl (x.1,x_3,x_5,x8 .i64 x.2.2.2 1)))
 (some (.inl (x.1,x_3,x.2.2.1,x8 .i64 x.2.2.2 1)))) (some (.inl (x.1,x_3,x.2.2.1,x8 .i64 x.2.2.2 1)))) (l7 (ile 36
 x_1.1) (l7 (ile x_1.1 39) (l9 (lat a0 x.2.2.2) fun x_2=>l9 (iR x.2.2.1 x_2.2) fun x_3=>some (.inl
 (x.1,x.2.1,x_3,x8 .i64 x.2.2.2 1))) (some (.inl (x.1,x.2.1,x.2.2.1,x8 .i64 x.2.2.2 1)))) (some (.inl (x.1,x.2.1,
 x.2.2.1,x8 .i64 x.2.2.2 1)))))) (some (.inr (x.1,x.2.1,x.2.2.1)))) ([],[],[],0)) fun y=>some y
def dJ (a0:List Int) (a1:Int):Option (List Int):=l9 (N8 (fun(x:List Int×Bool×Int)=>l7 (ilt x.2.2 (o8 a0)) (l7
 (D6 x.2.1) (l9 (lat a0 x.2.2) fun x_1=>l7 (ile a1 x_1) (l9 (lat a0 x.2.2) fun x_2=>l7 (ilt a1 x_2) (l9 (X9 x.1
 [a1]) fun x_3=>l9 (lat a0 x.2.2) fun x_4=>l9 (X9 x_3 [x_4]) fun x_5=>some (.inl (x_5,true,x8
 .i64 x.2.2 1))) (l9 (lat a0 x.2.2) fun x_3=>l9 (X9 x.1 [x_3]) fun x_4=>some (.inl (x_4,true,x8
 .i64 x.2.2 1)))) (l9 (lat a0 x.2.2) fun x_2=>l9 (X9 x.1 [x_2]) fun x_3=>some (.inl (x_3,x.2.1,x8
 .i64 x.2.2 1)))) (l9 (lat a0 x.2.2) fun x_1=>l9 (X9 x.1 [x_1]) fun x_2=>some (.inl (x_2,x.2.1,x8
 .i64 x.2.2 1)))) (some (.inr (x.1,x.2.1)))) ([],false,0)) fun y=>l7 (D6 y.2) (l9 (X9 y.1 [a1]) fun(x:
 List Int)=>some x) (some y.1)
def qx (a0:A8) (a1:Int):Option (List Int):=l9 (xG a0 a1) fun x=>l7 (D6 x) (some []) (l9 (N8 (fun
 (x:List Int×Int)=>l7 (ilt x.2 (o8 a0.2.2.2.2)) (l9 (lat a0.2.2.2.2 x.2) fun x_1=>l7 (D6 (ieq x_1.2.1 a1)) (some
 (.inl (x.1,x8 .i64 x.2 1))) (l9 (lat a0.2.2.2.2 x.2) fun x_2=>l9 (dW x_2.2.2.2.2.2.1) fun(x_3:
 Z5)=>l9 (lat a0.2.2.2.2 x.2) fun x_4=>l9 (dW x_4.2.2.2.2.2.2.1) fun x_5=>l9
 (N8 (fun(x:List Int×Int)=>l7 (ilt x.2 (o8 x_3.2.1)) (l9 (lat x_3.2.1 x.2) fun x_6=>l9 (I9 x_3.2.1 (toN x.2)) fun
 (x_7:Int)=>l9 (xG a0 x_7) fun x_8=>l7 x_8 (l9 (lat x_3.2.1 x.2) fun x_9=>l9 (I9 x_3.2.1 (toN x.2)) fun
 (x_10:Int)=>l9 (dJ x.1 x_10) fun x_11=>some (.inl (x_11,x8 .i64 x.2 1))) (some (.inl (x.1,x8
 .i64 x.2 1)))) (some (.inr x.1))) (x.1,0)) fun y=>l9 (N8 (fun(x:List Int×Int)=>l7 (ilt x.2 (o8 x_5.2.1))
 (l9 (lat x_5.2.1 x.2) fun x_6=>l9 (I9 x_5.2.1 (toN x.2)) fun x_7=>l9 (xG a0 x_7) fun x_8=>l7 x_8
 (l9 (lat x_5.2.1 x.2) fun x_9=>l9 (I9 x_5.2.1 (toN x.2)) fun x_10=>l9 (dJ x.1 x_10) fun x_11=>
 some (.inl (x_11,x8 .i64 x.2 1))) (some (.inl (x.1,x8 .i64 x.2 1)))) (some (.inr x.1))) (y,0)) fun y=>
 some (.inl (y,x8 .i64 x.2 1)))) (some (.inr x.1))) ([],0)) fun y=>some y)
def iZ (a0:A8) (a1:Int):Option (List Int):=l9 (qx a0 a1) fun x=>l9 (N8 (fun(x:List Int
 ×Int)=>l7 (ilt x.2 (o8 a0.2.2.2.1)) (l9 (N8 (fun(x_1:List Int×Int)=>l7 (ilt x_1.2 (o8 x.1)) (l9 (lat x.1 x_1.2) fun(x:
 Int)=>l9 (qx a0 x) fun x=>l9 (N8 (fun(x_2:List Int×Int)=>l7 (ilt x_2.2 (o8 x)) (l9 (lat x x_2.2)
 fun x_3=>l9 (I9 x (toN x_2.2)) fun x=>l9 (dJ x_2.1 x) fun x=>some (.inl (x,x8 .i64
 x_2.2 1))) (some (.inr x_2.1))) (x_1.1,0)) fun y=>some (.inl (y,x8 .i64 x_1.2 1))) (some (.inr x_1.1))) (x.1,0))
 fun y=>some (.inl (y,x8 .i64 x.2 1))) (some (.inr x.1))) (x,0)) fun y=>some y
def qE (a0:L6) (a1:Int):Option E8:=l9 (lat a0.2.2 a1) fun x=>l9 (Y3 x.1) fun(x_1:
 Bool)=>l7 (D6 x_1) (some (2,3,a1,0)) (l9 (bH a0 3 a1 x.1) fun x_2=>l7 x_2 (some (7,3,a1,0)) (l9 (l7
 (D6 (ieq x.2.1 (-1))) (l7 (ilt x.2.1 0) (some (.inr (6,3,a1,0))) (l7 (ile a1 x.2.1) (some (.inr (6,3,a1,0))) (l9 (lat a0.2.2
 x.2.1) fun x=>l7 (D6 (ieq x.2.1 (-1))) (some (.inr (6,3,a1,0))) (some (.inl ((0,0,0,0),0,3,a1,0)))))) (some
 (.inl ((0,0,0,0),0,3,a1,0)))) fun o=>L8 o (fun(x_3:E8×E8)=>l7 (ilt
 12 (o8 x.2.2.1)) (some (4,x_3.2.2.1,x_3.2.2.2.1,112)) (l7 (ilt 12 (o8 x.2.2.2.1)) (some (4,x_3.2.2.1,x_3.2.2.2.1,212)) (l9
 (qA a0 a1) fun x_4=>l7 (D6 (ieq x_4.1 0)) (some x_4) (l9 (J9 (fun(x_5:E8×Int)=>l7 (ilt
 x_5.2 (o8 x.2.2.2.2)) (l9 (sJ a0 a1 x_5.2) fun x=>l7 (D6 (ieq x 0)) (some (.rt (x,3,a1,x8 .i64 300
 x_5.2))) (some (.nx (x_5.1,x8 .i64 x_5.2 1)))) (some (.ex x_5.1))) (x_3.1,0)) fun o=>L8 o (fun(y:
 E8)=>l9 (J9 (fun(x_5:E8×Int)=>l7 (ilt x_5.2 (o8 x.2.2.2.1)) (l9 (iZ x x_5.2) fun x
 =>l9 (J9 (fun(x_6:E8×Int)=>l7 (ilt x_6.2 (o8 x)) (l9 (lat x x_6.2) fun x=>l7 (ieq x x_5.2) (some (.rt
 (9,3,a1,x8 .i64 200 x_5.2))) (some (.nx (x_6.1,x8 .i64 x_6.2 1)))) (some (.ex x_6.1))) (x_5.1,0)) fun o=>L8 o (fun(y:E8)=>some (.nx (y,x8 .i64 x_5.2 1))) fun r=>some (.rt r)) (some (.ex
 x_5.1))) (y,0)) fun o=>L8 o (fun(y:E8)=>some (0,0,0,0)) fun r=>some r) fun(r:
 E8)=>some r)))) fun r=>some r))
def vG (a0:L6):Option E8:=l7 (ilt 8 (o8 a0.1)) (some (4,1,8,0)) (l9 (J9 (fun(x:E8×Int)=>l7
 (ilt x.2 (o8 a0.1)) (l9 (sF a0 x.2) fun x_1=>l7 (D6 (ieq x_1.1 0)) (some (.rt x_1)) (some (.nx (x.1,
 x8 .i64 x.2 1)))) (some (.ex x.1))) ((0,0,0,0),0)) fun o=>L8 o (fun(y:E8)=>l7 (ilt 8
 (o8 a0.2.1)) (some (4,2,8,0)) (l9 (J9 (fun(x:E8×Int)=>l7 (ilt x.2 (o8 a0.2.1)) (l9 (qF a0 x.2) fun
 (x_1:E8)=>l7 (D6 (ieq x_1.1 0)) (some (.rt x_1)) (some (.nx (x.1,x8 .i64 x.2 1)))) (some (.ex x.1))) (y,0)) fun
 (o:E8⊕E8)=>L8 o (fun(y:E8)=>l7 (ilt 4 (o8 a0.2.2)) (some (4,3,4,0)) (l9 (J9 (fun(x:E8×
 Int)=>l7 (ilt x.2 (o8 a0.2.2)) (l9 (qE a0 x.2) fun x_1=>l7 (D6 (ieq x_1.1 0)) (some (.rt x_1)) (some
 (.nx (x.1,x8 .i64 x.2 1)))) (some (.ex x.1))) (y,0)) fun o=>L8 o (fun(y:E8)=>some (0,
 0,0,0)) fun r=>some r)) fun r=>some r)) fun r=>some r)
def BJ (a0:L6):Option Bool:=l9 (vG a0) fun x=>some (ieq x.1 0)
def IU (a0:F8):Option F6:=some (a0.1,a0.2.1)
def qG (a0:L6) (a1:List bi) (a2:List F8):Option F6:=l7 (ilt (o8 a2) (o8 a1)) (some (o8 a2,5)) (l7 (ilt
 (o8 a1) (o8 a2)) (some (o8 a1,4)) (l9 (J9 (fun(x:Int)=>l7 (ilt x (o8 a2)) (l9 (lat a2 x) fun x_1=>l9
 (IU x_1) fun x_2=>l9 (lat a1 x) fun x_3=>l7 (D6 (aH (ieq x_2.1 x_3.2.1) (ieq x_2.2 x_3.2.2))) (some
 (.rt (x,8))) (l9 (lat a2 x) fun x_4=>l9 (lat a1 x) fun x_5=>l9 (zM x_4.2.2 x_5.2 a0.1) fun x_6
 =>l7 (D6 x_6) (some (.rt (x,3))) (some (.nx (x8 .i64 x 1))))) (some (.ex ()))) 0) fun o=>L8 o
 (fun(y:PUnit)=>some (0,0)) fun r=>some r))
def xk (a0:L6) (a1:Int):Option F6:=l9 (lat a0.2.2 a1) fun x=>l7 (ilt x.2.1 0) (some (-1,0)) (l7 (ile
 (o8 a0.2.2) x.2.1) (some (-1,0)) (some (x.2.1,8)))
def vH (a0:L6) (a1:Int) (a2:U8):Option F8:=l9 (l7 (ilt a1 0) (some (.inr (-1,-1,6))) (l7 (ile (o8
 a0.2.2) a1) (some (.inr (-1,-1,6))) (some (.inl ())))) fun o=>L8 o (fun(x:PUnit)=>l9 (l7 (ilt a2.1
 0) (some (.inr (-1,-1,3))) (l7 (ilt 109572 a2.1) (some (.inr (-1,-1,3))) (some (.inl ())))) fun o=>L8
 o (fun(x:PUnit)=>l9 (lat a0.2.2 a1) fun x=>l9 (qG a0 x.2.2.1 a2.2.1) fun x=>l7 (D6 (ieq x.2 0))
 (some (-1,x)) (l9 (xk a0 a1) fun x=>l7 (ilt x.2 (o8 a2.2.2)) (some (x.2,-1,4)) (l9 (J9 (fun(x_1:Int)=>
 l7 (ilt x_1 (o8 a2.2.2)) (l9 (lat a0.2.2 x.1) fun x=>l9 (lat a2.2.2 x_1) fun x_2=>l9 (qG a0
 x.2.2.1 x_2) fun x=>l7 (D6 (ieq x.2 0)) (some (.rt (x_1,x))) (some (.nx (x8 .i64 x_1 1)))) (some (.ex
 ()))) 0) fun o=>L8 o (fun(y:PUnit)=>some (0,0,0)) fun r=>some r))) fun r=>some r) fun
 (r:F8)=>some r
def lG (a0:L6) (a1:Int) (a2:U8) (a3:Int) (a4:Bool):Option E8:=l9 (BJ a0) fun x=>l7
 (D6 x) (some (1,-1,-1,-1)) (l9 (l7 (ilt a1 0) (some (.inr (6,-1,-1,-1))) (l7 (ile (o8 a0.2.2) a1) (some (.inr (6,-1,-1,
 -1))) (l7 a4 (l7 (ilt a3 0) (some (.inr (6,-1,-1,-1))) (l9 (lat a0.2.2 a1) fun x=>l7 (ile (o8 x.2.2.2.1) a3) (some
 (.inr (6,-1,-1,-1))) (some (.inl (0,0,0,0))))) (some (.inl (0,0,0,0)))))) fun o=>L8 o (fun(x:
 E8)=>l9 (vH a0 a1 a2) fun x=>l7 (D6 (ieq x.2.2 0)) (some (x.2.2,x.1,-1,-1)) (some (0,0,0,0))) fun(r
 :E8)=>some r)
def e33:Env:=⟨27,eqs,tt,gl,[],[],[],[],[]⟩
def aB (a0:L6) (a1:Int):Option A8:=l9 (lat a0.2.2 a1) fun x=>l7 (ilt x.2.1 0) (some ([],0,[],[],
 [])) (l7 (ile (o8 a0.2.2) x.2.1) (some ([],0,[],[],[])) (l9 (lat a0.2.2 x.2.1) fun x=>some x))
def c9E:List MG:=[uiM]
def d1i:Ret:=⟨[(.tmp 2,(false,(.own .bool)))],[]⟩
def xH (a0:Int):Option (List Bool):=l9 (gU a0 false) fun x=>l9 (N8 (fun(x:List Bool×Int)=>l7 (ilt
 x.2 a0) (l9 (lat x.1 x.2) fun x_1=>l9 (I9 x.1 (toN x.2)) fun x_2=>some (.inl (S9 x.1 (toN x.2) true,x8
 .i64 x.2 1))) (some (.inr x.1))) (x,0)) fun y=>some y
def s32:FSpec:=mkS c9E d1i fun x=>xH x
def xW (a0:L6) (a1:U8) (a2:Int):Option P5:=l9 (lat a1.2.2 a2) fun x=>some (a1.1,x,[],[],[],
 a0.2.1)
def ui (a0:List Int) (a1:Int):Option Bool:=l9 (J9 (fun(x:Int)=>l7 (ilt x (o8 a0)) (l9 (lat a0 x) fun x_1=>
 l7 (ieq x_1 a1) (some (.rt true)) (some (.nx (x8 .i64 x 1)))) (some (.ex ()))) 0) fun o=>L8 o (fun
 (y:PUnit)=>some false) fun r=>some r
def uj (a0:A8) (a1:Int) (a2:List Int):Option Bool:=l9 (qx a0 a1) fun x=>l9 (J9 (fun(x_1:
 Int)=>l7 (ilt x_1 (o8 x)) (l9 (lat x x_1) fun x_2=>l9 (I9 x (toN x_1)) fun x=>l9 (ui a2 x) fun(x:
 Bool)=>l7 (D6 x) (some (.rt false)) (some (.nx (x8 .i64 x_1 1)))) (some (.ex ()))) 0) fun o=>L8
 o (fun(y:PUnit)=>some true) fun r=>some r
def d0e:List MG:=[(true,(.dat y24))]
def d1J:Ret:=⟨[(.tmp 2,uoM),(.tmp 3,uiM)],[]⟩
def jw (a0:A8):Option (List Int×Int):=l9 (J9 (fun(x:List Int)=>l7 (ilt (o8 x) (o8 a0.2.2.2.1)) (l9
 (N8 (fun(x_1:Int)=>l7 (ilt x_1 (o8 a0.2.2.2.1)) (l9 (ui x x_1) fun x_2=>l7 x_2 (some (.inl (x8 .i64
 x_1 1))) (l9 (uj a0 x_1 x) fun x=>l7 (D6 x) (some (.inl (x8 .i64 x_1 1))) (some (.inr x_1)))) (some
 (.inr x_1))) 0) fun y=>l7 (ieq y (o8 a0.2.2.2.1)) (some (.rt ([],9))) (l9 (X9 x [y]) fun x=>some (.nx
 x))) (some (.ex x))) []) fun o=>L8 o (fun(y:List Int)=>some (y,0)) fun r=>some r
def s62:FSpec:=mkS d0e d1J fun x=>jw x
def lw (a0:F6) (a1:Int):Option Bool:=l9 (pF a0) fun x=>l7 x (l7 (ile a0.1 a1) (some (ilt a1 a0.2))
 (some false)) (some false)
def ru (a0:A8) (a1:Int) (a2:Int):Option (List Int):=l9 (N8 (fun(x:List Int×Int)=>l7 (ilt x.2 (o8
 a0.2.2.2.2)) (l9 (lat a0.2.2.2.2 x.2) fun x_1=>l7 (ieq x_1.2.1 a1) (l9 (lat a0.2.2.2.2 x.2) fun x_2=>l9
 (lw x_2.2.2.2.2.1 a2) fun x_3=>l7 x_3 (l9 (X9 x.1 [x.2]) fun x_4=>some (.inl (x_4,x8 .i64
 x.2 1))) (some (.inl (x.1,x8 .i64 x.2 1)))) (some (.inl (x.1,x8 .i64 x.2 1)))) (some (.inr x.1))) ([],0)) fun y=>some y
def xF (a0:List Int) (a1:Int):Option Int:=l9 (J9 (fun(x:Int)=>l7 (ilt x (o8 a0)) (l9 (lat a0 x) fun x_1=>
 l7 (ieq x_1 a1) (some (.rt x)) (some (.nx (x8 .i64 x 1)))) (some (.ex ()))) 0) fun o=>L8 o (fun(y:
 PUnit)=>some (-1)) fun r=>some r
def yM (a0:A8) (a1:List Int) (a2:Int):Option Int:=l9 (lat a0.2.2.2.2 a2) fun x=>l9 (J9 (fun(x:F6)
 =>l7 (ile 0 x.2) (l7 (ilt x.2 x.1) (l9 (xF a1 x.2) fun x_1=>l7 (ile 0 x_1) (some (.rt x_1)) (l9 (lat a0.2.2.2.2
 x.2) fun x_2=>some (.nx (x.2,x_2.2.2.1)))) (some (.ex ()))) (some (.ex ()))) (a2,x.2.2.1)) fun o=>L8 o (fun(y:PUnit)=>some (-1)) fun r=>some r
def yL (a0:A8) (a1:Int) (a2:Int):Option Z5:=l9 (ru a0 a1 a2) fun x=>l9 (N8 (fun
 (x_1:List Int×List Int×Int)=>l7 (ilt x_1.2.2 (o8 x)) (l9 (lat x x_1.2.2) fun x_2=>l9 (I9 x (toN x_1.2.2)) fun(x_3:
 Int)=>l9 (yM a0 x x_3) fun x_4=>l9 (X9 x_1.1 [x_4]) fun x_5=>l9 (lat x x_1.2.2) fun x_6=>
 l9 (I9 x (toN x_1.2.2)) fun x=>l9 (lat a0.2.2.2.2 x) fun x=>l9 (X9 x_1.2.1 [x.2.2.2.1]) fun x=>some
 (.inl (x_5,x,x8 .i64 x_1.2.2 1))) (some (.inr (x_1.1,x_1.2.1)))) ([],[],0)) fun y=>some (x,y)
def Eb (a0:List F6):Option (List Int×Int):=l9 (jK a0) fun x=>some (x.1,x.2.2)
def pG (a0:List F6) (a1:Int):Option (List Int):=l9 (jK a0) fun x=>l9 (l7 (D6
 (ieq x.2.2 0)) (some (.inr [])) (l7 (ilt a1 0) (some (.inr [])) (l7 (ile (o8 a0) a1) (some (.inr [])) (some (.inl ())))))
 fun o=>L8 o (fun(x_1:PUnit)=>l9 (lat a0 a1) fun x_2=>l9 (aU x_2.1) fun x_3=>l9
 (gU x_3 0) fun x_4=>l9 (N8 (fun(x_5:List Int×F6)=>l7 (ile 0 x_5.2.2) (l9 (lat x_5.1 x_5.2.2) fun x_6
 =>l9 (I9 x_5.1 (toN x_5.2.2)) fun x_7=>l9 (lat x.1 x_5.2.1) fun x_8=>l9 (I9 x.1 (toN x_5.2.1)) fun x=>
 some (.inl (S9 x_5.1 (toN x_5.2.2) x_5.2.1,G8 .i64 x 1,G8 .i64 x_5.2.2 1))) (some (.inr x_5.1))) (x_4,G8 .i64
 a1 1,G8 .i64 x_3 1)) fun y=>some y) fun r=>some r
def qp (a0:Int):Option F6:=l7 (ieq a0 1) (some (0,1)) (l7 (ieq a0 2) (some (-1000000000000,1000000000000)) (l7 (ieq a0
 3) (some (-1000000000000000,1000000000000000)) (l7 (ieq a0 4) (some (-1000000000,1000000000)) (l7 (ieq a0 5) (some (0,109572)) (l7 (ieq
 a0 6) (some (0,15)) (some (0,-1)))))))
def Z4 (a0:F8):Option Bool:=l9 (qp a0.1) fun x=>l7 (ilt a0.2.2 x.1) (some false) (l7 (ilt x.2
 a0.2.2) (some false) (l7 (ieq a0.1 6) (l7 (ile 0 a0.2.1) (some (ilt a0.2.1 8)) (some false)) (some (ieq a0.2.1 0))))
def kM (a0:Int):Option Bool:=l9 (l7 (ile 1 a0) (l7 (ile a0 8) (some (.inr true)) (l7 (ile 36 a0) (l7 (ile a0 39)
 (some (.inr true)) (some (.inl ()))) (some (.inl ())))) (l7 (ile 36 a0) (l7 (ile a0 39) (some (.inr true)) (some
 (.inl ()))) (some (.inl ())))) fun o=>L8 o (fun(x:PUnit)=>l7 (ieq a0 14) (some true) (l7 (ieq
 a0 15) (some true) (l7 (ieq a0 16) (some true) (l7 (ieq a0 33) (some true) (some (ieq a0 34)))))) fun r=>some r
def vz (a0:F6) (a1:Int):Option Bool:=l9 (l9 (aU a0.1) fun x=>l7 (D6 (ieq x a1)) (some (.inr
 false)) (l7 (D6 (ieq a0.2 0)) (l9 (kM a0.1) fun x=>l7 (D6 x) (some (.inr false)) (some (.inl ())))
 (some (.inl ())))) fun o=>L8 o (fun(x:PUnit)=>l9 (l7 (ieq a0.1 14) (some (ieq a0.1 14)) (l7 (ieq a0.1
 15) (some (ieq a0.1 15)) (some (ieq a0.1 16)))) fun x=>l7 x (l7 (ile 0 a0.2) (some (ile a0.2 5)) (some false)) (l7 (ieq a0.1 34)
 (l7 (ile 0 a0.2) (some (ile (X5 a0.2 8) 5)) (some false)) (l7 (ieq a0.1 6) (some (ile 0 a0.2)) (some true)))) fun r=>some r
def uh (a0:F6) (a1:P5):Option Bool:=l7 (ieq a0.1 7) (l7 (ile 0 a0.2) (some (ilt a0.2 (o8 a1.2.1))) (some false)) (l7
 (ieq a0.1 8) (l7 (ile 0 a0.2) (l7 (ilt a0.2 (o8 a1.2.2.1)) (l9 (lat a1.2.2.1 a0.2) fun x=>some (D6 (ieq x.1 0))) (some
 false)) (some false)) (l7 (ieq a0.1 33) (l7 (ile 0 a0.2) (some (ilt a0.2 (o8 a1.2.2.2.2.2))) (some false)) (l7 (ieq a0.1 34) (some (ilt
 (X4 .i64 a0.2 8) (o8 a1.2.2.2.2.2))) (l9 (l7 (ieq a0.1 36) (some (ieq a0.1 36)) (l7 (ieq a0.1 37) (some (ieq a0.1 37)) (l7
 (ieq a0.1 38) (some (ieq a0.1 38)) (some (ieq a0.1 39))))) fun x=>l7 x (l7 (ile 0 a0.2) (some (ilt a0.2 (o8 a1.2.2.2.2.1))) (some
 false)) (some true)))))
def xh (a0:Int) (a1:F6):Option Bool:=l7 (D6 (ieq a1.2 0)) (some false) (l7 (ieq a0 36) (l7 (ieq a1.1 2) (some true)
 (some (ieq a1.1 3))) (l7 (ieq a0 39) (l7 (ile 2 a1.1) (some (ile a1.1 5)) (some false)) (some (ieq a1.1 1))))
def GX (a0:F8) (a1:F6):Option Bool:=l9 (Z4 a0) fun x=>l7 x (l7 (ieq a0.1 a1.1) (some (ieq
 a0.2.1 a1.2)) (some false)) (some false)
def Ec (a0:Int) (a1:Int) (a2:Int) (a3:Bool):Option Int:=l7 (ieq a0 36) (some (x8 .i64 a1 a2)) (l7 (ieq a0 37) (some
 (N9 .i64 a1 a2)) (l7 (ieq a0 38) (l7 (ilt a1 a2) (some a2) (some a1)) (l7 a3 (some a2) (l7 (ilt a1 a2) (some a2) (some a1)))))
def U7 (a0:Int) (a1:Int):Option (F8×Int):=l9 (Z4 (a0,0,a1)) fun x=>l7 (D6 x) (some ((0,0,0),
 3)) (some ((a0,0,a1),0))
def iW (a0:F6) (a1:P5):Option (F8×Int):=l9 (lat a1.2.2.2.2.1 a0.2) fun x=>l9 (xh a0.1 x)
 fun x_1=>l7 (D6 x_1) (some ((0,0,0),8)) (l9 (l7 (ieq a0.1 37) (some 1) (some 0)) fun x_2=>l9 (J9 (fun(x_3:
 F8×F6)=>l7 (ilt x_3.2.2 (o8 a1.2.2.2.1)) (l9 (lat a1.2.2.2.1 x_3.2.2) fun x_4=>l9 (l7 (ile (o8 x_4)
 a0.2) (some (.inr ((0,0,0),6))) (l9 (lat x_4 a0.2) fun x=>l7 (ieq x.1 0) (some (.inr ((0,0,0),6))) (some (.inl
 x_3.1)))) fun o=>L8 o (fun(x_5:F8)=>l9 (lat x_4 a0.2) fun x_6=>l9 (GX x_6 x) fun
 (x_7:Bool)=>l7 (D6 x_7) (some (.rt ((0,0,0),8))) (l9 (lat x_4 a0.2) fun x_8=>l9 (Ec a0.1 x_3.2.1 x_8.2.2
 (ieq x_3.2.2 0)) fun x_9=>l9 (U7 x.1 x_9) fun x=>l7 (D6 (ieq x.2 0)) (some (.rt ((0,0,0),x.2)))
 (some (.nx (x_5,x_9,x8 .i64 x_3.2.2 1))))) fun r=>some (.rt r)) (some (.ex (x_3.1,x_3.2.1)))) ((0,0,0),
 x_2,0)) fun o=>L8 o (fun(y:F8×Int)=>l7 (ieq a0.1 39) (l7 (ieq (o8 a1.2.2.2.1) 0) (some ((0,
 0,0),6)) (l9 (U7 x.1 y.2) fun x=>some x)) (l9 (U7 x.1 y.2) fun x=>some x)) fun(r:
 F8×Int)=>some r)
def aA (a0:F6) (a1:P5):Option (F8×Int):=l7 (ieq a0.1 7) (l9 (lat a1.2.1 a0.2) fun x=>l9
 (Z4 x) fun x=>l7 (D6 x) (some ((0,0,0),8)) (l9 (lat a1.2.1 a0.2) fun x=>some (x,0))) (l7 (ieq
 a0.1 8) (l9 (lat a1.2.2.1 a0.2) fun x=>l9 (Z4 x) fun x=>l7 (D6 x) (some ((0,0,0),8)) (l9 (lat
 a1.2.2.1 a0.2) fun x=>some (x,0))) (l7 (ieq a0.1 9) (l9 (U7 5 a1.1) fun x=>some x) (l7 (ieq a0.1
 35) (l9 (U7 2 (o8 a1.2.2.2.1)) fun x=>some x) (l7 (ieq a0.1 6) (l9 (Z4 (6,X4 .i64 a0.2
 16,X5 a0.2 16)) fun x=>l7 (D6 x) (some ((0,0,0),3)) (some ((6,X4 .i64 a0.2 16,X5 a0.2 16),0))) (l9 (U7
 a0.1 a0.2) fun x=>some x)))))
def vC (a0:Int):Option Bool:=l7 (ieq a0 2) (some true) (l7 (ieq a0 3) (some true) (some (ieq a0 4)))
def iY (a0:Bool):Option (F8×Int):=l7 a0 (some ((1,0,1),0)) (some ((1,0,0),0))
def lM (a0:Int):Option Bool:=l7 (ile 0 a0) (some (ile a0 109572)) (some false)
def yH (a0:Int):Option Bool:=l7 (ieq (X5 a0 4) 0) (l7 (D6 (ieq (X5 a0 100) 0)) (some true) (some (ieq (X5 a0 400) 0)))
 (some false)
def bV (a0:Int):Option Int:=l9 (yH a0) fun x=>l7 x (some 366) (some 365)
def Z7 (a0:Int) (a1:Int):Option Int:=l7 (ieq a1 2) (l9 (yH a0) fun x=>l7 x (some 29) (some 28))
 (l9 (l7 (ieq a1 4) (some (ieq a1 4)) (l7 (ieq a1 6) (some (ieq a1 6)) (l7 (ieq a1 9) (some (ieq a1 9)) (some (ieq a1 11))))) fun(x:
 Bool)=>l7 x (some 30) (l7 (ieq a1 1) (l7 (ieq a1 1) (some 31) (some 0)) (l7 (ieq a1 3) (l7 (ieq a1 3) (some 31) (some 0)) (l7
 (ieq a1 5) (l7 (ieq a1 5) (some 31) (some 0)) (l7 (ieq a1 7) (l7 (ieq a1 7) (some 31) (some 0)) (l7 (ieq a1 8) (l7 (ieq a1 8) (some
 31) (some 0)) (l7 (ieq a1 10) (l7 (ieq a1 10) (some 31) (some 0)) (l7 (ieq a1 12) (some 31) (some 0)))))))))
def ug (a0:Int):Option F8:=l9 (lM a0) fun x=>l7 (D6 x) (some (0,0,0)) (l9 (N8 (fun(x:F6)
 =>l9 (bV x.2) fun x_1=>l7 (ile x_1 x.1) (l9 (bV x.2) fun x_2=>some (.inl (G8
 .i64 x.1 x_2,x8 .i64 x.2 1))) (some (.inr x))) (a0,1900)) fun y=>l9 (N8 (fun(x:F6)=>l9
 (Z7 y.2 x.2) fun x_1=>l7 (ile x_1 x.1) (l9 (Z7 y.2 x.2) fun x_2=>some (.inl (G8
 .i64 x.1 x_2,x8 .i64 x.2 1))) (some (.inr x))) (y.1,1)) fun y_1=>some (y.2,y_1.2,x8 .i64 y_1.1 1))
def BI (a0:uw) (a1:Int) (a2:Int):Option Bool:=l9 (lw a0.1 a1) fun x=>l7 x (l7 (ile a0.2.1 a2)
 (some (ilt a2 a0.2.2.1)) (some false)) (some false)
def yJ (a0:V8) (a1:Int) (a2:Int):Option (Int×Bool):=l9 (J9 (fun(x:Int)=>l7 (ilt x (o8 a0.2.2.2)) (l9 (lat
 a0.2.2.2 x) fun x_1=>l9 (BI x_1 a1 a2) fun x_2=>l7 x_2 (some (.rt (x,true))) (some (.nx (x8
 .i64 x 1)))) (some (.ex ()))) 0) fun o=>L8 o (fun(y:PUnit)=>some (0,false)) fun r
 =>some r
def Ed (a0:V8) (a1:Int) (a2:F8):Option (F8×Int):=l9 (l7 (D6 (ieq a2.1 a0.2.1.1)) (some (.inr ((0,0,0),
 8))) (l7 (D6 (ieq a2.2.1 a0.2.1.2)) (some (.inr ((0,0,0),8))) (l7 (ilt a0.2.2.1.1 1) (some (.inr ((0,0,0),8))) (l7 (ilt 6
 a0.2.2.1.1) (some (.inr ((0,0,0),8))) (some (.inl (0,0,0))))))) fun o=>L8 o (fun(x:F8)=>l9
 (yJ a0 a1 a2.2.2) fun x=>l7 (D6 x.2) (some ((0,0,0),6)) (l9 (lat a0.2.2.2 x.1) fun x=>l9
 (Z4 (a0.2.2.1.1,a0.2.2.1.2,x.2.2.2)) fun x_1=>l7 (D6 x_1) (some ((0,0,0),3)) (some ((a0.2.2.1.1,a0.2.2.1.2,
 x.2.2.2),0)))) fun r=>some r
def wM (a0:Int):Option Bool:=l7 (ile 0 a0) (some (ile a0 5)) (some false)
def aX (a0:Int) (a1:Int):Option Bool:=l7 (ilt a1 a0) (some true) (some (ilt a0 (G8 .i64 0 a1)))
def mJ (a0:Int) (a1:Int):Option (Int×Int×Bool):=l9 (l7 (ilt a1 0) (some (x8 .u64 (wrap .u64 (G8
 .i64 0 (x8 .i64 a1 1))) 1)) (some (wrap .u64 a1))) fun x=>l7 (ilt 0 (wrap .i64 (X4 .u64 x
 1000000))) (l9 (iI .i64 1000000000000000 (wrap .i64 (X4 .u64 x 1000000))) fun x_1=>l7 (ilt x_1 a0) (some
 (0,0,false)) (l7 (ilt 1000000000000000 (x8 .i64 (x8 .i64 (N9 .i64 a0 (wrap .i64 (X4 .u64 x 1000000)))
 (N9 .i64 (X4 .i64 a0 1000000) (wrap .i64 (X5 x 1000000)))) (X4 .i64 (N9 .i64 (X5 a0 1000000) (wrap
 .i64 (X5 x 1000000))) 1000000))) (some (0,0,false)) (l7 (ilt a1 0) (some (G8 .i64 0 (x8 .i64 (x8 .i64 (N9
 .i64 a0 (wrap .i64 (X4 .u64 x 1000000))) (N9 .i64 (X4 .i64 a0 1000000) (wrap .i64 (X5 x 1000000))))
 (X4 .i64 (N9 .i64 (X5 a0 1000000) (wrap .i64 (X5 x 1000000))) 1000000)),G8 .i64 0 (X5 (N9 .i64
 (X5 a0 1000000) (wrap .i64 (X5 x 1000000))) 1000000),true)) (some (x8 .i64 (x8 .i64 (N9 .i64 a0 (wrap
 .i64 (X4 .u64 x 1000000))) (N9 .i64 (X4 .i64 a0 1000000) (wrap .i64 (X5 x 1000000)))) (X4 .i64
 (N9 .i64 (X5 a0 1000000) (wrap .i64 (X5 x 1000000))) 1000000),X5 (N9 .i64 (X5 a0 1000000) (wrap .i64 (X5 x
 1000000))) 1000000,true))))) (l7 (ilt 1000000000000000 (x8 .i64 (x8 .i64 (N9 .i64 a0 (wrap .i64 (X4
 .u64 x 1000000))) (N9 .i64 (X4 .i64 a0 1000000) (wrap .i64 (X5 x 1000000)))) (X4 .i64 (N9 .i64
 (X5 a0 1000000) (wrap .i64 (X5 x 1000000))) 1000000))) (some (0,0,false)) (l7 (ilt a1 0) (some (G8 .i64 0 (x8 .i64
 (x8 .i64 (N9 .i64 a0 (wrap .i64 (X4 .u64 x 1000000))) (N9 .i64 (X4 .i64 a0 1000000) (wrap
 .i64 (X5 x 1000000)))) (X4 .i64 (N9 .i64 (X5 a0 1000000) (wrap .i64 (X5 x 1000000))) 1000000)),G8
 .i64 0 (X5 (N9 .i64 (X5 a0 1000000) (wrap .i64 (X5 x 1000000))) 1000000),true)) (some (x8 .i64 (x8
 .i64 (N9 .i64 a0 (wrap .i64 (X4 .u64 x 1000000))) (N9 .i64 (X4 .i64 a0 1000000) (wrap .i64
 (X5 x 1000000)))) (X4 .i64 (N9 .i64 (X5 a0 1000000) (wrap .i64 (X5 x 1000000))) 1000000),X5 (N9 .i64 (X5
 a0 1000000) (wrap .i64 (X5 x 1000000))) 1000000,true))))
def eF (a0:Int) (a1:Int) (a2:Int) (a3:Bool) (a4:Int):Option Int:=l9 (l7 (ieq a4 0) (l7 a3 (some (ilt 0 a1)) (some
 false)) (l7 (ieq a4 1) (l7 (D6 a3) (some (ilt 0 a1)) (some false)) (l7 (ieq a4 3) (some (ilt 0 a1)) (l7 (ieq a4 4) (some (ile (G8
 .i64 a2 a1) a1)) (l7 (ieq a4 5) (l7 (ilt (G8 .i64 a2 a1) a1) (some true) (l7 (ieq a1 (G8 .i64 a2 a1)) (some (ieq
 (X5 a0 2) 1)) (some false))) (some false)))))) fun x=>l7 x (l7 a3 (some (G8 .i64 0 (x8 .i64 a0 1))) (some (x8
 .i64 a0 1))) (l7 a3 (some (G8 .i64 0 a0)) (some a0))
def xg (a0:Int) (a1:Int) (a2:Int):Option Int:=l9 (N8 (fun(x:F6)=>l7 (ilt x.2 0) (some (.inl (G8 .i64
 x.1 1,x8 .i64 x.2 1000000))) (some (.inr x))) (a0,a1)) fun y=>l9 (N8 (fun(x:F6)=>l7 (ile 1000000 x.2)
 (some (.inl (x8 .i64 x.1 1,G8 .i64 x.2 1000000))) (some (.inr x))) y) fun y=>l7 (ile 0 y.1) (l9
 (eF y.1 y.2 1000000 false a2) fun x=>some x) (l7 (ieq y.2 0) (some y.1) (l9 (eF (G8 .i64 (G8
 .i64 0 y.1) 1) (G8 .i64 1000000 y.2) 1000000 true a2) fun x=>some x))
def uZ (a0:V8) (a1:Int) (a2:Int) (a3:Int):Option F6:=l9 (wM a3) fun x=>l7 (D6 x) (some (0,
 1)) (l9 (l7 (D6 (aH (ieq a0.2.1.1 3) (ieq a0.2.1.2 0))) (some (.inr (0,8))) (l7 (D6 (aH (ieq a0.2.2.1.1 4) (ieq a0.2.2.1.2 0)))
 (some (.inr (0,8))) (some (.inl ())))) fun o=>L8 o (fun(x:PUnit)=>l9 (aX a2 1000000000000000)
 fun x=>l7 x (some (0,3)) (l9 (J9 (fun(x:F8)=>l7 (ilt x.2.2 (o8 a0.2.2.2)) (l9 (lat a0.2.2.2 x.2.2) fun(x_1:
 uw)=>l9 (lat a0.2.2.2 x.2.2) fun x_2=>l7 (ile (jf x_2.2.2.1 a2) (fO x_1.2.1 0)) (some (.nx (x.1,x.2.1,x8 .i64
 x.2.2 1))) (l9 (lat a0.2.2.2 x.2.2) fun x_3=>l9 (lw x_3.1 a1) fun x_4=>l7 (D6 x_4) (some (.nx (x.1,
 x.2.1,x8 .i64 x.2.2 1))) (l9 (lat a0.2.2.2 x.2.2) fun x_5=>l9 (mJ (G8 .i64 (jf x_2.2.2.1 a2)
 (fO x_1.2.1 0)) x_5.2.2.2) fun x_6=>l7 (D6 x_6.2.2) (some (.rt (0,3))) (some (.nx (x8 .i64 x.1 x_6.1,
 x8 .i64 x.2.1 x_6.2.1,x8 .i64 x.2.2 1)))))) (some (.ex (x.1,x.2.1)))) (0,0,0)) fun o=>L8 o (fun(y:
 F6)=>l9 (xg y.1 y.2 a3) fun x=>l9 (aX x 1000000000000000) fun x_1=>l7 x_1 (some (0,3)) (some
 (x,0))) fun r=>some r)) fun r=>some r)
def jk (a0:Int) (a1:Int) (a2:Int):Option (F8×Int):=l7 (D6 (ieq a2 0)) (some ((0,0,0),a2)) (l9 (U7 a0 a1)
 fun x=>some x)
def fV (a0:F6) (a1:F8) (a2:P5):Option (F8×Int):=l9 (l7 (ieq a0.1 10) (l9 (vC a1.1) fun(x:
 Bool)=>l7 (D6 x) (some (.inr ((0,0,0),8))) (l9 (U7 a1.1 (G8 .i64 0 a1.2.2)) fun x=>some (.inr
 x))) (l7 (ieq a0.1 25) (l7 (D6 (ieq a1.1 1)) (some (.inr ((0,0,0),8))) (l9 (iY (ieq a1.2.2 0)) fun x=>
 some (.inr x))) (l9 (l7 (ieq a0.1 31) (some (ieq a0.1 31)) (some (ieq a0.1 32))) fun x=>l7 x (l7 (D6 (ieq a1.1 5)) (some
 (.inr ((0,0,0),8))) (l9 (ug a1.2.2) fun x=>l7 (ieq a0.1 31) (l9 (U7 2 x.1) fun x=>
 some (.inr x)) (l9 (U7 2 x.2.1) fun x=>some (.inr x)))) (l7 (ieq a0.1 33) (l9 (lat a2.2.2.2.2.2 a0.2) fun
 (x:V8)=>l9 (Ed x a2.1 a1) fun x=>some (.inr x)) (some (.inl (0,0,0))))))) fun o=>L8 o (fun(x:F8)=>l9 (lat a2.2.2.2.2.2 (X4 .i64 a0.2 8)) fun x_1=>l9 (l7 (D6 (ieq a1.1 3)) (some
 (.inr ((0,0,0),8))) (l7 (D6 (ieq x_1.2.1.1 3)) (some (.inr ((0,0,0),8))) (l7 (D6 (ieq x_1.2.1.2 0)) (some (.inr ((0,0,0),
 8))) (l7 (D6 (ieq x_1.2.2.1.1 4)) (some (.inr ((0,0,0),8))) (l7 (D6 (ieq x_1.2.2.1.2 0)) (some (.inr ((0,0,0),8))) (some
 (.inl x))))))) fun o=>L8 o (fun(x:F8)=>l9 (uZ x_1 a2.1 a1.2.2 (X5 a0.2 8)) fun x
 =>l9 (jk 3 x.1 x.2) fun x=>some x) fun r=>some r) fun r=>some r
def nP (a0:Int) (a1:Int) (a2:Int):Option (F8×Int):=l9 (qp a0) fun x=>l7 (ilt a1 0) (l7 (ilt
 a2 0) (l7 (D6 (ieq (G8 .i64 0 a2) 0)) (l9 (iI .i64 x.2 (G8 .i64 0 a2)) fun x=>l7 (ilt x (G8
 .i64 0 a1)) (some ((0,0,0),3)) (l9 (U7 a0 (N9 .i64 a1 a2)) fun x=>some x)) (l9 (U7 a0
 (N9 .i64 a1 a2)) fun x=>some x)) (l7 (D6 (ieq a2 0)) (l9 (iI .i64 x.2 a2) fun x=>l7 (ilt x
 (G8 .i64 0 a1)) (some ((0,0,0),3)) (l9 (U7 a0 (N9 .i64 a1 a2)) fun x=>some x)) (l9 (U7
 a0 (N9 .i64 a1 a2)) fun x=>some x))) (l7 (ilt a2 0) (l7 (D6 (ieq (G8 .i64 0 a2) 0)) (l9 (iI
 .i64 x.2 (G8 .i64 0 a2)) fun x=>l7 (ilt x a1) (some ((0,0,0),3)) (l9 (U7 a0 (N9 .i64 a1 a2)) fun
 (x:F8×Int)=>some x)) (l9 (U7 a0 (N9 .i64 a1 a2)) fun x=>some x)) (l7 (D6 (ieq a2 0)) (l9
 (iI .i64 x.2 a2) fun x=>l7 (ilt x a1) (some ((0,0,0),3)) (l9 (U7 a0 (N9 .i64 a1 a2)) fun x=>some x)) (l9 (U7 a0 (N9 .i64 a1 a2)) fun x=>some x)))
def qj (a0:Int):Option Int:=l7 (ilt a0 0) (some (G8 .i64 0 a0)) (some a0)
def yG (a0:Int) (a1:Int) (a2:Int) (a3:Int):Option F6:=l9 (wM a3) fun x=>l7 (D6 x) (some (0,1))
 (l7 (ieq a2 0) (some (0,12)) (l9 (l9 (aX a0 1000000000000000) fun x=>l7 x (some (.inr (0,3))) (l9
 (aX a1 1000000000) fun x=>l7 x (some (.inr (0,3))) (l9 (aX a2 1000000000) fun x=>l7 x (some
 (.inr (0,3))) (some (.inl ()))))) fun o=>L8 o (fun(x:PUnit)=>l9 (qj a0) fun x=>l9
 (qj a1) fun x_1=>l9 (qj a2) fun x_2=>l7 (ilt 0 x_1) (l9 (iI .i64 x x_2) fun x_3=>l9
 (iI .i64 1000000000000000 x_1) fun x_4=>l7 (ilt x_4 x_3) (some (0,3)) (l9 (kQ x x_2) fun x_5=>l9 (iI
 .i64 x x_2) fun x=>l9 (iI .i64 (N9 .i64 x_5 x_1) x_2) fun x_6=>l9 (kQ (N9 .i64 x_5
 x_1) x_2) fun x_7=>l9 (eF (x8 .i64 (N9 .i64 x x_1) x_6) x_7 x_2 (D6 (dB (D6 (dB (ilt a0 0) (ilt a1
 0))) (ilt a2 0))) a3) fun x=>l9 (aX x 1000000000000000) fun x_8=>l7 x_8 (some (0,3)) (some (x,0)))) (l9
 (kQ x x_2) fun x_3=>l9 (iI .i64 x x_2) fun x=>l9 (iI .i64 (N9 .i64 x_3 x_1) x_2) fun(x_4:
 Int)=>l9 (kQ (N9 .i64 x_3 x_1) x_2) fun x_5=>l9 (eF (x8 .i64 (N9 .i64 x x_1) x_4) x_5 x_2
 (D6 (dB (D6 (dB (ilt a0 0) (ilt a1 0))) (ilt a2 0))) a3) fun x=>l9 (aX x 1000000000000000) fun x_6=>l7
 x_6 (some (0,3)) (some (x,0)))) fun r=>some r))
def xE (a0:Int) (a1:Int) (a2:Int):Option F6:=l9 (yG a0 a1 1000000 a2) fun x=>some x
def bU (a0:Int) (a1:Int):Option Bool:=l7 (ilt a1 a0) (some true) (some (ilt a0 (G8 .i64 0 a1)))
def pz (a0:Int) (a1:Int):Option F6:=l9 (iI .i64 a0 a1) fun x=>l9 (kQ a0 a1) fun x_1=>l7
 (ilt x_1 0) (some (G8 .i64 x 1,x8 .i64 x_1 a1)) (some (x,x_1))
def U6 (a0:Int) (a1:Int) (a2:Int) (a3:Int):Option Int:=l7 (ieq a1 0) (some a0) (l9 (l7 (ieq a3 1) (some true) (l7
 (ieq a3 2) (l7 (ilt a0 0) (some true) (l7 (ieq a3 3) (some (ile 0 a0)) (some false))) (l7 (ieq a3 3) (some (ile 0 a0)) (some false)))) fun
 (x:Bool)=>l7 (ieq a3 4) (l7 (ieq a1 (G8 .i64 a2 a1)) (l7 (ieq a3 4) (l7 (ile 0 a0) (some (x8 .i64 a0 1)) (l7
 (ieq a3 5) (l7 (D6 (ieq (X5 a0 2) 0)) (some (x8 .i64 a0 1)) (some a0)) (some a0))) (l7 (ieq a3 5) (l7 (D6 (ieq (X5 a0 2)
 0)) (some (x8 .i64 a0 1)) (some a0)) (some a0))) (l7 (ilt (G8 .i64 a2 a1) a1) (some (x8 .i64 a0 1)) (some a0))) (l7
 (ieq a3 5) (l7 (ieq a1 (G8 .i64 a2 a1)) (l7 (ieq a3 4) (l7 (ile 0 a0) (some (x8 .i64 a0 1)) (l7 (ieq a3 5) (l7 (D6
 (ieq (X5 a0 2) 0)) (some (x8 .i64 a0 1)) (some a0)) (some a0))) (l7 (ieq a3 5) (l7 (D6 (ieq (X5 a0 2) 0)) (some (x8
 .i64 a0 1)) (some a0)) (some a0))) (l7 (ilt (G8 .i64 a2 a1) a1) (some (x8 .i64 a0 1)) (some a0))) (l7 x (some (x8
 .i64 a0 1)) (some a0))))
def CU (a0:Int) (a1:Int) (a2:Int):Option F6:=l7 (ilt a2 0) (some (0,1)) (l7 (ilt 5 a2) (some (0,1)) (l9 (bU
 a0 1000000000) fun x=>l7 x (some (0,3)) (l9 (bU a1 1000000000) fun x=>l7 x (some (0,3)) (l9
 (pz (N9 .i64 a0 a1) 1000000) fun x=>l9 (U6 x.1 x.2 1000000 a2) fun x=>l9 (bU x
 1000000000) fun x_1=>l7 x_1 (some (0,3)) (some (x,0))))))
def nz (a0:Int) (a1:Int) (a2:Int):Option F6:=l9 (l7 (ilt a2 0) (some (.inr (0,1))) (l7 (ilt 5 a2) (some
 (.inr (0,1))) (some (.inl ())))) fun o=>L8 o (fun(x:PUnit)=>l7 (ieq a1 0) (some (0,12)) (l9
 (bU a0 1000000000000000) fun x=>l7 x (some (0,3)) (l9 (bU a1 1000000000000000) fun x=>l7 x (some
 (0,3)) (l7 (ilt a1 0) (l9 (pz (G8 .i64 0 a0) (G8 .i64 0 a1)) fun x=>l9 (bU x.1 1001) fun
 (x_1:Bool)=>l7 x_1 (some (0,3)) (l9 (iI .i64 (N9 .i64 x.2 1000) (G8 .i64 0 a1)) fun x_2=>l9
 (kQ (N9 .i64 x.2 1000) (G8 .i64 0 a1)) fun x_3=>l9 (iI .i64 (N9 .i64 x_3 1000) (G8 .i64
 0 a1)) fun x_4=>l9 (kQ (N9 .i64 x_3 1000) (G8 .i64 0 a1)) fun x_5=>l9 (U6 (x8 .i64
 (x8 .i64 (N9 .i64 x.1 1000000) (N9 .i64 x_2 1000)) x_4) x_5 (G8 .i64 0 a1) a2) fun x=>l9
 (bU x 1000000000) fun x_6=>l7 x_6 (some (0,3)) (some (x,0)))) (l9 (pz a0 a1) fun x=>l9
 (bU x.1 1001) fun x_1=>l7 x_1 (some (0,3)) (l9 (iI .i64 (N9 .i64 x.2 1000) a1) fun x_2=>
 l9 (kQ (N9 .i64 x.2 1000) a1) fun x_3=>l9 (iI .i64 (N9 .i64 x_3 1000) a1) fun x_4=>l9
 (kQ (N9 .i64 x_3 1000) a1) fun x_5=>l9 (U6 (x8 .i64 (x8 .i64 (N9 .i64 x.1 1000000)
 (N9 .i64 x_2 1000)) x_4) x_5 a1 a2) fun x=>l9 (bU x 1000000000) fun x_6=>l7 x_6 (some (0,3)) (some (x,
 0)))))))) fun r=>some r
def pq (a0:Int) (a1:Int) (a2:Int):Option F6:=l9 (wM a2) fun x=>l7 (D6 x) (some (0,1)) (l7 (ieq
 a1 0) (some (0,12)) (l9 (aX a0 4611686018427387904) fun x=>l7 x (some (0,3)) (l9 (aX a1
 4611686018427387904) fun x=>l7 x (some (0,3)) (l9 (qj a0) fun x=>l9 (qj a1) fun x_1=>l9
 (iI .i64 x x_1) fun x_2=>l9 (kQ x x_1) fun x=>l9 (eF x_2 x x_1 (D6 (dB (ilt a0 0) (ilt a1 0)))
 a2) fun x=>some (x,0)))))
def rq (a0:Int) (a1:Int) (a2:Int):Option F6:=l9 (wM a2) fun x=>l7 (D6 x) (some (0,1)) (l7 (ilt
 a1 1) (some (0,12)) (l9 (aX a0 1000000000000000) fun x=>l7 x (some (0,3)) (l7 (ilt 1000000000000000 a1) (some (0,3))
 (l9 (qj a0) fun x=>l9 (iI .i64 x a1) fun x_1=>l9 (kQ x a1) fun x=>l9 (eF x_1
 x a1 (ilt a0 0) a2) fun x=>l9 (aX (N9 .i64 x a1) 1000000000000000) fun x_2=>l7 x_2 (some (0,3)) (some
 (N9 .i64 x a1,0))))))
def qw (a0:F6) (a1:F8) (a2:F8):Option (F8×Int):=l9 (l9 (l7 (ieq a0.1 13) (l7 (ieq a2.1 2) (l7 (ieq
 a1.1 3) (some true) (some (ieq a1.1 2))) (some false)) (some false)) fun x=>l7 x (l9 (nP a1.1 a1.2.2 a2.2.2) fun(x:
 F8×Int)=>some (.inr x)) (l9 (l7 (ieq a0.1 14) (l7 (ieq a2.1 4) (some (ieq a1.1 3)) (some false)) (some false)) fun x=>
 l7 x (l9 (xE a1.2.2 a2.2.2 a0.2) fun x=>l9 (jk a1.1 x.1 x.2) fun x=>some (.inr x)) (l9
 (l7 (ieq a0.1 14) (l7 (ieq a2.1 4) (some (ieq a1.1 4)) (some false)) (some false)) fun x=>l7 x (l9 (CU a1.2.2 a2.2.2
 a0.2) fun x=>l9 (jk a1.1 x.1 x.2) fun x=>some (.inr x)) (l9 (l7 (ieq a0.1 15) (l7 (ieq a1.1 3)
 (some (ieq a2.1 3)) (some false)) (some false)) fun x=>l7 x (l9 (nz a1.2.2 a2.2.2 a0.2) fun x=>l9
 (jk 4 x.1 x.2) fun x=>some (.inr x)) (l9 (l7 (ieq a0.1 15) (l7 (ieq a2.1 2) (l7 (ieq a1.1 3) (some true)
 (some (ieq a1.1 2))) (some false)) (some false)) fun x=>l7 x (l9 (pq a1.2.2 a2.2.2 a0.2) fun x=>l9
 (jk a1.1 x.1 x.2) fun x=>some (.inr x)) (l7 (ieq a0.1 16) (l7 (ieq a1.1 3) (l7 (ieq a2.1 3) (l9
 (rq a1.2.2 a2.2.2 a0.2) fun x=>l9 (jk a1.1 x.1 x.2) fun x=>some (.inr x)) (some (.inl (0,
 0,0)))) (some (.inl (0,0,0)))) (some (.inl (0,0,0))))))))) fun o=>L8 o (fun(x:F8)=>some ((0,0,0),
 8)) fun r=>some r
def nO (a0:Int) (a1:Int) (a2:Int):Option F6:=l9 (l7 (ilt a0 1900) (some (.inr (0,3))) (l7 (ilt 2199 a0) (some
 (.inr (0,3))) (l7 (ilt a2 1) (some (.inr (0,3))) (l9 (Z7 a0 a1) fun x=>l7 (ilt x a2) (some (.inr (0,
 3))) (some (.inl ())))))) fun o=>L8 o (fun(x:PUnit)=>l9 (N8 (fun(x:F6)=>l7 (ilt x.2 a0) (l9
 (bV x.2) fun x_1=>some (.inl (x8 .i64 x.1 x_1,x8 .i64 x.2 1))) (some (.inr x.1))) (G8 .i64
 a2 1,1900)) fun y=>l9 (N8 (fun(x:F6)=>l7 (ilt x.2 a1) (l9 (Z7 a0 x.2) fun x_1=>some (.inl
 (x8 .i64 x.1 x_1,x8 .i64 x.2 1))) (some (.inr x.1))) (y,1)) fun y=>some (y,0)) fun r=>some r
def fE (a0:Int) (a1:Int):Option F6:=l9 (l9 (lM a0) fun x=>l7 (D6 x) (some (.inr (0,3)))
 (l7 (ilt a1 (-3600)) (some (.inr (0,3))) (l7 (ilt 3600 a1) (some (.inr (0,3))) (some (.inl ()))))) fun o
 =>L8 o (fun(x:PUnit)=>l9 (ug a0) fun x=>l9 (Z7 (X4 .i64 (x8 .i64 (G8
 .i64 (x8 .i64 (N9 .i64 12 x.1) x.2.1) 1) a1) 12) (x8 .i64 (X5 (x8 .i64 (G8 .i64 (x8
 .i64 (N9 .i64 12 x.1) x.2.1) 1) a1) 12) 1)) fun x_1=>l9 (nO (X4 .i64 (x8 .i64 (G8
 .i64 (x8 .i64 (N9 .i64 12 x.1) x.2.1) 1) a1) 12) (x8 .i64 (X5 (x8 .i64 (G8 .i64 (x8
 .i64 (N9 .i64 12 x.1) x.2.1) 1) a1) 12) 1) (jf x.2.2 x_1)) fun x=>some x) fun r=>some r
def jh (a0:Int) (a1:Int):Option Int:=l9 (lM a0) fun x=>l7 (D6 x) (some 0) (l9 (lM a1)
 fun x=>l7 (D6 x) (some 0) (l9 (J9 (fun(x:Int)=>l9 (fE a0 (N9 .i64 12 (x8 .i64 x 1))) fun
 (x_1:F6)=>l7 (D6 (ieq x_1.2 0)) (some (.rt x)) (l7 (ilt a1 x_1.1) (some (.rt x)) (some (.nx (x8 .i64 x 1))))) 0) fun
 (o:PUnit⊕Int)=>L8 o (fun(y:PUnit)=>none) fun r=>some r))
def pI (a0:Int) (a1:F8) (a2:F8):Option (F8×Int):=l7 (D6 (ieq a1.1 5)) (some ((0,0,0),8)) (l7 (ieq a0 27)
 (l7 (D6 (ieq a2.1 2)) (some ((0,0,0),8)) (l7 (ieq a0 27) (l9 (U7 5 (x8 .i64 a1.2.2 a2.2.2)) fun x=>
 some x) (l9 (fE a1.2.2 a2.2.2) fun x=>l9 (jk 5 x.1 x.2) fun x=>some x))) (l7 (ieq a0 28)
 (l7 (D6 (ieq a2.1 2)) (some ((0,0,0),8)) (l7 (ieq a0 27) (l9 (U7 5 (x8 .i64 a1.2.2 a2.2.2)) fun x=>
 some x) (l9 (fE a1.2.2 a2.2.2) fun x=>l9 (jk 5 x.1 x.2) fun x=>some x))) (l7 (D6 (ieq
 a2.1 5)) (some ((0,0,0),8)) (l7 (ieq a0 29) (l9 (U7 2 (G8 .i64 a2.2.2 a1.2.2)) fun x=>some x) (l9
 (jh a1.2.2 a2.2.2) fun x=>l9 (U7 2 x) fun x=>some x)))))
def ji (a0:Int) (a1:F8) (a2:F8):Option (F8×Int):=l9 (l7 (D6 (ieq a1.1 a2.1)) (some (.inr ((0,0,0),
 8))) (l7 (D6 (ieq a1.2.1 a2.2.1)) (some (.inr ((0,0,0),8))) (some (.inl (0,0,0))))) fun o=>L8 o (fun(x
 :F8)=>l9 (l7 (ieq a0 19) (l9 (iY (ieq a1.2.2 a2.2.2)) fun x=>some (.inr x)) (l7 (ieq a0 20) (l9
 (iY (D6 (ieq a1.2.2 a2.2.2))) fun x=>some (.inr x)) (l9 (l7 (ieq a0 23) (some (ieq a0 23)) (some (ieq a0 24)))
 fun x_1=>l7 x_1 (l7 (D6 (ieq a1.1 1)) (some (.inr ((0,0,0),8))) (l7 (ieq (x8 .i64 a1.2.2 a2.2.2) 2) (l9
 (iY true) fun x=>some (.inr x)) (l7 (ieq a0 24) (l9 (iY (ieq (x8 .i64 a1.2.2 a2.2.2) 1)) fun
 (x:F8×Int)=>some (.inr x)) (l9 (iY false) fun x=>some (.inr x))))) (l9 (l7 (ieq a0 11) (some
 (ieq a0 11)) (some (ieq a0 12))) fun x_2=>l7 x_2 (l9 (vC a1.1) fun x=>l7 (D6 x) (some (.inr ((0,0,0),
 8))) (l7 (ieq a0 11) (l9 (U7 a1.1 (x8 .i64 a1.2.2 a2.2.2)) fun x=>some (.inr x)) (l9 (U7 a1.1
 (G8 .i64 a1.2.2 a2.2.2)) fun x=>some (.inr x)))) (some (.inl x)))))) fun o=>L8 o (fun
 (x:F8)=>l9 (l9 (vC a1.1) fun x_1=>l7 (D6 x_1) (l7 (D6 (ieq a1.1 5)) (some (.inr ((0,0,0),8)))
 (some (.inl x))) (some (.inl x))) fun o=>L8 o (fun(x:F8)=>l7 (ieq a0 21) (l9 (iY (ilt
 a1.2.2 a2.2.2)) fun x=>some x) (l7 (ieq a0 22) (l9 (iY (ile a1.2.2 a2.2.2)) fun x=>some x)
 (l7 (dB (ieq a0 17) (ilt a1.2.2 a2.2.2)) (some (a1,0)) (some (a2,0))))) fun r=>some r) fun r=>some r)
 fun r=>some r
def aK (a0:F6) (a1:F8) (a2:F8):Option (F8×Int):=l7 (ile 13 a0.1) (l7 (ile a0.1 16) (l9 (qw a0
 a1 a2) fun x=>some x) (l7 (ile 27 a0.1) (l9 (pI a0.1 a1 a2) fun x=>some x) (l9
 (ji a0.1 a1 a2) fun x=>some x))) (l7 (ile 27 a0.1) (l9 (pI a0.1 a1 a2) fun x=>some
 x) (l9 (ji a0.1 a1 a2) fun x=>some x))
def iV (a0:F6) (a1:List F8) (a2:P5):Option (F8×Int):=l9 (vz a0 (o8 a1)) fun x=>l7 (D6
 x) (some ((0,0,0),2)) (l9 (uh a0 a2) fun x=>l7 (D6 x) (some ((0,0,0),6)) (l9 (J9 (fun(x:F8×Int)=>
 l7 (ilt x.2 (o8 a1)) (l9 (lat a1 x.2) fun x_1=>l9 (Z4 x_1) fun x_2=>l7 (D6 x_2) (some (.rt
 ((0,0,0),8))) (some (.nx (x.1,x8 .i64 x.2 1)))) (some (.ex x.1))) ((0,0,0),0)) fun o=>L8 o (fun
 (y:F8)=>l7 (ieq (o8 a1) 0) (l7 (ile 36 a0.1) (l7 (ile a0.1 39) (l9 (iW a0 a2) fun x=>some x)
 (l9 (aA a0 a2) fun x=>some x)) (l9 (aA a0 a2) fun x=>some x)) (l7 (ieq (o8 a1)
 1) (l9 (lat a1 0) fun x=>l9 (fV a0 x a2) fun x=>some x) (l7 (ieq (o8 a1) 2) (l9 (lat a1 0)
 fun x=>l9 (lat a1 1) fun x_1=>l9 (aK a0 x x_1) fun x=>some x) (l9 (lat a1 0) fun(x:
 F8)=>l9 (lat a1 1) fun x_1=>l9 (lat a1 2) fun x_2=>l7 (D6 (ieq x.1 1)) (some ((0,0,0),8)) (l7 (D6
 (ieq x_1.1 x_2.1)) (some ((0,0,0),8)) (l7 (D6 (ieq x_1.2.1 x_2.2.1)) (some ((0,0,0),8)) (l7 (ieq x.2.2 1) (some (x_1,0)) (some (x_2,
 0))))))))) fun r=>some r))
def wO (r118:List F6→Int→P5→Option (F8×Int)) (r150:List F6→Int→List Int→P5→Option (F8×Int)) (a0
 :List F6) (a1:Int) (a2:P5):Option (F8×Int):=l9 (pG a0 a1) fun x=>l9 (lat a0 a1) fun(x_1:
 F6)=>l9 (l7 (ieq x_1.1 23) (l9 (r150 a0 a1 x a2) fun x=>some (.inr x)) (l7 (ieq x_1.1 24) (l9 (r150 a0 a1 x
 a2) fun x=>some (.inr x)) (l7 (ieq x_1.1 26) (l9 (r150 a0 a1 x a2) fun x=>some (.inr x)) (some
 (.inl (0,0,0)))))) fun o=>L8 o (fun(x_2:F8)=>l9 (J9 (fun(x_3:F8×List F8×Int)=>
 l7 (ilt x_3.2.2 (o8 x)) (l9 (lat x x_3.2.2) fun x_4=>l9 (I9 x (toN x_3.2.2)) fun x=>l9 (r118 a0 x a2) fun(x:
 F8×Int)=>l7 (D6 (ieq x.2 0)) (some (.rt ((0,0,0),x.2))) (l9 (X9 x_3.2.1 [x.1]) fun x=>some (.nx (x_3.1,
 x,x8 .i64 x_3.2.2 1)))) (some (.ex (x_3.1,x_3.2.1)))) (x_2,[],0)) fun o=>L8 o (fun(y:
 F8×List F8)=>l9 (lat a0 a1) fun x=>l9 (iV x y.2 a2) fun x=>some x) fun r
 =>some r) fun r=>some r
def su (r118:List F6→Int→P5→Option (F8×Int)) (r150:List F6→Int→List Int→P5→Option (F8×Int)) (a0:
 List F6) (a1:Int) (a2:List Int) (a3:P5):Option (F8×Int):=l9 (lat a0 a1) fun x=>l7 (D6 (ieq x.2 0)) (some
 ((0,0,0),2)) (l9 (lat a2 0) fun x=>l9 (r118 a0 x a3) fun x=>l7 (D6 (ieq x.2 0)) (some ((0,0,0),x.2))
 (l9 (l7 (D6 (ieq x.1.1 1)) (some (.inr ((0,0,0),8))) (l9 (Z4 x.1) fun x=>l7 (D6 x) (some (.inr ((0,
 0,0),8))) (some (.inl (0,0,0))))) fun o=>L8 o (fun(x_1:F8)=>l9 (lat a0 a1) fun x_2=>
 l7 (ieq x_2.1 26) (l7 (ieq x.1.2.2 1) (l9 (lat a2 1) fun x=>l9 (r118 a0 x a3) fun x=>some x) (l9 (lat a2
 2) fun x=>l9 (r118 a0 x a3) fun x=>some x)) (l9 (lat a0 a1) fun x_3=>l7 (dB (ieq x_3.1 23) (ieq
 x.1.2.2 0)) (some (x.1,0)) (l9 (lat a2 1) fun x=>l9 (r118 a0 x a3) fun x=>l7 (D6 (ieq x.2 0)) (some ((0,0,
 0),x.2)) (l7 (D6 (ieq x.1.1 1)) (some ((0,0,0),8)) (l9 (Z4 x.1) fun x_4=>l7 (D6 x_4) (some ((0,0,0),8))
 (some (x.1,0))))))) fun r=>some r))
def J5:Nat→(M.den (.dat y12)→M.den diM→M.den (.dat y42)→Option (U4 ([(true,(.dat y3)),uiM]++[])))×(M.den (.dat y12)→M.den diM→M.den (.dat y32)→M.den (.dat y42)→Option (U4 ([(true,(.dat y3)),uiM]++[])))
 | 0=>(fun a0 a1 a2=>none,fun a0 a1 a2 a3=>none)
 | n+1=>(fun a0 a1 a2=>wO (J5 n).1 (J5 n).2 a0 a1 a2,fun a0 a1 a2 a3=>su (J5 n).1 (J5 n).2 a0 a1 a2 a3)
def FQ:M.den (.dat y12)→M.den diM→M.den (.dat y42)→Option (U4 ([(true,(.dat y3)),uiM]++[])):=fun a0 a1 a2=>(J5 bJ).1 a0 a1 a2
def zN (a0:List F6) (a1:P5):Option (F8×Int):=l9 (Eb a0) fun x=>l7 (D6 (ieq x.2 0))
 (some ((0,0,0),x.2)) (l9 (FQ a0 (G8 .i64 (o8 a0) 1) a1) fun x=>some x)
def vF (a0:List Int) (a1:List Int):Option Int:=l7 (D6 (ieq (o8 a0) (o8 a1))) (some 2) (l7 (ilt 8 (o8 a0)) (some 4)
 (l9 (J9 (fun(x:Int)=>l7 (ilt x (o8 a0)) (l9 (lat a0 x) fun x_1=>l7 (ilt x_1 (-1)) (some (.rt 9)) (l9 (lat a0 x)
 fun x_2=>l7 (ile x x_2) (some (.rt 9)) (l9 (lat a1 x) fun x_3=>l7 (ilt x_3 0) (some (.rt 3)) (l9 (lat a1 x) fun
 (x_4:Int)=>l7 (ilt 9 x_4) (some (.rt 3)) (some (.nx (x8 .i64 x 1))))))) (some (.ex ()))) 0) fun o=>
 L8 o (fun(y:PUnit)=>some 0) fun r=>some r))
def zO (a0:List Int) (a1:Int):Option (List Int):=l9 (N8 (fun(x:List Int×Int)=>l7 (ilt x.2 (o8 a0)) (l9 (lat
 a0 x.2) fun x_1=>l7 (ieq x_1 a1) (l9 (X9 x.1 [x.2]) fun x_2=>some (.inl (x_2,x8 .i64 x.2 1))) (some
 (.inl (x.1,x8 .i64 x.2 1)))) (some (.inr x.1))) ([],0)) fun y=>some y
def qP (r120:List Int→List Int→List Bool→Int→Option Int) (r152:List Int→List Int→List Bool→Int→Option (List Int))
 (r153:List Int→List Int→List Bool→Int→Option Int) (a0:List Int) (a1:List Int) (a2:List Bool) (a3:Int):Option Int:=l9 (r152
 a0 a1 a2 a3) fun x=>l7 (ieq (o8 x) 0) (some (-1)) (l7 (ilt 1 (o8 x)) (some (-2)) (l9 (lat x 0) fun x=>l9
 (r153 a0 a1 a2 x) fun x=>some x))
def xU (r120:List Int→List Int→List Bool→Int→Option Int) (r152:List Int→List Int→List Bool→Int→Option (List Int))
 (r153:List Int→List Int→List Bool→Int→Option Int) (a0:List Int) (a1:List Int) (a2:List Bool) (a3:Int):Option (List Int):=l9
 (zO a0 a3) fun x=>l9 (N8 (fun(x_1:List Int×Int)=>l7 (ilt x_1.2 (o8 x)) (l9 (lat x x_1.2) fun(x_2:
 Int)=>l9 (I9 x (toN x_1.2)) fun x_3=>l9 (r153 a0 a1 a2 x_3) fun x_4=>l7 (ieq x_4 (-1)) (some (.inl (x_1.1,x8
 .i64 x_1.2 1))) (l9 (l7 (ilt 0 (o8 x_1.1)) (l9 (lat x x_1.2) fun x_5=>l9 (I9 x (toN x_1.2)) fun x=>l9
 (lat a1 x) fun x=>l9 (lat x_1.1 0) fun x_6=>l9 (I9 x_1.1 (toN 0)) fun x_7=>l9 (lat a1 x_7) fun x_8
 =>l7 (ilt x_8 x) (some []) (some x_1.1)) (some x_1.1)) fun x_5=>l7 (ieq (o8 x_5) 0) (l9 (lat x x_1.2) fun x_6=>
 l9 (I9 x (toN x_1.2)) fun x=>l9 (X9 x_5 [x]) fun x=>some (.inl (x,x8 .i64 x_1.2 1))) (l9 (lat x
 x_1.2) fun x_6=>l9 (I9 x (toN x_1.2)) fun x_7=>l9 (lat a1 x_7) fun x_8=>l9 (lat x_5 0) fun x_9=>
 l9 (I9 x_5 (toN 0)) fun x_10=>l9 (lat a1 x_10) fun x_11=>l7 (ieq x_8 x_11) (l9 (lat x x_1.2) fun x_12=>
 l9 (I9 x (toN x_1.2)) fun x=>l9 (X9 x_5 [x]) fun x=>some (.inl (x,x8 .i64 x_1.2 1))) (some (.inl
 (x_5,x8 .i64 x_1.2 1)))))) (some (.inr x_1.1))) ([],0)) fun y=>some y
def tu (r120:List Int→List Int→List Bool→Int→Option Int) (r152:List Int→List Int→List Bool→Int→Option (List Int))
 (r153:List Int→List Int→List Bool→Int→Option Int) (a0:List Int) (a1:List Int) (a2:List Bool) (a3:Int):Option Int:=l9 (r120
 a0 a1 a2 a3) fun x=>l7 (ieq x (-1)) (l9 (lat a2 a3) fun x_1=>l7 x_1 (some a3) (some x)) (some x)
def F9:Nat→(M.den (.dat y32)→M.den (.dat y32)→M.den (.dat (.sl .bool))→M.den diM→Option (U4 ([uiM]++[])))×(M.den (.dat y32)→M.den (.dat y32)→M.den (.dat (.sl .bool))→M.den diM→Option (U4 ([(false,(.dat y32))]++[])))×(M.den (.dat y32)→M.den (.dat y32)→M.den (.dat (.sl .bool))→M.den diM→Option (U4 ([uiM]++[])))
 | 0=>(fun a0 a1 a2 a3=>none,fun a0 a1 a2 a3=>none,fun a0 a1 a2 a3=>none)
 | n+1=>(fun a0 a1 a2 a3=>qP (F9 n).1 (F9 n).2.1 (F9 n).2.2 a0 a1 a2 a3,fun a0 a1 a2 a3=>xU (F9 n).1 (F9 n).2.1 (F9 n).2.2 a0 a1 a2 a3,fun a0 a1 a2 a3=>tu (F9 n).1 (F9 n).2.1 (F9 n).2.2 a0 a1 a2 a3)
def zQ:M.den (.dat y32)→M.den (.dat y32)→M.den (.dat (.sl .bool))→M.den diM→Option (U4 ([uiM]++[])):=fun a0 a1 a2 a3=>(F9 bJ).1 a0 a1 a2 a3
def yK (a0:List Int) (a1:List Int) (a2:List Bool):Option Int:=l9 (vF a0 a1) fun x=>l7 (D6 (ieq x 0))
 (some (-1)) (l7 (D6 (ieq (o8 a2) (o8 a0))) (some (-1)) (l9 (zQ a0 a1 a2 (-1)) fun x=>some x))
def vI (a0:A8) (a1:P5) (a2:Int) (a3:Int):Option (Int×E8):=l9 (yL a0 a3 a1.1) fun(x:
 Z5)=>l9 (J9 (fun(x_1:E8×List Bool×Int)=>l7 (ilt x_1.2.2 (o8 x.1)) (l9 (lat x.1 x_1.2.2) fun x_2
 =>l9 (I9 x.1 (toN x_1.2.2)) fun x_3=>l9 (lat a0.2.2.2.2 x_3) fun x_4=>l7 (ieq (o8 x_4.2.2.2.2.2.1) 0) (l9
 (X9 x_1.2.1 [true]) fun x=>some (.nx (x_1.1,x,x8 .i64 x_1.2.2 1))) (l9 (zN x_4.2.2.2.2.2.1 a1) fun(x_5:
 F8×Int)=>l7 (D6 (ieq x_5.2 0)) (l9 (lat x.1 x_1.2.2) fun x_6=>l9 (I9 x.1 (toN x_1.2.2)) fun x=>some (.rt
 (0,x_5.2,a2,a3,x))) (l9 (X9 x_1.2.1 [ieq x_5.1.2.2 1]) fun x=>some (.nx (x_1.1,x,x8 .i64 x_1.2.2 1))))) (some
 (.ex (x_1.1,x_1.2.1)))) ((0,0,0,0),[],0)) fun o=>L8 o (fun(y:E8×List Bool)=>
 l9 (yK x.2.1 x.2.2 y.2) fun x_1=>l7 (ilt x_1 0) (some (x_1,0,0,0,0)) (l9 (lat x.1 x_1) fun x_2=>l9
 (I9 x.1 (toN x_1)) fun x=>some (x,0,0,0,0))) fun r=>some r
def d0f:List MG:=[(true,(.dat y24)),(true,(.dat y42)),uiM,uiM]
def d1K:Ret:=⟨[(.cell 8 60,(true,(.dat y3))),(.tmp 9,uiM),(.cell 10 39,(true,(.dat y37)))],[]⟩
def yN (a0:A8) (a1:P5) (a2:Int) (a3:Int):Option (F8×Int×E8):=l9 (vI a0 a1 a2 a3) fun x=>l7 (D6 (ieq x.2.1 0)) (some ((0,0,0),0,x.2)) (l7 (ieq x.1 (-1)) (some ((0,0,0),0,10,a2,a3,-1)) (l7 (ieq x.1
 (-2)) (some ((0,0,0),0,11,a2,a3,-1)) (l9 (lat a0.2.2.2.2 x.1) fun x_1=>l9 (zN x_1.2.2.2.2.2.2.1 a1) fun(x_2:
 F8×Int)=>l7 (D6 (ieq x_2.2 0)) (some ((0,0,0),0,x_2.2,a2,a3,x.1)) (some (x_2.1,x.1,0,0,0,0)))))
def s63:FSpec:=mkS d0f d1K fun x=>yN x.1 x.2.1 x.2.2.1 x.2.2.2
def e34:Env:=⟨74,eqs,tt,gl,[(62,s62),(63,s63)],[],[],[],[]⟩
def gI (a0:A8) (a1:P5) (a2:Int) (a3:List Bool):Option (List F8×List Int×E8):=l9 (gU (o8
 a0.2.2.2.1) (0,0,0)) fun x=>l9 (gU (o8 a0.2.2.2.1) 0) fun x_1=>l9 (jw a0) fun(x_2:
 List Int×Int)=>l9 (J9 (fun(x:(Int×List F8×PUnit×List (List F8)×List F6×List V8)×E8×List F8×
 List Int×Int)=>l7 (ilt x.2.2.2.2 (o8 x_2.1)) (l9 (lat x_2.1 x.2.2.2.2) fun x_3=>l9 (I9 x_2.1 (toN x.2.2.2.2)) fun(x_4:
 Int)=>l9 (lat a3 x_4) fun x_5=>l7 (D6 x_5) (some (.nx ((x.1.1,x.1.2.1,(),x.1.2.2.2),x.2.1,x.2.2.1,x.2.2.2.1,
 x8 .i64 x.2.2.2.2 1))) (l9 (yN a0 (x.1.1,x.1.2.1,x.2.2.1,x.1.2.2.2) a2 x_4) fun x_6=>l7
 (D6 (ieq x_6.2.2.1 0)) (some (.rt ([],[],x_6.2.2))) (l9 (lat x.2.2.1 x_4) fun x_7=>l9 (I9 x.2.2.1 (toN x_4)) fun(x_8:
 F8)=>l9 (lat x.2.2.2.1 x_4) fun x_9=>l9 (I9 x.2.2.2.1 (toN x_4)) fun x_10=>some (.nx ((x.1.1,x.1.2.1,
 (),x.1.2.2.2),x.2.1,S9 x.2.2.1 (toN x_4) x_6.1,S9 x.2.2.2.1 (toN x_4) x_6.2.1,x8 .i64 x.2.2.2.2 1))))) (some (.ex
 (x.2.1,x.2.2.1,x.2.2.2.1)))) ((a1.1,a1.2.1,(),a1.2.2.2),(0,0,0,0),x,x_1,0)) fun o=>L8 o (fun(y:E8×kw)=>some (y.2.1,y.2.2,0,0,0,0)) fun r=>some r
def dD (a0:L6) (a1:Int) (a2:U8) (a3:List Bool):Option (List (List F8)×List (List Int)×E8):=l9
 (aB a0 a1) fun x=>l9 (J9 (fun(x_1:E8×List (List F8)×List (List Int)×Int)=>l7 (ilt
 x_1.2.2.2 (o8 a2.2.2)) (l9 (xW a0 a2 x_1.2.2.2) fun x_2=>l9 (gI x x_2 x_1.2.2.2 a3) fun x=>l7 (D6 (ieq x.2.2.1 0)) (some (.rt ([],[],x.2.2))) (l9 (X9 x_1.2.1 [x.1]) fun x_3
 =>l9 (X9 x_1.2.2.1 [x.2.1]) fun x=>some (.nx (x_1.1,x_3,x,x8 .i64 x_1.2.2.2 1)))) (some (.ex (x_1.1,
 x_1.2.1,x_1.2.2.1)))) ((0,0,0,0),[],[],0)) fun o=>L8 o (fun(y:E8×List (List F8)×List (List Int))=>some (y.2.1,y.2.2,0,0,0,0)) fun r=>some r
def zg (a0:L6) (a1:Int) (a2:U8) (a3:List (List F8)):Option P5:=l9 (aB a0 a1) fun x=>l9
 (N8 (fun(x_1:P5×Int)=>l7 (ilt x_1.2 (o8 x.2.2.2.1)) (l9 (lat x.2.2.2.1 x_1.2) fun x=>l9 (X9 x_1.1.2.2.2.2.1
 [x.2]) fun x=>some (.inl ((x_1.1.1,x_1.1.2.1,x_1.1.2.2.1,x_1.1.2.2.2.1,x,x_1.1.2.2.2.2.2),x8 .i64 x_1.2 1))) (some
 (.inr x_1.1))) ((a2.1,a2.2.1,[],a3,[],a0.2.1),0)) fun y=>some y
def c9l:List MG:=[(true,(.dat y27)),uiM,(true,(.dat y31))]
def d0N:Ret:=⟨[(.cell 6 36,(true,(.dat y36))),(.cell 7 39,(true,(.dat y37)))],[]⟩
def CV (a0:L6) (a1:Int) (a2:U8):Option (dY×E8):=l9 (lG a0 a1 a2 0 false) fun x=>
 l7 (D6 (ieq x.1 0)) (some (([],[],[]),x)) (l9 (aB a0 a1) fun x=>l9 (xH (o8 x.2.2.2.1)) fun(x:
 List Bool)=>l9 (dD a0 a1 a2 x) fun x=>l7 (D6 (ieq x.2.2.1 0))
 (some (([],[],[]),x.2.2)) (l9 (lat a0.2.2 a1) fun x_1=>l9 (zg a0 a1 a2 x.1) fun x_2=>l9 (xH (o8
 x_1.2.2.2.1)) fun x_3=>l9 (gI x_1 x_2 (-1) x_3) fun x_4=>l7 (D6 (ieq
 x_4.2.2.1 0)) (some (([],[],[]),x_4.2.2)) (l9 (N8 (fun(x_5:dY×Int)=>l7 (ilt x_5.2 (o8 x.1)) (l9 (lat x.1 x_5.2) fun(x_6
 :List F8)=>l9 (lat x.2.1 x_5.2) fun x_7=>l9 (I9 x.2.1 (toN x_5.2)) fun x=>l9 (X9 x_5.1.2.2 [(x_6,
 x)]) fun x=>some (.inl ((x_5.1.1,x_5.1.2.1,x),x8 .i64 x_5.2 1))) (some (.inr x_5.1))) ((x_4.1,x_4.2.1,
 []),0)) fun y=>some (y,0,0,0,0))))
def s13:FSpec:=mkS c9l d0N fun x=>CV x.1 x.2.1 x.2.2
def c9q:List MG:=[(false,(.dat y28)),(false,(.dat y28))]
def d0W:Ret:=⟨[(.tmp 4,ubM)],[]⟩
def e20:Env:=⟨32,eqs,tt,gl,[],[],[],[],[]⟩
def d5W:Ann:=.seq lfA (.seq lfA (.seq (.seq lfA (.blk (.loopR [(4,6),(11,32)] ⟨[(5,uiM)],[]⟩ 0 ⟨[],[]⟩ lfA))) lfA))
def xJ (a0:List F8) (a1:List F8):Option Bool:=l7 (D6 (ieq (o8 a0) (o8 a1))) (some false) (l9 (J9 (fun(x:
 Int)=>l7 (ilt x (o8 a0)) (l7 (ilt x (o8 a1)) (l9 (lat a0 x) fun x_1=>l9 (lat a1 x) fun x_2=>l7 (D6
 (aH (ieq x_1.1 x_2.1) (aH (ieq x_1.2.1 x_2.2.1) (ieq x_1.2.2 x_2.2.2)))) (some (.rt false)) (some (.nx (x8 .i64 x 1)))) (some
 (.ex ()))) (some (.ex ()))) 0) fun o=>L8 o (fun(y:PUnit)=>some true) fun r=>some r)
def s20:FSpec:=mkS c9q d0W fun x=>xJ x.1 x.2
def oq (a0:kw) (a1:kw):Option Bool:=l9 (xJ a0.1 a1.1) fun x=>l7 x (l9
 (zk a0.2 a1.2) fun x=>some x) (some false)
def mV (a0:List kw) (a1:List kw):Option Bool:=l7 (D6 (ieq (o8 a0) (o8 a1))) (some false) (l9
 (J9 (fun(x:Int)=>l7 (ilt x (o8 a0)) (l7 (ilt x (o8 a1)) (l9 (lat a0 x) fun x_1=>l9 (lat a1 x) fun(x_2:
 kw)=>l9 (oq x_1 x_2) fun x_3=>l7 (D6 x_3) (some (.rt false)) (some (.nx (x8 .i64 x
 1)))) (some (.ex ()))) (some (.ex ()))) 0) fun o=>L8 o (fun(y:PUnit)=>some true) fun r=>
 some r)
def c9m:List MG:=[(true,(.dat y36)),(true,(.dat y36))]
def d0P:Ret:=⟨[(.tmp 4,ubM)],[]⟩
def xI (a0:dY) (a1:dY):Option Bool:=l9 (xJ a0.1 a1.1) fun x=>l7 x (l9 (zk a0.2.1
 a1.2.1) fun x=>l7 x (l9 (mV a0.2.2 a1.2.2) fun x=>some x) (some false)) (some false)
def s14:FSpec:=mkS c9m d0P fun x=>xI x.1 x.2
def ps3:List MG:=[(true,(.dat y27)),uiM,(true,(.dat y31))]
def rt3:Ret:=⟨[(.tmp 6,ubM)],[]⟩
def e3:Env:=⟨41,eqs,tt,gl,[(10,s10),(11,s11),(12,s12),(13,s13),(14,s14)],[],[],[],[]⟩
def xP (a0:L6) (a1:Int) (a2:U8):Option Bool:=l9 (lL a0 a2) fun x=>l7 (D6 x) (l9 bz
 fun x=>some x) (l9 (lX a0 a1 a2) fun x=>l9 (CV a0 a1 a2) fun x_1
 =>l9 (xI x.1 x_1.1) fun x_2=>l7 x_2 (l7 (aH (ieq x.2.1 x_1.2.1) (aH (ieq x.2.2.1 x_1.2.2.1) (aH (ieq x.2.2.2.1
 x_1.2.2.2.1) (ieq x.2.2.2.2 x_1.2.2.2.2)))) (l9 bz fun x=>some x) (some false)) (some false))
def s3:FSpec:=mkS ps3 rt3 fun x=>xP x.1 x.2.1 x.2.2
def xZ (a0:X0) (a1:Int) (a2:Int):Option Bool:=l7 (ieq a0.2.1 a1) (l9 (aI a0.2.2.2.2.1 a2) fun(x:
 Bool)=>some x) (some false)
def lV (a0:List X0) (a1:F6):Option (List Int×List Int):=l9 (gU (o8 a0) 0) fun x=>l9
 (N8 (fun(x:List Int×List Int×List Int×Int)=>l7 (ilt x.2.2.2 (o8 a0)) (l9 (lat a0 x.2.2.2) fun x_1=>l9 (l7
 (ile 0 x_1.2.2.1) (l7 (ilt x_1.2.2.1 x.2.2.2) (l9 (lat x.2.2.1 x_1.2.2.1) fun x_2=>l9 (I9 x.2.2.1 (toN x_1.2.2.1)) fun x
 =>some x) (some (-1))) (some (-1))) fun x_2=>l9 (lat x.2.2.1 x.2.2.2) fun x_3=>l9 (I9 x.2.2.1 (toN x.2.2.2)) fun(x_4:
 Int)=>l9 (xZ x_1 a1.1 a1.2) fun x_5=>l7 x_5 (l9 (lat (S9 x.2.2.1 (toN x.2.2.2) x_2) x.2.2.2) fun x_6
 =>l9 (I9 (S9 x.2.2.1 (toN x.2.2.2) x_2) (toN x.2.2.2)) fun x_7=>l9 (X9 x.1 [x.2.2.2]) fun x_8=>l9 (X9
 x.2.1 [x_2]) fun x_9=>some (.inl (x_8,x_9,S9 (S9 x.2.2.1 (toN x.2.2.2) x_2) (toN x.2.2.2) (o8 x.1),x8 .i64
 x.2.2.2 1))) (some (.inl (x.1,x.2.1,S9 x.2.2.1 (toN x.2.2.2) x_2,x8 .i64 x.2.2.2 1)))) (some (.inr (x.1,x.2.1)))) ([],[],x,
 0)) fun y=>some y
def jQ (a0:A8) (a1:Int) (a2:Int):Option (List Int):=l9 (lV a0.2.2.2.2 (a1,a2)) fun x=>some x.1
def wX (a0:A8) (a1:Int) (a2:Int) (a3:Int):Option Bool:=l9 (jQ a0 a1 a3) fun x=>l9
 (J9 (fun(x_1:Int)=>l7 (ilt x_1 (o8 x)) (l9 (lat x x_1) fun x_2=>l9 (I9 x (toN x_1)) fun x=>l7 (ieq x a2)
 (l7 (ile 0 a2) (some (.rt (ilt a2 (o8 a0.2.2.2.2)))) (some (.rt false))) (some (.nx (x8 .i64 x_1 1)))) (some (.ex
 ()))) 0) fun o=>L8 o (fun(y:PUnit)=>some false) fun r=>some r
def c9n:List MG:=[(true,(.dat y24)),(true,(.dat y42)),(false,(.dat y28)),(false,(.dat y32))]
def d0Q:Ret:=⟨[(.tmp 8,ubM)],[]⟩
def kH (a0:A8) (a1:P5) (a2:List F8) (a3:List Int):Option Bool:=l9 (l7 (D6 (ieq (o8 a2) (o8 a0.2.2.2.1)))
 (some (.inr false)) (l7 (D6 (ieq (o8 a3) (o8 a0.2.2.2.1))) (some (.inr false)) (some (.inl ())))) fun o=>
 L8 o (fun(x:PUnit)=>l9 (J9 (fun(x:Int)=>l7 (ilt x (o8 a0.2.2.2.1)) (l9 (lat a3 x) fun x_1=>l9 (wX
 a0 x x_1 a1.1) fun x_2=>l7 (D6 x_2) (some (.rt false)) (l9 (lat a3 x) fun x_3=>l9 (lat a0.2.2.2.2 x_3) fun(x_4:
 X0)=>l9 (wo x_4.2.2.2.2.2.2.1 (a1.1,a1.2.1,a2,a1.2.2.2)) fun x_5=>l7 (D6 (ieq x_5.2 0)) (some (.rt
 false)) (l9 (lat a2 x) fun x_6=>l7 (D6 (aH (ieq x_5.1.1 x_6.1) (aH (ieq x_5.1.2.1 x_6.2.1) (ieq x_5.1.2.2 x_6.2.2)))) (some
 (.rt false)) (some (.nx (x8 .i64 x 1)))))) (some (.ex ()))) 0) fun o=>L8 o (fun(y:PUnit)=>some
 true) fun r=>some r) fun r=>some r
def s15:FSpec:=mkS c9n d0Q fun x=>kH x.1 x.2.1 x.2.2.1 x.2.2.2
def ps4:List MG:=[(true,(.dat y27)),uiM,(true,(.dat y31))]
def rt4:Ret:=⟨[(.tmp 6,ubM)],[]⟩
def e4:Env:=⟨156,eqs,tt,gl,[(10,s10),(11,s11),(12,s12),(15,s15)],[],[],[],[]⟩
def kG (a0:L6) (a1:Int) (a2:U8):Option Bool:=l9 (lL a0 a2) fun x=>l7 (D6 x) (l9
 bz fun x=>some x) (l9 (lX a0 a1 a2) fun x=>l7 (D6 (ieq x.2.1 0)) (l7 (ieq (o8
 x.1.1) 0) (l9 bz fun x=>some x) (some false)) (l9 (l7 (ilt a1 0) (some (.inr false)) (l7 (ile (o8 a0.2.2) a1)
 (some (.inr false)) (l7 (D6 (ieq (o8 x.1.2.2) (o8 a2.2.2))) (some (.inr false)) (some (.inl ()))))) fun o
 =>L8 o (fun(x_1:PUnit)=>l9 (lat a0.2.2 a1) fun x_2=>l9 (l9 (l7 (ile 0 x_2.2.1) (some (ilt x_2.2.1 (o8 a0.2.2)))
 (some false)) fun x_3=>l7 x_3 (l9 (lat a0.2.2 x_2.2.1) fun x_4=>l9 (N8 (fun(x:(Int×List F8×List F8
 ×PUnit×List F6×List V8)×Int)=>l7 (ilt x.2 (o8 x_4.2.2.2.1)) (l9 (lat x_4.2.2.2.1 x.2) fun x_5=>l9 (X9
 x.1.2.2.2.2.1 [x_5.2]) fun x_6=>some (.inl ((x.1.1,x.1.2.1,x.1.2.2.1,(),x_6,x.1.2.2.2.2.2),x8 .i64 x.2
 1))) (some (.inr (x.1.1,x.1.2.1,x.1.2.2.1,(),x.1.2.2.2.2)))) ((a2.1,a2.2.1,[],(),[],a0.2.1),0)) fun y=>l9 (J9 (fun(x_5:P5×Int)=>l7 (ilt x_5.2 (o8 x.1.2.2)) (l9 (lat
 a2.2.2 x_5.2) fun x_6=>l9 (lat x.1.2.2 x_5.2) fun x_7=>l9 (lat x.1.2.2 x_5.2) fun x_8
 =>l9 (kH x_4 (a2.1,x_6,[],[],[],a0.2.1) x_7.1 x_8.2) fun x_9=>l7 (D6 x_9) (some (.rt false)) (l9 (lat
 x.1.2.2 x_5.2) fun x=>l9 (X9 x_5.1.2.2.2.1 [x.1]) fun x=>some (.nx ((x_5.1.1,x_5.1.2.1,
 x_5.1.2.2.1,x,x_5.1.2.2.2.2),x8 .i64 x_5.2 1)))) (some (.ex x_5.1))) ((y.1,y.2.1,y.2.2.1,[],y.2.2.2.2),0)) fun o
 =>L8 o (fun(y:P5)=>some (.inl y)) fun r=>some (.inr r)) (some (.inl (a2.1,a2.2.1,[],[],[],a0.2.1)))) fun o=>L8 o (fun(x_3:P5)=>l9 (kH x_2 x_3 x.1.1 x.1.2.1) fun x=>l7 x (l9 bz fun x=>
 some x) (some false)) fun r=>some r) fun r=>some r))
def s4:FSpec:=mkS ps4 rt4 fun x=>kG x.1 x.2.1 x.2.2
def e4v:List MG:=[uiM,(true,(.dat y2)),(false,(.dat y1))]
def e4z:Ret:=⟨[(.tmp 6,ubM)],[]⟩
def e40:Env:=⟨23,eqs,tt,gl,[(67,s67)],[],[],[],[]⟩
def e4N:Ann:=.leaf
def WJ (a0:Int) (a1:F6) (a2:List bK):Option Bool:=l9 (iT a1 a2) fun x=>l7 (ile x.1 a0) (some
 (ile a0 x.2)) (some false)
def s40:FSpec:=mkS e4v e4z fun x=>WJ x.1 x.2.1 x.2.2
def e1l:List MG:=[(true,(.dat y3)),(false,(.dat y1))]
def e1n:Ret:=⟨[(.tmp 4,ubM)],[]⟩
def e16:Env:=⟨21,eqs,tt,gl,[(39,s39),(40,s40)],[],[],[],[]⟩
def e4L:Ann:=.leaf
def Za (a0:F8) (a1:List bK):Option Bool:=l9 (ak (a0.1,a0.2.1) a1) fun x=>l7 x (l9
 (WJ a0.2.2 (a0.1,a0.2.1) a1) fun x=>some x) (some false)
def s16:FSpec:=mkS e1l e1n fun x=>Za x.1 x.2
def ps5:List MG:=[(true,(.dat y27)),uiM,(true,(.dat y31))]
def rt5:Ret:=⟨[(.tmp 6,ubM)],[]⟩
def e5:Env:=⟨98,eqs,tt,gl,[(10,s10),(11,s11),(12,s12),(16,s16)],[],[],[],[]⟩
def an5:Ann:=.seq lfA (.seq lfA (.seq lfA (.seq lfA (.seq (.joinR [(6,7),(27,49)] ⟨[],[]⟩ lfA) (.seq (.seq lfA (.blk (.loopR [(6,7),(9,11),(49,97)] ⟨[(9,uiM)],[]⟩ 0 ⟨[],[]⟩ lfA))) lfA)))))
def gG (a0:L6) (a1:Int) (a2:U8):Option Bool:=l9 (lL a0 a2) fun x=>l7 (D6 x) (l9
 bz fun x=>some x) (l9 (lX a0 a1 a2) fun x=>l7 (D6 (ieq x.2.1 0)) (l9 bz
 fun x=>some x) (l9 (l7 (ilt a1 0) (some (.inr false)) (l7 (ile (o8 a0.2.2) a1) (some (.inr false)) (l9 (lat a0.2.2 a1)
 fun x_1=>l7 (D6 (ieq (o8 x.1.1) (o8 x_1.2.2.2.1))) (some (.inr false)) (some (.inl ()))))) fun o
 =>L8 o (fun(x_1:PUnit)=>l9 (J9 (fun(x_2:Int)=>l7 (ilt x_2 (o8 x.1.1)) (l9 (lat a0.2.2 a1) fun x_3=>l9 (lat
 x_3.2.2.2.1 x_2) fun x_4=>l9 (lat x.1.1 x_2) fun x_5=>l9 (Za x_5 a0.1) fun x_6=>l7 (D6 x_6)
 (some (.rt false)) (l9 (lat x.1.1 x_2) fun x_7=>l7 (D6 (ieq x_7.1 x_4.2.1)) (some (.rt false)) (l9 (lat x.1.1 x_2) fun
 (x:F8)=>l7 (D6 (ieq x.2.1 x_4.2.2)) (some (.rt false)) (some (.nx (x8 .i64 x_2 1)))))) (some (.ex ()))) 0) fun
 (o:PUnit⊕Bool)=>L8 o (fun(y:PUnit)=>l9 bz fun x=>some x) fun r=>some r) fun r=>some r))
def s5:FSpec:=mkS ps5 rt5 fun x=>gG x.1 x.2.1 x.2.2
def rP (a0:A8) (a1:Int):Option (List Int):=l9 (l7 (ilt a1 0) (some (.inr [])) (l7 (ile (o8 a0.2.2.2.1) a1)
 (some (.inr [])) (some (.inl ())))) fun o=>L8 o (fun(x:PUnit)=>l9 (gU (o8 a0.2.2.2.1) false) fun
 (x:List Bool)=>l9 (lat x a1) fun x_1=>l9 (I9 x (toN a1)) fun x_2=>l9 (kX a0) fun x_3=>l9 (pX x_3 a1) fun x_4=>l9 (N8 (fun(x:List Bool×Int)=>l7 (ilt x.2 (o8 x_4)) (l9 (lat x_4
 x.2) fun x_5=>l9 (I9 x_4 (toN x.2)) fun x_6=>l9 (lat x.1 x_6) fun x_7=>l9 (I9 x.1 (toN x_6)) fun(x_8:
 Bool)=>some (.inl (S9 x.1 (toN x_6) true,x8 .i64 x.2 1))) (some (.inr x.1))) (S9 x (toN a1) true,0)) fun y=>
 l9 (N8 (fun(x:List Int×Int)=>l7 (ilt x.2 (o8 a0.2.2.2.2)) (l9 (lat a0.2.2.2.2 x.2) fun x_5=>l7 (ilt x_5.2.1 0)
 (some (.inl (x.1,x8 .i64 x.2 1))) (l7 (ile (o8 a0.2.2.2.1) x_5.2.1) (some (.inl (x.1,x8 .i64 x.2 1))) (l9 (lat y
 x_5.2.1) fun x_6=>l9 (I9 y (toN x_5.2.1)) fun x_7=>l7 (D6 x_7) (some (.inl (x.1,x8 .i64 x.2 1))) (l9
 (fB x_5.2.2.2.2.2.1) fun x_8=>l9 (fB x_5.2.2.2.2.2.2.1) fun x_9=>l9 (X9
 x.1 x_8.2.2) fun x_10=>l9 (X9 x_10 x_9.2.2) fun x_11=>some (.inl (x_11,x8 .i64 x.2 1)))))) (some
 (.inr x.1))) ([],0)) fun y=>l9 (uD y) fun x=>some x) fun r=>some r
def bY (a0:I4) (a1:Int):Option I4:=l9 (lat a0.2.2.2 a1) fun x=>l9 (I9 a0.2.2.2
 (toN a1)) fun x=>l9 (jD a0.2.1 a1) fun x=>l9 (N8 (fun(x_1:I4×Int)=>l7 (ilt x_1.2
 (o8 x)) (l9 (lat x x_1.2) fun x_2=>l9 (I9 x (toN x_1.2)) fun x=>l9 (lat x_1.1.2.2.2 x) fun x_3=>l9
 (I9 x_1.1.2.2.2 (toN x)) fun x_4=>some (.inl ((x_1.1.1,x_1.1.2.1,x_1.1.2.2.1,S9 x_1.1.2.2.2 (toN x) true),x8 .i64
 x_1.2 1))) (some (.inr x_1.1))) ((a0.1,a0.2.1,a0.2.2.1,S9 a0.2.2.2 (toN a1) true),0)) fun y=>some y
def iH (a0:I4) (a1:Int):Option I4:=l9 (lat a0.2.2.1 a1) fun x=>l9 (I9 a0.2.2.1 (toN
 a1)) fun x=>l9 (jD a0.1 a1) fun x=>l9 (N8 (fun(x_1:I4×Int)=>l7 (ilt x_1.2 (o8
 x)) (l9 (lat x x_1.2) fun x_2=>l9 (I9 x (toN x_1.2)) fun x=>l9 (lat x_1.1.2.2.1 x) fun x_3=>l9 (I9
 x_1.1.2.2.1 (toN x)) fun x_4=>some (.inl ((x_1.1.1,x_1.1.2.1,S9 x_1.1.2.2.1 (toN x) true,x_1.1.2.2.2),x8 .i64 x_1.2 1)))
 (some (.inr x_1.1))) ((a0.1,a0.2.1,S9 a0.2.2.1 (toN a1) true,a0.2.2.2),0)) fun y=>l9 (rP y.1 a1) fun(x
 :List Int)=>l9 (N8 (fun(x_1:I4×Int)=>l7 (ilt x_1.2 (o8 x)) (l9 (lat x x_1.2) fun x_2=>l9 (I9 x (toN
 x_1.2)) fun x=>l9 (bY x_1.1 x) fun x=>some (.inl (x,x8 .i64 x_1.2 1))) (some
 (.inr x_1.1))) (y,0)) fun y=>some y
def c9o:List MG:=[(true,(.dat y27)),uiM,(true,(.dat y31)),uiM]
def d0U:Ret:=⟨[(.cell 8 60,(true,(.dat y3))),(.tmp 9,uiM),(.cell 10 39,(true,(.dat y37)))],[]⟩
def lg (a0:L6) (a1:Int) (a2:U8) (a3:Int):Option (F8×Int×E8):=l9 (dC a0 a1 a2 true
 a3) fun x=>l7 (D6 (ieq x.1 0)) (some ((0,0,0),0,x)) (l9 (jI a0 a1) fun x=>l9
 (iH x a3) fun x=>l9 (jH a0 a1 a2 x) fun x=>
 l7 (D6 (ieq x.2.2.1.1 0)) (some ((0,0,0),0,x.2.2.1)) (l9 (lat x.1.1 a3) fun x_1=>l9 (lat x.1.2.1 a3) fun x=>
 some (x_1,x,0,0,0,0)))
def s17:FSpec:=mkS c9o d0U fun x=>lg x.1 x.2.1 x.2.2.1 x.2.2.2
def kN (a0:A8) (a1:List Bool) (a2:Int):Option (List Bool):=l9 (lat a1 a2) fun x=>l9 (I9 a1 (toN a2)) fun
 (x:Bool)=>l9 (iZ a0 a2) fun x=>l9 (N8 (fun(x_1:List Bool×Int)=>l7 (ilt x_1.2 (o8 x)) (l9
 (lat x x_1.2) fun x=>l9 (lat x_1.1 x) fun x_2=>l9 (I9 x_1.1 (toN x)) fun x_3=>some (.inl (S9 x_1.1 (toN
 x) true,x8 .i64 x_1.2 1))) (some (.inr x_1.1))) (S9 a1 (toN a2) true,0)) fun y=>some y
def qy (a0:A8) (a1:Int):Option (List Int):=l9 (xG a0 a1) fun x=>l7 (D6 x) (some []) (l9
 (iZ a0 a1) fun x=>l9 (dJ x a1) fun x=>l9 (N8 (fun(x_1:List Int×Int)=>l7 (ilt
 x_1.2 (o8 a0.2.2.2.2)) (l9 (lat a0.2.2.2.2 x_1.2) fun x_2=>l9 (ui x x_2.2.1) fun x=>l7 (D6 x) (some
 (.inl (x_1.1,x8 .i64 x_1.2 1))) (l9 (lat a0.2.2.2.2 x_1.2) fun x=>l9 (dW x.2.2.2.2.2.1) fun(x:
 Z5)=>l9 (lat a0.2.2.2.2 x_1.2) fun x_3=>l9 (dW x_3.2.2.2.2.2.2.1) fun x_4=>l9
 (N8 (fun(x_5:List Int×Int)=>l7 (ilt x_5.2 (o8 x.2.2)) (l9 (lat x.2.2 x_5.2) fun x_6=>l9 (I9 x.2.2 (toN x_5.2)) fun
 (x:Int)=>l9 (dJ x_5.1 x) fun x=>some (.inl (x,x8 .i64 x_5.2 1))) (some (.inr x_5.1))) (x_1.1,0)) fun
 (y:List Int)=>l9 (N8 (fun(x:List Int×Int)=>l7 (ilt x.2 (o8 x_4.2.2)) (l9 (lat x_4.2.2 x.2) fun x_5=>l9 (I9
 x_4.2.2 (toN x.2)) fun x_6=>l9 (dJ x.1 x_6) fun x_7=>some (.inl (x_7,x8 .i64 x.2 1))) (some
 (.inr x.1))) (y,0)) fun y=>some (.inl (y,x8 .i64 x_1.2 1)))) (some (.inr x_1.1))) ([],0)) fun y=>
 some y)
def gJ (a0:L6) (a1:Int) (a2:List Bool) (a3:Int):Option (List Bool):=l9 (lat a0.2.2 a1) fun x=>l9
 (qy x a3) fun x=>l9 (N8 (fun(x_1:List Bool×Int)=>l7 (ilt x_1.2 (o8 x)) (l9 (aB a0
 a1) fun x_2=>l9 (lat x x_1.2) fun x_3=>l9 (I9 x (toN x_1.2)) fun x=>l9 (kN x_2 x_1.1 x) fun(x
 :List Bool)=>some (.inl (x,x8 .i64 x_1.2 1))) (some (.inr x_1.1))) (a2,0)) fun y=>some y
def tC (a0:L6) (a1:Int) (a2:U8) (a3:Int):Option (F8×Int×E8):=l9 (lat a0.2.2 a1) fun x
 =>l9 (gU (o8 x.2.2.2.1) false) fun x_1=>l9 (kN x x_1 a3) fun x_2=>l9 (aB a0
 a1) fun x_3=>l9 (gU (o8 x_3.2.2.2.1) false) fun x_4=>l9 (gJ a0 a1 x_4 a3) fun x_5=>l9 (dD a0 a1 a2 x_5) fun x_6=>l7 (D6 (ieq x_6.2.2.1 0))
 (some ((0,0,0),0,x_6.2.2)) (l9 (zg a0 a1 a2 x_6.1) fun x_7=>l9 (gI x x_7 (-1) x_2) fun x=>l7 (D6 (ieq x.2.2.1 0)) (some ((0,0,0),0,x.2.2)) (l9 (lat x.1 a3) fun x_8=>l9 (I9 x.1 (toN
 a3)) fun x_9=>l9 (lat x.2.1 a3) fun x_10=>l9 (I9 x.2.1 (toN a3)) fun x=>some (x_9,x,0,0,0,0)))
def c9p:List MG:=[(true,(.dat y27)),uiM,(true,(.dat y31)),uiM]
def d0V:Ret:=⟨[(.cell 8 60,(true,(.dat y3))),(.tmp 9,uiM),(.cell 10 39,(true,(.dat y37)))],[]⟩
def rC (a0:L6) (a1:Int) (a2:U8) (a3:Int):Option (F8×Int×E8):=l9 (lG a0 a1 a2 a3 true) fun
 (x:E8)=>l7 (D6 (ieq x.1 0)) (some ((0,0,0),0,x)) (l9 (tC a0 a1 a2 a3) fun x=>
 some x)
def s18:FSpec:=mkS c9p d0V fun x=>rC x.1 x.2.1 x.2.2.1 x.2.2.2
def e6:Env:=⟨54,eqs,tt,gl,[(10,s10),(11,s11),(17,s17),(18,s18)],[],[],[],[]⟩
def e4R:List MG:=[(false,(.dat (.sl .str)))]
def s43:FSpec:=⟨e4R,[(false,(.own .str))],[],fun x=>BO x⟩
def e4y:List MG:=[]
def e4C:Ret:=⟨[(.cell 0 97,(true,(.dat y2)))],[]⟩
def e71:Env:=⟨2,eqs,tt,gl,[],[],[],[],[]⟩
def e4Q:Ann:=.leaf
def zu:Option F6:=some (0,109573)
def s71:FSpec:=mkS e4y e4C fun x=>zu
def e4w:List MG:=[(true,(.dat y8)),uiM]
def e4A:Ret:=⟨[(.cell 4 109,(true,(.dat y8)))],[]⟩
def e44:Env:=⟨29,eqs,tt,gl,[(70,s70),(71,s71)],[],[],[],[]⟩
def e4O:Ann:=.seq lfA (.seq lfA (.seq (.seq lfA (.blk (.loop [(5,6),(7,8),(11,26)] ⟨[(5,(false,(.own y4))),(11,uiM)],[]⟩ 0 ⟨[(5,(false,(.own y4)))],[]⟩ lfA))) lfA))
def Js (a0:V8) (a1:Int):Option V8:=l9 (N8 (fun(x:List uw×Int)=>l7 (ilt x.2 (o8 a0.2.2.2)) (l9
 (lat a0.2.2.2 x.2) fun x_1=>l9 (aI x_1.1 a1) fun x_2=>l7 x_2 (l9 zu fun x_3
 =>l9 (X9 x.1 [(x_3,x_1.2)]) fun x_4=>some (.inl (x_4,x8 .i64 x.2 1))) (some (.inl (x.1,x8 .i64 x.2
 1)))) (some (.inr x.1))) ([],0)) fun y=>some (a0.1,a0.2.1,a0.2.2.1,y)
def s44:FSpec:=mkS e4w e4A fun x=>Js x.1 x.2
def e3y:List MG:=[(true,(.dat y19)),(false,(.rp (.int .i64)))]
def e3A:Ret:=⟨[(.tmp 3,ubM)],[]⟩
def e4u:Env:=⟨8,eqs,tt,gl,[(70,s70)],[],[],[],[]⟩
def e4d:Ann:=.leaf
def Hf (a0:X0) (a1:Int):Option Bool:=l9 (aI a0.2.2.2.2.1 a1) fun x=>some x
def e3D:FSpec:=mkS e3y e3A fun x=>Hf x.1 x.2
def e3x:List MG:=[(false,(.dat y20)),(false,(.fn 73 [(.int .i64)]))]
def e3z:Ret:=⟨[(.tmp 4,uoM),(.tmp 5,uoM)],[]⟩
def e4t:Env:=⟨59,eqs,tt,gl,[(73,e3D)],[],[],[],[]⟩
def e4c:Ann:=.seq lfA (.seq lfA (.seq lfA (.seq (.seq lfA (.blk (.loop [(6,12),(17,57),(10000896,10000897)] ⟨[(6,uoM),(7,uoM),(8,uoM),(17,uiM)],[]⟩ 0 ⟨[(6,uoM),(7,uoM)],[]⟩ (.seq lfA (.seq lfA (.seq (.blk (.seq lfA (.seq lfA (.seq (.join [(11,12),(22,36)] ⟨[(11,uiM)],[]⟩ lfA) lfA)))) lfA)))))) lfA)))
def Dv (a0:List X0) (a1:Int):Option (List Int×List Int):=l9 (gU (o8 a0) 0) fun x=>l9
 (N8 (fun(x:List Int×List Int×List Int×Int)=>l7 (ilt x.2.2.2 (o8 a0)) (l9 (lat a0 x.2.2.2) fun x_1=>l9 (l7
 (ile 0 x_1.2.2.1) (l7 (ilt x_1.2.2.1 x.2.2.2) (l9 (lat x.2.2.1 x_1.2.2.1) fun x_2=>l9 (I9 x.2.2.1 (toN x_1.2.2.1)) fun x
 =>some x) (some (-1))) (some (-1))) fun x_2=>l9 (lat x.2.2.1 x.2.2.2) fun x_3=>l9 (I9 x.2.2.1 (toN x.2.2.2)) fun(x_4:
 Int)=>l9 (Hf x_1 a1) fun x_5=>l7 x_5 (l9 (lat (S9 x.2.2.1 (toN x.2.2.2) x_2) x.2.2.2) fun x_6=>
 l9 (I9 (S9 x.2.2.1 (toN x.2.2.2) x_2) (toN x.2.2.2)) fun x_7=>l9 (X9 x.1 [x.2.2.2]) fun x_8=>l9 (X9 x.2.1
 [x_2]) fun x_9=>some (.inl (x_8,x_9,S9 (S9 x.2.2.1 (toN x.2.2.2) x_2) (toN x.2.2.2) (o8 x.1),x8 .i64 x.2.2.2 1)))
 (some (.inl (x.1,x.2.1,S9 x.2.2.1 (toN x.2.2.2) x_2,x8 .i64 x.2.2.2 1)))) (some (.inr (x.1,x.2.1)))) ([],[],x,0)) fun(y:
 List Int×List Int)=>some y
def e3Y:FSpec:=mkS e3x e3z fun x=>Dv x.1 x.2
def e4S:List MG:=[(false,(.dat y12))]
def s74:FSpec:=⟨e4S,[(false,(.own y2))],[],fun x=>BO x⟩
def e4T:List MG:=[(false,(.dat y11))]
def s75:FSpec:=⟨e4T,[(false,(.own y10))],[],fun x=>BO x⟩
def e4x:List MG:=[(true,(.dat y24)),uiM]
def e4B:Ret:=⟨[(.cell 4 47,(true,(.dat y24)))],[]⟩
def e45:Env:=⟨61,eqs,tt,gl,[(73,e3D),(72,e3Y),(71,s71),(74,s74),(75,s75)],[],[],[],[]⟩
def e4P:Ann:=.seq lfA (.seq lfA (.seq lfA (.seq (.seq lfA (.blk (.loop [(7,11),(20,50)] ⟨[(7,(false,(.own y19))),(20,uiM)],[]⟩ 0 ⟨[(7,(false,(.own y19)))],[]⟩ lfA))) lfA)))
def Jr (a0:A8) (a1:Int):Option A8:=l9 (Dv a0.2.2.2.2 a1) fun x=>
 l9 (N8 (fun(x_1:List X0×Int)=>l7 (ilt x_1.2 (o8 x.1)) (l9 (lat x.1 x_1.2) fun x_2=>l9 (I9 x.1 (toN x_1.2)) fun
 (x_3:Int)=>l9 (lat a0.2.2.2.2 x_3) fun x_4=>l9 (lat x.2 x_1.2) fun x_5=>l9 (I9 x.2 (toN x_1.2)) fun x=>
 l9 zu fun x_6=>l9 (BO x_4.2.2.2.2.2.1) fun x_7=>l9 (BO x_4.2.2.2.2.2.2.1) fun
 (x_8:List F6)=>l9 (X9 x_1.1 [(x_4.1,x_4.2.1,x,x_4.2.2.2.1,x_6,x_7,x_8,x_4.2.2.2.2.2.2.2)]) fun x=>some (.inl
 (x,x8 .i64 x_1.2 1))) (some (.inr x_1.1))) ([],0)) fun y=>l9 (BO a0.2.2.1) fun x=>l9
 (BO a0.2.2.2.1) fun x_1=>some (a0.1,a0.2.1,x,x_1,y)
def s45:FSpec:=mkS e4x e4B fun x=>Jr x.1 x.2
def e1m:List MG:=[(true,(.dat y27)),uiM]
def e1o:Ret:=⟨[(.cell 4 26,(true,(.dat y27)))],[]⟩
def e19:Env:=⟨63,eqs,tt,gl,[(43,s43),(44,s44),(45,s45)],[],[],[],[]⟩
def e4M:Ann:=.seq lfA (.seq lfA (.seq (.seq lfA (.blk (.loop [(5,6),(7,8),(15,30),(7000320,7000321)] ⟨[(5,(false,(.box (.pair (.own y0) (.pair (.cell (some none)) (.cell (some none))))))),(15,uiM)],[]⟩ 0 ⟨[(5,(false,(.box (.pair (.own y0) (.pair (.cell (some none)) (.cell (some none)))))))],[]⟩ lfA))) (.seq (.seq lfA (.blk (.loop [(5,6),(9,10),(33,46),(15000000,15000002)] ⟨[(5,(false,(.box (.pair (.own y0) (.pair (.own y8) (.cell (some none))))))),(33,uiM)],[]⟩ 2 ⟨[(5,(false,(.box (.pair (.own y0) (.pair (.own y8) (.cell (some none)))))))],[]⟩ lfA))) (.seq (.seq lfA (.blk (.loop [(5,6),(11,12),(49,62),(42000000,42000003)] ⟨[(5,(false,(.box (.pair (.own y0) (.pair (.own y8) (.own y24)))))),(49,uiM)],[]⟩ 4 ⟨[(5,(false,(.box (.pair (.own y0) (.pair (.own y8) (.own y24))))))],[]⟩ lfA))) lfA))))
def Ov (a0:L6) (a1:Int):Option L6:=l9 (N8 (fun(x:(List bK×PUnit×PUnit)×Int)=>l7 (ilt x.2 (o8 a0.1))
 (l9 (lat a0.1 x.2) fun x_1=>l9 (BO x_1.2) fun x_2=>l9 (X9 x.1.1 [(x_1.1,x_2)]) fun x_3=>some (.inl ((x_3,(),()),x8 .i64 x.2 1))) (some (.inr (x.1.1,(),())))) (([],(),
 ()),0)) fun y=>l9 (N8 (fun(x:(List bK×List V8×PUnit)×Int)=>l7 (ilt x.2 (o8
 a0.2.1)) (l9 (lat a0.2.1 x.2) fun x_1=>l9 (Js x_1 a1) fun x_2=>l9 (X9 x.1.2.1 [x_2]) fun(x_3:
 List V8)=>some (.inl ((x.1.1,x_3,()),x8 .i64 x.2 1))) (some (.inr (x.1.1,x.1.2.1,())))) ((y.1,[],
 ()),0)) fun y=>l9 (N8 (fun(x:L6×Int)=>l7 (ilt x.2 (o8 a0.2.2)) (l9 (lat a0.2.2
 x.2) fun x_1=>l9 (Jr x_1 a1) fun x_2=>l9 (X9 x.1.2.2 [x_2]) fun x_3=>some (.inl
 ((x.1.1,x.1.2.1,x_3),x8 .i64 x.2 1))) (some (.inr x.1))) ((y.1,y.2.1,[]),0)) fun y=>some y
def s19:FSpec:=mkS e1m e1o fun x=>Ov x.1 x.2
def ps7:List MG:=[(true,(.dat y27)),uiM,(true,(.dat y31))]
def rt7:Ret:=⟨[(.tmp 6,ubM)],[]⟩
def e7:Env:=⟨73,eqs,tt,gl,[(10,s10),(11,s11),(12,s12),(19,s19),(20,s20)],[],[],[],[]⟩
def an7:Ann:=.seq lfA (.seq lfA (.seq lfA (.seq (.joinR [(6,7),(23,37)] ⟨[],[]⟩ lfA) lfA)))
def e1w (a0:L6) (a1:Int) (a2:U8):Option Bool:=l9 (lL a0 a2) fun x=>l7 (D6 x) (l9
 bz fun x=>some x) (l9 (lX a0 a1 a2) fun x=>l9 (l7 (ieq x.2.1 1) (l9 bz
 fun x=>some (.inr x)) (l7 (D6 (ieq x.2.1 0)) (l7 (ilt x.2.2.2.1 0) (l9 bz fun x=>some (.inr x)) (some
 (.inl ()))) (some (.inl ())))) fun o=>L8 o (fun(x_1:PUnit)=>l9 (Ov a0 a2.1) fun(x_2
 :L6)=>l9 (lX x_2 a1 a2) fun x_3=>l7 (dB (ieq x.2.1 0) (ieq x_3.2.1 0)) (l9 (xJ x.1.1
 x_3.1.1) fun x_4=>l7 x_4 (l7 (ieq (o8 x.1.2.2) (o8 x_3.1.2.2)) (l9 bz fun x=>some x) (some false)) (some
 false)) (some false)) fun r=>some r)
def s7:FSpec:=mkS ps7 rt7 fun x=>e1w x.1 x.2.1 x.2.2
def c9r:List MG:=[(true,(.dat y27)),uiM,(true,(.dat y31)),uiM]
def d0X:Ret:=⟨[(.tmp 8,uiM),(.cell 9 39,(true,(.dat y37)))],[]⟩
def gZ (a0:L6) (a1:Int) (a2:U8) (a3:Int):Option (Int×E8):=l9 (dC a0 a1 a2 true a3) fun
 (x:E8)=>l7 (D6 (ieq x.1 0)) (some (0,x)) (l9 (lat a0.2.2 a1) fun x=>l9 (jI a0 a1) fun(x_1:
 I4)=>l9 (jQ x a3 a2.1) fun x_2=>l9 (N8 (fun(x_3:I4×Int)=>l7 (ilt x_3.2 (o8
 x_2)) (l9 (lat x_2 x_3.2) fun x_4=>l9 (I9 x_2 (toN x_3.2)) fun x_5=>l9 (lat x.2.2.2.2 x_5) fun x=>l9
 (fB x.2.2.2.2.2.1) fun x=>l9 (N8 (fun(x_6:I4×Int)=>l7 (ilt x_6.2 (o8 x.2.1)) (l9
 (lat x.2.1 x_6.2) fun x_7=>l9 (I9 x.2.1 (toN x_6.2)) fun x=>l9 (iH x_6.1 x) fun x=>
 some (.inl (x,x8 .i64 x_6.2 1))) (some (.inr x_6.1))) (x_3.1,0)) fun y=>l9 (N8 (fun(x_6:I4×
 Int)=>l7 (ilt x_6.2 (o8 x.2.2)) (l9 (lat x.2.2 x_6.2) fun x_7=>l9 (I9 x.2.2 (toN x_6.2)) fun x=>l9
 (bY x_6.1 x) fun x=>some (.inl (x,x8 .i64 x_6.2 1))) (some (.inr x_6.1))) (y,0)) fun(y:
 I4)=>some (.inl (y,x8 .i64 x_3.2 1))) (some (.inr x_3.1))) (x_1,0)) fun y=>l9 (jH
 a0 a1 a2 y) fun x_3=>l7 (D6 (ieq x_3.2.2.1.1 0)) (some (0,x_3.2.2.1)) (l9 (ng
 x x_3.2.1 (-1) a3) fun x=>l7 (D6 (ieq x.2.1 0)) (some (0,x.2)) (some (x.1,0,0,0,0))))
def s21:FSpec:=mkS c9r d0X fun x=>gZ x.1 x.2.1 x.2.2.1 x.2.2.2
def c9s:List MG:=[(true,(.dat y27)),uiM,(true,(.dat y31)),uiM]
def d0Y:Ret:=⟨[(.tmp 8,uiM),(.cell 9 39,(true,(.dat y37)))],[]⟩
def lF (a0:L6) (a1:Int) (a2:U8) (a3:Int):Option (Int×E8):=l9 (lG a0 a1 a2 a3 true) fun(x:
 E8)=>l7 (D6 (ieq x.1 0)) (some (0,x)) (l9 (lat a0.2.2 a1) fun x=>l9 (gU (o8 x.2.2.2.1) false) fun x_1=>l9 (aB a0 a1) fun x_2=>l9 (gU (o8 x_2.2.2.2.1) false) fun x_3=>l9 (ru x
 a3 a2.1) fun x_4=>l9 (N8 (fun(x_5:List Bool×List Bool×Int)=>l7 (ilt x_5.2.2 (o8 x_4)) (l9 (lat x_4 x_5.2.2) fun
 (x_6:Int)=>l9 (I9 x_4 (toN x_5.2.2)) fun x_7=>l9 (lat x.2.2.2.2 x_7) fun x_8=>l9 (dW
 x_8.2.2.2.2.2.1) fun x_9=>l9 (N8 (fun(x_10:List Bool×List Bool×Int)=>l7 (ilt x_10.2.2 (o8 x_9.2.1)) (l9
 (lat x_9.2.1 x_10.2.2) fun x_11=>l9 (I9 x_9.2.1 (toN x_10.2.2)) fun x_12=>l9 (kN x x_10.1 x_12) fun x=>l9 (lat x_9.2.1 x_10.2.2) fun x_13=>l9 (I9 x_9.2.1 (toN x_10.2.2)) fun x_14=>l9 (gJ a0 a1
 x_10.2.1 x_14) fun x_15=>some (.inl (x,x_15,x8 .i64 x_10.2.2 1))) (some (.inr (x_10.1,x_10.2.1)))) (x_5.1,x_5.2.1,
 0)) fun y=>l9 (N8 (fun(x:List Bool×Int)=>l7 (ilt x.2 (o8 x_9.2.2)) (l9 (aB a0 a1) fun
 (x_10:A8)=>l9 (lat x_9.2.2 x.2) fun x_11=>l9 (I9 x_9.2.2 (toN x.2)) fun x_12=>l9 (kN x_10 x.1 x_12)
 fun x_13=>some (.inl (x_13,x8 .i64 x.2 1))) (some (.inr x.1))) (y.2,0)) fun y_1=>some (.inl (y.1,
 y_1,x8 .i64 x_5.2.2 1))) (some (.inr (x_5.1,x_5.2.1)))) (x_1,x_3,0)) fun y=>l9 (dD
 a0 a1 a2 y.2) fun x_5=>l7 (D6 (ieq x_5.2.2.1 0)) (some (0,x_5.2.2)) (l9 (zg
 a0 a1 a2 x_5.1) fun x_6=>l9 (gI x x_6 (-1) y.1) fun x_7=>l7 (D6 (ieq
 x_7.2.2.1 0)) (some (0,x_7.2.2)) (l9 (vI x (x_6.1,x_6.2.1,x_7.1,x_6.2.2.2) (-1) a3) fun x=>some x)))
def s22:FSpec:=mkS c9s d0Y fun x=>lF x.1 x.2.1 x.2.2.1 x.2.2.2
def ps8:List MG:=[(true,(.dat y27)),uiM,(true,(.dat y31)),uiM]
def rt8:Ret:=⟨[(.tmp 8,ubM)],[]⟩
def e8:Env:=⟨45,eqs,tt,gl,[(10,s10),(11,s11),(21,s21),(22,s22)],[],[],[],[]⟩
def lZ (a0:L6) (a1:Int) (a2:U8) (a3:Int):Option Bool:=l9 (lL a0 a2) fun x=>l7 (D6 x)
 (l9 bz fun x=>some x) (l9 (gZ a0 a1 a2 a3) fun x=>l9 (lF a0 a1 a2
 a3) fun x_1=>l7 (ieq x.1 x_1.1) (l7 (aH (ieq x.2.1 x_1.2.1) (aH (ieq x.2.2.1 x_1.2.2.1) (aH (ieq x.2.2.2.1
 x_1.2.2.2.1) (ieq x.2.2.2.2 x_1.2.2.2.2)))) (l9 bz fun x=>some x) (some false)) (some false))
def s8:FSpec:=mkS ps8 rt8 fun x=>lZ x.1 x.2.1 x.2.2.1 x.2.2.2
def e9:Env:=⟨109,eqs,tt,gl,[(10,s10),(11,s11),(12,s12),(17,s17),(21,s21)],[],[],[],[]⟩
end
end Gt
