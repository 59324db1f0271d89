import Derived.Test.YtpgdlhcmenjcgaaGreatDoorT1
set_option linter.all false
open Go Go.GP
namespace Gt
set_option maxRecDepth 100000
noncomputable section
def a3R (f:Func):Code:=match f.body with | some c=>c | none=> .skip
abbrev mkS (ps:List MG) (rt:Ret) (F:S9 ps→Option rt.den):FSpec:=⟨ps,rt.rs.map (·.2),rt.outs.map (·.2),F⟩
abbrev lfA:Ann:=.leaf
abbrev diM:M:=.dat (.int .i64)
abbrev oiM:M:=.own (.int .i64)
abbrev dbM:M:=.dat .bool
abbrev uiM:MG:=(false,diM)
abbrev ubM:MG:=(false,dbM)
abbrev uoM:MG:=(false,oiM)
abbrev y0:Ty:=.prod .str (.sl .str)
abbrev y1:Ty:=.sl y0
abbrev y2:Ty:=.prod (.int .i64) (.int .i64)
abbrev y3:Ty:=.prod (.int .i64) y2
abbrev y4:Ty:=.prod y2 y3
abbrev y5:Ty:=.sl y4
abbrev y6:Ty:=.prod y2 y5
abbrev y7:Ty:=.prod y2 y6
abbrev y8:Ty:=.prod .str y7
abbrev y9:Ty:=.sl y8
abbrev y10:Ty:=.prod .str y2
abbrev y11:Ty:=.sl y10
abbrev y12:Ty:=.sl y2
abbrev y13:Ty:=.prod y12 .str
abbrev y14:Ty:=.prod y12 y13
abbrev y15:Ty:=.prod y2 y14
abbrev y16:Ty:=.prod (.int .i64) y15
abbrev y17:Ty:=.prod (.int .i64) y16
abbrev y18:Ty:=.prod (.int .i64) y17
abbrev y19:Ty:=.prod .str y18
abbrev y20:Ty:=.sl y19
abbrev y21:Ty:=.prod y11 y20
abbrev y22:Ty:=.prod y11 y21
abbrev y23:Ty:=.prod (.int .i64) y22
abbrev y24:Ty:=.prod .str y23
abbrev y25:Ty:=.sl y24
abbrev y26:Ty:=.prod y9 y25
abbrev y27:Ty:=.prod y1 y26
abbrev y28:Ty:=.sl y3
abbrev y29:Ty:=.sl y28
abbrev y30:Ty:=.prod y28 y29
abbrev y31:Ty:=.prod (.int .i64) y30
abbrev y32:Ty:=.prod (.int .i64) y3
abbrev y33:Ty:=.sl (.int .i64)
abbrev y34:Ty:=.prod y28 y33
abbrev y35:Ty:=.sl y34
abbrev y36:Ty:=.prod y33 y35
abbrev y37:Ty:=.prod y28 y36
abbrev y38:Ty:=.prod y12 y9
abbrev y39:Ty:=.prod y29 y38
abbrev y40:Ty:=.prod y28 y39
abbrev y41:Ty:=.prod y28 y40
abbrev y42:Ty:=.prod (.int .i64) y41
abbrev y43:Ty:=.sl y33
abbrev y44:Ty:=.prod (.sl .bool) (.sl .bool)
abbrev y45:Ty:=.prod y24 y44
abbrev y46:Ty:=.prod y24 y45
abbrev y47:Ty:=.prod y12 .bool
abbrev y48:Ty:=.prod y12 y47
abbrev y49:Ty:=.prod y12 y48
abbrev y50:Ty:=.prod y9 y49
abbrev y51:Ty:=.prod y1 y50
abbrev y52:Ty:=.prod y33 y42
abbrev y53:Ty:=.prod y12 y52
abbrev y54:Ty:=.prod y33 y33
abbrev y55:Ty:=.prod y33 y54
def tt:List (Nat×TI):=[
 (3,⟨1,8,(.int .i64),some (.int .i64),[.i .i64 0]⟩),
 (4,⟨1,1,.bool,some .bool,[.b false]⟩),
 (5,⟨1,1,(.int .u8),some (.int .u8),[.i .u8 0]⟩),
 (9,⟨1,16,.str,some .str,[.s []]⟩),
 (22,⟨1,24,(.sl 52),some y1,[.nl]⟩),
 (23,⟨1,24,(.sl 57),some y9,[.nl]⟩),
 (24,⟨1,24,(.sl 61),some y25,[.nl]⟩),
 (26,⟨3,72,(.struct [(22,0),(23,1),(24,2)]),some y27,[.nl,.nl,.nl]⟩),
 (27,⟨1,24,(.sl 67),some y28,[.nl]⟩),
 (28,⟨1,24,(.sl 27),some y29,[.nl]⟩),
 (30,⟨3,56,(.struct [(3,0),(27,1),(28,2)]),some y31,[.i .i64 0,.nl,.nl]⟩),
 (32,⟨4,32,(.struct [(3,0),(3,1),(3,2),(3,3)]),some y32,[.i .i64 0,.i .i64 0,.i .i64 0,.i .i64 0]⟩),
 (36,⟨1,8,(.int .i64),some (.int .i64),[.i .i64 0]⟩),
 (41,⟨2,16,(.struct [(3,0),(3,1)]),some y2,[.i .i64 0,.i .i64 0]⟩),
 (43,⟨1,24,(.sl 49),some y28,[.nl]⟩),
 (49,⟨3,24,(.struct [(3,0),(3,1),(3,2)]),some y3,[.i .i64 0,.i .i64 0,.i .i64 0]⟩),
 (50,⟨1,24,(.sl 9),some (.sl .str),[.nl]⟩),
 (52,⟨2,40,(.struct [(9,0),(50,1)]),some y0,[.s [],.nl]⟩),
 (54,⟨2,16,(.struct [(3,0),(3,1)]),some y2,[.i .i64 0,.i .i64 0]⟩),
 (55,⟨1,24,(.sl 154),some y5,[.nl]⟩),
 (57,⟨6,72,(.struct [(9,0),(54,1),(54,3),(55,5)]),some y8,[.s [],.i .i64 0,.i .i64 0,.i .i64 0,.i .i64 0,.nl]⟩),
 (58,⟨1,24,(.sl 72),some y11,[.nl]⟩),
 (59,⟨1,24,(.sl 77),some y20,[.nl]⟩),
 (61,⟨5,96,(.struct [(9,0),(3,1),(58,2),(58,3),(59,4)]),some y24,[.s [],.i .i64 0,.nl,.nl,.nl]⟩),
 (67,⟨3,24,(.struct [(3,0),(3,1),(3,2)]),some y3,[.i .i64 0,.i .i64 0,.i .i64 0]⟩),
 (72,⟨3,32,(.struct [(9,0),(54,1)]),some y10,[.s [],.i .i64 0,.i .i64 0]⟩),
 (74,⟨2,16,(.struct [(3,0),(3,1)]),some y2,[.i .i64 0,.i .i64 0]⟩),
 (75,⟨1,24,(.sl 80),some y12,[.nl]⟩),
 (77,⟨9,120,(.struct [(9,0),(3,1),(3,2),(3,3),(74,4),(75,6),(75,7),(9,8)]),some y19,[.s [],.i .i64 0,.i .i64 0,.i .i64 0,.i .i64 0,.i .i64 0,.nl,.nl,.s []]⟩),
 (80,⟨2,16,(.struct [(3,0),(3,1)]),some y2,[.i .i64 0,.i .i64 0]⟩),
 (82,⟨4,32,(.struct [(36,0),(3,1),(3,2),(3,3)]),some y32,[.i .i64 0,.i .i64 0,.i .i64 0,.i .i64 0]⟩),
 (85,⟨4,32,(.struct [(36,0),(3,1),(3,2),(3,3)]),some y32,[.i .i64 0,.i .i64 0,.i .i64 0,.i .i64 0]⟩),
 (91,⟨1,8,(.int .u64),some (.int .u64),[.i .u64 0]⟩),
 (103,⟨1,24,(.sl 3),some y33,[.nl]⟩),
 (104,⟨1,24,(.sl 142),some y35,[.nl]⟩),
 (106,⟨3,72,(.struct [(27,0),(103,1),(104,2)]),some y37,[.nl,.nl,.nl]⟩),
 (107,⟨1,24,(.sl 54),some y12,[.nl]⟩),
 (109,⟨6,128,(.struct [(3,0),(27,1),(27,2),(28,3),(107,4),(23,5)]),some y42,[.i .i64 0,.nl,.nl,.nl,.nl,.nl]⟩),
 (114,⟨1,24,(.sl 4),some (.sl .bool),[.nl]⟩),
 (118,⟨1,24,(.sl 103),some y43,[.nl]⟩),
 (124,⟨1,8,(.int .u64),some (.int .u64),[.i .u64 0]⟩),
 (126,⟨1,16,.other,none,[]⟩),
 (136,⟨12,240,(.struct [(61,0),(61,5),(114,10),(114,11)]),some y46,[.s [],.i .i64 0,.nl,.nl,.nl,.s [],.i .i64 0,.nl,.nl,.nl,.nl,.nl]⟩),
 (142,⟨2,48,(.struct [(27,0),(103,1)]),some y34,[.nl,.nl]⟩),
 (154,⟨5,40,(.struct [(74,0),(3,2),(3,3),(3,4)]),some y4,[.i .i64 0,.i .i64 0,.i .i64 0,.i .i64 0,.i .i64 0]⟩),
 (169,⟨6,128,(.struct [(22,0),(23,1),(107,2),(107,3),(107,4),(4,5)]),some y51,[.nl,.nl,.nl,.nl,.nl,.b false]⟩),
 (205,⟨1,8,(.ptr 206),none,[]⟩),
 (206,⟨1,24,(.sl 3),some y33,[.nl]⟩),
 (214,⟨8,176,(.struct [(75,0),(103,1),(109,2)]),some y53,[.nl,.nl,.i .i64 0,.nl,.nl,.nl,.nl,.nl]⟩),
 (240,⟨3,72,(.struct [(103,0),(103,1),(103,2)]),some y55,[.nl,.nl,.nl]⟩),
 (327,⟨12,96,(.arr 12 3),none,[.i .i64 0,.i .i64 0,.i .i64 0,.i .i64 0,.i .i64 0,.i .i64 0,.i .i64 0,.i .i64 0,.i .i64 0,.i .i64 0,.i .i64 0,.i .i64 0]⟩)]
def eqs:List (Nat×List Ty):=[(49,[(.int .i64),(.int .i64),(.int .i64)]),(54,[(.int .i64),(.int .i64)]),(82,[(.int .i64),(.int .i64),(.int .i64),(.int .i64)])]
def gl:List (Nat×(t:Ty)×List t.den):=[(3,⟨.int .i64,[31,28,31,30,31,30,31,31,30,31,30,31]⟩)]
abbrev o9:Type:=Ty.den y2
abbrev nI:Type:=Ty.den y2
abbrev F7:Type:=Ty.den y3
abbrev bT:Type:=Ty.den y0
abbrev DN:Type:=Ty.den y3
abbrev bg:Type:=Ty.den y10
abbrev A7:Type:=Ty.den y32
abbrev bJ:Type:=Ty.den y32
abbrev uQ:Type:=Ty.den y4
abbrev X3:Type:=Ty.den y55
abbrev Qw:Type:=Ty.den y34
abbrev U0:Type:=Ty.den y31
abbrev Y1:Type:=Ty.den y8
abbrev qJ:Type:=Ty.den y37
abbrev V9:Type:=Ty.den y19
abbrev H8:Type:=Ty.den y51
abbrev P9:Type:=Ty.den y42
abbrev D8:Type:=Ty.den y24
abbrev O7:Type:=Ty.den y53
abbrev U1:Type:=Ty.den y46
abbrev L8:Type:=Ty.den y27
def c7o:List MG:=[(true,(.dat y24))]
def c8S:Ret:=⟨[(.tmp 2,ubM)],[]⟩
def e18:Env:=⟨93,eqs,tt,gl,[],[],[],[],[]⟩
def d4f:Ann:=.seq lfA (.seq (.joinR [(2,3),(7,29)] ⟨[],[]⟩ lfA) (.seq (.seq lfA (.blk (.loopR [(2,4),(29,44)] ⟨[(3,uiM)],[]⟩ 0 ⟨[],[]⟩ lfA))) (.seq (.seq lfA (.blk (.loopR [(2,3),(4,5),(44,59)] ⟨[(4,uiM)],[]⟩ 2 ⟨[],[]⟩ lfA))) (.seq (.seq lfA (.blk (.loopR [(2,3),(5,7),(59,93)] ⟨[(5,uiM)],[]⟩ 4 ⟨[],[]⟩ lfA))) lfA))))
def ru (a0:D8):Option Bool:=l9 (l7 (ilt 80 (o8 a0.1)) (some (.inr false)) (l7 (ilt 14 (o8 a0.2.2.1)) (some
 (.inr false)) (l7 (ilt 14 (o8 a0.2.2.2.1)) (some (.inr false)) (l7 (ilt 60 (o8 a0.2.2.2.2)) (some (.inr false)) (some (.inl
 ())))))) fun o=>J9 o (fun(x:PUnit)=>l9 (J7 (fun(x:Int)=>l7 (ilt x (o8 a0.2.2.1)) (l9 (lat
 a0.2.2.1 x) fun x_1=>l7 (ilt 80 (o8 x_1.1)) (some (.rt false)) (some (.nx (x9 .i64 x 1)))) (some (.ex
 ()))) 0) fun o=>J9 o (fun(y:PUnit)=>l9 (J7 (fun(x:Int)=>l7 (ilt x (o8 a0.2.2.2.1)) (l9 (lat
 a0.2.2.2.1 x) fun x_1=>l7 (ilt 80 (o8 x_1.1)) (some (.rt false)) (some (.nx (x9 .i64 x 1)))) (some (.ex
 ()))) 0) fun o=>J9 o (fun(y:PUnit)=>l9 (J7 (fun(x:Int)=>l7 (ilt x (o8 a0.2.2.2.2)) (l9 (lat
 a0.2.2.2.2 x) fun x_1=>l7 (ilt 80 (o8 x_1.1)) (some (.rt false)) (l7 (ilt 80 (o8 x_1.2.2.2.2.2.2.2)) (some (.rt false))
 (l7 (ilt 50 (o8 x_1.2.2.2.2.2.1)) (some (.rt false)) (l7 (ilt 50 (o8 x_1.2.2.2.2.2.2.1)) (some (.rt false)) (some (.nx (x9
 .i64 x 1))))))) (some (.ex ()))) 0) fun o=>J9 o (fun(y:PUnit)=>some true) fun r=>some r) fun
 (r:Bool)=>some r) fun r=>some r) fun r=>some r
def s18:FSpec:=mkS c7o c8S fun x=>ru x
def ps7:List MG:=[(true,(.dat y27))]
def rt7:Ret:=⟨[(.tmp 2,ubM)],[]⟩
def e7:Env:=⟨127,eqs,tt,gl,[(18,s18)],[],[],[],[]⟩
def an7:Ann:=.seq lfA (.seq (.joinR [(2,3),(9,25)] ⟨[],[]⟩ lfA) (.seq lfA (.seq lfA (.seq (.seq lfA (.blk (.loopR [(2,3),(5,7),(25,72)] ⟨[(5,uiM)],[]⟩ 0 ⟨[],[]⟩ (.seq lfA (.seq (.blk (.seq lfA (.seq lfA (.blk (.loopR [(2,3),(6,7),(50,72)] ⟨[(6,uiM)],[]⟩ 2 ⟨[],[]⟩ lfA))))) lfA))))) (.seq (.seq lfA (.blk (.loopR [(2,4),(7,8),(72,100)] ⟨[(3,uiM),(7,uiM)],[]⟩ 4 ⟨[],[]⟩ lfA))) (.seq (.seq lfA (.blk (.loopR [(2,3),(4,5),(8,9),(100,127)] ⟨[(4,uiM),(8,uiM)],[]⟩ 6 ⟨[],[]⟩ lfA))) lfA))))))
def kD (a0:L8):Option Bool:=l9 (l7 (ilt 9 (o8 a0.1)) (some (.inr false)) (l7 (ilt 9 (o8 a0.2.1)) (some (.inr
 false)) (l7 (ilt 5 (o8 a0.2.2)) (some (.inr false)) (some (.inl ()))))) fun o=>J9 o (fun(x:PUnit)=>l9
 (J7 (fun(x:Int)=>l7 (ilt x (o8 a0.1)) (l9 (lat a0.1 x) fun x_1=>l7 (ilt 80 (o8 x_1.1)) (some (.rt false)) (l9
 (lat a0.1 x) fun x_2=>l7 (ilt 20 (o8 x_2.2)) (some (.rt false)) (l9 (J7 (fun(x_3:Int)=>l9 (lat a0.1 x) fun(x_4:
 bT)=>l7 (ilt x_3 (o8 x_4.2)) (l9 (lat a0.1 x) fun x=>l9 (lat x.2 x_3) fun x=>l7 (ilt 80 (o8 x))
 (some (.rt false)) (some (.nx (x9 .i64 x_3 1)))) (some (.ex ()))) 0) fun o=>J9 o (fun(y:PUnit)=>
 some (.nx (x9 .i64 x 1))) fun r=>some (.rt r)))) (some (.ex ()))) 0) fun o=>J9 o (fun(y:
 PUnit)=>l9 (J7 (fun(x:o9)=>l7 (ilt x.2 (o8 a0.2.1)) (l9 (lat a0.2.1 x.2) fun x_1=>l9 (lat a0.2.1 x.2) fun
 (x_2:Y1)=>l7 (ilt 80 (o8 x_2.1)) (some (.rt false)) (l7 (ilt 150 (x9 .i64 x.1 (o8 x_1.2.2.2))) (some (.rt false))
 (some (.nx (x9 .i64 x.1 (o8 x_1.2.2.2),x9 .i64 x.2 1))))) (some (.ex ()))) (0,0)) fun o=>J9
 o (fun(y:PUnit)=>l9 (J7 (fun(x:o9)=>l7 (ilt x.2 (o8 a0.2.2)) (l9 (lat a0.2.2 x.2) fun x_1=>l7 (ilt 60
 (x9 .i64 x.1 (o8 x_1.2.2.2.2))) (some (.rt false)) (l9 (lat a0.2.2 x.2) fun x_2=>l9 (ru x_2) fun(x_3:
 Bool)=>l7 (D6 x_3) (some (.rt false)) (some (.nx (x9 .i64 x.1 (o8 x_1.2.2.2.2),x9 .i64 x.2 1))))) (some (.ex
 ()))) (0,0)) fun o=>J9 o (fun(y:PUnit)=>some true) fun r=>some r) fun r=>some r) fun(r:
 Bool)=>some r) fun r=>some r
def s7:FSpec:=mkS ps7 rt7 fun x=>kD x
def ps8:List MG:=[(true,(.dat y31))]
def rt8:Ret:=⟨[(.tmp 2,ubM)],[]⟩
def e8:Env:=⟨28,eqs,tt,gl,[],[],[],[],[]⟩
def an8:Ann:=.seq lfA (.seq lfA (.seq (.seq lfA (.blk (.loopR [(2,4),(14,28)] ⟨[(3,uiM)],[]⟩ 0 ⟨[],[]⟩ lfA))) lfA))
def jb (a0:U0):Option Bool:=l7 (ilt 14 (o8 a0.2.1)) (some false) (l7 (ilt 10 (o8 a0.2.2)) (some false) (l9 (J7
 (fun(x:Int)=>l7 (ilt x (o8 a0.2.2)) (l9 (lat a0.2.2 x) fun x_1=>l7 (ilt 14 (o8 x_1)) (some (.rt false)) (some
 (.nx (x9 .i64 x 1)))) (some (.ex ()))) 0) fun o=>J9 o (fun(y:PUnit)=>some true) fun r=>
 some r))
def s8:FSpec:=mkS ps8 rt8 fun x=>jb x
def c7z:List MG:=[(false,(.dat y12))]
def c9j:Ret:=⟨[(.cell 2 26,(true,(.pair (.dat y1) (.pair (.dat y9) (.owns (.pair (.dat .str) (.pair diM (.pair (.dat y11) (.pair (.dat y11) (.own y19))))))))))],[]⟩
def e29:Env:=⟨22,eqs,tt,gl,[],[(24,(.pair (.dat .str) (.pair diM (.pair (.dat y11) (.pair (.dat y11) (.own y19))))))],[],[],[]⟩
def d4q:Ann:=.leaf
def Jp (a0:List o9):Option L8:=some ([],[],[([104,111,117,115,101],-1,[([97],3,0)],[([100],3,0)],[([98,97,
 115,101],0,-1,0,(0,109573),[],a0,[])])])
def s29:FSpec:=mkS c7z c9j fun x=>Jp x
def c7p:List MG:=[]
def c8U:Ret:=⟨[(.cell 0 26,(true,(.dat y27)))],[]⟩
def e19:Env:=⟨29,eqs,tt,gl,[(29,s29)],[(24,(.pair (.dat .str) (.pair diM (.pair (.dat y11) (.pair (.dat y11) (.own y19))))))],[22],[],[]⟩
def d4g:Ann:=.leaf
def Gs:Option L8:=l9 (Jp [(3,0)]) fun x=>l7 (inb 0 (o8 x.2.2)) (l9 (J4 x.2.2 (toN 0)) fun(x_1:
 D8)=>l9 (X9 x_1.2.2.2.2 [([108,111,119],0,0,0,(0,109573),[(7,0),(3,50000),(21,0)],[(3,10000)],[])]) fun x_2
 =>l7 (inb 0 (o8 x.2.2)) (l7 (FZ (toN 0) (toN 0)) (l9 (J4 x.2.2 (toN 0)) fun x_3=>some (x.1,x.2.1,P6 x.2.2 (toN 0)
 (x_3.1,x_3.2.1,x_3.2.2.1,x_3.2.2.2.1,x_2))) none) none) none
def s19:FSpec:=mkS c7p c8U fun x=>Gs
def c7q:List MG:=[uiM]
def c8W:Ret:=⟨[(.cell 2 30,(true,(.dat y31)))],[]⟩
def e20:Env:=⟨7,eqs,tt,gl,[],[],[],[],[]⟩
def d4h:Ann:=.leaf
def tY (a0:Int):Option U0:=some (36525,[(3,0,a0)],[])
def s20:FSpec:=mkS c7q c8W fun x=>tY x
def c8F:List MG:=[(false,(.dat (.int .u8)))]
def d0o:Ret:=⟨[(.tmp 2,ubM)],[]⟩
def e89:Env:=⟨9,eqs,tt,gl,[],[],[],[],[]⟩
def d5v:Ann:=.leaf
def mM (a0:Int):Option Bool:=l7 (ile 97 a0) (some (ile a0 122)) (some false)
def s89:FSpec:=mkS c8F d0o fun x=>mM x
def b0E:List MG:=[(false,(.dat (.int .u8)))]
def b4l:Ret:=⟨[(.tmp 2,ubM)],[]⟩
def d6b:Env:=⟨9,eqs,tt,gl,[],[],[],[],[]⟩
def c3i:Ann:=.leaf
def qw (a0:Int):Option Bool:=l7 (ile 48 a0) (some (ile a0 57)) (some false)
def d0G:FSpec:=mkS b0E b4l fun x=>qw x
def c8G:List MG:=[(false,(.dat .str))]
def d0p:Ret:=⟨[(.tmp 2,uiM)],[]⟩
def e90:Env:=⟨29,eqs,tt,gl,[(89,s89),(127,d0G)],[],[],[],[]⟩
def d5w:Ann:=.seq lfA (.seq lfA (.seq (.blk (.loop [(3,28)] ⟨[(3,uiM)],[]⟩ 0 ⟨[(3,uiM)],[]⟩ lfA)) lfA))
def oW (a0:List UInt8):Option Int:=l9 (P5 (fun(x:Int)=>l7 (ilt x (o8 a0)) (l9 (sat a0 x) fun x_1=>
 l9 (mM x_1) fun x_2=>l7 x_2 (some (.inl (x9 .i64 x 1))) (l9 (sat a0 x) fun x_3=>l9
 (qw x_3) fun x_4=>l7 x_4 (some (.inl (x9 .i64 x 1))) (l9 (sat a0 x) fun x_5=>l7 (ieq x_5 95)
 (some (.inl (x9 .i64 x 1))) (some (.inr x))))) (some (.inr x))) 0) fun y=>some y
def s90:FSpec:=mkS c8G d0p fun x=>oW x
def c8H:List MG:=[(false,(.dat .str))]
def d0q:Ret:=⟨[(.tmp 2,ubM)],[]⟩
def e91:Env:=⟨60,eqs,tt,gl,[],[],[],[],[]⟩
def d5x:Ann:=.seq lfA (.seq (.seq lfA (.blk (.seq (.join [(4,60)] ⟨[(4,ubM)],[]⟩ lfA) lfA))) lfA)
def ui (a0:List UInt8):Option Bool:=l9 (l7 (seq a0 [105,102]) (some (seq a0 [105,102])) (l7 (seq a0 [116,104,101,110])
 (some (seq a0 [116,104,101,110])) (l7 (seq a0 [101,108,115,101]) (some (seq a0 [101,108,115,101])) (l7 (seq a0 [111,114]) (some (seq
 a0 [111,114])) (l7 (seq a0 [97,110,100]) (some (seq a0 [97,110,100])) (l7 (seq a0 [110,111,116]) (some (seq a0 [110,111,116])) (l7
 (seq a0 [116,114,117,101]) (some (seq a0 [116,114,117,101])) (l7 (seq a0 [102,97,108,115,101]) (some (seq a0 [102,97,108,115,101]))
 (l7 (seq a0 [116,111,100,97,121]) (some (seq a0 [116,111,100,97,121])) (l7 (seq a0 [115,104,97,114,101]) (some (seq a0 [115,104,
 97,114,101])) (l7 (seq a0 [100,105,118]) (some (seq a0 [100,105,118])) (l7 (seq a0 [114,111,117,110,100]) (some (seq a0 [114,111,
 117,110,100])) (l7 (seq a0 [109,105,110]) (some (seq a0 [109,105,110])) (l7 (seq a0 [109,97,120]) (some (seq a0 [109,97,120])) (l7
 (seq a0 [112,108,117,115]) (some (seq a0 [112,108,117,115])) (l7 (seq a0 [109,111,110,116,104,115]) (some (seq a0 [109,111,110,116,
 104,115])) (l7 (seq a0 [100,97,121,115]) (some (seq a0 [100,97,121,115])) (l7 (seq a0 [121,101,97,114,115]) (some (seq a0 [121,101,
 97,114,115])) (l7 (seq a0 [121,101,97,114]) (some (seq a0 [121,101,97,114])) (l7 (seq a0 [109,111,110,116,104]) (some (seq a0 [109,
 111,110,116,104])) (l7 (seq a0 [116,97,98]) (some (seq a0 [116,97,98])) (l7 (seq a0 [98,97,110,100]) (some (seq a0 [98,97,110,
 100])) (l7 (seq a0 [99,111,117,110,116]) (some (seq a0 [99,111,117,110,116])) (l7 (seq a0 [115,117,109]) (some (seq a0 [115,117,
 109])) (l7 (seq a0 [97,108,108]) (some (seq a0 [97,108,108])) (l7 (seq a0 [97,110,121]) (some (seq a0 [97,110,121])) (l7 (seq a0
 [109,111,115,116]) (some (seq a0 [109,111,115,116])) (l7 (seq a0 [101,110,117,109]) (some (seq a0 [101,110,117,109])) (l7 (seq a0
 [116,97,98,108,101]) (some (seq a0 [116,97,98,108,101])) (l7 (seq a0 [114,111,119]) (some (seq a0 [114,111,119])) (l7 (seq a0 [115,
 99,111,112,101]) (some (seq a0 [115,99,111,112,101])) (l7 (seq a0 [109,101,109,98,101,114,115]) (some (seq a0 [109,101,109,98,
 101,114,115])) (l7 (seq a0 [105,110,112,117,116]) (some (seq a0 [105,110,112,117,116])) (l7 (seq a0 [100,101,102]) (some (seq a0
 [100,101,102])) (l7 (seq a0 [114,117,108,101]) (some (seq a0 [114,117,108,101])) (l7 (seq a0 [111,102]) (some (seq a0 [111,102]))
 (l7 (seq a0 [111,118,101,114]) (some (seq a0 [111,118,101,114])) (l7 (seq a0 [112,114,105,111]) (some (seq a0 [112,114,105,111]))
 (l7 (seq a0 [102,114,111,109]) (some (seq a0 [102,114,111,109])) (l7 (seq a0 [116,111]) (some (seq a0 [116,111])) (l7 (seq a0 [101,
 110,100]) (some (seq a0 [101,110,100])) (l7 (seq a0 [119,104,101,110]) (some (seq a0 [119,104,101,110])) (l7 (seq a0 [105,115]) (some
 (seq a0 [105,115])) (l7 (seq a0 [115,114,99]) (some (seq a0 [115,114,99])) (l7 (seq a0 [98,111,111,108]) (some (seq a0 [98,111,111,
 108])) (l7 (seq a0 [105,110,116]) (some (seq a0 [105,110,116])) (l7 (seq a0 [109,111,110,101,121]) (some (seq a0 [109,111,110,101,
 121])) (l7 (seq a0 [114,97,116,101]) (some (seq a0 [114,97,116,101])) (l7 (seq a0 [100,97,116,101]) (some (seq a0 [100,97,116,
 101])) (l7 (seq a0 [100,111,119,110]) (some (seq a0 [100,111,119,110])) (l7 (seq a0 [117,112]) (some (seq a0 [117,112])) (l7 (seq a0
 [122,101,114,111]) (some (seq a0 [122,101,114,111])) (l7 (seq a0 [97,119,97,121]) (some (seq a0 [97,119,97,121])) (l7 (seq a0 [104,
 97,108,102]) (some (seq a0 [104,97,108,102])) (some (seq a0 [101,118,101,110])))))))))))))))))))))))))))))))))))))))))))))))))))))))) fun(x
 :Bool)=>l7 x (some true) (some false)
def s91:FSpec:=mkS c8H d0q fun x=>ui x
def c8f:List MG:=[(false,(.dat .str))]
def c9P:Ret:=⟨[(.tmp 2,ubM)],[]⟩
def e62:Env:=⟨27,eqs,tt,gl,[(89,s89),(90,s90),(91,s91)],[],[],[],[]⟩
def d4W:Ann:=.leaf
def ax (a0:List UInt8):Option Bool:=l7 (D6 (seq a0 [])) (l9 (sat a0 0) fun x=>l9 (mM x) fun(x:
 Bool)=>l7 x (l9 (oW a0) fun x=>l7 (ieq x (o8 a0)) (l7 (ile (o8 a0) 16) (l9 (ui a0) fun(x:
 Bool)=>some (D6 x)) (some false)) (some false)) (some false)) (some false)
def s62:FSpec:=mkS c8f c9P fun x=>ax x
def a5r:List MG:=[(true,(.dat y0)),(false,(.rp .str))]
def a5U:Ret:=⟨[(.tmp 3,ubM)],[]⟩
def c6R:Env:=⟨8,eqs,tt,gl,[],[],[],[],[]⟩
def b8b:Ann:=.leaf
def Aq (a0:bT) (a1:List UInt8):Option Bool:=some (seq a0.1 a1)
def a6t:FSpec:=mkS a5r a5U fun x=>Aq x.1 x.2
def a0H:List MG:=[(false,(.dat y1)),(false,(.fn 93 [.str]))]
def a1h:Ret:=⟨[(.tmp 4,uiM)],[]⟩
def b8z:Env:=⟨19,eqs,tt,gl,[(93,a6t)],[],[],[],[]⟩
def a8e:Ann:=.seq lfA (.seq (.seq lfA (.blk (.loopR [(4,6),(8,19)] ⟨[(8,uiM)],[]⟩ 0 ⟨[],[]⟩ lfA))) lfA)
def dE (a0:List bT) (a1:List UInt8):Option Int:=l9 (J7 (fun(x:Int)=>l7 (ilt x (o8 a0))
 (l9 (lat a0 x) fun x_1=>l9 (Aq x_1 a1) fun x_2=>l7 x_2 (some (.rt x)) (some (.nx (x9 .i64 x
 1)))) (some (.ex ()))) 0) fun o=>J9 o (fun(y:PUnit)=>some (-1)) fun r=>some r
def a5Z:FSpec:=mkS a0H a1h fun x=>dE x.1 x.2
def a5q:List MG:=[(false,(.dat y1)),(false,(.fn 93 [.str]))]
def a5T:Ret:=⟨[(.tmp 4,ubM)],[]⟩
def c6Q:Env:=⟨9,eqs,tt,gl,[(128,a5Z)],[],[],[],[]⟩
def b8a:Ann:=.leaf
def bH (a0:List bT) (a1:List UInt8):Option Bool:=l9 (dE a0 a1) fun(x
 :Int)=>some (ile 0 x)
def b7v:FSpec:=mkS a5q a5T fun x=>bH x.1 x.2
def c8g:List MG:=[(false,(.dat y1)),(false,(.dat .str))]
def c9Q:Ret:=⟨[(.tmp 4,ubM)],[]⟩
def e63:Env:=⟨8,eqs,tt,gl,[(93,a6t),(92,b7v)],[],[],[],[]⟩
def d4X:Ann:=.leaf
def su (a0:List bT) (a1:List UInt8):Option Bool:=l9 (bH a0 a1) fun x=>some x
def s63:FSpec:=mkS c8g c9Q fun x=>su x.1 x.2
def b0C:List MG:=[(false,(.dat (.sl .str))),(false,(.dat .str))]
def b4j:Ret:=⟨[(.tmp 4,uiM)],[]⟩
def d5Z:Env:=⟨19,eqs,tt,gl,[],[],[],[],[]⟩
def c3g:Ann:=.seq lfA (.seq (.seq lfA (.blk (.loopR [(4,6),(8,19)] ⟨[(8,uiM)],[]⟩ 0 ⟨[],[]⟩ lfA))) lfA)
def jd (a0:List (List UInt8)) (a1:List UInt8):Option Int:=l9 (J7 (fun(x:Int)=>l7 (ilt x (o8 a0))
 (l9 (lat a0 x) fun x_1=>l7 (seq a1 x_1) (some (.rt x)) (some (.nx (x9 .i64 x 1)))) (some (.ex ())))
 0) fun o=>J9 o (fun(y:PUnit)=>some (-1)) fun r=>some r
def d0E:FSpec:=mkS b0C b4j fun x=>jd x.1 x.2
def c8A:List MG:=[(false,(.dat (.sl .str))),(false,(.dat .str))]
def d0j:Ret:=⟨[(.tmp 4,ubM)],[]⟩
def e82:Env:=⟨9,eqs,tt,gl,[(125,d0E)],[],[],[],[]⟩
def d5q:Ann:=.leaf
def bY (a0:List (List UInt8)) (a1:List UInt8):Option Bool:=l9 (jd a0 a1) fun x
 =>some (ile 0 x)
def s82:FSpec:=mkS c8A d0j fun x=>bY x.1 x.2
def c8d:List MG:=[(true,(.dat y27)),uiM,(true,(.dat y0))]
def c9N:Ret:=⟨[(.tmp 6,uiM),(.tmp 7,uiM)],[]⟩
def e60:Env:=⟨55,eqs,tt,gl,[(62,s62),(63,s63),(82,s82)],[],[],[],[]⟩
def d4U:Ann:=.seq lfA (.seq lfA (.seq (.seq lfA (.blk (.loopR [(6,10),(36,55)] ⟨[(36,uiM)],[]⟩ 1 ⟨[],[]⟩ lfA))) lfA))
def vX (a0:L8) (a1:Int) (a2:bT):Option o9:=l9 (ax a2.1) fun x=>l7 (D6 x) (some (2,
 0)) (l9 (Ei a0.1 0 a1) fun x=>l9 (su x a2.1) fun x=>l7 x (some (7,0)) (l7 (ieq (o8 a2.2) 0)
 (some (5,0)) (l7 (ilt 16 (o8 a2.2)) (some (4,116)) (l9 (J7 (fun(x:Int)=>l7 (ilt x (o8 a2.2)) (l9 (lat a2.2 x) fun(x_1:
 List UInt8)=>l9 (ax x_1) fun x_2=>l7 (D6 x_2) (some (.rt (2,x9 .i64 100 x))) (l9 (Ei a2.2 0 x)
 fun x_3=>l9 (bY x_3 x_1) fun x_4=>l7 x_4 (some (.rt (7,x9 .i64 100
 x))) (some (.nx (x9 .i64 x 1))))) (some (.ex ()))) 0) fun o=>J9 o (fun(y:PUnit)=>some (0,0))
 fun r=>some r))))
def s60:FSpec:=mkS c8d c9N fun x=>vX x.1 x.2.1 x.2.2
def c7M:List MG:=[(true,(.dat y27))]
def c9w:Ret:=⟨[(.cell 2 82,(true,(.dat y32)))],[]⟩
def e43:Env:=⟨35,eqs,tt,gl,[(60,s60)],[],[],[],[]⟩
def d4D:Ann:=.seq lfA (.seq lfA (.seq (.seq lfA (.blk (.loopR [(2,7),(15,34),(4000128,4000129)] ⟨[(2,(false,(.box (.dat y32)))),(15,uiM)],[]⟩ 0 ⟨[(2,(false,(.box (.dat y32))))],[]⟩ lfA))) lfA))
def uf (a0:L8):Option A7:=l7 (ilt 8 (o8 a0.1)) (some (4,1,8,0)) (l9 (J7 (fun(x:
 A7×Int)=>l7 (ilt x.2 (o8 a0.1)) (l9 (lat a0.1 x.2) fun x_1=>l9 (vX a0 x.2 x_1) fun(x_2:
 o9)=>l7 (D6 (ieq x_2.1 0)) (some (.rt (x_2.1,1,x.2,x_2.2))) (some (.nx (x.1,x9 .i64 x.2 1)))) (some (.ex x.1)))
 ((0,0,0,0),0)) fun o=>J9 o (fun(y:A7)=>some (0,0,0,0)) fun(r:
 A7)=>some r)
def s43:FSpec:=mkS c7M c9w fun x=>uf x
def c8B:List MG:=[(true,(.dat y2)),(false,(.dat y1))]
def d0k:Ret:=⟨[(.tmp 4,ubM)],[]⟩
def e83:Env:=⟨28,eqs,tt,gl,[],[],[],[],[]⟩
def d5r:Ann:=.seq lfA (.seq (.seq lfA (.blk (.seq (.join [(7,13)] ⟨[(7,ubM)],[]⟩ lfA) lfA))) lfA)
def aF (a0:o9) (a1:List bT):Option Bool:=l9 (l7 (ieq a0.1 1) (some (ieq a0.1 1)) (l7 (ieq a0.1 2) (some (ieq
 a0.1 2)) (l7 (ieq a0.1 3) (some (ieq a0.1 3)) (l7 (ieq a0.1 4) (some (ieq a0.1 4)) (some (ieq a0.1 5)))))) fun x=>l7 x (some (ieq
 a0.2 0)) (l7 (ieq a0.1 6) (l7 (ile 0 a0.2) (some (ilt a0.2 (o8 a1))) (some false)) (some false))
def s83:FSpec:=mkS c8B d0k fun x=>aF x.1 x.2
def c8C:List MG:=[(true,(.dat y2)),(false,(.dat y1))]
def d0l:Ret:=⟨[(.tmp 4,uiM),(.tmp 5,uiM)],[]⟩
def e84:Env:=⟨30,eqs,tt,gl,[(83,s83)],[],[],[],[]⟩
def d5s:Ann:=.leaf
def jR (a0:o9) (a1:List bT):Option o9:=l9 (aF a0 a1) fun x=>l7 (D6 x) (some (0,
 -1)) (l7 (ieq a0.1 1) (some (0,1)) (l7 (ieq a0.1 2) (some (-1000000000000,1000000000000)) (l7 (ieq a0.1 3) (some (-1000000000000000,
 1000000000000000)) (l7 (ieq a0.1 4) (some (-1000000000,1000000000)) (l7 (ieq a0.1 5) (some (0,109572)) (l9 (lat a1 a0.2) fun x
 =>some (0,G5 .i64 (o8 x.2) 1)))))))
def s84:FSpec:=mkS c8C d0l fun x=>jR x.1 x.2
def c8D:List MG:=[(true,(.dat y2))]
def d0m:Ret:=⟨[(.tmp 2,ubM)],[]⟩
def e85:Env:=⟨18,eqs,tt,gl,[],[],[],[],[]⟩
def d5t:Ann:=.leaf
def jo (a0:o9):Option Bool:=l7 (ile 0 a0.1) (l7 (ile a0.1 a0.2) (some (ile a0.2 109573)) (some false)) (some false)
def s85:FSpec:=mkS c8D d0m fun x=>jo x
def b1e:List MG:=[(true,(.dat y2))]
def b4N:Ret:=⟨[(.tmp 2,ubM)],[]⟩
def d6D:Env:=⟨12,eqs,tt,gl,[(85,s85)],[],[],[],[]⟩
def c3N:Ann:=.leaf
def mZ (a0:o9):Option Bool:=l9 (jo a0) fun x=>l7 x (some (ilt a0.1 a0.2)) (some false)
def d1e:FSpec:=mkS b1e b4N fun x=>mZ x
def b0D:List MG:=[(true,(.dat y2)),(true,(.dat y2))]
def b4k:Ret:=⟨[(.cell 4 74,(true,(.dat y2))),(.tmp 5,ubM)],[]⟩
def d6a:Env:=⟨34,eqs,tt,gl,[(166,d1e)],[],[],[],[]⟩
def c3h:Ann:=.leaf
def kH (a0:o9) (a1:o9):Option (o9×Bool):=l9 (mZ a0) fun x=>l7 (D6 x)
 (some ((0,0),false)) (l9 (mZ a1) fun x=>l7 (D6 x) (some ((0,0),false)) (l7 (ile (eX a0.2 a1.2) (fO a0.1
 a1.1)) (some ((0,0),false)) (some ((fO a0.1 a1.1,eX a0.2 a1.2),true))))
def d0F:FSpec:=mkS b0D b4k fun x=>kH x.1 x.2
def c8E:List MG:=[(true,(.dat y4)),(true,(.dat y4))]
def d0n:Ret:=⟨[(.tmp 4,ubM)],[]⟩
def e88:Env:=⟨29,eqs,tt,gl,[(126,d0F)],[],[],[],[]⟩
def d5u:Ann:=.leaf
def uK (a0:uQ) (a1:uQ):Option Bool:=l9 (kH a0.1 a1.1) fun x=>l7 x.2 (some (ilt
 (fO a0.2.1 a1.2.1) (eX a0.2.2.1 a1.2.2.1))) (some false)
def s88:FSpec:=mkS c8E d0n fun x=>uK x.1 x.2
def a5p:List MG:=[(true,(.dat y4)),(false,(.rp y4))]
def a5S:Ret:=⟨[(.tmp 3,ubM)],[]⟩
def c6P:Env:=⟨7,eqs,tt,gl,[(88,s88)],[],[],[],[]⟩
def b7Z:Ann:=.leaf
def lw (a0:uQ) (a1:uQ):Option Bool:=l9 (uK a0 a1) fun x=>some x
def a6s:FSpec:=mkS a5p a5S fun x=>lw x.1 x.2
def a5n:List MG:=[(false,(.dat y5)),(false,(.fn 87 [y4]))]
def a5Q:Ret:=⟨[(.tmp 4,uiM),(.tmp 5,ubM)],[]⟩
def c6N:Env:=⟨20,eqs,tt,gl,[(87,a6s)],[],[],[],[]⟩
def b7X:Ann:=.seq lfA (.seq (.seq lfA (.blk (.loopR [(4,8),(10,20)] ⟨[(10,uiM)],[]⟩ 0 ⟨[],[]⟩ lfA))) lfA)
def kL (a0:List uQ) (a1:uQ):Option (Int×Bool):=l9 (J7 (fun(x:Int)=>l7 (ilt x (o8 a0)) (l9 (lat a0 x)
 fun x_1=>l9 (lw x_1 a1) fun x_2=>l7 x_2 (some (.rt (x,true))) (some (.nx (x9 .i64 x 1))))
 (some (.ex ()))) 0) fun o=>J9 o (fun(y:PUnit)=>some (0,false)) fun r=>some r
def b7t:FSpec:=mkS a5n a5Q fun x=>kL x.1 x.2
def c8e:List MG:=[(true,(.dat y8)),(false,(.dat y1))]
def c9O:Ret:=⟨[(.tmp 4,uiM),(.tmp 5,uiM)],[]⟩
def e61:Env:=⟨121,eqs,tt,gl,[(83,s83),(84,s84),(85,s85),(87,a6s),(86,b7t)],[],[],[],[]⟩
def d4V:Ann:=.seq lfA (.seq lfA (.seq (.joinR [(4,6),(18,30)] ⟨[],[]⟩ lfA) (.seq lfA (.seq lfA (.seq (.seq lfA (.blk (.loopR [(4,6),(10,14),(47,121)] ⟨[(47,uiM)],[]⟩ 0 ⟨[],[]⟩ (.seq lfA (.seq lfA (.seq (.blk (.seq lfA (.seq (.joinR [(4,6),(52,73)] ⟨[],[]⟩ lfA) (.seq (.joinR [(4,6),(73,98)] ⟨[],[]⟩ lfA) lfA)))) lfA)))))) lfA)))))
def uJ (a0:Y1) (a1:List bT):Option o9:=l7 (ilt 64 (o8 a0.2.2.2)) (some (64,4)) (l9 (l9 (aF
 a0.2.1 a1) fun x=>l7 (D6 x) (some (.inr (-1,8))) (l9 (aF a0.2.2.1 a1) fun x=>l7 (D6 x) (some
 (.inr (-1,8))) (some (.inl ())))) fun o=>J9 o (fun(x:PUnit)=>l9 (jR a0.2.1 a1) fun(x:
 o9)=>l9 (jR a0.2.2.1 a1) fun x_1=>l9 (J7 (fun(x_2:Int)=>l7 (ilt x_2 (o8 a0.2.2.2)) (l9 (lat
 a0.2.2.2 x_2) fun x_3=>l9 (l9 (jo x_3.1) fun x=>l7 (D6 x) (some (.inr (x_2,3))) (l7 (ieq x_3.1.1
 x_3.1.2) (some (.inr (x_2,3))) (l7 (ile x_3.2.2.1 x_3.2.1) (some (.inr (x_2,3))) (some (.inl ()))))) fun o=>J9 o (fun(x_4:PUnit)=>l9 (l7 (ilt x_3.2.1 x.1) (some (.inr (x_2,3))) (l7 (ilt x.2 x_3.2.1) (some (.inr (x_2,
 3))) (l7 (ilt (G5 .i64 x_3.2.2.1 1) x.1) (some (.inr (x_2,3))) (l7 (ilt x.2 (G5 .i64 x_3.2.2.1 1)) (some (.inr (x_2,
 3))) (some (.inl ())))))) fun o=>J9 o (fun(x:PUnit)=>l7 (ilt x_3.2.2.2 x_1.1) (some (.rt (x_2,3)))
 (l7 (ilt x_1.2 x_3.2.2.2) (some (.rt (x_2,3))) (l9 (Ei a0.2.2.2 0 x_2) fun x=>l9 (kL x x_3) fun(x:
 Int×Bool)=>l7 x.2 (some (.rt (x_2,11))) (some (.nx (x9 .i64 x_2 1)))))) fun r=>some (.rt r)) fun(r:
 o9)=>some (.rt r)) (some (.ex ()))) 0) fun o=>J9 o (fun(y:PUnit)=>some (0,0)) fun(r:
 o9)=>some r) fun r=>some r)
def s61:FSpec:=mkS c8e c9O fun x=>uJ x.1 x.2
def a5t:List MG:=[(true,(.dat y8)),(false,(.rp .str))]
def a5W:Ret:=⟨[(.tmp 3,ubM)],[]⟩
def c6T:Env:=⟨8,eqs,tt,gl,[],[],[],[],[]⟩
def b8d:Ann:=.leaf
def yJ (a0:Y1) (a1:List UInt8):Option Bool:=some (seq a0.1 a1)
def a6u:FSpec:=mkS a5t a5W fun x=>yJ x.1 x.2
def a0I:List MG:=[(false,(.dat y9)),(false,(.fn 95 [.str]))]
def a1i:Ret:=⟨[(.tmp 4,uiM)],[]⟩
def b8A:Env:=⟨19,eqs,tt,gl,[(95,a6u)],[],[],[],[]⟩
def a8f:Ann:=.seq lfA (.seq (.seq lfA (.blk (.loopR [(4,6),(8,19)] ⟨[(8,uiM)],[]⟩ 0 ⟨[],[]⟩ lfA))) lfA)
def bQ (a0:List Y1) (a1:List UInt8):Option Int:=l9 (J7 (fun(x:Int)=>l7 (ilt x (o8 a0))
 (l9 (lat a0 x) fun x_1=>l9 (yJ x_1 a1) fun x_2=>l7 x_2 (some (.rt x)) (some (.nx (x9 .i64
 x 1)))) (some (.ex ()))) 0) fun o=>J9 o (fun(y:PUnit)=>some (-1)) fun r=>some r
def a6a:FSpec:=mkS a0I a1i fun x=>bQ x.1 x.2
def a5s:List MG:=[(false,(.dat y9)),(false,(.fn 95 [.str]))]
def a5V:Ret:=⟨[(.tmp 4,ubM)],[]⟩
def c6S:Env:=⟨9,eqs,tt,gl,[(129,a6a)],[],[],[],[]⟩
def b8c:Ann:=.leaf
def aO (a0:List Y1) (a1:List UInt8):Option Bool:=l9 (bQ a0 a1)
 fun x=>some (ile 0 x)
def b7w:FSpec:=mkS a5s a5V fun x=>aO x.1 x.2
def c8h:List MG:=[(false,(.dat y9)),(false,(.dat .str))]
def c9R:Ret:=⟨[(.tmp 4,ubM)],[]⟩
def e64:Env:=⟨8,eqs,tt,gl,[(95,a6u),(94,b7w)],[],[],[],[]⟩
def d4Y:Ann:=.leaf
def uh (a0:List Y1) (a1:List UInt8):Option Bool:=l9 (aO a0 a1) fun x=>some x
def s64:FSpec:=mkS c8h c9R fun x=>uh x.1 x.2
def c7N:List MG:=[(true,(.dat y27))]
def c9x:Ret:=⟨[(.cell 2 82,(true,(.dat y32)))],[]⟩
def e44:Env:=⟨68,eqs,tt,gl,[(61,s61),(62,s62),(63,s63),(64,s64)],[],[],[],[]⟩
def d4E:Ann:=.seq lfA (.seq lfA (.seq (.seq lfA (.blk (.loopR [(2,8),(16,67),(4000128,4000129)] ⟨[(2,(false,(.box (.dat y32)))),(16,uiM)],[]⟩ 0 ⟨[(2,(false,(.box (.dat y32))))],[]⟩ (.seq lfA (.seq lfA (.seq (.blk (.seq lfA (.seq lfA (.seq lfA (.seq (.join [(5,6),(30,62),(37000320,37000321)] ⟨[(5,(false,(.box (.dat y32))))],[]⟩ lfA) lfA))))) lfA)))))) lfA))
def qQ (a0:L8):Option A7:=l7 (ilt 8 (o8 a0.2.1)) (some (4,2,8,0)) (l9 (J7 (fun(x:
 A7×Int)=>l7 (ilt x.2 (o8 a0.2.1)) (l9 (lat a0.2.1 x.2) fun x_1=>l9 (uJ x_1 a0.1) fun(x_2:
 o9)=>l9 (l9 (ax x_1.1) fun x_3=>l7 (D6 x_3) (some (2,2,x.2,0)) (l9 (su a0.1 x_1.1) fun
 (x_4:Bool)=>l7 x_4 (some (7,2,x.2,0)) (l9 (Ei a0.2.1 0 x.2) fun x_5=>l9 (uh x_5 x_1.1) fun x_6
 =>l7 x_6 (some (7,2,x.2,0)) (l7 (D6 (ieq x_2.2 0)) (l7 (D6 (ieq x_2.1 (-1))) (some (x_2.2,2,x.2,x9 .i64 100 x_2.1))
 (some (x_2.2,2,x.2,0))) (some (0,2,x.2,0)))))) fun x_3=>l7 (D6 (ieq x_3.1 0)) (some (.rt x_3)) (some (.nx
 (x.1,x9 .i64 x.2 1)))) (some (.ex x.1))) ((0,0,0,0),0)) fun o=>J9 o (fun(y:
 A7)=>some (0,0,0,0)) fun r=>some r)
def s44:FSpec:=mkS c7N c9x fun x=>qQ x
def a5v:List MG:=[(true,(.dat y24)),(false,(.rp y24))]
def a5Y:Ret:=⟨[(.tmp 3,ubM)],[]⟩
def c6V:Env:=⟨9,eqs,tt,gl,[],[],[],[],[]⟩
def b8f:Ann:=.leaf
def vz (a0:D8) (a1:D8):Option Bool:=some (seq a0.1 a1.1)
def a6v:FSpec:=mkS a5v a5Y fun x=>vz x.1 x.2
def a0J:List MG:=[(false,(.dat y25)),(false,(.fn 97 [y24]))]
def a1j:Ret:=⟨[(.tmp 4,uiM)],[]⟩
def b8B:Env:=⟨19,eqs,tt,gl,[(97,a6v)],[],[],[],[]⟩
def a8g:Ann:=.seq lfA (.seq (.seq lfA (.blk (.loopR [(4,6),(8,19)] ⟨[(8,uiM)],[]⟩ 0 ⟨[],[]⟩ lfA))) lfA)
def bP (a0:List D8) (a1:D8):Option Int:=l9 (J7 (fun(x:Int)=>l7 (ilt x (o8 a0))
 (l9 (lat a0 x) fun x_1=>l9 (vz x_1 a1) fun x_2=>l7 x_2 (some (.rt x)) (some (.nx (x9
 .i64 x 1)))) (some (.ex ()))) 0) fun o=>J9 o (fun(y:PUnit)=>some (-1)) fun r=>some r
def a6b:FSpec:=mkS a0J a1j fun x=>bP x.1 x.2
def a5u:List MG:=[(false,(.dat y25)),(false,(.fn 97 [y24]))]
def a5X:Ret:=⟨[(.tmp 4,ubM)],[]⟩
def c6U:Env:=⟨9,eqs,tt,gl,[(130,a6b)],[],[],[],[]⟩
def b8e:Ann:=.leaf
def Y0 (a0:List D8) (a1:D8):Option Bool:=l9 (bP a0 a1) fun
 (x:Int)=>some (ile 0 x)
def b7x:FSpec:=mkS a5u a5X fun x=>Y0 x.1 x.2
def a0K:List MG:=[(true,(.dat y10)),(false,(.rp y10))]
def a1k:Ret:=⟨[(.tmp 3,ubM)],[]⟩
def b8C:Env:=⟨9,eqs,tt,gl,[],[],[],[],[]⟩
def a8h:Ann:=.leaf
def vk (a0:bg) (a1:bg):Option Bool:=some (seq a0.1 a1.1)
def YQ:FSpec:=mkS a0K a1k fun x=>vk x.1 x.2
def a0Q:List MG:=[(false,(.dat y11)),(false,(.fn 131 [y10]))]
def a1q:Ret:=⟨[(.tmp 4,uiM)],[]⟩
def b8I:Env:=⟨19,eqs,tt,gl,[(131,YQ)],[],[],[],[]⟩
def a8n:Ann:=.seq lfA (.seq (.seq lfA (.blk (.loopR [(4,6),(8,19)] ⟨[(8,uiM)],[]⟩ 0 ⟨[],[]⟩ lfA))) lfA)
def bM (a0:List bg) (a1:bg):Option Int:=l9 (J7 (fun(x:Int)=>l7 (ilt x (o8 a0))
 (l9 (lat a0 x) fun x_1=>l9 (vk x_1 a1) fun x_2=>l7 x_2 (some (.rt x)) (some (.nx (x9
 .i64 x 1)))) (some (.ex ()))) 0) fun o=>J9 o (fun(y:PUnit)=>some (-1)) fun r=>some r
def a6h:FSpec:=mkS a0Q a1q fun x=>bM x.1 x.2
def a0L:List MG:=[(false,(.dat y11)),(false,(.fn 131 [y10]))]
def a1l:Ret:=⟨[(.tmp 4,ubM)],[]⟩
def b8D:Env:=⟨9,eqs,tt,gl,[(167,a6h)],[],[],[],[]⟩
def a8i:Ann:=.leaf
def U5 (a0:List bg) (a1:bg):Option Bool:=l9 (bM a0 a1) fun
 (x:Int)=>some (ile 0 x)
def a6c:FSpec:=mkS a0L a1l fun x=>U5 x.1 x.2
def c8I:List MG:=[(true,(.dat y27)),(true,(.dat y10)),(false,(.dat y11)),(false,(.dat y11))]
def d0r:Ret:=⟨[(.tmp 8,uiM)],[]⟩
def e98:Env:=⟨32,eqs,tt,gl,[(131,YQ),(62,s62),(132,a6c),(83,s83)],[],[],[],[]⟩
def d5y:Ann:=.leaf
def og (a0:L8) (a1:bg) (a2:List bg) (a3:List bg):Option Int:=l9 (ax a1.1) fun x=>
 l7 (D6 x) (some 2) (l9 (U5 a2 a1) fun x=>l7 x (some 7) (l9
 (U5 a3 a1) fun x=>l7 x (some 7) (l9 (aF a1.2 a0.1) fun x=>l7 (D6
 x) (some 8) (some 0))))
def s98:FSpec:=mkS c8I d0r fun x=>og x.1 x.2.1 x.2.2.1 x.2.2.2
def b0F:List MG:=[(false,(.dat y11))]
def b4m:Ret:=⟨[(.tmp 2,(false,(.own y2)))],[]⟩
def d6c:Env:=⟨19,eqs,tt,gl,[],[],[],[],[]⟩
def c3j:Ann:=.seq lfA (.seq lfA (.seq (.seq lfA (.blk (.loop [(3,4),(5,6),(8,18)] ⟨[(3,(false,(.own y2))),(8,uiM)],[]⟩ 0 ⟨[(3,(false,(.own y2)))],[]⟩ lfA))) lfA))
def kU (a0:List bg):Option (List o9):=l9 (P5 (fun(x:List o9×Int)=>l7 (ilt x.2 (o8 a0)) (l9
 (lat a0 x.2) fun x_1=>l9 (X9 x.1 [x_1.2]) fun x_2=>some (.inl (x_2,x9 .i64 x.2 1))) (some
 (.inr x.1))) ([],0)) fun y=>some y
def d0H:FSpec:=mkS b0F b4m fun x=>kU x
def c8J:List MG:=[(true,(.dat y27)),uiM]
def d0s:Ret:=⟨[(.cell 4 169,(true,(.dat y51)))],[]⟩
def e99:Env:=⟨45,eqs,tt,gl,[(133,d0H)],[],[],[],[]⟩
def d5z:Ann:=.leaf
def iw (a0:L8) (a1:Int):Option H8:=l9 (lat a0.2.2 a1) fun x=>l9 (kU x.2.2.1) fun
 (x_1:List o9)=>l9 (kU x.2.2.2.1) fun x_2=>l7 (ile 0 x.2.1) (l7 (ilt x.2.1 (o8 a0.2.2)) (l9
 (lat a0.2.2 x.2.1) fun x=>l9 (kU x.2.2.2.1) fun x=>some (a0.1,a0.2.1,x_1,x_2,x,true)) (some
 (a0.1,a0.2.1,x_1,x_2,[],false))) (some (a0.1,a0.2.1,x_1,x_2,[],false))
def s99:FSpec:=mkS c8J d0s fun x=>iw x.1 x.2
def a0N:List MG:=[(true,(.dat y19)),(false,(.rp y19))]
def a1n:Ret:=⟨[(.tmp 3,ubM)],[]⟩
def b8F:Env:=⟨9,eqs,tt,gl,[],[],[],[],[]⟩
def a8k:Ann:=.leaf
def wW (a0:V9) (a1:V9):Option Bool:=some (seq a0.1 a1.1)
def YR:FSpec:=mkS a0N a1n fun x=>wW x.1 x.2
def a0R:List MG:=[(false,(.dat y20)),(false,(.fn 135 [y19]))]
def a1r:Ret:=⟨[(.tmp 4,uiM)],[]⟩
def b8J:Env:=⟨19,eqs,tt,gl,[(135,YR)],[],[],[],[]⟩
def a8o:Ann:=.seq lfA (.seq (.seq lfA (.blk (.loopR [(4,6),(8,19)] ⟨[(8,uiM)],[]⟩ 0 ⟨[],[]⟩ lfA))) lfA)
def dF (a0:List V9) (a1:V9):Option Int:=l9 (J7 (fun(x:Int)=>l7 (ilt x (o8 a0)) (l9
 (lat a0 x) fun x_1=>l9 (wW x_1 a1) fun x_2=>l7 x_2 (some (.rt x)) (some (.nx (x9 .i64 x
 1)))) (some (.ex ()))) 0) fun o=>J9 o (fun(y:PUnit)=>some (-1)) fun r=>some r
def a6i:FSpec:=mkS a0R a1r fun x=>dF x.1 x.2
def a0M:List MG:=[(false,(.dat y20)),(false,(.fn 135 [y19]))]
def a1m:Ret:=⟨[(.tmp 4,ubM)],[]⟩
def b8E:Env:=⟨9,eqs,tt,gl,[(168,a6i)],[],[],[],[]⟩
def a8j:Ann:=.leaf
def Z7 (a0:List V9) (a1:V9):Option Bool:=l9 (dF a0 a1) fun(x:
 Int)=>some (ile 0 x)
def a6d:FSpec:=mkS a0M a1m fun x=>Z7 x.1 x.2
def c7m:List MG:=[(false,(.dat .str)),(false,(.dat .str))]
def d1f:FSpec:=⟨c7m,[ubM],[],fun x=>qj x.1 x.2⟩
def b0G:List MG:=[(false,(.dat .str))]
def b4n:Ret:=⟨[(.tmp 2,ubM)],[]⟩
def d6d:Env:=⟨27,eqs,tt,gl,[(169,d1f)],[],[],[],[]⟩
def c3k:Ann:=.seq lfA (.seq lfA (.seq (.seq lfA (.blk (.loopR [(2,4),(13,27)] ⟨[(13,uiM)],[]⟩ 0 ⟨[],[]⟩ lfA))) lfA))
def qR (a0:List UInt8):Option Bool:=l7 (ilt 64 (o8 a0)) (some false) (l9 (qj a0 [34]) fun x=>l7 x
 (some false) (l9 (J7 (fun(x:Int)=>l7 (ilt x (o8 a0)) (l9 (sat a0 x) fun x_1=>l7 (ilt x_1 32) (some (.rt false))
 (l9 (sat a0 x) fun x_2=>l7 (ilt 126 x_2) (some (.rt false)) (some (.nx (x9 .i64 x 1))))) (some (.ex ())))
 0) fun o=>J9 o (fun(y:PUnit)=>some true) fun r=>some r))
def d0I:FSpec:=mkS b0G b4n fun x=>qR x
def b1y:List MG:=[uiM]
def b5i:Ret:=⟨[(.tmp 2,uiM)],[]⟩
def d7a:Env:=⟨47,eqs,tt,gl,[],[],[],[],[]⟩
def c4l:Ann:=.seq lfA (.seq (.seq lfA (.blk (.seq (.join [(4,19)] ⟨[(4,ubM)],[]⟩ lfA) (.cond lfA (.seq (.join [(19,26)] ⟨[(19,ubM)],[]⟩ lfA) (.cond lfA (.seq (.join [(26,45)] ⟨[(26,ubM)],[]⟩ lfA) lfA))))))) lfA)
def gV (a0:Int):Option Int:=l9 (l7 (ieq a0 1) (some (ieq a0 1)) (l7 (ieq a0 2) (some (ieq a0 2)) (l7 (ieq a0 3) (some (ieq
 a0 3)) (l7 (ieq a0 4) (some (ieq a0 4)) (l7 (ieq a0 5) (some (ieq a0 5)) (l7 (ieq a0 6) (some (ieq a0 6)) (l7 (ieq a0 7) (some (ieq a0
 7)) (l7 (ieq a0 8) (some (ieq a0 8)) (l7 (ieq a0 9) (some (ieq a0 9)) (l7 (ieq a0 35) (some (ieq a0 35)) (l7 (ieq a0 36) (some (ieq a0
 36)) (l7 (ieq a0 37) (some (ieq a0 37)) (l7 (ieq a0 38) (some (ieq a0 38)) (some (ieq a0 39))))))))))))))) fun x=>l7 x (some 0)
 (l9 (l7 (ieq a0 10) (some (ieq a0 10)) (l7 (ieq a0 25) (some (ieq a0 25)) (l7 (ieq a0 31) (some (ieq a0 31)) (l7 (ieq a0 32) (some
 (ieq a0 32)) (l7 (ieq a0 33) (some (ieq a0 33)) (some (ieq a0 34))))))) fun x=>l7 x (some 1) (l9 (l7 (ieq a0 11) (some (ieq a0
 11)) (l7 (ieq a0 12) (some (ieq a0 12)) (l7 (ieq a0 13) (some (ieq a0 13)) (l7 (ieq a0 14) (some (ieq a0 14)) (l7 (ieq a0 15) (some (ieq
 a0 15)) (l7 (ieq a0 16) (some (ieq a0 16)) (l7 (ieq a0 17) (some (ieq a0 17)) (l7 (ieq a0 18) (some (ieq a0 18)) (l7 (ieq a0 19) (some
 (ieq a0 19)) (l7 (ieq a0 20) (some (ieq a0 20)) (l7 (ieq a0 21) (some (ieq a0 21)) (l7 (ieq a0 22) (some (ieq a0 22)) (l7 (ieq a0 23)
 (some (ieq a0 23)) (l7 (ieq a0 24) (some (ieq a0 24)) (l7 (ieq a0 27) (some (ieq a0 27)) (l7 (ieq a0 28) (some (ieq a0 28)) (l7 (ieq a0
 29) (some (ieq a0 29)) (some (ieq a0 30))))))))))))))))))) fun x=>l7 x (some 2) (l7 (ieq a0 26) (some 3) (some (-1)))))
def a3j:FSpec:=mkS b1y b5i fun x=>gV x
def b1k:List MG:=[(false,(.dat y12))]
def b4T:Ret:=⟨[(.tmp 2,uoM),(.tmp 3,uiM),(.tmp 4,uiM)],[]⟩
def d6J:Env:=⟨76,eqs,tt,gl,[(199,a3j)],[],[],[],[]⟩
def c3T:Ann:=.seq lfA (.seq lfA (.seq lfA (.seq lfA (.seq lfA (.seq (.seq lfA (.blk (.loopR [(2,10),(21,70),(27001152,27001153)] ⟨[(5,uoM),(6,uoM),(21,uiM)],[]⟩ 0 ⟨[(5,uoM),(6,uoM)],[]⟩ lfA))) lfA)))))
def nV (a0:List o9):Option (List Int×o9):=l7 (ilt 48 (o8 a0)) (some ([],0,4)) (l7 (ieq (o8 a0) 0) (some
 ([],0,5)) (l9 (iU (o8 a0) 0) fun x=>l9 (J7 (fun(x:List Int×List Int×Int)=>l7 (ilt x.2.2 (o8 a0)) (l9
 (lat a0 x.2.2) fun x_1=>l9 (gV x_1.1) fun x_2=>l7 (ilt x_2 0) (some (.rt ([],x.2.2,2))) (l7 (ilt
 (o8 x.2.1) x_2) (some (.rt ([],x.2.2,5))) (l9 (lat x.1 x.2.2) fun x_3=>l9 (J4 x.1 (toN x.2.2)) fun x_4=>l7 (ilt
 0 x_2) (l9 (lat x.2.1 (G5 .i64 (o8 x.2.1) x_2)) fun x_5=>l9 (J4 x.2.1 (toN (G5 .i64 (o8 x.2.1) x_2))) fun
 (x_6:Int)=>l9 (lat (P6 x.1 (toN x.2.2) x.2.2) x.2.2) fun x_7=>l9 (J4 (P6 x.1 (toN x.2.2) x.2.2) (toN x.2.2)) fun(x_8:
 Int)=>l7 (ja 0 (G5 .i64 (o8 x.2.1) x_2) (o8 x.2.1)) (l9 (lat (P6 (P6 x.1 (toN x.2.2) x.2.2) (toN x.2.2) x_6) x.2.2) fun
 (x_9:Int)=>l9 (J4 (P6 (P6 x.1 (toN x.2.2) x.2.2) (toN x.2.2) x_6) (toN x.2.2)) fun x_10=>l9 (X9 (gq x.2.1 (toN 0) (toN
 (G5 .i64 (o8 x.2.1) x_2))) [x_10]) fun x_11=>l7 (ilt 12 (o8 x_11)) (some (.rt ([],x.2.2,16))) (some (.nx (P6
 (P6 x.1 (toN x.2.2) x.2.2) (toN x.2.2) x_6,x_11,x9 .i64 x.2.2 1)))) none) (l7 (ja 0 (G5 .i64 (o8 x.2.1) x_2) (o8
 x.2.1)) (l9 (lat (P6 x.1 (toN x.2.2) x.2.2) x.2.2) fun x_5=>l9 (J4 (P6 x.1 (toN x.2.2) x.2.2) (toN x.2.2)) fun x_6=>
 l9 (X9 (gq x.2.1 (toN 0) (toN (G5 .i64 (o8 x.2.1) x_2))) [x_6]) fun x_7=>l7 (ilt 12 (o8 x_7)) (some (.rt
 ([],x.2.2,16))) (some (.nx (P6 x.1 (toN x.2.2) x.2.2,x_7,x9 .i64 x.2.2 1)))) none)))) (some (.ex (x.1,x.2.1)))) (x,[],0)) fun
 (o:List Int×List Int⊕List Int×o9)=>J9 o (fun(y:List Int×List Int)=>l7 (ilt 1 (o8 y.2)) (some ([],o8 a0,4)) (some
 (y.1,0,0))) fun r=>some r))
def b9t:FSpec:=mkS b1k b4T fun x=>nV x
def b1x:List MG:=[uiM]
def b5h:Ret:=⟨[(.tmp 2,ubM)],[]⟩
def d6Z:Env:=⟨22,eqs,tt,gl,[],[],[],[],[]⟩
def c4k:Ann:=.leaf
def dD (a0:Int):Option Bool:=l7 (ieq a0 1) (l7 (ieq a0 1) (some true) (some false)) (l7 (ieq a0 2) (l7 (ieq a0 2) (some
 true) (some false)) (l7 (ieq a0 3) (l7 (ieq a0 3) (some true) (some false)) (l7 (ieq a0 4) (l7 (ieq a0 4) (some true) (some false))
 (l7 (ieq a0 5) (l7 (ieq a0 5) (some true) (some false)) (l7 (ieq a0 6) (l7 (ieq a0 6) (some true) (some false)) (l7 (ieq a0 7) (l7
 (ieq a0 7) (some true) (some false)) (l7 (ieq a0 8) (l7 (ieq a0 8) (some true) (some false)) (l7 (ieq a0 14) (l7 (ieq a0 14) (some true)
 (some false)) (l7 (ieq a0 15) (l7 (ieq a0 15) (some true) (some false)) (l7 (ieq a0 16) (l7 (ieq a0 16) (some true) (some false)) (l7
 (ieq a0 33) (l7 (ieq a0 33) (some true) (some false)) (l7 (ieq a0 34) (l7 (ieq a0 34) (some true) (some false)) (l7 (ieq a0 36) (l7
 (ieq a0 36) (some true) (some false)) (l7 (ieq a0 37) (l7 (ieq a0 37) (some true) (some false)) (l7 (ieq a0 38) (l7 (ieq a0 38) (some
 true) (some false)) (l7 (ieq a0 39) (some true) (some false)))))))))))))))))
def b9u:FSpec:=mkS b1x b5h fun x=>dD x
def b1S:List MG:=[uiM,uiM,(true,(.dat y51))]
def b5C:Ret:=⟨[(.cell 6 54,(true,(.dat y2))),(.tmp 7,uiM)],[]⟩
def d7x:Env:=⟨30,eqs,tt,gl,[(84,s84)],[],[],[],[]⟩
def c4J:Ann:=.leaf
def dJ (a0:Int) (a1:Int) (a2:H8):Option (o9×Int):=l9 (jR (a1,0) a2.1) fun x=>
 l7 (ilt a0 x.1) (some ((0,0),3)) (l7 (ilt x.2 a0) (some ((0,0),3)) (some ((a1,0),0)))
def d1L:FSpec:=mkS b1S b5C fun x=>dJ x.1 x.2.1 x.2.2
def b1T:List MG:=[uiM,(true,(.dat y51))]
def b5D:Ret:=⟨[(.cell 4 54,(true,(.dat y2))),(.tmp 5,uiM)],[]⟩
def d7y:Env:=⟨34,eqs,tt,gl,[],[],[],[],[]⟩
def c4K:Ann:=.leaf
def vV (a0:Int) (a1:H8):Option (o9×Int):=l7 (ilt a0 0) (some ((0,0),3)) (l7 (ile (o8 a1.1) (V5
 .i64 a0 16)) (some ((0,0),6)) (l9 (lat a1.1 (V5 .i64 a0 16)) fun x=>l7 (ile (o8 x.2) (V6 a0 16)) (some ((0,
 0),6)) (some ((6,V5 .i64 a0 16),0))))
def d1M:FSpec:=mkS b1T b5D fun x=>vV x.1 x.2
def b1U:List MG:=[uiM,(false,(.dat y12)),(true,(.dat y51))]
def b5E:Ret:=⟨[(.cell 6 54,(true,(.dat y2))),(.tmp 7,uiM)],[]⟩
def d7z:Env:=⟨30,eqs,tt,gl,[(83,s83)],[],[],[],[]⟩
def c4M:Ann:=.leaf
def dA (a0:Int) (a1:List o9) (a2:H8):Option (o9×Int):=l7 (ilt a0 0) (some ((0,0),6)) (l7 (ile
 (o8 a1) a0) (some ((0,0),6)) (l9 (lat a1 a0) fun x=>l9 (aF x a2.1) fun x=>l7 (D6 x) (some ((0,
 0),8)) (l9 (lat a1 a0) fun x=>some (x,0))))
def b9v:FSpec:=mkS b1U b5E fun x=>dA x.1 x.2.1 x.2.2
def b1X:List MG:=[uiM]
def b5H:Ret:=⟨[(.tmp 2,ubM)],[]⟩
def d7C:Env:=⟨9,eqs,tt,gl,[],[],[],[],[]⟩
def c4P:Ann:=.leaf
def gm (a0:Int):Option Bool:=l7 (ile 0 a0) (some (ile a0 5)) (some false)
def b9w:FSpec:=mkS b1X b5H fun x=>gm x
def b1V:List MG:=[(true,(.dat y2)),(true,(.dat y2)),(true,(.dat y51))]
def b5F:Ret:=⟨[(.cell 6 54,(true,(.dat y2))),(.tmp 7,uiM)],[]⟩
def d7A:Env:=⟨84,eqs,tt,gl,[(238,b9w),(83,s83)],[],[],[],[]⟩
def c4N:Ann:=.seq lfA (.seq lfA (.seq (.joinR [(6,9),(13,30),(4000384,4000385)] ⟨[(6,(false,(.box (.dat y2)))),(8,uiM)],[]⟩ lfA) (.seq (.joinR [(6,8),(30,40),(9000000,9000001)] ⟨[(6,(false,(.box (.dat y2))))],[]⟩ lfA) (.seq lfA (.seq (.joinR [(6,8),(52,70),(27000000,27000001)] ⟨[(6,(false,(.box (.dat y2))))],[]⟩ lfA) lfA)))))
def kR (a0:o9) (a1:o9) (a2:H8):Option (o9×Int):=l9 (l7 (ieq a0.1 34) (l7 (ilt a0.2 0)
 (some (.inr ((0,0),3))) (l9 (gm (V6 a0.2 8)) fun x=>l7 (D6 x) (some (.inr ((0,0),3))) (some (.inl ((0,
 0),V5 .i64 a0.2 8))))) (some (.inl ((0,0),a0.2)))) fun o=>J9 o (fun(x:o9×Int)=>
 l9 (l7 (ilt x.2 0) (some (.inr ((0,0),6))) (l7 (ile (o8 a2.2.1) x.2) (some (.inr ((0,0),6))) (some (.inl x.1)))) fun(o:
 o9⊕o9×Int)=>J9 o (fun(x_1:o9)=>l9 (lat a2.2.1 x.2) fun x_2=>l9 (lat a2.2.1 x.2) fun x
 =>l9 (l9 (aF x_2.2.1 a2.1) fun x_3=>l7 (D6 x_3) (some (.inr ((0,0),8))) (l9 (aF x.2.2.1
 a2.1) fun x=>l7 (D6 x) (some (.inr ((0,0),8))) (l7 (D6 (aK (ieq a1.1 x_2.2.1.1) (ieq a1.2 x_2.2.1.2))) (some (.inr
 ((0,0),8))) (some (.inl x_1))))) fun o=>J9 o (fun(x_3:o9)=>l7 (ieq a0.1 34) (l7 (D6 (ieq
 x_2.2.1.1 3)) (some ((0,0),8)) (l7 (D6 (ieq x.2.2.1.1 4)) (some ((0,0),8)) (some (x_2.2.1,0)))) (some (x.2.2.1,0))) fun r=>some r) fun r=>some r) fun r=>some r
def d1N:FSpec:=mkS b1V b5F fun x=>kR x.1 x.2.1 x.2.2
def b2G:List MG:=[uiM]
def b6q:Ret:=⟨[(.tmp 2,ubM)],[]⟩
def d8l:Env:=⟨13,eqs,tt,gl,[],[],[],[],[]⟩
def c5z:Ann:=.leaf
def fK (a0:Int):Option Bool:=l7 (ieq a0 2) (some true) (l7 (ieq a0 3) (some true) (some (ieq a0 4)))
def b9D:FSpec:=mkS b2G b6q fun x=>fK x
def b1W:List MG:=[(true,(.dat y2)),(true,(.dat y51))]
def b5G:Ret:=⟨[(.cell 4 54,(true,(.dat y2))),(.tmp 5,uiM)],[]⟩
def d7B:Env:=⟨62,eqs,tt,gl,[(235,b9v),(283,b9D)],[],[],[],[]⟩
def c4O:Ann:=.seq lfA (.seq lfA (.seq lfA (.seq lfA (.seq lfA (.seq lfA (.seq (.join [(8,9),(30,58)] ⟨[(8,ubM)],[]⟩ lfA) lfA))))))
def jv (a0:o9) (a1:H8):Option (o9×Int):=l7 (D6 a1.2.2.2.2.2) (some ((0,0),6)) (l7 (ieq a0.1 35)
 (some ((2,0),0)) (l9 (dA a0.2 a1.2.2.2.2.1 a1) fun x=>l7 (D6 (ieq x.2 0)) (some ((0,0),x.2)) (l9
 (l7 (ieq a0.1 36) (l7 (ieq x.1.1 2) (some true) (some (ieq x.1.1 3))) (l7 (ieq a0.1 37) (l7 (ieq a0.1 37) (some (ieq x.1.1 1)) (l7
 (ieq a0.1 39) (l9 (fK x.1.1) fun x_1=>l7 x_1 (some true) (some (ieq x.1.1 5))) (some false))) (l7 (ieq a0.1 38) (some
 (ieq x.1.1 1)) (l7 (ieq a0.1 39) (l9 (fK x.1.1) fun x_1=>l7 x_1 (some true) (some (ieq x.1.1 5))) (some false))))) fun
 (x_1:Bool)=>l7 (D6 x_1) (some ((0,0),8)) (some (x.1,0)))))
def d1O:FSpec:=mkS b1W b5G fun x=>jv x.1 x.2
def b2H:List MG:=[uiM,uiM,uiM]
def b6r:Ret:=⟨[(.cell 6 54,(true,(.dat y2))),(.tmp 7,ubM)],[]⟩
def d8m:Env:=⟨47,eqs,tt,gl,[],[],[],[],[]⟩
def c5A:Ann:=.leaf
def Bd (a0:Int) (a1:Int) (a2:Int):Option (o9×Bool):=l7 (ieq a0 14) (l7 (ieq a2 4) (l7 (ieq a1 3) (some ((a1,
 0),true)) (some ((a1,0),ieq a1 4))) (some ((a1,0),false))) (l7 (ieq a2 2) (l7 (ieq a1 2) (some ((a1,0),true)) (some ((a1,0),ieq a1
 3))) (l7 (ieq a0 15) (l7 (ieq a1 3) (l7 (ieq a2 3) (some ((4,0),true)) (some ((0,0),false))) (some ((0,0),false))) (some ((0,0),
 false))))
def d2p:FSpec:=mkS b2H b6r fun x=>Bd x.1 x.2.1 x.2.2
def b1Y:List MG:=[uiM,(false,(.dat y12))]
def b5I:Ret:=⟨[(.cell 4 54,(true,(.dat y2))),(.tmp 5,ubM)],[]⟩
def d7D:Env:=⟨222,eqs,tt,gl,[(283,b9D),(284,d2p)],[],[],[],[]⟩
def c4Q:Ann:=.seq lfA (.seq lfA (.seq (.joinR [(4,6),(8,221),(4000256,4000257)] ⟨[(4,(false,(.box (.dat y2))))],[]⟩ (.seq lfA (.blk (.seq lfA (.cond lfA (.seq lfA (.cond lfA (.seq (.join [(27,30)] ⟨[(27,ubM)],[]⟩ lfA) (.cond lfA (.seq (.join [(47,51)] ⟨[(47,ubM)],[]⟩ lfA) (.cond lfA (.seq lfA (.cond lfA (.seq (.join [(80,83)] ⟨[(80,ubM)],[]⟩ lfA) (.cond lfA (.seq (.join [(107,110)] ⟨[(107,ubM)],[]⟩ lfA) (.cond lfA (.seq (.join [(118,121)] ⟨[(118,ubM)],[]⟩ lfA) (.cond lfA (.seq (.join [(143,146)] ⟨[(143,ubM)],[]⟩ lfA) (.cond lfA (.seq lfA (.cond lfA (.seq (.join [(178,181)] ⟨[(178,ubM)],[]⟩ lfA) lfA)))))))))))))))))))))))) lfA))
def gX (a0:Int) (a1:List o9):Option (o9×Bool):=l9 (l7 (ieq a0 10) (l9 (lat a1 0) fun x=>
 l9 (lat a1 0) fun x_1=>l9 (fK x_1.1) fun x_2=>some (.inr (x,x_2))) (l7 (ieq a0 25) (l9 (lat a1
 0) fun x=>some (.inr ((1,0),ieq x.1 1))) (l9 (l7 (ieq a0 11) (some (ieq a0 11)) (some (ieq a0 12))) fun x=>
 l7 x (l9 (lat a1 0) fun x=>l9 (lat a1 0) fun x_1=>l9 (lat a1 1) fun x_2=>l7 (aK (ieq
 x_1.1 x_2.1) (ieq x_1.2 x_2.2)) (l9 (lat a1 0) fun x_3=>l9 (fK x_3.1) fun x_4=>some (.inr (x,x_4)))
 (some (.inr (x,false)))) (l9 (l7 (ieq a0 13) (some (ieq a0 13)) (l7 (ieq a0 14) (some (ieq a0 14)) (some (ieq a0 15)))) fun x
 =>l7 x (l9 (lat a1 0) fun x=>l9 (lat a1 1) fun x_1=>l9 (Bd a0 x.1 x_1.1) fun(x:
 o9×Bool)=>some (.inr x)) (l7 (ieq a0 16) (l9 (lat a1 0) fun x=>l9 (lat a1 0) fun x_1=>l7
 (ieq x_1.1 3) (l9 (lat a1 1) fun x_2=>some (.inr (x,ieq x_2.1 3))) (some (.inr (x,false)))) (l9 (l7 (ieq a0 17)
 (some (ieq a0 17)) (some (ieq a0 18))) fun x=>l7 x (l9 (lat a1 0) fun x=>l9 (lat a1 0) fun x_1=>
 l9 (lat a1 1) fun x_2=>l7 (aK (ieq x_1.1 x_2.1) (ieq x_1.2 x_2.2)) (l9 (lat a1 0) fun x_3=>l9
 (fK x_3.1) fun x_4=>l7 x_4 (some (.inr (x,true))) (l9 (lat a1 0) fun x_5=>some (.inr (x,ieq x_5.1
 5)))) (some (.inr (x,false)))) (l9 (l7 (ieq a0 19) (some (ieq a0 19)) (some (ieq a0 20))) fun x=>l7 x (l9 (lat a1 0) fun
 (x:o9)=>l9 (lat a1 1) fun x_1=>some (.inr ((1,0),aK (ieq x.1 x_1.1) (ieq x.2 x_1.2)))) (l9 (l7 (ieq a0 21)
 (some (ieq a0 21)) (some (ieq a0 22))) fun x=>l7 x (l9 (lat a1 0) fun x=>l9 (lat a1 1) fun x_1=>
 l7 (aK (ieq x.1 x_1.1) (ieq x.2 x_1.2)) (l9 (lat a1 0) fun x=>l9 (fK x.1) fun x=>l7 x (some
 (.inr ((1,0),true))) (l9 (lat a1 0) fun x=>some (.inr ((1,0),ieq x.1 5)))) (some (.inr ((1,0),false)))) (l9
 (l7 (ieq a0 23) (some (ieq a0 23)) (some (ieq a0 24))) fun x=>l7 x (l9 (lat a1 0) fun x=>l7 (ieq x.1 1) (l9
 (lat a1 1) fun x=>some (.inr ((1,0),ieq x.1 1))) (some (.inr ((1,0),false)))) (l7 (ieq a0 26) (l9 (lat a1 1) fun(x:
 o9)=>l9 (lat a1 0) fun x_1=>l7 (ieq x_1.1 1) (l9 (lat a1 1) fun x_2=>l9 (lat a1 2) fun(x_3:
 o9)=>some (.inr (x,aK (ieq x_2.1 x_3.1) (ieq x_2.2 x_3.2)))) (some (.inr (x,false)))) (l9 (l7 (ieq a0 27) (some (ieq a0 27))
 (some (ieq a0 28))) fun x=>l7 x (l9 (lat a1 0) fun x=>l9 (lat a1 0) fun x_1=>l7 (ieq x_1.1 5)
 (l9 (lat a1 1) fun x_2=>some (.inr (x,ieq x_2.1 2))) (some (.inr (x,false)))) (l7 (ieq a0 29) (l7 (ieq a0 29) (l9
 (lat a1 0) fun x=>l7 (ieq x.1 5) (l9 (lat a1 1) fun x=>some (.inr ((2,0),ieq x.1 5))) (some (.inr ((2,
 0),false)))) (l7 (ieq a0 31) (l7 (ieq a0 31) (l9 (lat a1 0) fun x=>some (.inr ((2,0),ieq x.1 5))) (some (.inl (0,
 0)))) (l7 (ieq a0 32) (l9 (lat a1 0) fun x=>some (.inr ((2,0),ieq x.1 5))) (some (.inl (0,0)))))) (l7 (ieq a0 30)
 (l9 (lat a1 0) fun x=>l7 (ieq x.1 5) (l9 (lat a1 1) fun x=>some (.inr ((2,0),ieq x.1 5))) (some
 (.inr ((2,0),false)))) (l7 (ieq a0 31) (l7 (ieq a0 31) (l9 (lat a1 0) fun x=>some (.inr ((2,0),ieq x.1 5))) (some
 (.inl (0,0)))) (l7 (ieq a0 32) (l9 (lat a1 0) fun x=>some (.inr ((2,0),ieq x.1 5))) (some (.inl (0,
 0)))))))))))))))))) fun o=>J9 o (fun(x:o9)=>some ((0,0),false)) fun r=>some
 r
def d1P:FSpec:=mkS b1Y b5I fun x=>gX x.1 x.2
def b1z:List MG:=[(true,(.dat y2)),(false,(.dat y12)),(true,(.dat y51))]
def b5j:Ret:=⟨[(.cell 6 54,(true,(.dat y2))),(.tmp 7,uiM)],[]⟩
def d7b:Env:=⟨125,eqs,tt,gl,[(233,d1L),(234,d1M),(235,b9v),(236,d1N),(237,d1O),(238,b9w),(239,d1P)],[],[],[],[]⟩
def c4m:Ann:=.seq lfA (.seq (.joinR [(6,8),(10,114),(4000384,4000385)] ⟨[(6,(false,(.box (.dat y2))))],[]⟩ (.seq lfA (.blk (.seq lfA (.cond lfA (.seq lfA (.cond lfA (.seq lfA (.cond lfA (.seq lfA (.cond lfA (.seq lfA (.cond lfA (.seq lfA (.cond lfA (.seq lfA (.cond lfA (.seq lfA (.cond lfA (.seq lfA (.cond lfA (.seq (.join [(83,86)] ⟨[(83,ubM)],[]⟩ lfA) (.cond lfA (.seq (.join [(94,100)] ⟨[(94,ubM)],[]⟩ lfA) lfA)))))))))))))))))))))))) lfA)
def U2 (a0:o9) (a1:List o9) (a2:H8):Option (o9×Int):=l9 (l7 (ieq a0.1 1) (l9
 (dJ a0.2 1 a2) fun x=>some (.inr x)) (l7 (ieq a0.1 2) (l9 (dJ a0.2 2 a2) fun(x:
 o9×Int)=>some (.inr x)) (l7 (ieq a0.1 3) (l9 (dJ a0.2 3 a2) fun x=>some (.inr x)) (l7
 (ieq a0.1 4) (l9 (dJ a0.2 4 a2) fun x=>some (.inr x)) (l7 (ieq a0.1 5) (l9 (dJ a0.2 5
 a2) fun x=>some (.inr x)) (l7 (ieq a0.1 6) (l9 (vV a0.2 a2) fun x=>some (.inr x))
 (l7 (ieq a0.1 7) (l9 (dA a0.2 a2.2.2.1 a2) fun x=>some (.inr x)) (l7 (ieq a0.1 8) (l9
 (dA a0.2 a2.2.2.2.1 a2) fun x=>some (.inr x)) (l7 (ieq a0.1 9) (some (.inr ((5,0),0))) (l9 (l7
 (ieq a0.1 33) (some (ieq a0.1 33)) (some (ieq a0.1 34))) fun x=>l7 x (l9 (lat a1 0) fun x=>l9 (kR a0
 x a2) fun x=>some (.inr x)) (l9 (l7 (ieq a0.1 35) (some (ieq a0.1 35)) (l7 (ieq a0.1 36) (some (ieq a0.1 36))
 (l7 (ieq a0.1 37) (some (ieq a0.1 37)) (l7 (ieq a0.1 38) (some (ieq a0.1 38)) (some (ieq a0.1 39)))))) fun x=>l7 x (l9
 (jv a0 a2) fun x=>some (.inr x)) (l7 (ieq a0.1 14) (l7 (ieq a0.1 14) (l9 (gm a0.2) fun(x
 :Bool)=>l7 (D6 x) (some (.inr ((0,0),3))) (some (.inl (0,0)))) (some (.inl (0,0)))) (l7 (ieq a0.1 15) (l7 (ieq a0.1 15)
 (l9 (gm a0.2) fun x=>l7 (D6 x) (some (.inr ((0,0),3))) (some (.inl (0,0)))) (some (.inl (0,0)))) (l7
 (ieq a0.1 16) (l9 (gm a0.2) fun x=>l7 (D6 x) (some (.inr ((0,0),3))) (some (.inl (0,0)))) (some (.inl (0,
 0))))))))))))))))) fun o=>J9 o (fun(x:o9)=>l9 (gX a0.1 a1) fun x
 =>l7 (D6 x.2) (some ((0,0),8)) (some (x.1,0))) fun r=>some r
def d1w:FSpec:=mkS b1z b5j fun x=>U2 x.1 x.2.1 x.2.2
def b1f:List MG:=[(false,(.dat y12)),(true,(.dat y51))]
def b4O:Ret:=⟨[(.cell 4 54,(true,(.dat y2))),(.tmp 5,uiM),(.tmp 6,uiM)],[]⟩
def d6E:Env:=⟨75,eqs,tt,gl,[(181,b9t),(198,b9u),(199,a3j),(200,d1w)],[],[],[],[]⟩
def c3O:Ann:=.seq lfA (.seq lfA (.seq lfA (.seq lfA (.seq (.seq lfA (.blk (.loopR [(4,7),(10,16),(29,72),(4000256,4000257)] ⟨[(4,(false,(.box (.dat y2)))),(10,(false,(.own y2))),(29,uiM)],[]⟩ 0 ⟨[(4,(false,(.box (.dat y2)))),(10,(false,(.own y2)))],[]⟩ lfA))) lfA))))
def zB (a0:List o9) (a1:H8):Option (o9×o9):=l9 (nV a0) fun x
 =>l7 (D6 (ieq x.2.2 0)) (some ((0,0),x.2)) (l9 (J7 (fun(x:o9×List o9×Int)=>l7 (ilt x.2.2 (o8 a0)) (l9
 (lat a0 x.2.2) fun x_1=>l7 (D6 (ieq x_1.2 0)) (l9 (dD x_1.1) fun x_2=>l7 (D6 x_2) (some (.rt ((0,
 0),x.2.2,2))) (l9 (gV x_1.1) fun x_3=>l7 (ja (G5 .i64 (o8 x.2.1) x_3) (o8 x.2.1) (o8 x.2.1)) (l9
 (U2 x_1 (gq x.2.1 (toN (G5 .i64 (o8 x.2.1) x_3)) (toN (o8 x.2.1))) a1) fun x_4=>l7 (D6 (ieq
 x_4.2 0)) (some (.rt ((0,0),x.2.2,x_4.2))) (l7 (ja 0 (G5 .i64 (o8 x.2.1) x_3) (o8 x.2.1)) (l9 (X9 (gq x.2.1 (toN 0)
 (toN (G5 .i64 (o8 x.2.1) x_3))) [x_4.1]) fun x_5=>some (.nx (x.1,x_5,x9 .i64 x.2.2 1))) none)) none))
 (l9 (gV x_1.1) fun x_2=>l7 (ja (G5 .i64 (o8 x.2.1) x_2) (o8 x.2.1) (o8 x.2.1)) (l9 (U2 x_1
 (gq x.2.1 (toN (G5 .i64 (o8 x.2.1) x_2)) (toN (o8 x.2.1))) a1) fun x_3=>l7 (D6 (ieq x_3.2 0)) (some
 (.rt ((0,0),x.2.2,x_3.2))) (l7 (ja 0 (G5 .i64 (o8 x.2.1) x_2) (o8 x.2.1)) (l9 (X9 (gq x.2.1 (toN 0) (toN (G5
 .i64 (o8 x.2.1) x_2))) [x_3.1]) fun x_4=>some (.nx (x.1,x_4,x9 .i64 x.2.2 1))) none)) none)) (some
 (.ex (x.1,x.2.1)))) ((0,0),[],0)) fun o=>J9 o (fun(y:o9×List o9)
 =>l9 (lat y.2 0) fun x=>l9 (J4 y.2 (toN 0)) fun x=>some (x,0,0)) fun r=>some
 r)
def d1g:FSpec:=mkS b1f b4O fun x=>zB x.1 x.2
def b0H:List MG:=[(false,(.dat y12)),(true,(.dat y51)),(true,(.dat y2))]
def b4o:Ret:=⟨[(.tmp 6,uiM)],[]⟩
def d6e:Env:=⟨23,eqs,tt,gl,[(170,d1g)],[],[],[],[]⟩
def c3l:Ann:=.leaf
def mJ (a0:List o9) (a1:H8) (a2:o9):Option Int:=l9 (zB a0 a1) fun x
 =>l7 (D6 (ieq x.2.2 0)) (some x.2.2) (l7 (D6 (aK (ieq x.1.1 a2.1) (ieq x.1.2 a2.2))) (some 8) (some 0))
def d0J:FSpec:=mkS b0H b4o fun x=>mJ x.1 x.2.1 x.2.2
def b0d:List MG:=[(true,(.dat y24)),uiM,(true,(.dat y51))]
def b3K:Ret:=⟨[(.tmp 6,uiM)],[]⟩
def d5A:Env:=⟨145,eqs,tt,gl,[(62,s62),(135,YR),(134,a6d),(136,d0I),(137,d0J)],[],[],[],[]⟩
def c2F:Ann:=.seq lfA (.seq lfA (.seq lfA (.seq (.seq lfA (.blk (.loop [(8,9),(10,11),(22,34)] ⟨[(8,uiM),(22,uiM)],[]⟩ 0 ⟨[(8,uiM)],[]⟩ lfA))) (.seq (.joinR [(6,8),(34,122),(7000448,7000449)] ⟨[(7,(false,(.rp y19)))],[]⟩ (.blk (.seq lfA (.cond lfA (.seq lfA (.cond lfA (.seq (.join [(46,58)] ⟨[(46,ubM)],[]⟩ lfA) (.cond lfA (.seq (.join [(58,85)] ⟨[(58,ubM)],[]⟩ lfA) (.cond lfA (.seq (.join [(85,94)] ⟨[(85,ubM)],[]⟩ lfA) lfA))))))))))) lfA))))
def vY (a0:D8) (a1:Int) (a2:H8):Option Int:=l9 (lat a0.2.2.2.2 a1) fun x=>l9 (Ei a0.2.2.2.2 0 a1)
 fun x_1=>l9 (P5 (fun(x_2:o9)=>l7 (ilt x_2.2 (o8 x_1)) (l9 (lat x_1 x_2.2) fun x_3=>l7 (ieq
 x_3.2.1 x.2.1) (some (.inl (x9 .i64 x_2.1 1,x9 .i64 x_2.2 1))) (some (.inl (x_2.1,x9 .i64 x_2.2 1)))) (some
 (.inr x_2.1))) (0,0)) fun y=>l9 (l9 (ax x.1) fun x_2=>l7 (D6 x_2) (some (.inr 2)) (l9 (Ei
 a0.2.2.2.2 0 a1) fun x_3=>l9 (Z7 x_3 x) fun x_4=>l7 x_4 (some (.inr 7))
 (l9 (l7 (ilt x.2.1 0) (some true) (some (ile (o8 a0.2.2.2.1) x.2.1))) fun x_5=>l7 x_5 (some (.inr 6)) (l9 (l7 (D6
 (ieq x.2.2.1 (-1))) (l7 (ilt x.2.2.1 0) (some true) (l7 (ile a1 x.2.2.1) (some true) (l9 (lat a0.2.2.2.2 x.2.2.1) fun x_6=>some
 (D6 (ieq x_6.2.1 x.2.1))))) (some false)) fun x_6=>l7 x_6 (some (.inr 9)) (l9 (l7 (ilt x.2.2.2.1 0) (some true) (some (ilt 9
 x.2.2.2.1))) fun x_7=>l7 x_7 (some (.inr 3)) (l7 (ilt x.2.2.2.2.1.1 0) (some (.inr 3)) (l7 (ile x.2.2.2.2.1.2
 x.2.2.2.2.1.1) (some (.inr 3)) (l7 (ilt 109573 x.2.2.2.2.1.2) (some (.inr 3)) (l7 (ile 8 y) (some (.inr 4)) (l9 (qR
 x.2.2.2.2.2.2.2) fun x_8=>l7 (D6 x_8) (some (.inr 2)) (some (.inl x)))))))))))) fun o=>J9 o (fun(x:
 V9)=>l7 (ilt 0 (o8 x.2.2.2.2.2.1)) (l9 (mJ x.2.2.2.2.2.1 a2 (1,0)) fun x_2=>l7 (D6 (ieq x_2 0)) (some x_2)
 (l9 (lat a0.2.2.2.1 x.2.1) fun x_3=>l9 (mJ x.2.2.2.2.2.2.1 a2 x_3.2) fun x=>some x)) (l9 (lat a0.2.2.2.1
 x.2.1) fun x_2=>l9 (mJ x.2.2.2.2.2.2.1 a2 x_2.2) fun x=>some x)) fun r=>some r
def d0t:FSpec:=mkS b0d b3K fun x=>vY x.1 x.2.1 x.2.2
def c7i:List MG:=[(false,(.ownb (.int .i64)))]
def b9p:FSpec:=⟨c7i,[],[uoM],fun x=>yz x⟩
def c7j:List MG:=[uoM]
def b9q:FSpec:=⟨c7j,[uoM],[],fun x=>jD x⟩
def b0K:List MG:=[uoM]
def b4r:Ret:=⟨[(.tmp 2,uoM)],[]⟩
def d6h:Env:=⟨7,eqs,tt,gl,[(141,b9p),(142,b9q)],[],[],[],[]⟩
def c3p:Ann:=.leaf
def mF (a0:List Int):Option (List Int):=l9 (yz a0) fun x=>l9 (jD x) fun x=>some x
def d0M:FSpec:=mkS b0K b4r fun x=>mF x
def b0j:List MG:=[(false,(.dat y12))]
def b3Q:Ret:=⟨[(.tmp 2,uoM),(.tmp 3,uoM),(.tmp 4,uoM)],[]⟩
def d5G:Env:=⟨49,eqs,tt,gl,[(140,d0M)],[],[],[],[]⟩
def c2M:Ann:=.seq lfA (.seq lfA (.seq (.seq lfA (.blk (.loop [(5,8),(9,10),(12,43)] ⟨[(5,uoM),(6,uoM),(7,uoM),(12,uiM)],[]⟩ 0 ⟨[(5,uoM),(6,uoM),(7,uoM)],[]⟩ lfA))) lfA))
def gW (a0:List o9):Option X3:=l9 (P5 (fun(x:List Int×List Int×List Int×Int)=>l7 (ilt
 x.2.2.2 (o8 a0)) (l9 (lat a0 x.2.2.2) fun x_1=>l7 (ieq x_1.1 7) (l9 (X9 x.1 [x_1.2]) fun x_2=>some
 (.inl (x_2,x.2.1,x.2.2.1,x9 .i64 x.2.2.2 1))) (l7 (ieq x_1.1 8) (l9 (X9 x.2.1 [x_1.2]) fun x_2=>some (.inl
 (x.1,x_2,x.2.2.1,x9 .i64 x.2.2.2 1))) (l7 (ieq x_1.1 36) (l7 (ieq x_1.1 36) (l9 (X9 x.2.2.1 [x_1.2]) fun x_2=>
 some (.inl (x.1,x.2.1,x_2,x9 .i64 x.2.2.2 1))) (some (.inl (x.1,x.2.1,x.2.2.1,x9 .i64 x.2.2.2 1)))) (l7 (ieq x_1.1
 37) (l7 (ieq x_1.1 37) (l9 (X9 x.2.2.1 [x_1.2]) fun x_2=>some (.inl (x.1,x.2.1,x_2,x9 .i64 x.2.2.2 1))) (some
 (.inl (x.1,x.2.1,x.2.2.1,x9 .i64 x.2.2.2 1)))) (l7 (ieq x_1.1 38) (l7 (ieq x_1.1 38) (l9 (X9 x.2.2.1 [x_1.2]) fun(x_2:
 List Int)=>some (.inl (x.1,x.2.1,x_2,x9 .i64 x.2.2.2 1))) (some (.inl (x.1,x.2.1,x.2.2.1,x9 .i64 x.2.2.2 1)))) (l7
 (ieq x_1.1 39) (l9 (X9 x.2.2.1 [x_1.2]) fun x_2=>some (.inl (x.1,x.2.1,x_2,x9 .i64 x.2.2.2 1))) (some (.inl
 (x.1,x.2.1,x.2.2.1,x9 .i64 x.2.2.2 1))))))))) (some (.inr (x.1,x.2.1,x.2.2.1)))) ([],[],[],0)) fun y=>l9
 (mF y.1) fun x=>l9 (mF y.2.1) fun x_1=>l9 (mF y.2.2) fun x_2=>
 some (x,x_1,x_2)
def b9h:FSpec:=mkS b0j b3Q fun x=>gW x
def b0J:List MG:=[(true,(.dat y19)),uiM]
def b4q:Ret:=⟨[(.tmp 4,uoM)],[]⟩
def d6g:Env:=⟨67,eqs,tt,gl,[(106,b9h)],[],[],[],[]⟩
def c3o:Ann:=.seq lfA (.seq lfA (.seq lfA (.seq lfA (.seq (.seq lfA (.blk (.loop [(5,6),(13,14),(32,48)] ⟨[(5,uoM),(32,uiM)],[]⟩ 0 ⟨[(5,uoM)],[]⟩ lfA))) (.seq (.seq lfA (.blk (.loop [(5,6),(15,16),(50,66),(21000000,21000001)] ⟨[(5,uoM),(50,uiM)],[]⟩ 2 ⟨[(5,uoM)],[]⟩ lfA))) lfA)))))
def lI (a0:V9) (a1:Int):Option (List Int):=l9 (gW a0.2.2.2.2.2.1) fun x=>l9
 (gW a0.2.2.2.2.2.2.1) fun x_1=>l9 (P5 (fun(x_2:List Int×Int)=>l7 (ilt x_2.2 (o8 x.2.1)) (l9
 (lat x.2.1 x_2.2) fun x_3=>l9 (J4 x.2.1 (toN x_2.2)) fun x=>l7 (ile 0 x) (l7 (ilt x a1) (l9 (X9 x_2.1 [x]) fun(x
 :List Int)=>some (.inl (x,x9 .i64 x_2.2 1))) (some (.inl (x_2.1,x9 .i64 x_2.2 1)))) (some (.inl (x_2.1,x9
 .i64 x_2.2 1)))) (some (.inr x_2.1))) ([],0)) fun y=>l9 (P5 (fun(x:List Int×Int)=>l7 (ilt x.2 (o8
 x_1.2.1)) (l9 (lat x_1.2.1 x.2) fun x_2=>l9 (J4 x_1.2.1 (toN x.2)) fun x_3=>l7 (ile 0 x_3) (l7 (ilt x_3 a1) (l9
 (X9 x.1 [x_3]) fun x_4=>some (.inl (x_4,x9 .i64 x.2 1))) (some (.inl (x.1,x9 .i64 x.2 1)))) (some (.inl
 (x.1,x9 .i64 x.2 1)))) (some (.inr x.1))) (y,0)) fun y=>some y
def d0L:FSpec:=mkS b0J b4q fun x=>lI x.1 x.2
def b0k:List MG:=[uoM]
def b3R:Ret:=⟨[(.tmp 2,uoM)],[]⟩
def d5H:Env:=⟨7,eqs,tt,gl,[(141,b9p),(142,b9q)],[],[],[],[]⟩
def c2N:Ann:=.leaf
def tu (a0:List Int):Option (List Int):=l9 (yz a0) fun x=>l9 (jD x) fun x=>some x
def b9i:FSpec:=mkS b0k b3R fun x=>tu x
def b0i:List MG:=[(true,(.dat y24))]
def b3P:Ret:=⟨[(.tmp 2,(false,(.dat y43)))],[]⟩
def d5F:Env:=⟨58,eqs,tt,gl,[(139,d0L),(107,b9i)],[(118,oiM)],[7,36,50,53],[],[]⟩
def c2K:Ann:=.seq lfA (.seq lfA (.seq (.seq lfA (.blk (.loop [(3,4),(5,6),(15,44),(7000704,7000705)] ⟨[(3,(false,(.owns oiM))),(15,uiM)],[]⟩ 0 ⟨[(3,(false,(.owns oiM)))],[]⟩ lfA))) (.seq (.seq lfA (.blk (.loop [(3,4),(6,8),(44,45),(46,57),(15000000,15000001)] ⟨[(3,(false,(.owns oiM))),(46,uiM)],[(44,3)]⟩ 2 ⟨[(3,(false,(.owns oiM)))],[]⟩ lfA))) lfA)))
def kP (a0:D8):Option (List (List Int)):=l9 (iU (o8 a0.2.2.2.1) []) fun x=>l9 (P5 (fun(x:
 List (List Int)×Int)=>l7 (ilt x.2 (o8 a0.2.2.2.2)) (l9 (lat a0.2.2.2.2 x.2) fun x_1=>l7 (ile 0 x_1.2.1) (l7 (ilt
 x_1.2.1 (o8 x.1)) (l7 (inb x_1.2.1 (o8 x.1)) (l9 (J4 x.1 (toN x_1.2.1)) fun x_2=>l9 (lI x_1 (o8 x.1))
 fun x_3=>l9 (X9 x_2 x_3) fun x_4=>l7 (inb x_1.2.1 (o8 x.1)) (l7 (FZ (toN x_1.2.1) (toN x_1.2.1)) (l9
 (J4 x.1 (toN x_1.2.1)) fun x_5=>some (.inl (P6 x.1 (toN x_1.2.1) x_4,x9 .i64 x.2 1))) none) none) none) (some
 (.inl (x.1,x9 .i64 x.2 1)))) (some (.inl (x.1,x9 .i64 x.2 1)))) (some (.inr x.1))) (x,0)) fun y=>
 l9 (P5 (fun(x:List (List Int)×Int)=>l7 (ilt x.2 (o8 y)) (l7 (inb x.2 (o8 x.1)) (l9 (J4 x.1 (toN x.2)) fun x_1=>l9 (tu x_1) fun x_2=>l7 (inb x.2 (o8 x.1)) (l7 (FZ (toN x.2) (toN x.2)) (l9 (J4 x.1 (toN x.2))
 fun x_3=>some (.inl (P6 x.1 (toN x.2) x_2,x9 .i64 x.2 1))) none) none) none) (some (.inr x.1))) (y,0)) fun(y:
 List (List Int))=>some y
def a9h:FSpec:=mkS b0i b3P fun x=>kP x
def b0h:List MG:=[(false,(.dat y43)),uiM]
def b3O:Ret:=⟨[(.tmp 4,uoM)],[]⟩
def d5E:Env:=⟨62,eqs,tt,gl,[],[],[],[],[]⟩
def c2J:Ann:=.seq lfA (.seq lfA (.seq lfA (.seq (.blk (.loop [(5,8),(9,10),(18,48),(7000960,7000961),(10001088,10001089)] ⟨[(5,(false,(.own .bool))),(6,uoM)],[]⟩ 0 ⟨[(5,(false,(.own .bool)))],[]⟩ (.seq lfA (.blk (.seq lfA (.seq lfA (.seq lfA (.blk (.loop [(5,7),(9,10),(31,48),(14000000,14000002)] ⟨[(5,(false,(.own .bool))),(6,uoM),(31,uiM)],[]⟩ 2 ⟨[(5,(false,(.own .bool))),(6,uoM)],[]⟩ lfA))))))))) (.seq lfA (.seq (.seq lfA (.blk (.loop [(10,13),(50,61)] ⟨[(10,uoM),(50,uiM)],[]⟩ 4 ⟨[(10,uoM)],[]⟩ lfA))) lfA)))))
def oN (a0:List (List Int)) (a1:Int):Option (List Int):=l9 (iU (o8 a0) false) fun x=>l9 (P5 (fun(x:
 List Bool×List Int)=>l7 (ilt 0 (o8 x.2)) (l9 (lat x.2 0) fun x_1=>l9 (J4 x.2 (toN 0)) fun x_2=>l7 (ja 1
 (o8 x.2) (o8 x.2)) (l9 (lat a0 x_2) fun x_3=>l9 (P5 (fun(x:List Bool×List Int×Int)=>l7 (ilt x.2.2 (o8 x_3))
 (l9 (lat x_3 x.2.2) fun x_4=>l9 (lat x.1 x_4) fun x_5=>l9 (J4 x.1 (toN x_4)) fun x_6=>l7 (D6 x_6)
 (l9 (lat x.1 x_4) fun x_7=>l9 (J4 x.1 (toN x_4)) fun x_8=>l9 (X9 x.2.1 [x_4]) fun x_9=>some
 (.inl (P6 x.1 (toN x_4) true,x_9,x9 .i64 x.2.2 1))) (some (.inl (x.1,x.2.1,x9 .i64 x.2.2 1)))) (some (.inr (x.1,
 x.2.1)))) (x.1,gq x.2 (toN 1) (toN (o8 x.2)),0)) fun y=>some (.inl y)) none) (some (.inr x.1))) (x,[a1]))
 fun y=>l9 (P5 (fun(x:List Int×Int)=>l7 (ilt x.2 (o8 y)) (l9 (lat y x.2) fun x_1=>l9 (J4 y (toN
 x.2)) fun x_2=>l7 x_2 (l9 (X9 x.1 [x.2]) fun x_3=>some (.inl (x_3,x9 .i64 x.2 1))) (some (.inl
 (x.1,x9 .i64 x.2 1)))) (some (.inr x.1))) ([],0)) fun y=>some y
def b9g:FSpec:=mkS b0h b3O fun x=>oN x.1 x.2
def c8k:List MG:=[(true,(.dat y24)),uiM]
def c9U:Ret:=⟨[(.tmp 4,uoM)],[]⟩
def e67:Env:=⟨18,eqs,tt,gl,[(105,a9h),(104,b9g)],[],[],[],[]⟩
def d5b:Ann:=.leaf
def jq (a0:D8) (a1:Int):Option (List Int):=l7 (ilt a1 0) (some []) (l7 (ile (o8 a0.2.2.2.1) a1) (some []) (l9
 (kP a0) fun x=>l9 (oN x a1) fun x=>some x))
def s67:FSpec:=mkS c8k c9U fun x=>jq x.1 x.2
def b0I:List MG:=[(false,(.dat y33)),uiM]
def b4p:Ret:=⟨[(.tmp 4,uiM)],[]⟩
def d6f:Env:=⟨19,eqs,tt,gl,[],[],[],[],[]⟩
def c3n:Ann:=.seq lfA (.seq (.seq lfA (.blk (.loopR [(4,6),(8,19)] ⟨[(8,uiM)],[]⟩ 0 ⟨[],[]⟩ lfA))) lfA)
def oK (a0:List Int) (a1:Int):Option Int:=l9 (J7 (fun(x:Int)=>l7 (ilt x (o8 a0)) (l9 (lat a0 x) fun(x_1
 :Int)=>l7 (ieq a1 x_1) (some (.rt x)) (some (.nx (x9 .i64 x 1)))) (some (.ex ()))) 0) fun o=>J9 o
 (fun(y:PUnit)=>some (-1)) fun r=>some r
def d0K:FSpec:=mkS b0I b4p fun x=>oK x.1 x.2
def b0e:List MG:=[(false,(.dat y33)),uiM]
def b3L:Ret:=⟨[(.tmp 4,ubM)],[]⟩
def d5B:Env:=⟨9,eqs,tt,gl,[(138,d0K)],[],[],[],[]⟩
def c2G:Ann:=.leaf
def gQ (a0:List Int) (a1:Int):Option Bool:=l9 (oK a0 a1) fun x=>some (ile 0 x)
def d0u:FSpec:=mkS b0e b3L fun x=>gQ x.1 x.2
def c8i:List MG:=[(true,(.dat y27)),uiM]
def c9S:Ret:=⟨[(.tmp 4,uiM),(.tmp 5,uiM)],[]⟩
def e65:Env:=⟨163,eqs,tt,gl,[(63,s63),(64,s64),(97,a6v),(96,b7x),(62,s62),(98,s98),(99,s99),(100,d0t),(67,s67),(101,d0u)],[],[],[],[]⟩
def d4Z:Ann:=.seq lfA (.seq lfA (.seq lfA (.seq (.join [(6,7),(8,9),(28,45),(7000384,7000385)] ⟨[(6,(false,(.rp y24))),(8,ubM)],[]⟩ lfA) (.seq (.joinR [(4,6),(45,86)] ⟨[],[]⟩ (.blk (.seq lfA (.cond lfA (.seq lfA (.cond lfA (.seq (.join [(52,76)] ⟨[(52,ubM)],[]⟩ lfA) lfA))))))) (.seq (.seq lfA (.blk (.loopR [(4,6),(9,12),(89,107)] ⟨[(89,uiM)],[]⟩ 1 ⟨[],[]⟩ lfA))) (.seq (.seq lfA (.blk (.loopR [(4,6),(12,15),(110,130)] ⟨[(110,uiM)],[]⟩ 3 ⟨[],[]⟩ lfA))) (.seq lfA (.seq (.seq lfA (.blk (.loopR [(4,6),(16,18),(136,149)] ⟨[(136,uiM)],[]⟩ 5 ⟨[],[]⟩ lfA))) (.seq (.seq lfA (.blk (.loopR [(4,6),(18,19),(152,163)] ⟨[(152,uiM)],[]⟩ 7 ⟨[],[]⟩ lfA))) lfA)))))))))
def ug (a0:L8) (a1:Int):Option o9:=l9 (lat a0.2.2 a1) fun x=>l9 (Ei a0.2.2 0 a1) fun x_1=>l9 (l9 (su a0.1 x.1) fun x_2=>l7 x_2 (some (x,true)) (l9 (uh a0.2.1 x.1) fun x_3=>
 l7 x_3 (some (x,true)) (l9 (Y0 x_1 x) fun x_4=>some (x,x_4)))) fun x=>
 l9 (l9 (ax x.1.1) fun x_2=>l7 (D6 x_2) (some (.inr (2,0))) (l7 x.2 (some (.inr (7,0))) (l9 (l7
 (D6 (ieq x.1.2.1 (-1))) (l7 (ilt x.1.2.1 0) (some true) (l7 (ile a1 x.1.2.1) (some true) (l9 (lat x_1 x.1.2.1) fun x=>some
 (D6 (ieq x.2.1 (-1)))))) (some false)) fun x_3=>l7 x_3 (some (.inr (6,0))) (l7 (ilt 12 (o8 x.1.2.2.1)) (some (.inr (4,
 112))) (l7 (ilt 12 (o8 x.1.2.2.2.1)) (some (.inr (4,212))) (some (.inl ()))))))) fun o=>J9 o (fun(x_2
 :PUnit)=>l9 (J7 (fun(x_3:Int)=>l7 (ilt x_3 (o8 x.1.2.2.1)) (l9 (lat x.1.2.2.1 x_3) fun x_4=>l9 (Ei x.1.2.2.1
 0 x_3) fun x=>l9 (og a0 x_4 x []) fun x=>l7 (D6 (ieq x 0)) (some (.rt (x,x9 .i64 100
 x_3))) (some (.nx (x9 .i64 x_3 1)))) (some (.ex ()))) 0) fun o=>J9 o (fun(y:PUnit)=>l9
 (J7 (fun(x_3:Int)=>l7 (ilt x_3 (o8 x.1.2.2.2.1)) (l9 (lat x.1.2.2.2.1 x_3) fun x_4=>l9 (Ei x.1.2.2.2.1 0 x_3) fun
 (x_5:List bg)=>l9 (og a0 x_4 x.1.2.2.1 x_5) fun x=>l7 (D6 (ieq x 0)) (some (.rt (x,x9 .i64 200
 x_3))) (some (.nx (x9 .i64 x_3 1)))) (some (.ex ()))) 0) fun o=>J9 o (fun(y:PUnit)=>l9
 (iw a0 a1) fun x_3=>l9 (J7 (fun(x_4:Int)=>l7 (ilt x_4 (o8 x.1.2.2.2.2)) (l9 (vY x.1
 x_4 x_3) fun x=>l7 (D6 (ieq x 0)) (some (.rt (x,x9 .i64 300 x_4))) (some (.nx (x9 .i64 x_4 1)))) (some
 (.ex ()))) 0) fun o=>J9 o (fun(y:PUnit)=>l9 (J7 (fun(x_4:Int)=>l7 (ilt x_4 (o8
 x.1.2.2.2.1)) (l9 (jq x.1 x_4) fun x=>l9 (gQ x x_4) fun x=>l7 x (some (.rt
 (9,x9 .i64 200 x_4))) (some (.nx (x9 .i64 x_4 1)))) (some (.ex ()))) 0) fun o=>J9 o (fun
 (y:PUnit)=>some (0,0)) fun r=>some r) fun r=>some r) fun r=>some r) fun r=>some
 r) fun r=>some r
def s65:FSpec:=mkS c8i c9S fun x=>ug x.1 x.2
def c7O:List MG:=[(true,(.dat y27))]
def c9y:Ret:=⟨[(.cell 2 82,(true,(.dat y32)))],[]⟩
def e45:Env:=⟨31,eqs,tt,gl,[(65,s65)],[],[],[],[]⟩
def d4F:Ann:=.seq lfA (.seq lfA (.seq (.seq lfA (.blk (.loopR [(2,6),(14,30),(4000128,4000129)] ⟨[(2,(false,(.box (.dat y32)))),(14,uiM)],[]⟩ 0 ⟨[(2,(false,(.box (.dat y32))))],[]⟩ lfA))) lfA))
def qP (a0:L8):Option A7:=l7 (ilt 4 (o8 a0.2.2)) (some (4,3,4,0)) (l9 (J7 (fun(x:
 A7×Int)=>l7 (ilt x.2 (o8 a0.2.2)) (l9 (ug a0 x.2) fun x_1=>l7 (D6 (ieq x_1.1 0)) (some
 (.rt (x_1.1,3,x.2,x_1.2))) (some (.nx (x.1,x9 .i64 x.2 1)))) (some (.ex x.1))) ((0,0,0,0),0)) fun o=>J9 o (fun(y:A7)=>some (0,0,0,0)) fun r=>some r)
def s45:FSpec:=mkS c7O c9y fun x=>qP x
def c7A:List MG:=[(true,(.dat y27))]
def c9k:Ret:=⟨[(.cell 2 82,(true,(.dat y32)))],[]⟩
def e30:Env:=⟨19,eqs,tt,gl,[(43,s43),(44,s44),(45,s45)],[],[],[],[]⟩
def d4r:Ann:=.leaf
def tZ (a0:L8):Option A7:=l9 (uf a0) fun x=>l7 (D6 (ieq x.1 0)) (some
 x) (l9 (qQ a0) fun x=>l7 (D6 (ieq x.1 0)) (some x) (l9 (qP a0) fun(x:
 A7)=>some x))
def s30:FSpec:=mkS c7A c9k fun x=>tZ x
def c7r:List MG:=[(true,(.dat y27)),uiM,uiM,uiM]
def c8X:Ret:=⟨[(.tmp 8,uiM)],[]⟩
def e21:Env:=⟨68,eqs,tt,gl,[(30,s30)],[],[],[],[]⟩
def d4i:Ann:=.seq lfA (.seq lfA (.seq (.joinR [(8,9),(15,24)] ⟨[],[]⟩ lfA) (.seq lfA (.seq (.joinR [(8,9),(29,49)] ⟨[],[]⟩ lfA) lfA))))
def kV (a0:L8) (a1:Int) (a2:Int) (a3:Int):Option Int:=l9 (tZ a0) fun x=>l7 (D6
 (aK (ieq x.1 0) (aK (ieq x.2.1 0) (aK (ieq x.2.2.1 0) (ieq x.2.2.2 0))))) (some 1) (l9 (l7 (ilt a1 0) (some (.inr 6)) (l7 (ile
 (o8 a0.2.2) a1) (some (.inr 6)) (some (.inl ())))) fun o=>J9 o (fun(x:PUnit)=>l9 (lat a0.2.2 a1) fun(x:
 D8)=>l9 (l7 (ilt a2 0) (some (.inr 6)) (l7 (ile (o8 x.2.2.2.1) a2) (some (.inr 6)) (l7 (ilt a3 0) (some (.inr 6)) (l7
 (ile (o8 x.2.2.1) a3) (some (.inr 6)) (some (.inl ())))))) fun o=>J9 o (fun(x_1:PUnit)=>l9 (lat x.2.2.2.1
 a2) fun x_2=>l7 (D6 (aK (ieq x_2.2.1 3) (ieq x_2.2.2 0))) (some 8) (l9 (lat x.2.2.1 a3) fun x=>l7 (D6 (aK
 (ieq x.2.1 3) (ieq x.2.2 0))) (some 8) (some 0))) fun r=>some r) fun r=>some r)
def s21:FSpec:=mkS c7r c8X fun x=>kV x.1 x.2.1 x.2.2.1 x.2.2.2
def b0f:List MG:=[(true,(.dat y27)),(false,(.dat y28)),(false,(.dat y11))]
def b3M:Ret:=⟨[(.tmp 6,uiM),(.tmp 7,uiM)],[]⟩
def d5C:Env:=⟨71,eqs,tt,gl,[(84,s84)],[],[],[],[]⟩
def c2H:Ann:=.seq lfA (.seq lfA (.seq lfA (.seq (.seq lfA (.blk (.loopR [(6,13),(29,71)] ⟨[(29,uiM)],[]⟩ 0 ⟨[],[]⟩ lfA))) lfA)))
def fZ (a0:L8) (a1:List F7) (a2:List bg):Option o9:=l7 (ilt (o8 a1) (o8 a2)) (some (o8 a1,5))
 (l7 (ilt (o8 a2) (o8 a1)) (some (o8 a2,4)) (l9 (J7 (fun(x:Int)=>l7 (ilt x (o8 a1)) (l9 (lat a1 x) fun x_1=>
 l9 (lat a2 x) fun x_2=>l7 (D6 (ieq x_1.1 x_2.2.1)) (some (.rt (x,8))) (l7 (D6 (ieq x_1.2.1 x_2.2.2)) (some (.rt (x,
 8))) (l9 (jR x_2.2 a0.1) fun x_3=>l7 (ilt x_1.2.2 x_3.1) (some (.rt (x,3))) (l7 (ilt x_3.2 x_1.2.2) (some
 (.rt (x,3))) (some (.nx (x9 .i64 x 1))))))) (some (.ex ()))) 0) fun o=>J9 o (fun(y:PUnit)=>
 some (0,0)) fun r=>some r))
def d0v:FSpec:=mkS b0f b3M fun x=>fZ x.1 x.2.1 x.2.2
def b0g:List MG:=[(true,(.dat y27)),uiM]
def b3N:Ret:=⟨[(.tmp 4,(false,(.dat y11))),(.tmp 5,uiM)],[]⟩
def d5D:Env:=⟨28,eqs,tt,gl,[],[],[],[],[]⟩
def c2I:Ann:=.leaf
def je (a0:L8) (a1:Int):Option (List bg×Int):=l9 (lat a0.2.2 a1) fun x=>l7 (ilt x.2.1 0) (some
 ([],0)) (l7 (ile (o8 a0.2.2) x.2.1) (some ([],0)) (l9 (lat a0.2.2 x.2.1) fun x=>some (x.2.2.1,8)))
def d0w:FSpec:=mkS b0g b3N fun x=>je x.1 x.2
def c8j:List MG:=[(true,(.dat y27)),uiM,(true,(.dat y31))]
def c9T:Ret:=⟨[(.tmp 6,uiM),(.tmp 7,uiM),(.tmp 8,uiM)],[]⟩
def e66:Env:=⟨84,eqs,tt,gl,[(102,d0v),(103,d0w)],[],[],[],[]⟩
def d5a:Ann:=.seq lfA (.seq (.joinR [(6,9),(17,26)] ⟨[],[]⟩ lfA) (.seq (.joinR [(6,9),(26,34)] ⟨[],[]⟩ lfA) (.seq lfA (.seq lfA (.seq lfA (.seq (.seq lfA (.blk (.loopR [(6,9),(13,17),(66,84)] ⟨[(66,uiM)],[]⟩ 0 ⟨[],[]⟩ lfA))) lfA))))))
def mX (a0:L8) (a1:Int) (a2:U0):Option F7:=l9 (l7 (ilt a1 0) (some (.inr (-1,-1,6))) (l7 (ile (o8
 a0.2.2) a1) (some (.inr (-1,-1,6))) (some (.inl ())))) fun o=>J9 o (fun(x:PUnit)=>l9 (l7 (ilt a2.1
 0) (some (.inr (-1,-1,3))) (l7 (ilt 109572 a2.1) (some (.inr (-1,-1,3))) (some (.inl ())))) fun o=>J9
 o (fun(x:PUnit)=>l9 (lat a0.2.2 a1) fun x=>l9 (fZ a0 a2.2.1 x.2.2.1) fun x=>l7 (D6
 (ieq x.2 0)) (some (-1,x)) (l9 (je a0 a1) fun x=>l7 (ilt x.2 (o8 a2.2.2)) (some (x.2,-1,4))
 (l9 (J7 (fun(x_1:Int)=>l7 (ilt x_1 (o8 a2.2.2)) (l9 (lat a2.2.2 x_1) fun x_2=>l9 (fZ a0 x_2
 x.1) fun x=>l7 (D6 (ieq x.2 0)) (some (.rt (x_1,x))) (some (.nx (x9 .i64 x_1 1)))) (some (.ex ())))
 0) fun o=>J9 o (fun(y:PUnit)=>some (0,0,0)) fun r=>some r))) fun r=>some r) fun r
 =>some r
def s66:FSpec:=mkS c8j c9T fun x=>mX x.1 x.2.1 x.2.2
def c7P:List MG:=[(true,(.dat y27)),uiM,(true,(.dat y31)),ubM,uiM]
def c9z:Ret:=⟨[(.cell 10 85,(true,(.dat y32)))],[]⟩
def e46:Env:=⟨63,eqs,tt,gl,[(30,s30),(66,s66)],[],[],[],[]⟩
def d4G:Ann:=.seq lfA (.seq lfA (.seq (.joinR [(10,11),(21,49),(4000640,4000641)] ⟨[(10,(false,(.box (.dat y32))))],[]⟩ lfA) lfA))
def jf (a0:L8) (a1:Int) (a2:U0) (a3:Bool) (a4:Int):Option A7:=l9 (tZ a0) fun(x:
 A7)=>l7 (D6 (ieq x.1 0)) (some (1,-1,-1,-1)) (l9 (l7 (ilt a1 0) (some (.inr (6,-1,-1,-1))) (l7 (ile (o8
 a0.2.2) a1) (some (.inr (6,-1,-1,-1))) (l7 a3 (l7 (ilt a4 0) (some (.inr (6,-1,-1,-1))) (l9 (lat a0.2.2 a1) fun x=>
 l7 (ile (o8 x.2.2.2.1) a4) (some (.inr (6,-1,-1,-1))) (some (.inl (0,0,0,0))))) (some (.inl (0,0,0,0)))))) fun(o:
 A7⊕A7)=>J9 o (fun(x:A7)=>l9 (mX a0 a1 a2) fun x=>l7
 (D6 (ieq x.2.2 0)) (some (x.2.2,x.1,-1,-1)) (some (0,0,0,0))) fun r=>some r)
def s46:FSpec:=mkS c7P c9z fun x=>jf x.1 x.2.1 x.2.2.1 x.2.2.2.1 x.2.2.2.2
def c7Q:List MG:=[(true,(.dat y27)),uiM]
def c9A:Ret:=⟨[(.tmp 4,(false,(.box (.pair (.dat y24) (.pair (.dat y24) (.pair (.own .bool) (.own .bool)))))))],[]⟩
def e47:Env:=⟨52,eqs,tt,gl,[],[],[],[],[]⟩
def d4H:Ann:=.leaf
def qN (a0:L8) (a1:Int):Option U1:=l9 (lat a0.2.2 a1) fun x=>l9 (iU (o8 x.2.2.2.1) false) fun
 (x_1:List Bool)=>l7 (ile 0 x.2.1) (l9 (lat a0.2.2 x.2.1) fun x_2=>l9 (iU (o8 x_2.2.2.2.1) false) fun x_3
 =>some (x,x_2,x_1,x_3)) (some (x,([],0,[],[],[]),x_1,[]))
def s47:FSpec:=mkS c7Q c9A fun x=>qN x.1 x.2
def c8l:List MG:=[(true,(.dat y24)),uiM]
def c9V:Ret:=⟨[(.tmp 4,uoM)],[]⟩
def e68:Env:=⟨95,eqs,tt,gl,[(105,a9h),(104,b9g),(106,b9h),(107,b9i)],[],[],[],[]⟩
def d5c:Ann:=.seq lfA (.seq (.joinR [(4,5),(17,26)] ⟨[],[]⟩ lfA) (.seq lfA (.seq lfA (.seq (.seq lfA (.blk (.loop [(5,6),(7,8),(38,46),(17001856,17001857)] ⟨[(5,(false,(.own .bool))),(38,uiM)],[]⟩ 0 ⟨[(5,(false,(.own .bool)))],[]⟩ lfA))) (.seq lfA (.seq (.seq lfA (.blk (.loop [(8,9),(10,17),(49,93)] ⟨[(8,uoM),(49,uiM)],[]⟩ 2 ⟨[(8,uoM)],[]⟩ lfA))) lfA))))))
def qL (a0:D8) (a1:Int):Option (List Int):=l9 (l7 (ilt a1 0) (some (.inr [])) (l7 (ile (o8 a0.2.2.2.1) a1)
 (some (.inr [])) (some (.inl ())))) fun o=>J9 o (fun(x:PUnit)=>l9 (iU (o8 a0.2.2.2.1) false) fun
 (x:List Bool)=>l9 (lat x a1) fun x_1=>l9 (J4 x (toN a1)) fun x_2=>l9 (kP a0) fun x_3=>l9 (oN x_3 a1) fun x_4=>l9 (P5 (fun(x:List Bool×Int)=>l7 (ilt x.2 (o8 x_4)) (l9 (lat x_4
 x.2) fun x_5=>l9 (J4 x_4 (toN x.2)) fun x_6=>l9 (lat x.1 x_6) fun x_7=>l9 (J4 x.1 (toN x_6)) fun(x_8:
 Bool)=>some (.inl (P6 x.1 (toN x_6) true,x9 .i64 x.2 1))) (some (.inr x.1))) (P6 x (toN a1) true,0)) fun y=>
 l9 (P5 (fun(x:List Int×Int)=>l7 (ilt x.2 (o8 a0.2.2.2.2)) (l9 (lat a0.2.2.2.2 x.2) fun x_5=>l7 (ilt x_5.2.1 0)
 (some (.inl (x.1,x9 .i64 x.2 1))) (l7 (ile (o8 a0.2.2.2.1) x_5.2.1) (some (.inl (x.1,x9 .i64 x.2 1))) (l9 (lat y
 x_5.2.1) fun x_6=>l9 (J4 y (toN x_5.2.1)) fun x_7=>l7 (D6 x_7) (some (.inl (x.1,x9 .i64 x.2 1))) (l9
 (gW x_5.2.2.2.2.2.1) fun x_8=>l9 (gW x_5.2.2.2.2.2.2.1) fun x_9=>l9 (X9
 x.1 x_8.2.2) fun x_10=>l9 (X9 x_10 x_9.2.2) fun x_11=>some (.inl (x_11,x9 .i64 x.2 1)))))) (some
 (.inr x.1))) ([],0)) fun y=>l9 (tu y) fun x=>some x) fun r=>some r
def s68:FSpec:=mkS c8l c9V fun x=>qL x.1 x.2
def c8m:List MG:=[(false,(.box (.pair (.dat y24) (.pair (.dat y24) (.pair (.own .bool) (.own .bool)))))),uiM]
def c9W:Ret:=⟨[],[(0,(true,(.pair (.dat y24) (.pair (.dat y24) (.pair (.own .bool) (.own .bool))))))]⟩
def e69:Env:=⟨30,eqs,tt,gl,[(67,s67)],[],[],[],[0]⟩
def d5d:Ann:=.seq lfA (.seq lfA (.blk (.loop [(0,1),(5,6),(19,30),(1000000,1000003)] ⟨[(0,(false,(.box (.pair (.dat y24) (.pair (.dat y24) (.pair (.own .bool) (.own .bool))))))),(19,uiM)],[]⟩ 0 ⟨[(0,(false,(.box (.pair (.dat y24) (.pair (.dat y24) (.pair (.own .bool) (.own .bool)))))))],[]⟩ lfA)))
def eP (a0:U1) (a1:Int):Option U1:=l9 (lat a0.2.2.2 a1) fun x=>l9 (J4 a0.2.2.2
 (toN a1)) fun x=>l9 (jq a0.2.1 a1) fun x=>l9 (P5 (fun(x_1:U1×Int)=>l7 (ilt x_1.2
 (o8 x)) (l9 (lat x x_1.2) fun x_2=>l9 (J4 x (toN x_1.2)) fun x=>l9 (lat x_1.1.2.2.2 x) fun x_3=>l9
 (J4 x_1.1.2.2.2 (toN x)) fun x_4=>some (.inl ((x_1.1.1,x_1.1.2.1,x_1.1.2.2.1,P6 x_1.1.2.2.2 (toN x) true),x9 .i64
 x_1.2 1))) (some (.inr x_1.1))) ((a0.1,a0.2.1,a0.2.2.1,P6 a0.2.2.2 (toN a1) true),0)) fun y=>some y
def s69:FSpec:=mkS c8m c9W fun x=>eP x.1 x.2
def c7R:List MG:=[(false,(.box (.pair (.dat y24) (.pair (.dat y24) (.pair (.own .bool) (.own .bool)))))),uiM]
def c9B:Ret:=⟨[],[(0,(true,(.pair (.dat y24) (.pair (.dat y24) (.pair (.own .bool) (.own .bool))))))]⟩
def e48:Env:=⟨47,eqs,tt,gl,[(67,s67),(68,s68),(69,s69)],[],[],[],[0]⟩
def d4I:Ann:=.seq lfA (.seq (.seq lfA (.blk (.loop [(0,1),(5,6),(21,32),(1000000,1000003)] ⟨[(0,(false,(.box (.pair (.dat y24) (.pair (.dat y24) (.pair (.own .bool) (.own .bool))))))),(21,uiM)],[]⟩ 0 ⟨[(0,(false,(.box (.pair (.dat y24) (.pair (.dat y24) (.pair (.own .bool) (.own .bool)))))))],[]⟩ lfA))) (.seq lfA (.blk (.loop [(0,1),(7,8),(39,47),(12000000,12000003)] ⟨[(0,(false,(.box (.pair (.dat y24) (.pair (.dat y24) (.pair (.own .bool) (.own .bool))))))),(39,uiM)],[]⟩ 2 ⟨[(0,(false,(.box (.pair (.dat y24) (.pair (.dat y24) (.pair (.own .bool) (.own .bool)))))))],[]⟩ lfA))))
def kK (a0:U1) (a1:Int):Option U1:=l9 (lat a0.2.2.1 a1) fun x=>l9 (J4 a0.2.2.1 (toN
 a1)) fun x=>l9 (jq a0.1 a1) fun x=>l9 (P5 (fun(x_1:U1×Int)=>l7 (ilt x_1.2 (o8
 x)) (l9 (lat x x_1.2) fun x_2=>l9 (J4 x (toN x_1.2)) fun x=>l9 (lat x_1.1.2.2.1 x) fun x_3=>l9 (J4
 x_1.1.2.2.1 (toN x)) fun x_4=>some (.inl ((x_1.1.1,x_1.1.2.1,P6 x_1.1.2.2.1 (toN x) true,x_1.1.2.2.2),x9 .i64 x_1.2 1)))
 (some (.inr x_1.1))) ((a0.1,a0.2.1,P6 a0.2.2.1 (toN a1) true,a0.2.2.2),0)) fun y=>l9 (qL y.1 a1) fun(x
 :List Int)=>l9 (P5 (fun(x_1:U1×Int)=>l7 (ilt x_1.2 (o8 x)) (l9 (lat x x_1.2) fun x_2=>l9 (J4 x (toN
 x_1.2)) fun x=>l9 (eP x_1.1 x) fun x=>some (.inl (x,x9 .i64 x_1.2 1))) (some
 (.inr x_1.1))) (y,0)) fun y=>some y
def s48:FSpec:=mkS c7R c9B fun x=>kK x.1 x.2
def a0Z:List MG:=[(false,(.box oiM)),(false,(.ifc 3 diM))]
def a1x:Ret:=⟨[],[(0,(true,oiM))]⟩
def b8P:Env:=⟨20,eqs,tt,gl,[],[],[],[],[0]⟩
def a8u:Ann:=.leaf
def tq (a0:List Int) (a1:Int):Option (List Int):=l9 (X9 a0 [a1]) fun x=>some x
def a6r:FSpec:=mkS a0Z a1x fun x=>tq x.1 x.2
def b0L:List MG:=[(false,(.dat y33))]
def b4s:Ret:=⟨[(.tmp 2,uiM)],[]⟩
def d6i:Env:=⟨5,eqs,tt,gl,[],[],[],[],[]⟩
def c3q:Ann:=.leaf
def dH (a0:List Int):Option Int:=some (o8 a0)
def a9l:FSpec:=mkS b0L b4s fun x=>dH x
def b3G:List MG:=[(false,(.dat y33)),uiM,uiM]
def b7q:Ret:=⟨[(.tmp 6,ubM)],[]⟩
def d9l:Env:=⟨16,eqs,tt,gl,[],[],[],[],[]⟩
def c6C:Ann:=.leaf
def V4 (a0:List Int) (a1:Int) (a2:Int):Option Bool:=l9 (lat a0 a1) fun x=>l9 (lat a0 a2) fun x_1=>
 some (ilt x x_1)
def b9O:FSpec:=mkS b3G b7q fun x=>V4 x.1 x.2.1 x.2.2
def b3I:List MG:=[(false,(.ownb (.int .i64))),uiM,uiM]
def b7s:Ret:=⟨[],[(0,uoM)]⟩
def d9n:Env:=⟨20,eqs,tt,gl,[],[],[],[],[0]⟩
def c6E:Ann:=.leaf
def W9 (a0:List Int) (a1:Int) (a2:Int):Option (List Int):=l9 (lat a0 a2) fun x=>l9 (J4 a0 (toN a2)) fun(x
 :Int)=>l9 (lat a0 a1) fun x_1=>l9 (J4 a0 (toN a1)) fun x_2=>l9 (lat a0 a1) fun x_3=>l9 (J4 a0 (toN
 a1)) fun x_4=>l9 (lat (P6 a0 (toN a1) x) a2) fun x_5=>l9 (J4 (P6 a0 (toN a1) x) (toN a2)) fun x_6=>some
 (P6 (P6 a0 (toN a1) x) (toN a2) x_2)
def a9A:FSpec:=mkS b3I b7s fun x=>W9 x.1 x.2.1 x.2.2
def a0S:List MG:=[(false,(.ifc 205 (.box oiM))),uiM]
def a1s:Ret:=⟨[],[(0,(true,oiM))]⟩
def b8K:Env:=⟨23,eqs,tt,gl,[(355,b9O),(358,a9A)],[],[],[((205,"Less"),355,some 206),((205,"Swap"),358,some 206)],[0]⟩
def a8p:Ann:=.blk (.loop [(0,2),(4,23),(1000000,1000002)] ⟨[(0,(false,(.ifc 205 (.box oiM)))),(1,uiM)],[]⟩ 0 ⟨[(0,(false,(.ifc 205 (.box oiM))))],[]⟩ lfA)
def mY (a0:List Int) (a1:Int):Option (List Int):=l9 (P5 (fun(x:List Int×Int)=>l7 (ieq (V5 .i64 (G5
 .i64 x.2 1) 2) x.2) (some (.inr x.1)) (l9 (V4 x.1 x.2 (V5 .i64 (G5 .i64 x.2 1) 2)) fun x_1=>
 l7 (D6 x_1) (some (.inr x.1)) (l9 (W9 x.1 (V5 .i64 (G5 .i64 x.2 1) 2) x.2) fun x_2=>some
 (.inl (x_2,V5 .i64 (G5 .i64 x.2 1) 2))))) (a0,a1)) fun y=>some y
def a6j:FSpec:=mkS a0S a1s fun x=>mY x.1 x.2
def a0O:List MG:=[(false,(.ifc 205 (.box oiM))),(false,(.ifc 3 diM))]
def a1o:Ret:=⟨[],[(0,(true,oiM))]⟩
def b8G:Env:=⟨12,eqs,tt,gl,[(357,a6r),(144,a9l),(173,a6j)],[],[],[((205,"Len"),144,some 206),((205,"Push"),357,none)],[0]⟩
def a8l:Ann:=.leaf
def ae (a0:List Int) (a1:Int):Option (List Int):=l9 (tq a0 a1) fun x=>l9
 (dH x) fun x_1=>l9 (mY x (G5 .i64 x_1 1)) fun x=>some x
def a6e:FSpec:=mkS a0O a1o fun x=>ae x.1 x.2
def a0T:List MG:=[(false,(.ifc 205 (.box oiM))),uiM,uiM]
def a1t:Ret:=⟨[(.tmp 6,ubM)],[(0,(true,oiM))]⟩
def b8L:Env:=⟨48,eqs,tt,gl,[(355,b9O),(358,a9A)],[],[],[((205,"Less"),355,some 206),((205,"Swap"),358,some 206)],[0]⟩
def a8q:Ann:=.seq lfA (.seq lfA (.seq (.blk (.loop [(0,1),(7,11),(12,45),(1000000,1000002)] ⟨[(0,(false,(.ifc 205 (.box oiM)))),(7,uiM)],[]⟩ 0 ⟨[(0,(false,(.ifc 205 (.box oiM)))),(7,uiM)],[]⟩ lfA)) lfA))
def kF (a0:List Int) (a1:Int) (a2:Int):Option (Bool×List Int):=l9 (P5 (fun(x:List Int×Int)=>l7 (ile a2
 (x9 .i64 (L9 .i64 2 x.2) 1)) (some (.inr x)) (l7 (ilt (x9 .i64 (L9 .i64 2 x.2) 1) 0) (some (.inr x))
 (l7 (ilt (x9 .i64 (x9 .i64 (L9 .i64 2 x.2) 1) 1) a2) (l9 (V4 x.1 (x9 .i64 (x9 .i64
 (L9 .i64 2 x.2) 1) 1) (x9 .i64 (L9 .i64 2 x.2) 1)) fun x_1=>l7 x_1 (l9 (V4 x.1 (x9
 .i64 (x9 .i64 (L9 .i64 2 x.2) 1) 1) x.2) fun x_2=>l7 (D6 x_2) (some (.inr x)) (l9 (W9
 x.1 x.2 (x9 .i64 (x9 .i64 (L9 .i64 2 x.2) 1) 1)) fun x_3=>some (.inl (x_3,x9 .i64 (x9
 .i64 (L9 .i64 2 x.2) 1) 1)))) (l9 (V4 x.1 (x9 .i64 (L9 .i64 2 x.2) 1) x.2) fun x_2=>
 l7 (D6 x_2) (some (.inr x)) (l9 (W9 x.1 x.2 (x9 .i64 (L9 .i64 2 x.2) 1)) fun x_3=>some
 (.inl (x_3,x9 .i64 (L9 .i64 2 x.2) 1))))) (l9 (V4 x.1 (x9 .i64 (L9 .i64 2 x.2) 1) x.2) fun
 (x_1:Bool)=>l7 (D6 x_1) (some (.inr x)) (l9 (W9 x.1 x.2 (x9 .i64 (L9 .i64 2 x.2) 1)) fun x_2=>some (.inl (x_2,x9 .i64 (L9 .i64 2 x.2) 1))))))) (a0,a1)) fun y=>some (ilt a1 y.2,y.1)
def a6k:FSpec:=mkS a0T a1t fun x=>kF x.1 x.2.1 x.2.2
def b3H:List MG:=[(false,(.box oiM))]
def b7r:Ret:=⟨[(.tmp 2,(false,(.ifc 3 diM)))],[(0,(true,oiM))]⟩
def d9m:Env:=⟨23,eqs,tt,gl,[],[],[],[],[0]⟩
def c6D:Ann:=.leaf
def uV (a0:List Int):Option (Int×List Int):=l9 (lat a0 (G5 .i64 (o8 a0) 1)) fun x=>l9 (J4 a0 (toN
 (G5 .i64 (o8 a0) 1))) fun x=>l7 (ja 0 (G5 .i64 (o8 a0) 1) (o8 a0)) (some (x,gq a0 (toN 0) (toN (G5
 .i64 (o8 a0) 1)))) none
def d2P:FSpec:=mkS b3H b7r fun x=>uV x
def a0P:List MG:=[(false,(.ifc 205 (.box oiM)))]
def a1p:Ret:=⟨[(.tmp 2,(false,(.ifc 3 diM)))],[(0,(true,oiM))]⟩
def b8H:Env:=⟨15,eqs,tt,gl,[(144,a9l),(358,a9A),(174,a6k),(356,d2P)],[],[],[((205,"Len"),144,some 206),((205,"Pop"),356,none),((205,"Swap"),358,some 206)],[0]⟩
def a8m:Ann:=.leaf
def iQ (a0:List Int):Option (Int×List Int):=l9 (dH a0) fun x=>l9 (W9 a0 0 (G5
 .i64 x 1)) fun x_1=>l9 (kF x_1 0 (G5 .i64 x 1)) fun x=>l9
 (uV x.2) fun x=>some x
def a6f:FSpec:=mkS a0P a1p fun x=>iQ x
def b0l:List MG:=[(true,(.dat y24))]
def b3S:Ret:=⟨[(.tmp 2,uoM),(.tmp 3,uiM)],[]⟩
def d5I:Env:=⟨113,eqs,tt,gl,[(105,a9h),(143,a6e),(144,a9l),(145,a6f)],[(118,oiM)],[12,50,77,80],[],[]⟩
def c2O:Ann:=.seq lfA (.seq lfA (.seq lfA (.seq lfA (.seq lfA (.seq (.seq lfA (.blk (.loop [(5,10),(11,12),(29,65),(10001344,10001345),(13001536,13001537),(16001600,16001601),(16001664,16001665)] ⟨[(5,(false,(.owns oiM))),(6,uoM),(7,(false,(.box oiM))),(29,uiM)],[]⟩ 0 ⟨[(5,(false,(.owns oiM))),(6,uoM),(7,(false,(.box oiM)))],[]⟩ (.seq lfA (.seq lfA (.seq (.blk (.seq lfA (.seq lfA (.seq (.seq lfA (.blk (.loop [(5,6),(11,12),(41,56),(23000000,23000001)] ⟨[(5,(false,(.owns oiM))),(41,uiM)],[]⟩ 2 ⟨[(5,(false,(.owns oiM)))],[]⟩ lfA))) lfA)))) lfA)))))) (.seq lfA (.seq (.blk (.loop [(5,8),(12,15),(16,17),(65,107),(24000000,24000004)] ⟨[(5,(false,(.dat y43))),(6,uoM),(7,(false,(.box oiM))),(12,uoM)],[]⟩ 4 ⟨[(12,uoM)],[]⟩ (.seq lfA (.blk (.seq lfA (.seq lfA (.seq lfA (.blk (.loop [(6,8),(16,17),(86,107),(79000000,79000002),(91004672,91004673)] ⟨[(6,uoM),(7,(false,(.box oiM))),(86,uiM)],[]⟩ 6 ⟨[(6,uoM),(7,(false,(.box oiM)))],[]⟩ lfA))))))))) lfA)))))))
def jF (a0:D8):Option (List Int×Int):=l9 (kP a0) fun x=>l9 (iU (o8 x) [])
 fun x_1=>l9 (iU (o8 x) 0) fun x_2=>l9 (P5 (fun(x_3:List (List Int)×List Int×List Int×Int)
 =>l7 (ilt x_3.2.2.2 (o8 x)) (l9 (lat x x_3.2.2.2) fun x=>l9 (lat x_3.2.1 x_3.2.2.2) fun x_4=>l9 (J4 x_3.2.1
 (toN x_3.2.2.2)) fun x_5=>l9 (P5 (fun(x_6:List (List Int)×Int)=>l7 (ilt x_6.2 (o8 x)) (l9 (lat x x_6.2) fun x
 =>l7 (inb x (o8 x_6.1)) (l9 (J4 x_6.1 (toN x)) fun x_7=>l9 (X9 x_7 [x_3.2.2.2]) fun x_8=>l7 (inb x
 (o8 x_6.1)) (l7 (FZ (toN x) (toN x)) (l9 (J4 x_6.1 (toN x)) fun x_9=>some (.inl (P6 x_6.1 (toN x) x_8,x9
 .i64 x_6.2 1))) none) none) none) (some (.inr x_6.1))) (x_3.1,0)) fun y=>l7 (ieq (o8 x) 0) (l9
 (ae x_3.2.2.1 x_3.2.2.2) fun x_6=>some (.inl (y,P6 x_3.2.1 (toN x_3.2.2.2) (o8 x),x_6,x9 .i64
 x_3.2.2.2 1))) (some (.inl (y,P6 x_3.2.1 (toN x_3.2.2.2) (o8 x),x_3.2.2.1,x9 .i64 x_3.2.2.2 1)))) (some (.inr (x_3.1,x_3.2.1,
 x_3.2.2.1)))) (x_1,x_2,[],0)) fun y=>l9 (P5 (fun(x:List (List Int)×X3)=>l9
 (dH x.2.2.1) fun x_3=>l7 (ilt 0 x_3) (l9 (iQ x.2.2.1) fun x_4=>l9 (X9 x.2.2.2
 [x_4.1]) fun x_5=>l9 (lat x.1 x_4.1) fun x_6=>l9 (P5 (fun(x:List Int×List Int×Int)=>l7 (ilt x.2.2
 (o8 x_6)) (l9 (lat x_6 x.2.2) fun x_7=>l9 (lat x.1 x_7) fun x_8=>l9 (J4 x.1 (toN x_7)) fun x_9=>l9 (lat
 x.1 x_7) fun x_10=>l9 (J4 x.1 (toN x_7)) fun x_11=>l9 (lat (P6 x.1 (toN x_7) (G5 .i64 x_9 1)) x_7) fun(x_12:
 Int)=>l9 (J4 (P6 x.1 (toN x_7) (G5 .i64 x_9 1)) (toN x_7)) fun x_13=>l7 (ieq x_13 0) (l9 (ae x.2.1
 x_7) fun x_14=>some (.inl (P6 x.1 (toN x_7) (G5 .i64 x_9 1),x_14,x9 .i64 x.2.2 1))) (some (.inl (P6 x.1
 (toN x_7) (G5 .i64 x_9 1),x.2.1,x9 .i64 x.2.2 1)))) (some (.inr (x.1,x.2.1)))) (x.2.1,x_4.2,0)) fun y=>some (.inl (x.1,y.1,y.2,x_5))) (some (.inr x.2.2.2))) (y.1,y.2.1,y.2.2,[])) fun y=>l7 (ilt (o8 y) (o8 x))
 (some ([],9)) (some (y,0))
def d0x:FSpec:=mkS b0l b3S fun x=>jF x
def b1g:List MG:=[(true,(.dat y2)),uiM]
def b4P:Ret:=⟨[(.tmp 4,ubM)],[]⟩
def d6F:Env:=⟨19,eqs,tt,gl,[(85,s85)],[],[],[],[]⟩
def c3P:Ann:=.leaf
def fA (a0:o9) (a1:Int):Option Bool:=l9 (jo a0) fun x=>l7 x (l7 (ile a0.1 a1) (some
 (ilt a1 a0.2)) (some false)) (some false)
def a9m:FSpec:=mkS b1g b4P fun x=>fA x.1 x.2
def a0V:List MG:=[(true,(.dat y19)),(false,(.rp (.int .i64))),(false,(.rp (.int .i64)))]
def a1v:Ret:=⟨[(.tmp 4,ubM)],[]⟩
def b8N:Env:=⟨15,eqs,tt,gl,[(177,a9m)],[],[],[],[]⟩
def a8s:Ann:=.leaf
def lJ (a0:V9) (a1:Int) (a2:Int):Option Bool:=l7 (ieq a0.2.1 a1) (l9 (fA a0.2.2.2.2.1 a2) fun(x:
 Bool)=>some x) (some false)
def YS:FSpec:=mkS a0V a1v fun x=>lJ x.1 x.2.1 x.2.2
def a0U:List MG:=[(false,(.dat y20)),(false,(.fn 176 [(.int .i64),(.int .i64)]))]
def a1u:Ret:=⟨[(.tmp 4,uoM),(.tmp 5,uoM)],[]⟩
def b8M:Env:=⟨59,eqs,tt,gl,[(176,YS)],[],[],[],[]⟩
def a8r:Ann:=.seq lfA (.seq lfA (.seq lfA (.seq (.seq lfA (.blk (.loop [(6,12),(17,57),(10000896,10000897)] ⟨[(6,uoM),(7,uoM),(8,uoM),(17,uiM)],[]⟩ 0 ⟨[(6,uoM),(7,uoM)],[]⟩ (.seq lfA (.seq lfA (.seq (.blk (.seq lfA (.seq lfA (.seq (.join [(11,12),(22,36)] ⟨[(11,uiM)],[]⟩ lfA) lfA)))) lfA)))))) lfA)))
def kJ (a0:List V9) (a1:o9):Option (List Int×List Int):=l9 (iU (o8 a0) 0) fun x=>l9
 (P5 (fun(x:List Int×List Int×List Int×Int)=>l7 (ilt x.2.2.2 (o8 a0)) (l9 (lat a0 x.2.2.2) fun x_1=>l9 (l7
 (ile 0 x_1.2.2.1) (l7 (ilt x_1.2.2.1 x.2.2.2) (l9 (lat x.2.2.1 x_1.2.2.1) fun x_2=>l9 (J4 x.2.2.1 (toN x_1.2.2.1)) fun x
 =>some x) (some (-1))) (some (-1))) fun x_2=>l9 (lat x.2.2.1 x.2.2.2) fun x_3=>l9 (J4 x.2.2.1 (toN x.2.2.2)) fun(x_4:
 Int)=>l9 (lJ x_1 a1.1 a1.2) fun x_5=>l7 x_5 (l9 (lat (P6 x.2.2.1 (toN x.2.2.2) x_2) x.2.2.2) fun x_6
 =>l9 (J4 (P6 x.2.2.1 (toN x.2.2.2) x_2) (toN x.2.2.2)) fun x_7=>l9 (X9 x.1 [x.2.2.2]) fun x_8=>l9 (X9
 x.2.1 [x_2]) fun x_9=>some (.inl (x_8,x_9,P6 (P6 x.2.2.1 (toN x.2.2.2) x_2) (toN x.2.2.2) (o8 x.1),x9 .i64
 x.2.2.2 1))) (some (.inl (x.1,x.2.1,P6 x.2.2.1 (toN x.2.2.2) x_2,x9 .i64 x.2.2.2 1)))) (some (.inr (x.1,x.2.1)))) ([],[],x,
 0)) fun y=>some y
def a6l:FSpec:=mkS a0U a1u fun x=>kJ x.1 x.2
def b0M:List MG:=[(true,(.dat y24)),uiM,uiM]
def b4t:Ret:=⟨[(.tmp 6,uoM),(.tmp 7,uoM),(.tmp 8,uoM)],[]⟩
def d6j:Env:=⟨40,eqs,tt,gl,[(176,YS),(175,a6l)],[],[],[],[]⟩
def c3r:Ann:=.seq lfA (.seq lfA (.seq lfA (.seq (.seq lfA (.blk (.loop [(11,12),(13,14),(23,37)] ⟨[(11,uoM),(23,uiM)],[]⟩ 0 ⟨[(11,uoM)],[]⟩ lfA))) lfA)))
def oP (a0:D8) (a1:Int) (a2:Int):Option X3:=l9 (kJ a0.2.2.2.2 (a1,a2)) fun x=>l9 (P5 (fun(x_1:List Int×Int)=>l7 (ilt x_1.2 (o8 x.1)) (l9 (lat x.1 x_1.2) fun x_2=>l9 (J4 x.1
 (toN x_1.2)) fun x=>l9 (lat a0.2.2.2.2 x) fun x=>l9 (X9 x_1.1 [x.2.2.2.1]) fun x=>some (.inl (x,x9
 .i64 x_1.2 1))) (some (.inr x_1.1))) ([],0)) fun y=>some (x.1,x.2,y)
def d0N:FSpec:=mkS b0M b4t fun x=>oP x.1 x.2.1 x.2.2
def b0O:List MG:=[(false,(.dat y12))]
def b4v:Ret:=⟨[(.tmp 2,uoM),(.tmp 3,uiM)],[]⟩
def d6l:Env:=⟨15,eqs,tt,gl,[(181,b9t)],[],[],[],[]⟩
def c3t:Ann:=.leaf
def Eb (a0:List o9):Option (List Int×Int):=l9 (nV a0) fun x=>some (x.1,x.2.2)
def d0P:FSpec:=mkS b0O b4v fun x=>Eb x
def b1l:List MG:=[(true,(.dat y53)),uiM]
def b4U:Ret:=⟨[(.tmp 4,uoM)],[]⟩
def d6K:Env:=⟨36,eqs,tt,gl,[(199,a3j)],[],[],[],[]⟩
def c3V:Ann:=.seq lfA (.seq lfA (.seq lfA (.seq (.seq lfA (.blk (.loop [(5,8),(21,35),(7000960,7000961)] ⟨[(5,uoM),(6,uiM),(7,uiM)],[]⟩ 0 ⟨[(5,uoM)],[]⟩ lfA))) lfA)))
def dI (a0:O7) (a1:Int):Option (List Int):=l9 (lat a0.1 a1) fun x=>l9 (gV x.1)
 fun x=>l9 (iU x 0) fun x=>l9 (P5 (fun(x:List Int×o9)=>l7 (ile 0 x.2.2) (l9 (lat x.1 x.2.2)
 fun x_1=>l9 (J4 x.1 (toN x.2.2)) fun x_2=>l9 (lat a0.2.1 x.2.1) fun x_3=>some (.inl (P6 x.1 (toN x.2.2)
 x.2.1,G5 .i64 x_3 1,G5 .i64 x.2.2 1))) (some (.inr x.1))) (x,G5 .i64 a1 1,G5 .i64 (o8 x) 1)) fun(y:
 List Int)=>some y
def d1j:FSpec:=mkS b1l b4U fun x=>dI x.1 x.2
def b1G:List MG:=[(true,(.dat y3))]
def b5q:Ret:=⟨[(.tmp 2,ubM)],[]⟩
def d7j:Env:=⟨83,eqs,tt,gl,[],[],[],[],[]⟩
def c4u:Ann:=.seq lfA (.seq (.joinR [(2,11)] ⟨[],[]⟩ lfA) lfA)
def af (a0:F7):Option Bool:=l9 (l7 (D6 (ieq a0.1 6)) (l7 (D6 (ieq a0.2.1 0)) (some (.inr false)) (some (.inl
 ()))) (some (.inl ()))) fun o=>J9 o (fun(x:PUnit)=>l7 (ieq a0.1 1) (l7 (ieq a0.2.2 0) (some true)
 (some (ieq a0.2.2 1))) (l7 (ieq a0.1 2) (l7 (ile (-1000000000000) a0.2.2) (some (ile a0.2.2 1000000000000)) (some false)) (l7 (ieq a0.1 3)
 (l7 (ile (-1000000000000000) a0.2.2) (some (ile a0.2.2 1000000000000000)) (some false)) (l7 (ieq a0.1 4) (l7 (ile (-1000000000) a0.2.2)
 (some (ile a0.2.2 1000000000)) (some false)) (l7 (ieq a0.1 5) (l7 (ile 0 a0.2.2) (some (ile a0.2.2 109572)) (some false)) (l7 (ieq a0.1 6)
 (l7 (ile 0 a0.2.1) (l7 (ilt a0.2.1 8) (l7 (ile 0 a0.2.2) (some (ilt a0.2.2 16)) (some false)) (some false)) (some false)) (some false)))))))
 fun r=>some r
def YT:FSpec:=mkS b1G b5q fun x=>af x
def b1B:List MG:=[(true,(.dat y2))]
def b5l:Ret:=⟨[(.tmp 2,ubM)],[]⟩
def d7e:Env:=⟨48,eqs,tt,gl,[(199,a3j),(198,b9u)],[],[],[],[]⟩
def c4p:Ann:=.seq lfA (.seq (.joinR [(2,18)] ⟨[],[]⟩ lfA) (.seq (.seq lfA (.blk (.seq (.join [(20,24)] ⟨[(20,ubM)],[]⟩ lfA) lfA))) lfA))
def jr (a0:o9):Option Bool:=l9 (l9 (gV a0.1) fun x=>l7 (ilt x 0) (some (.inr false)) (l7
 (D6 (ieq a0.2 0)) (l9 (dD a0.1) fun x=>l7 (D6 x) (some (.inr false)) (some (.inl ()))) (some (.inl
 ())))) fun o=>J9 o (fun(x:PUnit)=>l9 (l7 (ieq a0.1 14) (some (ieq a0.1 14)) (l7 (ieq a0.1 15) (some (ieq
 a0.1 15)) (some (ieq a0.1 16)))) fun x=>l7 x (l7 (ile 0 a0.2) (some (ile a0.2 5)) (some false)) (l7 (ieq a0.1 34) (l7 (ile 0
 a0.2) (some (ile (V6 a0.2 8) 5)) (some false)) (l7 (ieq a0.1 6) (some (ile 0 a0.2)) (some true)))) fun r=>some r
def d1y:FSpec:=mkS b1B b5l fun x=>jr x
def b1C:List MG:=[(true,(.dat y2)),(true,(.dat y42))]
def b5m:Ret:=⟨[(.tmp 4,ubM)],[]⟩
def d7f:Env:=⟨81,eqs,tt,gl,[],[],[],[],[]⟩
def c4q:Ann:=.seq lfA (.seq (.seq lfA (.blk (.seq lfA (.cond lfA (.seq lfA (.cond lfA (.seq lfA (.cond lfA (.seq lfA (.cond lfA (.seq (.join [(65,70)] ⟨[(65,ubM)],[]⟩ lfA) lfA))))))))))) lfA)
def aT (a0:o9) (a1:P9):Option Bool:=l7 (ieq a0.1 7) (l7 (ile 0 a0.2) (some (ilt a0.2 (o8 a1.2.1))) (some false))
 (l7 (ieq a0.1 8) (l7 (ile 0 a0.2) (l7 (ilt a0.2 (o8 a1.2.2.1)) (l9 (lat a1.2.2.1 a0.2) fun x=>some (D6 (ieq x.1 0)))
 (some false)) (some false)) (l7 (ieq a0.1 33) (l7 (ile 0 a0.2) (some (ilt a0.2 (o8 a1.2.2.2.2.2))) (some false)) (l7 (ieq a0.1 34) (some
 (ilt (V5 .i64 a0.2 8) (o8 a1.2.2.2.2.2))) (l9 (l7 (ieq a0.1 36) (some (ieq a0.1 36)) (l7 (ieq a0.1 37) (some (ieq a0.1 37))
 (l7 (ieq a0.1 38) (some (ieq a0.1 38)) (some (ieq a0.1 39))))) fun x=>l7 x (l7 (ile 0 a0.2) (some (ilt a0.2 (o8 a1.2.2.2.2.1)))
 (some false)) (some true)))))
def d1z:FSpec:=mkS b1C b5m fun x=>aT x.1 x.2
def b1D:List MG:=[(false,(.dat y28))]
def b5n:Ret:=⟨[(.tmp 2,ubM)],[]⟩
def d7g:Env:=⟨15,eqs,tt,gl,[(218,YT)],[],[],[],[]⟩
def c4r:Ann:=.seq lfA (.seq (.seq lfA (.blk (.loopR [(2,3),(4,5),(7,15)] ⟨[(7,uiM)],[]⟩ 0 ⟨[],[]⟩ lfA))) lfA)
def ng (a0:List F7):Option Bool:=l9 (J7 (fun(x:Int)=>l7 (ilt x (o8 a0)) (l9 (lat a0 x) fun x_1
 =>l9 (af x_1) fun x_2=>l7 (D6 x_2) (some (.rt false)) (some (.nx (x9 .i64 x 1)))) (some (.ex
 ()))) 0) fun o=>J9 o (fun(y:PUnit)=>some true) fun r=>some r
def d1A:FSpec:=mkS b1D b5n fun x=>ng x
def b2a:List MG:=[(true,(.dat y3)),(true,(.dat y2))]
def b5K:Ret:=⟨[(.tmp 4,ubM)],[]⟩
def d7F:Env:=⟨21,eqs,tt,gl,[(218,YT)],[],[],[],[]⟩
def c4S:Ann:=.leaf
def tJ (a0:F7) (a1:o9):Option Bool:=l9 (af a0) fun x=>l7 x (l7 (ieq a0.1 a1.1) (some (ieq
 a0.2.1 a1.2)) (some false)) (some false)
def b9x:FSpec:=mkS b2a b5K fun x=>tJ x.1 x.2
def b2I:List MG:=[uiM]
def b6s:Ret:=⟨[(.tmp 2,ubM)],[]⟩
def d8n:Env:=⟨13,eqs,tt,gl,[],[],[],[],[]⟩
def c5B:Ann:=.leaf
def jW (a0:Int):Option Bool:=l7 (ieq a0 2) (some true) (l7 (ieq a0 3) (some true) (some (ieq a0 4)))
def a9q:FSpec:=mkS b2I b6s fun x=>jW x
def b2b:List MG:=[uiM,(true,(.dat y2))]
def b5L:Ret:=⟨[(.tmp 4,ubM)],[]⟩
def d7G:Env:=⟨32,eqs,tt,gl,[(286,a9q)],[],[],[],[]⟩
def c4T:Ann:=.leaf
def lK (a0:Int) (a1:o9):Option Bool:=l7 (D6 (ieq a1.2 0)) (some false) (l7 (ieq a0 36) (l7 (ieq a1.1 2)
 (some true) (some (ieq a1.1 3))) (l7 (ieq a0 39) (l9 (jW a1.1) fun x=>l7 x (some true) (some (ieq a1.1 5))) (some (ieq
 a1.1 1))))
def d1R:FSpec:=mkS b2b b5L fun x=>lK x.1 x.2
def b2c:List MG:=[uiM,uiM]
def b5M:Ret:=⟨[(.tmp 4,ubM)],[]⟩
def d7H:Env:=⟨16,eqs,tt,gl,[(286,a9q)],[],[],[],[]⟩
def c4V:Ann:=.leaf
def jH (a0:Int) (a1:Int):Option Bool:=l7 (ieq a0 10) (l9 (jW a1) fun x=>some x) (l7 (ieq a0 25)
 (some (ieq a1 1)) (some (ieq a1 5)))
def d1S:FSpec:=mkS b2c b5M fun x=>jH x.1 x.2
def b2e:List MG:=[(true,(.dat y3)),(true,(.dat y3))]
def b5O:Ret:=⟨[(.tmp 4,ubM)],[]⟩
def d7J:Env:=⟨17,eqs,tt,gl,[],[],[],[],[]⟩
def c4X:Ann:=.leaf
def jX (a0:F7) (a1:F7):Option Bool:=l7 (ieq a0.1 a1.1) (some (ieq a0.2.1 a1.2.1)) (some false)
def b9y:FSpec:=mkS b2e b5O fun x=>jX x.1 x.2
def b2d:List MG:=[uiM,(true,(.dat y3)),(true,(.dat y3))]
def b5N:Ret:=⟨[(.tmp 6,ubM)],[]⟩
def d7I:Env:=⟨134,eqs,tt,gl,[(251,b9y),(286,a9q)],[],[],[],[]⟩
def c4W:Ann:=.seq lfA (.seq (.joinR [(6,126)] ⟨[],[]⟩ (.seq lfA (.blk (.seq (.join [(8,11)] ⟨[(8,ubM)],[]⟩ lfA) (.cond lfA (.seq lfA (.cond lfA (.seq lfA (.cond lfA (.seq lfA (.cond lfA (.seq lfA (.cond lfA (.seq (.join [(80,85)] ⟨[(80,ubM)],[]⟩ lfA) (.cond lfA (.seq (.join [(98,101)] ⟨[(98,ubM)],[]⟩ lfA) lfA)))))))))))))))) lfA)
def P7 (a0:Int) (a1:F7) (a2:F7):Option Bool:=l9 (l9 (l7 (ieq a0 11) (some (ieq a0 11)) (some (ieq a0 12)))
 fun x=>l7 x (l9 (jX a1 a2) fun x=>l7 x (l9 (jW a1.1) fun x=>some (.inr x))
 (some (.inr false))) (l7 (ieq a0 13) (l7 (ieq a2.1 2) (l7 (ieq a1.1 2) (some (.inr true)) (some (.inr (ieq a1.1 3)))) (some
 (.inr false))) (l7 (ieq a0 14) (l7 (ieq a2.1 4) (l7 (ieq a1.1 3) (some (.inr true)) (some (.inr (ieq a1.1 4)))) (some (.inr
 false))) (l7 (ieq a0 15) (l7 (ieq a2.1 2) (l7 (ieq a1.1 2) (some (.inr true)) (some (.inr (ieq a1.1 3)))) (l7 (ieq a1.1 3) (some
 (.inr (ieq a2.1 3))) (some (.inr false)))) (l7 (ieq a0 16) (l7 (ieq a1.1 3) (some (.inr (ieq a2.1 3))) (some (.inr false))) (l9
 (l7 (ieq a0 17) (some (ieq a0 17)) (l7 (ieq a0 18) (some (ieq a0 18)) (l7 (ieq a0 21) (some (ieq a0 21)) (some (ieq a0 22))))) fun(x:
 Bool)=>l7 x (l9 (jX a1 a2) fun x=>l7 x (l9 (jW a1.1) fun x=>l7 x (some (.inr true))
 (some (.inr (ieq a1.1 5)))) (some (.inr false))) (l9 (l7 (ieq a0 19) (some (ieq a0 19)) (some (ieq a0 20))) fun x=>l7 x
 (l9 (jX a1 a2) fun x=>some (.inr x)) (l7 (ieq a0 23) (l7 (ieq a0 23) (l7 (ieq a1.1 1) (some (.inr (ieq a2.1
 1))) (some (.inr false))) (l7 (ieq a0 27) (l7 (ieq a0 27) (l7 (ieq a1.1 5) (some (.inr (ieq a2.1 2))) (some (.inr false))) (some
 (.inl ()))) (l7 (ieq a0 28) (l7 (ieq a1.1 5) (some (.inr (ieq a2.1 2))) (some (.inr false))) (some (.inl ())))))
 (l7 (ieq a0 24) (l7 (ieq a1.1 1) (some (.inr (ieq a2.1 1))) (some (.inr false))) (l7 (ieq a0 27) (l7 (ieq a0 27) (l7 (ieq a1.1
 5) (some (.inr (ieq a2.1 2))) (some (.inr false))) (some (.inl ()))) (l7 (ieq a0 28) (l7 (ieq a1.1 5) (some (.inr (ieq a2.1
 2))) (some (.inr false))) (some (.inl ()))))))))))))) fun o=>J9 o (fun(x:PUnit)=>l7 (ieq a1.1 5) (some
 (ieq a2.1 5)) (some false)) fun r=>some r
def d1T:FSpec:=mkS b2d b5N fun x=>P7 x.1 x.2.1 x.2.2
def b1E:List MG:=[(true,(.dat y2)),(false,(.dat y28)),(true,(.dat y42))]
def b5o:Ret:=⟨[(.tmp 6,ubM)],[]⟩
def d7h:Env:=⟨133,eqs,tt,gl,[(218,YT),(247,b9x),(248,d1R),(249,d1S),(250,d1T),(251,b9y)],[],[],[],[]⟩
def c4s:Ann:=.seq lfA (.seq (.joinR [(6,95)] ⟨[],[]⟩ (.seq lfA (.blk (.seq lfA (.cond lfA (.seq lfA (.cond lfA (.seq lfA (.cond lfA (.seq lfA (.cond lfA (.seq (.join [(81,86)] ⟨[(81,ubM)],[]⟩ lfA) lfA)))))))))))) lfA)
def N9 (a0:o9) (a1:List F7) (a2:P9):Option Bool:=l9 (l7 (ieq a0.1 7) (l9 (lat a2.2.1 a0.2) fun x
 =>l9 (af x) fun x=>some (.inr x)) (l7 (ieq a0.1 8) (l9 (lat a2.2.2.1 a0.2) fun x=>l9
 (af x) fun x=>some (.inr x)) (l7 (ieq a0.1 33) (l9 (lat a2.2.2.2.2.2 a0.2) fun x=>l9 (lat a1 0) fun
 (x_1:F7)=>l9 (tJ x_1 x.2.1) fun x_2=>l7 x_2 (l7 (ile 1 x.2.2.1.1) (some (.inr (ile x.2.2.1.1 6))) (some
 (.inr false))) (some (.inr false))) (l7 (ieq a0.1 34) (l9 (lat a2.2.2.2.2.2 (V5 .i64 a0.2 8)) fun x=>l9 (lat a1
 0) fun x_1=>l7 (ieq x_1.1 3) (l7 (aK (ieq x.2.1.1 3) (ieq x.2.1.2 0)) (some (.inr (aK (ieq x.2.2.1.1 4) (ieq x.2.2.1.2
 0)))) (some (.inr false))) (some (.inr false))) (l9 (l7 (ieq a0.1 36) (some (ieq a0.1 36)) (l7 (ieq a0.1 37) (some (ieq a0.1 37))
 (l7 (ieq a0.1 38) (some (ieq a0.1 38)) (some (ieq a0.1 39))))) fun x=>l7 x (l9 (lat a2.2.2.2.2.1 a0.2) fun x=>
 l9 (lK a0.1 x) fun x=>some (.inr x)) (some (.inl ()))))))) fun o=>J9 o (fun(x:
 PUnit)=>l7 (ieq (o8 a1) 1) (l9 (lat a1 0) fun x=>l9 (jH a0.1 x.1) fun x=>some x) (l7 (ieq
 (o8 a1) 2) (l9 (lat a1 0) fun x=>l9 (lat a1 1) fun x_1=>l9 (P7 a0.1 x x_1) fun x=>
 some x) (l7 (ieq (o8 a1) 3) (l9 (lat a1 0) fun x=>l7 (ieq x.1 1) (l9 (lat a1 1) fun x=>l9 (lat a1 2) fun
 (x_1:F7)=>l9 (jX x x_1) fun x=>some x) (some false)) (some true)))) fun r=>some r
def d1B:FSpec:=mkS b1E b5o fun x=>N9 x.1 x.2.1 x.2.2
def b2f:List MG:=[(true,(.dat y2)),(true,(.dat y42))]
def b5P:Ret:=⟨[(.cell 4 67,(true,(.dat y3))),(.tmp 5,uiM)],[]⟩
def d7K:Env:=⟨113,eqs,tt,gl,[(247,b9x),(218,YT)],[],[],[],[]⟩
def c4Y:Ann:=.seq lfA (.seq lfA (.seq lfA (.seq (.join [(7,8),(22,26),(10000448,10000449)] ⟨[(7,(false,(.box (.dat y3))))],[]⟩ lfA) (.seq (.joinR [(4,6),(26,36),(4000256,4000257)] ⟨[(4,(false,(.box (.dat y3))))],[]⟩ lfA) (.seq (.seq lfA (.blk (.loopR [(4,6),(7,11),(39,112),(12000000,12000001),(20000000,20000001)] ⟨[(4,(false,(.box (.dat y3)))),(7,(false,(.box (.dat y3)))),(39,uiM)],[]⟩ 0 ⟨[(4,(false,(.box (.dat y3)))),(7,(false,(.box (.dat y3))))],[]⟩ (.seq lfA (.seq lfA (.seq (.blk (.seq lfA (.seq (.joinR [(4,6),(44,59),(35000000,35000001)] ⟨[(4,(false,(.box (.dat y3))))],[]⟩ lfA) lfA))) lfA)))))) lfA)))))
def kQ (a0:o9) (a1:P9):Option (F7×Int):=l9 (lat a1.2.2.2.2.1 a0.2) fun x=>l9 (l7 (ieq
 a0.1 37) (some (x.1,x.2,1)) (some (x.1,x.2,0))) fun x_1=>l9 (l7 (ieq a0.1 39) (l7 (ieq (o8 a1.2.2.2.1) 0) (some (.inr
 ((0,0,0),6))) (some (.inl (0,0,0)))) (some (.inl (0,0,0)))) fun o=>J9 o (fun(x_2:F7)=>l9
 (J7 (fun(x_3:F7×F7×Int)=>l7 (ilt x_3.2.2 (o8 a1.2.2.2.1)) (l9 (lat a1.2.2.2.1 x_3.2.2) fun x_4=>l9
 (l7 (ile (o8 x_4) a0.2) (some (.inr ((0,0,0),6))) (l9 (lat x_4 a0.2) fun x=>l7 (ieq x.1 0) (some (.inr ((0,0,0),
 6))) (some (.inl x_3.1)))) fun o=>J9 o (fun(x_5:F7)=>l9 (lat x_4 a0.2) fun x_6=>l9
 (tJ x_6 x) fun x=>l7 (D6 x) (some (.rt ((0,0,0),8))) (l7 (ieq a0.1 36) (l9 (af (x_3.2.1.1,
 x_3.2.1.2.1,x9 .i64 x_3.2.1.2.2 x_6.2.2)) fun x=>l7 (D6 x) (some (.rt ((0,0,0),3))) (some (.nx (x_5,(x_3.2.1.1,
 x_3.2.1.2.1,x9 .i64 x_3.2.1.2.2 x_6.2.2),x9 .i64 x_3.2.2 1)))) (l7 (ieq a0.1 37) (some (.nx (x_5,(x_3.2.1.1,x_3.2.1.2.1,
 eX x_3.2.1.2.2 x_6.2.2),x9 .i64 x_3.2.2 1))) (l7 (ieq a0.1 38) (some (.nx (x_5,(x_3.2.1.1,x_3.2.1.2.1,fO x_3.2.1.2.2 x_6.2.2),
 x9 .i64 x_3.2.2 1))) (l7 (ieq a0.1 39) (l7 (ieq x_3.2.2 0) (some (.nx (x_5,x_6,x9 .i64 x_3.2.2 1))) (l7 (ilt
 x_3.2.1.2.2 x_6.2.2) (some (.nx (x_5,x_6,x9 .i64 x_3.2.2 1))) (some (.nx (x_5,x_3.2.1,x9 .i64 x_3.2.2 1))))) (some
 (.nx (x_5,x_3.2.1,x9 .i64 x_3.2.2 1)))))))) fun r=>some (.rt r)) (some (.ex (x_3.1,x_3.2.1)))) (x_2,x_1,0))
 fun o=>J9 o (fun(y:F7×F7)=>some (y.2,0)) fun r=>some r) fun r=>some r
def d1U:FSpec:=mkS b2f b5P fun x=>kQ x.1 x.2
def a0Y:List MG:=[(true,(.dat y4)),(false,(.rp (.int .i64))),(false,(.rp (.int .i64)))]
def a1w:Ret:=⟨[(.tmp 4,ubM)],[]⟩
def b8O:Env:=⟨21,eqs,tt,gl,[(177,a9m)],[],[],[],[]⟩
def a8t:Ann:=.leaf
def yZ (a0:uQ) (a1:Int) (a2:Int):Option Bool:=l9 (fA a0.1 a1) fun x=>l7 x (l7 (ile a0.2.1
 a2) (some (ilt a2 a0.2.2.1)) (some false)) (some false)
def YV:FSpec:=mkS a0Y a1w fun x=>yZ x.1 x.2.1 x.2.2
def a5o:List MG:=[(false,(.dat y5)),(false,(.fn 287 [(.int .i64),(.int .i64)]))]
def a5R:Ret:=⟨[(.tmp 4,uiM),(.tmp 5,ubM)],[]⟩
def c6O:Env:=⟨20,eqs,tt,gl,[(287,YV)],[],[],[],[]⟩
def b7Y:Ann:=.seq lfA (.seq (.seq lfA (.blk (.loopR [(4,8),(10,20)] ⟨[(10,uiM)],[]⟩ 0 ⟨[],[]⟩ lfA))) lfA)
def lY (a0:List uQ) (a1:o9):Option (Int×Bool):=l9 (J7 (fun(x:Int)=>l7 (ilt x (o8 a0)) (l9
 (lat a0 x) fun x_1=>l9 (yZ x_1 a1.1 a1.2) fun x_2=>l7 x_2 (some (.rt (x,true))) (some (.nx (x9
 .i64 x 1)))) (some (.ex ()))) 0) fun o=>J9 o (fun(y:PUnit)=>some (0,false)) fun r
 =>some r
def b7u:FSpec:=mkS a5o a5R fun x=>lY x.1 x.2
def b2g:List MG:=[(true,(.dat y8)),uiM,uiM]
def b5Q:Ret:=⟨[(.tmp 6,uiM),(.tmp 7,ubM)],[]⟩
def d7L:Env:=⟨14,eqs,tt,gl,[(287,YV),(86,b7u)],[],[],[],[]⟩
def c4Z:Ann:=.leaf
def xX (a0:Y1) (a1:Int) (a2:Int):Option (Int×Bool):=l9 (lY a0.2.2.2 (a1,a2)) fun x=>
 some x
def d1V:FSpec:=mkS b2g b5Q fun x=>xX x.1 x.2.1 x.2.2
def d9r:List MG:=[(false,(.dat (.int .u64))),(false,(.dat (.int .u64)))]
def s37:FSpec:=⟨d9r,[(false,(.dat (.int .u64))),(false,(.dat (.int .u64)))],[],fun x=>kM x.1 x.2⟩
def c8y:List MG:=[(false,(.dat (.int .u64)))]
def d0i:Ret:=⟨[(.tmp 2,uiM)],[]⟩
def e81:Env:=⟨25,eqs,tt,gl,[],[],[],[],[]⟩
def d5p:Ann:=.leaf
def qU (a0:Int):Option Int:=l7 (ile 4294967296 a0) (l7 (ile 65536 (jY .u64 a0 32)) (l7 (ile 256 (jY .u64
 (jY .u64 a0 32) 16)) (l9 (sat [0,1,2,2,3,3,3,3,4,4,4,4,4,4,4,4,5,5,5,5,5,5,5,5,5,5,5,5,5,5,5,5,6,6,6,
 6,6,6,6,6,6,6,6,6,6,6,6,6,6,6,6,6,6,6,6,6,6,6,6,6,6,6,6,6,7,7,7,7,7,7,7,7,7,7,7,7,7,7,7,7,7,7,7,7,7,
 7,7,7,7,7,7,7,7,7,7,7,7,7,7,7,7,7,7,7,7,7,7,7,7,7,7,7,7,7,7,7,7,7,7,7,7,7,7,7,7,7,7,7,8,8,8,8,8,8,8,
 8,8,8,8,8,8,8,8,8,8,8,8,8,8,8,8,8,8,8,8,8,8,8,8,8,8,8,8,8,8,8,8,8,8,8,8,8,8,8,8,8,8,8,8,8,8,8,8,8,8,
 8,8,8,8,8,8,8,8,8,8,8,8,8,8,8,8,8,8,8,8,8,8,8,8,8,8,8,8,8,8,8,8,8,8,8,8,8,8,8,8,8,8,8,8,8,8,8,8,8,8,
 8,8,8,8,8,8,8,8,8,8,8,8,8,8,8,8,8,8,8,8,8] (wrap .u8 (jY .u64 (jY .u64 (jY .u64 a0 32) 16) 8)))
 fun x=>some (x9 .i64 (x9 .i64 (x9 .i64 32 16) 8) (wrap .i64 x))) (l9 (sat [0,1,2,2,3,3,3,3,4,
 4,4,4,4,4,4,4,5,5,5,5,5,5,5,5,5,5,5,5,5,5,5,5,6,6,6,6,6,6,6,6,6,6,6,6,6,6,6,6,6,6,6,6,6,6,6,6,6,6,6,
 6,6,6,6,6,7,7,7,7,7,7,7,7,7,7,7,7,7,7,7,7,7,7,7,7,7,7,7,7,7,7,7,7,7,7,7,7,7,7,7,7,7,7,7,7,7,7,7,7,7,
 7,7,7,7,7,7,7,7,7,7,7,7,7,7,7,7,7,7,7,8,8,8,8,8,8,8,8,8,8,8,8,8,8,8,8,8,8,8,8,8,8,8,8,8,8,8,8,8,8,8,
 8,8,8,8,8,8,8,8,8,8,8,8,8,8,8,8,8,8,8,8,8,8,8,8,8,8,8,8,8,8,8,8,8,8,8,8,8,8,8,8,8,8,8,8,8,8,8,8,8,8,
 8,8,8,8,8,8,8,8,8,8,8,8,8,8,8,8,8,8,8,8,8,8,8,8,8,8,8,8,8,8,8,8,8,8,8,8,8,8,8,8,8,8,8,8,8,8,8] (wrap
 .u8 (jY .u64 (jY .u64 a0 32) 16))) fun x=>some (x9 .i64 (x9 .i64 32 16) (wrap .i64 x))))
 (l7 (ile 256 (jY .u64 a0 32)) (l9 (sat [0,1,2,2,3,3,3,3,4,4,4,4,4,4,4,4,5,5,5,5,5,5,5,5,5,5,5,5,5,5,5,
 5,6,6,6,6,6,6,6,6,6,6,6,6,6,6,6,6,6,6,6,6,6,6,6,6,6,6,6,6,6,6,6,6,7,7,7,7,7,7,7,7,7,7,7,7,7,7,7,7,7,
 7,7,7,7,7,7,7,7,7,7,7,7,7,7,7,7,7,7,7,7,7,7,7,7,7,7,7,7,7,7,7,7,7,7,7,7,7,7,7,7,7,7,7,7,7,7,7,8,8,8,
 8,8,8,8,8,8,8,8,8,8,8,8,8,8,8,8,8,8,8,8,8,8,8,8,8,8,8,8,8,8,8,8,8,8,8,8,8,8,8,8,8,8,8,8,8,8,8,8,8,8,
 8,8,8,8,8,8,8,8,8,8,8,8,8,8,8,8,8,8,8,8,8,8,8,8,8,8,8,8,8,8,8,8,8,8,8,8,8,8,8,8,8,8,8,8,8,8,8,8,8,8,
 8,8,8,8,8,8,8,8,8,8,8,8,8,8,8,8,8,8,8,8,8,8,8,8,8] (wrap .u8 (jY .u64 (jY .u64 a0 32) 8))) fun(x:
 Int)=>some (x9 .i64 (x9 .i64 32 8) (wrap .i64 x))) (l9 (sat [0,1,2,2,3,3,3,3,4,4,4,4,4,4,4,4,5,5,5,
 5,5,5,5,5,5,5,5,5,5,5,5,5,6,6,6,6,6,6,6,6,6,6,6,6,6,6,6,6,6,6,6,6,6,6,6,6,6,6,6,6,6,6,6,6,7,7,7,7,7,
 7,7,7,7,7,7,7,7,7,7,7,7,7,7,7,7,7,7,7,7,7,7,7,7,7,7,7,7,7,7,7,7,7,7,7,7,7,7,7,7,7,7,7,7,7,7,7,7,7,7,
 7,7,7,7,7,7,7,7,7,8,8,8,8,8,8,8,8,8,8,8,8,8,8,8,8,8,8,8,8,8,8,8,8,8,8,8,8,8,8,8,8,8,8,8,8,8,8,8,8,8,
 8,8,8,8,8,8,8,8,8,8,8,8,8,8,8,8,8,8,8,8,8,8,8,8,8,8,8,8,8,8,8,8,8,8,8,8,8,8,8,8,8,8,8,8,8,8,8,8,8,8,
 8,8,8,8,8,8,8,8,8,8,8,8,8,8,8,8,8,8,8,8,8,8,8,8,8,8,8,8,8,8,8,8,8,8,8,8,8] (wrap .u8 (jY .u64 a0
 32))) fun x=>some (x9 .i64 32 (wrap .i64 x))))) (l7 (ile 65536 a0) (l7 (ile 256 (jY .u64 a0 16)) (l9 (sat
 [0,1,2,2,3,3,3,3,4,4,4,4,4,4,4,4,5,5,5,5,5,5,5,5,5,5,5,5,5,5,5,5,6,6,6,6,6,6,6,6,6,6,6,6,6,6,6,6,6,
 6,6,6,6,6,6,6,6,6,6,6,6,6,6,6,7,7,7,7,7,7,7,7,7,7,7,7,7,7,7,7,7,7,7,7,7,7,7,7,7,7,7,7,7,7,7,7,7,7,7,
 7,7,7,7,7,7,7,7,7,7,7,7,7,7,7,7,7,7,7,7,7,7,7,7,7,7,7,7,7,8,8,8,8,8,8,8,8,8,8,8,8,8,8,8,8,8,8,8,8,8,
 8,8,8,8,8,8,8,8,8,8,8,8,8,8,8,8,8,8,8,8,8,8,8,8,8,8,8,8,8,8,8,8,8,8,8,8,8,8,8,8,8,8,8,8,8,8,8,8,8,8,
 8,8,8,8,8,8,8,8,8,8,8,8,8,8,8,8,8,8,8,8,8,8,8,8,8,8,8,8,8,8,8,8,8,8,8,8,8,8,8,8,8,8,8,8,8,8,8,8,8,8,
 8,8,8,8,8,8,8] (wrap .u8 (jY .u64 (jY .u64 a0 16) 8))) fun x=>some (x9 .i64 (x9 .i64 (x9
 .i64 0 16) 8) (wrap .i64 x))) (l9 (sat [0,1,2,2,3,3,3,3,4,4,4,4,4,4,4,4,5,5,5,5,5,5,5,5,5,5,5,5,5,5,5,
 5,6,6,6,6,6,6,6,6,6,6,6,6,6,6,6,6,6,6,6,6,6,6,6,6,6,6,6,6,6,6,6,6,7,7,7,7,7,7,7,7,7,7,7,7,7,7,7,7,7,
 7,7,7,7,7,7,7,7,7,7,7,7,7,7,7,7,7,7,7,7,7,7,7,7,7,7,7,7,7,7,7,7,7,7,7,7,7,7,7,7,7,7,7,7,7,7,7,8,8,8,
 8,8,8,8,8,8,8,8,8,8,8,8,8,8,8,8,8,8,8,8,8,8,8,8,8,8,8,8,8,8,8,8,8,8,8,8,8,8,8,8,8,8,8,8,8,8,8,8,8,8,
 8,8,8,8,8,8,8,8,8,8,8,8,8,8,8,8,8,8,8,8,8,8,8,8,8,8,8,8,8,8,8,8,8,8,8,8,8,8,8,8,8,8,8,8,8,8,8,8,8,8,
 8,8,8,8,8,8,8,8,8,8,8,8,8,8,8,8,8,8,8,8,8,8,8,8,8] (wrap .u8 (jY .u64 a0 16))) fun x=>some (x9
 .i64 (x9 .i64 0 16) (wrap .i64 x)))) (l7 (ile 256 a0) (l9 (sat [0,1,2,2,3,3,3,3,4,4,4,4,4,4,4,4,5,5,5,
 5,5,5,5,5,5,5,5,5,5,5,5,5,6,6,6,6,6,6,6,6,6,6,6,6,6,6,6,6,6,6,6,6,6,6,6,6,6,6,6,6,6,6,6,6,7,7,7,7,7,
 7,7,7,7,7,7,7,7,7,7,7,7,7,7,7,7,7,7,7,7,7,7,7,7,7,7,7,7,7,7,7,7,7,7,7,7,7,7,7,7,7,7,7,7,7,7,7,7,7,7,
 7,7,7,7,7,7,7,7,7,8,8,8,8,8,8,8,8,8,8,8,8,8,8,8,8,8,8,8,8,8,8,8,8,8,8,8,8,8,8,8,8,8,8,8,8,8,8,8,8,8,
 8,8,8,8,8,8,8,8,8,8,8,8,8,8,8,8,8,8,8,8,8,8,8,8,8,8,8,8,8,8,8,8,8,8,8,8,8,8,8,8,8,8,8,8,8,8,8,8,8,8,
 8,8,8,8,8,8,8,8,8,8,8,8,8,8,8,8,8,8,8,8,8,8,8,8,8,8,8,8,8,8,8,8,8,8,8,8,8] (wrap .u8 (jY .u64 a0
 8))) fun x=>some (x9 .i64 (x9 .i64 0 8) (wrap .i64 x))) (l9 (sat [0,1,2,2,3,3,3,3,4,4,4,4,4,4,4,
 4,5,5,5,5,5,5,5,5,5,5,5,5,5,5,5,5,6,6,6,6,6,6,6,6,6,6,6,6,6,6,6,6,6,6,6,6,6,6,6,6,6,6,6,6,6,6,6,6,7,
 7,7,7,7,7,7,7,7,7,7,7,7,7,7,7,7,7,7,7,7,7,7,7,7,7,7,7,7,7,7,7,7,7,7,7,7,7,7,7,7,7,7,7,7,7,7,7,7,7,7,
 7,7,7,7,7,7,7,7,7,7,7,7,7,8,8,8,8,8,8,8,8,8,8,8,8,8,8,8,8,8,8,8,8,8,8,8,8,8,8,8,8,8,8,8,8,8,8,8,8,8,
 8,8,8,8,8,8,8,8,8,8,8,8,8,8,8,8,8,8,8,8,8,8,8,8,8,8,8,8,8,8,8,8,8,8,8,8,8,8,8,8,8,8,8,8,8,8,8,8,8,8,
 8,8,8,8,8,8,8,8,8,8,8,8,8,8,8,8,8,8,8,8,8,8,8,8,8,8,8,8,8,8,8,8,8,8,8,8,8,8,8,8,8] (wrap .u8 a0)) fun
 (x:Int)=>some (x9 .i64 0 (wrap .i64 x)))))
def s81:FSpec:=mkS c8y d0i fun x=>qU x
def c8c:List MG:=[(false,(.dat (.int .u64)))]
def c9M:Ret:=⟨[(.tmp 2,uiM)],[]⟩
def e59:Env:=⟨6,eqs,tt,gl,[(81,s81)],[],[],[],[]⟩
def d4T:Ann:=.leaf
def fP (a0:Int):Option Int:=l9 (qU a0) fun x=>some (G5 .i64 64 x)
def s59:FSpec:=mkS c8c c9M fun x=>fP x
def c7H:List MG:=[(false,(.dat (.int .u64))),(false,(.dat (.int .u64))),(false,(.dat (.int .u64)))]
def c9r:Ret:=⟨[(.tmp 6,(false,(.dat (.int .u64)))),(.tmp 7,(false,(.dat (.int .u64))))],[]⟩
def e38:Env:=⟨135,eqs,tt,gl,[(59,s59)],[],[],[],[]⟩
def d4y:Ann:=.seq lfA (.seq (.join [(19,22)] ⟨[],[]⟩ lfA) (.seq (.join [(22,26)] ⟨[],[]⟩ lfA) (.seq lfA (.seq lfA (.seq lfA (.seq lfA (.seq lfA (.seq lfA (.seq lfA (.seq lfA (.seq lfA (.seq lfA (.seq lfA (.seq (.blk (.loop [(15,17),(67,86)] ⟨[(15,(false,(.dat (.int .u64)))),(16,(false,(.dat (.int .u64))))],[]⟩ 0 ⟨[(15,(false,(.dat (.int .u64))))],[]⟩ lfA)) (.seq lfA (.seq lfA (.seq lfA (.seq (.blk (.loop [(16,17),(18,19),(102,121)] ⟨[(16,(false,(.dat (.int .u64)))),(18,(false,(.dat (.int .u64))))],[]⟩ 2 ⟨[(18,(false,(.dat (.int .u64))))],[]⟩ lfA)) lfA))))))))))))))))))
def eF (a0:Int) (a1:Int) (a2:Int):Option o9:=l9 (l7 (ieq a2 0) none (some ())) fun x=>l9
 (l7 (ile a2 a0) none (some ())) fun x=>l7 (ieq a0 0) (l9 (fH .u64 a1 a2) fun x=>l9 (qf a1 a2)
 fun x_1=>some (x,x_1)) (l9 (fP a2) fun x=>l9 (OJ .u64 a2 (wrap .u64 x)) fun(x_1:
 Int)=>l9 (OJ .u64 a0 (wrap .u64 x)) fun x_2=>l9 (OL .u64 a1 (G5 .u64 64 (wrap .u64 x)))
 fun x_3=>l9 (OJ .u64 a1 (wrap .u64 x)) fun x_4=>l9 (fH .u64 (ior .u64 x_2 x_3) (jY
 .u64 x_1 32)) fun x_5=>l9 (P5 (fun(x:o9)=>l7 (ile 4294967296 x.1) (l7 (ile 4294967296 (x9 .u64 x.2
 (jY .u64 x_1 32))) (some (.inr (G5 .u64 x.1 1))) (some (.inl (G5 .u64 x.1 1,x9 .u64 x.2 (jY .u64
 x_1 32))))) (l7 (ilt (x9 .u64 (L9 .u64 4294967296 x.2) (jY .u64 x_4 32)) (L9 .u64 x.1 (VU .u64 x_1
 4294967295))) (l7 (ile 4294967296 (x9 .u64 x.2 (jY .u64 x_1 32))) (some (.inr (G5 .u64 x.1 1))) (some (.inl (G5
 .u64 x.1 1,x9 .u64 x.2 (jY .u64 x_1 32))))) (some (.inr x.1)))) (x_5,G5 .u64 (ior .u64 x_2 x_3) (L9
 .u64 x_5 (jY .u64 x_1 32)))) fun y=>l9 (fH .u64 (G5 .u64 (x9 .u64 (L9 .u64 (ior
 .u64 x_2 x_3) 4294967296) (jY .u64 x_4 32)) (L9 .u64 y x_1)) (jY .u64 x_1 32)) fun x_6=>l9 (P5 (fun
 (x:o9)=>l7 (ile 4294967296 x.2) (l7 (ile 4294967296 (x9 .u64 x.1 (jY .u64 x_1 32))) (some (.inr (G5
 .u64 x.2 1))) (some (.inl (x9 .u64 x.1 (jY .u64 x_1 32),G5 .u64 x.2 1)))) (l7 (ilt (x9 .u64 (L9
 .u64 4294967296 x.1) (VU .u64 x_4 4294967295)) (L9 .u64 x.2 (VU .u64 x_1 4294967295))) (l7 (ile 4294967296 (x9
 .u64 x.1 (jY .u64 x_1 32))) (some (.inr (G5 .u64 x.2 1))) (some (.inl (x9 .u64 x.1 (jY .u64 x_1 32),
 G5 .u64 x.2 1)))) (some (.inr x.2)))) (G5 .u64 (G5 .u64 (x9 .u64 (L9 .u64 (ior .u64 x_2 x_3)
 4294967296) (jY .u64 x_4 32)) (L9 .u64 y x_1)) (L9 .u64 x_6 (jY .u64 x_1 32)),x_6)) fun y_1=>l9
 (OL .u64 (G5 .u64 (x9 .u64 (L9 .u64 (G5 .u64 (x9 .u64 (L9 .u64 (ior .u64 x_2
 x_3) 4294967296) (jY .u64 x_4 32)) (L9 .u64 y x_1)) 4294967296) (VU .u64 x_4 4294967295)) (L9 .u64 y_1 x_1))
 (wrap .u64 x)) fun x=>some (x9 .u64 (L9 .u64 y 4294967296) y_1,x))
def s38:FSpec:=mkS c7H c9r fun x=>eF x.1 x.2.1 x.2.2
def b2J:List MG:=[uiM,uiM]
def b6t:Ret:=⟨[(.tmp 4,uiM),(.tmp 5,uiM),(.tmp 6,ubM)],[]⟩
def d8o:Env:=⟨47,eqs,tt,gl,[(37,s37),(38,s38)],[],[],[],[]⟩
def c5C:Ann:=.leaf
def lX (a0:Int) (a1:Int):Option (Int×Int×Bool):=l7 (ilt a1 0) (l9 (kM (wrap .u64 a0) (G5 .u64
 0 (wrap .u64 a1))) fun x=>l7 (ile 1000000 x.1) (some (0,0,false)) (l9 (eF x.1 x.2 1000000) fun(x:
 o9)=>l7 (ilt 1000000000000000 x.1) (some (0,0,false)) (l7 (ilt a1 0) (some (G5 .i64 0 (wrap .i64 x.1),G5
 .i64 0 (wrap .i64 x.2),true)) (some (wrap .i64 x.1,wrap .i64 x.2,true))))) (l9 (kM (wrap .u64 a0)
 (wrap .u64 a1)) fun x=>l7 (ile 1000000 x.1) (some (0,0,false)) (l9 (eF x.1 x.2 1000000) fun(x:
 o9)=>l7 (ilt 1000000000000000 x.1) (some (0,0,false)) (l7 (ilt a1 0) (some (G5 .i64 0 (wrap .i64 x.1),G5
 .i64 0 (wrap .i64 x.2),true)) (some (wrap .i64 x.1,wrap .i64 x.2,true)))))
def d2q:FSpec:=mkS b2J b6t fun x=>lX x.1 x.2
def b3y:List MG:=[uiM]
def b7i:Ret:=⟨[(.tmp 2,ubM)],[]⟩
def d9d:Env:=⟨9,eqs,tt,gl,[],[],[],[],[]⟩
def c6u:Ann:=.leaf
def jy (a0:Int):Option Bool:=l7 (ile 0 a0) (some (ile a0 5)) (some false)
def a9y:FSpec:=mkS b3y b7i fun x=>jy x
def b3z:List MG:=[uiM,uiM]
def b7j:Ret:=⟨[(.tmp 4,ubM)],[]⟩
def d9e:Env:=⟨14,eqs,tt,gl,[],[],[],[],[]⟩
def c6v:Ann:=.leaf
def fQ (a0:Int) (a1:Int):Option Bool:=l7 (ilt a1 a0) (some true) (some (ilt a0 (G5 .i64 0 a1)))
def a9z:FSpec:=mkS b3z b7j fun x=>fQ x.1 x.2
def b3A:List MG:=[uiM]
def b7k:Ret:=⟨[(.tmp 2,(false,(.dat (.int .u64))))],[]⟩
def d9f:Env:=⟨10,eqs,tt,gl,[],[],[],[],[]⟩
def c6w:Ann:=.leaf
def eG (a0:Int):Option Int:=l7 (ilt a0 0) (some (G5 .u64 0 (wrap .u64 a0))) (some (wrap .u64 a0))
def b9L:FSpec:=mkS b3A b7k fun x=>eG x
def b3B:List MG:=[(false,(.dat (.int .u64))),(false,(.dat (.int .u64))),(false,(.dat (.int .u64))),ubM,uiM]
def b7l:Ret:=⟨[(.tmp 10,(false,(.dat (.int .u64))))],[]⟩
def d9g:Env:=⟨55,eqs,tt,gl,[],[],[],[],[]⟩
def c6x:Ann:=.leaf
def gy (a0:Int) (a1:Int) (a2:Int) (a3:Bool) (a4:Int):Option Int:=l7 (ieq a1 0) (some a0) (l7 (ieq a4 0) (l7
 a3 (some (x9 .u64 a0 1)) (some a0)) (l7 (ieq a4 1) (l7 (D6 a3) (some (x9 .u64 a0 1)) (some a0)) (l7 (ieq a4 3) (some
 (x9 .u64 a0 1)) (l7 (ieq a4 4) (l7 (ile (G5 .u64 a2 a1) a1) (some (x9 .u64 a0 1)) (some a0)) (l7 (ieq a4 5)
 (l7 (ilt (G5 .u64 a2 a1) a1) (some (x9 .u64 a0 1)) (l7 (ieq a1 (G5 .u64 a2 a1)) (l7 (ieq (V6 a0 2) 1) (some
 (x9 .u64 a0 1)) (some a0)) (some a0))) (some a0))))))
def b9M:FSpec:=mkS b3B b7l fun x=>gy x.1 x.2.1 x.2.2.1 x.2.2.2.1 x.2.2.2.2
def b3C:List MG:=[(false,(.dat (.int .u64))),ubM]
def b7m:Ret:=⟨[(.tmp 4,uiM)],[]⟩
def d9h:Env:=⟨11,eqs,tt,gl,[],[],[],[],[]⟩
def c6y:Ann:=.leaf
def um (a0:Int) (a1:Bool):Option Int:=l7 a1 (some (G5 .i64 0 (wrap .i64 a0))) (some (wrap .i64 a0))
def b9N:FSpec:=mkS b3C b7m fun x=>um x.1 x.2
def b3j:List MG:=[uiM,uiM,uiM]
def b6T:Ret:=⟨[(.tmp 6,uiM),(.tmp 7,uiM)],[]⟩
def d8O:Env:=⟨45,eqs,tt,gl,[(331,a9y),(332,a9z),(333,b9L),(334,b9M),(335,b9N)],[],[],[],[]⟩
def c6f:Ann:=.leaf
def aV (a0:Int) (a1:Int) (a2:Int):Option o9:=l9 (jy a2) fun x=>l7 (D6 x) (some (0,1))
 (l7 (ieq a1 0) (some (0,12)) (l9 (fQ a0 4611686018427387904) fun x=>l7 x (some (0,3)) (l9 (fQ a1
 4611686018427387904) fun x=>l7 x (some (0,3)) (l9 (eG a0) fun x=>l9 (eG a1) fun x_1
 =>l9 (fH .u64 x x_1) fun x_2=>l9 (qf x x_1) fun x=>l9 (gy x_2 x x_1 (D6 (bZ (ilt a0
 0) (ilt a1 0))) a2) fun x=>l9 (um x (D6 (bZ (ilt a0 0) (ilt a1 0)))) fun x=>some (x,0)))))
def a6p:FSpec:=mkS b3j b6T fun x=>aV x.1 x.2.1 x.2.2
def b2K:List MG:=[uiM,uiM,uiM]
def b6u:Ret:=⟨[(.tmp 6,uiM),(.tmp 7,uiM)],[]⟩
def d8p:Env:=⟨60,eqs,tt,gl,[(316,a6p)],[],[],[],[]⟩
def c5E:Ann:=.leaf
def uM (a0:Int) (a1:Int) (a2:Int):Option o9:=l7 (ilt (x9 .i64 a0 (V5 .i64 a1 1000000))
 (-2000000000000000)) (some (0,3)) (l7 (ilt 2000000000000000 (x9 .i64 a0 (V5 .i64 a1 1000000))) (some (0,3)) (l7 (ilt 1
 (x9 .i64 a0 (V5 .i64 a1 1000000))) (l9 (aV (x9 .i64 (L9 .i64 (x9 .i64 (V6 (x9
 .i64 a0 (V5 .i64 a1 1000000)) 2) 2) 1000000) (V6 a1 1000000)) 1000000 a2) fun x=>l7 (D6 (ieq x.2 0)) (some (0,
 x.2)) (l7 (ilt (x9 .i64 (G5 .i64 (x9 .i64 a0 (V5 .i64 a1 1000000)) (x9 .i64 (V6 (x9 .i64
 a0 (V5 .i64 a1 1000000)) 2) 2)) x.1) (-1000000000000000)) (some (0,3)) (l7 (ilt 1000000000000000 (x9 .i64 (G5 .i64
 (x9 .i64 a0 (V5 .i64 a1 1000000)) (x9 .i64 (V6 (x9 .i64 a0 (V5 .i64 a1 1000000)) 2) 2)) x.1)) (some
 (0,3)) (some (x9 .i64 (G5 .i64 (x9 .i64 a0 (V5 .i64 a1 1000000)) (x9 .i64 (V6 (x9 .i64 a0
 (V5 .i64 a1 1000000)) 2) 2)) x.1,0))))) (l7 (ilt (x9 .i64 a0 (V5 .i64 a1 1000000)) (-1)) (l9 (aV (x9
 .i64 (L9 .i64 (G5 .i64 (V6 (x9 .i64 a0 (V5 .i64 a1 1000000)) 2) 2) 1000000) (V6 a1 1000000)) 1000000
 a2) fun x=>l7 (D6 (ieq x.2 0)) (some (0,x.2)) (l7 (ilt (x9 .i64 (G5 .i64 (x9 .i64 a0 (V5
 .i64 a1 1000000)) (G5 .i64 (V6 (x9 .i64 a0 (V5 .i64 a1 1000000)) 2) 2)) x.1) (-1000000000000000)) (some (0,3))
 (l7 (ilt 1000000000000000 (x9 .i64 (G5 .i64 (x9 .i64 a0 (V5 .i64 a1 1000000)) (G5 .i64 (V6 (x9
 .i64 a0 (V5 .i64 a1 1000000)) 2) 2)) x.1)) (some (0,3)) (some (x9 .i64 (G5 .i64 (x9 .i64 a0 (V5
 .i64 a1 1000000)) (G5 .i64 (V6 (x9 .i64 a0 (V5 .i64 a1 1000000)) 2) 2)) x.1,0))))) (l9 (aV (x9
 .i64 (L9 .i64 (V6 (x9 .i64 a0 (V5 .i64 a1 1000000)) 2) 1000000) (V6 a1 1000000)) 1000000 a2) fun(x:
 o9)=>l7 (D6 (ieq x.2 0)) (some (0,x.2)) (l7 (ilt (x9 .i64 (G5 .i64 (x9 .i64 a0 (V5 .i64 a1
 1000000)) (V6 (x9 .i64 a0 (V5 .i64 a1 1000000)) 2)) x.1) (-1000000000000000)) (some (0,3)) (l7 (ilt 1000000000000000 (x9
 .i64 (G5 .i64 (x9 .i64 a0 (V5 .i64 a1 1000000)) (V6 (x9 .i64 a0 (V5 .i64 a1 1000000)) 2)) x.1))
 (some (0,3)) (some (x9 .i64 (G5 .i64 (x9 .i64 a0 (V5 .i64 a1 1000000)) (V6 (x9 .i64 a0 (V5
 .i64 a1 1000000)) 2)) x.1,0))))))))
def d2r:FSpec:=mkS b2K b6u fun x=>uM x.1 x.2.1 x.2.2
def b2h:List MG:=[(true,(.dat y8)),uiM,uiM,uiM]
def b5R:Ret:=⟨[(.tmp 8,uiM),(.tmp 9,uiM)],[]⟩
def d7M:Env:=⟨90,eqs,tt,gl,[(177,a9m),(288,d2q),(289,d2r)],[],[],[],[]⟩
def c5a:Ann:=.seq lfA (.seq (.joinR [(8,10),(19,25)] ⟨[],[]⟩ lfA) (.seq (.joinR [(8,10),(25,35)] ⟨[],[]⟩ lfA) (.seq (.joinR [(8,10),(35,41)] ⟨[],[]⟩ lfA) (.seq lfA (.seq (.seq lfA (.blk (.loopR [(8,12),(13,19),(44,84)] ⟨[(10,uiM),(11,uiM),(44,uiM)],[]⟩ 0 ⟨[(10,uiM),(11,uiM)],[]⟩ lfA))) lfA)))))
def uI (a0:Y1) (a1:Int) (a2:Int) (a3:Int):Option o9:=l9 (l7 (ilt a3 0) (some (.inr (0,1))) (l7 (ilt 5
 a3) (some (.inr (0,1))) (some (.inl ())))) fun o=>J9 o (fun(x:PUnit)=>l9 (l7 (D6 (aK (ieq
 a0.2.1.1 3) (ieq a0.2.1.2 0))) (some (.inr (0,8))) (l7 (D6 (aK (ieq a0.2.2.1.1 4) (ieq a0.2.2.1.2 0))) (some (.inr (0,8))) (some
 (.inl ())))) fun o=>J9 o (fun(x:PUnit)=>l9 (l7 (ilt a2 (-1000000000000000)) (some (.inr (0,3)))
 (l7 (ilt 1000000000000000 a2) (some (.inr (0,3))) (some (.inl ())))) fun o=>J9 o (fun(x:PUnit)=>
 l9 (J7 (fun(x:F7)=>l7 (ilt x.2.2 (o8 a0.2.2.2)) (l9 (lat a0.2.2.2 x.2.2) fun x_1=>l9 (fA x_1.1
 a1) fun x_2=>l7 (D6 x_2) (some (.nx (x.1,x.2.1,x9 .i64 x.2.2 1))) (l7 (ile (eX x_1.2.2.1 a2) (fO x_1.2.1 0))
 (some (.nx (x.1,x.2.1,x9 .i64 x.2.2 1))) (l9 (lX (G5 .i64 (eX x_1.2.2.1 a2) (fO x_1.2.1 0)) x_1.2.2.2)
 fun x_3=>l7 (D6 x_3.2.2) (some (.rt (0,3))) (some (.nx (x9 .i64 x.1 x_3.1,x9 .i64 x.2.1
 x_3.2.1,x9 .i64 x.2.2 1)))))) (some (.ex (x.1,x.2.1)))) (0,0,0)) fun o=>J9 o (fun(y:o9)=>
 l9 (uM y.1 y.2 a3) fun x=>some x) fun r=>some r) fun r=>some r) fun r=>
 some r) fun r=>some r
def d1W:FSpec:=mkS b2h b5R fun x=>uI x.1 x.2.1 x.2.2.1 x.2.2.2
def b2L:List MG:=[ubM]
def b6v:Ret:=⟨[(.cell 2 67,(true,(.dat y3)))],[]⟩
def d8q:Env:=⟨6,eqs,tt,gl,[],[],[],[],[]⟩
def c5F:Ann:=.leaf
def iT (a0:Bool):Option F7:=l7 a0 (some (1,0,1)) (some (1,0,0))
def b9E:FSpec:=mkS b2L b6v fun x=>iT x
def b3k:List MG:=[uiM]
def b6U:Ret:=⟨[(.tmp 2,ubM)],[]⟩
def d8P:Env:=⟨9,eqs,tt,gl,[],[],[],[],[]⟩
def c6g:Ann:=.leaf
def nU (a0:Int):Option Bool:=l7 (ile 0 a0) (some (ile a0 109572)) (some false)
def a9v:FSpec:=mkS b3k b6U fun x=>nU x
def b3D:List MG:=[uiM]
def b7n:Ret:=⟨[(.tmp 2,uiM)],[]⟩
def d9i:Env:=⟨11,eqs,tt,gl,[],[],[],[],[]⟩
def c6z:Ann:=.leaf
def nT (a0:Int):Option Int:=some (x9 .i64 (G5 .i64 (V5 .i64 a0 4) (V5 .i64 a0 100)) (V5
 .i64 a0 400))
def d2M:FSpec:=mkS b3D b7n fun x=>nT x
def b3l:List MG:=[uiM]
def b6V:Ret:=⟨[(.tmp 2,uiM)],[]⟩
def d8Q:Env:=⟨12,eqs,tt,gl,[(336,d2M)],[],[],[],[]⟩
def c6h:Ann:=.leaf
def iR (a0:Int):Option Int:=l9 (nT (G5 .i64 a0 1)) fun x=>l9 (nT 1899) fun(x_1:
 Int)=>some (G5 .i64 (x9 .i64 (L9 .i64 (G5 .i64 a0 1900) 365) x) x_1)
def b9J:FSpec:=mkS b3l b6V fun x=>iR x
def b3E:List MG:=[uiM]
def b7o:Ret:=⟨[(.tmp 2,ubM)],[]⟩
def d9j:Env:=⟨16,eqs,tt,gl,[],[],[],[],[]⟩
def c6A:Ann:=.leaf
def zq (a0:Int):Option Bool:=l7 (ieq (V6 a0 4) 0) (l7 (D6 (ieq (V6 a0 100) 0)) (some true) (some (ieq (V6 a0 400) 0)))
 (some false)
def d2N:FSpec:=mkS b3E b7o fun x=>zq x
def b3m:List MG:=[uiM,uiM]
def b6W:Ret:=⟨[(.tmp 4,uiM)],[]⟩
def d8R:Env:=⟨21,eqs,tt,gl,[(337,d2N)],[],[],[],[]⟩
def c6i:Ann:=.leaf
def bi (a0:Int) (a1:Int):Option Int:=l7 (ilt a1 1) (some 0) (l7 (ilt 12 a1) (some 0) (l7 (ieq a1 2) (l9 (zq
 a0) fun x=>l7 x (some 29) (l9 (lat [31,28,31,30,31,30,31,31,30,31,30,31] (G5 .i64 a1 1)) fun x=>some
 x)) (l9 (lat [31,28,31,30,31,30,31,31,30,31,30,31] (G5 .i64 a1 1)) fun x=>some x)))
def a9w:FSpec:=mkS b3m b6W fun x=>bi x.1 x.2
def b2M:List MG:=[uiM]
def b6w:Ret:=⟨[(.tmp 2,uiM),(.tmp 3,uiM),(.tmp 4,uiM)],[]⟩
def d8r:Env:=⟨45,eqs,tt,gl,[(317,a9v),(318,b9J),(319,a9w)],[],[],[],[]⟩
def c5G:Ann:=.seq lfA (.seq lfA (.seq lfA (.seq (.blk (.loop [(5,6),(15,22)] ⟨[(5,uiM)],[]⟩ 0 ⟨[(5,uiM)],[]⟩ lfA)) (.seq lfA (.seq (.seq lfA (.blk (.loopR [(2,5),(6,9),(26,45)] ⟨[(6,uiM),(26,uiM)],[]⟩ 2 ⟨[],[]⟩ lfA))) lfA)))))
def nR (a0:Int):Option F7:=l9 (nU a0) fun x=>l7 (D6 x) (some (0,0,0)) (l9 (P5 (fun(x:Int)=>
 l9 (iR (x9 .i64 x 1)) fun x_1=>l7 (ile x_1 a0) (some (.inl (x9 .i64 x 1))) (some (.inr x))) (x9
 .i64 1900 (V5 .i64 a0 366))) fun y=>l9 (iR y) fun x=>l9 (J7 (fun(x:o9)=>l7
 (ilt x.2 12) (l9 (bi y (x9 .i64 x.2 1)) fun x_1=>l7 (ilt x.1 x_1) (some (.rt (y,x9 .i64 x.2 1,
 x9 .i64 x.1 1))) (some (.nx (G5 .i64 x.1 x_1,x9 .i64 x.2 1)))) (some (.ex ()))) (G5 .i64 a0 x,0))
 fun o=>J9 o (fun(y:PUnit)=>some (0,0,0)) fun r=>some r)
def a9r:FSpec:=mkS b2M b6w fun x=>nR x
def b2i:List MG:=[uiM,(true,(.dat y3))]
def b5S:Ret:=⟨[(.cell 4 67,(true,(.dat y3)))],[]⟩
def d7N:Env:=⟨36,eqs,tt,gl,[(290,b9E),(291,a9r)],[],[],[],[]⟩
def c5b:Ann:=.leaf
def yF (a0:Int) (a1:F7):Option F7:=l7 (ieq a0 10) (some (a1.1,0,G5 .i64 0 a1.2.2)) (l7 (ieq a0 25) (l9
 (iT (ieq a1.2.2 0)) fun x=>some x) (l9 (nR a1.2.2) fun x=>l7 (ieq a0 31) (some (2,0,x.1)) (some (2,
 0,x.2.1))))
def d1X:FSpec:=mkS b2i b5S fun x=>yF x.1 x.2
def b3n:List MG:=[uiM,uiM]
def b6X:Ret:=⟨[(.tmp 4,uiM),(.tmp 5,uiM)],[]⟩
def d8S:Env:=⟨38,eqs,tt,gl,[(37,s37)],[],[],[],[]⟩
def c6j:Ann:=.leaf
def oQ (a0:Int) (a1:Int):Option o9:=l9 (kM (wrap .u64 (fO a0 (G5 .i64 0 a0))) (wrap .u64
 (fO a1 (G5 .i64 0 a1)))) fun x=>l7 (D6 (ieq x.1 0)) (some (0,3)) (l7 (ilt 1000000000000000 x.2) (some (0,3))
 (l7 (D6 (bZ (ilt a0 0) (ilt a1 0))) (some (G5 .i64 0 (wrap .i64 x.2),0)) (some (wrap .i64 x.2,0))))
def d2E:FSpec:=mkS b3n b6X fun x=>oQ x.1 x.2
def b3F:List MG:=[uiM,uiM,uiM,uiM]
def b7p:Ret:=⟨[(.tmp 8,uiM),(.tmp 9,uiM)],[]⟩
def d9k:Env:=⟨72,eqs,tt,gl,[(331,a9y),(332,a9z),(333,b9L),(37,s37),(38,s38),(334,b9M),(335,b9N)],[],[],[],[]⟩
def c6B:Ann:=.seq lfA (.seq lfA (.seq lfA (.seq (.joinR [(8,10),(21,31)] ⟨[],[]⟩ lfA) lfA)))
def xC (a0:Int) (a1:Int) (a2:Int) (a3:Int):Option o9:=l9 (jy a3) fun x=>l7 (D6 x) (some
 (0,1)) (l7 (ieq a2 0) (some (0,12)) (l9 (l9 (fQ a0 1000000000000000) fun x=>l7 x (some (.inr (0,3))) (l9
 (fQ a1 1000000000) fun x=>l7 x (some (.inr (0,3))) (l9 (fQ a2 1000000000) fun x=>l7 x (some
 (.inr (0,3))) (some (.inl ()))))) fun o=>J9 o (fun(x:PUnit)=>l9 (eG a0) fun x
 =>l9 (eG a1) fun x_1=>l9 (kM x x_1) fun x=>l9 (eG a2) fun x_2=>l7
 (ile x_2 x.1) (some (0,3)) (l9 (eF x.1 x.2 x_2) fun x=>l7 (ilt 1000000000000000 x.1) (some (0,3)) (l9
 (gy x.1 x.2 x_2 (D6 (bZ (D6 (bZ (ilt a0 0) (ilt a1 0))) (ilt a2 0))) a3) fun x=>l7 (ilt 1000000000000000 x)
 (some (0,3)) (l9 (um x (D6 (bZ (D6 (bZ (ilt a0 0) (ilt a1 0))) (ilt a2 0)))) fun x=>some (x,0))))) fun(r:
 o9)=>some r))
def d2O:FSpec:=mkS b3F b7p fun x=>xC x.1 x.2.1 x.2.2.1 x.2.2.2
def b3o:List MG:=[uiM,uiM,uiM]
def b6Y:Ret:=⟨[(.tmp 6,uiM),(.tmp 7,uiM)],[]⟩
def d8T:Env:=⟨14,eqs,tt,gl,[(338,d2O)],[],[],[],[]⟩
def c6k:Ann:=.leaf
def yQ (a0:Int) (a1:Int) (a2:Int):Option o9:=l9 (xC a0 a1 1000000 a2) fun x=>some x
def d2F:FSpec:=mkS b3o b6Y fun x=>yQ x.1 x.2.1 x.2.2
def c7F:List MG:=[uiM]
def c9p:Ret:=⟨[(.tmp 2,ubM)],[]⟩
def e35:Env:=⟨9,eqs,tt,gl,[],[],[],[],[]⟩
def d4w:Ann:=.leaf
def uu (a0:Int):Option Bool:=l7 (ile 0 a0) (some (ile a0 5)) (some false)
def s35:FSpec:=mkS c7F c9p fun x=>uu x
def c7G:List MG:=[uiM,uiM]
def c9q:Ret:=⟨[(.tmp 4,ubM)],[]⟩
def e36:Env:=⟨14,eqs,tt,gl,[],[],[],[],[]⟩
def d4x:Ann:=.leaf
def oq (a0:Int) (a1:Int):Option Bool:=l7 (ilt a1 a0) (some true) (some (ilt a0 (G5 .i64 0 a1)))
def s36:FSpec:=mkS c7G c9q fun x=>oq x.1 x.2
def b3p:List MG:=[uiM,uiM,uiM]
def b6Z:Ret:=⟨[(.tmp 6,uiM),(.tmp 7,uiM)],[]⟩
def d8U:Env:=⟨33,eqs,tt,gl,[(35,s35),(36,s36),(316,a6p)],[],[],[],[]⟩
def c6l:Ann:=.leaf
def Ez (a0:Int) (a1:Int) (a2:Int):Option o9:=l9 (uu a2) fun x=>l7 (D6 x) (some (0,1)) (l9
 (oq a0 1000000000) fun x=>l7 x (some (0,3)) (l9 (oq a1 1000000000) fun x=>l7 x (some (0,3)) (l9
 (aV (L9 .i64 a0 a1) 1000000 a2) fun x=>l7 (D6 (ieq x.2 0)) (some (0,x.2)) (l9 (oq x.1
 1000000000) fun x_1=>l7 x_1 (some (0,3)) (some (x.1,0))))))
def d2G:FSpec:=mkS b3p b6Z fun x=>Ez x.1 x.2.1 x.2.2
def b3q:List MG:=[uiM,uiM,uiM]
def b7a:Ret:=⟨[(.tmp 6,uiM),(.tmp 7,uiM)],[]⟩
def d8V:Env:=⟨38,eqs,tt,gl,[(331,a9y),(332,a9z),(316,a6p)],[],[],[],[]⟩
def c6m:Ann:=.leaf
def qy (a0:Int) (a1:Int) (a2:Int):Option o9:=l9 (jy a2) fun x=>l7 (D6 x) (some (0,1))
 (l7 (ilt a1 1) (some (0,12)) (l9 (fQ a0 1000000000000000) fun x=>l7 x (some (0,3)) (l7 (ilt 1000000000000000 a1)
 (some (0,3)) (l9 (aV a0 a1 a2) fun x=>l7 (D6 (ieq x.2 0)) (some (0,x.2)) (l9 (fQ (L9 .i64
 x.1 a1) 1000000000000000) fun x_1=>l7 x_1 (some (0,3)) (some (L9 .i64 x.1 a1,0)))))))
def d2H:FSpec:=mkS b3q b7a fun x=>qy x.1 x.2.1 x.2.2
def c7I:List MG:=[(false,(.dat (.int .u64))),(false,(.dat (.int .u64))),(false,(.dat (.int .u64))),ubM,uiM]
def c9s:Ret:=⟨[(.tmp 10,ubM)],[]⟩
def e39:Env:=⟨49,eqs,tt,gl,[],[],[],[],[]⟩
def d4z:Ann:=.leaf
def wu (a0:Int) (a1:Int) (a2:Int) (a3:Bool) (a4:Int):Option Bool:=l7 (ieq a1 0) (some false) (l7 (ieq a4 0) (some a3)
 (l7 (ieq a4 1) (some (D6 a3)) (l7 (ieq a4 3) (some true) (l7 (ieq a4 4) (some (ile (G5 .u64 a2 a1) a1)) (l7 (ieq a4 5) (l7
 (ilt (G5 .u64 a2 a1) a1) (some true) (l7 (ieq a1 (G5 .u64 a2 a1)) (some (ieq (V6 a0 2) 1)) (some false))) (some false))))))
def s39:FSpec:=mkS c7I c9s fun x=>wu x.1 x.2.1 x.2.2.1 x.2.2.2.1 x.2.2.2.2
def c7v:List MG:=[uiM,uiM,uiM]
def c9f:Ret:=⟨[(.tmp 6,uiM),(.tmp 7,uiM)],[]⟩
def e25:Env:=⟨73,eqs,tt,gl,[(35,s35),(36,s36),(37,s37),(38,s38),(39,s39)],[],[],[],[]⟩
def d4m:Ann:=.leaf
def kX (a0:Int) (a1:Int) (a2:Int):Option o9:=l9 (uu a2) fun x=>l7 (D6 x) (some (0,1))
 (l7 (ieq a1 0) (some (0,12)) (l9 (oq a0 1000000000000000) fun x=>l7 x (some (0,3)) (l9 (oq a1
 1000000000000000) fun x=>l7 x (some (0,3)) (l9 (kM (wrap .u64 (fO a0 (G5 .i64 0 a0))) 1000000) fun(x:
 o9)=>l7 (ile (wrap .u64 (fO a1 (G5 .i64 0 a1))) x.1) (some (0,3)) (l9 (eF x.1 x.2 (wrap .u64
 (fO a1 (G5 .i64 0 a1)))) fun x=>l7 (ilt 1000000000 x.1) (some (0,3)) (l9 (wu x.1 x.2 (wrap .u64
 (fO a1 (G5 .i64 0 a1))) (D6 (bZ (ilt a0 0) (ilt a1 0))) a2) fun x_1=>l7 x_1 (l7 (ilt 1000000000 (x9 .i64
 (wrap .i64 x.1) 1)) (some (0,3)) (l7 (D6 (bZ (ilt a0 0) (ilt a1 0))) (some (G5 .i64 0 (x9 .i64 (wrap .i64
 x.1) 1),0)) (some (x9 .i64 (wrap .i64 x.1) 1,0)))) (l7 (ilt 1000000000 (wrap .i64 x.1)) (some (0,3)) (l7 (D6 (bZ
 (ilt a0 0) (ilt a1 0))) (some (G5 .i64 0 (wrap .i64 x.1),0)) (some (wrap .i64 x.1,0))))))))))
def s25:FSpec:=mkS c7v c9f fun x=>kX x.1 x.2.1 x.2.2
def b2N:List MG:=[(true,(.dat y2)),(true,(.dat y3)),(true,(.dat y3))]
def b6x:Ret:=⟨[(.cell 6 67,(true,(.dat y3))),(.tmp 7,uiM)],[]⟩
def d8s:Env:=⟨105,eqs,tt,gl,[(320,d2E),(321,d2F),(322,d2G),(323,d2H),(316,a6p),(25,s25)],[],[],[],[]⟩
def c5H:Ann:=.seq lfA (.seq lfA (.seq (.blk (.seq lfA (.cond lfA (.seq (.join [(38,47)] ⟨[(38,ubM)],[]⟩ lfA) lfA)))) lfA))
def rX (a0:o9) (a1:F7) (a2:F7):Option (F7×Int):=l7 (ieq a0.1 13) (l9 (oQ a1.2.2 a2.2.2) fun(x
 :o9)=>some ((a1.1,0,x.1),x.2)) (l9 (l7 (ieq a0.1 14) (some (ieq a1.1 3)) (some false)) fun x=>l7 x (l9
 (yQ a1.2.2 a2.2.2 a0.2) fun x=>some ((a1.1,0,x.1),x.2)) (l7 (ieq a0.1 14) (l9 (Ez a1.2.2 a2.2.2 a0.2) fun(x:
 o9)=>some ((a1.1,0,x.1),x.2)) (l7 (ieq a0.1 16) (l9 (qy a1.2.2 a2.2.2 a0.2) fun x=>some ((a1.1,0,x.1),
 x.2)) (l7 (ieq a2.1 2) (l9 (aV a1.2.2 a2.2.2 a0.2) fun x=>some ((a1.1,0,x.1),x.2)) (l9 (kX a1.2.2
 a2.2.2 a0.2) fun x=>some ((4,0,x.1),x.2))))))
def d2s:FSpec:=mkS b2N b6x fun x=>rX x.1 x.2.1 x.2.2
def b3r:List MG:=[uiM,uiM,uiM]
def b7b:Ret:=⟨[(.tmp 6,uiM),(.tmp 7,uiM)],[]⟩
def d8W:Env:=⟨53,eqs,tt,gl,[(319,a9w),(318,b9J)],[],[],[],[]⟩
def c6n:Ann:=.seq lfA (.seq (.joinR [(6,8),(10,35)] ⟨[],[]⟩ lfA) (.seq lfA (.seq (.seq lfA (.blk (.loop [(8,10),(39,49)] ⟨[(8,uiM),(39,uiM)],[]⟩ 0 ⟨[(8,uiM)],[]⟩ lfA))) lfA)))
def xu (a0:Int) (a1:Int) (a2:Int):Option o9:=l9 (l7 (ilt a0 1900) (some (.inr (0,3))) (l7 (ilt 2199 a0) (some
 (.inr (0,3))) (l7 (ilt a1 1) (some (.inr (0,3))) (l7 (ilt 12 a1) (some (.inr (0,3))) (l7 (ilt a2 1) (some (.inr (0,3)))
 (l9 (bi a0 a1) fun x=>l7 (ilt x a2) (some (.inr (0,3))) (some (.inl ())))))))) fun o=>J9 o (fun(x:PUnit)=>l9 (iR a0) fun x=>l9 (P5 (fun(x:o9)=>l7 (ilt x.2 (G5
 .i64 a1 1)) (l9 (bi a0 (x9 .i64 x.2 1)) fun x_1=>some (.inl (x9 .i64 x.1 x_1,x9 .i64
 x.2 1))) (some (.inr x.1))) (x,0)) fun y=>some (G5 .i64 (x9 .i64 y a2) 1,0)) fun r=>some r
def d2I:FSpec:=mkS b3r b7b fun x=>xu x.1 x.2.1 x.2.2
def b2O:List MG:=[uiM,uiM]
def b6y:Ret:=⟨[(.tmp 4,uiM),(.tmp 5,uiM)],[]⟩
def d8t:Env:=⟨57,eqs,tt,gl,[(317,a9v),(291,a9r),(319,a9w),(324,d2I)],[],[],[],[]⟩
def c5I:Ann:=.seq lfA (.seq (.joinR [(4,6),(10,21)] ⟨[],[]⟩ lfA) lfA)
def kN (a0:Int) (a1:Int):Option o9:=l9 (l9 (nU a0) fun x=>l7 (D6 x) (some (.inr (0,3)))
 (l7 (ilt a1 (-3600)) (some (.inr (0,3))) (l7 (ilt 3600 a1) (some (.inr (0,3))) (some (.inl ()))))) fun o=>J9 o (fun(x:PUnit)=>l9 (nR a0) fun x=>l7 (ilt (x9 .i64 (G5 .i64 (x9 .i64
 (L9 .i64 (G5 .i64 x.1 1900) 12) x.2.1) 1) a1) 0) (some (0,3)) (l7 (ilt 3599 (x9 .i64 (G5 .i64 (x9
 .i64 (L9 .i64 (G5 .i64 x.1 1900) 12) x.2.1) 1) a1)) (some (0,3)) (l9 (bi (x9 .i64 1900 (V5
 .i64 (x9 .i64 (G5 .i64 (x9 .i64 (L9 .i64 (G5 .i64 x.1 1900) 12) x.2.1) 1) a1) 12)) (x9
 .i64 (V6 (x9 .i64 (G5 .i64 (x9 .i64 (L9 .i64 (G5 .i64 x.1 1900) 12) x.2.1) 1) a1) 12) 1)) fun
 (x_1:Int)=>l9 (xu (x9 .i64 1900 (V5 .i64 (x9 .i64 (G5 .i64 (x9 .i64 (L9 .i64
 (G5 .i64 x.1 1900) 12) x.2.1) 1) a1) 12)) (x9 .i64 (V6 (x9 .i64 (G5 .i64 (x9 .i64 (L9 .i64
 (G5 .i64 x.1 1900) 12) x.2.1) 1) a1) 12) 1) (eX x.2.2 x_1)) fun x=>some x))) fun r=>some r
def b9F:FSpec:=mkS b2O b6y fun x=>kN x.1 x.2
def b2P:List MG:=[uiM,uiM]
def b6z:Ret:=⟨[(.tmp 4,uiM)],[]⟩
def d8u:Env:=⟨60,eqs,tt,gl,[(317,a9v),(291,a9r),(293,b9F)],[],[],[],[]⟩
def c5J:Ann:=.leaf
def gK (a0:Int) (a1:Int):Option Int:=l9 (nU a0) fun x=>l7 (D6 x) (some 0) (l9 (nU a1) fun
 (x:Bool)=>l7 (D6 x) (some 0) (l7 (ilt a1 a0) (some 0) (l9 (nR a0) fun x=>l9 (nR a1) fun x_1
 =>l9 (kN a0 (L9 .i64 12 (G5 .i64 x_1.1 x.1))) fun x_2=>l7 (D6 (ieq x_2.2 0)) (some (fO (G5
 .i64 (G5 .i64 x_1.1 x.1) 1) 0)) (l7 (ilt a1 x_2.1) (some (fO (G5 .i64 (G5 .i64 x_1.1 x.1) 1) 0)) (some (fO
 (G5 .i64 x_1.1 x.1) 0))))))
def d2t:FSpec:=mkS b2P b6z fun x=>gK x.1 x.2
def b2j:List MG:=[(true,(.dat y2)),(true,(.dat y3)),(true,(.dat y3))]
def b5T:Ret:=⟨[(.cell 6 67,(true,(.dat y3))),(.tmp 7,uiM)],[]⟩
def d7O:Env:=⟨139,eqs,tt,gl,[(292,d2s),(290,b9E),(293,b9F),(294,d2t)],[],[],[],[]⟩
def c5c:Ann:=.seq lfA (.seq (.joinR [(6,133),(4000384,4000385)] ⟨[(6,(false,(.box (.dat y3))))],[]⟩ (.seq lfA (.blk (.seq (.join [(12,15)] ⟨[(12,ubM)],[]⟩ lfA) (.cond lfA (.seq lfA (.cond lfA (.seq (.join [(33,38)] ⟨[(33,ubM)],[]⟩ lfA) (.cond lfA (.seq (.join [(44,47)] ⟨[(44,ubM)],[]⟩ lfA) lfA)))))))))) lfA)
def bV (a0:o9) (a1:F7) (a2:F7):Option (F7×Int):=l9 (l9 (l7 (ieq a0.1 11) (some (ieq a0.1 11)) (some
 (ieq a0.1 27))) fun x=>l7 x (some (.inr ((a1.1,0,x9 .i64 a1.2.2 a2.2.2),0))) (l7 (ieq a0.1 12) (some (.inr ((a1.1,
 0,G5 .i64 a1.2.2 a2.2.2),0))) (l9 (l7 (ieq a0.1 13) (some (ieq a0.1 13)) (l7 (ieq a0.1 14) (some (ieq a0.1 14)) (l7 (ieq a0.1
 15) (some (ieq a0.1 15)) (some (ieq a0.1 16))))) fun x=>l7 x (l9 (rX a0 a1 a2) fun x=>some (.inr x))
 (l9 (l7 (ieq a0.1 17) (some (ieq a0.1 17)) (some (ieq a0.1 18))) fun x=>l7 x (l7 (bZ (ieq a0.1 17) (ilt a2.2.2 a1.2.2))
 (some (.inr (a2,0))) (some (.inr (a1,0)))) (l7 (ieq a0.1 19) (l9 (iT (ieq a1.2.2 a2.2.2)) fun x=>some (.inr (x,
 0))) (l7 (ieq a0.1 20) (l9 (iT (D6 (ieq a1.2.2 a2.2.2))) fun x=>some (.inr (x,0))) (l7 (ieq a0.1 21) (l9
 (iT (ilt a1.2.2 a2.2.2)) fun x=>some (.inr (x,0))) (l7 (ieq a0.1 22) (l9 (iT (ile a1.2.2 a2.2.2)) fun(x:
 F7)=>some (.inr (x,0))) (l7 (ieq a0.1 23) (l7 (ieq a1.2.2 1) (l9 (iT (ieq a2.2.2 1)) fun x=>some (.inr (x,
 0))) (l9 (iT false) fun x=>some (.inr (x,0)))) (l7 (ieq a0.1 24) (l7 (ieq a1.2.2 1) (l9 (iT true) fun(x
 :F7)=>some (.inr (x,0))) (l9 (iT (ieq a2.2.2 1)) fun x=>some (.inr (x,0)))) (l7 (ieq a0.1 28) (l9
 (kN a1.2.2 a2.2.2) fun x=>some (.inr ((5,0,x.1),x.2))) (l7 (ieq a0.1 29) (some (.inr ((2,0,G5 .i64
 a2.2.2 a1.2.2),0))) (some (.inl (0,0,0))))))))))))))) fun o=>J9 o (fun(x:F7)=>l9 (gK
 a1.2.2 a2.2.2) fun x=>some ((2,0,x),0)) fun r=>some r
def d1Y:FSpec:=mkS b2j b5T fun x=>bV x.1 x.2.1 x.2.2
def b1F:List MG:=[(true,(.dat y2)),(false,(.dat y28)),(true,(.dat y42))]
def b5p:Ret:=⟨[(.cell 6 67,(true,(.dat y3))),(.tmp 7,uiM)],[]⟩
def d7i:Env:=⟨165,eqs,tt,gl,[(252,d1U),(253,d1V),(254,d1W),(255,d1X),(256,d1Y)],[],[],[],[]⟩
def c4t:Ann:=.seq lfA (.seq (.joinR [(6,132),(4000384,4000385)] ⟨[(6,(false,(.box (.dat y3))))],[]⟩ (.seq lfA (.blk (.seq (.join [(15,21)] ⟨[(15,ubM)],[]⟩ lfA) (.cond lfA (.seq lfA (.cond lfA (.seq lfA (.cond lfA (.seq lfA (.cond lfA (.seq lfA (.cond lfA (.seq lfA (.cond lfA (.seq (.join [(62,67)] ⟨[(62,ubM)],[]⟩ lfA) lfA)))))))))))))))) lfA)
def O0 (a0:o9) (a1:List F7) (a2:P9):Option (F7×Int):=l9 (l9 (l7 (ieq a0.1 1) (some (ieq a0.1 1))
 (l7 (ieq a0.1 2) (some (ieq a0.1 2)) (l7 (ieq a0.1 3) (some (ieq a0.1 3)) (l7 (ieq a0.1 4) (some (ieq a0.1 4)) (some (ieq a0.1 5)))))) fun
 (x:Bool)=>l7 x (some (.inr ((a0.1,0,a0.2),0))) (l7 (ieq a0.1 6) (some (.inr ((6,V5 .i64 a0.2 16,V6 a0.2 16),0)))
 (l7 (ieq a0.1 7) (l9 (lat a2.2.1 a0.2) fun x=>some (.inr (x,0))) (l7 (ieq a0.1 8) (l9 (lat a2.2.2.1 a0.2) fun(x:
 F7)=>some (.inr (x,0))) (l7 (ieq a0.1 9) (some (.inr ((5,0,a2.1),0))) (l7 (ieq a0.1 35) (some (.inr ((2,0,o8
 a2.2.2.2.1),0))) (l9 (l7 (ieq a0.1 36) (some (ieq a0.1 36)) (l7 (ieq a0.1 37) (some (ieq a0.1 37)) (l7 (ieq a0.1 38) (some (ieq a0.1
 38)) (some (ieq a0.1 39))))) fun x=>l7 x (l9 (kQ a0 a2) fun x=>some (.inr x)) (l7 (ieq a0.1
 33) (l9 (lat a2.2.2.2.2.2 a0.2) fun x=>l9 (lat a1 0) fun x_1=>l9 (xX x a2.1 x_1.2.2) fun x_2=>l7 (D6 x_2.2) (some (.inr ((0,0,0),6))) (l9 (lat x.2.2.2 x_2.1) fun x_3=>some (.inr ((x.2.2.1.1,x.2.2.1.2,
 x_3.2.2.2),0)))) (l7 (ieq a0.1 34) (l9 (lat a2.2.2.2.2.2 (V5 .i64 a0.2 8)) fun x=>l9 (lat a1 0) fun x_1=>
 l9 (uI x a2.1 x_1.2.2 (V6 a0.2 8)) fun x=>some (.inr ((3,0,x.1),x.2))) (some (.inl (0,0,0)))))))))))) fun
 (o:F7⊕F7×Int)=>J9 o (fun(x:F7)=>l7 (ieq (o8 a1) 1) (l9 (lat a1 0) fun x=>l9 (yF a0.1 x)
 fun x=>some (x,0)) (l7 (ieq (o8 a1) 2) (l9 (lat a1 0) fun x=>l9 (lat a1 1) fun x_1=>l9
 (bV a0 x x_1) fun x=>some x) (l9 (lat a1 0) fun x=>l7 (ieq x.2.2 1) (l9 (lat a1 1) fun x
 =>some (x,0)) (l9 (lat a1 2) fun x=>some (x,0))))) fun r=>some r
def d1C:FSpec:=mkS b1F b5p fun x=>O0 x.1 x.2.1 x.2.2
def b1m:List MG:=[(true,(.dat y2)),(false,(.dat y28)),(true,(.dat y42))]
def b4V:Ret:=⟨[(.cell 6 67,(true,(.dat y3))),(.tmp 7,uiM)],[]⟩
def d6M:Env:=⟨54,eqs,tt,gl,[(213,d1y),(199,a3j),(214,d1z),(215,d1A),(216,d1B),(217,d1C),(218,YT)],[],[],[],[]⟩
def c3X:Ann:=.seq lfA (.seq (.joinR [(6,8),(10,22),(4000384,4000385)] ⟨[(6,(false,(.box (.dat y3))))],[]⟩ lfA) lfA)
def rF (a0:o9) (a1:List F7) (a2:P9):Option (F7×Int):=l9 (l9 (jr a0) fun x=>l7
 (D6 x) (some (.inr ((0,0,0),2))) (l9 (gV a0.1) fun x=>l7 (D6 (ieq (o8 a1) x)) (some (.inr ((0,0,0),2)))
 (some (.inl (0,0,0))))) fun o=>J9 o (fun(x:F7)=>l9 (aT a0 a2) fun x=>l7 (D6
 x) (some ((0,0,0),6)) (l9 (ng a1) fun x=>l7 (D6 x) (some ((0,0,0),8)) (l9 (N9 a0 a1 a2) fun(x:
 Bool)=>l7 (D6 x) (some ((0,0,0),8)) (l9 (O0 a0 a1 a2) fun x=>l7 (D6 (ieq x.2 0)) (some ((0,0,0),
 x.2)) (l9 (af x.1) fun x_1=>l7 (D6 x_1) (some ((0,0,0),3)) (some (x.1,0))))))) fun r=>some r
def d1k:FSpec:=mkS b1m b4V fun x=>rF x.1 x.2.1 x.2.2
def a5l:List MG:=[(true,(.dat y53)),uiM]
def SK:List MG:=[(true,(.dat y53)),uiM]
def a5j:List MG:=[(true,(.dat y53)),(true,(.dat y2)),(false,(.dat y33))]
def c8Y:Ret:=⟨[(.cell 4 67,(true,(.dat y3))),(.tmp 5,uiM)],[]⟩
def d7d (r212:M.den (.dat y53)→M.den diM→Option (S9 ([(true,(.dat y3)),uiM]++[]))) (r149:M.den (.dat y53)→M.den diM→Option (S9 ([(true,(.dat y3)),uiM]++[]))) (r183:M.den (.dat y53)→M.den (.dat y2)→M.den (.dat y33)→Option (S9 ([(true,(.dat y3)),uiM]++[]))):Env:=⟨28,eqs,tt,gl,[(149,⟨SK,[(true,(.dat y3)),uiM],[],fun x=>r149 x.1 x.2⟩),(218,YT)],[],[],[],[]⟩
def c4o:Ann:=.leaf
def iE (r212:O7→Int→Option (F7×Int)) (r149:O7→Int→Option (F7×Int)) (r183:
 O7→o9→List Int→Option (F7×Int)) (a0:O7) (a1:Int):Option (F7×Int):=l9 (r149 a0 a1) fun
 (x:F7×Int)=>l7 (D6 (ieq x.2 0)) (some ((0,0,0),x.2)) (l7 (D6 (ieq x.1.1 1)) (some ((0,0,0),8)) (l9 (af x.1)
 fun x_1=>l7 (D6 x_1) (some ((0,0,0),8)) (some (x.1,0))))
def b4w:Ret:=⟨[(.cell 4 67,(true,(.dat y3))),(.tmp 5,uiM)],[]⟩
def d6m (r212:M.den (.dat y53)→M.den diM→Option (S9 ([(true,(.dat y3)),uiM]++[]))) (r149:M.den (.dat y53)→M.den diM→Option (S9 ([(true,(.dat y3)),uiM]++[]))) (r183:M.den (.dat y53)→M.den (.dat y2)→M.den (.dat y33)→Option (S9 ([(true,(.dat y3)),uiM]++[]))):Env:=⟨65,eqs,tt,gl,[(182,d1j),(183,⟨a5j,[(true,(.dat y3)),uiM],[],fun x=>r183 x.1 x.2.1 x.2.2⟩),(149,⟨SK,[(true,(.dat y3)),uiM],[],fun x=>r149 x.1 x.2⟩),(184,d1k)],[],[],[],[]⟩
def c3u:Ann:=.seq lfA (.seq lfA (.seq lfA (.seq (.joinR [(4,6),(21,33),(4000256,4000257)] ⟨[(4,(false,(.box (.dat y3))))],[]⟩ lfA) (.seq lfA (.seq (.seq lfA (.blk (.loopR [(4,6),(8,13),(38,58),(12000000,12000001),(37002240,37002241)] ⟨[(4,(false,(.box (.dat y3)))),(8,(false,(.own y3))),(38,uiM)],[]⟩ 1 ⟨[(4,(false,(.box (.dat y3)))),(8,(false,(.own y3)))],[]⟩ lfA))) lfA)))))
def jV (r212:O7→Int→Option (F7×Int)) (r149:O7→Int→Option (F7×Int)) (r183:
 O7→o9→List Int→Option (F7×Int)) (a0:O7) (a1:Int):Option (F7×Int):=l9 (lat a0.1 a1) fun
 (x:o9)=>l9 (dI a0 a1) fun x_1=>l9 (l7 (ieq x.1 23) (l7 (ieq x.1 23) (l9 (r183 a0 x x_1)
 fun x=>some (.inr x)) (some (.inl (0,0,0)))) (l7 (ieq x.1 24) (l7 (ieq x.1 24) (l9 (r183 a0 x x_1) fun(x:
 F7×Int)=>some (.inr x)) (some (.inl (0,0,0)))) (l7 (ieq x.1 26) (l9 (r183 a0 x x_1) fun x=>some (.inr x))
 (some (.inl (0,0,0)))))) fun o=>J9 o (fun(x_2:F7)=>l9 (iU (o8 x_1) (0,0,0)) fun x_3=>l9 (J7 (fun(x:F7×List F7×Int)=>l7 (ilt x.2.2 (o8 x_1)) (l9 (lat x_1 x.2.2) fun x_4=>l9 (J4
 x_1 (toN x.2.2)) fun x_5=>l9 (r149 a0 x_5) fun x_6=>l7 (D6 (ieq x_6.2 0)) (some (.rt ((0,0,0),x_6.2)))
 (l9 (lat x.2.1 x.2.2) fun x_7=>l9 (J4 x.2.1 (toN x.2.2)) fun x_8=>some (.nx (x.1,P6 x.2.1 (toN x.2.2) x_6.1,
 x9 .i64 x.2.2 1)))) (some (.ex (x.1,x.2.1)))) (x_2,x_3,0)) fun o=>J9 o (fun(y:F7×
 List F7)=>l9 (rF x y.2 a0.2.2) fun x=>some x) fun r=>some r) fun r=>some r
def c8T:Ret:=⟨[(.cell 6 67,(true,(.dat y3))),(.tmp 7,uiM)],[]⟩
def d6L (r212:M.den (.dat y53)→M.den diM→Option (S9 ([(true,(.dat y3)),uiM]++[]))) (r149:M.den (.dat y53)→M.den diM→Option (S9 ([(true,(.dat y3)),uiM]++[]))) (r183:M.den (.dat y53)→M.den (.dat y2)→M.den (.dat y33)→Option (S9 ([(true,(.dat y3)),uiM]++[]))):Env:=⟨69,eqs,tt,gl,[(212,⟨a5l,[(true,(.dat y3)),uiM],[],fun x=>r212 x.1 x.2⟩),(149,⟨SK,[(true,(.dat y3)),uiM],[],fun x=>r149 x.1 x.2⟩)],[],[],[],[]⟩
def c3W:Ann:=.seq lfA (.seq lfA (.seq lfA (.seq lfA (.seq (.blk (.seq (.join [(26,35)] ⟨[(26,ubM)],[]⟩ lfA) lfA)) lfA))))
def fJ (r212:O7→Int→Option (F7×Int)) (r149:O7→Int→Option (F7×Int)) (r183:
 O7→o9→List Int→Option (F7×Int)) (a0:O7) (a1:o9) (a2:List Int):Option (F7×Int):=
 l7 (D6 (ieq a1.2 0)) (some ((0,0,0),2)) (l9 (lat a2 0) fun x=>l9 (r212 a0 x) fun x=>l7 (D6 (ieq x.2
 0)) (some ((0,0,0),x.2)) (l9 (l7 (ieq a1.1 26) (some (ieq x.1.2.2 1)) (some false)) fun x_1=>l7 x_1 (l9 (lat a2 1) fun(x:
 Int)=>l9 (r149 a0 x) fun x=>some x) (l7 (ieq a1.1 26) (l9 (lat a2 2) fun x=>l9 (r149 a0 x) fun x=>some x) (l7 (bZ (ieq a1.1 23) (ieq x.1.2.2 0)) (some (x.1,0)) (l9 (lat a2 1) fun x=>l9 (r212 a0 x) fun x=>some x)))))
def C9:Nat→(M.den (.dat y53)→M.den diM→Option (S9 ([(true,(.dat y3)),uiM]++[])))×(M.den (.dat y53)→M.den diM→Option (S9 ([(true,(.dat y3)),uiM]++[])))×(M.den (.dat y53)→M.den (.dat y2)→M.den (.dat y33)→Option (S9 ([(true,(.dat y3)),uiM]++[])))
 | 0=>(fun a0 a1=>none,fun a0 a1=>none,fun a0 a1 a2=>none)
 | n+1=>(fun a0 a1=>iE (C9 n).1 (C9 n).2.1 (C9 n).2.2 a0 a1,fun a0 a1=>jV (C9 n).1 (C9 n).2.1 (C9 n).2.2 a0 a1,fun a0 a1 a2=>fJ (C9 n).1 (C9 n).2.1 (C9 n).2.2 a0 a1 a2)
def qg:M.den (.dat y53)→M.den diM→Option (S9 ([(true,(.dat y3)),uiM]++[])):=fun a0 a1=>(C9 bK).2.1 a0 a1
def d0Q:FSpec:=mkS SK b4w fun x=>qg x.1 x.2
def b0n:List MG:=[(false,(.dat y12)),(true,(.dat y42))]
def b3U:Ret:=⟨[(.cell 4 67,(true,(.dat y3))),(.tmp 5,uiM)],[]⟩
def d5K:Env:=⟨27,eqs,tt,gl,[(148,d0P),(149,d0Q)],[],[],[],[]⟩
def c2Q:Ann:=.leaf
def Bc (a0:List o9) (a1:P9):Option (F7×Int):=l9 (Eb a0) fun x=>l7 (D6 (ieq x.2 0))
 (some ((0,0,0),x.2)) (l9 (qg (a0,x.1,a1) (G5 .i64 (o8 a0) 1)) fun x=>some x)
def b9j:FSpec:=mkS b0n b3U fun x=>Bc x.1 x.2
def b1h:List MG:=[(false,(.dat y33)),(false,(.dat y33))]
def b4Q:Ret:=⟨[(.tmp 4,uiM)],[]⟩
def d6G:Env:=⟨42,eqs,tt,gl,[],[],[],[],[]⟩
def c3Q:Ann:=.seq lfA (.seq lfA (.seq lfA (.seq (.seq lfA (.blk (.loopR [(4,7),(17,42)] ⟨[(17,uiM)],[]⟩ 0 ⟨[],[]⟩ lfA))) lfA)))
def ny (a0:List Int) (a1:List Int):Option Int:=l7 (D6 (ieq (o8 a0) (o8 a1))) (some 2) (l7 (ilt 8 (o8 a0)) (some
 4) (l9 (J7 (fun(x:Int)=>l7 (ilt x (o8 a0)) (l9 (lat a0 x) fun x_1=>l7 (ilt x_1 (-1)) (some (.rt 9)) (l7 (ile x
 x_1) (some (.rt 9)) (l9 (lat a1 x) fun x_2=>l7 (ilt x_2 0) (some (.rt 3)) (l9 (lat a1 x) fun x_3=>l7 (ilt 9
 x_3) (some (.rt 3)) (some (.nx (x9 .i64 x 1))))))) (some (.ex ()))) 0) fun o=>J9 o (fun(y:PUnit)=>
 some 0) fun r=>some r))
def d1h:FSpec:=mkS b1h b4Q fun x=>ny x.1 x.2
def b1Z:List MG:=[(false,(.dat y33)),uiM]
def b5J:Ret:=⟨[(.tmp 4,uoM)],[]⟩
def d7E:Env:=⟨24,eqs,tt,gl,[],[],[],[],[]⟩
def c4R:Ann:=.seq lfA (.seq lfA (.seq (.seq lfA (.blk (.loop [(5,8),(10,23)] ⟨[(5,uoM),(10,uiM)],[]⟩ 0 ⟨[(5,uoM)],[]⟩ lfA))) lfA))
def jQ (a0:List Int) (a1:Int):Option (List Int):=l9 (P5 (fun(x:List Int×Int)=>l7 (ilt x.2 (o8 a0)) (l9
 (lat a0 x.2) fun x_1=>l7 (ieq x_1 a1) (l9 (X9 x.1 [x.2]) fun x_2=>some (.inl (x_2,x9 .i64 x.2 1)))
 (some (.inl (x.1,x9 .i64 x.2 1)))) (some (.inr x.1))) ([],0)) fun y=>some y
def d1Q:FSpec:=mkS b1Z b5J fun x=>jQ x.1 x.2
def b1A:List MG:=[(true,(.dat y55)),uiM]
def b5k:Ret:=⟨[(.tmp 4,uoM)],[]⟩
def d7c:Env:=⟨67,eqs,tt,gl,[(246,d1Q)],[],[],[],[]⟩
def c4n:Ann:=.seq lfA (.seq lfA (.seq (.seq lfA (.blk (.loop [(5,6),(7,8),(13,66)] ⟨[(5,uoM),(13,uiM)],[]⟩ 0 ⟨[(5,uoM)],[]⟩ (.seq lfA (.seq lfA (.seq (.blk (.seq lfA (.seq lfA (.seq (.join [(5,6),(23,43),(14000000,14000001)] ⟨[(5,uoM)],[]⟩ lfA) lfA)))) lfA)))))) lfA))
def lV (a0:X3) (a1:Int):Option (List Int):=l9 (jQ a0.1 a1) fun x=>l9 (P5
 (fun(x_1:List Int×Int)=>l7 (ilt x_1.2 (o8 x)) (l9 (lat x x_1.2) fun x_2=>l9 (J4 x (toN x_1.2)) fun x=>l9
 (lat a0.2.2 x) fun x_3=>l7 (ieq x_3 (-1)) (some (.inl (x_1.1,x9 .i64 x_1.2 1))) (l9 (l7 (ilt 0 (o8 x_1.1)) (l9
 (lat a0.2.1 x) fun x=>l9 (lat x_1.1 0) fun x_4=>l9 (J4 x_1.1 (toN 0)) fun x_5=>l9 (lat a0.2.1 x_5) fun(x_6
 :Int)=>l7 (ilt x_6 x) (l7 (ja 0 0 (o8 x_1.1)) (some (gq x_1.1 (toN 0) (toN 0))) none) (some x_1.1)) (some x_1.1)) fun x_4=>l7 (ieq (o8 x_4) 0) (l9 (X9 x_4 [x]) fun x=>some (.inl (x,x9 .i64 x_1.2 1))) (l9 (lat a0.2.1 x) fun
 (x_5:Int)=>l9 (lat x_4 0) fun x_6=>l9 (J4 x_4 (toN 0)) fun x_7=>l9 (lat a0.2.1 x_7) fun x_8=>l7 (ieq
 x_5 x_8) (l9 (X9 x_4 [x]) fun x=>some (.inl (x,x9 .i64 x_1.2 1))) (some (.inl (x_4,x9 .i64 x_1.2
 1)))))) (some (.inr x_1.1))) ([],0)) fun y=>some y
def d1x:FSpec:=mkS b1A b5k fun x=>lV x.1 x.2
def b1j:List MG:=[(true,(.dat y55)),uiM]
def b4S:Ret:=⟨[(.tmp 4,uiM)],[]⟩
def d6I:Env:=⟨22,eqs,tt,gl,[(211,d1x)],[],[],[],[]⟩
def c3S:Ann:=.leaf
def aI (a0:X3) (a1:Int):Option Int:=l9 (lV a0 a1) fun x=>l7 (ieq (o8
 x) 0) (some (-1)) (l7 (ieq (o8 x) 1) (l9 (lat x 0) fun x_1=>l9 (J4 x (toN 0)) fun x=>l9 (lat a0.2.2 x) fun(x:
 Int)=>some x) (some (-2)))
def b9s:FSpec:=mkS b1j b4S fun x=>aI x.1 x.2
def b1i:List MG:=[(false,(.dat y33)),(false,(.dat y33)),(false,(.dat (.sl .bool)))]
def b4R:Ret:=⟨[(.tmp 6,uoM)],[]⟩
def d6H:Env:=⟨48,eqs,tt,gl,[(180,b9s)],[],[],[],[]⟩
def c3R:Ann:=.seq lfA (.seq lfA (.seq (.seq lfA (.blk (.loop [(7,9),(18,46),(7000448,7000449),(7000832,7000833)] ⟨[(7,(false,(.box (.pair (.dat y33) (.pair (.dat y33) oiM))))),(8,uiM)],[]⟩ 0 ⟨[(7,(false,(.box (.pair (.dat y33) (.pair (.dat y33) oiM)))))],[]⟩ lfA))) lfA))
def nz (a0:List Int) (a1:List Int) (a2:List Bool):Option (List Int):=l9 (iU (o8 a0) 0) fun x=>l9
 (P5 (fun(x:X3×Int)=>l7 (ile 0 x.2) (l9 (aI x.1 x.2) fun x_1=>l9 (lat x.1.2.2 x.2) fun
 (x_2:Int)=>l9 (J4 x.1.2.2 (toN x.2)) fun x_3=>l9 (lat (P6 x.1.2.2 (toN x.2) x_1) x.2) fun x_4=>l9 (J4 (P6
 x.1.2.2 (toN x.2) x_1) (toN x.2)) fun x_5=>l7 (ieq x_5 (-1)) (l9 (lat a2 x.2) fun x_6=>l7 x_6 (l9 (lat (P6 x.1.2.2
 (toN x.2) x_1) x.2) fun x_7=>l9 (J4 (P6 x.1.2.2 (toN x.2) x_1) (toN x.2)) fun x_8=>some (.inl ((x.1.1,x.1.2.1,P6
 (P6 x.1.2.2 (toN x.2) x_1) (toN x.2) x.2),G5 .i64 x.2 1))) (some (.inl ((x.1.1,x.1.2.1,P6 x.1.2.2 (toN x.2) x_1),G5 .i64
 x.2 1)))) (some (.inl ((x.1.1,x.1.2.1,P6 x.1.2.2 (toN x.2) x_1),G5 .i64 x.2 1)))) (some (.inr x.1))) ((a0,a1,x),G5
 .i64 (o8 a0) 1)) fun y=>some y.2.2
def d1i:FSpec:=mkS b1i b4R fun x=>nz x.1 x.2.1 x.2.2
def b0N:List MG:=[(false,(.dat y33)),(false,(.dat y33)),(false,(.dat (.sl .bool)))]
def b4u:Ret:=⟨[(.tmp 6,uiM)],[]⟩
def d6k:Env:=⟨26,eqs,tt,gl,[(178,d1h),(179,d1i),(180,b9s)],[],[],[],[]⟩
def c3s:Ann:=.leaf
def rq (a0:List Int) (a1:List Int) (a2:List Bool):Option Int:=l9 (ny a0 a1) fun x=>l7 (D6 (ieq
 x 0)) (some (-1)) (l7 (D6 (ieq (o8 a2) (o8 a0))) (some (-1)) (l9 (nz a0 a1 a2) fun x=>l9
 (aI (a0,a1,x) (-1)) fun x=>some x))
def d0O:FSpec:=mkS b0N b4u fun x=>rq x.1 x.2.1 x.2.2
def b0m:List MG:=[(true,(.dat y24)),(true,(.dat y42)),uiM,uiM]
def b3T:Ret:=⟨[(.tmp 8,uiM),(.cell 9 85,(true,(.dat y32)))],[]⟩
def d5J:Env:=⟨87,eqs,tt,gl,[(146,d0N),(110,b9j),(147,d0O)],[],[],[],[]⟩
def c2P:Ann:=.seq lfA (.seq lfA (.seq lfA (.seq (.seq lfA (.blk (.loopR [(8,10),(13,18),(33,74),(4000576,4000577),(10001920,10001921)] ⟨[(9,(false,(.box (.dat y32)))),(13,(false,(.own .bool))),(33,uiM)],[]⟩ 0 ⟨[(9,(false,(.box (.dat y32)))),(13,(false,(.own .bool)))],[]⟩ lfA))) lfA)))
def qO (a0:D8) (a1:P9) (a2:Int) (a3:Int):Option (Int×A7):=l9 (oP a0 a3 a1.1) fun(x
 :X3)=>l9 (iU (o8 x.1) false) fun x_1=>l9 (J7 (fun(x_2:A7×List Bool×Int)=>l7
 (ilt x_2.2.2 (o8 x.1)) (l9 (lat x.1 x_2.2.2) fun x_3=>l9 (J4 x.1 (toN x_2.2.2)) fun x=>l9 (lat a0.2.2.2.2 x) fun
 (x_4:V9)=>l7 (ieq (o8 x_4.2.2.2.2.2.1) 0) (l9 (lat x_2.2.1 x_2.2.2) fun x=>l9 (J4 x_2.2.1 (toN x_2.2.2)) fun(x:
 Bool)=>some (.nx (x_2.1,P6 x_2.2.1 (toN x_2.2.2) true,x9 .i64 x_2.2.2 1))) (l9 (lat a0.2.2.2.2 x) fun x_5=>l9
 (Bc x_5.2.2.2.2.2.1 a1) fun x_6=>l7 (D6 (ieq x_6.2 0)) (some (.rt (0,x_6.2,a2,a3,x))) (l9 (lat x_2.2.1
 x_2.2.2) fun x=>l9 (J4 x_2.2.1 (toN x_2.2.2)) fun x=>some (.nx (x_2.1,P6 x_2.2.1 (toN x_2.2.2) (ieq x_6.1.2.2 1),
 x9 .i64 x_2.2.2 1))))) (some (.ex (x_2.1,x_2.2.1)))) ((0,0,0,0),x_1,0)) fun o=>J9 o (fun(y:A7×List Bool)=>l9 (rq x.2.1 x.2.2 y.2) fun x_2=>l7 (ilt
 x_2 0) (some (x_2,0,0,0,0)) (l9 (lat x.1 x_2) fun x_3=>l9 (J4 x.1 (toN x_2)) fun x=>some (x,0,0,0,0))) fun(r:
 Int×A7)=>some r
def d0y:FSpec:=mkS b0m b3T fun x=>qO x.1 x.2.1 x.2.2.1 x.2.2.2
def c8n:List MG:=[(true,(.dat y24)),(false,(.box (.pair diM (.pair (.dat y28) (.pair (.own y3) (.pair (.dat y29) (.pair (.dat y12) (.dat y9)))))))),uiM,(false,(.dat (.sl .bool)))]
def c9X:Ret:=⟨[(.tmp 8,uoM),(.cell 9 85,(true,(.dat y32)))],[(1,(true,(.pair diM (.pair (.dat y28) (.pair (.own y3) (.pair (.dat y29) (.pair (.dat y12) (.dat y9))))))))]⟩
def e70:Env:=⟨105,eqs,tt,gl,[(108,d0x),(109,d0y),(110,b9j)],[],[],[],[1]⟩
def d5e:Ann:=.seq lfA (.seq lfA (.seq lfA (.seq lfA (.seq (.seq lfA (.blk (.loopR [(1,2),(8,11),(14,19),(37,103),(1000000,1000001),(4000576,4000577),(7001472,7001473),(10001856,10001857)] ⟨[(1,(false,(.box (.pair diM (.pair (.dat y28) (.pair (.own y3) (.pair (.dat y29) (.pair (.dat y12) (.dat y9))))))))),(9,(false,(.box (.dat y32)))),(10,uoM),(37,uiM)],[]⟩ 0 ⟨[(1,(false,(.box (.pair diM (.pair (.dat y28) (.pair (.own y3) (.pair (.dat y29) (.pair (.dat y12) (.dat y9))))))))),(9,(false,(.box (.dat y32)))),(10,uoM)],[]⟩ lfA))) lfA))))
def aU (a0:D8) (a1:P9) (a2:Int) (a3:List Bool):Option (List Int×A7×P9):=l9 (iU (o8
 a0.2.2.2.1) (0,0,0)) fun x=>l9 (iU (o8 a0.2.2.2.1) 0) fun x_1=>l9 (jF a0) fun(x_2:
 List Int×Int)=>l9 (J7 (fun(x:P9×A7×List Int×Int)=>l7 (ilt x.2.2.2 (o8 x_2.1)) (l9 (lat x_2.1 x.2.2.2)
 fun x_3=>l9 (J4 x_2.1 (toN x.2.2.2)) fun x_4=>l9 (lat a3 x_4) fun x_5=>l7 (D6 x_5) (some (.nx (x.1,
 x.2.1,x.2.2.1,x9 .i64 x.2.2.2 1))) (l9 (qO a0 x.1 a2 x_4) fun x_6=>l7 (D6 (ieq
 x_6.2.1 0)) (some (.rt ([],x_6.2,x.1))) (l7 (ieq x_6.1 (-1)) (some (.rt ([],(10,a2,x_4,-1),x.1))) (l7 (ieq x_6.1 (-2)) (some
 (.rt ([],(11,a2,x_4,-1),x.1))) (l9 (lat a0.2.2.2.2 x_6.1) fun x_7=>l9 (Bc x_7.2.2.2.2.2.2.1 x.1) fun x_8=>l7 (D6 (ieq x_8.2 0)) (some (.rt ([],(x_8.2,a2,x_4,x_6.1),x.1))) (l9 (lat x.1.2.2.1 x_4) fun x_9=>l9 (J4
 x.1.2.2.1 (toN x_4)) fun x_10=>l9 (lat x.2.2.1 x_4) fun x_11=>l9 (J4 x.2.2.1 (toN x_4)) fun x_12=>some
 (.nx ((x.1.1,x.1.2.1,P6 x.1.2.2.1 (toN x_4) x_8.1,x.1.2.2.2),x.2.1,P6 x.2.2.1 (toN x_4) x_6.1,x9 .i64 x.2.2.2 1)))))))) (some
 (.ex (x.1,x.2.1,x.2.2.1)))) ((a1.1,a1.2.1,x,a1.2.2.2),(0,0,0,0),x_1,0)) fun o=>J9 o (fun(y:P9×A7×List Int)=>some (y.2.2,(0,0,0,0),y.1)) fun r=>some r
def s70:FSpec:=mkS c8n c9X fun x=>aU x.1 x.2.1 x.2.2.1 x.2.2.2
def c7S:List MG:=[(true,(.dat y27)),uiM,(true,(.dat y31)),(false,(.box (.pair (.dat y24) (.pair (.dat y24) (.pair (.own .bool) (.own .bool))))))]
def c9C:Ret:=⟨[(.cell 8 106,(true,(.dat y37))),(.cell 9 109,(true,(.dat y42))),(.cell 10 85,(true,(.dat y32)))],[(3,(true,(.pair (.dat y24) (.pair (.dat y24) (.pair (.own .bool) (.own .bool))))))]⟩
def e49:Env:=⟨123,eqs,tt,gl,[(70,s70)],[],[],[],[3]⟩
def d4J:Ann:=.seq lfA (.seq lfA (.seq lfA (.seq (.seq lfA (.blk (.loop [(11,12),(14,15),(35,47),(7000704,7000705)] ⟨[(11,(false,(.box (.pair diM (.pair (.dat y28) (.pair (.cell (some none)) (.pair (.cell (some none)) (.pair (.own y2) (.dat y9))))))))),(35,uiM)],[]⟩ 0 ⟨[(11,(false,(.box (.pair diM (.pair (.dat y28) (.pair (.cell (some none)) (.pair (.cell (some none)) (.pair (.own y2) (.dat y9)))))))))],[]⟩ lfA))) (.seq (.seq lfA (.blk (.loopR [(8,13),(15,20),(50,97),(4000512,4000513),(4000576,4000577),(4000640,4000641),(10000768,10000769),(18000000,18000002)] ⟨[(8,(false,(.box (.dat y37)))),(9,(false,(.box (.dat y42)))),(10,(false,(.box (.dat y32)))),(11,(false,(.box (.pair diM (.pair (.dat y28) (.pair (.cell (some none)) (.pair (.own y28) (.pair (.own y2) (.dat y9))))))))),(12,(false,(.box (.pair (.dat y28) (.pair (.dat y33) (.own y34)))))),(50,uiM)],[]⟩ 2 ⟨[(8,(false,(.box (.dat y37)))),(9,(false,(.box (.dat y42)))),(10,(false,(.box (.dat y32)))),(11,(false,(.box (.pair diM (.pair (.dat y28) (.pair (.cell (some none)) (.pair (.own y28) (.pair (.own y2) (.dat y9))))))))),(12,(false,(.box (.pair (.dat y28) (.pair (.dat y33) (.own y34))))))],[]⟩ lfA))) lfA))))
def qM (a0:L8) (a1:Int) (a2:U0) (a3:U1):Option (qJ×P9×A7×U1):=l9
 (P5 (fun(x:(Int×List F7×PUnit×PUnit×List o9×List Y1)×Int)=>l7 (ilt x.2 (o8 a3.2.1.2.2.2.1)) (l9 (lat
 a3.2.1.2.2.2.1 x.2) fun x_1=>l9 (X9 x.1.2.2.2.2.1 [x_1.2]) fun x_2=>some (.inl ((x.1.1,x.1.2.1,
 (),(),x_2,x.1.2.2.2.2.2),x9 .i64 x.2 1))) (some (.inr (x.1.1,x.1.2.1,(),(),x.1.2.2.2.2))))
 ((a2.1,a2.2.1,(),(),[],a0.2.1),0)) fun y=>l9 (J7
 (fun(x:qJ×P9×A7×(Int×List F7×PUnit×List (List F7)×List o9×List Y1)×qJ×Int)=>
 l7 (ilt x.2.2.2.2.2 (o8 a2.2.2)) (l9 (lat a2.2.2 x.2.2.2.2.2) fun x_1=>l9 (aU a3.2.1 (a2.1,x_1,[],
 [],[],a0.2.1) x.2.2.2.2.2 a3.2.2.2) fun x_2=>l7 (D6 (ieq x_2.2.1.1 0)) (some (.rt (([],[],
 []),(0,[],[],[],[],[]),x_2.2.1,a3))) (l9 (X9 x.2.2.2.1.2.2.2.1 [x_2.2.2.2.2.1]) fun x_3=>l9 (X9
 x.2.2.2.2.1.2.2 [(x_2.2.2.2.2.1,x_2.1)]) fun x_4=>some (.nx (x.1,x.2.1,x.2.2.1,(x.2.2.2.1.1,x.2.2.2.1.2.1,
 (),x_3,x.2.2.2.1.2.2.2.2),(x.2.2.2.2.1.1,x.2.2.2.2.1.2.1,x_4),x9 .i64 x.2.2.2.2.2 1)))) (some (.ex (x.1,x.2.1,x.2.2.1,
 (x.2.2.2.1.1,x.2.2.2.1.2.1,(),x.2.2.2.1.2.2.2),x.2.2.2.2.1)))) (([],[],[]),(0,[],[],[],[],[]),(0,0,0,0),(y.1,y.2.1,
 (),[],y.2.2.2.2),([],[],[]),0)) fun o=>J9 o (fun(y:qJ×P9×A7×
 (Int×List F7×PUnit×List (List F7)×List o9×List Y1)×qJ)=>l9 (aU a3.1 (y.2.2.2.1.1,
 y.2.2.2.1.2.1,[],y.2.2.2.1.2.2.2) (-1) a3.2.2.1) fun x=>l7 (D6 (ieq x.2.1.1 0)) (some (([],[],
 []),(0,[],[],[],[],[]),x.2.1,a3)) (some ((x.2.2.2.2.1,x.1,y.2.2.2.2.2.2),x.2.2,(0,0,0,0),a3))) fun r=>some r
def s49:FSpec:=mkS c7S c9C fun x=>qM x.1 x.2.1 x.2.2.1 x.2.2.2
def c7B:List MG:=[(true,(.dat y27)),uiM,(true,(.dat y31)),uiM]
def c9l:Ret:=⟨[(.cell 8 67,(true,(.dat y3))),(.tmp 9,uiM),(.cell 10 85,(true,(.dat y32)))],[]⟩
def e31:Env:=⟨57,eqs,tt,gl,[(46,s46),(47,s47),(48,s48),(49,s49)],[],[],[],[]⟩
def d4s:Ann:=.leaf
def kS (a0:L8) (a1:Int) (a2:U0) (a3:Int):Option (F7×Int×A7):=l9 (jf a0 a1
 a2 true a3) fun x=>l7 (D6 (ieq x.1 0)) (some ((0,0,0),0,x)) (l9 (qN a0 a1) fun x
 =>l9 (kK x a3) fun x=>l9 (qM a0 a1 a2 x) fun x=>l7 (D6 (ieq x.2.2.1.1 0)) (some ((0,0,0),0,x.2.2.1)) (l9 (lat x.1.1 a3) fun x_1=>l9 (lat x.1.2.1 a3)
 fun x=>some (x_1,x,0,0,0,0)))
def s31:FSpec:=mkS c7B c9l fun x=>kS x.1 x.2.1 x.2.2.1 x.2.2.2
def c7s:List MG:=[(true,(.dat y27)),uiM,(true,(.dat y31)),uiM,uiM,uiM]
def c8Z:Ret:=⟨[(.tmp 12,uiM),(.tmp 13,uiM)],[]⟩
def e22:Env:=⟨48,eqs,tt,gl,[(31,s31)],[],[],[],[]⟩
def d4j:Ann:=.leaf
def bC (a0:L8) (a1:Int) (a2:U0) (a3:Int) (a4:Int) (a5:Int):Option o9:=l7 (ilt a4 (o8 a2.2.1)) (l9
 (X9 [] a2.2.1) fun x=>l9 (lat x a4) fun x_1=>l9 (J4 x (toN a4)) fun x_2=>l9 (kS
 a0 a1 (a2.1,P6 x (toN a4) (3,0,a5),a2.2.2) a3) fun x=>l7 (D6 (ieq x.2.2.1 0)) (some (0,x.2.2.1))
 (some (x.1.2.2,0))) (l9 (kS a0 a1 a2 a3) fun x=>l7 (D6 (ieq x.2.2.1 0)) (some (0,
 x.2.2.1)) (some (x.1.2.2,0)))
def s22:FSpec:=mkS c7s c8Z fun x=>bC x.1 x.2.1 x.2.2.1 x.2.2.2.1 x.2.2.2.2.1 x.2.2.2.2.2
def c7d:List MG:=[(true,(.dat y27)),uiM,(true,(.dat y31)),uiM,uiM,uiM]
def c8K:Ret:=⟨[(.tmp 12,uiM),(.tmp 13,uiM)],[]⟩
def e10:Env:=⟨32,eqs,tt,gl,[(21,s21),(22,s22)],[],[],[],[]⟩
def d3X:Ann:=.leaf
def fD (a0:L8) (a1:Int) (a2:U0) (a3:Int) (a4:Int) (a5:Int):Option o9:=l9 (kV a0 a1 a3 a4) fun
 (x:Int)=>l7 (D6 (ieq x 0)) (some (0,x)) (l9 (bC a0 a1 a2 a3 a4 a5) fun x=>some x)
def s10:FSpec:=mkS c7d c8K fun x=>fD x.1 x.2.1 x.2.2.1 x.2.2.2.1 x.2.2.2.2.1 x.2.2.2.2.2
def c7f:List MG:=[(true,(.dat y27)),uiM,(true,(.dat y31)),uiM,uiM,uiM]
def c8M:Ret:=⟨[(.tmp 12,uiM),(.tmp 13,uiM)],[]⟩
def e12:Env:=⟨79,eqs,tt,gl,[(21,s21),(22,s22),(25,s25)],[],[],[],[]⟩
def d3Z:Ann:=.leaf
def qx (a0:L8) (a1:Int) (a2:U0) (a3:Int) (a4:Int) (a5:Int):Option o9:=l9 (kV a0 a1 a3 a4) fun(x
 :Int)=>l7 (D6 (ieq x 0)) (some (0,x)) (l7 (ilt a5 1) (some (0,3)) (l7 (ilt 1000000000000000 a5) (some (0,3)) (l7 (ile (o8
 a2.2.1) a4) (some (0,5)) (l9 (lat a2.2.1 a4) fun x=>l9 (bC a0 a1 a2 a3 a4 x.2.2) fun x_1=>l7
 (D6 (ieq x_1.2 0)) (some (0,x_1.2)) (l9 (bC a0 a1 a2 a3 a4 (x9 .i64 x.2.2 a5)) fun x=>l7 (D6 (ieq
 x.2 0)) (some (0,x.2)) (l9 (kX (G5 .i64 x.1 x_1.1) a5 4) fun x=>some x))))))
def s12:FSpec:=mkS c7f c8M fun x=>qx x.1 x.2.1 x.2.2.1 x.2.2.2.1 x.2.2.2.2.1 x.2.2.2.2.2
def c7y:List MG:=[uiM]
def c9i:Ret:=⟨[(.tmp 2,ubM)],[]⟩
def e28:Env:=⟨9,eqs,tt,gl,[],[],[],[],[]⟩
def d4p:Ann:=.leaf
def mg (a0:Int):Option Bool:=l7 (ilt a0 (-1000000000000001)) (some true) (some (ilt 1000000000000001 a0))
def s28:FSpec:=mkS c7y c9i fun x=>mg x
def c7k:List MG:=[(true,(.dat y27)),uiM,(true,(.dat y31)),uiM,uiM,(true,(.dat y2)),uiM]
def c8P:Ret:=⟨[(.tmp 14,(false,(.own y3))),(.tmp 15,uiM)],[]⟩
def e15:Env:=⟨103,eqs,tt,gl,[(21,s21),(28,s28),(22,s22)],[],[],[],[]⟩
def d4c:Ann:=.seq lfA (.seq lfA (.seq (.joinR [(14,16),(30,46)] ⟨[],[]⟩ lfA) (.seq lfA (.seq lfA (.seq lfA (.seq (.seq lfA (.blk (.loopR [(14,16),(17,22),(65,102)] ⟨[(17,(false,(.own y3))),(18,uiM),(19,uiM)],[]⟩ 0 ⟨[(17,(false,(.own y3)))],[]⟩ lfA))) lfA))))))
def ed (a0:L8) (a1:Int) (a2:U0) (a3:Int) (a4:Int) (a5:o9) (a6:Int):Option (List F7×Int):=l9
 (kV a0 a1 a3 a4) fun x=>l7 (D6 (ieq x 0)) (some ([],x)) (l9 (l7 (ilt a6 1) (some (.inr ([],3))) (l7 (ilt
 1000000000000000 a6) (some (.inr ([],3))) (l9 (mg a5.1) fun x=>l7 x (some (.inr ([],3))) (l9
 (mg a5.2) fun x=>l7 x (some (.inr ([],3))) (some (.inl ())))))) fun o=>J9
 o (fun(x:PUnit)=>l7 (ilt a5.1 a5.2) (l9 (fH .i64 (G5 .i64 (G5 .i64 a5.2 a5.1) 1) a6) fun x=>l7
 (ilt 4096 (x9 .i64 x 1)) (some ([],4)) (l9 (J7 (fun(x:List F7×o9)=>l7 (ilt x.2.2 a5.2) (l9 (bC
 a0 a1 a2 a3 a4 x.2.2) fun x_1=>l7 (D6 (ieq x_1.2 0)) (some (.rt ([],x_1.2))) (l7 (ilt a5.1 x.2.2) (l7 (ilt x_1.1
 x.2.1) (l9 (X9 x.1 [(x.2.2,x.2.1,x_1.1)]) fun x_2=>some (.nx (x_2,x_1.1,x9 .i64 x.2.2 a6))) (some (.nx
 (x.1,x_1.1,x9 .i64 x.2.2 a6)))) (some (.nx (x.1,x_1.1,x9 .i64 x.2.2 a6))))) (some (.ex x.1))) ([],0,a5.1)) fun(o:
 List F7⊕List F7×Int)=>J9 o (fun(y:List F7)=>some (y,0)) fun r=>some r)) (l9 (J7 (fun(x:
 List F7×o9)=>l7 (ilt x.2.2 a5.2) (l9 (bC a0 a1 a2 a3 a4 x.2.2) fun x_1=>l7 (D6 (ieq x_1.2 0))
 (some (.rt ([],x_1.2))) (l7 (ilt a5.1 x.2.2) (l7 (ilt x_1.1 x.2.1) (l9 (X9 x.1 [(x.2.2,x.2.1,x_1.1)]) fun x_2=>
 some (.nx (x_2,x_1.1,x9 .i64 x.2.2 a6))) (some (.nx (x.1,x_1.1,x9 .i64 x.2.2 a6)))) (some (.nx (x.1,x_1.1,x9
 .i64 x.2.2 a6))))) (some (.ex x.1))) ([],0,a5.1)) fun o=>J9 o (fun(y:List F7)=>some (y,
 0)) fun r=>some r)) fun r=>some r)
def s15:FSpec:=mkS c7k c8P fun x=>ed x.1 x.2.1 x.2.2.1 x.2.2.2.1 x.2.2.2.2.1 x.2.2.2.2.2.1 x.2.2.2.2.2.2
def c7n:List MG:=[(false,(.dat y28)),(false,(.dat y28))]
def c8R:Ret:=⟨[(.tmp 4,ubM)],[]⟩
def e17:Env:=⟨32,eqs,tt,gl,[],[],[],[],[]⟩
def d4e:Ann:=.seq lfA (.seq lfA (.seq (.seq lfA (.blk (.loopR [(4,6),(11,32)] ⟨[(5,uiM)],[]⟩ 0 ⟨[],[]⟩ lfA))) lfA))
def wQ (a0:List F7) (a1:List F7):Option Bool:=l7 (D6 (ieq (o8 a0) (o8 a1))) (some false) (l9 (J7 (fun(x:
 Int)=>l7 (ilt x (o8 a0)) (l7 (ilt x (o8 a1)) (l9 (lat a0 x) fun x_1=>l9 (lat a1 x) fun x_2=>l7 (D6
 (aK (ieq x_1.1 x_2.1) (aK (ieq x_1.2.1 x_2.2.1) (ieq x_1.2.2 x_2.2.2)))) (some (.rt false)) (some (.nx (x9 .i64 x 1)))) (some
 (.ex ()))) (some (.ex ()))) 0) fun o=>J9 o (fun(y:PUnit)=>some true) fun r=>some r)
def s17:FSpec:=mkS c7n c8R fun x=>wQ x.1 x.2
def ps9:List MG:=[]
def rt9:Ret:=⟨[(.tmp 0,ubM)],[]⟩
def e9:Env:=⟨68,eqs,tt,gl,[(19,s19),(20,s20),(10,s10),(12,s12),(15,s15),(17,s17)],[],[],[],[]⟩
def an9:Ann:=.leaf
def Y6:Option Bool:=l9 Gs fun x=>l9 (tY 0) fun x_1=>l9 (fD x 0 x_1 0 0
 49999) fun x_2=>l9 (tY 0) fun x_3=>l9 (fD x 0 x_3 0 0 50000) fun x_4=>l9
 (tY 49950) fun x_5=>l9 (qx x 0 x_5 0 0 100) fun x_6=>l9 (tY 0) fun x_7=>
 l9 (ed x 0 x_7 0 0 (0,100001) 10000) fun x=>l7 (ieq x_2.1 10000) (l7 (ieq x_2.2 0) (l7 (ieq
 x_4.1 0) (l7 (ieq x_4.2 0) (l7 (ieq x_6.1 (-100000000)) (l7 (ieq x_6.2 0) (l9 (wQ x.1 [(50000,10000,0)]) fun x_8=>
 l7 x_8 (some (ieq x.2 0)) (some false)) (some false)) (some false)) (some false)) (some false)) (some false)) (some false)
def s9:FSpec:=mkS ps9 rt9 fun x=>Y6
def b0P:List MG:=[(false,(.dat (.int .u8)))]
def b4x:Ret:=⟨[(.tmp 2,ubM)],[]⟩
def d6n:Env:=⟨9,eqs,tt,gl,[],[],[],[],[]⟩
def c3v:Ann:=.leaf
def zM (a0:Int):Option Bool:=l7 (ile 97 a0) (some (ile a0 122)) (some false)
def b9r:FSpec:=mkS b0P b4x fun x=>zM x
def b1n:List MG:=[(false,(.dat (.int .u8)))]
def b4W:Ret:=⟨[(.tmp 2,ubM)],[]⟩
def d6N:Env:=⟨9,eqs,tt,gl,[],[],[],[],[]⟩
def c3Y:Ann:=.leaf
def ED (a0:Int):Option Bool:=l7 (ile 48 a0) (some (ile a0 57)) (some false)
def d1l:FSpec:=mkS b1n b4W fun x=>ED x
def b0Q:List MG:=[(false,(.dat (.int .u8)))]
def b4y:Ret:=⟨[(.tmp 2,ubM)],[]⟩
def d6o:Env:=⟨13,eqs,tt,gl,[(150,b9r),(185,d1l)],[],[],[],[]⟩
def c3w:Ann:=.leaf
def CX (a0:Int):Option Bool:=l9 (zM a0) fun x=>l7 x (some true) (l9 (ED a0) fun x=>
 l7 x (some true) (some (ieq a0 95)))
def d0R:FSpec:=mkS b0Q b4y fun x=>CX x
def b0R:List MG:=[]
def b4z:Ret:=⟨[(.tmp 0,(false,(.own .str)))],[]⟩
def d6p:Env:=⟨2,eqs,tt,gl,[],[],[],[],[]⟩
def c3x:Ann:=.leaf
def kZ:Option (List (List UInt8)):=some [[105,102],[116,104,101,110],[101,108,115,101],[111,114],[97,110,100],[110,
 111,116],[116,114,117,101],[102,97,108,115,101],[116,111,100,97,121],[115,104,97,114,101],[100,105,118],[114,111,117,110,
 100],[109,105,110],[109,97,120],[112,108,117,115],[109,111,110,116,104,115],[100,97,121,115],[121,101,97,114,115],[121,
 101,97,114],[109,111,110,116,104],[116,97,98],[98,97,110,100],[99,111,117,110,116],[115,117,109],[97,108,108],[97,110,
 121],[109,111,115,116],[101,110,117,109],[116,97,98,108,101],[114,111,119],[115,99,111,112,101],[109,101,109,98,101,114,
 115],[105,110,112,117,116],[100,101,102],[114,117,108,101],[111,102],[111,118,101,114],[112,114,105,111],[102,114,111,109],
 [116,111],[101,110,100],[119,104,101,110],[105,115],[115,114,99],[98,111,111,108],[105,110,116],[109,111,110,101,121],[114,
 97,116,101],[100,97,116,101],[100,111,119,110],[117,112],[122,101,114,111],[97,119,97,121],[104,97,108,102],[101,118,101,
 110]]
def d0S:FSpec:=mkS b0R b4z fun x=>kZ
def b0o:List MG:=[(false,(.dat .str))]
def b3V:Ret:=⟨[(.tmp 2,ubM)],[]⟩
def d5L:Env:=⟨44,eqs,tt,gl,[(150,b9r),(151,d0R),(152,d0S)],[],[],[],[]⟩
def c2R:Ann:=.seq lfA (.seq (.joinR [(2,3),(6,20)] ⟨[],[]⟩ lfA) (.seq (.seq lfA (.blk (.loopR [(2,4),(20,31)] ⟨[(3,uiM)],[]⟩ 0 ⟨[],[]⟩ lfA))) (.seq lfA (.seq (.seq lfA (.blk (.loopR [(2,3),(5,6),(32,44)] ⟨[(5,uiM)],[]⟩ 2 ⟨[],[]⟩ lfA))) lfA))))
def X5 (a0:List UInt8):Option Bool:=l9 (l7 (ieq (o8 a0) 0) (some (.inr false)) (l7 (ilt 16 (o8 a0)) (some
 (.inr false)) (l9 (sat a0 0) fun x=>l9 (zM x) fun x=>l7 (D6 x) (some (.inr false)) (some (.inl
 ()))))) fun o=>J9 o (fun(x:PUnit)=>l9 (J7 (fun(x:Int)=>l7 (ilt x (o8 a0)) (l9 (sat a0 x) fun
 (x_1:Int)=>l9 (CX x_1) fun x_2=>l7 (D6 x_2) (some (.rt false)) (some (.nx (x9 .i64 x 1)))) (some
 (.ex ()))) 0) fun o=>J9 o (fun(y:PUnit)=>l9 kZ fun x=>l9 (J7 (fun
 (x_1:Int)=>l7 (ilt x_1 (o8 x)) (l9 (lat x x_1) fun x_2=>l9 (J4 x (toN x_1)) fun x=>l7 (seq x
 a0) (some (.rt false)) (some (.nx (x9 .i64 x_1 1)))) (some (.ex ()))) 0) fun o=>J9 o (fun(y:PUnit)
 =>some true) fun r=>some r) fun r=>some r) fun r=>some r
def a3h:FSpec:=mkS b0o b3V fun x=>X5 x
def b0p:List MG:=[(true,(.dat y27)),uiM,uiM,(false,(.dat .str))]
def b3W:Ret:=⟨[(.tmp 8,ubM)],[]⟩
def d5M:Env:=⟨88,eqs,tt,gl,[],[],[],[],[]⟩
def c2S:Ann:=.seq lfA (.seq (.seq lfA (.blk (.loopR [(8,10),(12,36)] ⟨[(9,uiM)],[]⟩ 0 ⟨[],[]⟩ lfA))) (.seq (.seq lfA (.blk (.loopR [(8,9),(10,11),(36,64)] ⟨[(10,uiM)],[]⟩ 2 ⟨[],[]⟩ lfA))) (.seq (.seq lfA (.blk (.loopR [(8,9),(11,12),(64,88)] ⟨[(11,uiM)],[]⟩ 4 ⟨[],[]⟩ lfA))) lfA)))
def aY (a0:L8) (a1:Int) (a2:Int) (a3:List UInt8):Option Bool:=l9 (J7 (fun(x:Int)=>l7 (ilt x (o8 a0.1))
 (l7 (ilt 1 a1) (l9 (lat a0.1 x) fun x_1=>l7 (seq x_1.1 a3) (some (.rt true)) (some (.nx (x9 .i64 x 1)))) (l7
 (ilt x a2) (l9 (lat a0.1 x) fun x_1=>l7 (seq x_1.1 a3) (some (.rt true)) (some (.nx (x9 .i64 x 1)))) (some (.nx
 (x9 .i64 x 1))))) (some (.ex ()))) 0) fun o=>J9 o (fun(y:PUnit)=>l9 (J7 (fun(x:Int)=>l7
 (ilt x (o8 a0.2.1)) (l7 (ilt 2 a1) (l9 (lat a0.2.1 x) fun x_1=>l7 (seq x_1.1 a3) (some (.rt true)) (some (.nx (x9
 .i64 x 1)))) (l7 (ieq a1 2) (l7 (ilt x a2) (l9 (lat a0.2.1 x) fun x_1=>l7 (seq x_1.1 a3) (some (.rt true)) (some
 (.nx (x9 .i64 x 1)))) (some (.nx (x9 .i64 x 1)))) (some (.nx (x9 .i64 x 1))))) (some (.ex ()))) 0) fun
 (o:PUnit⊕Bool)=>J9 o (fun(y:PUnit)=>l9 (J7 (fun(x:Int)=>l7 (ilt x (o8 a0.2.2)) (l7 (ieq a1 3) (l7 (ilt x a2)
 (l9 (lat a0.2.2 x) fun x_1=>l7 (seq x_1.1 a3) (some (.rt true)) (some (.nx (x9 .i64 x 1)))) (some (.nx (x9
 .i64 x 1)))) (some (.nx (x9 .i64 x 1)))) (some (.ex ()))) 0) fun o=>J9 o (fun(y:PUnit)=>some
 false) fun r=>some r) fun r=>some r) fun r=>some r
def a9i:FSpec:=mkS b0p b3W fun x=>aY x.1 x.2.1 x.2.2.1 x.2.2.2
def c8o:List MG:=[(true,(.dat y27)),uiM]
def c9Y:Ret:=⟨[(.cell 4 82,(true,(.dat y32)))],[]⟩
def e71:Env:=⟨80,eqs,tt,gl,[(111,a3h),(112,a9i)],[],[],[],[]⟩
end
end Gt
