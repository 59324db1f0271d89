import Derived.Test.YtabfelfinddgkaaGreatDoorT1
set_option linter.all false
open Go Go.GP
namespace Gt
set_option maxRecDepth 100000
noncomputable section
def BG (f:Func):Code:=match f.body with | some c=>c | none=> .skip
abbrev mkS (ps:List MG) (rt:Ret) (F:O6 ps→Option rt.den):FSpec:=⟨ps,rt.rs.map (·.2),rt.outs.map (·.2),F⟩
abbrev lfA:Ann:=.leaf
abbrev diM:M:=.dat (.int .i64)
abbrev oiM:M:=.own (.int .i64)
abbrev dbM:M:=.dat .bool
abbrev uiM:MG:=(false,diM)
abbrev ubM:MG:=(false,dbM)
abbrev uoM:MG:=(false,oiM)
abbrev y0:Ty:=.prod .str (.sl .str)
abbrev y1:Ty:=.sl y0
abbrev y2:Ty:=.prod (.int .i64) (.int .i64)
abbrev y3:Ty:=.prod (.int .i64) y2
abbrev y4:Ty:=.prod y2 y3
abbrev y5:Ty:=.sl y4
abbrev y6:Ty:=.prod y2 y5
abbrev y7:Ty:=.prod y2 y6
abbrev y8:Ty:=.prod .str y7
abbrev y9:Ty:=.sl y8
abbrev y10:Ty:=.prod .str y2
abbrev y11:Ty:=.sl y10
abbrev y12:Ty:=.sl y2
abbrev y13:Ty:=.prod y12 .str
abbrev y14:Ty:=.prod y12 y13
abbrev y15:Ty:=.prod y2 y14
abbrev y16:Ty:=.prod (.int .i64) y15
abbrev y17:Ty:=.prod (.int .i64) y16
abbrev y18:Ty:=.prod (.int .i64) y17
abbrev y19:Ty:=.prod .str y18
abbrev y20:Ty:=.sl y19
abbrev y21:Ty:=.prod y11 y20
abbrev y22:Ty:=.prod y11 y21
abbrev y23:Ty:=.prod (.int .i64) y22
abbrev y24:Ty:=.prod .str y23
abbrev y25:Ty:=.sl y24
abbrev y26:Ty:=.prod y9 y25
abbrev y27:Ty:=.prod y1 y26
abbrev y28:Ty:=.sl (.int .i64)
abbrev y29:Ty:=.prod (.int .i64) y3
abbrev y30:Ty:=.sl y3
abbrev y31:Ty:=.sl y30
abbrev y32:Ty:=.prod y30 y31
abbrev y33:Ty:=.prod (.int .i64) y32
abbrev y34:Ty:=.prod (.int .i64) y29
abbrev y35:Ty:=.prod (.int .i64) y34
abbrev y36:Ty:=.prod (.int .i64) y35
abbrev y37:Ty:=.prod (.int .i64) y36
abbrev y38:Ty:=.sl y37
abbrev y39:Ty:=.prod y12 .bool
abbrev y40:Ty:=.prod y12 y39
abbrev y41:Ty:=.prod y12 y40
abbrev y42:Ty:=.prod y9 y41
abbrev y43:Ty:=.prod y1 y42
abbrev y44:Ty:=.prod y3 (.int .i64)
abbrev y45:Ty:=.sl (.ent true true y2 y44)
abbrev y46:Ty:=.prod y45 y29
abbrev y47:Ty:=.prod y33 y46
abbrev y48:Ty:=.prod (.int .i64) y47
abbrev y49:Ty:=.prod y27 y48
abbrev y50:Ty:=.prod y38 y49
abbrev y51:Ty:=.prod y30 y28
abbrev y52:Ty:=.sl y51
abbrev y53:Ty:=.prod y28 y52
abbrev y54:Ty:=.prod y30 y53
abbrev y55:Ty:=.prod y12 y9
abbrev y56:Ty:=.prod y31 y55
abbrev y57:Ty:=.prod y30 y56
abbrev y58:Ty:=.prod y30 y57
abbrev y59:Ty:=.prod (.int .i64) y58
abbrev y60:Ty:=.sl y28
abbrev y61:Ty:=.prod (.sl .bool) (.sl .bool)
abbrev y62:Ty:=.prod y24 y61
abbrev y63:Ty:=.prod y24 y62
abbrev y64:Ty:=.prod y28 y59
abbrev y65:Ty:=.prod y12 y64
abbrev y66:Ty:=.prod y28 y28
abbrev y67:Ty:=.prod y28 y66
def tt:List (Nat×TI):=[
 (3,⟨1,8,(.int .i64),some (.int .i64),[.i .i64 0]⟩),
 (4,⟨1,1,.bool,some .bool,[.b false]⟩),
 (5,⟨1,1,(.int .u8),some (.int .u8),[.i .u8 0]⟩),
 (9,⟨1,16,.str,some .str,[.s []]⟩),
 (22,⟨1,24,(.sl 45),some y1,[.nl]⟩),
 (23,⟨1,24,(.sl 50),some y9,[.nl]⟩),
 (24,⟨1,24,(.sl 40),some y25,[.nl]⟩),
 (26,⟨3,72,(.struct [(22,0),(23,1),(24,2)]),some y27,[.nl,.nl,.nl]⟩),
 (27,⟨1,24,(.sl 3),some y28,[.nl]⟩),
 (29,⟨1,8,(.int .i64),some (.int .i64),[.i .i64 0]⟩),
 (31,⟨4,32,(.struct [(29,0),(3,1),(3,2),(3,3)]),some y29,[.i .i64 0,.i .i64 0,.i .i64 0,.i .i64 0]⟩),
 (37,⟨1,24,(.sl 83),some y11,[.nl]⟩),
 (38,⟨1,24,(.sl 68),some y20,[.nl]⟩),
 (40,⟨5,96,(.struct [(9,0),(3,1),(37,2),(37,3),(38,4)]),some y24,[.s [],.i .i64 0,.nl,.nl,.nl]⟩),
 (43,⟨1,24,(.sl 9),some (.sl .str),[.nl]⟩),
 (45,⟨2,40,(.struct [(9,0),(43,1)]),some y0,[.s [],.nl]⟩),
 (47,⟨2,16,(.struct [(3,0),(3,1)]),some y2,[.i .i64 0,.i .i64 0]⟩),
 (48,⟨1,24,(.sl 116),some y5,[.nl]⟩),
 (50,⟨6,72,(.struct [(9,0),(47,1),(47,3),(48,5)]),some y8,[.s [],.i .i64 0,.i .i64 0,.i .i64 0,.i .i64 0,.nl]⟩),
 (54,⟨3,24,(.struct [(3,0),(3,1),(3,2)]),some y3,[.i .i64 0,.i .i64 0,.i .i64 0]⟩),
 (55,⟨1,24,(.sl 54),some y30,[.nl]⟩),
 (56,⟨1,24,(.sl 55),some y31,[.nl]⟩),
 (58,⟨3,56,(.struct [(3,0),(55,1),(56,2)]),some y33,[.i .i64 0,.nl,.nl]⟩),
 (60,⟨4,32,(.struct [(29,0),(3,1),(3,2),(3,3)]),some y29,[.i .i64 0,.i .i64 0,.i .i64 0,.i .i64 0]⟩),
 (65,⟨2,16,(.struct [(3,0),(3,1)]),some y2,[.i .i64 0,.i .i64 0]⟩),
 (66,⟨1,24,(.sl 70),some y12,[.nl]⟩),
 (68,⟨9,120,(.struct [(9,0),(3,1),(3,2),(3,3),(65,4),(66,6),(66,7),(9,8)]),some y19,[.s [],.i .i64 0,.i .i64 0,.i .i64 0,.i .i64 0,.i .i64 0,.nl,.nl,.s []]⟩),
 (70,⟨2,16,(.struct [(3,0),(3,1)]),some y2,[.i .i64 0,.i .i64 0]⟩),
 (77,⟨1,24,(.sl 4),some (.sl .bool),[.nl]⟩),
 (83,⟨3,32,(.struct [(9,0),(47,1)]),some y10,[.s [],.i .i64 0,.i .i64 0]⟩),
 (93,⟨1,24,(.sl 146),some y38,[.nl]⟩),
 (116,⟨5,40,(.struct [(65,0),(3,2),(3,3),(3,4)]),some y4,[.i .i64 0,.i .i64 0,.i .i64 0,.i .i64 0,.i .i64 0]⟩),
 (130,⟨1,24,(.sl 47),some y12,[.nl]⟩),
 (132,⟨6,128,(.struct [(22,0),(23,1),(130,2),(130,3),(130,4),(4,5)]),some y43,[.nl,.nl,.nl,.nl,.nl,.b false]⟩),
 (137,⟨1,8,(.map 144 184),some y45,[.sl (.ent true true y2 y44) []]⟩),
 (139,⟨1,24,(.struct [(93,0)]),some y38,[.nl]⟩),
 (141,⟨13,200,(.struct [(139,0),(26,1),(3,4),(58,5),(137,8),(60,9)]),some y50,[.nl,.nl,.nl,.nl,.i .i64 0,.i .i64 0,.nl,.nl,.sl (.ent true true y2 y44) [],.i .i64 0,.i .i64 0,.i .i64 0,.i .i64 0]⟩),
 (144,⟨2,16,(.struct [(3,0),(3,1)]),some y2,[.i .i64 0,.i .i64 0]⟩),
 (146,⟨8,64,(.struct [(3,0),(3,1),(3,2),(3,3),(3,4),(54,5)]),some y37,[.i .i64 0,.i .i64 0,.i .i64 0,.i .i64 0,.i .i64 0,.i .i64 0,.i .i64 0,.i .i64 0]⟩),
 (153,⟨1,24,(.sl 204),some y52,[.nl]⟩),
 (155,⟨3,72,(.struct [(55,0),(27,1),(153,2)]),some y54,[.nl,.nl,.nl]⟩),
 (157,⟨6,128,(.struct [(3,0),(55,1),(55,2),(56,3),(130,4),(23,5)]),some y59,[.i .i64 0,.nl,.nl,.nl,.nl,.nl]⟩),
 (181,⟨1,24,(.sl 27),some y60,[.nl]⟩),
 (184,⟨4,32,(.struct [(54,0),(3,3)]),some y44,[.i .i64 0,.i .i64 0,.i .i64 0,.i .i64 0]⟩),
 (188,⟨1,24,(.sl 191),some y12,[.nl]⟩),
 (191,⟨2,16,(.struct [(3,0),(3,1)]),some y2,[.i .i64 0,.i .i64 0]⟩),
 (195,⟨1,8,(.int .u64),some (.int .u64),[.i .u64 0]⟩),
 (199,⟨12,240,(.struct [(40,0),(40,5),(77,10),(77,11)]),some y63,[.s [],.i .i64 0,.nl,.nl,.nl,.s [],.i .i64 0,.nl,.nl,.nl,.nl,.nl]⟩),
 (204,⟨2,48,(.struct [(55,0),(27,1)]),some y51,[.nl,.nl]⟩),
 (228,⟨1,8,(.int .u64),some (.int .u64),[.i .u64 0]⟩),
 (255,⟨1,8,(.ptr 256),none,[]⟩),
 (256,⟨1,24,(.sl 3),some y28,[.nl]⟩),
 (264,⟨8,176,(.struct [(66,0),(27,1),(157,2)]),some y65,[.nl,.nl,.i .i64 0,.nl,.nl,.nl,.nl,.nl]⟩),
 (288,⟨3,72,(.struct [(27,0),(27,1),(27,2)]),some y67,[.nl,.nl,.nl]⟩),
 (324,⟨1,16,.other,none,[]⟩),
 (328,⟨12,96,(.arr 12 3),none,[.i .i64 0,.i .i64 0,.i .i64 0,.i .i64 0,.i .i64 0,.i .i64 0,.i .i64 0,.i .i64 0,.i .i64 0,.i .i64 0,.i .i64 0,.i .i64 0]⟩)]
def eqs:List (Nat×List Ty):=[(31,[(.int .i64),(.int .i64),(.int .i64),(.int .i64)]),(47,[(.int .i64),(.int .i64)]),(54,[(.int .i64),(.int .i64),(.int .i64)]),(60,[(.int .i64),(.int .i64),(.int .i64),(.int .i64)]),(65,[(.int .i64),(.int .i64)]),(70,[(.int .i64),(.int .i64)]),(83,[.str,(.int .i64),(.int .i64)]),(116,[(.int .i64),(.int .i64),(.int .i64),(.int .i64),(.int .i64)]),(144,[(.int .i64),(.int .i64)]),(191,[(.int .i64),(.int .i64)])]
def gl:List (Nat×(t:Ty)×List t.den):=[(3,⟨.int .i64,[31,28,31,30,31,30,31,31,30,31,30,31]⟩)]
abbrev A7:Type:=Ty.den y2
abbrev X4:Type:=Ty.den y0
abbrev G9:Type:=Ty.den y3
abbrev Z9:Type:=Ty.den y10
abbrev J3:Type:=Ty.den y29
abbrev vN:Type:=Ty.den y4
abbrev D6:Type:=Ty.den y44
abbrev bT:Type:=Ty.den y67
abbrev ET:Type:=Ty.den y33
abbrev V7:Type:=Ty.den y8
abbrev zI:Type:=Ty.den y37
abbrev zJ:Type:=Ty.den y54
abbrev dC:Type:=Ty.den y38
abbrev H9:Type:=Ty.den y19
abbrev D8:Type:=Ty.den y43
abbrev pV:Type:=Ty.den y59
abbrev x8:Type:=Ty.den y24
abbrev N9:Type:=Ty.den y65
abbrev ax:Type:=Ty.den y63
abbrev G5:Type:=Ty.den y27
abbrev D5:Type:=Ty.den y50
def b1q:List MG:=[(true,(.dat y24))]
def b2I:Ret:=⟨[(.tmp 2,ubM)],[]⟩
def e14:Env:=⟨93,eqs,tt,gl,[],[],[],[],[],[]⟩
def b6F:Ann:=.seq lfA (.seq (.joinR [(2,3),(7,29)] ⟨[],[]⟩ lfA) (.seq (.seq lfA (.blk (.loopR [(2,4),(29,44)] ⟨[(3,uiM)],[]⟩ 0 ⟨[],[]⟩ lfA))) (.seq (.seq lfA (.blk (.loopR [(2,3),(4,5),(44,59)] ⟨[(4,uiM)],[]⟩ 2 ⟨[],[]⟩ lfA))) (.seq (.seq lfA (.blk (.loopR [(2,3),(5,7),(59,93)] ⟨[(5,uiM)],[]⟩ 4 ⟨[],[]⟩ lfA))) lfA))))
def jP (a0:x8):Option Bool:=l9 (l7 (ilt 80 (o7 a0.1)) (some (.inr false)) (l7 (ilt 14 (o7 a0.2.2.1)) (some
 (.inr false)) (l7 (ilt 14 (o7 a0.2.2.2.1)) (some (.inr false)) (l7 (ilt 60 (o7 a0.2.2.2.2)) (some (.inr false)) (some (.inl
 ())))))) fun o=>I7 o (fun(x:PUnit)=>l9 (G8 (fun(x:Int)=>l7 (ilt x (o7 a0.2.2.1)) (l9 (lat
 a0.2.2.1 x) fun x_1=>l7 (ilt 80 (o7 x_1.1)) (some (.rt false)) (some (.nx (x9 .i64 x 1)))) (some (.ex
 ()))) 0) fun o=>I7 o (fun(y:PUnit)=>l9 (G8 (fun(x:Int)=>l7 (ilt x (o7 a0.2.2.2.1)) (l9 (lat
 a0.2.2.2.1 x) fun x_1=>l7 (ilt 80 (o7 x_1.1)) (some (.rt false)) (some (.nx (x9 .i64 x 1)))) (some (.ex
 ()))) 0) fun o=>I7 o (fun(y:PUnit)=>l9 (G8 (fun(x:Int)=>l7 (ilt x (o7 a0.2.2.2.2)) (l9 (lat
 a0.2.2.2.2 x) fun x_1=>l7 (ilt 80 (o7 x_1.1)) (some (.rt false)) (l7 (ilt 80 (o7 x_1.2.2.2.2.2.2.2)) (some (.rt false))
 (l7 (ilt 50 (o7 x_1.2.2.2.2.2.1)) (some (.rt false)) (l7 (ilt 50 (o7 x_1.2.2.2.2.2.2.1)) (some (.rt false)) (some (.nx (x9
 .i64 x 1))))))) (some (.ex ()))) 0) fun o=>I7 o (fun(y:PUnit)=>some true) fun r=>some r) fun
 (r:Bool)=>some r) fun r=>some r) fun r=>some r
def s14:FSpec:=mkS b1q b2I fun x=>jP x
def ps6:List MG:=[(true,(.dat y27))]
def rt6:Ret:=⟨[(.tmp 2,ubM)],[]⟩
def e6:Env:=⟨127,eqs,tt,gl,[(14,s14)],[],[],[],[],[]⟩
def an6:Ann:=.seq lfA (.seq (.joinR [(2,3),(9,25)] ⟨[],[]⟩ lfA) (.seq lfA (.seq lfA (.seq (.seq lfA (.blk (.loopR [(2,3),(5,7),(25,72)] ⟨[(5,uiM)],[]⟩ 0 ⟨[],[]⟩ (.seq lfA (.seq (.blk (.seq lfA (.seq lfA (.blk (.loopR [(2,3),(6,7),(50,72)] ⟨[(6,uiM)],[]⟩ 2 ⟨[],[]⟩ lfA))))) lfA))))) (.seq (.seq lfA (.blk (.loopR [(2,4),(7,8),(72,100)] ⟨[(3,uiM),(7,uiM)],[]⟩ 4 ⟨[],[]⟩ lfA))) (.seq (.seq lfA (.blk (.loopR [(2,3),(4,5),(8,9),(100,127)] ⟨[(4,uiM),(8,uiM)],[]⟩ 6 ⟨[],[]⟩ lfA))) lfA))))))
def jC (a0:G5):Option Bool:=l9 (l7 (ilt 9 (o7 a0.1)) (some (.inr false)) (l7 (ilt 9 (o7 a0.2.1)) (some (.inr
 false)) (l7 (ilt 5 (o7 a0.2.2)) (some (.inr false)) (some (.inl ()))))) fun o=>I7 o (fun(x:PUnit)=>l9
 (G8 (fun(x:Int)=>l7 (ilt x (o7 a0.1)) (l9 (lat a0.1 x) fun x_1=>l7 (ilt 80 (o7 x_1.1)) (some (.rt false)) (l9
 (lat a0.1 x) fun x_2=>l7 (ilt 20 (o7 x_2.2)) (some (.rt false)) (l9 (G8 (fun(x_3:Int)=>l9 (lat a0.1 x) fun(x_4:
 X4)=>l7 (ilt x_3 (o7 x_4.2)) (l9 (lat a0.1 x) fun x=>l9 (lat x.2 x_3) fun x=>l7 (ilt 80 (o7 x))
 (some (.rt false)) (some (.nx (x9 .i64 x_3 1)))) (some (.ex ()))) 0) fun o=>I7 o (fun(y:PUnit)=>
 some (.nx (x9 .i64 x 1))) fun r=>some (.rt r)))) (some (.ex ()))) 0) fun o=>I7 o (fun(y:
 PUnit)=>l9 (G8 (fun(x:A7)=>l7 (ilt x.2 (o7 a0.2.1)) (l9 (lat a0.2.1 x.2) fun x_1=>l9 (lat a0.2.1 x.2) fun
 (x_2:V7)=>l7 (ilt 80 (o7 x_2.1)) (some (.rt false)) (l7 (ilt 150 (x9 .i64 x.1 (o7 x_1.2.2.2))) (some (.rt false))
 (some (.nx (x9 .i64 x.1 (o7 x_1.2.2.2),x9 .i64 x.2 1))))) (some (.ex ()))) (0,0)) fun o=>I7
 o (fun(y:PUnit)=>l9 (G8 (fun(x:A7)=>l7 (ilt x.2 (o7 a0.2.2)) (l9 (lat a0.2.2 x.2) fun x_1=>l7 (ilt 60
 (x9 .i64 x.1 (o7 x_1.2.2.2.2))) (some (.rt false)) (l9 (lat a0.2.2 x.2) fun x_2=>l9 (jP x_2) fun(x_3:
 Bool)=>l7 (C9 x_3) (some (.rt false)) (some (.nx (x9 .i64 x.1 (o7 x_1.2.2.2.2),x9 .i64 x.2 1))))) (some (.ex
 ()))) (0,0)) fun o=>I7 o (fun(y:PUnit)=>some true) fun r=>some r) fun r=>some r) fun(r:
 Bool)=>some r) fun r=>some r
def s6:FSpec:=mkS ps6 rt6 fun x=>jC x
def b2f:List MG:=[(false,(.dat (.int .u8)))]
def b3y:Ret:=⟨[(.tmp 2,ubM)],[]⟩
def e58:Env:=⟨9,eqs,tt,gl,[],[],[],[],[],[]⟩
def b7t:Ann:=.leaf
def gp (a0:Int):Option Bool:=l7 (ile 97 a0) (some (ile a0 122)) (some false)
def s58:FSpec:=mkS b2f b3y fun x=>gp x
def b2z:List MG:=[(false,(.dat (.int .u8)))]
def b3T:Ret:=⟨[(.tmp 2,ubM)],[]⟩
def e89:Env:=⟨9,eqs,tt,gl,[],[],[],[],[],[]⟩
def b7O:Ann:=.leaf
def jw (a0:Int):Option Bool:=l7 (ile 48 a0) (some (ile a0 57)) (some false)
def s89:FSpec:=mkS b2z b3T fun x=>jw x
def b2g:List MG:=[(false,(.dat .str))]
def b3z:Ret:=⟨[(.tmp 2,uiM)],[]⟩
def e59:Env:=⟨29,eqs,tt,gl,[(58,s58),(89,s89)],[],[],[],[],[]⟩
def b7u:Ann:=.seq lfA (.seq lfA (.seq (.blk (.loop [(3,28)] ⟨[(3,uiM)],[]⟩ 0 ⟨[(3,uiM)],[]⟩ lfA)) lfA))
def iZ (a0:List UInt8):Option Int:=l9 (N7 (fun(x:Int)=>l7 (ilt x (o7 a0)) (l9 (sat a0 x) fun x_1=>
 l9 (gp x_1) fun x_2=>l7 x_2 (some (.inl (x9 .i64 x 1))) (l9 (sat a0 x) fun x_3=>l9
 (jw x_3) fun x_4=>l7 x_4 (some (.inl (x9 .i64 x 1))) (l9 (sat a0 x) fun x_5=>l7 (ieq x_5 95)
 (some (.inl (x9 .i64 x 1))) (some (.inr x))))) (some (.inr x))) 0) fun y=>some y
def s59:FSpec:=mkS b2g b3z fun x=>iZ x
def b2h:List MG:=[(false,(.dat .str))]
def b3A:Ret:=⟨[(.tmp 2,ubM)],[]⟩
def e60:Env:=⟨60,eqs,tt,gl,[],[],[],[],[],[]⟩
def b7v:Ann:=.seq lfA (.seq (.seq lfA (.blk (.seq (.join [(4,60)] ⟨[(4,ubM)],[]⟩ lfA) lfA))) lfA)
def kW (a0:List UInt8):Option Bool:=l9 (l7 (seq a0 [105,102]) (some (seq a0 [105,102])) (l7 (seq a0 [116,104,101,110])
 (some (seq a0 [116,104,101,110])) (l7 (seq a0 [101,108,115,101]) (some (seq a0 [101,108,115,101])) (l7 (seq a0 [111,114]) (some (seq
 a0 [111,114])) (l7 (seq a0 [97,110,100]) (some (seq a0 [97,110,100])) (l7 (seq a0 [110,111,116]) (some (seq a0 [110,111,116])) (l7
 (seq a0 [116,114,117,101]) (some (seq a0 [116,114,117,101])) (l7 (seq a0 [102,97,108,115,101]) (some (seq a0 [102,97,108,115,101]))
 (l7 (seq a0 [116,111,100,97,121]) (some (seq a0 [116,111,100,97,121])) (l7 (seq a0 [115,104,97,114,101]) (some (seq a0 [115,104,
 97,114,101])) (l7 (seq a0 [100,105,118]) (some (seq a0 [100,105,118])) (l7 (seq a0 [114,111,117,110,100]) (some (seq a0 [114,111,
 117,110,100])) (l7 (seq a0 [109,105,110]) (some (seq a0 [109,105,110])) (l7 (seq a0 [109,97,120]) (some (seq a0 [109,97,120])) (l7
 (seq a0 [112,108,117,115]) (some (seq a0 [112,108,117,115])) (l7 (seq a0 [109,111,110,116,104,115]) (some (seq a0 [109,111,110,116,
 104,115])) (l7 (seq a0 [100,97,121,115]) (some (seq a0 [100,97,121,115])) (l7 (seq a0 [121,101,97,114,115]) (some (seq a0 [121,101,
 97,114,115])) (l7 (seq a0 [121,101,97,114]) (some (seq a0 [121,101,97,114])) (l7 (seq a0 [109,111,110,116,104]) (some (seq a0 [109,
 111,110,116,104])) (l7 (seq a0 [116,97,98]) (some (seq a0 [116,97,98])) (l7 (seq a0 [98,97,110,100]) (some (seq a0 [98,97,110,
 100])) (l7 (seq a0 [99,111,117,110,116]) (some (seq a0 [99,111,117,110,116])) (l7 (seq a0 [115,117,109]) (some (seq a0 [115,117,
 109])) (l7 (seq a0 [97,108,108]) (some (seq a0 [97,108,108])) (l7 (seq a0 [97,110,121]) (some (seq a0 [97,110,121])) (l7 (seq a0
 [109,111,115,116]) (some (seq a0 [109,111,115,116])) (l7 (seq a0 [101,110,117,109]) (some (seq a0 [101,110,117,109])) (l7 (seq a0
 [116,97,98,108,101]) (some (seq a0 [116,97,98,108,101])) (l7 (seq a0 [114,111,119]) (some (seq a0 [114,111,119])) (l7 (seq a0 [115,
 99,111,112,101]) (some (seq a0 [115,99,111,112,101])) (l7 (seq a0 [109,101,109,98,101,114,115]) (some (seq a0 [109,101,109,98,
 101,114,115])) (l7 (seq a0 [105,110,112,117,116]) (some (seq a0 [105,110,112,117,116])) (l7 (seq a0 [100,101,102]) (some (seq a0
 [100,101,102])) (l7 (seq a0 [114,117,108,101]) (some (seq a0 [114,117,108,101])) (l7 (seq a0 [111,102]) (some (seq a0 [111,102]))
 (l7 (seq a0 [111,118,101,114]) (some (seq a0 [111,118,101,114])) (l7 (seq a0 [112,114,105,111]) (some (seq a0 [112,114,105,111]))
 (l7 (seq a0 [102,114,111,109]) (some (seq a0 [102,114,111,109])) (l7 (seq a0 [116,111]) (some (seq a0 [116,111])) (l7 (seq a0 [101,
 110,100]) (some (seq a0 [101,110,100])) (l7 (seq a0 [119,104,101,110]) (some (seq a0 [119,104,101,110])) (l7 (seq a0 [105,115]) (some
 (seq a0 [105,115])) (l7 (seq a0 [115,114,99]) (some (seq a0 [115,114,99])) (l7 (seq a0 [98,111,111,108]) (some (seq a0 [98,111,111,
 108])) (l7 (seq a0 [105,110,116]) (some (seq a0 [105,110,116])) (l7 (seq a0 [109,111,110,101,121]) (some (seq a0 [109,111,110,101,
 121])) (l7 (seq a0 [114,97,116,101]) (some (seq a0 [114,97,116,101])) (l7 (seq a0 [100,97,116,101]) (some (seq a0 [100,97,116,
 101])) (l7 (seq a0 [100,111,119,110]) (some (seq a0 [100,111,119,110])) (l7 (seq a0 [117,112]) (some (seq a0 [117,112])) (l7 (seq a0
 [122,101,114,111]) (some (seq a0 [122,101,114,111])) (l7 (seq a0 [97,119,97,121]) (some (seq a0 [97,119,97,121])) (l7 (seq a0 [104,
 97,108,102]) (some (seq a0 [104,97,108,102])) (some (seq a0 [101,118,101,110])))))))))))))))))))))))))))))))))))))))))))))))))))))))) fun(x
 :Bool)=>l7 x (some true) (some false)
def s60:FSpec:=mkS b2h b3A fun x=>kW x
def b1J:List MG:=[(false,(.dat .str))]
def b3c:Ret:=⟨[(.tmp 2,ubM)],[]⟩
def e32:Env:=⟨27,eqs,tt,gl,[(58,s58),(59,s59),(60,s60)],[],[],[],[],[]⟩
def b6X:Ann:=.leaf
def U2 (a0:List UInt8):Option Bool:=l7 (C9 (seq a0 [])) (l9 (sat a0 0) fun x=>l9 (gp x) fun(x:
 Bool)=>l7 x (l9 (iZ a0) fun x=>l7 (ieq x (o7 a0)) (l7 (ile (o7 a0) 16) (l9 (kW a0) fun(x:
 Bool)=>some (C9 x)) (some false)) (some false)) (some false)) (some false)
def s32:FSpec:=mkS b1J b3c fun x=>U2 x
def WY:List MG:=[(true,(.dat y0)),(false,(.rp .str))]
def XB:Ret:=⟨[(.tmp 3,ubM)],[]⟩
def b0N:Env:=⟨8,eqs,tt,gl,[],[],[],[],[],[]⟩
def a5N:Ann:=.leaf
def ru (a0:X4) (a1:List UInt8):Option Bool:=some (seq a0.1 a1)
def Yd:FSpec:=mkS WY XB fun x=>ru x.1 x.2
def Xd:List MG:=[(false,(.dat y1)),(false,(.fn 62 [.str]))]
def XG:Ret:=⟨[(.tmp 4,uiM)],[]⟩
def b0S:Env:=⟨19,eqs,tt,gl,[(62,Yd)],[],[],[],[],[]⟩
def a5S:Ann:=.seq lfA (.seq (.seq lfA (.blk (.loopR [(4,6),(8,19)] ⟨[(8,uiM)],[]⟩ 0 ⟨[],[]⟩ lfA))) lfA)
def af (a0:List X4) (a1:List UInt8):Option Int:=l9 (G8 (fun(x:Int)=>l7 (ilt x (o7 a0))
 (l9 (lat a0 x) fun x_1=>l9 (ru x_1 a1) fun x_2=>l7 x_2 (some (.rt x)) (some (.nx (x9 .i64 x
 1)))) (some (.ex ()))) 0) fun o=>I7 o (fun(y:PUnit)=>some (-1)) fun r=>some r
def a5n:FSpec:=mkS Xd XG fun x=>af x.1 x.2
def WX:List MG:=[(false,(.dat y1)),(false,(.fn 62 [.str]))]
def XA:Ret:=⟨[(.tmp 4,ubM)],[]⟩
def b0M:Env:=⟨9,eqs,tt,gl,[(90,a5n)],[],[],[],[],[]⟩
def a5M:Ann:=.leaf
def X6 (a0:List X4) (a1:List UInt8):Option Bool:=l9 (af a0 a1) fun(x
 :Int)=>some (ile 0 x)
def a5k:FSpec:=mkS WX XA fun x=>X6 x.1 x.2
def b1K:List MG:=[(false,(.dat y1)),(false,(.dat .str))]
def b3d:Ret:=⟨[(.tmp 4,ubM)],[]⟩
def e33:Env:=⟨8,eqs,tt,gl,[(62,Yd),(61,a5k)],[],[],[],[],[]⟩
def b6Y:Ann:=.leaf
def jY (a0:List X4) (a1:List UInt8):Option Bool:=l9 (X6 a0 a1) fun x=>some x
def s33:FSpec:=mkS b1K b3d fun x=>jY x.1 x.2
def b2x:List MG:=[(false,(.dat (.sl .str))),(false,(.dat .str))]
def b3R:Ret:=⟨[(.tmp 4,uiM)],[]⟩
def e87:Env:=⟨19,eqs,tt,gl,[],[],[],[],[],[]⟩
def b7M:Ann:=.seq lfA (.seq (.seq lfA (.blk (.loopR [(4,6),(8,19)] ⟨[(8,uiM)],[]⟩ 0 ⟨[],[]⟩ lfA))) lfA)
def cu (a0:List (List UInt8)) (a1:List UInt8):Option Int:=l9 (G8 (fun(x:Int)=>l7 (ilt x (o7 a0))
 (l9 (lat a0 x) fun x_1=>l7 (seq a1 x_1) (some (.rt x)) (some (.nx (x9 .i64 x 1)))) (some (.ex ())))
 0) fun o=>I7 o (fun(y:PUnit)=>some (-1)) fun r=>some r
def s87:FSpec:=mkS b2x b3R fun x=>cu x.1 x.2
def b2a:List MG:=[(false,(.dat (.sl .str))),(false,(.dat .str))]
def b3t:Ret:=⟨[(.tmp 4,ubM)],[]⟩
def e51:Env:=⟨9,eqs,tt,gl,[(87,s87)],[],[],[],[],[]⟩
def b7o:Ann:=.leaf
def Y6 (a0:List (List UInt8)) (a1:List UInt8):Option Bool:=l9 (cu a0 a1) fun x
 =>some (ile 0 x)
def s51:FSpec:=mkS b2a b3t fun x=>Y6 x.1 x.2
def b1H:List MG:=[(true,(.dat y27)),uiM,(true,(.dat y0))]
def b3a:Ret:=⟨[(.tmp 6,uiM),(.tmp 7,uiM)],[]⟩
def e30:Env:=⟨55,eqs,tt,gl,[(32,s32),(33,s33),(51,s51)],[],[],[],[],[]⟩
def b6V:Ann:=.seq lfA (.seq lfA (.seq (.seq lfA (.blk (.loopR [(6,10),(36,55)] ⟨[(36,uiM)],[]⟩ 1 ⟨[],[]⟩ lfA))) lfA))
def mG (a0:G5) (a1:Int) (a2:X4):Option A7:=l9 (U2 a2.1) fun x=>l7 (C9 x) (some (2,0))
 (l9 (wE a0.1 0 a1) fun x=>l9 (jY x a2.1) fun x=>l7 x (some (7,0)) (l7 (ieq (o7 a2.2) 0) (some
 (5,0)) (l7 (ilt 16 (o7 a2.2)) (some (4,116)) (l9 (G8 (fun(x:Int)=>l7 (ilt x (o7 a2.2)) (l9 (lat a2.2 x) fun x_1=>l9 (U2 x_1) fun x_2=>l7 (C9 x_2) (some (.rt (2,x9 .i64 100 x))) (l9 (wE a2.2 0 x) fun
 (x_3:List (List UInt8))=>l9 (Y6 x_3 x_1) fun x_4=>l7 x_4 (some (.rt (7,x9 .i64 100 x)))
 (some (.nx (x9 .i64 x 1))))) (some (.ex ()))) 0) fun o=>I7 o (fun(y:PUnit)=>some (0,0)) fun(r:
 A7)=>some r))))
def s30:FSpec:=mkS b1H b3a fun x=>mG x.1 x.2.1 x.2.2
def b1r:List MG:=[(true,(.dat y27))]
def b2J:Ret:=⟨[(.cell 2 31,(true,(.dat y29)))],[]⟩
def e15:Env:=⟨35,eqs,tt,gl,[(30,s30)],[],[],[],[],[]⟩
def b6G:Ann:=.seq lfA (.seq lfA (.seq (.seq lfA (.blk (.loopR [(2,7),(15,34),(4000128,4000129)] ⟨[(2,(false,(.box (.dat y29)))),(15,uiM)],[]⟩ 0 ⟨[(2,(false,(.box (.dat y29))))],[]⟩ lfA))) lfA))
def kS (a0:G5):Option J3:=l7 (ilt 8 (o7 a0.1)) (some (4,1,8,0)) (l9 (G8 (fun(x:J3×Int)=>l7
 (ilt x.2 (o7 a0.1)) (l9 (lat a0.1 x.2) fun x_1=>l9 (mG a0 x.2 x_1) fun x_2=>l7 (C9 (ieq x_2.1 0))
 (some (.rt (x_2.1,1,x.2,x_2.2))) (some (.nx (x.1,x9 .i64 x.2 1)))) (some (.ex x.1))) ((0,0,0,0),0)) fun o=>I7 o (fun(y:J3)=>some (0,0,0,0)) fun r=>some r)
def s15:FSpec:=mkS b1r b2J fun x=>kS x
def b2b:List MG:=[(true,(.dat y2)),(false,(.dat y1))]
def b3u:Ret:=⟨[(.tmp 4,ubM)],[]⟩
def e52:Env:=⟨28,eqs,tt,gl,[],[],[],[],[],[]⟩
def b7p:Ann:=.seq lfA (.seq (.seq lfA (.blk (.seq (.join [(7,13)] ⟨[(7,ubM)],[]⟩ lfA) lfA))) lfA)
def U6 (a0:A7) (a1:List X4):Option Bool:=l9 (l7 (ieq a0.1 1) (some (ieq a0.1 1)) (l7 (ieq a0.1 2) (some (ieq a0.1
 2)) (l7 (ieq a0.1 3) (some (ieq a0.1 3)) (l7 (ieq a0.1 4) (some (ieq a0.1 4)) (some (ieq a0.1 5)))))) fun x=>l7 x (some (ieq a0.2
 0)) (l7 (ieq a0.1 6) (l7 (ile 0 a0.2) (some (ilt a0.2 (o7 a1))) (some false)) (some false))
def s52:FSpec:=mkS b2b b3u fun x=>U6 x.1 x.2
def b2c:List MG:=[(true,(.dat y2)),(false,(.dat y1))]
def b3v:Ret:=⟨[(.tmp 4,uiM),(.tmp 5,uiM)],[]⟩
def e53:Env:=⟨30,eqs,tt,gl,[(52,s52)],[],[],[],[],[]⟩
def b7q:Ann:=.leaf
def dM (a0:A7) (a1:List X4):Option A7:=l9 (U6 a0 a1) fun x=>l7 (C9 x) (some (0,-1)) (l7
 (ieq a0.1 1) (some (0,1)) (l7 (ieq a0.1 2) (some (-1000000000000,1000000000000)) (l7 (ieq a0.1 3) (some (-1000000000000000,
 1000000000000000)) (l7 (ieq a0.1 4) (some (-1000000000,1000000000)) (l7 (ieq a0.1 5) (some (0,109572)) (l9 (lat a1 a0.2) fun x
 =>some (0,E9 .i64 (o7 x.2) 1)))))))
def s53:FSpec:=mkS b2c b3v fun x=>dM x.1 x.2
def b2d:List MG:=[(true,(.dat y2))]
def b3w:Ret:=⟨[(.tmp 2,ubM)],[]⟩
def e54:Env:=⟨18,eqs,tt,gl,[],[],[],[],[],[]⟩
def b7r:Ann:=.leaf
def dh (a0:A7):Option Bool:=l7 (ile 0 a0.1) (l7 (ile a0.1 a0.2) (some (ile a0.2 109573)) (some false)) (some false)
def s54:FSpec:=mkS b2d b3w fun x=>dh x
def a1v:List MG:=[(true,(.dat y2))]
def a3t:Ret:=⟨[(.tmp 2,ubM)],[]⟩
def b8e:Env:=⟨12,eqs,tt,gl,[(54,s54)],[],[],[],[],[]⟩
def a8Q:Ann:=.leaf
def gI (a0:A7):Option Bool:=l9 (dh a0) fun x=>l7 x (some (ilt a0.1 a0.2)) (some false)
def b4e:FSpec:=mkS a1v a3t fun x=>gI x
def b2y:List MG:=[(true,(.dat y2)),(true,(.dat y2))]
def b3S:Ret:=⟨[(.cell 4 65,(true,(.dat y2))),(.tmp 5,ubM)],[]⟩
def e88:Env:=⟨34,eqs,tt,gl,[(115,b4e)],[],[],[],[],[]⟩
def b7N:Ann:=.leaf
def dX (a0:A7) (a1:A7):Option (A7×Bool):=l9 (gI a0) fun x=>l7 (C9 x) (some ((0,
 0),false)) (l9 (gI a1) fun x=>l7 (C9 x) (some ((0,0),false)) (l7 (ile (vJ a0.2 a1.2) (mV a0.1 a1.1))
 (some ((0,0),false)) (some ((mV a0.1 a1.1,vJ a0.2 a1.2),true))))
def s88:FSpec:=mkS b2y b3S fun x=>dX x.1 x.2
def b2e:List MG:=[(true,(.dat y4)),(true,(.dat y4))]
def b3x:Ret:=⟨[(.tmp 4,ubM)],[]⟩
def e57:Env:=⟨29,eqs,tt,gl,[(88,s88)],[],[],[],[],[]⟩
def b7s:Ann:=.leaf
def lD (a0:vN) (a1:vN):Option Bool:=l9 (dX a0.1 a1.1) fun x=>l7 x.2 (some (ilt (mV
 a0.2.1 a1.2.1) (vJ a0.2.2.1 a1.2.2.1))) (some false)
def s57:FSpec:=mkS b2e b3x fun x=>lD x.1 x.2
def WW:List MG:=[(true,(.dat y4)),(false,(.rp y4))]
def Xz:Ret:=⟨[(.tmp 3,ubM)],[]⟩
def b0L:Env:=⟨7,eqs,tt,gl,[(57,s57)],[],[],[],[],[]⟩
def a5L:Ann:=.leaf
def fD (a0:vN) (a1:vN):Option Bool:=l9 (lD a0 a1) fun x=>some x
def Yc:FSpec:=mkS WW Xz fun x=>fD x.1 x.2
def WU:List MG:=[(false,(.dat y5)),(false,(.fn 56 [y4]))]
def Xx:Ret:=⟨[(.tmp 4,uiM),(.tmp 5,ubM)],[]⟩
def b0J:Env:=⟨20,eqs,tt,gl,[(56,Yc)],[],[],[],[],[]⟩
def a5J:Ann:=.seq lfA (.seq (.seq lfA (.blk (.loopR [(4,8),(10,20)] ⟨[(10,uiM)],[]⟩ 0 ⟨[],[]⟩ lfA))) lfA)
def dZ (a0:List vN) (a1:vN):Option (Int×Bool):=l9 (G8 (fun(x:Int)=>l7 (ilt x (o7 a0)) (l9 (lat a0 x)
 fun x_1=>l9 (fD x_1 a1) fun x_2=>l7 x_2 (some (.rt (x,true))) (some (.nx (x9 .i64 x 1))))
 (some (.ex ()))) 0) fun o=>I7 o (fun(y:PUnit)=>some (0,false)) fun r=>some r
def a5i:FSpec:=mkS WU Xx fun x=>dZ x.1 x.2
def b1I:List MG:=[(true,(.dat y8)),(false,(.dat y1))]
def b3b:Ret:=⟨[(.tmp 4,uiM),(.tmp 5,uiM)],[]⟩
def e31:Env:=⟨121,eqs,tt,gl,[(52,s52),(53,s53),(54,s54),(56,Yc),(55,a5i)],[],[],[],[],[]⟩
def b6W:Ann:=.seq lfA (.seq lfA (.seq (.joinR [(4,6),(18,30)] ⟨[],[]⟩ lfA) (.seq lfA (.seq lfA (.seq (.seq lfA (.blk (.loopR [(4,6),(10,14),(47,121)] ⟨[(47,uiM)],[]⟩ 0 ⟨[],[]⟩ (.seq lfA (.seq lfA (.seq (.blk (.seq lfA (.seq (.joinR [(4,6),(52,73)] ⟨[],[]⟩ lfA) (.seq (.joinR [(4,6),(73,98)] ⟨[],[]⟩ lfA) lfA)))) lfA)))))) lfA)))))
def lC (a0:V7) (a1:List X4):Option A7:=l7 (ilt 64 (o7 a0.2.2.2)) (some (64,4)) (l9 (l9 (U6
 a0.2.1 a1) fun x=>l7 (C9 x) (some (.inr (-1,8))) (l9 (U6 a0.2.2.1 a1) fun x=>l7 (C9 x) (some
 (.inr (-1,8))) (some (.inl ())))) fun o=>I7 o (fun(x:PUnit)=>l9 (dM a0.2.1 a1) fun x
 =>l9 (dM a0.2.2.1 a1) fun x_1=>l9 (G8 (fun(x_2:Int)=>l7 (ilt x_2 (o7 a0.2.2.2)) (l9 (lat a0.2.2.2 x_2)
 fun x_3=>l9 (l9 (dh x_3.1) fun x=>l7 (C9 x) (some (.inr (x_2,3))) (l7 (ieq x_3.1.1 x_3.1.2)
 (some (.inr (x_2,3))) (l7 (ile x_3.2.2.1 x_3.2.1) (some (.inr (x_2,3))) (some (.inl ()))))) fun o=>I7 o
 (fun(x_4:PUnit)=>l9 (l7 (ilt x_3.2.1 x.1) (some (.inr (x_2,3))) (l7 (ilt x.2 x_3.2.1) (some (.inr (x_2,3))) (l7 (ilt (E9
 .i64 x_3.2.2.1 1) x.1) (some (.inr (x_2,3))) (l7 (ilt x.2 (E9 .i64 x_3.2.2.1 1)) (some (.inr (x_2,3))) (some (.inl
 ())))))) fun o=>I7 o (fun(x:PUnit)=>l7 (ilt x_3.2.2.2 x_1.1) (some (.rt (x_2,3))) (l7 (ilt x_1.2
 x_3.2.2.2) (some (.rt (x_2,3))) (l9 (wE a0.2.2.2 0 x_2) fun x=>l9 (dZ x x_3) fun x=>
 l7 x.2 (some (.rt (x_2,11))) (some (.nx (x9 .i64 x_2 1)))))) fun r=>some (.rt r)) fun r=>some (.rt
 r)) (some (.ex ()))) 0) fun o=>I7 o (fun(y:PUnit)=>some (0,0)) fun r=>some r) fun r=>
 some r)
def s31:FSpec:=mkS b1I b3b fun x=>lC x.1 x.2
def Xa:List MG:=[(true,(.dat y8)),(false,(.rp .str))]
def XD:Ret:=⟨[(.tmp 3,ubM)],[]⟩
def b0P:Env:=⟨8,eqs,tt,gl,[],[],[],[],[],[]⟩
def a5P:Ann:=.leaf
def oV (a0:V7) (a1:List UInt8):Option Bool:=some (seq a0.1 a1)
def Ye:FSpec:=mkS Xa XD fun x=>oV x.1 x.2
def Xe:List MG:=[(false,(.dat y9)),(false,(.fn 64 [.str]))]
def XH:Ret:=⟨[(.tmp 4,uiM)],[]⟩
def b0T:Env:=⟨19,eqs,tt,gl,[(64,Ye)],[],[],[],[],[]⟩
def a5T:Ann:=.seq lfA (.seq (.seq lfA (.blk (.loopR [(4,6),(8,19)] ⟨[(8,uiM)],[]⟩ 0 ⟨[],[]⟩ lfA))) lfA)
def Y4 (a0:List V7) (a1:List UInt8):Option Int:=l9 (G8 (fun(x:Int)=>l7 (ilt x (o7 a0))
 (l9 (lat a0 x) fun x_1=>l9 (oV x_1 a1) fun x_2=>l7 x_2 (some (.rt x)) (some (.nx (x9 .i64
 x 1)))) (some (.ex ()))) 0) fun o=>I7 o (fun(y:PUnit)=>some (-1)) fun r=>some r
def a5o:FSpec:=mkS Xe XH fun x=>Y4 x.1 x.2
def WZ:List MG:=[(false,(.dat y9)),(false,(.fn 64 [.str]))]
def XC:Ret:=⟨[(.tmp 4,ubM)],[]⟩
def b0O:Env:=⟨9,eqs,tt,gl,[(91,a5o)],[],[],[],[],[]⟩
def a5O:Ann:=.leaf
def V4 (a0:List V7) (a1:List UInt8):Option Bool:=l9 (Y4 a0 a1)
 fun x=>some (ile 0 x)
def a5l:FSpec:=mkS WZ XC fun x=>V4 x.1 x.2
def b1L:List MG:=[(false,(.dat y9)),(false,(.dat .str))]
def b3e:Ret:=⟨[(.tmp 4,ubM)],[]⟩
def e34:Env:=⟨8,eqs,tt,gl,[(64,Ye),(63,a5l)],[],[],[],[],[]⟩
def b6Z:Ann:=.leaf
def kV (a0:List V7) (a1:List UInt8):Option Bool:=l9 (V4 a0 a1) fun x=>some x
def s34:FSpec:=mkS b1L b3e fun x=>kV x.1 x.2
def b1s:List MG:=[(true,(.dat y27))]
def b2K:Ret:=⟨[(.cell 2 31,(true,(.dat y29)))],[]⟩
def e16:Env:=⟨68,eqs,tt,gl,[(31,s31),(32,s32),(33,s33),(34,s34)],[],[],[],[],[]⟩
def b6H:Ann:=.seq lfA (.seq lfA (.seq (.seq lfA (.blk (.loopR [(2,8),(16,67),(4000128,4000129)] ⟨[(2,(false,(.box (.dat y29)))),(16,uiM)],[]⟩ 0 ⟨[(2,(false,(.box (.dat y29))))],[]⟩ (.seq lfA (.seq lfA (.seq (.blk (.seq lfA (.seq lfA (.seq lfA (.seq (.join [(5,6),(30,62),(37000320,37000321)] ⟨[(5,(false,(.box (.dat y29))))],[]⟩ lfA) lfA))))) lfA)))))) lfA))
def jI (a0:G5):Option J3:=l7 (ilt 8 (o7 a0.2.1)) (some (4,2,8,0)) (l9 (G8 (fun(x:J3×Int)=>
 l7 (ilt x.2 (o7 a0.2.1)) (l9 (lat a0.2.1 x.2) fun x_1=>l9 (lC x_1 a0.1) fun x_2=>l9 (l9
 (U2 x_1.1) fun x_3=>l7 (C9 x_3) (some (2,2,x.2,0)) (l9 (jY a0.1 x_1.1) fun x_4=>l7 x_4
 (some (7,2,x.2,0)) (l9 (wE a0.2.1 0 x.2) fun x_5=>l9 (kV x_5 x_1.1) fun x_6=>l7 x_6 (some (7,2,
 x.2,0)) (l7 (C9 (ieq x_2.2 0)) (l7 (C9 (ieq x_2.1 (-1))) (some (x_2.2,2,x.2,x9 .i64 100 x_2.1)) (some (x_2.2,2,x.2,0)))
 (some (0,2,x.2,0)))))) fun x_3=>l7 (C9 (ieq x_3.1 0)) (some (.rt x_3)) (some (.nx (x.1,x9 .i64 x.2 1))))
 (some (.ex x.1))) ((0,0,0,0),0)) fun o=>I7 o (fun(y:J3)=>some (0,0,0,0)) fun r=>
 some r)
def s16:FSpec:=mkS b1s b2K fun x=>jI x
def Xc:List MG:=[(true,(.dat y24)),(false,(.rp y24))]
def XF:Ret:=⟨[(.tmp 3,ubM)],[]⟩
def b0R:Env:=⟨9,eqs,tt,gl,[],[],[],[],[],[]⟩
def a5R:Ann:=.leaf
def lW (a0:x8) (a1:x8):Option Bool:=some (seq a0.1 a1.1)
def Yf:FSpec:=mkS Xc XF fun x=>lW x.1 x.2
def Xf:List MG:=[(false,(.dat y25)),(false,(.fn 66 [y24]))]
def XI:Ret:=⟨[(.tmp 4,uiM)],[]⟩
def b0U:Env:=⟨19,eqs,tt,gl,[(66,Yf)],[],[],[],[],[]⟩
def a5U:Ann:=.seq lfA (.seq (.seq lfA (.blk (.loopR [(4,6),(8,19)] ⟨[(8,uiM)],[]⟩ 0 ⟨[],[]⟩ lfA))) lfA)
def Y3 (a0:List x8) (a1:x8):Option Int:=l9 (G8 (fun(x:Int)=>l7 (ilt x (o7 a0))
 (l9 (lat a0 x) fun x_1=>l9 (lW x_1 a1) fun x_2=>l7 x_2 (some (.rt x)) (some (.nx (x9
 .i64 x 1)))) (some (.ex ()))) 0) fun o=>I7 o (fun(y:PUnit)=>some (-1)) fun r=>some r
def a5p:FSpec:=mkS Xf XI fun x=>Y3 x.1 x.2
def Xb:List MG:=[(false,(.dat y25)),(false,(.fn 66 [y24]))]
def XE:Ret:=⟨[(.tmp 4,ubM)],[]⟩
def b0Q:Env:=⟨9,eqs,tt,gl,[(92,a5p)],[],[],[],[],[]⟩
def a5Q:Ann:=.leaf
def N8 (a0:List x8) (a1:x8):Option Bool:=l9 (Y3 a0 a1) fun
 (x:Int)=>some (ile 0 x)
def a5m:FSpec:=mkS Xb XE fun x=>N8 x.1 x.2
def Xg:List MG:=[(true,(.dat y10)),(false,(.rp y10))]
def XJ:Ret:=⟨[(.tmp 3,ubM)],[]⟩
def b0V:Env:=⟨9,eqs,tt,gl,[],[],[],[],[],[]⟩
def a5V:Ann:=.leaf
def lV (a0:Z9) (a1:Z9):Option Bool:=some (seq a0.1 a1.1)
def Yg:FSpec:=mkS Xg XJ fun x=>lV x.1 x.2
def RZ:List MG:=[(false,(.dat y11)),(false,(.fn 93 [y10]))]
def Tc:Ret:=⟨[(.tmp 4,uiM)],[]⟩
def a6d:Env:=⟨19,eqs,tt,gl,[(93,Yg)],[],[],[],[],[]⟩
def ZA:Ann:=.seq lfA (.seq (.seq lfA (.blk (.loopR [(4,6),(8,19)] ⟨[(8,uiM)],[]⟩ 0 ⟨[],[]⟩ lfA))) lfA)
def Y2 (a0:List Z9) (a1:Z9):Option Int:=l9 (G8 (fun(x:Int)=>l7 (ilt x (o7 a0))
 (l9 (lat a0 x) fun x_1=>l9 (lV x_1 a1) fun x_2=>l7 x_2 (some (.rt x)) (some (.nx (x9
 .i64 x 1)))) (some (.ex ()))) 0) fun o=>I7 o (fun(y:PUnit)=>some (-1)) fun r=>some r
def XO:FSpec:=mkS RZ Tc fun x=>Y2 x.1 x.2
def Xh:List MG:=[(false,(.dat y11)),(false,(.fn 93 [y10]))]
def XK:Ret:=⟨[(.tmp 4,ubM)],[]⟩
def b0W:Env:=⟨9,eqs,tt,gl,[(116,XO)],[],[],[],[],[]⟩
def a5W:Ann:=.leaf
def H7 (a0:List Z9) (a1:Z9):Option Bool:=l9 (Y2 a0 a1) fun
 (x:Int)=>some (ile 0 x)
def a5q:FSpec:=mkS Xh XK fun x=>H7 x.1 x.2
def b2i:List MG:=[(true,(.dat y27)),(true,(.dat y10)),(false,(.dat y11)),(false,(.dat y11))]
def b3B:Ret:=⟨[(.tmp 8,uiM)],[]⟩
def e67:Env:=⟨32,eqs,tt,gl,[(93,Yg),(32,s32),(94,a5q),(52,s52)],[],[],[],[],[]⟩
def b7w:Ann:=.leaf
def iH (a0:G5) (a1:Z9) (a2:List Z9) (a3:List Z9):Option Int:=l9 (U2 a1.1) fun x=>
 l7 (C9 x) (some 2) (l9 (H7 a2 a1) fun x=>l7 x (some 7) (l9
 (H7 a3 a1) fun x=>l7 x (some 7) (l9 (U6 a1.2 a0.1) fun x=>l7 (C9
 x) (some 8) (some 0))))
def s67:FSpec:=mkS b2i b3B fun x=>iH x.1 x.2.1 x.2.2.1 x.2.2.2
def b2A:List MG:=[(false,(.dat y11))]
def b3U:Ret:=⟨[(.tmp 2,(false,(.own y2)))],[]⟩
def e95:Env:=⟨19,eqs,tt,gl,[],[],[],[],[],[]⟩
def b7P:Ann:=.seq lfA (.seq lfA (.seq (.seq lfA (.blk (.loop [(3,4),(5,6),(8,18)] ⟨[(3,(false,(.own y2))),(8,uiM)],[]⟩ 0 ⟨[(3,(false,(.own y2)))],[]⟩ lfA))) lfA))
def eQ (a0:List Z9):Option (List A7):=l9 (N7 (fun(x:List A7×Int)=>l7 (ilt x.2 (o7 a0)) (l9 (lat a0
 x.2) fun x_1=>l9 (Y7 x.1 [x_1.2]) fun x_2=>some (.inl (x_2,x9 .i64 x.2 1))) (some (.inr x.1)))
 ([],0)) fun y=>some y
def s95:FSpec:=mkS b2A b3U fun x=>eQ x
def b2j:List MG:=[(true,(.dat y27)),uiM]
def b3C:Ret:=⟨[(.cell 4 132,(true,(.dat y43)))],[]⟩
def e68:Env:=⟨45,eqs,tt,gl,[(95,s95)],[],[],[],[],[]⟩
def b7x:Ann:=.leaf
def dY (a0:G5) (a1:Int):Option D8:=l9 (lat a0.2.2 a1) fun x=>l9 (eQ x.2.2.1) fun
 (x_1:List A7)=>l9 (eQ x.2.2.2.1) fun x_2=>l7 (ile 0 x.2.1) (l7 (ilt x.2.1 (o7 a0.2.2)) (l9 (lat
 a0.2.2 x.2.1) fun x=>l9 (eQ x.2.2.2.1) fun x=>some (a0.1,a0.2.1,x_1,x_2,x,true)) (some (a0.1,
 a0.2.1,x_1,x_2,[],false))) (some (a0.1,a0.2.1,x_1,x_2,[],false))
def s68:FSpec:=mkS b2j b3C fun x=>dY x.1 x.2
def Xj:List MG:=[(true,(.dat y19)),(false,(.rp y19))]
def XM:Ret:=⟨[(.tmp 3,ubM)],[]⟩
def b0Y:Env:=⟨9,eqs,tt,gl,[],[],[],[],[],[]⟩
def a5Y:Ann:=.leaf
def nC (a0:H9) (a1:H9):Option Bool:=some (seq a0.1 a1.1)
def Yh:FSpec:=mkS Xj XM fun x=>nC x.1 x.2
def Si:List MG:=[(false,(.dat y20)),(false,(.fn 97 [y19]))]
def Td:Ret:=⟨[(.tmp 4,uiM)],[]⟩
def a6e:Env:=⟨19,eqs,tt,gl,[(97,Yh)],[],[],[],[],[]⟩
def ZB:Ann:=.seq lfA (.seq (.seq lfA (.blk (.loopR [(4,6),(8,19)] ⟨[(8,uiM)],[]⟩ 0 ⟨[],[]⟩ lfA))) lfA)
def ah (a0:List H9) (a1:H9):Option Int:=l9 (G8 (fun(x:Int)=>l7 (ilt x (o7 a0)) (l9
 (lat a0 x) fun x_1=>l9 (nC x_1 a1) fun x_2=>l7 x_2 (some (.rt x)) (some (.nx (x9 .i64 x
 1)))) (some (.ex ()))) 0) fun o=>I7 o (fun(y:PUnit)=>some (-1)) fun r=>some r
def XP:FSpec:=mkS Si Td fun x=>ah x.1 x.2
def Xi:List MG:=[(false,(.dat y20)),(false,(.fn 97 [y19]))]
def XL:Ret:=⟨[(.tmp 4,ubM)],[]⟩
def b0X:Env:=⟨9,eqs,tt,gl,[(117,XP)],[],[],[],[],[]⟩
def a5X:Ann:=.leaf
def O7 (a0:List H9) (a1:H9):Option Bool:=l9 (ah a0 a1) fun(x:
 Int)=>some (ile 0 x)
def a5r:FSpec:=mkS Xi XL fun x=>O7 x.1 x.2
def b1n:List MG:=[(false,(.dat .str)),(false,(.dat .str))]
def b4f:FSpec:=⟨b1n,[ubM],[],fun x=>jl x.1 x.2⟩
def b2B:List MG:=[(false,(.dat .str))]
def b3V:Ret:=⟨[(.tmp 2,ubM)],[]⟩
def e98:Env:=⟨27,eqs,tt,gl,[(118,b4f)],[],[],[],[],[]⟩
def b7Q:Ann:=.seq lfA (.seq lfA (.seq (.seq lfA (.blk (.loopR [(2,4),(13,27)] ⟨[(13,uiM)],[]⟩ 0 ⟨[],[]⟩ lfA))) lfA))
def jK (a0:List UInt8):Option Bool:=l7 (ilt 64 (o7 a0)) (some false) (l9 (jl a0 [34]) fun x=>l7 x
 (some false) (l9 (G8 (fun(x:Int)=>l7 (ilt x (o7 a0)) (l9 (sat a0 x) fun x_1=>l7 (ilt x_1 32) (some (.rt false))
 (l9 (sat a0 x) fun x_2=>l7 (ilt 126 x_2) (some (.rt false)) (some (.nx (x9 .i64 x 1))))) (some (.ex ())))
 0) fun o=>I7 o (fun(y:PUnit)=>some true) fun r=>some r))
def s98:FSpec:=mkS b2B b3V fun x=>jK x
def a1K:List MG:=[uiM]
def a3I:Ret:=⟨[(.tmp 2,uiM)],[]⟩
def b8t:Env:=⟨47,eqs,tt,gl,[],[],[],[],[],[]⟩
def a9f:Ann:=.seq lfA (.seq (.seq lfA (.blk (.seq (.join [(4,19)] ⟨[(4,ubM)],[]⟩ lfA) (.cond lfA (.seq (.join [(19,26)] ⟨[(19,ubM)],[]⟩ lfA) (.cond lfA (.seq (.join [(26,45)] ⟨[(26,ubM)],[]⟩ lfA) lfA))))))) lfA)
def bz (a0:Int):Option Int:=l9 (l7 (ieq a0 1) (some (ieq a0 1)) (l7 (ieq a0 2) (some (ieq a0 2)) (l7 (ieq a0 3) (some (ieq
 a0 3)) (l7 (ieq a0 4) (some (ieq a0 4)) (l7 (ieq a0 5) (some (ieq a0 5)) (l7 (ieq a0 6) (some (ieq a0 6)) (l7 (ieq a0 7) (some (ieq a0
 7)) (l7 (ieq a0 8) (some (ieq a0 8)) (l7 (ieq a0 9) (some (ieq a0 9)) (l7 (ieq a0 35) (some (ieq a0 35)) (l7 (ieq a0 36) (some (ieq a0
 36)) (l7 (ieq a0 37) (some (ieq a0 37)) (l7 (ieq a0 38) (some (ieq a0 38)) (some (ieq a0 39))))))))))))))) fun x=>l7 x (some 0)
 (l9 (l7 (ieq a0 10) (some (ieq a0 10)) (l7 (ieq a0 25) (some (ieq a0 25)) (l7 (ieq a0 31) (some (ieq a0 31)) (l7 (ieq a0 32) (some
 (ieq a0 32)) (l7 (ieq a0 33) (some (ieq a0 33)) (some (ieq a0 34))))))) fun x=>l7 x (some 1) (l9 (l7 (ieq a0 11) (some (ieq a0
 11)) (l7 (ieq a0 12) (some (ieq a0 12)) (l7 (ieq a0 13) (some (ieq a0 13)) (l7 (ieq a0 14) (some (ieq a0 14)) (l7 (ieq a0 15) (some (ieq
 a0 15)) (l7 (ieq a0 16) (some (ieq a0 16)) (l7 (ieq a0 17) (some (ieq a0 17)) (l7 (ieq a0 18) (some (ieq a0 18)) (l7 (ieq a0 19) (some
 (ieq a0 19)) (l7 (ieq a0 20) (some (ieq a0 20)) (l7 (ieq a0 21) (some (ieq a0 21)) (l7 (ieq a0 22) (some (ieq a0 22)) (l7 (ieq a0 23)
 (some (ieq a0 23)) (l7 (ieq a0 24) (some (ieq a0 24)) (l7 (ieq a0 27) (some (ieq a0 27)) (l7 (ieq a0 28) (some (ieq a0 28)) (l7 (ieq a0
 29) (some (ieq a0 29)) (some (ieq a0 30))))))))))))))))))) fun x=>l7 x (some 2) (l7 (ieq a0 26) (some 3) (some (-1)))))
def UX:FSpec:=mkS a1K a3I fun x=>bz x
def a1I:List MG:=[(false,(.dat y12))]
def a3G:Ret:=⟨[(.tmp 2,uoM),(.tmp 3,uiM),(.tmp 4,uiM)],[]⟩
def b8r:Env:=⟨76,eqs,tt,gl,[(146,UX)],[],[],[],[],[]⟩
def a9d:Ann:=.seq lfA (.seq lfA (.seq lfA (.seq lfA (.seq lfA (.seq (.seq lfA (.blk (.loopR [(2,10),(21,70),(27001152,27001153)] ⟨[(5,uoM),(6,uoM),(21,uiM)],[]⟩ 0 ⟨[(5,uoM),(6,uoM)],[]⟩ lfA))) lfA)))))
def iD (a0:List A7):Option (List Int×A7):=l7 (ilt 48 (o7 a0)) (some ([],0,4)) (l7 (ieq (o7 a0) 0) (some ([],0,
 5)) (l9 (iI (o7 a0) 0) fun x=>l9 (G8 (fun(x:List Int×List Int×Int)=>l7 (ilt x.2.2 (o7 a0)) (l9 (lat a0
 x.2.2) fun x_1=>l9 (bz x_1.1) fun x_2=>l7 (ilt x_2 0) (some (.rt ([],x.2.2,2))) (l7 (ilt (o7 x.2.1)
 x_2) (some (.rt ([],x.2.2,5))) (l9 (lat x.1 x.2.2) fun x_3=>l9 (H6 x.1 (toN x.2.2)) fun x_4=>l7 (ilt 0 x_2)
 (l9 (lat x.2.1 (E9 .i64 (o7 x.2.1) x_2)) fun x_5=>l9 (H6 x.2.1 (toN (E9 .i64 (o7 x.2.1) x_2))) fun(x_6:
 Int)=>l9 (lat (I9 x.1 (toN x.2.2) x.2.2) x.2.2) fun x_7=>l9 (H6 (I9 x.1 (toN x.2.2) x.2.2) (toN x.2.2)) fun x_8=>
 l7 (gK 0 (E9 .i64 (o7 x.2.1) x_2) (o7 x.2.1)) (l9 (lat (I9 (I9 x.1 (toN x.2.2) x.2.2) (toN x.2.2) x_6) x.2.2) fun(x_9:
 Int)=>l9 (H6 (I9 (I9 x.1 (toN x.2.2) x.2.2) (toN x.2.2) x_6) (toN x.2.2)) fun x_10=>l9 (Y7 (dF x.2.1 (toN 0) (toN (E9
 .i64 (o7 x.2.1) x_2))) [x_10]) fun x_11=>l7 (ilt 12 (o7 x_11)) (some (.rt ([],x.2.2,16))) (some (.nx (I9 (I9
 x.1 (toN x.2.2) x.2.2) (toN x.2.2) x_6,x_11,x9 .i64 x.2.2 1)))) none) (l7 (gK 0 (E9 .i64 (o7 x.2.1) x_2) (o7 x.2.1))
 (l9 (lat (I9 x.1 (toN x.2.2) x.2.2) x.2.2) fun x_5=>l9 (H6 (I9 x.1 (toN x.2.2) x.2.2) (toN x.2.2)) fun x_6=>l9
 (Y7 (dF x.2.1 (toN 0) (toN (E9 .i64 (o7 x.2.1) x_2))) [x_6]) fun x_7=>l7 (ilt 12 (o7 x_7)) (some (.rt ([],
 x.2.2,16))) (some (.nx (I9 x.1 (toN x.2.2) x.2.2,x_7,x9 .i64 x.2.2 1)))) none)))) (some (.ex (x.1,x.2.1)))) (x,[],0)) fun(o:
 List Int×List Int⊕List Int×A7)=>I7 o (fun(y:List Int×List Int)=>l7 (ilt 1 (o7 y.2)) (some ([],o7 a0,4)) (some (y.1,0,
 0))) fun r=>some r))
def a6N:FSpec:=mkS a1I a3G fun x=>iD x
def a1J:List MG:=[uiM]
def a3H:Ret:=⟨[(.tmp 2,ubM)],[]⟩
def b8s:Env:=⟨22,eqs,tt,gl,[],[],[],[],[],[]⟩
def a9e:Ann:=.leaf
def aH (a0:Int):Option Bool:=l7 (ieq a0 1) (l7 (ieq a0 1) (some true) (some false)) (l7 (ieq a0 2) (l7 (ieq a0 2) (some
 true) (some false)) (l7 (ieq a0 3) (l7 (ieq a0 3) (some true) (some false)) (l7 (ieq a0 4) (l7 (ieq a0 4) (some true) (some false))
 (l7 (ieq a0 5) (l7 (ieq a0 5) (some true) (some false)) (l7 (ieq a0 6) (l7 (ieq a0 6) (some true) (some false)) (l7 (ieq a0 7) (l7
 (ieq a0 7) (some true) (some false)) (l7 (ieq a0 8) (l7 (ieq a0 8) (some true) (some false)) (l7 (ieq a0 14) (l7 (ieq a0 14) (some true)
 (some false)) (l7 (ieq a0 15) (l7 (ieq a0 15) (some true) (some false)) (l7 (ieq a0 16) (l7 (ieq a0 16) (some true) (some false)) (l7
 (ieq a0 33) (l7 (ieq a0 33) (some true) (some false)) (l7 (ieq a0 34) (l7 (ieq a0 34) (some true) (some false)) (l7 (ieq a0 36) (l7
 (ieq a0 36) (some true) (some false)) (l7 (ieq a0 37) (l7 (ieq a0 37) (some true) (some false)) (l7 (ieq a0 38) (l7 (ieq a0 38) (some
 true) (some false)) (l7 (ieq a0 39) (some true) (some false)))))))))))))))))
def a6O:FSpec:=mkS a1J a3H fun x=>aH x
def a1S:List MG:=[uiM,uiM,(true,(.dat y43))]
def a3R:Ret:=⟨[(.cell 6 47,(true,(.dat y2))),(.tmp 7,uiM)],[]⟩
def b8C:Env:=⟨30,eqs,tt,gl,[(53,s53)],[],[],[],[],[]⟩
def a9o:Ann:=.leaf
def ak (a0:Int) (a1:Int) (a2:D8):Option (A7×Int):=l9 (dM (a1,0) a2.1) fun x=>l7 (ilt
 a0 x.1) (some ((0,0),3)) (l7 (ilt x.2 a0) (some ((0,0),3)) (some ((a1,0),0)))
def b4w:FSpec:=mkS a1S a3R fun x=>ak x.1 x.2.1 x.2.2
def a1T:List MG:=[uiM,(true,(.dat y43))]
def a3S:Ret:=⟨[(.cell 4 47,(true,(.dat y2))),(.tmp 5,uiM)],[]⟩
def b8D:Env:=⟨34,eqs,tt,gl,[],[],[],[],[],[]⟩
def a9p:Ann:=.leaf
def mF (a0:Int) (a1:D8):Option (A7×Int):=l7 (ilt a0 0) (some ((0,0),3)) (l7 (ile (o7 a1.1) (Z5 .i64
 a0 16)) (some ((0,0),6)) (l9 (lat a1.1 (Z5 .i64 a0 16)) fun x=>l7 (ile (o7 x.2) (gz a0 16)) (some ((0,0),6)) (some
 ((6,Z5 .i64 a0 16),0))))
def b4x:FSpec:=mkS a1T a3S fun x=>mF x.1 x.2
def a1U:List MG:=[uiM,(false,(.dat y12)),(true,(.dat y43))]
def a3T:Ret:=⟨[(.cell 6 47,(true,(.dat y2))),(.tmp 7,uiM)],[]⟩
def b8E:Env:=⟨30,eqs,tt,gl,[(52,s52)],[],[],[],[],[]⟩
def a9q:Ann:=.leaf
def Z8 (a0:Int) (a1:List A7) (a2:D8):Option (A7×Int):=l7 (ilt a0 0) (some ((0,0),6)) (l7 (ile (o7 a1)
 a0) (some ((0,0),6)) (l9 (lat a1 a0) fun x=>l9 (U6 x a2.1) fun x=>l7 (C9 x) (some ((0,0),8))
 (l9 (lat a1 a0) fun x=>some (x,0))))
def a6P:FSpec:=mkS a1U a3T fun x=>Z8 x.1 x.2.1 x.2.2
def a1X:List MG:=[uiM]
def a3W:Ret:=⟨[(.tmp 2,ubM)],[]⟩
def b8H:Env:=⟨9,eqs,tt,gl,[],[],[],[],[],[]⟩
def a9t:Ann:=.leaf
def aT (a0:Int):Option Bool:=l7 (ile 0 a0) (some (ile a0 5)) (some false)
def a6Q:FSpec:=mkS a1X a3W fun x=>aT x
def a1V:List MG:=[(true,(.dat y2)),(true,(.dat y2)),(true,(.dat y43))]
def a3U:Ret:=⟨[(.cell 6 47,(true,(.dat y2))),(.tmp 7,uiM)],[]⟩
def b8F:Env:=⟨84,eqs,tt,gl,[(170,a6Q),(52,s52)],[],[],[],[],[]⟩
def a9r:Ann:=.seq lfA (.seq lfA (.seq (.joinR [(6,9),(13,30),(4000384,4000385)] ⟨[(6,(false,(.box (.dat y2)))),(8,uiM)],[]⟩ lfA) (.seq (.joinR [(6,8),(30,40),(9000000,9000001)] ⟨[(6,(false,(.box (.dat y2))))],[]⟩ lfA) (.seq lfA (.seq (.joinR [(6,8),(52,70),(27000000,27000001)] ⟨[(6,(false,(.box (.dat y2))))],[]⟩ lfA) lfA)))))
def eH (a0:A7) (a1:A7) (a2:D8):Option (A7×Int):=l9 (l7 (ieq a0.1 34) (l7 (ilt a0.2 0) (some (.inr
 ((0,0),3))) (l9 (aT (gz a0.2 8)) fun x=>l7 (C9 x) (some (.inr ((0,0),3))) (some (.inl ((0,0),Z5
 .i64 a0.2 8))))) (some (.inl ((0,0),a0.2)))) fun o=>I7 o (fun(x:A7×Int)=>l9 (l7 (ilt
 x.2 0) (some (.inr ((0,0),6))) (l7 (ile (o7 a2.2.1) x.2) (some (.inr ((0,0),6))) (some (.inl x.1)))) fun o
 =>I7 o (fun(x_1:A7)=>l9 (lat a2.2.1 x.2) fun x_2=>l9 (lat a2.2.1 x.2) fun x=>l9 (l9 (U6
 x_2.2.1 a2.1) fun x_3=>l7 (C9 x_3) (some (.inr ((0,0),8))) (l9 (U6 x.2.2.1 a2.1) fun x=>l7 (C9
 x) (some (.inr ((0,0),8))) (l7 (C9 (P6 (ieq a1.1 x_2.2.1.1) (ieq a1.2 x_2.2.1.2))) (some (.inr ((0,0),8))) (some (.inl x_1)))))
 fun o=>I7 o (fun(x_3:A7)=>l7 (ieq a0.1 34) (l7 (C9 (ieq x_2.2.1.1 3)) (some ((0,0),8)) (l7 (C9
 (ieq x.2.2.1.1 4)) (some ((0,0),8)) (some (x_2.2.1,0)))) (some (x.2.2.1,0))) fun r=>some r) fun r=>some r)
 fun r=>some r
def b4y:FSpec:=mkS a1V a3U fun x=>eH x.1 x.2.1 x.2.2
def a2g:List MG:=[uiM]
def a4f:Ret:=⟨[(.tmp 2,ubM)],[]⟩
def b8R:Env:=⟨13,eqs,tt,gl,[],[],[],[],[],[]⟩
def a9D:Ann:=.leaf
def aN (a0:Int):Option Bool:=l7 (ieq a0 2) (some true) (l7 (ieq a0 3) (some true) (some (ieq a0 4)))
def a6S:FSpec:=mkS a2g a4f fun x=>aN x
def a1W:List MG:=[(true,(.dat y2)),(true,(.dat y43))]
def a3V:Ret:=⟨[(.cell 4 47,(true,(.dat y2))),(.tmp 5,uiM)],[]⟩
def b8G:Env:=⟨62,eqs,tt,gl,[(167,a6P),(189,a6S)],[],[],[],[],[]⟩
def a9s:Ann:=.seq lfA (.seq lfA (.seq lfA (.seq lfA (.seq lfA (.seq lfA (.seq (.join [(8,9),(30,58)] ⟨[(8,ubM)],[]⟩ lfA) lfA))))))
def dn (a0:A7) (a1:D8):Option (A7×Int):=l7 (C9 a1.2.2.2.2.2) (some ((0,0),6)) (l7 (ieq a0.1 35) (some
 ((2,0),0)) (l9 (Z8 a0.2 a1.2.2.2.2.1 a1) fun x=>l7 (C9 (ieq x.2 0)) (some ((0,0),x.2)) (l9 (l7 (ieq
 a0.1 36) (l7 (ieq x.1.1 2) (some true) (some (ieq x.1.1 3))) (l7 (ieq a0.1 37) (l7 (ieq a0.1 37) (some (ieq x.1.1 1)) (l7 (ieq a0.1 39)
 (l9 (aN x.1.1) fun x_1=>l7 x_1 (some true) (some (ieq x.1.1 5))) (some false))) (l7 (ieq a0.1 38) (some (ieq x.1.1 1))
 (l7 (ieq a0.1 39) (l9 (aN x.1.1) fun x_1=>l7 x_1 (some true) (some (ieq x.1.1 5))) (some false))))) fun x_1
 =>l7 (C9 x_1) (some ((0,0),8)) (some (x.1,0)))))
def b4z:FSpec:=mkS a1W a3V fun x=>dn x.1 x.2
def a2h:List MG:=[uiM,uiM,uiM]
def a4g:Ret:=⟨[(.cell 6 47,(true,(.dat y2))),(.tmp 7,ubM)],[]⟩
def b8S:Env:=⟨47,eqs,tt,gl,[],[],[],[],[],[]⟩
def a9E:Ann:=.leaf
def rV (a0:Int) (a1:Int) (a2:Int):Option (A7×Bool):=l7 (ieq a0 14) (l7 (ieq a2 4) (l7 (ieq a1 3) (some ((a1,0),
 true)) (some ((a1,0),ieq a1 4))) (some ((a1,0),false))) (l7 (ieq a2 2) (l7 (ieq a1 2) (some ((a1,0),true)) (some ((a1,0),ieq a1 3)))
 (l7 (ieq a0 15) (l7 (ieq a1 3) (l7 (ieq a2 3) (some ((4,0),true)) (some ((0,0),false))) (some ((0,0),false))) (some ((0,0),false))))
def b4G:FSpec:=mkS a2h a4g fun x=>rV x.1 x.2.1 x.2.2
def a1Y:List MG:=[uiM,(false,(.dat y12))]
def a3X:Ret:=⟨[(.cell 4 47,(true,(.dat y2))),(.tmp 5,ubM)],[]⟩
def b8I:Env:=⟨222,eqs,tt,gl,[(189,a6S),(190,b4G)],[],[],[],[],[]⟩
def a9u:Ann:=.seq lfA (.seq lfA (.seq (.joinR [(4,6),(8,221),(4000256,4000257)] ⟨[(4,(false,(.box (.dat y2))))],[]⟩ (.seq lfA (.blk (.seq lfA (.cond lfA (.seq lfA (.cond lfA (.seq (.join [(27,30)] ⟨[(27,ubM)],[]⟩ lfA) (.cond lfA (.seq (.join [(47,51)] ⟨[(47,ubM)],[]⟩ lfA) (.cond lfA (.seq lfA (.cond lfA (.seq (.join [(80,83)] ⟨[(80,ubM)],[]⟩ lfA) (.cond lfA (.seq (.join [(107,110)] ⟨[(107,ubM)],[]⟩ lfA) (.cond lfA (.seq (.join [(118,121)] ⟨[(118,ubM)],[]⟩ lfA) (.cond lfA (.seq (.join [(143,146)] ⟨[(143,ubM)],[]⟩ lfA) (.cond lfA (.seq lfA (.cond lfA (.seq (.join [(178,181)] ⟨[(178,ubM)],[]⟩ lfA) lfA)))))))))))))))))))))))) lfA))
def bD (a0:Int) (a1:List A7):Option (A7×Bool):=l9 (l7 (ieq a0 10) (l9 (lat a1 0) fun x=>l9 (lat
 a1 0) fun x_1=>l9 (aN x_1.1) fun x_2=>some (.inr (x,x_2))) (l7 (ieq a0 25) (l9 (lat a1 0) fun(x:
 A7)=>some (.inr ((1,0),ieq x.1 1))) (l9 (l7 (ieq a0 11) (some (ieq a0 11)) (some (ieq a0 12))) fun x=>l7 x (l9 (lat
 a1 0) fun x=>l9 (lat a1 0) fun x_1=>l9 (lat a1 1) fun x_2=>l7 (P6 (ieq x_1.1 x_2.1) (ieq x_1.2 x_2.2))
 (l9 (lat a1 0) fun x_3=>l9 (aN x_3.1) fun x_4=>some (.inr (x,x_4))) (some (.inr (x,false)))) (l9
 (l7 (ieq a0 13) (some (ieq a0 13)) (l7 (ieq a0 14) (some (ieq a0 14)) (some (ieq a0 15)))) fun x=>l7 x (l9 (lat a1 0) fun(x:
 A7)=>l9 (lat a1 1) fun x_1=>l9 (rV a0 x.1 x_1.1) fun x=>some (.inr x)) (l7 (ieq a0 16)
 (l9 (lat a1 0) fun x=>l9 (lat a1 0) fun x_1=>l7 (ieq x_1.1 3) (l9 (lat a1 1) fun x_2=>some (.inr
 (x,ieq x_2.1 3))) (some (.inr (x,false)))) (l9 (l7 (ieq a0 17) (some (ieq a0 17)) (some (ieq a0 18))) fun x=>l7 x (l9
 (lat a1 0) fun x=>l9 (lat a1 0) fun x_1=>l9 (lat a1 1) fun x_2=>l7 (P6 (ieq x_1.1 x_2.1) (ieq x_1.2
 x_2.2)) (l9 (lat a1 0) fun x_3=>l9 (aN x_3.1) fun x_4=>l7 x_4 (some (.inr (x,true))) (l9 (lat a1 0)
 fun x_5=>some (.inr (x,ieq x_5.1 5)))) (some (.inr (x,false)))) (l9 (l7 (ieq a0 19) (some (ieq a0 19)) (some (ieq a0 20)))
 fun x=>l7 x (l9 (lat a1 0) fun x=>l9 (lat a1 1) fun x_1=>some (.inr ((1,0),P6 (ieq x.1 x_1.1) (ieq
 x.2 x_1.2)))) (l9 (l7 (ieq a0 21) (some (ieq a0 21)) (some (ieq a0 22))) fun x=>l7 x (l9 (lat a1 0) fun x=>l9
 (lat a1 1) fun x_1=>l7 (P6 (ieq x.1 x_1.1) (ieq x.2 x_1.2)) (l9 (lat a1 0) fun x=>l9 (aN x.1) fun(x:
 Bool)=>l7 x (some (.inr ((1,0),true))) (l9 (lat a1 0) fun x=>some (.inr ((1,0),ieq x.1 5)))) (some (.inr ((1,0),
 false)))) (l9 (l7 (ieq a0 23) (some (ieq a0 23)) (some (ieq a0 24))) fun x=>l7 x (l9 (lat a1 0) fun x=>l7 (ieq
 x.1 1) (l9 (lat a1 1) fun x=>some (.inr ((1,0),ieq x.1 1))) (some (.inr ((1,0),false)))) (l7 (ieq a0 26) (l9 (lat a1
 1) fun x=>l9 (lat a1 0) fun x_1=>l7 (ieq x_1.1 1) (l9 (lat a1 1) fun x_2=>l9 (lat a1 2) fun(x_3:
 A7)=>some (.inr (x,P6 (ieq x_2.1 x_3.1) (ieq x_2.2 x_3.2)))) (some (.inr (x,false)))) (l9 (l7 (ieq a0 27) (some (ieq a0 27))
 (some (ieq a0 28))) fun x=>l7 x (l9 (lat a1 0) fun x=>l9 (lat a1 0) fun x_1=>l7 (ieq x_1.1 5) (l9
 (lat a1 1) fun x_2=>some (.inr (x,ieq x_2.1 2))) (some (.inr (x,false)))) (l7 (ieq a0 29) (l7 (ieq a0 29) (l9 (lat a1 0)
 fun x=>l7 (ieq x.1 5) (l9 (lat a1 1) fun x=>some (.inr ((2,0),ieq x.1 5))) (some (.inr ((2,0),false))))
 (l7 (ieq a0 31) (l7 (ieq a0 31) (l9 (lat a1 0) fun x=>some (.inr ((2,0),ieq x.1 5))) (some (.inl (0,0)))) (l7 (ieq
 a0 32) (l9 (lat a1 0) fun x=>some (.inr ((2,0),ieq x.1 5))) (some (.inl (0,0)))))) (l7 (ieq a0 30) (l9 (lat a1 0) fun
 (x:A7)=>l7 (ieq x.1 5) (l9 (lat a1 1) fun x=>some (.inr ((2,0),ieq x.1 5))) (some (.inr ((2,0),false)))) (l7
 (ieq a0 31) (l7 (ieq a0 31) (l9 (lat a1 0) fun x=>some (.inr ((2,0),ieq x.1 5))) (some (.inl (0,0)))) (l7 (ieq a0 32)
 (l9 (lat a1 0) fun x=>some (.inr ((2,0),ieq x.1 5))) (some (.inl (0,0)))))))))))))))))) fun o=>
 I7 o (fun(x:A7)=>some ((0,0),false)) fun r=>some r
def b4A:FSpec:=mkS a1Y a3X fun x=>bD x.1 x.2
def a1L:List MG:=[(true,(.dat y2)),(false,(.dat y12)),(true,(.dat y43))]
def a3J:Ret:=⟨[(.cell 6 47,(true,(.dat y2))),(.tmp 7,uiM)],[]⟩
def b8u:Env:=⟨125,eqs,tt,gl,[(165,b4w),(166,b4x),(167,a6P),(168,b4y),(169,b4z),(170,a6Q),(171,b4A)],[],[],[],[],[]⟩
def a9g:Ann:=.seq lfA (.seq (.joinR [(6,8),(10,114),(4000384,4000385)] ⟨[(6,(false,(.box (.dat y2))))],[]⟩ (.seq lfA (.blk (.seq lfA (.cond lfA (.seq lfA (.cond lfA (.seq lfA (.cond lfA (.seq lfA (.cond lfA (.seq lfA (.cond lfA (.seq lfA (.cond lfA (.seq lfA (.cond lfA (.seq lfA (.cond lfA (.seq lfA (.cond lfA (.seq (.join [(83,86)] ⟨[(83,ubM)],[]⟩ lfA) (.cond lfA (.seq (.join [(94,100)] ⟨[(94,ubM)],[]⟩ lfA) lfA)))))))))))))))))))))))) lfA)
def G6 (a0:A7) (a1:List A7) (a2:D8):Option (A7×Int):=l9 (l7 (ieq a0.1 1) (l9 (ak a0.2 1
 a2) fun x=>some (.inr x)) (l7 (ieq a0.1 2) (l9 (ak a0.2 2 a2) fun x=>some (.inr x))
 (l7 (ieq a0.1 3) (l9 (ak a0.2 3 a2) fun x=>some (.inr x)) (l7 (ieq a0.1 4) (l9 (ak a0.2
 4 a2) fun x=>some (.inr x)) (l7 (ieq a0.1 5) (l9 (ak a0.2 5 a2) fun x=>some (.inr x))
 (l7 (ieq a0.1 6) (l9 (mF a0.2 a2) fun x=>some (.inr x)) (l7 (ieq a0.1 7) (l9 (Z8 a0.2
 a2.2.2.1 a2) fun x=>some (.inr x)) (l7 (ieq a0.1 8) (l9 (Z8 a0.2 a2.2.2.2.1 a2) fun x=>some
 (.inr x)) (l7 (ieq a0.1 9) (some (.inr ((5,0),0))) (l9 (l7 (ieq a0.1 33) (some (ieq a0.1 33)) (some (ieq a0.1 34))) fun x
 =>l7 x (l9 (lat a1 0) fun x=>l9 (eH a0 x a2) fun x=>some (.inr x)) (l9 (l7 (ieq a0.1 35)
 (some (ieq a0.1 35)) (l7 (ieq a0.1 36) (some (ieq a0.1 36)) (l7 (ieq a0.1 37) (some (ieq a0.1 37)) (l7 (ieq a0.1 38) (some (ieq a0.1 38))
 (some (ieq a0.1 39)))))) fun x=>l7 x (l9 (dn a0 a2) fun x=>some (.inr x)) (l7 (ieq a0.1 14)
 (l7 (ieq a0.1 14) (l9 (aT a0.2) fun x=>l7 (C9 x) (some (.inr ((0,0),3))) (some (.inl (0,0)))) (some
 (.inl (0,0)))) (l7 (ieq a0.1 15) (l7 (ieq a0.1 15) (l9 (aT a0.2) fun x=>l7 (C9 x) (some (.inr ((0,0),
 3))) (some (.inl (0,0)))) (some (.inl (0,0)))) (l7 (ieq a0.1 16) (l9 (aT a0.2) fun x=>l7 (C9 x) (some
 (.inr ((0,0),3))) (some (.inl (0,0)))) (some (.inl (0,0))))))))))))))))) fun o=>I7 o (fun(x:A7)=>
 l9 (bD a0.1 a1) fun x=>l7 (C9 x.2) (some ((0,0),8)) (some (x.1,0))) fun r=>some r
def b4p:FSpec:=mkS a1L a3J fun x=>G6 x.1 x.2.1 x.2.2
def a1w:List MG:=[(false,(.dat y12)),(true,(.dat y43))]
def a3u:Ret:=⟨[(.cell 4 47,(true,(.dat y2))),(.tmp 5,uiM),(.tmp 6,uiM)],[]⟩
def b8f:Env:=⟨75,eqs,tt,gl,[(144,a6N),(145,a6O),(146,UX),(147,b4p)],[],[],[],[],[]⟩
def a8R:Ann:=.seq lfA (.seq lfA (.seq lfA (.seq lfA (.seq (.seq lfA (.blk (.loopR [(4,7),(10,16),(29,72),(4000256,4000257)] ⟨[(4,(false,(.box (.dat y2)))),(10,(false,(.own y2))),(29,uiM)],[]⟩ 0 ⟨[(4,(false,(.box (.dat y2)))),(10,(false,(.own y2)))],[]⟩ lfA))) lfA))))
def qC (a0:List A7) (a1:D8):Option (A7×A7):=l9 (iD a0) fun x=>l7 (C9
 (ieq x.2.2 0)) (some ((0,0),x.2)) (l9 (G8 (fun(x:A7×List A7×Int)=>l7 (ilt x.2.2 (o7 a0)) (l9 (lat a0 x.2.2) fun(x_1:
 A7)=>l7 (C9 (ieq x_1.2 0)) (l9 (aH x_1.1) fun x_2=>l7 (C9 x_2) (some (.rt ((0,0),x.2.2,2))) (l9
 (bz x_1.1) fun x_3=>l7 (gK (E9 .i64 (o7 x.2.1) x_3) (o7 x.2.1) (o7 x.2.1)) (l9 (G6 x_1 (dF
 x.2.1 (toN (E9 .i64 (o7 x.2.1) x_3)) (toN (o7 x.2.1))) a1) fun x_4=>l7 (C9 (ieq x_4.2 0)) (some (.rt ((0,0),
 x.2.2,x_4.2))) (l7 (gK 0 (E9 .i64 (o7 x.2.1) x_3) (o7 x.2.1)) (l9 (Y7 (dF x.2.1 (toN 0) (toN (E9 .i64 (o7
 x.2.1) x_3))) [x_4.1]) fun x_5=>some (.nx (x.1,x_5,x9 .i64 x.2.2 1))) none)) none)) (l9 (bz x_1.1) fun(x_2
 :Int)=>l7 (gK (E9 .i64 (o7 x.2.1) x_2) (o7 x.2.1) (o7 x.2.1)) (l9 (G6 x_1 (dF x.2.1 (toN (E9 .i64
 (o7 x.2.1) x_2)) (toN (o7 x.2.1))) a1) fun x_3=>l7 (C9 (ieq x_3.2 0)) (some (.rt ((0,0),x.2.2,x_3.2))) (l7 (gK
 0 (E9 .i64 (o7 x.2.1) x_2) (o7 x.2.1)) (l9 (Y7 (dF x.2.1 (toN 0) (toN (E9 .i64 (o7 x.2.1) x_2))) [x_3.1]) fun(x_4:
 List A7)=>some (.nx (x.1,x_4,x9 .i64 x.2.2 1))) none)) none)) (some (.ex (x.1,x.2.1)))) ((0,0),[],0)) fun o=>I7 o (fun(y:A7×List A7)=>l9 (lat y.2 0) fun x=>l9 (H6 y.2 (toN 0)) fun x=>
 some (x,0,0)) fun r=>some r)
def b4g:FSpec:=mkS a1w a3u fun x=>qC x.1 x.2
def b2C:List MG:=[(false,(.dat y12)),(true,(.dat y43)),(true,(.dat y2))]
def b3W:Ret:=⟨[(.tmp 6,uiM)],[]⟩
def e99:Env:=⟨23,eqs,tt,gl,[(119,b4g)],[],[],[],[],[]⟩
def b7R:Ann:=.leaf
def gm (a0:List A7) (a1:D8) (a2:A7):Option Int:=l9 (qC a0 a1) fun x=>l7 (C9
 (ieq x.2.2 0)) (some x.2.2) (l7 (C9 (P6 (ieq x.1.1 a2.1) (ieq x.1.2 a2.2))) (some 8) (some 0))
def s99:FSpec:=mkS b2C b3W fun x=>gm x.1 x.2.1 x.2.2
def b2k:List MG:=[(true,(.dat y24)),uiM,(true,(.dat y43))]
def b3D:Ret:=⟨[(.tmp 6,uiM)],[]⟩
def e69:Env:=⟨145,eqs,tt,gl,[(32,s32),(97,Yh),(96,a5r),(98,s98),(99,s99)],[],[],[],[],[]⟩
def b7y:Ann:=.seq lfA (.seq lfA (.seq lfA (.seq (.seq lfA (.blk (.loop [(8,9),(10,11),(22,34)] ⟨[(8,uiM),(22,uiM)],[]⟩ 0 ⟨[(8,uiM)],[]⟩ lfA))) (.seq (.joinR [(6,8),(34,122),(7000448,7000449)] ⟨[(7,(false,(.rp y19)))],[]⟩ (.blk (.seq lfA (.cond lfA (.seq lfA (.cond lfA (.seq (.join [(46,58)] ⟨[(46,ubM)],[]⟩ lfA) (.cond lfA (.seq (.join [(58,85)] ⟨[(58,ubM)],[]⟩ lfA) (.cond lfA (.seq (.join [(85,94)] ⟨[(85,ubM)],[]⟩ lfA) lfA))))))))))) lfA))))
def mJ (a0:x8) (a1:Int) (a2:D8):Option Int:=l9 (lat a0.2.2.2.2 a1) fun x=>l9 (wE a0.2.2.2.2 0 a1)
 fun x_1=>l9 (N7 (fun(x_2:A7)=>l7 (ilt x_2.2 (o7 x_1)) (l9 (lat x_1 x_2.2) fun x_3=>l7 (ieq
 x_3.2.1 x.2.1) (some (.inl (x9 .i64 x_2.1 1,x9 .i64 x_2.2 1))) (some (.inl (x_2.1,x9 .i64 x_2.2 1)))) (some
 (.inr x_2.1))) (0,0)) fun y=>l9 (l9 (U2 x.1) fun x_2=>l7 (C9 x_2) (some (.inr 2)) (l9 (wE
 a0.2.2.2.2 0 a1) fun x_3=>l9 (O7 x_3 x) fun x_4=>l7 x_4 (some (.inr 7))
 (l9 (l7 (ilt x.2.1 0) (some true) (some (ile (o7 a0.2.2.2.1) x.2.1))) fun x_5=>l7 x_5 (some (.inr 6)) (l9 (l7 (C9
 (ieq x.2.2.1 (-1))) (l7 (ilt x.2.2.1 0) (some true) (l7 (ile a1 x.2.2.1) (some true) (l9 (lat a0.2.2.2.2 x.2.2.1) fun x_6=>some
 (C9 (ieq x_6.2.1 x.2.1))))) (some false)) fun x_6=>l7 x_6 (some (.inr 9)) (l9 (l7 (ilt x.2.2.2.1 0) (some true) (some (ilt 9
 x.2.2.2.1))) fun x_7=>l7 x_7 (some (.inr 3)) (l7 (ilt x.2.2.2.2.1.1 0) (some (.inr 3)) (l7 (ile x.2.2.2.2.1.2
 x.2.2.2.2.1.1) (some (.inr 3)) (l7 (ilt 109573 x.2.2.2.2.1.2) (some (.inr 3)) (l7 (ile 8 y) (some (.inr 4)) (l9 (jK
 x.2.2.2.2.2.2.2) fun x_8=>l7 (C9 x_8) (some (.inr 2)) (some (.inl x)))))))))))) fun o=>I7 o (fun(x:
 H9)=>l7 (ilt 0 (o7 x.2.2.2.2.2.1)) (l9 (gm x.2.2.2.2.2.1 a2 (1,0)) fun x_2=>l7 (C9 (ieq x_2 0)) (some x_2)
 (l9 (lat a0.2.2.2.1 x.2.1) fun x_3=>l9 (gm x.2.2.2.2.2.2.1 a2 x_3.2) fun x=>some x)) (l9 (lat a0.2.2.2.1
 x.2.1) fun x_2=>l9 (gm x.2.2.2.2.2.2.1 a2 x_2.2) fun x=>some x)) fun r=>some r
def s69:FSpec:=mkS b2k b3D fun x=>mJ x.1 x.2.1 x.2.2
def b9Z:List MG:=[(false,(.ownb (.int .i64)))]
def s73:FSpec:=⟨b9Z,[],[uoM],fun x=>kF x⟩
def c0c:List MG:=[uoM]
def s74:FSpec:=⟨c0c,[uoM],[],fun x=>aQ x⟩
def a1N:List MG:=[uoM]
def a3L:Ret:=⟨[(.tmp 2,uoM)],[]⟩
def b8w:Env:=⟨7,eqs,tt,gl,[(73,s73),(74,s74)],[],[],[],[],[]⟩
def a9i:Ann:=.leaf
def fZ (a0:List Int):Option (List Int):=l9 (kF a0) fun x=>l9 (aQ x) fun x=>some x
def b4r:FSpec:=mkS a1N a3L fun x=>fZ x
def a1E:List MG:=[(false,(.dat y12))]
def a3C:Ret:=⟨[(.tmp 2,uoM),(.tmp 3,uoM),(.tmp 4,uoM)],[]⟩
def b8n:Env:=⟨49,eqs,tt,gl,[(156,b4r)],[],[],[],[],[]⟩
def a8Z:Ann:=.seq lfA (.seq lfA (.seq (.seq lfA (.blk (.loop [(5,8),(9,10),(12,43)] ⟨[(5,uoM),(6,uoM),(7,uoM),(12,uiM)],[]⟩ 0 ⟨[(5,uoM),(6,uoM),(7,uoM)],[]⟩ lfA))) lfA))
def bC (a0:List A7):Option bT:=l9 (N7 (fun(x:List Int×List Int×List Int×Int)=>l7 (ilt x.2.2.2
 (o7 a0)) (l9 (lat a0 x.2.2.2) fun x_1=>l7 (ieq x_1.1 7) (l9 (Y7 x.1 [x_1.2]) fun x_2=>some (.inl (x_2,
 x.2.1,x.2.2.1,x9 .i64 x.2.2.2 1))) (l7 (ieq x_1.1 8) (l9 (Y7 x.2.1 [x_1.2]) fun x_2=>some (.inl (x.1,x_2,
 x.2.2.1,x9 .i64 x.2.2.2 1))) (l7 (ieq x_1.1 36) (l7 (ieq x_1.1 36) (l9 (Y7 x.2.2.1 [x_1.2]) fun x_2=>some
 (.inl (x.1,x.2.1,x_2,x9 .i64 x.2.2.2 1))) (some (.inl (x.1,x.2.1,x.2.2.1,x9 .i64 x.2.2.2 1)))) (l7 (ieq x_1.1 37)
 (l7 (ieq x_1.1 37) (l9 (Y7 x.2.2.1 [x_1.2]) fun x_2=>some (.inl (x.1,x.2.1,x_2,x9 .i64 x.2.2.2 1))) (some
 (.inl (x.1,x.2.1,x.2.2.1,x9 .i64 x.2.2.2 1)))) (l7 (ieq x_1.1 38) (l7 (ieq x_1.1 38) (l9 (Y7 x.2.2.1 [x_1.2]) fun(x_2:
 List Int)=>some (.inl (x.1,x.2.1,x_2,x9 .i64 x.2.2.2 1))) (some (.inl (x.1,x.2.1,x.2.2.1,x9 .i64 x.2.2.2 1)))) (l7
 (ieq x_1.1 39) (l9 (Y7 x.2.2.1 [x_1.2]) fun x_2=>some (.inl (x.1,x.2.1,x_2,x9 .i64 x.2.2.2 1))) (some (.inl
 (x.1,x.2.1,x.2.2.1,x9 .i64 x.2.2.2 1))))))))) (some (.inr (x.1,x.2.1,x.2.2.1)))) ([],[],[],0)) fun y=>l9
 (fZ y.1) fun x=>l9 (fZ y.2.1) fun x_1=>l9 (fZ y.2.2) fun x_2=>
 some (x,x_1,x_2)
def a6L:FSpec:=mkS a1E a3C fun x=>bC x
def a1x:List MG:=[(true,(.dat y19)),uiM]
def a3v:Ret:=⟨[(.tmp 4,uoM)],[]⟩
def b8g:Env:=⟨67,eqs,tt,gl,[(139,a6L)],[],[],[],[],[]⟩
def a8S:Ann:=.seq lfA (.seq lfA (.seq lfA (.seq lfA (.seq (.seq lfA (.blk (.loop [(5,6),(13,14),(32,48)] ⟨[(5,uoM),(32,uiM)],[]⟩ 0 ⟨[(5,uoM)],[]⟩ lfA))) (.seq (.seq lfA (.blk (.loop [(5,6),(15,16),(50,66),(21000000,21000001)] ⟨[(5,uoM),(50,uiM)],[]⟩ 2 ⟨[(5,uoM)],[]⟩ lfA))) lfA)))))
def fJ (a0:H9) (a1:Int):Option (List Int):=l9 (bC a0.2.2.2.2.2.1) fun x=>l9
 (bC a0.2.2.2.2.2.2.1) fun x_1=>l9 (N7 (fun(x_2:List Int×Int)=>l7 (ilt x_2.2 (o7 x.2.1)) (l9
 (lat x.2.1 x_2.2) fun x_3=>l9 (H6 x.2.1 (toN x_2.2)) fun x=>l7 (ile 0 x) (l7 (ilt x a1) (l9 (Y7 x_2.1 [x]) fun(x
 :List Int)=>some (.inl (x,x9 .i64 x_2.2 1))) (some (.inl (x_2.1,x9 .i64 x_2.2 1)))) (some (.inl (x_2.1,x9
 .i64 x_2.2 1)))) (some (.inr x_2.1))) ([],0)) fun y=>l9 (N7 (fun(x:List Int×Int)=>l7 (ilt x.2 (o7
 x_1.2.1)) (l9 (lat x_1.2.1 x.2) fun x_2=>l9 (H6 x_1.2.1 (toN x.2)) fun x_3=>l7 (ile 0 x_3) (l7 (ilt x_3 a1) (l9
 (Y7 x.1 [x_3]) fun x_4=>some (.inl (x_4,x9 .i64 x.2 1))) (some (.inl (x.1,x9 .i64 x.2 1)))) (some (.inl
 (x.1,x9 .i64 x.2 1)))) (some (.inr x.1))) (y,0)) fun y=>some y
def b4h:FSpec:=mkS a1x a3v fun x=>fJ x.1 x.2
def a1y:List MG:=[uoM]
def a3w:Ret:=⟨[(.tmp 2,uoM)],[]⟩
def b8h:Env:=⟨7,eqs,tt,gl,[(73,s73),(74,s74)],[],[],[],[],[]⟩
def a8T:Ann:=.leaf
def kK (a0:List Int):Option (List Int):=l9 (kF a0) fun x=>l9 (aQ x) fun x=>some x
def a6K:FSpec:=mkS a1y a3w fun x=>kK x
def a1n:List MG:=[(true,(.dat y24))]
def a3l:Ret:=⟨[(.tmp 2,(false,(.dat y60)))],[]⟩
def b7V:Env:=⟨58,eqs,tt,gl,[(120,b4h),(121,a6K)],[(181,oiM)],[7,36,50,53],[],[],[]⟩
def a8H:Ann:=.seq lfA (.seq lfA (.seq (.seq lfA (.blk (.loop [(3,4),(5,6),(15,44),(7000704,7000705)] ⟨[(3,(false,(.owns oiM))),(15,uiM)],[]⟩ 0 ⟨[(3,(false,(.owns oiM)))],[]⟩ lfA))) (.seq (.seq lfA (.blk (.loop [(3,4),(6,8),(44,45),(46,57),(15000000,15000001)] ⟨[(3,(false,(.owns oiM))),(46,uiM)],[(44,3)]⟩ 2 ⟨[(3,(false,(.owns oiM)))],[]⟩ lfA))) lfA)))
def eG (a0:x8):Option (List (List Int)):=l9 (iI (o7 a0.2.2.2.1) []) fun x=>l9 (N7 (fun(x:
 List (List Int)×Int)=>l7 (ilt x.2 (o7 a0.2.2.2.2)) (l9 (lat a0.2.2.2.2 x.2) fun x_1=>l7 (ile 0 x_1.2.1) (l7 (ilt
 x_1.2.1 (o7 x.1)) (l7 (inb x_1.2.1 (o7 x.1)) (l9 (H6 x.1 (toN x_1.2.1)) fun x_2=>l9 (fJ x_1 (o7 x.1))
 fun x_3=>l9 (Y7 x_2 x_3) fun x_4=>l7 (inb x_1.2.1 (o7 x.1)) (l7 (IJ (toN x_1.2.1) (toN x_1.2.1)) (l9
 (H6 x.1 (toN x_1.2.1)) fun x_5=>some (.inl (I9 x.1 (toN x_1.2.1) x_4,x9 .i64 x.2 1))) none) none) none) (some
 (.inl (x.1,x9 .i64 x.2 1)))) (some (.inl (x.1,x9 .i64 x.2 1)))) (some (.inr x.1))) (x,0)) fun y=>
 l9 (N7 (fun(x:List (List Int)×Int)=>l7 (ilt x.2 (o7 y)) (l7 (inb x.2 (o7 x.1)) (l9 (H6 x.1 (toN x.2)) fun x_1=>l9 (kK x_1) fun x_2=>l7 (inb x.2 (o7 x.1)) (l7 (IJ (toN x.2) (toN x.2)) (l9 (H6 x.1 (toN x.2))
 fun x_3=>some (.inl (I9 x.1 (toN x.2) x_2,x9 .i64 x.2 1))) none) none) none) (some (.inr x.1))) (y,0)) fun(y:
 List (List Int))=>some y
def a0x:FSpec:=mkS a1n a3l fun x=>eG x
def a1m:List MG:=[(false,(.dat y60)),uiM]
def a3k:Ret:=⟨[(.tmp 4,uoM)],[]⟩
def b7U:Env:=⟨62,eqs,tt,gl,[],[],[],[],[],[]⟩
def a8G:Ann:=.seq lfA (.seq lfA (.seq lfA (.seq (.blk (.loop [(5,8),(9,10),(18,48),(7000960,7000961),(10001088,10001089)] ⟨[(5,(false,(.own .bool))),(6,uoM)],[]⟩ 0 ⟨[(5,(false,(.own .bool)))],[]⟩ (.seq lfA (.blk (.seq lfA (.seq lfA (.seq lfA (.blk (.loop [(5,7),(9,10),(31,48),(14000000,14000002)] ⟨[(5,(false,(.own .bool))),(6,uoM),(31,uiM)],[]⟩ 2 ⟨[(5,(false,(.own .bool))),(6,uoM)],[]⟩ lfA))))))))) (.seq lfA (.seq (.seq lfA (.blk (.loop [(10,13),(50,61)] ⟨[(10,uoM),(50,uiM)],[]⟩ 4 ⟨[(10,uoM)],[]⟩ lfA))) lfA)))))
def kJ (a0:List (List Int)) (a1:Int):Option (List Int):=l9 (iI (o7 a0) false) fun x=>l9 (N7 (fun(x:
 List Bool×List Int)=>l7 (ilt 0 (o7 x.2)) (l9 (lat x.2 0) fun x_1=>l9 (H6 x.2 (toN 0)) fun x_2=>l7 (gK 1
 (o7 x.2) (o7 x.2)) (l9 (lat a0 x_2) fun x_3=>l9 (N7 (fun(x:List Bool×List Int×Int)=>l7 (ilt x.2.2 (o7 x_3))
 (l9 (lat x_3 x.2.2) fun x_4=>l9 (lat x.1 x_4) fun x_5=>l9 (H6 x.1 (toN x_4)) fun x_6=>l7 (C9 x_6)
 (l9 (lat x.1 x_4) fun x_7=>l9 (H6 x.1 (toN x_4)) fun x_8=>l9 (Y7 x.2.1 [x_4]) fun x_9=>some
 (.inl (I9 x.1 (toN x_4) true,x_9,x9 .i64 x.2.2 1))) (some (.inl (x.1,x.2.1,x9 .i64 x.2.2 1)))) (some (.inr (x.1,
 x.2.1)))) (x.1,dF x.2 (toN 1) (toN (o7 x.2)),0)) fun y=>some (.inl y)) none) (some (.inr x.1))) (x,[a1]))
 fun y=>l9 (N7 (fun(x:List Int×Int)=>l7 (ilt x.2 (o7 y)) (l9 (lat y x.2) fun x_1=>l9 (H6 y (toN
 x.2)) fun x_2=>l7 x_2 (l9 (Y7 x.1 [x.2]) fun x_3=>some (.inl (x_3,x9 .i64 x.2 1))) (some (.inl
 (x.1,x9 .i64 x.2 1)))) (some (.inr x.1))) ([],0)) fun y=>some y
def a6I:FSpec:=mkS a1m a3k fun x=>kJ x.1 x.2
def b2m:List MG:=[(true,(.dat y24)),uiM]
def b3F:Ret:=⟨[(.tmp 4,uoM)],[]⟩
def e71:Env:=⟨18,eqs,tt,gl,[(102,a0x),(101,a6I)],[],[],[],[],[]⟩
def b7A:Ann:=.leaf
def di (a0:x8) (a1:Int):Option (List Int):=l7 (ilt a1 0) (some []) (l7 (ile (o7 a0.2.2.2.1) a1) (some []) (l9
 (eG a0) fun x=>l9 (kJ x a1) fun x=>some x))
def s71:FSpec:=mkS b2m b3F fun x=>di x.1 x.2
def a1l:List MG:=[(false,(.dat y28)),uiM]
def a3j:Ret:=⟨[(.tmp 4,uiM)],[]⟩
def b7T:Env:=⟨19,eqs,tt,gl,[],[],[],[],[],[]⟩
def a8F:Ann:=.seq lfA (.seq (.seq lfA (.blk (.loopR [(4,6),(8,19)] ⟨[(8,uiM)],[]⟩ 0 ⟨[],[]⟩ lfA))) lfA)
def iU (a0:List Int) (a1:Int):Option Int:=l9 (G8 (fun(x:Int)=>l7 (ilt x (o7 a0)) (l9 (lat a0 x) fun(x_1
 :Int)=>l7 (ieq a1 x_1) (some (.rt x)) (some (.nx (x9 .i64 x 1)))) (some (.ex ()))) 0) fun o=>I7 o
 (fun(y:PUnit)=>some (-1)) fun r=>some r
def b3X:FSpec:=mkS a1l a3j fun x=>iU x.1 x.2
def b2l:List MG:=[(false,(.dat y28)),uiM]
def b3E:Ret:=⟨[(.tmp 4,ubM)],[]⟩
def e70:Env:=⟨9,eqs,tt,gl,[(100,b3X)],[],[],[],[],[]⟩
def b7z:Ann:=.leaf
def bi (a0:List Int) (a1:Int):Option Bool:=l9 (iU a0 a1) fun x=>some (ile 0 x)
def s70:FSpec:=mkS b2l b3E fun x=>bi x.1 x.2
def b1M:List MG:=[(true,(.dat y27)),uiM]
def b3f:Ret:=⟨[(.tmp 4,uiM),(.tmp 5,uiM)],[]⟩
def e35:Env:=⟨163,eqs,tt,gl,[(33,s33),(34,s34),(66,Yf),(65,a5m),(32,s32),(67,s67),(68,s68),(69,s69),(71,s71),(70,s70)],[],[],[],[],[]⟩
def b7a:Ann:=.seq lfA (.seq lfA (.seq lfA (.seq (.join [(6,7),(8,9),(28,45),(7000384,7000385)] ⟨[(6,(false,(.rp y24))),(8,ubM)],[]⟩ lfA) (.seq (.joinR [(4,6),(45,86)] ⟨[],[]⟩ (.blk (.seq lfA (.cond lfA (.seq lfA (.cond lfA (.seq (.join [(52,76)] ⟨[(52,ubM)],[]⟩ lfA) lfA))))))) (.seq (.seq lfA (.blk (.loopR [(4,6),(9,12),(89,107)] ⟨[(89,uiM)],[]⟩ 1 ⟨[],[]⟩ lfA))) (.seq (.seq lfA (.blk (.loopR [(4,6),(12,15),(110,130)] ⟨[(110,uiM)],[]⟩ 3 ⟨[],[]⟩ lfA))) (.seq lfA (.seq (.seq lfA (.blk (.loopR [(4,6),(16,18),(136,149)] ⟨[(136,uiM)],[]⟩ 5 ⟨[],[]⟩ lfA))) (.seq (.seq lfA (.blk (.loopR [(4,6),(18,19),(152,163)] ⟨[(152,uiM)],[]⟩ 7 ⟨[],[]⟩ lfA))) lfA)))))))))
def kT (a0:G5) (a1:Int):Option A7:=l9 (lat a0.2.2 a1) fun x=>l9 (wE a0.2.2 0 a1) fun x_1
 =>l9 (l9 (jY a0.1 x.1) fun x_2=>l7 x_2 (some (x,true)) (l9 (kV a0.2.1 x.1) fun x_3=>l7 x_3
 (some (x,true)) (l9 (N8 x_1 x) fun x_4=>some (x,x_4)))) fun x=>l9 (l9
 (U2 x.1.1) fun x_2=>l7 (C9 x_2) (some (.inr (2,0))) (l7 x.2 (some (.inr (7,0))) (l9 (l7 (C9 (ieq
 x.1.2.1 (-1))) (l7 (ilt x.1.2.1 0) (some true) (l7 (ile a1 x.1.2.1) (some true) (l9 (lat x_1 x.1.2.1) fun x=>some (C9 (ieq
 x.2.1 (-1)))))) (some false)) fun x_3=>l7 x_3 (some (.inr (6,0))) (l7 (ilt 12 (o7 x.1.2.2.1)) (some (.inr (4,112))) (l7
 (ilt 12 (o7 x.1.2.2.2.1)) (some (.inr (4,212))) (some (.inl ()))))))) fun o=>I7 o (fun(x_2:PUnit)=>l9
 (G8 (fun(x_3:Int)=>l7 (ilt x_3 (o7 x.1.2.2.1)) (l9 (lat x.1.2.2.1 x_3) fun x_4=>l9 (wE x.1.2.2.1 0 x_3) fun(x:
 List Z9)=>l9 (iH a0 x_4 x []) fun x=>l7 (C9 (ieq x 0)) (some (.rt (x,x9 .i64 100 x_3))) (some
 (.nx (x9 .i64 x_3 1)))) (some (.ex ()))) 0) fun o=>I7 o (fun(y:PUnit)=>l9 (G8 (fun(x_3:
 Int)=>l7 (ilt x_3 (o7 x.1.2.2.2.1)) (l9 (lat x.1.2.2.2.1 x_3) fun x_4=>l9 (wE x.1.2.2.2.1 0 x_3) fun x_5
 =>l9 (iH a0 x_4 x.1.2.2.1 x_5) fun x=>l7 (C9 (ieq x 0)) (some (.rt (x,x9 .i64 200 x_3))) (some (.nx
 (x9 .i64 x_3 1)))) (some (.ex ()))) 0) fun o=>I7 o (fun(y:PUnit)=>l9 (dY a0 a1)
 fun x_3=>l9 (G8 (fun(x_4:Int)=>l7 (ilt x_4 (o7 x.1.2.2.2.2)) (l9 (mJ x.1 x_4 x_3) fun x=>
 l7 (C9 (ieq x 0)) (some (.rt (x,x9 .i64 300 x_4))) (some (.nx (x9 .i64 x_4 1)))) (some (.ex ()))) 0) fun(o
 :PUnit⊕A7)=>I7 o (fun(y:PUnit)=>l9 (G8 (fun(x_4:Int)=>l7 (ilt x_4 (o7 x.1.2.2.2.1)) (l9 (di x.1 x_4)
 fun x=>l9 (bi x x_4) fun x=>l7 x (some (.rt (9,x9 .i64 200 x_4))) (some (.nx
 (x9 .i64 x_4 1)))) (some (.ex ()))) 0) fun o=>I7 o (fun(y:PUnit)=>some (0,0)) fun r=>some
 r) fun r=>some r) fun r=>some r) fun r=>some r) fun r=>some r
def s35:FSpec:=mkS b1M b3f fun x=>kT x.1 x.2
def b1t:List MG:=[(true,(.dat y27))]
def b2L:Ret:=⟨[(.cell 2 31,(true,(.dat y29)))],[]⟩
def e17:Env:=⟨31,eqs,tt,gl,[(35,s35)],[],[],[],[],[]⟩
def b6I:Ann:=.seq lfA (.seq lfA (.seq (.seq lfA (.blk (.loopR [(2,6),(14,30),(4000128,4000129)] ⟨[(2,(false,(.box (.dat y29)))),(14,uiM)],[]⟩ 0 ⟨[(2,(false,(.box (.dat y29))))],[]⟩ lfA))) lfA))
def jH (a0:G5):Option J3:=l7 (ilt 4 (o7 a0.2.2)) (some (4,3,4,0)) (l9 (G8 (fun(x:J3×Int)=>
 l7 (ilt x.2 (o7 a0.2.2)) (l9 (kT a0 x.2) fun x_1=>l7 (C9 (ieq x_1.1 0)) (some (.rt (x_1.1,3,x.2,x_1.2)))
 (some (.nx (x.1,x9 .i64 x.2 1)))) (some (.ex x.1))) ((0,0,0,0),0)) fun o=>I7 o (fun(y:J3)
 =>some (0,0,0,0)) fun r=>some r)
def s17:FSpec:=mkS b1t b2L fun x=>jH x
def ps7:List MG:=[(true,(.dat y27))]
def rt7:Ret:=⟨[(.cell 2 31,(true,(.dat y29)))],[]⟩
def e7:Env:=⟨19,eqs,tt,gl,[(15,s15),(16,s16),(17,s17)],[],[],[],[],[]⟩
def an7:Ann:=.leaf
def fK (a0:G5):Option J3:=l9 (kS a0) fun x=>l7 (C9 (ieq x.1 0)) (some x) (l9
 (jI a0) fun x=>l7 (C9 (ieq x.1 0)) (some x) (l9 (jH a0) fun x=>some x))
def s7:FSpec:=mkS ps7 rt7 fun x=>fK x
def b1N:List MG:=[(false,(.dat y12))]
def b3g:Ret:=⟨[(.cell 2 26,(true,(.pair (.dat y1) (.pair (.dat y9) (.owns (.pair (.dat .str) (.pair diM (.pair (.dat y11) (.pair (.dat y11) (.own y19))))))))))],[]⟩
def e36:Env:=⟨22,eqs,tt,gl,[],[(24,(.pair (.dat .str) (.pair diM (.pair (.dat y11) (.pair (.dat y11) (.own y19))))))],[],[],[],[]⟩
def b7b:Ann:=.leaf
def Bg (a0:List A7):Option G5:=some ([],[],[([104,111,117,115,101],-1,[([97],3,0)],[([100],3,0)],[([98,97,115,
 101],0,-1,0,(0,109573),[],a0,[])])])
def s36:FSpec:=mkS b1N b3g fun x=>Bg x
def b1u:List MG:=[]
def b2M:Ret:=⟨[(.cell 0 26,(true,(.dat y27)))],[]⟩
def e18:Env:=⟨36,eqs,tt,gl,[(36,s36)],[(24,(.pair (.dat .str) (.pair diM (.pair (.dat y11) (.pair (.dat y11) (.own y19))))))],[7,10,24,26,29],[],[],[]⟩
def b6J:Ann:=.leaf
def nZ:Option G5:=l9 (Bg [(3,500)]) fun x=>l7 (inb 0 (o7 x.2.2)) (l9 (H6 x.2.2 (toN 0)) fun(x_1:
 x8)=>l9 (lat x_1.2.2.2.2 0) fun x_2=>l9 (H6 x_1.2.2.2.2 (toN 0)) fun x_3=>l7 (inb 0 (o7 x.2.2)) (l7
 (IJ (toN 0) (toN 0)) (l9 (Y7 x_1.2.2.2.2 [([109,111,114,101],x_3.2.1,0,x_3.2.2.2.1,x_3.2.2.2.2.1,[(7,0),(3,100),(21,0)],[(3,
 900)],x_3.2.2.2.2.2.2.2)]) fun x_4=>l7 (inb 0 (o7 x.2.2)) (l7 (IJ (toN 0) (toN 0)) (l9 (H6 x.2.2 (toN 0)) fun(x_5:
 x8)=>some (x.1,x.2.1,I9 x.2.2 (toN 0) (x_5.1,x_5.2.1,x_5.2.2.1,x_5.2.2.2.1,x_4))) none) none) none) none) none
def s18:FSpec:=mkS b1u b2M fun x=>nZ
def c0d:List MG:=[(false,(.dat (.sl .str)))]
def s83:FSpec:=⟨c0d,[(false,(.own .str))],[],fun x=>aZ x⟩
def b1U:List MG:=[(false,(.dat y1))]
def b3n:Ret:=⟨[(.tmp 2,(false,(.own y0)))],[]⟩
def e43:Env:=⟨23,eqs,tt,gl,[(83,s83)],[],[],[],[],[]⟩
def b7i:Ann:=.seq lfA (.seq lfA (.seq (.seq lfA (.blk (.loop [(3,4),(5,6),(8,22)] ⟨[(3,(false,(.own y0))),(8,uiM)],[]⟩ 0 ⟨[(3,(false,(.own y0)))],[]⟩ lfA))) lfA))
def kU (a0:List X4):Option (List X4):=l9 (N7 (fun(x:List X4×Int)=>l7 (ilt x.2 (o7 a0)) (l9 (lat a0
 x.2) fun x_1=>l9 (aZ x_1.2) fun x_2=>l9 (Y7 x.1 [(x_1.1,x_2)]) fun x_3=>some
 (.inl (x_3,x9 .i64 x.2 1))) (some (.inr x.1))) ([],0)) fun y=>some y
def s43:FSpec:=mkS b1U b3n fun x=>kU x
def c0e:List MG:=[(false,(.dat y5))]
def s84:FSpec:=⟨c0e,[(false,(.own y4))],[],fun x=>aZ x⟩
def b1V:List MG:=[(false,(.dat y9))]
def b3o:Ret:=⟨[(.tmp 2,(false,(.own y8)))],[]⟩
def e44:Env:=⟨22,eqs,tt,gl,[(84,s84)],[],[],[],[],[]⟩
def b7j:Ann:=.seq lfA (.seq lfA (.seq (.seq lfA (.blk (.loop [(3,4),(5,6),(8,21)] ⟨[(3,(false,(.own y8))),(8,uiM)],[]⟩ 0 ⟨[(3,(false,(.own y8)))],[]⟩ lfA))) lfA))
def jJ (a0:List V7):Option (List V7):=l9 (N7 (fun(x:List V7×Int)=>l7 (ilt x.2 (o7 a0)) (l9 (lat a0
 x.2) fun x_1=>l9 (aZ x_1.2.2.2) fun x_2=>l9 (Y7 x.1 [(x_1.1,x_1.2.1,x_1.2.2.1,x_2)]) fun x_3=>some (.inl (x_3,x9 .i64 x.2 1))) (some (.inr x.1))) ([],0)) fun y=>some y
def s44:FSpec:=mkS b1V b3o fun x=>jJ x
def b9X:List MG:=[(false,(.dat y11))]
def s45:FSpec:=⟨b9X,[(false,(.own y10))],[],fun x=>aZ x⟩
def b9Y:List MG:=[(false,(.dat y12))]
def s46:FSpec:=⟨b9Y,[(false,(.own y2))],[],fun x=>aZ x⟩
def b1B:List MG:=[(true,(.dat y27))]
def b2U:Ret:=⟨[(.cell 2 26,(true,(.pair (.dat y1) (.pair (.dat y9) (.own y24)))))],[]⟩
def e24:Env:=⟨63,eqs,tt,gl,[(43,s43),(44,s44),(45,s45),(46,s46)],[],[],[],[],[]⟩
def b6P:Ann:=.seq lfA (.seq lfA (.seq (.seq lfA (.blk (.loop [(3,4),(5,7),(8,9),(19,62),(7000192,7000193),(7000704,7000705),(7000896,7000897)] ⟨[(3,(false,(.box (.pair (.own y0) (.pair (.own y8) (.own y24)))))),(19,uiM)],[]⟩ 0 ⟨[(3,(false,(.box (.pair (.own y0) (.pair (.own y8) (.own y24))))))],[]⟩ (.seq lfA (.seq lfA (.seq (.blk (.seq lfA (.seq lfA (.seq lfA (.seq lfA (.seq lfA (.seq (.seq lfA (.blk (.loop [(6,7),(8,9),(36,55),(30000384,30000385),(33001664,33001665),(36001920,36001921)] ⟨[(6,(false,(.box (.pair (.dat .str) (.pair diM (.pair (.own y10) (.pair (.own y10) (.own y19)))))))),(36,uiM)],[]⟩ 2 ⟨[(6,(false,(.box (.pair (.dat .str) (.pair diM (.pair (.own y10) (.pair (.own y10) (.own y19))))))))],[]⟩ lfA))) lfA))))))) lfA)))))) lfA))
def xJ (a0:G5):Option G5:=l9 (kU a0.1) fun x=>l9 (jJ a0.2.1) fun x_1
 =>l9 (N7 (fun(x:G5×Int)=>l7 (ilt x.2 (o7 a0.2.2)) (l9 (lat a0.2.2 x.2) fun x_2=>l9 (aZ x_2.2.2.1) fun
 (x_3:List Z9)=>l9 (aZ x_2.2.2.2.1) fun x_4=>l9 (N7 (fun(x:x8×Int)=>l7 (ilt x.2 (o7
 x_2.2.2.2.2)) (l9 (lat x_2.2.2.2.2 x.2) fun x_5=>l9 (aZ x_5.2.2.2.2.2.1) fun x_6=>l9 (aZ
 x_5.2.2.2.2.2.2.1) fun x_7=>l9 (Y7 x.1.2.2.2.2 [(x_5.1,x_5.2.1,x_5.2.2.1,x_5.2.2.2.1,x_5.2.2.2.2.1,x_6,x_7,
 x_5.2.2.2.2.2.2.2)]) fun x_8=>some (.inl ((x.1.1,x.1.2.1,x.1.2.2.1,x.1.2.2.2.1,x_8),x9 .i64 x.2 1))) (some (.inr
 x.1))) ((x_2.1,x_2.2.1,x_3,x_4,[]),0)) fun y=>l9 (Y7 x.1.2.2 [y]) fun x_5=>some (.inl ((x.1.1,x.1.2.1,
 x_5),x9 .i64 x.2 1))) (some (.inr x.1))) ((x,x_1,[]),0)) fun y=>some y
def s24:FSpec:=mkS b1B b2U fun x=>xJ x
def b1W:List MG:=[(true,(.dat y24)),uiM]
def b3p:Ret:=⟨[(.tmp 4,uiM)],[]⟩
def e47:Env:=⟨20,eqs,tt,gl,[],[],[],[],[],[]⟩
def b7k:Ann:=.leaf
def iK (a0:x8) (a1:Int):Option Int:=l9 (lat a0.2.2.2.2 a1) fun x=>l7 (ilt x.2.2.1 0) (some (-1)) (l7 (ile
 a1 x.2.2.1) (some (-1)) (some x.2.2.1))
def s47:FSpec:=mkS b1W b3p fun x=>iK x.1 x.2
def b1E:List MG:=[(true,(.dat y24)),(false,(.dat y28))]
def b2X:Ret:=⟨[(.tmp 4,(false,(.own .bool))),(.tmp 5,(false,(.own .bool)))],[]⟩
def e27:Env:=⟨56,eqs,tt,gl,[(47,s47)],[],[],[],[],[]⟩
def b6S:Ann:=.seq lfA (.seq lfA (.seq lfA (.seq (.seq lfA (.blk (.loop [(6,8),(9,11),(21,54),(7000896,7000897),(10001152,10001153)] ⟨[(6,(false,(.own .bool))),(7,(false,(.own .bool))),(21,uiM)],[]⟩ 0 ⟨[(6,(false,(.own .bool))),(7,(false,(.own .bool)))],[]⟩ (.seq lfA (.seq lfA (.seq (.blk (.seq lfA (.seq lfA (.seq lfA (.seq lfA (.blk (.loop [(6,7),(10,11),(38,53),(17000000,17000001)] ⟨[(6,(false,(.own .bool))),(10,uiM)],[]⟩ 2 ⟨[(6,(false,(.own .bool)))],[]⟩ lfA))))))) lfA)))))) lfA)))
def fV (a0:x8) (a1:List Int):Option (List Bool×List Bool):=l9 (iI (o7 a0.2.2.2.2) false) fun x=>
 l9 (iI (o7 a0.2.2.2.2) false) fun x_1=>l9 (N7 (fun(x:List Bool×List Bool×Int)=>l7 (ilt x.2.2 (o7 a1))
 (l9 (lat a1 x.2.2) fun x_2=>l7 (ilt x_2 0) (some (.inl (x.1,x.2.1,x9 .i64 x.2.2 1))) (l7 (ile (o7 a0.2.2.2.2) x_2)
 (some (.inl (x.1,x.2.1,x9 .i64 x.2.2 1))) (l9 (lat x.2.1 x_2) fun x_3=>l9 (H6 x.2.1 (toN x_2)) fun x_4=>
 l9 (N7 (fun(x:List Bool×Int)=>l7 (ile 0 x.2) (l9 (lat x.1 x.2) fun x_5=>l9 (H6 x.1 (toN x.2)) fun x_6=>
 l7 (C9 x_6) (l9 (lat x.1 x.2) fun x_7=>l9 (H6 x.1 (toN x.2)) fun x_8=>l9 (iK a0 x.2) fun(x_9:
 Int)=>some (.inl (I9 x.1 (toN x.2) true,x_9))) (some (.inr x.1))) (some (.inr x.1))) (x.1,x_2)) fun y=>some (.inl
 (y,I9 x.2.1 (toN x_2) true,x9 .i64 x.2.2 1))))) (some (.inr (x.1,x.2.1)))) (x,x_1,0)) fun y=>some y
def s27:FSpec:=mkS b1E b2X fun x=>fV x.1 x.2
def b1F:List MG:=[(false,(.dat (.sl .bool)))]
def b2Y:Ret:=⟨[(.tmp 2,uoM)],[]⟩
def e28:Env:=⟨29,eqs,tt,gl,[],[],[],[],[],[]⟩
def b6T:Ann:=.seq lfA (.seq lfA (.seq lfA (.seq (.seq lfA (.blk (.loop [(3,7),(12,28),(7000576,7000577)] ⟨[(3,uoM),(4,uiM),(12,uiM)],[]⟩ 0 ⟨[(3,uoM)],[]⟩ lfA))) lfA)))
def fB (a0:List Bool):Option (List Int):=l9 (iI (o7 a0) 0) fun x=>l9 (N7 (fun(x:List Int×A7)
 =>l7 (ilt x.2.2 (o7 a0)) (l9 (lat a0 x.2.2) fun x_1=>l9 (lat x.1 x.2.2) fun x_2=>l9 (H6 x.1 (toN x.2.2)) fun
 (x_3:Int)=>l7 x_1 (l9 (lat (I9 x.1 (toN x.2.2) (-1)) x.2.2) fun x_4=>l9 (H6 (I9 x.1 (toN x.2.2) (-1)) (toN x.2.2)) fun
 (x_5:Int)=>some (.inl (I9 (I9 x.1 (toN x.2.2) (-1)) (toN x.2.2) x.2.1,x9 .i64 x.2.1 1,x9 .i64 x.2.2 1))) (some
 (.inl (I9 x.1 (toN x.2.2) (-1),x.2.1,x9 .i64 x.2.2 1)))) (some (.inr x.1))) (x,0,0)) fun y=>some y
def s28:FSpec:=mkS b1F b2Y fun x=>fB x
def b2v:List MG:=[(true,(.dat y2))]
def b3P:Ret:=⟨[(.cell 2 54,(true,(.dat y3)))],[]⟩
def e85:Env:=⟨8,eqs,tt,gl,[],[],[],[],[],[]⟩
def b7K:Ann:=.leaf
def zF (a0:A7):Option G9:=some (a0.1,a0.2,0)
def s85:FSpec:=mkS b2v b3P fun x=>zF x
def b1X:List MG:=[(true,(.dat y24)),uiM]
def b3q:Ret:=⟨[(.tmp 4,(false,(.own y2)))],[]⟩
def e48:Env:=⟨64,eqs,tt,gl,[(85,s85)],[],[],[],[],[]⟩
def b7l:Ann:=.seq lfA (.seq (.joinR [(4,5),(6,15)] ⟨[],[]⟩ lfA) lfA)
def gq (a0:x8) (a1:Int):Option (List A7):=l9 (l7 (ilt a1 0) (some (.inr [])) (l7 (ile (o7 a0.2.2.2.1) a1)
 (some (.inr [])) (some (.inl ())))) fun o=>I7 o (fun(x:PUnit)=>l9 (lat a0.2.2.2.1 a1) fun(x:
 Z9)=>l9 (zF x.2) fun x=>l7 (ieq x.1 1) (some [(1,x.2.2)]) (l7 (ieq x.1 2) (some [(2,x.2.2)]) (l7 (ieq x.1 3)
 (some [(3,x.2.2)]) (l7 (ieq x.1 4) (some [(4,x.2.2)]) (l7 (ieq x.1 5) (some [(5,x.2.2)]) (l7 (ieq x.1 6) (some [(6,x9 .i64
 (bJ .i64 16 x.2.1) x.2.2)]) (some []))))))) fun r=>some r
def s48:FSpec:=mkS b1X b3q fun x=>gq x.1 x.2
def b1C:List MG:=[(true,(.dat y24)),(false,(.dat y28))]
def b2V:Ret:=⟨[(.tmp 4,(false,(.own y19)))],[]⟩
def e25:Env:=⟨62,eqs,tt,gl,[(27,s27),(28,s28),(47,s47),(48,s48)],[],[],[],[],[]⟩
def b6Q:Ann:=.seq lfA (.seq lfA (.seq lfA (.seq lfA (.seq (.seq lfA (.blk (.loop [(8,12),(23,61)] ⟨[(8,(false,(.own y19))),(23,uiM)],[]⟩ 0 ⟨[(8,(false,(.own y19)))],[]⟩ lfA))) lfA))))
def kY (a0:x8) (a1:List Int):Option (List H9):=l9 (fV a0 a1) fun x=>l9
 (fB x.1) fun x_1=>l9 (N7 (fun(x_2:List H9×Int)=>l7 (ilt x_2.2 (o7 a0.2.2.2.2)) (l9 (lat
 a0.2.2.2.2 x_2.2) fun x_3=>l9 (lat x.1 x_2.2) fun x_4=>l9 (H6 x.1 (toN x_2.2)) fun x_5=>l7 (C9 x_5)
 (some (.inl (x_2.1,x9 .i64 x_2.2 1))) (l9 (iK a0 x_2.2) fun x_6=>l7 (ile 0 x_6) (l9 (lat x_1 x_6) fun
 (x_7:Int)=>l9 (H6 x_1 (toN x_6)) fun x_8=>l9 (lat x.2 x_2.2) fun x_9=>l9 (H6 x.2 (toN x_2.2)) fun x=>
 l7 (C9 x) (l9 (gq a0 x_3.2.1) fun x=>l9 (Y7 x_2.1 [(x_3.1,x_3.2.1,x_8,x_3.2.2.2.1,x_3.2.2.2.2.1,[(1,
 0)],x,x_3.2.2.2.2.2.2.2)]) fun x=>some (.inl (x,x9 .i64 x_2.2 1))) (l9 (Y7 x_2.1 [(x_3.1,x_3.2.1,x_8,
 x_3.2.2.2)]) fun x=>some (.inl (x,x9 .i64 x_2.2 1)))) (l9 (lat x.2 x_2.2) fun x_7=>l9 (H6 x.2 (toN
 x_2.2)) fun x=>l7 (C9 x) (l9 (gq a0 x_3.2.1) fun x=>l9 (Y7 x_2.1 [(x_3.1,x_3.2.1,x_3.2.2.1,
 x_3.2.2.2.1,x_3.2.2.2.2.1,[(1,0)],x,x_3.2.2.2.2.2.2.2)]) fun x=>some (.inl (x,x9 .i64 x_2.2 1))) (l9 (Y7
 x_2.1 [x_3]) fun x=>some (.inl (x,x9 .i64 x_2.2 1)))))) (some (.inr x_2.1))) ([],0)) fun y=>some y
def s25:FSpec:=mkS b1C b2V fun x=>kY x.1 x.2
def b1l:List MG:=[(true,(.dat y27)),uiM,(false,(.dat y28)),(false,(.dat y28))]
def b2D:Ret:=⟨[(.cell 8 26,(true,(.dat y27)))],[]⟩
def e10:Env:=⟨68,eqs,tt,gl,[(24,s24),(25,s25)],[],[],[],[],[]⟩
def b6B:Ann:=.seq lfA (.seq lfA (.seq (.joinR [(8,9),(13,23),(4000512,4000513)] ⟨[(8,(false,(.box (.dat y27))))],[]⟩ lfA) lfA))
def X0 (a0:G5) (a1:Int) (a2:List Int) (a3:List Int):Option G5:=l9 (xJ a0) fun x=>l9 (l7 (ilt
 a1 0) (some (.inr x)) (l7 (ile (o7 x.2.2) a1) (some (.inr x)) (some (.inl ([],[],[]))))) fun o=>I7 o (fun(x_1:
 G5)=>l9 (lat x.2.2 a1) fun x_2=>l9 (H6 x.2.2 (toN a1)) fun x_3=>l9 (kY x_3 a2) fun x_4=>l9 (lat x.2.2 a1) fun x_5=>l9 (H6 x.2.2 (toN a1)) fun x_6=>l9 (lat (I9 x.2.2 (toN a1) (x_6.1,
 x_6.2.1,x_6.2.2.1,x_6.2.2.2.1,x_4)) a1) fun x_7=>l9 (H6 (I9 x.2.2 (toN a1) (x_6.1,x_6.2.1,x_6.2.2.1,x_6.2.2.2.1,x_4)) (toN
 a1)) fun x_8=>l7 (ile 0 x_8.2.1) (l7 (ilt x_8.2.1 (o7 (I9 x.2.2 (toN a1) (x_6.1,x_6.2.1,x_6.2.2.1,x_6.2.2.2.1,x_4))))
 (l7 (C9 (ieq x_8.2.1 a1)) (l9 (lat (I9 x.2.2 (toN a1) (x_6.1,x_6.2.1,x_6.2.2.1,x_6.2.2.2.1,x_4)) x_8.2.1) fun x_9=>l9
 (H6 (I9 x.2.2 (toN a1) (x_6.1,x_6.2.1,x_6.2.2.1,x_6.2.2.2.1,x_4)) (toN x_8.2.1)) fun x_10=>l9 (kY x_10 a3) fun
 (x_11:List H9)=>l9 (lat (I9 x.2.2 (toN a1) (x_6.1,x_6.2.1,x_6.2.2.1,x_6.2.2.2.1,x_4)) x_8.2.1) fun x_12=>l9 (H6
 (I9 x.2.2 (toN a1) (x_6.1,x_6.2.1,x_6.2.2.1,x_6.2.2.2.1,x_4)) (toN x_8.2.1)) fun x_13=>some (x.1,x.2.1,I9 (I9 x.2.2 (toN a1)
 (x_6.1,x_6.2.1,x_6.2.2.1,x_6.2.2.2.1,x_4)) (toN x_8.2.1) (x_13.1,x_13.2.1,x_13.2.2.1,x_13.2.2.2.1,x_11))) (some (x.1,x.2.1,I9 x.2.2 (toN
 a1) (x_6.1,x_6.2.1,x_6.2.2.1,x_6.2.2.2.1,x_4)))) (some (x.1,x.2.1,I9 x.2.2 (toN a1) (x_6.1,x_6.2.1,x_6.2.2.1,x_6.2.2.2.1,x_4)))) (some
 (x.1,x.2.1,I9 x.2.2 (toN a1) (x_6.1,x_6.2.1,x_6.2.2.1,x_6.2.2.2.1,x_4)))) fun r=>some r
def s10:FSpec:=mkS b1l b2D fun x=>X0 x.1 x.2.1 x.2.2.1 x.2.2.2
def a1C:List MG:=[(true,(.dat y27)),(false,(.dat y30)),(false,(.dat y11))]
def a3A:Ret:=⟨[(.tmp 6,uiM),(.tmp 7,uiM)],[]⟩
def b8l:Env:=⟨71,eqs,tt,gl,[(53,s53)],[],[],[],[],[]⟩
def a8X:Ann:=.seq lfA (.seq lfA (.seq lfA (.seq (.seq lfA (.blk (.loopR [(6,13),(29,71)] ⟨[(29,uiM)],[]⟩ 0 ⟨[],[]⟩ lfA))) lfA)))
def ig (a0:G5) (a1:List G9) (a2:List Z9):Option A7:=l7 (ilt (o7 a1) (o7 a2)) (some (o7 a1,5))
 (l7 (ilt (o7 a2) (o7 a1)) (some (o7 a2,4)) (l9 (G8 (fun(x:Int)=>l7 (ilt x (o7 a1)) (l9 (lat a1 x) fun x_1=>
 l9 (lat a2 x) fun x_2=>l7 (C9 (ieq x_1.1 x_2.2.1)) (some (.rt (x,8))) (l7 (C9 (ieq x_1.2.1 x_2.2.2)) (some (.rt (x,
 8))) (l9 (dM x_2.2 a0.1) fun x_3=>l7 (ilt x_1.2.2 x_3.1) (some (.rt (x,3))) (l7 (ilt x_3.2 x_1.2.2) (some (.rt
 (x,3))) (some (.nx (x9 .i64 x 1))))))) (some (.ex ()))) 0) fun o=>I7 o (fun(y:PUnit)=>some (0,0))
 fun r=>some r))
def b4l:FSpec:=mkS a1C a3A fun x=>ig x.1 x.2.1 x.2.2
def a1D:List MG:=[(true,(.dat y27)),uiM]
def a3B:Ret:=⟨[(.tmp 4,(false,(.dat y11))),(.tmp 5,uiM)],[]⟩
def b8m:Env:=⟨28,eqs,tt,gl,[],[],[],[],[],[]⟩
def a8Y:Ann:=.leaf
def lJ (a0:G5) (a1:Int):Option (List Z9×Int):=l9 (lat a0.2.2 a1) fun x=>l7 (ilt x.2.1 0) (some
 ([],0)) (l7 (ile (o7 a0.2.2) x.2.1) (some ([],0)) (l9 (lat a0.2.2 x.2.1) fun x=>some (x.2.2.1,8)))
def b4m:FSpec:=mkS a1D a3B fun x=>lJ x.1 x.2
def a1q:List MG:=[(true,(.dat y27)),uiM,(true,(.dat y33))]
def a3o:Ret:=⟨[(.tmp 6,uiM),(.tmp 7,uiM),(.tmp 8,uiM)],[]⟩
def b7Z:Env:=⟨84,eqs,tt,gl,[(137,b4l),(138,b4m)],[],[],[],[],[]⟩
def a8L:Ann:=.seq lfA (.seq (.joinR [(6,9),(17,26)] ⟨[],[]⟩ lfA) (.seq (.joinR [(6,9),(26,34)] ⟨[],[]⟩ lfA) (.seq lfA (.seq lfA (.seq lfA (.seq (.seq lfA (.blk (.loopR [(6,9),(13,17),(66,84)] ⟨[(66,uiM)],[]⟩ 0 ⟨[],[]⟩ lfA))) lfA))))))
def qh (a0:G5) (a1:Int) (a2:ET):Option G9:=l9 (l7 (ilt a1 0) (some (.inr (-1,-1,6))) (l7 (ile (o7
 a0.2.2) a1) (some (.inr (-1,-1,6))) (some (.inl ())))) fun o=>I7 o (fun(x:PUnit)=>l9 (l7 (ilt a2.1
 0) (some (.inr (-1,-1,3))) (l7 (ilt 109572 a2.1) (some (.inr (-1,-1,3))) (some (.inl ())))) fun o=>I7
 o (fun(x:PUnit)=>l9 (lat a0.2.2 a1) fun x=>l9 (ig a0 a2.2.1 x.2.2.1) fun x=>l7 (C9 (ieq
 x.2 0)) (some (-1,x)) (l9 (lJ a0 a1) fun x=>l7 (ilt x.2 (o7 a2.2.2)) (some (x.2,-1,4)) (l9
 (G8 (fun(x_1:Int)=>l7 (ilt x_1 (o7 a2.2.2)) (l9 (lat a2.2.2 x_1) fun x_2=>l9 (ig a0 x_2 x.1)
 fun x=>l7 (C9 (ieq x.2 0)) (some (.rt (x_1,x))) (some (.nx (x9 .i64 x_1 1)))) (some (.ex ()))) 0) fun(o
 :PUnit⊕G9)=>I7 o (fun(y:PUnit)=>some (0,0,0)) fun r=>some r))) fun r=>some r) fun r=>some r
def b3Z:FSpec:=mkS a1q a3o fun x=>qh x.1 x.2.1 x.2.2
def b2n:List MG:=[(true,(.dat y27)),uiM,(true,(.dat y33)),ubM,uiM]
def b3H:Ret:=⟨[(.cell 10 60,(true,(.dat y29)))],[]⟩
def e75:Env:=⟨63,eqs,tt,gl,[(7,s7),(110,b3Z)],[],[],[],[],[]⟩
def b7C:Ann:=.seq lfA (.seq lfA (.seq (.joinR [(10,11),(21,49),(4000640,4000641)] ⟨[(10,(false,(.box (.dat y29))))],[]⟩ lfA) lfA))
def lK (a0:G5) (a1:Int) (a2:ET) (a3:Bool) (a4:Int):Option J3:=l9 (fK a0) fun x
 =>l7 (C9 (ieq x.1 0)) (some (1,-1,-1,-1)) (l9 (l7 (ilt a1 0) (some (.inr (6,-1,-1,-1))) (l7 (ile (o7 a0.2.2) a1) (some
 (.inr (6,-1,-1,-1))) (l7 a3 (l7 (ilt a4 0) (some (.inr (6,-1,-1,-1))) (l9 (lat a0.2.2 a1) fun x=>l7 (ile (o7
 x.2.2.2.1) a4) (some (.inr (6,-1,-1,-1))) (some (.inl (0,0,0,0))))) (some (.inl (0,0,0,0)))))) fun o=>
 I7 o (fun(x:J3)=>l9 (qh a0 a1 a2) fun x=>l7 (C9 (ieq x.2.2 0)) (some (x.2.2,x.1,-1,-1)) (some
 (0,0,0,0))) fun r=>some r)
def s75:FSpec:=mkS b2n b3H fun x=>lK x.1 x.2.1 x.2.2.1 x.2.2.2.1 x.2.2.2.2
def b2o:List MG:=[(true,(.dat y27)),uiM]
def b3I:Ret:=⟨[(.tmp 4,(false,(.box (.pair (.dat y24) (.pair (.dat y24) (.pair (.own .bool) (.own .bool)))))))],[]⟩
def e76:Env:=⟨52,eqs,tt,gl,[],[],[],[],[],[]⟩
def b7D:Ann:=.leaf
def uX (a0:G5) (a1:Int):Option ax:=l9 (lat a0.2.2 a1) fun x=>l9 (iI (o7 x.2.2.2.1) false) fun
 (x_1:List Bool)=>l7 (ile 0 x.2.1) (l9 (lat a0.2.2 x.2.1) fun x_2=>l9 (iI (o7 x_2.2.2.2.1) false) fun x_3
 =>some (x,x_2,x_1,x_3)) (some (x,([],0,[],[],[]),x_1,[]))
def s76:FSpec:=mkS b2o b3I fun x=>uX x.1 x.2
def a1r:List MG:=[(true,(.dat y24)),uiM]
def a3p:Ret:=⟨[(.tmp 4,uoM)],[]⟩
def b8a:Env:=⟨95,eqs,tt,gl,[(102,a0x),(101,a6I),(139,a6L),(121,a6K)],[],[],[],[],[]⟩
def a8M:Ann:=.seq lfA (.seq (.joinR [(4,5),(17,26)] ⟨[],[]⟩ lfA) (.seq lfA (.seq lfA (.seq (.seq lfA (.blk (.loop [(5,6),(7,8),(38,46),(17001856,17001857)] ⟨[(5,(false,(.own .bool))),(38,uiM)],[]⟩ 0 ⟨[(5,(false,(.own .bool)))],[]⟩ lfA))) (.seq lfA (.seq (.seq lfA (.blk (.loop [(8,9),(10,17),(49,93)] ⟨[(8,uoM),(49,uiM)],[]⟩ 2 ⟨[(8,uoM)],[]⟩ lfA))) lfA))))))
def uP (a0:x8) (a1:Int):Option (List Int):=l9 (l7 (ilt a1 0) (some (.inr [])) (l7 (ile (o7 a0.2.2.2.1) a1)
 (some (.inr [])) (some (.inl ())))) fun o=>I7 o (fun(x:PUnit)=>l9 (iI (o7 a0.2.2.2.1) false) fun
 (x:List Bool)=>l9 (lat x a1) fun x_1=>l9 (H6 x (toN a1)) fun x_2=>l9 (eG a0) fun x_3=>l9 (kJ x_3 a1) fun x_4=>l9 (N7 (fun(x:List Bool×Int)=>l7 (ilt x.2 (o7 x_4)) (l9 (lat x_4
 x.2) fun x_5=>l9 (H6 x_4 (toN x.2)) fun x_6=>l9 (lat x.1 x_6) fun x_7=>l9 (H6 x.1 (toN x_6)) fun(x_8:
 Bool)=>some (.inl (I9 x.1 (toN x_6) true,x9 .i64 x.2 1))) (some (.inr x.1))) (I9 x (toN a1) true,0)) fun y=>
 l9 (N7 (fun(x:List Int×Int)=>l7 (ilt x.2 (o7 a0.2.2.2.2)) (l9 (lat a0.2.2.2.2 x.2) fun x_5=>l7 (ilt x_5.2.1 0)
 (some (.inl (x.1,x9 .i64 x.2 1))) (l7 (ile (o7 a0.2.2.2.1) x_5.2.1) (some (.inl (x.1,x9 .i64 x.2 1))) (l9 (lat y
 x_5.2.1) fun x_6=>l9 (H6 y (toN x_5.2.1)) fun x_7=>l7 (C9 x_7) (some (.inl (x.1,x9 .i64 x.2 1))) (l9
 (bC x_5.2.2.2.2.2.1) fun x_8=>l9 (bC x_5.2.2.2.2.2.2.1) fun x_9=>l9 (Y7
 x.1 x_8.2.2) fun x_10=>l9 (Y7 x_10 x_9.2.2) fun x_11=>some (.inl (x_11,x9 .i64 x.2 1)))))) (some
 (.inr x.1))) ([],0)) fun y=>l9 (kK y) fun x=>some x) fun r=>some r
def b4a:FSpec:=mkS a1r a3p fun x=>uP x.1 x.2
def a1s:List MG:=[(false,(.box (.pair (.dat y24) (.pair (.dat y24) (.pair (.own .bool) (.own .bool)))))),uiM]
def a3q:Ret:=⟨[],[(0,(true,(.pair (.dat y24) (.pair (.dat y24) (.pair (.own .bool) (.own .bool))))))]⟩
def b8b:Env:=⟨30,eqs,tt,gl,[(71,s71)],[],[],[],[0],[]⟩
def a8N:Ann:=.seq lfA (.seq lfA (.blk (.loop [(0,1),(5,6),(19,30),(1000000,1000003)] ⟨[(0,(false,(.box (.pair (.dat y24) (.pair (.dat y24) (.pair (.own .bool) (.own .bool))))))),(19,uiM)],[]⟩ 0 ⟨[(0,(false,(.box (.pair (.dat y24) (.pair (.dat y24) (.pair (.own .bool) (.own .bool)))))))],[]⟩ lfA)))
def jf (a0:ax) (a1:Int):Option ax:=l9 (lat a0.2.2.2 a1) fun x=>l9 (H6 a0.2.2.2
 (toN a1)) fun x=>l9 (di a0.2.1 a1) fun x=>l9 (N7 (fun(x_1:ax×Int)=>l7 (ilt x_1.2
 (o7 x)) (l9 (lat x x_1.2) fun x_2=>l9 (H6 x (toN x_1.2)) fun x=>l9 (lat x_1.1.2.2.2 x) fun x_3=>l9
 (H6 x_1.1.2.2.2 (toN x)) fun x_4=>some (.inl ((x_1.1.1,x_1.1.2.1,x_1.1.2.2.1,I9 x_1.1.2.2.2 (toN x) true),x9 .i64
 x_1.2 1))) (some (.inr x_1.1))) ((a0.1,a0.2.1,a0.2.2.1,I9 a0.2.2.2 (toN a1) true),0)) fun y=>some y
def b4b:FSpec:=mkS a1s a3q fun x=>jf x.1 x.2
def b2p:List MG:=[(false,(.box (.pair (.dat y24) (.pair (.dat y24) (.pair (.own .bool) (.own .bool)))))),uiM]
def b3J:Ret:=⟨[],[(0,(true,(.pair (.dat y24) (.pair (.dat y24) (.pair (.own .bool) (.own .bool))))))]⟩
def e77:Env:=⟨47,eqs,tt,gl,[(71,s71),(111,b4a),(112,b4b)],[],[],[],[0],[]⟩
def b7E:Ann:=.seq lfA (.seq (.seq lfA (.blk (.loop [(0,1),(5,6),(21,32),(1000000,1000003)] ⟨[(0,(false,(.box (.pair (.dat y24) (.pair (.dat y24) (.pair (.own .bool) (.own .bool))))))),(21,uiM)],[]⟩ 0 ⟨[(0,(false,(.box (.pair (.dat y24) (.pair (.dat y24) (.pair (.own .bool) (.own .bool)))))))],[]⟩ lfA))) (.seq lfA (.blk (.loop [(0,1),(7,8),(39,47),(12000000,12000003)] ⟨[(0,(false,(.box (.pair (.dat y24) (.pair (.dat y24) (.pair (.own .bool) (.own .bool))))))),(39,uiM)],[]⟩ 2 ⟨[(0,(false,(.box (.pair (.dat y24) (.pair (.dat y24) (.pair (.own .bool) (.own .bool)))))))],[]⟩ lfA))))
def nO (a0:ax) (a1:Int):Option ax:=l9 (lat a0.2.2.1 a1) fun x=>l9 (H6 a0.2.2.1 (toN
 a1)) fun x=>l9 (di a0.1 a1) fun x=>l9 (N7 (fun(x_1:ax×Int)=>l7 (ilt x_1.2 (o7
 x)) (l9 (lat x x_1.2) fun x_2=>l9 (H6 x (toN x_1.2)) fun x=>l9 (lat x_1.1.2.2.1 x) fun x_3=>l9 (H6
 x_1.1.2.2.1 (toN x)) fun x_4=>some (.inl ((x_1.1.1,x_1.1.2.1,I9 x_1.1.2.2.1 (toN x) true,x_1.1.2.2.2),x9 .i64 x_1.2 1)))
 (some (.inr x_1.1))) ((a0.1,a0.2.1,I9 a0.2.2.1 (toN a1) true,a0.2.2.2),0)) fun y=>l9 (uP y.1 a1) fun(x
 :List Int)=>l9 (N7 (fun(x_1:ax×Int)=>l7 (ilt x_1.2 (o7 x)) (l9 (lat x x_1.2) fun x_2=>l9 (H6 x (toN
 x_1.2)) fun x=>l9 (jf x_1.1 x) fun x=>some (.inl (x,x9 .i64 x_1.2 1))) (some
 (.inr x_1.1))) (y,0)) fun y=>some y
def s77:FSpec:=mkS b2p b3J fun x=>nO x.1 x.2
def SG:List MG:=[(false,(.box oiM)),(false,(.ifc 3 diM))]
def TB:Ret:=⟨[],[(0,(true,oiM))]⟩
def a6p:Env:=⟨20,eqs,tt,gl,[],[],[],[],[0],[]⟩
def ZN:Ann:=.leaf
def qp (a0:List Int) (a1:Int):Option (List Int):=l9 (Y7 a0 [a1]) fun x=>some x
def Yb:FSpec:=mkS SG TB fun x=>qp x.1 x.2
def a1O:List MG:=[(false,(.dat y28))]
def a3M:Ret:=⟨[(.tmp 2,uiM)],[]⟩
def b8x:Env:=⟨5,eqs,tt,gl,[],[],[],[],[],[]⟩
def a9j:Ann:=.leaf
def iW (a0:List Int):Option Int:=some (o7 a0)
def a0y:FSpec:=mkS a1O a3M fun x=>iW x
def a3g:List MG:=[(false,(.dat y28)),uiM,uiM]
def a5f:Ret:=⟨[(.tmp 6,ubM)],[]⟩
def b9S:Env:=⟨16,eqs,tt,gl,[],[],[],[],[],[]⟩
def b0E:Ann:=.leaf
def bf (a0:List Int) (a1:Int) (a2:Int):Option Bool:=l9 (lat a0 a1) fun x=>l9 (lat a0 a2) fun x_1=>
 some (ilt x x_1)
def a7d:FSpec:=mkS a3g a5f fun x=>bf x.1 x.2.1 x.2.2
def a3i:List MG:=[(false,(.ownb (.int .i64))),uiM,uiM]
def a5h:Ret:=⟨[],[(0,uoM)]⟩
def b9U:Env:=⟨20,eqs,tt,gl,[],[],[],[],[0],[]⟩
def b0G:Ann:=.leaf
def bg (a0:List Int) (a1:Int) (a2:Int):Option (List Int):=l9 (lat a0 a2) fun x=>l9 (H6 a0 (toN a2)) fun(x
 :Int)=>l9 (lat a0 a1) fun x_1=>l9 (H6 a0 (toN a1)) fun x_2=>l9 (lat a0 a1) fun x_3=>l9 (H6 a0 (toN
 a1)) fun x_4=>l9 (lat (I9 a0 (toN a1) x) a2) fun x_5=>l9 (H6 (I9 a0 (toN a1) x) (toN a2)) fun x_6=>some
 (I9 (I9 a0 (toN a1) x) (toN a2) x_2)
def a0H:FSpec:=mkS a3i a5h fun x=>bg x.1 x.2.1 x.2.2
def Sz:List MG:=[(false,(.ifc 255 (.box oiM))),uiM]
def Tq:Ret:=⟨[],[(0,(true,oiM))]⟩
def a6k:Env:=⟨23,eqs,tt,gl,[(262,a7d),(265,a0H)],[],[],[((255,"Less"),262,some 256),((255,"Swap"),265,some 256)],[0],[]⟩
def ZI:Ann:=.blk (.loop [(0,2),(4,23),(1000000,1000002)] ⟨[(0,(false,(.ifc 255 (.box oiM)))),(1,uiM)],[]⟩ 0 ⟨[(0,(false,(.ifc 255 (.box oiM))))],[]⟩ lfA)
def qm (a0:List Int) (a1:Int):Option (List Int):=l9 (N7 (fun(x:List Int×Int)=>l7 (ieq (Z5 .i64 (E9
 .i64 x.2 1) 2) x.2) (some (.inr x.1)) (l9 (bf x.1 x.2 (Z5 .i64 (E9 .i64 x.2 1) 2)) fun x_1=>
 l7 (C9 x_1) (some (.inr x.1)) (l9 (bg x.1 (Z5 .i64 (E9 .i64 x.2 1) 2) x.2) fun x_2=>some
 (.inl (x_2,Z5 .i64 (E9 .i64 x.2 1) 2))))) (a0,a1)) fun y=>some y
def XW:FSpec:=mkS Sz Tq fun x=>qm x.1 x.2
def Su:List MG:=[(false,(.ifc 255 (.box oiM))),(false,(.ifc 3 diM))]
def Tm:Ret:=⟨[],[(0,(true,oiM))]⟩
def a6i:Env:=⟨12,eqs,tt,gl,[(264,Yb),(158,a0y),(174,XW)],[],[],[((255,"Len"),158,some 256),((255,"Push"),264,none)],[0],[]⟩
def ZG:Ann:=.leaf
def jh (a0:List Int) (a1:Int):Option (List Int):=l9 (qp a0 a1) fun x=>l9
 (iW x) fun x_1=>l9 (qm x (E9 .i64 x_1 1)) fun x=>some x
def XU:FSpec:=mkS Su Tm fun x=>jh x.1 x.2
def SA:List MG:=[(false,(.ifc 255 (.box oiM))),uiM,uiM]
def Tu:Ret:=⟨[(.tmp 6,ubM)],[(0,(true,oiM))]⟩
def a6l:Env:=⟨48,eqs,tt,gl,[(262,a7d),(265,a0H)],[],[],[((255,"Less"),262,some 256),((255,"Swap"),265,some 256)],[0],[]⟩
def ZJ:Ann:=.seq lfA (.seq lfA (.seq (.blk (.loop [(0,1),(7,11),(12,45),(1000000,1000002)] ⟨[(0,(false,(.ifc 255 (.box oiM)))),(7,uiM)],[]⟩ 0 ⟨[(0,(false,(.ifc 255 (.box oiM)))),(7,uiM)],[]⟩ lfA)) lfA))
def nK (a0:List Int) (a1:Int) (a2:Int):Option (Bool×List Int):=l9 (N7 (fun(x:List Int×Int)=>l7 (ile a2
 (x9 .i64 (bJ .i64 2 x.2) 1)) (some (.inr x)) (l7 (ilt (x9 .i64 (bJ .i64 2 x.2) 1) 0) (some (.inr x))
 (l7 (ilt (x9 .i64 (x9 .i64 (bJ .i64 2 x.2) 1) 1) a2) (l9 (bf x.1 (x9 .i64 (x9 .i64
 (bJ .i64 2 x.2) 1) 1) (x9 .i64 (bJ .i64 2 x.2) 1)) fun x_1=>l7 x_1 (l9 (bf x.1 (x9
 .i64 (x9 .i64 (bJ .i64 2 x.2) 1) 1) x.2) fun x_2=>l7 (C9 x_2) (some (.inr x)) (l9 (bg
 x.1 x.2 (x9 .i64 (x9 .i64 (bJ .i64 2 x.2) 1) 1)) fun x_3=>some (.inl (x_3,x9 .i64 (x9
 .i64 (bJ .i64 2 x.2) 1) 1)))) (l9 (bf x.1 (x9 .i64 (bJ .i64 2 x.2) 1) x.2) fun x_2=>
 l7 (C9 x_2) (some (.inr x)) (l9 (bg x.1 x.2 (x9 .i64 (bJ .i64 2 x.2) 1)) fun x_3=>some
 (.inl (x_3,x9 .i64 (bJ .i64 2 x.2) 1))))) (l9 (bf x.1 (x9 .i64 (bJ .i64 2 x.2) 1) x.2) fun
 (x_1:Bool)=>l7 (C9 x_1) (some (.inr x)) (l9 (bg x.1 x.2 (x9 .i64 (bJ .i64 2 x.2) 1)) fun x_2=>some (.inl (x_2,x9 .i64 (bJ .i64 2 x.2) 1))))))) (a0,a1)) fun y=>some (ilt a1 y.2,y.1)
def XX:FSpec:=mkS SA Tu fun x=>nK x.1 x.2.1 x.2.2
def a3h:List MG:=[(false,(.box oiM))]
def a5g:Ret:=⟨[(.tmp 2,(false,(.ifc 3 diM)))],[(0,(true,oiM))]⟩
def b9T:Env:=⟨23,eqs,tt,gl,[],[],[],[],[0],[]⟩
def b0F:Ann:=.leaf
def rJ (a0:List Int):Option (Int×List Int):=l9 (lat a0 (E9 .i64 (o7 a0) 1)) fun x=>l9 (H6 a0 (toN
 (E9 .i64 (o7 a0) 1))) fun x=>l7 (gK 0 (E9 .i64 (o7 a0) 1) (o7 a0)) (some (x,dF a0 (toN 0) (toN (E9
 .i64 (o7 a0) 1)))) none
def b5m:FSpec:=mkS a3h a5g fun x=>rJ x
def Sv:List MG:=[(false,(.ifc 255 (.box oiM)))]
def Tn:Ret:=⟨[(.tmp 2,(false,(.ifc 3 diM)))],[(0,(true,oiM))]⟩
def a6j:Env:=⟨15,eqs,tt,gl,[(158,a0y),(265,a0H),(175,XX),(263,b5m)],[],[],[((255,"Len"),158,some 256),((255,"Pop"),263,none),((255,"Swap"),265,some 256)],[0],[]⟩
def ZH:Ann:=.leaf
def oH (a0:List Int):Option (Int×List Int):=l9 (iW a0) fun x=>l9 (bg a0 0 (E9
 .i64 x 1)) fun x_1=>l9 (nK x_1 0 (E9 .i64 x 1)) fun x=>l9
 (rJ x.2) fun x=>some x
def XV:FSpec:=mkS Sv Tn fun x=>oH x
def a1F:List MG:=[(true,(.dat y24))]
def a3D:Ret:=⟨[(.tmp 2,uoM),(.tmp 3,uiM)],[]⟩
def b8o:Env:=⟨113,eqs,tt,gl,[(102,a0x),(157,XU),(158,a0y),(159,XV)],[(181,oiM)],[12,50,77,80],[],[],[]⟩
def a9a:Ann:=.seq lfA (.seq lfA (.seq lfA (.seq lfA (.seq lfA (.seq (.seq lfA (.blk (.loop [(5,10),(11,12),(29,65),(10001344,10001345),(13001536,13001537),(16001600,16001601),(16001664,16001665)] ⟨[(5,(false,(.owns oiM))),(6,uoM),(7,(false,(.box oiM))),(29,uiM)],[]⟩ 0 ⟨[(5,(false,(.owns oiM))),(6,uoM),(7,(false,(.box oiM)))],[]⟩ (.seq lfA (.seq lfA (.seq (.blk (.seq lfA (.seq lfA (.seq (.seq lfA (.blk (.loop [(5,6),(11,12),(41,56),(23000000,23000001)] ⟨[(5,(false,(.owns oiM))),(41,uiM)],[]⟩ 2 ⟨[(5,(false,(.owns oiM)))],[]⟩ lfA))) lfA)))) lfA)))))) (.seq lfA (.seq (.blk (.loop [(5,8),(12,15),(16,17),(65,107),(24000000,24000004)] ⟨[(5,(false,(.dat y60))),(6,uoM),(7,(false,(.box oiM))),(12,uoM)],[]⟩ 4 ⟨[(12,uoM)],[]⟩ (.seq lfA (.blk (.seq lfA (.seq lfA (.seq lfA (.blk (.loop [(6,8),(16,17),(86,107),(79000000,79000002),(91004672,91004673)] ⟨[(6,uoM),(7,(false,(.box oiM))),(86,uiM)],[]⟩ 6 ⟨[(6,uoM),(7,(false,(.box oiM)))],[]⟩ lfA))))))))) lfA)))))))
def mQ (a0:x8):Option (List Int×Int):=l9 (eG a0) fun x=>l9 (iI (o7 x) [])
 fun x_1=>l9 (iI (o7 x) 0) fun x_2=>l9 (N7 (fun(x_3:List (List Int)×List Int×List Int×Int)
 =>l7 (ilt x_3.2.2.2 (o7 x)) (l9 (lat x x_3.2.2.2) fun x=>l9 (lat x_3.2.1 x_3.2.2.2) fun x_4=>l9 (H6 x_3.2.1
 (toN x_3.2.2.2)) fun x_5=>l9 (N7 (fun(x_6:List (List Int)×Int)=>l7 (ilt x_6.2 (o7 x)) (l9 (lat x x_6.2) fun x
 =>l7 (inb x (o7 x_6.1)) (l9 (H6 x_6.1 (toN x)) fun x_7=>l9 (Y7 x_7 [x_3.2.2.2]) fun x_8=>l7 (inb x
 (o7 x_6.1)) (l7 (IJ (toN x) (toN x)) (l9 (H6 x_6.1 (toN x)) fun x_9=>some (.inl (I9 x_6.1 (toN x) x_8,x9
 .i64 x_6.2 1))) none) none) none) (some (.inr x_6.1))) (x_3.1,0)) fun y=>l7 (ieq (o7 x) 0) (l9
 (jh x_3.2.2.1 x_3.2.2.2) fun x_6=>some (.inl (y,I9 x_3.2.1 (toN x_3.2.2.2) (o7 x),x_6,x9 .i64
 x_3.2.2.2 1))) (some (.inl (y,I9 x_3.2.1 (toN x_3.2.2.2) (o7 x),x_3.2.2.1,x9 .i64 x_3.2.2.2 1)))) (some (.inr (x_3.1,x_3.2.1,
 x_3.2.2.1)))) (x_1,x_2,[],0)) fun y=>l9 (N7 (fun(x:List (List Int)×bT)=>l9
 (iW x.2.2.1) fun x_3=>l7 (ilt 0 x_3) (l9 (oH x.2.2.1) fun x_4=>l9 (Y7 x.2.2.2
 [x_4.1]) fun x_5=>l9 (lat x.1 x_4.1) fun x_6=>l9 (N7 (fun(x:List Int×List Int×Int)=>l7 (ilt x.2.2
 (o7 x_6)) (l9 (lat x_6 x.2.2) fun x_7=>l9 (lat x.1 x_7) fun x_8=>l9 (H6 x.1 (toN x_7)) fun x_9=>l9 (lat
 x.1 x_7) fun x_10=>l9 (H6 x.1 (toN x_7)) fun x_11=>l9 (lat (I9 x.1 (toN x_7) (E9 .i64 x_9 1)) x_7) fun(x_12:
 Int)=>l9 (H6 (I9 x.1 (toN x_7) (E9 .i64 x_9 1)) (toN x_7)) fun x_13=>l7 (ieq x_13 0) (l9 (jh x.2.1
 x_7) fun x_14=>some (.inl (I9 x.1 (toN x_7) (E9 .i64 x_9 1),x_14,x9 .i64 x.2.2 1))) (some (.inl (I9 x.1
 (toN x_7) (E9 .i64 x_9 1),x.2.1,x9 .i64 x.2.2 1)))) (some (.inr (x.1,x.2.1)))) (x.2.1,x_4.2,0)) fun y=>some (.inl (x.1,y.1,y.2,x_5))) (some (.inr x.2.2.2))) (y.1,y.2.1,y.2.2,[])) fun y=>l7 (ilt (o7 y) (o7 x))
 (some ([],9)) (some (y,0))
def b4n:FSpec:=mkS a1F a3D fun x=>mQ x
def a2a:List MG:=[(true,(.dat y2)),uiM]
def a3Z:Ret:=⟨[(.tmp 4,ubM)],[]⟩
def b8K:Env:=⟨19,eqs,tt,gl,[(54,s54)],[],[],[],[],[]⟩
def a9w:Ann:=.leaf
def fH (a0:A7) (a1:Int):Option Bool:=l9 (dh a0) fun x=>l7 x (l7 (ile a0.1 a1) (some (ilt
 a1 a0.2)) (some false)) (some false)
def a0z:FSpec:=mkS a2a a3Z fun x=>fH x.1 x.2
def SC:List MG:=[(true,(.dat y19)),(false,(.rp (.int .i64))),(false,(.rp (.int .i64)))]
def Tz:Ret:=⟨[(.tmp 4,ubM)],[]⟩
def a6n:Env:=⟨15,eqs,tt,gl,[(178,a0z)],[],[],[],[],[]⟩
def ZL:Ann:=.leaf
def oM (a0:H9) (a1:Int) (a2:Int):Option Bool:=l7 (ieq a0.2.1 a1) (l9 (fH a0.2.2.2.2.1 a2) fun(x:
 Bool)=>some x) (some false)
def Qa:FSpec:=mkS SC Tz fun x=>oM x.1 x.2.1 x.2.2
def SB:List MG:=[(false,(.dat y20)),(false,(.fn 177 [(.int .i64),(.int .i64)]))]
def Tv:Ret:=⟨[(.tmp 4,uoM),(.tmp 5,uoM)],[]⟩
def a6m:Env:=⟨59,eqs,tt,gl,[(177,Qa)],[],[],[],[],[]⟩
def ZK:Ann:=.seq lfA (.seq lfA (.seq lfA (.seq (.seq lfA (.blk (.loop [(6,12),(17,57),(10000896,10000897)] ⟨[(6,uoM),(7,uoM),(8,uoM),(17,uiM)],[]⟩ 0 ⟨[(6,uoM),(7,uoM)],[]⟩ (.seq lfA (.seq lfA (.seq (.blk (.seq lfA (.seq lfA (.seq (.join [(11,12),(22,36)] ⟨[(11,uiM)],[]⟩ lfA) lfA)))) lfA)))))) lfA)))
def nM (a0:List H9) (a1:A7):Option (List Int×List Int):=l9 (iI (o7 a0) 0) fun x=>l9 (N7
 (fun(x:List Int×List Int×List Int×Int)=>l7 (ilt x.2.2.2 (o7 a0)) (l9 (lat a0 x.2.2.2) fun x_1=>l9 (l7 (ile 0
 x_1.2.2.1) (l7 (ilt x_1.2.2.1 x.2.2.2) (l9 (lat x.2.2.1 x_1.2.2.1) fun x_2=>l9 (H6 x.2.2.1 (toN x_1.2.2.1)) fun x=>
 some x) (some (-1))) (some (-1))) fun x_2=>l9 (lat x.2.2.1 x.2.2.2) fun x_3=>l9 (H6 x.2.2.1 (toN x.2.2.2)) fun(x_4:
 Int)=>l9 (oM x_1 a1.1 a1.2) fun x_5=>l7 x_5 (l9 (lat (I9 x.2.2.1 (toN x.2.2.2) x_2) x.2.2.2) fun x_6
 =>l9 (H6 (I9 x.2.2.1 (toN x.2.2.2) x_2) (toN x.2.2.2)) fun x_7=>l9 (Y7 x.1 [x.2.2.2]) fun x_8=>l9 (Y7
 x.2.1 [x_2]) fun x_9=>some (.inl (x_8,x_9,I9 (I9 x.2.2.1 (toN x.2.2.2) x_2) (toN x.2.2.2) (o7 x.1),x9 .i64
 x.2.2.2 1))) (some (.inl (x.1,x.2.1,I9 x.2.2.1 (toN x.2.2.2) x_2,x9 .i64 x.2.2.2 1)))) (some (.inr (x.1,x.2.1)))) ([],[],x,
 0)) fun y=>some y
def XY:FSpec:=mkS SB Tv fun x=>nM x.1 x.2
def a1P:List MG:=[(true,(.dat y24)),uiM,uiM]
def a3N:Ret:=⟨[(.tmp 6,uoM),(.tmp 7,uoM),(.tmp 8,uoM)],[]⟩
def b8y:Env:=⟨40,eqs,tt,gl,[(177,Qa),(176,XY)],[],[],[],[],[]⟩
def a9k:Ann:=.seq lfA (.seq lfA (.seq lfA (.seq (.seq lfA (.blk (.loop [(11,12),(13,14),(23,37)] ⟨[(11,uoM),(23,uiM)],[]⟩ 0 ⟨[(11,uoM)],[]⟩ lfA))) lfA)))
def rM (a0:x8) (a1:Int) (a2:Int):Option bT:=l9 (nM a0.2.2.2.2 (a1,a2)) fun x=>l9 (N7 (fun(x_1:List Int×Int)=>l7 (ilt x_1.2 (o7 x.1)) (l9 (lat x.1 x_1.2) fun x_2=>l9 (H6 x.1
 (toN x_1.2)) fun x=>l9 (lat a0.2.2.2.2 x) fun x=>l9 (Y7 x_1.1 [x.2.2.2.1]) fun x=>some (.inl (x,x9
 .i64 x_1.2 1))) (some (.inr x_1.1))) ([],0)) fun y=>some (x.1,x.2,y)
def b4s:FSpec:=mkS a1P a3N fun x=>rM x.1 x.2.1 x.2.2
def a1R:List MG:=[(false,(.dat y12))]
def a3P:Ret:=⟨[(.tmp 2,uoM),(.tmp 3,uiM)],[]⟩
def b8A:Env:=⟨15,eqs,tt,gl,[(144,a6N)],[],[],[],[],[]⟩
def a9m:Ann:=.leaf
def DF (a0:List A7):Option (List Int×Int):=l9 (iD a0) fun x=>some (x.1,x.2.2)
def b4u:FSpec:=mkS a1R a3P fun x=>DF x
def a2e:List MG:=[(true,(.dat y65)),uiM]
def a4d:Ret:=⟨[(.tmp 4,uoM)],[]⟩
def b8O:Env:=⟨36,eqs,tt,gl,[(146,UX)],[],[],[],[],[]⟩
def a9A:Ann:=.seq lfA (.seq lfA (.seq lfA (.seq (.seq lfA (.blk (.loop [(5,8),(21,35),(7000960,7000961)] ⟨[(5,uoM),(6,uiM),(7,uiM)],[]⟩ 0 ⟨[(5,uoM)],[]⟩ lfA))) lfA)))
def jW (a0:N9) (a1:Int):Option (List Int):=l9 (lat a0.1 a1) fun x=>l9 (bz x.1) fun
 (x:Int)=>l9 (iI x 0) fun x=>l9 (N7 (fun(x:List Int×A7)=>l7 (ile 0 x.2.2) (l9 (lat x.1 x.2.2) fun(x_1:
 Int)=>l9 (H6 x.1 (toN x.2.2)) fun x_2=>l9 (lat a0.2.1 x.2.1) fun x_3=>some (.inl (I9 x.1 (toN x.2.2) x.2.1,E9
 .i64 x_3 1,E9 .i64 x.2.2 1))) (some (.inr x.1))) (x,E9 .i64 a1 1,E9 .i64 (o7 x) 1)) fun y=>
 some y
def b4E:FSpec:=mkS a2e a4d fun x=>jW x.1 x.2
def a2p:List MG:=[(true,(.dat y3))]
def a4o:Ret:=⟨[(.tmp 2,ubM)],[]⟩
def b9b:Env:=⟨83,eqs,tt,gl,[],[],[],[],[],[]⟩
def a9N:Ann:=.seq lfA (.seq (.joinR [(2,11)] ⟨[],[]⟩ lfA) lfA)
def aS (a0:G9):Option Bool:=l9 (l7 (C9 (ieq a0.1 6)) (l7 (C9 (ieq a0.2.1 0)) (some (.inr false)) (some (.inl
 ()))) (some (.inl ()))) fun o=>I7 o (fun(x:PUnit)=>l7 (ieq a0.1 1) (l7 (ieq a0.2.2 0) (some true)
 (some (ieq a0.2.2 1))) (l7 (ieq a0.1 2) (l7 (ile (-1000000000000) a0.2.2) (some (ile a0.2.2 1000000000000)) (some false)) (l7 (ieq a0.1 3)
 (l7 (ile (-1000000000000000) a0.2.2) (some (ile a0.2.2 1000000000000000)) (some false)) (l7 (ieq a0.1 4) (l7 (ile (-1000000000) a0.2.2)
 (some (ile a0.2.2 1000000000)) (some false)) (l7 (ieq a0.1 5) (l7 (ile 0 a0.2.2) (some (ile a0.2.2 109572)) (some false)) (l7 (ieq a0.1 6)
 (l7 (ile 0 a0.2.1) (l7 (ilt a0.2.1 8) (l7 (ile 0 a0.2.2) (some (ilt a0.2.2 16)) (some false)) (some false)) (some false)) (some false)))))))
 fun r=>some r
def Qb:FSpec:=mkS a2p a4o fun x=>aS x
def a2k:List MG:=[(true,(.dat y2))]
def a4j:Ret:=⟨[(.tmp 2,ubM)],[]⟩
def b8W:Env:=⟨48,eqs,tt,gl,[(146,UX),(145,a6O)],[],[],[],[],[]⟩
def a9I:Ann:=.seq lfA (.seq (.joinR [(2,18)] ⟨[],[]⟩ lfA) (.seq (.seq lfA (.blk (.seq (.join [(20,24)] ⟨[(20,ubM)],[]⟩ lfA) lfA))) lfA))
def uQ (a0:A7):Option Bool:=l9 (l9 (bz a0.1) fun x=>l7 (ilt x 0) (some (.inr false)) (l7 (C9
 (ieq a0.2 0)) (l9 (aH a0.1) fun x=>l7 (C9 x) (some (.inr false)) (some (.inl ()))) (some (.inl
 ())))) fun o=>I7 o (fun(x:PUnit)=>l9 (l7 (ieq a0.1 14) (some (ieq a0.1 14)) (l7 (ieq a0.1 15) (some (ieq
 a0.1 15)) (some (ieq a0.1 16)))) fun x=>l7 x (l7 (ile 0 a0.2) (some (ile a0.2 5)) (some false)) (l7 (ieq a0.1 34) (l7 (ile 0
 a0.2) (some (ile (gz a0.2 8) 5)) (some false)) (l7 (ieq a0.1 6) (some (ile 0 a0.2)) (some true)))) fun r=>some r
def b4J:FSpec:=mkS a2k a4j fun x=>uQ x
def a2l:List MG:=[(true,(.dat y2)),(true,(.dat y59))]
def a4k:Ret:=⟨[(.tmp 4,ubM)],[]⟩
def b8X:Env:=⟨81,eqs,tt,gl,[],[],[],[],[],[]⟩
def a9J:Ann:=.seq lfA (.seq (.seq lfA (.blk (.seq lfA (.cond lfA (.seq lfA (.cond lfA (.seq lfA (.cond lfA (.seq lfA (.cond lfA (.seq (.join [(65,70)] ⟨[(65,ubM)],[]⟩ lfA) lfA))))))))))) lfA)
def Dz (a0:A7) (a1:pV):Option Bool:=l7 (ieq a0.1 7) (l7 (ile 0 a0.2) (some (ilt a0.2 (o7 a1.2.1))) (some false)) (l7
 (ieq a0.1 8) (l7 (ile 0 a0.2) (l7 (ilt a0.2 (o7 a1.2.2.1)) (l9 (lat a1.2.2.1 a0.2) fun x=>some (C9 (ieq x.1 0))) (some
 false)) (some false)) (l7 (ieq a0.1 33) (l7 (ile 0 a0.2) (some (ilt a0.2 (o7 a1.2.2.2.2.2))) (some false)) (l7 (ieq a0.1 34) (some (ilt
 (Z5 .i64 a0.2 8) (o7 a1.2.2.2.2.2))) (l9 (l7 (ieq a0.1 36) (some (ieq a0.1 36)) (l7 (ieq a0.1 37) (some (ieq a0.1 37)) (l7
 (ieq a0.1 38) (some (ieq a0.1 38)) (some (ieq a0.1 39))))) fun x=>l7 x (l7 (ile 0 a0.2) (some (ilt a0.2 (o7 a1.2.2.2.2.1))) (some
 false)) (some true)))))
def b4K:FSpec:=mkS a2l a4k fun x=>Dz x.1 x.2
def a2m:List MG:=[(false,(.dat y30))]
def a4l:Ret:=⟨[(.tmp 2,ubM)],[]⟩
def b8Y:Env:=⟨15,eqs,tt,gl,[(199,Qb)],[],[],[],[],[]⟩
def a9K:Ann:=.seq lfA (.seq (.seq lfA (.blk (.loopR [(2,3),(4,5),(7,15)] ⟨[(7,uiM)],[]⟩ 0 ⟨[],[]⟩ lfA))) lfA)
def qy (a0:List G9):Option Bool:=l9 (G8 (fun(x:Int)=>l7 (ilt x (o7 a0)) (l9 (lat a0 x) fun x_1
 =>l9 (aS x_1) fun x_2=>l7 (C9 x_2) (some (.rt false)) (some (.nx (x9 .i64 x 1)))) (some (.ex
 ()))) 0) fun o=>I7 o (fun(y:PUnit)=>some true) fun r=>some r
def b4L:FSpec:=mkS a2m a4l fun x=>qy x
def a2r:List MG:=[(true,(.dat y3)),(true,(.dat y2))]
def a4q:Ret:=⟨[(.tmp 4,ubM)],[]⟩
def b9d:Env:=⟨21,eqs,tt,gl,[(199,Qb)],[],[],[],[],[]⟩
def a9P:Ann:=.leaf
def tY (a0:G9) (a1:A7):Option Bool:=l9 (aS a0) fun x=>l7 x (l7 (ieq a0.1 a1.1) (some (ieq
 a0.2.1 a1.2)) (some false)) (some false)
def a6T:FSpec:=mkS a2r a4q fun x=>tY x.1 x.2
def a2B:List MG:=[uiM]
def a4A:Ret:=⟨[(.tmp 2,ubM)],[]⟩
def b9n:Env:=⟨13,eqs,tt,gl,[],[],[],[],[],[]⟩
def a9Z:Ann:=.leaf
def jm (a0:Int):Option Bool:=l7 (ieq a0 2) (some true) (l7 (ieq a0 3) (some true) (some (ieq a0 4)))
def a0A:FSpec:=mkS a2B a4A fun x=>jm x
def a2s:List MG:=[uiM,(true,(.dat y2))]
def a4r:Ret:=⟨[(.tmp 4,ubM)],[]⟩
def b9e:Env:=⟨32,eqs,tt,gl,[(213,a0A)],[],[],[],[],[]⟩
def a9Q:Ann:=.leaf
def oO (a0:Int) (a1:A7):Option Bool:=l7 (C9 (ieq a1.2 0)) (some false) (l7 (ieq a0 36) (l7 (ieq a1.1 2) (some
 true) (some (ieq a1.1 3))) (l7 (ieq a0 39) (l9 (jm a1.1) fun x=>l7 x (some true) (some (ieq a1.1 5))) (some (ieq a1.1
 1))))
def b4P:FSpec:=mkS a2s a4r fun x=>oO x.1 x.2
def a2t:List MG:=[uiM,uiM]
def a4s:Ret:=⟨[(.tmp 4,ubM)],[]⟩
def b9f:Env:=⟨16,eqs,tt,gl,[(213,a0A)],[],[],[],[],[]⟩
def a9R:Ann:=.leaf
def qA (a0:Int) (a1:Int):Option Bool:=l7 (ieq a0 10) (l9 (jm a1) fun x=>some x) (l7 (ieq a0 25)
 (some (ieq a1 1)) (some (ieq a1 5)))
def b4Q:FSpec:=mkS a2t a4s fun x=>qA x.1 x.2
def a2v:List MG:=[(true,(.dat y3)),(true,(.dat y3))]
def a4u:Ret:=⟨[(.tmp 4,ubM)],[]⟩
def b9h:Env:=⟨17,eqs,tt,gl,[],[],[],[],[],[]⟩
def a9T:Ann:=.leaf
def jo (a0:G9) (a1:G9):Option Bool:=l7 (ieq a0.1 a1.1) (some (ieq a0.2.1 a1.2.1)) (some false)
def a6U:FSpec:=mkS a2v a4u fun x=>jo x.1 x.2
def a2u:List MG:=[uiM,(true,(.dat y3)),(true,(.dat y3))]
def a4t:Ret:=⟨[(.tmp 6,ubM)],[]⟩
def b9g:Env:=⟨134,eqs,tt,gl,[(207,a6U),(213,a0A)],[],[],[],[],[]⟩
def a9S:Ann:=.seq lfA (.seq (.joinR [(6,126)] ⟨[],[]⟩ (.seq lfA (.blk (.seq (.join [(8,11)] ⟨[(8,ubM)],[]⟩ lfA) (.cond lfA (.seq lfA (.cond lfA (.seq lfA (.cond lfA (.seq lfA (.cond lfA (.seq lfA (.cond lfA (.seq (.join [(80,85)] ⟨[(80,ubM)],[]⟩ lfA) (.cond lfA (.seq (.join [(98,101)] ⟨[(98,ubM)],[]⟩ lfA) lfA)))))))))))))))) lfA)
def oN (a0:Int) (a1:G9) (a2:G9):Option Bool:=l9 (l9 (l7 (ieq a0 11) (some (ieq a0 11)) (some (ieq a0 12)))
 fun x=>l7 x (l9 (jo a1 a2) fun x=>l7 x (l9 (jm a1.1) fun x=>some (.inr x))
 (some (.inr false))) (l7 (ieq a0 13) (l7 (ieq a2.1 2) (l7 (ieq a1.1 2) (some (.inr true)) (some (.inr (ieq a1.1 3)))) (some
 (.inr false))) (l7 (ieq a0 14) (l7 (ieq a2.1 4) (l7 (ieq a1.1 3) (some (.inr true)) (some (.inr (ieq a1.1 4)))) (some (.inr
 false))) (l7 (ieq a0 15) (l7 (ieq a2.1 2) (l7 (ieq a1.1 2) (some (.inr true)) (some (.inr (ieq a1.1 3)))) (l7 (ieq a1.1 3) (some
 (.inr (ieq a2.1 3))) (some (.inr false)))) (l7 (ieq a0 16) (l7 (ieq a1.1 3) (some (.inr (ieq a2.1 3))) (some (.inr false))) (l9
 (l7 (ieq a0 17) (some (ieq a0 17)) (l7 (ieq a0 18) (some (ieq a0 18)) (l7 (ieq a0 21) (some (ieq a0 21)) (some (ieq a0 22))))) fun(x:
 Bool)=>l7 x (l9 (jo a1 a2) fun x=>l7 x (l9 (jm a1.1) fun x=>l7 x (some (.inr true))
 (some (.inr (ieq a1.1 5)))) (some (.inr false))) (l9 (l7 (ieq a0 19) (some (ieq a0 19)) (some (ieq a0 20))) fun x=>l7 x
 (l9 (jo a1 a2) fun x=>some (.inr x)) (l7 (ieq a0 23) (l7 (ieq a0 23) (l7 (ieq a1.1 1) (some (.inr (ieq a2.1
 1))) (some (.inr false))) (l7 (ieq a0 27) (l7 (ieq a0 27) (l7 (ieq a1.1 5) (some (.inr (ieq a2.1 2))) (some (.inr false))) (some
 (.inl ()))) (l7 (ieq a0 28) (l7 (ieq a1.1 5) (some (.inr (ieq a2.1 2))) (some (.inr false))) (some (.inl ())))))
 (l7 (ieq a0 24) (l7 (ieq a1.1 1) (some (.inr (ieq a2.1 1))) (some (.inr false))) (l7 (ieq a0 27) (l7 (ieq a0 27) (l7 (ieq a1.1
 5) (some (.inr (ieq a2.1 2))) (some (.inr false))) (some (.inl ()))) (l7 (ieq a0 28) (l7 (ieq a1.1 5) (some (.inr (ieq a2.1
 2))) (some (.inr false))) (some (.inl ()))))))))))))) fun o=>I7 o (fun(x:PUnit)=>l7 (ieq a1.1 5) (some
 (ieq a2.1 5)) (some false)) fun r=>some r
def b4R:FSpec:=mkS a2u a4t fun x=>oN x.1 x.2.1 x.2.2
def a2n:List MG:=[(true,(.dat y2)),(false,(.dat y30)),(true,(.dat y59))]
def a4m:Ret:=⟨[(.tmp 6,ubM)],[]⟩
def b8Z:Env:=⟨133,eqs,tt,gl,[(199,Qb),(203,a6T),(204,b4P),(205,b4Q),(206,b4R),(207,a6U)],[],[],[],[],[]⟩
def a9L:Ann:=.seq lfA (.seq (.joinR [(6,95)] ⟨[],[]⟩ (.seq lfA (.blk (.seq lfA (.cond lfA (.seq lfA (.cond lfA (.seq lfA (.cond lfA (.seq lfA (.cond lfA (.seq (.join [(81,86)] ⟨[(81,ubM)],[]⟩ lfA) lfA)))))))))))) lfA)
def zY (a0:A7) (a1:List G9) (a2:pV):Option Bool:=l9 (l7 (ieq a0.1 7) (l9 (lat a2.2.1 a0.2) fun x=>
 l9 (aS x) fun x=>some (.inr x)) (l7 (ieq a0.1 8) (l9 (lat a2.2.2.1 a0.2) fun x=>l9 (aS
 x) fun x=>some (.inr x)) (l7 (ieq a0.1 33) (l9 (lat a2.2.2.2.2.2 a0.2) fun x=>l9 (lat a1 0) fun x_1=>
 l9 (tY x_1 x.2.1) fun x_2=>l7 x_2 (l7 (ile 1 x.2.2.1.1) (some (.inr (ile x.2.2.1.1 6))) (some (.inr false)))
 (some (.inr false))) (l7 (ieq a0.1 34) (l9 (lat a2.2.2.2.2.2 (Z5 .i64 a0.2 8)) fun x=>l9 (lat a1 0) fun(x_1:
 G9)=>l7 (ieq x_1.1 3) (l7 (P6 (ieq x.2.1.1 3) (ieq x.2.1.2 0)) (some (.inr (P6 (ieq x.2.2.1.1 4) (ieq x.2.2.1.2 0)))) (some
 (.inr false))) (some (.inr false))) (l9 (l7 (ieq a0.1 36) (some (ieq a0.1 36)) (l7 (ieq a0.1 37) (some (ieq a0.1 37)) (l7 (ieq a0.1
 38) (some (ieq a0.1 38)) (some (ieq a0.1 39))))) fun x=>l7 x (l9 (lat a2.2.2.2.2.1 a0.2) fun x=>l9
 (oO a0.1 x) fun x=>some (.inr x)) (some (.inl ()))))))) fun o=>I7 o (fun(x:PUnit)=>
 l7 (ieq (o7 a1) 1) (l9 (lat a1 0) fun x=>l9 (qA a0.1 x.1) fun x=>some x) (l7 (ieq (o7 a1) 2)
 (l9 (lat a1 0) fun x=>l9 (lat a1 1) fun x_1=>l9 (oN a0.1 x x_1) fun x=>some x) (l7
 (ieq (o7 a1) 3) (l9 (lat a1 0) fun x=>l7 (ieq x.1 1) (l9 (lat a1 1) fun x=>l9 (lat a1 2) fun x_1
 =>l9 (jo x x_1) fun x=>some x) (some false)) (some true)))) fun r=>some r
def b4M:FSpec:=mkS a2n a4m fun x=>zY x.1 x.2.1 x.2.2
def a2w:List MG:=[(true,(.dat y2)),(true,(.dat y59))]
def a4v:Ret:=⟨[(.cell 4 54,(true,(.dat y3))),(.tmp 5,uiM)],[]⟩
def b9i:Env:=⟨113,eqs,tt,gl,[(203,a6T),(199,Qb)],[],[],[],[],[]⟩
def a9U:Ann:=.seq lfA (.seq lfA (.seq lfA (.seq (.join [(7,8),(22,26),(10000448,10000449)] ⟨[(7,(false,(.box (.dat y3))))],[]⟩ lfA) (.seq (.joinR [(4,6),(26,36),(4000256,4000257)] ⟨[(4,(false,(.box (.dat y3))))],[]⟩ lfA) (.seq (.seq lfA (.blk (.loopR [(4,6),(7,11),(39,112),(12000000,12000001),(20000000,20000001)] ⟨[(4,(false,(.box (.dat y3)))),(7,(false,(.box (.dat y3)))),(39,uiM)],[]⟩ 0 ⟨[(4,(false,(.box (.dat y3)))),(7,(false,(.box (.dat y3))))],[]⟩ (.seq lfA (.seq lfA (.seq (.blk (.seq lfA (.seq (.joinR [(4,6),(44,59),(35000000,35000001)] ⟨[(4,(false,(.box (.dat y3))))],[]⟩ lfA) lfA))) lfA)))))) lfA)))))
def rU (a0:A7) (a1:pV):Option D6:=l9 (lat a1.2.2.2.2.1 a0.2) fun x=>l9 (l7 (ieq a0.1 37)
 (some (x.1,x.2,1)) (some (x.1,x.2,0))) fun x_1=>l9 (l7 (ieq a0.1 39) (l7 (ieq (o7 a1.2.2.2.1) 0) (some (.inr ((0,0,
 0),6))) (some (.inl (0,0,0)))) (some (.inl (0,0,0)))) fun o=>I7 o (fun(x_2:G9)=>l9 (G8
 (fun(x_3:G9×D6)=>l7 (ilt x_3.2.2 (o7 a1.2.2.2.1)) (l9 (lat a1.2.2.2.1 x_3.2.2) fun x_4=>l9
 (l7 (ile (o7 x_4) a0.2) (some (.inr ((0,0,0),6))) (l9 (lat x_4 a0.2) fun x=>l7 (ieq x.1 0) (some (.inr ((0,0,0),
 6))) (some (.inl x_3.1)))) fun o=>I7 o (fun(x_5:G9)=>l9 (lat x_4 a0.2) fun x_6=>l9
 (tY x_6 x) fun x=>l7 (C9 x) (some (.rt ((0,0,0),8))) (l7 (ieq a0.1 36) (l9 (aS (x_3.2.1.1,
 x_3.2.1.2.1,x9 .i64 x_3.2.1.2.2 x_6.2.2)) fun x=>l7 (C9 x) (some (.rt ((0,0,0),3))) (some (.nx (x_5,(x_3.2.1.1,
 x_3.2.1.2.1,x9 .i64 x_3.2.1.2.2 x_6.2.2),x9 .i64 x_3.2.2 1)))) (l7 (ieq a0.1 37) (some (.nx (x_5,(x_3.2.1.1,x_3.2.1.2.1,
 vJ x_3.2.1.2.2 x_6.2.2),x9 .i64 x_3.2.2 1))) (l7 (ieq a0.1 38) (some (.nx (x_5,(x_3.2.1.1,x_3.2.1.2.1,mV x_3.2.1.2.2 x_6.2.2),
 x9 .i64 x_3.2.2 1))) (l7 (ieq a0.1 39) (l7 (ieq x_3.2.2 0) (some (.nx (x_5,x_6,x9 .i64 x_3.2.2 1))) (l7 (ilt
 x_3.2.1.2.2 x_6.2.2) (some (.nx (x_5,x_6,x9 .i64 x_3.2.2 1))) (some (.nx (x_5,x_3.2.1,x9 .i64 x_3.2.2 1))))) (some
 (.nx (x_5,x_3.2.1,x9 .i64 x_3.2.2 1)))))))) fun r=>some (.rt r)) (some (.ex (x_3.1,x_3.2.1)))) (x_2,x_1,
 0)) fun o=>I7 o (fun(y:G9×G9)=>some (y.2,0)) fun r=>some r) fun(r
 :D6)=>some r
def b4S:FSpec:=mkS a2w a4v fun x=>rU x.1 x.2
def SE:List MG:=[(true,(.dat y4)),(false,(.rp (.int .i64))),(false,(.rp (.int .i64)))]
def TA:Ret:=⟨[(.tmp 4,ubM)],[]⟩
def a6o:Env:=⟨21,eqs,tt,gl,[(178,a0z)],[],[],[],[],[]⟩
def ZM:Ann:=.leaf
def xg (a0:vN) (a1:Int) (a2:Int):Option Bool:=l9 (fH a0.1 a1) fun x=>l7 x (l7 (ile a0.2.1
 a2) (some (ilt a2 a0.2.2.1)) (some false)) (some false)
def Qc:FSpec:=mkS SE TA fun x=>xg x.1 x.2.1 x.2.2
def WV:List MG:=[(false,(.dat y5)),(false,(.fn 214 [(.int .i64),(.int .i64)]))]
def Xy:Ret:=⟨[(.tmp 4,uiM),(.tmp 5,ubM)],[]⟩
def b0K:Env:=⟨20,eqs,tt,gl,[(214,Qc)],[],[],[],[],[]⟩
def a5K:Ann:=.seq lfA (.seq (.seq lfA (.blk (.loopR [(4,8),(10,20)] ⟨[(10,uiM)],[]⟩ 0 ⟨[],[]⟩ lfA))) lfA)
def lF (a0:List vN) (a1:A7):Option (Int×Bool):=l9 (G8 (fun(x:Int)=>l7 (ilt x (o7 a0)) (l9 (lat
 a0 x) fun x_1=>l9 (xg x_1 a1.1 a1.2) fun x_2=>l7 x_2 (some (.rt (x,true))) (some (.nx (x9
 .i64 x 1)))) (some (.ex ()))) 0) fun o=>I7 o (fun(y:PUnit)=>some (0,false)) fun r
 =>some r
def a5j:FSpec:=mkS WV Xy fun x=>lF x.1 x.2
def a2x:List MG:=[(true,(.dat y8)),uiM,uiM]
def a4w:Ret:=⟨[(.tmp 6,uiM),(.tmp 7,ubM)],[]⟩
def b9j:Env:=⟨14,eqs,tt,gl,[(214,Qc),(55,a5j)],[],[],[],[],[]⟩
def a9V:Ann:=.leaf
def Bj (a0:V7) (a1:Int) (a2:Int):Option (Int×Bool):=l9 (lF a0.2.2.2 (a1,a2)) fun x=>
 some x
def b4T:FSpec:=mkS a2x a4w fun x=>Bj x.1 x.2.1 x.2.2
def b1z:List MG:=[(false,(.dat (.int .u64))),(false,(.dat (.int .u64)))]
def XZ:FSpec:=⟨b1z,[(false,(.dat (.int .u64))),(false,(.dat (.int .u64)))],[],fun x=>jU x.1 x.2⟩
def a1B:List MG:=[(false,(.dat (.int .u64)))]
def a3z:Ret:=⟨[(.tmp 2,uiM)],[]⟩
def b8k:Env:=⟨25,eqs,tt,gl,[],[],[],[],[],[]⟩
def a8W:Ann:=.leaf
def uZ (a0:Int):Option Int:=l7 (ile 4294967296 a0) (l7 (ile 65536 (gB .u64 a0 32)) (l7 (ile 256 (gB .u64
 (gB .u64 a0 32) 16)) (l9 (sat [0,1,2,2,3,3,3,3,4,4,4,4,4,4,4,4,5,5,5,5,5,5,5,5,5,5,5,5,5,5,5,5,6,6,6,
 6,6,6,6,6,6,6,6,6,6,6,6,6,6,6,6,6,6,6,6,6,6,6,6,6,6,6,6,6,7,7,7,7,7,7,7,7,7,7,7,7,7,7,7,7,7,7,7,7,7,
 7,7,7,7,7,7,7,7,7,7,7,7,7,7,7,7,7,7,7,7,7,7,7,7,7,7,7,7,7,7,7,7,7,7,7,7,7,7,7,7,7,7,7,8,8,8,8,8,8,8,
 8,8,8,8,8,8,8,8,8,8,8,8,8,8,8,8,8,8,8,8,8,8,8,8,8,8,8,8,8,8,8,8,8,8,8,8,8,8,8,8,8,8,8,8,8,8,8,8,8,8,
 8,8,8,8,8,8,8,8,8,8,8,8,8,8,8,8,8,8,8,8,8,8,8,8,8,8,8,8,8,8,8,8,8,8,8,8,8,8,8,8,8,8,8,8,8,8,8,8,8,8,
 8,8,8,8,8,8,8,8,8,8,8,8,8,8,8,8,8,8,8,8,8] (wrap .u8 (gB .u64 (gB .u64 (gB .u64 a0 32) 16) 8)))
 fun x=>some (x9 .i64 (x9 .i64 (x9 .i64 32 16) 8) (wrap .i64 x))) (l9 (sat [0,1,2,2,3,3,3,3,4,
 4,4,4,4,4,4,4,5,5,5,5,5,5,5,5,5,5,5,5,5,5,5,5,6,6,6,6,6,6,6,6,6,6,6,6,6,6,6,6,6,6,6,6,6,6,6,6,6,6,6,
 6,6,6,6,6,7,7,7,7,7,7,7,7,7,7,7,7,7,7,7,7,7,7,7,7,7,7,7,7,7,7,7,7,7,7,7,7,7,7,7,7,7,7,7,7,7,7,7,7,7,
 7,7,7,7,7,7,7,7,7,7,7,7,7,7,7,7,7,7,7,8,8,8,8,8,8,8,8,8,8,8,8,8,8,8,8,8,8,8,8,8,8,8,8,8,8,8,8,8,8,8,
 8,8,8,8,8,8,8,8,8,8,8,8,8,8,8,8,8,8,8,8,8,8,8,8,8,8,8,8,8,8,8,8,8,8,8,8,8,8,8,8,8,8,8,8,8,8,8,8,8,8,
 8,8,8,8,8,8,8,8,8,8,8,8,8,8,8,8,8,8,8,8,8,8,8,8,8,8,8,8,8,8,8,8,8,8,8,8,8,8,8,8,8,8,8,8,8,8,8] (wrap
 .u8 (gB .u64 (gB .u64 a0 32) 16))) fun x=>some (x9 .i64 (x9 .i64 32 16) (wrap .i64 x))))
 (l7 (ile 256 (gB .u64 a0 32)) (l9 (sat [0,1,2,2,3,3,3,3,4,4,4,4,4,4,4,4,5,5,5,5,5,5,5,5,5,5,5,5,5,5,5,
 5,6,6,6,6,6,6,6,6,6,6,6,6,6,6,6,6,6,6,6,6,6,6,6,6,6,6,6,6,6,6,6,6,7,7,7,7,7,7,7,7,7,7,7,7,7,7,7,7,7,
 7,7,7,7,7,7,7,7,7,7,7,7,7,7,7,7,7,7,7,7,7,7,7,7,7,7,7,7,7,7,7,7,7,7,7,7,7,7,7,7,7,7,7,7,7,7,7,8,8,8,
 8,8,8,8,8,8,8,8,8,8,8,8,8,8,8,8,8,8,8,8,8,8,8,8,8,8,8,8,8,8,8,8,8,8,8,8,8,8,8,8,8,8,8,8,8,8,8,8,8,8,
 8,8,8,8,8,8,8,8,8,8,8,8,8,8,8,8,8,8,8,8,8,8,8,8,8,8,8,8,8,8,8,8,8,8,8,8,8,8,8,8,8,8,8,8,8,8,8,8,8,8,
 8,8,8,8,8,8,8,8,8,8,8,8,8,8,8,8,8,8,8,8,8,8,8,8,8] (wrap .u8 (gB .u64 (gB .u64 a0 32) 8))) fun(x:
 Int)=>some (x9 .i64 (x9 .i64 32 8) (wrap .i64 x))) (l9 (sat [0,1,2,2,3,3,3,3,4,4,4,4,4,4,4,4,5,5,5,
 5,5,5,5,5,5,5,5,5,5,5,5,5,6,6,6,6,6,6,6,6,6,6,6,6,6,6,6,6,6,6,6,6,6,6,6,6,6,6,6,6,6,6,6,6,7,7,7,7,7,
 7,7,7,7,7,7,7,7,7,7,7,7,7,7,7,7,7,7,7,7,7,7,7,7,7,7,7,7,7,7,7,7,7,7,7,7,7,7,7,7,7,7,7,7,7,7,7,7,7,7,
 7,7,7,7,7,7,7,7,7,8,8,8,8,8,8,8,8,8,8,8,8,8,8,8,8,8,8,8,8,8,8,8,8,8,8,8,8,8,8,8,8,8,8,8,8,8,8,8,8,8,
 8,8,8,8,8,8,8,8,8,8,8,8,8,8,8,8,8,8,8,8,8,8,8,8,8,8,8,8,8,8,8,8,8,8,8,8,8,8,8,8,8,8,8,8,8,8,8,8,8,8,
 8,8,8,8,8,8,8,8,8,8,8,8,8,8,8,8,8,8,8,8,8,8,8,8,8,8,8,8,8,8,8,8,8,8,8,8,8] (wrap .u8 (gB .u64 a0
 32))) fun x=>some (x9 .i64 32 (wrap .i64 x))))) (l7 (ile 65536 a0) (l7 (ile 256 (gB .u64 a0 16)) (l9 (sat
 [0,1,2,2,3,3,3,3,4,4,4,4,4,4,4,4,5,5,5,5,5,5,5,5,5,5,5,5,5,5,5,5,6,6,6,6,6,6,6,6,6,6,6,6,6,6,6,6,6,
 6,6,6,6,6,6,6,6,6,6,6,6,6,6,6,7,7,7,7,7,7,7,7,7,7,7,7,7,7,7,7,7,7,7,7,7,7,7,7,7,7,7,7,7,7,7,7,7,7,7,
 7,7,7,7,7,7,7,7,7,7,7,7,7,7,7,7,7,7,7,7,7,7,7,7,7,7,7,7,7,8,8,8,8,8,8,8,8,8,8,8,8,8,8,8,8,8,8,8,8,8,
 8,8,8,8,8,8,8,8,8,8,8,8,8,8,8,8,8,8,8,8,8,8,8,8,8,8,8,8,8,8,8,8,8,8,8,8,8,8,8,8,8,8,8,8,8,8,8,8,8,8,
 8,8,8,8,8,8,8,8,8,8,8,8,8,8,8,8,8,8,8,8,8,8,8,8,8,8,8,8,8,8,8,8,8,8,8,8,8,8,8,8,8,8,8,8,8,8,8,8,8,8,
 8,8,8,8,8,8,8] (wrap .u8 (gB .u64 (gB .u64 a0 16) 8))) fun x=>some (x9 .i64 (x9 .i64 (x9
 .i64 0 16) 8) (wrap .i64 x))) (l9 (sat [0,1,2,2,3,3,3,3,4,4,4,4,4,4,4,4,5,5,5,5,5,5,5,5,5,5,5,5,5,5,5,
 5,6,6,6,6,6,6,6,6,6,6,6,6,6,6,6,6,6,6,6,6,6,6,6,6,6,6,6,6,6,6,6,6,7,7,7,7,7,7,7,7,7,7,7,7,7,7,7,7,7,
 7,7,7,7,7,7,7,7,7,7,7,7,7,7,7,7,7,7,7,7,7,7,7,7,7,7,7,7,7,7,7,7,7,7,7,7,7,7,7,7,7,7,7,7,7,7,7,8,8,8,
 8,8,8,8,8,8,8,8,8,8,8,8,8,8,8,8,8,8,8,8,8,8,8,8,8,8,8,8,8,8,8,8,8,8,8,8,8,8,8,8,8,8,8,8,8,8,8,8,8,8,
 8,8,8,8,8,8,8,8,8,8,8,8,8,8,8,8,8,8,8,8,8,8,8,8,8,8,8,8,8,8,8,8,8,8,8,8,8,8,8,8,8,8,8,8,8,8,8,8,8,8,
 8,8,8,8,8,8,8,8,8,8,8,8,8,8,8,8,8,8,8,8,8,8,8,8,8] (wrap .u8 (gB .u64 a0 16))) fun x=>some (x9
 .i64 (x9 .i64 0 16) (wrap .i64 x)))) (l7 (ile 256 a0) (l9 (sat [0,1,2,2,3,3,3,3,4,4,4,4,4,4,4,4,5,5,5,
 5,5,5,5,5,5,5,5,5,5,5,5,5,6,6,6,6,6,6,6,6,6,6,6,6,6,6,6,6,6,6,6,6,6,6,6,6,6,6,6,6,6,6,6,6,7,7,7,7,7,
 7,7,7,7,7,7,7,7,7,7,7,7,7,7,7,7,7,7,7,7,7,7,7,7,7,7,7,7,7,7,7,7,7,7,7,7,7,7,7,7,7,7,7,7,7,7,7,7,7,7,
 7,7,7,7,7,7,7,7,7,8,8,8,8,8,8,8,8,8,8,8,8,8,8,8,8,8,8,8,8,8,8,8,8,8,8,8,8,8,8,8,8,8,8,8,8,8,8,8,8,8,
 8,8,8,8,8,8,8,8,8,8,8,8,8,8,8,8,8,8,8,8,8,8,8,8,8,8,8,8,8,8,8,8,8,8,8,8,8,8,8,8,8,8,8,8,8,8,8,8,8,8,
 8,8,8,8,8,8,8,8,8,8,8,8,8,8,8,8,8,8,8,8,8,8,8,8,8,8,8,8,8,8,8,8,8,8,8,8,8] (wrap .u8 (gB .u64 a0
 8))) fun x=>some (x9 .i64 (x9 .i64 0 8) (wrap .i64 x))) (l9 (sat [0,1,2,2,3,3,3,3,4,4,4,4,4,4,4,
 4,5,5,5,5,5,5,5,5,5,5,5,5,5,5,5,5,6,6,6,6,6,6,6,6,6,6,6,6,6,6,6,6,6,6,6,6,6,6,6,6,6,6,6,6,6,6,6,6,7,
 7,7,7,7,7,7,7,7,7,7,7,7,7,7,7,7,7,7,7,7,7,7,7,7,7,7,7,7,7,7,7,7,7,7,7,7,7,7,7,7,7,7,7,7,7,7,7,7,7,7,
 7,7,7,7,7,7,7,7,7,7,7,7,7,8,8,8,8,8,8,8,8,8,8,8,8,8,8,8,8,8,8,8,8,8,8,8,8,8,8,8,8,8,8,8,8,8,8,8,8,8,
 8,8,8,8,8,8,8,8,8,8,8,8,8,8,8,8,8,8,8,8,8,8,8,8,8,8,8,8,8,8,8,8,8,8,8,8,8,8,8,8,8,8,8,8,8,8,8,8,8,8,
 8,8,8,8,8,8,8,8,8,8,8,8,8,8,8,8,8,8,8,8,8,8,8,8,8,8,8,8,8,8,8,8,8,8,8,8,8,8,8,8,8] (wrap .u8 a0)) fun
 (x:Int)=>some (x9 .i64 0 (wrap .i64 x)))))
def b4k:FSpec:=mkS a1B a3z fun x=>uZ x
def a2U:List MG:=[(false,(.dat (.int .u64)))]
def a4T:Ret:=⟨[(.tmp 2,uiM)],[]⟩
def b9G:Env:=⟨6,eqs,tt,gl,[(136,b4k)],[],[],[],[],[]⟩
def b0s:Ann:=.leaf
def jy (a0:Int):Option Int:=l9 (uZ a0) fun x=>some (E9 .i64 64 x)
def b5h:FSpec:=mkS a2U a4T fun x=>jy x
def a2J:List MG:=[(false,(.dat (.int .u64))),(false,(.dat (.int .u64))),(false,(.dat (.int .u64)))]
def a4I:Ret:=⟨[(.tmp 6,(false,(.dat (.int .u64)))),(.tmp 7,(false,(.dat (.int .u64))))],[]⟩
def b9v:Env:=⟨135,eqs,tt,gl,[(234,b5h)],[],[],[],[],[]⟩
def b0h:Ann:=.seq lfA (.seq (.join [(19,22)] ⟨[],[]⟩ lfA) (.seq (.join [(22,26)] ⟨[],[]⟩ lfA) (.seq lfA (.seq lfA (.seq lfA (.seq lfA (.seq lfA (.seq lfA (.seq lfA (.seq lfA (.seq lfA (.seq lfA (.seq lfA (.seq (.blk (.loop [(15,17),(67,86)] ⟨[(15,(false,(.dat (.int .u64)))),(16,(false,(.dat (.int .u64))))],[]⟩ 0 ⟨[(15,(false,(.dat (.int .u64))))],[]⟩ lfA)) (.seq lfA (.seq lfA (.seq lfA (.seq (.blk (.loop [(16,17),(18,19),(102,121)] ⟨[(16,(false,(.dat (.int .u64)))),(18,(false,(.dat (.int .u64))))],[]⟩ 2 ⟨[(18,(false,(.dat (.int .u64))))],[]⟩ lfA)) lfA))))))))))))))))))
def fU (a0:Int) (a1:Int) (a2:Int):Option A7:=l9 (l7 (ieq a2 0) none (some ())) fun x=>l9 (l7
 (ile a2 a0) none (some ())) fun x=>l7 (ieq a0 0) (l9 (Jp .u64 a1 a2) fun x=>l9 (Rt a1 a2) fun
 (x_1:Int)=>some (x,x_1)) (l9 (jy a2) fun x=>l9 (MS .u64 a2 (wrap .u64 x)) fun x_1
 =>l9 (MS .u64 a0 (wrap .u64 x)) fun x_2=>l9 (Ru .u64 a1 (E9 .u64 64 (wrap .u64 x))) fun
 (x_3:Int)=>l9 (MS .u64 a1 (wrap .u64 x)) fun x_4=>l9 (Jp .u64 (ior .u64 x_2 x_3) (gB
 .u64 x_1 32)) fun x_5=>l9 (N7 (fun(x:A7)=>l7 (ile 4294967296 x.1) (l7 (ile 4294967296 (x9 .u64 x.2
 (gB .u64 x_1 32))) (some (.inr (E9 .u64 x.1 1))) (some (.inl (E9 .u64 x.1 1,x9 .u64 x.2 (gB .u64
 x_1 32))))) (l7 (ilt (x9 .u64 (bJ .u64 4294967296 x.2) (gB .u64 x_4 32)) (bJ .u64 x.1 (Um .u64 x_1
 4294967295))) (l7 (ile 4294967296 (x9 .u64 x.2 (gB .u64 x_1 32))) (some (.inr (E9 .u64 x.1 1))) (some (.inl (E9
 .u64 x.1 1,x9 .u64 x.2 (gB .u64 x_1 32))))) (some (.inr x.1)))) (x_5,E9 .u64 (ior .u64 x_2 x_3) (bJ
 .u64 x_5 (gB .u64 x_1 32)))) fun y=>l9 (Jp .u64 (E9 .u64 (x9 .u64 (bJ .u64 (ior
 .u64 x_2 x_3) 4294967296) (gB .u64 x_4 32)) (bJ .u64 y x_1)) (gB .u64 x_1 32)) fun x_6=>l9 (N7 (fun
 (x:A7)=>l7 (ile 4294967296 x.2) (l7 (ile 4294967296 (x9 .u64 x.1 (gB .u64 x_1 32))) (some (.inr (E9 .u64
 x.2 1))) (some (.inl (x9 .u64 x.1 (gB .u64 x_1 32),E9 .u64 x.2 1)))) (l7 (ilt (x9 .u64 (bJ .u64
 4294967296 x.1) (Um .u64 x_4 4294967295)) (bJ .u64 x.2 (Um .u64 x_1 4294967295))) (l7 (ile 4294967296 (x9 .u64
 x.1 (gB .u64 x_1 32))) (some (.inr (E9 .u64 x.2 1))) (some (.inl (x9 .u64 x.1 (gB .u64 x_1 32),E9
 .u64 x.2 1)))) (some (.inr x.2)))) (E9 .u64 (E9 .u64 (x9 .u64 (bJ .u64 (ior .u64 x_2 x_3)
 4294967296) (gB .u64 x_4 32)) (bJ .u64 y x_1)) (bJ .u64 x_6 (gB .u64 x_1 32)),x_6)) fun y_1=>l9
 (Ru .u64 (E9 .u64 (x9 .u64 (bJ .u64 (E9 .u64 (x9 .u64 (bJ .u64 (ior .u64 x_2
 x_3) 4294967296) (gB .u64 x_4 32)) (bJ .u64 y x_1)) 4294967296) (Um .u64 x_4 4294967295)) (bJ .u64 y_1 x_1))
 (wrap .u64 x)) fun x=>some (x9 .u64 (bJ .u64 y 4294967296) y_1,x))
def a0C:FSpec:=mkS a2J a4I fun x=>fU x.1 x.2.1 x.2.2
def a2C:List MG:=[uiM,uiM]
def a4B:Ret:=⟨[(.tmp 4,uiM),(.tmp 5,uiM),(.tmp 6,ubM)],[]⟩
def b9o:Env:=⟨47,eqs,tt,gl,[(222,XZ),(223,a0C)],[],[],[],[],[]⟩
def b0a:Ann:=.leaf
def pU (a0:Int) (a1:Int):Option (Int×Int×Bool):=l7 (ilt a1 0) (l9 (jU (wrap .u64 a0) (E9 .u64
 0 (wrap .u64 a1))) fun x=>l7 (ile 1000000 x.1) (some (0,0,false)) (l9 (fU x.1 x.2 1000000) fun x=>
 l7 (ilt 1000000000000000 x.1) (some (0,0,false)) (l7 (ilt a1 0) (some (E9 .i64 0 (wrap .i64 x.1),E9 .i64 0 (wrap
 .i64 x.2),true)) (some (wrap .i64 x.1,wrap .i64 x.2,true))))) (l9 (jU (wrap .u64 a0) (wrap .u64 a1))
 fun x=>l7 (ile 1000000 x.1) (some (0,0,false)) (l9 (fU x.1 x.2 1000000) fun x=>l7 (ilt
 1000000000000000 x.1) (some (0,0,false)) (l7 (ilt a1 0) (some (E9 .i64 0 (wrap .i64 x.1),E9 .i64 0 (wrap .i64
 x.2),true)) (some (wrap .i64 x.1,wrap .i64 x.2,true)))))
def b4X:FSpec:=mkS a2C a4B fun x=>pU x.1 x.2
def a2V:List MG:=[uiM]
def a4U:Ret:=⟨[(.tmp 2,ubM)],[]⟩
def b9H:Env:=⟨9,eqs,tt,gl,[],[],[],[],[],[]⟩
def b0t:Ann:=.leaf
def jL (a0:Int):Option Bool:=l7 (ile 0 a0) (some (ile a0 5)) (some false)
def a0F:FSpec:=mkS a2V a4U fun x=>jL x
def a2W:List MG:=[uiM,uiM]
def a4V:Ret:=⟨[(.tmp 4,ubM)],[]⟩
def b9I:Env:=⟨14,eqs,tt,gl,[],[],[],[],[],[]⟩
def b0u:Ann:=.leaf
def dG (a0:Int) (a1:Int):Option Bool:=l7 (ilt a1 a0) (some true) (some (ilt a0 (E9 .i64 0 a1)))
def a0G:FSpec:=mkS a2W a4V fun x=>dG x.1 x.2
def a2X:List MG:=[uiM]
def a4W:Ret:=⟨[(.tmp 2,(false,(.dat (.int .u64))))],[]⟩
def b9J:Env:=⟨10,eqs,tt,gl,[],[],[],[],[],[]⟩
def b0v:Ann:=.leaf
def dA (a0:Int):Option Int:=l7 (ilt a0 0) (some (E9 .u64 0 (wrap .u64 a0))) (some (wrap .u64 a0))
def a6Y:FSpec:=mkS a2X a4W fun x=>dA x
def a2Y:List MG:=[(false,(.dat (.int .u64))),(false,(.dat (.int .u64))),(false,(.dat (.int .u64))),ubM,uiM]
def a4X:Ret:=⟨[(.tmp 10,(false,(.dat (.int .u64))))],[]⟩
def b9K:Env:=⟨55,eqs,tt,gl,[],[],[],[],[],[]⟩
def b0w:Ann:=.leaf
def iJ (a0:Int) (a1:Int) (a2:Int) (a3:Bool) (a4:Int):Option Int:=l7 (ieq a1 0) (some a0) (l7 (ieq a4 0) (l7
 a3 (some (x9 .u64 a0 1)) (some a0)) (l7 (ieq a4 1) (l7 (C9 a3) (some (x9 .u64 a0 1)) (some a0)) (l7 (ieq a4 3) (some
 (x9 .u64 a0 1)) (l7 (ieq a4 4) (l7 (ile (E9 .u64 a2 a1) a1) (some (x9 .u64 a0 1)) (some a0)) (l7 (ieq a4 5)
 (l7 (ilt (E9 .u64 a2 a1) a1) (some (x9 .u64 a0 1)) (l7 (ieq a1 (E9 .u64 a2 a1)) (l7 (ieq (gz a0 2) 1) (some
 (x9 .u64 a0 1)) (some a0)) (some a0))) (some a0))))))
def a6Z:FSpec:=mkS a2Y a4X fun x=>iJ x.1 x.2.1 x.2.2.1 x.2.2.2.1 x.2.2.2.2
def a2Z:List MG:=[(false,(.dat (.int .u64))),ubM]
def a4Y:Ret:=⟨[(.tmp 4,uiM)],[]⟩
def b9L:Env:=⟨11,eqs,tt,gl,[],[],[],[],[],[]⟩
def b0x:Ann:=.leaf
def uy (a0:Int) (a1:Bool):Option Int:=l7 a1 (some (E9 .i64 0 (wrap .i64 a0))) (some (wrap .i64 a0))
def a7a:FSpec:=mkS a2Z a4Y fun x=>uy x.1 x.2
def a2K:List MG:=[uiM,uiM,uiM]
def a4J:Ret:=⟨[(.tmp 6,uiM),(.tmp 7,uiM)],[]⟩
def b9w:Env:=⟨45,eqs,tt,gl,[(235,a0F),(236,a0G),(237,a6Y),(238,a6Z),(239,a7a)],[],[],[],[],[]⟩
def b0i:Ann:=.leaf
def bW (a0:Int) (a1:Int) (a2:Int):Option A7:=l9 (jL a2) fun x=>l7 (C9 x) (some (0,1)) (l7
 (ieq a1 0) (some (0,12)) (l9 (dG a0 4611686018427387904) fun x=>l7 x (some (0,3)) (l9 (dG a1
 4611686018427387904) fun x=>l7 x (some (0,3)) (l9 (dA a0) fun x=>l9 (dA a1) fun x_1
 =>l9 (Jp .u64 x x_1) fun x_2=>l9 (Rt x x_1) fun x=>l9 (iJ x_2 x x_1 (C9 (oC (ilt a0
 0) (ilt a1 0))) a2) fun x=>l9 (uy x (C9 (oC (ilt a0 0) (ilt a1 0)))) fun x=>some (x,0)))))
def Ya:FSpec:=mkS a2K a4J fun x=>bW x.1 x.2.1 x.2.2
def a2D:List MG:=[uiM,uiM,uiM]
def a4C:Ret:=⟨[(.tmp 6,uiM),(.tmp 7,uiM)],[]⟩
def b9p:Env:=⟨60,eqs,tt,gl,[(224,Ya)],[],[],[],[],[]⟩
def b0b:Ann:=.leaf
def xh (a0:Int) (a1:Int) (a2:Int):Option A7:=l7 (ilt (x9 .i64 a0 (Z5 .i64 a1 1000000))
 (-2000000000000000)) (some (0,3)) (l7 (ilt 2000000000000000 (x9 .i64 a0 (Z5 .i64 a1 1000000))) (some (0,3)) (l7 (ilt 1
 (x9 .i64 a0 (Z5 .i64 a1 1000000))) (l9 (bW (x9 .i64 (bJ .i64 (x9 .i64 (gz (x9
 .i64 a0 (Z5 .i64 a1 1000000)) 2) 2) 1000000) (gz a1 1000000)) 1000000 a2) fun x=>l7 (C9 (ieq x.2 0)) (some (0,
 x.2)) (l7 (ilt (x9 .i64 (E9 .i64 (x9 .i64 a0 (Z5 .i64 a1 1000000)) (x9 .i64 (gz (x9 .i64
 a0 (Z5 .i64 a1 1000000)) 2) 2)) x.1) (-1000000000000000)) (some (0,3)) (l7 (ilt 1000000000000000 (x9 .i64 (E9 .i64
 (x9 .i64 a0 (Z5 .i64 a1 1000000)) (x9 .i64 (gz (x9 .i64 a0 (Z5 .i64 a1 1000000)) 2) 2)) x.1)) (some
 (0,3)) (some (x9 .i64 (E9 .i64 (x9 .i64 a0 (Z5 .i64 a1 1000000)) (x9 .i64 (gz (x9 .i64 a0
 (Z5 .i64 a1 1000000)) 2) 2)) x.1,0))))) (l7 (ilt (x9 .i64 a0 (Z5 .i64 a1 1000000)) (-1)) (l9 (bW (x9
 .i64 (bJ .i64 (E9 .i64 (gz (x9 .i64 a0 (Z5 .i64 a1 1000000)) 2) 2) 1000000) (gz a1 1000000)) 1000000
 a2) fun x=>l7 (C9 (ieq x.2 0)) (some (0,x.2)) (l7 (ilt (x9 .i64 (E9 .i64 (x9 .i64 a0 (Z5
 .i64 a1 1000000)) (E9 .i64 (gz (x9 .i64 a0 (Z5 .i64 a1 1000000)) 2) 2)) x.1) (-1000000000000000)) (some (0,3))
 (l7 (ilt 1000000000000000 (x9 .i64 (E9 .i64 (x9 .i64 a0 (Z5 .i64 a1 1000000)) (E9 .i64 (gz (x9
 .i64 a0 (Z5 .i64 a1 1000000)) 2) 2)) x.1)) (some (0,3)) (some (x9 .i64 (E9 .i64 (x9 .i64 a0 (Z5
 .i64 a1 1000000)) (E9 .i64 (gz (x9 .i64 a0 (Z5 .i64 a1 1000000)) 2) 2)) x.1,0))))) (l9 (bW (x9
 .i64 (bJ .i64 (gz (x9 .i64 a0 (Z5 .i64 a1 1000000)) 2) 1000000) (gz a1 1000000)) 1000000 a2) fun x=>
 l7 (C9 (ieq x.2 0)) (some (0,x.2)) (l7 (ilt (x9 .i64 (E9 .i64 (x9 .i64 a0 (Z5 .i64 a1 1000000)) (gz
 (x9 .i64 a0 (Z5 .i64 a1 1000000)) 2)) x.1) (-1000000000000000)) (some (0,3)) (l7 (ilt 1000000000000000 (x9 .i64 (E9
 .i64 (x9 .i64 a0 (Z5 .i64 a1 1000000)) (gz (x9 .i64 a0 (Z5 .i64 a1 1000000)) 2)) x.1)) (some (0,3))
 (some (x9 .i64 (E9 .i64 (x9 .i64 a0 (Z5 .i64 a1 1000000)) (gz (x9 .i64 a0 (Z5 .i64 a1
 1000000)) 2)) x.1,0))))))))
def b4Y:FSpec:=mkS a2D a4C fun x=>xh x.1 x.2.1 x.2.2
def a2y:List MG:=[(true,(.dat y8)),uiM,uiM,uiM]
def a4x:Ret:=⟨[(.tmp 8,uiM),(.tmp 9,uiM)],[]⟩
def b9k:Env:=⟨90,eqs,tt,gl,[(178,a0z),(215,b4X),(216,b4Y)],[],[],[],[],[]⟩
def a9W:Ann:=.seq lfA (.seq (.joinR [(8,10),(19,25)] ⟨[],[]⟩ lfA) (.seq (.joinR [(8,10),(25,35)] ⟨[],[]⟩ lfA) (.seq (.joinR [(8,10),(35,41)] ⟨[],[]⟩ lfA) (.seq lfA (.seq (.seq lfA (.blk (.loopR [(8,12),(13,19),(44,84)] ⟨[(10,uiM),(11,uiM),(44,uiM)],[]⟩ 0 ⟨[(10,uiM),(11,uiM)],[]⟩ lfA))) lfA)))))
def xf (a0:V7) (a1:Int) (a2:Int) (a3:Int):Option A7:=l9 (l7 (ilt a3 0) (some (.inr (0,1))) (l7 (ilt 5 a3)
 (some (.inr (0,1))) (some (.inl ())))) fun o=>I7 o (fun(x:PUnit)=>l9 (l7 (C9 (P6 (ieq a0.2.1.1 3)
 (ieq a0.2.1.2 0))) (some (.inr (0,8))) (l7 (C9 (P6 (ieq a0.2.2.1.1 4) (ieq a0.2.2.1.2 0))) (some (.inr (0,8))) (some (.inl
 ())))) fun o=>I7 o (fun(x:PUnit)=>l9 (l7 (ilt a2 (-1000000000000000)) (some (.inr (0,3))) (l7 (ilt
 1000000000000000 a2) (some (.inr (0,3))) (some (.inl ())))) fun o=>I7 o (fun(x:PUnit)=>l9 (G8 (fun(x
 :G9)=>l7 (ilt x.2.2 (o7 a0.2.2.2)) (l9 (lat a0.2.2.2 x.2.2) fun x_1=>l9 (fH x_1.1 a1) fun x_2
 =>l7 (C9 x_2) (some (.nx (x.1,x.2.1,x9 .i64 x.2.2 1))) (l7 (ile (vJ x_1.2.2.1 a2) (mV x_1.2.1 0)) (some (.nx (x.1,
 x.2.1,x9 .i64 x.2.2 1))) (l9 (pU (E9 .i64 (vJ x_1.2.2.1 a2) (mV x_1.2.1 0)) x_1.2.2.2) fun x_3=>l7 (C9 x_3.2.2) (some (.rt (0,3))) (some (.nx (x9 .i64 x.1 x_3.1,x9 .i64 x.2.1 x_3.2.1,x9 .i64
 x.2.2 1)))))) (some (.ex (x.1,x.2.1)))) (0,0,0)) fun o=>I7 o (fun(y:A7)=>l9 (xh y.1 y.2 a3) fun(x
 :A7)=>some x) fun r=>some r) fun r=>some r) fun r=>some r) fun r=>some r
def b4U:FSpec:=mkS a2y a4x fun x=>xf x.1 x.2.1 x.2.2.1 x.2.2.2
def a2E:List MG:=[ubM]
def a4D:Ret:=⟨[(.cell 2 54,(true,(.dat y3)))],[]⟩
def b9q:Env:=⟨6,eqs,tt,gl,[],[],[],[],[],[]⟩
def b0c:Ann:=.leaf
def dR (a0:Bool):Option G9:=l7 a0 (some (1,0,1)) (some (1,0,0))
def a6V:FSpec:=mkS a2E a4D fun x=>dR x
def a2L:List MG:=[uiM]
def a4K:Ret:=⟨[(.tmp 2,ubM)],[]⟩
def b9x:Env:=⟨9,eqs,tt,gl,[],[],[],[],[],[]⟩
def b0j:Ann:=.leaf
def oL (a0:Int):Option Bool:=l7 (ile 0 a0) (some (ile a0 109572)) (some false)
def a0D:FSpec:=mkS a2L a4K fun x=>oL x
def a3a:List MG:=[uiM]
def a4Z:Ret:=⟨[(.tmp 2,uiM)],[]⟩
def b9M:Env:=⟨11,eqs,tt,gl,[],[],[],[],[],[]⟩
def b0y:Ann:=.leaf
def oK (a0:Int):Option Int:=some (x9 .i64 (E9 .i64 (Z5 .i64 a0 4) (Z5 .i64 a0 100)) (Z5
 .i64 a0 400))
def b5i:FSpec:=mkS a3a a4Z fun x=>oK x
def a2M:List MG:=[uiM]
def a4L:Ret:=⟨[(.tmp 2,uiM)],[]⟩
def b9y:Env:=⟨12,eqs,tt,gl,[(240,b5i)],[],[],[],[],[]⟩
def b0k:Ann:=.leaf
def kH (a0:Int):Option Int:=l9 (oK (E9 .i64 a0 1)) fun x=>l9 (oK 1899) fun(x_1:
 Int)=>some (E9 .i64 (x9 .i64 (bJ .i64 (E9 .i64 a0 1900) 365) x) x_1)
def a6X:FSpec:=mkS a2M a4L fun x=>kH x
def a3b:List MG:=[uiM]
def a5a:Ret:=⟨[(.tmp 2,ubM)],[]⟩
def b9N:Env:=⟨16,eqs,tt,gl,[],[],[],[],[],[]⟩
def b0z:Ann:=.leaf
def Dx (a0:Int):Option Bool:=l7 (ieq (gz a0 4) 0) (l7 (C9 (ieq (gz a0 100) 0)) (some true) (some (ieq (gz a0 400) 0)))
 (some false)
def b5j:FSpec:=mkS a3b a5a fun x=>Dx x
def a2N:List MG:=[uiM,uiM]
def a4M:Ret:=⟨[(.tmp 4,uiM)],[]⟩
def b9z:Env:=⟨21,eqs,tt,gl,[(241,b5j)],[],[],[],[],[]⟩
def b0l:Ann:=.leaf
def eF (a0:Int) (a1:Int):Option Int:=l7 (ilt a1 1) (some 0) (l7 (ilt 12 a1) (some 0) (l7 (ieq a1 2) (l9 (Dx
 a0) fun x=>l7 x (some 29) (l9 (lat [31,28,31,30,31,30,31,31,30,31,30,31] (E9 .i64 a1 1)) fun x=>some
 x)) (l9 (lat [31,28,31,30,31,30,31,31,30,31,30,31] (E9 .i64 a1 1)) fun x=>some x)))
def a0E:FSpec:=mkS a2N a4M fun x=>eF x.1 x.2
def a2F:List MG:=[uiM]
def a4E:Ret:=⟨[(.tmp 2,uiM),(.tmp 3,uiM),(.tmp 4,uiM)],[]⟩
def b9r:Env:=⟨45,eqs,tt,gl,[(225,a0D),(226,a6X),(227,a0E)],[],[],[],[],[]⟩
def b0d:Ann:=.seq lfA (.seq lfA (.seq lfA (.seq (.blk (.loop [(5,6),(15,22)] ⟨[(5,uiM)],[]⟩ 0 ⟨[(5,uiM)],[]⟩ lfA)) (.seq lfA (.seq (.seq lfA (.blk (.loopR [(2,5),(6,9),(26,45)] ⟨[(6,uiM),(26,uiM)],[]⟩ 2 ⟨[],[]⟩ lfA))) lfA)))))
def oJ (a0:Int):Option G9:=l9 (oL a0) fun x=>l7 (C9 x) (some (0,0,0)) (l9 (N7 (fun(x:Int)=>
 l9 (kH (x9 .i64 x 1)) fun x_1=>l7 (ile x_1 a0) (some (.inl (x9 .i64 x 1))) (some (.inr x))) (x9
 .i64 1900 (Z5 .i64 a0 366))) fun y=>l9 (kH y) fun x=>l9 (G8 (fun(x:A7)=>l7 (ilt
 x.2 12) (l9 (eF y (x9 .i64 x.2 1)) fun x_1=>l7 (ilt x.1 x_1) (some (.rt (y,x9 .i64 x.2 1,x9
 .i64 x.1 1))) (some (.nx (E9 .i64 x.1 x_1,x9 .i64 x.2 1)))) (some (.ex ()))) (E9 .i64 a0 x,0)) fun
 (o:PUnit⊕G9)=>I7 o (fun(y:PUnit)=>some (0,0,0)) fun r=>some r)
def a0B:FSpec:=mkS a2F a4E fun x=>oJ x
def a2z:List MG:=[uiM,(true,(.dat y3))]
def a4y:Ret:=⟨[(.cell 4 54,(true,(.dat y3)))],[]⟩
def b9l:Env:=⟨36,eqs,tt,gl,[(217,a6V),(218,a0B)],[],[],[],[],[]⟩
def a9X:Ann:=.leaf
def FP (a0:Int) (a1:G9):Option G9:=l7 (ieq a0 10) (some (a1.1,0,E9 .i64 0 a1.2.2)) (l7 (ieq a0 25) (l9
 (dR (ieq a1.2.2 0)) fun x=>some x) (l9 (oJ a1.2.2) fun x=>l7 (ieq a0 31) (some (2,0,x.1)) (some (2,
 0,x.2.1))))
def b4V:FSpec:=mkS a2z a4y fun x=>FP x.1 x.2
def a2O:List MG:=[uiM,uiM]
def a4N:Ret:=⟨[(.tmp 4,uiM),(.tmp 5,uiM)],[]⟩
def b9A:Env:=⟨38,eqs,tt,gl,[(222,XZ)],[],[],[],[],[]⟩
def b0m:Ann:=.leaf
def Aa (a0:Int) (a1:Int):Option A7:=l9 (jU (wrap .u64 (mV a0 (E9 .i64 0 a0))) (wrap .u64 (mV
 a1 (E9 .i64 0 a1)))) fun x=>l7 (C9 (ieq x.1 0)) (some (0,3)) (l7 (ilt 1000000000000000 x.2) (some (0,3)) (l7 (C9
 (oC (ilt a0 0) (ilt a1 0))) (some (E9 .i64 0 (wrap .i64 x.2),0)) (some (wrap .i64 x.2,0))))
def b5b:FSpec:=mkS a2O a4N fun x=>Aa x.1 x.2
def a3c:List MG:=[uiM,uiM,uiM,uiM]
def a5b:Ret:=⟨[(.tmp 8,uiM),(.tmp 9,uiM)],[]⟩
def b9O:Env:=⟨72,eqs,tt,gl,[(235,a0F),(236,a0G),(237,a6Y),(222,XZ),(223,a0C),(238,a6Z),(239,a7a)],[],[],[],[],[]⟩
def b0A:Ann:=.seq lfA (.seq lfA (.seq lfA (.seq (.joinR [(8,10),(21,31)] ⟨[],[]⟩ lfA) lfA)))
def Ap (a0:Int) (a1:Int) (a2:Int) (a3:Int):Option A7:=l9 (jL a3) fun x=>l7 (C9 x) (some (0,
 1)) (l7 (ieq a2 0) (some (0,12)) (l9 (l9 (dG a0 1000000000000000) fun x=>l7 x (some (.inr (0,3))) (l9
 (dG a1 1000000000) fun x=>l7 x (some (.inr (0,3))) (l9 (dG a2 1000000000) fun x=>l7 x (some
 (.inr (0,3))) (some (.inl ()))))) fun o=>I7 o (fun(x:PUnit)=>l9 (dA a0) fun x=>
 l9 (dA a1) fun x_1=>l9 (jU x x_1) fun x=>l9 (dA a2) fun x_2=>l7 (ile x_2
 x.1) (some (0,3)) (l9 (fU x.1 x.2 x_2) fun x=>l7 (ilt 1000000000000000 x.1) (some (0,3)) (l9
 (iJ x.1 x.2 x_2 (C9 (oC (C9 (oC (ilt a0 0) (ilt a1 0))) (ilt a2 0))) a3) fun x=>l7 (ilt 1000000000000000 x)
 (some (0,3)) (l9 (uy x (C9 (oC (C9 (oC (ilt a0 0) (ilt a1 0))) (ilt a2 0)))) fun x=>some (x,0))))) fun r
 =>some r))
def b5k:FSpec:=mkS a3c a5b fun x=>Ap x.1 x.2.1 x.2.2.1 x.2.2.2
def a2P:List MG:=[uiM,uiM,uiM]
def a4O:Ret:=⟨[(.tmp 6,uiM),(.tmp 7,uiM)],[]⟩
def b9B:Env:=⟨14,eqs,tt,gl,[(242,b5k)],[],[],[],[],[]⟩
def b0n:Ann:=.leaf
def Hf (a0:Int) (a1:Int) (a2:Int):Option A7:=l9 (Ap a0 a1 1000000 a2) fun x=>some x
def b5c:FSpec:=mkS a2P a4O fun x=>Hf x.1 x.2.1 x.2.2
def a3d:List MG:=[uiM]
def a5c:Ret:=⟨[(.tmp 2,ubM)],[]⟩
def b9P:Env:=⟨9,eqs,tt,gl,[],[],[],[],[],[]⟩
def b0B:Ann:=.leaf
def pF (a0:Int):Option Bool:=l7 (ile 0 a0) (some (ile a0 5)) (some false)
def a7b:FSpec:=mkS a3d a5c fun x=>pF x
def a3e:List MG:=[uiM,uiM]
def a5d:Ret:=⟨[(.tmp 4,ubM)],[]⟩
def b9Q:Env:=⟨14,eqs,tt,gl,[],[],[],[],[],[]⟩
def b0C:Ann:=.leaf
def kw (a0:Int) (a1:Int):Option Bool:=l7 (ilt a1 a0) (some true) (some (ilt a0 (E9 .i64 0 a1)))
def a7c:FSpec:=mkS a3e a5d fun x=>kw x.1 x.2
def a2Q:List MG:=[uiM,uiM,uiM]
def a4P:Ret:=⟨[(.tmp 6,uiM),(.tmp 7,uiM)],[]⟩
def b9C:Env:=⟨33,eqs,tt,gl,[(243,a7b),(244,a7c),(224,Ya)],[],[],[],[],[]⟩
def b0o:Ann:=.leaf
def NL (a0:Int) (a1:Int) (a2:Int):Option A7:=l9 (pF a2) fun x=>l7 (C9 x) (some (0,1)) (l9
 (kw a0 1000000000) fun x=>l7 x (some (0,3)) (l9 (kw a1 1000000000) fun x=>l7 x (some (0,3)) (l9
 (bW (bJ .i64 a0 a1) 1000000 a2) fun x=>l7 (C9 (ieq x.2 0)) (some (0,x.2)) (l9 (kw x.1 1000000000)
 fun x_1=>l7 x_1 (some (0,3)) (some (x.1,0))))))
def b5d:FSpec:=mkS a2Q a4P fun x=>NL x.1 x.2.1 x.2.2
def a2R:List MG:=[uiM,uiM,uiM]
def a4Q:Ret:=⟨[(.tmp 6,uiM),(.tmp 7,uiM)],[]⟩
def b9D:Env:=⟨38,eqs,tt,gl,[(235,a0F),(236,a0G),(224,Ya)],[],[],[],[],[]⟩
def b0p:Ann:=.leaf
def yB (a0:Int) (a1:Int) (a2:Int):Option A7:=l9 (jL a2) fun x=>l7 (C9 x) (some (0,1)) (l7
 (ilt a1 1) (some (0,12)) (l9 (dG a0 1000000000000000) fun x=>l7 x (some (0,3)) (l7 (ilt 1000000000000000 a1) (some
 (0,3)) (l9 (bW a0 a1 a2) fun x=>l7 (C9 (ieq x.2 0)) (some (0,x.2)) (l9 (dG (bJ .i64 x.1 a1)
 1000000000000000) fun x_1=>l7 x_1 (some (0,3)) (some (bJ .i64 x.1 a1,0)))))))
def b5e:FSpec:=mkS a2R a4Q fun x=>yB x.1 x.2.1 x.2.2
def a3f:List MG:=[(false,(.dat (.int .u64))),(false,(.dat (.int .u64))),(false,(.dat (.int .u64))),ubM,uiM]
def a5e:Ret:=⟨[(.tmp 10,ubM)],[]⟩
def b9R:Env:=⟨49,eqs,tt,gl,[],[],[],[],[],[]⟩
def b0D:Ann:=.leaf
def yF (a0:Int) (a1:Int) (a2:Int) (a3:Bool) (a4:Int):Option Bool:=l7 (ieq a1 0) (some false) (l7 (ieq a4 0) (some a3)
 (l7 (ieq a4 1) (some (C9 a3)) (l7 (ieq a4 3) (some true) (l7 (ieq a4 4) (some (ile (E9 .u64 a2 a1) a1)) (l7 (ieq a4 5) (l7
 (ilt (E9 .u64 a2 a1) a1) (some true) (l7 (ieq a1 (E9 .u64 a2 a1)) (some (ieq (gz a0 2) 1)) (some false))) (some false))))))
def b5l:FSpec:=mkS a3f a5e fun x=>yF x.1 x.2.1 x.2.2.1 x.2.2.2.1 x.2.2.2.2
def a2S:List MG:=[uiM,uiM,uiM]
def a4R:Ret:=⟨[(.tmp 6,uiM),(.tmp 7,uiM)],[]⟩
def b9E:Env:=⟨73,eqs,tt,gl,[(243,a7b),(244,a7c),(222,XZ),(223,a0C),(245,b5l)],[],[],[],[],[]⟩
def b0q:Ann:=.leaf
def wL (a0:Int) (a1:Int) (a2:Int):Option A7:=l9 (pF a2) fun x=>l7 (C9 x) (some (0,1)) (l7
 (ieq a1 0) (some (0,12)) (l9 (kw a0 1000000000000000) fun x=>l7 x (some (0,3)) (l9 (kw a1 1000000000000000)
 fun x=>l7 x (some (0,3)) (l9 (jU (wrap .u64 (mV a0 (E9 .i64 0 a0))) 1000000) fun x=>l7 (ile
 (wrap .u64 (mV a1 (E9 .i64 0 a1))) x.1) (some (0,3)) (l9 (fU x.1 x.2 (wrap .u64 (mV a1 (E9 .i64
 0 a1)))) fun x=>l7 (ilt 1000000000 x.1) (some (0,3)) (l9 (yF x.1 x.2 (wrap .u64 (mV a1 (E9 .i64 0
 a1))) (C9 (oC (ilt a0 0) (ilt a1 0))) a2) fun x_1=>l7 x_1 (l7 (ilt 1000000000 (x9 .i64 (wrap .i64 x.1) 1)) (some
 (0,3)) (l7 (C9 (oC (ilt a0 0) (ilt a1 0))) (some (E9 .i64 0 (x9 .i64 (wrap .i64 x.1) 1),0)) (some (x9 .i64
 (wrap .i64 x.1) 1,0)))) (l7 (ilt 1000000000 (wrap .i64 x.1)) (some (0,3)) (l7 (C9 (oC (ilt a0 0) (ilt a1 0))) (some (E9
 .i64 0 (wrap .i64 x.1),0)) (some (wrap .i64 x.1,0))))))))))
def b5f:FSpec:=mkS a2S a4R fun x=>wL x.1 x.2.1 x.2.2
def a2G:List MG:=[(true,(.dat y2)),(true,(.dat y3)),(true,(.dat y3))]
def a4F:Ret:=⟨[(.cell 6 54,(true,(.dat y3))),(.tmp 7,uiM)],[]⟩
def b9s:Env:=⟨105,eqs,tt,gl,[(228,b5b),(229,b5c),(230,b5d),(231,b5e),(224,Ya),(232,b5f)],[],[],[],[],[]⟩
def b0e:Ann:=.seq lfA (.seq lfA (.seq (.blk (.seq lfA (.cond lfA (.seq (.join [(38,47)] ⟨[(38,ubM)],[]⟩ lfA) lfA)))) lfA))
def DC (a0:A7) (a1:G9) (a2:G9):Option D6:=l7 (ieq a0.1 13) (l9 (Aa a1.2.2 a2.2.2) fun(x:
 A7)=>some ((a1.1,0,x.1),x.2)) (l9 (l7 (ieq a0.1 14) (some (ieq a1.1 3)) (some false)) fun x=>l7 x (l9 (Hf
 a1.2.2 a2.2.2 a0.2) fun x=>some ((a1.1,0,x.1),x.2)) (l7 (ieq a0.1 14) (l9 (NL a1.2.2 a2.2.2 a0.2) fun x=>some
 ((a1.1,0,x.1),x.2)) (l7 (ieq a0.1 16) (l9 (yB a1.2.2 a2.2.2 a0.2) fun x=>some ((a1.1,0,x.1),x.2)) (l7 (ieq a2.1
 2) (l9 (bW a1.2.2 a2.2.2 a0.2) fun x=>some ((a1.1,0,x.1),x.2)) (l9 (wL a1.2.2 a2.2.2 a0.2) fun(x:
 A7)=>some ((4,0,x.1),x.2))))))
def b4Z:FSpec:=mkS a2G a4F fun x=>DC x.1 x.2.1 x.2.2
def a2T:List MG:=[uiM,uiM,uiM]
def a4S:Ret:=⟨[(.tmp 6,uiM),(.tmp 7,uiM)],[]⟩
def b9F:Env:=⟨53,eqs,tt,gl,[(227,a0E),(226,a6X)],[],[],[],[],[]⟩
def b0r:Ann:=.seq lfA (.seq (.joinR [(6,8),(10,35)] ⟨[],[]⟩ lfA) (.seq lfA (.seq (.seq lfA (.blk (.loop [(8,10),(39,49)] ⟨[(8,uiM),(39,uiM)],[]⟩ 0 ⟨[(8,uiM)],[]⟩ lfA))) lfA)))
def zU (a0:Int) (a1:Int) (a2:Int):Option A7:=l9 (l7 (ilt a0 1900) (some (.inr (0,3))) (l7 (ilt 2199 a0) (some
 (.inr (0,3))) (l7 (ilt a1 1) (some (.inr (0,3))) (l7 (ilt 12 a1) (some (.inr (0,3))) (l7 (ilt a2 1) (some (.inr (0,3)))
 (l9 (eF a0 a1) fun x=>l7 (ilt x a2) (some (.inr (0,3))) (some (.inl ())))))))) fun o
 =>I7 o (fun(x:PUnit)=>l9 (kH a0) fun x=>l9 (N7 (fun(x:A7)=>l7 (ilt x.2 (E9 .i64 a1 1))
 (l9 (eF a0 (x9 .i64 x.2 1)) fun x_1=>some (.inl (x9 .i64 x.1 x_1,x9 .i64 x.2 1))) (some
 (.inr x.1))) (x,0)) fun y=>some (E9 .i64 (x9 .i64 y a2) 1,0)) fun r=>some r
def b5g:FSpec:=mkS a2T a4S fun x=>zU x.1 x.2.1 x.2.2
def a2H:List MG:=[uiM,uiM]
def a4G:Ret:=⟨[(.tmp 4,uiM),(.tmp 5,uiM)],[]⟩
def b9t:Env:=⟨57,eqs,tt,gl,[(225,a0D),(218,a0B),(227,a0E),(233,b5g)],[],[],[],[],[]⟩
def b0f:Ann:=.seq lfA (.seq (.joinR [(4,6),(10,21)] ⟨[],[]⟩ lfA) lfA)
def oI (a0:Int) (a1:Int):Option A7:=l9 (l9 (oL a0) fun x=>l7 (C9 x) (some (.inr (0,3)))
 (l7 (ilt a1 (-3600)) (some (.inr (0,3))) (l7 (ilt 3600 a1) (some (.inr (0,3))) (some (.inl ()))))) fun o
 =>I7 o (fun(x:PUnit)=>l9 (oJ a0) fun x=>l7 (ilt (x9 .i64 (E9 .i64 (x9 .i64 (bJ
 .i64 (E9 .i64 x.1 1900) 12) x.2.1) 1) a1) 0) (some (0,3)) (l7 (ilt 3599 (x9 .i64 (E9 .i64 (x9 .i64
 (bJ .i64 (E9 .i64 x.1 1900) 12) x.2.1) 1) a1)) (some (0,3)) (l9 (eF (x9 .i64 1900 (Z5 .i64
 (x9 .i64 (E9 .i64 (x9 .i64 (bJ .i64 (E9 .i64 x.1 1900) 12) x.2.1) 1) a1) 12)) (x9 .i64 (gz
 (x9 .i64 (E9 .i64 (x9 .i64 (bJ .i64 (E9 .i64 x.1 1900) 12) x.2.1) 1) a1) 12) 1)) fun x_1=>
 l9 (zU (x9 .i64 1900 (Z5 .i64 (x9 .i64 (E9 .i64 (x9 .i64 (bJ .i64 (E9
 .i64 x.1 1900) 12) x.2.1) 1) a1) 12)) (x9 .i64 (gz (x9 .i64 (E9 .i64 (x9 .i64 (bJ .i64 (E9
 .i64 x.1 1900) 12) x.2.1) 1) a1) 12) 1) (vJ x.2.2 x_1)) fun x=>some x))) fun r=>some r
def a6W:FSpec:=mkS a2H a4G fun x=>oI x.1 x.2
def a2I:List MG:=[uiM,uiM]
def a4H:Ret:=⟨[(.tmp 4,uiM)],[]⟩
def b9u:Env:=⟨60,eqs,tt,gl,[(225,a0D),(218,a0B),(220,a6W)],[],[],[],[],[]⟩
def b0g:Ann:=.leaf
def qo (a0:Int) (a1:Int):Option Int:=l9 (oL a0) fun x=>l7 (C9 x) (some 0) (l9 (oL a1) fun
 (x:Bool)=>l7 (C9 x) (some 0) (l7 (ilt a1 a0) (some 0) (l9 (oJ a0) fun x=>l9 (oJ a1) fun x_1
 =>l9 (oI a0 (bJ .i64 12 (E9 .i64 x_1.1 x.1))) fun x_2=>l7 (C9 (ieq x_2.2 0)) (some (mV (E9
 .i64 (E9 .i64 x_1.1 x.1) 1) 0)) (l7 (ilt a1 x_2.1) (some (mV (E9 .i64 (E9 .i64 x_1.1 x.1) 1) 0)) (some (mV
 (E9 .i64 x_1.1 x.1) 0))))))
def b5a:FSpec:=mkS a2I a4H fun x=>qo x.1 x.2
def a2A:List MG:=[(true,(.dat y2)),(true,(.dat y3)),(true,(.dat y3))]
def a4z:Ret:=⟨[(.cell 6 54,(true,(.dat y3))),(.tmp 7,uiM)],[]⟩
def b9m:Env:=⟨139,eqs,tt,gl,[(219,b4Z),(217,a6V),(220,a6W),(221,b5a)],[],[],[],[],[]⟩
def a9Y:Ann:=.seq lfA (.seq (.joinR [(6,133),(4000384,4000385)] ⟨[(6,(false,(.box (.dat y3))))],[]⟩ (.seq lfA (.blk (.seq (.join [(12,15)] ⟨[(12,ubM)],[]⟩ lfA) (.cond lfA (.seq lfA (.cond lfA (.seq (.join [(33,38)] ⟨[(33,ubM)],[]⟩ lfA) (.cond lfA (.seq (.join [(44,47)] ⟨[(44,ubM)],[]⟩ lfA) lfA)))))))))) lfA)
def Dy (a0:A7) (a1:G9) (a2:G9):Option D6:=l9 (l9 (l7 (ieq a0.1 11) (some (ieq a0.1 11)) (some
 (ieq a0.1 27))) fun x=>l7 x (some (.inr ((a1.1,0,x9 .i64 a1.2.2 a2.2.2),0))) (l7 (ieq a0.1 12) (some (.inr ((a1.1,
 0,E9 .i64 a1.2.2 a2.2.2),0))) (l9 (l7 (ieq a0.1 13) (some (ieq a0.1 13)) (l7 (ieq a0.1 14) (some (ieq a0.1 14)) (l7 (ieq a0.1
 15) (some (ieq a0.1 15)) (some (ieq a0.1 16))))) fun x=>l7 x (l9 (DC a0 a1 a2) fun x=>some (.inr
 x)) (l9 (l7 (ieq a0.1 17) (some (ieq a0.1 17)) (some (ieq a0.1 18))) fun x=>l7 x (l7 (oC (ieq a0.1 17) (ilt a2.2.2 a1.2.2))
 (some (.inr (a2,0))) (some (.inr (a1,0)))) (l7 (ieq a0.1 19) (l9 (dR (ieq a1.2.2 a2.2.2)) fun x=>some (.inr (x,
 0))) (l7 (ieq a0.1 20) (l9 (dR (C9 (ieq a1.2.2 a2.2.2))) fun x=>some (.inr (x,0))) (l7 (ieq a0.1 21) (l9
 (dR (ilt a1.2.2 a2.2.2)) fun x=>some (.inr (x,0))) (l7 (ieq a0.1 22) (l9 (dR (ile a1.2.2 a2.2.2)) fun(x:
 G9)=>some (.inr (x,0))) (l7 (ieq a0.1 23) (l7 (ieq a1.2.2 1) (l9 (dR (ieq a2.2.2 1)) fun x=>some (.inr (x,
 0))) (l9 (dR false) fun x=>some (.inr (x,0)))) (l7 (ieq a0.1 24) (l7 (ieq a1.2.2 1) (l9 (dR true) fun(x
 :G9)=>some (.inr (x,0))) (l9 (dR (ieq a2.2.2 1)) fun x=>some (.inr (x,0)))) (l7 (ieq a0.1 28) (l9
 (oI a1.2.2 a2.2.2) fun x=>some (.inr ((5,0,x.1),x.2))) (l7 (ieq a0.1 29) (some (.inr ((2,0,E9 .i64
 a2.2.2 a1.2.2),0))) (some (.inl (0,0,0))))))))))))))) fun o=>I7 o (fun(x:G9)=>l9
 (qo a1.2.2 a2.2.2) fun x=>some ((2,0,x),0)) fun r=>some r
def b4W:FSpec:=mkS a2A a4z fun x=>Dy x.1 x.2.1 x.2.2
def a2o:List MG:=[(true,(.dat y2)),(false,(.dat y30)),(true,(.dat y59))]
def a4n:Ret:=⟨[(.cell 6 54,(true,(.dat y3))),(.tmp 7,uiM)],[]⟩
def b9a:Env:=⟨165,eqs,tt,gl,[(208,b4S),(209,b4T),(210,b4U),(211,b4V),(212,b4W)],[],[],[],[],[]⟩
def a9M:Ann:=.seq lfA (.seq (.joinR [(6,132),(4000384,4000385)] ⟨[(6,(false,(.box (.dat y3))))],[]⟩ (.seq lfA (.blk (.seq (.join [(15,21)] ⟨[(15,ubM)],[]⟩ lfA) (.cond lfA (.seq lfA (.cond lfA (.seq lfA (.cond lfA (.seq lfA (.cond lfA (.seq lfA (.cond lfA (.seq lfA (.cond lfA (.seq (.join [(62,67)] ⟨[(62,ubM)],[]⟩ lfA) lfA)))))))))))))))) lfA)
def zZ (a0:A7) (a1:List G9) (a2:pV):Option D6:=l9 (l9 (l7 (ieq a0.1 1) (some (ieq a0.1 1)) (l7
 (ieq a0.1 2) (some (ieq a0.1 2)) (l7 (ieq a0.1 3) (some (ieq a0.1 3)) (l7 (ieq a0.1 4) (some (ieq a0.1 4)) (some (ieq a0.1 5)))))) fun(x:
 Bool)=>l7 x (some (.inr ((a0.1,0,a0.2),0))) (l7 (ieq a0.1 6) (some (.inr ((6,Z5 .i64 a0.2 16,gz a0.2 16),0))) (l7
 (ieq a0.1 7) (l9 (lat a2.2.1 a0.2) fun x=>some (.inr (x,0))) (l7 (ieq a0.1 8) (l9 (lat a2.2.2.1 a0.2) fun x=>
 some (.inr (x,0))) (l7 (ieq a0.1 9) (some (.inr ((5,0,a2.1),0))) (l7 (ieq a0.1 35) (some (.inr ((2,0,o7 a2.2.2.2.1),0)))
 (l9 (l7 (ieq a0.1 36) (some (ieq a0.1 36)) (l7 (ieq a0.1 37) (some (ieq a0.1 37)) (l7 (ieq a0.1 38) (some (ieq a0.1 38)) (some (ieq a0.1
 39))))) fun x=>l7 x (l9 (rU a0 a2) fun x=>some (.inr x)) (l7 (ieq a0.1 33) (l9 (lat
 a2.2.2.2.2.2 a0.2) fun x=>l9 (lat a1 0) fun x_1=>l9 (Bj x a2.1 x_1.2.2) fun x_2=>l7
 (C9 x_2.2) (some (.inr ((0,0,0),6))) (l9 (lat x.2.2.2 x_2.1) fun x_3=>some (.inr ((x.2.2.1.1,x.2.2.1.2,x_3.2.2.2),0))))
 (l7 (ieq a0.1 34) (l9 (lat a2.2.2.2.2.2 (Z5 .i64 a0.2 8)) fun x=>l9 (lat a1 0) fun x_1=>l9
 (xf x a2.1 x_1.2.2 (gz a0.2 8)) fun x=>some (.inr ((3,0,x.1),x.2))) (some (.inl (0,0,0)))))))))))) fun(o:
 G9⊕D6)=>I7 o (fun(x:G9)=>l7 (ieq (o7 a1) 1) (l9 (lat a1 0) fun x=>l9 (FP a0.1 x) fun
 (x:G9)=>some (x,0)) (l7 (ieq (o7 a1) 2) (l9 (lat a1 0) fun x=>l9 (lat a1 1) fun x_1=>l9 (Dy
 a0 x x_1) fun x=>some x) (l9 (lat a1 0) fun x=>l7 (ieq x.2.2 1) (l9 (lat a1 1) fun x=>some
 (x,0)) (l9 (lat a1 2) fun x=>some (x,0))))) fun r=>some r
def b4N:FSpec:=mkS a2o a4n fun x=>zZ x.1 x.2.1 x.2.2
def a2f:List MG:=[(true,(.dat y2)),(false,(.dat y30)),(true,(.dat y59))]
def a4e:Ret:=⟨[(.cell 6 54,(true,(.dat y3))),(.tmp 7,uiM)],[]⟩
def b8Q:Env:=⟨54,eqs,tt,gl,[(194,b4J),(146,UX),(195,b4K),(196,b4L),(197,b4M),(198,b4N),(199,Qb)],[],[],[],[],[]⟩
def a9C:Ann:=.seq lfA (.seq (.joinR [(6,8),(10,22),(4000384,4000385)] ⟨[(6,(false,(.box (.dat y3))))],[]⟩ lfA) lfA)
def FO (a0:A7) (a1:List G9) (a2:pV):Option D6:=l9 (l9 (uQ a0) fun x=>l7
 (C9 x) (some (.inr ((0,0,0),2))) (l9 (bz a0.1) fun x=>l7 (C9 (ieq (o7 a1) x)) (some (.inr ((0,0,0),2)))
 (some (.inl (0,0,0))))) fun o=>I7 o (fun(x:G9)=>l9 (Dz a0 a2) fun x=>l7
 (C9 x) (some ((0,0,0),6)) (l9 (qy a1) fun x=>l7 (C9 x) (some ((0,0,0),8)) (l9 (zY a0 a1 a2)
 fun x=>l7 (C9 x) (some ((0,0,0),8)) (l9 (zZ a0 a1 a2) fun x=>l7 (C9 (ieq x.2 0)) (some
 ((0,0,0),x.2)) (l9 (aS x.1) fun x_1=>l7 (C9 x_1) (some ((0,0,0),3)) (some (x.1,0))))))) fun(r:
 D6)=>some r
def b4F:FSpec:=mkS a2f a4e fun x=>FO x.1 x.2.1 x.2.2
def WT:List MG:=[(true,(.dat y65)),uiM]
def JF:List MG:=[(true,(.dat y65)),uiM]
def WS:List MG:=[(true,(.dat y65)),(true,(.dat y2)),(false,(.dat y28))]
def b2P:Ret:=⟨[(.cell 4 54,(true,(.dat y3))),(.tmp 5,uiM)],[]⟩
def b8V (r193:M.den (.dat y65)→M.den diM→Option (O6 ([(true,(.dat y3)),uiM]++[]))) (r163:M.den (.dat y65)→M.den diM→Option (O6 ([(true,(.dat y3)),uiM]++[]))) (r183:M.den (.dat y65)→M.den (.dat y2)→M.den (.dat y28)→Option (O6 ([(true,(.dat y3)),uiM]++[]))):Env:=⟨28,eqs,tt,gl,[(163,⟨JF,[(true,(.dat y3)),uiM],[],fun x=>r163 x.1 x.2⟩),(199,Qb)],[],[],[],[],[]⟩
def a9H:Ann:=.leaf
def nP (r193:N9→Int→Option D6) (r163:N9→Int→Option D6)
 (r183:N9→A7→List Int→Option D6) (a0:N9) (a1:Int):Option D6:=l9 (r163 a0
 a1) fun x=>l7 (C9 (ieq x.2 0)) (some ((0,0,0),x.2)) (l7 (C9 (ieq x.1.1 1)) (some ((0,0,0),8)) (l9
 (aS x.1) fun x_1=>l7 (C9 x_1) (some ((0,0,0),8)) (some (x.1,0))))
def a3Q:Ret:=⟨[(.cell 4 54,(true,(.dat y3))),(.tmp 5,uiM)],[]⟩
def b8B (r193:M.den (.dat y65)→M.den diM→Option (O6 ([(true,(.dat y3)),uiM]++[]))) (r163:M.den (.dat y65)→M.den diM→Option (O6 ([(true,(.dat y3)),uiM]++[]))) (r183:M.den (.dat y65)→M.den (.dat y2)→M.den (.dat y28)→Option (O6 ([(true,(.dat y3)),uiM]++[]))):Env:=⟨65,eqs,tt,gl,[(182,b4E),(183,⟨WS,[(true,(.dat y3)),uiM],[],fun x=>r183 x.1 x.2.1 x.2.2⟩),(163,⟨JF,[(true,(.dat y3)),uiM],[],fun x=>r163 x.1 x.2⟩),(184,b4F)],[],[],[],[],[]⟩
def a9n:Ann:=.seq lfA (.seq lfA (.seq lfA (.seq (.joinR [(4,6),(21,33),(4000256,4000257)] ⟨[(4,(false,(.box (.dat y3))))],[]⟩ lfA) (.seq lfA (.seq (.seq lfA (.blk (.loopR [(4,6),(8,13),(38,58),(12000000,12000001),(37002240,37002241)] ⟨[(4,(false,(.box (.dat y3)))),(8,(false,(.own y3))),(38,uiM)],[]⟩ 1 ⟨[(4,(false,(.box (.dat y3)))),(8,(false,(.own y3)))],[]⟩ lfA))) lfA)))))
def qY (r193:N9→Int→Option D6) (r163:N9→Int→Option D6) (r183:
 N9→A7→List Int→Option D6) (a0:N9) (a1:Int):Option D6:=l9 (lat a0.1 a1) fun
 (x:A7)=>l9 (jW a0 a1) fun x_1=>l9 (l7 (ieq x.1 23) (l7 (ieq x.1 23) (l9 (r183 a0 x x_1) fun
 (x:D6)=>some (.inr x)) (some (.inl (0,0,0)))) (l7 (ieq x.1 24) (l7 (ieq x.1 24) (l9 (r183 a0 x x_1) fun(x:
 D6)=>some (.inr x)) (some (.inl (0,0,0)))) (l7 (ieq x.1 26) (l9 (r183 a0 x x_1) fun x=>some
 (.inr x)) (some (.inl (0,0,0)))))) fun o=>I7 o (fun(x_2:G9)=>l9 (iI (o7 x_1) (0,0,0)) fun
 (x_3:List G9)=>l9 (G8 (fun(x:G9×List G9×Int)=>l7 (ilt x.2.2 (o7 x_1)) (l9 (lat x_1 x.2.2) fun x_4=>
 l9 (H6 x_1 (toN x.2.2)) fun x_5=>l9 (r163 a0 x_5) fun x_6=>l7 (C9 (ieq x_6.2 0)) (some (.rt ((0,0,
 0),x_6.2))) (l9 (lat x.2.1 x.2.2) fun x_7=>l9 (H6 x.2.1 (toN x.2.2)) fun x_8=>some (.nx (x.1,I9 x.2.1 (toN
 x.2.2) x_6.1,x9 .i64 x.2.2 1)))) (some (.ex (x.1,x.2.1)))) (x_2,x_3,0)) fun o=>I7 o
 (fun(y:G9×List G9)=>l9 (FO x y.2 a0.2.2) fun x=>some x) fun r=>some r) fun(r
 :D6)=>some r
def b2N:Ret:=⟨[(.cell 6 54,(true,(.dat y3))),(.tmp 7,uiM)],[]⟩
def b8P (r193:M.den (.dat y65)→M.den diM→Option (O6 ([(true,(.dat y3)),uiM]++[]))) (r163:M.den (.dat y65)→M.den diM→Option (O6 ([(true,(.dat y3)),uiM]++[]))) (r183:M.den (.dat y65)→M.den (.dat y2)→M.den (.dat y28)→Option (O6 ([(true,(.dat y3)),uiM]++[]))):Env:=⟨69,eqs,tt,gl,[(193,⟨WT,[(true,(.dat y3)),uiM],[],fun x=>r193 x.1 x.2⟩),(163,⟨JF,[(true,(.dat y3)),uiM],[],fun x=>r163 x.1 x.2⟩)],[],[],[],[],[]⟩
def a9B:Ann:=.seq lfA (.seq lfA (.seq lfA (.seq lfA (.seq (.blk (.seq (.join [(26,35)] ⟨[(26,ubM)],[]⟩ lfA) lfA)) lfA))))
def qX (r193:N9→Int→Option D6) (r163:N9→Int→Option D6) (r183:
 N9→A7→List Int→Option D6) (a0:N9) (a1:A7) (a2:List Int):Option D6:=l7
 (C9 (ieq a1.2 0)) (some ((0,0,0),2)) (l9 (lat a2 0) fun x=>l9 (r193 a0 x) fun x=>l7 (C9 (ieq x.2 0))
 (some ((0,0,0),x.2)) (l9 (l7 (ieq a1.1 26) (some (ieq x.1.2.2 1)) (some false)) fun x_1=>l7 x_1 (l9 (lat a2 1) fun(x:
 Int)=>l9 (r163 a0 x) fun x=>some x) (l7 (ieq a1.1 26) (l9 (lat a2 2) fun x=>l9 (r163 a0 x) fun(x:
 D6)=>some x) (l7 (oC (ieq a1.1 23) (ieq x.1.2.2 0)) (some (x.1,0)) (l9 (lat a2 1) fun x=>l9 (r193 a0 x) fun(x
 :D6)=>some x)))))
def A8:Nat→(M.den (.dat y65)→M.den diM→Option (O6 ([(true,(.dat y3)),uiM]++[])))×(M.den (.dat y65)→M.den diM→Option (O6 ([(true,(.dat y3)),uiM]++[])))×(M.den (.dat y65)→M.den (.dat y2)→M.den (.dat y28)→Option (O6 ([(true,(.dat y3)),uiM]++[])))
 | 0=>(fun a0 a1=>none,fun a0 a1=>none,fun a0 a1 a2=>none)
 | n+1=>(fun a0 a1=>nP (A8 n).1 (A8 n).2.1 (A8 n).2.2 a0 a1,fun a0 a1=>qY (A8 n).1 (A8 n).2.1 (A8 n).2.2 a0 a1,fun a0 a1 a2=>qX (A8 n).1 (A8 n).2.1 (A8 n).2.2 a0 a1 a2)
def nN:M.den (.dat y65)→M.den diM→Option (O6 ([(true,(.dat y3)),uiM]++[])):=fun a0 a1=>(A8 bH).2.1 a0 a1
def b4v:FSpec:=mkS JF a3Q fun x=>nN x.1 x.2
def a1H:List MG:=[(false,(.dat y12)),(true,(.dat y59))]
def a3F:Ret:=⟨[(.cell 4 54,(true,(.dat y3))),(.tmp 5,uiM)],[]⟩
def b8q:Env:=⟨27,eqs,tt,gl,[(162,b4u),(163,b4v)],[],[],[],[],[]⟩
def a9c:Ann:=.leaf
def BU (a0:List A7) (a1:pV):Option D6:=l9 (DF a0) fun x=>l7 (C9 (ieq x.2 0))
 (some ((0,0,0),x.2)) (l9 (nN (a0,x.1,a1) (E9 .i64 (o7 a0) 1)) fun x=>some x)
def a6M:FSpec:=mkS a1H a3F fun x=>BU x.1 x.2
def a2b:List MG:=[(false,(.dat y28)),(false,(.dat y28))]
def a4a:Ret:=⟨[(.tmp 4,uiM)],[]⟩
def b8L:Env:=⟨42,eqs,tt,gl,[],[],[],[],[],[]⟩
def a9x:Ann:=.seq lfA (.seq lfA (.seq lfA (.seq (.seq lfA (.blk (.loopR [(4,7),(17,42)] ⟨[(17,uiM)],[]⟩ 0 ⟨[],[]⟩ lfA))) lfA)))
def qM (a0:List Int) (a1:List Int):Option Int:=l7 (C9 (ieq (o7 a0) (o7 a1))) (some 2) (l7 (ilt 8 (o7 a0)) (some
 4) (l9 (G8 (fun(x:Int)=>l7 (ilt x (o7 a0)) (l9 (lat a0 x) fun x_1=>l7 (ilt x_1 (-1)) (some (.rt 9)) (l7 (ile x
 x_1) (some (.rt 9)) (l9 (lat a1 x) fun x_2=>l7 (ilt x_2 0) (some (.rt 3)) (l9 (lat a1 x) fun x_3=>l7 (ilt 9
 x_3) (some (.rt 3)) (some (.nx (x9 .i64 x 1))))))) (some (.ex ()))) 0) fun o=>I7 o (fun(y:PUnit)=>
 some 0) fun r=>some r))
def b4C:FSpec:=mkS a2b a4a fun x=>qM x.1 x.2
def a2q:List MG:=[(false,(.dat y28)),uiM]
def a4p:Ret:=⟨[(.tmp 4,uoM)],[]⟩
def b9c:Env:=⟨24,eqs,tt,gl,[],[],[],[],[],[]⟩
def a9O:Ann:=.seq lfA (.seq lfA (.seq (.seq lfA (.blk (.loop [(5,8),(10,23)] ⟨[(5,uoM),(10,uiM)],[]⟩ 0 ⟨[(5,uoM)],[]⟩ lfA))) lfA))
def qL (a0:List Int) (a1:Int):Option (List Int):=l9 (N7 (fun(x:List Int×Int)=>l7 (ilt x.2 (o7 a0)) (l9
 (lat a0 x.2) fun x_1=>l7 (ieq x_1 a1) (l9 (Y7 x.1 [x.2]) fun x_2=>some (.inl (x_2,x9 .i64 x.2 1)))
 (some (.inl (x.1,x9 .i64 x.2 1)))) (some (.inr x.1))) ([],0)) fun y=>some y
def b4O:FSpec:=mkS a2q a4p fun x=>qL x.1 x.2
def a2j:List MG:=[(true,(.dat y67)),uiM]
def a4i:Ret:=⟨[(.tmp 4,uoM)],[]⟩
def b8U:Env:=⟨67,eqs,tt,gl,[(202,b4O)],[],[],[],[],[]⟩
def a9G:Ann:=.seq lfA (.seq lfA (.seq (.seq lfA (.blk (.loop [(5,6),(7,8),(13,66)] ⟨[(5,uoM),(13,uiM)],[]⟩ 0 ⟨[(5,uoM)],[]⟩ (.seq lfA (.seq lfA (.seq (.blk (.seq lfA (.seq lfA (.seq (.join [(5,6),(23,43),(14000000,14000001)] ⟨[(5,uoM)],[]⟩ lfA) lfA)))) lfA)))))) lfA))
def pR (a0:bT) (a1:Int):Option (List Int):=l9 (qL a0.1 a1) fun x=>l9 (N7
 (fun(x_1:List Int×Int)=>l7 (ilt x_1.2 (o7 x)) (l9 (lat x x_1.2) fun x_2=>l9 (H6 x (toN x_1.2)) fun x=>l9
 (lat a0.2.2 x) fun x_3=>l7 (ieq x_3 (-1)) (some (.inl (x_1.1,x9 .i64 x_1.2 1))) (l9 (l7 (ilt 0 (o7 x_1.1)) (l9
 (lat a0.2.1 x) fun x=>l9 (lat x_1.1 0) fun x_4=>l9 (H6 x_1.1 (toN 0)) fun x_5=>l9 (lat a0.2.1 x_5) fun(x_6
 :Int)=>l7 (ilt x_6 x) (l7 (gK 0 0 (o7 x_1.1)) (some (dF x_1.1 (toN 0) (toN 0))) none) (some x_1.1)) (some x_1.1)) fun x_4=>l7 (ieq (o7 x_4) 0) (l9 (Y7 x_4 [x]) fun x=>some (.inl (x,x9 .i64 x_1.2 1))) (l9 (lat a0.2.1 x) fun
 (x_5:Int)=>l9 (lat x_4 0) fun x_6=>l9 (H6 x_4 (toN 0)) fun x_7=>l9 (lat a0.2.1 x_7) fun x_8=>l7 (ieq
 x_5 x_8) (l9 (Y7 x_4 [x]) fun x=>some (.inl (x,x9 .i64 x_1.2 1))) (some (.inl (x_4,x9 .i64 x_1.2
 1)))))) (some (.inr x_1.1))) ([],0)) fun y=>some y
def b4I:FSpec:=mkS a2j a4i fun x=>pR x.1 x.2
def a2d:List MG:=[(true,(.dat y67)),uiM]
def a4c:Ret:=⟨[(.tmp 4,uiM)],[]⟩
def b8N:Env:=⟨22,eqs,tt,gl,[(192,b4I)],[],[],[],[],[]⟩
def a9z:Ann:=.leaf
def dV (a0:bT) (a1:Int):Option Int:=l9 (pR a0 a1) fun x=>l7 (ieq (o7
 x) 0) (some (-1)) (l7 (ieq (o7 x) 1) (l9 (lat x 0) fun x_1=>l9 (H6 x (toN 0)) fun x=>l9 (lat a0.2.2 x) fun(x:
 Int)=>some x) (some (-2)))
def a6R:FSpec:=mkS a2d a4c fun x=>dV x.1 x.2
def a2c:List MG:=[(false,(.dat y28)),(false,(.dat y28)),(false,(.dat (.sl .bool)))]
def a4b:Ret:=⟨[(.tmp 6,uoM)],[]⟩
def b8M:Env:=⟨48,eqs,tt,gl,[(181,a6R)],[],[],[],[],[]⟩
def a9y:Ann:=.seq lfA (.seq lfA (.seq (.seq lfA (.blk (.loop [(7,9),(18,46),(7000448,7000449),(7000832,7000833)] ⟨[(7,(false,(.box (.pair (.dat y28) (.pair (.dat y28) oiM))))),(8,uiM)],[]⟩ 0 ⟨[(7,(false,(.box (.pair (.dat y28) (.pair (.dat y28) oiM)))))],[]⟩ lfA))) lfA))
def qN (a0:List Int) (a1:List Int) (a2:List Bool):Option (List Int):=l9 (iI (o7 a0) 0) fun x=>l9
 (N7 (fun(x:bT×Int)=>l7 (ile 0 x.2) (l9 (dV x.1 x.2) fun x_1=>l9 (lat x.1.2.2 x.2) fun
 (x_2:Int)=>l9 (H6 x.1.2.2 (toN x.2)) fun x_3=>l9 (lat (I9 x.1.2.2 (toN x.2) x_1) x.2) fun x_4=>l9 (H6 (I9
 x.1.2.2 (toN x.2) x_1) (toN x.2)) fun x_5=>l7 (ieq x_5 (-1)) (l9 (lat a2 x.2) fun x_6=>l7 x_6 (l9 (lat (I9 x.1.2.2
 (toN x.2) x_1) x.2) fun x_7=>l9 (H6 (I9 x.1.2.2 (toN x.2) x_1) (toN x.2)) fun x_8=>some (.inl ((x.1.1,x.1.2.1,I9
 (I9 x.1.2.2 (toN x.2) x_1) (toN x.2) x.2),E9 .i64 x.2 1))) (some (.inl ((x.1.1,x.1.2.1,I9 x.1.2.2 (toN x.2) x_1),E9 .i64
 x.2 1)))) (some (.inl ((x.1.1,x.1.2.1,I9 x.1.2.2 (toN x.2) x_1),E9 .i64 x.2 1)))) (some (.inr x.1))) ((a0,a1,x),E9
 .i64 (o7 a0) 1)) fun y=>some y.2.2
def b4D:FSpec:=mkS a2c a4b fun x=>qN x.1 x.2.1 x.2.2
def a1Q:List MG:=[(false,(.dat y28)),(false,(.dat y28)),(false,(.dat (.sl .bool)))]
def a3O:Ret:=⟨[(.tmp 6,uiM)],[]⟩
def b8z:Env:=⟨26,eqs,tt,gl,[(179,b4C),(180,b4D),(181,a6R)],[],[],[],[],[]⟩
def a9l:Ann:=.leaf
def vC (a0:List Int) (a1:List Int) (a2:List Bool):Option Int:=l9 (qM a0 a1) fun x=>l7 (C9 (ieq
 x 0)) (some (-1)) (l7 (C9 (ieq (o7 a2) (o7 a0))) (some (-1)) (l9 (qN a0 a1 a2) fun x=>l9
 (dV (a0,a1,x) (-1)) fun x=>some x))
def b4t:FSpec:=mkS a1Q a3O fun x=>vC x.1 x.2.1 x.2.2
def a1G:List MG:=[(true,(.dat y24)),(true,(.dat y59)),uiM,uiM]
def a3E:Ret:=⟨[(.tmp 8,uiM),(.cell 9 60,(true,(.dat y29)))],[]⟩
def b8p:Env:=⟨87,eqs,tt,gl,[(160,b4s),(142,a6M),(161,b4t)],[],[],[],[],[]⟩
def a9b:Ann:=.seq lfA (.seq lfA (.seq lfA (.seq (.seq lfA (.blk (.loopR [(8,10),(13,18),(33,74),(4000576,4000577),(10001920,10001921)] ⟨[(9,(false,(.box (.dat y29)))),(13,(false,(.own .bool))),(33,uiM)],[]⟩ 0 ⟨[(9,(false,(.box (.dat y29)))),(13,(false,(.own .bool)))],[]⟩ lfA))) lfA)))
def uY (a0:x8) (a1:pV) (a2:Int) (a3:Int):Option (Int×J3):=l9 (rM a0 a3 a1.1) fun(x:
 bT)=>l9 (iI (o7 x.1) false) fun x_1=>l9 (G8 (fun(x_2:J3×List Bool×Int)=>l7 (ilt x_2.2.2
 (o7 x.1)) (l9 (lat x.1 x_2.2.2) fun x_3=>l9 (H6 x.1 (toN x_2.2.2)) fun x=>l9 (lat a0.2.2.2.2 x) fun x_4=>
 l7 (ieq (o7 x_4.2.2.2.2.2.1) 0) (l9 (lat x_2.2.1 x_2.2.2) fun x=>l9 (H6 x_2.2.1 (toN x_2.2.2)) fun x=>some (.nx
 (x_2.1,I9 x_2.2.1 (toN x_2.2.2) true,x9 .i64 x_2.2.2 1))) (l9 (lat a0.2.2.2.2 x) fun x_5=>l9 (BU
 x_5.2.2.2.2.2.1 a1) fun x_6=>l7 (C9 (ieq x_6.2 0)) (some (.rt (0,x_6.2,a2,a3,x))) (l9 (lat x_2.2.1 x_2.2.2) fun
 (x:Bool)=>l9 (H6 x_2.2.1 (toN x_2.2.2)) fun x=>some (.nx (x_2.1,I9 x_2.2.1 (toN x_2.2.2) (ieq x_6.1.2.2 1),x9
 .i64 x_2.2.2 1))))) (some (.ex (x_2.1,x_2.2.1)))) ((0,0,0,0),x_1,0)) fun o=>I7 o (fun
 (y:J3×List Bool)=>l9 (vC x.2.1 x.2.2 y.2) fun x_2=>l7 (ilt x_2 0) (some (x_2,0,0,0,0)) (l9 (lat x.1
 x_2) fun x_3=>l9 (H6 x.1 (toN x_2)) fun x=>some (x,0,0,0,0))) fun r=>some r
def b4o:FSpec:=mkS a1G a3E fun x=>uY x.1 x.2.1 x.2.2.1 x.2.2.2
def a1t:List MG:=[(true,(.dat y24)),(false,(.box (.pair diM (.pair (.dat y30) (.pair (.own y3) (.pair (.dat y31) (.pair (.dat y12) (.dat y9)))))))),uiM,(false,(.dat (.sl .bool)))]
def a3r:Ret:=⟨[(.tmp 8,uoM),(.cell 9 60,(true,(.dat y29)))],[(1,(true,(.pair diM (.pair (.dat y30) (.pair (.own y3) (.pair (.dat y31) (.pair (.dat y12) (.dat y9))))))))]⟩
def b8c:Env:=⟨105,eqs,tt,gl,[(140,b4n),(141,b4o),(142,a6M)],[],[],[],[1],[]⟩
def a8O:Ann:=.seq lfA (.seq lfA (.seq lfA (.seq lfA (.seq (.seq lfA (.blk (.loopR [(1,2),(8,11),(14,19),(37,103),(1000000,1000001),(4000576,4000577),(7001472,7001473),(10001856,10001857)] ⟨[(1,(false,(.box (.pair diM (.pair (.dat y30) (.pair (.own y3) (.pair (.dat y31) (.pair (.dat y12) (.dat y9))))))))),(9,(false,(.box (.dat y29)))),(10,uoM),(37,uiM)],[]⟩ 0 ⟨[(1,(false,(.box (.pair diM (.pair (.dat y30) (.pair (.own y3) (.pair (.dat y31) (.pair (.dat y12) (.dat y9))))))))),(9,(false,(.box (.dat y29)))),(10,uoM)],[]⟩ lfA))) lfA))))
def iF (a0:x8) (a1:pV) (a2:Int) (a3:List Bool):Option (List Int×J3×pV):=l9 (iI (o7 a0.2.2.2.1)
 (0,0,0)) fun x=>l9 (iI (o7 a0.2.2.2.1) 0) fun x_1=>l9 (mQ a0) fun x_2=>l9 (G8 (fun(x:pV×J3×List Int×Int)=>l7 (ilt x.2.2.2 (o7 x_2.1)) (l9 (lat x_2.1 x.2.2.2) fun x_3=>
 l9 (H6 x_2.1 (toN x.2.2.2)) fun x_4=>l9 (lat a3 x_4) fun x_5=>l7 (C9 x_5) (some (.nx (x.1,x.2.1,x.2.2.1,x9
 .i64 x.2.2.2 1))) (l9 (uY a0 x.1 a2 x_4) fun x_6=>l7 (C9 (ieq x_6.2.1 0)) (some (.rt ([],x_6.2,
 x.1))) (l7 (ieq x_6.1 (-1)) (some (.rt ([],(10,a2,x_4,-1),x.1))) (l7 (ieq x_6.1 (-2)) (some (.rt ([],(11,a2,x_4,-1),x.1)))
 (l9 (lat a0.2.2.2.2 x_6.1) fun x_7=>l9 (BU x_7.2.2.2.2.2.2.1 x.1) fun x_8=>l7 (C9 (ieq x_8.2 0))
 (some (.rt ([],(x_8.2,a2,x_4,x_6.1),x.1))) (l9 (lat x.1.2.2.1 x_4) fun x_9=>l9 (H6 x.1.2.2.1 (toN x_4)) fun(x_10:
 G9)=>l9 (lat x.2.2.1 x_4) fun x_11=>l9 (H6 x.2.2.1 (toN x_4)) fun x_12=>some (.nx ((x.1.1,x.1.2.1,I9
 x.1.2.2.1 (toN x_4) x_8.1,x.1.2.2.2),x.2.1,I9 x.2.2.1 (toN x_4) x_6.1,x9 .i64 x.2.2.2 1)))))))) (some (.ex (x.1,x.2.1,x.2.2.1))))
 ((a1.1,a1.2.1,x,a1.2.2.2),(0,0,0,0),x_1,0)) fun o=>I7 o (fun(y:pV×
 J3×List Int)=>some (y.2.2,(0,0,0,0),y.1)) fun r=>some r
def b4c:FSpec:=mkS a1t a3r fun x=>iF x.1 x.2.1 x.2.2.1 x.2.2.2
def b2q:List MG:=[(true,(.dat y27)),uiM,(true,(.dat y33)),(false,(.box (.pair (.dat y24) (.pair (.dat y24) (.pair (.own .bool) (.own .bool))))))]
def b3K:Ret:=⟨[(.cell 8 155,(true,(.dat y54))),(.cell 9 157,(true,(.dat y59))),(.cell 10 60,(true,(.dat y29)))],[(3,(true,(.pair (.dat y24) (.pair (.dat y24) (.pair (.own .bool) (.own .bool))))))]⟩
def e78:Env:=⟨123,eqs,tt,gl,[(113,b4c)],[],[],[],[3],[]⟩
def b7F:Ann:=.seq lfA (.seq lfA (.seq lfA (.seq (.seq lfA (.blk (.loop [(11,12),(14,15),(35,47),(7000704,7000705)] ⟨[(11,(false,(.box (.pair diM (.pair (.dat y30) (.pair (.cell (some none)) (.pair (.cell (some none)) (.pair (.own y2) (.dat y9))))))))),(35,uiM)],[]⟩ 0 ⟨[(11,(false,(.box (.pair diM (.pair (.dat y30) (.pair (.cell (some none)) (.pair (.cell (some none)) (.pair (.own y2) (.dat y9)))))))))],[]⟩ lfA))) (.seq (.seq lfA (.blk (.loopR [(8,13),(15,20),(50,97),(4000512,4000513),(4000576,4000577),(4000640,4000641),(10000768,10000769),(18000000,18000002)] ⟨[(8,(false,(.box (.dat y54)))),(9,(false,(.box (.dat y59)))),(10,(false,(.box (.dat y29)))),(11,(false,(.box (.pair diM (.pair (.dat y30) (.pair (.cell (some none)) (.pair (.own y30) (.pair (.own y2) (.dat y9))))))))),(12,(false,(.box (.pair (.dat y30) (.pair (.dat y28) (.own y51)))))),(50,uiM)],[]⟩ 2 ⟨[(8,(false,(.box (.dat y54)))),(9,(false,(.box (.dat y59)))),(10,(false,(.box (.dat y29)))),(11,(false,(.box (.pair diM (.pair (.dat y30) (.pair (.cell (some none)) (.pair (.own y30) (.pair (.own y2) (.dat y9))))))))),(12,(false,(.box (.pair (.dat y30) (.pair (.dat y28) (.own y51))))))],[]⟩ lfA))) lfA))))
def uV (a0:G5) (a1:Int) (a2:ET) (a3:ax):Option (zJ×pV×J3×ax):=l9 (N7
 (fun(x:(Int×List G9×PUnit×PUnit×List A7×List V7)×Int)=>l7 (ilt x.2 (o7 a3.2.1.2.2.2.1)) (l9 (lat a3.2.1.2.2.2.1
 x.2) fun x_1=>l9 (Y7 x.1.2.2.2.2.1 [x_1.2]) fun x_2=>some (.inl ((x.1.1,x.1.2.1,(),(),x_2,
 x.1.2.2.2.2.2),x9 .i64 x.2 1))) (some (.inr (x.1.1,x.1.2.1,(),(),x.1.2.2.2.2)))) ((a2.1,a2.2.1,(),
 (),[],a0.2.1),0)) fun y=>l9 (G8 (fun(x:zJ×pV×
 J3×(Int×List G9×PUnit×List (List G9)×List A7×List V7)×zJ×Int)=>l7 (ilt x.2.2.2.2.2 (o7 a2.2.2))
 (l9 (lat a2.2.2 x.2.2.2.2.2) fun x_1=>l9 (iF a3.2.1 (a2.1,x_1,[],[],[],a0.2.1) x.2.2.2.2.2 a3.2.2.2)
 fun x_2=>l7 (C9 (ieq x_2.2.1.1 0)) (some (.rt (([],[],[]),(0,[],[],[],[],[]),x_2.2.1,a3))) (l9
 (Y7 x.2.2.2.1.2.2.2.1 [x_2.2.2.2.2.1]) fun x_3=>l9 (Y7 x.2.2.2.2.1.2.2 [(x_2.2.2.2.2.1,x_2.1)]) fun x_4=>some (.nx (x.1,x.2.1,x.2.2.1,(x.2.2.2.1.1,x.2.2.2.1.2.1,(),x_3,x.2.2.2.1.2.2.2.2),(x.2.2.2.2.1.1,
 x.2.2.2.2.1.2.1,x_4),x9 .i64 x.2.2.2.2.2 1)))) (some (.ex (x.1,x.2.1,x.2.2.1,(x.2.2.2.1.1,x.2.2.2.1.2.1,(),
 x.2.2.2.1.2.2.2),x.2.2.2.2.1)))) (([],[],[]),(0,[],[],[],[],[]),(0,0,0,0),(y.1,y.2.1,(),[],y.2.2.2.2),([],[],[]),0))
 fun o=>I7 o (fun(y:zJ×pV×J3×(Int×List G9×PUnit×List (List G9)×List A7×List
 V7)×zJ)=>l9 (iF a3.1 (y.2.2.2.1.1,y.2.2.2.1.2.1,[],y.2.2.2.1.2.2.2) (-1) a3.2.2.1) fun x=>l7 (C9 (ieq x.2.1.1 0)) (some (([],[],[]),(0,[],[],[],[],[]),x.2.1,a3)) (some ((x.2.2.2.2.1,x.1,y.2.2.2.2.2.2),x.2.2,
 (0,0,0,0),a3))) fun r=>some r
def s78:FSpec:=mkS b2q b3K fun x=>uV x.1 x.2.1 x.2.2.1 x.2.2.2
def b1Q:List MG:=[(true,(.dat y27)),uiM,(true,(.dat y33)),uiM]
def b3j:Ret:=⟨[(.cell 8 54,(true,(.dat y3))),(.tmp 9,uiM),(.cell 10 60,(true,(.dat y29)))],[]⟩
def e39:Env:=⟨57,eqs,tt,gl,[(75,s75),(76,s76),(77,s77),(78,s78)],[],[],[],[],[]⟩
def b7e:Ann:=.leaf
def kR (a0:G5) (a1:Int) (a2:ET) (a3:Int):Option (G9×Int×J3):=l9 (lK a0 a1 a2 true
 a3) fun x=>l7 (C9 (ieq x.1 0)) (some ((0,0,0),0,x)) (l9 (uX a0 a1) fun x=>l9
 (nO x a3) fun x=>l9 (uV a0 a1 a2 x) fun x=>
 l7 (C9 (ieq x.2.2.1.1 0)) (some ((0,0,0),0,x.2.2.1)) (l9 (lat x.1.1 a3) fun x_1=>l9 (lat x.1.2.1 a3) fun x=>
 some (x_1,x,0,0,0,0)))
def s39:FSpec:=mkS b1Q b3j fun x=>kR x.1 x.2.1 x.2.2.1 x.2.2.2
def a1o:List MG:=[(false,(.box (.pair (.own y37) (.pair (.dat y27) (.pair diM (.pair (.dat y33) (.pair (.own (.ent true true y2 y44)) (.dat y29)))))))),(true,(.dat y2))]
def a3m:Ret:=⟨[(.cell 4 184,(true,(.dat y44)))],[(0,(true,(.pair (.own y37) (.pair (.dat y27) (.pair diM (.pair (.dat y33) (.pair (.own (.ent true true y2 y44)) (.dat y29))))))))]⟩
def b7W:Env:=⟨100,eqs,tt,gl,[(39,s39)],[],[],[],[0],[]⟩
def a8I:Ann:=.seq lfA (.seq lfA (.seq lfA (.seq (.join [(7,9),(32,62),(20000512,20000513)] ⟨[(7,uiM),(8,(false,(.box (.dat y33))))],[]⟩ lfA) (.seq lfA (.seq (.join [(0,1),(75,90),(1000000,1000003)] ⟨[(0,(false,(.box (.pair (.own y37) (.pair (.dat y27) (.pair diM (.pair (.dat y33) (.pair (.own (.ent true true y2 y44)) (.dat y29)))))))))],[]⟩ lfA) lfA)))))
def aK (a0:D5) (a1:A7):Option (D6×D5):=l7 (Wh (fun(a b:A7)=>
 P6 (ieq a.1 b.1) (ieq a.2 b.2)) a0.2.2.2.2.1 a1) (some (We (fun(a b:A7)=>P6 (ieq a.1 b.1) (ieq a.2 b.2)) a0.2.2.2.2.1 a1 ((0,0,0),
 0),a0)) (l9 (l7 (ile 0 a1.1) (l9 (lat a0.2.1.2.2 a0.2.2.1) fun x=>l9 (lat a0.2.2.2.1.2.2 a1.1) fun x_1=>
 some (x.2.1,a0.2.2.2.1.1,x_1,[])) (some (a0.2.2.1,a0.2.2.2.1))) fun x=>l9 (kR a0.2.1 x.1 x.2 a1.2) fun(x:
 G9×Int×J3)=>l9 (l7 (C9 (ieq x.2.2.1 0)) (l7 (ieq a0.2.2.2.2.2.1 0) (some (a0.1,a0.2.1,a0.2.2.1,a0.2.2.2.1,
 a0.2.2.2.2.1,x.2.2)) (some a0)) (some a0)) fun x_1=>some ((x.1,x.2.1),x_1.1,x_1.2.1,x_1.2.2.1,x_1.2.2.2.1,PG (fun(a
 b:A7)=>P6 (ieq a.1 b.1) (ieq a.2 b.2)) x_1.2.2.2.2.1 a1 (x.1,x.2.1),x_1.2.2.2.2.2))
def a6J:FSpec:=mkS a1o a3m fun x=>aK x.1 x.2
def Sl:List MG:=[(true,(.dat y37)),(false,(.rp (.int .i64))),(false,(.rp (.int .i64)))]
def Ti:Ret:=⟨[(.tmp 4,ubM)],[]⟩
def a6g:Env:=⟨20,eqs,tt,gl,[],[],[],[],[],[]⟩
def ZE:Ann:=.leaf
def gJ (a0:zI) (a1:Int) (a2:Int):Option Bool:=l7 (ieq a0.1 1) (l7 (ieq a0.2.2.1 a1) (some (ieq
 a0.2.2.2.1 a2)) (some false)) (some false)
def PZ:FSpec:=mkS Sl Ti fun x=>gJ x.1 x.2.1 x.2.2
def Sr:List MG:=[(false,(.dat y38)),(false,(.fn 123 [(.int .i64),(.int .i64)]))]
def Tj:Ret:=⟨[(.tmp 4,uiM)],[]⟩
def a6h:Env:=⟨19,eqs,tt,gl,[(123,PZ)],[],[],[],[],[]⟩
def ZF:Ann:=.seq lfA (.seq (.seq lfA (.blk (.loopR [(4,6),(8,19)] ⟨[(8,uiM)],[]⟩ 0 ⟨[],[]⟩ lfA))) lfA)
def X7 (a0:dC) (a1:A7):Option Int:=l9 (G8 (fun(x:Int)=>l7 (ilt x
 (o7 a0)) (l9 (lat a0 x) fun x_1=>l9 (gJ x_1 a1.1 a1.2) fun x_2=>l7 x_2 (some
 (.rt x)) (some (.nx (x9 .i64 x 1)))) (some (.ex ()))) 0) fun o=>I7 o (fun(y:PUnit)=>some (-1)) fun
 (r:Int)=>some r
def XR:FSpec:=mkS Sr Tj fun x=>X7 x.1 x.2
def Sj:List MG:=[(false,(.dat y38)),(false,(.fn 123 [(.int .i64),(.int .i64)]))]
def Tf:Ret:=⟨[(.tmp 4,ubM)],[]⟩
def a6f:Env:=⟨9,eqs,tt,gl,[(148,XR)],[],[],[],[],[]⟩
def ZC:Ann:=.leaf
def V5 (a0:dC) (a1:A7):Option Bool:=l9
 (X7 a0 a1) fun x=>some (ile 0 x)
def XQ:FSpec:=mkS Sj Tf fun x=>V5 x.1 x.2
def RX:List MG:=[(false,(.box (.pair (.own y37) (.pair (.dat y27) (.pair diM (.pair (.dat y33) (.pair (.own (.ent true true y2 y44)) (.dat y29)))))))),uiM,uiM]
def SX:Ret:=⟨[(.tmp 6,ubM)],[(0,(true,(.pair (.own y37) (.pair (.dat y27) (.pair diM (.pair (.dat y33) (.pair (.own (.ent true true y2 y44)) (.dat y29))))))))]⟩
def a6b:Env:=⟨13,eqs,tt,gl,[(123,PZ),(122,XQ)],[],[],[],[0],[]⟩
def Zy:Ann:=.leaf
def je (a0:D5) (a1:Int) (a2:Int):Option (Bool×D5):=l9
 (V5 a0.1 (a1,a2)) fun x=>some (x,a0)
def XN:FSpec:=mkS RX SX fun x=>je x.1 x.2.1 x.2.2
def RY:List MG:=[(false,(.box (.pair (.own y37) (.pair (.dat y27) (.pair diM (.pair (.dat y33) (.pair (.own (.ent true true y2 y44)) (.dat y29)))))))),(true,(.dat y37))]
def SY:Ret:=⟨[],[(0,(true,(.pair (.own y37) (.pair (.dat y27) (.pair diM (.pair (.dat y33) (.pair (.own (.ent true true y2 y44)) (.dat y29))))))))]⟩
def a6c:Env:=⟨14,eqs,tt,gl,[],[],[],[],[0],[]⟩
def Zz:Ann:=.leaf
def aj (a0:D5) (a1:zI):Option D5:=l9 (Y7 a0.1 [a1]) fun x
 =>some (x,a0.2)
def PY:FSpec:=mkS RY SY fun x=>aj x.1 x.2
def a2i:List MG:=[(false,(.dat y12)),(true,(.dat y2))]
def a4h:Ret:=⟨[(.tmp 4,uiM)],[]⟩
def b8T:Env:=⟨19,eqs,tt,gl,[],[],[],[],[],[]⟩
def a9F:Ann:=.seq lfA (.seq (.seq lfA (.blk (.loopR [(4,6),(8,19)] ⟨[(8,uiM)],[]⟩ 0 ⟨[],[]⟩ lfA))) lfA)
def X8 (a0:List A7) (a1:A7):Option Int:=l9 (G8 (fun(x:Int)=>l7 (ilt x (o7
 a0)) (l9 (lat a0 x) fun x_1=>l7 (P6 (ieq a1.1 x_1.1) (ieq a1.2 x_1.2)) (some (.rt x)) (some (.nx (x9 .i64 x 1))))
 (some (.ex ()))) 0) fun o=>I7 o (fun(y:PUnit)=>some (-1)) fun r=>some r
def b4H:FSpec:=mkS a2i a4h fun x=>X8 x.1 x.2
def a1Z:List MG:=[(false,(.dat y12)),(true,(.dat y2))]
def a3Y:Ret:=⟨[(.tmp 4,ubM)],[]⟩
def b8J:Env:=⟨9,eqs,tt,gl,[(191,b4H)],[],[],[],[],[]⟩
def a9v:Ann:=.leaf
def V6 (a0:List A7) (a1:A7):Option Bool:=l9
 (X8 a0 a1) fun x=>some (ile 0 x)
def b4B:FSpec:=mkS a1Z a3Y fun x=>V6 x.1 x.2
def a1M:List MG:=[(false,(.own y2)),(true,(.dat y2))]
def a3K:Ret:=⟨[(.tmp 4,(false,(.own y2)))],[]⟩
def b8v:Env:=⟨49,eqs,tt,gl,[(172,b4B)],[],[],[],[],[]⟩
def a9h:Ann:=.seq lfA (.seq lfA (.seq (.joinR [(4,41),(7000320,7000321)] ⟨[(5,(false,(.box (.dat y2))))],[]⟩ lfA) lfA))
def iy (a0:List A7) (a1:A7):Option (List A7):=l9 (l7 (ieq a1.1 7) (some (.inl (0,a1.2))) (l7 (ieq a1.1
 8) (some (.inl (1,a1.2))) (l7 (ieq a1.1 9) (some (.inl (2,0))) (l7 (ieq a1.1 33) (some (.inl (3,a1.2))) (l7 (ieq a1.1 34) (some
 (.inl (3,Z5 .i64 a1.2 8))) (l7 (ieq a1.1 36) (l7 (ieq a1.1 36) (some (.inl (4,a1.2))) (some (.inr a0))) (l7 (ieq a1.1
 37) (l7 (ieq a1.1 37) (some (.inl (4,a1.2))) (some (.inr a0))) (l7 (ieq a1.1 38) (l7 (ieq a1.1 38) (some (.inl (4,a1.2))) (some
 (.inr a0))) (l7 (ieq a1.1 39) (some (.inl (4,a1.2))) (some (.inr a0))))))))))) fun o=>I7 o (fun(x:A7)
 =>l9 (V6 a0 x) fun x_1=>l7 x_1 (some a0) (l9 (Y7 a0 [x]) fun x
 =>some x)) fun r=>some r
def b4q:FSpec:=mkS a1M a3K fun x=>iy x.1 x.2
def a1z:List MG:=[(false,(.own y2)),(true,(.dat y19))]
def a3x:Ret:=⟨[(.tmp 4,(false,(.own y2)))],[]⟩
def b8i:Env:=⟨32,eqs,tt,gl,[(149,b4q)],[],[],[],[],[]⟩
def a8U:Ann:=.seq lfA (.seq (.seq lfA (.blk (.loop [(0,1),(6,7),(12,20),(1000000,1000001)] ⟨[(0,(false,(.own y2))),(12,uiM)],[]⟩ 0 ⟨[(0,(false,(.own y2)))],[]⟩ lfA))) (.seq (.seq lfA (.blk (.loop [(0,1),(8,9),(23,31),(12000000,12000001)] ⟨[(0,(false,(.own y2))),(23,uiM)],[]⟩ 2 ⟨[(0,(false,(.own y2)))],[]⟩ lfA))) lfA))
def gy (a0:List A7) (a1:H9):Option (List A7):=l9 (N7 (fun(x:List A7×Int)=>l7 (ilt x.2 (o7
 a1.2.2.2.2.2.1)) (l9 (lat a1.2.2.2.2.2.1 x.2) fun x_1=>l9 (iy x.1 x_1) fun x_2=>some (.inl
 (x_2,x9 .i64 x.2 1))) (some (.inr x.1))) (a0,0)) fun y=>l9 (N7 (fun(x:List A7×Int)=>l7 (ilt x.2
 (o7 a1.2.2.2.2.2.2.1)) (l9 (lat a1.2.2.2.2.2.2.1 x.2) fun x_1=>l9 (iy x.1 x_1) fun x_2=>some
 (.inl (x_2,x9 .i64 x.2 1))) (some (.inr x.1))) (y,0)) fun y=>some y
def b4i:FSpec:=mkS a1z a3x fun x=>gy x.1 x.2
def a1p:List MG:=[(false,(.box (.pair (.own y37) (.pair (.dat y27) (.pair diM (.pair (.dat y33) (.pair (.own (.ent true true y2 y44)) (.dat y29)))))))),(true,(.dat y2))]
def a3n:Ret:=⟨[(.tmp 4,(false,(.own y2)))],[(0,(true,(.pair (.own y37) (.pair (.dat y27) (.pair diM (.pair (.dat y33) (.pair (.own (.ent true true y2 y44)) (.dat y29))))))))]⟩
def b7X:Env:=⟨74,eqs,tt,gl,[(103,a6J),(124,b4i)],[],[],[],[0],[16,20]⟩
def a8J:Ann:=.seq lfA (.seq lfA (.seq lfA (.seq lfA (.seq (.seq lfA (.blk (.loop [(0,1),(5,6),(7,8),(57,73),(1000000,1000003)] ⟨[(0,(false,(.box (.pair (.own y37) (.pair (.dat y27) (.pair diM (.pair (.dat y33) (.pair (.own (.ent true true y2 y44)) (.dat y29))))))))),(5,(false,(.own y2))),(57,uiM)],[]⟩ 0 ⟨[(0,(false,(.box (.pair (.own y37) (.pair (.dat y27) (.pair diM (.pair (.dat y33) (.pair (.own (.ent true true y2 y44)) (.dat y29))))))))),(5,(false,(.own y2)))],[]⟩ lfA))) lfA))))
def iC (a0:D5) (a1:A7):Option (List A7×D5):=l7 (ilt a1.1 0) (l9 (lat
 a0.2.1.2.2 a0.2.2.1) fun x=>l9 (aK a0 a1) fun x_1=>l7 (ieq
 a0.2.2.1 x_1.2.2.2.1) (l7 (deq y25 a0.2.1.2.2 x_1.2.2.1.2.2) (l9 (lat x.2.2.2.2 x_1.1.2) fun x=>l9 (gy [] x)
 fun x=>l7 (ieq a0.2.2.1 x_1.2.2.2.1) (l7 (deq y25 a0.2.1.2.2 x_1.2.2.1.2.2) (some (x,x_1.2)) none) none) none) none) (l9
 (lat a0.2.1.2.2 a0.2.2.1) fun x=>l9 (lat a0.2.1.2.2 x.2.1) fun x=>l9 (N7 (fun(x_1:D5×List A7
 ×Int)=>l7 (ilt x_1.2.2 (o7 a0.2.2.2.1.2.2)) (l9 (aK x_1.1 (x_1.2.2,a1.2)) fun x_2=>l9 (lat x.2.2.2.2 x_2.1.2) fun x=>l9 (gy x_1.2.1 x) fun x=>some (.inl
 (x_2.2,x,x9 .i64 x_1.2.2 1))) (some (.inr (x_1.1,x_1.2.1)))) (a0,[],0)) fun y=>some (y.2,y.1))
def b3Y:FSpec:=mkS a1p a3n fun x=>iC x.1 x.2
def a1A:List MG:=[(false,(.box (.pair (.own y37) (.pair (.dat y27) (.pair diM (.pair (.dat y33) (.pair (.own (.ent true true y2 y44)) (.dat y29)))))))),uiM]
def a3y:Ret:=⟨[(.tmp 4,(false,(.dat y30)))],[(0,(true,(.pair (.own y37) (.pair (.dat y27) (.pair diM (.pair (.dat y33) (.pair (.own (.ent true true y2 y44)) (.dat y29))))))))]⟩
def b8j:Env:=⟨20,eqs,tt,gl,[],[],[],[],[0],[]⟩
def a8V:Ann:=.leaf
def kN (a0:D5) (a1:Int):Option (List G9×D5):=l7 (ilt a1 0) (some (a0.2.2.2.1.2.1,
 a0)) (l9 (lat a0.2.2.2.1.2.2 a1) fun x=>some (x,a0))
def b4j:FSpec:=mkS a1A a3y fun x=>kN x.1 x.2
def WR:List MG:=[(false,(.box (.pair (.own y37) (.pair (.dat y27) (.pair diM (.pair (.dat y33) (.pair (.own (.ent true true y2 y44)) (.dat y29)))))))),(true,(.dat y2)),(true,(.dat y2)),uiM]
def a0n:List MG:=[(false,(.box (.pair (.own y37) (.pair (.dat y27) (.pair diM (.pair (.dat y33) (.pair (.own (.ent true true y2 y44)) (.dat y29)))))))),(true,(.dat y2)),uiM]
def b2E:Ret:=⟨[],[(0,(true,(.pair (.own y37) (.pair (.dat y27) (.pair diM (.pair (.dat y33) (.pair (.own (.ent true true y2 y44)) (.dat y29))))))))]⟩
def b7Y (r107:M.den (.box (.pair (.own y37) (.pair (.dat y27) (.pair diM (.pair (.dat y33) (.pair (.own (.ent true true y2 y44)) (.dat y29)))))))→M.den (.dat y2)→M.den (.dat y2)→M.den diM→Option (O6 ([]++[(true,(.pair (.own y37) (.pair (.dat y27) (.pair diM (.pair (.dat y33) (.pair (.own (.ent true true y2 y44)) (.dat y29)))))))]))) (r72:M.den (.box (.pair (.own y37) (.pair (.dat y27) (.pair diM (.pair (.dat y33) (.pair (.own (.ent true true y2 y44)) (.dat y29)))))))→M.den (.dat y2)→M.den diM→Option (O6 ([]++[(true,(.pair (.own y37) (.pair (.dat y27) (.pair diM (.pair (.dat y33) (.pair (.own (.ent true true y2 y44)) (.dat y29)))))))]))):Env:=⟨87,eqs,tt,gl,[(125,b4j),(105,PY),(72,⟨a0n,[],[(true,(.pair (.own y37) (.pair (.dat y27) (.pair diM (.pair (.dat y33) (.pair (.own (.ent true true y2 y44)) (.dat y29)))))))],fun x=>r72 x.1 x.2.1 x.2.2⟩)],[],[],[],[0],[]⟩
def a8K:Ann:=.seq lfA (.seq lfA (.seq lfA (.blk (.seq lfA (.cond lfA (.seq lfA (.cond lfA (.seq lfA (.cond lfA (.seq lfA (.cond lfA (.seq lfA (.cond (.seq lfA (.blk (.loop [(0,1),(9,10),(76,87),(1000000,1000003)] ⟨[(0,(false,(.box (.pair (.own y37) (.pair (.dat y27) (.pair diM (.pair (.dat y33) (.pair (.own (.ent true true y2 y44)) (.dat y29))))))))),(76,uiM)],[]⟩ 1 ⟨[(0,(false,(.box (.pair (.own y37) (.pair (.dat y27) (.pair diM (.pair (.dat y33) (.pair (.own (.ent true true y2 y44)) (.dat y29)))))))))],[]⟩ lfA))) lfA)))))))))))))
def oQ (r107:D5→A7→A7→Int→Option D5) (r72:D5→A7→Int→
 Option D5) (a0:D5) (a1:A7) (a2:A7) (a3:Int):Option D5:=l7 (ieq a2.1 0) (l9
 (kN a0 a1.1) fun x=>l9 (lat x.1 a2.2) fun x_1=>l9 (aj
 x.2 (2,a3,a1.1,a2.2,-1,x_1)) fun x=>some x) (l7 (ieq a2.1 1) (l9 (r72 a0 (a1.1,a2.2) a3) fun(x:
 D5)=>some x) (l7 (ieq a2.1 2) (l9 (aj a0 (4,a3,a1.1,a2.2,-1,5,0,a0.2.2.2.1.1)) fun(x:
 D5)=>some x) (l7 (ieq a2.1 3) (l9 (aj a0 (3,a3,a1.1,a2.2,-1,0,0,0)) fun x=>some
 x) (l7 (ieq a2.1 4) (l9 (N7 (fun(x:D5×Int)=>l7 (ilt x.2 (o7 a0.2.2.2.1.2.2)) (l9 (r72 x.1 (x.2,a2.2) a3) fun
 (x_1:D5)=>some (.inl (x_1,x9 .i64 x.2 1))) (some (.inr x.1))) (a0,0)) fun y=>some y) (some
 a0)))))
def b3G:Ret:=⟨[],[(0,(true,(.pair (.own y37) (.pair (.dat y27) (.pair diM (.pair (.dat y33) (.pair (.own (.ent true true y2 y44)) (.dat y29))))))))]⟩
def e72 (r107:M.den (.box (.pair (.own y37) (.pair (.dat y27) (.pair diM (.pair (.dat y33) (.pair (.own (.ent true true y2 y44)) (.dat y29)))))))→M.den (.dat y2)→M.den (.dat y2)→M.den diM→Option (O6 ([]++[(true,(.pair (.own y37) (.pair (.dat y27) (.pair diM (.pair (.dat y33) (.pair (.own (.ent true true y2 y44)) (.dat y29)))))))]))) (r72:M.den (.box (.pair (.own y37) (.pair (.dat y27) (.pair diM (.pair (.dat y33) (.pair (.own (.ent true true y2 y44)) (.dat y29)))))))→M.den (.dat y2)→M.den diM→Option (O6 ([]++[(true,(.pair (.own y37) (.pair (.dat y27) (.pair diM (.pair (.dat y33) (.pair (.own (.ent true true y2 y44)) (.dat y29)))))))]))):Env:=⟨61,eqs,tt,gl,[(103,a6J),(104,XN),(105,PY),(106,b3Y),(107,⟨WR,[],[(true,(.pair (.own y37) (.pair (.dat y27) (.pair diM (.pair (.dat y33) (.pair (.own (.ent true true y2 y44)) (.dat y29)))))))],fun x=>r107 x.1 x.2.1 x.2.2.1 x.2.2.2⟩)],[],[],[],[0],[]⟩
def b7B:Ann:=.seq lfA (.seq lfA (.seq lfA (.seq lfA (.seq lfA (.blk (.loop [(0,1),(8,9),(50,61),(1000000,1000001),(23003073,23003075)] ⟨[(0,(false,(.box (.pair (.own y37) (.pair (.dat y27) (.pair diM (.pair (.dat y33) (.pair (.own (.ent true true y2 y44)) (.dat y29))))))))),(50,uiM)],[]⟩ 0 ⟨[(0,(false,(.box (.pair (.own y37) (.pair (.dat y27) (.pair diM (.pair (.dat y33) (.pair (.own (.ent true true y2 y44)) (.dat y29)))))))))],[]⟩ lfA))))))
def ny (r107:D5→A7→A7→Int→Option D5) (r72:D5→A7→Int→
 Option D5) (a0:D5) (a1:A7) (a2:Int):Option D5:=l9 (aK a0 a1) fun(x:
 D6×D5)=>l9 (je x.2 a1.1 a1.2) fun x_1=>l7 x_1.1 (l9
 (aj x_1.2 (5,a2,a1.1,a1.2,-1,x.1.1)) fun x=>some x) (l9 (aj x_1.2 (1,a2,a1.1,
 a1.2,x.1.2,x.1.1)) fun x=>l9 (iC x a1) fun x=>l9 (N7
 (fun(x_2:D5×Int)=>l7 (ilt x_2.2 (o7 x.1)) (l9 (lat x.1 x_2.2) fun x_3=>l9 (H6 x.1 (toN x_2.2)) fun(x:
 A7)=>l9 (r107 x_2.1 a1 x (x9 .i64 a2 1)) fun x=>some (.inl (x,x9 .i64 x_2.2 1))) (some (.inr
 x_2.1))) (x.2,0)) fun y=>some y)
def F5:Nat→(M.den (.box (.pair (.own y37) (.pair (.dat y27) (.pair diM (.pair (.dat y33) (.pair (.own (.ent true true y2 y44)) (.dat y29)))))))→M.den (.dat y2)→M.den (.dat y2)→M.den diM→Option (O6 ([]++[(true,(.pair (.own y37) (.pair (.dat y27) (.pair diM (.pair (.dat y33) (.pair (.own (.ent true true y2 y44)) (.dat y29)))))))])))×(M.den (.box (.pair (.own y37) (.pair (.dat y27) (.pair diM (.pair (.dat y33) (.pair (.own (.ent true true y2 y44)) (.dat y29)))))))→M.den (.dat y2)→M.den diM→Option (O6 ([]++[(true,(.pair (.own y37) (.pair (.dat y27) (.pair diM (.pair (.dat y33) (.pair (.own (.ent true true y2 y44)) (.dat y29)))))))])))
 | 0=>(fun a0 a1 a2 a3=>none,fun a0 a1 a2=>none)
 | n+1=>(fun a0 a1 a2 a3=>oQ (F5 n).1 (F5 n).2 a0 a1 a2 a3,fun a0 a1 a2=>ny (F5 n).1 (F5 n).2 a0 a1 a2)
def jX:M.den (.box (.pair (.own y37) (.pair (.dat y27) (.pair diM (.pair (.dat y33) (.pair (.own (.ent true true y2 y44)) (.dat y29)))))))→M.den (.dat y2)→M.den diM→Option (O6 ([]++[(true,(.pair (.own y37) (.pair (.dat y27) (.pair diM (.pair (.dat y33) (.pair (.own (.ent true true y2 y44)) (.dat y29)))))))])):=fun a0 a1 a2=>(F5 bH).2 a0 a1 a2
def s72:FSpec:=mkS a0n b3G fun x=>jX x.1 x.2.1 x.2.2
def b1O:List MG:=[(true,(.dat y27)),uiM,(true,(.dat y33)),uiM]
def b3h:Ret:=⟨[(.tmp 8,(false,(.own y37))),(.cell 9 60,(true,(.dat y29)))],[]⟩
def e37:Env:=⟨53,eqs,tt,gl,[(39,s39),(72,s72)],[],[],[],[],[]⟩
def b7c:Ann:=.leaf
def uS (a0:G5) (a1:Int) (a2:ET) (a3:Int):Option (dC×J3):=l9 (kR a0 a1 a2 a3) fun
 (x:G9×Int×J3)=>l7 (C9 (ieq x.2.2.1 0)) (some ([],x.2.2)) (l9 (jX ([],a0,a1,a2,[],0,0,0,0)
 (-1,a3) 0) fun x=>l7 (C9 (ieq x.2.2.2.2.2.1 0)) (some ([],x.2.2.2.2.2)) (some (x.1,0,0,0,0)))
def s37:FSpec:=mkS b1O b3h fun x=>uS x.1 x.2.1 x.2.2.1 x.2.2.2
def b1P:List MG:=[(false,(.dat y38))]
def b3i:Ret:=⟨[(.tmp 2,uoM),(.tmp 3,uoM)],[]⟩
def e38:Env:=⟨42,eqs,tt,gl,[(73,s73),(74,s74)],[],[],[],[],[]⟩
def b7d:Ann:=.seq lfA (.seq lfA (.seq (.seq lfA (.blk (.loop [(4,6),(7,8),(10,34)] ⟨[(4,uoM),(5,uoM),(10,uiM)],[]⟩ 0 ⟨[(4,uoM),(5,uoM)],[]⟩ lfA))) lfA))
def qB (a0:dC):Option (List Int×List Int):=l9 (N7 (fun(x:List Int×List Int×Int)=>l7 (ilt x.2.2
 (o7 a0)) (l9 (lat a0 x.2.2) fun x_1=>l7 (C9 (ieq x_1.1 1)) (some (.inl (x.1,x.2.1,x9 .i64 x.2.2 1)))
 (l7 (ieq x_1.2.2.1 (-1)) (l9 (Y7 x.1 [x_1.2.2.2.2.1]) fun x_2=>some (.inl (x_2,x.2.1,x9 .i64 x.2.2 1))) (l7
 (ile 0 x_1.2.2.1) (l9 (Y7 x.2.1 [x_1.2.2.2.2.1]) fun x_2=>some (.inl (x.1,x_2,x9 .i64 x.2.2 1))) (some (.inl
 (x.1,x.2.1,x9 .i64 x.2.2 1)))))) (some (.inr (x.1,x.2.1)))) ([],[],0)) fun y=>l9 (kF y.1) fun(x
 :List Int)=>l9 (kF y.2) fun x_1=>l9 (aQ x) fun x=>l9 (aQ x_1) fun x_2
 =>some (x,x_2)
def s38:FSpec:=mkS b1P b3i fun x=>qB x
def b1v:List MG:=[(true,(.dat y27)),uiM,(true,(.dat y33)),uiM]
def b2O:Ret:=⟨[(.cell 8 54,(true,(.dat y3))),(.cell 9 60,(true,(.dat y29)))],[]⟩
def e19:Env:=⟨49,eqs,tt,gl,[(37,s37),(38,s38),(10,s10),(39,s39)],[],[],[],[],[]⟩
def b6K:Ann:=.leaf
def AP (a0:G5) (a1:Int) (a2:ET) (a3:Int):Option (G9×J3):=l9 (uS a0 a1 a2 a3) fun(x:
 dC×J3)=>l7 (C9 (ieq x.2.1 0)) (some ((0,0,0),x.2)) (l9 (qB x.1) fun x=>
 l9 (X0 a0 a1 x.1 x.2) fun x=>l9 (kR x a1 a2 a3) fun x=>some (x.1,x.2.2))
def s19:FSpec:=mkS b1v b2O fun x=>AP x.1 x.2.1 x.2.2.1 x.2.2.2
def b1w:List MG:=[(false,(.dat y12)),(false,(.dat y12))]
def b2Q:Ret:=⟨[(.tmp 4,ubM)],[]⟩
def e20:Env:=⟨32,eqs,tt,gl,[],[],[],[],[],[]⟩
def b6L:Ann:=.seq lfA (.seq lfA (.seq (.seq lfA (.blk (.loopR [(4,6),(11,32)] ⟨[(5,uiM)],[]⟩ 0 ⟨[],[]⟩ lfA))) lfA))
def mD (a0:List A7) (a1:List A7):Option Bool:=l7 (C9 (ieq (o7 a0) (o7 a1))) (some false) (l9 (G8 (fun(x:Int)
 =>l7 (ilt x (o7 a0)) (l7 (ilt x (o7 a1)) (l9 (lat a0 x) fun x_1=>l9 (lat a1 x) fun x_2=>l7 (C9 (P6
 (ieq x_1.1 x_2.1) (ieq x_1.2 x_2.2))) (some (.rt false)) (some (.nx (x9 .i64 x 1)))) (some (.ex ()))) (some (.ex
 ()))) 0) fun o=>I7 o (fun(y:PUnit)=>some true) fun r=>some r)
def s20:FSpec:=mkS b1w b2Q fun x=>mD x.1 x.2
def b1o:List MG:=[(true,(.dat y24)),(false,(.dat y28)),uiM]
def b2G:Ret:=⟨[(.tmp 6,uiM)],[]⟩
def e12:Env:=⟨29,eqs,tt,gl,[(27,s27),(28,s28)],[],[],[],[],[]⟩
def b6D:Ann:=.leaf
def fA (a0:x8) (a1:List Int) (a2:Int):Option Int:=l7 (ilt a2 0) (some (-1)) (l7 (ile (o7 a0.2.2.2.2) a2) (some (-1))
 (l9 (fV a0 a1) fun x=>l9 (fB x.1) fun x=>l9 (lat x a2) fun x_1
 =>l9 (H6 x (toN a2)) fun x=>some x))
def s12:FSpec:=mkS b1o b2G fun x=>fA x.1 x.2.1 x.2.2
def ps8:List MG:=[]
def rt8:Ret:=⟨[(.tmp 0,ubM)],[]⟩
def e8:Env:=⟨88,eqs,tt,gl,[(18,s18),(10,s10),(19,s19),(20,s20),(12,s12)],[],[],[],[],[]⟩
def an8:Ann:=.seq lfA (.seq lfA (.seq lfA (.seq lfA (.seq lfA (.seq (.joinR [(0,1),(21,49)] ⟨[],[]⟩ lfA) lfA)))))
def V9:Option Bool:=l9 nZ fun x=>l9 (X0 x 0 [1] []) fun x=>l9 nZ fun(x_1:
 G5)=>l9 (X0 x_1 0 [0] []) fun x_2=>l9 nZ fun x_3=>l9 (AP x_3 0 (45000,[(3,0,50)],
 []) 0) fun x_4=>l9 (l7 (C9 (ieq (o7 x.2.2) 1)) (some (.inr false)) (l7 (C9 (ieq (o7 x_2.2.2) 1)) (some
 (.inr false)) (l9 (lat x.2.2 0) fun x=>l7 (C9 (ieq (o7 x.2.2.2.2) 2)) (some (.inr false)) (l9 (lat x_2.2.2 0) fun(x
 :x8)=>l7 (C9 (ieq (o7 x.2.2.2.2) 1)) (some (.inr false)) (some (.inl ())))))) fun o=>I7 o (fun(x_5
 :PUnit)=>l9 (lat x.2.2 0) fun x=>l9 (lat x.2.2.2.2 0) fun x=>l9 (mD x.2.2.2.2.2.1 [(1,0)]) fun(x:
 Bool)=>l7 x (l7 (P6 (ieq x_4.1.1 3) (P6 (ieq x_4.1.2.1 0) (ieq x_4.1.2.2 900))) (l7 (P6 (ieq x_4.2.1 0) (P6 (ieq x_4.2.2.1 0)
 (P6 (ieq x_4.2.2.2.1 0) (ieq x_4.2.2.2.2 0)))) (l9 nZ fun x=>l9 (lat x.2.2 0) fun x=>l9 (fA x
 [1] 1) fun x=>l7 (ieq x 1) (l9 nZ fun x=>l9 (lat x.2.2 0) fun x=>l9 (fA x [0] 1) fun
 (x:Int)=>some (ieq x (-1))) (some false)) (some false)) (some false)) (some false)) fun r=>some r
def s8:FSpec:=mkS ps8 rt8 fun x=>V9
def b1Y:List MG:=[(false,(.dat y28)),uiM]
def b3r:Ret:=⟨[(.tmp 4,ubM)],[]⟩
def e49:Env:=⟨18,eqs,tt,gl,[],[],[],[],[],[]⟩
def b7m:Ann:=.seq lfA (.seq (.seq lfA (.blk (.loopR [(4,18)] ⟨[(5,uiM)],[]⟩ 0 ⟨[],[]⟩ lfA))) lfA)
def sJ (a0:List Int) (a1:Int):Option Bool:=l9 (G8 (fun(x:Int)=>l7 (ilt x (o7 a0)) (l9 (lat a0 x) fun x_1=>
 l7 (ieq x_1 a1) (some (.rt true)) (some (.nx (x9 .i64 x 1)))) (some (.ex ()))) 0) fun o=>I7 o (fun
 (y:PUnit)=>some false) fun r=>some r
def s49:FSpec:=mkS b1Y b3r fun x=>sJ x.1 x.2
def b1G:List MG:=[(true,(.dat y24)),(false,(.dat y28))]
def b2Z:Ret:=⟨[(.tmp 4,(false,(.own .bool)))],[]⟩
def e29:Env:=⟨54,eqs,tt,gl,[(49,s49)],[],[],[],[],[]⟩
def b6U:Ann:=.seq lfA (.seq lfA (.seq (.seq lfA (.blk (.loop [(5,8),(12,53),(7000704,7000705)] ⟨[(5,(false,(.own .bool))),(6,uiM)],[]⟩ 0 ⟨[(5,(false,(.own .bool)))],[]⟩ (.seq lfA (.seq (.blk (.seq lfA (.seq lfA (.seq lfA (.blk (.loop [(5,6),(7,8),(27,53),(14000000,14000001)] ⟨[(5,(false,(.own .bool))),(7,uiM)],[]⟩ 2 ⟨[(5,(false,(.own .bool)))],[]⟩ lfA)))))) lfA))))) lfA))
def pJ (a0:x8) (a1:List Int):Option (List Bool):=l9 (iI (o7 a0.2.2.2.2) false) fun x=>l9 (N7 (fun(x
 :List Bool×Int)=>l7 (ilt x.2 (o7 a0.2.2.2.2)) (l9 (sJ a1 x.2) fun x_1=>l7 (C9 x_1) (some (.inl (x.1,x9
 .i64 x.2 1))) (l9 (lat x.1 x.2) fun x_2=>l9 (H6 x.1 (toN x.2)) fun x_3=>l9 (N7 (fun(x:List Bool×Int)
 =>l9 (lat a0.2.2.2.2 x.2) fun x_4=>l7 (ile 0 x_4.2.2.1) (l9 (lat a0.2.2.2.2 x.2) fun x_5=>l7 (ilt x_5.2.2.1 x.2)
 (l9 (lat a0.2.2.2.2 x.2) fun x_6=>l9 (lat x.1 x_6.2.2.1) fun x_7=>l9 (H6 x.1 (toN x_6.2.2.1)) fun x_8=>
 some (.inl (I9 x.1 (toN x_6.2.2.1) true,x_6.2.2.1))) (some (.inr x.1))) (some (.inr x.1))) (I9 x.1 (toN x.2) true,x.2)) fun y=>some (.inl (y,x9 .i64 x.2 1)))) (some (.inr x.1))) (x,0)) fun y=>some y
def s29:FSpec:=mkS b1G b2Z fun x=>pJ x.1 x.2
def b1p:List MG:=[(true,(.dat y24)),(false,(.dat y28)),uiM]
def b2H:Ret:=⟨[(.tmp 6,uiM)],[]⟩
def e13:Env:=⟨40,eqs,tt,gl,[(29,s29)],[],[],[],[],[]⟩
def b6E:Ann:=.seq lfA (.seq lfA (.seq lfA (.seq lfA (.seq (.seq lfA (.blk (.loop [(8,10),(28,39)] ⟨[(8,uiM),(9,uiM)],[]⟩ 0 ⟨[(8,uiM)],[]⟩ lfA))) lfA))))
def aV (a0:x8) (a1:List Int) (a2:Int):Option Int:=l9 (pJ a0 a1) fun x=>l7 (ilt a2 0) (some
 (-1)) (l7 (ile (o7 x) a2) (some (-1)) (l9 (lat x a2) fun x_1=>l9 (H6 x (toN a2)) fun x_2=>l7 (C9 x_2) (some
 (-1)) (l9 (N7 (fun(x_3:A7)=>l7 (ilt x_3.2 a2) (l9 (lat x x_3.2) fun x_4=>l9 (H6 x (toN x_3.2)) fun x=>
 l7 x (some (.inl (x9 .i64 x_3.1 1,x9 .i64 x_3.2 1))) (some (.inl (x_3.1,x9 .i64 x_3.2 1)))) (some (.inr
 x_3.1))) (0,0)) fun y=>some y)))
def s13:FSpec:=mkS b1p b2H fun x=>aV x.1 x.2.1 x.2.2
def b2w:List MG:=[(true,(.dat y2))]
def b3Q:Ret:=⟨[(.cell 2 54,(true,(.dat y3)))],[]⟩
def e86:Env:=⟨8,eqs,tt,gl,[],[],[],[],[],[]⟩
def b7L:Ann:=.leaf
def zn (a0:A7):Option G9:=some (a0.1,a0.2,0)
def s86:FSpec:=mkS b2w b3Q fun x=>zn x
def b1Z:List MG:=[(true,(.dat y2))]
def b3s:Ret:=⟨[(.cell 2 70,(true,(.dat y2)))],[]⟩
def e50:Env:=⟨21,eqs,tt,gl,[(86,s86)],[],[],[],[],[]⟩
def b7n:Ann:=.leaf
def mM (a0:A7):Option A7:=l9 (zn a0) fun x=>l7 (ieq a0.1 6) (some (6,x9 .i64 (bJ
 .i64 16 x.2.1) x.2.2)) (some (a0.1,x.2.2))
def s50:FSpec:=mkS b1Z b3s fun x=>mM x
def b1D:List MG:=[(true,(.dat y24)),(false,(.dat y28))]
def b2W:Ret:=⟨[(.cell 4 40,(true,(.dat y24)))],[]⟩
def e26:Env:=⟨64,eqs,tt,gl,[(29,s29),(13,s13),(49,s49),(50,s50)],[],[],[],[],[]⟩
def b6R:Ann:=.seq lfA (.seq lfA (.seq lfA (.seq lfA (.seq (.seq lfA (.blk (.loop [(6,9),(14,63),(10000384,10000385)] ⟨[(6,(false,(.box (.pair (.dat .str) (.pair diM (.pair (.dat y11) (.pair (.dat y11) (.own y19)))))))),(7,uiM)],[]⟩ 0 ⟨[(6,(false,(.box (.pair (.dat .str) (.pair diM (.pair (.dat y11) (.pair (.dat y11) (.own y19))))))))],[]⟩ (.seq lfA (.seq (.blk (.seq lfA (.seq lfA (.seq (.join [(8,9),(31,40),(40000512,40000513)] ⟨[(8,(false,(.box (.dat y19))))],[]⟩ lfA) lfA)))) lfA))))) lfA))))
def lm (a0:x8) (a1:List Int):Option x8:=l9 (pJ a0 a1) fun x=>l9 (N7 (fun(x_1:x8×
 Int)=>l7 (ilt x_1.2 (o7 a0.2.2.2.2)) (l9 (lat x x_1.2) fun x_2=>l9 (H6 x (toN x_1.2)) fun x=>l7 (C9 x)
 (some (.inl (x_1.1,x9 .i64 x_1.2 1))) (l9 (lat a0.2.2.2.2 x_1.2) fun x=>l9 (l7 (ile 0 x.2.2.1) (l9
 (aV a0 a1 x.2.2.1) fun x_3=>some (x.1,x.2.1,x_3,x.2.2.2)) (some x)) fun x=>l9 (sJ a1 x_1.2) fun(x_3:
 Bool)=>l7 (C9 x_3) (l9 (lat a0.2.2.2.1 x.2.1) fun x_4=>l9 (mM x_4.2) fun x_5=>l9 (Y7
 x_1.1.2.2.2.2 [(x.1,x.2.1,x.2.2.1,x.2.2.2.1,x.2.2.2.2.1,[(1,0)],[x_5],x.2.2.2.2.2.2.2)]) fun x=>some (.inl ((x_1.1.1,
 x_1.1.2.1,x_1.1.2.2.1,x_1.1.2.2.2.1,x),x9 .i64 x_1.2 1))) (l9 (Y7 x_1.1.2.2.2.2 [x]) fun x=>some (.inl
 ((x_1.1.1,x_1.1.2.1,x_1.1.2.2.1,x_1.1.2.2.2.1,x),x9 .i64 x_1.2 1))))) (some (.inr x_1.1))) ((a0.1,a0.2.1,a0.2.2.1,a0.2.2.2.1,
 []),0)) fun y=>some y
def s26:FSpec:=mkS b1D b2W fun x=>lm x.1 x.2
def b1m:List MG:=[(true,(.dat y27)),uiM,(false,(.dat y28)),(false,(.dat y28))]
def b2F:Ret:=⟨[(.cell 8 26,(true,(.dat y27)))],[]⟩
def e11:Env:=⟨65,eqs,tt,gl,[(26,s26)],[],[],[],[],[]⟩
def b6C:Ann:=.seq lfA (.seq (.joinR [(8,9),(11,21),(4000512,4000513)] ⟨[(8,(false,(.box (.dat y27))))],[]⟩ lfA) lfA)
def jM (a0:G5) (a1:Int) (a2:List Int) (a3:List Int):Option G5:=l9 (l7 (ilt a1 0) (some (.inr a0)) (l7 (ile
 (o7 a0.2.2) a1) (some (.inr a0)) (some (.inl ([],[],[]))))) fun o=>I7 o (fun(x:G5)=>l9 (Y7 [] a0.2.2) fun
 (x:List x8)=>l9 (lat a0.2.2 a1) fun x_1=>l9 (lm x_1 a2) fun x_2=>l9 (lat x a1) fun(x_3:
 x8)=>l9 (H6 x (toN a1)) fun x_4=>l9 (lat a0.2.2 a1) fun x_5=>l7 (ile 0 x_5.2.1) (l7 (ilt x_5.2.1 (o7
 a0.2.2)) (l9 (lat a0.2.2 x_5.2.1) fun x_6=>l9 (lm x_6 a3) fun x_7=>l9 (lat (I9 x (toN a1) x_2)
 x_5.2.1) fun x_8=>l9 (H6 (I9 x (toN a1) x_2) (toN x_5.2.1)) fun x_9=>some (a0.1,a0.2.1,I9 (I9 x (toN a1) x_2)
 (toN x_5.2.1) x_7)) (some (a0.1,a0.2.1,I9 x (toN a1) x_2))) (some (a0.1,a0.2.1,I9 x (toN a1) x_2))) fun r=>some r
def s11:FSpec:=mkS b1m b2F fun x=>jM x.1 x.2.1 x.2.2.1 x.2.2.2
def b2r:List MG:=[(false,(.dat (.sl .str))),(false,(.dat (.sl .str)))]
def b3L:Ret:=⟨[(.tmp 4,ubM)],[]⟩
def e79:Env:=⟨32,eqs,tt,gl,[],[],[],[],[],[]⟩
def b7G:Ann:=.seq lfA (.seq lfA (.seq (.seq lfA (.blk (.loopR [(4,6),(11,32)] ⟨[(5,uiM)],[]⟩ 0 ⟨[],[]⟩ lfA))) lfA))
def nV (a0:List (List UInt8)) (a1:List (List UInt8)):Option Bool:=l7 (C9 (ieq (o7 a0) (o7 a1))) (some false) (l9 (G8
 (fun(x:Int)=>l7 (ilt x (o7 a0)) (l7 (ilt x (o7 a1)) (l9 (lat a0 x) fun x_1=>l9 (lat a1 x) fun x_2=>l7 (C9 (seq x_1 x_2)) (some (.rt false)) (some (.nx (x9 .i64 x 1)))) (some (.ex ()))) (some (.ex
 ()))) 0) fun o=>I7 o (fun(y:PUnit)=>some true) fun r=>some r)
def s79:FSpec:=mkS b2r b3L fun x=>nV x.1 x.2
def b1R:List MG:=[(true,(.dat y0)),(true,(.dat y0))]
def b3k:Ret:=⟨[(.tmp 4,ubM)],[]⟩
def e40:Env:=⟨17,eqs,tt,gl,[(79,s79)],[],[],[],[],[]⟩
def b7f:Ann:=.leaf
def xU (a0:X4) (a1:X4):Option Bool:=l7 (seq a0.1 a1.1) (l9 (nV a0.2 a1.2) fun x=>some x) (some false)
def s40:FSpec:=mkS b1R b3k fun x=>xU x.1 x.2
def b1x:List MG:=[(false,(.dat y1)),(false,(.dat y1))]
def b2R:Ret:=⟨[(.tmp 4,ubM)],[]⟩
def e21:Env:=⟨33,eqs,tt,gl,[(40,s40)],[],[],[],[],[]⟩
def b6M:Ann:=.seq lfA (.seq lfA (.seq (.seq lfA (.blk (.loopR [(4,6),(11,33)] ⟨[(5,uiM)],[]⟩ 0 ⟨[],[]⟩ lfA))) lfA))
def uF (a0:List X4) (a1:List X4):Option Bool:=l7 (C9 (ieq (o7 a0) (o7 a1))) (some false) (l9 (G8 (fun(x:Int)
 =>l7 (ilt x (o7 a0)) (l7 (ilt x (o7 a1)) (l9 (lat a0 x) fun x_1=>l9 (lat a1 x) fun x_2=>l9 (xU x_1
 x_2) fun x_3=>l7 (C9 x_3) (some (.rt false)) (some (.nx (x9 .i64 x 1)))) (some (.ex ()))) (some (.ex
 ()))) 0) fun o=>I7 o (fun(y:PUnit)=>some true) fun r=>some r)
def s21:FSpec:=mkS b1x b2R fun x=>uF x.1 x.2
def b2s:List MG:=[(false,(.dat y5)),(false,(.dat y5))]
def b3M:Ret:=⟨[(.tmp 4,ubM)],[]⟩
def e80:Env:=⟨32,eqs,tt,gl,[],[],[],[],[],[]⟩
def b7H:Ann:=.seq lfA (.seq lfA (.seq (.seq lfA (.blk (.loopR [(4,6),(11,32)] ⟨[(5,uiM)],[]⟩ 0 ⟨[],[]⟩ lfA))) lfA))
def xW (a0:List vN) (a1:List vN):Option Bool:=l7 (C9 (ieq (o7 a0) (o7 a1))) (some false) (l9 (G8 (fun(x:Int)=>
 l7 (ilt x (o7 a0)) (l7 (ilt x (o7 a1)) (l9 (lat a0 x) fun x_1=>l9 (lat a1 x) fun x_2=>l7 (C9 (P6 (ieq
 x_1.1.1 x_2.1.1) (P6 (ieq x_1.1.2 x_2.1.2) (P6 (ieq x_1.2.1 x_2.2.1) (P6 (ieq x_1.2.2.1 x_2.2.2.1) (ieq x_1.2.2.2 x_2.2.2.2)))))) (some (.rt
 false)) (some (.nx (x9 .i64 x 1)))) (some (.ex ()))) (some (.ex ()))) 0) fun o=>I7 o (fun(y:
 PUnit)=>some true) fun r=>some r)
def s80:FSpec:=mkS b2s b3M fun x=>xW x.1 x.2
def b1S:List MG:=[(true,(.dat y8)),(true,(.dat y8))]
def b3l:Ret:=⟨[(.tmp 4,ubM)],[]⟩
def e41:Env:=⟨31,eqs,tt,gl,[(80,s80)],[],[],[],[],[]⟩
def b7g:Ann:=.leaf
def uI (a0:V7) (a1:V7):Option Bool:=l7 (seq a0.1 a1.1) (l7 (P6 (ieq a0.2.1.1 a1.2.1.1) (ieq a0.2.1.2 a1.2.1.2)) (l7
 (P6 (ieq a0.2.2.1.1 a1.2.2.1.1) (ieq a0.2.2.1.2 a1.2.2.1.2)) (l9 (xW a0.2.2.2 a1.2.2.2) fun x=>some x) (some false)) (some
 false)) (some false)
def s41:FSpec:=mkS b1S b3l fun x=>uI x.1 x.2
def b1y:List MG:=[(false,(.dat y9)),(false,(.dat y9))]
def b2S:Ret:=⟨[(.tmp 4,ubM)],[]⟩
def e22:Env:=⟨33,eqs,tt,gl,[(41,s41)],[],[],[],[],[]⟩
def b6N:Ann:=.seq lfA (.seq lfA (.seq (.seq lfA (.blk (.loopR [(4,6),(11,33)] ⟨[(5,uiM)],[]⟩ 0 ⟨[],[]⟩ lfA))) lfA))
def qP (a0:List V7) (a1:List V7):Option Bool:=l7 (C9 (ieq (o7 a0) (o7 a1))) (some false) (l9 (G8 (fun(x:
 Int)=>l7 (ilt x (o7 a0)) (l7 (ilt x (o7 a1)) (l9 (lat a0 x) fun x_1=>l9 (lat a1 x) fun x_2=>l9
 (uI x_1 x_2) fun x_3=>l7 (C9 x_3) (some (.rt false)) (some (.nx (x9 .i64 x 1)))) (some (.ex ())))
 (some (.ex ()))) 0) fun o=>I7 o (fun(y:PUnit)=>some true) fun r=>some r)
def s22:FSpec:=mkS b1y b2S fun x=>qP x.1 x.2
def b2t:List MG:=[(false,(.dat y11)),(false,(.dat y11))]
def b3N:Ret:=⟨[(.tmp 4,ubM)],[]⟩
def e81:Env:=⟨32,eqs,tt,gl,[],[],[],[],[],[]⟩
def b7I:Ann:=.seq lfA (.seq lfA (.seq (.seq lfA (.blk (.loopR [(4,6),(11,32)] ⟨[(5,uiM)],[]⟩ 0 ⟨[],[]⟩ lfA))) lfA))
def mY (a0:List Z9) (a1:List Z9):Option Bool:=l7 (C9 (ieq (o7 a0) (o7 a1))) (some false) (l9 (G8 (fun(x:
 Int)=>l7 (ilt x (o7 a0)) (l7 (ilt x (o7 a1)) (l9 (lat a0 x) fun x_1=>l9 (lat a1 x) fun x_2=>l7 (C9
 (P6 (seq x_1.1 x_2.1) (P6 (ieq x_1.2.1 x_2.2.1) (ieq x_1.2.2 x_2.2.2)))) (some (.rt false)) (some (.nx (x9 .i64 x 1)))) (some
 (.ex ()))) (some (.ex ()))) 0) fun o=>I7 o (fun(y:PUnit)=>some true) fun r=>some r)
def s81:FSpec:=mkS b2t b3N fun x=>mY x.1 x.2
def a1u:List MG:=[(true,(.dat y19)),(true,(.dat y19))]
def a3s:Ret:=⟨[(.tmp 4,ubM)],[]⟩
def b8d:Env:=⟨59,eqs,tt,gl,[(20,s20)],[],[],[],[],[]⟩
def a8P:Ann:=.leaf
def xX (a0:H9) (a1:H9):Option Bool:=l7 (seq a0.1 a1.1) (l7 (ieq a0.2.1 a1.2.1) (l7 (ieq a0.2.2.1 a1.2.2.1) (l7 (ieq
 a0.2.2.2.1 a1.2.2.2.1) (l7 (P6 (ieq a0.2.2.2.2.1.1 a1.2.2.2.2.1.1) (ieq a0.2.2.2.2.1.2 a1.2.2.2.2.1.2)) (l7 (seq a0.2.2.2.2.2.2.2
 a1.2.2.2.2.2.2.2) (l9 (mD a0.2.2.2.2.2.1 a1.2.2.2.2.2.1) fun x=>l7 x (l9 (mD a0.2.2.2.2.2.2.1 a1.2.2.2.2.2.2.1)
 fun x=>some x) (some false)) (some false)) (some false)) (some false)) (some false)) (some false)) (some false)
def b4d:FSpec:=mkS a1u a3s fun x=>xX x.1 x.2
def b2u:List MG:=[(false,(.dat y20)),(false,(.dat y20))]
def b3O:Ret:=⟨[(.tmp 4,ubM)],[]⟩
def e82:Env:=⟨33,eqs,tt,gl,[(114,b4d)],[],[],[],[],[]⟩
def b7J:Ann:=.seq lfA (.seq lfA (.seq (.seq lfA (.blk (.loopR [(4,6),(11,33)] ⟨[(5,uiM)],[]⟩ 0 ⟨[],[]⟩ lfA))) lfA))
def uG (a0:List H9) (a1:List H9):Option Bool:=l7 (C9 (ieq (o7 a0) (o7 a1))) (some false) (l9 (G8 (fun(x:Int)
 =>l7 (ilt x (o7 a0)) (l7 (ilt x (o7 a1)) (l9 (lat a0 x) fun x_1=>l9 (lat a1 x) fun x_2=>l9 (xX x_1
 x_2) fun x_3=>l7 (C9 x_3) (some (.rt false)) (some (.nx (x9 .i64 x 1)))) (some (.ex ()))) (some (.ex
 ()))) 0) fun o=>I7 o (fun(y:PUnit)=>some true) fun r=>some r)
def s82:FSpec:=mkS b2u b3O fun x=>uG x.1 x.2
def b1T:List MG:=[(true,(.dat y24)),(true,(.dat y24))]
def b3m:Ret:=⟨[(.tmp 4,ubM)],[]⟩
def e42:Env:=⟨38,eqs,tt,gl,[(81,s81),(82,s82)],[],[],[],[],[]⟩
def b7h:Ann:=.leaf
def uH (a0:x8) (a1:x8):Option Bool:=l7 (seq a0.1 a1.1) (l7 (ieq a0.2.1 a1.2.1) (l9 (mY a0.2.2.1 a1.2.2.1)
 fun x=>l7 x (l9 (mY a0.2.2.2.1 a1.2.2.2.1) fun x=>l7 x (l9 (uG a0.2.2.2.2 a1.2.2.2.2) fun(x:
 Bool)=>some x) (some false)) (some false)) (some false)) (some false)
def s42:FSpec:=mkS b1T b3m fun x=>uH x.1 x.2
def b1A:List MG:=[(false,(.dat y25)),(false,(.dat y25))]
def b2T:Ret:=⟨[(.tmp 4,ubM)],[]⟩
def e23:Env:=⟨33,eqs,tt,gl,[(42,s42)],[],[],[],[],[]⟩
def b6O:Ann:=.seq lfA (.seq lfA (.seq (.seq lfA (.blk (.loopR [(4,6),(11,33)] ⟨[(5,uiM)],[]⟩ 0 ⟨[],[]⟩ lfA))) lfA))
def qO (a0:List x8) (a1:List x8):Option Bool:=l7 (C9 (ieq (o7 a0) (o7 a1))) (some false) (l9 (G8 (fun(x:
 Int)=>l7 (ilt x (o7 a0)) (l7 (ilt x (o7 a1)) (l9 (lat a0 x) fun x_1=>l9 (lat a1 x) fun x_2=>l9
 (uH x_1 x_2) fun x_3=>l7 (C9 x_3) (some (.rt false)) (some (.nx (x9 .i64 x 1)))) (some (.ex ())))
 (some (.ex ()))) 0) fun o=>I7 o (fun(y:PUnit)=>some true) fun r=>some r)
def s23:FSpec:=mkS b1A b2T fun x=>qO x.1 x.2
def ps9:List MG:=[(true,(.dat y27)),(true,(.dat y27))]
def rt9:Ret:=⟨[(.tmp 4,ubM)],[]⟩
def e9:Env:=⟨24,eqs,tt,gl,[(21,s21),(22,s22),(23,s23)],[],[],[],[],[]⟩
def an9:Ann:=.leaf
def wX (a0:G5) (a1:G5):Option Bool:=l9 (uF a0.1 a1.1) fun x=>l7 x (l9 (qP a0.2.1 a1.2.1) fun(x
 :Bool)=>l7 x (l9 (qO a0.2.2 a1.2.2) fun x=>some x) (some false)) (some false)
def s9:FSpec:=mkS ps9 rt9 fun x=>wX x.1 x.2
def ps3:List MG:=[(true,(.dat y27)),uiM,(false,(.dat y28)),(false,(.dat y28))]
def rt3:Ret:=⟨[(.tmp 8,ubM)],[]⟩
def e3:Env:=⟨43,eqs,tt,gl,[(6,s6),(7,s7),(8,s8),(10,s10),(11,s11),(9,s9)],[],[],[],[],[]⟩
def an3:Ann:=.leaf
def lT (a0:G5) (a1:Int) (a2:List Int) (a3:List Int):Option Bool:=l9 (jC a0) fun x=>l7 (C9 x)
 (l9 V9 fun x=>some x) (l7 (ilt 100 (o7 a2)) (l9 V9 fun x=>some x) (l7 (ilt 100 (o7 a3))
 (l9 V9 fun x=>some x) (l9 (fK a0) fun x=>l7 (C9 (P6 (ieq x.1 0) (P6 (ieq x.2.1 0) (P6
 (ieq x.2.2.1 0) (ieq x.2.2.2 0))))) (l9 V9 fun x=>some x) (l9 (X0 a0 a1 a2 a3) fun x=>l9
 (jM a0 a1 a2 a3) fun x_1=>l9 (wX x x_1) fun x=>l7 x (l9 V9 fun x=>some x) (some
 false)))))
def s3:FSpec:=mkS ps3 rt3 fun x=>lT x.1 x.2.1 x.2.2.1 x.2.2.2
def ps4:List MG:=[(true,(.dat y24)),(false,(.dat y28)),uiM]
def rt4:Ret:=⟨[(.tmp 6,ubM)],[]⟩
def e4:Env:=⟨29,eqs,tt,gl,[(8,s8),(12,s12),(13,s13)],[],[],[],[],[]⟩
def an4:Ann:=.leaf
def lS (a0:x8) (a1:List Int) (a2:Int):Option Bool:=l7 (ilt 100 (o7 a0.2.2.2.2)) (l9 V9 fun x=>
 some x) (l7 (ilt 100 (o7 a1)) (l9 V9 fun x=>some x) (l9 (fA a0 a1 a2) fun x=>l9
 (aV a0 a1 a2) fun x_1=>l7 (ieq x x_1) (l9 V9 fun x=>some x) (some false)))
def s4:FSpec:=mkS ps4 rt4 fun x=>lS x.1 x.2.1 x.2.2
def ps5:List MG:=[(true,(.dat y27)),uiM,(false,(.dat y28)),(false,(.dat y28))]
def rt5:Ret:=⟨[(.tmp 8,ubM)],[]⟩
def e5:Env:=⟨92,eqs,tt,gl,[(6,s6),(7,s7),(8,s8),(10,s10),(9,s9)],[],[],[],[],[]⟩
def an5:Ann:=.seq lfA (.seq (.joinR [(8,9),(13,33)] ⟨[],[]⟩ lfA) (.seq lfA (.seq (.joinR [(8,9),(38,51)] ⟨[],[]⟩ lfA) (.seq lfA (.seq (.seq lfA (.blk (.loop [(10,12),(52,60),(30003264,30003265)] ⟨[(10,uoM),(11,uiM)],[]⟩ 0 ⟨[(10,uoM)],[]⟩ lfA))) (.seq (.seq lfA (.blk (.loopR [(8,9),(12,13),(60,82)] ⟨[(12,uiM)],[]⟩ 2 ⟨[],[]⟩ lfA))) lfA))))))
def lU (a0:G5) (a1:Int) (a2:List Int) (a3:List Int):Option Bool:=l9 (l9 (jC a0) fun x=>l7
 (C9 x) (l9 V9 fun x=>some (.inr x)) (l7 (ilt 100 (o7 a2)) (l9 V9 fun x=>some (.inr x))
 (l7 (ilt 100 (o7 a3)) (l9 V9 fun x=>some (.inr x)) (l9 (fK a0) fun x=>l7 (C9 (P6
 (ieq x.1 0) (P6 (ieq x.2.1 0) (P6 (ieq x.2.2.1 0) (ieq x.2.2.2 0))))) (l9 V9 fun x=>some (.inr x)) (some (.inl
 ())))))) fun o=>I7 o (fun(x:PUnit)=>l9 (X0 a0 a1 a2 a3) fun x=>l9 (l9
 (fK x) fun x_1=>l7 (C9 (P6 (ieq x_1.1 0) (P6 (ieq x_1.2.1 0) (P6 (ieq x_1.2.2.1 0) (ieq x_1.2.2.2 0))))) (some
 (.inr false)) (l7 (C9 (ieq (o7 x.2.2) (o7 a0.2.2))) (some (.inr false)) (some (.inl ())))) fun o=>I7 o
 (fun(x_1:PUnit)=>l9 (N7 (fun(x:List Int×Int)=>l7 (ilt x.2 100) (l9 (Y7 x.1 [x.2]) fun x_2=>some (.inl
 (x_2,x9 .i64 x.2 1))) (some (.inr x.1))) ([],0)) fun y=>l9 (G8 (fun(x_2:Int)=>l7 (ilt x_2 (o7 x.2.2))
 (l9 (lat x.2.2 x_2) fun x=>l9 (lat a0.2.2 x_2) fun x_3=>l7 (ilt (o7 x_3.2.2.2.2) (o7 x.2.2.2.2)) (some (.rt
 false)) (some (.nx (x9 .i64 x_2 1)))) (some (.ex ()))) 0) fun o=>I7 o (fun(y_1:PUnit)=>l9
 (X0 a0 a1 y y) fun x=>l9 (wX x a0) fun x=>l7 x (l9 V9 fun x=>some x) (some
 false)) fun r=>some r) fun r=>some r) fun r=>some r
def s5:FSpec:=mkS ps5 rt5 fun x=>lU x.1 x.2.1 x.2.2.1 x.2.2.2
def pI:Option (List (List UInt8)):=some [[105,102],[116,104,101,110],[101,108,115,101],[111,114],[97,110,100],[110,
 111,116],[116,114,117,101],[102,97,108,115,101],[116,111,100,97,121],[115,104,97,114,101],[100,105,118],[114,111,117,110,
 100],[109,105,110],[109,97,120],[112,108,117,115],[109,111,110,116,104,115],[100,97,121,115],[121,101,97,114,115],[121,
 101,97,114],[109,111,110,116,104],[116,97,98],[98,97,110,100],[99,111,117,110,116],[115,117,109],[97,108,108],[97,110,
 121],[109,111,115,116],[101,110,117,109],[116,97,98,108,101],[114,111,119],[115,99,111,112,101],[109,101,109,98,101,114,
 115],[105,110,112,117,116],[100,101,102],[114,117,108,101],[111,102],[111,118,101,114],[112,114,105,111],[102,114,111,109],
 [116,111],[101,110,100],[119,104,101,110],[105,115],[115,114,99],[98,111,111,108],[105,110,116],[109,111,110,101,121],[114,
 97,116,101],[100,97,116,101],[100,111,119,110],[117,112],[122,101,114,111],[97,119,97,121],[104,97,108,102],[101,118,101,
 110]]
def U5 (a0:A7) (a1:List X4):Option Bool:=l7 (ieq a0.1 6) (l7 (ile 0 a0.2) (some (ilt a0.2 (o7 a1))) (some false))
 (l7 (ile 1 a0.1) (l7 (ile a0.1 5) (some (ieq a0.2 0)) (some false)) (some false))
def dJ (a0:A7) (a1:List X4):Option A7:=l9 (U5 a0 a1) fun x=>l7 (C9 x) (some (0,-1)) (l7
 (ieq a0.1 1) (some (0,1)) (l7 (ieq a0.1 2) (some (-1000000000000,1000000000000)) (l7 (ieq a0.1 3) (some (-1000000000000000,
 1000000000000000)) (l7 (ieq a0.1 4) (some (-1000000000,1000000000)) (l7 (ieq a0.1 5) (some (0,109572)) (l9 (lat a1 a0.2) fun x
 =>some (0,E9 .i64 (o7 x.2) 1)))))))
def dK (a0:Int):Option Int:=l9 (l7 (ile 1 a0) (l7 (ile a0 9) (some (.inr 0)) (l7 (ile 35 a0) (l7 (ile a0 39) (some
 (.inr 0)) (some (.inl ()))) (some (.inl ())))) (l7 (ile 35 a0) (l7 (ile a0 39) (some (.inr 0)) (some (.inl
 ()))) (some (.inl ())))) fun o=>I7 o (fun(x:PUnit)=>l7 (ieq a0 10) (l7 (ieq a0 10) (some 1) (l7
 (ieq a0 26) (some 3) (l7 (ile 11 a0) (l7 (ile a0 30) (some 2) (some (-1))) (some (-1))))) (l7 (ieq a0 25) (l7 (ieq a0 25) (some 1) (l7
 (ieq a0 26) (some 3) (l7 (ile 11 a0) (l7 (ile a0 30) (some 2) (some (-1))) (some (-1))))) (l7 (ieq a0 31) (l7 (ieq a0 31) (some 1) (l7
 (ieq a0 26) (some 3) (l7 (ile 11 a0) (l7 (ile a0 30) (some 2) (some (-1))) (some (-1))))) (l7 (ieq a0 32) (l7 (ieq a0 32) (some 1) (l7
 (ieq a0 26) (some 3) (l7 (ile 11 a0) (l7 (ile a0 30) (some 2) (some (-1))) (some (-1))))) (l7 (ieq a0 33) (l7 (ieq a0 33) (some 1) (l7
 (ieq a0 26) (some 3) (l7 (ile 11 a0) (l7 (ile a0 30) (some 2) (some (-1))) (some (-1))))) (l7 (ieq a0 34) (some 1) (l7 (ieq a0 26) (some
 3) (l7 (ile 11 a0) (l7 (ile a0 30) (some 2) (some (-1))) (some (-1)))))))))) fun r=>some r
def X3 (a0:Int):Option Bool:=l9 (l7 (ile 1 a0) (l7 (ile a0 8) (some (.inr true)) (l7 (ile 36 a0) (l7 (ile a0 39)
 (some (.inr true)) (some (.inl ()))) (some (.inl ())))) (l7 (ile 36 a0) (l7 (ile a0 39) (some (.inr true)) (some
 (.inl ()))) (some (.inl ())))) fun o=>I7 o (fun(x:PUnit)=>l7 (ieq a0 14) (some true) (l7 (ieq
 a0 15) (some true) (l7 (ieq a0 16) (some true) (l7 (ieq a0 33) (some true) (some (ieq a0 34)))))) fun r=>some r
def Y1 (a0:Int):Option A7:=some (a0,0)
def fM (a0:A7) (a1:D8):Option Bool:=l9 (l7 (ieq a0.1 1) (some (ieq a0.1 1)) (l7 (ieq a0.1 2) (some (ieq a0.1 2))
 (l7 (ieq a0.1 3) (some (ieq a0.1 3)) (l7 (ieq a0.1 4) (some (ieq a0.1 4)) (some (ieq a0.1 5)))))) fun x=>l7 x (l9 (Y1
 a0.1) fun x=>l9 (dJ x a1.1) fun x=>l7 (ile x.1 a0.2) (some (ile a0.2 x.2)) (some false)) (l9 (l7 (ieq
 a0.1 14) (some (ieq a0.1 14)) (l7 (ieq a0.1 15) (some (ieq a0.1 15)) (some (ieq a0.1 16)))) fun x=>l7 x (l7 (ile 0 a0.2) (some
 (ile a0.2 5)) (some false)) (l7 (ieq a0.1 34) (l7 (ile 0 a0.2) (some (ile (gz a0.2 8) 5)) (some false)) (l7 (ieq a0.1 6) (some (ile 0
 a0.2)) (some true))))
def iL (a0:A7) (a1:D8):Option Bool:=l7 (ieq a0.1 6) (l7 (ilt (Z5 .i64 a0.2 16) (o7 a1.1)) (l9 (lat
 a1.1 (Z5 .i64 a0.2 16)) fun x=>some (ilt (gz a0.2 16) (o7 x.2))) (some false)) (l7 (ieq a0.1 7) (l7 (ile 0 a0.2) (some
 (ilt a0.2 (o7 a1.2.2.1))) (some false)) (l7 (ieq a0.1 8) (l7 (ile 0 a0.2) (some (ilt a0.2 (o7 a1.2.2.2.1))) (some false)) (l7 (ieq a0.1
 33) (l7 (ile 0 a0.2) (some (ilt a0.2 (o7 a1.2.1))) (some false)) (l7 (ieq a0.1 34) (some (ilt (Z5 .i64 a0.2 8) (o7 a1.2.1)))
 (l7 (ieq a0.1 35) (some a1.2.2.2.2.2) (l9 (l7 (ieq a0.1 36) (some (ieq a0.1 36)) (l7 (ieq a0.1 37) (some (ieq a0.1 37)) (l7 (ieq a0.1
 38) (some (ieq a0.1 38)) (some (ieq a0.1 39))))) fun x=>l7 x (l7 a1.2.2.2.2.2 (l7 (ile 0 a0.2) (some (ilt a0.2 (o7
 a1.2.2.2.2.1))) (some false)) (some false)) (some true)))))))
def lh (a0:Int):Option Bool:=l7 (ieq a0 2) (some true) (l7 (ieq a0 3) (some true) (some (ieq a0 4)))
def gu (a0:Int):Option Bool:=l9 (lh a0) fun x=>l7 x (some true) (some (ieq a0 5))
def aI (a0:A7) (a1:D8):Option (A7×Bool):=l9 (l7 (ieq a0.1 6) (some (6,Z5 .i64 a0.2 16)) (l7 (ieq
 a0.1 7) (l9 (lat a1.2.2.1 a0.2) fun x=>some x) (l7 (ieq a0.1 8) (l9 (lat a1.2.2.2.1 a0.2) fun x=>some x) (l7 (ieq
 a0.1 9) (l9 (Y1 5) fun x=>some x) (l7 (ieq a0.1 35) (l9 (Y1 2) fun x=>some x) (l9 (l7 (ieq
 a0.1 36) (some (ieq a0.1 36)) (l7 (ieq a0.1 37) (some (ieq a0.1 37)) (l7 (ieq a0.1 38) (some (ieq a0.1 38)) (some (ieq a0.1 39))))) fun(x:
 Bool)=>l7 x (l9 (lat a1.2.2.2.2.1 a0.2) fun x=>some x) (l9 (Y1 a0.1) fun x=>some x))))))) fun x
 =>l9 (U5 x a1.1) fun x_1=>l7 (ieq a0.1 36) (l7 x_1 (l7 (ieq x.1 2) (some (x,true)) (some (x,ieq x.1 3))) (some
 (x,false))) (l7 (ieq a0.1 37) (l7 (ieq a0.1 37) (l7 x_1 (some (x,ieq x.1 1)) (some (x,false))) (l7 (ieq a0.1 39) (l7 x_1 (l9
 (gu x.1) fun x_2=>some (x,x_2)) (some (x,false))) (some (x,x_1)))) (l7 (ieq a0.1 38) (l7 x_1 (some (x,ieq x.1 1))
 (some (x,false))) (l7 (ieq a0.1 39) (l7 x_1 (l9 (gu x.1) fun x_2=>some (x,x_2)) (some (x,false))) (some (x,
 x_1)))))
def ja (a0:A7) (a1:A7) (a2:D8):Option (A7×Bool):=l7 (ieq a0.1 10) (l9 (lh a1.1) fun x
 =>some (a1,x)) (l7 (ieq a0.1 25) (some (a1,ieq a1.1 1)) (l9 (l7 (ieq a0.1 31) (some (ieq a0.1 31)) (some (ieq a0.1 32))) fun x
 =>l7 x (l9 (Y1 2) fun x=>some (x,ieq a1.1 5)) (l7 (ieq a0.1 33) (l9 (lat a2.2.1 a0.2) fun x=>l9
 (U5 x.2.1 a2.1) fun x_1=>l7 x_1 (l9 (U5 x.2.2.1 a2.1) fun x_2=>l7 x_2 (some (x.2.2.1,P6
 (ieq a1.1 x.2.1.1) (ieq a1.2 x.2.1.2))) (some (x.2.2.1,false))) (some (x.2.2.1,false))) (l9 (lat a2.2.1 (Z5 .i64 a0.2 8)) fun(x:
 V7)=>l7 (ieq a1.1 3) (l9 (Y1 3) fun x_1=>l7 (P6 (ieq x.2.1.1 x_1.1) (ieq x.2.1.2 x_1.2)) (l9 (Y1 4)
 fun x_2=>some (a1,P6 (ieq x.2.2.1.1 x_2.1) (ieq x.2.2.1.2 x_2.2))) (some (a1,false))) (some (a1,false))))))
def La (a0:Int) (a1:Int) (a2:Int):Option (A7×Bool):=l7 (ieq a0 13) (l9 (Y1 a1) fun x=>l7 (ieq a2
 2) (l7 (ieq a1 2) (some (x,true)) (some (x,ieq a1 3))) (some (x,false))) (l7 (ieq a0 14) (l9 (Y1 a1) fun x=>l7
 (ieq a2 4) (l7 (ieq a1 3) (some (x,true)) (some (x,ieq a1 4))) (some (x,false))) (l7 (ieq a1 3) (l7 (ieq a2 3) (l9 (Y1 4) fun
 (x:A7)=>some (x,true)) (l9 (Y1 a1) fun x=>l7 (ieq a2 2) (l7 (ieq a1 2) (some (x,true)) (some (x,ieq a1 3)))
 (some (x,false)))) (l9 (Y1 a1) fun x=>l7 (ieq a2 2) (l7 (ieq a1 2) (some (x,true)) (some (x,ieq a1 3))) (some (x,
 false)))))
def lg (a0:Int) (a1:A7) (a2:A7):Option (A7×Bool):=l9 (l9 (l7 (ieq a0 11) (some (ieq a0 11)) (some (ieq a0
 12))) fun x=>l7 x (l7 (P6 (ieq a1.1 a2.1) (ieq a1.2 a2.2)) (l9 (lh a1.1) fun x=>some (.inr (a1,x)))
 (some (.inr (a1,false)))) (l9 (l7 (ieq a0 13) (some (ieq a0 13)) (l7 (ieq a0 14) (some (ieq a0 14)) (some (ieq a0 15)))) fun x
 =>l7 x (l9 (La a0 a1.1 a2.1) fun x=>some (.inr x)) (l7 (ieq a0 16) (l7 (ieq a1.1 3) (some (.inr (a1,
 ieq a2.1 3))) (some (.inr (a1,false)))) (l9 (l7 (ieq a0 17) (some (ieq a0 17)) (some (ieq a0 18))) fun x=>l7 x (l7 (P6
 (ieq a1.1 a2.1) (ieq a1.2 a2.2)) (l9 (gu a1.1) fun x=>some (.inr (a1,x))) (some (.inr (a1,false)))) (l9 (l7
 (ieq a0 19) (some (ieq a0 19)) (some (ieq a0 20))) fun x=>l7 x (l9 (Y1 1) fun x=>some (.inr (x,P6 (ieq
 a1.1 a2.1) (ieq a1.2 a2.2)))) (l9 (l7 (ieq a0 21) (some (ieq a0 21)) (some (ieq a0 22))) fun x=>l7 x (l9 (Y1 1) fun(x
 :A7)=>l7 (P6 (ieq a1.1 a2.1) (ieq a1.2 a2.2)) (l9 (gu a1.1) fun x_1=>some (.inr (x,x_1))) (some (.inr (x,
 false)))) (l7 (ieq a0 23) (l7 (ieq a0 23) (l7 (ieq a1.1 1) (some (.inr (a1,ieq a2.1 1))) (some (.inr (a1,false)))) (l7 (ieq a0
 27) (l7 (ieq a0 27) (l7 (ieq a1.1 5) (some (.inr (a1,ieq a2.1 2))) (some (.inr (a1,false)))) (some (.inl (0,0)))) (l7 (ieq a0
 28) (l7 (ieq a1.1 5) (some (.inr (a1,ieq a2.1 2))) (some (.inr (a1,false)))) (some (.inl (0,0)))))) (l7 (ieq a0 24) (l7 (ieq
 a1.1 1) (some (.inr (a1,ieq a2.1 1))) (some (.inr (a1,false)))) (l7 (ieq a0 27) (l7 (ieq a0 27) (l7 (ieq a1.1 5) (some (.inr (a1,
 ieq a2.1 2))) (some (.inr (a1,false)))) (some (.inl (0,0)))) (l7 (ieq a0 28) (l7 (ieq a1.1 5) (some (.inr (a1,ieq a2.1 2))) (some
 (.inr (a1,false)))) (some (.inl (0,0))))))))))))) fun o=>I7 o (fun(x:A7)=>l9 (Y1 2) fun(x:
 A7)=>l7 (ieq a1.1 5) (some (x,ieq a2.1 5)) (some (x,false))) fun r=>some r
def kZ (a0:A7) (a1:List A7) (a2:D8):Option (A7×Int):=l9 (l7 (C9 (ieq a0.2 0)) (l9 (X3
 a0.1) fun x=>l7 (C9 x) (some (.inr ((0,0),2))) (some (.inl (0,0)))) (some (.inl (0,0)))) fun o
 =>I7 o (fun(x:A7)=>l9 (fM a0 a2) fun x=>l7 (C9 x) (some ((0,0),3)) (l9 (iL a0 a2) fun(x:
 Bool)=>l7 (C9 x) (some ((0,0),6)) (l7 (ieq (o7 a1) 0) (l9 (aI a0 a2) fun x=>l7 (C9 x.2) (some ((0,
 0),8)) (some (x.1,0))) (l7 (ieq (o7 a1) 1) (l9 (lat a1 0) fun x=>l9 (ja a0 x a2) fun x=>l7
 (C9 x.2) (some ((0,0),8)) (some (x.1,0))) (l7 (ieq (o7 a1) 2) (l9 (lat a1 0) fun x=>l9 (lat a1 1) fun x_1=>
 l9 (lg a0.1 x x_1) fun x=>l7 (C9 x.2) (some ((0,0),8)) (some (x.1,0))) (l9 (lat a1 1) fun x=>
 l9 (lat a1 0) fun x_1=>l7 (ieq x_1.1 1) (l9 (lat a1 1) fun x_2=>l9 (lat a1 2) fun x_3=>l7 (C9
 (P6 (ieq x_2.1 x_3.1) (ieq x_2.2 x_3.2))) (some ((0,0),8)) (some (x,0))) (l7 (C9 false) (some ((0,0),8)) (some (x,0))))))))) fun(r:
 A7×Int)=>some r
abbrev c0j:Ty:=y27
end
end Gt
