import Derived.Test.YtcfakchpmpajeaaGreatDoorT1
set_option linter.all false
open Go Go.GP
namespace Gt
set_option maxRecDepth 100000
noncomputable section
def Nk (f:Func):Code:=match f.body with | some c=>c | none=> .skip
abbrev mkS (ps:List MG) (rt:Ret) (F:I9 ps→Option rt.den):FSpec:=⟨ps,rt.rs.map (·.2),rt.outs.map (·.2),F⟩
abbrev lfA:Ann:=.leaf
abbrev diM:M:=.dat (.int .i64)
abbrev oiM:M:=.own (.int .i64)
abbrev dbM:M:=.dat .bool
abbrev uiM:MG:=(false,diM)
abbrev ubM:MG:=(false,dbM)
abbrev uoM:MG:=(false,oiM)
abbrev y0:Ty:=.prod .str (.sl .str)
abbrev y1:Ty:=.sl y0
abbrev y2:Ty:=.prod (.int .i64) (.int .i64)
abbrev y3:Ty:=.prod (.int .i64) y2
abbrev y4:Ty:=.prod y2 y3
abbrev y5:Ty:=.sl y4
abbrev y6:Ty:=.prod y2 y5
abbrev y7:Ty:=.prod y2 y6
abbrev y8:Ty:=.prod .str y7
abbrev y9:Ty:=.sl y8
abbrev y10:Ty:=.prod .str y2
abbrev y11:Ty:=.sl y10
abbrev y12:Ty:=.sl y2
abbrev y13:Ty:=.prod y12 .str
abbrev y14:Ty:=.prod y12 y13
abbrev y15:Ty:=.prod y2 y14
abbrev y16:Ty:=.prod (.int .i64) y15
abbrev y17:Ty:=.prod (.int .i64) y16
abbrev y18:Ty:=.prod (.int .i64) y17
abbrev y19:Ty:=.prod .str y18
abbrev y20:Ty:=.sl y19
abbrev y21:Ty:=.prod y11 y20
abbrev y22:Ty:=.prod y11 y21
abbrev y23:Ty:=.prod (.int .i64) y22
abbrev y24:Ty:=.prod .str y23
abbrev y25:Ty:=.sl y24
abbrev y26:Ty:=.prod y9 y25
abbrev y27:Ty:=.prod y1 y26
abbrev y28:Ty:=.sl y3
abbrev y29:Ty:=.sl y28
abbrev y30:Ty:=.prod y28 y29
abbrev y31:Ty:=.prod (.int .i64) y30
abbrev y32:Ty:=.prod (.int .i64) y3
abbrev y33:Ty:=.prod (.int .i64) y32
abbrev y34:Ty:=.prod (.int .i64) y33
abbrev y35:Ty:=.prod (.int .i64) y34
abbrev y36:Ty:=.prod (.int .i64) y35
abbrev y37:Ty:=.sl y36
abbrev y38:Ty:=.sl (.int .i64)
abbrev y39:Ty:=.prod y3 (.int .i64)
abbrev y40:Ty:=.sl (.ent true true y2 y39)
abbrev y41:Ty:=.prod y40 y32
abbrev y42:Ty:=.prod y31 y41
abbrev y43:Ty:=.prod (.int .i64) y42
abbrev y44:Ty:=.prod y27 y43
abbrev y45:Ty:=.prod y37 y44
abbrev y46:Ty:=.prod y28 y38
abbrev y47:Ty:=.sl y46
abbrev y48:Ty:=.prod y38 y47
abbrev y49:Ty:=.prod y28 y48
abbrev y50:Ty:=.prod y12 y9
abbrev y51:Ty:=.prod y29 y50
abbrev y52:Ty:=.prod y28 y51
abbrev y53:Ty:=.prod y28 y52
abbrev y54:Ty:=.prod (.int .i64) y53
abbrev y55:Ty:=.sl (.ent true true y2 y3)
abbrev y56:Ty:=.prod (.sl .bool) (.sl .bool)
abbrev y57:Ty:=.prod y24 y56
abbrev y58:Ty:=.prod y24 y57
abbrev y59:Ty:=.sl y38
abbrev y60:Ty:=.prod y38 y54
abbrev y61:Ty:=.prod y12 y60
abbrev y62:Ty:=.prod y12 .bool
abbrev y63:Ty:=.prod y12 y62
abbrev y64:Ty:=.prod y12 y63
abbrev y65:Ty:=.prod y9 y64
abbrev y66:Ty:=.prod y1 y65
abbrev y67:Ty:=.prod y38 y38
abbrev y68:Ty:=.prod y38 y67
def tt:List (Nat×TI):=[
 (3,⟨1,8,(.int .i64),some (.int .i64),[.i .i64 0]⟩),
 (4,⟨1,1,.bool,some .bool,[.b false]⟩),
 (5,⟨1,1,(.int .u8),some (.int .u8),[.i .u8 0]⟩),
 (9,⟨1,16,.str,some .str,[.s []]⟩),
 (22,⟨1,24,(.sl 58),some y1,[.nl]⟩),
 (23,⟨1,24,(.sl 63),some y9,[.nl]⟩),
 (24,⟨1,24,(.sl 50),some y25,[.nl]⟩),
 (26,⟨3,72,(.struct [(22,0),(23,1),(24,2)]),some y27,[.nl,.nl,.nl]⟩),
 (27,⟨1,24,(.sl 41),some y28,[.nl]⟩),
 (28,⟨1,24,(.sl 27),some y29,[.nl]⟩),
 (30,⟨3,56,(.struct [(3,0),(27,1),(28,2)]),some y31,[.i .i64 0,.nl,.nl]⟩),
 (34,⟨1,24,(.sl 46),some y37,[.nl]⟩),
 (35,⟨1,8,(.int .i64),some (.int .i64),[.i .i64 0]⟩),
 (37,⟨4,32,(.struct [(35,0),(3,1),(3,2),(3,3)]),some y32,[.i .i64 0,.i .i64 0,.i .i64 0,.i .i64 0]⟩),
 (41,⟨3,24,(.struct [(3,0),(3,1),(3,2)]),some y3,[.i .i64 0,.i .i64 0,.i .i64 0]⟩),
 (46,⟨8,64,(.struct [(3,0),(3,1),(3,2),(3,3),(3,4),(41,5)]),some y36,[.i .i64 0,.i .i64 0,.i .i64 0,.i .i64 0,.i .i64 0,.i .i64 0,.i .i64 0,.i .i64 0]⟩),
 (47,⟨1,24,(.sl 101),some y11,[.nl]⟩),
 (48,⟨1,24,(.sl 105),some y20,[.nl]⟩),
 (50,⟨5,96,(.struct [(9,0),(3,1),(47,2),(47,3),(48,4)]),some y24,[.s [],.i .i64 0,.nl,.nl,.nl]⟩),
 (52,⟨1,24,(.sl 3),some y38,[.nl]⟩),
 (56,⟨1,24,(.sl 9),some (.sl .str),[.nl]⟩),
 (58,⟨2,40,(.struct [(9,0),(56,1)]),some y0,[.s [],.nl]⟩),
 (60,⟨2,16,(.struct [(3,0),(3,1)]),some y2,[.i .i64 0,.i .i64 0]⟩),
 (61,⟨1,24,(.sl 232),some y5,[.nl]⟩),
 (63,⟨6,72,(.struct [(9,0),(60,1),(60,3),(61,5)]),some y8,[.s [],.i .i64 0,.i .i64 0,.i .i64 0,.i .i64 0,.nl]⟩),
 (67,⟨2,16,(.struct [(3,0),(3,1)]),some y2,[.i .i64 0,.i .i64 0]⟩),
 (68,⟨1,24,(.sl 67),some y12,[.nl]⟩),
 (73,⟨1,8,(.map 80 109),some y40,[.sl (.ent true true y2 y39) []]⟩),
 (75,⟨1,24,(.struct [(34,0)]),some y37,[.nl]⟩),
 (77,⟨13,200,(.struct [(75,0),(26,1),(3,4),(30,5),(73,8),(37,9)]),some y45,[.nl,.nl,.nl,.nl,.i .i64 0,.i .i64 0,.nl,.nl,.sl (.ent true true y2 y39) [],.i .i64 0,.i .i64 0,.i .i64 0,.i .i64 0]⟩),
 (80,⟨2,16,(.struct [(3,0),(3,1)]),some y2,[.i .i64 0,.i .i64 0]⟩),
 (85,⟨1,24,(.sl 131),some y47,[.nl]⟩),
 (87,⟨3,72,(.struct [(27,0),(52,1),(85,2)]),some y49,[.nl,.nl,.nl]⟩),
 (88,⟨1,24,(.sl 60),some y12,[.nl]⟩),
 (90,⟨6,128,(.struct [(3,0),(27,1),(27,2),(28,3),(88,4),(23,5)]),some y54,[.i .i64 0,.nl,.nl,.nl,.nl,.nl]⟩),
 (93,⟨1,8,(.map 80 41),some y55,[.sl (.ent true true y2 y3) []]⟩),
 (101,⟨3,32,(.struct [(9,0),(60,1)]),some y10,[.s [],.i .i64 0,.i .i64 0]⟩),
 (103,⟨2,16,(.struct [(3,0),(3,1)]),some y2,[.i .i64 0,.i .i64 0]⟩),
 (105,⟨9,120,(.struct [(9,0),(3,1),(3,2),(3,3),(103,4),(68,6),(68,7),(9,8)]),some y19,[.s [],.i .i64 0,.i .i64 0,.i .i64 0,.i .i64 0,.i .i64 0,.nl,.nl,.s []]⟩),
 (109,⟨4,32,(.struct [(41,0),(3,3)]),some y39,[.i .i64 0,.i .i64 0,.i .i64 0,.i .i64 0]⟩),
 (113,⟨1,24,(.sl 116),some y12,[.nl]⟩),
 (116,⟨2,16,(.struct [(3,0),(3,1)]),some y2,[.i .i64 0,.i .i64 0]⟩),
 (119,⟨4,32,(.struct [(35,0),(3,1),(3,2),(3,3)]),some y32,[.i .i64 0,.i .i64 0,.i .i64 0,.i .i64 0]⟩),
 (123,⟨1,24,(.sl 4),some (.sl .bool),[.nl]⟩),
 (125,⟨12,240,(.struct [(50,0),(50,5),(123,10),(123,11)]),some y58,[.s [],.i .i64 0,.nl,.nl,.nl,.s [],.i .i64 0,.nl,.nl,.nl,.nl,.nl]⟩),
 (131,⟨2,48,(.struct [(27,0),(52,1)]),some y46,[.nl,.nl]⟩),
 (134,⟨1,8,(.int .u64),some (.int .u64),[.i .u64 0]⟩),
 (143,⟨1,16,.other,none,[]⟩),
 (165,⟨1,24,(.sl 52),some y59,[.nl]⟩),
 (186,⟨1,8,(.int .u64),some (.int .u64),[.i .u64 0]⟩),
 (206,⟨1,8,(.ptr 207),none,[]⟩),
 (207,⟨1,24,(.sl 3),some y38,[.nl]⟩),
 (214,⟨8,176,(.struct [(68,0),(52,1),(90,2)]),some y61,[.nl,.nl,.i .i64 0,.nl,.nl,.nl,.nl,.nl]⟩),
 (232,⟨5,40,(.struct [(103,0),(3,2),(3,3),(3,4)]),some y4,[.i .i64 0,.i .i64 0,.i .i64 0,.i .i64 0,.i .i64 0]⟩),
 (246,⟨6,128,(.struct [(22,0),(23,1),(88,2),(88,3),(88,4),(4,5)]),some y66,[.nl,.nl,.nl,.nl,.nl,.b false]⟩),
 (263,⟨3,72,(.struct [(52,0),(52,1),(52,2)]),some y68,[.nl,.nl,.nl]⟩),
 (314,⟨12,96,(.arr 12 3),none,[.i .i64 0,.i .i64 0,.i .i64 0,.i .i64 0,.i .i64 0,.i .i64 0,.i .i64 0,.i .i64 0,.i .i64 0,.i .i64 0,.i .i64 0,.i .i64 0]⟩)]
def eqs:List (Nat×List Ty):=[(37,[(.int .i64),(.int .i64),(.int .i64),(.int .i64)]),(41,[(.int .i64),(.int .i64),(.int .i64)]),(46,[(.int .i64),(.int .i64),(.int .i64),(.int .i64),(.int .i64),(.int .i64),(.int .i64),(.int .i64)]),(60,[(.int .i64),(.int .i64)]),(80,[(.int .i64),(.int .i64)]),(116,[(.int .i64),(.int .i64)])]
def gl:List (Nat×(t:Ty)×List t.den):=[(2,⟨.int .i64,[31,28,31,30,31,30,31,31,30,31,30,31]⟩),(1,⟨.int .u64,[1,10,100,1000,10000,100000,1000000,10000000,100000000,1000000000,10000000000,100000000000,1000000000000,10000000000000,100000000000000,1000000000000000,10000000000000000,100000000000000000,1000000000000000000,10000000000000000000]⟩)]
abbrev x8:Type:=Ty.den y2
abbrev E5:Type:=Ty.den y3
abbrev iU:Type:=Ty.den y0
abbrev gB:Type:=Ty.den y10
abbrev F6:Type:=Ty.den y32
abbrev A7:Type:=Ty.den y39
abbrev yT:Type:=Ty.den y4
abbrev Z9:Type:=Ty.den y68
abbrev AX:Type:=Ty.den y46
abbrev Bv:Type:=Ty.den y31
abbrev o6:Type:=Ty.den y36
abbrev ja:Type:=Ty.den y8
abbrev uC:Type:=Ty.den y49
abbrev G7:Type:=Ty.den y37
abbrev bW:Type:=Ty.den y19
abbrev G8:Type:=Ty.den y66
abbrev kJ:Type:=Ty.den y54
abbrev E8:Type:=Ty.den y24
abbrev I5:Type:=Ty.den y61
abbrev U4:Type:=Ty.den y58
abbrev iq:Type:=Ty.den y27
abbrev x9:Type:=Ty.den y45
def a4f:List MG:=[(false,(.dat y12))]
def a5l:Ret:=⟨[(.cell 2 26,(true,(.pair (.dat y1) (.pair (.dat y9) (.owns (.pair (.dat .str) (.pair diM (.pair (.dat y11) (.pair (.dat y11) (.own y19))))))))))],[]⟩
def e16:Env:=⟨22,eqs,tt,gl,[],[(24,(.pair (.dat .str) (.pair diM (.pair (.dat y11) (.pair (.dat y11) (.own y19))))))],[],[],[],[]⟩
def a8N:Ann:=.leaf
def vU (a0:List x8):Option iq:=some ([],[],[([104,111,117,115,101],-1,[([97],3,0)],[([100],3,0)],[([98,97,115,
 101],0,-1,0,(0,109573),[],a0,[])])])
def s16:FSpec:=mkS a4f a5l fun x=>vU x
def Ub:List MG:=[(false,(.dat (.int .u8)))]
def Wy:Ret:=⟨[(.tmp 2,ubM)],[]⟩
def b0d:Env:=⟨9,eqs,tt,gl,[],[],[],[],[],[]⟩
def a1T:Ann:=.leaf
def lS (a0:Int):Option Bool:=l7 (ile 97 a0) (some (ile a0 122)) (some false)
def ZL:FSpec:=mkS Ub Wy fun x=>lS x
def Uz:List MG:=[(false,(.dat (.int .u8)))]
def WW:Ret:=⟨[(.tmp 2,ubM)],[]⟩
def b0z:Env:=⟨9,eqs,tt,gl,[],[],[],[],[],[]⟩
def a2p:Ann:=.leaf
def sH (a0:Int):Option Bool:=l7 (ile 48 a0) (some (ile a0 57)) (some false)
def a6M:FSpec:=mkS Uz WW fun x=>sH x
def Uc:List MG:=[(false,(.dat .str))]
def WA:Ret:=⟨[(.tmp 2,uiM)],[]⟩
def b0e:Env:=⟨29,eqs,tt,gl,[(128,ZL),(162,a6M)],[],[],[],[],[]⟩
def a1U:Ann:=.seq lfA (.seq lfA (.seq (.blk (.loop [(3,28)] ⟨[(3,uiM)],[]⟩ 0 ⟨[(3,uiM)],[]⟩ lfA)) lfA))
def mO (a0:List UInt8):Option Int:=l9 (O7 (fun(x:Int)=>l7 (ilt x (o7 a0)) (l9 (sat a0 x) fun x_1=>
 l9 (lS x_1) fun x_2=>l7 x_2 (some (.inl (o8 .i64 x 1))) (l9 (sat a0 x) fun x_3=>l9
 (sH x_3) fun x_4=>l7 x_4 (some (.inl (o8 .i64 x 1))) (l9 (sat a0 x) fun x_5=>l7 (ieq x_5 95)
 (some (.inl (o8 .i64 x 1))) (some (.inr x))))) (some (.inr x))) 0) fun y=>some y
def a6x:FSpec:=mkS Uc WA fun x=>mO x
def Ud:List MG:=[(false,(.dat .str))]
def WB:Ret:=⟨[(.tmp 2,ubM)],[]⟩
def b0f:Env:=⟨60,eqs,tt,gl,[],[],[],[],[],[]⟩
def a1V:Ann:=.seq lfA (.seq (.seq lfA (.blk (.seq (.join [(4,60)] ⟨[(4,ubM)],[]⟩ lfA) lfA))) lfA)
def qm (a0:List UInt8):Option Bool:=l9 (l7 (seq a0 [105,102]) (some (seq a0 [105,102])) (l7 (seq a0 [116,104,101,110])
 (some (seq a0 [116,104,101,110])) (l7 (seq a0 [101,108,115,101]) (some (seq a0 [101,108,115,101])) (l7 (seq a0 [111,114]) (some (seq
 a0 [111,114])) (l7 (seq a0 [97,110,100]) (some (seq a0 [97,110,100])) (l7 (seq a0 [110,111,116]) (some (seq a0 [110,111,116])) (l7
 (seq a0 [116,114,117,101]) (some (seq a0 [116,114,117,101])) (l7 (seq a0 [102,97,108,115,101]) (some (seq a0 [102,97,108,115,101]))
 (l7 (seq a0 [116,111,100,97,121]) (some (seq a0 [116,111,100,97,121])) (l7 (seq a0 [115,104,97,114,101]) (some (seq a0 [115,104,
 97,114,101])) (l7 (seq a0 [100,105,118]) (some (seq a0 [100,105,118])) (l7 (seq a0 [114,111,117,110,100]) (some (seq a0 [114,111,
 117,110,100])) (l7 (seq a0 [109,105,110]) (some (seq a0 [109,105,110])) (l7 (seq a0 [109,97,120]) (some (seq a0 [109,97,120])) (l7
 (seq a0 [112,108,117,115]) (some (seq a0 [112,108,117,115])) (l7 (seq a0 [109,111,110,116,104,115]) (some (seq a0 [109,111,110,116,
 104,115])) (l7 (seq a0 [100,97,121,115]) (some (seq a0 [100,97,121,115])) (l7 (seq a0 [121,101,97,114,115]) (some (seq a0 [121,101,
 97,114,115])) (l7 (seq a0 [121,101,97,114]) (some (seq a0 [121,101,97,114])) (l7 (seq a0 [109,111,110,116,104]) (some (seq a0 [109,
 111,110,116,104])) (l7 (seq a0 [116,97,98]) (some (seq a0 [116,97,98])) (l7 (seq a0 [98,97,110,100]) (some (seq a0 [98,97,110,
 100])) (l7 (seq a0 [99,111,117,110,116]) (some (seq a0 [99,111,117,110,116])) (l7 (seq a0 [115,117,109]) (some (seq a0 [115,117,
 109])) (l7 (seq a0 [97,108,108]) (some (seq a0 [97,108,108])) (l7 (seq a0 [97,110,121]) (some (seq a0 [97,110,121])) (l7 (seq a0
 [109,111,115,116]) (some (seq a0 [109,111,115,116])) (l7 (seq a0 [101,110,117,109]) (some (seq a0 [101,110,117,109])) (l7 (seq a0
 [116,97,98,108,101]) (some (seq a0 [116,97,98,108,101])) (l7 (seq a0 [114,111,119]) (some (seq a0 [114,111,119])) (l7 (seq a0 [115,
 99,111,112,101]) (some (seq a0 [115,99,111,112,101])) (l7 (seq a0 [109,101,109,98,101,114,115]) (some (seq a0 [109,101,109,98,
 101,114,115])) (l7 (seq a0 [105,110,112,117,116]) (some (seq a0 [105,110,112,117,116])) (l7 (seq a0 [100,101,102]) (some (seq a0
 [100,101,102])) (l7 (seq a0 [114,117,108,101]) (some (seq a0 [114,117,108,101])) (l7 (seq a0 [111,102]) (some (seq a0 [111,102]))
 (l7 (seq a0 [111,118,101,114]) (some (seq a0 [111,118,101,114])) (l7 (seq a0 [112,114,105,111]) (some (seq a0 [112,114,105,111]))
 (l7 (seq a0 [102,114,111,109]) (some (seq a0 [102,114,111,109])) (l7 (seq a0 [116,111]) (some (seq a0 [116,111])) (l7 (seq a0 [101,
 110,100]) (some (seq a0 [101,110,100])) (l7 (seq a0 [119,104,101,110]) (some (seq a0 [119,104,101,110])) (l7 (seq a0 [105,115]) (some
 (seq a0 [105,115])) (l7 (seq a0 [115,114,99]) (some (seq a0 [115,114,99])) (l7 (seq a0 [98,111,111,108]) (some (seq a0 [98,111,111,
 108])) (l7 (seq a0 [105,110,116]) (some (seq a0 [105,110,116])) (l7 (seq a0 [109,111,110,101,121]) (some (seq a0 [109,111,110,101,
 121])) (l7 (seq a0 [114,97,116,101]) (some (seq a0 [114,97,116,101])) (l7 (seq a0 [100,97,116,101]) (some (seq a0 [100,97,116,
 101])) (l7 (seq a0 [100,111,119,110]) (some (seq a0 [100,111,119,110])) (l7 (seq a0 [117,112]) (some (seq a0 [117,112])) (l7 (seq a0
 [122,101,114,111]) (some (seq a0 [122,101,114,111])) (l7 (seq a0 [97,119,97,121]) (some (seq a0 [97,119,97,121])) (l7 (seq a0 [104,
 97,108,102]) (some (seq a0 [104,97,108,102])) (some (seq a0 [101,118,101,110])))))))))))))))))))))))))))))))))))))))))))))))))))))))) fun(x
 :Bool)=>l7 x (some true) (some false)
def a6y:FSpec:=mkS Ud WB fun x=>qm x
def a4Z:List MG:=[(false,(.dat .str))]
def a6g:Ret:=⟨[(.tmp 2,ubM)],[]⟩
def e95:Env:=⟨27,eqs,tt,gl,[(128,ZL),(129,a6x),(130,a6y)],[],[],[],[],[]⟩
def a9I:Ann:=.leaf
def U1 (a0:List UInt8):Option Bool:=l7 (C9 (seq a0 [])) (l9 (sat a0 0) fun x=>l9 (lS x) fun(x:
 Bool)=>l7 x (l9 (mO a0) fun x=>l7 (ieq x (o7 a0)) (l7 (ile (o7 a0) 16) (l9 (qm a0) fun(x:
 Bool)=>some (C9 x)) (some false)) (some false)) (some false)) (some false)
def s95:FSpec:=mkS a4Z a6g fun x=>U1 x
def Ju:List MG:=[(true,(.dat y0)),(false,(.rp .str))]
def Kt:Ret:=⟨[(.tmp 3,ubM)],[]⟩
def YW:Env:=⟨8,eqs,tt,gl,[],[],[],[],[],[]⟩
def QZ:Ann:=.leaf
def sF (a0:iU) (a1:List UInt8):Option Bool:=some (seq a0.1 a1)
def Hz:FSpec:=mkS Ju Kt fun x=>sF x.1 x.2
def JE:List MG:=[(false,(.dat y1)),(false,(.fn 132 [.str]))]
def KE:Ret:=⟨[(.tmp 4,uiM)],[]⟩
def Zf:Env:=⟨19,eqs,tt,gl,[(132,Hz)],[],[],[],[],[]⟩
def Ru:Ann:=.seq lfA (.seq (.seq lfA (.blk (.loopR [(4,6),(8,19)] ⟨[(8,uiM)],[]⟩ 0 ⟨[],[]⟩ lfA))) lfA)
def au (a0:List iU) (a1:List UInt8):Option Int:=l9 (N7 (fun(x:Int)=>l7 (ilt x (o7 a0))
 (l9 (lat a0 x) fun x_1=>l9 (sF x_1 a1) fun x_2=>l7 x_2 (some (.rt x)) (some (.nx (o8 .i64 x
 1)))) (some (.ex ()))) 0) fun o=>J3 o (fun(y:PUnit)=>some (-1)) fun r=>some r
def Po:FSpec:=mkS JE KE fun x=>au x.1 x.2
def Jt:List MG:=[(false,(.dat y1)),(false,(.fn 132 [.str]))]
def Kr:Ret:=⟨[(.tmp 4,ubM)],[]⟩
def YV:Env:=⟨9,eqs,tt,gl,[(163,Po)],[],[],[],[],[]⟩
def QY:Ann:=.leaf
def X6 (a0:List iU) (a1:List UInt8):Option Bool:=l9 (au a0 a1) fun(x
 :Int)=>some (ile 0 x)
def OY:FSpec:=mkS Jt Kr fun x=>X6 x.1 x.2
def a5a:List MG:=[(false,(.dat y1)),(false,(.dat .str))]
def a6h:Ret:=⟨[(.tmp 4,ubM)],[]⟩
def e96:Env:=⟨8,eqs,tt,gl,[(132,Hz),(131,OY)],[],[],[],[],[]⟩
def a9J:Ann:=.leaf
def kZ (a0:List iU) (a1:List UInt8):Option Bool:=l9 (X6 a0 a1) fun x=>some x
def s96:FSpec:=mkS a5a a6h fun x=>kZ x.1 x.2
def Ux:List MG:=[(false,(.dat (.sl .str))),(false,(.dat .str))]
def WU:Ret:=⟨[(.tmp 4,uiM)],[]⟩
def b0x:Env:=⟨19,eqs,tt,gl,[],[],[],[],[],[]⟩
def a2n:Ann:=.seq lfA (.seq (.seq lfA (.blk (.loopR [(4,6),(8,19)] ⟨[(8,uiM)],[]⟩ 0 ⟨[],[]⟩ lfA))) lfA)
def dL (a0:List (List UInt8)) (a1:List UInt8):Option Int:=l9 (N7 (fun(x:Int)=>l7 (ilt x (o7 a0))
 (l9 (lat a0 x) fun x_1=>l7 (seq a1 x_1) (some (.rt x)) (some (.nx (o8 .i64 x 1)))) (some (.ex ())))
 0) fun o=>J3 o (fun(y:PUnit)=>some (-1)) fun r=>some r
def a6K:FSpec:=mkS Ux WU fun x=>dL x.1 x.2
def TY:List MG:=[(false,(.dat (.sl .str))),(false,(.dat .str))]
def Wu:Ret:=⟨[(.tmp 4,ubM)],[]⟩
def b0a:Env:=⟨9,eqs,tt,gl,[(160,a6K)],[],[],[],[],[]⟩
def a1Q:Ann:=.leaf
def bn (a0:List (List UInt8)) (a1:List UInt8):Option Bool:=l9 (dL a0 a1) fun x
 =>some (ile 0 x)
def a6v:FSpec:=mkS TY Wu fun x=>bn x.1 x.2
def a4X:List MG:=[(true,(.dat y27)),uiM,(true,(.dat y0))]
def a6e:Ret:=⟨[(.tmp 6,uiM),(.tmp 7,uiM)],[]⟩
def e93:Env:=⟨55,eqs,tt,gl,[(95,s95),(96,s96),(123,a6v)],[],[],[],[],[]⟩
def a9G:Ann:=.seq lfA (.seq lfA (.seq (.seq lfA (.blk (.loopR [(6,10),(36,55)] ⟨[(36,uiM)],[]⟩ 1 ⟨[],[]⟩ lfA))) lfA))
def su (a0:iq) (a1:Int) (a2:iU):Option x8:=l9 (U1 a2.1) fun x=>l7 (C9 x) (some (2,0))
 (l9 (kK a0.1 0 a1) fun x=>l9 (kZ x a2.1) fun x=>l7 x (some (7,0)) (l7 (ieq (o7 a2.2) 0) (some
 (5,0)) (l7 (ilt 16 (o7 a2.2)) (some (4,116)) (l9 (N7 (fun(x:Int)=>l7 (ilt x (o7 a2.2)) (l9 (lat a2.2 x) fun x_1=>l9 (U1 x_1) fun x_2=>l7 (C9 x_2) (some (.rt (2,o8 .i64 100 x))) (l9 (kK a2.2 0 x) fun
 (x_3:List (List UInt8))=>l9 (bn x_3 x_1) fun x_4=>l7 x_4 (some (.rt (7,o8 .i64 100 x)))
 (some (.nx (o8 .i64 x 1))))) (some (.ex ()))) 0) fun o=>J3 o (fun(y:PUnit)=>some (0,0)) fun(r:
 x8)=>some r))))
def s93:FSpec:=mkS a4X a6e fun x=>su x.1 x.2.1 x.2.2
def a4I:List MG:=[(true,(.dat y27))]
def a5P:Ret:=⟨[(.cell 2 119,(true,(.dat y32)))],[]⟩
def e61:Env:=⟨35,eqs,tt,gl,[(93,s93)],[],[],[],[],[]⟩
def a9r:Ann:=.seq lfA (.seq lfA (.seq (.seq lfA (.blk (.loopR [(2,7),(15,34),(4000128,4000129)] ⟨[(2,(false,(.box (.dat y32)))),(15,uiM)],[]⟩ 0 ⟨[(2,(false,(.box (.dat y32))))],[]⟩ lfA))) lfA))
def qi (a0:iq):Option F6:=l7 (ilt 8 (o7 a0.1)) (some (4,1,8,0)) (l9 (N7 (fun(x:F6×Int)=>l7
 (ilt x.2 (o7 a0.1)) (l9 (lat a0.1 x.2) fun x_1=>l9 (su a0 x.2 x_1) fun x_2=>l7 (C9 (ieq x_2.1 0))
 (some (.rt (x_2.1,1,x.2,x_2.2))) (some (.nx (x.1,o8 .i64 x.2 1)))) (some (.ex x.1))) ((0,0,0,0),0)) fun o=>J3 o (fun(y:F6)=>some (0,0,0,0)) fun r=>some r)
def s61:FSpec:=mkS a4I a5P fun x=>qi x
def TS:List MG:=[(true,(.dat y2)),(false,(.dat y1))]
def Wl:Ret:=⟨[(.tmp 4,ubM)],[]⟩
def a9V:Env:=⟨28,eqs,tt,gl,[],[],[],[],[],[]⟩
def a1L:Ann:=.seq lfA (.seq (.seq lfA (.blk (.seq (.join [(7,13)] ⟨[(7,ubM)],[]⟩ lfA) lfA))) lfA)
def J7 (a0:x8) (a1:List iU):Option Bool:=l9 (l7 (ieq a0.1 1) (some (ieq a0.1 1)) (l7 (ieq a0.1 2) (some (ieq a0.1
 2)) (l7 (ieq a0.1 3) (some (ieq a0.1 3)) (l7 (ieq a0.1 4) (some (ieq a0.1 4)) (some (ieq a0.1 5)))))) fun x=>l7 x (some (ieq a0.2
 0)) (l7 (ieq a0.1 6) (l7 (ile 0 a0.2) (some (ilt a0.2 (o7 a1))) (some false)) (some false))
def Hw:FSpec:=mkS TS Wl fun x=>J7 x.1 x.2
def a5d:List MG:=[(true,(.dat y2)),(false,(.dat y1))]
def a6k:Ret:=⟨[(.tmp 4,uiM),(.tmp 5,uiM)],[]⟩
def e99:Env:=⟨30,eqs,tt,gl,[(118,Hw)],[],[],[],[],[]⟩
def a9M:Ann:=.leaf
def dU (a0:x8) (a1:List iU):Option x8:=l9 (J7 a0 a1) fun x=>l7 (C9 x) (some (0,-1)) (l7
 (ieq a0.1 1) (some (0,1)) (l7 (ieq a0.1 2) (some (-1000000000000,1000000000000)) (l7 (ieq a0.1 3) (some (-1000000000000000,
 1000000000000000)) (l7 (ieq a0.1 4) (some (-1000000000,1000000000)) (l7 (ieq a0.1 5) (some (0,109572)) (l9 (lat a1 a0.2) fun x
 =>some (0,D5 .i64 (o7 x.2) 1)))))))
def s99:FSpec:=mkS a5d a6k fun x=>dU x.1 x.2
def TZ:List MG:=[(true,(.dat y2))]
def Wv:Ret:=⟨[(.tmp 2,ubM)],[]⟩
def b0b:Env:=⟨18,eqs,tt,gl,[],[],[],[],[],[]⟩
def a1R:Ann:=.leaf
def eY (a0:x8):Option Bool:=l7 (ile 0 a0.1) (l7 (ile a0.1 a0.2) (some (ile a0.2 109573)) (some false)) (some false)
def SN:FSpec:=mkS TZ Wv fun x=>eY x
def UO:List MG:=[(true,(.dat y2))]
def Xl:Ret:=⟨[(.tmp 2,ubM)],[]⟩
def b0P:Env:=⟨12,eqs,tt,gl,[(124,SN)],[],[],[],[],[]⟩
def a2F:Ann:=.leaf
def gI (a0:x8):Option Bool:=l9 (eY a0) fun x=>l7 x (some (ilt a0.1 a0.2)) (some false)
def a6X:FSpec:=mkS UO Xl fun x=>gI x
def Uy:List MG:=[(true,(.dat y2)),(true,(.dat y2))]
def WV:Ret:=⟨[(.cell 4 103,(true,(.dat y2))),(.tmp 5,ubM)],[]⟩
def b0y:Env:=⟨34,eqs,tt,gl,[(189,a6X)],[],[],[],[],[]⟩
def a2o:Ann:=.leaf
def jg (a0:x8) (a1:x8):Option (x8×Bool):=l9 (gI a0) fun x=>l7 (C9 x) (some ((0,
 0),false)) (l9 (gI a1) fun x=>l7 (C9 x) (some ((0,0),false)) (l7 (ile (yD a0.2 a1.2) (lQ a0.1 a1.1))
 (some ((0,0),false)) (some ((lQ a0.1 a1.1,yD a0.2 a1.2),true))))
def a6L:FSpec:=mkS Uy WV fun x=>jg x.1 x.2
def Ua:List MG:=[(true,(.dat y4)),(true,(.dat y4))]
def Wx:Ret:=⟨[(.tmp 4,ubM)],[]⟩
def b0c:Env:=⟨29,eqs,tt,gl,[(161,a6L)],[],[],[],[],[]⟩
def a1S:Ann:=.leaf
def qU (a0:yT) (a1:yT):Option Bool:=l9 (jg a0.1 a1.1) fun x=>l7 x.2 (some (ilt (lQ
 a0.2.1 a1.2.1) (yD a0.2.2.1 a1.2.2.1))) (some false)
def a6w:FSpec:=mkS Ua Wx fun x=>qU x.1 x.2
def Js:List MG:=[(true,(.dat y4)),(false,(.rp y4))]
def Kq:Ret:=⟨[(.tmp 3,ubM)],[]⟩
def YU:Env:=⟨7,eqs,tt,gl,[(127,a6w)],[],[],[],[],[]⟩
def QX:Ann:=.leaf
def mZ (a0:yT) (a1:yT):Option Bool:=l9 (qU a0 a1) fun x=>some x
def Hy:FSpec:=mkS Js Kq fun x=>mZ x.1 x.2
def Jq:List MG:=[(false,(.dat y5)),(false,(.fn 126 [y4]))]
def JZ:Ret:=⟨[(.tmp 4,uiM),(.tmp 5,ubM)],[]⟩
def YS:Env:=⟨20,eqs,tt,gl,[(126,Hy)],[],[],[],[],[]⟩
def QV:Ann:=.seq lfA (.seq (.seq lfA (.blk (.loopR [(4,8),(10,20)] ⟨[(10,uiM)],[]⟩ 0 ⟨[],[]⟩ lfA))) lfA)
def jo (a0:List yT) (a1:yT):Option (Int×Bool):=l9 (N7 (fun(x:Int)=>l7 (ilt x (o7 a0)) (l9 (lat a0 x)
 fun x_1=>l9 (mZ x_1 a1) fun x_2=>l7 x_2 (some (.rt (x,true))) (some (.nx (o8 .i64 x 1))))
 (some (.ex ()))) 0) fun o=>J3 o (fun(y:PUnit)=>some (0,false)) fun r=>some r
def OW:FSpec:=mkS Jq JZ fun x=>jo x.1 x.2
def a4Y:List MG:=[(true,(.dat y8)),(false,(.dat y1))]
def a6f:Ret:=⟨[(.tmp 4,uiM),(.tmp 5,uiM)],[]⟩
def e94:Env:=⟨121,eqs,tt,gl,[(118,Hw),(99,s99),(124,SN),(126,Hy),(125,OW)],[],[],[],[],[]⟩
def a9H:Ann:=.seq lfA (.seq lfA (.seq (.joinR [(4,6),(18,30)] ⟨[],[]⟩ lfA) (.seq lfA (.seq lfA (.seq (.seq lfA (.blk (.loopR [(4,6),(10,14),(47,121)] ⟨[(47,uiM)],[]⟩ 0 ⟨[],[]⟩ (.seq lfA (.seq lfA (.seq (.blk (.seq lfA (.seq (.joinR [(4,6),(52,73)] ⟨[],[]⟩ lfA) (.seq (.joinR [(4,6),(73,98)] ⟨[],[]⟩ lfA) lfA)))) lfA)))))) lfA)))))
def qR (a0:ja) (a1:List iU):Option x8:=l7 (ilt 64 (o7 a0.2.2.2)) (some (64,4)) (l9 (l9 (J7
 a0.2.1 a1) fun x=>l7 (C9 x) (some (.inr (-1,8))) (l9 (J7 a0.2.2.1 a1) fun x=>l7 (C9 x) (some
 (.inr (-1,8))) (some (.inl ())))) fun o=>J3 o (fun(x:PUnit)=>l9 (dU a0.2.1 a1) fun x
 =>l9 (dU a0.2.2.1 a1) fun x_1=>l9 (N7 (fun(x_2:Int)=>l7 (ilt x_2 (o7 a0.2.2.2)) (l9 (lat a0.2.2.2 x_2)
 fun x_3=>l9 (l9 (eY x_3.1) fun x=>l7 (C9 x) (some (.inr (x_2,3))) (l7 (ieq x_3.1.1 x_3.1.2)
 (some (.inr (x_2,3))) (l7 (ile x_3.2.2.1 x_3.2.1) (some (.inr (x_2,3))) (some (.inl ()))))) fun o=>J3 o
 (fun(x_4:PUnit)=>l9 (l7 (ilt x_3.2.1 x.1) (some (.inr (x_2,3))) (l7 (ilt x.2 x_3.2.1) (some (.inr (x_2,3))) (l7 (ilt (D5
 .i64 x_3.2.2.1 1) x.1) (some (.inr (x_2,3))) (l7 (ilt x.2 (D5 .i64 x_3.2.2.1 1)) (some (.inr (x_2,3))) (some (.inl
 ())))))) fun o=>J3 o (fun(x:PUnit)=>l7 (ilt x_3.2.2.2 x_1.1) (some (.rt (x_2,3))) (l7 (ilt x_1.2
 x_3.2.2.2) (some (.rt (x_2,3))) (l9 (kK a0.2.2.2 0 x_2) fun x=>l9 (jo x x_3) fun x=>
 l7 x.2 (some (.rt (x_2,11))) (some (.nx (o8 .i64 x_2 1)))))) fun r=>some (.rt r)) fun r=>some (.rt
 r)) (some (.ex ()))) 0) fun o=>J3 o (fun(y:PUnit)=>some (0,0)) fun r=>some r) fun r=>
 some r)
def s94:FSpec:=mkS a4Y a6f fun x=>qR x.1 x.2
def Jw:List MG:=[(true,(.dat y8)),(false,(.rp .str))]
def Kv:Ret:=⟨[(.tmp 3,ubM)],[]⟩
def YY:Env:=⟨8,eqs,tt,gl,[],[],[],[],[],[]⟩
def Rh:Ann:=.leaf
def ql (a0:ja) (a1:List UInt8):Option Bool:=some (seq a0.1 a1)
def HY:FSpec:=mkS Jw Kv fun x=>ql x.1 x.2
def JF:List MG:=[(false,(.dat y9)),(false,(.fn 134 [.str]))]
def KF:Ret:=⟨[(.tmp 4,uiM)],[]⟩
def Zg:Env:=⟨19,eqs,tt,gl,[(134,HY)],[],[],[],[],[]⟩
def Rw:Ann:=.seq lfA (.seq (.seq lfA (.blk (.loopR [(4,6),(8,19)] ⟨[(8,uiM)],[]⟩ 0 ⟨[],[]⟩ lfA))) lfA)
def Y5 (a0:List ja) (a1:List UInt8):Option Int:=l9 (N7 (fun(x:Int)=>l7 (ilt x (o7 a0))
 (l9 (lat a0 x) fun x_1=>l9 (ql x_1 a1) fun x_2=>l7 x_2 (some (.rt x)) (some (.nx (o8 .i64
 x 1)))) (some (.ex ()))) 0) fun o=>J3 o (fun(y:PUnit)=>some (-1)) fun r=>some r
def Pq:FSpec:=mkS JF KF fun x=>Y5 x.1 x.2
def Jv:List MG:=[(false,(.dat y9)),(false,(.fn 134 [.str]))]
def Ku:Ret:=⟨[(.tmp 4,ubM)],[]⟩
def YX:Env:=⟨9,eqs,tt,gl,[(164,Pq)],[],[],[],[],[]⟩
def Rf:Ann:=.leaf
def V6 (a0:List ja) (a1:List UInt8):Option Bool:=l9 (Y5 a0 a1)
 fun x=>some (ile 0 x)
def OZ:FSpec:=mkS Jv Ku fun x=>V6 x.1 x.2
def a5b:List MG:=[(false,(.dat y9)),(false,(.dat .str))]
def a6i:Ret:=⟨[(.tmp 4,ubM)],[]⟩
def e97:Env:=⟨8,eqs,tt,gl,[(134,HY),(133,OZ)],[],[],[],[],[]⟩
def a9K:Ann:=.leaf
def nU (a0:List ja) (a1:List UInt8):Option Bool:=l9 (V6 a0 a1) fun x=>some x
def s97:FSpec:=mkS a5b a6i fun x=>nU x.1 x.2
def a4J:List MG:=[(true,(.dat y27))]
def a5Q:Ret:=⟨[(.cell 2 119,(true,(.dat y32)))],[]⟩
def e62:Env:=⟨68,eqs,tt,gl,[(94,s94),(95,s95),(96,s96),(97,s97)],[],[],[],[],[]⟩
def a9s:Ann:=.seq lfA (.seq lfA (.seq (.seq lfA (.blk (.loopR [(2,8),(16,67),(4000128,4000129)] ⟨[(2,(false,(.box (.dat y32)))),(16,uiM)],[]⟩ 0 ⟨[(2,(false,(.box (.dat y32))))],[]⟩ (.seq lfA (.seq lfA (.seq (.blk (.seq lfA (.seq lfA (.seq lfA (.seq (.join [(5,6),(30,62),(37000320,37000321)] ⟨[(5,(false,(.box (.dat y32))))],[]⟩ lfA) lfA))))) lfA)))))) lfA))
def oW (a0:iq):Option F6:=l7 (ilt 8 (o7 a0.2.1)) (some (4,2,8,0)) (l9 (N7 (fun(x:F6×Int)=>
 l7 (ilt x.2 (o7 a0.2.1)) (l9 (lat a0.2.1 x.2) fun x_1=>l9 (qR x_1 a0.1) fun x_2=>l9 (l9
 (U1 x_1.1) fun x_3=>l7 (C9 x_3) (some (2,2,x.2,0)) (l9 (kZ a0.1 x_1.1) fun x_4=>l7 x_4
 (some (7,2,x.2,0)) (l9 (kK a0.2.1 0 x.2) fun x_5=>l9 (nU x_5 x_1.1) fun x_6=>l7 x_6 (some (7,2,
 x.2,0)) (l7 (C9 (ieq x_2.2 0)) (l7 (C9 (ieq x_2.1 (-1))) (some (x_2.2,2,x.2,o8 .i64 100 x_2.1)) (some (x_2.2,2,x.2,0)))
 (some (0,2,x.2,0)))))) fun x_3=>l7 (C9 (ieq x_3.1 0)) (some (.rt x_3)) (some (.nx (x.1,o8 .i64 x.2 1))))
 (some (.ex x.1))) ((0,0,0,0),0)) fun o=>J3 o (fun(y:F6)=>some (0,0,0,0)) fun r
 =>some r)
def s62:FSpec:=mkS a4J a5Q fun x=>oW x
def Jz:List MG:=[(true,(.dat y24)),(false,(.rp y24))]
def Ky:Ret:=⟨[(.tmp 3,ubM)],[]⟩
def Za:Env:=⟨9,eqs,tt,gl,[],[],[],[],[],[]⟩
def Rj:Ann:=.leaf
def mM (a0:E8) (a1:E8):Option Bool:=some (seq a0.1 a1.1)
def Ia:FSpec:=mkS Jz Ky fun x=>mM x.1 x.2
def JG:List MG:=[(false,(.dat y25)),(false,(.fn 136 [y24]))]
def KG:Ret:=⟨[(.tmp 4,uiM)],[]⟩
def Zh:Env:=⟨19,eqs,tt,gl,[(136,Ia)],[],[],[],[],[]⟩
def Rx:Ann:=.seq lfA (.seq (.seq lfA (.blk (.loopR [(4,6),(8,19)] ⟨[(8,uiM)],[]⟩ 0 ⟨[],[]⟩ lfA))) lfA)
def Y4 (a0:List E8) (a1:E8):Option Int:=l9 (N7 (fun(x:Int)=>l7 (ilt x (o7 a0))
 (l9 (lat a0 x) fun x_1=>l9 (mM x_1 a1) fun x_2=>l7 x_2 (some (.rt x)) (some (.nx (o8
 .i64 x 1)))) (some (.ex ()))) 0) fun o=>J3 o (fun(y:PUnit)=>some (-1)) fun r=>some r
def Pv:FSpec:=mkS JG KG fun x=>Y4 x.1 x.2
def Jy:List MG:=[(false,(.dat y25)),(false,(.fn 136 [y24]))]
def Kw:Ret:=⟨[(.tmp 4,ubM)],[]⟩
def YZ:Env:=⟨9,eqs,tt,gl,[(165,Pv)],[],[],[],[],[]⟩
def Ri:Ann:=.leaf
def V5 (a0:List E8) (a1:E8):Option Bool:=l9 (Y4 a0 a1) fun
 (x:Int)=>some (ile 0 x)
def Pg:FSpec:=mkS Jy Kw fun x=>V5 x.1 x.2
def JH:List MG:=[(true,(.dat y10)),(false,(.rp y10))]
def KH:Ret:=⟨[(.tmp 3,ubM)],[]⟩
def Zi:Env:=⟨9,eqs,tt,gl,[],[],[],[],[],[]⟩
def Ry:Ann:=.leaf
def mJ (a0:gB) (a1:gB):Option Bool:=some (seq a0.1 a1.1)
def Ic:FSpec:=mkS JH KH fun x=>mJ x.1 x.2
def JL:List MG:=[(false,(.dat y11)),(false,(.fn 166 [y10]))]
def KN:Ret:=⟨[(.tmp 4,uiM)],[]⟩
def Zm:Env:=⟨19,eqs,tt,gl,[(166,Ic)],[],[],[],[],[]⟩
def RG:Ann:=.seq lfA (.seq (.seq lfA (.blk (.loopR [(4,6),(8,19)] ⟨[(8,uiM)],[]⟩ 0 ⟨[],[]⟩ lfA))) lfA)
def Y3 (a0:List gB) (a1:gB):Option Int:=l9 (N7 (fun(x:Int)=>l7 (ilt x (o7 a0))
 (l9 (lat a0 x) fun x_1=>l9 (mJ x_1 a1) fun x_2=>l7 x_2 (some (.rt x)) (some (.nx (o8
 .i64 x 1)))) (some (.ex ()))) 0) fun o=>J3 o (fun(y:PUnit)=>some (-1)) fun r=>some r
def Pz:FSpec:=mkS JL KN fun x=>Y3 x.1 x.2
def JI:List MG:=[(false,(.dat y11)),(false,(.fn 166 [y10]))]
def KI:Ret:=⟨[(.tmp 4,ubM)],[]⟩
def Zj:Env:=⟨9,eqs,tt,gl,[(190,Pz)],[],[],[],[],[]⟩
def Rz:Ann:=.leaf
def N8 (a0:List gB) (a1:gB):Option Bool:=l9 (Y3 a0 a1) fun
 (x:Int)=>some (ile 0 x)
def Px:FSpec:=mkS JI KI fun x=>N8 x.1 x.2
def Ue:List MG:=[(true,(.dat y27)),(true,(.dat y10)),(false,(.dat y11)),(false,(.dat y11))]
def WC:Ret:=⟨[(.tmp 8,uiM)],[]⟩
def b0g:Env:=⟨32,eqs,tt,gl,[(166,Ic),(95,s95),(167,Px),(118,Hw)],[],[],[],[],[]⟩
def a1W:Ann:=.leaf
def jX (a0:iq) (a1:gB) (a2:List gB) (a3:List gB):Option Int:=l9 (U1 a1.1) fun x=>
 l7 (C9 x) (some 2) (l9 (N8 a2 a1) fun x=>l7 x (some 7) (l9
 (N8 a3 a1) fun x=>l7 x (some 7) (l9 (J7 a1.2 a0.1) fun x=>l7 (C9
 x) (some 8) (some 0))))
def a6z:FSpec:=mkS Ue WC fun x=>jX x.1 x.2.1 x.2.2.1 x.2.2.2
def UA:List MG:=[(false,(.dat y11))]
def WX:Ret:=⟨[(.tmp 2,(false,(.own y2)))],[]⟩
def b0A:Env:=⟨19,eqs,tt,gl,[],[],[],[],[],[]⟩
def a2q:Ann:=.seq lfA (.seq lfA (.seq (.seq lfA (.blk (.loop [(3,4),(5,6),(8,18)] ⟨[(3,(false,(.own y2))),(8,uiM)],[]⟩ 0 ⟨[(3,(false,(.own y2)))],[]⟩ lfA))) lfA))
def gX (a0:List gB):Option (List x8):=l9 (O7 (fun(x:List x8×Int)=>l7 (ilt x.2 (o7 a0)) (l9 (lat a0
 x.2) fun x_1=>l9 (Y2 x.1 [x_1.2]) fun x_2=>some (.inl (x_2,o8 .i64 x.2 1))) (some (.inr x.1)))
 ([],0)) fun y=>some y
def a6N:FSpec:=mkS UA WX fun x=>gX x
def Uf:List MG:=[(true,(.dat y27)),uiM]
def WE:Ret:=⟨[(.cell 4 246,(true,(.dat y66)))],[]⟩
def b0h:Env:=⟨45,eqs,tt,gl,[(168,a6N)],[],[],[],[],[]⟩
def a1X:Ann:=.leaf
def jl (a0:iq) (a1:Int):Option G8:=l9 (lat a0.2.2 a1) fun x=>l9 (gX x.2.2.1) fun
 (x_1:List x8)=>l9 (gX x.2.2.2.1) fun x_2=>l7 (ile 0 x.2.1) (l7 (ilt x.2.1 (o7 a0.2.2)) (l9 (lat
 a0.2.2 x.2.1) fun x=>l9 (gX x.2.2.2.1) fun x=>some (a0.1,a0.2.1,x_1,x_2,x,true)) (some (a0.1,
 a0.2.1,x_1,x_2,[],false))) (some (a0.1,a0.2.1,x_1,x_2,[],false))
def a6A:FSpec:=mkS Uf WE fun x=>jl x.1 x.2
def JK:List MG:=[(true,(.dat y19)),(false,(.rp y19))]
def KL:Ret:=⟨[(.tmp 3,ubM)],[]⟩
def Zl:Env:=⟨9,eqs,tt,gl,[],[],[],[],[],[]⟩
def RF:Ann:=.leaf
def oU (a0:bW) (a1:bW):Option Bool:=some (seq a0.1 a1.1)
def Ie:FSpec:=mkS JK KL fun x=>oU x.1 x.2
def JM:List MG:=[(false,(.dat y20)),(false,(.fn 170 [y19]))]
def KO:Ret:=⟨[(.tmp 4,uiM)],[]⟩
def Zn:Env:=⟨19,eqs,tt,gl,[(170,Ie)],[],[],[],[],[]⟩
def RH:Ann:=.seq lfA (.seq (.seq lfA (.blk (.loopR [(4,6),(8,19)] ⟨[(8,uiM)],[]⟩ 0 ⟨[],[]⟩ lfA))) lfA)
def ax (a0:List bW) (a1:bW):Option Int:=l9 (N7 (fun(x:Int)=>l7 (ilt x (o7 a0)) (l9
 (lat a0 x) fun x_1=>l9 (oU x_1 a1) fun x_2=>l7 x_2 (some (.rt x)) (some (.nx (o8 .i64 x
 1)))) (some (.ex ()))) 0) fun o=>J3 o (fun(y:PUnit)=>some (-1)) fun r=>some r
def PD:FSpec:=mkS JM KO fun x=>ax x.1 x.2
def JJ:List MG:=[(false,(.dat y20)),(false,(.fn 170 [y19]))]
def KJ:Ret:=⟨[(.tmp 4,ubM)],[]⟩
def Zk:Env:=⟨9,eqs,tt,gl,[(191,PD)],[],[],[],[],[]⟩
def RD:Ann:=.leaf
def X7 (a0:List bW) (a1:bW):Option Bool:=l9 (ax a0 a1) fun(x:
 Int)=>some (ile 0 x)
def Py:FSpec:=mkS JJ KJ fun x=>X7 x.1 x.2
def a4j:List MG:=[(false,(.dat .str)),(false,(.dat .str))]
def a6Y:FSpec:=⟨a4j,[ubM],[],fun x=>iP x.1 x.2⟩
def UB:List MG:=[(false,(.dat .str))]
def WY:Ret:=⟨[(.tmp 2,ubM)],[]⟩
def b0B:Env:=⟨27,eqs,tt,gl,[(192,a6Y)],[],[],[],[],[]⟩
def a2r:Ann:=.seq lfA (.seq lfA (.seq (.seq lfA (.blk (.loopR [(2,4),(13,27)] ⟨[(13,uiM)],[]⟩ 0 ⟨[],[]⟩ lfA))) lfA))
def oZ (a0:List UInt8):Option Bool:=l7 (ilt 64 (o7 a0)) (some false) (l9 (iP a0 [34]) fun x=>l7 x
 (some false) (l9 (N7 (fun(x:Int)=>l7 (ilt x (o7 a0)) (l9 (sat a0 x) fun x_1=>l7 (ilt x_1 32) (some (.rt false))
 (l9 (sat a0 x) fun x_2=>l7 (ilt 126 x_2) (some (.rt false)) (some (.nx (o8 .i64 x 1))))) (some (.ex ())))
 0) fun o=>J3 o (fun(y:PUnit)=>some true) fun r=>some r))
def a6O:FSpec:=mkS UB WY fun x=>oZ x
def UF:List MG:=[uiM]
def Xc:Ret:=⟨[(.tmp 2,uiM)],[]⟩
def b0F:Env:=⟨47,eqs,tt,gl,[],[],[],[],[],[]⟩
def a2v:Ann:=.seq lfA (.seq (.seq lfA (.blk (.seq (.join [(4,19)] ⟨[(4,ubM)],[]⟩ lfA) (.cond lfA (.seq (.join [(19,26)] ⟨[(19,ubM)],[]⟩ lfA) (.cond lfA (.seq (.join [(26,45)] ⟨[(26,ubM)],[]⟩ lfA) lfA))))))) lfA)
def fK (a0:Int):Option Int:=l9 (l7 (ieq a0 1) (some (ieq a0 1)) (l7 (ieq a0 2) (some (ieq a0 2)) (l7 (ieq a0 3) (some (ieq
 a0 3)) (l7 (ieq a0 4) (some (ieq a0 4)) (l7 (ieq a0 5) (some (ieq a0 5)) (l7 (ieq a0 6) (some (ieq a0 6)) (l7 (ieq a0 7) (some (ieq a0
 7)) (l7 (ieq a0 8) (some (ieq a0 8)) (l7 (ieq a0 9) (some (ieq a0 9)) (l7 (ieq a0 35) (some (ieq a0 35)) (l7 (ieq a0 36) (some (ieq a0
 36)) (l7 (ieq a0 37) (some (ieq a0 37)) (l7 (ieq a0 38) (some (ieq a0 38)) (some (ieq a0 39))))))))))))))) fun x=>l7 x (some 0)
 (l9 (l7 (ieq a0 10) (some (ieq a0 10)) (l7 (ieq a0 25) (some (ieq a0 25)) (l7 (ieq a0 31) (some (ieq a0 31)) (l7 (ieq a0 32) (some
 (ieq a0 32)) (l7 (ieq a0 33) (some (ieq a0 33)) (some (ieq a0 34))))))) fun x=>l7 x (some 1) (l9 (l7 (ieq a0 11) (some (ieq a0
 11)) (l7 (ieq a0 12) (some (ieq a0 12)) (l7 (ieq a0 13) (some (ieq a0 13)) (l7 (ieq a0 14) (some (ieq a0 14)) (l7 (ieq a0 15) (some (ieq
 a0 15)) (l7 (ieq a0 16) (some (ieq a0 16)) (l7 (ieq a0 17) (some (ieq a0 17)) (l7 (ieq a0 18) (some (ieq a0 18)) (l7 (ieq a0 19) (some
 (ieq a0 19)) (l7 (ieq a0 20) (some (ieq a0 20)) (l7 (ieq a0 21) (some (ieq a0 21)) (l7 (ieq a0 22) (some (ieq a0 22)) (l7 (ieq a0 23)
 (some (ieq a0 23)) (l7 (ieq a0 24) (some (ieq a0 24)) (l7 (ieq a0 27) (some (ieq a0 27)) (l7 (ieq a0 28) (some (ieq a0 28)) (l7 (ieq a0
 29) (some (ieq a0 29)) (some (ieq a0 30))))))))))))))))))) fun x=>l7 x (some 2) (l7 (ieq a0 26) (some 3) (some (-1)))))
def MK:FSpec:=mkS UF Xc fun x=>fK x
def Um:List MG:=[(false,(.dat y12))]
def WM:Ret:=⟨[(.tmp 2,uoM),(.tmp 3,uiM),(.tmp 4,uiM)],[]⟩
def b0o:Env:=⟨76,eqs,tt,gl,[(175,MK)],[],[],[],[],[]⟩
def a2e:Ann:=.seq lfA (.seq lfA (.seq lfA (.seq lfA (.seq lfA (.seq (.seq lfA (.blk (.loopR [(2,10),(21,70),(27001152,27001153)] ⟨[(5,uoM),(6,uoM),(21,uiM)],[]⟩ 0 ⟨[(5,uoM),(6,uoM)],[]⟩ lfA))) lfA)))))
def jU (a0:List x8):Option (List Int×x8):=l7 (ilt 48 (o7 a0)) (some ([],0,4)) (l7 (ieq (o7 a0) 0) (some ([],0,
 5)) (l9 (lT (o7 a0) 0) fun x=>l9 (N7 (fun(x:List Int×List Int×Int)=>l7 (ilt x.2.2 (o7 a0)) (l9 (lat a0
 x.2.2) fun x_1=>l9 (fK x_1.1) fun x_2=>l7 (ilt x_2 0) (some (.rt ([],x.2.2,2))) (l7 (ilt (o7 x.2.1)
 x_2) (some (.rt ([],x.2.2,5))) (l9 (lat x.1 x.2.2) fun x_3=>l9 (O9 x.1 (toN x.2.2)) fun x_4=>l7 (ilt 0 x_2)
 (l9 (lat x.2.1 (D5 .i64 (o7 x.2.1) x_2)) fun x_5=>l9 (O9 x.2.1 (toN (D5 .i64 (o7 x.2.1) x_2))) fun(x_6:
 Int)=>l9 (lat (U0 x.1 (toN x.2.2) x.2.2) x.2.2) fun x_7=>l9 (O9 (U0 x.1 (toN x.2.2) x.2.2) (toN x.2.2)) fun x_8=>
 l7 (mV 0 (D5 .i64 (o7 x.2.1) x_2) (o7 x.2.1)) (l9 (lat (U0 (U0 x.1 (toN x.2.2) x.2.2) (toN x.2.2) x_6) x.2.2) fun(x_9:
 Int)=>l9 (O9 (U0 (U0 x.1 (toN x.2.2) x.2.2) (toN x.2.2) x_6) (toN x.2.2)) fun x_10=>l9 (Y2 (fZ x.2.1 (toN 0) (toN (D5
 .i64 (o7 x.2.1) x_2))) [x_10]) fun x_11=>l7 (ilt 12 (o7 x_11)) (some (.rt ([],x.2.2,16))) (some (.nx (U0 (U0
 x.1 (toN x.2.2) x.2.2) (toN x.2.2) x_6,x_11,o8 .i64 x.2.2 1)))) none) (l7 (mV 0 (D5 .i64 (o7 x.2.1) x_2) (o7 x.2.1))
 (l9 (lat (U0 x.1 (toN x.2.2) x.2.2) x.2.2) fun x_5=>l9 (O9 (U0 x.1 (toN x.2.2) x.2.2) (toN x.2.2)) fun x_6=>l9
 (Y2 (fZ x.2.1 (toN 0) (toN (D5 .i64 (o7 x.2.1) x_2))) [x_6]) fun x_7=>l7 (ilt 12 (o7 x_7)) (some (.rt ([],
 x.2.2,16))) (some (.nx (U0 x.1 (toN x.2.2) x.2.2,x_7,o8 .i64 x.2.2 1)))) none)))) (some (.ex (x.1,x.2.1)))) (x,[],0)) fun(o:
 List Int×List Int⊕List Int×x8)=>J3 o (fun(y:List Int×List Int)=>l7 (ilt 1 (o7 y.2)) (some ([],o7 a0,4)) (some (y.1,0,
 0))) fun r=>some r))
def ZN:FSpec:=mkS Um WM fun x=>jU x
def UT:List MG:=[uiM]
def Xo:Ret:=⟨[(.tmp 2,ubM)],[]⟩
def b0S:Env:=⟨22,eqs,tt,gl,[],[],[],[],[],[]⟩
def a2I:Ann:=.leaf
def tN (a0:Int):Option Bool:=l7 (ieq a0 1) (l7 (ieq a0 1) (some true) (some false)) (l7 (ieq a0 2) (l7 (ieq a0 2) (some
 true) (some false)) (l7 (ieq a0 3) (l7 (ieq a0 3) (some true) (some false)) (l7 (ieq a0 4) (l7 (ieq a0 4) (some true) (some false))
 (l7 (ieq a0 5) (l7 (ieq a0 5) (some true) (some false)) (l7 (ieq a0 6) (l7 (ieq a0 6) (some true) (some false)) (l7 (ieq a0 7) (l7
 (ieq a0 7) (some true) (some false)) (l7 (ieq a0 8) (l7 (ieq a0 8) (some true) (some false)) (l7 (ieq a0 14) (l7 (ieq a0 14) (some true)
 (some false)) (l7 (ieq a0 15) (l7 (ieq a0 15) (some true) (some false)) (l7 (ieq a0 16) (l7 (ieq a0 16) (some true) (some false)) (l7
 (ieq a0 33) (l7 (ieq a0 33) (some true) (some false)) (l7 (ieq a0 34) (l7 (ieq a0 34) (some true) (some false)) (l7 (ieq a0 36) (l7
 (ieq a0 36) (some true) (some false)) (l7 (ieq a0 37) (l7 (ieq a0 37) (some true) (some false)) (l7 (ieq a0 38) (l7 (ieq a0 38) (some
 true) (some false)) (l7 (ieq a0 39) (some true) (some false)))))))))))))))))
def ZP:FSpec:=mkS UT Xo fun x=>tN x
def Vr:List MG:=[uiM,uiM,(true,(.dat y66))]
def XK:Ret:=⟨[(.cell 6 60,(true,(.dat y2))),(.tmp 7,uiM)],[]⟩
def b1n:Env:=⟨30,eqs,tt,gl,[(99,s99)],[],[],[],[],[]⟩
def a3d:Ann:=.leaf
def Z7 (a0:Int) (a1:Int) (a2:G8):Option (x8×Int):=l9 (dU (a1,0) a2.1) fun x=>l7 (ilt
 a0 x.1) (some ((0,0),3)) (l7 (ilt x.2 a0) (some ((0,0),3)) (some ((a1,0),0)))
def a7q:FSpec:=mkS Vr XK fun x=>Z7 x.1 x.2.1 x.2.2
def Vs:List MG:=[uiM,(true,(.dat y66))]
def XL:Ret:=⟨[(.cell 4 60,(true,(.dat y2))),(.tmp 5,uiM)],[]⟩
def b1o:Env:=⟨34,eqs,tt,gl,[],[],[],[],[],[]⟩
def a3e:Ann:=.leaf
def rY (a0:Int) (a1:G8):Option (x8×Int):=l7 (ilt a0 0) (some ((0,0),3)) (l7 (ile (o7 a1.1) (ay .i64
 a0 16)) (some ((0,0),6)) (l9 (lat a1.1 (ay .i64 a0 16)) fun x=>l7 (ile (o7 x.2) (gW a0 16)) (some ((0,0),6)) (some
 ((6,ay .i64 a0 16),0))))
def a7r:FSpec:=mkS Vs XL fun x=>rY x.1 x.2
def Vt:List MG:=[uiM,(false,(.dat y12)),(true,(.dat y66))]
def XM:Ret:=⟨[(.cell 6 60,(true,(.dat y2))),(.tmp 7,uiM)],[]⟩
def b1p:Env:=⟨30,eqs,tt,gl,[(118,Hw)],[],[],[],[],[]⟩
def a3f:Ann:=.leaf
def X9 (a0:Int) (a1:List x8) (a2:G8):Option (x8×Int):=l7 (ilt a0 0) (some ((0,0),6)) (l7 (ile (o7 a1)
 a0) (some ((0,0),6)) (l9 (lat a1 a0) fun x=>l9 (J7 x a2.1) fun x=>l7 (C9 x) (some ((0,0),8))
 (l9 (lat a1 a0) fun x=>some (x,0))))
def ZV:FSpec:=mkS Vt XM fun x=>X9 x.1 x.2.1 x.2.2
def Vx:List MG:=[uiM]
def XP:Ret:=⟨[(.tmp 2,ubM)],[]⟩
def b1s:Env:=⟨9,eqs,tt,gl,[],[],[],[],[],[]⟩
def a3i:Ann:=.leaf
def dA (a0:Int):Option Bool:=l7 (ile 0 a0) (some (ile a0 5)) (some false)
def ZW:FSpec:=mkS Vx XP fun x=>dA x
def Vu:List MG:=[(true,(.dat y2)),(true,(.dat y2)),(true,(.dat y66))]
def XN:Ret:=⟨[(.cell 6 60,(true,(.dat y2))),(.tmp 7,uiM)],[]⟩
def b1q:Env:=⟨84,eqs,tt,gl,[(230,ZW),(118,Hw)],[],[],[],[],[]⟩
def a3g:Ann:=.seq lfA (.seq lfA (.seq (.joinR [(6,9),(13,30),(4000384,4000385)] ⟨[(6,(false,(.box (.dat y2)))),(8,uiM)],[]⟩ lfA) (.seq (.joinR [(6,8),(30,40),(9000000,9000001)] ⟨[(6,(false,(.box (.dat y2))))],[]⟩ lfA) (.seq lfA (.seq (.joinR [(6,8),(52,70),(27000000,27000001)] ⟨[(6,(false,(.box (.dat y2))))],[]⟩ lfA) lfA)))))
def pV (a0:x8) (a1:x8) (a2:G8):Option (x8×Int):=l9 (l7 (ieq a0.1 34) (l7 (ilt a0.2 0) (some (.inr
 ((0,0),3))) (l9 (dA (gW a0.2 8)) fun x=>l7 (C9 x) (some (.inr ((0,0),3))) (some (.inl ((0,0),ay
 .i64 a0.2 8))))) (some (.inl ((0,0),a0.2)))) fun o=>J3 o (fun(x:x8×Int)=>l9 (l7 (ilt
 x.2 0) (some (.inr ((0,0),6))) (l7 (ile (o7 a2.2.1) x.2) (some (.inr ((0,0),6))) (some (.inl x.1)))) fun o
 =>J3 o (fun(x_1:x8)=>l9 (lat a2.2.1 x.2) fun x_2=>l9 (lat a2.2.1 x.2) fun x=>l9 (l9 (J7
 x_2.2.1 a2.1) fun x_3=>l7 (C9 x_3) (some (.inr ((0,0),8))) (l9 (J7 x.2.2.1 a2.1) fun x=>l7 (C9
 x) (some (.inr ((0,0),8))) (l7 (C9 (U7 (ieq a1.1 x_2.2.1.1) (ieq a1.2 x_2.2.1.2))) (some (.inr ((0,0),8))) (some (.inl x_1)))))
 fun o=>J3 o (fun(x_3:x8)=>l7 (ieq a0.1 34) (l7 (C9 (ieq x_2.2.1.1 3)) (some ((0,0),8)) (l7 (C9
 (ieq x.2.2.1.1 4)) (some ((0,0),8)) (some (x_2.2.1,0)))) (some (x.2.2.1,0))) fun r=>some r) fun r=>some r)
 fun r=>some r
def a7s:FSpec:=mkS Vu XN fun x=>pV x.1 x.2.1 x.2.2
def VH:List MG:=[uiM]
def Yb:Ret:=⟨[(.tmp 2,ubM)],[]⟩
def b1C:Env:=⟨13,eqs,tt,gl,[],[],[],[],[],[]⟩
def a3s:Ann:=.leaf
def aS (a0:Int):Option Bool:=l7 (ieq a0 2) (some true) (l7 (ieq a0 3) (some true) (some (ieq a0 4)))
def ZX:FSpec:=mkS VH Yb fun x=>aS x
def Vw:List MG:=[(true,(.dat y2)),(true,(.dat y66))]
def XO:Ret:=⟨[(.cell 4 60,(true,(.dat y2))),(.tmp 5,uiM)],[]⟩
def b1r:Env:=⟨62,eqs,tt,gl,[(227,ZV),(244,ZX)],[],[],[],[],[]⟩
def a3h:Ann:=.seq lfA (.seq lfA (.seq lfA (.seq lfA (.seq lfA (.seq lfA (.seq (.join [(8,9),(30,58)] ⟨[(8,ubM)],[]⟩ lfA) lfA))))))
def oK (a0:x8) (a1:G8):Option (x8×Int):=l7 (C9 a1.2.2.2.2.2) (some ((0,0),6)) (l7 (ieq a0.1 35) (some
 ((2,0),0)) (l9 (X9 a0.2 a1.2.2.2.2.1 a1) fun x=>l7 (C9 (ieq x.2 0)) (some ((0,0),x.2)) (l9 (l7 (ieq
 a0.1 36) (l7 (ieq x.1.1 2) (some true) (some (ieq x.1.1 3))) (l7 (ieq a0.1 37) (l7 (ieq a0.1 37) (some (ieq x.1.1 1)) (l7 (ieq a0.1 39)
 (l9 (aS x.1.1) fun x_1=>l7 x_1 (some true) (some (ieq x.1.1 5))) (some false))) (l7 (ieq a0.1 38) (some (ieq x.1.1 1))
 (l7 (ieq a0.1 39) (l9 (aS x.1.1) fun x_1=>l7 x_1 (some true) (some (ieq x.1.1 5))) (some false))))) fun x_1
 =>l7 (C9 x_1) (some ((0,0),8)) (some (x.1,0)))))
def a7t:FSpec:=mkS Vw XO fun x=>oK x.1 x.2
def VI:List MG:=[uiM,uiM,uiM]
def Yc:Ret:=⟨[(.cell 6 60,(true,(.dat y2))),(.tmp 7,ubM)],[]⟩
def b1D:Env:=⟨47,eqs,tt,gl,[],[],[],[],[],[]⟩
def a3t:Ann:=.leaf
def mi (a0:Int) (a1:Int) (a2:Int):Option (x8×Bool):=l7 (ieq a0 14) (l7 (ieq a2 4) (l7 (ieq a1 3) (some ((a1,0),
 true)) (some ((a1,0),ieq a1 4))) (some ((a1,0),false))) (l7 (ieq a2 2) (l7 (ieq a1 2) (some ((a1,0),true)) (some ((a1,0),ieq a1 3)))
 (l7 (ieq a0 15) (l7 (ieq a1 3) (l7 (ieq a2 3) (some ((4,0),true)) (some ((0,0),false))) (some ((0,0),false))) (some ((0,0),false))))
def a7B:FSpec:=mkS VI Yc fun x=>mi x.1 x.2.1 x.2.2
def Vy:List MG:=[uiM,(false,(.dat y12))]
def XQ:Ret:=⟨[(.cell 4 60,(true,(.dat y2))),(.tmp 5,ubM)],[]⟩
def b1t:Env:=⟨222,eqs,tt,gl,[(244,ZX),(245,a7B)],[],[],[],[],[]⟩
def a3j:Ann:=.seq lfA (.seq lfA (.seq (.joinR [(4,6),(8,221),(4000256,4000257)] ⟨[(4,(false,(.box (.dat y2))))],[]⟩ (.seq lfA (.blk (.seq lfA (.cond lfA (.seq lfA (.cond lfA (.seq (.join [(27,30)] ⟨[(27,ubM)],[]⟩ lfA) (.cond lfA (.seq (.join [(47,51)] ⟨[(47,ubM)],[]⟩ lfA) (.cond lfA (.seq lfA (.cond lfA (.seq (.join [(80,83)] ⟨[(80,ubM)],[]⟩ lfA) (.cond lfA (.seq (.join [(107,110)] ⟨[(107,ubM)],[]⟩ lfA) (.cond lfA (.seq (.join [(118,121)] ⟨[(118,ubM)],[]⟩ lfA) (.cond lfA (.seq (.join [(143,146)] ⟨[(143,ubM)],[]⟩ lfA) (.cond lfA (.seq lfA (.cond lfA (.seq (.join [(178,181)] ⟨[(178,ubM)],[]⟩ lfA) lfA)))))))))))))))))))))))) lfA))
def oL (a0:Int) (a1:List x8):Option (x8×Bool):=l9 (l7 (ieq a0 10) (l9 (lat a1 0) fun x=>l9 (lat
 a1 0) fun x_1=>l9 (aS x_1.1) fun x_2=>some (.inr (x,x_2))) (l7 (ieq a0 25) (l9 (lat a1 0) fun(x:
 x8)=>some (.inr ((1,0),ieq x.1 1))) (l9 (l7 (ieq a0 11) (some (ieq a0 11)) (some (ieq a0 12))) fun x=>l7 x (l9 (lat
 a1 0) fun x=>l9 (lat a1 0) fun x_1=>l9 (lat a1 1) fun x_2=>l7 (U7 (ieq x_1.1 x_2.1) (ieq x_1.2 x_2.2))
 (l9 (lat a1 0) fun x_3=>l9 (aS x_3.1) fun x_4=>some (.inr (x,x_4))) (some (.inr (x,false)))) (l9
 (l7 (ieq a0 13) (some (ieq a0 13)) (l7 (ieq a0 14) (some (ieq a0 14)) (some (ieq a0 15)))) fun x=>l7 x (l9 (lat a1 0) fun(x:
 x8)=>l9 (lat a1 1) fun x_1=>l9 (mi a0 x.1 x_1.1) fun x=>some (.inr x)) (l7 (ieq a0 16)
 (l9 (lat a1 0) fun x=>l9 (lat a1 0) fun x_1=>l7 (ieq x_1.1 3) (l9 (lat a1 1) fun x_2=>some (.inr
 (x,ieq x_2.1 3))) (some (.inr (x,false)))) (l9 (l7 (ieq a0 17) (some (ieq a0 17)) (some (ieq a0 18))) fun x=>l7 x (l9
 (lat a1 0) fun x=>l9 (lat a1 0) fun x_1=>l9 (lat a1 1) fun x_2=>l7 (U7 (ieq x_1.1 x_2.1) (ieq x_1.2
 x_2.2)) (l9 (lat a1 0) fun x_3=>l9 (aS x_3.1) fun x_4=>l7 x_4 (some (.inr (x,true))) (l9 (lat a1 0)
 fun x_5=>some (.inr (x,ieq x_5.1 5)))) (some (.inr (x,false)))) (l9 (l7 (ieq a0 19) (some (ieq a0 19)) (some (ieq a0 20)))
 fun x=>l7 x (l9 (lat a1 0) fun x=>l9 (lat a1 1) fun x_1=>some (.inr ((1,0),U7 (ieq x.1 x_1.1) (ieq
 x.2 x_1.2)))) (l9 (l7 (ieq a0 21) (some (ieq a0 21)) (some (ieq a0 22))) fun x=>l7 x (l9 (lat a1 0) fun x=>l9
 (lat a1 1) fun x_1=>l7 (U7 (ieq x.1 x_1.1) (ieq x.2 x_1.2)) (l9 (lat a1 0) fun x=>l9 (aS x.1) fun(x:
 Bool)=>l7 x (some (.inr ((1,0),true))) (l9 (lat a1 0) fun x=>some (.inr ((1,0),ieq x.1 5)))) (some (.inr ((1,0),
 false)))) (l9 (l7 (ieq a0 23) (some (ieq a0 23)) (some (ieq a0 24))) fun x=>l7 x (l9 (lat a1 0) fun x=>l7 (ieq
 x.1 1) (l9 (lat a1 1) fun x=>some (.inr ((1,0),ieq x.1 1))) (some (.inr ((1,0),false)))) (l7 (ieq a0 26) (l9 (lat a1
 1) fun x=>l9 (lat a1 0) fun x_1=>l7 (ieq x_1.1 1) (l9 (lat a1 1) fun x_2=>l9 (lat a1 2) fun(x_3:
 x8)=>some (.inr (x,U7 (ieq x_2.1 x_3.1) (ieq x_2.2 x_3.2)))) (some (.inr (x,false)))) (l9 (l7 (ieq a0 27) (some (ieq a0 27))
 (some (ieq a0 28))) fun x=>l7 x (l9 (lat a1 0) fun x=>l9 (lat a1 0) fun x_1=>l7 (ieq x_1.1 5) (l9
 (lat a1 1) fun x_2=>some (.inr (x,ieq x_2.1 2))) (some (.inr (x,false)))) (l7 (ieq a0 29) (l7 (ieq a0 29) (l9 (lat a1 0)
 fun x=>l7 (ieq x.1 5) (l9 (lat a1 1) fun x=>some (.inr ((2,0),ieq x.1 5))) (some (.inr ((2,0),false))))
 (l7 (ieq a0 31) (l7 (ieq a0 31) (l9 (lat a1 0) fun x=>some (.inr ((2,0),ieq x.1 5))) (some (.inl (0,0)))) (l7 (ieq
 a0 32) (l9 (lat a1 0) fun x=>some (.inr ((2,0),ieq x.1 5))) (some (.inl (0,0)))))) (l7 (ieq a0 30) (l9 (lat a1 0) fun
 (x:x8)=>l7 (ieq x.1 5) (l9 (lat a1 1) fun x=>some (.inr ((2,0),ieq x.1 5))) (some (.inr ((2,0),false)))) (l7
 (ieq a0 31) (l7 (ieq a0 31) (l9 (lat a1 0) fun x=>some (.inr ((2,0),ieq x.1 5))) (some (.inl (0,0)))) (l7 (ieq a0 32)
 (l9 (lat a1 0) fun x=>some (.inr ((2,0),ieq x.1 5))) (some (.inl (0,0)))))))))))))))))) fun o=>
 J3 o (fun(x:x8)=>some ((0,0),false)) fun r=>some r
def a7u:FSpec:=mkS Vy XQ fun x=>oL x.1 x.2
def Vh:List MG:=[(true,(.dat y2)),(false,(.dat y12)),(true,(.dat y66))]
def XC:Ret:=⟨[(.cell 6 60,(true,(.dat y2))),(.tmp 7,uiM)],[]⟩
def b1f:Env:=⟨125,eqs,tt,gl,[(225,a7q),(226,a7r),(227,ZV),(228,a7s),(229,a7t),(230,ZW),(231,a7u)],[],[],[],[],[]⟩
def a2V:Ann:=.seq lfA (.seq (.joinR [(6,8),(10,114),(4000384,4000385)] ⟨[(6,(false,(.box (.dat y2))))],[]⟩ (.seq lfA (.blk (.seq lfA (.cond lfA (.seq lfA (.cond lfA (.seq lfA (.cond lfA (.seq lfA (.cond lfA (.seq lfA (.cond lfA (.seq lfA (.cond lfA (.seq lfA (.cond lfA (.seq lfA (.cond lfA (.seq lfA (.cond lfA (.seq (.join [(83,86)] ⟨[(83,ubM)],[]⟩ lfA) (.cond lfA (.seq (.join [(94,100)] ⟨[(94,ubM)],[]⟩ lfA) lfA)))))))))))))))))))))))) lfA)
def lL (a0:x8) (a1:List x8) (a2:G8):Option (x8×Int):=l9 (l7 (ieq a0.1 1) (l9 (Z7 a0.2 1
 a2) fun x=>some (.inr x)) (l7 (ieq a0.1 2) (l9 (Z7 a0.2 2 a2) fun x=>some (.inr x))
 (l7 (ieq a0.1 3) (l9 (Z7 a0.2 3 a2) fun x=>some (.inr x)) (l7 (ieq a0.1 4) (l9 (Z7 a0.2
 4 a2) fun x=>some (.inr x)) (l7 (ieq a0.1 5) (l9 (Z7 a0.2 5 a2) fun x=>some (.inr x))
 (l7 (ieq a0.1 6) (l9 (rY a0.2 a2) fun x=>some (.inr x)) (l7 (ieq a0.1 7) (l9 (X9 a0.2
 a2.2.2.1 a2) fun x=>some (.inr x)) (l7 (ieq a0.1 8) (l9 (X9 a0.2 a2.2.2.2.1 a2) fun x=>some
 (.inr x)) (l7 (ieq a0.1 9) (some (.inr ((5,0),0))) (l9 (l7 (ieq a0.1 33) (some (ieq a0.1 33)) (some (ieq a0.1 34))) fun x
 =>l7 x (l9 (lat a1 0) fun x=>l9 (pV a0 x a2) fun x=>some (.inr x)) (l9 (l7 (ieq a0.1 35)
 (some (ieq a0.1 35)) (l7 (ieq a0.1 36) (some (ieq a0.1 36)) (l7 (ieq a0.1 37) (some (ieq a0.1 37)) (l7 (ieq a0.1 38) (some (ieq a0.1 38))
 (some (ieq a0.1 39)))))) fun x=>l7 x (l9 (oK a0 a2) fun x=>some (.inr x)) (l7 (ieq a0.1 14)
 (l7 (ieq a0.1 14) (l9 (dA a0.2) fun x=>l7 (C9 x) (some (.inr ((0,0),3))) (some (.inl (0,0)))) (some
 (.inl (0,0)))) (l7 (ieq a0.1 15) (l7 (ieq a0.1 15) (l9 (dA a0.2) fun x=>l7 (C9 x) (some (.inr ((0,0),
 3))) (some (.inl (0,0)))) (some (.inl (0,0)))) (l7 (ieq a0.1 16) (l9 (dA a0.2) fun x=>l7 (C9 x) (some
 (.inr ((0,0),3))) (some (.inl (0,0)))) (some (.inl (0,0))))))))))))))))) fun o=>J3 o (fun(x:x8)=>
 l9 (oL a0.1 a1) fun x=>l7 (C9 x.2) (some ((0,0),8)) (some (x.1,0))) fun r=>some r
def a7l:FSpec:=mkS Vh XC fun x=>lL x.1 x.2.1 x.2.2
def UQ:List MG:=[(false,(.dat y12)),(true,(.dat y66))]
def Xm:Ret:=⟨[(.cell 4 60,(true,(.dat y2))),(.tmp 5,uiM),(.tmp 6,uiM)],[]⟩
def b0Q:Env:=⟨75,eqs,tt,gl,[(149,ZN),(195,ZP),(175,MK),(213,a7l)],[],[],[],[],[]⟩
def a2G:Ann:=.seq lfA (.seq lfA (.seq lfA (.seq lfA (.seq (.seq lfA (.blk (.loopR [(4,7),(10,16),(29,72),(4000256,4000257)] ⟨[(4,(false,(.box (.dat y2)))),(10,(false,(.own y2))),(29,uiM)],[]⟩ 0 ⟨[(4,(false,(.box (.dat y2)))),(10,(false,(.own y2)))],[]⟩ lfA))) lfA))))
def xJ (a0:List x8) (a1:G8):Option (x8×x8):=l9 (jU a0) fun x=>l7 (C9
 (ieq x.2.2 0)) (some ((0,0),x.2)) (l9 (N7 (fun(x:x8×List x8×Int)=>l7 (ilt x.2.2 (o7 a0)) (l9 (lat a0 x.2.2) fun(x_1:
 x8)=>l7 (C9 (ieq x_1.2 0)) (l9 (tN x_1.1) fun x_2=>l7 (C9 x_2) (some (.rt ((0,0),x.2.2,2))) (l9
 (fK x_1.1) fun x_3=>l7 (mV (D5 .i64 (o7 x.2.1) x_3) (o7 x.2.1) (o7 x.2.1)) (l9 (lL x_1 (fZ
 x.2.1 (toN (D5 .i64 (o7 x.2.1) x_3)) (toN (o7 x.2.1))) a1) fun x_4=>l7 (C9 (ieq x_4.2 0)) (some (.rt ((0,0),
 x.2.2,x_4.2))) (l7 (mV 0 (D5 .i64 (o7 x.2.1) x_3) (o7 x.2.1)) (l9 (Y2 (fZ x.2.1 (toN 0) (toN (D5 .i64 (o7
 x.2.1) x_3))) [x_4.1]) fun x_5=>some (.nx (x.1,x_5,o8 .i64 x.2.2 1))) none)) none)) (l9 (fK x_1.1) fun(x_2
 :Int)=>l7 (mV (D5 .i64 (o7 x.2.1) x_2) (o7 x.2.1) (o7 x.2.1)) (l9 (lL x_1 (fZ x.2.1 (toN (D5 .i64
 (o7 x.2.1) x_2)) (toN (o7 x.2.1))) a1) fun x_3=>l7 (C9 (ieq x_3.2 0)) (some (.rt ((0,0),x.2.2,x_3.2))) (l7 (mV
 0 (D5 .i64 (o7 x.2.1) x_2) (o7 x.2.1)) (l9 (Y2 (fZ x.2.1 (toN 0) (toN (D5 .i64 (o7 x.2.1) x_2))) [x_3.1]) fun(x_4:
 List x8)=>some (.nx (x.1,x_4,o8 .i64 x.2.2 1))) none)) none)) (some (.ex (x.1,x.2.1)))) ((0,0),[],0)) fun o=>J3 o (fun(y:x8×List x8)=>l9 (lat y.2 0) fun x=>l9 (O9 y.2 (toN 0)) fun x=>
 some (x,0,0)) fun r=>some r)
def a6Z:FSpec:=mkS UQ Xm fun x=>xJ x.1 x.2
def UC:List MG:=[(false,(.dat y12)),(true,(.dat y66)),(true,(.dat y2))]
def WZ:Ret:=⟨[(.tmp 6,uiM)],[]⟩
def b0C:Env:=⟨23,eqs,tt,gl,[(193,a6Z)],[],[],[],[],[]⟩
def a2s:Ann:=.leaf
def iR (a0:List x8) (a1:G8) (a2:x8):Option Int:=l9 (xJ a0 a1) fun x=>l7 (C9
 (ieq x.2.2 0)) (some x.2.2) (l7 (C9 (U7 (ieq x.1.1 a2.1) (ieq x.1.2 a2.2))) (some 8) (some 0))
def a6P:FSpec:=mkS UC WZ fun x=>iR x.1 x.2.1 x.2.2
def Ug:List MG:=[(true,(.dat y24)),uiM,(true,(.dat y66))]
def WF:Ret:=⟨[(.tmp 6,uiM)],[]⟩
def b0i:Env:=⟨145,eqs,tt,gl,[(95,s95),(170,Ie),(169,Py),(171,a6O),(172,a6P)],[],[],[],[],[]⟩
def a1Y:Ann:=.seq lfA (.seq lfA (.seq lfA (.seq (.seq lfA (.blk (.loop [(8,9),(10,11),(22,34)] ⟨[(8,uiM),(22,uiM)],[]⟩ 0 ⟨[(8,uiM)],[]⟩ lfA))) (.seq (.joinR [(6,8),(34,122),(7000448,7000449)] ⟨[(7,(false,(.rp y19)))],[]⟩ (.blk (.seq lfA (.cond lfA (.seq lfA (.cond lfA (.seq (.join [(46,58)] ⟨[(46,ubM)],[]⟩ lfA) (.cond lfA (.seq (.join [(58,85)] ⟨[(58,ubM)],[]⟩ lfA) (.cond lfA (.seq (.join [(85,94)] ⟨[(85,ubM)],[]⟩ lfA) lfA))))))))))) lfA))))
def sD (a0:E8) (a1:Int) (a2:G8):Option Int:=l9 (lat a0.2.2.2.2 a1) fun x=>l9 (kK a0.2.2.2.2 0 a1)
 fun x_1=>l9 (O7 (fun(x_2:x8)=>l7 (ilt x_2.2 (o7 x_1)) (l9 (lat x_1 x_2.2) fun x_3=>l7 (ieq
 x_3.2.1 x.2.1) (some (.inl (o8 .i64 x_2.1 1,o8 .i64 x_2.2 1))) (some (.inl (x_2.1,o8 .i64 x_2.2 1)))) (some
 (.inr x_2.1))) (0,0)) fun y=>l9 (l9 (U1 x.1) fun x_2=>l7 (C9 x_2) (some (.inr 2)) (l9 (kK
 a0.2.2.2.2 0 a1) fun x_3=>l9 (X7 x_3 x) fun x_4=>l7 x_4 (some (.inr 7))
 (l9 (l7 (ilt x.2.1 0) (some true) (some (ile (o7 a0.2.2.2.1) x.2.1))) fun x_5=>l7 x_5 (some (.inr 6)) (l9 (l7 (C9
 (ieq x.2.2.1 (-1))) (l7 (ilt x.2.2.1 0) (some true) (l7 (ile a1 x.2.2.1) (some true) (l9 (lat a0.2.2.2.2 x.2.2.1) fun x_6=>some
 (C9 (ieq x_6.2.1 x.2.1))))) (some false)) fun x_6=>l7 x_6 (some (.inr 9)) (l9 (l7 (ilt x.2.2.2.1 0) (some true) (some (ilt 9
 x.2.2.2.1))) fun x_7=>l7 x_7 (some (.inr 3)) (l7 (ilt x.2.2.2.2.1.1 0) (some (.inr 3)) (l7 (ile x.2.2.2.2.1.2
 x.2.2.2.2.1.1) (some (.inr 3)) (l7 (ilt 109573 x.2.2.2.2.1.2) (some (.inr 3)) (l7 (ile 8 y) (some (.inr 4)) (l9 (oZ
 x.2.2.2.2.2.2.2) fun x_8=>l7 (C9 x_8) (some (.inr 2)) (some (.inl x)))))))))))) fun o=>J3 o (fun(x:
 bW)=>l7 (ilt 0 (o7 x.2.2.2.2.2.1)) (l9 (iR x.2.2.2.2.2.1 a2 (1,0)) fun x_2=>l7 (C9 (ieq x_2 0)) (some x_2)
 (l9 (lat a0.2.2.2.1 x.2.1) fun x_3=>l9 (iR x.2.2.2.2.2.2.1 a2 x_3.2) fun x=>some x)) (l9 (lat a0.2.2.2.1
 x.2.1) fun x_2=>l9 (iR x.2.2.2.2.2.2.1 a2 x_2.2) fun x=>some x)) fun r=>some r
def a6B:FSpec:=mkS Ug WF fun x=>sD x.1 x.2.1 x.2.2
def b1U:List MG:=[(false,(.ownb (.int .i64)))]
def s26:FSpec:=⟨b1U,[],[uoM],fun x=>bV x⟩
def b1V:List MG:=[uoM]
def s27:FSpec:=⟨b1V,[uoM],[],fun x=>Y9 x⟩
def TM:List MG:=[uoM]
def VY:Ret:=⟨[(.tmp 2,uoM)],[]⟩
def a9P:Env:=⟨7,eqs,tt,gl,[(26,s26),(27,s27)],[],[],[],[],[]⟩
def a1F:Ann:=.leaf
def iQ (a0:List Int):Option (List Int):=l9 (bV a0) fun x=>l9 (Y9 x) fun x=>some x
def a6m:FSpec:=mkS TM VY fun x=>iQ x
def a4P:List MG:=[(false,(.dat y12))]
def a5W:Ret:=⟨[(.tmp 2,uoM),(.tmp 3,uoM),(.tmp 4,uoM)],[]⟩
def e68:Env:=⟨49,eqs,tt,gl,[(101,a6m)],[],[],[],[],[]⟩
def a9y:Ann:=.seq lfA (.seq lfA (.seq (.seq lfA (.blk (.loop [(5,8),(9,10),(12,43)] ⟨[(5,uoM),(6,uoM),(7,uoM),(12,uiM)],[]⟩ 0 ⟨[(5,uoM),(6,uoM),(7,uoM)],[]⟩ lfA))) lfA))
def bG (a0:List x8):Option Z9:=l9 (O7 (fun(x:List Int×List Int×List Int×Int)=>l7 (ilt x.2.2.2
 (o7 a0)) (l9 (lat a0 x.2.2.2) fun x_1=>l7 (ieq x_1.1 7) (l9 (Y2 x.1 [x_1.2]) fun x_2=>some (.inl (x_2,
 x.2.1,x.2.2.1,o8 .i64 x.2.2.2 1))) (l7 (ieq x_1.1 8) (l9 (Y2 x.2.1 [x_1.2]) fun x_2=>some (.inl (x.1,x_2,
 x.2.2.1,o8 .i64 x.2.2.2 1))) (l7 (ieq x_1.1 36) (l7 (ieq x_1.1 36) (l9 (Y2 x.2.2.1 [x_1.2]) fun x_2=>some
 (.inl (x.1,x.2.1,x_2,o8 .i64 x.2.2.2 1))) (some (.inl (x.1,x.2.1,x.2.2.1,o8 .i64 x.2.2.2 1)))) (l7 (ieq x_1.1 37)
 (l7 (ieq x_1.1 37) (l9 (Y2 x.2.2.1 [x_1.2]) fun x_2=>some (.inl (x.1,x.2.1,x_2,o8 .i64 x.2.2.2 1))) (some
 (.inl (x.1,x.2.1,x.2.2.1,o8 .i64 x.2.2.2 1)))) (l7 (ieq x_1.1 38) (l7 (ieq x_1.1 38) (l9 (Y2 x.2.2.1 [x_1.2]) fun(x_2:
 List Int)=>some (.inl (x.1,x.2.1,x_2,o8 .i64 x.2.2.2 1))) (some (.inl (x.1,x.2.1,x.2.2.1,o8 .i64 x.2.2.2 1)))) (l7
 (ieq x_1.1 39) (l9 (Y2 x.2.2.1 [x_1.2]) fun x_2=>some (.inl (x.1,x.2.1,x_2,o8 .i64 x.2.2.2 1))) (some (.inl
 (x.1,x.2.1,x.2.2.1,o8 .i64 x.2.2.2 1))))))))) (some (.inr (x.1,x.2.1,x.2.2.1)))) ([],[],[],0)) fun y=>l9
 (iQ y.1) fun x=>l9 (iQ y.2.1) fun x_1=>l9 (iQ y.2.2) fun x_2=>
 some (x,x_1,x_2)
def s68:FSpec:=mkS a4P a5W fun x=>bG x
def TL:List MG:=[(true,(.dat y19)),uiM]
def VX:Ret:=⟨[(.tmp 4,uoM)],[]⟩
def a9O:Env:=⟨67,eqs,tt,gl,[(68,s68)],[],[],[],[],[]⟩
def a1E:Ann:=.seq lfA (.seq lfA (.seq lfA (.seq lfA (.seq (.seq lfA (.blk (.loop [(5,6),(13,14),(32,48)] ⟨[(5,uoM),(32,uiM)],[]⟩ 0 ⟨[(5,uoM)],[]⟩ lfA))) (.seq (.seq lfA (.blk (.loop [(5,6),(15,16),(50,66),(21000000,21000001)] ⟨[(5,uoM),(50,uiM)],[]⟩ 2 ⟨[(5,uoM)],[]⟩ lfA))) lfA)))))
def jM (a0:bW) (a1:Int):Option (List Int):=l9 (bG a0.2.2.2.2.2.1) fun x=>l9
 (bG a0.2.2.2.2.2.2.1) fun x_1=>l9 (O7 (fun(x_2:List Int×Int)=>l7 (ilt x_2.2 (o7 x.2.1)) (l9
 (lat x.2.1 x_2.2) fun x_3=>l9 (O9 x.2.1 (toN x_2.2)) fun x=>l7 (ile 0 x) (l7 (ilt x a1) (l9 (Y2 x_2.1 [x]) fun(x
 :List Int)=>some (.inl (x,o8 .i64 x_2.2 1))) (some (.inl (x_2.1,o8 .i64 x_2.2 1)))) (some (.inl (x_2.1,o8
 .i64 x_2.2 1)))) (some (.inr x_2.1))) ([],0)) fun y=>l9 (O7 (fun(x:List Int×Int)=>l7 (ilt x.2 (o7
 x_1.2.1)) (l9 (lat x_1.2.1 x.2) fun x_2=>l9 (O9 x_1.2.1 (toN x.2)) fun x_3=>l7 (ile 0 x_3) (l7 (ilt x_3 a1) (l9
 (Y2 x.1 [x_3]) fun x_4=>some (.inl (x_4,o8 .i64 x.2 1))) (some (.inl (x.1,o8 .i64 x.2 1)))) (some (.inl
 (x.1,o8 .i64 x.2 1)))) (some (.inr x.1))) (y,0)) fun y=>some y
def a6l:FSpec:=mkS TL VX fun x=>jM x.1 x.2
def a4Q:List MG:=[uoM]
def a5X:Ret:=⟨[(.tmp 2,uoM)],[]⟩
def e69:Env:=⟨7,eqs,tt,gl,[(26,s26),(27,s27)],[],[],[],[],[]⟩
def a9z:Ann:=.leaf
def jO (a0:List Int):Option (List Int):=l9 (bV a0) fun x=>l9 (Y9 x) fun x=>some x
def s69:FSpec:=mkS a4Q a5X fun x=>jO x
def a4O:List MG:=[(true,(.dat y24))]
def a5V:Ret:=⟨[(.tmp 2,(false,(.dat y59)))],[]⟩
def e67:Env:=⟨58,eqs,tt,gl,[(100,a6l),(69,s69)],[(165,oiM)],[7,36,50,53],[],[],[]⟩
def a9x:Ann:=.seq lfA (.seq lfA (.seq (.seq lfA (.blk (.loop [(3,4),(5,6),(15,44),(7000704,7000705)] ⟨[(3,(false,(.owns oiM))),(15,uiM)],[]⟩ 0 ⟨[(3,(false,(.owns oiM)))],[]⟩ lfA))) (.seq (.seq lfA (.blk (.loop [(3,4),(6,8),(44,45),(46,57),(15000000,15000001)] ⟨[(3,(false,(.owns oiM))),(46,uiM)],[(44,3)]⟩ 2 ⟨[(3,(false,(.owns oiM)))],[]⟩ lfA))) lfA)))
def gJ (a0:E8):Option (List (List Int)):=l9 (lT (o7 a0.2.2.2.1) []) fun x=>l9 (O7 (fun(x:
 List (List Int)×Int)=>l7 (ilt x.2 (o7 a0.2.2.2.2)) (l9 (lat a0.2.2.2.2 x.2) fun x_1=>l7 (ile 0 x_1.2.1) (l7 (ilt
 x_1.2.1 (o7 x.1)) (l7 (inb x_1.2.1 (o7 x.1)) (l9 (O9 x.1 (toN x_1.2.1)) fun x_2=>l9 (jM x_1 (o7 x.1))
 fun x_3=>l9 (Y2 x_2 x_3) fun x_4=>l7 (inb x_1.2.1 (o7 x.1)) (l7 (Sr (toN x_1.2.1) (toN x_1.2.1)) (l9
 (O9 x.1 (toN x_1.2.1)) fun x_5=>some (.inl (U0 x.1 (toN x_1.2.1) x_4,o8 .i64 x.2 1))) none) none) none) (some
 (.inl (x.1,o8 .i64 x.2 1)))) (some (.inl (x.1,o8 .i64 x.2 1)))) (some (.inr x.1))) (x,0)) fun y=>
 l9 (O7 (fun(x:List (List Int)×Int)=>l7 (ilt x.2 (o7 y)) (l7 (inb x.2 (o7 x.1)) (l9 (O9 x.1 (toN x.2)) fun x_1=>l9 (jO x_1) fun x_2=>l7 (inb x.2 (o7 x.1)) (l7 (Sr (toN x.2) (toN x.2)) (l9 (O9 x.1 (toN x.2))
 fun x_3=>some (.inl (U0 x.1 (toN x.2) x_2,o8 .i64 x.2 1))) none) none) none) (some (.inr x.1))) (y,0)) fun(y:
 List (List Int))=>some y
def s67:FSpec:=mkS a4O a5V fun x=>gJ x
def a4N:List MG:=[(false,(.dat y59)),uiM]
def a5U:Ret:=⟨[(.tmp 4,uoM)],[]⟩
def e66:Env:=⟨62,eqs,tt,gl,[],[],[],[],[],[]⟩
def a9w:Ann:=.seq lfA (.seq lfA (.seq lfA (.seq (.blk (.loop [(5,8),(9,10),(18,48),(7000960,7000961),(10001088,10001089)] ⟨[(5,(false,(.own .bool))),(6,uoM)],[]⟩ 0 ⟨[(5,(false,(.own .bool)))],[]⟩ (.seq lfA (.blk (.seq lfA (.seq lfA (.seq lfA (.blk (.loop [(5,7),(9,10),(31,48),(14000000,14000002)] ⟨[(5,(false,(.own .bool))),(6,uoM),(31,uiM)],[]⟩ 2 ⟨[(5,(false,(.own .bool))),(6,uoM)],[]⟩ lfA))))))))) (.seq lfA (.seq (.seq lfA (.blk (.loop [(10,13),(50,61)] ⟨[(10,uoM),(50,uiM)],[]⟩ 4 ⟨[(10,uoM)],[]⟩ lfA))) lfA)))))
def nC (a0:List (List Int)) (a1:Int):Option (List Int):=l9 (lT (o7 a0) false) fun x=>l9 (O7 (fun(x:
 List Bool×List Int)=>l7 (ilt 0 (o7 x.2)) (l9 (lat x.2 0) fun x_1=>l9 (O9 x.2 (toN 0)) fun x_2=>l7 (mV 1
 (o7 x.2) (o7 x.2)) (l9 (lat a0 x_2) fun x_3=>l9 (O7 (fun(x:List Bool×List Int×Int)=>l7 (ilt x.2.2 (o7 x_3))
 (l9 (lat x_3 x.2.2) fun x_4=>l9 (lat x.1 x_4) fun x_5=>l9 (O9 x.1 (toN x_4)) fun x_6=>l7 (C9 x_6)
 (l9 (lat x.1 x_4) fun x_7=>l9 (O9 x.1 (toN x_4)) fun x_8=>l9 (Y2 x.2.1 [x_4]) fun x_9=>some
 (.inl (U0 x.1 (toN x_4) true,x_9,o8 .i64 x.2.2 1))) (some (.inl (x.1,x.2.1,o8 .i64 x.2.2 1)))) (some (.inr (x.1,
 x.2.1)))) (x.1,fZ x.2 (toN 1) (toN (o7 x.2)),0)) fun y=>some (.inl y)) none) (some (.inr x.1))) (x,[a1]))
 fun y=>l9 (O7 (fun(x:List Int×Int)=>l7 (ilt x.2 (o7 y)) (l9 (lat y x.2) fun x_1=>l9 (O9 y (toN
 x.2)) fun x_2=>l7 x_2 (l9 (Y2 x.1 [x.2]) fun x_3=>some (.inl (x_3,o8 .i64 x.2 1))) (some (.inl
 (x.1,o8 .i64 x.2 1)))) (some (.inr x.1))) ([],0)) fun y=>some y
def s66:FSpec:=mkS a4N a5U fun x=>nC x.1 x.2
def a4w:List MG:=[(true,(.dat y24)),uiM]
def a5D:Ret:=⟨[(.tmp 4,uoM)],[]⟩
def e39:Env:=⟨18,eqs,tt,gl,[(67,s67),(66,s66)],[],[],[],[],[]⟩
def a9f:Ann:=.leaf
def fA (a0:E8) (a1:Int):Option (List Int):=l7 (ilt a1 0) (some []) (l7 (ile (o7 a0.2.2.2.1) a1) (some []) (l9
 (gJ a0) fun x=>l9 (nC x a1) fun x=>some x))
def s39:FSpec:=mkS a4w a5D fun x=>fA x.1 x.2
def UD:List MG:=[(false,(.dat y38)),uiM]
def Xa:Ret:=⟨[(.tmp 4,uiM)],[]⟩
def b0D:Env:=⟨19,eqs,tt,gl,[],[],[],[],[],[]⟩
def a2t:Ann:=.seq lfA (.seq (.seq lfA (.blk (.loopR [(4,6),(8,19)] ⟨[(8,uiM)],[]⟩ 0 ⟨[],[]⟩ lfA))) lfA)
def iY (a0:List Int) (a1:Int):Option Int:=l9 (N7 (fun(x:Int)=>l7 (ilt x (o7 a0)) (l9 (lat a0 x) fun(x_1
 :Int)=>l7 (ieq a1 x_1) (some (.rt x)) (some (.nx (o8 .i64 x 1)))) (some (.ex ()))) 0) fun o=>J3 o
 (fun(y:PUnit)=>some (-1)) fun r=>some r
def a6Q:FSpec:=mkS UD Xa fun x=>iY x.1 x.2
def Uh:List MG:=[(false,(.dat y38)),uiM]
def WG:Ret:=⟨[(.tmp 4,ubM)],[]⟩
def b0j:Env:=⟨9,eqs,tt,gl,[(173,a6Q)],[],[],[],[],[]⟩
def a1Z:Ann:=.leaf
def gy (a0:List Int) (a1:Int):Option Bool:=l9 (iY a0 a1) fun x=>some (ile 0 x)
def a6C:FSpec:=mkS Uh WG fun x=>gy x.1 x.2
def a5c:List MG:=[(true,(.dat y27)),uiM]
def a6j:Ret:=⟨[(.tmp 4,uiM),(.tmp 5,uiM)],[]⟩
def e98:Env:=⟨163,eqs,tt,gl,[(96,s96),(97,s97),(136,Ia),(135,Pg),(95,s95),(137,a6z),(138,a6A),(139,a6B),(39,s39),(140,a6C)],[],[],[],[],[]⟩
def a9L:Ann:=.seq lfA (.seq lfA (.seq lfA (.seq (.join [(6,7),(8,9),(28,45),(7000384,7000385)] ⟨[(6,(false,(.rp y24))),(8,ubM)],[]⟩ lfA) (.seq (.joinR [(4,6),(45,86)] ⟨[],[]⟩ (.blk (.seq lfA (.cond lfA (.seq lfA (.cond lfA (.seq (.join [(52,76)] ⟨[(52,ubM)],[]⟩ lfA) lfA))))))) (.seq (.seq lfA (.blk (.loopR [(4,6),(9,12),(89,107)] ⟨[(89,uiM)],[]⟩ 1 ⟨[],[]⟩ lfA))) (.seq (.seq lfA (.blk (.loopR [(4,6),(12,15),(110,130)] ⟨[(110,uiM)],[]⟩ 3 ⟨[],[]⟩ lfA))) (.seq lfA (.seq (.seq lfA (.blk (.loopR [(4,6),(16,18),(136,149)] ⟨[(136,uiM)],[]⟩ 5 ⟨[],[]⟩ lfA))) (.seq (.seq lfA (.blk (.loopR [(4,6),(18,19),(152,163)] ⟨[(152,uiM)],[]⟩ 7 ⟨[],[]⟩ lfA))) lfA)))))))))
def qj (a0:iq) (a1:Int):Option x8:=l9 (lat a0.2.2 a1) fun x=>l9 (kK a0.2.2 0 a1) fun x_1
 =>l9 (l9 (kZ a0.1 x.1) fun x_2=>l7 x_2 (some (x,true)) (l9 (nU a0.2.1 x.1) fun x_3=>l7 x_3
 (some (x,true)) (l9 (V5 x_1 x) fun x_4=>some (x,x_4)))) fun x=>l9 (l9
 (U1 x.1.1) fun x_2=>l7 (C9 x_2) (some (.inr (2,0))) (l7 x.2 (some (.inr (7,0))) (l9 (l7 (C9 (ieq
 x.1.2.1 (-1))) (l7 (ilt x.1.2.1 0) (some true) (l7 (ile a1 x.1.2.1) (some true) (l9 (lat x_1 x.1.2.1) fun x=>some (C9 (ieq
 x.2.1 (-1)))))) (some false)) fun x_3=>l7 x_3 (some (.inr (6,0))) (l7 (ilt 12 (o7 x.1.2.2.1)) (some (.inr (4,112))) (l7
 (ilt 12 (o7 x.1.2.2.2.1)) (some (.inr (4,212))) (some (.inl ()))))))) fun o=>J3 o (fun(x_2:PUnit)=>l9
 (N7 (fun(x_3:Int)=>l7 (ilt x_3 (o7 x.1.2.2.1)) (l9 (lat x.1.2.2.1 x_3) fun x_4=>l9 (kK x.1.2.2.1 0 x_3) fun(x:
 List gB)=>l9 (jX a0 x_4 x []) fun x=>l7 (C9 (ieq x 0)) (some (.rt (x,o8 .i64 100 x_3))) (some
 (.nx (o8 .i64 x_3 1)))) (some (.ex ()))) 0) fun o=>J3 o (fun(y:PUnit)=>l9 (N7 (fun(x_3:
 Int)=>l7 (ilt x_3 (o7 x.1.2.2.2.1)) (l9 (lat x.1.2.2.2.1 x_3) fun x_4=>l9 (kK x.1.2.2.2.1 0 x_3) fun x_5
 =>l9 (jX a0 x_4 x.1.2.2.1 x_5) fun x=>l7 (C9 (ieq x 0)) (some (.rt (x,o8 .i64 200 x_3))) (some (.nx
 (o8 .i64 x_3 1)))) (some (.ex ()))) 0) fun o=>J3 o (fun(y:PUnit)=>l9 (jl a0 a1)
 fun x_3=>l9 (N7 (fun(x_4:Int)=>l7 (ilt x_4 (o7 x.1.2.2.2.2)) (l9 (sD x.1 x_4 x_3) fun x=>
 l7 (C9 (ieq x 0)) (some (.rt (x,o8 .i64 300 x_4))) (some (.nx (o8 .i64 x_4 1)))) (some (.ex ()))) 0) fun(o
 :PUnit⊕x8)=>J3 o (fun(y:PUnit)=>l9 (N7 (fun(x_4:Int)=>l7 (ilt x_4 (o7 x.1.2.2.2.1)) (l9 (fA x.1 x_4)
 fun x=>l9 (gy x x_4) fun x=>l7 x (some (.rt (9,o8 .i64 200 x_4))) (some (.nx
 (o8 .i64 x_4 1)))) (some (.ex ()))) 0) fun o=>J3 o (fun(y:PUnit)=>some (0,0)) fun r=>some
 r) fun r=>some r) fun r=>some r) fun r=>some r) fun r=>some r
def s98:FSpec:=mkS a5c a6j fun x=>qj x.1 x.2
def a4K:List MG:=[(true,(.dat y27))]
def a5R:Ret:=⟨[(.cell 2 119,(true,(.dat y32)))],[]⟩
def e63:Env:=⟨31,eqs,tt,gl,[(98,s98)],[],[],[],[],[]⟩
def a9t:Ann:=.seq lfA (.seq lfA (.seq (.seq lfA (.blk (.loopR [(2,6),(14,30),(4000128,4000129)] ⟨[(2,(false,(.box (.dat y32)))),(14,uiM)],[]⟩ 0 ⟨[(2,(false,(.box (.dat y32))))],[]⟩ lfA))) lfA))
def oV (a0:iq):Option F6:=l7 (ilt 4 (o7 a0.2.2)) (some (4,3,4,0)) (l9 (N7 (fun(x:F6×Int)=>
 l7 (ilt x.2 (o7 a0.2.2)) (l9 (qj a0 x.2) fun x_1=>l7 (C9 (ieq x_1.1 0)) (some (.rt (x_1.1,3,x.2,x_1.2)))
 (some (.nx (x.1,o8 .i64 x.2 1)))) (some (.ex x.1))) ((0,0,0,0),0)) fun o=>J3 o (fun(y:
 F6)=>some (0,0,0,0)) fun r=>some r)
def s63:FSpec:=mkS a4K a5R fun x=>oV x
def a4u:List MG:=[(true,(.dat y27))]
def a5B:Ret:=⟨[(.cell 2 119,(true,(.dat y32)))],[]⟩
def e37:Env:=⟨19,eqs,tt,gl,[(61,s61),(62,s62),(63,s63)],[],[],[],[],[]⟩
def a9d:Ann:=.leaf
def uS (a0:iq):Option F6:=l9 (qi a0) fun x=>l7 (C9 (ieq x.1 0)) (some x) (l9
 (oW a0) fun x=>l7 (C9 (ieq x.1 0)) (some x) (l9 (oV a0) fun x=>some x))
def s37:FSpec:=mkS a4u a5B fun x=>uS x
def a4L:List MG:=[(true,(.dat y27)),(false,(.dat y28)),(false,(.dat y11))]
def a5S:Ret:=⟨[(.tmp 6,uiM),(.tmp 7,uiM)],[]⟩
def e64:Env:=⟨71,eqs,tt,gl,[(99,s99)],[],[],[],[],[]⟩
def a9u:Ann:=.seq lfA (.seq lfA (.seq lfA (.seq (.seq lfA (.blk (.loopR [(6,13),(29,71)] ⟨[(29,uiM)],[]⟩ 0 ⟨[],[]⟩ lfA))) lfA)))
def cO (a0:iq) (a1:List E5) (a2:List gB):Option x8:=l7 (ilt (o7 a1) (o7 a2)) (some (o7 a1,5))
 (l7 (ilt (o7 a2) (o7 a1)) (some (o7 a2,4)) (l9 (N7 (fun(x:Int)=>l7 (ilt x (o7 a1)) (l9 (lat a1 x) fun x_1=>
 l9 (lat a2 x) fun x_2=>l7 (C9 (ieq x_1.1 x_2.2.1)) (some (.rt (x,8))) (l7 (C9 (ieq x_1.2.1 x_2.2.2)) (some (.rt (x,
 8))) (l9 (dU x_2.2 a0.1) fun x_3=>l7 (ilt x_1.2.2 x_3.1) (some (.rt (x,3))) (l7 (ilt x_3.2 x_1.2.2) (some (.rt
 (x,3))) (some (.nx (o8 .i64 x 1))))))) (some (.ex ()))) 0) fun o=>J3 o (fun(y:PUnit)=>some (0,0))
 fun r=>some r))
def s64:FSpec:=mkS a4L a5S fun x=>cO x.1 x.2.1 x.2.2
def a4M:List MG:=[(true,(.dat y27)),uiM]
def a5T:Ret:=⟨[(.tmp 4,(false,(.dat y11))),(.tmp 5,uiM)],[]⟩
def e65:Env:=⟨28,eqs,tt,gl,[],[],[],[],[],[]⟩
def a9v:Ann:=.leaf
def iy (a0:iq) (a1:Int):Option (List gB×Int):=l9 (lat a0.2.2 a1) fun x=>l7 (ilt x.2.1 0) (some
 ([],0)) (l7 (ile (o7 a0.2.2) x.2.1) (some ([],0)) (l9 (lat a0.2.2 x.2.1) fun x=>some (x.2.2.1,8)))
def s65:FSpec:=mkS a4M a5T fun x=>iy x.1 x.2
def a4v:List MG:=[(true,(.dat y27)),uiM,(true,(.dat y31))]
def a5C:Ret:=⟨[(.tmp 6,uiM),(.tmp 7,uiM),(.tmp 8,uiM)],[]⟩
def e38:Env:=⟨84,eqs,tt,gl,[(64,s64),(65,s65)],[],[],[],[],[]⟩
def a9e:Ann:=.seq lfA (.seq (.joinR [(6,9),(17,26)] ⟨[],[]⟩ lfA) (.seq (.joinR [(6,9),(26,34)] ⟨[],[]⟩ lfA) (.seq lfA (.seq lfA (.seq lfA (.seq (.seq lfA (.blk (.loopR [(6,9),(13,17),(66,84)] ⟨[(66,uiM)],[]⟩ 0 ⟨[],[]⟩ lfA))) lfA))))))
def kP (a0:iq) (a1:Int) (a2:Bv):Option E5:=l9 (l7 (ilt a1 0) (some (.inr (-1,-1,6))) (l7 (ile (o7
 a0.2.2) a1) (some (.inr (-1,-1,6))) (some (.inl ())))) fun o=>J3 o (fun(x:PUnit)=>l9 (l7 (ilt a2.1
 0) (some (.inr (-1,-1,3))) (l7 (ilt 109572 a2.1) (some (.inr (-1,-1,3))) (some (.inl ())))) fun o=>J3
 o (fun(x:PUnit)=>l9 (lat a0.2.2 a1) fun x=>l9 (cO a0 a2.2.1 x.2.2.1) fun x=>l7 (C9 (ieq
 x.2 0)) (some (-1,x)) (l9 (iy a0 a1) fun x=>l7 (ilt x.2 (o7 a2.2.2)) (some (x.2,-1,4)) (l9
 (N7 (fun(x_1:Int)=>l7 (ilt x_1 (o7 a2.2.2)) (l9 (lat a2.2.2 x_1) fun x_2=>l9 (cO a0 x_2 x.1)
 fun x=>l7 (C9 (ieq x.2 0)) (some (.rt (x_1,x))) (some (.nx (o8 .i64 x_1 1)))) (some (.ex ()))) 0) fun(o
 :PUnit⊕E5)=>J3 o (fun(y:PUnit)=>some (0,0,0)) fun r=>some r))) fun r=>some r) fun r=>some r
def s38:FSpec:=mkS a4v a5C fun x=>kP x.1 x.2.1 x.2.2
def a4k:List MG:=[(true,(.dat y27)),uiM,(true,(.dat y31)),ubM,uiM]
def a5r:Ret:=⟨[(.cell 10 37,(true,(.dat y32)))],[]⟩
def e21:Env:=⟨63,eqs,tt,gl,[(37,s37),(38,s38)],[],[],[],[],[]⟩
def a8S:Ann:=.seq lfA (.seq lfA (.seq (.joinR [(10,11),(21,49),(4000640,4000641)] ⟨[(10,(false,(.box (.dat y32))))],[]⟩ lfA) lfA))
def iC (a0:iq) (a1:Int) (a2:Bv) (a3:Bool) (a4:Int):Option F6:=l9 (uS a0) fun(x:
 F6)=>l7 (C9 (ieq x.1 0)) (some (1,-1,-1,-1)) (l9 (l7 (ilt a1 0) (some (.inr (6,-1,-1,-1))) (l7 (ile (o7 a0.2.2)
 a1) (some (.inr (6,-1,-1,-1))) (l7 a3 (l7 (ilt a4 0) (some (.inr (6,-1,-1,-1))) (l9 (lat a0.2.2 a1) fun x=>l7
 (ile (o7 x.2.2.2.1) a4) (some (.inr (6,-1,-1,-1))) (some (.inl (0,0,0,0))))) (some (.inl (0,0,0,0)))))) fun o=>J3 o (fun(x:F6)=>l9 (kP a0 a1 a2) fun x=>l7 (C9 (ieq x.2.2 0)) (some (x.2.2,x.1,
 -1,-1)) (some (0,0,0,0))) fun r=>some r)
def s21:FSpec:=mkS a4k a5r fun x=>iC x.1 x.2.1 x.2.2.1 x.2.2.2.1 x.2.2.2.2
def a4l:List MG:=[(true,(.dat y27)),uiM]
def a5s:Ret:=⟨[(.tmp 4,(false,(.box (.pair (.dat y24) (.pair (.dat y24) (.pair (.own .bool) (.own .bool)))))))],[]⟩
def e22:Env:=⟨52,eqs,tt,gl,[],[],[],[],[],[]⟩
def a8T:Ann:=.leaf
def oP (a0:iq) (a1:Int):Option U4:=l9 (lat a0.2.2 a1) fun x=>l9 (lT (o7 x.2.2.2.1) false) fun
 (x_1:List Bool)=>l7 (ile 0 x.2.1) (l9 (lat a0.2.2 x.2.1) fun x_2=>l9 (lT (o7 x_2.2.2.2.1) false) fun x_3
 =>some (x,x_2,x_1,x_3)) (some (x,([],0,[],[],[]),x_1,[]))
def s22:FSpec:=mkS a4l a5s fun x=>oP x.1 x.2
def a4x:List MG:=[(true,(.dat y24)),uiM]
def a5E:Ret:=⟨[(.tmp 4,uoM)],[]⟩
def e40:Env:=⟨95,eqs,tt,gl,[(67,s67),(66,s66),(68,s68),(69,s69)],[],[],[],[],[]⟩
def a9g:Ann:=.seq lfA (.seq (.joinR [(4,5),(17,26)] ⟨[],[]⟩ lfA) (.seq lfA (.seq lfA (.seq (.seq lfA (.blk (.loop [(5,6),(7,8),(38,46),(17001856,17001857)] ⟨[(5,(false,(.own .bool))),(38,uiM)],[]⟩ 0 ⟨[(5,(false,(.own .bool)))],[]⟩ lfA))) (.seq lfA (.seq (.seq lfA (.blk (.loop [(8,9),(10,17),(49,93)] ⟨[(8,uoM),(49,uiM)],[]⟩ 2 ⟨[(8,uoM)],[]⟩ lfA))) lfA))))))
def oG (a0:E8) (a1:Int):Option (List Int):=l9 (l7 (ilt a1 0) (some (.inr [])) (l7 (ile (o7 a0.2.2.2.1) a1)
 (some (.inr [])) (some (.inl ())))) fun o=>J3 o (fun(x:PUnit)=>l9 (lT (o7 a0.2.2.2.1) false) fun
 (x:List Bool)=>l9 (lat x a1) fun x_1=>l9 (O9 x (toN a1)) fun x_2=>l9 (gJ a0) fun x_3=>l9 (nC x_3 a1) fun x_4=>l9 (O7 (fun(x:List Bool×Int)=>l7 (ilt x.2 (o7 x_4)) (l9 (lat x_4
 x.2) fun x_5=>l9 (O9 x_4 (toN x.2)) fun x_6=>l9 (lat x.1 x_6) fun x_7=>l9 (O9 x.1 (toN x_6)) fun(x_8:
 Bool)=>some (.inl (U0 x.1 (toN x_6) true,o8 .i64 x.2 1))) (some (.inr x.1))) (U0 x (toN a1) true,0)) fun y=>
 l9 (O7 (fun(x:List Int×Int)=>l7 (ilt x.2 (o7 a0.2.2.2.2)) (l9 (lat a0.2.2.2.2 x.2) fun x_5=>l7 (ilt x_5.2.1 0)
 (some (.inl (x.1,o8 .i64 x.2 1))) (l7 (ile (o7 a0.2.2.2.1) x_5.2.1) (some (.inl (x.1,o8 .i64 x.2 1))) (l9 (lat y
 x_5.2.1) fun x_6=>l9 (O9 y (toN x_5.2.1)) fun x_7=>l7 (C9 x_7) (some (.inl (x.1,o8 .i64 x.2 1))) (l9
 (bG x_5.2.2.2.2.2.1) fun x_8=>l9 (bG x_5.2.2.2.2.2.2.1) fun x_9=>l9 (Y2
 x.1 x_8.2.2) fun x_10=>l9 (Y2 x_10 x_9.2.2) fun x_11=>some (.inl (x_11,o8 .i64 x.2 1)))))) (some
 (.inr x.1))) ([],0)) fun y=>l9 (jO y) fun x=>some x) fun r=>some r
def s40:FSpec:=mkS a4x a5E fun x=>oG x.1 x.2
def a4y:List MG:=[(false,(.box (.pair (.dat y24) (.pair (.dat y24) (.pair (.own .bool) (.own .bool)))))),uiM]
def a5F:Ret:=⟨[],[(0,(true,(.pair (.dat y24) (.pair (.dat y24) (.pair (.own .bool) (.own .bool))))))]⟩
def e41:Env:=⟨30,eqs,tt,gl,[(39,s39)],[],[],[],[0],[]⟩
def a9h:Ann:=.seq lfA (.seq lfA (.blk (.loop [(0,1),(5,6),(19,30),(1000000,1000003)] ⟨[(0,(false,(.box (.pair (.dat y24) (.pair (.dat y24) (.pair (.own .bool) (.own .bool))))))),(19,uiM)],[]⟩ 0 ⟨[(0,(false,(.box (.pair (.dat y24) (.pair (.dat y24) (.pair (.own .bool) (.own .bool)))))))],[]⟩ lfA)))
def dW (a0:U4) (a1:Int):Option U4:=l9 (lat a0.2.2.2 a1) fun x=>l9 (O9 a0.2.2.2
 (toN a1)) fun x=>l9 (fA a0.2.1 a1) fun x=>l9 (O7 (fun(x_1:U4×Int)=>l7 (ilt x_1.2
 (o7 x)) (l9 (lat x x_1.2) fun x_2=>l9 (O9 x (toN x_1.2)) fun x=>l9 (lat x_1.1.2.2.2 x) fun x_3=>l9
 (O9 x_1.1.2.2.2 (toN x)) fun x_4=>some (.inl ((x_1.1.1,x_1.1.2.1,x_1.1.2.2.1,U0 x_1.1.2.2.2 (toN x) true),o8 .i64
 x_1.2 1))) (some (.inr x_1.1))) ((a0.1,a0.2.1,a0.2.2.1,U0 a0.2.2.2 (toN a1) true),0)) fun y=>some y
def s41:FSpec:=mkS a4y a5F fun x=>dW x.1 x.2
def a4m:List MG:=[(false,(.box (.pair (.dat y24) (.pair (.dat y24) (.pair (.own .bool) (.own .bool)))))),uiM]
def a5t:Ret:=⟨[],[(0,(true,(.pair (.dat y24) (.pair (.dat y24) (.pair (.own .bool) (.own .bool))))))]⟩
def e23:Env:=⟨47,eqs,tt,gl,[(39,s39),(40,s40),(41,s41)],[],[],[],[0],[]⟩
def a8U:Ann:=.seq lfA (.seq (.seq lfA (.blk (.loop [(0,1),(5,6),(21,32),(1000000,1000003)] ⟨[(0,(false,(.box (.pair (.dat y24) (.pair (.dat y24) (.pair (.own .bool) (.own .bool))))))),(21,uiM)],[]⟩ 0 ⟨[(0,(false,(.box (.pair (.dat y24) (.pair (.dat y24) (.pair (.own .bool) (.own .bool)))))))],[]⟩ lfA))) (.seq lfA (.blk (.loop [(0,1),(7,8),(39,47),(12000000,12000003)] ⟨[(0,(false,(.box (.pair (.dat y24) (.pair (.dat y24) (.pair (.own .bool) (.own .bool))))))),(39,uiM)],[]⟩ 2 ⟨[(0,(false,(.box (.pair (.dat y24) (.pair (.dat y24) (.pair (.own .bool) (.own .bool)))))))],[]⟩ lfA))))
def jk (a0:U4) (a1:Int):Option U4:=l9 (lat a0.2.2.1 a1) fun x=>l9 (O9 a0.2.2.1 (toN
 a1)) fun x=>l9 (fA a0.1 a1) fun x=>l9 (O7 (fun(x_1:U4×Int)=>l7 (ilt x_1.2 (o7
 x)) (l9 (lat x x_1.2) fun x_2=>l9 (O9 x (toN x_1.2)) fun x=>l9 (lat x_1.1.2.2.1 x) fun x_3=>l9 (O9
 x_1.1.2.2.1 (toN x)) fun x_4=>some (.inl ((x_1.1.1,x_1.1.2.1,U0 x_1.1.2.2.1 (toN x) true,x_1.1.2.2.2),o8 .i64 x_1.2 1)))
 (some (.inr x_1.1))) ((a0.1,a0.2.1,U0 a0.2.2.1 (toN a1) true,a0.2.2.2),0)) fun y=>l9 (oG y.1 a1) fun(x
 :List Int)=>l9 (O7 (fun(x_1:U4×Int)=>l7 (ilt x_1.2 (o7 x)) (l9 (lat x x_1.2) fun x_2=>l9 (O9 x (toN
 x_1.2)) fun x=>l9 (dW x_1.1 x) fun x=>some (.inl (x,o8 .i64 x_1.2 1))) (some
 (.inr x_1.1))) (y,0)) fun y=>some y
def s23:FSpec:=mkS a4m a5t fun x=>jk x.1 x.2
def JP:List MG:=[(false,(.box oiM)),(false,(.ifc 3 diM))]
def KQ:Ret:=⟨[],[(0,(true,oiM))]⟩
def Zp:Env:=⟨20,eqs,tt,gl,[],[],[],[],[0],[]⟩
def RJ:Ann:=.leaf
def kT (a0:List Int) (a1:Int):Option (List Int):=l9 (Y2 a0 [a1]) fun x=>some x
def PG:FSpec:=mkS JP KQ fun x=>kT x.1 x.2
def TN:List MG:=[(false,(.dat y38))]
def VZ:Ret:=⟨[(.tmp 2,uiM)],[]⟩
def a9Q:Env:=⟨5,eqs,tt,gl,[],[],[],[],[],[]⟩
def a1G:Ann:=.leaf
def dN (a0:List Int):Option Int:=some (o7 a0)
def SL:FSpec:=mkS TN VZ fun x=>dN x
def VU:List MG:=[(false,(.dat y38)),uiM,uiM]
def Yn:Ret:=⟨[(.tmp 6,ubM)],[]⟩
def b1O:Env:=⟨16,eqs,tt,gl,[],[],[],[],[],[]⟩
def a3E:Ann:=.leaf
def X4 (a0:List Int) (a1:Int) (a2:Int):Option Bool:=l9 (lat a0 a1) fun x=>l9 (lat a0 a2) fun x_1=>
 some (ilt x x_1)
def a0d:FSpec:=mkS VU Yn fun x=>X4 x.1 x.2.1 x.2.2
def VW:List MG:=[(false,(.ownb (.int .i64))),uiM,uiM]
def Yp:Ret:=⟨[],[(0,uoM)]⟩
def b1Q:Env:=⟨20,eqs,tt,gl,[],[],[],[],[0],[]⟩
def a3G:Ann:=.leaf
def X5 (a0:List Int) (a1:Int) (a2:Int):Option (List Int):=l9 (lat a0 a2) fun x=>l9 (O9 a0 (toN a2)) fun(x
 :Int)=>l9 (lat a0 a1) fun x_1=>l9 (O9 a0 (toN a1)) fun x_2=>l9 (lat a0 a1) fun x_3=>l9 (O9 a0 (toN
 a1)) fun x_4=>l9 (lat (U0 a0 (toN a1) x) a2) fun x_5=>l9 (O9 (U0 a0 (toN a1) x) (toN a2)) fun x_6=>some
 (U0 (U0 a0 (toN a1) x) (toN a2) x_2)
def Td:FSpec:=mkS VW Yp fun x=>X5 x.1 x.2.1 x.2.2
def JA:List MG:=[(false,(.ifc 206 (.box oiM))),uiM]
def Kz:Ret:=⟨[],[(0,(true,oiM))]⟩
def Zb:Env:=⟨23,eqs,tt,gl,[(275,a0d),(278,Td)],[],[],[((206,"Less"),275,some 207),((206,"Swap"),278,some 207)],[0],[]⟩
def Rk:Ann:=.blk (.loop [(0,2),(4,23),(1000000,1000002)] ⟨[(0,(false,(.ifc 206 (.box oiM)))),(1,uiM)],[]⟩ 0 ⟨[(0,(false,(.ifc 206 (.box oiM))))],[]⟩ lfA)
def kR (a0:List Int) (a1:Int):Option (List Int):=l9 (O7 (fun(x:List Int×Int)=>l7 (ieq (ay .i64 (D5
 .i64 x.2 1) 2) x.2) (some (.inr x.1)) (l9 (X4 x.1 x.2 (ay .i64 (D5 .i64 x.2 1) 2)) fun x_1=>
 l7 (C9 x_1) (some (.inr x.1)) (l9 (X5 x.1 (ay .i64 (D5 .i64 x.2 1) 2) x.2) fun x_2=>some
 (.inl (x_2,ay .i64 (D5 .i64 x.2 1) 2))))) (a0,a1)) fun y=>some y
def Ph:FSpec:=mkS JA Kz fun x=>kR x.1 x.2
def Jo:List MG:=[(false,(.ifc 206 (.box oiM))),(false,(.ifc 3 diM))]
def JX:Ret:=⟨[],[(0,(true,oiM))]⟩
def YQ:Env:=⟨12,eqs,tt,gl,[(277,PG),(103,SL),(141,Ph)],[],[],[((206,"Len"),103,some 207),((206,"Push"),277,none)],[0],[]⟩
def QT:Ann:=.leaf
def dX (a0:List Int) (a1:Int):Option (List Int):=l9 (kT a0 a1) fun x=>l9
 (dN x) fun x_1=>l9 (kR x (D5 .i64 x_1 1)) fun x=>some x
def OU:FSpec:=mkS Jo JX fun x=>dX x.1 x.2
def JB:List MG:=[(false,(.ifc 206 (.box oiM))),uiM,uiM]
def KA:Ret:=⟨[(.tmp 6,ubM)],[(0,(true,oiM))]⟩
def Zc:Env:=⟨48,eqs,tt,gl,[(275,a0d),(278,Td)],[],[],[((206,"Less"),275,some 207),((206,"Swap"),278,some 207)],[0],[]⟩
def Rn:Ann:=.seq lfA (.seq lfA (.seq (.blk (.loop [(0,1),(7,11),(12,45),(1000000,1000002)] ⟨[(0,(false,(.ifc 206 (.box oiM)))),(7,uiM)],[]⟩ 0 ⟨[(0,(false,(.ifc 206 (.box oiM)))),(7,uiM)],[]⟩ lfA)) lfA))
def jf (a0:List Int) (a1:Int) (a2:Int):Option (Bool×List Int):=l9 (O7 (fun(x:List Int×Int)=>l7 (ile a2
 (o8 .i64 (az .i64 2 x.2) 1)) (some (.inr x)) (l7 (ilt (o8 .i64 (az .i64 2 x.2) 1) 0) (some (.inr x))
 (l7 (ilt (o8 .i64 (o8 .i64 (az .i64 2 x.2) 1) 1) a2) (l9 (X4 x.1 (o8 .i64 (o8 .i64
 (az .i64 2 x.2) 1) 1) (o8 .i64 (az .i64 2 x.2) 1)) fun x_1=>l7 x_1 (l9 (X4 x.1 (o8
 .i64 (o8 .i64 (az .i64 2 x.2) 1) 1) x.2) fun x_2=>l7 (C9 x_2) (some (.inr x)) (l9 (X5
 x.1 x.2 (o8 .i64 (o8 .i64 (az .i64 2 x.2) 1) 1)) fun x_3=>some (.inl (x_3,o8 .i64 (o8
 .i64 (az .i64 2 x.2) 1) 1)))) (l9 (X4 x.1 (o8 .i64 (az .i64 2 x.2) 1) x.2) fun x_2=>
 l7 (C9 x_2) (some (.inr x)) (l9 (X5 x.1 x.2 (o8 .i64 (az .i64 2 x.2) 1)) fun x_3=>some
 (.inl (x_3,o8 .i64 (az .i64 2 x.2) 1))))) (l9 (X4 x.1 (o8 .i64 (az .i64 2 x.2) 1) x.2) fun
 (x_1:Bool)=>l7 (C9 x_1) (some (.inr x)) (l9 (X5 x.1 x.2 (o8 .i64 (az .i64 2 x.2) 1)) fun x_2=>some (.inl (x_2,o8 .i64 (az .i64 2 x.2) 1))))))) (a0,a1)) fun y=>some (ilt a1 y.2,y.1)
def Pi:FSpec:=mkS JB KA fun x=>jf x.1 x.2.1 x.2.2
def VV:List MG:=[(false,(.box oiM))]
def Yo:Ret:=⟨[(.tmp 2,(false,(.ifc 3 diM)))],[(0,(true,oiM))]⟩
def b1P:Env:=⟨23,eqs,tt,gl,[],[],[],[],[0],[]⟩
def a3F:Ann:=.leaf
def lW (a0:List Int):Option (Int×List Int):=l9 (lat a0 (D5 .i64 (o7 a0) 1)) fun x=>l9 (O9 a0 (toN
 (D5 .i64 (o7 a0) 1))) fun x=>l7 (mV 0 (D5 .i64 (o7 a0) 1) (o7 a0)) (some (x,fZ a0 (toN 0) (toN (D5
 .i64 (o7 a0) 1)))) none
def a7F:FSpec:=mkS VV Yo fun x=>lW x
def Jp:List MG:=[(false,(.ifc 206 (.box oiM)))]
def JY:Ret:=⟨[(.tmp 2,(false,(.ifc 3 diM)))],[(0,(true,oiM))]⟩
def YR:Env:=⟨15,eqs,tt,gl,[(103,SL),(278,Td),(142,Pi),(276,a7F)],[],[],[((206,"Len"),103,some 207),((206,"Pop"),276,none),((206,"Swap"),278,some 207)],[0],[]⟩
def QU:Ann:=.leaf
def jJ (a0:List Int):Option (Int×List Int):=l9 (dN a0) fun x=>l9 (X5 a0 0 (D5
 .i64 x 1)) fun x_1=>l9 (jf x_1 0 (D5 .i64 x 1)) fun x=>l9
 (lW x.2) fun x=>some x
def OV:FSpec:=mkS Jp JY fun x=>jJ x
def a4R:List MG:=[(true,(.dat y24))]
def a5Y:Ret:=⟨[(.tmp 2,uoM),(.tmp 3,uiM)],[]⟩
def e70:Env:=⟨113,eqs,tt,gl,[(67,s67),(102,OU),(103,SL),(104,OV)],[(165,oiM)],[12,50,77,80],[],[],[]⟩
def a9A:Ann:=.seq lfA (.seq lfA (.seq lfA (.seq lfA (.seq lfA (.seq (.seq lfA (.blk (.loop [(5,10),(11,12),(29,65),(10001344,10001345),(13001536,13001537),(16001600,16001601),(16001664,16001665)] ⟨[(5,(false,(.owns oiM))),(6,uoM),(7,(false,(.box oiM))),(29,uiM)],[]⟩ 0 ⟨[(5,(false,(.owns oiM))),(6,uoM),(7,(false,(.box oiM)))],[]⟩ (.seq lfA (.seq lfA (.seq (.blk (.seq lfA (.seq lfA (.seq (.seq lfA (.blk (.loop [(5,6),(11,12),(41,56),(23000000,23000001)] ⟨[(5,(false,(.owns oiM))),(41,uiM)],[]⟩ 2 ⟨[(5,(false,(.owns oiM)))],[]⟩ lfA))) lfA)))) lfA)))))) (.seq lfA (.seq (.blk (.loop [(5,8),(12,15),(16,17),(65,107),(24000000,24000004)] ⟨[(5,(false,(.dat y59))),(6,uoM),(7,(false,(.box oiM))),(12,uoM)],[]⟩ 4 ⟨[(12,uoM)],[]⟩ (.seq lfA (.blk (.seq lfA (.seq lfA (.seq lfA (.blk (.loop [(6,8),(16,17),(86,107),(79000000,79000002),(91004672,91004673)] ⟨[(6,uoM),(7,(false,(.box oiM))),(86,uiM)],[]⟩ 6 ⟨[(6,uoM),(7,(false,(.box oiM)))],[]⟩ lfA))))))))) lfA)))))))
def iW (a0:E8):Option (List Int×Int):=l9 (gJ a0) fun x=>l9 (lT (o7 x) [])
 fun x_1=>l9 (lT (o7 x) 0) fun x_2=>l9 (O7 (fun(x_3:List (List Int)×List Int×List Int×Int)
 =>l7 (ilt x_3.2.2.2 (o7 x)) (l9 (lat x x_3.2.2.2) fun x=>l9 (lat x_3.2.1 x_3.2.2.2) fun x_4=>l9 (O9 x_3.2.1
 (toN x_3.2.2.2)) fun x_5=>l9 (O7 (fun(x_6:List (List Int)×Int)=>l7 (ilt x_6.2 (o7 x)) (l9 (lat x x_6.2) fun x
 =>l7 (inb x (o7 x_6.1)) (l9 (O9 x_6.1 (toN x)) fun x_7=>l9 (Y2 x_7 [x_3.2.2.2]) fun x_8=>l7 (inb x
 (o7 x_6.1)) (l7 (Sr (toN x) (toN x)) (l9 (O9 x_6.1 (toN x)) fun x_9=>some (.inl (U0 x_6.1 (toN x) x_8,o8
 .i64 x_6.2 1))) none) none) none) (some (.inr x_6.1))) (x_3.1,0)) fun y=>l7 (ieq (o7 x) 0) (l9
 (dX x_3.2.2.1 x_3.2.2.2) fun x_6=>some (.inl (y,U0 x_3.2.1 (toN x_3.2.2.2) (o7 x),x_6,o8 .i64
 x_3.2.2.2 1))) (some (.inl (y,U0 x_3.2.1 (toN x_3.2.2.2) (o7 x),x_3.2.2.1,o8 .i64 x_3.2.2.2 1)))) (some (.inr (x_3.1,x_3.2.1,
 x_3.2.2.1)))) (x_1,x_2,[],0)) fun y=>l9 (O7 (fun(x:List (List Int)×Z9)=>l9
 (dN x.2.2.1) fun x_3=>l7 (ilt 0 x_3) (l9 (jJ x.2.2.1) fun x_4=>l9 (Y2 x.2.2.2
 [x_4.1]) fun x_5=>l9 (lat x.1 x_4.1) fun x_6=>l9 (O7 (fun(x:List Int×List Int×Int)=>l7 (ilt x.2.2
 (o7 x_6)) (l9 (lat x_6 x.2.2) fun x_7=>l9 (lat x.1 x_7) fun x_8=>l9 (O9 x.1 (toN x_7)) fun x_9=>l9 (lat
 x.1 x_7) fun x_10=>l9 (O9 x.1 (toN x_7)) fun x_11=>l9 (lat (U0 x.1 (toN x_7) (D5 .i64 x_9 1)) x_7) fun(x_12:
 Int)=>l9 (O9 (U0 x.1 (toN x_7) (D5 .i64 x_9 1)) (toN x_7)) fun x_13=>l7 (ieq x_13 0) (l9 (dX x.2.1
 x_7) fun x_14=>some (.inl (U0 x.1 (toN x_7) (D5 .i64 x_9 1),x_14,o8 .i64 x.2.2 1))) (some (.inl (U0 x.1
 (toN x_7) (D5 .i64 x_9 1),x.2.1,o8 .i64 x.2.2 1)))) (some (.inr (x.1,x.2.1)))) (x.2.1,x_4.2,0)) fun y=>some (.inl (x.1,y.1,y.2,x_5))) (some (.inr x.2.2.2))) (y.1,y.2.1,y.2.2,[])) fun y=>l7 (ilt (o7 y) (o7 x))
 (some ([],9)) (some (y,0))
def s70:FSpec:=mkS a4R a5Y fun x=>iW x
def Ui:List MG:=[(true,(.dat y2)),uiM]
def WH:Ret:=⟨[(.tmp 4,ubM)],[]⟩
def b0k:Env:=⟨19,eqs,tt,gl,[(124,SN)],[],[],[],[],[]⟩
def a2a:Ann:=.leaf
def bu (a0:x8) (a1:Int):Option Bool:=l9 (eY a0) fun x=>l7 x (l7 (ile a0.1 a1) (some (ilt
 a1 a0.2)) (some false)) (some false)
def SQ:FSpec:=mkS Ui WH fun x=>bu x.1 x.2
def JD:List MG:=[(true,(.dat y19)),(false,(.rp (.int .i64))),(false,(.rp (.int .i64)))]
def KD:Ret:=⟨[(.tmp 4,ubM)],[]⟩
def Ze:Env:=⟨15,eqs,tt,gl,[(145,SQ)],[],[],[],[],[]⟩
def Rt:Ann:=.leaf
def jP (a0:bW) (a1:Int) (a2:Int):Option Bool:=l7 (ieq a0.2.1 a1) (l9 (bu a0.2.2.2.2.1 a2) fun(x:
 Bool)=>some x) (some false)
def Ib:FSpec:=mkS JD KD fun x=>jP x.1 x.2.1 x.2.2
def JC:List MG:=[(false,(.dat y20)),(false,(.fn 144 [(.int .i64),(.int .i64)]))]
def KC:Ret:=⟨[(.tmp 4,uoM),(.tmp 5,uoM)],[]⟩
def Zd:Env:=⟨59,eqs,tt,gl,[(144,Ib)],[],[],[],[],[]⟩
def Ro:Ann:=.seq lfA (.seq lfA (.seq lfA (.seq (.seq lfA (.blk (.loop [(6,12),(17,57),(10000896,10000897)] ⟨[(6,uoM),(7,uoM),(8,uoM),(17,uiM)],[]⟩ 0 ⟨[(6,uoM),(7,uoM)],[]⟩ (.seq lfA (.seq lfA (.seq (.blk (.seq lfA (.seq lfA (.seq (.join [(11,12),(22,36)] ⟨[(11,uiM)],[]⟩ lfA) lfA)))) lfA)))))) lfA)))
def jh (a0:List bW) (a1:x8):Option (List Int×List Int):=l9 (lT (o7 a0) 0) fun x=>l9 (O7
 (fun(x:List Int×List Int×List Int×Int)=>l7 (ilt x.2.2.2 (o7 a0)) (l9 (lat a0 x.2.2.2) fun x_1=>l9 (l7 (ile 0
 x_1.2.2.1) (l7 (ilt x_1.2.2.1 x.2.2.2) (l9 (lat x.2.2.1 x_1.2.2.1) fun x_2=>l9 (O9 x.2.2.1 (toN x_1.2.2.1)) fun x=>
 some x) (some (-1))) (some (-1))) fun x_2=>l9 (lat x.2.2.1 x.2.2.2) fun x_3=>l9 (O9 x.2.2.1 (toN x.2.2.2)) fun(x_4:
 Int)=>l9 (jP x_1 a1.1 a1.2) fun x_5=>l7 x_5 (l9 (lat (U0 x.2.2.1 (toN x.2.2.2) x_2) x.2.2.2) fun x_6
 =>l9 (O9 (U0 x.2.2.1 (toN x.2.2.2) x_2) (toN x.2.2.2)) fun x_7=>l9 (Y2 x.1 [x.2.2.2]) fun x_8=>l9 (Y2
 x.2.1 [x_2]) fun x_9=>some (.inl (x_8,x_9,U0 (U0 x.2.2.1 (toN x.2.2.2) x_2) (toN x.2.2.2) (o7 x.1),o8 .i64
 x.2.2.2 1))) (some (.inl (x.1,x.2.1,U0 x.2.2.1 (toN x.2.2.2) x_2,o8 .i64 x.2.2.2 1)))) (some (.inr (x.1,x.2.1)))) ([],[],x,
 0)) fun y=>some y
def Pj:FSpec:=mkS JC KC fun x=>jh x.1 x.2
def TP:List MG:=[(true,(.dat y24)),uiM,uiM]
def We:Ret:=⟨[(.tmp 6,uoM),(.tmp 7,uoM),(.tmp 8,uoM)],[]⟩
def a9R:Env:=⟨40,eqs,tt,gl,[(144,Ib),(143,Pj)],[],[],[],[],[]⟩
def a1H:Ann:=.seq lfA (.seq lfA (.seq lfA (.seq (.seq lfA (.blk (.loop [(11,12),(13,14),(23,37)] ⟨[(11,uoM),(23,uiM)],[]⟩ 0 ⟨[(11,uoM)],[]⟩ lfA))) lfA)))
def lX (a0:E8) (a1:Int) (a2:Int):Option Z9:=l9 (jh a0.2.2.2.2 (a1,a2)) fun x=>l9 (O7 (fun(x_1:List Int×Int)=>l7 (ilt x_1.2 (o7 x.1)) (l9 (lat x.1 x_1.2) fun x_2=>l9 (O9 x.1
 (toN x_1.2)) fun x=>l9 (lat a0.2.2.2.2 x) fun x=>l9 (Y2 x_1.1 [x.2.2.2.1]) fun x=>some (.inl (x,o8
 .i64 x_1.2 1))) (some (.inr x_1.1))) ([],0)) fun y=>some (x.1,x.2,y)
def a6n:FSpec:=mkS TP We fun x=>lX x.1 x.2.1 x.2.2
def TR:List MG:=[(false,(.dat y12))]
def Wi:Ret:=⟨[(.tmp 2,uoM),(.tmp 3,uiM)],[]⟩
def a9T:Env:=⟨15,eqs,tt,gl,[(149,ZN)],[],[],[],[],[]⟩
def a1J:Ann:=.leaf
def xI (a0:List x8):Option (List Int×Int):=l9 (jU a0) fun x=>some (x.1,x.2.2)
def a6p:FSpec:=mkS TR Wi fun x=>xI x
def Un:List MG:=[(true,(.dat y61)),uiM]
def WN:Ret:=⟨[(.tmp 4,uoM)],[]⟩
def b0p:Env:=⟨36,eqs,tt,gl,[(175,MK)],[],[],[],[],[]⟩
def a2f:Ann:=.seq lfA (.seq lfA (.seq lfA (.seq (.seq lfA (.blk (.loop [(5,8),(21,35),(7000960,7000961)] ⟨[(5,uoM),(6,uiM),(7,uiM)],[]⟩ 0 ⟨[(5,uoM)],[]⟩ lfA))) lfA)))
def fU (a0:I5) (a1:Int):Option (List Int):=l9 (lat a0.1 a1) fun x=>l9 (fK x.1) fun
 (x:Int)=>l9 (lT x 0) fun x=>l9 (O7 (fun(x:List Int×x8)=>l7 (ile 0 x.2.2) (l9 (lat x.1 x.2.2) fun(x_1:
 Int)=>l9 (O9 x.1 (toN x.2.2)) fun x_2=>l9 (lat a0.2.1 x.2.1) fun x_3=>some (.inl (U0 x.1 (toN x.2.2) x.2.1,D5
 .i64 x_3 1,D5 .i64 x.2.2 1))) (some (.inr x.1))) (x,D5 .i64 a1 1,D5 .i64 (o7 x) 1)) fun y=>
 some y
def a6F:FSpec:=mkS Un WN fun x=>fU x.1 x.2
def UL:List MG:=[(true,(.dat y3))]
def Xi:Ret:=⟨[(.tmp 2,ubM)],[]⟩
def b0M:Env:=⟨83,eqs,tt,gl,[],[],[],[],[],[]⟩
def a2C:Ann:=.seq lfA (.seq (.joinR [(2,11)] ⟨[],[]⟩ lfA) lfA)
def V9 (a0:E5):Option Bool:=l9 (l7 (C9 (ieq a0.1 6)) (l7 (C9 (ieq a0.2.1 0)) (some (.inr false)) (some (.inl
 ()))) (some (.inl ()))) fun o=>J3 o (fun(x:PUnit)=>l7 (ieq a0.1 1) (l7 (ieq a0.2.2 0) (some true)
 (some (ieq a0.2.2 1))) (l7 (ieq a0.1 2) (l7 (ile (-1000000000000) a0.2.2) (some (ile a0.2.2 1000000000000)) (some false)) (l7 (ieq a0.1 3)
 (l7 (ile (-1000000000000000) a0.2.2) (some (ile a0.2.2 1000000000000000)) (some false)) (l7 (ieq a0.1 4) (l7 (ile (-1000000000) a0.2.2)
 (some (ile a0.2.2 1000000000)) (some false)) (l7 (ieq a0.1 5) (l7 (ile 0 a0.2.2) (some (ile a0.2.2 109572)) (some false)) (l7 (ieq a0.1 6)
 (l7 (ile 0 a0.2.1) (l7 (ilt a0.2.1 8) (l7 (ile 0 a0.2.2) (some (ilt a0.2.2 16)) (some false)) (some false)) (some false)) (some false)))))))
 fun r=>some r
def Ig:FSpec:=mkS UL Xi fun x=>V9 x
def UG:List MG:=[(true,(.dat y2))]
def Xd:Ret:=⟨[(.tmp 2,ubM)],[]⟩
def b0H:Env:=⟨48,eqs,tt,gl,[(175,MK),(195,ZP)],[],[],[],[],[]⟩
def a2x:Ann:=.seq lfA (.seq (.joinR [(2,18)] ⟨[],[]⟩ lfA) (.seq (.seq lfA (.blk (.seq (.join [(20,24)] ⟨[(20,ubM)],[]⟩ lfA) lfA))) lfA))
def oH (a0:x8):Option Bool:=l9 (l9 (fK a0.1) fun x=>l7 (ilt x 0) (some (.inr false)) (l7 (C9
 (ieq a0.2 0)) (l9 (tN a0.1) fun x=>l7 (C9 x) (some (.inr false)) (some (.inl ()))) (some (.inl
 ())))) fun o=>J3 o (fun(x:PUnit)=>l9 (l7 (ieq a0.1 14) (some (ieq a0.1 14)) (l7 (ieq a0.1 15) (some (ieq
 a0.1 15)) (some (ieq a0.1 16)))) fun x=>l7 x (l7 (ile 0 a0.2) (some (ile a0.2 5)) (some false)) (l7 (ieq a0.1 34) (l7 (ile 0
 a0.2) (some (ile (gW a0.2 8) 5)) (some false)) (l7 (ieq a0.1 6) (some (ile 0 a0.2)) (some true)))) fun r=>some r
def a6S:FSpec:=mkS UG Xd fun x=>oH x
def UH:List MG:=[(true,(.dat y2)),(true,(.dat y54))]
def Xe:Ret:=⟨[(.tmp 4,ubM)],[]⟩
def b0I:Env:=⟨81,eqs,tt,gl,[],[],[],[],[],[]⟩
def a2y:Ann:=.seq lfA (.seq (.seq lfA (.blk (.seq lfA (.cond lfA (.seq lfA (.cond lfA (.seq lfA (.cond lfA (.seq lfA (.cond lfA (.seq (.join [(65,70)] ⟨[(65,ubM)],[]⟩ lfA) lfA))))))))))) lfA)
def xF (a0:x8) (a1:kJ):Option Bool:=l7 (ieq a0.1 7) (l7 (ile 0 a0.2) (some (ilt a0.2 (o7 a1.2.1))) (some false)) (l7
 (ieq a0.1 8) (l7 (ile 0 a0.2) (l7 (ilt a0.2 (o7 a1.2.2.1)) (l9 (lat a1.2.2.1 a0.2) fun x=>some (C9 (ieq x.1 0))) (some
 false)) (some false)) (l7 (ieq a0.1 33) (l7 (ile 0 a0.2) (some (ilt a0.2 (o7 a1.2.2.2.2.2))) (some false)) (l7 (ieq a0.1 34) (some (ilt
 (ay .i64 a0.2 8) (o7 a1.2.2.2.2.2))) (l9 (l7 (ieq a0.1 36) (some (ieq a0.1 36)) (l7 (ieq a0.1 37) (some (ieq a0.1 37)) (l7
 (ieq a0.1 38) (some (ieq a0.1 38)) (some (ieq a0.1 39))))) fun x=>l7 x (l7 (ile 0 a0.2) (some (ilt a0.2 (o7 a1.2.2.2.2.1))) (some
 false)) (some true)))))
def a6T:FSpec:=mkS UH Xe fun x=>xF x.1 x.2
def UI:List MG:=[(false,(.dat y28))]
def Xf:Ret:=⟨[(.tmp 2,ubM)],[]⟩
def b0J:Env:=⟨15,eqs,tt,gl,[(182,Ig)],[],[],[],[],[]⟩
def a2z:Ann:=.seq lfA (.seq (.seq lfA (.blk (.loopR [(2,3),(4,5),(7,15)] ⟨[(7,uiM)],[]⟩ 0 ⟨[],[]⟩ lfA))) lfA)
def kV (a0:List E5):Option Bool:=l9 (N7 (fun(x:Int)=>l7 (ilt x (o7 a0)) (l9 (lat a0 x) fun x_1
 =>l9 (V9 x_1) fun x_2=>l7 (C9 x_2) (some (.rt false)) (some (.nx (o8 .i64 x 1)))) (some (.ex
 ()))) 0) fun o=>J3 o (fun(y:PUnit)=>some true) fun r=>some r
def a6U:FSpec:=mkS UI Xf fun x=>kV x
def UU:List MG:=[(true,(.dat y3)),(true,(.dat y2))]
def Xp:Ret:=⟨[(.tmp 4,ubM)],[]⟩
def b0T:Env:=⟨21,eqs,tt,gl,[(182,Ig)],[],[],[],[],[]⟩
def a2J:Ann:=.leaf
def nN (a0:E5) (a1:x8):Option Bool:=l9 (V9 a0) fun x=>l7 x (l7 (ieq a0.1 a1.1) (some (ieq
 a0.2.1 a1.2)) (some false)) (some false)
def ZQ:FSpec:=mkS UU Xp fun x=>nN x.1 x.2
def Vj:List MG:=[uiM]
def XD:Ret:=⟨[(.tmp 2,ubM)],[]⟩
def b1g:Env:=⟨13,eqs,tt,gl,[],[],[],[],[],[]⟩
def a2W:Ann:=.leaf
def ed (a0:Int):Option Bool:=l7 (ieq a0 2) (some true) (l7 (ieq a0 3) (some true) (some (ieq a0 4)))
def SV:FSpec:=mkS Vj XD fun x=>ed x
def UV:List MG:=[uiM,(true,(.dat y2))]
def Xq:Ret:=⟨[(.tmp 4,ubM)],[]⟩
def b0U:Env:=⟨32,eqs,tt,gl,[(214,SV)],[],[],[],[],[]⟩
def a2K:Ann:=.leaf
def jR (a0:Int) (a1:x8):Option Bool:=l7 (C9 (ieq a1.2 0)) (some false) (l7 (ieq a0 36) (l7 (ieq a1.1 2) (some
 true) (some (ieq a1.1 3))) (l7 (ieq a0 39) (l9 (ed a1.1) fun x=>l7 x (some true) (some (ieq a1.1 5))) (some (ieq a1.1
 1))))
def a7b:FSpec:=mkS UV Xq fun x=>jR x.1 x.2
def UW:List MG:=[uiM,uiM]
def Xr:Ret:=⟨[(.tmp 4,ubM)],[]⟩
def b0V:Env:=⟨16,eqs,tt,gl,[(214,SV)],[],[],[],[],[]⟩
def a2L:Ann:=.leaf
def kW (a0:Int) (a1:Int):Option Bool:=l7 (ieq a0 10) (l9 (ed a1) fun x=>some x) (l7 (ieq a0 25)
 (some (ieq a1 1)) (some (ieq a1 5)))
def a7c:FSpec:=mkS UW Xr fun x=>kW x.1 x.2
def UY:List MG:=[(true,(.dat y3)),(true,(.dat y3))]
def Xu:Ret:=⟨[(.tmp 4,ubM)],[]⟩
def b0X:Env:=⟨17,eqs,tt,gl,[],[],[],[],[],[]⟩
def a2N:Ann:=.leaf
def eF (a0:E5) (a1:E5):Option Bool:=l7 (ieq a0.1 a1.1) (some (ieq a0.2.1 a1.2.1)) (some false)
def ZR:FSpec:=mkS UY Xu fun x=>eF x.1 x.2
def UX:List MG:=[uiM,(true,(.dat y3)),(true,(.dat y3))]
def Xt:Ret:=⟨[(.tmp 6,ubM)],[]⟩
def b0W:Env:=⟨134,eqs,tt,gl,[(200,ZR),(214,SV)],[],[],[],[],[]⟩
def a2M:Ann:=.seq lfA (.seq (.joinR [(6,126)] ⟨[],[]⟩ (.seq lfA (.blk (.seq (.join [(8,11)] ⟨[(8,ubM)],[]⟩ lfA) (.cond lfA (.seq lfA (.cond lfA (.seq lfA (.cond lfA (.seq lfA (.cond lfA (.seq lfA (.cond lfA (.seq (.join [(80,85)] ⟨[(80,ubM)],[]⟩ lfA) (.cond lfA (.seq (.join [(98,101)] ⟨[(98,ubM)],[]⟩ lfA) lfA)))))))))))))))) lfA)
def jQ (a0:Int) (a1:E5) (a2:E5):Option Bool:=l9 (l9 (l7 (ieq a0 11) (some (ieq a0 11)) (some (ieq a0 12)))
 fun x=>l7 x (l9 (eF a1 a2) fun x=>l7 x (l9 (ed a1.1) fun x=>some (.inr x))
 (some (.inr false))) (l7 (ieq a0 13) (l7 (ieq a2.1 2) (l7 (ieq a1.1 2) (some (.inr true)) (some (.inr (ieq a1.1 3)))) (some
 (.inr false))) (l7 (ieq a0 14) (l7 (ieq a2.1 4) (l7 (ieq a1.1 3) (some (.inr true)) (some (.inr (ieq a1.1 4)))) (some (.inr
 false))) (l7 (ieq a0 15) (l7 (ieq a2.1 2) (l7 (ieq a1.1 2) (some (.inr true)) (some (.inr (ieq a1.1 3)))) (l7 (ieq a1.1 3) (some
 (.inr (ieq a2.1 3))) (some (.inr false)))) (l7 (ieq a0 16) (l7 (ieq a1.1 3) (some (.inr (ieq a2.1 3))) (some (.inr false))) (l9
 (l7 (ieq a0 17) (some (ieq a0 17)) (l7 (ieq a0 18) (some (ieq a0 18)) (l7 (ieq a0 21) (some (ieq a0 21)) (some (ieq a0 22))))) fun(x:
 Bool)=>l7 x (l9 (eF a1 a2) fun x=>l7 x (l9 (ed a1.1) fun x=>l7 x (some (.inr true))
 (some (.inr (ieq a1.1 5)))) (some (.inr false))) (l9 (l7 (ieq a0 19) (some (ieq a0 19)) (some (ieq a0 20))) fun x=>l7 x
 (l9 (eF a1 a2) fun x=>some (.inr x)) (l7 (ieq a0 23) (l7 (ieq a0 23) (l7 (ieq a1.1 1) (some (.inr (ieq a2.1
 1))) (some (.inr false))) (l7 (ieq a0 27) (l7 (ieq a0 27) (l7 (ieq a1.1 5) (some (.inr (ieq a2.1 2))) (some (.inr false))) (some
 (.inl ()))) (l7 (ieq a0 28) (l7 (ieq a1.1 5) (some (.inr (ieq a2.1 2))) (some (.inr false))) (some (.inl ())))))
 (l7 (ieq a0 24) (l7 (ieq a1.1 1) (some (.inr (ieq a2.1 1))) (some (.inr false))) (l7 (ieq a0 27) (l7 (ieq a0 27) (l7 (ieq a1.1
 5) (some (.inr (ieq a2.1 2))) (some (.inr false))) (some (.inl ()))) (l7 (ieq a0 28) (l7 (ieq a1.1 5) (some (.inr (ieq a2.1
 2))) (some (.inr false))) (some (.inl ()))))))))))))) fun o=>J3 o (fun(x:PUnit)=>l7 (ieq a1.1 5) (some
 (ieq a2.1 5)) (some false)) fun r=>some r
def a7d:FSpec:=mkS UX Xt fun x=>jQ x.1 x.2.1 x.2.2
def UJ:List MG:=[(true,(.dat y2)),(false,(.dat y28)),(true,(.dat y54))]
def Xg:Ret:=⟨[(.tmp 6,ubM)],[]⟩
def b0K:Env:=⟨133,eqs,tt,gl,[(182,Ig),(196,ZQ),(197,a7b),(198,a7c),(199,a7d),(200,ZR)],[],[],[],[],[]⟩
def a2A:Ann:=.seq lfA (.seq (.joinR [(6,95)] ⟨[],[]⟩ (.seq lfA (.blk (.seq lfA (.cond lfA (.seq lfA (.cond lfA (.seq lfA (.cond lfA (.seq lfA (.cond lfA (.seq (.join [(81,86)] ⟨[(81,ubM)],[]⟩ lfA) lfA)))))))))))) lfA)
def uM (a0:x8) (a1:List E5) (a2:kJ):Option Bool:=l9 (l7 (ieq a0.1 7) (l9 (lat a2.2.1 a0.2) fun x=>
 l9 (V9 x) fun x=>some (.inr x)) (l7 (ieq a0.1 8) (l9 (lat a2.2.2.1 a0.2) fun x=>l9 (V9
 x) fun x=>some (.inr x)) (l7 (ieq a0.1 33) (l9 (lat a2.2.2.2.2.2 a0.2) fun x=>l9 (lat a1 0) fun x_1=>
 l9 (nN x_1 x.2.1) fun x_2=>l7 x_2 (l7 (ile 1 x.2.2.1.1) (some (.inr (ile x.2.2.1.1 6))) (some (.inr false)))
 (some (.inr false))) (l7 (ieq a0.1 34) (l9 (lat a2.2.2.2.2.2 (ay .i64 a0.2 8)) fun x=>l9 (lat a1 0) fun(x_1:
 E5)=>l7 (ieq x_1.1 3) (l7 (U7 (ieq x.2.1.1 3) (ieq x.2.1.2 0)) (some (.inr (U7 (ieq x.2.2.1.1 4) (ieq x.2.2.1.2 0)))) (some
 (.inr false))) (some (.inr false))) (l9 (l7 (ieq a0.1 36) (some (ieq a0.1 36)) (l7 (ieq a0.1 37) (some (ieq a0.1 37)) (l7 (ieq a0.1
 38) (some (ieq a0.1 38)) (some (ieq a0.1 39))))) fun x=>l7 x (l9 (lat a2.2.2.2.2.1 a0.2) fun x=>l9
 (jR a0.1 x) fun x=>some (.inr x)) (some (.inl ()))))))) fun o=>J3 o (fun(x:PUnit)=>
 l7 (ieq (o7 a1) 1) (l9 (lat a1 0) fun x=>l9 (kW a0.1 x.1) fun x=>some x) (l7 (ieq (o7 a1) 2)
 (l9 (lat a1 0) fun x=>l9 (lat a1 1) fun x_1=>l9 (jQ a0.1 x x_1) fun x=>some x) (l7
 (ieq (o7 a1) 3) (l9 (lat a1 0) fun x=>l7 (ieq x.1 1) (l9 (lat a1 1) fun x=>l9 (lat a1 2) fun x_1
 =>l9 (eF x x_1) fun x=>some x) (some false)) (some true)))) fun r=>some r
def a6V:FSpec:=mkS UJ Xg fun x=>uM x.1 x.2.1 x.2.2
def UZ:List MG:=[(true,(.dat y2)),(true,(.dat y54))]
def Xv:Ret:=⟨[(.cell 4 41,(true,(.dat y3))),(.tmp 5,uiM)],[]⟩
def b0Y:Env:=⟨113,eqs,tt,gl,[(196,ZQ),(182,Ig)],[],[],[],[],[]⟩
def a2O:Ann:=.seq lfA (.seq lfA (.seq lfA (.seq (.join [(7,8),(22,26),(10000448,10000449)] ⟨[(7,(false,(.box (.dat y3))))],[]⟩ lfA) (.seq (.joinR [(4,6),(26,36),(4000256,4000257)] ⟨[(4,(false,(.box (.dat y3))))],[]⟩ lfA) (.seq (.seq lfA (.blk (.loopR [(4,6),(7,11),(39,112),(12000000,12000001),(20000000,20000001)] ⟨[(4,(false,(.box (.dat y3)))),(7,(false,(.box (.dat y3)))),(39,uiM)],[]⟩ 0 ⟨[(4,(false,(.box (.dat y3)))),(7,(false,(.box (.dat y3))))],[]⟩ (.seq lfA (.seq lfA (.seq (.blk (.seq lfA (.seq (.joinR [(4,6),(44,59),(35000000,35000001)] ⟨[(4,(false,(.box (.dat y3))))],[]⟩ lfA) lfA))) lfA)))))) lfA)))))
def lZ (a0:x8) (a1:kJ):Option A7:=l9 (lat a1.2.2.2.2.1 a0.2) fun x=>l9 (l7 (ieq a0.1 37)
 (some (x.1,x.2,1)) (some (x.1,x.2,0))) fun x_1=>l9 (l7 (ieq a0.1 39) (l7 (ieq (o7 a1.2.2.2.1) 0) (some (.inr ((0,0,
 0),6))) (some (.inl (0,0,0)))) (some (.inl (0,0,0)))) fun o=>J3 o (fun(x_2:E5)=>l9 (N7
 (fun(x_3:E5×A7)=>l7 (ilt x_3.2.2 (o7 a1.2.2.2.1)) (l9 (lat a1.2.2.2.1 x_3.2.2) fun x_4=>l9
 (l7 (ile (o7 x_4) a0.2) (some (.inr ((0,0,0),6))) (l9 (lat x_4 a0.2) fun x=>l7 (ieq x.1 0) (some (.inr ((0,0,0),
 6))) (some (.inl x_3.1)))) fun o=>J3 o (fun(x_5:E5)=>l9 (lat x_4 a0.2) fun x_6=>l9
 (nN x_6 x) fun x=>l7 (C9 x) (some (.rt ((0,0,0),8))) (l7 (ieq a0.1 36) (l9 (V9 (x_3.2.1.1,
 x_3.2.1.2.1,o8 .i64 x_3.2.1.2.2 x_6.2.2)) fun x=>l7 (C9 x) (some (.rt ((0,0,0),3))) (some (.nx (x_5,(x_3.2.1.1,
 x_3.2.1.2.1,o8 .i64 x_3.2.1.2.2 x_6.2.2),o8 .i64 x_3.2.2 1)))) (l7 (ieq a0.1 37) (some (.nx (x_5,(x_3.2.1.1,x_3.2.1.2.1,
 yD x_3.2.1.2.2 x_6.2.2),o8 .i64 x_3.2.2 1))) (l7 (ieq a0.1 38) (some (.nx (x_5,(x_3.2.1.1,x_3.2.1.2.1,lQ x_3.2.1.2.2 x_6.2.2),
 o8 .i64 x_3.2.2 1))) (l7 (ieq a0.1 39) (l7 (ieq x_3.2.2 0) (some (.nx (x_5,x_6,o8 .i64 x_3.2.2 1))) (l7 (ilt
 x_3.2.1.2.2 x_6.2.2) (some (.nx (x_5,x_6,o8 .i64 x_3.2.2 1))) (some (.nx (x_5,x_3.2.1,o8 .i64 x_3.2.2 1))))) (some
 (.nx (x_5,x_3.2.1,o8 .i64 x_3.2.2 1)))))))) fun r=>some (.rt r)) (some (.ex (x_3.1,x_3.2.1)))) (x_2,x_1,
 0)) fun o=>J3 o (fun(y:E5×E5)=>some (y.2,0)) fun r=>some r) fun(r
 :A7)=>some r
def a7e:FSpec:=mkS UZ Xv fun x=>lZ x.1 x.2
def JO:List MG:=[(true,(.dat y4)),(false,(.rp (.int .i64))),(false,(.rp (.int .i64)))]
def KP:Ret:=⟨[(.tmp 4,ubM)],[]⟩
def Zo:Env:=⟨21,eqs,tt,gl,[(145,SQ)],[],[],[],[],[]⟩
def RI:Ann:=.leaf
def qQ (a0:yT) (a1:Int) (a2:Int):Option Bool:=l9 (bu a0.1 a1) fun x=>l7 x (l7 (ile a0.2.1
 a2) (some (ilt a2 a0.2.2.1)) (some false)) (some false)
def Ih:FSpec:=mkS JO KP fun x=>qQ x.1 x.2.1 x.2.2
def Jr:List MG:=[(false,(.dat y5)),(false,(.fn 215 [(.int .i64),(.int .i64)]))]
def Ko:Ret:=⟨[(.tmp 4,uiM),(.tmp 5,ubM)],[]⟩
def YT:Env:=⟨20,eqs,tt,gl,[(215,Ih)],[],[],[],[],[]⟩
def QW:Ann:=.seq lfA (.seq (.seq lfA (.blk (.loopR [(4,8),(10,20)] ⟨[(10,uiM)],[]⟩ 0 ⟨[],[]⟩ lfA))) lfA)
def ik (a0:List yT) (a1:x8):Option (Int×Bool):=l9 (N7 (fun(x:Int)=>l7 (ilt x (o7 a0)) (l9 (lat
 a0 x) fun x_1=>l9 (qQ x_1 a1.1 a1.2) fun x_2=>l7 x_2 (some (.rt (x,true))) (some (.nx (o8
 .i64 x 1)))) (some (.ex ()))) 0) fun o=>J3 o (fun(y:PUnit)=>some (0,false)) fun r
 =>some r
def OX:FSpec:=mkS Jr Ko fun x=>ik x.1 x.2
def Va:List MG:=[(true,(.dat y8)),uiM,uiM]
def Xw:Ret:=⟨[(.tmp 6,uiM),(.tmp 7,ubM)],[]⟩
def b0Z:Env:=⟨14,eqs,tt,gl,[(215,Ih),(125,OX)],[],[],[],[],[]⟩
def a2P:Ann:=.leaf
def vW (a0:ja) (a1:Int) (a2:Int):Option (Int×Bool):=l9 (ik a0.2.2.2 (a1,a2)) fun x=>
 some x
def a7f:FSpec:=mkS Va Xw fun x=>vW x.1 x.2.1 x.2.2
def b1X:List MG:=[(false,(.dat (.int .u64))),(false,(.dat (.int .u64)))]
def s85:FSpec:=⟨b1X,[(false,(.dat (.int .u64))),(false,(.dat (.int .u64)))],[],fun x=>fP x.1 x.2⟩
def a4U:List MG:=[(false,(.dat (.int .u64)))]
def a6b:Ret:=⟨[(.tmp 2,uiM)],[]⟩
def e83:Env:=⟨25,eqs,tt,gl,[],[],[],[],[],[]⟩
def a9D:Ann:=.leaf
def pg (a0:Int):Option Int:=l7 (ile 4294967296 a0) (l7 (ile 65536 (bK .u64 a0 32)) (l7 (ile 256 (bK .u64
 (bK .u64 a0 32) 16)) (l9 (sat [0,1,2,2,3,3,3,3,4,4,4,4,4,4,4,4,5,5,5,5,5,5,5,5,5,5,5,5,5,5,5,5,6,6,6,
 6,6,6,6,6,6,6,6,6,6,6,6,6,6,6,6,6,6,6,6,6,6,6,6,6,6,6,6,6,7,7,7,7,7,7,7,7,7,7,7,7,7,7,7,7,7,7,7,7,7,
 7,7,7,7,7,7,7,7,7,7,7,7,7,7,7,7,7,7,7,7,7,7,7,7,7,7,7,7,7,7,7,7,7,7,7,7,7,7,7,7,7,7,7,8,8,8,8,8,8,8,
 8,8,8,8,8,8,8,8,8,8,8,8,8,8,8,8,8,8,8,8,8,8,8,8,8,8,8,8,8,8,8,8,8,8,8,8,8,8,8,8,8,8,8,8,8,8,8,8,8,8,
 8,8,8,8,8,8,8,8,8,8,8,8,8,8,8,8,8,8,8,8,8,8,8,8,8,8,8,8,8,8,8,8,8,8,8,8,8,8,8,8,8,8,8,8,8,8,8,8,8,8,
 8,8,8,8,8,8,8,8,8,8,8,8,8,8,8,8,8,8,8,8,8] (wrap .u8 (bK .u64 (bK .u64 (bK .u64 a0 32) 16) 8)))
 fun x=>some (o8 .i64 (o8 .i64 (o8 .i64 32 16) 8) (wrap .i64 x))) (l9 (sat [0,1,2,2,3,3,3,3,4,
 4,4,4,4,4,4,4,5,5,5,5,5,5,5,5,5,5,5,5,5,5,5,5,6,6,6,6,6,6,6,6,6,6,6,6,6,6,6,6,6,6,6,6,6,6,6,6,6,6,6,
 6,6,6,6,6,7,7,7,7,7,7,7,7,7,7,7,7,7,7,7,7,7,7,7,7,7,7,7,7,7,7,7,7,7,7,7,7,7,7,7,7,7,7,7,7,7,7,7,7,7,
 7,7,7,7,7,7,7,7,7,7,7,7,7,7,7,7,7,7,7,8,8,8,8,8,8,8,8,8,8,8,8,8,8,8,8,8,8,8,8,8,8,8,8,8,8,8,8,8,8,8,
 8,8,8,8,8,8,8,8,8,8,8,8,8,8,8,8,8,8,8,8,8,8,8,8,8,8,8,8,8,8,8,8,8,8,8,8,8,8,8,8,8,8,8,8,8,8,8,8,8,8,
 8,8,8,8,8,8,8,8,8,8,8,8,8,8,8,8,8,8,8,8,8,8,8,8,8,8,8,8,8,8,8,8,8,8,8,8,8,8,8,8,8,8,8,8,8,8,8] (wrap
 .u8 (bK .u64 (bK .u64 a0 32) 16))) fun x=>some (o8 .i64 (o8 .i64 32 16) (wrap .i64 x))))
 (l7 (ile 256 (bK .u64 a0 32)) (l9 (sat [0,1,2,2,3,3,3,3,4,4,4,4,4,4,4,4,5,5,5,5,5,5,5,5,5,5,5,5,5,5,5,
 5,6,6,6,6,6,6,6,6,6,6,6,6,6,6,6,6,6,6,6,6,6,6,6,6,6,6,6,6,6,6,6,6,7,7,7,7,7,7,7,7,7,7,7,7,7,7,7,7,7,
 7,7,7,7,7,7,7,7,7,7,7,7,7,7,7,7,7,7,7,7,7,7,7,7,7,7,7,7,7,7,7,7,7,7,7,7,7,7,7,7,7,7,7,7,7,7,7,8,8,8,
 8,8,8,8,8,8,8,8,8,8,8,8,8,8,8,8,8,8,8,8,8,8,8,8,8,8,8,8,8,8,8,8,8,8,8,8,8,8,8,8,8,8,8,8,8,8,8,8,8,8,
 8,8,8,8,8,8,8,8,8,8,8,8,8,8,8,8,8,8,8,8,8,8,8,8,8,8,8,8,8,8,8,8,8,8,8,8,8,8,8,8,8,8,8,8,8,8,8,8,8,8,
 8,8,8,8,8,8,8,8,8,8,8,8,8,8,8,8,8,8,8,8,8,8,8,8,8] (wrap .u8 (bK .u64 (bK .u64 a0 32) 8))) fun(x:
 Int)=>some (o8 .i64 (o8 .i64 32 8) (wrap .i64 x))) (l9 (sat [0,1,2,2,3,3,3,3,4,4,4,4,4,4,4,4,5,5,5,
 5,5,5,5,5,5,5,5,5,5,5,5,5,6,6,6,6,6,6,6,6,6,6,6,6,6,6,6,6,6,6,6,6,6,6,6,6,6,6,6,6,6,6,6,6,7,7,7,7,7,
 7,7,7,7,7,7,7,7,7,7,7,7,7,7,7,7,7,7,7,7,7,7,7,7,7,7,7,7,7,7,7,7,7,7,7,7,7,7,7,7,7,7,7,7,7,7,7,7,7,7,
 7,7,7,7,7,7,7,7,7,8,8,8,8,8,8,8,8,8,8,8,8,8,8,8,8,8,8,8,8,8,8,8,8,8,8,8,8,8,8,8,8,8,8,8,8,8,8,8,8,8,
 8,8,8,8,8,8,8,8,8,8,8,8,8,8,8,8,8,8,8,8,8,8,8,8,8,8,8,8,8,8,8,8,8,8,8,8,8,8,8,8,8,8,8,8,8,8,8,8,8,8,
 8,8,8,8,8,8,8,8,8,8,8,8,8,8,8,8,8,8,8,8,8,8,8,8,8,8,8,8,8,8,8,8,8,8,8,8,8] (wrap .u8 (bK .u64 a0
 32))) fun x=>some (o8 .i64 32 (wrap .i64 x))))) (l7 (ile 65536 a0) (l7 (ile 256 (bK .u64 a0 16)) (l9 (sat
 [0,1,2,2,3,3,3,3,4,4,4,4,4,4,4,4,5,5,5,5,5,5,5,5,5,5,5,5,5,5,5,5,6,6,6,6,6,6,6,6,6,6,6,6,6,6,6,6,6,
 6,6,6,6,6,6,6,6,6,6,6,6,6,6,6,7,7,7,7,7,7,7,7,7,7,7,7,7,7,7,7,7,7,7,7,7,7,7,7,7,7,7,7,7,7,7,7,7,7,7,
 7,7,7,7,7,7,7,7,7,7,7,7,7,7,7,7,7,7,7,7,7,7,7,7,7,7,7,7,7,8,8,8,8,8,8,8,8,8,8,8,8,8,8,8,8,8,8,8,8,8,
 8,8,8,8,8,8,8,8,8,8,8,8,8,8,8,8,8,8,8,8,8,8,8,8,8,8,8,8,8,8,8,8,8,8,8,8,8,8,8,8,8,8,8,8,8,8,8,8,8,8,
 8,8,8,8,8,8,8,8,8,8,8,8,8,8,8,8,8,8,8,8,8,8,8,8,8,8,8,8,8,8,8,8,8,8,8,8,8,8,8,8,8,8,8,8,8,8,8,8,8,8,
 8,8,8,8,8,8,8] (wrap .u8 (bK .u64 (bK .u64 a0 16) 8))) fun x=>some (o8 .i64 (o8 .i64 (o8
 .i64 0 16) 8) (wrap .i64 x))) (l9 (sat [0,1,2,2,3,3,3,3,4,4,4,4,4,4,4,4,5,5,5,5,5,5,5,5,5,5,5,5,5,5,5,
 5,6,6,6,6,6,6,6,6,6,6,6,6,6,6,6,6,6,6,6,6,6,6,6,6,6,6,6,6,6,6,6,6,7,7,7,7,7,7,7,7,7,7,7,7,7,7,7,7,7,
 7,7,7,7,7,7,7,7,7,7,7,7,7,7,7,7,7,7,7,7,7,7,7,7,7,7,7,7,7,7,7,7,7,7,7,7,7,7,7,7,7,7,7,7,7,7,7,8,8,8,
 8,8,8,8,8,8,8,8,8,8,8,8,8,8,8,8,8,8,8,8,8,8,8,8,8,8,8,8,8,8,8,8,8,8,8,8,8,8,8,8,8,8,8,8,8,8,8,8,8,8,
 8,8,8,8,8,8,8,8,8,8,8,8,8,8,8,8,8,8,8,8,8,8,8,8,8,8,8,8,8,8,8,8,8,8,8,8,8,8,8,8,8,8,8,8,8,8,8,8,8,8,
 8,8,8,8,8,8,8,8,8,8,8,8,8,8,8,8,8,8,8,8,8,8,8,8,8] (wrap .u8 (bK .u64 a0 16))) fun x=>some (o8
 .i64 (o8 .i64 0 16) (wrap .i64 x)))) (l7 (ile 256 a0) (l9 (sat [0,1,2,2,3,3,3,3,4,4,4,4,4,4,4,4,5,5,5,
 5,5,5,5,5,5,5,5,5,5,5,5,5,6,6,6,6,6,6,6,6,6,6,6,6,6,6,6,6,6,6,6,6,6,6,6,6,6,6,6,6,6,6,6,6,7,7,7,7,7,
 7,7,7,7,7,7,7,7,7,7,7,7,7,7,7,7,7,7,7,7,7,7,7,7,7,7,7,7,7,7,7,7,7,7,7,7,7,7,7,7,7,7,7,7,7,7,7,7,7,7,
 7,7,7,7,7,7,7,7,7,8,8,8,8,8,8,8,8,8,8,8,8,8,8,8,8,8,8,8,8,8,8,8,8,8,8,8,8,8,8,8,8,8,8,8,8,8,8,8,8,8,
 8,8,8,8,8,8,8,8,8,8,8,8,8,8,8,8,8,8,8,8,8,8,8,8,8,8,8,8,8,8,8,8,8,8,8,8,8,8,8,8,8,8,8,8,8,8,8,8,8,8,
 8,8,8,8,8,8,8,8,8,8,8,8,8,8,8,8,8,8,8,8,8,8,8,8,8,8,8,8,8,8,8,8,8,8,8,8,8] (wrap .u8 (bK .u64 a0
 8))) fun x=>some (o8 .i64 (o8 .i64 0 8) (wrap .i64 x))) (l9 (sat [0,1,2,2,3,3,3,3,4,4,4,4,4,4,4,
 4,5,5,5,5,5,5,5,5,5,5,5,5,5,5,5,5,6,6,6,6,6,6,6,6,6,6,6,6,6,6,6,6,6,6,6,6,6,6,6,6,6,6,6,6,6,6,6,6,7,
 7,7,7,7,7,7,7,7,7,7,7,7,7,7,7,7,7,7,7,7,7,7,7,7,7,7,7,7,7,7,7,7,7,7,7,7,7,7,7,7,7,7,7,7,7,7,7,7,7,7,
 7,7,7,7,7,7,7,7,7,7,7,7,7,8,8,8,8,8,8,8,8,8,8,8,8,8,8,8,8,8,8,8,8,8,8,8,8,8,8,8,8,8,8,8,8,8,8,8,8,8,
 8,8,8,8,8,8,8,8,8,8,8,8,8,8,8,8,8,8,8,8,8,8,8,8,8,8,8,8,8,8,8,8,8,8,8,8,8,8,8,8,8,8,8,8,8,8,8,8,8,8,
 8,8,8,8,8,8,8,8,8,8,8,8,8,8,8,8,8,8,8,8,8,8,8,8,8,8,8,8,8,8,8,8,8,8,8,8,8,8,8,8,8] (wrap .u8 a0)) fun
 (x:Int)=>some (o8 .i64 0 (wrap .i64 x)))))
def s83:FSpec:=mkS a4U a6b fun x=>pg x
def VJ:List MG:=[(false,(.dat (.int .u64)))]
def Yd:Ret:=⟨[(.tmp 2,uiM)],[]⟩
def b1E:Env:=⟨6,eqs,tt,gl,[(83,s83)],[],[],[],[],[]⟩
def a3u:Ann:=.leaf
def eH (a0:Int):Option Int:=l9 (pg a0) fun x=>some (D5 .i64 64 x)
def a7C:FSpec:=mkS VJ Yd fun x=>eH x
def Vz:List MG:=[(false,(.dat (.int .u64))),(false,(.dat (.int .u64))),(false,(.dat (.int .u64)))]
def XR:Ret:=⟨[(.tmp 6,(false,(.dat (.int .u64)))),(.tmp 7,(false,(.dat (.int .u64))))],[]⟩
def b1u:Env:=⟨135,eqs,tt,gl,[(246,a7C)],[],[],[],[],[]⟩
def a3k:Ann:=.seq lfA (.seq (.join [(19,22)] ⟨[],[]⟩ lfA) (.seq (.join [(22,26)] ⟨[],[]⟩ lfA) (.seq lfA (.seq lfA (.seq lfA (.seq lfA (.seq lfA (.seq lfA (.seq lfA (.seq lfA (.seq lfA (.seq lfA (.seq lfA (.seq (.blk (.loop [(15,17),(67,86)] ⟨[(15,(false,(.dat (.int .u64)))),(16,(false,(.dat (.int .u64))))],[]⟩ 0 ⟨[(15,(false,(.dat (.int .u64))))],[]⟩ lfA)) (.seq lfA (.seq lfA (.seq lfA (.seq (.blk (.loop [(16,17),(18,19),(102,121)] ⟨[(16,(false,(.dat (.int .u64)))),(18,(false,(.dat (.int .u64))))],[]⟩ 2 ⟨[(18,(false,(.dat (.int .u64))))],[]⟩ lfA)) lfA))))))))))))))))))
def bH (a0:Int) (a1:Int) (a2:Int):Option x8:=l9 (l7 (ieq a2 0) none (some ())) fun x=>l9 (l7
 (ile a2 a0) none (some ())) fun x=>l7 (ieq a0 0) (l9 (BR .u64 a1 a2) fun x=>l9 (Je a1 a2) fun
 (x_1:Int)=>some (x,x_1)) (l9 (eH a2) fun x=>l9 (EC .u64 a2 (wrap .u64 x)) fun x_1
 =>l9 (EC .u64 a0 (wrap .u64 x)) fun x_2=>l9 (Jf .u64 a1 (D5 .u64 64 (wrap .u64 x))) fun
 (x_3:Int)=>l9 (EC .u64 a1 (wrap .u64 x)) fun x_4=>l9 (BR .u64 (ior .u64 x_2 x_3) (bK
 .u64 x_1 32)) fun x_5=>l9 (O7 (fun(x:x8)=>l7 (ile 4294967296 x.1) (l7 (ile 4294967296 (o8 .u64 x.2
 (bK .u64 x_1 32))) (some (.inr (D5 .u64 x.1 1))) (some (.inl (D5 .u64 x.1 1,o8 .u64 x.2 (bK .u64
 x_1 32))))) (l7 (ilt (o8 .u64 (az .u64 4294967296 x.2) (bK .u64 x_4 32)) (az .u64 x.1 (LJ .u64 x_1
 4294967295))) (l7 (ile 4294967296 (o8 .u64 x.2 (bK .u64 x_1 32))) (some (.inr (D5 .u64 x.1 1))) (some (.inl (D5
 .u64 x.1 1,o8 .u64 x.2 (bK .u64 x_1 32))))) (some (.inr x.1)))) (x_5,D5 .u64 (ior .u64 x_2 x_3) (az
 .u64 x_5 (bK .u64 x_1 32)))) fun y=>l9 (BR .u64 (D5 .u64 (o8 .u64 (az .u64 (ior
 .u64 x_2 x_3) 4294967296) (bK .u64 x_4 32)) (az .u64 y x_1)) (bK .u64 x_1 32)) fun x_6=>l9 (O7 (fun
 (x:x8)=>l7 (ile 4294967296 x.2) (l7 (ile 4294967296 (o8 .u64 x.1 (bK .u64 x_1 32))) (some (.inr (D5 .u64
 x.2 1))) (some (.inl (o8 .u64 x.1 (bK .u64 x_1 32),D5 .u64 x.2 1)))) (l7 (ilt (o8 .u64 (az .u64
 4294967296 x.1) (LJ .u64 x_4 4294967295)) (az .u64 x.2 (LJ .u64 x_1 4294967295))) (l7 (ile 4294967296 (o8 .u64
 x.1 (bK .u64 x_1 32))) (some (.inr (D5 .u64 x.2 1))) (some (.inl (o8 .u64 x.1 (bK .u64 x_1 32),D5
 .u64 x.2 1)))) (some (.inr x.2)))) (D5 .u64 (D5 .u64 (o8 .u64 (az .u64 (ior .u64 x_2 x_3)
 4294967296) (bK .u64 x_4 32)) (az .u64 y x_1)) (az .u64 x_6 (bK .u64 x_1 32)),x_6)) fun y_1=>l9
 (Jf .u64 (D5 .u64 (o8 .u64 (az .u64 (D5 .u64 (o8 .u64 (az .u64 (ior .u64 x_2
 x_3) 4294967296) (bK .u64 x_4 32)) (az .u64 y x_1)) 4294967296) (LJ .u64 x_4 4294967295)) (az .u64 y_1 x_1))
 (wrap .u64 x)) fun x=>some (o8 .u64 (az .u64 y 4294967296) y_1,x))
def SX:FSpec:=mkS Vz XR fun x=>bH x.1 x.2.1 x.2.2
def Vk:List MG:=[uiM,uiM]
def XE:Ret:=⟨[(.tmp 4,uiM),(.tmp 5,uiM),(.tmp 6,ubM)],[]⟩
def b1h:Env:=⟨47,eqs,tt,gl,[(85,s85),(232,SX)],[],[],[],[],[]⟩
def a2X:Ann:=.leaf
def kH (a0:Int) (a1:Int):Option (Int×Int×Bool):=l7 (ilt a1 0) (l9 (fP (wrap .u64 a0) (D5 .u64
 0 (wrap .u64 a1))) fun x=>l7 (ile 1000000 x.1) (some (0,0,false)) (l9 (bH x.1 x.2 1000000) fun x=>
 l7 (ilt 1000000000000000 x.1) (some (0,0,false)) (l7 (ilt a1 0) (some (D5 .i64 0 (wrap .i64 x.1),D5 .i64 0 (wrap
 .i64 x.2),true)) (some (wrap .i64 x.1,wrap .i64 x.2,true))))) (l9 (fP (wrap .u64 a0) (wrap .u64 a1))
 fun x=>l7 (ile 1000000 x.1) (some (0,0,false)) (l9 (bH x.1 x.2 1000000) fun x=>l7 (ilt
 1000000000000000 x.1) (some (0,0,false)) (l7 (ilt a1 0) (some (D5 .i64 0 (wrap .i64 x.1),D5 .i64 0 (wrap .i64
 x.2),true)) (some (wrap .i64 x.1,wrap .i64 x.2,true)))))
def a7m:FSpec:=mkS Vk XE fun x=>kH x.1 x.2
def VK:List MG:=[uiM]
def Ye:Ret:=⟨[(.tmp 2,ubM)],[]⟩
def b1F:Env:=⟨9,eqs,tt,gl,[],[],[],[],[],[]⟩
def a3v:Ann:=.leaf
def fC (a0:Int):Option Bool:=l7 (ile 0 a0) (some (ile a0 5)) (some false)
def SY:FSpec:=mkS VK Ye fun x=>fC x
def VL:List MG:=[uiM,uiM]
def Yf:Ret:=⟨[(.tmp 4,ubM)],[]⟩
def b1G:Env:=⟨14,eqs,tt,gl,[],[],[],[],[],[]⟩
def a3w:Ann:=.leaf
def aH (a0:Int) (a1:Int):Option Bool:=l7 (ilt a1 a0) (some true) (some (ilt a0 (D5 .i64 0 a1)))
def Tc:FSpec:=mkS VL Yf fun x=>aH x.1 x.2
def VM:List MG:=[uiM]
def Yg:Ret:=⟨[(.tmp 2,(false,(.dat (.int .u64))))],[]⟩
def b1H:Env:=⟨10,eqs,tt,gl,[],[],[],[],[],[]⟩
def a3x:Ann:=.leaf
def aC (a0:Int):Option Int:=l7 (ilt a0 0) (some (D5 .u64 0 (wrap .u64 a0))) (some (wrap .u64 a0))
def ZY:FSpec:=mkS VM Yg fun x=>aC x
def VN:List MG:=[(false,(.dat (.int .u64))),(false,(.dat (.int .u64))),(false,(.dat (.int .u64))),ubM,uiM]
def Yh:Ret:=⟨[(.tmp 10,(false,(.dat (.int .u64))))],[]⟩
def b1I:Env:=⟨55,eqs,tt,gl,[],[],[],[],[],[]⟩
def a3y:Ann:=.leaf
def dD (a0:Int) (a1:Int) (a2:Int) (a3:Bool) (a4:Int):Option Int:=l7 (ieq a1 0) (some a0) (l7 (ieq a4 0) (l7
 a3 (some (o8 .u64 a0 1)) (some a0)) (l7 (ieq a4 1) (l7 (C9 a3) (some (o8 .u64 a0 1)) (some a0)) (l7 (ieq a4 3) (some
 (o8 .u64 a0 1)) (l7 (ieq a4 4) (l7 (ile (D5 .u64 a2 a1) a1) (some (o8 .u64 a0 1)) (some a0)) (l7 (ieq a4 5)
 (l7 (ilt (D5 .u64 a2 a1) a1) (some (o8 .u64 a0 1)) (l7 (ieq a1 (D5 .u64 a2 a1)) (l7 (ieq (gW a0 2) 1) (some
 (o8 .u64 a0 1)) (some a0)) (some a0))) (some a0))))))
def ZZ:FSpec:=mkS VN Yh fun x=>dD x.1 x.2.1 x.2.2.1 x.2.2.2.1 x.2.2.2.2
def VO:List MG:=[(false,(.dat (.int .u64))),ubM]
def Yi:Ret:=⟨[(.tmp 4,uiM)],[]⟩
def b1J:Env:=⟨11,eqs,tt,gl,[],[],[],[],[],[]⟩
def a3z:Ann:=.leaf
def nY (a0:Int) (a1:Bool):Option Int:=l7 a1 (some (D5 .i64 0 (wrap .i64 a0))) (some (wrap .i64 a0))
def a0a:FSpec:=mkS VO Yi fun x=>nY x.1 x.2
def VA:List MG:=[uiM,uiM,uiM]
def XU:Ret:=⟨[(.tmp 6,uiM),(.tmp 7,uiM)],[]⟩
def b1v:Env:=⟨45,eqs,tt,gl,[(247,SY),(248,Tc),(249,ZY),(250,ZZ),(251,a0a)],[],[],[],[],[]⟩
def a3l:Ann:=.leaf
def ai (a0:Int) (a1:Int) (a2:Int):Option x8:=l9 (fC a2) fun x=>l7 (C9 x) (some (0,1)) (l7
 (ieq a1 0) (some (0,12)) (l9 (aH a0 4611686018427387904) fun x=>l7 x (some (0,3)) (l9 (aH a1
 4611686018427387904) fun x=>l7 x (some (0,3)) (l9 (aC a0) fun x=>l9 (aC a1) fun x_1
 =>l9 (BR .u64 x x_1) fun x_2=>l9 (Je x x_1) fun x=>l9 (dD x_2 x x_1 (C9 (jq (ilt a0
 0) (ilt a1 0))) a2) fun x=>l9 (nY x (C9 (jq (ilt a0 0) (ilt a1 0)))) fun x=>some (x,0)))))
def PE:FSpec:=mkS VA XU fun x=>ai x.1 x.2.1 x.2.2
def Vl:List MG:=[uiM,uiM,uiM]
def XF:Ret:=⟨[(.tmp 6,uiM),(.tmp 7,uiM)],[]⟩
def b1i:Env:=⟨60,eqs,tt,gl,[(233,PE)],[],[],[],[],[]⟩
def a2Y:Ann:=.leaf
def qV (a0:Int) (a1:Int) (a2:Int):Option x8:=l7 (ilt (o8 .i64 a0 (ay .i64 a1 1000000))
 (-2000000000000000)) (some (0,3)) (l7 (ilt 2000000000000000 (o8 .i64 a0 (ay .i64 a1 1000000))) (some (0,3)) (l7 (ilt 1
 (o8 .i64 a0 (ay .i64 a1 1000000))) (l9 (ai (o8 .i64 (az .i64 (o8 .i64 (gW (o8
 .i64 a0 (ay .i64 a1 1000000)) 2) 2) 1000000) (gW a1 1000000)) 1000000 a2) fun x=>l7 (C9 (ieq x.2 0)) (some (0,
 x.2)) (l7 (ilt (o8 .i64 (D5 .i64 (o8 .i64 a0 (ay .i64 a1 1000000)) (o8 .i64 (gW (o8 .i64
 a0 (ay .i64 a1 1000000)) 2) 2)) x.1) (-1000000000000000)) (some (0,3)) (l7 (ilt 1000000000000000 (o8 .i64 (D5 .i64
 (o8 .i64 a0 (ay .i64 a1 1000000)) (o8 .i64 (gW (o8 .i64 a0 (ay .i64 a1 1000000)) 2) 2)) x.1)) (some
 (0,3)) (some (o8 .i64 (D5 .i64 (o8 .i64 a0 (ay .i64 a1 1000000)) (o8 .i64 (gW (o8 .i64 a0
 (ay .i64 a1 1000000)) 2) 2)) x.1,0))))) (l7 (ilt (o8 .i64 a0 (ay .i64 a1 1000000)) (-1)) (l9 (ai (o8
 .i64 (az .i64 (D5 .i64 (gW (o8 .i64 a0 (ay .i64 a1 1000000)) 2) 2) 1000000) (gW a1 1000000)) 1000000
 a2) fun x=>l7 (C9 (ieq x.2 0)) (some (0,x.2)) (l7 (ilt (o8 .i64 (D5 .i64 (o8 .i64 a0 (ay
 .i64 a1 1000000)) (D5 .i64 (gW (o8 .i64 a0 (ay .i64 a1 1000000)) 2) 2)) x.1) (-1000000000000000)) (some (0,3))
 (l7 (ilt 1000000000000000 (o8 .i64 (D5 .i64 (o8 .i64 a0 (ay .i64 a1 1000000)) (D5 .i64 (gW (o8
 .i64 a0 (ay .i64 a1 1000000)) 2) 2)) x.1)) (some (0,3)) (some (o8 .i64 (D5 .i64 (o8 .i64 a0 (ay
 .i64 a1 1000000)) (D5 .i64 (gW (o8 .i64 a0 (ay .i64 a1 1000000)) 2) 2)) x.1,0))))) (l9 (ai (o8
 .i64 (az .i64 (gW (o8 .i64 a0 (ay .i64 a1 1000000)) 2) 1000000) (gW a1 1000000)) 1000000 a2) fun x=>
 l7 (C9 (ieq x.2 0)) (some (0,x.2)) (l7 (ilt (o8 .i64 (D5 .i64 (o8 .i64 a0 (ay .i64 a1 1000000)) (gW
 (o8 .i64 a0 (ay .i64 a1 1000000)) 2)) x.1) (-1000000000000000)) (some (0,3)) (l7 (ilt 1000000000000000 (o8 .i64 (D5
 .i64 (o8 .i64 a0 (ay .i64 a1 1000000)) (gW (o8 .i64 a0 (ay .i64 a1 1000000)) 2)) x.1)) (some (0,3))
 (some (o8 .i64 (D5 .i64 (o8 .i64 a0 (ay .i64 a1 1000000)) (gW (o8 .i64 a0 (ay .i64 a1
 1000000)) 2)) x.1,0))))))))
def a7n:FSpec:=mkS Vl XF fun x=>qV x.1 x.2.1 x.2.2
def Vb:List MG:=[(true,(.dat y8)),uiM,uiM,uiM]
def Xx:Ret:=⟨[(.tmp 8,uiM),(.tmp 9,uiM)],[]⟩
def b1a:Env:=⟨90,eqs,tt,gl,[(145,SQ),(216,a7m),(217,a7n)],[],[],[],[],[]⟩
def a2Q:Ann:=.seq lfA (.seq (.joinR [(8,10),(19,25)] ⟨[],[]⟩ lfA) (.seq (.joinR [(8,10),(25,35)] ⟨[],[]⟩ lfA) (.seq (.joinR [(8,10),(35,41)] ⟨[],[]⟩ lfA) (.seq lfA (.seq (.seq lfA (.blk (.loopR [(8,12),(13,19),(44,84)] ⟨[(10,uiM),(11,uiM),(44,uiM)],[]⟩ 0 ⟨[(10,uiM),(11,uiM)],[]⟩ lfA))) lfA)))))
def qP (a0:ja) (a1:Int) (a2:Int) (a3:Int):Option x8:=l9 (l7 (ilt a3 0) (some (.inr (0,1))) (l7 (ilt 5 a3)
 (some (.inr (0,1))) (some (.inl ())))) fun o=>J3 o (fun(x:PUnit)=>l9 (l7 (C9 (U7 (ieq a0.2.1.1 3)
 (ieq a0.2.1.2 0))) (some (.inr (0,8))) (l7 (C9 (U7 (ieq a0.2.2.1.1 4) (ieq a0.2.2.1.2 0))) (some (.inr (0,8))) (some (.inl
 ())))) fun o=>J3 o (fun(x:PUnit)=>l9 (l7 (ilt a2 (-1000000000000000)) (some (.inr (0,3))) (l7 (ilt
 1000000000000000 a2) (some (.inr (0,3))) (some (.inl ())))) fun o=>J3 o (fun(x:PUnit)=>l9 (N7 (fun(x
 :E5)=>l7 (ilt x.2.2 (o7 a0.2.2.2)) (l9 (lat a0.2.2.2 x.2.2) fun x_1=>l9 (bu x_1.1 a1) fun x_2
 =>l7 (C9 x_2) (some (.nx (x.1,x.2.1,o8 .i64 x.2.2 1))) (l7 (ile (yD x_1.2.2.1 a2) (lQ x_1.2.1 0)) (some (.nx (x.1,
 x.2.1,o8 .i64 x.2.2 1))) (l9 (kH (D5 .i64 (yD x_1.2.2.1 a2) (lQ x_1.2.1 0)) x_1.2.2.2) fun x_3=>l7 (C9 x_3.2.2) (some (.rt (0,3))) (some (.nx (o8 .i64 x.1 x_3.1,o8 .i64 x.2.1 x_3.2.1,o8 .i64
 x.2.2 1)))))) (some (.ex (x.1,x.2.1)))) (0,0,0)) fun o=>J3 o (fun(y:x8)=>l9 (qV y.1 y.2 a3) fun(x
 :x8)=>some x) fun r=>some r) fun r=>some r) fun r=>some r) fun r=>some r
def a7g:FSpec:=mkS Vb Xx fun x=>qP x.1 x.2.1 x.2.2.1 x.2.2.2
def Vm:List MG:=[ubM]
def XG:Ret:=⟨[(.cell 2 41,(true,(.dat y3)))],[]⟩
def b1j:Env:=⟨6,eqs,tt,gl,[],[],[],[],[],[]⟩
def a2Z:Ann:=.leaf
def aQ (a0:Bool):Option E5:=l7 a0 (some (1,0,1)) (some (1,0,0))
def ZT:FSpec:=mkS Vm XG fun x=>aQ x
def Us:List MG:=[uiM]
def WQ:Ret:=⟨[(.tmp 2,ubM)],[]⟩
def b0t:Env:=⟨9,eqs,tt,gl,[],[],[],[],[],[]⟩
def a2j:Ann:=.leaf
def iG (a0:Int):Option Bool:=l7 (ile 0 a0) (some (ile a0 109572)) (some false)
def Pm:FSpec:=mkS Us WQ fun x=>iG x
def Vf:List MG:=[uiM]
def XA:Ret:=⟨[(.tmp 2,uiM)],[]⟩
def b1d:Env:=⟨11,eqs,tt,gl,[],[],[],[],[],[]⟩
def a2T:Ann:=.leaf
def jL (a0:Int):Option Int:=some (o8 .i64 (D5 .i64 (ay .i64 a0 4) (ay .i64 a0 100)) (ay
 .i64 a0 400))
def a7j:FSpec:=mkS Vf XA fun x=>jL x
def UM:List MG:=[uiM]
def Xj:Ret:=⟨[(.tmp 2,uiM)],[]⟩
def b0N:Env:=⟨12,eqs,tt,gl,[(210,a7j)],[],[],[],[],[]⟩
def a2D:Ann:=.leaf
def gG (a0:Int):Option Int:=l9 (jL (D5 .i64 a0 1)) fun x=>l9 (jL 1899) fun(x_1:
 Int)=>some (D5 .i64 (o8 .i64 (az .i64 (D5 .i64 a0 1900) 365) x) x_1)
def ZO:FSpec:=mkS UM Xj fun x=>gG x
def Vg:List MG:=[uiM]
def XB:Ret:=⟨[(.tmp 2,ubM)],[]⟩
def b1e:Env:=⟨16,eqs,tt,gl,[],[],[],[],[],[]⟩
def a2U:Ann:=.leaf
def xC (a0:Int):Option Bool:=l7 (ieq (gW a0 4) 0) (l7 (C9 (ieq (gW a0 100) 0)) (some true) (some (ieq (gW a0 400) 0)))
 (some false)
def a7k:FSpec:=mkS Vg XB fun x=>xC x
def UN:List MG:=[uiM,uiM]
def Xk:Ret:=⟨[(.tmp 4,uiM)],[]⟩
def b0O:Env:=⟨21,eqs,tt,gl,[(211,a7k)],[],[],[],[],[]⟩
def a2E:Ann:=.leaf
def aX (a0:Int) (a1:Int):Option Int:=l7 (ilt a1 1) (some 0) (l7 (ilt 12 a1) (some 0) (l7 (ieq a1 2) (l9 (xC
 a0) fun x=>l7 x (some 29) (l9 (lat [31,28,31,30,31,30,31,31,30,31,30,31] (D5 .i64 a1 1)) fun x=>some
 x)) (l9 (lat [31,28,31,30,31,30,31,31,30,31,30,31] (D5 .i64 a1 1)) fun x=>some x)))
def SS:FSpec:=mkS UN Xk fun x=>aX x.1 x.2
def Ut:List MG:=[uiM]
def WR:Ret:=⟨[(.tmp 2,uiM),(.tmp 3,uiM),(.tmp 4,uiM)],[]⟩
def b0u:Env:=⟨45,eqs,tt,gl,[(156,Pm),(187,ZO),(188,SS)],[],[],[],[],[]⟩
def a2k:Ann:=.seq lfA (.seq lfA (.seq lfA (.seq (.blk (.loop [(5,6),(15,22)] ⟨[(5,uiM)],[]⟩ 0 ⟨[(5,uiM)],[]⟩ lfA)) (.seq lfA (.seq (.seq lfA (.blk (.loopR [(2,5),(6,9),(26,45)] ⟨[(6,uiM),(26,uiM)],[]⟩ 2 ⟨[],[]⟩ lfA))) lfA)))))
def iF (a0:Int):Option E5:=l9 (iG a0) fun x=>l7 (C9 x) (some (0,0,0)) (l9 (O7 (fun(x:Int)=>
 l9 (gG (o8 .i64 x 1)) fun x_1=>l7 (ile x_1 a0) (some (.inl (o8 .i64 x 1))) (some (.inr x))) (o8
 .i64 1900 (ay .i64 a0 366))) fun y=>l9 (gG y) fun x=>l9 (N7 (fun(x:x8)=>l7 (ilt
 x.2 12) (l9 (aX y (o8 .i64 x.2 1)) fun x_1=>l7 (ilt x.1 x_1) (some (.rt (y,o8 .i64 x.2 1,o8
 .i64 x.1 1))) (some (.nx (D5 .i64 x.1 x_1,o8 .i64 x.2 1)))) (some (.ex ()))) (D5 .i64 a0 x,0)) fun
 (o:PUnit⊕E5)=>J3 o (fun(y:PUnit)=>some (0,0,0)) fun r=>some r)
def Pn:FSpec:=mkS Ut WR fun x=>iF x
def Vd:List MG:=[uiM,(true,(.dat y3))]
def Xy:Ret:=⟨[(.cell 4 41,(true,(.dat y3)))],[]⟩
def b1b:Env:=⟨36,eqs,tt,gl,[(218,ZT),(157,Pn)],[],[],[],[],[]⟩
def a2R:Ann:=.leaf
def zy (a0:Int) (a1:E5):Option E5:=l7 (ieq a0 10) (some (a1.1,0,D5 .i64 0 a1.2.2)) (l7 (ieq a0 25) (l9
 (aQ (ieq a1.2.2 0)) fun x=>some x) (l9 (iF a1.2.2) fun x=>l7 (ieq a0 31) (some (2,0,x.1)) (some (2,
 0,x.2.1))))
def a7h:FSpec:=mkS Vd Xy fun x=>zy x.1 x.2
def VB:List MG:=[uiM,uiM]
def XV:Ret:=⟨[(.tmp 4,uiM),(.tmp 5,uiM)],[]⟩
def b1w:Env:=⟨38,eqs,tt,gl,[(85,s85)],[],[],[],[],[]⟩
def a3m:Ann:=.leaf
def uO (a0:Int) (a1:Int):Option x8:=l9 (fP (wrap .u64 (lQ a0 (D5 .i64 0 a0))) (wrap .u64 (lQ
 a1 (D5 .i64 0 a1)))) fun x=>l7 (C9 (ieq x.1 0)) (some (0,3)) (l7 (ilt 1000000000000000 x.2) (some (0,3)) (l7 (C9
 (jq (ilt a0 0) (ilt a1 0))) (some (D5 .i64 0 (wrap .i64 x.2),0)) (some (wrap .i64 x.2,0))))
def a7v:FSpec:=mkS VB XV fun x=>uO x.1 x.2
def VP:List MG:=[uiM,uiM,uiM,uiM]
def Yj:Ret:=⟨[(.tmp 8,uiM),(.tmp 9,uiM)],[]⟩
def b1K:Env:=⟨72,eqs,tt,gl,[(247,SY),(248,Tc),(249,ZY),(85,s85),(232,SX),(250,ZZ),(251,a0a)],[],[],[],[],[]⟩
def a3A:Ann:=.seq lfA (.seq lfA (.seq lfA (.seq (.joinR [(8,10),(21,31)] ⟨[],[]⟩ lfA) lfA)))
def uV (a0:Int) (a1:Int) (a2:Int) (a3:Int):Option x8:=l9 (fC a3) fun x=>l7 (C9 x) (some (0,
 1)) (l7 (ieq a2 0) (some (0,12)) (l9 (l9 (aH a0 1000000000000000) fun x=>l7 x (some (.inr (0,3))) (l9
 (aH a1 1000000000) fun x=>l7 x (some (.inr (0,3))) (l9 (aH a2 1000000000) fun x=>l7 x (some
 (.inr (0,3))) (some (.inl ()))))) fun o=>J3 o (fun(x:PUnit)=>l9 (aC a0) fun x=>
 l9 (aC a1) fun x_1=>l9 (fP x x_1) fun x=>l9 (aC a2) fun x_2=>l7 (ile x_2
 x.1) (some (0,3)) (l9 (bH x.1 x.2 x_2) fun x=>l7 (ilt 1000000000000000 x.1) (some (0,3)) (l9
 (dD x.1 x.2 x_2 (C9 (jq (C9 (jq (ilt a0 0) (ilt a1 0))) (ilt a2 0))) a3) fun x=>l7 (ilt 1000000000000000 x)
 (some (0,3)) (l9 (nY x (C9 (jq (C9 (jq (ilt a0 0) (ilt a1 0))) (ilt a2 0)))) fun x=>some (x,0))))) fun r
 =>some r))
def a7D:FSpec:=mkS VP Yj fun x=>uV x.1 x.2.1 x.2.2.1 x.2.2.2
def VC:List MG:=[uiM,uiM,uiM]
def XW:Ret:=⟨[(.tmp 6,uiM),(.tmp 7,uiM)],[]⟩
def b1x:Env:=⟨14,eqs,tt,gl,[(252,a7D)],[],[],[],[],[]⟩
def a3n:Ann:=.leaf
def Ah (a0:Int) (a1:Int) (a2:Int):Option x8:=l9 (uV a0 a1 1000000 a2) fun x=>some x
def a7w:FSpec:=mkS VC XW fun x=>Ah x.1 x.2.1 x.2.2
def VQ:List MG:=[uiM]
def Yk:Ret:=⟨[(.tmp 2,ubM)],[]⟩
def b1L:Env:=⟨9,eqs,tt,gl,[],[],[],[],[],[]⟩
def a3B:Ann:=.leaf
def kD (a0:Int):Option Bool:=l7 (ile 0 a0) (some (ile a0 5)) (some false)
def a0b:FSpec:=mkS VQ Yk fun x=>kD x
def VR:List MG:=[uiM,uiM]
def Yl:Ret:=⟨[(.tmp 4,ubM)],[]⟩
def b1M:Env:=⟨14,eqs,tt,gl,[],[],[],[],[],[]⟩
def a3C:Ann:=.leaf
def gp (a0:Int) (a1:Int):Option Bool:=l7 (ilt a1 a0) (some true) (some (ilt a0 (D5 .i64 0 a1)))
def a0c:FSpec:=mkS VR Yl fun x=>gp x.1 x.2
def VD:List MG:=[uiM,uiM,uiM]
def XX:Ret:=⟨[(.tmp 6,uiM),(.tmp 7,uiM)],[]⟩
def b1y:Env:=⟨33,eqs,tt,gl,[(253,a0b),(254,a0c),(233,PE)],[],[],[],[],[]⟩
def a3o:Ann:=.leaf
def EY (a0:Int) (a1:Int) (a2:Int):Option x8:=l9 (kD a2) fun x=>l7 (C9 x) (some (0,1)) (l9
 (gp a0 1000000000) fun x=>l7 x (some (0,3)) (l9 (gp a1 1000000000) fun x=>l7 x (some (0,3)) (l9
 (ai (az .i64 a0 a1) 1000000 a2) fun x=>l7 (C9 (ieq x.2 0)) (some (0,x.2)) (l9 (gp x.1 1000000000)
 fun x_1=>l7 x_1 (some (0,3)) (some (x.1,0))))))
def a7x:FSpec:=mkS VD XX fun x=>EY x.1 x.2.1 x.2.2
def VE:List MG:=[uiM,uiM,uiM]
def XY:Ret:=⟨[(.tmp 6,uiM),(.tmp 7,uiM)],[]⟩
def b1z:Env:=⟨38,eqs,tt,gl,[(247,SY),(248,Tc),(233,PE)],[],[],[],[],[]⟩
def a3p:Ann:=.leaf
def sK (a0:Int) (a1:Int) (a2:Int):Option x8:=l9 (fC a2) fun x=>l7 (C9 x) (some (0,1)) (l7
 (ilt a1 1) (some (0,12)) (l9 (aH a0 1000000000000000) fun x=>l7 x (some (0,3)) (l7 (ilt 1000000000000000 a1) (some
 (0,3)) (l9 (ai a0 a1 a2) fun x=>l7 (C9 (ieq x.2 0)) (some (0,x.2)) (l9 (aH (az .i64 x.1 a1)
 1000000000000000) fun x_1=>l7 x_1 (some (0,3)) (some (az .i64 x.1 a1,0)))))))
def a7y:FSpec:=mkS VE XY fun x=>sK x.1 x.2.1 x.2.2
def VS:List MG:=[(false,(.dat (.int .u64))),(false,(.dat (.int .u64))),(false,(.dat (.int .u64))),ubM,uiM]
def Ym:Ret:=⟨[(.tmp 10,ubM)],[]⟩
def b1N:Env:=⟨49,eqs,tt,gl,[],[],[],[],[],[]⟩
def a3D:Ann:=.leaf
def sS (a0:Int) (a1:Int) (a2:Int) (a3:Bool) (a4:Int):Option Bool:=l7 (ieq a1 0) (some false) (l7 (ieq a4 0) (some a3)
 (l7 (ieq a4 1) (some (C9 a3)) (l7 (ieq a4 3) (some true) (l7 (ieq a4 4) (some (ile (D5 .u64 a2 a1) a1)) (l7 (ieq a4 5) (l7
 (ilt (D5 .u64 a2 a1) a1) (some true) (l7 (ieq a1 (D5 .u64 a2 a1)) (some (ieq (gW a0 2) 1)) (some false))) (some false))))))
def a7E:FSpec:=mkS VS Ym fun x=>sS x.1 x.2.1 x.2.2.1 x.2.2.2.1 x.2.2.2.2
def VF:List MG:=[uiM,uiM,uiM]
def XZ:Ret:=⟨[(.tmp 6,uiM),(.tmp 7,uiM)],[]⟩
def b1A:Env:=⟨73,eqs,tt,gl,[(253,a0b),(254,a0c),(85,s85),(232,SX),(255,a7E)],[],[],[],[],[]⟩
def a3q:Ann:=.leaf
def qB (a0:Int) (a1:Int) (a2:Int):Option x8:=l9 (kD a2) fun x=>l7 (C9 x) (some (0,1)) (l7
 (ieq a1 0) (some (0,12)) (l9 (gp a0 1000000000000000) fun x=>l7 x (some (0,3)) (l9 (gp a1 1000000000000000)
 fun x=>l7 x (some (0,3)) (l9 (fP (wrap .u64 (lQ a0 (D5 .i64 0 a0))) 1000000) fun x=>l7 (ile
 (wrap .u64 (lQ a1 (D5 .i64 0 a1))) x.1) (some (0,3)) (l9 (bH x.1 x.2 (wrap .u64 (lQ a1 (D5 .i64
 0 a1)))) fun x=>l7 (ilt 1000000000 x.1) (some (0,3)) (l9 (sS x.1 x.2 (wrap .u64 (lQ a1 (D5 .i64 0
 a1))) (C9 (jq (ilt a0 0) (ilt a1 0))) a2) fun x_1=>l7 x_1 (l7 (ilt 1000000000 (o8 .i64 (wrap .i64 x.1) 1)) (some
 (0,3)) (l7 (C9 (jq (ilt a0 0) (ilt a1 0))) (some (D5 .i64 0 (o8 .i64 (wrap .i64 x.1) 1),0)) (some (o8 .i64
 (wrap .i64 x.1) 1,0)))) (l7 (ilt 1000000000 (wrap .i64 x.1)) (some (0,3)) (l7 (C9 (jq (ilt a0 0) (ilt a1 0))) (some (D5
 .i64 0 (wrap .i64 x.1),0)) (some (wrap .i64 x.1,0))))))))))
def a7z:FSpec:=mkS VF XZ fun x=>qB x.1 x.2.1 x.2.2
def Vo:List MG:=[(true,(.dat y2)),(true,(.dat y3)),(true,(.dat y3))]
def XH:Ret:=⟨[(.cell 6 41,(true,(.dat y3))),(.tmp 7,uiM)],[]⟩
def b1k:Env:=⟨105,eqs,tt,gl,[(234,a7v),(235,a7w),(236,a7x),(237,a7y),(233,PE),(238,a7z)],[],[],[],[],[]⟩
def a3a:Ann:=.seq lfA (.seq lfA (.seq (.blk (.seq lfA (.cond lfA (.seq (.join [(38,47)] ⟨[(38,ubM)],[]⟩ lfA) lfA)))) lfA))
def xG (a0:x8) (a1:E5) (a2:E5):Option A7:=l7 (ieq a0.1 13) (l9 (uO a1.2.2 a2.2.2) fun(x:
 x8)=>some ((a1.1,0,x.1),x.2)) (l9 (l7 (ieq a0.1 14) (some (ieq a1.1 3)) (some false)) fun x=>l7 x (l9 (Ah
 a1.2.2 a2.2.2 a0.2) fun x=>some ((a1.1,0,x.1),x.2)) (l7 (ieq a0.1 14) (l9 (EY a1.2.2 a2.2.2 a0.2) fun x=>some
 ((a1.1,0,x.1),x.2)) (l7 (ieq a0.1 16) (l9 (sK a1.2.2 a2.2.2 a0.2) fun x=>some ((a1.1,0,x.1),x.2)) (l7 (ieq a2.1
 2) (l9 (ai a1.2.2 a2.2.2 a0.2) fun x=>some ((a1.1,0,x.1),x.2)) (l9 (qB a1.2.2 a2.2.2 a0.2) fun(x:
 x8)=>some ((4,0,x.1),x.2))))))
def a7o:FSpec:=mkS Vo XH fun x=>xG x.1 x.2.1 x.2.2
def VG:List MG:=[uiM,uiM,uiM]
def Ya:Ret:=⟨[(.tmp 6,uiM),(.tmp 7,uiM)],[]⟩
def b1B:Env:=⟨53,eqs,tt,gl,[(188,SS),(187,ZO)],[],[],[],[],[]⟩
def a3r:Ann:=.seq lfA (.seq (.joinR [(6,8),(10,35)] ⟨[],[]⟩ lfA) (.seq lfA (.seq (.seq lfA (.blk (.loop [(8,10),(39,49)] ⟨[(8,uiM),(39,uiM)],[]⟩ 0 ⟨[(8,uiM)],[]⟩ lfA))) lfA)))
def uH (a0:Int) (a1:Int) (a2:Int):Option x8:=l9 (l7 (ilt a0 1900) (some (.inr (0,3))) (l7 (ilt 2199 a0) (some
 (.inr (0,3))) (l7 (ilt a1 1) (some (.inr (0,3))) (l7 (ilt 12 a1) (some (.inr (0,3))) (l7 (ilt a2 1) (some (.inr (0,3)))
 (l9 (aX a0 a1) fun x=>l7 (ilt x a2) (some (.inr (0,3))) (some (.inl ())))))))) fun o
 =>J3 o (fun(x:PUnit)=>l9 (gG a0) fun x=>l9 (O7 (fun(x:x8)=>l7 (ilt x.2 (D5 .i64 a1 1))
 (l9 (aX a0 (o8 .i64 x.2 1)) fun x_1=>some (.inl (o8 .i64 x.1 x_1,o8 .i64 x.2 1))) (some
 (.inr x.1))) (x,0)) fun y=>some (D5 .i64 (o8 .i64 y a2) 1,0)) fun r=>some r
def a7A:FSpec:=mkS VG Ya fun x=>uH x.1 x.2.1 x.2.2
def Vp:List MG:=[uiM,uiM]
def XI:Ret:=⟨[(.tmp 4,uiM),(.tmp 5,uiM)],[]⟩
def b1l:Env:=⟨57,eqs,tt,gl,[(156,Pm),(157,Pn),(188,SS),(239,a7A)],[],[],[],[],[]⟩
def a3b:Ann:=.seq lfA (.seq (.joinR [(4,6),(10,21)] ⟨[],[]⟩ lfA) lfA)
def jK (a0:Int) (a1:Int):Option x8:=l9 (l9 (iG a0) fun x=>l7 (C9 x) (some (.inr (0,3)))
 (l7 (ilt a1 (-3600)) (some (.inr (0,3))) (l7 (ilt 3600 a1) (some (.inr (0,3))) (some (.inl ()))))) fun o
 =>J3 o (fun(x:PUnit)=>l9 (iF a0) fun x=>l7 (ilt (o8 .i64 (D5 .i64 (o8 .i64 (az
 .i64 (D5 .i64 x.1 1900) 12) x.2.1) 1) a1) 0) (some (0,3)) (l7 (ilt 3599 (o8 .i64 (D5 .i64 (o8 .i64
 (az .i64 (D5 .i64 x.1 1900) 12) x.2.1) 1) a1)) (some (0,3)) (l9 (aX (o8 .i64 1900 (ay .i64
 (o8 .i64 (D5 .i64 (o8 .i64 (az .i64 (D5 .i64 x.1 1900) 12) x.2.1) 1) a1) 12)) (o8 .i64 (gW
 (o8 .i64 (D5 .i64 (o8 .i64 (az .i64 (D5 .i64 x.1 1900) 12) x.2.1) 1) a1) 12) 1)) fun x_1=>
 l9 (uH (o8 .i64 1900 (ay .i64 (o8 .i64 (D5 .i64 (o8 .i64 (az .i64 (D5
 .i64 x.1 1900) 12) x.2.1) 1) a1) 12)) (o8 .i64 (gW (o8 .i64 (D5 .i64 (o8 .i64 (az .i64 (D5
 .i64 x.1 1900) 12) x.2.1) 1) a1) 12) 1) (yD x.2.2 x_1)) fun x=>some x))) fun r=>some r
def ZU:FSpec:=mkS Vp XI fun x=>jK x.1 x.2
def Vq:List MG:=[uiM,uiM]
def XJ:Ret:=⟨[(.tmp 4,uiM)],[]⟩
def b1m:Env:=⟨60,eqs,tt,gl,[(156,Pm),(157,Pn),(220,ZU)],[],[],[],[],[]⟩
def a3c:Ann:=.leaf
def kS (a0:Int) (a1:Int):Option Int:=l9 (iG a0) fun x=>l7 (C9 x) (some 0) (l9 (iG a1) fun
 (x:Bool)=>l7 (C9 x) (some 0) (l7 (ilt a1 a0) (some 0) (l9 (iF a0) fun x=>l9 (iF a1) fun x_1
 =>l9 (jK a0 (az .i64 12 (D5 .i64 x_1.1 x.1))) fun x_2=>l7 (C9 (ieq x_2.2 0)) (some (lQ (D5
 .i64 (D5 .i64 x_1.1 x.1) 1) 0)) (l7 (ilt a1 x_2.1) (some (lQ (D5 .i64 (D5 .i64 x_1.1 x.1) 1) 0)) (some (lQ
 (D5 .i64 x_1.1 x.1) 0))))))
def a7p:FSpec:=mkS Vq XJ fun x=>kS x.1 x.2
def Ve:List MG:=[(true,(.dat y2)),(true,(.dat y3)),(true,(.dat y3))]
def Xz:Ret:=⟨[(.cell 6 41,(true,(.dat y3))),(.tmp 7,uiM)],[]⟩
def b1c:Env:=⟨139,eqs,tt,gl,[(219,a7o),(218,ZT),(220,ZU),(221,a7p)],[],[],[],[],[]⟩
def a2S:Ann:=.seq lfA (.seq (.joinR [(6,133),(4000384,4000385)] ⟨[(6,(false,(.box (.dat y3))))],[]⟩ (.seq lfA (.blk (.seq (.join [(12,15)] ⟨[(12,ubM)],[]⟩ lfA) (.cond lfA (.seq lfA (.cond lfA (.seq (.join [(33,38)] ⟨[(33,ubM)],[]⟩ lfA) (.cond lfA (.seq (.join [(44,47)] ⟨[(44,ubM)],[]⟩ lfA) lfA)))))))))) lfA)
def xE (a0:x8) (a1:E5) (a2:E5):Option A7:=l9 (l9 (l7 (ieq a0.1 11) (some (ieq a0.1 11)) (some
 (ieq a0.1 27))) fun x=>l7 x (some (.inr ((a1.1,0,o8 .i64 a1.2.2 a2.2.2),0))) (l7 (ieq a0.1 12) (some (.inr ((a1.1,
 0,D5 .i64 a1.2.2 a2.2.2),0))) (l9 (l7 (ieq a0.1 13) (some (ieq a0.1 13)) (l7 (ieq a0.1 14) (some (ieq a0.1 14)) (l7 (ieq a0.1
 15) (some (ieq a0.1 15)) (some (ieq a0.1 16))))) fun x=>l7 x (l9 (xG a0 a1 a2) fun x=>some (.inr
 x)) (l9 (l7 (ieq a0.1 17) (some (ieq a0.1 17)) (some (ieq a0.1 18))) fun x=>l7 x (l7 (jq (ieq a0.1 17) (ilt a2.2.2 a1.2.2))
 (some (.inr (a2,0))) (some (.inr (a1,0)))) (l7 (ieq a0.1 19) (l9 (aQ (ieq a1.2.2 a2.2.2)) fun x=>some (.inr (x,
 0))) (l7 (ieq a0.1 20) (l9 (aQ (C9 (ieq a1.2.2 a2.2.2))) fun x=>some (.inr (x,0))) (l7 (ieq a0.1 21) (l9
 (aQ (ilt a1.2.2 a2.2.2)) fun x=>some (.inr (x,0))) (l7 (ieq a0.1 22) (l9 (aQ (ile a1.2.2 a2.2.2)) fun(x:
 E5)=>some (.inr (x,0))) (l7 (ieq a0.1 23) (l7 (ieq a1.2.2 1) (l9 (aQ (ieq a2.2.2 1)) fun x=>some (.inr (x,
 0))) (l9 (aQ false) fun x=>some (.inr (x,0)))) (l7 (ieq a0.1 24) (l7 (ieq a1.2.2 1) (l9 (aQ true) fun(x
 :E5)=>some (.inr (x,0))) (l9 (aQ (ieq a2.2.2 1)) fun x=>some (.inr (x,0)))) (l7 (ieq a0.1 28) (l9
 (jK a1.2.2 a2.2.2) fun x=>some (.inr ((5,0,x.1),x.2))) (l7 (ieq a0.1 29) (some (.inr ((2,0,D5 .i64
 a2.2.2 a1.2.2),0))) (some (.inl (0,0,0))))))))))))))) fun o=>J3 o (fun(x:E5)=>l9
 (kS a1.2.2 a2.2.2) fun x=>some ((2,0,x),0)) fun r=>some r
def a7i:FSpec:=mkS Ve Xz fun x=>xE x.1 x.2.1 x.2.2
def UK:List MG:=[(true,(.dat y2)),(false,(.dat y28)),(true,(.dat y54))]
def Xh:Ret:=⟨[(.cell 6 41,(true,(.dat y3))),(.tmp 7,uiM)],[]⟩
def b0L:Env:=⟨165,eqs,tt,gl,[(201,a7e),(202,a7f),(203,a7g),(204,a7h),(205,a7i)],[],[],[],[],[]⟩
def a2B:Ann:=.seq lfA (.seq (.joinR [(6,132),(4000384,4000385)] ⟨[(6,(false,(.box (.dat y3))))],[]⟩ (.seq lfA (.blk (.seq (.join [(15,21)] ⟨[(15,ubM)],[]⟩ lfA) (.cond lfA (.seq lfA (.cond lfA (.seq lfA (.cond lfA (.seq lfA (.cond lfA (.seq lfA (.cond lfA (.seq lfA (.cond lfA (.seq (.join [(62,67)] ⟨[(62,ubM)],[]⟩ lfA) lfA)))))))))))))))) lfA)
def uN (a0:x8) (a1:List E5) (a2:kJ):Option A7:=l9 (l9 (l7 (ieq a0.1 1) (some (ieq a0.1 1)) (l7
 (ieq a0.1 2) (some (ieq a0.1 2)) (l7 (ieq a0.1 3) (some (ieq a0.1 3)) (l7 (ieq a0.1 4) (some (ieq a0.1 4)) (some (ieq a0.1 5)))))) fun(x:
 Bool)=>l7 x (some (.inr ((a0.1,0,a0.2),0))) (l7 (ieq a0.1 6) (some (.inr ((6,ay .i64 a0.2 16,gW a0.2 16),0))) (l7
 (ieq a0.1 7) (l9 (lat a2.2.1 a0.2) fun x=>some (.inr (x,0))) (l7 (ieq a0.1 8) (l9 (lat a2.2.2.1 a0.2) fun x=>
 some (.inr (x,0))) (l7 (ieq a0.1 9) (some (.inr ((5,0,a2.1),0))) (l7 (ieq a0.1 35) (some (.inr ((2,0,o7 a2.2.2.2.1),0)))
 (l9 (l7 (ieq a0.1 36) (some (ieq a0.1 36)) (l7 (ieq a0.1 37) (some (ieq a0.1 37)) (l7 (ieq a0.1 38) (some (ieq a0.1 38)) (some (ieq a0.1
 39))))) fun x=>l7 x (l9 (lZ a0 a2) fun x=>some (.inr x)) (l7 (ieq a0.1 33) (l9 (lat
 a2.2.2.2.2.2 a0.2) fun x=>l9 (lat a1 0) fun x_1=>l9 (vW x a2.1 x_1.2.2) fun x_2=>l7
 (C9 x_2.2) (some (.inr ((0,0,0),6))) (l9 (lat x.2.2.2 x_2.1) fun x_3=>some (.inr ((x.2.2.1.1,x.2.2.1.2,x_3.2.2.2),0))))
 (l7 (ieq a0.1 34) (l9 (lat a2.2.2.2.2.2 (ay .i64 a0.2 8)) fun x=>l9 (lat a1 0) fun x_1=>l9
 (qP x a2.1 x_1.2.2 (gW a0.2 8)) fun x=>some (.inr ((3,0,x.1),x.2))) (some (.inl (0,0,0)))))))))))) fun(o:
 E5⊕A7)=>J3 o (fun(x:E5)=>l7 (ieq (o7 a1) 1) (l9 (lat a1 0) fun x=>l9 (zy a0.1 x) fun
 (x:E5)=>some (x,0)) (l7 (ieq (o7 a1) 2) (l9 (lat a1 0) fun x=>l9 (lat a1 1) fun x_1=>l9 (xE
 a0 x x_1) fun x=>some x) (l9 (lat a1 0) fun x=>l7 (ieq x.2.2 1) (l9 (lat a1 1) fun x=>some
 (x,0)) (l9 (lat a1 2) fun x=>some (x,0))))) fun r=>some r
def a6W:FSpec:=mkS UK Xh fun x=>uN x.1 x.2.1 x.2.2
def Uo:List MG:=[(true,(.dat y2)),(false,(.dat y28)),(true,(.dat y54))]
def WO:Ret:=⟨[(.cell 6 41,(true,(.dat y3))),(.tmp 7,uiM)],[]⟩
def b0r:Env:=⟨54,eqs,tt,gl,[(177,a6S),(175,MK),(178,a6T),(179,a6U),(180,a6V),(181,a6W),(182,Ig)],[],[],[],[],[]⟩
def a2h:Ann:=.seq lfA (.seq (.joinR [(6,8),(10,22),(4000384,4000385)] ⟨[(6,(false,(.box (.dat y3))))],[]⟩ lfA) lfA)
def zx (a0:x8) (a1:List E5) (a2:kJ):Option A7:=l9 (l9 (oH a0) fun x=>l7
 (C9 x) (some (.inr ((0,0,0),2))) (l9 (fK a0.1) fun x=>l7 (C9 (ieq (o7 a1) x)) (some (.inr ((0,0,0),2)))
 (some (.inl (0,0,0))))) fun o=>J3 o (fun(x:E5)=>l9 (xF a0 a2) fun x=>l7
 (C9 x) (some ((0,0,0),6)) (l9 (kV a1) fun x=>l7 (C9 x) (some ((0,0,0),8)) (l9 (uM a0 a1 a2)
 fun x=>l7 (C9 x) (some ((0,0,0),8)) (l9 (uN a0 a1 a2) fun x=>l7 (C9 (ieq x.2 0)) (some
 ((0,0,0),x.2)) (l9 (V9 x.1) fun x_1=>l7 (C9 x_1) (some ((0,0,0),3)) (some (x.1,0))))))) fun(r:
 A7)=>some r
def a6G:FSpec:=mkS Uo WO fun x=>zx x.1 x.2.1 x.2.2
def Ot:List MG:=[(true,(.dat y61)),uiM]
def Cm:List MG:=[(true,(.dat y61)),uiM]
def Oq:List MG:=[(true,(.dat y61)),(true,(.dat y2)),(false,(.dat y38))]
def a5n:Ret:=⟨[(.cell 4 41,(true,(.dat y3))),(.tmp 5,uiM)],[]⟩
def b0G (r176:M.den (.dat y61)→M.den diM→Option (I9 ([(true,(.dat y3)),uiM]++[]))) (r108:M.den (.dat y61)→M.den diM→Option (I9 ([(true,(.dat y3)),uiM]++[]))) (r151:M.den (.dat y61)→M.den (.dat y2)→M.den (.dat y38)→Option (I9 ([(true,(.dat y3)),uiM]++[]))):Env:=⟨28,eqs,tt,gl,[(108,⟨Cm,[(true,(.dat y3)),uiM],[],fun x=>r108 x.1 x.2⟩),(182,Ig)],[],[],[],[],[]⟩
def a2w:Ann:=.leaf
def jr (r176:I5→Int→Option A7) (r108:I5→Int→Option A7)
 (r151:I5→x8→List Int→Option A7) (a0:I5) (a1:Int):Option A7:=l9 (r108 a0
 a1) fun x=>l7 (C9 (ieq x.2 0)) (some ((0,0,0),x.2)) (l7 (C9 (ieq x.1.1 1)) (some ((0,0,0),8)) (l9
 (V9 x.1) fun x_1=>l7 (C9 x_1) (some ((0,0,0),8)) (some (x.1,0))))
def Wj:Ret:=⟨[(.cell 4 41,(true,(.dat y3))),(.tmp 5,uiM)],[]⟩
def a9U (r176:M.den (.dat y61)→M.den diM→Option (I9 ([(true,(.dat y3)),uiM]++[]))) (r108:M.den (.dat y61)→M.den diM→Option (I9 ([(true,(.dat y3)),uiM]++[]))) (r151:M.den (.dat y61)→M.den (.dat y2)→M.den (.dat y38)→Option (I9 ([(true,(.dat y3)),uiM]++[]))):Env:=⟨65,eqs,tt,gl,[(150,a6F),(151,⟨Oq,[(true,(.dat y3)),uiM],[],fun x=>r151 x.1 x.2.1 x.2.2⟩),(108,⟨Cm,[(true,(.dat y3)),uiM],[],fun x=>r108 x.1 x.2⟩),(152,a6G)],[],[],[],[],[]⟩
def a1K:Ann:=.seq lfA (.seq lfA (.seq lfA (.seq (.joinR [(4,6),(21,33),(4000256,4000257)] ⟨[(4,(false,(.box (.dat y3))))],[]⟩ lfA) (.seq lfA (.seq (.seq lfA (.blk (.loopR [(4,6),(8,13),(38,58),(12000000,12000001),(37002240,37002241)] ⟨[(4,(false,(.box (.dat y3)))),(8,(false,(.own y3))),(38,uiM)],[]⟩ 1 ⟨[(4,(false,(.box (.dat y3)))),(8,(false,(.own y3)))],[]⟩ lfA))) lfA)))))
def lK (r176:I5→Int→Option A7) (r108:I5→Int→Option A7) (r151:
 I5→x8→List Int→Option A7) (a0:I5) (a1:Int):Option A7:=l9 (lat a0.1 a1) fun
 (x:x8)=>l9 (fU a0 a1) fun x_1=>l9 (l7 (ieq x.1 23) (l7 (ieq x.1 23) (l9 (r151 a0 x x_1) fun
 (x:A7)=>some (.inr x)) (some (.inl (0,0,0)))) (l7 (ieq x.1 24) (l7 (ieq x.1 24) (l9 (r151 a0 x x_1) fun(x:
 A7)=>some (.inr x)) (some (.inl (0,0,0)))) (l7 (ieq x.1 26) (l9 (r151 a0 x x_1) fun x=>some
 (.inr x)) (some (.inl (0,0,0)))))) fun o=>J3 o (fun(x_2:E5)=>l9 (lT (o7 x_1) (0,0,0)) fun
 (x_3:List E5)=>l9 (N7 (fun(x:E5×List E5×Int)=>l7 (ilt x.2.2 (o7 x_1)) (l9 (lat x_1 x.2.2) fun x_4=>
 l9 (O9 x_1 (toN x.2.2)) fun x_5=>l9 (r108 a0 x_5) fun x_6=>l7 (C9 (ieq x_6.2 0)) (some (.rt ((0,0,
 0),x_6.2))) (l9 (lat x.2.1 x.2.2) fun x_7=>l9 (O9 x.2.1 (toN x.2.2)) fun x_8=>some (.nx (x.1,U0 x.2.1 (toN
 x.2.2) x_6.1,o8 .i64 x.2.2 1)))) (some (.ex (x.1,x.2.1)))) (x_2,x_3,0)) fun o=>J3 o
 (fun(y:E5×List E5)=>l9 (zx x y.2 a0.2.2) fun x=>some x) fun r=>some r) fun(r
 :A7)=>some r
def a5k:Ret:=⟨[(.cell 6 41,(true,(.dat y3))),(.tmp 7,uiM)],[]⟩
def b0q (r176:M.den (.dat y61)→M.den diM→Option (I9 ([(true,(.dat y3)),uiM]++[]))) (r108:M.den (.dat y61)→M.den diM→Option (I9 ([(true,(.dat y3)),uiM]++[]))) (r151:M.den (.dat y61)→M.den (.dat y2)→M.den (.dat y38)→Option (I9 ([(true,(.dat y3)),uiM]++[]))):Env:=⟨69,eqs,tt,gl,[(176,⟨Ot,[(true,(.dat y3)),uiM],[],fun x=>r176 x.1 x.2⟩),(108,⟨Cm,[(true,(.dat y3)),uiM],[],fun x=>r108 x.1 x.2⟩)],[],[],[],[],[]⟩
def a2g:Ann:=.seq lfA (.seq lfA (.seq lfA (.seq lfA (.seq (.blk (.seq (.join [(26,35)] ⟨[(26,ubM)],[]⟩ lfA) lfA)) lfA))))
def lJ (r176:I5→Int→Option A7) (r108:I5→Int→Option A7) (r151:
 I5→x8→List Int→Option A7) (a0:I5) (a1:x8) (a2:List Int):Option A7:=l7
 (C9 (ieq a1.2 0)) (some ((0,0,0),2)) (l9 (lat a2 0) fun x=>l9 (r176 a0 x) fun x=>l7 (C9 (ieq x.2 0))
 (some ((0,0,0),x.2)) (l9 (l7 (ieq a1.1 26) (some (ieq x.1.2.2 1)) (some false)) fun x_1=>l7 x_1 (l9 (lat a2 1) fun(x:
 Int)=>l9 (r108 a0 x) fun x=>some x) (l7 (ieq a1.1 26) (l9 (lat a2 2) fun x=>l9 (r108 a0 x) fun(x:
 A7)=>some x) (l7 (jq (ieq a1.1 23) (ieq x.1.2.2 0)) (some (x.1,0)) (l9 (lat a2 1) fun x=>l9 (r176 a0 x) fun(x
 :A7)=>some x)))))
def o9:Nat→(M.den (.dat y61)→M.den diM→Option (I9 ([(true,(.dat y3)),uiM]++[])))×(M.den (.dat y61)→M.den diM→Option (I9 ([(true,(.dat y3)),uiM]++[])))×(M.den (.dat y61)→M.den (.dat y2)→M.den (.dat y38)→Option (I9 ([(true,(.dat y3)),uiM]++[])))
 | 0=>(fun a0 a1=>none,fun a0 a1=>none,fun a0 a1 a2=>none)
 | n+1=>(fun a0 a1=>jr (o9 n).1 (o9 n).2.1 (o9 n).2.2 a0 a1,fun a0 a1=>lK (o9 n).1 (o9 n).2.1 (o9 n).2.2 a0 a1,fun a0 a1 a2=>lJ (o9 n).1 (o9 n).2.1 (o9 n).2.2 a0 a1 a2)
def ji:M.den (.dat y61)→M.den diM→Option (I9 ([(true,(.dat y3)),uiM]++[])):=fun a0 a1=>(o9 bJ).2.1 a0 a1
def a6q:FSpec:=mkS Cm Wj fun x=>ji x.1 x.2
def a4T:List MG:=[(false,(.dat y12)),(true,(.dat y54))]
def a6a:Ret:=⟨[(.cell 4 41,(true,(.dat y3))),(.tmp 5,uiM)],[]⟩
def e72:Env:=⟨27,eqs,tt,gl,[(107,a6p),(108,a6q)],[],[],[],[],[]⟩
def a9C:Ann:=.leaf
def wF (a0:List x8) (a1:kJ):Option A7:=l9 (xI a0) fun x=>l7 (C9 (ieq x.2 0))
 (some ((0,0,0),x.2)) (l9 (ji (a0,x.1,a1) (D5 .i64 (o7 a0) 1)) fun x=>some x)
def s72:FSpec:=mkS a4T a6a fun x=>wF x.1 x.2
def Uj:List MG:=[(false,(.dat y38)),(false,(.dat y38))]
def WI:Ret:=⟨[(.tmp 4,uiM)],[]⟩
def b0l:Env:=⟨42,eqs,tt,gl,[],[],[],[],[],[]⟩
def a2b:Ann:=.seq lfA (.seq lfA (.seq lfA (.seq (.seq lfA (.blk (.loopR [(4,7),(17,42)] ⟨[(17,uiM)],[]⟩ 0 ⟨[],[]⟩ lfA))) lfA)))
def lu (a0:List Int) (a1:List Int):Option Int:=l7 (C9 (ieq (o7 a0) (o7 a1))) (some 2) (l7 (ilt 8 (o7 a0)) (some
 4) (l9 (N7 (fun(x:Int)=>l7 (ilt x (o7 a0)) (l9 (lat a0 x) fun x_1=>l7 (ilt x_1 (-1)) (some (.rt 9)) (l7 (ile x
 x_1) (some (.rt 9)) (l9 (lat a1 x) fun x_2=>l7 (ilt x_2 0) (some (.rt 3)) (l9 (lat a1 x) fun x_3=>l7 (ilt 9
 x_3) (some (.rt 3)) (some (.nx (o8 .i64 x 1))))))) (some (.ex ()))) 0) fun o=>J3 o (fun(y:PUnit)=>
 some 0) fun r=>some r))
def a6D:FSpec:=mkS Uj WI fun x=>lu x.1 x.2
def UR:List MG:=[(false,(.dat y38)),uiM]
def Xn:Ret:=⟨[(.tmp 4,uoM)],[]⟩
def b0R:Env:=⟨24,eqs,tt,gl,[],[],[],[],[],[]⟩
def a2H:Ann:=.seq lfA (.seq lfA (.seq (.seq lfA (.blk (.loop [(5,8),(10,23)] ⟨[(5,uoM),(10,uiM)],[]⟩ 0 ⟨[(5,uoM)],[]⟩ lfA))) lfA))
def lq (a0:List Int) (a1:Int):Option (List Int):=l9 (O7 (fun(x:List Int×Int)=>l7 (ilt x.2 (o7 a0)) (l9
 (lat a0 x.2) fun x_1=>l7 (ieq x_1 a1) (l9 (Y2 x.1 [x.2]) fun x_2=>some (.inl (x_2,o8 .i64 x.2 1)))
 (some (.inl (x.1,o8 .i64 x.2 1)))) (some (.inr x.1))) ([],0)) fun y=>some y
def a7a:FSpec:=mkS UR Xn fun x=>lq x.1 x.2
def UE:List MG:=[(true,(.dat y68)),uiM]
def Xb:Ret:=⟨[(.tmp 4,uoM)],[]⟩
def b0E:Env:=⟨67,eqs,tt,gl,[(194,a7a)],[],[],[],[],[]⟩
def a2u:Ann:=.seq lfA (.seq lfA (.seq (.seq lfA (.blk (.loop [(5,6),(7,8),(13,66)] ⟨[(5,uoM),(13,uiM)],[]⟩ 0 ⟨[(5,uoM)],[]⟩ (.seq lfA (.seq lfA (.seq (.blk (.seq lfA (.seq lfA (.seq (.join [(5,6),(23,43),(14000000,14000001)] ⟨[(5,uoM)],[]⟩ lfA) lfA)))) lfA)))))) lfA))
def kG (a0:Z9) (a1:Int):Option (List Int):=l9 (lq a0.1 a1) fun x=>l9 (O7
 (fun(x_1:List Int×Int)=>l7 (ilt x_1.2 (o7 x)) (l9 (lat x x_1.2) fun x_2=>l9 (O9 x (toN x_1.2)) fun x=>l9
 (lat a0.2.2 x) fun x_3=>l7 (ieq x_3 (-1)) (some (.inl (x_1.1,o8 .i64 x_1.2 1))) (l9 (l7 (ilt 0 (o7 x_1.1)) (l9
 (lat a0.2.1 x) fun x=>l9 (lat x_1.1 0) fun x_4=>l9 (O9 x_1.1 (toN 0)) fun x_5=>l9 (lat a0.2.1 x_5) fun(x_6
 :Int)=>l7 (ilt x_6 x) (l7 (mV 0 0 (o7 x_1.1)) (some (fZ x_1.1 (toN 0) (toN 0))) none) (some x_1.1)) (some x_1.1)) fun x_4=>l7 (ieq (o7 x_4) 0) (l9 (Y2 x_4 [x]) fun x=>some (.inl (x,o8 .i64 x_1.2 1))) (l9 (lat a0.2.1 x) fun
 (x_5:Int)=>l9 (lat x_4 0) fun x_6=>l9 (O9 x_4 (toN 0)) fun x_7=>l9 (lat a0.2.1 x_7) fun x_8=>l7 (ieq
 x_5 x_8) (l9 (Y2 x_4 [x]) fun x=>some (.inl (x,o8 .i64 x_1.2 1))) (some (.inl (x_4,o8 .i64 x_1.2
 1)))))) (some (.inr x_1.1))) ([],0)) fun y=>some y
def a6R:FSpec:=mkS UE Xb fun x=>kG x.1 x.2
def Ul:List MG:=[(true,(.dat y68)),uiM]
def WL:Ret:=⟨[(.tmp 4,uiM)],[]⟩
def b0n:Env:=⟨22,eqs,tt,gl,[(174,a6R)],[],[],[],[],[]⟩
def a2d:Ann:=.leaf
def aU (a0:Z9) (a1:Int):Option Int:=l9 (kG a0 a1) fun x=>l7 (ieq (o7
 x) 0) (some (-1)) (l7 (ieq (o7 x) 1) (l9 (lat x 0) fun x_1=>l9 (O9 x (toN 0)) fun x=>l9 (lat a0.2.2 x) fun(x:
 Int)=>some x) (some (-2)))
def ZM:FSpec:=mkS Ul WL fun x=>aU x.1 x.2
def Uk:List MG:=[(false,(.dat y38)),(false,(.dat y38)),(false,(.dat (.sl .bool)))]
def WJ:Ret:=⟨[(.tmp 6,uoM)],[]⟩
def b0m:Env:=⟨48,eqs,tt,gl,[(148,ZM)],[],[],[],[],[]⟩
def a2c:Ann:=.seq lfA (.seq lfA (.seq (.seq lfA (.blk (.loop [(7,9),(18,46),(7000448,7000449),(7000832,7000833)] ⟨[(7,(false,(.box (.pair (.dat y38) (.pair (.dat y38) oiM))))),(8,uiM)],[]⟩ 0 ⟨[(7,(false,(.box (.pair (.dat y38) (.pair (.dat y38) oiM)))))],[]⟩ lfA))) lfA))
def lw (a0:List Int) (a1:List Int) (a2:List Bool):Option (List Int):=l9 (lT (o7 a0) 0) fun x=>l9
 (O7 (fun(x:Z9×Int)=>l7 (ile 0 x.2) (l9 (aU x.1 x.2) fun x_1=>l9 (lat x.1.2.2 x.2) fun
 (x_2:Int)=>l9 (O9 x.1.2.2 (toN x.2)) fun x_3=>l9 (lat (U0 x.1.2.2 (toN x.2) x_1) x.2) fun x_4=>l9 (O9 (U0
 x.1.2.2 (toN x.2) x_1) (toN x.2)) fun x_5=>l7 (ieq x_5 (-1)) (l9 (lat a2 x.2) fun x_6=>l7 x_6 (l9 (lat (U0 x.1.2.2
 (toN x.2) x_1) x.2) fun x_7=>l9 (O9 (U0 x.1.2.2 (toN x.2) x_1) (toN x.2)) fun x_8=>some (.inl ((x.1.1,x.1.2.1,U0
 (U0 x.1.2.2 (toN x.2) x_1) (toN x.2) x.2),D5 .i64 x.2 1))) (some (.inl ((x.1.1,x.1.2.1,U0 x.1.2.2 (toN x.2) x_1),D5 .i64
 x.2 1)))) (some (.inl ((x.1.1,x.1.2.1,U0 x.1.2.2 (toN x.2) x_1),D5 .i64 x.2 1)))) (some (.inr x.1))) ((a0,a1,x),D5
 .i64 (o7 a0) 1)) fun y=>some y.2.2
def a6E:FSpec:=mkS Uk WJ fun x=>lw x.1 x.2.1 x.2.2
def TQ:List MG:=[(false,(.dat y38)),(false,(.dat y38)),(false,(.dat (.sl .bool)))]
def Wh:Ret:=⟨[(.tmp 6,uiM)],[]⟩
def a9S:Env:=⟨26,eqs,tt,gl,[(146,a6D),(147,a6E),(148,ZM)],[],[],[],[],[]⟩
def a1I:Ann:=.leaf
def pq (a0:List Int) (a1:List Int) (a2:List Bool):Option Int:=l9 (lu a0 a1) fun x=>l7 (C9 (ieq
 x 0)) (some (-1)) (l7 (C9 (ieq (o7 a2) (o7 a0))) (some (-1)) (l9 (lw a0 a1 a2) fun x=>l9
 (aU (a0,a1,x) (-1)) fun x=>some x))
def a6o:FSpec:=mkS TQ Wh fun x=>pq x.1 x.2.1 x.2.2
def a4S:List MG:=[(true,(.dat y24)),(true,(.dat y54)),uiM,uiM]
def a5Z:Ret:=⟨[(.tmp 8,uiM),(.cell 9 37,(true,(.dat y32)))],[]⟩
def e71:Env:=⟨87,eqs,tt,gl,[(105,a6n),(72,s72),(106,a6o)],[],[],[],[],[]⟩
def a9B:Ann:=.seq lfA (.seq lfA (.seq lfA (.seq (.seq lfA (.blk (.loopR [(8,10),(13,18),(33,74),(4000576,4000577),(10001920,10001921)] ⟨[(9,(false,(.box (.dat y32)))),(13,(false,(.own .bool))),(33,uiM)],[]⟩ 0 ⟨[(9,(false,(.box (.dat y32)))),(13,(false,(.own .bool)))],[]⟩ lfA))) lfA)))
def oQ (a0:E8) (a1:kJ) (a2:Int) (a3:Int):Option (Int×F6):=l9 (lX a0 a3 a1.1) fun(x:
 Z9)=>l9 (lT (o7 x.1) false) fun x_1=>l9 (N7 (fun(x_2:F6×List Bool×Int)=>l7 (ilt
 x_2.2.2 (o7 x.1)) (l9 (lat x.1 x_2.2.2) fun x_3=>l9 (O9 x.1 (toN x_2.2.2)) fun x=>l9 (lat a0.2.2.2.2 x) fun(x_4:
 bW)=>l7 (ieq (o7 x_4.2.2.2.2.2.1) 0) (l9 (lat x_2.2.1 x_2.2.2) fun x=>l9 (O9 x_2.2.1 (toN x_2.2.2)) fun x=>
 some (.nx (x_2.1,U0 x_2.2.1 (toN x_2.2.2) true,o8 .i64 x_2.2.2 1))) (l9 (lat a0.2.2.2.2 x) fun x_5=>l9 (wF
 x_5.2.2.2.2.2.1 a1) fun x_6=>l7 (C9 (ieq x_6.2 0)) (some (.rt (0,x_6.2,a2,a3,x))) (l9 (lat x_2.2.1 x_2.2.2) fun
 (x:Bool)=>l9 (O9 x_2.2.1 (toN x_2.2.2)) fun x=>some (.nx (x_2.1,U0 x_2.2.1 (toN x_2.2.2) (ieq x_6.1.2.2 1),o8
 .i64 x_2.2.2 1))))) (some (.ex (x_2.1,x_2.2.1)))) ((0,0,0,0),x_1,0)) fun o=>J3 o
 (fun(y:F6×List Bool)=>l9 (pq x.2.1 x.2.2 y.2) fun x_2=>l7 (ilt x_2 0) (some (x_2,0,0,0,0)) (l9
 (lat x.1 x_2) fun x_3=>l9 (O9 x.1 (toN x_2)) fun x=>some (x,0,0,0,0))) fun r=>some r
def s71:FSpec:=mkS a4S a5Z fun x=>oQ x.1 x.2.1 x.2.2.1 x.2.2.2
def a4z:List MG:=[(true,(.dat y24)),(false,(.box (.pair diM (.pair (.dat y28) (.pair (.own y3) (.pair (.dat y29) (.pair (.dat y12) (.dat y9)))))))),uiM,(false,(.dat (.sl .bool)))]
def a5G:Ret:=⟨[(.tmp 8,uoM),(.cell 9 37,(true,(.dat y32)))],[(1,(true,(.pair diM (.pair (.dat y28) (.pair (.own y3) (.pair (.dat y29) (.pair (.dat y12) (.dat y9))))))))]⟩
def e42:Env:=⟨105,eqs,tt,gl,[(70,s70),(71,s71),(72,s72)],[],[],[],[1],[]⟩
def a9i:Ann:=.seq lfA (.seq lfA (.seq lfA (.seq lfA (.seq (.seq lfA (.blk (.loopR [(1,2),(8,11),(14,19),(37,103),(1000000,1000001),(4000576,4000577),(7001472,7001473),(10001856,10001857)] ⟨[(1,(false,(.box (.pair diM (.pair (.dat y28) (.pair (.own y3) (.pair (.dat y29) (.pair (.dat y12) (.dat y9))))))))),(9,(false,(.box (.dat y32)))),(10,uoM),(37,uiM)],[]⟩ 0 ⟨[(1,(false,(.box (.pair diM (.pair (.dat y28) (.pair (.own y3) (.pair (.dat y29) (.pair (.dat y12) (.dat y9))))))))),(9,(false,(.box (.dat y32)))),(10,uoM)],[]⟩ lfA))) lfA))))
def dC (a0:E8) (a1:kJ) (a2:Int) (a3:List Bool):Option (List Int×F6×kJ):=l9 (lT (o7
 a0.2.2.2.1) (0,0,0)) fun x=>l9 (lT (o7 a0.2.2.2.1) 0) fun x_1=>l9 (iW a0) fun(x_2:
 List Int×Int)=>l9 (N7 (fun(x:kJ×F6×List Int×Int)=>l7 (ilt x.2.2.2 (o7 x_2.1)) (l9 (lat x_2.1 x.2.2.2) fun(x_3
 :Int)=>l9 (O9 x_2.1 (toN x.2.2.2)) fun x_4=>l9 (lat a3 x_4) fun x_5=>l7 (C9 x_5) (some (.nx (x.1,x.2.1,
 x.2.2.1,o8 .i64 x.2.2.2 1))) (l9 (oQ a0 x.1 a2 x_4) fun x_6=>l7 (C9 (ieq x_6.2.1 0)) (some
 (.rt ([],x_6.2,x.1))) (l7 (ieq x_6.1 (-1)) (some (.rt ([],(10,a2,x_4,-1),x.1))) (l7 (ieq x_6.1 (-2)) (some (.rt ([],(11,a2,
 x_4,-1),x.1))) (l9 (lat a0.2.2.2.2 x_6.1) fun x_7=>l9 (wF x_7.2.2.2.2.2.2.1 x.1) fun x_8=>l7
 (C9 (ieq x_8.2 0)) (some (.rt ([],(x_8.2,a2,x_4,x_6.1),x.1))) (l9 (lat x.1.2.2.1 x_4) fun x_9=>l9 (O9 x.1.2.2.1 (toN
 x_4)) fun x_10=>l9 (lat x.2.2.1 x_4) fun x_11=>l9 (O9 x.2.2.1 (toN x_4)) fun x_12=>some (.nx ((x.1.1,
 x.1.2.1,U0 x.1.2.2.1 (toN x_4) x_8.1,x.1.2.2.2),x.2.1,U0 x.2.2.1 (toN x_4) x_6.1,o8 .i64 x.2.2.2 1)))))))) (some (.ex (x.1,
 x.2.1,x.2.2.1)))) ((a1.1,a1.2.1,x,a1.2.2.2),(0,0,0,0),x_1,0)) fun o=>J3
 o (fun(y:kJ×F6×List Int)=>some (y.2.2,(0,0,0,0),y.1)) fun r=>some r
def s42:FSpec:=mkS a4z a5G fun x=>dC x.1 x.2.1 x.2.2.1 x.2.2.2
def a4n:List MG:=[(true,(.dat y27)),uiM,(true,(.dat y31)),(false,(.box (.pair (.dat y24) (.pair (.dat y24) (.pair (.own .bool) (.own .bool))))))]
def a5u:Ret:=⟨[(.cell 8 87,(true,(.dat y49))),(.cell 9 90,(true,(.dat y54))),(.cell 10 37,(true,(.dat y32)))],[(3,(true,(.pair (.dat y24) (.pair (.dat y24) (.pair (.own .bool) (.own .bool))))))]⟩
def e24:Env:=⟨123,eqs,tt,gl,[(42,s42)],[],[],[],[3],[]⟩
def a8V:Ann:=.seq lfA (.seq lfA (.seq lfA (.seq (.seq lfA (.blk (.loop [(11,12),(14,15),(35,47),(7000704,7000705)] ⟨[(11,(false,(.box (.pair diM (.pair (.dat y28) (.pair (.cell (some none)) (.pair (.cell (some none)) (.pair (.own y2) (.dat y9))))))))),(35,uiM)],[]⟩ 0 ⟨[(11,(false,(.box (.pair diM (.pair (.dat y28) (.pair (.cell (some none)) (.pair (.cell (some none)) (.pair (.own y2) (.dat y9)))))))))],[]⟩ lfA))) (.seq (.seq lfA (.blk (.loopR [(8,13),(15,20),(50,97),(4000512,4000513),(4000576,4000577),(4000640,4000641),(10000768,10000769),(18000000,18000002)] ⟨[(8,(false,(.box (.dat y49)))),(9,(false,(.box (.dat y54)))),(10,(false,(.box (.dat y32)))),(11,(false,(.box (.pair diM (.pair (.dat y28) (.pair (.cell (some none)) (.pair (.own y28) (.pair (.own y2) (.dat y9))))))))),(12,(false,(.box (.pair (.dat y28) (.pair (.dat y38) (.own y46)))))),(50,uiM)],[]⟩ 2 ⟨[(8,(false,(.box (.dat y49)))),(9,(false,(.box (.dat y54)))),(10,(false,(.box (.dat y32)))),(11,(false,(.box (.pair diM (.pair (.dat y28) (.pair (.cell (some none)) (.pair (.own y28) (.pair (.own y2) (.dat y9))))))))),(12,(false,(.box (.pair (.dat y28) (.pair (.dat y38) (.own y46))))))],[]⟩ lfA))) lfA))))
def oO (a0:iq) (a1:Int) (a2:Bv) (a3:U4):Option (uC×kJ×F6×U4):=l9 (O7
 (fun(x:(Int×List E5×PUnit×PUnit×List x8×List ja)×Int)=>l7 (ilt x.2 (o7 a3.2.1.2.2.2.1)) (l9 (lat a3.2.1.2.2.2.1
 x.2) fun x_1=>l9 (Y2 x.1.2.2.2.2.1 [x_1.2]) fun x_2=>some (.inl ((x.1.1,x.1.2.1,(),(),x_2,
 x.1.2.2.2.2.2),o8 .i64 x.2 1))) (some (.inr (x.1.1,x.1.2.1,(),(),x.1.2.2.2.2)))) ((a2.1,a2.2.1,(),
 (),[],a0.2.1),0)) fun y=>l9 (N7 (fun(x:uC×kJ×
 F6×(Int×List E5×PUnit×List (List E5)×List x8×List ja)×uC×Int)=>l7 (ilt x.2.2.2.2.2 (o7 a2.2.2))
 (l9 (lat a2.2.2 x.2.2.2.2.2) fun x_1=>l9 (dC a3.2.1 (a2.1,x_1,[],[],[],a0.2.1) x.2.2.2.2.2 a3.2.2.2)
 fun x_2=>l7 (C9 (ieq x_2.2.1.1 0)) (some (.rt (([],[],[]),(0,[],[],[],[],[]),x_2.2.1,a3)))
 (l9 (Y2 x.2.2.2.1.2.2.2.1 [x_2.2.2.2.2.1]) fun x_3=>l9 (Y2 x.2.2.2.2.1.2.2 [(x_2.2.2.2.2.1,x_2.1)]) fun(x_4:
 List AX)=>some (.nx (x.1,x.2.1,x.2.2.1,(x.2.2.2.1.1,x.2.2.2.1.2.1,(),x_3,x.2.2.2.1.2.2.2.2),(x.2.2.2.2.1.1,
 x.2.2.2.2.1.2.1,x_4),o8 .i64 x.2.2.2.2.2 1)))) (some (.ex (x.1,x.2.1,x.2.2.1,(x.2.2.2.1.1,x.2.2.2.1.2.1,(),
 x.2.2.2.1.2.2.2),x.2.2.2.2.1)))) (([],[],[]),(0,[],[],[],[],[]),(0,0,0,0),(y.1,y.2.1,(),[],y.2.2.2.2),([],[],[]),0))
 fun o=>J3 o (fun(y:uC×kJ×F6×(Int×List E5×PUnit×List (List E5)×List x8×List
 ja)×uC)=>l9 (dC a3.1 (y.2.2.2.1.1,y.2.2.2.1.2.1,[],y.2.2.2.1.2.2.2) (-1) a3.2.2.1) fun x=>l7 (C9 (ieq x.2.1.1 0)) (some (([],[],[]),(0,[],[],[],[],[]),x.2.1,a3)) (some ((x.2.2.2.2.1,x.1,
 y.2.2.2.2.2.2),x.2.2,(0,0,0,0),a3))) fun r=>some r
def s24:FSpec:=mkS a4n a5u fun x=>oO x.1 x.2.1 x.2.2.1 x.2.2.2
def ps9:List MG:=[(true,(.dat y27)),uiM,(true,(.dat y31)),uiM]
def rt9:Ret:=⟨[(.cell 8 41,(true,(.dat y3))),(.tmp 9,uiM),(.cell 10 37,(true,(.dat y32)))],[]⟩
def e9:Env:=⟨57,eqs,tt,gl,[(21,s21),(22,s22),(23,s23),(24,s24)],[],[],[],[],[]⟩
def an9:Ann:=.leaf
def jW (a0:iq) (a1:Int) (a2:Bv) (a3:Int):Option (E5×Int×F6):=l9 (iC a0 a1 a2 true
 a3) fun x=>l7 (C9 (ieq x.1 0)) (some ((0,0,0),0,x)) (l9 (oP a0 a1) fun x=>l9
 (jk x a3) fun x=>l9 (oO a0 a1 a2 x) fun x=>
 l7 (C9 (ieq x.2.2.1.1 0)) (some ((0,0,0),0,x.2.2.1)) (l9 (lat x.1.1 a3) fun x_1=>l9 (lat x.1.2.1 a3) fun x=>
 some (x_1,x,0,0,0,0)))
def s9:FSpec:=mkS ps9 rt9 fun x=>jW x.1 x.2.1 x.2.2.1 x.2.2.2
def a4s:List MG:=[(false,(.box (.pair (.own y36) (.pair (.dat y27) (.pair diM (.pair (.dat y31) (.pair (.own (.ent true true y2 y39)) (.dat y32)))))))),(true,(.dat y2))]
def a5z:Ret:=⟨[(.cell 4 109,(true,(.dat y39)))],[(0,(true,(.pair (.own y36) (.pair (.dat y27) (.pair diM (.pair (.dat y31) (.pair (.own (.ent true true y2 y39)) (.dat y32))))))))]⟩
def e32:Env:=⟨100,eqs,tt,gl,[(9,s9)],[],[],[],[0],[]⟩
def a9a:Ann:=.seq lfA (.seq lfA (.seq lfA (.seq (.join [(7,9),(32,62),(20000512,20000513)] ⟨[(7,uiM),(8,(false,(.box (.dat y31))))],[]⟩ lfA) (.seq lfA (.seq (.join [(0,1),(75,90),(1000000,1000003)] ⟨[(0,(false,(.box (.pair (.own y36) (.pair (.dat y27) (.pair diM (.pair (.dat y31) (.pair (.own (.ent true true y2 y39)) (.dat y32)))))))))],[]⟩ lfA) lfA)))))
def V8 (a0:x9) (a1:x8):Option (A7×x9):=l7 (uj (fun(a b:x8)=>
 U7 (ieq a.1 b.1) (ieq a.2 b.2)) a0.2.2.2.2.1 a1) (some (qw (fun(a b:x8)=>U7 (ieq a.1 b.1) (ieq a.2 b.2)) a0.2.2.2.2.1 a1 ((0,0,0),
 0),a0)) (l9 (l7 (ile 0 a1.1) (l9 (lat a0.2.1.2.2 a0.2.2.1) fun x=>l9 (lat a0.2.2.2.1.2.2 a1.1) fun x_1=>
 some (x.2.1,a0.2.2.2.1.1,x_1,[])) (some (a0.2.2.1,a0.2.2.2.1))) fun x=>l9 (jW a0.2.1 x.1 x.2 a1.2) fun(x:
 E5×Int×F6)=>l9 (l7 (C9 (ieq x.2.2.1 0)) (l7 (ieq a0.2.2.2.2.2.1 0) (some (a0.1,a0.2.1,a0.2.2.1,a0.2.2.2.1,
 a0.2.2.2.2.1,x.2.2)) (some a0)) (some a0)) fun x_1=>some ((x.1,x.2.1),x_1.1,x_1.2.1,x_1.2.2.1,x_1.2.2.2.1,wM (fun(a
 b:x8)=>U7 (ieq a.1 b.1) (ieq a.2 b.2)) x_1.2.2.2.2.1 a1 (x.1,x.2.1),x_1.2.2.2.2.2))
def s32:FSpec:=mkS a4s a5z fun x=>V8 x.1 x.2
def OA:List MG:=[(true,(.dat y36)),(false,(.rp (.int .i64))),(false,(.rp (.int .i64)))]
def OQ:Ret:=⟨[(.tmp 4,ubM)],[]⟩
def a3M:Env:=⟨20,eqs,tt,gl,[],[],[],[],[],[]⟩
def YM:Ann:=.leaf
def bQ (a0:o6) (a1:Int) (a2:Int):Option Bool:=l7 (ieq a0.1 1) (l7 (ieq a0.2.2.1 a1) (some (ieq
 a0.2.2.2.1 a2)) (some false)) (some false)
def PI:FSpec:=mkS OA OQ fun x=>bQ x.1 x.2.1 x.2.2
def OB:List MG:=[(false,(.dat y37)),(false,(.fn 58 [(.int .i64),(.int .i64)]))]
def OT:Ret:=⟨[(.tmp 4,uiM)],[]⟩
def a3N:Env:=⟨19,eqs,tt,gl,[(58,PI)],[],[],[],[],[]⟩
def YN:Ann:=.seq lfA (.seq (.seq lfA (.blk (.loopR [(4,6),(8,19)] ⟨[(8,uiM)],[]⟩ 0 ⟨[],[]⟩ lfA))) lfA)
def P5 (a0:G7) (a1:x8):Option Int:=l9 (N7 (fun(x:Int)=>l7 (ilt x
 (o7 a0)) (l9 (lat a0 x) fun x_1=>l9 (bQ x_1 a1.1 a1.2) fun x_2=>l7 x_2 (some
 (.rt x)) (some (.nx (o8 .i64 x 1)))) (some (.ex ()))) 0) fun o=>J3 o (fun(y:PUnit)=>some (-1)) fun
 (r:Int)=>some r
def Yu:FSpec:=mkS OB OT fun x=>P5 x.1 x.2
def Oz:List MG:=[(false,(.dat y37)),(false,(.fn 58 [(.int .i64),(.int .i64)]))]
def OO:Ret:=⟨[(.tmp 4,ubM)],[]⟩
def a3L:Env:=⟨9,eqs,tt,gl,[(91,Yu)],[],[],[],[],[]⟩
def YL:Ann:=.leaf
def N9 (a0:G7) (a1:x8):Option Bool:=l9
 (P5 a0 a1) fun x=>some (ile 0 x)
def Yt:FSpec:=mkS Oz OO fun x=>N9 x.1 x.2
def Ou:List MG:=[(false,(.box (.pair (.own y36) (.pair (.dat y27) (.pair diM (.pair (.dat y31) (.pair (.own (.ent true true y2 y39)) (.dat y32)))))))),uiM,uiM]
def OL:Ret:=⟨[(.tmp 6,ubM)],[(0,(true,(.pair (.own y36) (.pair (.dat y27) (.pair diM (.pair (.dat y31) (.pair (.own (.ent true true y2 y39)) (.dat y32))))))))]⟩
def a3J:Env:=⟨13,eqs,tt,gl,[(58,PI),(57,Yt)],[],[],[],[0],[]⟩
def YJ:Ann:=.leaf
def dV (a0:x9) (a1:Int) (a2:Int):Option (Bool×x9):=l9
 (N9 a0.1 (a1,a2)) fun x=>some (x,a0)
def Yr:FSpec:=mkS Ou OL fun x=>dV x.1 x.2.1 x.2.2
def Ov:List MG:=[(false,(.box (.pair (.own y36) (.pair (.dat y27) (.pair diM (.pair (.dat y31) (.pair (.own (.ent true true y2 y39)) (.dat y32)))))))),(true,(.dat y36))]
def OM:Ret:=⟨[],[(0,(true,(.pair (.own y36) (.pair (.dat y27) (.pair diM (.pair (.dat y31) (.pair (.own (.ent true true y2 y39)) (.dat y32))))))))]⟩
def a3K:Env:=⟨14,eqs,tt,gl,[],[],[],[],[0],[]⟩
def YK:Ann:=.leaf
def U3 (a0:x9) (a1:o6):Option x9:=l9 (Y2 a0.1 [a1]) fun x
 =>some (x,a0.2)
def PH:FSpec:=mkS Ov OM fun x=>U3 x.1 x.2
def Uw:List MG:=[(false,(.dat y12)),(true,(.dat y2))]
def WT:Ret:=⟨[(.tmp 4,uiM)],[]⟩
def b0w:Env:=⟨19,eqs,tt,gl,[],[],[],[],[],[]⟩
def a2m:Ann:=.seq lfA (.seq (.seq lfA (.blk (.loopR [(4,6),(8,19)] ⟨[(8,uiM)],[]⟩ 0 ⟨[],[]⟩ lfA))) lfA)
def P6 (a0:List x8) (a1:x8):Option Int:=l9 (N7 (fun(x:Int)=>l7 (ilt x (o7
 a0)) (l9 (lat a0 x) fun x_1=>l7 (U7 (ieq a1.1 x_1.1) (ieq a1.2 x_1.2)) (some (.rt x)) (some (.nx (o8 .i64 x 1))))
 (some (.ex ()))) 0) fun o=>J3 o (fun(y:PUnit)=>some (-1)) fun r=>some r
def a6J:FSpec:=mkS Uw WT fun x=>P6 x.1 x.2
def TW:List MG:=[(false,(.dat y12)),(true,(.dat y2))]
def Ws:Ret:=⟨[(.tmp 4,ubM)],[]⟩
def a9Z:Env:=⟨9,eqs,tt,gl,[(159,a6J)],[],[],[],[],[]⟩
def a1P:Ann:=.leaf
def O0 (a0:List x8) (a1:x8):Option Bool:=l9
 (P6 a0 a1) fun x=>some (ile 0 x)
def a6u:FSpec:=mkS TW Ws fun x=>O0 x.1 x.2
def a4W:List MG:=[(false,(.own y2)),(true,(.dat y2))]
def a6d:Ret:=⟨[(.tmp 4,(false,(.own y2)))],[]⟩
def e92:Env:=⟨49,eqs,tt,gl,[(122,a6u)],[],[],[],[],[]⟩
def a9F:Ann:=.seq lfA (.seq lfA (.seq (.joinR [(4,41),(7000320,7000321)] ⟨[(5,(false,(.box (.dat y2))))],[]⟩ lfA) lfA))
def di (a0:List x8) (a1:x8):Option (List x8):=l9 (l7 (ieq a1.1 7) (some (.inl (0,a1.2))) (l7 (ieq a1.1
 8) (some (.inl (1,a1.2))) (l7 (ieq a1.1 9) (some (.inl (2,0))) (l7 (ieq a1.1 33) (some (.inl (3,a1.2))) (l7 (ieq a1.1 34) (some
 (.inl (3,ay .i64 a1.2 8))) (l7 (ieq a1.1 36) (l7 (ieq a1.1 36) (some (.inl (4,a1.2))) (some (.inr a0))) (l7 (ieq a1.1
 37) (l7 (ieq a1.1 37) (some (.inl (4,a1.2))) (some (.inr a0))) (l7 (ieq a1.1 38) (l7 (ieq a1.1 38) (some (.inl (4,a1.2))) (some
 (.inr a0))) (l7 (ieq a1.1 39) (some (.inl (4,a1.2))) (some (.inr a0))))))))))) fun o=>J3 o (fun(x:x8)
 =>l9 (O0 a0 x) fun x_1=>l7 x_1 (some a0) (l9 (Y2 a0 [x]) fun x
 =>some x)) fun r=>some r
def s92:FSpec:=mkS a4W a6d fun x=>di x.1 x.2
def a4G:List MG:=[(false,(.own y2)),(true,(.dat y19))]
def a5N:Ret:=⟨[(.tmp 4,(false,(.own y2)))],[]⟩
def e59:Env:=⟨32,eqs,tt,gl,[(92,s92)],[],[],[],[],[]⟩
def a9p:Ann:=.seq lfA (.seq (.seq lfA (.blk (.loop [(0,1),(6,7),(12,20),(1000000,1000001)] ⟨[(0,(false,(.own y2))),(12,uiM)],[]⟩ 0 ⟨[(0,(false,(.own y2)))],[]⟩ lfA))) (.seq (.seq lfA (.blk (.loop [(0,1),(8,9),(23,31),(12000000,12000001)] ⟨[(0,(false,(.own y2))),(23,uiM)],[]⟩ 2 ⟨[(0,(false,(.own y2)))],[]⟩ lfA))) lfA))
def bI (a0:List x8) (a1:bW):Option (List x8):=l9 (O7 (fun(x:List x8×Int)=>l7 (ilt x.2 (o7
 a1.2.2.2.2.2.1)) (l9 (lat a1.2.2.2.2.2.1 x.2) fun x_1=>l9 (di x.1 x_1) fun x_2=>some (.inl
 (x_2,o8 .i64 x.2 1))) (some (.inr x.1))) (a0,0)) fun y=>l9 (O7 (fun(x:List x8×Int)=>l7 (ilt x.2
 (o7 a1.2.2.2.2.2.2.1)) (l9 (lat a1.2.2.2.2.2.2.1 x.2) fun x_1=>l9 (di x.1 x_1) fun x_2=>some
 (.inl (x_2,o8 .i64 x.2 1))) (some (.inr x.1))) (y,0)) fun y=>some y
def s59:FSpec:=mkS a4G a5N fun x=>bI x.1 x.2
def a4t:List MG:=[(false,(.box (.pair (.own y36) (.pair (.dat y27) (.pair diM (.pair (.dat y31) (.pair (.own (.ent true true y2 y39)) (.dat y32)))))))),(true,(.dat y2))]
def a5A:Ret:=⟨[(.tmp 4,(false,(.own y2)))],[(0,(true,(.pair (.own y36) (.pair (.dat y27) (.pair diM (.pair (.dat y31) (.pair (.own (.ent true true y2 y39)) (.dat y32))))))))]⟩
def e35:Env:=⟨74,eqs,tt,gl,[(32,s32),(59,s59)],[],[],[],[0],[16,20]⟩
def a9b:Ann:=.seq lfA (.seq lfA (.seq lfA (.seq lfA (.seq (.seq lfA (.blk (.loop [(0,1),(5,6),(7,8),(57,73),(1000000,1000003)] ⟨[(0,(false,(.box (.pair (.own y36) (.pair (.dat y27) (.pair diM (.pair (.dat y31) (.pair (.own (.ent true true y2 y39)) (.dat y32))))))))),(5,(false,(.own y2))),(57,uiM)],[]⟩ 0 ⟨[(0,(false,(.box (.pair (.own y36) (.pair (.dat y27) (.pair diM (.pair (.dat y31) (.pair (.own (.ent true true y2 y39)) (.dat y32))))))))),(5,(false,(.own y2)))],[]⟩ lfA))) lfA))))
def dn (a0:x9) (a1:x8):Option (List x8×x9):=l7 (ilt a1.1 0) (l9 (lat
 a0.2.1.2.2 a0.2.2.1) fun x=>l9 (V8 a0 a1) fun x_1=>l7 (ieq
 a0.2.2.1 x_1.2.2.2.1) (l7 (deq y25 a0.2.1.2.2 x_1.2.2.1.2.2) (l9 (lat x.2.2.2.2 x_1.1.2) fun x=>l9 (bI [] x)
 fun x=>l7 (ieq a0.2.2.1 x_1.2.2.2.1) (l7 (deq y25 a0.2.1.2.2 x_1.2.2.1.2.2) (some (x,x_1.2)) none) none) none) none) (l9
 (lat a0.2.1.2.2 a0.2.2.1) fun x=>l9 (lat a0.2.1.2.2 x.2.1) fun x=>l9 (O7 (fun(x_1:x9×List x8
 ×Int)=>l7 (ilt x_1.2.2 (o7 a0.2.2.2.1.2.2)) (l9 (V8 x_1.1 (x_1.2.2,a1.2)) fun x_2=>l9 (lat x.2.2.2.2 x_2.1.2) fun x=>l9 (bI x_1.2.1 x) fun x=>some (.inl
 (x_2.2,x,o8 .i64 x_1.2.2 1))) (some (.inr (x_1.1,x_1.2.1)))) (a0,[],0)) fun y=>some (y.2,y.1))
def s35:FSpec:=mkS a4t a5A fun x=>dn x.1 x.2
def a4H:List MG:=[(false,(.box (.pair (.own y36) (.pair (.dat y27) (.pair diM (.pair (.dat y31) (.pair (.own (.ent true true y2 y39)) (.dat y32)))))))),uiM]
def a5O:Ret:=⟨[(.tmp 4,(false,(.dat y28)))],[(0,(true,(.pair (.own y36) (.pair (.dat y27) (.pair diM (.pair (.dat y31) (.pair (.own (.ent true true y2 y39)) (.dat y32))))))))]⟩
def e60:Env:=⟨20,eqs,tt,gl,[],[],[],[],[0],[]⟩
def a9q:Ann:=.leaf
def gU (a0:x9) (a1:Int):Option (List E5×x9):=l7 (ilt a1 0) (some (a0.2.2.2.1.2.1,
 a0)) (l9 (lat a0.2.2.2.1.2.2 a1) fun x=>some (x,a0))
def s60:FSpec:=mkS a4H a5O fun x=>gU x.1 x.2
def SB:List MG:=[(false,(.box (.pair (.own y36) (.pair (.dat y27) (.pair diM (.pair (.dat y31) (.pair (.own (.ent true true y2 y39)) (.dat y32)))))))),(true,(.dat y2)),uiM]
def ZI:List MG:=[(false,(.box (.pair (.own y36) (.pair (.dat y27) (.pair diM (.pair (.dat y31) (.pair (.own (.ent true true y2 y39)) (.dat y32)))))))),(true,(.dat y2)),(true,(.dat y2)),uiM]
def a5q:Ret:=⟨[],[(0,(true,(.pair (.own y36) (.pair (.dat y27) (.pair diM (.pair (.dat y31) (.pair (.own (.ent true true y2 y39)) (.dat y32))))))))]⟩
def e20 (r20:M.den (.box (.pair (.own y36) (.pair (.dat y27) (.pair diM (.pair (.dat y31) (.pair (.own (.ent true true y2 y39)) (.dat y32)))))))→M.den (.dat y2)→M.den diM→Option (I9 ([]++[(true,(.pair (.own y36) (.pair (.dat y27) (.pair diM (.pair (.dat y31) (.pair (.own (.ent true true y2 y39)) (.dat y32)))))))]))) (r36:M.den (.box (.pair (.own y36) (.pair (.dat y27) (.pair diM (.pair (.dat y31) (.pair (.own (.ent true true y2 y39)) (.dat y32)))))))→M.den (.dat y2)→M.den (.dat y2)→M.den diM→Option (I9 ([]++[(true,(.pair (.own y36) (.pair (.dat y27) (.pair diM (.pair (.dat y31) (.pair (.own (.ent true true y2 y39)) (.dat y32)))))))]))):Env:=⟨61,eqs,tt,gl,[(32,s32),(33,Yr),(34,PH),(35,s35),(36,⟨ZI,[],[(true,(.pair (.own y36) (.pair (.dat y27) (.pair diM (.pair (.dat y31) (.pair (.own (.ent true true y2 y39)) (.dat y32)))))))],fun x=>r36 x.1 x.2.1 x.2.2.1 x.2.2.2⟩)],[],[],[],[0],[]⟩
def a8R:Ann:=.seq lfA (.seq lfA (.seq lfA (.seq lfA (.seq lfA (.blk (.loop [(0,1),(8,9),(50,61),(1000000,1000001),(23003073,23003075)] ⟨[(0,(false,(.box (.pair (.own y36) (.pair (.dat y27) (.pair diM (.pair (.dat y31) (.pair (.own (.ent true true y2 y39)) (.dat y32))))))))),(50,uiM)],[]⟩ 0 ⟨[(0,(false,(.box (.pair (.own y36) (.pair (.dat y27) (.pair diM (.pair (.dat y31) (.pair (.own (.ent true true y2 y39)) (.dat y32)))))))))],[]⟩ lfA))))))
def jc (r20:x9→x8→Int→Option x9) (r36:x9→x8→x8→Int→
 Option x9) (a0:x9) (a1:x8) (a2:Int):Option x9:=l9 (V8 a0 a1) fun(x:
 A7×x9)=>l9 (dV x.2 a1.1 a1.2) fun x_1=>l7 x_1.1 (l9
 (U3 x_1.2 (5,a2,a1.1,a1.2,-1,x.1.1)) fun x=>some x) (l9 (U3 x_1.2 (1,a2,a1.1,
 a1.2,x.1.2,x.1.1)) fun x=>l9 (dn x a1) fun x=>l9 (O7
 (fun(x_2:x9×Int)=>l7 (ilt x_2.2 (o7 x.1)) (l9 (lat x.1 x_2.2) fun x_3=>l9 (O9 x.1 (toN x_2.2)) fun(x:
 x8)=>l9 (r36 x_2.1 a1 x (o8 .i64 a2 1)) fun x=>some (.inl (x,o8 .i64 x_2.2 1))) (some (.inr
 x_2.1))) (x.2,0)) fun y=>some y)
def b2a:Ret:=⟨[],[(0,(true,(.pair (.own y36) (.pair (.dat y27) (.pair diM (.pair (.dat y31) (.pair (.own (.ent true true y2 y39)) (.dat y32))))))))]⟩
def e36 (r20:M.den (.box (.pair (.own y36) (.pair (.dat y27) (.pair diM (.pair (.dat y31) (.pair (.own (.ent true true y2 y39)) (.dat y32)))))))→M.den (.dat y2)→M.den diM→Option (I9 ([]++[(true,(.pair (.own y36) (.pair (.dat y27) (.pair diM (.pair (.dat y31) (.pair (.own (.ent true true y2 y39)) (.dat y32)))))))]))) (r36:M.den (.box (.pair (.own y36) (.pair (.dat y27) (.pair diM (.pair (.dat y31) (.pair (.own (.ent true true y2 y39)) (.dat y32)))))))→M.den (.dat y2)→M.den (.dat y2)→M.den diM→Option (I9 ([]++[(true,(.pair (.own y36) (.pair (.dat y27) (.pair diM (.pair (.dat y31) (.pair (.own (.ent true true y2 y39)) (.dat y32)))))))]))):Env:=⟨87,eqs,tt,gl,[(60,s60),(34,PH),(20,⟨SB,[],[(true,(.pair (.own y36) (.pair (.dat y27) (.pair diM (.pair (.dat y31) (.pair (.own (.ent true true y2 y39)) (.dat y32)))))))],fun x=>r20 x.1 x.2.1 x.2.2⟩)],[],[],[],[0],[]⟩
def a9c:Ann:=.seq lfA (.seq lfA (.seq lfA (.blk (.seq lfA (.cond lfA (.seq lfA (.cond lfA (.seq lfA (.cond lfA (.seq lfA (.cond lfA (.seq lfA (.cond (.seq lfA (.blk (.loop [(0,1),(9,10),(76,87),(1000000,1000003)] ⟨[(0,(false,(.box (.pair (.own y36) (.pair (.dat y27) (.pair diM (.pair (.dat y31) (.pair (.own (.ent true true y2 y39)) (.dat y32))))))))),(76,uiM)],[]⟩ 1 ⟨[(0,(false,(.box (.pair (.own y36) (.pair (.dat y27) (.pair diM (.pair (.dat y31) (.pair (.own (.ent true true y2 y39)) (.dat y32)))))))))],[]⟩ lfA))) lfA)))))))))))))
def jT (r20:x9→x8→Int→Option x9) (r36:x9→x8→x8→Int→Option
 x9) (a0:x9) (a1:x8) (a2:x8) (a3:Int):Option x9:=l7 (ieq a2.1 0) (l9
 (gU a0 a1.1) fun x=>l9 (lat x.1 a2.2) fun x_1=>l9 (U3
 x.2 (2,a3,a1.1,a2.2,-1,x_1)) fun x=>some x) (l7 (ieq a2.1 1) (l9 (r20 a0 (a1.1,a2.2) a3) fun(x:
 x9)=>some x) (l7 (ieq a2.1 2) (l9 (U3 a0 (4,a3,a1.1,a2.2,-1,5,0,a0.2.2.2.1.1)) fun(x:
 x9)=>some x) (l7 (ieq a2.1 3) (l9 (U3 a0 (3,a3,a1.1,a2.2,-1,0,0,0)) fun x=>some
 x) (l7 (ieq a2.1 4) (l9 (O7 (fun(x:x9×Int)=>l7 (ilt x.2 (o7 a0.2.2.2.1.2.2)) (l9 (r20 x.1 (x.2,a2.2) a3) fun
 (x_1:x9)=>some (.inl (x_1,o8 .i64 x.2 1))) (some (.inr x.1))) (a0,0)) fun y=>some y) (some
 a0)))))
def D7:Nat→(M.den (.box (.pair (.own y36) (.pair (.dat y27) (.pair diM (.pair (.dat y31) (.pair (.own (.ent true true y2 y39)) (.dat y32)))))))→M.den (.dat y2)→M.den diM→Option (I9 ([]++[(true,(.pair (.own y36) (.pair (.dat y27) (.pair diM (.pair (.dat y31) (.pair (.own (.ent true true y2 y39)) (.dat y32)))))))])))×(M.den (.box (.pair (.own y36) (.pair (.dat y27) (.pair diM (.pair (.dat y31) (.pair (.own (.ent true true y2 y39)) (.dat y32)))))))→M.den (.dat y2)→M.den (.dat y2)→M.den diM→Option (I9 ([]++[(true,(.pair (.own y36) (.pair (.dat y27) (.pair diM (.pair (.dat y31) (.pair (.own (.ent true true y2 y39)) (.dat y32)))))))])))
 | 0=>(fun a0 a1 a2=>none,fun a0 a1 a2 a3=>none)
 | n+1=>(fun a0 a1 a2=>jc (D7 n).1 (D7 n).2 a0 a1 a2,fun a0 a1 a2 a3=>jT (D7 n).1 (D7 n).2 a0 a1 a2 a3)
def fV:M.den (.box (.pair (.own y36) (.pair (.dat y27) (.pair diM (.pair (.dat y31) (.pair (.own (.ent true true y2 y39)) (.dat y32)))))))→M.den (.dat y2)→M.den diM→Option (I9 ([]++[(true,(.pair (.own y36) (.pair (.dat y27) (.pair diM (.pair (.dat y31) (.pair (.own (.ent true true y2 y39)) (.dat y32)))))))])):=fun a0 a1 a2=>(D7 bJ).1 a0 a1 a2
def s20:FSpec:=mkS SB a5q fun x=>fV x.1 x.2.1 x.2.2
def ps8:List MG:=[(true,(.dat y27)),uiM,(true,(.dat y31)),uiM]
def rt8:Ret:=⟨[(.tmp 8,(false,(.own y36))),(.cell 9 37,(true,(.dat y32)))],[]⟩
def e8:Env:=⟨53,eqs,tt,gl,[(9,s9),(20,s20)],[],[],[],[],[]⟩
def an8:Ann:=.leaf
def oI (a0:iq) (a1:Int) (a2:Bv) (a3:Int):Option (G7×F6):=l9 (jW a0 a1 a2 a3) fun
 (x:E5×Int×F6)=>l7 (C9 (ieq x.2.2.1 0)) (some ([],x.2.2)) (l9 (fV ([],a0,a1,a2,[],0,0,0,0)
 (-1,a3) 0) fun x=>l7 (C9 (ieq x.2.2.2.2.2.1 0)) (some ([],x.2.2.2.2.2)) (some (x.1,0,0,0,0)))
def s8:FSpec:=mkS ps8 rt8 fun x=>oI x.1 x.2.1 x.2.2.1 x.2.2.2
def a4g:List MG:=[(false,(.dat y37)),(false,(.dat y37))]
def a5m:Ret:=⟨[(.tmp 4,ubM)],[]⟩
def e17:Env:=⟨32,eqs,tt,gl,[],[],[],[],[],[]⟩
def a8O:Ann:=.seq lfA (.seq lfA (.seq (.seq lfA (.blk (.loopR [(4,6),(11,32)] ⟨[(5,uiM)],[]⟩ 0 ⟨[],[]⟩ lfA))) lfA))
def lC (a0:G7) (a1:G7):Option Bool:=l7 (C9 (ieq (o7 a0) (o7 a1))) (some false) (l9
 (N7 (fun(x:Int)=>l7 (ilt x (o7 a0)) (l7 (ilt x (o7 a1)) (l9 (lat a0 x) fun x_1=>l9 (lat a1 x) fun(x_2:
 o6)=>l7 (C9 (U7 (ieq x_1.1 x_2.1) (U7 (ieq x_1.2.1 x_2.2.1) (U7 (ieq x_1.2.2.1 x_2.2.2.1) (U7 (ieq x_1.2.2.2.1 x_2.2.2.2.1)
 (U7 (ieq x_1.2.2.2.2.1 x_2.2.2.2.2.1) (U7 (ieq x_1.2.2.2.2.2.1 x_2.2.2.2.2.2.1) (U7 (ieq x_1.2.2.2.2.2.2.1 x_2.2.2.2.2.2.2.1) (ieq
 x_1.2.2.2.2.2.2.2 x_2.2.2.2.2.2.2.2))))))))) (some (.rt false)) (some (.nx (o8 .i64 x 1)))) (some (.ex ()))) (some (.ex
 ()))) 0) fun o=>J3 o (fun(y:PUnit)=>some true) fun r=>some r)
def s17:FSpec:=mkS a4g a5m fun x=>lC x.1 x.2
def b1W:List MG:=[(false,(.dat .str)),uiM]
def s30:FSpec:=⟨b1W,[(false,(.dat .str))],[],fun x=>fF x.1 x.2⟩
def a4A:List MG:=[(true,(.dat y27)),uiM,uiM]
def a5H:Ret:=⟨[(.cell 6 50,(true,(.dat y24)))],[]⟩
def e51:Env:=⟨46,eqs,tt,gl,[],[],[],[],[],[]⟩
def a9j:Ann:=.seq lfA (.seq (.joinR [(6,7),(8,18),(4000384,4000385)] ⟨[(6,(false,(.box (.dat y24))))],[]⟩ lfA) lfA)
def oJ (a0:iq) (a1:Int) (a2:Int):Option E8:=l9 (l7 (ilt a1 0) (some (.inr ([],0,[],[],[]))) (l7 (ile
 (o7 a0.2.2) a1) (some (.inr ([],0,[],[],[]))) (some (.inl ([],0,[],[],[]))))) fun o=>J3 o (fun(x:E8)
 =>l7 (ilt a2 0) (l9 (lat a0.2.2 a1) fun x=>some x) (l9 (lat a0.2.2 a1) fun x=>l7 (ilt x.2.1 0) (some ([],0,
 [],[],[])) (l7 (ile (o7 a0.2.2) x.2.1) (some ([],0,[],[],[])) (l9 (lat a0.2.2 x.2.1) fun x=>some x)))) fun r=>
 some r
def s51:FSpec:=mkS a4A a5H fun x=>oJ x.1 x.2.1 x.2.2
def b1Y:List MG:=[uiM]
def s89:FSpec:=⟨b1Y,[(false,(.dat .str))],[],fun x=>uA x⟩
def a4B:List MG:=[uiM]
def a5I:Ret:=⟨[(.tmp 2,(false,(.dat .str)))],[]⟩
def e52:Env:=⟨5,eqs,tt,gl,[(89,s89)],[],[],[],[],[]⟩
def a9k:Ann:=.leaf
def aI (a0:Int):Option (List UInt8):=l9 (uA a0) fun x=>some x
def s52:FSpec:=mkS a4B a5I fun x=>aI x
def a4C:List MG:=[(false,(.dat y11)),uiM]
def a5J:Ret:=⟨[(.tmp 4,(false,(.dat .str)))],[]⟩
def e53:Env:=⟨18,eqs,tt,gl,[],[],[],[],[],[]⟩
def a9l:Ann:=.leaf
def bP (a0:List gB) (a1:Int):Option (List UInt8):=l7 (ilt a1 0) (some [63]) (l7 (ile (o7 a0) a1) (some [63]) (l9
 (lat a0 a1) fun x=>some x.1))
def s53:FSpec:=mkS a4C a5J fun x=>bP x.1 x.2
def TT:List MG:=[uiM,(true,(.dat y2)),(false,(.dat y1))]
def Wn:Ret:=⟨[(.tmp 6,ubM)],[]⟩
def a9W:Env:=⟨23,eqs,tt,gl,[(99,s99)],[],[],[],[],[]⟩
def a1M:Ann:=.leaf
def vZ (a0:Int) (a1:x8) (a2:List iU):Option Bool:=l9 (dU a1 a2) fun x=>l7 (ile x.1 a0) (some
 (ile a0 x.2)) (some false)
def a6r:FSpec:=mkS TT Wn fun x=>vZ x.1 x.2.1 x.2.2
def Ur:List MG:=[uiM]
def WP:Ret:=⟨[(.tmp 2,uiM)],[]⟩
def b0s:Env:=⟨6,eqs,tt,gl,[],[],[],[],[],[]⟩
def a2i:Ann:=.leaf
def jm (a0:Int):Option Int:=some (lQ 0 (yD a0 9))
def a6H:FSpec:=mkS Ur WP fun x=>jm x
def TU:List MG:=[uiM,uiM]
def Wp:Ret:=⟨[(.tmp 4,(false,(.dat .str)))],[]⟩
def a9X:Env:=⟨45,eqs,tt,gl,[(155,a6H),(52,s52),(30,s30)],[],[],[],[],[]⟩
def a1N:Ann:=.leaf
def dZ (a0:Int) (a1:Int):Option (List UInt8):=l9 (jm a1) fun x=>l9 (aI a0)
 fun x_1=>l7 (ieq x 0) (some x_1) (l7 (ilt a0 0) (l9 (kK x_1 1 (o7 x_1)) fun x_2=>l7 (ile (o7 x_2)
 x) (l9 (fF [48] (D5 .i64 (o8 .i64 x 1) (o7 x_2))) fun x_3=>l9 (bi x_3 x_2) fun x_4=>l9 (kK x_4 0 (D5 .i64 (o7 x_4) x)) fun x_5=>l9 (bi [45] x_5) fun x_6=>l9 (bi
 x_6 [46]) fun x_7=>l9 (kK x_4 (D5 .i64 (o7 x_4) x) (o7 x_4)) fun x=>l9 (bi x_7 x) fun(x:
 List UInt8)=>some x) (l9 (kK x_2 0 (D5 .i64 (o7 x_2) x)) fun x_3=>l9 (bi [45] x_3) fun x_4=>
 l9 (bi x_4 [46]) fun x_5=>l9 (kK x_2 (D5 .i64 (o7 x_2) x) (o7 x_2)) fun x=>l9 (bi x_5
 x) fun x=>some x)) (l7 (ile (o7 x_1) x) (l9 (fF [48] (D5 .i64 (o8 .i64 x 1) (o7 x_1))) fun(x_2
 :List UInt8)=>l9 (bi x_2 x_1) fun x_3=>l9 (kK x_3 0 (D5 .i64 (o7 x_3) x)) fun x_4=>l9
 (bi [] x_4) fun x_5=>l9 (bi x_5 [46]) fun x_6=>l9 (kK x_3 (D5 .i64 (o7 x_3) x) (o7 x_3))
 fun x=>l9 (bi x_6 x) fun x=>some x) (l9 (kK x_1 0 (D5 .i64 (o7 x_1) x)) fun x_2
 =>l9 (bi [] x_2) fun x_3=>l9 (bi x_3 [46]) fun x_4=>l9 (kK x_1 (D5 .i64 (o7 x_1) x)
 (o7 x_1)) fun x=>l9 (bi x_4 x) fun x=>some x)))
def a6s:FSpec:=mkS TU Wp fun x=>dZ x.1 x.2
def Uu:List MG:=[uiM,uiM]
def WS:Ret:=⟨[(.tmp 4,(false,(.dat .str)))],[]⟩
def b0v:Env:=⟨16,eqs,tt,gl,[(52,s52),(30,s30)],[],[],[],[],[]⟩
def a2l:Ann:=.leaf
def uI (a0:Int) (a1:Int):Option (List UInt8):=l9 (aI a0) fun x=>l9 (fF [48] (lQ 0 (D5
 .i64 a1 (o7 x)))) fun x_1=>l9 (bi x_1 x) fun x=>some x
def a6I:FSpec:=mkS Uu WS fun x=>uI x.1 x.2
def TV:List MG:=[uiM]
def Wq:Ret:=⟨[(.tmp 2,(false,(.dat .str)))],[]⟩
def a9Y:Env:=⟨25,eqs,tt,gl,[(156,Pm),(157,Pn),(158,a6I)],[],[],[],[],[]⟩
def a1O:Ann:=.leaf
def xB (a0:Int):Option (List UInt8):=l9 (iG a0) fun x=>l7 (C9 x) (some []) (l9 (iF a0) fun(x:
 E5)=>l9 (uI x.1 4) fun x_1=>l9 (bi x_1 [45]) fun x_2=>l9 (uI x.2.1 2) fun x_3=>l9 (bi x_2 x_3) fun x_4=>l9 (bi x_4 [45]) fun x_5=>l9 (uI x.2.2 2) fun x=>l9 (bi x_5 x) fun x=>some x)
def a6t:FSpec:=mkS TV Wq fun x=>xB x
def a4V:List MG:=[(true,(.dat y3)),(false,(.dat y1))]
def a6c:Ret:=⟨[(.tmp 4,(false,(.dat .str))),(.tmp 5,uiM)],[]⟩
def e90:Env:=⟨60,eqs,tt,gl,[(118,Hw),(119,a6r),(52,s52),(120,a6s),(121,a6t)],[],[],[],[],[]⟩
def a9E:Ann:=.leaf
def vY (a0:E5) (a1:List iU):Option (List UInt8×Int):=l9 (J7 (a0.1,a0.2.1) a1) fun x=>l7
 (C9 x) (some ([],8)) (l9 (vZ a0.2.2 (a0.1,a0.2.1) a1) fun x=>l7 (C9 x) (some ([],3)) (l7 (ieq a0.1 1) (l7
 (ieq a0.2.2 0) (some ([102,97,108,115,101],0)) (some ([116,114,117,101],0))) (l7 (ieq a0.1 2) (l9 (aI a0.2.2) fun(x:
 List UInt8)=>some (x,0)) (l7 (ieq a0.1 3) (l9 (dZ a0.2.2 2) fun x=>some (x,0)) (l7 (ieq a0.1 4) (l9
 (dZ a0.2.2 4) fun x=>l9 (bi x [37]) fun x=>some (x,0)) (l7 (ieq a0.1 5) (l9
 (xB a0.2.2) fun x=>some (x,0)) (l9 (lat a1 a0.2.1) fun x=>l9 (lat x.2 a0.2.2) fun x=>
 some (x,0))))))))
def s90:FSpec:=mkS a4V a6c fun x=>vY x.1 x.2
def a4D:List MG:=[(true,(.dat y27)),(true,(.dat y3))]
def a5K:Ret:=⟨[(.tmp 4,(false,(.dat .str)))],[]⟩
def e54:Env:=⟨17,eqs,tt,gl,[(90,s90)],[],[],[],[],[]⟩
def a9m:Ann:=.leaf
def bT (a0:iq) (a1:E5):Option (List UInt8):=l9 (vY a1 a0.1) fun x=>l7 (C9 (ieq
 x.2 0)) (some [63]) (some x.1)
def s54:FSpec:=mkS a4D a5K fun x=>bT x.1 x.2
def a4E:List MG:=[(false,(.dat y20)),uiM]
def a5L:Ret:=⟨[(.tmp 4,(false,(.dat .str)))],[]⟩
def e55:Env:=⟨37,eqs,tt,gl,[],[],[],[],[],[]⟩
def a9n:Ann:=.leaf
def mg (a0:List bW) (a1:Int):Option (List UInt8):=l7 (ilt a1 0) (some [63]) (l7 (ile (o7 a0) a1) (some [63]) (l9
 (lat a0 a1) fun x=>l7 (seq x.2.2.2.2.2.2.2 []) (l9 (lat a0 a1) fun x=>some x.1) (l9 (lat a0 a1) fun x=>
 l9 (bi x.1 [44,32,34]) fun x=>l9 (lat a0 a1) fun x_1=>l9 (bi x x_1.2.2.2.2.2.2.2) fun x=>
 l9 (bi x [34]) fun x=>some x)))
def s55:FSpec:=mkS a4E a5L fun x=>mg x.1 x.2
def a4F:List MG:=[(false,(.dat y9)),uiM]
def a5M:Ret:=⟨[(.tmp 4,(false,(.dat .str)))],[]⟩
def e56:Env:=⟨18,eqs,tt,gl,[],[],[],[],[],[]⟩
def a9o:Ann:=.leaf
def kX (a0:List ja) (a1:Int):Option (List UInt8):=l7 (ilt a1 0) (some [63]) (l7 (ile (o7 a0) a1) (some [63]) (l9
 (lat a0 a1) fun x=>some x.1))
def s56:FSpec:=mkS a4F a5M fun x=>kX x.1 x.2
def a4r:List MG:=[(true,(.dat y27)),uiM,(true,(.dat y36))]
def a5y:Ret:=⟨[(.tmp 6,(false,(.dat .str)))],[]⟩
def e31:Env:=⟨86,eqs,tt,gl,[(51,s51),(52,s52),(53,s53),(54,s54),(55,s55),(56,s56)],[],[],[],[],[]⟩
def a8Z:Ann:=.seq lfA (.seq lfA (.seq lfA (.seq (.join [(8,9),(14,22)] ⟨[(8,(false,(.dat .str)))],[]⟩ lfA) lfA)))
def mf (a0:iq) (a1:Int) (a2:o6):Option (List UInt8):=l9 (oJ a0 a1 a2.2.2.1) fun x=>
 l9 (l7 (ile 0 a2.2.2.1) (l9 (aI a2.2.2.1) fun x=>l9 (bi [109,101,109,98,101,114,32] x) fun(x:
 List UInt8)=>l9 (bi x [58,32]) fun x=>some x) (some [])) fun x_1=>l7 (ieq a2.1 1) (l9
 (bP x.2.2.2.1 a2.2.2.2.1) fun x_2=>l9 (bi x_1 x_2) fun x_3=>l9 (bi x_3 [32,61,32]) fun
 (x_4:List UInt8)=>l9 (bT a0 a2.2.2.2.2.2) fun x_5=>l9 (bi x_4 x_5) fun x_6=>l9 (bi
 x_6 [32,98,121,32]) fun x_7=>l9 (mg x.2.2.2.2 a2.2.2.2.2.1) fun x=>l9 (bi x_7 x) fun(x:
 List UInt8)=>some x) (l7 (ieq a2.1 2) (l9 (bP x.2.2.1 a2.2.2.2.1) fun x=>l9 (bi x_1 x) fun x=>l9 (bi x [32,61,32]) fun x=>l9 (bT a0 a2.2.2.2.2.2) fun x_2=>l9 (bi x x_2)
 fun x=>some x) (l7 (ieq a2.1 3) (l9 (kX a0.2.1 a2.2.2.2.1) fun x=>l9 (bi [116,97,98,
 108,101,32] x) fun x=>some x) (l7 (ieq a2.1 4) (l9 (bT a0 a2.2.2.2.2.2) fun x=>l9 (bi
 [100,97,116,101,32,61,32] x) fun x=>some x) (l7 (ieq a2.1 5) (l9 (bi [115,101,101,32] x_1) fun x_2
 =>l9 (bP x.2.2.2.1 a2.2.2.2.1) fun x=>l9 (bi x_2 x) fun x=>some x) (some [63])))))
def s31:FSpec:=mkS a4r a5y fun x=>mf x.1 x.2.1 x.2.2
def a4i:List MG:=[(true,(.dat y27)),uiM,(false,(.dat y37))]
def a5p:Ret:=⟨[(.tmp 6,(false,(.own .str)))],[]⟩
def e19:Env:=⟨33,eqs,tt,gl,[(30,s30),(31,s31)],[],[],[],[],[]⟩
def a8Q:Ann:=.seq lfA (.seq lfA (.seq (.seq lfA (.blk (.loop [(7,8),(9,11),(13,32)] ⟨[(7,(false,(.own .str))),(13,uiM)],[]⟩ 0 ⟨[(7,(false,(.own .str)))],[]⟩ lfA))) lfA))
def pU (a0:iq) (a1:Int) (a2:G7):Option (List (List UInt8)):=l9 (O7 (fun(x:List (List UInt8)×Int)=>
 l7 (ilt x.2 (o7 a2)) (l9 (lat a2 x.2) fun x_1=>l9 (fF [32,32] (yD (lQ x_1.2.1 0) 50)) fun x_2=>l9 (mf a0 a1 x_1) fun x_3=>l9 (bi x_2 x_3) fun x_4=>l9 (Y2 x.1 [x_4]) fun(x_5
 :List (List UInt8))=>some (.inl (x_5,o8 .i64 x.2 1))) (some (.inr x.1))) ([],0)) fun y=>some y
def s19:FSpec:=mkS a4i a5p fun x=>pU x.1 x.2.1 x.2.2
def a4h:List MG:=[(false,(.dat (.sl .str))),(false,(.dat (.sl .str)))]
def a5o:Ret:=⟨[(.tmp 4,ubM)],[]⟩
def e18:Env:=⟨32,eqs,tt,gl,[],[],[],[],[],[]⟩
def a8P:Ann:=.seq lfA (.seq lfA (.seq (.seq lfA (.blk (.loopR [(4,6),(11,32)] ⟨[(5,uiM)],[]⟩ 0 ⟨[],[]⟩ lfA))) lfA))
def vT (a0:List (List UInt8)) (a1:List (List UInt8)):Option Bool:=l7 (C9 (ieq (o7 a0) (o7 a1))) (some false) (l9 (N7
 (fun(x:Int)=>l7 (ilt x (o7 a0)) (l7 (ilt x (o7 a1)) (l9 (lat a0 x) fun x_1=>l9 (lat a1 x) fun x_2=>l7 (C9 (seq x_1 x_2)) (some (.rt false)) (some (.nx (o8 .i64 x 1)))) (some (.ex ()))) (some (.ex
 ()))) 0) fun o=>J3 o (fun(y:PUnit)=>some true) fun r=>some r)
def s18:FSpec:=mkS a4h a5o fun x=>vT x.1 x.2
def a4o:List MG:=[(true,(.dat y36)),(true,(.dat y36))]
def a5v:Ret:=⟨[(.tmp 4,ubM)],[]⟩
def e25:Env:=⟨26,eqs,tt,gl,[],[],[],[],[],[]⟩
def a8W:Ann:=.leaf
def aB (a0:o6) (a1:o6):Option Bool:=l7 (ilt a1.2.1 1) (some false) (l7 (ilt (o8 .i64 a0.2.1 1)
 a1.2.1) (some false) (l7 (ile a1.2.1 a0.2.1) (some true) (some (ieq a0.1 1))))
def s25:FSpec:=mkS a4o a5v fun x=>aB x.1 x.2
def a4a:List MG:=[(false,(.dat y37))]
def a5f:Ret:=⟨[(.tmp 2,ubM)],[]⟩
def e10:Env:=⟨120,eqs,tt,gl,[(25,s25)],[],[],[],[],[]⟩
def a8I:Ann:=.seq lfA (.seq (.joinR [(2,3),(9,26)] ⟨[],[]⟩ lfA) (.seq lfA (.seq (.seq lfA (.blk (.loopR [(2,9),(29,120),(17001664,17001665)] ⟨[(3,(false,(.own (.ent true true y2 y3)))),(29,uiM)],[]⟩ 0 ⟨[],[]⟩ (.seq lfA (.seq lfA (.seq (.joinR [(2,9),(31,119),(24000000,24000001)] ⟨[(3,(false,(.own (.ent true true y2 y3))))],[]⟩ (.blk (.seq lfA (.seq (.joinR [(2,3),(34,46)] ⟨[],[]⟩ lfA) (.seq (.joinR [(2,3),(46,64)] ⟨[],[]⟩ lfA) (.seq (.joinR [(2,3),(64,82)] ⟨[],[]⟩ lfA) lfA)))))) lfA)))))) lfA)))
def af (a0:G7):Option Bool:=l9 (l7 (ieq (o7 a0) 0) (some (.inr false)) (l9 (lat a0 0) fun(x:
 o6)=>l7 (C9 (ieq x.1 1)) (some (.inr false)) (l9 (lat a0 0) fun x=>l7 (C9 (ieq x.2.1 0)) (some
 (.inr false)) (some (.inl ()))))) fun o=>J3 o (fun(x:PUnit)=>l9 (N7 (fun(x:List yT×Int)=>l7
 (ilt x.2 (o7 a0)) (l9 (l9 (lat a0 x.2) fun x_1=>l9 (l7 (ilt 0 x.2) (l9 (lat a0 (D5 .i64 x.2 1)) fun(x:
 o6)=>l9 (aB x x_1) fun x=>l7 (C9 x) (some (.inr false)) (some (.inl ()))) (some (.inl
 ()))) fun o=>J3 o (fun(x_2:PUnit)=>l9 (l7 (ilt x_1.1 1) (some (.inr false)) (l7 (ilt 5 x_1.1) (some
 (.inr false)) (l7 (ilt x_1.2.2.2.1 0) (some (.inr false)) (l7 (ilt x_1.2.2.1 (-1)) (some (.inr false)) (some (.inl ()))))))
 fun o=>J3 o (fun(x_3:PUnit)=>l9 (l7 (ieq x_1.1 1) (l7 (ilt x_1.2.2.2.2.1 0) (some (.inr false)) (l7 (C9
 (ieq x_1.1 1)) (l7 (C9 (ieq x_1.2.2.2.2.1 (-1))) (some (.inr false)) (some (.inl ()))) (some (.inl ())))) (l7 (C9
 (ieq x_1.1 1)) (l7 (C9 (ieq x_1.2.2.2.2.1 (-1))) (some (.inr false)) (some (.inl ()))) (some (.inl ())))) fun(o:
 PUnit⊕Bool)=>J3 o (fun(x_4:PUnit)=>l7 (ieq x_1.1 1) (l7 (uj (fun(a b:x8)=>U7 (ieq a.1 b.1) (ieq a.2 b.2)) x.1
 (x_1.2.2.1,x_1.2.2.2.1)) (some (.inr false)) (l7 (ieq x_1.1 5) (l7 (C9 (uj (fun(a b:x8)=>U7 (ieq a.1 b.1) (ieq a.2 b.2)) x.1
 (x_1.2.2.1,x_1.2.2.2.1))) (some (.inr false)) (l7 (C9 (U7 (ieq (qw (fun(a b:x8)=>U7 (ieq a.1 b.1) (ieq a.2 b.2)) x.1
 (x_1.2.2.1,x_1.2.2.2.1) (0,0,0)).1 x_1.2.2.2.2.2.1) (U7 (ieq (qw (fun(a b:x8)=>U7 (ieq a.1 b.1) (ieq a.2 b.2)) x.1 (x_1.2.2.1,
 x_1.2.2.2.1) (0,0,0)).2.1 x_1.2.2.2.2.2.2.1) (ieq (qw (fun(a b:x8)=>U7 (ieq a.1 b.1) (ieq a.2 b.2)) x.1 (x_1.2.2.1,x_1.2.2.2.1) (0,0,
 0)).2.2 x_1.2.2.2.2.2.2.2)))) (some (.inr false)) (l7 (ieq x_1.1 1) (some (.inl (wM (fun(a b:x8)=>U7 (ieq a.1 b.1) (ieq a.2
 b.2)) x.1 (x_1.2.2.1,x_1.2.2.2.1) x_1.2.2.2.2.2))) (some (.inl x.1))))) (l7 (ieq x_1.1 1) (some (.inl (wM (fun(a b:x8)=>U7 (ieq
 a.1 b.1) (ieq a.2 b.2)) x.1 (x_1.2.2.1,x_1.2.2.2.1) x_1.2.2.2.2.2))) (some (.inl x.1))))) (l7 (ieq x_1.1 5) (l7 (C9 (uj (fun(a b:
 x8)=>U7 (ieq a.1 b.1) (ieq a.2 b.2)) x.1 (x_1.2.2.1,x_1.2.2.2.1))) (some (.inr false)) (l7 (C9 (U7 (ieq (qw (fun(a b:x8)=>
 U7 (ieq a.1 b.1) (ieq a.2 b.2)) x.1 (x_1.2.2.1,x_1.2.2.2.1) (0,0,0)).1 x_1.2.2.2.2.2.1) (U7 (ieq (qw (fun(a b:x8)=>U7 (ieq a.1
 b.1) (ieq a.2 b.2)) x.1 (x_1.2.2.1,x_1.2.2.2.1) (0,0,0)).2.1 x_1.2.2.2.2.2.2.1) (ieq (qw (fun(a b:x8)=>U7 (ieq a.1 b.1) (ieq a.2 b.2))
 x.1 (x_1.2.2.1,x_1.2.2.2.1) (0,0,0)).2.2 x_1.2.2.2.2.2.2.2)))) (some (.inr false)) (l7 (ieq x_1.1 1) (some (.inl (wM (fun(a b:x8)
 =>U7 (ieq a.1 b.1) (ieq a.2 b.2)) x.1 (x_1.2.2.1,x_1.2.2.2.1) x_1.2.2.2.2.2))) (some (.inl x.1))))) (l7 (ieq x_1.1 1) (some (.inl (wM
 (fun(a b:x8)=>U7 (ieq a.1 b.1) (ieq a.2 b.2)) x.1 (x_1.2.2.1,x_1.2.2.2.1) x_1.2.2.2.2.2))) (some (.inl x.1))))) fun r=>some
 (.inr r)) fun r=>some (.inr r)) fun r=>some (.inr r)) fun o=>J3 o (fun(x_1:List yT)=>
 some (.nx (x_1,o8 .i64 x.2 1))) fun r=>some (.rt r)) (some (.ex ()))) ([],0)) fun o=>J3 o
 (fun(y:PUnit)=>some true) fun r=>some r) fun r=>some r
def s10:FSpec:=mkS a4a a5f fun x=>af x
def ps7:List MG:=[]
def rt7:Ret:=⟨[(.tmp 0,ubM)],[]⟩
def e7:Env:=⟨42,eqs,tt,gl,[(16,s16),(8,s8),(17,s17),(19,s19),(18,s18),(10,s10)],[],[],[],[],[]⟩
def an7:Ann:=.leaf
def kY:Option Bool:=l9 (vU [(7,0)]) fun x=>l9 (oI x 0 (1,[(3,0,1250)],[]) 0) fun(x_1:
 G7×F6)=>l7 (U7 (ieq x_1.2.1 0) (U7 (ieq x_1.2.2.1 0) (U7 (ieq x_1.2.2.2.1 0) (ieq x_1.2.2.2.2 0)))) (l9
 (lC x_1.1 [(1,0,-1,0,0,3,0,1250),(2,1,-1,0,-1,3,0,1250)]) fun x_2=>l7 x_2 (l9 (pU x 0
 x_1.1) fun x=>l9 (vT x [[100,32,61,32,49,50,46,53,48,32,98,121,32,98,97,115,101],[32,32,97,
 32,61,32,49,50,46,53,48]]) fun x=>l7 x (l9 (af x_1.1) fun x=>some x) (some false)) (some false))
 (some false)
def s7:FSpec:=mkS ps7 rt7 fun x=>kY
def a4b:List MG:=[(false,(.dat y37))]
def a5g:Ret:=⟨[(.tmp 2,uoM),(.tmp 3,uoM)],[]⟩
def e11:Env:=⟨42,eqs,tt,gl,[(26,s26),(27,s27)],[],[],[],[],[]⟩
def a8J:Ann:=.seq lfA (.seq lfA (.seq (.seq lfA (.blk (.loop [(4,6),(7,8),(10,34)] ⟨[(4,uoM),(5,uoM),(10,uiM)],[]⟩ 0 ⟨[(4,uoM),(5,uoM)],[]⟩ lfA))) lfA))
def bM (a0:G7):Option (List Int×List Int):=l9 (O7 (fun(x:List Int×List Int×Int)=>l7 (ilt x.2.2
 (o7 a0)) (l9 (lat a0 x.2.2) fun x_1=>l7 (C9 (ieq x_1.1 1)) (some (.inl (x.1,x.2.1,o8 .i64 x.2.2 1)))
 (l7 (ieq x_1.2.2.1 (-1)) (l9 (Y2 x.1 [x_1.2.2.2.2.1]) fun x_2=>some (.inl (x_2,x.2.1,o8 .i64 x.2.2 1))) (l7
 (ile 0 x_1.2.2.1) (l9 (Y2 x.2.1 [x_1.2.2.2.2.1]) fun x_2=>some (.inl (x.1,x_2,o8 .i64 x.2.2 1))) (some (.inl
 (x.1,x.2.1,o8 .i64 x.2.2 1)))))) (some (.inr (x.1,x.2.1)))) ([],[],0)) fun y=>l9 (bV y.1) fun(x
 :List Int)=>l9 (bV y.2) fun x_1=>l9 (Y9 x) fun x=>l9 (Y9 x_1) fun x_2
 =>some (x,x_2)
def s11:FSpec:=mkS a4b a5g fun x=>bM x
def a4p:List MG:=[(false,(.dat y38)),uiM]
def a5w:Ret:=⟨[(.tmp 4,uoM)],[]⟩
def e28:Env:=⟨48,eqs,tt,gl,[],[],[],[],[],[]⟩
def a8X:Ann:=.seq lfA (.seq lfA (.seq lfA (.seq (.seq lfA (.blk (.loop [(5,41)] ⟨[(5,uoM),(6,ubM),(7,uiM)],[]⟩ 0 ⟨[(5,uoM),(6,ubM)],[]⟩ lfA))) lfA)))
def bz (a0:List Int) (a1:Int):Option (List Int):=l9 (O7 (fun(x:List Int×Bool×Int)=>l7 (ilt x.2.2 (o7 a0)) (l7
 (C9 x.2.1) (l9 (lat a0 x.2.2) fun x_1=>l7 (ile a1 x_1) (l9 (lat a0 x.2.2) fun x_2=>l7 (ilt a1 x_2) (l9 (Y2 x.1
 [a1]) fun x_3=>l9 (lat a0 x.2.2) fun x_4=>l9 (Y2 x_3 [x_4]) fun x_5=>some (.inl (x_5,true,o8
 .i64 x.2.2 1))) (l9 (lat a0 x.2.2) fun x_3=>l9 (Y2 x.1 [x_3]) fun x_4=>some (.inl (x_4,true,o8
 .i64 x.2.2 1)))) (l9 (lat a0 x.2.2) fun x_2=>l9 (Y2 x.1 [x_2]) fun x_3=>some (.inl (x_3,x.2.1,o8
 .i64 x.2.2 1)))) (l9 (lat a0 x.2.2) fun x_1=>l9 (Y2 x.1 [x_1]) fun x_2=>some (.inl (x_2,x.2.1,o8
 .i64 x.2.2 1)))) (some (.inr (x.1,x.2.1)))) ([],false,0)) fun y=>l7 (C9 y.2) (l9 (Y2 y.1 [a1]) fun(x:
 List Int)=>some x) (some y.1)
def s28:FSpec:=mkS a4p a5w fun x=>bz x.1 x.2
def a4c:List MG:=[(false,(.dat y37))]
def a5h:Ret:=⟨[(.tmp 2,uoM),(.tmp 3,uoM)],[]⟩
def e12:Env:=⟨44,eqs,tt,gl,[(28,s28)],[],[],[],[],[]⟩
def a8K:Ann:=.seq lfA (.seq lfA (.seq (.seq lfA (.blk (.loop [(4,42)] ⟨[(4,uoM),(5,uoM),(6,uiM)],[]⟩ 0 ⟨[(4,uoM),(5,uoM)],[]⟩ (.seq lfA (.seq (.blk (.seq lfA (.seq (.join [(4,5),(18,30),(14000000,14000001)] ⟨[(4,uoM)],[]⟩ lfA) lfA))) lfA))))) lfA))
def fD (a0:G7):Option (List Int×List Int):=l9 (O7 (fun(x:List Int×List Int×Int)=>l7 (ilt x.2.2
 (o7 a0)) (l9 (lat a0 x.2.2) fun x_1=>l9 (l7 (ieq x_1.1 1) (l7 (ieq x_1.2.2.1 (-1)) (l9 (bz x.1
 x_1.2.2.2.2.1) fun x=>some x) (some x.1)) (some x.1)) fun x_2=>l7 (ieq x_1.1 1) (l7 (ile 0 x_1.2.2.1) (l9
 (bz x.2.1 x_1.2.2.2.2.1) fun x_3=>some (.inl (x_2,x_3,o8 .i64 x.2.2 1))) (some (.inl (x_2,x.2.1,o8
 .i64 x.2.2 1)))) (some (.inl (x_2,x.2.1,o8 .i64 x.2.2 1)))) (some (.inr (x.1,x.2.1)))) ([],[],0)) fun y=>some y
def s12:FSpec:=mkS a4c a5h fun x=>fD x
def a4d:List MG:=[(false,(.dat y38)),(false,(.dat y38))]
def a5i:Ret:=⟨[(.tmp 4,ubM)],[]⟩
def e13:Env:=⟨32,eqs,tt,gl,[],[],[],[],[],[]⟩
def a8L:Ann:=.seq lfA (.seq lfA (.seq (.seq lfA (.blk (.loopR [(4,6),(11,32)] ⟨[(5,uiM)],[]⟩ 0 ⟨[],[]⟩ lfA))) lfA))
def mW (a0:List Int) (a1:List Int):Option Bool:=l7 (C9 (ieq (o7 a0) (o7 a1))) (some false) (l9 (N7 (fun(x:Int)=>
 l7 (ilt x (o7 a0)) (l7 (ilt x (o7 a1)) (l9 (lat a0 x) fun x_1=>l9 (lat a1 x) fun x_2=>l7 (C9 (ieq x_1 x_2))
 (some (.rt false)) (some (.nx (o8 .i64 x 1)))) (some (.ex ()))) (some (.ex ()))) 0) fun o=>
 J3 o (fun(y:PUnit)=>some true) fun r=>some r)
def s13:FSpec:=mkS a4d a5i fun x=>mW x.1 x.2
def a4q:List MG:=[(false,(.dat y37)),uiM,ubM]
def a5x:Ret:=⟨[(.tmp 6,ubM)],[]⟩
def e29:Env:=⟨55,eqs,tt,gl,[],[],[],[],[],[]⟩
def a8Y:Ann:=.seq lfA (.seq (.seq lfA (.blk (.loopR [(6,55)] ⟨[(7,uiM)],[]⟩ 0 ⟨[],[]⟩ lfA))) lfA)
def dE (a0:G7) (a1:Int) (a2:Bool):Option Bool:=l9 (N7 (fun(x:Int)=>l7 (ilt x a1) (l9 (lat a0 x)
 fun x_1=>l7 (ieq x_1.1 1) (l9 (lat a0 a1) fun x_2=>l7 (ieq x_1.2.2.1 x_2.2.2.1) (l9 (lat a0 a1) fun
 (x_3:o6)=>l7 (ieq x_1.2.2.2.1 x_3.2.2.2.1) (l7 (C9 a2) (some (.rt true)) (l9 (lat a0 a1) fun x_4=>
 l7 (U7 (ieq x_1.2.2.2.2.2.1 x_4.2.2.2.2.2.1) (U7 (ieq x_1.2.2.2.2.2.2.1 x_4.2.2.2.2.2.2.1) (ieq x_1.2.2.2.2.2.2.2 x_4.2.2.2.2.2.2.2))) (some
 (.rt true)) (some (.nx (o8 .i64 x 1))))) (some (.nx (o8 .i64 x 1)))) (some (.nx (o8 .i64 x 1)))) (some (.nx
 (o8 .i64 x 1)))) (some (.ex ()))) 0) fun o=>J3 o (fun(y:PUnit)=>some false) fun r=>some r
def s29:FSpec:=mkS a4q a5x fun x=>dE x.1 x.2.1 x.2.2
def a4e:List MG:=[(false,(.dat y37))]
def a5j:Ret:=⟨[(.tmp 2,ubM)],[]⟩
def e14:Env:=⟨107,eqs,tt,gl,[(29,s29)],[],[],[],[],[]⟩
def a8M:Ann:=.seq lfA (.seq (.seq lfA (.blk (.loopR [(2,104)] ⟨[(3,uiM)],[]⟩ 0 ⟨[],[]⟩ (.seq lfA (.seq (.joinR [(2,3),(4,6),(12,104)] ⟨[],[]⟩ (.blk (.seq lfA (.seq (.joinR [(2,3),(16,34)] ⟨[],[]⟩ lfA) (.seq (.joinR [(2,3),(34,57)] ⟨[],[]⟩ lfA) (.seq (.joinR [(2,3),(57,66)] ⟨[],[]⟩ lfA) lfA)))))) lfA))))) lfA)
def dP (a0:G7):Option Bool:=l9 (N7 (fun(x:Int)=>l7 (ilt x (o7 a0)) (l9 (l9 (lat a0 x) fun
 (x_1:o6)=>l9 (l7 (ilt x_1.1 1) (some (.inr false)) (l7 (ilt 5 x_1.1) (some (.inr false)) (l7 (ilt x_1.2.2.2.1 0)
 (some (.inr false)) (l7 (ilt x_1.2.2.1 (-1)) (some (.inr false)) (some (.inl ())))))) fun o=>J3 o (fun(x_2
 :PUnit)=>l9 (l7 (ieq x_1.1 1) (l7 (ilt x_1.2.2.2.2.1 0) (some (.inr false)) (l9 (dE a0 x false) fun x=>l7
 x (some (.inr false)) (l7 (C9 (ieq x_1.1 1)) (l7 (C9 (ieq x_1.2.2.2.2.1 (-1))) (some (.inr false)) (some (.inl ()))) (some
 (.inl ()))))) (l7 (C9 (ieq x_1.1 1)) (l7 (C9 (ieq x_1.2.2.2.2.1 (-1))) (some (.inr false)) (some (.inl ()))) (some
 (.inl ())))) fun o=>J3 o (fun(x_3:PUnit)=>l9 (l7 (ieq x_1.1 5) (l9 (dE a0 x true) fun(x:
 Bool)=>l7 (C9 x) (some (.inr false)) (some (.inl ()))) (some (.inl ()))) fun o=>J3 o (fun(x_4:
 PUnit)=>l7 (ieq x 0) (l7 (C9 (ieq x_1.2.1 0)) (some (.inr false)) (l7 (C9 (ieq x_1.1 1)) (some (.inr false)) (some (.inl
 ())))) (l9 (lat a0 (D5 .i64 x 1)) fun x=>l7 (ilt x_1.2.1 1) (some (.inr false)) (l7 (ilt x.2.1
 x_1.2.1) (l7 (C9 (ieq (D5 .i64 x_1.2.1 1) x.2.1)) (some (.inr false)) (l7 (C9 (ieq x.1 1)) (some (.inr false)) (some
 (.inl ())))) (some (.inl ()))))) fun r=>some (.inr r)) fun r=>some (.inr r)) fun r=>some
 (.inr r)) fun o=>J3 o (fun(x_1:PUnit)=>some (.nx (o8 .i64 x 1))) fun r=>some (.rt r)) (some
 (.ex ()))) 0) fun o=>J3 o (fun(y:PUnit)=>some (ilt 0 (o7 a0))) fun r=>some r
def s14:FSpec:=mkS a4e a5j fun x=>dP x
def ps4:List MG:=[(false,(.dat y37))]
def rt4:Ret:=⟨[(.tmp 2,ubM)],[]⟩
def e4:Env:=⟨39,eqs,tt,gl,[(7,s7),(11,s11),(12,s12),(13,s13),(10,s10),(14,s14)],[],[],[],[],[]⟩
def an4:Ann:=.leaf
def fM (a0:G7):Option Bool:=l7 (ilt 200 (o7 a0)) (l9 kY fun x=>some x) (l9
 (bM a0) fun x=>l9 (fD a0) fun x_1=>l9 (mW x.1 x_1.1) fun
 (x_2:Bool)=>l7 x_2 (l9 (mW x.2 x_1.2) fun x=>l7 x (l9 (af a0) fun x=>l9
 (dP a0) fun x_3=>l7 (jq x x_3) (l9 kY fun x=>some x) (some false)) (some false)) (some false))
def s4:FSpec:=mkS ps4 rt4 fun x=>fM x
def b2l:Option (List (List UInt8)):=some [[105,102],[116,104,101,110],[101,108,115,101],[111,114],[97,110,100],[110,
 111,116],[116,114,117,101],[102,97,108,115,101],[116,111,100,97,121],[115,104,97,114,101],[100,105,118],[114,111,117,110,
 100],[109,105,110],[109,97,120],[112,108,117,115],[109,111,110,116,104,115],[100,97,121,115],[121,101,97,114,115],[121,
 101,97,114],[109,111,110,116,104],[116,97,98],[98,97,110,100],[99,111,117,110,116],[115,117,109],[97,108,108],[97,110,
 121],[109,111,115,116],[101,110,117,109],[116,97,98,108,101],[114,111,119],[115,99,111,112,101],[109,101,109,98,101,114,
 115],[105,110,112,117,116],[100,101,102],[114,117,108,101],[111,102],[111,118,101,114],[112,114,105,111],[102,114,111,109],
 [116,111],[101,110,100],[119,104,101,110],[105,115],[115,114,99],[98,111,111,108],[105,110,116],[109,111,110,101,121],[114,
 97,116,101],[100,97,116,101],[100,111,119,110],[117,112],[122,101,114,111],[97,119,97,121],[104,97,108,102],[101,118,101,
 110]]
def b2h (a0:x8) (a1:List iU):Option Bool:=l7 (ieq a0.1 6) (l7 (ile 0 a0.2) (some (ilt a0.2 (o7 a1))) (some false))
 (l7 (ile 1 a0.1) (l7 (ile a0.1 5) (some (ieq a0.2 0)) (some false)) (some false))
def b2k (a0:x8) (a1:List iU):Option x8:=l9 (b2h a0 a1) fun x=>l7 (C9 x) (some (0,-1)) (l7
 (ieq a0.1 1) (some (0,1)) (l7 (ieq a0.1 2) (some (-1000000000000,1000000000000)) (l7 (ieq a0.1 3) (some (-1000000000000000,
 1000000000000000)) (l7 (ieq a0.1 4) (some (-1000000000,1000000000)) (l7 (ieq a0.1 5) (some (0,109572)) (l9 (lat a1 a0.2) fun x
 =>some (0,D5 .i64 (o7 x.2) 1)))))))
def b2s (a0:Int):Option Int:=l9 (l7 (ile 1 a0) (l7 (ile a0 9) (some (.inr 0)) (l7 (ile 35 a0) (l7 (ile a0 39) (some
 (.inr 0)) (some (.inl ()))) (some (.inl ())))) (l7 (ile 35 a0) (l7 (ile a0 39) (some (.inr 0)) (some (.inl
 ()))) (some (.inl ())))) fun o=>J3 o (fun(x:PUnit)=>l7 (ieq a0 10) (l7 (ieq a0 10) (some 1) (l7
 (ieq a0 26) (some 3) (l7 (ile 11 a0) (l7 (ile a0 30) (some 2) (some (-1))) (some (-1))))) (l7 (ieq a0 25) (l7 (ieq a0 25) (some 1) (l7
 (ieq a0 26) (some 3) (l7 (ile 11 a0) (l7 (ile a0 30) (some 2) (some (-1))) (some (-1))))) (l7 (ieq a0 31) (l7 (ieq a0 31) (some 1) (l7
 (ieq a0 26) (some 3) (l7 (ile 11 a0) (l7 (ile a0 30) (some 2) (some (-1))) (some (-1))))) (l7 (ieq a0 32) (l7 (ieq a0 32) (some 1) (l7
 (ieq a0 26) (some 3) (l7 (ile 11 a0) (l7 (ile a0 30) (some 2) (some (-1))) (some (-1))))) (l7 (ieq a0 33) (l7 (ieq a0 33) (some 1) (l7
 (ieq a0 26) (some 3) (l7 (ile 11 a0) (l7 (ile a0 30) (some 2) (some (-1))) (some (-1))))) (l7 (ieq a0 34) (some 1) (l7 (ieq a0 26) (some
 3) (l7 (ile 11 a0) (l7 (ile a0 30) (some 2) (some (-1))) (some (-1)))))))))) fun r=>some r
def b2m (a0:Int):Option Bool:=l9 (l7 (ile 1 a0) (l7 (ile a0 8) (some (.inr true)) (l7 (ile 36 a0) (l7 (ile a0 39)
 (some (.inr true)) (some (.inl ()))) (some (.inl ())))) (l7 (ile 36 a0) (l7 (ile a0 39) (some (.inr true)) (some
 (.inl ()))) (some (.inl ())))) fun o=>J3 o (fun(x:PUnit)=>l7 (ieq a0 14) (some true) (l7 (ieq
 a0 15) (some true) (l7 (ieq a0 16) (some true) (l7 (ieq a0 33) (some true) (some (ieq a0 34)))))) fun r=>some r
def b2g (a0:Int):Option x8:=some (a0,0)
def b2p (a0:x8) (a1:G8):Option Bool:=l9 (l7 (ieq a0.1 1) (some (ieq a0.1 1)) (l7 (ieq a0.1 2) (some (ieq a0.1 2))
 (l7 (ieq a0.1 3) (some (ieq a0.1 3)) (l7 (ieq a0.1 4) (some (ieq a0.1 4)) (some (ieq a0.1 5)))))) fun x=>l7 x (l9 (b2g
 a0.1) fun x=>l9 (b2k x a1.1) fun x=>l7 (ile x.1 a0.2) (some (ile a0.2 x.2)) (some false)) (l9 (l7 (ieq
 a0.1 14) (some (ieq a0.1 14)) (l7 (ieq a0.1 15) (some (ieq a0.1 15)) (some (ieq a0.1 16)))) fun x=>l7 x (l7 (ile 0 a0.2) (some
 (ile a0.2 5)) (some false)) (l7 (ieq a0.1 34) (l7 (ile 0 a0.2) (some (ile (gW a0.2 8) 5)) (some false)) (l7 (ieq a0.1 6) (some (ile 0
 a0.2)) (some true))))
def b2t (a0:x8) (a1:G8):Option Bool:=l7 (ieq a0.1 6) (l7 (ilt (ay .i64 a0.2 16) (o7 a1.1)) (l9 (lat
 a1.1 (ay .i64 a0.2 16)) fun x=>some (ilt (gW a0.2 16) (o7 x.2))) (some false)) (l7 (ieq a0.1 7) (l7 (ile 0 a0.2) (some
 (ilt a0.2 (o7 a1.2.2.1))) (some false)) (l7 (ieq a0.1 8) (l7 (ile 0 a0.2) (some (ilt a0.2 (o7 a1.2.2.2.1))) (some false)) (l7 (ieq a0.1
 33) (l7 (ile 0 a0.2) (some (ilt a0.2 (o7 a1.2.1))) (some false)) (l7 (ieq a0.1 34) (some (ilt (ay .i64 a0.2 8) (o7 a1.2.1)))
 (l7 (ieq a0.1 35) (some a1.2.2.2.2.2) (l9 (l7 (ieq a0.1 36) (some (ieq a0.1 36)) (l7 (ieq a0.1 37) (some (ieq a0.1 37)) (l7 (ieq a0.1
 38) (some (ieq a0.1 38)) (some (ieq a0.1 39))))) fun x=>l7 x (l7 a1.2.2.2.2.2 (l7 (ile 0 a0.2) (some (ilt a0.2 (o7
 a1.2.2.2.2.1))) (some false)) (some false)) (some true)))))))
def b2j (a0:Int):Option Bool:=l7 (ieq a0 2) (some true) (l7 (ieq a0 3) (some true) (some (ieq a0 4)))
def b2i (a0:Int):Option Bool:=l9 (b2j a0) fun x=>l7 x (some true) (some (ieq a0 5))
def b2u (a0:x8) (a1:G8):Option (x8×Bool):=l9 (l7 (ieq a0.1 6) (some (6,ay .i64 a0.2 16)) (l7 (ieq
 a0.1 7) (l9 (lat a1.2.2.1 a0.2) fun x=>some x) (l7 (ieq a0.1 8) (l9 (lat a1.2.2.2.1 a0.2) fun x=>some x) (l7 (ieq
 a0.1 9) (l9 (b2g 5) fun x=>some x) (l7 (ieq a0.1 35) (l9 (b2g 2) fun x=>some x) (l9 (l7 (ieq
 a0.1 36) (some (ieq a0.1 36)) (l7 (ieq a0.1 37) (some (ieq a0.1 37)) (l7 (ieq a0.1 38) (some (ieq a0.1 38)) (some (ieq a0.1 39))))) fun(x:
 Bool)=>l7 x (l9 (lat a1.2.2.2.2.1 a0.2) fun x=>some x) (l9 (b2g a0.1) fun x=>some x))))))) fun x
 =>l9 (b2h x a1.1) fun x_1=>l7 (ieq a0.1 36) (l7 x_1 (l7 (ieq x.1 2) (some (x,true)) (some (x,ieq x.1 3))) (some
 (x,false))) (l7 (ieq a0.1 37) (l7 (ieq a0.1 37) (l7 x_1 (some (x,ieq x.1 1)) (some (x,false))) (l7 (ieq a0.1 39) (l7 x_1 (l9
 (b2i x.1) fun x_2=>some (x,x_2)) (some (x,false))) (some (x,x_1)))) (l7 (ieq a0.1 38) (l7 x_1 (some (x,ieq x.1 1))
 (some (x,false))) (l7 (ieq a0.1 39) (l7 x_1 (l9 (b2i x.1) fun x_2=>some (x,x_2)) (some (x,false))) (some (x,
 x_1)))))
def b2r (a0:x8) (a1:x8) (a2:G8):Option (x8×Bool):=l7 (ieq a0.1 10) (l9 (b2j a1.1) fun x
 =>some (a1,x)) (l7 (ieq a0.1 25) (some (a1,ieq a1.1 1)) (l9 (l7 (ieq a0.1 31) (some (ieq a0.1 31)) (some (ieq a0.1 32))) fun x
 =>l7 x (l9 (b2g 2) fun x=>some (x,ieq a1.1 5)) (l7 (ieq a0.1 33) (l9 (lat a2.2.1 a0.2) fun x=>l9
 (b2h x.2.1 a2.1) fun x_1=>l7 x_1 (l9 (b2h x.2.2.1 a2.1) fun x_2=>l7 x_2 (some (x.2.2.1,U7
 (ieq a1.1 x.2.1.1) (ieq a1.2 x.2.1.2))) (some (x.2.2.1,false))) (some (x.2.2.1,false))) (l9 (lat a2.2.1 (ay .i64 a0.2 8)) fun(x:
 ja)=>l7 (ieq a1.1 3) (l9 (b2g 3) fun x_1=>l7 (U7 (ieq x.2.1.1 x_1.1) (ieq x.2.1.2 x_1.2)) (l9 (b2g 4)
 fun x_2=>some (a1,U7 (ieq x.2.2.1.1 x_2.1) (ieq x.2.2.1.2 x_2.2))) (some (a1,false))) (some (a1,false))))))
def b2q (a0:Int) (a1:Int) (a2:Int):Option (x8×Bool):=l7 (ieq a0 13) (l9 (b2g a1) fun x=>l7 (ieq a2
 2) (l7 (ieq a1 2) (some (x,true)) (some (x,ieq a1 3))) (some (x,false))) (l7 (ieq a0 14) (l9 (b2g a1) fun x=>l7
 (ieq a2 4) (l7 (ieq a1 3) (some (x,true)) (some (x,ieq a1 4))) (some (x,false))) (l7 (ieq a1 3) (l7 (ieq a2 3) (l9 (b2g 4) fun
 (x:x8)=>some (x,true)) (l9 (b2g a1) fun x=>l7 (ieq a2 2) (l7 (ieq a1 2) (some (x,true)) (some (x,ieq a1 3)))
 (some (x,false)))) (l9 (b2g a1) fun x=>l7 (ieq a2 2) (l7 (ieq a1 2) (some (x,true)) (some (x,ieq a1 3))) (some (x,
 false)))))
def b2o (a0:Int) (a1:x8) (a2:x8):Option (x8×Bool):=l9 (l9 (l7 (ieq a0 11) (some (ieq a0 11)) (some (ieq a0
 12))) fun x=>l7 x (l7 (U7 (ieq a1.1 a2.1) (ieq a1.2 a2.2)) (l9 (b2j a1.1) fun x=>some (.inr (a1,x)))
 (some (.inr (a1,false)))) (l9 (l7 (ieq a0 13) (some (ieq a0 13)) (l7 (ieq a0 14) (some (ieq a0 14)) (some (ieq a0 15)))) fun x
 =>l7 x (l9 (b2q a0 a1.1 a2.1) fun x=>some (.inr x)) (l7 (ieq a0 16) (l7 (ieq a1.1 3) (some (.inr (a1,
 ieq a2.1 3))) (some (.inr (a1,false)))) (l9 (l7 (ieq a0 17) (some (ieq a0 17)) (some (ieq a0 18))) fun x=>l7 x (l7 (U7
 (ieq a1.1 a2.1) (ieq a1.2 a2.2)) (l9 (b2i a1.1) fun x=>some (.inr (a1,x))) (some (.inr (a1,false)))) (l9 (l7
 (ieq a0 19) (some (ieq a0 19)) (some (ieq a0 20))) fun x=>l7 x (l9 (b2g 1) fun x=>some (.inr (x,U7 (ieq
 a1.1 a2.1) (ieq a1.2 a2.2)))) (l9 (l7 (ieq a0 21) (some (ieq a0 21)) (some (ieq a0 22))) fun x=>l7 x (l9 (b2g 1) fun(x
 :x8)=>l7 (U7 (ieq a1.1 a2.1) (ieq a1.2 a2.2)) (l9 (b2i a1.1) fun x_1=>some (.inr (x,x_1))) (some (.inr (x,
 false)))) (l7 (ieq a0 23) (l7 (ieq a0 23) (l7 (ieq a1.1 1) (some (.inr (a1,ieq a2.1 1))) (some (.inr (a1,false)))) (l7 (ieq a0
 27) (l7 (ieq a0 27) (l7 (ieq a1.1 5) (some (.inr (a1,ieq a2.1 2))) (some (.inr (a1,false)))) (some (.inl (0,0)))) (l7 (ieq a0
 28) (l7 (ieq a1.1 5) (some (.inr (a1,ieq a2.1 2))) (some (.inr (a1,false)))) (some (.inl (0,0)))))) (l7 (ieq a0 24) (l7 (ieq
 a1.1 1) (some (.inr (a1,ieq a2.1 1))) (some (.inr (a1,false)))) (l7 (ieq a0 27) (l7 (ieq a0 27) (l7 (ieq a1.1 5) (some (.inr (a1,
 ieq a2.1 2))) (some (.inr (a1,false)))) (some (.inl (0,0)))) (l7 (ieq a0 28) (l7 (ieq a1.1 5) (some (.inr (a1,ieq a2.1 2))) (some
 (.inr (a1,false)))) (some (.inl (0,0))))))))))))) fun o=>J3 o (fun(x:x8)=>l9 (b2g 2) fun(x:
 x8)=>l7 (ieq a1.1 5) (some (x,ieq a2.1 5)) (some (x,false))) fun r=>some r
def b2n (a0:x8) (a1:List x8) (a2:G8):Option (x8×Int):=l9 (l7 (C9 (ieq a0.2 0)) (l9 (b2m
 a0.1) fun x=>l7 (C9 x) (some (.inr ((0,0),2))) (some (.inl (0,0)))) (some (.inl (0,0)))) fun o
 =>J3 o (fun(x:x8)=>l9 (b2p a0 a2) fun x=>l7 (C9 x) (some ((0,0),3)) (l9 (b2t a0 a2) fun(x:
 Bool)=>l7 (C9 x) (some ((0,0),6)) (l7 (ieq (o7 a1) 0) (l9 (b2u a0 a2) fun x=>l7 (C9 x.2) (some ((0,
 0),8)) (some (x.1,0))) (l7 (ieq (o7 a1) 1) (l9 (lat a1 0) fun x=>l9 (b2r a0 x a2) fun x=>l7
 (C9 x.2) (some ((0,0),8)) (some (x.1,0))) (l7 (ieq (o7 a1) 2) (l9 (lat a1 0) fun x=>l9 (lat a1 1) fun x_1=>
 l9 (b2o a0.1 x x_1) fun x=>l7 (C9 x.2) (some ((0,0),8)) (some (x.1,0))) (l9 (lat a1 1) fun x=>
 l9 (lat a1 0) fun x_1=>l7 (ieq x_1.1 1) (l9 (lat a1 1) fun x_2=>l9 (lat a1 2) fun x_3=>l7 (C9
 (U7 (ieq x_2.1 x_3.1) (ieq x_2.2 x_3.2))) (some ((0,0),8)) (some (x,0))) (l7 (C9 false) (some ((0,0),8)) (some (x,0))))))))) fun(r:
 x8×Int)=>some r
end
end Gt
