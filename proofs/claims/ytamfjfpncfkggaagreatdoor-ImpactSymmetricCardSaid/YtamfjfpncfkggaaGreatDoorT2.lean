import Derived.Test.YtamfjfpncfkggaaGreatDoorT1
set_option linter.all false
open Go Go.GP
namespace Gt
set_option maxRecDepth 100000
noncomputable section
def a0V (f:Func):Code:=match f.body with | some c=>c | none=> .skip
abbrev mkS (ps:List MG) (rt:Ret) (F:ax ps→Option rt.den):FSpec:=⟨ps,rt.rs.map (·.2),rt.outs.map (·.2),F⟩
abbrev lfA:Ann:=.leaf
abbrev diM:M:=.dat (.int .i64)
abbrev oiM:M:=.own (.int .i64)
abbrev dbM:M:=.dat .bool
abbrev uiM:MG:=(false,diM)
abbrev ubM:MG:=(false,dbM)
abbrev uoM:MG:=(false,oiM)
abbrev y0:Ty:=.prod (.int .i64) (.int .i64)
abbrev y1:Ty:=.prod (.int .i64) y0
abbrev y2:Ty:=.prod .str (.int .i64)
abbrev y3:Ty:=.prod .str y2
abbrev y4:Ty:=.sl y3
abbrev y5:Ty:=.prod (.int .i64) y4
abbrev y6:Ty:=.prod (.int .i64) y5
abbrev y7:Ty:=.prod y1 y6
abbrev y8:Ty:=.prod y1 y7
abbrev y9:Ty:=.prod .str (.sl .str)
abbrev y10:Ty:=.sl y9
abbrev y11:Ty:=.prod y0 y1
abbrev y12:Ty:=.sl y11
abbrev y13:Ty:=.prod y0 y12
abbrev y14:Ty:=.prod y0 y13
abbrev y15:Ty:=.prod .str y14
abbrev y16:Ty:=.sl y15
abbrev y17:Ty:=.prod .str y0
abbrev y18:Ty:=.sl y17
abbrev y19:Ty:=.sl y0
abbrev y20:Ty:=.prod y19 .str
abbrev y21:Ty:=.prod y19 y20
abbrev y22:Ty:=.prod y0 y21
abbrev y23:Ty:=.prod (.int .i64) y22
abbrev y24:Ty:=.prod (.int .i64) y23
abbrev y25:Ty:=.prod (.int .i64) y24
abbrev y26:Ty:=.prod .str y25
abbrev y27:Ty:=.sl y26
abbrev y28:Ty:=.prod y18 y27
abbrev y29:Ty:=.prod y18 y28
abbrev y30:Ty:=.prod (.int .i64) y29
abbrev y31:Ty:=.prod .str y30
abbrev y32:Ty:=.sl y31
abbrev y33:Ty:=.prod y16 y32
abbrev y34:Ty:=.prod y10 y33
abbrev y35:Ty:=.prod y34 y34
abbrev y36:Ty:=.sl y1
abbrev y37:Ty:=.sl y36
abbrev y38:Ty:=.prod y36 y37
abbrev y39:Ty:=.prod (.int .i64) y38
abbrev y40:Ty:=.prod (.int .i64) y1
abbrev y41:Ty:=.prod .str .str
abbrev y42:Ty:=.sl (.ent true false y41 .bool)
abbrev y43:Ty:=.sl (.ent false false .str (.int .i64))
abbrev y44:Ty:=.prod y31 y43
abbrev y45:Ty:=.sl (.ent false true .str y44)
abbrev y46:Ty:=.sl (.int .i64)
abbrev y47:Ty:=.prod y36 y46
abbrev y48:Ty:=.sl y47
abbrev y49:Ty:=.prod y46 y48
abbrev y50:Ty:=.prod y36 y49
abbrev y51:Ty:=.prod y19 y16
abbrev y52:Ty:=.prod y37 y51
abbrev y53:Ty:=.prod y36 y52
abbrev y54:Ty:=.prod y36 y53
abbrev y55:Ty:=.prod (.int .i64) y54
abbrev y56:Ty:=.prod y0 .str
abbrev y57:Ty:=.prod (.int .i64) y56
abbrev y58:Ty:=.prod .str y57
abbrev y59:Ty:=.prod .str y58
abbrev y60:Ty:=.prod (.sl .bool) (.sl .bool)
abbrev y61:Ty:=.prod y31 y60
abbrev y62:Ty:=.prod y31 y61
abbrev y63:Ty:=.sl (.ent false false (.int .i64) .bool)
abbrev y64:Ty:=.sl y46
abbrev y65:Ty:=.prod y19 .bool
abbrev y66:Ty:=.prod y19 y65
abbrev y67:Ty:=.prod y19 y66
abbrev y68:Ty:=.prod y16 y67
abbrev y69:Ty:=.prod y10 y68
abbrev y70:Ty:=.prod y46 y55
abbrev y71:Ty:=.prod y19 y70
abbrev y72:Ty:=.prod y46 y46
abbrev y73:Ty:=.prod y46 y72
def tt:List (Nat×TI):=[
 (3,⟨1,8,(.int .i64),some (.int .i64),[.i .i64 0]⟩),
 (4,⟨1,1,.bool,some .bool,[.b false]⟩),
 (5,⟨1,1,(.int .u8),some (.int .u8),[.i .u8 0]⟩),
 (9,⟨1,16,.str,some .str,[.s []]⟩),
 (23,⟨3,24,(.struct [(3,0),(3,1),(3,2)]),some y1,[.i .i64 0,.i .i64 0,.i .i64 0]⟩),
 (24,⟨1,8,(.int .i64),some (.int .i64),[.i .i64 0]⟩),
 (25,⟨1,24,(.sl 46),some y4,[.nl]⟩),
 (27,⟨9,88,(.struct [(23,0),(23,3),(24,6),(24,7),(25,8)]),some y8,[.i .i64 0,.i .i64 0,.i .i64 0,.i .i64 0,.i .i64 0,.i .i64 0,.i .i64 0,.i .i64 0,.nl]⟩),
 (30,⟨1,24,(.sl 103),some y10,[.nl]⟩),
 (31,⟨1,24,(.sl 106),some y16,[.nl]⟩),
 (32,⟨1,24,(.sl 66),some y32,[.nl]⟩),
 (34,⟨3,72,(.struct [(30,0),(31,1),(32,2)]),some y34,[.nl,.nl,.nl]⟩),
 (36,⟨6,144,(.struct [(34,0),(34,3)]),some y35,[.nl,.nl,.nl,.nl,.nl,.nl]⟩),
 (37,⟨1,24,(.sl 23),some y36,[.nl]⟩),
 (38,⟨1,24,(.sl 37),some y37,[.nl]⟩),
 (40,⟨3,56,(.struct [(3,0),(37,1),(38,2)]),some y39,[.i .i64 0,.nl,.nl]⟩),
 (46,⟨3,40,(.struct [(9,0),(9,1),(3,2)]),some y3,[.s [],.s [],.i .i64 0]⟩),
 (49,⟨4,32,(.struct [(24,0),(3,1),(3,2),(3,3)]),some y40,[.i .i64 0,.i .i64 0,.i .i64 0,.i .i64 0]⟩),
 (55,⟨2,16,(.struct [(3,0),(3,1)]),some y0,[.i .i64 0,.i .i64 0]⟩),
 (56,⟨1,24,(.sl 55),some y19,[.nl]⟩),
 (61,⟨4,32,(.struct [(24,0),(3,1),(3,2),(3,3)]),some y40,[.i .i64 0,.i .i64 0,.i .i64 0,.i .i64 0]⟩),
 (63,⟨1,24,(.sl 100),some y18,[.nl]⟩),
 (64,⟨1,24,(.sl 80),some y27,[.nl]⟩),
 (66,⟨5,96,(.struct [(9,0),(3,1),(63,2),(63,3),(64,4)]),some y31,[.s [],.i .i64 0,.nl,.nl,.nl]⟩),
 (70,⟨1,8,(.map 73 4),some y42,[.sl (.ent true false y41 .bool) []]⟩),
 (73,⟨2,32,(.struct [(9,0),(9,1)]),some y41,[.s [],.s []]⟩),
 (75,⟨1,8,(.map 9 118),some y45,[.sl (.ent false true .str y44) []]⟩),
 (78,⟨2,16,(.struct [(3,0),(3,1)]),some y0,[.i .i64 0,.i .i64 0]⟩),
 (80,⟨9,120,(.struct [(9,0),(3,1),(3,2),(3,3),(78,4),(56,6),(56,7),(9,8)]),some y26,[.s [],.i .i64 0,.i .i64 0,.i .i64 0,.i .i64 0,.i .i64 0,.nl,.nl,.s []]⟩),
 (88,⟨1,24,(.sl 3),some y46,[.nl]⟩),
 (89,⟨1,24,(.sl 134),some y48,[.nl]⟩),
 (91,⟨3,72,(.struct [(37,0),(88,1),(89,2)]),some y50,[.nl,.nl,.nl]⟩),
 (92,⟨1,24,(.sl 98),some y19,[.nl]⟩),
 (94,⟨6,128,(.struct [(3,0),(37,1),(37,2),(38,3),(92,4),(31,5)]),some y55,[.i .i64 0,.nl,.nl,.nl,.nl,.nl]⟩),
 (98,⟨2,16,(.struct [(3,0),(3,1)]),some y0,[.i .i64 0,.i .i64 0]⟩),
 (100,⟨3,32,(.struct [(9,0),(98,1)]),some y17,[.s [],.i .i64 0,.i .i64 0]⟩),
 (101,⟨1,24,(.sl 9),some (.sl .str),[.nl]⟩),
 (103,⟨2,40,(.struct [(9,0),(101,1)]),some y9,[.s [],.nl]⟩),
 (104,⟨1,24,(.sl 146),some y12,[.nl]⟩),
 (106,⟨6,72,(.struct [(9,0),(98,1),(98,3),(104,5)]),some y15,[.s [],.i .i64 0,.i .i64 0,.i .i64 0,.i .i64 0,.nl]⟩),
 (116,⟨1,8,(.map 9 3),some y43,[.sl (.ent false false .str (.int .i64)) []]⟩),
 (118,⟨6,104,(.struct [(66,0),(116,5)]),some y44,[.s [],.i .i64 0,.nl,.nl,.nl,.sl (.ent false false .str (.int .i64)) []]⟩),
 (122,⟨6,72,(.struct [(9,0),(9,1),(3,2),(78,3),(9,5)]),some y59,[.s [],.s [],.i .i64 0,.i .i64 0,.i .i64 0,.s []]⟩),
 (127,⟨1,24,(.sl 4),some (.sl .bool),[.nl]⟩),
 (129,⟨12,240,(.struct [(66,0),(66,5),(127,10),(127,11)]),some y62,[.s [],.i .i64 0,.nl,.nl,.nl,.s [],.i .i64 0,.nl,.nl,.nl,.nl,.nl]⟩),
 (134,⟨2,48,(.struct [(37,0),(88,1)]),some y47,[.nl,.nl]⟩),
 (146,⟨5,40,(.struct [(78,0),(3,2),(3,3),(3,4)]),some y11,[.i .i64 0,.i .i64 0,.i .i64 0,.i .i64 0,.i .i64 0]⟩),
 (148,⟨1,8,(.map 3 4),some y63,[.sl (.ent false false (.int .i64) .bool) []]⟩),
 (150,⟨1,24,(.sl 88),some y64,[.nl]⟩),
 (180,⟨6,128,(.struct [(30,0),(31,1),(92,2),(92,3),(92,4),(4,5)]),some y69,[.nl,.nl,.nl,.nl,.nl,.b false]⟩),
 (186,⟨1,8,(.ptr 187),none,[]⟩),
 (187,⟨1,24,(.sl 3),some y46,[.nl]⟩),
 (195,⟨8,176,(.struct [(56,0),(88,1),(94,2)]),some y71,[.nl,.nl,.i .i64 0,.nl,.nl,.nl,.nl,.nl]⟩),
 (212,⟨1,8,(.int .u64),some (.int .u64),[.i .u64 0]⟩),
 (226,⟨3,72,(.struct [(88,0),(88,1),(88,2)]),some y73,[.nl,.nl,.nl]⟩),
 (249,⟨1,8,(.int .u64),some (.int .u64),[.i .u64 0]⟩),
 (300,⟨1,16,.other,none,[]⟩),
 (304,⟨12,96,(.arr 12 3),none,[.i .i64 0,.i .i64 0,.i .i64 0,.i .i64 0,.i .i64 0,.i .i64 0,.i .i64 0,.i .i64 0,.i .i64 0,.i .i64 0,.i .i64 0,.i .i64 0]⟩)]
def eqs:List (Nat×List Ty):=[(23,[(.int .i64),(.int .i64),(.int .i64)]),(46,[.str,.str,(.int .i64)]),(55,[(.int .i64),(.int .i64)]),(61,[(.int .i64),(.int .i64),(.int .i64),(.int .i64)]),(73,[.str,.str]),(98,[(.int .i64),(.int .i64)]),(100,[.str,(.int .i64),(.int .i64)]),(122,[.str,.str,(.int .i64),(.int .i64),(.int .i64),.str]),(146,[(.int .i64),(.int .i64),(.int .i64),(.int .i64),(.int .i64)])]
def gl:List (Nat×(t:Ty)×List t.den):=[(3,⟨.int .i64,[31,28,31,30,31,30,31,31,30,31,30,31]⟩)]
abbrev I8:Type:=Ty.den y0
abbrev V4:Type:=Ty.den y41
abbrev pI:Type:=Ty.den y0
abbrev J6:Type:=Ty.den y1
abbrev X3:Type:=Ty.den y3
abbrev aF:Type:=Ty.den y17
abbrev bC:Type:=Ty.den y9
abbrev U8:Type:=Ty.den y40
abbrev rW:Type:=Ty.den y11
abbrev dh:Type:=Ty.den y73
abbrev MN:Type:=Ty.den y47
abbrev dC:Type:=Ty.den y59
abbrev bz:Type:=Ty.den y39
abbrev nP:Type:=Ty.den y8
abbrev nR:Type:=Ty.den y50
abbrev Y4:Type:=Ty.den y15
abbrev N9:Type:=Ty.den y26
abbrev H6:Type:=Ty.den y69
abbrev X9:Type:=Ty.den y55
abbrev A8:Type:=Ty.den y31
abbrev ak:Type:=Ty.den y44
abbrev L6:Type:=Ty.den y71
abbrev O8:Type:=Ty.den y62
abbrev J3:Type:=Ty.den y34
abbrev uq:Type:=Ty.den y35
def ps7:List MG:=[(true,(.dat y8))]
def rt7:Ret:=⟨[(.tmp 2,ubM)],[]⟩
def e7:Env:=⟨24,eqs,tt,gl,[],[],[],[],[]⟩
def an7:Ann:=.leaf
def dN (a0:nP):Option Bool:=l7 (ieq a0.2.2.1 0) (l7 (ieq a0.2.2.2.1 0) (some (E5 (U2 (ieq a0.1.1 a0.2.1.1) (U2
 (ieq a0.1.2.1 a0.2.1.2.1) (ieq a0.1.2.2 a0.2.1.2.2))))) (l7 (ieq a0.2.2.1 0) (some true) (some (ieq a0.2.2.2.1 0)))) (l7 (ieq a0.2.2.1 0) (some
 true) (some (ieq a0.2.2.2.1 0)))
def s7:FSpec:=mkS ps7 rt7 fun x=>dN x
def ps8:List MG:=[(true,(.dat y8))]
def rt8:Ret:=⟨[(.tmp 2,ubM)],[]⟩
def e8:Env:=⟨20,eqs,tt,gl,[],[],[],[],[]⟩
def an8:Ann:=.leaf
def oz (a0:nP):Option Bool:=l7 (E5 (bI (ieq a0.2.2.1 0) (ieq a0.2.2.2.1 0))) (some true) (l7 (ieq a0.2.2.1 0) (some
 (E5 (U2 (ieq a0.1.1 a0.2.1.1) (U2 (ieq a0.1.2.1 a0.2.1.2.1) (ieq a0.1.2.2 a0.2.1.2.2))))) (some false))
def s8:FSpec:=mkS ps8 rt8 fun x=>oz x
def b5K:List MG:=[(false,(.dat y19))]
def b7h:Ret:=⟨[(.cell 2 34,(true,(.pair (.dat y10) (.pair (.dat y16) (.owns (.pair (.dat .str) (.pair diM (.pair (.dat y18) (.pair (.dat y18) (.own y26))))))))))],[]⟩
def e14:Env:=⟨22,eqs,tt,gl,[],[(32,(.pair (.dat .str) (.pair diM (.pair (.dat y18) (.pair (.dat y18) (.own y26))))))],[],[],[]⟩
def c0U:Ann:=.leaf
def xY (a0:List I8):Option J3:=some ([],[],[([104,111,117,115,101],-1,[([97],3,0)],[([100],3,0)],[([98,97,115,
 101],0,-1,0,(0,109573),[],a0,[])])])
def s14:FSpec:=mkS b5K b7h fun x=>xY x
def b6M:List MG:=[(false,(.dat (.int .u8)))]
def b8j:Ret:=⟨[(.tmp 2,ubM)],[]⟩
def e72:Env:=⟨9,eqs,tt,gl,[],[],[],[],[]⟩
def c2a:Ann:=.leaf
def kJ (a0:Int):Option Bool:=l7 (ile 97 a0) (some (ile a0 122)) (some false)
def s72:FSpec:=mkS b6M b8j fun x=>kJ x
def b7b:List MG:=[(false,(.dat (.int .u8)))]
def b8z:Ret:=⟨[(.tmp 2,ubM)],[]⟩
def e98:Env:=⟨9,eqs,tt,gl,[],[],[],[],[]⟩
def c2s:Ann:=.leaf
def nz (a0:Int):Option Bool:=l7 (ile 48 a0) (some (ile a0 57)) (some false)
def s98:FSpec:=mkS b7b b8z fun x=>nz x
def b6N:List MG:=[(false,(.dat .str))]
def b8k:Ret:=⟨[(.tmp 2,uiM)],[]⟩
def e73:Env:=⟨29,eqs,tt,gl,[(72,s72),(98,s98)],[],[],[],[]⟩
def c2b:Ann:=.seq lfA (.seq lfA (.seq (.blk (.loop [(3,28)] ⟨[(3,uiM)],[]⟩ 0 ⟨[(3,uiM)],[]⟩ lfA)) lfA))
def mJ (a0:List UInt8):Option Int:=o5 (U9 (fun(x:Int)=>l7 (ilt x (o8 a0)) (o5 (sat a0 x) fun x_1=>
 o5 (kJ x_1) fun x_2=>l7 x_2 (some (.inl (x9 .i64 x 1))) (o5 (sat a0 x) fun x_3=>o5
 (nz x_3) fun x_4=>l7 x_4 (some (.inl (x9 .i64 x 1))) (o5 (sat a0 x) fun x_5=>l7 (ieq x_5 95)
 (some (.inl (x9 .i64 x 1))) (some (.inr x))))) (some (.inr x))) 0) fun y=>some y
def s73:FSpec:=mkS b6N b8k fun x=>mJ x
def b6O:List MG:=[(false,(.dat .str))]
def b8l:Ret:=⟨[(.tmp 2,ubM)],[]⟩
def e74:Env:=⟨60,eqs,tt,gl,[],[],[],[],[]⟩
def c2c:Ann:=.seq lfA (.seq (.seq lfA (.blk (.seq (.join [(4,60)] ⟨[(4,ubM)],[]⟩ lfA) lfA))) lfA)
def qg (a0:List UInt8):Option Bool:=o5 (l7 (seq a0 [105,102]) (some (seq a0 [105,102])) (l7 (seq a0 [116,104,101,110])
 (some (seq a0 [116,104,101,110])) (l7 (seq a0 [101,108,115,101]) (some (seq a0 [101,108,115,101])) (l7 (seq a0 [111,114]) (some (seq
 a0 [111,114])) (l7 (seq a0 [97,110,100]) (some (seq a0 [97,110,100])) (l7 (seq a0 [110,111,116]) (some (seq a0 [110,111,116])) (l7
 (seq a0 [116,114,117,101]) (some (seq a0 [116,114,117,101])) (l7 (seq a0 [102,97,108,115,101]) (some (seq a0 [102,97,108,115,101]))
 (l7 (seq a0 [116,111,100,97,121]) (some (seq a0 [116,111,100,97,121])) (l7 (seq a0 [115,104,97,114,101]) (some (seq a0 [115,104,
 97,114,101])) (l7 (seq a0 [100,105,118]) (some (seq a0 [100,105,118])) (l7 (seq a0 [114,111,117,110,100]) (some (seq a0 [114,111,
 117,110,100])) (l7 (seq a0 [109,105,110]) (some (seq a0 [109,105,110])) (l7 (seq a0 [109,97,120]) (some (seq a0 [109,97,120])) (l7
 (seq a0 [112,108,117,115]) (some (seq a0 [112,108,117,115])) (l7 (seq a0 [109,111,110,116,104,115]) (some (seq a0 [109,111,110,116,
 104,115])) (l7 (seq a0 [100,97,121,115]) (some (seq a0 [100,97,121,115])) (l7 (seq a0 [121,101,97,114,115]) (some (seq a0 [121,101,
 97,114,115])) (l7 (seq a0 [121,101,97,114]) (some (seq a0 [121,101,97,114])) (l7 (seq a0 [109,111,110,116,104]) (some (seq a0 [109,
 111,110,116,104])) (l7 (seq a0 [116,97,98]) (some (seq a0 [116,97,98])) (l7 (seq a0 [98,97,110,100]) (some (seq a0 [98,97,110,
 100])) (l7 (seq a0 [99,111,117,110,116]) (some (seq a0 [99,111,117,110,116])) (l7 (seq a0 [115,117,109]) (some (seq a0 [115,117,
 109])) (l7 (seq a0 [97,108,108]) (some (seq a0 [97,108,108])) (l7 (seq a0 [97,110,121]) (some (seq a0 [97,110,121])) (l7 (seq a0
 [109,111,115,116]) (some (seq a0 [109,111,115,116])) (l7 (seq a0 [101,110,117,109]) (some (seq a0 [101,110,117,109])) (l7 (seq a0
 [116,97,98,108,101]) (some (seq a0 [116,97,98,108,101])) (l7 (seq a0 [114,111,119]) (some (seq a0 [114,111,119])) (l7 (seq a0 [115,
 99,111,112,101]) (some (seq a0 [115,99,111,112,101])) (l7 (seq a0 [109,101,109,98,101,114,115]) (some (seq a0 [109,101,109,98,
 101,114,115])) (l7 (seq a0 [105,110,112,117,116]) (some (seq a0 [105,110,112,117,116])) (l7 (seq a0 [100,101,102]) (some (seq a0
 [100,101,102])) (l7 (seq a0 [114,117,108,101]) (some (seq a0 [114,117,108,101])) (l7 (seq a0 [111,102]) (some (seq a0 [111,102]))
 (l7 (seq a0 [111,118,101,114]) (some (seq a0 [111,118,101,114])) (l7 (seq a0 [112,114,105,111]) (some (seq a0 [112,114,105,111]))
 (l7 (seq a0 [102,114,111,109]) (some (seq a0 [102,114,111,109])) (l7 (seq a0 [116,111]) (some (seq a0 [116,111])) (l7 (seq a0 [101,
 110,100]) (some (seq a0 [101,110,100])) (l7 (seq a0 [119,104,101,110]) (some (seq a0 [119,104,101,110])) (l7 (seq a0 [105,115]) (some
 (seq a0 [105,115])) (l7 (seq a0 [115,114,99]) (some (seq a0 [115,114,99])) (l7 (seq a0 [98,111,111,108]) (some (seq a0 [98,111,111,
 108])) (l7 (seq a0 [105,110,116]) (some (seq a0 [105,110,116])) (l7 (seq a0 [109,111,110,101,121]) (some (seq a0 [109,111,110,101,
 121])) (l7 (seq a0 [114,97,116,101]) (some (seq a0 [114,97,116,101])) (l7 (seq a0 [100,97,116,101]) (some (seq a0 [100,97,116,
 101])) (l7 (seq a0 [100,111,119,110]) (some (seq a0 [100,111,119,110])) (l7 (seq a0 [117,112]) (some (seq a0 [117,112])) (l7 (seq a0
 [122,101,114,111]) (some (seq a0 [122,101,114,111])) (l7 (seq a0 [97,119,97,121]) (some (seq a0 [97,119,97,121])) (l7 (seq a0 [104,
 97,108,102]) (some (seq a0 [104,97,108,102])) (some (seq a0 [101,118,101,110])))))))))))))))))))))))))))))))))))))))))))))))))))))))) fun(x
 :Bool)=>l7 x (some true) (some false)
def s74:FSpec:=mkS b6O b8l fun x=>qg x
def b6r:List MG:=[(false,(.dat .str))]
def b7O:Ret:=⟨[(.tmp 2,ubM)],[]⟩
def e49:Env:=⟨27,eqs,tt,gl,[(72,s72),(73,s73),(74,s74)],[],[],[],[]⟩
def c1C:Ann:=.leaf
def Z8 (a0:List UInt8):Option Bool:=l7 (E5 (seq a0 [])) (o5 (sat a0 0) fun x=>o5 (kJ x) fun(x:
 Bool)=>l7 x (o5 (mJ a0) fun x=>l7 (ieq x (o8 a0)) (l7 (ile (o8 a0) 16) (o5 (qg a0) fun(x:
 Bool)=>some (E5 x)) (some false)) (some false)) (some false)) (some false)
def s49:FSpec:=mkS b6r b7O fun x=>Z8 x
def a2J:List MG:=[(true,(.dat y9)),(false,(.rp .str))]
def a3o:Ret:=⟨[(.tmp 3,ubM)],[]⟩
def b5o:Env:=⟨8,eqs,tt,gl,[],[],[],[],[]⟩
def b0N:Ann:=.leaf
def wu (a0:bC) (a1:List UInt8):Option Bool:=some (seq a0.1 a1)
def a3J:FSpec:=mkS a2J a3o fun x=>wu x.1 x.2
def a2Q:List MG:=[(false,(.dat y10)),(false,(.fn 76 [.str]))]
def a3v:Ret:=⟨[(.tmp 4,uiM)],[]⟩
def b5v:Env:=⟨19,eqs,tt,gl,[(76,a3J)],[],[],[],[]⟩
def b0U:Ann:=.seq lfA (.seq (.seq lfA (.blk (.loopR [(4,6),(8,19)] ⟨[(8,uiM)],[]⟩ 0 ⟨[],[]⟩ lfA))) lfA)
def bP (a0:List bC) (a1:List UInt8):Option Int:=o5 (P5 (fun(x:Int)=>l7 (ilt x (o8 a0))
 (o5 (lat a0 x) fun x_1=>o5 (wu x_1 a1) fun x_2=>l7 x_2 (some (.rt x)) (some (.nx (x9 .i64 x
 1)))) (some (.ex ()))) 0) fun o=>U7 o (fun(y:PUnit)=>some (-1)) fun r=>some r
def b0n:FSpec:=mkS a2Q a3v fun x=>bP x.1 x.2
def a2I:List MG:=[(false,(.dat y10)),(false,(.fn 76 [.str]))]
def a3n:Ret:=⟨[(.tmp 4,ubM)],[]⟩
def b5n:Env:=⟨9,eqs,tt,gl,[(99,b0n)],[],[],[],[]⟩
def b0M:Ann:=.leaf
def aS (a0:List bC) (a1:List UInt8):Option Bool:=o5 (bP a0 a1) fun(x
 :Int)=>some (ile 0 x)
def b0i:FSpec:=mkS a2I a3n fun x=>aS x.1 x.2
def b6s:List MG:=[(false,(.dat y10)),(false,(.dat .str))]
def b7P:Ret:=⟨[(.tmp 4,ubM)],[]⟩
def e50:Env:=⟨8,eqs,tt,gl,[(76,a3J),(75,b0i)],[],[],[],[]⟩
def c1E:Ann:=.leaf
def oU (a0:List bC) (a1:List UInt8):Option Bool:=o5 (aS a0 a1) fun x=>some x
def s50:FSpec:=mkS b6s b7P fun x=>oU x.1 x.2
def b6Z:List MG:=[(false,(.dat (.sl .str))),(false,(.dat .str))]
def b8x:Ret:=⟨[(.tmp 4,uiM)],[]⟩
def e96:Env:=⟨19,eqs,tt,gl,[],[],[],[],[]⟩
def c2p:Ann:=.seq lfA (.seq (.seq lfA (.blk (.loopR [(4,6),(8,19)] ⟨[(8,uiM)],[]⟩ 0 ⟨[],[]⟩ lfA))) lfA)
def gU (a0:List (List UInt8)) (a1:List UInt8):Option Int:=o5 (P5 (fun(x:Int)=>l7 (ilt x (o8 a0))
 (o5 (lat a0 x) fun x_1=>l7 (seq a1 x_1) (some (.rt x)) (some (.nx (x9 .i64 x 1)))) (some (.ex ())))
 0) fun o=>U7 o (fun(y:PUnit)=>some (-1)) fun r=>some r
def s96:FSpec:=mkS b6Z b8x fun x=>gU x.1 x.2
def b6H:List MG:=[(false,(.dat (.sl .str))),(false,(.dat .str))]
def b8e:Ret:=⟨[(.tmp 4,ubM)],[]⟩
def e65:Env:=⟨9,eqs,tt,gl,[(96,s96)],[],[],[],[]⟩
def c1V:Ann:=.leaf
def bi (a0:List (List UInt8)) (a1:List UInt8):Option Bool:=o5 (gU a0 a1) fun x
 =>some (ile 0 x)
def s65:FSpec:=mkS b6H b8e fun x=>bi x.1 x.2
def b6p:List MG:=[(true,(.dat y34)),uiM,(true,(.dat y9))]
def b7M:Ret:=⟨[(.tmp 6,uiM),(.tmp 7,uiM)],[]⟩
def e47:Env:=⟨55,eqs,tt,gl,[(49,s49),(50,s50),(65,s65)],[],[],[],[]⟩
def c1A:Ann:=.seq lfA (.seq lfA (.seq (.seq lfA (.blk (.loopR [(6,10),(36,55)] ⟨[(36,uiM)],[]⟩ 1 ⟨[],[]⟩ lfA))) lfA))
def rJ (a0:J3) (a1:Int) (a2:bC):Option I8:=o5 (Z8 a2.1) fun x=>l7 (E5 x) (some (2,0))
 (o5 (zC a0.1 0 a1) fun x=>o5 (oU x a2.1) fun x=>l7 x (some (7,0)) (l7 (ieq (o8 a2.2) 0) (some
 (5,0)) (l7 (ilt 16 (o8 a2.2)) (some (4,116)) (o5 (P5 (fun(x:Int)=>l7 (ilt x (o8 a2.2)) (o5 (lat a2.2 x) fun x_1=>o5 (Z8 x_1) fun x_2=>l7 (E5 x_2) (some (.rt (2,x9 .i64 100 x))) (o5 (zC a2.2 0 x) fun
 (x_3:List (List UInt8))=>o5 (bi x_3 x_1) fun x_4=>l7 x_4 (some (.rt (7,x9 .i64 100 x)))
 (some (.nx (x9 .i64 x 1))))) (some (.ex ()))) 0) fun o=>U7 o (fun(y:PUnit)=>some (0,0)) fun(r:
 I8)=>some r))))
def s47:FSpec:=mkS b6p b7M fun x=>rJ x.1 x.2.1 x.2.2
def b6b:List MG:=[(true,(.dat y34))]
def b7y:Ret:=⟨[(.cell 2 61,(true,(.dat y40)))],[]⟩
def e30:Env:=⟨35,eqs,tt,gl,[(47,s47)],[],[],[],[]⟩
def c1l:Ann:=.seq lfA (.seq lfA (.seq (.seq lfA (.blk (.loopR [(2,7),(15,34),(4000128,4000129)] ⟨[(2,(false,(.box (.dat y40)))),(15,uiM)],[]⟩ 0 ⟨[(2,(false,(.box (.dat y40))))],[]⟩ lfA))) lfA))
def pY (a0:J3):Option U8:=l7 (ilt 8 (o8 a0.1)) (some (4,1,8,0)) (o5 (P5 (fun(x:U8×Int)=>l7
 (ilt x.2 (o8 a0.1)) (o5 (lat a0.1 x.2) fun x_1=>o5 (rJ a0 x.2 x_1) fun x_2=>l7 (E5 (ieq x_2.1 0))
 (some (.rt (x_2.1,1,x.2,x_2.2))) (some (.nx (x.1,x9 .i64 x.2 1)))) (some (.ex x.1))) ((0,0,0,0),0)) fun o=>U7 o (fun(y:U8)=>some (0,0,0,0)) fun r=>some r)
def s30:FSpec:=mkS b6b b7y fun x=>pY x
def b6I:List MG:=[(true,(.dat y0)),(false,(.dat y10))]
def b8f:Ret:=⟨[(.tmp 4,ubM)],[]⟩
def e66:Env:=⟨28,eqs,tt,gl,[],[],[],[],[]⟩
def c1W:Ann:=.seq lfA (.seq (.seq lfA (.blk (.seq (.join [(7,13)] ⟨[(7,ubM)],[]⟩ lfA) lfA))) lfA)
def ah (a0:I8) (a1:List bC):Option Bool:=o5 (l7 (ieq a0.1 1) (some (ieq a0.1 1)) (l7 (ieq a0.1 2) (some (ieq a0.1
 2)) (l7 (ieq a0.1 3) (some (ieq a0.1 3)) (l7 (ieq a0.1 4) (some (ieq a0.1 4)) (some (ieq a0.1 5)))))) fun x=>l7 x (some (ieq a0.2
 0)) (l7 (ieq a0.1 6) (l7 (ile 0 a0.2) (some (ilt a0.2 (o8 a1))) (some false)) (some false))
def s66:FSpec:=mkS b6I b8f fun x=>ah x.1 x.2
def b6J:List MG:=[(true,(.dat y0)),(false,(.dat y10))]
def b8g:Ret:=⟨[(.tmp 4,uiM),(.tmp 5,uiM)],[]⟩
def e67:Env:=⟨30,eqs,tt,gl,[(66,s66)],[],[],[],[]⟩
def c1X:Ann:=.leaf
def iR (a0:I8) (a1:List bC):Option I8:=o5 (ah a0 a1) fun x=>l7 (E5 x) (some (0,-1)) (l7
 (ieq a0.1 1) (some (0,1)) (l7 (ieq a0.1 2) (some (-1000000000000,1000000000000)) (l7 (ieq a0.1 3) (some (-1000000000000000,
 1000000000000000)) (l7 (ieq a0.1 4) (some (-1000000000,1000000000)) (l7 (ieq a0.1 5) (some (0,109572)) (o5 (lat a1 a0.2) fun x
 =>some (0,G8 .i64 (o8 x.2) 1)))))))
def s67:FSpec:=mkS b6J b8g fun x=>iR x.1 x.2
def b6K:List MG:=[(true,(.dat y0))]
def b8h:Ret:=⟨[(.tmp 2,ubM)],[]⟩
def e68:Env:=⟨18,eqs,tt,gl,[],[],[],[],[]⟩
def c1Y:Ann:=.leaf
def ig (a0:I8):Option Bool:=l7 (ile 0 a0.1) (l7 (ile a0.1 a0.2) (some (ile a0.2 109573)) (some false)) (some false)
def s68:FSpec:=mkS b6K b8h fun x=>ig x
def a7n:List MG:=[(true,(.dat y0))]
def a8O:Ret:=⟨[(.tmp 2,ubM)],[]⟩
def c2H:Env:=⟨12,eqs,tt,gl,[(68,s68)],[],[],[],[]⟩
def b3J:Ann:=.leaf
def kQ (a0:I8):Option Bool:=o5 (ig a0) fun x=>l7 x (some (ilt a0.1 a0.2)) (some false)
def b8I:FSpec:=mkS a7n a8O fun x=>kQ x
def b7a:List MG:=[(true,(.dat y0)),(true,(.dat y0))]
def b8y:Ret:=⟨[(.cell 4 78,(true,(.dat y0))),(.tmp 5,ubM)],[]⟩
def e97:Env:=⟨34,eqs,tt,gl,[(124,b8I)],[],[],[],[]⟩
def c2r:Ann:=.leaf
def jk (a0:I8) (a1:I8):Option (I8×Bool):=o5 (kQ a0) fun x=>l7 (E5 x) (some ((0,
 0),false)) (o5 (kQ a1) fun x=>l7 (E5 x) (some ((0,0),false)) (l7 (ile (jM a0.2 a1.2) (gu a0.1 a1.1))
 (some ((0,0),false)) (some ((gu a0.1 a1.1,jM a0.2 a1.2),true))))
def s97:FSpec:=mkS b7a b8y fun x=>jk x.1 x.2
def b6L:List MG:=[(true,(.dat y11)),(true,(.dat y11))]
def b8i:Ret:=⟨[(.tmp 4,ubM)],[]⟩
def e71:Env:=⟨29,eqs,tt,gl,[(97,s97)],[],[],[],[]⟩
def c1Z:Ann:=.leaf
def qA (a0:rW) (a1:rW):Option Bool:=o5 (jk a0.1 a1.1) fun x=>l7 x.2 (some (ilt (gu
 a0.2.1 a1.2.1) (jM a0.2.2.1 a1.2.2.1))) (some false)
def s71:FSpec:=mkS b6L b8i fun x=>qA x.1 x.2
def a2H:List MG:=[(true,(.dat y11)),(false,(.rp y11))]
def a3m:Ret:=⟨[(.tmp 3,ubM)],[]⟩
def b5m:Env:=⟨7,eqs,tt,gl,[(71,s71)],[],[],[],[]⟩
def b0L:Ann:=.leaf
def jK (a0:rW) (a1:rW):Option Bool:=o5 (qA a0 a1) fun x=>some x
def a3I:FSpec:=mkS a2H a3m fun x=>jK x.1 x.2
def a2F:List MG:=[(false,(.dat y12)),(false,(.fn 70 [y11]))]
def a3k:Ret:=⟨[(.tmp 4,uiM),(.tmp 5,ubM)],[]⟩
def b5k:Env:=⟨20,eqs,tt,gl,[(70,a3I)],[],[],[],[]⟩
def b0J:Ann:=.seq lfA (.seq (.seq lfA (.blk (.loopR [(4,8),(10,20)] ⟨[(10,uiM)],[]⟩ 0 ⟨[],[]⟩ lfA))) lfA)
def jq (a0:List rW) (a1:rW):Option (Int×Bool):=o5 (P5 (fun(x:Int)=>l7 (ilt x (o8 a0)) (o5 (lat a0 x)
 fun x_1=>o5 (jK x_1 a1) fun x_2=>l7 x_2 (some (.rt (x,true))) (some (.nx (x9 .i64 x 1))))
 (some (.ex ()))) 0) fun o=>U7 o (fun(y:PUnit)=>some (0,false)) fun r=>some r
def b0g:FSpec:=mkS a2F a3k fun x=>jq x.1 x.2
def b6q:List MG:=[(true,(.dat y15)),(false,(.dat y10))]
def b7N:Ret:=⟨[(.tmp 4,uiM),(.tmp 5,uiM)],[]⟩
def e48:Env:=⟨121,eqs,tt,gl,[(66,s66),(67,s67),(68,s68),(70,a3I),(69,b0g)],[],[],[],[]⟩
def c1B:Ann:=.seq lfA (.seq lfA (.seq (.joinR [(4,6),(18,30)] ⟨[],[]⟩ lfA) (.seq lfA (.seq lfA (.seq (.seq lfA (.blk (.loopR [(4,6),(10,14),(47,121)] ⟨[(47,uiM)],[]⟩ 0 ⟨[],[]⟩ (.seq lfA (.seq lfA (.seq (.blk (.seq lfA (.seq (.joinR [(4,6),(52,73)] ⟨[],[]⟩ lfA) (.seq (.joinR [(4,6),(73,98)] ⟨[],[]⟩ lfA) lfA)))) lfA)))))) lfA)))))
def qy (a0:Y4) (a1:List bC):Option I8:=l7 (ilt 64 (o8 a0.2.2.2)) (some (64,4)) (o5 (o5 (ah
 a0.2.1 a1) fun x=>l7 (E5 x) (some (.inr (-1,8))) (o5 (ah a0.2.2.1 a1) fun x=>l7 (E5 x) (some
 (.inr (-1,8))) (some (.inl ())))) fun o=>U7 o (fun(x:PUnit)=>o5 (iR a0.2.1 a1) fun x
 =>o5 (iR a0.2.2.1 a1) fun x_1=>o5 (P5 (fun(x_2:Int)=>l7 (ilt x_2 (o8 a0.2.2.2)) (o5 (lat a0.2.2.2 x_2)
 fun x_3=>o5 (o5 (ig x_3.1) fun x=>l7 (E5 x) (some (.inr (x_2,3))) (l7 (ieq x_3.1.1 x_3.1.2)
 (some (.inr (x_2,3))) (l7 (ile x_3.2.2.1 x_3.2.1) (some (.inr (x_2,3))) (some (.inl ()))))) fun o=>U7 o
 (fun(x_4:PUnit)=>o5 (l7 (ilt x_3.2.1 x.1) (some (.inr (x_2,3))) (l7 (ilt x.2 x_3.2.1) (some (.inr (x_2,3))) (l7 (ilt (G8
 .i64 x_3.2.2.1 1) x.1) (some (.inr (x_2,3))) (l7 (ilt x.2 (G8 .i64 x_3.2.2.1 1)) (some (.inr (x_2,3))) (some (.inl
 ())))))) fun o=>U7 o (fun(x:PUnit)=>l7 (ilt x_3.2.2.2 x_1.1) (some (.rt (x_2,3))) (l7 (ilt x_1.2
 x_3.2.2.2) (some (.rt (x_2,3))) (o5 (zC a0.2.2.2 0 x_2) fun x=>o5 (jq x x_3) fun x=>
 l7 x.2 (some (.rt (x_2,11))) (some (.nx (x9 .i64 x_2 1)))))) fun r=>some (.rt r)) fun r=>some (.rt
 r)) (some (.ex ()))) 0) fun o=>U7 o (fun(y:PUnit)=>some (0,0)) fun r=>some r) fun r=>
 some r)
def s48:FSpec:=mkS b6q b7N fun x=>qy x.1 x.2
def a2L:List MG:=[(true,(.dat y15)),(false,(.rp .str))]
def a3q:Ret:=⟨[(.tmp 3,ubM)],[]⟩
def b5q:Env:=⟨8,eqs,tt,gl,[],[],[],[],[]⟩
def b0P:Ann:=.leaf
def uC (a0:Y4) (a1:List UInt8):Option Bool:=some (seq a0.1 a1)
def a3K:FSpec:=mkS a2L a3q fun x=>uC x.1 x.2
def XW:List MG:=[(false,(.dat y16)),(false,(.fn 78 [.str]))]
def Yr:Ret:=⟨[(.tmp 4,uiM)],[]⟩
def b1q:Env:=⟨19,eqs,tt,gl,[(78,a3K)],[],[],[],[]⟩
def a5e:Ann:=.seq lfA (.seq (.seq lfA (.blk (.loopR [(4,6),(8,19)] ⟨[(8,uiM)],[]⟩ 0 ⟨[],[]⟩ lfA))) lfA)
def aZ (a0:List Y4) (a1:List UInt8):Option Int:=o5 (P5 (fun(x:Int)=>l7 (ilt x (o8 a0))
 (o5 (lat a0 x) fun x_1=>o5 (uC x_1 a1) fun x_2=>l7 x_2 (some (.rt x)) (some (.nx (x9 .i64
 x 1)))) (some (.ex ()))) 0) fun o=>U7 o (fun(y:PUnit)=>some (-1)) fun r=>some r
def a3w:FSpec:=mkS XW Yr fun x=>aZ x.1 x.2
def a2K:List MG:=[(false,(.dat y16)),(false,(.fn 78 [.str]))]
def a3p:Ret:=⟨[(.tmp 4,ubM)],[]⟩
def b5p:Env:=⟨9,eqs,tt,gl,[(100,a3w)],[],[],[],[]⟩
def b0O:Ann:=.leaf
def aA (a0:List Y4) (a1:List UInt8):Option Bool:=o5 (aZ a0 a1)
 fun x=>some (ile 0 x)
def b0j:FSpec:=mkS a2K a3p fun x=>aA x.1 x.2
def b6t:List MG:=[(false,(.dat y16)),(false,(.dat .str))]
def b7Q:Ret:=⟨[(.tmp 4,ubM)],[]⟩
def e51:Env:=⟨8,eqs,tt,gl,[(78,a3K),(77,b0j)],[],[],[],[]⟩
def c1F:Ann:=.leaf
def qf (a0:List Y4) (a1:List UInt8):Option Bool:=o5 (aA a0 a1) fun x=>some x
def s51:FSpec:=mkS b6t b7Q fun x=>qf x.1 x.2
def b6c:List MG:=[(true,(.dat y34))]
def b7z:Ret:=⟨[(.cell 2 61,(true,(.dat y40)))],[]⟩
def e31:Env:=⟨68,eqs,tt,gl,[(48,s48),(49,s49),(50,s50),(51,s51)],[],[],[],[]⟩
def c1m:Ann:=.seq lfA (.seq lfA (.seq (.seq lfA (.blk (.loopR [(2,8),(16,67),(4000128,4000129)] ⟨[(2,(false,(.box (.dat y40)))),(16,uiM)],[]⟩ 0 ⟨[(2,(false,(.box (.dat y40))))],[]⟩ (.seq lfA (.seq lfA (.seq (.blk (.seq lfA (.seq lfA (.seq lfA (.seq (.join [(5,6),(30,62),(37000320,37000321)] ⟨[(5,(false,(.box (.dat y40))))],[]⟩ lfA) lfA))))) lfA)))))) lfA))
def oh (a0:J3):Option U8:=l7 (ilt 8 (o8 a0.2.1)) (some (4,2,8,0)) (o5 (P5 (fun(x:U8×Int)=>
 l7 (ilt x.2 (o8 a0.2.1)) (o5 (lat a0.2.1 x.2) fun x_1=>o5 (qy x_1 a0.1) fun x_2=>o5 (o5
 (Z8 x_1.1) fun x_3=>l7 (E5 x_3) (some (2,2,x.2,0)) (o5 (oU a0.1 x_1.1) fun x_4=>l7 x_4
 (some (7,2,x.2,0)) (o5 (zC a0.2.1 0 x.2) fun x_5=>o5 (qf x_5 x_1.1) fun x_6=>l7 x_6 (some (7,2,
 x.2,0)) (l7 (E5 (ieq x_2.2 0)) (l7 (E5 (ieq x_2.1 (-1))) (some (x_2.2,2,x.2,x9 .i64 100 x_2.1)) (some (x_2.2,2,x.2,0)))
 (some (0,2,x.2,0)))))) fun x_3=>l7 (E5 (ieq x_3.1 0)) (some (.rt x_3)) (some (.nx (x.1,x9 .i64 x.2 1))))
 (some (.ex x.1))) ((0,0,0,0),0)) fun o=>U7 o (fun(y:U8)=>some (0,0,0,0)) fun r
 =>some r)
def s31:FSpec:=mkS b6c b7z fun x=>oh x
def a2N:List MG:=[(true,(.dat y31)),(false,(.rp y31))]
def a3s:Ret:=⟨[(.tmp 3,ubM)],[]⟩
def b5s:Env:=⟨9,eqs,tt,gl,[],[],[],[],[]⟩
def b0R:Ann:=.leaf
def qV (a0:A8) (a1:A8):Option Bool:=some (seq a0.1 a1.1)
def a3L:FSpec:=mkS a2N a3s fun x=>qV x.1 x.2
def XX:List MG:=[(false,(.dat y32)),(false,(.fn 80 [y31]))]
def Yt:Ret:=⟨[(.tmp 4,uiM)],[]⟩
def b1r:Env:=⟨19,eqs,tt,gl,[(80,a3L)],[],[],[],[]⟩
def a5f:Ann:=.seq lfA (.seq (.seq lfA (.blk (.loopR [(4,6),(8,19)] ⟨[(8,uiM)],[]⟩ 0 ⟨[],[]⟩ lfA))) lfA)
def aY (a0:List A8) (a1:A8):Option Int:=o5 (P5 (fun(x:Int)=>l7 (ilt x (o8 a0))
 (o5 (lat a0 x) fun x_1=>o5 (qV x_1 a1) fun x_2=>l7 x_2 (some (.rt x)) (some (.nx (x9
 .i64 x 1)))) (some (.ex ()))) 0) fun o=>U7 o (fun(y:PUnit)=>some (-1)) fun r=>some r
def a3x:FSpec:=mkS XX Yt fun x=>aY x.1 x.2
def a2M:List MG:=[(false,(.dat y32)),(false,(.fn 80 [y31]))]
def a3r:Ret:=⟨[(.tmp 4,ubM)],[]⟩
def b5r:Env:=⟨9,eqs,tt,gl,[(101,a3x)],[],[],[],[]⟩
def b0Q:Ann:=.leaf
def X4 (a0:List A8) (a1:A8):Option Bool:=o5 (aY a0 a1) fun
 (x:Int)=>some (ile 0 x)
def b0k:FSpec:=mkS a2M a3r fun x=>X4 x.1 x.2
def XY:List MG:=[(true,(.dat y17)),(false,(.rp y17))]
def Yu:Ret:=⟨[(.tmp 3,ubM)],[]⟩
def b1s:Env:=⟨9,eqs,tt,gl,[],[],[],[],[]⟩
def a5g:Ann:=.leaf
def qU (a0:aF) (a1:aF):Option Bool:=some (seq a0.1 a1.1)
def VZ:FSpec:=mkS XY Yu fun x=>qU x.1 x.2
def Yg:List MG:=[(false,(.dat y18)),(false,(.fn 102 [y17]))]
def YC:Ret:=⟨[(.tmp 4,uiM)],[]⟩
def b1A:Env:=⟨19,eqs,tt,gl,[(102,VZ)],[],[],[],[]⟩
def a5o:Ann:=.seq lfA (.seq (.seq lfA (.blk (.loopR [(4,6),(8,19)] ⟨[(8,uiM)],[]⟩ 0 ⟨[],[]⟩ lfA))) lfA)
def aX (a0:List aF) (a1:aF):Option Int:=o5 (P5 (fun(x:Int)=>l7 (ilt x (o8 a0))
 (o5 (lat a0 x) fun x_1=>o5 (qU x_1 a1) fun x_2=>l7 x_2 (some (.rt x)) (some (.nx (x9
 .i64 x 1)))) (some (.ex ()))) 0) fun o=>U7 o (fun(y:PUnit)=>some (-1)) fun r=>some r
def a3D:FSpec:=mkS Yg YC fun x=>aX x.1 x.2
def XZ:List MG:=[(false,(.dat y18)),(false,(.fn 102 [y17]))]
def Yv:Ret:=⟨[(.tmp 4,ubM)],[]⟩
def b1t:Env:=⟨9,eqs,tt,gl,[(125,a3D)],[],[],[],[]⟩
def a5h:Ann:=.leaf
def P9 (a0:List aF) (a1:aF):Option Bool:=o5 (aX a0 a1) fun
 (x:Int)=>some (ile 0 x)
def a3y:FSpec:=mkS XZ Yv fun x=>P9 x.1 x.2
def b6P:List MG:=[(true,(.dat y34)),(true,(.dat y17)),(false,(.dat y18)),(false,(.dat y18))]
def b8m:Ret:=⟨[(.tmp 8,uiM)],[]⟩
def e81:Env:=⟨32,eqs,tt,gl,[(102,VZ),(49,s49),(103,a3y),(66,s66)],[],[],[],[]⟩
def c2d:Ann:=.leaf
def lI (a0:J3) (a1:aF) (a2:List aF) (a3:List aF):Option Int:=o5 (Z8 a1.1) fun x=>
 l7 (E5 x) (some 2) (o5 (P9 a2 a1) fun x=>l7 x (some 7) (o5
 (P9 a3 a1) fun x=>l7 x (some 7) (o5 (ah a1.2 a0.1) fun x=>l7 (E5
 x) (some 8) (some 0))))
def s81:FSpec:=mkS b6P b8m fun x=>lI x.1 x.2.1 x.2.2.1 x.2.2.2
def a7c:List MG:=[(false,(.dat y18))]
def a8D:Ret:=⟨[(.tmp 2,(false,(.own y0)))],[]⟩
def c2t:Env:=⟨19,eqs,tt,gl,[],[],[],[],[]⟩
def b3x:Ann:=.seq lfA (.seq lfA (.seq (.seq lfA (.blk (.loop [(3,4),(5,6),(8,18)] ⟨[(3,(false,(.own y0))),(8,uiM)],[]⟩ 0 ⟨[(3,(false,(.own y0)))],[]⟩ lfA))) lfA))
def jD (a0:List aF):Option (List I8):=o5 (U9 (fun(x:List I8×Int)=>l7 (ilt x.2 (o8 a0)) (o5 (lat a0
 x.2) fun x_1=>o5 (cO x.1 [x_1.2]) fun x_2=>some (.inl (x_2,x9 .i64 x.2 1))) (some (.inr x.1)))
 ([],0)) fun y=>some y
def b8A:FSpec:=mkS a7c a8D fun x=>jD x
def b6Q:List MG:=[(true,(.dat y34)),uiM]
def b8n:Ret:=⟨[(.cell 4 180,(true,(.dat y69)))],[]⟩
def e82:Env:=⟨45,eqs,tt,gl,[(104,b8A)],[],[],[],[]⟩
def c2e:Ann:=.leaf
def jo (a0:J3) (a1:Int):Option H6:=o5 (lat a0.2.2 a1) fun x=>o5 (jD x.2.2.1) fun
 (x_1:List I8)=>o5 (jD x.2.2.2.1) fun x_2=>l7 (ile 0 x.2.1) (l7 (ilt x.2.1 (o8 a0.2.2)) (o5 (lat
 a0.2.2 x.2.1) fun x=>o5 (jD x.2.2.2.1) fun x=>some (a0.1,a0.2.1,x_1,x_2,x,true)) (some (a0.1,
 a0.2.1,x_1,x_2,[],false))) (some (a0.1,a0.2.1,x_1,x_2,[],false))
def s82:FSpec:=mkS b6Q b8n fun x=>jo x.1 x.2
def Yb:List MG:=[(true,(.dat y26)),(false,(.rp y26))]
def Yx:Ret:=⟨[(.tmp 3,ubM)],[]⟩
def b1v:Env:=⟨9,eqs,tt,gl,[],[],[],[],[]⟩
def a5j:Ann:=.leaf
def sO (a0:N9) (a1:N9):Option Bool:=some (seq a0.1 a1.1)
def We:FSpec:=mkS Yb Yx fun x=>sO x.1 x.2
def Yh:List MG:=[(false,(.dat y27)),(false,(.fn 106 [y26]))]
def YD:Ret:=⟨[(.tmp 4,uiM)],[]⟩
def b1B:Env:=⟨19,eqs,tt,gl,[(106,We)],[],[],[],[]⟩
def a5p:Ann:=.seq lfA (.seq (.seq lfA (.blk (.loopR [(4,6),(8,19)] ⟨[(8,uiM)],[]⟩ 0 ⟨[],[]⟩ lfA))) lfA)
def bQ (a0:List N9) (a1:N9):Option Int:=o5 (P5 (fun(x:Int)=>l7 (ilt x (o8 a0)) (o5
 (lat a0 x) fun x_1=>o5 (sO x_1 a1) fun x_2=>l7 x_2 (some (.rt x)) (some (.nx (x9 .i64 x
 1)))) (some (.ex ()))) 0) fun o=>U7 o (fun(y:PUnit)=>some (-1)) fun r=>some r
def a3E:FSpec:=mkS Yh YD fun x=>bQ x.1 x.2
def Ya:List MG:=[(false,(.dat y27)),(false,(.fn 106 [y26]))]
def Yw:Ret:=⟨[(.tmp 4,ubM)],[]⟩
def b1u:Env:=⟨9,eqs,tt,gl,[(126,a3E)],[],[],[],[]⟩
def a5i:Ann:=.leaf
def X8 (a0:List N9) (a1:N9):Option Bool:=o5 (bQ a0 a1) fun(x:
 Int)=>some (ile 0 x)
def a3z:FSpec:=mkS Ya Yw fun x=>X8 x.1 x.2
def b5I:List MG:=[(false,(.dat .str)),(false,(.dat .str))]
def b8J:FSpec:=⟨b5I,[ubM],[],fun x=>mY x.1 x.2⟩
def a7d:List MG:=[(false,(.dat .str))]
def a8E:Ret:=⟨[(.tmp 2,ubM)],[]⟩
def c2u:Env:=⟨27,eqs,tt,gl,[(127,b8J)],[],[],[],[]⟩
def b3y:Ann:=.seq lfA (.seq lfA (.seq (.seq lfA (.blk (.loopR [(2,4),(13,27)] ⟨[(13,uiM)],[]⟩ 0 ⟨[],[]⟩ lfA))) lfA))
def oq (a0:List UInt8):Option Bool:=l7 (ilt 64 (o8 a0)) (some false) (o5 (mY a0 [34]) fun x=>l7 x
 (some false) (o5 (P5 (fun(x:Int)=>l7 (ilt x (o8 a0)) (o5 (sat a0 x) fun x_1=>l7 (ilt x_1 32) (some (.rt false))
 (o5 (sat a0 x) fun x_2=>l7 (ilt 126 x_2) (some (.rt false)) (some (.nx (x9 .i64 x 1))))) (some (.ex ())))
 0) fun o=>U7 o (fun(y:PUnit)=>some true) fun r=>some r))
def b8B:FSpec:=mkS a7d a8E fun x=>oq x
def a7r:List MG:=[uiM]
def a8S:Ret:=⟨[(.tmp 2,uiM)],[]⟩
def c2M:Env:=⟨47,eqs,tt,gl,[],[],[],[],[]⟩
def b3N:Ann:=.seq lfA (.seq (.seq lfA (.blk (.seq (.join [(4,19)] ⟨[(4,ubM)],[]⟩ lfA) (.cond lfA (.seq (.join [(19,26)] ⟨[(19,ubM)],[]⟩ lfA) (.cond lfA (.seq (.join [(26,45)] ⟨[(26,ubM)],[]⟩ lfA) lfA))))))) lfA)
def fE (a0:Int):Option Int:=o5 (l7 (ieq a0 1) (some (ieq a0 1)) (l7 (ieq a0 2) (some (ieq a0 2)) (l7 (ieq a0 3) (some (ieq
 a0 3)) (l7 (ieq a0 4) (some (ieq a0 4)) (l7 (ieq a0 5) (some (ieq a0 5)) (l7 (ieq a0 6) (some (ieq a0 6)) (l7 (ieq a0 7) (some (ieq a0
 7)) (l7 (ieq a0 8) (some (ieq a0 8)) (l7 (ieq a0 9) (some (ieq a0 9)) (l7 (ieq a0 35) (some (ieq a0 35)) (l7 (ieq a0 36) (some (ieq a0
 36)) (l7 (ieq a0 37) (some (ieq a0 37)) (l7 (ieq a0 38) (some (ieq a0 38)) (some (ieq a0 39))))))))))))))) fun x=>l7 x (some 0)
 (o5 (l7 (ieq a0 10) (some (ieq a0 10)) (l7 (ieq a0 25) (some (ieq a0 25)) (l7 (ieq a0 31) (some (ieq a0 31)) (l7 (ieq a0 32) (some
 (ieq a0 32)) (l7 (ieq a0 33) (some (ieq a0 33)) (some (ieq a0 34))))))) fun x=>l7 x (some 1) (o5 (l7 (ieq a0 11) (some (ieq a0
 11)) (l7 (ieq a0 12) (some (ieq a0 12)) (l7 (ieq a0 13) (some (ieq a0 13)) (l7 (ieq a0 14) (some (ieq a0 14)) (l7 (ieq a0 15) (some (ieq
 a0 15)) (l7 (ieq a0 16) (some (ieq a0 16)) (l7 (ieq a0 17) (some (ieq a0 17)) (l7 (ieq a0 18) (some (ieq a0 18)) (l7 (ieq a0 19) (some
 (ieq a0 19)) (l7 (ieq a0 20) (some (ieq a0 20)) (l7 (ieq a0 21) (some (ieq a0 21)) (l7 (ieq a0 22) (some (ieq a0 22)) (l7 (ieq a0 23)
 (some (ieq a0 23)) (l7 (ieq a0 24) (some (ieq a0 24)) (l7 (ieq a0 27) (some (ieq a0 27)) (l7 (ieq a0 28) (some (ieq a0 28)) (l7 (ieq a0
 29) (some (ieq a0 29)) (some (ieq a0 30))))))))))))))))))) fun x=>l7 x (some 2) (l7 (ieq a0 26) (some 3) (some (-1)))))
def a0n:FSpec:=mkS a7r a8S fun x=>fE x
def a7k:List MG:=[(false,(.dat y19))]
def a8L:Ret:=⟨[(.tmp 2,uoM),(.tmp 3,uiM),(.tmp 4,uiM)],[]⟩
def c2C:Env:=⟨76,eqs,tt,gl,[(141,a0n)],[],[],[],[]⟩
def b3F:Ann:=.seq lfA (.seq lfA (.seq lfA (.seq lfA (.seq lfA (.seq (.seq lfA (.blk (.loopR [(2,10),(21,70),(27001152,27001153)] ⟨[(5,uoM),(6,uoM),(21,uiM)],[]⟩ 0 ⟨[(5,uoM),(6,uoM)],[]⟩ lfA))) lfA)))))
def lD (a0:List I8):Option (List Int×I8):=l7 (ilt 48 (o8 a0)) (some ([],0,4)) (l7 (ieq (o8 a0) 0) (some ([],0,
 5)) (o5 (jg (o8 a0) 0) fun x=>o5 (P5 (fun(x:List Int×List Int×Int)=>l7 (ilt x.2.2 (o8 a0)) (o5 (lat a0
 x.2.2) fun x_1=>o5 (fE x_1.1) fun x_2=>l7 (ilt x_2 0) (some (.rt ([],x.2.2,2))) (l7 (ilt (o8 x.2.1)
 x_2) (some (.rt ([],x.2.2,5))) (o5 (lat x.1 x.2.2) fun x_3=>o5 (J9 x.1 (toN x.2.2)) fun x_4=>l7 (ilt 0 x_2)
 (o5 (lat x.2.1 (G8 .i64 (o8 x.2.1) x_2)) fun x_5=>o5 (J9 x.2.1 (toN (G8 .i64 (o8 x.2.1) x_2))) fun(x_6:
 Int)=>o5 (lat (P8 x.1 (toN x.2.2) x.2.2) x.2.2) fun x_7=>o5 (J9 (P8 x.1 (toN x.2.2) x.2.2) (toN x.2.2)) fun x_8=>
 l7 (jf 0 (G8 .i64 (o8 x.2.1) x_2) (o8 x.2.1)) (o5 (lat (P8 (P8 x.1 (toN x.2.2) x.2.2) (toN x.2.2) x_6) x.2.2) fun(x_9:
 Int)=>o5 (J9 (P8 (P8 x.1 (toN x.2.2) x.2.2) (toN x.2.2) x_6) (toN x.2.2)) fun x_10=>o5 (cO (gp x.2.1 (toN 0) (toN (G8
 .i64 (o8 x.2.1) x_2))) [x_10]) fun x_11=>l7 (ilt 12 (o8 x_11)) (some (.rt ([],x.2.2,16))) (some (.nx (P8 (P8
 x.1 (toN x.2.2) x.2.2) (toN x.2.2) x_6,x_11,x9 .i64 x.2.2 1)))) none) (l7 (jf 0 (G8 .i64 (o8 x.2.1) x_2) (o8 x.2.1))
 (o5 (lat (P8 x.1 (toN x.2.2) x.2.2) x.2.2) fun x_5=>o5 (J9 (P8 x.1 (toN x.2.2) x.2.2) (toN x.2.2)) fun x_6=>o5
 (cO (gp x.2.1 (toN 0) (toN (G8 .i64 (o8 x.2.1) x_2))) [x_6]) fun x_7=>l7 (ilt 12 (o8 x_7)) (some (.rt ([],
 x.2.2,16))) (some (.nx (P8 x.1 (toN x.2.2) x.2.2,x_7,x9 .i64 x.2.2 1)))) none)))) (some (.ex (x.1,x.2.1)))) (x,[],0)) fun(o:
 List Int×List Int⊕List Int×I8)=>U7 o (fun(y:List Int×List Int)=>l7 (ilt 1 (o8 y.2)) (some ([],o8 a0,4)) (some (y.1,0,
 0))) fun r=>some r))
def b1Y:FSpec:=mkS a7k a8L fun x=>lD x
def a7y:List MG:=[uiM]
def a8Z:Ret:=⟨[(.tmp 2,ubM)],[]⟩
def c2V:Env:=⟨22,eqs,tt,gl,[],[],[],[],[]⟩
def b3V:Ann:=.leaf
def bM (a0:Int):Option Bool:=l7 (ieq a0 1) (l7 (ieq a0 1) (some true) (some false)) (l7 (ieq a0 2) (l7 (ieq a0 2) (some
 true) (some false)) (l7 (ieq a0 3) (l7 (ieq a0 3) (some true) (some false)) (l7 (ieq a0 4) (l7 (ieq a0 4) (some true) (some false))
 (l7 (ieq a0 5) (l7 (ieq a0 5) (some true) (some false)) (l7 (ieq a0 6) (l7 (ieq a0 6) (some true) (some false)) (l7 (ieq a0 7) (l7
 (ieq a0 7) (some true) (some false)) (l7 (ieq a0 8) (l7 (ieq a0 8) (some true) (some false)) (l7 (ieq a0 14) (l7 (ieq a0 14) (some true)
 (some false)) (l7 (ieq a0 15) (l7 (ieq a0 15) (some true) (some false)) (l7 (ieq a0 16) (l7 (ieq a0 16) (some true) (some false)) (l7
 (ieq a0 33) (l7 (ieq a0 33) (some true) (some false)) (l7 (ieq a0 34) (l7 (ieq a0 34) (some true) (some false)) (l7 (ieq a0 36) (l7
 (ieq a0 36) (some true) (some false)) (l7 (ieq a0 37) (l7 (ieq a0 37) (some true) (some false)) (l7 (ieq a0 38) (l7 (ieq a0 38) (some
 true) (some false)) (l7 (ieq a0 39) (some true) (some false)))))))))))))))))
def b1Z:FSpec:=mkS a7y a8Z fun x=>bM x
def a7L:List MG:=[uiM,uiM,(true,(.dat y69))]
def a9m:Ret:=⟨[(.cell 6 98,(true,(.dat y0))),(.tmp 7,uiM)],[]⟩
def c3i:Env:=⟨30,eqs,tt,gl,[(67,s67)],[],[],[],[]⟩
def b4i:Ann:=.leaf
def bW (a0:Int) (a1:Int) (a2:H6):Option (I8×Int):=o5 (iR (a1,0) a2.1) fun x=>l7 (ilt
 a0 x.1) (some ((0,0),3)) (l7 (ilt x.2 a0) (some ((0,0),3)) (some ((a1,0),0)))
def b9c:FSpec:=mkS a7L a9m fun x=>bW x.1 x.2.1 x.2.2
def a7M:List MG:=[uiM,(true,(.dat y69))]
def a9n:Ret:=⟨[(.cell 4 98,(true,(.dat y0))),(.tmp 5,uiM)],[]⟩
def c3j:Env:=⟨34,eqs,tt,gl,[],[],[],[],[]⟩
def b4j:Ann:=.leaf
def rH (a0:Int) (a1:H6):Option (I8×Int):=l7 (ilt a0 0) (some ((0,0),3)) (l7 (ile (o8 a1.1) (az .i64
 a0 16)) (some ((0,0),6)) (o5 (lat a1.1 (az .i64 a0 16)) fun x=>l7 (ile (o8 x.2) (dH a0 16)) (some ((0,0),6)) (some
 ((6,az .i64 a0 16),0))))
def b9d:FSpec:=mkS a7M a9n fun x=>rH x.1 x.2
def a7N:List MG:=[uiM,(false,(.dat y19)),(true,(.dat y69))]
def a9o:Ret:=⟨[(.cell 6 98,(true,(.dat y0))),(.tmp 7,uiM)],[]⟩
def c3k:Env:=⟨30,eqs,tt,gl,[(66,s66)],[],[],[],[]⟩
def b4k:Ann:=.leaf
def bJ (a0:Int) (a1:List I8) (a2:H6):Option (I8×Int):=l7 (ilt a0 0) (some ((0,0),6)) (l7 (ile (o8 a1)
 a0) (some ((0,0),6)) (o5 (lat a1 a0) fun x=>o5 (ah x a2.1) fun x=>l7 (E5 x) (some ((0,0),8))
 (o5 (lat a1 a0) fun x=>some (x,0))))
def b2c:FSpec:=mkS a7N a9o fun x=>bJ x.1 x.2.1 x.2.2
def a7Q:List MG:=[uiM]
def a9r:Ret:=⟨[(.tmp 2,ubM)],[]⟩
def c3o:Env:=⟨9,eqs,tt,gl,[],[],[],[],[]⟩
def b4n:Ann:=.leaf
def dZ (a0:Int):Option Bool:=l7 (ile 0 a0) (some (ile a0 5)) (some false)
def b2d:FSpec:=mkS a7Q a9r fun x=>dZ x
def a7O:List MG:=[(true,(.dat y0)),(true,(.dat y0)),(true,(.dat y69))]
def a9p:Ret:=⟨[(.cell 6 98,(true,(.dat y0))),(.tmp 7,uiM)],[]⟩
def c3l:Env:=⟨84,eqs,tt,gl,[(175,b2d),(66,s66)],[],[],[],[]⟩
def b4l:Ann:=.seq lfA (.seq lfA (.seq (.joinR [(6,9),(13,30),(4000384,4000385)] ⟨[(6,(false,(.box (.dat y0)))),(8,uiM)],[]⟩ lfA) (.seq (.joinR [(6,8),(30,40),(9000000,9000001)] ⟨[(6,(false,(.box (.dat y0))))],[]⟩ lfA) (.seq lfA (.seq (.joinR [(6,8),(52,70),(27000000,27000001)] ⟨[(6,(false,(.box (.dat y0))))],[]⟩ lfA) lfA)))))
def jA (a0:I8) (a1:I8) (a2:H6):Option (I8×Int):=o5 (l7 (ieq a0.1 34) (l7 (ilt a0.2 0) (some (.inr
 ((0,0),3))) (o5 (dZ (dH a0.2 8)) fun x=>l7 (E5 x) (some (.inr ((0,0),3))) (some (.inl ((0,0),az
 .i64 a0.2 8))))) (some (.inl ((0,0),a0.2)))) fun o=>U7 o (fun(x:I8×Int)=>o5 (l7 (ilt
 x.2 0) (some (.inr ((0,0),6))) (l7 (ile (o8 a2.2.1) x.2) (some (.inr ((0,0),6))) (some (.inl x.1)))) fun o
 =>U7 o (fun(x_1:I8)=>o5 (lat a2.2.1 x.2) fun x_2=>o5 (lat a2.2.1 x.2) fun x=>o5 (o5 (ah
 x_2.2.1 a2.1) fun x_3=>l7 (E5 x_3) (some (.inr ((0,0),8))) (o5 (ah x.2.2.1 a2.1) fun x=>l7 (E5
 x) (some (.inr ((0,0),8))) (l7 (E5 (U2 (ieq a1.1 x_2.2.1.1) (ieq a1.2 x_2.2.1.2))) (some (.inr ((0,0),8))) (some (.inl x_1)))))
 fun o=>U7 o (fun(x_3:I8)=>l7 (ieq a0.1 34) (l7 (E5 (ieq x_2.2.1.1 3)) (some ((0,0),8)) (l7 (E5
 (ieq x.2.2.1.1 4)) (some ((0,0),8)) (some (x_2.2.1,0)))) (some (x.2.2.1,0))) fun r=>some r) fun r=>some r)
 fun r=>some r
def b9e:FSpec:=mkS a7O a9p fun x=>jA x.1 x.2.1 x.2.2
def a8a:List MG:=[uiM]
def a9B:Ret:=⟨[(.tmp 2,ubM)],[]⟩
def c3y:Env:=⟨13,eqs,tt,gl,[],[],[],[],[]⟩
def b4x:Ann:=.leaf
def dR (a0:Int):Option Bool:=l7 (ieq a0 2) (some true) (l7 (ieq a0 3) (some true) (some (ieq a0 4)))
def b2g:FSpec:=mkS a8a a9B fun x=>dR x
def a7P:List MG:=[(true,(.dat y0)),(true,(.dat y69))]
def a9q:Ret:=⟨[(.cell 4 98,(true,(.dat y0))),(.tmp 5,uiM)],[]⟩
def c3n:Env:=⟨62,eqs,tt,gl,[(172,b2c),(191,b2g)],[],[],[],[]⟩
def b4m:Ann:=.seq lfA (.seq lfA (.seq lfA (.seq lfA (.seq lfA (.seq lfA (.seq (.join [(8,9),(30,58)] ⟨[(8,ubM)],[]⟩ lfA) lfA))))))
def iq (a0:I8) (a1:H6):Option (I8×Int):=l7 (E5 a1.2.2.2.2.2) (some ((0,0),6)) (l7 (ieq a0.1 35) (some
 ((2,0),0)) (o5 (bJ a0.2 a1.2.2.2.2.1 a1) fun x=>l7 (E5 (ieq x.2 0)) (some ((0,0),x.2)) (o5 (l7 (ieq
 a0.1 36) (l7 (ieq x.1.1 2) (some true) (some (ieq x.1.1 3))) (l7 (ieq a0.1 37) (l7 (ieq a0.1 37) (some (ieq x.1.1 1)) (l7 (ieq a0.1 39)
 (o5 (dR x.1.1) fun x_1=>l7 x_1 (some true) (some (ieq x.1.1 5))) (some false))) (l7 (ieq a0.1 38) (some (ieq x.1.1 1))
 (l7 (ieq a0.1 39) (o5 (dR x.1.1) fun x_1=>l7 x_1 (some true) (some (ieq x.1.1 5))) (some false))))) fun x_1
 =>l7 (E5 x_1) (some ((0,0),8)) (some (x.1,0)))))
def b9f:FSpec:=mkS a7P a9q fun x=>iq x.1 x.2
def a8b:List MG:=[uiM,uiM,uiM]
def a9C:Ret:=⟨[(.cell 6 98,(true,(.dat y0))),(.tmp 7,ubM)],[]⟩
def c3z:Env:=⟨47,eqs,tt,gl,[],[],[],[],[]⟩
def b4y:Ann:=.leaf
def wH (a0:Int) (a1:Int) (a2:Int):Option (I8×Bool):=l7 (ieq a0 14) (l7 (ieq a2 4) (l7 (ieq a1 3) (some ((a1,0),
 true)) (some ((a1,0),ieq a1 4))) (some ((a1,0),false))) (l7 (ieq a2 2) (l7 (ieq a1 2) (some ((a1,0),true)) (some ((a1,0),ieq a1 3)))
 (l7 (ieq a0 15) (l7 (ieq a1 3) (l7 (ieq a2 3) (some ((4,0),true)) (some ((0,0),false))) (some ((0,0),false))) (some ((0,0),false))))
def b9l:FSpec:=mkS a8b a9C fun x=>wH x.1 x.2.1 x.2.2
def a7R:List MG:=[uiM,(false,(.dat y19))]
def a9s:Ret:=⟨[(.cell 4 98,(true,(.dat y0))),(.tmp 5,ubM)],[]⟩
def c3p:Env:=⟨222,eqs,tt,gl,[(191,b2g),(192,b9l)],[],[],[],[]⟩
def b4o:Ann:=.seq lfA (.seq lfA (.seq (.joinR [(4,6),(8,221),(4000256,4000257)] ⟨[(4,(false,(.box (.dat y0))))],[]⟩ (.seq lfA (.blk (.seq lfA (.cond lfA (.seq lfA (.cond lfA (.seq (.join [(27,30)] ⟨[(27,ubM)],[]⟩ lfA) (.cond lfA (.seq (.join [(47,51)] ⟨[(47,ubM)],[]⟩ lfA) (.cond lfA (.seq lfA (.cond lfA (.seq (.join [(80,83)] ⟨[(80,ubM)],[]⟩ lfA) (.cond lfA (.seq (.join [(107,110)] ⟨[(107,ubM)],[]⟩ lfA) (.cond lfA (.seq (.join [(118,121)] ⟨[(118,ubM)],[]⟩ lfA) (.cond lfA (.seq (.join [(143,146)] ⟨[(143,ubM)],[]⟩ lfA) (.cond lfA (.seq lfA (.cond lfA (.seq (.join [(178,181)] ⟨[(178,ubM)],[]⟩ lfA) lfA)))))))))))))))))))))))) lfA))
def fG (a0:Int) (a1:List I8):Option (I8×Bool):=o5 (l7 (ieq a0 10) (o5 (lat a1 0) fun x=>o5 (lat
 a1 0) fun x_1=>o5 (dR x_1.1) fun x_2=>some (.inr (x,x_2))) (l7 (ieq a0 25) (o5 (lat a1 0) fun(x:
 I8)=>some (.inr ((1,0),ieq x.1 1))) (o5 (l7 (ieq a0 11) (some (ieq a0 11)) (some (ieq a0 12))) fun x=>l7 x (o5 (lat
 a1 0) fun x=>o5 (lat a1 0) fun x_1=>o5 (lat a1 1) fun x_2=>l7 (U2 (ieq x_1.1 x_2.1) (ieq x_1.2 x_2.2))
 (o5 (lat a1 0) fun x_3=>o5 (dR x_3.1) fun x_4=>some (.inr (x,x_4))) (some (.inr (x,false)))) (o5
 (l7 (ieq a0 13) (some (ieq a0 13)) (l7 (ieq a0 14) (some (ieq a0 14)) (some (ieq a0 15)))) fun x=>l7 x (o5 (lat a1 0) fun(x:
 I8)=>o5 (lat a1 1) fun x_1=>o5 (wH a0 x.1 x_1.1) fun x=>some (.inr x)) (l7 (ieq a0 16)
 (o5 (lat a1 0) fun x=>o5 (lat a1 0) fun x_1=>l7 (ieq x_1.1 3) (o5 (lat a1 1) fun x_2=>some (.inr
 (x,ieq x_2.1 3))) (some (.inr (x,false)))) (o5 (l7 (ieq a0 17) (some (ieq a0 17)) (some (ieq a0 18))) fun x=>l7 x (o5
 (lat a1 0) fun x=>o5 (lat a1 0) fun x_1=>o5 (lat a1 1) fun x_2=>l7 (U2 (ieq x_1.1 x_2.1) (ieq x_1.2
 x_2.2)) (o5 (lat a1 0) fun x_3=>o5 (dR x_3.1) fun x_4=>l7 x_4 (some (.inr (x,true))) (o5 (lat a1 0)
 fun x_5=>some (.inr (x,ieq x_5.1 5)))) (some (.inr (x,false)))) (o5 (l7 (ieq a0 19) (some (ieq a0 19)) (some (ieq a0 20)))
 fun x=>l7 x (o5 (lat a1 0) fun x=>o5 (lat a1 1) fun x_1=>some (.inr ((1,0),U2 (ieq x.1 x_1.1) (ieq
 x.2 x_1.2)))) (o5 (l7 (ieq a0 21) (some (ieq a0 21)) (some (ieq a0 22))) fun x=>l7 x (o5 (lat a1 0) fun x=>o5
 (lat a1 1) fun x_1=>l7 (U2 (ieq x.1 x_1.1) (ieq x.2 x_1.2)) (o5 (lat a1 0) fun x=>o5 (dR x.1) fun(x:
 Bool)=>l7 x (some (.inr ((1,0),true))) (o5 (lat a1 0) fun x=>some (.inr ((1,0),ieq x.1 5)))) (some (.inr ((1,0),
 false)))) (o5 (l7 (ieq a0 23) (some (ieq a0 23)) (some (ieq a0 24))) fun x=>l7 x (o5 (lat a1 0) fun x=>l7 (ieq
 x.1 1) (o5 (lat a1 1) fun x=>some (.inr ((1,0),ieq x.1 1))) (some (.inr ((1,0),false)))) (l7 (ieq a0 26) (o5 (lat a1
 1) fun x=>o5 (lat a1 0) fun x_1=>l7 (ieq x_1.1 1) (o5 (lat a1 1) fun x_2=>o5 (lat a1 2) fun(x_3:
 I8)=>some (.inr (x,U2 (ieq x_2.1 x_3.1) (ieq x_2.2 x_3.2)))) (some (.inr (x,false)))) (o5 (l7 (ieq a0 27) (some (ieq a0 27))
 (some (ieq a0 28))) fun x=>l7 x (o5 (lat a1 0) fun x=>o5 (lat a1 0) fun x_1=>l7 (ieq x_1.1 5) (o5
 (lat a1 1) fun x_2=>some (.inr (x,ieq x_2.1 2))) (some (.inr (x,false)))) (l7 (ieq a0 29) (l7 (ieq a0 29) (o5 (lat a1 0)
 fun x=>l7 (ieq x.1 5) (o5 (lat a1 1) fun x=>some (.inr ((2,0),ieq x.1 5))) (some (.inr ((2,0),false))))
 (l7 (ieq a0 31) (l7 (ieq a0 31) (o5 (lat a1 0) fun x=>some (.inr ((2,0),ieq x.1 5))) (some (.inl (0,0)))) (l7 (ieq
 a0 32) (o5 (lat a1 0) fun x=>some (.inr ((2,0),ieq x.1 5))) (some (.inl (0,0)))))) (l7 (ieq a0 30) (o5 (lat a1 0) fun
 (x:I8)=>l7 (ieq x.1 5) (o5 (lat a1 1) fun x=>some (.inr ((2,0),ieq x.1 5))) (some (.inr ((2,0),false)))) (l7
 (ieq a0 31) (l7 (ieq a0 31) (o5 (lat a1 0) fun x=>some (.inr ((2,0),ieq x.1 5))) (some (.inl (0,0)))) (l7 (ieq a0 32)
 (o5 (lat a1 0) fun x=>some (.inr ((2,0),ieq x.1 5))) (some (.inl (0,0)))))))))))))))))) fun o=>
 U7 o (fun(x:I8)=>some ((0,0),false)) fun r=>some r
def b9g:FSpec:=mkS a7R a9s fun x=>fG x.1 x.2
def a7z:List MG:=[(true,(.dat y0)),(false,(.dat y19)),(true,(.dat y69))]
def a9a:Ret:=⟨[(.cell 6 98,(true,(.dat y0))),(.tmp 7,uiM)],[]⟩
def c2W:Env:=⟨125,eqs,tt,gl,[(170,b9c),(171,b9d),(172,b2c),(173,b9e),(174,b9f),(175,b2d),(176,b9g)],[],[],[],[]⟩
def b3W:Ann:=.seq lfA (.seq (.joinR [(6,8),(10,114),(4000384,4000385)] ⟨[(6,(false,(.box (.dat y0))))],[]⟩ (.seq lfA (.blk (.seq lfA (.cond lfA (.seq lfA (.cond lfA (.seq lfA (.cond lfA (.seq lfA (.cond lfA (.seq lfA (.cond lfA (.seq lfA (.cond lfA (.seq lfA (.cond lfA (.seq lfA (.cond lfA (.seq lfA (.cond lfA (.seq (.join [(83,86)] ⟨[(83,ubM)],[]⟩ lfA) (.cond lfA (.seq (.join [(94,100)] ⟨[(94,ubM)],[]⟩ lfA) lfA)))))))))))))))))))))))) lfA)
def O9 (a0:I8) (a1:List I8) (a2:H6):Option (I8×Int):=o5 (l7 (ieq a0.1 1) (o5 (bW a0.2 1
 a2) fun x=>some (.inr x)) (l7 (ieq a0.1 2) (o5 (bW a0.2 2 a2) fun x=>some (.inr x))
 (l7 (ieq a0.1 3) (o5 (bW a0.2 3 a2) fun x=>some (.inr x)) (l7 (ieq a0.1 4) (o5 (bW a0.2
 4 a2) fun x=>some (.inr x)) (l7 (ieq a0.1 5) (o5 (bW a0.2 5 a2) fun x=>some (.inr x))
 (l7 (ieq a0.1 6) (o5 (rH a0.2 a2) fun x=>some (.inr x)) (l7 (ieq a0.1 7) (o5 (bJ a0.2
 a2.2.2.1 a2) fun x=>some (.inr x)) (l7 (ieq a0.1 8) (o5 (bJ a0.2 a2.2.2.2.1 a2) fun x=>some
 (.inr x)) (l7 (ieq a0.1 9) (some (.inr ((5,0),0))) (o5 (l7 (ieq a0.1 33) (some (ieq a0.1 33)) (some (ieq a0.1 34))) fun x
 =>l7 x (o5 (lat a1 0) fun x=>o5 (jA a0 x a2) fun x=>some (.inr x)) (o5 (l7 (ieq a0.1 35)
 (some (ieq a0.1 35)) (l7 (ieq a0.1 36) (some (ieq a0.1 36)) (l7 (ieq a0.1 37) (some (ieq a0.1 37)) (l7 (ieq a0.1 38) (some (ieq a0.1 38))
 (some (ieq a0.1 39)))))) fun x=>l7 x (o5 (iq a0 a2) fun x=>some (.inr x)) (l7 (ieq a0.1 14)
 (l7 (ieq a0.1 14) (o5 (dZ a0.2) fun x=>l7 (E5 x) (some (.inr ((0,0),3))) (some (.inl (0,0)))) (some
 (.inl (0,0)))) (l7 (ieq a0.1 15) (l7 (ieq a0.1 15) (o5 (dZ a0.2) fun x=>l7 (E5 x) (some (.inr ((0,0),
 3))) (some (.inl (0,0)))) (some (.inl (0,0)))) (l7 (ieq a0.1 16) (o5 (dZ a0.2) fun x=>l7 (E5 x) (some
 (.inr ((0,0),3))) (some (.inl (0,0)))) (some (.inl (0,0))))))))))))))))) fun o=>U7 o (fun(x:I8)=>
 o5 (fG a0.1 a1) fun x=>l7 (E5 x.2) (some ((0,0),8)) (some (x.1,0))) fun r=>some r
def b8S:FSpec:=mkS a7z a9a fun x=>O9 x.1 x.2.1 x.2.2
def a7o:List MG:=[(false,(.dat y19)),(true,(.dat y69))]
def a8P:Ret:=⟨[(.cell 4 98,(true,(.dat y0))),(.tmp 5,uiM),(.tmp 6,uiM)],[]⟩
def c2I:Env:=⟨75,eqs,tt,gl,[(120,b1Y),(150,b1Z),(141,a0n),(151,b8S)],[],[],[],[]⟩
def b3K:Ann:=.seq lfA (.seq lfA (.seq lfA (.seq lfA (.seq (.seq lfA (.blk (.loopR [(4,7),(10,16),(29,72),(4000256,4000257)] ⟨[(4,(false,(.box (.dat y0)))),(10,(false,(.own y0))),(29,uiM)],[]⟩ 0 ⟨[(4,(false,(.box (.dat y0)))),(10,(false,(.own y0)))],[]⟩ lfA))) lfA))))
def vG (a0:List I8) (a1:H6):Option (I8×I8):=o5 (lD a0) fun x=>l7 (E5
 (ieq x.2.2 0)) (some ((0,0),x.2)) (o5 (P5 (fun(x:I8×List I8×Int)=>l7 (ilt x.2.2 (o8 a0)) (o5 (lat a0 x.2.2) fun(x_1:
 I8)=>l7 (E5 (ieq x_1.2 0)) (o5 (bM x_1.1) fun x_2=>l7 (E5 x_2) (some (.rt ((0,0),x.2.2,2))) (o5
 (fE x_1.1) fun x_3=>l7 (jf (G8 .i64 (o8 x.2.1) x_3) (o8 x.2.1) (o8 x.2.1)) (o5 (O9 x_1 (gp
 x.2.1 (toN (G8 .i64 (o8 x.2.1) x_3)) (toN (o8 x.2.1))) a1) fun x_4=>l7 (E5 (ieq x_4.2 0)) (some (.rt ((0,0),
 x.2.2,x_4.2))) (l7 (jf 0 (G8 .i64 (o8 x.2.1) x_3) (o8 x.2.1)) (o5 (cO (gp x.2.1 (toN 0) (toN (G8 .i64 (o8
 x.2.1) x_3))) [x_4.1]) fun x_5=>some (.nx (x.1,x_5,x9 .i64 x.2.2 1))) none)) none)) (o5 (fE x_1.1) fun(x_2
 :Int)=>l7 (jf (G8 .i64 (o8 x.2.1) x_2) (o8 x.2.1) (o8 x.2.1)) (o5 (O9 x_1 (gp x.2.1 (toN (G8 .i64
 (o8 x.2.1) x_2)) (toN (o8 x.2.1))) a1) fun x_3=>l7 (E5 (ieq x_3.2 0)) (some (.rt ((0,0),x.2.2,x_3.2))) (l7 (jf
 0 (G8 .i64 (o8 x.2.1) x_2) (o8 x.2.1)) (o5 (cO (gp x.2.1 (toN 0) (toN (G8 .i64 (o8 x.2.1) x_2))) [x_3.1]) fun(x_4:
 List I8)=>some (.nx (x.1,x_4,x9 .i64 x.2.2 1))) none)) none)) (some (.ex (x.1,x.2.1)))) ((0,0),[],0)) fun o=>U7 o (fun(y:I8×List I8)=>o5 (lat y.2 0) fun x=>o5 (J9 y.2 (toN 0)) fun x=>
 some (x,0,0)) fun r=>some r)
def b8K:FSpec:=mkS a7o a8P fun x=>vG x.1 x.2
def a7e:List MG:=[(false,(.dat y19)),(true,(.dat y69)),(true,(.dat y0))]
def a8F:Ret:=⟨[(.tmp 6,uiM)],[]⟩
def c2w:Env:=⟨23,eqs,tt,gl,[(128,b8K)],[],[],[],[]⟩
def b3z:Ann:=.leaf
def kH (a0:List I8) (a1:H6) (a2:I8):Option Int:=o5 (vG a0 a1) fun x=>l7 (E5
 (ieq x.2.2 0)) (some x.2.2) (l7 (E5 (U2 (ieq x.1.1 a2.1) (ieq x.1.2 a2.2))) (some 8) (some 0))
def b8C:FSpec:=mkS a7e a8F fun x=>kH x.1 x.2.1 x.2.2
def b6R:List MG:=[(true,(.dat y31)),uiM,(true,(.dat y69))]
def b8o:Ret:=⟨[(.tmp 6,uiM)],[]⟩
def e83:Env:=⟨145,eqs,tt,gl,[(49,s49),(106,We),(105,a3z),(107,b8B),(108,b8C)],[],[],[],[]⟩
def c2f:Ann:=.seq lfA (.seq lfA (.seq lfA (.seq (.seq lfA (.blk (.loop [(8,9),(10,11),(22,34)] ⟨[(8,uiM),(22,uiM)],[]⟩ 0 ⟨[(8,uiM)],[]⟩ lfA))) (.seq (.joinR [(6,8),(34,122),(7000448,7000449)] ⟨[(7,(false,(.rp y26)))],[]⟩ (.blk (.seq lfA (.cond lfA (.seq lfA (.cond lfA (.seq (.join [(46,58)] ⟨[(46,ubM)],[]⟩ lfA) (.cond lfA (.seq (.join [(58,85)] ⟨[(58,ubM)],[]⟩ lfA) (.cond lfA (.seq (.join [(85,94)] ⟨[(85,ubM)],[]⟩ lfA) lfA))))))))))) lfA))))
def rM (a0:A8) (a1:Int) (a2:H6):Option Int:=o5 (lat a0.2.2.2.2 a1) fun x=>o5 (zC a0.2.2.2.2 0 a1)
 fun x_1=>o5 (U9 (fun(x_2:I8)=>l7 (ilt x_2.2 (o8 x_1)) (o5 (lat x_1 x_2.2) fun x_3=>l7 (ieq
 x_3.2.1 x.2.1) (some (.inl (x9 .i64 x_2.1 1,x9 .i64 x_2.2 1))) (some (.inl (x_2.1,x9 .i64 x_2.2 1)))) (some
 (.inr x_2.1))) (0,0)) fun y=>o5 (o5 (Z8 x.1) fun x_2=>l7 (E5 x_2) (some (.inr 2)) (o5 (zC
 a0.2.2.2.2 0 a1) fun x_3=>o5 (X8 x_3 x) fun x_4=>l7 x_4 (some (.inr 7))
 (o5 (l7 (ilt x.2.1 0) (some true) (some (ile (o8 a0.2.2.2.1) x.2.1))) fun x_5=>l7 x_5 (some (.inr 6)) (o5 (l7 (E5
 (ieq x.2.2.1 (-1))) (l7 (ilt x.2.2.1 0) (some true) (l7 (ile a1 x.2.2.1) (some true) (o5 (lat a0.2.2.2.2 x.2.2.1) fun x_6=>some
 (E5 (ieq x_6.2.1 x.2.1))))) (some false)) fun x_6=>l7 x_6 (some (.inr 9)) (o5 (l7 (ilt x.2.2.2.1 0) (some true) (some (ilt 9
 x.2.2.2.1))) fun x_7=>l7 x_7 (some (.inr 3)) (l7 (ilt x.2.2.2.2.1.1 0) (some (.inr 3)) (l7 (ile x.2.2.2.2.1.2
 x.2.2.2.2.1.1) (some (.inr 3)) (l7 (ilt 109573 x.2.2.2.2.1.2) (some (.inr 3)) (l7 (ile 8 y) (some (.inr 4)) (o5 (oq
 x.2.2.2.2.2.2.2) fun x_8=>l7 (E5 x_8) (some (.inr 2)) (some (.inl x)))))))))))) fun o=>U7 o (fun(x:
 N9)=>l7 (ilt 0 (o8 x.2.2.2.2.2.1)) (o5 (kH x.2.2.2.2.2.1 a2 (1,0)) fun x_2=>l7 (E5 (ieq x_2 0)) (some x_2)
 (o5 (lat a0.2.2.2.1 x.2.1) fun x_3=>o5 (kH x.2.2.2.2.2.2.1 a2 x_3.2) fun x=>some x)) (o5 (lat a0.2.2.2.1
 x.2.1) fun x_2=>o5 (kH x.2.2.2.2.2.2.1 a2 x_2.2) fun x=>some x)) fun r=>some r
def s83:FSpec:=mkS b6R b8o fun x=>rM x.1 x.2.1 x.2.2
def c4g:List MG:=[(false,(.ownb (.int .i64)))]
def s87:FSpec:=⟨c4g,[],[uoM],fun x=>um x⟩
def c4h:List MG:=[uoM]
def s88:FSpec:=⟨c4h,[uoM],[],fun x=>iC x⟩
def b6U:List MG:=[uoM]
def b8r:Ret:=⟨[(.tmp 2,uoM)],[]⟩
def e86:Env:=⟨7,eqs,tt,gl,[(87,s87),(88,s88)],[],[],[],[]⟩
def c2i:Ann:=.leaf
def kF (a0:List Int):Option (List Int):=o5 (um a0) fun x=>o5 (iC x) fun x=>some x
def s86:FSpec:=mkS b6U b8r fun x=>kF x
def b6A:List MG:=[(false,(.dat y19))]
def b7X:Ret:=⟨[(.tmp 2,uoM),(.tmp 3,uoM),(.tmp 4,uoM)],[]⟩
def e58:Env:=⟨49,eqs,tt,gl,[(86,s86)],[],[],[],[]⟩
def c1N:Ann:=.seq lfA (.seq lfA (.seq (.seq lfA (.blk (.loop [(5,8),(9,10),(12,43)] ⟨[(5,uoM),(6,uoM),(7,uoM),(12,uiM)],[]⟩ 0 ⟨[(5,uoM),(6,uoM),(7,uoM)],[]⟩ lfA))) lfA))
def fF (a0:List I8):Option dh:=o5 (U9 (fun(x:List Int×List Int×List Int×Int)=>l7 (ilt x.2.2.2
 (o8 a0)) (o5 (lat a0 x.2.2.2) fun x_1=>l7 (ieq x_1.1 7) (o5 (cO x.1 [x_1.2]) fun x_2=>some (.inl (x_2,
 x.2.1,x.2.2.1,x9 .i64 x.2.2.2 1))) (l7 (ieq x_1.1 8) (o5 (cO x.2.1 [x_1.2]) fun x_2=>some (.inl (x.1,x_2,
 x.2.2.1,x9 .i64 x.2.2.2 1))) (l7 (ieq x_1.1 36) (l7 (ieq x_1.1 36) (o5 (cO x.2.2.1 [x_1.2]) fun x_2=>some
 (.inl (x.1,x.2.1,x_2,x9 .i64 x.2.2.2 1))) (some (.inl (x.1,x.2.1,x.2.2.1,x9 .i64 x.2.2.2 1)))) (l7 (ieq x_1.1 37)
 (l7 (ieq x_1.1 37) (o5 (cO x.2.2.1 [x_1.2]) fun x_2=>some (.inl (x.1,x.2.1,x_2,x9 .i64 x.2.2.2 1))) (some
 (.inl (x.1,x.2.1,x.2.2.1,x9 .i64 x.2.2.2 1)))) (l7 (ieq x_1.1 38) (l7 (ieq x_1.1 38) (o5 (cO x.2.2.1 [x_1.2]) fun(x_2:
 List Int)=>some (.inl (x.1,x.2.1,x_2,x9 .i64 x.2.2.2 1))) (some (.inl (x.1,x.2.1,x.2.2.1,x9 .i64 x.2.2.2 1)))) (l7
 (ieq x_1.1 39) (o5 (cO x.2.2.1 [x_1.2]) fun x_2=>some (.inl (x.1,x.2.1,x_2,x9 .i64 x.2.2.2 1))) (some (.inl
 (x.1,x.2.1,x.2.2.1,x9 .i64 x.2.2.2 1))))))))) (some (.inr (x.1,x.2.1,x.2.2.1)))) ([],[],[],0)) fun y=>o5
 (kF y.1) fun x=>o5 (kF y.2.1) fun x_1=>o5 (kF y.2.2) fun x_2=>
 some (x,x_1,x_2)
def s58:FSpec:=mkS b6A b7X fun x=>fF x
def b6T:List MG:=[(true,(.dat y26)),uiM]
def b8q:Ret:=⟨[(.tmp 4,uoM)],[]⟩
def e85:Env:=⟨67,eqs,tt,gl,[(58,s58)],[],[],[],[]⟩
def c2h:Ann:=.seq lfA (.seq lfA (.seq lfA (.seq lfA (.seq (.seq lfA (.blk (.loop [(5,6),(13,14),(32,48)] ⟨[(5,uoM),(32,uiM)],[]⟩ 0 ⟨[(5,uoM)],[]⟩ lfA))) (.seq (.seq lfA (.blk (.loop [(5,6),(15,16),(50,66),(21000000,21000001)] ⟨[(5,uoM),(50,uiM)],[]⟩ 2 ⟨[(5,uoM)],[]⟩ lfA))) lfA)))))
def jQ (a0:N9) (a1:Int):Option (List Int):=o5 (fF a0.2.2.2.2.2.1) fun x=>o5
 (fF a0.2.2.2.2.2.2.1) fun x_1=>o5 (U9 (fun(x_2:List Int×Int)=>l7 (ilt x_2.2 (o8 x.2.1)) (o5
 (lat x.2.1 x_2.2) fun x_3=>o5 (J9 x.2.1 (toN x_2.2)) fun x=>l7 (ile 0 x) (l7 (ilt x a1) (o5 (cO x_2.1 [x]) fun(x
 :List Int)=>some (.inl (x,x9 .i64 x_2.2 1))) (some (.inl (x_2.1,x9 .i64 x_2.2 1)))) (some (.inl (x_2.1,x9
 .i64 x_2.2 1)))) (some (.inr x_2.1))) ([],0)) fun y=>o5 (U9 (fun(x:List Int×Int)=>l7 (ilt x.2 (o8
 x_1.2.1)) (o5 (lat x_1.2.1 x.2) fun x_2=>o5 (J9 x_1.2.1 (toN x.2)) fun x_3=>l7 (ile 0 x_3) (l7 (ilt x_3 a1) (o5
 (cO x.1 [x_3]) fun x_4=>some (.inl (x_4,x9 .i64 x.2 1))) (some (.inl (x.1,x9 .i64 x.2 1)))) (some (.inl
 (x.1,x9 .i64 x.2 1)))) (some (.inr x.1))) (y,0)) fun y=>some y
def s85:FSpec:=mkS b6T b8q fun x=>jQ x.1 x.2
def b6B:List MG:=[uoM]
def b7Y:Ret:=⟨[(.tmp 2,uoM)],[]⟩
def e59:Env:=⟨7,eqs,tt,gl,[(87,s87),(88,s88)],[],[],[],[]⟩
def c1O:Ann:=.leaf
def pM (a0:List Int):Option (List Int):=o5 (um a0) fun x=>o5 (iC x) fun x=>some x
def s59:FSpec:=mkS b6B b7Y fun x=>pM x
def b6z:List MG:=[(true,(.dat y31))]
def b7W:Ret:=⟨[(.tmp 2,(false,(.dat y64)))],[]⟩
def e57:Env:=⟨58,eqs,tt,gl,[(85,s85),(59,s59)],[(150,oiM)],[7,36,50,53],[],[]⟩
def c1M:Ann:=.seq lfA (.seq lfA (.seq (.seq lfA (.blk (.loop [(3,4),(5,6),(15,44),(7000704,7000705)] ⟨[(3,(false,(.owns oiM))),(15,uiM)],[]⟩ 0 ⟨[(3,(false,(.owns oiM)))],[]⟩ lfA))) (.seq (.seq lfA (.blk (.loop [(3,4),(6,8),(44,45),(46,57),(15000000,15000001)] ⟨[(3,(false,(.owns oiM))),(46,uiM)],[(44,3)]⟩ 2 ⟨[(3,(false,(.owns oiM)))],[]⟩ lfA))) lfA)))
def jw (a0:A8):Option (List (List Int)):=o5 (jg (o8 a0.2.2.2.1) []) fun x=>o5 (U9 (fun(x:
 List (List Int)×Int)=>l7 (ilt x.2 (o8 a0.2.2.2.2)) (o5 (lat a0.2.2.2.2 x.2) fun x_1=>l7 (ile 0 x_1.2.1) (l7 (ilt
 x_1.2.1 (o8 x.1)) (l7 (inb x_1.2.1 (o8 x.1)) (o5 (J9 x.1 (toN x_1.2.1)) fun x_2=>o5 (jQ x_1 (o8 x.1))
 fun x_3=>o5 (cO x_2 x_3) fun x_4=>l7 (inb x_1.2.1 (o8 x.1)) (l7 (Dh (toN x_1.2.1) (toN x_1.2.1)) (o5
 (J9 x.1 (toN x_1.2.1)) fun x_5=>some (.inl (P8 x.1 (toN x_1.2.1) x_4,x9 .i64 x.2 1))) none) none) none) (some
 (.inl (x.1,x9 .i64 x.2 1)))) (some (.inl (x.1,x9 .i64 x.2 1)))) (some (.inr x.1))) (x,0)) fun y=>
 o5 (U9 (fun(x:List (List Int)×Int)=>l7 (ilt x.2 (o8 y)) (l7 (inb x.2 (o8 x.1)) (o5 (J9 x.1 (toN x.2)) fun x_1=>o5 (pM x_1) fun x_2=>l7 (inb x.2 (o8 x.1)) (l7 (Dh (toN x.2) (toN x.2)) (o5 (J9 x.1 (toN x.2))
 fun x_3=>some (.inl (P8 x.1 (toN x.2) x_2,x9 .i64 x.2 1))) none) none) none) (some (.inr x.1))) (y,0)) fun(y:
 List (List Int))=>some y
def s57:FSpec:=mkS b6z b7W fun x=>jw x
def b6y:List MG:=[(false,(.dat y64)),uiM]
def b7V:Ret:=⟨[(.tmp 4,uoM)],[]⟩
def e56:Env:=⟨62,eqs,tt,gl,[],[],[],[],[]⟩
def c1K:Ann:=.seq lfA (.seq lfA (.seq lfA (.seq (.blk (.loop [(5,8),(9,10),(18,48),(7000960,7000961),(10001088,10001089)] ⟨[(5,(false,(.own .bool))),(6,uoM)],[]⟩ 0 ⟨[(5,(false,(.own .bool)))],[]⟩ (.seq lfA (.blk (.seq lfA (.seq lfA (.seq lfA (.blk (.loop [(5,7),(9,10),(31,48),(14000000,14000002)] ⟨[(5,(false,(.own .bool))),(6,uoM),(31,uiM)],[]⟩ 2 ⟨[(5,(false,(.own .bool))),(6,uoM)],[]⟩ lfA))))))))) (.seq lfA (.seq (.seq lfA (.blk (.loop [(10,13),(50,61)] ⟨[(10,uoM),(50,uiM)],[]⟩ 4 ⟨[(10,uoM)],[]⟩ lfA))) lfA)))))
def lW (a0:List (List Int)) (a1:Int):Option (List Int):=o5 (jg (o8 a0) false) fun x=>o5 (U9 (fun(x:
 List Bool×List Int)=>l7 (ilt 0 (o8 x.2)) (o5 (lat x.2 0) fun x_1=>o5 (J9 x.2 (toN 0)) fun x_2=>l7 (jf 1
 (o8 x.2) (o8 x.2)) (o5 (lat a0 x_2) fun x_3=>o5 (U9 (fun(x:List Bool×List Int×Int)=>l7 (ilt x.2.2 (o8 x_3))
 (o5 (lat x_3 x.2.2) fun x_4=>o5 (lat x.1 x_4) fun x_5=>o5 (J9 x.1 (toN x_4)) fun x_6=>l7 (E5 x_6)
 (o5 (lat x.1 x_4) fun x_7=>o5 (J9 x.1 (toN x_4)) fun x_8=>o5 (cO x.2.1 [x_4]) fun x_9=>some
 (.inl (P8 x.1 (toN x_4) true,x_9,x9 .i64 x.2.2 1))) (some (.inl (x.1,x.2.1,x9 .i64 x.2.2 1)))) (some (.inr (x.1,
 x.2.1)))) (x.1,gp x.2 (toN 1) (toN (o8 x.2)),0)) fun y=>some (.inl y)) none) (some (.inr x.1))) (x,[a1]))
 fun y=>o5 (U9 (fun(x:List Int×Int)=>l7 (ilt x.2 (o8 y)) (o5 (lat y x.2) fun x_1=>o5 (J9 y (toN
 x.2)) fun x_2=>l7 x_2 (o5 (cO x.1 [x.2]) fun x_3=>some (.inl (x_3,x9 .i64 x.2 1))) (some (.inl
 (x.1,x9 .i64 x.2 1)))) (some (.inr x.1))) ([],0)) fun y=>some y
def s56:FSpec:=mkS b6y b7V fun x=>lW x.1 x.2
def b6i:List MG:=[(true,(.dat y31)),uiM]
def b7F:Ret:=⟨[(.tmp 4,uoM)],[]⟩
def e40:Env:=⟨18,eqs,tt,gl,[(57,s57),(56,s56)],[],[],[],[]⟩
def c1s:Ann:=.leaf
def dD (a0:A8) (a1:Int):Option (List Int):=l7 (ilt a1 0) (some []) (l7 (ile (o8 a0.2.2.2.1) a1) (some []) (o5
 (jw a0) fun x=>o5 (lW x a1) fun x=>some x))
def s40:FSpec:=mkS b6i b7F fun x=>dD x.1 x.2
def a7f:List MG:=[(false,(.dat y46)),uiM]
def a8G:Ret:=⟨[(.tmp 4,uiM)],[]⟩
def c2x:Env:=⟨19,eqs,tt,gl,[],[],[],[],[]⟩
def b3A:Ann:=.seq lfA (.seq (.seq lfA (.blk (.loopR [(4,6),(8,19)] ⟨[(8,uiM)],[]⟩ 0 ⟨[],[]⟩ lfA))) lfA)
def lU (a0:List Int) (a1:Int):Option Int:=o5 (P5 (fun(x:Int)=>l7 (ilt x (o8 a0)) (o5 (lat a0 x) fun(x_1
 :Int)=>l7 (ieq a1 x_1) (some (.rt x)) (some (.nx (x9 .i64 x 1)))) (some (.ex ()))) 0) fun o=>U7 o
 (fun(y:PUnit)=>some (-1)) fun r=>some r
def b8D:FSpec:=mkS a7f a8G fun x=>lU x.1 x.2
def b6S:List MG:=[(false,(.dat y46)),uiM]
def b8p:Ret:=⟨[(.tmp 4,ubM)],[]⟩
def e84:Env:=⟨9,eqs,tt,gl,[(109,b8D)],[],[],[],[]⟩
def c2g:Ann:=.leaf
def fC (a0:List Int) (a1:Int):Option Bool:=o5 (lU a0 a1) fun x=>some (ile 0 x)
def s84:FSpec:=mkS b6S b8p fun x=>fC x.1 x.2
def b6u:List MG:=[(true,(.dat y34)),uiM]
def b7R:Ret:=⟨[(.tmp 4,uiM),(.tmp 5,uiM)],[]⟩
def e52:Env:=⟨163,eqs,tt,gl,[(50,s50),(51,s51),(80,a3L),(79,b0k),(49,s49),(81,s81),(82,s82),(83,s83),(40,s40),(84,s84)],[],[],[],[]⟩
def c1G:Ann:=.seq lfA (.seq lfA (.seq lfA (.seq (.join [(6,7),(8,9),(28,45),(7000384,7000385)] ⟨[(6,(false,(.rp y31))),(8,ubM)],[]⟩ lfA) (.seq (.joinR [(4,6),(45,86)] ⟨[],[]⟩ (.blk (.seq lfA (.cond lfA (.seq lfA (.cond lfA (.seq (.join [(52,76)] ⟨[(52,ubM)],[]⟩ lfA) lfA))))))) (.seq (.seq lfA (.blk (.loopR [(4,6),(9,12),(89,107)] ⟨[(89,uiM)],[]⟩ 1 ⟨[],[]⟩ lfA))) (.seq (.seq lfA (.blk (.loopR [(4,6),(12,15),(110,130)] ⟨[(110,uiM)],[]⟩ 3 ⟨[],[]⟩ lfA))) (.seq lfA (.seq (.seq lfA (.blk (.loopR [(4,6),(16,18),(136,149)] ⟨[(136,uiM)],[]⟩ 5 ⟨[],[]⟩ lfA))) (.seq (.seq lfA (.blk (.loopR [(4,6),(18,19),(152,163)] ⟨[(152,uiM)],[]⟩ 7 ⟨[],[]⟩ lfA))) lfA)))))))))
def qc (a0:J3) (a1:Int):Option I8:=o5 (lat a0.2.2 a1) fun x=>o5 (zC a0.2.2 0 a1) fun x_1
 =>o5 (o5 (oU a0.1 x.1) fun x_2=>l7 x_2 (some (x,true)) (o5 (qf a0.2.1 x.1) fun x_3=>l7 x_3
 (some (x,true)) (o5 (X4 x_1 x) fun x_4=>some (x,x_4)))) fun x=>o5 (o5
 (Z8 x.1.1) fun x_2=>l7 (E5 x_2) (some (.inr (2,0))) (l7 x.2 (some (.inr (7,0))) (o5 (l7 (E5 (ieq
 x.1.2.1 (-1))) (l7 (ilt x.1.2.1 0) (some true) (l7 (ile a1 x.1.2.1) (some true) (o5 (lat x_1 x.1.2.1) fun x=>some (E5 (ieq
 x.2.1 (-1)))))) (some false)) fun x_3=>l7 x_3 (some (.inr (6,0))) (l7 (ilt 12 (o8 x.1.2.2.1)) (some (.inr (4,112))) (l7
 (ilt 12 (o8 x.1.2.2.2.1)) (some (.inr (4,212))) (some (.inl ()))))))) fun o=>U7 o (fun(x_2:PUnit)=>o5
 (P5 (fun(x_3:Int)=>l7 (ilt x_3 (o8 x.1.2.2.1)) (o5 (lat x.1.2.2.1 x_3) fun x_4=>o5 (zC x.1.2.2.1 0 x_3) fun(x:
 List aF)=>o5 (lI a0 x_4 x []) fun x=>l7 (E5 (ieq x 0)) (some (.rt (x,x9 .i64 100 x_3))) (some
 (.nx (x9 .i64 x_3 1)))) (some (.ex ()))) 0) fun o=>U7 o (fun(y:PUnit)=>o5 (P5 (fun(x_3:
 Int)=>l7 (ilt x_3 (o8 x.1.2.2.2.1)) (o5 (lat x.1.2.2.2.1 x_3) fun x_4=>o5 (zC x.1.2.2.2.1 0 x_3) fun x_5
 =>o5 (lI a0 x_4 x.1.2.2.1 x_5) fun x=>l7 (E5 (ieq x 0)) (some (.rt (x,x9 .i64 200 x_3))) (some (.nx
 (x9 .i64 x_3 1)))) (some (.ex ()))) 0) fun o=>U7 o (fun(y:PUnit)=>o5 (jo a0 a1)
 fun x_3=>o5 (P5 (fun(x_4:Int)=>l7 (ilt x_4 (o8 x.1.2.2.2.2)) (o5 (rM x.1 x_4 x_3) fun x=>
 l7 (E5 (ieq x 0)) (some (.rt (x,x9 .i64 300 x_4))) (some (.nx (x9 .i64 x_4 1)))) (some (.ex ()))) 0) fun(o
 :PUnit⊕I8)=>U7 o (fun(y:PUnit)=>o5 (P5 (fun(x_4:Int)=>l7 (ilt x_4 (o8 x.1.2.2.2.1)) (o5 (dD x.1 x_4)
 fun x=>o5 (fC x x_4) fun x=>l7 x (some (.rt (9,x9 .i64 200 x_4))) (some (.nx
 (x9 .i64 x_4 1)))) (some (.ex ()))) 0) fun o=>U7 o (fun(y:PUnit)=>some (0,0)) fun r=>some
 r) fun r=>some r) fun r=>some r) fun r=>some r) fun r=>some r
def s52:FSpec:=mkS b6u b7R fun x=>qc x.1 x.2
def b6d:List MG:=[(true,(.dat y34))]
def b7A:Ret:=⟨[(.cell 2 61,(true,(.dat y40)))],[]⟩
def e32:Env:=⟨31,eqs,tt,gl,[(52,s52)],[],[],[],[]⟩
def c1n:Ann:=.seq lfA (.seq lfA (.seq (.seq lfA (.blk (.loopR [(2,6),(14,30),(4000128,4000129)] ⟨[(2,(false,(.box (.dat y40)))),(14,uiM)],[]⟩ 0 ⟨[(2,(false,(.box (.dat y40))))],[]⟩ lfA))) lfA))
def og (a0:J3):Option U8:=l7 (ilt 4 (o8 a0.2.2)) (some (4,3,4,0)) (o5 (P5 (fun(x:U8×Int)=>
 l7 (ilt x.2 (o8 a0.2.2)) (o5 (qc a0 x.2) fun x_1=>l7 (E5 (ieq x_1.1 0)) (some (.rt (x_1.1,3,x.2,x_1.2)))
 (some (.nx (x.1,x9 .i64 x.2 1)))) (some (.ex x.1))) ((0,0,0,0),0)) fun o=>U7 o (fun(y:
 U8)=>some (0,0,0,0)) fun r=>some r)
def s32:FSpec:=mkS b6d b7A fun x=>og x
def b5O:List MG:=[(true,(.dat y34))]
def b7m:Ret:=⟨[(.cell 2 61,(true,(.dat y40)))],[]⟩
def e18:Env:=⟨19,eqs,tt,gl,[(30,s30),(31,s31),(32,s32)],[],[],[],[]⟩
def c0Y:Ann:=.leaf
def mi (a0:J3):Option U8:=o5 (pY a0) fun x=>l7 (E5 (ieq x.1 0)) (some x) (o5
 (oh a0) fun x=>l7 (E5 (ieq x.1 0)) (some x) (o5 (og a0) fun x=>some x))
def s18:FSpec:=mkS b5O b7m fun x=>mi x
def b6v:List MG:=[(false,(.dat (.sl .str))),(false,(.dat (.sl .str)))]
def b7S:Ret:=⟨[(.tmp 4,ubM)],[]⟩
def e53:Env:=⟨26,eqs,tt,gl,[],[],[],[],[]⟩
def c1H:Ann:=.seq lfA (.seq lfA (.seq (.seq lfA (.blk (.loopR [(4,6),(13,26)] ⟨[(13,uiM)],[]⟩ 0 ⟨[],[]⟩ lfA))) lfA))
def dA (a0:List (List UInt8)) (a1:List (List UInt8)):Option Bool:=l7 (E5 (ieq (o8 a0) (o8 a1))) (some false)
 (o5 (P5 (fun(x:Int)=>l7 (ilt x (o8 a0)) (o5 (lat a0 x) fun x_1=>o5 (lat a1 x) fun x_2=>l7
 (E5 (seq x_1 x_2)) (some (.rt false)) (some (.nx (x9 .i64 x 1)))) (some (.ex ()))) 0) fun o=>U7 o
 (fun(y:PUnit)=>some true) fun r=>some r)
def s53:FSpec:=mkS b6v b7S fun x=>dA x.1 x.2
def b6e:List MG:=[(true,(.dat y9)),(true,(.dat y9))]
def b7B:Ret:=⟨[(.tmp 4,ubM)],[]⟩
def e34:Env:=⟨17,eqs,tt,gl,[(53,s53)],[],[],[],[]⟩
def c1o:Ann:=.leaf
def mD (a0:bC) (a1:bC):Option Bool:=l7 (seq a0.1 a1.1) (o5 (dA a0.2 a1.2) fun x=>
 some x) (some false)
def s34:FSpec:=mkS b6e b7B fun x=>mD x.1 x.2
def a2C:List MG:=[(false,(.dat y10)),(false,(.dat y10)),(false,(.fn 34 []))]
def a3h:Ret:=⟨[(.tmp 6,ubM)],[]⟩
def b5h:Env:=⟨32,eqs,tt,gl,[(34,s34)],[],[],[],[]⟩
def b0G:Ann:=.seq lfA (.seq lfA (.seq (.seq lfA (.blk (.loopR [(6,10),(17,32)] ⟨[(17,uiM)],[]⟩ 0 ⟨[],[]⟩ lfA))) lfA))
def O0 (a0:List bC) (a1:List bC) (a2:Unit):Option Bool:=l7 (E5 (ieq (o8 a0)
 (o8 a1))) (some false) (o5 (P5 (fun(x:Int)=>l7 (ilt x (o8 a0)) (o5 (lat a0 x) fun x_1=>o5 (lat a1 x) fun(x_2:
 bC)=>o5 (mD x_1 x_2) fun x_3=>l7 (E5 x_3) (some (.rt false)) (some (.nx (x9 .i64 x 1)))) (some
 (.ex ()))) 0) fun o=>U7 o (fun(y:PUnit)=>some true) fun r=>some r)
def b0d:FSpec:=mkS a2C a3h fun x=>O0 x.1 x.2.1 x.2.2
def b6w:List MG:=[(false,(.dat y12)),(false,(.dat y12))]
def b7T:Ret:=⟨[(.tmp 4,ubM)],[]⟩
def e54:Env:=⟨26,eqs,tt,gl,[],[],[],[],[]⟩
def c1I:Ann:=.seq lfA (.seq lfA (.seq (.seq lfA (.blk (.loopR [(4,6),(13,26)] ⟨[(13,uiM)],[]⟩ 0 ⟨[],[]⟩ lfA))) lfA))
def bK (a0:List rW) (a1:List rW):Option Bool:=l7 (E5 (ieq (o8 a0) (o8 a1))) (some false) (o5 (P5
 (fun(x:Int)=>l7 (ilt x (o8 a0)) (o5 (lat a0 x) fun x_1=>o5 (lat a1 x) fun x_2=>l7 (E5 (U2 (ieq x_1.1.1
 x_2.1.1) (U2 (ieq x_1.1.2 x_2.1.2) (U2 (ieq x_1.2.1 x_2.2.1) (U2 (ieq x_1.2.2.1 x_2.2.2.1) (ieq x_1.2.2.2 x_2.2.2.2)))))) (some (.rt false))
 (some (.nx (x9 .i64 x 1)))) (some (.ex ()))) 0) fun o=>U7 o (fun(y:PUnit)=>some true) fun r
 =>some r)
def s54:FSpec:=mkS b6w b7T fun x=>bK x.1 x.2
def b6f:List MG:=[(true,(.dat y15)),(true,(.dat y15))]
def b7C:Ret:=⟨[(.tmp 4,ubM)],[]⟩
def e36:Env:=⟨31,eqs,tt,gl,[(54,s54)],[],[],[],[]⟩
def c1p:Ann:=.leaf
def kT (a0:Y4) (a1:Y4):Option Bool:=l7 (seq a0.1 a1.1) (l7 (U2 (ieq a0.2.1.1 a1.2.1.1) (ieq a0.2.1.2 a1.2.1.2))
 (l7 (U2 (ieq a0.2.2.1.1 a1.2.2.1.1) (ieq a0.2.2.1.2 a1.2.2.1.2)) (o5 (bK a0.2.2.2 a1.2.2.2) fun x=>some
 x) (some false)) (some false)) (some false)
def s36:FSpec:=mkS b6f b7C fun x=>kT x.1 x.2
def a2D:List MG:=[(false,(.dat y16)),(false,(.dat y16)),(false,(.fn 36 []))]
def a3i:Ret:=⟨[(.tmp 6,ubM)],[]⟩
def b5i:Env:=⟨32,eqs,tt,gl,[(36,s36)],[],[],[],[]⟩
def b0H:Ann:=.seq lfA (.seq lfA (.seq (.seq lfA (.blk (.loopR [(6,10),(17,32)] ⟨[(17,uiM)],[]⟩ 0 ⟨[],[]⟩ lfA))) lfA))
def L9 (a0:List Y4) (a1:List Y4) (a2:Unit):Option Bool:=l7 (E5 (ieq (o8
 a0) (o8 a1))) (some false) (o5 (P5 (fun(x:Int)=>l7 (ilt x (o8 a0)) (o5 (lat a0 x) fun x_1=>o5 (lat a1 x) fun
 (x_2:Y4)=>o5 (kT x_1 x_2) fun x_3=>l7 (E5 x_3) (some (.rt false)) (some (.nx (x9 .i64 x
 1)))) (some (.ex ()))) 0) fun o=>U7 o (fun(y:PUnit)=>some true) fun r=>some r)
def b0e:FSpec:=mkS a2D a3i fun x=>L9 x.1 x.2.1 x.2.2
def b6x:List MG:=[(false,(.dat y18)),(false,(.dat y18))]
def b7U:Ret:=⟨[(.tmp 4,ubM)],[]⟩
def e55:Env:=⟨26,eqs,tt,gl,[],[],[],[],[]⟩
def c1J:Ann:=.seq lfA (.seq lfA (.seq (.seq lfA (.blk (.loopR [(4,6),(13,26)] ⟨[(13,uiM)],[]⟩ 0 ⟨[],[]⟩ lfA))) lfA))
def X6 (a0:List aF) (a1:List aF):Option Bool:=l7 (E5 (ieq (o8 a0) (o8 a1))) (some false) (o5
 (P5 (fun(x:Int)=>l7 (ilt x (o8 a0)) (o5 (lat a0 x) fun x_1=>o5 (lat a1 x) fun x_2=>l7 (E5 (U2
 (seq x_1.1 x_2.1) (U2 (ieq x_1.2.1 x_2.2.1) (ieq x_1.2.2 x_2.2.2)))) (some (.rt false)) (some (.nx (x9 .i64 x 1)))) (some (.ex
 ()))) 0) fun o=>U7 o (fun(y:PUnit)=>some true) fun r=>some r)
def s55:FSpec:=mkS b6x b7U fun x=>X6 x.1 x.2
def b6g:List MG:=[(true,(.dat y31)),(true,(.dat y31))]
def b7D:Ret:=⟨[(.tmp 4,ubM)],[]⟩
def e38:Env:=⟨31,eqs,tt,gl,[(55,s55)],[],[],[],[]⟩
def c1q:Ann:=.leaf
def kS (a0:A8) (a1:A8):Option Bool:=l7 (seq a0.1 a1.1) (l7 (ieq a0.2.1 a1.2.1) (o5
 (X6 a0.2.2.1 a1.2.2.1) fun x=>l7 x (o5 (X6 a0.2.2.2.1 a1.2.2.2.1) fun(x
 :Bool)=>some x) (some false)) (some false)) (some false)
def s38:FSpec:=mkS b6g b7D fun x=>kS x.1 x.2
def a2E:List MG:=[(false,(.dat y32)),(false,(.dat y32)),(false,(.fn 38 []))]
def a3j:Ret:=⟨[(.tmp 6,ubM)],[]⟩
def b5j:Env:=⟨32,eqs,tt,gl,[(38,s38)],[],[],[],[]⟩
def b0I:Ann:=.seq lfA (.seq lfA (.seq (.seq lfA (.blk (.loopR [(6,10),(17,32)] ⟨[(17,uiM)],[]⟩ 0 ⟨[],[]⟩ lfA))) lfA))
def L8 (a0:List A8) (a1:List A8) (a2:Unit):Option Bool:=l7 (E5 (ieq (o8
 a0) (o8 a1))) (some false) (o5 (P5 (fun(x:Int)=>l7 (ilt x (o8 a0)) (o5 (lat a0 x) fun x_1=>o5 (lat a1 x) fun
 (x_2:A8)=>o5 (kS x_1 x_2) fun x_3=>l7 (E5 x_3) (some (.rt false)) (some (.nx (x9 .i64 x
 1)))) (some (.ex ()))) 0) fun o=>U7 o (fun(y:PUnit)=>some true) fun r=>some r)
def b0f:FSpec:=mkS a2E a3j fun x=>L8 x.1 x.2.1 x.2.2
def b5P:List MG:=[(true,(.dat y34)),(true,(.dat y34))]
def b7n:Ret:=⟨[(.tmp 4,ubM)],[]⟩
def e19:Env:=⟨24,eqs,tt,gl,[(33,b0d),(35,b0e),(37,b0f)],[],[],[],[]⟩
def c0Z:Ann:=.leaf
def gX (a0:J3) (a1:J3):Option Bool:=o5 (O0 a0.1 a1.1 ())
 fun x=>l7 x (o5 (L9 a0.2.1 a1.2.1 ()) fun x=>l7 x (o5
 (L8 a0.2.2 a1.2.2 ()) fun x=>some x) (some false)) (some false)
def s19:FSpec:=mkS b5P b7n fun x=>gX x.1 x.2
def b6C:List MG:=[(true,(.dat y34)),(false,(.dat y36)),(false,(.dat y18))]
def b7Z:Ret:=⟨[(.tmp 6,uiM),(.tmp 7,uiM)],[]⟩
def e60:Env:=⟨71,eqs,tt,gl,[(67,s67)],[],[],[],[]⟩
def c1P:Ann:=.seq lfA (.seq lfA (.seq lfA (.seq (.seq lfA (.blk (.loopR [(6,13),(29,71)] ⟨[(29,uiM)],[]⟩ 0 ⟨[],[]⟩ lfA))) lfA)))
def dY (a0:J3) (a1:List J6) (a2:List aF):Option I8:=l7 (ilt (o8 a1) (o8 a2)) (some (o8 a1,5))
 (l7 (ilt (o8 a2) (o8 a1)) (some (o8 a2,4)) (o5 (P5 (fun(x:Int)=>l7 (ilt x (o8 a1)) (o5 (lat a1 x) fun x_1=>
 o5 (lat a2 x) fun x_2=>l7 (E5 (ieq x_1.1 x_2.2.1)) (some (.rt (x,8))) (l7 (E5 (ieq x_1.2.1 x_2.2.2)) (some (.rt (x,
 8))) (o5 (iR x_2.2 a0.1) fun x_3=>l7 (ilt x_1.2.2 x_3.1) (some (.rt (x,3))) (l7 (ilt x_3.2 x_1.2.2) (some (.rt
 (x,3))) (some (.nx (x9 .i64 x 1))))))) (some (.ex ()))) 0) fun o=>U7 o (fun(y:PUnit)=>some (0,0))
 fun r=>some r))
def s60:FSpec:=mkS b6C b7Z fun x=>dY x.1 x.2.1 x.2.2
def b6D:List MG:=[(true,(.dat y34)),uiM]
def b8a:Ret:=⟨[(.tmp 4,(false,(.dat y18))),(.tmp 5,uiM)],[]⟩
def e61:Env:=⟨28,eqs,tt,gl,[],[],[],[],[]⟩
def c1Q:Ann:=.leaf
def gV (a0:J3) (a1:Int):Option (List aF×Int):=o5 (lat a0.2.2 a1) fun x=>l7 (ilt x.2.1 0) (some
 ([],0)) (l7 (ile (o8 a0.2.2) x.2.1) (some ([],0)) (o5 (lat a0.2.2 x.2.1) fun x=>some (x.2.2.1,8)))
def s61:FSpec:=mkS b6D b8a fun x=>gV x.1 x.2
def b6m:List MG:=[(true,(.dat y34)),uiM,(true,(.dat y39))]
def b7J:Ret:=⟨[(.tmp 6,uiM),(.tmp 7,uiM),(.tmp 8,uiM)],[]⟩
def e44:Env:=⟨84,eqs,tt,gl,[(60,s60),(61,s61)],[],[],[],[]⟩
def c1x:Ann:=.seq lfA (.seq (.joinR [(6,9),(17,26)] ⟨[],[]⟩ lfA) (.seq (.joinR [(6,9),(26,34)] ⟨[],[]⟩ lfA) (.seq lfA (.seq lfA (.seq lfA (.seq (.seq lfA (.blk (.loopR [(6,9),(13,17),(66,84)] ⟨[(66,uiM)],[]⟩ 0 ⟨[],[]⟩ lfA))) lfA))))))
def kN (a0:J3) (a1:Int) (a2:bz):Option J6:=o5 (l7 (ilt a1 0) (some (.inr (-1,-1,6))) (l7 (ile (o8
 a0.2.2) a1) (some (.inr (-1,-1,6))) (some (.inl ())))) fun o=>U7 o (fun(x:PUnit)=>o5 (l7 (ilt a2.1
 0) (some (.inr (-1,-1,3))) (l7 (ilt 109572 a2.1) (some (.inr (-1,-1,3))) (some (.inl ())))) fun o=>U7
 o (fun(x:PUnit)=>o5 (lat a0.2.2 a1) fun x=>o5 (dY a0 a2.2.1 x.2.2.1) fun x=>l7 (E5 (ieq
 x.2 0)) (some (-1,x)) (o5 (gV a0 a1) fun x=>l7 (ilt x.2 (o8 a2.2.2)) (some (x.2,-1,4)) (o5
 (P5 (fun(x_1:Int)=>l7 (ilt x_1 (o8 a2.2.2)) (o5 (lat a2.2.2 x_1) fun x_2=>o5 (dY a0 x_2 x.1)
 fun x=>l7 (E5 (ieq x.2 0)) (some (.rt (x_1,x))) (some (.nx (x9 .i64 x_1 1)))) (some (.ex ()))) 0) fun(o
 :PUnit⊕J6)=>U7 o (fun(y:PUnit)=>some (0,0,0)) fun r=>some r))) fun r=>some r) fun r=>some r
def s44:FSpec:=mkS b6m b7J fun x=>kN x.1 x.2.1 x.2.2
def b5W:List MG:=[(true,(.dat y34)),uiM,(true,(.dat y39)),ubM,uiM]
def b7t:Ret:=⟨[(.cell 10 49,(true,(.dat y40)))],[]⟩
def e25:Env:=⟨63,eqs,tt,gl,[(18,s18),(44,s44)],[],[],[],[]⟩
def c1g:Ann:=.seq lfA (.seq lfA (.seq (.joinR [(10,11),(21,49),(4000640,4000641)] ⟨[(10,(false,(.box (.dat y40))))],[]⟩ lfA) lfA))
def gW (a0:J3) (a1:Int) (a2:bz) (a3:Bool) (a4:Int):Option U8:=o5 (mi a0) fun(x:
 U8)=>l7 (E5 (ieq x.1 0)) (some (1,-1,-1,-1)) (o5 (l7 (ilt a1 0) (some (.inr (6,-1,-1,-1))) (l7 (ile (o8 a0.2.2)
 a1) (some (.inr (6,-1,-1,-1))) (l7 a3 (l7 (ilt a4 0) (some (.inr (6,-1,-1,-1))) (o5 (lat a0.2.2 a1) fun x=>l7
 (ile (o8 x.2.2.2.1) a4) (some (.inr (6,-1,-1,-1))) (some (.inl (0,0,0,0))))) (some (.inl (0,0,0,0)))))) fun o=>U7 o (fun(x:U8)=>o5 (kN a0 a1 a2) fun x=>l7 (E5 (ieq x.2.2 0)) (some (x.2.2,x.1,
 -1,-1)) (some (0,0,0,0))) fun r=>some r)
def s25:FSpec:=mkS b5W b7t fun x=>gW x.1 x.2.1 x.2.2.1 x.2.2.2.1 x.2.2.2.2
def b5X:List MG:=[(true,(.dat y34)),uiM]
def b7u:Ret:=⟨[(.tmp 4,(false,(.box (.pair (.dat y31) (.pair (.dat y31) (.pair (.own .bool) (.own .bool)))))))],[]⟩
def e26:Env:=⟨52,eqs,tt,gl,[],[],[],[],[]⟩
def c1h:Ann:=.leaf
def nY (a0:J3) (a1:Int):Option O8:=o5 (lat a0.2.2 a1) fun x=>o5 (jg (o8 x.2.2.2.1) false) fun
 (x_1:List Bool)=>l7 (ile 0 x.2.1) (o5 (lat a0.2.2 x.2.1) fun x_2=>o5 (jg (o8 x_2.2.2.2.1) false) fun x_3
 =>some (x,x_2,x_1,x_3)) (some (x,([],0,[],[],[]),x_1,[]))
def s26:FSpec:=mkS b5X b7u fun x=>nY x.1 x.2
def b6j:List MG:=[(true,(.dat y31)),uiM]
def b7G:Ret:=⟨[(.tmp 4,uoM)],[]⟩
def e41:Env:=⟨95,eqs,tt,gl,[(57,s57),(56,s56),(58,s58),(59,s59)],[],[],[],[]⟩
def c1t:Ann:=.seq lfA (.seq (.joinR [(4,5),(17,26)] ⟨[],[]⟩ lfA) (.seq lfA (.seq lfA (.seq (.seq lfA (.blk (.loop [(5,6),(7,8),(38,46),(17001856,17001857)] ⟨[(5,(false,(.own .bool))),(38,uiM)],[]⟩ 0 ⟨[(5,(false,(.own .bool)))],[]⟩ lfA))) (.seq lfA (.seq (.seq lfA (.blk (.loop [(8,9),(10,17),(49,93)] ⟨[(8,uoM),(49,uiM)],[]⟩ 2 ⟨[(8,uoM)],[]⟩ lfA))) lfA))))))
def kw (a0:A8) (a1:Int):Option (List Int):=o5 (l7 (ilt a1 0) (some (.inr [])) (l7 (ile (o8 a0.2.2.2.1) a1)
 (some (.inr [])) (some (.inl ())))) fun o=>U7 o (fun(x:PUnit)=>o5 (jg (o8 a0.2.2.2.1) false) fun
 (x:List Bool)=>o5 (lat x a1) fun x_1=>o5 (J9 x (toN a1)) fun x_2=>o5 (jw a0) fun x_3=>o5 (lW x_3 a1) fun x_4=>o5 (U9 (fun(x:List Bool×Int)=>l7 (ilt x.2 (o8 x_4)) (o5 (lat x_4
 x.2) fun x_5=>o5 (J9 x_4 (toN x.2)) fun x_6=>o5 (lat x.1 x_6) fun x_7=>o5 (J9 x.1 (toN x_6)) fun(x_8:
 Bool)=>some (.inl (P8 x.1 (toN x_6) true,x9 .i64 x.2 1))) (some (.inr x.1))) (P8 x (toN a1) true,0)) fun y=>
 o5 (U9 (fun(x:List Int×Int)=>l7 (ilt x.2 (o8 a0.2.2.2.2)) (o5 (lat a0.2.2.2.2 x.2) fun x_5=>l7 (ilt x_5.2.1 0)
 (some (.inl (x.1,x9 .i64 x.2 1))) (l7 (ile (o8 a0.2.2.2.1) x_5.2.1) (some (.inl (x.1,x9 .i64 x.2 1))) (o5 (lat y
 x_5.2.1) fun x_6=>o5 (J9 y (toN x_5.2.1)) fun x_7=>l7 (E5 x_7) (some (.inl (x.1,x9 .i64 x.2 1))) (o5
 (fF x_5.2.2.2.2.2.1) fun x_8=>o5 (fF x_5.2.2.2.2.2.2.1) fun x_9=>o5 (cO
 x.1 x_8.2.2) fun x_10=>o5 (cO x_10 x_9.2.2) fun x_11=>some (.inl (x_11,x9 .i64 x.2 1)))))) (some
 (.inr x.1))) ([],0)) fun y=>o5 (pM y) fun x=>some x) fun r=>some r
def s41:FSpec:=mkS b6j b7G fun x=>kw x.1 x.2
def b6n:List MG:=[(false,(.box (.pair (.dat y31) (.pair (.dat y31) (.pair (.own .bool) (.own .bool)))))),uiM]
def b7K:Ret:=⟨[],[(0,(true,(.pair (.dat y31) (.pair (.dat y31) (.pair (.own .bool) (.own .bool))))))]⟩
def e45:Env:=⟨30,eqs,tt,gl,[(40,s40)],[],[],[],[0]⟩
def c1y:Ann:=.seq lfA (.seq lfA (.blk (.loop [(0,1),(5,6),(19,30),(1000000,1000003)] ⟨[(0,(false,(.box (.pair (.dat y31) (.pair (.dat y31) (.pair (.own .bool) (.own .bool))))))),(19,uiM)],[]⟩ 0 ⟨[(0,(false,(.box (.pair (.dat y31) (.pair (.dat y31) (.pair (.own .bool) (.own .bool)))))))],[]⟩ lfA)))
def dI (a0:O8) (a1:Int):Option O8:=o5 (lat a0.2.2.2 a1) fun x=>o5 (J9 a0.2.2.2
 (toN a1)) fun x=>o5 (dD a0.2.1 a1) fun x=>o5 (U9 (fun(x_1:O8×Int)=>l7 (ilt x_1.2
 (o8 x)) (o5 (lat x x_1.2) fun x_2=>o5 (J9 x (toN x_1.2)) fun x=>o5 (lat x_1.1.2.2.2 x) fun x_3=>o5
 (J9 x_1.1.2.2.2 (toN x)) fun x_4=>some (.inl ((x_1.1.1,x_1.1.2.1,x_1.1.2.2.1,P8 x_1.1.2.2.2 (toN x) true),x9 .i64
 x_1.2 1))) (some (.inr x_1.1))) ((a0.1,a0.2.1,a0.2.2.1,P8 a0.2.2.2 (toN a1) true),0)) fun y=>some y
def s45:FSpec:=mkS b6n b7K fun x=>dI x.1 x.2
def b5Y:List MG:=[(false,(.box (.pair (.dat y31) (.pair (.dat y31) (.pair (.own .bool) (.own .bool)))))),uiM]
def b7v:Ret:=⟨[],[(0,(true,(.pair (.dat y31) (.pair (.dat y31) (.pair (.own .bool) (.own .bool))))))]⟩
def e27:Env:=⟨47,eqs,tt,gl,[(40,s40),(41,s41),(45,s45)],[],[],[],[0]⟩
def c1i:Ann:=.seq lfA (.seq (.seq lfA (.blk (.loop [(0,1),(5,6),(21,32),(1000000,1000003)] ⟨[(0,(false,(.box (.pair (.dat y31) (.pair (.dat y31) (.pair (.own .bool) (.own .bool))))))),(21,uiM)],[]⟩ 0 ⟨[(0,(false,(.box (.pair (.dat y31) (.pair (.dat y31) (.pair (.own .bool) (.own .bool)))))))],[]⟩ lfA))) (.seq lfA (.blk (.loop [(0,1),(7,8),(39,47),(12000000,12000003)] ⟨[(0,(false,(.box (.pair (.dat y31) (.pair (.dat y31) (.pair (.own .bool) (.own .bool))))))),(39,uiM)],[]⟩ 2 ⟨[(0,(false,(.box (.pair (.dat y31) (.pair (.dat y31) (.pair (.own .bool) (.own .bool)))))))],[]⟩ lfA))))
def jm (a0:O8) (a1:Int):Option O8:=o5 (lat a0.2.2.1 a1) fun x=>o5 (J9 a0.2.2.1 (toN
 a1)) fun x=>o5 (dD a0.1 a1) fun x=>o5 (U9 (fun(x_1:O8×Int)=>l7 (ilt x_1.2 (o8
 x)) (o5 (lat x x_1.2) fun x_2=>o5 (J9 x (toN x_1.2)) fun x=>o5 (lat x_1.1.2.2.1 x) fun x_3=>o5 (J9
 x_1.1.2.2.1 (toN x)) fun x_4=>some (.inl ((x_1.1.1,x_1.1.2.1,P8 x_1.1.2.2.1 (toN x) true,x_1.1.2.2.2),x9 .i64 x_1.2 1)))
 (some (.inr x_1.1))) ((a0.1,a0.2.1,P8 a0.2.2.1 (toN a1) true,a0.2.2.2),0)) fun y=>o5 (kw y.1 a1) fun(x
 :List Int)=>o5 (U9 (fun(x_1:O8×Int)=>l7 (ilt x_1.2 (o8 x)) (o5 (lat x x_1.2) fun x_2=>o5 (J9 x (toN
 x_1.2)) fun x=>o5 (dI x_1.1 x) fun x=>some (.inl (x,x9 .i64 x_1.2 1))) (some
 (.inr x_1.1))) (y,0)) fun y=>some y
def s27:FSpec:=mkS b5Y b7v fun x=>jm x.1 x.2
def Yj:List MG:=[(false,(.box oiM)),(false,(.ifc 3 diM))]
def YF:Ret:=⟨[],[(0,(true,oiM))]⟩
def b1D:Env:=⟨20,eqs,tt,gl,[],[],[],[],[0]⟩
def a5r:Ann:=.leaf
def pK (a0:List Int) (a1:Int):Option (List Int):=o5 (cO a0 [a1]) fun x=>some x
def a3H:FSpec:=mkS Yj YF fun x=>pK x.1 x.2
def b6V:List MG:=[(false,(.dat y46))]
def b8s:Ret:=⟨[(.tmp 2,uiM)],[]⟩
def e90:Env:=⟨5,eqs,tt,gl,[],[],[],[],[]⟩
def c2j:Ann:=.leaf
def bU (a0:List Int):Option Int:=some (o8 a0)
def s90:FSpec:=mkS b6V b8s fun x=>bU x
def a8z:List MG:=[(false,(.dat y46)),uiM,uiM]
def b0a:Ret:=⟨[(.tmp 6,ubM)],[]⟩
def c4a:Env:=⟨16,eqs,tt,gl,[],[],[],[],[]⟩
def b4W:Ann:=.leaf
def U5 (a0:List Int) (a1:Int) (a2:Int):Option Bool:=o5 (lat a0 a1) fun x=>o5 (lat a0 a2) fun x_1=>
 some (ilt x x_1)
def b2n:FSpec:=mkS a8z b0a fun x=>U5 x.1 x.2.1 x.2.2
def a8B:List MG:=[(false,(.ownb (.int .i64))),uiM,uiM]
def b0c:Ret:=⟨[],[(0,uoM)]⟩
def c4c:Env:=⟨20,eqs,tt,gl,[],[],[],[],[0]⟩
def b4Y:Ann:=.leaf
def V5 (a0:List Int) (a1:Int) (a2:Int):Option (List Int):=o5 (lat a0 a2) fun x=>o5 (J9 a0 (toN a2)) fun(x
 :Int)=>o5 (lat a0 a1) fun x_1=>o5 (J9 a0 (toN a1)) fun x_2=>o5 (lat a0 a1) fun x_3=>o5 (J9 a0 (toN
 a1)) fun x_4=>o5 (lat (P8 a0 (toN a1) x) a2) fun x_5=>o5 (J9 (P8 a0 (toN a1) x) (toN a2)) fun x_6=>some
 (P8 (P8 a0 (toN a1) x) (toN a2) x_2)
def a6w:FSpec:=mkS a8B b0c fun x=>V5 x.1 x.2.1 x.2.2
def Yc:List MG:=[(false,(.ifc 186 (.box oiM))),uiM]
def Yy:Ret:=⟨[],[(0,(true,oiM))]⟩
def b1w:Env:=⟨23,eqs,tt,gl,[(235,b2n),(238,a6w)],[],[],[((186,"Less"),235,some 187),((186,"Swap"),238,some 187)],[0]⟩
def a5k:Ann:=.blk (.loop [(0,2),(4,23),(1000000,1000002)] ⟨[(0,(false,(.ifc 186 (.box oiM)))),(1,uiM)],[]⟩ 0 ⟨[(0,(false,(.ifc 186 (.box oiM))))],[]⟩ lfA)
def kP (a0:List Int) (a1:Int):Option (List Int):=o5 (U9 (fun(x:List Int×Int)=>l7 (ieq (az .i64 (G8
 .i64 x.2 1) 2) x.2) (some (.inr x.1)) (o5 (U5 x.1 x.2 (az .i64 (G8 .i64 x.2 1) 2)) fun x_1=>
 l7 (E5 x_1) (some (.inr x.1)) (o5 (V5 x.1 (az .i64 (G8 .i64 x.2 1) 2) x.2) fun x_2=>some
 (.inl (x_2,az .i64 (G8 .i64 x.2 1) 2))))) (a0,a1)) fun y=>some y
def a3A:FSpec:=mkS Yc Yy fun x=>kP x.1 x.2
def a2O:List MG:=[(false,(.ifc 186 (.box oiM))),(false,(.ifc 3 diM))]
def a3t:Ret:=⟨[],[(0,(true,oiM))]⟩
def b5t:Env:=⟨12,eqs,tt,gl,[(237,a3H),(90,s90),(112,a3A)],[],[],[((186,"Len"),90,some 187),((186,"Push"),237,none)],[0]⟩
def b0S:Ann:=.leaf
def Y3 (a0:List Int) (a1:Int):Option (List Int):=o5 (pK a0 a1) fun x=>o5
 (bU x) fun x_1=>o5 (kP x (G8 .i64 x_1 1)) fun x=>some x
def b0l:FSpec:=mkS a2O a3t fun x=>Y3 x.1 x.2
def Yd:List MG:=[(false,(.ifc 186 (.box oiM))),uiM,uiM]
def Yz:Ret:=⟨[(.tmp 6,ubM)],[(0,(true,oiM))]⟩
def b1x:Env:=⟨48,eqs,tt,gl,[(235,b2n),(238,a6w)],[],[],[((186,"Less"),235,some 187),((186,"Swap"),238,some 187)],[0]⟩
def a5l:Ann:=.seq lfA (.seq lfA (.seq (.blk (.loop [(0,1),(7,11),(12,45),(1000000,1000002)] ⟨[(0,(false,(.ifc 186 (.box oiM)))),(7,uiM)],[]⟩ 0 ⟨[(0,(false,(.ifc 186 (.box oiM)))),(7,uiM)],[]⟩ lfA)) lfA))
def jh (a0:List Int) (a1:Int) (a2:Int):Option (Bool×List Int):=o5 (U9 (fun(x:List Int×Int)=>l7 (ile a2
 (x9 .i64 (U6 .i64 2 x.2) 1)) (some (.inr x)) (l7 (ilt (x9 .i64 (U6 .i64 2 x.2) 1) 0) (some (.inr x))
 (l7 (ilt (x9 .i64 (x9 .i64 (U6 .i64 2 x.2) 1) 1) a2) (o5 (U5 x.1 (x9 .i64 (x9 .i64
 (U6 .i64 2 x.2) 1) 1) (x9 .i64 (U6 .i64 2 x.2) 1)) fun x_1=>l7 x_1 (o5 (U5 x.1 (x9
 .i64 (x9 .i64 (U6 .i64 2 x.2) 1) 1) x.2) fun x_2=>l7 (E5 x_2) (some (.inr x)) (o5 (V5
 x.1 x.2 (x9 .i64 (x9 .i64 (U6 .i64 2 x.2) 1) 1)) fun x_3=>some (.inl (x_3,x9 .i64 (x9
 .i64 (U6 .i64 2 x.2) 1) 1)))) (o5 (U5 x.1 (x9 .i64 (U6 .i64 2 x.2) 1) x.2) fun x_2=>
 l7 (E5 x_2) (some (.inr x)) (o5 (V5 x.1 x.2 (x9 .i64 (U6 .i64 2 x.2) 1)) fun x_3=>some
 (.inl (x_3,x9 .i64 (U6 .i64 2 x.2) 1))))) (o5 (U5 x.1 (x9 .i64 (U6 .i64 2 x.2) 1) x.2) fun
 (x_1:Bool)=>l7 (E5 x_1) (some (.inr x)) (o5 (V5 x.1 x.2 (x9 .i64 (U6 .i64 2 x.2) 1)) fun x_2=>some (.inl (x_2,x9 .i64 (U6 .i64 2 x.2) 1))))))) (a0,a1)) fun y=>some (ilt a1 y.2,y.1)
def a3B:FSpec:=mkS Yd Yz fun x=>jh x.1 x.2.1 x.2.2
def a8A:List MG:=[(false,(.box oiM))]
def b0b:Ret:=⟨[(.tmp 2,(false,(.ifc 3 diM)))],[(0,(true,oiM))]⟩
def c4b:Env:=⟨23,eqs,tt,gl,[],[],[],[],[0]⟩
def b4X:Ann:=.leaf
def qK (a0:List Int):Option (Int×List Int):=o5 (lat a0 (G8 .i64 (o8 a0) 1)) fun x=>o5 (J9 a0 (toN
 (G8 .i64 (o8 a0) 1))) fun x=>l7 (jf 0 (G8 .i64 (o8 a0) 1) (o8 a0)) (some (x,gp a0 (toN 0) (toN (G8
 .i64 (o8 a0) 1)))) none
def b9x:FSpec:=mkS a8A b0b fun x=>qK x
def a2P:List MG:=[(false,(.ifc 186 (.box oiM)))]
def a3u:Ret:=⟨[(.tmp 2,(false,(.ifc 3 diM)))],[(0,(true,oiM))]⟩
def b5u:Env:=⟨15,eqs,tt,gl,[(90,s90),(238,a6w),(113,a3B),(236,b9x)],[],[],[((186,"Len"),90,some 187),((186,"Pop"),236,none),((186,"Swap"),238,some 187)],[0]⟩
def b0T:Ann:=.leaf
def gB (a0:List Int):Option (Int×List Int):=o5 (bU a0) fun x=>o5 (V5 a0 0 (G8
 .i64 x 1)) fun x_1=>o5 (jh x_1 0 (G8 .i64 x 1)) fun x=>o5
 (qK x.2) fun x=>some x
def b0m:FSpec:=mkS a2P a3u fun x=>gB x
def b6E:List MG:=[(true,(.dat y31))]
def b8b:Ret:=⟨[(.tmp 2,uoM),(.tmp 3,uiM)],[]⟩
def e62:Env:=⟨113,eqs,tt,gl,[(57,s57),(89,b0l),(90,s90),(91,b0m)],[(150,oiM)],[12,50,77,80],[],[]⟩
def c1R:Ann:=.seq lfA (.seq lfA (.seq lfA (.seq lfA (.seq lfA (.seq (.seq lfA (.blk (.loop [(5,10),(11,12),(29,65),(10001344,10001345),(13001536,13001537),(16001600,16001601),(16001664,16001665)] ⟨[(5,(false,(.owns oiM))),(6,uoM),(7,(false,(.box oiM))),(29,uiM)],[]⟩ 0 ⟨[(5,(false,(.owns oiM))),(6,uoM),(7,(false,(.box oiM)))],[]⟩ (.seq lfA (.seq lfA (.seq (.blk (.seq lfA (.seq lfA (.seq (.seq lfA (.blk (.loop [(5,6),(11,12),(41,56),(23000000,23000001)] ⟨[(5,(false,(.owns oiM))),(41,uiM)],[]⟩ 2 ⟨[(5,(false,(.owns oiM)))],[]⟩ lfA))) lfA)))) lfA)))))) (.seq lfA (.seq (.blk (.loop [(5,8),(12,15),(16,17),(65,107),(24000000,24000004)] ⟨[(5,(false,(.dat y64))),(6,uoM),(7,(false,(.box oiM))),(12,uoM)],[]⟩ 4 ⟨[(12,uoM)],[]⟩ (.seq lfA (.blk (.seq lfA (.seq lfA (.seq lfA (.blk (.loop [(6,8),(16,17),(86,107),(79000000,79000002),(91004672,91004673)] ⟨[(6,uoM),(7,(false,(.box oiM))),(86,uiM)],[]⟩ 6 ⟨[(6,uoM),(7,(false,(.box oiM)))],[]⟩ lfA))))))))) lfA)))))))
def iD (a0:A8):Option (List Int×Int):=o5 (jw a0) fun x=>o5 (jg (o8 x) [])
 fun x_1=>o5 (jg (o8 x) 0) fun x_2=>o5 (U9 (fun(x_3:List (List Int)×List Int×List Int×Int)
 =>l7 (ilt x_3.2.2.2 (o8 x)) (o5 (lat x x_3.2.2.2) fun x=>o5 (lat x_3.2.1 x_3.2.2.2) fun x_4=>o5 (J9 x_3.2.1
 (toN x_3.2.2.2)) fun x_5=>o5 (U9 (fun(x_6:List (List Int)×Int)=>l7 (ilt x_6.2 (o8 x)) (o5 (lat x x_6.2) fun x
 =>l7 (inb x (o8 x_6.1)) (o5 (J9 x_6.1 (toN x)) fun x_7=>o5 (cO x_7 [x_3.2.2.2]) fun x_8=>l7 (inb x
 (o8 x_6.1)) (l7 (Dh (toN x) (toN x)) (o5 (J9 x_6.1 (toN x)) fun x_9=>some (.inl (P8 x_6.1 (toN x) x_8,x9
 .i64 x_6.2 1))) none) none) none) (some (.inr x_6.1))) (x_3.1,0)) fun y=>l7 (ieq (o8 x) 0) (o5
 (Y3 x_3.2.2.1 x_3.2.2.2) fun x_6=>some (.inl (y,P8 x_3.2.1 (toN x_3.2.2.2) (o8 x),x_6,x9 .i64
 x_3.2.2.2 1))) (some (.inl (y,P8 x_3.2.1 (toN x_3.2.2.2) (o8 x),x_3.2.2.1,x9 .i64 x_3.2.2.2 1)))) (some (.inr (x_3.1,x_3.2.1,
 x_3.2.2.1)))) (x_1,x_2,[],0)) fun y=>o5 (U9 (fun(x:List (List Int)×dh)=>o5
 (bU x.2.2.1) fun x_3=>l7 (ilt 0 x_3) (o5 (gB x.2.2.1) fun x_4=>o5 (cO x.2.2.2
 [x_4.1]) fun x_5=>o5 (lat x.1 x_4.1) fun x_6=>o5 (U9 (fun(x:List Int×List Int×Int)=>l7 (ilt x.2.2
 (o8 x_6)) (o5 (lat x_6 x.2.2) fun x_7=>o5 (lat x.1 x_7) fun x_8=>o5 (J9 x.1 (toN x_7)) fun x_9=>o5 (lat
 x.1 x_7) fun x_10=>o5 (J9 x.1 (toN x_7)) fun x_11=>o5 (lat (P8 x.1 (toN x_7) (G8 .i64 x_9 1)) x_7) fun(x_12:
 Int)=>o5 (J9 (P8 x.1 (toN x_7) (G8 .i64 x_9 1)) (toN x_7)) fun x_13=>l7 (ieq x_13 0) (o5 (Y3 x.2.1
 x_7) fun x_14=>some (.inl (P8 x.1 (toN x_7) (G8 .i64 x_9 1),x_14,x9 .i64 x.2.2 1))) (some (.inl (P8 x.1
 (toN x_7) (G8 .i64 x_9 1),x.2.1,x9 .i64 x.2.2 1)))) (some (.inr (x.1,x.2.1)))) (x.2.1,x_4.2,0)) fun y=>some (.inl (x.1,y.1,y.2,x_5))) (some (.inr x.2.2.2))) (y.1,y.2.1,y.2.2,[])) fun y=>l7 (ilt (o8 y) (o8 x))
 (some ([],9)) (some (y,0))
def s62:FSpec:=mkS b6E b8b fun x=>iD x
def a7g:List MG:=[(true,(.dat y0)),uiM]
def a8H:Ret:=⟨[(.tmp 4,ubM)],[]⟩
def c2y:Env:=⟨19,eqs,tt,gl,[(68,s68)],[],[],[],[]⟩
def b3B:Ann:=.leaf
def dM (a0:I8) (a1:Int):Option Bool:=o5 (ig a0) fun x=>l7 x (l7 (ile a0.1 a1) (some (ilt
 a1 a0.2)) (some false)) (some false)
def a6o:FSpec:=mkS a7g a8H fun x=>dM x.1 x.2
def Yf:List MG:=[(true,(.dat y26)),(false,(.rp (.int .i64))),(false,(.rp (.int .i64)))]
def YB:Ret:=⟨[(.tmp 4,ubM)],[]⟩
def b1z:Env:=⟨15,eqs,tt,gl,[(116,a6o)],[],[],[],[]⟩
def a5n:Ann:=.leaf
def jR (a0:N9) (a1:Int) (a2:Int):Option Bool:=l7 (ieq a0.2.1 a1) (o5 (dM a0.2.2.2.2.1 a2) fun(x:
 Bool)=>some x) (some false)
def Wh:FSpec:=mkS Yf YB fun x=>jR x.1 x.2.1 x.2.2
def Ye:List MG:=[(false,(.dat y27)),(false,(.fn 115 [(.int .i64),(.int .i64)]))]
def YA:Ret:=⟨[(.tmp 4,uoM),(.tmp 5,uoM)],[]⟩
def b1y:Env:=⟨59,eqs,tt,gl,[(115,Wh)],[],[],[],[]⟩
def a5m:Ann:=.seq lfA (.seq lfA (.seq lfA (.seq (.seq lfA (.blk (.loop [(6,12),(17,57),(10000896,10000897)] ⟨[(6,uoM),(7,uoM),(8,uoM),(17,uiM)],[]⟩ 0 ⟨[(6,uoM),(7,uoM)],[]⟩ (.seq lfA (.seq lfA (.seq (.blk (.seq lfA (.seq lfA (.seq (.join [(11,12),(22,36)] ⟨[(11,uiM)],[]⟩ lfA) lfA)))) lfA)))))) lfA)))
def jl (a0:List N9) (a1:I8):Option (List Int×List Int):=o5 (jg (o8 a0) 0) fun x=>o5 (U9
 (fun(x:List Int×List Int×List Int×Int)=>l7 (ilt x.2.2.2 (o8 a0)) (o5 (lat a0 x.2.2.2) fun x_1=>o5 (l7 (ile 0
 x_1.2.2.1) (l7 (ilt x_1.2.2.1 x.2.2.2) (o5 (lat x.2.2.1 x_1.2.2.1) fun x_2=>o5 (J9 x.2.2.1 (toN x_1.2.2.1)) fun x=>
 some x) (some (-1))) (some (-1))) fun x_2=>o5 (lat x.2.2.1 x.2.2.2) fun x_3=>o5 (J9 x.2.2.1 (toN x.2.2.2)) fun(x_4:
 Int)=>o5 (jR x_1 a1.1 a1.2) fun x_5=>l7 x_5 (o5 (lat (P8 x.2.2.1 (toN x.2.2.2) x_2) x.2.2.2) fun x_6
 =>o5 (J9 (P8 x.2.2.1 (toN x.2.2.2) x_2) (toN x.2.2.2)) fun x_7=>o5 (cO x.1 [x.2.2.2]) fun x_8=>o5 (cO
 x.2.1 [x_2]) fun x_9=>some (.inl (x_8,x_9,P8 (P8 x.2.2.1 (toN x.2.2.2) x_2) (toN x.2.2.2) (o8 x.1),x9 .i64
 x.2.2.2 1))) (some (.inl (x.1,x.2.1,P8 x.2.2.1 (toN x.2.2.2) x_2,x9 .i64 x.2.2.2 1)))) (some (.inr (x.1,x.2.1)))) ([],[],x,
 0)) fun y=>some y
def a3C:FSpec:=mkS Ye YA fun x=>jl x.1 x.2
def b6W:List MG:=[(true,(.dat y31)),uiM,uiM]
def b8t:Ret:=⟨[(.tmp 6,uoM),(.tmp 7,uoM),(.tmp 8,uoM)],[]⟩
def e92:Env:=⟨40,eqs,tt,gl,[(115,Wh),(114,a3C)],[],[],[],[]⟩
def c2k:Ann:=.seq lfA (.seq lfA (.seq lfA (.seq (.seq lfA (.blk (.loop [(11,12),(13,14),(23,37)] ⟨[(11,uoM),(23,uiM)],[]⟩ 0 ⟨[(11,uoM)],[]⟩ lfA))) lfA)))
def lX (a0:A8) (a1:Int) (a2:Int):Option dh:=o5 (jl a0.2.2.2.2 (a1,a2)) fun x=>o5 (U9 (fun(x_1:List Int×Int)=>l7 (ilt x_1.2 (o8 x.1)) (o5 (lat x.1 x_1.2) fun x_2=>o5 (J9 x.1
 (toN x_1.2)) fun x=>o5 (lat a0.2.2.2.2 x) fun x=>o5 (cO x_1.1 [x.2.2.2.1]) fun x=>some (.inl (x,x9
 .i64 x_1.2 1))) (some (.inr x_1.1))) ([],0)) fun y=>some (x.1,x.2,y)
def s92:FSpec:=mkS b6W b8t fun x=>lX x.1 x.2.1 x.2.2
def b6Y:List MG:=[(false,(.dat y19))]
def b8v:Ret:=⟨[(.tmp 2,uoM),(.tmp 3,uiM)],[]⟩
def e94:Env:=⟨15,eqs,tt,gl,[(120,b1Y)],[],[],[],[]⟩
def c2n:Ann:=.leaf
def zi (a0:List I8):Option (List Int×Int):=o5 (lD a0) fun x=>some (x.1,x.2.2)
def s94:FSpec:=mkS b6Y b8v fun x=>zi x
def a7l:List MG:=[(true,(.dat y71)),uiM]
def a8M:Ret:=⟨[(.tmp 4,uoM)],[]⟩
def c2E:Env:=⟨36,eqs,tt,gl,[(141,a0n)],[],[],[],[]⟩
def b3G:Ann:=.seq lfA (.seq lfA (.seq lfA (.seq (.seq lfA (.blk (.loop [(5,8),(21,35),(7000960,7000961)] ⟨[(5,uoM),(6,uiM),(7,uiM)],[]⟩ 0 ⟨[(5,uoM)],[]⟩ lfA))) lfA)))
def bV (a0:L6) (a1:Int):Option (List Int):=o5 (lat a0.1 a1) fun x=>o5 (fE x.1) fun
 (x:Int)=>o5 (jg x 0) fun x=>o5 (U9 (fun(x:List Int×I8)=>l7 (ile 0 x.2.2) (o5 (lat x.1 x.2.2) fun(x_1:
 Int)=>o5 (J9 x.1 (toN x.2.2)) fun x_2=>o5 (lat a0.2.1 x.2.1) fun x_3=>some (.inl (P8 x.1 (toN x.2.2) x.2.1,G8
 .i64 x_3 1,G8 .i64 x.2.2 1))) (some (.inr x.1))) (x,G8 .i64 a1 1,G8 .i64 (o8 x) 1)) fun y=>
 some y
def b8G:FSpec:=mkS a7l a8M fun x=>bV x.1 x.2
def a7x:List MG:=[(true,(.dat y1))]
def a8Y:Ret:=⟨[(.tmp 2,ubM)],[]⟩
def c2T:Env:=⟨83,eqs,tt,gl,[],[],[],[],[]⟩
def b3U:Ann:=.seq lfA (.seq (.joinR [(2,11)] ⟨[],[]⟩ lfA) lfA)
def Y5 (a0:J6):Option Bool:=o5 (l7 (E5 (ieq a0.1 6)) (l7 (E5 (ieq a0.2.1 0)) (some (.inr false)) (some (.inl
 ()))) (some (.inl ()))) fun o=>U7 o (fun(x:PUnit)=>l7 (ieq a0.1 1) (l7 (ieq a0.2.2 0) (some true)
 (some (ieq a0.2.2 1))) (l7 (ieq a0.1 2) (l7 (ile (-1000000000000) a0.2.2) (some (ile a0.2.2 1000000000000)) (some false)) (l7 (ieq a0.1 3)
 (l7 (ile (-1000000000000000) a0.2.2) (some (ile a0.2.2 1000000000000000)) (some false)) (l7 (ieq a0.1 4) (l7 (ile (-1000000000) a0.2.2)
 (some (ile a0.2.2 1000000000)) (some false)) (l7 (ieq a0.1 5) (l7 (ile 0 a0.2.2) (some (ile a0.2.2 109572)) (some false)) (l7 (ieq a0.1 6)
 (l7 (ile 0 a0.2.1) (l7 (ilt a0.2.1 8) (l7 (ile 0 a0.2.2) (some (ilt a0.2.2 16)) (some false)) (some false)) (some false)) (some false)))))))
 fun r=>some r
def Wi:FSpec:=mkS a7x a8Y fun x=>Y5 x
def a7s:List MG:=[(true,(.dat y0))]
def a8T:Ret:=⟨[(.tmp 2,ubM)],[]⟩
def c2O:Env:=⟨48,eqs,tt,gl,[(141,a0n),(150,b1Z)],[],[],[],[]⟩
def b3P:Ann:=.seq lfA (.seq (.joinR [(2,18)] ⟨[],[]⟩ lfA) (.seq (.seq lfA (.blk (.seq (.join [(20,24)] ⟨[(20,ubM)],[]⟩ lfA) lfA))) lfA))
def ik (a0:I8):Option Bool:=o5 (o5 (fE a0.1) fun x=>l7 (ilt x 0) (some (.inr false)) (l7 (E5
 (ieq a0.2 0)) (o5 (bM a0.1) fun x=>l7 (E5 x) (some (.inr false)) (some (.inl ()))) (some (.inl
 ())))) fun o=>U7 o (fun(x:PUnit)=>o5 (l7 (ieq a0.1 14) (some (ieq a0.1 14)) (l7 (ieq a0.1 15) (some (ieq
 a0.1 15)) (some (ieq a0.1 16)))) fun x=>l7 x (l7 (ile 0 a0.2) (some (ile a0.2 5)) (some false)) (l7 (ieq a0.1 34) (l7 (ile 0
 a0.2) (some (ile (dH a0.2 8) 5)) (some false)) (l7 (ieq a0.1 6) (some (ile 0 a0.2)) (some true)))) fun r=>some r
def b8N:FSpec:=mkS a7s a8T fun x=>ik x
def a7t:List MG:=[(true,(.dat y0)),(true,(.dat y55))]
def a8U:Ret:=⟨[(.tmp 4,ubM)],[]⟩
def c2P:Env:=⟨81,eqs,tt,gl,[],[],[],[],[]⟩
def b3Q:Ann:=.seq lfA (.seq (.seq lfA (.blk (.seq lfA (.cond lfA (.seq lfA (.cond lfA (.seq lfA (.cond lfA (.seq lfA (.cond lfA (.seq (.join [(65,70)] ⟨[(65,ubM)],[]⟩ lfA) lfA))))))))))) lfA)
def aG (a0:I8) (a1:X9):Option Bool:=l7 (ieq a0.1 7) (l7 (ile 0 a0.2) (some (ilt a0.2 (o8 a1.2.1))) (some false)) (l7
 (ieq a0.1 8) (l7 (ile 0 a0.2) (l7 (ilt a0.2 (o8 a1.2.2.1)) (o5 (lat a1.2.2.1 a0.2) fun x=>some (E5 (ieq x.1 0))) (some
 false)) (some false)) (l7 (ieq a0.1 33) (l7 (ile 0 a0.2) (some (ilt a0.2 (o8 a1.2.2.2.2.2))) (some false)) (l7 (ieq a0.1 34) (some (ilt
 (az .i64 a0.2 8) (o8 a1.2.2.2.2.2))) (o5 (l7 (ieq a0.1 36) (some (ieq a0.1 36)) (l7 (ieq a0.1 37) (some (ieq a0.1 37)) (l7
 (ieq a0.1 38) (some (ieq a0.1 38)) (some (ieq a0.1 39))))) fun x=>l7 x (l7 (ile 0 a0.2) (some (ilt a0.2 (o8 a1.2.2.2.2.1))) (some
 false)) (some true)))))
def b8O:FSpec:=mkS a7t a8U fun x=>aG x.1 x.2
def a7u:List MG:=[(false,(.dat y36))]
def a8V:Ret:=⟨[(.tmp 2,ubM)],[]⟩
def c2Q:Env:=⟨15,eqs,tt,gl,[(148,Wi)],[],[],[],[]⟩
def b3R:Ann:=.seq lfA (.seq (.seq lfA (.blk (.loopR [(2,3),(4,5),(7,15)] ⟨[(7,uiM)],[]⟩ 0 ⟨[],[]⟩ lfA))) lfA)
def kR (a0:List J6):Option Bool:=o5 (P5 (fun(x:Int)=>l7 (ilt x (o8 a0)) (o5 (lat a0 x) fun x_1
 =>o5 (Y5 x_1) fun x_2=>l7 (E5 x_2) (some (.rt false)) (some (.nx (x9 .i64 x 1)))) (some (.ex
 ()))) 0) fun o=>U7 o (fun(y:PUnit)=>some true) fun r=>some r
def b8P:FSpec:=mkS a7u a8V fun x=>kR x
def a7B:List MG:=[(true,(.dat y1)),(true,(.dat y0))]
def a9c:Ret:=⟨[(.tmp 4,ubM)],[]⟩
def c2Y:Env:=⟨21,eqs,tt,gl,[(148,Wi)],[],[],[],[]⟩
def b3Y:Ann:=.leaf
def pU (a0:J6) (a1:I8):Option Bool:=o5 (Y5 a0) fun x=>l7 x (l7 (ieq a0.1 a1.1) (some (ieq
 a0.2.1 a1.2)) (some false)) (some false)
def b2a:FSpec:=mkS a7B a9c fun x=>pU x.1 x.2
def a7S:List MG:=[uiM]
def a9t:Ret:=⟨[(.tmp 2,ubM)],[]⟩
def c3q:Env:=⟨13,eqs,tt,gl,[],[],[],[],[]⟩
def b4p:Ann:=.leaf
def iY (a0:Int):Option Bool:=l7 (ieq a0 2) (some true) (l7 (ieq a0 3) (some true) (some (ieq a0 4)))
def a6p:FSpec:=mkS a7S a9t fun x=>iY x
def a7C:List MG:=[uiM,(true,(.dat y0))]
def a9d:Ret:=⟨[(.tmp 4,ubM)],[]⟩
def c2Z:Env:=⟨32,eqs,tt,gl,[(178,a6p)],[],[],[],[]⟩
def b3Z:Ann:=.leaf
def jS (a0:Int) (a1:I8):Option Bool:=l7 (E5 (ieq a1.2 0)) (some false) (l7 (ieq a0 36) (l7 (ieq a1.1 2) (some
 true) (some (ieq a1.1 3))) (l7 (ieq a0 39) (o5 (iY a1.1) fun x=>l7 x (some true) (some (ieq a1.1 5))) (some (ieq a1.1
 1))))
def b8U:FSpec:=mkS a7C a9d fun x=>jS x.1 x.2
def a7D:List MG:=[uiM,uiM]
def a9e:Ret:=⟨[(.tmp 4,ubM)],[]⟩
def c3a:Env:=⟨16,eqs,tt,gl,[(178,a6p)],[],[],[],[]⟩
def b4a:Ann:=.leaf
def iF (a0:Int) (a1:Int):Option Bool:=l7 (ieq a0 10) (o5 (iY a1) fun x=>some x) (l7 (ieq a0 25)
 (some (ieq a1 1)) (some (ieq a1 5)))
def b8V:FSpec:=mkS a7D a9e fun x=>iF x.1 x.2
def a7F:List MG:=[(true,(.dat y1)),(true,(.dat y1))]
def a9g:Ret:=⟨[(.tmp 4,ubM)],[]⟩
def c3c:Env:=⟨17,eqs,tt,gl,[],[],[],[],[]⟩
def b4c:Ann:=.leaf
def iZ (a0:J6) (a1:J6):Option Bool:=l7 (ieq a0.1 a1.1) (some (ieq a0.2.1 a1.2.1)) (some false)
def b2b:FSpec:=mkS a7F a9g fun x=>iZ x.1 x.2
def a7E:List MG:=[uiM,(true,(.dat y1)),(true,(.dat y1))]
def a9f:Ret:=⟨[(.tmp 6,ubM)],[]⟩
def c3b:Env:=⟨134,eqs,tt,gl,[(163,b2b),(178,a6p)],[],[],[],[]⟩
def b4b:Ann:=.seq lfA (.seq (.joinR [(6,126)] ⟨[],[]⟩ (.seq lfA (.blk (.seq (.join [(8,11)] ⟨[(8,ubM)],[]⟩ lfA) (.cond lfA (.seq lfA (.cond lfA (.seq lfA (.cond lfA (.seq lfA (.cond lfA (.seq lfA (.cond lfA (.seq (.join [(80,85)] ⟨[(80,ubM)],[]⟩ lfA) (.cond lfA (.seq (.join [(98,101)] ⟨[(98,ubM)],[]⟩ lfA) lfA)))))))))))))))) lfA)
def O5 (a0:Int) (a1:J6) (a2:J6):Option Bool:=o5 (o5 (l7 (ieq a0 11) (some (ieq a0 11)) (some (ieq a0 12)))
 fun x=>l7 x (o5 (iZ a1 a2) fun x=>l7 x (o5 (iY a1.1) fun x=>some (.inr x))
 (some (.inr false))) (l7 (ieq a0 13) (l7 (ieq a2.1 2) (l7 (ieq a1.1 2) (some (.inr true)) (some (.inr (ieq a1.1 3)))) (some
 (.inr false))) (l7 (ieq a0 14) (l7 (ieq a2.1 4) (l7 (ieq a1.1 3) (some (.inr true)) (some (.inr (ieq a1.1 4)))) (some (.inr
 false))) (l7 (ieq a0 15) (l7 (ieq a2.1 2) (l7 (ieq a1.1 2) (some (.inr true)) (some (.inr (ieq a1.1 3)))) (l7 (ieq a1.1 3) (some
 (.inr (ieq a2.1 3))) (some (.inr false)))) (l7 (ieq a0 16) (l7 (ieq a1.1 3) (some (.inr (ieq a2.1 3))) (some (.inr false))) (o5
 (l7 (ieq a0 17) (some (ieq a0 17)) (l7 (ieq a0 18) (some (ieq a0 18)) (l7 (ieq a0 21) (some (ieq a0 21)) (some (ieq a0 22))))) fun(x:
 Bool)=>l7 x (o5 (iZ a1 a2) fun x=>l7 x (o5 (iY a1.1) fun x=>l7 x (some (.inr true))
 (some (.inr (ieq a1.1 5)))) (some (.inr false))) (o5 (l7 (ieq a0 19) (some (ieq a0 19)) (some (ieq a0 20))) fun x=>l7 x
 (o5 (iZ a1 a2) fun x=>some (.inr x)) (l7 (ieq a0 23) (l7 (ieq a0 23) (l7 (ieq a1.1 1) (some (.inr (ieq a2.1
 1))) (some (.inr false))) (l7 (ieq a0 27) (l7 (ieq a0 27) (l7 (ieq a1.1 5) (some (.inr (ieq a2.1 2))) (some (.inr false))) (some
 (.inl ()))) (l7 (ieq a0 28) (l7 (ieq a1.1 5) (some (.inr (ieq a2.1 2))) (some (.inr false))) (some (.inl ())))))
 (l7 (ieq a0 24) (l7 (ieq a1.1 1) (some (.inr (ieq a2.1 1))) (some (.inr false))) (l7 (ieq a0 27) (l7 (ieq a0 27) (l7 (ieq a1.1
 5) (some (.inr (ieq a2.1 2))) (some (.inr false))) (some (.inl ()))) (l7 (ieq a0 28) (l7 (ieq a1.1 5) (some (.inr (ieq a2.1
 2))) (some (.inr false))) (some (.inl ()))))))))))))) fun o=>U7 o (fun(x:PUnit)=>l7 (ieq a1.1 5) (some
 (ieq a2.1 5)) (some false)) fun r=>some r
def b8W:FSpec:=mkS a7E a9f fun x=>O5 x.1 x.2.1 x.2.2
def a7v:List MG:=[(true,(.dat y0)),(false,(.dat y36)),(true,(.dat y55))]
def a8W:Ret:=⟨[(.tmp 6,ubM)],[]⟩
def c2R:Env:=⟨133,eqs,tt,gl,[(148,Wi),(159,b2a),(160,b8U),(161,b8V),(162,b8W),(163,b2b)],[],[],[],[]⟩
def b3S:Ann:=.seq lfA (.seq (.joinR [(6,95)] ⟨[],[]⟩ (.seq lfA (.blk (.seq lfA (.cond lfA (.seq lfA (.cond lfA (.seq lfA (.cond lfA (.seq lfA (.cond lfA (.seq (.join [(81,86)] ⟨[(81,ubM)],[]⟩ lfA) lfA)))))))))))) lfA)
def J7 (a0:I8) (a1:List J6) (a2:X9):Option Bool:=o5 (l7 (ieq a0.1 7) (o5 (lat a2.2.1 a0.2) fun x=>
 o5 (Y5 x) fun x=>some (.inr x)) (l7 (ieq a0.1 8) (o5 (lat a2.2.2.1 a0.2) fun x=>o5 (Y5
 x) fun x=>some (.inr x)) (l7 (ieq a0.1 33) (o5 (lat a2.2.2.2.2.2 a0.2) fun x=>o5 (lat a1 0) fun x_1=>
 o5 (pU x_1 x.2.1) fun x_2=>l7 x_2 (l7 (ile 1 x.2.2.1.1) (some (.inr (ile x.2.2.1.1 6))) (some (.inr false)))
 (some (.inr false))) (l7 (ieq a0.1 34) (o5 (lat a2.2.2.2.2.2 (az .i64 a0.2 8)) fun x=>o5 (lat a1 0) fun(x_1:
 J6)=>l7 (ieq x_1.1 3) (l7 (U2 (ieq x.2.1.1 3) (ieq x.2.1.2 0)) (some (.inr (U2 (ieq x.2.2.1.1 4) (ieq x.2.2.1.2 0)))) (some
 (.inr false))) (some (.inr false))) (o5 (l7 (ieq a0.1 36) (some (ieq a0.1 36)) (l7 (ieq a0.1 37) (some (ieq a0.1 37)) (l7 (ieq a0.1
 38) (some (ieq a0.1 38)) (some (ieq a0.1 39))))) fun x=>l7 x (o5 (lat a2.2.2.2.2.1 a0.2) fun x=>o5
 (jS a0.1 x) fun x=>some (.inr x)) (some (.inl ()))))))) fun o=>U7 o (fun(x:PUnit)=>
 l7 (ieq (o8 a1) 1) (o5 (lat a1 0) fun x=>o5 (iF a0.1 x.1) fun x=>some x) (l7 (ieq (o8 a1) 2)
 (o5 (lat a1 0) fun x=>o5 (lat a1 1) fun x_1=>o5 (O5 a0.1 x x_1) fun x=>some x) (l7
 (ieq (o8 a1) 3) (o5 (lat a1 0) fun x=>l7 (ieq x.1 1) (o5 (lat a1 1) fun x=>o5 (lat a1 2) fun x_1
 =>o5 (iZ x x_1) fun x=>some x) (some false)) (some true)))) fun r=>some r
def b8Q:FSpec:=mkS a7v a8W fun x=>J7 x.1 x.2.1 x.2.2
def a7G:List MG:=[(true,(.dat y0)),(true,(.dat y55))]
def a9h:Ret:=⟨[(.cell 4 23,(true,(.dat y1))),(.tmp 5,uiM)],[]⟩
def c3d:Env:=⟨113,eqs,tt,gl,[(159,b2a),(148,Wi)],[],[],[],[]⟩
def b4d:Ann:=.seq lfA (.seq lfA (.seq lfA (.seq (.join [(7,8),(22,26),(10000448,10000449)] ⟨[(7,(false,(.box (.dat y1))))],[]⟩ lfA) (.seq (.joinR [(4,6),(26,36),(4000256,4000257)] ⟨[(4,(false,(.box (.dat y1))))],[]⟩ lfA) (.seq (.seq lfA (.blk (.loopR [(4,6),(7,11),(39,112),(12000000,12000001),(20000000,20000001)] ⟨[(4,(false,(.box (.dat y1)))),(7,(false,(.box (.dat y1)))),(39,uiM)],[]⟩ 0 ⟨[(4,(false,(.box (.dat y1)))),(7,(false,(.box (.dat y1))))],[]⟩ (.seq lfA (.seq lfA (.seq (.blk (.seq lfA (.seq (.joinR [(4,6),(44,59),(35000000,35000001)] ⟨[(4,(false,(.box (.dat y1))))],[]⟩ lfA) lfA))) lfA)))))) lfA)))))
def jy (a0:I8) (a1:X9):Option (J6×Int):=o5 (lat a1.2.2.2.2.1 a0.2) fun x=>o5 (l7 (ieq a0.1 37)
 (some (x.1,x.2,1)) (some (x.1,x.2,0))) fun x_1=>o5 (l7 (ieq a0.1 39) (l7 (ieq (o8 a1.2.2.2.1) 0) (some (.inr ((0,0,
 0),6))) (some (.inl (0,0,0)))) (some (.inl (0,0,0)))) fun o=>U7 o (fun(x_2:J6)=>o5 (P5 (fun
 (x_3:J6×J6×Int)=>l7 (ilt x_3.2.2 (o8 a1.2.2.2.1)) (o5 (lat a1.2.2.2.1 x_3.2.2) fun x_4=>o5 (l7 (ile
 (o8 x_4) a0.2) (some (.inr ((0,0,0),6))) (o5 (lat x_4 a0.2) fun x=>l7 (ieq x.1 0) (some (.inr ((0,0,0),6))) (some
 (.inl x_3.1)))) fun o=>U7 o (fun(x_5:J6)=>o5 (lat x_4 a0.2) fun x_6=>o5 (pU
 x_6 x) fun x=>l7 (E5 x) (some (.rt ((0,0,0),8))) (l7 (ieq a0.1 36) (o5 (Y5 (x_3.2.1.1,x_3.2.1.2.1,x9
 .i64 x_3.2.1.2.2 x_6.2.2)) fun x=>l7 (E5 x) (some (.rt ((0,0,0),3))) (some (.nx (x_5,(x_3.2.1.1,x_3.2.1.2.1,x9
 .i64 x_3.2.1.2.2 x_6.2.2),x9 .i64 x_3.2.2 1)))) (l7 (ieq a0.1 37) (some (.nx (x_5,(x_3.2.1.1,x_3.2.1.2.1,jM x_3.2.1.2.2
 x_6.2.2),x9 .i64 x_3.2.2 1))) (l7 (ieq a0.1 38) (some (.nx (x_5,(x_3.2.1.1,x_3.2.1.2.1,gu x_3.2.1.2.2 x_6.2.2),x9 .i64
 x_3.2.2 1))) (l7 (ieq a0.1 39) (l7 (ieq x_3.2.2 0) (some (.nx (x_5,x_6,x9 .i64 x_3.2.2 1))) (l7 (ilt x_3.2.1.2.2 x_6.2.2)
 (some (.nx (x_5,x_6,x9 .i64 x_3.2.2 1))) (some (.nx (x_5,x_3.2.1,x9 .i64 x_3.2.2 1))))) (some (.nx (x_5,x_3.2.1,x9
 .i64 x_3.2.2 1)))))))) fun r=>some (.rt r)) (some (.ex (x_3.1,x_3.2.1)))) (x_2,x_1,0)) fun o=>U7 o (fun(y:J6×J6)=>some (y.2,0)) fun r=>some r) fun r=>some r
def b8X:FSpec:=mkS a7G a9h fun x=>jy x.1 x.2
def Yi:List MG:=[(true,(.dat y11)),(false,(.rp (.int .i64))),(false,(.rp (.int .i64)))]
def YE:Ret:=⟨[(.tmp 4,ubM)],[]⟩
def b1C:Env:=⟨21,eqs,tt,gl,[(116,a6o)],[],[],[],[]⟩
def a5q:Ann:=.leaf
def uN (a0:rW) (a1:Int) (a2:Int):Option Bool:=o5 (dM a0.1 a1) fun x=>l7 x (l7 (ile a0.2.1
 a2) (some (ilt a2 a0.2.2.1)) (some false)) (some false)
def Wj:FSpec:=mkS Yi YE fun x=>uN x.1 x.2.1 x.2.2
def a2G:List MG:=[(false,(.dat y12)),(false,(.fn 179 [(.int .i64),(.int .i64)]))]
def a3l:Ret:=⟨[(.tmp 4,uiM),(.tmp 5,ubM)],[]⟩
def b5l:Env:=⟨20,eqs,tt,gl,[(179,Wj)],[],[],[],[]⟩
def b0K:Ann:=.seq lfA (.seq (.seq lfA (.blk (.loopR [(4,8),(10,20)] ⟨[(10,uiM)],[]⟩ 0 ⟨[],[]⟩ lfA))) lfA)
def jY (a0:List rW) (a1:I8):Option (Int×Bool):=o5 (P5 (fun(x:Int)=>l7 (ilt x (o8 a0)) (o5 (lat
 a0 x) fun x_1=>o5 (uN x_1 a1.1 a1.2) fun x_2=>l7 x_2 (some (.rt (x,true))) (some (.nx (x9
 .i64 x 1)))) (some (.ex ()))) 0) fun o=>U7 o (fun(y:PUnit)=>some (0,false)) fun r
 =>some r
def b0h:FSpec:=mkS a2G a3l fun x=>jY x.1 x.2
def a7H:List MG:=[(true,(.dat y15)),uiM,uiM]
def a9i:Ret:=⟨[(.tmp 6,uiM),(.tmp 7,ubM)],[]⟩
def c3e:Env:=⟨14,eqs,tt,gl,[(179,Wj),(69,b0h)],[],[],[],[]⟩
def b4e:Ann:=.leaf
def tY (a0:Y4) (a1:Int) (a2:Int):Option (Int×Bool):=o5 (jY a0.2.2.2 (a1,a2)) fun x=>
 some x
def b8Y:FSpec:=mkS a7H a9i fun x=>tY x.1 x.2.1 x.2.2
def b5Q:List MG:=[(false,(.dat (.int .u64))),(false,(.dat (.int .u64)))]
def a3F:FSpec:=⟨b5Q,[(false,(.dat (.int .u64))),(false,(.dat (.int .u64)))],[],fun x=>jr x.1 x.2⟩
def a7p:List MG:=[(false,(.dat (.int .u64)))]
def a8Q:Ret:=⟨[(.tmp 2,uiM)],[]⟩
def c2J:Env:=⟨25,eqs,tt,gl,[],[],[],[],[]⟩
def b3L:Ann:=.leaf
def ou (a0:Int):Option Int:=l7 (ile 4294967296 a0) (l7 (ile 65536 (ja .u64 a0 32)) (l7 (ile 256 (ja .u64
 (ja .u64 a0 32) 16)) (o5 (sat [0,1,2,2,3,3,3,3,4,4,4,4,4,4,4,4,5,5,5,5,5,5,5,5,5,5,5,5,5,5,5,5,6,6,6,
 6,6,6,6,6,6,6,6,6,6,6,6,6,6,6,6,6,6,6,6,6,6,6,6,6,6,6,6,6,7,7,7,7,7,7,7,7,7,7,7,7,7,7,7,7,7,7,7,7,7,
 7,7,7,7,7,7,7,7,7,7,7,7,7,7,7,7,7,7,7,7,7,7,7,7,7,7,7,7,7,7,7,7,7,7,7,7,7,7,7,7,7,7,7,8,8,8,8,8,8,8,
 8,8,8,8,8,8,8,8,8,8,8,8,8,8,8,8,8,8,8,8,8,8,8,8,8,8,8,8,8,8,8,8,8,8,8,8,8,8,8,8,8,8,8,8,8,8,8,8,8,8,
 8,8,8,8,8,8,8,8,8,8,8,8,8,8,8,8,8,8,8,8,8,8,8,8,8,8,8,8,8,8,8,8,8,8,8,8,8,8,8,8,8,8,8,8,8,8,8,8,8,8,
 8,8,8,8,8,8,8,8,8,8,8,8,8,8,8,8,8,8,8,8,8] (wrap .u8 (ja .u64 (ja .u64 (ja .u64 a0 32) 16) 8)))
 fun x=>some (x9 .i64 (x9 .i64 (x9 .i64 32 16) 8) (wrap .i64 x))) (o5 (sat [0,1,2,2,3,3,3,3,4,
 4,4,4,4,4,4,4,5,5,5,5,5,5,5,5,5,5,5,5,5,5,5,5,6,6,6,6,6,6,6,6,6,6,6,6,6,6,6,6,6,6,6,6,6,6,6,6,6,6,6,
 6,6,6,6,6,7,7,7,7,7,7,7,7,7,7,7,7,7,7,7,7,7,7,7,7,7,7,7,7,7,7,7,7,7,7,7,7,7,7,7,7,7,7,7,7,7,7,7,7,7,
 7,7,7,7,7,7,7,7,7,7,7,7,7,7,7,7,7,7,7,8,8,8,8,8,8,8,8,8,8,8,8,8,8,8,8,8,8,8,8,8,8,8,8,8,8,8,8,8,8,8,
 8,8,8,8,8,8,8,8,8,8,8,8,8,8,8,8,8,8,8,8,8,8,8,8,8,8,8,8,8,8,8,8,8,8,8,8,8,8,8,8,8,8,8,8,8,8,8,8,8,8,
 8,8,8,8,8,8,8,8,8,8,8,8,8,8,8,8,8,8,8,8,8,8,8,8,8,8,8,8,8,8,8,8,8,8,8,8,8,8,8,8,8,8,8,8,8,8,8] (wrap
 .u8 (ja .u64 (ja .u64 a0 32) 16))) fun x=>some (x9 .i64 (x9 .i64 32 16) (wrap .i64 x))))
 (l7 (ile 256 (ja .u64 a0 32)) (o5 (sat [0,1,2,2,3,3,3,3,4,4,4,4,4,4,4,4,5,5,5,5,5,5,5,5,5,5,5,5,5,5,5,
 5,6,6,6,6,6,6,6,6,6,6,6,6,6,6,6,6,6,6,6,6,6,6,6,6,6,6,6,6,6,6,6,6,7,7,7,7,7,7,7,7,7,7,7,7,7,7,7,7,7,
 7,7,7,7,7,7,7,7,7,7,7,7,7,7,7,7,7,7,7,7,7,7,7,7,7,7,7,7,7,7,7,7,7,7,7,7,7,7,7,7,7,7,7,7,7,7,7,8,8,8,
 8,8,8,8,8,8,8,8,8,8,8,8,8,8,8,8,8,8,8,8,8,8,8,8,8,8,8,8,8,8,8,8,8,8,8,8,8,8,8,8,8,8,8,8,8,8,8,8,8,8,
 8,8,8,8,8,8,8,8,8,8,8,8,8,8,8,8,8,8,8,8,8,8,8,8,8,8,8,8,8,8,8,8,8,8,8,8,8,8,8,8,8,8,8,8,8,8,8,8,8,8,
 8,8,8,8,8,8,8,8,8,8,8,8,8,8,8,8,8,8,8,8,8,8,8,8,8] (wrap .u8 (ja .u64 (ja .u64 a0 32) 8))) fun(x:
 Int)=>some (x9 .i64 (x9 .i64 32 8) (wrap .i64 x))) (o5 (sat [0,1,2,2,3,3,3,3,4,4,4,4,4,4,4,4,5,5,5,
 5,5,5,5,5,5,5,5,5,5,5,5,5,6,6,6,6,6,6,6,6,6,6,6,6,6,6,6,6,6,6,6,6,6,6,6,6,6,6,6,6,6,6,6,6,7,7,7,7,7,
 7,7,7,7,7,7,7,7,7,7,7,7,7,7,7,7,7,7,7,7,7,7,7,7,7,7,7,7,7,7,7,7,7,7,7,7,7,7,7,7,7,7,7,7,7,7,7,7,7,7,
 7,7,7,7,7,7,7,7,7,8,8,8,8,8,8,8,8,8,8,8,8,8,8,8,8,8,8,8,8,8,8,8,8,8,8,8,8,8,8,8,8,8,8,8,8,8,8,8,8,8,
 8,8,8,8,8,8,8,8,8,8,8,8,8,8,8,8,8,8,8,8,8,8,8,8,8,8,8,8,8,8,8,8,8,8,8,8,8,8,8,8,8,8,8,8,8,8,8,8,8,8,
 8,8,8,8,8,8,8,8,8,8,8,8,8,8,8,8,8,8,8,8,8,8,8,8,8,8,8,8,8,8,8,8,8,8,8,8,8] (wrap .u8 (ja .u64 a0
 32))) fun x=>some (x9 .i64 32 (wrap .i64 x))))) (l7 (ile 65536 a0) (l7 (ile 256 (ja .u64 a0 16)) (o5 (sat
 [0,1,2,2,3,3,3,3,4,4,4,4,4,4,4,4,5,5,5,5,5,5,5,5,5,5,5,5,5,5,5,5,6,6,6,6,6,6,6,6,6,6,6,6,6,6,6,6,6,
 6,6,6,6,6,6,6,6,6,6,6,6,6,6,6,7,7,7,7,7,7,7,7,7,7,7,7,7,7,7,7,7,7,7,7,7,7,7,7,7,7,7,7,7,7,7,7,7,7,7,
 7,7,7,7,7,7,7,7,7,7,7,7,7,7,7,7,7,7,7,7,7,7,7,7,7,7,7,7,7,8,8,8,8,8,8,8,8,8,8,8,8,8,8,8,8,8,8,8,8,8,
 8,8,8,8,8,8,8,8,8,8,8,8,8,8,8,8,8,8,8,8,8,8,8,8,8,8,8,8,8,8,8,8,8,8,8,8,8,8,8,8,8,8,8,8,8,8,8,8,8,8,
 8,8,8,8,8,8,8,8,8,8,8,8,8,8,8,8,8,8,8,8,8,8,8,8,8,8,8,8,8,8,8,8,8,8,8,8,8,8,8,8,8,8,8,8,8,8,8,8,8,8,
 8,8,8,8,8,8,8] (wrap .u8 (ja .u64 (ja .u64 a0 16) 8))) fun x=>some (x9 .i64 (x9 .i64 (x9
 .i64 0 16) 8) (wrap .i64 x))) (o5 (sat [0,1,2,2,3,3,3,3,4,4,4,4,4,4,4,4,5,5,5,5,5,5,5,5,5,5,5,5,5,5,5,
 5,6,6,6,6,6,6,6,6,6,6,6,6,6,6,6,6,6,6,6,6,6,6,6,6,6,6,6,6,6,6,6,6,7,7,7,7,7,7,7,7,7,7,7,7,7,7,7,7,7,
 7,7,7,7,7,7,7,7,7,7,7,7,7,7,7,7,7,7,7,7,7,7,7,7,7,7,7,7,7,7,7,7,7,7,7,7,7,7,7,7,7,7,7,7,7,7,7,8,8,8,
 8,8,8,8,8,8,8,8,8,8,8,8,8,8,8,8,8,8,8,8,8,8,8,8,8,8,8,8,8,8,8,8,8,8,8,8,8,8,8,8,8,8,8,8,8,8,8,8,8,8,
 8,8,8,8,8,8,8,8,8,8,8,8,8,8,8,8,8,8,8,8,8,8,8,8,8,8,8,8,8,8,8,8,8,8,8,8,8,8,8,8,8,8,8,8,8,8,8,8,8,8,
 8,8,8,8,8,8,8,8,8,8,8,8,8,8,8,8,8,8,8,8,8,8,8,8,8] (wrap .u8 (ja .u64 a0 16))) fun x=>some (x9
 .i64 (x9 .i64 0 16) (wrap .i64 x)))) (l7 (ile 256 a0) (o5 (sat [0,1,2,2,3,3,3,3,4,4,4,4,4,4,4,4,5,5,5,
 5,5,5,5,5,5,5,5,5,5,5,5,5,6,6,6,6,6,6,6,6,6,6,6,6,6,6,6,6,6,6,6,6,6,6,6,6,6,6,6,6,6,6,6,6,7,7,7,7,7,
 7,7,7,7,7,7,7,7,7,7,7,7,7,7,7,7,7,7,7,7,7,7,7,7,7,7,7,7,7,7,7,7,7,7,7,7,7,7,7,7,7,7,7,7,7,7,7,7,7,7,
 7,7,7,7,7,7,7,7,7,8,8,8,8,8,8,8,8,8,8,8,8,8,8,8,8,8,8,8,8,8,8,8,8,8,8,8,8,8,8,8,8,8,8,8,8,8,8,8,8,8,
 8,8,8,8,8,8,8,8,8,8,8,8,8,8,8,8,8,8,8,8,8,8,8,8,8,8,8,8,8,8,8,8,8,8,8,8,8,8,8,8,8,8,8,8,8,8,8,8,8,8,
 8,8,8,8,8,8,8,8,8,8,8,8,8,8,8,8,8,8,8,8,8,8,8,8,8,8,8,8,8,8,8,8,8,8,8,8,8] (wrap .u8 (ja .u64 a0
 8))) fun x=>some (x9 .i64 (x9 .i64 0 8) (wrap .i64 x))) (o5 (sat [0,1,2,2,3,3,3,3,4,4,4,4,4,4,4,
 4,5,5,5,5,5,5,5,5,5,5,5,5,5,5,5,5,6,6,6,6,6,6,6,6,6,6,6,6,6,6,6,6,6,6,6,6,6,6,6,6,6,6,6,6,6,6,6,6,7,
 7,7,7,7,7,7,7,7,7,7,7,7,7,7,7,7,7,7,7,7,7,7,7,7,7,7,7,7,7,7,7,7,7,7,7,7,7,7,7,7,7,7,7,7,7,7,7,7,7,7,
 7,7,7,7,7,7,7,7,7,7,7,7,7,8,8,8,8,8,8,8,8,8,8,8,8,8,8,8,8,8,8,8,8,8,8,8,8,8,8,8,8,8,8,8,8,8,8,8,8,8,
 8,8,8,8,8,8,8,8,8,8,8,8,8,8,8,8,8,8,8,8,8,8,8,8,8,8,8,8,8,8,8,8,8,8,8,8,8,8,8,8,8,8,8,8,8,8,8,8,8,8,
 8,8,8,8,8,8,8,8,8,8,8,8,8,8,8,8,8,8,8,8,8,8,8,8,8,8,8,8,8,8,8,8,8,8,8,8,8,8,8,8,8] (wrap .u8 a0)) fun
 (x:Int)=>some (x9 .i64 0 (wrap .i64 x)))))
def b8L:FSpec:=mkS a7p a8Q fun x=>ou x
def a8n:List MG:=[(false,(.dat (.int .u64)))]
def a9O:Ret:=⟨[(.tmp 2,uiM)],[]⟩
def c3N:Env:=⟨6,eqs,tt,gl,[(139,b8L)],[],[],[],[]⟩
def b4K:Ann:=.leaf
def dV (a0:Int):Option Int:=o5 (ou a0) fun x=>some (G8 .i64 64 x)
def b9s:FSpec:=mkS a8n a9O fun x=>dV x
def a8c:List MG:=[(false,(.dat (.int .u64))),(false,(.dat (.int .u64))),(false,(.dat (.int .u64)))]
def a9D:Ret:=⟨[(.tmp 6,(false,(.dat (.int .u64)))),(.tmp 7,(false,(.dat (.int .u64))))],[]⟩
def c3A:Env:=⟨135,eqs,tt,gl,[(207,b9s)],[],[],[],[]⟩
def b4z:Ann:=.seq lfA (.seq (.join [(19,22)] ⟨[],[]⟩ lfA) (.seq (.join [(22,26)] ⟨[],[]⟩ lfA) (.seq lfA (.seq lfA (.seq lfA (.seq lfA (.seq lfA (.seq lfA (.seq lfA (.seq lfA (.seq lfA (.seq lfA (.seq lfA (.seq (.blk (.loop [(15,17),(67,86)] ⟨[(15,(false,(.dat (.int .u64)))),(16,(false,(.dat (.int .u64))))],[]⟩ 0 ⟨[(15,(false,(.dat (.int .u64))))],[]⟩ lfA)) (.seq lfA (.seq lfA (.seq lfA (.seq (.blk (.loop [(16,17),(18,19),(102,121)] ⟨[(16,(false,(.dat (.int .u64)))),(18,(false,(.dat (.int .u64))))],[]⟩ 2 ⟨[(18,(false,(.dat (.int .u64))))],[]⟩ lfA)) lfA))))))))))))))))))
def dF (a0:Int) (a1:Int) (a2:Int):Option I8:=o5 (l7 (ieq a2 0) none (some ())) fun x=>o5 (l7
 (ile a2 a0) none (some ())) fun x=>l7 (ieq a0 0) (o5 (uA .u64 a1 a2) fun x=>o5 (zt a1 a2) fun
 (x_1:Int)=>some (x,x_1)) (o5 (dV a2) fun x=>o5 (Kv .u64 a2 (wrap .u64 x)) fun x_1
 =>o5 (Kv .u64 a0 (wrap .u64 x)) fun x_2=>o5 (Kw .u64 a1 (G8 .u64 64 (wrap .u64 x))) fun
 (x_3:Int)=>o5 (Kv .u64 a1 (wrap .u64 x)) fun x_4=>o5 (uA .u64 (ior .u64 x_2 x_3) (ja
 .u64 x_1 32)) fun x_5=>o5 (U9 (fun(x:I8)=>l7 (ile 4294967296 x.1) (l7 (ile 4294967296 (x9 .u64 x.2
 (ja .u64 x_1 32))) (some (.inr (G8 .u64 x.1 1))) (some (.inl (G8 .u64 x.1 1,x9 .u64 x.2 (ja .u64
 x_1 32))))) (l7 (ilt (x9 .u64 (U6 .u64 4294967296 x.2) (ja .u64 x_4 32)) (U6 .u64 x.1 (Su .u64 x_1
 4294967295))) (l7 (ile 4294967296 (x9 .u64 x.2 (ja .u64 x_1 32))) (some (.inr (G8 .u64 x.1 1))) (some (.inl (G8
 .u64 x.1 1,x9 .u64 x.2 (ja .u64 x_1 32))))) (some (.inr x.1)))) (x_5,G8 .u64 (ior .u64 x_2 x_3) (U6
 .u64 x_5 (ja .u64 x_1 32)))) fun y=>o5 (uA .u64 (G8 .u64 (x9 .u64 (U6 .u64 (ior
 .u64 x_2 x_3) 4294967296) (ja .u64 x_4 32)) (U6 .u64 y x_1)) (ja .u64 x_1 32)) fun x_6=>o5 (U9 (fun
 (x:I8)=>l7 (ile 4294967296 x.2) (l7 (ile 4294967296 (x9 .u64 x.1 (ja .u64 x_1 32))) (some (.inr (G8 .u64
 x.2 1))) (some (.inl (x9 .u64 x.1 (ja .u64 x_1 32),G8 .u64 x.2 1)))) (l7 (ilt (x9 .u64 (U6 .u64
 4294967296 x.1) (Su .u64 x_4 4294967295)) (U6 .u64 x.2 (Su .u64 x_1 4294967295))) (l7 (ile 4294967296 (x9 .u64
 x.1 (ja .u64 x_1 32))) (some (.inr (G8 .u64 x.2 1))) (some (.inl (x9 .u64 x.1 (ja .u64 x_1 32),G8
 .u64 x.2 1)))) (some (.inr x.2)))) (G8 .u64 (G8 .u64 (x9 .u64 (U6 .u64 (ior .u64 x_2 x_3)
 4294967296) (ja .u64 x_4 32)) (U6 .u64 y x_1)) (U6 .u64 x_6 (ja .u64 x_1 32)),x_6)) fun y_1=>o5
 (Kw .u64 (G8 .u64 (x9 .u64 (U6 .u64 (G8 .u64 (x9 .u64 (U6 .u64 (ior .u64 x_2
 x_3) 4294967296) (ja .u64 x_4 32)) (U6 .u64 y x_1)) 4294967296) (Su .u64 x_4 4294967295)) (U6 .u64 y_1 x_1))
 (wrap .u64 x)) fun x=>some (x9 .u64 (U6 .u64 y 4294967296) y_1,x))
def a6r:FSpec:=mkS a8c a9D fun x=>dF x.1 x.2.1 x.2.2
def a7T:List MG:=[uiM,uiM]
def a9u:Ret:=⟨[(.tmp 4,uiM),(.tmp 5,uiM),(.tmp 6,ubM)],[]⟩
def c3r:Env:=⟨47,eqs,tt,gl,[(193,a3F),(194,a6r)],[],[],[],[]⟩
def b4q:Ann:=.leaf
def jX (a0:Int) (a1:Int):Option (Int×Int×Bool):=l7 (ilt a1 0) (o5 (jr (wrap .u64 a0) (G8 .u64
 0 (wrap .u64 a1))) fun x=>l7 (ile 1000000 x.1) (some (0,0,false)) (o5 (dF x.1 x.2 1000000) fun x=>
 l7 (ilt 1000000000000000 x.1) (some (0,0,false)) (l7 (ilt a1 0) (some (G8 .i64 0 (wrap .i64 x.1),G8 .i64 0 (wrap
 .i64 x.2),true)) (some (wrap .i64 x.1,wrap .i64 x.2,true))))) (o5 (jr (wrap .u64 a0) (wrap .u64 a1))
 fun x=>l7 (ile 1000000 x.1) (some (0,0,false)) (o5 (dF x.1 x.2 1000000) fun x=>l7 (ilt
 1000000000000000 x.1) (some (0,0,false)) (l7 (ilt a1 0) (some (G8 .i64 0 (wrap .i64 x.1),G8 .i64 0 (wrap .i64
 x.2),true)) (some (wrap .i64 x.1,wrap .i64 x.2,true)))))
def b9h:FSpec:=mkS a7T a9u fun x=>jX x.1 x.2
def a8o:List MG:=[uiM]
def a9P:Ret:=⟨[(.tmp 2,ubM)],[]⟩
def c3O:Env:=⟨9,eqs,tt,gl,[],[],[],[],[]⟩
def b4L:Ann:=.leaf
def iw (a0:Int):Option Bool:=l7 (ile 0 a0) (some (ile a0 5)) (some false)
def a6u:FSpec:=mkS a8o a9P fun x=>iw x
def a8p:List MG:=[uiM,uiM]
def a9Q:Ret:=⟨[(.tmp 4,ubM)],[]⟩
def c3P:Env:=⟨14,eqs,tt,gl,[],[],[],[],[]⟩
def b4M:Ann:=.leaf
def dW (a0:Int) (a1:Int):Option Bool:=l7 (ilt a1 a0) (some true) (some (ilt a0 (G8 .i64 0 a1)))
def a6v:FSpec:=mkS a8p a9Q fun x=>dW x.1 x.2
def a8q:List MG:=[uiM]
def a9R:Ret:=⟨[(.tmp 2,(false,(.dat (.int .u64))))],[]⟩
def c3Q:Env:=⟨10,eqs,tt,gl,[],[],[],[],[]⟩
def b4N:Ann:=.leaf
def dG (a0:Int):Option Int:=l7 (ilt a0 0) (some (G8 .u64 0 (wrap .u64 a0))) (some (wrap .u64 a0))
def b2i:FSpec:=mkS a8q a9R fun x=>dG x
def a8r:List MG:=[(false,(.dat (.int .u64))),(false,(.dat (.int .u64))),(false,(.dat (.int .u64))),ubM,uiM]
def a9S:Ret:=⟨[(.tmp 10,(false,(.dat (.int .u64))))],[]⟩
def c3R:Env:=⟨55,eqs,tt,gl,[],[],[],[],[]⟩
def b4O:Ann:=.leaf
def eP (a0:Int) (a1:Int) (a2:Int) (a3:Bool) (a4:Int):Option Int:=l7 (ieq a1 0) (some a0) (l7 (ieq a4 0) (l7
 a3 (some (x9 .u64 a0 1)) (some a0)) (l7 (ieq a4 1) (l7 (E5 a3) (some (x9 .u64 a0 1)) (some a0)) (l7 (ieq a4 3) (some
 (x9 .u64 a0 1)) (l7 (ieq a4 4) (l7 (ile (G8 .u64 a2 a1) a1) (some (x9 .u64 a0 1)) (some a0)) (l7 (ieq a4 5)
 (l7 (ilt (G8 .u64 a2 a1) a1) (some (x9 .u64 a0 1)) (l7 (ieq a1 (G8 .u64 a2 a1)) (l7 (ieq (dH a0 2) 1) (some
 (x9 .u64 a0 1)) (some a0)) (some a0))) (some a0))))))
def b2j:FSpec:=mkS a8r a9S fun x=>eP x.1 x.2.1 x.2.2.1 x.2.2.2.1 x.2.2.2.2
def a8s:List MG:=[(false,(.dat (.int .u64))),ubM]
def a9T:Ret:=⟨[(.tmp 4,uiM)],[]⟩
def c3S:Env:=⟨11,eqs,tt,gl,[],[],[],[],[]⟩
def b4P:Ann:=.leaf
def qj (a0:Int) (a1:Bool):Option Int:=l7 a1 (some (G8 .i64 0 (wrap .i64 a0))) (some (wrap .i64 a0))
def b2k:FSpec:=mkS a8s a9T fun x=>qj x.1 x.2
def a8d:List MG:=[uiM,uiM,uiM]
def a9E:Ret:=⟨[(.tmp 6,uiM),(.tmp 7,uiM)],[]⟩
def c3B:Env:=⟨45,eqs,tt,gl,[(208,a6u),(209,a6v),(210,b2i),(211,b2j),(212,b2k)],[],[],[],[]⟩
def b4A:Ann:=.leaf
def aI (a0:Int) (a1:Int) (a2:Int):Option I8:=o5 (iw a2) fun x=>l7 (E5 x) (some (0,1)) (l7
 (ieq a1 0) (some (0,12)) (o5 (dW a0 4611686018427387904) fun x=>l7 x (some (0,3)) (o5 (dW a1
 4611686018427387904) fun x=>l7 x (some (0,3)) (o5 (dG a0) fun x=>o5 (dG a1) fun x_1
 =>o5 (uA .u64 x x_1) fun x_2=>o5 (zt x x_1) fun x=>o5 (eP x_2 x x_1 (E5 (bI (ilt a0
 0) (ilt a1 0))) a2) fun x=>o5 (qj x (E5 (bI (ilt a0 0) (ilt a1 0)))) fun x=>some (x,0)))))
def a3G:FSpec:=mkS a8d a9E fun x=>aI x.1 x.2.1 x.2.2
def a7U:List MG:=[uiM,uiM,uiM]
def a9v:Ret:=⟨[(.tmp 6,uiM),(.tmp 7,uiM)],[]⟩
def c3s:Env:=⟨60,eqs,tt,gl,[(195,a3G)],[],[],[],[]⟩
def b4r:Ann:=.leaf
def qC (a0:Int) (a1:Int) (a2:Int):Option I8:=l7 (ilt (x9 .i64 a0 (az .i64 a1 1000000))
 (-2000000000000000)) (some (0,3)) (l7 (ilt 2000000000000000 (x9 .i64 a0 (az .i64 a1 1000000))) (some (0,3)) (l7 (ilt 1
 (x9 .i64 a0 (az .i64 a1 1000000))) (o5 (aI (x9 .i64 (U6 .i64 (x9 .i64 (dH (x9
 .i64 a0 (az .i64 a1 1000000)) 2) 2) 1000000) (dH a1 1000000)) 1000000 a2) fun x=>l7 (E5 (ieq x.2 0)) (some (0,
 x.2)) (l7 (ilt (x9 .i64 (G8 .i64 (x9 .i64 a0 (az .i64 a1 1000000)) (x9 .i64 (dH (x9 .i64
 a0 (az .i64 a1 1000000)) 2) 2)) x.1) (-1000000000000000)) (some (0,3)) (l7 (ilt 1000000000000000 (x9 .i64 (G8 .i64
 (x9 .i64 a0 (az .i64 a1 1000000)) (x9 .i64 (dH (x9 .i64 a0 (az .i64 a1 1000000)) 2) 2)) x.1)) (some
 (0,3)) (some (x9 .i64 (G8 .i64 (x9 .i64 a0 (az .i64 a1 1000000)) (x9 .i64 (dH (x9 .i64 a0
 (az .i64 a1 1000000)) 2) 2)) x.1,0))))) (l7 (ilt (x9 .i64 a0 (az .i64 a1 1000000)) (-1)) (o5 (aI (x9
 .i64 (U6 .i64 (G8 .i64 (dH (x9 .i64 a0 (az .i64 a1 1000000)) 2) 2) 1000000) (dH a1 1000000)) 1000000
 a2) fun x=>l7 (E5 (ieq x.2 0)) (some (0,x.2)) (l7 (ilt (x9 .i64 (G8 .i64 (x9 .i64 a0 (az
 .i64 a1 1000000)) (G8 .i64 (dH (x9 .i64 a0 (az .i64 a1 1000000)) 2) 2)) x.1) (-1000000000000000)) (some (0,3))
 (l7 (ilt 1000000000000000 (x9 .i64 (G8 .i64 (x9 .i64 a0 (az .i64 a1 1000000)) (G8 .i64 (dH (x9
 .i64 a0 (az .i64 a1 1000000)) 2) 2)) x.1)) (some (0,3)) (some (x9 .i64 (G8 .i64 (x9 .i64 a0 (az
 .i64 a1 1000000)) (G8 .i64 (dH (x9 .i64 a0 (az .i64 a1 1000000)) 2) 2)) x.1,0))))) (o5 (aI (x9
 .i64 (U6 .i64 (dH (x9 .i64 a0 (az .i64 a1 1000000)) 2) 1000000) (dH a1 1000000)) 1000000 a2) fun x=>
 l7 (E5 (ieq x.2 0)) (some (0,x.2)) (l7 (ilt (x9 .i64 (G8 .i64 (x9 .i64 a0 (az .i64 a1 1000000)) (dH
 (x9 .i64 a0 (az .i64 a1 1000000)) 2)) x.1) (-1000000000000000)) (some (0,3)) (l7 (ilt 1000000000000000 (x9 .i64 (G8
 .i64 (x9 .i64 a0 (az .i64 a1 1000000)) (dH (x9 .i64 a0 (az .i64 a1 1000000)) 2)) x.1)) (some (0,3))
 (some (x9 .i64 (G8 .i64 (x9 .i64 a0 (az .i64 a1 1000000)) (dH (x9 .i64 a0 (az .i64 a1
 1000000)) 2)) x.1,0))))))))
def b9i:FSpec:=mkS a7U a9v fun x=>qC x.1 x.2.1 x.2.2
def a7I:List MG:=[(true,(.dat y15)),uiM,uiM,uiM]
def a9j:Ret:=⟨[(.tmp 8,uiM),(.tmp 9,uiM)],[]⟩
def c3f:Env:=⟨90,eqs,tt,gl,[(116,a6o),(180,b9h),(181,b9i)],[],[],[],[]⟩
def b4f:Ann:=.seq lfA (.seq (.joinR [(8,10),(19,25)] ⟨[],[]⟩ lfA) (.seq (.joinR [(8,10),(25,35)] ⟨[],[]⟩ lfA) (.seq (.joinR [(8,10),(35,41)] ⟨[],[]⟩ lfA) (.seq lfA (.seq (.seq lfA (.blk (.loopR [(8,12),(13,19),(44,84)] ⟨[(10,uiM),(11,uiM),(44,uiM)],[]⟩ 0 ⟨[(10,uiM),(11,uiM)],[]⟩ lfA))) lfA)))))
def qx (a0:Y4) (a1:Int) (a2:Int) (a3:Int):Option I8:=o5 (l7 (ilt a3 0) (some (.inr (0,1))) (l7 (ilt 5 a3)
 (some (.inr (0,1))) (some (.inl ())))) fun o=>U7 o (fun(x:PUnit)=>o5 (l7 (E5 (U2 (ieq a0.2.1.1 3)
 (ieq a0.2.1.2 0))) (some (.inr (0,8))) (l7 (E5 (U2 (ieq a0.2.2.1.1 4) (ieq a0.2.2.1.2 0))) (some (.inr (0,8))) (some (.inl
 ())))) fun o=>U7 o (fun(x:PUnit)=>o5 (l7 (ilt a2 (-1000000000000000)) (some (.inr (0,3))) (l7 (ilt
 1000000000000000 a2) (some (.inr (0,3))) (some (.inl ())))) fun o=>U7 o (fun(x:PUnit)=>o5 (P5 (fun(x
 :J6)=>l7 (ilt x.2.2 (o8 a0.2.2.2)) (o5 (lat a0.2.2.2 x.2.2) fun x_1=>o5 (dM x_1.1 a1) fun x_2
 =>l7 (E5 x_2) (some (.nx (x.1,x.2.1,x9 .i64 x.2.2 1))) (l7 (ile (jM x_1.2.2.1 a2) (gu x_1.2.1 0)) (some (.nx (x.1,
 x.2.1,x9 .i64 x.2.2 1))) (o5 (jX (G8 .i64 (jM x_1.2.2.1 a2) (gu x_1.2.1 0)) x_1.2.2.2) fun x_3=>l7 (E5 x_3.2.2) (some (.rt (0,3))) (some (.nx (x9 .i64 x.1 x_3.1,x9 .i64 x.2.1 x_3.2.1,x9 .i64
 x.2.2 1)))))) (some (.ex (x.1,x.2.1)))) (0,0,0)) fun o=>U7 o (fun(y:I8)=>o5 (qC y.1 y.2 a3) fun(x
 :I8)=>some x) fun r=>some r) fun r=>some r) fun r=>some r) fun r=>some r
def b8Z:FSpec:=mkS a7I a9j fun x=>qx x.1 x.2.1 x.2.2.1 x.2.2.2
def a7V:List MG:=[ubM]
def a9w:Ret:=⟨[(.cell 2 23,(true,(.dat y1)))],[]⟩
def c3t:Env:=⟨6,eqs,tt,gl,[],[],[],[],[]⟩
def b4s:Ann:=.leaf
def gI (a0:Bool):Option J6:=l7 a0 (some (1,0,1)) (some (1,0,0))
def b2e:FSpec:=mkS a7V a9w fun x=>gI x
def a8e:List MG:=[uiM]
def a9F:Ret:=⟨[(.tmp 2,ubM)],[]⟩
def c3C:Env:=⟨9,eqs,tt,gl,[],[],[],[],[]⟩
def b4B:Ann:=.leaf
def lC (a0:Int):Option Bool:=l7 (ile 0 a0) (some (ile a0 109572)) (some false)
def a6s:FSpec:=mkS a8e a9F fun x=>lC x
def a8t:List MG:=[uiM]
def a9U:Ret:=⟨[(.tmp 2,uiM)],[]⟩
def c3T:Env:=⟨11,eqs,tt,gl,[],[],[],[],[]⟩
def b4Q:Ann:=.leaf
def lw (a0:Int):Option Int:=some (x9 .i64 (G8 .i64 (az .i64 a0 4) (az .i64 a0 100)) (az
 .i64 a0 400))
def b9t:FSpec:=mkS a8t a9U fun x=>lw x
def a8f:List MG:=[uiM]
def a9G:Ret:=⟨[(.tmp 2,uiM)],[]⟩
def c3E:Env:=⟨12,eqs,tt,gl,[(213,b9t)],[],[],[],[]⟩
def b4C:Ann:=.leaf
def gG (a0:Int):Option Int:=o5 (lw (G8 .i64 a0 1)) fun x=>o5 (lw 1899) fun(x_1:
 Int)=>some (G8 .i64 (x9 .i64 (U6 .i64 (G8 .i64 a0 1900) 365) x) x_1)
def b2h:FSpec:=mkS a8f a9G fun x=>gG x
def a8u:List MG:=[uiM]
def a9V:Ret:=⟨[(.tmp 2,ubM)],[]⟩
def c3V:Env:=⟨16,eqs,tt,gl,[],[],[],[],[]⟩
def b4R:Ann:=.leaf
def vg (a0:Int):Option Bool:=l7 (ieq (dH a0 4) 0) (l7 (E5 (ieq (dH a0 100) 0)) (some true) (some (ieq (dH a0 400) 0)))
 (some false)
def b9u:FSpec:=mkS a8u a9V fun x=>vg x
def a8g:List MG:=[uiM,uiM]
def a9H:Ret:=⟨[(.tmp 4,uiM)],[]⟩
def c3F:Env:=⟨21,eqs,tt,gl,[(214,b9u)],[],[],[],[]⟩
def b4D:Ann:=.leaf
def aO (a0:Int) (a1:Int):Option Int:=l7 (ilt a1 1) (some 0) (l7 (ilt 12 a1) (some 0) (l7 (ieq a1 2) (o5 (vg
 a0) fun x=>l7 x (some 29) (o5 (lat [31,28,31,30,31,30,31,31,30,31,30,31] (G8 .i64 a1 1)) fun x=>some
 x)) (o5 (lat [31,28,31,30,31,30,31,31,30,31,30,31] (G8 .i64 a1 1)) fun x=>some x)))
def a6t:FSpec:=mkS a8g a9H fun x=>aO x.1 x.2
def a7W:List MG:=[uiM]
def a9x:Ret:=⟨[(.tmp 2,uiM),(.tmp 3,uiM),(.tmp 4,uiM)],[]⟩
def c3u:Env:=⟨45,eqs,tt,gl,[(196,a6s),(197,b2h),(198,a6t)],[],[],[],[]⟩
def b4t:Ann:=.seq lfA (.seq lfA (.seq lfA (.seq (.blk (.loop [(5,6),(15,22)] ⟨[(5,uiM)],[]⟩ 0 ⟨[(5,uiM)],[]⟩ lfA)) (.seq lfA (.seq (.seq lfA (.blk (.loopR [(2,5),(6,9),(26,45)] ⟨[(6,uiM),(26,uiM)],[]⟩ 2 ⟨[],[]⟩ lfA))) lfA)))))
def lu (a0:Int):Option J6:=o5 (lC a0) fun x=>l7 (E5 x) (some (0,0,0)) (o5 (U9 (fun(x:Int)=>
 o5 (gG (x9 .i64 x 1)) fun x_1=>l7 (ile x_1 a0) (some (.inl (x9 .i64 x 1))) (some (.inr x))) (x9
 .i64 1900 (az .i64 a0 366))) fun y=>o5 (gG y) fun x=>o5 (P5 (fun(x:I8)=>l7 (ilt
 x.2 12) (o5 (aO y (x9 .i64 x.2 1)) fun x_1=>l7 (ilt x.1 x_1) (some (.rt (y,x9 .i64 x.2 1,x9
 .i64 x.1 1))) (some (.nx (G8 .i64 x.1 x_1,x9 .i64 x.2 1)))) (some (.ex ()))) (G8 .i64 a0 x,0)) fun
 (o:PUnit⊕J6)=>U7 o (fun(y:PUnit)=>some (0,0,0)) fun r=>some r)
def a6q:FSpec:=mkS a7W a9x fun x=>lu x
def a7J:List MG:=[uiM,(true,(.dat y1))]
def a9k:Ret:=⟨[(.cell 4 23,(true,(.dat y1)))],[]⟩
def c3g:Env:=⟨36,eqs,tt,gl,[(182,b2e),(183,a6q)],[],[],[],[]⟩
def b4g:Ann:=.leaf
def uy (a0:Int) (a1:J6):Option J6:=l7 (ieq a0 10) (some (a1.1,0,G8 .i64 0 a1.2.2)) (l7 (ieq a0 25) (o5
 (gI (ieq a1.2.2 0)) fun x=>some x) (o5 (lu a1.2.2) fun x=>l7 (ieq a0 31) (some (2,0,x.1)) (some (2,
 0,x.2.1))))
def b9a:FSpec:=mkS a7J a9k fun x=>uy x.1 x.2
def a8h:List MG:=[uiM,uiM]
def a9I:Ret:=⟨[(.tmp 4,uiM),(.tmp 5,uiM)],[]⟩
def c3G:Env:=⟨38,eqs,tt,gl,[(193,a3F)],[],[],[],[]⟩
def b4E:Ann:=.leaf
def lY (a0:Int) (a1:Int):Option I8:=o5 (jr (wrap .u64 (gu a0 (G8 .i64 0 a0))) (wrap .u64 (gu
 a1 (G8 .i64 0 a1)))) fun x=>l7 (E5 (ieq x.1 0)) (some (0,3)) (l7 (ilt 1000000000000000 x.2) (some (0,3)) (l7 (E5
 (bI (ilt a0 0) (ilt a1 0))) (some (G8 .i64 0 (wrap .i64 x.2),0)) (some (wrap .i64 x.2,0))))
def b9m:FSpec:=mkS a8h a9I fun x=>lY x.1 x.2
def a8v:List MG:=[uiM,uiM,uiM,uiM]
def a9W:Ret:=⟨[(.tmp 8,uiM),(.tmp 9,uiM)],[]⟩
def c3W:Env:=⟨72,eqs,tt,gl,[(208,a6u),(209,a6v),(210,b2i),(193,a3F),(194,a6r),(211,b2j),(212,b2k)],[],[],[],[]⟩
def b4S:Ann:=.seq lfA (.seq lfA (.seq lfA (.seq (.joinR [(8,10),(21,31)] ⟨[],[]⟩ lfA) lfA)))
def tK (a0:Int) (a1:Int) (a2:Int) (a3:Int):Option I8:=o5 (iw a3) fun x=>l7 (E5 x) (some (0,
 1)) (l7 (ieq a2 0) (some (0,12)) (o5 (o5 (dW a0 1000000000000000) fun x=>l7 x (some (.inr (0,3))) (o5
 (dW a1 1000000000) fun x=>l7 x (some (.inr (0,3))) (o5 (dW a2 1000000000) fun x=>l7 x (some
 (.inr (0,3))) (some (.inl ()))))) fun o=>U7 o (fun(x:PUnit)=>o5 (dG a0) fun x=>
 o5 (dG a1) fun x_1=>o5 (jr x x_1) fun x=>o5 (dG a2) fun x_2=>l7 (ile x_2
 x.1) (some (0,3)) (o5 (dF x.1 x.2 x_2) fun x=>l7 (ilt 1000000000000000 x.1) (some (0,3)) (o5
 (eP x.1 x.2 x_2 (E5 (bI (E5 (bI (ilt a0 0) (ilt a1 0))) (ilt a2 0))) a3) fun x=>l7 (ilt 1000000000000000 x)
 (some (0,3)) (o5 (qj x (E5 (bI (E5 (bI (ilt a0 0) (ilt a1 0))) (ilt a2 0)))) fun x=>some (x,0))))) fun r
 =>some r))
def b9v:FSpec:=mkS a8v a9W fun x=>tK x.1 x.2.1 x.2.2.1 x.2.2.2
def a8i:List MG:=[uiM,uiM,uiM]
def a9J:Ret:=⟨[(.tmp 6,uiM),(.tmp 7,uiM)],[]⟩
def c3H:Env:=⟨14,eqs,tt,gl,[(215,b9v)],[],[],[],[]⟩
def b4F:Ann:=.leaf
def uJ (a0:Int) (a1:Int) (a2:Int):Option I8:=o5 (tK a0 a1 1000000 a2) fun x=>some x
def b9n:FSpec:=mkS a8i a9J fun x=>uJ x.1 x.2.1 x.2.2
def a8w:List MG:=[uiM]
def a9X:Ret:=⟨[(.tmp 2,ubM)],[]⟩
def c3X:Env:=⟨9,eqs,tt,gl,[],[],[],[],[]⟩
def b4T:Ann:=.leaf
def qm (a0:Int):Option Bool:=l7 (ile 0 a0) (some (ile a0 5)) (some false)
def b2l:FSpec:=mkS a8w a9X fun x=>qm x
def a8x:List MG:=[uiM,uiM]
def a9Y:Ret:=⟨[(.tmp 4,ubM)],[]⟩
def c3Y:Env:=⟨14,eqs,tt,gl,[],[],[],[],[]⟩
def b4U:Ann:=.leaf
def lL (a0:Int) (a1:Int):Option Bool:=l7 (ilt a1 a0) (some true) (some (ilt a0 (G8 .i64 0 a1)))
def b2m:FSpec:=mkS a8x a9Y fun x=>lL x.1 x.2
def a8j:List MG:=[uiM,uiM,uiM]
def a9K:Ret:=⟨[(.tmp 6,uiM),(.tmp 7,uiM)],[]⟩
def c3I:Env:=⟨33,eqs,tt,gl,[(216,b2l),(217,b2m),(195,a3G)],[],[],[],[]⟩
def b4G:Ann:=.leaf
def zW (a0:Int) (a1:Int) (a2:Int):Option I8:=o5 (qm a2) fun x=>l7 (E5 x) (some (0,1)) (o5
 (lL a0 1000000000) fun x=>l7 x (some (0,3)) (o5 (lL a1 1000000000) fun x=>l7 x (some (0,3)) (o5
 (aI (U6 .i64 a0 a1) 1000000 a2) fun x=>l7 (E5 (ieq x.2 0)) (some (0,x.2)) (o5 (lL x.1 1000000000)
 fun x_1=>l7 x_1 (some (0,3)) (some (x.1,0))))))
def b9o:FSpec:=mkS a8j a9K fun x=>zW x.1 x.2.1 x.2.2
def a8k:List MG:=[uiM,uiM,uiM]
def a9L:Ret:=⟨[(.tmp 6,uiM),(.tmp 7,uiM)],[]⟩
def c3J:Env:=⟨38,eqs,tt,gl,[(208,a6u),(209,a6v),(195,a3G)],[],[],[],[]⟩
def b4H:Ann:=.leaf
def nC (a0:Int) (a1:Int) (a2:Int):Option I8:=o5 (iw a2) fun x=>l7 (E5 x) (some (0,1)) (l7
 (ilt a1 1) (some (0,12)) (o5 (dW a0 1000000000000000) fun x=>l7 x (some (0,3)) (l7 (ilt 1000000000000000 a1) (some
 (0,3)) (o5 (aI a0 a1 a2) fun x=>l7 (E5 (ieq x.2 0)) (some (0,x.2)) (o5 (dW (U6 .i64 x.1 a1)
 1000000000000000) fun x_1=>l7 x_1 (some (0,3)) (some (U6 .i64 x.1 a1,0)))))))
def b9p:FSpec:=mkS a8k a9L fun x=>nC x.1 x.2.1 x.2.2
def a8y:List MG:=[(false,(.dat (.int .u64))),(false,(.dat (.int .u64))),(false,(.dat (.int .u64))),ubM,uiM]
def a9Z:Ret:=⟨[(.tmp 10,ubM)],[]⟩
def c3Z:Env:=⟨49,eqs,tt,gl,[],[],[],[],[]⟩
def b4V:Ann:=.leaf
def rP (a0:Int) (a1:Int) (a2:Int) (a3:Bool) (a4:Int):Option Bool:=l7 (ieq a1 0) (some false) (l7 (ieq a4 0) (some a3)
 (l7 (ieq a4 1) (some (E5 a3)) (l7 (ieq a4 3) (some true) (l7 (ieq a4 4) (some (ile (G8 .u64 a2 a1) a1)) (l7 (ieq a4 5) (l7
 (ilt (G8 .u64 a2 a1) a1) (some true) (l7 (ieq a1 (G8 .u64 a2 a1)) (some (ieq (dH a0 2) 1)) (some false))) (some false))))))
def b9w:FSpec:=mkS a8y a9Z fun x=>rP x.1 x.2.1 x.2.2.1 x.2.2.2.1 x.2.2.2.2
def a8l:List MG:=[uiM,uiM,uiM]
def a9M:Ret:=⟨[(.tmp 6,uiM),(.tmp 7,uiM)],[]⟩
def c3K:Env:=⟨73,eqs,tt,gl,[(216,b2l),(217,b2m),(193,a3F),(194,a6r),(218,b9w)],[],[],[],[]⟩
def b4I:Ann:=.leaf
def lK (a0:Int) (a1:Int) (a2:Int):Option I8:=o5 (qm a2) fun x=>l7 (E5 x) (some (0,1)) (l7
 (ieq a1 0) (some (0,12)) (o5 (lL a0 1000000000000000) fun x=>l7 x (some (0,3)) (o5 (lL a1 1000000000000000)
 fun x=>l7 x (some (0,3)) (o5 (jr (wrap .u64 (gu a0 (G8 .i64 0 a0))) 1000000) fun x=>l7 (ile
 (wrap .u64 (gu a1 (G8 .i64 0 a1))) x.1) (some (0,3)) (o5 (dF x.1 x.2 (wrap .u64 (gu a1 (G8 .i64
 0 a1)))) fun x=>l7 (ilt 1000000000 x.1) (some (0,3)) (o5 (rP x.1 x.2 (wrap .u64 (gu a1 (G8 .i64 0
 a1))) (E5 (bI (ilt a0 0) (ilt a1 0))) a2) fun x_1=>l7 x_1 (l7 (ilt 1000000000 (x9 .i64 (wrap .i64 x.1) 1)) (some
 (0,3)) (l7 (E5 (bI (ilt a0 0) (ilt a1 0))) (some (G8 .i64 0 (x9 .i64 (wrap .i64 x.1) 1),0)) (some (x9 .i64
 (wrap .i64 x.1) 1,0)))) (l7 (ilt 1000000000 (wrap .i64 x.1)) (some (0,3)) (l7 (E5 (bI (ilt a0 0) (ilt a1 0))) (some (G8
 .i64 0 (wrap .i64 x.1),0)) (some (wrap .i64 x.1,0))))))))))
def b9q:FSpec:=mkS a8l a9M fun x=>lK x.1 x.2.1 x.2.2
def a7X:List MG:=[(true,(.dat y0)),(true,(.dat y1)),(true,(.dat y1))]
def a9y:Ret:=⟨[(.cell 6 23,(true,(.dat y1))),(.tmp 7,uiM)],[]⟩
def c3v:Env:=⟨105,eqs,tt,gl,[(199,b9m),(200,b9n),(201,b9o),(202,b9p),(195,a3G),(203,b9q)],[],[],[],[]⟩
def b4u:Ann:=.seq lfA (.seq lfA (.seq (.blk (.seq lfA (.cond lfA (.seq (.join [(38,47)] ⟨[(38,ubM)],[]⟩ lfA) lfA)))) lfA))
def oP (a0:I8) (a1:J6) (a2:J6):Option (J6×Int):=l7 (ieq a0.1 13) (o5 (lY a1.2.2 a2.2.2) fun(x:
 I8)=>some ((a1.1,0,x.1),x.2)) (o5 (l7 (ieq a0.1 14) (some (ieq a1.1 3)) (some false)) fun x=>l7 x (o5 (uJ
 a1.2.2 a2.2.2 a0.2) fun x=>some ((a1.1,0,x.1),x.2)) (l7 (ieq a0.1 14) (o5 (zW a1.2.2 a2.2.2 a0.2) fun x=>some
 ((a1.1,0,x.1),x.2)) (l7 (ieq a0.1 16) (o5 (nC a1.2.2 a2.2.2 a0.2) fun x=>some ((a1.1,0,x.1),x.2)) (l7 (ieq a2.1
 2) (o5 (aI a1.2.2 a2.2.2 a0.2) fun x=>some ((a1.1,0,x.1),x.2)) (o5 (lK a1.2.2 a2.2.2 a0.2) fun(x:
 I8)=>some ((4,0,x.1),x.2))))))
def b9j:FSpec:=mkS a7X a9y fun x=>oP x.1 x.2.1 x.2.2
def a8m:List MG:=[uiM,uiM,uiM]
def a9N:Ret:=⟨[(.tmp 6,uiM),(.tmp 7,uiM)],[]⟩
def c3M:Env:=⟨53,eqs,tt,gl,[(198,a6t),(197,b2h)],[],[],[],[]⟩
def b4J:Ann:=.seq lfA (.seq (.joinR [(6,8),(10,35)] ⟨[],[]⟩ lfA) (.seq lfA (.seq (.seq lfA (.blk (.loop [(8,10),(39,49)] ⟨[(8,uiM),(39,uiM)],[]⟩ 0 ⟨[(8,uiM)],[]⟩ lfA))) lfA)))
def sW (a0:Int) (a1:Int) (a2:Int):Option I8:=o5 (l7 (ilt a0 1900) (some (.inr (0,3))) (l7 (ilt 2199 a0) (some
 (.inr (0,3))) (l7 (ilt a1 1) (some (.inr (0,3))) (l7 (ilt 12 a1) (some (.inr (0,3))) (l7 (ilt a2 1) (some (.inr (0,3)))
 (o5 (aO a0 a1) fun x=>l7 (ilt x a2) (some (.inr (0,3))) (some (.inl ())))))))) fun o
 =>U7 o (fun(x:PUnit)=>o5 (gG a0) fun x=>o5 (U9 (fun(x:I8)=>l7 (ilt x.2 (G8 .i64 a1 1))
 (o5 (aO a0 (x9 .i64 x.2 1)) fun x_1=>some (.inl (x9 .i64 x.1 x_1,x9 .i64 x.2 1))) (some
 (.inr x.1))) (x,0)) fun y=>some (G8 .i64 (x9 .i64 y a2) 1,0)) fun r=>some r
def b9r:FSpec:=mkS a8m a9N fun x=>sW x.1 x.2.1 x.2.2
def a7Y:List MG:=[uiM,uiM]
def a9z:Ret:=⟨[(.tmp 4,uiM),(.tmp 5,uiM)],[]⟩
def c3w:Env:=⟨57,eqs,tt,gl,[(196,a6s),(183,a6q),(198,a6t),(204,b9r)],[],[],[],[]⟩
def b4v:Ann:=.seq lfA (.seq (.joinR [(4,6),(10,21)] ⟨[],[]⟩ lfA) lfA)
def jv (a0:Int) (a1:Int):Option I8:=o5 (o5 (lC a0) fun x=>l7 (E5 x) (some (.inr (0,3)))
 (l7 (ilt a1 (-3600)) (some (.inr (0,3))) (l7 (ilt 3600 a1) (some (.inr (0,3))) (some (.inl ()))))) fun o
 =>U7 o (fun(x:PUnit)=>o5 (lu a0) fun x=>l7 (ilt (x9 .i64 (G8 .i64 (x9 .i64 (U6
 .i64 (G8 .i64 x.1 1900) 12) x.2.1) 1) a1) 0) (some (0,3)) (l7 (ilt 3599 (x9 .i64 (G8 .i64 (x9 .i64
 (U6 .i64 (G8 .i64 x.1 1900) 12) x.2.1) 1) a1)) (some (0,3)) (o5 (aO (x9 .i64 1900 (az .i64
 (x9 .i64 (G8 .i64 (x9 .i64 (U6 .i64 (G8 .i64 x.1 1900) 12) x.2.1) 1) a1) 12)) (x9 .i64 (dH
 (x9 .i64 (G8 .i64 (x9 .i64 (U6 .i64 (G8 .i64 x.1 1900) 12) x.2.1) 1) a1) 12) 1)) fun x_1=>
 o5 (sW (x9 .i64 1900 (az .i64 (x9 .i64 (G8 .i64 (x9 .i64 (U6 .i64 (G8
 .i64 x.1 1900) 12) x.2.1) 1) a1) 12)) (x9 .i64 (dH (x9 .i64 (G8 .i64 (x9 .i64 (U6 .i64 (G8
 .i64 x.1 1900) 12) x.2.1) 1) a1) 12) 1) (jM x.2.2 x_1)) fun x=>some x))) fun r=>some r
def b2f:FSpec:=mkS a7Y a9z fun x=>jv x.1 x.2
def a7Z:List MG:=[uiM,uiM]
def a9A:Ret:=⟨[(.tmp 4,uiM)],[]⟩
def c3x:Env:=⟨60,eqs,tt,gl,[(196,a6s),(183,a6q),(185,b2f)],[],[],[],[]⟩
def b4w:Ann:=.leaf
def eY (a0:Int) (a1:Int):Option Int:=o5 (lC a0) fun x=>l7 (E5 x) (some 0) (o5 (lC a1) fun
 (x:Bool)=>l7 (E5 x) (some 0) (l7 (ilt a1 a0) (some 0) (o5 (lu a0) fun x=>o5 (lu a1) fun x_1
 =>o5 (jv a0 (U6 .i64 12 (G8 .i64 x_1.1 x.1))) fun x_2=>l7 (E5 (ieq x_2.2 0)) (some (gu (G8
 .i64 (G8 .i64 x_1.1 x.1) 1) 0)) (l7 (ilt a1 x_2.1) (some (gu (G8 .i64 (G8 .i64 x_1.1 x.1) 1) 0)) (some (gu
 (G8 .i64 x_1.1 x.1) 0))))))
def b9k:FSpec:=mkS a7Z a9A fun x=>eY x.1 x.2
def a7K:List MG:=[(true,(.dat y0)),(true,(.dat y1)),(true,(.dat y1))]
def a9l:Ret:=⟨[(.cell 6 23,(true,(.dat y1))),(.tmp 7,uiM)],[]⟩
def c3h:Env:=⟨139,eqs,tt,gl,[(184,b9j),(182,b2e),(185,b2f),(186,b9k)],[],[],[],[]⟩
def b4h:Ann:=.seq lfA (.seq (.joinR [(6,133),(4000384,4000385)] ⟨[(6,(false,(.box (.dat y1))))],[]⟩ (.seq lfA (.blk (.seq (.join [(12,15)] ⟨[(12,ubM)],[]⟩ lfA) (.cond lfA (.seq lfA (.cond lfA (.seq (.join [(33,38)] ⟨[(33,ubM)],[]⟩ lfA) (.cond lfA (.seq (.join [(44,47)] ⟨[(44,ubM)],[]⟩ lfA) lfA)))))))))) lfA)
def bf (a0:I8) (a1:J6) (a2:J6):Option (J6×Int):=o5 (o5 (l7 (ieq a0.1 11) (some (ieq a0.1 11)) (some (ieq
 a0.1 27))) fun x=>l7 x (some (.inr ((a1.1,0,x9 .i64 a1.2.2 a2.2.2),0))) (l7 (ieq a0.1 12) (some (.inr ((a1.1,0,
 G8 .i64 a1.2.2 a2.2.2),0))) (o5 (l7 (ieq a0.1 13) (some (ieq a0.1 13)) (l7 (ieq a0.1 14) (some (ieq a0.1 14)) (l7 (ieq a0.1 15)
 (some (ieq a0.1 15)) (some (ieq a0.1 16))))) fun x=>l7 x (o5 (oP a0 a1 a2) fun x=>some (.inr x))
 (o5 (l7 (ieq a0.1 17) (some (ieq a0.1 17)) (some (ieq a0.1 18))) fun x=>l7 x (l7 (bI (ieq a0.1 17) (ilt a2.2.2 a1.2.2))
 (some (.inr (a2,0))) (some (.inr (a1,0)))) (l7 (ieq a0.1 19) (o5 (gI (ieq a1.2.2 a2.2.2)) fun x=>some (.inr (x,
 0))) (l7 (ieq a0.1 20) (o5 (gI (E5 (ieq a1.2.2 a2.2.2))) fun x=>some (.inr (x,0))) (l7 (ieq a0.1 21) (o5
 (gI (ilt a1.2.2 a2.2.2)) fun x=>some (.inr (x,0))) (l7 (ieq a0.1 22) (o5 (gI (ile a1.2.2 a2.2.2)) fun(x:
 J6)=>some (.inr (x,0))) (l7 (ieq a0.1 23) (l7 (ieq a1.2.2 1) (o5 (gI (ieq a2.2.2 1)) fun x=>some (.inr (x,
 0))) (o5 (gI false) fun x=>some (.inr (x,0)))) (l7 (ieq a0.1 24) (l7 (ieq a1.2.2 1) (o5 (gI true) fun(x
 :J6)=>some (.inr (x,0))) (o5 (gI (ieq a2.2.2 1)) fun x=>some (.inr (x,0)))) (l7 (ieq a0.1 28) (o5
 (jv a1.2.2 a2.2.2) fun x=>some (.inr ((5,0,x.1),x.2))) (l7 (ieq a0.1 29) (some (.inr ((2,0,G8 .i64
 a2.2.2 a1.2.2),0))) (some (.inl (0,0,0))))))))))))))) fun o=>U7 o (fun(x:J6)=>o5 (eY
 a1.2.2 a2.2.2) fun x=>some ((2,0,x),0)) fun r=>some r
def b9b:FSpec:=mkS a7K a9l fun x=>bf x.1 x.2.1 x.2.2
def a7w:List MG:=[(true,(.dat y0)),(false,(.dat y36)),(true,(.dat y55))]
def a8X:Ret:=⟨[(.cell 6 23,(true,(.dat y1))),(.tmp 7,uiM)],[]⟩
def c2S:Env:=⟨165,eqs,tt,gl,[(164,b8X),(165,b8Y),(166,b8Z),(167,b9a),(168,b9b)],[],[],[],[]⟩
def b3T:Ann:=.seq lfA (.seq (.joinR [(6,132),(4000384,4000385)] ⟨[(6,(false,(.box (.dat y1))))],[]⟩ (.seq lfA (.blk (.seq (.join [(15,21)] ⟨[(15,ubM)],[]⟩ lfA) (.cond lfA (.seq lfA (.cond lfA (.seq lfA (.cond lfA (.seq lfA (.cond lfA (.seq lfA (.cond lfA (.seq lfA (.cond lfA (.seq (.join [(62,67)] ⟨[(62,ubM)],[]⟩ lfA) lfA)))))))))))))))) lfA)
def J8 (a0:I8) (a1:List J6) (a2:X9):Option (J6×Int):=o5 (o5 (l7 (ieq a0.1 1) (some (ieq a0.1 1)) (l7
 (ieq a0.1 2) (some (ieq a0.1 2)) (l7 (ieq a0.1 3) (some (ieq a0.1 3)) (l7 (ieq a0.1 4) (some (ieq a0.1 4)) (some (ieq a0.1 5)))))) fun(x:
 Bool)=>l7 x (some (.inr ((a0.1,0,a0.2),0))) (l7 (ieq a0.1 6) (some (.inr ((6,az .i64 a0.2 16,dH a0.2 16),0))) (l7
 (ieq a0.1 7) (o5 (lat a2.2.1 a0.2) fun x=>some (.inr (x,0))) (l7 (ieq a0.1 8) (o5 (lat a2.2.2.1 a0.2) fun x=>
 some (.inr (x,0))) (l7 (ieq a0.1 9) (some (.inr ((5,0,a2.1),0))) (l7 (ieq a0.1 35) (some (.inr ((2,0,o8 a2.2.2.2.1),0)))
 (o5 (l7 (ieq a0.1 36) (some (ieq a0.1 36)) (l7 (ieq a0.1 37) (some (ieq a0.1 37)) (l7 (ieq a0.1 38) (some (ieq a0.1 38)) (some (ieq a0.1
 39))))) fun x=>l7 x (o5 (jy a0 a2) fun x=>some (.inr x)) (l7 (ieq a0.1 33) (o5 (lat
 a2.2.2.2.2.2 a0.2) fun x=>o5 (lat a1 0) fun x_1=>o5 (tY x a2.1 x_1.2.2) fun x_2=>l7
 (E5 x_2.2) (some (.inr ((0,0,0),6))) (o5 (lat x.2.2.2 x_2.1) fun x_3=>some (.inr ((x.2.2.1.1,x.2.2.1.2,x_3.2.2.2),0))))
 (l7 (ieq a0.1 34) (o5 (lat a2.2.2.2.2.2 (az .i64 a0.2 8)) fun x=>o5 (lat a1 0) fun x_1=>o5
 (qx x a2.1 x_1.2.2 (dH a0.2 8)) fun x=>some (.inr ((3,0,x.1),x.2))) (some (.inl (0,0,0)))))))))))) fun(o:
 J6⊕J6×Int)=>U7 o (fun(x:J6)=>l7 (ieq (o8 a1) 1) (o5 (lat a1 0) fun x=>o5 (uy a0.1 x) fun(x
 :J6)=>some (x,0)) (l7 (ieq (o8 a1) 2) (o5 (lat a1 0) fun x=>o5 (lat a1 1) fun x_1=>o5 (bf a0
 x x_1) fun x=>some x) (o5 (lat a1 0) fun x=>l7 (ieq x.2.2 1) (o5 (lat a1 1) fun x=>some (x,0))
 (o5 (lat a1 2) fun x=>some (x,0))))) fun r=>some r
def b8R:FSpec:=mkS a7w a8X fun x=>J8 x.1 x.2.1 x.2.2
def a7m:List MG:=[(true,(.dat y0)),(false,(.dat y36)),(true,(.dat y55))]
def a8N:Ret:=⟨[(.cell 6 23,(true,(.dat y1))),(.tmp 7,uiM)],[]⟩
def c2G:Env:=⟨54,eqs,tt,gl,[(143,b8N),(141,a0n),(144,b8O),(145,b8P),(146,b8Q),(147,b8R),(148,Wi)],[],[],[],[]⟩
def b3I:Ann:=.seq lfA (.seq (.joinR [(6,8),(10,22),(4000384,4000385)] ⟨[(6,(false,(.box (.dat y1))))],[]⟩ lfA) lfA)
def oK (a0:I8) (a1:List J6) (a2:X9):Option (J6×Int):=o5 (o5 (ik a0) fun x=>l7 (E5
 x) (some (.inr ((0,0,0),2))) (o5 (fE a0.1) fun x=>l7 (E5 (ieq (o8 a1) x)) (some (.inr ((0,0,0),2))) (some
 (.inl (0,0,0))))) fun o=>U7 o (fun(x:J6)=>o5 (aG a0 a2) fun x=>l7 (E5 x)
 (some ((0,0,0),6)) (o5 (kR a1) fun x=>l7 (E5 x) (some ((0,0,0),8)) (o5 (J7 a0 a1 a2) fun(x:
 Bool)=>l7 (E5 x) (some ((0,0,0),8)) (o5 (J8 a0 a1 a2) fun x=>l7 (E5 (ieq x.2 0)) (some ((0,0,0),
 x.2)) (o5 (Y5 x.1) fun x_1=>l7 (E5 x_1) (some ((0,0,0),3)) (some (x.1,0))))))) fun r=>some r
def b8H:FSpec:=mkS a7m a8N fun x=>oK x.1 x.2.1 x.2.2
def a2B:List MG:=[(true,(.dat y71)),uiM]
def a0f:List MG:=[(true,(.dat y71)),uiM]
def a2A:List MG:=[(true,(.dat y71)),(true,(.dat y0)),(false,(.dat y46))]
def b7i:Ret:=⟨[(.cell 4 23,(true,(.dat y1))),(.tmp 5,uiM)],[]⟩
def c2N (r142:M.den (.dat y71)→M.den diM→Option (ax ([(true,(.dat y1)),uiM]++[]))) (r95:M.den (.dat y71)→M.den diM→Option (ax ([(true,(.dat y1)),uiM]++[]))) (r122:M.den (.dat y71)→M.den (.dat y0)→M.den (.dat y46)→Option (ax ([(true,(.dat y1)),uiM]++[]))):Env:=⟨28,eqs,tt,gl,[(95,⟨a0f,[(true,(.dat y1)),uiM],[],fun x=>r95 x.1 x.2⟩),(148,Wi)],[],[],[],[]⟩
def b3O:Ann:=.leaf
def fQ (r142:L6→Int→Option (J6×Int)) (r95:L6→Int→Option (J6×Int)) (r122:
 L6→I8→List Int→Option (J6×Int)) (a0:L6) (a1:Int):Option (J6×Int):=o5 (r95 a0 a1) fun(x:
 J6×Int)=>l7 (E5 (ieq x.2 0)) (some ((0,0,0),x.2)) (l7 (E5 (ieq x.1.1 1)) (some ((0,0,0),8)) (o5 (Y5 x.1) fun
 (x_1:Bool)=>l7 (E5 x_1) (some ((0,0,0),8)) (some (x.1,0))))
def b8w:Ret:=⟨[(.cell 4 23,(true,(.dat y1))),(.tmp 5,uiM)],[]⟩
def e95 (r142:M.den (.dat y71)→M.den diM→Option (ax ([(true,(.dat y1)),uiM]++[]))) (r95:M.den (.dat y71)→M.den diM→Option (ax ([(true,(.dat y1)),uiM]++[]))) (r122:M.den (.dat y71)→M.den (.dat y0)→M.den (.dat y46)→Option (ax ([(true,(.dat y1)),uiM]++[]))):Env:=⟨65,eqs,tt,gl,[(121,b8G),(122,⟨a2A,[(true,(.dat y1)),uiM],[],fun x=>r122 x.1 x.2.1 x.2.2⟩),(95,⟨a0f,[(true,(.dat y1)),uiM],[],fun x=>r95 x.1 x.2⟩),(123,b8H)],[],[],[],[]⟩
def c2o:Ann:=.seq lfA (.seq lfA (.seq lfA (.seq (.joinR [(4,6),(21,33),(4000256,4000257)] ⟨[(4,(false,(.box (.dat y1))))],[]⟩ lfA) (.seq lfA (.seq (.seq lfA (.blk (.loopR [(4,6),(8,13),(38,58),(12000000,12000001),(37002240,37002241)] ⟨[(4,(false,(.box (.dat y1)))),(8,(false,(.own y1))),(38,uiM)],[]⟩ 1 ⟨[(4,(false,(.box (.dat y1)))),(8,(false,(.own y1)))],[]⟩ lfA))) lfA)))))
def iW (r142:L6→Int→Option (J6×Int)) (r95:L6→Int→Option (J6×Int)) (r122:
 L6→I8→List Int→Option (J6×Int)) (a0:L6) (a1:Int):Option (J6×Int):=o5 (lat a0.1 a1) fun(x:
 I8)=>o5 (bV a0 a1) fun x_1=>o5 (l7 (ieq x.1 23) (l7 (ieq x.1 23) (o5 (r122 a0 x x_1) fun(x:
 J6×Int)=>some (.inr x)) (some (.inl (0,0,0)))) (l7 (ieq x.1 24) (l7 (ieq x.1 24) (o5 (r122 a0 x x_1) fun x
 =>some (.inr x)) (some (.inl (0,0,0)))) (l7 (ieq x.1 26) (o5 (r122 a0 x x_1) fun x=>some (.inr x)) (some
 (.inl (0,0,0)))))) fun o=>U7 o (fun(x_2:J6)=>o5 (jg (o8 x_1) (0,0,0)) fun x_3=>
 o5 (P5 (fun(x:J6×List J6×Int)=>l7 (ilt x.2.2 (o8 x_1)) (o5 (lat x_1 x.2.2) fun x_4=>o5 (J9 x_1 (toN
 x.2.2)) fun x_5=>o5 (r95 a0 x_5) fun x_6=>l7 (E5 (ieq x_6.2 0)) (some (.rt ((0,0,0),x_6.2))) (o5 (lat
 x.2.1 x.2.2) fun x_7=>o5 (J9 x.2.1 (toN x.2.2)) fun x_8=>some (.nx (x.1,P8 x.2.1 (toN x.2.2) x_6.1,x9
 .i64 x.2.2 1)))) (some (.ex (x.1,x.2.1)))) (x_2,x_3,0)) fun o=>U7 o (fun(y:J6×List
 J6)=>o5 (oK x y.2 a0.2.2) fun x=>some x) fun r=>some r) fun r=>some r
def b7f:Ret:=⟨[(.cell 6 23,(true,(.dat y1))),(.tmp 7,uiM)],[]⟩
def c2F (r142:M.den (.dat y71)→M.den diM→Option (ax ([(true,(.dat y1)),uiM]++[]))) (r95:M.den (.dat y71)→M.den diM→Option (ax ([(true,(.dat y1)),uiM]++[]))) (r122:M.den (.dat y71)→M.den (.dat y0)→M.den (.dat y46)→Option (ax ([(true,(.dat y1)),uiM]++[]))):Env:=⟨69,eqs,tt,gl,[(142,⟨a2B,[(true,(.dat y1)),uiM],[],fun x=>r142 x.1 x.2⟩),(95,⟨a0f,[(true,(.dat y1)),uiM],[],fun x=>r95 x.1 x.2⟩)],[],[],[],[]⟩
def b3H:Ann:=.seq lfA (.seq lfA (.seq lfA (.seq lfA (.seq (.blk (.seq (.join [(26,35)] ⟨[(26,ubM)],[]⟩ lfA) lfA)) lfA))))
def dQ (r142:L6→Int→Option (J6×Int)) (r95:L6→Int→Option (J6×Int)) (r122:
 L6→I8→List Int→Option (J6×Int)) (a0:L6) (a1:I8) (a2:List Int):Option (J6×Int):=l7
 (E5 (ieq a1.2 0)) (some ((0,0,0),2)) (o5 (lat a2 0) fun x=>o5 (r142 a0 x) fun x=>l7 (E5 (ieq x.2 0))
 (some ((0,0,0),x.2)) (o5 (l7 (ieq a1.1 26) (some (ieq x.1.2.2 1)) (some false)) fun x_1=>l7 x_1 (o5 (lat a2 1) fun(x:
 Int)=>o5 (r95 a0 x) fun x=>some x) (l7 (ieq a1.1 26) (o5 (lat a2 2) fun x=>o5 (r95 a0 x) fun x=>some x) (l7 (bI (ieq a1.1 23) (ieq x.1.2.2 0)) (some (x.1,0)) (o5 (lat a2 1) fun x=>o5 (r142 a0 x) fun x=>some x)))))
def x8:Nat→(M.den (.dat y71)→M.den diM→Option (ax ([(true,(.dat y1)),uiM]++[])))×(M.den (.dat y71)→M.den diM→Option (ax ([(true,(.dat y1)),uiM]++[])))×(M.den (.dat y71)→M.den (.dat y0)→M.den (.dat y46)→Option (ax ([(true,(.dat y1)),uiM]++[])))
 | 0=>(fun a0 a1=>none,fun a0 a1=>none,fun a0 a1 a2=>none)
 | n+1=>(fun a0 a1=>fQ (x8 n).1 (x8 n).2.1 (x8 n).2.2 a0 a1,fun a0 a1=>iW (x8 n).1 (x8 n).2.1 (x8 n).2.2 a0 a1,fun a0 a1 a2=>dQ (x8 n).1 (x8 n).2.1 (x8 n).2.2 a0 a1 a2)
def mV:M.den (.dat y71)→M.den diM→Option (ax ([(true,(.dat y1)),uiM]++[])):=fun a0 a1=>(x8 dK).2.1 a0 a1
def s95:FSpec:=mkS a0f b8w fun x=>mV x.1 x.2
def b6G:List MG:=[(false,(.dat y19)),(true,(.dat y55))]
def b8d:Ret:=⟨[(.cell 4 23,(true,(.dat y1))),(.tmp 5,uiM)],[]⟩
def e64:Env:=⟨27,eqs,tt,gl,[(94,s94),(95,s95)],[],[],[],[]⟩
def c1T:Ann:=.leaf
def wG (a0:List I8) (a1:X9):Option (J6×Int):=o5 (zi a0) fun x=>l7 (E5 (ieq x.2 0))
 (some ((0,0,0),x.2)) (o5 (mV (a0,x.1,a1) (G8 .i64 (o8 a0) 1)) fun x=>some x)
def s64:FSpec:=mkS b6G b8d fun x=>wG x.1 x.2
def a7h:List MG:=[(false,(.dat y46)),(false,(.dat y46))]
def a8I:Ret:=⟨[(.tmp 4,uiM)],[]⟩
def c2z:Env:=⟨42,eqs,tt,gl,[],[],[],[],[]⟩
def b3C:Ann:=.seq lfA (.seq lfA (.seq lfA (.seq (.seq lfA (.blk (.loopR [(4,7),(17,42)] ⟨[(17,uiM)],[]⟩ 0 ⟨[],[]⟩ lfA))) lfA)))
def kV (a0:List Int) (a1:List Int):Option Int:=l7 (E5 (ieq (o8 a0) (o8 a1))) (some 2) (l7 (ilt 8 (o8 a0)) (some
 4) (o5 (P5 (fun(x:Int)=>l7 (ilt x (o8 a0)) (o5 (lat a0 x) fun x_1=>l7 (ilt x_1 (-1)) (some (.rt 9)) (l7 (ile x
 x_1) (some (.rt 9)) (o5 (lat a1 x) fun x_2=>l7 (ilt x_2 0) (some (.rt 3)) (o5 (lat a1 x) fun x_3=>l7 (ilt 9
 x_3) (some (.rt 3)) (some (.nx (x9 .i64 x 1))))))) (some (.ex ()))) 0) fun o=>U7 o (fun(y:PUnit)=>
 some 0) fun r=>some r))
def b8E:FSpec:=mkS a7h a8I fun x=>kV x.1 x.2
def a7A:List MG:=[(false,(.dat y46)),uiM]
def a9b:Ret:=⟨[(.tmp 4,uoM)],[]⟩
def c2X:Env:=⟨24,eqs,tt,gl,[],[],[],[],[]⟩
def b3X:Ann:=.seq lfA (.seq lfA (.seq (.seq lfA (.blk (.loop [(5,8),(10,23)] ⟨[(5,uoM),(10,uiM)],[]⟩ 0 ⟨[(5,uoM)],[]⟩ lfA))) lfA))
def kU (a0:List Int) (a1:Int):Option (List Int):=o5 (U9 (fun(x:List Int×Int)=>l7 (ilt x.2 (o8 a0)) (o5
 (lat a0 x.2) fun x_1=>l7 (ieq x_1 a1) (o5 (cO x.1 [x.2]) fun x_2=>some (.inl (x_2,x9 .i64 x.2 1)))
 (some (.inl (x.1,x9 .i64 x.2 1)))) (some (.inr x.1))) ([],0)) fun y=>some y
def b8T:FSpec:=mkS a7A a9b fun x=>kU x.1 x.2
def a7q:List MG:=[(true,(.dat y73)),uiM]
def a8R:Ret:=⟨[(.tmp 4,uoM)],[]⟩
def c2K:Env:=⟨67,eqs,tt,gl,[(158,b8T)],[],[],[],[]⟩
def b3M:Ann:=.seq lfA (.seq lfA (.seq (.seq lfA (.blk (.loop [(5,6),(7,8),(13,66)] ⟨[(5,uoM),(13,uiM)],[]⟩ 0 ⟨[(5,uoM)],[]⟩ (.seq lfA (.seq lfA (.seq (.blk (.seq lfA (.seq lfA (.seq (.join [(5,6),(23,43),(14000000,14000001)] ⟨[(5,uoM)],[]⟩ lfA) lfA)))) lfA)))))) lfA))
def jV (a0:dh) (a1:Int):Option (List Int):=o5 (kU a0.1 a1) fun x=>o5 (U9
 (fun(x_1:List Int×Int)=>l7 (ilt x_1.2 (o8 x)) (o5 (lat x x_1.2) fun x_2=>o5 (J9 x (toN x_1.2)) fun x=>o5
 (lat a0.2.2 x) fun x_3=>l7 (ieq x_3 (-1)) (some (.inl (x_1.1,x9 .i64 x_1.2 1))) (o5 (l7 (ilt 0 (o8 x_1.1)) (o5
 (lat a0.2.1 x) fun x=>o5 (lat x_1.1 0) fun x_4=>o5 (J9 x_1.1 (toN 0)) fun x_5=>o5 (lat a0.2.1 x_5) fun(x_6
 :Int)=>l7 (ilt x_6 x) (l7 (jf 0 0 (o8 x_1.1)) (some (gp x_1.1 (toN 0) (toN 0))) none) (some x_1.1)) (some x_1.1)) fun x_4=>l7 (ieq (o8 x_4) 0) (o5 (cO x_4 [x]) fun x=>some (.inl (x,x9 .i64 x_1.2 1))) (o5 (lat a0.2.1 x) fun
 (x_5:Int)=>o5 (lat x_4 0) fun x_6=>o5 (J9 x_4 (toN 0)) fun x_7=>o5 (lat a0.2.1 x_7) fun x_8=>l7 (ieq
 x_5 x_8) (o5 (cO x_4 [x]) fun x=>some (.inl (x,x9 .i64 x_1.2 1))) (some (.inl (x_4,x9 .i64 x_1.2
 1)))))) (some (.inr x_1.1))) ([],0)) fun y=>some y
def b8M:FSpec:=mkS a7q a8R fun x=>jV x.1 x.2
def a7j:List MG:=[(true,(.dat y73)),uiM]
def a8K:Ret:=⟨[(.tmp 4,uiM)],[]⟩
def c2B:Env:=⟨22,eqs,tt,gl,[(140,b8M)],[],[],[],[]⟩
def b3E:Ann:=.leaf
def aj (a0:dh) (a1:Int):Option Int:=o5 (jV a0 a1) fun x=>l7 (ieq (o8
 x) 0) (some (-1)) (l7 (ieq (o8 x) 1) (o5 (lat x 0) fun x_1=>o5 (J9 x (toN 0)) fun x=>o5 (lat a0.2.2 x) fun(x:
 Int)=>some x) (some (-2)))
def b1X:FSpec:=mkS a7j a8K fun x=>aj x.1 x.2
def a7i:List MG:=[(false,(.dat y46)),(false,(.dat y46)),(false,(.dat (.sl .bool)))]
def a8J:Ret:=⟨[(.tmp 6,uoM)],[]⟩
def c2A:Env:=⟨48,eqs,tt,gl,[(119,b1X)],[],[],[],[]⟩
def b3D:Ann:=.seq lfA (.seq lfA (.seq (.seq lfA (.blk (.loop [(7,9),(18,46),(7000448,7000449),(7000832,7000833)] ⟨[(7,(false,(.box (.pair (.dat y46) (.pair (.dat y46) oiM))))),(8,uiM)],[]⟩ 0 ⟨[(7,(false,(.box (.pair (.dat y46) (.pair (.dat y46) oiM)))))],[]⟩ lfA))) lfA))
def kW (a0:List Int) (a1:List Int) (a2:List Bool):Option (List Int):=o5 (jg (o8 a0) 0) fun x=>o5
 (U9 (fun(x:dh×Int)=>l7 (ile 0 x.2) (o5 (aj x.1 x.2) fun x_1=>o5 (lat x.1.2.2 x.2) fun
 (x_2:Int)=>o5 (J9 x.1.2.2 (toN x.2)) fun x_3=>o5 (lat (P8 x.1.2.2 (toN x.2) x_1) x.2) fun x_4=>o5 (J9 (P8
 x.1.2.2 (toN x.2) x_1) (toN x.2)) fun x_5=>l7 (ieq x_5 (-1)) (o5 (lat a2 x.2) fun x_6=>l7 x_6 (o5 (lat (P8 x.1.2.2
 (toN x.2) x_1) x.2) fun x_7=>o5 (J9 (P8 x.1.2.2 (toN x.2) x_1) (toN x.2)) fun x_8=>some (.inl ((x.1.1,x.1.2.1,P8
 (P8 x.1.2.2 (toN x.2) x_1) (toN x.2) x.2),G8 .i64 x.2 1))) (some (.inl ((x.1.1,x.1.2.1,P8 x.1.2.2 (toN x.2) x_1),G8 .i64
 x.2 1)))) (some (.inl ((x.1.1,x.1.2.1,P8 x.1.2.2 (toN x.2) x_1),G8 .i64 x.2 1)))) (some (.inr x.1))) ((a0,a1,x),G8
 .i64 (o8 a0) 1)) fun y=>some y.2.2
def b8F:FSpec:=mkS a7i a8J fun x=>kW x.1 x.2.1 x.2.2
def b6X:List MG:=[(false,(.dat y46)),(false,(.dat y46)),(false,(.dat (.sl .bool)))]
def b8u:Ret:=⟨[(.tmp 6,uiM)],[]⟩
def e93:Env:=⟨26,eqs,tt,gl,[(117,b8E),(118,b8F),(119,b1X)],[],[],[],[]⟩
def c2l:Ann:=.leaf
def oD (a0:List Int) (a1:List Int) (a2:List Bool):Option Int:=o5 (kV a0 a1) fun x=>l7 (E5 (ieq
 x 0)) (some (-1)) (l7 (E5 (ieq (o8 a2) (o8 a0))) (some (-1)) (o5 (kW a0 a1 a2) fun x=>o5
 (aj (a0,a1,x) (-1)) fun x=>some x))
def s93:FSpec:=mkS b6X b8u fun x=>oD x.1 x.2.1 x.2.2
def b6F:List MG:=[(true,(.dat y31)),(true,(.dat y55)),uiM,uiM]
def b8c:Ret:=⟨[(.tmp 8,uiM),(.cell 9 49,(true,(.dat y40)))],[]⟩
def e63:Env:=⟨87,eqs,tt,gl,[(92,s92),(64,s64),(93,s93)],[],[],[],[]⟩
def c1S:Ann:=.seq lfA (.seq lfA (.seq lfA (.seq (.seq lfA (.blk (.loopR [(8,10),(13,18),(33,74),(4000576,4000577),(10001920,10001921)] ⟨[(9,(false,(.box (.dat y40)))),(13,(false,(.own .bool))),(33,uiM)],[]⟩ 0 ⟨[(9,(false,(.box (.dat y40)))),(13,(false,(.own .bool)))],[]⟩ lfA))) lfA)))
def nZ (a0:A8) (a1:X9) (a2:Int) (a3:Int):Option (Int×U8):=o5 (lX a0 a3 a1.1) fun(x:
 dh)=>o5 (jg (o8 x.1) false) fun x_1=>o5 (P5 (fun(x_2:U8×List Bool×Int)=>l7 (ilt
 x_2.2.2 (o8 x.1)) (o5 (lat x.1 x_2.2.2) fun x_3=>o5 (J9 x.1 (toN x_2.2.2)) fun x=>o5 (lat a0.2.2.2.2 x) fun(x_4:
 N9)=>l7 (ieq (o8 x_4.2.2.2.2.2.1) 0) (o5 (lat x_2.2.1 x_2.2.2) fun x=>o5 (J9 x_2.2.1 (toN x_2.2.2)) fun x=>
 some (.nx (x_2.1,P8 x_2.2.1 (toN x_2.2.2) true,x9 .i64 x_2.2.2 1))) (o5 (lat a0.2.2.2.2 x) fun x_5=>o5 (wG
 x_5.2.2.2.2.2.1 a1) fun x_6=>l7 (E5 (ieq x_6.2 0)) (some (.rt (0,x_6.2,a2,a3,x))) (o5 (lat x_2.2.1 x_2.2.2) fun(x
 :Bool)=>o5 (J9 x_2.2.1 (toN x_2.2.2)) fun x=>some (.nx (x_2.1,P8 x_2.2.1 (toN x_2.2.2) (ieq x_6.1.2.2 1),x9 .i64
 x_2.2.2 1))))) (some (.ex (x_2.1,x_2.2.1)))) ((0,0,0,0),x_1,0)) fun o=>U7 o (fun(y:
 U8×List Bool)=>o5 (oD x.2.1 x.2.2 y.2) fun x_2=>l7 (ilt x_2 0) (some (x_2,0,0,0,0)) (o5 (lat x.1 x_2)
 fun x_3=>o5 (J9 x.1 (toN x_2)) fun x=>some (x,0,0,0,0))) fun r=>some r
def s63:FSpec:=mkS b6F b8c fun x=>nZ x.1 x.2.1 x.2.2.1 x.2.2.2
def b6o:List MG:=[(true,(.dat y31)),(false,(.box (.pair diM (.pair (.dat y36) (.pair (.own y1) (.pair (.dat y37) (.pair (.dat y19) (.dat y16)))))))),uiM,(false,(.dat (.sl .bool)))]
def b7L:Ret:=⟨[(.tmp 8,uoM),(.cell 9 49,(true,(.dat y40)))],[(1,(true,(.pair diM (.pair (.dat y36) (.pair (.own y1) (.pair (.dat y37) (.pair (.dat y19) (.dat y16))))))))]⟩
def e46:Env:=⟨105,eqs,tt,gl,[(62,s62),(63,s63),(64,s64)],[],[],[],[1]⟩
def c1z:Ann:=.seq lfA (.seq lfA (.seq lfA (.seq lfA (.seq (.seq lfA (.blk (.loopR [(1,2),(8,11),(14,19),(37,103),(1000000,1000001),(4000576,4000577),(7001472,7001473),(10001856,10001857)] ⟨[(1,(false,(.box (.pair diM (.pair (.dat y36) (.pair (.own y1) (.pair (.dat y37) (.pair (.dat y19) (.dat y16))))))))),(9,(false,(.box (.dat y40)))),(10,uoM),(37,uiM)],[]⟩ 0 ⟨[(1,(false,(.box (.pair diM (.pair (.dat y36) (.pair (.own y1) (.pair (.dat y37) (.pair (.dat y19) (.dat y16))))))))),(9,(false,(.box (.dat y40)))),(10,uoM)],[]⟩ lfA))) lfA))))
def aH (a0:A8) (a1:X9) (a2:Int) (a3:List Bool):Option (List Int×U8×X9):=o5 (jg (o8
 a0.2.2.2.1) (0,0,0)) fun x=>o5 (jg (o8 a0.2.2.2.1) 0) fun x_1=>o5 (iD a0) fun(x_2:
 List Int×Int)=>o5 (P5 (fun(x:X9×U8×List Int×Int)=>l7 (ilt x.2.2.2 (o8 x_2.1)) (o5 (lat x_2.1 x.2.2.2) fun(x_3
 :Int)=>o5 (J9 x_2.1 (toN x.2.2.2)) fun x_4=>o5 (lat a3 x_4) fun x_5=>l7 (E5 x_5) (some (.nx (x.1,x.2.1,
 x.2.2.1,x9 .i64 x.2.2.2 1))) (o5 (nZ a0 x.1 a2 x_4) fun x_6=>l7 (E5 (ieq x_6.2.1 0)) (some
 (.rt ([],x_6.2,x.1))) (l7 (ieq x_6.1 (-1)) (some (.rt ([],(10,a2,x_4,-1),x.1))) (l7 (ieq x_6.1 (-2)) (some (.rt ([],(11,a2,
 x_4,-1),x.1))) (o5 (lat a0.2.2.2.2 x_6.1) fun x_7=>o5 (wG x_7.2.2.2.2.2.2.1 x.1) fun x_8=>l7 (E5
 (ieq x_8.2 0)) (some (.rt ([],(x_8.2,a2,x_4,x_6.1),x.1))) (o5 (lat x.1.2.2.1 x_4) fun x_9=>o5 (J9 x.1.2.2.1 (toN x_4))
 fun x_10=>o5 (lat x.2.2.1 x_4) fun x_11=>o5 (J9 x.2.2.1 (toN x_4)) fun x_12=>some (.nx ((x.1.1,x.1.2.1,
 P8 x.1.2.2.1 (toN x_4) x_8.1,x.1.2.2.2),x.2.1,P8 x.2.2.1 (toN x_4) x_6.1,x9 .i64 x.2.2.2 1)))))))) (some (.ex (x.1,x.2.1,
 x.2.2.1)))) ((a1.1,a1.2.1,x,a1.2.2.2),(0,0,0,0),x_1,0)) fun o=>U7 o (fun
 (y:X9×U8×List Int)=>some (y.2.2,(0,0,0,0),y.1)) fun r=>some r
def s46:FSpec:=mkS b6o b7L fun x=>aH x.1 x.2.1 x.2.2.1 x.2.2.2
def b5Z:List MG:=[(true,(.dat y34)),uiM,(true,(.dat y39)),(false,(.box (.pair (.dat y31) (.pair (.dat y31) (.pair (.own .bool) (.own .bool))))))]
def b7w:Ret:=⟨[(.cell 8 91,(true,(.dat y50))),(.cell 9 94,(true,(.dat y55))),(.cell 10 49,(true,(.dat y40)))],[(3,(true,(.pair (.dat y31) (.pair (.dat y31) (.pair (.own .bool) (.own .bool))))))]⟩
def e28:Env:=⟨123,eqs,tt,gl,[(46,s46)],[],[],[],[3]⟩
def c1j:Ann:=.seq lfA (.seq lfA (.seq lfA (.seq (.seq lfA (.blk (.loop [(11,12),(14,15),(35,47),(7000704,7000705)] ⟨[(11,(false,(.box (.pair diM (.pair (.dat y36) (.pair (.cell (some none)) (.pair (.cell (some none)) (.pair (.own y0) (.dat y16))))))))),(35,uiM)],[]⟩ 0 ⟨[(11,(false,(.box (.pair diM (.pair (.dat y36) (.pair (.cell (some none)) (.pair (.cell (some none)) (.pair (.own y0) (.dat y16)))))))))],[]⟩ lfA))) (.seq (.seq lfA (.blk (.loopR [(8,13),(15,20),(50,97),(4000512,4000513),(4000576,4000577),(4000640,4000641),(10000768,10000769),(18000000,18000002)] ⟨[(8,(false,(.box (.dat y50)))),(9,(false,(.box (.dat y55)))),(10,(false,(.box (.dat y40)))),(11,(false,(.box (.pair diM (.pair (.dat y36) (.pair (.cell (some none)) (.pair (.own y36) (.pair (.own y0) (.dat y16))))))))),(12,(false,(.box (.pair (.dat y36) (.pair (.dat y46) (.own y47)))))),(50,uiM)],[]⟩ 2 ⟨[(8,(false,(.box (.dat y50)))),(9,(false,(.box (.dat y55)))),(10,(false,(.box (.dat y40)))),(11,(false,(.box (.pair diM (.pair (.dat y36) (.pair (.cell (some none)) (.pair (.own y36) (.pair (.own y0) (.dat y16))))))))),(12,(false,(.box (.pair (.dat y36) (.pair (.dat y46) (.own y47))))))],[]⟩ lfA))) lfA))))
def nX (a0:J3) (a1:Int) (a2:bz) (a3:O8):Option (nR×X9×U8×O8):=o5 (U9
 (fun(x:(Int×List J6×PUnit×PUnit×List I8×List Y4)×Int)=>l7 (ilt x.2 (o8 a3.2.1.2.2.2.1)) (o5 (lat a3.2.1.2.2.2.1
 x.2) fun x_1=>o5 (cO x.1.2.2.2.2.1 [x_1.2]) fun x_2=>some (.inl ((x.1.1,x.1.2.1,(),(),x_2,
 x.1.2.2.2.2.2),x9 .i64 x.2 1))) (some (.inr (x.1.1,x.1.2.1,(),(),x.1.2.2.2.2)))) ((a2.1,a2.2.1,(),
 (),[],a0.2.1),0)) fun y=>o5 (P5 (fun(x:nR×X9×
 U8×(Int×List J6×PUnit×List (List J6)×List I8×List Y4)×nR×Int)=>l7 (ilt x.2.2.2.2.2 (o8 a2.2.2))
 (o5 (lat a2.2.2 x.2.2.2.2.2) fun x_1=>o5 (aH a3.2.1 (a2.1,x_1,[],[],[],a0.2.1) x.2.2.2.2.2 a3.2.2.2)
 fun x_2=>l7 (E5 (ieq x_2.2.1.1 0)) (some (.rt (([],[],[]),(0,[],[],[],[],[]),x_2.2.1,a3)))
 (o5 (cO x.2.2.2.1.2.2.2.1 [x_2.2.2.2.2.1]) fun x_3=>o5 (cO x.2.2.2.2.1.2.2 [(x_2.2.2.2.2.1,x_2.1)]) fun(x_4:
 List MN)=>some (.nx (x.1,x.2.1,x.2.2.1,(x.2.2.2.1.1,x.2.2.2.1.2.1,(),x_3,x.2.2.2.1.2.2.2.2),(x.2.2.2.2.1.1,
 x.2.2.2.2.1.2.1,x_4),x9 .i64 x.2.2.2.2.2 1)))) (some (.ex (x.1,x.2.1,x.2.2.1,(x.2.2.2.1.1,x.2.2.2.1.2.1,(),
 x.2.2.2.1.2.2.2),x.2.2.2.2.1)))) (([],[],[]),(0,[],[],[],[],[]),(0,0,0,0),(y.1,y.2.1,(),[],y.2.2.2.2),([],[],[]),0))
 fun o=>U7 o (fun(y:nR×X9×U8×(Int×List J6×PUnit×List (List J6)×List I8×List
 Y4)×nR)=>o5 (aH a3.1 (y.2.2.2.1.1,y.2.2.2.1.2.1,[],y.2.2.2.1.2.2.2) (-1) a3.2.2.1) fun x=>l7 (E5 (ieq x.2.1.1 0)) (some (([],[],[]),(0,[],[],[],[],[]),x.2.1,a3)) (some ((x.2.2.2.2.1,x.1,
 y.2.2.2.2.2.2),x.2.2,(0,0,0,0),a3))) fun r=>some r
def s28:FSpec:=mkS b5Z b7w fun x=>nX x.1 x.2.1 x.2.2.1 x.2.2.2
def b5J:List MG:=[(true,(.dat y34)),uiM,(true,(.dat y39)),uiM]
def b7g:Ret:=⟨[(.cell 8 23,(true,(.dat y1))),(.tmp 9,uiM),(.cell 10 49,(true,(.dat y40)))],[]⟩
def e13:Env:=⟨57,eqs,tt,gl,[(25,s25),(26,s26),(27,s27),(28,s28)],[],[],[],[]⟩
def c0T:Ann:=.leaf
def lH (a0:J3) (a1:Int) (a2:bz) (a3:Int):Option (J6×Int×U8):=o5 (gW a0 a1 a2 true
 a3) fun x=>l7 (E5 (ieq x.1 0)) (some ((0,0,0),0,x)) (o5 (nY a0 a1) fun x=>o5
 (jm x a3) fun x=>o5 (nX a0 a1 a2 x) fun x=>
 l7 (E5 (ieq x.2.2.1.1 0)) (some ((0,0,0),0,x.2.2.1)) (o5 (lat x.1.1 a3) fun x_1=>o5 (lat x.1.2.1 a3) fun x=>
 some (x_1,x,0,0,0,0)))
def s13:FSpec:=mkS b5J b7g fun x=>lH x.1 x.2.1 x.2.2.1 x.2.2.2
def b5R:List MG:=[(true,(.dat y34)),uiM,(true,(.dat y39)),uiM]
def b7o:Ret:=⟨[(.cell 8 23,(true,(.dat y1))),(.tmp 9,uiM)],[]⟩
def e20:Env:=⟨29,eqs,tt,gl,[(13,s13)],[],[],[],[]⟩
def c1b:Ann:=.leaf
def kz (a0:J3) (a1:Int) (a2:bz) (a3:Int):Option (J6×Int):=o5 (lH a0 a1 a2 a3) fun x=>l7 (E5 (ieq x.2.2.1 0)) (some ((0,0,0),x.2.2.1)) (some (x.1,0))
def s20:FSpec:=mkS b5R b7o fun x=>kz x.1 x.2.1 x.2.2.1 x.2.2.2
def b6h:List MG:=[(false,(.ownb (.ent true false y41 .bool))),(true,(.dat y31)),(false,(.dat y46))]
def b7E:Ret:=⟨[],[(0,(false,(.own (.ent true false y41 .bool))))]⟩
def e39:Env:=⟨39,eqs,tt,gl,[],[],[],[],[0]⟩
def c1r:Ann:=.seq lfA (.seq lfA (.seq (.seq lfA (.blk (.loop [(6,7),(8,9),(14,21),(7000704,7000705)] ⟨[(6,(false,(.own (.ent false false (.int .i64) .bool)))),(14,uiM)],[]⟩ 0 ⟨[(6,(false,(.own (.ent false false (.int .i64) .bool))))],[]⟩ lfA))) (.seq lfA (.blk (.loop [(0,1),(10,11),(24,39),(1000000,1000001)] ⟨[(0,(false,(.own (.ent true false y41 .bool)))),(24,uiM)],[]⟩ 2 ⟨[(0,(false,(.own (.ent true false y41 .bool))))],[]⟩ lfA)))))
def lG (a0:List (V4×Bool)) (a1:A8) (a2:List Int):Option (List (V4×Bool)):=o5 (U9 (fun
 (x:List (Int×Bool)×Int)=>l7 (ilt x.2 (o8 a2)) (o5 (lat a2 x.2) fun x_1=>some (.inl (xM (fun(a b:Int)=>ieq a b)
 x.1 x_1 true,x9 .i64 x.2 1))) (some (.inr x.1))) ([],0)) fun y=>o5 (U9 (fun(x:List (V4×
 Bool)×Int)=>l7 (ilt x.2 (o8 a1.2.2.2.2)) (o5 (lat a1.2.2.2.2 x.2) fun x_1=>l7 (pz (fun(a b:Int)=>ieq a b) y x_1.2.1
 false) (some (.inl (xM (fun(a b:V4)=>U2 (seq a.1 b.1) (seq a.2 b.2)) x.1 (a1.1,x_1.1) true,x9 .i64 x.2 1)))
 (some (.inl (x.1,x9 .i64 x.2 1)))) (some (.inr x.1))) (a0,0)) fun y=>some y
def s39:FSpec:=mkS b6h b7E fun x=>lG x.1 x.2.1 x.2.2
def b5S:List MG:=[(true,(.dat y34)),uiM,uiM]
def b7p:Ret:=⟨[(.tmp 6,(false,(.own (.ent true false y41 .bool))))],[]⟩
def e21:Env:=⟨69,eqs,tt,gl,[(40,s40),(39,s39),(41,s41)],[],[],[],[]⟩
def c1c:Ann:=.seq lfA (.seq lfA (.seq lfA (.seq lfA (.seq (.joinR [(6,7),(28,40)] ⟨[],[]⟩ lfA) (.seq lfA (.seq lfA (.seq (.seq lfA (.blk (.loop [(10,11),(12,13),(50,64)] ⟨[(10,uoM),(50,uiM)],[]⟩ 0 ⟨[(10,uoM)],[]⟩ lfA))) lfA)))))))
def fH (a0:J3) (a1:Int) (a2:Int):Option (List (V4×Bool)):=o5 (lat a0.2.2 a1) fun x=>o5
 (dD x a2) fun x_1=>o5 (cO x_1 [a2]) fun x_2=>o5 (lG [] x x_2) fun x_3=>o5 (l7 (ilt x.2.1 0) (some (.inr x_3)) (l7 (ile (o8 a0.2.2) x.2.1) (some (.inr x_3)) (some (.inl
 ())))) fun o=>U7 o (fun(x_4:PUnit)=>o5 (lat a0.2.2 x.2.1) fun x_5=>o5
 (kw x a2) fun x=>o5 (U9 (fun(x_6:List Int×Int)=>l7 (ilt x_6.2 (o8 x)) (o5 (lat x x_6.2) fun(x_7:
 Int)=>o5 (J9 x (toN x_6.2)) fun x=>o5 (cO x_6.1 [x]) fun x_8=>o5 (dD x_5 x) fun x
 =>o5 (cO x_8 x) fun x=>some (.inl (x,x9 .i64 x_6.2 1))) (some (.inr x_6.1))) ([],0)) fun y=>
 o5 (lG x_3 x_5 y) fun x=>some x) fun r=>some r
def s21:FSpec:=mkS b5S b7p fun x=>fH x.1 x.2.1 x.2.2
def b5T:List MG:=[(true,(.dat y34))]
def b7q:Ret:=⟨[(.tmp 2,(false,(.own (.ent false true .str y44))))],[]⟩
def e22:Env:=⟨60,eqs,tt,gl,[],[],[],[],[]⟩
def c1d:Ann:=.seq lfA (.seq lfA (.seq (.seq lfA (.blk (.loop [(3,4),(5,13),(17,59),(7000832,7000833)] ⟨[(3,(false,(.own (.ent false true .str y44)))),(17,uiM)],[]⟩ 0 ⟨[(3,(false,(.own (.ent false true .str y44))))],[]⟩ (.seq lfA (.seq lfA (.seq (.blk (.seq lfA (.seq lfA (.seq lfA (.seq (.seq lfA (.blk (.loop [(8,13),(33,52),(40001856,40001857)] ⟨[(8,(false,(.own (.ent false false .str (.int .i64))))),(33,uiM)],[]⟩ 2 ⟨[(8,(false,(.own (.ent false false .str (.int .i64)))))],[]⟩ lfA))) lfA))))) lfA)))))) lfA))
def jE (a0:J3):Option (List (List UInt8×ak)):=o5 (U9 (fun(x:List (List UInt8×ak)
 ×Int)=>l7 (ilt x.2 (o8 a0.2.2)) (o5 (lat a0.2.2 x.2) fun x_1=>l7 (Ei (fun(a b:List UInt8)=>seq a b) x.1 x_1.1)
 (some (.inl (x.1,x9 .i64 x.2 1))) (o5 (U9 (fun(x:List (List UInt8×Int)×Int)=>l7 (ilt x.2 (o8 x_1.2.2.2.2)) (o5
 (lat x_1.2.2.2.2 x.2) fun x_2=>l7 (E5 (Ei (fun(a b:List UInt8)=>seq a b) x.1 x_2.1)) (some (.inl (xM (fun(a b:List
 UInt8)=>seq a b) x.1 x_2.1 x.2,x9 .i64 x.2 1))) (some (.inl (x.1,x9 .i64 x.2 1)))) (some (.inr x.1))) ([],0)) fun(y:
 List (List UInt8×Int))=>some (.inl (xM (fun(a b:List UInt8)=>seq a b) x.1 x_1.1 (x_1,y),x9 .i64 x.2 1)))) (some (.inr
 x.1))) ([],0)) fun y=>some y
def s22:FSpec:=mkS b5T b7q fun x=>jE x
def b5U:List MG:=[(false,(.dat y45)),(false,(.dat .str)),(false,(.dat .str))]
def b7r:Ret:=⟨[(.cell 6 66,(true,(.dat y31))),(.tmp 7,uiM),(.tmp 8,ubM)],[]⟩
def e23:Env:=⟨34,eqs,tt,gl,[],[],[],[],[]⟩
def c1e:Ann:=.leaf
def aT (a0:List (List UInt8×ak)) (a1:List UInt8) (a2:List UInt8):Option (A8×Int×Bool):=
 l7 (E5 (Ei (fun(a b:List UInt8)=>seq a b) a0 a1)) (some (([],0,[],[],[]),0,false)) (l7 (E5 (Ei (fun(a b:List UInt8)=>
 seq a b) (pz (fun(a b:List UInt8)=>seq a b) a0 a1 (([],0,[],[],[]),[])).2 a2)) (some (([],0,[],[],[]),0,false)) (some ((pz (fun
 (a b:List UInt8)=>seq a b) a0 a1 (([],0,[],[],[]),[])).1,pz (fun(a b:List UInt8)=>seq a b) (pz (fun(a b:List UInt8)=>seq a b)
 a0 a1 (([],0,[],[],[]),[])).2 a2 0,true)))
def s23:FSpec:=mkS b5U b7r fun x=>aT x.1 x.2.1 x.2.2
def b6k:List MG:=[(true,(.dat y31)),(true,(.dat y26))]
def b7H:Ret:=⟨[(.cell 4 122,(true,(.dat y59)))],[]⟩
def e42:Env:=⟨52,eqs,tt,gl,[],[],[],[],[]⟩
def c1u:Ann:=.seq lfA (.seq lfA (.seq (.join [(5,6),(13,32),(7000320,7000321)] ⟨[(5,(false,(.box (.dat y59))))],[]⟩ lfA) lfA))
def eG (a0:A8) (a1:N9):Option dC:=o5 (l7 (ile 0 a1.2.1) (l7 (ilt a1.2.1 (o8 a0.2.2.2.1))
 (o5 (lat a0.2.2.2.1 a1.2.1) fun x=>some (x.1,[],a1.2.2.2.1,a1.2.2.2.2.1,a1.2.2.2.2.2.2.2)) (some ([],[],a1.2.2.2.1,
 a1.2.2.2.2.1,a1.2.2.2.2.2.2.2))) (some ([],[],a1.2.2.2.1,a1.2.2.2.2.1,a1.2.2.2.2.2.2.2))) fun x=>l7 (ile 0
 a1.2.2.1) (l7 (ilt a1.2.2.1 (o8 a0.2.2.2.2)) (o5 (lat a0.2.2.2.2 a1.2.2.1) fun x_1=>some (x.1,x_1.1,x.2.2)) (some x)) (some x)
def s42:FSpec:=mkS b6k b7H fun x=>eG x.1 x.2
def b6l:List MG:=[(false,(.dat y19)),(false,(.dat y19))]
def b7I:Ret:=⟨[(.tmp 4,ubM)],[]⟩
def e43:Env:=⟨26,eqs,tt,gl,[],[],[],[],[]⟩
def c1w:Ann:=.seq lfA (.seq lfA (.seq (.seq lfA (.blk (.loopR [(4,6),(13,26)] ⟨[(13,uiM)],[]⟩ 0 ⟨[],[]⟩ lfA))) lfA))
def Y7 (a0:List I8) (a1:List I8):Option Bool:=l7 (E5 (ieq (o8 a0) (o8 a1))) (some false) (o5
 (P5 (fun(x:Int)=>l7 (ilt x (o8 a0)) (o5 (lat a0 x) fun x_1=>o5 (lat a1 x) fun x_2=>l7 (E5 (U2 (ieq
 x_1.1 x_2.1) (ieq x_1.2 x_2.2))) (some (.rt false)) (some (.nx (x9 .i64 x 1)))) (some (.ex ()))) 0) fun o
 =>U7 o (fun(y:PUnit)=>some true) fun r=>some r)
def s43:FSpec:=mkS b6l b7I fun x=>Y7 x.1 x.2
def b5V:List MG:=[(true,(.dat y31)),uiM,(true,(.dat y31)),uiM]
def b7s:Ret:=⟨[(.tmp 8,ubM)],[]⟩
def e24:Env:=⟨42,eqs,tt,gl,[(42,s42),(43,s43)],[],[],[],[]⟩
def c1f:Ann:=.leaf
def mF (a0:A8) (a1:Int) (a2:A8) (a3:Int):Option Bool:=o5 (lat a0.2.2.2.2 a1) fun x=>o5 (lat
 a2.2.2.2.2 a3) fun x_1=>o5 (eG a0 x) fun x_2=>o5 (eG a2 x_1) fun(x_3
 :dC)=>l7 (U2 (seq x_2.1 x_3.1) (U2 (seq x_2.2.1 x_3.2.1) (U2 (ieq x_2.2.2.1 x_3.2.2.1) (U2 (ieq x_2.2.2.2.1.1
 x_3.2.2.2.1.1) (U2 (ieq x_2.2.2.2.1.2 x_3.2.2.2.1.2) (seq x_2.2.2.2.2 x_3.2.2.2.2)))))) (o5 (Y7 x.2.2.2.2.2.1
 x_1.2.2.2.2.2.1) fun x_4=>l7 x_4 (o5 (Y7 x.2.2.2.2.2.2.1 x_1.2.2.2.2.2.2.1) fun x=>some x)
 (some false)) (some false)
def s24:FSpec:=mkS b5V b7s fun x=>mF x.1 x.2.1 x.2.2.1 x.2.2.2
def b5H:List MG:=[(true,(.dat y34)),(true,(.dat y34))]
def b7e:Ret:=⟨[(.tmp 4,(false,(.own y3)))],[]⟩
def e12:Env:=⟨114,eqs,tt,gl,[(22,s22),(23,s23),(24,s24)],[],[],[],[]⟩
def c0S:Ann:=.seq lfA (.seq lfA (.seq lfA (.seq (.seq lfA (.blk (.loop [(7,8),(9,15),(29,77)] ⟨[(7,(false,(.own y3))),(29,uiM)],[]⟩ 0 ⟨[(7,(false,(.own y3)))],[]⟩ (.seq lfA (.seq lfA (.seq (.blk (.seq lfA (.seq lfA (.blk (.loop [(7,8),(10,15),(36,76),(17000000,17000001)] ⟨[(7,(false,(.own y3))),(36,uiM)],[]⟩ 2 ⟨[(7,(false,(.own y3)))],[]⟩ lfA))))) lfA)))))) (.seq (.seq lfA (.blk (.loop [(7,8),(16,17),(18,22),(80,113),(18000000,18000001)] ⟨[(7,(false,(.own y3))),(80,uiM)],[]⟩ 4 ⟨[(7,(false,(.own y3)))],[]⟩ (.seq lfA (.seq lfA (.seq (.blk (.seq lfA (.seq lfA (.blk (.loop [(7,8),(18,22),(87,112),(76000000,76000001)] ⟨[(7,(false,(.own y3))),(87,uiM)],[]⟩ 6 ⟨[(7,(false,(.own y3)))],[]⟩ lfA))))) lfA)))))) lfA))))
def iJ (a0:J3) (a1:J3):Option (List X3):=o5 (jE a0) fun x=>o5 (jE a1) fun x_1=>o5 (U9 (fun(x:List X3×
 Int)=>l7 (ilt x.2 (o8 a0.2.2)) (o5 (lat a0.2.2 x.2) fun x_2=>o5 (U9 (fun(x:List X3×Int)=>l7 (ilt x.2
 (o8 x_2.2.2.2.2)) (o5 (lat x_2.2.2.2.2 x.2) fun x_3=>o5 (aT x_1 x_2.1 x_3.1) fun x_4=>l7 (E5 x_4.2.2) (o5 (cO x.1 [(x_2.1,x_3.1,1)]) fun x_5=>some (.inl (x_5,x9 .i64 x.2 1))) (o5
 (mF x_2 x.2 x_4.1 x_4.2.1) fun x_5=>l7 (E5 x_5) (o5 (cO x.1 [(x_2.1,x_3.1,3)]) fun x_6=>some
 (.inl (x_6,x9 .i64 x.2 1))) (some (.inl (x.1,x9 .i64 x.2 1))))) (some (.inr x.1))) (x.1,0)) fun y=>
 some (.inl (y,x9 .i64 x.2 1))) (some (.inr x.1))) ([],0)) fun y=>o5 (U9 (fun(x_2:List X3×Int)=>
 l7 (ilt x_2.2 (o8 a1.2.2)) (o5 (lat a1.2.2 x_2.2) fun x_3=>o5 (U9 (fun(x_4:List X3×Int)=>l7 (ilt x_4.2
 (o8 x_3.2.2.2.2)) (o5 (lat x_3.2.2.2.2 x_4.2) fun x_5=>o5 (aT x x_3.1 x_5.1) fun x
 =>l7 (E5 x.2.2) (o5 (cO x_4.1 [(x_3.1,x_5.1,2)]) fun x=>some (.inl (x,x9 .i64 x_4.2 1))) (some (.inl
 (x_4.1,x9 .i64 x_4.2 1)))) (some (.inr x_4.1))) (x_2.1,0)) fun y=>some (.inl (y,x9 .i64 x_2.2 1)))
 (some (.inr x_2.1))) (y,0)) fun y=>some y
def s12:FSpec:=mkS b5H b7e fun x=>iJ x.1 x.2
def b5G:List MG:=[(true,(.dat y34)),(true,(.dat y34)),uiM,(true,(.dat y39)),uiM]
def b7d:Ret:=⟨[(.cell 10 27,(true,(.dat y8))),(.tmp 11,uiM)],[]⟩
def e11:Env:=⟨126,eqs,tt,gl,[(18,s18),(19,s19),(20,s20),(21,s21),(12,s12)],[],[],[],[]⟩
def c0R:Ann:=.seq lfA (.seq (.joinR [(10,12),(18,29),(4000640,4000641)] ⟨[(10,(false,(.box (.dat y8))))],[]⟩ lfA) (.seq (.joinR [(10,12),(29,54),(6000000,6000001)] ⟨[(10,(false,(.box (.dat y8))))],[]⟩ lfA) (.seq lfA (.seq lfA (.seq lfA (.seq lfA (.seq lfA (.seq (.seq lfA (.blk (.loop [(12,13),(16,18),(91,125),(37000768,37000769)] ⟨[(12,(false,(.box (.pair (.dat y1) (.pair (.dat y1) (.pair diM (.pair diM (.own y3)))))))),(91,uiM)],[]⟩ 0 ⟨[(12,(false,(.box (.pair (.dat y1) (.pair (.dat y1) (.pair diM (.pair diM (.own y3))))))))],[]⟩ lfA))) lfA))))))))
def eF (a0:J3) (a1:J3) (a2:Int) (a3:bz) (a4:Int):Option (nP×Int):=o5 (o5 (mi a0) fun(x:
 U8)=>l7 (E5 (U2 (ieq x.1 0) (U2 (ieq x.2.1 0) (U2 (ieq x.2.2.1 0) (ieq x.2.2.2 0))))) (some (.inr (((0,0,0),(0,0,0),0,
 0,[]),1))) (o5 (mi a1) fun x=>l7 (E5 (U2 (ieq x.1 0) (U2 (ieq x.2.1 0) (U2 (ieq x.2.2.1 0) (ieq x.2.2.2
 0))))) (some (.inr (((0,0,0),(0,0,0),0,0,[]),1))) (some (.inl ((0,0,0),(0,0,0),0,0,[]))))) fun o
 =>U7 o (fun(x:nP)=>o5 (l7 (ilt a2 0) (some (.inr (((0,0,0),(0,0,0),0,0,[]),6))) (l7 (ile (o8 a0.2.2) a2) (some
 (.inr (((0,0,0),(0,0,0),0,0,[]),6))) (l7 (ilt a4 0) (some (.inr (((0,0,0),(0,0,0),0,0,[]),6))) (o5 (lat a0.2.2 a2) fun
 (x_1:A8)=>l7 (ile (o8 x_1.2.2.2.1) a4) (some (.inr (((0,0,0),(0,0,0),0,0,[]),6))) (some (.inl x)))))) fun o=>U7 o (fun(x:nP)=>o5 (gX a0 a1) fun x=>l7 (E5 x) (some (((0,0,0),(0,0,0),0,
 0,[]),8)) (o5 (kz a0 a2 a3 a4) fun x=>o5 (kz a1 a2 a3 a4) fun x_1=>o5
 (fH a0 a2 a4) fun x_2=>o5 (fH a1 a2 a4) fun x_3
 =>o5 (iJ a0 a1) fun x_4=>o5 (U9 (fun(x:nP×Int)=>l7 (ilt x.2 (o8 x_4)) (o5 (lat x_4
 x.2) fun x_5=>o5 (J9 x_4 (toN x.2)) fun x_6=>l7 (E5 (ieq x_6.2.2 2)) (l7 (pz (fun(a b:V4)
 =>U2 (seq a.1 b.1) (seq a.2 b.2)) x_2 (x_6.1,x_6.2.1) false) (o5 (cO x.1.2.2.2.2 [x_6]) fun x_7=>some (.inl ((x.1.1,
 x.1.2.1,x.1.2.2.1,x.1.2.2.2.1,x_7),x9 .i64 x.2 1))) (l7 (E5 (ieq x_6.2.2 1)) (l7 (pz (fun(a b:V4)=>U2
 (seq a.1 b.1) (seq a.2 b.2)) x_3 (x_6.1,x_6.2.1) false) (o5 (cO x.1.2.2.2.2 [x_6]) fun x_7=>some (.inl ((x.1.1,x.1.2.1,
 x.1.2.2.1,x.1.2.2.2.1,x_7),x9 .i64 x.2 1))) (some (.inl (x.1,x9 .i64 x.2 1)))) (some (.inl (x.1,x9 .i64 x.2
 1))))) (l7 (E5 (ieq x_6.2.2 1)) (l7 (pz (fun(a b:V4)=>U2 (seq a.1 b.1) (seq a.2 b.2)) x_3 (x_6.1,x_6.2.1) false)
 (o5 (cO x.1.2.2.2.2 [x_6]) fun x_7=>some (.inl ((x.1.1,x.1.2.1,x.1.2.2.1,x.1.2.2.2.1,x_7),x9 .i64 x.2 1)))
 (some (.inl (x.1,x9 .i64 x.2 1)))) (some (.inl (x.1,x9 .i64 x.2 1))))) (some (.inr x.1))) ((x.1,x_1.1,x.2,x_1.2,[]),
 0)) fun y=>some (y,0))) fun r=>some r) fun r=>some r
def s11:FSpec:=mkS b5G b7d fun x=>eF x.1 x.2.1 x.2.2.1 x.2.2.2.1 x.2.2.2.2
def b5L:List MG:=[(false,(.dat y4)),(false,(.dat y4))]
def b7j:Ret:=⟨[(.tmp 4,ubM)],[]⟩
def e15:Env:=⟨32,eqs,tt,gl,[],[],[],[],[]⟩
def c0V:Ann:=.seq lfA (.seq lfA (.seq (.seq lfA (.blk (.loopR [(4,6),(11,32)] ⟨[(5,uiM)],[]⟩ 0 ⟨[],[]⟩ lfA))) lfA))
def EM (a0:List X3) (a1:List X3):Option Bool:=l7 (E5 (ieq (o8 a0) (o8 a1))) (some false) (o5 (P5 (fun(x:
 Int)=>l7 (ilt x (o8 a0)) (l7 (ilt x (o8 a1)) (o5 (lat a0 x) fun x_1=>o5 (lat a1 x) fun x_2=>l7 (E5
 (U2 (seq x_1.1 x_2.1) (U2 (seq x_1.2.1 x_2.2.1) (ieq x_1.2.2 x_2.2.2)))) (some (.rt false)) (some (.nx (x9 .i64 x 1)))) (some
 (.ex ()))) (some (.ex ()))) 0) fun o=>U7 o (fun(y:PUnit)=>some true) fun r=>some r)
def s15:FSpec:=mkS b5L b7j fun x=>EM x.1 x.2
def ps9:List MG:=[]
def rt9:Ret:=⟨[(.tmp 0,ubM)],[]⟩
def e9:Env:=⟨58,eqs,tt,gl,[(14,s14),(11,s11),(15,s15),(7,s7)],[],[],[],[]⟩
def an9:Ann:=.seq lfA (.seq lfA (.seq lfA (.seq lfA (.seq (.joinR [(0,1),(20,44)] ⟨[],[]⟩ lfA) lfA))))
def gm:Option Bool:=o5 (xY [(3,500)]) fun x=>o5 (xY [(3,600)]) fun x_1=>o5
 (eF x x_1 0 (1,[(3,0,0)],[]) 0) fun x=>o5 (l7 (E5 (ieq x.2 0)) (some (.inr false)) (l7 (E5 (U2
 (ieq x.1.1.1 3) (U2 (ieq x.1.1.2.1 0) (ieq x.1.1.2.2 500)))) (some (.inr false)) (l7 (E5 (U2 (ieq x.1.2.1.1 3) (U2 (ieq x.1.2.1.2.1 0)
 (ieq x.1.2.1.2.2 600)))) (some (.inr false)) (l7 (E5 (ieq x.1.2.2.1 0)) (some (.inr false)) (l7 (E5 (ieq x.1.2.2.2.1 0)) (some
 (.inr false)) (some (.inl ()))))))) fun o=>U7 o (fun(x_2:PUnit)=>o5 (EM x.1.2.2.2.2 [([104,111,
 117,115,101],[98,97,115,101],3)]) fun x_3=>l7 x_3 (o5 (dN x.1) fun x=>l7 x (o5
 (dN ((0,0,0),(0,0,0),0,0,[])) fun x=>some (E5 x)) (some false)) (some false)) fun r=>some r
def s9:FSpec:=mkS ps9 rt9 fun x=>gm
def ps3:List MG:=[(true,(.dat y8))]
def rt3:Ret:=⟨[(.tmp 2,ubM)],[]⟩
def e3:Env:=⟨11,eqs,tt,gl,[(7,s7),(8,s8),(9,s9)],[],[],[],[]⟩
def an3:Ann:=.leaf
def kL (a0:nP):Option Bool:=o5 (dN a0) fun x=>o5 (oz a0) fun x_1=>
 l7 (bI x x_1) (o5 gm fun x=>some x) (some false)
def s3:FSpec:=mkS ps3 rt3 fun x=>kL x
def b6a:List MG:=[(true,(.dat y31))]
def b7x:Ret:=⟨[(.tmp 2,ubM)],[]⟩
def e29:Env:=⟨93,eqs,tt,gl,[],[],[],[],[]⟩
def c1k:Ann:=.seq lfA (.seq (.joinR [(2,3),(7,29)] ⟨[],[]⟩ lfA) (.seq (.seq lfA (.blk (.loopR [(2,4),(29,44)] ⟨[(3,uiM)],[]⟩ 0 ⟨[],[]⟩ lfA))) (.seq (.seq lfA (.blk (.loopR [(2,3),(4,5),(44,59)] ⟨[(4,uiM)],[]⟩ 2 ⟨[],[]⟩ lfA))) (.seq (.seq lfA (.blk (.loopR [(2,3),(5,7),(59,93)] ⟨[(5,uiM)],[]⟩ 4 ⟨[],[]⟩ lfA))) lfA))))
def oG (a0:A8):Option Bool:=o5 (l7 (ilt 80 (o8 a0.1)) (some (.inr false)) (l7 (ilt 14 (o8 a0.2.2.1)) (some
 (.inr false)) (l7 (ilt 14 (o8 a0.2.2.2.1)) (some (.inr false)) (l7 (ilt 60 (o8 a0.2.2.2.2)) (some (.inr false)) (some (.inl
 ())))))) fun o=>U7 o (fun(x:PUnit)=>o5 (P5 (fun(x:Int)=>l7 (ilt x (o8 a0.2.2.1)) (o5 (lat
 a0.2.2.1 x) fun x_1=>l7 (ilt 80 (o8 x_1.1)) (some (.rt false)) (some (.nx (x9 .i64 x 1)))) (some (.ex
 ()))) 0) fun o=>U7 o (fun(y:PUnit)=>o5 (P5 (fun(x:Int)=>l7 (ilt x (o8 a0.2.2.2.1)) (o5 (lat
 a0.2.2.2.1 x) fun x_1=>l7 (ilt 80 (o8 x_1.1)) (some (.rt false)) (some (.nx (x9 .i64 x 1)))) (some (.ex
 ()))) 0) fun o=>U7 o (fun(y:PUnit)=>o5 (P5 (fun(x:Int)=>l7 (ilt x (o8 a0.2.2.2.2)) (o5 (lat
 a0.2.2.2.2 x) fun x_1=>l7 (ilt 80 (o8 x_1.1)) (some (.rt false)) (l7 (ilt 80 (o8 x_1.2.2.2.2.2.2.2)) (some (.rt false))
 (l7 (ilt 50 (o8 x_1.2.2.2.2.2.1)) (some (.rt false)) (l7 (ilt 50 (o8 x_1.2.2.2.2.2.2.1)) (some (.rt false)) (some (.nx (x9
 .i64 x 1))))))) (some (.ex ()))) 0) fun o=>U7 o (fun(y:PUnit)=>some true) fun r=>some r) fun
 (r:Bool)=>some r) fun r=>some r) fun r=>some r
def s29:FSpec:=mkS b6a b7x fun x=>oG x
def b5M:List MG:=[(true,(.dat y34))]
def b7k:Ret:=⟨[(.tmp 2,ubM)],[]⟩
def e16:Env:=⟨127,eqs,tt,gl,[(29,s29)],[],[],[],[]⟩
def c0W:Ann:=.seq lfA (.seq (.joinR [(2,3),(9,25)] ⟨[],[]⟩ lfA) (.seq lfA (.seq lfA (.seq (.seq lfA (.blk (.loopR [(2,3),(5,7),(25,72)] ⟨[(5,uiM)],[]⟩ 0 ⟨[],[]⟩ (.seq lfA (.seq (.blk (.seq lfA (.seq lfA (.blk (.loopR [(2,3),(6,7),(50,72)] ⟨[(6,uiM)],[]⟩ 2 ⟨[],[]⟩ lfA))))) lfA))))) (.seq (.seq lfA (.blk (.loopR [(2,4),(7,8),(72,100)] ⟨[(3,uiM),(7,uiM)],[]⟩ 4 ⟨[],[]⟩ lfA))) (.seq (.seq lfA (.blk (.loopR [(2,3),(4,5),(8,9),(100,127)] ⟨[(4,uiM),(8,uiM)],[]⟩ 6 ⟨[],[]⟩ lfA))) lfA))))))
def nJ (a0:J3):Option Bool:=o5 (l7 (ilt 9 (o8 a0.1)) (some (.inr false)) (l7 (ilt 9 (o8 a0.2.1)) (some (.inr
 false)) (l7 (ilt 5 (o8 a0.2.2)) (some (.inr false)) (some (.inl ()))))) fun o=>U7 o (fun(x:PUnit)=>o5
 (P5 (fun(x:Int)=>l7 (ilt x (o8 a0.1)) (o5 (lat a0.1 x) fun x_1=>l7 (ilt 80 (o8 x_1.1)) (some (.rt false)) (o5
 (lat a0.1 x) fun x_2=>l7 (ilt 20 (o8 x_2.2)) (some (.rt false)) (o5 (P5 (fun(x_3:Int)=>o5 (lat a0.1 x) fun(x_4:
 bC)=>l7 (ilt x_3 (o8 x_4.2)) (o5 (lat a0.1 x) fun x=>o5 (lat x.2 x_3) fun x=>l7 (ilt 80 (o8 x))
 (some (.rt false)) (some (.nx (x9 .i64 x_3 1)))) (some (.ex ()))) 0) fun o=>U7 o (fun(y:PUnit)=>
 some (.nx (x9 .i64 x 1))) fun r=>some (.rt r)))) (some (.ex ()))) 0) fun o=>U7 o (fun(y:
 PUnit)=>o5 (P5 (fun(x:I8)=>l7 (ilt x.2 (o8 a0.2.1)) (o5 (lat a0.2.1 x.2) fun x_1=>o5 (lat a0.2.1 x.2) fun
 (x_2:Y4)=>l7 (ilt 80 (o8 x_2.1)) (some (.rt false)) (l7 (ilt 150 (x9 .i64 x.1 (o8 x_1.2.2.2))) (some (.rt false))
 (some (.nx (x9 .i64 x.1 (o8 x_1.2.2.2),x9 .i64 x.2 1))))) (some (.ex ()))) (0,0)) fun o=>U7
 o (fun(y:PUnit)=>o5 (P5 (fun(x:I8)=>l7 (ilt x.2 (o8 a0.2.2)) (o5 (lat a0.2.2 x.2) fun x_1=>l7 (ilt 60
 (x9 .i64 x.1 (o8 x_1.2.2.2.2))) (some (.rt false)) (o5 (lat a0.2.2 x.2) fun x_2=>o5 (oG x_2) fun(x_3:
 Bool)=>l7 (E5 x_3) (some (.rt false)) (some (.nx (x9 .i64 x.1 (o8 x_1.2.2.2.2),x9 .i64 x.2 1))))) (some (.ex
 ()))) (0,0)) fun o=>U7 o (fun(y:PUnit)=>some true) fun r=>some r) fun r=>some r) fun(r:
 Bool)=>some r) fun r=>some r
def s16:FSpec:=mkS b5M b7k fun x=>nJ x
def b5N:List MG:=[(true,(.dat y39))]
def b7l:Ret:=⟨[(.tmp 2,ubM)],[]⟩
def e17:Env:=⟨28,eqs,tt,gl,[],[],[],[],[]⟩
def c0X:Ann:=.seq lfA (.seq lfA (.seq (.seq lfA (.blk (.loopR [(2,4),(14,28)] ⟨[(3,uiM)],[]⟩ 0 ⟨[],[]⟩ lfA))) lfA))
def qp (a0:bz):Option Bool:=l7 (ilt 14 (o8 a0.2.1)) (some false) (l7 (ilt 10 (o8 a0.2.2)) (some false) (o5 (P5
 (fun(x:Int)=>l7 (ilt x (o8 a0.2.2)) (o5 (lat a0.2.2 x) fun x_1=>l7 (ilt 14 (o8 x_1)) (some (.rt false)) (some
 (.nx (x9 .i64 x 1)))) (some (.ex ()))) 0) fun o=>U7 o (fun(y:PUnit)=>some true) fun r=>
 some r))
def s17:FSpec:=mkS b5N b7l fun x=>qp x
def b5F:List MG:=[(true,(.dat y35)),(true,(.dat y39))]
def b7c:Ret:=⟨[(.tmp 4,ubM)],[]⟩
def e10:Env:=⟨17,eqs,tt,gl,[(16,s16),(17,s17)],[],[],[],[]⟩
def c0Q:Ann:=.leaf
def sD (a0:uq) (a1:bz):Option Bool:=o5 (nJ a0.1) fun x=>l7 x (o5 (nJ
 a0.2) fun x=>l7 x (o5 (qp a1) fun x=>some x) (some false)) (some false)
def s10:FSpec:=mkS b5F b7c fun x=>sD x.1 x.2
def ps5:List MG:=[(true,(.dat y34)),uiM,(true,(.dat y39)),uiM]
def rt5:Ret:=⟨[(.tmp 8,ubM)],[]⟩
def e5:Env:=⟨86,eqs,tt,gl,[(10,s10),(9,s9),(11,s11),(13,s13),(7,s7)],[],[],[],[]⟩
def an5:Ann:=.leaf
def qR (a0:J3) (a1:Int) (a2:bz) (a3:Int):Option Bool:=o5 (sD (a0,a0) a2) fun x=>l7 (E5 x)
 (o5 gm fun x=>some x) (o5 (eF a0 a0 a1 a2 a3) fun x=>l7 (E5 (ieq x.2 0)) (l7 (ieq
 (o8 x.1.2.2.2.2) 0) (o5 gm fun x=>some x) (some false)) (o5 (lH a0 a1 a2 a3) fun x_1=>l7 (U2 (ieq x.1.1.1 x_1.1.1) (U2 (ieq x.1.1.2.1 x_1.1.2.1) (ieq x.1.1.2.2 x_1.1.2.2))) (l7 (U2 (ieq x.1.2.1.1 x_1.1.1)
 (U2 (ieq x.1.2.1.2.1 x_1.1.2.1) (ieq x.1.2.1.2.2 x_1.1.2.2))) (l7 (ieq x.1.2.2.1 x_1.2.2.1) (l7 (ieq x.1.2.2.2.1 x_1.2.2.1) (l7 (ieq (o8
 x.1.2.2.2.2) 0) (o5 (dN x.1) fun x=>l7 (E5 x) (o5 gm fun x=>some x) (some false)) (some
 false)) (some false)) (some false)) (some false)) (some false)))
def s5:FSpec:=mkS ps5 rt5 fun x=>qR x.1 x.2.1 x.2.2.1 x.2.2.2
def ps6:List MG:=[(true,(.dat y35)),uiM,(true,(.dat y39)),uiM]
def rt6:Ret:=⟨[(.tmp 8,ubM)],[]⟩
def e6:Env:=⟨140,eqs,tt,gl,[(10,s10),(9,s9),(11,s11)],[],[],[],[]⟩
def an6:Ann:=.seq lfA (.seq lfA (.seq lfA (.seq lfA (.seq (.joinR [(8,9),(43,57)] ⟨[],[]⟩ lfA) (.seq (.joinR [(8,9),(57,92)] ⟨[],[]⟩ lfA) (.seq (.seq lfA (.blk (.loopR [(8,9),(13,16),(92,139)] ⟨[(13,uiM)],[]⟩ 0 ⟨[],[]⟩ (.seq lfA (.seq (.blk (.seq lfA (.seq (.seq lfA (.blk (.loop [(14,16),(99,137)] ⟨[(14,ubM),(15,uiM)],[]⟩ 2 ⟨[(14,ubM)],[]⟩ lfA))) lfA))) lfA))))) lfA))))))
def kM (a0:uq) (a1:Int) (a2:bz) (a3:Int):Option Bool:=o5 (sD a0 a2) fun x=>
 l7 (E5 x) (o5 gm fun x=>some x) (o5 (eF a0.1 a0.2 a1 a2 a3) fun x=>o5
 (eF a0.2 a0.1 a1 a2 a3) fun x_1=>o5 (l7 (E5 (ieq x.2 0)) (l7 (bI (ieq x.2 0) (ieq x_1.2 0)) (o5
 gm fun x=>some (.inr x)) (some (.inr false))) (l7 (E5 (ieq x_1.2 0)) (l7 (bI (ieq x.2 0) (ieq x_1.2 0)) (o5
 gm fun x=>some (.inr x)) (some (.inr false))) (some (.inl ())))) fun o=>U7 o (fun(x_2:
 PUnit)=>o5 (l7 (E5 (U2 (ieq x.1.1.1 x_1.1.2.1.1) (U2 (ieq x.1.1.2.1 x_1.1.2.1.2.1) (ieq x.1.1.2.2 x_1.1.2.1.2.2)))) (some (.inr
 false)) (l7 (E5 (U2 (ieq x.1.2.1.1 x_1.1.1.1) (U2 (ieq x.1.2.1.2.1 x_1.1.1.2.1) (ieq x.1.2.1.2.2 x_1.1.1.2.2)))) (some (.inr false))
 (l7 (E5 (ieq x.1.2.2.1 x_1.1.2.2.2.1)) (some (.inr false)) (l7 (E5 (ieq x.1.2.2.2.1 x_1.1.2.2.1)) (some (.inr false)) (l7 (E5
 (ieq (o8 x.1.2.2.2.2) (o8 x_1.1.2.2.2.2))) (some (.inr false)) (some (.inl ()))))))) fun o=>U7 o (fun(x_3:
 PUnit)=>o5 (P5 (fun(x_4:Int)=>l7 (ilt x_4 (o8 x.1.2.2.2.2)) (o5 (U9 (fun(x_5:Bool×Int)=>l7 (ilt x_5.2 (o8
 x_1.1.2.2.2.2)) (l7 x_5.1 (some (.inl (true,x9 .i64 x_5.2 1))) (o5 (lat x.1.2.2.2.2 x_4) fun x_6=>o5 (lat
 x_1.1.2.2.2.2 x_5.2) fun x_7=>l7 (seq x_6.1 x_7.1) (o5 (lat x.1.2.2.2.2 x_4) fun x=>o5 (lat x_1.1.2.2.2.2 x_5.2)
 fun x_8=>some (.inl (seq x.2.1 x_8.2.1,x9 .i64 x_5.2 1))) (some (.inl (false,x9 .i64 x_5.2 1))))) (some
 (.inr x_5.1))) (false,0)) fun y=>l7 (E5 y) (some (.rt false)) (some (.nx (x9 .i64 x_4 1)))) (some (.ex
 ()))) 0) fun o=>U7 o (fun(y:PUnit)=>o5 gm fun x=>some x) fun r=>some r) fun(r:
 Bool)=>some r) fun r=>some r)
def s6:FSpec:=mkS ps6 rt6 fun x=>kM x.1 x.2.1 x.2.2.1 x.2.2.2
def c5n:Option (List (List UInt8)):=some [[105,102],[116,104,101,110],[101,108,115,101],[111,114],[97,110,100],[110,
 111,116],[116,114,117,101],[102,97,108,115,101],[116,111,100,97,121],[115,104,97,114,101],[100,105,118],[114,111,117,110,
 100],[109,105,110],[109,97,120],[112,108,117,115],[109,111,110,116,104,115],[100,97,121,115],[121,101,97,114,115],[121,
 101,97,114],[109,111,110,116,104],[116,97,98],[98,97,110,100],[99,111,117,110,116],[115,117,109],[97,108,108],[97,110,
 121],[109,111,115,116],[101,110,117,109],[116,97,98,108,101],[114,111,119],[115,99,111,112,101],[109,101,109,98,101,114,
 115],[105,110,112,117,116],[100,101,102],[114,117,108,101],[111,102],[111,118,101,114],[112,114,105,111],[102,114,111,109],
 [116,111],[101,110,100],[119,104,101,110],[105,115],[115,114,99],[98,111,111,108],[105,110,116],[109,111,110,101,121],[114,
 97,116,101],[100,97,116,101],[100,111,119,110],[117,112],[122,101,114,111],[97,119,97,121],[104,97,108,102],[101,118,101,
 110]]
def c4s (a0:pI) (a1:List bC):Option Bool:=l7 (ieq a0.1 6) (l7 (ile 0 a0.2) (some (ilt a0.2 (o8 a1))) (some false))
 (l7 (ile 1 a0.1) (l7 (ile a0.1 5) (some (ieq a0.2 0)) (some false)) (some false))
def c5C (a0:pI):Option Bool:=l7 (ile 0 a0.1) (l7 (ile a0.1 a0.2) (some (ile a0.2 109573)) (some false)) (some false)
def c4E (a0:pI) (a1:List bC):Option pI:=o5 (c4s a0 a1) fun x=>l7 (E5 x) (some (0,-1)) (l7
 (ieq a0.1 1) (some (0,1)) (l7 (ieq a0.1 2) (some (-1000000000000,1000000000000)) (l7 (ieq a0.1 3) (some (-1000000000000000,
 1000000000000000)) (l7 (ieq a0.1 4) (some (-1000000000,1000000000)) (l7 (ieq a0.1 5) (some (0,109572)) (o5 (lat a1 a0.2) fun x
 =>some (0,G8 .i64 (o8 x.2) 1)))))))
def c4z (a0:Int):Option Int:=o5 (l7 (ile 1 a0) (l7 (ile a0 9) (some (.inr 0)) (l7 (ile 35 a0) (l7 (ile a0 39) (some
 (.inr 0)) (some (.inl ()))) (some (.inl ())))) (l7 (ile 35 a0) (l7 (ile a0 39) (some (.inr 0)) (some (.inl
 ()))) (some (.inl ())))) fun o=>U7 o (fun(x:PUnit)=>l7 (ieq a0 10) (l7 (ieq a0 10) (some 1) (l7
 (ieq a0 26) (some 3) (l7 (ile 11 a0) (l7 (ile a0 30) (some 2) (some (-1))) (some (-1))))) (l7 (ieq a0 25) (l7 (ieq a0 25) (some 1) (l7
 (ieq a0 26) (some 3) (l7 (ile 11 a0) (l7 (ile a0 30) (some 2) (some (-1))) (some (-1))))) (l7 (ieq a0 31) (l7 (ieq a0 31) (some 1) (l7
 (ieq a0 26) (some 3) (l7 (ile 11 a0) (l7 (ile a0 30) (some 2) (some (-1))) (some (-1))))) (l7 (ieq a0 32) (l7 (ieq a0 32) (some 1) (l7
 (ieq a0 26) (some 3) (l7 (ile 11 a0) (l7 (ile a0 30) (some 2) (some (-1))) (some (-1))))) (l7 (ieq a0 33) (l7 (ieq a0 33) (some 1) (l7
 (ieq a0 26) (some 3) (l7 (ile 11 a0) (l7 (ile a0 30) (some 2) (some (-1))) (some (-1))))) (l7 (ieq a0 34) (some 1) (l7 (ieq a0 26) (some
 3) (l7 (ile 11 a0) (l7 (ile a0 30) (some 2) (some (-1))) (some (-1)))))))))) fun r=>some r
def c4q (a0:Int):Option Bool:=o5 (l7 (ile 1 a0) (l7 (ile a0 8) (some (.inr true)) (l7 (ile 36 a0) (l7 (ile a0 39)
 (some (.inr true)) (some (.inl ()))) (some (.inl ())))) (l7 (ile 36 a0) (l7 (ile a0 39) (some (.inr true)) (some
 (.inl ()))) (some (.inl ())))) fun o=>U7 o (fun(x:PUnit)=>l7 (ieq a0 14) (some true) (l7 (ieq
 a0 15) (some true) (l7 (ieq a0 16) (some true) (l7 (ieq a0 33) (some true) (some (ieq a0 34)))))) fun r=>some r
def c4v (a0:Int):Option pI:=some (a0,0)
def c4J (a0:pI) (a1:H6):Option Bool:=o5 (l7 (ieq a0.1 1) (some (ieq a0.1 1)) (l7 (ieq a0.1 2) (some (ieq a0.1 2))
 (l7 (ieq a0.1 3) (some (ieq a0.1 3)) (l7 (ieq a0.1 4) (some (ieq a0.1 4)) (some (ieq a0.1 5)))))) fun x=>l7 x (o5 (c4v
 a0.1) fun x=>o5 (c4E x a1.1) fun x=>l7 (ile x.1 a0.2) (some (ile a0.2 x.2)) (some false)) (o5 (l7 (ieq
 a0.1 14) (some (ieq a0.1 14)) (l7 (ieq a0.1 15) (some (ieq a0.1 15)) (some (ieq a0.1 16)))) fun x=>l7 x (l7 (ile 0 a0.2) (some
 (ile a0.2 5)) (some false)) (l7 (ieq a0.1 34) (l7 (ile 0 a0.2) (some (ile (dH a0.2 8) 5)) (some false)) (l7 (ieq a0.1 6) (some (ile 0
 a0.2)) (some true))))
def c4P (a0:pI) (a1:H6):Option Bool:=l7 (ieq a0.1 6) (l7 (ilt (az .i64 a0.2 16) (o8 a1.1)) (o5 (lat
 a1.1 (az .i64 a0.2 16)) fun x=>some (ilt (dH a0.2 16) (o8 x.2))) (some false)) (l7 (ieq a0.1 7) (l7 (ile 0 a0.2) (some
 (ilt a0.2 (o8 a1.2.2.1))) (some false)) (l7 (ieq a0.1 8) (l7 (ile 0 a0.2) (some (ilt a0.2 (o8 a1.2.2.2.1))) (some false)) (l7 (ieq a0.1
 33) (l7 (ile 0 a0.2) (some (ilt a0.2 (o8 a1.2.1))) (some false)) (l7 (ieq a0.1 34) (some (ilt (az .i64 a0.2 8) (o8 a1.2.1)))
 (l7 (ieq a0.1 35) (some a1.2.2.2.2.2) (o5 (l7 (ieq a0.1 36) (some (ieq a0.1 36)) (l7 (ieq a0.1 37) (some (ieq a0.1 37)) (l7 (ieq a0.1
 38) (some (ieq a0.1 38)) (some (ieq a0.1 39))))) fun x=>l7 x (l7 a1.2.2.2.2.2 (l7 (ile 0 a0.2) (some (ilt a0.2 (o8
 a1.2.2.2.2.1))) (some false)) (some false)) (some true)))))))
def c5c (a0:Int):Option Bool:=l7 (ieq a0 2) (some true) (l7 (ieq a0 3) (some true) (some (ieq a0 4)))
def c4M (a0:Int):Option Bool:=o5 (c5c a0) fun x=>l7 x (some true) (some (ieq a0 5))
def c4A (a0:pI) (a1:H6):Option (pI×Bool):=o5 (l7 (ieq a0.1 6) (some (6,az .i64 a0.2 16)) (l7 (ieq
 a0.1 7) (o5 (lat a1.2.2.1 a0.2) fun x=>some x) (l7 (ieq a0.1 8) (o5 (lat a1.2.2.2.1 a0.2) fun x=>some x) (l7 (ieq
 a0.1 9) (o5 (c4v 5) fun x=>some x) (l7 (ieq a0.1 35) (o5 (c4v 2) fun x=>some x) (o5 (l7 (ieq
 a0.1 36) (some (ieq a0.1 36)) (l7 (ieq a0.1 37) (some (ieq a0.1 37)) (l7 (ieq a0.1 38) (some (ieq a0.1 38)) (some (ieq a0.1 39))))) fun(x:
 Bool)=>l7 x (o5 (lat a1.2.2.2.2.1 a0.2) fun x=>some x) (o5 (c4v a0.1) fun x=>some x))))))) fun x
 =>o5 (c4s x a1.1) fun x_1=>l7 (ieq a0.1 36) (l7 x_1 (l7 (ieq x.1 2) (some (x,true)) (some (x,ieq x.1 3))) (some
 (x,false))) (l7 (ieq a0.1 37) (l7 (ieq a0.1 37) (l7 x_1 (some (x,ieq x.1 1)) (some (x,false))) (l7 (ieq a0.1 39) (l7 x_1 (o5
 (c4M x.1) fun x_2=>some (x,x_2)) (some (x,false))) (some (x,x_1)))) (l7 (ieq a0.1 38) (l7 x_1 (some (x,ieq x.1 1))
 (some (x,false))) (l7 (ieq a0.1 39) (l7 x_1 (o5 (c4M x.1) fun x_2=>some (x,x_2)) (some (x,false))) (some (x,
 x_1)))))
def c4Q (a0:pI) (a1:pI) (a2:H6):Option (pI×Bool):=l7 (ieq a0.1 10) (o5 (c5c a1.1) fun x
 =>some (a1,x)) (l7 (ieq a0.1 25) (some (a1,ieq a1.1 1)) (o5 (l7 (ieq a0.1 31) (some (ieq a0.1 31)) (some (ieq a0.1 32))) fun x
 =>l7 x (o5 (c4v 2) fun x=>some (x,ieq a1.1 5)) (l7 (ieq a0.1 33) (o5 (lat a2.2.1 a0.2) fun x=>o5
 (c4s x.2.1 a2.1) fun x_1=>l7 x_1 (o5 (c4s x.2.2.1 a2.1) fun x_2=>l7 x_2 (some (x.2.2.1,U2
 (ieq a1.1 x.2.1.1) (ieq a1.2 x.2.1.2))) (some (x.2.2.1,false))) (some (x.2.2.1,false))) (o5 (lat a2.2.1 (az .i64 a0.2 8)) fun(x:
 Y4)=>l7 (ieq a1.1 3) (o5 (c4v 3) fun x_1=>l7 (U2 (ieq x.2.1.1 x_1.1) (ieq x.2.1.2 x_1.2)) (o5 (c4v 4)
 fun x_2=>some (a1,U2 (ieq x.2.2.1.1 x_2.1) (ieq x.2.2.1.2 x_2.2))) (some (a1,false))) (some (a1,false))))))
def c5B (a0:Int) (a1:Int) (a2:Int):Option (pI×Bool):=l7 (ieq a0 13) (o5 (c4v a1) fun x=>l7 (ieq a2
 2) (l7 (ieq a1 2) (some (x,true)) (some (x,ieq a1 3))) (some (x,false))) (l7 (ieq a0 14) (o5 (c4v a1) fun x=>l7
 (ieq a2 4) (l7 (ieq a1 3) (some (x,true)) (some (x,ieq a1 4))) (some (x,false))) (l7 (ieq a1 3) (l7 (ieq a2 3) (o5 (c4v 4) fun
 (x:pI)=>some (x,true)) (o5 (c4v a1) fun x=>l7 (ieq a2 2) (l7 (ieq a1 2) (some (x,true)) (some (x,ieq a1 3)))
 (some (x,false)))) (o5 (c4v a1) fun x=>l7 (ieq a2 2) (l7 (ieq a1 2) (some (x,true)) (some (x,ieq a1 3))) (some (x,
 false)))))
def c5b (a0:Int) (a1:pI) (a2:pI):Option (pI×Bool):=o5 (o5 (l7 (ieq a0 11) (some (ieq a0 11)) (some (ieq a0
 12))) fun x=>l7 x (l7 (U2 (ieq a1.1 a2.1) (ieq a1.2 a2.2)) (o5 (c5c a1.1) fun x=>some (.inr (a1,x)))
 (some (.inr (a1,false)))) (o5 (l7 (ieq a0 13) (some (ieq a0 13)) (l7 (ieq a0 14) (some (ieq a0 14)) (some (ieq a0 15)))) fun x
 =>l7 x (o5 (c5B a0 a1.1 a2.1) fun x=>some (.inr x)) (l7 (ieq a0 16) (l7 (ieq a1.1 3) (some (.inr (a1,
 ieq a2.1 3))) (some (.inr (a1,false)))) (o5 (l7 (ieq a0 17) (some (ieq a0 17)) (some (ieq a0 18))) fun x=>l7 x (l7 (U2
 (ieq a1.1 a2.1) (ieq a1.2 a2.2)) (o5 (c4M a1.1) fun x=>some (.inr (a1,x))) (some (.inr (a1,false)))) (o5 (l7
 (ieq a0 19) (some (ieq a0 19)) (some (ieq a0 20))) fun x=>l7 x (o5 (c4v 1) fun x=>some (.inr (x,U2 (ieq
 a1.1 a2.1) (ieq a1.2 a2.2)))) (o5 (l7 (ieq a0 21) (some (ieq a0 21)) (some (ieq a0 22))) fun x=>l7 x (o5 (c4v 1) fun(x
 :pI)=>l7 (U2 (ieq a1.1 a2.1) (ieq a1.2 a2.2)) (o5 (c4M a1.1) fun x_1=>some (.inr (x,x_1))) (some (.inr (x,
 false)))) (l7 (ieq a0 23) (l7 (ieq a0 23) (l7 (ieq a1.1 1) (some (.inr (a1,ieq a2.1 1))) (some (.inr (a1,false)))) (l7 (ieq a0
 27) (l7 (ieq a0 27) (l7 (ieq a1.1 5) (some (.inr (a1,ieq a2.1 2))) (some (.inr (a1,false)))) (some (.inl (0,0)))) (l7 (ieq a0
 28) (l7 (ieq a1.1 5) (some (.inr (a1,ieq a2.1 2))) (some (.inr (a1,false)))) (some (.inl (0,0)))))) (l7 (ieq a0 24) (l7 (ieq
 a1.1 1) (some (.inr (a1,ieq a2.1 1))) (some (.inr (a1,false)))) (l7 (ieq a0 27) (l7 (ieq a0 27) (l7 (ieq a1.1 5) (some (.inr (a1,
 ieq a2.1 2))) (some (.inr (a1,false)))) (some (.inl (0,0)))) (l7 (ieq a0 28) (l7 (ieq a1.1 5) (some (.inr (a1,ieq a2.1 2))) (some
 (.inr (a1,false)))) (some (.inl (0,0))))))))))))) fun o=>U7 o (fun(x:pI)=>o5 (c4v 2) fun(x:
 pI)=>l7 (ieq a1.1 5) (some (x,ieq a2.1 5)) (some (x,false))) fun r=>some r
def c5i (a0:pI) (a1:List pI) (a2:H6):Option (pI×Int):=o5 (l7 (E5 (ieq a0.2 0)) (o5 (c4q
 a0.1) fun x=>l7 (E5 x) (some (.inr ((0,0),2))) (some (.inl (0,0)))) (some (.inl (0,0)))) fun o
 =>U7 o (fun(x:pI)=>o5 (c4J a0 a2) fun x=>l7 (E5 x) (some ((0,0),3)) (o5 (c4P a0 a2) fun(x:
 Bool)=>l7 (E5 x) (some ((0,0),6)) (l7 (ieq (o8 a1) 0) (o5 (c4A a0 a2) fun x=>l7 (E5 x.2) (some ((0,
 0),8)) (some (x.1,0))) (l7 (ieq (o8 a1) 1) (o5 (lat a1 0) fun x=>o5 (c4Q a0 x a2) fun x=>l7
 (E5 x.2) (some ((0,0),8)) (some (x.1,0))) (l7 (ieq (o8 a1) 2) (o5 (lat a1 0) fun x=>o5 (lat a1 1) fun x_1=>
 o5 (c5b a0.1 x x_1) fun x=>l7 (E5 x.2) (some ((0,0),8)) (some (x.1,0))) (o5 (lat a1 1) fun x=>
 o5 (lat a1 0) fun x_1=>l7 (ieq x_1.1 1) (o5 (lat a1 1) fun x_2=>o5 (lat a1 2) fun x_3=>l7 (E5
 (U2 (ieq x_2.1 x_3.1) (ieq x_2.2 x_3.2))) (some ((0,0),8)) (some (x,0))) (l7 (E5 false) (some ((0,0),8)) (some (x,0))))))))) fun(r:
 pI×Int)=>some r
def c5m (a0:pI) (a1:Int):Option Bool:=o5 (c5C a0) fun x=>l7 x (l7 (ile a0.1 a1) (some (ilt a1 a0.2))
 (some false)) (some false)
def c5d (a0:Int):Option pI:=l7 (ieq a0 1) (some (0,1)) (l7 (ieq a0 2) (some (-1000000000000,1000000000000)) (l7 (ieq a0
 3) (some (-1000000000000000,1000000000000000)) (l7 (ieq a0 4) (some (-1000000000,1000000000)) (l7 (ieq a0 5) (some (0,109572)) (l7 (ieq
 a0 6) (some (0,15)) (some (0,-1)))))))
def c4t (a0:J6):Option Bool:=o5 (c5d a0.1) fun x=>l7 (ilt a0.2.2 x.1) (some false) (l7 (ilt x.2
 a0.2.2) (some false) (l7 (ieq a0.1 6) (l7 (ile 0 a0.2.1) (some (ilt a0.2.1 8)) (some false)) (some (ieq a0.2.1 0))))
def c4N (a0:Int):Option Bool:=o5 (l7 (ile 1 a0) (l7 (ile a0 8) (some (.inr true)) (l7 (ile 36 a0) (l7 (ile a0 39)
 (some (.inr true)) (some (.inl ()))) (some (.inl ())))) (l7 (ile 36 a0) (l7 (ile a0 39) (some (.inr true)) (some
 (.inl ()))) (some (.inl ())))) fun o=>U7 o (fun(x:PUnit)=>l7 (ieq a0 14) (some true) (l7 (ieq
 a0 15) (some true) (l7 (ieq a0 16) (some true) (l7 (ieq a0 33) (some true) (some (ieq a0 34)))))) fun r=>some r
def c5j (a0:pI) (a1:Int):Option Bool:=o5 (o5 (c4z a0.1) fun x=>l7 (E5 (ieq x a1)) (some (.inr
 false)) (l7 (E5 (ieq a0.2 0)) (o5 (c4N a0.1) fun x=>l7 (E5 x) (some (.inr false)) (some (.inl ())))
 (some (.inl ())))) fun o=>U7 o (fun(x:PUnit)=>o5 (l7 (ieq a0.1 14) (some (ieq a0.1 14)) (l7 (ieq a0.1
 15) (some (ieq a0.1 15)) (some (ieq a0.1 16)))) fun x=>l7 x (l7 (ile 0 a0.2) (some (ile a0.2 5)) (some false)) (l7 (ieq a0.1 34)
 (l7 (ile 0 a0.2) (some (ile (dH a0.2 8) 5)) (some false)) (l7 (ieq a0.1 6) (some (ile 0 a0.2)) (some true)))) fun r=>some r
def c5A (a0:pI) (a1:X9):Option Bool:=l7 (ieq a0.1 7) (l7 (ile 0 a0.2) (some (ilt a0.2 (o8 a1.2.1))) (some false)) (l7
 (ieq a0.1 8) (l7 (ile 0 a0.2) (l7 (ilt a0.2 (o8 a1.2.2.1)) (o5 (lat a1.2.2.1 a0.2) fun x=>some (E5 (ieq x.1 0))) (some
 false)) (some false)) (l7 (ieq a0.1 33) (l7 (ile 0 a0.2) (some (ilt a0.2 (o8 a1.2.2.2.2.2))) (some false)) (l7 (ieq a0.1 34) (some (ilt
 (az .i64 a0.2 8) (o8 a1.2.2.2.2.2))) (o5 (l7 (ieq a0.1 36) (some (ieq a0.1 36)) (l7 (ieq a0.1 37) (some (ieq a0.1 37)) (l7
 (ieq a0.1 38) (some (ieq a0.1 38)) (some (ieq a0.1 39))))) fun x=>l7 x (l7 (ile 0 a0.2) (some (ilt a0.2 (o8 a1.2.2.2.2.1))) (some
 false)) (some true)))))
def c5r (a0:Int) (a1:pI):Option Bool:=l7 (E5 (ieq a1.2 0)) (some false) (l7 (ieq a0 36) (l7 (ieq a1.1 2) (some true)
 (some (ieq a1.1 3))) (l7 (ieq a0 39) (l7 (ile 2 a1.1) (some (ile a1.1 5)) (some false)) (some (ieq a1.1 1))))
def c5z (a0:J6) (a1:pI):Option Bool:=o5 (c4t a0) fun x=>l7 x (l7 (ieq a0.1 a1.1) (some (ieq
 a0.2.1 a1.2)) (some false)) (some false)
def c5x (a0:Int) (a1:Int) (a2:Int) (a3:Bool):Option Int:=l7 (ieq a0 36) (some (x9 .i64 a1 a2)) (l7 (ieq a0 37) (some
 (U6 .i64 a1 a2)) (l7 (ieq a0 38) (l7 (ilt a1 a2) (some a2) (some a1)) (l7 a3 (some a2) (l7 (ilt a1 a2) (some a2) (some a1)))))
def c4o (a0:Int) (a1:Int):Option (J6×Int):=o5 (c4t (a0,0,a1)) fun x=>l7 (E5 x) (some ((0,0,0),
 3)) (some ((a0,0,a1),0))
def c5g (a0:pI) (a1:X9):Option (J6×Int):=o5 (lat a1.2.2.2.2.1 a0.2) fun x=>o5 (c5r a0.1 x)
 fun x_1=>l7 (E5 x_1) (some ((0,0,0),8)) (o5 (l7 (ieq a0.1 37) (some 1) (some 0)) fun x_2=>o5 (P5 (fun(x_3:
 J6×pI)=>l7 (ilt x_3.2.2 (o8 a1.2.2.2.1)) (o5 (lat a1.2.2.2.1 x_3.2.2) fun x_4=>o5 (l7 (ile (o8 x_4)
 a0.2) (some (.inr ((0,0,0),6))) (o5 (lat x_4 a0.2) fun x=>l7 (ieq x.1 0) (some (.inr ((0,0,0),6))) (some (.inl
 x_3.1)))) fun o=>U7 o (fun(x_5:J6)=>o5 (lat x_4 a0.2) fun x_6=>o5 (c5z x_6 x) fun
 (x_7:Bool)=>l7 (E5 x_7) (some (.rt ((0,0,0),8))) (o5 (lat x_4 a0.2) fun x_8=>o5 (c5x a0.1 x_3.2.1 x_8.2.2
 (ieq x_3.2.2 0)) fun x_9=>o5 (c4o x.1 x_9) fun x=>l7 (E5 (ieq x.2 0)) (some (.rt ((0,0,0),x.2)))
 (some (.nx (x_5,x_9,x9 .i64 x_3.2.2 1))))) fun r=>some (.rt r)) (some (.ex (x_3.1,x_3.2.1)))) ((0,0,0),
 x_2,0)) fun o=>U7 o (fun(y:J6×Int)=>l7 (ieq a0.1 39) (l7 (ieq (o8 a1.2.2.2.1) 0) (some ((0,
 0,0),6)) (o5 (c4o x.1 y.2) fun x=>some x)) (o5 (c4o x.1 y.2) fun x=>some x)) fun(r:
 J6×Int)=>some r)
def c4y (a0:pI) (a1:X9):Option (J6×Int):=l7 (ieq a0.1 7) (o5 (lat a1.2.1 a0.2) fun x=>o5
 (c4t x) fun x=>l7 (E5 x) (some ((0,0,0),8)) (o5 (lat a1.2.1 a0.2) fun x=>some (x,0))) (l7 (ieq
 a0.1 8) (o5 (lat a1.2.2.1 a0.2) fun x=>o5 (c4t x) fun x=>l7 (E5 x) (some ((0,0,0),8)) (o5 (lat
 a1.2.2.1 a0.2) fun x=>some (x,0))) (l7 (ieq a0.1 9) (o5 (c4o 5 a1.1) fun x=>some x) (l7 (ieq a0.1
 35) (o5 (c4o 2 (o8 a1.2.2.2.1)) fun x=>some x) (l7 (ieq a0.1 6) (o5 (c4t (6,az .i64 a0.2
 16,dH a0.2 16)) fun x=>l7 (E5 x) (some ((0,0,0),3)) (some ((6,az .i64 a0.2 16,dH a0.2 16),0))) (o5 (c4o
 a0.1 a0.2) fun x=>some x)))))
def c5k (a0:Int):Option Bool:=l7 (ieq a0 2) (some true) (l7 (ieq a0 3) (some true) (some (ieq a0 4)))
def c4F (a0:Bool):Option (J6×Int):=l7 a0 (some ((1,0,1),0)) (some ((1,0,0),0))
def c4O (a0:Int):Option Bool:=l7 (ile 0 a0) (some (ile a0 109572)) (some false)
def c5t (a0:Int):Option Bool:=l7 (ieq (dH a0 4) 0) (l7 (E5 (ieq (dH a0 100) 0)) (some true) (some (ieq (dH a0 400) 0)))
 (some false)
def c4x (a0:Int):Option Int:=o5 (c5t a0) fun x=>l7 x (some 366) (some 365)
def c4p (a0:Int) (a1:Int):Option Int:=l7 (ieq a1 2) (o5 (c5t a0) fun x=>l7 x (some 29) (some 28))
 (o5 (l7 (ieq a1 4) (some (ieq a1 4)) (l7 (ieq a1 6) (some (ieq a1 6)) (l7 (ieq a1 9) (some (ieq a1 9)) (some (ieq a1 11))))) fun(x:
 Bool)=>l7 x (some 30) (l7 (ieq a1 1) (l7 (ieq a1 1) (some 31) (some 0)) (l7 (ieq a1 3) (l7 (ieq a1 3) (some 31) (some 0)) (l7
 (ieq a1 5) (l7 (ieq a1 5) (some 31) (some 0)) (l7 (ieq a1 7) (l7 (ieq a1 7) (some 31) (some 0)) (l7 (ieq a1 8) (l7 (ieq a1 8) (some
 31) (some 0)) (l7 (ieq a1 10) (l7 (ieq a1 10) (some 31) (some 0)) (l7 (ieq a1 12) (some 31) (some 0)))))))))
def c5h (a0:Int):Option J6:=o5 (c4O a0) fun x=>l7 (E5 x) (some (0,0,0)) (o5 (U9 (fun(x:pI)
 =>o5 (c4x x.2) fun x_1=>l7 (ile x_1 x.1) (o5 (c4x x.2) fun x_2=>some (.inl (G8
 .i64 x.1 x_2,x9 .i64 x.2 1))) (some (.inr x))) (a0,1900)) fun y=>o5 (U9 (fun(x:pI)=>o5
 (c4p y.2 x.2) fun x_1=>l7 (ile x_1 x.1) (o5 (c4p y.2 x.2) fun x_2=>some (.inl (G8
 .i64 x.1 x_2,x9 .i64 x.2 1))) (some (.inr x))) (y.1,1)) fun y_1=>some (y.2,y_1.2,x9 .i64 y_1.1 1))
def c5w (a0:rW) (a1:Int) (a2:Int):Option Bool:=o5 (c5m a0.1 a1) fun x=>l7 x (l7 (ile a0.2.1 a2)
 (some (ilt a2 a0.2.2.1)) (some false)) (some false)
def c5u (a0:Y4) (a1:Int) (a2:Int):Option (Int×Bool):=o5 (P5 (fun(x:Int)=>l7 (ilt x (o8 a0.2.2.2)) (o5 (lat
 a0.2.2.2 x) fun x_1=>o5 (c5w x_1 a1 a2) fun x_2=>l7 x_2 (some (.rt (x,true))) (some (.nx (x9
 .i64 x 1)))) (some (.ex ()))) 0) fun o=>U7 o (fun(y:PUnit)=>some (0,false)) fun r
 =>some r
def c5y (a0:Y4) (a1:Int) (a2:J6):Option (J6×Int):=o5 (l7 (E5 (ieq a2.1 a0.2.1.1)) (some (.inr ((0,0,0),
 8))) (l7 (E5 (ieq a2.2.1 a0.2.1.2)) (some (.inr ((0,0,0),8))) (l7 (ilt a0.2.2.1.1 1) (some (.inr ((0,0,0),8))) (l7 (ilt 6
 a0.2.2.1.1) (some (.inr ((0,0,0),8))) (some (.inl (0,0,0))))))) fun o=>U7 o (fun(x:J6)=>o5
 (c5u a0 a1 a2.2.2) fun x=>l7 (E5 x.2) (some ((0,0,0),6)) (o5 (lat a0.2.2.2 x.1) fun x=>o5
 (c4t (a0.2.2.1.1,a0.2.2.1.2,x.2.2.2)) fun x_1=>l7 (E5 x_1) (some ((0,0,0),3)) (some ((a0.2.2.1.1,a0.2.2.1.2,
 x.2.2.2),0)))) fun r=>some r
def c5l (a0:Int):Option Bool:=l7 (ile 0 a0) (some (ile a0 5)) (some false)
def c4u (a0:Int) (a1:Int):Option Bool:=l7 (ilt a1 a0) (some true) (some (ilt a0 (G8 .i64 0 a1)))
def c4V (a0:Int) (a1:Int):Option (Int×Int×Bool):=o5 (l7 (ilt a1 0) (some (x9 .u64 (wrap .u64 (G8
 .i64 0 (x9 .i64 a1 1))) 1)) (some (wrap .u64 a1))) fun x=>l7 (ilt 0 (wrap .i64 (az .u64 x
 1000000))) (o5 (uA .i64 1000000000000000 (wrap .i64 (az .u64 x 1000000))) fun x_1=>l7 (ilt x_1 a0) (some
 (0,0,false)) (l7 (ilt 1000000000000000 (x9 .i64 (x9 .i64 (U6 .i64 a0 (wrap .i64 (az .u64 x 1000000)))
 (U6 .i64 (az .i64 a0 1000000) (wrap .i64 (dH x 1000000)))) (az .i64 (U6 .i64 (dH a0 1000000) (wrap
 .i64 (dH x 1000000))) 1000000))) (some (0,0,false)) (l7 (ilt a1 0) (some (G8 .i64 0 (x9 .i64 (x9 .i64 (U6
 .i64 a0 (wrap .i64 (az .u64 x 1000000))) (U6 .i64 (az .i64 a0 1000000) (wrap .i64 (dH x 1000000))))
 (az .i64 (U6 .i64 (dH a0 1000000) (wrap .i64 (dH x 1000000))) 1000000)),G8 .i64 0 (dH (U6 .i64
 (dH a0 1000000) (wrap .i64 (dH x 1000000))) 1000000),true)) (some (x9 .i64 (x9 .i64 (U6 .i64 a0 (wrap
 .i64 (az .u64 x 1000000))) (U6 .i64 (az .i64 a0 1000000) (wrap .i64 (dH x 1000000)))) (az .i64
 (U6 .i64 (dH a0 1000000) (wrap .i64 (dH x 1000000))) 1000000),dH (U6 .i64 (dH a0 1000000) (wrap .i64 (dH x
 1000000))) 1000000,true))))) (l7 (ilt 1000000000000000 (x9 .i64 (x9 .i64 (U6 .i64 a0 (wrap .i64 (az
 .u64 x 1000000))) (U6 .i64 (az .i64 a0 1000000) (wrap .i64 (dH x 1000000)))) (az .i64 (U6 .i64
 (dH a0 1000000) (wrap .i64 (dH x 1000000))) 1000000))) (some (0,0,false)) (l7 (ilt a1 0) (some (G8 .i64 0 (x9 .i64
 (x9 .i64 (U6 .i64 a0 (wrap .i64 (az .u64 x 1000000))) (U6 .i64 (az .i64 a0 1000000) (wrap
 .i64 (dH x 1000000)))) (az .i64 (U6 .i64 (dH a0 1000000) (wrap .i64 (dH x 1000000))) 1000000)),G8
 .i64 0 (dH (U6 .i64 (dH a0 1000000) (wrap .i64 (dH x 1000000))) 1000000),true)) (some (x9 .i64 (x9
 .i64 (U6 .i64 a0 (wrap .i64 (az .u64 x 1000000))) (U6 .i64 (az .i64 a0 1000000) (wrap .i64
 (dH x 1000000)))) (az .i64 (U6 .i64 (dH a0 1000000) (wrap .i64 (dH x 1000000))) 1000000),dH (U6 .i64 (dH
 a0 1000000) (wrap .i64 (dH x 1000000))) 1000000,true))))
def c4B (a0:Int) (a1:Int) (a2:Int) (a3:Bool) (a4:Int):Option Int:=o5 (l7 (ieq a4 0) (l7 a3 (some (ilt 0 a1)) (some
 false)) (l7 (ieq a4 1) (l7 (E5 a3) (some (ilt 0 a1)) (some false)) (l7 (ieq a4 3) (some (ilt 0 a1)) (l7 (ieq a4 4) (some (ile (G8
 .i64 a2 a1) a1)) (l7 (ieq a4 5) (l7 (ilt (G8 .i64 a2 a1) a1) (some true) (l7 (ieq a1 (G8 .i64 a2 a1)) (some (ieq
 (dH a0 2) 1)) (some false))) (some false)))))) fun x=>l7 x (l7 a3 (some (G8 .i64 0 (x9 .i64 a0 1))) (some (x9
 .i64 a0 1))) (l7 a3 (some (G8 .i64 0 a0)) (some a0))
def c5q (a0:Int) (a1:Int) (a2:Int):Option Int:=o5 (U9 (fun(x:pI)=>l7 (ilt x.2 0) (some (.inl (G8 .i64
 x.1 1,x9 .i64 x.2 1000000))) (some (.inr x))) (a0,a1)) fun y=>o5 (U9 (fun(x:pI)=>l7 (ile 1000000 x.2)
 (some (.inl (x9 .i64 x.1 1,G8 .i64 x.2 1000000))) (some (.inr x))) y) fun y=>l7 (ile 0 y.1) (o5
 (c4B y.1 y.2 1000000 false a2) fun x=>some x) (l7 (ieq y.2 0) (some y.1) (o5 (c4B (G8 .i64 (G8
 .i64 0 y.1) 1) (G8 .i64 1000000 y.2) 1000000 true a2) fun x=>some x))
def c5o (a0:Y4) (a1:Int) (a2:Int) (a3:Int):Option pI:=o5 (c5l a3) fun x=>l7 (E5 x) (some (0,
 1)) (o5 (l7 (E5 (U2 (ieq a0.2.1.1 3) (ieq a0.2.1.2 0))) (some (.inr (0,8))) (l7 (E5 (U2 (ieq a0.2.2.1.1 4) (ieq a0.2.2.1.2 0)))
 (some (.inr (0,8))) (some (.inl ())))) fun o=>U7 o (fun(x:PUnit)=>o5 (c4u a2 1000000000000000)
 fun x=>l7 x (some (0,3)) (o5 (P5 (fun(x:J6)=>l7 (ilt x.2.2 (o8 a0.2.2.2)) (o5 (lat a0.2.2.2 x.2.2) fun(x_1:
 rW)=>o5 (lat a0.2.2.2 x.2.2) fun x_2=>l7 (ile (jM x_2.2.2.1 a2) (gu x_1.2.1 0)) (some (.nx (x.1,x.2.1,x9 .i64
 x.2.2 1))) (o5 (lat a0.2.2.2 x.2.2) fun x_3=>o5 (c5m x_3.1 a1) fun x_4=>l7 (E5 x_4) (some (.nx (x.1,
 x.2.1,x9 .i64 x.2.2 1))) (o5 (lat a0.2.2.2 x.2.2) fun x_5=>o5 (c4V (G8 .i64 (jM x_2.2.2.1 a2)
 (gu x_1.2.1 0)) x_5.2.2.2) fun x_6=>l7 (E5 x_6.2.2) (some (.rt (0,3))) (some (.nx (x9 .i64 x.1 x_6.1,
 x9 .i64 x.2.1 x_6.2.1,x9 .i64 x.2.2 1)))))) (some (.ex (x.1,x.2.1)))) (0,0,0)) fun o=>U7 o (fun(y:
 pI)=>o5 (c5q y.1 y.2 a3) fun x=>o5 (c4u x 1000000000000000) fun x_1=>l7 x_1 (some (0,3)) (some
 (x,0))) fun r=>some r)) fun r=>some r)
def c4G (a0:Int) (a1:Int) (a2:Int):Option (J6×Int):=l7 (E5 (ieq a2 0)) (some ((0,0,0),a2)) (o5 (c4o a0 a1)
 fun x=>some x)
def c4K (a0:pI) (a1:J6) (a2:X9):Option (J6×Int):=o5 (l7 (ieq a0.1 10) (o5 (c5k a1.1) fun(x:
 Bool)=>l7 (E5 x) (some (.inr ((0,0,0),8))) (o5 (c4o a1.1 (G8 .i64 0 a1.2.2)) fun x=>some (.inr
 x))) (l7 (ieq a0.1 25) (l7 (E5 (ieq a1.1 1)) (some (.inr ((0,0,0),8))) (o5 (c4F (ieq a1.2.2 0)) fun x=>
 some (.inr x))) (o5 (l7 (ieq a0.1 31) (some (ieq a0.1 31)) (some (ieq a0.1 32))) fun x=>l7 x (l7 (E5 (ieq a1.1 5)) (some
 (.inr ((0,0,0),8))) (o5 (c5h a1.2.2) fun x=>l7 (ieq a0.1 31) (o5 (c4o 2 x.1) fun x=>
 some (.inr x)) (o5 (c4o 2 x.2.1) fun x=>some (.inr x)))) (l7 (ieq a0.1 33) (o5 (lat a2.2.2.2.2.2 a0.2) fun
 (x:Y4)=>o5 (c5y x a2.1 a1) fun x=>some (.inr x)) (some (.inl (0,0,0))))))) fun o=>U7 o (fun(x:J6)=>o5 (lat a2.2.2.2.2.2 (az .i64 a0.2 8)) fun x_1=>o5 (l7 (E5 (ieq a1.1 3)) (some
 (.inr ((0,0,0),8))) (l7 (E5 (ieq x_1.2.1.1 3)) (some (.inr ((0,0,0),8))) (l7 (E5 (ieq x_1.2.1.2 0)) (some (.inr ((0,0,0),
 8))) (l7 (E5 (ieq x_1.2.2.1.1 4)) (some (.inr ((0,0,0),8))) (l7 (E5 (ieq x_1.2.2.1.2 0)) (some (.inr ((0,0,0),8))) (some
 (.inl x))))))) fun o=>U7 o (fun(x:J6)=>o5 (c5o x_1 a2.1 a1.2.2 (dH a0.2 8)) fun x
 =>o5 (c4G 3 x.1 x.2) fun x=>some x) fun r=>some r) fun r=>some r
def c4S (a0:Int) (a1:Int) (a2:Int):Option (J6×Int):=o5 (c5d a0) fun x=>l7 (ilt a1 0) (l7 (ilt
 a2 0) (l7 (E5 (ieq (G8 .i64 0 a2) 0)) (o5 (uA .i64 x.2 (G8 .i64 0 a2)) fun x=>l7 (ilt x (G8
 .i64 0 a1)) (some ((0,0,0),3)) (o5 (c4o a0 (U6 .i64 a1 a2)) fun x=>some x)) (o5 (c4o a0
 (U6 .i64 a1 a2)) fun x=>some x)) (l7 (E5 (ieq a2 0)) (o5 (uA .i64 x.2 a2) fun x=>l7 (ilt x
 (G8 .i64 0 a1)) (some ((0,0,0),3)) (o5 (c4o a0 (U6 .i64 a1 a2)) fun x=>some x)) (o5 (c4o
 a0 (U6 .i64 a1 a2)) fun x=>some x))) (l7 (ilt a2 0) (l7 (E5 (ieq (G8 .i64 0 a2) 0)) (o5 (uA
 .i64 x.2 (G8 .i64 0 a2)) fun x=>l7 (ilt x a1) (some ((0,0,0),3)) (o5 (c4o a0 (U6 .i64 a1 a2)) fun
 (x:J6×Int)=>some x)) (o5 (c4o a0 (U6 .i64 a1 a2)) fun x=>some x)) (l7 (E5 (ieq a2 0)) (o5
 (uA .i64 x.2 a2) fun x=>l7 (ilt x a1) (some ((0,0,0),3)) (o5 (c4o a0 (U6 .i64 a1 a2)) fun x=>some x)) (o5 (c4o a0 (U6 .i64 a1 a2)) fun x=>some x)))
def c4W (a0:Int):Option Int:=l7 (ilt a0 0) (some (G8 .i64 0 a0)) (some a0)
def c5s (a0:Int) (a1:Int) (a2:Int) (a3:Int):Option pI:=o5 (c5l a3) fun x=>l7 (E5 x) (some (0,1))
 (l7 (ieq a2 0) (some (0,12)) (o5 (o5 (c4u a0 1000000000000000) fun x=>l7 x (some (.inr (0,3))) (o5
 (c4u a1 1000000000) fun x=>l7 x (some (.inr (0,3))) (o5 (c4u a2 1000000000) fun x=>l7 x (some
 (.inr (0,3))) (some (.inl ()))))) fun o=>U7 o (fun(x:PUnit)=>o5 (c4W a0) fun x=>o5
 (c4W a1) fun x_1=>o5 (c4W a2) fun x_2=>l7 (ilt 0 x_1) (o5 (uA .i64 x x_2) fun x_3=>o5
 (uA .i64 1000000000000000 x_1) fun x_4=>l7 (ilt x_4 x_3) (some (0,3)) (o5 (zt x x_2) fun x_5=>o5 (uA
 .i64 x x_2) fun x=>o5 (uA .i64 (U6 .i64 x_5 x_1) x_2) fun x_6=>o5 (zt (U6 .i64 x_5
 x_1) x_2) fun x_7=>o5 (c4B (x9 .i64 (U6 .i64 x x_1) x_6) x_7 x_2 (E5 (bI (E5 (bI (ilt a0 0) (ilt a1
 0))) (ilt a2 0))) a3) fun x=>o5 (c4u x 1000000000000000) fun x_8=>l7 x_8 (some (0,3)) (some (x,0)))) (o5
 (zt x x_2) fun x_3=>o5 (uA .i64 x x_2) fun x=>o5 (uA .i64 (U6 .i64 x_3 x_1) x_2) fun(x_4:
 Int)=>o5 (zt (U6 .i64 x_3 x_1) x_2) fun x_5=>o5 (c4B (x9 .i64 (U6 .i64 x x_1) x_4) x_5 x_2
 (E5 (bI (E5 (bI (ilt a0 0) (ilt a1 0))) (ilt a2 0))) a3) fun x=>o5 (c4u x 1000000000000000) fun x_6=>l7
 x_6 (some (0,3)) (some (x,0)))) fun r=>some r))
def c5p (a0:Int) (a1:Int) (a2:Int):Option pI:=o5 (c5s a0 a1 1000000 a2) fun x=>some x
def c4w (a0:Int) (a1:Int):Option Bool:=l7 (ilt a1 a0) (some true) (some (ilt a0 (G8 .i64 0 a1)))
def c4X (a0:Int) (a1:Int):Option pI:=o5 (uA .i64 a0 a1) fun x=>o5 (zt a0 a1) fun x_1=>l7
 (ilt x_1 0) (some (G8 .i64 x 1,x9 .i64 x_1 a1)) (some (x,x_1))
def c4n (a0:Int) (a1:Int) (a2:Int) (a3:Int):Option Int:=l7 (ieq a1 0) (some a0) (o5 (l7 (ieq a3 1) (some true) (l7
 (ieq a3 2) (l7 (ilt a0 0) (some true) (l7 (ieq a3 3) (some (ile 0 a0)) (some false))) (l7 (ieq a3 3) (some (ile 0 a0)) (some false)))) fun
 (x:Bool)=>l7 (ieq a3 4) (l7 (ieq a1 (G8 .i64 a2 a1)) (l7 (ieq a3 4) (l7 (ile 0 a0) (some (x9 .i64 a0 1)) (l7
 (ieq a3 5) (l7 (E5 (ieq (dH a0 2) 0)) (some (x9 .i64 a0 1)) (some a0)) (some a0))) (l7 (ieq a3 5) (l7 (E5 (ieq (dH a0 2)
 0)) (some (x9 .i64 a0 1)) (some a0)) (some a0))) (l7 (ilt (G8 .i64 a2 a1) a1) (some (x9 .i64 a0 1)) (some a0))) (l7
 (ieq a3 5) (l7 (ieq a1 (G8 .i64 a2 a1)) (l7 (ieq a3 4) (l7 (ile 0 a0) (some (x9 .i64 a0 1)) (l7 (ieq a3 5) (l7 (E5
 (ieq (dH a0 2) 0)) (some (x9 .i64 a0 1)) (some a0)) (some a0))) (l7 (ieq a3 5) (l7 (E5 (ieq (dH a0 2) 0)) (some (x9
 .i64 a0 1)) (some a0)) (some a0))) (l7 (ilt (G8 .i64 a2 a1) a1) (some (x9 .i64 a0 1)) (some a0))) (l7 x (some (x9
 .i64 a0 1)) (some a0))))
def c5v (a0:Int) (a1:Int) (a2:Int):Option pI:=l7 (ilt a2 0) (some (0,1)) (l7 (ilt 5 a2) (some (0,1)) (o5 (c4w
 a0 1000000000) fun x=>l7 x (some (0,3)) (o5 (c4w a1 1000000000) fun x=>l7 x (some (0,3)) (o5
 (c4X (U6 .i64 a0 a1) 1000000) fun x=>o5 (c4n x.1 x.2 1000000 a2) fun x=>o5 (c4w x
 1000000000) fun x_1=>l7 x_1 (some (0,3)) (some (x,0))))))
def c4T (a0:Int) (a1:Int) (a2:Int):Option pI:=o5 (l7 (ilt a2 0) (some (.inr (0,1))) (l7 (ilt 5 a2) (some
 (.inr (0,1))) (some (.inl ())))) fun o=>U7 o (fun(x:PUnit)=>l7 (ieq a1 0) (some (0,12)) (o5
 (c4w a0 1000000000000000) fun x=>l7 x (some (0,3)) (o5 (c4w a1 1000000000000000) fun x=>l7 x (some
 (0,3)) (l7 (ilt a1 0) (o5 (c4X (G8 .i64 0 a0) (G8 .i64 0 a1)) fun x=>o5 (c4w x.1 1001) fun
 (x_1:Bool)=>l7 x_1 (some (0,3)) (o5 (uA .i64 (U6 .i64 x.2 1000) (G8 .i64 0 a1)) fun x_2=>o5
 (zt (U6 .i64 x.2 1000) (G8 .i64 0 a1)) fun x_3=>o5 (uA .i64 (U6 .i64 x_3 1000) (G8 .i64
 0 a1)) fun x_4=>o5 (zt (U6 .i64 x_3 1000) (G8 .i64 0 a1)) fun x_5=>o5 (c4n (x9 .i64
 (x9 .i64 (U6 .i64 x.1 1000000) (U6 .i64 x_2 1000)) x_4) x_5 (G8 .i64 0 a1) a2) fun x=>o5
 (c4w x 1000000000) fun x_6=>l7 x_6 (some (0,3)) (some (x,0)))) (o5 (c4X a0 a1) fun x=>o5
 (c4w x.1 1001) fun x_1=>l7 x_1 (some (0,3)) (o5 (uA .i64 (U6 .i64 x.2 1000) a1) fun x_2=>
 o5 (zt (U6 .i64 x.2 1000) a1) fun x_3=>o5 (uA .i64 (U6 .i64 x_3 1000) a1) fun x_4=>o5
 (zt (U6 .i64 x_3 1000) a1) fun x_5=>o5 (c4n (x9 .i64 (x9 .i64 (U6 .i64 x.1 1000000)
 (U6 .i64 x_2 1000)) x_4) x_5 a1 a2) fun x=>o5 (c4w x 1000000000) fun x_6=>l7 x_6 (some (0,3)) (some (x,
 0)))))))) fun r=>some r
def c5a (a0:Int) (a1:Int) (a2:Int):Option pI:=o5 (c5l a2) fun x=>l7 (E5 x) (some (0,1)) (l7 (ieq
 a1 0) (some (0,12)) (o5 (c4u a0 4611686018427387904) fun x=>l7 x (some (0,3)) (o5 (c4u a1
 4611686018427387904) fun x=>l7 x (some (0,3)) (o5 (c4W a0) fun x=>o5 (c4W a1) fun x_1=>o5
 (uA .i64 x x_1) fun x_2=>o5 (zt x x_1) fun x=>o5 (c4B x_2 x x_1 (E5 (bI (ilt a0 0) (ilt a1 0)))
 a2) fun x=>some (x,0)))))
def c5f (a0:Int) (a1:Int) (a2:Int):Option pI:=o5 (c5l a2) fun x=>l7 (E5 x) (some (0,1)) (l7 (ilt
 a1 1) (some (0,12)) (o5 (c4u a0 1000000000000000) fun x=>l7 x (some (0,3)) (l7 (ilt 1000000000000000 a1) (some (0,3))
 (o5 (c4W a0) fun x=>o5 (uA .i64 x a1) fun x_1=>o5 (zt x a1) fun x=>o5 (c4B x_1
 x a1 (ilt a0 0) a2) fun x=>o5 (c4u (U6 .i64 x a1) 1000000000000000) fun x_2=>l7 x_2 (some (0,3)) (some
 (U6 .i64 x a1,0))))))
def c5e (a0:pI) (a1:J6) (a2:J6):Option (J6×Int):=o5 (o5 (l7 (ieq a0.1 13) (l7 (ieq a2.1 2) (l7 (ieq
 a1.1 3) (some true) (some (ieq a1.1 2))) (some false)) (some false)) fun x=>l7 x (o5 (c4S a1.1 a1.2.2 a2.2.2) fun(x:
 J6×Int)=>some (.inr x)) (o5 (l7 (ieq a0.1 14) (l7 (ieq a2.1 4) (some (ieq a1.1 3)) (some false)) (some false)) fun x=>
 l7 x (o5 (c5p a1.2.2 a2.2.2 a0.2) fun x=>o5 (c4G a1.1 x.1 x.2) fun x=>some (.inr x)) (o5
 (l7 (ieq a0.1 14) (l7 (ieq a2.1 4) (some (ieq a1.1 4)) (some false)) (some false)) fun x=>l7 x (o5 (c5v a1.2.2 a2.2.2
 a0.2) fun x=>o5 (c4G a1.1 x.1 x.2) fun x=>some (.inr x)) (o5 (l7 (ieq a0.1 15) (l7 (ieq a1.1 3)
 (some (ieq a2.1 3)) (some false)) (some false)) fun x=>l7 x (o5 (c4T a1.2.2 a2.2.2 a0.2) fun x=>o5
 (c4G 4 x.1 x.2) fun x=>some (.inr x)) (o5 (l7 (ieq a0.1 15) (l7 (ieq a2.1 2) (l7 (ieq a1.1 3) (some true)
 (some (ieq a1.1 2))) (some false)) (some false)) fun x=>l7 x (o5 (c5a a1.2.2 a2.2.2 a0.2) fun x=>o5
 (c4G a1.1 x.1 x.2) fun x=>some (.inr x)) (l7 (ieq a0.1 16) (l7 (ieq a1.1 3) (l7 (ieq a2.1 3) (o5
 (c5f a1.2.2 a2.2.2 a0.2) fun x=>o5 (c4G a1.1 x.1 x.2) fun x=>some (.inr x)) (some (.inl (0,
 0,0)))) (some (.inl (0,0,0)))) (some (.inl (0,0,0))))))))) fun o=>U7 o (fun(x:J6)=>some ((0,0,0),
 8)) fun r=>some r
def c4R (a0:Int) (a1:Int) (a2:Int):Option pI:=o5 (l7 (ilt a0 1900) (some (.inr (0,3))) (l7 (ilt 2199 a0) (some
 (.inr (0,3))) (l7 (ilt a2 1) (some (.inr (0,3))) (o5 (c4p a0 a1) fun x=>l7 (ilt x a2) (some (.inr (0,
 3))) (some (.inl ())))))) fun o=>U7 o (fun(x:PUnit)=>o5 (U9 (fun(x:pI)=>l7 (ilt x.2 a0) (o5
 (c4x x.2) fun x_1=>some (.inl (x9 .i64 x.1 x_1,x9 .i64 x.2 1))) (some (.inr x.1))) (G8 .i64
 a2 1,1900)) fun y=>o5 (U9 (fun(x:pI)=>l7 (ilt x.2 a1) (o5 (c4p a0 x.2) fun x_1=>some (.inl
 (x9 .i64 x.1 x_1,x9 .i64 x.2 1))) (some (.inr x.1))) (y,1)) fun y=>some (y,0)) fun r=>some r
def c4C (a0:Int) (a1:Int):Option pI:=o5 (o5 (c4O a0) fun x=>l7 (E5 x) (some (.inr (0,3)))
 (l7 (ilt a1 (-3600)) (some (.inr (0,3))) (l7 (ilt 3600 a1) (some (.inr (0,3))) (some (.inl ()))))) fun o
 =>U7 o (fun(x:PUnit)=>o5 (c5h a0) fun x=>o5 (c4p (az .i64 (x9 .i64 (G8
 .i64 (x9 .i64 (U6 .i64 12 x.1) x.2.1) 1) a1) 12) (x9 .i64 (dH (x9 .i64 (G8 .i64 (x9
 .i64 (U6 .i64 12 x.1) x.2.1) 1) a1) 12) 1)) fun x_1=>o5 (c4R (az .i64 (x9 .i64 (G8
 .i64 (x9 .i64 (U6 .i64 12 x.1) x.2.1) 1) a1) 12) (x9 .i64 (dH (x9 .i64 (G8 .i64 (x9
 .i64 (U6 .i64 12 x.1) x.2.1) 1) a1) 12) 1) (jM x.2.2 x_1)) fun x=>some x) fun r=>some r
def c4I (a0:Int) (a1:Int):Option Int:=o5 (c4O a0) fun x=>l7 (E5 x) (some 0) (o5 (c4O a1)
 fun x=>l7 (E5 x) (some 0) (o5 (P5 (fun(x:Int)=>o5 (c4C a0 (U6 .i64 12 (x9 .i64 x 1))) fun
 (x_1:pI)=>l7 (E5 (ieq x_1.2 0)) (some (.rt x)) (l7 (ilt a1 x_1.1) (some (.rt x)) (some (.nx (x9 .i64 x 1))))) 0) fun
 (o:PUnit⊕Int)=>U7 o (fun(y:PUnit)=>none) fun r=>some r))
def c4Z (a0:Int) (a1:J6) (a2:J6):Option (J6×Int):=l7 (E5 (ieq a1.1 5)) (some ((0,0,0),8)) (l7 (ieq a0 27)
 (l7 (E5 (ieq a2.1 2)) (some ((0,0,0),8)) (l7 (ieq a0 27) (o5 (c4o 5 (x9 .i64 a1.2.2 a2.2.2)) fun x=>
 some x) (o5 (c4C a1.2.2 a2.2.2) fun x=>o5 (c4G 5 x.1 x.2) fun x=>some x))) (l7 (ieq a0 28)
 (l7 (E5 (ieq a2.1 2)) (some ((0,0,0),8)) (l7 (ieq a0 27) (o5 (c4o 5 (x9 .i64 a1.2.2 a2.2.2)) fun x=>
 some x) (o5 (c4C a1.2.2 a2.2.2) fun x=>o5 (c4G 5 x.1 x.2) fun x=>some x))) (l7 (E5 (ieq
 a2.1 5)) (some ((0,0,0),8)) (l7 (ieq a0 29) (o5 (c4o 2 (G8 .i64 a2.2.2 a1.2.2)) fun x=>some x) (o5
 (c4I a1.2.2 a2.2.2) fun x=>o5 (c4o 2 x) fun x=>some x)))))
def c4H (a0:Int) (a1:J6) (a2:J6):Option (J6×Int):=o5 (l7 (E5 (ieq a1.1 a2.1)) (some (.inr ((0,0,0),
 8))) (l7 (E5 (ieq a1.2.1 a2.2.1)) (some (.inr ((0,0,0),8))) (some (.inl (0,0,0))))) fun o=>U7 o (fun(x
 :J6)=>o5 (l7 (ieq a0 19) (o5 (c4F (ieq a1.2.2 a2.2.2)) fun x=>some (.inr x)) (l7 (ieq a0 20) (o5
 (c4F (E5 (ieq a1.2.2 a2.2.2))) fun x=>some (.inr x)) (o5 (l7 (ieq a0 23) (some (ieq a0 23)) (some (ieq a0 24)))
 fun x_1=>l7 x_1 (l7 (E5 (ieq a1.1 1)) (some (.inr ((0,0,0),8))) (l7 (ieq (x9 .i64 a1.2.2 a2.2.2) 2) (o5
 (c4F true) fun x=>some (.inr x)) (l7 (ieq a0 24) (o5 (c4F (ieq (x9 .i64 a1.2.2 a2.2.2) 1)) fun
 (x:J6×Int)=>some (.inr x)) (o5 (c4F false) fun x=>some (.inr x))))) (o5 (l7 (ieq a0 11) (some
 (ieq a0 11)) (some (ieq a0 12))) fun x_2=>l7 x_2 (o5 (c5k a1.1) fun x=>l7 (E5 x) (some (.inr ((0,0,0),
 8))) (l7 (ieq a0 11) (o5 (c4o a1.1 (x9 .i64 a1.2.2 a2.2.2)) fun x=>some (.inr x)) (o5 (c4o a1.1
 (G8 .i64 a1.2.2 a2.2.2)) fun x=>some (.inr x)))) (some (.inl x)))))) fun o=>U7 o (fun
 (x:J6)=>o5 (o5 (c5k a1.1) fun x_1=>l7 (E5 x_1) (l7 (E5 (ieq a1.1 5)) (some (.inr ((0,0,0),8)))
 (some (.inl x))) (some (.inl x))) fun o=>U7 o (fun(x:J6)=>l7 (ieq a0 21) (o5 (c4F (ilt
 a1.2.2 a2.2.2)) fun x=>some x) (l7 (ieq a0 22) (o5 (c4F (ile a1.2.2 a2.2.2)) fun x=>some x)
 (l7 (bI (ieq a0 17) (ilt a1.2.2 a2.2.2)) (some (a1,0)) (some (a2,0))))) fun r=>some r) fun r=>some r)
 fun r=>some r
def c4r (a0:pI) (a1:J6) (a2:J6):Option (J6×Int):=l7 (ile 13 a0.1) (l7 (ile a0.1 16) (o5 (c5e a0
 a1 a2) fun x=>some x) (l7 (ile 27 a0.1) (o5 (c4Z a0.1 a1 a2) fun x=>some x) (o5
 (c4H a0.1 a1 a2) fun x=>some x))) (l7 (ile 27 a0.1) (o5 (c4Z a0.1 a1 a2) fun x=>some
 x) (o5 (c4H a0.1 a1 a2) fun x=>some x))
def c4Y (a0:pI) (a1:List J6) (a2:X9):Option (J6×Int):=o5 (c5j a0 (o8 a1)) fun x=>l7 (E5
 x) (some ((0,0,0),2)) (o5 (c5A a0 a2) fun x=>l7 (E5 x) (some ((0,0,0),6)) (o5 (P5 (fun(x:J6×Int)=>
 l7 (ilt x.2 (o8 a1)) (o5 (lat a1 x.2) fun x_1=>o5 (c4t x_1) fun x_2=>l7 (E5 x_2) (some (.rt
 ((0,0,0),8))) (some (.nx (x.1,x9 .i64 x.2 1)))) (some (.ex x.1))) ((0,0,0),0)) fun o=>U7 o (fun
 (y:J6)=>l7 (ieq (o8 a1) 0) (l7 (ile 36 a0.1) (l7 (ile a0.1 39) (o5 (c5g a0 a2) fun x=>some x)
 (o5 (c4y a0 a2) fun x=>some x)) (o5 (c4y a0 a2) fun x=>some x)) (l7 (ieq (o8 a1)
 1) (o5 (lat a1 0) fun x=>o5 (c4K a0 x a2) fun x=>some x) (l7 (ieq (o8 a1) 2) (o5 (lat a1 0)
 fun x=>o5 (lat a1 1) fun x_1=>o5 (c4r a0 x x_1) fun x=>some x) (o5 (lat a1 0) fun(x:
 J6)=>o5 (lat a1 1) fun x_1=>o5 (lat a1 2) fun x_2=>l7 (E5 (ieq x.1 1)) (some ((0,0,0),8)) (l7 (E5
 (ieq x_1.1 x_2.1)) (some ((0,0,0),8)) (l7 (E5 (ieq x_1.2.1 x_2.2.1)) (some ((0,0,0),8)) (l7 (ieq x.2.2 1) (some (x_1,0)) (some (x_2,
 0))))))))) fun r=>some r))
abbrev c5E:Ty:=y34
end
end Gt
