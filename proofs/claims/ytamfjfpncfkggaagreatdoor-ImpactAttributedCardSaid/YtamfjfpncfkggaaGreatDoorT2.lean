import Derived.Test.YtamfjfpncfkggaaGreatDoorT1
set_option linter.all false
open Go Go.GP
namespace Gt
set_option maxRecDepth 100000
noncomputable section
def a3f (f:Func):Code:=match f.body with | some c=>c | none=> .skip
abbrev mkS (ps:List MG) (rt:Ret) (F:aK ps→Option rt.den):FSpec:=⟨ps,rt.rs.map (·.2),rt.outs.map (·.2),F⟩
abbrev lfA:Ann:=.leaf
abbrev diM:M:=.dat (.int .i64)
abbrev oiM:M:=.own (.int .i64)
abbrev dbM:M:=.dat .bool
abbrev uiM:MG:=(false,diM)
abbrev ubM:MG:=(false,dbM)
abbrev uoM:MG:=(false,oiM)
abbrev y0:Ty:=.prod (.int .i64) (.int .i64)
abbrev y1:Ty:=.prod (.int .i64) y0
abbrev y2:Ty:=.prod .str (.int .i64)
abbrev y3:Ty:=.prod .str y2
abbrev y4:Ty:=.sl y3
abbrev y5:Ty:=.prod (.int .i64) y4
abbrev y6:Ty:=.prod (.int .i64) y5
abbrev y7:Ty:=.prod y1 y6
abbrev y8:Ty:=.prod y1 y7
abbrev y9:Ty:=.prod .str (.sl .str)
abbrev y10:Ty:=.sl y9
abbrev y11:Ty:=.prod y0 y1
abbrev y12:Ty:=.sl y11
abbrev y13:Ty:=.prod y0 y12
abbrev y14:Ty:=.prod y0 y13
abbrev y15:Ty:=.prod .str y14
abbrev y16:Ty:=.sl y15
abbrev y17:Ty:=.prod .str y0
abbrev y18:Ty:=.sl y17
abbrev y19:Ty:=.sl y0
abbrev y20:Ty:=.prod y19 .str
abbrev y21:Ty:=.prod y19 y20
abbrev y22:Ty:=.prod y0 y21
abbrev y23:Ty:=.prod (.int .i64) y22
abbrev y24:Ty:=.prod (.int .i64) y23
abbrev y25:Ty:=.prod (.int .i64) y24
abbrev y26:Ty:=.prod .str y25
abbrev y27:Ty:=.sl y26
abbrev y28:Ty:=.prod y18 y27
abbrev y29:Ty:=.prod y18 y28
abbrev y30:Ty:=.prod (.int .i64) y29
abbrev y31:Ty:=.prod .str y30
abbrev y32:Ty:=.sl y31
abbrev y33:Ty:=.prod y16 y32
abbrev y34:Ty:=.prod y10 y33
abbrev y35:Ty:=.prod y34 y34
abbrev y36:Ty:=.sl y1
abbrev y37:Ty:=.sl y36
abbrev y38:Ty:=.prod y36 y37
abbrev y39:Ty:=.prod (.int .i64) y38
abbrev y40:Ty:=.prod (.int .i64) y1
abbrev y41:Ty:=.prod .str .str
abbrev y42:Ty:=.sl (.ent true false y41 .bool)
abbrev y43:Ty:=.sl (.ent false false .str (.int .i64))
abbrev y44:Ty:=.prod y31 y43
abbrev y45:Ty:=.sl (.ent false true .str y44)
abbrev y46:Ty:=.sl (.int .i64)
abbrev y47:Ty:=.prod y36 y46
abbrev y48:Ty:=.sl y47
abbrev y49:Ty:=.prod y46 y48
abbrev y50:Ty:=.prod y36 y49
abbrev y51:Ty:=.prod y19 y16
abbrev y52:Ty:=.prod y37 y51
abbrev y53:Ty:=.prod y36 y52
abbrev y54:Ty:=.prod y36 y53
abbrev y55:Ty:=.prod (.int .i64) y54
abbrev y56:Ty:=.prod y0 .str
abbrev y57:Ty:=.prod (.int .i64) y56
abbrev y58:Ty:=.prod .str y57
abbrev y59:Ty:=.prod .str y58
abbrev y60:Ty:=.prod (.sl .bool) (.sl .bool)
abbrev y61:Ty:=.prod y31 y60
abbrev y62:Ty:=.prod y31 y61
abbrev y63:Ty:=.sl (.ent false false (.int .i64) .bool)
abbrev y64:Ty:=.sl y46
abbrev y65:Ty:=.prod y19 .bool
abbrev y66:Ty:=.prod y19 y65
abbrev y67:Ty:=.prod y19 y66
abbrev y68:Ty:=.prod y16 y67
abbrev y69:Ty:=.prod y10 y68
abbrev y70:Ty:=.prod y46 y55
abbrev y71:Ty:=.prod y19 y70
abbrev y72:Ty:=.prod y46 y46
abbrev y73:Ty:=.prod y46 y72
def tt:List (Nat×TI):=[
 (3,⟨1,8,(.int .i64),some (.int .i64),[.i .i64 0]⟩),
 (4,⟨1,1,.bool,some .bool,[.b false]⟩),
 (5,⟨1,1,(.int .u8),some (.int .u8),[.i .u8 0]⟩),
 (9,⟨1,16,.str,some .str,[.s []]⟩),
 (23,⟨3,24,(.struct [(3,0),(3,1),(3,2)]),some y1,[.i .i64 0,.i .i64 0,.i .i64 0]⟩),
 (24,⟨1,8,(.int .i64),some (.int .i64),[.i .i64 0]⟩),
 (25,⟨1,24,(.sl 46),some y4,[.nl]⟩),
 (27,⟨9,88,(.struct [(23,0),(23,3),(24,6),(24,7),(25,8)]),some y8,[.i .i64 0,.i .i64 0,.i .i64 0,.i .i64 0,.i .i64 0,.i .i64 0,.i .i64 0,.i .i64 0,.nl]⟩),
 (30,⟨1,24,(.sl 103),some y10,[.nl]⟩),
 (31,⟨1,24,(.sl 106),some y16,[.nl]⟩),
 (32,⟨1,24,(.sl 66),some y32,[.nl]⟩),
 (34,⟨3,72,(.struct [(30,0),(31,1),(32,2)]),some y34,[.nl,.nl,.nl]⟩),
 (36,⟨6,144,(.struct [(34,0),(34,3)]),some y35,[.nl,.nl,.nl,.nl,.nl,.nl]⟩),
 (37,⟨1,24,(.sl 23),some y36,[.nl]⟩),
 (38,⟨1,24,(.sl 37),some y37,[.nl]⟩),
 (40,⟨3,56,(.struct [(3,0),(37,1),(38,2)]),some y39,[.i .i64 0,.nl,.nl]⟩),
 (46,⟨3,40,(.struct [(9,0),(9,1),(3,2)]),some y3,[.s [],.s [],.i .i64 0]⟩),
 (49,⟨4,32,(.struct [(24,0),(3,1),(3,2),(3,3)]),some y40,[.i .i64 0,.i .i64 0,.i .i64 0,.i .i64 0]⟩),
 (55,⟨2,16,(.struct [(3,0),(3,1)]),some y0,[.i .i64 0,.i .i64 0]⟩),
 (56,⟨1,24,(.sl 55),some y19,[.nl]⟩),
 (61,⟨4,32,(.struct [(24,0),(3,1),(3,2),(3,3)]),some y40,[.i .i64 0,.i .i64 0,.i .i64 0,.i .i64 0]⟩),
 (63,⟨1,24,(.sl 100),some y18,[.nl]⟩),
 (64,⟨1,24,(.sl 80),some y27,[.nl]⟩),
 (66,⟨5,96,(.struct [(9,0),(3,1),(63,2),(63,3),(64,4)]),some y31,[.s [],.i .i64 0,.nl,.nl,.nl]⟩),
 (70,⟨1,8,(.map 73 4),some y42,[.sl (.ent true false y41 .bool) []]⟩),
 (73,⟨2,32,(.struct [(9,0),(9,1)]),some y41,[.s [],.s []]⟩),
 (75,⟨1,8,(.map 9 118),some y45,[.sl (.ent false true .str y44) []]⟩),
 (78,⟨2,16,(.struct [(3,0),(3,1)]),some y0,[.i .i64 0,.i .i64 0]⟩),
 (80,⟨9,120,(.struct [(9,0),(3,1),(3,2),(3,3),(78,4),(56,6),(56,7),(9,8)]),some y26,[.s [],.i .i64 0,.i .i64 0,.i .i64 0,.i .i64 0,.i .i64 0,.nl,.nl,.s []]⟩),
 (88,⟨1,24,(.sl 3),some y46,[.nl]⟩),
 (89,⟨1,24,(.sl 134),some y48,[.nl]⟩),
 (91,⟨3,72,(.struct [(37,0),(88,1),(89,2)]),some y50,[.nl,.nl,.nl]⟩),
 (92,⟨1,24,(.sl 98),some y19,[.nl]⟩),
 (94,⟨6,128,(.struct [(3,0),(37,1),(37,2),(38,3),(92,4),(31,5)]),some y55,[.i .i64 0,.nl,.nl,.nl,.nl,.nl]⟩),
 (98,⟨2,16,(.struct [(3,0),(3,1)]),some y0,[.i .i64 0,.i .i64 0]⟩),
 (100,⟨3,32,(.struct [(9,0),(98,1)]),some y17,[.s [],.i .i64 0,.i .i64 0]⟩),
 (101,⟨1,24,(.sl 9),some (.sl .str),[.nl]⟩),
 (103,⟨2,40,(.struct [(9,0),(101,1)]),some y9,[.s [],.nl]⟩),
 (104,⟨1,24,(.sl 146),some y12,[.nl]⟩),
 (106,⟨6,72,(.struct [(9,0),(98,1),(98,3),(104,5)]),some y15,[.s [],.i .i64 0,.i .i64 0,.i .i64 0,.i .i64 0,.nl]⟩),
 (116,⟨1,8,(.map 9 3),some y43,[.sl (.ent false false .str (.int .i64)) []]⟩),
 (118,⟨6,104,(.struct [(66,0),(116,5)]),some y44,[.s [],.i .i64 0,.nl,.nl,.nl,.sl (.ent false false .str (.int .i64)) []]⟩),
 (122,⟨6,72,(.struct [(9,0),(9,1),(3,2),(78,3),(9,5)]),some y59,[.s [],.s [],.i .i64 0,.i .i64 0,.i .i64 0,.s []]⟩),
 (127,⟨1,24,(.sl 4),some (.sl .bool),[.nl]⟩),
 (129,⟨12,240,(.struct [(66,0),(66,5),(127,10),(127,11)]),some y62,[.s [],.i .i64 0,.nl,.nl,.nl,.s [],.i .i64 0,.nl,.nl,.nl,.nl,.nl]⟩),
 (134,⟨2,48,(.struct [(37,0),(88,1)]),some y47,[.nl,.nl]⟩),
 (146,⟨5,40,(.struct [(78,0),(3,2),(3,3),(3,4)]),some y11,[.i .i64 0,.i .i64 0,.i .i64 0,.i .i64 0,.i .i64 0]⟩),
 (148,⟨1,8,(.map 3 4),some y63,[.sl (.ent false false (.int .i64) .bool) []]⟩),
 (150,⟨1,24,(.sl 88),some y64,[.nl]⟩),
 (180,⟨6,128,(.struct [(30,0),(31,1),(92,2),(92,3),(92,4),(4,5)]),some y69,[.nl,.nl,.nl,.nl,.nl,.b false]⟩),
 (186,⟨1,8,(.ptr 187),none,[]⟩),
 (187,⟨1,24,(.sl 3),some y46,[.nl]⟩),
 (195,⟨8,176,(.struct [(56,0),(88,1),(94,2)]),some y71,[.nl,.nl,.i .i64 0,.nl,.nl,.nl,.nl,.nl]⟩),
 (212,⟨1,8,(.int .u64),some (.int .u64),[.i .u64 0]⟩),
 (226,⟨3,72,(.struct [(88,0),(88,1),(88,2)]),some y73,[.nl,.nl,.nl]⟩),
 (249,⟨1,8,(.int .u64),some (.int .u64),[.i .u64 0]⟩),
 (300,⟨1,16,.other,none,[]⟩),
 (304,⟨12,96,(.arr 12 3),none,[.i .i64 0,.i .i64 0,.i .i64 0,.i .i64 0,.i .i64 0,.i .i64 0,.i .i64 0,.i .i64 0,.i .i64 0,.i .i64 0,.i .i64 0,.i .i64 0]⟩)]
def eqs:List (Nat×List Ty):=[(23,[(.int .i64),(.int .i64),(.int .i64)]),(46,[.str,.str,(.int .i64)]),(55,[(.int .i64),(.int .i64)]),(61,[(.int .i64),(.int .i64),(.int .i64),(.int .i64)]),(73,[.str,.str]),(98,[(.int .i64),(.int .i64)]),(100,[.str,(.int .i64),(.int .i64)]),(122,[.str,.str,(.int .i64),(.int .i64),(.int .i64),.str]),(146,[(.int .i64),(.int .i64),(.int .i64),(.int .i64),(.int .i64)])]
def gl:List (Nat×(t:Ty)×List t.den):=[(3,⟨.int .i64,[31,28,31,30,31,30,31,31,30,31,30,31]⟩)]
abbrev I7:Type:=Ty.den y0
abbrev P8:Type:=Ty.den y41
abbrev qE:Type:=Ty.den y0
abbrev L6:Type:=Ty.den y1
abbrev V5:Type:=Ty.den y3
abbrev Y9:Type:=Ty.den y17
abbrev bP:Type:=Ty.den y9
abbrev X4:Type:=Ty.den y40
abbrev tH:Type:=Ty.den y11
abbrev dH:Type:=Ty.den y73
abbrev Pi:Type:=Ty.den y47
abbrev P9:Type:=Ty.den y59
abbrev aQ:Type:=Ty.den y39
abbrev ww:Type:=Ty.den y8
abbrev oW:Type:=Ty.den y50
abbrev ai:Type:=Ty.den y15
abbrev J6:Type:=Ty.den y26
abbrev H7:Type:=Ty.den y69
abbrev U9:Type:=Ty.den y55
abbrev x9:Type:=Ty.den y31
abbrev aI:Type:=Ty.den y44
abbrev O0:Type:=Ty.den y71
abbrev S9:Type:=Ty.den y62
abbrev J3:Type:=Ty.den y34
abbrev uS:Type:=Ty.den y35
def b8n:List MG:=[(true,(.dat y31))]
def b9K:Ret:=⟨[(.tmp 2,ubM)],[]⟩
def e29:Env:=⟨93,eqs,tt,gl,[],[],[],[],[],[]⟩
def c3O:Ann:=.seq lfA (.seq (.joinR [(2,3),(7,29)] ⟨[],[]⟩ lfA) (.seq (.seq lfA (.blk (.loopR [(2,4),(29,44)] ⟨[(3,uiM)],[]⟩ 0 ⟨[],[]⟩ lfA))) (.seq (.seq lfA (.blk (.loopR [(2,3),(4,5),(44,59)] ⟨[(4,uiM)],[]⟩ 2 ⟨[],[]⟩ lfA))) (.seq (.seq lfA (.blk (.loopR [(2,3),(5,7),(59,93)] ⟨[(5,uiM)],[]⟩ 4 ⟨[],[]⟩ lfA))) lfA))))
def pU (a0:x9):Option Bool:=o6 (l7 (ilt 80 (o8 a0.1)) (some (.inr false)) (l7 (ilt 14 (o8 a0.2.2.1)) (some
 (.inr false)) (l7 (ilt 14 (o8 a0.2.2.2.1)) (some (.inr false)) (l7 (ilt 60 (o8 a0.2.2.2.2)) (some (.inr false)) (some (.inl
 ())))))) fun o=>X6 o (fun(x:PUnit)=>o6 (U2 (fun(x:Int)=>l7 (ilt x (o8 a0.2.2.1)) (o6 (lat
 a0.2.2.1 x) fun x_1=>l7 (ilt 80 (o8 x_1.1)) (some (.rt false)) (some (.nx (A7 .i64 x 1)))) (some (.ex
 ()))) 0) fun o=>X6 o (fun(y:PUnit)=>o6 (U2 (fun(x:Int)=>l7 (ilt x (o8 a0.2.2.2.1)) (o6 (lat
 a0.2.2.2.1 x) fun x_1=>l7 (ilt 80 (o8 x_1.1)) (some (.rt false)) (some (.nx (A7 .i64 x 1)))) (some (.ex
 ()))) 0) fun o=>X6 o (fun(y:PUnit)=>o6 (U2 (fun(x:Int)=>l7 (ilt x (o8 a0.2.2.2.2)) (o6 (lat
 a0.2.2.2.2 x) fun x_1=>l7 (ilt 80 (o8 x_1.1)) (some (.rt false)) (l7 (ilt 80 (o8 x_1.2.2.2.2.2.2.2)) (some (.rt false))
 (l7 (ilt 50 (o8 x_1.2.2.2.2.2.1)) (some (.rt false)) (l7 (ilt 50 (o8 x_1.2.2.2.2.2.2.1)) (some (.rt false)) (some (.nx (A7
 .i64 x 1))))))) (some (.ex ()))) 0) fun o=>X6 o (fun(y:PUnit)=>some true) fun r=>some r) fun
 (r:Bool)=>some r) fun r=>some r) fun r=>some r
def s29:FSpec:=mkS b8n b9K fun x=>pU x
def b7Z:List MG:=[(true,(.dat y34))]
def b9x:Ret:=⟨[(.tmp 2,ubM)],[]⟩
def e16:Env:=⟨127,eqs,tt,gl,[(29,s29)],[],[],[],[],[]⟩
def c3z:Ann:=.seq lfA (.seq (.joinR [(2,3),(9,25)] ⟨[],[]⟩ lfA) (.seq lfA (.seq lfA (.seq (.seq lfA (.blk (.loopR [(2,3),(5,7),(25,72)] ⟨[(5,uiM)],[]⟩ 0 ⟨[],[]⟩ (.seq lfA (.seq (.blk (.seq lfA (.seq lfA (.blk (.loopR [(2,3),(6,7),(50,72)] ⟨[(6,uiM)],[]⟩ 2 ⟨[],[]⟩ lfA))))) lfA))))) (.seq (.seq lfA (.blk (.loopR [(2,4),(7,8),(72,100)] ⟨[(3,uiM),(7,uiM)],[]⟩ 4 ⟨[],[]⟩ lfA))) (.seq (.seq lfA (.blk (.loopR [(2,3),(4,5),(8,9),(100,127)] ⟨[(4,uiM),(8,uiM)],[]⟩ 6 ⟨[],[]⟩ lfA))) lfA))))))
def oP (a0:J3):Option Bool:=o6 (l7 (ilt 9 (o8 a0.1)) (some (.inr false)) (l7 (ilt 9 (o8 a0.2.1)) (some (.inr
 false)) (l7 (ilt 5 (o8 a0.2.2)) (some (.inr false)) (some (.inl ()))))) fun o=>X6 o (fun(x:PUnit)=>o6
 (U2 (fun(x:Int)=>l7 (ilt x (o8 a0.1)) (o6 (lat a0.1 x) fun x_1=>l7 (ilt 80 (o8 x_1.1)) (some (.rt false)) (o6
 (lat a0.1 x) fun x_2=>l7 (ilt 20 (o8 x_2.2)) (some (.rt false)) (o6 (U2 (fun(x_3:Int)=>o6 (lat a0.1 x) fun(x_4:
 bP)=>l7 (ilt x_3 (o8 x_4.2)) (o6 (lat a0.1 x) fun x=>o6 (lat x.2 x_3) fun x=>l7 (ilt 80 (o8 x))
 (some (.rt false)) (some (.nx (A7 .i64 x_3 1)))) (some (.ex ()))) 0) fun o=>X6 o (fun(y:PUnit)=>
 some (.nx (A7 .i64 x 1))) fun r=>some (.rt r)))) (some (.ex ()))) 0) fun o=>X6 o (fun(y:
 PUnit)=>o6 (U2 (fun(x:I7)=>l7 (ilt x.2 (o8 a0.2.1)) (o6 (lat a0.2.1 x.2) fun x_1=>o6 (lat a0.2.1 x.2) fun
 (x_2:ai)=>l7 (ilt 80 (o8 x_2.1)) (some (.rt false)) (l7 (ilt 150 (A7 .i64 x.1 (o8 x_1.2.2.2))) (some (.rt false))
 (some (.nx (A7 .i64 x.1 (o8 x_1.2.2.2),A7 .i64 x.2 1))))) (some (.ex ()))) (0,0)) fun o=>X6
 o (fun(y:PUnit)=>o6 (U2 (fun(x:I7)=>l7 (ilt x.2 (o8 a0.2.2)) (o6 (lat a0.2.2 x.2) fun x_1=>l7 (ilt 60
 (A7 .i64 x.1 (o8 x_1.2.2.2.2))) (some (.rt false)) (o6 (lat a0.2.2 x.2) fun x_2=>o6 (pU x_2) fun(x_3:
 Bool)=>l7 (E5 x_3) (some (.rt false)) (some (.nx (A7 .i64 x.1 (o8 x_1.2.2.2.2),A7 .i64 x.2 1))))) (some (.ex
 ()))) (0,0)) fun o=>X6 o (fun(y:PUnit)=>some true) fun r=>some r) fun r=>some r) fun(r:
 Bool)=>some r) fun r=>some r
def s16:FSpec:=mkS b7Z b9x fun x=>oP x
def b8a:List MG:=[(true,(.dat y39))]
def b9y:Ret:=⟨[(.tmp 2,ubM)],[]⟩
def e17:Env:=⟨28,eqs,tt,gl,[],[],[],[],[],[]⟩
def c3A:Ann:=.seq lfA (.seq lfA (.seq (.seq lfA (.blk (.loopR [(2,4),(14,28)] ⟨[(3,uiM)],[]⟩ 0 ⟨[],[]⟩ lfA))) lfA))
def rf (a0:aQ):Option Bool:=l7 (ilt 14 (o8 a0.2.1)) (some false) (l7 (ilt 10 (o8 a0.2.2)) (some false) (o6 (U2
 (fun(x:Int)=>l7 (ilt x (o8 a0.2.2)) (o6 (lat a0.2.2 x) fun x_1=>l7 (ilt 14 (o8 x_1)) (some (.rt false)) (some
 (.nx (A7 .i64 x 1)))) (some (.ex ()))) 0) fun o=>X6 o (fun(y:PUnit)=>some true) fun r=>
 some r))
def s17:FSpec:=mkS b8a b9y fun x=>rf x
def b7S:List MG:=[(true,(.dat y35)),(true,(.dat y39))]
def b9p:Ret:=⟨[(.tmp 4,ubM)],[]⟩
def e10:Env:=⟨17,eqs,tt,gl,[(16,s16),(17,s17)],[],[],[],[],[]⟩
def c3t:Ann:=.leaf
def wQ (a0:uS) (a1:aQ):Option Bool:=o6 (oP a0.1) fun x=>l7 x (o6 (oP
 a0.2) fun x=>l7 x (o6 (rf a1) fun x=>some x) (some false)) (some false)
def s10:FSpec:=mkS b7S b9p fun x=>wQ x.1 x.2
def b7X:List MG:=[(false,(.dat y19))]
def b9u:Ret:=⟨[(.cell 2 34,(true,(.pair (.dat y10) (.pair (.dat y16) (.owns (.pair (.dat .str) (.pair diM (.pair (.dat y18) (.pair (.dat y18) (.own y26))))))))))],[]⟩
def e14:Env:=⟨22,eqs,tt,gl,[],[(32,(.pair (.dat .str) (.pair diM (.pair (.dat y18) (.pair (.dat y18) (.own y26))))))],[],[],[],[]⟩
def c3x:Ann:=.leaf
def zk (a0:List I7):Option J3:=some ([],[],[([104,111,117,115,101],-1,[([97],3,0)],[([100],3,0)],[([98,97,115,
 101],0,-1,0,(0,109573),[],a0,[])])])
def s14:FSpec:=mkS b7X b9u fun x=>zk x
def b8Z:List MG:=[(false,(.dat (.int .u8)))]
def c0A:Ret:=⟨[(.tmp 2,ubM)],[]⟩
def e72:Env:=⟨9,eqs,tt,gl,[],[],[],[],[],[]⟩
def c4B:Ann:=.leaf
def lC (a0:Int):Option Bool:=l7 (ile 97 a0) (some (ile a0 122)) (some false)
def s72:FSpec:=mkS b8Z c0A fun x=>lC x
def b9o:List MG:=[(false,(.dat (.int .u8)))]
def c0Q:Ret:=⟨[(.tmp 2,ubM)],[]⟩
def e98:Env:=⟨9,eqs,tt,gl,[],[],[],[],[],[]⟩
def c4T:Ann:=.leaf
def oK (a0:Int):Option Bool:=l7 (ile 48 a0) (some (ile a0 57)) (some false)
def s98:FSpec:=mkS b9o c0Q fun x=>oK x
def b9a:List MG:=[(false,(.dat .str))]
def c0B:Ret:=⟨[(.tmp 2,uiM)],[]⟩
def e73:Env:=⟨29,eqs,tt,gl,[(72,s72),(98,s98)],[],[],[],[],[]⟩
def c4C:Ann:=.seq lfA (.seq lfA (.seq (.blk (.loop [(3,28)] ⟨[(3,uiM)],[]⟩ 0 ⟨[(3,uiM)],[]⟩ lfA)) lfA))
def nY (a0:List UInt8):Option Int:=o6 (X5 (fun(x:Int)=>l7 (ilt x (o8 a0)) (o6 (sat a0 x) fun x_1=>
 o6 (lC x_1) fun x_2=>l7 x_2 (some (.inl (A7 .i64 x 1))) (o6 (sat a0 x) fun x_3=>o6
 (oK x_3) fun x_4=>l7 x_4 (some (.inl (A7 .i64 x 1))) (o6 (sat a0 x) fun x_5=>l7 (ieq x_5 95)
 (some (.inl (A7 .i64 x 1))) (some (.inr x))))) (some (.inr x))) 0) fun y=>some y
def s73:FSpec:=mkS b9a c0B fun x=>nY x
def b9b:List MG:=[(false,(.dat .str))]
def c0C:Ret:=⟨[(.tmp 2,ubM)],[]⟩
def e74:Env:=⟨60,eqs,tt,gl,[],[],[],[],[],[]⟩
def c4E:Ann:=.seq lfA (.seq (.seq lfA (.blk (.seq (.join [(4,60)] ⟨[(4,ubM)],[]⟩ lfA) lfA))) lfA)
def qR (a0:List UInt8):Option Bool:=o6 (l7 (seq a0 [105,102]) (some (seq a0 [105,102])) (l7 (seq a0 [116,104,101,110])
 (some (seq a0 [116,104,101,110])) (l7 (seq a0 [101,108,115,101]) (some (seq a0 [101,108,115,101])) (l7 (seq a0 [111,114]) (some (seq
 a0 [111,114])) (l7 (seq a0 [97,110,100]) (some (seq a0 [97,110,100])) (l7 (seq a0 [110,111,116]) (some (seq a0 [110,111,116])) (l7
 (seq a0 [116,114,117,101]) (some (seq a0 [116,114,117,101])) (l7 (seq a0 [102,97,108,115,101]) (some (seq a0 [102,97,108,115,101]))
 (l7 (seq a0 [116,111,100,97,121]) (some (seq a0 [116,111,100,97,121])) (l7 (seq a0 [115,104,97,114,101]) (some (seq a0 [115,104,
 97,114,101])) (l7 (seq a0 [100,105,118]) (some (seq a0 [100,105,118])) (l7 (seq a0 [114,111,117,110,100]) (some (seq a0 [114,111,
 117,110,100])) (l7 (seq a0 [109,105,110]) (some (seq a0 [109,105,110])) (l7 (seq a0 [109,97,120]) (some (seq a0 [109,97,120])) (l7
 (seq a0 [112,108,117,115]) (some (seq a0 [112,108,117,115])) (l7 (seq a0 [109,111,110,116,104,115]) (some (seq a0 [109,111,110,116,
 104,115])) (l7 (seq a0 [100,97,121,115]) (some (seq a0 [100,97,121,115])) (l7 (seq a0 [121,101,97,114,115]) (some (seq a0 [121,101,
 97,114,115])) (l7 (seq a0 [121,101,97,114]) (some (seq a0 [121,101,97,114])) (l7 (seq a0 [109,111,110,116,104]) (some (seq a0 [109,
 111,110,116,104])) (l7 (seq a0 [116,97,98]) (some (seq a0 [116,97,98])) (l7 (seq a0 [98,97,110,100]) (some (seq a0 [98,97,110,
 100])) (l7 (seq a0 [99,111,117,110,116]) (some (seq a0 [99,111,117,110,116])) (l7 (seq a0 [115,117,109]) (some (seq a0 [115,117,
 109])) (l7 (seq a0 [97,108,108]) (some (seq a0 [97,108,108])) (l7 (seq a0 [97,110,121]) (some (seq a0 [97,110,121])) (l7 (seq a0
 [109,111,115,116]) (some (seq a0 [109,111,115,116])) (l7 (seq a0 [101,110,117,109]) (some (seq a0 [101,110,117,109])) (l7 (seq a0
 [116,97,98,108,101]) (some (seq a0 [116,97,98,108,101])) (l7 (seq a0 [114,111,119]) (some (seq a0 [114,111,119])) (l7 (seq a0 [115,
 99,111,112,101]) (some (seq a0 [115,99,111,112,101])) (l7 (seq a0 [109,101,109,98,101,114,115]) (some (seq a0 [109,101,109,98,
 101,114,115])) (l7 (seq a0 [105,110,112,117,116]) (some (seq a0 [105,110,112,117,116])) (l7 (seq a0 [100,101,102]) (some (seq a0
 [100,101,102])) (l7 (seq a0 [114,117,108,101]) (some (seq a0 [114,117,108,101])) (l7 (seq a0 [111,102]) (some (seq a0 [111,102]))
 (l7 (seq a0 [111,118,101,114]) (some (seq a0 [111,118,101,114])) (l7 (seq a0 [112,114,105,111]) (some (seq a0 [112,114,105,111]))
 (l7 (seq a0 [102,114,111,109]) (some (seq a0 [102,114,111,109])) (l7 (seq a0 [116,111]) (some (seq a0 [116,111])) (l7 (seq a0 [101,
 110,100]) (some (seq a0 [101,110,100])) (l7 (seq a0 [119,104,101,110]) (some (seq a0 [119,104,101,110])) (l7 (seq a0 [105,115]) (some
 (seq a0 [105,115])) (l7 (seq a0 [115,114,99]) (some (seq a0 [115,114,99])) (l7 (seq a0 [98,111,111,108]) (some (seq a0 [98,111,111,
 108])) (l7 (seq a0 [105,110,116]) (some (seq a0 [105,110,116])) (l7 (seq a0 [109,111,110,101,121]) (some (seq a0 [109,111,110,101,
 121])) (l7 (seq a0 [114,97,116,101]) (some (seq a0 [114,97,116,101])) (l7 (seq a0 [100,97,116,101]) (some (seq a0 [100,97,116,
 101])) (l7 (seq a0 [100,111,119,110]) (some (seq a0 [100,111,119,110])) (l7 (seq a0 [117,112]) (some (seq a0 [117,112])) (l7 (seq a0
 [122,101,114,111]) (some (seq a0 [122,101,114,111])) (l7 (seq a0 [97,119,97,121]) (some (seq a0 [97,119,97,121])) (l7 (seq a0 [104,
 97,108,102]) (some (seq a0 [104,97,108,102])) (some (seq a0 [101,118,101,110])))))))))))))))))))))))))))))))))))))))))))))))))))))))) fun(x
 :Bool)=>l7 x (some true) (some false)
def s74:FSpec:=mkS b9b c0C fun x=>qR x
def b8E:List MG:=[(false,(.dat .str))]
def c0d:Ret:=⟨[(.tmp 2,ubM)],[]⟩
def e49:Env:=⟨27,eqs,tt,gl,[(72,s72),(73,s73),(74,s74)],[],[],[],[],[]⟩
def c4g:Ann:=.leaf
def aB (a0:List UInt8):Option Bool:=l7 (E5 (seq a0 [])) (o6 (sat a0 0) fun x=>o6 (lC x) fun(x:
 Bool)=>l7 x (o6 (nY a0) fun x=>l7 (ieq x (o8 a0)) (l7 (ile (o8 a0) 16) (o6 (qR a0) fun(x:
 Bool)=>some (E5 x)) (some false)) (some false)) (some false)) (some false)
def s49:FSpec:=mkS b8E c0d fun x=>aB x
def a4X:List MG:=[(true,(.dat y9)),(false,(.rp .str))]
def a5H:Ret:=⟨[(.tmp 3,ubM)],[]⟩
def b7A:Env:=⟨8,eqs,tt,gl,[],[],[],[],[],[]⟩
def b3e:Ann:=.leaf
def xC (a0:bP) (a1:List UInt8):Option Bool:=some (seq a0.1 a1)
def a6c:FSpec:=mkS a4X a5H fun x=>xC x.1 x.2
def a5e:List MG:=[(false,(.dat y10)),(false,(.fn 76 [.str]))]
def a5O:Ret:=⟨[(.tmp 4,uiM)],[]⟩
def b7H:Env:=⟨19,eqs,tt,gl,[(76,a6c)],[],[],[],[],[]⟩
def b3l:Ann:=.seq lfA (.seq (.seq lfA (.blk (.loopR [(4,6),(8,19)] ⟨[(8,uiM)],[]⟩ 0 ⟨[],[]⟩ lfA))) lfA)
def cO (a0:List bP) (a1:List UInt8):Option Int:=o6 (U2 (fun(x:Int)=>l7 (ilt x (o8 a0))
 (o6 (lat a0 x) fun x_1=>o6 (xC x_1 a1) fun x_2=>l7 x_2 (some (.rt x)) (some (.nx (A7 .i64 x
 1)))) (some (.ex ()))) 0) fun o=>X6 o (fun(y:PUnit)=>some (-1)) fun r=>some r
def b2E:FSpec:=mkS a5e a5O fun x=>cO x.1 x.2
def a4W:List MG:=[(false,(.dat y10)),(false,(.fn 76 [.str]))]
def a5G:Ret:=⟨[(.tmp 4,ubM)],[]⟩
def b7z:Env:=⟨9,eqs,tt,gl,[(99,b2E)],[],[],[],[],[]⟩
def b3d:Ann:=.leaf
def bi (a0:List bP) (a1:List UInt8):Option Bool:=o6 (cO a0 a1) fun(x
 :Int)=>some (ile 0 x)
def b2z:FSpec:=mkS a4W a5G fun x=>bi x.1 x.2
def b8F:List MG:=[(false,(.dat y10)),(false,(.dat .str))]
def c0e:Ret:=⟨[(.tmp 4,ubM)],[]⟩
def e50:Env:=⟨8,eqs,tt,gl,[(76,a6c),(75,b2z)],[],[],[],[],[]⟩
def c4h:Ann:=.leaf
def qp (a0:List bP) (a1:List UInt8):Option Bool:=o6 (bi a0 a1) fun x=>some x
def s50:FSpec:=mkS b8F c0e fun x=>qp x.1 x.2
def b9m:List MG:=[(false,(.dat (.sl .str))),(false,(.dat .str))]
def c0O:Ret:=⟨[(.tmp 4,uiM)],[]⟩
def e96:Env:=⟨19,eqs,tt,gl,[],[],[],[],[],[]⟩
def c4R:Ann:=.seq lfA (.seq (.seq lfA (.blk (.loopR [(4,6),(8,19)] ⟨[(8,uiM)],[]⟩ 0 ⟨[],[]⟩ lfA))) lfA)
def iG (a0:List (List UInt8)) (a1:List UInt8):Option Int:=o6 (U2 (fun(x:Int)=>l7 (ilt x (o8 a0))
 (o6 (lat a0 x) fun x_1=>l7 (seq a1 x_1) (some (.rt x)) (some (.nx (A7 .i64 x 1)))) (some (.ex ())))
 0) fun o=>X6 o (fun(y:PUnit)=>some (-1)) fun r=>some r
def s96:FSpec:=mkS b9m c0O fun x=>iG x.1 x.2
def b8U:List MG:=[(false,(.dat (.sl .str))),(false,(.dat .str))]
def c0u:Ret:=⟨[(.tmp 4,ubM)],[]⟩
def e65:Env:=⟨9,eqs,tt,gl,[(96,s96)],[],[],[],[],[]⟩
def c4w:Ann:=.leaf
def bJ (a0:List (List UInt8)) (a1:List UInt8):Option Bool:=o6 (iG a0 a1) fun x
 =>some (ile 0 x)
def s65:FSpec:=mkS b8U c0u fun x=>bJ x.1 x.2
def b8C:List MG:=[(true,(.dat y34)),uiM,(true,(.dat y9))]
def b9Z:Ret:=⟨[(.tmp 6,uiM),(.tmp 7,uiM)],[]⟩
def e47:Env:=⟨55,eqs,tt,gl,[(49,s49),(50,s50),(65,s65)],[],[],[],[],[]⟩
def c4e:Ann:=.seq lfA (.seq lfA (.seq (.seq lfA (.blk (.loopR [(6,10),(36,55)] ⟨[(36,uiM)],[]⟩ 1 ⟨[],[]⟩ lfA))) lfA))
def sV (a0:J3) (a1:Int) (a2:bP):Option I7:=o6 (aB a2.1) fun x=>l7 (E5 x) (some (2,0))
 (o6 (AU a0.1 0 a1) fun x=>o6 (qp x a2.1) fun x=>l7 x (some (7,0)) (l7 (ieq (o8 a2.2) 0) (some
 (5,0)) (l7 (ilt 16 (o8 a2.2)) (some (4,116)) (o6 (U2 (fun(x:Int)=>l7 (ilt x (o8 a2.2)) (o6 (lat a2.2 x) fun x_1=>o6 (aB x_1) fun x_2=>l7 (E5 x_2) (some (.rt (2,A7 .i64 100 x))) (o6 (AU a2.2 0 x) fun
 (x_3:List (List UInt8))=>o6 (bJ x_3 x_1) fun x_4=>l7 x_4 (some (.rt (7,A7 .i64 100 x)))
 (some (.nx (A7 .i64 x 1))))) (some (.ex ()))) 0) fun o=>X6 o (fun(y:PUnit)=>some (0,0)) fun(r:
 I7)=>some r))))
def s47:FSpec:=mkS b8C b9Z fun x=>sV x.1 x.2.1 x.2.2
def b8o:List MG:=[(true,(.dat y34))]
def b9L:Ret:=⟨[(.cell 2 61,(true,(.dat y40)))],[]⟩
def e30:Env:=⟨35,eqs,tt,gl,[(47,s47)],[],[],[],[],[]⟩
def c3P:Ann:=.seq lfA (.seq lfA (.seq (.seq lfA (.blk (.loopR [(2,7),(15,34),(4000128,4000129)] ⟨[(2,(false,(.box (.dat y40)))),(15,uiM)],[]⟩ 0 ⟨[(2,(false,(.box (.dat y40))))],[]⟩ lfA))) lfA))
def qO (a0:J3):Option X4:=l7 (ilt 8 (o8 a0.1)) (some (4,1,8,0)) (o6 (U2 (fun(x:X4×Int)=>l7
 (ilt x.2 (o8 a0.1)) (o6 (lat a0.1 x.2) fun x_1=>o6 (sV a0 x.2 x_1) fun x_2=>l7 (E5 (ieq x_2.1 0))
 (some (.rt (x_2.1,1,x.2,x_2.2))) (some (.nx (x.1,A7 .i64 x.2 1)))) (some (.ex x.1))) ((0,0,0,0),0)) fun o=>X6 o (fun(y:X4)=>some (0,0,0,0)) fun r=>some r)
def s30:FSpec:=mkS b8o b9L fun x=>qO x
def b8V:List MG:=[(true,(.dat y0)),(false,(.dat y10))]
def c0w:Ret:=⟨[(.tmp 4,ubM)],[]⟩
def e66:Env:=⟨28,eqs,tt,gl,[],[],[],[],[],[]⟩
def c4x:Ann:=.seq lfA (.seq (.seq lfA (.blk (.seq (.join [(7,13)] ⟨[(7,ubM)],[]⟩ lfA) lfA))) lfA)
def aG (a0:I7) (a1:List bP):Option Bool:=o6 (l7 (ieq a0.1 1) (some (ieq a0.1 1)) (l7 (ieq a0.1 2) (some (ieq a0.1
 2)) (l7 (ieq a0.1 3) (some (ieq a0.1 3)) (l7 (ieq a0.1 4) (some (ieq a0.1 4)) (some (ieq a0.1 5)))))) fun x=>l7 x (some (ieq a0.2
 0)) (l7 (ieq a0.1 6) (l7 (ile 0 a0.2) (some (ilt a0.2 (o8 a1))) (some false)) (some false))
def s66:FSpec:=mkS b8V c0w fun x=>aG x.1 x.2
def b8W:List MG:=[(true,(.dat y0)),(false,(.dat y10))]
def c0x:Ret:=⟨[(.tmp 4,uiM),(.tmp 5,uiM)],[]⟩
def e67:Env:=⟨30,eqs,tt,gl,[(66,s66)],[],[],[],[],[]⟩
def c4y:Ann:=.leaf
def jl (a0:I7) (a1:List bP):Option I7:=o6 (aG a0 a1) fun x=>l7 (E5 x) (some (0,-1)) (l7
 (ieq a0.1 1) (some (0,1)) (l7 (ieq a0.1 2) (some (-1000000000000,1000000000000)) (l7 (ieq a0.1 3) (some (-1000000000000000,
 1000000000000000)) (l7 (ieq a0.1 4) (some (-1000000000,1000000000)) (l7 (ieq a0.1 5) (some (0,109572)) (o6 (lat a1 a0.2) fun x
 =>some (0,G8 .i64 (o8 x.2) 1)))))))
def s67:FSpec:=mkS b8W c0x fun x=>jl x.1 x.2
def b8X:List MG:=[(true,(.dat y0))]
def c0y:Ret:=⟨[(.tmp 2,ubM)],[]⟩
def e68:Env:=⟨18,eqs,tt,gl,[],[],[],[],[],[]⟩
def c4z:Ann:=.leaf
def iQ (a0:I7):Option Bool:=l7 (ile 0 a0.1) (l7 (ile a0.1 a0.2) (some (ile a0.2 109573)) (some false)) (some false)
def s68:FSpec:=mkS b8X c0y fun x=>iQ x
def a9E:List MG:=[(true,(.dat y0))]
def b1f:Ret:=⟨[(.tmp 2,ubM)],[]⟩
def c5h:Env:=⟨12,eqs,tt,gl,[(68,s68)],[],[],[],[],[]⟩
def b5W:Ann:=.leaf
def lJ (a0:I7):Option Bool:=o6 (iQ a0) fun x=>l7 x (some (ilt a0.1 a0.2)) (some false)
def c1b:FSpec:=mkS a9E b1f fun x=>lJ x
def b9n:List MG:=[(true,(.dat y0)),(true,(.dat y0))]
def c0P:Ret:=⟨[(.cell 4 78,(true,(.dat y0))),(.tmp 5,ubM)],[]⟩
def e97:Env:=⟨34,eqs,tt,gl,[(124,c1b)],[],[],[],[],[]⟩
def c4S:Ann:=.leaf
def jK (a0:I7) (a1:I7):Option (I7×Bool):=o6 (lJ a0) fun x=>l7 (E5 x) (some ((0,
 0),false)) (o6 (lJ a1) fun x=>l7 (E5 x) (some ((0,0),false)) (l7 (ile (kG a0.2 a1.2) (gV a0.1 a1.1))
 (some ((0,0),false)) (some ((gV a0.1 a1.1,kG a0.2 a1.2),true))))
def s97:FSpec:=mkS b9n c0P fun x=>jK x.1 x.2
def b8Y:List MG:=[(true,(.dat y11)),(true,(.dat y11))]
def c0z:Ret:=⟨[(.tmp 4,ubM)],[]⟩
def e71:Env:=⟨29,eqs,tt,gl,[(97,s97)],[],[],[],[],[]⟩
def c4A:Ann:=.leaf
def rD (a0:tH) (a1:tH):Option Bool:=o6 (jK a0.1 a1.1) fun x=>l7 x.2 (some (ilt (gV
 a0.2.1 a1.2.1) (kG a0.2.2.1 a1.2.2.1))) (some false)
def s71:FSpec:=mkS b8Y c0z fun x=>rD x.1 x.2
def a4V:List MG:=[(true,(.dat y11)),(false,(.rp y11))]
def a5F:Ret:=⟨[(.tmp 3,ubM)],[]⟩
def b7y:Env:=⟨7,eqs,tt,gl,[(71,s71)],[],[],[],[],[]⟩
def b3c:Ann:=.leaf
def kF (a0:tH) (a1:tH):Option Bool:=o6 (rD a0 a1) fun x=>some x
def a6b:FSpec:=mkS a4V a5F fun x=>kF x.1 x.2
def a4T:List MG:=[(false,(.dat y12)),(false,(.fn 70 [y11]))]
def a5D:Ret:=⟨[(.tmp 4,uiM),(.tmp 5,ubM)],[]⟩
def b7w:Env:=⟨20,eqs,tt,gl,[(70,a6b)],[],[],[],[],[]⟩
def b3a:Ann:=.seq lfA (.seq (.seq lfA (.blk (.loopR [(4,8),(10,20)] ⟨[(10,uiM)],[]⟩ 0 ⟨[],[]⟩ lfA))) lfA)
def jP (a0:List tH) (a1:tH):Option (Int×Bool):=o6 (U2 (fun(x:Int)=>l7 (ilt x (o8 a0)) (o6 (lat a0 x)
 fun x_1=>o6 (kF x_1 a1) fun x_2=>l7 x_2 (some (.rt (x,true))) (some (.nx (A7 .i64 x 1))))
 (some (.ex ()))) 0) fun o=>X6 o (fun(y:PUnit)=>some (0,false)) fun r=>some r
def b2x:FSpec:=mkS a4T a5D fun x=>jP x.1 x.2
def b8D:List MG:=[(true,(.dat y15)),(false,(.dat y10))]
def c0c:Ret:=⟨[(.tmp 4,uiM),(.tmp 5,uiM)],[]⟩
def e48:Env:=⟨121,eqs,tt,gl,[(66,s66),(67,s67),(68,s68),(70,a6b),(69,b2x)],[],[],[],[],[]⟩
def c4f:Ann:=.seq lfA (.seq lfA (.seq (.joinR [(4,6),(18,30)] ⟨[],[]⟩ lfA) (.seq lfA (.seq lfA (.seq (.seq lfA (.blk (.loopR [(4,6),(10,14),(47,121)] ⟨[(47,uiM)],[]⟩ 0 ⟨[],[]⟩ (.seq lfA (.seq lfA (.seq (.blk (.seq lfA (.seq (.joinR [(4,6),(52,73)] ⟨[],[]⟩ lfA) (.seq (.joinR [(4,6),(73,98)] ⟨[],[]⟩ lfA) lfA)))) lfA)))))) lfA)))))
def rC (a0:ai) (a1:List bP):Option I7:=l7 (ilt 64 (o8 a0.2.2.2)) (some (64,4)) (o6 (o6 (aG
 a0.2.1 a1) fun x=>l7 (E5 x) (some (.inr (-1,8))) (o6 (aG a0.2.2.1 a1) fun x=>l7 (E5 x) (some
 (.inr (-1,8))) (some (.inl ())))) fun o=>X6 o (fun(x:PUnit)=>o6 (jl a0.2.1 a1) fun x
 =>o6 (jl a0.2.2.1 a1) fun x_1=>o6 (U2 (fun(x_2:Int)=>l7 (ilt x_2 (o8 a0.2.2.2)) (o6 (lat a0.2.2.2 x_2)
 fun x_3=>o6 (o6 (iQ x_3.1) fun x=>l7 (E5 x) (some (.inr (x_2,3))) (l7 (ieq x_3.1.1 x_3.1.2)
 (some (.inr (x_2,3))) (l7 (ile x_3.2.2.1 x_3.2.1) (some (.inr (x_2,3))) (some (.inl ()))))) fun o=>X6 o
 (fun(x_4:PUnit)=>o6 (l7 (ilt x_3.2.1 x.1) (some (.inr (x_2,3))) (l7 (ilt x.2 x_3.2.1) (some (.inr (x_2,3))) (l7 (ilt (G8
 .i64 x_3.2.2.1 1) x.1) (some (.inr (x_2,3))) (l7 (ilt x.2 (G8 .i64 x_3.2.2.1 1)) (some (.inr (x_2,3))) (some (.inl
 ())))))) fun o=>X6 o (fun(x:PUnit)=>l7 (ilt x_3.2.2.2 x_1.1) (some (.rt (x_2,3))) (l7 (ilt x_1.2
 x_3.2.2.2) (some (.rt (x_2,3))) (o6 (AU a0.2.2.2 0 x_2) fun x=>o6 (jP x x_3) fun x=>
 l7 x.2 (some (.rt (x_2,11))) (some (.nx (A7 .i64 x_2 1)))))) fun r=>some (.rt r)) fun r=>some (.rt
 r)) (some (.ex ()))) 0) fun o=>X6 o (fun(y:PUnit)=>some (0,0)) fun r=>some r) fun r=>
 some r)
def s48:FSpec:=mkS b8D c0c fun x=>rC x.1 x.2
def a4Z:List MG:=[(true,(.dat y15)),(false,(.rp .str))]
def a5J:Ret:=⟨[(.tmp 3,ubM)],[]⟩
def b7C:Env:=⟨8,eqs,tt,gl,[],[],[],[],[],[]⟩
def b3g:Ann:=.leaf
def vz (a0:ai) (a1:List UInt8):Option Bool:=some (seq a0.1 a1)
def a6d:FSpec:=mkS a4Z a5J fun x=>vz x.1 x.2
def a0i:List MG:=[(false,(.dat y16)),(false,(.fn 78 [.str]))]
def a0D:Ret:=⟨[(.tmp 4,uiM)],[]⟩
def b3J:Env:=⟨19,eqs,tt,gl,[(78,a6d)],[],[],[],[],[]⟩
def a7w:Ann:=.seq lfA (.seq (.seq lfA (.blk (.loopR [(4,6),(8,19)] ⟨[(8,uiM)],[]⟩ 0 ⟨[],[]⟩ lfA))) lfA)
def bF (a0:List ai) (a1:List UInt8):Option Int:=o6 (U2 (fun(x:Int)=>l7 (ilt x (o8 a0))
 (o6 (lat a0 x) fun x_1=>o6 (vz x_1 a1) fun x_2=>l7 x_2 (some (.rt x)) (some (.nx (A7 .i64
 x 1)))) (some (.ex ()))) 0) fun o=>X6 o (fun(y:PUnit)=>some (-1)) fun r=>some r
def a5P:FSpec:=mkS a0i a0D fun x=>bF x.1 x.2
def a4Y:List MG:=[(false,(.dat y16)),(false,(.fn 78 [.str]))]
def a5I:Ret:=⟨[(.tmp 4,ubM)],[]⟩
def b7B:Env:=⟨9,eqs,tt,gl,[(100,a5P)],[],[],[],[],[]⟩
def b3f:Ann:=.leaf
def aO (a0:List ai) (a1:List UInt8):Option Bool:=o6 (bF a0 a1)
 fun x=>some (ile 0 x)
def b2A:FSpec:=mkS a4Y a5I fun x=>aO x.1 x.2
def b8G:List MG:=[(false,(.dat y16)),(false,(.dat .str))]
def c0f:Ret:=⟨[(.tmp 4,ubM)],[]⟩
def e51:Env:=⟨8,eqs,tt,gl,[(78,a6d),(77,b2A)],[],[],[],[],[]⟩
def c4i:Ann:=.leaf
def qQ (a0:List ai) (a1:List UInt8):Option Bool:=o6 (aO a0 a1) fun x=>some x
def s51:FSpec:=mkS b8G c0f fun x=>qQ x.1 x.2
def b8p:List MG:=[(true,(.dat y34))]
def b9M:Ret:=⟨[(.cell 2 61,(true,(.dat y40)))],[]⟩
def e31:Env:=⟨68,eqs,tt,gl,[(48,s48),(49,s49),(50,s50),(51,s51)],[],[],[],[],[]⟩
def c3Q:Ann:=.seq lfA (.seq lfA (.seq (.seq lfA (.blk (.loopR [(2,8),(16,67),(4000128,4000129)] ⟨[(2,(false,(.box (.dat y40)))),(16,uiM)],[]⟩ 0 ⟨[(2,(false,(.box (.dat y40))))],[]⟩ (.seq lfA (.seq lfA (.seq (.blk (.seq lfA (.seq lfA (.seq lfA (.seq (.join [(5,6),(30,62),(37000320,37000321)] ⟨[(5,(false,(.box (.dat y40))))],[]⟩ lfA) lfA))))) lfA)))))) lfA))
def pJ (a0:J3):Option X4:=l7 (ilt 8 (o8 a0.2.1)) (some (4,2,8,0)) (o6 (U2 (fun(x:X4×Int)=>
 l7 (ilt x.2 (o8 a0.2.1)) (o6 (lat a0.2.1 x.2) fun x_1=>o6 (rC x_1 a0.1) fun x_2=>o6 (o6
 (aB x_1.1) fun x_3=>l7 (E5 x_3) (some (2,2,x.2,0)) (o6 (qp a0.1 x_1.1) fun x_4=>l7 x_4
 (some (7,2,x.2,0)) (o6 (AU a0.2.1 0 x.2) fun x_5=>o6 (qQ x_5 x_1.1) fun x_6=>l7 x_6 (some (7,2,
 x.2,0)) (l7 (E5 (ieq x_2.2 0)) (l7 (E5 (ieq x_2.1 (-1))) (some (x_2.2,2,x.2,A7 .i64 100 x_2.1)) (some (x_2.2,2,x.2,0)))
 (some (0,2,x.2,0)))))) fun x_3=>l7 (E5 (ieq x_3.1 0)) (some (.rt x_3)) (some (.nx (x.1,A7 .i64 x.2 1))))
 (some (.ex x.1))) ((0,0,0,0),0)) fun o=>X6 o (fun(y:X4)=>some (0,0,0,0)) fun r
 =>some r)
def s31:FSpec:=mkS b8p b9M fun x=>pJ x
def a5b:List MG:=[(true,(.dat y31)),(false,(.rp y31))]
def a5L:Ret:=⟨[(.tmp 3,ubM)],[]⟩
def b7E:Env:=⟨9,eqs,tt,gl,[],[],[],[],[],[]⟩
def b3i:Ann:=.leaf
def rZ (a0:x9) (a1:x9):Option Bool:=some (seq a0.1 a1.1)
def a6e:FSpec:=mkS a5b a5L fun x=>rZ x.1 x.2
def a0j:List MG:=[(false,(.dat y32)),(false,(.fn 80 [y31]))]
def a0E:Ret:=⟨[(.tmp 4,uiM)],[]⟩
def b3K:Env:=⟨19,eqs,tt,gl,[(80,a6e)],[],[],[],[],[]⟩
def a7x:Ann:=.seq lfA (.seq (.seq lfA (.blk (.loopR [(4,6),(8,19)] ⟨[(8,uiM)],[]⟩ 0 ⟨[],[]⟩ lfA))) lfA)
def bD (a0:List x9) (a1:x9):Option Int:=o6 (U2 (fun(x:Int)=>l7 (ilt x (o8 a0))
 (o6 (lat a0 x) fun x_1=>o6 (rZ x_1 a1) fun x_2=>l7 x_2 (some (.rt x)) (some (.nx (A7
 .i64 x 1)))) (some (.ex ()))) 0) fun o=>X6 o (fun(y:PUnit)=>some (-1)) fun r=>some r
def a5Q:FSpec:=mkS a0j a0E fun x=>bD x.1 x.2
def a5a:List MG:=[(false,(.dat y32)),(false,(.fn 80 [y31]))]
def a5K:Ret:=⟨[(.tmp 4,ubM)],[]⟩
def b7D:Env:=⟨9,eqs,tt,gl,[(101,a5Q)],[],[],[],[],[]⟩
def b3h:Ann:=.leaf
def Y5 (a0:List x9) (a1:x9):Option Bool:=o6 (bD a0 a1) fun
 (x:Int)=>some (ile 0 x)
def b2B:FSpec:=mkS a5a a5K fun x=>Y5 x.1 x.2
def a0k:List MG:=[(true,(.dat y17)),(false,(.rp y17))]
def a0F:Ret:=⟨[(.tmp 3,ubM)],[]⟩
def b3L:Env:=⟨9,eqs,tt,gl,[],[],[],[],[],[]⟩
def a7y:Ann:=.leaf
def rY (a0:Y9) (a1:Y9):Option Bool:=some (seq a0.1 a1.1)
def Yr:FSpec:=mkS a0k a0F fun x=>rY x.1 x.2
def a0s:List MG:=[(false,(.dat y18)),(false,(.fn 102 [y17]))]
def a0N:Ret:=⟨[(.tmp 4,uiM)],[]⟩
def b3T:Env:=⟨19,eqs,tt,gl,[(102,Yr)],[],[],[],[],[]⟩
def a7G:Ann:=.seq lfA (.seq (.seq lfA (.blk (.loopR [(4,6),(8,19)] ⟨[(8,uiM)],[]⟩ 0 ⟨[],[]⟩ lfA))) lfA)
def bC (a0:List Y9) (a1:Y9):Option Int:=o6 (U2 (fun(x:Int)=>l7 (ilt x (o8 a0))
 (o6 (lat a0 x) fun x_1=>o6 (rY x_1 a1) fun x_2=>l7 x_2 (some (.rt x)) (some (.nx (A7
 .i64 x 1)))) (some (.ex ()))) 0) fun o=>X6 o (fun(y:PUnit)=>some (-1)) fun r=>some r
def a5W:FSpec:=mkS a0s a0N fun x=>bC x.1 x.2
def a0l:List MG:=[(false,(.dat y18)),(false,(.fn 102 [y17]))]
def a0G:Ret:=⟨[(.tmp 4,ubM)],[]⟩
def b3M:Env:=⟨9,eqs,tt,gl,[(125,a5W)],[],[],[],[],[]⟩
def a7z:Ann:=.leaf
def U7 (a0:List Y9) (a1:Y9):Option Bool:=o6 (bC a0 a1) fun
 (x:Int)=>some (ile 0 x)
def a5R:FSpec:=mkS a0l a0G fun x=>U7 x.1 x.2
def b9c:List MG:=[(true,(.dat y34)),(true,(.dat y17)),(false,(.dat y18)),(false,(.dat y18))]
def c0D:Ret:=⟨[(.tmp 8,uiM)],[]⟩
def e81:Env:=⟨32,eqs,tt,gl,[(102,Yr),(49,s49),(103,a5R),(66,s66)],[],[],[],[],[]⟩
def c4F:Ann:=.leaf
def mM (a0:J3) (a1:Y9) (a2:List Y9) (a3:List Y9):Option Int:=o6 (aB a1.1) fun x=>
 l7 (E5 x) (some 2) (o6 (U7 a2 a1) fun x=>l7 x (some 7) (o6
 (U7 a3 a1) fun x=>l7 x (some 7) (o6 (aG a1.2 a0.1) fun x=>l7 (E5
 x) (some 8) (some 0))))
def s81:FSpec:=mkS b9c c0D fun x=>mM x.1 x.2.1 x.2.2.1 x.2.2.2
def a9t:List MG:=[(false,(.dat y18))]
def b0U:Ret:=⟨[(.tmp 2,(false,(.own y0)))],[]⟩
def c4V:Env:=⟨19,eqs,tt,gl,[],[],[],[],[],[]⟩
def b5K:Ann:=.seq lfA (.seq lfA (.seq (.seq lfA (.blk (.loop [(3,4),(5,6),(8,18)] ⟨[(3,(false,(.own y0))),(8,uiM)],[]⟩ 0 ⟨[(3,(false,(.own y0)))],[]⟩ lfA))) lfA))
def ku (a0:List Y9):Option (List I7):=o6 (X5 (fun(x:List I7×Int)=>l7 (ilt x.2 (o8 a0)) (o6 (lat a0
 x.2) fun x_1=>o6 (dE x.1 [x_1.2]) fun x_2=>some (.inl (x_2,A7 .i64 x.2 1))) (some (.inr x.1)))
 ([],0)) fun y=>some y
def c0S:FSpec:=mkS a9t b0U fun x=>ku x
def b9d:List MG:=[(true,(.dat y34)),uiM]
def c0E:Ret:=⟨[(.cell 4 180,(true,(.dat y69)))],[]⟩
def e82:Env:=⟨45,eqs,tt,gl,[(104,c0S)],[],[],[],[],[]⟩
def c4G:Ann:=.leaf
def jO (a0:J3) (a1:Int):Option H7:=o6 (lat a0.2.2 a1) fun x=>o6 (ku x.2.2.1) fun
 (x_1:List I7)=>o6 (ku x.2.2.2.1) fun x_2=>l7 (ile 0 x.2.1) (l7 (ilt x.2.1 (o8 a0.2.2)) (o6 (lat
 a0.2.2 x.2.1) fun x=>o6 (ku x.2.2.2.1) fun x=>some (a0.1,a0.2.1,x_1,x_2,x,true)) (some (a0.1,
 a0.2.1,x_1,x_2,[],false))) (some (a0.1,a0.2.1,x_1,x_2,[],false))
def s82:FSpec:=mkS b9d c0E fun x=>jO x.1 x.2
def a0n:List MG:=[(true,(.dat y26)),(false,(.rp y26))]
def a0I:Ret:=⟨[(.tmp 3,ubM)],[]⟩
def b3O:Env:=⟨9,eqs,tt,gl,[],[],[],[],[],[]⟩
def a7B:Ann:=.leaf
def ug (a0:J6) (a1:J6):Option Bool:=some (seq a0.1 a1.1)
def Yt:FSpec:=mkS a0n a0I fun x=>ug x.1 x.2
def a0t:List MG:=[(false,(.dat y27)),(false,(.fn 106 [y26]))]
def a0O:Ret:=⟨[(.tmp 4,uiM)],[]⟩
def b3U:Env:=⟨19,eqs,tt,gl,[(106,Yt)],[],[],[],[],[]⟩
def a7H:Ann:=.seq lfA (.seq (.seq lfA (.blk (.loopR [(4,6),(8,19)] ⟨[(8,uiM)],[]⟩ 0 ⟨[],[]⟩ lfA))) lfA)
def cZ (a0:List J6) (a1:J6):Option Int:=o6 (U2 (fun(x:Int)=>l7 (ilt x (o8 a0)) (o6
 (lat a0 x) fun x_1=>o6 (ug x_1 a1) fun x_2=>l7 x_2 (some (.rt x)) (some (.nx (A7 .i64 x
 1)))) (some (.ex ()))) 0) fun o=>X6 o (fun(y:PUnit)=>some (-1)) fun r=>some r
def a5X:FSpec:=mkS a0t a0O fun x=>cZ x.1 x.2
def a0m:List MG:=[(false,(.dat y27)),(false,(.fn 106 [y26]))]
def a0H:Ret:=⟨[(.tmp 4,ubM)],[]⟩
def b3N:Env:=⟨9,eqs,tt,gl,[(126,a5X)],[],[],[],[],[]⟩
def a7A:Ann:=.leaf
def Z8 (a0:List J6) (a1:J6):Option Bool:=o6 (cZ a0 a1) fun(x:
 Int)=>some (ile 0 x)
def a5S:FSpec:=mkS a0m a0H fun x=>Z8 x.1 x.2
def b7V:List MG:=[(false,(.dat .str)),(false,(.dat .str))]
def c1c:FSpec:=⟨b7V,[ubM],[],fun x=>oH x.1 x.2⟩
def a9u:List MG:=[(false,(.dat .str))]
def b0V:Ret:=⟨[(.tmp 2,ubM)],[]⟩
def c4W:Env:=⟨27,eqs,tt,gl,[(127,c1c)],[],[],[],[],[]⟩
def b5L:Ann:=.seq lfA (.seq lfA (.seq (.seq lfA (.blk (.loopR [(2,4),(13,27)] ⟨[(13,uiM)],[]⟩ 0 ⟨[],[]⟩ lfA))) lfA))
def pK (a0:List UInt8):Option Bool:=l7 (ilt 64 (o8 a0)) (some false) (o6 (oH a0 [34]) fun x=>l7 x
 (some false) (o6 (U2 (fun(x:Int)=>l7 (ilt x (o8 a0)) (o6 (sat a0 x) fun x_1=>l7 (ilt x_1 32) (some (.rt false))
 (o6 (sat a0 x) fun x_2=>l7 (ilt 126 x_2) (some (.rt false)) (some (.nx (A7 .i64 x 1))))) (some (.ex ())))
 0) fun o=>X6 o (fun(y:PUnit)=>some true) fun r=>some r))
def c0T:FSpec:=mkS a9u b0V fun x=>pK x
def a9I:List MG:=[uiM]
def b1j:Ret:=⟨[(.tmp 2,uiM)],[]⟩
def c5l:Env:=⟨47,eqs,tt,gl,[],[],[],[],[],[]⟩
def b6a:Ann:=.seq lfA (.seq (.seq lfA (.blk (.seq (.join [(4,19)] ⟨[(4,ubM)],[]⟩ lfA) (.cond lfA (.seq (.join [(19,26)] ⟨[(19,ubM)],[]⟩ lfA) (.cond lfA (.seq (.join [(26,45)] ⟨[(26,ubM)],[]⟩ lfA) lfA))))))) lfA)
def fO (a0:Int):Option Int:=o6 (l7 (ieq a0 1) (some (ieq a0 1)) (l7 (ieq a0 2) (some (ieq a0 2)) (l7 (ieq a0 3) (some (ieq
 a0 3)) (l7 (ieq a0 4) (some (ieq a0 4)) (l7 (ieq a0 5) (some (ieq a0 5)) (l7 (ieq a0 6) (some (ieq a0 6)) (l7 (ieq a0 7) (some (ieq a0
 7)) (l7 (ieq a0 8) (some (ieq a0 8)) (l7 (ieq a0 9) (some (ieq a0 9)) (l7 (ieq a0 35) (some (ieq a0 35)) (l7 (ieq a0 36) (some (ieq a0
 36)) (l7 (ieq a0 37) (some (ieq a0 37)) (l7 (ieq a0 38) (some (ieq a0 38)) (some (ieq a0 39))))))))))))))) fun x=>l7 x (some 0)
 (o6 (l7 (ieq a0 10) (some (ieq a0 10)) (l7 (ieq a0 25) (some (ieq a0 25)) (l7 (ieq a0 31) (some (ieq a0 31)) (l7 (ieq a0 32) (some
 (ieq a0 32)) (l7 (ieq a0 33) (some (ieq a0 33)) (some (ieq a0 34))))))) fun x=>l7 x (some 1) (o6 (l7 (ieq a0 11) (some (ieq a0
 11)) (l7 (ieq a0 12) (some (ieq a0 12)) (l7 (ieq a0 13) (some (ieq a0 13)) (l7 (ieq a0 14) (some (ieq a0 14)) (l7 (ieq a0 15) (some (ieq
 a0 15)) (l7 (ieq a0 16) (some (ieq a0 16)) (l7 (ieq a0 17) (some (ieq a0 17)) (l7 (ieq a0 18) (some (ieq a0 18)) (l7 (ieq a0 19) (some
 (ieq a0 19)) (l7 (ieq a0 20) (some (ieq a0 20)) (l7 (ieq a0 21) (some (ieq a0 21)) (l7 (ieq a0 22) (some (ieq a0 22)) (l7 (ieq a0 23)
 (some (ieq a0 23)) (l7 (ieq a0 24) (some (ieq a0 24)) (l7 (ieq a0 27) (some (ieq a0 27)) (l7 (ieq a0 28) (some (ieq a0 28)) (l7 (ieq a0
 29) (some (ieq a0 29)) (some (ieq a0 30))))))))))))))))))) fun x=>l7 x (some 2) (l7 (ieq a0 26) (some 3) (some (-1)))))
def a2u:FSpec:=mkS a9I b1j fun x=>fO x
def a9B:List MG:=[(false,(.dat y19))]
def b1c:Ret:=⟨[(.tmp 2,uoM),(.tmp 3,uiM),(.tmp 4,uiM)],[]⟩
def c5d:Env:=⟨76,eqs,tt,gl,[(141,a2u)],[],[],[],[],[]⟩
def b5S:Ann:=.seq lfA (.seq lfA (.seq lfA (.seq lfA (.seq lfA (.seq (.seq lfA (.blk (.loopR [(2,10),(21,70),(27001152,27001153)] ⟨[(5,uoM),(6,uoM),(21,uiM)],[]⟩ 0 ⟨[(5,uoM),(6,uoM)],[]⟩ lfA))) lfA)))))
def mD (a0:List I7):Option (List Int×I7):=l7 (ilt 48 (o8 a0)) (some ([],0,4)) (l7 (ieq (o8 a0) 0) (some ([],0,
 5)) (o6 (jH (o8 a0) 0) fun x=>o6 (U2 (fun(x:List Int×List Int×Int)=>l7 (ilt x.2.2 (o8 a0)) (o6 (lat a0
 x.2.2) fun x_1=>o6 (fO x_1.1) fun x_2=>l7 (ilt x_2 0) (some (.rt ([],x.2.2,2))) (l7 (ilt (o8 x.2.1)
 x_2) (some (.rt ([],x.2.2,5))) (o6 (lat x.1 x.2.2) fun x_3=>o6 (L8 x.1 (toN x.2.2)) fun x_4=>l7 (ilt 0 x_2)
 (o6 (lat x.2.1 (G8 .i64 (o8 x.2.1) x_2)) fun x_5=>o6 (L8 x.2.1 (toN (G8 .i64 (o8 x.2.1) x_2))) fun(x_6:
 Int)=>o6 (lat (U5 x.1 (toN x.2.2) x.2.2) x.2.2) fun x_7=>o6 (L8 (U5 x.1 (toN x.2.2) x.2.2) (toN x.2.2)) fun x_8=>
 l7 (jG 0 (G8 .i64 (o8 x.2.1) x_2) (o8 x.2.1)) (o6 (lat (U5 (U5 x.1 (toN x.2.2) x.2.2) (toN x.2.2) x_6) x.2.2) fun(x_9:
 Int)=>o6 (L8 (U5 (U5 x.1 (toN x.2.2) x.2.2) (toN x.2.2) x_6) (toN x.2.2)) fun x_10=>o6 (dE (gQ x.2.1 (toN 0) (toN (G8
 .i64 (o8 x.2.1) x_2))) [x_10]) fun x_11=>l7 (ilt 12 (o8 x_11)) (some (.rt ([],x.2.2,16))) (some (.nx (U5 (U5
 x.1 (toN x.2.2) x.2.2) (toN x.2.2) x_6,x_11,A7 .i64 x.2.2 1)))) none) (l7 (jG 0 (G8 .i64 (o8 x.2.1) x_2) (o8 x.2.1))
 (o6 (lat (U5 x.1 (toN x.2.2) x.2.2) x.2.2) fun x_5=>o6 (L8 (U5 x.1 (toN x.2.2) x.2.2) (toN x.2.2)) fun x_6=>o6
 (dE (gQ x.2.1 (toN 0) (toN (G8 .i64 (o8 x.2.1) x_2))) [x_6]) fun x_7=>l7 (ilt 12 (o8 x_7)) (some (.rt ([],
 x.2.2,16))) (some (.nx (U5 x.1 (toN x.2.2) x.2.2,x_7,A7 .i64 x.2.2 1)))) none)))) (some (.ex (x.1,x.2.1)))) (x,[],0)) fun(o:
 List Int×List Int⊕List Int×I7)=>X6 o (fun(y:List Int×List Int)=>l7 (ilt 1 (o8 y.2)) (some ([],o8 a0,4)) (some (y.1,0,
 0))) fun r=>some r))
def b4r:FSpec:=mkS a9B b1c fun x=>mD x
def a9P:List MG:=[uiM]
def b1q:Ret:=⟨[(.tmp 2,ubM)],[]⟩
def c5t:Env:=⟨22,eqs,tt,gl,[],[],[],[],[],[]⟩
def b6i:Ann:=.leaf
def cu (a0:Int):Option Bool:=l7 (ieq a0 1) (l7 (ieq a0 1) (some true) (some false)) (l7 (ieq a0 2) (l7 (ieq a0 2) (some
 true) (some false)) (l7 (ieq a0 3) (l7 (ieq a0 3) (some true) (some false)) (l7 (ieq a0 4) (l7 (ieq a0 4) (some true) (some false))
 (l7 (ieq a0 5) (l7 (ieq a0 5) (some true) (some false)) (l7 (ieq a0 6) (l7 (ieq a0 6) (some true) (some false)) (l7 (ieq a0 7) (l7
 (ieq a0 7) (some true) (some false)) (l7 (ieq a0 8) (l7 (ieq a0 8) (some true) (some false)) (l7 (ieq a0 14) (l7 (ieq a0 14) (some true)
 (some false)) (l7 (ieq a0 15) (l7 (ieq a0 15) (some true) (some false)) (l7 (ieq a0 16) (l7 (ieq a0 16) (some true) (some false)) (l7
 (ieq a0 33) (l7 (ieq a0 33) (some true) (some false)) (l7 (ieq a0 34) (l7 (ieq a0 34) (some true) (some false)) (l7 (ieq a0 36) (l7
 (ieq a0 36) (some true) (some false)) (l7 (ieq a0 37) (l7 (ieq a0 37) (some true) (some false)) (l7 (ieq a0 38) (l7 (ieq a0 38) (some
 true) (some false)) (l7 (ieq a0 39) (some true) (some false)))))))))))))))))
def b4s:FSpec:=mkS a9P b1q fun x=>cu x
def b0c:List MG:=[uiM,uiM,(true,(.dat y69))]
def b1D:Ret:=⟨[(.cell 6 98,(true,(.dat y0))),(.tmp 7,uiM)],[]⟩
def c5H:Env:=⟨30,eqs,tt,gl,[(67,s67)],[],[],[],[],[]⟩
def b6v:Ann:=.leaf
def dA (a0:Int) (a1:Int) (a2:H7):Option (I7×Int):=o6 (jl (a1,0) a2.1) fun x=>l7 (ilt
 a0 x.1) (some ((0,0),3)) (l7 (ilt x.2 a0) (some ((0,0),3)) (some ((a1,0),0)))
def c1w:FSpec:=mkS b0c b1D fun x=>dA x.1 x.2.1 x.2.2
def b0d:List MG:=[uiM,(true,(.dat y69))]
def b1E:Ret:=⟨[(.cell 4 98,(true,(.dat y0))),(.tmp 5,uiM)],[]⟩
def c5I:Env:=⟨34,eqs,tt,gl,[],[],[],[],[],[]⟩
def b6w:Ann:=.leaf
def sU (a0:Int) (a1:H7):Option (I7×Int):=l7 (ilt a0 0) (some ((0,0),3)) (l7 (ile (o8 a1.1) (aN .i64
 a0 16)) (some ((0,0),6)) (o6 (lat a1.1 (aN .i64 a0 16)) fun x=>l7 (ile (o8 x.2) (dV a0 16)) (some ((0,0),6)) (some
 ((6,aN .i64 a0 16),0))))
def c1x:FSpec:=mkS b0d b1E fun x=>sU x.1 x.2
def b0e:List MG:=[uiM,(false,(.dat y19)),(true,(.dat y69))]
def b1F:Ret:=⟨[(.cell 6 98,(true,(.dat y0))),(.tmp 7,uiM)],[]⟩
def c5J:Env:=⟨30,eqs,tt,gl,[(66,s66)],[],[],[],[],[]⟩
def b6x:Ann:=.leaf
def bU (a0:Int) (a1:List I7) (a2:H7):Option (I7×Int):=l7 (ilt a0 0) (some ((0,0),6)) (l7 (ile (o8 a1)
 a0) (some ((0,0),6)) (o6 (lat a1 a0) fun x=>o6 (aG x a2.1) fun x=>l7 (E5 x) (some ((0,0),8))
 (o6 (lat a1 a0) fun x=>some (x,0))))
def b4v:FSpec:=mkS b0e b1F fun x=>bU x.1 x.2.1 x.2.2
def b0h:List MG:=[uiM]
def b1I:Ret:=⟨[(.tmp 2,ubM)],[]⟩
def c5N:Env:=⟨9,eqs,tt,gl,[],[],[],[],[],[]⟩
def b6A:Ann:=.leaf
def eP (a0:Int):Option Bool:=l7 (ile 0 a0) (some (ile a0 5)) (some false)
def b4w:FSpec:=mkS b0h b1I fun x=>eP x
def b0f:List MG:=[(true,(.dat y0)),(true,(.dat y0)),(true,(.dat y69))]
def b1G:Ret:=⟨[(.cell 6 98,(true,(.dat y0))),(.tmp 7,uiM)],[]⟩
def c5K:Env:=⟨84,eqs,tt,gl,[(175,b4w),(66,s66)],[],[],[],[],[]⟩
def b6y:Ann:=.seq lfA (.seq lfA (.seq (.joinR [(6,9),(13,30),(4000384,4000385)] ⟨[(6,(false,(.box (.dat y0)))),(8,uiM)],[]⟩ lfA) (.seq (.joinR [(6,8),(30,40),(9000000,9000001)] ⟨[(6,(false,(.box (.dat y0))))],[]⟩ lfA) (.seq lfA (.seq (.joinR [(6,8),(52,70),(27000000,27000001)] ⟨[(6,(false,(.box (.dat y0))))],[]⟩ lfA) lfA)))))
def jV (a0:I7) (a1:I7) (a2:H7):Option (I7×Int):=o6 (l7 (ieq a0.1 34) (l7 (ilt a0.2 0) (some (.inr
 ((0,0),3))) (o6 (eP (dV a0.2 8)) fun x=>l7 (E5 x) (some (.inr ((0,0),3))) (some (.inl ((0,0),aN
 .i64 a0.2 8))))) (some (.inl ((0,0),a0.2)))) fun o=>X6 o (fun(x:I7×Int)=>o6 (l7 (ilt
 x.2 0) (some (.inr ((0,0),6))) (l7 (ile (o8 a2.2.1) x.2) (some (.inr ((0,0),6))) (some (.inl x.1)))) fun o
 =>X6 o (fun(x_1:I7)=>o6 (lat a2.2.1 x.2) fun x_2=>o6 (lat a2.2.1 x.2) fun x=>o6 (o6 (aG
 x_2.2.1 a2.1) fun x_3=>l7 (E5 x_3) (some (.inr ((0,0),8))) (o6 (aG x.2.2.1 a2.1) fun x=>l7 (E5
 x) (some (.inr ((0,0),8))) (l7 (E5 (V8 (ieq a1.1 x_2.2.1.1) (ieq a1.2 x_2.2.1.2))) (some (.inr ((0,0),8))) (some (.inl x_1)))))
 fun o=>X6 o (fun(x_3:I7)=>l7 (ieq a0.1 34) (l7 (E5 (ieq x_2.2.1.1 3)) (some ((0,0),8)) (l7 (E5
 (ieq x.2.2.1.1 4)) (some ((0,0),8)) (some (x_2.2.1,0)))) (some (x.2.2.1,0))) fun r=>some r) fun r=>some r)
 fun r=>some r
def c1y:FSpec:=mkS b0f b1G fun x=>jV x.1 x.2.1 x.2.2
def b0r:List MG:=[uiM]
def b1S:Ret:=⟨[(.tmp 2,ubM)],[]⟩
def c5Y:Env:=⟨13,eqs,tt,gl,[],[],[],[],[],[]⟩
def b6K:Ann:=.leaf
def ed (a0:Int):Option Bool:=l7 (ieq a0 2) (some true) (l7 (ieq a0 3) (some true) (some (ieq a0 4)))
def b4z:FSpec:=mkS b0r b1S fun x=>ed x
def b0g:List MG:=[(true,(.dat y0)),(true,(.dat y69))]
def b1H:Ret:=⟨[(.cell 4 98,(true,(.dat y0))),(.tmp 5,uiM)],[]⟩
def c5M:Env:=⟨62,eqs,tt,gl,[(172,b4v),(191,b4z)],[],[],[],[],[]⟩
def b6z:Ann:=.seq lfA (.seq lfA (.seq lfA (.seq lfA (.seq lfA (.seq lfA (.seq (.join [(8,9),(30,58)] ⟨[(8,ubM)],[]⟩ lfA) lfA))))))
def iT (a0:I7) (a1:H7):Option (I7×Int):=l7 (E5 a1.2.2.2.2.2) (some ((0,0),6)) (l7 (ieq a0.1 35) (some
 ((2,0),0)) (o6 (bU a0.2 a1.2.2.2.2.1 a1) fun x=>l7 (E5 (ieq x.2 0)) (some ((0,0),x.2)) (o6 (l7 (ieq
 a0.1 36) (l7 (ieq x.1.1 2) (some true) (some (ieq x.1.1 3))) (l7 (ieq a0.1 37) (l7 (ieq a0.1 37) (some (ieq x.1.1 1)) (l7 (ieq a0.1 39)
 (o6 (ed x.1.1) fun x_1=>l7 x_1 (some true) (some (ieq x.1.1 5))) (some false))) (l7 (ieq a0.1 38) (some (ieq x.1.1 1))
 (l7 (ieq a0.1 39) (o6 (ed x.1.1) fun x_1=>l7 x_1 (some true) (some (ieq x.1.1 5))) (some false))))) fun x_1
 =>l7 (E5 x_1) (some ((0,0),8)) (some (x.1,0)))))
def c1z:FSpec:=mkS b0g b1H fun x=>iT x.1 x.2
def b0s:List MG:=[uiM,uiM,uiM]
def b1T:Ret:=⟨[(.cell 6 98,(true,(.dat y0))),(.tmp 7,ubM)],[]⟩
def c5Z:Env:=⟨47,eqs,tt,gl,[],[],[],[],[],[]⟩
def b6L:Ann:=.leaf
def xM (a0:Int) (a1:Int) (a2:Int):Option (I7×Bool):=l7 (ieq a0 14) (l7 (ieq a2 4) (l7 (ieq a1 3) (some ((a1,0),
 true)) (some ((a1,0),ieq a1 4))) (some ((a1,0),false))) (l7 (ieq a2 2) (l7 (ieq a1 2) (some ((a1,0),true)) (some ((a1,0),ieq a1 3)))
 (l7 (ieq a0 15) (l7 (ieq a1 3) (l7 (ieq a2 3) (some ((4,0),true)) (some ((0,0),false))) (some ((0,0),false))) (some ((0,0),false))))
def c1G:FSpec:=mkS b0s b1T fun x=>xM x.1 x.2.1 x.2.2
def b0i:List MG:=[uiM,(false,(.dat y19))]
def b1J:Ret:=⟨[(.cell 4 98,(true,(.dat y0))),(.tmp 5,ubM)],[]⟩
def c5O:Env:=⟨222,eqs,tt,gl,[(191,b4z),(192,c1G)],[],[],[],[],[]⟩
def b6B:Ann:=.seq lfA (.seq lfA (.seq (.joinR [(4,6),(8,221),(4000256,4000257)] ⟨[(4,(false,(.box (.dat y0))))],[]⟩ (.seq lfA (.blk (.seq lfA (.cond lfA (.seq lfA (.cond lfA (.seq (.join [(27,30)] ⟨[(27,ubM)],[]⟩ lfA) (.cond lfA (.seq (.join [(47,51)] ⟨[(47,ubM)],[]⟩ lfA) (.cond lfA (.seq lfA (.cond lfA (.seq (.join [(80,83)] ⟨[(80,ubM)],[]⟩ lfA) (.cond lfA (.seq (.join [(107,110)] ⟨[(107,ubM)],[]⟩ lfA) (.cond lfA (.seq (.join [(118,121)] ⟨[(118,ubM)],[]⟩ lfA) (.cond lfA (.seq (.join [(143,146)] ⟨[(143,ubM)],[]⟩ lfA) (.cond lfA (.seq lfA (.cond lfA (.seq (.join [(178,181)] ⟨[(178,ubM)],[]⟩ lfA) lfA)))))))))))))))))))))))) lfA))
def fQ (a0:Int) (a1:List I7):Option (I7×Bool):=o6 (l7 (ieq a0 10) (o6 (lat a1 0) fun x=>o6 (lat
 a1 0) fun x_1=>o6 (ed x_1.1) fun x_2=>some (.inr (x,x_2))) (l7 (ieq a0 25) (o6 (lat a1 0) fun(x:
 I7)=>some (.inr ((1,0),ieq x.1 1))) (o6 (l7 (ieq a0 11) (some (ieq a0 11)) (some (ieq a0 12))) fun x=>l7 x (o6 (lat
 a1 0) fun x=>o6 (lat a1 0) fun x_1=>o6 (lat a1 1) fun x_2=>l7 (V8 (ieq x_1.1 x_2.1) (ieq x_1.2 x_2.2))
 (o6 (lat a1 0) fun x_3=>o6 (ed x_3.1) fun x_4=>some (.inr (x,x_4))) (some (.inr (x,false)))) (o6
 (l7 (ieq a0 13) (some (ieq a0 13)) (l7 (ieq a0 14) (some (ieq a0 14)) (some (ieq a0 15)))) fun x=>l7 x (o6 (lat a1 0) fun(x:
 I7)=>o6 (lat a1 1) fun x_1=>o6 (xM a0 x.1 x_1.1) fun x=>some (.inr x)) (l7 (ieq a0 16)
 (o6 (lat a1 0) fun x=>o6 (lat a1 0) fun x_1=>l7 (ieq x_1.1 3) (o6 (lat a1 1) fun x_2=>some (.inr
 (x,ieq x_2.1 3))) (some (.inr (x,false)))) (o6 (l7 (ieq a0 17) (some (ieq a0 17)) (some (ieq a0 18))) fun x=>l7 x (o6
 (lat a1 0) fun x=>o6 (lat a1 0) fun x_1=>o6 (lat a1 1) fun x_2=>l7 (V8 (ieq x_1.1 x_2.1) (ieq x_1.2
 x_2.2)) (o6 (lat a1 0) fun x_3=>o6 (ed x_3.1) fun x_4=>l7 x_4 (some (.inr (x,true))) (o6 (lat a1 0)
 fun x_5=>some (.inr (x,ieq x_5.1 5)))) (some (.inr (x,false)))) (o6 (l7 (ieq a0 19) (some (ieq a0 19)) (some (ieq a0 20)))
 fun x=>l7 x (o6 (lat a1 0) fun x=>o6 (lat a1 1) fun x_1=>some (.inr ((1,0),V8 (ieq x.1 x_1.1) (ieq
 x.2 x_1.2)))) (o6 (l7 (ieq a0 21) (some (ieq a0 21)) (some (ieq a0 22))) fun x=>l7 x (o6 (lat a1 0) fun x=>o6
 (lat a1 1) fun x_1=>l7 (V8 (ieq x.1 x_1.1) (ieq x.2 x_1.2)) (o6 (lat a1 0) fun x=>o6 (ed x.1) fun(x:
 Bool)=>l7 x (some (.inr ((1,0),true))) (o6 (lat a1 0) fun x=>some (.inr ((1,0),ieq x.1 5)))) (some (.inr ((1,0),
 false)))) (o6 (l7 (ieq a0 23) (some (ieq a0 23)) (some (ieq a0 24))) fun x=>l7 x (o6 (lat a1 0) fun x=>l7 (ieq
 x.1 1) (o6 (lat a1 1) fun x=>some (.inr ((1,0),ieq x.1 1))) (some (.inr ((1,0),false)))) (l7 (ieq a0 26) (o6 (lat a1
 1) fun x=>o6 (lat a1 0) fun x_1=>l7 (ieq x_1.1 1) (o6 (lat a1 1) fun x_2=>o6 (lat a1 2) fun(x_3:
 I7)=>some (.inr (x,V8 (ieq x_2.1 x_3.1) (ieq x_2.2 x_3.2)))) (some (.inr (x,false)))) (o6 (l7 (ieq a0 27) (some (ieq a0 27))
 (some (ieq a0 28))) fun x=>l7 x (o6 (lat a1 0) fun x=>o6 (lat a1 0) fun x_1=>l7 (ieq x_1.1 5) (o6
 (lat a1 1) fun x_2=>some (.inr (x,ieq x_2.1 2))) (some (.inr (x,false)))) (l7 (ieq a0 29) (l7 (ieq a0 29) (o6 (lat a1 0)
 fun x=>l7 (ieq x.1 5) (o6 (lat a1 1) fun x=>some (.inr ((2,0),ieq x.1 5))) (some (.inr ((2,0),false))))
 (l7 (ieq a0 31) (l7 (ieq a0 31) (o6 (lat a1 0) fun x=>some (.inr ((2,0),ieq x.1 5))) (some (.inl (0,0)))) (l7 (ieq
 a0 32) (o6 (lat a1 0) fun x=>some (.inr ((2,0),ieq x.1 5))) (some (.inl (0,0)))))) (l7 (ieq a0 30) (o6 (lat a1 0) fun
 (x:I7)=>l7 (ieq x.1 5) (o6 (lat a1 1) fun x=>some (.inr ((2,0),ieq x.1 5))) (some (.inr ((2,0),false)))) (l7
 (ieq a0 31) (l7 (ieq a0 31) (o6 (lat a1 0) fun x=>some (.inr ((2,0),ieq x.1 5))) (some (.inl (0,0)))) (l7 (ieq a0 32)
 (o6 (lat a1 0) fun x=>some (.inr ((2,0),ieq x.1 5))) (some (.inl (0,0)))))))))))))))))) fun o=>
 X6 o (fun(x:I7)=>some ((0,0),false)) fun r=>some r
def c1A:FSpec:=mkS b0i b1J fun x=>fQ x.1 x.2
def a9Q:List MG:=[(true,(.dat y0)),(false,(.dat y19)),(true,(.dat y69))]
def b1r:Ret:=⟨[(.cell 6 98,(true,(.dat y0))),(.tmp 7,uiM)],[]⟩
def c5u:Env:=⟨125,eqs,tt,gl,[(170,c1w),(171,c1x),(172,b4v),(173,c1y),(174,c1z),(175,b4w),(176,c1A)],[],[],[],[],[]⟩
def b6j:Ann:=.seq lfA (.seq (.joinR [(6,8),(10,114),(4000384,4000385)] ⟨[(6,(false,(.box (.dat y0))))],[]⟩ (.seq lfA (.blk (.seq lfA (.cond lfA (.seq lfA (.cond lfA (.seq lfA (.cond lfA (.seq lfA (.cond lfA (.seq lfA (.cond lfA (.seq lfA (.cond lfA (.seq lfA (.cond lfA (.seq lfA (.cond lfA (.seq lfA (.cond lfA (.seq (.join [(83,86)] ⟨[(83,ubM)],[]⟩ lfA) (.cond lfA (.seq (.join [(94,100)] ⟨[(94,ubM)],[]⟩ lfA) lfA)))))))))))))))))))))))) lfA)
def U0 (a0:I7) (a1:List I7) (a2:H7):Option (I7×Int):=o6 (l7 (ieq a0.1 1) (o6 (dA a0.2 1
 a2) fun x=>some (.inr x)) (l7 (ieq a0.1 2) (o6 (dA a0.2 2 a2) fun x=>some (.inr x))
 (l7 (ieq a0.1 3) (o6 (dA a0.2 3 a2) fun x=>some (.inr x)) (l7 (ieq a0.1 4) (o6 (dA a0.2
 4 a2) fun x=>some (.inr x)) (l7 (ieq a0.1 5) (o6 (dA a0.2 5 a2) fun x=>some (.inr x))
 (l7 (ieq a0.1 6) (o6 (sU a0.2 a2) fun x=>some (.inr x)) (l7 (ieq a0.1 7) (o6 (bU a0.2
 a2.2.2.1 a2) fun x=>some (.inr x)) (l7 (ieq a0.1 8) (o6 (bU a0.2 a2.2.2.2.1 a2) fun x=>some
 (.inr x)) (l7 (ieq a0.1 9) (some (.inr ((5,0),0))) (o6 (l7 (ieq a0.1 33) (some (ieq a0.1 33)) (some (ieq a0.1 34))) fun x
 =>l7 x (o6 (lat a1 0) fun x=>o6 (jV a0 x a2) fun x=>some (.inr x)) (o6 (l7 (ieq a0.1 35)
 (some (ieq a0.1 35)) (l7 (ieq a0.1 36) (some (ieq a0.1 36)) (l7 (ieq a0.1 37) (some (ieq a0.1 37)) (l7 (ieq a0.1 38) (some (ieq a0.1 38))
 (some (ieq a0.1 39)))))) fun x=>l7 x (o6 (iT a0 a2) fun x=>some (.inr x)) (l7 (ieq a0.1 14)
 (l7 (ieq a0.1 14) (o6 (eP a0.2) fun x=>l7 (E5 x) (some (.inr ((0,0),3))) (some (.inl (0,0)))) (some
 (.inl (0,0)))) (l7 (ieq a0.1 15) (l7 (ieq a0.1 15) (o6 (eP a0.2) fun x=>l7 (E5 x) (some (.inr ((0,0),
 3))) (some (.inl (0,0)))) (some (.inl (0,0)))) (l7 (ieq a0.1 16) (o6 (eP a0.2) fun x=>l7 (E5 x) (some
 (.inr ((0,0),3))) (some (.inl (0,0)))) (some (.inl (0,0))))))))))))))))) fun o=>X6 o (fun(x:I7)=>
 o6 (fQ a0.1 a1) fun x=>l7 (E5 x.2) (some ((0,0),8)) (some (x.1,0))) fun r=>some r
def c1l:FSpec:=mkS a9Q b1r fun x=>U0 x.1 x.2.1 x.2.2
def a9F:List MG:=[(false,(.dat y19)),(true,(.dat y69))]
def b1g:Ret:=⟨[(.cell 4 98,(true,(.dat y0))),(.tmp 5,uiM),(.tmp 6,uiM)],[]⟩
def c5i:Env:=⟨75,eqs,tt,gl,[(120,b4r),(150,b4s),(141,a2u),(151,c1l)],[],[],[],[],[]⟩
def b5X:Ann:=.seq lfA (.seq lfA (.seq lfA (.seq lfA (.seq (.seq lfA (.blk (.loopR [(4,7),(10,16),(29,72),(4000256,4000257)] ⟨[(4,(false,(.box (.dat y0)))),(10,(false,(.own y0))),(29,uiM)],[]⟩ 0 ⟨[(4,(false,(.box (.dat y0)))),(10,(false,(.own y0)))],[]⟩ lfA))) lfA))))
def wM (a0:List I7) (a1:H7):Option (I7×I7):=o6 (mD a0) fun x=>l7 (E5
 (ieq x.2.2 0)) (some ((0,0),x.2)) (o6 (U2 (fun(x:I7×List I7×Int)=>l7 (ilt x.2.2 (o8 a0)) (o6 (lat a0 x.2.2) fun(x_1:
 I7)=>l7 (E5 (ieq x_1.2 0)) (o6 (cu x_1.1) fun x_2=>l7 (E5 x_2) (some (.rt ((0,0),x.2.2,2))) (o6
 (fO x_1.1) fun x_3=>l7 (jG (G8 .i64 (o8 x.2.1) x_3) (o8 x.2.1) (o8 x.2.1)) (o6 (U0 x_1 (gQ
 x.2.1 (toN (G8 .i64 (o8 x.2.1) x_3)) (toN (o8 x.2.1))) a1) fun x_4=>l7 (E5 (ieq x_4.2 0)) (some (.rt ((0,0),
 x.2.2,x_4.2))) (l7 (jG 0 (G8 .i64 (o8 x.2.1) x_3) (o8 x.2.1)) (o6 (dE (gQ x.2.1 (toN 0) (toN (G8 .i64 (o8
 x.2.1) x_3))) [x_4.1]) fun x_5=>some (.nx (x.1,x_5,A7 .i64 x.2.2 1))) none)) none)) (o6 (fO x_1.1) fun(x_2
 :Int)=>l7 (jG (G8 .i64 (o8 x.2.1) x_2) (o8 x.2.1) (o8 x.2.1)) (o6 (U0 x_1 (gQ x.2.1 (toN (G8 .i64
 (o8 x.2.1) x_2)) (toN (o8 x.2.1))) a1) fun x_3=>l7 (E5 (ieq x_3.2 0)) (some (.rt ((0,0),x.2.2,x_3.2))) (l7 (jG
 0 (G8 .i64 (o8 x.2.1) x_2) (o8 x.2.1)) (o6 (dE (gQ x.2.1 (toN 0) (toN (G8 .i64 (o8 x.2.1) x_2))) [x_3.1]) fun(x_4:
 List I7)=>some (.nx (x.1,x_4,A7 .i64 x.2.2 1))) none)) none)) (some (.ex (x.1,x.2.1)))) ((0,0),[],0)) fun o=>X6 o (fun(y:I7×List I7)=>o6 (lat y.2 0) fun x=>o6 (L8 y.2 (toN 0)) fun x=>
 some (x,0,0)) fun r=>some r)
def c1d:FSpec:=mkS a9F b1g fun x=>wM x.1 x.2
def a9v:List MG:=[(false,(.dat y19)),(true,(.dat y69)),(true,(.dat y0))]
def b0W:Ret:=⟨[(.tmp 6,uiM)],[]⟩
def c4X:Env:=⟨23,eqs,tt,gl,[(128,c1d)],[],[],[],[],[]⟩
def b5M:Ann:=.leaf
def lw (a0:List I7) (a1:H7) (a2:I7):Option Int:=o6 (wM a0 a1) fun x=>l7 (E5
 (ieq x.2.2 0)) (some x.2.2) (l7 (E5 (V8 (ieq x.1.1 a2.1) (ieq x.1.2 a2.2))) (some 8) (some 0))
def c0U:FSpec:=mkS a9v b0W fun x=>lw x.1 x.2.1 x.2.2
def b9e:List MG:=[(true,(.dat y31)),uiM,(true,(.dat y69))]
def c0F:Ret:=⟨[(.tmp 6,uiM)],[]⟩
def e83:Env:=⟨145,eqs,tt,gl,[(49,s49),(106,Yt),(105,a5S),(107,c0T),(108,c0U)],[],[],[],[],[]⟩
def c4H:Ann:=.seq lfA (.seq lfA (.seq lfA (.seq (.seq lfA (.blk (.loop [(8,9),(10,11),(22,34)] ⟨[(8,uiM),(22,uiM)],[]⟩ 0 ⟨[(8,uiM)],[]⟩ lfA))) (.seq (.joinR [(6,8),(34,122),(7000448,7000449)] ⟨[(7,(false,(.rp y26)))],[]⟩ (.blk (.seq lfA (.cond lfA (.seq lfA (.cond lfA (.seq (.join [(46,58)] ⟨[(46,ubM)],[]⟩ lfA) (.cond lfA (.seq (.join [(58,85)] ⟨[(58,ubM)],[]⟩ lfA) (.cond lfA (.seq (.join [(85,94)] ⟨[(85,ubM)],[]⟩ lfA) lfA))))))))))) lfA))))
def sW (a0:x9) (a1:Int) (a2:H7):Option Int:=o6 (lat a0.2.2.2.2 a1) fun x=>o6 (AU a0.2.2.2.2 0 a1)
 fun x_1=>o6 (X5 (fun(x_2:I7)=>l7 (ilt x_2.2 (o8 x_1)) (o6 (lat x_1 x_2.2) fun x_3=>l7 (ieq
 x_3.2.1 x.2.1) (some (.inl (A7 .i64 x_2.1 1,A7 .i64 x_2.2 1))) (some (.inl (x_2.1,A7 .i64 x_2.2 1)))) (some
 (.inr x_2.1))) (0,0)) fun y=>o6 (o6 (aB x.1) fun x_2=>l7 (E5 x_2) (some (.inr 2)) (o6 (AU
 a0.2.2.2.2 0 a1) fun x_3=>o6 (Z8 x_3 x) fun x_4=>l7 x_4 (some (.inr 7))
 (o6 (l7 (ilt x.2.1 0) (some true) (some (ile (o8 a0.2.2.2.1) x.2.1))) fun x_5=>l7 x_5 (some (.inr 6)) (o6 (l7 (E5
 (ieq x.2.2.1 (-1))) (l7 (ilt x.2.2.1 0) (some true) (l7 (ile a1 x.2.2.1) (some true) (o6 (lat a0.2.2.2.2 x.2.2.1) fun x_6=>some
 (E5 (ieq x_6.2.1 x.2.1))))) (some false)) fun x_6=>l7 x_6 (some (.inr 9)) (o6 (l7 (ilt x.2.2.2.1 0) (some true) (some (ilt 9
 x.2.2.2.1))) fun x_7=>l7 x_7 (some (.inr 3)) (l7 (ilt x.2.2.2.2.1.1 0) (some (.inr 3)) (l7 (ile x.2.2.2.2.1.2
 x.2.2.2.2.1.1) (some (.inr 3)) (l7 (ilt 109573 x.2.2.2.2.1.2) (some (.inr 3)) (l7 (ile 8 y) (some (.inr 4)) (o6 (pK
 x.2.2.2.2.2.2.2) fun x_8=>l7 (E5 x_8) (some (.inr 2)) (some (.inl x)))))))))))) fun o=>X6 o (fun(x:
 J6)=>l7 (ilt 0 (o8 x.2.2.2.2.2.1)) (o6 (lw x.2.2.2.2.2.1 a2 (1,0)) fun x_2=>l7 (E5 (ieq x_2 0)) (some x_2)
 (o6 (lat a0.2.2.2.1 x.2.1) fun x_3=>o6 (lw x.2.2.2.2.2.2.1 a2 x_3.2) fun x=>some x)) (o6 (lat a0.2.2.2.1
 x.2.1) fun x_2=>o6 (lw x.2.2.2.2.2.2.1 a2 x_2.2) fun x=>some x)) fun r=>some r
def s83:FSpec:=mkS b9e c0F fun x=>sW x.1 x.2.1 x.2.2
def c6E:List MG:=[(false,(.ownb (.int .i64)))]
def s87:FSpec:=⟨c6E,[],[uoM],fun x=>uP x⟩
def c6F:List MG:=[uoM]
def s88:FSpec:=⟨c6F,[uoM],[],fun x=>iW x⟩
def b9h:List MG:=[uoM]
def c0I:Ret:=⟨[(.tmp 2,uoM)],[]⟩
def e86:Env:=⟨7,eqs,tt,gl,[(87,s87),(88,s88)],[],[],[],[],[]⟩
def c4K:Ann:=.leaf
def lq (a0:List Int):Option (List Int):=o6 (uP a0) fun x=>o6 (iW x) fun x=>some x
def s86:FSpec:=mkS b9h c0I fun x=>lq x
def b8N:List MG:=[(false,(.dat y19))]
def c0n:Ret:=⟨[(.tmp 2,uoM),(.tmp 3,uoM),(.tmp 4,uoM)],[]⟩
def e58:Env:=⟨49,eqs,tt,gl,[(86,s86)],[],[],[],[],[]⟩
def c4p:Ann:=.seq lfA (.seq lfA (.seq (.seq lfA (.blk (.loop [(5,8),(9,10),(12,43)] ⟨[(5,uoM),(6,uoM),(7,uoM),(12,uiM)],[]⟩ 0 ⟨[(5,uoM),(6,uoM),(7,uoM)],[]⟩ lfA))) lfA))
def fP (a0:List I7):Option dH:=o6 (X5 (fun(x:List Int×List Int×List Int×Int)=>l7 (ilt x.2.2.2
 (o8 a0)) (o6 (lat a0 x.2.2.2) fun x_1=>l7 (ieq x_1.1 7) (o6 (dE x.1 [x_1.2]) fun x_2=>some (.inl (x_2,
 x.2.1,x.2.2.1,A7 .i64 x.2.2.2 1))) (l7 (ieq x_1.1 8) (o6 (dE x.2.1 [x_1.2]) fun x_2=>some (.inl (x.1,x_2,
 x.2.2.1,A7 .i64 x.2.2.2 1))) (l7 (ieq x_1.1 36) (l7 (ieq x_1.1 36) (o6 (dE x.2.2.1 [x_1.2]) fun x_2=>some
 (.inl (x.1,x.2.1,x_2,A7 .i64 x.2.2.2 1))) (some (.inl (x.1,x.2.1,x.2.2.1,A7 .i64 x.2.2.2 1)))) (l7 (ieq x_1.1 37)
 (l7 (ieq x_1.1 37) (o6 (dE x.2.2.1 [x_1.2]) fun x_2=>some (.inl (x.1,x.2.1,x_2,A7 .i64 x.2.2.2 1))) (some
 (.inl (x.1,x.2.1,x.2.2.1,A7 .i64 x.2.2.2 1)))) (l7 (ieq x_1.1 38) (l7 (ieq x_1.1 38) (o6 (dE x.2.2.1 [x_1.2]) fun(x_2:
 List Int)=>some (.inl (x.1,x.2.1,x_2,A7 .i64 x.2.2.2 1))) (some (.inl (x.1,x.2.1,x.2.2.1,A7 .i64 x.2.2.2 1)))) (l7
 (ieq x_1.1 39) (o6 (dE x.2.2.1 [x_1.2]) fun x_2=>some (.inl (x.1,x.2.1,x_2,A7 .i64 x.2.2.2 1))) (some (.inl
 (x.1,x.2.1,x.2.2.1,A7 .i64 x.2.2.2 1))))))))) (some (.inr (x.1,x.2.1,x.2.2.1)))) ([],[],[],0)) fun y=>o6
 (lq y.1) fun x=>o6 (lq y.2.1) fun x_1=>o6 (lq y.2.2) fun x_2=>
 some (x,x_1,x_2)
def s58:FSpec:=mkS b8N c0n fun x=>fP x
def b9g:List MG:=[(true,(.dat y26)),uiM]
def c0H:Ret:=⟨[(.tmp 4,uoM)],[]⟩
def e85:Env:=⟨67,eqs,tt,gl,[(58,s58)],[],[],[],[],[]⟩
def c4J:Ann:=.seq lfA (.seq lfA (.seq lfA (.seq lfA (.seq (.seq lfA (.blk (.loop [(5,6),(13,14),(32,48)] ⟨[(5,uoM),(32,uiM)],[]⟩ 0 ⟨[(5,uoM)],[]⟩ lfA))) (.seq (.seq lfA (.blk (.loop [(5,6),(15,16),(50,66),(21000000,21000001)] ⟨[(5,uoM),(50,uiM)],[]⟩ 2 ⟨[(5,uoM)],[]⟩ lfA))) lfA)))))
def kL (a0:J6) (a1:Int):Option (List Int):=o6 (fP a0.2.2.2.2.2.1) fun x=>o6
 (fP a0.2.2.2.2.2.2.1) fun x_1=>o6 (X5 (fun(x_2:List Int×Int)=>l7 (ilt x_2.2 (o8 x.2.1)) (o6
 (lat x.2.1 x_2.2) fun x_3=>o6 (L8 x.2.1 (toN x_2.2)) fun x=>l7 (ile 0 x) (l7 (ilt x a1) (o6 (dE x_2.1 [x]) fun(x
 :List Int)=>some (.inl (x,A7 .i64 x_2.2 1))) (some (.inl (x_2.1,A7 .i64 x_2.2 1)))) (some (.inl (x_2.1,A7
 .i64 x_2.2 1)))) (some (.inr x_2.1))) ([],0)) fun y=>o6 (X5 (fun(x:List Int×Int)=>l7 (ilt x.2 (o8
 x_1.2.1)) (o6 (lat x_1.2.1 x.2) fun x_2=>o6 (L8 x_1.2.1 (toN x.2)) fun x_3=>l7 (ile 0 x_3) (l7 (ilt x_3 a1) (o6
 (dE x.1 [x_3]) fun x_4=>some (.inl (x_4,A7 .i64 x.2 1))) (some (.inl (x.1,A7 .i64 x.2 1)))) (some (.inl
 (x.1,A7 .i64 x.2 1)))) (some (.inr x.1))) (y,0)) fun y=>some y
def s85:FSpec:=mkS b9g c0H fun x=>kL x.1 x.2
def b8O:List MG:=[uoM]
def c0o:Ret:=⟨[(.tmp 2,uoM)],[]⟩
def e59:Env:=⟨7,eqs,tt,gl,[(87,s87),(88,s88)],[],[],[],[],[]⟩
def c4q:Ann:=.leaf
def qH (a0:List Int):Option (List Int):=o6 (uP a0) fun x=>o6 (iW x) fun x=>some x
def s59:FSpec:=mkS b8O c0o fun x=>qH x
def b8M:List MG:=[(true,(.dat y31))]
def c0l:Ret:=⟨[(.tmp 2,(false,(.dat y64)))],[]⟩
def e57:Env:=⟨58,eqs,tt,gl,[(85,s85),(59,s59)],[(150,oiM)],[7,36,50,53],[],[],[]⟩
def c4o:Ann:=.seq lfA (.seq lfA (.seq (.seq lfA (.blk (.loop [(3,4),(5,6),(15,44),(7000704,7000705)] ⟨[(3,(false,(.owns oiM))),(15,uiM)],[]⟩ 0 ⟨[(3,(false,(.owns oiM)))],[]⟩ lfA))) (.seq (.seq lfA (.blk (.loop [(3,4),(6,8),(44,45),(46,57),(15000000,15000001)] ⟨[(3,(false,(.owns oiM))),(46,uiM)],[(44,3)]⟩ 2 ⟨[(3,(false,(.owns oiM)))],[]⟩ lfA))) lfA)))
def jT (a0:x9):Option (List (List Int)):=o6 (jH (o8 a0.2.2.2.1) []) fun x=>o6 (X5 (fun(x:
 List (List Int)×Int)=>l7 (ilt x.2 (o8 a0.2.2.2.2)) (o6 (lat a0.2.2.2.2 x.2) fun x_1=>l7 (ile 0 x_1.2.1) (l7 (ilt
 x_1.2.1 (o8 x.1)) (l7 (inb x_1.2.1 (o8 x.1)) (o6 (L8 x.1 (toN x_1.2.1)) fun x_2=>o6 (kL x_1 (o8 x.1))
 fun x_3=>o6 (dE x_2 x_3) fun x_4=>l7 (inb x_1.2.1 (o8 x.1)) (l7 (Et (toN x_1.2.1) (toN x_1.2.1)) (o6
 (L8 x.1 (toN x_1.2.1)) fun x_5=>some (.inl (U5 x.1 (toN x_1.2.1) x_4,A7 .i64 x.2 1))) none) none) none) (some
 (.inl (x.1,A7 .i64 x.2 1)))) (some (.inl (x.1,A7 .i64 x.2 1)))) (some (.inr x.1))) (x,0)) fun y=>
 o6 (X5 (fun(x:List (List Int)×Int)=>l7 (ilt x.2 (o8 y)) (l7 (inb x.2 (o8 x.1)) (o6 (L8 x.1 (toN x.2)) fun x_1=>o6 (qH x_1) fun x_2=>l7 (inb x.2 (o8 x.1)) (l7 (Et (toN x.2) (toN x.2)) (o6 (L8 x.1 (toN x.2))
 fun x_3=>some (.inl (U5 x.1 (toN x.2) x_2,A7 .i64 x.2 1))) none) none) none) (some (.inr x.1))) (y,0)) fun(y:
 List (List Int))=>some y
def s57:FSpec:=mkS b8M c0l fun x=>jT x
def b8L:List MG:=[(false,(.dat y64)),uiM]
def c0k:Ret:=⟨[(.tmp 4,uoM)],[]⟩
def e56:Env:=⟨62,eqs,tt,gl,[],[],[],[],[],[]⟩
def c4n:Ann:=.seq lfA (.seq lfA (.seq lfA (.seq (.blk (.loop [(5,8),(9,10),(18,48),(7000960,7000961),(10001088,10001089)] ⟨[(5,(false,(.own .bool))),(6,uoM)],[]⟩ 0 ⟨[(5,(false,(.own .bool)))],[]⟩ (.seq lfA (.blk (.seq lfA (.seq lfA (.seq lfA (.blk (.loop [(5,7),(9,10),(31,48),(14000000,14000002)] ⟨[(5,(false,(.own .bool))),(6,uoM),(31,uiM)],[]⟩ 2 ⟨[(5,(false,(.own .bool))),(6,uoM)],[]⟩ lfA))))))))) (.seq lfA (.seq (.seq lfA (.blk (.loop [(10,13),(50,61)] ⟨[(10,uoM),(50,uiM)],[]⟩ 4 ⟨[(10,uoM)],[]⟩ lfA))) lfA)))))
def nG (a0:List (List Int)) (a1:Int):Option (List Int):=o6 (jH (o8 a0) false) fun x=>o6 (X5 (fun(x:
 List Bool×List Int)=>l7 (ilt 0 (o8 x.2)) (o6 (lat x.2 0) fun x_1=>o6 (L8 x.2 (toN 0)) fun x_2=>l7 (jG 1
 (o8 x.2) (o8 x.2)) (o6 (lat a0 x_2) fun x_3=>o6 (X5 (fun(x:List Bool×List Int×Int)=>l7 (ilt x.2.2 (o8 x_3))
 (o6 (lat x_3 x.2.2) fun x_4=>o6 (lat x.1 x_4) fun x_5=>o6 (L8 x.1 (toN x_4)) fun x_6=>l7 (E5 x_6)
 (o6 (lat x.1 x_4) fun x_7=>o6 (L8 x.1 (toN x_4)) fun x_8=>o6 (dE x.2.1 [x_4]) fun x_9=>some
 (.inl (U5 x.1 (toN x_4) true,x_9,A7 .i64 x.2.2 1))) (some (.inl (x.1,x.2.1,A7 .i64 x.2.2 1)))) (some (.inr (x.1,
 x.2.1)))) (x.1,gQ x.2 (toN 1) (toN (o8 x.2)),0)) fun y=>some (.inl y)) none) (some (.inr x.1))) (x,[a1]))
 fun y=>o6 (X5 (fun(x:List Int×Int)=>l7 (ilt x.2 (o8 y)) (o6 (lat y x.2) fun x_1=>o6 (L8 y (toN
 x.2)) fun x_2=>l7 x_2 (o6 (dE x.1 [x.2]) fun x_3=>some (.inl (x_3,A7 .i64 x.2 1))) (some (.inl
 (x.1,A7 .i64 x.2 1)))) (some (.inr x.1))) ([],0)) fun y=>some y
def s56:FSpec:=mkS b8L c0k fun x=>nG x.1 x.2
def b8v:List MG:=[(true,(.dat y31)),uiM]
def b9S:Ret:=⟨[(.tmp 4,uoM)],[]⟩
def e40:Env:=⟨18,eqs,tt,gl,[(57,s57),(56,s56)],[],[],[],[],[]⟩
def c3X:Ann:=.leaf
def dP (a0:x9) (a1:Int):Option (List Int):=l7 (ilt a1 0) (some []) (l7 (ile (o8 a0.2.2.2.1) a1) (some []) (o6
 (jT a0) fun x=>o6 (nG x a1) fun x=>some x))
def s40:FSpec:=mkS b8v b9S fun x=>dP x.1 x.2
def a9w:List MG:=[(false,(.dat y46)),uiM]
def b0X:Ret:=⟨[(.tmp 4,uiM)],[]⟩
def c4Y:Env:=⟨19,eqs,tt,gl,[],[],[],[],[],[]⟩
def b5N:Ann:=.seq lfA (.seq (.seq lfA (.blk (.loopR [(4,6),(8,19)] ⟨[(8,uiM)],[]⟩ 0 ⟨[],[]⟩ lfA))) lfA)
def ny (a0:List Int) (a1:Int):Option Int:=o6 (U2 (fun(x:Int)=>l7 (ilt x (o8 a0)) (o6 (lat a0 x) fun(x_1
 :Int)=>l7 (ieq a1 x_1) (some (.rt x)) (some (.nx (A7 .i64 x 1)))) (some (.ex ()))) 0) fun o=>X6 o
 (fun(y:PUnit)=>some (-1)) fun r=>some r
def c0V:FSpec:=mkS a9w b0X fun x=>ny x.1 x.2
def b9f:List MG:=[(false,(.dat y46)),uiM]
def c0G:Ret:=⟨[(.tmp 4,ubM)],[]⟩
def e84:Env:=⟨9,eqs,tt,gl,[(109,c0V)],[],[],[],[],[]⟩
def c4I:Ann:=.leaf
def fJ (a0:List Int) (a1:Int):Option Bool:=o6 (ny a0 a1) fun x=>some (ile 0 x)
def s84:FSpec:=mkS b9f c0G fun x=>fJ x.1 x.2
def b8H:List MG:=[(true,(.dat y34)),uiM]
def c0g:Ret:=⟨[(.tmp 4,uiM),(.tmp 5,uiM)],[]⟩
def e52:Env:=⟨163,eqs,tt,gl,[(50,s50),(51,s51),(80,a6e),(79,b2B),(49,s49),(81,s81),(82,s82),(83,s83),(40,s40),(84,s84)],[],[],[],[],[]⟩
def c4j:Ann:=.seq lfA (.seq lfA (.seq lfA (.seq (.join [(6,7),(8,9),(28,45),(7000384,7000385)] ⟨[(6,(false,(.rp y31))),(8,ubM)],[]⟩ lfA) (.seq (.joinR [(4,6),(45,86)] ⟨[],[]⟩ (.blk (.seq lfA (.cond lfA (.seq lfA (.cond lfA (.seq (.join [(52,76)] ⟨[(52,ubM)],[]⟩ lfA) lfA))))))) (.seq (.seq lfA (.blk (.loopR [(4,6),(9,12),(89,107)] ⟨[(89,uiM)],[]⟩ 1 ⟨[],[]⟩ lfA))) (.seq (.seq lfA (.blk (.loopR [(4,6),(12,15),(110,130)] ⟨[(110,uiM)],[]⟩ 3 ⟨[],[]⟩ lfA))) (.seq lfA (.seq (.seq lfA (.blk (.loopR [(4,6),(16,18),(136,149)] ⟨[(136,uiM)],[]⟩ 5 ⟨[],[]⟩ lfA))) (.seq (.seq lfA (.blk (.loopR [(4,6),(18,19),(152,163)] ⟨[(152,uiM)],[]⟩ 7 ⟨[],[]⟩ lfA))) lfA)))))))))
def qP (a0:J3) (a1:Int):Option I7:=o6 (lat a0.2.2 a1) fun x=>o6 (AU a0.2.2 0 a1) fun x_1
 =>o6 (o6 (qp a0.1 x.1) fun x_2=>l7 x_2 (some (x,true)) (o6 (qQ a0.2.1 x.1) fun x_3=>l7 x_3
 (some (x,true)) (o6 (Y5 x_1 x) fun x_4=>some (x,x_4)))) fun x=>o6 (o6
 (aB x.1.1) fun x_2=>l7 (E5 x_2) (some (.inr (2,0))) (l7 x.2 (some (.inr (7,0))) (o6 (l7 (E5 (ieq
 x.1.2.1 (-1))) (l7 (ilt x.1.2.1 0) (some true) (l7 (ile a1 x.1.2.1) (some true) (o6 (lat x_1 x.1.2.1) fun x=>some (E5 (ieq
 x.2.1 (-1)))))) (some false)) fun x_3=>l7 x_3 (some (.inr (6,0))) (l7 (ilt 12 (o8 x.1.2.2.1)) (some (.inr (4,112))) (l7
 (ilt 12 (o8 x.1.2.2.2.1)) (some (.inr (4,212))) (some (.inl ()))))))) fun o=>X6 o (fun(x_2:PUnit)=>o6
 (U2 (fun(x_3:Int)=>l7 (ilt x_3 (o8 x.1.2.2.1)) (o6 (lat x.1.2.2.1 x_3) fun x_4=>o6 (AU x.1.2.2.1 0 x_3) fun(x:
 List Y9)=>o6 (mM a0 x_4 x []) fun x=>l7 (E5 (ieq x 0)) (some (.rt (x,A7 .i64 100 x_3))) (some
 (.nx (A7 .i64 x_3 1)))) (some (.ex ()))) 0) fun o=>X6 o (fun(y:PUnit)=>o6 (U2 (fun(x_3:
 Int)=>l7 (ilt x_3 (o8 x.1.2.2.2.1)) (o6 (lat x.1.2.2.2.1 x_3) fun x_4=>o6 (AU x.1.2.2.2.1 0 x_3) fun x_5
 =>o6 (mM a0 x_4 x.1.2.2.1 x_5) fun x=>l7 (E5 (ieq x 0)) (some (.rt (x,A7 .i64 200 x_3))) (some (.nx
 (A7 .i64 x_3 1)))) (some (.ex ()))) 0) fun o=>X6 o (fun(y:PUnit)=>o6 (jO a0 a1)
 fun x_3=>o6 (U2 (fun(x_4:Int)=>l7 (ilt x_4 (o8 x.1.2.2.2.2)) (o6 (sW x.1 x_4 x_3) fun x=>
 l7 (E5 (ieq x 0)) (some (.rt (x,A7 .i64 300 x_4))) (some (.nx (A7 .i64 x_4 1)))) (some (.ex ()))) 0) fun(o
 :PUnit⊕I7)=>X6 o (fun(y:PUnit)=>o6 (U2 (fun(x_4:Int)=>l7 (ilt x_4 (o8 x.1.2.2.2.1)) (o6 (dP x.1 x_4)
 fun x=>o6 (fJ x x_4) fun x=>l7 x (some (.rt (9,A7 .i64 200 x_4))) (some (.nx
 (A7 .i64 x_4 1)))) (some (.ex ()))) 0) fun o=>X6 o (fun(y:PUnit)=>some (0,0)) fun r=>some
 r) fun r=>some r) fun r=>some r) fun r=>some r) fun r=>some r
def s52:FSpec:=mkS b8H c0g fun x=>qP x.1 x.2
def b8q:List MG:=[(true,(.dat y34))]
def b9N:Ret:=⟨[(.cell 2 61,(true,(.dat y40)))],[]⟩
def e32:Env:=⟨31,eqs,tt,gl,[(52,s52)],[],[],[],[],[]⟩
def c3R:Ann:=.seq lfA (.seq lfA (.seq (.seq lfA (.blk (.loopR [(2,6),(14,30),(4000128,4000129)] ⟨[(2,(false,(.box (.dat y40)))),(14,uiM)],[]⟩ 0 ⟨[(2,(false,(.box (.dat y40))))],[]⟩ lfA))) lfA))
def pI (a0:J3):Option X4:=l7 (ilt 4 (o8 a0.2.2)) (some (4,3,4,0)) (o6 (U2 (fun(x:X4×Int)=>
 l7 (ilt x.2 (o8 a0.2.2)) (o6 (qP a0 x.2) fun x_1=>l7 (E5 (ieq x_1.1 0)) (some (.rt (x_1.1,3,x.2,x_1.2)))
 (some (.nx (x.1,A7 .i64 x.2 1)))) (some (.ex x.1))) ((0,0,0,0),0)) fun o=>X6 o (fun(y:
 X4)=>some (0,0,0,0)) fun r=>some r)
def s32:FSpec:=mkS b8q b9N fun x=>pI x
def b8b:List MG:=[(true,(.dat y34))]
def b9z:Ret:=⟨[(.cell 2 61,(true,(.dat y40)))],[]⟩
def e18:Env:=⟨19,eqs,tt,gl,[(30,s30),(31,s31),(32,s32)],[],[],[],[],[]⟩
def c3B:Ann:=.leaf
def nU (a0:J3):Option X4:=o6 (qO a0) fun x=>l7 (E5 (ieq x.1 0)) (some x) (o6
 (pJ a0) fun x=>l7 (E5 (ieq x.1 0)) (some x) (o6 (pI a0) fun x=>some x))
def s18:FSpec:=mkS b8b b9z fun x=>nU x
def b8I:List MG:=[(false,(.dat (.sl .str))),(false,(.dat (.sl .str)))]
def c0h:Ret:=⟨[(.tmp 4,ubM)],[]⟩
def e53:Env:=⟨26,eqs,tt,gl,[],[],[],[],[],[]⟩
def c4k:Ann:=.seq lfA (.seq lfA (.seq (.seq lfA (.blk (.loopR [(4,6),(13,26)] ⟨[(13,uiM)],[]⟩ 0 ⟨[],[]⟩ lfA))) lfA))
def dK (a0:List (List UInt8)) (a1:List (List UInt8)):Option Bool:=l7 (E5 (ieq (o8 a0) (o8 a1))) (some false)
 (o6 (U2 (fun(x:Int)=>l7 (ilt x (o8 a0)) (o6 (lat a0 x) fun x_1=>o6 (lat a1 x) fun x_2=>l7
 (E5 (seq x_1 x_2)) (some (.rt false)) (some (.nx (A7 .i64 x 1)))) (some (.ex ()))) 0) fun o=>X6 o
 (fun(y:PUnit)=>some true) fun r=>some r)
def s53:FSpec:=mkS b8I c0h fun x=>dK x.1 x.2
def b8r:List MG:=[(true,(.dat y9)),(true,(.dat y9))]
def b9O:Ret:=⟨[(.tmp 4,ubM)],[]⟩
def e34:Env:=⟨17,eqs,tt,gl,[(53,s53)],[],[],[],[],[]⟩
def c3S:Ann:=.leaf
def nV (a0:bP) (a1:bP):Option Bool:=l7 (seq a0.1 a1.1) (o6 (dK a0.2 a1.2) fun x=>
 some x) (some false)
def s34:FSpec:=mkS b8r b9O fun x=>nV x.1 x.2
def a4Q:List MG:=[(false,(.dat y10)),(false,(.dat y10)),(false,(.fn 34 []))]
def a5A:Ret:=⟨[(.tmp 6,ubM)],[]⟩
def b7t:Env:=⟨32,eqs,tt,gl,[(34,s34)],[],[],[],[],[]⟩
def b2X:Ann:=.seq lfA (.seq lfA (.seq (.seq lfA (.blk (.loopR [(6,10),(17,32)] ⟨[(17,uiM)],[]⟩ 0 ⟨[],[]⟩ lfA))) lfA))
def O8 (a0:List bP) (a1:List bP) (a2:Unit):Option Bool:=l7 (E5 (ieq (o8 a0)
 (o8 a1))) (some false) (o6 (U2 (fun(x:Int)=>l7 (ilt x (o8 a0)) (o6 (lat a0 x) fun x_1=>o6 (lat a1 x) fun(x_2:
 bP)=>o6 (nV x_1 x_2) fun x_3=>l7 (E5 x_3) (some (.rt false)) (some (.nx (A7 .i64 x 1)))) (some
 (.ex ()))) 0) fun o=>X6 o (fun(y:PUnit)=>some true) fun r=>some r)
def b2u:FSpec:=mkS a4Q a5A fun x=>O8 x.1 x.2.1 x.2.2
def b8J:List MG:=[(false,(.dat y12)),(false,(.dat y12))]
def c0i:Ret:=⟨[(.tmp 4,ubM)],[]⟩
def e54:Env:=⟨26,eqs,tt,gl,[],[],[],[],[],[]⟩
def c4l:Ann:=.seq lfA (.seq lfA (.seq (.seq lfA (.blk (.loopR [(4,6),(13,26)] ⟨[(13,uiM)],[]⟩ 0 ⟨[],[]⟩ lfA))) lfA))
def bY (a0:List tH) (a1:List tH):Option Bool:=l7 (E5 (ieq (o8 a0) (o8 a1))) (some false) (o6 (U2
 (fun(x:Int)=>l7 (ilt x (o8 a0)) (o6 (lat a0 x) fun x_1=>o6 (lat a1 x) fun x_2=>l7 (E5 (V8 (ieq x_1.1.1
 x_2.1.1) (V8 (ieq x_1.1.2 x_2.1.2) (V8 (ieq x_1.2.1 x_2.2.1) (V8 (ieq x_1.2.2.1 x_2.2.2.1) (ieq x_1.2.2.2 x_2.2.2.2)))))) (some (.rt false))
 (some (.nx (A7 .i64 x 1)))) (some (.ex ()))) 0) fun o=>X6 o (fun(y:PUnit)=>some true) fun r
 =>some r)
def s54:FSpec:=mkS b8J c0i fun x=>bY x.1 x.2
def b8s:List MG:=[(true,(.dat y15)),(true,(.dat y15))]
def b9P:Ret:=⟨[(.tmp 4,ubM)],[]⟩
def e36:Env:=⟨31,eqs,tt,gl,[(54,s54)],[],[],[],[],[]⟩
def c3T:Ann:=.leaf
def lM (a0:ai) (a1:ai):Option Bool:=l7 (seq a0.1 a1.1) (l7 (V8 (ieq a0.2.1.1 a1.2.1.1) (ieq a0.2.1.2 a1.2.1.2))
 (l7 (V8 (ieq a0.2.2.1.1 a1.2.2.1.1) (ieq a0.2.2.1.2 a1.2.2.1.2)) (o6 (bY a0.2.2.2 a1.2.2.2) fun x=>some
 x) (some false)) (some false)) (some false)
def s36:FSpec:=mkS b8s b9P fun x=>lM x.1 x.2
def a4R:List MG:=[(false,(.dat y16)),(false,(.dat y16)),(false,(.fn 36 []))]
def a5B:Ret:=⟨[(.tmp 6,ubM)],[]⟩
def b7u:Env:=⟨32,eqs,tt,gl,[(36,s36)],[],[],[],[],[]⟩
def b2Y:Ann:=.seq lfA (.seq lfA (.seq (.seq lfA (.blk (.loopR [(6,10),(17,32)] ⟨[(17,uiM)],[]⟩ 0 ⟨[],[]⟩ lfA))) lfA))
def O6 (a0:List ai) (a1:List ai) (a2:Unit):Option Bool:=l7 (E5 (ieq (o8
 a0) (o8 a1))) (some false) (o6 (U2 (fun(x:Int)=>l7 (ilt x (o8 a0)) (o6 (lat a0 x) fun x_1=>o6 (lat a1 x) fun
 (x_2:ai)=>o6 (lM x_1 x_2) fun x_3=>l7 (E5 x_3) (some (.rt false)) (some (.nx (A7 .i64 x
 1)))) (some (.ex ()))) 0) fun o=>X6 o (fun(y:PUnit)=>some true) fun r=>some r)
def b2v:FSpec:=mkS a4R a5B fun x=>O6 x.1 x.2.1 x.2.2
def b8K:List MG:=[(false,(.dat y18)),(false,(.dat y18))]
def c0j:Ret:=⟨[(.tmp 4,ubM)],[]⟩
def e55:Env:=⟨26,eqs,tt,gl,[],[],[],[],[],[]⟩
def c4m:Ann:=.seq lfA (.seq lfA (.seq (.seq lfA (.blk (.loopR [(4,6),(13,26)] ⟨[(13,uiM)],[]⟩ 0 ⟨[],[]⟩ lfA))) lfA))
def Z5 (a0:List Y9) (a1:List Y9):Option Bool:=l7 (E5 (ieq (o8 a0) (o8 a1))) (some false) (o6
 (U2 (fun(x:Int)=>l7 (ilt x (o8 a0)) (o6 (lat a0 x) fun x_1=>o6 (lat a1 x) fun x_2=>l7 (E5 (V8
 (seq x_1.1 x_2.1) (V8 (ieq x_1.2.1 x_2.2.1) (ieq x_1.2.2 x_2.2.2)))) (some (.rt false)) (some (.nx (A7 .i64 x 1)))) (some (.ex
 ()))) 0) fun o=>X6 o (fun(y:PUnit)=>some true) fun r=>some r)
def s55:FSpec:=mkS b8K c0j fun x=>Z5 x.1 x.2
def b8t:List MG:=[(true,(.dat y31)),(true,(.dat y31))]
def b9Q:Ret:=⟨[(.tmp 4,ubM)],[]⟩
def e38:Env:=⟨31,eqs,tt,gl,[(55,s55)],[],[],[],[],[]⟩
def c3V:Ann:=.leaf
def lL (a0:x9) (a1:x9):Option Bool:=l7 (seq a0.1 a1.1) (l7 (ieq a0.2.1 a1.2.1) (o6
 (Z5 a0.2.2.1 a1.2.2.1) fun x=>l7 x (o6 (Z5 a0.2.2.2.1 a1.2.2.2.1) fun(x
 :Bool)=>some x) (some false)) (some false)) (some false)
def s38:FSpec:=mkS b8t b9Q fun x=>lL x.1 x.2
def a4S:List MG:=[(false,(.dat y32)),(false,(.dat y32)),(false,(.fn 38 []))]
def a5C:Ret:=⟨[(.tmp 6,ubM)],[]⟩
def b7v:Env:=⟨32,eqs,tt,gl,[(38,s38)],[],[],[],[],[]⟩
def b2Z:Ann:=.seq lfA (.seq lfA (.seq (.seq lfA (.blk (.loopR [(6,10),(17,32)] ⟨[(17,uiM)],[]⟩ 0 ⟨[],[]⟩ lfA))) lfA))
def O5 (a0:List x9) (a1:List x9) (a2:Unit):Option Bool:=l7 (E5 (ieq (o8
 a0) (o8 a1))) (some false) (o6 (U2 (fun(x:Int)=>l7 (ilt x (o8 a0)) (o6 (lat a0 x) fun x_1=>o6 (lat a1 x) fun
 (x_2:x9)=>o6 (lL x_1 x_2) fun x_3=>l7 (E5 x_3) (some (.rt false)) (some (.nx (A7 .i64 x
 1)))) (some (.ex ()))) 0) fun o=>X6 o (fun(y:PUnit)=>some true) fun r=>some r)
def b2w:FSpec:=mkS a4S a5C fun x=>O5 x.1 x.2.1 x.2.2
def b8c:List MG:=[(true,(.dat y34)),(true,(.dat y34))]
def b9A:Ret:=⟨[(.tmp 4,ubM)],[]⟩
def e19:Env:=⟨24,eqs,tt,gl,[(33,b2u),(35,b2v),(37,b2w)],[],[],[],[],[]⟩
def c3C:Ann:=.leaf
def iK (a0:J3) (a1:J3):Option Bool:=o6 (O8 a0.1 a1.1 ())
 fun x=>l7 x (o6 (O6 a0.2.1 a1.2.1 ()) fun x=>l7 x (o6
 (O5 a0.2.2 a1.2.2 ()) fun x=>some x) (some false)) (some false)
def s19:FSpec:=mkS b8c b9A fun x=>iK x.1 x.2
def b8P:List MG:=[(true,(.dat y34)),(false,(.dat y36)),(false,(.dat y18))]
def c0p:Ret:=⟨[(.tmp 6,uiM),(.tmp 7,uiM)],[]⟩
def e60:Env:=⟨71,eqs,tt,gl,[(67,s67)],[],[],[],[],[]⟩
def c4r:Ann:=.seq lfA (.seq lfA (.seq lfA (.seq (.seq lfA (.blk (.loopR [(6,13),(29,71)] ⟨[(29,uiM)],[]⟩ 0 ⟨[],[]⟩ lfA))) lfA)))
def eH (a0:J3) (a1:List L6) (a2:List Y9):Option I7:=l7 (ilt (o8 a1) (o8 a2)) (some (o8 a1,5))
 (l7 (ilt (o8 a2) (o8 a1)) (some (o8 a2,4)) (o6 (U2 (fun(x:Int)=>l7 (ilt x (o8 a1)) (o6 (lat a1 x) fun x_1=>
 o6 (lat a2 x) fun x_2=>l7 (E5 (ieq x_1.1 x_2.2.1)) (some (.rt (x,8))) (l7 (E5 (ieq x_1.2.1 x_2.2.2)) (some (.rt (x,
 8))) (o6 (jl x_2.2 a0.1) fun x_3=>l7 (ilt x_1.2.2 x_3.1) (some (.rt (x,3))) (l7 (ilt x_3.2 x_1.2.2) (some (.rt
 (x,3))) (some (.nx (A7 .i64 x 1))))))) (some (.ex ()))) 0) fun o=>X6 o (fun(y:PUnit)=>some (0,0))
 fun r=>some r))
def s60:FSpec:=mkS b8P c0p fun x=>eH x.1 x.2.1 x.2.2
def b8Q:List MG:=[(true,(.dat y34)),uiM]
def c0q:Ret:=⟨[(.tmp 4,(false,(.dat y18))),(.tmp 5,uiM)],[]⟩
def e61:Env:=⟨28,eqs,tt,gl,[],[],[],[],[],[]⟩
def c4s:Ann:=.leaf
def iH (a0:J3) (a1:Int):Option (List Y9×Int):=o6 (lat a0.2.2 a1) fun x=>l7 (ilt x.2.1 0) (some
 ([],0)) (l7 (ile (o8 a0.2.2) x.2.1) (some ([],0)) (o6 (lat a0.2.2 x.2.1) fun x=>some (x.2.2.1,8)))
def s61:FSpec:=mkS b8Q c0q fun x=>iH x.1 x.2
def b8z:List MG:=[(true,(.dat y34)),uiM,(true,(.dat y39))]
def b9W:Ret:=⟨[(.tmp 6,uiM),(.tmp 7,uiM),(.tmp 8,uiM)],[]⟩
def e44:Env:=⟨84,eqs,tt,gl,[(60,s60),(61,s61)],[],[],[],[],[]⟩
def c4b:Ann:=.seq lfA (.seq (.joinR [(6,9),(17,26)] ⟨[],[]⟩ lfA) (.seq (.joinR [(6,9),(26,34)] ⟨[],[]⟩ lfA) (.seq lfA (.seq lfA (.seq lfA (.seq (.seq lfA (.blk (.loopR [(6,9),(13,17),(66,84)] ⟨[(66,uiM)],[]⟩ 0 ⟨[],[]⟩ lfA))) lfA))))))
def lH (a0:J3) (a1:Int) (a2:aQ):Option L6:=o6 (l7 (ilt a1 0) (some (.inr (-1,-1,6))) (l7 (ile (o8
 a0.2.2) a1) (some (.inr (-1,-1,6))) (some (.inl ())))) fun o=>X6 o (fun(x:PUnit)=>o6 (l7 (ilt a2.1
 0) (some (.inr (-1,-1,3))) (l7 (ilt 109572 a2.1) (some (.inr (-1,-1,3))) (some (.inl ())))) fun o=>X6
 o (fun(x:PUnit)=>o6 (lat a0.2.2 a1) fun x=>o6 (eH a0 a2.2.1 x.2.2.1) fun x=>l7 (E5 (ieq
 x.2 0)) (some (-1,x)) (o6 (iH a0 a1) fun x=>l7 (ilt x.2 (o8 a2.2.2)) (some (x.2,-1,4)) (o6
 (U2 (fun(x_1:Int)=>l7 (ilt x_1 (o8 a2.2.2)) (o6 (lat a2.2.2 x_1) fun x_2=>o6 (eH a0 x_2 x.1)
 fun x=>l7 (E5 (ieq x.2 0)) (some (.rt (x_1,x))) (some (.nx (A7 .i64 x_1 1)))) (some (.ex ()))) 0) fun(o
 :PUnit⊕L6)=>X6 o (fun(y:PUnit)=>some (0,0,0)) fun r=>some r))) fun r=>some r) fun r=>some r
def s44:FSpec:=mkS b8z b9W fun x=>lH x.1 x.2.1 x.2.2
def b8j:List MG:=[(true,(.dat y34)),uiM,(true,(.dat y39)),ubM,uiM]
def b9G:Ret:=⟨[(.cell 10 49,(true,(.dat y40)))],[]⟩
def e25:Env:=⟨63,eqs,tt,gl,[(18,s18),(44,s44)],[],[],[],[],[]⟩
def c3J:Ann:=.seq lfA (.seq lfA (.seq (.joinR [(10,11),(21,49),(4000640,4000641)] ⟨[(10,(false,(.box (.dat y40))))],[]⟩ lfA) lfA))
def iJ (a0:J3) (a1:Int) (a2:aQ) (a3:Bool) (a4:Int):Option X4:=o6 (nU a0) fun(x:
 X4)=>l7 (E5 (ieq x.1 0)) (some (1,-1,-1,-1)) (o6 (l7 (ilt a1 0) (some (.inr (6,-1,-1,-1))) (l7 (ile (o8 a0.2.2)
 a1) (some (.inr (6,-1,-1,-1))) (l7 a3 (l7 (ilt a4 0) (some (.inr (6,-1,-1,-1))) (o6 (lat a0.2.2 a1) fun x=>l7
 (ile (o8 x.2.2.2.1) a4) (some (.inr (6,-1,-1,-1))) (some (.inl (0,0,0,0))))) (some (.inl (0,0,0,0)))))) fun o=>X6 o (fun(x:X4)=>o6 (lH a0 a1 a2) fun x=>l7 (E5 (ieq x.2.2 0)) (some (x.2.2,x.1,
 -1,-1)) (some (0,0,0,0))) fun r=>some r)
def s25:FSpec:=mkS b8j b9G fun x=>iJ x.1 x.2.1 x.2.2.1 x.2.2.2.1 x.2.2.2.2
def b8k:List MG:=[(true,(.dat y34)),uiM]
def b9H:Ret:=⟨[(.tmp 4,(false,(.box (.pair (.dat y31) (.pair (.dat y31) (.pair (.own .bool) (.own .bool)))))))],[]⟩
def e26:Env:=⟨52,eqs,tt,gl,[],[],[],[],[],[]⟩
def c3K:Ann:=.leaf
def pF (a0:J3) (a1:Int):Option S9:=o6 (lat a0.2.2 a1) fun x=>o6 (jH (o8 x.2.2.2.1) false) fun
 (x_1:List Bool)=>l7 (ile 0 x.2.1) (o6 (lat a0.2.2 x.2.1) fun x_2=>o6 (jH (o8 x_2.2.2.2.1) false) fun x_3
 =>some (x,x_2,x_1,x_3)) (some (x,([],0,[],[],[]),x_1,[]))
def s26:FSpec:=mkS b8k b9H fun x=>pF x.1 x.2
def b8w:List MG:=[(true,(.dat y31)),uiM]
def b9T:Ret:=⟨[(.tmp 4,uoM)],[]⟩
def e41:Env:=⟨95,eqs,tt,gl,[(57,s57),(56,s56),(58,s58),(59,s59)],[],[],[],[],[]⟩
def c3Y:Ann:=.seq lfA (.seq (.joinR [(4,5),(17,26)] ⟨[],[]⟩ lfA) (.seq lfA (.seq lfA (.seq (.seq lfA (.blk (.loop [(5,6),(7,8),(38,46),(17001856,17001857)] ⟨[(5,(false,(.own .bool))),(38,uiM)],[]⟩ 0 ⟨[(5,(false,(.own .bool)))],[]⟩ lfA))) (.seq lfA (.seq (.seq lfA (.blk (.loop [(8,9),(10,17),(49,93)] ⟨[(8,uoM),(49,uiM)],[]⟩ 2 ⟨[(8,uoM)],[]⟩ lfA))) lfA))))))
def kY (a0:x9) (a1:Int):Option (List Int):=o6 (l7 (ilt a1 0) (some (.inr [])) (l7 (ile (o8 a0.2.2.2.1) a1)
 (some (.inr [])) (some (.inl ())))) fun o=>X6 o (fun(x:PUnit)=>o6 (jH (o8 a0.2.2.2.1) false) fun
 (x:List Bool)=>o6 (lat x a1) fun x_1=>o6 (L8 x (toN a1)) fun x_2=>o6 (jT a0) fun x_3=>o6 (nG x_3 a1) fun x_4=>o6 (X5 (fun(x:List Bool×Int)=>l7 (ilt x.2 (o8 x_4)) (o6 (lat x_4
 x.2) fun x_5=>o6 (L8 x_4 (toN x.2)) fun x_6=>o6 (lat x.1 x_6) fun x_7=>o6 (L8 x.1 (toN x_6)) fun(x_8:
 Bool)=>some (.inl (U5 x.1 (toN x_6) true,A7 .i64 x.2 1))) (some (.inr x.1))) (U5 x (toN a1) true,0)) fun y=>
 o6 (X5 (fun(x:List Int×Int)=>l7 (ilt x.2 (o8 a0.2.2.2.2)) (o6 (lat a0.2.2.2.2 x.2) fun x_5=>l7 (ilt x_5.2.1 0)
 (some (.inl (x.1,A7 .i64 x.2 1))) (l7 (ile (o8 a0.2.2.2.1) x_5.2.1) (some (.inl (x.1,A7 .i64 x.2 1))) (o6 (lat y
 x_5.2.1) fun x_6=>o6 (L8 y (toN x_5.2.1)) fun x_7=>l7 (E5 x_7) (some (.inl (x.1,A7 .i64 x.2 1))) (o6
 (fP x_5.2.2.2.2.2.1) fun x_8=>o6 (fP x_5.2.2.2.2.2.2.1) fun x_9=>o6 (dE
 x.1 x_8.2.2) fun x_10=>o6 (dE x_10 x_9.2.2) fun x_11=>some (.inl (x_11,A7 .i64 x.2 1)))))) (some
 (.inr x.1))) ([],0)) fun y=>o6 (qH y) fun x=>some x) fun r=>some r
def s41:FSpec:=mkS b8w b9T fun x=>kY x.1 x.2
def b8A:List MG:=[(false,(.box (.pair (.dat y31) (.pair (.dat y31) (.pair (.own .bool) (.own .bool)))))),uiM]
def b9X:Ret:=⟨[],[(0,(true,(.pair (.dat y31) (.pair (.dat y31) (.pair (.own .bool) (.own .bool))))))]⟩
def e45:Env:=⟨30,eqs,tt,gl,[(40,s40)],[],[],[],[0],[]⟩
def c4c:Ann:=.seq lfA (.seq lfA (.blk (.loop [(0,1),(5,6),(19,30),(1000000,1000003)] ⟨[(0,(false,(.box (.pair (.dat y31) (.pair (.dat y31) (.pair (.own .bool) (.own .bool))))))),(19,uiM)],[]⟩ 0 ⟨[(0,(false,(.box (.pair (.dat y31) (.pair (.dat y31) (.pair (.own .bool) (.own .bool)))))))],[]⟩ lfA)))
def dW (a0:S9) (a1:Int):Option S9:=o6 (lat a0.2.2.2 a1) fun x=>o6 (L8 a0.2.2.2
 (toN a1)) fun x=>o6 (dP a0.2.1 a1) fun x=>o6 (X5 (fun(x_1:S9×Int)=>l7 (ilt x_1.2
 (o8 x)) (o6 (lat x x_1.2) fun x_2=>o6 (L8 x (toN x_1.2)) fun x=>o6 (lat x_1.1.2.2.2 x) fun x_3=>o6
 (L8 x_1.1.2.2.2 (toN x)) fun x_4=>some (.inl ((x_1.1.1,x_1.1.2.1,x_1.1.2.2.1,U5 x_1.1.2.2.2 (toN x) true),A7 .i64
 x_1.2 1))) (some (.inr x_1.1))) ((a0.1,a0.2.1,a0.2.2.1,U5 a0.2.2.2 (toN a1) true),0)) fun y=>some y
def s45:FSpec:=mkS b8A b9X fun x=>dW x.1 x.2
def b8l:List MG:=[(false,(.box (.pair (.dat y31) (.pair (.dat y31) (.pair (.own .bool) (.own .bool)))))),uiM]
def b9I:Ret:=⟨[],[(0,(true,(.pair (.dat y31) (.pair (.dat y31) (.pair (.own .bool) (.own .bool))))))]⟩
def e27:Env:=⟨47,eqs,tt,gl,[(40,s40),(41,s41),(45,s45)],[],[],[],[0],[]⟩
def c3M:Ann:=.seq lfA (.seq (.seq lfA (.blk (.loop [(0,1),(5,6),(21,32),(1000000,1000003)] ⟨[(0,(false,(.box (.pair (.dat y31) (.pair (.dat y31) (.pair (.own .bool) (.own .bool))))))),(21,uiM)],[]⟩ 0 ⟨[(0,(false,(.box (.pair (.dat y31) (.pair (.dat y31) (.pair (.own .bool) (.own .bool)))))))],[]⟩ lfA))) (.seq lfA (.blk (.loop [(0,1),(7,8),(39,47),(12000000,12000003)] ⟨[(0,(false,(.box (.pair (.dat y31) (.pair (.dat y31) (.pair (.own .bool) (.own .bool))))))),(39,uiM)],[]⟩ 2 ⟨[(0,(false,(.box (.pair (.dat y31) (.pair (.dat y31) (.pair (.own .bool) (.own .bool)))))))],[]⟩ lfA))))
def jM (a0:S9) (a1:Int):Option S9:=o6 (lat a0.2.2.1 a1) fun x=>o6 (L8 a0.2.2.1 (toN
 a1)) fun x=>o6 (dP a0.1 a1) fun x=>o6 (X5 (fun(x_1:S9×Int)=>l7 (ilt x_1.2 (o8
 x)) (o6 (lat x x_1.2) fun x_2=>o6 (L8 x (toN x_1.2)) fun x=>o6 (lat x_1.1.2.2.1 x) fun x_3=>o6 (L8
 x_1.1.2.2.1 (toN x)) fun x_4=>some (.inl ((x_1.1.1,x_1.1.2.1,U5 x_1.1.2.2.1 (toN x) true,x_1.1.2.2.2),A7 .i64 x_1.2 1)))
 (some (.inr x_1.1))) ((a0.1,a0.2.1,U5 a0.2.2.1 (toN a1) true,a0.2.2.2),0)) fun y=>o6 (kY y.1 a1) fun(x
 :List Int)=>o6 (X5 (fun(x_1:S9×Int)=>l7 (ilt x_1.2 (o8 x)) (o6 (lat x x_1.2) fun x_2=>o6 (L8 x (toN
 x_1.2)) fun x=>o6 (dW x_1.1 x) fun x=>some (.inl (x,A7 .i64 x_1.2 1))) (some
 (.inr x_1.1))) (y,0)) fun y=>some y
def s27:FSpec:=mkS b8l b9I fun x=>jM x.1 x.2
def a0v:List MG:=[(false,(.box oiM)),(false,(.ifc 3 diM))]
def a0Q:Ret:=⟨[],[(0,(true,oiM))]⟩
def b3W:Env:=⟨20,eqs,tt,gl,[],[],[],[],[0],[]⟩
def a7J:Ann:=.leaf
def qG (a0:List Int) (a1:Int):Option (List Int):=o6 (dE a0 [a1]) fun x=>some x
def a6a:FSpec:=mkS a0v a0Q fun x=>qG x.1 x.2
def b9i:List MG:=[(false,(.dat y46))]
def c0J:Ret:=⟨[(.tmp 2,uiM)],[]⟩
def e90:Env:=⟨5,eqs,tt,gl,[],[],[],[],[],[]⟩
def c4M:Ann:=.leaf
def di (a0:List Int):Option Int:=some (o8 a0)
def s90:FSpec:=mkS b9i c0J fun x=>di x
def b0Q:List MG:=[(false,(.dat y46)),uiM,uiM]
def b2r:Ret:=⟨[(.tmp 6,ubM)],[]⟩
def c6x:Env:=⟨16,eqs,tt,gl,[],[],[],[],[],[]⟩
def b7j:Ann:=.leaf
def V9 (a0:List Int) (a1:Int) (a2:Int):Option Bool:=o6 (lat a0 a1) fun x=>o6 (lat a0 a2) fun x_1=>
 some (ilt x x_1)
def b4G:FSpec:=mkS b0Q b2r fun x=>V9 x.1 x.2.1 x.2.2
def b0S:List MG:=[(false,(.ownb (.int .i64))),uiM,uiM]
def b2t:Ret:=⟨[],[(0,uoM)]⟩
def c6z:Env:=⟨20,eqs,tt,gl,[],[],[],[],[0],[]⟩
def b7l:Ann:=.leaf
def X7 (a0:List Int) (a1:Int) (a2:Int):Option (List Int):=o6 (lat a0 a2) fun x=>o6 (L8 a0 (toN a2)) fun(x
 :Int)=>o6 (lat a0 a1) fun x_1=>o6 (L8 a0 (toN a1)) fun x_2=>o6 (lat a0 a1) fun x_3=>o6 (L8 a0 (toN
 a1)) fun x_4=>o6 (lat (U5 a0 (toN a1) x) a2) fun x_5=>o6 (L8 (U5 a0 (toN a1) x) (toN a2)) fun x_6=>some
 (U5 (U5 a0 (toN a1) x) (toN a2) x_2)
def a8N:FSpec:=mkS b0S b2t fun x=>X7 x.1 x.2.1 x.2.2
def a0o:List MG:=[(false,(.ifc 186 (.box oiM))),uiM]
def a0J:Ret:=⟨[],[(0,(true,oiM))]⟩
def b3P:Env:=⟨23,eqs,tt,gl,[(235,b4G),(238,a8N)],[],[],[((186,"Less"),235,some 187),((186,"Swap"),238,some 187)],[0],[]⟩
def a7C:Ann:=.blk (.loop [(0,2),(4,23),(1000000,1000002)] ⟨[(0,(false,(.ifc 186 (.box oiM)))),(1,uiM)],[]⟩ 0 ⟨[(0,(false,(.ifc 186 (.box oiM))))],[]⟩ lfA)
def lI (a0:List Int) (a1:Int):Option (List Int):=o6 (X5 (fun(x:List Int×Int)=>l7 (ieq (aN .i64 (G8
 .i64 x.2 1) 2) x.2) (some (.inr x.1)) (o6 (V9 x.1 x.2 (aN .i64 (G8 .i64 x.2 1) 2)) fun x_1=>
 l7 (E5 x_1) (some (.inr x.1)) (o6 (X7 x.1 (aN .i64 (G8 .i64 x.2 1) 2) x.2) fun x_2=>some
 (.inl (x_2,aN .i64 (G8 .i64 x.2 1) 2))))) (a0,a1)) fun y=>some y
def a5T:FSpec:=mkS a0o a0J fun x=>lI x.1 x.2
def a5c:List MG:=[(false,(.ifc 186 (.box oiM))),(false,(.ifc 3 diM))]
def a5M:Ret:=⟨[],[(0,(true,oiM))]⟩
def b7F:Env:=⟨12,eqs,tt,gl,[(237,a6a),(90,s90),(112,a5T)],[],[],[((186,"Len"),90,some 187),((186,"Push"),237,none)],[0],[]⟩
def b3j:Ann:=.leaf
def ah (a0:List Int) (a1:Int):Option (List Int):=o6 (qG a0 a1) fun x=>o6
 (di x) fun x_1=>o6 (lI x (G8 .i64 x_1 1)) fun x=>some x
def b2C:FSpec:=mkS a5c a5M fun x=>ah x.1 x.2
def a0p:List MG:=[(false,(.ifc 186 (.box oiM))),uiM,uiM]
def a0K:Ret:=⟨[(.tmp 6,ubM)],[(0,(true,oiM))]⟩
def b3Q:Env:=⟨48,eqs,tt,gl,[(235,b4G),(238,a8N)],[],[],[((186,"Less"),235,some 187),((186,"Swap"),238,some 187)],[0],[]⟩
def a7D:Ann:=.seq lfA (.seq lfA (.seq (.blk (.loop [(0,1),(7,11),(12,45),(1000000,1000002)] ⟨[(0,(false,(.ifc 186 (.box oiM)))),(7,uiM)],[]⟩ 0 ⟨[(0,(false,(.ifc 186 (.box oiM)))),(7,uiM)],[]⟩ lfA)) lfA))
def jI (a0:List Int) (a1:Int) (a2:Int):Option (Bool×List Int):=o6 (X5 (fun(x:List Int×Int)=>l7 (ile a2
 (A7 .i64 (W9 .i64 2 x.2) 1)) (some (.inr x)) (l7 (ilt (A7 .i64 (W9 .i64 2 x.2) 1) 0) (some (.inr x))
 (l7 (ilt (A7 .i64 (A7 .i64 (W9 .i64 2 x.2) 1) 1) a2) (o6 (V9 x.1 (A7 .i64 (A7 .i64
 (W9 .i64 2 x.2) 1) 1) (A7 .i64 (W9 .i64 2 x.2) 1)) fun x_1=>l7 x_1 (o6 (V9 x.1 (A7
 .i64 (A7 .i64 (W9 .i64 2 x.2) 1) 1) x.2) fun x_2=>l7 (E5 x_2) (some (.inr x)) (o6 (X7
 x.1 x.2 (A7 .i64 (A7 .i64 (W9 .i64 2 x.2) 1) 1)) fun x_3=>some (.inl (x_3,A7 .i64 (A7
 .i64 (W9 .i64 2 x.2) 1) 1)))) (o6 (V9 x.1 (A7 .i64 (W9 .i64 2 x.2) 1) x.2) fun x_2=>
 l7 (E5 x_2) (some (.inr x)) (o6 (X7 x.1 x.2 (A7 .i64 (W9 .i64 2 x.2) 1)) fun x_3=>some
 (.inl (x_3,A7 .i64 (W9 .i64 2 x.2) 1))))) (o6 (V9 x.1 (A7 .i64 (W9 .i64 2 x.2) 1) x.2) fun
 (x_1:Bool)=>l7 (E5 x_1) (some (.inr x)) (o6 (X7 x.1 x.2 (A7 .i64 (W9 .i64 2 x.2) 1)) fun x_2=>some (.inl (x_2,A7 .i64 (W9 .i64 2 x.2) 1))))))) (a0,a1)) fun y=>some (ilt a1 y.2,y.1)
def a5U:FSpec:=mkS a0p a0K fun x=>jI x.1 x.2.1 x.2.2
def b0R:List MG:=[(false,(.box oiM))]
def b2s:Ret:=⟨[(.tmp 2,(false,(.ifc 3 diM)))],[(0,(true,oiM))]⟩
def c6y:Env:=⟨23,eqs,tt,gl,[],[],[],[],[0],[]⟩
def b7k:Ann:=.leaf
def rO (a0:List Int):Option (Int×List Int):=o6 (lat a0 (G8 .i64 (o8 a0) 1)) fun x=>o6 (L8 a0 (toN
 (G8 .i64 (o8 a0) 1))) fun x=>l7 (jG 0 (G8 .i64 (o8 a0) 1) (o8 a0)) (some (x,gQ a0 (toN 0) (toN (G8
 .i64 (o8 a0) 1)))) none
def c1T:FSpec:=mkS b0R b2s fun x=>rO x
def a5d:List MG:=[(false,(.ifc 186 (.box oiM)))]
def a5N:Ret:=⟨[(.tmp 2,(false,(.ifc 3 diM)))],[(0,(true,oiM))]⟩
def b7G:Env:=⟨15,eqs,tt,gl,[(90,s90),(238,a8N),(113,a5U),(236,c1T)],[],[],[((186,"Len"),90,some 187),((186,"Pop"),236,none),((186,"Swap"),238,some 187)],[0],[]⟩
def b3k:Ann:=.leaf
def ig (a0:List Int):Option (Int×List Int):=o6 (di a0) fun x=>o6 (X7 a0 0 (G8
 .i64 x 1)) fun x_1=>o6 (jI x_1 0 (G8 .i64 x 1)) fun x=>o6
 (rO x.2) fun x=>some x
def b2D:FSpec:=mkS a5d a5N fun x=>ig x
def b8R:List MG:=[(true,(.dat y31))]
def c0r:Ret:=⟨[(.tmp 2,uoM),(.tmp 3,uiM)],[]⟩
def e62:Env:=⟨113,eqs,tt,gl,[(57,s57),(89,b2C),(90,s90),(91,b2D)],[(150,oiM)],[12,50,77,80],[],[],[]⟩
def c4t:Ann:=.seq lfA (.seq lfA (.seq lfA (.seq lfA (.seq lfA (.seq (.seq lfA (.blk (.loop [(5,10),(11,12),(29,65),(10001344,10001345),(13001536,13001537),(16001600,16001601),(16001664,16001665)] ⟨[(5,(false,(.owns oiM))),(6,uoM),(7,(false,(.box oiM))),(29,uiM)],[]⟩ 0 ⟨[(5,(false,(.owns oiM))),(6,uoM),(7,(false,(.box oiM)))],[]⟩ (.seq lfA (.seq lfA (.seq (.blk (.seq lfA (.seq lfA (.seq (.seq lfA (.blk (.loop [(5,6),(11,12),(41,56),(23000000,23000001)] ⟨[(5,(false,(.owns oiM))),(41,uiM)],[]⟩ 2 ⟨[(5,(false,(.owns oiM)))],[]⟩ lfA))) lfA)))) lfA)))))) (.seq lfA (.seq (.blk (.loop [(5,8),(12,15),(16,17),(65,107),(24000000,24000004)] ⟨[(5,(false,(.dat y64))),(6,uoM),(7,(false,(.box oiM))),(12,uoM)],[]⟩ 4 ⟨[(12,uoM)],[]⟩ (.seq lfA (.blk (.seq lfA (.seq lfA (.seq lfA (.blk (.loop [(6,8),(16,17),(86,107),(79000000,79000002),(91004672,91004673)] ⟨[(6,uoM),(7,(false,(.box oiM))),(86,uiM)],[]⟩ 6 ⟨[(6,uoM),(7,(false,(.box oiM)))],[]⟩ lfA))))))))) lfA)))))))
def iY (a0:x9):Option (List Int×Int):=o6 (jT a0) fun x=>o6 (jH (o8 x) [])
 fun x_1=>o6 (jH (o8 x) 0) fun x_2=>o6 (X5 (fun(x_3:List (List Int)×List Int×List Int×Int)
 =>l7 (ilt x_3.2.2.2 (o8 x)) (o6 (lat x x_3.2.2.2) fun x=>o6 (lat x_3.2.1 x_3.2.2.2) fun x_4=>o6 (L8 x_3.2.1
 (toN x_3.2.2.2)) fun x_5=>o6 (X5 (fun(x_6:List (List Int)×Int)=>l7 (ilt x_6.2 (o8 x)) (o6 (lat x x_6.2) fun x
 =>l7 (inb x (o8 x_6.1)) (o6 (L8 x_6.1 (toN x)) fun x_7=>o6 (dE x_7 [x_3.2.2.2]) fun x_8=>l7 (inb x
 (o8 x_6.1)) (l7 (Et (toN x) (toN x)) (o6 (L8 x_6.1 (toN x)) fun x_9=>some (.inl (U5 x_6.1 (toN x) x_8,A7
 .i64 x_6.2 1))) none) none) none) (some (.inr x_6.1))) (x_3.1,0)) fun y=>l7 (ieq (o8 x) 0) (o6
 (ah x_3.2.2.1 x_3.2.2.2) fun x_6=>some (.inl (y,U5 x_3.2.1 (toN x_3.2.2.2) (o8 x),x_6,A7 .i64
 x_3.2.2.2 1))) (some (.inl (y,U5 x_3.2.1 (toN x_3.2.2.2) (o8 x),x_3.2.2.1,A7 .i64 x_3.2.2.2 1)))) (some (.inr (x_3.1,x_3.2.1,
 x_3.2.2.1)))) (x_1,x_2,[],0)) fun y=>o6 (X5 (fun(x:List (List Int)×dH)=>o6
 (di x.2.2.1) fun x_3=>l7 (ilt 0 x_3) (o6 (ig x.2.2.1) fun x_4=>o6 (dE x.2.2.2
 [x_4.1]) fun x_5=>o6 (lat x.1 x_4.1) fun x_6=>o6 (X5 (fun(x:List Int×List Int×Int)=>l7 (ilt x.2.2
 (o8 x_6)) (o6 (lat x_6 x.2.2) fun x_7=>o6 (lat x.1 x_7) fun x_8=>o6 (L8 x.1 (toN x_7)) fun x_9=>o6 (lat
 x.1 x_7) fun x_10=>o6 (L8 x.1 (toN x_7)) fun x_11=>o6 (lat (U5 x.1 (toN x_7) (G8 .i64 x_9 1)) x_7) fun(x_12:
 Int)=>o6 (L8 (U5 x.1 (toN x_7) (G8 .i64 x_9 1)) (toN x_7)) fun x_13=>l7 (ieq x_13 0) (o6 (ah x.2.1
 x_7) fun x_14=>some (.inl (U5 x.1 (toN x_7) (G8 .i64 x_9 1),x_14,A7 .i64 x.2.2 1))) (some (.inl (U5 x.1
 (toN x_7) (G8 .i64 x_9 1),x.2.1,A7 .i64 x.2.2 1)))) (some (.inr (x.1,x.2.1)))) (x.2.1,x_4.2,0)) fun y=>some (.inl (x.1,y.1,y.2,x_5))) (some (.inr x.2.2.2))) (y.1,y.2.1,y.2.2,[])) fun y=>l7 (ilt (o8 y) (o8 x))
 (some ([],9)) (some (y,0))
def s62:FSpec:=mkS b8R c0r fun x=>iY x
def a9x:List MG:=[(true,(.dat y0)),uiM]
def b0Y:Ret:=⟨[(.tmp 4,ubM)],[]⟩
def c4Z:Env:=⟨19,eqs,tt,gl,[(68,s68)],[],[],[],[],[]⟩
def b5O:Ann:=.leaf
def dY (a0:I7) (a1:Int):Option Bool:=o6 (iQ a0) fun x=>l7 x (l7 (ile a0.1 a1) (some (ilt
 a1 a0.2)) (some false)) (some false)
def a8F:FSpec:=mkS a9x b0Y fun x=>dY x.1 x.2
def a0r:List MG:=[(true,(.dat y26)),(false,(.rp (.int .i64))),(false,(.rp (.int .i64)))]
def a0M:Ret:=⟨[(.tmp 4,ubM)],[]⟩
def b3S:Env:=⟨15,eqs,tt,gl,[(116,a8F)],[],[],[],[],[]⟩
def a7F:Ann:=.leaf
def kM (a0:J6) (a1:Int) (a2:Int):Option Bool:=l7 (ieq a0.2.1 a1) (o6 (dY a0.2.2.2.2.1 a2) fun(x:
 Bool)=>some x) (some false)
def Yu:FSpec:=mkS a0r a0M fun x=>kM x.1 x.2.1 x.2.2
def a0q:List MG:=[(false,(.dat y27)),(false,(.fn 115 [(.int .i64),(.int .i64)]))]
def a0L:Ret:=⟨[(.tmp 4,uoM),(.tmp 5,uoM)],[]⟩
def b3R:Env:=⟨59,eqs,tt,gl,[(115,Yu)],[],[],[],[],[]⟩
def a7E:Ann:=.seq lfA (.seq lfA (.seq lfA (.seq (.seq lfA (.blk (.loop [(6,12),(17,57),(10000896,10000897)] ⟨[(6,uoM),(7,uoM),(8,uoM),(17,uiM)],[]⟩ 0 ⟨[(6,uoM),(7,uoM)],[]⟩ (.seq lfA (.seq lfA (.seq (.blk (.seq lfA (.seq lfA (.seq (.join [(11,12),(22,36)] ⟨[(11,uiM)],[]⟩ lfA) lfA)))) lfA)))))) lfA)))
def jL (a0:List J6) (a1:I7):Option (List Int×List Int):=o6 (jH (o8 a0) 0) fun x=>o6 (X5
 (fun(x:List Int×List Int×List Int×Int)=>l7 (ilt x.2.2.2 (o8 a0)) (o6 (lat a0 x.2.2.2) fun x_1=>o6 (l7 (ile 0
 x_1.2.2.1) (l7 (ilt x_1.2.2.1 x.2.2.2) (o6 (lat x.2.2.1 x_1.2.2.1) fun x_2=>o6 (L8 x.2.2.1 (toN x_1.2.2.1)) fun x=>
 some x) (some (-1))) (some (-1))) fun x_2=>o6 (lat x.2.2.1 x.2.2.2) fun x_3=>o6 (L8 x.2.2.1 (toN x.2.2.2)) fun(x_4:
 Int)=>o6 (kM x_1 a1.1 a1.2) fun x_5=>l7 x_5 (o6 (lat (U5 x.2.2.1 (toN x.2.2.2) x_2) x.2.2.2) fun x_6
 =>o6 (L8 (U5 x.2.2.1 (toN x.2.2.2) x_2) (toN x.2.2.2)) fun x_7=>o6 (dE x.1 [x.2.2.2]) fun x_8=>o6 (dE
 x.2.1 [x_2]) fun x_9=>some (.inl (x_8,x_9,U5 (U5 x.2.2.1 (toN x.2.2.2) x_2) (toN x.2.2.2) (o8 x.1),A7 .i64
 x.2.2.2 1))) (some (.inl (x.1,x.2.1,U5 x.2.2.1 (toN x.2.2.2) x_2,A7 .i64 x.2.2.2 1)))) (some (.inr (x.1,x.2.1)))) ([],[],x,
 0)) fun y=>some y
def a5V:FSpec:=mkS a0q a0L fun x=>jL x.1 x.2
def b9j:List MG:=[(true,(.dat y31)),uiM,uiM]
def c0K:Ret:=⟨[(.tmp 6,uoM),(.tmp 7,uoM),(.tmp 8,uoM)],[]⟩
def e92:Env:=⟨40,eqs,tt,gl,[(115,Yu),(114,a5V)],[],[],[],[],[]⟩
def c4N:Ann:=.seq lfA (.seq lfA (.seq lfA (.seq (.seq lfA (.blk (.loop [(11,12),(13,14),(23,37)] ⟨[(11,uoM),(23,uiM)],[]⟩ 0 ⟨[(11,uoM)],[]⟩ lfA))) lfA)))
def nH (a0:x9) (a1:Int) (a2:Int):Option dH:=o6 (jL a0.2.2.2.2 (a1,a2)) fun x=>o6 (X5 (fun(x_1:List Int×Int)=>l7 (ilt x_1.2 (o8 x.1)) (o6 (lat x.1 x_1.2) fun x_2=>o6 (L8 x.1
 (toN x_1.2)) fun x=>o6 (lat a0.2.2.2.2 x) fun x=>o6 (dE x_1.1 [x.2.2.2.1]) fun x=>some (.inl (x,A7
 .i64 x_1.2 1))) (some (.inr x_1.1))) ([],0)) fun y=>some (x.1,x.2,y)
def s92:FSpec:=mkS b9j c0K fun x=>nH x.1 x.2.1 x.2.2
def b9l:List MG:=[(false,(.dat y19))]
def c0M:Ret:=⟨[(.tmp 2,uoM),(.tmp 3,uiM)],[]⟩
def e94:Env:=⟨15,eqs,tt,gl,[(120,b4r)],[],[],[],[],[]⟩
def c4P:Ann:=.leaf
def Ap (a0:List I7):Option (List Int×Int):=o6 (mD a0) fun x=>some (x.1,x.2.2)
def s94:FSpec:=mkS b9l c0M fun x=>Ap x
def a9C:List MG:=[(true,(.dat y71)),uiM]
def b1d:Ret:=⟨[(.tmp 4,uoM)],[]⟩
def c5e:Env:=⟨36,eqs,tt,gl,[(141,a2u)],[],[],[],[],[]⟩
def b5T:Ann:=.seq lfA (.seq lfA (.seq lfA (.seq (.seq lfA (.blk (.loop [(5,8),(21,35),(7000960,7000961)] ⟨[(5,uoM),(6,uiM),(7,uiM)],[]⟩ 0 ⟨[(5,uoM)],[]⟩ lfA))) lfA)))
def dn (a0:O0) (a1:Int):Option (List Int):=o6 (lat a0.1 a1) fun x=>o6 (fO x.1) fun
 (x:Int)=>o6 (jH x 0) fun x=>o6 (X5 (fun(x:List Int×I7)=>l7 (ile 0 x.2.2) (o6 (lat x.1 x.2.2) fun(x_1:
 Int)=>o6 (L8 x.1 (toN x.2.2)) fun x_2=>o6 (lat a0.2.1 x.2.1) fun x_3=>some (.inl (U5 x.1 (toN x.2.2) x.2.1,G8
 .i64 x_3 1,G8 .i64 x.2.2 1))) (some (.inr x.1))) (x,G8 .i64 a1 1,G8 .i64 (o8 x) 1)) fun y=>
 some y
def c0Y:FSpec:=mkS a9C b1d fun x=>dn x.1 x.2
def a9O:List MG:=[(true,(.dat y1))]
def b1p:Ret:=⟨[(.tmp 2,ubM)],[]⟩
def c5s:Env:=⟨83,eqs,tt,gl,[],[],[],[],[],[]⟩
def b6h:Ann:=.seq lfA (.seq (.joinR [(2,11)] ⟨[],[]⟩ lfA) lfA)
def aj (a0:L6):Option Bool:=o6 (l7 (E5 (ieq a0.1 6)) (l7 (E5 (ieq a0.2.1 0)) (some (.inr false)) (some (.inl
 ()))) (some (.inl ()))) fun o=>X6 o (fun(x:PUnit)=>l7 (ieq a0.1 1) (l7 (ieq a0.2.2 0) (some true)
 (some (ieq a0.2.2 1))) (l7 (ieq a0.1 2) (l7 (ile (-1000000000000) a0.2.2) (some (ile a0.2.2 1000000000000)) (some false)) (l7 (ieq a0.1 3)
 (l7 (ile (-1000000000000000) a0.2.2) (some (ile a0.2.2 1000000000000000)) (some false)) (l7 (ieq a0.1 4) (l7 (ile (-1000000000) a0.2.2)
 (some (ile a0.2.2 1000000000)) (some false)) (l7 (ieq a0.1 5) (l7 (ile 0 a0.2.2) (some (ile a0.2.2 109572)) (some false)) (l7 (ieq a0.1 6)
 (l7 (ile 0 a0.2.1) (l7 (ilt a0.2.1 8) (l7 (ile 0 a0.2.2) (some (ilt a0.2.2 16)) (some false)) (some false)) (some false)) (some false)))))))
 fun r=>some r
def Yv:FSpec:=mkS a9O b1p fun x=>aj x
def a9J:List MG:=[(true,(.dat y0))]
def b1k:Ret:=⟨[(.tmp 2,ubM)],[]⟩
def c5n:Env:=⟨48,eqs,tt,gl,[(141,a2u),(150,b4s)],[],[],[],[],[]⟩
def b6c:Ann:=.seq lfA (.seq (.joinR [(2,18)] ⟨[],[]⟩ lfA) (.seq (.seq lfA (.blk (.seq (.join [(20,24)] ⟨[(20,ubM)],[]⟩ lfA) lfA))) lfA))
def iR (a0:I7):Option Bool:=o6 (o6 (fO a0.1) fun x=>l7 (ilt x 0) (some (.inr false)) (l7 (E5
 (ieq a0.2 0)) (o6 (cu a0.1) fun x=>l7 (E5 x) (some (.inr false)) (some (.inl ()))) (some (.inl
 ())))) fun o=>X6 o (fun(x:PUnit)=>o6 (l7 (ieq a0.1 14) (some (ieq a0.1 14)) (l7 (ieq a0.1 15) (some (ieq
 a0.1 15)) (some (ieq a0.1 16)))) fun x=>l7 x (l7 (ile 0 a0.2) (some (ile a0.2 5)) (some false)) (l7 (ieq a0.1 34) (l7 (ile 0
 a0.2) (some (ile (dV a0.2 8) 5)) (some false)) (l7 (ieq a0.1 6) (some (ile 0 a0.2)) (some true)))) fun r=>some r
def c1g:FSpec:=mkS a9J b1k fun x=>iR x
def a9K:List MG:=[(true,(.dat y0)),(true,(.dat y55))]
def b1l:Ret:=⟨[(.tmp 4,ubM)],[]⟩
def c5o:Env:=⟨81,eqs,tt,gl,[],[],[],[],[],[]⟩
def b6d:Ann:=.seq lfA (.seq (.seq lfA (.blk (.seq lfA (.cond lfA (.seq lfA (.cond lfA (.seq lfA (.cond lfA (.seq lfA (.cond lfA (.seq (.join [(65,70)] ⟨[(65,ubM)],[]⟩ lfA) lfA))))))))))) lfA)
def aS (a0:I7) (a1:U9):Option Bool:=l7 (ieq a0.1 7) (l7 (ile 0 a0.2) (some (ilt a0.2 (o8 a1.2.1))) (some false)) (l7
 (ieq a0.1 8) (l7 (ile 0 a0.2) (l7 (ilt a0.2 (o8 a1.2.2.1)) (o6 (lat a1.2.2.1 a0.2) fun x=>some (E5 (ieq x.1 0))) (some
 false)) (some false)) (l7 (ieq a0.1 33) (l7 (ile 0 a0.2) (some (ilt a0.2 (o8 a1.2.2.2.2.2))) (some false)) (l7 (ieq a0.1 34) (some (ilt
 (aN .i64 a0.2 8) (o8 a1.2.2.2.2.2))) (o6 (l7 (ieq a0.1 36) (some (ieq a0.1 36)) (l7 (ieq a0.1 37) (some (ieq a0.1 37)) (l7
 (ieq a0.1 38) (some (ieq a0.1 38)) (some (ieq a0.1 39))))) fun x=>l7 x (l7 (ile 0 a0.2) (some (ilt a0.2 (o8 a1.2.2.2.2.1))) (some
 false)) (some true)))))
def c1h:FSpec:=mkS a9K b1l fun x=>aS x.1 x.2
def a9L:List MG:=[(false,(.dat y36))]
def b1m:Ret:=⟨[(.tmp 2,ubM)],[]⟩
def c5p:Env:=⟨15,eqs,tt,gl,[(148,Yv)],[],[],[],[],[]⟩
def b6e:Ann:=.seq lfA (.seq (.seq lfA (.blk (.loopR [(2,3),(4,5),(7,15)] ⟨[(7,uiM)],[]⟩ 0 ⟨[],[]⟩ lfA))) lfA)
def lK (a0:List L6):Option Bool:=o6 (U2 (fun(x:Int)=>l7 (ilt x (o8 a0)) (o6 (lat a0 x) fun x_1
 =>o6 (aj x_1) fun x_2=>l7 (E5 x_2) (some (.rt false)) (some (.nx (A7 .i64 x 1)))) (some (.ex
 ()))) 0) fun o=>X6 o (fun(y:PUnit)=>some true) fun r=>some r
def c1i:FSpec:=mkS a9L b1m fun x=>lK x
def a9S:List MG:=[(true,(.dat y1)),(true,(.dat y0))]
def b1t:Ret:=⟨[(.tmp 4,ubM)],[]⟩
def c5w:Env:=⟨21,eqs,tt,gl,[(148,Yv)],[],[],[],[],[]⟩
def b6l:Ann:=.leaf
def qK (a0:L6) (a1:I7):Option Bool:=o6 (aj a0) fun x=>l7 x (l7 (ieq a0.1 a1.1) (some (ieq
 a0.2.1 a1.2)) (some false)) (some false)
def b4t:FSpec:=mkS a9S b1t fun x=>qK x.1 x.2
def b0j:List MG:=[uiM]
def b1K:Ret:=⟨[(.tmp 2,ubM)],[]⟩
def c5P:Env:=⟨13,eqs,tt,gl,[],[],[],[],[],[]⟩
def b6C:Ann:=.leaf
def jw (a0:Int):Option Bool:=l7 (ieq a0 2) (some true) (l7 (ieq a0 3) (some true) (some (ieq a0 4)))
def a8G:FSpec:=mkS b0j b1K fun x=>jw x
def a9T:List MG:=[uiM,(true,(.dat y0))]
def b1u:Ret:=⟨[(.tmp 4,ubM)],[]⟩
def c5x:Env:=⟨32,eqs,tt,gl,[(178,a8G)],[],[],[],[],[]⟩
def b6m:Ann:=.leaf
def kN (a0:Int) (a1:I7):Option Bool:=l7 (E5 (ieq a1.2 0)) (some false) (l7 (ieq a0 36) (l7 (ieq a1.1 2) (some
 true) (some (ieq a1.1 3))) (l7 (ieq a0 39) (o6 (jw a1.1) fun x=>l7 x (some true) (some (ieq a1.1 5))) (some (ieq a1.1
 1))))
def c1n:FSpec:=mkS a9T b1u fun x=>kN x.1 x.2
def a9U:List MG:=[uiM,uiM]
def b1v:Ret:=⟨[(.tmp 4,ubM)],[]⟩
def c5y:Env:=⟨16,eqs,tt,gl,[(178,a8G)],[],[],[],[],[]⟩
def b6n:Ann:=.leaf
def ja (a0:Int) (a1:Int):Option Bool:=l7 (ieq a0 10) (o6 (jw a1) fun x=>some x) (l7 (ieq a0 25)
 (some (ieq a1 1)) (some (ieq a1 5)))
def c1o:FSpec:=mkS a9U b1v fun x=>ja x.1 x.2
def a9W:List MG:=[(true,(.dat y1)),(true,(.dat y1))]
def b1x:Ret:=⟨[(.tmp 4,ubM)],[]⟩
def c5A:Env:=⟨17,eqs,tt,gl,[],[],[],[],[],[]⟩
def b6p:Ann:=.leaf
def jy (a0:L6) (a1:L6):Option Bool:=l7 (ieq a0.1 a1.1) (some (ieq a0.2.1 a1.2.1)) (some false)
def b4u:FSpec:=mkS a9W b1x fun x=>jy x.1 x.2
def a9V:List MG:=[uiM,(true,(.dat y1)),(true,(.dat y1))]
def b1w:Ret:=⟨[(.tmp 6,ubM)],[]⟩
def c5z:Env:=⟨134,eqs,tt,gl,[(163,b4u),(178,a8G)],[],[],[],[],[]⟩
def b6o:Ann:=.seq lfA (.seq (.joinR [(6,126)] ⟨[],[]⟩ (.seq lfA (.blk (.seq (.join [(8,11)] ⟨[(8,ubM)],[]⟩ lfA) (.cond lfA (.seq lfA (.cond lfA (.seq lfA (.cond lfA (.seq lfA (.cond lfA (.seq lfA (.cond lfA (.seq (.join [(80,85)] ⟨[(80,ubM)],[]⟩ lfA) (.cond lfA (.seq (.join [(98,101)] ⟨[(98,ubM)],[]⟩ lfA) lfA)))))))))))))))) lfA)
def P6 (a0:Int) (a1:L6) (a2:L6):Option Bool:=o6 (o6 (l7 (ieq a0 11) (some (ieq a0 11)) (some (ieq a0 12)))
 fun x=>l7 x (o6 (jy a1 a2) fun x=>l7 x (o6 (jw a1.1) fun x=>some (.inr x))
 (some (.inr false))) (l7 (ieq a0 13) (l7 (ieq a2.1 2) (l7 (ieq a1.1 2) (some (.inr true)) (some (.inr (ieq a1.1 3)))) (some
 (.inr false))) (l7 (ieq a0 14) (l7 (ieq a2.1 4) (l7 (ieq a1.1 3) (some (.inr true)) (some (.inr (ieq a1.1 4)))) (some (.inr
 false))) (l7 (ieq a0 15) (l7 (ieq a2.1 2) (l7 (ieq a1.1 2) (some (.inr true)) (some (.inr (ieq a1.1 3)))) (l7 (ieq a1.1 3) (some
 (.inr (ieq a2.1 3))) (some (.inr false)))) (l7 (ieq a0 16) (l7 (ieq a1.1 3) (some (.inr (ieq a2.1 3))) (some (.inr false))) (o6
 (l7 (ieq a0 17) (some (ieq a0 17)) (l7 (ieq a0 18) (some (ieq a0 18)) (l7 (ieq a0 21) (some (ieq a0 21)) (some (ieq a0 22))))) fun(x:
 Bool)=>l7 x (o6 (jy a1 a2) fun x=>l7 x (o6 (jw a1.1) fun x=>l7 x (some (.inr true))
 (some (.inr (ieq a1.1 5)))) (some (.inr false))) (o6 (l7 (ieq a0 19) (some (ieq a0 19)) (some (ieq a0 20))) fun x=>l7 x
 (o6 (jy a1 a2) fun x=>some (.inr x)) (l7 (ieq a0 23) (l7 (ieq a0 23) (l7 (ieq a1.1 1) (some (.inr (ieq a2.1
 1))) (some (.inr false))) (l7 (ieq a0 27) (l7 (ieq a0 27) (l7 (ieq a1.1 5) (some (.inr (ieq a2.1 2))) (some (.inr false))) (some
 (.inl ()))) (l7 (ieq a0 28) (l7 (ieq a1.1 5) (some (.inr (ieq a2.1 2))) (some (.inr false))) (some (.inl ())))))
 (l7 (ieq a0 24) (l7 (ieq a1.1 1) (some (.inr (ieq a2.1 1))) (some (.inr false))) (l7 (ieq a0 27) (l7 (ieq a0 27) (l7 (ieq a1.1
 5) (some (.inr (ieq a2.1 2))) (some (.inr false))) (some (.inl ()))) (l7 (ieq a0 28) (l7 (ieq a1.1 5) (some (.inr (ieq a2.1
 2))) (some (.inr false))) (some (.inl ()))))))))))))) fun o=>X6 o (fun(x:PUnit)=>l7 (ieq a1.1 5) (some
 (ieq a2.1 5)) (some false)) fun r=>some r
def c1p:FSpec:=mkS a9V b1w fun x=>P6 x.1 x.2.1 x.2.2
def a9M:List MG:=[(true,(.dat y0)),(false,(.dat y36)),(true,(.dat y55))]
def b1n:Ret:=⟨[(.tmp 6,ubM)],[]⟩
def c5q:Env:=⟨133,eqs,tt,gl,[(148,Yv),(159,b4t),(160,c1n),(161,c1o),(162,c1p),(163,b4u)],[],[],[],[],[]⟩
def b6f:Ann:=.seq lfA (.seq (.joinR [(6,95)] ⟨[],[]⟩ (.seq lfA (.blk (.seq lfA (.cond lfA (.seq lfA (.cond lfA (.seq lfA (.cond lfA (.seq lfA (.cond lfA (.seq (.join [(81,86)] ⟨[(81,ubM)],[]⟩ lfA) lfA)))))))))))) lfA)
def L9 (a0:I7) (a1:List L6) (a2:U9):Option Bool:=o6 (l7 (ieq a0.1 7) (o6 (lat a2.2.1 a0.2) fun x=>
 o6 (aj x) fun x=>some (.inr x)) (l7 (ieq a0.1 8) (o6 (lat a2.2.2.1 a0.2) fun x=>o6 (aj
 x) fun x=>some (.inr x)) (l7 (ieq a0.1 33) (o6 (lat a2.2.2.2.2.2 a0.2) fun x=>o6 (lat a1 0) fun x_1=>
 o6 (qK x_1 x.2.1) fun x_2=>l7 x_2 (l7 (ile 1 x.2.2.1.1) (some (.inr (ile x.2.2.1.1 6))) (some (.inr false)))
 (some (.inr false))) (l7 (ieq a0.1 34) (o6 (lat a2.2.2.2.2.2 (aN .i64 a0.2 8)) fun x=>o6 (lat a1 0) fun(x_1:
 L6)=>l7 (ieq x_1.1 3) (l7 (V8 (ieq x.2.1.1 3) (ieq x.2.1.2 0)) (some (.inr (V8 (ieq x.2.2.1.1 4) (ieq x.2.2.1.2 0)))) (some
 (.inr false))) (some (.inr false))) (o6 (l7 (ieq a0.1 36) (some (ieq a0.1 36)) (l7 (ieq a0.1 37) (some (ieq a0.1 37)) (l7 (ieq a0.1
 38) (some (ieq a0.1 38)) (some (ieq a0.1 39))))) fun x=>l7 x (o6 (lat a2.2.2.2.2.1 a0.2) fun x=>o6
 (kN a0.1 x) fun x=>some (.inr x)) (some (.inl ()))))))) fun o=>X6 o (fun(x:PUnit)=>
 l7 (ieq (o8 a1) 1) (o6 (lat a1 0) fun x=>o6 (ja a0.1 x.1) fun x=>some x) (l7 (ieq (o8 a1) 2)
 (o6 (lat a1 0) fun x=>o6 (lat a1 1) fun x_1=>o6 (P6 a0.1 x x_1) fun x=>some x) (l7
 (ieq (o8 a1) 3) (o6 (lat a1 0) fun x=>l7 (ieq x.1 1) (o6 (lat a1 1) fun x=>o6 (lat a1 2) fun x_1
 =>o6 (jy x x_1) fun x=>some x) (some false)) (some true)))) fun r=>some r
def c1j:FSpec:=mkS a9M b1n fun x=>L9 x.1 x.2.1 x.2.2
def a9X:List MG:=[(true,(.dat y0)),(true,(.dat y55))]
def b1y:Ret:=⟨[(.cell 4 23,(true,(.dat y1))),(.tmp 5,uiM)],[]⟩
def c5B:Env:=⟨113,eqs,tt,gl,[(159,b4t),(148,Yv)],[],[],[],[],[]⟩
def b6q:Ann:=.seq lfA (.seq lfA (.seq lfA (.seq (.join [(7,8),(22,26),(10000448,10000449)] ⟨[(7,(false,(.box (.dat y1))))],[]⟩ lfA) (.seq (.joinR [(4,6),(26,36),(4000256,4000257)] ⟨[(4,(false,(.box (.dat y1))))],[]⟩ lfA) (.seq (.seq lfA (.blk (.loopR [(4,6),(7,11),(39,112),(12000000,12000001),(20000000,20000001)] ⟨[(4,(false,(.box (.dat y1)))),(7,(false,(.box (.dat y1)))),(39,uiM)],[]⟩ 0 ⟨[(4,(false,(.box (.dat y1)))),(7,(false,(.box (.dat y1))))],[]⟩ (.seq lfA (.seq lfA (.seq (.blk (.seq lfA (.seq (.joinR [(4,6),(44,59),(35000000,35000001)] ⟨[(4,(false,(.box (.dat y1))))],[]⟩ lfA) lfA))) lfA)))))) lfA)))))
def jU (a0:I7) (a1:U9):Option (L6×Int):=o6 (lat a1.2.2.2.2.1 a0.2) fun x=>o6 (l7 (ieq a0.1 37)
 (some (x.1,x.2,1)) (some (x.1,x.2,0))) fun x_1=>o6 (l7 (ieq a0.1 39) (l7 (ieq (o8 a1.2.2.2.1) 0) (some (.inr ((0,0,
 0),6))) (some (.inl (0,0,0)))) (some (.inl (0,0,0)))) fun o=>X6 o (fun(x_2:L6)=>o6 (U2 (fun
 (x_3:L6×L6×Int)=>l7 (ilt x_3.2.2 (o8 a1.2.2.2.1)) (o6 (lat a1.2.2.2.1 x_3.2.2) fun x_4=>o6 (l7 (ile
 (o8 x_4) a0.2) (some (.inr ((0,0,0),6))) (o6 (lat x_4 a0.2) fun x=>l7 (ieq x.1 0) (some (.inr ((0,0,0),6))) (some
 (.inl x_3.1)))) fun o=>X6 o (fun(x_5:L6)=>o6 (lat x_4 a0.2) fun x_6=>o6 (qK
 x_6 x) fun x=>l7 (E5 x) (some (.rt ((0,0,0),8))) (l7 (ieq a0.1 36) (o6 (aj (x_3.2.1.1,x_3.2.1.2.1,A7
 .i64 x_3.2.1.2.2 x_6.2.2)) fun x=>l7 (E5 x) (some (.rt ((0,0,0),3))) (some (.nx (x_5,(x_3.2.1.1,x_3.2.1.2.1,A7
 .i64 x_3.2.1.2.2 x_6.2.2),A7 .i64 x_3.2.2 1)))) (l7 (ieq a0.1 37) (some (.nx (x_5,(x_3.2.1.1,x_3.2.1.2.1,kG x_3.2.1.2.2
 x_6.2.2),A7 .i64 x_3.2.2 1))) (l7 (ieq a0.1 38) (some (.nx (x_5,(x_3.2.1.1,x_3.2.1.2.1,gV x_3.2.1.2.2 x_6.2.2),A7 .i64
 x_3.2.2 1))) (l7 (ieq a0.1 39) (l7 (ieq x_3.2.2 0) (some (.nx (x_5,x_6,A7 .i64 x_3.2.2 1))) (l7 (ilt x_3.2.1.2.2 x_6.2.2)
 (some (.nx (x_5,x_6,A7 .i64 x_3.2.2 1))) (some (.nx (x_5,x_3.2.1,A7 .i64 x_3.2.2 1))))) (some (.nx (x_5,x_3.2.1,A7
 .i64 x_3.2.2 1)))))))) fun r=>some (.rt r)) (some (.ex (x_3.1,x_3.2.1)))) (x_2,x_1,0)) fun o=>X6 o (fun(y:L6×L6)=>some (y.2,0)) fun r=>some r) fun r=>some r
def c1q:FSpec:=mkS a9X b1y fun x=>jU x.1 x.2
def a0u:List MG:=[(true,(.dat y11)),(false,(.rp (.int .i64))),(false,(.rp (.int .i64)))]
def a0P:Ret:=⟨[(.tmp 4,ubM)],[]⟩
def b3V:Env:=⟨21,eqs,tt,gl,[(116,a8F)],[],[],[],[],[]⟩
def a7I:Ann:=.leaf
def vU (a0:tH) (a1:Int) (a2:Int):Option Bool:=o6 (dY a0.1 a1) fun x=>l7 x (l7 (ile a0.2.1
 a2) (some (ilt a2 a0.2.2.1)) (some false)) (some false)
def Yw:FSpec:=mkS a0u a0P fun x=>vU x.1 x.2.1 x.2.2
def a4U:List MG:=[(false,(.dat y12)),(false,(.fn 179 [(.int .i64),(.int .i64)]))]
def a5E:Ret:=⟨[(.tmp 4,uiM),(.tmp 5,ubM)],[]⟩
def b7x:Env:=⟨20,eqs,tt,gl,[(179,Yw)],[],[],[],[],[]⟩
def b3b:Ann:=.seq lfA (.seq (.seq lfA (.blk (.loopR [(4,8),(10,20)] ⟨[(10,uiM)],[]⟩ 0 ⟨[],[]⟩ lfA))) lfA)
def kW (a0:List tH) (a1:I7):Option (Int×Bool):=o6 (U2 (fun(x:Int)=>l7 (ilt x (o8 a0)) (o6 (lat
 a0 x) fun x_1=>o6 (vU x_1 a1.1 a1.2) fun x_2=>l7 x_2 (some (.rt (x,true))) (some (.nx (A7
 .i64 x 1)))) (some (.ex ()))) 0) fun o=>X6 o (fun(y:PUnit)=>some (0,false)) fun r
 =>some r
def b2y:FSpec:=mkS a4U a5E fun x=>kW x.1 x.2
def a9Y:List MG:=[(true,(.dat y15)),uiM,uiM]
def b1z:Ret:=⟨[(.tmp 6,uiM),(.tmp 7,ubM)],[]⟩
def c5C:Env:=⟨14,eqs,tt,gl,[(179,Yw),(69,b2y)],[],[],[],[],[]⟩
def b6r:Ann:=.leaf
def uH (a0:ai) (a1:Int) (a2:Int):Option (Int×Bool):=o6 (kW a0.2.2.2 (a1,a2)) fun x=>
 some x
def c1r:FSpec:=mkS a9Y b1z fun x=>uH x.1 x.2.1 x.2.2
def b8d:List MG:=[(false,(.dat (.int .u64))),(false,(.dat (.int .u64)))]
def a5Y:FSpec:=⟨b8d,[(false,(.dat (.int .u64))),(false,(.dat (.int .u64)))],[],fun x=>jQ x.1 x.2⟩
def a9G:List MG:=[(false,(.dat (.int .u64)))]
def b1h:Ret:=⟨[(.tmp 2,uiM)],[]⟩
def c5j:Env:=⟨25,eqs,tt,gl,[],[],[],[],[],[]⟩
def b5Y:Ann:=.leaf
def pM (a0:Int):Option Int:=l7 (ile 4294967296 a0) (l7 (ile 65536 (jA .u64 a0 32)) (l7 (ile 256 (jA .u64
 (jA .u64 a0 32) 16)) (o6 (sat [0,1,2,2,3,3,3,3,4,4,4,4,4,4,4,4,5,5,5,5,5,5,5,5,5,5,5,5,5,5,5,5,6,6,6,
 6,6,6,6,6,6,6,6,6,6,6,6,6,6,6,6,6,6,6,6,6,6,6,6,6,6,6,6,6,7,7,7,7,7,7,7,7,7,7,7,7,7,7,7,7,7,7,7,7,7,
 7,7,7,7,7,7,7,7,7,7,7,7,7,7,7,7,7,7,7,7,7,7,7,7,7,7,7,7,7,7,7,7,7,7,7,7,7,7,7,7,7,7,7,8,8,8,8,8,8,8,
 8,8,8,8,8,8,8,8,8,8,8,8,8,8,8,8,8,8,8,8,8,8,8,8,8,8,8,8,8,8,8,8,8,8,8,8,8,8,8,8,8,8,8,8,8,8,8,8,8,8,
 8,8,8,8,8,8,8,8,8,8,8,8,8,8,8,8,8,8,8,8,8,8,8,8,8,8,8,8,8,8,8,8,8,8,8,8,8,8,8,8,8,8,8,8,8,8,8,8,8,8,
 8,8,8,8,8,8,8,8,8,8,8,8,8,8,8,8,8,8,8,8,8] (wrap .u8 (jA .u64 (jA .u64 (jA .u64 a0 32) 16) 8)))
 fun x=>some (A7 .i64 (A7 .i64 (A7 .i64 32 16) 8) (wrap .i64 x))) (o6 (sat [0,1,2,2,3,3,3,3,4,
 4,4,4,4,4,4,4,5,5,5,5,5,5,5,5,5,5,5,5,5,5,5,5,6,6,6,6,6,6,6,6,6,6,6,6,6,6,6,6,6,6,6,6,6,6,6,6,6,6,6,
 6,6,6,6,6,7,7,7,7,7,7,7,7,7,7,7,7,7,7,7,7,7,7,7,7,7,7,7,7,7,7,7,7,7,7,7,7,7,7,7,7,7,7,7,7,7,7,7,7,7,
 7,7,7,7,7,7,7,7,7,7,7,7,7,7,7,7,7,7,7,8,8,8,8,8,8,8,8,8,8,8,8,8,8,8,8,8,8,8,8,8,8,8,8,8,8,8,8,8,8,8,
 8,8,8,8,8,8,8,8,8,8,8,8,8,8,8,8,8,8,8,8,8,8,8,8,8,8,8,8,8,8,8,8,8,8,8,8,8,8,8,8,8,8,8,8,8,8,8,8,8,8,
 8,8,8,8,8,8,8,8,8,8,8,8,8,8,8,8,8,8,8,8,8,8,8,8,8,8,8,8,8,8,8,8,8,8,8,8,8,8,8,8,8,8,8,8,8,8,8] (wrap
 .u8 (jA .u64 (jA .u64 a0 32) 16))) fun x=>some (A7 .i64 (A7 .i64 32 16) (wrap .i64 x))))
 (l7 (ile 256 (jA .u64 a0 32)) (o6 (sat [0,1,2,2,3,3,3,3,4,4,4,4,4,4,4,4,5,5,5,5,5,5,5,5,5,5,5,5,5,5,5,
 5,6,6,6,6,6,6,6,6,6,6,6,6,6,6,6,6,6,6,6,6,6,6,6,6,6,6,6,6,6,6,6,6,7,7,7,7,7,7,7,7,7,7,7,7,7,7,7,7,7,
 7,7,7,7,7,7,7,7,7,7,7,7,7,7,7,7,7,7,7,7,7,7,7,7,7,7,7,7,7,7,7,7,7,7,7,7,7,7,7,7,7,7,7,7,7,7,7,8,8,8,
 8,8,8,8,8,8,8,8,8,8,8,8,8,8,8,8,8,8,8,8,8,8,8,8,8,8,8,8,8,8,8,8,8,8,8,8,8,8,8,8,8,8,8,8,8,8,8,8,8,8,
 8,8,8,8,8,8,8,8,8,8,8,8,8,8,8,8,8,8,8,8,8,8,8,8,8,8,8,8,8,8,8,8,8,8,8,8,8,8,8,8,8,8,8,8,8,8,8,8,8,8,
 8,8,8,8,8,8,8,8,8,8,8,8,8,8,8,8,8,8,8,8,8,8,8,8,8] (wrap .u8 (jA .u64 (jA .u64 a0 32) 8))) fun(x:
 Int)=>some (A7 .i64 (A7 .i64 32 8) (wrap .i64 x))) (o6 (sat [0,1,2,2,3,3,3,3,4,4,4,4,4,4,4,4,5,5,5,
 5,5,5,5,5,5,5,5,5,5,5,5,5,6,6,6,6,6,6,6,6,6,6,6,6,6,6,6,6,6,6,6,6,6,6,6,6,6,6,6,6,6,6,6,6,7,7,7,7,7,
 7,7,7,7,7,7,7,7,7,7,7,7,7,7,7,7,7,7,7,7,7,7,7,7,7,7,7,7,7,7,7,7,7,7,7,7,7,7,7,7,7,7,7,7,7,7,7,7,7,7,
 7,7,7,7,7,7,7,7,7,8,8,8,8,8,8,8,8,8,8,8,8,8,8,8,8,8,8,8,8,8,8,8,8,8,8,8,8,8,8,8,8,8,8,8,8,8,8,8,8,8,
 8,8,8,8,8,8,8,8,8,8,8,8,8,8,8,8,8,8,8,8,8,8,8,8,8,8,8,8,8,8,8,8,8,8,8,8,8,8,8,8,8,8,8,8,8,8,8,8,8,8,
 8,8,8,8,8,8,8,8,8,8,8,8,8,8,8,8,8,8,8,8,8,8,8,8,8,8,8,8,8,8,8,8,8,8,8,8,8] (wrap .u8 (jA .u64 a0
 32))) fun x=>some (A7 .i64 32 (wrap .i64 x))))) (l7 (ile 65536 a0) (l7 (ile 256 (jA .u64 a0 16)) (o6 (sat
 [0,1,2,2,3,3,3,3,4,4,4,4,4,4,4,4,5,5,5,5,5,5,5,5,5,5,5,5,5,5,5,5,6,6,6,6,6,6,6,6,6,6,6,6,6,6,6,6,6,
 6,6,6,6,6,6,6,6,6,6,6,6,6,6,6,7,7,7,7,7,7,7,7,7,7,7,7,7,7,7,7,7,7,7,7,7,7,7,7,7,7,7,7,7,7,7,7,7,7,7,
 7,7,7,7,7,7,7,7,7,7,7,7,7,7,7,7,7,7,7,7,7,7,7,7,7,7,7,7,7,8,8,8,8,8,8,8,8,8,8,8,8,8,8,8,8,8,8,8,8,8,
 8,8,8,8,8,8,8,8,8,8,8,8,8,8,8,8,8,8,8,8,8,8,8,8,8,8,8,8,8,8,8,8,8,8,8,8,8,8,8,8,8,8,8,8,8,8,8,8,8,8,
 8,8,8,8,8,8,8,8,8,8,8,8,8,8,8,8,8,8,8,8,8,8,8,8,8,8,8,8,8,8,8,8,8,8,8,8,8,8,8,8,8,8,8,8,8,8,8,8,8,8,
 8,8,8,8,8,8,8] (wrap .u8 (jA .u64 (jA .u64 a0 16) 8))) fun x=>some (A7 .i64 (A7 .i64 (A7
 .i64 0 16) 8) (wrap .i64 x))) (o6 (sat [0,1,2,2,3,3,3,3,4,4,4,4,4,4,4,4,5,5,5,5,5,5,5,5,5,5,5,5,5,5,5,
 5,6,6,6,6,6,6,6,6,6,6,6,6,6,6,6,6,6,6,6,6,6,6,6,6,6,6,6,6,6,6,6,6,7,7,7,7,7,7,7,7,7,7,7,7,7,7,7,7,7,
 7,7,7,7,7,7,7,7,7,7,7,7,7,7,7,7,7,7,7,7,7,7,7,7,7,7,7,7,7,7,7,7,7,7,7,7,7,7,7,7,7,7,7,7,7,7,7,8,8,8,
 8,8,8,8,8,8,8,8,8,8,8,8,8,8,8,8,8,8,8,8,8,8,8,8,8,8,8,8,8,8,8,8,8,8,8,8,8,8,8,8,8,8,8,8,8,8,8,8,8,8,
 8,8,8,8,8,8,8,8,8,8,8,8,8,8,8,8,8,8,8,8,8,8,8,8,8,8,8,8,8,8,8,8,8,8,8,8,8,8,8,8,8,8,8,8,8,8,8,8,8,8,
 8,8,8,8,8,8,8,8,8,8,8,8,8,8,8,8,8,8,8,8,8,8,8,8,8] (wrap .u8 (jA .u64 a0 16))) fun x=>some (A7
 .i64 (A7 .i64 0 16) (wrap .i64 x)))) (l7 (ile 256 a0) (o6 (sat [0,1,2,2,3,3,3,3,4,4,4,4,4,4,4,4,5,5,5,
 5,5,5,5,5,5,5,5,5,5,5,5,5,6,6,6,6,6,6,6,6,6,6,6,6,6,6,6,6,6,6,6,6,6,6,6,6,6,6,6,6,6,6,6,6,7,7,7,7,7,
 7,7,7,7,7,7,7,7,7,7,7,7,7,7,7,7,7,7,7,7,7,7,7,7,7,7,7,7,7,7,7,7,7,7,7,7,7,7,7,7,7,7,7,7,7,7,7,7,7,7,
 7,7,7,7,7,7,7,7,7,8,8,8,8,8,8,8,8,8,8,8,8,8,8,8,8,8,8,8,8,8,8,8,8,8,8,8,8,8,8,8,8,8,8,8,8,8,8,8,8,8,
 8,8,8,8,8,8,8,8,8,8,8,8,8,8,8,8,8,8,8,8,8,8,8,8,8,8,8,8,8,8,8,8,8,8,8,8,8,8,8,8,8,8,8,8,8,8,8,8,8,8,
 8,8,8,8,8,8,8,8,8,8,8,8,8,8,8,8,8,8,8,8,8,8,8,8,8,8,8,8,8,8,8,8,8,8,8,8,8] (wrap .u8 (jA .u64 a0
 8))) fun x=>some (A7 .i64 (A7 .i64 0 8) (wrap .i64 x))) (o6 (sat [0,1,2,2,3,3,3,3,4,4,4,4,4,4,4,
 4,5,5,5,5,5,5,5,5,5,5,5,5,5,5,5,5,6,6,6,6,6,6,6,6,6,6,6,6,6,6,6,6,6,6,6,6,6,6,6,6,6,6,6,6,6,6,6,6,7,
 7,7,7,7,7,7,7,7,7,7,7,7,7,7,7,7,7,7,7,7,7,7,7,7,7,7,7,7,7,7,7,7,7,7,7,7,7,7,7,7,7,7,7,7,7,7,7,7,7,7,
 7,7,7,7,7,7,7,7,7,7,7,7,7,8,8,8,8,8,8,8,8,8,8,8,8,8,8,8,8,8,8,8,8,8,8,8,8,8,8,8,8,8,8,8,8,8,8,8,8,8,
 8,8,8,8,8,8,8,8,8,8,8,8,8,8,8,8,8,8,8,8,8,8,8,8,8,8,8,8,8,8,8,8,8,8,8,8,8,8,8,8,8,8,8,8,8,8,8,8,8,8,
 8,8,8,8,8,8,8,8,8,8,8,8,8,8,8,8,8,8,8,8,8,8,8,8,8,8,8,8,8,8,8,8,8,8,8,8,8,8,8,8,8] (wrap .u8 a0)) fun
 (x:Int)=>some (A7 .i64 0 (wrap .i64 x)))))
def c1e:FSpec:=mkS a9G b1h fun x=>pM x
def b0E:List MG:=[(false,(.dat (.int .u64)))]
def b2f:Ret:=⟨[(.tmp 2,uiM)],[]⟩
def c6l:Env:=⟨6,eqs,tt,gl,[(139,c1e)],[],[],[],[],[]⟩
def b6X:Ann:=.leaf
def eF (a0:Int):Option Int:=o6 (pM a0) fun x=>some (G8 .i64 64 x)
def c1O:FSpec:=mkS b0E b2f fun x=>eF x
def b0t:List MG:=[(false,(.dat (.int .u64))),(false,(.dat (.int .u64))),(false,(.dat (.int .u64)))]
def b1U:Ret:=⟨[(.tmp 6,(false,(.dat (.int .u64)))),(.tmp 7,(false,(.dat (.int .u64))))],[]⟩
def c6a:Env:=⟨135,eqs,tt,gl,[(207,c1O)],[],[],[],[],[]⟩
def b6M:Ann:=.seq lfA (.seq (.join [(19,22)] ⟨[],[]⟩ lfA) (.seq (.join [(22,26)] ⟨[],[]⟩ lfA) (.seq lfA (.seq lfA (.seq lfA (.seq lfA (.seq lfA (.seq lfA (.seq lfA (.seq lfA (.seq lfA (.seq lfA (.seq lfA (.seq (.blk (.loop [(15,17),(67,86)] ⟨[(15,(false,(.dat (.int .u64)))),(16,(false,(.dat (.int .u64))))],[]⟩ 0 ⟨[(15,(false,(.dat (.int .u64))))],[]⟩ lfA)) (.seq lfA (.seq lfA (.seq lfA (.seq (.blk (.loop [(16,17),(18,19),(102,121)] ⟨[(16,(false,(.dat (.int .u64)))),(18,(false,(.dat (.int .u64))))],[]⟩ 2 ⟨[(18,(false,(.dat (.int .u64))))],[]⟩ lfA)) lfA))))))))))))))))))
def dR (a0:Int) (a1:Int) (a2:Int):Option I7:=o6 (l7 (ieq a2 0) none (some ())) fun x=>o6 (l7
 (ile a2 a0) none (some ())) fun x=>l7 (ieq a0 0) (o6 (uZ .u64 a1 a2) fun x=>o6 (AO a1 a2) fun
 (x_1:Int)=>some (x,x_1)) (o6 (eF a2) fun x=>o6 (Na .u64 a2 (wrap .u64 x)) fun x_1
 =>o6 (Na .u64 a0 (wrap .u64 x)) fun x_2=>o6 (Nb .u64 a1 (G8 .u64 64 (wrap .u64 x))) fun
 (x_3:Int)=>o6 (Na .u64 a1 (wrap .u64 x)) fun x_4=>o6 (uZ .u64 (ior .u64 x_2 x_3) (jA
 .u64 x_1 32)) fun x_5=>o6 (X5 (fun(x:I7)=>l7 (ile 4294967296 x.1) (l7 (ile 4294967296 (A7 .u64 x.2
 (jA .u64 x_1 32))) (some (.inr (G8 .u64 x.1 1))) (some (.inl (G8 .u64 x.1 1,A7 .u64 x.2 (jA .u64
 x_1 32))))) (l7 (ilt (A7 .u64 (W9 .u64 4294967296 x.2) (jA .u64 x_4 32)) (W9 .u64 x.1 (Va .u64 x_1
 4294967295))) (l7 (ile 4294967296 (A7 .u64 x.2 (jA .u64 x_1 32))) (some (.inr (G8 .u64 x.1 1))) (some (.inl (G8
 .u64 x.1 1,A7 .u64 x.2 (jA .u64 x_1 32))))) (some (.inr x.1)))) (x_5,G8 .u64 (ior .u64 x_2 x_3) (W9
 .u64 x_5 (jA .u64 x_1 32)))) fun y=>o6 (uZ .u64 (G8 .u64 (A7 .u64 (W9 .u64 (ior
 .u64 x_2 x_3) 4294967296) (jA .u64 x_4 32)) (W9 .u64 y x_1)) (jA .u64 x_1 32)) fun x_6=>o6 (X5 (fun
 (x:I7)=>l7 (ile 4294967296 x.2) (l7 (ile 4294967296 (A7 .u64 x.1 (jA .u64 x_1 32))) (some (.inr (G8 .u64
 x.2 1))) (some (.inl (A7 .u64 x.1 (jA .u64 x_1 32),G8 .u64 x.2 1)))) (l7 (ilt (A7 .u64 (W9 .u64
 4294967296 x.1) (Va .u64 x_4 4294967295)) (W9 .u64 x.2 (Va .u64 x_1 4294967295))) (l7 (ile 4294967296 (A7 .u64
 x.1 (jA .u64 x_1 32))) (some (.inr (G8 .u64 x.2 1))) (some (.inl (A7 .u64 x.1 (jA .u64 x_1 32),G8
 .u64 x.2 1)))) (some (.inr x.2)))) (G8 .u64 (G8 .u64 (A7 .u64 (W9 .u64 (ior .u64 x_2 x_3)
 4294967296) (jA .u64 x_4 32)) (W9 .u64 y x_1)) (W9 .u64 x_6 (jA .u64 x_1 32)),x_6)) fun y_1=>o6
 (Nb .u64 (G8 .u64 (A7 .u64 (W9 .u64 (G8 .u64 (A7 .u64 (W9 .u64 (ior .u64 x_2
 x_3) 4294967296) (jA .u64 x_4 32)) (W9 .u64 y x_1)) 4294967296) (Va .u64 x_4 4294967295)) (W9 .u64 y_1 x_1))
 (wrap .u64 x)) fun x=>some (A7 .u64 (W9 .u64 y 4294967296) y_1,x))
def a8I:FSpec:=mkS b0t b1U fun x=>dR x.1 x.2.1 x.2.2
def b0k:List MG:=[uiM,uiM]
def b1L:Ret:=⟨[(.tmp 4,uiM),(.tmp 5,uiM),(.tmp 6,ubM)],[]⟩
def c5Q:Env:=⟨47,eqs,tt,gl,[(193,a5Y),(194,a8I)],[],[],[],[],[]⟩
def b6D:Ann:=.leaf
def kV (a0:Int) (a1:Int):Option (Int×Int×Bool):=l7 (ilt a1 0) (o6 (jQ (wrap .u64 a0) (G8 .u64
 0 (wrap .u64 a1))) fun x=>l7 (ile 1000000 x.1) (some (0,0,false)) (o6 (dR x.1 x.2 1000000) fun x=>
 l7 (ilt 1000000000000000 x.1) (some (0,0,false)) (l7 (ilt a1 0) (some (G8 .i64 0 (wrap .i64 x.1),G8 .i64 0 (wrap
 .i64 x.2),true)) (some (wrap .i64 x.1,wrap .i64 x.2,true))))) (o6 (jQ (wrap .u64 a0) (wrap .u64 a1))
 fun x=>l7 (ile 1000000 x.1) (some (0,0,false)) (o6 (dR x.1 x.2 1000000) fun x=>l7 (ilt
 1000000000000000 x.1) (some (0,0,false)) (l7 (ilt a1 0) (some (G8 .i64 0 (wrap .i64 x.1),G8 .i64 0 (wrap .i64
 x.2),true)) (some (wrap .i64 x.1,wrap .i64 x.2,true)))))
def c1B:FSpec:=mkS b0k b1L fun x=>kV x.1 x.2
def b0F:List MG:=[uiM]
def b2g:Ret:=⟨[(.tmp 2,ubM)],[]⟩
def c6m:Env:=⟨9,eqs,tt,gl,[],[],[],[],[],[]⟩
def b6Y:Ann:=.leaf
def iU (a0:Int):Option Bool:=l7 (ile 0 a0) (some (ile a0 5)) (some false)
def a8L:FSpec:=mkS b0F b2g fun x=>iU x
def b0G:List MG:=[uiM,uiM]
def b2h:Ret:=⟨[(.tmp 4,ubM)],[]⟩
def c6n:Env:=⟨14,eqs,tt,gl,[],[],[],[],[],[]⟩
def b6Z:Ann:=.leaf
def eG (a0:Int) (a1:Int):Option Bool:=l7 (ilt a1 a0) (some true) (some (ilt a0 (G8 .i64 0 a1)))
def a8M:FSpec:=mkS b0G b2h fun x=>eG x.1 x.2
def b0H:List MG:=[uiM]
def b2i:Ret:=⟨[(.tmp 2,(false,(.dat (.int .u64))))],[]⟩
def c6o:Env:=⟨10,eqs,tt,gl,[],[],[],[],[],[]⟩
def b7a:Ann:=.leaf
def dU (a0:Int):Option Int:=l7 (ilt a0 0) (some (G8 .u64 0 (wrap .u64 a0))) (some (wrap .u64 a0))
def b4B:FSpec:=mkS b0H b2i fun x=>dU x
def b0I:List MG:=[(false,(.dat (.int .u64))),(false,(.dat (.int .u64))),(false,(.dat (.int .u64))),ubM,uiM]
def b2j:Ret:=⟨[(.tmp 10,(false,(.dat (.int .u64))))],[]⟩
def c6p:Env:=⟨55,eqs,tt,gl,[],[],[],[],[],[]⟩
def b7b:Ann:=.leaf
def fC (a0:Int) (a1:Int) (a2:Int) (a3:Bool) (a4:Int):Option Int:=l7 (ieq a1 0) (some a0) (l7 (ieq a4 0) (l7
 a3 (some (A7 .u64 a0 1)) (some a0)) (l7 (ieq a4 1) (l7 (E5 a3) (some (A7 .u64 a0 1)) (some a0)) (l7 (ieq a4 3) (some
 (A7 .u64 a0 1)) (l7 (ieq a4 4) (l7 (ile (G8 .u64 a2 a1) a1) (some (A7 .u64 a0 1)) (some a0)) (l7 (ieq a4 5)
 (l7 (ilt (G8 .u64 a2 a1) a1) (some (A7 .u64 a0 1)) (l7 (ieq a1 (G8 .u64 a2 a1)) (l7 (ieq (dV a0 2) 1) (some
 (A7 .u64 a0 1)) (some a0)) (some a0))) (some a0))))))
def b4C:FSpec:=mkS b0I b2j fun x=>fC x.1 x.2.1 x.2.2.1 x.2.2.2.1 x.2.2.2.2
def b0J:List MG:=[(false,(.dat (.int .u64))),ubM]
def b2k:Ret:=⟨[(.tmp 4,uiM)],[]⟩
def c6q:Env:=⟨11,eqs,tt,gl,[],[],[],[],[],[]⟩
def b7c:Ann:=.leaf
def qW (a0:Int) (a1:Bool):Option Int:=l7 a1 (some (G8 .i64 0 (wrap .i64 a0))) (some (wrap .i64 a0))
def b4D:FSpec:=mkS b0J b2k fun x=>qW x.1 x.2
def b0u:List MG:=[uiM,uiM,uiM]
def b1V:Ret:=⟨[(.tmp 6,uiM),(.tmp 7,uiM)],[]⟩
def c6b:Env:=⟨45,eqs,tt,gl,[(208,a8L),(209,a8M),(210,b4B),(211,b4C),(212,b4D)],[],[],[],[],[]⟩
def b6N:Ann:=.leaf
def aW (a0:Int) (a1:Int) (a2:Int):Option I7:=o6 (iU a2) fun x=>l7 (E5 x) (some (0,1)) (l7
 (ieq a1 0) (some (0,12)) (o6 (eG a0 4611686018427387904) fun x=>l7 x (some (0,3)) (o6 (eG a1
 4611686018427387904) fun x=>l7 x (some (0,3)) (o6 (dU a0) fun x=>o6 (dU a1) fun x_1
 =>o6 (uZ .u64 x x_1) fun x_2=>o6 (AO x x_1) fun x=>o6 (fC x_2 x x_1 (E5 (bZ (ilt a0
 0) (ilt a1 0))) a2) fun x=>o6 (qW x (E5 (bZ (ilt a0 0) (ilt a1 0)))) fun x=>some (x,0)))))
def a5Z:FSpec:=mkS b0u b1V fun x=>aW x.1 x.2.1 x.2.2
def b0l:List MG:=[uiM,uiM,uiM]
def b1M:Ret:=⟨[(.tmp 6,uiM),(.tmp 7,uiM)],[]⟩
def c5R:Env:=⟨60,eqs,tt,gl,[(195,a5Z)],[],[],[],[],[]⟩
def b6E:Ann:=.leaf
def rE (a0:Int) (a1:Int) (a2:Int):Option I7:=l7 (ilt (A7 .i64 a0 (aN .i64 a1 1000000))
 (-2000000000000000)) (some (0,3)) (l7 (ilt 2000000000000000 (A7 .i64 a0 (aN .i64 a1 1000000))) (some (0,3)) (l7 (ilt 1
 (A7 .i64 a0 (aN .i64 a1 1000000))) (o6 (aW (A7 .i64 (W9 .i64 (A7 .i64 (dV (A7
 .i64 a0 (aN .i64 a1 1000000)) 2) 2) 1000000) (dV a1 1000000)) 1000000 a2) fun x=>l7 (E5 (ieq x.2 0)) (some (0,
 x.2)) (l7 (ilt (A7 .i64 (G8 .i64 (A7 .i64 a0 (aN .i64 a1 1000000)) (A7 .i64 (dV (A7 .i64
 a0 (aN .i64 a1 1000000)) 2) 2)) x.1) (-1000000000000000)) (some (0,3)) (l7 (ilt 1000000000000000 (A7 .i64 (G8 .i64
 (A7 .i64 a0 (aN .i64 a1 1000000)) (A7 .i64 (dV (A7 .i64 a0 (aN .i64 a1 1000000)) 2) 2)) x.1)) (some
 (0,3)) (some (A7 .i64 (G8 .i64 (A7 .i64 a0 (aN .i64 a1 1000000)) (A7 .i64 (dV (A7 .i64 a0
 (aN .i64 a1 1000000)) 2) 2)) x.1,0))))) (l7 (ilt (A7 .i64 a0 (aN .i64 a1 1000000)) (-1)) (o6 (aW (A7
 .i64 (W9 .i64 (G8 .i64 (dV (A7 .i64 a0 (aN .i64 a1 1000000)) 2) 2) 1000000) (dV a1 1000000)) 1000000
 a2) fun x=>l7 (E5 (ieq x.2 0)) (some (0,x.2)) (l7 (ilt (A7 .i64 (G8 .i64 (A7 .i64 a0 (aN
 .i64 a1 1000000)) (G8 .i64 (dV (A7 .i64 a0 (aN .i64 a1 1000000)) 2) 2)) x.1) (-1000000000000000)) (some (0,3))
 (l7 (ilt 1000000000000000 (A7 .i64 (G8 .i64 (A7 .i64 a0 (aN .i64 a1 1000000)) (G8 .i64 (dV (A7
 .i64 a0 (aN .i64 a1 1000000)) 2) 2)) x.1)) (some (0,3)) (some (A7 .i64 (G8 .i64 (A7 .i64 a0 (aN
 .i64 a1 1000000)) (G8 .i64 (dV (A7 .i64 a0 (aN .i64 a1 1000000)) 2) 2)) x.1,0))))) (o6 (aW (A7
 .i64 (W9 .i64 (dV (A7 .i64 a0 (aN .i64 a1 1000000)) 2) 1000000) (dV a1 1000000)) 1000000 a2) fun x=>
 l7 (E5 (ieq x.2 0)) (some (0,x.2)) (l7 (ilt (A7 .i64 (G8 .i64 (A7 .i64 a0 (aN .i64 a1 1000000)) (dV
 (A7 .i64 a0 (aN .i64 a1 1000000)) 2)) x.1) (-1000000000000000)) (some (0,3)) (l7 (ilt 1000000000000000 (A7 .i64 (G8
 .i64 (A7 .i64 a0 (aN .i64 a1 1000000)) (dV (A7 .i64 a0 (aN .i64 a1 1000000)) 2)) x.1)) (some (0,3))
 (some (A7 .i64 (G8 .i64 (A7 .i64 a0 (aN .i64 a1 1000000)) (dV (A7 .i64 a0 (aN .i64 a1
 1000000)) 2)) x.1,0))))))))
def c1C:FSpec:=mkS b0l b1M fun x=>rE x.1 x.2.1 x.2.2
def a9Z:List MG:=[(true,(.dat y15)),uiM,uiM,uiM]
def b1A:Ret:=⟨[(.tmp 8,uiM),(.tmp 9,uiM)],[]⟩
def c5E:Env:=⟨90,eqs,tt,gl,[(116,a8F),(180,c1B),(181,c1C)],[],[],[],[],[]⟩
def b6s:Ann:=.seq lfA (.seq (.joinR [(8,10),(19,25)] ⟨[],[]⟩ lfA) (.seq (.joinR [(8,10),(25,35)] ⟨[],[]⟩ lfA) (.seq (.joinR [(8,10),(35,41)] ⟨[],[]⟩ lfA) (.seq lfA (.seq (.seq lfA (.blk (.loopR [(8,12),(13,19),(44,84)] ⟨[(10,uiM),(11,uiM),(44,uiM)],[]⟩ 0 ⟨[(10,uiM),(11,uiM)],[]⟩ lfA))) lfA)))))
def ru (a0:ai) (a1:Int) (a2:Int) (a3:Int):Option I7:=o6 (l7 (ilt a3 0) (some (.inr (0,1))) (l7 (ilt 5 a3)
 (some (.inr (0,1))) (some (.inl ())))) fun o=>X6 o (fun(x:PUnit)=>o6 (l7 (E5 (V8 (ieq a0.2.1.1 3)
 (ieq a0.2.1.2 0))) (some (.inr (0,8))) (l7 (E5 (V8 (ieq a0.2.2.1.1 4) (ieq a0.2.2.1.2 0))) (some (.inr (0,8))) (some (.inl
 ())))) fun o=>X6 o (fun(x:PUnit)=>o6 (l7 (ilt a2 (-1000000000000000)) (some (.inr (0,3))) (l7 (ilt
 1000000000000000 a2) (some (.inr (0,3))) (some (.inl ())))) fun o=>X6 o (fun(x:PUnit)=>o6 (U2 (fun(x
 :L6)=>l7 (ilt x.2.2 (o8 a0.2.2.2)) (o6 (lat a0.2.2.2 x.2.2) fun x_1=>o6 (dY x_1.1 a1) fun x_2
 =>l7 (E5 x_2) (some (.nx (x.1,x.2.1,A7 .i64 x.2.2 1))) (l7 (ile (kG x_1.2.2.1 a2) (gV x_1.2.1 0)) (some (.nx (x.1,
 x.2.1,A7 .i64 x.2.2 1))) (o6 (kV (G8 .i64 (kG x_1.2.2.1 a2) (gV x_1.2.1 0)) x_1.2.2.2) fun x_3=>l7 (E5 x_3.2.2) (some (.rt (0,3))) (some (.nx (A7 .i64 x.1 x_3.1,A7 .i64 x.2.1 x_3.2.1,A7 .i64
 x.2.2 1)))))) (some (.ex (x.1,x.2.1)))) (0,0,0)) fun o=>X6 o (fun(y:I7)=>o6 (rE y.1 y.2 a3) fun(x
 :I7)=>some x) fun r=>some r) fun r=>some r) fun r=>some r) fun r=>some r
def c1s:FSpec:=mkS a9Z b1A fun x=>ru x.1 x.2.1 x.2.2.1 x.2.2.2
def b0m:List MG:=[ubM]
def b1N:Ret:=⟨[(.cell 2 23,(true,(.dat y1)))],[]⟩
def c5S:Env:=⟨6,eqs,tt,gl,[],[],[],[],[],[]⟩
def b6F:Ann:=.leaf
def iq (a0:Bool):Option L6:=l7 a0 (some (1,0,1)) (some (1,0,0))
def b4x:FSpec:=mkS b0m b1N fun x=>iq x
def b0v:List MG:=[uiM]
def b1W:Ret:=⟨[(.tmp 2,ubM)],[]⟩
def c6c:Env:=⟨9,eqs,tt,gl,[],[],[],[],[],[]⟩
def b6O:Ann:=.leaf
def mi (a0:Int):Option Bool:=l7 (ile 0 a0) (some (ile a0 109572)) (some false)
def a8J:FSpec:=mkS b0v b1W fun x=>mi x
def b0K:List MG:=[uiM]
def b2l:Ret:=⟨[(.tmp 2,uiM)],[]⟩
def c6r:Env:=⟨11,eqs,tt,gl,[],[],[],[],[],[]⟩
def b7d:Ann:=.leaf
def mg (a0:Int):Option Int:=some (A7 .i64 (G8 .i64 (aN .i64 a0 4) (aN .i64 a0 100)) (aN
 .i64 a0 400))
def c1P:FSpec:=mkS b0K b2l fun x=>mg x
def b0w:List MG:=[uiM]
def b1X:Ret:=⟨[(.tmp 2,uiM)],[]⟩
def c6d:Env:=⟨12,eqs,tt,gl,[(213,c1P)],[],[],[],[],[]⟩
def b6P:Ann:=.leaf
def ik (a0:Int):Option Int:=o6 (mg (G8 .i64 a0 1)) fun x=>o6 (mg 1899) fun(x_1:
 Int)=>some (G8 .i64 (A7 .i64 (W9 .i64 (G8 .i64 a0 1900) 365) x) x_1)
def b4A:FSpec:=mkS b0w b1X fun x=>ik x
def b0L:List MG:=[uiM]
def b2m:Ret:=⟨[(.tmp 2,ubM)],[]⟩
def c6s:Env:=⟨16,eqs,tt,gl,[],[],[],[],[],[]⟩
def b7e:Ann:=.leaf
def wH (a0:Int):Option Bool:=l7 (ieq (dV a0 4) 0) (l7 (E5 (ieq (dV a0 100) 0)) (some true) (some (ieq (dV a0 400) 0)))
 (some false)
def c1Q:FSpec:=mkS b0L b2m fun x=>wH x
def b0x:List MG:=[uiM,uiM]
def b1Y:Ret:=⟨[(.tmp 4,uiM)],[]⟩
def c6e:Env:=⟨21,eqs,tt,gl,[(214,c1Q)],[],[],[],[],[]⟩
def b6Q:Ann:=.leaf
def aZ (a0:Int) (a1:Int):Option Int:=l7 (ilt a1 1) (some 0) (l7 (ilt 12 a1) (some 0) (l7 (ieq a1 2) (o6 (wH
 a0) fun x=>l7 x (some 29) (o6 (lat [31,28,31,30,31,30,31,31,30,31,30,31] (G8 .i64 a1 1)) fun x=>some
 x)) (o6 (lat [31,28,31,30,31,30,31,31,30,31,30,31] (G8 .i64 a1 1)) fun x=>some x)))
def a8K:FSpec:=mkS b0x b1Y fun x=>aZ x.1 x.2
def b0n:List MG:=[uiM]
def b1O:Ret:=⟨[(.tmp 2,uiM),(.tmp 3,uiM),(.tmp 4,uiM)],[]⟩
def c5T:Env:=⟨45,eqs,tt,gl,[(196,a8J),(197,b4A),(198,a8K)],[],[],[],[],[]⟩
def b6G:Ann:=.seq lfA (.seq lfA (.seq lfA (.seq (.blk (.loop [(5,6),(15,22)] ⟨[(5,uiM)],[]⟩ 0 ⟨[(5,uiM)],[]⟩ lfA)) (.seq lfA (.seq (.seq lfA (.blk (.loopR [(2,5),(6,9),(26,45)] ⟨[(6,uiM),(26,uiM)],[]⟩ 2 ⟨[],[]⟩ lfA))) lfA)))))
def mf (a0:Int):Option L6:=o6 (mi a0) fun x=>l7 (E5 x) (some (0,0,0)) (o6 (X5 (fun(x:Int)=>
 o6 (ik (A7 .i64 x 1)) fun x_1=>l7 (ile x_1 a0) (some (.inl (A7 .i64 x 1))) (some (.inr x))) (A7
 .i64 1900 (aN .i64 a0 366))) fun y=>o6 (ik y) fun x=>o6 (U2 (fun(x:I7)=>l7 (ilt
 x.2 12) (o6 (aZ y (A7 .i64 x.2 1)) fun x_1=>l7 (ilt x.1 x_1) (some (.rt (y,A7 .i64 x.2 1,A7
 .i64 x.1 1))) (some (.nx (G8 .i64 x.1 x_1,A7 .i64 x.2 1)))) (some (.ex ()))) (G8 .i64 a0 x,0)) fun
 (o:PUnit⊕L6)=>X6 o (fun(y:PUnit)=>some (0,0,0)) fun r=>some r)
def a8H:FSpec:=mkS b0n b1O fun x=>mf x
def b0a:List MG:=[uiM,(true,(.dat y1))]
def b1B:Ret:=⟨[(.cell 4 23,(true,(.dat y1)))],[]⟩
def c5F:Env:=⟨36,eqs,tt,gl,[(182,b4x),(183,a8H)],[],[],[],[],[]⟩
def b6t:Ann:=.leaf
def uX (a0:Int) (a1:L6):Option L6:=l7 (ieq a0 10) (some (a1.1,0,G8 .i64 0 a1.2.2)) (l7 (ieq a0 25) (o6
 (iq (ieq a1.2.2 0)) fun x=>some x) (o6 (mf a1.2.2) fun x=>l7 (ieq a0 31) (some (2,0,x.1)) (some (2,
 0,x.2.1))))
def c1t:FSpec:=mkS b0a b1B fun x=>uX x.1 x.2
def b0y:List MG:=[uiM,uiM]
def b1Z:Ret:=⟨[(.tmp 4,uiM),(.tmp 5,uiM)],[]⟩
def c6f:Env:=⟨38,eqs,tt,gl,[(193,a5Y)],[],[],[],[],[]⟩
def b6R:Ann:=.leaf
def nJ (a0:Int) (a1:Int):Option I7:=o6 (jQ (wrap .u64 (gV a0 (G8 .i64 0 a0))) (wrap .u64 (gV
 a1 (G8 .i64 0 a1)))) fun x=>l7 (E5 (ieq x.1 0)) (some (0,3)) (l7 (ilt 1000000000000000 x.2) (some (0,3)) (l7 (E5
 (bZ (ilt a0 0) (ilt a1 0))) (some (G8 .i64 0 (wrap .i64 x.2),0)) (some (wrap .i64 x.2,0))))
def c1H:FSpec:=mkS b0y b1Z fun x=>nJ x.1 x.2
def b0M:List MG:=[uiM,uiM,uiM,uiM]
def b2n:Ret:=⟨[(.tmp 8,uiM),(.tmp 9,uiM)],[]⟩
def c6t:Env:=⟨72,eqs,tt,gl,[(208,a8L),(209,a8M),(210,b4B),(193,a5Y),(194,a8I),(211,b4C),(212,b4D)],[],[],[],[],[]⟩
def b7f:Ann:=.seq lfA (.seq lfA (.seq lfA (.seq (.joinR [(8,10),(21,31)] ⟨[],[]⟩ lfA) lfA)))
def uC (a0:Int) (a1:Int) (a2:Int) (a3:Int):Option I7:=o6 (iU a3) fun x=>l7 (E5 x) (some (0,
 1)) (l7 (ieq a2 0) (some (0,12)) (o6 (o6 (eG a0 1000000000000000) fun x=>l7 x (some (.inr (0,3))) (o6
 (eG a1 1000000000) fun x=>l7 x (some (.inr (0,3))) (o6 (eG a2 1000000000) fun x=>l7 x (some
 (.inr (0,3))) (some (.inl ()))))) fun o=>X6 o (fun(x:PUnit)=>o6 (dU a0) fun x=>
 o6 (dU a1) fun x_1=>o6 (jQ x x_1) fun x=>o6 (dU a2) fun x_2=>l7 (ile x_2
 x.1) (some (0,3)) (o6 (dR x.1 x.2 x_2) fun x=>l7 (ilt 1000000000000000 x.1) (some (0,3)) (o6
 (fC x.1 x.2 x_2 (E5 (bZ (E5 (bZ (ilt a0 0) (ilt a1 0))) (ilt a2 0))) a3) fun x=>l7 (ilt 1000000000000000 x)
 (some (0,3)) (o6 (qW x (E5 (bZ (E5 (bZ (ilt a0 0) (ilt a1 0))) (ilt a2 0)))) fun x=>some (x,0))))) fun r
 =>some r))
def c1R:FSpec:=mkS b0M b2n fun x=>uC x.1 x.2.1 x.2.2.1 x.2.2.2
def b0z:List MG:=[uiM,uiM,uiM]
def b2a:Ret:=⟨[(.tmp 6,uiM),(.tmp 7,uiM)],[]⟩
def c6g:Env:=⟨14,eqs,tt,gl,[(215,c1R)],[],[],[],[],[]⟩
def b6S:Ann:=.leaf
def vO (a0:Int) (a1:Int) (a2:Int):Option I7:=o6 (uC a0 a1 1000000 a2) fun x=>some x
def c1I:FSpec:=mkS b0z b2a fun x=>vO x.1 x.2.1 x.2.2
def b0N:List MG:=[uiM]
def b2o:Ret:=⟨[(.tmp 2,ubM)],[]⟩
def c6u:Env:=⟨9,eqs,tt,gl,[],[],[],[],[],[]⟩
def b7g:Ann:=.leaf
def qX (a0:Int):Option Bool:=l7 (ile 0 a0) (some (ile a0 5)) (some false)
def b4E:FSpec:=mkS b0N b2o fun x=>qX x
def b0O:List MG:=[uiM,uiM]
def b2p:Ret:=⟨[(.tmp 4,ubM)],[]⟩
def c6v:Env:=⟨14,eqs,tt,gl,[],[],[],[],[],[]⟩
def b7h:Ann:=.leaf
def mQ (a0:Int) (a1:Int):Option Bool:=l7 (ilt a1 a0) (some true) (some (ilt a0 (G8 .i64 0 a1)))
def b4F:FSpec:=mkS b0O b2p fun x=>mQ x.1 x.2
def b0A:List MG:=[uiM,uiM,uiM]
def b2b:Ret:=⟨[(.tmp 6,uiM),(.tmp 7,uiM)],[]⟩
def c6h:Env:=⟨33,eqs,tt,gl,[(216,b4E),(217,b4F),(195,a5Z)],[],[],[],[],[]⟩
def b6T:Ann:=.leaf
def Bh (a0:Int) (a1:Int) (a2:Int):Option I7:=o6 (qX a2) fun x=>l7 (E5 x) (some (0,1)) (o6
 (mQ a0 1000000000) fun x=>l7 x (some (0,3)) (o6 (mQ a1 1000000000) fun x=>l7 x (some (0,3)) (o6
 (aW (W9 .i64 a0 a1) 1000000 a2) fun x=>l7 (E5 (ieq x.2 0)) (some (0,x.2)) (o6 (mQ x.1 1000000000)
 fun x_1=>l7 x_1 (some (0,3)) (some (x.1,0))))))
def c1J:FSpec:=mkS b0A b2b fun x=>Bh x.1 x.2.1 x.2.2
def b0B:List MG:=[uiM,uiM,uiM]
def b2c:Ret:=⟨[(.tmp 6,uiM),(.tmp 7,uiM)],[]⟩
def c6i:Env:=⟨38,eqs,tt,gl,[(208,a8L),(209,a8M),(195,a5Z)],[],[],[],[],[]⟩
def b6U:Ann:=.leaf
def oL (a0:Int) (a1:Int) (a2:Int):Option I7:=o6 (iU a2) fun x=>l7 (E5 x) (some (0,1)) (l7
 (ilt a1 1) (some (0,12)) (o6 (eG a0 1000000000000000) fun x=>l7 x (some (0,3)) (l7 (ilt 1000000000000000 a1) (some
 (0,3)) (o6 (aW a0 a1 a2) fun x=>l7 (E5 (ieq x.2 0)) (some (0,x.2)) (o6 (eG (W9 .i64 x.1 a1)
 1000000000000000) fun x_1=>l7 x_1 (some (0,3)) (some (W9 .i64 x.1 a1,0)))))))
def c1K:FSpec:=mkS b0B b2c fun x=>oL x.1 x.2.1 x.2.2
def b0P:List MG:=[(false,(.dat (.int .u64))),(false,(.dat (.int .u64))),(false,(.dat (.int .u64))),ubM,uiM]
def b2q:Ret:=⟨[(.tmp 10,ubM)],[]⟩
def c6w:Env:=⟨49,eqs,tt,gl,[],[],[],[],[],[]⟩
def b7i:Ann:=.leaf
def sZ (a0:Int) (a1:Int) (a2:Int) (a3:Bool) (a4:Int):Option Bool:=l7 (ieq a1 0) (some false) (l7 (ieq a4 0) (some a3)
 (l7 (ieq a4 1) (some (E5 a3)) (l7 (ieq a4 3) (some true) (l7 (ieq a4 4) (some (ile (G8 .u64 a2 a1) a1)) (l7 (ieq a4 5) (l7
 (ilt (G8 .u64 a2 a1) a1) (some true) (l7 (ieq a1 (G8 .u64 a2 a1)) (some (ieq (dV a0 2) 1)) (some false))) (some false))))))
def c1S:FSpec:=mkS b0P b2q fun x=>sZ x.1 x.2.1 x.2.2.1 x.2.2.2.1 x.2.2.2.2
def b0C:List MG:=[uiM,uiM,uiM]
def b2d:Ret:=⟨[(.tmp 6,uiM),(.tmp 7,uiM)],[]⟩
def c6j:Env:=⟨73,eqs,tt,gl,[(216,b4E),(217,b4F),(193,a5Y),(194,a8I),(218,c1S)],[],[],[],[],[]⟩
def b6V:Ann:=.leaf
def mP (a0:Int) (a1:Int) (a2:Int):Option I7:=o6 (qX a2) fun x=>l7 (E5 x) (some (0,1)) (l7
 (ieq a1 0) (some (0,12)) (o6 (mQ a0 1000000000000000) fun x=>l7 x (some (0,3)) (o6 (mQ a1 1000000000000000)
 fun x=>l7 x (some (0,3)) (o6 (jQ (wrap .u64 (gV a0 (G8 .i64 0 a0))) 1000000) fun x=>l7 (ile
 (wrap .u64 (gV a1 (G8 .i64 0 a1))) x.1) (some (0,3)) (o6 (dR x.1 x.2 (wrap .u64 (gV a1 (G8 .i64
 0 a1)))) fun x=>l7 (ilt 1000000000 x.1) (some (0,3)) (o6 (sZ x.1 x.2 (wrap .u64 (gV a1 (G8 .i64 0
 a1))) (E5 (bZ (ilt a0 0) (ilt a1 0))) a2) fun x_1=>l7 x_1 (l7 (ilt 1000000000 (A7 .i64 (wrap .i64 x.1) 1)) (some
 (0,3)) (l7 (E5 (bZ (ilt a0 0) (ilt a1 0))) (some (G8 .i64 0 (A7 .i64 (wrap .i64 x.1) 1),0)) (some (A7 .i64
 (wrap .i64 x.1) 1,0)))) (l7 (ilt 1000000000 (wrap .i64 x.1)) (some (0,3)) (l7 (E5 (bZ (ilt a0 0) (ilt a1 0))) (some (G8
 .i64 0 (wrap .i64 x.1),0)) (some (wrap .i64 x.1,0))))))))))
def c1M:FSpec:=mkS b0C b2d fun x=>mP x.1 x.2.1 x.2.2
def b0o:List MG:=[(true,(.dat y0)),(true,(.dat y1)),(true,(.dat y1))]
def b1P:Ret:=⟨[(.cell 6 23,(true,(.dat y1))),(.tmp 7,uiM)],[]⟩
def c5V:Env:=⟨105,eqs,tt,gl,[(199,c1H),(200,c1I),(201,c1J),(202,c1K),(195,a5Z),(203,c1M)],[],[],[],[],[]⟩
def b6H:Ann:=.seq lfA (.seq lfA (.seq (.blk (.seq lfA (.cond lfA (.seq (.join [(38,47)] ⟨[(38,ubM)],[]⟩ lfA) lfA)))) lfA))
def ql (a0:I7) (a1:L6) (a2:L6):Option (L6×Int):=l7 (ieq a0.1 13) (o6 (nJ a1.2.2 a2.2.2) fun(x:
 I7)=>some ((a1.1,0,x.1),x.2)) (o6 (l7 (ieq a0.1 14) (some (ieq a1.1 3)) (some false)) fun x=>l7 x (o6 (vO
 a1.2.2 a2.2.2 a0.2) fun x=>some ((a1.1,0,x.1),x.2)) (l7 (ieq a0.1 14) (o6 (Bh a1.2.2 a2.2.2 a0.2) fun x=>some
 ((a1.1,0,x.1),x.2)) (l7 (ieq a0.1 16) (o6 (oL a1.2.2 a2.2.2 a0.2) fun x=>some ((a1.1,0,x.1),x.2)) (l7 (ieq a2.1
 2) (o6 (aW a1.2.2 a2.2.2 a0.2) fun x=>some ((a1.1,0,x.1),x.2)) (o6 (mP a1.2.2 a2.2.2 a0.2) fun(x:
 I7)=>some ((4,0,x.1),x.2))))))
def c1E:FSpec:=mkS b0o b1P fun x=>ql x.1 x.2.1 x.2.2
def b0D:List MG:=[uiM,uiM,uiM]
def b2e:Ret:=⟨[(.tmp 6,uiM),(.tmp 7,uiM)],[]⟩
def c6k:Env:=⟨53,eqs,tt,gl,[(198,a8K),(197,b4A)],[],[],[],[],[]⟩
def b6W:Ann:=.seq lfA (.seq (.joinR [(6,8),(10,35)] ⟨[],[]⟩ lfA) (.seq lfA (.seq (.seq lfA (.blk (.loop [(8,10),(39,49)] ⟨[(8,uiM),(39,uiM)],[]⟩ 0 ⟨[(8,uiM)],[]⟩ lfA))) lfA)))
def uu (a0:Int) (a1:Int) (a2:Int):Option I7:=o6 (l7 (ilt a0 1900) (some (.inr (0,3))) (l7 (ilt 2199 a0) (some
 (.inr (0,3))) (l7 (ilt a1 1) (some (.inr (0,3))) (l7 (ilt 12 a1) (some (.inr (0,3))) (l7 (ilt a2 1) (some (.inr (0,3)))
 (o6 (aZ a0 a1) fun x=>l7 (ilt x a2) (some (.inr (0,3))) (some (.inl ())))))))) fun o
 =>X6 o (fun(x:PUnit)=>o6 (ik a0) fun x=>o6 (X5 (fun(x:I7)=>l7 (ilt x.2 (G8 .i64 a1 1))
 (o6 (aZ a0 (A7 .i64 x.2 1)) fun x_1=>some (.inl (A7 .i64 x.1 x_1,A7 .i64 x.2 1))) (some
 (.inr x.1))) (x,0)) fun y=>some (G8 .i64 (A7 .i64 y a2) 1,0)) fun r=>some r
def c1N:FSpec:=mkS b0D b2e fun x=>uu x.1 x.2.1 x.2.2
def b0p:List MG:=[uiM,uiM]
def b1Q:Ret:=⟨[(.tmp 4,uiM),(.tmp 5,uiM)],[]⟩
def c5W:Env:=⟨57,eqs,tt,gl,[(196,a8J),(183,a8H),(198,a8K),(204,c1N)],[],[],[],[],[]⟩
def b6I:Ann:=.seq lfA (.seq (.joinR [(4,6),(10,21)] ⟨[],[]⟩ lfA) lfA)
def jS (a0:Int) (a1:Int):Option I7:=o6 (o6 (mi a0) fun x=>l7 (E5 x) (some (.inr (0,3)))
 (l7 (ilt a1 (-3600)) (some (.inr (0,3))) (l7 (ilt 3600 a1) (some (.inr (0,3))) (some (.inl ()))))) fun o
 =>X6 o (fun(x:PUnit)=>o6 (mf a0) fun x=>l7 (ilt (A7 .i64 (G8 .i64 (A7 .i64 (W9
 .i64 (G8 .i64 x.1 1900) 12) x.2.1) 1) a1) 0) (some (0,3)) (l7 (ilt 3599 (A7 .i64 (G8 .i64 (A7 .i64
 (W9 .i64 (G8 .i64 x.1 1900) 12) x.2.1) 1) a1)) (some (0,3)) (o6 (aZ (A7 .i64 1900 (aN .i64
 (A7 .i64 (G8 .i64 (A7 .i64 (W9 .i64 (G8 .i64 x.1 1900) 12) x.2.1) 1) a1) 12)) (A7 .i64 (dV
 (A7 .i64 (G8 .i64 (A7 .i64 (W9 .i64 (G8 .i64 x.1 1900) 12) x.2.1) 1) a1) 12) 1)) fun x_1=>
 o6 (uu (A7 .i64 1900 (aN .i64 (A7 .i64 (G8 .i64 (A7 .i64 (W9 .i64 (G8
 .i64 x.1 1900) 12) x.2.1) 1) a1) 12)) (A7 .i64 (dV (A7 .i64 (G8 .i64 (A7 .i64 (W9 .i64 (G8
 .i64 x.1 1900) 12) x.2.1) 1) a1) 12) 1) (kG x.2.2 x_1)) fun x=>some x))) fun r=>some r
def b4y:FSpec:=mkS b0p b1Q fun x=>jS x.1 x.2
def b0q:List MG:=[uiM,uiM]
def b1R:Ret:=⟨[(.tmp 4,uiM)],[]⟩
def c5X:Env:=⟨60,eqs,tt,gl,[(196,a8J),(183,a8H),(185,b4y)],[],[],[],[],[]⟩
def b6J:Ann:=.leaf
def fH (a0:Int) (a1:Int):Option Int:=o6 (mi a0) fun x=>l7 (E5 x) (some 0) (o6 (mi a1) fun
 (x:Bool)=>l7 (E5 x) (some 0) (l7 (ilt a1 a0) (some 0) (o6 (mf a0) fun x=>o6 (mf a1) fun x_1
 =>o6 (jS a0 (W9 .i64 12 (G8 .i64 x_1.1 x.1))) fun x_2=>l7 (E5 (ieq x_2.2 0)) (some (gV (G8
 .i64 (G8 .i64 x_1.1 x.1) 1) 0)) (l7 (ilt a1 x_2.1) (some (gV (G8 .i64 (G8 .i64 x_1.1 x.1) 1) 0)) (some (gV
 (G8 .i64 x_1.1 x.1) 0))))))
def c1F:FSpec:=mkS b0q b1R fun x=>fH x.1 x.2
def b0b:List MG:=[(true,(.dat y0)),(true,(.dat y1)),(true,(.dat y1))]
def b1C:Ret:=⟨[(.cell 6 23,(true,(.dat y1))),(.tmp 7,uiM)],[]⟩
def c5G:Env:=⟨139,eqs,tt,gl,[(184,c1E),(182,b4x),(185,b4y),(186,c1F)],[],[],[],[],[]⟩
def b6u:Ann:=.seq lfA (.seq (.joinR [(6,133),(4000384,4000385)] ⟨[(6,(false,(.box (.dat y1))))],[]⟩ (.seq lfA (.blk (.seq (.join [(12,15)] ⟨[(12,ubM)],[]⟩ lfA) (.cond lfA (.seq lfA (.cond lfA (.seq (.join [(33,38)] ⟨[(33,ubM)],[]⟩ lfA) (.cond lfA (.seq (.join [(44,47)] ⟨[(44,ubM)],[]⟩ lfA) lfA)))))))))) lfA)
def bH (a0:I7) (a1:L6) (a2:L6):Option (L6×Int):=o6 (o6 (l7 (ieq a0.1 11) (some (ieq a0.1 11)) (some (ieq
 a0.1 27))) fun x=>l7 x (some (.inr ((a1.1,0,A7 .i64 a1.2.2 a2.2.2),0))) (l7 (ieq a0.1 12) (some (.inr ((a1.1,0,
 G8 .i64 a1.2.2 a2.2.2),0))) (o6 (l7 (ieq a0.1 13) (some (ieq a0.1 13)) (l7 (ieq a0.1 14) (some (ieq a0.1 14)) (l7 (ieq a0.1 15)
 (some (ieq a0.1 15)) (some (ieq a0.1 16))))) fun x=>l7 x (o6 (ql a0 a1 a2) fun x=>some (.inr x))
 (o6 (l7 (ieq a0.1 17) (some (ieq a0.1 17)) (some (ieq a0.1 18))) fun x=>l7 x (l7 (bZ (ieq a0.1 17) (ilt a2.2.2 a1.2.2))
 (some (.inr (a2,0))) (some (.inr (a1,0)))) (l7 (ieq a0.1 19) (o6 (iq (ieq a1.2.2 a2.2.2)) fun x=>some (.inr (x,
 0))) (l7 (ieq a0.1 20) (o6 (iq (E5 (ieq a1.2.2 a2.2.2))) fun x=>some (.inr (x,0))) (l7 (ieq a0.1 21) (o6
 (iq (ilt a1.2.2 a2.2.2)) fun x=>some (.inr (x,0))) (l7 (ieq a0.1 22) (o6 (iq (ile a1.2.2 a2.2.2)) fun(x:
 L6)=>some (.inr (x,0))) (l7 (ieq a0.1 23) (l7 (ieq a1.2.2 1) (o6 (iq (ieq a2.2.2 1)) fun x=>some (.inr (x,
 0))) (o6 (iq false) fun x=>some (.inr (x,0)))) (l7 (ieq a0.1 24) (l7 (ieq a1.2.2 1) (o6 (iq true) fun(x
 :L6)=>some (.inr (x,0))) (o6 (iq (ieq a2.2.2 1)) fun x=>some (.inr (x,0)))) (l7 (ieq a0.1 28) (o6
 (jS a1.2.2 a2.2.2) fun x=>some (.inr ((5,0,x.1),x.2))) (l7 (ieq a0.1 29) (some (.inr ((2,0,G8 .i64
 a2.2.2 a1.2.2),0))) (some (.inl (0,0,0))))))))))))))) fun o=>X6 o (fun(x:L6)=>o6 (fH
 a1.2.2 a2.2.2) fun x=>some ((2,0,x),0)) fun r=>some r
def c1u:FSpec:=mkS b0b b1C fun x=>bH x.1 x.2.1 x.2.2
def a9N:List MG:=[(true,(.dat y0)),(false,(.dat y36)),(true,(.dat y55))]
def b1o:Ret:=⟨[(.cell 6 23,(true,(.dat y1))),(.tmp 7,uiM)],[]⟩
def c5r:Env:=⟨165,eqs,tt,gl,[(164,c1q),(165,c1r),(166,c1s),(167,c1t),(168,c1u)],[],[],[],[],[]⟩
def b6g:Ann:=.seq lfA (.seq (.joinR [(6,132),(4000384,4000385)] ⟨[(6,(false,(.box (.dat y1))))],[]⟩ (.seq lfA (.blk (.seq (.join [(15,21)] ⟨[(15,ubM)],[]⟩ lfA) (.cond lfA (.seq lfA (.cond lfA (.seq lfA (.cond lfA (.seq lfA (.cond lfA (.seq lfA (.cond lfA (.seq lfA (.cond lfA (.seq (.join [(62,67)] ⟨[(62,ubM)],[]⟩ lfA) lfA)))))))))))))))) lfA)
def N7 (a0:I7) (a1:List L6) (a2:U9):Option (L6×Int):=o6 (o6 (l7 (ieq a0.1 1) (some (ieq a0.1 1)) (l7
 (ieq a0.1 2) (some (ieq a0.1 2)) (l7 (ieq a0.1 3) (some (ieq a0.1 3)) (l7 (ieq a0.1 4) (some (ieq a0.1 4)) (some (ieq a0.1 5)))))) fun(x:
 Bool)=>l7 x (some (.inr ((a0.1,0,a0.2),0))) (l7 (ieq a0.1 6) (some (.inr ((6,aN .i64 a0.2 16,dV a0.2 16),0))) (l7
 (ieq a0.1 7) (o6 (lat a2.2.1 a0.2) fun x=>some (.inr (x,0))) (l7 (ieq a0.1 8) (o6 (lat a2.2.2.1 a0.2) fun x=>
 some (.inr (x,0))) (l7 (ieq a0.1 9) (some (.inr ((5,0,a2.1),0))) (l7 (ieq a0.1 35) (some (.inr ((2,0,o8 a2.2.2.2.1),0)))
 (o6 (l7 (ieq a0.1 36) (some (ieq a0.1 36)) (l7 (ieq a0.1 37) (some (ieq a0.1 37)) (l7 (ieq a0.1 38) (some (ieq a0.1 38)) (some (ieq a0.1
 39))))) fun x=>l7 x (o6 (jU a0 a2) fun x=>some (.inr x)) (l7 (ieq a0.1 33) (o6 (lat
 a2.2.2.2.2.2 a0.2) fun x=>o6 (lat a1 0) fun x_1=>o6 (uH x a2.1 x_1.2.2) fun x_2=>l7
 (E5 x_2.2) (some (.inr ((0,0,0),6))) (o6 (lat x.2.2.2 x_2.1) fun x_3=>some (.inr ((x.2.2.1.1,x.2.2.1.2,x_3.2.2.2),0))))
 (l7 (ieq a0.1 34) (o6 (lat a2.2.2.2.2.2 (aN .i64 a0.2 8)) fun x=>o6 (lat a1 0) fun x_1=>o6
 (ru x a2.1 x_1.2.2 (dV a0.2 8)) fun x=>some (.inr ((3,0,x.1),x.2))) (some (.inl (0,0,0)))))))))))) fun(o:
 L6⊕L6×Int)=>X6 o (fun(x:L6)=>l7 (ieq (o8 a1) 1) (o6 (lat a1 0) fun x=>o6 (uX a0.1 x) fun(x
 :L6)=>some (x,0)) (l7 (ieq (o8 a1) 2) (o6 (lat a1 0) fun x=>o6 (lat a1 1) fun x_1=>o6 (bH a0
 x x_1) fun x=>some x) (o6 (lat a1 0) fun x=>l7 (ieq x.2.2 1) (o6 (lat a1 1) fun x=>some (x,0))
 (o6 (lat a1 2) fun x=>some (x,0))))) fun r=>some r
def c1k:FSpec:=mkS a9N b1o fun x=>N7 x.1 x.2.1 x.2.2
def a9D:List MG:=[(true,(.dat y0)),(false,(.dat y36)),(true,(.dat y55))]
def b1e:Ret:=⟨[(.cell 6 23,(true,(.dat y1))),(.tmp 7,uiM)],[]⟩
def c5g:Env:=⟨54,eqs,tt,gl,[(143,c1g),(141,a2u),(144,c1h),(145,c1i),(146,c1j),(147,c1k),(148,Yv)],[],[],[],[],[]⟩
def b5V:Ann:=.seq lfA (.seq (.joinR [(6,8),(10,22),(4000384,4000385)] ⟨[(6,(false,(.box (.dat y1))))],[]⟩ lfA) lfA)
def pX (a0:I7) (a1:List L6) (a2:U9):Option (L6×Int):=o6 (o6 (iR a0) fun x=>l7 (E5
 x) (some (.inr ((0,0,0),2))) (o6 (fO a0.1) fun x=>l7 (E5 (ieq (o8 a1) x)) (some (.inr ((0,0,0),2))) (some
 (.inl (0,0,0))))) fun o=>X6 o (fun(x:L6)=>o6 (aS a0 a2) fun x=>l7 (E5 x)
 (some ((0,0,0),6)) (o6 (lK a1) fun x=>l7 (E5 x) (some ((0,0,0),8)) (o6 (L9 a0 a1 a2) fun(x:
 Bool)=>l7 (E5 x) (some ((0,0,0),8)) (o6 (N7 a0 a1 a2) fun x=>l7 (E5 (ieq x.2 0)) (some ((0,0,0),
 x.2)) (o6 (aj x.1) fun x_1=>l7 (E5 x_1) (some ((0,0,0),3)) (some (x.1,0))))))) fun r=>some r
def c0Z:FSpec:=mkS a9D b1e fun x=>pX x.1 x.2.1 x.2.2
def a4P:List MG:=[(true,(.dat y71)),uiM]
def a2l:List MG:=[(true,(.dat y71)),uiM]
def a4O:List MG:=[(true,(.dat y71)),(true,(.dat y0)),(false,(.dat y46))]
def b9v:Ret:=⟨[(.cell 4 23,(true,(.dat y1))),(.tmp 5,uiM)],[]⟩
def c5m (r142:M.den (.dat y71)→M.den diM→Option (aK ([(true,(.dat y1)),uiM]++[]))) (r95:M.den (.dat y71)→M.den diM→Option (aK ([(true,(.dat y1)),uiM]++[]))) (r122:M.den (.dat y71)→M.den (.dat y0)→M.den (.dat y46)→Option (aK ([(true,(.dat y1)),uiM]++[]))):Env:=⟨28,eqs,tt,gl,[(95,⟨a2l,[(true,(.dat y1)),uiM],[],fun x=>r95 x.1 x.2⟩),(148,Yv)],[],[],[],[],[]⟩
def b6b:Ann:=.leaf
def gB (r142:O0→Int→Option (L6×Int)) (r95:O0→Int→Option (L6×Int)) (r122:
 O0→I7→List Int→Option (L6×Int)) (a0:O0) (a1:Int):Option (L6×Int):=o6 (r95 a0 a1) fun(x:
 L6×Int)=>l7 (E5 (ieq x.2 0)) (some ((0,0,0),x.2)) (l7 (E5 (ieq x.1.1 1)) (some ((0,0,0),8)) (o6 (aj x.1) fun
 (x_1:Bool)=>l7 (E5 x_1) (some ((0,0,0),8)) (some (x.1,0))))
def c0N:Ret:=⟨[(.cell 4 23,(true,(.dat y1))),(.tmp 5,uiM)],[]⟩
def e95 (r142:M.den (.dat y71)→M.den diM→Option (aK ([(true,(.dat y1)),uiM]++[]))) (r95:M.den (.dat y71)→M.den diM→Option (aK ([(true,(.dat y1)),uiM]++[]))) (r122:M.den (.dat y71)→M.den (.dat y0)→M.den (.dat y46)→Option (aK ([(true,(.dat y1)),uiM]++[]))):Env:=⟨65,eqs,tt,gl,[(121,c0Y),(122,⟨a4O,[(true,(.dat y1)),uiM],[],fun x=>r122 x.1 x.2.1 x.2.2⟩),(95,⟨a2l,[(true,(.dat y1)),uiM],[],fun x=>r95 x.1 x.2⟩),(123,c0Z)],[],[],[],[],[]⟩
def c4Q:Ann:=.seq lfA (.seq lfA (.seq lfA (.seq (.joinR [(4,6),(21,33),(4000256,4000257)] ⟨[(4,(false,(.box (.dat y1))))],[]⟩ lfA) (.seq lfA (.seq (.seq lfA (.blk (.loopR [(4,6),(8,13),(38,58),(12000000,12000001),(37002240,37002241)] ⟨[(4,(false,(.box (.dat y1)))),(8,(false,(.own y1))),(38,uiM)],[]⟩ 1 ⟨[(4,(false,(.box (.dat y1)))),(8,(false,(.own y1)))],[]⟩ lfA))) lfA)))))
def jv (r142:O0→Int→Option (L6×Int)) (r95:O0→Int→Option (L6×Int)) (r122:
 O0→I7→List Int→Option (L6×Int)) (a0:O0) (a1:Int):Option (L6×Int):=o6 (lat a0.1 a1) fun(x:
 I7)=>o6 (dn a0 a1) fun x_1=>o6 (l7 (ieq x.1 23) (l7 (ieq x.1 23) (o6 (r122 a0 x x_1) fun(x:
 L6×Int)=>some (.inr x)) (some (.inl (0,0,0)))) (l7 (ieq x.1 24) (l7 (ieq x.1 24) (o6 (r122 a0 x x_1) fun x
 =>some (.inr x)) (some (.inl (0,0,0)))) (l7 (ieq x.1 26) (o6 (r122 a0 x x_1) fun x=>some (.inr x)) (some
 (.inl (0,0,0)))))) fun o=>X6 o (fun(x_2:L6)=>o6 (jH (o8 x_1) (0,0,0)) fun x_3=>
 o6 (U2 (fun(x:L6×List L6×Int)=>l7 (ilt x.2.2 (o8 x_1)) (o6 (lat x_1 x.2.2) fun x_4=>o6 (L8 x_1 (toN
 x.2.2)) fun x_5=>o6 (r95 a0 x_5) fun x_6=>l7 (E5 (ieq x_6.2 0)) (some (.rt ((0,0,0),x_6.2))) (o6 (lat
 x.2.1 x.2.2) fun x_7=>o6 (L8 x.2.1 (toN x.2.2)) fun x_8=>some (.nx (x.1,U5 x.2.1 (toN x.2.2) x_6.1,A7
 .i64 x.2.2 1)))) (some (.ex (x.1,x.2.1)))) (x_2,x_3,0)) fun o=>X6 o (fun(y:L6×List
 L6)=>o6 (pX x y.2 a0.2.2) fun x=>some x) fun r=>some r) fun r=>some r
def b9s:Ret:=⟨[(.cell 6 23,(true,(.dat y1))),(.tmp 7,uiM)],[]⟩
def c5f (r142:M.den (.dat y71)→M.den diM→Option (aK ([(true,(.dat y1)),uiM]++[]))) (r95:M.den (.dat y71)→M.den diM→Option (aK ([(true,(.dat y1)),uiM]++[]))) (r122:M.den (.dat y71)→M.den (.dat y0)→M.den (.dat y46)→Option (aK ([(true,(.dat y1)),uiM]++[]))):Env:=⟨69,eqs,tt,gl,[(142,⟨a4P,[(true,(.dat y1)),uiM],[],fun x=>r142 x.1 x.2⟩),(95,⟨a2l,[(true,(.dat y1)),uiM],[],fun x=>r95 x.1 x.2⟩)],[],[],[],[],[]⟩
def b5U:Ann:=.seq lfA (.seq lfA (.seq lfA (.seq lfA (.seq (.blk (.seq (.join [(26,35)] ⟨[(26,ubM)],[]⟩ lfA) lfA)) lfA))))
def dZ (r142:O0→Int→Option (L6×Int)) (r95:O0→Int→Option (L6×Int)) (r122:
 O0→I7→List Int→Option (L6×Int)) (a0:O0) (a1:I7) (a2:List Int):Option (L6×Int):=l7
 (E5 (ieq a1.2 0)) (some ((0,0,0),2)) (o6 (lat a2 0) fun x=>o6 (r142 a0 x) fun x=>l7 (E5 (ieq x.2 0))
 (some ((0,0,0),x.2)) (o6 (l7 (ieq a1.1 26) (some (ieq x.1.2.2 1)) (some false)) fun x_1=>l7 x_1 (o6 (lat a2 1) fun(x:
 Int)=>o6 (r95 a0 x) fun x=>some x) (l7 (ieq a1.1 26) (o6 (lat a2 2) fun x=>o6 (r95 a0 x) fun x=>some x) (l7 (bZ (ieq a1.1 23) (ieq x.1.2.2 0)) (some (x.1,0)) (o6 (lat a2 1) fun x=>o6 (r142 a0 x) fun x=>some x)))))
def x8:Nat→(M.den (.dat y71)→M.den diM→Option (aK ([(true,(.dat y1)),uiM]++[])))×(M.den (.dat y71)→M.den diM→Option (aK ([(true,(.dat y1)),uiM]++[])))×(M.den (.dat y71)→M.den (.dat y0)→M.den (.dat y46)→Option (aK ([(true,(.dat y1)),uiM]++[])))
 | 0=>(fun a0 a1=>none,fun a0 a1=>none,fun a0 a1 a2=>none)
 | n+1=>(fun a0 a1=>gB (x8 n).1 (x8 n).2.1 (x8 n).2.2 a0 a1,fun a0 a1=>jv (x8 n).1 (x8 n).2.1 (x8 n).2.2 a0 a1,fun a0 a1 a2=>dZ (x8 n).1 (x8 n).2.1 (x8 n).2.2 a0 a1 a2)
def oD:M.den (.dat y71)→M.den diM→Option (aK ([(true,(.dat y1)),uiM]++[])):=fun a0 a1=>(x8 dN).2.1 a0 a1
def s95:FSpec:=mkS a2l c0N fun x=>oD x.1 x.2
def b8T:List MG:=[(false,(.dat y19)),(true,(.dat y55))]
def c0t:Ret:=⟨[(.cell 4 23,(true,(.dat y1))),(.tmp 5,uiM)],[]⟩
def e64:Env:=⟨27,eqs,tt,gl,[(94,s94),(95,s95)],[],[],[],[],[]⟩
def c4v:Ann:=.leaf
def xK (a0:List I7) (a1:U9):Option (L6×Int):=o6 (Ap a0) fun x=>l7 (E5 (ieq x.2 0))
 (some ((0,0,0),x.2)) (o6 (oD (a0,x.1,a1) (G8 .i64 (o8 a0) 1)) fun x=>some x)
def s64:FSpec:=mkS b8T c0t fun x=>xK x.1 x.2
def a9y:List MG:=[(false,(.dat y46)),(false,(.dat y46))]
def b0Z:Ret:=⟨[(.tmp 4,uiM)],[]⟩
def c5a:Env:=⟨42,eqs,tt,gl,[],[],[],[],[],[]⟩
def b5P:Ann:=.seq lfA (.seq lfA (.seq lfA (.seq (.seq lfA (.blk (.loopR [(4,7),(17,42)] ⟨[(17,uiM)],[]⟩ 0 ⟨[],[]⟩ lfA))) lfA)))
def lS (a0:List Int) (a1:List Int):Option Int:=l7 (E5 (ieq (o8 a0) (o8 a1))) (some 2) (l7 (ilt 8 (o8 a0)) (some
 4) (o6 (U2 (fun(x:Int)=>l7 (ilt x (o8 a0)) (o6 (lat a0 x) fun x_1=>l7 (ilt x_1 (-1)) (some (.rt 9)) (l7 (ile x
 x_1) (some (.rt 9)) (o6 (lat a1 x) fun x_2=>l7 (ilt x_2 0) (some (.rt 3)) (o6 (lat a1 x) fun x_3=>l7 (ilt 9
 x_3) (some (.rt 3)) (some (.nx (A7 .i64 x 1))))))) (some (.ex ()))) 0) fun o=>X6 o (fun(y:PUnit)=>
 some 0) fun r=>some r))
def c0W:FSpec:=mkS a9y b0Z fun x=>lS x.1 x.2
def a9R:List MG:=[(false,(.dat y46)),uiM]
def b1s:Ret:=⟨[(.tmp 4,uoM)],[]⟩
def c5v:Env:=⟨24,eqs,tt,gl,[],[],[],[],[],[]⟩
def b6k:Ann:=.seq lfA (.seq lfA (.seq (.seq lfA (.blk (.loop [(5,8),(10,23)] ⟨[(5,uoM),(10,uiM)],[]⟩ 0 ⟨[(5,uoM)],[]⟩ lfA))) lfA))
def lQ (a0:List Int) (a1:Int):Option (List Int):=o6 (X5 (fun(x:List Int×Int)=>l7 (ilt x.2 (o8 a0)) (o6
 (lat a0 x.2) fun x_1=>l7 (ieq x_1 a1) (o6 (dE x.1 [x.2]) fun x_2=>some (.inl (x_2,A7 .i64 x.2 1)))
 (some (.inl (x.1,A7 .i64 x.2 1)))) (some (.inr x.1))) ([],0)) fun y=>some y
def c1m:FSpec:=mkS a9R b1s fun x=>lQ x.1 x.2
def a9H:List MG:=[(true,(.dat y73)),uiM]
def b1i:Ret:=⟨[(.tmp 4,uoM)],[]⟩
def c5k:Env:=⟨67,eqs,tt,gl,[(158,c1m)],[],[],[],[],[]⟩
def b5Z:Ann:=.seq lfA (.seq lfA (.seq (.seq lfA (.blk (.loop [(5,6),(7,8),(13,66)] ⟨[(5,uoM),(13,uiM)],[]⟩ 0 ⟨[(5,uoM)],[]⟩ (.seq lfA (.seq lfA (.seq (.blk (.seq lfA (.seq lfA (.seq (.join [(5,6),(23,43),(14000000,14000001)] ⟨[(5,uoM)],[]⟩ lfA) lfA)))) lfA)))))) lfA))
def kT (a0:dH) (a1:Int):Option (List Int):=o6 (lQ a0.1 a1) fun x=>o6 (X5
 (fun(x_1:List Int×Int)=>l7 (ilt x_1.2 (o8 x)) (o6 (lat x x_1.2) fun x_2=>o6 (L8 x (toN x_1.2)) fun x=>o6
 (lat a0.2.2 x) fun x_3=>l7 (ieq x_3 (-1)) (some (.inl (x_1.1,A7 .i64 x_1.2 1))) (o6 (l7 (ilt 0 (o8 x_1.1)) (o6
 (lat a0.2.1 x) fun x=>o6 (lat x_1.1 0) fun x_4=>o6 (L8 x_1.1 (toN 0)) fun x_5=>o6 (lat a0.2.1 x_5) fun(x_6
 :Int)=>l7 (ilt x_6 x) (l7 (jG 0 0 (o8 x_1.1)) (some (gQ x_1.1 (toN 0) (toN 0))) none) (some x_1.1)) (some x_1.1)) fun x_4=>l7 (ieq (o8 x_4) 0) (o6 (dE x_4 [x]) fun x=>some (.inl (x,A7 .i64 x_1.2 1))) (o6 (lat a0.2.1 x) fun
 (x_5:Int)=>o6 (lat x_4 0) fun x_6=>o6 (L8 x_4 (toN 0)) fun x_7=>o6 (lat a0.2.1 x_7) fun x_8=>l7 (ieq
 x_5 x_8) (o6 (dE x_4 [x]) fun x=>some (.inl (x,A7 .i64 x_1.2 1))) (some (.inl (x_4,A7 .i64 x_1.2
 1)))))) (some (.inr x_1.1))) ([],0)) fun y=>some y
def c1f:FSpec:=mkS a9H b1i fun x=>kT x.1 x.2
def a9A:List MG:=[(true,(.dat y73)),uiM]
def b1b:Ret:=⟨[(.tmp 4,uiM)],[]⟩
def c5c:Env:=⟨22,eqs,tt,gl,[(140,c1f)],[],[],[],[],[]⟩
def b5R:Ann:=.leaf
def aH (a0:dH) (a1:Int):Option Int:=o6 (kT a0 a1) fun x=>l7 (ieq (o8
 x) 0) (some (-1)) (l7 (ieq (o8 x) 1) (o6 (lat x 0) fun x_1=>o6 (L8 x (toN 0)) fun x=>o6 (lat a0.2.2 x) fun(x:
 Int)=>some x) (some (-2)))
def b4q:FSpec:=mkS a9A b1b fun x=>aH x.1 x.2
def a9z:List MG:=[(false,(.dat y46)),(false,(.dat y46)),(false,(.dat (.sl .bool)))]
def b1a:Ret:=⟨[(.tmp 6,uoM)],[]⟩
def c5b:Env:=⟨48,eqs,tt,gl,[(119,b4q)],[],[],[],[],[]⟩
def b5Q:Ann:=.seq lfA (.seq lfA (.seq (.seq lfA (.blk (.loop [(7,9),(18,46),(7000448,7000449),(7000832,7000833)] ⟨[(7,(false,(.box (.pair (.dat y46) (.pair (.dat y46) oiM))))),(8,uiM)],[]⟩ 0 ⟨[(7,(false,(.box (.pair (.dat y46) (.pair (.dat y46) oiM)))))],[]⟩ lfA))) lfA))
def lT (a0:List Int) (a1:List Int) (a2:List Bool):Option (List Int):=o6 (jH (o8 a0) 0) fun x=>o6
 (X5 (fun(x:dH×Int)=>l7 (ile 0 x.2) (o6 (aH x.1 x.2) fun x_1=>o6 (lat x.1.2.2 x.2) fun
 (x_2:Int)=>o6 (L8 x.1.2.2 (toN x.2)) fun x_3=>o6 (lat (U5 x.1.2.2 (toN x.2) x_1) x.2) fun x_4=>o6 (L8 (U5
 x.1.2.2 (toN x.2) x_1) (toN x.2)) fun x_5=>l7 (ieq x_5 (-1)) (o6 (lat a2 x.2) fun x_6=>l7 x_6 (o6 (lat (U5 x.1.2.2
 (toN x.2) x_1) x.2) fun x_7=>o6 (L8 (U5 x.1.2.2 (toN x.2) x_1) (toN x.2)) fun x_8=>some (.inl ((x.1.1,x.1.2.1,U5
 (U5 x.1.2.2 (toN x.2) x_1) (toN x.2) x.2),G8 .i64 x.2 1))) (some (.inl ((x.1.1,x.1.2.1,U5 x.1.2.2 (toN x.2) x_1),G8 .i64
 x.2 1)))) (some (.inl ((x.1.1,x.1.2.1,U5 x.1.2.2 (toN x.2) x_1),G8 .i64 x.2 1)))) (some (.inr x.1))) ((a0,a1,x),G8
 .i64 (o8 a0) 1)) fun y=>some y.2.2
def c0X:FSpec:=mkS a9z b1a fun x=>lT x.1 x.2.1 x.2.2
def b9k:List MG:=[(false,(.dat y46)),(false,(.dat y46)),(false,(.dat (.sl .bool)))]
def c0L:Ret:=⟨[(.tmp 6,uiM)],[]⟩
def e93:Env:=⟨26,eqs,tt,gl,[(117,c0W),(118,c0X),(119,b4q)],[],[],[],[],[]⟩
def c4O:Ann:=.leaf
def pR (a0:List Int) (a1:List Int) (a2:List Bool):Option Int:=o6 (lS a0 a1) fun x=>l7 (E5 (ieq
 x 0)) (some (-1)) (l7 (E5 (ieq (o8 a2) (o8 a0))) (some (-1)) (o6 (lT a0 a1 a2) fun x=>o6
 (aH (a0,a1,x) (-1)) fun x=>some x))
def s93:FSpec:=mkS b9k c0L fun x=>pR x.1 x.2.1 x.2.2
def b8S:List MG:=[(true,(.dat y31)),(true,(.dat y55)),uiM,uiM]
def c0s:Ret:=⟨[(.tmp 8,uiM),(.cell 9 49,(true,(.dat y40)))],[]⟩
def e63:Env:=⟨87,eqs,tt,gl,[(92,s92),(64,s64),(93,s93)],[],[],[],[],[]⟩
def c4u:Ann:=.seq lfA (.seq lfA (.seq lfA (.seq (.seq lfA (.blk (.loopR [(8,10),(13,18),(33,74),(4000576,4000577),(10001920,10001921)] ⟨[(9,(false,(.box (.dat y40)))),(13,(false,(.own .bool))),(33,uiM)],[]⟩ 0 ⟨[(9,(false,(.box (.dat y40)))),(13,(false,(.own .bool)))],[]⟩ lfA))) lfA)))
def pG (a0:x9) (a1:U9) (a2:Int) (a3:Int):Option (Int×X4):=o6 (nH a0 a3 a1.1) fun(x:
 dH)=>o6 (jH (o8 x.1) false) fun x_1=>o6 (U2 (fun(x_2:X4×List Bool×Int)=>l7 (ilt
 x_2.2.2 (o8 x.1)) (o6 (lat x.1 x_2.2.2) fun x_3=>o6 (L8 x.1 (toN x_2.2.2)) fun x=>o6 (lat a0.2.2.2.2 x) fun(x_4:
 J6)=>l7 (ieq (o8 x_4.2.2.2.2.2.1) 0) (o6 (lat x_2.2.1 x_2.2.2) fun x=>o6 (L8 x_2.2.1 (toN x_2.2.2)) fun x=>
 some (.nx (x_2.1,U5 x_2.2.1 (toN x_2.2.2) true,A7 .i64 x_2.2.2 1))) (o6 (lat a0.2.2.2.2 x) fun x_5=>o6 (xK
 x_5.2.2.2.2.2.1 a1) fun x_6=>l7 (E5 (ieq x_6.2 0)) (some (.rt (0,x_6.2,a2,a3,x))) (o6 (lat x_2.2.1 x_2.2.2) fun(x
 :Bool)=>o6 (L8 x_2.2.1 (toN x_2.2.2)) fun x=>some (.nx (x_2.1,U5 x_2.2.1 (toN x_2.2.2) (ieq x_6.1.2.2 1),A7 .i64
 x_2.2.2 1))))) (some (.ex (x_2.1,x_2.2.1)))) ((0,0,0,0),x_1,0)) fun o=>X6 o (fun(y:
 X4×List Bool)=>o6 (pR x.2.1 x.2.2 y.2) fun x_2=>l7 (ilt x_2 0) (some (x_2,0,0,0,0)) (o6 (lat x.1 x_2)
 fun x_3=>o6 (L8 x.1 (toN x_2)) fun x=>some (x,0,0,0,0))) fun r=>some r
def s63:FSpec:=mkS b8S c0s fun x=>pG x.1 x.2.1 x.2.2.1 x.2.2.2
def b8B:List MG:=[(true,(.dat y31)),(false,(.box (.pair diM (.pair (.dat y36) (.pair (.own y1) (.pair (.dat y37) (.pair (.dat y19) (.dat y16)))))))),uiM,(false,(.dat (.sl .bool)))]
def b9Y:Ret:=⟨[(.tmp 8,uoM),(.cell 9 49,(true,(.dat y40)))],[(1,(true,(.pair diM (.pair (.dat y36) (.pair (.own y1) (.pair (.dat y37) (.pair (.dat y19) (.dat y16))))))))]⟩
def e46:Env:=⟨105,eqs,tt,gl,[(62,s62),(63,s63),(64,s64)],[],[],[],[1],[]⟩
def c4d:Ann:=.seq lfA (.seq lfA (.seq lfA (.seq lfA (.seq (.seq lfA (.blk (.loopR [(1,2),(8,11),(14,19),(37,103),(1000000,1000001),(4000576,4000577),(7001472,7001473),(10001856,10001857)] ⟨[(1,(false,(.box (.pair diM (.pair (.dat y36) (.pair (.own y1) (.pair (.dat y37) (.pair (.dat y19) (.dat y16))))))))),(9,(false,(.box (.dat y40)))),(10,uoM),(37,uiM)],[]⟩ 0 ⟨[(1,(false,(.box (.pair diM (.pair (.dat y36) (.pair (.own y1) (.pair (.dat y37) (.pair (.dat y19) (.dat y16))))))))),(9,(false,(.box (.dat y40)))),(10,uoM)],[]⟩ lfA))) lfA))))
def aU (a0:x9) (a1:U9) (a2:Int) (a3:List Bool):Option (List Int×X4×U9):=o6 (jH (o8
 a0.2.2.2.1) (0,0,0)) fun x=>o6 (jH (o8 a0.2.2.2.1) 0) fun x_1=>o6 (iY a0) fun(x_2:
 List Int×Int)=>o6 (U2 (fun(x:U9×X4×List Int×Int)=>l7 (ilt x.2.2.2 (o8 x_2.1)) (o6 (lat x_2.1 x.2.2.2) fun(x_3
 :Int)=>o6 (L8 x_2.1 (toN x.2.2.2)) fun x_4=>o6 (lat a3 x_4) fun x_5=>l7 (E5 x_5) (some (.nx (x.1,x.2.1,
 x.2.2.1,A7 .i64 x.2.2.2 1))) (o6 (pG a0 x.1 a2 x_4) fun x_6=>l7 (E5 (ieq x_6.2.1 0)) (some
 (.rt ([],x_6.2,x.1))) (l7 (ieq x_6.1 (-1)) (some (.rt ([],(10,a2,x_4,-1),x.1))) (l7 (ieq x_6.1 (-2)) (some (.rt ([],(11,a2,
 x_4,-1),x.1))) (o6 (lat a0.2.2.2.2 x_6.1) fun x_7=>o6 (xK x_7.2.2.2.2.2.2.1 x.1) fun x_8=>l7 (E5
 (ieq x_8.2 0)) (some (.rt ([],(x_8.2,a2,x_4,x_6.1),x.1))) (o6 (lat x.1.2.2.1 x_4) fun x_9=>o6 (L8 x.1.2.2.1 (toN x_4))
 fun x_10=>o6 (lat x.2.2.1 x_4) fun x_11=>o6 (L8 x.2.2.1 (toN x_4)) fun x_12=>some (.nx ((x.1.1,x.1.2.1,
 U5 x.1.2.2.1 (toN x_4) x_8.1,x.1.2.2.2),x.2.1,U5 x.2.2.1 (toN x_4) x_6.1,A7 .i64 x.2.2.2 1)))))))) (some (.ex (x.1,x.2.1,
 x.2.2.1)))) ((a1.1,a1.2.1,x,a1.2.2.2),(0,0,0,0),x_1,0)) fun o=>X6 o (fun
 (y:U9×X4×List Int)=>some (y.2.2,(0,0,0,0),y.1)) fun r=>some r
def s46:FSpec:=mkS b8B b9Y fun x=>aU x.1 x.2.1 x.2.2.1 x.2.2.2
def b8m:List MG:=[(true,(.dat y34)),uiM,(true,(.dat y39)),(false,(.box (.pair (.dat y31) (.pair (.dat y31) (.pair (.own .bool) (.own .bool))))))]
def b9J:Ret:=⟨[(.cell 8 91,(true,(.dat y50))),(.cell 9 94,(true,(.dat y55))),(.cell 10 49,(true,(.dat y40)))],[(3,(true,(.pair (.dat y31) (.pair (.dat y31) (.pair (.own .bool) (.own .bool))))))]⟩
def e28:Env:=⟨123,eqs,tt,gl,[(46,s46)],[],[],[],[3],[]⟩
def c3N:Ann:=.seq lfA (.seq lfA (.seq lfA (.seq (.seq lfA (.blk (.loop [(11,12),(14,15),(35,47),(7000704,7000705)] ⟨[(11,(false,(.box (.pair diM (.pair (.dat y36) (.pair (.cell (some none)) (.pair (.cell (some none)) (.pair (.own y0) (.dat y16))))))))),(35,uiM)],[]⟩ 0 ⟨[(11,(false,(.box (.pair diM (.pair (.dat y36) (.pair (.cell (some none)) (.pair (.cell (some none)) (.pair (.own y0) (.dat y16)))))))))],[]⟩ lfA))) (.seq (.seq lfA (.blk (.loopR [(8,13),(15,20),(50,97),(4000512,4000513),(4000576,4000577),(4000640,4000641),(10000768,10000769),(18000000,18000002)] ⟨[(8,(false,(.box (.dat y50)))),(9,(false,(.box (.dat y55)))),(10,(false,(.box (.dat y40)))),(11,(false,(.box (.pair diM (.pair (.dat y36) (.pair (.cell (some none)) (.pair (.own y36) (.pair (.own y0) (.dat y16))))))))),(12,(false,(.box (.pair (.dat y36) (.pair (.dat y46) (.own y47)))))),(50,uiM)],[]⟩ 2 ⟨[(8,(false,(.box (.dat y50)))),(9,(false,(.box (.dat y55)))),(10,(false,(.box (.dat y40)))),(11,(false,(.box (.pair diM (.pair (.dat y36) (.pair (.cell (some none)) (.pair (.own y36) (.pair (.own y0) (.dat y16))))))))),(12,(false,(.box (.pair (.dat y36) (.pair (.dat y46) (.own y47))))))],[]⟩ lfA))) lfA))))
def pz (a0:J3) (a1:Int) (a2:aQ) (a3:S9):Option (oW×U9×X4×S9):=o6 (X5
 (fun(x:(Int×List L6×PUnit×PUnit×List I7×List ai)×Int)=>l7 (ilt x.2 (o8 a3.2.1.2.2.2.1)) (o6 (lat a3.2.1.2.2.2.1
 x.2) fun x_1=>o6 (dE x.1.2.2.2.2.1 [x_1.2]) fun x_2=>some (.inl ((x.1.1,x.1.2.1,(),(),x_2,
 x.1.2.2.2.2.2),A7 .i64 x.2 1))) (some (.inr (x.1.1,x.1.2.1,(),(),x.1.2.2.2.2)))) ((a2.1,a2.2.1,(),
 (),[],a0.2.1),0)) fun y=>o6 (U2 (fun(x:oW×U9×
 X4×(Int×List L6×PUnit×List (List L6)×List I7×List ai)×oW×Int)=>l7 (ilt x.2.2.2.2.2 (o8 a2.2.2))
 (o6 (lat a2.2.2 x.2.2.2.2.2) fun x_1=>o6 (aU a3.2.1 (a2.1,x_1,[],[],[],a0.2.1) x.2.2.2.2.2 a3.2.2.2)
 fun x_2=>l7 (E5 (ieq x_2.2.1.1 0)) (some (.rt (([],[],[]),(0,[],[],[],[],[]),x_2.2.1,a3)))
 (o6 (dE x.2.2.2.1.2.2.2.1 [x_2.2.2.2.2.1]) fun x_3=>o6 (dE x.2.2.2.2.1.2.2 [(x_2.2.2.2.2.1,x_2.1)]) fun(x_4:
 List Pi)=>some (.nx (x.1,x.2.1,x.2.2.1,(x.2.2.2.1.1,x.2.2.2.1.2.1,(),x_3,x.2.2.2.1.2.2.2.2),(x.2.2.2.2.1.1,
 x.2.2.2.2.1.2.1,x_4),A7 .i64 x.2.2.2.2.2 1)))) (some (.ex (x.1,x.2.1,x.2.2.1,(x.2.2.2.1.1,x.2.2.2.1.2.1,(),
 x.2.2.2.1.2.2.2),x.2.2.2.2.1)))) (([],[],[]),(0,[],[],[],[],[]),(0,0,0,0),(y.1,y.2.1,(),[],y.2.2.2.2),([],[],[]),0))
 fun o=>X6 o (fun(y:oW×U9×X4×(Int×List L6×PUnit×List (List L6)×List I7×List
 ai)×oW)=>o6 (aU a3.1 (y.2.2.2.1.1,y.2.2.2.1.2.1,[],y.2.2.2.1.2.2.2) (-1) a3.2.2.1) fun x=>l7 (E5 (ieq x.2.1.1 0)) (some (([],[],[]),(0,[],[],[],[],[]),x.2.1,a3)) (some ((x.2.2.2.2.1,x.1,
 y.2.2.2.2.2.2),x.2.2,(0,0,0,0),a3))) fun r=>some r
def s28:FSpec:=mkS b8m b9J fun x=>pz x.1 x.2.1 x.2.2.1 x.2.2.2
def b7W:List MG:=[(true,(.dat y34)),uiM,(true,(.dat y39)),uiM]
def b9t:Ret:=⟨[(.cell 8 23,(true,(.dat y1))),(.tmp 9,uiM),(.cell 10 49,(true,(.dat y40)))],[]⟩
def e13:Env:=⟨57,eqs,tt,gl,[(25,s25),(26,s26),(27,s27),(28,s28)],[],[],[],[],[]⟩
def c3w:Ann:=.leaf
def qM (a0:J3) (a1:Int) (a2:aQ) (a3:Int):Option (L6×Int×X4):=o6 (iJ a0 a1 a2 true
 a3) fun x=>l7 (E5 (ieq x.1 0)) (some ((0,0,0),0,x)) (o6 (pF a0 a1) fun x=>o6
 (jM x a3) fun x=>o6 (pz a0 a1 a2 x) fun x=>
 l7 (E5 (ieq x.2.2.1.1 0)) (some ((0,0,0),0,x.2.2.1)) (o6 (lat x.1.1 a3) fun x_1=>o6 (lat x.1.2.1 a3) fun x=>
 some (x_1,x,0,0,0,0)))
def s13:FSpec:=mkS b7W b9t fun x=>qM x.1 x.2.1 x.2.2.1 x.2.2.2
def b8e:List MG:=[(true,(.dat y34)),uiM,(true,(.dat y39)),uiM]
def b9B:Ret:=⟨[(.cell 8 23,(true,(.dat y1))),(.tmp 9,uiM)],[]⟩
def e20:Env:=⟨29,eqs,tt,gl,[(13,s13)],[],[],[],[],[]⟩
def c3E:Ann:=.leaf
def lg (a0:J3) (a1:Int) (a2:aQ) (a3:Int):Option (L6×Int):=o6 (qM a0 a1 a2 a3) fun x=>l7 (E5 (ieq x.2.2.1 0)) (some ((0,0,0),x.2.2.1)) (some (x.1,0))
def s20:FSpec:=mkS b8e b9B fun x=>lg x.1 x.2.1 x.2.2.1 x.2.2.2
def b8u:List MG:=[(false,(.ownb (.ent true false y41 .bool))),(true,(.dat y31)),(false,(.dat y46))]
def b9R:Ret:=⟨[],[(0,(false,(.own (.ent true false y41 .bool))))]⟩
def e39:Env:=⟨39,eqs,tt,gl,[],[],[],[],[0],[]⟩
def c3W:Ann:=.seq lfA (.seq lfA (.seq (.seq lfA (.blk (.loop [(6,7),(8,9),(14,21),(7000704,7000705)] ⟨[(6,(false,(.own (.ent false false (.int .i64) .bool)))),(14,uiM)],[]⟩ 0 ⟨[(6,(false,(.own (.ent false false (.int .i64) .bool))))],[]⟩ lfA))) (.seq lfA (.blk (.loop [(0,1),(10,11),(24,39),(1000000,1000001)] ⟨[(0,(false,(.own (.ent true false y41 .bool)))),(24,uiM)],[]⟩ 2 ⟨[(0,(false,(.own (.ent true false y41 .bool))))],[]⟩ lfA)))))
def iy (a0:List (P8×Bool)) (a1:x9) (a2:List Int):Option (List (P8×Bool)):=o6 (X5 (fun
 (x:List (Int×Bool)×Int)=>l7 (ilt x.2 (o8 a2)) (o6 (lat a2 x.2) fun x_1=>some (.inl (qc (fun(a b:Int)=>ieq a b)
 x.1 x_1 true,A7 .i64 x.2 1))) (some (.inr x.1))) ([],0)) fun y=>o6 (X5 (fun(x:List (P8×
 Bool)×Int)=>l7 (ilt x.2 (o8 a1.2.2.2.2)) (o6 (lat a1.2.2.2.2 x.2) fun x_1=>l7 (gG (fun(a b:Int)=>ieq a b) y x_1.2.1
 false) (some (.inl (qc (fun(a b:P8)=>V8 (seq a.1 b.1) (seq a.2 b.2)) x.1 (a1.1,x_1.1) true,A7 .i64 x.2 1)))
 (some (.inl (x.1,A7 .i64 x.2 1)))) (some (.inr x.1))) (a0,0)) fun y=>some y
def s39:FSpec:=mkS b8u b9R fun x=>iy x.1 x.2.1 x.2.2
def b8f:List MG:=[(true,(.dat y34)),uiM,uiM]
def b9C:Ret:=⟨[(.tmp 6,(false,(.own (.ent true false y41 .bool))))],[]⟩
def e21:Env:=⟨69,eqs,tt,gl,[(40,s40),(39,s39),(41,s41)],[],[],[],[],[]⟩
def c3F:Ann:=.seq lfA (.seq lfA (.seq lfA (.seq lfA (.seq (.joinR [(6,7),(28,40)] ⟨[],[]⟩ lfA) (.seq lfA (.seq lfA (.seq (.seq lfA (.blk (.loop [(10,11),(12,13),(50,64)] ⟨[(10,uoM),(50,uiM)],[]⟩ 0 ⟨[(10,uoM)],[]⟩ lfA))) lfA)))))))
def Y7 (a0:J3) (a1:Int) (a2:Int):Option (List (P8×Bool)):=o6 (lat a0.2.2 a1) fun x=>o6
 (dP x a2) fun x_1=>o6 (dE x_1 [a2]) fun x_2=>o6 (iy [] x x_2) fun x_3=>o6 (l7 (ilt x.2.1 0) (some (.inr x_3)) (l7 (ile (o8 a0.2.2) x.2.1) (some (.inr x_3)) (some (.inl
 ())))) fun o=>X6 o (fun(x_4:PUnit)=>o6 (lat a0.2.2 x.2.1) fun x_5=>o6
 (kY x a2) fun x=>o6 (X5 (fun(x_6:List Int×Int)=>l7 (ilt x_6.2 (o8 x)) (o6 (lat x x_6.2) fun(x_7:
 Int)=>o6 (L8 x (toN x_6.2)) fun x=>o6 (dE x_6.1 [x]) fun x_8=>o6 (dP x_5 x) fun x
 =>o6 (dE x_8 x) fun x=>some (.inl (x,A7 .i64 x_6.2 1))) (some (.inr x_6.1))) ([],0)) fun y=>
 o6 (iy x_3 x_5 y) fun x=>some x) fun r=>some r
def s21:FSpec:=mkS b8f b9C fun x=>Y7 x.1 x.2.1 x.2.2
def b8g:List MG:=[(true,(.dat y34))]
def b9D:Ret:=⟨[(.tmp 2,(false,(.own (.ent false true .str y44))))],[]⟩
def e22:Env:=⟨60,eqs,tt,gl,[],[],[],[],[],[]⟩
def c3G:Ann:=.seq lfA (.seq lfA (.seq (.seq lfA (.blk (.loop [(3,4),(5,13),(17,59),(7000832,7000833)] ⟨[(3,(false,(.own (.ent false true .str y44)))),(17,uiM)],[]⟩ 0 ⟨[(3,(false,(.own (.ent false true .str y44))))],[]⟩ (.seq lfA (.seq lfA (.seq (.blk (.seq lfA (.seq lfA (.seq lfA (.seq (.seq lfA (.blk (.loop [(8,13),(33,52),(40001856,40001857)] ⟨[(8,(false,(.own (.ent false false .str (.int .i64))))),(33,uiM)],[]⟩ 2 ⟨[(8,(false,(.own (.ent false false .str (.int .i64)))))],[]⟩ lfA))) lfA))))) lfA)))))) lfA))
def kw (a0:J3):Option (List (List UInt8×aI)):=o6 (X5 (fun(x:List (List UInt8×aI)
 ×Int)=>l7 (ilt x.2 (o8 a0.2.2)) (o6 (lat a0.2.2 x.2) fun x_1=>l7 (FD (fun(a b:List UInt8)=>seq a b) x.1 x_1.1)
 (some (.inl (x.1,A7 .i64 x.2 1))) (o6 (X5 (fun(x:List (List UInt8×Int)×Int)=>l7 (ilt x.2 (o8 x_1.2.2.2.2)) (o6
 (lat x_1.2.2.2.2 x.2) fun x_2=>l7 (E5 (FD (fun(a b:List UInt8)=>seq a b) x.1 x_2.1)) (some (.inl (qc (fun(a b:List
 UInt8)=>seq a b) x.1 x_2.1 x.2,A7 .i64 x.2 1))) (some (.inl (x.1,A7 .i64 x.2 1)))) (some (.inr x.1))) ([],0)) fun(y:
 List (List UInt8×Int))=>some (.inl (qc (fun(a b:List UInt8)=>seq a b) x.1 x_1.1 (x_1,y),A7 .i64 x.2 1)))) (some (.inr
 x.1))) ([],0)) fun y=>some y
def s22:FSpec:=mkS b8g b9D fun x=>kw x
def b8h:List MG:=[(false,(.dat y45)),(false,(.dat .str)),(false,(.dat .str))]
def b9E:Ret:=⟨[(.cell 6 66,(true,(.dat y31))),(.tmp 7,uiM),(.tmp 8,ubM)],[]⟩
def e23:Env:=⟨34,eqs,tt,gl,[],[],[],[],[],[]⟩
def c3H:Ann:=.leaf
def bn (a0:List (List UInt8×aI)) (a1:List UInt8) (a2:List UInt8):Option (x9×Int×Bool):=
 l7 (E5 (FD (fun(a b:List UInt8)=>seq a b) a0 a1)) (some (([],0,[],[],[]),0,false)) (l7 (E5 (FD (fun(a b:List UInt8)=>
 seq a b) (gG (fun(a b:List UInt8)=>seq a b) a0 a1 (([],0,[],[],[]),[])).2 a2)) (some (([],0,[],[],[]),0,false)) (some ((gG (fun
 (a b:List UInt8)=>seq a b) a0 a1 (([],0,[],[],[]),[])).1,gG (fun(a b:List UInt8)=>seq a b) (gG (fun(a b:List UInt8)=>seq a b)
 a0 a1 (([],0,[],[],[]),[])).2 a2 0,true)))
def s23:FSpec:=mkS b8h b9E fun x=>bn x.1 x.2.1 x.2.2
def b8x:List MG:=[(true,(.dat y31)),(true,(.dat y26))]
def b9U:Ret:=⟨[(.cell 4 122,(true,(.dat y59)))],[]⟩
def e42:Env:=⟨52,eqs,tt,gl,[],[],[],[],[],[]⟩
def c3Z:Ann:=.seq lfA (.seq lfA (.seq (.join [(5,6),(13,32),(7000320,7000321)] ⟨[(5,(false,(.box (.dat y59))))],[]⟩ lfA) lfA))
def eX (a0:x9) (a1:J6):Option P9:=o6 (l7 (ile 0 a1.2.1) (l7 (ilt a1.2.1 (o8 a0.2.2.2.1))
 (o6 (lat a0.2.2.2.1 a1.2.1) fun x=>some (x.1,[],a1.2.2.2.1,a1.2.2.2.2.1,a1.2.2.2.2.2.2.2)) (some ([],[],a1.2.2.2.1,
 a1.2.2.2.2.1,a1.2.2.2.2.2.2.2))) (some ([],[],a1.2.2.2.1,a1.2.2.2.2.1,a1.2.2.2.2.2.2.2))) fun x=>l7 (ile 0
 a1.2.2.1) (l7 (ilt a1.2.2.1 (o8 a0.2.2.2.2)) (o6 (lat a0.2.2.2.2 a1.2.2.1) fun x_1=>some (x.1,x_1.1,x.2.2)) (some x)) (some x)
def s42:FSpec:=mkS b8x b9U fun x=>eX x.1 x.2
def b8y:List MG:=[(false,(.dat y19)),(false,(.dat y19))]
def b9V:Ret:=⟨[(.tmp 4,ubM)],[]⟩
def e43:Env:=⟨26,eqs,tt,gl,[],[],[],[],[],[]⟩
def c4a:Ann:=.seq lfA (.seq lfA (.seq (.seq lfA (.blk (.loopR [(4,6),(13,26)] ⟨[(13,uiM)],[]⟩ 0 ⟨[],[]⟩ lfA))) lfA))
def ax (a0:List I7) (a1:List I7):Option Bool:=l7 (E5 (ieq (o8 a0) (o8 a1))) (some false) (o6
 (U2 (fun(x:Int)=>l7 (ilt x (o8 a0)) (o6 (lat a0 x) fun x_1=>o6 (lat a1 x) fun x_2=>l7 (E5 (V8 (ieq
 x_1.1 x_2.1) (ieq x_1.2 x_2.2))) (some (.rt false)) (some (.nx (A7 .i64 x 1)))) (some (.ex ()))) 0) fun o
 =>X6 o (fun(y:PUnit)=>some true) fun r=>some r)
def s43:FSpec:=mkS b8y b9V fun x=>ax x.1 x.2
def b8i:List MG:=[(true,(.dat y31)),uiM,(true,(.dat y31)),uiM]
def b9F:Ret:=⟨[(.tmp 8,ubM)],[]⟩
def e24:Env:=⟨42,eqs,tt,gl,[(42,s42),(43,s43)],[],[],[],[],[]⟩
def c3I:Ann:=.leaf
def nX (a0:x9) (a1:Int) (a2:x9) (a3:Int):Option Bool:=o6 (lat a0.2.2.2.2 a1) fun x=>o6 (lat
 a2.2.2.2.2 a3) fun x_1=>o6 (eX a0 x) fun x_2=>o6 (eX a2 x_1) fun(x_3
 :P9)=>l7 (V8 (seq x_2.1 x_3.1) (V8 (seq x_2.2.1 x_3.2.1) (V8 (ieq x_2.2.2.1 x_3.2.2.1) (V8 (ieq x_2.2.2.2.1.1
 x_3.2.2.2.1.1) (V8 (ieq x_2.2.2.2.1.2 x_3.2.2.2.1.2) (seq x_2.2.2.2.2 x_3.2.2.2.2)))))) (o6 (ax x.2.2.2.2.2.1
 x_1.2.2.2.2.2.1) fun x_4=>l7 x_4 (o6 (ax x.2.2.2.2.2.2.1 x_1.2.2.2.2.2.2.1) fun x=>some x)
 (some false)) (some false)
def s24:FSpec:=mkS b8i b9F fun x=>nX x.1 x.2.1 x.2.2.1 x.2.2.2
def b7U:List MG:=[(true,(.dat y34)),(true,(.dat y34))]
def b9r:Ret:=⟨[(.tmp 4,(false,(.own y3)))],[]⟩
def e12:Env:=⟨114,eqs,tt,gl,[(22,s22),(23,s23),(24,s24)],[],[],[],[],[]⟩
def c3v:Ann:=.seq lfA (.seq lfA (.seq lfA (.seq (.seq lfA (.blk (.loop [(7,8),(9,15),(29,77)] ⟨[(7,(false,(.own y3))),(29,uiM)],[]⟩ 0 ⟨[(7,(false,(.own y3)))],[]⟩ (.seq lfA (.seq lfA (.seq (.blk (.seq lfA (.seq lfA (.blk (.loop [(7,8),(10,15),(36,76),(17000000,17000001)] ⟨[(7,(false,(.own y3))),(36,uiM)],[]⟩ 2 ⟨[(7,(false,(.own y3)))],[]⟩ lfA))))) lfA)))))) (.seq (.seq lfA (.blk (.loop [(7,8),(16,17),(18,22),(80,113),(18000000,18000001)] ⟨[(7,(false,(.own y3))),(80,uiM)],[]⟩ 4 ⟨[(7,(false,(.own y3)))],[]⟩ (.seq lfA (.seq lfA (.seq (.blk (.seq lfA (.seq lfA (.blk (.loop [(7,8),(18,22),(87,112),(76000000,76000001)] ⟨[(7,(false,(.own y3))),(87,uiM)],[]⟩ 6 ⟨[(7,(false,(.own y3)))],[]⟩ lfA))))) lfA)))))) lfA))))
def eU (a0:J3) (a1:J3):Option (List V5):=o6 (kw a0) fun x=>o6 (kw a1) fun x_1=>o6 (X5 (fun(x:List V5×
 Int)=>l7 (ilt x.2 (o8 a0.2.2)) (o6 (lat a0.2.2 x.2) fun x_2=>o6 (X5 (fun(x:List V5×Int)=>l7 (ilt x.2
 (o8 x_2.2.2.2.2)) (o6 (lat x_2.2.2.2.2 x.2) fun x_3=>o6 (bn x_1 x_2.1 x_3.1) fun x_4=>l7 (E5 x_4.2.2) (o6 (dE x.1 [(x_2.1,x_3.1,1)]) fun x_5=>some (.inl (x_5,A7 .i64 x.2 1))) (o6
 (nX x_2 x.2 x_4.1 x_4.2.1) fun x_5=>l7 (E5 x_5) (o6 (dE x.1 [(x_2.1,x_3.1,3)]) fun x_6=>some
 (.inl (x_6,A7 .i64 x.2 1))) (some (.inl (x.1,A7 .i64 x.2 1))))) (some (.inr x.1))) (x.1,0)) fun y=>
 some (.inl (y,A7 .i64 x.2 1))) (some (.inr x.1))) ([],0)) fun y=>o6 (X5 (fun(x_2:List V5×Int)=>
 l7 (ilt x_2.2 (o8 a1.2.2)) (o6 (lat a1.2.2 x_2.2) fun x_3=>o6 (X5 (fun(x_4:List V5×Int)=>l7 (ilt x_4.2
 (o8 x_3.2.2.2.2)) (o6 (lat x_3.2.2.2.2 x_4.2) fun x_5=>o6 (bn x x_3.1 x_5.1) fun x
 =>l7 (E5 x.2.2) (o6 (dE x_4.1 [(x_3.1,x_5.1,2)]) fun x=>some (.inl (x,A7 .i64 x_4.2 1))) (some (.inl
 (x_4.1,A7 .i64 x_4.2 1)))) (some (.inr x_4.1))) (x_2.1,0)) fun y=>some (.inl (y,A7 .i64 x_2.2 1)))
 (some (.inr x_2.1))) (y,0)) fun y=>some y
def s12:FSpec:=mkS b7U b9r fun x=>eU x.1 x.2
def b7T:List MG:=[(true,(.dat y34)),(true,(.dat y34)),uiM,(true,(.dat y39)),uiM]
def b9q:Ret:=⟨[(.cell 10 27,(true,(.dat y8))),(.tmp 11,uiM)],[]⟩
def e11:Env:=⟨126,eqs,tt,gl,[(18,s18),(19,s19),(20,s20),(21,s21),(12,s12)],[],[],[],[],[]⟩
def c3u:Ann:=.seq lfA (.seq (.joinR [(10,12),(18,29),(4000640,4000641)] ⟨[(10,(false,(.box (.dat y8))))],[]⟩ lfA) (.seq (.joinR [(10,12),(29,54),(6000000,6000001)] ⟨[(10,(false,(.box (.dat y8))))],[]⟩ lfA) (.seq lfA (.seq lfA (.seq lfA (.seq lfA (.seq lfA (.seq (.seq lfA (.blk (.loop [(12,13),(16,18),(91,125),(37000768,37000769)] ⟨[(12,(false,(.box (.pair (.dat y1) (.pair (.dat y1) (.pair diM (.pair diM (.own y3)))))))),(91,uiM)],[]⟩ 0 ⟨[(12,(false,(.box (.pair (.dat y1) (.pair (.dat y1) (.pair diM (.pair diM (.own y3))))))))],[]⟩ lfA))) lfA))))))))
def jY (a0:J3) (a1:J3) (a2:Int) (a3:aQ) (a4:Int):Option (ww×Int):=o6 (o6 (nU a0) fun(x:
 X4)=>l7 (E5 (V8 (ieq x.1 0) (V8 (ieq x.2.1 0) (V8 (ieq x.2.2.1 0) (ieq x.2.2.2 0))))) (some (.inr (((0,0,0),(0,0,0),0,
 0,[]),1))) (o6 (nU a1) fun x=>l7 (E5 (V8 (ieq x.1 0) (V8 (ieq x.2.1 0) (V8 (ieq x.2.2.1 0) (ieq x.2.2.2
 0))))) (some (.inr (((0,0,0),(0,0,0),0,0,[]),1))) (some (.inl ((0,0,0),(0,0,0),0,0,[]))))) fun o
 =>X6 o (fun(x:ww)=>o6 (l7 (ilt a2 0) (some (.inr (((0,0,0),(0,0,0),0,0,[]),6))) (l7 (ile (o8 a0.2.2) a2) (some
 (.inr (((0,0,0),(0,0,0),0,0,[]),6))) (l7 (ilt a4 0) (some (.inr (((0,0,0),(0,0,0),0,0,[]),6))) (o6 (lat a0.2.2 a2) fun
 (x_1:x9)=>l7 (ile (o8 x_1.2.2.2.1) a4) (some (.inr (((0,0,0),(0,0,0),0,0,[]),6))) (some (.inl x)))))) fun o=>X6 o (fun(x:ww)=>o6 (iK a0 a1) fun x=>l7 (E5 x) (some (((0,0,0),(0,0,0),0,
 0,[]),8)) (o6 (lg a0 a2 a3 a4) fun x=>o6 (lg a1 a2 a3 a4) fun x_1=>o6
 (Y7 a0 a2 a4) fun x_2=>o6 (Y7 a1 a2 a4) fun x_3
 =>o6 (eU a0 a1) fun x_4=>o6 (X5 (fun(x:ww×Int)=>l7 (ilt x.2 (o8 x_4)) (o6 (lat x_4
 x.2) fun x_5=>o6 (L8 x_4 (toN x.2)) fun x_6=>l7 (E5 (ieq x_6.2.2 2)) (l7 (gG (fun(a b:P8)
 =>V8 (seq a.1 b.1) (seq a.2 b.2)) x_2 (x_6.1,x_6.2.1) false) (o6 (dE x.1.2.2.2.2 [x_6]) fun x_7=>some (.inl ((x.1.1,
 x.1.2.1,x.1.2.2.1,x.1.2.2.2.1,x_7),A7 .i64 x.2 1))) (l7 (E5 (ieq x_6.2.2 1)) (l7 (gG (fun(a b:P8)=>V8
 (seq a.1 b.1) (seq a.2 b.2)) x_3 (x_6.1,x_6.2.1) false) (o6 (dE x.1.2.2.2.2 [x_6]) fun x_7=>some (.inl ((x.1.1,x.1.2.1,
 x.1.2.2.1,x.1.2.2.2.1,x_7),A7 .i64 x.2 1))) (some (.inl (x.1,A7 .i64 x.2 1)))) (some (.inl (x.1,A7 .i64 x.2
 1))))) (l7 (E5 (ieq x_6.2.2 1)) (l7 (gG (fun(a b:P8)=>V8 (seq a.1 b.1) (seq a.2 b.2)) x_3 (x_6.1,x_6.2.1) false)
 (o6 (dE x.1.2.2.2.2 [x_6]) fun x_7=>some (.inl ((x.1.1,x.1.2.1,x.1.2.2.1,x.1.2.2.2.1,x_7),A7 .i64 x.2 1)))
 (some (.inl (x.1,A7 .i64 x.2 1)))) (some (.inl (x.1,A7 .i64 x.2 1))))) (some (.inr x.1))) ((x.1,x_1.1,x.2,x_1.2,[]),
 0)) fun y=>some (y,0))) fun r=>some r) fun r=>some r
def s11:FSpec:=mkS b7T b9q fun x=>jY x.1 x.2.1 x.2.2.1 x.2.2.2.1 x.2.2.2.2
def b7Y:List MG:=[(false,(.dat y4)),(false,(.dat y4))]
def b9w:Ret:=⟨[(.tmp 4,ubM)],[]⟩
def e15:Env:=⟨32,eqs,tt,gl,[],[],[],[],[],[]⟩
def c3y:Ann:=.seq lfA (.seq lfA (.seq (.seq lfA (.blk (.loopR [(4,6),(11,32)] ⟨[(5,uiM)],[]⟩ 0 ⟨[],[]⟩ lfA))) lfA))
def Gv (a0:List V5) (a1:List V5):Option Bool:=l7 (E5 (ieq (o8 a0) (o8 a1))) (some false) (o6 (U2 (fun(x:
 Int)=>l7 (ilt x (o8 a0)) (l7 (ilt x (o8 a1)) (o6 (lat a0 x) fun x_1=>o6 (lat a1 x) fun x_2=>l7 (E5
 (V8 (seq x_1.1 x_2.1) (V8 (seq x_1.2.1 x_2.2.1) (ieq x_1.2.2 x_2.2.2)))) (some (.rt false)) (some (.nx (A7 .i64 x 1)))) (some
 (.ex ()))) (some (.ex ()))) 0) fun o=>X6 o (fun(y:PUnit)=>some true) fun r=>some r)
def s15:FSpec:=mkS b7Y b9w fun x=>Gv x.1 x.2
def ps7:List MG:=[(true,(.dat y8))]
def rt7:Ret:=⟨[(.tmp 2,ubM)],[]⟩
def e7:Env:=⟨24,eqs,tt,gl,[],[],[],[],[],[]⟩
def an7:Ann:=.leaf
def dC (a0:ww):Option Bool:=l7 (ieq a0.2.2.1 0) (l7 (ieq a0.2.2.2.1 0) (some (E5 (V8 (ieq a0.1.1 a0.2.1.1) (V8
 (ieq a0.1.2.1 a0.2.1.2.1) (ieq a0.1.2.2 a0.2.1.2.2))))) (l7 (ieq a0.2.2.1 0) (some true) (some (ieq a0.2.2.2.1 0)))) (l7 (ieq a0.2.2.1 0) (some
 true) (some (ieq a0.2.2.2.1 0)))
def s7:FSpec:=mkS ps7 rt7 fun x=>dC x
def ps9:List MG:=[]
def rt9:Ret:=⟨[(.tmp 0,ubM)],[]⟩
def e9:Env:=⟨58,eqs,tt,gl,[(14,s14),(11,s11),(15,s15),(7,s7)],[],[],[],[],[]⟩
def an9:Ann:=.seq lfA (.seq lfA (.seq lfA (.seq lfA (.seq (.joinR [(0,1),(20,44)] ⟨[],[]⟩ lfA) lfA))))
def qo:Option Bool:=o6 (zk [(3,500)]) fun x=>o6 (zk [(3,600)]) fun x_1=>o6
 (jY x x_1 0 (1,[(3,0,0)],[]) 0) fun x=>o6 (l7 (E5 (ieq x.2 0)) (some (.inr false)) (l7 (E5 (V8
 (ieq x.1.1.1 3) (V8 (ieq x.1.1.2.1 0) (ieq x.1.1.2.2 500)))) (some (.inr false)) (l7 (E5 (V8 (ieq x.1.2.1.1 3) (V8 (ieq x.1.2.1.2.1 0)
 (ieq x.1.2.1.2.2 600)))) (some (.inr false)) (l7 (E5 (ieq x.1.2.2.1 0)) (some (.inr false)) (l7 (E5 (ieq x.1.2.2.2.1 0)) (some
 (.inr false)) (some (.inl ()))))))) fun o=>X6 o (fun(x_2:PUnit)=>o6 (Gv x.1.2.2.2.2 [([104,111,
 117,115,101],[98,97,115,101],3)]) fun x_3=>l7 x_3 (o6 (dC x.1) fun x=>l7 x (o6
 (dC ((0,0,0),(0,0,0),0,0,[])) fun x=>some (E5 x)) (some false)) (some false)) fun r=>some r
def s9:FSpec:=mkS ps9 rt9 fun x=>qo
def ps4:List MG:=[(true,(.dat y35)),uiM,(true,(.dat y39)),uiM]
def rt4:Ret:=⟨[(.tmp 8,ubM)],[]⟩
def e4:Env:=⟨92,eqs,tt,gl,[(10,s10),(9,s9),(11,s11),(7,s7),(12,s12)],[],[],[],[],[]⟩
def an4:Ann:=.seq lfA (.seq lfA (.seq lfA (.seq lfA (.seq lfA (.seq lfA (.seq (.seq lfA (.blk (.loopR [(8,9),(12,14),(49,80)] ⟨[(12,uiM),(13,uiM)],[]⟩ 0 ⟨[],[]⟩ (.seq lfA (.seq (.blk (.seq (.blk (.loop [(12,13),(56,74)] ⟨[(12,uiM)],[]⟩ 2 ⟨[(12,uiM)],[]⟩ lfA)) lfA)) lfA))))) lfA))))))
def kQ (a0:uS) (a1:Int) (a2:aQ) (a3:Int):Option Bool:=o6 (wQ a0 a2) fun x=>
 l7 (E5 x) (o6 qo fun x=>some x) (o6 (jY a0.1 a0.2 a1 a2 a3) fun x=>l7 (E5 (ieq
 x.2 0)) (o6 (dC x.1) fun x_1=>l7 (E5 x_1) (l7 (ieq (o8 x.1.2.2.2.2) 0) (o6 qo fun x=>
 some x) (some false)) (some false)) (o6 (eU a0.1 a0.2) fun x_1=>o6 (U2 (fun(x_2:I7)=>l7 (ilt
 x_2.2 (o8 x.1.2.2.2.2)) (o6 (X5 (fun(x_3:Int)=>l7 (ilt x_3 (o8 x_1)) (o6 (lat x_1 x_3) fun x_4=>o6 (L8 x_1
 (toN x_3)) fun x_5=>o6 (lat x.1.2.2.2.2 x_2.2) fun x=>l7 (E5 (V8 (seq x_5.1 x.1) (V8 (seq x_5.2.1 x.2.1) (ieq
 x_5.2.2 x.2.2)))) (some (.inl (A7 .i64 x_3 1))) (some (.inr x_3))) (some (.inr x_3))) x_2.1) fun y=>l7 (ieq y (o8
 x_1)) (some (.rt false)) (some (.nx (A7 .i64 y 1,A7 .i64 x_2.2 1)))) (some (.ex ()))) (0,0)) fun o=>X6 o (fun(y:PUnit)=>o6 (dC x.1) fun x_2=>l7 (E5 x_2) (o6 qo fun x=>some x)
 (l7 (ilt 0 (o8 x.1.2.2.2.2)) (o6 qo fun x=>some x) (some false))) fun r=>some r))
def s4:FSpec:=mkS ps4 rt4 fun x=>kQ x.1 x.2.1 x.2.2.1 x.2.2.2
def c7H:Option (List (List UInt8)):=some [[105,102],[116,104,101,110],[101,108,115,101],[111,114],[97,110,100],[110,
 111,116],[116,114,117,101],[102,97,108,115,101],[116,111,100,97,121],[115,104,97,114,101],[100,105,118],[114,111,117,110,
 100],[109,105,110],[109,97,120],[112,108,117,115],[109,111,110,116,104,115],[100,97,121,115],[121,101,97,114,115],[121,
 101,97,114],[109,111,110,116,104],[116,97,98],[98,97,110,100],[99,111,117,110,116],[115,117,109],[97,108,108],[97,110,
 121],[109,111,115,116],[101,110,117,109],[116,97,98,108,101],[114,111,119],[115,99,111,112,101],[109,101,109,98,101,114,
 115],[105,110,112,117,116],[100,101,102],[114,117,108,101],[111,102],[111,118,101,114],[112,114,105,111],[102,114,111,109],
 [116,111],[101,110,100],[119,104,101,110],[105,115],[115,114,99],[98,111,111,108],[105,110,116],[109,111,110,101,121],[114,
 97,116,101],[100,97,116,101],[100,111,119,110],[117,112],[122,101,114,111],[97,119,97,121],[104,97,108,102],[101,118,101,
 110]]
def c6P (a0:qE) (a1:List bP):Option Bool:=l7 (ieq a0.1 6) (l7 (ile 0 a0.2) (some (ilt a0.2 (o8 a1))) (some false))
 (l7 (ile 1 a0.1) (l7 (ile a0.1 5) (some (ieq a0.2 0)) (some false)) (some false))
def c7V (a0:qE):Option Bool:=l7 (ile 0 a0.1) (l7 (ile a0.1 a0.2) (some (ile a0.2 109573)) (some false)) (some false)
def c7a (a0:qE) (a1:List bP):Option qE:=o6 (c6P a0 a1) fun x=>l7 (E5 x) (some (0,-1)) (l7
 (ieq a0.1 1) (some (0,1)) (l7 (ieq a0.1 2) (some (-1000000000000,1000000000000)) (l7 (ieq a0.1 3) (some (-1000000000000000,
 1000000000000000)) (l7 (ieq a0.1 4) (some (-1000000000,1000000000)) (l7 (ieq a0.1 5) (some (0,109572)) (o6 (lat a1 a0.2) fun x
 =>some (0,G8 .i64 (o8 x.2) 1)))))))
def c6V (a0:Int):Option Int:=o6 (l7 (ile 1 a0) (l7 (ile a0 9) (some (.inr 0)) (l7 (ile 35 a0) (l7 (ile a0 39) (some
 (.inr 0)) (some (.inl ()))) (some (.inl ())))) (l7 (ile 35 a0) (l7 (ile a0 39) (some (.inr 0)) (some (.inl
 ()))) (some (.inl ())))) fun o=>X6 o (fun(x:PUnit)=>l7 (ieq a0 10) (l7 (ieq a0 10) (some 1) (l7
 (ieq a0 26) (some 3) (l7 (ile 11 a0) (l7 (ile a0 30) (some 2) (some (-1))) (some (-1))))) (l7 (ieq a0 25) (l7 (ieq a0 25) (some 1) (l7
 (ieq a0 26) (some 3) (l7 (ile 11 a0) (l7 (ile a0 30) (some 2) (some (-1))) (some (-1))))) (l7 (ieq a0 31) (l7 (ieq a0 31) (some 1) (l7
 (ieq a0 26) (some 3) (l7 (ile 11 a0) (l7 (ile a0 30) (some 2) (some (-1))) (some (-1))))) (l7 (ieq a0 32) (l7 (ieq a0 32) (some 1) (l7
 (ieq a0 26) (some 3) (l7 (ile 11 a0) (l7 (ile a0 30) (some 2) (some (-1))) (some (-1))))) (l7 (ieq a0 33) (l7 (ieq a0 33) (some 1) (l7
 (ieq a0 26) (some 3) (l7 (ile 11 a0) (l7 (ile a0 30) (some 2) (some (-1))) (some (-1))))) (l7 (ieq a0 34) (some 1) (l7 (ieq a0 26) (some
 3) (l7 (ile 11 a0) (l7 (ile a0 30) (some 2) (some (-1))) (some (-1)))))))))) fun r=>some r
def c6M (a0:Int):Option Bool:=o6 (l7 (ile 1 a0) (l7 (ile a0 8) (some (.inr true)) (l7 (ile 36 a0) (l7 (ile a0 39)
 (some (.inr true)) (some (.inl ()))) (some (.inl ())))) (l7 (ile 36 a0) (l7 (ile a0 39) (some (.inr true)) (some
 (.inl ()))) (some (.inl ())))) fun o=>X6 o (fun(x:PUnit)=>l7 (ieq a0 14) (some true) (l7 (ieq
 a0 15) (some true) (l7 (ieq a0 16) (some true) (l7 (ieq a0 33) (some true) (some (ieq a0 34)))))) fun r=>some r
def c6S (a0:Int):Option qE:=some (a0,0)
def c7g (a0:qE) (a1:H7):Option Bool:=o6 (l7 (ieq a0.1 1) (some (ieq a0.1 1)) (l7 (ieq a0.1 2) (some (ieq a0.1 2))
 (l7 (ieq a0.1 3) (some (ieq a0.1 3)) (l7 (ieq a0.1 4) (some (ieq a0.1 4)) (some (ieq a0.1 5)))))) fun x=>l7 x (o6 (c6S
 a0.1) fun x=>o6 (c7a x a1.1) fun x=>l7 (ile x.1 a0.2) (some (ile a0.2 x.2)) (some false)) (o6 (l7 (ieq
 a0.1 14) (some (ieq a0.1 14)) (l7 (ieq a0.1 15) (some (ieq a0.1 15)) (some (ieq a0.1 16)))) fun x=>l7 x (l7 (ile 0 a0.2) (some
 (ile a0.2 5)) (some false)) (l7 (ieq a0.1 34) (l7 (ile 0 a0.2) (some (ile (dV a0.2 8) 5)) (some false)) (l7 (ieq a0.1 6) (some (ile 0
 a0.2)) (some true))))
def c7k (a0:qE) (a1:H7):Option Bool:=l7 (ieq a0.1 6) (l7 (ilt (aN .i64 a0.2 16) (o8 a1.1)) (o6 (lat
 a1.1 (aN .i64 a0.2 16)) fun x=>some (ilt (dV a0.2 16) (o8 x.2))) (some false)) (l7 (ieq a0.1 7) (l7 (ile 0 a0.2) (some
 (ilt a0.2 (o8 a1.2.2.1))) (some false)) (l7 (ieq a0.1 8) (l7 (ile 0 a0.2) (some (ilt a0.2 (o8 a1.2.2.2.1))) (some false)) (l7 (ieq a0.1
 33) (l7 (ile 0 a0.2) (some (ilt a0.2 (o8 a1.2.1))) (some false)) (l7 (ieq a0.1 34) (some (ilt (aN .i64 a0.2 8) (o8 a1.2.1)))
 (l7 (ieq a0.1 35) (some a1.2.2.2.2.2) (o6 (l7 (ieq a0.1 36) (some (ieq a0.1 36)) (l7 (ieq a0.1 37) (some (ieq a0.1 37)) (l7 (ieq a0.1
 38) (some (ieq a0.1 38)) (some (ieq a0.1 39))))) fun x=>l7 x (l7 a1.2.2.2.2.2 (l7 (ile 0 a0.2) (some (ilt a0.2 (o8
 a1.2.2.2.2.1))) (some false)) (some false)) (some true)))))))
def c7w (a0:Int):Option Bool:=l7 (ieq a0 2) (some true) (l7 (ieq a0 3) (some true) (some (ieq a0 4)))
def c7h (a0:Int):Option Bool:=o6 (c7w a0) fun x=>l7 x (some true) (some (ieq a0 5))
def c6W (a0:qE) (a1:H7):Option (qE×Bool):=o6 (l7 (ieq a0.1 6) (some (6,aN .i64 a0.2 16)) (l7 (ieq
 a0.1 7) (o6 (lat a1.2.2.1 a0.2) fun x=>some x) (l7 (ieq a0.1 8) (o6 (lat a1.2.2.2.1 a0.2) fun x=>some x) (l7 (ieq
 a0.1 9) (o6 (c6S 5) fun x=>some x) (l7 (ieq a0.1 35) (o6 (c6S 2) fun x=>some x) (o6 (l7 (ieq
 a0.1 36) (some (ieq a0.1 36)) (l7 (ieq a0.1 37) (some (ieq a0.1 37)) (l7 (ieq a0.1 38) (some (ieq a0.1 38)) (some (ieq a0.1 39))))) fun(x:
 Bool)=>l7 x (o6 (lat a1.2.2.2.2.1 a0.2) fun x=>some x) (o6 (c6S a0.1) fun x=>some x))))))) fun x
 =>o6 (c6P x a1.1) fun x_1=>l7 (ieq a0.1 36) (l7 x_1 (l7 (ieq x.1 2) (some (x,true)) (some (x,ieq x.1 3))) (some
 (x,false))) (l7 (ieq a0.1 37) (l7 (ieq a0.1 37) (l7 x_1 (some (x,ieq x.1 1)) (some (x,false))) (l7 (ieq a0.1 39) (l7 x_1 (o6
 (c7h x.1) fun x_2=>some (x,x_2)) (some (x,false))) (some (x,x_1)))) (l7 (ieq a0.1 38) (l7 x_1 (some (x,ieq x.1 1))
 (some (x,false))) (l7 (ieq a0.1 39) (l7 x_1 (o6 (c7h x.1) fun x_2=>some (x,x_2)) (some (x,false))) (some (x,
 x_1)))))
def c7m (a0:qE) (a1:qE) (a2:H7):Option (qE×Bool):=l7 (ieq a0.1 10) (o6 (c7w a1.1) fun x
 =>some (a1,x)) (l7 (ieq a0.1 25) (some (a1,ieq a1.1 1)) (o6 (l7 (ieq a0.1 31) (some (ieq a0.1 31)) (some (ieq a0.1 32))) fun x
 =>l7 x (o6 (c6S 2) fun x=>some (x,ieq a1.1 5)) (l7 (ieq a0.1 33) (o6 (lat a2.2.1 a0.2) fun x=>o6
 (c6P x.2.1 a2.1) fun x_1=>l7 x_1 (o6 (c6P x.2.2.1 a2.1) fun x_2=>l7 x_2 (some (x.2.2.1,V8
 (ieq a1.1 x.2.1.1) (ieq a1.2 x.2.1.2))) (some (x.2.2.1,false))) (some (x.2.2.1,false))) (o6 (lat a2.2.1 (aN .i64 a0.2 8)) fun(x:
 ai)=>l7 (ieq a1.1 3) (o6 (c6S 3) fun x_1=>l7 (V8 (ieq x.2.1.1 x_1.1) (ieq x.2.1.2 x_1.2)) (o6 (c6S 4)
 fun x_2=>some (a1,V8 (ieq x.2.2.1.1 x_2.1) (ieq x.2.2.1.2 x_2.2))) (some (a1,false))) (some (a1,false))))))
def c7U (a0:Int) (a1:Int) (a2:Int):Option (qE×Bool):=l7 (ieq a0 13) (o6 (c6S a1) fun x=>l7 (ieq a2
 2) (l7 (ieq a1 2) (some (x,true)) (some (x,ieq a1 3))) (some (x,false))) (l7 (ieq a0 14) (o6 (c6S a1) fun x=>l7
 (ieq a2 4) (l7 (ieq a1 3) (some (x,true)) (some (x,ieq a1 4))) (some (x,false))) (l7 (ieq a1 3) (l7 (ieq a2 3) (o6 (c6S 4) fun
 (x:qE)=>some (x,true)) (o6 (c6S a1) fun x=>l7 (ieq a2 2) (l7 (ieq a1 2) (some (x,true)) (some (x,ieq a1 3)))
 (some (x,false)))) (o6 (c6S a1) fun x=>l7 (ieq a2 2) (l7 (ieq a1 2) (some (x,true)) (some (x,ieq a1 3))) (some (x,
 false)))))
def c7v (a0:Int) (a1:qE) (a2:qE):Option (qE×Bool):=o6 (o6 (l7 (ieq a0 11) (some (ieq a0 11)) (some (ieq a0
 12))) fun x=>l7 x (l7 (V8 (ieq a1.1 a2.1) (ieq a1.2 a2.2)) (o6 (c7w a1.1) fun x=>some (.inr (a1,x)))
 (some (.inr (a1,false)))) (o6 (l7 (ieq a0 13) (some (ieq a0 13)) (l7 (ieq a0 14) (some (ieq a0 14)) (some (ieq a0 15)))) fun x
 =>l7 x (o6 (c7U a0 a1.1 a2.1) fun x=>some (.inr x)) (l7 (ieq a0 16) (l7 (ieq a1.1 3) (some (.inr (a1,
 ieq a2.1 3))) (some (.inr (a1,false)))) (o6 (l7 (ieq a0 17) (some (ieq a0 17)) (some (ieq a0 18))) fun x=>l7 x (l7 (V8
 (ieq a1.1 a2.1) (ieq a1.2 a2.2)) (o6 (c7h a1.1) fun x=>some (.inr (a1,x))) (some (.inr (a1,false)))) (o6 (l7
 (ieq a0 19) (some (ieq a0 19)) (some (ieq a0 20))) fun x=>l7 x (o6 (c6S 1) fun x=>some (.inr (x,V8 (ieq
 a1.1 a2.1) (ieq a1.2 a2.2)))) (o6 (l7 (ieq a0 21) (some (ieq a0 21)) (some (ieq a0 22))) fun x=>l7 x (o6 (c6S 1) fun(x
 :qE)=>l7 (V8 (ieq a1.1 a2.1) (ieq a1.2 a2.2)) (o6 (c7h a1.1) fun x_1=>some (.inr (x,x_1))) (some (.inr (x,
 false)))) (l7 (ieq a0 23) (l7 (ieq a0 23) (l7 (ieq a1.1 1) (some (.inr (a1,ieq a2.1 1))) (some (.inr (a1,false)))) (l7 (ieq a0
 27) (l7 (ieq a0 27) (l7 (ieq a1.1 5) (some (.inr (a1,ieq a2.1 2))) (some (.inr (a1,false)))) (some (.inl (0,0)))) (l7 (ieq a0
 28) (l7 (ieq a1.1 5) (some (.inr (a1,ieq a2.1 2))) (some (.inr (a1,false)))) (some (.inl (0,0)))))) (l7 (ieq a0 24) (l7 (ieq
 a1.1 1) (some (.inr (a1,ieq a2.1 1))) (some (.inr (a1,false)))) (l7 (ieq a0 27) (l7 (ieq a0 27) (l7 (ieq a1.1 5) (some (.inr (a1,
 ieq a2.1 2))) (some (.inr (a1,false)))) (some (.inl (0,0)))) (l7 (ieq a0 28) (l7 (ieq a1.1 5) (some (.inr (a1,ieq a2.1 2))) (some
 (.inr (a1,false)))) (some (.inl (0,0))))))))))))) fun o=>X6 o (fun(x:qE)=>o6 (c6S 2) fun(x:
 qE)=>l7 (ieq a1.1 5) (some (x,ieq a2.1 5)) (some (x,false))) fun r=>some r
def c7C (a0:qE) (a1:List qE) (a2:H7):Option (qE×Int):=o6 (l7 (E5 (ieq a0.2 0)) (o6 (c6M
 a0.1) fun x=>l7 (E5 x) (some (.inr ((0,0),2))) (some (.inl (0,0)))) (some (.inl (0,0)))) fun o
 =>X6 o (fun(x:qE)=>o6 (c7g a0 a2) fun x=>l7 (E5 x) (some ((0,0),3)) (o6 (c7k a0 a2) fun(x:
 Bool)=>l7 (E5 x) (some ((0,0),6)) (l7 (ieq (o8 a1) 0) (o6 (c6W a0 a2) fun x=>l7 (E5 x.2) (some ((0,
 0),8)) (some (x.1,0))) (l7 (ieq (o8 a1) 1) (o6 (lat a1 0) fun x=>o6 (c7m a0 x a2) fun x=>l7
 (E5 x.2) (some ((0,0),8)) (some (x.1,0))) (l7 (ieq (o8 a1) 2) (o6 (lat a1 0) fun x=>o6 (lat a1 1) fun x_1=>
 o6 (c7v a0.1 x x_1) fun x=>l7 (E5 x.2) (some ((0,0),8)) (some (x.1,0))) (o6 (lat a1 1) fun x=>
 o6 (lat a1 0) fun x_1=>l7 (ieq x_1.1 1) (o6 (lat a1 1) fun x_2=>o6 (lat a1 2) fun x_3=>l7 (E5
 (V8 (ieq x_2.1 x_3.1) (ieq x_2.2 x_3.2))) (some ((0,0),8)) (some (x,0))) (l7 (E5 false) (some ((0,0),8)) (some (x,0))))))))) fun(r:
 qE×Int)=>some r
def c7G (a0:qE) (a1:Int):Option Bool:=o6 (c7V a0) fun x=>l7 x (l7 (ile a0.1 a1) (some (ilt a1 a0.2))
 (some false)) (some false)
def c7x (a0:Int):Option qE:=l7 (ieq a0 1) (some (0,1)) (l7 (ieq a0 2) (some (-1000000000000,1000000000000)) (l7 (ieq a0
 3) (some (-1000000000000000,1000000000000000)) (l7 (ieq a0 4) (some (-1000000000,1000000000)) (l7 (ieq a0 5) (some (0,109572)) (l7 (ieq
 a0 6) (some (0,15)) (some (0,-1)))))))
def c6Q (a0:L6):Option Bool:=o6 (c7x a0.1) fun x=>l7 (ilt a0.2.2 x.1) (some false) (l7 (ilt x.2
 a0.2.2) (some false) (l7 (ieq a0.1 6) (l7 (ile 0 a0.2.1) (some (ilt a0.2.1 8)) (some false)) (some (ieq a0.2.1 0))))
def c7i (a0:Int):Option Bool:=o6 (l7 (ile 1 a0) (l7 (ile a0 8) (some (.inr true)) (l7 (ile 36 a0) (l7 (ile a0 39)
 (some (.inr true)) (some (.inl ()))) (some (.inl ())))) (l7 (ile 36 a0) (l7 (ile a0 39) (some (.inr true)) (some
 (.inl ()))) (some (.inl ())))) fun o=>X6 o (fun(x:PUnit)=>l7 (ieq a0 14) (some true) (l7 (ieq
 a0 15) (some true) (l7 (ieq a0 16) (some true) (l7 (ieq a0 33) (some true) (some (ieq a0 34)))))) fun r=>some r
def c7D (a0:qE) (a1:Int):Option Bool:=o6 (o6 (c6V a0.1) fun x=>l7 (E5 (ieq x a1)) (some (.inr
 false)) (l7 (E5 (ieq a0.2 0)) (o6 (c7i a0.1) fun x=>l7 (E5 x) (some (.inr false)) (some (.inl ())))
 (some (.inl ())))) fun o=>X6 o (fun(x:PUnit)=>o6 (l7 (ieq a0.1 14) (some (ieq a0.1 14)) (l7 (ieq a0.1
 15) (some (ieq a0.1 15)) (some (ieq a0.1 16)))) fun x=>l7 x (l7 (ile 0 a0.2) (some (ile a0.2 5)) (some false)) (l7 (ieq a0.1 34)
 (l7 (ile 0 a0.2) (some (ile (dV a0.2 8) 5)) (some false)) (l7 (ieq a0.1 6) (some (ile 0 a0.2)) (some true)))) fun r=>some r
def c7B (a0:qE) (a1:U9):Option Bool:=l7 (ieq a0.1 7) (l7 (ile 0 a0.2) (some (ilt a0.2 (o8 a1.2.1))) (some false)) (l7
 (ieq a0.1 8) (l7 (ile 0 a0.2) (l7 (ilt a0.2 (o8 a1.2.2.1)) (o6 (lat a1.2.2.1 a0.2) fun x=>some (E5 (ieq x.1 0))) (some
 false)) (some false)) (l7 (ieq a0.1 33) (l7 (ile 0 a0.2) (some (ilt a0.2 (o8 a1.2.2.2.2.2))) (some false)) (l7 (ieq a0.1 34) (some (ilt
 (aN .i64 a0.2 8) (o8 a1.2.2.2.2.2))) (o6 (l7 (ieq a0.1 36) (some (ieq a0.1 36)) (l7 (ieq a0.1 37) (some (ieq a0.1 37)) (l7
 (ieq a0.1 38) (some (ieq a0.1 38)) (some (ieq a0.1 39))))) fun x=>l7 x (l7 (ile 0 a0.2) (some (ilt a0.2 (o8 a1.2.2.2.2.1))) (some
 false)) (some true)))))
def c7L (a0:Int) (a1:qE):Option Bool:=l7 (E5 (ieq a1.2 0)) (some false) (l7 (ieq a0 36) (l7 (ieq a1.1 2) (some true)
 (some (ieq a1.1 3))) (l7 (ieq a0 39) (l7 (ile 2 a1.1) (some (ile a1.1 5)) (some false)) (some (ieq a1.1 1))))
def c7T (a0:L6) (a1:qE):Option Bool:=o6 (c6Q a0) fun x=>l7 x (l7 (ieq a0.1 a1.1) (some (ieq
 a0.2.1 a1.2)) (some false)) (some false)
def c7R (a0:Int) (a1:Int) (a2:Int) (a3:Bool):Option Int:=l7 (ieq a0 36) (some (A7 .i64 a1 a2)) (l7 (ieq a0 37) (some
 (W9 .i64 a1 a2)) (l7 (ieq a0 38) (l7 (ilt a1 a2) (some a2) (some a1)) (l7 a3 (some a2) (l7 (ilt a1 a2) (some a2) (some a1)))))
def c6K (a0:Int) (a1:Int):Option (L6×Int):=o6 (c6Q (a0,0,a1)) fun x=>l7 (E5 x) (some ((0,0,0),
 3)) (some ((a0,0,a1),0))
def c7c (a0:qE) (a1:U9):Option (L6×Int):=o6 (lat a1.2.2.2.2.1 a0.2) fun x=>o6 (c7L a0.1 x)
 fun x_1=>l7 (E5 x_1) (some ((0,0,0),8)) (o6 (l7 (ieq a0.1 37) (some 1) (some 0)) fun x_2=>o6 (U2 (fun(x_3:
 L6×qE)=>l7 (ilt x_3.2.2 (o8 a1.2.2.2.1)) (o6 (lat a1.2.2.2.1 x_3.2.2) fun x_4=>o6 (l7 (ile (o8 x_4)
 a0.2) (some (.inr ((0,0,0),6))) (o6 (lat x_4 a0.2) fun x=>l7 (ieq x.1 0) (some (.inr ((0,0,0),6))) (some (.inl
 x_3.1)))) fun o=>X6 o (fun(x_5:L6)=>o6 (lat x_4 a0.2) fun x_6=>o6 (c7T x_6 x) fun
 (x_7:Bool)=>l7 (E5 x_7) (some (.rt ((0,0,0),8))) (o6 (lat x_4 a0.2) fun x_8=>o6 (c7R a0.1 x_3.2.1 x_8.2.2
 (ieq x_3.2.2 0)) fun x_9=>o6 (c6K x.1 x_9) fun x=>l7 (E5 (ieq x.2 0)) (some (.rt ((0,0,0),x.2)))
 (some (.nx (x_5,x_9,A7 .i64 x_3.2.2 1))))) fun r=>some (.rt r)) (some (.ex (x_3.1,x_3.2.1)))) ((0,0,0),
 x_2,0)) fun o=>X6 o (fun(y:L6×Int)=>l7 (ieq a0.1 39) (l7 (ieq (o8 a1.2.2.2.1) 0) (some ((0,
 0,0),6)) (o6 (c6K x.1 y.2) fun x=>some x)) (o6 (c6K x.1 y.2) fun x=>some x)) fun(r:
 L6×Int)=>some r)
def c6N (a0:qE) (a1:U9):Option (L6×Int):=l7 (ieq a0.1 7) (o6 (lat a1.2.1 a0.2) fun x=>o6
 (c6Q x) fun x=>l7 (E5 x) (some ((0,0,0),8)) (o6 (lat a1.2.1 a0.2) fun x=>some (x,0))) (l7 (ieq
 a0.1 8) (o6 (lat a1.2.2.1 a0.2) fun x=>o6 (c6Q x) fun x=>l7 (E5 x) (some ((0,0,0),8)) (o6 (lat
 a1.2.2.1 a0.2) fun x=>some (x,0))) (l7 (ieq a0.1 9) (o6 (c6K 5 a1.1) fun x=>some x) (l7 (ieq a0.1
 35) (o6 (c6K 2 (o8 a1.2.2.2.1)) fun x=>some x) (l7 (ieq a0.1 6) (o6 (c6Q (6,aN .i64 a0.2
 16,dV a0.2 16)) fun x=>l7 (E5 x) (some ((0,0,0),3)) (some ((6,aN .i64 a0.2 16,dV a0.2 16),0))) (o6 (c6K
 a0.1 a0.2) fun x=>some x)))))
def c7E (a0:Int):Option Bool:=l7 (ieq a0 2) (some true) (l7 (ieq a0 3) (some true) (some (ieq a0 4)))
def c7b (a0:Bool):Option (L6×Int):=l7 a0 (some ((1,0,1),0)) (some ((1,0,0),0))
def c7j (a0:Int):Option Bool:=l7 (ile 0 a0) (some (ile a0 109572)) (some false)
def c7N (a0:Int):Option Bool:=l7 (ieq (dV a0 4) 0) (l7 (E5 (ieq (dV a0 100) 0)) (some true) (some (ieq (dV a0 400) 0)))
 (some false)
def c6U (a0:Int):Option Int:=o6 (c7N a0) fun x=>l7 x (some 366) (some 365)
def c6L (a0:Int) (a1:Int):Option Int:=l7 (ieq a1 2) (o6 (c7N a0) fun x=>l7 x (some 29) (some 28))
 (o6 (l7 (ieq a1 4) (some (ieq a1 4)) (l7 (ieq a1 6) (some (ieq a1 6)) (l7 (ieq a1 9) (some (ieq a1 9)) (some (ieq a1 11))))) fun(x:
 Bool)=>l7 x (some 30) (l7 (ieq a1 1) (l7 (ieq a1 1) (some 31) (some 0)) (l7 (ieq a1 3) (l7 (ieq a1 3) (some 31) (some 0)) (l7
 (ieq a1 5) (l7 (ieq a1 5) (some 31) (some 0)) (l7 (ieq a1 7) (l7 (ieq a1 7) (some 31) (some 0)) (l7 (ieq a1 8) (l7 (ieq a1 8) (some
 31) (some 0)) (l7 (ieq a1 10) (l7 (ieq a1 10) (some 31) (some 0)) (l7 (ieq a1 12) (some 31) (some 0)))))))))
def c7A (a0:Int):Option L6:=o6 (c7j a0) fun x=>l7 (E5 x) (some (0,0,0)) (o6 (X5 (fun(x:qE)
 =>o6 (c6U x.2) fun x_1=>l7 (ile x_1 x.1) (o6 (c6U x.2) fun x_2=>some (.inl (G8
 .i64 x.1 x_2,A7 .i64 x.2 1))) (some (.inr x))) (a0,1900)) fun y=>o6 (X5 (fun(x:qE)=>o6
 (c6L y.2 x.2) fun x_1=>l7 (ile x_1 x.1) (o6 (c6L y.2 x.2) fun x_2=>some (.inl (G8
 .i64 x.1 x_2,A7 .i64 x.2 1))) (some (.inr x))) (y.1,1)) fun y_1=>some (y.2,y_1.2,A7 .i64 y_1.1 1))
def c7Q (a0:tH) (a1:Int) (a2:Int):Option Bool:=o6 (c7G a0.1 a1) fun x=>l7 x (l7 (ile a0.2.1 a2)
 (some (ilt a2 a0.2.2.1)) (some false)) (some false)
def c7O (a0:ai) (a1:Int) (a2:Int):Option (Int×Bool):=o6 (U2 (fun(x:Int)=>l7 (ilt x (o8 a0.2.2.2)) (o6 (lat
 a0.2.2.2 x) fun x_1=>o6 (c7Q x_1 a1 a2) fun x_2=>l7 x_2 (some (.rt (x,true))) (some (.nx (A7
 .i64 x 1)))) (some (.ex ()))) 0) fun o=>X6 o (fun(y:PUnit)=>some (0,false)) fun r
 =>some r
def c7S (a0:ai) (a1:Int) (a2:L6):Option (L6×Int):=o6 (l7 (E5 (ieq a2.1 a0.2.1.1)) (some (.inr ((0,0,0),
 8))) (l7 (E5 (ieq a2.2.1 a0.2.1.2)) (some (.inr ((0,0,0),8))) (l7 (ilt a0.2.2.1.1 1) (some (.inr ((0,0,0),8))) (l7 (ilt 6
 a0.2.2.1.1) (some (.inr ((0,0,0),8))) (some (.inl (0,0,0))))))) fun o=>X6 o (fun(x:L6)=>o6
 (c7O a0 a1 a2.2.2) fun x=>l7 (E5 x.2) (some ((0,0,0),6)) (o6 (lat a0.2.2.2 x.1) fun x=>o6
 (c6Q (a0.2.2.1.1,a0.2.2.1.2,x.2.2.2)) fun x_1=>l7 (E5 x_1) (some ((0,0,0),3)) (some ((a0.2.2.1.1,a0.2.2.1.2,
 x.2.2.2),0)))) fun r=>some r
def c7F (a0:Int):Option Bool:=l7 (ile 0 a0) (some (ile a0 5)) (some false)
def c6R (a0:Int) (a1:Int):Option Bool:=l7 (ilt a1 a0) (some true) (some (ilt a0 (G8 .i64 0 a1)))
def c7q (a0:Int) (a1:Int):Option (Int×Int×Bool):=o6 (l7 (ilt a1 0) (some (A7 .u64 (wrap .u64 (G8
 .i64 0 (A7 .i64 a1 1))) 1)) (some (wrap .u64 a1))) fun x=>l7 (ilt 0 (wrap .i64 (aN .u64 x
 1000000))) (o6 (uZ .i64 1000000000000000 (wrap .i64 (aN .u64 x 1000000))) fun x_1=>l7 (ilt x_1 a0) (some
 (0,0,false)) (l7 (ilt 1000000000000000 (A7 .i64 (A7 .i64 (W9 .i64 a0 (wrap .i64 (aN .u64 x 1000000)))
 (W9 .i64 (aN .i64 a0 1000000) (wrap .i64 (dV x 1000000)))) (aN .i64 (W9 .i64 (dV a0 1000000) (wrap
 .i64 (dV x 1000000))) 1000000))) (some (0,0,false)) (l7 (ilt a1 0) (some (G8 .i64 0 (A7 .i64 (A7 .i64 (W9
 .i64 a0 (wrap .i64 (aN .u64 x 1000000))) (W9 .i64 (aN .i64 a0 1000000) (wrap .i64 (dV x 1000000))))
 (aN .i64 (W9 .i64 (dV a0 1000000) (wrap .i64 (dV x 1000000))) 1000000)),G8 .i64 0 (dV (W9 .i64
 (dV a0 1000000) (wrap .i64 (dV x 1000000))) 1000000),true)) (some (A7 .i64 (A7 .i64 (W9 .i64 a0 (wrap
 .i64 (aN .u64 x 1000000))) (W9 .i64 (aN .i64 a0 1000000) (wrap .i64 (dV x 1000000)))) (aN .i64
 (W9 .i64 (dV a0 1000000) (wrap .i64 (dV x 1000000))) 1000000),dV (W9 .i64 (dV a0 1000000) (wrap .i64 (dV x
 1000000))) 1000000,true))))) (l7 (ilt 1000000000000000 (A7 .i64 (A7 .i64 (W9 .i64 a0 (wrap .i64 (aN
 .u64 x 1000000))) (W9 .i64 (aN .i64 a0 1000000) (wrap .i64 (dV x 1000000)))) (aN .i64 (W9 .i64
 (dV a0 1000000) (wrap .i64 (dV x 1000000))) 1000000))) (some (0,0,false)) (l7 (ilt a1 0) (some (G8 .i64 0 (A7 .i64
 (A7 .i64 (W9 .i64 a0 (wrap .i64 (aN .u64 x 1000000))) (W9 .i64 (aN .i64 a0 1000000) (wrap
 .i64 (dV x 1000000)))) (aN .i64 (W9 .i64 (dV a0 1000000) (wrap .i64 (dV x 1000000))) 1000000)),G8
 .i64 0 (dV (W9 .i64 (dV a0 1000000) (wrap .i64 (dV x 1000000))) 1000000),true)) (some (A7 .i64 (A7
 .i64 (W9 .i64 a0 (wrap .i64 (aN .u64 x 1000000))) (W9 .i64 (aN .i64 a0 1000000) (wrap .i64
 (dV x 1000000)))) (aN .i64 (W9 .i64 (dV a0 1000000) (wrap .i64 (dV x 1000000))) 1000000),dV (W9 .i64 (dV
 a0 1000000) (wrap .i64 (dV x 1000000))) 1000000,true))))
def c6X (a0:Int) (a1:Int) (a2:Int) (a3:Bool) (a4:Int):Option Int:=o6 (l7 (ieq a4 0) (l7 a3 (some (ilt 0 a1)) (some
 false)) (l7 (ieq a4 1) (l7 (E5 a3) (some (ilt 0 a1)) (some false)) (l7 (ieq a4 3) (some (ilt 0 a1)) (l7 (ieq a4 4) (some (ile (G8
 .i64 a2 a1) a1)) (l7 (ieq a4 5) (l7 (ilt (G8 .i64 a2 a1) a1) (some true) (l7 (ieq a1 (G8 .i64 a2 a1)) (some (ieq
 (dV a0 2) 1)) (some false))) (some false)))))) fun x=>l7 x (l7 a3 (some (G8 .i64 0 (A7 .i64 a0 1))) (some (A7
 .i64 a0 1))) (l7 a3 (some (G8 .i64 0 a0)) (some a0))
def c7K (a0:Int) (a1:Int) (a2:Int):Option Int:=o6 (X5 (fun(x:qE)=>l7 (ilt x.2 0) (some (.inl (G8 .i64
 x.1 1,A7 .i64 x.2 1000000))) (some (.inr x))) (a0,a1)) fun y=>o6 (X5 (fun(x:qE)=>l7 (ile 1000000 x.2)
 (some (.inl (A7 .i64 x.1 1,G8 .i64 x.2 1000000))) (some (.inr x))) y) fun y=>l7 (ile 0 y.1) (o6
 (c6X y.1 y.2 1000000 false a2) fun x=>some x) (l7 (ieq y.2 0) (some y.1) (o6 (c6X (G8 .i64 (G8
 .i64 0 y.1) 1) (G8 .i64 1000000 y.2) 1000000 true a2) fun x=>some x))
def c7I (a0:ai) (a1:Int) (a2:Int) (a3:Int):Option qE:=o6 (c7F a3) fun x=>l7 (E5 x) (some (0,
 1)) (o6 (l7 (E5 (V8 (ieq a0.2.1.1 3) (ieq a0.2.1.2 0))) (some (.inr (0,8))) (l7 (E5 (V8 (ieq a0.2.2.1.1 4) (ieq a0.2.2.1.2 0)))
 (some (.inr (0,8))) (some (.inl ())))) fun o=>X6 o (fun(x:PUnit)=>o6 (c6R a2 1000000000000000)
 fun x=>l7 x (some (0,3)) (o6 (U2 (fun(x:L6)=>l7 (ilt x.2.2 (o8 a0.2.2.2)) (o6 (lat a0.2.2.2 x.2.2) fun(x_1:
 tH)=>o6 (lat a0.2.2.2 x.2.2) fun x_2=>l7 (ile (kG x_2.2.2.1 a2) (gV x_1.2.1 0)) (some (.nx (x.1,x.2.1,A7 .i64
 x.2.2 1))) (o6 (lat a0.2.2.2 x.2.2) fun x_3=>o6 (c7G x_3.1 a1) fun x_4=>l7 (E5 x_4) (some (.nx (x.1,
 x.2.1,A7 .i64 x.2.2 1))) (o6 (lat a0.2.2.2 x.2.2) fun x_5=>o6 (c7q (G8 .i64 (kG x_2.2.2.1 a2)
 (gV x_1.2.1 0)) x_5.2.2.2) fun x_6=>l7 (E5 x_6.2.2) (some (.rt (0,3))) (some (.nx (A7 .i64 x.1 x_6.1,
 A7 .i64 x.2.1 x_6.2.1,A7 .i64 x.2.2 1)))))) (some (.ex (x.1,x.2.1)))) (0,0,0)) fun o=>X6 o (fun(y:
 qE)=>o6 (c7K y.1 y.2 a3) fun x=>o6 (c6R x 1000000000000000) fun x_1=>l7 x_1 (some (0,3)) (some
 (x,0))) fun r=>some r)) fun r=>some r)
def c7d (a0:Int) (a1:Int) (a2:Int):Option (L6×Int):=l7 (E5 (ieq a2 0)) (some ((0,0,0),a2)) (o6 (c6K a0 a1)
 fun x=>some x)
def c6Z (a0:qE) (a1:L6) (a2:U9):Option (L6×Int):=o6 (l7 (ieq a0.1 10) (o6 (c7E a1.1) fun(x:
 Bool)=>l7 (E5 x) (some (.inr ((0,0,0),8))) (o6 (c6K a1.1 (G8 .i64 0 a1.2.2)) fun x=>some (.inr
 x))) (l7 (ieq a0.1 25) (l7 (E5 (ieq a1.1 1)) (some (.inr ((0,0,0),8))) (o6 (c7b (ieq a1.2.2 0)) fun x=>
 some (.inr x))) (o6 (l7 (ieq a0.1 31) (some (ieq a0.1 31)) (some (ieq a0.1 32))) fun x=>l7 x (l7 (E5 (ieq a1.1 5)) (some
 (.inr ((0,0,0),8))) (o6 (c7A a1.2.2) fun x=>l7 (ieq a0.1 31) (o6 (c6K 2 x.1) fun x=>
 some (.inr x)) (o6 (c6K 2 x.2.1) fun x=>some (.inr x)))) (l7 (ieq a0.1 33) (o6 (lat a2.2.2.2.2.2 a0.2) fun
 (x:ai)=>o6 (c7S x a2.1 a1) fun x=>some (.inr x)) (some (.inl (0,0,0))))))) fun o=>X6 o (fun(x:L6)=>o6 (lat a2.2.2.2.2.2 (aN .i64 a0.2 8)) fun x_1=>o6 (l7 (E5 (ieq a1.1 3)) (some
 (.inr ((0,0,0),8))) (l7 (E5 (ieq x_1.2.1.1 3)) (some (.inr ((0,0,0),8))) (l7 (E5 (ieq x_1.2.1.2 0)) (some (.inr ((0,0,0),
 8))) (l7 (E5 (ieq x_1.2.2.1.1 4)) (some (.inr ((0,0,0),8))) (l7 (E5 (ieq x_1.2.2.1.2 0)) (some (.inr ((0,0,0),8))) (some
 (.inl x))))))) fun o=>X6 o (fun(x:L6)=>o6 (c7I x_1 a2.1 a1.2.2 (dV a0.2 8)) fun x
 =>o6 (c7d 3 x.1 x.2) fun x=>some x) fun r=>some r) fun r=>some r
def c7o (a0:Int) (a1:Int) (a2:Int):Option (L6×Int):=o6 (c7x a0) fun x=>l7 (ilt a1 0) (l7 (ilt
 a2 0) (l7 (E5 (ieq (G8 .i64 0 a2) 0)) (o6 (uZ .i64 x.2 (G8 .i64 0 a2)) fun x=>l7 (ilt x (G8
 .i64 0 a1)) (some ((0,0,0),3)) (o6 (c6K a0 (W9 .i64 a1 a2)) fun x=>some x)) (o6 (c6K a0
 (W9 .i64 a1 a2)) fun x=>some x)) (l7 (E5 (ieq a2 0)) (o6 (uZ .i64 x.2 a2) fun x=>l7 (ilt x
 (G8 .i64 0 a1)) (some ((0,0,0),3)) (o6 (c6K a0 (W9 .i64 a1 a2)) fun x=>some x)) (o6 (c6K
 a0 (W9 .i64 a1 a2)) fun x=>some x))) (l7 (ilt a2 0) (l7 (E5 (ieq (G8 .i64 0 a2) 0)) (o6 (uZ
 .i64 x.2 (G8 .i64 0 a2)) fun x=>l7 (ilt x a1) (some ((0,0,0),3)) (o6 (c6K a0 (W9 .i64 a1 a2)) fun
 (x:L6×Int)=>some x)) (o6 (c6K a0 (W9 .i64 a1 a2)) fun x=>some x)) (l7 (E5 (ieq a2 0)) (o6
 (uZ .i64 x.2 a2) fun x=>l7 (ilt x a1) (some ((0,0,0),3)) (o6 (c6K a0 (W9 .i64 a1 a2)) fun x=>some x)) (o6 (c6K a0 (W9 .i64 a1 a2)) fun x=>some x)))
def c7r (a0:Int):Option Int:=l7 (ilt a0 0) (some (G8 .i64 0 a0)) (some a0)
def c7M (a0:Int) (a1:Int) (a2:Int) (a3:Int):Option qE:=o6 (c7F a3) fun x=>l7 (E5 x) (some (0,1))
 (l7 (ieq a2 0) (some (0,12)) (o6 (o6 (c6R a0 1000000000000000) fun x=>l7 x (some (.inr (0,3))) (o6
 (c6R a1 1000000000) fun x=>l7 x (some (.inr (0,3))) (o6 (c6R a2 1000000000) fun x=>l7 x (some
 (.inr (0,3))) (some (.inl ()))))) fun o=>X6 o (fun(x:PUnit)=>o6 (c7r a0) fun x=>o6
 (c7r a1) fun x_1=>o6 (c7r a2) fun x_2=>l7 (ilt 0 x_1) (o6 (uZ .i64 x x_2) fun x_3=>o6
 (uZ .i64 1000000000000000 x_1) fun x_4=>l7 (ilt x_4 x_3) (some (0,3)) (o6 (AO x x_2) fun x_5=>o6 (uZ
 .i64 x x_2) fun x=>o6 (uZ .i64 (W9 .i64 x_5 x_1) x_2) fun x_6=>o6 (AO (W9 .i64 x_5
 x_1) x_2) fun x_7=>o6 (c6X (A7 .i64 (W9 .i64 x x_1) x_6) x_7 x_2 (E5 (bZ (E5 (bZ (ilt a0 0) (ilt a1
 0))) (ilt a2 0))) a3) fun x=>o6 (c6R x 1000000000000000) fun x_8=>l7 x_8 (some (0,3)) (some (x,0)))) (o6
 (AO x x_2) fun x_3=>o6 (uZ .i64 x x_2) fun x=>o6 (uZ .i64 (W9 .i64 x_3 x_1) x_2) fun(x_4:
 Int)=>o6 (AO (W9 .i64 x_3 x_1) x_2) fun x_5=>o6 (c6X (A7 .i64 (W9 .i64 x x_1) x_4) x_5 x_2
 (E5 (bZ (E5 (bZ (ilt a0 0) (ilt a1 0))) (ilt a2 0))) a3) fun x=>o6 (c6R x 1000000000000000) fun x_6=>l7
 x_6 (some (0,3)) (some (x,0)))) fun r=>some r))
def c7J (a0:Int) (a1:Int) (a2:Int):Option qE:=o6 (c7M a0 a1 1000000 a2) fun x=>some x
def c6T (a0:Int) (a1:Int):Option Bool:=l7 (ilt a1 a0) (some true) (some (ilt a0 (G8 .i64 0 a1)))
def c7s (a0:Int) (a1:Int):Option qE:=o6 (uZ .i64 a0 a1) fun x=>o6 (AO a0 a1) fun x_1=>l7
 (ilt x_1 0) (some (G8 .i64 x 1,A7 .i64 x_1 a1)) (some (x,x_1))
def c6J (a0:Int) (a1:Int) (a2:Int) (a3:Int):Option Int:=l7 (ieq a1 0) (some a0) (o6 (l7 (ieq a3 1) (some true) (l7
 (ieq a3 2) (l7 (ilt a0 0) (some true) (l7 (ieq a3 3) (some (ile 0 a0)) (some false))) (l7 (ieq a3 3) (some (ile 0 a0)) (some false)))) fun
 (x:Bool)=>l7 (ieq a3 4) (l7 (ieq a1 (G8 .i64 a2 a1)) (l7 (ieq a3 4) (l7 (ile 0 a0) (some (A7 .i64 a0 1)) (l7
 (ieq a3 5) (l7 (E5 (ieq (dV a0 2) 0)) (some (A7 .i64 a0 1)) (some a0)) (some a0))) (l7 (ieq a3 5) (l7 (E5 (ieq (dV a0 2)
 0)) (some (A7 .i64 a0 1)) (some a0)) (some a0))) (l7 (ilt (G8 .i64 a2 a1) a1) (some (A7 .i64 a0 1)) (some a0))) (l7
 (ieq a3 5) (l7 (ieq a1 (G8 .i64 a2 a1)) (l7 (ieq a3 4) (l7 (ile 0 a0) (some (A7 .i64 a0 1)) (l7 (ieq a3 5) (l7 (E5
 (ieq (dV a0 2) 0)) (some (A7 .i64 a0 1)) (some a0)) (some a0))) (l7 (ieq a3 5) (l7 (E5 (ieq (dV a0 2) 0)) (some (A7
 .i64 a0 1)) (some a0)) (some a0))) (l7 (ilt (G8 .i64 a2 a1) a1) (some (A7 .i64 a0 1)) (some a0))) (l7 x (some (A7
 .i64 a0 1)) (some a0))))
def c7P (a0:Int) (a1:Int) (a2:Int):Option qE:=l7 (ilt a2 0) (some (0,1)) (l7 (ilt 5 a2) (some (0,1)) (o6 (c6T
 a0 1000000000) fun x=>l7 x (some (0,3)) (o6 (c6T a1 1000000000) fun x=>l7 x (some (0,3)) (o6
 (c7s (W9 .i64 a0 a1) 1000000) fun x=>o6 (c6J x.1 x.2 1000000 a2) fun x=>o6 (c6T x
 1000000000) fun x_1=>l7 x_1 (some (0,3)) (some (x,0))))))
def c7p (a0:Int) (a1:Int) (a2:Int):Option qE:=o6 (l7 (ilt a2 0) (some (.inr (0,1))) (l7 (ilt 5 a2) (some
 (.inr (0,1))) (some (.inl ())))) fun o=>X6 o (fun(x:PUnit)=>l7 (ieq a1 0) (some (0,12)) (o6
 (c6T a0 1000000000000000) fun x=>l7 x (some (0,3)) (o6 (c6T a1 1000000000000000) fun x=>l7 x (some
 (0,3)) (l7 (ilt a1 0) (o6 (c7s (G8 .i64 0 a0) (G8 .i64 0 a1)) fun x=>o6 (c6T x.1 1001) fun
 (x_1:Bool)=>l7 x_1 (some (0,3)) (o6 (uZ .i64 (W9 .i64 x.2 1000) (G8 .i64 0 a1)) fun x_2=>o6
 (AO (W9 .i64 x.2 1000) (G8 .i64 0 a1)) fun x_3=>o6 (uZ .i64 (W9 .i64 x_3 1000) (G8 .i64
 0 a1)) fun x_4=>o6 (AO (W9 .i64 x_3 1000) (G8 .i64 0 a1)) fun x_5=>o6 (c6J (A7 .i64
 (A7 .i64 (W9 .i64 x.1 1000000) (W9 .i64 x_2 1000)) x_4) x_5 (G8 .i64 0 a1) a2) fun x=>o6
 (c6T x 1000000000) fun x_6=>l7 x_6 (some (0,3)) (some (x,0)))) (o6 (c7s a0 a1) fun x=>o6
 (c6T x.1 1001) fun x_1=>l7 x_1 (some (0,3)) (o6 (uZ .i64 (W9 .i64 x.2 1000) a1) fun x_2=>
 o6 (AO (W9 .i64 x.2 1000) a1) fun x_3=>o6 (uZ .i64 (W9 .i64 x_3 1000) a1) fun x_4=>o6
 (AO (W9 .i64 x_3 1000) a1) fun x_5=>o6 (c6J (A7 .i64 (A7 .i64 (W9 .i64 x.1 1000000)
 (W9 .i64 x_2 1000)) x_4) x_5 a1 a2) fun x=>o6 (c6T x 1000000000) fun x_6=>l7 x_6 (some (0,3)) (some (x,
 0)))))))) fun r=>some r
def c7u (a0:Int) (a1:Int) (a2:Int):Option qE:=o6 (c7F a2) fun x=>l7 (E5 x) (some (0,1)) (l7 (ieq
 a1 0) (some (0,12)) (o6 (c6R a0 4611686018427387904) fun x=>l7 x (some (0,3)) (o6 (c6R a1
 4611686018427387904) fun x=>l7 x (some (0,3)) (o6 (c7r a0) fun x=>o6 (c7r a1) fun x_1=>o6
 (uZ .i64 x x_1) fun x_2=>o6 (AO x x_1) fun x=>o6 (c6X x_2 x x_1 (E5 (bZ (ilt a0 0) (ilt a1 0)))
 a2) fun x=>some (x,0)))))
def c7z (a0:Int) (a1:Int) (a2:Int):Option qE:=o6 (c7F a2) fun x=>l7 (E5 x) (some (0,1)) (l7 (ilt
 a1 1) (some (0,12)) (o6 (c6R a0 1000000000000000) fun x=>l7 x (some (0,3)) (l7 (ilt 1000000000000000 a1) (some (0,3))
 (o6 (c7r a0) fun x=>o6 (uZ .i64 x a1) fun x_1=>o6 (AO x a1) fun x=>o6 (c6X x_1
 x a1 (ilt a0 0) a2) fun x=>o6 (c6R (W9 .i64 x a1) 1000000000000000) fun x_2=>l7 x_2 (some (0,3)) (some
 (W9 .i64 x a1,0))))))
def c7y (a0:qE) (a1:L6) (a2:L6):Option (L6×Int):=o6 (o6 (l7 (ieq a0.1 13) (l7 (ieq a2.1 2) (l7 (ieq
 a1.1 3) (some true) (some (ieq a1.1 2))) (some false)) (some false)) fun x=>l7 x (o6 (c7o a1.1 a1.2.2 a2.2.2) fun(x:
 L6×Int)=>some (.inr x)) (o6 (l7 (ieq a0.1 14) (l7 (ieq a2.1 4) (some (ieq a1.1 3)) (some false)) (some false)) fun x=>
 l7 x (o6 (c7J a1.2.2 a2.2.2 a0.2) fun x=>o6 (c7d a1.1 x.1 x.2) fun x=>some (.inr x)) (o6
 (l7 (ieq a0.1 14) (l7 (ieq a2.1 4) (some (ieq a1.1 4)) (some false)) (some false)) fun x=>l7 x (o6 (c7P a1.2.2 a2.2.2
 a0.2) fun x=>o6 (c7d a1.1 x.1 x.2) fun x=>some (.inr x)) (o6 (l7 (ieq a0.1 15) (l7 (ieq a1.1 3)
 (some (ieq a2.1 3)) (some false)) (some false)) fun x=>l7 x (o6 (c7p a1.2.2 a2.2.2 a0.2) fun x=>o6
 (c7d 4 x.1 x.2) fun x=>some (.inr x)) (o6 (l7 (ieq a0.1 15) (l7 (ieq a2.1 2) (l7 (ieq a1.1 3) (some true)
 (some (ieq a1.1 2))) (some false)) (some false)) fun x=>l7 x (o6 (c7u a1.2.2 a2.2.2 a0.2) fun x=>o6
 (c7d a1.1 x.1 x.2) fun x=>some (.inr x)) (l7 (ieq a0.1 16) (l7 (ieq a1.1 3) (l7 (ieq a2.1 3) (o6
 (c7z a1.2.2 a2.2.2 a0.2) fun x=>o6 (c7d a1.1 x.1 x.2) fun x=>some (.inr x)) (some (.inl (0,
 0,0)))) (some (.inl (0,0,0)))) (some (.inl (0,0,0))))))))) fun o=>X6 o (fun(x:L6)=>some ((0,0,0),
 8)) fun r=>some r
def c7n (a0:Int) (a1:Int) (a2:Int):Option qE:=o6 (l7 (ilt a0 1900) (some (.inr (0,3))) (l7 (ilt 2199 a0) (some
 (.inr (0,3))) (l7 (ilt a2 1) (some (.inr (0,3))) (o6 (c6L a0 a1) fun x=>l7 (ilt x a2) (some (.inr (0,
 3))) (some (.inl ())))))) fun o=>X6 o (fun(x:PUnit)=>o6 (X5 (fun(x:qE)=>l7 (ilt x.2 a0) (o6
 (c6U x.2) fun x_1=>some (.inl (A7 .i64 x.1 x_1,A7 .i64 x.2 1))) (some (.inr x.1))) (G8 .i64
 a2 1,1900)) fun y=>o6 (X5 (fun(x:qE)=>l7 (ilt x.2 a1) (o6 (c6L a0 x.2) fun x_1=>some (.inl
 (A7 .i64 x.1 x_1,A7 .i64 x.2 1))) (some (.inr x.1))) (y,1)) fun y=>some (y,0)) fun r=>some r
def c6Y (a0:Int) (a1:Int):Option qE:=o6 (o6 (c7j a0) fun x=>l7 (E5 x) (some (.inr (0,3)))
 (l7 (ilt a1 (-3600)) (some (.inr (0,3))) (l7 (ilt 3600 a1) (some (.inr (0,3))) (some (.inl ()))))) fun o
 =>X6 o (fun(x:PUnit)=>o6 (c7A a0) fun x=>o6 (c6L (aN .i64 (A7 .i64 (G8
 .i64 (A7 .i64 (W9 .i64 12 x.1) x.2.1) 1) a1) 12) (A7 .i64 (dV (A7 .i64 (G8 .i64 (A7
 .i64 (W9 .i64 12 x.1) x.2.1) 1) a1) 12) 1)) fun x_1=>o6 (c7n (aN .i64 (A7 .i64 (G8
 .i64 (A7 .i64 (W9 .i64 12 x.1) x.2.1) 1) a1) 12) (A7 .i64 (dV (A7 .i64 (G8 .i64 (A7
 .i64 (W9 .i64 12 x.1) x.2.1) 1) a1) 12) 1) (kG x.2.2 x_1)) fun x=>some x) fun r=>some r
def c7f (a0:Int) (a1:Int):Option Int:=o6 (c7j a0) fun x=>l7 (E5 x) (some 0) (o6 (c7j a1)
 fun x=>l7 (E5 x) (some 0) (o6 (U2 (fun(x:Int)=>o6 (c6Y a0 (W9 .i64 12 (A7 .i64 x 1))) fun
 (x_1:qE)=>l7 (E5 (ieq x_1.2 0)) (some (.rt x)) (l7 (ilt a1 x_1.1) (some (.rt x)) (some (.nx (A7 .i64 x 1))))) 0) fun
 (o:PUnit⊕Int)=>X6 o (fun(y:PUnit)=>none) fun r=>some r))
def c7t (a0:Int) (a1:L6) (a2:L6):Option (L6×Int):=l7 (E5 (ieq a1.1 5)) (some ((0,0,0),8)) (l7 (ieq a0 27)
 (l7 (E5 (ieq a2.1 2)) (some ((0,0,0),8)) (l7 (ieq a0 27) (o6 (c6K 5 (A7 .i64 a1.2.2 a2.2.2)) fun x=>
 some x) (o6 (c6Y a1.2.2 a2.2.2) fun x=>o6 (c7d 5 x.1 x.2) fun x=>some x))) (l7 (ieq a0 28)
 (l7 (E5 (ieq a2.1 2)) (some ((0,0,0),8)) (l7 (ieq a0 27) (o6 (c6K 5 (A7 .i64 a1.2.2 a2.2.2)) fun x=>
 some x) (o6 (c6Y a1.2.2 a2.2.2) fun x=>o6 (c7d 5 x.1 x.2) fun x=>some x))) (l7 (E5 (ieq
 a2.1 5)) (some ((0,0,0),8)) (l7 (ieq a0 29) (o6 (c6K 2 (G8 .i64 a2.2.2 a1.2.2)) fun x=>some x) (o6
 (c7f a1.2.2 a2.2.2) fun x=>o6 (c6K 2 x) fun x=>some x)))))
def c7e (a0:Int) (a1:L6) (a2:L6):Option (L6×Int):=o6 (l7 (E5 (ieq a1.1 a2.1)) (some (.inr ((0,0,0),
 8))) (l7 (E5 (ieq a1.2.1 a2.2.1)) (some (.inr ((0,0,0),8))) (some (.inl (0,0,0))))) fun o=>X6 o (fun(x
 :L6)=>o6 (l7 (ieq a0 19) (o6 (c7b (ieq a1.2.2 a2.2.2)) fun x=>some (.inr x)) (l7 (ieq a0 20) (o6
 (c7b (E5 (ieq a1.2.2 a2.2.2))) fun x=>some (.inr x)) (o6 (l7 (ieq a0 23) (some (ieq a0 23)) (some (ieq a0 24)))
 fun x_1=>l7 x_1 (l7 (E5 (ieq a1.1 1)) (some (.inr ((0,0,0),8))) (l7 (ieq (A7 .i64 a1.2.2 a2.2.2) 2) (o6
 (c7b true) fun x=>some (.inr x)) (l7 (ieq a0 24) (o6 (c7b (ieq (A7 .i64 a1.2.2 a2.2.2) 1)) fun
 (x:L6×Int)=>some (.inr x)) (o6 (c7b false) fun x=>some (.inr x))))) (o6 (l7 (ieq a0 11) (some
 (ieq a0 11)) (some (ieq a0 12))) fun x_2=>l7 x_2 (o6 (c7E a1.1) fun x=>l7 (E5 x) (some (.inr ((0,0,0),
 8))) (l7 (ieq a0 11) (o6 (c6K a1.1 (A7 .i64 a1.2.2 a2.2.2)) fun x=>some (.inr x)) (o6 (c6K a1.1
 (G8 .i64 a1.2.2 a2.2.2)) fun x=>some (.inr x)))) (some (.inl x)))))) fun o=>X6 o (fun
 (x:L6)=>o6 (o6 (c7E a1.1) fun x_1=>l7 (E5 x_1) (l7 (E5 (ieq a1.1 5)) (some (.inr ((0,0,0),8)))
 (some (.inl x))) (some (.inl x))) fun o=>X6 o (fun(x:L6)=>l7 (ieq a0 21) (o6 (c7b (ilt
 a1.2.2 a2.2.2)) fun x=>some x) (l7 (ieq a0 22) (o6 (c7b (ile a1.2.2 a2.2.2)) fun x=>some x)
 (l7 (bZ (ieq a0 17) (ilt a1.2.2 a2.2.2)) (some (a1,0)) (some (a2,0))))) fun r=>some r) fun r=>some r)
 fun r=>some r
def c6O (a0:qE) (a1:L6) (a2:L6):Option (L6×Int):=l7 (ile 13 a0.1) (l7 (ile a0.1 16) (o6 (c7y a0
 a1 a2) fun x=>some x) (l7 (ile 27 a0.1) (o6 (c7t a0.1 a1 a2) fun x=>some x) (o6
 (c7e a0.1 a1 a2) fun x=>some x))) (l7 (ile 27 a0.1) (o6 (c7t a0.1 a1 a2) fun x=>some
 x) (o6 (c7e a0.1 a1 a2) fun x=>some x))
def c7l (a0:qE) (a1:List L6) (a2:U9):Option (L6×Int):=o6 (c7D a0 (o8 a1)) fun x=>l7 (E5
 x) (some ((0,0,0),2)) (o6 (c7B a0 a2) fun x=>l7 (E5 x) (some ((0,0,0),6)) (o6 (U2 (fun(x:L6×Int)=>
 l7 (ilt x.2 (o8 a1)) (o6 (lat a1 x.2) fun x_1=>o6 (c6Q x_1) fun x_2=>l7 (E5 x_2) (some (.rt
 ((0,0,0),8))) (some (.nx (x.1,A7 .i64 x.2 1)))) (some (.ex x.1))) ((0,0,0),0)) fun o=>X6 o (fun
 (y:L6)=>l7 (ieq (o8 a1) 0) (l7 (ile 36 a0.1) (l7 (ile a0.1 39) (o6 (c7c a0 a2) fun x=>some x)
 (o6 (c6N a0 a2) fun x=>some x)) (o6 (c6N a0 a2) fun x=>some x)) (l7 (ieq (o8 a1)
 1) (o6 (lat a1 0) fun x=>o6 (c6Z a0 x a2) fun x=>some x) (l7 (ieq (o8 a1) 2) (o6 (lat a1 0)
 fun x=>o6 (lat a1 1) fun x_1=>o6 (c6O a0 x x_1) fun x=>some x) (o6 (lat a1 0) fun(x:
 L6)=>o6 (lat a1 1) fun x_1=>o6 (lat a1 2) fun x_2=>l7 (E5 (ieq x.1 1)) (some ((0,0,0),8)) (l7 (E5
 (ieq x_1.1 x_2.1)) (some ((0,0,0),8)) (l7 (E5 (ieq x_1.2.1 x_2.2.1)) (some ((0,0,0),8)) (l7 (ieq x.2.2 1) (some (x_1,0)) (some (x_2,
 0))))))))) fun r=>some r))
abbrev c7W:Ty:=y34
end
end Gt
