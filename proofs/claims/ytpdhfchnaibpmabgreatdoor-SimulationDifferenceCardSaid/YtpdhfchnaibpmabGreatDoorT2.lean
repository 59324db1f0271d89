import Derived.Test.YtpdhfchnaibpmabGreatDoorT1
set_option linter.all false
open Go Go.GP
namespace Gt
abbrev OB:c9i:=[0,1,2,2,3,3,3,3,4,4,4,4,4,4,4,4,5,5,5,5,5,5,5,5,5,5,5,5,5,5,5,5,6,6,6,6,6,6,6,6,6,6,6,6,6,6,6,6,6,6,6,6,6,6,6,6,6,6,6,6,6,6,6,6,7,7,7,7,7,7,7,7,7,7,7,7,7,7,7,7,7,7,7,7,7,7,7,7,7,7,7,7,7,7,7,7,7,7,7,7,7,7,7,7,7,7,7,7,7,7,7,7,7,7,7,7,7,7,7,7,7,7,7,7,7,7,7,7,8,8,8,8,8,8,8,8,8,8,8,8,8,8,8,8,8,8,8,8,8,8,8,8,8,8,8,8,8,8,8,8,8,8,8,8,8,8,8,8,8,8,8,8,8,8,8,8,8,8,8,8,8,8,8,8,8,8,8,8,8,8,8,8,8,8,8,8,8,8,8,8,8,8,8,8,8,8,8,8,8,8,8,8,8,8,8,8,8,8,8,8,8,8,8,8,8,8,8,8,8,8,8,8,8,8,8,8,8,8,8,8,8,8,8,8,8,8,8,8,8,8,8,8,8,8,8,8]
set_option maxRecDepth 100000
noncomputable section
def a3t(f:Func):Code:=match f.body with|some c=>c|none=> .skip
abbrev mkS(ps:List MG)(rt:Ret)(F:iy ps->Option rt.den):FSpec:=⟨ps,rt.rs.map (·.2),rt.outs.map (·.2),F⟩
structure FQ where
 (ps:List MG)
 (rt:Ret)
 (E:Env)
 (an:Ann)
abbrev fU(q:FQ)(F:iy q.ps->Option q.rt.den):FSpec:=mkS q.ps q.rt F
abbrev jnR:=Ann.joinR
abbrev lpR:=Ann.loopR
abbrev iq:=Ann.seq
abbrev lK:=Ann.blk
abbrev sgN:Sig:=⟨[],[]⟩
def sN:Nat->Ann->Ann
 |0,a=>a|n+1,a=> .seq .leaf (sN n a)
abbrev uO(t:Ty):MG:=(false,.own t)
abbrev uD(t:Ty):MG:=(false,.dat t)
abbrev tD(t:Ty):MG:=(true,.dat t)
abbrev pA:=M.pair
abbrev oW:=M.own
abbrev dT:=M.dat
abbrev P9:Ann:=.leaf
abbrev diM:M:=.dat (.int .i64)
abbrev oiM:M:=.own (.int .i64)
abbrev dbM:M:=.dat .bool
abbrev Y5:MG:=(false,diM)
abbrev ny:MG:=(false,dbM)
abbrev uoM:MG:=(false,oiM)
abbrev y0:Ty:=.prod .str (.sl .str)
abbrev y1:Ty:=.sl y0
abbrev y2:Ty:=.prod (.int .i64) (.int .i64)
abbrev y3:Ty:=.prod (.int .i64) y2
abbrev y4:Ty:=.prod y2 y3
abbrev y5:Ty:=.sl y4
abbrev y6:Ty:=.prod y2 y5
abbrev y7:Ty:=.prod y2 y6
abbrev y8:Ty:=.prod .str y7
abbrev y9:Ty:=.sl y8
abbrev y10:Ty:=.prod .str y2
abbrev y11:Ty:=.sl y10
abbrev y12:Ty:=.sl y2
abbrev y13:Ty:=.prod y12 .str
abbrev y14:Ty:=.prod y12 y13
abbrev y15:Ty:=.prod y2 y14
abbrev y16:Ty:=.prod (.int .i64) y15
abbrev y17:Ty:=.prod (.int .i64) y16
abbrev y18:Ty:=.prod (.int .i64) y17
abbrev y19:Ty:=.prod .str y18
abbrev y20:Ty:=.sl y19
abbrev y21:Ty:=.prod y11 y20
abbrev y22:Ty:=.prod y11 y21
abbrev y23:Ty:=.prod (.int .i64) y22
abbrev y24:Ty:=.prod .str y23
abbrev y25:Ty:=.sl y24
abbrev y26:Ty:=.prod y9 y25
abbrev y27:Ty:=.prod y1 y26
abbrev y28:Ty:=.prod y27 y27
abbrev y29:Ty:=.sl y3
abbrev y30:Ty:=.sl y29
abbrev y31:Ty:=.prod y29 y30
abbrev y32:Ty:=.prod (.int .i64) y31
abbrev y33:Ty:=.sl y32
abbrev y34:Ty:=.prod .str (.int .i64)
abbrev y35:Ty:=.prod .str y34
abbrev y36:Ty:=.sl y35
abbrev y37:Ty:=.prod (.int .i64) y36
abbrev y38:Ty:=.prod (.int .i64) y37
abbrev y39:Ty:=.prod y3 y38
abbrev y40:Ty:=.prod y3 y39
abbrev y41:Ty:=.sl y40
abbrev y42:Ty:=.prod (.int .i64) y3
abbrev y43:Ty:=.prod (.int .i64) y42
abbrev y44:Ty:=.prod (.int .i64) y43
abbrev y45:Ty:=.prod (.int .i64) y44
abbrev y46:Ty:=.sl (.int .i64)
abbrev y47:Ty:=.sl (.ent true false y35 (.int .i64))
abbrev y48:Ty:=.prod .str .str
abbrev y49:Ty:=.sl (.ent true false y48 .bool)
abbrev y50:Ty:=.sl (.int .u8)
abbrev y51:Ty:=.sl (.ent false false .str (.int .i64))
abbrev y52:Ty:=.prod y24 y51
abbrev y53:Ty:=.sl (.ent false true .str y52)
abbrev y54:Ty:=.prod y29 y46
abbrev y55:Ty:=.sl y54
abbrev y56:Ty:=.prod y46 y55
abbrev y57:Ty:=.prod y29 y56
abbrev y58:Ty:=.prod y12 y9
abbrev y59:Ty:=.prod y30 y58
abbrev y60:Ty:=.prod y29 y59
abbrev y61:Ty:=.prod y29 y60
abbrev y62:Ty:=.prod (.int .i64) y61
abbrev y63:Ty:=.sl (.ent false false (.int .i64) .bool)
abbrev y64:Ty:=.sl y46
abbrev y65:Ty:=.prod y2 .str
abbrev y66:Ty:=.prod (.int .i64) y65
abbrev y67:Ty:=.prod .str y66
abbrev y68:Ty:=.prod .str y67
abbrev y69:Ty:=.prod y12 .bool
abbrev y70:Ty:=.prod y12 y69
abbrev y71:Ty:=.prod y12 y70
abbrev y72:Ty:=.prod y9 y71
abbrev y73:Ty:=.prod y1 y72
abbrev y74:Ty:=.prod (.sl .bool) (.sl .bool)
abbrev y75:Ty:=.prod y24 y74
abbrev y76:Ty:=.prod y24 y75
abbrev y77:Ty:=.prod y46 y62
abbrev y78:Ty:=.prod y12 y77
abbrev y79:Ty:=.prod y46 y46
abbrev y80:Ty:=.prod y46 y79
def tt:List (Nat×TI):=[(3,⟨1,8,(.int .i64),some (.int .i64),[.i .i64 0]⟩),(4,⟨1,1,.bool,some .bool,[.b false]⟩),(5,⟨1,1,(.int .u8),some (.int .u8),[.i .u8 0]⟩),(9,⟨1,16,.str,some .str,[.s []]⟩),(22,⟨1,24,(.sl 71),some y1,[.nl]⟩),(23,⟨1,24,(.sl 76),some y9,[.nl]⟩),(24,⟨1,24,(.sl 80),some y25,[.nl]⟩),(26,⟨3,72,(.struct [(22,0),(23,1),(24,2)]),some y27,[.nl,.nl,.nl]⟩),(28,⟨6,144,(.struct [(26,0),(26,3)]),some y28,[.nl,.nl,.nl,.nl,.nl,.nl]⟩),(29,⟨1,24,(.sl 53),some y33,[.nl]⟩),(32,⟨1,24,(.sl 42),some y41,[.nl]⟩),(34,⟨7,56,(.struct [(3,0),(3,1),(3,2),(3,3),(3,4),(3,5),(3,6)]),some y45,[.i .i64 0,.i .i64 0,.i .i64 0,.i .i64 0,.i .i64 0,.i .i64 0,.i .i64 0]⟩),(35,⟨1,8,(.int .i64),some (.int .i64),[.i .i64 0]⟩),(39,⟨3,24,(.struct [(3,0),(3,1),(3,2)]),some y3,[.i .i64 0,.i .i64 0,.i .i64 0]⟩),(40,⟨1,24,(.sl 62),some y36,[.nl]⟩),(42,⟨9,88,(.struct [(39,0),(39,3),(35,6),(35,7),(40,8)]),some y40,[.i .i64 0,.i .i64 0,.i .i64 0,.i .i64 0,.i .i64 0,.i .i64 0,.i .i64 0,.i .i64 0,.nl]⟩),(45,⟨1,24,(.sl 3),some y46,[.nl]⟩),(50,⟨1,24,(.sl 39),some y29,[.nl]⟩),(51,⟨1,24,(.sl 50),some y30,[.nl]⟩),(53,⟨3,56,(.struct [(3,0),(50,1),(51,2)]),some y32,[.i .i64 0,.nl,.nl]⟩),(57,⟨2,16,(.struct [(3,0),(3,1)]),some y2,[.i .i64 0,.i .i64 0]⟩),(58,⟨1,24,(.sl 57),some y12,[.nl]⟩),(59,⟨1,24,(.sl 9),some (.sl .str),[.nl]⟩),(62,⟨3,40,(.struct [(9,0),(9,1),(3,2)]),some y35,[.s [],.s [],.i .i64 0]⟩),(68,⟨1,8,(.map 62 3),some y47,[.sl (.ent true false y35 (.int .i64)) []]⟩),(71,⟨2,40,(.struct [(9,0),(59,1)]),some y0,[.s [],.nl]⟩),(73,⟨2,16,(.struct [(3,0),(3,1)]),some y2,[.i .i64 0,.i .i64 0]⟩),(74,⟨1,24,(.sl 156),some y5,[.nl]⟩),(76,⟨6,72,(.struct [(9,0),(73,1),(73,3),(74,5)]),some y8,[.s [],.i .i64 0,.i .i64 0,.i .i64 0,.i .i64 0,.nl]⟩),(77,⟨1,24,(.sl 87),some y11,[.nl]⟩),(78,⟨1,24,(.sl 85),some y20,[.nl]⟩),(80,⟨5,96,(.struct [(9,0),(3,1),(77,2),(77,3),(78,4)]),some y24,[.s [],.i .i64 0,.nl,.nl,.nl]⟩),(83,⟨2,16,(.struct [(3,0),(3,1)]),some y2,[.i .i64 0,.i .i64 0]⟩),(85,⟨9,120,(.struct [(9,0),(3,1),(3,2),(3,3),(83,4),(58,6),(58,7),(9,8)]),some y19,[.s [],.i .i64 0,.i .i64 0,.i .i64 0,.i .i64 0,.i .i64 0,.nl,.nl,.s []]⟩),(87,⟨3,32,(.struct [(9,0),(73,1)]),some y10,[.s [],.i .i64 0,.i .i64 0]⟩),(90,⟨2,32,(.arr 2 9),none,[.s [],.s []]⟩),(93,⟨4,32,(.struct [(35,0),(3,1),(3,2),(3,3)]),some y42,[.i .i64 0,.i .i64 0,.i .i64 0,.i .i64 0]⟩),(98,⟨1,8,(.map 102 4),some y49,[.sl (.ent true false y48 .bool) []]⟩),(102,⟨2,32,(.struct [(9,0),(9,1)]),some y48,[.s [],.s []]⟩),(110,⟨1,24,(.sl 5),some y50,[.nl]⟩),(118,⟨4,32,(.struct [(35,0),(3,1),(3,2),(3,3)]),some y42,[.i .i64 0,.i .i64 0,.i .i64 0,.i .i64 0]⟩),(124,⟨1,8,(.map 9 179),some y53,[.sl (.ent false true .str y52) []]⟩),(130,⟨1,8,(.int .u64),some (.int .u64),[.i .u64 0]⟩),(139,⟨1,16,.other,none,[]⟩),(156,⟨5,40,(.struct [(83,0),(3,2),(3,3),(3,4)]),some y4,[.i .i64 0,.i .i64 0,.i .i64 0,.i .i64 0,.i .i64 0]⟩),(161,⟨1,24,(.sl 223),some y55,[.nl]⟩),(163,⟨3,72,(.struct [(50,0),(45,1),(161,2)]),some y57,[.nl,.nl,.nl]⟩),(164,⟨1,24,(.sl 73),some y12,[.nl]⟩),(166,⟨6,128,(.struct [(3,0),(50,1),(50,2),(51,3),(164,4),(23,5)]),some y62,[.i .i64 0,.nl,.nl,.nl,.nl,.nl]⟩),(169,⟨1,8,(.map 3 4),some y63,[.sl (.ent false false (.int .i64) .bool) []]⟩),(171,⟨1,24,(.sl 45),some y64,[.nl]⟩),(173,⟨1,24,(.sl 4),some (.sl .bool),[.nl]⟩),(177,⟨1,8,(.map 9 3),some y51,[.sl (.ent false false .str (.int .i64)) []]⟩),(179,⟨6,104,(.struct [(80,0),(177,5)]),some y52,[.s [],.i .i64 0,.nl,.nl,.nl,.sl (.ent false false .str (.int .i64)) []]⟩),(182,⟨6,72,(.struct [(9,0),(9,1),(3,2),(83,3),(9,5)]),some y68,[.s [],.s [],.i .i64 0,.i .i64 0,.i .i64 0,.s []]⟩),(189,⟨1,8,(.int .u64),some (.int .u64),[.i .u64 0]⟩),(211,⟨6,128,(.struct [(22,0),(23,1),(164,2),(164,3),(164,4),(4,5)]),some y73,[.nl,.nl,.nl,.nl,.nl,.b false]⟩),(218,⟨12,240,(.struct [(80,0),(80,5),(173,10),(173,11)]),some y76,[.s [],.i .i64 0,.nl,.nl,.nl,.s [],.i .i64 0,.nl,.nl,.nl,.nl,.nl]⟩),(223,⟨2,48,(.struct [(50,0),(45,1)]),some y54,[.nl,.nl]⟩),(268,⟨1,8,(.ptr 269),none,[]⟩),(269,⟨1,24,(.sl 3),some y46,[.nl]⟩),(276,⟨8,176,(.struct [(58,0),(45,1),(166,2)]),some y78,[.nl,.nl,.i .i64 0,.nl,.nl,.nl,.nl,.nl]⟩),(286,⟨12,96,(.arr 12 3),none,[.i .i64 0,.i .i64 0,.i .i64 0,.i .i64 0,.i .i64 0,.i .i64 0,.i .i64 0,.i .i64 0,.i .i64 0,.i .i64 0,.i .i64 0,.i .i64 0]⟩),(305,⟨3,72,(.struct [(45,0),(45,1),(45,2)]),some y80,[.nl,.nl,.nl]⟩)]
def eqs:List (Nat×List Ty):=[(34,[(.int .i64),(.int .i64),(.int .i64),(.int .i64),(.int .i64),(.int .i64),(.int .i64)]),(39,[(.int .i64),(.int .i64),(.int .i64)]),(57,[(.int .i64),(.int .i64)]),(62,[.str,.str,(.int .i64)]),(73,[(.int .i64),(.int .i64)]),(87,[.str,(.int .i64),(.int .i64)]),(93,[(.int .i64),(.int .i64),(.int .i64),(.int .i64)]),(102,[.str,.str]),(156,[(.int .i64),(.int .i64),(.int .i64),(.int .i64),(.int .i64)]),(182,[.str,.str,(.int .i64),(.int .i64),(.int .i64),.str])]
def gl:List (Nat×(t:Ty)×List t.den):=[(2,⟨.int .i64,[31,28,31,30,31,30,31,31,30,31,30,31]⟩),(0,⟨.int .u64,[1,10,100,1000,10000,100000,1000000,10000000,100000000,1000000000,10000000000,100000000000,1000000000000,10000000000000,100000000000000,1000000000000000,10000000000000000,100000000000000000,1000000000000000000,10000000000000000000]⟩)]
abbrev mE(n:Nat)(fs:List (Nat×FSpec)):Env:=⟨n,eqs,tt,gl,fs,[],[],[],[],[]⟩
abbrev tR(n:Nat)(m:MG):Ret:=⟨[(.tmp n,m)],[]⟩
abbrev cR(n k:Nat)(m:MG):Ret:=⟨[(.cell n k,m)],[]⟩
abbrev ak:Type:=Ty.den y2
abbrev I7:Type:=Ty.den y2
abbrev bQ:Type:=Ty.den y48
abbrev D8:Type:=Ty.den y3
abbrev O0:Type:=Ty.den y35
abbrev dB:Type:=Ty.den y0
abbrev bH:Type:=Ty.den y10
abbrev jv:Type:=Ty.den y42
abbrev F6:Type:=Ty.den y42
abbrev rF:Type:=Ty.den y4
abbrev fP:Type:=Ty.den y80
abbrev Sz:Type:=Ty.den y54
abbrev qX:Type:=Ty.den y68
abbrev jm:Type:=Ty.den y45
abbrev dI:Type:=Ty.den y32
abbrev X4:Type:=Ty.den y40
abbrev bn:Type:=Ty.den y8
abbrev Bl:Type:=Ty.den y57
abbrev V8:Type:=Ty.den y19
abbrev J5:Type:=Ty.den y73
abbrev aK:Type:=Ty.den y62
abbrev A8:Type:=Ty.den y24
abbrev jF:Type:=Ty.den y52
abbrev aZ:Type:=Ty.den y78
abbrev dM:Type:=Ty.den y76
abbrev S9:Type:=Ty.den y27
abbrev Dp:Type:=Ty.den y28
def Ei(A:dI):c9n:=l7 (E9 14 (o9 A.2.1)) (some false) (l7 (E9 10 (o9 A.2.2)) (some false) (o5 (V7 (λ(x:Int)=>l7 (E9 x (o9 A.2.2)) (o5 (F9 A.2.2 x) λb=>l7 (E9 14 (o9 b)) (some (.rt false)) (some (.nx (A7 .i64 x 1)))) (some (.ex ()))) 0) λo=>X9 o (λy=>some true) λr=>some r))
def q10:FQ:=⟨[tD y32],tR 2 ny,mE 28 [],sN 2 (iq (sN 1 (lK (lpR [(2,4),(14,28)] ⟨[(3,Y5)],[]⟩ 0 sgN P9))) P9)⟩
def s10:FSpec:=fU q10 λx=>Ei x
def BO(A:A8):c9n:=o5 (l7 (E9 80 (o9 A.1)) (some (.inr false)) (l7 (E9 14 (o9 A.2.2.1)) (some (.inr false)) (l7 (E9 14 (o9 A.2.2.2.1)) (some (.inr false)) (l7 (E9 60 (o9 A.2.2.2.2)) (some (.inr false)) (some (.inl ())))))) λo=>X9 o (λx=>o5 (V7 (λ(x:Int)=>l7 (E9 x (o9 A.2.2.1)) (o5 (F9 A.2.2.1 x) λb=>l7 (E9 80 (o9 b.1)) (some (.rt false)) (some (.nx (A7 .i64 x 1)))) (some (.ex ()))) 0) λo=>X9 o (λy=>o5 (V7 (λ(x:Int)=>l7 (E9 x (o9 A.2.2.2.1)) (o5 (F9 A.2.2.2.1 x) λb=>l7 (E9 80 (o9 b.1)) (some (.rt false)) (some (.nx (A7 .i64 x 1)))) (some (.ex ()))) 0) λo=>X9 o (λy=>o5 (V7 (λ(x:Int)=>l7 (E9 x (o9 A.2.2.2.2)) (o5 (F9 A.2.2.2.2 x) λb=>l7 (E9 80 (o9 b.1)) (some (.rt false)) (l7 (E9 80 (o9 b.2.2.2.2.2.2.2)) (some (.rt false)) (l7 (E9 50 (o9 b.2.2.2.2.2.1)) (some (.rt false)) (l7 (E9 50 (o9 b.2.2.2.2.2.2.1)) (some (.rt false)) (some (.nx (A7 .i64 x 1))))))) (some (.ex ()))) 0) λo=>X9 o (λy=>some true) λr=>some r) λr=>some r) λr=>some r) λr=>some r
def q18:FQ:=⟨[tD y24],tR 2 ny,mE 93 [],sN 1 (iq (jnR [(2,3),(7,29)] sgN P9) (iq (sN 1 (lK (lpR [(2,4),(29,44)] ⟨[(3,Y5)],[]⟩ 0 sgN P9))) (iq (sN 1 (lK (lpR [(2,3),(4,5),(44,59)] ⟨[(4,Y5)],[]⟩ 2 sgN P9))) (iq (sN 1 (lK (lpR [(2,3),(5,7),(59,93)] ⟨[(5,Y5)],[]⟩ 4 sgN P9))) P9))))⟩
def s18:FSpec:=fU q18 λx=>BO x
def Bi(A:S9):c9n:=o5 (l7 (E9 9 (o9 A.1)) (some (.inr false)) (l7 (E9 9 (o9 A.2.1)) (some (.inr false)) (l7 (E9 5 (o9 A.2.2)) (some (.inr false)) (some (.inl ()))))) λo=>X9 o (λx=>o5 (V7 (λ(x:Int)=>l7 (E9 x (o9 A.1)) (o5 (F9 A.1 x) λb=>l7 (E9 80 (o9 b.1)) (some (.rt false)) (o5 (F9 A.1 x) λc=>l7 (E9 20 (o9 c.2)) (some (.rt false)) (o5 (V7 (λ(d:Int)=>o5 (F9 A.1 x) λf=>l7 (E9 d (o9 f.2)) (o5 (F9 A.1 x) λx=>o5 (F9 x.2 d) λx=>l7 (E9 80 (o9 x)) (some (.rt false)) (some (.nx (A7 .i64 d 1)))) (some (.ex ()))) 0) λo=>X9 o (λy=>some (.nx (A7 .i64 x 1))) λr=>some (.rt r)))) (some (.ex ()))) 0) λo=>X9 o (λy=>o5 (V7 (λ(x:ak)=>l7 (E9 x.2 (o9 A.2.1)) (o5 (F9 A.2.1 x.2) λb=>o5 (F9 A.2.1 x.2) λc=>l7 (E9 80 (o9 c.1)) (some (.rt false)) (l7 (E9 150 (A7 .i64 x.1 (o9 b.2.2.2))) (some (.rt false)) (some (.nx (A7 .i64 x.1 (o9 b.2.2.2),A7 .i64 x.2 1))))) (some (.ex ()))) (0,0)) λo=>X9 o (λy=>o5 (V7 (λ(x:ak)=>l7 (E9 x.2 (o9 A.2.2)) (o5 (F9 A.2.2 x.2) λb=>l7 (E9 60 (A7 .i64 x.1 (o9 b.2.2.2.2))) (some (.rt false)) (o5 (F9 A.2.2 x.2) λc=>o5 (BO c) λd=>l7 (D9 d) (some (.rt false)) (some (.nx (A7 .i64 x.1 (o9 b.2.2.2.2),A7 .i64 x.2 1))))) (some (.ex ()))) (0,0)) λo=>X9 o (λy=>some true) λr=>some r) λr=>some r) λr=>some r) λr=>some r
def q11:FQ:=⟨[tD y27],tR 2 ny,mE 127 [(18,s18)],sN 1 (iq (jnR [(2,3),(9,25)] sgN P9) (sN 2 (iq (sN 1 (lK (lpR [(2,3),(5,7),(25,72)] ⟨[(5,Y5)],[]⟩ 0 sgN (sN 1 (iq (lK (sN 2 (lK (lpR [(2,3),(6,7),(50,72)] ⟨[(6,Y5)],[]⟩ 2 sgN P9)))) P9))))) (iq (sN 1 (lK (lpR [(2,4),(7,8),(72,100)] ⟨[(3,Y5),(7,Y5)],[]⟩ 4 sgN P9))) (iq (sN 1 (lK (lpR [(2,3),(4,5),(8,9),(100,127)] ⟨[(4,Y5),(8,Y5)],[]⟩ 6 sgN P9))) P9)))))⟩
def s11:FSpec:=fU q11 λx=>Bi x
def Rk(A:Dp)(B:List dI):c9n:=o5 (V7 (λ(x:Int)=>l7 (E9 x (o9 B)) (l7 (E9 x 20) (o5 (F9 B x) λb=>o5 (Ei b) λc=>l7 (D9 c) (some (.rt false)) (some (.nx (A7 .i64 x 1)))) (some (.ex ()))) (some (.ex ()))) 0) λo=>X9 o (λy=>o5 (Bi A.1) λx=>l7 x (o5 (Bi A.2) λx=>l7 x (some (N7 (o9 B) 8)) (some false)) (some false)) λr=>some r
def q4:FQ:=⟨[tD y28,uD y33],tR 4 ny,mE 35 [(10,s10),(11,s11)],sN 1 (iq (sN 1 (lK (lpR [(4,22)] ⟨[(5,Y5)],[]⟩ 0 sgN P9))) P9)⟩
def s4:FSpec:=fU q4 λx=>Rk x.1 x.2
def Oq(A:List ak):Option S9:=some ([],[],[([104,111,117,115,101],-1,[([97],3,0)],[([100],3,0)],[([98,97,115,101],0,-1,0,(0,109573),[],A,[])])])
def q12:FQ:=⟨[uD y12],⟨[(.cell 2 26,(true,(pA (dT y1) (pA (dT y9) (.owns (pA (dT .str) (pA diM (pA (dT y11) (pA (dT y11) (oW y19))))))))))],[]⟩,⟨22,eqs,tt,gl,[],[(24,(pA (dT .str) (pA diM (pA (dT y11) (pA (dT y11) (oW y19))))))],[],[],[],[]⟩,P9⟩
def s12:FSpec:=fU q12 λx=>Oq x
def yz(A:Int):c9n:=l7 (N7 97 A) (some (N7 A 122)) (some false)
def q93:FQ:=⟨[(false,(dT (.int .u8)))],tR 2 ny,mE 9 [],P9⟩
def s93:FSpec:=fU q93 λx=>yz x
def Bc(A:Int):c9n:=l7 (N7 48 A) (some (N7 A 57)) (some false)
def c4B:FQ:=⟨[(false,(dT (.int .u8)))],tR 2 ny,mE 9 [],P9⟩
def c6D:FSpec:=fU c4B λx=>Bc x
def Am(A:c9i):c9o:=o5 (ay (λ(x:Int)=>l7 (E9 x (o9 A)) (o5 (sat A x) λb=>o5 (yz b) λc=>l7 c (some (.inl (A7 .i64 x 1))) (o5 (sat A x) λd=>o5 (Bc d) λf=>l7 f (some (.inl (A7 .i64 x 1))) (o5 (sat A x) λg=>l7 (x8 g 95) (some (.inl (A7 .i64 x 1))) (some (.inr x))))) (some (.inr x))) 0) λy=>some y
def q94:FQ:=⟨[uD .str],tR 2 Y5,mE 29 [(93,s93),(124,c6D)],sN 2 (iq (lK (.loop [(3,28)] ⟨[(3,Y5)],[]⟩ 0 ⟨[(3,Y5)],[]⟩ P9)) P9)⟩
def s94:FSpec:=fU q94 λx=>Am x
def DN(A:c9i):c9n:=o5 (l7 (seq A [105,102]) (some (seq A [105,102])) (l7 (seq A [116,104,101,110]) (some (seq A [116,104,101,110])) (l7 (seq A [101,108,115,101]) (some (seq A [101,108,115,101])) (l7 (seq A [111,114]) (some (seq A [111,114])) (l7 (seq A [97,110,100]) (some (seq A [97,110,100])) (l7 (seq A [110,111,116]) (some (seq A [110,111,116])) (l7 (seq A [116,114,117,101]) (some (seq A [116,114,117,101])) (l7 (seq A [102,97,108,115,101]) (some (seq A [102,97,108,115,101])) (l7 (seq A [116,111,100,97,121]) (some (seq A [116,111,100,97,121])) (l7 (seq A [115,104,97,114,101]) (some (seq A [115,104,97,114,101])) (l7 (seq A [100,105,118]) (some (seq A [100,105,118])) (l7 (seq A [114,111,117,110,100]) (some (seq A [114,111,117,110,100])) (l7 (seq A [109,105,110]) (some (seq A [109,105,110])) (l7 (seq A [109,97,120]) (some (seq A [109,97,120])) (l7 (seq A [112,108,117,115]) (some (seq A [112,108,117,115])) (l7 (seq A [109,111,110,116,104,115]) (some (seq A [109,111,110,116,104,115])) (l7 (seq A [100,97,121,115]) (some (seq A [100,97,121,115])) (l7 (seq A [121,101,97,114,115]) (some (seq A [121,101,97,114,115])) (l7 (seq A [121,101,97,114]) (some (seq A [121,101,97,114])) (l7 (seq A [109,111,110,116,104]) (some (seq A [109,111,110,116,104])) (l7 (seq A [116,97,98]) (some (seq A [116,97,98])) (l7 (seq A [98,97,110,100]) (some (seq A [98,97,110,100])) (l7 (seq A [99,111,117,110,116]) (some (seq A [99,111,117,110,116])) (l7 (seq A [115,117,109]) (some (seq A [115,117,109])) (l7 (seq A [97,108,108]) (some (seq A [97,108,108])) (l7 (seq A [97,110,121]) (some (seq A [97,110,121])) (l7 (seq A [109,111,115,116]) (some (seq A [109,111,115,116])) (l7 (seq A [101,110,117,109]) (some (seq A [101,110,117,109])) (l7 (seq A [116,97,98,108,101]) (some (seq A [116,97,98,108,101])) (l7 (seq A [114,111,119]) (some (seq A [114,111,119])) (l7 (seq A [115,99,111,112,101]) (some (seq A [115,99,111,112,101])) (l7 (seq A [109,101,109,98,101,114,115]) (some (seq A [109,101,109,98,101,114,115])) (l7 (seq A [105,110,112,117,116]) (some (seq A [105,110,112,117,116])) (l7 (seq A [100,101,102]) (some (seq A [100,101,102])) (l7 (seq A [114,117,108,101]) (some (seq A [114,117,108,101])) (l7 (seq A [111,102]) (some (seq A [111,102])) (l7 (seq A [111,118,101,114]) (some (seq A [111,118,101,114])) (l7 (seq A [112,114,105,111]) (some (seq A [112,114,105,111])) (l7 (seq A [102,114,111,109]) (some (seq A [102,114,111,109])) (l7 (seq A [116,111]) (some (seq A [116,111])) (l7 (seq A [101,110,100]) (some (seq A [101,110,100])) (l7 (seq A [119,104,101,110]) (some (seq A [119,104,101,110])) (l7 (seq A [105,115]) (some (seq A [105,115])) (l7 (seq A [115,114,99]) (some (seq A [115,114,99])) (l7 (seq A [98,111,111,108]) (some (seq A [98,111,111,108])) (l7 (seq A [105,110,116]) (some (seq A [105,110,116])) (l7 (seq A [109,111,110,101,121]) (some (seq A [109,111,110,101,121])) (l7 (seq A [114,97,116,101]) (some (seq A [114,97,116,101])) (l7 (seq A [100,97,116,101]) (some (seq A [100,97,116,101])) (l7 (seq A [100,111,119,110]) (some (seq A [100,111,119,110])) (l7 (seq A [117,112]) (some (seq A [117,112])) (l7 (seq A [122,101,114,111]) (some (seq A [122,101,114,111])) (l7 (seq A [97,119,97,121]) (some (seq A [97,119,97,121])) (l7 (seq A [104,97,108,102]) (some (seq A [104,97,108,102])) (some (seq A [101,118,101,110])))))))))))))))))))))))))))))))))))))))))))))))))))))))) λx=>l7 x (some true) (some false)
def q95:FQ:=⟨[uD .str],tR 2 ny,mE 60 [],sN 1 (iq (sN 1 (lK (iq (.join [(4,60)] ⟨[(4,ny)],[]⟩ P9) P9))) P9)⟩
def s95:FSpec:=fU q95 λx=>DN x
def jy(A:c9i):c9n:=l7 (D9 (seq A [])) (o5 (sat A 0) λx=>o5 (yz x) λx=>l7 x (o5 (Am A) λx=>l7 (x8 x (o9 A)) (l7 (N7 (o9 A) 16) (o5 (DN A) λx=>some (D9 x)) (some false)) (some false)) (some false)) (some false)
def q61:FQ:=⟨[uD .str],tR 2 ny,mE 27 [(93,s93),(94,s94),(95,s95)],P9⟩
def s61:FSpec:=fU q61 λx=>jy x
def KR(A:dB)(B:c9i):c9n:=some (seq A.1 B)
def c0l:FQ:=⟨[tD y0,(false,(.rp .str))],tR 3 ny,mE 8 [],P9⟩
def b6Q:FSpec:=fU c0l λx=>KR x.1 x.2
def mg(A:List dB)(B:c9i):c9o:=o5 (V7 (λ(x:Int)=>l7 (E9 x (o9 A)) (o5 (F9 A x) λb=>o5 (KR b B) λc=>l7 c (some (.rt x)) (some (.nx (A7 .i64 x 1)))) (some (.ex ()))) 0) λo=>X9 o (λy=>some (-1)) λr=>some r
def b5L:FQ:=⟨[uD y1,(false,(.fn 97 [.str]))],tR 4 Y5,mE 19 [(97,b6Q)],sN 1 (iq (sN 1 (lK (lpR [(4,6),(8,19)] ⟨[(8,Y5)],[]⟩ 0 sgN P9))) P9)⟩
def b6B:FSpec:=fU b5L λx=>mg x.1 x.2
def kM(A:List dB)(B:c9i):c9n:=o5 (mg A B) λx=>some (N7 0 x)
def c0k:FQ:=⟨[uD y1,(false,(.fn 97 [.str]))],tR 4 ny,mE 9 [(125,b6B)],P9⟩
def c0x:FSpec:=fU c0k λx=>kM x.1 x.2
def CS(A:List dB)(B:c9i):c9n:=o5 (kM A B) λx=>some x
def q62:FQ:=⟨[uD y1,(uD .str)],tR 4 ny,mE 8 [(97,b6Q),(96,c0x)],P9⟩
def s62:FSpec:=fU q62 λx=>CS x.1 x.2
def ug(A:List c9i)(B:c9i):c9o:=o5 (V7 (λ(x:Int)=>l7 (E9 x (o9 A)) (o5 (F9 A x) λb=>l7 (seq B b) (some (.rt x)) (some (.nx (A7 .i64 x 1)))) (some (.ex ()))) 0) λo=>X9 o (λy=>some (-1)) λr=>some r
def c4z:FQ:=⟨[uD (.sl .str),(uD .str)],tR 4 Y5,mE 19 [],sN 1 (iq (sN 1 (lK (lpR [(4,6),(8,19)] ⟨[(8,Y5)],[]⟩ 0 sgN P9))) P9)⟩
def c6B:FSpec:=fU c4z λx=>ug x.1 x.2
def lh(A:List c9i)(B:c9i):c9n:=o5 (ug A B) λx=>some (N7 0 x)
def q87:FQ:=⟨[uD (.sl .str),(uD .str)],tR 4 ny,mE 9 [(122,c6B)],P9⟩
def s87:FSpec:=fU q87 λx=>lh x.1 x.2
def FI(A:S9)(B:Int)(C:dB):Option ak:=o5 (jy C.1) λx=>l7 (D9 x) (some (2,0)) (o5 (Gl A.1 0 B) λx=>o5 (CS x C.1) λx=>l7 x (some (7,0)) (l7 (x8 (o9 C.2) 0) (some (5,0)) (l7 (E9 16 (o9 C.2)) (some (4,116)) (o5 (V7 (λ(x:Int)=>l7 (E9 x (o9 C.2)) (o5 (F9 C.2 x) λb=>o5 (jy b) λc=>l7 (D9 c) (some (.rt (2,A7 .i64 100 x))) (o5 (Gl C.2 0 x) λd=>o5 (lh d b) λf=>l7 f (some (.rt (7,A7 .i64 100 x))) (some (.nx (A7 .i64 x 1))))) (some (.ex ()))) 0) λo=>X9 o (λy=>some (0,0)) λr=>some r))))
def q59:FQ:=⟨[tD y27,Y5,tD y0],⟨[(.tmp 6,Y5),(.tmp 7,Y5)],[]⟩,mE 55 [(61,s61),(62,s62),(87,s87)],sN 2 (iq (sN 1 (lK (lpR [(6,10),(36,55)] ⟨[(36,Y5)],[]⟩ 1 sgN P9))) P9)⟩
def s59:FSpec:=fU q59 λx=>FI x.1 x.2.1 x.2.2
def DJ(A:S9):Option jv:=l7 (E9 8 (o9 A.1)) (some (4,1,8,0)) (o5 (V7 (λ(x:jv×Int)=>l7 (E9 x.2 (o9 A.1)) (o5 (F9 A.1 x.2) λc=>o5 (FI A x.2 c) λb=>l7 (D9 (x8 b.1 0)) (some (.rt (b.1,1,x.2,b.2))) (some (.nx (x.1,A7 .i64 x.2 1)))) (some (.ex x.1))) ((0,0,0,0),0)) λo=>X9 o (λ(y:jv)=>some (0,0,0,0)) λr=>some r)
def q34:FQ:=⟨[tD y27],cR 2 93 (tD y42),mE 35 [(59,s59)],sN 2 (iq (sN 1 (lK (lpR [(2,7),(15,34),(4000128,4000129)] ⟨[(2,(false,(.box (dT y42)))),(15,Y5)],[]⟩ 0 ⟨[(2,(false,(.box (dT y42))))],[]⟩ P9))) P9)⟩
def s34:FSpec:=fU q34 λx=>DJ x
def jd(A:ak)(B:List dB):c9n:=o5 (l7 (x8 A.1 1) (some (x8 A.1 1)) (l7 (x8 A.1 2) (some (x8 A.1 2)) (l7 (x8 A.1 3) (some (x8 A.1 3)) (l7 (x8 A.1 4) (some (x8 A.1 4)) (some (x8 A.1 5)))))) λx=>l7 x (some (x8 A.2 0)) (l7 (x8 A.1 6) (l7 (N7 0 A.2) (some (E9 A.2 (o9 B))) (some false)) (some false))
def q84:FQ:=⟨[tD y2,uD y1],tR 4 ny,mE 28 [],sN 1 (iq (sN 1 (lK (iq (.join [(7,13)] ⟨[(7,ny)],[]⟩ P9) P9))) P9)⟩
def s84:FSpec:=fU q84 λx=>jd x.1 x.2
def rY(A:ak)(B:List dB):Option ak:=o5 (jd A B) λx=>l7 (D9 x) (some (0,-1)) (l7 (x8 A.1 1) (some (0,1)) (l7 (x8 A.1 2) (some (-1000000000000,1000000000000)) (l7 (x8 A.1 3) (some (-1000000000000000,1000000000000000)) (l7 (x8 A.1 4) (some (-1000000000,1000000000)) (l7 (x8 A.1 5) (some (0,109572)) (o5 (F9 B A.2) λx=>some (0,J3 .i64 (o9 x.2) 1)))))))
def q88:FQ:=⟨[tD y2,uD y1],⟨[(.tmp 4,Y5),(.tmp 5,Y5)],[]⟩,mE 30 [(84,s84)],P9⟩
def s88:FSpec:=fU q88 λx=>rY x.1 x.2
def uu(A:ak):c9n:=l7 (N7 0 A.1) (l7 (N7 A.1 A.2) (some (N7 A.2 109573)) (some false)) (some false)
def q89:FQ:=⟨[tD y2],tR 2 ny,mE 18 [],P9⟩
def s89:FSpec:=fU q89 λx=>uu x
def yL(A:ak):c9n:=o5 (uu A) λx=>l7 x (some (E9 A.1 A.2)) (some false)
def c4Q:FQ:=⟨[tD y2],tR 2 ny,mE 12 [(89,s89)],P9⟩
def c6N:FSpec:=fU c4Q λx=>yL x
def wo(A:ak)(B:ak):Option (ak×Bool):=o5 (yL A) λx=>l7 (D9 x) (some ((0,0),false)) (o5 (yL B) λx=>l7 (D9 x) (some ((0,0),false)) (l7 (N7 (qR A.2 B.2) (oD A.1 B.1)) (some ((0,0),false)) (some ((oD A.1 B.1,qR A.2 B.2),true))))
def c4A:FQ:=⟨[tD y2,tD y2],⟨[(.cell 4 83,tD y2),(.tmp 5,ny)],[]⟩,mE 34 [(150,c6N)],P9⟩
def c6C:FSpec:=fU c4A λx=>wo x.1 x.2
def Ep(A:rF)(B:rF):c9n:=o5 (wo A.1 B.1) λx=>l7 x.2 (some (E9 (oD A.2.1 B.2.1) (qR A.2.2.1 B.2.2.1))) (some false)
def q92:FQ:=⟨[tD y4,tD y4],tR 4 ny,mE 29 [(123,c6C)],P9⟩
def s92:FSpec:=fU q92 λx=>Ep x.1 x.2
def xg(A:rF)(B:rF):c9n:=o5 (Ep A B) λx=>some x
def c0j:FQ:=⟨[tD y4,(false,(.rp y4))],tR 3 ny,mE 7 [(92,s92)],P9⟩
def b6P:FSpec:=fU c0j λx=>xg x.1 x.2
def wz(A:List rF)(B:rF):Option (Int×Bool):=o5 (V7 (λ(x:Int)=>l7 (E9 x (o9 A)) (o5 (F9 A x) λb=>o5 (xg b B) λc=>l7 c (some (.rt (x,true))) (some (.nx (A7 .i64 x 1)))) (some (.ex ()))) 0) λo=>X9 o (λy=>some (0,false)) λr=>some r
def c0h:FQ:=⟨[uD y5,(false,(.fn 91 [y4]))],⟨[(.tmp 4,Y5),(.tmp 5,ny)],[]⟩,mE 20 [(91,b6P)],sN 1 (iq (sN 1 (lK (lpR [(4,8),(10,20)] ⟨[(10,Y5)],[]⟩ 0 sgN P9))) P9)⟩
def c0u:FSpec:=fU c0h λx=>wz x.1 x.2
def Eo(A:bn)(B:List dB):Option ak:=l7 (E9 64 (o9 A.2.2.2)) (some (64,4)) (o5 (o5 (jd A.2.1 B) λx=>l7 (D9 x) (some (.inr (-1,8))) (o5 (jd A.2.2.1 B) λx=>l7 (D9 x) (some (.inr (-1,8))) (some (.inl ())))) λo=>X9 o (λx=>o5 (rY A.2.1 B) λx=>o5 (rY A.2.2.1 B) λd=>o5 (V7 (λ(b:Int)=>l7 (E9 b (o9 A.2.2.2)) (o5 (F9 A.2.2.2 b) λc=>o5 (o5 (uu c.1) λx=>l7 (D9 x) (some (.inr (b,3))) (l7 (x8 c.1.1 c.1.2) (some (.inr (b,3))) (l7 (N7 c.2.2.1 c.2.1) (some (.inr (b,3))) (some (.inl ()))))) λo=>X9 o (λf=>o5 (l7 (E9 c.2.1 x.1) (some (.inr (b,3))) (l7 (E9 x.2 c.2.1) (some (.inr (b,3))) (l7 (E9 (J3 .i64 c.2.2.1 1) x.1) (some (.inr (b,3))) (l7 (E9 x.2 (J3 .i64 c.2.2.1 1)) (some (.inr (b,3))) (some (.inl ())))))) λo=>X9 o (λx=>l7 (E9 c.2.2.2 d.1) (some (.rt (b,3))) (l7 (E9 d.2 c.2.2.2) (some (.rt (b,3))) (o5 (Gl A.2.2.2 0 b) λx=>o5 (wz x c) λx=>l7 x.2 (some (.rt (b,11))) (some (.nx (A7 .i64 b 1)))))) λr=>some (.rt r)) λr=>some (.rt r)) (some (.ex ()))) 0) λo=>X9 o (λy=>some (0,0)) λr=>some r) λr=>some r)
def q60:FQ:=⟨[tD y8,uD y1],⟨[(.tmp 4,Y5),(.tmp 5,Y5)],[]⟩,mE 121 [(84,s84),(88,s88),(89,s89),(91,b6P),(90,c0u)],sN 2 (iq (jnR [(4,6),(18,30)] sgN P9) (sN 2 (iq (sN 1 (lK (lpR [(4,6),(10,14),(47,121)] ⟨[(47,Y5)],[]⟩ 0 sgN (sN 2 (iq (lK (sN 1 (iq (jnR [(4,6),(52,73)] sgN P9) (iq (jnR [(4,6),(73,98)] sgN P9) P9)))) P9))))) P9)))⟩
def s60:FSpec:=fU q60 λx=>Eo x.1 x.2
def Ja(A:bn)(B:c9i):c9n:=some (seq A.1 B)
def c0o:FQ:=⟨[tD y8,(false,(.rp .str))],tR 3 ny,mE 8 [],P9⟩
def b6R:FSpec:=fU c0o λx=>Ja x.1 x.2
def kX(A:List bn)(B:c9i):c9o:=o5 (V7 (λ(x:Int)=>l7 (E9 x (o9 A)) (o5 (F9 A x) λb=>o5 (Ja b B) λc=>l7 c (some (.rt x)) (some (.nx (A7 .i64 x 1)))) (some (.ex ()))) 0) λo=>X9 o (λy=>some (-1)) λr=>some r
def b5M:FQ:=⟨[uD y9,(false,(.fn 99 [.str]))],tR 4 Y5,mE 19 [(99,b6R)],sN 1 (iq (sN 1 (lK (lpR [(4,6),(8,19)] ⟨[(8,Y5)],[]⟩ 0 sgN P9))) P9)⟩
def b6C:FSpec:=fU b5M λx=>kX x.1 x.2
def jO(A:List bn)(B:c9i):c9n:=o5 (kX A B) λx=>some (N7 0 x)
def c0n:FQ:=⟨[uD y9,(false,(.fn 99 [.str]))],tR 4 ny,mE 9 [(126,b6C)],P9⟩
def c0y:FSpec:=fU c0n λx=>jO x.1 x.2
def DL(A:List bn)(B:c9i):c9n:=o5 (jO A B) λx=>some x
def q63:FQ:=⟨[uD y9,(uD .str)],tR 4 ny,mE 8 [(99,b6R),(98,c0y)],P9⟩
def s63:FSpec:=fU q63 λx=>DL x.1 x.2
def BF(A:S9):Option jv:=l7 (E9 8 (o9 A.2.1)) (some (4,2,8,0)) (o5 (V7 (λ(x:jv×Int)=>l7 (E9 x.2 (o9 A.2.1)) (o5 (F9 A.2.1 x.2) λc=>o5 (Eo c A.1) λb=>o5 (o5 (jy c.1) λd=>l7 (D9 d) (some (2,2,x.2,0)) (o5 (CS A.1 c.1) λf=>l7 f (some (7,2,x.2,0)) (o5 (Gl A.2.1 0 x.2) λg=>o5 (DL g c.1) λi=>l7 i (some (7,2,x.2,0)) (l7 (D9 (x8 b.2 0)) (l7 (D9 (x8 b.1 (-1))) (some (b.2,2,x.2,A7 .i64 100 b.1)) (some (b.2,2,x.2,0))) (some (0,2,x.2,0)))))) λd=>l7 (D9 (x8 d.1 0)) (some (.rt d)) (some (.nx (x.1,A7 .i64 x.2 1)))) (some (.ex x.1))) ((0,0,0,0),0)) λo=>X9 o (λ(y:jv)=>some (0,0,0,0)) λr=>some r)
def q35:FQ:=⟨[tD y27],cR 2 93 (tD y42),mE 68 [(60,s60),(61,s61),(62,s62),(63,s63)],sN 2 (iq (sN 1 (lK (lpR [(2,8),(16,67),(4000128,4000129)] ⟨[(2,(false,(.box (dT y42)))),(16,Y5)],[]⟩ 0 ⟨[(2,(false,(.box (dT y42))))],[]⟩ (sN 2 (iq (lK (sN 3 (iq (.join [(5,6),(30,62),(37000320,37000321)] ⟨[(5,(false,(.box (dT y42))))],[]⟩ P9) P9))) P9))))) P9)⟩
def s35:FSpec:=fU q35 λx=>BF x
def EU(A:A8)(B:A8):c9n:=some (seq A.1 B.1)
def b5K:FQ:=⟨[tD y24,(false,(.rp y24))],tR 3 ny,mE 9 [],P9⟩
def a9i:FSpec:=fU b5K λx=>EU x.1 x.2
def kW(A:List A8)(B:A8):c9o:=o5 (V7 (λ(x:Int)=>l7 (E9 x (o9 A)) (o5 (F9 A x) λb=>o5 (EU b B) λc=>l7 c (some (.rt x)) (some (.nx (A7 .i64 x 1)))) (some (.ex ()))) 0) λo=>X9 o (λy=>some (-1)) λr=>some r
def b5N:FQ:=⟨[uD y25,(false,(.fn 101 [y24]))],tR 4 Y5,mE 19 [(101,a9i)],sN 1 (iq (sN 1 (lK (lpR [(4,6),(8,19)] ⟨[(8,Y5)],[]⟩ 0 sgN P9))) P9)⟩
def b6D:FSpec:=fU b5N λx=>kW x.1 x.2
def iC(A:List A8)(B:A8):c9n:=o5 (kW A B) λx=>some (N7 0 x)
def b5J:FQ:=⟨[uD y25,(false,(.fn 101 [y24]))],tR 4 ny,mE 9 [(127,b6D)],P9⟩
def b6y:FSpec:=fU b5J λx=>iC x.1 x.2
def ET(A:bH)(B:bH):c9n:=some (seq A.1 B.1)
def b5O:FQ:=⟨[tD y10,(false,(.rp y10))],tR 3 ny,mE 9 [],P9⟩
def a9j:FSpec:=fU b5O λx=>ET x.1 x.2
def kV(A:List bH)(B:bH):c9o:=o5 (V7 (λ(x:Int)=>l7 (E9 x (o9 A)) (o5 (F9 A x) λb=>o5 (ET b B) λc=>l7 c (some (.rt x)) (some (.nx (A7 .i64 x 1)))) (some (.ex ()))) 0) λo=>X9 o (λy=>some (-1)) λr=>some r
def b5S:FQ:=⟨[uD y11,(false,(.fn 128 [y10]))],tR 4 Y5,mE 19 [(128,a9j)],sN 1 (iq (sN 1 (lK (lpR [(4,6),(8,19)] ⟨[(8,Y5)],[]⟩ 0 sgN P9))) P9)⟩
def b6G:FSpec:=fU b5S λx=>kV x.1 x.2
def eQ(A:List bH)(B:bH):c9n:=o5 (kV A B) λx=>some (N7 0 x)
def b5P:FQ:=⟨[uD y11,(false,(.fn 128 [y10]))],tR 4 ny,mE 9 [(151,b6G)],P9⟩
def b6E:FSpec:=fU b5P λx=>eQ x.1 x.2
def zl(A:S9)(B:bH)(C:List bH)(D:List bH):c9o:=o5 (jy B.1) λx=>l7 (D9 x) (some 2) (o5 (eQ C B) λx=>l7 x (some 7) (o5 (eQ D B) λx=>l7 x (some 7) (o5 (jd B.2 A.1) λx=>l7 (D9 x) (some 8) (some 0))))
def c4n:FQ:=⟨[tD y27,tD y10,uD y11,uD y11],tR 8 Y5,mE 32 [(128,a9j),(61,s61),(129,b6E),(84,s84)],P9⟩
def c6r:FSpec:=fU c4n λx=>zl x.1 x.2.1 x.2.2.1 x.2.2.2
def wU(A:List bH):Option (List ak):=o5 (ay (λ(x:List ak×Int)=>l7 (E9 x.2 (o9 A)) (o5 (F9 A x.2) λb=>o5 (di x.1 [b.2]) λc=>some (.inl (c,A7 .i64 x.2 1))) (some (.inr x.1))) ([],0)) λy=>some y
def c4C:FQ:=⟨[uD y11],tR 2 (uO y2),mE 19 [],sN 2 (iq (sN 1 (lK (.loop [(3,4),(5,6),(8,18)] ⟨[(3,(uO y2)),(8,Y5)],[]⟩ 0 ⟨[(3,(uO y2))],[]⟩ P9))) P9)⟩
def c6E:FSpec:=fU c4C λx=>wU x
def ru(A:S9)(B:Int):Option J5:=o5 (F9 A.2.2 B) λx=>o5 (wU x.2.2.1) λb=>o5 (wU x.2.2.2.1) λc=>l7 (N7 0 x.2.1) (l7 (E9 x.2.1 (o9 A.2.2)) (o5 (F9 A.2.2 x.2.1) λx=>o5 (wU x.2.2.2.1) λx=>some (A.1,A.2.1,b,c,x,true)) (some (A.1,A.2.1,b,c,[],false))) (some (A.1,A.2.1,b,c,[],false))
def c4o:FQ:=⟨[tD y27,Y5],cR 4 211 (tD y73),mE 45 [(130,c6E)],P9⟩
def c6s:FSpec:=fU c4o λx=>ru x.1 x.2
def GH(A:V8)(B:V8):c9n:=some (seq A.1 B.1)
def b5R:FQ:=⟨[tD y19,(false,(.rp y19))],tR 3 ny,mE 9 [],P9⟩
def a9k:FSpec:=fU b5R λx=>GH x.1 x.2
def mi(A:List V8)(B:V8):c9o:=o5 (V7 (λ(x:Int)=>l7 (E9 x (o9 A)) (o5 (F9 A x) λb=>o5 (GH b B) λc=>l7 c (some (.rt x)) (some (.nx (A7 .i64 x 1)))) (some (.ex ()))) 0) λo=>X9 o (λy=>some (-1)) λr=>some r
def b5T:FQ:=⟨[uD y20,(false,(.fn 132 [y19]))],tR 4 Y5,mE 19 [(132,a9k)],sN 1 (iq (sN 1 (lK (lpR [(4,6),(8,19)] ⟨[(8,Y5)],[]⟩ 0 sgN P9))) P9)⟩
def b6H:FSpec:=fU b5T λx=>mi x.1 x.2
def iR(A:List V8)(B:V8):c9n:=o5 (mi A B) λx=>some (N7 0 x)
def b5Q:FQ:=⟨[uD y20,(false,(.fn 132 [y19]))],tR 4 ny,mE 9 [(152,b6H)],P9⟩
def b6F:FSpec:=fU b5Q λx=>iR x.1 x.2
def c4m:List MG:=[(false,(.dat .str)),(false,(.dat .str))]
def c6O:FSpec:=⟨c4m,[ny],[],λx=>AY x.1 x.2⟩
def BG(A:c9i):c9n:=l7 (E9 64 (o9 A)) (some false) (o5 (AY A [34]) λx=>l7 x (some false) (o5 (V7 (λ(x:Int)=>l7 (E9 x (o9 A)) (o5 (sat A x) λb=>l7 (E9 b 32) (some (.rt false)) (o5 (sat A x) λc=>l7 (E9 126 c) (some (.rt false)) (some (.nx (A7 .i64 x 1))))) (some (.ex ()))) 0) λo=>X9 o (λy=>some true) λr=>some r))
def c4E:FQ:=⟨[uD .str],tR 2 ny,mE 27 [(153,c6O)],sN 2 (iq (sN 1 (lK (lpR [(2,4),(13,27)] ⟨[(13,Y5)],[]⟩ 0 sgN P9))) P9)⟩
def c6F:FSpec:=fU c4E λx=>BG x
def qN(A:Int):c9o:=o5 (l7 (x8 A 1) (some (x8 A 1)) (l7 (x8 A 2) (some (x8 A 2)) (l7 (x8 A 3) (some (x8 A 3)) (l7 (x8 A 4) (some (x8 A 4)) (l7 (x8 A 5) (some (x8 A 5)) (l7 (x8 A 6) (some (x8 A 6)) (l7 (x8 A 7) (some (x8 A 7)) (l7 (x8 A 8) (some (x8 A 8)) (l7 (x8 A 9) (some (x8 A 9)) (l7 (x8 A 35) (some (x8 A 35)) (l7 (x8 A 36) (some (x8 A 36)) (l7 (x8 A 37) (some (x8 A 37)) (l7 (x8 A 38) (some (x8 A 38)) (some (x8 A 39))))))))))))))) λx=>l7 x (some 0) (o5 (l7 (x8 A 10) (some (x8 A 10)) (l7 (x8 A 25) (some (x8 A 25)) (l7 (x8 A 31) (some (x8 A 31)) (l7 (x8 A 32) (some (x8 A 32)) (l7 (x8 A 33) (some (x8 A 33)) (some (x8 A 34))))))) λx=>l7 x (some 1) (o5 (l7 (x8 A 11) (some (x8 A 11)) (l7 (x8 A 12) (some (x8 A 12)) (l7 (x8 A 13) (some (x8 A 13)) (l7 (x8 A 14) (some (x8 A 14)) (l7 (x8 A 15) (some (x8 A 15)) (l7 (x8 A 16) (some (x8 A 16)) (l7 (x8 A 17) (some (x8 A 17)) (l7 (x8 A 18) (some (x8 A 18)) (l7 (x8 A 19) (some (x8 A 19)) (l7 (x8 A 20) (some (x8 A 20)) (l7 (x8 A 21) (some (x8 A 21)) (l7 (x8 A 22) (some (x8 A 22)) (l7 (x8 A 23) (some (x8 A 23)) (l7 (x8 A 24) (some (x8 A 24)) (l7 (x8 A 27) (some (x8 A 27)) (l7 (x8 A 28) (some (x8 A 28)) (l7 (x8 A 29) (some (x8 A 29)) (some (x8 A 30))))))))))))))))))) λx=>l7 x (some 2) (l7 (x8 A 26) (some 3) (some (-1)))))
def c5b:FQ:=⟨[Y5],tR 2 Y5,mE 47 [],sN 1 (iq (sN 1 (lK (iq (.join [(4,19)] ⟨[(4,ny)],[]⟩ P9) (.cond P9 (iq (.join [(19,26)] ⟨[(19,ny)],[]⟩ P9) (.cond P9 (iq (.join [(26,45)] ⟨[(26,ny)],[]⟩ P9) P9))))))) P9)⟩
def b2Z:FSpec:=fU c5b λx=>qN x
def zi(A:List ak):Option (c9h×ak):=l7 (E9 48 (o9 A)) (some ([],0,4)) (l7 (x8 (o9 A) 0) (some ([],0,5)) (o5 (qU (o9 A) 0) λx=>o5 (V7 (λ(x:c9h×c9h×Int)=>l7 (E9 x.2.2 (o9 A)) (o5 (F9 A x.2.2) λg=>o5 (qN g.1) λb=>l7 (E9 b 0) (some (.rt ([],x.2.2,2))) (l7 (E9 (o9 x.2.1) b) (some (.rt ([],x.2.2,5))) (o5 (F9 x.1 x.2.2) λk=>o5 (O8 x.1 (U6 x.2.2)) λn=>l7 (E9 0 b) (o5 (F9 x.2.1 (J3 .i64 (o9 x.2.1) b)) λj=>o5 (O8 x.2.1 (U6 (J3 .i64 (o9 x.2.1) b))) λc=>o5 (F9 (bu x.1 (U6 x.2.2) x.2.2) x.2.2) λd=>o5 (O8 (bu x.1 (U6 x.2.2) x.2.2) (U6 x.2.2)) λp=>l7 (qp 0 (J3 .i64 (o9 x.2.1) b) (o9 x.2.1)) (o5 (F9 (bu (bu x.1 (U6 x.2.2) x.2.2) (U6 x.2.2) c) x.2.2) λq=>o5 (O8 (bu (bu x.1 (U6 x.2.2) x.2.2) (U6 x.2.2) c) (U6 x.2.2)) λi=>o5 (di (qh x.2.1 (U6 0) (U6 (J3 .i64 (o9 x.2.1) b))) [i]) λf=>l7 (E9 12 (o9 f)) (some (.rt ([],x.2.2,16))) (some (.nx (bu (bu x.1 (U6 x.2.2) x.2.2) (U6 x.2.2) c,f,A7 .i64 x.2.2 1)))) none) (l7 (qp 0 (J3 .i64 (o9 x.2.1) b) (o9 x.2.1)) (o5 (F9 (bu x.1 (U6 x.2.2) x.2.2) x.2.2) λj=>o5 (O8 (bu x.1 (U6 x.2.2) x.2.2) (U6 x.2.2)) λc=>o5 (di (qh x.2.1 (U6 0) (U6 (J3 .i64 (o9 x.2.1) b))) [c]) λd=>l7 (E9 12 (o9 d)) (some (.rt ([],x.2.2,16))) (some (.nx (bu x.1 (U6 x.2.2) x.2.2,d,A7 .i64 x.2.2 1)))) none)))) (some (.ex (x.1,x.2.1)))) (x,[],0)) λo=>X9 o (λ(y:c9h×c9h)=>l7 (E9 1 (o9 y.2)) (some ([],o9 A,4)) (some (y.1,0,0))) λr=>some r))
def c4Z:FQ:=⟨[uD y12],⟨[(.tmp 2,uoM),(.tmp 3,Y5),(.tmp 4,Y5)],[]⟩,mE 76 [(179,b2Z)],sN 5 (iq (sN 1 (lK (lpR [(2,10),(21,70),(27001152,27001153)] ⟨[(5,uoM),(6,uoM),(21,Y5)],[]⟩ 0 ⟨[(5,uoM),(6,uoM)],[]⟩ P9))) P9)⟩
def c1O:FSpec:=fU c4Z λx=>zi x
def lX(A:Int):c9n:=l7 (x8 A 1) (l7 (x8 A 1) (some true) (some false)) (l7 (x8 A 2) (l7 (x8 A 2) (some true) (some false)) (l7 (x8 A 3) (l7 (x8 A 3) (some true) (some false)) (l7 (x8 A 4) (l7 (x8 A 4) (some true) (some false)) (l7 (x8 A 5) (l7 (x8 A 5) (some true) (some false)) (l7 (x8 A 6) (l7 (x8 A 6) (some true) (some false)) (l7 (x8 A 7) (l7 (x8 A 7) (some true) (some false)) (l7 (x8 A 8) (l7 (x8 A 8) (some true) (some false)) (l7 (x8 A 14) (l7 (x8 A 14) (some true) (some false)) (l7 (x8 A 15) (l7 (x8 A 15) (some true) (some false)) (l7 (x8 A 16) (l7 (x8 A 16) (some true) (some false)) (l7 (x8 A 33) (l7 (x8 A 33) (some true) (some false)) (l7 (x8 A 34) (l7 (x8 A 34) (some true) (some false)) (l7 (x8 A 36) (l7 (x8 A 36) (some true) (some false)) (l7 (x8 A 37) (l7 (x8 A 37) (some true) (some false)) (l7 (x8 A 38) (l7 (x8 A 38) (some true) (some false)) (l7 (x8 A 39) (some true) (some false)))))))))))))))))
def c5a:FQ:=⟨[Y5],tR 2 ny,mE 22 [],P9⟩
def c1P:FSpec:=fU c5a λx=>lX x
def mJ(A:Int)(B:Int)(C:J5):Option (ak×Int):=o5 (rY (B,0) C.1) λx=>l7 (E9 A x.1) (some ((0,0),3)) (l7 (E9 x.2 A) (some ((0,0),3)) (some ((B,0),0)))
def c5j:FQ:=⟨[Y5,Y5,tD y73],⟨[(.cell 6 73,tD y2),(.tmp 7,Y5)],[]⟩,mE 30 [(88,s88)],P9⟩
def c7b:FSpec:=fU c5j λx=>mJ x.1 x.2.1 x.2.2
def FH(A:Int)(B:J5):Option (ak×Int):=l7 (E9 A 0) (some ((0,0),3)) (l7 (N7 (o9 B.1) (dV .i64 A 16)) (some ((0,0),6)) (o5 (F9 B.1 (dV .i64 A 16)) λx=>l7 (N7 (o9 x.2) (eF A 16)) (some ((0,0),6)) (some ((6,dV .i64 A 16),0))))
def c5k:FQ:=⟨[Y5,tD y73],⟨[(.cell 4 73,tD y2),(.tmp 5,Y5)],[]⟩,mE 34 [],P9⟩
def c7c:FSpec:=fU c5k λx=>FH x.1 x.2
def lL(A:Int)(B:List ak)(C:J5):Option (ak×Int):=l7 (E9 A 0) (some ((0,0),6)) (l7 (N7 (o9 B) A) (some ((0,0),6)) (o5 (F9 B A) λx=>o5 (jd x C.1) λx=>l7 (D9 x) (some ((0,0),8)) (o5 (F9 B A) λx=>some (x,0))))
def c5l:FQ:=⟨[Y5,uD y12,tD y73],⟨[(.cell 6 73,tD y2),(.tmp 7,Y5)],[]⟩,mE 30 [(84,s84)],P9⟩
def c1R:FSpec:=fU c5l λx=>lL x.1 x.2.1 x.2.2
def pW(A:Int):c9n:=l7 (N7 0 A) (some (N7 A 5)) (some false)
def c5o:FQ:=⟨[Y5],tR 2 ny,mE 9 [],P9⟩
def c1S:FSpec:=fU c5o λx=>pW x
def wK(A:ak)(B:ak)(C:J5):Option (ak×Int):=o5 (l7 (x8 A.1 34) (l7 (E9 A.2 0) (some (.inr ((0,0),3))) (o5 (pW (eF A.2 8)) λx=>l7 (D9 x) (some (.inr ((0,0),3))) (some (.inl ((0,0),dV .i64 A.2 8))))) (some (.inl ((0,0),A.2)))) λo=>X9 o (λ(x:ak×Int)=>o5 (l7 (E9 x.2 0) (some (.inr ((0,0),6))) (l7 (N7 (o9 C.2.1) x.2) (some (.inr ((0,0),6))) (some (.inl x.1)))) λo=>X9 o (λ(d:ak)=>o5 (F9 C.2.1 x.2) λb=>o5 (F9 C.2.1 x.2) λx=>o5 (o5 (jd b.2.1 C.1) λc=>l7 (D9 c) (some (.inr ((0,0),8))) (o5 (jd x.2.2.1 C.1) λx=>l7 (D9 x) (some (.inr ((0,0),8))) (l7 (D9 (V9 (x8 B.1 b.2.1.1) (x8 B.2 b.2.1.2))) (some (.inr ((0,0),8))) (some (.inl d))))) λo=>X9 o (λ(c:ak)=>l7 (x8 A.1 34) (l7 (D9 (x8 b.2.1.1 3)) (some ((0,0),8)) (l7 (D9 (x8 x.2.2.1.1 4)) (some ((0,0),8)) (some (b.2.1,0)))) (some (x.2.2.1,0))) λr=>some r) λr=>some r) λr=>some r
def c5m:FQ:=⟨[tD y2,tD y2,tD y73],⟨[(.cell 6 73,tD y2),(.tmp 7,Y5)],[]⟩,mE 84 [(204,c1S),(84,s84)],sN 2 (iq (jnR [(6,9),(13,30),(4000384,4000385)] ⟨[(6,(false,(.box (dT y2)))),(8,Y5)],[]⟩ P9) (iq (jnR [(6,8),(30,40),(9000000,9000001)] ⟨[(6,(false,(.box (dT y2))))],[]⟩ P9) (sN 1 (iq (jnR [(6,8),(52,70),(27000000,27000001)] ⟨[(6,(false,(.box (dT y2))))],[]⟩ P9) P9))))⟩
def c7d:FSpec:=fU c5m λx=>wK x.1 x.2.1 x.2.2
def pz(A:Int):c9n:=l7 (x8 A 2) (some true) (l7 (x8 A 3) (some true) (some (x8 A 4)))
def c5x:FQ:=⟨[Y5],tR 2 ny,mE 13 [],P9⟩
def c1T:FSpec:=fU c5x λx=>pz x
def uy(A:ak)(B:J5):Option (ak×Int):=l7 (D9 B.2.2.2.2.2) (some ((0,0),6)) (l7 (x8 A.1 35) (some ((2,0),0)) (o5 (lL A.2 B.2.2.2.2.1 B) λx=>l7 (D9 (x8 x.2 0)) (some ((0,0),x.2)) (o5 (l7 (x8 A.1 36) (l7 (x8 x.1.1 2) (some true) (some (x8 x.1.1 3))) (l7 (x8 A.1 37) (l7 (x8 A.1 37) (some (x8 x.1.1 1)) (l7 (x8 A.1 39) (o5 (pz x.1.1) λb=>l7 b (some true) (some (x8 x.1.1 5))) (some false))) (l7 (x8 A.1 38) (some (x8 x.1.1 1)) (l7 (x8 A.1 39) (o5 (pz x.1.1) λb=>l7 b (some true) (some (x8 x.1.1 5))) (some false))))) λb=>l7 (D9 b) (some ((0,0),8)) (some (x.1,0)))))
def c5n:FQ:=⟨[tD y2,tD y73],⟨[(.cell 4 73,tD y2),(.tmp 5,Y5)],[]⟩,mE 62 [(201,c1R),(219,c1T)],sN 6 (iq (.join [(8,9),(30,58)] ⟨[(8,ny)],[]⟩ P9) P9)⟩
def c7e:FSpec:=fU c5n λx=>uy x.1 x.2
def LP(A:Int)(B:Int)(C:Int):Option (ak×Bool):=l7 (x8 A 14) (l7 (x8 C 4) (l7 (x8 B 3) (some ((B,0),true)) (some ((B,0),x8 B 4))) (some ((B,0),false))) (l7 (x8 C 2) (l7 (x8 B 2) (some ((B,0),true)) (some ((B,0),x8 B 3))) (l7 (x8 A 15) (l7 (x8 B 3) (l7 (x8 C 3) (some ((4,0),true)) (some ((0,0),false))) (some ((0,0),false))) (some ((0,0),false))))
def c5y:FQ:=⟨[Y5,Y5,Y5],⟨[(.cell 6 73,tD y2),(.tmp 7,ny)],[]⟩,mE 47 [],P9⟩
def c7m:FSpec:=fU c5y λx=>LP x.1 x.2.1 x.2.2
def qP(A:Int)(B:List ak):Option (ak×Bool):=o5 (l7 (x8 A 10) (o5 (F9 B 0) λx=>o5 (F9 B 0) λb=>o5 (pz b.1) λc=>some (.inr (x,c))) (l7 (x8 A 25) (o5 (F9 B 0) λx=>some (.inr ((1,0),x8 x.1 1))) (o5 (l7 (x8 A 11) (some (x8 A 11)) (some (x8 A 12))) λx=>l7 x (o5 (F9 B 0) λx=>o5 (F9 B 0) λb=>o5 (F9 B 1) λc=>l7 (V9 (x8 b.1 c.1) (x8 b.2 c.2)) (o5 (F9 B 0) λd=>o5 (pz d.1) λf=>some (.inr (x,f))) (some (.inr (x,false)))) (o5 (l7 (x8 A 13) (some (x8 A 13)) (l7 (x8 A 14) (some (x8 A 14)) (some (x8 A 15)))) λx=>l7 x (o5 (F9 B 0) λx=>o5 (F9 B 1) λb=>o5 (LP A x.1 b.1) λx=>some (.inr x)) (l7 (x8 A 16) (o5 (F9 B 0) λx=>o5 (F9 B 0) λb=>l7 (x8 b.1 3) (o5 (F9 B 1) λc=>some (.inr (x,x8 c.1 3))) (some (.inr (x,false)))) (o5 (l7 (x8 A 17) (some (x8 A 17)) (some (x8 A 18))) λx=>l7 x (o5 (F9 B 0) λx=>o5 (F9 B 0) λb=>o5 (F9 B 1) λc=>l7 (V9 (x8 b.1 c.1) (x8 b.2 c.2)) (o5 (F9 B 0) λd=>o5 (pz d.1) λf=>l7 f (some (.inr (x,true))) (o5 (F9 B 0) λg=>some (.inr (x,x8 g.1 5)))) (some (.inr (x,false)))) (o5 (l7 (x8 A 19) (some (x8 A 19)) (some (x8 A 20))) λx=>l7 x (o5 (F9 B 0) λx=>o5 (F9 B 1) λb=>some (.inr ((1,0),V9 (x8 x.1 b.1) (x8 x.2 b.2)))) (o5 (l7 (x8 A 21) (some (x8 A 21)) (some (x8 A 22))) λx=>l7 x (o5 (F9 B 0) λx=>o5 (F9 B 1) λb=>l7 (V9 (x8 x.1 b.1) (x8 x.2 b.2)) (o5 (F9 B 0) λx=>o5 (pz x.1) λx=>l7 x (some (.inr ((1,0),true))) (o5 (F9 B 0) λx=>some (.inr ((1,0),x8 x.1 5)))) (some (.inr ((1,0),false)))) (o5 (l7 (x8 A 23) (some (x8 A 23)) (some (x8 A 24))) λx=>l7 x (o5 (F9 B 0) λx=>l7 (x8 x.1 1) (o5 (F9 B 1) λx=>some (.inr ((1,0),x8 x.1 1))) (some (.inr ((1,0),false)))) (l7 (x8 A 26) (o5 (F9 B 1) λx=>o5 (F9 B 0) λb=>l7 (x8 b.1 1) (o5 (F9 B 1) λc=>o5 (F9 B 2) λd=>some (.inr (x,V9 (x8 c.1 d.1) (x8 c.2 d.2)))) (some (.inr (x,false)))) (o5 (l7 (x8 A 27) (some (x8 A 27)) (some (x8 A 28))) λx=>l7 x (o5 (F9 B 0) λx=>o5 (F9 B 0) λb=>l7 (x8 b.1 5) (o5 (F9 B 1) λc=>some (.inr (x,x8 c.1 2))) (some (.inr (x,false)))) (l7 (x8 A 29) (l7 (x8 A 29) (o5 (F9 B 0) λx=>l7 (x8 x.1 5) (o5 (F9 B 1) λx=>some (.inr ((2,0),x8 x.1 5))) (some (.inr ((2,0),false)))) (l7 (x8 A 31) (l7 (x8 A 31) (o5 (F9 B 0) λx=>some (.inr ((2,0),x8 x.1 5))) (some (.inl (0,0)))) (l7 (x8 A 32) (o5 (F9 B 0) λx=>some (.inr ((2,0),x8 x.1 5))) (some (.inl (0,0)))))) (l7 (x8 A 30) (o5 (F9 B 0) λx=>l7 (x8 x.1 5) (o5 (F9 B 1) λx=>some (.inr ((2,0),x8 x.1 5))) (some (.inr ((2,0),false)))) (l7 (x8 A 31) (l7 (x8 A 31) (o5 (F9 B 0) λx=>some (.inr ((2,0),x8 x.1 5))) (some (.inl (0,0)))) (l7 (x8 A 32) (o5 (F9 B 0) λx=>some (.inr ((2,0),x8 x.1 5))) (some (.inl (0,0)))))))))))))))))) λo=>X9 o (λ(x:ak)=>some ((0,0),false)) λr=>some r
def c5p:FQ:=⟨[Y5,uD y12],⟨[(.cell 4 73,tD y2),(.tmp 5,ny)],[]⟩,mE 222 [(219,c1T),(220,c7m)],sN 2 (iq (jnR [(4,6),(8,221),(4000256,4000257)] ⟨[(4,(false,(.box (dT y2))))],[]⟩ (sN 1 (lK (sN 1 (.cond P9 (sN 1 (.cond P9 (iq (.join [(27,30)] ⟨[(27,ny)],[]⟩ P9) (.cond P9 (iq (.join [(47,51)] ⟨[(47,ny)],[]⟩ P9) (.cond P9 (sN 1 (.cond P9 (iq (.join [(80,83)] ⟨[(80,ny)],[]⟩ P9) (.cond P9 (iq (.join [(107,110)] ⟨[(107,ny)],[]⟩ P9) (.cond P9 (iq (.join [(118,121)] ⟨[(118,ny)],[]⟩ P9) (.cond P9 (iq (.join [(143,146)] ⟨[(143,ny)],[]⟩ P9) (.cond P9 (sN 1 (.cond P9 (iq (.join [(178,181)] ⟨[(178,ny)],[]⟩ P9) P9)))))))))))))))))))))))) P9)⟩
def c7f:FSpec:=fU c5p λx=>qP x.1 x.2
def dN(A:ak)(B:List ak)(C:J5):Option (ak×Int):=o5 (l7 (x8 A.1 1) (o5 (mJ A.2 1 C) λx=>some (.inr x)) (l7 (x8 A.1 2) (o5 (mJ A.2 2 C) λx=>some (.inr x)) (l7 (x8 A.1 3) (o5 (mJ A.2 3 C) λx=>some (.inr x)) (l7 (x8 A.1 4) (o5 (mJ A.2 4 C) λx=>some (.inr x)) (l7 (x8 A.1 5) (o5 (mJ A.2 5 C) λx=>some (.inr x)) (l7 (x8 A.1 6) (o5 (FH A.2 C) λx=>some (.inr x)) (l7 (x8 A.1 7) (o5 (lL A.2 C.2.2.1 C) λx=>some (.inr x)) (l7 (x8 A.1 8) (o5 (lL A.2 C.2.2.2.1 C) λx=>some (.inr x)) (l7 (x8 A.1 9) (some (.inr ((5,0),0))) (o5 (l7 (x8 A.1 33) (some (x8 A.1 33)) (some (x8 A.1 34))) λx=>l7 x (o5 (F9 B 0) λx=>o5 (wK A x C) λx=>some (.inr x)) (o5 (l7 (x8 A.1 35) (some (x8 A.1 35)) (l7 (x8 A.1 36) (some (x8 A.1 36)) (l7 (x8 A.1 37) (some (x8 A.1 37)) (l7 (x8 A.1 38) (some (x8 A.1 38)) (some (x8 A.1 39)))))) λx=>l7 x (o5 (uy A C) λx=>some (.inr x)) (l7 (x8 A.1 14) (l7 (x8 A.1 14) (o5 (pW A.2) λx=>l7 (D9 x) (some (.inr ((0,0),3))) (some (.inl (0,0)))) (some (.inl (0,0)))) (l7 (x8 A.1 15) (l7 (x8 A.1 15) (o5 (pW A.2) λx=>l7 (D9 x) (some (.inr ((0,0),3))) (some (.inl (0,0)))) (some (.inl (0,0)))) (l7 (x8 A.1 16) (o5 (pW A.2) λx=>l7 (D9 x) (some (.inr ((0,0),3))) (some (.inl (0,0)))) (some (.inl (0,0))))))))))))))))) λo=>X9 o (λ(x:ak)=>o5 (qP A.1 B) λx=>l7 (D9 x.2) (some ((0,0),8)) (some (x.1,0))) λr=>some r
def c5c:FQ:=⟨[tD y2,uD y12,tD y73],⟨[(.cell 6 73,tD y2),(.tmp 7,Y5)],[]⟩,mE 125 [(199,c7b),(200,c7c),(201,c1R),(202,c7d),(203,c7e),(204,c1S),(205,c7f)],sN 1 (iq (jnR [(6,8),(10,114),(4000384,4000385)] ⟨[(6,(false,(.box (dT y2))))],[]⟩ (sN 1 (lK (sN 1 (.cond P9 (sN 1 (.cond P9 (sN 1 (.cond P9 (sN 1 (.cond P9 (sN 1 (.cond P9 (sN 1 (.cond P9 (sN 1 (.cond P9 (sN 1 (.cond P9 (sN 1 (.cond P9 (iq (.join [(83,86)] ⟨[(83,ny)],[]⟩ P9) (.cond P9 (iq (.join [(94,100)] ⟨[(94,ny)],[]⟩ P9) P9)))))))))))))))))))))))) P9)⟩
def c6W:FSpec:=fU c5c λx=>dN x.1 x.2.1 x.2.2
def JR(A:List ak)(B:J5):Option (ak×ak):=o5 (zi A) λx=>l7 (D9 (x8 x.2.2 0)) (some ((0,0),x.2)) (o5 (V7 (λ(x:ak×List ak×Int)=>l7 (E9 x.2.2 (o9 A)) (o5 (F9 A x.2.2) λc=>l7 (D9 (x8 c.2 0)) (o5 (lX c.1) λd=>l7 (D9 d) (some (.rt ((0,0),x.2.2,2))) (o5 (qN c.1) λb=>l7 (qp (J3 .i64 (o9 x.2.1) b) (o9 x.2.1) (o9 x.2.1)) (o5 (dN c (qh x.2.1 (U6 (J3 .i64 (o9 x.2.1) b)) (U6 (o9 x.2.1))) B) λf=>l7 (D9 (x8 f.2 0)) (some (.rt ((0,0),x.2.2,f.2))) (l7 (qp 0 (J3 .i64 (o9 x.2.1) b) (o9 x.2.1)) (o5 (di (qh x.2.1 (U6 0) (U6 (J3 .i64 (o9 x.2.1) b))) [f.1]) λg=>some (.nx (x.1,g,A7 .i64 x.2.2 1))) none)) none)) (o5 (qN c.1) λd=>l7 (qp (J3 .i64 (o9 x.2.1) d) (o9 x.2.1) (o9 x.2.1)) (o5 (dN c (qh x.2.1 (U6 (J3 .i64 (o9 x.2.1) d)) (U6 (o9 x.2.1))) B) λb=>l7 (D9 (x8 b.2 0)) (some (.rt ((0,0),x.2.2,b.2))) (l7 (qp 0 (J3 .i64 (o9 x.2.1) d) (o9 x.2.1)) (o5 (di (qh x.2.1 (U6 0) (U6 (J3 .i64 (o9 x.2.1) d))) [b.1]) λf=>some (.nx (x.1,f,A7 .i64 x.2.2 1))) none)) none)) (some (.ex (x.1,x.2.1)))) ((0,0),[],0)) λo=>X9 o (λ(y:ak×List ak)=>o5 (F9 y.2 0) λx=>o5 (O8 y.2 (U6 0)) λx=>some (x,0,0)) λr=>some r)
def c4R:FQ:=⟨[uD y12,tD y73],⟨[(.cell 4 73,tD y2),(.tmp 5,Y5),(.tmp 6,Y5)],[]⟩,mE 75 [(177,c1O),(178,c1P),(179,b2Z),(180,c6W)],sN 4 (iq (sN 1 (lK (lpR [(4,7),(10,16),(29,72),(4000256,4000257)] ⟨[(4,(false,(.box (dT y2)))),(10,(uO y2)),(29,Y5)],[]⟩ 0 ⟨[(4,(false,(.box (dT y2)))),(10,(uO y2))],[]⟩ P9))) P9)⟩
def c6P:FSpec:=fU c4R λx=>JR x.1 x.2
def yx(A:List ak)(B:J5)(C:ak):c9o:=o5 (JR A B) λx=>l7 (D9 (x8 x.2.2 0)) (some x.2.2) (l7 (D9 (V9 (x8 x.1.1 C.1) (x8 x.1.2 C.2))) (some 8) (some 0))
def c4F:FQ:=⟨[uD y12,tD y73,tD y2],tR 6 Y5,mE 23 [(154,c6P)],P9⟩
def c6G:FSpec:=fU c4F λx=>yx x.1 x.2.1 x.2.2
def FK(A:A8)(B:Int)(C:J5):c9o:=o5 (F9 A.2.2.2.2 B) λx=>o5 (Gl A.2.2.2.2 0 B) λf=>o5 (ay (λ(b:ak)=>l7 (E9 b.2 (o9 f)) (o5 (F9 f b.2) λc=>l7 (x8 c.2.1 x.2.1) (some (.inl (A7 .i64 b.1 1,A7 .i64 b.2 1))) (some (.inl (b.1,A7 .i64 b.2 1)))) (some (.inr b.1))) (0,0)) λy=>o5 (o5 (jy x.1) λb=>l7 (D9 b) (some (.inr 2)) (o5 (Gl A.2.2.2.2 0 B) λc=>o5 (iR c x) λg=>l7 g (some (.inr 7)) (o5 (l7 (E9 x.2.1 0) (some true) (some (N7 (o9 A.2.2.2.1) x.2.1))) λi=>l7 i (some (.inr 6)) (o5 (l7 (D9 (x8 x.2.2.1 (-1))) (l7 (E9 x.2.2.1 0) (some true) (l7 (N7 B x.2.2.1) (some true) (o5 (F9 A.2.2.2.2 x.2.2.1) λd=>some (D9 (x8 d.2.1 x.2.1))))) (some false)) λd=>l7 d (some (.inr 9)) (o5 (l7 (E9 x.2.2.2.1 0) (some true) (some (E9 9 x.2.2.2.1))) λj=>l7 j (some (.inr 3)) (l7 (E9 x.2.2.2.2.1.1 0) (some (.inr 3)) (l7 (N7 x.2.2.2.2.1.2 x.2.2.2.2.1.1) (some (.inr 3)) (l7 (E9 109573 x.2.2.2.2.1.2) (some (.inr 3)) (l7 (N7 8 y) (some (.inr 4)) (o5 (BG x.2.2.2.2.2.2.2) λk=>l7 (D9 k) (some (.inr 2)) (some (.inl x)))))))))))) λo=>X9 o (λ(x:V8)=>l7 (E9 0 (o9 x.2.2.2.2.2.1)) (o5 (yx x.2.2.2.2.2.1 C (1,0)) λb=>l7 (D9 (x8 b 0)) (some b) (o5 (F9 A.2.2.2.1 x.2.1) λc=>o5 (yx x.2.2.2.2.2.2.1 C c.2) λx=>some x)) (o5 (F9 A.2.2.2.1 x.2.1) λb=>o5 (yx x.2.2.2.2.2.2.1 C b.2) λx=>some x)) λr=>some r
def c4p:FQ:=⟨[tD y24,Y5,tD y73],tR 6 Y5,mE 145 [(61,s61),(132,a9k),(131,b6F),(133,c6F),(134,c6G)],sN 3 (iq (sN 1 (lK (.loop [(8,9),(10,11),(22,34)] ⟨[(8,Y5),(22,Y5)],[]⟩ 0 ⟨[(8,Y5)],[]⟩ P9))) (iq (jnR [(6,8),(34,122),(7000448,7000449)] ⟨[(7,(false,(.rp y19)))],[]⟩ (lK (sN 1 (.cond P9 (sN 1 (.cond P9 (iq (.join [(46,58)] ⟨[(46,ny)],[]⟩ P9) (.cond P9 (iq (.join [(58,85)] ⟨[(58,ny)],[]⟩ P9) (.cond P9 (iq (.join [(85,94)] ⟨[(85,ny)],[]⟩ P9) P9))))))))))) P9))⟩
def c6t:FSpec:=fU c4p λx=>FK x.1 x.2.1 x.2.2
def c4k:List MG:=[(false,(.ownb (.int .i64)))]
def c1J:FSpec:=⟨c4k,[],[uoM],λx=>IL x⟩
def c4l:List MG:=[uoM]
def c1K:FSpec:=⟨c4l,[uoM],[],λx=>uB x⟩
def yu(A:c9h):Option c9h:=o5 (IL A) λx=>o5 (uB x) λx=>some x
def c4v:FQ:=⟨[uoM],tR 2 uoM,mE 7 [(111,c1J),(112,c1K)],P9⟩
def c6z:FSpec:=fU c4v λx=>yu x
def qO(A:List ak):Option fP:=o5 (ay (λ(x:c9h×c9h×c9h×Int)=>l7 (E9 x.2.2.2 (o9 A)) (o5 (F9 A x.2.2.2) λb=>l7 (x8 b.1 7) (o5 (di x.1 [b.2]) λc=>some (.inl (c,x.2.1,x.2.2.1,A7 .i64 x.2.2.2 1))) (l7 (x8 b.1 8) (o5 (di x.2.1 [b.2]) λc=>some (.inl (x.1,c,x.2.2.1,A7 .i64 x.2.2.2 1))) (l7 (x8 b.1 36) (l7 (x8 b.1 36) (o5 (di x.2.2.1 [b.2]) λc=>some (.inl (x.1,x.2.1,c,A7 .i64 x.2.2.2 1))) (some (.inl (x.1,x.2.1,x.2.2.1,A7 .i64 x.2.2.2 1)))) (l7 (x8 b.1 37) (l7 (x8 b.1 37) (o5 (di x.2.2.1 [b.2]) λc=>some (.inl (x.1,x.2.1,c,A7 .i64 x.2.2.2 1))) (some (.inl (x.1,x.2.1,x.2.2.1,A7 .i64 x.2.2.2 1)))) (l7 (x8 b.1 38) (l7 (x8 b.1 38) (o5 (di x.2.2.1 [b.2]) λc=>some (.inl (x.1,x.2.1,c,A7 .i64 x.2.2.2 1))) (some (.inl (x.1,x.2.1,x.2.2.1,A7 .i64 x.2.2.2 1)))) (l7 (x8 b.1 39) (o5 (di x.2.2.1 [b.2]) λc=>some (.inl (x.1,x.2.1,c,A7 .i64 x.2.2.2 1))) (some (.inl (x.1,x.2.1,x.2.2.1,A7 .i64 x.2.2.2 1))))))))) (some (.inr (x.1,x.2.1,x.2.2.1)))) ([],[],[],0)) λy=>o5 (yu y.1) λx=>o5 (yu y.2.1) λb=>o5 (yu y.2.2) λc=>some (x,b,c)
def q74:FQ:=⟨[uD y12],⟨[(.tmp 2,uoM),(.tmp 3,uoM),(.tmp 4,uoM)],[]⟩,mE 49 [(110,c6z)],sN 2 (iq (sN 1 (lK (.loop [(5,8),(9,10),(12,43)] ⟨[(5,uoM),(6,uoM),(7,uoM),(12,Y5)],[]⟩ 0 ⟨[(5,uoM),(6,uoM),(7,uoM)],[]⟩ P9))) P9)⟩
def s74:FSpec:=fU q74 λx=>qO x
def xy(A:V8)(B:Int):Option c9h:=o5 (qO A.2.2.2.2.2.1) λx=>o5 (qO A.2.2.2.2.2.2.1) λd=>o5 (ay (λ(b:c9h×Int)=>l7 (E9 b.2 (o9 x.2.1)) (o5 (F9 x.2.1 b.2) λc=>o5 (O8 x.2.1 (U6 b.2)) λx=>l7 (N7 0 x) (l7 (E9 x B) (o5 (di b.1 [x]) λx=>some (.inl (x,A7 .i64 b.2 1))) (some (.inl (b.1,A7 .i64 b.2 1)))) (some (.inl (b.1,A7 .i64 b.2 1)))) (some (.inr b.1))) ([],0)) λy=>o5 (ay (λ(x:c9h×Int)=>l7 (E9 x.2 (o9 d.2.1)) (o5 (F9 d.2.1 x.2) λb=>o5 (O8 d.2.1 (U6 x.2)) λc=>l7 (N7 0 c) (l7 (E9 c B) (o5 (di x.1 [c]) λf=>some (.inl (f,A7 .i64 x.2 1))) (some (.inl (x.1,A7 .i64 x.2 1)))) (some (.inl (x.1,A7 .i64 x.2 1)))) (some (.inr x.1))) (y,0)) λy=>some y
def c4u:FQ:=⟨[tD y19,Y5],tR 4 uoM,mE 67 [(74,s74)],sN 4 (iq (sN 1 (lK (.loop [(5,6),(13,14),(32,48)] ⟨[(5,uoM),(32,Y5)],[]⟩ 0 ⟨[(5,uoM)],[]⟩ P9))) (iq (sN 1 (lK (.loop [(5,6),(15,16),(50,66),(21000000,21000001)] ⟨[(5,uoM),(50,Y5)],[]⟩ 2 ⟨[(5,uoM)],[]⟩ P9))) P9))⟩
def c6y:FSpec:=fU c4u λx=>xy x.1 x.2
def Dv(A:c9h):Option c9h:=o5 (IL A) λx=>o5 (uB x) λx=>some x
def q75:FQ:=⟨[uoM],tR 2 uoM,mE 7 [(111,c1J),(112,c1K)],P9⟩
def s75:FSpec:=fU q75 λx=>Dv x
def wI(A:A8):Option (List c9h):=o5 (qU (o9 A.2.2.2.1) []) λx=>o5 (ay (λ(x:List c9h×Int)=>l7 (E9 x.2 (o9 A.2.2.2.2)) (o5 (F9 A.2.2.2.2 x.2) λb=>l7 (N7 0 b.2.1) (l7 (E9 b.2.1 (o9 x.1)) (l7 (inb b.2.1 (o9 x.1)) (o5 (O8 x.1 (U6 b.2.1)) λc=>o5 (xy b (o9 x.1)) λd=>o5 (di c d) λf=>l7 (inb b.2.1 (o9 x.1)) (l7 (TU (U6 b.2.1) (U6 b.2.1)) (o5 (O8 x.1 (U6 b.2.1)) λg=>some (.inl (bu x.1 (U6 b.2.1) f,A7 .i64 x.2 1))) none) none) none) (some (.inl (x.1,A7 .i64 x.2 1)))) (some (.inl (x.1,A7 .i64 x.2 1)))) (some (.inr x.1))) (x,0)) λy=>o5 (ay (λ(x:List c9h×Int)=>l7 (E9 x.2 (o9 y)) (l7 (inb x.2 (o9 x.1)) (o5 (O8 x.1 (U6 x.2)) λb=>o5 (Dv b) λc=>l7 (inb x.2 (o9 x.1)) (l7 (TU (U6 x.2) (U6 x.2)) (o5 (O8 x.1 (U6 x.2)) λd=>some (.inl (bu x.1 (U6 x.2) c,A7 .i64 x.2 1))) none) none) none) (some (.inr x.1))) (y,0)) λy=>some y
def q73:FQ:=⟨[tD y24],tR 2 (uD y64),⟨58,eqs,tt,gl,[(109,c6y),(75,s75)],[(171,oiM)],[7,36,50,53],[],[],[]⟩,sN 2 (iq (sN 1 (lK (.loop [(3,4),(5,6),(15,44),(7000704,7000705)] ⟨[(3,(false,(.owns oiM))),(15,Y5)],[]⟩ 0 ⟨[(3,(false,(.owns oiM)))],[]⟩ P9))) (iq (sN 1 (lK (.loop [(3,4),(6,8),(44,45),(46,57),(15000000,15000001)] ⟨[(3,(false,(.owns oiM))),(46,Y5)],[(44,3)]⟩ 2 ⟨[(3,(false,(.owns oiM)))],[]⟩ P9))) P9))⟩
def s73:FSpec:=fU q73 λx=>wI x
def Ac(A:List c9h)(B:Int):Option c9h:=o5 (qU (o9 A) false) λx=>o5 (ay (λ(x:c9s×c9h)=>l7 (E9 0 (o9 x.2)) (o5 (F9 x.2 0) λf=>o5 (O8 x.2 (U6 0)) λd=>l7 (qp 1 (o9 x.2) (o9 x.2)) (o5 (F9 A d) λc=>o5 (ay (λ(x:c9s×c9h×Int)=>l7 (E9 x.2.2 (o9 c)) (o5 (F9 c x.2.2) λb=>o5 (F9 x.1 b) λj=>o5 (O8 x.1 (U6 b)) λg=>l7 (D9 g) (o5 (F9 x.1 b) λk=>o5 (O8 x.1 (U6 b)) λn=>o5 (di x.2.1 [b]) λi=>some (.inl (bu x.1 (U6 b) true,i,A7 .i64 x.2.2 1))) (some (.inl (x.1,x.2.1,A7 .i64 x.2.2 1)))) (some (.inr (x.1,x.2.1)))) (x.1,qh x.2 (U6 1) (U6 (o9 x.2)),0)) λy=>some (.inl y)) none) (some (.inr x.1))) (x,[B])) λy=>o5 (ay (λ(x:c9h×Int)=>l7 (E9 x.2 (o9 y)) (o5 (F9 y x.2) λf=>o5 (O8 y (U6 x.2)) λd=>l7 d (o5 (di x.1 [x.2]) λc=>some (.inl (c,A7 .i64 x.2 1))) (some (.inl (x.1,A7 .i64 x.2 1)))) (some (.inr x.1))) ([],0)) λy=>some y
def q72:FQ:=⟨[uD y64,Y5],tR 4 uoM,mE 62 [],sN 3 (iq (lK (.loop [(5,8),(9,10),(18,48),(7000960,7000961),(10001088,10001089)] ⟨[(5,(uO .bool)),(6,uoM)],[]⟩ 0 ⟨[(5,(uO .bool))],[]⟩ (sN 1 (lK (sN 3 (lK (.loop [(5,7),(9,10),(31,48),(14000000,14000002)] ⟨[(5,(uO .bool)),(6,uoM),(31,Y5)],[]⟩ 2 ⟨[(5,(uO .bool)),(6,uoM)],[]⟩ P9))))))) (sN 1 (iq (sN 1 (lK (.loop [(10,13),(50,61)] ⟨[(10,uoM),(50,Y5)],[]⟩ 4 ⟨[(10,uoM)],[]⟩ P9))) P9)))⟩
def s72:FSpec:=fU q72 λx=>Ac x.1 x.2
def nZ(A:A8)(B:Int):Option c9h:=l7 (E9 B 0) (some []) (l7 (N7 (o9 A.2.2.2.1) B) (some []) (o5 (wI A) λx=>o5 (Ac x B) λx=>some x))
def q45:FQ:=⟨[tD y24,Y5],tR 4 uoM,mE 18 [(73,s73),(72,s72)],P9⟩
def s45:FSpec:=fU q45 λx=>nZ x.1 x.2
def zY(A:c9h)(B:Int):c9o:=o5 (V7 (λ(x:Int)=>l7 (E9 x (o9 A)) (o5 (F9 A x) λb=>l7 (x8 B b) (some (.rt x)) (some (.nx (A7 .i64 x 1)))) (some (.ex ()))) 0) λo=>X9 o (λy=>some (-1)) λr=>some r
def c4G:FQ:=⟨[uD y46,Y5],tR 4 Y5,mE 19 [],sN 1 (iq (sN 1 (lK (lpR [(4,6),(8,19)] ⟨[(8,Y5)],[]⟩ 0 sgN P9))) P9)⟩
def c6H:FSpec:=fU c4G λx=>zY x.1 x.2
def qJ(A:c9h)(B:Int):c9n:=o5 (zY A B) λx=>some (N7 0 x)
def c4q:FQ:=⟨[uD y46,Y5],tR 4 ny,mE 9 [(135,c6H)],P9⟩
def c6u:FSpec:=fU c4q λx=>qJ x.1 x.2
def DK(A:S9)(B:Int):Option ak:=o5 (F9 A.2.2 B) λx=>o5 (Gl A.2.2 0 B) λf=>o5 (o5 (CS A.1 x.1) λd=>l7 d (some (x,true)) (o5 (DL A.2.1 x.1) λb=>l7 b (some (x,true)) (o5 (iC f x) λc=>some (x,c)))) λx=>o5 (o5 (jy x.1.1) λd=>l7 (D9 d) (some (.inr (2,0))) (l7 x.2 (some (.inr (7,0))) (o5 (l7 (D9 (x8 x.1.2.1 (-1))) (l7 (E9 x.1.2.1 0) (some true) (l7 (N7 B x.1.2.1) (some true) (o5 (F9 f x.1.2.1) λx=>some (D9 (x8 x.2.1 (-1)))))) (some false)) λb=>l7 b (some (.inr (6,0))) (l7 (E9 12 (o9 x.1.2.2.1)) (some (.inr (4,112))) (l7 (E9 12 (o9 x.1.2.2.2.1)) (some (.inr (4,212))) (some (.inl ()))))))) λo=>X9 o (λd=>o5 (V7 (λ(b:Int)=>l7 (E9 b (o9 x.1.2.2.1)) (o5 (F9 x.1.2.2.1 b) λc=>o5 (Gl x.1.2.2.1 0 b) λx=>o5 (zl A c x []) λx=>l7 (D9 (x8 x 0)) (some (.rt (x,A7 .i64 100 b))) (some (.nx (A7 .i64 b 1)))) (some (.ex ()))) 0) λo=>X9 o (λy=>o5 (V7 (λ(b:Int)=>l7 (E9 b (o9 x.1.2.2.2.1)) (o5 (F9 x.1.2.2.2.1 b) λc=>o5 (Gl x.1.2.2.2.1 0 b) λg=>o5 (zl A c x.1.2.2.1 g) λx=>l7 (D9 (x8 x 0)) (some (.rt (x,A7 .i64 200 b))) (some (.nx (A7 .i64 b 1)))) (some (.ex ()))) 0) λo=>X9 o (λy=>o5 (ru A B) λb=>o5 (V7 (λ(c:Int)=>l7 (E9 c (o9 x.1.2.2.2.2)) (o5 (FK x.1 c b) λx=>l7 (D9 (x8 x 0)) (some (.rt (x,A7 .i64 300 c))) (some (.nx (A7 .i64 c 1)))) (some (.ex ()))) 0) λo=>X9 o (λy=>o5 (V7 (λ(c:Int)=>l7 (E9 c (o9 x.1.2.2.2.1)) (o5 (nZ x.1 c) λx=>o5 (qJ x c) λx=>l7 x (some (.rt (9,A7 .i64 200 c))) (some (.nx (A7 .i64 c 1)))) (some (.ex ()))) 0) λo=>X9 o (λy=>some (0,0)) λr=>some r) λr=>some r) λr=>some r) λr=>some r) λr=>some r
def q64:FQ:=⟨[tD y27,Y5],⟨[(.tmp 4,Y5),(.tmp 5,Y5)],[]⟩,mE 163 [(62,s62),(63,s63),(101,a9i),(100,b6y),(61,s61),(102,c6r),(103,c6s),(104,c6t),(45,s45),(105,c6u)],sN 3 (iq (.join [(6,7),(8,9),(28,45),(7000384,7000385)] ⟨[(6,(false,(.rp y24))),(8,ny)],[]⟩ P9) (iq (jnR [(4,6),(45,86)] sgN (lK (sN 1 (.cond P9 (sN 1 (.cond P9 (iq (.join [(52,76)] ⟨[(52,ny)],[]⟩ P9) P9))))))) (iq (sN 1 (lK (lpR [(4,6),(9,12),(89,107)] ⟨[(89,Y5)],[]⟩ 1 sgN P9))) (iq (sN 1 (lK (lpR [(4,6),(12,15),(110,130)] ⟨[(110,Y5)],[]⟩ 3 sgN P9))) (sN 1 (iq (sN 1 (lK (lpR [(4,6),(16,18),(136,149)] ⟨[(136,Y5)],[]⟩ 5 sgN P9))) (iq (sN 1 (lK (lpR [(4,6),(18,19),(152,163)] ⟨[(152,Y5)],[]⟩ 7 sgN P9))) P9)))))))⟩
def s64:FSpec:=fU q64 λx=>DK x.1 x.2
def BD(A:S9):Option jv:=l7 (E9 4 (o9 A.2.2)) (some (4,3,4,0)) (o5 (V7 (λ(x:jv×Int)=>l7 (E9 x.2 (o9 A.2.2)) (o5 (DK A x.2) λb=>l7 (D9 (x8 b.1 0)) (some (.rt (b.1,3,x.2,b.2))) (some (.nx (x.1,A7 .i64 x.2 1)))) (some (.ex x.1))) ((0,0,0,0),0)) λo=>X9 o (λ(y:jv)=>some (0,0,0,0)) λr=>some r)
def q36:FQ:=⟨[tD y27],cR 2 93 (tD y42),mE 31 [(64,s64)],sN 2 (iq (sN 1 (lK (lpR [(2,6),(14,30),(4000128,4000129)] ⟨[(2,(false,(.box (dT y42)))),(14,Y5)],[]⟩ 0 ⟨[(2,(false,(.box (dT y42))))],[]⟩ P9))) P9)⟩
def s36:FSpec:=fU q36 λx=>BD x
def Ai(A:S9):Option jv:=o5 (DJ A) λx=>l7 (D9 (x8 x.1 0)) (some x) (o5 (BF A) λx=>l7 (D9 (x8 x.1 0)) (some x) (o5 (BD A) λx=>some x))
def q22:FQ:=⟨[tD y27],cR 2 93 (tD y42),mE 19 [(34,s34),(35,s35),(36,s36)],P9⟩
def s22:FSpec:=fU q22 λx=>Ai x
def nU(A:List c9i)(B:List c9i):c9n:=l7 (D9 (x8 (o9 A) (o9 B))) (some false) (o5 (V7 (λ(x:Int)=>l7 (E9 x (o9 A)) (o5 (F9 A x) λb=>o5 (F9 B x) λc=>l7 (D9 (seq b c)) (some (.rt false)) (some (.nx (A7 .i64 x 1)))) (some (.ex ()))) 0) λo=>X9 o (λy=>some true) λr=>some r)
def q65:FQ:=⟨[uD (.sl .str),(uD (.sl .str))],tR 4 ny,mE 26 [],sN 2 (iq (sN 1 (lK (lpR [(4,6),(13,26)] ⟨[(13,Y5)],[]⟩ 0 sgN P9))) P9)⟩
def s65:FSpec:=fU q65 λx=>nU x.1 x.2
def Aj(A:dB)(B:dB):c9n:=l7 (seq A.1 B.1) (o5 (nU A.2 B.2) λx=>some x) (some false)
def q38:FQ:=⟨[tD y0,tD y0],tR 4 ny,mE 17 [(65,s65)],P9⟩
def s38:FSpec:=fU q38 λx=>Aj x.1 x.2
def bW(A:List dB)(B:List dB)(C:Unit):c9n:=l7 (D9 (x8 (o9 A) (o9 B))) (some false) (o5 (V7 (λ(x:Int)=>l7 (E9 x (o9 A)) (o5 (F9 A x) λb=>o5 (F9 B x) λc=>o5 (Aj b c) λd=>l7 (D9 d) (some (.rt false)) (some (.nx (A7 .i64 x 1)))) (some (.ex ()))) 0) λo=>X9 o (λy=>some true) λr=>some r)
def c0e:FQ:=⟨[uD y1,uD y1,(false,(.fn 38 []))],tR 6 ny,mE 32 [(38,s38)],sN 2 (iq (sN 1 (lK (lpR [(6,10),(17,32)] ⟨[(17,Y5)],[]⟩ 0 sgN P9))) P9)⟩
def c0r:FSpec:=fU c0e λx=>bW x.1 x.2.1 x.2.2
def lW(A:List rF)(B:List rF):c9n:=l7 (D9 (x8 (o9 A) (o9 B))) (some false) (o5 (V7 (λ(x:Int)=>l7 (E9 x (o9 A)) (o5 (F9 A x) λb=>o5 (F9 B x) λc=>l7 (D9 (V9 (x8 b.1.1 c.1.1) (V9 (x8 b.1.2 c.1.2) (V9 (x8 b.2.1 c.2.1) (V9 (x8 b.2.2.1 c.2.2.1) (x8 b.2.2.2 c.2.2.2)))))) (some (.rt false)) (some (.nx (A7 .i64 x 1)))) (some (.ex ()))) 0) λo=>X9 o (λy=>some true) λr=>some r)
def q66:FQ:=⟨[uD y5,uD y5],tR 4 ny,mE 26 [],sN 2 (iq (sN 1 (lK (lpR [(4,6),(13,26)] ⟨[(13,Y5)],[]⟩ 0 sgN P9))) P9)⟩
def s66:FSpec:=fU q66 λx=>lW x.1 x.2
def yQ(A:bn)(B:bn):c9n:=l7 (seq A.1 B.1) (l7 (V9 (x8 A.2.1.1 B.2.1.1) (x8 A.2.1.2 B.2.1.2)) (l7 (V9 (x8 A.2.2.1.1 B.2.2.1.1) (x8 A.2.2.1.2 B.2.2.1.2)) (o5 (lW A.2.2.2 B.2.2.2) λx=>some x) (some false)) (some false)) (some false)
def q40:FQ:=⟨[tD y8,tD y8],tR 4 ny,mE 31 [(66,s66)],P9⟩
def s40:FSpec:=fU q40 λx=>yQ x.1 x.2
def bi(A:List bn)(B:List bn)(C:Unit):c9n:=l7 (D9 (x8 (o9 A) (o9 B))) (some false) (o5 (V7 (λ(x:Int)=>l7 (E9 x (o9 A)) (o5 (F9 A x) λb=>o5 (F9 B x) λc=>o5 (yQ b c) λd=>l7 (D9 d) (some (.rt false)) (some (.nx (A7 .i64 x 1)))) (some (.ex ()))) 0) λo=>X9 o (λy=>some true) λr=>some r)
def c0f:FQ:=⟨[uD y9,uD y9,(false,(.fn 40 []))],tR 6 ny,mE 32 [(40,s40)],sN 2 (iq (sN 1 (lK (lpR [(6,10),(17,32)] ⟨[(17,Y5)],[]⟩ 0 sgN P9))) P9)⟩
def c0s:FSpec:=fU c0f λx=>bi x.1 x.2.1 x.2.2
def iK(A:List bH)(B:List bH):c9n:=l7 (D9 (x8 (o9 A) (o9 B))) (some false) (o5 (V7 (λ(x:Int)=>l7 (E9 x (o9 A)) (o5 (F9 A x) λb=>o5 (F9 B x) λc=>l7 (D9 (V9 (seq b.1 c.1) (V9 (x8 b.2.1 c.2.1) (x8 b.2.2 c.2.2)))) (some (.rt false)) (some (.nx (A7 .i64 x 1)))) (some (.ex ()))) 0) λo=>X9 o (λy=>some true) λr=>some r)
def q67:FQ:=⟨[uD y11,uD y11],tR 4 ny,mE 26 [],sN 2 (iq (sN 1 (lK (lpR [(4,6),(13,26)] ⟨[(13,Y5)],[]⟩ 0 sgN P9))) P9)⟩
def s67:FSpec:=fU q67 λx=>iK x.1 x.2
def yP(A:A8)(B:A8):c9n:=l7 (seq A.1 B.1) (l7 (x8 A.2.1 B.2.1) (o5 (iK A.2.2.1 B.2.2.1) λx=>l7 x (o5 (iK A.2.2.2.1 B.2.2.2.1) λx=>some x) (some false)) (some false)) (some false)
def q42:FQ:=⟨[tD y24,tD y24],tR 4 ny,mE 31 [(67,s67)],P9⟩
def s42:FSpec:=fU q42 λx=>yP x.1 x.2
def bg(A:List A8)(B:List A8)(C:Unit):c9n:=l7 (D9 (x8 (o9 A) (o9 B))) (some false) (o5 (V7 (λ(x:Int)=>l7 (E9 x (o9 A)) (o5 (F9 A x) λb=>o5 (F9 B x) λc=>o5 (yP b c) λd=>l7 (D9 d) (some (.rt false)) (some (.nx (A7 .i64 x 1)))) (some (.ex ()))) 0) λo=>X9 o (λy=>some true) λr=>some r)
def c0g:FQ:=⟨[uD y25,uD y25,(false,(.fn 42 []))],tR 6 ny,mE 32 [(42,s42)],sN 2 (iq (sN 1 (lK (lpR [(6,10),(17,32)] ⟨[(17,Y5)],[]⟩ 0 sgN P9))) P9)⟩
def c0t:FSpec:=fU c0g λx=>bg x.1 x.2.1 x.2.2
def uk(A:S9)(B:S9):c9n:=o5 (bW A.1 B.1 ()) λx=>l7 x (o5 (bi A.2.1 B.2.1 ()) λx=>l7 x (o5 (bg A.2.2 B.2.2 ()) λx=>some x) (some false)) (some false)
def q23:FQ:=⟨[tD y27,tD y27],tR 4 ny,mE 24 [(37,c0r),(39,c0s),(41,c0t)],P9⟩
def s23:FSpec:=fU q23 λx=>uk x.1 x.2
def pU(A:S9)(B:List D8)(C:List bH):Option ak:=l7 (E9 (o9 B) (o9 C)) (some (o9 B,5)) (l7 (E9 (o9 C) (o9 B)) (some (o9 C,4)) (o5 (V7 (λ(x:Int)=>l7 (E9 x (o9 B)) (o5 (F9 B x) λb=>o5 (F9 C x) λc=>l7 (D9 (x8 b.1 c.2.1)) (some (.rt (x,8))) (l7 (D9 (x8 b.2.1 c.2.2)) (some (.rt (x,8))) (o5 (rY c.2 A.1) λd=>l7 (E9 b.2.2 d.1) (some (.rt (x,3))) (l7 (E9 d.2 b.2.2) (some (.rt (x,3))) (some (.nx (A7 .i64 x 1))))))) (some (.ex ()))) 0) λo=>X9 o (λy=>some (0,0)) λr=>some r))
def c4H:FQ:=⟨[tD y27,uD y29,uD y11],⟨[(.tmp 6,Y5),(.tmp 7,Y5)],[]⟩,mE 71 [(88,s88)],sN 3 (iq (sN 1 (lK (lpR [(6,13),(29,71)] ⟨[(29,Y5)],[]⟩ 0 sgN P9))) P9)⟩
def c6I:FSpec:=fU c4H λx=>pU x.1 x.2.1 x.2.2
def ui(A:S9)(B:Int):Option (List bH×Int):=o5 (F9 A.2.2 B) λx=>l7 (E9 x.2.1 0) (some ([],0)) (l7 (N7 (o9 A.2.2) x.2.1) (some ([],0)) (o5 (F9 A.2.2 x.2.1) λx=>some (x.2.2.1,8)))
def c4I:FQ:=⟨[tD y27,Y5],⟨[(.tmp 4,uD y11),(.tmp 5,Y5)],[]⟩,mE 28 [],P9⟩
def c6J:FSpec:=fU c4I λx=>ui x.1 x.2
def yJ(A:S9)(B:Int)(C:dI):Option D8:=o5 (l7 (E9 B 0) (some (.inr (-1,-1,6))) (l7 (N7 (o9 A.2.2) B) (some (.inr (-1,-1,6))) (some (.inl ())))) λo=>X9 o (λx=>o5 (l7 (E9 C.1 0) (some (.inr (-1,-1,3))) (l7 (E9 109572 C.1) (some (.inr (-1,-1,3))) (some (.inl ())))) λo=>X9 o (λx=>o5 (F9 A.2.2 B) λx=>o5 (pU A C.2.1 x.2.2.1) λx=>l7 (D9 (x8 x.2 0)) (some (-1,x)) (o5 (ui A B) λx=>l7 (E9 x.2 (o9 C.2.2)) (some (x.2,-1,4)) (o5 (V7 (λ(b:Int)=>l7 (E9 b (o9 C.2.2)) (o5 (F9 C.2.2 b) λc=>o5 (pU A c x.1) λx=>l7 (D9 (x8 x.2 0)) (some (.rt (b,x))) (some (.nx (A7 .i64 b 1)))) (some (.ex ()))) 0) λo=>X9 o (λy=>some (0,0,0)) λr=>some r))) λr=>some r) λr=>some r
def c4r:FQ:=⟨[tD y27,Y5,tD y32],⟨[(.tmp 6,Y5),(.tmp 7,Y5),(.tmp 8,Y5)],[]⟩,mE 84 [(136,c6I),(137,c6J)],sN 1 (iq (jnR [(6,9),(17,26)] sgN P9) (iq (jnR [(6,9),(26,34)] sgN P9) (sN 3 (iq (sN 1 (lK (lpR [(6,9),(13,17),(66,84)] ⟨[(66,Y5)],[]⟩ 0 sgN P9))) P9))))⟩
def c6v:FSpec:=fU c4r λx=>yJ x.1 x.2.1 x.2.2
def uj(A:S9)(B:Int)(C:dI)(D:Bool)(E:Int):Option jv:=o5 (Ai A) λx=>l7 (D9 (x8 x.1 0)) (some (1,-1,-1,-1)) (o5 (l7 (E9 B 0) (some (.inr (6,-1,-1,-1))) (l7 (N7 (o9 A.2.2) B) (some (.inr (6,-1,-1,-1))) (l7 D (l7 (E9 E 0) (some (.inr (6,-1,-1,-1))) (o5 (F9 A.2.2 B) λx=>l7 (N7 (o9 x.2.2.2.1) E) (some (.inr (6,-1,-1,-1))) (some (.inl (0,0,0,0))))) (some (.inl (0,0,0,0)))))) λo=>X9 o (λ(x:jv)=>o5 (yJ A B C) λx=>l7 (D9 (x8 x.2.2 0)) (some (x.2.2,x.1,-1,-1)) (some (0,0,0,0))) λr=>some r)
def q68:FQ:=⟨[tD y27,Y5,tD y32,ny,Y5],cR 10 118 (tD y42),mE 63 [(22,s22),(106,c6v)],sN 2 (iq (jnR [(10,11),(21,49),(4000640,4000641)] ⟨[(10,(false,(.box (dT y42))))],[]⟩ P9) P9)⟩
def s68:FSpec:=fU q68 λx=>uj x.1 x.2.1 x.2.2.1 x.2.2.2.1 x.2.2.2.2
def BB(A:S9)(B:Int):Option dM:=o5 (F9 A.2.2 B) λx=>o5 (qU (o9 x.2.2.2.1) false) λb=>l7 (N7 0 x.2.1) (o5 (F9 A.2.2 x.2.1) λc=>o5 (qU (o9 c.2.2.2.1) false) λd=>some (x,c,b,d)) (some (x,([],0,[],[],[]),b,[]))
def q69:FQ:=⟨[tD y27,Y5],⟨[(.tmp 4,(false,(.box (pA (dT y24) (pA (dT y24) (pA (oW .bool) (oW .bool)))))))],[]⟩,mE 52 [],P9⟩
def s69:FSpec:=fU q69 λx=>BB x.1 x.2
def xX(A:A8)(B:Int):Option c9h:=o5 (l7 (E9 B 0) (some (.inr [])) (l7 (N7 (o9 A.2.2.2.1) B) (some (.inr [])) (some (.inl ())))) λo=>X9 o (λx=>o5 (qU (o9 A.2.2.2.1) false) λx=>o5 (F9 x B) λp=>o5 (O8 x (U6 B)) λq=>o5 (wI A) λk=>o5 (Ac k B) λd=>o5 (ay (λ(x:c9s×Int)=>l7 (E9 x.2 (o9 d)) (o5 (F9 d x.2) λb=>o5 (O8 d (U6 x.2)) λc=>o5 (F9 x.1 c) λf=>o5 (O8 x.1 (U6 c)) λg=>some (.inl (bu x.1 (U6 c) true,A7 .i64 x.2 1))) (some (.inr x.1))) (bu x (U6 B) true,0)) λy=>o5 (ay (λ(x:c9h×Int)=>l7 (E9 x.2 (o9 A.2.2.2.2)) (o5 (F9 A.2.2.2.2 x.2) λb=>l7 (E9 b.2.1 0) (some (.inl (x.1,A7 .i64 x.2 1))) (l7 (N7 (o9 A.2.2.2.1) b.2.1) (some (.inl (x.1,A7 .i64 x.2 1))) (o5 (F9 y b.2.1) λc=>o5 (O8 y (U6 b.2.1)) λf=>l7 (D9 f) (some (.inl (x.1,A7 .i64 x.2 1))) (o5 (qO b.2.2.2.2.2.1) λg=>o5 (qO b.2.2.2.2.2.2.1) λn=>o5 (di x.1 g.2.2) λi=>o5 (di i n.2.2) λj=>some (.inl (j,A7 .i64 x.2 1)))))) (some (.inr x.1))) ([],0)) λy=>o5 (Dv y) λx=>some x) λr=>some r
def q46:FQ:=⟨[tD y24,Y5],tR 4 uoM,mE 95 [(73,s73),(72,s72),(74,s74),(75,s75)],sN 1 (iq (jnR [(4,5),(17,26)] sgN P9) (sN 2 (iq (sN 1 (lK (.loop [(5,6),(7,8),(38,46),(17001856,17001857)] ⟨[(5,(uO .bool)),(38,Y5)],[]⟩ 0 ⟨[(5,(uO .bool))],[]⟩ P9))) (sN 1 (iq (sN 1 (lK (.loop [(8,9),(10,17),(49,93)] ⟨[(8,uoM),(49,Y5)],[]⟩ 2 ⟨[(8,uoM)],[]⟩ P9))) P9)))))⟩
def s46:FSpec:=fU q46 λx=>xX x.1 x.2
def oz(A:dM)(B:Int):Option dM:=o5 (F9 A.2.2.2 B) λx=>o5 (O8 A.2.2.2 (U6 B)) λx=>o5 (nZ A.2.1 B) λx=>o5 (ay (λ(b:dM×Int)=>l7 (E9 b.2 (o9 x)) (o5 (F9 x b.2) λc=>o5 (O8 x (U6 b.2)) λx=>o5 (F9 b.1.2.2.2 x) λd=>o5 (O8 b.1.2.2.2 (U6 x)) λf=>some (.inl ((b.1.1,b.1.2.1,b.1.2.2.1,bu b.1.2.2.2 (U6 x) true),A7 .i64 b.2 1))) (some (.inr b.1))) ((A.1,A.2.1,A.2.2.1,bu A.2.2.2 (U6 B) true),0)) λy=>some y
def c4s:FQ:=⟨[(false,(.box (pA (dT y24) (pA (dT y24) (pA (oW .bool) (oW .bool)))))),Y5],⟨[],[(0,(true,(pA (dT y24) (pA (dT y24) (pA (oW .bool) (oW .bool))))))]⟩,⟨30,eqs,tt,gl,[(45,s45)],[],[],[],[0],[]⟩,sN 2 (lK (.loop [(0,1),(5,6),(19,30),(1000000,1000003)] ⟨[(0,(false,(.box (pA (dT y24) (pA (dT y24) (pA (oW .bool) (oW .bool))))))),(19,Y5)],[]⟩ 0 ⟨[(0,(false,(.box (pA (dT y24) (pA (dT y24) (pA (oW .bool) (oW .bool)))))))],[]⟩ P9))⟩
def c6w:FSpec:=fU c4s λx=>oz x.1 x.2
def ww(A:dM)(B:Int):Option dM:=o5 (F9 A.2.2.1 B) λx=>o5 (O8 A.2.2.1 (U6 B)) λx=>o5 (nZ A.1 B) λx=>o5 (ay (λ(b:dM×Int)=>l7 (E9 b.2 (o9 x)) (o5 (F9 x b.2) λc=>o5 (O8 x (U6 b.2)) λx=>o5 (F9 b.1.2.2.1 x) λd=>o5 (O8 b.1.2.2.1 (U6 x)) λf=>some (.inl ((b.1.1,b.1.2.1,bu b.1.2.2.1 (U6 x) true,b.1.2.2.2),A7 .i64 b.2 1))) (some (.inr b.1))) ((A.1,A.2.1,bu A.2.2.1 (U6 B) true,A.2.2.2),0)) λy=>o5 (xX y.1 B) λx=>o5 (ay (λ(b:dM×Int)=>l7 (E9 b.2 (o9 x)) (o5 (F9 x b.2) λc=>o5 (O8 x (U6 b.2)) λx=>o5 (oz b.1 x) λx=>some (.inl (x,A7 .i64 b.2 1))) (some (.inr b.1))) (y,0)) λy=>some y
def q70:FQ:=⟨[(false,(.box (pA (dT y24) (pA (dT y24) (pA (oW .bool) (oW .bool)))))),Y5],⟨[],[(0,(true,(pA (dT y24) (pA (dT y24) (pA (oW .bool) (oW .bool))))))]⟩,⟨47,eqs,tt,gl,[(45,s45),(46,s46),(107,c6w)],[],[],[],[0],[]⟩,sN 1 (iq (sN 1 (lK (.loop [(0,1),(5,6),(21,32),(1000000,1000003)] ⟨[(0,(false,(.box (pA (dT y24) (pA (dT y24) (pA (oW .bool) (oW .bool))))))),(21,Y5)],[]⟩ 0 ⟨[(0,(false,(.box (pA (dT y24) (pA (dT y24) (pA (oW .bool) (oW .bool)))))))],[]⟩ P9))) (sN 1 (lK (.loop [(0,1),(7,8),(39,47),(12000000,12000003)] ⟨[(0,(false,(.box (pA (dT y24) (pA (dT y24) (pA (oW .bool) (oW .bool))))))),(39,Y5)],[]⟩ 2 ⟨[(0,(false,(.box (pA (dT y24) (pA (dT y24) (pA (oW .bool) (oW .bool)))))))],[]⟩ P9))))⟩
def s70:FSpec:=fU q70 λx=>ww x.1 x.2
def Du(A:c9h)(B:Int):Option c9h:=o5 (di A [B]) λx=>some x
def b6b:FQ:=⟨[(false,(.box oiM)),(false,(.ifc 3 diM))],⟨[],[(0,(true,oiM))]⟩,⟨20,eqs,tt,gl,[],[],[],[],[0],[]⟩,P9⟩
def b6O:FSpec:=fU b6b λx=>Du x.1 x.2
def mD(A:c9h):c9o:=some (o9 A)
def c4S:FQ:=⟨[uD y46],tR 2 Y5,mE 5 [],P9⟩
def b9q:FSpec:=fU c4S λx=>mD x
def fH(A:c9h)(B:Int)(C:Int):c9n:=o5 (F9 A B) λx=>o5 (F9 A C) λb=>some (E9 x b)
def c6l:FQ:=⟨[uD y46,Y5,Y5],tR 6 ny,mE 16 [],P9⟩
def c2e:FSpec:=fU c6l λx=>fH x.1 x.2.1 x.2.2
def gK(A:c9h)(B:Int)(C:Int):Option c9h:=o5 (F9 A C) λx=>o5 (O8 A (U6 C)) λx=>o5 (F9 A B) λc=>o5 (O8 A (U6 B)) λb=>o5 (F9 A B) λd=>o5 (O8 A (U6 B)) λf=>o5 (F9 (bu A (U6 B) x) C) λg=>o5 (O8 (bu A (U6 B) x) (U6 C)) λi=>some (bu (bu A (U6 B) x) (U6 C) b)
def c6n:FQ:=⟨[(false,(.ownb (.int .i64))),Y5,Y5],⟨[],[(0,uoM)]⟩,⟨20,eqs,tt,gl,[],[],[],[],[0],[]⟩,P9⟩
def b9v:FSpec:=fU c6n λx=>gK x.1 x.2.1 x.2.2
def yK(A:c9h)(B:Int):Option c9h:=o5 (ay (λ(x:c9h×Int)=>l7 (x8 (dV .i64 (J3 .i64 x.2 1) 2) x.2) (some (.inr x.1)) (o5 (fH x.1 x.2 (dV .i64 (J3 .i64 x.2 1) 2)) λb=>l7 (D9 b) (some (.inr x.1)) (o5 (gK x.1 (dV .i64 (J3 .i64 x.2 1) 2) x.2) λc=>some (.inl (c,dV .i64 (J3 .i64 x.2 1) 2))))) (A,B)) λy=>some y
def b5W:FQ:=⟨[(false,(.ifc 268 (.box oiM))),Y5],⟨[],[(0,(true,oiM))]⟩,⟨23,eqs,tt,gl,[(276,c2e),(279,b9v)],[],[],[((268,"Less"),276,some 269),((268,"Swap"),279,some 269)],[0],[]⟩,lK (.loop [(0,2),(4,23),(1000000,1000002)] ⟨[(0,(false,(.ifc 268 (.box oiM)))),(1,Y5)],[]⟩ 0 ⟨[(0,(false,(.ifc 268 (.box oiM))))],[]⟩ P9)⟩
def b6K:FSpec:=fU b5W λx=>yK x.1 x.2
def iV(A:c9h)(B:Int):Option c9h:=o5 (Du A B) λx=>o5 (mD x) λb=>o5 (yK x (J3 .i64 b 1)) λx=>some x
def b5U:FQ:=⟨[(false,(.ifc 268 (.box oiM))),(false,(.ifc 3 diM))],⟨[],[(0,(true,oiM))]⟩,⟨12,eqs,tt,gl,[(278,b6O),(156,b9q),(181,b6K)],[],[],[((268,"Len"),156,some 269),((268,"Push"),278,none)],[0],[]⟩,P9⟩
def b6I:FSpec:=fU b5U λx=>iV x.1 x.2
def vY(A:c9h)(B:Int)(C:Int):Option (Bool×c9h):=o5 (ay (λ(x:c9h×Int)=>l7 (N7 C (A7 .i64 (aA .i64 2 x.2) 1)) (some (.inr x)) (l7 (E9 (A7 .i64 (aA .i64 2 x.2) 1) 0) (some (.inr x)) (l7 (E9 (A7 .i64 (A7 .i64 (aA .i64 2 x.2) 1) 1) C) (o5 (fH x.1 (A7 .i64 (A7 .i64 (aA .i64 2 x.2) 1) 1) (A7 .i64 (aA .i64 2 x.2) 1)) λc=>l7 c (o5 (fH x.1 (A7 .i64 (A7 .i64 (aA .i64 2 x.2) 1) 1) x.2) λb=>l7 (D9 b) (some (.inr x)) (o5 (gK x.1 x.2 (A7 .i64 (A7 .i64 (aA .i64 2 x.2) 1) 1)) λd=>some (.inl (d,A7 .i64 (A7 .i64 (aA .i64 2 x.2) 1) 1)))) (o5 (fH x.1 (A7 .i64 (aA .i64 2 x.2) 1) x.2) λb=>l7 (D9 b) (some (.inr x)) (o5 (gK x.1 x.2 (A7 .i64 (aA .i64 2 x.2) 1)) λd=>some (.inl (d,A7 .i64 (aA .i64 2 x.2) 1))))) (o5 (fH x.1 (A7 .i64 (aA .i64 2 x.2) 1) x.2) λc=>l7 (D9 c) (some (.inr x)) (o5 (gK x.1 x.2 (A7 .i64 (aA .i64 2 x.2) 1)) λb=>some (.inl (b,A7 .i64 (aA .i64 2 x.2) 1))))))) (A,B)) λy=>some (E9 B y.2,y.1)
def b5X:FQ:=⟨[(false,(.ifc 268 (.box oiM))),Y5,Y5],⟨[(.tmp 6,ny)],[(0,(true,oiM))]⟩,⟨48,eqs,tt,gl,[(276,c2e),(279,b9v)],[],[],[((268,"Less"),276,some 269),((268,"Swap"),279,some 269)],[0],[]⟩,sN 2 (iq (lK (.loop [(0,1),(7,11),(12,45),(1000000,1000002)] ⟨[(0,(false,(.ifc 268 (.box oiM)))),(7,Y5)],[]⟩ 0 ⟨[(0,(false,(.ifc 268 (.box oiM)))),(7,Y5)],[]⟩ P9)) P9)⟩
def b6L:FSpec:=fU b5X λx=>vY x.1 x.2.1 x.2.2
def EI(A:c9h):Option (Int×c9h):=o5 (F9 A (J3 .i64 (o9 A) 1)) λx=>o5 (O8 A (U6 (J3 .i64 (o9 A) 1))) λx=>l7 (qp 0 (J3 .i64 (o9 A) 1) (o9 A)) (some (x,qh A (U6 0) (U6 (J3 .i64 (o9 A) 1)))) none
def c6m:FQ:=⟨[(false,(.box oiM))],⟨[(.tmp 2,(false,(.ifc 3 diM)))],[(0,(true,oiM))]⟩,⟨23,eqs,tt,gl,[],[],[],[],[0],[]⟩,P9⟩
def c7J:FSpec:=fU c6m λx=>EI x
def sV(A:c9h):Option (Int×c9h):=o5 (mD A) λx=>o5 (gK A 0 (J3 .i64 x 1)) λb=>o5 (vY b 0 (J3 .i64 x 1)) λx=>o5 (EI x.2) λx=>some x
def b5V:FQ:=⟨[(false,(.ifc 268 (.box oiM)))],⟨[(.tmp 2,(false,(.ifc 3 diM)))],[(0,(true,oiM))]⟩,⟨15,eqs,tt,gl,[(156,b9q),(279,b9v),(182,b6L),(277,c7J)],[],[],[((268,"Len"),156,some 269),((268,"Pop"),277,none),((268,"Swap"),279,some 269)],[0],[]⟩,P9⟩
def b6J:FSpec:=fU b5V λx=>sV x
def uF(A:A8):Option (c9h×Int):=o5 (wI A) λx=>o5 (qU (o9 x) []) λk=>o5 (qU (o9 x) 0) λq=>o5 (ay (λ(b:List c9h×c9h×c9h×Int)=>l7 (E9 b.2.2.2 (o9 x)) (o5 (F9 x b.2.2.2) λx=>o5 (F9 b.2.1 b.2.2.2) λg=>o5 (O8 b.2.1 (U6 b.2.2.2)) λi=>o5 (ay (λ(c:List c9h×Int)=>l7 (E9 c.2 (o9 x)) (o5 (F9 x c.2) λx=>l7 (inb x (o9 c.1)) (o5 (O8 c.1 (U6 x)) λd=>o5 (di d [b.2.2.2]) λj=>l7 (inb x (o9 c.1)) (l7 (TU (U6 x) (U6 x)) (o5 (O8 c.1 (U6 x)) λf=>some (.inl (bu c.1 (U6 x) j,A7 .i64 c.2 1))) none) none) none) (some (.inr c.1))) (b.1,0)) λy=>l7 (x8 (o9 x) 0) (o5 (iV b.2.2.1 b.2.2.2) λc=>some (.inl (y,bu b.2.1 (U6 b.2.2.2) (o9 x),c,A7 .i64 b.2.2.2 1))) (some (.inl (y,bu b.2.1 (U6 b.2.2.2) (o9 x),b.2.2.1,A7 .i64 b.2.2.2 1)))) (some (.inr (b.1,b.2.1,b.2.2.1)))) (k,q,[],0)) λy=>o5 (ay (λ(x:List c9h×fP)=>o5 (mD x.2.2.1) λb=>l7 (E9 0 b) (o5 (sV x.2.2.1) λg=>o5 (di x.2.2.2 [g.1]) λi=>o5 (F9 x.1 g.1) λc=>o5 (ay (λ(x:c9h×c9h×Int)=>l7 (E9 x.2.2 (o9 c)) (o5 (F9 c x.2.2) λd=>o5 (F9 x.1 d) λj=>o5 (O8 x.1 (U6 d)) λf=>o5 (F9 x.1 d) λt=>o5 (O8 x.1 (U6 d)) λu=>o5 (F9 (bu x.1 (U6 d) (J3 .i64 f 1)) d) λv=>o5 (O8 (bu x.1 (U6 d) (J3 .i64 f 1)) (U6 d)) λn=>l7 (x8 n 0) (o5 (iV x.2.1 d) λp=>some (.inl (bu x.1 (U6 d) (J3 .i64 f 1),p,A7 .i64 x.2.2 1))) (some (.inl (bu x.1 (U6 d) (J3 .i64 f 1),x.2.1,A7 .i64 x.2.2 1)))) (some (.inr (x.1,x.2.1)))) (x.2.1,g.2,0)) λy=>some (.inl (x.1,y.1,y.2,i))) (some (.inr x.2.2.2))) (y.1,y.2.1,y.2.2,[])) λy=>l7 (E9 (o9 y) (o9 x)) (some ([],9)) (some (y,0))
def c4J:FQ:=⟨[tD y24],⟨[(.tmp 2,uoM),(.tmp 3,Y5)],[]⟩,⟨113,eqs,tt,gl,[(73,s73),(155,b6I),(156,b9q),(157,b6J)],[(171,oiM)],[12,50,77,80],[],[],[]⟩,sN 5 (iq (sN 1 (lK (.loop [(5,10),(11,12),(29,65),(10001344,10001345),(13001536,13001537),(16001600,16001601),(16001664,16001665)] ⟨[(5,(false,(.owns oiM))),(6,uoM),(7,(false,(.box oiM))),(29,Y5)],[]⟩ 0 ⟨[(5,(false,(.owns oiM))),(6,uoM),(7,(false,(.box oiM)))],[]⟩ (sN 2 (iq (lK (sN 2 (iq (sN 1 (lK (.loop [(5,6),(11,12),(41,56),(23000000,23000001)] ⟨[(5,(false,(.owns oiM))),(41,Y5)],[]⟩ 2 ⟨[(5,(false,(.owns oiM)))],[]⟩ P9))) P9))) P9))))) (sN 1 (iq (lK (.loop [(5,8),(12,15),(16,17),(65,107),(24000000,24000004)] ⟨[(5,(uD y64)),(6,uoM),(7,(false,(.box oiM))),(12,uoM)],[]⟩ 4 ⟨[(12,uoM)],[]⟩ (sN 1 (lK (sN 3 (lK (.loop [(6,8),(16,17),(86,107),(79000000,79000002),(91004672,91004673)] ⟨[(6,uoM),(7,(false,(.box oiM))),(86,Y5)],[]⟩ 6 ⟨[(6,uoM),(7,(false,(.box oiM)))],[]⟩ P9))))))) P9)))⟩
def c6K:FSpec:=fU c4J λx=>uF x
def oN(A:ak)(B:Int):c9n:=o5 (uu A) λx=>l7 x (l7 (N7 A.1 B) (some (E9 B A.2)) (some false)) (some false)
def c5d:FQ:=⟨[tD y2,Y5],tR 4 ny,mE 19 [(89,s89)],P9⟩
def b9r:FSpec:=fU c5d λx=>oN x.1 x.2
def xB(A:V8)(B:Int)(C:Int):c9n:=l7 (x8 A.2.1 B) (o5 (oN A.2.2.2.2.1 C) λx=>some x) (some false)
def b5Z:FQ:=⟨[tD y19,(false,(.rp (.int .i64))),(false,(.rp (.int .i64)))],tR 4 ny,mE 15 [(185,b9r)],P9⟩
def a9l:FSpec:=fU b5Z λx=>xB x.1 x.2.1 x.2.2
def wu(A:List V8)(B:ak):Option (c9h×c9h):=o5 (qU (o9 A) 0) λx=>o5 (ay (λ(x:c9h×c9h×c9h×Int)=>l7 (E9 x.2.2.2 (o9 A)) (o5 (F9 A x.2.2.2) λc=>o5 (l7 (N7 0 c.2.2.1) (l7 (E9 c.2.2.1 x.2.2.2) (o5 (F9 x.2.2.1 c.2.2.1) λb=>o5 (O8 x.2.2.1 (U6 c.2.2.1)) λx=>some x) (some (-1))) (some (-1))) λb=>o5 (F9 x.2.2.1 x.2.2.2) λi=>o5 (O8 x.2.2.1 (U6 x.2.2.2)) λj=>o5 (xB c B.1 B.2) λd=>l7 d (o5 (F9 (bu x.2.2.1 (U6 x.2.2.2) b) x.2.2.2) λk=>o5 (O8 (bu x.2.2.1 (U6 x.2.2.2) b) (U6 x.2.2.2)) λn=>o5 (di x.1 [x.2.2.2]) λf=>o5 (di x.2.1 [b]) λg=>some (.inl (f,g,bu (bu x.2.2.1 (U6 x.2.2.2) b) (U6 x.2.2.2) (o9 x.1),A7 .i64 x.2.2.2 1))) (some (.inl (x.1,x.2.1,bu x.2.2.1 (U6 x.2.2.2) b,A7 .i64 x.2.2.2 1)))) (some (.inr (x.1,x.2.1)))) ([],[],x,0)) λy=>some y
def b5Y:FQ:=⟨[uD y20,(false,(.fn 184 [(.int .i64),(.int .i64)]))],⟨[(.tmp 4,uoM),(.tmp 5,uoM)],[]⟩,mE 59 [(184,a9l)],sN 3 (iq (sN 1 (lK (.loop [(6,12),(17,57),(10000896,10000897)] ⟨[(6,uoM),(7,uoM),(8,uoM),(17,Y5)],[]⟩ 0 ⟨[(6,uoM),(7,uoM)],[]⟩ (sN 2 (iq (lK (sN 2 (iq (.join [(11,12),(22,36)] ⟨[(11,Y5)],[]⟩ P9) P9))) P9))))) P9)⟩
def b6M:FSpec:=fU b5Y λx=>wu x.1 x.2
def Ad(A:A8)(B:Int)(C:Int):Option fP:=o5 (wu A.2.2.2.2 (B,C)) λx=>o5 (ay (λ(b:c9h×Int)=>l7 (E9 b.2 (o9 x.1)) (o5 (F9 x.1 b.2) λc=>o5 (O8 x.1 (U6 b.2)) λx=>o5 (F9 A.2.2.2.2 x) λx=>o5 (di b.1 [x.2.2.2.1]) λx=>some (.inl (x,A7 .i64 b.2 1))) (some (.inr b.1))) ([],0)) λy=>some (x.1,x.2,y)
def c4T:FQ:=⟨[tD y24,Y5,Y5],⟨[(.tmp 6,uoM),(.tmp 7,uoM),(.tmp 8,uoM)],[]⟩,mE 40 [(184,a9l),(183,b6M)],sN 3 (iq (sN 1 (lK (.loop [(11,12),(13,14),(23,37)] ⟨[(11,uoM),(23,Y5)],[]⟩ 0 ⟨[(11,uoM)],[]⟩ P9))) P9)⟩
def c6Q:FSpec:=fU c4T λx=>Ad x.1 x.2.1 x.2.2
def PL(A:List ak):Option (c9h×Int):=o5 (zi A) λx=>some (x.1,x.2.2)
def c4W:FQ:=⟨[uD y12],⟨[(.tmp 2,uoM),(.tmp 3,Y5)],[]⟩,mE 15 [(177,c1O)],P9⟩
def c6S:FSpec:=fU c4W λx=>PL x
def mF(A:aZ)(B:Int):Option c9h:=o5 (F9 A.1 B) λx=>o5 (qN x.1) λx=>o5 (qU x 0) λx=>o5 (ay (λ(x:c9h×ak)=>l7 (N7 0 x.2.2) (o5 (F9 x.1 x.2.2) λc=>o5 (O8 x.1 (U6 x.2.2)) λd=>o5 (F9 A.2.1 x.2.1) λb=>some (.inl (bu x.1 (U6 x.2.2) x.2.1,J3 .i64 b 1,J3 .i64 x.2.2 1))) (some (.inr x.1))) (x,J3 .i64 B 1,J3 .i64 (o9 x) 1)) λy=>some y
def c5h:FQ:=⟨[tD y78,Y5],tR 4 uoM,mE 36 [(179,b2Z)],sN 3 (iq (sN 1 (lK (.loop [(5,8),(21,35),(7000960,7000961)] ⟨[(5,uoM),(6,Y5),(7,Y5)],[]⟩ 0 ⟨[(5,uoM)],[]⟩ P9))) P9)⟩
def c6Z:FSpec:=fU c5h λx=>mF x.1 x.2
def je(A:D8):c9n:=o5 (l7 (D9 (x8 A.1 6)) (l7 (D9 (x8 A.2.1 0)) (some (.inr false)) (some (.inl ()))) (some (.inl ()))) λo=>X9 o (λx=>l7 (x8 A.1 1) (l7 (x8 A.2.2 0) (some true) (some (x8 A.2.2 1))) (l7 (x8 A.1 2) (l7 (N7 (-1000000000000) A.2.2) (some (N7 A.2.2 1000000000000)) (some false)) (l7 (x8 A.1 3) (l7 (N7 (-1000000000000000) A.2.2) (some (N7 A.2.2 1000000000000000)) (some false)) (l7 (x8 A.1 4) (l7 (N7 (-1000000000) A.2.2) (some (N7 A.2.2 1000000000)) (some false)) (l7 (x8 A.1 5) (l7 (N7 0 A.2.2) (some (N7 A.2.2 109572)) (some false)) (l7 (x8 A.1 6) (l7 (N7 0 A.2.1) (l7 (E9 A.2.1 8) (l7 (N7 0 A.2.2) (some (E9 A.2.2 16)) (some false)) (some false)) (some false)) (some false))))))) λr=>some r
def c5w:FQ:=⟨[tD y3],tR 2 ny,mE 83 [],sN 1 (iq (jnR [(2,11)] sgN P9) P9)⟩
def a9m:FSpec:=fU c5w λx=>je x
def uw(A:ak):c9n:=o5 (o5 (qN A.1) λx=>l7 (E9 x 0) (some (.inr false)) (l7 (D9 (x8 A.2 0)) (o5 (lX A.1) λx=>l7 (D9 x) (some (.inr false)) (some (.inl ()))) (some (.inl ())))) λo=>X9 o (λx=>o5 (l7 (x8 A.1 14) (some (x8 A.1 14)) (l7 (x8 A.1 15) (some (x8 A.1 15)) (some (x8 A.1 16)))) λx=>l7 x (l7 (N7 0 A.2) (some (N7 A.2 5)) (some false)) (l7 (x8 A.1 34) (l7 (N7 0 A.2) (some (N7 (eF A.2 8) 5)) (some false)) (l7 (x8 A.1 6) (some (N7 0 A.2)) (some true)))) λr=>some r
def c5r:FQ:=⟨[tD y2],tR 2 ny,mE 48 [(179,b2Z),(178,c1P)],sN 1 (iq (jnR [(2,18)] sgN P9) (iq (sN 1 (lK (iq (.join [(20,24)] ⟨[(20,ny)],[]⟩ P9) P9))) P9))⟩
def c7h:FSpec:=fU c5r λx=>uw x
def jW(A:ak)(B:aK):c9n:=l7 (x8 A.1 7) (l7 (N7 0 A.2) (some (E9 A.2 (o9 B.2.1))) (some false)) (l7 (x8 A.1 8) (l7 (N7 0 A.2) (l7 (E9 A.2 (o9 B.2.2.1)) (o5 (F9 B.2.2.1 A.2) λx=>some (D9 (x8 x.1 0))) (some false)) (some false)) (l7 (x8 A.1 33) (l7 (N7 0 A.2) (some (E9 A.2 (o9 B.2.2.2.2.2))) (some false)) (l7 (x8 A.1 34) (some (E9 (dV .i64 A.2 8) (o9 B.2.2.2.2.2))) (o5 (l7 (x8 A.1 36) (some (x8 A.1 36)) (l7 (x8 A.1 37) (some (x8 A.1 37)) (l7 (x8 A.1 38) (some (x8 A.1 38)) (some (x8 A.1 39))))) λx=>l7 x (l7 (N7 0 A.2) (some (E9 A.2 (o9 B.2.2.2.2.1))) (some false)) (some true)))))
def c5s:FQ:=⟨[tD y2,tD y62],tR 4 ny,mE 81 [],sN 1 (iq (sN 1 (lK (sN 1 (.cond P9 (sN 1 (.cond P9 (sN 1 (.cond P9 (sN 1 (.cond P9 (iq (.join [(65,70)] ⟨[(65,ny)],[]⟩ P9) P9))))))))))) P9)⟩
def c7i:FSpec:=fU c5s λx=>jW x.1 x.2
def yM(A:List D8):c9n:=o5 (V7 (λ(x:Int)=>l7 (E9 x (o9 A)) (o5 (F9 A x) λb=>o5 (je b) λc=>l7 (D9 c) (some (.rt false)) (some (.nx (A7 .i64 x 1)))) (some (.ex ()))) 0) λo=>X9 o (λy=>some true) λr=>some r
def c5t:FQ:=⟨[uD y29],tR 2 ny,mE 15 [(213,a9m)],sN 1 (iq (sN 1 (lK (lpR [(2,3),(4,5),(7,15)] ⟨[(7,Y5)],[]⟩ 0 sgN P9))) P9)⟩
def c7j:FSpec:=fU c5t λx=>yM x
def Dz(A:D8)(B:ak):c9n:=o5 (je A) λx=>l7 x (l7 (x8 A.1 B.1) (some (x8 A.2.1 B.2)) (some false)) (some false)
def c5A:FQ:=⟨[tD y3,tD y2],tR 4 ny,mE 21 [(213,a9m)],P9⟩
def c1V:FSpec:=fU c5A λx=>Dz x.1 x.2
def vH(A:Int):c9n:=l7 (x8 A 2) (some true) (l7 (x8 A 3) (some true) (some (x8 A 4)))
def c5M:FQ:=⟨[Y5],tR 2 ny,mE 13 [],P9⟩
def b9s:FSpec:=fU c5M λx=>vH x
def xC(A:Int)(B:ak):c9n:=l7 (D9 (x8 B.2 0)) (some false) (l7 (x8 A 36) (l7 (x8 B.1 2) (some true) (some (x8 B.1 3))) (l7 (x8 A 39) (o5 (vH B.1) λx=>l7 x (some true) (some (x8 B.1 5))) (some (x8 B.1 1))))
def c5B:FQ:=⟨[Y5,tD y2],tR 4 ny,mE 32 [(234,b9s)],P9⟩
def c7o:FSpec:=fU c5B λx=>xC x.1 x.2
def uI(A:Int)(B:Int):c9n:=l7 (x8 A 10) (o5 (vH B) λx=>some x) (l7 (x8 A 25) (some (x8 B 1)) (some (x8 B 5)))
def c5C:FQ:=⟨[Y5,Y5],tR 4 ny,mE 16 [(234,b9s)],P9⟩
def c7p:FSpec:=fU c5C λx=>uI x.1 x.2
def vI(A:D8)(B:D8):c9n:=l7 (x8 A.1 B.1) (some (x8 A.2.1 B.2.1)) (some false)
def c5F:FQ:=⟨[tD y3,tD y3],tR 4 ny,mE 17 [],P9⟩
def c1W:FSpec:=fU c5F λx=>vI x.1 x.2
def dC(A:Int)(B:D8)(C:D8):c9n:=o5 (o5 (l7 (x8 A 11) (some (x8 A 11)) (some (x8 A 12))) λx=>l7 x (o5 (vI B C) λx=>l7 x (o5 (vH B.1) λx=>some (.inr x)) (some (.inr false))) (l7 (x8 A 13) (l7 (x8 C.1 2) (l7 (x8 B.1 2) (some (.inr true)) (some (.inr (x8 B.1 3)))) (some (.inr false))) (l7 (x8 A 14) (l7 (x8 C.1 4) (l7 (x8 B.1 3) (some (.inr true)) (some (.inr (x8 B.1 4)))) (some (.inr false))) (l7 (x8 A 15) (l7 (x8 C.1 2) (l7 (x8 B.1 2) (some (.inr true)) (some (.inr (x8 B.1 3)))) (l7 (x8 B.1 3) (some (.inr (x8 C.1 3))) (some (.inr false)))) (l7 (x8 A 16) (l7 (x8 B.1 3) (some (.inr (x8 C.1 3))) (some (.inr false))) (o5 (l7 (x8 A 17) (some (x8 A 17)) (l7 (x8 A 18) (some (x8 A 18)) (l7 (x8 A 21) (some (x8 A 21)) (some (x8 A 22))))) λx=>l7 x (o5 (vI B C) λx=>l7 x (o5 (vH B.1) λx=>l7 x (some (.inr true)) (some (.inr (x8 B.1 5)))) (some (.inr false))) (o5 (l7 (x8 A 19) (some (x8 A 19)) (some (x8 A 20))) λx=>l7 x (o5 (vI B C) λx=>some (.inr x)) (l7 (x8 A 23) (l7 (x8 A 23) (l7 (x8 B.1 1) (some (.inr (x8 C.1 1))) (some (.inr false))) (l7 (x8 A 27) (l7 (x8 A 27) (l7 (x8 B.1 5) (some (.inr (x8 C.1 2))) (some (.inr false))) (some (.inl ()))) (l7 (x8 A 28) (l7 (x8 B.1 5) (some (.inr (x8 C.1 2))) (some (.inr false))) (some (.inl ()))))) (l7 (x8 A 24) (l7 (x8 B.1 1) (some (.inr (x8 C.1 1))) (some (.inr false))) (l7 (x8 A 27) (l7 (x8 A 27) (l7 (x8 B.1 5) (some (.inr (x8 C.1 2))) (some (.inr false))) (some (.inl ()))) (l7 (x8 A 28) (l7 (x8 B.1 5) (some (.inr (x8 C.1 2))) (some (.inr false))) (some (.inl ()))))))))))))) λo=>X9 o (λx=>l7 (x8 B.1 5) (some (x8 C.1 5)) (some false)) λr=>some r
def c5E:FQ:=⟨[Y5,tD y3,tD y3],tR 6 ny,mE 134 [(226,c1W),(234,b9s)],sN 1 (iq (jnR [(6,126)] sgN (sN 1 (lK (iq (.join [(8,11)] ⟨[(8,ny)],[]⟩ P9) (.cond P9 (sN 1 (.cond P9 (sN 1 (.cond P9 (sN 1 (.cond P9 (sN 1 (.cond P9 (iq (.join [(80,85)] ⟨[(80,ny)],[]⟩ P9) (.cond P9 (iq (.join [(98,101)] ⟨[(98,ny)],[]⟩ P9) P9)))))))))))))))) P9)⟩
def c7q:FSpec:=fU c5E λx=>dC x.1 x.2.1 x.2.2
def aT(A:ak)(B:List D8)(C:aK):c9n:=o5 (l7 (x8 A.1 7) (o5 (F9 C.2.1 A.2) λx=>o5 (je x) λx=>some (.inr x)) (l7 (x8 A.1 8) (o5 (F9 C.2.2.1 A.2) λx=>o5 (je x) λx=>some (.inr x)) (l7 (x8 A.1 33) (o5 (F9 C.2.2.2.2.2 A.2) λx=>o5 (F9 B 0) λb=>o5 (Dz b x.2.1) λc=>l7 c (l7 (N7 1 x.2.2.1.1) (some (.inr (N7 x.2.2.1.1 6))) (some (.inr false))) (some (.inr false))) (l7 (x8 A.1 34) (o5 (F9 C.2.2.2.2.2 (dV .i64 A.2 8)) λx=>o5 (F9 B 0) λb=>l7 (x8 b.1 3) (l7 (V9 (x8 x.2.1.1 3) (x8 x.2.1.2 0)) (some (.inr (V9 (x8 x.2.2.1.1 4) (x8 x.2.2.1.2 0)))) (some (.inr false))) (some (.inr false))) (o5 (l7 (x8 A.1 36) (some (x8 A.1 36)) (l7 (x8 A.1 37) (some (x8 A.1 37)) (l7 (x8 A.1 38) (some (x8 A.1 38)) (some (x8 A.1 39))))) λx=>l7 x (o5 (F9 C.2.2.2.2.1 A.2) λx=>o5 (xC A.1 x) λx=>some (.inr x)) (some (.inl ()))))))) λo=>X9 o (λx=>l7 (x8 (o9 B) 1) (o5 (F9 B 0) λx=>o5 (uI A.1 x.1) λx=>some x) (l7 (x8 (o9 B) 2) (o5 (F9 B 0) λx=>o5 (F9 B 1) λb=>o5 (dC A.1 x b) λx=>some x) (l7 (x8 (o9 B) 3) (o5 (F9 B 0) λx=>l7 (x8 x.1 1) (o5 (F9 B 1) λx=>o5 (F9 B 2) λb=>o5 (vI x b) λx=>some x) (some false)) (some true)))) λr=>some r
def c5u:FQ:=⟨[tD y2,uD y29,tD y62],tR 6 ny,mE 133 [(213,a9m),(222,c1V),(223,c7o),(224,c7p),(225,c7q),(226,c1W)],sN 1 (iq (jnR [(6,95)] sgN (sN 1 (lK (sN 1 (.cond P9 (sN 1 (.cond P9 (sN 1 (.cond P9 (sN 1 (.cond P9 (iq (.join [(81,86)] ⟨[(81,ny)],[]⟩ P9) P9)))))))))))) P9)⟩
def c7k:FSpec:=fU c5u λx=>aT x.1 x.2.1 x.2.2
def wJ(A:ak)(B:aK):Option (D8×Int):=o5 (F9 B.2.2.2.2.1 A.2) λx=>o5 (l7 (x8 A.1 37) (some (x.1,x.2,1)) (some (x.1,x.2,0))) λg=>o5 (l7 (x8 A.1 39) (l7 (x8 (o9 B.2.2.2.1) 0) (some (.inr ((0,0,0),6))) (some (.inl (0,0,0)))) (some (.inl (0,0,0)))) λo=>X9 o (λ(i:D8)=>o5 (V7 (λ(b:D8×D8×Int)=>l7 (E9 b.2.2 (o9 B.2.2.2.1)) (o5 (F9 B.2.2.2.1 b.2.2) λf=>o5 (l7 (N7 (o9 f) A.2) (some (.inr ((0,0,0),6))) (o5 (F9 f A.2) λx=>l7 (x8 x.1 0) (some (.inr ((0,0,0),6))) (some (.inl b.1)))) λo=>X9 o (λ(d:D8)=>o5 (F9 f A.2) λc=>o5 (Dz c x) λx=>l7 (D9 x) (some (.rt ((0,0,0),8))) (l7 (x8 A.1 36) (o5 (je (b.2.1.1,b.2.1.2.1,A7 .i64 b.2.1.2.2 c.2.2)) λx=>l7 (D9 x) (some (.rt ((0,0,0),3))) (some (.nx (d,(b.2.1.1,b.2.1.2.1,A7 .i64 b.2.1.2.2 c.2.2),A7 .i64 b.2.2 1)))) (l7 (x8 A.1 37) (some (.nx (d,(b.2.1.1,b.2.1.2.1,qR b.2.1.2.2 c.2.2),A7 .i64 b.2.2 1))) (l7 (x8 A.1 38) (some (.nx (d,(b.2.1.1,b.2.1.2.1,oD b.2.1.2.2 c.2.2),A7 .i64 b.2.2 1))) (l7 (x8 A.1 39) (l7 (x8 b.2.2 0) (some (.nx (d,c,A7 .i64 b.2.2 1))) (l7 (E9 b.2.1.2.2 c.2.2) (some (.nx (d,c,A7 .i64 b.2.2 1))) (some (.nx (d,b.2.1,A7 .i64 b.2.2 1))))) (some (.nx (d,b.2.1,A7 .i64 b.2.2 1)))))))) λr=>some (.rt r)) (some (.ex (b.1,b.2.1)))) (i,g,0)) λo=>X9 o (λ(y:D8×D8)=>some (y.2,0)) λr=>some r) λr=>some r
def c5G:FQ:=⟨[tD y2,tD y62],⟨[(.cell 4 39,tD y3),(.tmp 5,Y5)],[]⟩,mE 113 [(222,c1V),(213,a9m)],sN 3 (iq (.join [(7,8),(22,26),(10000448,10000449)] ⟨[(7,(false,(.box (dT y3))))],[]⟩ P9) (iq (jnR [(4,6),(26,36),(4000256,4000257)] ⟨[(4,(false,(.box (dT y3))))],[]⟩ P9) (iq (sN 1 (lK (lpR [(4,6),(7,11),(39,112),(12000000,12000001),(20000000,20000001)] ⟨[(4,(false,(.box (dT y3)))),(7,(false,(.box (dT y3)))),(39,Y5)],[]⟩ 0 ⟨[(4,(false,(.box (dT y3)))),(7,(false,(.box (dT y3))))],[]⟩ (sN 2 (iq (lK (sN 1 (iq (jnR [(4,6),(44,59),(35000000,35000001)] ⟨[(4,(false,(.box (dT y3))))],[]⟩ P9) P9))) P9))))) P9)))⟩
def c7r:FSpec:=fU c5G λx=>wJ x.1 x.2
def JD(A:rF)(B:Int)(C:Int):c9n:=o5 (oN A.1 B) λx=>l7 x (l7 (N7 A.2.1 C) (some (E9 C A.2.2.1)) (some false)) (some false)
def b6a:FQ:=⟨[tD y4,(false,(.rp (.int .i64))),(false,(.rp (.int .i64)))],tR 4 ny,mE 21 [(185,b9r)],P9⟩
def a9n:FSpec:=fU b6a λx=>JD x.1 x.2.1 x.2.2
def xQ(A:List rF)(B:ak):Option (Int×Bool):=o5 (V7 (λ(x:Int)=>l7 (E9 x (o9 A)) (o5 (F9 A x) λb=>o5 (JD b B.1 B.2) λc=>l7 c (some (.rt (x,true))) (some (.nx (A7 .i64 x 1)))) (some (.ex ()))) 0) λo=>X9 o (λy=>some (0,false)) λr=>some r
def c0i:FQ:=⟨[uD y5,(false,(.fn 235 [(.int .i64),(.int .i64)]))],⟨[(.tmp 4,Y5),(.tmp 5,ny)],[]⟩,mE 20 [(235,a9n)],sN 1 (iq (sN 1 (lK (lpR [(4,8),(10,20)] ⟨[(10,Y5)],[]⟩ 0 sgN P9))) P9)⟩
def c0w:FSpec:=fU c0i λx=>xQ x.1 x.2
def Iy(A:bn)(B:Int)(C:Int):Option (Int×Bool):=o5 (xQ A.2.2.2 (B,C)) λx=>some x
def c5H:FQ:=⟨[tD y8,Y5,Y5],⟨[(.tmp 6,Y5),(.tmp 7,ny)],[]⟩,mE 14 [(235,a9n),(90,c0w)],P9⟩
def c7s:FSpec:=fU c5H λx=>Iy x.1 x.2.1 x.2.2
def c8Z:List MG:=[(false,(.dat (.int .u64))),(false,(.dat (.int .u64)))]
def s80:FSpec:=⟨c8Z,[(false,(.dat (.int .u64))),(false,(.dat (.int .u64)))],[],λx=>wC x.1 x.2⟩
def BH(A:Int):c9o:=l7 (N7 4294967296 A) (l7 (N7 65536 (vJ .u64 A 32)) (l7 (N7 256 (vJ .u64 (vJ .u64 A 32) 16)) (o5 (sat OB (wrap .u8 (vJ .u64 (vJ .u64 (vJ .u64 A 32) 16) 8))) λx=>some (A7 .i64 (A7 .i64 (A7 .i64 32 16) 8) (wrap .i64 x))) (o5 (sat OB (wrap .u8 (vJ .u64 (vJ .u64 A 32) 16))) λx=>some (A7 .i64 (A7 .i64 32 16) (wrap .i64 x)))) (l7 (N7 256 (vJ .u64 A 32)) (o5 (sat OB (wrap .u8 (vJ .u64 (vJ .u64 A 32) 8))) λx=>some (A7 .i64 (A7 .i64 32 8) (wrap .i64 x))) (o5 (sat OB (wrap .u8 (vJ .u64 A 32))) λx=>some (A7 .i64 32 (wrap .i64 x))))) (l7 (N7 65536 A) (l7 (N7 256 (vJ .u64 A 16)) (o5 (sat OB (wrap .u8 (vJ .u64 (vJ .u64 A 16) 8))) λx=>some (A7 .i64 (A7 .i64 (A7 .i64 0 16) 8) (wrap .i64 x))) (o5 (sat OB (wrap .u8 (vJ .u64 A 16))) λx=>some (A7 .i64 (A7 .i64 0 16) (wrap .i64 x)))) (l7 (N7 256 A) (o5 (sat OB (wrap .u8 (vJ .u64 A 8))) λx=>some (A7 .i64 (A7 .i64 0 8) (wrap .i64 x))) (o5 (sat OB (wrap .u8 A)) λx=>some (A7 .i64 0 (wrap .i64 x)))))
def c4N:FQ:=⟨[(false,(dT (.int .u64)))],tR 2 Y5,mE 25 [],P9⟩
def c6M:FSpec:=fU c4N λx=>BH x
def pJ(A:Int):c9o:=o5 (BH A) λx=>some (J3 .i64 64 x)
def c6c:FQ:=⟨[(false,(dT (.int .u64)))],tR 2 Y5,mE 6 [(144,c6M)],P9⟩
def c7G:FSpec:=fU c6c λx=>pJ x
def oh(A:Int)(B:Int)(C:Int):Option ak:=o5 (l7 (x8 C 0) none (some ())) λx=>o5 (l7 (N7 C A) none (some ())) λx=>l7 (x8 A 0) (o5 (qZ .u64 B C) λx=>o5 (AL B C) λb=>some (x,b)) (o5 (pJ C) λx=>o5 (G_ .u64 C (wrap .u64 x)) λb=>o5 (G_ .u64 A (wrap .u64 x)) λd=>o5 (H_ .u64 B (J3 .u64 64 (wrap .u64 x))) λf=>o5 (G_ .u64 B (wrap .u64 x)) λc=>o5 (qZ .u64 (ior .u64 d f) (vJ .u64 b 32)) λg=>o5 (ay (λ(x:ak)=>l7 (N7 4294967296 x.1) (l7 (N7 4294967296 (A7 .u64 x.2 (vJ .u64 b 32))) (some (.inr (J3 .u64 x.1 1))) (some (.inl (J3 .u64 x.1 1,A7 .u64 x.2 (vJ .u64 b 32))))) (l7 (E9 (A7 .u64 (aA .u64 4294967296 x.2) (vJ .u64 c 32)) (aA .u64 x.1 (a5U .u64 b 4294967295))) (l7 (N7 4294967296 (A7 .u64 x.2 (vJ .u64 b 32))) (some (.inr (J3 .u64 x.1 1))) (some (.inl (J3 .u64 x.1 1,A7 .u64 x.2 (vJ .u64 b 32))))) (some (.inr x.1)))) (g,J3 .u64 (ior .u64 d f) (aA .u64 g (vJ .u64 b 32)))) λy=>o5 (qZ .u64 (J3 .u64 (A7 .u64 (aA .u64 (ior .u64 d f) 4294967296) (vJ .u64 c 32)) (aA .u64 y b)) (vJ .u64 b 32)) λi=>o5 (ay (λ(x:ak)=>l7 (N7 4294967296 x.2) (l7 (N7 4294967296 (A7 .u64 x.1 (vJ .u64 b 32))) (some (.inr (J3 .u64 x.2 1))) (some (.inl (A7 .u64 x.1 (vJ .u64 b 32),J3 .u64 x.2 1)))) (l7 (E9 (A7 .u64 (aA .u64 4294967296 x.1) (a5U .u64 c 4294967295)) (aA .u64 x.2 (a5U .u64 b 4294967295))) (l7 (N7 4294967296 (A7 .u64 x.1 (vJ .u64 b 32))) (some (.inr (J3 .u64 x.2 1))) (some (.inl (A7 .u64 x.1 (vJ .u64 b 32),J3 .u64 x.2 1)))) (some (.inr x.2)))) (J3 .u64 (J3 .u64 (A7 .u64 (aA .u64 (ior .u64 d f) 4294967296) (vJ .u64 c 32)) (aA .u64 y b)) (aA .u64 i (vJ .u64 b 32)),i)) λy_1=>o5 (H_ .u64 (J3 .u64 (A7 .u64 (aA .u64 (J3 .u64 (A7 .u64 (aA .u64 (ior .u64 d f) 4294967296) (vJ .u64 c 32)) (aA .u64 y b)) 4294967296) (a5U .u64 c 4294967295)) (aA .u64 y_1 b)) (wrap .u64 x)) λx=>some (A7 .u64 (aA .u64 y 4294967296) y_1,x))
def c5T:FQ:=⟨[(false,(dT (.int .u64))),(false,(dT (.int .u64))),(false,(dT (.int .u64)))],⟨[(.tmp 6,(false,(dT (.int .u64)))),(.tmp 7,(false,(dT (.int .u64))))],[]⟩,mE 135 [(250,c7G)],sN 1 (iq (.join [(19,22)] sgN P9) (iq (.join [(22,26)] sgN P9) (sN 11 (iq (lK (.loop [(15,17),(67,86)] ⟨[(15,(false,(dT (.int .u64)))),(16,(false,(dT (.int .u64))))],[]⟩ 0 ⟨[(15,(false,(dT (.int .u64))))],[]⟩ P9)) (sN 3 (iq (lK (.loop [(16,17),(18,19),(102,121)] ⟨[(16,(false,(dT (.int .u64)))),(18,(false,(dT (.int .u64))))],[]⟩ 2 ⟨[(18,(false,(dT (.int .u64))))],[]⟩ P9)) P9))))))⟩
def b9t:FSpec:=fU c5T λx=>oh x.1 x.2.1 x.2.2
def xP(A:Int)(B:Int):Option (Int×Int×Bool):=l7 (E9 B 0) (o5 (wC (wrap .u64 A) (J3 .u64 0 (wrap .u64 B))) λx=>l7 (N7 1000000 x.1) (some (0,0,false)) (o5 (oh x.1 x.2 1000000) λx=>l7 (E9 1000000000000000 x.1) (some (0,0,false)) (l7 (E9 B 0) (some (J3 .i64 0 (wrap .i64 x.1),J3 .i64 0 (wrap .i64 x.2),true)) (some (wrap .i64 x.1,wrap .i64 x.2,true))))) (o5 (wC (wrap .u64 A) (wrap .u64 B)) λx=>l7 (N7 1000000 x.1) (some (0,0,false)) (o5 (oh x.1 x.2 1000000) λx=>l7 (E9 1000000000000000 x.1) (some (0,0,false)) (l7 (E9 B 0) (some (J3 .i64 0 (wrap .i64 x.1),J3 .i64 0 (wrap .i64 x.2),true)) (some (wrap .i64 x.1,wrap .i64 x.2,true)))))
def c5N:FQ:=⟨[Y5,Y5],⟨[(.tmp 4,Y5),(.tmp 5,Y5),(.tmp 6,ny)],[]⟩,mE 47 [(80,s80),(242,b9t)],P9⟩
def c7w:FSpec:=fU c5N λx=>xP x.1 x.2
def uz(A:Int):c9n:=l7 (N7 0 A) (some (N7 A 5)) (some false)
def c6d:FQ:=⟨[Y5],tR 2 ny,mE 9 [],P9⟩
def b9u:FSpec:=fU c6d λx=>uz x
def lS(A:Int)(B:Int):c9n:=l7 (E9 B A) (some true) (some (E9 A (J3 .i64 0 B)))
def q50:FQ:=⟨[Y5,Y5],tR 4 ny,mE 14 [],P9⟩
def s50:FSpec:=fU q50 λx=>lS x.1 x.2
def oq(A:Int):c9o:=l7 (E9 A 0) (some (J3 .u64 0 (wrap .u64 A))) (some (wrap .u64 A))
def c6e:FQ:=⟨[Y5],tR 2 (false,(dT (.int .u64))),mE 10 [],P9⟩
def c1Z:FSpec:=fU c6e λx=>oq x
def qj(A:Int)(B:Int)(C:Int)(D:Bool)(E:Int):c9o:=l7 (x8 B 0) (some A) (l7 (x8 E 0) (l7 D (some (A7 .u64 A 1)) (some A)) (l7 (x8 E 1) (l7 (D9 D) (some (A7 .u64 A 1)) (some A)) (l7 (x8 E 3) (some (A7 .u64 A 1)) (l7 (x8 E 4) (l7 (N7 (J3 .u64 C B) B) (some (A7 .u64 A 1)) (some A)) (l7 (x8 E 5) (l7 (E9 (J3 .u64 C B) B) (some (A7 .u64 A 1)) (l7 (x8 B (J3 .u64 C B)) (l7 (x8 (eF A 2) 1) (some (A7 .u64 A 1)) (some A)) (some A))) (some A))))))
def c6f:FQ:=⟨[(false,(dT (.int .u64))),(false,(dT (.int .u64))),(false,(dT (.int .u64))),ny,Y5],tR 10 (false,(dT (.int .u64))),mE 55 [],P9⟩
def c2a:FSpec:=fU c6f λx=>qj x.1 x.2.1 x.2.2.1 x.2.2.2.1 x.2.2.2.2
def DW(A:Int)(B:Bool):c9o:=l7 B (some (J3 .i64 0 (wrap .i64 A))) (some (wrap .i64 A))
def c6g:FQ:=⟨[(false,(dT (.int .u64))),ny],tR 4 Y5,mE 11 [],P9⟩
def c2b:FSpec:=fU c6g λx=>DW x.1 x.2
def kz(A:Int)(B:Int)(C:Int):Option ak:=o5 (uz C) λx=>l7 (D9 x) (some (0,1)) (l7 (x8 B 0) (some (0,12)) (o5 (lS A 4611686018427387904) λx=>l7 x (some (0,3)) (o5 (lS B 4611686018427387904) λx=>l7 x (some (0,3)) (o5 (oq A) λx=>o5 (oq B) λb=>o5 (qZ .u64 x b) λc=>o5 (AL x b) λx=>o5 (qj c x b (D9 (jT (E9 A 0) (E9 B 0))) C) λx=>o5 (DW x (D9 (jT (E9 A 0) (E9 B 0)))) λx=>some (x,0)))))
def c5V:FQ:=⟨[Y5,Y5,Y5],⟨[(.tmp 6,Y5),(.tmp 7,Y5)],[]⟩,mE 45 [(251,b9u),(50,s50),(252,c1Z),(253,c2a),(254,c2b)],P9⟩
def b6N:FSpec:=fU c5V λx=>kz x.1 x.2.1 x.2.2
def Es(A:Int)(B:Int)(C:Int):Option ak:=l7 (E9 (A7 .i64 A (dV .i64 B 1000000)) (-2000000000000000)) (some (0,3)) (l7 (E9 2000000000000000 (A7 .i64 A (dV .i64 B 1000000))) (some (0,3)) (l7 (E9 1 (A7 .i64 A (dV .i64 B 1000000))) (o5 (kz (A7 .i64 (aA .i64 (A7 .i64 (eF (A7 .i64 A (dV .i64 B 1000000)) 2) 2) 1000000) (eF B 1000000)) 1000000 C) λx=>l7 (D9 (x8 x.2 0)) (some (0,x.2)) (l7 (E9 (A7 .i64 (J3 .i64 (A7 .i64 A (dV .i64 B 1000000)) (A7 .i64 (eF (A7 .i64 A (dV .i64 B 1000000)) 2) 2)) x.1) (-1000000000000000)) (some (0,3)) (l7 (E9 1000000000000000 (A7 .i64 (J3 .i64 (A7 .i64 A (dV .i64 B 1000000)) (A7 .i64 (eF (A7 .i64 A (dV .i64 B 1000000)) 2) 2)) x.1)) (some (0,3)) (some (A7 .i64 (J3 .i64 (A7 .i64 A (dV .i64 B 1000000)) (A7 .i64 (eF (A7 .i64 A (dV .i64 B 1000000)) 2) 2)) x.1,0))))) (l7 (E9 (A7 .i64 A (dV .i64 B 1000000)) (-1)) (o5 (kz (A7 .i64 (aA .i64 (J3 .i64 (eF (A7 .i64 A (dV .i64 B 1000000)) 2) 2) 1000000) (eF B 1000000)) 1000000 C) λx=>l7 (D9 (x8 x.2 0)) (some (0,x.2)) (l7 (E9 (A7 .i64 (J3 .i64 (A7 .i64 A (dV .i64 B 1000000)) (J3 .i64 (eF (A7 .i64 A (dV .i64 B 1000000)) 2) 2)) x.1) (-1000000000000000)) (some (0,3)) (l7 (E9 1000000000000000 (A7 .i64 (J3 .i64 (A7 .i64 A (dV .i64 B 1000000)) (J3 .i64 (eF (A7 .i64 A (dV .i64 B 1000000)) 2) 2)) x.1)) (some (0,3)) (some (A7 .i64 (J3 .i64 (A7 .i64 A (dV .i64 B 1000000)) (J3 .i64 (eF (A7 .i64 A (dV .i64 B 1000000)) 2) 2)) x.1,0))))) (o5 (kz (A7 .i64 (aA .i64 (eF (A7 .i64 A (dV .i64 B 1000000)) 2) 1000000) (eF B 1000000)) 1000000 C) λx=>l7 (D9 (x8 x.2 0)) (some (0,x.2)) (l7 (E9 (A7 .i64 (J3 .i64 (A7 .i64 A (dV .i64 B 1000000)) (eF (A7 .i64 A (dV .i64 B 1000000)) 2)) x.1) (-1000000000000000)) (some (0,3)) (l7 (E9 1000000000000000 (A7 .i64 (J3 .i64 (A7 .i64 A (dV .i64 B 1000000)) (eF (A7 .i64 A (dV .i64 B 1000000)) 2)) x.1)) (some (0,3)) (some (A7 .i64 (J3 .i64 (A7 .i64 A (dV .i64 B 1000000)) (eF (A7 .i64 A (dV .i64 B 1000000)) 2)) x.1,0))))))))
def c5O:FQ:=⟨[Y5,Y5,Y5],⟨[(.tmp 6,Y5),(.tmp 7,Y5)],[]⟩,mE 60 [(243,b6N)],P9⟩
def c7x:FSpec:=fU c5O λx=>Es x.1 x.2.1 x.2.2
def En(A:bn)(B:Int)(C:Int)(D:Int):Option ak:=o5 (l7 (E9 D 0) (some (.inr (0,1))) (l7 (E9 5 D) (some (.inr (0,1))) (some (.inl ())))) λo=>X9 o (λx=>o5 (l7 (D9 (V9 (x8 A.2.1.1 3) (x8 A.2.1.2 0))) (some (.inr (0,8))) (l7 (D9 (V9 (x8 A.2.2.1.1 4) (x8 A.2.2.1.2 0))) (some (.inr (0,8))) (some (.inl ())))) λo=>X9 o (λx=>o5 (l7 (E9 C (-1000000000000000)) (some (.inr (0,3))) (l7 (E9 1000000000000000 C) (some (.inr (0,3))) (some (.inl ())))) λo=>X9 o (λx=>o5 (V7 (λ(x:D8)=>l7 (E9 x.2.2 (o9 A.2.2.2)) (o5 (F9 A.2.2.2 x.2.2) λb=>o5 (oN b.1 B) λd=>l7 (D9 d) (some (.nx (x.1,x.2.1,A7 .i64 x.2.2 1))) (l7 (N7 (qR b.2.2.1 C) (oD b.2.1 0)) (some (.nx (x.1,x.2.1,A7 .i64 x.2.2 1))) (o5 (xP (J3 .i64 (qR b.2.2.1 C) (oD b.2.1 0)) b.2.2.2) λc=>l7 (D9 c.2.2) (some (.rt (0,3))) (some (.nx (A7 .i64 x.1 c.1,A7 .i64 x.2.1 c.2.1,A7 .i64 x.2.2 1)))))) (some (.ex (x.1,x.2.1)))) (0,0,0)) λo=>X9 o (λ(y:ak)=>o5 (Es y.1 y.2 D) λx=>some x) λr=>some r) λr=>some r) λr=>some r) λr=>some r
def c5I:FQ:=⟨[tD y8,Y5,Y5,Y5],⟨[(.tmp 8,Y5),(.tmp 9,Y5)],[]⟩,mE 90 [(185,b9r),(236,c7w),(237,c7x)],sN 1 (iq (jnR [(8,10),(19,25)] sgN P9) (iq (jnR [(8,10),(25,35)] sgN P9) (iq (jnR [(8,10),(35,41)] sgN P9) (sN 1 (iq (sN 1 (lK (lpR [(8,12),(13,19),(44,84)] ⟨[(10,Y5),(11,Y5),(44,Y5)],[]⟩ 0 ⟨[(10,Y5),(11,Y5)],[]⟩ P9))) P9)))))⟩
def c7t:FSpec:=fU c5I λx=>En x.1 x.2.1 x.2.2.1 x.2.2.2
def sZ(A:Bool):Option D8:=l7 A (some (1,0,1)) (some (1,0,0))
def c5P:FQ:=⟨[ny],cR 2 39 (tD y3),mE 6 [],P9⟩
def c1X:FSpec:=fU c5P λx=>sZ x
def xx(A:Int):c9n:=l7 (N7 0 A) (some (N7 A 109572)) (some false)
def c4w:FQ:=⟨[Y5],tR 2 ny,mE 9 [],P9⟩
def b6z:FSpec:=fU c4w λx=>xx x
def zg(A:Int):c9o:=some (A7 .i64 (J3 .i64 (dV .i64 A 4) (dV .i64 A 100)) (dV .i64 A 400))
def c4X:FQ:=⟨[Y5],tR 2 Y5,mE 11 [],P9⟩
def c6U:FSpec:=fU c4X λx=>zg x
def sW(A:Int):c9o:=o5 (zg (J3 .i64 A 1)) λx=>o5 (zg 1899) λb=>some (J3 .i64 (A7 .i64 (aA .i64 (J3 .i64 A 1900) 365) x) b)
def c4O:FQ:=⟨[Y5],tR 2 Y5,mE 12 [(174,c6U)],P9⟩
def c1N:FSpec:=fU c4O λx=>sW x
def JM(A:Int):c9n:=l7 (x8 (eF A 4) 0) (l7 (D9 (x8 (eF A 100) 0)) (some true) (some (x8 (eF A 400) 0))) (some false)
def c4Y:FQ:=⟨[Y5],tR 2 ny,mE 16 [],P9⟩
def c6V:FSpec:=fU c4Y λx=>JM x
def kF(A:Int)(B:Int):c9o:=l7 (E9 B 1) (some 0) (l7 (E9 12 B) (some 0) (l7 (x8 B 2) (o5 (JM A) λx=>l7 x (some 29) (o5 (F9 [31,28,31,30,31,30,31,31,30,31,30,31] (J3 .i64 B 1)) λx=>some x)) (o5 (F9 [31,28,31,30,31,30,31,31,30,31,30,31] (J3 .i64 B 1)) λx=>some x)))
def c4P:FQ:=⟨[Y5,Y5],tR 4 Y5,mE 21 [(175,c6V)],P9⟩
def b9p:FSpec:=fU c4P λx=>kF x.1 x.2
def xw(A:Int):Option D8:=o5 (xx A) λx=>l7 (D9 x) (some (0,0,0)) (o5 (ay (λ(x:Int)=>o5 (sW (A7 .i64 x 1)) λb=>l7 (N7 b A) (some (.inl (A7 .i64 x 1))) (some (.inr x))) (A7 .i64 1900 (dV .i64 A 366))) λy=>o5 (sW y) λx=>o5 (V7 (λ(x:ak)=>l7 (E9 x.2 12) (o5 (kF y (A7 .i64 x.2 1)) λb=>l7 (E9 x.1 b) (some (.rt (y,A7 .i64 x.2 1,A7 .i64 x.1 1))) (some (.nx (J3 .i64 x.1 b,A7 .i64 x.2 1)))) (some (.ex ()))) (J3 .i64 A x,0)) λo=>X9 o (λy=>some (0,0,0)) λr=>some r)
def c4x:FQ:=⟨[Y5],⟨[(.tmp 2,Y5),(.tmp 3,Y5),(.tmp 4,Y5)],[]⟩,mE 45 [(119,b6z),(148,c1N),(149,b9p)],sN 3 (iq (lK (.loop [(5,6),(15,22)] ⟨[(5,Y5)],[]⟩ 0 ⟨[(5,Y5)],[]⟩ P9)) (sN 1 (iq (sN 1 (lK (lpR [(2,5),(6,9),(26,45)] ⟨[(6,Y5),(26,Y5)],[]⟩ 2 sgN P9))) P9)))⟩
def b6A:FSpec:=fU c4x λx=>xw x
def IU(A:Int)(B:D8):Option D8:=l7 (x8 A 10) (some (B.1,0,J3 .i64 0 B.2.2)) (l7 (x8 A 25) (o5 (sZ (x8 B.2.2 0)) λx=>some x) (o5 (xw B.2.2) λx=>l7 (x8 A 31) (some (2,0,x.1)) (some (2,0,x.2.1))))
def c5J:FQ:=⟨[Y5,tD y3],cR 4 39 (tD y3),mE 36 [(238,c1X),(120,b6A)],P9⟩
def c7u:FSpec:=fU c5J λx=>IU x.1 x.2
def Ae(A:Int)(B:Int):Option ak:=o5 (wC (wrap .u64 (oD A (J3 .i64 0 A))) (wrap .u64 (oD B (J3 .i64 0 B)))) λx=>l7 (D9 (x8 x.1 0)) (some (0,3)) (l7 (E9 1000000000000000 x.2) (some (0,3)) (l7 (D9 (jT (E9 A 0) (E9 B 0))) (some (J3 .i64 0 (wrap .i64 x.2),0)) (some (wrap .i64 x.2,0))))
def c5W:FQ:=⟨[Y5,Y5],⟨[(.tmp 4,Y5),(.tmp 5,Y5)],[]⟩,mE 38 [(80,s80)],P9⟩
def c7A:FSpec:=fU c5W λx=>Ae x.1 x.2
def Ij(A:Int)(B:Int)(C:Int)(D:Int):Option ak:=o5 (uz D) λx=>l7 (D9 x) (some (0,1)) (l7 (x8 C 0) (some (0,12)) (o5 (o5 (lS A 1000000000000000) λx=>l7 x (some (.inr (0,3))) (o5 (lS B 1000000000) λx=>l7 x (some (.inr (0,3))) (o5 (lS C 1000000000) λx=>l7 x (some (.inr (0,3))) (some (.inl ()))))) λo=>X9 o (λx=>o5 (oq A) λx=>o5 (oq B) λc=>o5 (wC x c) λx=>o5 (oq C) λb=>l7 (N7 b x.1) (some (0,3)) (o5 (oh x.1 x.2 b) λx=>l7 (E9 1000000000000000 x.1) (some (0,3)) (o5 (qj x.1 x.2 b (D9 (jT (D9 (jT (E9 A 0) (E9 B 0))) (E9 C 0))) D) λx=>l7 (E9 1000000000000000 x) (some (0,3)) (o5 (DW x (D9 (jT (D9 (jT (E9 A 0) (E9 B 0))) (E9 C 0)))) λx=>some (x,0))))) λr=>some r))
def c6h:FQ:=⟨[Y5,Y5,Y5,Y5],⟨[(.tmp 8,Y5),(.tmp 9,Y5)],[]⟩,mE 72 [(251,b9u),(50,s50),(252,c1Z),(80,s80),(242,b9t),(253,c2a),(254,c2b)],sN 3 (iq (jnR [(8,10),(21,31)] sgN P9) P9)⟩
def c7H:FSpec:=fU c6h λx=>Ij x.1 x.2.1 x.2.2.1 x.2.2.2
def Jj(A:Int)(B:Int)(C:Int):Option ak:=o5 (Ij A B 1000000 C) λx=>some x
def c5X:FQ:=⟨[Y5,Y5,Y5],⟨[(.tmp 6,Y5),(.tmp 7,Y5)],[]⟩,mE 14 [(255,c7H)],P9⟩
def c7B:FSpec:=fU c5X λx=>Jj x.1 x.2.1 x.2.2
def DY(A:Int):c9n:=l7 (N7 0 A) (some (N7 A 5)) (some false)
def c6i:FQ:=⟨[Y5],tR 2 ny,mE 9 [],P9⟩
def c2c:FSpec:=fU c6i λx=>DY x
def zx(A:Int)(B:Int):c9n:=l7 (E9 B A) (some true) (some (E9 A (J3 .i64 0 B)))
def c6j:FQ:=⟨[Y5,Y5],tR 4 ny,mE 14 [],P9⟩
def c2d:FSpec:=fU c6j λx=>zx x.1 x.2
def Qk(A:Int)(B:Int)(C:Int):Option ak:=o5 (DY C) λx=>l7 (D9 x) (some (0,1)) (o5 (zx A 1000000000) λx=>l7 x (some (0,3)) (o5 (zx B 1000000000) λx=>l7 x (some (0,3)) (o5 (kz (aA .i64 A B) 1000000 C) λx=>l7 (D9 (x8 x.2 0)) (some (0,x.2)) (o5 (zx x.1 1000000000) λb=>l7 b (some (0,3)) (some (x.1,0))))))
def c5Y:FQ:=⟨[Y5,Y5,Y5],⟨[(.tmp 6,Y5),(.tmp 7,Y5)],[]⟩,mE 33 [(256,c2c),(257,c2d),(243,b6N)],P9⟩
def c7C:FSpec:=fU c5Y λx=>Qk x.1 x.2.1 x.2.2
def Be(A:Int)(B:Int)(C:Int):Option ak:=o5 (uz C) λx=>l7 (D9 x) (some (0,1)) (l7 (E9 B 1) (some (0,12)) (o5 (lS A 1000000000000000) λx=>l7 x (some (0,3)) (l7 (E9 1000000000000000 B) (some (0,3)) (o5 (kz A B C) λx=>l7 (D9 (x8 x.2 0)) (some (0,x.2)) (o5 (lS (aA .i64 x.1 B) 1000000000000000) λb=>l7 b (some (0,3)) (some (aA .i64 x.1 B,0)))))))
def c5Z:FQ:=⟨[Y5,Y5,Y5],⟨[(.tmp 6,Y5),(.tmp 7,Y5)],[]⟩,mE 38 [(251,b9u),(50,s50),(243,b6N)],P9⟩
def c7D:FSpec:=fU c5Z λx=>Be x.1 x.2.1 x.2.2
def FN(A:Int)(B:Int)(C:Int)(D:Bool)(E:Int):c9n:=l7 (x8 B 0) (some false) (l7 (x8 E 0) (some D) (l7 (x8 E 1) (some (D9 D)) (l7 (x8 E 3) (some true) (l7 (x8 E 4) (some (N7 (J3 .u64 C B) B)) (l7 (x8 E 5) (l7 (E9 (J3 .u64 C B) B) (some true) (l7 (x8 B (J3 .u64 C B)) (some (x8 (eF A 2) 1)) (some false))) (some false))))))
def c6k:FQ:=⟨[(false,(dT (.int .u64))),(false,(dT (.int .u64))),(false,(dT (.int .u64))),ny,Y5],tR 10 ny,mE 49 [],P9⟩
def c7I:FSpec:=fU c6k λx=>FN x.1 x.2.1 x.2.2.1 x.2.2.2.1 x.2.2.2.2
def zu(A:Int)(B:Int)(C:Int):Option ak:=o5 (DY C) λx=>l7 (D9 x) (some (0,1)) (l7 (x8 B 0) (some (0,12)) (o5 (zx A 1000000000000000) λx=>l7 x (some (0,3)) (o5 (zx B 1000000000000000) λx=>l7 x (some (0,3)) (o5 (wC (wrap .u64 (oD A (J3 .i64 0 A))) 1000000) λx=>l7 (N7 (wrap .u64 (oD B (J3 .i64 0 B))) x.1) (some (0,3)) (o5 (oh x.1 x.2 (wrap .u64 (oD B (J3 .i64 0 B)))) λx=>l7 (E9 1000000000 x.1) (some (0,3)) (o5 (FN x.1 x.2 (wrap .u64 (oD B (J3 .i64 0 B))) (D9 (jT (E9 A 0) (E9 B 0))) C) λb=>l7 b (l7 (E9 1000000000 (A7 .i64 (wrap .i64 x.1) 1)) (some (0,3)) (l7 (D9 (jT (E9 A 0) (E9 B 0))) (some (J3 .i64 0 (A7 .i64 (wrap .i64 x.1) 1),0)) (some (A7 .i64 (wrap .i64 x.1) 1,0)))) (l7 (E9 1000000000 (wrap .i64 x.1)) (some (0,3)) (l7 (D9 (jT (E9 A 0) (E9 B 0))) (some (J3 .i64 0 (wrap .i64 x.1),0)) (some (wrap .i64 x.1,0))))))))))
def c6a:FQ:=⟨[Y5,Y5,Y5],⟨[(.tmp 6,Y5),(.tmp 7,Y5)],[]⟩,mE 73 [(256,c2c),(257,c2d),(80,s80),(242,b9t),(258,c7I)],P9⟩
def c7E:FSpec:=fU c6a λx=>zu x.1 x.2.1 x.2.2
def CO(A:ak)(B:D8)(C:D8):Option (D8×Int):=l7 (x8 A.1 13) (o5 (Ae B.2.2 C.2.2) λx=>some ((B.1,0,x.1),x.2)) (o5 (l7 (x8 A.1 14) (some (x8 B.1 3)) (some false)) λx=>l7 x (o5 (Jj B.2.2 C.2.2 A.2) λx=>some ((B.1,0,x.1),x.2)) (l7 (x8 A.1 14) (o5 (Qk B.2.2 C.2.2 A.2) λx=>some ((B.1,0,x.1),x.2)) (l7 (x8 A.1 16) (o5 (Be B.2.2 C.2.2 A.2) λx=>some ((B.1,0,x.1),x.2)) (l7 (x8 C.1 2) (o5 (kz B.2.2 C.2.2 A.2) λx=>some ((B.1,0,x.1),x.2)) (o5 (zu B.2.2 C.2.2 A.2) λx=>some ((4,0,x.1),x.2))))))
def c5Q:FQ:=⟨[tD y2,tD y3,tD y3],⟨[(.cell 6 39,tD y3),(.tmp 7,Y5)],[]⟩,mE 105 [(244,c7A),(245,c7B),(246,c7C),(247,c7D),(243,b6N),(248,c7E)],sN 2 (iq (lK (sN 1 (.cond P9 (iq (.join [(38,47)] ⟨[(38,ny)],[]⟩ P9) P9)))) P9)⟩
def c7y:FSpec:=fU c5Q λx=>CO x.1 x.2.1 x.2.2
def Hz(A:Int)(B:Int)(C:Int):Option ak:=o5 (l7 (E9 A 1900) (some (.inr (0,3))) (l7 (E9 2199 A) (some (.inr (0,3))) (l7 (E9 B 1) (some (.inr (0,3))) (l7 (E9 12 B) (some (.inr (0,3))) (l7 (E9 C 1) (some (.inr (0,3))) (o5 (kF A B) λx=>l7 (E9 x C) (some (.inr (0,3))) (some (.inl ())))))))) λo=>X9 o (λx=>o5 (sW A) λx=>o5 (ay (λ(x:ak)=>l7 (E9 x.2 (J3 .i64 B 1)) (o5 (kF A (A7 .i64 x.2 1)) λb=>some (.inl (A7 .i64 x.1 b,A7 .i64 x.2 1))) (some (.inr x.1))) (x,0)) λy=>some (J3 .i64 (A7 .i64 y C) 1,0)) λr=>some r
def c6b:FQ:=⟨[Y5,Y5,Y5],⟨[(.tmp 6,Y5),(.tmp 7,Y5)],[]⟩,mE 53 [(149,b9p),(148,c1N)],sN 1 (iq (jnR [(6,8),(10,35)] sgN P9) (sN 1 (iq (sN 1 (lK (.loop [(8,10),(39,49)] ⟨[(8,Y5),(39,Y5)],[]⟩ 0 ⟨[(8,Y5)],[]⟩ P9))) P9)))⟩
def c7F:FSpec:=fU c6b λx=>Hz x.1 x.2.1 x.2.2
def wH(A:Int)(B:Int):Option ak:=o5 (o5 (xx A) λx=>l7 (D9 x) (some (.inr (0,3))) (l7 (E9 B (-3600)) (some (.inr (0,3))) (l7 (E9 3600 B) (some (.inr (0,3))) (some (.inl ()))))) λo=>X9 o (λx=>o5 (xw A) λx=>l7 (E9 (A7 .i64 (J3 .i64 (A7 .i64 (aA .i64 (J3 .i64 x.1 1900) 12) x.2.1) 1) B) 0) (some (0,3)) (l7 (E9 3599 (A7 .i64 (J3 .i64 (A7 .i64 (aA .i64 (J3 .i64 x.1 1900) 12) x.2.1) 1) B)) (some (0,3)) (o5 (kF (A7 .i64 1900 (dV .i64 (A7 .i64 (J3 .i64 (A7 .i64 (aA .i64 (J3 .i64 x.1 1900) 12) x.2.1) 1) B) 12)) (A7 .i64 (eF (A7 .i64 (J3 .i64 (A7 .i64 (aA .i64 (J3 .i64 x.1 1900) 12) x.2.1) 1) B) 12) 1)) λb=>o5 (Hz (A7 .i64 1900 (dV .i64 (A7 .i64 (J3 .i64 (A7 .i64 (aA .i64 (J3 .i64 x.1 1900) 12) x.2.1) 1) B) 12)) (A7 .i64 (eF (A7 .i64 (J3 .i64 (A7 .i64 (aA .i64 (J3 .i64 x.1 1900) 12) x.2.1) 1) B) 12) 1) (qR x.2.2 b)) λx=>some x))) λr=>some r
def c5R:FQ:=⟨[Y5,Y5],⟨[(.tmp 4,Y5),(.tmp 5,Y5)],[]⟩,mE 57 [(119,b6z),(120,b6A),(149,b9p),(249,c7F)],sN 1 (iq (jnR [(4,6),(10,21)] sgN P9) P9)⟩
def c1Y:FSpec:=fU c5R λx=>wH x.1 x.2
def qC(A:Int)(B:Int):c9o:=o5 (xx A) λx=>l7 (D9 x) (some 0) (o5 (xx B) λx=>l7 (D9 x) (some 0) (l7 (E9 B A) (some 0) (o5 (xw A) λx=>o5 (xw B) λb=>o5 (wH A (aA .i64 12 (J3 .i64 b.1 x.1))) λc=>l7 (D9 (x8 c.2 0)) (some (oD (J3 .i64 (J3 .i64 b.1 x.1) 1) 0)) (l7 (E9 B c.1) (some (oD (J3 .i64 (J3 .i64 b.1 x.1) 1) 0)) (some (oD (J3 .i64 b.1 x.1) 0))))))
def c5S:FQ:=⟨[Y5,Y5],tR 4 Y5,mE 60 [(119,b6z),(120,b6A),(240,c1Y)],P9⟩
def c7z:FSpec:=fU c5S λx=>qC x.1 x.2
def kY(A:ak)(B:D8)(C:D8):Option (D8×Int):=o5 (o5 (l7 (x8 A.1 11) (some (x8 A.1 11)) (some (x8 A.1 27))) λx=>l7 x (some (.inr ((B.1,0,A7 .i64 B.2.2 C.2.2),0))) (l7 (x8 A.1 12) (some (.inr ((B.1,0,J3 .i64 B.2.2 C.2.2),0))) (o5 (l7 (x8 A.1 13) (some (x8 A.1 13)) (l7 (x8 A.1 14) (some (x8 A.1 14)) (l7 (x8 A.1 15) (some (x8 A.1 15)) (some (x8 A.1 16))))) λx=>l7 x (o5 (CO A B C) λx=>some (.inr x)) (o5 (l7 (x8 A.1 17) (some (x8 A.1 17)) (some (x8 A.1 18))) λx=>l7 x (l7 (jT (x8 A.1 17) (E9 C.2.2 B.2.2)) (some (.inr (C,0))) (some (.inr (B,0)))) (l7 (x8 A.1 19) (o5 (sZ (x8 B.2.2 C.2.2)) λx=>some (.inr (x,0))) (l7 (x8 A.1 20) (o5 (sZ (D9 (x8 B.2.2 C.2.2))) λx=>some (.inr (x,0))) (l7 (x8 A.1 21) (o5 (sZ (E9 B.2.2 C.2.2)) λx=>some (.inr (x,0))) (l7 (x8 A.1 22) (o5 (sZ (N7 B.2.2 C.2.2)) λx=>some (.inr (x,0))) (l7 (x8 A.1 23) (l7 (x8 B.2.2 1) (o5 (sZ (x8 C.2.2 1)) λx=>some (.inr (x,0))) (o5 (sZ false) λx=>some (.inr (x,0)))) (l7 (x8 A.1 24) (l7 (x8 B.2.2 1) (o5 (sZ true) λx=>some (.inr (x,0))) (o5 (sZ (x8 C.2.2 1)) λx=>some (.inr (x,0)))) (l7 (x8 A.1 28) (o5 (wH B.2.2 C.2.2) λx=>some (.inr ((5,0,x.1),x.2))) (l7 (x8 A.1 29) (some (.inr ((2,0,J3 .i64 C.2.2 B.2.2),0))) (some (.inl (0,0,0))))))))))))))) λo=>X9 o (λ(x:D8)=>o5 (qC B.2.2 C.2.2) λx=>some ((2,0,x),0)) λr=>some r
def c5K:FQ:=⟨[tD y2,tD y3,tD y3],⟨[(.cell 6 39,tD y3),(.tmp 7,Y5)],[]⟩,mE 139 [(239,c7y),(238,c1X),(240,c1Y),(241,c7z)],sN 1 (iq (jnR [(6,133),(4000384,4000385)] ⟨[(6,(false,(.box (dT y3))))],[]⟩ (sN 1 (lK (iq (.join [(12,15)] ⟨[(12,ny)],[]⟩ P9) (.cond P9 (sN 1 (.cond P9 (iq (.join [(33,38)] ⟨[(33,ny)],[]⟩ P9) (.cond P9 (iq (.join [(44,47)] ⟨[(44,ny)],[]⟩ P9) P9)))))))))) P9)⟩
def c7v:FSpec:=fU c5K λx=>kY x.1 x.2.1 x.2.2
def aU(A:ak)(B:List D8)(C:aK):Option (D8×Int):=o5 (o5 (l7 (x8 A.1 1) (some (x8 A.1 1)) (l7 (x8 A.1 2) (some (x8 A.1 2)) (l7 (x8 A.1 3) (some (x8 A.1 3)) (l7 (x8 A.1 4) (some (x8 A.1 4)) (some (x8 A.1 5)))))) λx=>l7 x (some (.inr ((A.1,0,A.2),0))) (l7 (x8 A.1 6) (some (.inr ((6,dV .i64 A.2 16,eF A.2 16),0))) (l7 (x8 A.1 7) (o5 (F9 C.2.1 A.2) λx=>some (.inr (x,0))) (l7 (x8 A.1 8) (o5 (F9 C.2.2.1 A.2) λx=>some (.inr (x,0))) (l7 (x8 A.1 9) (some (.inr ((5,0,C.1),0))) (l7 (x8 A.1 35) (some (.inr ((2,0,o9 C.2.2.2.1),0))) (o5 (l7 (x8 A.1 36) (some (x8 A.1 36)) (l7 (x8 A.1 37) (some (x8 A.1 37)) (l7 (x8 A.1 38) (some (x8 A.1 38)) (some (x8 A.1 39))))) λx=>l7 x (o5 (wJ A C) λx=>some (.inr x)) (l7 (x8 A.1 33) (o5 (F9 C.2.2.2.2.2 A.2) λx=>o5 (F9 B 0) λb=>o5 (Iy x C.1 b.2.2) λc=>l7 (D9 c.2) (some (.inr ((0,0,0),6))) (o5 (F9 x.2.2.2 c.1) λd=>some (.inr ((x.2.2.1.1,x.2.2.1.2,d.2.2.2),0)))) (l7 (x8 A.1 34) (o5 (F9 C.2.2.2.2.2 (dV .i64 A.2 8)) λx=>o5 (F9 B 0) λb=>o5 (En x C.1 b.2.2 (eF A.2 8)) λx=>some (.inr ((3,0,x.1),x.2))) (some (.inl (0,0,0)))))))))))) λo=>X9 o (λ(x:D8)=>l7 (x8 (o9 B) 1) (o5 (F9 B 0) λx=>o5 (IU A.1 x) λx=>some (x,0)) (l7 (x8 (o9 B) 2) (o5 (F9 B 0) λx=>o5 (F9 B 1) λb=>o5 (kY A x b) λx=>some x) (o5 (F9 B 0) λx=>l7 (x8 x.2.2 1) (o5 (F9 B 1) λx=>some (x,0)) (o5 (F9 B 2) λx=>some (x,0))))) λr=>some r
def c5v:FQ:=⟨[tD y2,uD y29,tD y62],⟨[(.cell 6 39,tD y3),(.tmp 7,Y5)],[]⟩,mE 165 [(227,c7r),(228,c7s),(229,c7t),(230,c7u),(231,c7v)],sN 1 (iq (jnR [(6,132),(4000384,4000385)] ⟨[(6,(false,(.box (dT y3))))],[]⟩ (sN 1 (lK (iq (.join [(15,21)] ⟨[(15,ny)],[]⟩ P9) (.cond P9 (sN 1 (.cond P9 (sN 1 (.cond P9 (sN 1 (.cond P9 (sN 1 (.cond P9 (sN 1 (.cond P9 (iq (.join [(62,67)] ⟨[(62,ny)],[]⟩ P9) P9)))))))))))))))) P9)⟩
def c7l:FSpec:=fU c5v λx=>aU x.1 x.2.1 x.2.2
def BV(A:ak)(B:List D8)(C:aK):Option (D8×Int):=o5 (o5 (uw A) λx=>l7 (D9 x) (some (.inr ((0,0,0),2))) (o5 (qN A.1) λx=>l7 (D9 (x8 (o9 B) x)) (some (.inr ((0,0,0),2))) (some (.inl (0,0,0))))) λo=>X9 o (λ(x:D8)=>o5 (jW A C) λx=>l7 (D9 x) (some ((0,0,0),6)) (o5 (yM B) λx=>l7 (D9 x) (some ((0,0,0),8)) (o5 (aT A B C) λx=>l7 (D9 x) (some ((0,0,0),8)) (o5 (aU A B C) λx=>l7 (D9 (x8 x.2 0)) (some ((0,0,0),x.2)) (o5 (je x.1) λb=>l7 (D9 b) (some ((0,0,0),3)) (some (x.1,0))))))) λr=>some r
def c5i:FQ:=⟨[tD y2,uD y29,tD y62],⟨[(.cell 6 39,tD y3),(.tmp 7,Y5)],[]⟩,mE 54 [(208,c7h),(179,b2Z),(209,c7i),(210,c7j),(211,c7k),(212,c7l),(213,a9m)],sN 1 (iq (jnR [(6,8),(10,22),(4000384,4000385)] ⟨[(6,(false,(.box (dT y3))))],[]⟩ P9) P9)⟩
def c7a:FSpec:=fU c5i λx=>BV x.1 x.2.1 x.2.2
def b5I:List MG:=[(true,(.dat y78)),Y5]
def a2U:List MG:=[(true,(.dat y78)),Y5]
def b5H:List MG:=[(true,(.dat y78)),(true,(.dat y2)),(false,(.dat y46))]
def c6p:Ret:=⟨[(.cell 4 39,(true,(.dat y3))),(.tmp 5,Y5)],[]⟩
def c8U (r207:M.den (.dat y78)->M.den diM->Option (iy ([(true,(.dat y3)),Y5]++[]))) (r161:M.den (.dat y78)->M.den diM->Option (iy ([(true,(.dat y3)),Y5]++[]))) (r190:M.den (.dat y78)->M.den (.dat y2)->M.den (.dat y46)->Option (iy ([(true,(.dat y3)),Y5]++[]))):Env:=⟨28,eqs,tt,gl,[(161,⟨a2U,[(true,(.dat y3)),Y5],[],λx=>r161 x.1 x.2⟩),(213,a9m)],[],[],[],[],[]⟩
def c3Q:Ann:=.leaf
def rH(r207:aZ->Int->Option (D8×Int))(r161:aZ->Int->Option (D8×Int))(r190:aZ->ak->c9h->Option (D8×Int))(A:aZ)(B:Int):Option (D8×Int):=o5 (r161 A B) λx=>l7 (D9 (x8 x.2 0)) (some ((0,0,0),x.2)) (l7 (D9 (x8 x.1.1 1)) (some ((0,0,0),8)) (o5 (je x.1) λb=>l7 (D9 b) (some ((0,0,0),8)) (some (x.1,0))))
def c0q:Ret:=⟨[(.cell 4 39,(true,(.dat y3))),(.tmp 5,Y5)],[]⟩
def c8S (r207:M.den (.dat y78)->M.den diM->Option (iy ([(true,(.dat y3)),Y5]++[]))) (r161:M.den (.dat y78)->M.den diM->Option (iy ([(true,(.dat y3)),Y5]++[]))) (r190:M.den (.dat y78)->M.den (.dat y2)->M.den (.dat y46)->Option (iy ([(true,(.dat y3)),Y5]++[]))):Env:=⟨65,eqs,tt,gl,[(189,c6Z),(190,⟨b5H,[(true,(.dat y3)),Y5],[],λx=>r190 x.1 x.2.1 x.2.2⟩),(161,⟨a2U,[(true,(.dat y3)),Y5],[],λx=>r161 x.1 x.2⟩),(191,c7a)],[],[],[],[],[]⟩
def c3O:Ann:=.seq P9 (.seq P9 (.seq P9 (.seq (.joinR [(4,6),(21,33),(4000256,4000257)] ⟨[(4,(false,(.box (.dat y3))))],[]⟩ P9) (.seq P9 (.seq (.seq P9 (.blk (.loopR [(4,6),(8,13),(38,58),(12000000,12000001),(37002240,37002241)] ⟨[(4,(false,(.box (.dat y3)))),(8,(false,(.own y3))),(38,Y5)],[]⟩ 1 ⟨[(4,(false,(.box (.dat y3)))),(8,(false,(.own y3)))],[]⟩ P9))) P9)))))
def vG(r207:aZ->Int->Option (D8×Int))(r161:aZ->Int->Option (D8×Int))(r190:aZ->ak->c9h->Option (D8×Int))(A:aZ)(B:Int):Option (D8×Int):=o5 (F9 A.1 B) λx=>o5 (mF A B) λb=>o5 (l7 (x8 x.1 23) (l7 (x8 x.1 23) (o5 (r190 A x b) λx=>some (.inr x)) (some (.inl (0,0,0)))) (l7 (x8 x.1 24) (l7 (x8 x.1 24) (o5 (r190 A x b) λx=>some (.inr x)) (some (.inl (0,0,0)))) (l7 (x8 x.1 26) (o5 (r190 A x b) λx=>some (.inr x)) (some (.inl (0,0,0)))))) λo=>X9 o (λ(d:D8)=>o5 (qU (o9 b) (0,0,0)) λf=>o5 (V7 (λ(x:D8×List D8×Int)=>l7 (E9 x.2.2 (o9 b)) (o5 (F9 b x.2.2) λi=>o5 (O8 b (U6 x.2.2)) λg=>o5 (r161 A g) λc=>l7 (D9 (x8 c.2 0)) (some (.rt ((0,0,0),c.2))) (o5 (F9 x.2.1 x.2.2) λj=>o5 (O8 x.2.1 (U6 x.2.2)) λk=>some (.nx (x.1,bu x.2.1 (U6 x.2.2) c.1,A7 .i64 x.2.2 1)))) (some (.ex (x.1,x.2.1)))) (d,f,0)) λo=>X9 o (λ(y:D8×List D8)=>o5 (BV x y.2 A.2.2) λx=>some x) λr=>some r) λr=>some r
def c6o:Ret:=⟨[(.cell 6 39,(true,(.dat y3))),(.tmp 7,Y5)],[]⟩
def c8T (r207:M.den (.dat y78)->M.den diM->Option (iy ([(true,(.dat y3)),Y5]++[]))) (r161:M.den (.dat y78)->M.den diM->Option (iy ([(true,(.dat y3)),Y5]++[]))) (r190:M.den (.dat y78)->M.den (.dat y2)->M.den (.dat y46)->Option (iy ([(true,(.dat y3)),Y5]++[]))):Env:=⟨69,eqs,tt,gl,[(207,⟨b5I,[(true,(.dat y3)),Y5],[],λx=>r207 x.1 x.2⟩),(161,⟨a2U,[(true,(.dat y3)),Y5],[],λx=>r161 x.1 x.2⟩)],[],[],[],[],[]⟩
def c3P:Ann:=.seq P9 (.seq P9 (.seq P9 (.seq P9 (.seq (.blk (.seq (.join [(26,35)] ⟨[(26,ny)],[]⟩ P9) P9)) P9))))
def pq(r207:aZ->Int->Option (D8×Int))(r161:aZ->Int->Option (D8×Int))(r190:aZ->ak->c9h->Option (D8×Int))(A:aZ)(B:ak)(C:c9h):Option (D8×Int):=l7 (D9 (x8 B.2 0)) (some ((0,0,0),2)) (o5 (F9 C 0) λx=>o5 (r207 A x) λx=>l7 (D9 (x8 x.2 0)) (some ((0,0,0),x.2)) (o5 (l7 (x8 B.1 26) (some (x8 x.1.2.2 1)) (some false)) λb=>l7 b (o5 (F9 C 1) λx=>o5 (r161 A x) λx=>some x) (l7 (x8 B.1 26) (o5 (F9 C 2) λx=>o5 (r161 A x) λx=>some x) (l7 (jT (x8 B.1 23) (x8 x.1.2.2 0)) (some (x.1,0)) (o5 (F9 C 1) λx=>o5 (r207 A x) λx=>some x)))))
def D7:Nat->(M.den (.dat y78)->M.den diM->Option (iy ([(true,(.dat y3)),Y5]++[])))×(M.den (.dat y78)->M.den diM->Option (iy ([(true,(.dat y3)),Y5]++[])))×(M.den (.dat y78)->M.den (.dat y2)->M.den (.dat y46)->Option (iy ([(true,(.dat y3)),Y5]++[])))|0=>(λa0 a1=>none,λa0 a1=>none,λa0 a1 a2=>none)|n+1=>(λa0 a1=>rH (D7 n).1 (D7 n).2.1 (D7 n).2.2 a0 a1,λa0 a1=>vG (D7 n).1 (D7 n).2.1 (D7 n).2.2 a0 a1,λa0 a1 a2=>pq (D7 n).1 (D7 n).2.1 (D7 n).2.2 a0 a1 a2)
def AQ:M.den (.dat y78)->M.den diM->Option (iy ([(true,(.dat y3)),Y5]++[])):=λa0 a1=>(D7 lG).2.1 a0 a1
def c6T:FSpec:=mkS a2U c0q λx=>AQ x.1 x.2
def LM(A:List ak)(B:aK):Option (D8×Int):=o5 (PL A) λx=>l7 (D9 (x8 x.2 0)) (some ((0,0,0),x.2)) (o5 (AQ (A,x.1,B) (J3 .i64 (o9 A) 1)) λx=>some x)
def c4M:FQ:=⟨[uD y12,tD y62],⟨[(.cell 4 39,tD y3),(.tmp 5,Y5)],[]⟩,mE 27 [(160,c6S),(161,c6T)],P9⟩
def c1M:FSpec:=fU c4M λx=>LM x.1 x.2
def yS(A:c9h)(B:c9h):c9o:=l7 (D9 (x8 (o9 A) (o9 B))) (some 2) (l7 (E9 8 (o9 A)) (some 4) (o5 (V7 (λ(x:Int)=>l7 (E9 x (o9 A)) (o5 (F9 A x) λb=>l7 (E9 b (-1)) (some (.rt 9)) (l7 (N7 x b) (some (.rt 9)) (o5 (F9 B x) λc=>l7 (E9 c 0) (some (.rt 3)) (o5 (F9 B x) λd=>l7 (E9 9 d) (some (.rt 3)) (some (.nx (A7 .i64 x 1))))))) (some (.ex ()))) 0) λo=>X9 o (λy=>some 0) λr=>some r))
def c5e:FQ:=⟨[uD y46,uD y46],tR 4 Y5,mE 42 [],sN 3 (iq (sN 1 (lK (lpR [(4,7),(17,42)] ⟨[(17,Y5)],[]⟩ 0 sgN P9))) P9)⟩
def c6X:FSpec:=fU c5e λx=>yS x.1 x.2
def uZ(A:c9h)(B:Int):Option c9h:=o5 (ay (λ(x:c9h×Int)=>l7 (E9 x.2 (o9 A)) (o5 (F9 A x.2) λb=>l7 (x8 b B) (o5 (di x.1 [x.2]) λc=>some (.inl (c,A7 .i64 x.2 1))) (some (.inl (x.1,A7 .i64 x.2 1)))) (some (.inr x.1))) ([],0)) λy=>some y
def c5z:FQ:=⟨[uD y46,Y5],tR 4 uoM,mE 24 [],sN 2 (iq (sN 1 (lK (.loop [(5,8),(10,23)] ⟨[(5,uoM),(10,Y5)],[]⟩ 0 ⟨[(5,uoM)],[]⟩ P9))) P9)⟩
def c7n:FSpec:=fU c5z λx=>uZ x.1 x.2
def xO(A:fP)(B:Int):Option c9h:=o5 (uZ A.1 B) λx=>o5 (ay (λ(b:c9h×Int)=>l7 (E9 b.2 (o9 x)) (o5 (F9 x b.2) λk=>o5 (O8 x (U6 b.2)) λx=>o5 (F9 A.2.2 x) λg=>l7 (x8 g (-1)) (some (.inl (b.1,A7 .i64 b.2 1))) (o5 (l7 (E9 0 (o9 b.1)) (o5 (F9 A.2.1 x) λx=>o5 (F9 b.1 0) λc=>o5 (O8 b.1 (U6 0)) λd=>o5 (F9 A.2.1 d) λf=>l7 (E9 f x) (l7 (qp 0 0 (o9 b.1)) (some (qh b.1 (U6 0) (U6 0))) none) (some b.1)) (some b.1)) λc=>l7 (x8 (o9 c) 0) (o5 (di c [x]) λx=>some (.inl (x,A7 .i64 b.2 1))) (o5 (F9 A.2.1 x) λd=>o5 (F9 c 0) λf=>o5 (O8 c (U6 0)) λi=>o5 (F9 A.2.1 i) λj=>l7 (x8 d j) (o5 (di c [x]) λx=>some (.inl (x,A7 .i64 b.2 1))) (some (.inl (c,A7 .i64 b.2 1)))))) (some (.inr b.1))) ([],0)) λy=>some y
def c5q:FQ:=⟨[tD y80,Y5],tR 4 uoM,mE 67 [(221,c7n)],sN 2 (iq (sN 1 (lK (.loop [(5,6),(7,8),(13,66)] ⟨[(5,uoM),(13,Y5)],[]⟩ 0 ⟨[(5,uoM)],[]⟩ (sN 2 (iq (lK (sN 2 (iq (.join [(5,6),(23,43),(14000000,14000001)] ⟨[(5,uoM)],[]⟩ P9) P9))) P9))))) P9)⟩
def c7g:FSpec:=fU c5q λx=>xO x.1 x.2
def jE(A:fP)(B:Int):c9o:=o5 (xO A B) λx=>l7 (x8 (o9 x) 0) (some (-1)) (l7 (x8 (o9 x) 1) (o5 (F9 x 0) λb=>o5 (O8 x (U6 0)) λx=>o5 (F9 A.2.2 x) λx=>some x) (some (-2)))
def c5g:FQ:=⟨[tD y80,Y5],tR 4 Y5,mE 22 [(206,c7g)],P9⟩
def c1Q:FSpec:=fU c5g λx=>jE x.1 x.2
def yT(A:c9h)(B:c9h)(C:c9s):Option c9h:=o5 (qU (o9 A) 0) λx=>o5 (ay (λ(x:fP×Int)=>l7 (N7 0 x.2) (o5 (jE x.1 x.2) λb=>o5 (F9 x.1.2.2 x.2) λf=>o5 (O8 x.1.2.2 (U6 x.2)) λg=>o5 (F9 (bu x.1.2.2 (U6 x.2) b) x.2) λi=>o5 (O8 (bu x.1.2.2 (U6 x.2) b) (U6 x.2)) λc=>l7 (x8 c (-1)) (o5 (F9 C x.2) λd=>l7 d (o5 (F9 (bu x.1.2.2 (U6 x.2) b) x.2) λj=>o5 (O8 (bu x.1.2.2 (U6 x.2) b) (U6 x.2)) λk=>some (.inl ((x.1.1,x.1.2.1,bu (bu x.1.2.2 (U6 x.2) b) (U6 x.2) x.2),J3 .i64 x.2 1))) (some (.inl ((x.1.1,x.1.2.1,bu x.1.2.2 (U6 x.2) b),J3 .i64 x.2 1)))) (some (.inl ((x.1.1,x.1.2.1,bu x.1.2.2 (U6 x.2) b),J3 .i64 x.2 1)))) (some (.inr x.1))) ((A,B,x),J3 .i64 (o9 A) 1)) λy=>some y.2.2
def c5f:FQ:=⟨[uD y46,uD y46,(uD (.sl .bool))],tR 6 uoM,mE 48 [(188,c1Q)],sN 2 (iq (sN 1 (lK (.loop [(7,9),(18,46),(7000448,7000449),(7000832,7000833)] ⟨[(7,(false,(.box (pA (dT y46) (pA (dT y46) oiM))))),(8,Y5)],[]⟩ 0 ⟨[(7,(false,(.box (pA (dT y46) (pA (dT y46) oiM)))))],[]⟩ P9))) P9)⟩
def c6Y:FSpec:=fU c5f λx=>yT x.1 x.2.1 x.2.2
def BN(A:c9h)(B:c9h)(C:c9s):c9o:=o5 (yS A B) λx=>l7 (D9 (x8 x 0)) (some (-1)) (l7 (D9 (x8 (o9 C) (o9 A))) (some (-1)) (o5 (yT A B C) λx=>o5 (jE (A,B,x) (-1)) λx=>some x))
def c4V:FQ:=⟨[uD y46,uD y46,(uD (.sl .bool))],tR 6 Y5,mE 26 [(186,c6X),(187,c6Y),(188,c1Q)],P9⟩
def c6R:FSpec:=fU c4V λx=>BN x.1 x.2.1 x.2.2
def BC(A:A8)(B:aK)(C:Int)(D:Int):Option (Int×jv):=o5 (Ad A D B.1) λx=>o5 (qU (o9 x.1) false) λd=>o5 (V7 (λ(b:jv×c9s×Int)=>l7 (E9 b.2.2 (o9 x.1)) (o5 (F9 x.1 b.2.2) λf=>o5 (O8 x.1 (U6 b.2.2)) λx=>o5 (F9 A.2.2.2.2 x) λg=>l7 (x8 (o9 g.2.2.2.2.2.1) 0) (o5 (F9 b.2.1 b.2.2) λx=>o5 (O8 b.2.1 (U6 b.2.2)) λx=>some (.nx (b.1,bu b.2.1 (U6 b.2.2) true,A7 .i64 b.2.2 1))) (o5 (F9 A.2.2.2.2 x) λi=>o5 (LM i.2.2.2.2.2.1 B) λc=>l7 (D9 (x8 c.2 0)) (some (.rt (0,c.2,C,D,x))) (o5 (F9 b.2.1 b.2.2) λx=>o5 (O8 b.2.1 (U6 b.2.2)) λx=>some (.nx (b.1,bu b.2.1 (U6 b.2.2) (x8 c.1.2.2 1),A7 .i64 b.2.2 1))))) (some (.ex (b.1,b.2.1)))) ((0,0,0,0),d,0)) λo=>X9 o (λ(y:jv×c9s)=>o5 (BN x.2.1 x.2.2 y.2) λb=>l7 (E9 b 0) (some (b,0,0,0,0)) (o5 (F9 x.1 b) λf=>o5 (O8 x.1 (U6 b)) λx=>some (x,0,0,0,0))) λr=>some r
def c4K:FQ:=⟨[tD y24,tD y62,Y5,Y5],⟨[(.tmp 8,Y5),(.cell 9 118,tD y42)],[]⟩,mE 87 [(158,c6Q),(140,c1M),(159,c6R)],sN 3 (iq (sN 1 (lK (lpR [(8,10),(13,18),(33,74),(4000576,4000577),(10001920,10001921)] ⟨[(9,(false,(.box (dT y42)))),(13,(uO .bool)),(33,Y5)],[]⟩ 0 ⟨[(9,(false,(.box (dT y42)))),(13,(uO .bool))],[]⟩ P9))) P9)⟩
def c6L:FSpec:=fU c4K λx=>BC x.1 x.2.1 x.2.2.1 x.2.2.2
def jX(A:A8)(B:aK)(C:Int)(D:c9s):Option (c9h×jv×aK):=o5 (qU (o9 A.2.2.2.1) (0,0,0)) λx=>o5 (qU (o9 A.2.2.2.1) 0) λg=>o5 (uF A) λd=>o5 (V7 (λ(x:aK×jv×c9h×Int)=>l7 (E9 x.2.2.2 (o9 d.1)) (o5 (F9 d.1 x.2.2.2) λq=>o5 (O8 d.1 (U6 x.2.2.2)) λb=>o5 (F9 D b) λi=>l7 (D9 i) (some (.nx (x.1,x.2.1,x.2.2.1,A7 .i64 x.2.2.2 1))) (o5 (BC A x.1 C b) λc=>l7 (D9 (x8 c.2.1 0)) (some (.rt ([],c.2,x.1))) (l7 (x8 c.1 (-1)) (some (.rt ([],(10,C,b,-1),x.1))) (l7 (x8 c.1 (-2)) (some (.rt ([],(11,C,b,-1),x.1))) (o5 (F9 A.2.2.2.2 c.1) λj=>o5 (LM j.2.2.2.2.2.2.1 x.1) λf=>l7 (D9 (x8 f.2 0)) (some (.rt ([],(f.2,C,b,c.1),x.1))) (o5 (F9 x.1.2.2.1 b) λt=>o5 (O8 x.1.2.2.1 (U6 b)) λk=>o5 (F9 x.2.2.1 b) λn=>o5 (O8 x.2.2.1 (U6 b)) λp=>some (.nx ((x.1.1,x.1.2.1,bu x.1.2.2.1 (U6 b) f.1,x.1.2.2.2),x.2.1,bu x.2.2.1 (U6 b) c.1,A7 .i64 x.2.2.2 1)))))))) (some (.ex (x.1,x.2.1,x.2.2.1)))) ((B.1,B.2.1,x,B.2.2.2),(0,0,0,0),g,0)) λo=>X9 o (λ(y:aK×jv×c9h)=>some (y.2.2,(0,0,0,0),y.1)) λr=>some r
def c4t:FQ:=⟨[tD y24,(false,(.box (pA diM (pA (dT y29) (pA (oW y3) (pA (dT y30) (pA (dT y12) (dT y9)))))))),Y5,(uD (.sl .bool))],⟨[(.tmp 8,uoM),(.cell 9 118,tD y42)],[(1,(true,(pA diM (pA (dT y29) (pA (oW y3) (pA (dT y30) (pA (dT y12) (dT y9))))))))]⟩,⟨105,eqs,tt,gl,[(138,c6K),(139,c6L),(140,c1M)],[],[],[],[1],[]⟩,sN 4 (iq (sN 1 (lK (lpR [(1,2),(8,11),(14,19),(37,103),(1000000,1000001),(4000576,4000577),(7001472,7001473),(10001856,10001857)] ⟨[(1,(false,(.box (pA diM (pA (dT y29) (pA (oW y3) (pA (dT y30) (pA (dT y12) (dT y9))))))))),(9,(false,(.box (dT y42)))),(10,uoM),(37,Y5)],[]⟩ 0 ⟨[(1,(false,(.box (pA diM (pA (dT y29) (pA (oW y3) (pA (dT y30) (pA (dT y12) (dT y9))))))))),(9,(false,(.box (dT y42)))),(10,uoM)],[]⟩ P9))) P9)⟩
def c6x:FSpec:=fU c4t λx=>jX x.1 x.2.1 x.2.2.1 x.2.2.2
def BA(A:S9)(B:Int)(C:dI)(D:dM):Option (Bl×aK×jv×dM):=o5 (ay (λ(x:(Int×List D8×PUnit×PUnit×List ak×List bn)×Int)=>l7 (E9 x.2 (o9 D.2.1.2.2.2.1)) (o5 (F9 D.2.1.2.2.2.1 x.2) λc=>o5 (di x.1.2.2.2.2.1 [c.2]) λb=>some (.inl ((x.1.1,x.1.2.1,(),(),b,x.1.2.2.2.2.2),A7 .i64 x.2 1))) (some (.inr (x.1.1,x.1.2.1,(),(),x.1.2.2.2.2)))) ((C.1,C.2.1,(),(),[],A.2.1),0)) λy=>o5 (V7 (λ(x:Bl×aK×jv×(Int×List D8×PUnit×List (List D8)×List ak×List bn)×Bl×Int)=>l7 (E9 x.2.2.2.2.2 (o9 C.2.2)) (o5 (F9 C.2.2 x.2.2.2.2.2) λc=>o5 (jX D.2.1 (C.1,c,[],[],[],A.2.1) x.2.2.2.2.2 D.2.2.2) λb=>l7 (D9 (x8 b.2.1.1 0)) (some (.rt (([],[],[]),(0,[],[],[],[],[]),b.2.1,D))) (o5 (di x.2.2.2.1.2.2.2.1 [b.2.2.2.2.1]) λd=>o5 (di x.2.2.2.2.1.2.2 [(b.2.2.2.2.1,b.1)]) λf=>some (.nx (x.1,x.2.1,x.2.2.1,(x.2.2.2.1.1,x.2.2.2.1.2.1,(),d,x.2.2.2.1.2.2.2.2),(x.2.2.2.2.1.1,x.2.2.2.2.1.2.1,f),A7 .i64 x.2.2.2.2.2 1)))) (some (.ex (x.1,x.2.1,x.2.2.1,(x.2.2.2.1.1,x.2.2.2.1.2.1,(),x.2.2.2.1.2.2.2),x.2.2.2.2.1)))) (([],[],[]),(0,[],[],[],[],[]),(0,0,0,0),(y.1,y.2.1,(),[],y.2.2.2.2),([],[],[]),0)) λo=>X9 o (λ(y:Bl×aK×jv×(Int×List D8×PUnit×List (List D8)×List ak×List bn)×Bl)=>o5 (jX D.1 (y.2.2.2.1.1,y.2.2.2.1.2.1,[],y.2.2.2.1.2.2.2) (-1) D.2.2.1) λx=>l7 (D9 (x8 x.2.1.1 0)) (some (([],[],[]),(0,[],[],[],[],[]),x.2.1,D)) (some ((x.2.2.2.2.1,x.1,y.2.2.2.2.2.2),x.2.2,(0,0,0,0),D))) λr=>some r
def q71:FQ:=⟨[tD y27,Y5,tD y32,(false,(.box (pA (dT y24) (pA (dT y24) (pA (oW .bool) (oW .bool))))))],⟨[(.cell 8 163,tD y57),(.cell 9 166,tD y62),(.cell 10 118,tD y42)],[(3,(true,(pA (dT y24) (pA (dT y24) (pA (oW .bool) (oW .bool))))))]⟩,⟨123,eqs,tt,gl,[(108,c6x)],[],[],[],[3],[]⟩,sN 3 (iq (sN 1 (lK (.loop [(11,12),(14,15),(35,47),(7000704,7000705)] ⟨[(11,(false,(.box (pA diM (pA (dT y29) (pA (.cell (some none)) (pA (.cell (some none)) (pA (oW y2) (dT y9))))))))),(35,Y5)],[]⟩ 0 ⟨[(11,(false,(.box (pA diM (pA (dT y29) (pA (.cell (some none)) (pA (.cell (some none)) (pA (oW y2) (dT y9)))))))))],[]⟩ P9))) (iq (sN 1 (lK (lpR [(8,13),(15,20),(50,97),(4000512,4000513),(4000576,4000577),(4000640,4000641),(10000768,10000769),(18000000,18000002)] ⟨[(8,(false,(.box (dT y57)))),(9,(false,(.box (dT y62)))),(10,(false,(.box (dT y42)))),(11,(false,(.box (pA diM (pA (dT y29) (pA (.cell (some none)) (pA (oW y29) (pA (oW y2) (dT y9))))))))),(12,(false,(.box (pA (dT y29) (pA (dT y46) (oW y54)))))),(50,Y5)],[]⟩ 2 ⟨[(8,(false,(.box (dT y57)))),(9,(false,(.box (dT y62)))),(10,(false,(.box (dT y42)))),(11,(false,(.box (pA diM (pA (dT y29) (pA (.cell (some none)) (pA (oW y29) (pA (oW y2) (dT y9))))))))),(12,(false,(.box (pA (dT y29) (pA (dT y46) (oW y54))))))],[]⟩ P9))) P9))⟩
def s71:FSpec:=fU q71 λx=>BA x.1 x.2.1 x.2.2.1 x.2.2.2
def DD(A:S9)(B:Int)(C:dI)(D:Int):Option (D8×Int×jv):=o5 (uj A B C true D) λx=>l7 (D9 (x8 x.1 0)) (some ((0,0,0),0,x)) (o5 (BB A B) λx=>o5 (ww x D) λx=>o5 (BA A B C x) λx=>l7 (D9 (x8 x.2.2.1.1 0)) (some ((0,0,0),0,x.2.2.1)) (o5 (F9 x.1.1 D) λb=>o5 (F9 x.1.2.1 D) λx=>some (b,x,0,0,0,0)))
def q43:FQ:=⟨[tD y27,Y5,tD y32,Y5],⟨[(.cell 8 39,tD y3),(.tmp 9,Y5),(.cell 10 118,tD y42)],[]⟩,mE 57 [(68,s68),(69,s69),(70,s70),(71,s71)],P9⟩
def s43:FSpec:=fU q43 λx=>DD x.1 x.2.1 x.2.2.1 x.2.2.2
def yf(A:S9)(B:Int)(C:dI)(D:Int):Option (D8×Int):=o5 (DD A B C D) λx=>l7 (D9 (x8 x.2.2.1 0)) (some ((0,0,0),x.2.2.1)) (some (x.1,0))
def q24:FQ:=⟨[tD y27,Y5,tD y32,Y5],⟨[(.cell 8 39,tD y3),(.tmp 9,Y5)],[]⟩,mE 29 [(43,s43)],P9⟩
def s24:FSpec:=fU q24 λx=>yf x.1 x.2.1 x.2.2.1 x.2.2.2
def tq(A:List (bQ×Bool))(B:A8)(C:c9h):Option (List (bQ×Bool)):=o5 (ay (λ(x:List (Int×Bool)×Int)=>l7 (E9 x.2 (o9 C)) (o5 (F9 C x.2) λc=>some (.inl (AU (λ(a b:Int)=>x8 a b) x.1 c true,A7 .i64 x.2 1))) (some (.inr x.1))) ([],0)) λy=>o5 (ay (λ(x:List (bQ×Bool)×Int)=>l7 (E9 x.2 (o9 B.2.2.2.2)) (o5 (F9 B.2.2.2.2 x.2) λc=>l7 (oQ (λ(a b:Int)=>x8 a b) y c.2.1 false) (some (.inl (AU (λ(a b:bQ)=>V9 (seq a.1 b.1) (seq a.2 b.2)) x.1 (B.1,c.1) true,A7 .i64 x.2 1))) (some (.inl (x.1,A7 .i64 x.2 1)))) (some (.inr x.1))) (A,0)) λy=>some y
def q44:FQ:=⟨[(false,(.ownb (.ent true false y48 .bool))),tD y24,uD y46],⟨[],[(0,(false,(oW (.ent true false y48 .bool))))]⟩,⟨39,eqs,tt,gl,[],[],[],[],[0],[]⟩,sN 2 (iq (sN 1 (lK (.loop [(6,7),(8,9),(14,21),(7000704,7000705)] ⟨[(6,(false,(oW (.ent false false (.int .i64) .bool)))),(14,Y5)],[]⟩ 0 ⟨[(6,(false,(oW (.ent false false (.int .i64) .bool))))],[]⟩ P9))) (sN 1 (lK (.loop [(0,1),(10,11),(24,39),(1000000,1000001)] ⟨[(0,(false,(oW (.ent true false y48 .bool)))),(24,Y5)],[]⟩ 2 ⟨[(0,(false,(oW (.ent true false y48 .bool))))],[]⟩ P9))))⟩
def s44:FSpec:=fU q44 λx=>tq x.1 x.2.1 x.2.2
def lM(A:S9)(B:Int)(C:Int):Option (List (bQ×Bool)):=o5 (F9 A.2.2 B) λx=>o5 (nZ x C) λf=>o5 (di f [C]) λg=>o5 (tq [] x g) λc=>o5 (l7 (E9 x.2.1 0) (some (.inr c)) (l7 (N7 (o9 A.2.2) x.2.1) (some (.inr c)) (some (.inl ())))) λo=>X9 o (λj=>o5 (F9 A.2.2 x.2.1) λd=>o5 (xX x C) λx=>o5 (ay (λ(b:c9h×Int)=>l7 (E9 b.2 (o9 x)) (o5 (F9 x b.2) λk=>o5 (O8 x (U6 b.2)) λx=>o5 (di b.1 [x]) λi=>o5 (nZ d x) λx=>o5 (di i x) λx=>some (.inl (x,A7 .i64 b.2 1))) (some (.inr b.1))) ([],0)) λy=>o5 (tq c d y) λx=>some x) λr=>some r
def q25:FQ:=⟨[tD y27,Y5,Y5],tR 6 (false,(oW (.ent true false y48 .bool))),mE 69 [(45,s45),(44,s44),(46,s46)],sN 4 (iq (jnR [(6,7),(28,40)] sgN P9) (sN 2 (iq (sN 1 (lK (.loop [(10,11),(12,13),(50,64)] ⟨[(10,uoM),(50,Y5)],[]⟩ 0 ⟨[(10,uoM)],[]⟩ P9))) P9)))⟩
def s25:FSpec:=fU q25 λx=>lM x.1 x.2.1 x.2.2
def wV(A:S9):Option (List (c9i×jF)):=o5 (ay (λ(x:List (c9i×jF)×Int)=>l7 (E9 x.2 (o9 A.2.2)) (o5 (F9 A.2.2 x.2) λc=>l7 (Sv (λ(a b:c9i)=>seq a b) x.1 c.1) (some (.inl (x.1,A7 .i64 x.2 1))) (o5 (ay (λ(x:List (c9i×Int)×Int)=>l7 (E9 x.2 (o9 c.2.2.2.2)) (o5 (F9 c.2.2.2.2 x.2) λd=>l7 (D9 (Sv (λ(a b:c9i)=>seq a b) x.1 d.1)) (some (.inl (AU (λ(a b:c9i)=>seq a b) x.1 d.1 x.2,A7 .i64 x.2 1))) (some (.inl (x.1,A7 .i64 x.2 1)))) (some (.inr x.1))) ([],0)) λy=>some (.inl (AU (λ(a b:c9i)=>seq a b) x.1 c.1 (c,y),A7 .i64 x.2 1)))) (some (.inr x.1))) ([],0)) λy=>some y
def q47:FQ:=⟨[tD y27],tR 2 (false,(oW (.ent false true .str y52))),mE 60 [],sN 2 (iq (sN 1 (lK (.loop [(3,4),(5,13),(17,59),(7000832,7000833)] ⟨[(3,(false,(oW (.ent false true .str y52)))),(17,Y5)],[]⟩ 0 ⟨[(3,(false,(oW (.ent false true .str y52))))],[]⟩ (sN 2 (iq (lK (sN 3 (iq (sN 1 (lK (.loop [(8,13),(33,52),(40001856,40001857)] ⟨[(8,(false,(oW (.ent false false .str (.int .i64))))),(33,Y5)],[]⟩ 2 ⟨[(8,(false,(oW (.ent false false .str (.int .i64)))))],[]⟩ P9))) P9))) P9))))) P9)⟩
def s47:FSpec:=fU q47 λx=>wV x
end
end Gt
open Go Go.GP
namespace Gt
set_option maxRecDepth 100000
noncomputable section
def kN(A:List (c9i×jF))(B:c9i)(C:c9i):Option (A8×Int×Bool):=l7 (D9 (Sv (λ(a b:c9i)=>seq a b) A B)) (some (([],0,[],[],[]),0,false)) (l7 (D9 (Sv (λ(a b:c9i)=>seq a b) (oQ (λ(a b:c9i)=>seq a b) A B (([],0,[],[],[]),[])).2 C)) (some (([],0,[],[],[]),0,false)) (some ((oQ (λ(a b:c9i)=>seq a b) A B (([],0,[],[],[]),[])).1,oQ (λ(a b:c9i)=>seq a b) (oQ (λ(a b:c9i)=>seq a b) A B (([],0,[],[],[]),[])).2 C 0,true)))
def q48:FQ:=⟨[uD y53,(uD .str),(uD .str)],⟨[(.cell 6 80,tD y24),(.tmp 7,Y5),(.tmp 8,ny)],[]⟩,mE 34 [],P9⟩
def s48:FSpec:=fU q48 λx=>kN x.1 x.2.1 x.2.2
def qg(A:A8)(B:V8):Option qX:=o5 (l7 (N7 0 B.2.1) (l7 (E9 B.2.1 (o9 A.2.2.2.1)) (o5 (F9 A.2.2.2.1 B.2.1) λx=>some (x.1,[],B.2.2.2.1,B.2.2.2.2.1,B.2.2.2.2.2.2.2)) (some ([],[],B.2.2.2.1,B.2.2.2.2.1,B.2.2.2.2.2.2.2))) (some ([],[],B.2.2.2.1,B.2.2.2.2.1,B.2.2.2.2.2.2.2))) λx=>l7 (N7 0 B.2.2.1) (l7 (E9 B.2.2.1 (o9 A.2.2.2.2)) (o5 (F9 A.2.2.2.2 B.2.2.1) λb=>some (x.1,b.1,x.2.2)) (some x)) (some x)
def q76:FQ:=⟨[tD y24,tD y19],cR 4 182 (tD y68),mE 52 [],sN 2 (iq (.join [(5,6),(13,32),(7000320,7000321)] ⟨[(5,(false,(.box (dT y68))))],[]⟩ P9) P9)⟩
def s76:FSpec:=fU q76 λx=>qg x.1 x.2
def jk(A:List ak)(B:List ak):c9n:=l7 (D9 (x8 (o9 A) (o9 B))) (some false) (o5 (V7 (λ(x:Int)=>l7 (E9 x (o9 A)) (o5 (F9 A x) λb=>o5 (F9 B x) λc=>l7 (D9 (V9 (x8 b.1 c.1) (x8 b.2 c.2))) (some (.rt false)) (some (.nx (A7 .i64 x 1)))) (some (.ex ()))) 0) λo=>X9 o (λy=>some true) λr=>some r)
def q77:FQ:=⟨[uD y12,uD y12],tR 4 ny,mE 26 [],sN 2 (iq (sN 1 (lK (lpR [(4,6),(13,26)] ⟨[(13,Y5)],[]⟩ 0 sgN P9))) P9)⟩
def s77:FSpec:=fU q77 λx=>jk x.1 x.2
def Ak(A:A8)(B:Int)(C:A8)(D:Int):c9n:=o5 (F9 A.2.2.2.2 B) λx=>o5 (F9 C.2.2.2.2 D) λd=>o5 (qg A x) λb=>o5 (qg C d) λc=>l7 (V9 (seq b.1 c.1) (V9 (seq b.2.1 c.2.1) (V9 (x8 b.2.2.1 c.2.2.1) (V9 (x8 b.2.2.2.1.1 c.2.2.2.1.1) (V9 (x8 b.2.2.2.1.2 c.2.2.2.1.2) (seq b.2.2.2.2 c.2.2.2.2)))))) (o5 (jk x.2.2.2.2.2.1 d.2.2.2.2.2.1) λf=>l7 f (o5 (jk x.2.2.2.2.2.2.1 d.2.2.2.2.2.2.1) λx=>some x) (some false)) (some false)
def q49:FQ:=⟨[tD y24,Y5,tD y24,Y5],tR 8 ny,mE 42 [(76,s76),(77,s77)],P9⟩
def s49:FSpec:=fU q49 λx=>Ak x.1 x.2.1 x.2.2.1 x.2.2.2
def uQ(A:S9)(B:S9):Option (List O0):=o5 (wV A) λx=>o5 (wV B) λg=>o5 (ay (λ(x:List O0×Int)=>l7 (E9 x.2 (o9 A.2.2)) (o5 (F9 A.2.2 x.2) λb=>o5 (ay (λ(x:List O0×Int)=>l7 (E9 x.2 (o9 b.2.2.2.2)) (o5 (F9 b.2.2.2.2 x.2) λd=>o5 (kN g b.1 d.1) λc=>l7 (D9 c.2.2) (o5 (di x.1 [(b.1,d.1,1)]) λf=>some (.inl (f,A7 .i64 x.2 1))) (o5 (Ak b x.2 c.1 c.2.1) λf=>l7 (D9 f) (o5 (di x.1 [(b.1,d.1,3)]) λi=>some (.inl (i,A7 .i64 x.2 1))) (some (.inl (x.1,A7 .i64 x.2 1))))) (some (.inr x.1))) (x.1,0)) λy=>some (.inl (y,A7 .i64 x.2 1))) (some (.inr x.1))) ([],0)) λy=>o5 (ay (λ(b:List O0×Int)=>l7 (E9 b.2 (o9 B.2.2)) (o5 (F9 B.2.2 b.2) λd=>o5 (ay (λ(c:List O0×Int)=>l7 (E9 c.2 (o9 d.2.2.2.2)) (o5 (F9 d.2.2.2.2 c.2) λf=>o5 (kN x d.1 f.1) λx=>l7 (D9 x.2.2) (o5 (di c.1 [(d.1,f.1,2)]) λx=>some (.inl (x,A7 .i64 c.2 1))) (some (.inl (c.1,A7 .i64 c.2 1)))) (some (.inr c.1))) (b.1,0)) λy=>some (.inl (y,A7 .i64 b.2 1))) (some (.inr b.1))) (y,0)) λy=>some y
def q26:FQ:=⟨[tD y27,tD y27],tR 4 (uO y35),mE 114 [(47,s47),(48,s48),(49,s49)],sN 3 (iq (sN 1 (lK (.loop [(7,8),(9,15),(29,77)] ⟨[(7,(uO y35)),(29,Y5)],[]⟩ 0 ⟨[(7,(uO y35))],[]⟩ (sN 2 (iq (lK (sN 2 (lK (.loop [(7,8),(10,15),(36,76),(17000000,17000001)] ⟨[(7,(uO y35)),(36,Y5)],[]⟩ 2 ⟨[(7,(uO y35))],[]⟩ P9)))) P9))))) (iq (sN 1 (lK (.loop [(7,8),(16,17),(18,22),(80,113),(18000000,18000001)] ⟨[(7,(uO y35)),(80,Y5)],[]⟩ 4 ⟨[(7,(uO y35))],[]⟩ (sN 2 (iq (lK (sN 2 (lK (.loop [(7,8),(18,22),(87,112),(76000000,76000001)] ⟨[(7,(uO y35)),(87,Y5)],[]⟩ 6 ⟨[(7,(uO y35))],[]⟩ P9)))) P9))))) P9))⟩
def s26:FSpec:=fU q26 λx=>uQ x.1 x.2
def nG(A:S9)(B:S9)(C:Int)(D:dI)(E:Int):Option (X4×Int):=o5 (o5 (Ai A) λx=>l7 (D9 (V9 (x8 x.1 0) (V9 (x8 x.2.1 0) (V9 (x8 x.2.2.1 0) (x8 x.2.2.2 0))))) (some (.inr (((0,0,0),(0,0,0),0,0,[]),1))) (o5 (Ai B) λx=>l7 (D9 (V9 (x8 x.1 0) (V9 (x8 x.2.1 0) (V9 (x8 x.2.2.1 0) (x8 x.2.2.2 0))))) (some (.inr (((0,0,0),(0,0,0),0,0,[]),1))) (some (.inl ((0,0,0),(0,0,0),0,0,[]))))) λo=>X9 o (λ(x:X4)=>o5 (l7 (E9 C 0) (some (.inr (((0,0,0),(0,0,0),0,0,[]),6))) (l7 (N7 (o9 A.2.2) C) (some (.inr (((0,0,0),(0,0,0),0,0,[]),6))) (l7 (E9 E 0) (some (.inr (((0,0,0),(0,0,0),0,0,[]),6))) (o5 (F9 A.2.2 C) λf=>l7 (N7 (o9 f.2.2.2.1) E) (some (.inr (((0,0,0),(0,0,0),0,0,[]),6))) (some (.inl x)))))) λo=>X9 o (λ(x:X4)=>o5 (uk A B) λx=>l7 (D9 x) (some (((0,0,0),(0,0,0),0,0,[]),8)) (o5 (yf A C D E) λx=>o5 (yf B C D E) λf=>o5 (lM A C E) λj=>o5 (lM B C E) λi=>o5 (uQ A B) λg=>o5 (ay (λ(x:X4×Int)=>l7 (E9 x.2 (o9 g)) (o5 (F9 g x.2) λk=>o5 (O8 g (U6 x.2)) λc=>l7 (D9 (x8 c.2.2 2)) (l7 (oQ (λ(a b:bQ)=>V9 (seq a.1 b.1) (seq a.2 b.2)) j (c.1,c.2.1) false) (o5 (di x.1.2.2.2.2 [c]) λd=>some (.inl ((x.1.1,x.1.2.1,x.1.2.2.1,x.1.2.2.2.1,d),A7 .i64 x.2 1))) (l7 (D9 (x8 c.2.2 1)) (l7 (oQ (λ(a b:bQ)=>V9 (seq a.1 b.1) (seq a.2 b.2)) i (c.1,c.2.1) false) (o5 (di x.1.2.2.2.2 [c]) λd=>some (.inl ((x.1.1,x.1.2.1,x.1.2.2.1,x.1.2.2.2.1,d),A7 .i64 x.2 1))) (some (.inl (x.1,A7 .i64 x.2 1)))) (some (.inl (x.1,A7 .i64 x.2 1))))) (l7 (D9 (x8 c.2.2 1)) (l7 (oQ (λ(a b:bQ)=>V9 (seq a.1 b.1) (seq a.2 b.2)) i (c.1,c.2.1) false) (o5 (di x.1.2.2.2.2 [c]) λd=>some (.inl ((x.1.1,x.1.2.1,x.1.2.2.1,x.1.2.2.2.1,d),A7 .i64 x.2 1))) (some (.inl (x.1,A7 .i64 x.2 1)))) (some (.inl (x.1,A7 .i64 x.2 1))))) (some (.inr x.1))) ((x.1,f.1,x.2,f.2,[]),0)) λy=>some (y,0))) λr=>some r) λr=>some r
def q15:FQ:=⟨[tD y27,tD y27,Y5,tD y32,Y5],⟨[(.cell 10 42,tD y40),(.tmp 11,Y5)],[]⟩,mE 126 [(22,s22),(23,s23),(24,s24),(25,s25),(26,s26)],sN 1 (iq (jnR [(10,12),(18,29),(4000640,4000641)] ⟨[(10,(false,(.box (dT y40))))],[]⟩ P9) (iq (jnR [(10,12),(29,54),(6000000,6000001)] ⟨[(10,(false,(.box (dT y40))))],[]⟩ P9) (sN 5 (iq (sN 1 (lK (.loop [(12,13),(16,18),(91,125),(37000768,37000769)] ⟨[(12,(false,(.box (pA (dT y3) (pA (dT y3) (pA diM (pA diM (oW y35)))))))),(91,Y5)],[]⟩ 0 ⟨[(12,(false,(.box (pA (dT y3) (pA (dT y3) (pA diM (pA diM (oW y35))))))))],[]⟩ P9))) P9))))⟩
def s15:FSpec:=fU q15 λx=>nG x.1 x.2.1 x.2.2.1 x.2.2.2.1 x.2.2.2.2
def kH(A:X4):c9n:=l7 (x8 A.2.2.1 0) (l7 (x8 A.2.2.2.1 0) (some (D9 (V9 (x8 A.1.1 A.2.1.1) (V9 (x8 A.1.2.1 A.2.1.2.1) (x8 A.1.2.2 A.2.1.2.2))))) (l7 (x8 A.2.2.1 0) (some true) (some (x8 A.2.2.2.1 0)))) (l7 (x8 A.2.2.1 0) (some true) (some (x8 A.2.2.2.1 0)))
def q8:FQ:=⟨[tD y40],tR 2 ny,mE 24 [],P9⟩
def s8:FSpec:=fU q8 λx=>kH x
def yV(A:X4):Option jm:=o5 (o5 (kH A) λx=>l7 x (some (1,1,0,0,0,0,0)) (some (1,0,0,0,0,0,0))) λx=>o5 (o5 (l7 (x8 A.2.2.1 0) (some (D9 (x8 A.2.2.2.1 0))) (some false)) λb=>l7 b (some (x.1,x.2.1,x.2.2.1,x.2.2.2.1,1,x.2.2.2.2.2)) (l7 (D9 (x8 A.2.2.1 0)) (some x) (l7 (D9 (x8 A.2.2.2.1 0)) (some x) (l7 (E9 A.1.2.2 A.2.1.2.2) (some (x.1,x.2.1,1,x.2.2.2)) (l7 (E9 A.2.1.2.2 A.1.2.2) (some (x.1,x.2.1,x.2.2.1,1,x.2.2.2.2)) (some x)))))) λx=>some x
def q27:FQ:=⟨[tD y40],cR 2 34 (tD y45),mE 46 [(8,s8)],sN 2 (iq (.join [(3,4),(5,8),(7000192,7000193)] ⟨[(3,(false,(.box (dT y45))))],[]⟩ P9) (iq (.join [(3,4),(8,45),(9000000,9000001)] ⟨[(3,(false,(.box (dT y45))))],[]⟩ (lK (iq (.join [(8,17)] ⟨[(8,ny)],[]⟩ P9) P9))) P9))⟩
def s27:FSpec:=fU q27 λx=>yV x
def zX(A:jm)(B:jm):Option jm:=some (A7 .i64 A.1 B.1,A7 .i64 A.2.1 B.2.1,A7 .i64 A.2.2.1 B.2.2.1,A7 .i64 A.2.2.2.1 B.2.2.2.1,A7 .i64 A.2.2.2.2.1 B.2.2.2.2.1,A.2.2.2.2.2)
def q28:FQ:=⟨[tD y45,tD y45],cR 4 34 (tD y45),mE 36 [],P9⟩
def s28:FSpec:=fU q28 λx=>zX x.1 x.2
def Md(A:c9h):Option ak:=o5 (V7 (λ(x:ak)=>l7 (E9 x.2 (o9 A)) (o5 (F9 A x.2) λb=>o5 (lS b 1000000000000000) λc=>l7 c (some (.rt (0,3))) (o5 (lS (A7 .i64 x.1 b) 1000000000000000) λd=>l7 d (some (.rt (0,3))) (some (.nx (A7 .i64 x.1 b,A7 .i64 x.2 1))))) (some (.ex x.1))) (0,0)) λo=>X9 o (λy=>some (y,0)) λr=>some r
def q29:FQ:=⟨[uD y46],⟨[(.tmp 2,Y5),(.tmp 3,Y5)],[]⟩,mE 22 [(50,s50)],sN 2 (iq (sN 1 (lK (lpR [(2,5),(6,7),(9,21)] ⟨[(4,Y5),(9,Y5)],[]⟩ 0 ⟨[(4,Y5)],[]⟩ P9))) P9)⟩
def s29:FSpec:=fU q29 λx=>Md x
def Em(A:List X4):Option (jm×Int):=o5 (ay (λ(x:jm×c9h×c9h×Int)=>l7 (E9 x.2.2.2 (o9 A)) (o5 (o5 (F9 A x.2.2.2) λb=>o5 (o5 (yV b) λc=>l7 (V9 (x8 c.1 1) (V9 (x8 c.2.1 0) (V9 (x8 c.2.2.1 0) (V9 (x8 c.2.2.2.1 0) (V9 (x8 c.2.2.2.2.1 0) (V9 (x8 c.2.2.2.2.2.1 0) (x8 c.2.2.2.2.2.2 0))))))) (some (A7 .i64 x.1.1 1,x.1.2)) (o5 (zX x.1 c) λx=>some x)) λc=>o5 (l7 (x8 b.2.2.1 0) (l7 (x8 b.1.1 3) (o5 (di x.2.1 [b.1.2.2]) λx=>some x) (some x.2.1)) (some x.2.1)) λd=>l7 (x8 b.2.2.2.1 0) (l7 (x8 b.2.1.1 3) (o5 (di x.2.2.1 [b.2.1.2.2]) λx=>some (c,d,x)) (some (c,d,x.2.2.1))) (some (c,d,x.2.2.1))) λb=>some (.inl (b.1,b.2.1,b.2.2,A7 .i64 x.2.2.2 1))) (some (.inr (x.1,x.2.1,x.2.2.1)))) ((0,0,0,0,0,0,0),[],[],0)) λy=>o5 (Md y.2.1) λx=>o5 (Md y.2.2) λb=>l7 (D9 (x8 x.2 0)) (some ((0,0,0,0,0,0,0),3)) (l7 (D9 (x8 b.2 0)) (some ((0,0,0,0,0,0,0),3)) (some ((y.1.1,y.1.2.1,y.1.2.2.1,y.1.2.2.2.1,y.1.2.2.2.2.1,x.1,b.1),0)))
def q16:FQ:=⟨[uD y41],⟨[(.cell 2 34,tD y45),(.tmp 3,Y5)],[]⟩,mE 87 [(27,s27),(28,s28),(29,s29)],sN 4 (iq (sN 1 (lK (.loop [(4,7),(9,11),(18,65),(7000256,7000257)] ⟨[(4,(false,(.box (dT y45)))),(5,uoM),(6,uoM),(18,Y5)],[]⟩ 0 ⟨[(4,(false,(.box (dT y45)))),(5,uoM),(6,uoM)],[]⟩ (sN 2 (iq (.join [(4,7),(9,11),(20,64),(20000000,20000003)] ⟨[(4,(false,(.box (dT y45)))),(5,uoM),(6,uoM)],[]⟩ (lK (sN 1 (iq (.join [(4,5),(10,11),(22,34),(20000000,20000001)] ⟨[(4,(false,(.box (dT y45))))],[]⟩ P9) (iq (.join [(5,6),(34,49),(20000001,20000002)] ⟨[(5,uoM)],[]⟩ P9) P9))))) P9))))) P9)⟩
def s16:FSpec:=fU q16 λx=>Em x
def zW(A:S9)(B:S9)(C:Int)(D:List dI)(E:Int):Option (List X4×jm×Int):=l7 (qp 0 (o9 D) 1073741824) (o5 (qU 0 ((0,0,0),(0,0,0),0,0,[])) λx=>o5 (V7 (λ(x:jm×List X4×Int)=>l7 (E9 x.2.2 (o9 D)) (o5 (F9 D x.2.2) λc=>o5 (nG A B C c E) λb=>l7 (D9 (x8 b.2 0)) (some (.rt ([],(0,0,0,0,0,0,0),b.2))) (o5 (di x.2.1 [b.1]) λd=>some (.nx (x.1,d,A7 .i64 x.2.2 1)))) (some (.ex (x.1,x.2.1)))) ((0,0,0,0,0,0,0),x,0)) λo=>X9 o (λ(y:jm×List X4)=>o5 (Em y.2) λx=>l7 (D9 (x8 x.2 0)) (some ([],(0,0,0,0,0,0,0),x.2)) (some (y.2,x.1,0))) λr=>some r) none
def q6:FQ:=⟨[tD y27,tD y27,Y5,uD y33,Y5],⟨[(.tmp 10,uO y40),(.cell 11 34,tD y45),(.tmp 12,Y5)],[]⟩,mE 58 [(15,s15),(16,s16)],sN 2 (iq (sN 1 (lK (lpR [(10,14),(15,18),(25,47),(4000704,4000705),(7001408,7001409)] ⟨[(11,(false,(.box (dT y45)))),(13,(uO y40)),(25,Y5)],[]⟩ 0 ⟨[(11,(false,(.box (dT y45)))),(13,(uO y40))],[]⟩ P9))) P9)⟩
def s6:FSpec:=fU q6 λx=>zW x.1 x.2.1 x.2.2.1 x.2.2.2.1 x.2.2.2.2
def c8X:List MG:=[Y5]
def s30:FSpec:=⟨c8X,[(false,(.dat .str))],[],λx=>Ul x⟩
def iJ(A:Int):Option c9i:=o5 (Ul A) λx=>some x
def q19:FQ:=⟨[Y5],tR 2 (uD .str),mE 5 [(30,s30)],P9⟩
def s19:FSpec:=fU q19 λx=>iJ x
def Hr(A:Int):c9o:=some (oD 0 (qR A 9))
def q31:FQ:=⟨[Y5],tR 2 Y5,mE 6 [],P9⟩
def s31:FSpec:=fU q31 λx=>Hr x
def c8Y:List MG:=[(false,(.dat .str)),Y5]
def s32:FSpec:=⟨c8Y,[(false,(.dat .str))],[],λx=>EF x.1 x.2⟩
def rD(A:Int)(B:Int):Option c9i:=o5 (Hr B) λx=>o5 (iJ A) λc=>l7 (x8 x 0) (some c) (l7 (E9 A 0) (o5 (Gl c 1 (o9 c)) λb=>l7 (N7 (o9 b) x) (o5 (EF [48] (J3 .i64 (A7 .i64 x 1) (o9 b))) λd=>o5 (xk d b) λf=>o5 (Gl f 0 (J3 .i64 (o9 f) x)) λg=>o5 (xk [45] g) λi=>o5 (xk i [46]) λj=>o5 (Gl f (J3 .i64 (o9 f) x) (o9 f)) λx=>o5 (xk j x) λx=>some x) (o5 (Gl b 0 (J3 .i64 (o9 b) x)) λd=>o5 (xk [45] d) λf=>o5 (xk f [46]) λg=>o5 (Gl b (J3 .i64 (o9 b) x) (o9 b)) λx=>o5 (xk g x) λx=>some x)) (l7 (N7 (o9 c) x) (o5 (EF [48] (J3 .i64 (A7 .i64 x 1) (o9 c))) λb=>o5 (xk b c) λd=>o5 (Gl d 0 (J3 .i64 (o9 d) x)) λf=>o5 (xk [] f) λg=>o5 (xk g [46]) λi=>o5 (Gl d (J3 .i64 (o9 d) x) (o9 d)) λx=>o5 (xk i x) λx=>some x) (o5 (Gl c 0 (J3 .i64 (o9 c) x)) λb=>o5 (xk [] b) λd=>o5 (xk d [46]) λf=>o5 (Gl c (J3 .i64 (o9 c) x) (o9 c)) λx=>o5 (xk f x) λx=>some x)))
def q20:FQ:=⟨[Y5,Y5],tR 4 (uD .str),mE 45 [(31,s31),(19,s19),(32,s32)],P9⟩
def s20:FSpec:=fU q20 λx=>rD x.1 x.2
def VX(A:Int)(B:ak)(C:List dB):c9n:=o5 (rY B C) λx=>l7 (N7 x.1 A) (some (N7 A x.2)) (some false)
def q85:FQ:=⟨[Y5,tD y2,uD y1],tR 6 ny,mE 23 [(88,s88)],P9⟩
def s85:FSpec:=fU q85 λx=>VX x.1 x.2.1 x.2.2
def UC(A:Int)(B:Int):Option c9i:=o5 (iJ A) λx=>o5 (EF [48] (oD 0 (J3 .i64 B (o9 x)))) λb=>o5 (xk b x) λx=>some x
def c4y:FQ:=⟨[Y5,Y5],tR 4 (uD .str),mE 16 [(19,s19),(32,s32)],P9⟩
def c6A:FSpec:=fU c4y λx=>UC x.1 x.2
def XP(A:Int):Option c9i:=o5 (xx A) λx=>l7 (D9 x) (some []) (o5 (xw A) λx=>o5 (UC x.1 4) λb=>o5 (xk b [45]) λc=>o5 (UC x.2.1 2) λd=>o5 (xk c d) λf=>o5 (xk f [45]) λg=>o5 (UC x.2.2 2) λx=>o5 (xk g x) λx=>some x)
def q86:FQ:=⟨[Y5],tR 2 (uD .str),mE 25 [(119,b6z),(120,b6A),(121,c6A)],P9⟩
def s86:FSpec:=fU q86 λx=>XP x
def VW(A:D8)(B:List dB):Option (c9i×Int):=o5 (jd (A.1,A.2.1) B) λx=>l7 (D9 x) (some ([],8)) (o5 (VX A.2.2 (A.1,A.2.1) B) λx=>l7 (D9 x) (some ([],3)) (l7 (x8 A.1 1) (l7 (x8 A.2.2 0) (some ([102,97,108,115,101],0)) (some ([116,114,117,101],0))) (l7 (x8 A.1 2) (o5 (iJ A.2.2) λx=>some (x,0)) (l7 (x8 A.1 3) (o5 (rD A.2.2 2) λx=>some (x,0)) (l7 (x8 A.1 4) (o5 (rD A.2.2 4) λx=>o5 (xk x [37]) λx=>some (x,0)) (l7 (x8 A.1 5) (o5 (XP A.2.2) λx=>some (x,0)) (o5 (F9 B A.2.1) λx=>o5 (F9 x.2 A.2.2) λx=>some (x,0))))))))
def q58:FQ:=⟨[tD y3,uD y1],⟨[(.tmp 4,(uD .str)),(.tmp 5,Y5)],[]⟩,mE 60 [(84,s84),(85,s85),(19,s19),(20,s20),(86,s86)],P9⟩
def s58:FSpec:=fU q58 λx=>VW x.1 x.2
def Hg(A:D8)(B:Int)(C:List dB):Option c9i:=l7 (D9 (x8 B 0)) (o5 (iJ B) λx=>o5 (xk [101,114,114,111,114,32] x) λx=>some x) (o5 (VW A C) λx=>l7 (D9 (x8 x.2 0)) (some [63]) (some x.1))
def q33:FQ:=⟨[tD y3,Y5,uD y1],tR 6 (uD .str),mE 23 [(19,s19),(58,s58)],P9⟩
def s33:FSpec:=fU q33 λx=>Hg x.1 x.2.1 x.2.2
def OZ(A:X4)(B:List dB):Option c9i:=o5 (Hg A.1 A.2.2.1 B) λx=>o5 (xk x [32,45,62,32]) λx=>o5 (Hg A.2.1 A.2.2.2.1 B) λi=>o5 (xk x i) λx=>o5 (ay (λ(x:c9h×Int)=>l7 (E9 x.2 (o9 A.2.2.2.2)) (o5 (F9 A.2.2.2.2 x.2) λb=>l7 (x8 x.2 0) (o5 (di x.1 (PY [32,98,121,32])) λc=>o5 (di c (PY b.1)) λd=>o5 (di d [46]) λf=>o5 (di f (PY b.2.1)) λg=>some (.inl (g,A7 .i64 x.2 1))) (o5 (di x.1 (PY [44,32])) λc=>o5 (di c (PY b.1)) λd=>o5 (di d [46]) λf=>o5 (di f (PY b.2.1)) λg=>some (.inl (g,A7 .i64 x.2 1)))) (some (.inr x.1))) (PY x,0)) λy=>some (b1H y)
def q21:FQ:=⟨[tD y40,uD y1],tR 4 (uD .str),mE 53 [(33,s33)],sN 3 (iq (sN 1 (lK (.loop [(6,9),(28,51),(10001536,10001537)] ⟨[(6,(false,(oW (.int .u8)))),(28,Y5)],[]⟩ 0 ⟨[(6,(false,(oW (.int .u8))))],[]⟩ P9))) P9)⟩
def s21:FSpec:=fU q21 λx=>OZ x.1 x.2
def Ky(A:List X4)(B:jm)(C:List dB):Option (List c9i):=o5 (iJ B.1) λx=>o5 (xk [99,97,115,101,115,32] x) λx=>o5 (xk x [32,99,104,97,110,103,101,100,32]) λx=>o5 (iJ B.2.1) λc=>o5 (xk x c) λx=>o5 (xk x [32,103,97,105,110,101,100,32]) λx=>o5 (iJ B.2.2.1) λq=>o5 (xk x q) λx=>o5 (xk x [32,114,101,100,117,99,101,100,32]) λx=>o5 (iJ B.2.2.2.1) λt=>o5 (xk x t) λx=>o5 (xk x [32,102,97,105,108,101,100,32]) λx=>o5 (iJ B.2.2.2.2.1) λu=>o5 (xk x u) λx=>o5 (rD B.2.2.2.2.2.1 2) λv=>o5 (xk [111,108,100,32] v) λw=>o5 (xk w [32,110,101,119,32]) λz=>o5 (rD B.2.2.2.2.2.2 2) λh=>o5 (xk z h) λm=>l7 (qp 2 (A7 .i64 2 (o9 A)) 1073741824) (o5 (qU 2 []) λd=>o5 (ay (λ(x:List c9i×Int)=>l7 (E9 x.2 (o9 A)) (o5 (F9 A x.2) λb=>o5 (kH b) λf=>l7 f (o5 (iJ x.2) λg=>o5 (xk [99,97,115,101,32] g) λi=>o5 (xk i [58,32]) λj=>o5 (OZ b C) λk=>o5 (xk j k) λn=>o5 (di x.1 [n]) λp=>some (.inl (p,A7 .i64 x.2 1))) (some (.inl (x.1,A7 .i64 x.2 1)))) (some (.inr x.1))) (SQ d [x,m],0)) λy=>some y) none
def q13:FQ:=⟨[uD y41,tD y45,uD y1],tR 6 (uO .str),mE 74 [(19,s19),(20,s20),(8,s8),(21,s21)],sN 4 (iq (sN 1 (lK (.loop [(8,11),(54,73),(10003072,10003073)] ⟨[(8,(uO .str)),(54,Y5)],[]⟩ 0 ⟨[(8,(uO .str))],[]⟩ P9))) P9)⟩
def s13:FSpec:=fU q13 λx=>Ky x.1 x.2.1 x.2.2
def oK(A:X4):c9o:=l7 (D9 (x8 A.2.2.1 0)) (some 0) (l7 (D9 (x8 A.2.2.2.1 0)) (some 0) (l7 (D9 (x8 A.1.1 3)) (some 0) (l7 (D9 (x8 A.2.1.1 3)) (some 0) (some (J3 .i64 A.2.1.2.2 A.1.2.2)))))
def q17:FQ:=⟨[tD y40],tR 2 Y5,mE 30 [],P9⟩
def s17:FSpec:=fU q17 λx=>oK x
def vg(A:List X4):Option (List O0×c9h×c9h):=o5 (ay (λ(x:List O0×c9h×c9h×c9h×List (O0×Int)×Int)=>l7 (E9 x.2.2.2.2.2 (o9 A)) (o5 (F9 A x.2.2.2.2.2) λj=>o5 (kH j) λs=>l7 (D9 s) (some (.inl (x.1,x.2.1,x.2.2.1,x.2.2.2.1,x.2.2.2.2.1,A7 .i64 x.2.2.2.2.2 1))) (o5 (ay (λ(c:List O0×c9h×c9h×c9h×List (O0×Int)×Int)=>l7 (E9 c.2.2.2.2.2 (o9 j.2.2.2.2)) (o5 (F9 j.2.2.2.2 c.2.2.2.2.2) λd=>l7 (D9 (Sv (λ(a b:O0)=>V9 (seq a.1 b.1) (V9 (seq a.2.1 b.2.1) (x8 a.2.2 b.2.2))) c.2.2.2.2.1 d)) (o5 (di c.1 [d]) λp=>o5 (di c.2.1 [0]) λf=>o5 (di c.2.2.1 [0]) λg=>o5 (di c.2.2.2.1 [-1]) λi=>o5 (F9 i (o9 c.1)) λx_9=>o5 (O8 i (U6 (o9 c.1))) λk=>l7 (x8 k x.2.2.2.2.2) (some (.inl (p,f,g,i,AU (λ(a b:O0)=>V9 (seq a.1 b.1) (V9 (seq a.2.1 b.2.1) (x8 a.2.2 b.2.2))) c.2.2.2.2.1 d (o9 c.1),A7 .i64 c.2.2.2.2.2 1))) (o5 (F9 i (o9 c.1)) λt=>o5 (O8 i (U6 (o9 c.1))) λu=>o5 (F9 f (o9 c.1)) λv=>o5 (O8 f (U6 (o9 c.1))) λn=>o5 (F9 f (o9 c.1)) λq=>o5 (O8 f (U6 (o9 c.1))) λw=>o5 (F9 g (o9 c.1)) λz=>o5 (O8 g (U6 (o9 c.1))) λh=>o5 (oK j) λm=>o5 (F9 g (o9 c.1)) λx_20=>o5 (O8 g (U6 (o9 c.1))) λx_21=>some (.inl (p,bu f (U6 (o9 c.1)) (A7 .i64 n 1),bu g (U6 (o9 c.1)) (A7 .i64 h m),bu i (U6 (o9 c.1)) x.2.2.2.2.2,AU (λ(a b:O0)=>V9 (seq a.1 b.1) (V9 (seq a.2.1 b.2.1) (x8 a.2.2 b.2.2))) c.2.2.2.2.1 d (o9 c.1),A7 .i64 c.2.2.2.2.2 1)))) (o5 (F9 c.2.2.2.1 (oQ (λ(a b:O0)=>V9 (seq a.1 b.1) (V9 (seq a.2.1 b.2.1) (x8 a.2.2 b.2.2))) c.2.2.2.2.1 d 0)) λp=>o5 (O8 c.2.2.2.1 (U6 (oQ (λ(a b:O0)=>V9 (seq a.1 b.1) (V9 (seq a.2.1 b.2.1) (x8 a.2.2 b.2.2))) c.2.2.2.2.1 d 0))) λf=>l7 (x8 f x.2.2.2.2.2) (some (.inl (c.1,c.2.1,c.2.2.1,c.2.2.2.1,c.2.2.2.2.1,A7 .i64 c.2.2.2.2.2 1))) (o5 (F9 c.2.2.2.1 (oQ (λ(a b:O0)=>V9 (seq a.1 b.1) (V9 (seq a.2.1 b.2.1) (x8 a.2.2 b.2.2))) c.2.2.2.2.1 d 0)) λg=>o5 (O8 c.2.2.2.1 (U6 (oQ (λ(a b:O0)=>V9 (seq a.1 b.1) (V9 (seq a.2.1 b.2.1) (x8 a.2.2 b.2.2))) c.2.2.2.2.1 d 0))) λi=>o5 (F9 c.2.1 (oQ (λ(a b:O0)=>V9 (seq a.1 b.1) (V9 (seq a.2.1 b.2.1) (x8 a.2.2 b.2.2))) c.2.2.2.2.1 d 0)) λx_9=>o5 (O8 c.2.1 (U6 (oQ (λ(a b:O0)=>V9 (seq a.1 b.1) (V9 (seq a.2.1 b.2.1) (x8 a.2.2 b.2.2))) c.2.2.2.2.1 d 0))) λk=>o5 (F9 c.2.1 (oQ (λ(a b:O0)=>V9 (seq a.1 b.1) (V9 (seq a.2.1 b.2.1) (x8 a.2.2 b.2.2))) c.2.2.2.2.1 d 0)) λt=>o5 (O8 c.2.1 (U6 (oQ (λ(a b:O0)=>V9 (seq a.1 b.1) (V9 (seq a.2.1 b.2.1) (x8 a.2.2 b.2.2))) c.2.2.2.2.1 d 0))) λu=>o5 (F9 c.2.2.1 (oQ (λ(a b:O0)=>V9 (seq a.1 b.1) (V9 (seq a.2.1 b.2.1) (x8 a.2.2 b.2.2))) c.2.2.2.2.1 d 0)) λv=>o5 (O8 c.2.2.1 (U6 (oQ (λ(a b:O0)=>V9 (seq a.1 b.1) (V9 (seq a.2.1 b.2.1) (x8 a.2.2 b.2.2))) c.2.2.2.2.1 d 0))) λn=>o5 (oK j) λq=>o5 (F9 c.2.2.1 (oQ (λ(a b:O0)=>V9 (seq a.1 b.1) (V9 (seq a.2.1 b.2.1) (x8 a.2.2 b.2.2))) c.2.2.2.2.1 d 0)) λw=>o5 (O8 c.2.2.1 (U6 (oQ (λ(a b:O0)=>V9 (seq a.1 b.1) (V9 (seq a.2.1 b.2.1) (x8 a.2.2 b.2.2))) c.2.2.2.2.1 d 0))) λz=>some (.inl (c.1,bu c.2.1 (U6 (oQ (λ(a b:O0)=>V9 (seq a.1 b.1) (V9 (seq a.2.1 b.2.1) (x8 a.2.2 b.2.2))) c.2.2.2.2.1 d 0)) (A7 .i64 k 1),bu c.2.2.1 (U6 (oQ (λ(a b:O0)=>V9 (seq a.1 b.1) (V9 (seq a.2.1 b.2.1) (x8 a.2.2 b.2.2))) c.2.2.2.2.1 d 0)) (A7 .i64 n q),bu c.2.2.2.1 (U6 (oQ (λ(a b:O0)=>V9 (seq a.1 b.1) (V9 (seq a.2.1 b.2.1) (x8 a.2.2 b.2.2))) c.2.2.2.2.1 d 0)) x.2.2.2.2.2,c.2.2.2.2.1,A7 .i64 c.2.2.2.2.2 1))))) (some (.inr (c.1,c.2.1,c.2.2.1,c.2.2.2.1,c.2.2.2.2.1)))) (x.1,x.2.1,x.2.2.1,x.2.2.2.1,x.2.2.2.2.1,0)) λy=>some (.inl (y.1,y.2.1,y.2.2.1,y.2.2.2.1,y.2.2.2.2,A7 .i64 x.2.2.2.2.2 1)))) (some (.inr (x.1,x.2.1,x.2.2.1)))) ([],[],[],[],[],0)) λy=>some y
def q9:FQ:=⟨[uD y41],⟨[(.tmp 2,uO y35),(.tmp 3,uoM),(.tmp 4,uoM)],[]⟩,mE 89 [(8,s8),(17,s17)],sN 4 (iq (sN 1 (lK (.loop [(5,12),(13,16),(19,86),(13001024,13001025)] ⟨[(5,(uO y35)),(6,uoM),(7,uoM),(8,uoM),(9,(false,(oW (.ent true false y35 (.int .i64))))),(19,Y5)],[]⟩ 0 ⟨[(5,(uO y35)),(6,uoM),(7,uoM)],[]⟩ (sN 2 (iq (lK (sN 3 (lK (.loop [(5,10),(13,16),(30,85),(20000000,20000005)] ⟨[(5,(uO y35)),(6,uoM),(7,uoM),(8,uoM),(9,(false,(oW (.ent true false y35 (.int .i64))))),(30,Y5)],[]⟩ 2 ⟨[(5,(uO y35)),(6,uoM),(7,uoM),(8,uoM),(9,(false,(oW (.ent true false y35 (.int .i64)))))],[]⟩ P9)))) P9))))) P9)⟩
def s9:FSpec:=fU q9 λx=>vg x
def Xx(A:c9h)(B:c9h):c9n:=l7 (D9 (x8 (o9 A) (o9 B))) (some false) (o5 (V7 (λ(x:Int)=>l7 (E9 x (o9 A)) (l7 (E9 x (o9 B)) (o5 (F9 A x) λb=>o5 (F9 B x) λc=>l7 (D9 (x8 b c)) (some (.rt false)) (some (.nx (A7 .i64 x 1)))) (some (.ex ()))) (some (.ex ()))) 0) λo=>X9 o (λy=>some true) λr=>some r)
def q14:FQ:=⟨[uD y46,uD y46],tR 4 ny,mE 32 [],sN 2 (iq (sN 1 (lK (lpR [(4,6),(11,32)] ⟨[(5,Y5)],[]⟩ 0 sgN P9))) P9)⟩
def s14:FSpec:=fU q14 λx=>Xx x.1 x.2
def xn:c9n:=o5 (Oq [(3,1000)]) λx=>o5 (Oq [(7,0)]) λd=>o5 (zW x d 0 [(45000,[(3,0,1200)],[]),(45000,[(3,0,1000)],[])] 0) λx=>o5 (Ky x.1 x.2.1 []) λb=>o5 (vg x.1) λc=>o5 (l7 (D9 (x8 x.2.2 0)) (some (.inr false)) (l7 (D9 (x8 (o9 b) 3)) (some (.inr false)) (l7 (D9 (x8 (o9 c.1) 1)) (some (.inr false)) (some (.inl ()))))) λo=>X9 o (λf=>l7 (V9 (x8 x.2.1.1 2) (V9 (x8 x.2.1.2.1 1) (V9 (x8 x.2.1.2.2.1 1) (V9 (x8 x.2.1.2.2.2.1 0) (V9 (x8 x.2.1.2.2.2.2.1 0) (V9 (x8 x.2.1.2.2.2.2.2.1 2000) (x8 x.2.1.2.2.2.2.2.2 2200))))))) (o5 (F9 b 0) λx=>o5 (O8 b (U6 0)) λx=>l7 (seq x [99,97,115,101,115,32,50,32,99,104,97,110,103,101,100,32,49,32,103,97,105,110,101,100,32,49,32,114,101,100,117,99,101,100,32,48,32,102,97,105,108,101,100,32,48]) (o5 (F9 b 1) λx=>o5 (O8 b (U6 1)) λx=>l7 (seq x [111,108,100,32,50,48,46,48,48,32,110,101,119,32,50,50,46,48,48]) (o5 (F9 b 2) λx=>o5 (O8 b (U6 2)) λx=>l7 (seq x [99,97,115,101,32,48,58,32,49,48,46,48,48,32,45,62,32,49,50,46,48,48,32,98,121,32,104,111,117,115,101,46,98,97,115,101]) (o5 (F9 c.1 0) λx=>o5 (O8 c.1 (U6 0)) λx=>l7 (V9 (seq x.1 [104,111,117,115,101]) (V9 (seq x.2.1 [98,97,115,101]) (x8 x.2.2 3))) (o5 (Xx c.2.1 [1]) λx=>l7 x (o5 (Xx c.2.2 [200]) λx=>some x) (some false)) (some false)) (some false)) (some false)) (some false)) (some false)) λr=>some r
def q5:FQ:=⟨[],tR 0 ny,mE 93 [(12,s12),(6,s6),(13,s13),(9,s9),(14,s14)],sN 8 (iq (jnR [(0,1),(43,55)] sgN P9) P9)⟩
def s5:FSpec:=fU q5 λx=>xn
def sO(A:X4):c9o:=l7 (D9 (x8 A.2.2.1 0)) (some 0) (l7 (D9 (x8 A.2.2.2.1 0)) (some 0) (l7 (D9 (x8 A.1.1 3)) (some 0) (l7 (D9 (x8 A.2.1.1 3)) (some 0) (some (J3 .i64 A.2.1.2.2 A.1.2.2)))))
def q7:FQ:=⟨[tD y40],tR 2 Y5,mE 30 [],P9⟩
def s7:FSpec:=fU q7 λx=>sO x
def ps3:List MG:=[(true,(.dat y28)),Y5,(false,(.dat y33)),Y5]
def tV(A:Dp)(B:Int)(C:List dI)(D:Int):c9n:=o5 (Rk A C) λx=>l7 (D9 x) (o5 xn λx=>some x) (o5 (zW A.1 A.2 B C D) λx=>o5 (l7 (D9 (x8 x.2.2 0)) (l7 (D9 (x8 x.2.2 0)) (o5 xn λx=>some (.inr x)) (some (.inr false))) (l7 (D9 (x8 (o9 x.1) (o9 C))) (l7 (D9 (x8 x.2.2 0)) (o5 xn λx=>some (.inr x)) (some (.inr false))) (l7 (D9 (x8 x.2.1.1 (o9 C))) (l7 (D9 (x8 x.2.2 0)) (o5 xn λx=>some (.inr x)) (some (.inr false))) (some (.inl ()))))) λo=>X9 o (λn=>o5 (ay (λ(b:Int×Bool×ak)=>l7 (E9 b.2.2.2 (o9 x.1)) (l7 b.2.1 (o5 (F9 x.1 b.2.2.2) λi=>o5 (O8 x.1 (U6 b.2.2.2)) λd=>l7 (x8 d.2.2.1 0) (o5 (F9 x.1 b.2.2.2) λf=>o5 (O8 x.1 (U6 b.2.2.2)) λc=>o5 (F9 x.1 b.2.2.2) λg=>o5 (O8 x.1 (U6 b.2.2.2)) λj=>o5 (sO j) λk=>o5 (F9 x.1 b.2.2.2) λp=>o5 (O8 x.1 (U6 b.2.2.2)) λx=>o5 (kH x) λx=>l7 x (some (.inl (A7 .i64 b.1 k,x8 c.2.2.2.1 0,A7 .i64 b.2.2.1 1,A7 .i64 b.2.2.2 1))) (some (.inl (A7 .i64 b.1 k,x8 c.2.2.2.1 0,b.2.2.1,A7 .i64 b.2.2.2 1)))) (o5 (F9 x.1 b.2.2.2) λf=>o5 (O8 x.1 (U6 b.2.2.2)) λc=>o5 (sO c) λg=>o5 (F9 x.1 b.2.2.2) λj=>o5 (O8 x.1 (U6 b.2.2.2)) λx=>o5 (kH x) λx=>l7 x (some (.inl (A7 .i64 b.1 g,false,A7 .i64 b.2.2.1 1,A7 .i64 b.2.2.2 1))) (some (.inl (A7 .i64 b.1 g,false,b.2.2.1,A7 .i64 b.2.2.2 1))))) (o5 (F9 x.1 b.2.2.2) λi=>o5 (O8 x.1 (U6 b.2.2.2)) λd=>o5 (sO d) λf=>o5 (F9 x.1 b.2.2.2) λc=>o5 (O8 x.1 (U6 b.2.2.2)) λx=>o5 (kH x) λx=>l7 x (some (.inl (A7 .i64 b.1 f,false,A7 .i64 b.2.2.1 1,A7 .i64 b.2.2.2 1))) (some (.inl (A7 .i64 b.1 f,false,b.2.2.1,A7 .i64 b.2.2.2 1))))) (some (.inr (b.1,b.2.1,b.2.2.1)))) (0,true,0,0)) λy=>o5 (vg x.1) λb=>o5 (V7 (λ(x:Int)=>l7 (E9 x (o9 b.2.1)) (o5 (F9 b.2.1 x) λi=>o5 (O8 b.2.1 (U6 x)) λd=>l7 (E9 d 1) (some (.rt false)) (o5 (F9 b.2.1 x) λf=>o5 (O8 b.2.1 (U6 x)) λc=>l7 (E9 y.2.2 c) (some (.rt false)) (some (.nx (A7 .i64 x 1))))) (some (.ex ()))) 0) λo=>X9 o (λy_1=>l7 (x8 x.2.1.2.1 y.2.2) (l7 (D9 y.2.1) (o5 xn λx=>some x) (l7 (x8 (J3 .i64 x.2.1.2.2.2.2.2.2 x.2.1.2.2.2.2.2.1) y.1) (o5 xn λx=>some x) (some false))) (some false)) λr=>some r) λr=>some r)
def q3:FQ:=⟨ps3,tR 8 ny,mE 140 [(4,s4),(5,s5),(6,s6),(7,s7),(8,s8),(9,s9)],sN 3 (iq (jnR [(8,9),(37,58)] sgN P9) (sN 1 (iq (sN 1 (lK (.loop [(12,16),(58,95)] ⟨[(12,Y5),(13,ny),(14,Y5),(15,Y5)],[]⟩ 0 ⟨[(12,Y5),(13,ny),(14,Y5)],[]⟩ P9))) (sN 1 (iq (sN 1 (lK (lpR [(8,9),(19,20),(101,120)] ⟨[(19,Y5)],[]⟩ 2 sgN P9))) P9)))))⟩
def s3:FSpec:=fU q3 λx=>tV x.1 x.2.1 x.2.2.1 x.2.2.2
abbrev c9g:Ty:=y27
end
end Gt
