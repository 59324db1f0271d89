import Derived.Test.YtaohichhnkhobaaGreatDoorU2
set_option linter.all false
open Go Go.GP
namespace Gt
abbrev NQ:d5X:=[0,1,2,2,3,3,3,3,4,4,4,4,4,4,4,4,5,5,5,5,5,5,5,5,5,5,5,5,5,5,5,5,6,6,6,6,6,6,6,6,6,6,6,6,6,6,6,6,6,6,6,6,6,6,6,6,6,6,6,6,6,6,6,6,7,7,7,7,7,7,7,7,7,7,7,7,7,7,7,7,7,7,7,7,7,7,7,7,7,7,7,7,7,7,7,7,7,7,7,7,7,7,7,7,7,7,7,7,7,7,7,7,7,7,7,7,7,7,7,7,7,7,7,7,7,7,7,7,8,8,8,8,8,8,8,8,8,8,8,8,8,8,8,8,8,8,8,8,8,8,8,8,8,8,8,8,8,8,8,8,8,8,8,8,8,8,8,8,8,8,8,8,8,8,8,8,8,8,8,8,8,8,8,8,8,8,8,8,8,8,8,8,8,8,8,8,8,8,8,8,8,8,8,8,8,8,8,8,8,8,8,8,8,8,8,8,8,8,8,8,8,8,8,8,8,8,8,8,8,8,8,8,8,8,8,8,8,8,8,8,8,8,8,8,8,8,8,8,8,8,8,8,8,8,8,8]
set_option maxRecDepth 100000
noncomputable section
def a1T(f:Func):Code:=match f.body with|some c=>c|none=> .skip
abbrev mkS(ps:List MG)(rt:Ret)(F:bC ps->Option rt.den):FSpec:=⟨ps,rt.rs.map (·.2),rt.outs.map (·.2),F⟩
structure FQ where
 (ps:List MG)
 (rt:Ret)
 (E:Env)
 (an:Ann)
abbrev Y0(q:FQ)(F:bC q.ps->Option q.rt.den):FSpec:=mkS q.ps q.rt F
abbrev jnR:=Ann.joinR
abbrev qm:=Ann.loopR
abbrev Y3:=Ann.seq
abbrev dE:=Ann.blk
abbrev nZ:Sig:=⟨[],[]⟩
def sN:Nat->Ann->Ann
 |0,a=>a|n+1,a=> .seq .leaf (sN n a)
abbrev uO(t:Ty):MG:=(false,.own t)
abbrev uD(t:Ty):MG:=(false,.dat t)
abbrev tD(t:Ty):MG:=(true,.dat t)
abbrev pA:=M.pair
abbrev oW:=M.own
abbrev dT:=M.dat
abbrev F6:Ann:=.leaf
abbrev diM:M:=.dat (.int .i64)
abbrev oiM:M:=.own (.int .i64)
abbrev dbM:M:=.dat .bool
abbrev G7:MG:=(false,diM)
abbrev eF:MG:=(false,dbM)
abbrev jc:MG:=(false,oiM)
abbrev y0:Ty:=.prod .str (.sl .str)
abbrev y1:Ty:=.sl y0
abbrev y2:Ty:=.prod (.int .i64) (.int .i64)
abbrev y3:Ty:=.prod (.int .i64) y2
abbrev y4:Ty:=.prod y2 y3
abbrev y5:Ty:=.sl y4
abbrev y6:Ty:=.prod y2 y5
abbrev y7:Ty:=.prod y2 y6
abbrev y8:Ty:=.prod .str y7
abbrev y9:Ty:=.sl y8
abbrev y10:Ty:=.prod .str y2
abbrev y11:Ty:=.sl y10
abbrev y12:Ty:=.sl y2
abbrev y13:Ty:=.prod y12 .str
abbrev y14:Ty:=.prod y12 y13
abbrev y15:Ty:=.prod y2 y14
abbrev y16:Ty:=.prod (.int .i64) y15
abbrev y17:Ty:=.prod (.int .i64) y16
abbrev y18:Ty:=.prod (.int .i64) y17
abbrev y19:Ty:=.prod .str y18
abbrev y20:Ty:=.sl y19
abbrev y21:Ty:=.prod y11 y20
abbrev y22:Ty:=.prod y11 y21
abbrev y23:Ty:=.prod (.int .i64) y22
abbrev y24:Ty:=.prod .str y23
abbrev y25:Ty:=.sl y24
abbrev y26:Ty:=.prod y9 y25
abbrev y27:Ty:=.prod y1 y26
abbrev y28:Ty:=.prod y27 y27
abbrev y29:Ty:=.sl y3
abbrev y30:Ty:=.sl y29
abbrev y31:Ty:=.prod y29 y30
abbrev y32:Ty:=.prod (.int .i64) y31
abbrev y33:Ty:=.sl y32
abbrev y34:Ty:=.prod .str (.int .i64)
abbrev y35:Ty:=.prod .str y34
abbrev y36:Ty:=.sl y35
abbrev y37:Ty:=.prod (.int .i64) y36
abbrev y38:Ty:=.prod (.int .i64) y37
abbrev y39:Ty:=.prod y3 y38
abbrev y40:Ty:=.prod y3 y39
abbrev y41:Ty:=.sl y40
abbrev y42:Ty:=.prod (.int .i64) y3
abbrev y43:Ty:=.prod (.int .i64) y42
abbrev y44:Ty:=.prod (.int .i64) y43
abbrev y45:Ty:=.prod (.int .i64) y44
abbrev qK:Ty:=.sl (.int .i64)
abbrev y47:Ty:=.sl (.ent true false y35 (.int .i64))
abbrev y48:Ty:=.prod .str .str
abbrev y49:Ty:=.sl (.ent true false y48 .bool)
abbrev y50:Ty:=.sl (.int .u8)
abbrev y51:Ty:=.sl (.ent false false .str (.int .i64))
abbrev y52:Ty:=.prod y24 y51
abbrev y53:Ty:=.sl (.ent false true .str y52)
abbrev y54:Ty:=.prod y29 qK
abbrev y55:Ty:=.sl y54
abbrev y56:Ty:=.prod qK y55
abbrev y57:Ty:=.prod y29 y56
abbrev y58:Ty:=.prod y12 y9
abbrev y59:Ty:=.prod y30 y58
abbrev y60:Ty:=.prod y29 y59
abbrev y61:Ty:=.prod y29 y60
abbrev y62:Ty:=.prod (.int .i64) y61
abbrev y63:Ty:=.sl (.ent false false (.int .i64) .bool)
abbrev y64:Ty:=.sl qK
abbrev y65:Ty:=.prod y2 .str
abbrev y66:Ty:=.prod (.int .i64) y65
abbrev y67:Ty:=.prod .str y66
abbrev y68:Ty:=.prod .str y67
abbrev y69:Ty:=.prod y12 .bool
abbrev y70:Ty:=.prod y12 y69
abbrev y71:Ty:=.prod y12 y70
abbrev y72:Ty:=.prod y9 y71
abbrev y73:Ty:=.prod y1 y72
abbrev y74:Ty:=.prod (.sl .bool) (.sl .bool)
abbrev y75:Ty:=.prod y24 y74
abbrev y76:Ty:=.prod y24 y75
abbrev y77:Ty:=.prod qK y62
abbrev y78:Ty:=.prod y12 y77
abbrev y79:Ty:=.prod qK qK
abbrev y80:Ty:=.prod qK y79
def tt:List (Nat×TI):=[(3,⟨1,8,(.int .i64),some (.int .i64),[.i .i64 0]⟩),(4,⟨1,1,.bool,some .bool,[.b false]⟩),(5,⟨1,1,(.int .u8),some (.int .u8),[.i .u8 0]⟩),(9,⟨1,16,.str,some .str,[.s []]⟩),(22,⟨1,24,(.sl 73),some y1,[.nl]⟩),(23,⟨1,24,(.sl 78),some y9,[.nl]⟩),(24,⟨1,24,(.sl 82),some y25,[.nl]⟩),(26,⟨3,72,(.struct [(22,0),(23,1),(24,2)]),some y27,[.nl,.nl,.nl]⟩),(28,⟨6,144,(.struct [(26,0),(26,3)]),some y28,[.nl,.nl,.nl,.nl,.nl,.nl]⟩),(29,⟨1,24,(.sl 44),some y33,[.nl]⟩),(32,⟨1,24,(.sl 62),some y41,[.nl]⟩),(34,⟨7,56,(.struct [(3,0),(3,1),(3,2),(3,3),(3,4),(3,5),(3,6)]),some y45,[.i .i64 0,.i .i64 0,.i .i64 0,.i .i64 0,.i .i64 0,.i .i64 0,.i .i64 0]⟩),(35,⟨1,8,(.int .i64),some (.int .i64),[.i .i64 0]⟩),(41,⟨1,24,(.sl 51),some y29,[.nl]⟩),(42,⟨1,24,(.sl 41),some y30,[.nl]⟩),(44,⟨3,56,(.struct [(3,0),(41,1),(42,2)]),some y32,[.i .i64 0,.nl,.nl]⟩),(48,⟨2,16,(.struct [(3,0),(3,1)]),some y2,[.i .i64 0,.i .i64 0]⟩),(49,⟨1,24,(.sl 48),some y12,[.nl]⟩),(51,⟨3,24,(.struct [(3,0),(3,1),(3,2)]),some y3,[.i .i64 0,.i .i64 0,.i .i64 0]⟩),(52,⟨1,24,(.sl 9),some (.sl .str),[.nl]⟩),(54,⟨1,24,(.sl 59),some y36,[.nl]⟩),(55,⟨1,24,(.sl 3),some qK,[.nl]⟩),(59,⟨3,40,(.struct [(9,0),(9,1),(3,2)]),some y35,[.s [],.s [],.i .i64 0]⟩),(62,⟨9,88,(.struct [(51,0),(51,3),(35,6),(35,7),(54,8)]),some y40,[.i .i64 0,.i .i64 0,.i .i64 0,.i .i64 0,.i .i64 0,.i .i64 0,.i .i64 0,.i .i64 0,.nl]⟩),(73,⟨2,40,(.struct [(9,0),(52,1)]),some y0,[.s [],.nl]⟩),(75,⟨2,16,(.struct [(3,0),(3,1)]),some y2,[.i .i64 0,.i .i64 0]⟩),(76,⟨1,24,(.sl 169),some y5,[.nl]⟩),(78,⟨6,72,(.struct [(9,0),(75,1),(75,3),(76,5)]),some y8,[.s [],.i .i64 0,.i .i64 0,.i .i64 0,.i .i64 0,.nl]⟩),(79,⟨1,24,(.sl 89),some y11,[.nl]⟩),(80,⟨1,24,(.sl 87),some y20,[.nl]⟩),(82,⟨5,96,(.struct [(9,0),(3,1),(79,2),(79,3),(80,4)]),some y24,[.s [],.i .i64 0,.nl,.nl,.nl]⟩),(85,⟨2,16,(.struct [(3,0),(3,1)]),some y2,[.i .i64 0,.i .i64 0]⟩),(87,⟨9,120,(.struct [(9,0),(3,1),(3,2),(3,3),(85,4),(49,6),(49,7),(9,8)]),some y19,[.s [],.i .i64 0,.i .i64 0,.i .i64 0,.i .i64 0,.i .i64 0,.nl,.nl,.s []]⟩),(89,⟨3,32,(.struct [(9,0),(75,1)]),some y10,[.s [],.i .i64 0,.i .i64 0]⟩),(92,⟨2,32,(.arr 2 9),none,[.s [],.s []]⟩),(95,⟨1,8,(.map 59 3),some y47,[.sl (.ent true false y35 (.int .i64)) []]⟩),(99,⟨4,32,(.struct [(35,0),(3,1),(3,2),(3,3)]),some y42,[.i .i64 0,.i .i64 0,.i .i64 0,.i .i64 0]⟩),(104,⟨1,8,(.map 108 4),some y49,[.sl (.ent true false y48 .bool) []]⟩),(108,⟨2,32,(.struct [(9,0),(9,1)]),some y48,[.s [],.s []]⟩),(112,⟨4,32,(.struct [(35,0),(3,1),(3,2),(3,3)]),some y42,[.i .i64 0,.i .i64 0,.i .i64 0,.i .i64 0]⟩),(121,⟨1,24,(.sl 5),some y50,[.nl]⟩),(131,⟨1,8,(.map 9 191),some y53,[.sl (.ent false true .str y52) []]⟩),(143,⟨1,8,(.int .u64),some (.int .u64),[.i .u64 0]⟩),(152,⟨1,16,.other,none,[]⟩),(169,⟨5,40,(.struct [(85,0),(3,2),(3,3),(3,4)]),some y4,[.i .i64 0,.i .i64 0,.i .i64 0,.i .i64 0,.i .i64 0]⟩),(173,⟨1,24,(.sl 250),some y55,[.nl]⟩),(175,⟨3,72,(.struct [(41,0),(55,1),(173,2)]),some y57,[.nl,.nl,.nl]⟩),(176,⟨1,24,(.sl 75),some y12,[.nl]⟩),(178,⟨6,128,(.struct [(3,0),(41,1),(41,2),(42,3),(176,4),(23,5)]),some y62,[.i .i64 0,.nl,.nl,.nl,.nl,.nl]⟩),(181,⟨1,8,(.map 3 4),some y63,[.sl (.ent false false (.int .i64) .bool) []]⟩),(183,⟨1,24,(.sl 55),some y64,[.nl]⟩),(185,⟨1,24,(.sl 4),some (.sl .bool),[.nl]⟩),(189,⟨1,8,(.map 9 3),some y51,[.sl (.ent false false .str (.int .i64)) []]⟩),(191,⟨6,104,(.struct [(82,0),(189,5)]),some y52,[.s [],.i .i64 0,.nl,.nl,.nl,.sl (.ent false false .str (.int .i64)) []]⟩),(194,⟨6,72,(.struct [(9,0),(9,1),(3,2),(85,3),(9,5)]),some y68,[.s [],.s [],.i .i64 0,.i .i64 0,.i .i64 0,.s []]⟩),(219,⟨1,8,(.int .u64),some (.int .u64),[.i .u64 0]⟩),(241,⟨6,128,(.struct [(22,0),(23,1),(176,2),(176,3),(176,4),(4,5)]),some y73,[.nl,.nl,.nl,.nl,.nl,.b false]⟩),(245,⟨12,240,(.struct [(82,0),(82,5),(185,10),(185,11)]),some y76,[.s [],.i .i64 0,.nl,.nl,.nl,.s [],.i .i64 0,.nl,.nl,.nl,.nl,.nl]⟩),(250,⟨2,48,(.struct [(41,0),(55,1)]),some y54,[.nl,.nl]⟩),(304,⟨1,8,(.ptr 305),none,[]⟩),(305,⟨1,24,(.sl 3),some qK,[.nl]⟩),(312,⟨8,176,(.struct [(49,0),(55,1),(178,2)]),some y78,[.nl,.nl,.i .i64 0,.nl,.nl,.nl,.nl,.nl]⟩),(327,⟨12,96,(.arr 12 3),none,[.i .i64 0,.i .i64 0,.i .i64 0,.i .i64 0,.i .i64 0,.i .i64 0,.i .i64 0,.i .i64 0,.i .i64 0,.i .i64 0,.i .i64 0,.i .i64 0]⟩),(342,⟨3,72,(.struct [(55,0),(55,1),(55,2)]),some y80,[.nl,.nl,.nl]⟩)]
def eqs:List (Nat×List Ty):=[(34,[(.int .i64),(.int .i64),(.int .i64),(.int .i64),(.int .i64),(.int .i64),(.int .i64)]),(48,[(.int .i64),(.int .i64)]),(51,[(.int .i64),(.int .i64),(.int .i64)]),(59,[.str,.str,(.int .i64)]),(75,[(.int .i64),(.int .i64)]),(85,[(.int .i64),(.int .i64)]),(89,[.str,(.int .i64),(.int .i64)]),(99,[(.int .i64),(.int .i64),(.int .i64),(.int .i64)]),(108,[.str,.str]),(169,[(.int .i64),(.int .i64),(.int .i64),(.int .i64),(.int .i64)]),(194,[.str,.str,(.int .i64),(.int .i64),(.int .i64),.str])]
def gl:List (Nat×(t:Ty)×List t.den):=[(2,⟨.int .i64,[31,28,31,30,31,30,31,31,30,31,30,31]⟩),(0,⟨.int .u64,[1,10,100,1000,10000,100000,1000000,10000000,100000000,1000000000,10000000000,100000000000,1000000000000,10000000000000,100000000000000,1000000000000000,10000000000000000,100000000000000000,1000000000000000000,10000000000000000000]⟩)]
abbrev mE(n:Nat)(fs:List (Nat×FSpec)):Env:=⟨n,eqs,tt,gl,fs,[],[],[],[],[],[]⟩
abbrev tR(n:Nat)(m:MG):Ret:=⟨[(.tmp n,m)],[]⟩
abbrev cR(n k:Nat)(m:MG):Ret:=⟨[(.cell n k,m)],[]⟩
abbrev I9:Type:=Ty.den y2
abbrev AP:Type:=Ty.den y2
abbrev dK:Type:=Ty.den y48
abbrev J3:Type:=Ty.den y3
abbrev aS:Type:=Ty.den y35
abbrev gI:Type:=Ty.den y0
abbrev gu:Type:=Ty.den y10
abbrev N9:Type:=Ty.den y42
abbrev qc:Type:=Ty.den y42
abbrev xH:Type:=Ty.den y4
abbrev lg:Type:=Ty.den y80
abbrev a0b:Type:=Ty.den y54
abbrev qx:Type:=Ty.den y68
abbrev bH:Type:=Ty.den y45
abbrev fM:Type:=Ty.den y32
abbrev W9:Type:=Ty.den y40
abbrev dC:Type:=Ty.den y8
abbrev Bv:Type:=Ty.den y57
abbrev aC:Type:=Ty.den y19
abbrev N8:Type:=Ty.den y73
abbrev dJ:Type:=Ty.den y62
abbrev D7:Type:=Ty.den y24
abbrev jl:Type:=Ty.den y52
abbrev aI:Type:=Ty.den y78
abbrev cO:Type:=Ty.den y76
abbrev U4:Type:=Ty.den y27
abbrev Dj:Type:=Ty.den y28
def Ej(A:fM):d6b:=l7 (D8 14 (o9 A.2.1)) (some false) (l7 (D8 10 (o9 A.2.2)) (some false) (o5 (U0 (λ(x:Int)=>l7 (D8 x (o9 A.2.2)) (o5 (G8 A.2.2 x) λb=>l7 (D8 14 (o9 b)) (some (.rt false)) (some (.nx (x9 .i64 x 1)))) (some (.ex ()))) 0) λo=>V5 o (λy=>some true) λr=>some r))
def q9:FQ:=⟨[tD y32],tR 2 eF,mE 28 [],sN 2 (Y3 (sN 1 (dE (qm [(2,4),(14,28)] ⟨[(3,G7)],[]⟩ 0 nZ F6))) F6)⟩
def s9:FSpec:=Y0 q9 λx=>Ej x
def BR(A:D7):d6b:=o5 (l7 (D8 80 (o9 A.1)) (some (.inr false)) (l7 (D8 14 (o9 A.2.2.1)) (some (.inr false)) (l7 (D8 14 (o9 A.2.2.2.1)) (some (.inr false)) (l7 (D8 60 (o9 A.2.2.2.2)) (some (.inr false)) (some (.inl ())))))) λo=>V5 o (λx=>o5 (U0 (λ(x:Int)=>l7 (D8 x (o9 A.2.2.1)) (o5 (G8 A.2.2.1 x) λb=>l7 (D8 80 (o9 b.1)) (some (.rt false)) (some (.nx (x9 .i64 x 1)))) (some (.ex ()))) 0) λo=>V5 o (λy=>o5 (U0 (λ(x:Int)=>l7 (D8 x (o9 A.2.2.2.1)) (o5 (G8 A.2.2.2.1 x) λb=>l7 (D8 80 (o9 b.1)) (some (.rt false)) (some (.nx (x9 .i64 x 1)))) (some (.ex ()))) 0) λo=>V5 o (λy=>o5 (U0 (λ(x:Int)=>l7 (D8 x (o9 A.2.2.2.2)) (o5 (G8 A.2.2.2.2 x) λb=>l7 (D8 80 (o9 b.1)) (some (.rt false)) (l7 (D8 80 (o9 b.2.2.2.2.2.2.2)) (some (.rt false)) (l7 (D8 50 (o9 b.2.2.2.2.2.1)) (some (.rt false)) (l7 (D8 50 (o9 b.2.2.2.2.2.2.1)) (some (.rt false)) (some (.nx (x9 .i64 x 1))))))) (some (.ex ()))) 0) λo=>V5 o (λy=>some true) λr=>some r) λr=>some r) λr=>some r) λr=>some r
def q22:FQ:=⟨[tD y24],tR 2 eF,mE 93 [],sN 1 (Y3 (jnR [(2,3),(7,29)] nZ F6) (Y3 (sN 1 (dE (qm [(2,4),(29,44)] ⟨[(3,G7)],[]⟩ 0 nZ F6))) (Y3 (sN 1 (dE (qm [(2,3),(4,5),(44,59)] ⟨[(4,G7)],[]⟩ 2 nZ F6))) (Y3 (sN 1 (dE (qm [(2,3),(5,7),(59,93)] ⟨[(5,G7)],[]⟩ 4 nZ F6))) F6))))⟩
def s22:FSpec:=Y0 q22 λx=>BR x
def Bl(A:U4):d6b:=o5 (l7 (D8 9 (o9 A.1)) (some (.inr false)) (l7 (D8 9 (o9 A.2.1)) (some (.inr false)) (l7 (D8 5 (o9 A.2.2)) (some (.inr false)) (some (.inl ()))))) λo=>V5 o (λx=>o5 (U0 (λ(x:Int)=>l7 (D8 x (o9 A.1)) (o5 (G8 A.1 x) λb=>l7 (D8 80 (o9 b.1)) (some (.rt false)) (o5 (G8 A.1 x) λc=>l7 (D8 20 (o9 c.2)) (some (.rt false)) (o5 (U0 (λ(d:Int)=>o5 (G8 A.1 x) λf=>l7 (D8 d (o9 f.2)) (o5 (G8 A.1 x) λx=>o5 (G8 x.2 d) λx=>l7 (D8 80 (o9 x)) (some (.rt false)) (some (.nx (x9 .i64 d 1)))) (some (.ex ()))) 0) λo=>V5 o (λy=>some (.nx (x9 .i64 x 1))) λr=>some (.rt r)))) (some (.ex ()))) 0) λo=>V5 o (λy=>o5 (U0 (λ(x:I9)=>l7 (D8 x.2 (o9 A.2.1)) (o5 (G8 A.2.1 x.2) λb=>o5 (G8 A.2.1 x.2) λc=>l7 (D8 80 (o9 c.1)) (some (.rt false)) (l7 (D8 150 (x9 .i64 x.1 (o9 b.2.2.2))) (some (.rt false)) (some (.nx (x9 .i64 x.1 (o9 b.2.2.2),x9 .i64 x.2 1))))) (some (.ex ()))) (0,0)) λo=>V5 o (λy=>o5 (U0 (λ(x:I9)=>l7 (D8 x.2 (o9 A.2.2)) (o5 (G8 A.2.2 x.2) λb=>l7 (D8 60 (x9 .i64 x.1 (o9 b.2.2.2.2))) (some (.rt false)) (o5 (G8 A.2.2 x.2) λc=>o5 (BR c) λd=>l7 (D6 d) (some (.rt false)) (some (.nx (x9 .i64 x.1 (o9 b.2.2.2.2),x9 .i64 x.2 1))))) (some (.ex ()))) (0,0)) λo=>V5 o (λy=>some true) λr=>some r) λr=>some r) λr=>some r) λr=>some r
def q10:FQ:=⟨[tD y27],tR 2 eF,mE 127 [(22,s22)],sN 1 (Y3 (jnR [(2,3),(9,25)] nZ F6) (sN 2 (Y3 (sN 1 (dE (qm [(2,3),(5,7),(25,72)] ⟨[(5,G7)],[]⟩ 0 nZ (sN 1 (Y3 (dE (sN 2 (dE (qm [(2,3),(6,7),(50,72)] ⟨[(6,G7)],[]⟩ 2 nZ F6)))) F6))))) (Y3 (sN 1 (dE (qm [(2,4),(7,8),(72,100)] ⟨[(3,G7),(7,G7)],[]⟩ 4 nZ F6))) (Y3 (sN 1 (dE (qm [(2,3),(4,5),(8,9),(100,127)] ⟨[(4,G7),(8,G7)],[]⟩ 6 nZ F6))) F6)))))⟩
def s10:FSpec:=Y0 q10 λx=>Bl x
def QC(A:Dj)(B:List fM):d6b:=o5 (U0 (λ(x:Int)=>l7 (D8 x (o9 B)) (l7 (D8 x 20) (o5 (G8 B x) λb=>o5 (Ej b) λc=>l7 (D6 c) (some (.rt false)) (some (.nx (x9 .i64 x 1)))) (some (.ex ()))) (some (.ex ()))) 0) λo=>V5 o (λy=>o5 (Bl A.1) λx=>l7 x (o5 (Bl A.2) λx=>l7 x (some (J6 (o9 B) 8)) (some false)) (some false)) λr=>some r
def q4:FQ:=⟨[tD y28,uD y33],tR 4 eF,mE 35 [(9,s9),(10,s10)],sN 1 (Y3 (sN 1 (dE (qm [(4,22)] ⟨[(5,G7)],[]⟩ 0 nZ F6))) F6)⟩
def s4:FSpec:=Y0 q4 λx=>QC x.1 x.2
def NI(A:List I9):Option U4:=some ([],[],[([104,111,117,115,101],-1,[([97],3,0)],[([100],3,0)],[([98,97,115,101],0,-1,0,(0,109573),[],A,[])])])
def q11:FQ:=⟨[uD y12],⟨[(.cell 2 26,(true,(pA (dT y1) (pA (dT y9) (.owns (pA (dT .str) (pA diM (pA (dT y11) (pA (dT y11) (oW y19))))))))))],[]⟩,⟨22,eqs,tt,gl,[],[(24,(pA (dT .str) (pA diM (pA (dT y11) (pA (dT y11) (oW y19))))))],[],[],[],[],[]⟩,F6⟩
def s11:FSpec:=Y0 q11 λx=>NI x
def xW(A:Int):d6b:=l7 (J6 97 A) (some (J6 A 122)) (some false)
def c6O:FQ:=⟨[(false,(dT (.int .u8)))],tR 2 eF,mE 9 [],F6⟩
def c1c:FSpec:=Y0 c6O λx=>xW x
def AX(A:Int):d6b:=l7 (J6 48 A) (some (J6 A 57)) (some false)
def c7x:FQ:=⟨[(false,(dT (.int .u8)))],tR 2 eF,mE 9 [],F6⟩
def d1O:FSpec:=Y0 c7x λx=>AX x
def zX(A:d5X):d6c:=o5 (Y8 (λ(x:Int)=>l7 (D8 x (o9 A)) (o5 (sat A x) λb=>o5 (xW b) λc=>l7 c (some (.inl (x9 .i64 x 1))) (o5 (sat A x) λd=>o5 (AX d) λf=>l7 f (some (.inl (x9 .i64 x 1))) (o5 (sat A x) λg=>l7 (x8 g 95) (some (.inl (x9 .i64 x 1))) (some (.inr x))))) (some (.inr x))) 0) λy=>some y
def c6P:FQ:=⟨[uD .str],tR 2 G7,mE 29 [(146,c1c),(196,d1O)],sN 2 (Y3 (dE (.loop [(3,28)] ⟨[(3,G7)],[]⟩ 0 ⟨[(3,G7)],[]⟩ F6)) F6)⟩
def d1j:FSpec:=Y0 c6P λx=>zX x
def DJ(A:d5X):d6b:=o5 (l7 (seq A [105,102]) (some (seq A [105,102])) (l7 (seq A [116,104,101,110]) (some (seq A [116,104,101,110])) (l7 (seq A [101,108,115,101]) (some (seq A [101,108,115,101])) (l7 (seq A [111,114]) (some (seq A [111,114])) (l7 (seq A [97,110,100]) (some (seq A [97,110,100])) (l7 (seq A [110,111,116]) (some (seq A [110,111,116])) (l7 (seq A [116,114,117,101]) (some (seq A [116,114,117,101])) (l7 (seq A [102,97,108,115,101]) (some (seq A [102,97,108,115,101])) (l7 (seq A [116,111,100,97,121]) (some (seq A [116,111,100,97,121])) (l7 (seq A [115,104,97,114,101]) (some (seq A [115,104,97,114,101])) (l7 (seq A [100,105,118]) (some (seq A [100,105,118])) (l7 (seq A [114,111,117,110,100]) (some (seq A [114,111,117,110,100])) (l7 (seq A [109,105,110]) (some (seq A [109,105,110])) (l7 (seq A [109,97,120]) (some (seq A [109,97,120])) (l7 (seq A [112,108,117,115]) (some (seq A [112,108,117,115])) (l7 (seq A [109,111,110,116,104,115]) (some (seq A [109,111,110,116,104,115])) (l7 (seq A [100,97,121,115]) (some (seq A [100,97,121,115])) (l7 (seq A [121,101,97,114,115]) (some (seq A [121,101,97,114,115])) (l7 (seq A [121,101,97,114]) (some (seq A [121,101,97,114])) (l7 (seq A [109,111,110,116,104]) (some (seq A [109,111,110,116,104])) (l7 (seq A [116,97,98]) (some (seq A [116,97,98])) (l7 (seq A [98,97,110,100]) (some (seq A [98,97,110,100])) (l7 (seq A [99,111,117,110,116]) (some (seq A [99,111,117,110,116])) (l7 (seq A [115,117,109]) (some (seq A [115,117,109])) (l7 (seq A [97,108,108]) (some (seq A [97,108,108])) (l7 (seq A [97,110,121]) (some (seq A [97,110,121])) (l7 (seq A [109,111,115,116]) (some (seq A [109,111,115,116])) (l7 (seq A [101,110,117,109]) (some (seq A [101,110,117,109])) (l7 (seq A [116,97,98,108,101]) (some (seq A [116,97,98,108,101])) (l7 (seq A [114,111,119]) (some (seq A [114,111,119])) (l7 (seq A [115,99,111,112,101]) (some (seq A [115,99,111,112,101])) (l7 (seq A [109,101,109,98,101,114,115]) (some (seq A [109,101,109,98,101,114,115])) (l7 (seq A [105,110,112,117,116]) (some (seq A [105,110,112,117,116])) (l7 (seq A [100,101,102]) (some (seq A [100,101,102])) (l7 (seq A [114,117,108,101]) (some (seq A [114,117,108,101])) (l7 (seq A [111,102]) (some (seq A [111,102])) (l7 (seq A [111,118,101,114]) (some (seq A [111,118,101,114])) (l7 (seq A [112,114,105,111]) (some (seq A [112,114,105,111])) (l7 (seq A [102,114,111,109]) (some (seq A [102,114,111,109])) (l7 (seq A [116,111]) (some (seq A [116,111])) (l7 (seq A [101,110,100]) (some (seq A [101,110,100])) (l7 (seq A [119,104,101,110]) (some (seq A [119,104,101,110])) (l7 (seq A [105,115]) (some (seq A [105,115])) (l7 (seq A [115,114,99]) (some (seq A [115,114,99])) (l7 (seq A [98,111,111,108]) (some (seq A [98,111,111,108])) (l7 (seq A [105,110,116]) (some (seq A [105,110,116])) (l7 (seq A [109,111,110,101,121]) (some (seq A [109,111,110,101,121])) (l7 (seq A [114,97,116,101]) (some (seq A [114,97,116,101])) (l7 (seq A [100,97,116,101]) (some (seq A [100,97,116,101])) (l7 (seq A [100,111,119,110]) (some (seq A [100,111,119,110])) (l7 (seq A [117,112]) (some (seq A [117,112])) (l7 (seq A [122,101,114,111]) (some (seq A [122,101,114,111])) (l7 (seq A [97,119,97,121]) (some (seq A [97,119,97,121])) (l7 (seq A [104,97,108,102]) (some (seq A [104,97,108,102])) (some (seq A [101,118,101,110])))))))))))))))))))))))))))))))))))))))))))))))))))))))) λx=>l7 x (some true) (some false)
def c6Q:FQ:=⟨[uD .str],tR 2 eF,mE 60 [],sN 1 (Y3 (sN 1 (dE (Y3 (.join [(4,60)] ⟨[(4,eF)],[]⟩ F6) F6))) F6)⟩
def d1k:FSpec:=Y0 c6Q λx=>DJ x
def iw(A:d5X):d6b:=l7 (D6 (seq A [])) (o5 (sat A 0) λx=>o5 (xW x) λx=>l7 x (o5 (zX A) λx=>l7 (x8 x (o9 A)) (l7 (J6 (o9 A) 16) (o5 (DJ A) λx=>some (D6 x)) (some false)) (some false)) (some false)) (some false)
def q88:FQ:=⟨[uD .str],tR 2 eF,mE 27 [(146,c1c),(147,d1j),(148,d1k)],F6⟩
def s88:FSpec:=Y0 q88 λx=>iw x
def KO(A:gI)(B:d5X):d6b:=some (seq A.1 B)
def b4h:FQ:=⟨[tD y0,(false,(.rp .str))],tR 3 eF,mE 8 [],F6⟩
def a7G:FSpec:=Y0 b4h λx=>KO x.1 x.2
def lN(A:List gI)(B:d5X):d6c:=o5 (U0 (λ(x:Int)=>l7 (D8 x (o9 A)) (o5 (G8 A x) λb=>o5 (KO b B) λc=>l7 c (some (.rt x)) (some (.nx (x9 .i64 x 1)))) (some (.ex ()))) 0) λo=>V5 o (λy=>some (-1)) λr=>some r
def b4m:FQ:=⟨[uD y1,(false,(.fn 150 [.str]))],tR 4 G7,mE 19 [(150,a7G)],sN 1 (Y3 (sN 1 (dE (qm [(4,6),(8,19)] ⟨[(8,G7)],[]⟩ 0 nZ F6))) F6)⟩
def b5j:FSpec:=Y0 b4m λx=>lN x.1 x.2
def kC(A:List gI)(B:d5X):d6b:=o5 (lN A B) λx=>some (J6 0 x)
def b4g:FQ:=⟨[uD y1,(false,(.fn 150 [.str]))],tR 4 eF,mE 9 [(197,b5j)],F6⟩
def b5d:FSpec:=Y0 b4g λx=>kC x.1 x.2
def CU(A:List gI)(B:d5X):d6b:=o5 (kC A B) λx=>some x
def q89:FQ:=⟨[uD y1,(uD .str)],tR 4 eF,mE 8 [(150,a7G),(149,b5d)],F6⟩
def s89:FSpec:=Y0 q89 λx=>CU x.1 x.2
def sH(A:List d5X)(B:d5X):d6c:=o5 (U0 (λ(x:Int)=>l7 (D8 x (o9 A)) (o5 (G8 A x) λb=>l7 (seq B b) (some (.rt x)) (some (.nx (x9 .i64 x 1)))) (some (.ex ()))) 0) λo=>V5 o (λy=>some (-1)) λr=>some r
def c7v:FQ:=⟨[uD (.sl .str),(uD .str)],tR 4 G7,mE 19 [],sN 1 (Y3 (sN 1 (dE (qm [(4,6),(8,19)] ⟨[(8,G7)],[]⟩ 0 nZ F6))) F6)⟩
def d1M:FSpec:=Y0 c7v λx=>sH x.1 x.2
def kT(A:List d5X)(B:d5X):d6b:=o5 (sH A B) λx=>some (J6 0 x)
def c6K:FQ:=⟨[uD (.sl .str),(uD .str)],tR 4 eF,mE 9 [(194,d1M)],F6⟩
def d1h:FSpec:=Y0 c6K λx=>kT x.1 x.2
def Fv(A:U4)(B:Int)(C:gI):Option I9:=o5 (iw C.1) λx=>l7 (D6 x) (some (2,0)) (o5 (FX A.1 0 B) λx=>o5 (CU x C.1) λx=>l7 x (some (7,0)) (l7 (x8 (o9 C.2) 0) (some (5,0)) (l7 (D8 16 (o9 C.2)) (some (4,116)) (o5 (U0 (λ(x:Int)=>l7 (D8 x (o9 C.2)) (o5 (G8 C.2 x) λb=>o5 (iw b) λc=>l7 (D6 c) (some (.rt (2,x9 .i64 100 x))) (o5 (FX C.2 0 x) λd=>o5 (kT d b) λf=>l7 f (some (.rt (7,x9 .i64 100 x))) (some (.nx (x9 .i64 x 1))))) (some (.ex ()))) 0) λo=>V5 o (λy=>some (0,0)) λr=>some r))))
def q86:FQ:=⟨[tD y27,G7,tD y0],⟨[(.tmp 6,G7),(.tmp 7,G7)],[]⟩,mE 55 [(88,s88),(89,s89),(140,d1h)],sN 2 (Y3 (sN 1 (dE (qm [(6,10),(36,55)] ⟨[(36,G7)],[]⟩ 1 nZ F6))) F6)⟩
def s86:FSpec:=Y0 q86 λx=>Fv x.1 x.2.1 x.2.2
def DD(A:U4):Option N9:=l7 (D8 8 (o9 A.1)) (some (4,1,8,0)) (o5 (U0 (λ(x:N9×Int)=>l7 (D8 x.2 (o9 A.1)) (o5 (G8 A.1 x.2) λc=>o5 (Fv A x.2 c) λb=>l7 (D6 (x8 b.1 0)) (some (.rt (b.1,1,x.2,b.2))) (some (.nx (x.1,x9 .i64 x.2 1)))) (some (.ex x.1))) ((0,0,0,0),0)) λo=>V5 o (λ(y:N9)=>some (0,0,0,0)) λr=>some r)
def q48:FQ:=⟨[tD y27],cR 2 99 (tD y42),mE 35 [(86,s86)],sN 2 (Y3 (sN 1 (dE (qm [(2,7),(15,34),(4000128,4000129)] ⟨[(2,(false,(.box (dT y42)))),(15,G7)],[]⟩ 0 ⟨[(2,(false,(.box (dT y42))))],[]⟩ F6))) F6)⟩
def s48:FSpec:=Y0 q48 λx=>DD x
def iJ(A:I9)(B:List gI):d6b:=o5 (l7 (x8 A.1 1) (some (x8 A.1 1)) (l7 (x8 A.1 2) (some (x8 A.1 2)) (l7 (x8 A.1 3) (some (x8 A.1 3)) (l7 (x8 A.1 4) (some (x8 A.1 4)) (some (x8 A.1 5)))))) λx=>l7 x (some (x8 A.2 0)) (l7 (x8 A.1 6) (l7 (J6 0 A.2) (some (D8 A.2 (o9 B))) (some false)) (some false))
def c6H:FQ:=⟨[tD y2,uD y1],tR 4 eF,mE 28 [],sN 1 (Y3 (sN 1 (dE (Y3 (.join [(7,13)] ⟨[(7,eF)],[]⟩ F6) F6))) F6)⟩
def a7E:FSpec:=Y0 c6H λx=>iJ x.1 x.2
def qX(A:I9)(B:List gI):Option I9:=o5 (iJ A B) λx=>l7 (D6 x) (some (0,-1)) (l7 (x8 A.1 1) (some (0,1)) (l7 (x8 A.1 2) (some (-1000000000000,1000000000000)) (l7 (x8 A.1 3) (some (-1000000000000000,1000000000000000)) (l7 (x8 A.1 4) (some (-1000000000,1000000000)) (l7 (x8 A.1 5) (some (0,109572)) (o5 (G8 B A.2) λx=>some (0,H9 .i64 (o9 x.2) 1)))))))
def c6L:FQ:=⟨[tD y2,uD y1],⟨[(.tmp 4,G7),(.tmp 5,G7)],[]⟩,mE 30 [(137,a7E)],F6⟩
def b5a:FSpec:=Y0 c6L λx=>qX x.1 x.2
def tC(A:I9):d6b:=l7 (J6 0 A.1) (l7 (J6 A.1 A.2) (some (J6 A.2 109573)) (some false)) (some false)
def c6M:FQ:=⟨[tD y2],tR 2 eF,mE 18 [],F6⟩
def b8B:FSpec:=Y0 c6M λx=>tC x
def yz(A:I9):d6b:=o5 (tC A) λx=>l7 x (some (D8 A.1 A.2)) (some false)
def c7T:FQ:=⟨[tD y2],tR 2 eF,mE 12 [(142,b8B)],F6⟩
def d2f:FSpec:=Y0 c7T λx=>yz x
def vz(A:I9)(B:I9):Option (I9×Bool):=o5 (yz A) λx=>l7 (D6 x) (some ((0,0),false)) (o5 (yz B) λx=>l7 (D6 x) (some ((0,0),false)) (l7 (J6 (qj A.2 B.2) (nT A.1 B.1)) (some ((0,0),false)) (some ((nT A.1 B.1,qj A.2 B.2),true))))
def c7w:FQ:=⟨[tD y2,tD y2],⟨[(.cell 4 85,tD y2),(.tmp 5,eF)],[]⟩,mE 34 [(231,d2f)],F6⟩
def d1N:FSpec:=Y0 c7w λx=>vz x.1 x.2
def Es(A:xH)(B:xH):d6b:=o5 (vz A.1 B.1) λx=>l7 x.2 (some (D8 (nT A.2.1 B.2.1) (qj A.2.2.1 B.2.2.1))) (some false)
def c6N:FQ:=⟨[tD y4,tD y4],tR 4 eF,mE 29 [(195,d1N)],F6⟩
def d1i:FSpec:=Y0 c6N λx=>Es x.1 x.2
def wQ(A:xH)(B:xH):d6b:=o5 (Es A B) λx=>some x
def b4f:FQ:=⟨[tD y4,(false,(.rp y4))],tR 3 eF,mE 7 [(145,d1i)],F6⟩
def a7F:FSpec:=Y0 b4f λx=>wQ x.1 x.2
def vH(A:List xH)(B:xH):Option (Int×Bool):=o5 (U0 (λ(x:Int)=>l7 (D8 x (o9 A)) (o5 (G8 A x) λb=>o5 (wQ b B) λc=>l7 c (some (.rt (x,true))) (some (.nx (x9 .i64 x 1)))) (some (.ex ()))) 0) λo=>V5 o (λy=>some (0,false)) λr=>some r
def b4d:FQ:=⟨[uD y5,(false,(.fn 144 [y4]))],⟨[(.tmp 4,G7),(.tmp 5,eF)],[]⟩,mE 20 [(144,a7F)],sN 1 (Y3 (sN 1 (dE (qm [(4,8),(10,20)] ⟨[(10,G7)],[]⟩ 0 nZ F6))) F6)⟩
def b5b:FSpec:=Y0 b4d λx=>vH x.1 x.2
def Ep(A:dC)(B:List gI):Option I9:=l7 (D8 64 (o9 A.2.2.2)) (some (64,4)) (o5 (o5 (iJ A.2.1 B) λx=>l7 (D6 x) (some (.inr (-1,8))) (o5 (iJ A.2.2.1 B) λx=>l7 (D6 x) (some (.inr (-1,8))) (some (.inl ())))) λo=>V5 o (λx=>o5 (qX A.2.1 B) λx=>o5 (qX A.2.2.1 B) λd=>o5 (U0 (λ(b:Int)=>l7 (D8 b (o9 A.2.2.2)) (o5 (G8 A.2.2.2 b) λc=>o5 (o5 (tC c.1) λx=>l7 (D6 x) (some (.inr (b,3))) (l7 (x8 c.1.1 c.1.2) (some (.inr (b,3))) (l7 (J6 c.2.2.1 c.2.1) (some (.inr (b,3))) (some (.inl ()))))) λo=>V5 o (λf=>o5 (l7 (D8 c.2.1 x.1) (some (.inr (b,3))) (l7 (D8 x.2 c.2.1) (some (.inr (b,3))) (l7 (D8 (H9 .i64 c.2.2.1 1) x.1) (some (.inr (b,3))) (l7 (D8 x.2 (H9 .i64 c.2.2.1 1)) (some (.inr (b,3))) (some (.inl ())))))) λo=>V5 o (λx=>l7 (D8 c.2.2.2 d.1) (some (.rt (b,3))) (l7 (D8 d.2 c.2.2.2) (some (.rt (b,3))) (o5 (FX A.2.2.2 0 b) λx=>o5 (vH x c) λx=>l7 x.2 (some (.rt (b,11))) (some (.nx (x9 .i64 b 1)))))) λr=>some (.rt r)) λr=>some (.rt r)) (some (.ex ()))) 0) λo=>V5 o (λy=>some (0,0)) λr=>some r) λr=>some r)
def q87:FQ:=⟨[tD y8,uD y1],⟨[(.tmp 4,G7),(.tmp 5,G7)],[]⟩,mE 121 [(137,a7E),(141,b5a),(142,b8B),(144,a7F),(143,b5b)],sN 2 (Y3 (jnR [(4,6),(18,30)] nZ F6) (sN 2 (Y3 (sN 1 (dE (qm [(4,6),(10,14),(47,121)] ⟨[(47,G7)],[]⟩ 0 nZ (sN 2 (Y3 (dE (sN 1 (Y3 (jnR [(4,6),(52,73)] nZ F6) (Y3 (jnR [(4,6),(73,98)] nZ F6) F6)))) F6))))) F6)))⟩
def s87:FSpec:=Y0 q87 λx=>Ep x.1 x.2
def IV(A:dC)(B:d5X):d6b:=some (seq A.1 B)
def b4j:FQ:=⟨[tD y8,(false,(.rp .str))],tR 3 eF,mE 8 [],F6⟩
def a7H:FSpec:=Y0 b4j λx=>IV x.1 x.2
def kM(A:List dC)(B:d5X):d6c:=o5 (U0 (λ(x:Int)=>l7 (D8 x (o9 A)) (o5 (G8 A x) λb=>o5 (IV b B) λc=>l7 c (some (.rt x)) (some (.nx (x9 .i64 x 1)))) (some (.ex ()))) 0) λo=>V5 o (λy=>some (-1)) λr=>some r
def b4n:FQ:=⟨[uD y9,(false,(.fn 152 [.str]))],tR 4 G7,mE 19 [(152,a7H)],sN 1 (Y3 (sN 1 (dE (qm [(4,6),(8,19)] ⟨[(8,G7)],[]⟩ 0 nZ F6))) F6)⟩
def b5k:FSpec:=Y0 b4n λx=>kM x.1 x.2
def jA(A:List dC)(B:d5X):d6b:=o5 (kM A B) λx=>some (J6 0 x)
def b4i:FQ:=⟨[uD y9,(false,(.fn 152 [.str]))],tR 4 eF,mE 9 [(198,b5k)],F6⟩
def b5e:FSpec:=Y0 b4i λx=>jA x.1 x.2
def DI(A:List dC)(B:d5X):d6b:=o5 (jA A B) λx=>some x
def q90:FQ:=⟨[uD y9,(uD .str)],tR 4 eF,mE 8 [(152,a7H),(151,b5e)],F6⟩
def s90:FSpec:=Y0 q90 λx=>DI x.1 x.2
def BG(A:U4):Option N9:=l7 (D8 8 (o9 A.2.1)) (some (4,2,8,0)) (o5 (U0 (λ(x:N9×Int)=>l7 (D8 x.2 (o9 A.2.1)) (o5 (G8 A.2.1 x.2) λc=>o5 (Ep c A.1) λb=>o5 (o5 (iw c.1) λd=>l7 (D6 d) (some (2,2,x.2,0)) (o5 (CU A.1 c.1) λf=>l7 f (some (7,2,x.2,0)) (o5 (FX A.2.1 0 x.2) λg=>o5 (DI g c.1) λi=>l7 i (some (7,2,x.2,0)) (l7 (D6 (x8 b.2 0)) (l7 (D6 (x8 b.1 (-1))) (some (b.2,2,x.2,x9 .i64 100 b.1)) (some (b.2,2,x.2,0))) (some (0,2,x.2,0)))))) λd=>l7 (D6 (x8 d.1 0)) (some (.rt d)) (some (.nx (x.1,x9 .i64 x.2 1)))) (some (.ex x.1))) ((0,0,0,0),0)) λo=>V5 o (λ(y:N9)=>some (0,0,0,0)) λr=>some r)
def q49:FQ:=⟨[tD y27],cR 2 99 (tD y42),mE 68 [(87,s87),(88,s88),(89,s89),(90,s90)],sN 2 (Y3 (sN 1 (dE (qm [(2,8),(16,67),(4000128,4000129)] ⟨[(2,(false,(.box (dT y42)))),(16,G7)],[]⟩ 0 ⟨[(2,(false,(.box (dT y42))))],[]⟩ (sN 2 (Y3 (dE (sN 3 (Y3 (.join [(5,6),(30,62),(37000320,37000321)] ⟨[(5,(false,(.box (dT y42))))],[]⟩ F6) F6))) F6))))) F6)⟩
def s49:FSpec:=Y0 q49 λx=>BG x
def ET(A:D7)(B:D7):d6b:=some (seq A.1 B.1)
def b4l:FQ:=⟨[tD y24,(false,(.rp y24))],tR 3 eF,mE 9 [],F6⟩
def a7I:FSpec:=Y0 b4l λx=>ET x.1 x.2
def kL(A:List D7)(B:D7):d6c:=o5 (U0 (λ(x:Int)=>l7 (D8 x (o9 A)) (o5 (G8 A x) λb=>o5 (ET b B) λc=>l7 c (some (.rt x)) (some (.nx (x9 .i64 x 1)))) (some (.ex ()))) 0) λo=>V5 o (λy=>some (-1)) λr=>some r
def b4o:FQ:=⟨[uD y25,(false,(.fn 154 [y24]))],tR 4 G7,mE 19 [(154,a7I)],sN 1 (Y3 (sN 1 (dE (qm [(4,6),(8,19)] ⟨[(8,G7)],[]⟩ 0 nZ F6))) F6)⟩
def b5l:FSpec:=Y0 b4o λx=>kL x.1 x.2
def gB(A:List D7)(B:D7):d6b:=o5 (kL A B) λx=>some (J6 0 x)
def b4k:FQ:=⟨[uD y25,(false,(.fn 154 [y24]))],tR 4 eF,mE 9 [(199,b5l)],F6⟩
def b5f:FSpec:=Y0 b4k λx=>gB x.1 x.2
def ES(A:gu)(B:gu):d6b:=some (seq A.1 B.1)
def b4p:FQ:=⟨[tD y10,(false,(.rp y10))],tR 3 eF,mE 9 [],F6⟩
def a7J:FSpec:=Y0 b4p λx=>ES x.1 x.2
def kK(A:List gu)(B:gu):d6c:=o5 (U0 (λ(x:Int)=>l7 (D8 x (o9 A)) (o5 (G8 A x) λb=>o5 (ES b B) λc=>l7 c (some (.rt x)) (some (.nx (x9 .i64 x 1)))) (some (.ex ()))) 0) λo=>V5 o (λy=>some (-1)) λr=>some r
def b4t:FQ:=⟨[uD y11,(false,(.fn 200 [y10]))],tR 4 G7,mE 19 [(200,a7J)],sN 1 (Y3 (sN 1 (dE (qm [(4,6),(8,19)] ⟨[(8,G7)],[]⟩ 0 nZ F6))) F6)⟩
def b5o:FSpec:=Y0 b4t λx=>kK x.1 x.2
def dN(A:List gu)(B:gu):d6b:=o5 (kK A B) λx=>some (J6 0 x)
def b4q:FQ:=⟨[uD y11,(false,(.fn 200 [y10]))],tR 4 eF,mE 9 [(232,b5o)],F6⟩
def b5m:FSpec:=Y0 b4q λx=>dN x.1 x.2
def yX(A:U4)(B:gu)(C:List gu)(D:List gu):d6c:=o5 (iw B.1) λx=>l7 (D6 x) (some 2) (o5 (dN C B) λx=>l7 x (some 7) (o5 (dN D B) λx=>l7 x (some 7) (o5 (iJ B.2 A.1) λx=>l7 (D6 x) (some 8) (some 0))))
def c6R:FQ:=⟨[tD y27,tD y10,uD y11,uD y11],tR 8 G7,mE 32 [(200,a7J),(88,s88),(201,b5m),(137,a7E)],F6⟩
def d1l:FSpec:=Y0 c6R λx=>yX x.1 x.2.1 x.2.2.1 x.2.2.2
def wu(A:List gu):Option (List I9):=o5 (Y8 (λ(x:List I9×Int)=>l7 (D8 x.2 (o9 A)) (o5 (G8 A x.2) λb=>o5 (bz x.1 [b.2]) λc=>some (.inl (c,x9 .i64 x.2 1))) (some (.inr x.1))) ([],0)) λy=>some y
def c7y:FQ:=⟨[uD y11],tR 2 (uO y2),mE 19 [],sN 2 (Y3 (sN 1 (dE (.loop [(3,4),(5,6),(8,18)] ⟨[(3,(uO y2)),(8,G7)],[]⟩ 0 ⟨[(3,(uO y2))],[]⟩ F6))) F6)⟩
def d1P:FSpec:=Y0 c7y λx=>wu x
def qG(A:U4)(B:Int):Option N8:=o5 (G8 A.2.2 B) λx=>o5 (wu x.2.2.1) λb=>o5 (wu x.2.2.2.1) λc=>l7 (J6 0 x.2.1) (l7 (D8 x.2.1 (o9 A.2.2)) (o5 (G8 A.2.2 x.2.1) λx=>o5 (wu x.2.2.2.1) λx=>some (A.1,A.2.1,b,c,x,true)) (some (A.1,A.2.1,b,c,[],false))) (some (A.1,A.2.1,b,c,[],false))
def c6S:FQ:=⟨[tD y27,G7],cR 4 241 (tD y73),mE 45 [(202,d1P)],F6⟩
def d1m:FSpec:=Y0 c6S λx=>qG x.1 x.2
def Gx(A:aC)(B:aC):d6b:=some (seq A.1 B.1)
def b4s:FQ:=⟨[tD y19,(false,(.rp y19))],tR 3 eF,mE 9 [],F6⟩
def a7K:FSpec:=Y0 b4s λx=>Gx x.1 x.2
def lQ(A:List aC)(B:aC):d6c:=o5 (U0 (λ(x:Int)=>l7 (D8 x (o9 A)) (o5 (G8 A x) λb=>o5 (Gx b B) λc=>l7 c (some (.rt x)) (some (.nx (x9 .i64 x 1)))) (some (.ex ()))) 0) λo=>V5 o (λy=>some (-1)) λr=>some r
def b4u:FQ:=⟨[uD y20,(false,(.fn 204 [y19]))],tR 4 G7,mE 19 [(204,a7K)],sN 1 (Y3 (sN 1 (dE (qm [(4,6),(8,19)] ⟨[(8,G7)],[]⟩ 0 nZ F6))) F6)⟩
def b5p:FSpec:=Y0 b4u λx=>lQ x.1 x.2
def iC(A:List aC)(B:aC):d6b:=o5 (lQ A B) λx=>some (J6 0 x)
def b4r:FQ:=⟨[uD y20,(false,(.fn 204 [y19]))],tR 4 eF,mE 9 [(233,b5p)],F6⟩
def b5n:FSpec:=Y0 b4r λx=>iC x.1 x.2
def c6e:List MG:=[(false,(.dat .str)),(false,(.dat .str))]
def d2g:FSpec:=⟨c6e,[eF],[],λx=>AO x.1 x.2⟩
def BH(A:d5X):d6b:=l7 (D8 64 (o9 A)) (some false) (o5 (AO A [34]) λx=>l7 x (some false) (o5 (U0 (λ(x:Int)=>l7 (D8 x (o9 A)) (o5 (sat A x) λb=>l7 (D8 b 32) (some (.rt false)) (o5 (sat A x) λc=>l7 (D8 126 c) (some (.rt false)) (some (.nx (x9 .i64 x 1))))) (some (.ex ()))) 0) λo=>V5 o (λy=>some true) λr=>some r))
def c7z:FQ:=⟨[uD .str],tR 2 eF,mE 27 [(234,d2g)],sN 2 (Y3 (sN 1 (dE (qm [(2,4),(13,27)] ⟨[(13,G7)],[]⟩ 0 nZ F6))) F6)⟩
def d1Q:FSpec:=Y0 c7z λx=>BH x
def qg(A:Int):d6c:=o5 (l7 (x8 A 1) (some (x8 A 1)) (l7 (x8 A 2) (some (x8 A 2)) (l7 (x8 A 3) (some (x8 A 3)) (l7 (x8 A 4) (some (x8 A 4)) (l7 (x8 A 5) (some (x8 A 5)) (l7 (x8 A 6) (some (x8 A 6)) (l7 (x8 A 7) (some (x8 A 7)) (l7 (x8 A 8) (some (x8 A 8)) (l7 (x8 A 9) (some (x8 A 9)) (l7 (x8 A 35) (some (x8 A 35)) (l7 (x8 A 36) (some (x8 A 36)) (l7 (x8 A 37) (some (x8 A 37)) (l7 (x8 A 38) (some (x8 A 38)) (some (x8 A 39))))))))))))))) λx=>l7 x (some 0) (o5 (l7 (x8 A 10) (some (x8 A 10)) (l7 (x8 A 25) (some (x8 A 25)) (l7 (x8 A 31) (some (x8 A 31)) (l7 (x8 A 32) (some (x8 A 32)) (l7 (x8 A 33) (some (x8 A 33)) (some (x8 A 34))))))) λx=>l7 x (some 1) (o5 (l7 (x8 A 11) (some (x8 A 11)) (l7 (x8 A 12) (some (x8 A 12)) (l7 (x8 A 13) (some (x8 A 13)) (l7 (x8 A 14) (some (x8 A 14)) (l7 (x8 A 15) (some (x8 A 15)) (l7 (x8 A 16) (some (x8 A 16)) (l7 (x8 A 17) (some (x8 A 17)) (l7 (x8 A 18) (some (x8 A 18)) (l7 (x8 A 19) (some (x8 A 19)) (l7 (x8 A 20) (some (x8 A 20)) (l7 (x8 A 21) (some (x8 A 21)) (l7 (x8 A 22) (some (x8 A 22)) (l7 (x8 A 23) (some (x8 A 23)) (l7 (x8 A 24) (some (x8 A 24)) (l7 (x8 A 27) (some (x8 A 27)) (l7 (x8 A 28) (some (x8 A 28)) (l7 (x8 A 29) (some (x8 A 29)) (some (x8 A 30))))))))))))))))))) λx=>l7 x (some 2) (l7 (x8 A 26) (some 3) (some (-1)))))
def c8k:FQ:=⟨[G7],tR 2 G7,mE 47 [],sN 1 (Y3 (sN 1 (dE (Y3 (.join [(4,19)] ⟨[(4,eF)],[]⟩ F6) (.cond F6 (Y3 (.join [(19,26)] ⟨[(19,eF)],[]⟩ F6) (.cond F6 (Y3 (.join [(26,45)] ⟨[(26,eF)],[]⟩ F6) F6))))))) F6)⟩
def b1M:FSpec:=Y0 c8k λx=>qg x
def yS(A:List I9):Option (d5Y×I9):=l7 (D8 48 (o9 A)) (some ([],0,4)) (l7 (x8 (o9 A) 0) (some ([],0,5)) (o5 (qo (o9 A) 0) λx=>o5 (U0 (λ(x:d5Y×d5Y×Int)=>l7 (D8 x.2.2 (o9 A)) (o5 (G8 A x.2.2) λg=>o5 (qg g.1) λb=>l7 (D8 b 0) (some (.rt ([],x.2.2,2))) (l7 (D8 (o9 x.2.1) b) (some (.rt ([],x.2.2,5))) (o5 (G8 x.1 x.2.2) λk=>o5 (P7 x.1 (U8 x.2.2)) λn=>l7 (D8 0 b) (o5 (G8 x.2.1 (H9 .i64 (o9 x.2.1) b)) λj=>o5 (P7 x.2.1 (U8 (H9 .i64 (o9 x.2.1) b))) λc=>o5 (G8 (aW x.1 (U8 x.2.2) x.2.2) x.2.2) λd=>o5 (P7 (aW x.1 (U8 x.2.2) x.2.2) (U8 x.2.2)) λp=>l7 (pq 0 (H9 .i64 (o9 x.2.1) b) (o9 x.2.1)) (o5 (G8 (aW (aW x.1 (U8 x.2.2) x.2.2) (U8 x.2.2) c) x.2.2) λq=>o5 (P7 (aW (aW x.1 (U8 x.2.2) x.2.2) (U8 x.2.2) c) (U8 x.2.2)) λi=>o5 (bz (oU x.2.1 (U8 0) (U8 (H9 .i64 (o9 x.2.1) b))) [i]) λf=>l7 (D8 12 (o9 f)) (some (.rt ([],x.2.2,16))) (some (.nx (aW (aW x.1 (U8 x.2.2) x.2.2) (U8 x.2.2) c,f,x9 .i64 x.2.2 1)))) none) (l7 (pq 0 (H9 .i64 (o9 x.2.1) b) (o9 x.2.1)) (o5 (G8 (aW x.1 (U8 x.2.2) x.2.2) x.2.2) λj=>o5 (P7 (aW x.1 (U8 x.2.2) x.2.2) (U8 x.2.2)) λc=>o5 (bz (oU x.2.1 (U8 0) (U8 (H9 .i64 (o9 x.2.1) b))) [c]) λd=>l7 (D8 12 (o9 d)) (some (.rt ([],x.2.2,16))) (some (.nx (aW x.1 (U8 x.2.2) x.2.2,d,x9 .i64 x.2.2 1)))) none)))) (some (.ex (x.1,x.2.1)))) (x,[],0)) λo=>V5 o (λ(y:d5Y×d5Y)=>l7 (D8 1 (o9 y.2)) (some ([],o9 A,4)) (some (y.1,0,0))) λr=>some r))
def c8i:FQ:=⟨[uD y12],⟨[(.tmp 2,jc),(.tmp 3,G7),(.tmp 4,G7)],[]⟩,mE 76 [(268,b1M)],sN 5 (Y3 (sN 1 (dE (qm [(2,10),(21,70),(27001152,27001153)] ⟨[(5,jc),(6,jc),(21,G7)],[]⟩ 0 ⟨[(5,jc),(6,jc)],[]⟩ F6))) F6)⟩
def c1l:FSpec:=Y0 c8i λx=>yS x
def lK(A:Int):d6b:=l7 (x8 A 1) (l7 (x8 A 1) (some true) (some false)) (l7 (x8 A 2) (l7 (x8 A 2) (some true) (some false)) (l7 (x8 A 3) (l7 (x8 A 3) (some true) (some false)) (l7 (x8 A 4) (l7 (x8 A 4) (some true) (some false)) (l7 (x8 A 5) (l7 (x8 A 5) (some true) (some false)) (l7 (x8 A 6) (l7 (x8 A 6) (some true) (some false)) (l7 (x8 A 7) (l7 (x8 A 7) (some true) (some false)) (l7 (x8 A 8) (l7 (x8 A 8) (some true) (some false)) (l7 (x8 A 14) (l7 (x8 A 14) (some true) (some false)) (l7 (x8 A 15) (l7 (x8 A 15) (some true) (some false)) (l7 (x8 A 16) (l7 (x8 A 16) (some true) (some false)) (l7 (x8 A 33) (l7 (x8 A 33) (some true) (some false)) (l7 (x8 A 34) (l7 (x8 A 34) (some true) (some false)) (l7 (x8 A 36) (l7 (x8 A 36) (some true) (some false)) (l7 (x8 A 37) (l7 (x8 A 37) (some true) (some false)) (l7 (x8 A 38) (l7 (x8 A 38) (some true) (some false)) (l7 (x8 A 39) (some true) (some false)))))))))))))))))
def c8j:FQ:=⟨[G7],tR 2 eF,mE 22 [],F6⟩
def c1m:FSpec:=Y0 c8j λx=>lK x
def lU(A:Int)(B:Int)(C:N8):Option (I9×Int):=o5 (qX (B,0) C.1) λx=>l7 (D8 A x.1) (some ((0,0),3)) (l7 (D8 x.2 A) (some ((0,0),3)) (some ((B,0),0)))
def c8E:FQ:=⟨[G7,G7,tD y73],⟨[(.cell 6 75,tD y2),(.tmp 7,G7)],[]⟩,mE 30 [(141,b5a)],F6⟩
def d2K:FSpec:=Y0 c8E λx=>lU x.1 x.2.1 x.2.2
def Fq(A:Int)(B:N8):Option (I9×Int):=l7 (D8 A 0) (some ((0,0),3)) (l7 (J6 (o9 B.1) (eH .i64 A 16)) (some ((0,0),6)) (o5 (G8 B.1 (eH .i64 A 16)) λx=>l7 (J6 (o9 x.2) (eU A 16)) (some ((0,0),6)) (some ((6,eH .i64 A 16),0))))
def c8F:FQ:=⟨[G7,tD y73],⟨[(.cell 4 75,tD y2),(.tmp 5,G7)],[]⟩,mE 34 [],F6⟩
def d2L:FSpec:=Y0 c8F λx=>Fq x.1 x.2
def lw(A:Int)(B:List I9)(C:N8):Option (I9×Int):=l7 (D8 A 0) (some ((0,0),6)) (l7 (J6 (o9 B) A) (some ((0,0),6)) (o5 (G8 B A) λx=>o5 (iJ x C.1) λx=>l7 (D6 x) (some ((0,0),8)) (o5 (G8 B A) λx=>some (x,0))))
def c8G:FQ:=⟨[G7,uD y12,tD y73],⟨[(.cell 6 75,tD y2),(.tmp 7,G7)],[]⟩,mE 30 [(137,a7E)],F6⟩
def c1o:FSpec:=Y0 c8G λx=>lw x.1 x.2.1 x.2.2
def oL(A:Int):d6b:=l7 (J6 0 A) (some (J6 A 5)) (some false)
def c8J:FQ:=⟨[G7],tR 2 eF,mE 9 [],F6⟩
def c1p:FSpec:=Y0 c8J λx=>oL x
def vS(A:I9)(B:I9)(C:N8):Option (I9×Int):=o5 (l7 (x8 A.1 34) (l7 (D8 A.2 0) (some (.inr ((0,0),3))) (o5 (oL (eU A.2 8)) λx=>l7 (D6 x) (some (.inr ((0,0),3))) (some (.inl ((0,0),eH .i64 A.2 8))))) (some (.inl ((0,0),A.2)))) λo=>V5 o (λ(x:I9×Int)=>o5 (l7 (D8 x.2 0) (some (.inr ((0,0),6))) (l7 (J6 (o9 C.2.1) x.2) (some (.inr ((0,0),6))) (some (.inl x.1)))) λo=>V5 o (λ(d:I9)=>o5 (G8 C.2.1 x.2) λb=>o5 (G8 C.2.1 x.2) λx=>o5 (o5 (iJ b.2.1 C.1) λc=>l7 (D6 c) (some (.inr ((0,0),8))) (o5 (iJ x.2.2.1 C.1) λx=>l7 (D6 x) (some (.inr ((0,0),8))) (l7 (D6 (U6 (x8 B.1 b.2.1.1) (x8 B.2 b.2.1.2))) (some (.inr ((0,0),8))) (some (.inl d))))) λo=>V5 o (λ(c:I9)=>l7 (x8 A.1 34) (l7 (D6 (x8 b.2.1.1 3)) (some ((0,0),8)) (l7 (D6 (x8 x.2.2.1.1 4)) (some ((0,0),8)) (some (b.2.1,0)))) (some (x.2.2.1,0))) λr=>some r) λr=>some r) λr=>some r
def c8H:FQ:=⟨[tD y2,tD y2,tD y73],⟨[(.cell 6 75,tD y2),(.tmp 7,G7)],[]⟩,mE 84 [(306,c1p),(137,a7E)],sN 2 (Y3 (jnR [(6,9),(13,30),(4000384,4000385)] ⟨[(6,(false,(.box (dT y2)))),(8,G7)],[]⟩ F6) (Y3 (jnR [(6,8),(30,40),(9000000,9000001)] ⟨[(6,(false,(.box (dT y2))))],[]⟩ F6) (sN 1 (Y3 (jnR [(6,8),(52,70),(27000000,27000001)] ⟨[(6,(false,(.box (dT y2))))],[]⟩ F6) F6))))⟩
def d2M:FSpec:=Y0 c8H λx=>vS x.1 x.2.1 x.2.2
def oD(A:Int):d6b:=l7 (x8 A 2) (some true) (l7 (x8 A 3) (some true) (some (x8 A 4)))
def c9g:FQ:=⟨[G7],tR 2 eF,mE 13 [],F6⟩
def c1r:FSpec:=Y0 c9g λx=>oD x
def tJ(A:I9)(B:N8):Option (I9×Int):=l7 (D6 B.2.2.2.2.2) (some ((0,0),6)) (l7 (x8 A.1 35) (some ((2,0),0)) (o5 (lw A.2 B.2.2.2.2.1 B) λx=>l7 (D6 (x8 x.2 0)) (some ((0,0),x.2)) (o5 (l7 (x8 A.1 36) (l7 (x8 x.1.1 2) (some true) (some (x8 x.1.1 3))) (l7 (x8 A.1 37) (l7 (x8 A.1 37) (some (x8 x.1.1 1)) (l7 (x8 A.1 39) (o5 (oD x.1.1) λb=>l7 b (some true) (some (x8 x.1.1 5))) (some false))) (l7 (x8 A.1 38) (some (x8 x.1.1 1)) (l7 (x8 A.1 39) (o5 (oD x.1.1) λb=>l7 b (some true) (some (x8 x.1.1 5))) (some false))))) λb=>l7 (D6 b) (some ((0,0),8)) (some (x.1,0)))))
def c8I:FQ:=⟨[tD y2,tD y73],⟨[(.cell 4 75,tD y2),(.tmp 5,G7)],[]⟩,mE 62 [(303,c1o),(336,c1r)],sN 6 (Y3 (.join [(8,9),(30,58)] ⟨[(8,eF)],[]⟩ F6) F6)⟩
def d2N:FSpec:=Y0 c8I λx=>tJ x.1 x.2
def Lp(A:Int)(B:Int)(C:Int):Option (I9×Bool):=l7 (x8 A 14) (l7 (x8 C 4) (l7 (x8 B 3) (some ((B,0),true)) (some ((B,0),x8 B 4))) (some ((B,0),false))) (l7 (x8 C 2) (l7 (x8 B 2) (some ((B,0),true)) (some ((B,0),x8 B 3))) (l7 (x8 A 15) (l7 (x8 B 3) (l7 (x8 C 3) (some ((4,0),true)) (some ((0,0),false))) (some ((0,0),false))) (some ((0,0),false))))
def c9h:FQ:=⟨[G7,G7,G7],⟨[(.cell 6 75,tD y2),(.tmp 7,eF)],[]⟩,mE 47 [],F6⟩
def d3d:FSpec:=Y0 c9h λx=>Lp x.1 x.2.1 x.2.2
def qi(A:Int)(B:List I9):Option (I9×Bool):=o5 (l7 (x8 A 10) (o5 (G8 B 0) λx=>o5 (G8 B 0) λb=>o5 (oD b.1) λc=>some (.inr (x,c))) (l7 (x8 A 25) (o5 (G8 B 0) λx=>some (.inr ((1,0),x8 x.1 1))) (o5 (l7 (x8 A 11) (some (x8 A 11)) (some (x8 A 12))) λx=>l7 x (o5 (G8 B 0) λx=>o5 (G8 B 0) λb=>o5 (G8 B 1) λc=>l7 (U6 (x8 b.1 c.1) (x8 b.2 c.2)) (o5 (G8 B 0) λd=>o5 (oD d.1) λf=>some (.inr (x,f))) (some (.inr (x,false)))) (o5 (l7 (x8 A 13) (some (x8 A 13)) (l7 (x8 A 14) (some (x8 A 14)) (some (x8 A 15)))) λx=>l7 x (o5 (G8 B 0) λx=>o5 (G8 B 1) λb=>o5 (Lp A x.1 b.1) λx=>some (.inr x)) (l7 (x8 A 16) (o5 (G8 B 0) λx=>o5 (G8 B 0) λb=>l7 (x8 b.1 3) (o5 (G8 B 1) λc=>some (.inr (x,x8 c.1 3))) (some (.inr (x,false)))) (o5 (l7 (x8 A 17) (some (x8 A 17)) (some (x8 A 18))) λx=>l7 x (o5 (G8 B 0) λx=>o5 (G8 B 0) λb=>o5 (G8 B 1) λc=>l7 (U6 (x8 b.1 c.1) (x8 b.2 c.2)) (o5 (G8 B 0) λd=>o5 (oD d.1) λf=>l7 f (some (.inr (x,true))) (o5 (G8 B 0) λg=>some (.inr (x,x8 g.1 5)))) (some (.inr (x,false)))) (o5 (l7 (x8 A 19) (some (x8 A 19)) (some (x8 A 20))) λx=>l7 x (o5 (G8 B 0) λx=>o5 (G8 B 1) λb=>some (.inr ((1,0),U6 (x8 x.1 b.1) (x8 x.2 b.2)))) (o5 (l7 (x8 A 21) (some (x8 A 21)) (some (x8 A 22))) λx=>l7 x (o5 (G8 B 0) λx=>o5 (G8 B 1) λb=>l7 (U6 (x8 x.1 b.1) (x8 x.2 b.2)) (o5 (G8 B 0) λx=>o5 (oD x.1) λx=>l7 x (some (.inr ((1,0),true))) (o5 (G8 B 0) λx=>some (.inr ((1,0),x8 x.1 5)))) (some (.inr ((1,0),false)))) (o5 (l7 (x8 A 23) (some (x8 A 23)) (some (x8 A 24))) λx=>l7 x (o5 (G8 B 0) λx=>l7 (x8 x.1 1) (o5 (G8 B 1) λx=>some (.inr ((1,0),x8 x.1 1))) (some (.inr ((1,0),false)))) (l7 (x8 A 26) (o5 (G8 B 1) λx=>o5 (G8 B 0) λb=>l7 (x8 b.1 1) (o5 (G8 B 1) λc=>o5 (G8 B 2) λd=>some (.inr (x,U6 (x8 c.1 d.1) (x8 c.2 d.2)))) (some (.inr (x,false)))) (o5 (l7 (x8 A 27) (some (x8 A 27)) (some (x8 A 28))) λx=>l7 x (o5 (G8 B 0) λx=>o5 (G8 B 0) λb=>l7 (x8 b.1 5) (o5 (G8 B 1) λc=>some (.inr (x,x8 c.1 2))) (some (.inr (x,false)))) (l7 (x8 A 29) (l7 (x8 A 29) (o5 (G8 B 0) λx=>l7 (x8 x.1 5) (o5 (G8 B 1) λx=>some (.inr ((2,0),x8 x.1 5))) (some (.inr ((2,0),false)))) (l7 (x8 A 31) (l7 (x8 A 31) (o5 (G8 B 0) λx=>some (.inr ((2,0),x8 x.1 5))) (some (.inl (0,0)))) (l7 (x8 A 32) (o5 (G8 B 0) λx=>some (.inr ((2,0),x8 x.1 5))) (some (.inl (0,0)))))) (l7 (x8 A 30) (o5 (G8 B 0) λx=>l7 (x8 x.1 5) (o5 (G8 B 1) λx=>some (.inr ((2,0),x8 x.1 5))) (some (.inr ((2,0),false)))) (l7 (x8 A 31) (l7 (x8 A 31) (o5 (G8 B 0) λx=>some (.inr ((2,0),x8 x.1 5))) (some (.inl (0,0)))) (l7 (x8 A 32) (o5 (G8 B 0) λx=>some (.inr ((2,0),x8 x.1 5))) (some (.inl (0,0)))))))))))))))))) λo=>V5 o (λ(x:I9)=>some ((0,0),false)) λr=>some r
def c8K:FQ:=⟨[G7,uD y12],⟨[(.cell 4 75,tD y2),(.tmp 5,eF)],[]⟩,mE 222 [(336,c1r),(337,d3d)],sN 2 (Y3 (jnR [(4,6),(8,221),(4000256,4000257)] ⟨[(4,(false,(.box (dT y2))))],[]⟩ (sN 1 (dE (sN 1 (.cond F6 (sN 1 (.cond F6 (Y3 (.join [(27,30)] ⟨[(27,eF)],[]⟩ F6) (.cond F6 (Y3 (.join [(47,51)] ⟨[(47,eF)],[]⟩ F6) (.cond F6 (sN 1 (.cond F6 (Y3 (.join [(80,83)] ⟨[(80,eF)],[]⟩ F6) (.cond F6 (Y3 (.join [(107,110)] ⟨[(107,eF)],[]⟩ F6) (.cond F6 (Y3 (.join [(118,121)] ⟨[(118,eF)],[]⟩ F6) (.cond F6 (Y3 (.join [(143,146)] ⟨[(143,eF)],[]⟩ F6) (.cond F6 (sN 1 (.cond F6 (Y3 (.join [(178,181)] ⟨[(178,eF)],[]⟩ F6) F6)))))))))))))))))))))))) F6)⟩
def d2O:FSpec:=Y0 c8K λx=>qi x.1 x.2
def cZ(A:I9)(B:List I9)(C:N8):Option (I9×Int):=o5 (l7 (x8 A.1 1) (o5 (lU A.2 1 C) λx=>some (.inr x)) (l7 (x8 A.1 2) (o5 (lU A.2 2 C) λx=>some (.inr x)) (l7 (x8 A.1 3) (o5 (lU A.2 3 C) λx=>some (.inr x)) (l7 (x8 A.1 4) (o5 (lU A.2 4 C) λx=>some (.inr x)) (l7 (x8 A.1 5) (o5 (lU A.2 5 C) λx=>some (.inr x)) (l7 (x8 A.1 6) (o5 (Fq A.2 C) λx=>some (.inr x)) (l7 (x8 A.1 7) (o5 (lw A.2 C.2.2.1 C) λx=>some (.inr x)) (l7 (x8 A.1 8) (o5 (lw A.2 C.2.2.2.1 C) λx=>some (.inr x)) (l7 (x8 A.1 9) (some (.inr ((5,0),0))) (o5 (l7 (x8 A.1 33) (some (x8 A.1 33)) (some (x8 A.1 34))) λx=>l7 x (o5 (G8 B 0) λx=>o5 (vS A x C) λx=>some (.inr x)) (o5 (l7 (x8 A.1 35) (some (x8 A.1 35)) (l7 (x8 A.1 36) (some (x8 A.1 36)) (l7 (x8 A.1 37) (some (x8 A.1 37)) (l7 (x8 A.1 38) (some (x8 A.1 38)) (some (x8 A.1 39)))))) λx=>l7 x (o5 (tJ A C) λx=>some (.inr x)) (l7 (x8 A.1 14) (l7 (x8 A.1 14) (o5 (oL A.2) λx=>l7 (D6 x) (some (.inr ((0,0),3))) (some (.inl (0,0)))) (some (.inl (0,0)))) (l7 (x8 A.1 15) (l7 (x8 A.1 15) (o5 (oL A.2) λx=>l7 (D6 x) (some (.inr ((0,0),3))) (some (.inl (0,0)))) (some (.inl (0,0)))) (l7 (x8 A.1 16) (o5 (oL A.2) λx=>l7 (D6 x) (some (.inr ((0,0),3))) (some (.inl (0,0)))) (some (.inl (0,0))))))))))))))))) λo=>V5 o (λ(x:I9)=>o5 (qi A.1 B) λx=>l7 (D6 x.2) (some ((0,0),8)) (some (x.1,0))) λr=>some r
def c8l:FQ:=⟨[tD y2,uD y12,tD y73],⟨[(.cell 6 75,tD y2),(.tmp 7,G7)],[]⟩,mE 125 [(301,d2K),(302,d2L),(303,c1o),(304,d2M),(305,d2N),(306,c1p),(307,d2O)],sN 1 (Y3 (jnR [(6,8),(10,114),(4000384,4000385)] ⟨[(6,(false,(.box (dT y2))))],[]⟩ (sN 1 (dE (sN 1 (.cond F6 (sN 1 (.cond F6 (sN 1 (.cond F6 (sN 1 (.cond F6 (sN 1 (.cond F6 (sN 1 (.cond F6 (sN 1 (.cond F6 (sN 1 (.cond F6 (sN 1 (.cond F6 (Y3 (.join [(83,86)] ⟨[(83,eF)],[]⟩ F6) (.cond F6 (Y3 (.join [(94,100)] ⟨[(94,eF)],[]⟩ F6) F6)))))))))))))))))))))))) F6)⟩
def d2t:FSpec:=Y0 c8l λx=>cZ x.1 x.2.1 x.2.2
def JI(A:List I9)(B:N8):Option (I9×I9):=o5 (yS A) λx=>l7 (D6 (x8 x.2.2 0)) (some ((0,0),x.2)) (o5 (U0 (λ(x:I9×List I9×Int)=>l7 (D8 x.2.2 (o9 A)) (o5 (G8 A x.2.2) λc=>l7 (D6 (x8 c.2 0)) (o5 (lK c.1) λd=>l7 (D6 d) (some (.rt ((0,0),x.2.2,2))) (o5 (qg c.1) λb=>l7 (pq (H9 .i64 (o9 x.2.1) b) (o9 x.2.1) (o9 x.2.1)) (o5 (cZ c (oU x.2.1 (U8 (H9 .i64 (o9 x.2.1) b)) (U8 (o9 x.2.1))) B) λf=>l7 (D6 (x8 f.2 0)) (some (.rt ((0,0),x.2.2,f.2))) (l7 (pq 0 (H9 .i64 (o9 x.2.1) b) (o9 x.2.1)) (o5 (bz (oU x.2.1 (U8 0) (U8 (H9 .i64 (o9 x.2.1) b))) [f.1]) λg=>some (.nx (x.1,g,x9 .i64 x.2.2 1))) none)) none)) (o5 (qg c.1) λd=>l7 (pq (H9 .i64 (o9 x.2.1) d) (o9 x.2.1) (o9 x.2.1)) (o5 (cZ c (oU x.2.1 (U8 (H9 .i64 (o9 x.2.1) d)) (U8 (o9 x.2.1))) B) λb=>l7 (D6 (x8 b.2 0)) (some (.rt ((0,0),x.2.2,b.2))) (l7 (pq 0 (H9 .i64 (o9 x.2.1) d) (o9 x.2.1)) (o5 (bz (oU x.2.1 (U8 0) (U8 (H9 .i64 (o9 x.2.1) d))) [b.1]) λf=>some (.nx (x.1,f,x9 .i64 x.2.2 1))) none)) none)) (some (.ex (x.1,x.2.1)))) ((0,0),[],0)) λo=>V5 o (λ(y:I9×List I9)=>o5 (G8 y.2 0) λx=>o5 (P7 y.2 (U8 0)) λx=>some (x,0,0)) λr=>some r)
def c7U:FQ:=⟨[uD y12,tD y73],⟨[(.cell 4 75,tD y2),(.tmp 5,G7),(.tmp 6,G7)],[]⟩,mE 75 [(266,c1l),(267,c1m),(268,b1M),(269,d2t)],sN 4 (Y3 (sN 1 (dE (qm [(4,7),(10,16),(29,72),(4000256,4000257)] ⟨[(4,(false,(.box (dT y2)))),(10,(uO y2)),(29,G7)],[]⟩ 0 ⟨[(4,(false,(.box (dT y2)))),(10,(uO y2))],[]⟩ F6))) F6)⟩
def d2h:FSpec:=Y0 c7U λx=>JI x.1 x.2
def xU(A:List I9)(B:N8)(C:I9):d6c:=o5 (JI A B) λx=>l7 (D6 (x8 x.2.2 0)) (some x.2.2) (l7 (D6 (U6 (x8 x.1.1 C.1) (x8 x.1.2 C.2))) (some 8) (some 0))
def c7A:FQ:=⟨[uD y12,tD y73,tD y2],tR 6 G7,mE 23 [(235,d2h)],F6⟩
def d1R:FSpec:=Y0 c7A λx=>xU x.1 x.2.1 x.2.2
def Fz(A:D7)(B:Int)(C:N8):d6c:=o5 (G8 A.2.2.2.2 B) λx=>o5 (FX A.2.2.2.2 0 B) λf=>o5 (Y8 (λ(b:I9)=>l7 (D8 b.2 (o9 f)) (o5 (G8 f b.2) λc=>l7 (x8 c.2.1 x.2.1) (some (.inl (x9 .i64 b.1 1,x9 .i64 b.2 1))) (some (.inl (b.1,x9 .i64 b.2 1)))) (some (.inr b.1))) (0,0)) λy=>o5 (o5 (iw x.1) λb=>l7 (D6 b) (some (.inr 2)) (o5 (FX A.2.2.2.2 0 B) λc=>o5 (iC c x) λg=>l7 g (some (.inr 7)) (o5 (l7 (D8 x.2.1 0) (some true) (some (J6 (o9 A.2.2.2.1) x.2.1))) λi=>l7 i (some (.inr 6)) (o5 (l7 (D6 (x8 x.2.2.1 (-1))) (l7 (D8 x.2.2.1 0) (some true) (l7 (J6 B x.2.2.1) (some true) (o5 (G8 A.2.2.2.2 x.2.2.1) λd=>some (D6 (x8 d.2.1 x.2.1))))) (some false)) λd=>l7 d (some (.inr 9)) (o5 (l7 (D8 x.2.2.2.1 0) (some true) (some (D8 9 x.2.2.2.1))) λj=>l7 j (some (.inr 3)) (l7 (D8 x.2.2.2.2.1.1 0) (some (.inr 3)) (l7 (J6 x.2.2.2.2.1.2 x.2.2.2.2.1.1) (some (.inr 3)) (l7 (D8 109573 x.2.2.2.2.1.2) (some (.inr 3)) (l7 (J6 8 y) (some (.inr 4)) (o5 (BH x.2.2.2.2.2.2.2) λk=>l7 (D6 k) (some (.inr 2)) (some (.inl x)))))))))))) λo=>V5 o (λ(x:aC)=>l7 (D8 0 (o9 x.2.2.2.2.2.1)) (o5 (xU x.2.2.2.2.2.1 C (1,0)) λb=>l7 (D6 (x8 b 0)) (some b) (o5 (G8 A.2.2.2.1 x.2.1) λc=>o5 (xU x.2.2.2.2.2.2.1 C c.2) λx=>some x)) (o5 (G8 A.2.2.2.1 x.2.1) λb=>o5 (xU x.2.2.2.2.2.2.1 C b.2) λx=>some x)) λr=>some r
def c6T:FQ:=⟨[tD y24,G7,tD y73],tR 6 G7,mE 145 [(88,s88),(204,a7K),(203,b5n),(205,d1Q),(206,d1R)],sN 3 (Y3 (sN 1 (dE (.loop [(8,9),(10,11),(22,34)] ⟨[(8,G7),(22,G7)],[]⟩ 0 ⟨[(8,G7)],[]⟩ F6))) (Y3 (jnR [(6,8),(34,122),(7000448,7000449)] ⟨[(7,(false,(.rp y19)))],[]⟩ (dE (sN 1 (.cond F6 (sN 1 (.cond F6 (Y3 (.join [(46,58)] ⟨[(46,eF)],[]⟩ F6) (.cond F6 (Y3 (.join [(58,85)] ⟨[(58,eF)],[]⟩ F6) (.cond F6 (Y3 (.join [(85,94)] ⟨[(85,eF)],[]⟩ F6) F6))))))))))) F6))⟩
def d1n:FSpec:=Y0 c6T λx=>Fz x.1 x.2.1 x.2.2
def c6c:List MG:=[(false,(.ownb (.int .i64)))]
def c1d:FSpec:=⟨c6c,[],[jc],λx=>IE x⟩
def c6d:List MG:=[jc]
def c1e:FSpec:=⟨c6d,[jc],[],λx=>tZ x⟩
def xQ(A:d5Y):Option d5Y:=o5 (IE A) λx=>o5 (tZ x) λx=>some x
def c6Z:FQ:=⟨[jc],tR 2 jc,mE 7 [(164,c1d),(165,c1e)],F6⟩
def d1t:FSpec:=Y0 c6Z λx=>xQ x
def qh(A:List I9):Option lg:=o5 (Y8 (λ(x:d5Y×d5Y×d5Y×Int)=>l7 (D8 x.2.2.2 (o9 A)) (o5 (G8 A x.2.2.2) λb=>l7 (x8 b.1 7) (o5 (bz x.1 [b.2]) λc=>some (.inl (c,x.2.1,x.2.2.1,x9 .i64 x.2.2.2 1))) (l7 (x8 b.1 8) (o5 (bz x.2.1 [b.2]) λc=>some (.inl (x.1,c,x.2.2.1,x9 .i64 x.2.2.2 1))) (l7 (x8 b.1 36) (l7 (x8 b.1 36) (o5 (bz x.2.2.1 [b.2]) λc=>some (.inl (x.1,x.2.1,c,x9 .i64 x.2.2.2 1))) (some (.inl (x.1,x.2.1,x.2.2.1,x9 .i64 x.2.2.2 1)))) (l7 (x8 b.1 37) (l7 (x8 b.1 37) (o5 (bz x.2.2.1 [b.2]) λc=>some (.inl (x.1,x.2.1,c,x9 .i64 x.2.2.2 1))) (some (.inl (x.1,x.2.1,x.2.2.1,x9 .i64 x.2.2.2 1)))) (l7 (x8 b.1 38) (l7 (x8 b.1 38) (o5 (bz x.2.2.1 [b.2]) λc=>some (.inl (x.1,x.2.1,c,x9 .i64 x.2.2.2 1))) (some (.inl (x.1,x.2.1,x.2.2.1,x9 .i64 x.2.2.2 1)))) (l7 (x8 b.1 39) (o5 (bz x.2.2.1 [b.2]) λc=>some (.inl (x.1,x.2.1,c,x9 .i64 x.2.2.2 1))) (some (.inl (x.1,x.2.1,x.2.2.1,x9 .i64 x.2.2.2 1))))))))) (some (.inr (x.1,x.2.1,x.2.2.1)))) ([],[],[],0)) λy=>o5 (xQ y.1) λx=>o5 (xQ y.2.1) λb=>o5 (xQ y.2.2) λc=>some (x,b,c)
def c6h:FQ:=⟨[uD y12],⟨[(.tmp 2,jc),(.tmp 3,jc),(.tmp 4,jc)],[]⟩,mE 49 [(163,d1t)],sN 2 (Y3 (sN 1 (dE (.loop [(5,8),(9,10),(12,43)] ⟨[(5,jc),(6,jc),(7,jc),(12,G7)],[]⟩ 0 ⟨[(5,jc),(6,jc),(7,jc)],[]⟩ F6))) F6)⟩
def c0X:FSpec:=Y0 c6h λx=>qh x
def xe(A:aC)(B:Int):Option d5Y:=o5 (qh A.2.2.2.2.2.1) λx=>o5 (qh A.2.2.2.2.2.2.1) λd=>o5 (Y8 (λ(b:d5Y×Int)=>l7 (D8 b.2 (o9 x.2.1)) (o5 (G8 x.2.1 b.2) λc=>o5 (P7 x.2.1 (U8 b.2)) λx=>l7 (J6 0 x) (l7 (D8 x B) (o5 (bz b.1 [x]) λx=>some (.inl (x,x9 .i64 b.2 1))) (some (.inl (b.1,x9 .i64 b.2 1)))) (some (.inl (b.1,x9 .i64 b.2 1)))) (some (.inr b.1))) ([],0)) λy=>o5 (Y8 (λ(x:d5Y×Int)=>l7 (D8 x.2 (o9 d.2.1)) (o5 (G8 d.2.1 x.2) λb=>o5 (P7 d.2.1 (U8 x.2)) λc=>l7 (J6 0 c) (l7 (D8 c B) (o5 (bz x.1 [c]) λf=>some (.inl (f,x9 .i64 x.2 1))) (some (.inl (x.1,x9 .i64 x.2 1)))) (some (.inl (x.1,x9 .i64 x.2 1)))) (some (.inr x.1))) (y,0)) λy=>some y
def c6Y:FQ:=⟨[tD y19,G7],tR 4 jc,mE 67 [(101,c0X)],sN 4 (Y3 (sN 1 (dE (.loop [(5,6),(13,14),(32,48)] ⟨[(5,jc),(32,G7)],[]⟩ 0 ⟨[(5,jc)],[]⟩ F6))) (Y3 (sN 1 (dE (.loop [(5,6),(15,16),(50,66),(21000000,21000001)] ⟨[(5,jc),(50,G7)],[]⟩ 2 ⟨[(5,jc)],[]⟩ F6))) F6))⟩
def d1s:FSpec:=Y0 c6Y λx=>xe x.1 x.2
def Dp(A:d5Y):Option d5Y:=o5 (IE A) λx=>o5 (tZ x) λx=>some x
def c6i:FQ:=⟨[jc],tR 2 jc,mE 7 [(164,c1d),(165,c1e)],F6⟩
def c0Y:FSpec:=Y0 c6i λx=>Dp x
def vO(A:D7):Option (List d5Y):=o5 (qo (o9 A.2.2.2.1) []) λx=>o5 (Y8 (λ(x:List d5Y×Int)=>l7 (D8 x.2 (o9 A.2.2.2.2)) (o5 (G8 A.2.2.2.2 x.2) λb=>l7 (J6 0 b.2.1) (l7 (D8 b.2.1 (o9 x.1)) (l7 (inb b.2.1 (o9 x.1)) (o5 (P7 x.1 (U8 b.2.1)) λc=>o5 (xe b (o9 x.1)) λd=>o5 (bz c d) λf=>l7 (inb b.2.1 (o9 x.1)) (l7 (Rj (U8 b.2.1) (U8 b.2.1)) (o5 (P7 x.1 (U8 b.2.1)) λg=>some (.inl (aW x.1 (U8 b.2.1) f,x9 .i64 x.2 1))) none) none) none) (some (.inl (x.1,x9 .i64 x.2 1)))) (some (.inl (x.1,x9 .i64 x.2 1)))) (some (.inr x.1))) (x,0)) λy=>o5 (Y8 (λ(x:List d5Y×Int)=>l7 (D8 x.2 (o9 y)) (l7 (inb x.2 (o9 x.1)) (o5 (P7 x.1 (U8 x.2)) λb=>o5 (Dp b) λc=>l7 (inb x.2 (o9 x.1)) (l7 (Rj (U8 x.2) (U8 x.2)) (o5 (P7 x.1 (U8 x.2)) λd=>some (.inl (aW x.1 (U8 x.2) c,x9 .i64 x.2 1))) none) none) none) (some (.inr x.1))) (y,0)) λy=>some y
def c6g:FQ:=⟨[tD y24],tR 2 (uD y64),⟨58,eqs,tt,gl,[(162,d1s),(102,c0Y)],[(183,oiM)],[7,36,50,53],[],[],[],[]⟩,sN 2 (Y3 (sN 1 (dE (.loop [(3,4),(5,6),(15,44),(7000704,7000705)] ⟨[(3,(false,(.owns oiM))),(15,G7)],[]⟩ 0 ⟨[(3,(false,(.owns oiM)))],[]⟩ F6))) (Y3 (sN 1 (dE (.loop [(3,4),(6,8),(44,45),(46,57),(15000000,15000001)] ⟨[(3,(false,(.owns oiM))),(46,G7)],[(44,3)]⟩ 2 ⟨[(3,(false,(.owns oiM)))],[]⟩ F6))) F6))⟩
def b8w:FSpec:=Y0 c6g λx=>vO x
def zG(A:List d5Y)(B:Int):Option d5Y:=o5 (qo (o9 A) false) λx=>o5 (Y8 (λ(x:List Bool×d5Y)=>l7 (D8 0 (o9 x.2)) (o5 (G8 x.2 0) λf=>o5 (P7 x.2 (U8 0)) λd=>l7 (pq 1 (o9 x.2) (o9 x.2)) (o5 (G8 A d) λc=>o5 (Y8 (λ(x:List Bool×d5Y×Int)=>l7 (D8 x.2.2 (o9 c)) (o5 (G8 c x.2.2) λb=>o5 (G8 x.1 b) λj=>o5 (P7 x.1 (U8 b)) λg=>l7 (D6 g) (o5 (G8 x.1 b) λk=>o5 (P7 x.1 (U8 b)) λn=>o5 (bz x.2.1 [b]) λi=>some (.inl (aW x.1 (U8 b) true,i,x9 .i64 x.2.2 1))) (some (.inl (x.1,x.2.1,x9 .i64 x.2.2 1)))) (some (.inr (x.1,x.2.1)))) (x.1,oU x.2 (U8 1) (U8 (o9 x.2)),0)) λy=>some (.inl y)) none) (some (.inr x.1))) (x,[B])) λy=>o5 (Y8 (λ(x:d5Y×Int)=>l7 (D8 x.2 (o9 y)) (o5 (G8 y x.2) λf=>o5 (P7 y (U8 x.2)) λd=>l7 d (o5 (bz x.1 [x.2]) λc=>some (.inl (c,x9 .i64 x.2 1))) (some (.inl (x.1,x9 .i64 x.2 1)))) (some (.inr x.1))) ([],0)) λy=>some y
def q99:FQ:=⟨[uD y64,G7],tR 4 jc,mE 62 [],sN 3 (Y3 (dE (.loop [(5,8),(9,10),(18,48),(7000960,7000961),(10001088,10001089)] ⟨[(5,(uO .bool)),(6,jc)],[]⟩ 0 ⟨[(5,(uO .bool))],[]⟩ (sN 1 (dE (sN 3 (dE (.loop [(5,7),(9,10),(31,48),(14000000,14000002)] ⟨[(5,(uO .bool)),(6,jc),(31,G7)],[]⟩ 2 ⟨[(5,(uO .bool)),(6,jc)],[]⟩ F6))))))) (sN 1 (Y3 (sN 1 (dE (.loop [(10,13),(50,61)] ⟨[(10,jc),(50,G7)],[]⟩ 4 ⟨[(10,jc)],[]⟩ F6))) F6)))⟩
def s99:FSpec:=Y0 q99 λx=>zG x.1 x.2
def nz(A:D7)(B:Int):Option d5Y:=l7 (D8 B 0) (some []) (l7 (J6 (o9 A.2.2.2.1) B) (some []) (o5 (vO A) λx=>o5 (zG x B) λx=>some x))
def q59:FQ:=⟨[tD y24,G7],tR 4 jc,mE 18 [(100,b8w),(99,s99)],F6⟩
def s59:FSpec:=Y0 q59 λx=>nz x.1 x.2
def zD(A:d5Y)(B:Int):d6c:=o5 (U0 (λ(x:Int)=>l7 (D8 x (o9 A)) (o5 (G8 A x) λb=>l7 (x8 B b) (some (.rt x)) (some (.nx (x9 .i64 x 1)))) (some (.ex ()))) 0) λo=>V5 o (λy=>some (-1)) λr=>some r
def c7B:FQ:=⟨[uD qK,G7],tR 4 G7,mE 19 [],sN 1 (Y3 (sN 1 (dE (qm [(4,6),(8,19)] ⟨[(8,G7)],[]⟩ 0 nZ F6))) F6)⟩
def d1S:FSpec:=Y0 c7B λx=>zD x.1 x.2
def pW(A:d5Y)(B:Int):d6b:=o5 (zD A B) λx=>some (J6 0 x)
def c6U:FQ:=⟨[uD qK,G7],tR 4 eF,mE 9 [(207,d1S)],F6⟩
def d1o:FSpec:=Y0 c6U λx=>pW x.1 x.2
def DF(A:U4)(B:Int):Option I9:=o5 (G8 A.2.2 B) λx=>o5 (FX A.2.2 0 B) λf=>o5 (o5 (CU A.1 x.1) λd=>l7 d (some (x,true)) (o5 (DI A.2.1 x.1) λb=>l7 b (some (x,true)) (o5 (gB f x) λc=>some (x,c)))) λx=>o5 (o5 (iw x.1.1) λd=>l7 (D6 d) (some (.inr (2,0))) (l7 x.2 (some (.inr (7,0))) (o5 (l7 (D6 (x8 x.1.2.1 (-1))) (l7 (D8 x.1.2.1 0) (some true) (l7 (J6 B x.1.2.1) (some true) (o5 (G8 f x.1.2.1) λx=>some (D6 (x8 x.2.1 (-1)))))) (some false)) λb=>l7 b (some (.inr (6,0))) (l7 (D8 12 (o9 x.1.2.2.1)) (some (.inr (4,112))) (l7 (D8 12 (o9 x.1.2.2.2.1)) (some (.inr (4,212))) (some (.inl ()))))))) λo=>V5 o (λd=>o5 (U0 (λ(b:Int)=>l7 (D8 b (o9 x.1.2.2.1)) (o5 (G8 x.1.2.2.1 b) λc=>o5 (FX x.1.2.2.1 0 b) λx=>o5 (yX A c x []) λx=>l7 (D6 (x8 x 0)) (some (.rt (x,x9 .i64 100 b))) (some (.nx (x9 .i64 b 1)))) (some (.ex ()))) 0) λo=>V5 o (λy=>o5 (U0 (λ(b:Int)=>l7 (D8 b (o9 x.1.2.2.2.1)) (o5 (G8 x.1.2.2.2.1 b) λc=>o5 (FX x.1.2.2.2.1 0 b) λg=>o5 (yX A c x.1.2.2.1 g) λx=>l7 (D6 (x8 x 0)) (some (.rt (x,x9 .i64 200 b))) (some (.nx (x9 .i64 b 1)))) (some (.ex ()))) 0) λo=>V5 o (λy=>o5 (qG A B) λb=>o5 (U0 (λ(c:Int)=>l7 (D8 c (o9 x.1.2.2.2.2)) (o5 (Fz x.1 c b) λx=>l7 (D6 (x8 x 0)) (some (.rt (x,x9 .i64 300 c))) (some (.nx (x9 .i64 c 1)))) (some (.ex ()))) 0) λo=>V5 o (λy=>o5 (U0 (λ(c:Int)=>l7 (D8 c (o9 x.1.2.2.2.1)) (o5 (nz x.1 c) λx=>o5 (pW x c) λx=>l7 x (some (.rt (9,x9 .i64 200 c))) (some (.nx (x9 .i64 c 1)))) (some (.ex ()))) 0) λo=>V5 o (λy=>some (0,0)) λr=>some r) λr=>some r) λr=>some r) λr=>some r) λr=>some r
def q91:FQ:=⟨[tD y27,G7],⟨[(.tmp 4,G7),(.tmp 5,G7)],[]⟩,mE 163 [(89,s89),(90,s90),(154,a7I),(153,b5f),(88,s88),(155,d1l),(156,d1m),(157,d1n),(59,s59),(158,d1o)],sN 3 (Y3 (.join [(6,7),(8,9),(28,45),(7000384,7000385)] ⟨[(6,(false,(.rp y24))),(8,eF)],[]⟩ F6) (Y3 (jnR [(4,6),(45,86)] nZ (dE (sN 1 (.cond F6 (sN 1 (.cond F6 (Y3 (.join [(52,76)] ⟨[(52,eF)],[]⟩ F6) F6))))))) (Y3 (sN 1 (dE (qm [(4,6),(9,12),(89,107)] ⟨[(89,G7)],[]⟩ 1 nZ F6))) (Y3 (sN 1 (dE (qm [(4,6),(12,15),(110,130)] ⟨[(110,G7)],[]⟩ 3 nZ F6))) (sN 1 (Y3 (sN 1 (dE (qm [(4,6),(16,18),(136,149)] ⟨[(136,G7)],[]⟩ 5 nZ F6))) (Y3 (sN 1 (dE (qm [(4,6),(18,19),(152,163)] ⟨[(152,G7)],[]⟩ 7 nZ F6))) F6)))))))⟩
def s91:FSpec:=Y0 q91 λx=>DF x.1 x.2
def BF(A:U4):Option N9:=l7 (D8 4 (o9 A.2.2)) (some (4,3,4,0)) (o5 (U0 (λ(x:N9×Int)=>l7 (D8 x.2 (o9 A.2.2)) (o5 (DF A x.2) λb=>l7 (D6 (x8 b.1 0)) (some (.rt (b.1,3,x.2,b.2))) (some (.nx (x.1,x9 .i64 x.2 1)))) (some (.ex x.1))) ((0,0,0,0),0)) λo=>V5 o (λ(y:N9)=>some (0,0,0,0)) λr=>some r)
def q50:FQ:=⟨[tD y27],cR 2 99 (tD y42),mE 31 [(91,s91)],sN 2 (Y3 (sN 1 (dE (qm [(2,6),(14,30),(4000128,4000129)] ⟨[(2,(false,(.box (dT y42)))),(14,G7)],[]⟩ 0 ⟨[(2,(false,(.box (dT y42))))],[]⟩ F6))) F6)⟩
def s50:FSpec:=Y0 q50 λx=>BF x
def xm(A:U4):Option N9:=o5 (DD A) λx=>l7 (D6 (x8 x.1 0)) (some x) (o5 (BG A) λx=>l7 (D6 (x8 x.1 0)) (some x) (o5 (BF A) λx=>some x))
def q28:FQ:=⟨[tD y27],cR 2 99 (tD y42),mE 19 [(48,s48),(49,s49),(50,s50)],F6⟩
def s28:FSpec:=Y0 q28 λx=>xm x
def mZ(A:List d5X)(B:List d5X):d6b:=l7 (D6 (x8 (o9 A) (o9 B))) (some false) (o5 (U0 (λ(x:Int)=>l7 (D8 x (o9 A)) (o5 (G8 A x) λb=>o5 (G8 B x) λc=>l7 (D6 (seq b c)) (some (.rt false)) (some (.nx (x9 .i64 x 1)))) (some (.ex ()))) 0) λo=>V5 o (λy=>some true) λr=>some r)
def q92:FQ:=⟨[uD (.sl .str),(uD (.sl .str))],tR 4 eF,mE 26 [],sN 2 (Y3 (sN 1 (dE (qm [(4,6),(13,26)] ⟨[(13,G7)],[]⟩ 0 nZ F6))) F6)⟩
def s92:FSpec:=Y0 q92 λx=>mZ x.1 x.2
def zU(A:gI)(B:gI):d6b:=l7 (seq A.1 B.1) (o5 (mZ A.2 B.2) λx=>some x) (some false)
def q52:FQ:=⟨[tD y0,tD y0],tR 4 eF,mE 17 [(92,s92)],F6⟩
def s52:FSpec:=Y0 q52 λx=>zU x.1 x.2
def bn(A:List gI)(B:List gI)(C:Unit):d6b:=l7 (D6 (x8 (o9 A) (o9 B))) (some false) (o5 (U0 (λ(x:Int)=>l7 (D8 x (o9 A)) (o5 (G8 A x) λb=>o5 (G8 B x) λc=>o5 (zU b c) λd=>l7 (D6 d) (some (.rt false)) (some (.nx (x9 .i64 x 1)))) (some (.ex ()))) 0) λo=>V5 o (λy=>some true) λr=>some r)
def b9D:FQ:=⟨[uD y1,uD y1,(false,(.fn 52 []))],tR 6 eF,mE 32 [(52,s52)],sN 2 (Y3 (sN 1 (dE (qm [(6,10),(17,32)] ⟨[(17,G7)],[]⟩ 0 nZ F6))) F6)⟩
def b9Q:FSpec:=Y0 b9D λx=>bn x.1 x.2.1 x.2.2
def lI(A:List xH)(B:List xH):d6b:=l7 (D6 (x8 (o9 A) (o9 B))) (some false) (o5 (U0 (λ(x:Int)=>l7 (D8 x (o9 A)) (o5 (G8 A x) λb=>o5 (G8 B x) λc=>l7 (D6 (U6 (x8 b.1.1 c.1.1) (U6 (x8 b.1.2 c.1.2) (U6 (x8 b.2.1 c.2.1) (U6 (x8 b.2.2.1 c.2.2.1) (x8 b.2.2.2 c.2.2.2)))))) (some (.rt false)) (some (.nx (x9 .i64 x 1)))) (some (.ex ()))) 0) λo=>V5 o (λy=>some true) λr=>some r)
def q93:FQ:=⟨[uD y5,uD y5],tR 4 eF,mE 26 [],sN 2 (Y3 (sN 1 (dE (qm [(4,6),(13,26)] ⟨[(13,G7)],[]⟩ 0 nZ F6))) F6)⟩
def s93:FSpec:=Y0 q93 λx=>lI x.1 x.2
def yG(A:dC)(B:dC):d6b:=l7 (seq A.1 B.1) (l7 (U6 (x8 A.2.1.1 B.2.1.1) (x8 A.2.1.2 B.2.1.2)) (l7 (U6 (x8 A.2.2.1.1 B.2.2.1.1) (x8 A.2.2.1.2 B.2.2.1.2)) (o5 (lI A.2.2.2 B.2.2.2) λx=>some x) (some false)) (some false)) (some false)
def q54:FQ:=⟨[tD y8,tD y8],tR 4 eF,mE 31 [(93,s93)],F6⟩
def s54:FSpec:=Y0 q54 λx=>yG x.1 x.2
def aP(A:List dC)(B:List dC)(C:Unit):d6b:=l7 (D6 (x8 (o9 A) (o9 B))) (some false) (o5 (U0 (λ(x:Int)=>l7 (D8 x (o9 A)) (o5 (G8 A x) λb=>o5 (G8 B x) λc=>o5 (yG b c) λd=>l7 (D6 d) (some (.rt false)) (some (.nx (x9 .i64 x 1)))) (some (.ex ()))) 0) λo=>V5 o (λy=>some true) λr=>some r)
def b9E:FQ:=⟨[uD y9,uD y9,(false,(.fn 54 []))],tR 6 eF,mE 32 [(54,s54)],sN 2 (Y3 (sN 1 (dE (qm [(6,10),(17,32)] ⟨[(17,G7)],[]⟩ 0 nZ F6))) F6)⟩
def b9R:FSpec:=Y0 b9E λx=>aP x.1 x.2.1 x.2.2
def gZ(A:List gu)(B:List gu):d6b:=l7 (D6 (x8 (o9 A) (o9 B))) (some false) (o5 (U0 (λ(x:Int)=>l7 (D8 x (o9 A)) (o5 (G8 A x) λb=>o5 (G8 B x) λc=>l7 (D6 (U6 (seq b.1 c.1) (U6 (x8 b.2.1 c.2.1) (x8 b.2.2 c.2.2)))) (some (.rt false)) (some (.nx (x9 .i64 x 1)))) (some (.ex ()))) 0) λo=>V5 o (λy=>some true) λr=>some r)
def q94:FQ:=⟨[uD y11,uD y11],tR 4 eF,mE 26 [],sN 2 (Y3 (sN 1 (dE (qm [(4,6),(13,26)] ⟨[(13,G7)],[]⟩ 0 nZ F6))) F6)⟩
def s94:FSpec:=Y0 q94 λx=>gZ x.1 x.2
def yF(A:D7)(B:D7):d6b:=l7 (seq A.1 B.1) (l7 (x8 A.2.1 B.2.1) (o5 (gZ A.2.2.1 B.2.2.1) λx=>l7 x (o5 (gZ A.2.2.2.1 B.2.2.2.1) λx=>some x) (some false)) (some false)) (some false)
def q56:FQ:=⟨[tD y24,tD y24],tR 4 eF,mE 31 [(94,s94)],F6⟩
def s56:FSpec:=Y0 q56 λx=>yF x.1 x.2
def aO(A:List D7)(B:List D7)(C:Unit):d6b:=l7 (D6 (x8 (o9 A) (o9 B))) (some false) (o5 (U0 (λ(x:Int)=>l7 (D8 x (o9 A)) (o5 (G8 A x) λb=>o5 (G8 B x) λc=>o5 (yF b c) λd=>l7 (D6 d) (some (.rt false)) (some (.nx (x9 .i64 x 1)))) (some (.ex ()))) 0) λo=>V5 o (λy=>some true) λr=>some r)
def b9F:FQ:=⟨[uD y25,uD y25,(false,(.fn 56 []))],tR 6 eF,mE 32 [(56,s56)],sN 2 (Y3 (sN 1 (dE (qm [(6,10),(17,32)] ⟨[(17,G7)],[]⟩ 0 nZ F6))) F6)⟩
def b9S:FSpec:=Y0 b9F λx=>aO x.1 x.2.1 x.2.2
def sS(A:U4)(B:U4):d6b:=o5 (bn A.1 B.1 ()) λx=>l7 x (o5 (aP A.2.1 B.2.1 ()) λx=>l7 x (o5 (aO A.2.2 B.2.2 ()) λx=>some x) (some false)) (some false)
def q29:FQ:=⟨[tD y27,tD y27],tR 4 eF,mE 24 [(51,b9Q),(53,b9R),(55,b9S)],F6⟩
def s29:FSpec:=Y0 q29 λx=>sS x.1 x.2
def oK(A:U4)(B:List J3)(C:List gu):Option I9:=l7 (D8 (o9 B) (o9 C)) (some (o9 B,5)) (l7 (D8 (o9 C) (o9 B)) (some (o9 C,4)) (o5 (U0 (λ(x:Int)=>l7 (D8 x (o9 B)) (o5 (G8 B x) λb=>o5 (G8 C x) λc=>l7 (D6 (x8 b.1 c.2.1)) (some (.rt (x,8))) (l7 (D6 (x8 b.2.1 c.2.2)) (some (.rt (x,8))) (o5 (qX c.2 A.1) λd=>l7 (D8 b.2.2 d.1) (some (.rt (x,3))) (l7 (D8 d.2 b.2.2) (some (.rt (x,3))) (some (.nx (x9 .i64 x 1))))))) (some (.ex ()))) 0) λo=>V5 o (λy=>some (0,0)) λr=>some r))
def c7C:FQ:=⟨[tD y27,uD y29,uD y11],⟨[(.tmp 6,G7),(.tmp 7,G7)],[]⟩,mE 71 [(141,b5a)],sN 3 (Y3 (sN 1 (dE (qm [(6,13),(29,71)] ⟨[(29,G7)],[]⟩ 0 nZ F6))) F6)⟩
def d1T:FSpec:=Y0 c7C λx=>oK x.1 x.2.1 x.2.2
def sJ(A:U4)(B:Int):Option (List gu×Int):=o5 (G8 A.2.2 B) λx=>l7 (D8 x.2.1 0) (some ([],0)) (l7 (J6 (o9 A.2.2) x.2.1) (some ([],0)) (o5 (G8 A.2.2 x.2.1) λx=>some (x.2.2.1,8)))
def c7D:FQ:=⟨[tD y27,G7],⟨[(.tmp 4,uD y11),(.tmp 5,G7)],[]⟩,mE 28 [],F6⟩
def d1U:FSpec:=Y0 c7D λx=>sJ x.1 x.2
def yw(A:U4)(B:Int)(C:fM):Option J3:=o5 (l7 (D8 B 0) (some (.inr (-1,-1,6))) (l7 (J6 (o9 A.2.2) B) (some (.inr (-1,-1,6))) (some (.inl ())))) λo=>V5 o (λx=>o5 (l7 (D8 C.1 0) (some (.inr (-1,-1,3))) (l7 (D8 109572 C.1) (some (.inr (-1,-1,3))) (some (.inl ())))) λo=>V5 o (λx=>o5 (G8 A.2.2 B) λx=>o5 (oK A C.2.1 x.2.2.1) λx=>l7 (D6 (x8 x.2 0)) (some (-1,x)) (o5 (sJ A B) λx=>l7 (D8 x.2 (o9 C.2.2)) (some (x.2,-1,4)) (o5 (U0 (λ(b:Int)=>l7 (D8 b (o9 C.2.2)) (o5 (G8 C.2.2 b) λc=>o5 (oK A c x.1) λx=>l7 (D6 (x8 x.2 0)) (some (.rt (b,x))) (some (.nx (x9 .i64 b 1)))) (some (.ex ()))) 0) λo=>V5 o (λy=>some (0,0,0)) λr=>some r))) λr=>some r) λr=>some r
def c6V:FQ:=⟨[tD y27,G7,tD y32],⟨[(.tmp 6,G7),(.tmp 7,G7),(.tmp 8,G7)],[]⟩,mE 84 [(208,d1T),(209,d1U)],sN 1 (Y3 (jnR [(6,9),(17,26)] nZ F6) (Y3 (jnR [(6,9),(26,34)] nZ F6) (sN 3 (Y3 (sN 1 (dE (qm [(6,9),(13,17),(66,84)] ⟨[(66,G7)],[]⟩ 0 nZ F6))) F6))))⟩
def d1p:FSpec:=Y0 c6V λx=>yw x.1 x.2.1 x.2.2
def sK(A:U4)(B:Int)(C:fM)(D:Bool)(E:Int):Option N9:=o5 (xm A) λx=>l7 (D6 (x8 x.1 0)) (some (1,-1,-1,-1)) (o5 (l7 (D8 B 0) (some (.inr (6,-1,-1,-1))) (l7 (J6 (o9 A.2.2) B) (some (.inr (6,-1,-1,-1))) (l7 D (l7 (D8 E 0) (some (.inr (6,-1,-1,-1))) (o5 (G8 A.2.2 B) λx=>l7 (J6 (o9 x.2.2.2.1) E) (some (.inr (6,-1,-1,-1))) (some (.inl (0,0,0,0))))) (some (.inl (0,0,0,0)))))) λo=>V5 o (λ(x:N9)=>o5 (yw A B C) λx=>l7 (D6 (x8 x.2.2 0)) (some (x.2.2,x.1,-1,-1)) (some (0,0,0,0))) λr=>some r)
def q95:FQ:=⟨[tD y27,G7,tD y32,eF,G7],cR 10 112 (tD y42),mE 63 [(28,s28),(159,d1p)],sN 2 (Y3 (jnR [(10,11),(21,49),(4000640,4000641)] ⟨[(10,(false,(.box (dT y42))))],[]⟩ F6) F6)⟩
def s95:FSpec:=Y0 q95 λx=>sK x.1 x.2.1 x.2.2.1 x.2.2.2.1 x.2.2.2.2
def BC(A:U4)(B:Int):Option cO:=o5 (G8 A.2.2 B) λx=>o5 (qo (o9 x.2.2.2.1) false) λb=>l7 (J6 0 x.2.1) (o5 (G8 A.2.2 x.2.1) λc=>o5 (qo (o9 c.2.2.2.1) false) λd=>some (x,c,b,d)) (some (x,([],0,[],[],[]),b,[]))
def q96:FQ:=⟨[tD y27,G7],⟨[(.tmp 4,(false,(.box (pA (dT y24) (pA (dT y24) (pA (oW .bool) (oW .bool)))))))],[]⟩,mE 52 [],F6⟩
def s96:FSpec:=Y0 q96 λx=>BC x.1 x.2
def xJ(A:D7)(B:Int):Option d5Y:=o5 (l7 (D8 B 0) (some (.inr [])) (l7 (J6 (o9 A.2.2.2.1) B) (some (.inr [])) (some (.inl ())))) λo=>V5 o (λx=>o5 (qo (o9 A.2.2.2.1) false) λx=>o5 (G8 x B) λp=>o5 (P7 x (U8 B)) λq=>o5 (vO A) λk=>o5 (zG k B) λd=>o5 (Y8 (λ(x:List Bool×Int)=>l7 (D8 x.2 (o9 d)) (o5 (G8 d x.2) λb=>o5 (P7 d (U8 x.2)) λc=>o5 (G8 x.1 c) λf=>o5 (P7 x.1 (U8 c)) λg=>some (.inl (aW x.1 (U8 c) true,x9 .i64 x.2 1))) (some (.inr x.1))) (aW x (U8 B) true,0)) λy=>o5 (Y8 (λ(x:d5Y×Int)=>l7 (D8 x.2 (o9 A.2.2.2.2)) (o5 (G8 A.2.2.2.2 x.2) λb=>l7 (D8 b.2.1 0) (some (.inl (x.1,x9 .i64 x.2 1))) (l7 (J6 (o9 A.2.2.2.1) b.2.1) (some (.inl (x.1,x9 .i64 x.2 1))) (o5 (G8 y b.2.1) λc=>o5 (P7 y (U8 b.2.1)) λf=>l7 (D6 f) (some (.inl (x.1,x9 .i64 x.2 1))) (o5 (qh b.2.2.2.2.2.1) λg=>o5 (qh b.2.2.2.2.2.2.1) λn=>o5 (bz x.1 g.2.2) λi=>o5 (bz i n.2.2) λj=>some (.inl (j,x9 .i64 x.2 1)))))) (some (.inr x.1))) ([],0)) λy=>o5 (Dp y) λx=>some x) λr=>some r
def q60:FQ:=⟨[tD y24,G7],tR 4 jc,mE 95 [(100,b8w),(99,s99),(101,c0X),(102,c0Y)],sN 1 (Y3 (jnR [(4,5),(17,26)] nZ F6) (sN 2 (Y3 (sN 1 (dE (.loop [(5,6),(7,8),(38,46),(17001856,17001857)] ⟨[(5,(uO .bool)),(38,G7)],[]⟩ 0 ⟨[(5,(uO .bool))],[]⟩ F6))) (sN 1 (Y3 (sN 1 (dE (.loop [(8,9),(10,17),(49,93)] ⟨[(8,jc),(49,G7)],[]⟩ 2 ⟨[(8,jc)],[]⟩ F6))) F6)))))⟩
def s60:FSpec:=Y0 q60 λx=>xJ x.1 x.2
def nP(A:cO)(B:Int):Option cO:=o5 (G8 A.2.2.2 B) λx=>o5 (P7 A.2.2.2 (U8 B)) λx=>o5 (nz A.2.1 B) λx=>o5 (Y8 (λ(b:cO×Int)=>l7 (D8 b.2 (o9 x)) (o5 (G8 x b.2) λc=>o5 (P7 x (U8 b.2)) λx=>o5 (G8 b.1.2.2.2 x) λd=>o5 (P7 b.1.2.2.2 (U8 x)) λf=>some (.inl ((b.1.1,b.1.2.1,b.1.2.2.1,aW b.1.2.2.2 (U8 x) true),x9 .i64 b.2 1))) (some (.inr b.1))) ((A.1,A.2.1,A.2.2.1,aW A.2.2.2 (U8 B) true),0)) λy=>some y
def c6W:FQ:=⟨[(false,(.box (pA (dT y24) (pA (dT y24) (pA (oW .bool) (oW .bool)))))),G7],⟨[],[(0,(true,(pA (dT y24) (pA (dT y24) (pA (oW .bool) (oW .bool))))))]⟩,⟨30,eqs,tt,gl,[(59,s59)],[],[],[],[0],[],[]⟩,sN 2 (dE (.loop [(0,1),(5,6),(19,30),(1000000,1000003)] ⟨[(0,(false,(.box (pA (dT y24) (pA (dT y24) (pA (oW .bool) (oW .bool))))))),(19,G7)],[]⟩ 0 ⟨[(0,(false,(.box (pA (dT y24) (pA (dT y24) (pA (oW .bool) (oW .bool)))))))],[]⟩ F6))⟩
def d1q:FSpec:=Y0 c6W λx=>nP x.1 x.2
def vF(A:cO)(B:Int):Option cO:=o5 (G8 A.2.2.1 B) λx=>o5 (P7 A.2.2.1 (U8 B)) λx=>o5 (nz A.1 B) λx=>o5 (Y8 (λ(b:cO×Int)=>l7 (D8 b.2 (o9 x)) (o5 (G8 x b.2) λc=>o5 (P7 x (U8 b.2)) λx=>o5 (G8 b.1.2.2.1 x) λd=>o5 (P7 b.1.2.2.1 (U8 x)) λf=>some (.inl ((b.1.1,b.1.2.1,aW b.1.2.2.1 (U8 x) true,b.1.2.2.2),x9 .i64 b.2 1))) (some (.inr b.1))) ((A.1,A.2.1,aW A.2.2.1 (U8 B) true,A.2.2.2),0)) λy=>o5 (xJ y.1 B) λx=>o5 (Y8 (λ(b:cO×Int)=>l7 (D8 b.2 (o9 x)) (o5 (G8 x b.2) λc=>o5 (P7 x (U8 b.2)) λx=>o5 (nP b.1 x) λx=>some (.inl (x,x9 .i64 b.2 1))) (some (.inr b.1))) (y,0)) λy=>some y
def q97:FQ:=⟨[(false,(.box (pA (dT y24) (pA (dT y24) (pA (oW .bool) (oW .bool)))))),G7],⟨[],[(0,(true,(pA (dT y24) (pA (dT y24) (pA (oW .bool) (oW .bool))))))]⟩,⟨47,eqs,tt,gl,[(59,s59),(60,s60),(160,d1q)],[],[],[],[0],[],[]⟩,sN 1 (Y3 (sN 1 (dE (.loop [(0,1),(5,6),(21,32),(1000000,1000003)] ⟨[(0,(false,(.box (pA (dT y24) (pA (dT y24) (pA (oW .bool) (oW .bool))))))),(21,G7)],[]⟩ 0 ⟨[(0,(false,(.box (pA (dT y24) (pA (dT y24) (pA (oW .bool) (oW .bool)))))))],[]⟩ F6))) (sN 1 (dE (.loop [(0,1),(7,8),(39,47),(12000000,12000003)] ⟨[(0,(false,(.box (pA (dT y24) (pA (dT y24) (pA (oW .bool) (oW .bool))))))),(39,G7)],[]⟩ 2 ⟨[(0,(false,(.box (pA (dT y24) (pA (dT y24) (pA (oW .bool) (oW .bool)))))))],[]⟩ F6))))⟩
def s97:FSpec:=Y0 q97 λx=>vF x.1 x.2
def Dn(A:d5Y)(B:Int):Option d5Y:=o5 (bz A [B]) λx=>some x
def b4C:FQ:=⟨[(false,(.box oiM)),(false,(.ifc 3 diM))],⟨[],[(0,(true,oiM))]⟩,⟨20,eqs,tt,gl,[],[],[],[],[0],[],[]⟩,F6⟩
def b5z:FSpec:=Y0 b4C λx=>Dn x.1 x.2
def lS(A:d5Y):d6c:=some (o9 A)
def c7V:FQ:=⟨[uD qK],tR 2 G7,mE 5 [],F6⟩
def b8D:FSpec:=Y0 c7V λx=>lS x
def eG(A:d5Y)(B:Int)(C:Int):d6b:=o5 (G8 A B) λx=>o5 (G8 A C) λb=>some (D8 x b)
def d0F:FQ:=⟨[uD qK,G7,G7],tR 6 eF,mE 16 [],F6⟩
def c1O:FSpec:=Y0 d0F λx=>eG x.1 x.2.1 x.2.2
def fU(A:d5Y)(B:Int)(C:Int):Option d5Y:=o5 (G8 A C) λx=>o5 (P7 A (U8 C)) λx=>o5 (G8 A B) λc=>o5 (P7 A (U8 B)) λb=>o5 (G8 A B) λd=>o5 (P7 A (U8 B)) λf=>o5 (G8 (aW A (U8 B) x) C) λg=>o5 (P7 (aW A (U8 B) x) (U8 C)) λi=>some (aW (aW A (U8 B) x) (U8 C) b)
def d0H:FQ:=⟨[(false,(.ownb (.int .i64))),G7,G7],⟨[],[(0,jc)]⟩,⟨20,eqs,tt,gl,[],[],[],[],[0],[],[]⟩,F6⟩
def b8P:FSpec:=Y0 d0H λx=>fU x.1 x.2.1 x.2.2
def yx(A:d5Y)(B:Int):Option d5Y:=o5 (Y8 (λ(x:d5Y×Int)=>l7 (x8 (eH .i64 (H9 .i64 x.2 1) 2) x.2) (some (.inr x.1)) (o5 (eG x.1 x.2 (eH .i64 (H9 .i64 x.2 1) 2)) λb=>l7 (D6 b) (some (.inr x.1)) (o5 (fU x.1 (eH .i64 (H9 .i64 x.2 1) 2) x.2) λc=>some (.inl (c,eH .i64 (H9 .i64 x.2 1) 2))))) (A,B)) λy=>some y
def b4x:FQ:=⟨[(false,(.ifc 304 (.box oiM))),G7],⟨[],[(0,(true,oiM))]⟩,⟨23,eqs,tt,gl,[(433,c1O),(436,b8P)],[],[],[((304,"Less"),433,some 305),((304,"Swap"),436,some 305)],[0],[],[]⟩,dE (.loop [(0,2),(4,23),(1000000,1000002)] ⟨[(0,(false,(.ifc 304 (.box oiM)))),(1,G7)],[]⟩ 0 ⟨[(0,(false,(.ifc 304 (.box oiM))))],[]⟩ F6)⟩
def b5t:FSpec:=Y0 b4x λx=>yx x.1 x.2
def iF(A:d5Y)(B:Int):Option d5Y:=o5 (Dn A B) λx=>o5 (lS x) λb=>o5 (yx x (H9 .i64 b 1)) λx=>some x
def b4v:FQ:=⟨[(false,(.ifc 304 (.box oiM))),(false,(.ifc 3 diM))],⟨[],[(0,(true,oiM))]⟩,⟨12,eqs,tt,gl,[(435,b5z),(237,b8D),(270,b5t)],[],[],[((304,"Len"),237,some 305),((304,"Push"),435,none)],[0],[],[]⟩,F6⟩
def b5q:FSpec:=Y0 b4v λx=>iF x.1 x.2
def vg(A:d5Y)(B:Int)(C:Int):Option (Bool×d5Y):=o5 (Y8 (λ(x:d5Y×Int)=>l7 (J6 C (x9 .i64 (Z4 .i64 2 x.2) 1)) (some (.inr x)) (l7 (D8 (x9 .i64 (Z4 .i64 2 x.2) 1) 0) (some (.inr x)) (l7 (D8 (x9 .i64 (x9 .i64 (Z4 .i64 2 x.2) 1) 1) C) (o5 (eG x.1 (x9 .i64 (x9 .i64 (Z4 .i64 2 x.2) 1) 1) (x9 .i64 (Z4 .i64 2 x.2) 1)) λc=>l7 c (o5 (eG x.1 (x9 .i64 (x9 .i64 (Z4 .i64 2 x.2) 1) 1) x.2) λb=>l7 (D6 b) (some (.inr x)) (o5 (fU x.1 x.2 (x9 .i64 (x9 .i64 (Z4 .i64 2 x.2) 1) 1)) λd=>some (.inl (d,x9 .i64 (x9 .i64 (Z4 .i64 2 x.2) 1) 1)))) (o5 (eG x.1 (x9 .i64 (Z4 .i64 2 x.2) 1) x.2) λb=>l7 (D6 b) (some (.inr x)) (o5 (fU x.1 x.2 (x9 .i64 (Z4 .i64 2 x.2) 1)) λd=>some (.inl (d,x9 .i64 (Z4 .i64 2 x.2) 1))))) (o5 (eG x.1 (x9 .i64 (Z4 .i64 2 x.2) 1) x.2) λc=>l7 (D6 c) (some (.inr x)) (o5 (fU x.1 x.2 (x9 .i64 (Z4 .i64 2 x.2) 1)) λb=>some (.inl (b,x9 .i64 (Z4 .i64 2 x.2) 1))))))) (A,B)) λy=>some (D8 B y.2,y.1)
def b4y:FQ:=⟨[(false,(.ifc 304 (.box oiM))),G7,G7],⟨[(.tmp 6,eF)],[(0,(true,oiM))]⟩,⟨48,eqs,tt,gl,[(433,c1O),(436,b8P)],[],[],[((304,"Less"),433,some 305),((304,"Swap"),436,some 305)],[0],[],[]⟩,sN 2 (Y3 (dE (.loop [(0,1),(7,11),(12,45),(1000000,1000002)] ⟨[(0,(false,(.ifc 304 (.box oiM)))),(7,G7)],[]⟩ 0 ⟨[(0,(false,(.ifc 304 (.box oiM)))),(7,G7)],[]⟩ F6)) F6)⟩
def b5u:FSpec:=Y0 b4y λx=>vg x.1 x.2.1 x.2.2
def EI(A:d5Y):Option (Int×d5Y):=o5 (G8 A (H9 .i64 (o9 A) 1)) λx=>o5 (P7 A (U8 (H9 .i64 (o9 A) 1))) λx=>l7 (pq 0 (H9 .i64 (o9 A) 1) (o9 A)) (some (x,oU A (U8 0) (U8 (H9 .i64 (o9 A) 1)))) none
def d0G:FQ:=⟨[(false,(.box oiM))],⟨[(.tmp 2,(false,(.ifc 3 diM)))],[(0,(true,oiM))]⟩,⟨23,eqs,tt,gl,[],[],[],[],[0],[],[]⟩,F6⟩
def d3X:FSpec:=Y0 d0G λx=>EI x
def rH(A:d5Y):Option (Int×d5Y):=o5 (lS A) λx=>o5 (fU A 0 (H9 .i64 x 1)) λb=>o5 (vg b 0 (H9 .i64 x 1)) λx=>o5 (EI x.2) λx=>some x
def b4w:FQ:=⟨[(false,(.ifc 304 (.box oiM)))],⟨[(.tmp 2,(false,(.ifc 3 diM)))],[(0,(true,oiM))]⟩,⟨15,eqs,tt,gl,[(237,b8D),(436,b8P),(271,b5u),(434,d3X)],[],[],[((304,"Len"),237,some 305),((304,"Pop"),434,none),((304,"Swap"),436,some 305)],[0],[],[]⟩,F6⟩
def b5r:FSpec:=Y0 b4w λx=>rH x
def ug(A:D7):Option (d5Y×Int):=o5 (vO A) λx=>o5 (qo (o9 x) []) λk=>o5 (qo (o9 x) 0) λq=>o5 (Y8 (λ(b:List d5Y×d5Y×d5Y×Int)=>l7 (D8 b.2.2.2 (o9 x)) (o5 (G8 x b.2.2.2) λx=>o5 (G8 b.2.1 b.2.2.2) λg=>o5 (P7 b.2.1 (U8 b.2.2.2)) λi=>o5 (Y8 (λ(c:List d5Y×Int)=>l7 (D8 c.2 (o9 x)) (o5 (G8 x c.2) λx=>l7 (inb x (o9 c.1)) (o5 (P7 c.1 (U8 x)) λd=>o5 (bz d [b.2.2.2]) λj=>l7 (inb x (o9 c.1)) (l7 (Rj (U8 x) (U8 x)) (o5 (P7 c.1 (U8 x)) λf=>some (.inl (aW c.1 (U8 x) j,x9 .i64 c.2 1))) none) none) none) (some (.inr c.1))) (b.1,0)) λy=>l7 (x8 (o9 x) 0) (o5 (iF b.2.2.1 b.2.2.2) λc=>some (.inl (y,aW b.2.1 (U8 b.2.2.2) (o9 x),c,x9 .i64 b.2.2.2 1))) (some (.inl (y,aW b.2.1 (U8 b.2.2.2) (o9 x),b.2.2.1,x9 .i64 b.2.2.2 1)))) (some (.inr (b.1,b.2.1,b.2.2.1)))) (k,q,[],0)) λy=>o5 (Y8 (λ(x:List d5Y×lg)=>o5 (lS x.2.2.1) λb=>l7 (D8 0 b) (o5 (rH x.2.2.1) λg=>o5 (bz x.2.2.2 [g.1]) λi=>o5 (G8 x.1 g.1) λc=>o5 (Y8 (λ(x:d5Y×d5Y×Int)=>l7 (D8 x.2.2 (o9 c)) (o5 (G8 c x.2.2) λd=>o5 (G8 x.1 d) λj=>o5 (P7 x.1 (U8 d)) λf=>o5 (G8 x.1 d) λt=>o5 (P7 x.1 (U8 d)) λu=>o5 (G8 (aW x.1 (U8 d) (H9 .i64 f 1)) d) λv=>o5 (P7 (aW x.1 (U8 d) (H9 .i64 f 1)) (U8 d)) λn=>l7 (x8 n 0) (o5 (iF x.2.1 d) λp=>some (.inl (aW x.1 (U8 d) (H9 .i64 f 1),p,x9 .i64 x.2.2 1))) (some (.inl (aW x.1 (U8 d) (H9 .i64 f 1),x.2.1,x9 .i64 x.2.2 1)))) (some (.inr (x.1,x.2.1)))) (x.2.1,g.2,0)) λy=>some (.inl (x.1,y.1,y.2,i))) (some (.inr x.2.2.2))) (y.1,y.2.1,y.2.2,[])) λy=>l7 (D8 (o9 y) (o9 x)) (some ([],9)) (some (y,0))
def c7E:FQ:=⟨[tD y24],⟨[(.tmp 2,jc),(.tmp 3,G7)],[]⟩,⟨113,eqs,tt,gl,[(100,b8w),(236,b5q),(237,b8D),(238,b5r)],[(183,oiM)],[12,50,77,80],[],[],[],[]⟩,sN 5 (Y3 (sN 1 (dE (.loop [(5,10),(11,12),(29,65),(10001344,10001345),(13001536,13001537),(16001600,16001601),(16001664,16001665)] ⟨[(5,(false,(.owns oiM))),(6,jc),(7,(false,(.box oiM))),(29,G7)],[]⟩ 0 ⟨[(5,(false,(.owns oiM))),(6,jc),(7,(false,(.box oiM)))],[]⟩ (sN 2 (Y3 (dE (sN 2 (Y3 (sN 1 (dE (.loop [(5,6),(11,12),(41,56),(23000000,23000001)] ⟨[(5,(false,(.owns oiM))),(41,G7)],[]⟩ 2 ⟨[(5,(false,(.owns oiM)))],[]⟩ F6))) F6))) F6))))) (sN 1 (Y3 (dE (.loop [(5,8),(12,15),(16,17),(65,107),(24000000,24000004)] ⟨[(5,(uD y64)),(6,jc),(7,(false,(.box oiM))),(12,jc)],[]⟩ 4 ⟨[(12,jc)],[]⟩ (sN 1 (dE (sN 3 (dE (.loop [(6,8),(16,17),(86,107),(79000000,79000002),(91004672,91004673)] ⟨[(6,jc),(7,(false,(.box oiM))),(86,G7)],[]⟩ 6 ⟨[(6,jc),(7,(false,(.box oiM)))],[]⟩ F6))))))) F6)))⟩
def d1V:FSpec:=Y0 c7E λx=>ug x
def og(A:I9)(B:Int):d6b:=o5 (tC A) λx=>l7 x (l7 (J6 A.1 B) (some (D8 B A.2)) (some false)) (some false)
def c8m:FQ:=⟨[tD y2,G7],tR 4 eF,mE 19 [(142,b8B)],F6⟩
def b8F:FSpec:=Y0 c8m λx=>og x.1 x.2
def xf(A:aC)(B:Int)(C:Int):d6b:=l7 (x8 A.2.1 B) (o5 (og A.2.2.2.2.1 C) λx=>some x) (some false)
def b4A:FQ:=⟨[tD y19,(false,(.rp (.int .i64))),(false,(.rp (.int .i64)))],tR 4 eF,mE 15 [(274,b8F)],F6⟩
def a7L:FSpec:=Y0 b4A λx=>xf x.1 x.2.1 x.2.2
def vC(A:List aC)(B:I9):Option (d5Y×d5Y):=o5 (qo (o9 A) 0) λx=>o5 (Y8 (λ(x:d5Y×d5Y×d5Y×Int)=>l7 (D8 x.2.2.2 (o9 A)) (o5 (G8 A x.2.2.2) λc=>o5 (l7 (J6 0 c.2.2.1) (l7 (D8 c.2.2.1 x.2.2.2) (o5 (G8 x.2.2.1 c.2.2.1) λb=>o5 (P7 x.2.2.1 (U8 c.2.2.1)) λx=>some x) (some (-1))) (some (-1))) λb=>o5 (G8 x.2.2.1 x.2.2.2) λi=>o5 (P7 x.2.2.1 (U8 x.2.2.2)) λj=>o5 (xf c B.1 B.2) λd=>l7 d (o5 (G8 (aW x.2.2.1 (U8 x.2.2.2) b) x.2.2.2) λk=>o5 (P7 (aW x.2.2.1 (U8 x.2.2.2) b) (U8 x.2.2.2)) λn=>o5 (bz x.1 [x.2.2.2]) λf=>o5 (bz x.2.1 [b]) λg=>some (.inl (f,g,aW (aW x.2.2.1 (U8 x.2.2.2) b) (U8 x.2.2.2) (o9 x.1),x9 .i64 x.2.2.2 1))) (some (.inl (x.1,x.2.1,aW x.2.2.1 (U8 x.2.2.2) b,x9 .i64 x.2.2.2 1)))) (some (.inr (x.1,x.2.1)))) ([],[],x,0)) λy=>some y
def b4z:FQ:=⟨[uD y20,(false,(.fn 273 [(.int .i64),(.int .i64)]))],⟨[(.tmp 4,jc),(.tmp 5,jc)],[]⟩,mE 59 [(273,a7L)],sN 3 (Y3 (sN 1 (dE (.loop [(6,12),(17,57),(10000896,10000897)] ⟨[(6,jc),(7,jc),(8,jc),(17,G7)],[]⟩ 0 ⟨[(6,jc),(7,jc)],[]⟩ (sN 2 (Y3 (dE (sN 2 (Y3 (.join [(11,12),(22,36)] ⟨[(11,G7)],[]⟩ F6) F6))) F6))))) F6)⟩
def b5v:FSpec:=Y0 b4z λx=>vC x.1 x.2
def zJ(A:D7)(B:Int)(C:Int):Option lg:=o5 (vC A.2.2.2.2 (B,C)) λx=>o5 (Y8 (λ(b:d5Y×Int)=>l7 (D8 b.2 (o9 x.1)) (o5 (G8 x.1 b.2) λc=>o5 (P7 x.1 (U8 b.2)) λx=>o5 (G8 A.2.2.2.2 x) λx=>o5 (bz b.1 [x.2.2.2.1]) λx=>some (.inl (x,x9 .i64 b.2 1))) (some (.inr b.1))) ([],0)) λy=>some (x.1,x.2,y)
def c7W:FQ:=⟨[tD y24,G7,G7],⟨[(.tmp 6,jc),(.tmp 7,jc),(.tmp 8,jc)],[]⟩,mE 40 [(273,a7L),(272,b5v)],sN 3 (Y3 (sN 1 (dE (.loop [(11,12),(13,14),(23,37)] ⟨[(11,jc),(23,G7)],[]⟩ 0 ⟨[(11,jc)],[]⟩ F6))) F6)⟩
def d2i:FSpec:=Y0 c7W λx=>zJ x.1 x.2.1 x.2.2
def OU(A:List I9):Option (d5Y×Int):=o5 (yS A) λx=>some (x.1,x.2.2)
def c7Y:FQ:=⟨[uD y12],⟨[(.tmp 2,jc),(.tmp 3,G7)],[]⟩,mE 15 [(266,c1l)],F6⟩
def d2k:FSpec:=Y0 c7Y λx=>OU x
def lT(A:aI)(B:Int):Option d5Y:=o5 (G8 A.1 B) λx=>o5 (qg x.1) λx=>o5 (qo x 0) λx=>o5 (Y8 (λ(x:d5Y×I9)=>l7 (J6 0 x.2.2) (o5 (G8 x.1 x.2.2) λc=>o5 (P7 x.1 (U8 x.2.2)) λd=>o5 (G8 A.2.1 x.2.1) λb=>some (.inl (aW x.1 (U8 x.2.2) x.2.1,H9 .i64 b 1,H9 .i64 x.2.2 1))) (some (.inr x.1))) (x,H9 .i64 B 1,H9 .i64 (o9 x) 1)) λy=>some y
def c8q:FQ:=⟨[tD y78,G7],tR 4 jc,mE 36 [(268,b1M)],sN 3 (Y3 (sN 1 (dE (.loop [(5,8),(21,35),(7000960,7000961)] ⟨[(5,jc),(6,G7),(7,G7)],[]⟩ 0 ⟨[(5,jc)],[]⟩ F6))) F6)⟩
def d2w:FSpec:=Y0 c8q λx=>lT x.1 x.2
def iK(A:J3):d6b:=o5 (l7 (D6 (x8 A.1 6)) (l7 (D6 (x8 A.2.1 0)) (some (.inr false)) (some (.inl ()))) (some (.inl ()))) λo=>V5 o (λx=>l7 (x8 A.1 1) (l7 (x8 A.2.2 0) (some true) (some (x8 A.2.2 1))) (l7 (x8 A.1 2) (l7 (J6 (-1000000000000) A.2.2) (some (J6 A.2.2 1000000000000)) (some false)) (l7 (x8 A.1 3) (l7 (J6 (-1000000000000000) A.2.2) (some (J6 A.2.2 1000000000000000)) (some false)) (l7 (x8 A.1 4) (l7 (J6 (-1000000000) A.2.2) (some (J6 A.2.2 1000000000)) (some false)) (l7 (x8 A.1 5) (l7 (J6 0 A.2.2) (some (J6 A.2.2 109572)) (some false)) (l7 (x8 A.1 6) (l7 (J6 0 A.2.1) (l7 (D8 A.2.1 8) (l7 (J6 0 A.2.2) (some (D8 A.2.2 16)) (some false)) (some false)) (some false)) (some false))))))) λr=>some r
def c8R:FQ:=⟨[tD y3],tR 2 eF,mE 83 [],sN 1 (Y3 (jnR [(2,11)] nZ F6) F6)⟩
def a7M:FSpec:=Y0 c8R λx=>iK x
def tH(A:I9):d6b:=o5 (o5 (qg A.1) λx=>l7 (D8 x 0) (some (.inr false)) (l7 (D6 (x8 A.2 0)) (o5 (lK A.1) λx=>l7 (D6 x) (some (.inr false)) (some (.inl ()))) (some (.inl ())))) λo=>V5 o (λx=>o5 (l7 (x8 A.1 14) (some (x8 A.1 14)) (l7 (x8 A.1 15) (some (x8 A.1 15)) (some (x8 A.1 16)))) λx=>l7 x (l7 (J6 0 A.2) (some (J6 A.2 5)) (some false)) (l7 (x8 A.1 34) (l7 (J6 0 A.2) (some (J6 (eU A.2 8) 5)) (some false)) (l7 (x8 A.1 6) (some (J6 0 A.2)) (some true)))) λr=>some r
def c8M:FQ:=⟨[tD y2],tR 2 eF,mE 48 [(268,b1M),(267,c1m)],sN 1 (Y3 (jnR [(2,18)] nZ F6) (Y3 (sN 1 (dE (Y3 (.join [(20,24)] ⟨[(20,eF)],[]⟩ F6) F6))) F6))⟩
def d2Q:FSpec:=Y0 c8M λx=>tH x
def jJ(A:I9)(B:dJ):d6b:=l7 (x8 A.1 7) (l7 (J6 0 A.2) (some (D8 A.2 (o9 B.2.1))) (some false)) (l7 (x8 A.1 8) (l7 (J6 0 A.2) (l7 (D8 A.2 (o9 B.2.2.1)) (o5 (G8 B.2.2.1 A.2) λx=>some (D6 (x8 x.1 0))) (some false)) (some false)) (l7 (x8 A.1 33) (l7 (J6 0 A.2) (some (D8 A.2 (o9 B.2.2.2.2.2))) (some false)) (l7 (x8 A.1 34) (some (D8 (eH .i64 A.2 8) (o9 B.2.2.2.2.2))) (o5 (l7 (x8 A.1 36) (some (x8 A.1 36)) (l7 (x8 A.1 37) (some (x8 A.1 37)) (l7 (x8 A.1 38) (some (x8 A.1 38)) (some (x8 A.1 39))))) λx=>l7 x (l7 (J6 0 A.2) (some (D8 A.2 (o9 B.2.2.2.2.1))) (some false)) (some true)))))
def c8N:FQ:=⟨[tD y2,tD y62],tR 4 eF,mE 81 [],sN 1 (Y3 (sN 1 (dE (sN 1 (.cond F6 (sN 1 (.cond F6 (sN 1 (.cond F6 (sN 1 (.cond F6 (Y3 (.join [(65,70)] ⟨[(65,eF)],[]⟩ F6) F6))))))))))) F6)⟩
def d2R:FSpec:=Y0 c8N λx=>jJ x.1 x.2
def yA(A:List J3):d6b:=o5 (U0 (λ(x:Int)=>l7 (D8 x (o9 A)) (o5 (G8 A x) λb=>o5 (iK b) λc=>l7 (D6 c) (some (.rt false)) (some (.nx (x9 .i64 x 1)))) (some (.ex ()))) 0) λo=>V5 o (λy=>some true) λr=>some r
def c8O:FQ:=⟨[uD y29],tR 2 eF,mE 15 [(315,a7M)],sN 1 (Y3 (sN 1 (dE (qm [(2,3),(4,5),(7,15)] ⟨[(7,G7)],[]⟩ 0 nZ F6))) F6)⟩
def d2S:FSpec:=Y0 c8O λx=>yA x
def Dv(A:J3)(B:I9):d6b:=o5 (iK A) λx=>l7 x (l7 (x8 A.1 B.1) (some (x8 A.2.1 B.2)) (some false)) (some false)
def c9j:FQ:=⟨[tD y3,tD y2],tR 4 eF,mE 21 [(315,a7M)],F6⟩
def c1s:FSpec:=Y0 c9j λx=>Dv x.1 x.2
def uM(A:Int):d6b:=l7 (x8 A 2) (some true) (l7 (x8 A 3) (some true) (some (x8 A 4)))
def c9J:FQ:=⟨[G7],tR 2 eF,mE 13 [],F6⟩
def b8J:FSpec:=Y0 c9J λx=>uM x
def xg(A:Int)(B:I9):d6b:=l7 (D6 (x8 B.2 0)) (some false) (l7 (x8 A 36) (l7 (x8 B.1 2) (some true) (some (x8 B.1 3))) (l7 (x8 A 39) (o5 (uM B.1) λx=>l7 x (some true) (some (x8 B.1 5))) (some (x8 B.1 1))))
def c9k:FQ:=⟨[G7,tD y2],tR 4 eF,mE 32 [(367,b8J)],F6⟩
def d3f:FSpec:=Y0 c9k λx=>xg x.1 x.2
def ui(A:Int)(B:Int):d6b:=l7 (x8 A 10) (o5 (uM B) λx=>some x) (l7 (x8 A 25) (some (x8 B 1)) (some (x8 B 5)))
def c9l:FQ:=⟨[G7,G7],tR 4 eF,mE 16 [(367,b8J)],F6⟩
def d3g:FSpec:=Y0 c9l λx=>ui x.1 x.2
def uN(A:J3)(B:J3):d6b:=l7 (x8 A.1 B.1) (some (x8 A.2.1 B.2.1)) (some false)
def c9n:FQ:=⟨[tD y3,tD y3],tR 4 eF,mE 17 [],F6⟩
def c1t:FSpec:=Y0 c9n λx=>uN x.1 x.2
def bJ(A:Int)(B:J3)(C:J3):d6b:=o5 (o5 (l7 (x8 A 11) (some (x8 A 11)) (some (x8 A 12))) λx=>l7 x (o5 (uN B C) λx=>l7 x (o5 (uM B.1) λx=>some (.inr x)) (some (.inr false))) (l7 (x8 A 13) (l7 (x8 C.1 2) (l7 (x8 B.1 2) (some (.inr true)) (some (.inr (x8 B.1 3)))) (some (.inr false))) (l7 (x8 A 14) (l7 (x8 C.1 4) (l7 (x8 B.1 3) (some (.inr true)) (some (.inr (x8 B.1 4)))) (some (.inr false))) (l7 (x8 A 15) (l7 (x8 C.1 2) (l7 (x8 B.1 2) (some (.inr true)) (some (.inr (x8 B.1 3)))) (l7 (x8 B.1 3) (some (.inr (x8 C.1 3))) (some (.inr false)))) (l7 (x8 A 16) (l7 (x8 B.1 3) (some (.inr (x8 C.1 3))) (some (.inr false))) (o5 (l7 (x8 A 17) (some (x8 A 17)) (l7 (x8 A 18) (some (x8 A 18)) (l7 (x8 A 21) (some (x8 A 21)) (some (x8 A 22))))) λx=>l7 x (o5 (uN B C) λx=>l7 x (o5 (uM B.1) λx=>l7 x (some (.inr true)) (some (.inr (x8 B.1 5)))) (some (.inr false))) (o5 (l7 (x8 A 19) (some (x8 A 19)) (some (x8 A 20))) λx=>l7 x (o5 (uN B C) λx=>some (.inr x)) (l7 (x8 A 23) (l7 (x8 A 23) (l7 (x8 B.1 1) (some (.inr (x8 C.1 1))) (some (.inr false))) (l7 (x8 A 27) (l7 (x8 A 27) (l7 (x8 B.1 5) (some (.inr (x8 C.1 2))) (some (.inr false))) (some (.inl ()))) (l7 (x8 A 28) (l7 (x8 B.1 5) (some (.inr (x8 C.1 2))) (some (.inr false))) (some (.inl ()))))) (l7 (x8 A 24) (l7 (x8 B.1 1) (some (.inr (x8 C.1 1))) (some (.inr false))) (l7 (x8 A 27) (l7 (x8 A 27) (l7 (x8 B.1 5) (some (.inr (x8 C.1 2))) (some (.inr false))) (some (.inl ()))) (l7 (x8 A 28) (l7 (x8 B.1 5) (some (.inr (x8 C.1 2))) (some (.inr false))) (some (.inl ()))))))))))))) λo=>V5 o (λx=>l7 (x8 B.1 5) (some (x8 C.1 5)) (some false)) λr=>some r
def c9m:FQ:=⟨[G7,tD y3,tD y3],tR 6 eF,mE 134 [(343,c1t),(367,b8J)],sN 1 (Y3 (jnR [(6,126)] nZ (sN 1 (dE (Y3 (.join [(8,11)] ⟨[(8,eF)],[]⟩ F6) (.cond F6 (sN 1 (.cond F6 (sN 1 (.cond F6 (sN 1 (.cond F6 (sN 1 (.cond F6 (Y3 (.join [(80,85)] ⟨[(80,eF)],[]⟩ F6) (.cond F6 (Y3 (.join [(98,101)] ⟨[(98,eF)],[]⟩ F6) F6)))))))))))))))) F6)⟩
def d3h:FSpec:=Y0 c9m λx=>bJ x.1 x.2.1 x.2.2
def aj(A:I9)(B:List J3)(C:dJ):d6b:=o5 (l7 (x8 A.1 7) (o5 (G8 C.2.1 A.2) λx=>o5 (iK x) λx=>some (.inr x)) (l7 (x8 A.1 8) (o5 (G8 C.2.2.1 A.2) λx=>o5 (iK x) λx=>some (.inr x)) (l7 (x8 A.1 33) (o5 (G8 C.2.2.2.2.2 A.2) λx=>o5 (G8 B 0) λb=>o5 (Dv b x.2.1) λc=>l7 c (l7 (J6 1 x.2.2.1.1) (some (.inr (J6 x.2.2.1.1 6))) (some (.inr false))) (some (.inr false))) (l7 (x8 A.1 34) (o5 (G8 C.2.2.2.2.2 (eH .i64 A.2 8)) λx=>o5 (G8 B 0) λb=>l7 (x8 b.1 3) (l7 (U6 (x8 x.2.1.1 3) (x8 x.2.1.2 0)) (some (.inr (U6 (x8 x.2.2.1.1 4) (x8 x.2.2.1.2 0)))) (some (.inr false))) (some (.inr false))) (o5 (l7 (x8 A.1 36) (some (x8 A.1 36)) (l7 (x8 A.1 37) (some (x8 A.1 37)) (l7 (x8 A.1 38) (some (x8 A.1 38)) (some (x8 A.1 39))))) λx=>l7 x (o5 (G8 C.2.2.2.2.1 A.2) λx=>o5 (xg A.1 x) λx=>some (.inr x)) (some (.inl ()))))))) λo=>V5 o (λx=>l7 (x8 (o9 B) 1) (o5 (G8 B 0) λx=>o5 (ui A.1 x.1) λx=>some x) (l7 (x8 (o9 B) 2) (o5 (G8 B 0) λx=>o5 (G8 B 1) λb=>o5 (bJ A.1 x b) λx=>some x) (l7 (x8 (o9 B) 3) (o5 (G8 B 0) λx=>l7 (x8 x.1 1) (o5 (G8 B 1) λx=>o5 (G8 B 2) λb=>o5 (uN x b) λx=>some x) (some false)) (some true)))) λr=>some r
def c8P:FQ:=⟨[tD y2,uD y29,tD y62],tR 6 eF,mE 133 [(315,a7M),(339,c1s),(340,d3f),(341,d3g),(342,d3h),(343,c1t)],sN 1 (Y3 (jnR [(6,95)] nZ (sN 1 (dE (sN 1 (.cond F6 (sN 1 (.cond F6 (sN 1 (.cond F6 (sN 1 (.cond F6 (Y3 (.join [(81,86)] ⟨[(81,eF)],[]⟩ F6) F6)))))))))))) F6)⟩
def d2T:FSpec:=Y0 c8P λx=>aj x.1 x.2.1 x.2.2
def vP(A:I9)(B:dJ):Option (J3×Int):=o5 (G8 B.2.2.2.2.1 A.2) λx=>o5 (l7 (x8 A.1 37) (some (x.1,x.2,1)) (some (x.1,x.2,0))) λg=>o5 (l7 (x8 A.1 39) (l7 (x8 (o9 B.2.2.2.1) 0) (some (.inr ((0,0,0),6))) (some (.inl (0,0,0)))) (some (.inl (0,0,0)))) λo=>V5 o (λ(i:J3)=>o5 (U0 (λ(b:J3×J3×Int)=>l7 (D8 b.2.2 (o9 B.2.2.2.1)) (o5 (G8 B.2.2.2.1 b.2.2) λf=>o5 (l7 (J6 (o9 f) A.2) (some (.inr ((0,0,0),6))) (o5 (G8 f A.2) λx=>l7 (x8 x.1 0) (some (.inr ((0,0,0),6))) (some (.inl b.1)))) λo=>V5 o (λ(d:J3)=>o5 (G8 f A.2) λc=>o5 (Dv c x) λx=>l7 (D6 x) (some (.rt ((0,0,0),8))) (l7 (x8 A.1 36) (o5 (iK (b.2.1.1,b.2.1.2.1,x9 .i64 b.2.1.2.2 c.2.2)) λx=>l7 (D6 x) (some (.rt ((0,0,0),3))) (some (.nx (d,(b.2.1.1,b.2.1.2.1,x9 .i64 b.2.1.2.2 c.2.2),x9 .i64 b.2.2 1)))) (l7 (x8 A.1 37) (some (.nx (d,(b.2.1.1,b.2.1.2.1,qj b.2.1.2.2 c.2.2),x9 .i64 b.2.2 1))) (l7 (x8 A.1 38) (some (.nx (d,(b.2.1.1,b.2.1.2.1,nT b.2.1.2.2 c.2.2),x9 .i64 b.2.2 1))) (l7 (x8 A.1 39) (l7 (x8 b.2.2 0) (some (.nx (d,c,x9 .i64 b.2.2 1))) (l7 (D8 b.2.1.2.2 c.2.2) (some (.nx (d,c,x9 .i64 b.2.2 1))) (some (.nx (d,b.2.1,x9 .i64 b.2.2 1))))) (some (.nx (d,b.2.1,x9 .i64 b.2.2 1)))))))) λr=>some (.rt r)) (some (.ex (b.1,b.2.1)))) (i,g,0)) λo=>V5 o (λ(y:J3×J3)=>some (y.2,0)) λr=>some r) λr=>some r
def c9o:FQ:=⟨[tD y2,tD y62],⟨[(.cell 4 51,tD y3),(.tmp 5,G7)],[]⟩,mE 113 [(339,c1s),(315,a7M)],sN 3 (Y3 (.join [(7,8),(22,26),(10000448,10000449)] ⟨[(7,(false,(.box (dT y3))))],[]⟩ F6) (Y3 (jnR [(4,6),(26,36),(4000256,4000257)] ⟨[(4,(false,(.box (dT y3))))],[]⟩ F6) (Y3 (sN 1 (dE (qm [(4,6),(7,11),(39,112),(12000000,12000001),(20000000,20000001)] ⟨[(4,(false,(.box (dT y3)))),(7,(false,(.box (dT y3)))),(39,G7)],[]⟩ 0 ⟨[(4,(false,(.box (dT y3)))),(7,(false,(.box (dT y3))))],[]⟩ (sN 2 (Y3 (dE (sN 1 (Y3 (jnR [(4,6),(44,59),(35000000,35000001)] ⟨[(4,(false,(.box (dT y3))))],[]⟩ F6) F6))) F6))))) F6)))⟩
def d3i:FSpec:=Y0 c9o λx=>vP x.1 x.2
def Jt(A:xH)(B:Int)(C:Int):d6b:=o5 (og A.1 B) λx=>l7 x (l7 (J6 A.2.1 C) (some (D8 C A.2.2.1)) (some false)) (some false)
def b4B:FQ:=⟨[tD y4,(false,(.rp (.int .i64))),(false,(.rp (.int .i64)))],tR 4 eF,mE 21 [(274,b8F)],F6⟩
def a7O:FSpec:=Y0 b4B λx=>Jt x.1 x.2.1 x.2.2
def xE(A:List xH)(B:I9):Option (Int×Bool):=o5 (U0 (λ(x:Int)=>l7 (D8 x (o9 A)) (o5 (G8 A x) λb=>o5 (Jt b B.1 B.2) λc=>l7 c (some (.rt (x,true))) (some (.nx (x9 .i64 x 1)))) (some (.ex ()))) 0) λo=>V5 o (λy=>some (0,false)) λr=>some r
def b4e:FQ:=⟨[uD y5,(false,(.fn 368 [(.int .i64),(.int .i64)]))],⟨[(.tmp 4,G7),(.tmp 5,eF)],[]⟩,mE 20 [(368,a7O)],sN 1 (Y3 (sN 1 (dE (qm [(4,8),(10,20)] ⟨[(10,G7)],[]⟩ 0 nZ F6))) F6)⟩
def b5c:FSpec:=Y0 b4e λx=>xE x.1 x.2
def Iq(A:dC)(B:Int)(C:Int):Option (Int×Bool):=o5 (xE A.2.2.2 (B,C)) λx=>some x
def c9p:FQ:=⟨[tD y8,G7,G7],⟨[(.tmp 6,G7),(.tmp 7,eF)],[]⟩,mE 14 [(368,a7O),(143,b5c)],F6⟩
def d3j:FSpec:=Y0 c9p λx=>Iq x.1 x.2.1 x.2.2
def c6b:List MG:=[(false,(.dat (.int .u64))),(false,(.dat (.int .u64)))]
def b4Z:FSpec:=⟨c6b,[(false,(.dat (.int .u64))),(false,(.dat (.int .u64)))],[],λx=>vI x.1 x.2⟩
def BI(A:Int):d6c:=l7 (J6 4294967296 A) (l7 (J6 65536 (uP .u64 A 32)) (l7 (J6 256 (uP .u64 (uP .u64 A 32) 16)) (o5 (sat NQ (wrap .u8 (uP .u64 (uP .u64 (uP .u64 A 32) 16) 8))) λx=>some (x9 .i64 (x9 .i64 (x9 .i64 32 16) 8) (wrap .i64 x))) (o5 (sat NQ (wrap .u8 (uP .u64 (uP .u64 A 32) 16))) λx=>some (x9 .i64 (x9 .i64 32 16) (wrap .i64 x)))) (l7 (J6 256 (uP .u64 A 32)) (o5 (sat NQ (wrap .u8 (uP .u64 (uP .u64 A 32) 8))) λx=>some (x9 .i64 (x9 .i64 32 8) (wrap .i64 x))) (o5 (sat NQ (wrap .u8 (uP .u64 A 32))) λx=>some (x9 .i64 32 (wrap .i64 x))))) (l7 (J6 65536 A) (l7 (J6 256 (uP .u64 A 16)) (o5 (sat NQ (wrap .u8 (uP .u64 (uP .u64 A 16) 8))) λx=>some (x9 .i64 (x9 .i64 (x9 .i64 0 16) 8) (wrap .i64 x))) (o5 (sat NQ (wrap .u8 (uP .u64 A 16))) λx=>some (x9 .i64 (x9 .i64 0 16) (wrap .i64 x)))) (l7 (J6 256 A) (o5 (sat NQ (wrap .u8 (uP .u64 A 8))) λx=>some (x9 .i64 (x9 .i64 0 8) (wrap .i64 x))) (o5 (sat NQ (wrap .u8 A)) λx=>some (x9 .i64 0 (wrap .i64 x)))))
def c7Q:FQ:=⟨[(false,(dT (.int .u64)))],tR 2 G7,mE 25 [],F6⟩
def d2e:FSpec:=Y0 c7Q λx=>BI x
def oI(A:Int):d6c:=o5 (BI A) λx=>some (H9 .i64 64 x)
def d0w:FQ:=⟨[(false,(dT (.int .u64)))],tR 2 G7,mE 6 [(225,d2e)],F6⟩
def d3U:FSpec:=Y0 d0w λx=>oI x
def nG(A:Int)(B:Int)(C:Int):Option I9:=o5 (l7 (x8 C 0) none (some ())) λx=>o5 (l7 (J6 C A) none (some ())) λx=>l7 (x8 A 0) (o5 (qC .u64 B C) λx=>o5 (Au B C) λb=>some (x,b)) (o5 (oI C) λx=>o5 (Zp .u64 C (wrap .u64 x)) λb=>o5 (Zp .u64 A (wrap .u64 x)) λd=>o5 (Zq .u64 B (H9 .u64 64 (wrap .u64 x))) λf=>o5 (Zp .u64 B (wrap .u64 x)) λc=>o5 (qC .u64 (ior .u64 d f) (uP .u64 b 32)) λg=>o5 (Y8 (λ(x:I9)=>l7 (J6 4294967296 x.1) (l7 (J6 4294967296 (x9 .u64 x.2 (uP .u64 b 32))) (some (.inr (H9 .u64 x.1 1))) (some (.inl (H9 .u64 x.1 1,x9 .u64 x.2 (uP .u64 b 32))))) (l7 (D8 (x9 .u64 (Z4 .u64 4294967296 x.2) (uP .u64 c 32)) (Z4 .u64 x.1 (a4p .u64 b 4294967295))) (l7 (J6 4294967296 (x9 .u64 x.2 (uP .u64 b 32))) (some (.inr (H9 .u64 x.1 1))) (some (.inl (H9 .u64 x.1 1,x9 .u64 x.2 (uP .u64 b 32))))) (some (.inr x.1)))) (g,H9 .u64 (ior .u64 d f) (Z4 .u64 g (uP .u64 b 32)))) λy=>o5 (qC .u64 (H9 .u64 (x9 .u64 (Z4 .u64 (ior .u64 d f) 4294967296) (uP .u64 c 32)) (Z4 .u64 y b)) (uP .u64 b 32)) λi=>o5 (Y8 (λ(x:I9)=>l7 (J6 4294967296 x.2) (l7 (J6 4294967296 (x9 .u64 x.1 (uP .u64 b 32))) (some (.inr (H9 .u64 x.2 1))) (some (.inl (x9 .u64 x.1 (uP .u64 b 32),H9 .u64 x.2 1)))) (l7 (D8 (x9 .u64 (Z4 .u64 4294967296 x.1) (a4p .u64 c 4294967295)) (Z4 .u64 x.2 (a4p .u64 b 4294967295))) (l7 (J6 4294967296 (x9 .u64 x.1 (uP .u64 b 32))) (some (.inr (H9 .u64 x.2 1))) (some (.inl (x9 .u64 x.1 (uP .u64 b 32),H9 .u64 x.2 1)))) (some (.inr x.2)))) (H9 .u64 (H9 .u64 (x9 .u64 (Z4 .u64 (ior .u64 d f) 4294967296) (uP .u64 c 32)) (Z4 .u64 y b)) (Z4 .u64 i (uP .u64 b 32)),i)) λy_1=>o5 (Zq .u64 (H9 .u64 (x9 .u64 (Z4 .u64 (H9 .u64 (x9 .u64 (Z4 .u64 (ior .u64 d f) 4294967296) (uP .u64 c 32)) (Z4 .u64 y b)) 4294967296) (a4p .u64 c 4294967295)) (Z4 .u64 y_1 b)) (wrap .u64 x)) λx=>some (x9 .u64 (Z4 .u64 y 4294967296) y_1,x))
def d0f:FQ:=⟨[(false,(dT (.int .u64))),(false,(dT (.int .u64))),(false,(dT (.int .u64)))],⟨[(.tmp 6,(false,(dT (.int .u64)))),(.tmp 7,(false,(dT (.int .u64))))],[]⟩,mE 135 [(407,d3U)],sN 1 (Y3 (.join [(19,22)] nZ F6) (Y3 (.join [(22,26)] nZ F6) (sN 11 (Y3 (dE (.loop [(15,17),(67,86)] ⟨[(15,(false,(dT (.int .u64)))),(16,(false,(dT (.int .u64))))],[]⟩ 0 ⟨[(15,(false,(dT (.int .u64))))],[]⟩ F6)) (sN 3 (Y3 (dE (.loop [(16,17),(18,19),(102,121)] ⟨[(16,(false,(dT (.int .u64)))),(18,(false,(dT (.int .u64))))],[]⟩ 2 ⟨[(18,(false,(dT (.int .u64))))],[]⟩ F6)) F6))))))⟩
def b8M:FSpec:=Y0 d0f λx=>nG x.1 x.2.1 x.2.2
def xC(A:Int)(B:Int):Option (Int×Int×Bool):=l7 (D8 B 0) (o5 (vI (wrap .u64 A) (H9 .u64 0 (wrap .u64 B))) λx=>l7 (J6 1000000 x.1) (some (0,0,false)) (o5 (nG x.1 x.2 1000000) λx=>l7 (D8 1000000000000000 x.1) (some (0,0,false)) (l7 (D8 B 0) (some (H9 .i64 0 (wrap .i64 x.1),H9 .i64 0 (wrap .i64 x.2),true)) (some (wrap .i64 x.1,wrap .i64 x.2,true))))) (o5 (vI (wrap .u64 A) (wrap .u64 B)) λx=>l7 (J6 1000000 x.1) (some (0,0,false)) (o5 (nG x.1 x.2 1000000) λx=>l7 (D8 1000000000000000 x.1) (some (0,0,false)) (l7 (D8 B 0) (some (H9 .i64 0 (wrap .i64 x.1),H9 .i64 0 (wrap .i64 x.2),true)) (some (wrap .i64 x.1,wrap .i64 x.2,true)))))
def c9K:FQ:=⟨[G7,G7],⟨[(.tmp 4,G7),(.tmp 5,G7),(.tmp 6,eF)],[]⟩,mE 47 [(133,b4Z),(390,b8M)],F6⟩
def d3x:FSpec:=Y0 c9K λx=>xC x.1 x.2
def tN(A:Int):d6b:=l7 (J6 0 A) (some (J6 A 5)) (some false)
def d0x:FQ:=⟨[G7],tR 2 eF,mE 9 [],F6⟩
def b8O:FSpec:=Y0 d0x λx=>tN x
def lG(A:Int)(B:Int):d6b:=l7 (D8 B A) (some true) (some (D8 A (H9 .i64 0 B)))
def q64:FQ:=⟨[G7,G7],tR 4 eF,mE 14 [],F6⟩
def s64:FSpec:=Y0 q64 λx=>lG x.1 x.2
def nH(A:Int):d6c:=l7 (D8 A 0) (some (H9 .u64 0 (wrap .u64 A))) (some (wrap .u64 A))
def d0y:FQ:=⟨[G7],tR 2 (false,(dT (.int .u64))),mE 10 [],F6⟩
def c1I:FSpec:=Y0 d0y λx=>nH x
def oZ(A:Int)(B:Int)(C:Int)(D:Bool)(E:Int):d6c:=l7 (x8 B 0) (some A) (l7 (x8 E 0) (l7 D (some (x9 .u64 A 1)) (some A)) (l7 (x8 E 1) (l7 (D6 D) (some (x9 .u64 A 1)) (some A)) (l7 (x8 E 3) (some (x9 .u64 A 1)) (l7 (x8 E 4) (l7 (J6 (H9 .u64 C B) B) (some (x9 .u64 A 1)) (some A)) (l7 (x8 E 5) (l7 (D8 (H9 .u64 C B) B) (some (x9 .u64 A 1)) (l7 (x8 B (H9 .u64 C B)) (l7 (x8 (eU A 2) 1) (some (x9 .u64 A 1)) (some A)) (some A))) (some A))))))
def d0z:FQ:=⟨[(false,(dT (.int .u64))),(false,(dT (.int .u64))),(false,(dT (.int .u64))),eF,G7],tR 10 (false,(dT (.int .u64))),mE 55 [],F6⟩
def c1J:FSpec:=Y0 d0z λx=>oZ x.1 x.2.1 x.2.2.1 x.2.2.2.1 x.2.2.2.2
def DR(A:Int)(B:Bool):d6c:=l7 B (some (H9 .i64 0 (wrap .i64 A))) (some (wrap .i64 A))
def d0A:FQ:=⟨[(false,(dT (.int .u64))),eF],tR 4 G7,mE 11 [],F6⟩
def c1K:FSpec:=Y0 d0A λx=>DR x.1 x.2
def jQ(A:Int)(B:Int)(C:Int):Option I9:=o5 (tN C) λx=>l7 (D6 x) (some (0,1)) (l7 (x8 B 0) (some (0,12)) (o5 (lG A 4611686018427387904) λx=>l7 x (some (0,3)) (o5 (lG B 4611686018427387904) λx=>l7 x (some (0,3)) (o5 (nH A) λx=>o5 (nH B) λb=>o5 (qC .u64 x b) λc=>o5 (Au x b) λx=>o5 (oZ c x b (D6 (jG (D8 A 0) (D8 B 0))) C) λx=>o5 (DR x (D6 (jG (D8 A 0) (D8 B 0)))) λx=>some (x,0)))))
def d0g:FQ:=⟨[G7,G7,G7],⟨[(.tmp 6,G7),(.tmp 7,G7)],[]⟩,mE 45 [(408,b8O),(64,s64),(409,c1I),(410,c1J),(411,c1K)],F6⟩
def b5x:FSpec:=Y0 d0g λx=>jQ x.1 x.2.1 x.2.2
def Et(A:Int)(B:Int)(C:Int):Option I9:=l7 (D8 (x9 .i64 A (eH .i64 B 1000000)) (-2000000000000000)) (some (0,3)) (l7 (D8 2000000000000000 (x9 .i64 A (eH .i64 B 1000000))) (some (0,3)) (l7 (D8 1 (x9 .i64 A (eH .i64 B 1000000))) (o5 (jQ (x9 .i64 (Z4 .i64 (x9 .i64 (eU (x9 .i64 A (eH .i64 B 1000000)) 2) 2) 1000000) (eU B 1000000)) 1000000 C) λx=>l7 (D6 (x8 x.2 0)) (some (0,x.2)) (l7 (D8 (x9 .i64 (H9 .i64 (x9 .i64 A (eH .i64 B 1000000)) (x9 .i64 (eU (x9 .i64 A (eH .i64 B 1000000)) 2) 2)) x.1) (-1000000000000000)) (some (0,3)) (l7 (D8 1000000000000000 (x9 .i64 (H9 .i64 (x9 .i64 A (eH .i64 B 1000000)) (x9 .i64 (eU (x9 .i64 A (eH .i64 B 1000000)) 2) 2)) x.1)) (some (0,3)) (some (x9 .i64 (H9 .i64 (x9 .i64 A (eH .i64 B 1000000)) (x9 .i64 (eU (x9 .i64 A (eH .i64 B 1000000)) 2) 2)) x.1,0))))) (l7 (D8 (x9 .i64 A (eH .i64 B 1000000)) (-1)) (o5 (jQ (x9 .i64 (Z4 .i64 (H9 .i64 (eU (x9 .i64 A (eH .i64 B 1000000)) 2) 2) 1000000) (eU B 1000000)) 1000000 C) λx=>l7 (D6 (x8 x.2 0)) (some (0,x.2)) (l7 (D8 (x9 .i64 (H9 .i64 (x9 .i64 A (eH .i64 B 1000000)) (H9 .i64 (eU (x9 .i64 A (eH .i64 B 1000000)) 2) 2)) x.1) (-1000000000000000)) (some (0,3)) (l7 (D8 1000000000000000 (x9 .i64 (H9 .i64 (x9 .i64 A (eH .i64 B 1000000)) (H9 .i64 (eU (x9 .i64 A (eH .i64 B 1000000)) 2) 2)) x.1)) (some (0,3)) (some (x9 .i64 (H9 .i64 (x9 .i64 A (eH .i64 B 1000000)) (H9 .i64 (eU (x9 .i64 A (eH .i64 B 1000000)) 2) 2)) x.1,0))))) (o5 (jQ (x9 .i64 (Z4 .i64 (eU (x9 .i64 A (eH .i64 B 1000000)) 2) 1000000) (eU B 1000000)) 1000000 C) λx=>l7 (D6 (x8 x.2 0)) (some (0,x.2)) (l7 (D8 (x9 .i64 (H9 .i64 (x9 .i64 A (eH .i64 B 1000000)) (eU (x9 .i64 A (eH .i64 B 1000000)) 2)) x.1) (-1000000000000000)) (some (0,3)) (l7 (D8 1000000000000000 (x9 .i64 (H9 .i64 (x9 .i64 A (eH .i64 B 1000000)) (eU (x9 .i64 A (eH .i64 B 1000000)) 2)) x.1)) (some (0,3)) (some (x9 .i64 (H9 .i64 (x9 .i64 A (eH .i64 B 1000000)) (eU (x9 .i64 A (eH .i64 B 1000000)) 2)) x.1,0))))))))
def c9L:FQ:=⟨[G7,G7,G7],⟨[(.tmp 6,G7),(.tmp 7,G7)],[]⟩,mE 60 [(391,b5x)],F6⟩
def d3y:FSpec:=Y0 c9L λx=>Et x.1 x.2.1 x.2.2
def Eo(A:dC)(B:Int)(C:Int)(D:Int):Option I9:=o5 (l7 (D8 D 0) (some (.inr (0,1))) (l7 (D8 5 D) (some (.inr (0,1))) (some (.inl ())))) λo=>V5 o (λx=>o5 (l7 (D6 (U6 (x8 A.2.1.1 3) (x8 A.2.1.2 0))) (some (.inr (0,8))) (l7 (D6 (U6 (x8 A.2.2.1.1 4) (x8 A.2.2.1.2 0))) (some (.inr (0,8))) (some (.inl ())))) λo=>V5 o (λx=>o5 (l7 (D8 C (-1000000000000000)) (some (.inr (0,3))) (l7 (D8 1000000000000000 C) (some (.inr (0,3))) (some (.inl ())))) λo=>V5 o (λx=>o5 (U0 (λ(x:J3)=>l7 (D8 x.2.2 (o9 A.2.2.2)) (o5 (G8 A.2.2.2 x.2.2) λb=>o5 (og b.1 B) λd=>l7 (D6 d) (some (.nx (x.1,x.2.1,x9 .i64 x.2.2 1))) (l7 (J6 (qj b.2.2.1 C) (nT b.2.1 0)) (some (.nx (x.1,x.2.1,x9 .i64 x.2.2 1))) (o5 (xC (H9 .i64 (qj b.2.2.1 C) (nT b.2.1 0)) b.2.2.2) λc=>l7 (D6 c.2.2) (some (.rt (0,3))) (some (.nx (x9 .i64 x.1 c.1,x9 .i64 x.2.1 c.2.1,x9 .i64 x.2.2 1)))))) (some (.ex (x.1,x.2.1)))) (0,0,0)) λo=>V5 o (λ(y:I9)=>o5 (Et y.1 y.2 D) λx=>some x) λr=>some r) λr=>some r) λr=>some r) λr=>some r
def c9q:FQ:=⟨[tD y8,G7,G7,G7],⟨[(.tmp 8,G7),(.tmp 9,G7)],[]⟩,mE 90 [(274,b8F),(369,d3x),(370,d3y)],sN 1 (Y3 (jnR [(8,10),(19,25)] nZ F6) (Y3 (jnR [(8,10),(25,35)] nZ F6) (Y3 (jnR [(8,10),(35,41)] nZ F6) (sN 1 (Y3 (sN 1 (dE (qm [(8,12),(13,19),(44,84)] ⟨[(10,G7),(11,G7),(44,G7)],[]⟩ 0 ⟨[(10,G7),(11,G7)],[]⟩ F6))) F6)))))⟩
def d3k:FSpec:=Y0 c9q λx=>Eo x.1 x.2.1 x.2.2.1 x.2.2.2
def rM(A:Bool):Option J3:=l7 A (some (1,0,1)) (some (1,0,0))
def c9M:FQ:=⟨[eF],cR 2 51 (tD y3),mE 6 [],F6⟩
def c1z:FSpec:=Y0 c9M λx=>rM x
def wZ(A:Int):d6b:=l7 (J6 0 A) (some (J6 A 109572)) (some false)
def c7s:FQ:=⟨[G7],tR 2 eF,mE 9 [],F6⟩
def b5h:FSpec:=Y0 c7s λx=>wZ x
def yQ(A:Int):d6c:=some (x9 .i64 (H9 .i64 (eH .i64 A 4) (eH .i64 A 100)) (eH .i64 A 400))
def c8g:FQ:=⟨[G7],tR 2 G7,mE 11 [],F6⟩
def d2r:FSpec:=Y0 c8g λx=>yQ x
def rJ(A:Int):d6c:=o5 (yQ (H9 .i64 A 1)) λx=>o5 (yQ 1899) λb=>some (H9 .i64 (x9 .i64 (Z4 .i64 (H9 .i64 A 1900) 365) x) b)
def c7R:FQ:=⟨[G7],tR 2 G7,mE 12 [(263,d2r)],F6⟩
def c1j:FSpec:=Y0 c7R λx=>rJ x
def JD(A:Int):d6b:=l7 (x8 (eU A 4) 0) (l7 (D6 (x8 (eU A 100) 0)) (some true) (some (x8 (eU A 400) 0))) (some false)
def c8h:FQ:=⟨[G7],tR 2 eF,mE 16 [],F6⟩
def d2s:FSpec:=Y0 c8h λx=>JD x
def jW(A:Int)(B:Int):d6c:=l7 (D8 B 1) (some 0) (l7 (D8 12 B) (some 0) (l7 (x8 B 2) (o5 (JD A) λx=>l7 x (some 29) (o5 (G8 [31,28,31,30,31,30,31,31,30,31,30,31] (H9 .i64 B 1)) λx=>some x)) (o5 (G8 [31,28,31,30,31,30,31,31,30,31,30,31] (H9 .i64 B 1)) λx=>some x)))
def c7S:FQ:=⟨[G7,G7],tR 4 G7,mE 21 [(264,d2s)],F6⟩
def b8C:FSpec:=Y0 c7S λx=>jW x.1 x.2
def wY(A:Int):Option J3:=o5 (wZ A) λx=>l7 (D6 x) (some (0,0,0)) (o5 (Y8 (λ(x:Int)=>o5 (rJ (x9 .i64 x 1)) λb=>l7 (J6 b A) (some (.inl (x9 .i64 x 1))) (some (.inr x))) (x9 .i64 1900 (eH .i64 A 366))) λy=>o5 (rJ y) λx=>o5 (U0 (λ(x:I9)=>l7 (D8 x.2 12) (o5 (jW y (x9 .i64 x.2 1)) λb=>l7 (D8 x.1 b) (some (.rt (y,x9 .i64 x.2 1,x9 .i64 x.1 1))) (some (.nx (H9 .i64 x.1 b,x9 .i64 x.2 1)))) (some (.ex ()))) (H9 .i64 A x,0)) λo=>V5 o (λy=>some (0,0,0)) λr=>some r)
def c7t:FQ:=⟨[G7],⟨[(.tmp 2,G7),(.tmp 3,G7),(.tmp 4,G7)],[]⟩,mE 45 [(191,b5h),(229,c1j),(230,b8C)],sN 3 (Y3 (dE (.loop [(5,6),(15,22)] ⟨[(5,G7)],[]⟩ 0 ⟨[(5,G7)],[]⟩ F6)) (sN 1 (Y3 (sN 1 (dE (qm [(2,5),(6,9),(26,45)] ⟨[(6,G7),(26,G7)],[]⟩ 2 nZ F6))) F6)))⟩
def b5i:FSpec:=Y0 c7t λx=>wY x
def IP(A:Int)(B:J3):Option J3:=l7 (x8 A 10) (some (B.1,0,H9 .i64 0 B.2.2)) (l7 (x8 A 25) (o5 (rM (x8 B.2.2 0)) λx=>some x) (o5 (wY B.2.2) λx=>l7 (x8 A 31) (some (2,0,x.1)) (some (2,0,x.2.1))))
def c9r:FQ:=⟨[G7,tD y3],cR 4 51 (tD y3),mE 36 [(371,c1z),(192,b5i)],F6⟩
def d3l:FSpec:=Y0 c9r λx=>IP x.1 x.2
def zN(A:Int)(B:Int):Option I9:=o5 (vI (wrap .u64 (nT A (H9 .i64 0 A))) (wrap .u64 (nT B (H9 .i64 0 B)))) λx=>l7 (D6 (x8 x.1 0)) (some (0,3)) (l7 (D8 1000000000000000 x.2) (some (0,3)) (l7 (D6 (jG (D8 A 0) (D8 B 0))) (some (H9 .i64 0 (wrap .i64 x.2),0)) (some (wrap .i64 x.2,0))))
def d0h:FQ:=⟨[G7,G7],⟨[(.tmp 4,G7),(.tmp 5,G7)],[]⟩,mE 38 [(133,b4Z)],F6⟩
def d3L:FSpec:=Y0 d0h λx=>zN x.1 x.2
def Ho(A:Int)(B:Int)(C:Int)(D:Int):Option I9:=o5 (tN D) λx=>l7 (D6 x) (some (0,1)) (l7 (x8 C 0) (some (0,12)) (o5 (o5 (lG A 1000000000000000) λx=>l7 x (some (.inr (0,3))) (o5 (lG B 1000000000) λx=>l7 x (some (.inr (0,3))) (o5 (lG C 1000000000) λx=>l7 x (some (.inr (0,3))) (some (.inl ()))))) λo=>V5 o (λx=>o5 (nH A) λx=>o5 (nH B) λc=>o5 (vI x c) λx=>o5 (nH C) λb=>l7 (J6 b x.1) (some (0,3)) (o5 (nG x.1 x.2 b) λx=>l7 (D8 1000000000000000 x.1) (some (0,3)) (o5 (oZ x.1 x.2 b (D6 (jG (D6 (jG (D8 A 0) (D8 B 0))) (D8 C 0))) D) λx=>l7 (D8 1000000000000000 x) (some (0,3)) (o5 (DR x (D6 (jG (D6 (jG (D8 A 0) (D8 B 0))) (D8 C 0)))) λx=>some (x,0))))) λr=>some r))
def d0B:FQ:=⟨[G7,G7,G7,G7],⟨[(.tmp 8,G7),(.tmp 9,G7)],[]⟩,mE 72 [(408,b8O),(64,s64),(409,c1I),(133,b4Z),(390,b8M),(410,c1J),(411,c1K)],sN 3 (Y3 (jnR [(8,10),(21,31)] nZ F6) F6)⟩
def d3V:FSpec:=Y0 d0B λx=>Ho x.1 x.2.1 x.2.2.1 x.2.2.2
def Jf(A:Int)(B:Int)(C:Int):Option I9:=o5 (Ho A B 1000000 C) λx=>some x
def d0i:FQ:=⟨[G7,G7,G7],⟨[(.tmp 6,G7),(.tmp 7,G7)],[]⟩,mE 14 [(412,d3V)],F6⟩
def d3M:FSpec:=Y0 d0i λx=>Jf x.1 x.2.1 x.2.2
def DX(A:Int):d6b:=l7 (J6 0 A) (some (J6 A 5)) (some false)
def d0C:FQ:=⟨[G7],tR 2 eF,mE 9 [],F6⟩
def c1M:FSpec:=Y0 d0C λx=>DX x
def zg(A:Int)(B:Int):d6b:=l7 (D8 B A) (some true) (some (D8 A (H9 .i64 0 B)))
def d0D:FQ:=⟨[G7,G7],tR 4 eF,mE 14 [],F6⟩
def c1N:FSpec:=Y0 d0D λx=>zg x.1 x.2
def PK(A:Int)(B:Int)(C:Int):Option I9:=o5 (DX C) λx=>l7 (D6 x) (some (0,1)) (o5 (zg A 1000000000) λx=>l7 x (some (0,3)) (o5 (zg B 1000000000) λx=>l7 x (some (0,3)) (o5 (jQ (Z4 .i64 A B) 1000000 C) λx=>l7 (D6 (x8 x.2 0)) (some (0,x.2)) (o5 (zg x.1 1000000000) λb=>l7 b (some (0,3)) (some (x.1,0))))))
def d0j:FQ:=⟨[G7,G7,G7],⟨[(.tmp 6,G7),(.tmp 7,G7)],[]⟩,mE 33 [(413,c1M),(414,c1N),(391,b5x)],F6⟩
def d3N:FSpec:=Y0 d0j λx=>PK x.1 x.2.1 x.2.2
def AY(A:Int)(B:Int)(C:Int):Option I9:=o5 (tN C) λx=>l7 (D6 x) (some (0,1)) (l7 (D8 B 1) (some (0,12)) (o5 (lG A 1000000000000000) λx=>l7 x (some (0,3)) (l7 (D8 1000000000000000 B) (some (0,3)) (o5 (jQ A B C) λx=>l7 (D6 (x8 x.2 0)) (some (0,x.2)) (o5 (lG (Z4 .i64 x.1 B) 1000000000000000) λb=>l7 b (some (0,3)) (some (Z4 .i64 x.1 B,0)))))))
def d0k:FQ:=⟨[G7,G7,G7],⟨[(.tmp 6,G7),(.tmp 7,G7)],[]⟩,mE 38 [(408,b8O),(64,s64),(391,b5x)],F6⟩
def d3O:FSpec:=Y0 d0k λx=>AY x.1 x.2.1 x.2.2
def FC(A:Int)(B:Int)(C:Int)(D:Bool)(E:Int):d6b:=l7 (x8 B 0) (some false) (l7 (x8 E 0) (some D) (l7 (x8 E 1) (some (D6 D)) (l7 (x8 E 3) (some true) (l7 (x8 E 4) (some (J6 (H9 .u64 C B) B)) (l7 (x8 E 5) (l7 (D8 (H9 .u64 C B) B) (some true) (l7 (x8 B (H9 .u64 C B)) (some (x8 (eU A 2) 1)) (some false))) (some false))))))
def d0E:FQ:=⟨[(false,(dT (.int .u64))),(false,(dT (.int .u64))),(false,(dT (.int .u64))),eF,G7],tR 10 eF,mE 49 [],F6⟩
def d3W:FSpec:=Y0 d0E λx=>FC x.1 x.2.1 x.2.2.1 x.2.2.2.1 x.2.2.2.2
def zf(A:Int)(B:Int)(C:Int):Option I9:=o5 (DX C) λx=>l7 (D6 x) (some (0,1)) (l7 (x8 B 0) (some (0,12)) (o5 (zg A 1000000000000000) λx=>l7 x (some (0,3)) (o5 (zg B 1000000000000000) λx=>l7 x (some (0,3)) (o5 (vI (wrap .u64 (nT A (H9 .i64 0 A))) 1000000) λx=>l7 (J6 (wrap .u64 (nT B (H9 .i64 0 B))) x.1) (some (0,3)) (o5 (nG x.1 x.2 (wrap .u64 (nT B (H9 .i64 0 B)))) λx=>l7 (D8 1000000000 x.1) (some (0,3)) (o5 (FC x.1 x.2 (wrap .u64 (nT B (H9 .i64 0 B))) (D6 (jG (D8 A 0) (D8 B 0))) C) λb=>l7 b (l7 (D8 1000000000 (x9 .i64 (wrap .i64 x.1) 1)) (some (0,3)) (l7 (D6 (jG (D8 A 0) (D8 B 0))) (some (H9 .i64 0 (x9 .i64 (wrap .i64 x.1) 1),0)) (some (x9 .i64 (wrap .i64 x.1) 1,0)))) (l7 (D8 1000000000 (wrap .i64 x.1)) (some (0,3)) (l7 (D6 (jG (D8 A 0) (D8 B 0))) (some (H9 .i64 0 (wrap .i64 x.1),0)) (some (wrap .i64 x.1,0))))))))))
def d0l:FQ:=⟨[G7,G7,G7],⟨[(.tmp 6,G7),(.tmp 7,G7)],[]⟩,mE 73 [(413,c1M),(414,c1N),(133,b4Z),(390,b8M),(415,d3W)],F6⟩
def d3P:FSpec:=Y0 d0l λx=>zf x.1 x.2.1 x.2.2
def CO(A:I9)(B:J3)(C:J3):Option (J3×Int):=l7 (x8 A.1 13) (o5 (zN B.2.2 C.2.2) λx=>some ((B.1,0,x.1),x.2)) (o5 (l7 (x8 A.1 14) (some (x8 B.1 3)) (some false)) λx=>l7 x (o5 (Jf B.2.2 C.2.2 A.2) λx=>some ((B.1,0,x.1),x.2)) (l7 (x8 A.1 14) (o5 (PK B.2.2 C.2.2 A.2) λx=>some ((B.1,0,x.1),x.2)) (l7 (x8 A.1 16) (o5 (AY B.2.2 C.2.2 A.2) λx=>some ((B.1,0,x.1),x.2)) (l7 (x8 C.1 2) (o5 (jQ B.2.2 C.2.2 A.2) λx=>some ((B.1,0,x.1),x.2)) (o5 (zf B.2.2 C.2.2 A.2) λx=>some ((4,0,x.1),x.2))))))
def c9N:FQ:=⟨[tD y2,tD y3,tD y3],⟨[(.cell 6 51,tD y3),(.tmp 7,G7)],[]⟩,mE 105 [(392,d3L),(393,d3M),(394,d3N),(395,d3O),(391,b5x),(396,d3P)],sN 2 (Y3 (dE (sN 1 (.cond F6 (Y3 (.join [(38,47)] ⟨[(38,eF)],[]⟩ F6) F6)))) F6)⟩
def d3z:FSpec:=Y0 c9N λx=>CO x.1 x.2.1 x.2.2
def Hf(A:Int)(B:Int)(C:Int):Option I9:=o5 (l7 (D8 A 1900) (some (.inr (0,3))) (l7 (D8 2199 A) (some (.inr (0,3))) (l7 (D8 B 1) (some (.inr (0,3))) (l7 (D8 12 B) (some (.inr (0,3))) (l7 (D8 C 1) (some (.inr (0,3))) (o5 (jW A B) λx=>l7 (D8 x C) (some (.inr (0,3))) (some (.inl ())))))))) λo=>V5 o (λx=>o5 (rJ A) λx=>o5 (Y8 (λ(x:I9)=>l7 (D8 x.2 (H9 .i64 B 1)) (o5 (jW A (x9 .i64 x.2 1)) λb=>some (.inl (x9 .i64 x.1 b,x9 .i64 x.2 1))) (some (.inr x.1))) (x,0)) λy=>some (H9 .i64 (x9 .i64 y C) 1,0)) λr=>some r
def d0m:FQ:=⟨[G7,G7,G7],⟨[(.tmp 6,G7),(.tmp 7,G7)],[]⟩,mE 53 [(230,b8C),(229,c1j)],sN 1 (Y3 (jnR [(6,8),(10,35)] nZ F6) (sN 1 (Y3 (sN 1 (dE (.loop [(8,10),(39,49)] ⟨[(8,G7),(39,G7)],[]⟩ 0 ⟨[(8,G7)],[]⟩ F6))) F6)))⟩
def d3Q:FSpec:=Y0 d0m λx=>Hf x.1 x.2.1 x.2.2
def vN(A:Int)(B:Int):Option I9:=o5 (o5 (wZ A) λx=>l7 (D6 x) (some (.inr (0,3))) (l7 (D8 B (-3600)) (some (.inr (0,3))) (l7 (D8 3600 B) (some (.inr (0,3))) (some (.inl ()))))) λo=>V5 o (λx=>o5 (wY A) λx=>l7 (D8 (x9 .i64 (H9 .i64 (x9 .i64 (Z4 .i64 (H9 .i64 x.1 1900) 12) x.2.1) 1) B) 0) (some (0,3)) (l7 (D8 3599 (x9 .i64 (H9 .i64 (x9 .i64 (Z4 .i64 (H9 .i64 x.1 1900) 12) x.2.1) 1) B)) (some (0,3)) (o5 (jW (x9 .i64 1900 (eH .i64 (x9 .i64 (H9 .i64 (x9 .i64 (Z4 .i64 (H9 .i64 x.1 1900) 12) x.2.1) 1) B) 12)) (x9 .i64 (eU (x9 .i64 (H9 .i64 (x9 .i64 (Z4 .i64 (H9 .i64 x.1 1900) 12) x.2.1) 1) B) 12) 1)) λb=>o5 (Hf (x9 .i64 1900 (eH .i64 (x9 .i64 (H9 .i64 (x9 .i64 (Z4 .i64 (H9 .i64 x.1 1900) 12) x.2.1) 1) B) 12)) (x9 .i64 (eU (x9 .i64 (H9 .i64 (x9 .i64 (Z4 .i64 (H9 .i64 x.1 1900) 12) x.2.1) 1) B) 12) 1) (qj x.2.2 b)) λx=>some x))) λr=>some r
def c9O:FQ:=⟨[G7,G7],⟨[(.tmp 4,G7),(.tmp 5,G7)],[]⟩,mE 57 [(191,b5h),(192,b5i),(230,b8C),(397,d3Q)],sN 1 (Y3 (jnR [(4,6),(10,21)] nZ F6) F6)⟩
def c1A:FSpec:=Y0 c9O λx=>vN x.1 x.2
def pM(A:Int)(B:Int):d6c:=o5 (wZ A) λx=>l7 (D6 x) (some 0) (o5 (wZ B) λx=>l7 (D6 x) (some 0) (l7 (D8 B A) (some 0) (o5 (wY A) λx=>o5 (wY B) λb=>o5 (vN A (Z4 .i64 12 (H9 .i64 b.1 x.1))) λc=>l7 (D6 (x8 c.2 0)) (some (nT (H9 .i64 (H9 .i64 b.1 x.1) 1) 0)) (l7 (D8 B c.1) (some (nT (H9 .i64 (H9 .i64 b.1 x.1) 1) 0)) (some (nT (H9 .i64 b.1 x.1) 0))))))
def c9P:FQ:=⟨[G7,G7],tR 4 G7,mE 60 [(191,b5h),(192,b5i),(373,c1A)],F6⟩
def d3A:FSpec:=Y0 c9P λx=>pM x.1 x.2
def kP(A:I9)(B:J3)(C:J3):Option (J3×Int):=o5 (o5 (l7 (x8 A.1 11) (some (x8 A.1 11)) (some (x8 A.1 27))) λx=>l7 x (some (.inr ((B.1,0,x9 .i64 B.2.2 C.2.2),0))) (l7 (x8 A.1 12) (some (.inr ((B.1,0,H9 .i64 B.2.2 C.2.2),0))) (o5 (l7 (x8 A.1 13) (some (x8 A.1 13)) (l7 (x8 A.1 14) (some (x8 A.1 14)) (l7 (x8 A.1 15) (some (x8 A.1 15)) (some (x8 A.1 16))))) λx=>l7 x (o5 (CO A B C) λx=>some (.inr x)) (o5 (l7 (x8 A.1 17) (some (x8 A.1 17)) (some (x8 A.1 18))) λx=>l7 x (l7 (jG (x8 A.1 17) (D8 C.2.2 B.2.2)) (some (.inr (C,0))) (some (.inr (B,0)))) (l7 (x8 A.1 19) (o5 (rM (x8 B.2.2 C.2.2)) λx=>some (.inr (x,0))) (l7 (x8 A.1 20) (o5 (rM (D6 (x8 B.2.2 C.2.2))) λx=>some (.inr (x,0))) (l7 (x8 A.1 21) (o5 (rM (D8 B.2.2 C.2.2)) λx=>some (.inr (x,0))) (l7 (x8 A.1 22) (o5 (rM (J6 B.2.2 C.2.2)) λx=>some (.inr (x,0))) (l7 (x8 A.1 23) (l7 (x8 B.2.2 1) (o5 (rM (x8 C.2.2 1)) λx=>some (.inr (x,0))) (o5 (rM false) λx=>some (.inr (x,0)))) (l7 (x8 A.1 24) (l7 (x8 B.2.2 1) (o5 (rM true) λx=>some (.inr (x,0))) (o5 (rM (x8 C.2.2 1)) λx=>some (.inr (x,0)))) (l7 (x8 A.1 28) (o5 (vN B.2.2 C.2.2) λx=>some (.inr ((5,0,x.1),x.2))) (l7 (x8 A.1 29) (some (.inr ((2,0,H9 .i64 C.2.2 B.2.2),0))) (some (.inl (0,0,0))))))))))))))) λo=>V5 o (λ(x:J3)=>o5 (pM B.2.2 C.2.2) λx=>some ((2,0,x),0)) λr=>some r
def c9s:FQ:=⟨[tD y2,tD y3,tD y3],⟨[(.cell 6 51,tD y3),(.tmp 7,G7)],[]⟩,mE 139 [(372,d3z),(371,c1z),(373,c1A),(374,d3A)],sN 1 (Y3 (jnR [(6,133),(4000384,4000385)] ⟨[(6,(false,(.box (dT y3))))],[]⟩ (sN 1 (dE (Y3 (.join [(12,15)] ⟨[(12,eF)],[]⟩ F6) (.cond F6 (sN 1 (.cond F6 (Y3 (.join [(33,38)] ⟨[(33,eF)],[]⟩ F6) (.cond F6 (Y3 (.join [(44,47)] ⟨[(44,eF)],[]⟩ F6) F6)))))))))) F6)⟩
def d3m:FSpec:=Y0 c9s λx=>kP x.1 x.2.1 x.2.2
def ak(A:I9)(B:List J3)(C:dJ):Option (J3×Int):=o5 (o5 (l7 (x8 A.1 1) (some (x8 A.1 1)) (l7 (x8 A.1 2) (some (x8 A.1 2)) (l7 (x8 A.1 3) (some (x8 A.1 3)) (l7 (x8 A.1 4) (some (x8 A.1 4)) (some (x8 A.1 5)))))) λx=>l7 x (some (.inr ((A.1,0,A.2),0))) (l7 (x8 A.1 6) (some (.inr ((6,eH .i64 A.2 16,eU A.2 16),0))) (l7 (x8 A.1 7) (o5 (G8 C.2.1 A.2) λx=>some (.inr (x,0))) (l7 (x8 A.1 8) (o5 (G8 C.2.2.1 A.2) λx=>some (.inr (x,0))) (l7 (x8 A.1 9) (some (.inr ((5,0,C.1),0))) (l7 (x8 A.1 35) (some (.inr ((2,0,o9 C.2.2.2.1),0))) (o5 (l7 (x8 A.1 36) (some (x8 A.1 36)) (l7 (x8 A.1 37) (some (x8 A.1 37)) (l7 (x8 A.1 38) (some (x8 A.1 38)) (some (x8 A.1 39))))) λx=>l7 x (o5 (vP A C) λx=>some (.inr x)) (l7 (x8 A.1 33) (o5 (G8 C.2.2.2.2.2 A.2) λx=>o5 (G8 B 0) λb=>o5 (Iq x C.1 b.2.2) λc=>l7 (D6 c.2) (some (.inr ((0,0,0),6))) (o5 (G8 x.2.2.2 c.1) λd=>some (.inr ((x.2.2.1.1,x.2.2.1.2,d.2.2.2),0)))) (l7 (x8 A.1 34) (o5 (G8 C.2.2.2.2.2 (eH .i64 A.2 8)) λx=>o5 (G8 B 0) λb=>o5 (Eo x C.1 b.2.2 (eU A.2 8)) λx=>some (.inr ((3,0,x.1),x.2))) (some (.inl (0,0,0)))))))))))) λo=>V5 o (λ(x:J3)=>l7 (x8 (o9 B) 1) (o5 (G8 B 0) λx=>o5 (IP A.1 x) λx=>some (x,0)) (l7 (x8 (o9 B) 2) (o5 (G8 B 0) λx=>o5 (G8 B 1) λb=>o5 (kP A x b) λx=>some x) (o5 (G8 B 0) λx=>l7 (x8 x.2.2 1) (o5 (G8 B 1) λx=>some (x,0)) (o5 (G8 B 2) λx=>some (x,0))))) λr=>some r
def c8Q:FQ:=⟨[tD y2,uD y29,tD y62],⟨[(.cell 6 51,tD y3),(.tmp 7,G7)],[]⟩,mE 165 [(344,d3i),(345,d3j),(346,d3k),(347,d3l),(348,d3m)],sN 1 (Y3 (jnR [(6,132),(4000384,4000385)] ⟨[(6,(false,(.box (dT y3))))],[]⟩ (sN 1 (dE (Y3 (.join [(15,21)] ⟨[(15,eF)],[]⟩ F6) (.cond F6 (sN 1 (.cond F6 (sN 1 (.cond F6 (sN 1 (.cond F6 (sN 1 (.cond F6 (sN 1 (.cond F6 (Y3 (.join [(62,67)] ⟨[(62,eF)],[]⟩ F6) F6)))))))))))))))) F6)⟩
def d2U:FSpec:=Y0 c8Q λx=>ak x.1 x.2.1 x.2.2
def BX(A:I9)(B:List J3)(C:dJ):Option (J3×Int):=o5 (o5 (tH A) λx=>l7 (D6 x) (some (.inr ((0,0,0),2))) (o5 (qg A.1) λx=>l7 (D6 (x8 (o9 B) x)) (some (.inr ((0,0,0),2))) (some (.inl (0,0,0))))) λo=>V5 o (λ(x:J3)=>o5 (jJ A C) λx=>l7 (D6 x) (some ((0,0,0),6)) (o5 (yA B) λx=>l7 (D6 x) (some ((0,0,0),8)) (o5 (aj A B C) λx=>l7 (D6 x) (some ((0,0,0),8)) (o5 (ak A B C) λx=>l7 (D6 (x8 x.2 0)) (some ((0,0,0),x.2)) (o5 (iK x.1) λb=>l7 (D6 b) (some ((0,0,0),3)) (some (x.1,0))))))) λr=>some r
def c8r:FQ:=⟨[tD y2,uD y29,tD y62],⟨[(.cell 6 51,tD y3),(.tmp 7,G7)],[]⟩,mE 54 [(310,d2Q),(268,b1M),(311,d2R),(312,d2S),(313,d2T),(314,d2U),(315,a7M)],sN 1 (Y3 (jnR [(6,8),(10,22),(4000384,4000385)] ⟨[(6,(false,(.box (dT y3))))],[]⟩ F6) F6)⟩
def d2x:FSpec:=Y0 c8r λx=>BX x.1 x.2.1 x.2.2
def b4b:List MG:=[(true,(.dat y78)),G7]
def a1v:List MG:=[(true,(.dat y78)),G7]
def b3Z:List MG:=[(true,(.dat y78)),(true,(.dat y2)),(false,(.dat qK))]
def d0K:Ret:=⟨[(.cell 4 51,(true,(.dat y3))),(.tmp 5,G7)],[]⟩
def d5F (r309:M.den (.dat y78)->M.den diM->Option (bC ([(true,(.dat y3)),G7]++[]))) (r242:M.den (.dat y78)->M.den diM->Option (bC ([(true,(.dat y3)),G7]++[]))) (r279:M.den (.dat y78)->M.den (.dat y2)->M.den (.dat qK)->Option (bC ([(true,(.dat y3)),G7]++[]))):Env:=⟨28,eqs,tt,gl,[(242,⟨a1v,[(true,(.dat y3)),G7],[],λx=>r242 x.1 x.2⟩),(315,a7M)],[],[],[],[],[],[]⟩
def c5H:Ann:=.leaf
def qL(r309:aI->Int->Option (J3×Int))(r242:aI->Int->Option (J3×Int))(r279:aI->I9->d5Y->Option (J3×Int))(A:aI)(B:Int):Option (J3×Int):=o5 (r242 A B) λx=>l7 (D6 (x8 x.2 0)) (some ((0,0,0),x.2)) (l7 (D6 (x8 x.1.1 1)) (some ((0,0,0),8)) (o5 (iK x.1) λb=>l7 (D6 b) (some ((0,0,0),8)) (some (x.1,0))))
def b9M:Ret:=⟨[(.cell 4 51,(true,(.dat y3))),(.tmp 5,G7)],[]⟩
def d5A (r309:M.den (.dat y78)->M.den diM->Option (bC ([(true,(.dat y3)),G7]++[]))) (r242:M.den (.dat y78)->M.den diM->Option (bC ([(true,(.dat y3)),G7]++[]))) (r279:M.den (.dat y78)->M.den (.dat y2)->M.den (.dat qK)->Option (bC ([(true,(.dat y3)),G7]++[]))):Env:=⟨65,eqs,tt,gl,[(278,d2w),(279,⟨b3Z,[(true,(.dat y3)),G7],[],λx=>r279 x.1 x.2.1 x.2.2⟩),(242,⟨a1v,[(true,(.dat y3)),G7],[],λx=>r242 x.1 x.2⟩),(280,d2x)],[],[],[],[],[],[]⟩
def c5B:Ann:=.seq F6 (.seq F6 (.seq F6 (.seq (.joinR [(4,6),(21,33),(4000256,4000257)] ⟨[(4,(false,(.box (.dat y3))))],[]⟩ F6) (.seq F6 (.seq (.seq F6 (.blk (.loopR [(4,6),(8,13),(38,58),(12000000,12000001),(37002240,37002241)] ⟨[(4,(false,(.box (.dat y3)))),(8,(false,(.own y3))),(38,G7)],[]⟩ 1 ⟨[(4,(false,(.box (.dat y3)))),(8,(false,(.own y3)))],[]⟩ F6))) F6)))))
def uK(r309:aI->Int->Option (J3×Int))(r242:aI->Int->Option (J3×Int))(r279:aI->I9->d5Y->Option (J3×Int))(A:aI)(B:Int):Option (J3×Int):=o5 (G8 A.1 B) λx=>o5 (lT A B) λb=>o5 (l7 (x8 x.1 23) (l7 (x8 x.1 23) (o5 (r279 A x b) λx=>some (.inr x)) (some (.inl (0,0,0)))) (l7 (x8 x.1 24) (l7 (x8 x.1 24) (o5 (r279 A x b) λx=>some (.inr x)) (some (.inl (0,0,0)))) (l7 (x8 x.1 26) (o5 (r279 A x b) λx=>some (.inr x)) (some (.inl (0,0,0)))))) λo=>V5 o (λ(d:J3)=>o5 (qo (o9 b) (0,0,0)) λf=>o5 (U0 (λ(x:J3×List J3×Int)=>l7 (D8 x.2.2 (o9 b)) (o5 (G8 b x.2.2) λi=>o5 (P7 b (U8 x.2.2)) λg=>o5 (r242 A g) λc=>l7 (D6 (x8 c.2 0)) (some (.rt ((0,0,0),c.2))) (o5 (G8 x.2.1 x.2.2) λj=>o5 (P7 x.2.1 (U8 x.2.2)) λk=>some (.nx (x.1,aW x.2.1 (U8 x.2.2) c.1,x9 .i64 x.2.2 1)))) (some (.ex (x.1,x.2.1)))) (d,f,0)) λo=>V5 o (λ(y:J3×List J3)=>o5 (BX x y.2 A.2.2) λx=>some x) λr=>some r) λr=>some r
def d0I:Ret:=⟨[(.cell 6 51,(true,(.dat y3))),(.tmp 7,G7)],[]⟩
def d5C (r309:M.den (.dat y78)->M.den diM->Option (bC ([(true,(.dat y3)),G7]++[]))) (r242:M.den (.dat y78)->M.den diM->Option (bC ([(true,(.dat y3)),G7]++[]))) (r279:M.den (.dat y78)->M.den (.dat y2)->M.den (.dat qK)->Option (bC ([(true,(.dat y3)),G7]++[]))):Env:=⟨69,eqs,tt,gl,[(309,⟨b4b,[(true,(.dat y3)),G7],[],λx=>r309 x.1 x.2⟩),(242,⟨a1v,[(true,(.dat y3)),G7],[],λx=>r242 x.1 x.2⟩)],[],[],[],[],[],[]⟩
def c5E:Ann:=.seq F6 (.seq F6 (.seq F6 (.seq F6 (.seq (.blk (.seq (.join [(26,35)] ⟨[(26,eF)],[]⟩ F6) F6)) F6))))
def oC(r309:aI->Int->Option (J3×Int))(r242:aI->Int->Option (J3×Int))(r279:aI->I9->d5Y->Option (J3×Int))(A:aI)(B:I9)(C:d5Y):Option (J3×Int):=l7 (D6 (x8 B.2 0)) (some ((0,0,0),2)) (o5 (G8 C 0) λx=>o5 (r309 A x) λx=>l7 (D6 (x8 x.2 0)) (some ((0,0,0),x.2)) (o5 (l7 (x8 B.1 26) (some (x8 x.1.2.2 1)) (some false)) λb=>l7 b (o5 (G8 C 1) λx=>o5 (r242 A x) λx=>some x) (l7 (x8 B.1 26) (o5 (G8 C 2) λx=>o5 (r242 A x) λx=>some x) (l7 (jG (x8 B.1 23) (x8 x.1.2.2 0)) (some (x.1,0)) (o5 (G8 C 1) λx=>o5 (r309 A x) λx=>some x)))))
def C9:Nat->(M.den (.dat y78)->M.den diM->Option (bC ([(true,(.dat y3)),G7]++[])))×(M.den (.dat y78)->M.den diM->Option (bC ([(true,(.dat y3)),G7]++[])))×(M.den (.dat y78)->M.den (.dat y2)->M.den (.dat qK)->Option (bC ([(true,(.dat y3)),G7]++[])))|0=>(λa0 a1=>none,λa0 a1=>none,λa0 a1 a2=>none)|n+1=>(λa0 a1=>qL (C9 n).1 (C9 n).2.1 (C9 n).2.2 a0 a1,λa0 a1=>uK (C9 n).1 (C9 n).2.1 (C9 n).2.2 a0 a1,λa0 a1 a2=>oC (C9 n).1 (C9 n).2.1 (C9 n).2.2 a0 a1 a2)
def Az:M.den (.dat y78)->M.den diM->Option (bC ([(true,(.dat y3)),G7]++[])):=λa0 a1=>(C9 kH).2.1 a0 a1
def d2l:FSpec:=mkS a1v b9M λx=>Az x.1 x.2
def Lm(A:List I9)(B:dJ):Option (J3×Int):=o5 (OU A) λx=>l7 (D6 (x8 x.2 0)) (some ((0,0,0),x.2)) (o5 (Az (A,x.1,B) (H9 .i64 (o9 A) 1)) λx=>some x)
def c7G:FQ:=⟨[uD y12,tD y62],⟨[(.cell 4 51,tD y3),(.tmp 5,G7)],[]⟩,mE 27 [(241,d2k),(242,d2l)],F6⟩
def c1g:FSpec:=Y0 c7G λx=>Lm x.1 x.2
def yI(A:d5Y)(B:d5Y):d6c:=l7 (D6 (x8 (o9 A) (o9 B))) (some 2) (l7 (D8 8 (o9 A)) (some 4) (o5 (U0 (λ(x:Int)=>l7 (D8 x (o9 A)) (o5 (G8 A x) λb=>l7 (D8 b (-1)) (some (.rt 9)) (l7 (J6 x b) (some (.rt 9)) (o5 (G8 B x) λc=>l7 (D8 c 0) (some (.rt 3)) (o5 (G8 B x) λd=>l7 (D8 9 d) (some (.rt 3)) (some (.nx (x9 .i64 x 1))))))) (some (.ex ()))) 0) λo=>V5 o (λy=>some 0) λr=>some r))
def c8n:FQ:=⟨[uD qK,uD qK],tR 4 G7,mE 42 [],sN 3 (Y3 (sN 1 (dE (qm [(4,7),(17,42)] ⟨[(17,G7)],[]⟩ 0 nZ F6))) F6)⟩
def d2u:FSpec:=Y0 c8n λx=>yI x.1 x.2
def uC(A:d5Y)(B:Int):Option d5Y:=o5 (Y8 (λ(x:d5Y×Int)=>l7 (D8 x.2 (o9 A)) (o5 (G8 A x.2) λb=>l7 (x8 b B) (o5 (bz x.1 [x.2]) λc=>some (.inl (c,x9 .i64 x.2 1))) (some (.inl (x.1,x9 .i64 x.2 1)))) (some (.inr x.1))) ([],0)) λy=>some y
def c9i:FQ:=⟨[uD qK,G7],tR 4 jc,mE 24 [],sN 2 (Y3 (sN 1 (dE (.loop [(5,8),(10,23)] ⟨[(5,jc),(10,G7)],[]⟩ 0 ⟨[(5,jc)],[]⟩ F6))) F6)⟩
def d3e:FSpec:=Y0 c9i λx=>uC x.1 x.2
def xB(A:lg)(B:Int):Option d5Y:=o5 (uC A.1 B) λx=>o5 (Y8 (λ(b:d5Y×Int)=>l7 (D8 b.2 (o9 x)) (o5 (G8 x b.2) λk=>o5 (P7 x (U8 b.2)) λx=>o5 (G8 A.2.2 x) λg=>l7 (x8 g (-1)) (some (.inl (b.1,x9 .i64 b.2 1))) (o5 (l7 (D8 0 (o9 b.1)) (o5 (G8 A.2.1 x) λx=>o5 (G8 b.1 0) λc=>o5 (P7 b.1 (U8 0)) λd=>o5 (G8 A.2.1 d) λf=>l7 (D8 f x) (l7 (pq 0 0 (o9 b.1)) (some (oU b.1 (U8 0) (U8 0))) none) (some b.1)) (some b.1)) λc=>l7 (x8 (o9 c) 0) (o5 (bz c [x]) λx=>some (.inl (x,x9 .i64 b.2 1))) (o5 (G8 A.2.1 x) λd=>o5 (G8 c 0) λf=>o5 (P7 c (U8 0)) λi=>o5 (G8 A.2.1 i) λj=>l7 (x8 d j) (o5 (bz c [x]) λx=>some (.inl (x,x9 .i64 b.2 1))) (some (.inl (c,x9 .i64 b.2 1)))))) (some (.inr b.1))) ([],0)) λy=>some y
def c8L:FQ:=⟨[tD y80,G7],tR 4 jc,mE 67 [(338,d3e)],sN 2 (Y3 (sN 1 (dE (.loop [(5,6),(7,8),(13,66)] ⟨[(5,jc),(13,G7)],[]⟩ 0 ⟨[(5,jc)],[]⟩ (sN 2 (Y3 (dE (sN 2 (Y3 (.join [(5,6),(23,43),(14000000,14000001)] ⟨[(5,jc)],[]⟩ F6) F6))) F6))))) F6)⟩
def d2P:FSpec:=Y0 c8L λx=>xB x.1 x.2
def jk(A:lg)(B:Int):d6c:=o5 (xB A B) λx=>l7 (x8 (o9 x) 0) (some (-1)) (l7 (x8 (o9 x) 1) (o5 (G8 x 0) λb=>o5 (P7 x (U8 0)) λx=>o5 (G8 A.2.2 x) λx=>some x) (some (-2)))
def c8p:FQ:=⟨[tD y80,G7],tR 4 G7,mE 22 [(308,d2P)],F6⟩
def c1n:FSpec:=Y0 c8p λx=>jk x.1 x.2
def yJ(A:d5Y)(B:d5Y)(C:List Bool):Option d5Y:=o5 (qo (o9 A) 0) λx=>o5 (Y8 (λ(x:lg×Int)=>l7 (J6 0 x.2) (o5 (jk x.1 x.2) λb=>o5 (G8 x.1.2.2 x.2) λf=>o5 (P7 x.1.2.2 (U8 x.2)) λg=>o5 (G8 (aW x.1.2.2 (U8 x.2) b) x.2) λi=>o5 (P7 (aW x.1.2.2 (U8 x.2) b) (U8 x.2)) λc=>l7 (x8 c (-1)) (o5 (G8 C x.2) λd=>l7 d (o5 (G8 (aW x.1.2.2 (U8 x.2) b) x.2) λj=>o5 (P7 (aW x.1.2.2 (U8 x.2) b) (U8 x.2)) λk=>some (.inl ((x.1.1,x.1.2.1,aW (aW x.1.2.2 (U8 x.2) b) (U8 x.2) x.2),H9 .i64 x.2 1))) (some (.inl ((x.1.1,x.1.2.1,aW x.1.2.2 (U8 x.2) b),H9 .i64 x.2 1)))) (some (.inl ((x.1.1,x.1.2.1,aW x.1.2.2 (U8 x.2) b),H9 .i64 x.2 1)))) (some (.inr x.1))) ((A,B,x),H9 .i64 (o9 A) 1)) λy=>some y.2.2
def c8o:FQ:=⟨[uD qK,uD qK,(uD (.sl .bool))],tR 6 jc,mE 48 [(277,c1n)],sN 2 (Y3 (sN 1 (dE (.loop [(7,9),(18,46),(7000448,7000449),(7000832,7000833)] ⟨[(7,(false,(.box (pA (dT qK) (pA (dT qK) oiM))))),(8,G7)],[]⟩ 0 ⟨[(7,(false,(.box (pA (dT qK) (pA (dT qK) oiM)))))],[]⟩ F6))) F6)⟩
def d2v:FSpec:=Y0 c8o λx=>yJ x.1 x.2.1 x.2.2
def BQ(A:d5Y)(B:d5Y)(C:List Bool):d6c:=o5 (yI A B) λx=>l7 (D6 (x8 x 0)) (some (-1)) (l7 (D6 (x8 (o9 C) (o9 A))) (some (-1)) (o5 (yJ A B C) λx=>o5 (jk (A,B,x) (-1)) λx=>some x))
def c7X:FQ:=⟨[uD qK,uD qK,(uD (.sl .bool))],tR 6 G7,mE 26 [(275,d2u),(276,d2v),(277,c1n)],F6⟩
def d2j:FSpec:=Y0 c7X λx=>BQ x.1 x.2.1 x.2.2
def BD(A:D7)(B:dJ)(C:Int)(D:Int):Option (Int×N9):=o5 (zJ A D B.1) λx=>o5 (qo (o9 x.1) false) λd=>o5 (U0 (λ(b:N9×List Bool×Int)=>l7 (D8 b.2.2 (o9 x.1)) (o5 (G8 x.1 b.2.2) λf=>o5 (P7 x.1 (U8 b.2.2)) λx=>o5 (G8 A.2.2.2.2 x) λg=>l7 (x8 (o9 g.2.2.2.2.2.1) 0) (o5 (G8 b.2.1 b.2.2) λx=>o5 (P7 b.2.1 (U8 b.2.2)) λx=>some (.nx (b.1,aW b.2.1 (U8 b.2.2) true,x9 .i64 b.2.2 1))) (o5 (G8 A.2.2.2.2 x) λi=>o5 (Lm i.2.2.2.2.2.1 B) λc=>l7 (D6 (x8 c.2 0)) (some (.rt (0,c.2,C,D,x))) (o5 (G8 b.2.1 b.2.2) λx=>o5 (P7 b.2.1 (U8 b.2.2)) λx=>some (.nx (b.1,aW b.2.1 (U8 b.2.2) (x8 c.1.2.2 1),x9 .i64 b.2.2 1))))) (some (.ex (b.1,b.2.1)))) ((0,0,0,0),d,0)) λo=>V5 o (λ(y:N9×List Bool)=>o5 (BQ x.2.1 x.2.2 y.2) λb=>l7 (D8 b 0) (some (b,0,0,0,0)) (o5 (G8 x.1 b) λf=>o5 (P7 x.1 (U8 b)) λx=>some (x,0,0,0,0))) λr=>some r
def c7F:FQ:=⟨[tD y24,tD y62,G7,G7],⟨[(.tmp 8,G7),(.cell 9 112,tD y42)],[]⟩,mE 87 [(239,d2i),(212,c1g),(240,d2j)],sN 3 (Y3 (sN 1 (dE (qm [(8,10),(13,18),(33,74),(4000576,4000577),(10001920,10001921)] ⟨[(9,(false,(.box (dT y42)))),(13,(uO .bool)),(33,G7)],[]⟩ 0 ⟨[(9,(false,(.box (dT y42)))),(13,(uO .bool))],[]⟩ F6))) F6)⟩
def d1W:FSpec:=Y0 c7F λx=>BD x.1 x.2.1 x.2.2.1 x.2.2.2
def jK(A:D7)(B:dJ)(C:Int)(D:List Bool):Option (d5Y×N9×dJ):=o5 (qo (o9 A.2.2.2.1) (0,0,0)) λx=>o5 (qo (o9 A.2.2.2.1) 0) λg=>o5 (ug A) λd=>o5 (U0 (λ(x:dJ×N9×d5Y×Int)=>l7 (D8 x.2.2.2 (o9 d.1)) (o5 (G8 d.1 x.2.2.2) λq=>o5 (P7 d.1 (U8 x.2.2.2)) λb=>o5 (G8 D b) λi=>l7 (D6 i) (some (.nx (x.1,x.2.1,x.2.2.1,x9 .i64 x.2.2.2 1))) (o5 (BD A x.1 C b) λc=>l7 (D6 (x8 c.2.1 0)) (some (.rt ([],c.2,x.1))) (l7 (x8 c.1 (-1)) (some (.rt ([],(10,C,b,-1),x.1))) (l7 (x8 c.1 (-2)) (some (.rt ([],(11,C,b,-1),x.1))) (o5 (G8 A.2.2.2.2 c.1) λj=>o5 (Lm j.2.2.2.2.2.2.1 x.1) λf=>l7 (D6 (x8 f.2 0)) (some (.rt ([],(f.2,C,b,c.1),x.1))) (o5 (G8 x.1.2.2.1 b) λt=>o5 (P7 x.1.2.2.1 (U8 b)) λk=>o5 (G8 x.2.2.1 b) λn=>o5 (P7 x.2.2.1 (U8 b)) λp=>some (.nx ((x.1.1,x.1.2.1,aW x.1.2.2.1 (U8 b) f.1,x.1.2.2.2),x.2.1,aW x.2.2.1 (U8 b) c.1,x9 .i64 x.2.2.2 1)))))))) (some (.ex (x.1,x.2.1,x.2.2.1)))) ((B.1,B.2.1,x,B.2.2.2),(0,0,0,0),g,0)) λo=>V5 o (λ(y:dJ×N9×d5Y)=>some (y.2.2,(0,0,0,0),y.1)) λr=>some r
def c6X:FQ:=⟨[tD y24,(false,(.box (pA diM (pA (dT y29) (pA (oW y3) (pA (dT y30) (pA (dT y12) (dT y9)))))))),G7,(uD (.sl .bool))],⟨[(.tmp 8,jc),(.cell 9 112,tD y42)],[(1,(true,(pA diM (pA (dT y29) (pA (oW y3) (pA (dT y30) (pA (dT y12) (dT y9))))))))]⟩,⟨105,eqs,tt,gl,[(210,d1V),(211,d1W),(212,c1g)],[],[],[],[1],[],[]⟩,sN 4 (Y3 (sN 1 (dE (qm [(1,2),(8,11),(14,19),(37,103),(1000000,1000001),(4000576,4000577),(7001472,7001473),(10001856,10001857)] ⟨[(1,(false,(.box (pA diM (pA (dT y29) (pA (oW y3) (pA (dT y30) (pA (dT y12) (dT y9))))))))),(9,(false,(.box (dT y42)))),(10,jc),(37,G7)],[]⟩ 0 ⟨[(1,(false,(.box (pA diM (pA (dT y29) (pA (oW y3) (pA (dT y30) (pA (dT y12) (dT y9))))))))),(9,(false,(.box (dT y42)))),(10,jc)],[]⟩ F6))) F6)⟩
def d1r:FSpec:=Y0 c6X λx=>jK x.1 x.2.1 x.2.2.1 x.2.2.2
def BB(A:U4)(B:Int)(C:fM)(D:cO):Option (Bv×dJ×N9×cO):=o5 (Y8 (λ(x:(Int×List J3×PUnit×PUnit×List I9×List dC)×Int)=>l7 (D8 x.2 (o9 D.2.1.2.2.2.1)) (o5 (G8 D.2.1.2.2.2.1 x.2) λc=>o5 (bz x.1.2.2.2.2.1 [c.2]) λb=>some (.inl ((x.1.1,x.1.2.1,(),(),b,x.1.2.2.2.2.2),x9 .i64 x.2 1))) (some (.inr (x.1.1,x.1.2.1,(),(),x.1.2.2.2.2)))) ((C.1,C.2.1,(),(),[],A.2.1),0)) λy=>o5 (U0 (λ(x:Bv×dJ×N9×(Int×List J3×PUnit×List (List J3)×List I9×List dC)×Bv×Int)=>l7 (D8 x.2.2.2.2.2 (o9 C.2.2)) (o5 (G8 C.2.2 x.2.2.2.2.2) λc=>o5 (jK D.2.1 (C.1,c,[],[],[],A.2.1) x.2.2.2.2.2 D.2.2.2) λb=>l7 (D6 (x8 b.2.1.1 0)) (some (.rt (([],[],[]),(0,[],[],[],[],[]),b.2.1,D))) (o5 (bz x.2.2.2.1.2.2.2.1 [b.2.2.2.2.1]) λd=>o5 (bz x.2.2.2.2.1.2.2 [(b.2.2.2.2.1,b.1)]) λf=>some (.nx (x.1,x.2.1,x.2.2.1,(x.2.2.2.1.1,x.2.2.2.1.2.1,(),d,x.2.2.2.1.2.2.2.2),(x.2.2.2.2.1.1,x.2.2.2.2.1.2.1,f),x9 .i64 x.2.2.2.2.2 1)))) (some (.ex (x.1,x.2.1,x.2.2.1,(x.2.2.2.1.1,x.2.2.2.1.2.1,(),x.2.2.2.1.2.2.2),x.2.2.2.2.1)))) (([],[],[]),(0,[],[],[],[],[]),(0,0,0,0),(y.1,y.2.1,(),[],y.2.2.2.2),([],[],[]),0)) λo=>V5 o (λ(y:Bv×dJ×N9×(Int×List J3×PUnit×List (List J3)×List I9×List dC)×Bv)=>o5 (jK D.1 (y.2.2.2.1.1,y.2.2.2.1.2.1,[],y.2.2.2.1.2.2.2) (-1) D.2.2.1) λx=>l7 (D6 (x8 x.2.1.1 0)) (some (([],[],[]),(0,[],[],[],[],[]),x.2.1,D)) (some ((x.2.2.2.2.1,x.1,y.2.2.2.2.2.2),x.2.2,(0,0,0,0),D))) λr=>some r
def q98:FQ:=⟨[tD y27,G7,tD y32,(false,(.box (pA (dT y24) (pA (dT y24) (pA (oW .bool) (oW .bool))))))],⟨[(.cell 8 175,tD y57),(.cell 9 178,tD y62),(.cell 10 112,tD y42)],[(3,(true,(pA (dT y24) (pA (dT y24) (pA (oW .bool) (oW .bool))))))]⟩,⟨123,eqs,tt,gl,[(161,d1r)],[],[],[],[3],[],[]⟩,sN 3 (Y3 (sN 1 (dE (.loop [(11,12),(14,15),(35,47),(7000704,7000705)] ⟨[(11,(false,(.box (pA diM (pA (dT y29) (pA (.cell (some none)) (pA (.cell (some none)) (pA (oW y2) (dT y9))))))))),(35,G7)],[]⟩ 0 ⟨[(11,(false,(.box (pA diM (pA (dT y29) (pA (.cell (some none)) (pA (.cell (some none)) (pA (oW y2) (dT y9)))))))))],[]⟩ F6))) (Y3 (sN 1 (dE (qm [(8,13),(15,20),(50,97),(4000512,4000513),(4000576,4000577),(4000640,4000641),(10000768,10000769),(18000000,18000002)] ⟨[(8,(false,(.box (dT y57)))),(9,(false,(.box (dT y62)))),(10,(false,(.box (dT y42)))),(11,(false,(.box (pA diM (pA (dT y29) (pA (.cell (some none)) (pA (oW y29) (pA (oW y2) (dT y9))))))))),(12,(false,(.box (pA (dT y29) (pA (dT qK) (oW y54)))))),(50,G7)],[]⟩ 2 ⟨[(8,(false,(.box (dT y57)))),(9,(false,(.box (dT y62)))),(10,(false,(.box (dT y42)))),(11,(false,(.box (pA diM (pA (dT y29) (pA (.cell (some none)) (pA (oW y29) (pA (oW y2) (dT y9))))))))),(12,(false,(.box (pA (dT y29) (pA (dT qK) (oW y54))))))],[]⟩ F6))) F6))⟩
def s98:FSpec:=Y0 q98 λx=>BB x.1 x.2.1 x.2.2.1 x.2.2.2
def Dy(A:U4)(B:Int)(C:fM)(D:Int):Option (J3×Int×N9):=o5 (sK A B C true D) λx=>l7 (D6 (x8 x.1 0)) (some ((0,0,0),0,x)) (o5 (BC A B) λx=>o5 (vF x D) λx=>o5 (BB A B C x) λx=>l7 (D6 (x8 x.2.2.1.1 0)) (some ((0,0,0),0,x.2.2.1)) (o5 (G8 x.1.1 D) λb=>o5 (G8 x.1.2.1 D) λx=>some (b,x,0,0,0,0)))
def q57:FQ:=⟨[tD y27,G7,tD y32,G7],⟨[(.cell 8 51,tD y3),(.tmp 9,G7),(.cell 10 112,tD y42)],[]⟩,mE 57 [(95,s95),(96,s96),(97,s97),(98,s98)],F6⟩
def s57:FSpec:=Y0 q57 λx=>Dy x.1 x.2.1 x.2.2.1 x.2.2.2
def xM(A:U4)(B:Int)(C:fM)(D:Int):Option (J3×Int):=o5 (Dy A B C D) λx=>l7 (D6 (x8 x.2.2.1 0)) (some ((0,0,0),x.2.2.1)) (some (x.1,0))
def q30:FQ:=⟨[tD y27,G7,tD y32,G7],⟨[(.cell 8 51,tD y3),(.tmp 9,G7)],[]⟩,mE 29 [(57,s57)],F6⟩
def s30:FSpec:=Y0 q30 λx=>xM x.1 x.2.1 x.2.2.1 x.2.2.2
def yU(A:List (dK×Bool))(B:D7)(C:d5Y):Option (List (dK×Bool)):=o5 (Y8 (λ(x:List (Int×Bool)×Int)=>l7 (D8 x.2 (o9 C)) (o5 (G8 C x.2) λc=>some (.inl (Gy (λ(a b:Int)=>x8 a b) x.1 c true,x9 .i64 x.2 1))) (some (.inr x.1))) ([],0)) λy=>o5 (Y8 (λ(x:List (dK×Bool)×Int)=>l7 (D8 x.2 (o9 B.2.2.2.2)) (o5 (G8 B.2.2.2.2 x.2) λc=>l7 (sW (λ(a b:Int)=>x8 a b) y c.2.1 false) (some (.inl (Gy (λ(a b:dK)=>U6 (seq a.1 b.1) (seq a.2 b.2)) x.1 (B.1,c.1) true,x9 .i64 x.2 1))) (some (.inl (x.1,x9 .i64 x.2 1)))) (some (.inr x.1))) (A,0)) λy=>some y
def q58:FQ:=⟨[(false,(.ownb (.ent true false y48 .bool))),tD y24,uD qK],⟨[],[(0,(false,(oW (.ent true false y48 .bool))))]⟩,⟨39,eqs,tt,gl,[],[],[],[],[0],[],[]⟩,sN 2 (Y3 (sN 1 (dE (.loop [(6,7),(8,9),(14,21),(7000704,7000705)] ⟨[(6,(false,(oW (.ent false false (.int .i64) .bool)))),(14,G7)],[]⟩ 0 ⟨[(6,(false,(oW (.ent false false (.int .i64) .bool))))],[]⟩ F6))) (sN 1 (dE (.loop [(0,1),(10,11),(24,39),(1000000,1000001)] ⟨[(0,(false,(oW (.ent true false y48 .bool)))),(24,G7)],[]⟩ 2 ⟨[(0,(false,(oW (.ent true false y48 .bool))))],[]⟩ F6))))⟩
def s58:FSpec:=Y0 q58 λx=>yU x.1 x.2.1 x.2.2
def xN(A:U4)(B:Int)(C:Int):Option (List (dK×Bool)):=o5 (G8 A.2.2 B) λx=>o5 (nz x C) λf=>o5 (bz f [C]) λg=>o5 (yU [] x g) λc=>o5 (l7 (D8 x.2.1 0) (some (.inr c)) (l7 (J6 (o9 A.2.2) x.2.1) (some (.inr c)) (some (.inl ())))) λo=>V5 o (λj=>o5 (G8 A.2.2 x.2.1) λd=>o5 (xJ x C) λx=>o5 (Y8 (λ(b:d5Y×Int)=>l7 (D8 b.2 (o9 x)) (o5 (G8 x b.2) λk=>o5 (P7 x (U8 b.2)) λx=>o5 (bz b.1 [x]) λi=>o5 (nz d x) λx=>o5 (bz i x) λx=>some (.inl (x,x9 .i64 b.2 1))) (some (.inr b.1))) ([],0)) λy=>o5 (yU c d y) λx=>some x) λr=>some r
def q31:FQ:=⟨[tD y27,G7,G7],tR 6 (false,(oW (.ent true false y48 .bool))),mE 69 [(59,s59),(58,s58),(60,s60)],sN 4 (Y3 (jnR [(6,7),(28,40)] nZ F6) (sN 2 (Y3 (sN 1 (dE (.loop [(10,11),(12,13),(50,64)] ⟨[(10,jc),(50,G7)],[]⟩ 0 ⟨[(10,jc)],[]⟩ F6))) F6)))⟩
def s31:FSpec:=Y0 q31 λx=>xN x.1 x.2.1 x.2.2
end
end Gt
open Go Go.GP
namespace Gt
set_option maxRecDepth 100000
noncomputable section
def ww(A:U4):Option (List (d5X×jl)):=o5 (Y8 (λ(x:List (d5X×jl)×Int)=>l7 (D8 x.2 (o9 A.2.2)) (o5 (G8 A.2.2 x.2) λc=>l7 (Tc (λ(a b:d5X)=>seq a b) x.1 c.1) (some (.inl (x.1,x9 .i64 x.2 1))) (o5 (Y8 (λ(x:List (d5X×Int)×Int)=>l7 (D8 x.2 (o9 c.2.2.2.2)) (o5 (G8 c.2.2.2.2 x.2) λd=>l7 (D6 (Tc (λ(a b:d5X)=>seq a b) x.1 d.1)) (some (.inl (Gy (λ(a b:d5X)=>seq a b) x.1 d.1 x.2,x9 .i64 x.2 1))) (some (.inl (x.1,x9 .i64 x.2 1)))) (some (.inr x.1))) ([],0)) λy=>some (.inl (Gy (λ(a b:d5X)=>seq a b) x.1 c.1 (c,y),x9 .i64 x.2 1)))) (some (.inr x.1))) ([],0)) λy=>some y
def q61:FQ:=⟨[tD y27],tR 2 (false,(oW (.ent false true .str y52))),mE 60 [],sN 2 (Y3 (sN 1 (dE (.loop [(3,4),(5,13),(17,59),(7000832,7000833)] ⟨[(3,(false,(oW (.ent false true .str y52)))),(17,G7)],[]⟩ 0 ⟨[(3,(false,(oW (.ent false true .str y52))))],[]⟩ (sN 2 (Y3 (dE (sN 3 (Y3 (sN 1 (dE (.loop [(8,13),(33,52),(40001856,40001857)] ⟨[(8,(false,(oW (.ent false false .str (.int .i64))))),(33,G7)],[]⟩ 2 ⟨[(8,(false,(oW (.ent false false .str (.int .i64)))))],[]⟩ F6))) F6))) F6))))) F6)⟩
def s61:FSpec:=Y0 q61 λx=>ww x
def kE(A:List (d5X×jl))(B:d5X)(C:d5X):Option (D7×Int×Bool):=l7 (D6 (Tc (λ(a b:d5X)=>seq a b) A B)) (some (([],0,[],[],[]),0,false)) (l7 (D6 (Tc (λ(a b:d5X)=>seq a b) (sW (λ(a b:d5X)=>seq a b) A B (([],0,[],[],[]),[])).2 C)) (some (([],0,[],[],[]),0,false)) (some ((sW (λ(a b:d5X)=>seq a b) A B (([],0,[],[],[]),[])).1,sW (λ(a b:d5X)=>seq a b) (sW (λ(a b:d5X)=>seq a b) A B (([],0,[],[],[]),[])).2 C 0,true)))
def q62:FQ:=⟨[uD y53,(uD .str),(uD .str)],⟨[(.cell 6 82,tD y24),(.tmp 7,G7),(.tmp 8,eF)],[]⟩,mE 34 [],F6⟩
def s62:FSpec:=Y0 q62 λx=>kE x.1 x.2.1 x.2.2
def oQ(A:D7)(B:aC):Option qx:=o5 (l7 (J6 0 B.2.1) (l7 (D8 B.2.1 (o9 A.2.2.2.1)) (o5 (G8 A.2.2.2.1 B.2.1) λx=>some (x.1,[],B.2.2.2.1,B.2.2.2.2.1,B.2.2.2.2.2.2.2)) (some ([],[],B.2.2.2.1,B.2.2.2.2.1,B.2.2.2.2.2.2.2))) (some ([],[],B.2.2.2.1,B.2.2.2.2.1,B.2.2.2.2.2.2.2))) λx=>l7 (J6 0 B.2.2.1) (l7 (D8 B.2.2.1 (o9 A.2.2.2.2)) (o5 (G8 A.2.2.2.2 B.2.2.1) λb=>some (x.1,b.1,x.2.2)) (some x)) (some x)
def c6j:FQ:=⟨[tD y24,tD y19],cR 4 194 (tD y68),mE 52 [],sN 2 (Y3 (.join [(5,6),(13,32),(7000320,7000321)] ⟨[(5,(false,(.box (dT y68))))],[]⟩ F6) F6)⟩
def d0N:FSpec:=Y0 c6j λx=>oQ x.1 x.2
def iT(A:List I9)(B:List I9):d6b:=l7 (D6 (x8 (o9 A) (o9 B))) (some false) (o5 (U0 (λ(x:Int)=>l7 (D8 x (o9 A)) (o5 (G8 A x) λb=>o5 (G8 B x) λc=>l7 (D6 (U6 (x8 b.1 c.1) (x8 b.2 c.2))) (some (.rt false)) (some (.nx (x9 .i64 x 1)))) (some (.ex ()))) 0) λo=>V5 o (λy=>some true) λr=>some r)
def c6k:FQ:=⟨[uD y12,uD y12],tR 4 eF,mE 26 [],sN 2 (Y3 (sN 1 (dE (qm [(4,6),(13,26)] ⟨[(13,G7)],[]⟩ 0 nZ F6))) F6)⟩
def d0O:FSpec:=Y0 c6k λx=>iT x.1 x.2
def zW(A:D7)(B:Int)(C:D7)(D:Int):d6b:=o5 (G8 A.2.2.2.2 B) λx=>o5 (G8 C.2.2.2.2 D) λd=>o5 (oQ A x) λb=>o5 (oQ C d) λc=>l7 (U6 (seq b.1 c.1) (U6 (seq b.2.1 c.2.1) (U6 (x8 b.2.2.1 c.2.2.1) (U6 (x8 b.2.2.2.1.1 c.2.2.2.1.1) (U6 (x8 b.2.2.2.1.2 c.2.2.2.1.2) (seq b.2.2.2.2 c.2.2.2.2)))))) (o5 (iT x.2.2.2.2.2.1 d.2.2.2.2.2.1) λf=>l7 f (o5 (iT x.2.2.2.2.2.2.1 d.2.2.2.2.2.2.1) λx=>some x) (some false)) (some false)
def q63:FQ:=⟨[tD y24,G7,tD y24,G7],tR 8 eF,mE 42 [(103,d0N),(104,d0O)],F6⟩
def s63:FSpec:=Y0 q63 λx=>zW x.1 x.2.1 x.2.2.1 x.2.2.2
def uq(A:U4)(B:U4):Option (List aS):=o5 (ww A) λx=>o5 (ww B) λg=>o5 (Y8 (λ(x:List aS×Int)=>l7 (D8 x.2 (o9 A.2.2)) (o5 (G8 A.2.2 x.2) λb=>o5 (Y8 (λ(x:List aS×Int)=>l7 (D8 x.2 (o9 b.2.2.2.2)) (o5 (G8 b.2.2.2.2 x.2) λd=>o5 (kE g b.1 d.1) λc=>l7 (D6 c.2.2) (o5 (bz x.1 [(b.1,d.1,1)]) λf=>some (.inl (f,x9 .i64 x.2 1))) (o5 (zW b x.2 c.1 c.2.1) λf=>l7 (D6 f) (o5 (bz x.1 [(b.1,d.1,3)]) λi=>some (.inl (i,x9 .i64 x.2 1))) (some (.inl (x.1,x9 .i64 x.2 1))))) (some (.inr x.1))) (x.1,0)) λy=>some (.inl (y,x9 .i64 x.2 1))) (some (.inr x.1))) ([],0)) λy=>o5 (Y8 (λ(b:List aS×Int)=>l7 (D8 b.2 (o9 B.2.2)) (o5 (G8 B.2.2 b.2) λd=>o5 (Y8 (λ(c:List aS×Int)=>l7 (D8 c.2 (o9 d.2.2.2.2)) (o5 (G8 d.2.2.2.2 c.2) λf=>o5 (kE x d.1 f.1) λx=>l7 (D6 x.2.2) (o5 (bz c.1 [(d.1,f.1,2)]) λx=>some (.inl (x,x9 .i64 c.2 1))) (some (.inl (c.1,x9 .i64 c.2 1)))) (some (.inr c.1))) (b.1,0)) λy=>some (.inl (y,x9 .i64 b.2 1))) (some (.inr b.1))) (y,0)) λy=>some y
def q32:FQ:=⟨[tD y27,tD y27],tR 4 (uO y35),mE 114 [(61,s61),(62,s62),(63,s63)],sN 3 (Y3 (sN 1 (dE (.loop [(7,8),(9,15),(29,77)] ⟨[(7,(uO y35)),(29,G7)],[]⟩ 0 ⟨[(7,(uO y35))],[]⟩ (sN 2 (Y3 (dE (sN 2 (dE (.loop [(7,8),(10,15),(36,76),(17000000,17000001)] ⟨[(7,(uO y35)),(36,G7)],[]⟩ 2 ⟨[(7,(uO y35))],[]⟩ F6)))) F6))))) (Y3 (sN 1 (dE (.loop [(7,8),(16,17),(18,22),(80,113),(18000000,18000001)] ⟨[(7,(uO y35)),(80,G7)],[]⟩ 4 ⟨[(7,(uO y35))],[]⟩ (sN 2 (Y3 (dE (sN 2 (dE (.loop [(7,8),(18,22),(87,112),(76000000,76000001)] ⟨[(7,(uO y35)),(87,G7)],[]⟩ 6 ⟨[(7,(uO y35))],[]⟩ F6)))) F6))))) F6))⟩
def s32:FSpec:=Y0 q32 λx=>uq x.1 x.2
def vU(A:U4)(B:U4)(C:Int)(D:fM)(E:Int):Option (W9×Int):=o5 (o5 (xm A) λx=>l7 (D6 (U6 (x8 x.1 0) (U6 (x8 x.2.1 0) (U6 (x8 x.2.2.1 0) (x8 x.2.2.2 0))))) (some (.inr (((0,0,0),(0,0,0),0,0,[]),1))) (o5 (xm B) λx=>l7 (D6 (U6 (x8 x.1 0) (U6 (x8 x.2.1 0) (U6 (x8 x.2.2.1 0) (x8 x.2.2.2 0))))) (some (.inr (((0,0,0),(0,0,0),0,0,[]),1))) (some (.inl ((0,0,0),(0,0,0),0,0,[]))))) λo=>V5 o (λ(x:W9)=>o5 (l7 (D8 C 0) (some (.inr (((0,0,0),(0,0,0),0,0,[]),6))) (l7 (J6 (o9 A.2.2) C) (some (.inr (((0,0,0),(0,0,0),0,0,[]),6))) (l7 (D8 E 0) (some (.inr (((0,0,0),(0,0,0),0,0,[]),6))) (o5 (G8 A.2.2 C) λf=>l7 (J6 (o9 f.2.2.2.1) E) (some (.inr (((0,0,0),(0,0,0),0,0,[]),6))) (some (.inl x)))))) λo=>V5 o (λ(x:W9)=>o5 (sS A B) λx=>l7 (D6 x) (some (((0,0,0),(0,0,0),0,0,[]),8)) (o5 (xM A C D E) λx=>o5 (xM B C D E) λf=>o5 (xN A C E) λj=>o5 (xN B C E) λi=>o5 (uq A B) λg=>o5 (Y8 (λ(x:W9×Int)=>l7 (D8 x.2 (o9 g)) (o5 (G8 g x.2) λk=>o5 (P7 g (U8 x.2)) λc=>l7 (D6 (x8 c.2.2 2)) (l7 (sW (λ(a b:dK)=>U6 (seq a.1 b.1) (seq a.2 b.2)) j (c.1,c.2.1) false) (o5 (bz x.1.2.2.2.2 [c]) λd=>some (.inl ((x.1.1,x.1.2.1,x.1.2.2.1,x.1.2.2.2.1,d),x9 .i64 x.2 1))) (l7 (D6 (x8 c.2.2 1)) (l7 (sW (λ(a b:dK)=>U6 (seq a.1 b.1) (seq a.2 b.2)) i (c.1,c.2.1) false) (o5 (bz x.1.2.2.2.2 [c]) λd=>some (.inl ((x.1.1,x.1.2.1,x.1.2.2.1,x.1.2.2.2.1,d),x9 .i64 x.2 1))) (some (.inl (x.1,x9 .i64 x.2 1)))) (some (.inl (x.1,x9 .i64 x.2 1))))) (l7 (D6 (x8 c.2.2 1)) (l7 (sW (λ(a b:dK)=>U6 (seq a.1 b.1) (seq a.2 b.2)) i (c.1,c.2.1) false) (o5 (bz x.1.2.2.2.2 [c]) λd=>some (.inl ((x.1.1,x.1.2.1,x.1.2.2.1,x.1.2.2.2.1,d),x9 .i64 x.2 1))) (some (.inl (x.1,x9 .i64 x.2 1)))) (some (.inl (x.1,x9 .i64 x.2 1))))) (some (.inr x.1))) ((x.1,f.1,x.2,f.2,[]),0)) λy=>some (y,0))) λr=>some r) λr=>some r
def q15:FQ:=⟨[tD y27,tD y27,G7,tD y32,G7],⟨[(.cell 10 62,tD y40),(.tmp 11,G7)],[]⟩,mE 126 [(28,s28),(29,s29),(30,s30),(31,s31),(32,s32)],sN 1 (Y3 (jnR [(10,12),(18,29),(4000640,4000641)] ⟨[(10,(false,(.box (dT y40))))],[]⟩ F6) (Y3 (jnR [(10,12),(29,54),(6000000,6000001)] ⟨[(10,(false,(.box (dT y40))))],[]⟩ F6) (sN 5 (Y3 (sN 1 (dE (.loop [(12,13),(16,18),(91,125),(37000768,37000769)] ⟨[(12,(false,(.box (pA (dT y3) (pA (dT y3) (pA diM (pA diM (oW y35)))))))),(91,G7)],[]⟩ 0 ⟨[(12,(false,(.box (pA (dT y3) (pA (dT y3) (pA diM (pA diM (oW y35))))))))],[]⟩ F6))) F6))))⟩
def s15:FSpec:=Y0 q15 λx=>vU x.1 x.2.1 x.2.2.1 x.2.2.2.1 x.2.2.2.2
def rq(A:W9):d6b:=l7 (x8 A.2.2.1 0) (l7 (x8 A.2.2.2.1 0) (some (D6 (U6 (x8 A.1.1 A.2.1.1) (U6 (x8 A.1.2.1 A.2.1.2.1) (x8 A.1.2.2 A.2.1.2.2))))) (l7 (x8 A.2.2.1 0) (some true) (some (x8 A.2.2.2.1 0)))) (l7 (x8 A.2.2.1 0) (some true) (some (x8 A.2.2.2.1 0)))
def q25:FQ:=⟨[tD y40],tR 2 eF,mE 24 [],F6⟩
def s25:FSpec:=Y0 q25 λx=>rq x
def yL(A:W9):Option bH:=o5 (o5 (rq A) λx=>l7 x (some (1,1,0,0,0,0,0)) (some (1,0,0,0,0,0,0))) λx=>o5 (o5 (l7 (x8 A.2.2.1 0) (some (D6 (x8 A.2.2.2.1 0))) (some false)) λb=>l7 b (some (x.1,x.2.1,x.2.2.1,x.2.2.2.1,1,x.2.2.2.2.2)) (l7 (D6 (x8 A.2.2.1 0)) (some x) (l7 (D6 (x8 A.2.2.2.1 0)) (some x) (l7 (D8 A.1.2.2 A.2.1.2.2) (some (x.1,x.2.1,1,x.2.2.2)) (l7 (D8 A.2.1.2.2 A.1.2.2) (some (x.1,x.2.1,x.2.2.1,1,x.2.2.2.2)) (some x)))))) λx=>some x
def q33:FQ:=⟨[tD y40],cR 2 34 (tD y45),mE 46 [(25,s25)],sN 2 (Y3 (.join [(3,4),(5,8),(7000192,7000193)] ⟨[(3,(false,(.box (dT y45))))],[]⟩ F6) (Y3 (.join [(3,4),(8,45),(9000000,9000001)] ⟨[(3,(false,(.box (dT y45))))],[]⟩ (dE (Y3 (.join [(8,17)] ⟨[(8,eF)],[]⟩ F6) F6))) F6))⟩
def s33:FSpec:=Y0 q33 λx=>yL x
def zC(A:bH)(B:bH):Option bH:=some (x9 .i64 A.1 B.1,x9 .i64 A.2.1 B.2.1,x9 .i64 A.2.2.1 B.2.2.1,x9 .i64 A.2.2.2.1 B.2.2.2.1,x9 .i64 A.2.2.2.2.1 B.2.2.2.2.1,A.2.2.2.2.2)
def q34:FQ:=⟨[tD y45,tD y45],cR 4 34 (tD y45),mE 36 [],F6⟩
def s34:FSpec:=Y0 q34 λx=>zC x.1 x.2
def LM(A:d5Y):Option I9:=o5 (U0 (λ(x:I9)=>l7 (D8 x.2 (o9 A)) (o5 (G8 A x.2) λb=>o5 (lG b 1000000000000000) λc=>l7 c (some (.rt (0,3))) (o5 (lG (x9 .i64 x.1 b) 1000000000000000) λd=>l7 d (some (.rt (0,3))) (some (.nx (x9 .i64 x.1 b,x9 .i64 x.2 1))))) (some (.ex x.1))) (0,0)) λo=>V5 o (λy=>some (y,0)) λr=>some r
def q35:FQ:=⟨[uD qK],⟨[(.tmp 2,G7),(.tmp 3,G7)],[]⟩,mE 22 [(64,s64)],sN 2 (Y3 (sN 1 (dE (qm [(2,5),(6,7),(9,21)] ⟨[(4,G7),(9,G7)],[]⟩ 0 ⟨[(4,G7)],[]⟩ F6))) F6)⟩
def s35:FSpec:=Y0 q35 λx=>LM x
def En(A:List W9):Option (bH×Int):=o5 (Y8 (λ(x:bH×d5Y×d5Y×Int)=>l7 (D8 x.2.2.2 (o9 A)) (o5 (o5 (G8 A x.2.2.2) λb=>o5 (o5 (yL b) λc=>l7 (U6 (x8 c.1 1) (U6 (x8 c.2.1 0) (U6 (x8 c.2.2.1 0) (U6 (x8 c.2.2.2.1 0) (U6 (x8 c.2.2.2.2.1 0) (U6 (x8 c.2.2.2.2.2.1 0) (x8 c.2.2.2.2.2.2 0))))))) (some (x9 .i64 x.1.1 1,x.1.2)) (o5 (zC x.1 c) λx=>some x)) λc=>o5 (l7 (x8 b.2.2.1 0) (l7 (x8 b.1.1 3) (o5 (bz x.2.1 [b.1.2.2]) λx=>some x) (some x.2.1)) (some x.2.1)) λd=>l7 (x8 b.2.2.2.1 0) (l7 (x8 b.2.1.1 3) (o5 (bz x.2.2.1 [b.2.1.2.2]) λx=>some (c,d,x)) (some (c,d,x.2.2.1))) (some (c,d,x.2.2.1))) λb=>some (.inl (b.1,b.2.1,b.2.2,x9 .i64 x.2.2.2 1))) (some (.inr (x.1,x.2.1,x.2.2.1)))) ((0,0,0,0,0,0,0),[],[],0)) λy=>o5 (LM y.2.1) λx=>o5 (LM y.2.2) λb=>l7 (D6 (x8 x.2 0)) (some ((0,0,0,0,0,0,0),3)) (l7 (D6 (x8 b.2 0)) (some ((0,0,0,0,0,0,0),3)) (some ((y.1.1,y.1.2.1,y.1.2.2.1,y.1.2.2.2.1,y.1.2.2.2.2.1,x.1,b.1),0)))
def q16:FQ:=⟨[uD y41],⟨[(.cell 2 34,tD y45),(.tmp 3,G7)],[]⟩,mE 87 [(33,s33),(34,s34),(35,s35)],sN 4 (Y3 (sN 1 (dE (.loop [(4,7),(9,11),(18,65),(7000256,7000257)] ⟨[(4,(false,(.box (dT y45)))),(5,jc),(6,jc),(18,G7)],[]⟩ 0 ⟨[(4,(false,(.box (dT y45)))),(5,jc),(6,jc)],[]⟩ (sN 2 (Y3 (.join [(4,7),(9,11),(20,64),(20000000,20000003)] ⟨[(4,(false,(.box (dT y45)))),(5,jc),(6,jc)],[]⟩ (dE (sN 1 (Y3 (.join [(4,5),(10,11),(22,34),(20000000,20000001)] ⟨[(4,(false,(.box (dT y45))))],[]⟩ F6) (Y3 (.join [(5,6),(34,49),(20000001,20000002)] ⟨[(5,jc)],[]⟩ F6) F6))))) F6))))) F6)⟩
def s16:FSpec:=Y0 q16 λx=>En x
def zy(A:U4)(B:U4)(C:Int)(D:List fM)(E:Int):Option (List W9×bH×Int):=l7 (pq 0 (o9 D) 1073741824) (o5 (qo 0 ((0,0,0),(0,0,0),0,0,[])) λx=>o5 (U0 (λ(x:bH×List W9×Int)=>l7 (D8 x.2.2 (o9 D)) (o5 (G8 D x.2.2) λc=>o5 (vU A B C c E) λb=>l7 (D6 (x8 b.2 0)) (some (.rt ([],(0,0,0,0,0,0,0),b.2))) (o5 (bz x.2.1 [b.1]) λd=>some (.nx (x.1,d,x9 .i64 x.2.2 1)))) (some (.ex (x.1,x.2.1)))) ((0,0,0,0,0,0,0),x,0)) λo=>V5 o (λ(y:bH×List W9)=>o5 (En y.2) λx=>l7 (D6 (x8 x.2 0)) (some ([],(0,0,0,0,0,0,0),x.2)) (some (y.2,x.1,0))) λr=>some r) none
def q6:FQ:=⟨[tD y27,tD y27,G7,uD y33,G7],⟨[(.tmp 10,uO y40),(.cell 11 34,tD y45),(.tmp 12,G7)],[]⟩,mE 58 [(15,s15),(16,s16)],sN 2 (Y3 (sN 1 (dE (qm [(10,14),(15,18),(25,47),(4000704,4000705),(7001408,7001409)] ⟨[(11,(false,(.box (dT y45)))),(13,(uO y40)),(25,G7)],[]⟩ 0 ⟨[(11,(false,(.box (dT y45)))),(13,(uO y40))],[]⟩ F6))) F6)⟩
def s6:FSpec:=Y0 q6 λx=>zy x.1 x.2.1 x.2.2.1 x.2.2.2.1 x.2.2.2.2
def d5M:List MG:=[G7]
def s44:FSpec:=⟨d5M,[(false,(.dat .str))],[],λx=>TG x⟩
def gX(A:Int):Option d5X:=o5 (TG A) λx=>some x
def q23:FQ:=⟨[G7],tR 2 (uD .str),mE 5 [(44,s44)],F6⟩
def s23:FSpec:=Y0 q23 λx=>gX x
def GX(A:Int):d6c:=some (nT 0 (qj A 9))
def q45:FQ:=⟨[G7],tR 2 G7,mE 6 [],F6⟩
def s45:FSpec:=Y0 q45 λx=>GX x
def d5N:List MG:=[(false,(.dat .str)),G7]
def s46:FSpec:=⟨d5N,[(false,(.dat .str))],[],λx=>EF x.1 x.2⟩
def qI(A:Int)(B:Int):Option d5X:=o5 (GX B) λx=>o5 (gX A) λc=>l7 (x8 x 0) (some c) (l7 (D8 A 0) (o5 (FX c 1 (o9 c)) λb=>l7 (J6 (o9 b) x) (o5 (EF [48] (H9 .i64 (x9 .i64 x 1) (o9 b))) λd=>o5 (wR d b) λf=>o5 (FX f 0 (H9 .i64 (o9 f) x)) λg=>o5 (wR [45] g) λi=>o5 (wR i [46]) λj=>o5 (FX f (H9 .i64 (o9 f) x) (o9 f)) λx=>o5 (wR j x) λx=>some x) (o5 (FX b 0 (H9 .i64 (o9 b) x)) λd=>o5 (wR [45] d) λf=>o5 (wR f [46]) λg=>o5 (FX b (H9 .i64 (o9 b) x) (o9 b)) λx=>o5 (wR g x) λx=>some x)) (l7 (J6 (o9 c) x) (o5 (EF [48] (H9 .i64 (x9 .i64 x 1) (o9 c))) λb=>o5 (wR b c) λd=>o5 (FX d 0 (H9 .i64 (o9 d) x)) λf=>o5 (wR [] f) λg=>o5 (wR g [46]) λi=>o5 (FX d (H9 .i64 (o9 d) x) (o9 d)) λx=>o5 (wR i x) λx=>some x) (o5 (FX c 0 (H9 .i64 (o9 c) x)) λb=>o5 (wR [] b) λd=>o5 (wR d [46]) λf=>o5 (FX c (H9 .i64 (o9 c) x) (o9 c)) λx=>o5 (wR f x) λx=>some x)))
def q24:FQ:=⟨[G7,G7],tR 4 (uD .str),mE 45 [(45,s45),(23,s23),(46,s46)],F6⟩
def s24:FSpec:=Y0 q24 λx=>qI x.1 x.2
def Vh(A:Int)(B:I9)(C:List gI):d6b:=o5 (qX B C) λx=>l7 (J6 x.1 A) (some (J6 A x.2)) (some false)
def c6I:FQ:=⟨[G7,tD y2,uD y1],tR 6 eF,mE 23 [(141,b5a)],F6⟩
def d1f:FSpec:=Y0 c6I λx=>Vh x.1 x.2.1 x.2.2
def TU(A:Int)(B:Int):Option d5X:=o5 (gX A) λx=>o5 (EF [48] (nT 0 (H9 .i64 B (o9 x)))) λb=>o5 (wR b x) λx=>some x
def c7u:FQ:=⟨[G7,G7],tR 4 (uD .str),mE 16 [(23,s23),(46,s46)],F6⟩
def d1L:FSpec:=Y0 c7u λx=>TU x.1 x.2
def WS(A:Int):Option d5X:=o5 (wZ A) λx=>l7 (D6 x) (some []) (o5 (wY A) λx=>o5 (TU x.1 4) λb=>o5 (wR b [45]) λc=>o5 (TU x.2.1 2) λd=>o5 (wR c d) λf=>o5 (wR f [45]) λg=>o5 (TU x.2.2 2) λx=>o5 (wR g x) λx=>some x)
def c6J:FQ:=⟨[G7],tR 2 (uD .str),mE 25 [(191,b5h),(192,b5i),(193,d1L)],F6⟩
def d1g:FSpec:=Y0 c6J λx=>WS x
def Vg(A:J3)(B:List gI):Option (d5X×Int):=o5 (iJ (A.1,A.2.1) B) λx=>l7 (D6 x) (some ([],8)) (o5 (Vh A.2.2 (A.1,A.2.1) B) λx=>l7 (D6 x) (some ([],3)) (l7 (x8 A.1 1) (l7 (x8 A.2.2 0) (some ([102,97,108,115,101],0)) (some ([116,114,117,101],0))) (l7 (x8 A.1 2) (o5 (gX A.2.2) λx=>some (x,0)) (l7 (x8 A.1 3) (o5 (qI A.2.2 2) λx=>some (x,0)) (l7 (x8 A.1 4) (o5 (qI A.2.2 4) λx=>o5 (wR x [37]) λx=>some (x,0)) (l7 (x8 A.1 5) (o5 (WS A.2.2) λx=>some (x,0)) (o5 (G8 B A.2.1) λx=>o5 (G8 x.2 A.2.2) λx=>some (x,0))))))))
def q85:FQ:=⟨[tD y3,uD y1],⟨[(.tmp 4,(uD .str)),(.tmp 5,G7)],[]⟩,mE 60 [(137,a7E),(138,d1f),(23,s23),(24,s24),(139,d1g)],F6⟩
def s85:FSpec:=Y0 q85 λx=>Vg x.1 x.2
def GL(A:J3)(B:Int)(C:List gI):Option d5X:=l7 (D6 (x8 B 0)) (o5 (gX B) λx=>o5 (wR [101,114,114,111,114,32] x) λx=>some x) (o5 (Vg A C) λx=>l7 (D6 (x8 x.2 0)) (some [63]) (some x.1))
def q47:FQ:=⟨[tD y3,G7,uD y1],tR 6 (uD .str),mE 23 [(23,s23),(85,s85)],F6⟩
def s47:FSpec:=Y0 q47 λx=>GL x.1 x.2.1 x.2.2
def Oh(A:W9)(B:List gI):Option d5X:=o5 (GL A.1 A.2.2.1 B) λx=>o5 (wR x [32,45,62,32]) λx=>o5 (GL A.2.1 A.2.2.2.1 B) λi=>o5 (wR x i) λx=>o5 (Y8 (λ(x:d5Y×Int)=>l7 (D8 x.2 (o9 A.2.2.2.2)) (o5 (G8 A.2.2.2.2 x.2) λb=>l7 (x8 x.2 0) (o5 (bz x.1 (Pi [32,98,121,32])) λc=>o5 (bz c (Pi b.1)) λd=>o5 (bz d [46]) λf=>o5 (bz f (Pi b.2.1)) λg=>some (.inl (g,x9 .i64 x.2 1))) (o5 (bz x.1 (Pi [44,32])) λc=>o5 (bz c (Pi b.1)) λd=>o5 (bz d [46]) λf=>o5 (bz f (Pi b.2.1)) λg=>some (.inl (g,x9 .i64 x.2 1)))) (some (.inr x.1))) (Pi x,0)) λy=>some (b0p y)
def q26:FQ:=⟨[tD y40,uD y1],tR 4 (uD .str),mE 53 [(47,s47)],sN 3 (Y3 (sN 1 (dE (.loop [(6,9),(28,51),(10001536,10001537)] ⟨[(6,(false,(oW (.int .u8)))),(28,G7)],[]⟩ 0 ⟨[(6,(false,(oW (.int .u8))))],[]⟩ F6))) F6)⟩
def s26:FSpec:=Y0 q26 λx=>Oh x.1 x.2
def Kv(A:List W9)(B:bH)(C:List gI):Option (List d5X):=o5 (gX B.1) λx=>o5 (wR [99,97,115,101,115,32] x) λx=>o5 (wR x [32,99,104,97,110,103,101,100,32]) λx=>o5 (gX B.2.1) λc=>o5 (wR x c) λx=>o5 (wR x [32,103,97,105,110,101,100,32]) λx=>o5 (gX B.2.2.1) λq=>o5 (wR x q) λx=>o5 (wR x [32,114,101,100,117,99,101,100,32]) λx=>o5 (gX B.2.2.2.1) λt=>o5 (wR x t) λx=>o5 (wR x [32,102,97,105,108,101,100,32]) λx=>o5 (gX B.2.2.2.2.1) λu=>o5 (wR x u) λx=>o5 (qI B.2.2.2.2.2.1 2) λv=>o5 (wR [111,108,100,32] v) λw=>o5 (wR w [32,110,101,119,32]) λz=>o5 (qI B.2.2.2.2.2.2 2) λh=>o5 (wR z h) λm=>l7 (pq 2 (x9 .i64 2 (o9 A)) 1073741824) (o5 (qo 2 []) λd=>o5 (Y8 (λ(x:List d5X×Int)=>l7 (D8 x.2 (o9 A)) (o5 (G8 A x.2) λb=>o5 (rq b) λf=>l7 f (o5 (gX x.2) λg=>o5 (wR [99,97,115,101,32] g) λi=>o5 (wR i [58,32]) λj=>o5 (Oh b C) λk=>o5 (wR j k) λn=>o5 (bz x.1 [n]) λp=>some (.inl (p,x9 .i64 x.2 1))) (some (.inl (x.1,x9 .i64 x.2 1)))) (some (.inr x.1))) (RG d [x,m],0)) λy=>some y) none
def q12:FQ:=⟨[uD y41,tD y45,uD y1],tR 6 (uO .str),mE 74 [(23,s23),(24,s24),(25,s25),(26,s26)],sN 4 (Y3 (sN 1 (dE (.loop [(8,11),(54,73),(10003072,10003073)] ⟨[(8,(uO .str)),(54,G7)],[]⟩ 0 ⟨[(8,(uO .str))],[]⟩ F6))) F6)⟩
def s12:FSpec:=Y0 q12 λx=>Kv x.1 x.2.1 x.2.2
def yu(A:W9):d6c:=l7 (D6 (x8 A.2.2.1 0)) (some 0) (l7 (D6 (x8 A.2.2.2.1 0)) (some 0) (l7 (D6 (x8 A.1.1 3)) (some 0) (l7 (D6 (x8 A.2.1.1 3)) (some 0) (some (H9 .i64 A.2.1.2.2 A.1.2.2)))))
def q27:FQ:=⟨[tD y40],tR 2 G7,mE 30 [],F6⟩
def s27:FSpec:=Y0 q27 λx=>yu x
def Ku(A:List W9):Option (List aS×d5Y×d5Y):=o5 (Y8 (λ(x:List aS×d5Y×d5Y×d5Y×List (aS×Int)×Int)=>l7 (D8 x.2.2.2.2.2 (o9 A)) (o5 (G8 A x.2.2.2.2.2) λj=>o5 (rq j) λs=>l7 (D6 s) (some (.inl (x.1,x.2.1,x.2.2.1,x.2.2.2.1,x.2.2.2.2.1,x9 .i64 x.2.2.2.2.2 1))) (o5 (Y8 (λ(c:List aS×d5Y×d5Y×d5Y×List (aS×Int)×Int)=>l7 (D8 c.2.2.2.2.2 (o9 j.2.2.2.2)) (o5 (G8 j.2.2.2.2 c.2.2.2.2.2) λd=>l7 (D6 (Tc (λ(a b:aS)=>U6 (seq a.1 b.1) (U6 (seq a.2.1 b.2.1) (x8 a.2.2 b.2.2))) c.2.2.2.2.1 d)) (o5 (bz c.1 [d]) λp=>o5 (bz c.2.1 [0]) λf=>o5 (bz c.2.2.1 [0]) λg=>o5 (bz c.2.2.2.1 [-1]) λi=>o5 (G8 i (o9 c.1)) λx_9=>o5 (P7 i (U8 (o9 c.1))) λk=>l7 (x8 k x.2.2.2.2.2) (some (.inl (p,f,g,i,Gy (λ(a b:aS)=>U6 (seq a.1 b.1) (U6 (seq a.2.1 b.2.1) (x8 a.2.2 b.2.2))) c.2.2.2.2.1 d (o9 c.1),x9 .i64 c.2.2.2.2.2 1))) (o5 (G8 i (o9 c.1)) λt=>o5 (P7 i (U8 (o9 c.1))) λu=>o5 (G8 f (o9 c.1)) λv=>o5 (P7 f (U8 (o9 c.1))) λn=>o5 (G8 f (o9 c.1)) λq=>o5 (P7 f (U8 (o9 c.1))) λw=>o5 (G8 g (o9 c.1)) λz=>o5 (P7 g (U8 (o9 c.1))) λh=>o5 (yu j) λm=>o5 (G8 g (o9 c.1)) λx_20=>o5 (P7 g (U8 (o9 c.1))) λx_21=>some (.inl (p,aW f (U8 (o9 c.1)) (x9 .i64 n 1),aW g (U8 (o9 c.1)) (x9 .i64 h m),aW i (U8 (o9 c.1)) x.2.2.2.2.2,Gy (λ(a b:aS)=>U6 (seq a.1 b.1) (U6 (seq a.2.1 b.2.1) (x8 a.2.2 b.2.2))) c.2.2.2.2.1 d (o9 c.1),x9 .i64 c.2.2.2.2.2 1)))) (o5 (G8 c.2.2.2.1 (sW (λ(a b:aS)=>U6 (seq a.1 b.1) (U6 (seq a.2.1 b.2.1) (x8 a.2.2 b.2.2))) c.2.2.2.2.1 d 0)) λp=>o5 (P7 c.2.2.2.1 (U8 (sW (λ(a b:aS)=>U6 (seq a.1 b.1) (U6 (seq a.2.1 b.2.1) (x8 a.2.2 b.2.2))) c.2.2.2.2.1 d 0))) λf=>l7 (x8 f x.2.2.2.2.2) (some (.inl (c.1,c.2.1,c.2.2.1,c.2.2.2.1,c.2.2.2.2.1,x9 .i64 c.2.2.2.2.2 1))) (o5 (G8 c.2.2.2.1 (sW (λ(a b:aS)=>U6 (seq a.1 b.1) (U6 (seq a.2.1 b.2.1) (x8 a.2.2 b.2.2))) c.2.2.2.2.1 d 0)) λg=>o5 (P7 c.2.2.2.1 (U8 (sW (λ(a b:aS)=>U6 (seq a.1 b.1) (U6 (seq a.2.1 b.2.1) (x8 a.2.2 b.2.2))) c.2.2.2.2.1 d 0))) λi=>o5 (G8 c.2.1 (sW (λ(a b:aS)=>U6 (seq a.1 b.1) (U6 (seq a.2.1 b.2.1) (x8 a.2.2 b.2.2))) c.2.2.2.2.1 d 0)) λx_9=>o5 (P7 c.2.1 (U8 (sW (λ(a b:aS)=>U6 (seq a.1 b.1) (U6 (seq a.2.1 b.2.1) (x8 a.2.2 b.2.2))) c.2.2.2.2.1 d 0))) λk=>o5 (G8 c.2.1 (sW (λ(a b:aS)=>U6 (seq a.1 b.1) (U6 (seq a.2.1 b.2.1) (x8 a.2.2 b.2.2))) c.2.2.2.2.1 d 0)) λt=>o5 (P7 c.2.1 (U8 (sW (λ(a b:aS)=>U6 (seq a.1 b.1) (U6 (seq a.2.1 b.2.1) (x8 a.2.2 b.2.2))) c.2.2.2.2.1 d 0))) λu=>o5 (G8 c.2.2.1 (sW (λ(a b:aS)=>U6 (seq a.1 b.1) (U6 (seq a.2.1 b.2.1) (x8 a.2.2 b.2.2))) c.2.2.2.2.1 d 0)) λv=>o5 (P7 c.2.2.1 (U8 (sW (λ(a b:aS)=>U6 (seq a.1 b.1) (U6 (seq a.2.1 b.2.1) (x8 a.2.2 b.2.2))) c.2.2.2.2.1 d 0))) λn=>o5 (yu j) λq=>o5 (G8 c.2.2.1 (sW (λ(a b:aS)=>U6 (seq a.1 b.1) (U6 (seq a.2.1 b.2.1) (x8 a.2.2 b.2.2))) c.2.2.2.2.1 d 0)) λw=>o5 (P7 c.2.2.1 (U8 (sW (λ(a b:aS)=>U6 (seq a.1 b.1) (U6 (seq a.2.1 b.2.1) (x8 a.2.2 b.2.2))) c.2.2.2.2.1 d 0))) λz=>some (.inl (c.1,aW c.2.1 (U8 (sW (λ(a b:aS)=>U6 (seq a.1 b.1) (U6 (seq a.2.1 b.2.1) (x8 a.2.2 b.2.2))) c.2.2.2.2.1 d 0)) (x9 .i64 k 1),aW c.2.2.1 (U8 (sW (λ(a b:aS)=>U6 (seq a.1 b.1) (U6 (seq a.2.1 b.2.1) (x8 a.2.2 b.2.2))) c.2.2.2.2.1 d 0)) (x9 .i64 n q),aW c.2.2.2.1 (U8 (sW (λ(a b:aS)=>U6 (seq a.1 b.1) (U6 (seq a.2.1 b.2.1) (x8 a.2.2 b.2.2))) c.2.2.2.2.1 d 0)) x.2.2.2.2.2,c.2.2.2.2.1,x9 .i64 c.2.2.2.2.2 1))))) (some (.inr (c.1,c.2.1,c.2.2.1,c.2.2.2.1,c.2.2.2.2.1)))) (x.1,x.2.1,x.2.2.1,x.2.2.2.1,x.2.2.2.2.1,0)) λy=>some (.inl (y.1,y.2.1,y.2.2.1,y.2.2.2.1,y.2.2.2.2,x9 .i64 x.2.2.2.2.2 1)))) (some (.inr (x.1,x.2.1,x.2.2.1)))) ([],[],[],[],[],0)) λy=>some y
def q13:FQ:=⟨[uD y41],⟨[(.tmp 2,uO y35),(.tmp 3,jc),(.tmp 4,jc)],[]⟩,mE 89 [(25,s25),(27,s27)],sN 4 (Y3 (sN 1 (dE (.loop [(5,12),(13,16),(19,86),(13001024,13001025)] ⟨[(5,(uO y35)),(6,jc),(7,jc),(8,jc),(9,(false,(oW (.ent true false y35 (.int .i64))))),(19,G7)],[]⟩ 0 ⟨[(5,(uO y35)),(6,jc),(7,jc)],[]⟩ (sN 2 (Y3 (dE (sN 3 (dE (.loop [(5,10),(13,16),(30,85),(20000000,20000005)] ⟨[(5,(uO y35)),(6,jc),(7,jc),(8,jc),(9,(false,(oW (.ent true false y35 (.int .i64))))),(30,G7)],[]⟩ 2 ⟨[(5,(uO y35)),(6,jc),(7,jc),(8,jc),(9,(false,(oW (.ent true false y35 (.int .i64)))))],[]⟩ F6)))) F6))))) F6)⟩
def s13:FSpec:=Y0 q13 λx=>Ku x
def Wy(A:d5Y)(B:d5Y):d6b:=l7 (D6 (x8 (o9 A) (o9 B))) (some false) (o5 (U0 (λ(x:Int)=>l7 (D8 x (o9 A)) (l7 (D8 x (o9 B)) (o5 (G8 A x) λb=>o5 (G8 B x) λc=>l7 (D6 (x8 b c)) (some (.rt false)) (some (.nx (x9 .i64 x 1)))) (some (.ex ()))) (some (.ex ()))) 0) λo=>V5 o (λy=>some true) λr=>some r)
def q14:FQ:=⟨[uD qK,uD qK],tR 4 eF,mE 32 [],sN 2 (Y3 (sN 1 (dE (qm [(4,6),(11,32)] ⟨[(5,G7)],[]⟩ 0 nZ F6))) F6)⟩
def s14:FSpec:=Y0 q14 λx=>Wy x.1 x.2
def JO:d6b:=o5 (NI [(3,1000)]) λx=>o5 (NI [(7,0)]) λd=>o5 (zy x d 0 [(45000,[(3,0,1200)],[]),(45000,[(3,0,1000)],[])] 0) λx=>o5 (Kv x.1 x.2.1 []) λb=>o5 (Ku x.1) λc=>o5 (l7 (D6 (x8 x.2.2 0)) (some (.inr false)) (l7 (D6 (x8 (o9 b) 3)) (some (.inr false)) (l7 (D6 (x8 (o9 c.1) 1)) (some (.inr false)) (some (.inl ()))))) λo=>V5 o (λf=>l7 (U6 (x8 x.2.1.1 2) (U6 (x8 x.2.1.2.1 1) (U6 (x8 x.2.1.2.2.1 1) (U6 (x8 x.2.1.2.2.2.1 0) (U6 (x8 x.2.1.2.2.2.2.1 0) (U6 (x8 x.2.1.2.2.2.2.2.1 2000) (x8 x.2.1.2.2.2.2.2.2 2200))))))) (o5 (G8 b 0) λx=>o5 (P7 b (U8 0)) λx=>l7 (seq x [99,97,115,101,115,32,50,32,99,104,97,110,103,101,100,32,49,32,103,97,105,110,101,100,32,49,32,114,101,100,117,99,101,100,32,48,32,102,97,105,108,101,100,32,48]) (o5 (G8 b 1) λx=>o5 (P7 b (U8 1)) λx=>l7 (seq x [111,108,100,32,50,48,46,48,48,32,110,101,119,32,50,50,46,48,48]) (o5 (G8 b 2) λx=>o5 (P7 b (U8 2)) λx=>l7 (seq x [99,97,115,101,32,48,58,32,49,48,46,48,48,32,45,62,32,49,50,46,48,48,32,98,121,32,104,111,117,115,101,46,98,97,115,101]) (o5 (G8 c.1 0) λx=>o5 (P7 c.1 (U8 0)) λx=>l7 (U6 (seq x.1 [104,111,117,115,101]) (U6 (seq x.2.1 [98,97,115,101]) (x8 x.2.2 3))) (o5 (Wy c.2.1 [1]) λx=>l7 x (o5 (Wy c.2.2 [200]) λx=>some x) (some false)) (some false)) (some false)) (some false)) (some false)) (some false)) λr=>some r
def q5:FQ:=⟨[],tR 0 eF,mE 93 [(11,s11),(6,s6),(12,s12),(13,s13),(14,s14)],sN 8 (Y3 (jnR [(0,1),(43,55)] nZ F6) F6)⟩
def s5:FSpec:=Y0 q5 λx=>JO
def JW(A:Int):d6b:=l7 (J6 97 A) (some (J6 A 122)) (some false)
def c7a:FQ:=⟨[(false,(dT (.int .u8)))],tR 2 eF,mE 9 [],F6⟩
def c1f:FSpec:=Y0 c7a λx=>JW x
def PM(A:Int):d6b:=l7 (J6 48 A) (some (J6 A 57)) (some false)
def c7H:FQ:=⟨[(false,(dT (.int .u8)))],tR 2 eF,mE 9 [],F6⟩
def d1X:FSpec:=Y0 c7H λx=>PM x
def Nr(A:Int):d6b:=o5 (JW A) λx=>l7 x (some true) (o5 (PM A) λx=>l7 x (some true) (some (x8 A 95)))
def c7b:FQ:=⟨[(false,(dT (.int .u8)))],tR 2 eF,mE 13 [(166,c1f),(215,d1X)],F6⟩
def d1v:FSpec:=Y0 c7b λx=>Nr x
def wF:Option (List d5X):=some [[105,102],[116,104,101,110],[101,108,115,101],[111,114],[97,110,100],[110,111,116],[116,114,117,101],[102,97,108,115,101],[116,111,100,97,121],[115,104,97,114,101],[100,105,118],[114,111,117,110,100],[109,105,110],[109,97,120],[112,108,117,115],[109,111,110,116,104,115],[100,97,121,115],[121,101,97,114,115],[121,101,97,114],[109,111,110,116,104],[116,97,98],[98,97,110,100],[99,111,117,110,116],[115,117,109],[97,108,108],[97,110,121],[109,111,115,116],[101,110,117,109],[116,97,98,108,101],[114,111,119],[115,99,111,112,101],[109,101,109,98,101,114,115],[105,110,112,117,116],[100,101,102],[114,117,108,101],[111,102],[111,118,101,114],[112,114,105,111],[102,114,111,109],[116,111],[101,110,100],[119,104,101,110],[105,115],[115,114,99],[98,111,111,108],[105,110,116],[109,111,110,101,121],[114,97,116,101],[100,97,116,101],[100,111,119,110],[117,112],[122,101,114,111],[97,119,97,121],[104,97,108,102],[101,118,101,110]]
def c7c:FQ:=⟨[],tR 0 (uO .str),mE 2 [],F6⟩
def d1w:FSpec:=Y0 c7c λx=>wF
def eY(A:d5X):d6b:=o5 (l7 (x8 (o9 A) 0) (some (.inr false)) (l7 (D8 16 (o9 A)) (some (.inr false)) (o5 (sat A 0) λx=>o5 (JW x) λx=>l7 (D6 x) (some (.inr false)) (some (.inl ()))))) λo=>V5 o (λx=>o5 (U0 (λ(x:Int)=>l7 (D8 x (o9 A)) (o5 (sat A x) λb=>o5 (Nr b) λc=>l7 (D6 c) (some (.rt false)) (some (.nx (x9 .i64 x 1)))) (some (.ex ()))) 0) λo=>V5 o (λy=>o5 wF λx=>o5 (U0 (λ(b:Int)=>l7 (D8 b (o9 x)) (o5 (G8 x b) λc=>o5 (P7 x (U8 b)) λx=>l7 (seq x A) (some (.rt false)) (some (.nx (x9 .i64 b 1)))) (some (.ex ()))) 0) λo=>V5 o (λy=>some true) λr=>some r) λr=>some r) λr=>some r
def c6l:FQ:=⟨[uD .str],tR 2 eF,mE 44 [(166,c1f),(167,d1v),(168,d1w)],sN 1 (Y3 (jnR [(2,3),(6,20)] nZ F6) (Y3 (sN 1 (dE (qm [(2,4),(20,31)] ⟨[(3,G7)],[]⟩ 0 nZ F6))) (sN 1 (Y3 (sN 1 (dE (qm [(2,3),(5,6),(32,44)] ⟨[(5,G7)],[]⟩ 2 nZ F6))) F6))))⟩
def b1J:FSpec:=Y0 c6l λx=>eY x
def jU(A:U4)(B:Int)(C:Int)(D:d5X):d6b:=o5 (U0 (λ(x:Int)=>l7 (D8 x (o9 A.1)) (l7 (D8 1 B) (o5 (G8 A.1 x) λb=>l7 (seq b.1 D) (some (.rt true)) (some (.nx (x9 .i64 x 1)))) (l7 (D8 x C) (o5 (G8 A.1 x) λb=>l7 (seq b.1 D) (some (.rt true)) (some (.nx (x9 .i64 x 1)))) (some (.nx (x9 .i64 x 1))))) (some (.ex ()))) 0) λo=>V5 o (λy=>o5 (U0 (λ(x:Int)=>l7 (D8 x (o9 A.2.1)) (l7 (D8 2 B) (o5 (G8 A.2.1 x) λb=>l7 (seq b.1 D) (some (.rt true)) (some (.nx (x9 .i64 x 1)))) (l7 (x8 B 2) (l7 (D8 x C) (o5 (G8 A.2.1 x) λb=>l7 (seq b.1 D) (some (.rt true)) (some (.nx (x9 .i64 x 1)))) (some (.nx (x9 .i64 x 1)))) (some (.nx (x9 .i64 x 1))))) (some (.ex ()))) 0) λo=>V5 o (λy=>o5 (U0 (λ(x:Int)=>l7 (D8 x (o9 A.2.2)) (l7 (x8 B 3) (l7 (D8 x C) (o5 (G8 A.2.2 x) λb=>l7 (seq b.1 D) (some (.rt true)) (some (.nx (x9 .i64 x 1)))) (some (.nx (x9 .i64 x 1)))) (some (.nx (x9 .i64 x 1)))) (some (.ex ()))) 0) λo=>V5 o (λy=>some false) λr=>some r) λr=>some r) λr=>some r
def c6m:FQ:=⟨[tD y27,G7,G7,(uD .str)],tR 8 eF,mE 88 [],sN 1 (Y3 (sN 1 (dE (qm [(8,10),(12,36)] ⟨[(9,G7)],[]⟩ 0 nZ F6))) (Y3 (sN 1 (dE (qm [(8,9),(10,11),(36,64)] ⟨[(10,G7)],[]⟩ 2 nZ F6))) (Y3 (sN 1 (dE (qm [(8,9),(11,12),(64,88)] ⟨[(11,G7)],[]⟩ 4 nZ F6))) F6)))⟩
def b8x:FSpec:=Y0 c6m λx=>jU x.1 x.2.1 x.2.2.1 x.2.2.2
def BM(A:U4)(B:Int):Option N9:=o5 (G8 A.1 B) λx=>o5 (eY x.1) λd=>l7 (D6 d) (some (2,1,B,0)) (o5 (jU A 1 B x.1) λf=>l7 f (some (7,1,B,0)) (l7 (x8 (o9 x.2) 0) (some (5,1,B,0)) (l7 (D8 16 (o9 x.2)) (some (4,1,B,116)) (o5 (U0 (λ(b:N9×N9×Int)=>l7 (D8 b.2.2 (o9 x.2)) (o5 (G8 x.2 b.2.2) λg=>o5 (eY g) λi=>l7 (D6 i) (some (.rt (2,b.2.1.2.1,b.2.1.2.2.1,x9 .i64 100 b.2.2))) (o5 (U0 (λ(c:N9×N9×Int)=>l7 (D8 c.2.2 b.2.2) (o5 (G8 x.2 c.2.2) λj=>o5 (G8 x.2 b.2.2) λx=>l7 (seq j x) (some (.rt (7,c.2.1.2))) (some (.nx (c.1,c.2.1,x9 .i64 c.2.2 1)))) (some (.ex (c.1,c.2.1)))) (b.1,(b.2.1.1,b.2.1.2.1,b.2.1.2.2.1,x9 .i64 100 b.2.2),0)) λo=>V5 o (λ(y:N9×N9)=>some (.nx (y.1,y.2,x9 .i64 b.2.2 1))) λr=>some (.rt r))) (some (.ex b.1))) ((0,0,0,0),(0,1,B,0),0)) λo=>V5 o (λ(y:N9)=>some (0,0,0,0)) λr=>some r))))
def q65:FQ:=⟨[tD y27,G7],cR 4 99 (tD y42),mE 80 [(105,b1J),(106,b8x)],sN 7 (Y3 (sN 1 (dE (qm [(4,5),(6,9),(42,79),(4000256,4000257),(10000384,10000385)] ⟨[(4,(false,(.box (dT y42)))),(6,(false,(.box (dT y42)))),(7,G7)],[]⟩ 0 ⟨[(4,(false,(.box (dT y42))))],[]⟩ (sN 1 (Y3 (dE (sN 3 (dE (qm [(4,5),(6,7),(8,9),(61,79),(72000000,72000002)] ⟨[(4,(false,(.box (dT y42)))),(6,(false,(.box (dT y42)))),(8,G7)],[]⟩ 2 ⟨[(4,(false,(.box (dT y42)))),(6,(false,(.box (dT y42))))],[]⟩ F6)))) F6))))) F6)⟩
def s65:FSpec:=Y0 q65 λx=>BM x.1 x.2
def fC(A:I9)(B:List gI):d6b:=l7 (x8 A.1 6) (l7 (J6 0 A.2) (some (D8 A.2 (o9 B))) (some false)) (l7 (J6 1 A.1) (l7 (J6 A.1 5) (some (x8 A.2 0)) (some false)) (some false))
def c7d:FQ:=⟨[tD y2,uD y1],tR 4 eF,mE 31 [],F6⟩
def b1L:FSpec:=Y0 c7d λx=>fC x.1 x.2
def zk(A:I9):d6b:=l7 (J6 0 A.1) (l7 (J6 A.1 A.2) (some (J6 A.2 109573)) (some false)) (some false)
def c7h:FQ:=⟨[tD y2],tR 2 eF,mE 18 [],F6⟩
def b5g:FSpec:=Y0 c7h λx=>zk x
def oJ(A:I9)(B:List gI):Option I9:=o5 (fC A B) λx=>l7 (D6 x) (some (0,-1)) (l7 (x8 A.1 1) (some (0,1)) (l7 (x8 A.1 2) (some (-1000000000000,1000000000000)) (l7 (x8 A.1 3) (some (-1000000000000000,1000000000000000)) (l7 (x8 A.1 4) (some (-1000000000,1000000000)) (l7 (x8 A.1 5) (some (0,109572)) (o5 (G8 B A.2) λx=>some (0,H9 .i64 (o9 x.2) 1)))))))
def c7Z:FQ:=⟨[tD y2,uD y1],⟨[(.tmp 4,G7),(.tmp 5,G7)],[]⟩,mE 30 [(169,b1L)],F6⟩
def c1k:FSpec:=Y0 c7Z λx=>oJ x.1 x.2
def Jg(A:Int)(B:I9)(C:List gI):d6b:=o5 (oJ B C) λx=>l7 (J6 x.1 A) (some (J6 A x.2)) (some false)
def c7I:FQ:=⟨[G7,tD y2,uD y1],tR 6 eF,mE 23 [(253,c1k)],F6⟩
def c1h:FSpec:=Y0 c7I λx=>Jg x.1 x.2.1 x.2.2
def JX(A:xH)(B:dC)(C:List gI):d6b:=o5 (o5 (zk A.1) λx=>l7 (D6 x) (some (.inr true)) (l7 (x8 A.1.1 A.1.2) (some (.inr true)) (l7 (J6 A.2.2.1 A.2.1) (some (.inr true)) (some (.inl ()))))) λo=>V5 o (λx=>o5 (Jg A.2.1 B.2.1 C) λx=>l7 (D6 x) (some true) (o5 (Jg (H9 .i64 A.2.2.1 1) B.2.1 C) λx=>l7 (D6 x) (some true) (o5 (Jg A.2.2.2 B.2.2.1 C) λx=>some (D6 x)))) λr=>some r
def c7e:FQ:=⟨[tD y4,tD y8,uD y1],tR 6 eF,mE 53 [(173,b5g),(216,c1h)],sN 1 (Y3 (jnR [(6,27)] nZ F6) F6)⟩
def d1x:FSpec:=Y0 c7e λx=>JX x.1 x.2.1 x.2.2
def BJ(A:I9)(B:I9):Option (I9×Bool):=o5 (zk A) λx=>l7 (D6 x) (some ((0,0),false)) (o5 (zk B) λx=>l7 (D6 x) (some ((0,0),false)) (l7 (J6 (qj A.2 B.2) (nT A.1 B.1)) (some ((0,0),false)) (some ((nT A.1 B.1,qj A.2 B.2),true))))
def c7J:FQ:=⟨[tD y2,tD y2],⟨[(.cell 4 85,tD y2),(.tmp 5,eF)],[]⟩,mE 34 [(173,b5g)],F6⟩
def d1Y:FSpec:=Y0 c7J λx=>BJ x.1 x.2
def Ea(A:xH)(B:xH):d6b:=o5 (BJ A.1 B.1) λx=>l7 x.2 (some (D8 (nT A.2.1 B.2.1) (qj A.2.2.1 B.2.2.1))) (some false)
def c7f:FQ:=⟨[tD y4,tD y4],tR 4 eF,mE 29 [(217,d1Y)],F6⟩
def d1y:FSpec:=Y0 c7f λx=>Ea x.1 x.2
def DZ(A:dC)(B:List gI):Option I9:=l7 (D8 64 (o9 A.2.2.2)) (some (64,4)) (o5 (o5 (fC A.2.1 B) λx=>l7 (D6 x) (some (.inr (-1,8))) (o5 (fC A.2.2.1 B) λx=>l7 (D6 x) (some (.inr (-1,8))) (some (.inl ())))) λo=>V5 o (λx=>o5 (U0 (λ(x:Int)=>l7 (D8 x (o9 A.2.2.2)) (o5 (G8 A.2.2.2 x) λc=>o5 (JX c A B) λd=>l7 d (some (.rt (x,3))) (o5 (U0 (λ(b:Int)=>l7 (D8 b x) (o5 (G8 A.2.2.2 b) λf=>o5 (G8 A.2.2.2 x) λg=>o5 (Ea f g) λi=>l7 i (some (.rt (x,11))) (some (.nx (x9 .i64 b 1)))) (some (.ex ()))) 0) λo=>V5 o (λy=>some (.nx (x9 .i64 x 1))) λr=>some (.rt r))) (some (.ex ()))) 0) λo=>V5 o (λy=>some (0,0)) λr=>some r) λr=>some r)
def c6n:FQ:=⟨[tD y8,uD y1],⟨[(.tmp 4,G7),(.tmp 5,G7)],[]⟩,mE 57 [(169,b1L),(170,d1x),(171,d1y)],sN 2 (Y3 (jnR [(4,6),(12,24)] nZ F6) (Y3 (sN 1 (dE (qm [(4,8),(24,57)] ⟨[(6,G7)],[]⟩ 0 nZ (sN 1 (Y3 (dE (sN 2 (dE (qm [(4,6),(7,8),(40,57)] ⟨[(7,G7)],[]⟩ 2 nZ F6)))) F6))))) F6))⟩
def d0P:FSpec:=Y0 c6n λx=>DZ x.1 x.2
def Ak(A:U4)(B:Int):Option N9:=o5 (G8 A.2.1 B) λx=>o5 (eY x.1) λb=>l7 (D6 b) (some (2,2,B,0)) (o5 (jU A 2 B x.1) λc=>l7 c (some (7,2,B,0)) (o5 (DZ x A.1) λx=>l7 (x8 x.2 0) (some (0,0,0,0)) (l7 (J6 0 x.1) (some (x.2,2,B,x9 .i64 100 x.1)) (some (x.2,2,B,0)))))
def q66:FQ:=⟨[tD y27,G7],cR 4 99 (tD y42),mE 47 [(105,b1J),(106,b8x),(107,d0P)],F6⟩
def s66:FSpec:=Y0 q66 λx=>Ak x.1 x.2
def wI(A:List gu)(B:Int)(C:d5X):d6b:=o5 (U0 (λ(x:Int)=>l7 (D8 x B) (l7 (D8 x (o9 A)) (o5 (G8 A x) λb=>l7 (seq b.1 C) (some (.rt true)) (some (.nx (x9 .i64 x 1)))) (some (.ex ()))) (some (.ex ()))) 0) λo=>V5 o (λy=>some false) λr=>some r
def c7g:FQ:=⟨[uD y11,G7,(uD .str)],tR 6 eF,mE 26 [],sN 1 (Y3 (sN 1 (dE (qm [(6,26)] ⟨[(7,G7)],[]⟩ 0 nZ F6))) F6)⟩
def d1z:FSpec:=Y0 c7g λx=>wI x.1 x.2.1 x.2.2
def Ah(A:U4)(B:Int):Option N9:=o5 (G8 A.2.2 B) λx=>o5 (U0 (λ(b:N9×Int)=>l7 (D8 b.2 (o9 x.2.2.1)) (o5 (G8 x.2.2.1 b.2) λc=>o5 (eY c.1) λd=>l7 (D6 d) (l7 (D6 (x8 2 0)) (some (.rt (2,3,B,x9 .i64 100 b.2))) (some (.nx (b.1,x9 .i64 b.2 1)))) (o5 (G8 x.2.2.1 b.2) λf=>o5 (wI x.2.2.1 b.2 f.1) λg=>l7 g (l7 (D6 (x8 7 0)) (some (.rt (7,3,B,x9 .i64 100 b.2))) (some (.nx (b.1,x9 .i64 b.2 1)))) (o5 (G8 x.2.2.1 b.2) λx=>o5 (fC x.2 A.1) λx=>l7 (D6 x) (l7 (D6 (x8 8 0)) (some (.rt (8,3,B,x9 .i64 100 b.2))) (some (.nx (b.1,x9 .i64 b.2 1)))) (l7 (D6 (x8 0 0)) (some (.rt (0,3,B,x9 .i64 100 b.2))) (some (.nx (b.1,x9 .i64 b.2 1))))))) (some (.ex b.1))) ((0,0,0,0),0)) λo=>V5 o (λ(y:N9)=>o5 (U0 (λ(b:N9×Int)=>l7 (D8 b.2 (o9 x.2.2.2.1)) (o5 (o5 (G8 x.2.2.2.1 b.2) λc=>o5 (eY c.1) λd=>l7 (D6 d) (some (2,3,B,x9 .i64 200 b.2)) (o5 (G8 x.2.2.2.1 b.2) λf=>o5 (wI x.2.2.1 (o9 x.2.2.1) f.1) λg=>l7 g (some (7,3,B,x9 .i64 200 b.2)) (o5 (G8 x.2.2.2.1 b.2) λi=>o5 (wI x.2.2.2.1 b.2 i.1) λj=>l7 j (some (7,3,B,x9 .i64 200 b.2)) (o5 (G8 x.2.2.2.1 b.2) λx=>o5 (fC x.2 A.1) λx=>l7 (D6 x) (some (8,3,B,x9 .i64 200 b.2)) (some (0,3,B,x9 .i64 200 b.2)))))) λx=>l7 (D6 (x8 x.1 0)) (some (.rt x)) (some (.nx (b.1,x9 .i64 b.2 1)))) (some (.ex b.1))) (y,0)) λo=>V5 o (λ(y:N9)=>some (0,0,0,0)) λr=>some r) λr=>some r
def c6o:FQ:=⟨[tD y27,G7],cR 4 99 (tD y42),mE 122 [(105,b1J),(172,d1z),(169,b1L)],sN 2 (Y3 (sN 1 (dE (qm [(4,5),(6,8),(15,61),(4000256,4000257)] ⟨[(4,(false,(.box (dT y42)))),(6,G7)],[]⟩ 0 ⟨[(4,(false,(.box (dT y42))))],[]⟩ F6))) (Y3 (sN 1 (dE (qm [(4,5),(8,10),(61,121),(15000000,15000001)] ⟨[(4,(false,(.box (dT y42)))),(8,G7)],[]⟩ 2 ⟨[(4,(false,(.box (dT y42))))],[]⟩ (sN 1 (Y3 (dE (sN 1 (Y3 (.join [(9,10),(72,117),(78000576,78000577)] ⟨[(9,(false,(.box (dT y42))))],[]⟩ F6) F6))) F6))))) F6))⟩
def d0Q:FSpec:=Y0 c6o λx=>Ah x.1 x.2
def BN(A:d5X):d6b:=o5 (U0 (λ(x:Int)=>l7 (D8 x (o9 A)) (o5 (sat A x) λb=>l7 (D8 b 32) (some (.rt false)) (o5 (sat A x) λc=>l7 (D8 126 c) (some (.rt false)) (o5 (sat A x) λd=>l7 (x8 d 34) (some (.rt false)) (some (.nx (x9 .i64 x 1)))))) (some (.ex ()))) 0) λo=>V5 o (λy=>some (J6 (o9 A) 64)) λr=>some r
def c7i:FQ:=⟨[uD .str],tR 2 eF,mE 29 [],sN 1 (Y3 (sN 1 (dE (qm [(2,26)] ⟨[(3,G7)],[]⟩ 0 nZ F6))) F6)⟩
def d1A:FSpec:=Y0 c7i λx=>BN x
def Ai(A:List gu):Option (List I9):=o5 (Y8 (λ(x:List I9×Int)=>l7 (D8 x.2 (o9 A)) (o5 (G8 A x.2) λb=>o5 (bz x.1 [b.2]) λc=>some (.inl (c,x9 .i64 x.2 1))) (some (.inr x.1))) ([],0)) λy=>some y
def c7K:FQ:=⟨[uD y11],tR 2 (uO y2),mE 20 [],sN 2 (Y3 (sN 1 (dE (.loop [(3,19)] ⟨[(3,(uO y2)),(4,G7)],[]⟩ 0 ⟨[(3,(uO y2))],[]⟩ F6))) F6)⟩
def d1Z:FSpec:=Y0 c7K λx=>Ai x
def BL(A:U4)(B:Int):Option N8:=o5 (l7 (D8 B 0) (some (.inr ([],[],[],[],[],false))) (l7 (J6 (o9 A.2.2) B) (some (.inr ([],[],[],[],[],false))) (some (.inl ([],[],[],[],[],false))))) λo=>V5 o (λ(x:N8)=>o5 (G8 A.2.2 B) λx=>o5 (Ai x.2.2.1) λb=>o5 (Ai x.2.2.2.1) λc=>l7 (J6 0 x.2.1) (l7 (D8 x.2.1 (o9 A.2.2)) (o5 (G8 A.2.2 x.2.1) λx=>o5 (Ai x.2.2.2.1) λx=>some (A.1,A.2.1,b,c,x,true)) (some (A.1,A.2.1,b,c,[],false))) (some (A.1,A.2.1,b,c,[],false))) λr=>some r
def c7j:FQ:=⟨[tD y27,G7],cR 4 241 (tD y73),mE 55 [(218,d1Z)],sN 1 (Y3 (jnR [(4,5),(7,17),(4000256,4000257)] ⟨[(4,(false,(.box (dT y73))))],[]⟩ F6) F6)⟩
def d1B:FSpec:=Y0 c7j λx=>BL x.1 x.2
def jo(A:Int):d6c:=o5 (l7 (J6 1 A) (l7 (J6 A 9) (some (.inr 0)) (l7 (J6 35 A) (l7 (J6 A 39) (some (.inr 0)) (some (.inl ()))) (some (.inl ())))) (l7 (J6 35 A) (l7 (J6 A 39) (some (.inr 0)) (some (.inl ()))) (some (.inl ())))) λo=>V5 o (λx=>l7 (x8 A 10) (l7 (x8 A 10) (some 1) (l7 (x8 A 26) (some 3) (l7 (J6 11 A) (l7 (J6 A 30) (some 2) (some (-1))) (some (-1))))) (l7 (x8 A 25) (l7 (x8 A 25) (some 1) (l7 (x8 A 26) (some 3) (l7 (J6 11 A) (l7 (J6 A 30) (some 2) (some (-1))) (some (-1))))) (l7 (x8 A 31) (l7 (x8 A 31) (some 1) (l7 (x8 A 26) (some 3) (l7 (J6 11 A) (l7 (J6 A 30) (some 2) (some (-1))) (some (-1))))) (l7 (x8 A 32) (l7 (x8 A 32) (some 1) (l7 (x8 A 26) (some 3) (l7 (J6 11 A) (l7 (J6 A 30) (some 2) (some (-1))) (some (-1))))) (l7 (x8 A 33) (l7 (x8 A 33) (some 1) (l7 (x8 A 26) (some 3) (l7 (J6 11 A) (l7 (J6 A 30) (some 2) (some (-1))) (some (-1))))) (l7 (x8 A 34) (some 1) (l7 (x8 A 26) (some 3) (l7 (J6 11 A) (l7 (J6 A 30) (some 2) (some (-1))) (some (-1)))))))))) λr=>some r
def c8b:FQ:=⟨[G7],tR 2 G7,mE 33 [],sN 1 (Y3 (jnR [(2,17)] nZ F6) F6)⟩
def b5s:FSpec:=Y0 c8b λx=>jo x
def tX(A:List I9):Option (d5Y×I9):=l7 (D8 48 (o9 A)) (some ([],0,4)) (l7 (x8 (o9 A) 0) (some ([],0,5)) (o5 (U0 (λ(x:d5Y×d5Y×Int)=>l7 (D8 x.2.2 (o9 A)) (o5 (G8 A x.2.2) λg=>o5 (jo g.1) λb=>l7 (D8 b 0) (some (.rt ([],x.2.2,2))) (l7 (D8 (o9 x.2.1) b) (some (.rt ([],x.2.2,5))) (l7 (D8 0 b) (o5 (G8 x.2.1 (H9 .i64 (o9 x.2.1) b)) λd=>o5 (P7 x.2.1 (U8 (H9 .i64 (o9 x.2.1) b))) λc=>l7 (pq 0 (H9 .i64 (o9 x.2.1) b) (o9 x.2.1)) (o5 (bz (oU x.2.1 (U8 0) (U8 (H9 .i64 (o9 x.2.1) b))) [c]) λf=>o5 (bz x.1 [c]) λi=>l7 (D8 12 (o9 f)) (some (.rt ([],x.2.2,16))) (some (.nx (i,f,x9 .i64 x.2.2 1)))) none) (o5 (bz x.2.1 [x.2.2]) λd=>o5 (bz x.1 [x.2.2]) λc=>l7 (D8 12 (o9 d)) (some (.rt ([],x.2.2,16))) (some (.nx (c,d,x9 .i64 x.2.2 1))))))) (some (.ex (x.1,x.2.1)))) ([],[],0)) λo=>V5 o (λ(y:d5Y×d5Y)=>l7 (D8 1 (o9 y.2)) (some ([],o9 A,4)) (some (y.1,0,0))) λr=>some r))
def c8a:FQ:=⟨[uD y12],⟨[(.tmp 2,jc),(.tmp 3,G7),(.tmp 4,G7)],[]⟩,mE 70 [(255,b5s)],sN 4 (Y3 (sN 1 (dE (qm [(2,10),(16,64)] ⟨[(5,jc),(6,jc),(7,G7)],[]⟩ 0 ⟨[(5,jc),(6,jc)],[]⟩ F6))) F6)⟩
def b8E:FSpec:=Y0 c8a λx=>tX x
def iV(A:Int):d6b:=o5 (l7 (J6 1 A) (l7 (J6 A 8) (some (.inr true)) (l7 (J6 36 A) (l7 (J6 A 39) (some (.inr true)) (some (.inl ()))) (some (.inl ())))) (l7 (J6 36 A) (l7 (J6 A 39) (some (.inr true)) (some (.inl ()))) (some (.inl ())))) λo=>V5 o (λx=>l7 (x8 A 14) (some true) (l7 (x8 A 15) (some true) (l7 (x8 A 16) (some true) (l7 (x8 A 33) (some true) (some (x8 A 34)))))) λr=>some r
def c8s:FQ:=⟨[G7],tR 2 eF,mE 35 [],sN 1 (Y3 (jnR [(2,17)] nZ F6) F6)⟩
def d2y:FSpec:=Y0 c8s λx=>iV x
def jR(A:Int):Option I9:=some (A,0)
def c8S:FQ:=⟨[G7],cR 2 75 (tD y2),mE 5 [],F6⟩
def b1N:FSpec:=Y0 c8S λx=>jR x
def uw(A:I9)(B:N8):d6b:=o5 (l7 (x8 A.1 1) (some (x8 A.1 1)) (l7 (x8 A.1 2) (some (x8 A.1 2)) (l7 (x8 A.1 3) (some (x8 A.1 3)) (l7 (x8 A.1 4) (some (x8 A.1 4)) (some (x8 A.1 5)))))) λx=>l7 x (o5 (jR A.1) λx=>o5 (oJ x B.1) λx=>l7 (J6 x.1 A.2) (some (J6 A.2 x.2)) (some false)) (o5 (l7 (x8 A.1 14) (some (x8 A.1 14)) (l7 (x8 A.1 15) (some (x8 A.1 15)) (some (x8 A.1 16)))) λx=>l7 x (l7 (J6 0 A.2) (some (J6 A.2 5)) (some false)) (l7 (x8 A.1 34) (l7 (J6 0 A.2) (some (J6 (eU A.2 8) 5)) (some false)) (l7 (x8 A.1 6) (some (J6 0 A.2)) (some true))))
def c8t:FQ:=⟨[tD y2,tD y73],tR 4 eF,mE 62 [(317,b1N),(253,c1k)],sN 1 (Y3 (sN 1 (dE (Y3 (.join [(9,15)] ⟨[(9,eF)],[]⟩ F6) (.cond F6 (Y3 (.join [(34,38)] ⟨[(34,eF)],[]⟩ F6) F6))))) F6)⟩
def d2z:FSpec:=Y0 c8t λx=>uw x.1 x.2
def wV(A:I9)(B:N8):d6b:=l7 (x8 A.1 6) (l7 (D8 (eH .i64 A.2 16) (o9 B.1)) (o5 (G8 B.1 (eH .i64 A.2 16)) λx=>some (D8 (eU A.2 16) (o9 x.2))) (some false)) (l7 (x8 A.1 7) (l7 (J6 0 A.2) (some (D8 A.2 (o9 B.2.2.1))) (some false)) (l7 (x8 A.1 8) (l7 (J6 0 A.2) (some (D8 A.2 (o9 B.2.2.2.1))) (some false)) (l7 (x8 A.1 33) (l7 (J6 0 A.2) (some (D8 A.2 (o9 B.2.1))) (some false)) (l7 (x8 A.1 34) (some (D8 (eH .i64 A.2 8) (o9 B.2.1))) (l7 (x8 A.1 35) (some B.2.2.2.2.2) (o5 (l7 (x8 A.1 36) (some (x8 A.1 36)) (l7 (x8 A.1 37) (some (x8 A.1 37)) (l7 (x8 A.1 38) (some (x8 A.1 38)) (some (x8 A.1 39))))) λx=>l7 x (l7 B.2.2.2.2.2 (l7 (J6 0 A.2) (some (D8 A.2 (o9 B.2.2.2.2.1))) (some false)) (some false)) (some true)))))))
def c8u:FQ:=⟨[tD y2,tD y73],tR 4 eF,mE 103 [],sN 1 (Y3 (sN 1 (dE (sN 1 (.cond F6 (sN 1 (.cond F6 (sN 1 (.cond F6 (sN 1 (.cond F6 (sN 1 (.cond F6 (sN 1 (.cond F6 (Y3 (.join [(83,88)] ⟨[(83,eF)],[]⟩ F6) F6))))))))))))))) F6)⟩
def d2A:FSpec:=Y0 c8u λx=>wV x.1 x.2
def Ad(A:Int):d6b:=l7 (x8 A 2) (some true) (l7 (x8 A 3) (some true) (some (x8 A 4)))
def c8U:FQ:=⟨[G7],tR 2 eF,mE 13 [],F6⟩
def b8G:FSpec:=Y0 c8U λx=>Ad x
def uU(A:Int):d6b:=o5 (Ad A) λx=>l7 x (some true) (some (x8 A 5))
def c8T:FQ:=⟨[G7],tR 2 eF,mE 9 [(319,b8G)],F6⟩
def c1q:FSpec:=Y0 c8T λx=>uU x
def mX(A:I9)(B:N8):Option (I9×Bool):=o5 (l7 (x8 A.1 6) (some (6,eH .i64 A.2 16)) (l7 (x8 A.1 7) (o5 (G8 B.2.2.1 A.2) λx=>some x) (l7 (x8 A.1 8) (o5 (G8 B.2.2.2.1 A.2) λx=>some x) (l7 (x8 A.1 9) (o5 (jR 5) λx=>some x) (l7 (x8 A.1 35) (o5 (jR 2) λx=>some x) (o5 (l7 (x8 A.1 36) (some (x8 A.1 36)) (l7 (x8 A.1 37) (some (x8 A.1 37)) (l7 (x8 A.1 38) (some (x8 A.1 38)) (some (x8 A.1 39))))) λx=>l7 x (o5 (G8 B.2.2.2.2.1 A.2) λx=>some x) (o5 (jR A.1) λx=>some x))))))) λx=>o5 (fC x B.1) λb=>l7 (x8 A.1 36) (l7 b (l7 (x8 x.1 2) (some (x,true)) (some (x,x8 x.1 3))) (some (x,false))) (l7 (x8 A.1 37) (l7 (x8 A.1 37) (l7 b (some (x,x8 x.1 1)) (some (x,false))) (l7 (x8 A.1 39) (l7 b (o5 (uU x.1) λc=>some (x,c)) (some (x,false))) (some (x,b)))) (l7 (x8 A.1 38) (l7 b (some (x,x8 x.1 1)) (some (x,false))) (l7 (x8 A.1 39) (l7 b (o5 (uU x.1) λc=>some (x,c)) (some (x,false))) (some (x,b)))))
def c8v:FQ:=⟨[tD y2,tD y73],⟨[(.cell 4 75,tD y2),(.tmp 5,eF)],[]⟩,mE 91 [(317,b1N),(169,b1L),(318,c1q)],sN 2 (Y3 (.join [(6,7),(9,53),(7000384,7000385)] ⟨[(6,(false,(.box (dT y2))))],[]⟩ (sN 1 (dE (sN 1 (.cond F6 (sN 1 (.cond F6 (sN 1 (.cond F6 (sN 1 (.cond F6 (sN 1 (.cond F6 (Y3 (.join [(42,47)] ⟨[(42,eF)],[]⟩ F6) F6)))))))))))))) F6)⟩
def d2B:FSpec:=Y0 c8v λx=>mX x.1 x.2
def xw(A:I9)(B:I9)(C:N8):Option (I9×Bool):=l7 (x8 A.1 10) (o5 (Ad B.1) λx=>some (B,x)) (l7 (x8 A.1 25) (some (B,x8 B.1 1)) (o5 (l7 (x8 A.1 31) (some (x8 A.1 31)) (some (x8 A.1 32))) λx=>l7 x (o5 (jR 2) λx=>some (x,x8 B.1 5)) (l7 (x8 A.1 33) (o5 (G8 C.2.1 A.2) λx=>o5 (fC x.2.1 C.1) λb=>l7 b (o5 (fC x.2.2.1 C.1) λc=>l7 c (some (x.2.2.1,U6 (x8 B.1 x.2.1.1) (x8 B.2 x.2.1.2))) (some (x.2.2.1,false))) (some (x.2.2.1,false))) (o5 (G8 C.2.1 (eH .i64 A.2 8)) λx=>l7 (x8 B.1 3) (o5 (jR 3) λb=>l7 (U6 (x8 x.2.1.1 b.1) (x8 x.2.1.2 b.2)) (o5 (jR 4) λc=>some (B,U6 (x8 x.2.2.1.1 c.1) (x8 x.2.2.1.2 c.2))) (some (B,false))) (some (B,false))))))
def c8w:FQ:=⟨[tD y2,tD y2,tD y73],⟨[(.cell 6 75,tD y2),(.tmp 7,eF)],[]⟩,mE 82 [(319,b8G),(317,b1N),(169,b1L)],sN 1 (Y3 (sN 1 (dE (sN 1 (.cond F6 (sN 1 (.cond F6 (Y3 (.join [(24,27)] ⟨[(24,eF)],[]⟩ F6) F6))))))) F6)⟩
def d2C:FSpec:=Y0 c8w λx=>xw x.1 x.2.1 x.2.2
def UL(A:Int)(B:Int)(C:Int):Option (I9×Bool):=l7 (x8 A 13) (o5 (jR B) λx=>l7 (x8 C 2) (l7 (x8 B 2) (some (x,true)) (some (x,x8 B 3))) (some (x,false))) (l7 (x8 A 14) (o5 (jR B) λx=>l7 (x8 C 4) (l7 (x8 B 3) (some (x,true)) (some (x,x8 B 4))) (some (x,false))) (l7 (x8 B 3) (l7 (x8 C 3) (o5 (jR 4) λx=>some (x,true)) (o5 (jR B) λx=>l7 (x8 C 2) (l7 (x8 B 2) (some (x,true)) (some (x,x8 B 3))) (some (x,false)))) (o5 (jR B) λx=>l7 (x8 C 2) (l7 (x8 B 2) (some (x,true)) (some (x,x8 B 3))) (some (x,false)))))
def c8V:FQ:=⟨[G7,G7,G7],⟨[(.cell 6 75,tD y2),(.tmp 7,eF)],[]⟩,mE 56 [(317,b1N)],F6⟩
def d2V:FSpec:=Y0 c8V λx=>UL x.1 x.2.1 x.2.2
def Ac(A:Int)(B:I9)(C:I9):Option (I9×Bool):=o5 (o5 (l7 (x8 A 11) (some (x8 A 11)) (some (x8 A 12))) λx=>l7 x (l7 (U6 (x8 B.1 C.1) (x8 B.2 C.2)) (o5 (Ad B.1) λx=>some (.inr (B,x))) (some (.inr (B,false)))) (o5 (l7 (x8 A 13) (some (x8 A 13)) (l7 (x8 A 14) (some (x8 A 14)) (some (x8 A 15)))) λx=>l7 x (o5 (UL A B.1 C.1) λx=>some (.inr x)) (l7 (x8 A 16) (l7 (x8 B.1 3) (some (.inr (B,x8 C.1 3))) (some (.inr (B,false)))) (o5 (l7 (x8 A 17) (some (x8 A 17)) (some (x8 A 18))) λx=>l7 x (l7 (U6 (x8 B.1 C.1) (x8 B.2 C.2)) (o5 (uU B.1) λx=>some (.inr (B,x))) (some (.inr (B,false)))) (o5 (l7 (x8 A 19) (some (x8 A 19)) (some (x8 A 20))) λx=>l7 x (o5 (jR 1) λx=>some (.inr (x,U6 (x8 B.1 C.1) (x8 B.2 C.2)))) (o5 (l7 (x8 A 21) (some (x8 A 21)) (some (x8 A 22))) λx=>l7 x (o5 (jR 1) λx=>l7 (U6 (x8 B.1 C.1) (x8 B.2 C.2)) (o5 (uU B.1) λb=>some (.inr (x,b))) (some (.inr (x,false)))) (l7 (x8 A 23) (l7 (x8 A 23) (l7 (x8 B.1 1) (some (.inr (B,x8 C.1 1))) (some (.inr (B,false)))) (l7 (x8 A 27) (l7 (x8 A 27) (l7 (x8 B.1 5) (some (.inr (B,x8 C.1 2))) (some (.inr (B,false)))) (some (.inl (0,0)))) (l7 (x8 A 28) (l7 (x8 B.1 5) (some (.inr (B,x8 C.1 2))) (some (.inr (B,false)))) (some (.inl (0,0)))))) (l7 (x8 A 24) (l7 (x8 B.1 1) (some (.inr (B,x8 C.1 1))) (some (.inr (B,false)))) (l7 (x8 A 27) (l7 (x8 A 27) (l7 (x8 B.1 5) (some (.inr (B,x8 C.1 2))) (some (.inr (B,false)))) (some (.inl (0,0)))) (l7 (x8 A 28) (l7 (x8 B.1 5) (some (.inr (B,x8 C.1 2))) (some (.inr (B,false)))) (some (.inl (0,0))))))))))))) λo=>V5 o (λ(x:I9)=>o5 (jR 2) λx=>l7 (x8 B.1 5) (some (x,x8 C.1 5)) (some (x,false))) λr=>some r
def c8x:FQ:=⟨[G7,tD y2,tD y2],⟨[(.cell 6 75,tD y2),(.tmp 7,eF)],[]⟩,mE 108 [(319,b8G),(320,d2V),(318,c1q),(317,b1N)],sN 1 (Y3 (jnR [(6,99),(4000384,4000385)] ⟨[(6,(false,(.box (dT y2))))],[]⟩ (sN 1 (dE (Y3 (.join [(9,12)] ⟨[(9,eF)],[]⟩ F6) (.cond F6 (Y3 (.join [(21,25)] ⟨[(21,eF)],[]⟩ F6) (.cond F6 (sN 1 (.cond F6 (Y3 (.join [(44,47)] ⟨[(44,eF)],[]⟩ F6) (.cond F6 (Y3 (.join [(56,59)] ⟨[(56,eF)],[]⟩ F6) (.cond F6 (Y3 (.join [(63,66)] ⟨[(63,eF)],[]⟩ F6) F6)))))))))))))) F6)⟩
def d2D:FSpec:=Y0 c8x λx=>Ac x.1 x.2.1 x.2.2
def Aa(A:I9)(B:List I9)(C:N8):Option (I9×Int):=o5 (l7 (D6 (x8 A.2 0)) (o5 (iV A.1) λx=>l7 (D6 x) (some (.inr ((0,0),2))) (some (.inl (0,0)))) (some (.inl (0,0)))) λo=>V5 o (λ(x:I9)=>o5 (uw A C) λx=>l7 (D6 x) (some ((0,0),3)) (o5 (wV A C) λx=>l7 (D6 x) (some ((0,0),6)) (l7 (x8 (o9 B) 0) (o5 (mX A C) λx=>l7 (D6 x.2) (some ((0,0),8)) (some (x.1,0))) (l7 (x8 (o9 B) 1) (o5 (G8 B 0) λx=>o5 (xw A x C) λx=>l7 (D6 x.2) (some ((0,0),8)) (some (x.1,0))) (l7 (x8 (o9 B) 2) (o5 (G8 B 0) λx=>o5 (G8 B 1) λb=>o5 (Ac A.1 x b) λx=>l7 (D6 x.2) (some ((0,0),8)) (some (x.1,0))) (o5 (G8 B 1) λx=>o5 (G8 B 0) λb=>l7 (x8 b.1 1) (o5 (G8 B 1) λc=>o5 (G8 B 2) λd=>l7 (D6 (U6 (x8 c.1 d.1) (x8 c.2 d.2))) (some ((0,0),8)) (some (x,0))) (l7 (D6 false) (some ((0,0),8)) (some (x,0))))))))) λr=>some r
def c8c:FQ:=⟨[tD y2,uD y12,tD y73],⟨[(.cell 6 75,tD y2),(.tmp 7,G7)],[]⟩,mE 87 [(287,d2y),(288,d2z),(289,d2A),(290,d2B),(291,d2C),(292,d2D)],sN 1 (Y3 (jnR [(6,8),(10,20),(4000384,4000385)] ⟨[(6,(false,(.box (dT y2))))],[]⟩ F6) F6)⟩
def d2m:FSpec:=Y0 c8c λx=>Aa x.1 x.2.1 x.2.2
def Hw(A:List I9)(B:N8):Option (I9×I9):=o5 (tX A) λx=>l7 (D6 (x8 x.2.2 0)) (some ((0,0),x.2)) (o5 (U0 (λ(x:I9×List I9×Int)=>l7 (D8 x.2.2 (o9 A)) (o5 (G8 A x.2.2) λd=>o5 (jo d.1) λb=>o5 (G8 A x.2.2) λf=>l7 (pq (H9 .i64 (o9 x.2.1) b) (o9 x.2.1) (o9 x.2.1)) (o5 (Aa f (oU x.2.1 (U8 (H9 .i64 (o9 x.2.1) b)) (U8 (o9 x.2.1))) B) λc=>l7 (D6 (x8 c.2 0)) (some (.rt ((0,0),x.2.2,c.2))) (l7 (pq 0 (H9 .i64 (o9 x.2.1) b) (o9 x.2.1)) (o5 (bz (oU x.2.1 (U8 0) (U8 (H9 .i64 (o9 x.2.1) b))) [c.1]) λg=>some (.nx (x.1,g,x9 .i64 x.2.2 1))) none)) none) (some (.ex (x.1,x.2.1)))) ((0,0),[],0)) λo=>V5 o (λ(y:I9×List I9)=>o5 (G8 y.2 0) λx=>o5 (P7 y.2 (U8 0)) λx=>some (x,0,0)) λr=>some r)
def c7L:FQ:=⟨[uD y12,tD y73],⟨[(.cell 4 75,tD y2),(.tmp 5,G7),(.tmp 6,G7)],[]⟩,mE 67 [(254,b8E),(255,b5s),(256,d2m)],sN 4 (Y3 (sN 1 (dE (qm [(4,7),(10,15),(26,64),(4000256,4000257)] ⟨[(4,(false,(.box (dT y2)))),(10,(uO y2)),(11,G7)],[]⟩ 0 ⟨[(4,(false,(.box (dT y2)))),(10,(uO y2))],[]⟩ F6))) F6)⟩
def d2a:FSpec:=Y0 c7L λx=>Hw x.1 x.2
def tY(A:List I9)(B:N8)(C:I9):d6c:=o5 (Hw A B) λx=>l7 (D6 (x8 x.2.2 0)) (some x.2.2) (l7 (D6 (U6 (x8 x.1.1 C.1) (x8 x.1.2 C.2))) (some 8) (some 0))
def c7k:FQ:=⟨[uD y12,tD y73,tD y2],tR 6 G7,mE 23 [(219,d2a)],F6⟩
def d1C:FSpec:=Y0 c7k λx=>tY x.1 x.2.1 x.2.2
def BO(A:U4)(B:Int)(C:Int):d6c:=o5 (G8 A.2.2 B) λx=>o5 (G8 x.2.2.2.2 C) λb=>o5 (eY b.1) λi=>l7 (D6 i) (some 2) (o5 (U0 (λ(c:I9)=>l7 (D8 c.2 C) (o5 (G8 x.2.2.2.2 c.2) λf=>l7 (seq f.1 b.1) (some (.rt 7)) (o5 (G8 x.2.2.2.2 c.2) λx=>l7 (x8 x.2.1 b.2.1) (some (.nx (x9 .i64 c.1 1,x9 .i64 c.2 1))) (some (.nx (c.1,x9 .i64 c.2 1))))) (some (.ex c.1))) (0,0)) λo=>V5 o (λy=>o5 (l7 (D8 b.2.1 0) (some (.inr 6)) (l7 (J6 (o9 x.2.2.2.1) b.2.1) (some (.inr 6)) (some (.inl ())))) λo=>V5 o (λc=>o5 (l7 (D6 (x8 b.2.2.1 (-1))) (l7 (D8 b.2.2.1 0) (some (.inr 9)) (l7 (J6 C b.2.2.1) (some (.inr 9)) (o5 (G8 x.2.2.2.2 b.2.2.1) λx=>l7 (D6 (x8 x.2.1 b.2.1)) (some (.inr 9)) (some (.inl ()))))) (some (.inl ()))) λo=>V5 o (λf=>o5 (l7 (D8 b.2.2.2.1 0) (some (.inr 3)) (l7 (D8 9 b.2.2.2.1) (some (.inr 3)) (o5 (zk b.2.2.2.2.1) λx=>l7 (D6 x) (some (.inr 3)) (l7 (x8 b.2.2.2.2.1.1 b.2.2.2.2.1.2) (some (.inr 3)) (some (.inl ())))))) λo=>V5 o (λk=>l7 (J6 8 y) (some 4) (o5 (BN b.2.2.2.2.2.2.2) λj=>l7 (D6 j) (some 2) (o5 (BL A B) λd=>l7 (D8 0 (o9 b.2.2.2.2.2.1)) (o5 (tY b.2.2.2.2.2.1 d (1,0)) λg=>l7 (D6 (x8 g 0)) (some g) (o5 (G8 x.2.2.2.1 b.2.1) λx=>o5 (tY b.2.2.2.2.2.2.1 d x.2) λx=>some x)) (o5 (G8 x.2.2.2.1 b.2.1) λx=>o5 (tY b.2.2.2.2.2.2.1 d x.2) λx=>some x)))) λr=>some r) λr=>some r) λr=>some r) λr=>some r)
def c6p:FQ:=⟨[tD y27,G7,G7],tR 6 G7,mE 144 [(105,b1J),(173,b5g),(174,d1A),(175,d1B),(176,d1C)],sN 5 (Y3 (sN 1 (dE (qm [(6,7),(9,11),(27,52)] ⟨[(9,G7),(10,G7)],[]⟩ 0 ⟨[(9,G7)],[]⟩ F6))) (Y3 (jnR [(6,7),(52,63)] nZ F6) (Y3 (jnR [(6,7),(63,89)] nZ F6) (Y3 (jnR [(6,7),(89,112)] nZ F6) F6))))⟩
def d0R:FSpec:=Y0 c6p λx=>BO x.1 x.2.1 x.2.2
def b9z:List MG:=[(true,(.dat y24)),G7]
def b9J:Ret:=⟨[(.tmp 4,eF)],[]⟩
def d5x:Env:=⟨14,eqs,tt,gl,[],[],[],[],[],[],[]⟩
def c5y:Ann:=.leaf
def Gg(A:D7)(B:Int):d6b:=l7 (J6 0 B) (some (D8 B (o9 A.2.2.2.1))) (some false)
def b8y:FSpec:=mkS b9z b9J λx=>Gg x.1 x.2
def b9B:List MG:=[(false,(.dat qK)),G7]
def b9L:Ret:=⟨[(.tmp 4,jc)],[]⟩
def d5z:Env:=⟨48,eqs,tt,gl,[],[],[],[],[],[],[]⟩
def c5A:Ann:=.seq F6 (.seq F6 (.seq F6 (.seq (.seq F6 (.blk (.loop [(5,41)] ⟨[(5,jc),(6,eF),(7,G7)],[]⟩ 0 ⟨[(5,jc),(6,eF)],[]⟩ F6))) F6)))
def qV(A:d5Y)(B:Int):Option d5Y:=o5 (Y8 (λ(x:d5Y×Bool×Int)=>l7 (D8 x.2.2 (o9 A)) (l7 (D6 x.2.1) (o5 (G8 A x.2.2) λd=>l7 (J6 B d) (o5 (G8 A x.2.2) λb=>l7 (D8 B b) (o5 (bz x.1 [B]) λc=>o5 (G8 A x.2.2) λf=>o5 (bz c [f]) λg=>some (.inl (g,true,x9 .i64 x.2.2 1))) (o5 (G8 A x.2.2) λc=>o5 (bz x.1 [c]) λf=>some (.inl (f,true,x9 .i64 x.2.2 1)))) (o5 (G8 A x.2.2) λb=>o5 (bz x.1 [b]) λc=>some (.inl (c,x.2.1,x9 .i64 x.2.2 1)))) (o5 (G8 A x.2.2) λd=>o5 (bz x.1 [d]) λb=>some (.inl (b,x.2.1,x9 .i64 x.2.2 1)))) (some (.inr (x.1,x.2.1)))) ([],false,0)) λy=>l7 (D6 y.2) (o5 (bz y.1 [B]) λx=>some x) (some y.1)
def d1K:FSpec:=mkS b9B b9L λx=>qV x.1 x.2
def b9A:List MG:=[(false,(.dat y12))]
def b9K:Ret:=⟨[(.tmp 2,jc),(.tmp 3,jc),(.tmp 4,jc)],[]⟩
def d5y:Env:=⟨55,eqs,tt,gl,[(184,d1K)],[],[],[],[],[],[]⟩
def c5z:Ann:=.seq F6 (.seq F6 (.seq (.seq F6 (.blk (.loop [(5,52)] ⟨[(5,jc),(6,jc),(7,jc),(8,G7)],[]⟩ 0 ⟨[(5,jc),(6,jc),(7,jc)],[]⟩ F6))) F6))
def oq(A:List I9):Option lg:=o5 (Y8 (λ(x:d5Y×d5Y×d5Y×Int)=>l7 (D8 x.2.2.2 (o9 A)) (o5 (G8 A x.2.2.2) λc=>l7 (x8 c.1 7) (o5 (G8 A x.2.2.2) λf=>o5 (qV x.1 f.2) λb=>l7 (x8 c.1 8) (o5 (G8 A x.2.2.2) λg=>o5 (qV x.2.1 g.2) λd=>l7 (J6 36 c.1) (l7 (J6 c.1 39) (o5 (G8 A x.2.2.2) λi=>o5 (qV x.2.2.1 i.2) λj=>some (.inl (b,d,j,x9 .i64 x.2.2.2 1))) (some (.inl (b,d,x.2.2.1,x9 .i64 x.2.2.2 1)))) (some (.inl (b,d,x.2.2.1,x9 .i64 x.2.2.2 1)))) (l7 (J6 36 c.1) (l7 (J6 c.1 39) (o5 (G8 A x.2.2.2) λg=>o5 (qV x.2.2.1 g.2) λd=>some (.inl (b,x.2.1,d,x9 .i64 x.2.2.2 1))) (some (.inl (b,x.2.1,x.2.2.1,x9 .i64 x.2.2.2 1)))) (some (.inl (b,x.2.1,x.2.2.1,x9 .i64 x.2.2.2 1))))) (l7 (x8 c.1 8) (o5 (G8 A x.2.2.2) λf=>o5 (qV x.2.1 f.2) λb=>l7 (J6 36 c.1) (l7 (J6 c.1 39) (o5 (G8 A x.2.2.2) λg=>o5 (qV x.2.2.1 g.2) λd=>some (.inl (x.1,b,d,x9 .i64 x.2.2.2 1))) (some (.inl (x.1,b,x.2.2.1,x9 .i64 x.2.2.2 1)))) (some (.inl (x.1,b,x.2.2.1,x9 .i64 x.2.2.2 1)))) (l7 (J6 36 c.1) (l7 (J6 c.1 39) (o5 (G8 A x.2.2.2) λf=>o5 (qV x.2.2.1 f.2) λb=>some (.inl (x.1,x.2.1,b,x9 .i64 x.2.2.2 1))) (some (.inl (x.1,x.2.1,x.2.2.1,x9 .i64 x.2.2.2 1)))) (some (.inl (x.1,x.2.1,x.2.2.1,x9 .i64 x.2.2.2 1)))))) (some (.inr (x.1,x.2.1,x.2.2.1)))) ([],[],[],0)) λy=>some y
def b8A:FSpec:=mkS b9A b9K λx=>oq x
def b9y:List MG:=[(false,(.dat qK)),G7]
def b9I:Ret:=⟨[(.tmp 4,jc)],[]⟩
def d5w:Env:=⟨48,eqs,tt,gl,[],[],[],[],[],[],[]⟩
def c5x:Ann:=.seq F6 (.seq F6 (.seq F6 (.seq (.seq F6 (.blk (.loop [(5,41)] ⟨[(5,jc),(6,eF),(7,G7)],[]⟩ 0 ⟨[(5,jc),(6,eF)],[]⟩ F6))) F6)))
def lH(A:d5Y)(B:Int):Option d5Y:=o5 (Y8 (λ(x:d5Y×Bool×Int)=>l7 (D8 x.2.2 (o9 A)) (l7 (D6 x.2.1) (o5 (G8 A x.2.2) λd=>l7 (J6 B d) (o5 (G8 A x.2.2) λb=>l7 (D8 B b) (o5 (bz x.1 [B]) λc=>o5 (G8 A x.2.2) λf=>o5 (bz c [f]) λg=>some (.inl (g,true,x9 .i64 x.2.2 1))) (o5 (G8 A x.2.2) λc=>o5 (bz x.1 [c]) λf=>some (.inl (f,true,x9 .i64 x.2.2 1)))) (o5 (G8 A x.2.2) λb=>o5 (bz x.1 [b]) λc=>some (.inl (c,x.2.1,x9 .i64 x.2.2 1)))) (o5 (G8 A x.2.2) λd=>o5 (bz x.1 [d]) λb=>some (.inl (b,x.2.1,x9 .i64 x.2.2 1)))) (some (.inr (x.1,x.2.1)))) ([],false,0)) λy=>l7 (D6 y.2) (o5 (bz y.1 [B]) λx=>some x) (some y.1)
def b1K:FSpec:=mkS b9y b9I λx=>lH x.1 x.2
def b9x:List MG:=[(true,(.dat y24)),G7]
def b9H:Ret:=⟨[(.tmp 4,jc)],[]⟩
def d5v:Env:=⟨93,eqs,tt,gl,[(128,b8y),(130,b8A),(126,b1K)],[],[],[],[],[],[]⟩
def c5w:Ann:=.seq F6 (.seq F6 (.seq F6 (.seq (.seq F6 (.blk (.loop [(5,15),(19,92)] ⟨[(5,jc),(6,G7)],[]⟩ 0 ⟨[(5,jc)],[]⟩ (.seq F6 (.seq (.blk (.seq F6 (.seq F6 (.seq F6 (.seq (.seq F6 (.blk (.loop [(5,6),(13,14),(56,74),(24000000,24000001)] ⟨[(5,jc),(13,G7)],[]⟩ 2 ⟨[(5,jc)],[]⟩ F6))) (.seq F6 (.blk (.loop [(5,6),(14,15),(74,92),(55000000,55000001)] ⟨[(5,jc),(14,G7)],[]⟩ 4 ⟨[(5,jc)],[]⟩ F6)))))))) F6))))) F6)))
def Ag(A:D7)(B:Int):Option d5Y:=o5 (Gg A B) λx=>l7 (D6 x) (some []) (o5 (Y8 (λ(x:d5Y×Int)=>l7 (D8 x.2 (o9 A.2.2.2.2)) (o5 (G8 A.2.2.2.2 x.2) λj=>l7 (D6 (x8 j.2.1 B)) (some (.inl (x.1,x9 .i64 x.2 1))) (o5 (G8 A.2.2.2.2 x.2) λk=>o5 (oq k.2.2.2.2.2.1) λb=>o5 (G8 A.2.2.2.2 x.2) λn=>o5 (oq n.2.2.2.2.2.2.1) λc=>o5 (Y8 (λ(x:d5Y×Int)=>l7 (D8 x.2 (o9 b.2.1)) (o5 (G8 b.2.1 x.2) λp=>o5 (P7 b.2.1 (U8 x.2)) λg=>o5 (Gg A g) λi=>l7 i (o5 (G8 b.2.1 x.2) λq=>o5 (P7 b.2.1 (U8 x.2)) λd=>o5 (lH x.1 d) λf=>some (.inl (f,x9 .i64 x.2 1))) (some (.inl (x.1,x9 .i64 x.2 1)))) (some (.inr x.1))) (x.1,0)) λy=>o5 (Y8 (λ(x:d5Y×Int)=>l7 (D8 x.2 (o9 c.2.1)) (o5 (G8 c.2.1 x.2) λp=>o5 (P7 c.2.1 (U8 x.2)) λg=>o5 (Gg A g) λi=>l7 i (o5 (G8 c.2.1 x.2) λq=>o5 (P7 c.2.1 (U8 x.2)) λd=>o5 (lH x.1 d) λf=>some (.inl (f,x9 .i64 x.2 1))) (some (.inl (x.1,x9 .i64 x.2 1)))) (some (.inr x.1))) (y,0)) λy=>some (.inl (y,x9 .i64 x.2 1)))) (some (.inr x.1))) ([],0)) λy=>some y)
def b4Y:FSpec:=mkS b9x b9H λx=>Ag x.1 x.2
def c6f:List MG:=[(true,(.dat y24)),G7]
def d5O:Ret:=⟨[(.tmp 4,(false,(.fr (.int .i64))))],[]⟩
def e75:Env:=⟨47,eqs,tt,gl,[(125,b4Y),(126,b1K)],[],[],[],[],[],[]⟩
def d5u:Ann:=.seq F6 (.seq F6 (.seq (.seq F6 (.blk (.loop [(5,11),(14,46),(7000832,7000833)] ⟨[(5,(false,(.fr (.int .i64)))),(6,G7)],[]⟩ 0 ⟨[(5,(false,(.fr (.int .i64))))],[]⟩ (.seq F6 (.seq (.blk (.seq F6 (.seq F6 (.blk (.loop [(5,6),(8,11),(22,46)] ⟨[(5,(false,(.fr (.int .i64)))),(8,G7)],[]⟩ 2 ⟨[(5,(false,(.fr (.int .i64))))],[]⟩ (.seq F6 (.seq (.blk (.seq F6 (.seq F6 (.blk (.loop [(5,6),(10,11),(34,46)] ⟨[(5,(false,(.fr (.int .i64)))),(10,G7)],[]⟩ 4 ⟨[(5,(false,(.fr (.int .i64))))],[]⟩ F6))))) F6))))))) F6))))) F6))
def kz(A:D7)(B:Int):Option d5Y:=o5 (Ag A B) λx=>o5 (Y8 (λ(x:d5Y×Int)=>l7 (D8 x.2 (o9 A.2.2.2.1)) (o5 (Y8 (λ(c:d5Y×Int)=>l7 (D8 c.2 (o9 x.1)) (o5 (G8 x.1 c.2) λx=>o5 (Ag A x) λx=>o5 (Y8 (λ(b:d5Y×Int)=>l7 (D8 b.2 (o9 x)) (o5 (G8 x b.2) λd=>o5 (P7 x (U8 b.2)) λx=>o5 (lH b.1 x) λx=>some (.inl (x,x9 .i64 b.2 1))) (some (.inr b.1))) (c.1,0)) λy=>some (.inl (y,x9 .i64 c.2 1))) (some (.inr c.1))) (x.1,0)) λy=>some (.inl (y,x9 .i64 x.2 1))) (some (.inr x.1))) (x,0)) λy=>some y
def s75:FSpec:=⟨c6f,[jc],[],λx=>kz x.1 x.2⟩
def b9C:List MG:=[(true,(.dat y24)),G7]
def b9P:Ret:=⟨[(.tmp 4,(false,(.dat qK)))],[]⟩
def d5I:Env:=⟨47,eqs,tt,gl,[(125,b4Y),(126,b1K)],[],[],[],[],[],[]⟩
def c5K:Ann:=.seq F6 (.seq F6 (.seq (.seq F6 (.blk (.loop [(5,11),(14,46),(7000832,7000833)] ⟨[(5,(false,(.dat qK))),(6,G7)],[]⟩ 0 ⟨[(5,(false,(.dat qK)))],[]⟩ (.seq F6 (.seq (.blk (.seq F6 (.seq F6 (.blk (.loop [(5,6),(8,11),(22,46)] ⟨[(5,(false,(.dat qK))),(8,G7)],[]⟩ 2 ⟨[(5,(false,(.dat qK)))],[]⟩ (.seq F6 (.seq (.blk (.seq F6 (.seq F6 (.blk (.loop [(5,6),(10,11),(34,46)] ⟨[(5,(false,(.dat qK))),(10,G7)],[]⟩ 4 ⟨[(5,(false,(.dat qK)))],[]⟩ F6))))) F6))))))) F6))))) F6))
def b8Q:FSpec:=mkS b9C b9P λx=>kz x.1 x.2
def Aj(A:U4)(B:Int):Option N9:=o5 (G8 A.2.2 B) λx=>o5 (eY x.1) λg=>l7 (D6 g) (some (2,3,B,0)) (o5 (jU A 3 B x.1) λi=>l7 i (some (7,3,B,0)) (o5 (l7 (D6 (x8 x.2.1 (-1))) (l7 (D8 x.2.1 0) (some (.inr (6,3,B,0))) (l7 (J6 B x.2.1) (some (.inr (6,3,B,0))) (o5 (G8 A.2.2 x.2.1) λx=>l7 (D6 (x8 x.2.1 (-1))) (some (.inr (6,3,B,0))) (some (.inl ((0,0,0,0),0,3,B,0)))))) (some (.inl ((0,0,0,0),0,3,B,0)))) λo=>V5 o (λ(c:N9×N9)=>l7 (D8 12 (o9 x.2.2.1)) (some (4,c.2.2.1,c.2.2.2.1,112)) (l7 (D8 12 (o9 x.2.2.2.1)) (some (4,c.2.2.1,c.2.2.2.1,212)) (o5 (Ah A B) λf=>l7 (D6 (x8 f.1 0)) (some f) (o5 (U0 (λ(b:N9×Int)=>l7 (D8 b.2 (o9 x.2.2.2.2)) (o5 (BO A B b.2) λx=>l7 (D6 (x8 x 0)) (some (.rt (x,3,B,x9 .i64 300 b.2))) (some (.nx (b.1,x9 .i64 b.2 1)))) (some (.ex b.1))) (c.1,0)) λo=>V5 o (λ(y:N9)=>o5 (U0 (λ(b:N9×Int)=>l7 (D8 b.2 (o9 x.2.2.2.1)) (o5 (kz x b.2) λx=>o5 (U0 (λ(d:N9×Int)=>l7 (D8 d.2 (o9 x)) (o5 (G8 x d.2) λx=>l7 (x8 x b.2) (some (.rt (9,3,B,x9 .i64 200 b.2))) (some (.nx (d.1,x9 .i64 d.2 1)))) (some (.ex d.1))) (b.1,0)) λo=>V5 o (λ(y:N9)=>some (.nx (y,x9 .i64 b.2 1))) λr=>some (.rt r)) (some (.ex b.1))) (y,0)) λo=>V5 o (λ(y:N9)=>some (0,0,0,0)) λr=>some r) λr=>some r)))) λr=>some r))
def q67:FQ:=⟨[tD y27,G7],cR 4 99 (tD y42),mE 125 [(105,b1J),(106,b8x),(108,d0Q),(109,d0R),(75,b8Q)],sN 5 (Y3 (jnR [(4,5),(6,7),(33,59),(4000256,4000257),(10000384,10000385)] ⟨[(4,(false,(.box (dT y42)))),(6,(false,(.box (dT y42))))],[]⟩ F6) (sN 4 (Y3 (sN 1 (dE (qm [(4,5),(8,10),(80,98),(38000000,38000001)] ⟨[(4,(false,(.box (dT y42)))),(8,G7)],[]⟩ 0 ⟨[(4,(false,(.box (dT y42))))],[]⟩ F6))) (Y3 (sN 1 (dE (qm [(4,5),(10,13),(98,124),(102000000,102000001)] ⟨[(4,(false,(.box (dT y42)))),(10,G7)],[]⟩ 2 ⟨[(4,(false,(.box (dT y42))))],[]⟩ (sN 1 (Y3 (dE (sN 2 (dE (qm [(4,5),(12,13),(108,124),(132000000,132000001)] ⟨[(4,(false,(.box (dT y42)))),(12,G7)],[]⟩ 4 ⟨[(4,(false,(.box (dT y42))))],[]⟩ F6)))) F6))))) F6))))⟩
def s67:FSpec:=Y0 q67 λx=>Aj x.1 x.2
def wH(A:U4):Option N9:=l7 (D8 8 (o9 A.1)) (some (4,1,8,0)) (o5 (U0 (λ(x:N9×Int)=>l7 (D8 x.2 (o9 A.1)) (o5 (BM A x.2) λb=>l7 (D6 (x8 b.1 0)) (some (.rt b)) (some (.nx (x.1,x9 .i64 x.2 1)))) (some (.ex x.1))) ((0,0,0,0),0)) λo=>V5 o (λ(y:N9)=>l7 (D8 8 (o9 A.2.1)) (some (4,2,8,0)) (o5 (U0 (λ(x:N9×Int)=>l7 (D8 x.2 (o9 A.2.1)) (o5 (Ak A x.2) λb=>l7 (D6 (x8 b.1 0)) (some (.rt b)) (some (.nx (x.1,x9 .i64 x.2 1)))) (some (.ex x.1))) (y,0)) λo=>V5 o (λ(y:N9)=>l7 (D8 4 (o9 A.2.2)) (some (4,3,4,0)) (o5 (U0 (λ(x:N9×Int)=>l7 (D8 x.2 (o9 A.2.2)) (o5 (Aj A x.2) λb=>l7 (D6 (x8 b.1 0)) (some (.rt b)) (some (.nx (x.1,x9 .i64 x.2 1)))) (some (.ex x.1))) (y,0)) λo=>V5 o (λ(y:N9)=>some (0,0,0,0)) λr=>some r)) λr=>some r)) λr=>some r)
def q36:FQ:=⟨[tD y27],cR 2 99 (tD y42),mE 67 [(65,s65),(66,s66),(67,s67)],sN 2 (Y3 (sN 1 (dE (qm [(2,5),(14,28),(4000128,4000129)] ⟨[(2,(false,(.box (dT y42)))),(3,G7)],[]⟩ 0 ⟨[(2,(false,(.box (dT y42))))],[]⟩ F6))) (sN 1 (Y3 (sN 1 (dE (qm [(2,3),(5,7),(33,47),(22000000,22000001)] ⟨[(2,(false,(.box (dT y42)))),(5,G7)],[]⟩ 2 ⟨[(2,(false,(.box (dT y42))))],[]⟩ F6))) (sN 1 (Y3 (sN 1 (dE (qm [(2,3),(7,9),(52,66),(63000000,63000001)] ⟨[(2,(false,(.box (dT y42)))),(7,G7)],[]⟩ 4 ⟨[(2,(false,(.box (dT y42))))],[]⟩ F6))) F6)))))⟩
def s36:FSpec:=Y0 q36 λx=>wH x
def Il(A:List d5X)(B:List d5X):d6b:=l7 (D6 (x8 (o9 A) (o9 B))) (some false) (o5 (U0 (λ(x:Int)=>l7 (D8 x (o9 A)) (l7 (D8 x (o9 B)) (o5 (G8 A x) λb=>o5 (G8 B x) λc=>l7 (D6 (seq b c)) (some (.rt false)) (some (.nx (x9 .i64 x 1)))) (some (.ex ()))) (some (.ex ()))) 0) λo=>V5 o (λy=>some true) λr=>some r)
def c7l:FQ:=⟨[uD (.sl .str),(uD (.sl .str))],tR 4 eF,mE 32 [],sN 2 (Y3 (sN 1 (dE (qm [(4,6),(11,32)] ⟨[(5,G7)],[]⟩ 0 nZ F6))) F6)⟩
def d1D:FSpec:=Y0 c7l λx=>Il x.1 x.2
def QS(A:gI)(B:gI):d6b:=l7 (seq A.1 B.1) (o5 (Il A.2 B.2) λx=>some x) (some false)
def c6q:FQ:=⟨[tD y0,tD y0],tR 4 eF,mE 17 [(177,d1D)],F6⟩
def d0S:FSpec:=Y0 c6q λx=>QS x.1 x.2
def NG(A:List gI)(B:List gI):d6b:=l7 (D6 (x8 (o9 A) (o9 B))) (some false) (o5 (U0 (λ(x:Int)=>l7 (D8 x (o9 A)) (l7 (D8 x (o9 B)) (o5 (G8 A x) λb=>o5 (G8 B x) λc=>o5 (QS b c) λd=>l7 (D6 d) (some (.rt false)) (some (.nx (x9 .i64 x 1)))) (some (.ex ()))) (some (.ex ()))) 0) λo=>V5 o (λy=>some true) λr=>some r)
def q68:FQ:=⟨[uD y1,uD y1],tR 4 eF,mE 33 [(110,d0S)],sN 2 (Y3 (sN 1 (dE (qm [(4,6),(11,33)] ⟨[(5,G7)],[]⟩ 0 nZ F6))) F6)⟩
def s68:FSpec:=Y0 q68 λx=>NG x.1 x.2
def QT(A:List xH)(B:List xH):d6b:=l7 (D6 (x8 (o9 A) (o9 B))) (some false) (o5 (U0 (λ(x:Int)=>l7 (D8 x (o9 A)) (l7 (D8 x (o9 B)) (o5 (G8 A x) λb=>o5 (G8 B x) λc=>l7 (D6 (U6 (x8 b.1.1 c.1.1) (U6 (x8 b.1.2 c.1.2) (U6 (x8 b.2.1 c.2.1) (U6 (x8 b.2.2.1 c.2.2.1) (x8 b.2.2.2 c.2.2.2)))))) (some (.rt false)) (some (.nx (x9 .i64 x 1)))) (some (.ex ()))) (some (.ex ()))) 0) λo=>V5 o (λy=>some true) λr=>some r)
def c7m:FQ:=⟨[uD y5,uD y5],tR 4 eF,mE 32 [],sN 2 (Y3 (sN 1 (dE (qm [(4,6),(11,32)] ⟨[(5,G7)],[]⟩ 0 nZ F6))) F6)⟩
def d1E:FSpec:=Y0 c7m λx=>QT x.1 x.2
def NH(A:dC)(B:dC):d6b:=l7 (seq A.1 B.1) (l7 (U6 (x8 A.2.1.1 B.2.1.1) (x8 A.2.1.2 B.2.1.2)) (l7 (U6 (x8 A.2.2.1.1 B.2.2.1.1) (x8 A.2.2.1.2 B.2.2.1.2)) (o5 (QT A.2.2.2 B.2.2.2) λx=>some x) (some false)) (some false)) (some false)
def c6r:FQ:=⟨[tD y8,tD y8],tR 4 eF,mE 31 [(178,d1E)],F6⟩
def d0T:FSpec:=Y0 c6r λx=>NH x.1 x.2
def Kt(A:List dC)(B:List dC):d6b:=l7 (D6 (x8 (o9 A) (o9 B))) (some false) (o5 (U0 (λ(x:Int)=>l7 (D8 x (o9 A)) (l7 (D8 x (o9 B)) (o5 (G8 A x) λb=>o5 (G8 B x) λc=>o5 (NH b c) λd=>l7 (D6 d) (some (.rt false)) (some (.nx (x9 .i64 x 1)))) (some (.ex ()))) (some (.ex ()))) 0) λo=>V5 o (λy=>some true) λr=>some r)
def q69:FQ:=⟨[uD y9,uD y9],tR 4 eF,mE 33 [(111,d0T)],sN 2 (Y3 (sN 1 (dE (qm [(4,6),(11,33)] ⟨[(5,G7)],[]⟩ 0 nZ F6))) F6)⟩
def s69:FSpec:=Y0 q69 λx=>Kt x.1 x.2
def zx(A:List gu)(B:List gu):d6b:=l7 (D6 (x8 (o9 A) (o9 B))) (some false) (o5 (U0 (λ(x:Int)=>l7 (D8 x (o9 A)) (l7 (D8 x (o9 B)) (o5 (G8 A x) λb=>o5 (G8 B x) λc=>l7 (D6 (U6 (seq b.1 c.1) (U6 (x8 b.2.1 c.2.1) (x8 b.2.2 c.2.2)))) (some (.rt false)) (some (.nx (x9 .i64 x 1)))) (some (.ex ()))) (some (.ex ()))) 0) λo=>V5 o (λy=>some true) λr=>some r)
def q70:FQ:=⟨[uD y11,uD y11],tR 4 eF,mE 32 [],sN 2 (Y3 (sN 1 (dE (qm [(4,6),(11,32)] ⟨[(5,G7)],[]⟩ 0 nZ F6))) F6)⟩
def s70:FSpec:=Y0 q70 λx=>zx x.1 x.2
def vG(A:U4)(B:U4):d6b:=o5 (o5 (NG A.1 B.1) λx=>l7 (D6 x) (some (.inr false)) (o5 (Kt A.2.1 B.2.1) λx=>l7 (D6 x) (some (.inr false)) (l7 (D6 (x8 (o9 A.2.2) (o9 B.2.2))) (some (.inr false)) (some (.inl ()))))) λo=>V5 o (λx=>o5 (U0 (λ(x:Int)=>l7 (D8 x (o9 A.2.2)) (o5 (G8 A.2.2 x) λb=>o5 (G8 B.2.2 x) λc=>l7 (D6 (seq b.1 c.1)) (some (.rt false)) (l7 (D6 (x8 b.2.1 c.2.1)) (some (.rt false)) (o5 (zx b.2.2.1 c.2.2.1) λd=>l7 (D6 d) (some (.rt false)) (o5 (zx b.2.2.2.1 c.2.2.2.1) λf=>l7 (D6 f) (some (.rt false)) (some (.nx (x9 .i64 x 1))))))) (some (.ex ()))) 0) λo=>V5 o (λy=>some true) λr=>some r) λr=>some r
def q37:FQ:=⟨[tD y27,tD y27],tR 4 eF,mE 76 [(68,s68),(69,s69),(70,s70)],sN 1 (Y3 (jnR [(4,5),(8,31)] nZ F6) (Y3 (sN 1 (dE (qm [(4,8),(31,76)] ⟨[(5,G7)],[]⟩ 0 nZ F6))) F6))⟩
def s37:FSpec:=Y0 q37 λx=>vG x.1 x.2
def KU(A:U4):d6b:=o5 (wH A) λx=>some (x8 x.1 0)
def c6s:FQ:=⟨[tD y27],tR 2 eF,mE 7 [(36,s36)],F6⟩
def d0U:FSpec:=Y0 c6s λx=>KU x
def Tu(A:J3):Option I9:=some (A.1,A.2.1)
def c7M:FQ:=⟨[tD y3],cR 2 75 (tD y2),mE 8 [],F6⟩
def d2b:FSpec:=Y0 c7M λx=>Tu x
def Am(A:U4)(B:List gu)(C:List J3):Option I9:=l7 (D8 (o9 C) (o9 B)) (some (o9 C,5)) (l7 (D8 (o9 B) (o9 C)) (some (o9 B,4)) (o5 (U0 (λ(x:Int)=>l7 (D8 x (o9 C)) (o5 (G8 C x) λd=>o5 (Tu d) λb=>o5 (G8 B x) λc=>l7 (D6 (U6 (x8 b.1 c.2.1) (x8 b.2 c.2.2))) (some (.rt (x,8))) (o5 (G8 C x) λf=>o5 (G8 B x) λg=>o5 (Jg f.2.2 g.2 A.1) λi=>l7 (D6 i) (some (.rt (x,3))) (some (.nx (x9 .i64 x 1))))) (some (.ex ()))) 0) λo=>V5 o (λy=>some (0,0)) λr=>some r))
def c7n:FQ:=⟨[tD y27,uD y11,uD y29],⟨[(.tmp 6,G7),(.tmp 7,G7)],[]⟩,mE 56 [(220,d2b),(216,c1h)],sN 3 (Y3 (sN 1 (dE (qm [(6,9),(23,56)] ⟨[(8,G7)],[]⟩ 0 nZ F6))) F6)⟩
def d1F:FSpec:=Y0 c7n λx=>Am x.1 x.2.1 x.2.2
def FK(A:U4)(B:Int):Option I9:=o5 (G8 A.2.2 B) λx=>l7 (D8 x.2.1 0) (some (-1,0)) (l7 (J6 (o9 A.2.2) x.2.1) (some (-1,0)) (some (x.2.1,8)))
def c7o:FQ:=⟨[tD y27,G7],⟨[(.tmp 4,G7),(.tmp 5,G7)],[]⟩,mE 23 [],F6⟩
def d1G:FSpec:=Y0 c7o λx=>FK x.1 x.2
def Ee(A:U4)(B:Int)(C:fM):Option J3:=o5 (l7 (D8 B 0) (some (.inr (-1,-1,6))) (l7 (J6 (o9 A.2.2) B) (some (.inr (-1,-1,6))) (some (.inl ())))) λo=>V5 o (λx=>o5 (l7 (D8 C.1 0) (some (.inr (-1,-1,3))) (l7 (D8 109572 C.1) (some (.inr (-1,-1,3))) (some (.inl ())))) λo=>V5 o (λx=>o5 (G8 A.2.2 B) λx=>o5 (Am A x.2.2.1 C.2.1) λx=>l7 (D6 (x8 x.2 0)) (some (-1,x)) (o5 (FK A B) λx=>l7 (D8 x.2 (o9 C.2.2)) (some (x.2,-1,4)) (o5 (U0 (λ(b:Int)=>l7 (D8 b (o9 C.2.2)) (o5 (G8 A.2.2 x.1) λx=>o5 (G8 C.2.2 b) λc=>o5 (Am A x.2.2.1 c) λx=>l7 (D6 (x8 x.2 0)) (some (.rt (b,x))) (some (.nx (x9 .i64 b 1)))) (some (.ex ()))) 0) λo=>V5 o (λy=>some (0,0,0)) λr=>some r))) λr=>some r) λr=>some r
def c6t:FQ:=⟨[tD y27,G7,tD y32],⟨[(.tmp 6,G7),(.tmp 7,G7),(.tmp 8,G7)],[]⟩,mE 90 [(179,d1F),(180,d1G)],sN 1 (Y3 (jnR [(6,9),(16,25)] nZ F6) (Y3 (jnR [(6,9),(25,33)] nZ F6) (sN 4 (Y3 (sN 1 (dE (qm [(6,9),(13,16),(62,90)] ⟨[(13,G7)],[]⟩ 0 nZ F6))) F6))))⟩
def d0V:FSpec:=Y0 c6t λx=>Ee x.1 x.2.1 x.2.2
def Ef(A:U4)(B:Int)(C:fM)(D:Int)(E:Bool):Option N9:=o5 (KU A) λx=>l7 (D6 x) (some (1,-1,-1,-1)) (o5 (l7 (D8 B 0) (some (.inr (6,-1,-1,-1))) (l7 (J6 (o9 A.2.2) B) (some (.inr (6,-1,-1,-1))) (l7 E (l7 (D8 D 0) (some (.inr (6,-1,-1,-1))) (o5 (G8 A.2.2 B) λx=>l7 (J6 (o9 x.2.2.2.1) D) (some (.inr (6,-1,-1,-1))) (some (.inl (0,0,0,0))))) (some (.inl (0,0,0,0)))))) λo=>V5 o (λ(x:N9)=>o5 (Ee A B C) λx=>l7 (D6 (x8 x.2.2 0)) (some (x.2.2,x.1,-1,-1)) (some (0,0,0,0))) λr=>some r)
def q71:FQ:=⟨[tD y27,G7,tD y32,G7,eF],cR 10 112 (tD y42),mE 60 [(112,d0U),(113,d0V)],sN 2 (Y3 (jnR [(10,11),(18,46),(4000640,4000641)] ⟨[(10,(false,(.box (dT y42))))],[]⟩ F6) F6)⟩
def s71:FSpec:=Y0 q71 λx=>Ef x.1 x.2.1 x.2.2.1 x.2.2.2.1 x.2.2.2.2
def Be(A:D7)(B:List Bool)(C:Int):Option (List Bool):=o5 (G8 B C) λx=>o5 (P7 B (U8 C)) λx=>o5 (kz A C) λx=>o5 (Y8 (λ(b:List Bool×Int)=>l7 (D8 b.2 (o9 x)) (o5 (G8 x b.2) λx=>o5 (G8 b.1 x) λc=>o5 (P7 b.1 (U8 x)) λd=>some (.inl (aW b.1 (U8 x) true,x9 .i64 b.2 1))) (some (.inr b.1))) (aW B (U8 C) true,0)) λy=>some y
def c6u:FQ:=⟨[tD y24,(false,(.ownb .bool)),G7],⟨[],[(1,(uO .bool))]⟩,⟨26,eqs,tt,gl,[(75,b8Q)],[],[],[],[1],[],[]⟩,sN 4 (dE (.loop [(1,2),(7,8),(14,26),(1000000,1000001)] ⟨[(1,(uO .bool)),(7,G7)],[]⟩ 0 ⟨[(1,(uO .bool))],[]⟩ F6))⟩
def c0Z:FSpec:=Y0 c6u λx=>Be x.1 x.2.1 x.2.2
def mY(A:U4)(B:Int):Option D7:=o5 (G8 A.2.2 B) λx=>l7 (D8 x.2.1 0) (some ([],0,[],[],[])) (l7 (J6 (o9 A.2.2) x.2.1) (some ([],0,[],[],[])) (o5 (G8 A.2.2 x.2.1) λx=>some x))
def c6v:FQ:=⟨[tD y27,G7],cR 4 82 (tD y24),mE 27 [],F6⟩
def b4X:FSpec:=Y0 c6v λx=>mY x.1 x.2
def CZ(A:d5Y)(B:Int):d6b:=o5 (U0 (λ(x:Int)=>l7 (D8 x (o9 A)) (o5 (G8 A x) λb=>l7 (x8 b B) (some (.rt true)) (some (.nx (x9 .i64 x 1)))) (some (.ex ()))) 0) λo=>V5 o (λy=>some false) λr=>some r
def c6G:FQ:=⟨[uD qK,G7],tR 4 eF,mE 18 [],sN 1 (Y3 (sN 1 (dE (qm [(4,18)] ⟨[(5,G7)],[]⟩ 0 nZ F6))) F6)⟩
def b8z:FSpec:=Y0 c6G λx=>CZ x.1 x.2
def wG(A:D7)(B:Int):Option d5Y:=o5 (Gg A B) λx=>l7 (D6 x) (some []) (o5 (kz A B) λx=>o5 (lH x B) λx=>o5 (Y8 (λ(b:d5Y×Int)=>l7 (D8 b.2 (o9 A.2.2.2.2)) (o5 (G8 A.2.2.2.2 b.2) λg=>o5 (CZ x g.2.1) λx=>l7 (D6 x) (some (.inl (b.1,x9 .i64 b.2 1))) (o5 (G8 A.2.2.2.2 b.2) λx=>o5 (oq x.2.2.2.2.2.1) λx=>o5 (G8 A.2.2.2.2 b.2) λi=>o5 (oq i.2.2.2.2.2.2.1) λd=>o5 (Y8 (λ(c:d5Y×Int)=>l7 (D8 c.2 (o9 x.2.2)) (o5 (G8 x.2.2 c.2) λf=>o5 (P7 x.2.2 (U8 c.2)) λx=>o5 (lH c.1 x) λx=>some (.inl (x,x9 .i64 c.2 1))) (some (.inr c.1))) (b.1,0)) λy=>o5 (Y8 (λ(x:d5Y×Int)=>l7 (D8 x.2 (o9 d.2.2)) (o5 (G8 d.2.2 x.2) λc=>o5 (P7 d.2.2 (U8 x.2)) λf=>o5 (lH x.1 f) λj=>some (.inl (j,x9 .i64 x.2 1))) (some (.inr x.1))) (y,0)) λy=>some (.inl (y,x9 .i64 b.2 1)))) (some (.inr b.1))) ([],0)) λy=>some y)
def q77:FQ:=⟨[tD y24,G7],tR 4 jc,mE 88 [(128,b8y),(75,b8Q),(126,b1K),(129,b8z),(130,b8A)],sN 4 (Y3 (sN 1 (dE (.loop [(6,16),(25,87)] ⟨[(6,jc),(7,G7)],[]⟩ 0 ⟨[(6,jc)],[]⟩ (sN 1 (Y3 (dE (sN 3 (Y3 (sN 1 (dE (.loop [(6,7),(14,15),(63,75),(27000000,27000001)] ⟨[(6,jc),(14,G7)],[]⟩ 2 ⟨[(6,jc)],[]⟩ F6))) (sN 1 (dE (.loop [(6,7),(15,16),(75,87),(58000000,58000001)] ⟨[(6,jc),(15,G7)],[]⟩ 4 ⟨[(6,jc)],[]⟩ F6)))))) F6))))) F6)⟩
def s77:FSpec:=Y0 q77 λx=>wG x.1 x.2
def uA(A:U4)(B:Int)(C:List Bool)(D:Int):Option (List Bool):=o5 (G8 A.2.2 B) λx=>o5 (wG x D) λx=>o5 (Y8 (λ(b:List Bool×Int)=>l7 (D8 b.2 (o9 x)) (o5 (mY A B) λc=>o5 (G8 x b.2) λd=>o5 (P7 x (U8 b.2)) λx=>o5 (Be c b.1 x) λx=>some (.inl (x,x9 .i64 b.2 1))) (some (.inr b.1))) (C,0)) λy=>some y
def c6w:FQ:=⟨[tD y27,G7,(false,(.ownb .bool)),G7],⟨[],[(2,(uO .bool))]⟩,⟨32,eqs,tt,gl,[(77,s77),(115,b4X),(114,c0Z)],[],[],[],[2],[],[]⟩,sN 3 (dE (.loop [(2,3),(9,10),(17,32),(1000000,1000001)] ⟨[(2,(uO .bool)),(9,G7)],[]⟩ 0 ⟨[(2,(uO .bool))],[]⟩ F6))⟩
def d0W:FSpec:=Y0 c6w λx=>uA x.1 x.2.1 x.2.2.1 x.2.2.2
def GG(A:U4)(B:fM)(C:Int):Option dJ:=o5 (G8 B.2.2 C) λx=>some (B.1,x,[],[],[],A.2.1)
def c7p:FQ:=⟨[tD y27,tD y32,G7],cR 6 178 (tD y62),mE 17 [],F6⟩
def d1H:FSpec:=Y0 c7p λx=>GG x.1 x.2.1 x.2.2
def Dc(A:D7)(B:Int)(C:d5Y):d6b:=o5 (Ag A B) λx=>o5 (U0 (λ(b:Int)=>l7 (D8 b (o9 x)) (o5 (G8 x b) λc=>o5 (P7 x (U8 b)) λx=>o5 (CZ C x) λx=>l7 (D6 x) (some (.rt false)) (some (.nx (x9 .i64 b 1)))) (some (.ex ()))) 0) λo=>V5 o (λy=>some true) λr=>some r
def c7N:FQ:=⟨[tD y24,G7,uD qK],tR 6 eF,mE 25 [(125,b4Y),(129,b8z)],sN 2 (Y3 (sN 1 (dE (qm [(6,7),(8,9),(12,25)] ⟨[(8,G7)],[]⟩ 0 nZ F6))) F6)⟩
def d2c:FSpec:=Y0 c7N λx=>Dc x.1 x.2.1 x.2.2
def sU(A:D7):Option (d5Y×Int):=o5 (U0 (λ(x:d5Y)=>l7 (D8 (o9 x) (o9 A.2.2.2.1)) (o5 (Y8 (λ(b:Int)=>l7 (D8 b (o9 A.2.2.2.1)) (o5 (CZ x b) λc=>l7 c (some (.inl (x9 .i64 b 1))) (o5 (Dc A b x) λx=>l7 (D6 x) (some (.inl (x9 .i64 b 1))) (some (.inr b)))) (some (.inr b))) 0) λy=>l7 (x8 y (o9 A.2.2.2.1)) (some (.rt ([],9))) (o5 (bz x [y]) λx=>some (.nx x))) (some (.ex x))) []) λo=>V5 o (λ(y:d5Y)=>some (y,0)) λr=>some r
def c7q:FQ:=⟨[tD y24],⟨[(.tmp 2,jc),(.tmp 3,G7)],[]⟩,mE 41 [(129,b8z),(221,d2c)],sN 2 (Y3 (dE (qm [(2,40)] ⟨[(4,jc)],[]⟩ 0 ⟨[(4,jc)],[]⟩ (sN 1 (dE (sN 1 (Y3 (dE (.loop [(5,6),(12,31)] ⟨[(5,G7)],[]⟩ 2 ⟨[(5,G7)],[]⟩ F6)) F6)))))) F6)⟩
def d1I:FSpec:=Y0 c7q λx=>sU x
def wE(A:I9)(B:Int):d6b:=o5 (zk A) λx=>l7 x (l7 (J6 A.1 B) (some (D8 B A.2)) (some false)) (some false)
def c8W:FQ:=⟨[tD y2,G7],tR 4 eF,mE 19 [(173,b5g)],F6⟩
def b8H:FSpec:=Y0 c8W λx=>wE x.1 x.2
def FI(A:D7)(B:Int)(C:Int):Option d5Y:=o5 (Y8 (λ(x:d5Y×Int)=>l7 (D8 x.2 (o9 A.2.2.2.2)) (o5 (G8 A.2.2.2.2 x.2) λb=>l7 (x8 b.2.1 B) (o5 (G8 A.2.2.2.2 x.2) λc=>o5 (wE c.2.2.2.2.1 C) λd=>l7 d (o5 (bz x.1 [x.2]) λf=>some (.inl (f,x9 .i64 x.2 1))) (some (.inl (x.1,x9 .i64 x.2 1)))) (some (.inl (x.1,x9 .i64 x.2 1)))) (some (.inr x.1))) ([],0)) λy=>some y
def c8y:FQ:=⟨[tD y24,G7,G7],tR 6 jc,mE 39 [(321,b8H)],sN 2 (Y3 (sN 1 (dE (.loop [(7,38)] ⟨[(7,jc),(8,G7)],[]⟩ 0 ⟨[(7,jc)],[]⟩ F6))) F6)⟩
def d2E:FSpec:=Y0 c8y λx=>FI x.1 x.2.1 x.2.2
def Gf(A:d5Y)(B:Int):d6c:=o5 (U0 (λ(x:Int)=>l7 (D8 x (o9 A)) (o5 (G8 A x) λb=>l7 (x8 b B) (some (.rt x)) (some (.nx (x9 .i64 x 1)))) (some (.ex ()))) 0) λo=>V5 o (λy=>some (-1)) λr=>some r
def c8X:FQ:=⟨[uD qK,G7],tR 4 G7,mE 19 [],sN 1 (Y3 (sN 1 (dE (qm [(4,19)] ⟨[(5,G7)],[]⟩ 0 nZ F6))) F6)⟩
def d2W:FSpec:=Y0 c8X λx=>Gf x.1 x.2
def Ia(A:D7)(B:d5Y)(C:Int):d6c:=o5 (G8 A.2.2.2.2 C) λx=>o5 (U0 (λ(x:I9)=>l7 (J6 0 x.2) (l7 (D8 x.2 x.1) (o5 (Gf B x.2) λb=>l7 (J6 0 b) (some (.rt b)) (o5 (G8 A.2.2.2.2 x.2) λc=>some (.nx (x.2,c.2.2.1)))) (some (.ex ()))) (some (.ex ()))) (C,x.2.2.1)) λo=>V5 o (λy=>some (-1)) λr=>some r
def c8A:FQ:=⟨[tD y24,uD qK,G7],tR 6 G7,mE 35 [(322,d2W)],sN 2 (Y3 (dE (qm [(2,3),(6,9),(15,35)] ⟨[(2,G7),(7,G7)],[]⟩ 0 nZ F6)) F6)⟩
def d2F:FSpec:=Y0 c8A λx=>Ia x.1 x.2.1 x.2.2
def HY(A:D7)(B:Int)(C:Int):Option lg:=o5 (FI A B C) λx=>o5 (Y8 (λ(b:d5Y×d5Y×Int)=>l7 (D8 b.2.2 (o9 x)) (o5 (G8 x b.2.2) λg=>o5 (P7 x (U8 b.2.2)) λc=>o5 (Ia A x c) λd=>o5 (bz b.1 [d]) λf=>o5 (G8 x b.2.2) λi=>o5 (P7 x (U8 b.2.2)) λx=>o5 (G8 A.2.2.2.2 x) λx=>o5 (bz b.2.1 [x.2.2.2.1]) λx=>some (.inl (f,x,x9 .i64 b.2.2 1))) (some (.inr (b.1,b.2.1)))) ([],[],0)) λy=>some (x,y)
def c8d:FQ:=⟨[tD y24,G7,G7],⟨[(.tmp 6,jc),(.tmp 7,jc),(.tmp 8,jc)],[]⟩,mE 48 [(293,d2E),(294,d2F)],sN 3 (Y3 (sN 1 (dE (.loop [(10,13),(17,45)] ⟨[(10,jc),(11,jc),(12,G7)],[]⟩ 0 ⟨[(10,jc),(11,jc)],[]⟩ F6))) F6)⟩
def d2n:FSpec:=Y0 c8d λx=>HY x.1 x.2.1 x.2.2
def Nu(A:List I9):Option (d5Y×Int):=o5 (tX A) λx=>some (x.1,x.2.2)
def c8f:FQ:=⟨[uD y12],⟨[(.tmp 2,jc),(.tmp 3,G7)],[]⟩,mE 15 [(254,b8E)],F6⟩
def d2p:FSpec:=Y0 c8f λx=>Nu x
def zl(A:List I9)(B:Int):Option d5Y:=o5 (tX A) λx=>o5 (l7 (D6 (x8 x.2.2 0)) (some (.inr [])) (l7 (D8 B 0) (some (.inr [])) (l7 (J6 (o9 A) B) (some (.inr [])) (some (.inl ()))))) λo=>V5 o (λg=>o5 (G8 A B) λd=>o5 (jo d.1) λc=>o5 (qo c 0) λf=>o5 (Y8 (λ(b:d5Y×I9)=>l7 (J6 0 b.2.2) (o5 (G8 b.1 b.2.2) λi=>o5 (P7 b.1 (U8 b.2.2)) λj=>o5 (G8 x.1 b.2.1) λk=>o5 (P7 x.1 (U8 b.2.1)) λx=>some (.inl (aW b.1 (U8 b.2.2) b.2.1,H9 .i64 x 1,H9 .i64 b.2.2 1))) (some (.inr b.1))) (f,H9 .i64 B 1,H9 .i64 c 1)) λy=>some y) λr=>some r
def c8C:FQ:=⟨[uD y12,G7],tR 4 jc,mE 56 [(254,b8E),(255,b5s)],sN 2 (Y3 (jnR [(4,5),(18,30)] nZ F6) (sN 3 (Y3 (sN 1 (dE (.loop [(9,12),(42,55),(23002368,23002369)] ⟨[(9,jc),(10,G7),(11,G7)],[]⟩ 0 ⟨[(9,jc)],[]⟩ F6))) F6)))⟩
def d2I:FSpec:=Y0 c8C λx=>zl x.1 x.2
def Ae(A:Int):Option I9:=l7 (x8 A 1) (some (0,1)) (l7 (x8 A 2) (some (-1000000000000,1000000000000)) (l7 (x8 A 3) (some (-1000000000000000,1000000000000000)) (l7 (x8 A 4) (some (-1000000000,1000000000)) (l7 (x8 A 5) (some (0,109572)) (l7 (x8 A 6) (some (0,15)) (some (0,-1)))))))
def c9u:FQ:=⟨[G7],⟨[(.tmp 2,G7),(.tmp 3,G7)],[]⟩,mE 17 [],F6⟩
def c1u:FSpec:=Y0 c9u λx=>Ae x
def gJ(A:J3):d6b:=o5 (Ae A.1) λx=>l7 (D8 A.2.2 x.1) (some false) (l7 (D8 x.2 A.2.2) (some false) (l7 (x8 A.1 6) (l7 (J6 0 A.2.1) (some (D8 A.2.1 8)) (some false)) (some (x8 A.2.1 0))))
def c8Y:FQ:=⟨[tD y3],tR 2 eF,mE 35 [(350,c1u)],F6⟩
def a7N:FSpec:=Y0 c8Y λx=>gJ x
def uV(A:Int):d6b:=o5 (l7 (J6 1 A) (l7 (J6 A 8) (some (.inr true)) (l7 (J6 36 A) (l7 (J6 A 39) (some (.inr true)) (some (.inl ()))) (some (.inl ())))) (l7 (J6 36 A) (l7 (J6 A 39) (some (.inr true)) (some (.inl ()))) (some (.inl ())))) λo=>V5 o (λx=>l7 (x8 A 14) (some true) (l7 (x8 A 15) (some true) (l7 (x8 A 16) (some true) (l7 (x8 A 33) (some true) (some (x8 A 34)))))) λr=>some r
def c9v:FQ:=⟨[G7],tR 2 eF,mE 35 [],sN 1 (Y3 (jnR [(2,17)] nZ F6) F6)⟩
def d3o:FSpec:=Y0 c9v λx=>uV x
def Eb(A:I9)(B:Int):d6b:=o5 (o5 (jo A.1) λx=>l7 (D6 (x8 x B)) (some (.inr false)) (l7 (D6 (x8 A.2 0)) (o5 (uV A.1) λx=>l7 (D6 x) (some (.inr false)) (some (.inl ()))) (some (.inl ())))) λo=>V5 o (λx=>o5 (l7 (x8 A.1 14) (some (x8 A.1 14)) (l7 (x8 A.1 15) (some (x8 A.1 15)) (some (x8 A.1 16)))) λx=>l7 x (l7 (J6 0 A.2) (some (J6 A.2 5)) (some false)) (l7 (x8 A.1 34) (l7 (J6 0 A.2) (some (J6 (eU A.2 8) 5)) (some false)) (l7 (x8 A.1 6) (some (J6 0 A.2)) (some true)))) λr=>some r
def c8Z:FQ:=⟨[tD y2,G7],tR 4 eF,mE 51 [(255,b5s),(351,d3o)],sN 1 (Y3 (jnR [(4,21)] nZ F6) (Y3 (sN 1 (dE (Y3 (.join [(23,27)] ⟨[(23,eF)],[]⟩ F6) F6))) F6))⟩
def d2X:FSpec:=Y0 c8Z λx=>Eb x.1 x.2
def PN(A:I9)(B:dJ):d6b:=l7 (x8 A.1 7) (l7 (J6 0 A.2) (some (D8 A.2 (o9 B.2.1))) (some false)) (l7 (x8 A.1 8) (l7 (J6 0 A.2) (l7 (D8 A.2 (o9 B.2.2.1)) (o5 (G8 B.2.2.1 A.2) λx=>some (D6 (x8 x.1 0))) (some false)) (some false)) (l7 (x8 A.1 33) (l7 (J6 0 A.2) (some (D8 A.2 (o9 B.2.2.2.2.2))) (some false)) (l7 (x8 A.1 34) (some (D8 (eH .i64 A.2 8) (o9 B.2.2.2.2.2))) (o5 (l7 (x8 A.1 36) (some (x8 A.1 36)) (l7 (x8 A.1 37) (some (x8 A.1 37)) (l7 (x8 A.1 38) (some (x8 A.1 38)) (some (x8 A.1 39))))) λx=>l7 x (l7 (J6 0 A.2) (some (D8 A.2 (o9 B.2.2.2.2.1))) (some false)) (some true)))))
def c9a:FQ:=⟨[tD y2,tD y62],tR 4 eF,mE 81 [],sN 1 (Y3 (sN 1 (dE (sN 1 (.cond F6 (sN 1 (.cond F6 (sN 1 (.cond F6 (sN 1 (.cond F6 (Y3 (.join [(65,70)] ⟨[(65,eF)],[]⟩ F6) F6))))))))))) F6)⟩
def d2Y:FSpec:=Y0 c9a λx=>PN x.1 x.2
def FH(A:Int)(B:I9):d6b:=l7 (D6 (x8 B.2 0)) (some false) (l7 (x8 A 36) (l7 (x8 B.1 2) (some true) (some (x8 B.1 3))) (l7 (x8 A 39) (l7 (J6 2 B.1) (some (J6 B.1 5)) (some false)) (some (x8 B.1 1))))
def c9w:FQ:=⟨[G7,tD y2],tR 4 eF,mE 32 [],F6⟩
def d3p:FSpec:=Y0 c9w λx=>FH x.1 x.2
def QM(A:J3)(B:I9):d6b:=o5 (gJ A) λx=>l7 x (l7 (x8 A.1 B.1) (some (x8 A.2.1 B.2)) (some false)) (some false)
def c9x:FQ:=⟨[tD y3,tD y2],tR 4 eF,mE 21 [(325,a7N)],F6⟩
def d3q:FSpec:=Y0 c9x λx=>QM x.1 x.2
def Nw(A:Int)(B:Int)(C:Int)(D:Bool):d6c:=l7 (x8 A 36) (some (x9 .i64 B C)) (l7 (x8 A 37) (some (Z4 .i64 B C)) (l7 (x8 A 38) (l7 (D8 B C) (some C) (some B)) (l7 D (some C) (l7 (D8 B C) (some C) (some B)))))
def c9y:FQ:=⟨[G7,G7,G7,eF],tR 8 G7,mE 35 [],F6⟩
def d3r:FSpec:=Y0 c9y λx=>Nw x.1 x.2.1 x.2.2.1 x.2.2.2
def dM(A:Int)(B:Int):Option (J3×Int):=o5 (gJ (A,0,B)) λx=>l7 (D6 x) (some ((0,0,0),3)) (some ((A,0,B),0))
def c9z:FQ:=⟨[G7,G7],⟨[(.cell 4 51,tD y3),(.tmp 5,G7)],[]⟩,mE 15 [(325,a7N)],F6⟩
def a5z:FSpec:=Y0 c9z λx=>dM x.1 x.2
def Bc(A:I9)(B:dJ):Option (J3×Int):=o5 (G8 B.2.2.2.2.1 A.2) λx=>o5 (FH A.1 x) λf=>l7 (D6 f) (some ((0,0,0),8)) (o5 (l7 (x8 A.1 37) (some 1) (some 0)) λg=>o5 (U0 (λ(b:J3×I9)=>l7 (D8 b.2.2 (o9 B.2.2.2.1)) (o5 (G8 B.2.2.2.1 b.2.2) λc=>o5 (l7 (J6 (o9 c) A.2) (some (.inr ((0,0,0),6))) (o5 (G8 c A.2) λx=>l7 (x8 x.1 0) (some (.inr ((0,0,0),6))) (some (.inl b.1)))) λo=>V5 o (λ(i:J3)=>o5 (G8 c A.2) λj=>o5 (QM j x) λk=>l7 (D6 k) (some (.rt ((0,0,0),8))) (o5 (G8 c A.2) λn=>o5 (Nw A.1 b.2.1 n.2.2 (x8 b.2.2 0)) λd=>o5 (dM x.1 d) λx=>l7 (D6 (x8 x.2 0)) (some (.rt ((0,0,0),x.2))) (some (.nx (i,d,x9 .i64 b.2.2 1))))) λr=>some (.rt r)) (some (.ex (b.1,b.2.1)))) ((0,0,0),g,0)) λo=>V5 o (λ(y:J3×Int)=>l7 (x8 A.1 39) (l7 (x8 (o9 B.2.2.2.1) 0) (some ((0,0,0),6)) (o5 (dM x.1 y.2) λx=>some x)) (o5 (dM x.1 y.2) λx=>some x)) λr=>some r)
def c9c:FQ:=⟨[tD y2,tD y62],⟨[(.cell 4 51,tD y3),(.tmp 5,G7)],[]⟩,mE 102 [(352,d3p),(353,d3q),(354,d3r),(355,a5z)],sN 4 (Y3 (.join [(7,8),(24,27)] ⟨[(7,G7)],[]⟩ F6) (Y3 (sN 1 (dE (qm [(4,6),(7,12),(27,86),(4000256,4000257)] ⟨[(4,(false,(.box (dT y3)))),(7,G7),(8,G7)],[]⟩ 0 ⟨[(4,(false,(.box (dT y3)))),(7,G7)],[]⟩ (sN 1 (Y3 (dE (sN 1 (Y3 (jnR [(4,6),(39,54),(35000000,35000001)] ⟨[(4,(false,(.box (dT y3))))],[]⟩ F6) F6))) F6))))) F6))⟩
def d2Z:FSpec:=Y0 c9c λx=>Bc x.1 x.2
def lu(A:I9)(B:dJ):Option (J3×Int):=l7 (x8 A.1 7) (o5 (G8 B.2.1 A.2) λx=>o5 (gJ x) λx=>l7 (D6 x) (some ((0,0,0),8)) (o5 (G8 B.2.1 A.2) λx=>some (x,0))) (l7 (x8 A.1 8) (o5 (G8 B.2.2.1 A.2) λx=>o5 (gJ x) λx=>l7 (D6 x) (some ((0,0,0),8)) (o5 (G8 B.2.2.1 A.2) λx=>some (x,0))) (l7 (x8 A.1 9) (o5 (dM 5 B.1) λx=>some x) (l7 (x8 A.1 35) (o5 (dM 2 (o9 B.2.2.2.1)) λx=>some x) (l7 (x8 A.1 6) (o5 (gJ (6,eH .i64 A.2 16,eU A.2 16)) λx=>l7 (D6 x) (some ((0,0,0),3)) (some ((6,eH .i64 A.2 16,eU A.2 16),0))) (o5 (dM A.1 A.2) λx=>some x)))))
def c9d:FQ:=⟨[tD y2,tD y62],⟨[(.cell 4 51,tD y3),(.tmp 5,G7)],[]⟩,mE 79 [(325,a7N),(355,a5z)],F6⟩
def d3a:FSpec:=Y0 c9d λx=>lu x.1 x.2
def Ec(A:Int):d6b:=l7 (x8 A 2) (some true) (l7 (x8 A 3) (some true) (some (x8 A 4)))
def c9A:FQ:=⟨[G7],tR 2 eF,mE 13 [],F6⟩
def c1w:FSpec:=Y0 c9A λx=>Ec x
def qZ(A:Bool):Option (J3×Int):=l7 A (some ((1,0,1),0)) (some ((1,0,0),0))
def c9B:FQ:=⟨[eF],⟨[(.cell 2 51,tD y3),(.tmp 3,G7)],[]⟩,mE 8 [],F6⟩
def c1x:FSpec:=Y0 c9B λx=>qZ x
def wU(A:Int):d6b:=l7 (J6 0 A) (some (J6 A 109572)) (some false)
def c9Q:FQ:=⟨[G7],tR 2 eF,mE 9 [],F6⟩
def b8K:FSpec:=Y0 c9Q λx=>wU x
def Hu(A:Int):d6b:=l7 (x8 (eU A 4) 0) (l7 (D6 (x8 (eU A 100) 0)) (some true) (some (x8 (eU A 400) 0))) (some false)
def d0n:FQ:=⟨[G7],tR 2 eF,mE 16 [],F6⟩
def c1E:FSpec:=Y0 d0n λx=>Hu x
def kw(A:Int):d6c:=o5 (Hu A) λx=>l7 x (some 366) (some 365)
def c9R:FQ:=⟨[G7],tR 2 G7,mE 5 [(398,c1E)],F6⟩
def c1B:FSpec:=Y0 c9R λx=>kw x
def gY(A:Int)(B:Int):d6c:=l7 (x8 B 2) (o5 (Hu A) λx=>l7 x (some 29) (some 28)) (o5 (l7 (x8 B 4) (some (x8 B 4)) (l7 (x8 B 6) (some (x8 B 6)) (l7 (x8 B 9) (some (x8 B 9)) (some (x8 B 11))))) λx=>l7 x (some 30) (l7 (x8 B 1) (l7 (x8 B 1) (some 31) (some 0)) (l7 (x8 B 3) (l7 (x8 B 3) (some 31) (some 0)) (l7 (x8 B 5) (l7 (x8 B 5) (some 31) (some 0)) (l7 (x8 B 7) (l7 (x8 B 7) (some 31) (some 0)) (l7 (x8 B 8) (l7 (x8 B 8) (some 31) (some 0)) (l7 (x8 B 10) (l7 (x8 B 10) (some 31) (some 0)) (l7 (x8 B 12) (some 31) (some 0)))))))))
def c9S:FQ:=⟨[G7,G7],tR 4 G7,mE 23 [(398,c1E)],sN 1 (Y3 (sN 1 (dE (sN 1 (.cond F6 (Y3 (.join [(10,15)] ⟨[(10,eF)],[]⟩ F6) F6))))) F6)⟩
def b8L:FSpec:=Y0 c9S λx=>gY x.1 x.2
def CY(A:Int):Option J3:=o5 (wU A) λx=>l7 (D6 x) (some (0,0,0)) (o5 (Y8 (λ(x:I9)=>o5 (kw x.2) λb=>l7 (J6 b x.1) (o5 (kw x.2) λc=>some (.inl (H9 .i64 x.1 c,x9 .i64 x.2 1))) (some (.inr x))) (A,1900)) λy=>o5 (Y8 (λ(x:I9)=>o5 (gY y.2 x.2) λb=>l7 (J6 b x.1) (o5 (gY y.2 x.2) λc=>some (.inl (H9 .i64 x.1 c,x9 .i64 x.2 1))) (some (.inr x))) (y.1,1)) λy_1=>some (y.2,y_1.2,x9 .i64 y_1.1 1))
def c9C:FQ:=⟨[G7],⟨[(.tmp 2,G7),(.tmp 3,G7),(.tmp 4,G7)],[]⟩,mE 36 [(375,b8K),(376,c1B),(377,b8L)],sN 3 (Y3 (dE (.loop [(0,1),(5,6),(10,20)] ⟨[(0,G7),(5,G7)],[]⟩ 0 ⟨[(0,G7),(5,G7)],[]⟩ F6)) (Y3 (dE (.loop [(0,1),(6,7),(20,32)] ⟨[(0,G7),(6,G7)],[]⟩ 2 ⟨[(0,G7),(6,G7)],[]⟩ F6)) F6))⟩
def c1y:FSpec:=Y0 c9C λx=>CY x
def KT(A:xH)(B:Int)(C:Int):d6b:=o5 (wE A.1 B) λx=>l7 x (l7 (J6 A.2.1 C) (some (D8 C A.2.2.1)) (some false)) (some false)
def d0o:FQ:=⟨[tD y4,G7,G7],tR 6 eF,mE 23 [(321,b8H)],F6⟩
def d3R:FSpec:=Y0 d0o λx=>KT x.1 x.2.1 x.2.2
def Hy(A:dC)(B:Int)(C:Int):Option (Int×Bool):=o5 (U0 (λ(x:Int)=>l7 (D8 x (o9 A.2.2.2)) (o5 (G8 A.2.2.2 x) λb=>o5 (KT b B C) λc=>l7 c (some (.rt (x,true))) (some (.nx (x9 .i64 x 1)))) (some (.ex ()))) 0) λo=>V5 o (λy=>some (0,false)) λr=>some r
def c9T:FQ:=⟨[tD y8,G7,G7],⟨[(.tmp 6,G7),(.tmp 7,eF)],[]⟩,mE 25 [(399,d3R)],sN 1 (Y3 (sN 1 (dE (qm [(6,25)] ⟨[(8,G7)],[]⟩ 0 nZ F6))) F6)⟩
def d3B:FSpec:=Y0 c9T λx=>Hy x.1 x.2.1 x.2.2
def Ny(A:dC)(B:Int)(C:J3):Option (J3×Int):=o5 (l7 (D6 (x8 C.1 A.2.1.1)) (some (.inr ((0,0,0),8))) (l7 (D6 (x8 C.2.1 A.2.1.2)) (some (.inr ((0,0,0),8))) (l7 (D8 A.2.2.1.1 1) (some (.inr ((0,0,0),8))) (l7 (D8 6 A.2.2.1.1) (some (.inr ((0,0,0),8))) (some (.inl (0,0,0))))))) λo=>V5 o (λ(x:J3)=>o5 (Hy A B C.2.2) λx=>l7 (D6 x.2) (some ((0,0,0),6)) (o5 (G8 A.2.2.2 x.1) λx=>o5 (gJ (A.2.2.1.1,A.2.2.1.2,x.2.2.2)) λb=>l7 (D6 b) (some ((0,0,0),3)) (some ((A.2.2.1.1,A.2.2.1.2,x.2.2.2),0)))) λr=>some r
def c9D:FQ:=⟨[tD y8,G7,tD y3],⟨[(.cell 6 51,tD y3),(.tmp 7,G7)],[]⟩,mE 67 [(378,d3B),(325,a7N)],sN 1 (Y3 (jnR [(6,8),(11,38),(4000384,4000385)] ⟨[(6,(false,(.box (dT y3))))],[]⟩ F6) F6)⟩
def d3s:FSpec:=Y0 c9D λx=>Ny x.1 x.2.1 x.2.2
def Fb(A:Int):d6b:=l7 (J6 0 A) (some (J6 A 5)) (some false)
def c9U:FQ:=⟨[G7],tR 2 eF,mE 9 [],F6⟩
def b5w:FSpec:=Y0 c9U λx=>Fb x
def iH(A:Int)(B:Int):d6b:=l7 (D8 B A) (some true) (some (D8 A (H9 .i64 0 B)))
def q42:FQ:=⟨[G7,G7],tR 4 eF,mE 14 [],F6⟩
def s42:FSpec:=Y0 q42 λx=>iH x.1 x.2
def xx(A:Int)(B:Int):Option (Int×Int×Bool):=o5 (l7 (D8 B 0) (some (x9 .u64 (wrap .u64 (H9 .i64 0 (x9 .i64 B 1))) 1)) (some (wrap .u64 B))) λx=>l7 (D8 0 (wrap .i64 (eH .u64 x 1000000))) (o5 (qC .i64 1000000000000000 (wrap .i64 (eH .u64 x 1000000))) λb=>l7 (D8 b A) (some (0,0,false)) (l7 (D8 1000000000000000 (x9 .i64 (x9 .i64 (Z4 .i64 A (wrap .i64 (eH .u64 x 1000000))) (Z4 .i64 (eH .i64 A 1000000) (wrap .i64 (eU x 1000000)))) (eH .i64 (Z4 .i64 (eU A 1000000) (wrap .i64 (eU x 1000000))) 1000000))) (some (0,0,false)) (l7 (D8 B 0) (some (H9 .i64 0 (x9 .i64 (x9 .i64 (Z4 .i64 A (wrap .i64 (eH .u64 x 1000000))) (Z4 .i64 (eH .i64 A 1000000) (wrap .i64 (eU x 1000000)))) (eH .i64 (Z4 .i64 (eU A 1000000) (wrap .i64 (eU x 1000000))) 1000000)),H9 .i64 0 (eU (Z4 .i64 (eU A 1000000) (wrap .i64 (eU x 1000000))) 1000000),true)) (some (x9 .i64 (x9 .i64 (Z4 .i64 A (wrap .i64 (eH .u64 x 1000000))) (Z4 .i64 (eH .i64 A 1000000) (wrap .i64 (eU x 1000000)))) (eH .i64 (Z4 .i64 (eU A 1000000) (wrap .i64 (eU x 1000000))) 1000000),eU (Z4 .i64 (eU A 1000000) (wrap .i64 (eU x 1000000))) 1000000,true))))) (l7 (D8 1000000000000000 (x9 .i64 (x9 .i64 (Z4 .i64 A (wrap .i64 (eH .u64 x 1000000))) (Z4 .i64 (eH .i64 A 1000000) (wrap .i64 (eU x 1000000)))) (eH .i64 (Z4 .i64 (eU A 1000000) (wrap .i64 (eU x 1000000))) 1000000))) (some (0,0,false)) (l7 (D8 B 0) (some (H9 .i64 0 (x9 .i64 (x9 .i64 (Z4 .i64 A (wrap .i64 (eH .u64 x 1000000))) (Z4 .i64 (eH .i64 A 1000000) (wrap .i64 (eU x 1000000)))) (eH .i64 (Z4 .i64 (eU A 1000000) (wrap .i64 (eU x 1000000))) 1000000)),H9 .i64 0 (eU (Z4 .i64 (eU A 1000000) (wrap .i64 (eU x 1000000))) 1000000),true)) (some (x9 .i64 (x9 .i64 (Z4 .i64 A (wrap .i64 (eH .u64 x 1000000))) (Z4 .i64 (eH .i64 A 1000000) (wrap .i64 (eU x 1000000)))) (eH .i64 (Z4 .i64 (eU A 1000000) (wrap .i64 (eU x 1000000))) 1000000),eU (Z4 .i64 (eU A 1000000) (wrap .i64 (eU x 1000000))) 1000000,true))))
def c9V:FQ:=⟨[G7,G7],⟨[(.tmp 4,G7),(.tmp 5,G7),(.tmp 6,eF)],[]⟩,mE 62 [],sN 2 (Y3 (.join [(7,8),(14,21)] ⟨[(7,(false,(dT (.int .u64))))],[]⟩ F6) F6)⟩
def d3C:FSpec:=Y0 c9V λx=>xx x.1 x.2
def mF(A:Int)(B:Int)(C:Int)(D:Bool)(E:Int):d6c:=o5 (l7 (x8 E 0) (l7 D (some (D8 0 B)) (some false)) (l7 (x8 E 1) (l7 (D6 D) (some (D8 0 B)) (some false)) (l7 (x8 E 3) (some (D8 0 B)) (l7 (x8 E 4) (some (J6 (H9 .i64 C B) B)) (l7 (x8 E 5) (l7 (D8 (H9 .i64 C B) B) (some true) (l7 (x8 B (H9 .i64 C B)) (some (x8 (eU A 2) 1)) (some false))) (some false)))))) λx=>l7 x (l7 D (some (H9 .i64 0 (x9 .i64 A 1))) (some (x9 .i64 A 1))) (l7 D (some (H9 .i64 0 A)) (some A))
def d0p:FQ:=⟨[G7,G7,G7,eF,G7],tR 10 G7,mE 65 [],sN 2 (Y3 (.join [(11,58)] ⟨[(11,eF)],[]⟩ F6) F6)⟩
def b5y:FSpec:=Y0 d0p λx=>mF x.1 x.2.1 x.2.2.1 x.2.2.2.1 x.2.2.2.2
def FD(A:Int)(B:Int)(C:Int):d6c:=o5 (Y8 (λ(x:I9)=>l7 (D8 x.2 0) (some (.inl (H9 .i64 x.1 1,x9 .i64 x.2 1000000))) (some (.inr x))) (A,B)) λy=>o5 (Y8 (λ(x:I9)=>l7 (J6 1000000 x.2) (some (.inl (x9 .i64 x.1 1,H9 .i64 x.2 1000000))) (some (.inr x))) y) λy=>l7 (J6 0 y.1) (o5 (mF y.1 y.2 1000000 false C) λx=>some x) (l7 (x8 y.2 0) (some y.1) (o5 (mF (H9 .i64 (H9 .i64 0 y.1) 1) (H9 .i64 1000000 y.2) 1000000 true C) λx=>some x))
def c9W:FQ:=⟨[G7,G7,G7],tR 6 G7,mE 35 [(400,b5y)],sN 1 (Y3 (dE (.loop [(0,2),(7,13)] ⟨[(0,G7),(1,G7)],[]⟩ 0 ⟨[(0,G7),(1,G7)],[]⟩ F6)) (Y3 (dE (.loop [(0,2),(13,19)] ⟨[(0,G7),(1,G7)],[]⟩ 2 ⟨[(0,G7),(1,G7)],[]⟩ F6)) F6))⟩
def d3D:FSpec:=Y0 c9W λx=>FD x.1 x.2.1 x.2.2
def DY(A:dC)(B:Int)(C:Int)(D:Int):Option I9:=o5 (Fb D) λx=>l7 (D6 x) (some (0,1)) (o5 (l7 (D6 (U6 (x8 A.2.1.1 3) (x8 A.2.1.2 0))) (some (.inr (0,8))) (l7 (D6 (U6 (x8 A.2.2.1.1 4) (x8 A.2.2.1.2 0))) (some (.inr (0,8))) (some (.inl ())))) λo=>V5 o (λx=>o5 (iH C 1000000000000000) λx=>l7 x (some (0,3)) (o5 (U0 (λ(x:J3)=>l7 (D8 x.2.2 (o9 A.2.2.2)) (o5 (G8 A.2.2.2 x.2.2) λb=>o5 (G8 A.2.2.2 x.2.2) λd=>l7 (J6 (qj d.2.2.1 C) (nT b.2.1 0)) (some (.nx (x.1,x.2.1,x9 .i64 x.2.2 1))) (o5 (G8 A.2.2.2 x.2.2) λf=>o5 (wE f.1 B) λg=>l7 (D6 g) (some (.nx (x.1,x.2.1,x9 .i64 x.2.2 1))) (o5 (G8 A.2.2.2 x.2.2) λi=>o5 (xx (H9 .i64 (qj d.2.2.1 C) (nT b.2.1 0)) i.2.2.2) λc=>l7 (D6 c.2.2) (some (.rt (0,3))) (some (.nx (x9 .i64 x.1 c.1,x9 .i64 x.2.1 c.2.1,x9 .i64 x.2.2 1)))))) (some (.ex (x.1,x.2.1)))) (0,0,0)) λo=>V5 o (λ(y:I9)=>o5 (FD y.1 y.2 D) λx=>o5 (iH x 1000000000000000) λb=>l7 b (some (0,3)) (some (x,0))) λr=>some r)) λr=>some r)
def c9E:FQ:=⟨[tD y8,G7,G7,G7],⟨[(.tmp 8,G7),(.tmp 9,G7)],[]⟩,mE 99 [(379,b5w),(42,s42),(321,b8H),(380,d3C),(381,d3D)],sN 2 (Y3 (jnR [(8,10),(22,32)] nZ F6) (sN 2 (Y3 (sN 1 (dE (qm [(8,18),(34,92)] ⟨[(10,G7),(11,G7),(12,G7)],[]⟩ 0 ⟨[(10,G7),(11,G7)],[]⟩ F6))) F6)))⟩
def d3t:FSpec:=Y0 c9E λx=>DY x.1 x.2.1 x.2.2.1 x.2.2.2
def su(A:Int)(B:Int)(C:Int):Option (J3×Int):=l7 (D6 (x8 C 0)) (some ((0,0,0),C)) (o5 (dM A B) λx=>some x)
def c9F:FQ:=⟨[G7,G7,G7],⟨[(.cell 6 51,tD y3),(.tmp 7,G7)],[]⟩,mE 17 [(355,a5z)],F6⟩
def b8I:FSpec:=Y0 c9F λx=>su x.1 x.2.1 x.2.2
def uz(A:I9)(B:J3)(C:dJ):Option (J3×Int):=o5 (l7 (x8 A.1 10) (o5 (Ec B.1) λx=>l7 (D6 x) (some (.inr ((0,0,0),8))) (o5 (dM B.1 (H9 .i64 0 B.2.2)) λx=>some (.inr x))) (l7 (x8 A.1 25) (l7 (D6 (x8 B.1 1)) (some (.inr ((0,0,0),8))) (o5 (qZ (x8 B.2.2 0)) λx=>some (.inr x))) (o5 (l7 (x8 A.1 31) (some (x8 A.1 31)) (some (x8 A.1 32))) λx=>l7 x (l7 (D6 (x8 B.1 5)) (some (.inr ((0,0,0),8))) (o5 (CY B.2.2) λx=>l7 (x8 A.1 31) (o5 (dM 2 x.1) λx=>some (.inr x)) (o5 (dM 2 x.2.1) λx=>some (.inr x)))) (l7 (x8 A.1 33) (o5 (G8 C.2.2.2.2.2 A.2) λx=>o5 (Ny x C.1 B) λx=>some (.inr x)) (some (.inl (0,0,0))))))) λo=>V5 o (λ(x:J3)=>o5 (G8 C.2.2.2.2.2 (eH .i64 A.2 8)) λb=>o5 (l7 (D6 (x8 B.1 3)) (some (.inr ((0,0,0),8))) (l7 (D6 (x8 b.2.1.1 3)) (some (.inr ((0,0,0),8))) (l7 (D6 (x8 b.2.1.2 0)) (some (.inr ((0,0,0),8))) (l7 (D6 (x8 b.2.2.1.1 4)) (some (.inr ((0,0,0),8))) (l7 (D6 (x8 b.2.2.1.2 0)) (some (.inr ((0,0,0),8))) (some (.inl x))))))) λo=>V5 o (λ(x:J3)=>o5 (DY b C.1 B.2.2 (eU A.2 8)) λx=>o5 (su 3 x.1 x.2) λx=>some x) λr=>some r) λr=>some r
def c9e:FQ:=⟨[tD y2,tD y3,tD y62],⟨[(.cell 6 51,tD y3),(.tmp 7,G7)],[]⟩,mE 134 [(356,c1w),(355,a5z),(357,c1x),(358,c1y),(359,d3s),(360,d3t),(361,b8I)],sN 1 (Y3 (jnR [(6,11),(14,82),(4000384,4000385)] ⟨[(6,(false,(.box (dT y3))))],[]⟩ (sN 1 (dE (sN 1 (.cond F6 (sN 1 (.cond F6 (Y3 (.join [(43,46)] ⟨[(43,eF)],[]⟩ F6) F6)))))))) (sN 1 (Y3 (jnR [(6,8),(89,117),(6000000,6000001)] ⟨[(6,(false,(.box (dT y3))))],[]⟩ F6) F6)))⟩
def d3b:FSpec:=Y0 c9e λx=>uz x.1 x.2.1 x.2.2
def xZ(A:Int)(B:Int)(C:Int):Option (J3×Int):=o5 (Ae A) λx=>l7 (D8 B 0) (l7 (D8 C 0) (l7 (D6 (x8 (H9 .i64 0 C) 0)) (o5 (qC .i64 x.2 (H9 .i64 0 C)) λx=>l7 (D8 x (H9 .i64 0 B)) (some ((0,0,0),3)) (o5 (dM A (Z4 .i64 B C)) λx=>some x)) (o5 (dM A (Z4 .i64 B C)) λx=>some x)) (l7 (D6 (x8 C 0)) (o5 (qC .i64 x.2 C) λx=>l7 (D8 x (H9 .i64 0 B)) (some ((0,0,0),3)) (o5 (dM A (Z4 .i64 B C)) λx=>some x)) (o5 (dM A (Z4 .i64 B C)) λx=>some x))) (l7 (D8 C 0) (l7 (D6 (x8 (H9 .i64 0 C) 0)) (o5 (qC .i64 x.2 (H9 .i64 0 C)) λx=>l7 (D8 x B) (some ((0,0,0),3)) (o5 (dM A (Z4 .i64 B C)) λx=>some x)) (o5 (dM A (Z4 .i64 B C)) λx=>some x)) (l7 (D6 (x8 C 0)) (o5 (qC .i64 x.2 C) λx=>l7 (D8 x B) (some ((0,0,0),3)) (o5 (dM A (Z4 .i64 B C)) λx=>some x)) (o5 (dM A (Z4 .i64 B C)) λx=>some x)))
def c9X:FQ:=⟨[G7,G7,G7],⟨[(.cell 6 51,tD y3),(.tmp 7,G7)],[]⟩,mE 44 [(350,c1u),(355,a5z)],F6⟩
def d3E:FSpec:=Y0 c9X λx=>xZ x.1 x.2.1 x.2.2
def zZ(A:Int):d6c:=l7 (D8 A 0) (some (H9 .i64 0 A)) (some A)
def d0u:FQ:=⟨[G7],tR 2 G7,mE 8 [],F6⟩
def b8N:FSpec:=Y0 d0u λx=>zZ x
def Ht(A:Int)(B:Int)(C:Int)(D:Int):Option I9:=o5 (Fb D) λx=>l7 (D6 x) (some (0,1)) (l7 (x8 C 0) (some (0,12)) (o5 (o5 (iH A 1000000000000000) λx=>l7 x (some (.inr (0,3))) (o5 (iH B 1000000000) λx=>l7 x (some (.inr (0,3))) (o5 (iH C 1000000000) λx=>l7 x (some (.inr (0,3))) (some (.inl ()))))) λo=>V5 o (λx=>o5 (zZ A) λx=>o5 (zZ B) λc=>o5 (zZ C) λb=>l7 (D8 0 c) (o5 (qC .i64 x b) λd=>o5 (qC .i64 1000000000000000 c) λg=>l7 (D8 g d) (some (0,3)) (o5 (Au x b) λf=>o5 (qC .i64 x b) λx=>o5 (qC .i64 (Z4 .i64 f c) b) λi=>o5 (Au (Z4 .i64 f c) b) λj=>o5 (mF (x9 .i64 (Z4 .i64 x c) i) j b (D6 (jG (D6 (jG (D8 A 0) (D8 B 0))) (D8 C 0))) D) λx=>o5 (iH x 1000000000000000) λk=>l7 k (some (0,3)) (some (x,0)))) (o5 (Au x b) λd=>o5 (qC .i64 x b) λx=>o5 (qC .i64 (Z4 .i64 d c) b) λg=>o5 (Au (Z4 .i64 d c) b) λf=>o5 (mF (x9 .i64 (Z4 .i64 x c) g) f b (D6 (jG (D6 (jG (D8 A 0) (D8 B 0))) (D8 C 0))) D) λx=>o5 (iH x 1000000000000000) λi=>l7 i (some (0,3)) (some (x,0)))) λr=>some r))
def d0q:FQ:=⟨[G7,G7,G7,G7],⟨[(.tmp 8,G7),(.tmp 9,G7)],[]⟩,mE 79 [(379,b5w),(42,s42),(405,b8N),(400,b5y)],sN 3 (Y3 (jnR [(8,10),(21,31)] nZ F6) F6)⟩
def d3S:FSpec:=Y0 d0q λx=>Ht x.1 x.2.1 x.2.2.1 x.2.2.2
def FZ(A:Int)(B:Int)(C:Int):Option I9:=o5 (Ht A B 1000000 C) λx=>some x
def c9Y:FQ:=⟨[G7,G7,G7],⟨[(.tmp 6,G7),(.tmp 7,G7)],[]⟩,mE 14 [(401,d3S)],F6⟩
def d3F:FSpec:=Y0 c9Y λx=>FZ x.1 x.2.1 x.2.2
def ku(A:Int)(B:Int):d6b:=l7 (D8 B A) (some true) (some (D8 A (H9 .i64 0 B)))
def d0r:FQ:=⟨[G7,G7],tR 4 eF,mE 14 [],F6⟩
def c1F:FSpec:=Y0 d0r λx=>ku x.1 x.2
def zi(A:Int)(B:Int):Option I9:=o5 (qC .i64 A B) λx=>o5 (Au A B) λb=>l7 (D8 b 0) (some (H9 .i64 x 1,x9 .i64 b B)) (some (x,b))
def d0s:FQ:=⟨[G7,G7],⟨[(.tmp 4,G7),(.tmp 5,G7)],[]⟩,mE 23 [],F6⟩
def c1G:FSpec:=Y0 d0s λx=>zi x.1 x.2
def dn(A:Int)(B:Int)(C:Int)(D:Int):d6c:=l7 (x8 B 0) (some A) (o5 (l7 (x8 D 1) (some true) (l7 (x8 D 2) (l7 (D8 A 0) (some true) (l7 (x8 D 3) (some (J6 0 A)) (some false))) (l7 (x8 D 3) (some (J6 0 A)) (some false)))) λx=>l7 (x8 D 4) (l7 (x8 B (H9 .i64 C B)) (l7 (x8 D 4) (l7 (J6 0 A) (some (x9 .i64 A 1)) (l7 (x8 D 5) (l7 (D6 (x8 (eU A 2) 0)) (some (x9 .i64 A 1)) (some A)) (some A))) (l7 (x8 D 5) (l7 (D6 (x8 (eU A 2) 0)) (some (x9 .i64 A 1)) (some A)) (some A))) (l7 (D8 (H9 .i64 C B) B) (some (x9 .i64 A 1)) (some A))) (l7 (x8 D 5) (l7 (x8 B (H9 .i64 C B)) (l7 (x8 D 4) (l7 (J6 0 A) (some (x9 .i64 A 1)) (l7 (x8 D 5) (l7 (D6 (x8 (eU A 2) 0)) (some (x9 .i64 A 1)) (some A)) (some A))) (l7 (x8 D 5) (l7 (D6 (x8 (eU A 2) 0)) (some (x9 .i64 A 1)) (some A)) (some A))) (l7 (D8 (H9 .i64 C B) B) (some (x9 .i64 A 1)) (some A))) (l7 x (some (x9 .i64 A 1)) (some A))))
def d0t:FQ:=⟨[G7,G7,G7,G7],tR 8 G7,mE 66 [],sN 2 (Y3 (.join [(9,10),(13,31)] ⟨[(9,eF)],[]⟩ F6) F6)⟩
def c1H:FSpec:=Y0 d0t λx=>dn x.1 x.2.1 x.2.2.1 x.2.2.2
def LY(A:Int)(B:Int)(C:Int):Option I9:=l7 (D8 C 0) (some (0,1)) (l7 (D8 5 C) (some (0,1)) (o5 (ku A 1000000000) λx=>l7 x (some (0,3)) (o5 (ku B 1000000000) λx=>l7 x (some (0,3)) (o5 (zi (Z4 .i64 A B) 1000000) λx=>o5 (dn x.1 x.2 1000000 C) λx=>o5 (ku x 1000000000) λb=>l7 b (some (0,3)) (some (x,0))))))
def c9Z:FQ:=⟨[G7,G7,G7],⟨[(.tmp 6,G7),(.tmp 7,G7)],[]⟩,mE 37 [(402,c1F),(403,c1G),(404,c1H)],F6⟩
def d3G:FSpec:=Y0 c9Z λx=>LY x.1 x.2.1 x.2.2
def xO(A:Int)(B:Int)(C:Int):Option I9:=o5 (l7 (D8 C 0) (some (.inr (0,1))) (l7 (D8 5 C) (some (.inr (0,1))) (some (.inl ())))) λo=>V5 o (λx=>l7 (x8 B 0) (some (0,12)) (o5 (ku A 1000000000000000) λx=>l7 x (some (0,3)) (o5 (ku B 1000000000000000) λx=>l7 x (some (0,3)) (l7 (D8 B 0) (o5 (zi (H9 .i64 0 A) (H9 .i64 0 B)) λx=>o5 (ku x.1 1001) λc=>l7 c (some (0,3)) (o5 (qC .i64 (Z4 .i64 x.2 1000) (H9 .i64 0 B)) λd=>o5 (Au (Z4 .i64 x.2 1000) (H9 .i64 0 B)) λb=>o5 (qC .i64 (Z4 .i64 b 1000) (H9 .i64 0 B)) λf=>o5 (Au (Z4 .i64 b 1000) (H9 .i64 0 B)) λg=>o5 (dn (x9 .i64 (x9 .i64 (Z4 .i64 x.1 1000000) (Z4 .i64 d 1000)) f) g (H9 .i64 0 B) C) λx=>o5 (ku x 1000000000) λi=>l7 i (some (0,3)) (some (x,0)))) (o5 (zi A B) λx=>o5 (ku x.1 1001) λc=>l7 c (some (0,3)) (o5 (qC .i64 (Z4 .i64 x.2 1000) B) λd=>o5 (Au (Z4 .i64 x.2 1000) B) λb=>o5 (qC .i64 (Z4 .i64 b 1000) B) λf=>o5 (Au (Z4 .i64 b 1000) B) λg=>o5 (dn (x9 .i64 (x9 .i64 (Z4 .i64 x.1 1000000) (Z4 .i64 d 1000)) f) g B C) λx=>o5 (ku x 1000000000) λi=>l7 i (some (0,3)) (some (x,0)))))))) λr=>some r
def d0a:FQ:=⟨[G7,G7,G7],⟨[(.tmp 6,G7),(.tmp 7,G7)],[]⟩,mE 71 [(402,c1F),(403,c1G),(404,c1H)],sN 1 (Y3 (jnR [(6,8),(13,19)] nZ F6) F6)⟩
def d3H:FSpec:=Y0 d0a λx=>xO x.1 x.2.1 x.2.2
def zh(A:Int)(B:Int)(C:Int):Option I9:=o5 (Fb C) λx=>l7 (D6 x) (some (0,1)) (l7 (x8 B 0) (some (0,12)) (o5 (iH A 4611686018427387904) λx=>l7 x (some (0,3)) (o5 (iH B 4611686018427387904) λx=>l7 x (some (0,3)) (o5 (zZ A) λx=>o5 (zZ B) λb=>o5 (qC .i64 x b) λc=>o5 (Au x b) λx=>o5 (mF c x b (D6 (jG (D8 A 0) (D8 B 0))) C) λx=>some (x,0)))))
def d0b:FQ:=⟨[G7,G7,G7],⟨[(.tmp 6,G7),(.tmp 7,G7)],[]⟩,mE 39 [(379,b5w),(42,s42),(405,b8N),(400,b5y)],F6⟩
def d3I:FSpec:=Y0 d0b λx=>zh x.1 x.2.1 x.2.2
def Ba(A:Int)(B:Int)(C:Int):Option I9:=o5 (Fb C) λx=>l7 (D6 x) (some (0,1)) (l7 (D8 B 1) (some (0,12)) (o5 (iH A 1000000000000000) λx=>l7 x (some (0,3)) (l7 (D8 1000000000000000 B) (some (0,3)) (o5 (zZ A) λx=>o5 (qC .i64 x B) λb=>o5 (Au x B) λx=>o5 (mF b x B (D8 A 0) C) λx=>o5 (iH (Z4 .i64 x B) 1000000000000000) λc=>l7 c (some (0,3)) (some (Z4 .i64 x B,0))))))
def d0c:FQ:=⟨[G7,G7,G7],⟨[(.tmp 6,G7),(.tmp 7,G7)],[]⟩,mE 39 [(379,b5w),(42,s42),(405,b8N),(400,b5y)],F6⟩
def d3J:FSpec:=Y0 d0c λx=>Ba x.1 x.2.1 x.2.2
def Af(A:I9)(B:J3)(C:J3):Option (J3×Int):=o5 (o5 (l7 (x8 A.1 13) (l7 (x8 C.1 2) (l7 (x8 B.1 3) (some true) (some (x8 B.1 2))) (some false)) (some false)) λx=>l7 x (o5 (xZ B.1 B.2.2 C.2.2) λx=>some (.inr x)) (o5 (l7 (x8 A.1 14) (l7 (x8 C.1 4) (some (x8 B.1 3)) (some false)) (some false)) λx=>l7 x (o5 (FZ B.2.2 C.2.2 A.2) λx=>o5 (su B.1 x.1 x.2) λx=>some (.inr x)) (o5 (l7 (x8 A.1 14) (l7 (x8 C.1 4) (some (x8 B.1 4)) (some false)) (some false)) λx=>l7 x (o5 (LY B.2.2 C.2.2 A.2) λx=>o5 (su B.1 x.1 x.2) λx=>some (.inr x)) (o5 (l7 (x8 A.1 15) (l7 (x8 B.1 3) (some (x8 C.1 3)) (some false)) (some false)) λx=>l7 x (o5 (xO B.2.2 C.2.2 A.2) λx=>o5 (su 4 x.1 x.2) λx=>some (.inr x)) (o5 (l7 (x8 A.1 15) (l7 (x8 C.1 2) (l7 (x8 B.1 3) (some true) (some (x8 B.1 2))) (some false)) (some false)) λx=>l7 x (o5 (zh B.2.2 C.2.2 A.2) λx=>o5 (su B.1 x.1 x.2) λx=>some (.inr x)) (l7 (x8 A.1 16) (l7 (x8 B.1 3) (l7 (x8 C.1 3) (o5 (Ba B.2.2 C.2.2 A.2) λx=>o5 (su B.1 x.1 x.2) λx=>some (.inr x)) (some (.inl (0,0,0)))) (some (.inl (0,0,0)))) (some (.inl (0,0,0))))))))) λo=>V5 o (λ(x:J3)=>some ((0,0,0),8)) λr=>some r
def c9G:FQ:=⟨[tD y2,tD y3,tD y3],⟨[(.cell 6 51,tD y3),(.tmp 7,G7)],[]⟩,mE 199 [(382,d3E),(383,d3F),(361,b8I),(384,d3G),(385,d3H),(386,d3I),(387,d3J)],sN 2 (Y3 (jnR [(6,8),(9,19),(22,198),(4000384,4000385)] ⟨[(6,(false,(.box (dT y3))))],[]⟩ (dE (Y3 (.join [(22,39)] ⟨[(22,eF)],[]⟩ F6) (.cond F6 (Y3 (.join [(48,60)] ⟨[(48,eF)],[]⟩ F6) (.cond F6 (Y3 (.join [(77,91)] ⟨[(77,eF)],[]⟩ F6) (.cond F6 (Y3 (.join [(108,120)] ⟨[(108,eF)],[]⟩ F6) (.cond F6 (Y3 (.join [(135,152)] ⟨[(135,eF)],[]⟩ F6) F6))))))))))) F6)⟩
def d3u:FSpec:=Y0 c9G λx=>Af x.1 x.2.1 x.2.2
def xY(A:Int)(B:Int)(C:Int):Option I9:=o5 (l7 (D8 A 1900) (some (.inr (0,3))) (l7 (D8 2199 A) (some (.inr (0,3))) (l7 (D8 C 1) (some (.inr (0,3))) (o5 (gY A B) λx=>l7 (D8 x C) (some (.inr (0,3))) (some (.inl ())))))) λo=>V5 o (λx=>o5 (Y8 (λ(x:I9)=>l7 (D8 x.2 A) (o5 (kw x.2) λb=>some (.inl (x9 .i64 x.1 b,x9 .i64 x.2 1))) (some (.inr x.1))) (H9 .i64 C 1,1900)) λy=>o5 (Y8 (λ(x:I9)=>l7 (D8 x.2 B) (o5 (gY A x.2) λb=>some (.inl (x9 .i64 x.1 b,x9 .i64 x.2 1))) (some (.inr x.1))) (y,1)) λy=>some (y,0)) λr=>some r
def d0v:FQ:=⟨[G7,G7,G7],⟨[(.tmp 6,G7),(.tmp 7,G7)],[]⟩,mE 50 [(377,b8L),(376,c1B)],sN 1 (Y3 (jnR [(6,8),(11,28)] nZ F6) (sN 1 (Y3 (sN 1 (dE (.loop [(8,10),(30,39)] ⟨[(8,G7),(9,G7)],[]⟩ 0 ⟨[(8,G7)],[]⟩ F6))) (Y3 (sN 1 (dE (.loop [(8,9),(10,11),(39,49)] ⟨[(8,G7),(10,G7)],[]⟩ 2 ⟨[(8,G7)],[]⟩ F6))) F6))))⟩
def d3T:FSpec:=Y0 d0v λx=>xY x.1 x.2.1 x.2.2
def nI(A:Int)(B:Int):Option I9:=o5 (o5 (wU A) λx=>l7 (D6 x) (some (.inr (0,3))) (l7 (D8 B (-3600)) (some (.inr (0,3))) (l7 (D8 3600 B) (some (.inr (0,3))) (some (.inl ()))))) λo=>V5 o (λx=>o5 (CY A) λx=>o5 (gY (eH .i64 (x9 .i64 (H9 .i64 (x9 .i64 (Z4 .i64 12 x.1) x.2.1) 1) B) 12) (x9 .i64 (eU (x9 .i64 (H9 .i64 (x9 .i64 (Z4 .i64 12 x.1) x.2.1) 1) B) 12) 1)) λb=>o5 (xY (eH .i64 (x9 .i64 (H9 .i64 (x9 .i64 (Z4 .i64 12 x.1) x.2.1) 1) B) 12) (x9 .i64 (eU (x9 .i64 (H9 .i64 (x9 .i64 (Z4 .i64 12 x.1) x.2.1) 1) B) 12) 1) (qj x.2.2 b)) λx=>some x) λr=>some r
def d0d:FQ:=⟨[G7,G7],⟨[(.tmp 4,G7),(.tmp 5,G7)],[]⟩,mE 50 [(375,b8K),(358,c1y),(377,b8L),(406,d3T)],sN 1 (Y3 (jnR [(4,6),(10,21)] nZ F6) F6)⟩
def c1C:FSpec:=Y0 d0d λx=>nI x.1 x.2
def rY(A:Int)(B:Int):d6c:=o5 (wU A) λx=>l7 (D6 x) (some 0) (o5 (wU B) λx=>l7 (D6 x) (some 0) (o5 (U0 (λ(x:Int)=>o5 (nI A (Z4 .i64 12 (x9 .i64 x 1))) λb=>l7 (D6 (x8 b.2 0)) (some (.rt x)) (l7 (D8 B b.1) (some (.rt x)) (some (.nx (x9 .i64 x 1))))) 0) λo=>V5 o (λ(y:PUnit)=>none) λr=>some r))
def d0e:FQ:=⟨[G7,G7],tR 4 G7,mE 34 [(375,b8K),(388,c1C)],sN 3 (dE (qm [(4,8),(16,34)] ⟨[(5,G7)],[]⟩ 999999 nZ F6))⟩
def d3K:FSpec:=Y0 d0e λx=>rY x.1 x.2
def zn(A:Int)(B:J3)(C:J3):Option (J3×Int):=l7 (D6 (x8 B.1 5)) (some ((0,0,0),8)) (l7 (x8 A 27) (l7 (D6 (x8 C.1 2)) (some ((0,0,0),8)) (l7 (x8 A 27) (o5 (dM 5 (x9 .i64 B.2.2 C.2.2)) λx=>some x) (o5 (nI B.2.2 C.2.2) λx=>o5 (su 5 x.1 x.2) λx=>some x))) (l7 (x8 A 28) (l7 (D6 (x8 C.1 2)) (some ((0,0,0),8)) (l7 (x8 A 27) (o5 (dM 5 (x9 .i64 B.2.2 C.2.2)) λx=>some x) (o5 (nI B.2.2 C.2.2) λx=>o5 (su 5 x.1 x.2) λx=>some x))) (l7 (D6 (x8 C.1 5)) (some ((0,0,0),8)) (l7 (x8 A 29) (o5 (dM 2 (H9 .i64 C.2.2 B.2.2)) λx=>some x) (o5 (rY B.2.2 C.2.2) λx=>o5 (dM 2 x) λx=>some x)))))
def c9H:FQ:=⟨[G7,tD y3,tD y3],⟨[(.cell 6 51,tD y3),(.tmp 7,G7)],[]⟩,mE 69 [(355,a5z),(388,c1C),(361,b8I),(389,d3K)],F6⟩
def d3v:FSpec:=Y0 c9H λx=>zn x.1 x.2.1 x.2.2
def rZ(A:Int)(B:J3)(C:J3):Option (J3×Int):=o5 (l7 (D6 (x8 B.1 C.1)) (some (.inr ((0,0,0),8))) (l7 (D6 (x8 B.2.1 C.2.1)) (some (.inr ((0,0,0),8))) (some (.inl (0,0,0))))) λo=>V5 o (λ(x:J3)=>o5 (l7 (x8 A 19) (o5 (qZ (x8 B.2.2 C.2.2)) λx=>some (.inr x)) (l7 (x8 A 20) (o5 (qZ (D6 (x8 B.2.2 C.2.2))) λx=>some (.inr x)) (o5 (l7 (x8 A 23) (some (x8 A 23)) (some (x8 A 24))) λb=>l7 b (l7 (D6 (x8 B.1 1)) (some (.inr ((0,0,0),8))) (l7 (x8 (x9 .i64 B.2.2 C.2.2) 2) (o5 (qZ true) λx=>some (.inr x)) (l7 (x8 A 24) (o5 (qZ (x8 (x9 .i64 B.2.2 C.2.2) 1)) λx=>some (.inr x)) (o5 (qZ false) λx=>some (.inr x))))) (o5 (l7 (x8 A 11) (some (x8 A 11)) (some (x8 A 12))) λc=>l7 c (o5 (Ec B.1) λx=>l7 (D6 x) (some (.inr ((0,0,0),8))) (l7 (x8 A 11) (o5 (dM B.1 (x9 .i64 B.2.2 C.2.2)) λx=>some (.inr x)) (o5 (dM B.1 (H9 .i64 B.2.2 C.2.2)) λx=>some (.inr x)))) (some (.inl x)))))) λo=>V5 o (λ(x:J3)=>o5 (o5 (Ec B.1) λb=>l7 (D6 b) (l7 (D6 (x8 B.1 5)) (some (.inr ((0,0,0),8))) (some (.inl x))) (some (.inl x))) λo=>V5 o (λ(x:J3)=>l7 (x8 A 21) (o5 (qZ (D8 B.2.2 C.2.2)) λx=>some x) (l7 (x8 A 22) (o5 (qZ (J6 B.2.2 C.2.2)) λx=>some x) (l7 (jG (x8 A 17) (D8 B.2.2 C.2.2)) (some (B,0)) (some (C,0))))) λr=>some r) λr=>some r) λr=>some r
def c9I:FQ:=⟨[G7,tD y3,tD y3],⟨[(.cell 6 51,tD y3),(.tmp 7,G7)],[]⟩,mE 141 [(357,c1x),(356,c1w),(355,a5z)],sN 1 (Y3 (jnR [(6,21),(4000384,4000385)] ⟨[(6,(false,(.box (dT y3))))],[]⟩ F6) (Y3 (jnR [(6,8),(21,100),(6000000,6000001)] ⟨[(6,(false,(.box (dT y3))))],[]⟩ (sN 1 (dE (sN 1 (.cond F6 (sN 1 (.cond F6 (Y3 (.join [(42,45)] ⟨[(42,eF)],[]⟩ F6) (.cond F6 (Y3 (.join [(70,73)] ⟨[(70,eF)],[]⟩ F6) F6)))))))))) (Y3 (jnR [(6,8),(100,110),(16000000,16000001)] ⟨[(6,(false,(.box (dT y3))))],[]⟩ F6) F6)))⟩
def d3w:FSpec:=Y0 c9I λx=>rZ x.1 x.2.1 x.2.2
def jf(A:I9)(B:J3)(C:J3):Option (J3×Int):=l7 (J6 13 A.1) (l7 (J6 A.1 16) (o5 (Af A B C) λx=>some x) (l7 (J6 27 A.1) (o5 (zn A.1 B C) λx=>some x) (o5 (rZ A.1 B C) λx=>some x))) (l7 (J6 27 A.1) (o5 (zn A.1 B C) λx=>some x) (o5 (rZ A.1 B C) λx=>some x))
def c9f:FQ:=⟨[tD y2,tD y3,tD y3],⟨[(.cell 6 51,tD y3),(.tmp 7,G7)],[]⟩,mE 39 [(362,d3u),(363,d3v),(364,d3w)],F6⟩
def d3c:FSpec:=Y0 c9f λx=>jf x.1 x.2.1 x.2.2
def uy(A:I9)(B:List J3)(C:dJ):Option (J3×Int):=o5 (Eb A (o9 B)) λx=>l7 (D6 x) (some ((0,0,0),2)) (o5 (PN A C) λx=>l7 (D6 x) (some ((0,0,0),6)) (o5 (U0 (λ(x:J3×Int)=>l7 (D8 x.2 (o9 B)) (o5 (G8 B x.2) λb=>o5 (gJ b) λc=>l7 (D6 c) (some (.rt ((0,0,0),8))) (some (.nx (x.1,x9 .i64 x.2 1)))) (some (.ex x.1))) ((0,0,0),0)) λo=>V5 o (λ(y:J3)=>l7 (x8 (o9 B) 0) (l7 (J6 36 A.1) (l7 (J6 A.1 39) (o5 (Bc A C) λx=>some x) (o5 (lu A C) λx=>some x)) (o5 (lu A C) λx=>some x)) (l7 (x8 (o9 B) 1) (o5 (G8 B 0) λx=>o5 (uz A x C) λx=>some x) (l7 (x8 (o9 B) 2) (o5 (G8 B 0) λx=>o5 (G8 B 1) λb=>o5 (jf A x b) λx=>some x) (o5 (G8 B 0) λx=>o5 (G8 B 1) λb=>o5 (G8 B 2) λc=>l7 (D6 (x8 x.1 1)) (some ((0,0,0),8)) (l7 (D6 (x8 b.1 c.1)) (some ((0,0,0),8)) (l7 (D6 (x8 b.2.1 c.2.1)) (some ((0,0,0),8)) (l7 (x8 x.2.2 1) (some (b,0)) (some (c,0))))))))) λr=>some r))
def c8D:FQ:=⟨[tD y2,uD y29,tD y62],⟨[(.cell 6 51,tD y3),(.tmp 7,G7)],[]⟩,mE 112 [(326,d2X),(327,d2Y),(325,a7N),(328,d2Z),(329,d3a),(330,d3b),(331,d3c)],sN 3 (Y3 (sN 1 (dE (qm [(6,9),(23,36),(4000384,4000385)] ⟨[(6,(false,(.box (dT y3)))),(8,G7)],[]⟩ 0 ⟨[(6,(false,(.box (dT y3))))],[]⟩ F6))) F6)⟩
def d2J:FSpec:=Y0 c8D λx=>uy x.1 x.2.1 x.2.2
def a5d:List MG:=[(false,(.dat y12)),G7,(true,(.dat y62))]
def b4a:List MG:=[(false,(.dat y12)),G7,(false,(.dat qK)),(true,(.dat y62))]
def b9N:Ret:=⟨[(.cell 6 51,(true,(.dat y3))),(.tmp 7,G7)],[]⟩
def d5B (r260:M.den (.dat y12)->M.den diM->M.den (.dat y62)->Option (bC ([(true,(.dat y3)),G7]++[]))) (r298:M.den (.dat y12)->M.den diM->M.den (.dat qK)->M.den (.dat y62)->Option (bC ([(true,(.dat y3)),G7]++[]))):Env:=⟨72,eqs,tt,gl,[(297,d2I),(298,⟨b4a,[(true,(.dat y3)),G7],[],λx=>r298 x.1 x.2.1 x.2.2.1 x.2.2.2⟩),(260,⟨a5d,[(true,(.dat y3)),G7],[],λx=>r260 x.1 x.2.1 x.2.2⟩),(299,d2J)],[],[],[],[],[],[]⟩
def c5C:Ann:=.seq F6 (.seq F6 (.seq F6 (.seq (.joinR [(6,8),(22,39),(4000384,4000385)] ⟨[(6,(false,(.box (.dat y3))))],[]⟩ F6) (.seq F6 (.seq (.seq F6 (.blk (.loopR [(6,8),(10,14),(39,63),(12000000,12000001)] ⟨[(6,(false,(.box (.dat y3)))),(10,(false,(.own y3))),(11,G7)],[]⟩ 0 ⟨[(6,(false,(.box (.dat y3)))),(10,(false,(.own y3)))],[]⟩ F6))) F6)))))
def Fe(r260:List I9->Int->dJ->Option (J3×Int))(r298:List I9->Int->d5Y->dJ->Option (J3×Int))(A:List I9)(B:Int)(C:dJ):Option (J3×Int):=o5 (zl A B) λx=>o5 (G8 A B) λc=>o5 (l7 (x8 c.1 23) (o5 (r298 A B x C) λx=>some (.inr x)) (l7 (x8 c.1 24) (o5 (r298 A B x C) λx=>some (.inr x)) (l7 (x8 c.1 26) (o5 (r298 A B x C) λx=>some (.inr x)) (some (.inl (0,0,0)))))) λo=>V5 o (λ(d:J3)=>o5 (U0 (λ(b:J3×List J3×Int)=>l7 (D8 b.2.2 (o9 x)) (o5 (G8 x b.2.2) λf=>o5 (P7 x (U8 b.2.2)) λx=>o5 (r260 A x C) λx=>l7 (D6 (x8 x.2 0)) (some (.rt ((0,0,0),x.2))) (o5 (bz b.2.1 [x.1]) λx=>some (.nx (b.1,x,x9 .i64 b.2.2 1)))) (some (.ex (b.1,b.2.1)))) (d,[],0)) λo=>V5 o (λ(y:J3×List J3)=>o5 (G8 A B) λx=>o5 (uy x y.2 C) λx=>some x) λr=>some r) λr=>some r
def d0J:Ret:=⟨[(.cell 8 51,(true,(.dat y3))),(.tmp 9,G7)],[]⟩
def d5E (r260:M.den (.dat y12)->M.den diM->M.den (.dat y62)->Option (bC ([(true,(.dat y3)),G7]++[]))) (r298:M.den (.dat y12)->M.den diM->M.den (.dat qK)->M.den (.dat y62)->Option (bC ([(true,(.dat y3)),G7]++[]))):Env:=⟨102,eqs,tt,gl,[(260,⟨a5d,[(true,(.dat y3)),G7],[],λx=>r260 x.1 x.2.1 x.2.2⟩),(325,a7N)],[],[],[],[],[],[]⟩
def c5G:Ann:=.seq F6 (.seq F6 (.seq F6 (.seq F6 (.seq (.joinR [(8,10),(34,43),(4000512,4000513)] ⟨[(8,(false,(.box (.dat y3))))],[]⟩ F6) F6))))
def BK(r260:List I9->Int->dJ->Option (J3×Int))(r298:List I9->Int->d5Y->dJ->Option (J3×Int))(A:List I9)(B:Int)(C:d5Y)(D:dJ):Option (J3×Int):=o5 (G8 A B) λx=>l7 (D6 (x8 x.2 0)) (some ((0,0,0),2)) (o5 (G8 C 0) λx=>o5 (r260 A x D) λx=>l7 (D6 (x8 x.2 0)) (some ((0,0,0),x.2)) (o5 (l7 (D6 (x8 x.1.1 1)) (some (.inr ((0,0,0),8))) (o5 (gJ x.1) λx=>l7 (D6 x) (some (.inr ((0,0,0),8))) (some (.inl (0,0,0))))) λo=>V5 o (λ(f:J3)=>o5 (G8 A B) λb=>l7 (x8 b.1 26) (l7 (x8 x.1.2.2 1) (o5 (G8 C 1) λx=>o5 (r260 A x D) λx=>some x) (o5 (G8 C 2) λx=>o5 (r260 A x D) λx=>some x)) (o5 (G8 A B) λc=>l7 (jG (x8 c.1 23) (x8 x.1.2.2 0)) (some (x.1,0)) (o5 (G8 C 1) λx=>o5 (r260 A x D) λx=>l7 (D6 (x8 x.2 0)) (some ((0,0,0),x.2)) (l7 (D6 (x8 x.1.1 1)) (some ((0,0,0),8)) (o5 (gJ x.1) λd=>l7 (D6 d) (some ((0,0,0),8)) (some (x.1,0))))))) λr=>some r))
def U5:Nat->(M.den (.dat y12)->M.den diM->M.den (.dat y62)->Option (bC ([(true,(.dat y3)),G7]++[])))×(M.den (.dat y12)->M.den diM->M.den (.dat qK)->M.den (.dat y62)->Option (bC ([(true,(.dat y3)),G7]++[])))|0=>(λa0 a1 a2=>none,λa0 a1 a2 a3=>none)|n+1=>(λa0 a1 a2=>Fe (U5 n).1 (U5 n).2 a0 a1 a2,λa0 a1 a2 a3=>BK (U5 n).1 (U5 n).2 a0 a1 a2 a3)
def PO:M.den (.dat y12)->M.den diM->M.den (.dat y62)->Option (bC ([(true,(.dat y3)),G7]++[])):=λa0 a1 a2=>(U5 kH).1 a0 a1 a2
def d2q:FSpec:=mkS a5d b9N λx=>PO x.1 x.2.1 x.2.2
def Jh(A:List I9)(B:dJ):Option (J3×Int):=o5 (Nu A) λx=>l7 (D6 (x8 x.2 0)) (some ((0,0,0),x.2)) (o5 (PO A (H9 .i64 (o9 A) 1) B) λx=>some x)
def c7P:FQ:=⟨[uD y12,tD y62],⟨[(.cell 4 51,tD y3),(.tmp 5,G7)],[]⟩,mE 25 [(259,d2p),(260,d2q)],F6⟩
def c1i:FSpec:=Y0 c7P λx=>Jh x.1 x.2
def Ed(A:d5Y)(B:d5Y):d6c:=l7 (D6 (x8 (o9 A) (o9 B))) (some 2) (l7 (D8 8 (o9 A)) (some 4) (o5 (U0 (λ(x:Int)=>l7 (D8 x (o9 A)) (o5 (G8 A x) λb=>l7 (D8 b (-1)) (some (.rt 9)) (o5 (G8 A x) λc=>l7 (J6 x c) (some (.rt 9)) (o5 (G8 B x) λd=>l7 (D8 d 0) (some (.rt 3)) (o5 (G8 B x) λf=>l7 (D8 9 f) (some (.rt 3)) (some (.nx (x9 .i64 x 1))))))) (some (.ex ()))) 0) λo=>V5 o (λy=>some 0) λr=>some r))
def c8B:FQ:=⟨[uD qK,uD qK],tR 4 G7,mE 45 [],sN 3 (Y3 (sN 1 (dE (qm [(4,6),(14,45)] ⟨[(5,G7)],[]⟩ 0 nZ F6))) F6)⟩
def d2G:FSpec:=Y0 c8B λx=>Ed x.1 x.2
def Ji(A:d5Y)(B:Int):Option d5Y:=o5 (Y8 (λ(x:d5Y×Int)=>l7 (D8 x.2 (o9 A)) (o5 (G8 A x.2) λb=>l7 (x8 b B) (o5 (bz x.1 [x.2]) λc=>some (.inl (c,x9 .i64 x.2 1))) (some (.inl (x.1,x9 .i64 x.2 1)))) (some (.inr x.1))) ([],0)) λy=>some y
def c9t:FQ:=⟨[uD qK,G7],tR 4 jc,mE 25 [],sN 2 (Y3 (sN 1 (dE (.loop [(5,7),(8,24),(7000448,7000449)] ⟨[(5,jc),(6,G7)],[]⟩ 0 ⟨[(5,jc)],[]⟩ F6))) F6)⟩
def d3n:FSpec:=Y0 c9t λx=>Ji x.1 x.2
def a9I:List MG:=[(false,(.dat qK)),(false,(.dat qK)),(false,(.dat (.sl .bool))),G7]
def b4c:List MG:=[(false,(.dat qK)),(false,(.dat qK)),(false,(.dat (.sl .bool))),G7]
def a9J:List MG:=[(false,(.dat qK)),(false,(.dat qK)),(false,(.dat (.sl .bool))),G7]
def b9O:Ret:=⟨[(.tmp 8,G7)],[]⟩
def d5D(r296:M.den (.dat qK)->M.den (.dat qK)->M.den (.dat (.sl .bool))->M.den diM->Option (bC ([G7]++[]))) (r323:M.den (.dat qK)->M.den (.dat qK)->M.den (.dat (.sl .bool))->M.den diM->Option (bC ([(false,(.dat qK))]++[]))) (r324:M.den (.dat qK)->M.den (.dat qK)->M.den (.dat (.sl .bool))->M.den diM->Option (bC ([G7]++[]))):Env:=⟨28,eqs,tt,gl,[(323,⟨b4c,[(false,(.dat qK))],[],λx=>r323 x.1 x.2.1 x.2.2.1 x.2.2.2⟩),(324,⟨a9J,[G7],[],λx=>r324 x.1 x.2.1 x.2.2.1 x.2.2.2⟩)],[],[],[],[],[],[]⟩
def c5F:Ann:=.leaf
def AL(r296:d5Y->d5Y->List Bool->Int->d6c)(r323:d5Y->d5Y->List Bool->Int->Option d5Y)(r324:d5Y->d5Y->List Bool->Int->d6c)(A:d5Y)(B:d5Y)(C:List Bool)(D:Int):d6c:=o5 (r323 A B C D) λx=>l7 (x8 (o9 x) 0) (some (-1)) (l7 (D8 1 (o9 x)) (some (-2)) (o5 (G8 x 0) λx=>o5 (r324 A B C x) λx=>some x))
def d0L:Ret:=⟨[(.tmp 8,(false,(.dat qK)))],[]⟩
def d5G(r296:M.den (.dat qK)->M.den (.dat qK)->M.den (.dat (.sl .bool))->M.den diM->Option (bC ([G7]++[]))) (r323:M.den (.dat qK)->M.den (.dat qK)->M.den (.dat (.sl .bool))->M.den diM->Option (bC ([(false,(.dat qK))]++[]))) (r324:M.den (.dat qK)->M.den (.dat qK)->M.den (.dat (.sl .bool))->M.den diM->Option (bC ([G7]++[]))):Env:=⟨78,eqs,tt,gl,[(349,d3n),(324,⟨a9J,[G7],[],λx=>r324 x.1 x.2.1 x.2.2.1 x.2.2.2⟩)],[],[],[],[],[],[]⟩
def c5I:Ann:=.seq F6 (.seq F6 (.seq F6 (.seq (.seq F6 (.blk (.loop [(10,12),(16,77),(10000960,10000961)] ⟨[(10,jc),(11,G7)],[]⟩ 0 ⟨[(10,jc)],[]⟩ (.seq F6 (.seq (.blk (.seq F6 (.seq (.join [(10,11),(31,51),(17000000,17000001)] ⟨[(10,jc)],[]⟩ F6) F6))) F6))))) F6)))
def Gz(r296:d5Y->d5Y->List Bool->Int->d6c)(r323:d5Y->d5Y->List Bool->Int->Option d5Y)(r324:d5Y->d5Y->List Bool->Int->d6c)(A:d5Y)(B:d5Y)(C:List Bool)(D:Int):Option d5Y:=o5 (Ji A D) λx=>o5 (Y8 (λ(b:d5Y×Int)=>l7 (D8 b.2 (o9 x)) (o5 (G8 x b.2) λq=>o5 (P7 x (U8 b.2)) λk=>o5 (r324 A B C k) λn=>l7 (x8 n (-1)) (some (.inl (b.1,x9 .i64 b.2 1))) (o5 (l7 (D8 0 (o9 b.1)) (o5 (G8 x b.2) λc=>o5 (P7 x (U8 b.2)) λx=>o5 (G8 B x) λx=>o5 (G8 b.1 0) λg=>o5 (P7 b.1 (U8 0)) λd=>o5 (G8 B d) λf=>l7 (D8 f x) (some []) (some b.1)) (some b.1)) λc=>l7 (x8 (o9 c) 0) (o5 (G8 x b.2) λg=>o5 (P7 x (U8 b.2)) λx=>o5 (bz c [x]) λx=>some (.inl (x,x9 .i64 b.2 1))) (o5 (G8 x b.2) λg=>o5 (P7 x (U8 b.2)) λd=>o5 (G8 B d) λf=>o5 (G8 c 0) λt=>o5 (P7 c (U8 0)) λi=>o5 (G8 B i) λj=>l7 (x8 f j) (o5 (G8 x b.2) λp=>o5 (P7 x (U8 b.2)) λx=>o5 (bz c [x]) λx=>some (.inl (x,x9 .i64 b.2 1))) (some (.inl (c,x9 .i64 b.2 1)))))) (some (.inr b.1))) ([],0)) λy=>some y
def d0M:Ret:=⟨[(.tmp 8,G7)],[]⟩
def d5H(r296:M.den (.dat qK)->M.den (.dat qK)->M.den (.dat (.sl .bool))->M.den diM->Option (bC ([G7]++[]))) (r323:M.den (.dat qK)->M.den (.dat qK)->M.den (.dat (.sl .bool))->M.den diM->Option (bC ([(false,(.dat qK))]++[]))) (r324:M.den (.dat qK)->M.den (.dat qK)->M.den (.dat (.sl .bool))->M.den diM->Option (bC ([G7]++[]))):Env:=⟨25,eqs,tt,gl,[(296,⟨a9I,[G7],[],λx=>r296 x.1 x.2.1 x.2.2.1 x.2.2.2⟩)],[],[],[],[],[],[]⟩
def c5J:Ann:=.leaf
def Cf(r296:d5Y->d5Y->List Bool->Int->d6c)(r323:d5Y->d5Y->List Bool->Int->Option d5Y)(r324:d5Y->d5Y->List Bool->Int->d6c)(A:d5Y)(B:d5Y)(C:List Bool)(D:Int):d6c:=o5 (r296 A B C D) λx=>l7 (x8 x (-1)) (o5 (G8 C D) λb=>l7 b (some D) (some x)) (some x)
def I8:Nat->(M.den (.dat qK)->M.den (.dat qK)->M.den (.dat (.sl .bool))->M.den diM->Option (bC ([G7]++[])))×(M.den (.dat qK)->M.den (.dat qK)->M.den (.dat (.sl .bool))->M.den diM->Option (bC ([(false,(.dat qK))]++[])))×(M.den (.dat qK)->M.den (.dat qK)->M.den (.dat (.sl .bool))->M.den diM->Option (bC ([G7]++[])))|0=>(λa0 a1 a2 a3=>none,λa0 a1 a2 a3=>none,λa0 a1 a2 a3=>none)|n+1=>(λa0 a1 a2 a3=>AL (I8 n).1 (I8 n).2.1 (I8 n).2.2 a0 a1 a2 a3,λa0 a1 a2 a3=>Gz (I8 n).1 (I8 n).2.1 (I8 n).2.2 a0 a1 a2 a3,λa0 a1 a2 a3=>Cf (I8 n).1 (I8 n).2.1 (I8 n).2.2 a0 a1 a2 a3)
def Jj:M.den (.dat qK)->M.den (.dat qK)->M.den (.dat (.sl .bool))->M.den diM->Option (bC ([G7]++[])):=λa0 a1 a2 a3=>(I8 kH).1 a0 a1 a2 a3
def d2H:FSpec:=mkS a9I b9O λx=>Jj x.1 x.2.1 x.2.2.1 x.2.2.2
def Hz(A:d5Y)(B:d5Y)(C:List Bool):d6c:=o5 (Ed A B) λx=>l7 (D6 (x8 x 0)) (some (-1)) (l7 (D6 (x8 (o9 C) (o9 A))) (some (-1)) (o5 (Jj A B C (-1)) λx=>some x))
def c8e:FQ:=⟨[uD qK,uD qK,(uD (.sl .bool))],tR 6 G7,mE 22 [(295,d2G),(296,d2H)],F6⟩
def d2o:FSpec:=Y0 c8e λx=>Hz x.1 x.2.1 x.2.2
def Ib(A:D7)(B:dJ)(C:Int)(D:Int):Option (Int×N9):=o5 (HY A D B.1) λx=>o5 (U0 (λ(b:N9×List Bool×Int)=>l7 (D8 b.2.2 (o9 x.1)) (o5 (G8 x.1 b.2.2) λf=>o5 (P7 x.1 (U8 b.2.2)) λg=>o5 (G8 A.2.2.2.2 g) λd=>l7 (x8 (o9 d.2.2.2.2.2.1) 0) (o5 (bz b.2.1 [true]) λx=>some (.nx (b.1,x,x9 .i64 b.2.2 1))) (o5 (Jh d.2.2.2.2.2.1 B) λc=>l7 (D6 (x8 c.2 0)) (o5 (G8 x.1 b.2.2) λi=>o5 (P7 x.1 (U8 b.2.2)) λx=>some (.rt (0,c.2,C,D,x))) (o5 (bz b.2.1 [x8 c.1.2.2 1]) λx=>some (.nx (b.1,x,x9 .i64 b.2.2 1))))) (some (.ex (b.1,b.2.1)))) ((0,0,0,0),[],0)) λo=>V5 o (λ(y:N9×List Bool)=>o5 (Hz x.2.1 x.2.2 y.2) λb=>l7 (D8 b 0) (some (b,0,0,0,0)) (o5 (G8 x.1 b) λf=>o5 (P7 x.1 (U8 b)) λx=>some (x,0,0,0,0))) λr=>some r
def c7O:FQ:=⟨[tD y24,tD y62,G7,G7],⟨[(.tmp 8,G7),(.cell 9 112,tD y42)],[]⟩,mE 84 [(257,d2n),(223,c1i),(258,d2o)],sN 3 (Y3 (sN 1 (dE (qm [(8,10),(13,18),(28,71),(4000576,4000577)] ⟨[(9,(false,(.box (dT y42)))),(13,(uO .bool)),(14,G7)],[]⟩ 0 ⟨[(9,(false,(.box (dT y42)))),(13,(uO .bool))],[]⟩ F6))) F6)⟩
def d2d:FSpec:=Y0 c7O λx=>Ib x.1 x.2.1 x.2.2.1 x.2.2.2
def Ic(A:D7)(B:dJ)(C:Int)(D:Int):Option (J3×Int×N9):=o5 (Ib A B C D) λx=>l7 (D6 (x8 x.2.1 0)) (some ((0,0,0),0,x.2)) (l7 (x8 x.1 (-1)) (some ((0,0,0),0,10,C,D,-1)) (l7 (x8 x.1 (-2)) (some ((0,0,0),0,11,C,D,-1)) (o5 (G8 A.2.2.2.2 x.1) λc=>o5 (Jh c.2.2.2.2.2.2.1 B) λb=>l7 (D6 (x8 b.2 0)) (some ((0,0,0),0,b.2,C,D,x.1)) (some (b.1,x.1,0,0,0,0)))))
def c7r:FQ:=⟨[tD y24,tD y62,G7,G7],⟨[(.cell 8 51,tD y3),(.tmp 9,G7),(.cell 10 112,tD y42)],[]⟩,mE 62 [(222,d2d),(223,c1i)],F6⟩
def d1J:FSpec:=Y0 c7r λx=>Ic x.1 x.2.1 x.2.2.1 x.2.2.2
def wJ(A:D7)(B:dJ)(C:Int)(D:List Bool):Option (List J3×d5Y×N9):=o5 (qo (o9 A.2.2.2.1) (0,0,0)) λx=>o5 (qo (o9 A.2.2.2.1) 0) λf=>o5 (sU A) λd=>o5 (U0 (λ(x:(Int×List J3×PUnit×List (List J3)×List I9×List dC)×N9×List J3×d5Y×Int)=>l7 (D8 x.2.2.2.2 (o9 d.1)) (o5 (G8 d.1 x.2.2.2.2) λj=>o5 (P7 d.1 (U8 x.2.2.2.2)) λb=>o5 (G8 D b) λg=>l7 (D6 g) (some (.nx ((x.1.1,x.1.2.1,(),x.1.2.2.2),x.2.1,x.2.2.1,x.2.2.2.1,x9 .i64 x.2.2.2.2 1))) (o5 (Ic A (x.1.1,x.1.2.1,x.2.2.1,x.1.2.2.2) C b) λc=>l7 (D6 (x8 c.2.2.1 0)) (some (.rt ([],[],c.2.2))) (o5 (G8 x.2.2.1 b) λk=>o5 (P7 x.2.2.1 (U8 b)) λn=>o5 (G8 x.2.2.2.1 b) λp=>o5 (P7 x.2.2.2.1 (U8 b)) λi=>some (.nx ((x.1.1,x.1.2.1,(),x.1.2.2.2),x.2.1,aW x.2.2.1 (U8 b) c.1,aW x.2.2.2.1 (U8 b) c.2.1,x9 .i64 x.2.2.2.2 1))))) (some (.ex (x.2.1,x.2.2.1,x.2.2.2.1)))) ((B.1,B.2.1,(),B.2.2.2),(0,0,0,0),x,f,0)) λo=>V5 o (λ(y:N9×a0b)=>some (y.2.1,y.2.2,0,0,0,0)) λr=>some r
def c6y:FQ:=⟨[tD y24,tD y62,G7,(uD (.sl .bool))],⟨[(.tmp 8,uO y3),(.tmp 9,jc),(.cell 10 112,tD y42)],[]⟩,mE 74 [(182,d1I),(183,d1J)],sN 4 (Y3 (sN 1 (dE (qm [(5,6),(8,13),(15,20),(33,71),(4000320,4000321),(4000640,4000641),(7001472,7001473),(10001728,10001729)] ⟨[(5,(false,(.box (pA diM (pA (dT y29) (pA (.cell none) (pA (dT y30) (pA (dT y12) (dT y9))))))))),(10,(false,(.box (dT y42)))),(11,(uO y3)),(12,jc),(15,G7)],[]⟩ 0 ⟨[(10,(false,(.box (dT y42)))),(11,(uO y3)),(12,jc)],[]⟩ F6))) F6)⟩
def c1b:FSpec:=Y0 c6y λx=>wJ x.1 x.2.1 x.2.2.1 x.2.2.2
def sV(A:U4)(B:Int)(C:fM)(D:List Bool):Option (List (List J3)×List d5Y×N9):=o5 (mY A B) λx=>o5 (U0 (λ(b:N9×List (List J3)×List d5Y×Int)=>l7 (D8 b.2.2.2 (o9 C.2.2)) (o5 (GG A C b.2.2.2) λc=>o5 (wJ x c b.2.2.2 D) λx=>l7 (D6 (x8 x.2.2.1 0)) (some (.rt ([],[],x.2.2))) (o5 (bz b.2.1 [x.1]) λd=>o5 (bz b.2.2.1 [x.2.1]) λx=>some (.nx (b.1,d,x,x9 .i64 b.2.2.2 1)))) (some (.ex (b.1,b.2.1,b.2.2.1)))) ((0,0,0,0),[],[],0)) λo=>V5 o (λ(y:N9×List (List J3)×List d5Y)=>some (y.2.1,y.2.2,0,0,0,0)) λr=>some r
def c6x:FQ:=⟨[tD y27,G7,tD y32,(uD (.sl .bool))],⟨[(.tmp 8,uO y29),(.tmp 9,uO qK),(.cell 10 112,tD y42)],[]⟩,mE 55 [(115,b4X),(181,d1H),(118,c1b)],sN 4 (Y3 (sN 1 (dE (qm [(8,13),(14,18),(21,52),(4000640,4000641)] ⟨[(10,(false,(.box (dT y42)))),(11,(uO y29)),(12,(uO qK)),(14,G7)],[]⟩ 0 ⟨[(10,(false,(.box (dT y42)))),(11,(uO y29)),(12,(uO qK))],[]⟩ F6))) F6)⟩
def d0X:FSpec:=Y0 c6x λx=>sV x.1 x.2.1 x.2.2.1 x.2.2.2
def QN(A:U4)(B:Int)(C:fM)(D:List (List J3)):Option dJ:=o5 (mY A B) λx=>o5 (Y8 (λ(b:dJ×Int)=>l7 (D8 b.2 (o9 x.2.2.2.1)) (o5 (G8 x.2.2.2.1 b.2) λx=>o5 (bz b.1.2.2.2.2.1 [x.2]) λx=>some (.inl ((b.1.1,b.1.2.1,b.1.2.2.1,b.1.2.2.2.1,x,b.1.2.2.2.2.2),x9 .i64 b.2 1))) (some (.inr b.1))) ((C.1,C.2.1,[],D,[],A.2.1),0)) λy=>some y
def c6z:FQ:=⟨[tD y27,G7,tD y32,uD y30],cR 8 178 (tD y62),mE 42 [(115,b4X)],sN 3 (Y3 (sN 1 (dE (.loop [(9,10),(11,12),(23,41),(7000576,7000577)] ⟨[(9,(false,(.box (pA diM (pA (dT y29) (pA (dT y29) (pA (dT y30) (pA (oW y2) (dT y9))))))))),(11,G7)],[]⟩ 0 ⟨[(9,(false,(.box (pA diM (pA (dT y29) (pA (dT y29) (pA (dT y30) (pA (oW y2) (dT y9)))))))))],[]⟩ F6))) F6)⟩
def d0Y:FSpec:=Y0 c6z λx=>QN x.1 x.2.1 x.2.2.1 x.2.2.2
def Ci(A:U4)(B:Int)(C:fM)(D:Int):Option (J3×Int×N9):=o5 (G8 A.2.2 B) λx=>o5 (qo (o9 x.2.2.2.1) false) λc=>o5 (Be x c D) λd=>o5 (mY A B) λf=>o5 (qo (o9 f.2.2.2.1) false) λg=>o5 (uA A B g D) λi=>o5 (sV A B C i) λb=>l7 (D6 (x8 b.2.2.1 0)) (some ((0,0,0),0,b.2.2)) (o5 (QN A B C b.1) λj=>o5 (wJ x j (-1) d) λx=>l7 (D6 (x8 x.2.2.1 0)) (some ((0,0,0),0,x.2.2)) (o5 (G8 x.1 D) λp=>o5 (P7 x.1 (U8 D)) λk=>o5 (G8 x.2.1 D) λn=>o5 (P7 x.2.1 (U8 D)) λx=>some (k,x,0,0,0,0)))
def q72:FQ:=⟨[tD y27,G7,tD y32,G7],⟨[(.cell 8 51,tD y3),(.tmp 9,G7),(.cell 10 112,tD y42)],[]⟩,mE 84 [(114,c0Z),(115,b4X),(116,d0W),(117,d0X),(119,d0Y),(118,c1b)],F6⟩
def s72:FSpec:=Y0 q72 λx=>Ci x.1 x.2.1 x.2.2.1 x.2.2.2
def Bd(A:U4)(B:Int)(C:fM)(D:Int):Option (J3×Int×N9):=o5 (Ef A B C D true) λx=>l7 (D6 (x8 x.1 0)) (some ((0,0,0),0,x)) (o5 (Ci A B C D) λx=>some x)
def q38:FQ:=⟨[tD y27,G7,tD y32,G7],⟨[(.cell 8 51,tD y3),(.tmp 9,G7),(.cell 10 112,tD y42)],[]⟩,mE 30 [(71,s71),(72,s72)],F6⟩
def s38:FSpec:=Y0 q38 λx=>Bd x.1 x.2.1 x.2.2.1 x.2.2.2
def FM(A:U4)(B:d5X):d6c:=o5 (U0 (λ(x:Int)=>l7 (D8 x (o9 A.2.2)) (o5 (G8 A.2.2 x) λb=>l7 (seq b.1 B) (some (.rt x)) (some (.nx (x9 .i64 x 1)))) (some (.ex ()))) 0) λo=>V5 o (λy=>some (-1)) λr=>some r
def c6A:FQ:=⟨[tD y27,(uD .str)],tR 4 G7,mE 22 [],sN 1 (Y3 (sN 1 (dE (qm [(4,22)] ⟨[(5,G7)],[]⟩ 0 nZ F6))) F6)⟩
def d0Z:FSpec:=Y0 c6A λx=>FM x.1 x.2
def Ie(A:D7)(B:d5X):d6c:=o5 (U0 (λ(x:Int)=>l7 (D8 x (o9 A.2.2.2.2)) (o5 (G8 A.2.2.2.2 x) λb=>l7 (seq b.1 B) (some (.rt x)) (some (.nx (x9 .i64 x 1)))) (some (.ex ()))) 0) λo=>V5 o (λy=>some (-1)) λr=>some r
def c6B:FQ:=⟨[tD y24,(uD .str)],tR 4 G7,mE 22 [],sN 1 (Y3 (sN 1 (dE (qm [(4,22)] ⟨[(5,G7)],[]⟩ 0 nZ F6))) F6)⟩
def d1a:FSpec:=Y0 c6B λx=>Ie x.1 x.2
def uB(A:U4)(B:d5X)(C:d5X):Option (D7×Int×Bool):=o5 (FM A B) λx=>l7 (D8 x 0) (some (([],0,[],[],[]),0,false)) (o5 (G8 A.2.2 x) λc=>o5 (Ie c C) λb=>l7 (D8 b 0) (some (([],0,[],[],[]),0,false)) (o5 (G8 A.2.2 x) λx=>some (x,b,true)))
def q73:FQ:=⟨[tD y27,(uD .str),(uD .str)],⟨[(.cell 6 82,tD y24),(.tmp 7,G7),(.tmp 8,eF)],[]⟩,mE 33 [(120,d0Z),(121,d1a)],F6⟩
def s73:FSpec:=Y0 q73 λx=>uB x.1 x.2.1 x.2.2
def Bf(A:D7)(B:Int):Option d5X:=l7 (D8 B 0) (some []) (l7 (J6 (o9 A.2.2.2.1) B) (some []) (o5 (G8 A.2.2.2.1 B) λx=>some x.1))
def c6C:FQ:=⟨[tD y24,G7],tR 4 (uD .str),mE 20 [],F6⟩
def d1b:FSpec:=Y0 c6C λx=>Bf x.1 x.2
def wK(A:D7)(B:Int):Option d5X:=l7 (D8 B 0) (some []) (l7 (J6 (o9 A.2.2.2.2) B) (some []) (o5 (G8 A.2.2.2.2 B) λx=>some x.1))
def c6D:FQ:=⟨[tD y24,G7],tR 4 (uD .str),mE 20 [],F6⟩
def d1c:FSpec:=Y0 c6D λx=>wK x.1 x.2
def Jp(A:List I9)(B:List I9):d6b:=l7 (D6 (x8 (o9 A) (o9 B))) (some false) (o5 (U0 (λ(x:Int)=>l7 (D8 x (o9 A)) (l7 (D8 x (o9 B)) (o5 (G8 A x) λb=>o5 (G8 B x) λc=>l7 (D6 (U6 (x8 b.1 c.1) (x8 b.2 c.2))) (some (.rt false)) (some (.nx (x9 .i64 x 1)))) (some (.ex ()))) (some (.ex ()))) 0) λo=>V5 o (λy=>some true) λr=>some r)
def c6E:FQ:=⟨[uD y12,uD y12],tR 4 eF,mE 32 [],sN 2 (Y3 (sN 1 (dE (qm [(4,6),(11,32)] ⟨[(5,G7)],[]⟩ 0 nZ F6))) F6)⟩
def d1d:FSpec:=Y0 c6E λx=>Jp x.1 x.2
def JY(A:D7)(B:Int)(C:D7)(D:Int):d6b:=o5 (G8 A.2.2.2.2 B) λx=>o5 (G8 C.2.2.2.2 D) λb=>o5 (Bf A x.2.1) λc=>o5 (Bf C b.2.1) λd=>l7 (seq c d) (o5 (wK A x.2.2.1) λf=>o5 (wK C b.2.2.1) λg=>l7 (seq f g) (l7 (x8 x.2.2.2.1 b.2.2.2.1) (l7 (U6 (x8 x.2.2.2.2.1.1 b.2.2.2.2.1.1) (x8 x.2.2.2.2.1.2 b.2.2.2.2.1.2)) (o5 (Jp x.2.2.2.2.2.1 b.2.2.2.2.2.1) λi=>l7 i (o5 (Jp x.2.2.2.2.2.2.1 b.2.2.2.2.2.2.1) λj=>l7 j (some (seq x.2.2.2.2.2.2.2 b.2.2.2.2.2.2.2)) (some false)) (some false)) (some false)) (some false)) (some false)) (some false)
def q74:FQ:=⟨[tD y24,G7,tD y24,G7],tR 8 eF,mE 76 [(122,d1b),(123,d1c),(124,d1d)],F6⟩
def s74:FSpec:=Y0 q74 λx=>JY x.1 x.2.1 x.2.2.1 x.2.2.2
def xy(A:U4)(B:U4):Option (List aS):=o5 (Y8 (λ(x:List aS×Int)=>l7 (D8 x.2 (o9 A.2.2)) (o5 (G8 A.2.2 x.2) λb=>o5 (Y8 (λ(x:List aS×Int)=>l7 (D8 x.2 (o9 b.2.2.2.2)) (o5 (G8 b.2.2.2.2 x.2) λg=>o5 (uB B b.1 g.1) λc=>l7 (D6 c.2.2) (o5 (G8 b.2.2.2.2 x.2) λd=>o5 (bz x.1 [(b.1,d.1,1)]) λf=>some (.inl (f,x9 .i64 x.2 1))) (o5 (JY b x.2 c.1 c.2.1) λd=>l7 (D6 d) (o5 (G8 b.2.2.2.2 x.2) λf=>o5 (bz x.1 [(b.1,f.1,3)]) λi=>some (.inl (i,x9 .i64 x.2 1))) (some (.inl (x.1,x9 .i64 x.2 1))))) (some (.inr x.1))) (x.1,0)) λy=>some (.inl (y,x9 .i64 x.2 1))) (some (.inr x.1))) ([],0)) λy=>o5 (Y8 (λ(x:List aS×Int)=>l7 (D8 x.2 (o9 B.2.2)) (o5 (G8 B.2.2 x.2) λb=>o5 (Y8 (λ(x:List aS×Int)=>l7 (D8 x.2 (o9 b.2.2.2.2)) (o5 (G8 b.2.2.2.2 x.2) λg=>o5 (uB A b.1 g.1) λc=>l7 (D6 c.2.2) (o5 (G8 b.2.2.2.2 x.2) λd=>o5 (bz x.1 [(b.1,d.1,2)]) λf=>some (.inl (f,x9 .i64 x.2 1))) (some (.inl (x.1,x9 .i64 x.2 1)))) (some (.inr x.1))) (x.1,0)) λy=>some (.inl (y,x9 .i64 x.2 1))) (some (.inr x.1))) (y,0)) λy=>some y
def q39:FQ:=⟨[tD y27,tD y27],tR 4 (uO y35),mE 131 [(73,s73),(74,s74)],sN 2 (Y3 (sN 1 (dE (.loop [(5,12),(18,83)] ⟨[(5,(uO y35)),(6,G7)],[]⟩ 0 ⟨[(5,(uO y35))],[]⟩ (sN 1 (Y3 (dE (sN 2 (dE (.loop [(5,6),(8,12),(30,83),(14000000,14000001)] ⟨[(5,(uO y35)),(8,G7)],[]⟩ 2 ⟨[(5,(uO y35))],[]⟩ F6)))) F6))))) (Y3 (sN 1 (dE (.loop [(5,6),(12,18),(83,130),(15000000,15000001)] ⟨[(5,(uO y35)),(12,G7)],[]⟩ 4 ⟨[(5,(uO y35))],[]⟩ (sN 1 (Y3 (dE (sN 2 (dE (.loop [(5,6),(14,18),(95,130),(70000000,70000001)] ⟨[(5,(uO y35)),(14,G7)],[]⟩ 6 ⟨[(5,(uO y35))],[]⟩ F6)))) F6))))) F6))⟩
def s39:FSpec:=Y0 q39 λx=>xy x.1 x.2
def QO(A:d5Y)(B:Int):d6b:=o5 (U0 (λ(x:Int)=>l7 (D8 x (o9 A)) (o5 (G8 A x) λb=>l7 (x8 b B) (some (.rt true)) (some (.nx (x9 .i64 x 1)))) (some (.ex ()))) 0) λo=>V5 o (λy=>some false) λr=>some r
def c6F:FQ:=⟨[uD qK,G7],tR 4 eF,mE 18 [],sN 1 (Y3 (sN 1 (dE (qm [(4,18)] ⟨[(5,G7)],[]⟩ 0 nZ F6))) F6)⟩
def d1e:FSpec:=Y0 c6F λx=>QO x.1 x.2
def Bh(A:D7)(B:d5Y)(C:d5X):d6b:=o5 (U0 (λ(x:Int)=>l7 (D8 x (o9 A.2.2.2.2)) (o5 (G8 A.2.2.2.2 x) λb=>l7 (seq b.1 C) (o5 (G8 A.2.2.2.2 x) λc=>o5 (QO B c.2.1) λd=>l7 d (some (.rt true)) (some (.nx (x9 .i64 x 1)))) (some (.nx (x9 .i64 x 1)))) (some (.ex ()))) 0) λo=>V5 o (λy=>some false) λr=>some r
def q76:FQ:=⟨[tD y24,uD qK,(uD .str)],tR 6 eF,mE 33 [(127,d1e)],sN 1 (Y3 (sN 1 (dE (qm [(6,33)] ⟨[(7,G7)],[]⟩ 0 nZ F6))) F6)⟩
def s76:FSpec:=Y0 q76 λx=>Bh x.1 x.2.1 x.2.2
def wL(A:U4)(B:Int)(C:Int)(D:d5X)(E:d5X):d6b:=o5 (G8 A.2.2 B) λx=>o5 (kz x C) λd=>o5 (bz d [C]) λf=>o5 (l7 (seq x.1 D) (o5 (Bh x f E) λx=>l7 x (some (.inr true)) (some (.inl ()))) (some (.inl ()))) λo=>V5 o (λj=>l7 (D8 x.2.1 0) (some false) (o5 (G8 A.2.2 x.2.1) λc=>o5 (wG x C) λx=>o5 (Y8 (λ(b:d5Y×Int)=>l7 (D8 b.2 (o9 x)) (o5 (G8 x b.2) λk=>o5 (P7 x (U8 b.2)) λg=>o5 (bz b.1 [g]) λi=>o5 (G8 x b.2) λn=>o5 (P7 x (U8 b.2)) λx=>o5 (kz c x) λx=>o5 (bz i x) λx=>some (.inl (x,x9 .i64 b.2 1))) (some (.inr b.1))) ([],0)) λy=>l7 (seq c.1 D) (o5 (Bh c y E) λx=>some x) (some false))) λr=>some r
def q40:FQ:=⟨[tD y27,G7,G7,(uD .str),(uD .str)],tR 10 eF,mE 81 [(75,s75),(76,s76),(77,s77)],sN 3 (Y3 (jnR [(10,11),(28,38)] nZ F6) (sN 4 (Y3 (sN 1 (dE (.loop [(15,17),(50,71)] ⟨[(15,jc),(16,G7)],[]⟩ 0 ⟨[(15,jc)],[]⟩ F6))) F6)))⟩
def s40:FSpec:=Y0 q40 λx=>wL x.1 x.2.1 x.2.2.1 x.2.2.2.1 x.2.2.2.2
def Bg(A:U4)(B:U4)(C:Int)(D:fM)(E:Int):Option (W9×Int):=o5 (o5 (wH A) λx=>l7 (D6 (x8 x.1 0)) (some (.inr (((0,0,0),(0,0,0),0,0,[]),1))) (o5 (wH B) λx=>l7 (D6 (x8 x.1 0)) (some (.inr (((0,0,0),(0,0,0),0,0,[]),1))) (some (.inl ((0,0,0),(0,0,0),0,0,[]))))) λo=>V5 o (λ(x:W9)=>o5 (l7 (D8 C 0) (some (.inr (((0,0,0),(0,0,0),0,0,[]),6))) (l7 (J6 (o9 A.2.2) C) (some (.inr (((0,0,0),(0,0,0),0,0,[]),6))) (l7 (D8 E 0) (some (.inr (((0,0,0),(0,0,0),0,0,[]),6))) (o5 (G8 A.2.2 C) λd=>l7 (J6 (o9 d.2.2.2.1) E) (some (.inr (((0,0,0),(0,0,0),0,0,[]),6))) (some (.inl x)))))) λo=>V5 o (λ(x:W9)=>o5 (vG A B) λx=>l7 (D6 x) (some (((0,0,0),(0,0,0),0,0,[]),8)) (o5 (Bd A C D E) λx=>o5 (Bd B C D E) λd=>o5 (xy A B) λf=>o5 (Y8 (λ(x:W9×Int)=>l7 (D8 x.2 (o9 f)) (o5 (G8 f x.2) λj=>o5 (P7 f (U8 x.2)) λb=>l7 (D6 (x8 b.2.2 2)) (o5 (wL A C E b.1 b.2.1) λg=>l7 g (o5 (bz x.1.2.2.2.2 [b]) λc=>some (.inl ((x.1.1,x.1.2.1,x.1.2.2.1,x.1.2.2.2.1,c),x9 .i64 x.2 1))) (l7 (D6 (x8 b.2.2 1)) (o5 (wL B C E b.1 b.2.1) λc=>l7 c (o5 (bz x.1.2.2.2.2 [b]) λi=>some (.inl ((x.1.1,x.1.2.1,x.1.2.2.1,x.1.2.2.2.1,i),x9 .i64 x.2 1))) (some (.inl (x.1,x9 .i64 x.2 1)))) (some (.inl (x.1,x9 .i64 x.2 1))))) (l7 (D6 (x8 b.2.2 1)) (o5 (wL B C E b.1 b.2.1) λg=>l7 g (o5 (bz x.1.2.2.2.2 [b]) λc=>some (.inl ((x.1.1,x.1.2.1,x.1.2.2.1,x.1.2.2.2.1,c),x9 .i64 x.2 1))) (some (.inl (x.1,x9 .i64 x.2 1)))) (some (.inl (x.1,x9 .i64 x.2 1))))) (some (.inr x.1))) ((x.1,d.1,x.2.2.1,d.2.2.1,[]),0)) λy=>some (y,0))) λr=>some r) λr=>some r
def q17:FQ:=⟨[tD y27,tD y27,G7,tD y32,G7],⟨[(.cell 10 62,tD y40),(.tmp 11,G7)],[]⟩,mE 138 [(36,s36),(37,s37),(38,s38),(39,s39),(40,s40)],sN 1 (Y3 (jnR [(10,12),(23,34),(4000640,4000641)] ⟨[(10,(false,(.box (dT y40))))],[]⟩ F6) (Y3 (jnR [(10,12),(34,59),(6000000,6000001)] ⟨[(10,(false,(.box (dT y40))))],[]⟩ F6) (sN 5 (Y3 (sN 1 (dE (.loop [(18,19),(20,23),(92,137),(43001152,43001153)] ⟨[(18,(false,(.box (pA (dT y3) (pA (dT y3) (pA diM (pA diM (oW y35)))))))),(20,G7)],[]⟩ 0 ⟨[(18,(false,(.box (pA (dT y3) (pA (dT y3) (pA diM (pA diM (oW y35))))))))],[]⟩ F6))) F6))))⟩
def s17:FSpec:=Y0 q17 λx=>Bg x.1 x.2.1 x.2.2.1 x.2.2.2.1 x.2.2.2.2
def BP(A:W9):d6b:=l7 (D6 (jG (x8 A.2.2.1 0) (x8 A.2.2.2.1 0))) (some true) (l7 (x8 A.2.2.1 0) (some (D6 (U6 (x8 A.1.1 A.2.1.1) (U6 (x8 A.1.2.1 A.2.1.2.1) (x8 A.1.2.2 A.2.1.2.2))))) (some false))
def q41:FQ:=⟨[tD y40],tR 2 eF,mE 20 [],F6⟩
def s41:FSpec:=Y0 q41 λx=>BP x
def JZ(A:List W9):Option bH:=o5 (Y8 (λ(x:bH×Int)=>l7 (D8 x.2 (o9 A)) (o5 (o5 (G8 A x.2) λb=>o5 (o5 (BP b) λc=>l7 c (some (x.1.1,x9 .i64 x.1.2.1 1,x.1.2.2)) (some x.1)) λx=>o5 (l7 (x8 b.2.2.1 0) (some (x8 b.2.2.2.1 0)) (some false)) λc=>o5 (l7 c (l7 (D8 b.1.2.2 b.2.1.2.2) (some (x.1,x.2.1,x9 .i64 x.2.2.1 1,x.2.2.2)) (some x)) (some x)) λx=>o5 (l7 c (l7 (D8 b.2.1.2.2 b.1.2.2) (some (x.1,x.2.1,x.2.2.1,x9 .i64 x.2.2.2.1 1,x.2.2.2.2)) (some x)) (some x)) λx=>l7 (x8 b.2.2.1 0) (l7 (D6 (x8 b.2.2.2.1 0)) (some (x.1,x.2.1,x.2.2.1,x.2.2.2.1,x9 .i64 x.2.2.2.2.1 1,x.2.2.2.2.2)) (some x)) (some x)) λb=>some (.inl (b,x9 .i64 x.2 1))) (some (.inr x.1))) ((o9 A,0,0,0,0,0,0),0)) λy=>some y
def q18:FQ:=⟨[uD y41],cR 2 34 (tD y45),mE 75 [(41,s41)],sN 2 (Y3 (sN 1 (dE (.loop [(3,7),(10,74),(7000192,7000193)] ⟨[(3,(false,(.box (dT y45)))),(4,G7)],[]⟩ 0 ⟨[(3,(false,(.box (dT y45))))],[]⟩ (sN 1 (Y3 (.join [(3,4),(5,7),(16,74),(14000000,14000001)] ⟨[(3,(false,(.box (dT y45))))],[]⟩ (dE (sN 1 (Y3 (.join [(3,4),(20,26),(14000000,14000001)] ⟨[(3,(false,(.box (dT y45))))],[]⟩ F6) (Y3 (.join [(6,7),(26,34)] ⟨[(6,eF)],[]⟩ F6) (Y3 (.join [(3,4),(34,48),(29000000,29000001)] ⟨[(3,(false,(.box (dT y45))))],[]⟩ F6) (Y3 (.join [(3,4),(48,62),(40000000,40000001)] ⟨[(3,(false,(.box (dT y45))))],[]⟩ F6) F6))))))) F6))))) F6)⟩
def s18:FSpec:=Y0 q18 λx=>JZ x
def uX(A:List W9)(B:Bool):Option d5Y:=o5 (Y8 (λ(x:d5Y×Int)=>l7 (D8 x.2 (o9 A)) (o5 (G8 A x.2) λc=>o5 (G8 A x.2) λd=>l7 B (o5 (G8 A x.2) λb=>o5 (G8 A x.2) λf=>l7 (x8 f.2.2.1 0) (l7 (x8 b.1.1 3) (o5 (bz x.1 [b.1.2.2]) λg=>some (.inl (g,x9 .i64 x.2 1))) (some (.inl (x.1,x9 .i64 x.2 1)))) (some (.inl (x.1,x9 .i64 x.2 1)))) (l7 (x8 d.2.2.2.1 0) (l7 (x8 c.2.1.1 3) (o5 (bz x.1 [c.2.1.2.2]) λb=>some (.inl (b,x9 .i64 x.2 1))) (some (.inl (x.1,x9 .i64 x.2 1)))) (some (.inl (x.1,x9 .i64 x.2 1))))) (some (.inr x.1))) ([],0)) λy=>some y
def q20:FQ:=⟨[uD y41,eF],tR 4 jc,mE 50 [],sN 2 (Y3 (sN 1 (dE (.loop [(5,9),(10,49),(7000576,7000577)] ⟨[(5,jc),(6,G7)],[]⟩ 0 ⟨[(5,jc)],[]⟩ F6))) F6)⟩
def s20:FSpec:=Y0 q20 λx=>uX x.1 x.2
def LX(A:d5Y):Option I9:=o5 (U0 (λ(x:I9)=>l7 (D8 x.2 (o9 A)) (o5 (G8 A x.2) λb=>o5 (iH b 1000000000000000) λc=>l7 c (some (.rt (0,3))) (o5 (G8 A x.2) λd=>o5 (iH (x9 .i64 x.1 d) 1000000000000000) λf=>l7 f (some (.rt (0,3))) (o5 (G8 A x.2) λg=>some (.nx (x9 .i64 x.1 g,x9 .i64 x.2 1))))) (some (.ex x.1))) (0,0)) λo=>V5 o (λy=>some (y,0)) λr=>some r
def q19:FQ:=⟨[uD qK],⟨[(.tmp 2,G7),(.tmp 3,G7)],[]⟩,mE 33 [(42,s42)],sN 2 (Y3 (sN 1 (dE (qm [(2,32)] ⟨[(4,G7),(5,G7)],[]⟩ 0 ⟨[(4,G7)],[]⟩ F6))) F6)⟩
def s19:FSpec:=Y0 q19 λx=>LX x
def QP(A:U4)(B:U4)(C:Int)(D:List fM)(E:Int):Option (List W9×bH×Int):=o5 (U0 (λ(x:bH×List W9×Int)=>l7 (D8 x.2.2 (o9 D)) (o5 (G8 D x.2.2) λc=>o5 (Bg A B C c E) λb=>l7 (D6 (x8 b.2 0)) (some (.rt ([],(0,0,0,0,0,0,0),b.2))) (o5 (bz x.2.1 [b.1]) λd=>some (.nx (x.1,d,x9 .i64 x.2.2 1)))) (some (.ex (x.1,x.2.1)))) ((0,0,0,0,0,0,0),[],0)) λo=>V5 o (λ(y:bH×List W9)=>o5 (JZ y.2) λx=>o5 (uX y.2 true) λc=>o5 (LX c) λb=>l7 (D6 (x8 b.2 0)) (some ([],(0,0,0,0,0,0,0),b.2)) (o5 (uX y.2 false) λd=>o5 (LX d) λf=>l7 (D6 (x8 f.2 0)) (some ([],(0,0,0,0,0,0,0),f.2)) (some (y.2,(x.1,x.2.1,x.2.2.1,x.2.2.2.1,x.2.2.2.2.1,b.1,f.1),0)))) λr=>some r
def q7:FQ:=⟨[tD y27,tD y27,G7,uD y33,G7],⟨[(.tmp 10,uO y40),(.cell 11 34,tD y45),(.tmp 12,G7)],[]⟩,mE 75 [(17,s17),(18,s18),(20,s20),(19,s19)],sN 2 (Y3 (sN 1 (dE (qm [(10,17),(21,47),(4000704,4000705),(7001280,7001281)] ⟨[(11,(false,(.box (dT y45)))),(13,(uO y40)),(14,G7)],[]⟩ 0 ⟨[(11,(false,(.box (dT y45)))),(13,(uO y40))],[]⟩ F6))) F6)⟩
def s7:FSpec:=Y0 q7 λx=>QP x.1 x.2.1 x.2.2.1 x.2.2.2.1 x.2.2.2.2
def Ij(A:List aS)(B:List aS):d6b:=l7 (D6 (x8 (o9 A) (o9 B))) (some false) (o5 (U0 (λ(x:Int)=>l7 (D8 x (o9 A)) (l7 (D8 x (o9 B)) (o5 (G8 A x) λb=>o5 (G8 B x) λc=>l7 (D6 (U6 (seq b.1 c.1) (U6 (seq b.2.1 c.2.1) (x8 b.2.2 c.2.2)))) (some (.rt false)) (some (.nx (x9 .i64 x 1)))) (some (.ex ()))) (some (.ex ()))) 0) λo=>V5 o (λy=>some true) λr=>some r)
def q43:FQ:=⟨[uD y36,uD y36],tR 4 eF,mE 32 [],sN 2 (Y3 (sN 1 (dE (qm [(4,6),(11,32)] ⟨[(5,G7)],[]⟩ 0 nZ F6))) F6)⟩
def s43:FSpec:=Y0 q43 λx=>Ij x.1 x.2
def Gi(A:W9)(B:W9):d6b:=l7 (U6 (x8 A.1.1 B.1.1) (U6 (x8 A.1.2.1 B.1.2.1) (x8 A.1.2.2 B.1.2.2))) (l7 (U6 (x8 A.2.1.1 B.2.1.1) (U6 (x8 A.2.1.2.1 B.2.1.2.1) (x8 A.2.1.2.2 B.2.1.2.2))) (l7 (x8 A.2.2.1 B.2.2.1) (l7 (x8 A.2.2.2.1 B.2.2.2.1) (o5 (Ij A.2.2.2.2 B.2.2.2.2) λx=>some x) (some false)) (some false)) (some false)) (some false)
def q21:FQ:=⟨[tD y40,tD y40],tR 4 eF,mE 38 [(43,s43)],F6⟩
def s21:FSpec:=Y0 q21 λx=>Gi x.1 x.2
def Ik(A:List W9)(B:List W9):d6b:=l7 (D6 (x8 (o9 A) (o9 B))) (some false) (o5 (U0 (λ(x:Int)=>l7 (D8 x (o9 A)) (l7 (D8 x (o9 B)) (o5 (G8 A x) λb=>o5 (G8 B x) λc=>o5 (Gi b c) λd=>l7 (D6 d) (some (.rt false)) (some (.nx (x9 .i64 x 1)))) (some (.ex ()))) (some (.ex ()))) 0) λo=>V5 o (λy=>some true) λr=>some r)
def q8:FQ:=⟨[uD y41,uD y41],tR 4 eF,mE 33 [(21,s21)],sN 2 (Y3 (sN 1 (dE (qm [(4,6),(11,33)] ⟨[(5,G7)],[]⟩ 0 nZ F6))) F6)⟩
def s8:FSpec:=Y0 q8 λx=>Ik x.1 x.2
def ps3:List MG:=[(true,(.dat y28)),G7,(false,(.dat y33)),G7]
def AC(A:Dj)(B:Int)(C:List fM)(D:Int):d6b:=o5 (QC A C) λx=>l7 (D6 x) (o5 JO λx=>some x) (o5 (zy A.1 A.2 B C D) λx=>o5 (QP A.1 A.2 B C D) λb=>o5 (Ik x.1 b.1) λc=>l7 c (l7 (U6 (x8 x.2.1.1 b.2.1.1) (U6 (x8 x.2.1.2.1 b.2.1.2.1) (U6 (x8 x.2.1.2.2.1 b.2.1.2.2.1) (U6 (x8 x.2.1.2.2.2.1 b.2.1.2.2.2.1) (U6 (x8 x.2.1.2.2.2.2.1 b.2.1.2.2.2.2.1) (U6 (x8 x.2.1.2.2.2.2.2.1 b.2.1.2.2.2.2.2.1) (x8 x.2.1.2.2.2.2.2.2 b.2.1.2.2.2.2.2.2))))))) (l7 (x8 x.2.2 b.2.2) (o5 JO λx=>some x) (some false)) (some false)) (some false))
def q3:FQ:=⟨ps3,tR 8 eF,mE 60 [(4,s4),(5,s5),(6,s6),(7,s7),(8,s8)],F6⟩
def s3:FSpec:=Y0 q3 λx=>AC x.1 x.2.1 x.2.2.1 x.2.2.2
abbrev d5W:Ty:=y27
end
end Gt
