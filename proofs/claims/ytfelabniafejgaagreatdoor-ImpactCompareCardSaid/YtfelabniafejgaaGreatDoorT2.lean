import Derived.Test.YtfelabniafejgaaGreatDoorT1
set_option linter.all false
open Go Go.GP
namespace Gt
abbrev LP:d1x:=[0,1,2,2,3,3,3,3,4,4,4,4,4,4,4,4,5,5,5,5,5,5,5,5,5,5,5,5,5,5,5,5,6,6,6,6,6,6,6,6,6,6,6,6,6,6,6,6,6,6,6,6,6,6,6,6,6,6,6,6,6,6,6,6,7,7,7,7,7,7,7,7,7,7,7,7,7,7,7,7,7,7,7,7,7,7,7,7,7,7,7,7,7,7,7,7,7,7,7,7,7,7,7,7,7,7,7,7,7,7,7,7,7,7,7,7,7,7,7,7,7,7,7,7,7,7,7,7,8,8,8,8,8,8,8,8,8,8,8,8,8,8,8,8,8,8,8,8,8,8,8,8,8,8,8,8,8,8,8,8,8,8,8,8,8,8,8,8,8,8,8,8,8,8,8,8,8,8,8,8,8,8,8,8,8,8,8,8,8,8,8,8,8,8,8,8,8,8,8,8,8,8,8,8,8,8,8,8,8,8,8,8,8,8,8,8,8,8,8,8,8,8,8,8,8,8,8,8,8,8,8,8,8,8,8,8,8,8,8,8,8,8,8,8,8,8,8,8,8,8,8,8,8,8,8,8]
set_option maxRecDepth 100000
noncomputable section
def a0j(f:Func):Code:=match f.body with|some c=>c|none=> .skip
abbrev mkS(ps:List MG)(rt:Ret)(F:aU ps->Option rt.den):FSpec:=⟨ps,rt.rs.map (·.2),rt.outs.map (·.2),F⟩
structure FQ where
 (ps:List MG)
 (rt:Ret)
 (E:Env)
 (an:Ann)
abbrev X7(q:FQ)(F:aU q.ps->Option q.rt.den):FSpec:=mkS q.ps q.rt F
abbrev jnR:=Ann.joinR
abbrev lpR:=Ann.loopR
abbrev Y2:=Ann.seq
abbrev dn:=Ann.blk
abbrev nX:Sig:=⟨[],[]⟩
def sN:Nat->Ann->Ann
 |0,a=>a|n+1,a=> .seq .leaf (sN n a)
abbrev uO(t:Ty):MG:=(false,.own t)
abbrev uD(t:Ty):MG:=(false,.dat t)
abbrev tD(t:Ty):MG:=(true,.dat t)
abbrev pA:=M.pair
abbrev oW:=M.own
abbrev dT:=M.dat
abbrev F6:Ann:=.leaf
abbrev diM:M:=.dat (.int .i64)
abbrev oiM:M:=.own (.int .i64)
abbrev dbM:M:=.dat .bool
abbrev G5:MG:=(false,diM)
abbrev dR:MG:=(false,dbM)
abbrev jR:MG:=(false,oiM)
abbrev y0:Ty:=.prod .str (.sl .str)
abbrev y1:Ty:=.sl y0
abbrev y2:Ty:=.prod (.int .i64) (.int .i64)
abbrev y3:Ty:=.prod (.int .i64) y2
abbrev y4:Ty:=.prod y2 y3
abbrev y5:Ty:=.sl y4
abbrev y6:Ty:=.prod y2 y5
abbrev y7:Ty:=.prod y2 y6
abbrev y8:Ty:=.prod .str y7
abbrev y9:Ty:=.sl y8
abbrev y10:Ty:=.prod .str y2
abbrev y11:Ty:=.sl y10
abbrev y12:Ty:=.sl y2
abbrev y13:Ty:=.prod y12 .str
abbrev y14:Ty:=.prod y12 y13
abbrev y15:Ty:=.prod y2 y14
abbrev y16:Ty:=.prod (.int .i64) y15
abbrev y17:Ty:=.prod (.int .i64) y16
abbrev y18:Ty:=.prod (.int .i64) y17
abbrev y19:Ty:=.prod .str y18
abbrev y20:Ty:=.sl y19
abbrev y21:Ty:=.prod y11 y20
abbrev y22:Ty:=.prod y11 y21
abbrev y23:Ty:=.prod (.int .i64) y22
abbrev y24:Ty:=.prod .str y23
abbrev y25:Ty:=.sl y24
abbrev y26:Ty:=.prod y9 y25
abbrev y27:Ty:=.prod y1 y26
abbrev y28:Ty:=.prod y27 y27
abbrev y29:Ty:=.sl y3
abbrev y30:Ty:=.sl y29
abbrev y31:Ty:=.prod y29 y30
abbrev y32:Ty:=.prod (.int .i64) y31
abbrev y33:Ty:=.prod .str (.int .i64)
abbrev y34:Ty:=.prod .str y33
abbrev y35:Ty:=.sl y34
abbrev y36:Ty:=.prod (.int .i64) y35
abbrev y37:Ty:=.prod (.int .i64) y36
abbrev y38:Ty:=.prod y3 y37
abbrev y39:Ty:=.prod y3 y38
abbrev y40:Ty:=.prod (.int .i64) y3
abbrev y41:Ty:=.prod .str .str
abbrev y42:Ty:=.sl (.ent true false y41 .bool)
abbrev y43:Ty:=.sl (.int .i64)
abbrev y44:Ty:=.sl (.ent false false .str (.int .i64))
abbrev y45:Ty:=.prod y24 y44
abbrev y46:Ty:=.sl (.ent false true .str y45)
abbrev y47:Ty:=.prod y29 y43
abbrev y48:Ty:=.sl y47
abbrev y49:Ty:=.prod y43 y48
abbrev y50:Ty:=.prod y29 y49
abbrev y51:Ty:=.prod y12 y9
abbrev y52:Ty:=.prod y30 y51
abbrev y53:Ty:=.prod y29 y52
abbrev y54:Ty:=.prod y29 y53
abbrev y55:Ty:=.prod (.int .i64) y54
abbrev y56:Ty:=.sl (.ent false false (.int .i64) .bool)
abbrev y57:Ty:=.sl y43
abbrev y58:Ty:=.prod y2 .str
abbrev y59:Ty:=.prod (.int .i64) y58
abbrev y60:Ty:=.prod .str y59
abbrev y61:Ty:=.prod .str y60
abbrev y62:Ty:=.prod y12 .bool
abbrev y63:Ty:=.prod y12 y62
abbrev y64:Ty:=.prod y12 y63
abbrev y65:Ty:=.prod y9 y64
abbrev y66:Ty:=.prod y1 y65
abbrev y67:Ty:=.prod (.sl .bool) (.sl .bool)
abbrev y68:Ty:=.prod y24 y67
abbrev y69:Ty:=.prod y24 y68
abbrev y70:Ty:=.prod y43 y55
abbrev y71:Ty:=.prod y12 y70
abbrev y72:Ty:=.prod y43 y43
abbrev y73:Ty:=.prod y43 y72
def tt:List (Nat×TI):=[(3,⟨1,8,(.int .i64),some (.int .i64),[.i .i64 0]⟩),(4,⟨1,1,.bool,some .bool,[.b false]⟩),(5,⟨1,1,(.int .u8),some (.int .u8),[.i .u8 0]⟩),(9,⟨1,16,.str,some .str,[.s []]⟩),(22,⟨1,24,(.sl 77),some y1,[.nl]⟩),(23,⟨1,24,(.sl 82),some y9,[.nl]⟩),(24,⟨1,24,(.sl 61),some y25,[.nl]⟩),(26,⟨3,72,(.struct [(22,0),(23,1),(24,2)]),some y27,[.nl,.nl,.nl]⟩),(28,⟨6,144,(.struct [(26,0),(26,3)]),some y28,[.nl,.nl,.nl,.nl,.nl,.nl]⟩),(29,⟨1,24,(.sl 36),some y29,[.nl]⟩),(30,⟨1,24,(.sl 29),some y30,[.nl]⟩),(32,⟨3,56,(.struct [(3,0),(29,1),(30,2)]),some y32,[.i .i64 0,.nl,.nl]⟩),(36,⟨3,24,(.struct [(3,0),(3,1),(3,2)]),some y3,[.i .i64 0,.i .i64 0,.i .i64 0]⟩),(37,⟨1,8,(.int .i64),some (.int .i64),[.i .i64 0]⟩),(38,⟨1,24,(.sl 53),some y35,[.nl]⟩),(40,⟨9,88,(.struct [(36,0),(36,3),(37,6),(37,7),(38,8)]),some y39,[.i .i64 0,.i .i64 0,.i .i64 0,.i .i64 0,.i .i64 0,.i .i64 0,.i .i64 0,.i .i64 0,.nl]⟩),(49,⟨2,16,(.struct [(3,0),(3,1)]),some y2,[.i .i64 0,.i .i64 0]⟩),(50,⟨1,24,(.sl 49),some y12,[.nl]⟩),(53,⟨3,40,(.struct [(9,0),(9,1),(3,2)]),some y34,[.s [],.s [],.i .i64 0]⟩),(56,⟨4,32,(.struct [(37,0),(3,1),(3,2),(3,3)]),some y40,[.i .i64 0,.i .i64 0,.i .i64 0,.i .i64 0]⟩),(58,⟨1,24,(.sl 89),some y11,[.nl]⟩),(59,⟨1,24,(.sl 87),some y20,[.nl]⟩),(61,⟨5,96,(.struct [(9,0),(3,1),(58,2),(58,3),(59,4)]),some y24,[.s [],.i .i64 0,.nl,.nl,.nl]⟩),(65,⟨1,8,(.map 69 4),some y42,[.sl (.ent true false y41 .bool) []]⟩),(69,⟨2,32,(.struct [(9,0),(9,1)]),some y41,[.s [],.s []]⟩),(71,⟨4,32,(.struct [(37,0),(3,1),(3,2),(3,3)]),some y40,[.i .i64 0,.i .i64 0,.i .i64 0,.i .i64 0]⟩),(75,⟨1,24,(.sl 9),some (.sl .str),[.nl]⟩),(77,⟨2,40,(.struct [(9,0),(75,1)]),some y0,[.s [],.nl]⟩),(79,⟨2,16,(.struct [(3,0),(3,1)]),some y2,[.i .i64 0,.i .i64 0]⟩),(80,⟨1,24,(.sl 123),some y5,[.nl]⟩),(82,⟨6,72,(.struct [(9,0),(79,1),(79,3),(80,5)]),some y8,[.s [],.i .i64 0,.i .i64 0,.i .i64 0,.i .i64 0,.nl]⟩),(85,⟨2,16,(.struct [(3,0),(3,1)]),some y2,[.i .i64 0,.i .i64 0]⟩),(87,⟨9,120,(.struct [(9,0),(3,1),(3,2),(3,3),(85,4),(50,6),(50,7),(9,8)]),some y19,[.s [],.i .i64 0,.i .i64 0,.i .i64 0,.i .i64 0,.i .i64 0,.nl,.nl,.s []]⟩),(89,⟨3,32,(.struct [(9,0),(79,1)]),some y10,[.s [],.i .i64 0,.i .i64 0]⟩),(97,⟨1,24,(.sl 3),some y43,[.nl]⟩),(100,⟨1,8,(.map 9 146),some y46,[.sl (.ent false true .str y45) []]⟩),(123,⟨5,40,(.struct [(85,0),(3,2),(3,3),(3,4)]),some y4,[.i .i64 0,.i .i64 0,.i .i64 0,.i .i64 0,.i .i64 0]⟩),(128,⟨1,24,(.sl 197),some y48,[.nl]⟩),(130,⟨3,72,(.struct [(29,0),(97,1),(128,2)]),some y50,[.nl,.nl,.nl]⟩),(131,⟨1,24,(.sl 79),some y12,[.nl]⟩),(133,⟨6,128,(.struct [(3,0),(29,1),(29,2),(30,3),(131,4),(23,5)]),some y55,[.i .i64 0,.nl,.nl,.nl,.nl,.nl]⟩),(136,⟨1,8,(.map 3 4),some y56,[.sl (.ent false false (.int .i64) .bool) []]⟩),(138,⟨1,24,(.sl 97),some y57,[.nl]⟩),(140,⟨1,24,(.sl 4),some (.sl .bool),[.nl]⟩),(144,⟨1,8,(.map 9 3),some y44,[.sl (.ent false false .str (.int .i64)) []]⟩),(146,⟨6,104,(.struct [(61,0),(144,5)]),some y45,[.s [],.i .i64 0,.nl,.nl,.nl,.sl (.ent false false .str (.int .i64)) []]⟩),(150,⟨6,72,(.struct [(9,0),(9,1),(3,2),(85,3),(9,5)]),some y61,[.s [],.s [],.i .i64 0,.i .i64 0,.i .i64 0,.s []]⟩),(188,⟨6,128,(.struct [(22,0),(23,1),(131,2),(131,3),(131,4),(4,5)]),some y66,[.nl,.nl,.nl,.nl,.nl,.b false]⟩),(192,⟨12,240,(.struct [(61,0),(61,5),(140,10),(140,11)]),some y69,[.s [],.i .i64 0,.nl,.nl,.nl,.s [],.i .i64 0,.nl,.nl,.nl,.nl,.nl]⟩),(197,⟨2,48,(.struct [(29,0),(97,1)]),some y47,[.nl,.nl]⟩),(230,⟨1,8,(.int .u64),some (.int .u64),[.i .u64 0]⟩),(239,⟨1,8,(.ptr 240),none,[]⟩),(240,⟨1,24,(.sl 3),some y43,[.nl]⟩),(248,⟨8,176,(.struct [(50,0),(97,1),(133,2)]),some y71,[.nl,.nl,.i .i64 0,.nl,.nl,.nl,.nl,.nl]⟩),(261,⟨1,8,(.int .u64),some (.int .u64),[.i .u64 0]⟩),(283,⟨3,72,(.struct [(97,0),(97,1),(97,2)]),some y73,[.nl,.nl,.nl]⟩),(359,⟨1,16,.other,none,[]⟩),(363,⟨12,96,(.arr 12 3),none,[.i .i64 0,.i .i64 0,.i .i64 0,.i .i64 0,.i .i64 0,.i .i64 0,.i .i64 0,.i .i64 0,.i .i64 0,.i .i64 0,.i .i64 0,.i .i64 0]⟩)]
def eqs:List (Nat×List Ty):=[(36,[(.int .i64),(.int .i64),(.int .i64)]),(49,[(.int .i64),(.int .i64)]),(53,[.str,.str,(.int .i64)]),(56,[(.int .i64),(.int .i64),(.int .i64),(.int .i64)]),(69,[.str,.str]),(79,[(.int .i64),(.int .i64)]),(85,[(.int .i64),(.int .i64)]),(89,[.str,(.int .i64),(.int .i64)]),(123,[(.int .i64),(.int .i64),(.int .i64),(.int .i64),(.int .i64)]),(150,[.str,.str,(.int .i64),(.int .i64),(.int .i64),.str])]
def gl:List (Nat×(t:Ty)×List t.den):=[(3,⟨.int .i64,[31,28,31,30,31,30,31,31,30,31,30,31]⟩)]
abbrev mE(n:Nat)(fs:List (Nat×FSpec)):Env:=⟨n,eqs,tt,gl,fs,[],[],[],[],[]⟩
abbrev tR(n:Nat)(m:MG):Ret:=⟨[(.tmp n,m)],[]⟩
abbrev cR(n k:Nat)(m:MG):Ret:=⟨[(.cell n k,m)],[]⟩
abbrev I9:Type:=Ty.den y2
abbrev bW:Type:=Ty.den y41
abbrev zC:Type:=Ty.den y2
abbrev J4:Type:=Ty.den y3
abbrev iZ:Type:=Ty.den y34
abbrev gI:Type:=Ty.den y0
abbrev fF:Type:=Ty.den y10
abbrev N8:Type:=Ty.den y40
abbrev oV:Type:=Ty.den y40
abbrev ww:Type:=Ty.den y4
abbrev kM:Type:=Ty.den y73
abbrev Zh:Type:=Ty.den y47
abbrev pJ:Type:=Ty.den y61
abbrev ig:Type:=Ty.den y32
abbrev Aa:Type:=Ty.den y39
abbrev bJ:Type:=Ty.den y8
abbrev Ac:Type:=Ty.den y50
abbrev ak:Type:=Ty.den y19
abbrev L8:Type:=Ty.den y66
abbrev bn:Type:=Ty.den y55
abbrev D6:Type:=Ty.den y24
abbrev iV:Type:=Ty.den y45
abbrev au:Type:=Ty.den y71
abbrev bC:Type:=Ty.den y69
abbrev U5:Type:=Ty.den y27
abbrev Gx:Type:=Ty.den y28
def AL(A:D6):d1A:=o5 (l7 (D9 80 (o9 A.1)) (some (.inr false)) (l7 (D9 14 (o9 A.2.2.1)) (some (.inr false)) (l7 (D9 14 (o9 A.2.2.2.1)) (some (.inr false)) (l7 (D9 60 (o9 A.2.2.2.2)) (some (.inr false)) (some (.inl ())))))) λo=>U6 o (λx=>o5 (U1 (λ(x:Int)=>l7 (D9 x (o9 A.2.2.1)) (o5 (F9 A.2.2.1 x) λb=>l7 (D9 80 (o9 b.1)) (some (.rt false)) (some (.nx (x9 .i64 x 1)))) (some (.ex ()))) 0) λo=>U6 o (λy=>o5 (U1 (λ(x:Int)=>l7 (D9 x (o9 A.2.2.2.1)) (o5 (F9 A.2.2.2.1 x) λb=>l7 (D9 80 (o9 b.1)) (some (.rt false)) (some (.nx (x9 .i64 x 1)))) (some (.ex ()))) 0) λo=>U6 o (λy=>o5 (U1 (λ(x:Int)=>l7 (D9 x (o9 A.2.2.2.2)) (o5 (F9 A.2.2.2.2 x) λb=>l7 (D9 80 (o9 b.1)) (some (.rt false)) (l7 (D9 80 (o9 b.2.2.2.2.2.2.2)) (some (.rt false)) (l7 (D9 50 (o9 b.2.2.2.2.2.1)) (some (.rt false)) (l7 (D9 50 (o9 b.2.2.2.2.2.2.1)) (some (.rt false)) (some (.nx (x9 .i64 x 1))))))) (some (.ex ()))) 0) λo=>U6 o (λy=>some true) λr=>some r) λr=>some r) λr=>some r) λr=>some r
def q24:FQ:=⟨[tD y24],tR 2 dR,mE 93 [],sN 1 (Y2 (jnR [(2,3),(7,29)] nX F6) (Y2 (sN 1 (dn (lpR [(2,4),(29,44)] ⟨[(3,G5)],[]⟩ 0 nX F6))) (Y2 (sN 1 (dn (lpR [(2,3),(4,5),(44,59)] ⟨[(4,G5)],[]⟩ 2 nX F6))) (Y2 (sN 1 (dn (lpR [(2,3),(5,7),(59,93)] ⟨[(5,G5)],[]⟩ 4 nX F6))) F6))))⟩
def s24:FSpec:=X7 q24 λx=>AL x
def zX(A:U5):d1A:=o5 (l7 (D9 9 (o9 A.1)) (some (.inr false)) (l7 (D9 9 (o9 A.2.1)) (some (.inr false)) (l7 (D9 5 (o9 A.2.2)) (some (.inr false)) (some (.inl ()))))) λo=>U6 o (λx=>o5 (U1 (λ(x:Int)=>l7 (D9 x (o9 A.1)) (o5 (F9 A.1 x) λb=>l7 (D9 80 (o9 b.1)) (some (.rt false)) (o5 (F9 A.1 x) λc=>l7 (D9 20 (o9 c.2)) (some (.rt false)) (o5 (U1 (λ(d:Int)=>o5 (F9 A.1 x) λf=>l7 (D9 d (o9 f.2)) (o5 (F9 A.1 x) λx=>o5 (F9 x.2 d) λx=>l7 (D9 80 (o9 x)) (some (.rt false)) (some (.nx (x9 .i64 d 1)))) (some (.ex ()))) 0) λo=>U6 o (λy=>some (.nx (x9 .i64 x 1))) λr=>some (.rt r)))) (some (.ex ()))) 0) λo=>U6 o (λy=>o5 (U1 (λ(x:I9)=>l7 (D9 x.2 (o9 A.2.1)) (o5 (F9 A.2.1 x.2) λb=>o5 (F9 A.2.1 x.2) λc=>l7 (D9 80 (o9 c.1)) (some (.rt false)) (l7 (D9 150 (x9 .i64 x.1 (o9 b.2.2.2))) (some (.rt false)) (some (.nx (x9 .i64 x.1 (o9 b.2.2.2),x9 .i64 x.2 1))))) (some (.ex ()))) (0,0)) λo=>U6 o (λy=>o5 (U1 (λ(x:I9)=>l7 (D9 x.2 (o9 A.2.2)) (o5 (F9 A.2.2 x.2) λb=>l7 (D9 60 (x9 .i64 x.1 (o9 b.2.2.2.2))) (some (.rt false)) (o5 (F9 A.2.2 x.2) λc=>o5 (AL c) λd=>l7 (D7 d) (some (.rt false)) (some (.nx (x9 .i64 x.1 (o9 b.2.2.2.2),x9 .i64 x.2 1))))) (some (.ex ()))) (0,0)) λo=>U6 o (λy=>some true) λr=>some r) λr=>some r) λr=>some r) λr=>some r
def q9:FQ:=⟨[tD y27],tR 2 dR,mE 127 [(24,s24)],sN 1 (Y2 (jnR [(2,3),(9,25)] nX F6) (sN 2 (Y2 (sN 1 (dn (lpR [(2,3),(5,7),(25,72)] ⟨[(5,G5)],[]⟩ 0 nX (sN 1 (Y2 (dn (sN 2 (dn (lpR [(2,3),(6,7),(50,72)] ⟨[(6,G5)],[]⟩ 2 nX F6)))) F6))))) (Y2 (sN 1 (dn (lpR [(2,4),(7,8),(72,100)] ⟨[(3,G5),(7,G5)],[]⟩ 4 nX F6))) (Y2 (sN 1 (dn (lpR [(2,3),(4,5),(8,9),(100,127)] ⟨[(4,G5),(8,G5)],[]⟩ 6 nX F6))) F6)))))⟩
def s9:FSpec:=X7 q9 λx=>zX x
def CZ(A:ig):d1A:=l7 (D9 14 (o9 A.2.1)) (some false) (l7 (D9 10 (o9 A.2.2)) (some false) (o5 (U1 (λ(x:Int)=>l7 (D9 x (o9 A.2.2)) (o5 (F9 A.2.2 x) λb=>l7 (D9 14 (o9 b)) (some (.rt false)) (some (.nx (x9 .i64 x 1)))) (some (.ex ()))) 0) λo=>U6 o (λy=>some true) λr=>some r))
def q10:FQ:=⟨[tD y32],tR 2 dR,mE 28 [],sN 2 (Y2 (sN 1 (dn (lpR [(2,4),(14,28)] ⟨[(3,G5)],[]⟩ 0 nX F6))) F6)⟩
def s10:FSpec:=X7 q10 λx=>CZ x
def II(A:Gx)(B:ig):d1A:=o5 (zX A.1) λx=>l7 x (o5 (zX A.2) λx=>l7 x (o5 (CZ B) λx=>some x) (some false)) (some false)
def q4:FQ:=⟨[tD y28,tD y32],tR 4 dR,mE 17 [(9,s9),(10,s10)],F6⟩
def s4:FSpec:=X7 q4 λx=>II x.1 x.2
def LG(A:List I9):Option U5:=some ([],[],[([104,111,117,115,101],-1,[([97],3,0)],[([100],3,0)],[([98,97,115,101],0,-1,0,(0,109573),[],A,[])])])
def q11:FQ:=⟨[uD y12],⟨[(.cell 2 26,(true,(pA (dT y1) (pA (dT y9) (.owns (pA (dT .str) (pA diM (pA (dT y11) (pA (dT y11) (oW y19))))))))))],[]⟩,⟨22,eqs,tt,gl,[],[(24,(pA (dT .str) (pA diM (pA (dT y11) (pA (dT y11) (oW y19))))))],[],[],[],[]⟩,F6⟩
def s11:FSpec:=X7 q11 λx=>LG x
def wQ(A:Int):d1A:=l7 (J5 97 A) (some (J5 A 122)) (some false)
def c1W:FQ:=⟨[(false,(dT (.int .u8)))],tR 2 dR,mE 9 [],F6⟩
def b7F:FSpec:=X7 c1W λx=>wQ x
def zI(A:Int):d1A:=l7 (J5 48 A) (some (J5 A 57)) (some false)
def c2H:FQ:=⟨[(false,(dT (.int .u8)))],tR 2 dR,mE 9 [],F6⟩
def c6P:FSpec:=X7 c2H λx=>zI x
def yL(A:d1x):d1B:=o5 (Y9 (λ(x:Int)=>l7 (D9 x (o9 A)) (o5 (sat A x) λb=>o5 (wQ b) λc=>l7 c (some (.inl (x9 .i64 x 1))) (o5 (sat A x) λd=>o5 (zI d) λf=>l7 f (some (.inl (x9 .i64 x 1))) (o5 (sat A x) λg=>l7 (x8 g 95) (some (.inl (x9 .i64 x 1))) (some (.inr x))))) (some (.inr x))) 0) λy=>some y
def c1X:FQ:=⟨[uD .str],tR 2 G5,mE 29 [(106,b7F),(147,c6P)],sN 2 (Y2 (dn (.loop [(3,28)] ⟨[(3,G5)],[]⟩ 0 ⟨[(3,G5)],[]⟩ F6)) F6)⟩
def c6m:FSpec:=X7 c1X λx=>yL x
def Cb(A:d1x):d1A:=o5 (l7 (seq A [105,102]) (some (seq A [105,102])) (l7 (seq A [116,104,101,110]) (some (seq A [116,104,101,110])) (l7 (seq A [101,108,115,101]) (some (seq A [101,108,115,101])) (l7 (seq A [111,114]) (some (seq A [111,114])) (l7 (seq A [97,110,100]) (some (seq A [97,110,100])) (l7 (seq A [110,111,116]) (some (seq A [110,111,116])) (l7 (seq A [116,114,117,101]) (some (seq A [116,114,117,101])) (l7 (seq A [102,97,108,115,101]) (some (seq A [102,97,108,115,101])) (l7 (seq A [116,111,100,97,121]) (some (seq A [116,111,100,97,121])) (l7 (seq A [115,104,97,114,101]) (some (seq A [115,104,97,114,101])) (l7 (seq A [100,105,118]) (some (seq A [100,105,118])) (l7 (seq A [114,111,117,110,100]) (some (seq A [114,111,117,110,100])) (l7 (seq A [109,105,110]) (some (seq A [109,105,110])) (l7 (seq A [109,97,120]) (some (seq A [109,97,120])) (l7 (seq A [112,108,117,115]) (some (seq A [112,108,117,115])) (l7 (seq A [109,111,110,116,104,115]) (some (seq A [109,111,110,116,104,115])) (l7 (seq A [100,97,121,115]) (some (seq A [100,97,121,115])) (l7 (seq A [121,101,97,114,115]) (some (seq A [121,101,97,114,115])) (l7 (seq A [121,101,97,114]) (some (seq A [121,101,97,114])) (l7 (seq A [109,111,110,116,104]) (some (seq A [109,111,110,116,104])) (l7 (seq A [116,97,98]) (some (seq A [116,97,98])) (l7 (seq A [98,97,110,100]) (some (seq A [98,97,110,100])) (l7 (seq A [99,111,117,110,116]) (some (seq A [99,111,117,110,116])) (l7 (seq A [115,117,109]) (some (seq A [115,117,109])) (l7 (seq A [97,108,108]) (some (seq A [97,108,108])) (l7 (seq A [97,110,121]) (some (seq A [97,110,121])) (l7 (seq A [109,111,115,116]) (some (seq A [109,111,115,116])) (l7 (seq A [101,110,117,109]) (some (seq A [101,110,117,109])) (l7 (seq A [116,97,98,108,101]) (some (seq A [116,97,98,108,101])) (l7 (seq A [114,111,119]) (some (seq A [114,111,119])) (l7 (seq A [115,99,111,112,101]) (some (seq A [115,99,111,112,101])) (l7 (seq A [109,101,109,98,101,114,115]) (some (seq A [109,101,109,98,101,114,115])) (l7 (seq A [105,110,112,117,116]) (some (seq A [105,110,112,117,116])) (l7 (seq A [100,101,102]) (some (seq A [100,101,102])) (l7 (seq A [114,117,108,101]) (some (seq A [114,117,108,101])) (l7 (seq A [111,102]) (some (seq A [111,102])) (l7 (seq A [111,118,101,114]) (some (seq A [111,118,101,114])) (l7 (seq A [112,114,105,111]) (some (seq A [112,114,105,111])) (l7 (seq A [102,114,111,109]) (some (seq A [102,114,111,109])) (l7 (seq A [116,111]) (some (seq A [116,111])) (l7 (seq A [101,110,100]) (some (seq A [101,110,100])) (l7 (seq A [119,104,101,110]) (some (seq A [119,104,101,110])) (l7 (seq A [105,115]) (some (seq A [105,115])) (l7 (seq A [115,114,99]) (some (seq A [115,114,99])) (l7 (seq A [98,111,111,108]) (some (seq A [98,111,111,108])) (l7 (seq A [105,110,116]) (some (seq A [105,110,116])) (l7 (seq A [109,111,110,101,121]) (some (seq A [109,111,110,101,121])) (l7 (seq A [114,97,116,101]) (some (seq A [114,97,116,101])) (l7 (seq A [100,97,116,101]) (some (seq A [100,97,116,101])) (l7 (seq A [100,111,119,110]) (some (seq A [100,111,119,110])) (l7 (seq A [117,112]) (some (seq A [117,112])) (l7 (seq A [122,101,114,111]) (some (seq A [122,101,114,111])) (l7 (seq A [97,119,97,121]) (some (seq A [97,119,97,121])) (l7 (seq A [104,97,108,102]) (some (seq A [104,97,108,102])) (some (seq A [101,118,101,110])))))))))))))))))))))))))))))))))))))))))))))))))))))))) λx=>l7 x (some true) (some false)
def c1Y:FQ:=⟨[uD .str],tR 2 dR,mE 60 [],sN 1 (Y2 (sN 1 (dn (Y2 (.join [(4,60)] ⟨[(4,dR)],[]⟩ F6) F6))) F6)⟩
def c6n:FSpec:=X7 c1Y λx=>Cb x
def iK(A:d1x):d1A:=l7 (D7 (seq A [])) (o5 (sat A 0) λx=>o5 (wQ x) λx=>l7 x (o5 (yL A) λx=>l7 (x8 x (o9 A)) (l7 (J5 (o9 A) 16) (o5 (Cb A) λx=>some (D7 x)) (some false)) (some false)) (some false)) (some false)
def q56:FQ:=⟨[uD .str],tR 2 dR,mE 27 [(106,b7F),(107,c6m),(108,c6n)],F6⟩
def s56:FSpec:=X7 q56 λx=>iK x
def Jq(A:gI)(B:d1x):d1A:=some (seq A.1 B)
def b1C:FQ:=⟨[tD y0,(false,(.rp .str))],tR 3 dR,mE 8 [],F6⟩
def a5r:FSpec:=X7 b1C λx=>Jq x.1 x.2
def lm(A:List gI)(B:d1x):d1B:=o5 (U1 (λ(x:Int)=>l7 (D9 x (o9 A)) (o5 (F9 A x) λb=>o5 (Jq b B) λc=>l7 c (some (.rt x)) (some (.nx (x9 .i64 x 1)))) (some (.ex ()))) 0) λo=>U6 o (λy=>some (-1)) λr=>some r
def b1H:FQ:=⟨[uD y1,(false,(.fn 110 [.str]))],tR 4 G5,mE 19 [(110,a5r)],sN 1 (Y2 (sN 1 (dn (lpR [(4,6),(8,19)] ⟨[(8,G5)],[]⟩ 0 nX F6))) F6)⟩
def b2x:FSpec:=X7 b1H λx=>lm x.1 x.2
def jM(A:List gI)(B:d1x):d1A:=o5 (lm A B) λx=>some (J5 0 x)
def b1B:FQ:=⟨[uD y1,(false,(.fn 110 [.str]))],tR 4 dR,mE 9 [(148,b2x)],F6⟩
def b2t:FSpec:=X7 b1B λx=>jM x.1 x.2
def Bl(A:List gI)(B:d1x):d1A:=o5 (jM A B) λx=>some x
def q57:FQ:=⟨[uD y1,(uD .str)],tR 4 dR,mE 8 [(110,a5r),(109,b2t)],F6⟩
def s57:FSpec:=X7 q57 λx=>Bl x.1 x.2
def qV(A:List d1x)(B:d1x):d1B:=o5 (U1 (λ(x:Int)=>l7 (D9 x (o9 A)) (o5 (F9 A x) λb=>l7 (seq B b) (some (.rt x)) (some (.nx (x9 .i64 x 1)))) (some (.ex ()))) 0) λo=>U6 o (λy=>some (-1)) λr=>some r
def c2F:FQ:=⟨[uD (.sl .str),(uD .str)],tR 4 G5,mE 19 [],sN 1 (Y2 (sN 1 (dn (lpR [(4,6),(8,19)] ⟨[(8,G5)],[]⟩ 0 nX F6))) F6)⟩
def c6N:FSpec:=X7 c2F λx=>qV x.1 x.2
def kE(A:List d1x)(B:d1x):d1A:=o5 (qV A B) λx=>some (J5 0 x)
def q99:FQ:=⟨[uD (.sl .str),(uD .str)],tR 4 dR,mE 9 [(145,c6N)],F6⟩
def s99:FSpec:=X7 q99 λx=>kE x.1 x.2
def Ee(A:U5)(B:Int)(C:gI):Option I9:=o5 (iK C.1) λx=>l7 (D7 x) (some (2,0)) (o5 (Ny A.1 0 B) λx=>o5 (Bl x C.1) λx=>l7 x (some (7,0)) (l7 (x8 (o9 C.2) 0) (some (5,0)) (l7 (D9 16 (o9 C.2)) (some (4,116)) (o5 (U1 (λ(x:Int)=>l7 (D9 x (o9 C.2)) (o5 (F9 C.2 x) λb=>o5 (iK b) λc=>l7 (D7 c) (some (.rt (2,x9 .i64 100 x))) (o5 (Ny C.2 0 x) λd=>o5 (kE d b) λf=>l7 f (some (.rt (7,x9 .i64 100 x))) (some (.nx (x9 .i64 x 1))))) (some (.ex ()))) 0) λo=>U6 o (λy=>some (0,0)) λr=>some r))))
def q54:FQ:=⟨[tD y27,G5,tD y0],⟨[(.tmp 6,G5),(.tmp 7,G5)],[]⟩,mE 55 [(56,s56),(57,s57),(99,s99)],sN 2 (Y2 (sN 1 (dn (lpR [(6,10),(36,55)] ⟨[(36,G5)],[]⟩ 1 nX F6))) F6)⟩
def s54:FSpec:=X7 q54 λx=>Ee x.1 x.2.1 x.2.2
def BV(A:U5):Option N8:=l7 (D9 8 (o9 A.1)) (some (4,1,8,0)) (o5 (U1 (λ(x:N8×Int)=>l7 (D9 x.2 (o9 A.1)) (o5 (F9 A.1 x.2) λc=>o5 (Ee A x.2 c) λb=>l7 (D7 (x8 b.1 0)) (some (.rt (b.1,1,x.2,b.2))) (some (.nx (x.1,x9 .i64 x.2 1)))) (some (.ex x.1))) ((0,0,0,0),0)) λo=>U6 o (λ(y:N8)=>some (0,0,0,0)) λr=>some r)
def q25:FQ:=⟨[tD y27],cR 2 56 (tD y40),mE 35 [(54,s54)],sN 2 (Y2 (sN 1 (dn (lpR [(2,7),(15,34),(4000128,4000129)] ⟨[(2,(false,(.box (dT y40)))),(15,G5)],[]⟩ 0 ⟨[(2,(false,(.box (dT y40))))],[]⟩ F6))) F6)⟩
def s25:FSpec:=X7 q25 λx=>BV x
def iT(A:I9)(B:List gI):d1A:=o5 (l7 (x8 A.1 1) (some (x8 A.1 1)) (l7 (x8 A.1 2) (some (x8 A.1 2)) (l7 (x8 A.1 3) (some (x8 A.1 3)) (l7 (x8 A.1 4) (some (x8 A.1 4)) (some (x8 A.1 5)))))) λx=>l7 x (some (x8 A.2 0)) (l7 (x8 A.1 6) (l7 (J5 0 A.2) (some (D9 A.2 (o9 B))) (some false)) (some false))
def c1R:FQ:=⟨[tD y2,uD y1],tR 4 dR,mE 28 [],sN 1 (Y2 (sN 1 (dn (Y2 (.join [(7,13)] ⟨[(7,dR)],[]⟩ F6) F6))) F6)⟩
def a9h:FSpec:=X7 c1R λx=>iT x.1 x.2
def tJ(A:I9)(B:List gI):Option I9:=o5 (iT A B) λx=>l7 (D7 x) (some (0,-1)) (l7 (x8 A.1 1) (some (0,1)) (l7 (x8 A.1 2) (some (-1000000000000,1000000000000)) (l7 (x8 A.1 3) (some (-1000000000000000,1000000000000000)) (l7 (x8 A.1 4) (some (-1000000000,1000000000)) (l7 (x8 A.1 5) (some (0,109572)) (o5 (F9 B A.2) λx=>some (0,I7 .i64 (o9 x.2) 1)))))))
def c1S:FQ:=⟨[tD y2,uD y1],⟨[(.tmp 4,G5),(.tmp 5,G5)],[]⟩,mE 30 [(100,a9h)],F6⟩
def b5w:FSpec:=X7 c1S λx=>tJ x.1 x.2
def rM(A:I9):d1A:=l7 (J5 0 A.1) (l7 (J5 A.1 A.2) (some (J5 A.2 109573)) (some false)) (some false)
def c1T:FQ:=⟨[tD y2],tR 2 dR,mE 18 [],F6⟩
def b5x:FSpec:=X7 c1T λx=>rM x
def xg(A:I9):d1A:=o5 (rM A) λx=>l7 x (some (D9 A.1 A.2)) (some false)
def c3c:FQ:=⟨[tD y2],tR 2 dR,mE 12 [(102,b5x)],F6⟩
def c7f:FSpec:=X7 c3c λx=>xg x
def ut(A:I9)(B:I9):Option (I9×Bool):=o5 (xg A) λx=>l7 (D7 x) (some ((0,0),false)) (o5 (xg B) λx=>l7 (D7 x) (some ((0,0),false)) (l7 (J5 (pM A.2 B.2) (nR A.1 B.1)) (some ((0,0),false)) (some ((nR A.1 B.1,pM A.2 B.2),true))))
def c2G:FQ:=⟨[tD y2,tD y2],⟨[(.cell 4 85,tD y2),(.tmp 5,dR)],[]⟩,mE 34 [(175,c7f)],F6⟩
def c6O:FSpec:=X7 c2G λx=>ut x.1 x.2
def Di(A:ww)(B:ww):d1A:=o5 (ut A.1 B.1) λx=>l7 x.2 (some (D9 (nR A.2.1 B.2.1) (pM A.2.2.1 B.2.2.1))) (some false)
def c1V:FQ:=⟨[tD y4,tD y4],tR 4 dR,mE 29 [(146,c6O)],F6⟩
def c6l:FSpec:=X7 c1V λx=>Di x.1 x.2
def vF(A:ww)(B:ww):d1A:=o5 (Di A B) λx=>some x
def b1A:FQ:=⟨[tD y4,(false,(.rp y4))],tR 3 dR,mE 7 [(105,c6l)],F6⟩
def a5q:FSpec:=X7 b1A λx=>vF x.1 x.2
def uz(A:List ww)(B:ww):Option (Int×Bool):=o5 (U1 (λ(x:Int)=>l7 (D9 x (o9 A)) (o5 (F9 A x) λb=>o5 (vF b B) λc=>l7 c (some (.rt (x,true))) (some (.nx (x9 .i64 x 1)))) (some (.ex ()))) 0) λo=>U6 o (λy=>some (0,false)) λr=>some r
def b1y:FQ:=⟨[uD y5,(false,(.fn 104 [y4]))],⟨[(.tmp 4,G5),(.tmp 5,dR)],[]⟩,mE 20 [(104,a5q)],sN 1 (Y2 (sN 1 (dn (lpR [(4,8),(10,20)] ⟨[(10,G5)],[]⟩ 0 nX F6))) F6)⟩
def b2r:FSpec:=X7 b1y λx=>uz x.1 x.2
def Dh(A:bJ)(B:List gI):Option I9:=l7 (D9 64 (o9 A.2.2.2)) (some (64,4)) (o5 (o5 (iT A.2.1 B) λx=>l7 (D7 x) (some (.inr (-1,8))) (o5 (iT A.2.2.1 B) λx=>l7 (D7 x) (some (.inr (-1,8))) (some (.inl ())))) λo=>U6 o (λx=>o5 (tJ A.2.1 B) λx=>o5 (tJ A.2.2.1 B) λd=>o5 (U1 (λ(b:Int)=>l7 (D9 b (o9 A.2.2.2)) (o5 (F9 A.2.2.2 b) λc=>o5 (o5 (rM c.1) λx=>l7 (D7 x) (some (.inr (b,3))) (l7 (x8 c.1.1 c.1.2) (some (.inr (b,3))) (l7 (J5 c.2.2.1 c.2.1) (some (.inr (b,3))) (some (.inl ()))))) λo=>U6 o (λf=>o5 (l7 (D9 c.2.1 x.1) (some (.inr (b,3))) (l7 (D9 x.2 c.2.1) (some (.inr (b,3))) (l7 (D9 (I7 .i64 c.2.2.1 1) x.1) (some (.inr (b,3))) (l7 (D9 x.2 (I7 .i64 c.2.2.1 1)) (some (.inr (b,3))) (some (.inl ())))))) λo=>U6 o (λx=>l7 (D9 c.2.2.2 d.1) (some (.rt (b,3))) (l7 (D9 d.2 c.2.2.2) (some (.rt (b,3))) (o5 (Ny A.2.2.2 0 b) λx=>o5 (uz x c) λx=>l7 x.2 (some (.rt (b,11))) (some (.nx (x9 .i64 b 1)))))) λr=>some (.rt r)) λr=>some (.rt r)) (some (.ex ()))) 0) λo=>U6 o (λy=>some (0,0)) λr=>some r) λr=>some r)
def q55:FQ:=⟨[tD y8,uD y1],⟨[(.tmp 4,G5),(.tmp 5,G5)],[]⟩,mE 121 [(100,a9h),(101,b5w),(102,b5x),(104,a5q),(103,b2r)],sN 2 (Y2 (jnR [(4,6),(18,30)] nX F6) (sN 2 (Y2 (sN 1 (dn (lpR [(4,6),(10,14),(47,121)] ⟨[(47,G5)],[]⟩ 0 nX (sN 2 (Y2 (dn (sN 1 (Y2 (jnR [(4,6),(52,73)] nX F6) (Y2 (jnR [(4,6),(73,98)] nX F6) F6)))) F6))))) F6)))⟩
def s55:FSpec:=X7 q55 λx=>Dh x.1 x.2
def GN(A:bJ)(B:d1x):d1A:=some (seq A.1 B)
def b1E:FQ:=⟨[tD y8,(false,(.rp .str))],tR 3 dR,mE 8 [],F6⟩
def a5s:FSpec:=X7 b1E λx=>GN x.1 x.2
def jY(A:List bJ)(B:d1x):d1B:=o5 (U1 (λ(x:Int)=>l7 (D9 x (o9 A)) (o5 (F9 A x) λb=>o5 (GN b B) λc=>l7 c (some (.rt x)) (some (.nx (x9 .i64 x 1)))) (some (.ex ()))) 0) λo=>U6 o (λy=>some (-1)) λr=>some r
def b1I:FQ:=⟨[uD y9,(false,(.fn 112 [.str]))],tR 4 G5,mE 19 [(112,a5s)],sN 1 (Y2 (sN 1 (dn (lpR [(4,6),(8,19)] ⟨[(8,G5)],[]⟩ 0 nX F6))) F6)⟩
def b2y:FSpec:=X7 b1I λx=>jY x.1 x.2
def jc(A:List bJ)(B:d1x):d1A:=o5 (jY A B) λx=>some (J5 0 x)
def b1D:FQ:=⟨[uD y9,(false,(.fn 112 [.str]))],tR 4 dR,mE 9 [(149,b2y)],F6⟩
def b2u:FSpec:=X7 b1D λx=>jc x.1 x.2
def BZ(A:List bJ)(B:d1x):d1A:=o5 (jc A B) λx=>some x
def q58:FQ:=⟨[uD y9,(uD .str)],tR 4 dR,mE 8 [(112,a5s),(111,b2u)],F6⟩
def s58:FSpec:=X7 q58 λx=>BZ x.1 x.2
def Am(A:U5):Option N8:=l7 (D9 8 (o9 A.2.1)) (some (4,2,8,0)) (o5 (U1 (λ(x:N8×Int)=>l7 (D9 x.2 (o9 A.2.1)) (o5 (F9 A.2.1 x.2) λc=>o5 (Dh c A.1) λb=>o5 (o5 (iK c.1) λd=>l7 (D7 d) (some (2,2,x.2,0)) (o5 (Bl A.1 c.1) λf=>l7 f (some (7,2,x.2,0)) (o5 (Ny A.2.1 0 x.2) λg=>o5 (BZ g c.1) λi=>l7 i (some (7,2,x.2,0)) (l7 (D7 (x8 b.2 0)) (l7 (D7 (x8 b.1 (-1))) (some (b.2,2,x.2,x9 .i64 100 b.1)) (some (b.2,2,x.2,0))) (some (0,2,x.2,0)))))) λd=>l7 (D7 (x8 d.1 0)) (some (.rt d)) (some (.nx (x.1,x9 .i64 x.2 1)))) (some (.ex x.1))) ((0,0,0,0),0)) λo=>U6 o (λ(y:N8)=>some (0,0,0,0)) λr=>some r)
def q26:FQ:=⟨[tD y27],cR 2 56 (tD y40),mE 68 [(55,s55),(56,s56),(57,s57),(58,s58)],sN 2 (Y2 (sN 1 (dn (lpR [(2,8),(16,67),(4000128,4000129)] ⟨[(2,(false,(.box (dT y40)))),(16,G5)],[]⟩ 0 ⟨[(2,(false,(.box (dT y40))))],[]⟩ (sN 2 (Y2 (dn (sN 3 (Y2 (.join [(5,6),(30,62),(37000320,37000321)] ⟨[(5,(false,(.box (dT y40))))],[]⟩ F6) F6))) F6))))) F6)⟩
def s26:FSpec:=X7 q26 λx=>Am x
def DL(A:D6)(B:D6):d1A:=some (seq A.1 B.1)
def b1G:FQ:=⟨[tD y24,(false,(.rp y24))],tR 3 dR,mE 9 [],F6⟩
def a5t:FSpec:=X7 b1G λx=>DL x.1 x.2
def jX(A:List D6)(B:D6):d1B:=o5 (U1 (λ(x:Int)=>l7 (D9 x (o9 A)) (o5 (F9 A x) λb=>o5 (DL b B) λc=>l7 c (some (.rt x)) (some (.nx (x9 .i64 x 1)))) (some (.ex ()))) 0) λo=>U6 o (λy=>some (-1)) λr=>some r
def b1J:FQ:=⟨[uD y25,(false,(.fn 114 [y24]))],tR 4 G5,mE 19 [(114,a5t)],sN 1 (Y2 (sN 1 (dn (lpR [(4,6),(8,19)] ⟨[(8,G5)],[]⟩ 0 nX F6))) F6)⟩
def b2z:FSpec:=X7 b1J λx=>jX x.1 x.2
def fM(A:List D6)(B:D6):d1A:=o5 (jX A B) λx=>some (J5 0 x)
def b1F:FQ:=⟨[uD y25,(false,(.fn 114 [y24]))],tR 4 dR,mE 9 [(150,b2z)],F6⟩
def b2v:FSpec:=X7 b1F λx=>fM x.1 x.2
def DK(A:fF)(B:fF):d1A:=some (seq A.1 B.1)
def b1K:FQ:=⟨[tD y10,(false,(.rp y10))],tR 3 dR,mE 9 [],F6⟩
def a5u:FSpec:=X7 b1K λx=>DK x.1 x.2
def jW(A:List fF)(B:fF):d1B:=o5 (U1 (λ(x:Int)=>l7 (D9 x (o9 A)) (o5 (F9 A x) λb=>o5 (DK b B) λc=>l7 c (some (.rt x)) (some (.nx (x9 .i64 x 1)))) (some (.ex ()))) 0) λo=>U6 o (λy=>some (-1)) λr=>some r
def b1O:FQ:=⟨[uD y11,(false,(.fn 151 [y10]))],tR 4 G5,mE 19 [(151,a5u)],sN 1 (Y2 (sN 1 (dn (lpR [(4,6),(8,19)] ⟨[(8,G5)],[]⟩ 0 nX F6))) F6)⟩
def b2C:FSpec:=X7 b1O λx=>jW x.1 x.2
def cu(A:List fF)(B:fF):d1A:=o5 (jW A B) λx=>some (J5 0 x)
def b1L:FQ:=⟨[uD y11,(false,(.fn 151 [y10]))],tR 4 dR,mE 9 [(176,b2C)],F6⟩
def b2A:FSpec:=X7 b1L λx=>cu x.1 x.2
def xQ(A:U5)(B:fF)(C:List fF)(D:List fF):d1B:=o5 (iK B.1) λx=>l7 (D7 x) (some 2) (o5 (cu C B) λx=>l7 x (some 7) (o5 (cu D B) λx=>l7 x (some 7) (o5 (iT B.2 A.1) λx=>l7 (D7 x) (some 8) (some 0))))
def c1Z:FQ:=⟨[tD y27,tD y10,uD y11,uD y11],tR 8 G5,mE 32 [(151,a5u),(56,s56),(152,b2A),(100,a9h)],F6⟩
def c6o:FSpec:=X7 c1Z λx=>xQ x.1 x.2.1 x.2.2.1 x.2.2.2
def uN(A:List fF):Option (List I9):=o5 (Y9 (λ(x:List I9×Int)=>l7 (D9 x.2 (o9 A)) (o5 (F9 A x.2) λb=>o5 (dG x.1 [b.2]) λc=>some (.inl (c,x9 .i64 x.2 1))) (some (.inr x.1))) ([],0)) λy=>some y
def c2I:FQ:=⟨[uD y11],tR 2 (uO y2),mE 19 [],sN 2 (Y2 (sN 1 (dn (.loop [(3,4),(5,6),(8,18)] ⟨[(3,(uO y2)),(8,G5)],[]⟩ 0 ⟨[(3,(uO y2))],[]⟩ F6))) F6)⟩
def c6Q:FSpec:=X7 c2I λx=>uN x
def pV(A:U5)(B:Int):Option L8:=o5 (F9 A.2.2 B) λx=>o5 (uN x.2.2.1) λb=>o5 (uN x.2.2.2.1) λc=>l7 (J5 0 x.2.1) (l7 (D9 x.2.1 (o9 A.2.2)) (o5 (F9 A.2.2 x.2.1) λx=>o5 (uN x.2.2.2.1) λx=>some (A.1,A.2.1,b,c,x,true)) (some (A.1,A.2.1,b,c,[],false))) (some (A.1,A.2.1,b,c,[],false))
def c2a:FQ:=⟨[tD y27,G5],cR 4 188 (tD y66),mE 45 [(153,c6Q)],F6⟩
def c6p:FSpec:=X7 c2a λx=>pV x.1 x.2
def ER(A:ak)(B:ak):d1A:=some (seq A.1 B.1)
def b1N:FQ:=⟨[tD y19,(false,(.rp y19))],tR 3 dR,mE 9 [],F6⟩
def a5v:FSpec:=X7 b1N λx=>ER x.1 x.2
def lq(A:List ak)(B:ak):d1B:=o5 (U1 (λ(x:Int)=>l7 (D9 x (o9 A)) (o5 (F9 A x) λb=>o5 (ER b B) λc=>l7 c (some (.rt x)) (some (.nx (x9 .i64 x 1)))) (some (.ex ()))) 0) λo=>U6 o (λy=>some (-1)) λr=>some r
def b1P:FQ:=⟨[uD y20,(false,(.fn 155 [y19]))],tR 4 G5,mE 19 [(155,a5v)],sN 1 (Y2 (sN 1 (dn (lpR [(4,6),(8,19)] ⟨[(8,G5)],[]⟩ 0 nX F6))) F6)⟩
def b2D:FSpec:=X7 b1P λx=>lq x.1 x.2
def gG(A:List ak)(B:ak):d1A:=o5 (lq A B) λx=>some (J5 0 x)
def b1M:FQ:=⟨[uD y20,(false,(.fn 155 [y19]))],tR 4 dR,mE 9 [(177,b2D)],F6⟩
def b2B:FSpec:=X7 b1M λx=>gG x.1 x.2
def c1O:List MG:=[(false,(.dat .str)),(false,(.dat .str))]
def c7g:FSpec:=⟨c1O,[dR],[],λx=>zy x.1 x.2⟩
def Ap(A:d1x):d1A:=l7 (D9 64 (o9 A)) (some false) (o5 (zy A [34]) λx=>l7 x (some false) (o5 (U1 (λ(x:Int)=>l7 (D9 x (o9 A)) (o5 (sat A x) λb=>l7 (D9 b 32) (some (.rt false)) (o5 (sat A x) λc=>l7 (D9 126 c) (some (.rt false)) (some (.nx (x9 .i64 x 1))))) (some (.ex ()))) 0) λo=>U6 o (λy=>some true) λr=>some r))
def c2J:FQ:=⟨[uD .str],tR 2 dR,mE 27 [(178,c7g)],sN 2 (Y2 (sN 1 (dn (lpR [(2,4),(13,27)] ⟨[(13,G5)],[]⟩ 0 nX F6))) F6)⟩
def c6R:FSpec:=X7 c2J λx=>Ap x
def pq(A:Int):d1B:=o5 (l7 (x8 A 1) (some (x8 A 1)) (l7 (x8 A 2) (some (x8 A 2)) (l7 (x8 A 3) (some (x8 A 3)) (l7 (x8 A 4) (some (x8 A 4)) (l7 (x8 A 5) (some (x8 A 5)) (l7 (x8 A 6) (some (x8 A 6)) (l7 (x8 A 7) (some (x8 A 7)) (l7 (x8 A 8) (some (x8 A 8)) (l7 (x8 A 9) (some (x8 A 9)) (l7 (x8 A 35) (some (x8 A 35)) (l7 (x8 A 36) (some (x8 A 36)) (l7 (x8 A 37) (some (x8 A 37)) (l7 (x8 A 38) (some (x8 A 38)) (some (x8 A 39))))))))))))))) λx=>l7 x (some 0) (o5 (l7 (x8 A 10) (some (x8 A 10)) (l7 (x8 A 25) (some (x8 A 25)) (l7 (x8 A 31) (some (x8 A 31)) (l7 (x8 A 32) (some (x8 A 32)) (l7 (x8 A 33) (some (x8 A 33)) (some (x8 A 34))))))) λx=>l7 x (some 1) (o5 (l7 (x8 A 11) (some (x8 A 11)) (l7 (x8 A 12) (some (x8 A 12)) (l7 (x8 A 13) (some (x8 A 13)) (l7 (x8 A 14) (some (x8 A 14)) (l7 (x8 A 15) (some (x8 A 15)) (l7 (x8 A 16) (some (x8 A 16)) (l7 (x8 A 17) (some (x8 A 17)) (l7 (x8 A 18) (some (x8 A 18)) (l7 (x8 A 19) (some (x8 A 19)) (l7 (x8 A 20) (some (x8 A 20)) (l7 (x8 A 21) (some (x8 A 21)) (l7 (x8 A 22) (some (x8 A 22)) (l7 (x8 A 23) (some (x8 A 23)) (l7 (x8 A 24) (some (x8 A 24)) (l7 (x8 A 27) (some (x8 A 27)) (l7 (x8 A 28) (some (x8 A 28)) (l7 (x8 A 29) (some (x8 A 29)) (some (x8 A 30))))))))))))))))))) λx=>l7 x (some 2) (l7 (x8 A 26) (some 3) (some (-1)))))
def c3t:FQ:=⟨[G5],tR 2 G5,mE 47 [],sN 1 (Y2 (sN 1 (dn (Y2 (.join [(4,19)] ⟨[(4,dR)],[]⟩ F6) (.cond F6 (Y2 (.join [(19,26)] ⟨[(19,dR)],[]⟩ F6) (.cond F6 (Y2 (.join [(26,45)] ⟨[(26,dR)],[]⟩ F6) F6))))))) F6)⟩
def a9j:FSpec:=X7 c3t λx=>pq x
def xM(A:List I9):Option (d1v×I9):=l7 (D9 48 (o9 A)) (some ([],0,4)) (l7 (x8 (o9 A) 0) (some ([],0,5)) (o5 (qL (o9 A) 0) λx=>o5 (U1 (λ(x:d1v×d1v×Int)=>l7 (D9 x.2.2 (o9 A)) (o5 (F9 A x.2.2) λg=>o5 (pq g.1) λb=>l7 (D9 b 0) (some (.rt ([],x.2.2,2))) (l7 (D9 (o9 x.2.1) b) (some (.rt ([],x.2.2,5))) (o5 (F9 x.1 x.2.2) λk=>o5 (U0 x.1 (U9 x.2.2)) λn=>l7 (D9 0 b) (o5 (F9 x.2.1 (I7 .i64 (o9 x.2.1) b)) λj=>o5 (U0 x.2.1 (U9 (I7 .i64 (o9 x.2.1) b))) λc=>o5 (F9 (bi x.1 (U9 x.2.2) x.2.2) x.2.2) λd=>o5 (U0 (bi x.1 (U9 x.2.2) x.2.2) (U9 x.2.2)) λp=>l7 (qQ 0 (I7 .i64 (o9 x.2.1) b) (o9 x.2.1)) (o5 (F9 (bi (bi x.1 (U9 x.2.2) x.2.2) (U9 x.2.2) c) x.2.2) λq=>o5 (U0 (bi (bi x.1 (U9 x.2.2) x.2.2) (U9 x.2.2) c) (U9 x.2.2)) λi=>o5 (dG (oD x.2.1 (U9 0) (U9 (I7 .i64 (o9 x.2.1) b))) [i]) λf=>l7 (D9 12 (o9 f)) (some (.rt ([],x.2.2,16))) (some (.nx (bi (bi x.1 (U9 x.2.2) x.2.2) (U9 x.2.2) c,f,x9 .i64 x.2.2 1)))) none) (l7 (qQ 0 (I7 .i64 (o9 x.2.1) b) (o9 x.2.1)) (o5 (F9 (bi x.1 (U9 x.2.2) x.2.2) x.2.2) λj=>o5 (U0 (bi x.1 (U9 x.2.2) x.2.2) (U9 x.2.2)) λc=>o5 (dG (oD x.2.1 (U9 0) (U9 (I7 .i64 (o9 x.2.1) b))) [c]) λd=>l7 (D9 12 (o9 d)) (some (.rt ([],x.2.2,16))) (some (.nx (bi x.1 (U9 x.2.2) x.2.2,d,x9 .i64 x.2.2 1)))) none)))) (some (.ex (x.1,x.2.1)))) (x,[],0)) λo=>U6 o (λ(y:d1v×d1v)=>l7 (D9 1 (o9 y.2)) (some ([],o9 A,4)) (some (y.1,0,0))) λr=>some r))
def c3r:FQ:=⟨[uD y12],⟨[(.tmp 2,jR),(.tmp 3,G5),(.tmp 4,G5)],[]⟩,mE 76 [(209,a9j)],sN 5 (Y2 (sN 1 (dn (lpR [(2,10),(21,70),(27001152,27001153)] ⟨[(5,jR),(6,jR),(21,G5)],[]⟩ 0 ⟨[(5,jR),(6,jR)],[]⟩ F6))) F6)⟩
def b7N:FSpec:=X7 c3r λx=>xM x
def kZ(A:Int):d1A:=l7 (x8 A 1) (l7 (x8 A 1) (some true) (some false)) (l7 (x8 A 2) (l7 (x8 A 2) (some true) (some false)) (l7 (x8 A 3) (l7 (x8 A 3) (some true) (some false)) (l7 (x8 A 4) (l7 (x8 A 4) (some true) (some false)) (l7 (x8 A 5) (l7 (x8 A 5) (some true) (some false)) (l7 (x8 A 6) (l7 (x8 A 6) (some true) (some false)) (l7 (x8 A 7) (l7 (x8 A 7) (some true) (some false)) (l7 (x8 A 8) (l7 (x8 A 8) (some true) (some false)) (l7 (x8 A 14) (l7 (x8 A 14) (some true) (some false)) (l7 (x8 A 15) (l7 (x8 A 15) (some true) (some false)) (l7 (x8 A 16) (l7 (x8 A 16) (some true) (some false)) (l7 (x8 A 33) (l7 (x8 A 33) (some true) (some false)) (l7 (x8 A 34) (l7 (x8 A 34) (some true) (some false)) (l7 (x8 A 36) (l7 (x8 A 36) (some true) (some false)) (l7 (x8 A 37) (l7 (x8 A 37) (some true) (some false)) (l7 (x8 A 38) (l7 (x8 A 38) (some true) (some false)) (l7 (x8 A 39) (some true) (some false)))))))))))))))))
def c3s:FQ:=⟨[G5],tR 2 dR,mE 22 [],F6⟩
def b7O:FSpec:=X7 c3s λx=>kZ x
def lC(A:Int)(B:Int)(C:L8):Option (I9×Int):=o5 (tJ (B,0) C.1) λx=>l7 (D9 A x.1) (some ((0,0),3)) (l7 (D9 x.2 A) (some ((0,0),3)) (some ((B,0),0)))
def c3O:FQ:=⟨[G5,G5,tD y66],⟨[(.cell 6 79,tD y2),(.tmp 7,G5)],[]⟩,mE 30 [(101,b5w)],F6⟩
def c7J:FSpec:=X7 c3O λx=>lC x.1 x.2.1 x.2.2
def Ed(A:Int)(B:L8):Option (I9×Int):=l7 (D9 A 0) (some ((0,0),3)) (l7 (J5 (o9 B.1) (dD .i64 A 16)) (some ((0,0),6)) (o5 (F9 B.1 (dD .i64 A 16)) λx=>l7 (J5 (o9 x.2) (dM A 16)) (some ((0,0),6)) (some ((6,dD .i64 A 16),0))))
def c3P:FQ:=⟨[G5,tD y66],⟨[(.cell 4 79,tD y2),(.tmp 5,G5)],[]⟩,mE 34 [],F6⟩
def c7K:FSpec:=X7 c3P λx=>Ed x.1 x.2
def kT(A:Int)(B:List I9)(C:L8):Option (I9×Int):=l7 (D9 A 0) (some ((0,0),6)) (l7 (J5 (o9 B) A) (some ((0,0),6)) (o5 (F9 B A) λx=>o5 (iT x C.1) λx=>l7 (D7 x) (some ((0,0),8)) (o5 (F9 B A) λx=>some (x,0))))
def c3Q:FQ:=⟨[G5,uD y12,tD y66],⟨[(.cell 6 79,tD y2),(.tmp 7,G5)],[]⟩,mE 30 [(100,a9h)],F6⟩
def b7Q:FSpec:=X7 c3Q λx=>kT x.1 x.2.1 x.2.2
def oh(A:Int):d1A:=l7 (J5 0 A) (some (J5 A 5)) (some false)
def c3T:FQ:=⟨[G5],tR 2 dR,mE 9 [],F6⟩
def b7R:FSpec:=X7 c3T λx=>oh x
def uH(A:I9)(B:I9)(C:L8):Option (I9×Int):=o5 (l7 (x8 A.1 34) (l7 (D9 A.2 0) (some (.inr ((0,0),3))) (o5 (oh (dM A.2 8)) λx=>l7 (D7 x) (some (.inr ((0,0),3))) (some (.inl ((0,0),dD .i64 A.2 8))))) (some (.inl ((0,0),A.2)))) λo=>U6 o (λ(x:I9×Int)=>o5 (l7 (D9 x.2 0) (some (.inr ((0,0),6))) (l7 (J5 (o9 C.2.1) x.2) (some (.inr ((0,0),6))) (some (.inl x.1)))) λo=>U6 o (λ(d:I9)=>o5 (F9 C.2.1 x.2) λb=>o5 (F9 C.2.1 x.2) λx=>o5 (o5 (iT b.2.1 C.1) λc=>l7 (D7 c) (some (.inr ((0,0),8))) (o5 (iT x.2.2.1 C.1) λx=>l7 (D7 x) (some (.inr ((0,0),8))) (l7 (D7 (aj (x8 B.1 b.2.1.1) (x8 B.2 b.2.1.2))) (some (.inr ((0,0),8))) (some (.inl d))))) λo=>U6 o (λ(c:I9)=>l7 (x8 A.1 34) (l7 (D7 (x8 b.2.1.1 3)) (some ((0,0),8)) (l7 (D7 (x8 x.2.2.1.1 4)) (some ((0,0),8)) (some (b.2.1,0)))) (some (x.2.2.1,0))) λr=>some r) λr=>some r) λr=>some r
def c3R:FQ:=⟨[tD y2,tD y2,tD y66],⟨[(.cell 6 79,tD y2),(.tmp 7,G5)],[]⟩,mE 84 [(247,b7R),(100,a9h)],sN 2 (Y2 (jnR [(6,9),(13,30),(4000384,4000385)] ⟨[(6,(false,(.box (dT y2)))),(8,G5)],[]⟩ F6) (Y2 (jnR [(6,8),(30,40),(9000000,9000001)] ⟨[(6,(false,(.box (dT y2))))],[]⟩ F6) (sN 1 (Y2 (jnR [(6,8),(52,70),(27000000,27000001)] ⟨[(6,(false,(.box (dT y2))))],[]⟩ F6) F6))))⟩
def c7L:FSpec:=X7 c3R λx=>uH x.1 x.2.1 x.2.2
def nO(A:Int):d1A:=l7 (x8 A 2) (some true) (l7 (x8 A 3) (some true) (some (x8 A 4)))
def c4q:FQ:=⟨[G5],tR 2 dR,mE 13 [],F6⟩
def b7T:FSpec:=X7 c4q λx=>nO x
def rP(A:I9)(B:L8):Option (I9×Int):=l7 (D7 B.2.2.2.2.2) (some ((0,0),6)) (l7 (x8 A.1 35) (some ((2,0),0)) (o5 (kT A.2 B.2.2.2.2.1 B) λx=>l7 (D7 (x8 x.2 0)) (some ((0,0),x.2)) (o5 (l7 (x8 A.1 36) (l7 (x8 x.1.1 2) (some true) (some (x8 x.1.1 3))) (l7 (x8 A.1 37) (l7 (x8 A.1 37) (some (x8 x.1.1 1)) (l7 (x8 A.1 39) (o5 (nO x.1.1) λb=>l7 b (some true) (some (x8 x.1.1 5))) (some false))) (l7 (x8 A.1 38) (some (x8 x.1.1 1)) (l7 (x8 A.1 39) (o5 (nO x.1.1) λb=>l7 b (some true) (some (x8 x.1.1 5))) (some false))))) λb=>l7 (D7 b) (some ((0,0),8)) (some (x.1,0)))))
def c3S:FQ:=⟨[tD y2,tD y66],⟨[(.cell 4 79,tD y2),(.tmp 5,G5)],[]⟩,mE 62 [(244,b7Q),(277,b7T)],sN 6 (Y2 (.join [(8,9),(30,58)] ⟨[(8,dR)],[]⟩ F6) F6)⟩
def c7M:FSpec:=X7 c3S λx=>rP x.1 x.2
def JK(A:Int)(B:Int)(C:Int):Option (I9×Bool):=l7 (x8 A 14) (l7 (x8 C 4) (l7 (x8 B 3) (some ((B,0),true)) (some ((B,0),x8 B 4))) (some ((B,0),false))) (l7 (x8 C 2) (l7 (x8 B 2) (some ((B,0),true)) (some ((B,0),x8 B 3))) (l7 (x8 A 15) (l7 (x8 B 3) (l7 (x8 C 3) (some ((4,0),true)) (some ((0,0),false))) (some ((0,0),false))) (some ((0,0),false))))
def c4r:FQ:=⟨[G5,G5,G5],⟨[(.cell 6 79,tD y2),(.tmp 7,dR)],[]⟩,mE 47 [],F6⟩
def c8c:FSpec:=X7 c4r λx=>JK x.1 x.2.1 x.2.2
def pF(A:Int)(B:List I9):Option (I9×Bool):=o5 (l7 (x8 A 10) (o5 (F9 B 0) λx=>o5 (F9 B 0) λb=>o5 (nO b.1) λc=>some (.inr (x,c))) (l7 (x8 A 25) (o5 (F9 B 0) λx=>some (.inr ((1,0),x8 x.1 1))) (o5 (l7 (x8 A 11) (some (x8 A 11)) (some (x8 A 12))) λx=>l7 x (o5 (F9 B 0) λx=>o5 (F9 B 0) λb=>o5 (F9 B 1) λc=>l7 (aj (x8 b.1 c.1) (x8 b.2 c.2)) (o5 (F9 B 0) λd=>o5 (nO d.1) λf=>some (.inr (x,f))) (some (.inr (x,false)))) (o5 (l7 (x8 A 13) (some (x8 A 13)) (l7 (x8 A 14) (some (x8 A 14)) (some (x8 A 15)))) λx=>l7 x (o5 (F9 B 0) λx=>o5 (F9 B 1) λb=>o5 (JK A x.1 b.1) λx=>some (.inr x)) (l7 (x8 A 16) (o5 (F9 B 0) λx=>o5 (F9 B 0) λb=>l7 (x8 b.1 3) (o5 (F9 B 1) λc=>some (.inr (x,x8 c.1 3))) (some (.inr (x,false)))) (o5 (l7 (x8 A 17) (some (x8 A 17)) (some (x8 A 18))) λx=>l7 x (o5 (F9 B 0) λx=>o5 (F9 B 0) λb=>o5 (F9 B 1) λc=>l7 (aj (x8 b.1 c.1) (x8 b.2 c.2)) (o5 (F9 B 0) λd=>o5 (nO d.1) λf=>l7 f (some (.inr (x,true))) (o5 (F9 B 0) λg=>some (.inr (x,x8 g.1 5)))) (some (.inr (x,false)))) (o5 (l7 (x8 A 19) (some (x8 A 19)) (some (x8 A 20))) λx=>l7 x (o5 (F9 B 0) λx=>o5 (F9 B 1) λb=>some (.inr ((1,0),aj (x8 x.1 b.1) (x8 x.2 b.2)))) (o5 (l7 (x8 A 21) (some (x8 A 21)) (some (x8 A 22))) λx=>l7 x (o5 (F9 B 0) λx=>o5 (F9 B 1) λb=>l7 (aj (x8 x.1 b.1) (x8 x.2 b.2)) (o5 (F9 B 0) λx=>o5 (nO x.1) λx=>l7 x (some (.inr ((1,0),true))) (o5 (F9 B 0) λx=>some (.inr ((1,0),x8 x.1 5)))) (some (.inr ((1,0),false)))) (o5 (l7 (x8 A 23) (some (x8 A 23)) (some (x8 A 24))) λx=>l7 x (o5 (F9 B 0) λx=>l7 (x8 x.1 1) (o5 (F9 B 1) λx=>some (.inr ((1,0),x8 x.1 1))) (some (.inr ((1,0),false)))) (l7 (x8 A 26) (o5 (F9 B 1) λx=>o5 (F9 B 0) λb=>l7 (x8 b.1 1) (o5 (F9 B 1) λc=>o5 (F9 B 2) λd=>some (.inr (x,aj (x8 c.1 d.1) (x8 c.2 d.2)))) (some (.inr (x,false)))) (o5 (l7 (x8 A 27) (some (x8 A 27)) (some (x8 A 28))) λx=>l7 x (o5 (F9 B 0) λx=>o5 (F9 B 0) λb=>l7 (x8 b.1 5) (o5 (F9 B 1) λc=>some (.inr (x,x8 c.1 2))) (some (.inr (x,false)))) (l7 (x8 A 29) (l7 (x8 A 29) (o5 (F9 B 0) λx=>l7 (x8 x.1 5) (o5 (F9 B 1) λx=>some (.inr ((2,0),x8 x.1 5))) (some (.inr ((2,0),false)))) (l7 (x8 A 31) (l7 (x8 A 31) (o5 (F9 B 0) λx=>some (.inr ((2,0),x8 x.1 5))) (some (.inl (0,0)))) (l7 (x8 A 32) (o5 (F9 B 0) λx=>some (.inr ((2,0),x8 x.1 5))) (some (.inl (0,0)))))) (l7 (x8 A 30) (o5 (F9 B 0) λx=>l7 (x8 x.1 5) (o5 (F9 B 1) λx=>some (.inr ((2,0),x8 x.1 5))) (some (.inr ((2,0),false)))) (l7 (x8 A 31) (l7 (x8 A 31) (o5 (F9 B 0) λx=>some (.inr ((2,0),x8 x.1 5))) (some (.inl (0,0)))) (l7 (x8 A 32) (o5 (F9 B 0) λx=>some (.inr ((2,0),x8 x.1 5))) (some (.inl (0,0)))))))))))))))))) λo=>U6 o (λ(x:I9)=>some ((0,0),false)) λr=>some r
def c3V:FQ:=⟨[G5,uD y12],⟨[(.cell 4 79,tD y2),(.tmp 5,dR)],[]⟩,mE 222 [(277,b7T),(278,c8c)],sN 2 (Y2 (jnR [(4,6),(8,221),(4000256,4000257)] ⟨[(4,(false,(.box (dT y2))))],[]⟩ (sN 1 (dn (sN 1 (.cond F6 (sN 1 (.cond F6 (Y2 (.join [(27,30)] ⟨[(27,dR)],[]⟩ F6) (.cond F6 (Y2 (.join [(47,51)] ⟨[(47,dR)],[]⟩ F6) (.cond F6 (sN 1 (.cond F6 (Y2 (.join [(80,83)] ⟨[(80,dR)],[]⟩ F6) (.cond F6 (Y2 (.join [(107,110)] ⟨[(107,dR)],[]⟩ F6) (.cond F6 (Y2 (.join [(118,121)] ⟨[(118,dR)],[]⟩ F6) (.cond F6 (Y2 (.join [(143,146)] ⟨[(143,dR)],[]⟩ F6) (.cond F6 (sN 1 (.cond F6 (Y2 (.join [(178,181)] ⟨[(178,dR)],[]⟩ F6) F6)))))))))))))))))))))))) F6)⟩
def c7N:FSpec:=X7 c3V λx=>pF x.1 x.2
def bD(A:I9)(B:List I9)(C:L8):Option (I9×Int):=o5 (l7 (x8 A.1 1) (o5 (lC A.2 1 C) λx=>some (.inr x)) (l7 (x8 A.1 2) (o5 (lC A.2 2 C) λx=>some (.inr x)) (l7 (x8 A.1 3) (o5 (lC A.2 3 C) λx=>some (.inr x)) (l7 (x8 A.1 4) (o5 (lC A.2 4 C) λx=>some (.inr x)) (l7 (x8 A.1 5) (o5 (lC A.2 5 C) λx=>some (.inr x)) (l7 (x8 A.1 6) (o5 (Ed A.2 C) λx=>some (.inr x)) (l7 (x8 A.1 7) (o5 (kT A.2 C.2.2.1 C) λx=>some (.inr x)) (l7 (x8 A.1 8) (o5 (kT A.2 C.2.2.2.1 C) λx=>some (.inr x)) (l7 (x8 A.1 9) (some (.inr ((5,0),0))) (o5 (l7 (x8 A.1 33) (some (x8 A.1 33)) (some (x8 A.1 34))) λx=>l7 x (o5 (F9 B 0) λx=>o5 (uH A x C) λx=>some (.inr x)) (o5 (l7 (x8 A.1 35) (some (x8 A.1 35)) (l7 (x8 A.1 36) (some (x8 A.1 36)) (l7 (x8 A.1 37) (some (x8 A.1 37)) (l7 (x8 A.1 38) (some (x8 A.1 38)) (some (x8 A.1 39)))))) λx=>l7 x (o5 (rP A C) λx=>some (.inr x)) (l7 (x8 A.1 14) (l7 (x8 A.1 14) (o5 (oh A.2) λx=>l7 (D7 x) (some (.inr ((0,0),3))) (some (.inl (0,0)))) (some (.inl (0,0)))) (l7 (x8 A.1 15) (l7 (x8 A.1 15) (o5 (oh A.2) λx=>l7 (D7 x) (some (.inr ((0,0),3))) (some (.inl (0,0)))) (some (.inl (0,0)))) (l7 (x8 A.1 16) (o5 (oh A.2) λx=>l7 (D7 x) (some (.inr ((0,0),3))) (some (.inl (0,0)))) (some (.inl (0,0))))))))))))))))) λo=>U6 o (λ(x:I9)=>o5 (pF A.1 B) λx=>l7 (D7 x.2) (some ((0,0),8)) (some (x.1,0))) λr=>some r
def c3u:FQ:=⟨[tD y2,uD y12,tD y66],⟨[(.cell 6 79,tD y2),(.tmp 7,G5)],[]⟩,mE 125 [(242,c7J),(243,c7K),(244,b7Q),(245,c7L),(246,c7M),(247,b7R),(248,c7N)],sN 1 (Y2 (jnR [(6,8),(10,114),(4000384,4000385)] ⟨[(6,(false,(.box (dT y2))))],[]⟩ (sN 1 (dn (sN 1 (.cond F6 (sN 1 (.cond F6 (sN 1 (.cond F6 (sN 1 (.cond F6 (sN 1 (.cond F6 (sN 1 (.cond F6 (sN 1 (.cond F6 (sN 1 (.cond F6 (sN 1 (.cond F6 (Y2 (.join [(83,86)] ⟨[(83,dR)],[]⟩ F6) (.cond F6 (Y2 (.join [(94,100)] ⟨[(94,dR)],[]⟩ F6) F6)))))))))))))))))))))))) F6)⟩
def c7s:FSpec:=X7 c3u λx=>bD x.1 x.2.1 x.2.2
def Iz(A:List I9)(B:L8):Option (I9×I9):=o5 (xM A) λx=>l7 (D7 (x8 x.2.2 0)) (some ((0,0),x.2)) (o5 (U1 (λ(x:I9×List I9×Int)=>l7 (D9 x.2.2 (o9 A)) (o5 (F9 A x.2.2) λc=>l7 (D7 (x8 c.2 0)) (o5 (kZ c.1) λd=>l7 (D7 d) (some (.rt ((0,0),x.2.2,2))) (o5 (pq c.1) λb=>l7 (qQ (I7 .i64 (o9 x.2.1) b) (o9 x.2.1) (o9 x.2.1)) (o5 (bD c (oD x.2.1 (U9 (I7 .i64 (o9 x.2.1) b)) (U9 (o9 x.2.1))) B) λf=>l7 (D7 (x8 f.2 0)) (some (.rt ((0,0),x.2.2,f.2))) (l7 (qQ 0 (I7 .i64 (o9 x.2.1) b) (o9 x.2.1)) (o5 (dG (oD x.2.1 (U9 0) (U9 (I7 .i64 (o9 x.2.1) b))) [f.1]) λg=>some (.nx (x.1,g,x9 .i64 x.2.2 1))) none)) none)) (o5 (pq c.1) λd=>l7 (qQ (I7 .i64 (o9 x.2.1) d) (o9 x.2.1) (o9 x.2.1)) (o5 (bD c (oD x.2.1 (U9 (I7 .i64 (o9 x.2.1) d)) (U9 (o9 x.2.1))) B) λb=>l7 (D7 (x8 b.2 0)) (some (.rt ((0,0),x.2.2,b.2))) (l7 (qQ 0 (I7 .i64 (o9 x.2.1) d) (o9 x.2.1)) (o5 (dG (oD x.2.1 (U9 0) (U9 (I7 .i64 (o9 x.2.1) d))) [b.1]) λf=>some (.nx (x.1,f,x9 .i64 x.2.2 1))) none)) none)) (some (.ex (x.1,x.2.1)))) ((0,0),[],0)) λo=>U6 o (λ(y:I9×List I9)=>o5 (F9 y.2 0) λx=>o5 (U0 y.2 (U9 0)) λx=>some (x,0,0)) λr=>some r)
def c3d:FQ:=⟨[uD y12,tD y66],⟨[(.cell 4 79,tD y2),(.tmp 5,G5),(.tmp 6,G5)],[]⟩,mE 75 [(207,b7N),(208,b7O),(209,a9j),(210,c7s)],sN 4 (Y2 (sN 1 (dn (lpR [(4,7),(10,16),(29,72),(4000256,4000257)] ⟨[(4,(false,(.box (dT y2)))),(10,(uO y2)),(29,G5)],[]⟩ 0 ⟨[(4,(false,(.box (dT y2)))),(10,(uO y2))],[]⟩ F6))) F6)⟩
def c7h:FSpec:=X7 c3d λx=>Iz x.1 x.2
def wP(A:List I9)(B:L8)(C:I9):d1B:=o5 (Iz A B) λx=>l7 (D7 (x8 x.2.2 0)) (some x.2.2) (l7 (D7 (aj (x8 x.1.1 C.1) (x8 x.1.2 C.2))) (some 8) (some 0))
def c2K:FQ:=⟨[uD y12,tD y66,tD y2],tR 6 G5,mE 23 [(179,c7h)],F6⟩
def c6S:FSpec:=X7 c2K λx=>wP x.1 x.2.1 x.2.2
def Ef(A:D6)(B:Int)(C:L8):d1B:=o5 (F9 A.2.2.2.2 B) λx=>o5 (Ny A.2.2.2.2 0 B) λf=>o5 (Y9 (λ(b:I9)=>l7 (D9 b.2 (o9 f)) (o5 (F9 f b.2) λc=>l7 (x8 c.2.1 x.2.1) (some (.inl (x9 .i64 b.1 1,x9 .i64 b.2 1))) (some (.inl (b.1,x9 .i64 b.2 1)))) (some (.inr b.1))) (0,0)) λy=>o5 (o5 (iK x.1) λb=>l7 (D7 b) (some (.inr 2)) (o5 (Ny A.2.2.2.2 0 B) λc=>o5 (gG c x) λg=>l7 g (some (.inr 7)) (o5 (l7 (D9 x.2.1 0) (some true) (some (J5 (o9 A.2.2.2.1) x.2.1))) λi=>l7 i (some (.inr 6)) (o5 (l7 (D7 (x8 x.2.2.1 (-1))) (l7 (D9 x.2.2.1 0) (some true) (l7 (J5 B x.2.2.1) (some true) (o5 (F9 A.2.2.2.2 x.2.2.1) λd=>some (D7 (x8 d.2.1 x.2.1))))) (some false)) λd=>l7 d (some (.inr 9)) (o5 (l7 (D9 x.2.2.2.1 0) (some true) (some (D9 9 x.2.2.2.1))) λj=>l7 j (some (.inr 3)) (l7 (D9 x.2.2.2.2.1.1 0) (some (.inr 3)) (l7 (J5 x.2.2.2.2.1.2 x.2.2.2.2.1.1) (some (.inr 3)) (l7 (D9 109573 x.2.2.2.2.1.2) (some (.inr 3)) (l7 (J5 8 y) (some (.inr 4)) (o5 (Ap x.2.2.2.2.2.2.2) λk=>l7 (D7 k) (some (.inr 2)) (some (.inl x)))))))))))) λo=>U6 o (λ(x:ak)=>l7 (D9 0 (o9 x.2.2.2.2.2.1)) (o5 (wP x.2.2.2.2.2.1 C (1,0)) λb=>l7 (D7 (x8 b 0)) (some b) (o5 (F9 A.2.2.2.1 x.2.1) λc=>o5 (wP x.2.2.2.2.2.2.1 C c.2) λx=>some x)) (o5 (F9 A.2.2.2.1 x.2.1) λb=>o5 (wP x.2.2.2.2.2.2.1 C b.2) λx=>some x)) λr=>some r
def c2b:FQ:=⟨[tD y24,G5,tD y66],tR 6 G5,mE 145 [(56,s56),(155,a5v),(154,b2B),(156,c6R),(157,c6S)],sN 3 (Y2 (sN 1 (dn (.loop [(8,9),(10,11),(22,34)] ⟨[(8,G5),(22,G5)],[]⟩ 0 ⟨[(8,G5)],[]⟩ F6))) (Y2 (jnR [(6,8),(34,122),(7000448,7000449)] ⟨[(7,(false,(.rp y19)))],[]⟩ (dn (sN 1 (.cond F6 (sN 1 (.cond F6 (Y2 (.join [(46,58)] ⟨[(46,dR)],[]⟩ F6) (.cond F6 (Y2 (.join [(58,85)] ⟨[(58,dR)],[]⟩ F6) (.cond F6 (Y2 (.join [(85,94)] ⟨[(85,dR)],[]⟩ F6) F6))))))))))) F6))⟩
def c6q:FSpec:=X7 c2b λx=>Ef x.1 x.2.1 x.2.2
def c1M:List MG:=[(false,(.ownb (.int .i64)))]
def b7G:FSpec:=⟨c1M,[],[jR],λx=>Gv x⟩
def c1N:List MG:=[jR]
def b7H:FSpec:=⟨c1N,[jR],[],λx=>rX x⟩
def wL(A:d1v):Option d1v:=o5 (Gv A) λx=>o5 (rX x) λx=>some x
def c2h:FQ:=⟨[jR],tR 2 jR,mE 7 [(124,b7G),(125,b7H)],F6⟩
def c6w:FSpec:=X7 c2h λx=>wL x
def pz(A:List I9):Option kM:=o5 (Y9 (λ(x:d1v×d1v×d1v×Int)=>l7 (D9 x.2.2.2 (o9 A)) (o5 (F9 A x.2.2.2) λb=>l7 (x8 b.1 7) (o5 (dG x.1 [b.2]) λc=>some (.inl (c,x.2.1,x.2.2.1,x9 .i64 x.2.2.2 1))) (l7 (x8 b.1 8) (o5 (dG x.2.1 [b.2]) λc=>some (.inl (x.1,c,x.2.2.1,x9 .i64 x.2.2.2 1))) (l7 (x8 b.1 36) (l7 (x8 b.1 36) (o5 (dG x.2.2.1 [b.2]) λc=>some (.inl (x.1,x.2.1,c,x9 .i64 x.2.2.2 1))) (some (.inl (x.1,x.2.1,x.2.2.1,x9 .i64 x.2.2.2 1)))) (l7 (x8 b.1 37) (l7 (x8 b.1 37) (o5 (dG x.2.2.1 [b.2]) λc=>some (.inl (x.1,x.2.1,c,x9 .i64 x.2.2.2 1))) (some (.inl (x.1,x.2.1,x.2.2.1,x9 .i64 x.2.2.2 1)))) (l7 (x8 b.1 38) (l7 (x8 b.1 38) (o5 (dG x.2.2.1 [b.2]) λc=>some (.inl (x.1,x.2.1,c,x9 .i64 x.2.2.2 1))) (some (.inl (x.1,x.2.1,x.2.2.1,x9 .i64 x.2.2.2 1)))) (l7 (x8 b.1 39) (o5 (dG x.2.2.1 [b.2]) λc=>some (.inl (x.1,x.2.1,c,x9 .i64 x.2.2.2 1))) (some (.inl (x.1,x.2.1,x.2.2.1,x9 .i64 x.2.2.2 1))))))))) (some (.inr (x.1,x.2.1,x.2.2.1)))) ([],[],[],0)) λy=>o5 (wL y.1) λx=>o5 (wL y.2.1) λb=>o5 (wL y.2.2) λc=>some (x,b,c)
def q69:FQ:=⟨[uD y12],⟨[(.tmp 2,jR),(.tmp 3,jR),(.tmp 4,jR)],[]⟩,mE 49 [(123,c6w)],sN 2 (Y2 (sN 1 (dn (.loop [(5,8),(9,10),(12,43)] ⟨[(5,jR),(6,jR),(7,jR),(12,G5)],[]⟩ 0 ⟨[(5,jR),(6,jR),(7,jR)],[]⟩ F6))) F6)⟩
def s69:FSpec:=X7 q69 λx=>pz x
def vJ(A:ak)(B:Int):Option d1v:=o5 (pz A.2.2.2.2.2.1) λx=>o5 (pz A.2.2.2.2.2.2.1) λd=>o5 (Y9 (λ(b:d1v×Int)=>l7 (D9 b.2 (o9 x.2.1)) (o5 (F9 x.2.1 b.2) λc=>o5 (U0 x.2.1 (U9 b.2)) λx=>l7 (J5 0 x) (l7 (D9 x B) (o5 (dG b.1 [x]) λx=>some (.inl (x,x9 .i64 b.2 1))) (some (.inl (b.1,x9 .i64 b.2 1)))) (some (.inl (b.1,x9 .i64 b.2 1)))) (some (.inr b.1))) ([],0)) λy=>o5 (Y9 (λ(x:d1v×Int)=>l7 (D9 x.2 (o9 d.2.1)) (o5 (F9 d.2.1 x.2) λb=>o5 (U0 d.2.1 (U9 x.2)) λc=>l7 (J5 0 c) (l7 (D9 c B) (o5 (dG x.1 [c]) λf=>some (.inl (f,x9 .i64 x.2 1))) (some (.inl (x.1,x9 .i64 x.2 1)))) (some (.inl (x.1,x9 .i64 x.2 1)))) (some (.inr x.1))) (y,0)) λy=>some y
def c2g:FQ:=⟨[tD y19,G5],tR 4 jR,mE 67 [(69,s69)],sN 4 (Y2 (sN 1 (dn (.loop [(5,6),(13,14),(32,48)] ⟨[(5,jR),(32,G5)],[]⟩ 0 ⟨[(5,jR)],[]⟩ F6))) (Y2 (sN 1 (dn (.loop [(5,6),(15,16),(50,66),(21000000,21000001)] ⟨[(5,jR),(50,G5)],[]⟩ 2 ⟨[(5,jR)],[]⟩ F6))) F6))⟩
def c6v:FSpec:=X7 c2g λx=>vJ x.1 x.2
def BK(A:d1v):Option d1v:=o5 (Gv A) λx=>o5 (rX x) λx=>some x
def q70:FQ:=⟨[jR],tR 2 jR,mE 7 [(124,b7G),(125,b7H)],F6⟩
def s70:FSpec:=X7 q70 λx=>BK x
def uF(A:D6):Option (List d1v):=o5 (qL (o9 A.2.2.2.1) []) λx=>o5 (Y9 (λ(x:List d1v×Int)=>l7 (D9 x.2 (o9 A.2.2.2.2)) (o5 (F9 A.2.2.2.2 x.2) λb=>l7 (J5 0 b.2.1) (l7 (D9 b.2.1 (o9 x.1)) (l7 (inb b.2.1 (o9 x.1)) (o5 (U0 x.1 (U9 b.2.1)) λc=>o5 (vJ b (o9 x.1)) λd=>o5 (dG c d) λf=>l7 (inb b.2.1 (o9 x.1)) (l7 (QF (U9 b.2.1) (U9 b.2.1)) (o5 (U0 x.1 (U9 b.2.1)) λg=>some (.inl (bi x.1 (U9 b.2.1) f,x9 .i64 x.2 1))) none) none) none) (some (.inl (x.1,x9 .i64 x.2 1)))) (some (.inl (x.1,x9 .i64 x.2 1)))) (some (.inr x.1))) (x,0)) λy=>o5 (Y9 (λ(x:List d1v×Int)=>l7 (D9 x.2 (o9 y)) (l7 (inb x.2 (o9 x.1)) (o5 (U0 x.1 (U9 x.2)) λb=>o5 (BK b) λc=>l7 (inb x.2 (o9 x.1)) (l7 (QF (U9 x.2) (U9 x.2)) (o5 (U0 x.1 (U9 x.2)) λd=>some (.inl (bi x.1 (U9 x.2) c,x9 .i64 x.2 1))) none) none) none) (some (.inr x.1))) (y,0)) λy=>some y
def q68:FQ:=⟨[tD y24],tR 2 (uD y57),⟨58,eqs,tt,gl,[(122,c6v),(70,s70)],[(138,oiM)],[7,36,50,53],[],[],[]⟩,sN 2 (Y2 (sN 1 (dn (.loop [(3,4),(5,6),(15,44),(7000704,7000705)] ⟨[(3,(false,(.owns oiM))),(15,G5)],[]⟩ 0 ⟨[(3,(false,(.owns oiM)))],[]⟩ F6))) (Y2 (sN 1 (dn (.loop [(3,4),(6,8),(44,45),(46,57),(15000000,15000001)] ⟨[(3,(false,(.owns oiM))),(46,G5)],[(44,3)]⟩ 2 ⟨[(3,(false,(.owns oiM)))],[]⟩ F6))) F6))⟩
def s68:FSpec:=X7 q68 λx=>uF x
def yB(A:List d1v)(B:Int):Option d1v:=o5 (qL (o9 A) false) λx=>o5 (Y9 (λ(x:d1z×d1v)=>l7 (D9 0 (o9 x.2)) (o5 (F9 x.2 0) λf=>o5 (U0 x.2 (U9 0)) λd=>l7 (qQ 1 (o9 x.2) (o9 x.2)) (o5 (F9 A d) λc=>o5 (Y9 (λ(x:d1z×d1v×Int)=>l7 (D9 x.2.2 (o9 c)) (o5 (F9 c x.2.2) λb=>o5 (F9 x.1 b) λj=>o5 (U0 x.1 (U9 b)) λg=>l7 (D7 g) (o5 (F9 x.1 b) λk=>o5 (U0 x.1 (U9 b)) λn=>o5 (dG x.2.1 [b]) λi=>some (.inl (bi x.1 (U9 b) true,i,x9 .i64 x.2.2 1))) (some (.inl (x.1,x.2.1,x9 .i64 x.2.2 1)))) (some (.inr (x.1,x.2.1)))) (x.1,oD x.2 (U9 1) (U9 (o9 x.2)),0)) λy=>some (.inl y)) none) (some (.inr x.1))) (x,[B])) λy=>o5 (Y9 (λ(x:d1v×Int)=>l7 (D9 x.2 (o9 y)) (o5 (F9 y x.2) λf=>o5 (U0 y (U9 x.2)) λd=>l7 d (o5 (dG x.1 [x.2]) λc=>some (.inl (c,x9 .i64 x.2 1))) (some (.inl (x.1,x9 .i64 x.2 1)))) (some (.inr x.1))) ([],0)) λy=>some y
def q67:FQ:=⟨[uD y57,G5],tR 4 jR,mE 62 [],sN 3 (Y2 (dn (.loop [(5,8),(9,10),(18,48),(7000960,7000961),(10001088,10001089)] ⟨[(5,(uO .bool)),(6,jR)],[]⟩ 0 ⟨[(5,(uO .bool))],[]⟩ (sN 1 (dn (sN 3 (dn (.loop [(5,7),(9,10),(31,48),(14000000,14000002)] ⟨[(5,(uO .bool)),(6,jR),(31,G5)],[]⟩ 2 ⟨[(5,(uO .bool)),(6,jR)],[]⟩ F6))))))) (sN 1 (Y2 (sN 1 (dn (.loop [(10,13),(50,61)] ⟨[(10,jR),(50,G5)],[]⟩ 4 ⟨[(10,jR)],[]⟩ F6))) F6)))⟩
def s67:FSpec:=X7 q67 λx=>yB x.1 x.2
def mD(A:D6)(B:Int):Option d1v:=l7 (D9 B 0) (some []) (l7 (J5 (o9 A.2.2.2.1) B) (some []) (o5 (uF A) λx=>o5 (yB x B) λx=>some x))
def q36:FQ:=⟨[tD y24,G5],tR 4 jR,mE 18 [(68,s68),(67,s67)],F6⟩
def s36:FSpec:=X7 q36 λx=>mD x.1 x.2
def yz(A:d1v)(B:Int):d1B:=o5 (U1 (λ(x:Int)=>l7 (D9 x (o9 A)) (o5 (F9 A x) λb=>l7 (x8 B b) (some (.rt x)) (some (.nx (x9 .i64 x 1)))) (some (.ex ()))) 0) λo=>U6 o (λy=>some (-1)) λr=>some r
def c2M:FQ:=⟨[uD y43,G5],tR 4 G5,mE 19 [],sN 1 (Y2 (sN 1 (dn (lpR [(4,6),(8,19)] ⟨[(8,G5)],[]⟩ 0 nX F6))) F6)⟩
def c6T:FSpec:=X7 c2M λx=>yz x.1 x.2
def oQ(A:d1v)(B:Int):d1A:=o5 (yz A B) λx=>some (J5 0 x)
def c2c:FQ:=⟨[uD y43,G5],tR 4 dR,mE 9 [(158,c6T)],F6⟩
def c6r:FSpec:=X7 c2c λx=>oQ x.1 x.2
def BX(A:U5)(B:Int):Option I9:=o5 (F9 A.2.2 B) λx=>o5 (Ny A.2.2 0 B) λf=>o5 (o5 (Bl A.1 x.1) λd=>l7 d (some (x,true)) (o5 (BZ A.2.1 x.1) λb=>l7 b (some (x,true)) (o5 (fM f x) λc=>some (x,c)))) λx=>o5 (o5 (iK x.1.1) λd=>l7 (D7 d) (some (.inr (2,0))) (l7 x.2 (some (.inr (7,0))) (o5 (l7 (D7 (x8 x.1.2.1 (-1))) (l7 (D9 x.1.2.1 0) (some true) (l7 (J5 B x.1.2.1) (some true) (o5 (F9 f x.1.2.1) λx=>some (D7 (x8 x.2.1 (-1)))))) (some false)) λb=>l7 b (some (.inr (6,0))) (l7 (D9 12 (o9 x.1.2.2.1)) (some (.inr (4,112))) (l7 (D9 12 (o9 x.1.2.2.2.1)) (some (.inr (4,212))) (some (.inl ()))))))) λo=>U6 o (λd=>o5 (U1 (λ(b:Int)=>l7 (D9 b (o9 x.1.2.2.1)) (o5 (F9 x.1.2.2.1 b) λc=>o5 (Ny x.1.2.2.1 0 b) λx=>o5 (xQ A c x []) λx=>l7 (D7 (x8 x 0)) (some (.rt (x,x9 .i64 100 b))) (some (.nx (x9 .i64 b 1)))) (some (.ex ()))) 0) λo=>U6 o (λy=>o5 (U1 (λ(b:Int)=>l7 (D9 b (o9 x.1.2.2.2.1)) (o5 (F9 x.1.2.2.2.1 b) λc=>o5 (Ny x.1.2.2.2.1 0 b) λg=>o5 (xQ A c x.1.2.2.1 g) λx=>l7 (D7 (x8 x 0)) (some (.rt (x,x9 .i64 200 b))) (some (.nx (x9 .i64 b 1)))) (some (.ex ()))) 0) λo=>U6 o (λy=>o5 (pV A B) λb=>o5 (U1 (λ(c:Int)=>l7 (D9 c (o9 x.1.2.2.2.2)) (o5 (Ef x.1 c b) λx=>l7 (D7 (x8 x 0)) (some (.rt (x,x9 .i64 300 c))) (some (.nx (x9 .i64 c 1)))) (some (.ex ()))) 0) λo=>U6 o (λy=>o5 (U1 (λ(c:Int)=>l7 (D9 c (o9 x.1.2.2.2.1)) (o5 (mD x.1 c) λx=>o5 (oQ x c) λx=>l7 x (some (.rt (9,x9 .i64 200 c))) (some (.nx (x9 .i64 c 1)))) (some (.ex ()))) 0) λo=>U6 o (λy=>some (0,0)) λr=>some r) λr=>some r) λr=>some r) λr=>some r) λr=>some r
def q59:FQ:=⟨[tD y27,G5],⟨[(.tmp 4,G5),(.tmp 5,G5)],[]⟩,mE 163 [(57,s57),(58,s58),(114,a5t),(113,b2v),(56,s56),(115,c6o),(116,c6p),(117,c6q),(36,s36),(118,c6r)],sN 3 (Y2 (.join [(6,7),(8,9),(28,45),(7000384,7000385)] ⟨[(6,(false,(.rp y24))),(8,dR)],[]⟩ F6) (Y2 (jnR [(4,6),(45,86)] nX (dn (sN 1 (.cond F6 (sN 1 (.cond F6 (Y2 (.join [(52,76)] ⟨[(52,dR)],[]⟩ F6) F6))))))) (Y2 (sN 1 (dn (lpR [(4,6),(9,12),(89,107)] ⟨[(89,G5)],[]⟩ 1 nX F6))) (Y2 (sN 1 (dn (lpR [(4,6),(12,15),(110,130)] ⟨[(110,G5)],[]⟩ 3 nX F6))) (sN 1 (Y2 (sN 1 (dn (lpR [(4,6),(16,18),(136,149)] ⟨[(136,G5)],[]⟩ 5 nX F6))) (Y2 (sN 1 (dn (lpR [(4,6),(18,19),(152,163)] ⟨[(152,G5)],[]⟩ 7 nX F6))) F6)))))))⟩
def s59:FSpec:=X7 q59 λx=>BX x.1 x.2
def Ak(A:U5):Option N8:=l7 (D9 4 (o9 A.2.2)) (some (4,3,4,0)) (o5 (U1 (λ(x:N8×Int)=>l7 (D9 x.2 (o9 A.2.2)) (o5 (BX A x.2) λb=>l7 (D7 (x8 b.1 0)) (some (.rt (b.1,3,x.2,b.2))) (some (.nx (x.1,x9 .i64 x.2 1)))) (some (.ex x.1))) ((0,0,0,0),0)) λo=>U6 o (λ(y:N8)=>some (0,0,0,0)) λr=>some r)
def q27:FQ:=⟨[tD y27],cR 2 56 (tD y40),mE 31 [(59,s59)],sN 2 (Y2 (sN 1 (dn (lpR [(2,6),(14,30),(4000128,4000129)] ⟨[(2,(false,(.box (dT y40)))),(14,G5)],[]⟩ 0 ⟨[(2,(false,(.box (dT y40))))],[]⟩ F6))) F6)⟩
def s27:FSpec:=X7 q27 λx=>Ak x
def yI(A:U5):Option N8:=o5 (BV A) λx=>l7 (D7 (x8 x.1 0)) (some x) (o5 (Am A) λx=>l7 (D7 (x8 x.1 0)) (some x) (o5 (Ak A) λx=>some x))
def q14:FQ:=⟨[tD y27],cR 2 56 (tD y40),mE 19 [(25,s25),(26,s26),(27,s27)],F6⟩
def s14:FSpec:=X7 q14 λx=>yI x
def mf(A:List d1x)(B:List d1x):d1A:=l7 (D7 (x8 (o9 A) (o9 B))) (some false) (o5 (U1 (λ(x:Int)=>l7 (D9 x (o9 A)) (o5 (F9 A x) λb=>o5 (F9 B x) λc=>l7 (D7 (seq b c)) (some (.rt false)) (some (.nx (x9 .i64 x 1)))) (some (.ex ()))) 0) λo=>U6 o (λy=>some true) λr=>some r)
def q60:FQ:=⟨[uD (.sl .str),(uD (.sl .str))],tR 4 dR,mE 26 [],sN 2 (Y2 (sN 1 (dn (lpR [(4,6),(13,26)] ⟨[(13,G5)],[]⟩ 0 nX F6))) F6)⟩
def s60:FSpec:=X7 q60 λx=>mf x.1 x.2
def yJ(A:gI)(B:gI):d1A:=l7 (seq A.1 B.1) (o5 (mf A.2 B.2) λx=>some x) (some false)
def q29:FQ:=⟨[tD y0,tD y0],tR 4 dR,mE 17 [(60,s60)],F6⟩
def s29:FSpec:=X7 q29 λx=>yJ x.1 x.2
def aT(A:List gI)(B:List gI)(C:Unit):d1A:=l7 (D7 (x8 (o9 A) (o9 B))) (some false) (o5 (U1 (λ(x:Int)=>l7 (D9 x (o9 A)) (o5 (F9 A x) λb=>o5 (F9 B x) λc=>o5 (yJ b c) λd=>l7 (D7 d) (some (.rt false)) (some (.nx (x9 .i64 x 1)))) (some (.ex ()))) 0) λo=>U6 o (λy=>some true) λr=>some r)
def b6q:FQ:=⟨[uD y1,uD y1,(false,(.fn 29 []))],tR 6 dR,mE 32 [(29,s29)],sN 2 (Y2 (sN 1 (dn (lpR [(6,10),(17,32)] ⟨[(17,G5)],[]⟩ 0 nX F6))) F6)⟩
def b6x:FSpec:=X7 b6q λx=>aT x.1 x.2.1 x.2.2
def kY(A:List ww)(B:List ww):d1A:=l7 (D7 (x8 (o9 A) (o9 B))) (some false) (o5 (U1 (λ(x:Int)=>l7 (D9 x (o9 A)) (o5 (F9 A x) λb=>o5 (F9 B x) λc=>l7 (D7 (aj (x8 b.1.1 c.1.1) (aj (x8 b.1.2 c.1.2) (aj (x8 b.2.1 c.2.1) (aj (x8 b.2.2.1 c.2.2.1) (x8 b.2.2.2 c.2.2.2)))))) (some (.rt false)) (some (.nx (x9 .i64 x 1)))) (some (.ex ()))) 0) λo=>U6 o (λy=>some true) λr=>some r)
def q61:FQ:=⟨[uD y5,uD y5],tR 4 dR,mE 26 [],sN 2 (Y2 (sN 1 (dn (lpR [(4,6),(13,26)] ⟨[(13,G5)],[]⟩ 0 nX F6))) F6)⟩
def s61:FSpec:=X7 q61 λx=>kY x.1 x.2
def xu(A:bJ)(B:bJ):d1A:=l7 (seq A.1 B.1) (l7 (aj (x8 A.2.1.1 B.2.1.1) (x8 A.2.1.2 B.2.1.2)) (l7 (aj (x8 A.2.2.1.1 B.2.2.1.1) (x8 A.2.2.1.2 B.2.2.1.2)) (o5 (kY A.2.2.2 B.2.2.2) λx=>some x) (some false)) (some false)) (some false)
def q31:FQ:=⟨[tD y8,tD y8],tR 4 dR,mE 31 [(61,s61)],F6⟩
def s31:FSpec:=X7 q31 λx=>xu x.1 x.2
def az(A:List bJ)(B:List bJ)(C:Unit):d1A:=l7 (D7 (x8 (o9 A) (o9 B))) (some false) (o5 (U1 (λ(x:Int)=>l7 (D9 x (o9 A)) (o5 (F9 A x) λb=>o5 (F9 B x) λc=>o5 (xu b c) λd=>l7 (D7 d) (some (.rt false)) (some (.nx (x9 .i64 x 1)))) (some (.ex ()))) 0) λo=>U6 o (λy=>some true) λr=>some r)
def b6r:FQ:=⟨[uD y9,uD y9,(false,(.fn 31 []))],tR 6 dR,mE 32 [(31,s31)],sN 2 (Y2 (sN 1 (dn (lpR [(6,10),(17,32)] ⟨[(17,G5)],[]⟩ 0 nX F6))) F6)⟩
def b6y:FSpec:=X7 b6r λx=>az x.1 x.2.1 x.2.2
def gq(A:List fF)(B:List fF):d1A:=l7 (D7 (x8 (o9 A) (o9 B))) (some false) (o5 (U1 (λ(x:Int)=>l7 (D9 x (o9 A)) (o5 (F9 A x) λb=>o5 (F9 B x) λc=>l7 (D7 (aj (seq b.1 c.1) (aj (x8 b.2.1 c.2.1) (x8 b.2.2 c.2.2)))) (some (.rt false)) (some (.nx (x9 .i64 x 1)))) (some (.ex ()))) 0) λo=>U6 o (λy=>some true) λr=>some r)
def q62:FQ:=⟨[uD y11,uD y11],tR 4 dR,mE 26 [],sN 2 (Y2 (sN 1 (dn (lpR [(4,6),(13,26)] ⟨[(13,G5)],[]⟩ 0 nX F6))) F6)⟩
def s62:FSpec:=X7 q62 λx=>gq x.1 x.2
def xq(A:D6)(B:D6):d1A:=l7 (seq A.1 B.1) (l7 (x8 A.2.1 B.2.1) (o5 (gq A.2.2.1 B.2.2.1) λx=>l7 x (o5 (gq A.2.2.2.1 B.2.2.2.1) λx=>some x) (some false)) (some false)) (some false)
def q33:FQ:=⟨[tD y24,tD y24],tR 4 dR,mE 31 [(62,s62)],F6⟩
def s33:FSpec:=X7 q33 λx=>xq x.1 x.2
def ay(A:List D6)(B:List D6)(C:Unit):d1A:=l7 (D7 (x8 (o9 A) (o9 B))) (some false) (o5 (U1 (λ(x:Int)=>l7 (D9 x (o9 A)) (o5 (F9 A x) λb=>o5 (F9 B x) λc=>o5 (xq b c) λd=>l7 (D7 d) (some (.rt false)) (some (.nx (x9 .i64 x 1)))) (some (.ex ()))) 0) λo=>U6 o (λy=>some true) λr=>some r)
def b6s:FQ:=⟨[uD y25,uD y25,(false,(.fn 33 []))],tR 6 dR,mE 32 [(33,s33)],sN 2 (Y2 (sN 1 (dn (lpR [(6,10),(17,32)] ⟨[(17,G5)],[]⟩ 0 nX F6))) F6)⟩
def b6z:FSpec:=X7 b6s λx=>ay x.1 x.2.1 x.2.2
def rf(A:U5)(B:U5):d1A:=o5 (aT A.1 B.1 ()) λx=>l7 x (o5 (az A.2.1 B.2.1 ()) λx=>l7 x (o5 (ay A.2.2 B.2.2 ()) λx=>some x) (some false)) (some false)
def q15:FQ:=⟨[tD y27,tD y27],tR 4 dR,mE 24 [(28,b6x),(30,b6y),(32,b6z)],F6⟩
def s15:FSpec:=X7 q15 λx=>rf x.1 x.2
def og(A:U5)(B:List J4)(C:List fF):Option I9:=l7 (D9 (o9 B) (o9 C)) (some (o9 B,5)) (l7 (D9 (o9 C) (o9 B)) (some (o9 C,4)) (o5 (U1 (λ(x:Int)=>l7 (D9 x (o9 B)) (o5 (F9 B x) λb=>o5 (F9 C x) λc=>l7 (D7 (x8 b.1 c.2.1)) (some (.rt (x,8))) (l7 (D7 (x8 b.2.1 c.2.2)) (some (.rt (x,8))) (o5 (tJ c.2 A.1) λd=>l7 (D9 b.2.2 d.1) (some (.rt (x,3))) (l7 (D9 d.2 b.2.2) (some (.rt (x,3))) (some (.nx (x9 .i64 x 1))))))) (some (.ex ()))) 0) λo=>U6 o (λy=>some (0,0)) λr=>some r))
def c2N:FQ:=⟨[tD y27,uD y29,uD y11],⟨[(.tmp 6,G5),(.tmp 7,G5)],[]⟩,mE 71 [(101,b5w)],sN 3 (Y2 (sN 1 (dn (lpR [(6,13),(29,71)] ⟨[(29,G5)],[]⟩ 0 nX F6))) F6)⟩
def c6U:FSpec:=X7 c2N λx=>og x.1 x.2.1 x.2.2
def qW(A:U5)(B:Int):Option (List fF×Int):=o5 (F9 A.2.2 B) λx=>l7 (D9 x.2.1 0) (some ([],0)) (l7 (J5 (o9 A.2.2) x.2.1) (some ([],0)) (o5 (F9 A.2.2 x.2.1) λx=>some (x.2.2.1,8)))
def c2O:FQ:=⟨[tD y27,G5],⟨[(.tmp 4,uD y11),(.tmp 5,G5)],[]⟩,mE 28 [],F6⟩
def c6V:FSpec:=X7 c2O λx=>qW x.1 x.2
def xe(A:U5)(B:Int)(C:ig):Option J4:=o5 (l7 (D9 B 0) (some (.inr (-1,-1,6))) (l7 (J5 (o9 A.2.2) B) (some (.inr (-1,-1,6))) (some (.inl ())))) λo=>U6 o (λx=>o5 (l7 (D9 C.1 0) (some (.inr (-1,-1,3))) (l7 (D9 109572 C.1) (some (.inr (-1,-1,3))) (some (.inl ())))) λo=>U6 o (λx=>o5 (F9 A.2.2 B) λx=>o5 (og A C.2.1 x.2.2.1) λx=>l7 (D7 (x8 x.2 0)) (some (-1,x)) (o5 (qW A B) λx=>l7 (D9 x.2 (o9 C.2.2)) (some (x.2,-1,4)) (o5 (U1 (λ(b:Int)=>l7 (D9 b (o9 C.2.2)) (o5 (F9 C.2.2 b) λc=>o5 (og A c x.1) λx=>l7 (D7 (x8 x.2 0)) (some (.rt (b,x))) (some (.nx (x9 .i64 b 1)))) (some (.ex ()))) 0) λo=>U6 o (λy=>some (0,0,0)) λr=>some r))) λr=>some r) λr=>some r
def c2d:FQ:=⟨[tD y27,G5,tD y32],⟨[(.tmp 6,G5),(.tmp 7,G5),(.tmp 8,G5)],[]⟩,mE 84 [(159,c6U),(160,c6V)],sN 1 (Y2 (jnR [(6,9),(17,26)] nX F6) (Y2 (jnR [(6,9),(26,34)] nX F6) (sN 3 (Y2 (sN 1 (dn (lpR [(6,9),(13,17),(66,84)] ⟨[(66,G5)],[]⟩ 0 nX F6))) F6))))⟩
def c6s:FSpec:=X7 c2d λx=>xe x.1 x.2.1 x.2.2
def qX(A:U5)(B:Int)(C:ig)(D:Bool)(E:Int):Option N8:=o5 (yI A) λx=>l7 (D7 (x8 x.1 0)) (some (1,-1,-1,-1)) (o5 (l7 (D9 B 0) (some (.inr (6,-1,-1,-1))) (l7 (J5 (o9 A.2.2) B) (some (.inr (6,-1,-1,-1))) (l7 D (l7 (D9 E 0) (some (.inr (6,-1,-1,-1))) (o5 (F9 A.2.2 B) λx=>l7 (J5 (o9 x.2.2.2.1) E) (some (.inr (6,-1,-1,-1))) (some (.inl (0,0,0,0))))) (some (.inl (0,0,0,0)))))) λo=>U6 o (λ(x:N8)=>o5 (xe A B C) λx=>l7 (D7 (x8 x.2.2 0)) (some (x.2.2,x.1,-1,-1)) (some (0,0,0,0))) λr=>some r)
def q63:FQ:=⟨[tD y27,G5,tD y32,dR,G5],cR 10 71 (tD y40),mE 63 [(14,s14),(119,c6s)],sN 2 (Y2 (jnR [(10,11),(21,49),(4000640,4000641)] ⟨[(10,(false,(.box (dT y40))))],[]⟩ F6) F6)⟩
def s63:FSpec:=X7 q63 λx=>qX x.1 x.2.1 x.2.2.1 x.2.2.2.1 x.2.2.2.2
def Ai(A:U5)(B:Int):Option bC:=o5 (F9 A.2.2 B) λx=>o5 (qL (o9 x.2.2.2.1) false) λb=>l7 (J5 0 x.2.1) (o5 (F9 A.2.2 x.2.1) λc=>o5 (qL (o9 c.2.2.2.1) false) λd=>some (x,c,b,d)) (some (x,([],0,[],[],[]),b,[]))
def q64:FQ:=⟨[tD y27,G5],⟨[(.tmp 4,(false,(.box (pA (dT y24) (pA (dT y24) (pA (oW .bool) (oW .bool)))))))],[]⟩,mE 52 [],F6⟩
def s64:FSpec:=X7 q64 λx=>Ai x.1 x.2
def wE(A:D6)(B:Int):Option d1v:=o5 (l7 (D9 B 0) (some (.inr [])) (l7 (J5 (o9 A.2.2.2.1) B) (some (.inr [])) (some (.inl ())))) λo=>U6 o (λx=>o5 (qL (o9 A.2.2.2.1) false) λx=>o5 (F9 x B) λp=>o5 (U0 x (U9 B)) λq=>o5 (uF A) λk=>o5 (yB k B) λd=>o5 (Y9 (λ(x:d1z×Int)=>l7 (D9 x.2 (o9 d)) (o5 (F9 d x.2) λb=>o5 (U0 d (U9 x.2)) λc=>o5 (F9 x.1 c) λf=>o5 (U0 x.1 (U9 c)) λg=>some (.inl (bi x.1 (U9 c) true,x9 .i64 x.2 1))) (some (.inr x.1))) (bi x (U9 B) true,0)) λy=>o5 (Y9 (λ(x:d1v×Int)=>l7 (D9 x.2 (o9 A.2.2.2.2)) (o5 (F9 A.2.2.2.2 x.2) λb=>l7 (D9 b.2.1 0) (some (.inl (x.1,x9 .i64 x.2 1))) (l7 (J5 (o9 A.2.2.2.1) b.2.1) (some (.inl (x.1,x9 .i64 x.2 1))) (o5 (F9 y b.2.1) λc=>o5 (U0 y (U9 b.2.1)) λf=>l7 (D7 f) (some (.inl (x.1,x9 .i64 x.2 1))) (o5 (pz b.2.2.2.2.2.1) λg=>o5 (pz b.2.2.2.2.2.2.1) λn=>o5 (dG x.1 g.2.2) λi=>o5 (dG i n.2.2) λj=>some (.inl (j,x9 .i64 x.2 1)))))) (some (.inr x.1))) ([],0)) λy=>o5 (BK y) λx=>some x) λr=>some r
def q37:FQ:=⟨[tD y24,G5],tR 4 jR,mE 95 [(68,s68),(67,s67),(69,s69),(70,s70)],sN 1 (Y2 (jnR [(4,5),(17,26)] nX F6) (sN 2 (Y2 (sN 1 (dn (.loop [(5,6),(7,8),(38,46),(17001856,17001857)] ⟨[(5,(uO .bool)),(38,G5)],[]⟩ 0 ⟨[(5,(uO .bool))],[]⟩ F6))) (sN 1 (Y2 (sN 1 (dn (.loop [(8,9),(10,17),(49,93)] ⟨[(8,jR),(49,G5)],[]⟩ 2 ⟨[(8,jR)],[]⟩ F6))) F6)))))⟩
def s37:FSpec:=X7 q37 λx=>wE x.1 x.2
def mW(A:bC)(B:Int):Option bC:=o5 (F9 A.2.2.2 B) λx=>o5 (U0 A.2.2.2 (U9 B)) λx=>o5 (mD A.2.1 B) λx=>o5 (Y9 (λ(b:bC×Int)=>l7 (D9 b.2 (o9 x)) (o5 (F9 x b.2) λc=>o5 (U0 x (U9 b.2)) λx=>o5 (F9 b.1.2.2.2 x) λd=>o5 (U0 b.1.2.2.2 (U9 x)) λf=>some (.inl ((b.1.1,b.1.2.1,b.1.2.2.1,bi b.1.2.2.2 (U9 x) true),x9 .i64 b.2 1))) (some (.inr b.1))) ((A.1,A.2.1,A.2.2.1,bi A.2.2.2 (U9 B) true),0)) λy=>some y
def c2e:FQ:=⟨[(false,(.box (pA (dT y24) (pA (dT y24) (pA (oW .bool) (oW .bool)))))),G5],⟨[],[(0,(true,(pA (dT y24) (pA (dT y24) (pA (oW .bool) (oW .bool))))))]⟩,⟨30,eqs,tt,gl,[(36,s36)],[],[],[],[0],[]⟩,sN 2 (dn (.loop [(0,1),(5,6),(19,30),(1000000,1000003)] ⟨[(0,(false,(.box (pA (dT y24) (pA (dT y24) (pA (oW .bool) (oW .bool))))))),(19,G5)],[]⟩ 0 ⟨[(0,(false,(.box (pA (dT y24) (pA (dT y24) (pA (oW .bool) (oW .bool)))))))],[]⟩ F6))⟩
def c6t:FSpec:=X7 c2e λx=>mW x.1 x.2
def uw(A:bC)(B:Int):Option bC:=o5 (F9 A.2.2.1 B) λx=>o5 (U0 A.2.2.1 (U9 B)) λx=>o5 (mD A.1 B) λx=>o5 (Y9 (λ(b:bC×Int)=>l7 (D9 b.2 (o9 x)) (o5 (F9 x b.2) λc=>o5 (U0 x (U9 b.2)) λx=>o5 (F9 b.1.2.2.1 x) λd=>o5 (U0 b.1.2.2.1 (U9 x)) λf=>some (.inl ((b.1.1,b.1.2.1,bi b.1.2.2.1 (U9 x) true,b.1.2.2.2),x9 .i64 b.2 1))) (some (.inr b.1))) ((A.1,A.2.1,bi A.2.2.1 (U9 B) true,A.2.2.2),0)) λy=>o5 (wE y.1 B) λx=>o5 (Y9 (λ(b:bC×Int)=>l7 (D9 b.2 (o9 x)) (o5 (F9 x b.2) λc=>o5 (U0 x (U9 b.2)) λx=>o5 (mW b.1 x) λx=>some (.inl (x,x9 .i64 b.2 1))) (some (.inr b.1))) (y,0)) λy=>some y
def q65:FQ:=⟨[(false,(.box (pA (dT y24) (pA (dT y24) (pA (oW .bool) (oW .bool)))))),G5],⟨[],[(0,(true,(pA (dT y24) (pA (dT y24) (pA (oW .bool) (oW .bool))))))]⟩,⟨47,eqs,tt,gl,[(36,s36),(37,s37),(120,c6t)],[],[],[],[0],[]⟩,sN 1 (Y2 (sN 1 (dn (.loop [(0,1),(5,6),(21,32),(1000000,1000003)] ⟨[(0,(false,(.box (pA (dT y24) (pA (dT y24) (pA (oW .bool) (oW .bool))))))),(21,G5)],[]⟩ 0 ⟨[(0,(false,(.box (pA (dT y24) (pA (dT y24) (pA (oW .bool) (oW .bool)))))))],[]⟩ F6))) (sN 1 (dn (.loop [(0,1),(7,8),(39,47),(12000000,12000003)] ⟨[(0,(false,(.box (pA (dT y24) (pA (dT y24) (pA (oW .bool) (oW .bool))))))),(39,G5)],[]⟩ 2 ⟨[(0,(false,(.box (pA (dT y24) (pA (dT y24) (pA (oW .bool) (oW .bool)))))))],[]⟩ F6))))⟩
def s65:FSpec:=X7 q65 λx=>uw x.1 x.2
def BJ(A:d1v)(B:Int):Option d1v:=o5 (dG A [B]) λx=>some x
def b1X:FQ:=⟨[(false,(.box oiM)),(false,(.ifc 3 diM))],⟨[],[(0,(true,oiM))]⟩,⟨20,eqs,tt,gl,[],[],[],[],[0],[]⟩,F6⟩
def b2P:FSpec:=X7 b1X λx=>BJ x.1 x.2
def lu(A:d1v):d1B:=some (o9 A)
def c3e:FQ:=⟨[uD y43],tR 2 G5,mE 5 [],F6⟩
def b5y:FSpec:=X7 c3e λx=>lu x
def dC(A:d1v)(B:Int)(C:Int):d1A:=o5 (F9 A B) λx=>o5 (F9 A C) λb=>some (D9 x b)
def c6d:FQ:=⟨[uD y43,G5,G5],tR 6 dR,mE 16 [],F6⟩
def b8o:FSpec:=X7 c6d λx=>dC x.1 x.2.1 x.2.2
def eQ(A:d1v)(B:Int)(C:Int):Option d1v:=o5 (F9 A C) λx=>o5 (U0 A (U9 C)) λx=>o5 (F9 A B) λc=>o5 (U0 A (U9 B)) λb=>o5 (F9 A B) λd=>o5 (U0 A (U9 B)) λf=>o5 (F9 (bi A (U9 B) x) C) λg=>o5 (U0 (bi A (U9 B) x) (U9 C)) λi=>some (bi (bi A (U9 B) x) (U9 C) b)
def c6f:FQ:=⟨[(false,(.ownb (.int .i64))),G5,G5],⟨[],[(0,jR)]⟩,⟨20,eqs,tt,gl,[],[],[],[],[0],[]⟩,F6⟩
def b5O:FSpec:=X7 c6f λx=>eQ x.1 x.2.1 x.2.2
def xf(A:d1v)(B:Int):Option d1v:=o5 (Y9 (λ(x:d1v×Int)=>l7 (x8 (dD .i64 (I7 .i64 x.2 1) 2) x.2) (some (.inr x.1)) (o5 (dC x.1 x.2 (dD .i64 (I7 .i64 x.2 1) 2)) λb=>l7 (D7 b) (some (.inr x.1)) (o5 (eQ x.1 (dD .i64 (I7 .i64 x.2 1) 2) x.2) λc=>some (.inl (c,dD .i64 (I7 .i64 x.2 1) 2))))) (A,B)) λy=>some y
def b1S:FQ:=⟨[(false,(.ifc 239 (.box oiM))),G5],⟨[],[(0,(true,oiM))]⟩,⟨23,eqs,tt,gl,[(382,b8o),(385,b5O)],[],[],[((239,"Less"),382,some 240),((239,"Swap"),385,some 240)],[0],[]⟩,dn (.loop [(0,2),(4,23),(1000000,1000002)] ⟨[(0,(false,(.ifc 239 (.box oiM)))),(1,G5)],[]⟩ 0 ⟨[(0,(false,(.ifc 239 (.box oiM))))],[]⟩ F6)⟩
def b2H:FSpec:=X7 b1S λx=>xf x.1 x.2
def gJ(A:d1v)(B:Int):Option d1v:=o5 (BJ A B) λx=>o5 (lu x) λb=>o5 (xf x (I7 .i64 b 1)) λx=>some x
def b1Q:FQ:=⟨[(false,(.ifc 239 (.box oiM))),(false,(.ifc 3 diM))],⟨[],[(0,(true,oiM))]⟩,⟨12,eqs,tt,gl,[(384,b2P),(181,b5y),(211,b2H)],[],[],[((239,"Len"),181,some 240),((239,"Push"),384,none)],[0],[]⟩,F6⟩
def b2E:FSpec:=X7 b1Q λx=>gJ x.1 x.2
def uo(A:d1v)(B:Int)(C:Int):Option (Bool×d1v):=o5 (Y9 (λ(x:d1v×Int)=>l7 (J5 C (x9 .i64 (X9 .i64 2 x.2) 1)) (some (.inr x)) (l7 (D9 (x9 .i64 (X9 .i64 2 x.2) 1) 0) (some (.inr x)) (l7 (D9 (x9 .i64 (x9 .i64 (X9 .i64 2 x.2) 1) 1) C) (o5 (dC x.1 (x9 .i64 (x9 .i64 (X9 .i64 2 x.2) 1) 1) (x9 .i64 (X9 .i64 2 x.2) 1)) λc=>l7 c (o5 (dC x.1 (x9 .i64 (x9 .i64 (X9 .i64 2 x.2) 1) 1) x.2) λb=>l7 (D7 b) (some (.inr x)) (o5 (eQ x.1 x.2 (x9 .i64 (x9 .i64 (X9 .i64 2 x.2) 1) 1)) λd=>some (.inl (d,x9 .i64 (x9 .i64 (X9 .i64 2 x.2) 1) 1)))) (o5 (dC x.1 (x9 .i64 (X9 .i64 2 x.2) 1) x.2) λb=>l7 (D7 b) (some (.inr x)) (o5 (eQ x.1 x.2 (x9 .i64 (X9 .i64 2 x.2) 1)) λd=>some (.inl (d,x9 .i64 (X9 .i64 2 x.2) 1))))) (o5 (dC x.1 (x9 .i64 (X9 .i64 2 x.2) 1) x.2) λc=>l7 (D7 c) (some (.inr x)) (o5 (eQ x.1 x.2 (x9 .i64 (X9 .i64 2 x.2) 1)) λb=>some (.inl (b,x9 .i64 (X9 .i64 2 x.2) 1))))))) (A,B)) λy=>some (D9 B y.2,y.1)
def b1T:FQ:=⟨[(false,(.ifc 239 (.box oiM))),G5,G5],⟨[(.tmp 6,dR)],[(0,(true,oiM))]⟩,⟨48,eqs,tt,gl,[(382,b8o),(385,b5O)],[],[],[((239,"Less"),382,some 240),((239,"Swap"),385,some 240)],[0],[]⟩,sN 2 (Y2 (dn (.loop [(0,1),(7,11),(12,45),(1000000,1000002)] ⟨[(0,(false,(.ifc 239 (.box oiM)))),(7,G5)],[]⟩ 0 ⟨[(0,(false,(.ifc 239 (.box oiM)))),(7,G5)],[]⟩ F6)) F6)⟩
def b2I:FSpec:=X7 b1T λx=>uo x.1 x.2.1 x.2.2
def Dw(A:d1v):Option (Int×d1v):=o5 (F9 A (I7 .i64 (o9 A) 1)) λx=>o5 (U0 A (U9 (I7 .i64 (o9 A) 1))) λx=>l7 (qQ 0 (I7 .i64 (o9 A) 1) (o9 A)) (some (x,oD A (U9 0) (U9 (I7 .i64 (o9 A) 1)))) none
def c6e:FQ:=⟨[(false,(.box oiM))],⟨[(.tmp 2,(false,(.ifc 3 diM)))],[(0,(true,oiM))]⟩,⟨23,eqs,tt,gl,[],[],[],[],[0],[]⟩,F6⟩
def c8Z:FSpec:=X7 c6e λx=>Dw x
def qA(A:d1v):Option (Int×d1v):=o5 (lu A) λx=>o5 (eQ A 0 (I7 .i64 x 1)) λb=>o5 (uo b 0 (I7 .i64 x 1)) λx=>o5 (Dw x.2) λx=>some x
def b1R:FQ:=⟨[(false,(.ifc 239 (.box oiM)))],⟨[(.tmp 2,(false,(.ifc 3 diM)))],[(0,(true,oiM))]⟩,⟨15,eqs,tt,gl,[(181,b5y),(385,b5O),(212,b2I),(383,c8Z)],[],[],[((239,"Len"),181,some 240),((239,"Pop"),383,none),((239,"Swap"),385,some 240)],[0],[]⟩,F6⟩
def b2F:FSpec:=X7 b1R λx=>qA x
def rZ(A:D6):Option (d1v×Int):=o5 (uF A) λx=>o5 (qL (o9 x) []) λk=>o5 (qL (o9 x) 0) λq=>o5 (Y9 (λ(b:List d1v×d1v×d1v×Int)=>l7 (D9 b.2.2.2 (o9 x)) (o5 (F9 x b.2.2.2) λx=>o5 (F9 b.2.1 b.2.2.2) λg=>o5 (U0 b.2.1 (U9 b.2.2.2)) λi=>o5 (Y9 (λ(c:List d1v×Int)=>l7 (D9 c.2 (o9 x)) (o5 (F9 x c.2) λx=>l7 (inb x (o9 c.1)) (o5 (U0 c.1 (U9 x)) λd=>o5 (dG d [b.2.2.2]) λj=>l7 (inb x (o9 c.1)) (l7 (QF (U9 x) (U9 x)) (o5 (U0 c.1 (U9 x)) λf=>some (.inl (bi c.1 (U9 x) j,x9 .i64 c.2 1))) none) none) none) (some (.inr c.1))) (b.1,0)) λy=>l7 (x8 (o9 x) 0) (o5 (gJ b.2.2.1 b.2.2.2) λc=>some (.inl (y,bi b.2.1 (U9 b.2.2.2) (o9 x),c,x9 .i64 b.2.2.2 1))) (some (.inl (y,bi b.2.1 (U9 b.2.2.2) (o9 x),b.2.2.1,x9 .i64 b.2.2.2 1)))) (some (.inr (b.1,b.2.1,b.2.2.1)))) (k,q,[],0)) λy=>o5 (Y9 (λ(x:List d1v×kM)=>o5 (lu x.2.2.1) λb=>l7 (D9 0 b) (o5 (qA x.2.2.1) λg=>o5 (dG x.2.2.2 [g.1]) λi=>o5 (F9 x.1 g.1) λc=>o5 (Y9 (λ(x:d1v×d1v×Int)=>l7 (D9 x.2.2 (o9 c)) (o5 (F9 c x.2.2) λd=>o5 (F9 x.1 d) λj=>o5 (U0 x.1 (U9 d)) λf=>o5 (F9 x.1 d) λt=>o5 (U0 x.1 (U9 d)) λu=>o5 (F9 (bi x.1 (U9 d) (I7 .i64 f 1)) d) λv=>o5 (U0 (bi x.1 (U9 d) (I7 .i64 f 1)) (U9 d)) λn=>l7 (x8 n 0) (o5 (gJ x.2.1 d) λp=>some (.inl (bi x.1 (U9 d) (I7 .i64 f 1),p,x9 .i64 x.2.2 1))) (some (.inl (bi x.1 (U9 d) (I7 .i64 f 1),x.2.1,x9 .i64 x.2.2 1)))) (some (.inr (x.1,x.2.1)))) (x.2.1,g.2,0)) λy=>some (.inl (x.1,y.1,y.2,i))) (some (.inr x.2.2.2))) (y.1,y.2.1,y.2.2,[])) λy=>l7 (D9 (o9 y) (o9 x)) (some ([],9)) (some (y,0))
def c2P:FQ:=⟨[tD y24],⟨[(.tmp 2,jR),(.tmp 3,G5)],[]⟩,⟨113,eqs,tt,gl,[(68,s68),(180,b2E),(181,b5y),(182,b2F)],[(138,oiM)],[12,50,77,80],[],[],[]⟩,sN 5 (Y2 (sN 1 (dn (.loop [(5,10),(11,12),(29,65),(10001344,10001345),(13001536,13001537),(16001600,16001601),(16001664,16001665)] ⟨[(5,(false,(.owns oiM))),(6,jR),(7,(false,(.box oiM))),(29,G5)],[]⟩ 0 ⟨[(5,(false,(.owns oiM))),(6,jR),(7,(false,(.box oiM)))],[]⟩ (sN 2 (Y2 (dn (sN 2 (Y2 (sN 1 (dn (.loop [(5,6),(11,12),(41,56),(23000000,23000001)] ⟨[(5,(false,(.owns oiM))),(41,G5)],[]⟩ 2 ⟨[(5,(false,(.owns oiM)))],[]⟩ F6))) F6))) F6))))) (sN 1 (Y2 (dn (.loop [(5,8),(12,15),(16,17),(65,107),(24000000,24000004)] ⟨[(5,(uD y57)),(6,jR),(7,(false,(.box oiM))),(12,jR)],[]⟩ 4 ⟨[(12,jR)],[]⟩ (sN 1 (dn (sN 3 (dn (.loop [(6,8),(16,17),(86,107),(79000000,79000002),(91004672,91004673)] ⟨[(6,jR),(7,(false,(.box oiM))),(86,G5)],[]⟩ 6 ⟨[(6,jR),(7,(false,(.box oiM)))],[]⟩ F6))))))) F6)))⟩
def c6W:FSpec:=X7 c2P λx=>rZ x
def nG(A:I9)(B:Int):d1A:=o5 (rM A) λx=>l7 x (l7 (J5 A.1 B) (some (D9 B A.2)) (some false)) (some false)
def c3v:FQ:=⟨[tD y2,G5],tR 4 dR,mE 19 [(102,b5x)],F6⟩
def b5A:FSpec:=X7 c3v λx=>nG x.1 x.2
def vM(A:ak)(B:Int)(C:Int):d1A:=l7 (x8 A.2.1 B) (o5 (nG A.2.2.2.2.1 C) λx=>some x) (some false)
def b1V:FQ:=⟨[tD y19,(false,(.rp (.int .i64))),(false,(.rp (.int .i64)))],tR 4 dR,mE 15 [(215,b5A)],F6⟩
def a5w:FSpec:=X7 b1V λx=>vM x.1 x.2.1 x.2.2
def uu(A:List ak)(B:I9):Option (d1v×d1v):=o5 (qL (o9 A) 0) λx=>o5 (Y9 (λ(x:d1v×d1v×d1v×Int)=>l7 (D9 x.2.2.2 (o9 A)) (o5 (F9 A x.2.2.2) λc=>o5 (l7 (J5 0 c.2.2.1) (l7 (D9 c.2.2.1 x.2.2.2) (o5 (F9 x.2.2.1 c.2.2.1) λb=>o5 (U0 x.2.2.1 (U9 c.2.2.1)) λx=>some x) (some (-1))) (some (-1))) λb=>o5 (F9 x.2.2.1 x.2.2.2) λi=>o5 (U0 x.2.2.1 (U9 x.2.2.2)) λj=>o5 (vM c B.1 B.2) λd=>l7 d (o5 (F9 (bi x.2.2.1 (U9 x.2.2.2) b) x.2.2.2) λk=>o5 (U0 (bi x.2.2.1 (U9 x.2.2.2) b) (U9 x.2.2.2)) λn=>o5 (dG x.1 [x.2.2.2]) λf=>o5 (dG x.2.1 [b]) λg=>some (.inl (f,g,bi (bi x.2.2.1 (U9 x.2.2.2) b) (U9 x.2.2.2) (o9 x.1),x9 .i64 x.2.2.2 1))) (some (.inl (x.1,x.2.1,bi x.2.2.1 (U9 x.2.2.2) b,x9 .i64 x.2.2.2 1)))) (some (.inr (x.1,x.2.1)))) ([],[],x,0)) λy=>some y
def b1U:FQ:=⟨[uD y20,(false,(.fn 214 [(.int .i64),(.int .i64)]))],⟨[(.tmp 4,jR),(.tmp 5,jR)],[]⟩,mE 59 [(214,a5w)],sN 3 (Y2 (sN 1 (dn (.loop [(6,12),(17,57),(10000896,10000897)] ⟨[(6,jR),(7,jR),(8,jR),(17,G5)],[]⟩ 0 ⟨[(6,jR),(7,jR)],[]⟩ (sN 2 (Y2 (dn (sN 2 (Y2 (.join [(11,12),(22,36)] ⟨[(11,G5)],[]⟩ F6) F6))) F6))))) F6)⟩
def b2J:FSpec:=X7 b1U λx=>uu x.1 x.2
def yD(A:D6)(B:Int)(C:Int):Option kM:=o5 (uu A.2.2.2.2 (B,C)) λx=>o5 (Y9 (λ(b:d1v×Int)=>l7 (D9 b.2 (o9 x.1)) (o5 (F9 x.1 b.2) λc=>o5 (U0 x.1 (U9 b.2)) λx=>o5 (F9 A.2.2.2.2 x) λx=>o5 (dG b.1 [x.2.2.2.1]) λx=>some (.inl (x,x9 .i64 b.2 1))) (some (.inr b.1))) ([],0)) λy=>some (x.1,x.2,y)
def c3f:FQ:=⟨[tD y24,G5,G5],⟨[(.tmp 6,jR),(.tmp 7,jR),(.tmp 8,jR)],[]⟩,mE 40 [(214,a5w),(213,b2J)],sN 3 (Y2 (sN 1 (dn (.loop [(11,12),(13,14),(23,37)] ⟨[(11,jR),(23,G5)],[]⟩ 0 ⟨[(11,jR)],[]⟩ F6))) F6)⟩
def c7i:FSpec:=X7 c3f λx=>yD x.1 x.2.1 x.2.2
def Nh(A:List I9):Option (d1v×Int):=o5 (xM A) λx=>some (x.1,x.2.2)
def c3h:FQ:=⟨[uD y12],⟨[(.tmp 2,jR),(.tmp 3,G5)],[]⟩,mE 15 [(207,b7N)],F6⟩
def c7k:FSpec:=X7 c3h λx=>Nh x
def lw(A:au)(B:Int):Option d1v:=o5 (F9 A.1 B) λx=>o5 (pq x.1) λx=>o5 (qL x 0) λx=>o5 (Y9 (λ(x:d1v×I9)=>l7 (J5 0 x.2.2) (o5 (F9 x.1 x.2.2) λc=>o5 (U0 x.1 (U9 x.2.2)) λd=>o5 (F9 A.2.1 x.2.1) λb=>some (.inl (bi x.1 (U9 x.2.2) x.2.1,I7 .i64 b 1,I7 .i64 x.2.2 1))) (some (.inr x.1))) (x,I7 .i64 B 1,I7 .i64 (o9 x) 1)) λy=>some y
def c3z:FQ:=⟨[tD y71,G5],tR 4 jR,mE 36 [(209,a9j)],sN 3 (Y2 (sN 1 (dn (.loop [(5,8),(21,35),(7000960,7000961)] ⟨[(5,jR),(6,G5),(7,G5)],[]⟩ 0 ⟨[(5,jR)],[]⟩ F6))) F6)⟩
def c7v:FSpec:=X7 c3z λx=>lw x.1 x.2
def gQ(A:J4):d1A:=o5 (l7 (D7 (x8 A.1 6)) (l7 (D7 (x8 A.2.1 0)) (some (.inr false)) (some (.inl ()))) (some (.inl ()))) λo=>U6 o (λx=>l7 (x8 A.1 1) (l7 (x8 A.2.2 0) (some true) (some (x8 A.2.2 1))) (l7 (x8 A.1 2) (l7 (J5 (-1000000000000) A.2.2) (some (J5 A.2.2 1000000000000)) (some false)) (l7 (x8 A.1 3) (l7 (J5 (-1000000000000000) A.2.2) (some (J5 A.2.2 1000000000000000)) (some false)) (l7 (x8 A.1 4) (l7 (J5 (-1000000000) A.2.2) (some (J5 A.2.2 1000000000)) (some false)) (l7 (x8 A.1 5) (l7 (J5 0 A.2.2) (some (J5 A.2.2 109572)) (some false)) (l7 (x8 A.1 6) (l7 (J5 0 A.2.1) (l7 (D9 A.2.1 8) (l7 (J5 0 A.2.2) (some (D9 A.2.2 16)) (some false)) (some false)) (some false)) (some false))))))) λr=>some r
def c4c:FQ:=⟨[tD y3],tR 2 dR,mE 83 [],sN 1 (Y2 (jnR [(2,11)] nX F6) F6)⟩
def a5x:FSpec:=X7 c4c λx=>gQ x
def rO(A:I9):d1A:=o5 (o5 (pq A.1) λx=>l7 (D9 x 0) (some (.inr false)) (l7 (D7 (x8 A.2 0)) (o5 (kZ A.1) λx=>l7 (D7 x) (some (.inr false)) (some (.inl ()))) (some (.inl ())))) λo=>U6 o (λx=>o5 (l7 (x8 A.1 14) (some (x8 A.1 14)) (l7 (x8 A.1 15) (some (x8 A.1 15)) (some (x8 A.1 16)))) λx=>l7 x (l7 (J5 0 A.2) (some (J5 A.2 5)) (some false)) (l7 (x8 A.1 34) (l7 (J5 0 A.2) (some (J5 (dM A.2 8) 5)) (some false)) (l7 (x8 A.1 6) (some (J5 0 A.2)) (some true)))) λr=>some r
def c3X:FQ:=⟨[tD y2],tR 2 dR,mE 48 [(209,a9j),(208,b7O)],sN 1 (Y2 (jnR [(2,18)] nX F6) (Y2 (sN 1 (dn (Y2 (.join [(20,24)] ⟨[(20,dR)],[]⟩ F6) F6))) F6))⟩
def c7P:FSpec:=X7 c3X λx=>rO x
def jm(A:I9)(B:bn):d1A:=l7 (x8 A.1 7) (l7 (J5 0 A.2) (some (D9 A.2 (o9 B.2.1))) (some false)) (l7 (x8 A.1 8) (l7 (J5 0 A.2) (l7 (D9 A.2 (o9 B.2.2.1)) (o5 (F9 B.2.2.1 A.2) λx=>some (D7 (x8 x.1 0))) (some false)) (some false)) (l7 (x8 A.1 33) (l7 (J5 0 A.2) (some (D9 A.2 (o9 B.2.2.2.2.2))) (some false)) (l7 (x8 A.1 34) (some (D9 (dD .i64 A.2 8) (o9 B.2.2.2.2.2))) (o5 (l7 (x8 A.1 36) (some (x8 A.1 36)) (l7 (x8 A.1 37) (some (x8 A.1 37)) (l7 (x8 A.1 38) (some (x8 A.1 38)) (some (x8 A.1 39))))) λx=>l7 x (l7 (J5 0 A.2) (some (D9 A.2 (o9 B.2.2.2.2.1))) (some false)) (some true)))))
def c3Y:FQ:=⟨[tD y2,tD y55],tR 4 dR,mE 81 [],sN 1 (Y2 (sN 1 (dn (sN 1 (.cond F6 (sN 1 (.cond F6 (sN 1 (.cond F6 (sN 1 (.cond F6 (Y2 (.join [(65,70)] ⟨[(65,dR)],[]⟩ F6) F6))))))))))) F6)⟩
def c7Q:FSpec:=X7 c3Y λx=>jm x.1 x.2
def xh(A:List J4):d1A:=o5 (U1 (λ(x:Int)=>l7 (D9 x (o9 A)) (o5 (F9 A x) λb=>o5 (gQ b) λc=>l7 (D7 c) (some (.rt false)) (some (.nx (x9 .i64 x 1)))) (some (.ex ()))) 0) λo=>U6 o (λy=>some true) λr=>some r
def c3Z:FQ:=⟨[uD y29],tR 2 dR,mE 15 [(256,a5x)],sN 1 (Y2 (sN 1 (dn (lpR [(2,3),(4,5),(7,15)] ⟨[(7,G5)],[]⟩ 0 nX F6))) F6)⟩
def c7R:FSpec:=X7 c3Z λx=>xh x
def BN(A:J4)(B:I9):d1A:=o5 (gQ A) λx=>l7 x (l7 (x8 A.1 B.1) (some (x8 A.2.1 B.2)) (some false)) (some false)
def c4t:FQ:=⟨[tD y3,tD y2],tR 4 dR,mE 21 [(256,a5x)],F6⟩
def b7U:FSpec:=X7 c4t λx=>BN x.1 x.2
def tY(A:Int):d1A:=l7 (x8 A 2) (some true) (l7 (x8 A 3) (some true) (some (x8 A 4)))
def c4W:FQ:=⟨[G5],tR 2 dR,mE 13 [],F6⟩
def b5E:FSpec:=X7 c4W λx=>tY x
def vN(A:Int)(B:I9):d1A:=l7 (D7 (x8 B.2 0)) (some false) (l7 (x8 A 36) (l7 (x8 B.1 2) (some true) (some (x8 B.1 3))) (l7 (x8 A 39) (o5 (tY B.1) λx=>l7 x (some true) (some (x8 B.1 5))) (some (x8 B.1 1))))
def c4u:FQ:=⟨[G5,tD y2],tR 4 dR,mE 32 [(308,b5E)],F6⟩
def c8e:FSpec:=X7 c4u λx=>vN x.1 x.2
def sD(A:Int)(B:Int):d1A:=l7 (x8 A 10) (o5 (tY B) λx=>some x) (l7 (x8 A 25) (some (x8 B 1)) (some (x8 B 5)))
def c4v:FQ:=⟨[G5,G5],tR 4 dR,mE 16 [(308,b5E)],F6⟩
def c8f:FSpec:=X7 c4v λx=>sD x.1 x.2
def tZ(A:J4)(B:J4):d1A:=l7 (x8 A.1 B.1) (some (x8 A.2.1 B.2.1)) (some false)
def c4x:FQ:=⟨[tD y3,tD y3],tR 4 dR,mE 17 [],F6⟩
def b7V:FSpec:=X7 c4x λx=>tZ x.1 x.2
def aV(A:Int)(B:J4)(C:J4):d1A:=o5 (o5 (l7 (x8 A 11) (some (x8 A 11)) (some (x8 A 12))) λx=>l7 x (o5 (tZ B C) λx=>l7 x (o5 (tY B.1) λx=>some (.inr x)) (some (.inr false))) (l7 (x8 A 13) (l7 (x8 C.1 2) (l7 (x8 B.1 2) (some (.inr true)) (some (.inr (x8 B.1 3)))) (some (.inr false))) (l7 (x8 A 14) (l7 (x8 C.1 4) (l7 (x8 B.1 3) (some (.inr true)) (some (.inr (x8 B.1 4)))) (some (.inr false))) (l7 (x8 A 15) (l7 (x8 C.1 2) (l7 (x8 B.1 2) (some (.inr true)) (some (.inr (x8 B.1 3)))) (l7 (x8 B.1 3) (some (.inr (x8 C.1 3))) (some (.inr false)))) (l7 (x8 A 16) (l7 (x8 B.1 3) (some (.inr (x8 C.1 3))) (some (.inr false))) (o5 (l7 (x8 A 17) (some (x8 A 17)) (l7 (x8 A 18) (some (x8 A 18)) (l7 (x8 A 21) (some (x8 A 21)) (some (x8 A 22))))) λx=>l7 x (o5 (tZ B C) λx=>l7 x (o5 (tY B.1) λx=>l7 x (some (.inr true)) (some (.inr (x8 B.1 5)))) (some (.inr false))) (o5 (l7 (x8 A 19) (some (x8 A 19)) (some (x8 A 20))) λx=>l7 x (o5 (tZ B C) λx=>some (.inr x)) (l7 (x8 A 23) (l7 (x8 A 23) (l7 (x8 B.1 1) (some (.inr (x8 C.1 1))) (some (.inr false))) (l7 (x8 A 27) (l7 (x8 A 27) (l7 (x8 B.1 5) (some (.inr (x8 C.1 2))) (some (.inr false))) (some (.inl ()))) (l7 (x8 A 28) (l7 (x8 B.1 5) (some (.inr (x8 C.1 2))) (some (.inr false))) (some (.inl ()))))) (l7 (x8 A 24) (l7 (x8 B.1 1) (some (.inr (x8 C.1 1))) (some (.inr false))) (l7 (x8 A 27) (l7 (x8 A 27) (l7 (x8 B.1 5) (some (.inr (x8 C.1 2))) (some (.inr false))) (some (.inl ()))) (l7 (x8 A 28) (l7 (x8 B.1 5) (some (.inr (x8 C.1 2))) (some (.inr false))) (some (.inl ()))))))))))))) λo=>U6 o (λx=>l7 (x8 B.1 5) (some (x8 C.1 5)) (some false)) λr=>some r
def c4w:FQ:=⟨[G5,tD y3,tD y3],tR 6 dR,mE 134 [(284,b7V),(308,b5E)],sN 1 (Y2 (jnR [(6,126)] nX (sN 1 (dn (Y2 (.join [(8,11)] ⟨[(8,dR)],[]⟩ F6) (.cond F6 (sN 1 (.cond F6 (sN 1 (.cond F6 (sN 1 (.cond F6 (sN 1 (.cond F6 (Y2 (.join [(80,85)] ⟨[(80,dR)],[]⟩ F6) (.cond F6 (Y2 (.join [(98,101)] ⟨[(98,dR)],[]⟩ F6) F6)))))))))))))))) F6)⟩
def c8g:FSpec:=X7 c4w λx=>aV x.1 x.2.1 x.2.2
def Z9(A:I9)(B:List J4)(C:bn):d1A:=o5 (l7 (x8 A.1 7) (o5 (F9 C.2.1 A.2) λx=>o5 (gQ x) λx=>some (.inr x)) (l7 (x8 A.1 8) (o5 (F9 C.2.2.1 A.2) λx=>o5 (gQ x) λx=>some (.inr x)) (l7 (x8 A.1 33) (o5 (F9 C.2.2.2.2.2 A.2) λx=>o5 (F9 B 0) λb=>o5 (BN b x.2.1) λc=>l7 c (l7 (J5 1 x.2.2.1.1) (some (.inr (J5 x.2.2.1.1 6))) (some (.inr false))) (some (.inr false))) (l7 (x8 A.1 34) (o5 (F9 C.2.2.2.2.2 (dD .i64 A.2 8)) λx=>o5 (F9 B 0) λb=>l7 (x8 b.1 3) (l7 (aj (x8 x.2.1.1 3) (x8 x.2.1.2 0)) (some (.inr (aj (x8 x.2.2.1.1 4) (x8 x.2.2.1.2 0)))) (some (.inr false))) (some (.inr false))) (o5 (l7 (x8 A.1 36) (some (x8 A.1 36)) (l7 (x8 A.1 37) (some (x8 A.1 37)) (l7 (x8 A.1 38) (some (x8 A.1 38)) (some (x8 A.1 39))))) λx=>l7 x (o5 (F9 C.2.2.2.2.1 A.2) λx=>o5 (vN A.1 x) λx=>some (.inr x)) (some (.inl ()))))))) λo=>U6 o (λx=>l7 (x8 (o9 B) 1) (o5 (F9 B 0) λx=>o5 (sD A.1 x.1) λx=>some x) (l7 (x8 (o9 B) 2) (o5 (F9 B 0) λx=>o5 (F9 B 1) λb=>o5 (aV A.1 x b) λx=>some x) (l7 (x8 (o9 B) 3) (o5 (F9 B 0) λx=>l7 (x8 x.1 1) (o5 (F9 B 1) λx=>o5 (F9 B 2) λb=>o5 (tZ x b) λx=>some x) (some false)) (some true)))) λr=>some r
def c4a:FQ:=⟨[tD y2,uD y29,tD y55],tR 6 dR,mE 133 [(256,a5x),(280,b7U),(281,c8e),(282,c8f),(283,c8g),(284,b7V)],sN 1 (Y2 (jnR [(6,95)] nX (sN 1 (dn (sN 1 (.cond F6 (sN 1 (.cond F6 (sN 1 (.cond F6 (sN 1 (.cond F6 (Y2 (.join [(81,86)] ⟨[(81,dR)],[]⟩ F6) F6)))))))))))) F6)⟩
def c7S:FSpec:=X7 c4a λx=>Z9 x.1 x.2.1 x.2.2
def uG(A:I9)(B:bn):Option (J4×Int):=o5 (F9 B.2.2.2.2.1 A.2) λx=>o5 (l7 (x8 A.1 37) (some (x.1,x.2,1)) (some (x.1,x.2,0))) λg=>o5 (l7 (x8 A.1 39) (l7 (x8 (o9 B.2.2.2.1) 0) (some (.inr ((0,0,0),6))) (some (.inl (0,0,0)))) (some (.inl (0,0,0)))) λo=>U6 o (λ(i:J4)=>o5 (U1 (λ(b:J4×J4×Int)=>l7 (D9 b.2.2 (o9 B.2.2.2.1)) (o5 (F9 B.2.2.2.1 b.2.2) λf=>o5 (l7 (J5 (o9 f) A.2) (some (.inr ((0,0,0),6))) (o5 (F9 f A.2) λx=>l7 (x8 x.1 0) (some (.inr ((0,0,0),6))) (some (.inl b.1)))) λo=>U6 o (λ(d:J4)=>o5 (F9 f A.2) λc=>o5 (BN c x) λx=>l7 (D7 x) (some (.rt ((0,0,0),8))) (l7 (x8 A.1 36) (o5 (gQ (b.2.1.1,b.2.1.2.1,x9 .i64 b.2.1.2.2 c.2.2)) λx=>l7 (D7 x) (some (.rt ((0,0,0),3))) (some (.nx (d,(b.2.1.1,b.2.1.2.1,x9 .i64 b.2.1.2.2 c.2.2),x9 .i64 b.2.2 1)))) (l7 (x8 A.1 37) (some (.nx (d,(b.2.1.1,b.2.1.2.1,pM b.2.1.2.2 c.2.2),x9 .i64 b.2.2 1))) (l7 (x8 A.1 38) (some (.nx (d,(b.2.1.1,b.2.1.2.1,nR b.2.1.2.2 c.2.2),x9 .i64 b.2.2 1))) (l7 (x8 A.1 39) (l7 (x8 b.2.2 0) (some (.nx (d,c,x9 .i64 b.2.2 1))) (l7 (D9 b.2.1.2.2 c.2.2) (some (.nx (d,c,x9 .i64 b.2.2 1))) (some (.nx (d,b.2.1,x9 .i64 b.2.2 1))))) (some (.nx (d,b.2.1,x9 .i64 b.2.2 1)))))))) λr=>some (.rt r)) (some (.ex (b.1,b.2.1)))) (i,g,0)) λo=>U6 o (λ(y:J4×J4)=>some (y.2,0)) λr=>some r) λr=>some r
def c4y:FQ:=⟨[tD y2,tD y55],⟨[(.cell 4 36,tD y3),(.tmp 5,G5)],[]⟩,mE 113 [(280,b7U),(256,a5x)],sN 3 (Y2 (.join [(7,8),(22,26),(10000448,10000449)] ⟨[(7,(false,(.box (dT y3))))],[]⟩ F6) (Y2 (jnR [(4,6),(26,36),(4000256,4000257)] ⟨[(4,(false,(.box (dT y3))))],[]⟩ F6) (Y2 (sN 1 (dn (lpR [(4,6),(7,11),(39,112),(12000000,12000001),(20000000,20000001)] ⟨[(4,(false,(.box (dT y3)))),(7,(false,(.box (dT y3)))),(39,G5)],[]⟩ 0 ⟨[(4,(false,(.box (dT y3)))),(7,(false,(.box (dT y3))))],[]⟩ (sN 2 (Y2 (dn (sN 1 (Y2 (jnR [(4,6),(44,59),(35000000,35000001)] ⟨[(4,(false,(.box (dT y3))))],[]⟩ F6) F6))) F6))))) F6)))⟩
def c8h:FSpec:=X7 c4y λx=>uG x.1 x.2
def Ic(A:ww)(B:Int)(C:Int):d1A:=o5 (nG A.1 B) λx=>l7 x (l7 (J5 A.2.1 C) (some (D9 C A.2.2.1)) (some false)) (some false)
def b1W:FQ:=⟨[tD y4,(false,(.rp (.int .i64))),(false,(.rp (.int .i64)))],tR 4 dR,mE 21 [(215,b5A)],F6⟩
def a5z:FSpec:=X7 b1W λx=>Ic x.1 x.2.1 x.2.2
def wo(A:List ww)(B:I9):Option (Int×Bool):=o5 (U1 (λ(x:Int)=>l7 (D9 x (o9 A)) (o5 (F9 A x) λb=>o5 (Ic b B.1 B.2) λc=>l7 c (some (.rt (x,true))) (some (.nx (x9 .i64 x 1)))) (some (.ex ()))) 0) λo=>U6 o (λy=>some (0,false)) λr=>some r
def b1z:FQ:=⟨[uD y5,(false,(.fn 309 [(.int .i64),(.int .i64)]))],⟨[(.tmp 4,G5),(.tmp 5,dR)],[]⟩,mE 20 [(309,a5z)],sN 1 (Y2 (sN 1 (dn (lpR [(4,8),(10,20)] ⟨[(10,G5)],[]⟩ 0 nX F6))) F6)⟩
def b2s:FSpec:=X7 b1z λx=>wo x.1 x.2
def Gh(A:bJ)(B:Int)(C:Int):Option (Int×Bool):=o5 (wo A.2.2.2 (B,C)) λx=>some x
def c4z:FQ:=⟨[tD y8,G5,G5],⟨[(.tmp 6,G5),(.tmp 7,dR)],[]⟩,mE 14 [(309,a5z),(103,b2s)],F6⟩
def c8i:FSpec:=X7 c4z λx=>Gh x.1 x.2.1 x.2.2
def c1P:List MG:=[(false,(.dat (.int .u64))),(false,(.dat (.int .u64)))]
def b2M:FSpec:=⟨c1P,[(false,(.dat (.int .u64))),(false,(.dat (.int .u64)))],[],λx=>uA x.1 x.2⟩
def Aq(A:Int):d1B:=l7 (J5 4294967296 A) (l7 (J5 65536 (uf .u64 A 32)) (l7 (J5 256 (uf .u64 (uf .u64 A 32) 16)) (o5 (sat LP (wrap .u8 (uf .u64 (uf .u64 (uf .u64 A 32) 16) 8))) λx=>some (x9 .i64 (x9 .i64 (x9 .i64 32 16) 8) (wrap .i64 x))) (o5 (sat LP (wrap .u8 (uf .u64 (uf .u64 A 32) 16))) λx=>some (x9 .i64 (x9 .i64 32 16) (wrap .i64 x)))) (l7 (J5 256 (uf .u64 A 32)) (o5 (sat LP (wrap .u8 (uf .u64 (uf .u64 A 32) 8))) λx=>some (x9 .i64 (x9 .i64 32 8) (wrap .i64 x))) (o5 (sat LP (wrap .u8 (uf .u64 A 32))) λx=>some (x9 .i64 32 (wrap .i64 x))))) (l7 (J5 65536 A) (l7 (J5 256 (uf .u64 A 16)) (o5 (sat LP (wrap .u8 (uf .u64 (uf .u64 A 16) 8))) λx=>some (x9 .i64 (x9 .i64 (x9 .i64 0 16) 8) (wrap .i64 x))) (o5 (sat LP (wrap .u8 (uf .u64 A 16))) λx=>some (x9 .i64 (x9 .i64 0 16) (wrap .i64 x)))) (l7 (J5 256 A) (o5 (sat LP (wrap .u8 (uf .u64 A 8))) λx=>some (x9 .i64 (x9 .i64 0 8) (wrap .i64 x))) (o5 (sat LP (wrap .u8 A)) λx=>some (x9 .i64 0 (wrap .i64 x)))))
def c3i:FQ:=⟨[(false,(dT (.int .u64)))],tR 2 G5,mE 25 [],F6⟩
def c7m:FSpec:=X7 c3i λx=>Aq x
def nT(A:Int):d1B:=o5 (Aq A) λx=>some (I7 .i64 64 x)
def c5Q:FQ:=⟨[(false,(dT (.int .u64)))],tR 2 G5,mE 6 [(197,c7m)],F6⟩
def c8U:FSpec:=X7 c5Q λx=>nT x
def mJ(A:Int)(B:Int)(C:Int):Option I9:=o5 (l7 (x8 C 0) none (some ())) λx=>o5 (l7 (J5 C A) none (some ())) λx=>l7 (x8 A 0) (o5 (pO .u64 B C) λx=>o5 (zn B C) λb=>some (x,b)) (o5 (nT C) λx=>o5 (XI .u64 C (wrap .u64 x)) λb=>o5 (XI .u64 A (wrap .u64 x)) λd=>o5 (XJ .u64 B (I7 .u64 64 (wrap .u64 x))) λf=>o5 (XI .u64 B (wrap .u64 x)) λc=>o5 (pO .u64 (ior .u64 d f) (uf .u64 b 32)) λg=>o5 (Y9 (λ(x:I9)=>l7 (J5 4294967296 x.1) (l7 (J5 4294967296 (x9 .u64 x.2 (uf .u64 b 32))) (some (.inr (I7 .u64 x.1 1))) (some (.inl (I7 .u64 x.1 1,x9 .u64 x.2 (uf .u64 b 32))))) (l7 (D9 (x9 .u64 (X9 .u64 4294967296 x.2) (uf .u64 c 32)) (X9 .u64 x.1 (a2s .u64 b 4294967295))) (l7 (J5 4294967296 (x9 .u64 x.2 (uf .u64 b 32))) (some (.inr (I7 .u64 x.1 1))) (some (.inl (I7 .u64 x.1 1,x9 .u64 x.2 (uf .u64 b 32))))) (some (.inr x.1)))) (g,I7 .u64 (ior .u64 d f) (X9 .u64 g (uf .u64 b 32)))) λy=>o5 (pO .u64 (I7 .u64 (x9 .u64 (X9 .u64 (ior .u64 d f) 4294967296) (uf .u64 c 32)) (X9 .u64 y b)) (uf .u64 b 32)) λi=>o5 (Y9 (λ(x:I9)=>l7 (J5 4294967296 x.2) (l7 (J5 4294967296 (x9 .u64 x.1 (uf .u64 b 32))) (some (.inr (I7 .u64 x.2 1))) (some (.inl (x9 .u64 x.1 (uf .u64 b 32),I7 .u64 x.2 1)))) (l7 (D9 (x9 .u64 (X9 .u64 4294967296 x.1) (a2s .u64 c 4294967295)) (X9 .u64 x.2 (a2s .u64 b 4294967295))) (l7 (J5 4294967296 (x9 .u64 x.1 (uf .u64 b 32))) (some (.inr (I7 .u64 x.2 1))) (some (.inl (x9 .u64 x.1 (uf .u64 b 32),I7 .u64 x.2 1)))) (some (.inr x.2)))) (I7 .u64 (I7 .u64 (x9 .u64 (X9 .u64 (ior .u64 d f) 4294967296) (uf .u64 c 32)) (X9 .u64 y b)) (X9 .u64 i (uf .u64 b 32)),i)) λy_1=>o5 (XJ .u64 (I7 .u64 (x9 .u64 (X9 .u64 (I7 .u64 (x9 .u64 (X9 .u64 (ior .u64 d f) 4294967296) (uf .u64 c 32)) (X9 .u64 y b)) 4294967296) (a2s .u64 c 4294967295)) (X9 .u64 y_1 b)) (wrap .u64 x)) λx=>some (x9 .u64 (X9 .u64 y 4294967296) y_1,x))
def c5u:FQ:=⟨[(false,(dT (.int .u64))),(false,(dT (.int .u64))),(false,(dT (.int .u64)))],⟨[(.tmp 6,(false,(dT (.int .u64)))),(.tmp 7,(false,(dT (.int .u64))))],[]⟩,mE 135 [(354,c8U)],sN 1 (Y2 (.join [(19,22)] nX F6) (Y2 (.join [(22,26)] nX F6) (sN 11 (Y2 (dn (.loop [(15,17),(67,86)] ⟨[(15,(false,(dT (.int .u64)))),(16,(false,(dT (.int .u64))))],[]⟩ 0 ⟨[(15,(false,(dT (.int .u64))))],[]⟩ F6)) (sN 3 (Y2 (dn (.loop [(16,17),(18,19),(102,121)] ⟨[(16,(false,(dT (.int .u64)))),(18,(false,(dT (.int .u64))))],[]⟩ 2 ⟨[(18,(false,(dT (.int .u64))))],[]⟩ F6)) F6))))))⟩
def b5I:FSpec:=X7 c5u λx=>mJ x.1 x.2.1 x.2.2
def vZ(A:Int)(B:Int):Option (Int×Int×Bool):=l7 (D9 B 0) (o5 (uA (wrap .u64 A) (I7 .u64 0 (wrap .u64 B))) λx=>l7 (J5 1000000 x.1) (some (0,0,false)) (o5 (mJ x.1 x.2 1000000) λx=>l7 (D9 1000000000000000 x.1) (some (0,0,false)) (l7 (D9 B 0) (some (I7 .i64 0 (wrap .i64 x.1),I7 .i64 0 (wrap .i64 x.2),true)) (some (wrap .i64 x.1,wrap .i64 x.2,true))))) (o5 (uA (wrap .u64 A) (wrap .u64 B)) λx=>l7 (J5 1000000 x.1) (some (0,0,false)) (o5 (mJ x.1 x.2 1000000) λx=>l7 (D9 1000000000000000 x.1) (some (0,0,false)) (l7 (D9 B 0) (some (I7 .i64 0 (wrap .i64 x.1),I7 .i64 0 (wrap .i64 x.2),true)) (some (wrap .i64 x.1,wrap .i64 x.2,true)))))
def c4X:FQ:=⟨[G5,G5],⟨[(.tmp 4,G5),(.tmp 5,G5),(.tmp 6,dR)],[]⟩,mE 47 [(333,b2M),(334,b5I)],F6⟩
def c8w:FSpec:=X7 c4X λx=>vZ x.1 x.2
def rQ(A:Int):d1A:=l7 (J5 0 A) (some (J5 A 5)) (some false)
def c5R:FQ:=⟨[G5],tR 2 dR,mE 9 [],F6⟩
def b5M:FSpec:=X7 c5R λx=>rQ x
def nU(A:Int)(B:Int):d1A:=l7 (D9 B A) (some true) (some (D9 A (I7 .i64 0 B)))
def c5S:FQ:=⟨[G5,G5],tR 4 dR,mE 14 [],F6⟩
def b5N:FSpec:=X7 c5S λx=>nU x.1 x.2
def mM(A:Int):d1B:=l7 (D9 A 0) (some (I7 .u64 0 (wrap .u64 A))) (some (wrap .u64 A))
def c5T:FQ:=⟨[G5],tR 2 (false,(dT (.int .u64))),mE 10 [],F6⟩
def b8j:FSpec:=X7 c5T λx=>mM x
def oH(A:Int)(B:Int)(C:Int)(D:Bool)(E:Int):d1B:=l7 (x8 B 0) (some A) (l7 (x8 E 0) (l7 D (some (x9 .u64 A 1)) (some A)) (l7 (x8 E 1) (l7 (D7 D) (some (x9 .u64 A 1)) (some A)) (l7 (x8 E 3) (some (x9 .u64 A 1)) (l7 (x8 E 4) (l7 (J5 (I7 .u64 C B) B) (some (x9 .u64 A 1)) (some A)) (l7 (x8 E 5) (l7 (D9 (I7 .u64 C B) B) (some (x9 .u64 A 1)) (l7 (x8 B (I7 .u64 C B)) (l7 (x8 (dM A 2) 1) (some (x9 .u64 A 1)) (some A)) (some A))) (some A))))))
def c5V:FQ:=⟨[(false,(dT (.int .u64))),(false,(dT (.int .u64))),(false,(dT (.int .u64))),dR,G5],tR 10 (false,(dT (.int .u64))),mE 55 [],F6⟩
def b8k:FSpec:=X7 c5V λx=>oH x.1 x.2.1 x.2.2.1 x.2.2.2.1 x.2.2.2.2
def Ci(A:Int)(B:Bool):d1B:=l7 B (some (I7 .i64 0 (wrap .i64 A))) (some (wrap .i64 A))
def c5W:FQ:=⟨[(false,(dT (.int .u64))),dR],tR 4 G5,mE 11 [],F6⟩
def b8l:FSpec:=X7 c5W λx=>Ci x.1 x.2
def jA(A:Int)(B:Int)(C:Int):Option I9:=o5 (rQ C) λx=>l7 (D7 x) (some (0,1)) (l7 (x8 B 0) (some (0,12)) (o5 (nU A 4611686018427387904) λx=>l7 x (some (0,3)) (o5 (nU B 4611686018427387904) λx=>l7 x (some (0,3)) (o5 (mM A) λx=>o5 (mM B) λb=>o5 (pO .u64 x b) λc=>o5 (zn x b) λx=>o5 (oH c x b (D7 (jl (D9 A 0) (D9 B 0))) C) λx=>o5 (Ci x (D7 (jl (D9 A 0) (D9 B 0)))) λx=>some (x,0)))))
def c5v:FQ:=⟨[G5,G5,G5],⟨[(.tmp 6,G5),(.tmp 7,G5)],[]⟩,mE 45 [(355,b5M),(356,b5N),(357,b8j),(358,b8k),(359,b8l)],F6⟩
def b2N:FSpec:=X7 c5v λx=>jA x.1 x.2.1 x.2.2
def Dj(A:Int)(B:Int)(C:Int):Option I9:=l7 (D9 (x9 .i64 A (dD .i64 B 1000000)) (-2000000000000000)) (some (0,3)) (l7 (D9 2000000000000000 (x9 .i64 A (dD .i64 B 1000000))) (some (0,3)) (l7 (D9 1 (x9 .i64 A (dD .i64 B 1000000))) (o5 (jA (x9 .i64 (X9 .i64 (x9 .i64 (dM (x9 .i64 A (dD .i64 B 1000000)) 2) 2) 1000000) (dM B 1000000)) 1000000 C) λx=>l7 (D7 (x8 x.2 0)) (some (0,x.2)) (l7 (D9 (x9 .i64 (I7 .i64 (x9 .i64 A (dD .i64 B 1000000)) (x9 .i64 (dM (x9 .i64 A (dD .i64 B 1000000)) 2) 2)) x.1) (-1000000000000000)) (some (0,3)) (l7 (D9 1000000000000000 (x9 .i64 (I7 .i64 (x9 .i64 A (dD .i64 B 1000000)) (x9 .i64 (dM (x9 .i64 A (dD .i64 B 1000000)) 2) 2)) x.1)) (some (0,3)) (some (x9 .i64 (I7 .i64 (x9 .i64 A (dD .i64 B 1000000)) (x9 .i64 (dM (x9 .i64 A (dD .i64 B 1000000)) 2) 2)) x.1,0))))) (l7 (D9 (x9 .i64 A (dD .i64 B 1000000)) (-1)) (o5 (jA (x9 .i64 (X9 .i64 (I7 .i64 (dM (x9 .i64 A (dD .i64 B 1000000)) 2) 2) 1000000) (dM B 1000000)) 1000000 C) λx=>l7 (D7 (x8 x.2 0)) (some (0,x.2)) (l7 (D9 (x9 .i64 (I7 .i64 (x9 .i64 A (dD .i64 B 1000000)) (I7 .i64 (dM (x9 .i64 A (dD .i64 B 1000000)) 2) 2)) x.1) (-1000000000000000)) (some (0,3)) (l7 (D9 1000000000000000 (x9 .i64 (I7 .i64 (x9 .i64 A (dD .i64 B 1000000)) (I7 .i64 (dM (x9 .i64 A (dD .i64 B 1000000)) 2) 2)) x.1)) (some (0,3)) (some (x9 .i64 (I7 .i64 (x9 .i64 A (dD .i64 B 1000000)) (I7 .i64 (dM (x9 .i64 A (dD .i64 B 1000000)) 2) 2)) x.1,0))))) (o5 (jA (x9 .i64 (X9 .i64 (dM (x9 .i64 A (dD .i64 B 1000000)) 2) 1000000) (dM B 1000000)) 1000000 C) λx=>l7 (D7 (x8 x.2 0)) (some (0,x.2)) (l7 (D9 (x9 .i64 (I7 .i64 (x9 .i64 A (dD .i64 B 1000000)) (dM (x9 .i64 A (dD .i64 B 1000000)) 2)) x.1) (-1000000000000000)) (some (0,3)) (l7 (D9 1000000000000000 (x9 .i64 (I7 .i64 (x9 .i64 A (dD .i64 B 1000000)) (dM (x9 .i64 A (dD .i64 B 1000000)) 2)) x.1)) (some (0,3)) (some (x9 .i64 (I7 .i64 (x9 .i64 A (dD .i64 B 1000000)) (dM (x9 .i64 A (dD .i64 B 1000000)) 2)) x.1,0))))))))
def c4Y:FQ:=⟨[G5,G5,G5],⟨[(.tmp 6,G5),(.tmp 7,G5)],[]⟩,mE 60 [(335,b2N)],F6⟩
def c8x:FSpec:=X7 c4Y λx=>Dj x.1 x.2.1 x.2.2
def Df(A:bJ)(B:Int)(C:Int)(D:Int):Option I9:=o5 (l7 (D9 D 0) (some (.inr (0,1))) (l7 (D9 5 D) (some (.inr (0,1))) (some (.inl ())))) λo=>U6 o (λx=>o5 (l7 (D7 (aj (x8 A.2.1.1 3) (x8 A.2.1.2 0))) (some (.inr (0,8))) (l7 (D7 (aj (x8 A.2.2.1.1 4) (x8 A.2.2.1.2 0))) (some (.inr (0,8))) (some (.inl ())))) λo=>U6 o (λx=>o5 (l7 (D9 C (-1000000000000000)) (some (.inr (0,3))) (l7 (D9 1000000000000000 C) (some (.inr (0,3))) (some (.inl ())))) λo=>U6 o (λx=>o5 (U1 (λ(x:J4)=>l7 (D9 x.2.2 (o9 A.2.2.2)) (o5 (F9 A.2.2.2 x.2.2) λb=>o5 (nG b.1 B) λd=>l7 (D7 d) (some (.nx (x.1,x.2.1,x9 .i64 x.2.2 1))) (l7 (J5 (pM b.2.2.1 C) (nR b.2.1 0)) (some (.nx (x.1,x.2.1,x9 .i64 x.2.2 1))) (o5 (vZ (I7 .i64 (pM b.2.2.1 C) (nR b.2.1 0)) b.2.2.2) λc=>l7 (D7 c.2.2) (some (.rt (0,3))) (some (.nx (x9 .i64 x.1 c.1,x9 .i64 x.2.1 c.2.1,x9 .i64 x.2.2 1)))))) (some (.ex (x.1,x.2.1)))) (0,0,0)) λo=>U6 o (λ(y:I9)=>o5 (Dj y.1 y.2 D) λx=>some x) λr=>some r) λr=>some r) λr=>some r) λr=>some r
def c4A:FQ:=⟨[tD y8,G5,G5,G5],⟨[(.tmp 8,G5),(.tmp 9,G5)],[]⟩,mE 90 [(215,b5A),(310,c8w),(311,c8x)],sN 1 (Y2 (jnR [(8,10),(19,25)] nX F6) (Y2 (jnR [(8,10),(25,35)] nX F6) (Y2 (jnR [(8,10),(35,41)] nX F6) (sN 1 (Y2 (sN 1 (dn (lpR [(8,12),(13,19),(44,84)] ⟨[(10,G5),(11,G5),(44,G5)],[]⟩ 0 ⟨[(10,G5),(11,G5)],[]⟩ F6))) F6)))))⟩
def c8j:FSpec:=X7 c4A λx=>Df x.1 x.2.1 x.2.2.1 x.2.2.2
def qE(A:Bool):Option J4:=l7 A (some (1,0,1)) (some (1,0,0))
def c4Z:FQ:=⟨[dR],cR 2 36 (tD y3),mE 6 [],F6⟩
def b8a:FSpec:=X7 c4Z λx=>qE x
def xJ(A:Int):d1A:=l7 (J5 0 A) (some (J5 A 109572)) (some false)
def c5w:FQ:=⟨[G5],tR 2 dR,mE 9 [],F6⟩
def b5J:FSpec:=X7 c5w λx=>xJ x
def xI(A:Int):d1B:=some (x9 .i64 (I7 .i64 (dD .i64 A 4) (dD .i64 A 100)) (dD .i64 A 400))
def c5X:FQ:=⟨[G5],tR 2 G5,mE 11 [],F6⟩
def c8V:FSpec:=X7 c5X λx=>xI x
def qC(A:Int):d1B:=o5 (xI (I7 .i64 A 1)) λx=>o5 (xI 1899) λb=>some (I7 .i64 (x9 .i64 (X9 .i64 (I7 .i64 A 1900) 365) x) b)
def c5x:FQ:=⟨[G5],tR 2 G5,mE 12 [(360,c8V)],F6⟩
def b8e:FSpec:=X7 c5x λx=>qC x
def Ir(A:Int):d1A:=l7 (x8 (dM A 4) 0) (l7 (D7 (x8 (dM A 100) 0)) (some true) (some (x8 (dM A 400) 0))) (some false)
def c5Y:FQ:=⟨[G5],tR 2 dR,mE 16 [],F6⟩
def c8W:FSpec:=X7 c5Y λx=>Ir x
def jG(A:Int)(B:Int):d1B:=l7 (D9 B 1) (some 0) (l7 (D9 12 B) (some 0) (l7 (x8 B 2) (o5 (Ir A) λx=>l7 x (some 29) (o5 (F9 [31,28,31,30,31,30,31,31,30,31,30,31] (I7 .i64 B 1)) λx=>some x)) (o5 (F9 [31,28,31,30,31,30,31,31,30,31,30,31] (I7 .i64 B 1)) λx=>some x)))
def c5y:FQ:=⟨[G5,G5],tR 4 G5,mE 21 [(361,c8W)],F6⟩
def b5K:FSpec:=X7 c5y λx=>jG x.1 x.2
def xH(A:Int):Option J4:=o5 (xJ A) λx=>l7 (D7 x) (some (0,0,0)) (o5 (Y9 (λ(x:Int)=>o5 (qC (x9 .i64 x 1)) λb=>l7 (J5 b A) (some (.inl (x9 .i64 x 1))) (some (.inr x))) (x9 .i64 1900 (dD .i64 A 366))) λy=>o5 (qC y) λx=>o5 (U1 (λ(x:I9)=>l7 (D9 x.2 12) (o5 (jG y (x9 .i64 x.2 1)) λb=>l7 (D9 x.1 b) (some (.rt (y,x9 .i64 x.2 1,x9 .i64 x.1 1))) (some (.nx (I7 .i64 x.1 b,x9 .i64 x.2 1)))) (some (.ex ()))) (I7 .i64 A x,0)) λo=>U6 o (λy=>some (0,0,0)) λr=>some r)
def c5a:FQ:=⟨[G5],⟨[(.tmp 2,G5),(.tmp 3,G5),(.tmp 4,G5)],[]⟩,mE 45 [(336,b5J),(337,b8e),(338,b5K)],sN 3 (Y2 (dn (.loop [(5,6),(15,22)] ⟨[(5,G5)],[]⟩ 0 ⟨[(5,G5)],[]⟩ F6)) (sN 1 (Y2 (sN 1 (dn (lpR [(2,5),(6,9),(26,45)] ⟨[(6,G5),(26,G5)],[]⟩ 2 nX F6))) F6)))⟩
def b5F:FSpec:=X7 c5a λx=>xH x
def GI(A:Int)(B:J4):Option J4:=l7 (x8 A 10) (some (B.1,0,I7 .i64 0 B.2.2)) (l7 (x8 A 25) (o5 (qE (x8 B.2.2 0)) λx=>some x) (o5 (xH B.2.2) λx=>l7 (x8 A 31) (some (2,0,x.1)) (some (2,0,x.2.1))))
def c4B:FQ:=⟨[G5,tD y3],cR 4 36 (tD y3),mE 36 [(312,b8a),(313,b5F)],F6⟩
def c8k:FSpec:=X7 c4B λx=>GI x.1 x.2
def yF(A:Int)(B:Int):Option I9:=o5 (uA (wrap .u64 (nR A (I7 .i64 0 A))) (wrap .u64 (nR B (I7 .i64 0 B)))) λx=>l7 (D7 (x8 x.1 0)) (some (0,3)) (l7 (D9 1000000000000000 x.2) (some (0,3)) (l7 (D7 (jl (D9 A 0) (D9 B 0))) (some (I7 .i64 0 (wrap .i64 x.2),0)) (some (wrap .i64 x.2,0))))
def c5z:FQ:=⟨[G5,G5],⟨[(.tmp 4,G5),(.tmp 5,G5)],[]⟩,mE 38 [(333,b2M)],F6⟩
def c8L:FSpec:=X7 c5z λx=>yF x.1 x.2
def FD(A:Int)(B:Int)(C:Int)(D:Int):Option I9:=o5 (rQ D) λx=>l7 (D7 x) (some (0,1)) (l7 (x8 C 0) (some (0,12)) (o5 (o5 (nU A 1000000000000000) λx=>l7 x (some (.inr (0,3))) (o5 (nU B 1000000000) λx=>l7 x (some (.inr (0,3))) (o5 (nU C 1000000000) λx=>l7 x (some (.inr (0,3))) (some (.inl ()))))) λo=>U6 o (λx=>o5 (mM A) λx=>o5 (mM B) λc=>o5 (uA x c) λx=>o5 (mM C) λb=>l7 (J5 b x.1) (some (0,3)) (o5 (mJ x.1 x.2 b) λx=>l7 (D9 1000000000000000 x.1) (some (0,3)) (o5 (oH x.1 x.2 b (D7 (jl (D7 (jl (D9 A 0) (D9 B 0))) (D9 C 0))) D) λx=>l7 (D9 1000000000000000 x) (some (0,3)) (o5 (Ci x (D7 (jl (D7 (jl (D9 A 0) (D9 B 0))) (D9 C 0)))) λx=>some (x,0))))) λr=>some r))
def c5Z:FQ:=⟨[G5,G5,G5,G5],⟨[(.tmp 8,G5),(.tmp 9,G5)],[]⟩,mE 72 [(355,b5M),(356,b5N),(357,b8j),(333,b2M),(334,b5I),(358,b8k),(359,b8l)],sN 3 (Y2 (jnR [(8,10),(21,31)] nX F6) F6)⟩
def c8X:FSpec:=X7 c5Z λx=>FD x.1 x.2.1 x.2.2.1 x.2.2.2
def Hl(A:Int)(B:Int)(C:Int):Option I9:=o5 (FD A B 1000000 C) λx=>some x
def c5A:FQ:=⟨[G5,G5,G5],⟨[(.tmp 6,G5),(.tmp 7,G5)],[]⟩,mE 14 [(362,c8X)],F6⟩
def c8M:FSpec:=X7 c5A λx=>Hl x.1 x.2.1 x.2.2
def CE(A:Int):d1A:=l7 (J5 0 A) (some (J5 A 5)) (some false)
def c6a:FQ:=⟨[G5],tR 2 dR,mE 9 [],F6⟩
def b8m:FSpec:=X7 c6a λx=>CE x
def xX(A:Int)(B:Int):d1A:=l7 (D9 B A) (some true) (some (D9 A (I7 .i64 0 B)))
def c6b:FQ:=⟨[G5,G5],tR 4 dR,mE 14 [],F6⟩
def b8n:FSpec:=X7 c6b λx=>xX x.1 x.2
def NP(A:Int)(B:Int)(C:Int):Option I9:=o5 (CE C) λx=>l7 (D7 x) (some (0,1)) (o5 (xX A 1000000000) λx=>l7 x (some (0,3)) (o5 (xX B 1000000000) λx=>l7 x (some (0,3)) (o5 (jA (X9 .i64 A B) 1000000 C) λx=>l7 (D7 (x8 x.2 0)) (some (0,x.2)) (o5 (xX x.1 1000000000) λb=>l7 b (some (0,3)) (some (x.1,0))))))
def c5B:FQ:=⟨[G5,G5,G5],⟨[(.tmp 6,G5),(.tmp 7,G5)],[]⟩,mE 33 [(363,b8m),(364,b8n),(335,b2N)],F6⟩
def c8N:FSpec:=X7 c5B λx=>NP x.1 x.2.1 x.2.2
def zJ(A:Int)(B:Int)(C:Int):Option I9:=o5 (rQ C) λx=>l7 (D7 x) (some (0,1)) (l7 (D9 B 1) (some (0,12)) (o5 (nU A 1000000000000000) λx=>l7 x (some (0,3)) (l7 (D9 1000000000000000 B) (some (0,3)) (o5 (jA A B C) λx=>l7 (D7 (x8 x.2 0)) (some (0,x.2)) (o5 (nU (X9 .i64 x.1 B) 1000000000000000) λb=>l7 b (some (0,3)) (some (X9 .i64 x.1 B,0)))))))
def c5C:FQ:=⟨[G5,G5,G5],⟨[(.tmp 6,G5),(.tmp 7,G5)],[]⟩,mE 38 [(355,b5M),(356,b5N),(335,b2N)],F6⟩
def c8O:FSpec:=X7 c5C λx=>zJ x.1 x.2.1 x.2.2
def Eh(A:Int)(B:Int)(C:Int)(D:Bool)(E:Int):d1A:=l7 (x8 B 0) (some false) (l7 (x8 E 0) (some D) (l7 (x8 E 1) (some (D7 D)) (l7 (x8 E 3) (some true) (l7 (x8 E 4) (some (J5 (I7 .u64 C B) B)) (l7 (x8 E 5) (l7 (D9 (I7 .u64 C B) B) (some true) (l7 (x8 B (I7 .u64 C B)) (some (x8 (dM A 2) 1)) (some false))) (some false))))))
def c6c:FQ:=⟨[(false,(dT (.int .u64))),(false,(dT (.int .u64))),(false,(dT (.int .u64))),dR,G5],tR 10 dR,mE 49 [],F6⟩
def c8Y:FSpec:=X7 c6c λx=>Eh x.1 x.2.1 x.2.2.1 x.2.2.2.1 x.2.2.2.2
def xW(A:Int)(B:Int)(C:Int):Option I9:=o5 (CE C) λx=>l7 (D7 x) (some (0,1)) (l7 (x8 B 0) (some (0,12)) (o5 (xX A 1000000000000000) λx=>l7 x (some (0,3)) (o5 (xX B 1000000000000000) λx=>l7 x (some (0,3)) (o5 (uA (wrap .u64 (nR A (I7 .i64 0 A))) 1000000) λx=>l7 (J5 (wrap .u64 (nR B (I7 .i64 0 B))) x.1) (some (0,3)) (o5 (mJ x.1 x.2 (wrap .u64 (nR B (I7 .i64 0 B)))) λx=>l7 (D9 1000000000 x.1) (some (0,3)) (o5 (Eh x.1 x.2 (wrap .u64 (nR B (I7 .i64 0 B))) (D7 (jl (D9 A 0) (D9 B 0))) C) λb=>l7 b (l7 (D9 1000000000 (x9 .i64 (wrap .i64 x.1) 1)) (some (0,3)) (l7 (D7 (jl (D9 A 0) (D9 B 0))) (some (I7 .i64 0 (x9 .i64 (wrap .i64 x.1) 1),0)) (some (x9 .i64 (wrap .i64 x.1) 1,0)))) (l7 (D9 1000000000 (wrap .i64 x.1)) (some (0,3)) (l7 (D7 (jl (D9 A 0) (D9 B 0))) (some (I7 .i64 0 (wrap .i64 x.1),0)) (some (wrap .i64 x.1,0))))))))))
def c5E:FQ:=⟨[G5,G5,G5],⟨[(.tmp 6,G5),(.tmp 7,G5)],[]⟩,mE 73 [(363,b8m),(364,b8n),(333,b2M),(334,b5I),(365,c8Y)],F6⟩
def c8P:FSpec:=X7 c5E λx=>xW x.1 x.2.1 x.2.2
def Bh(A:I9)(B:J4)(C:J4):Option (J4×Int):=l7 (x8 A.1 13) (o5 (yF B.2.2 C.2.2) λx=>some ((B.1,0,x.1),x.2)) (o5 (l7 (x8 A.1 14) (some (x8 B.1 3)) (some false)) λx=>l7 x (o5 (Hl B.2.2 C.2.2 A.2) λx=>some ((B.1,0,x.1),x.2)) (l7 (x8 A.1 14) (o5 (NP B.2.2 C.2.2 A.2) λx=>some ((B.1,0,x.1),x.2)) (l7 (x8 A.1 16) (o5 (zJ B.2.2 C.2.2 A.2) λx=>some ((B.1,0,x.1),x.2)) (l7 (x8 C.1 2) (o5 (jA B.2.2 C.2.2 A.2) λx=>some ((B.1,0,x.1),x.2)) (o5 (xW B.2.2 C.2.2 A.2) λx=>some ((4,0,x.1),x.2))))))
def c5b:FQ:=⟨[tD y2,tD y3,tD y3],⟨[(.cell 6 36,tD y3),(.tmp 7,G5)],[]⟩,mE 105 [(339,c8L),(340,c8M),(341,c8N),(342,c8O),(335,b2N),(343,c8P)],sN 2 (Y2 (dn (sN 1 (.cond F6 (Y2 (.join [(38,47)] ⟨[(38,dR)],[]⟩ F6) F6)))) F6)⟩
def c8y:FSpec:=X7 c5b λx=>Bh x.1 x.2.1 x.2.2
def Fp(A:Int)(B:Int)(C:Int):Option I9:=o5 (l7 (D9 A 1900) (some (.inr (0,3))) (l7 (D9 2199 A) (some (.inr (0,3))) (l7 (D9 B 1) (some (.inr (0,3))) (l7 (D9 12 B) (some (.inr (0,3))) (l7 (D9 C 1) (some (.inr (0,3))) (o5 (jG A B) λx=>l7 (D9 x C) (some (.inr (0,3))) (some (.inl ())))))))) λo=>U6 o (λx=>o5 (qC A) λx=>o5 (Y9 (λ(x:I9)=>l7 (D9 x.2 (I7 .i64 B 1)) (o5 (jG A (x9 .i64 x.2 1)) λb=>some (.inl (x9 .i64 x.1 b,x9 .i64 x.2 1))) (some (.inr x.1))) (x,0)) λy=>some (I7 .i64 (x9 .i64 y C) 1,0)) λr=>some r
def c5F:FQ:=⟨[G5,G5,G5],⟨[(.tmp 6,G5),(.tmp 7,G5)],[]⟩,mE 53 [(338,b5K),(337,b8e)],sN 1 (Y2 (jnR [(6,8),(10,35)] nX F6) (sN 1 (Y2 (sN 1 (dn (.loop [(8,10),(39,49)] ⟨[(8,G5),(39,G5)],[]⟩ 0 ⟨[(8,G5)],[]⟩ F6))) F6)))⟩
def c8Q:FSpec:=X7 c5F λx=>Fp x.1 x.2.1 x.2.2
def uC(A:Int)(B:Int):Option I9:=o5 (o5 (xJ A) λx=>l7 (D7 x) (some (.inr (0,3))) (l7 (D9 B (-3600)) (some (.inr (0,3))) (l7 (D9 3600 B) (some (.inr (0,3))) (some (.inl ()))))) λo=>U6 o (λx=>o5 (xH A) λx=>l7 (D9 (x9 .i64 (I7 .i64 (x9 .i64 (X9 .i64 (I7 .i64 x.1 1900) 12) x.2.1) 1) B) 0) (some (0,3)) (l7 (D9 3599 (x9 .i64 (I7 .i64 (x9 .i64 (X9 .i64 (I7 .i64 x.1 1900) 12) x.2.1) 1) B)) (some (0,3)) (o5 (jG (x9 .i64 1900 (dD .i64 (x9 .i64 (I7 .i64 (x9 .i64 (X9 .i64 (I7 .i64 x.1 1900) 12) x.2.1) 1) B) 12)) (x9 .i64 (dM (x9 .i64 (I7 .i64 (x9 .i64 (X9 .i64 (I7 .i64 x.1 1900) 12) x.2.1) 1) B) 12) 1)) λb=>o5 (Fp (x9 .i64 1900 (dD .i64 (x9 .i64 (I7 .i64 (x9 .i64 (X9 .i64 (I7 .i64 x.1 1900) 12) x.2.1) 1) B) 12)) (x9 .i64 (dM (x9 .i64 (I7 .i64 (x9 .i64 (X9 .i64 (I7 .i64 x.1 1900) 12) x.2.1) 1) B) 12) 1) (pM x.2.2 b)) λx=>some x))) λr=>some r
def c5c:FQ:=⟨[G5,G5],⟨[(.tmp 4,G5),(.tmp 5,G5)],[]⟩,mE 57 [(336,b5J),(313,b5F),(338,b5K),(344,c8Q)],sN 1 (Y2 (jnR [(4,6),(10,21)] nX F6) F6)⟩
def b8b:FSpec:=X7 c5c λx=>uC x.1 x.2
def oO(A:Int)(B:Int):d1B:=o5 (xJ A) λx=>l7 (D7 x) (some 0) (o5 (xJ B) λx=>l7 (D7 x) (some 0) (l7 (D9 B A) (some 0) (o5 (xH A) λx=>o5 (xH B) λb=>o5 (uC A (X9 .i64 12 (I7 .i64 b.1 x.1))) λc=>l7 (D7 (x8 c.2 0)) (some (nR (I7 .i64 (I7 .i64 b.1 x.1) 1) 0)) (l7 (D9 B c.1) (some (nR (I7 .i64 (I7 .i64 b.1 x.1) 1) 0)) (some (nR (I7 .i64 b.1 x.1) 0))))))
def c5d:FQ:=⟨[G5,G5],tR 4 G5,mE 60 [(336,b5J),(313,b5F),(315,b8b)],F6⟩
def c8A:FSpec:=X7 c5d λx=>oO x.1 x.2
def kw(A:I9)(B:J4)(C:J4):Option (J4×Int):=o5 (o5 (l7 (x8 A.1 11) (some (x8 A.1 11)) (some (x8 A.1 27))) λx=>l7 x (some (.inr ((B.1,0,x9 .i64 B.2.2 C.2.2),0))) (l7 (x8 A.1 12) (some (.inr ((B.1,0,I7 .i64 B.2.2 C.2.2),0))) (o5 (l7 (x8 A.1 13) (some (x8 A.1 13)) (l7 (x8 A.1 14) (some (x8 A.1 14)) (l7 (x8 A.1 15) (some (x8 A.1 15)) (some (x8 A.1 16))))) λx=>l7 x (o5 (Bh A B C) λx=>some (.inr x)) (o5 (l7 (x8 A.1 17) (some (x8 A.1 17)) (some (x8 A.1 18))) λx=>l7 x (l7 (jl (x8 A.1 17) (D9 C.2.2 B.2.2)) (some (.inr (C,0))) (some (.inr (B,0)))) (l7 (x8 A.1 19) (o5 (qE (x8 B.2.2 C.2.2)) λx=>some (.inr (x,0))) (l7 (x8 A.1 20) (o5 (qE (D7 (x8 B.2.2 C.2.2))) λx=>some (.inr (x,0))) (l7 (x8 A.1 21) (o5 (qE (D9 B.2.2 C.2.2)) λx=>some (.inr (x,0))) (l7 (x8 A.1 22) (o5 (qE (J5 B.2.2 C.2.2)) λx=>some (.inr (x,0))) (l7 (x8 A.1 23) (l7 (x8 B.2.2 1) (o5 (qE (x8 C.2.2 1)) λx=>some (.inr (x,0))) (o5 (qE false) λx=>some (.inr (x,0)))) (l7 (x8 A.1 24) (l7 (x8 B.2.2 1) (o5 (qE true) λx=>some (.inr (x,0))) (o5 (qE (x8 C.2.2 1)) λx=>some (.inr (x,0)))) (l7 (x8 A.1 28) (o5 (uC B.2.2 C.2.2) λx=>some (.inr ((5,0,x.1),x.2))) (l7 (x8 A.1 29) (some (.inr ((2,0,I7 .i64 C.2.2 B.2.2),0))) (some (.inl (0,0,0))))))))))))))) λo=>U6 o (λ(x:J4)=>o5 (oO B.2.2 C.2.2) λx=>some ((2,0,x),0)) λr=>some r
def c4C:FQ:=⟨[tD y2,tD y3,tD y3],⟨[(.cell 6 36,tD y3),(.tmp 7,G5)],[]⟩,mE 139 [(314,c8y),(312,b8a),(315,b8b),(316,c8A)],sN 1 (Y2 (jnR [(6,133),(4000384,4000385)] ⟨[(6,(false,(.box (dT y3))))],[]⟩ (sN 1 (dn (Y2 (.join [(12,15)] ⟨[(12,dR)],[]⟩ F6) (.cond F6 (sN 1 (.cond F6 (Y2 (.join [(33,38)] ⟨[(33,dR)],[]⟩ F6) (.cond F6 (Y2 (.join [(44,47)] ⟨[(44,dR)],[]⟩ F6) F6)))))))))) F6)⟩
def c8l:FSpec:=X7 c4C λx=>kw x.1 x.2.1 x.2.2
def ae(A:I9)(B:List J4)(C:bn):Option (J4×Int):=o5 (o5 (l7 (x8 A.1 1) (some (x8 A.1 1)) (l7 (x8 A.1 2) (some (x8 A.1 2)) (l7 (x8 A.1 3) (some (x8 A.1 3)) (l7 (x8 A.1 4) (some (x8 A.1 4)) (some (x8 A.1 5)))))) λx=>l7 x (some (.inr ((A.1,0,A.2),0))) (l7 (x8 A.1 6) (some (.inr ((6,dD .i64 A.2 16,dM A.2 16),0))) (l7 (x8 A.1 7) (o5 (F9 C.2.1 A.2) λx=>some (.inr (x,0))) (l7 (x8 A.1 8) (o5 (F9 C.2.2.1 A.2) λx=>some (.inr (x,0))) (l7 (x8 A.1 9) (some (.inr ((5,0,C.1),0))) (l7 (x8 A.1 35) (some (.inr ((2,0,o9 C.2.2.2.1),0))) (o5 (l7 (x8 A.1 36) (some (x8 A.1 36)) (l7 (x8 A.1 37) (some (x8 A.1 37)) (l7 (x8 A.1 38) (some (x8 A.1 38)) (some (x8 A.1 39))))) λx=>l7 x (o5 (uG A C) λx=>some (.inr x)) (l7 (x8 A.1 33) (o5 (F9 C.2.2.2.2.2 A.2) λx=>o5 (F9 B 0) λb=>o5 (Gh x C.1 b.2.2) λc=>l7 (D7 c.2) (some (.inr ((0,0,0),6))) (o5 (F9 x.2.2.2 c.1) λd=>some (.inr ((x.2.2.1.1,x.2.2.1.2,d.2.2.2),0)))) (l7 (x8 A.1 34) (o5 (F9 C.2.2.2.2.2 (dD .i64 A.2 8)) λx=>o5 (F9 B 0) λb=>o5 (Df x C.1 b.2.2 (dM A.2 8)) λx=>some (.inr ((3,0,x.1),x.2))) (some (.inl (0,0,0)))))))))))) λo=>U6 o (λ(x:J4)=>l7 (x8 (o9 B) 1) (o5 (F9 B 0) λx=>o5 (GI A.1 x) λx=>some (x,0)) (l7 (x8 (o9 B) 2) (o5 (F9 B 0) λx=>o5 (F9 B 1) λb=>o5 (kw A x b) λx=>some x) (o5 (F9 B 0) λx=>l7 (x8 x.2.2 1) (o5 (F9 B 1) λx=>some (x,0)) (o5 (F9 B 2) λx=>some (x,0))))) λr=>some r
def c4b:FQ:=⟨[tD y2,uD y29,tD y55],⟨[(.cell 6 36,tD y3),(.tmp 7,G5)],[]⟩,mE 165 [(285,c8h),(286,c8i),(287,c8j),(288,c8k),(289,c8l)],sN 1 (Y2 (jnR [(6,132),(4000384,4000385)] ⟨[(6,(false,(.box (dT y3))))],[]⟩ (sN 1 (dn (Y2 (.join [(15,21)] ⟨[(15,dR)],[]⟩ F6) (.cond F6 (sN 1 (.cond F6 (sN 1 (.cond F6 (sN 1 (.cond F6 (sN 1 (.cond F6 (sN 1 (.cond F6 (Y2 (.join [(62,67)] ⟨[(62,dR)],[]⟩ F6) F6)))))))))))))))) F6)⟩
def c7T:FSpec:=X7 c4b λx=>ae x.1 x.2.1 x.2.2
def AU(A:I9)(B:List J4)(C:bn):Option (J4×Int):=o5 (o5 (rO A) λx=>l7 (D7 x) (some (.inr ((0,0,0),2))) (o5 (pq A.1) λx=>l7 (D7 (x8 (o9 B) x)) (some (.inr ((0,0,0),2))) (some (.inl (0,0,0))))) λo=>U6 o (λ(x:J4)=>o5 (jm A C) λx=>l7 (D7 x) (some ((0,0,0),6)) (o5 (xh B) λx=>l7 (D7 x) (some ((0,0,0),8)) (o5 (Z9 A B C) λx=>l7 (D7 x) (some ((0,0,0),8)) (o5 (ae A B C) λx=>l7 (D7 (x8 x.2 0)) (some ((0,0,0),x.2)) (o5 (gQ x.1) λb=>l7 (D7 b) (some ((0,0,0),3)) (some (x.1,0))))))) λr=>some r
def c3A:FQ:=⟨[tD y2,uD y29,tD y55],⟨[(.cell 6 36,tD y3),(.tmp 7,G5)],[]⟩,mE 54 [(251,c7P),(209,a9j),(252,c7Q),(253,c7R),(254,c7S),(255,c7T),(256,a5x)],sN 1 (Y2 (jnR [(6,8),(10,22),(4000384,4000385)] ⟨[(6,(false,(.box (dT y3))))],[]⟩ F6) F6)⟩
def c7w:FSpec:=X7 c3A λx=>AU x.1 x.2.1 x.2.2
def b1w:List MG:=[(true,(.dat y71)),G5]
def N_:List MG:=[(true,(.dat y71)),G5]
def b1u:List MG:=[(true,(.dat y71)),(true,(.dat y2)),(false,(.dat y43))]
def c6i:Ret:=⟨[(.cell 4 36,(true,(.dat y3))),(.tmp 5,G5)],[]⟩
def d0D (r250:M.den (.dat y71)->M.den diM->Option (aU ([(true,(.dat y3)),G5]++[]))) (r186:M.den (.dat y71)->M.den diM->Option (aU ([(true,(.dat y3)),G5]++[]))) (r220:M.den (.dat y71)->M.den (.dat y2)->M.den (.dat y43)->Option (aU ([(true,(.dat y3)),G5]++[]))):Env:=⟨28,eqs,tt,gl,[(186,⟨N_,[(true,(.dat y3)),G5],[],λx=>r186 x.1 x.2⟩),(256,a5x)],[],[],[],[],[]⟩
def c1t:Ann:=.leaf
def pY(r250:au->Int->Option (J4×Int))(r186:au->Int->Option (J4×Int))(r220:au->I9->d1v->Option (J4×Int))(A:au)(B:Int):Option (J4×Int):=o5 (r186 A B) λx=>l7 (D7 (x8 x.2 0)) (some ((0,0,0),x.2)) (l7 (D7 (x8 x.1.1 1)) (some ((0,0,0),8)) (o5 (gQ x.1) λb=>l7 (D7 b) (some ((0,0,0),8)) (some (x.1,0))))
def b6u:Ret:=⟨[(.cell 4 36,(true,(.dat y3))),(.tmp 5,G5)],[]⟩
def d0y (r250:M.den (.dat y71)->M.den diM->Option (aU ([(true,(.dat y3)),G5]++[]))) (r186:M.den (.dat y71)->M.den diM->Option (aU ([(true,(.dat y3)),G5]++[]))) (r220:M.den (.dat y71)->M.den (.dat y2)->M.den (.dat y43)->Option (aU ([(true,(.dat y3)),G5]++[]))):Env:=⟨65,eqs,tt,gl,[(219,c7v),(220,⟨b1u,[(true,(.dat y3)),G5],[],λx=>r220 x.1 x.2.1 x.2.2⟩),(186,⟨N_,[(true,(.dat y3)),G5],[],λx=>r186 x.1 x.2⟩),(221,c7w)],[],[],[],[],[]⟩
def c1o:Ann:=.seq F6 (.seq F6 (.seq F6 (.seq (.joinR [(4,6),(21,33),(4000256,4000257)] ⟨[(4,(false,(.box (.dat y3))))],[]⟩ F6) (.seq F6 (.seq (.seq F6 (.blk (.loopR [(4,6),(8,13),(38,58),(12000000,12000001),(37002240,37002241)] ⟨[(4,(false,(.box (.dat y3)))),(8,(false,(.own y3))),(38,G5)],[]⟩ 1 ⟨[(4,(false,(.box (.dat y3)))),(8,(false,(.own y3)))],[]⟩ F6))) F6)))))
def tX(r250:au->Int->Option (J4×Int))(r186:au->Int->Option (J4×Int))(r220:au->I9->d1v->Option (J4×Int))(A:au)(B:Int):Option (J4×Int):=o5 (F9 A.1 B) λx=>o5 (lw A B) λb=>o5 (l7 (x8 x.1 23) (l7 (x8 x.1 23) (o5 (r220 A x b) λx=>some (.inr x)) (some (.inl (0,0,0)))) (l7 (x8 x.1 24) (l7 (x8 x.1 24) (o5 (r220 A x b) λx=>some (.inr x)) (some (.inl (0,0,0)))) (l7 (x8 x.1 26) (o5 (r220 A x b) λx=>some (.inr x)) (some (.inl (0,0,0)))))) λo=>U6 o (λ(d:J4)=>o5 (qL (o9 b) (0,0,0)) λf=>o5 (U1 (λ(x:J4×List J4×Int)=>l7 (D9 x.2.2 (o9 b)) (o5 (F9 b x.2.2) λi=>o5 (U0 b (U9 x.2.2)) λg=>o5 (r186 A g) λc=>l7 (D7 (x8 c.2 0)) (some (.rt ((0,0,0),c.2))) (o5 (F9 x.2.1 x.2.2) λj=>o5 (U0 x.2.1 (U9 x.2.2)) λk=>some (.nx (x.1,bi x.2.1 (U9 x.2.2) c.1,x9 .i64 x.2.2 1)))) (some (.ex (x.1,x.2.1)))) (d,f,0)) λo=>U6 o (λ(y:J4×List J4)=>o5 (AU x y.2 A.2.2) λx=>some x) λr=>some r) λr=>some r
def c6g:Ret:=⟨[(.cell 6 36,(true,(.dat y3))),(.tmp 7,G5)],[]⟩
def d0A (r250:M.den (.dat y71)->M.den diM->Option (aU ([(true,(.dat y3)),G5]++[]))) (r186:M.den (.dat y71)->M.den diM->Option (aU ([(true,(.dat y3)),G5]++[]))) (r220:M.den (.dat y71)->M.den (.dat y2)->M.den (.dat y43)->Option (aU ([(true,(.dat y3)),G5]++[]))):Env:=⟨69,eqs,tt,gl,[(250,⟨b1w,[(true,(.dat y3)),G5],[],λx=>r250 x.1 x.2⟩),(186,⟨N_,[(true,(.dat y3)),G5],[],λx=>r186 x.1 x.2⟩)],[],[],[],[],[]⟩
def c1q:Ann:=.seq F6 (.seq F6 (.seq F6 (.seq F6 (.seq (.blk (.seq (.join [(26,35)] ⟨[(26,dR)],[]⟩ F6) F6)) F6))))
def nN(r250:au->Int->Option (J4×Int))(r186:au->Int->Option (J4×Int))(r220:au->I9->d1v->Option (J4×Int))(A:au)(B:I9)(C:d1v):Option (J4×Int):=l7 (D7 (x8 B.2 0)) (some ((0,0,0),2)) (o5 (F9 C 0) λx=>o5 (r250 A x) λx=>l7 (D7 (x8 x.2 0)) (some ((0,0,0),x.2)) (o5 (l7 (x8 B.1 26) (some (x8 x.1.2.2 1)) (some false)) λb=>l7 b (o5 (F9 C 1) λx=>o5 (r186 A x) λx=>some x) (l7 (x8 B.1 26) (o5 (F9 C 2) λx=>o5 (r186 A x) λx=>some x) (l7 (jl (x8 B.1 23) (x8 x.1.2.2 0)) (some (x.1,0)) (o5 (F9 C 1) λx=>o5 (r250 A x) λx=>some x)))))
def C9:Nat->(M.den (.dat y71)->M.den diM->Option (aU ([(true,(.dat y3)),G5]++[])))×(M.den (.dat y71)->M.den diM->Option (aU ([(true,(.dat y3)),G5]++[])))×(M.den (.dat y71)->M.den (.dat y2)->M.den (.dat y43)->Option (aU ([(true,(.dat y3)),G5]++[])))|0=>(λa0 a1=>none,λa0 a1=>none,λa0 a1 a2=>none)|n+1=>(λa0 a1=>pY (C9 n).1 (C9 n).2.1 (C9 n).2.2 a0 a1,λa0 a1=>tX (C9 n).1 (C9 n).2.1 (C9 n).2.2 a0 a1,λa0 a1 a2=>nN (C9 n).1 (C9 n).2.1 (C9 n).2.2 a0 a1 a2)
def zo:M.den (.dat y71)->M.den diM->Option (aU ([(true,(.dat y3)),G5]++[])):=λa0 a1=>(C9 jU).2.1 a0 a1
def c7l:FSpec:=mkS N_ b6u λx=>zo x.1 x.2
def JJ(A:List I9)(B:bn):Option (J4×Int):=o5 (Nh A) λx=>l7 (D7 (x8 x.2 0)) (some ((0,0,0),x.2)) (o5 (zo (A,x.1,B) (I7 .i64 (o9 A) 1)) λx=>some x)
def c2R:FQ:=⟨[uD y12,tD y55],⟨[(.cell 4 36,tD y3),(.tmp 5,G5)],[]⟩,mE 27 [(185,c7k),(186,c7l)],F6⟩
def b7J:FSpec:=X7 c2R λx=>JJ x.1 x.2
def xw(A:d1v)(B:d1v):d1B:=l7 (D7 (x8 (o9 A) (o9 B))) (some 2) (l7 (D9 8 (o9 A)) (some 4) (o5 (U1 (λ(x:Int)=>l7 (D9 x (o9 A)) (o5 (F9 A x) λb=>l7 (D9 b (-1)) (some (.rt 9)) (l7 (J5 x b) (some (.rt 9)) (o5 (F9 B x) λc=>l7 (D9 c 0) (some (.rt 3)) (o5 (F9 B x) λd=>l7 (D9 9 d) (some (.rt 3)) (some (.nx (x9 .i64 x 1))))))) (some (.ex ()))) 0) λo=>U6 o (λy=>some 0) λr=>some r))
def c3w:FQ:=⟨[uD y43,uD y43],tR 4 G5,mE 42 [],sN 3 (Y2 (sN 1 (dn (lpR [(4,7),(17,42)] ⟨[(17,G5)],[]⟩ 0 nX F6))) F6)⟩
def c7t:FSpec:=X7 c3w λx=>xw x.1 x.2
def tH(A:d1v)(B:Int):Option d1v:=o5 (Y9 (λ(x:d1v×Int)=>l7 (D9 x.2 (o9 A)) (o5 (F9 A x.2) λb=>l7 (x8 b B) (o5 (dG x.1 [x.2]) λc=>some (.inl (c,x9 .i64 x.2 1))) (some (.inl (x.1,x9 .i64 x.2 1)))) (some (.inr x.1))) ([],0)) λy=>some y
def c4s:FQ:=⟨[uD y43,G5],tR 4 jR,mE 24 [],sN 2 (Y2 (sN 1 (dn (.loop [(5,8),(10,23)] ⟨[(5,jR),(10,G5)],[]⟩ 0 ⟨[(5,jR)],[]⟩ F6))) F6)⟩
def c8d:FSpec:=X7 c4s λx=>tH x.1 x.2
def vY(A:kM)(B:Int):Option d1v:=o5 (tH A.1 B) λx=>o5 (Y9 (λ(b:d1v×Int)=>l7 (D9 b.2 (o9 x)) (o5 (F9 x b.2) λk=>o5 (U0 x (U9 b.2)) λx=>o5 (F9 A.2.2 x) λg=>l7 (x8 g (-1)) (some (.inl (b.1,x9 .i64 b.2 1))) (o5 (l7 (D9 0 (o9 b.1)) (o5 (F9 A.2.1 x) λx=>o5 (F9 b.1 0) λc=>o5 (U0 b.1 (U9 0)) λd=>o5 (F9 A.2.1 d) λf=>l7 (D9 f x) (l7 (qQ 0 0 (o9 b.1)) (some (oD b.1 (U9 0) (U9 0))) none) (some b.1)) (some b.1)) λc=>l7 (x8 (o9 c) 0) (o5 (dG c [x]) λx=>some (.inl (x,x9 .i64 b.2 1))) (o5 (F9 A.2.1 x) λd=>o5 (F9 c 0) λf=>o5 (U0 c (U9 0)) λi=>o5 (F9 A.2.1 i) λj=>l7 (x8 d j) (o5 (dG c [x]) λx=>some (.inl (x,x9 .i64 b.2 1))) (some (.inl (c,x9 .i64 b.2 1)))))) (some (.inr b.1))) ([],0)) λy=>some y
def c3W:FQ:=⟨[tD y73,G5],tR 4 jR,mE 67 [(279,c8d)],sN 2 (Y2 (sN 1 (dn (.loop [(5,6),(7,8),(13,66)] ⟨[(5,jR),(13,G5)],[]⟩ 0 ⟨[(5,jR)],[]⟩ (sN 2 (Y2 (dn (sN 2 (Y2 (.join [(5,6),(23,43),(14000000,14000001)] ⟨[(5,jR)],[]⟩ F6) F6))) F6))))) F6)⟩
def c7O:FSpec:=X7 c3W λx=>vY x.1 x.2
def iU(A:kM)(B:Int):d1B:=o5 (vY A B) λx=>l7 (x8 (o9 x) 0) (some (-1)) (l7 (x8 (o9 x) 1) (o5 (F9 x 0) λb=>o5 (U0 x (U9 0)) λx=>o5 (F9 A.2.2 x) λx=>some x) (some (-2)))
def c3y:FQ:=⟨[tD y73,G5],tR 4 G5,mE 22 [(249,c7O)],F6⟩
def b7P:FSpec:=X7 c3y λx=>iU x.1 x.2
def xx(A:d1v)(B:d1v)(C:d1z):Option d1v:=o5 (qL (o9 A) 0) λx=>o5 (Y9 (λ(x:kM×Int)=>l7 (J5 0 x.2) (o5 (iU x.1 x.2) λb=>o5 (F9 x.1.2.2 x.2) λf=>o5 (U0 x.1.2.2 (U9 x.2)) λg=>o5 (F9 (bi x.1.2.2 (U9 x.2) b) x.2) λi=>o5 (U0 (bi x.1.2.2 (U9 x.2) b) (U9 x.2)) λc=>l7 (x8 c (-1)) (o5 (F9 C x.2) λd=>l7 d (o5 (F9 (bi x.1.2.2 (U9 x.2) b) x.2) λj=>o5 (U0 (bi x.1.2.2 (U9 x.2) b) (U9 x.2)) λk=>some (.inl ((x.1.1,x.1.2.1,bi (bi x.1.2.2 (U9 x.2) b) (U9 x.2) x.2),I7 .i64 x.2 1))) (some (.inl ((x.1.1,x.1.2.1,bi x.1.2.2 (U9 x.2) b),I7 .i64 x.2 1)))) (some (.inl ((x.1.1,x.1.2.1,bi x.1.2.2 (U9 x.2) b),I7 .i64 x.2 1)))) (some (.inr x.1))) ((A,B,x),I7 .i64 (o9 A) 1)) λy=>some y.2.2
def c3x:FQ:=⟨[uD y43,uD y43,(uD (.sl .bool))],tR 6 jR,mE 48 [(218,b7P)],sN 2 (Y2 (sN 1 (dn (.loop [(7,9),(18,46),(7000448,7000449),(7000832,7000833)] ⟨[(7,(false,(.box (pA (dT y43) (pA (dT y43) oiM))))),(8,G5)],[]⟩ 0 ⟨[(7,(false,(.box (pA (dT y43) (pA (dT y43) oiM)))))],[]⟩ F6))) F6)⟩
def c7u:FSpec:=X7 c3x λx=>xx x.1 x.2.1 x.2.2
def AC(A:d1v)(B:d1v)(C:d1z):d1B:=o5 (xw A B) λx=>l7 (D7 (x8 x 0)) (some (-1)) (l7 (D7 (x8 (o9 C) (o9 A))) (some (-1)) (o5 (xx A B C) λx=>o5 (iU (A,B,x) (-1)) λx=>some x))
def c3g:FQ:=⟨[uD y43,uD y43,(uD (.sl .bool))],tR 6 G5,mE 26 [(216,c7t),(217,c7u),(218,b7P)],F6⟩
def c7j:FSpec:=X7 c3g λx=>AC x.1 x.2.1 x.2.2
def Aj(A:D6)(B:bn)(C:Int)(D:Int):Option (Int×N8):=o5 (yD A D B.1) λx=>o5 (qL (o9 x.1) false) λd=>o5 (U1 (λ(b:N8×d1z×Int)=>l7 (D9 b.2.2 (o9 x.1)) (o5 (F9 x.1 b.2.2) λf=>o5 (U0 x.1 (U9 b.2.2)) λx=>o5 (F9 A.2.2.2.2 x) λg=>l7 (x8 (o9 g.2.2.2.2.2.1) 0) (o5 (F9 b.2.1 b.2.2) λx=>o5 (U0 b.2.1 (U9 b.2.2)) λx=>some (.nx (b.1,bi b.2.1 (U9 b.2.2) true,x9 .i64 b.2.2 1))) (o5 (F9 A.2.2.2.2 x) λi=>o5 (JJ i.2.2.2.2.2.1 B) λc=>l7 (D7 (x8 c.2 0)) (some (.rt (0,c.2,C,D,x))) (o5 (F9 b.2.1 b.2.2) λx=>o5 (U0 b.2.1 (U9 b.2.2)) λx=>some (.nx (b.1,bi b.2.1 (U9 b.2.2) (x8 c.1.2.2 1),x9 .i64 b.2.2 1))))) (some (.ex (b.1,b.2.1)))) ((0,0,0,0),d,0)) λo=>U6 o (λ(y:N8×d1z)=>o5 (AC x.2.1 x.2.2 y.2) λb=>l7 (D9 b 0) (some (b,0,0,0,0)) (o5 (F9 x.1 b) λf=>o5 (U0 x.1 (U9 b)) λx=>some (x,0,0,0,0))) λr=>some r
def c2Q:FQ:=⟨[tD y24,tD y55,G5,G5],⟨[(.tmp 8,G5),(.cell 9 71,tD y40)],[]⟩,mE 87 [(183,c7i),(163,b7J),(184,c7j)],sN 3 (Y2 (sN 1 (dn (lpR [(8,10),(13,18),(33,74),(4000576,4000577),(10001920,10001921)] ⟨[(9,(false,(.box (dT y40)))),(13,(uO .bool)),(33,G5)],[]⟩ 0 ⟨[(9,(false,(.box (dT y40)))),(13,(uO .bool))],[]⟩ F6))) F6)⟩
def c6X:FSpec:=X7 c2Q λx=>Aj x.1 x.2.1 x.2.2.1 x.2.2.2
def jo(A:D6)(B:bn)(C:Int)(D:d1z):Option (d1v×N8×bn):=o5 (qL (o9 A.2.2.2.1) (0,0,0)) λx=>o5 (qL (o9 A.2.2.2.1) 0) λg=>o5 (rZ A) λd=>o5 (U1 (λ(x:bn×N8×d1v×Int)=>l7 (D9 x.2.2.2 (o9 d.1)) (o5 (F9 d.1 x.2.2.2) λq=>o5 (U0 d.1 (U9 x.2.2.2)) λb=>o5 (F9 D b) λi=>l7 (D7 i) (some (.nx (x.1,x.2.1,x.2.2.1,x9 .i64 x.2.2.2 1))) (o5 (Aj A x.1 C b) λc=>l7 (D7 (x8 c.2.1 0)) (some (.rt ([],c.2,x.1))) (l7 (x8 c.1 (-1)) (some (.rt ([],(10,C,b,-1),x.1))) (l7 (x8 c.1 (-2)) (some (.rt ([],(11,C,b,-1),x.1))) (o5 (F9 A.2.2.2.2 c.1) λj=>o5 (JJ j.2.2.2.2.2.2.1 x.1) λf=>l7 (D7 (x8 f.2 0)) (some (.rt ([],(f.2,C,b,c.1),x.1))) (o5 (F9 x.1.2.2.1 b) λt=>o5 (U0 x.1.2.2.1 (U9 b)) λk=>o5 (F9 x.2.2.1 b) λn=>o5 (U0 x.2.2.1 (U9 b)) λp=>some (.nx ((x.1.1,x.1.2.1,bi x.1.2.2.1 (U9 b) f.1,x.1.2.2.2),x.2.1,bi x.2.2.1 (U9 b) c.1,x9 .i64 x.2.2.2 1)))))))) (some (.ex (x.1,x.2.1,x.2.2.1)))) ((B.1,B.2.1,x,B.2.2.2),(0,0,0,0),g,0)) λo=>U6 o (λ(y:bn×N8×d1v)=>some (y.2.2,(0,0,0,0),y.1)) λr=>some r
def c2f:FQ:=⟨[tD y24,(false,(.box (pA diM (pA (dT y29) (pA (oW y3) (pA (dT y30) (pA (dT y12) (dT y9)))))))),G5,(uD (.sl .bool))],⟨[(.tmp 8,jR),(.cell 9 71,tD y40)],[(1,(true,(pA diM (pA (dT y29) (pA (oW y3) (pA (dT y30) (pA (dT y12) (dT y9))))))))]⟩,⟨105,eqs,tt,gl,[(161,c6W),(162,c6X),(163,b7J)],[],[],[],[1],[]⟩,sN 4 (Y2 (sN 1 (dn (lpR [(1,2),(8,11),(14,19),(37,103),(1000000,1000001),(4000576,4000577),(7001472,7001473),(10001856,10001857)] ⟨[(1,(false,(.box (pA diM (pA (dT y29) (pA (oW y3) (pA (dT y30) (pA (dT y12) (dT y9))))))))),(9,(false,(.box (dT y40)))),(10,jR),(37,G5)],[]⟩ 0 ⟨[(1,(false,(.box (pA diM (pA (dT y29) (pA (oW y3) (pA (dT y30) (pA (dT y12) (dT y9))))))))),(9,(false,(.box (dT y40)))),(10,jR)],[]⟩ F6))) F6)⟩
def c6u:FSpec:=X7 c2f λx=>jo x.1 x.2.1 x.2.2.1 x.2.2.2
def Ah(A:U5)(B:Int)(C:ig)(D:bC):Option (Ac×bn×N8×bC):=o5 (Y9 (λ(x:(Int×List J4×PUnit×PUnit×List I9×List bJ)×Int)=>l7 (D9 x.2 (o9 D.2.1.2.2.2.1)) (o5 (F9 D.2.1.2.2.2.1 x.2) λc=>o5 (dG x.1.2.2.2.2.1 [c.2]) λb=>some (.inl ((x.1.1,x.1.2.1,(),(),b,x.1.2.2.2.2.2),x9 .i64 x.2 1))) (some (.inr (x.1.1,x.1.2.1,(),(),x.1.2.2.2.2)))) ((C.1,C.2.1,(),(),[],A.2.1),0)) λy=>o5 (U1 (λ(x:Ac×bn×N8×(Int×List J4×PUnit×List (List J4)×List I9×List bJ)×Ac×Int)=>l7 (D9 x.2.2.2.2.2 (o9 C.2.2)) (o5 (F9 C.2.2 x.2.2.2.2.2) λc=>o5 (jo D.2.1 (C.1,c,[],[],[],A.2.1) x.2.2.2.2.2 D.2.2.2) λb=>l7 (D7 (x8 b.2.1.1 0)) (some (.rt (([],[],[]),(0,[],[],[],[],[]),b.2.1,D))) (o5 (dG x.2.2.2.1.2.2.2.1 [b.2.2.2.2.1]) λd=>o5 (dG x.2.2.2.2.1.2.2 [(b.2.2.2.2.1,b.1)]) λf=>some (.nx (x.1,x.2.1,x.2.2.1,(x.2.2.2.1.1,x.2.2.2.1.2.1,(),d,x.2.2.2.1.2.2.2.2),(x.2.2.2.2.1.1,x.2.2.2.2.1.2.1,f),x9 .i64 x.2.2.2.2.2 1)))) (some (.ex (x.1,x.2.1,x.2.2.1,(x.2.2.2.1.1,x.2.2.2.1.2.1,(),x.2.2.2.1.2.2.2),x.2.2.2.2.1)))) (([],[],[]),(0,[],[],[],[],[]),(0,0,0,0),(y.1,y.2.1,(),[],y.2.2.2.2),([],[],[]),0)) λo=>U6 o (λ(y:Ac×bn×N8×(Int×List J4×PUnit×List (List J4)×List I9×List bJ)×Ac)=>o5 (jo D.1 (y.2.2.2.1.1,y.2.2.2.1.2.1,[],y.2.2.2.1.2.2.2) (-1) D.2.2.1) λx=>l7 (D7 (x8 x.2.1.1 0)) (some (([],[],[]),(0,[],[],[],[],[]),x.2.1,D)) (some ((x.2.2.2.2.1,x.1,y.2.2.2.2.2.2),x.2.2,(0,0,0,0),D))) λr=>some r
def q66:FQ:=⟨[tD y27,G5,tD y32,(false,(.box (pA (dT y24) (pA (dT y24) (pA (oW .bool) (oW .bool))))))],⟨[(.cell 8 130,tD y50),(.cell 9 133,tD y55),(.cell 10 71,tD y40)],[(3,(true,(pA (dT y24) (pA (dT y24) (pA (oW .bool) (oW .bool))))))]⟩,⟨123,eqs,tt,gl,[(121,c6u)],[],[],[],[3],[]⟩,sN 3 (Y2 (sN 1 (dn (.loop [(11,12),(14,15),(35,47),(7000704,7000705)] ⟨[(11,(false,(.box (pA diM (pA (dT y29) (pA (.cell (some none)) (pA (.cell (some none)) (pA (oW y2) (dT y9))))))))),(35,G5)],[]⟩ 0 ⟨[(11,(false,(.box (pA diM (pA (dT y29) (pA (.cell (some none)) (pA (.cell (some none)) (pA (oW y2) (dT y9)))))))))],[]⟩ F6))) (Y2 (sN 1 (dn (lpR [(8,13),(15,20),(50,97),(4000512,4000513),(4000576,4000577),(4000640,4000641),(10000768,10000769),(18000000,18000002)] ⟨[(8,(false,(.box (dT y50)))),(9,(false,(.box (dT y55)))),(10,(false,(.box (dT y40)))),(11,(false,(.box (pA diM (pA (dT y29) (pA (.cell (some none)) (pA (oW y29) (pA (oW y2) (dT y9))))))))),(12,(false,(.box (pA (dT y29) (pA (dT y43) (oW y47)))))),(50,G5)],[]⟩ 2 ⟨[(8,(false,(.box (dT y50)))),(9,(false,(.box (dT y55)))),(10,(false,(.box (dT y40)))),(11,(false,(.box (pA diM (pA (dT y29) (pA (.cell (some none)) (pA (oW y29) (pA (oW y2) (dT y9))))))))),(12,(false,(.box (pA (dT y29) (pA (dT y43) (oW y47))))))],[]⟩ F6))) F6))⟩
def s66:FSpec:=X7 q66 λx=>Ah x.1 x.2.1 x.2.2.1 x.2.2.2
def BQ(A:U5)(B:Int)(C:ig)(D:Int):Option (J4×Int×N8):=o5 (qX A B C true D) λx=>l7 (D7 (x8 x.1 0)) (some ((0,0,0),0,x)) (o5 (Ai A B) λx=>o5 (uw x D) λx=>o5 (Ah A B C x) λx=>l7 (D7 (x8 x.2.2.1.1 0)) (some ((0,0,0),0,x.2.2.1)) (o5 (F9 x.1.1 D) λb=>o5 (F9 x.1.2.1 D) λx=>some (b,x,0,0,0,0)))
def q34:FQ:=⟨[tD y27,G5,tD y32,G5],⟨[(.cell 8 36,tD y3),(.tmp 9,G5),(.cell 10 71,tD y40)],[]⟩,mE 57 [(63,s63),(64,s64),(65,s65),(66,s66)],F6⟩
def s34:FSpec:=X7 q34 λx=>BQ x.1 x.2.1 x.2.2.1 x.2.2.2
def wG(A:U5)(B:Int)(C:ig)(D:Int):Option (J4×Int):=o5 (BQ A B C D) λx=>l7 (D7 (x8 x.2.2.1 0)) (some ((0,0,0),x.2.2.1)) (some (x.1,0))
def q16:FQ:=⟨[tD y27,G5,tD y32,G5],⟨[(.cell 8 36,tD y3),(.tmp 9,G5)],[]⟩,mE 29 [(34,s34)],F6⟩
def s16:FSpec:=X7 q16 λx=>wG x.1 x.2.1 x.2.2.1 x.2.2.2
def xP(A:List (bW×Bool))(B:D6)(C:d1v):Option (List (bW×Bool)):=o5 (Y9 (λ(x:List (Int×Bool)×Int)=>l7 (D9 x.2 (o9 C)) (o5 (F9 C x.2) λc=>some (.inl (GX (λ(a b:Int)=>x8 a b) x.1 c true,x9 .i64 x.2 1))) (some (.inr x.1))) ([],0)) λy=>o5 (Y9 (λ(x:List (bW×Bool)×Int)=>l7 (D9 x.2 (o9 B.2.2.2.2)) (o5 (F9 B.2.2.2.2 x.2) λc=>l7 (AY (λ(a b:Int)=>x8 a b) y c.2.1 false) (some (.inl (GX (λ(a b:bW)=>aj (seq a.1 b.1) (seq a.2 b.2)) x.1 (B.1,c.1) true,x9 .i64 x.2 1))) (some (.inl (x.1,x9 .i64 x.2 1)))) (some (.inr x.1))) (A,0)) λy=>some y
def q35:FQ:=⟨[(false,(.ownb (.ent true false y41 .bool))),tD y24,uD y43],⟨[],[(0,(false,(oW (.ent true false y41 .bool))))]⟩,⟨39,eqs,tt,gl,[],[],[],[],[0],[]⟩,sN 2 (Y2 (sN 1 (dn (.loop [(6,7),(8,9),(14,21),(7000704,7000705)] ⟨[(6,(false,(oW (.ent false false (.int .i64) .bool)))),(14,G5)],[]⟩ 0 ⟨[(6,(false,(oW (.ent false false (.int .i64) .bool))))],[]⟩ F6))) (sN 1 (dn (.loop [(0,1),(10,11),(24,39),(1000000,1000001)] ⟨[(0,(false,(oW (.ent true false y41 .bool)))),(24,G5)],[]⟩ 2 ⟨[(0,(false,(oW (.ent true false y41 .bool))))],[]⟩ F6))))⟩
def s35:FSpec:=X7 q35 λx=>xP x.1 x.2.1 x.2.2
def wH(A:U5)(B:Int)(C:Int):Option (List (bW×Bool)):=o5 (F9 A.2.2 B) λx=>o5 (mD x C) λf=>o5 (dG f [C]) λg=>o5 (xP [] x g) λc=>o5 (l7 (D9 x.2.1 0) (some (.inr c)) (l7 (J5 (o9 A.2.2) x.2.1) (some (.inr c)) (some (.inl ())))) λo=>U6 o (λj=>o5 (F9 A.2.2 x.2.1) λd=>o5 (wE x C) λx=>o5 (Y9 (λ(b:d1v×Int)=>l7 (D9 b.2 (o9 x)) (o5 (F9 x b.2) λk=>o5 (U0 x (U9 b.2)) λx=>o5 (dG b.1 [x]) λi=>o5 (mD d x) λx=>o5 (dG i x) λx=>some (.inl (x,x9 .i64 b.2 1))) (some (.inr b.1))) ([],0)) λy=>o5 (xP c d y) λx=>some x) λr=>some r
def q17:FQ:=⟨[tD y27,G5,G5],tR 6 (false,(oW (.ent true false y41 .bool))),mE 69 [(36,s36),(35,s35),(37,s37)],sN 4 (Y2 (jnR [(6,7),(28,40)] nX F6) (sN 2 (Y2 (sN 1 (dn (.loop [(10,11),(12,13),(50,64)] ⟨[(10,jR),(50,G5)],[]⟩ 0 ⟨[(10,jR)],[]⟩ F6))) F6)))⟩
def s17:FSpec:=X7 q17 λx=>wH x.1 x.2.1 x.2.2
def uP(A:U5):Option (List (d1x×iV)):=o5 (Y9 (λ(x:List (d1x×iV)×Int)=>l7 (D9 x.2 (o9 A.2.2)) (o5 (F9 A.2.2 x.2) λc=>l7 (RU (λ(a b:d1x)=>seq a b) x.1 c.1) (some (.inl (x.1,x9 .i64 x.2 1))) (o5 (Y9 (λ(x:List (d1x×Int)×Int)=>l7 (D9 x.2 (o9 c.2.2.2.2)) (o5 (F9 c.2.2.2.2 x.2) λd=>l7 (D7 (RU (λ(a b:d1x)=>seq a b) x.1 d.1)) (some (.inl (GX (λ(a b:d1x)=>seq a b) x.1 d.1 x.2,x9 .i64 x.2 1))) (some (.inl (x.1,x9 .i64 x.2 1)))) (some (.inr x.1))) ([],0)) λy=>some (.inl (GX (λ(a b:d1x)=>seq a b) x.1 c.1 (c,y),x9 .i64 x.2 1)))) (some (.inr x.1))) ([],0)) λy=>some y
def q38:FQ:=⟨[tD y27],tR 2 (false,(oW (.ent false true .str y45))),mE 60 [],sN 2 (Y2 (sN 1 (dn (.loop [(3,4),(5,13),(17,59),(7000832,7000833)] ⟨[(3,(false,(oW (.ent false true .str y45)))),(17,G5)],[]⟩ 0 ⟨[(3,(false,(oW (.ent false true .str y45))))],[]⟩ (sN 2 (Y2 (dn (sN 3 (Y2 (sN 1 (dn (.loop [(8,13),(33,52),(40001856,40001857)] ⟨[(8,(false,(oW (.ent false false .str (.int .i64))))),(33,G5)],[]⟩ 2 ⟨[(8,(false,(oW (.ent false false .str (.int .i64)))))],[]⟩ F6))) F6))) F6))))) F6)⟩
def s38:FSpec:=X7 q38 λx=>uP x
def jP(A:List (d1x×iV))(B:d1x)(C:d1x):Option (D6×Int×Bool):=l7 (D7 (RU (λ(a b:d1x)=>seq a b) A B)) (some (([],0,[],[],[]),0,false)) (l7 (D7 (RU (λ(a b:d1x)=>seq a b) (AY (λ(a b:d1x)=>seq a b) A B (([],0,[],[],[]),[])).2 C)) (some (([],0,[],[],[]),0,false)) (some ((AY (λ(a b:d1x)=>seq a b) A B (([],0,[],[],[]),[])).1,AY (λ(a b:d1x)=>seq a b) (AY (λ(a b:d1x)=>seq a b) A B (([],0,[],[],[]),[])).2 C 0,true)))
def q39:FQ:=⟨[uD y46,(uD .str),(uD .str)],⟨[(.cell 6 61,tD y24),(.tmp 7,G5),(.tmp 8,dR)],[]⟩,mE 34 [],F6⟩
def s39:FSpec:=X7 q39 λx=>jP x.1 x.2.1 x.2.2
def oC(A:D6)(B:ak):Option pJ:=o5 (l7 (J5 0 B.2.1) (l7 (D9 B.2.1 (o9 A.2.2.2.1)) (o5 (F9 A.2.2.2.1 B.2.1) λx=>some (x.1,[],B.2.2.2.1,B.2.2.2.2.1,B.2.2.2.2.2.2.2)) (some ([],[],B.2.2.2.1,B.2.2.2.2.1,B.2.2.2.2.2.2.2))) (some ([],[],B.2.2.2.1,B.2.2.2.2.1,B.2.2.2.2.2.2.2))) λx=>l7 (J5 0 B.2.2.1) (l7 (D9 B.2.2.1 (o9 A.2.2.2.2)) (o5 (F9 A.2.2.2.2 B.2.2.1) λb=>some (x.1,b.1,x.2.2)) (some x)) (some x)
def q71:FQ:=⟨[tD y24,tD y19],cR 4 150 (tD y61),mE 52 [],sN 2 (Y2 (.join [(5,6),(13,32),(7000320,7000321)] ⟨[(5,(false,(.box (dT y61))))],[]⟩ F6) F6)⟩
def s71:FSpec:=X7 q71 λx=>oC x.1 x.2
end
end Gt
open Go Go.GP
namespace Gt
set_option maxRecDepth 100000
noncomputable section
def gZ(A:List I9)(B:List I9):d1A:=l7 (D7 (x8 (o9 A) (o9 B))) (some false) (o5 (U1 (λ(x:Int)=>l7 (D9 x (o9 A)) (o5 (F9 A x) λb=>o5 (F9 B x) λc=>l7 (D7 (aj (x8 b.1 c.1) (x8 b.2 c.2))) (some (.rt false)) (some (.nx (x9 .i64 x 1)))) (some (.ex ()))) 0) λo=>U6 o (λy=>some true) λr=>some r)
def q72:FQ:=⟨[uD y12,uD y12],tR 4 dR,mE 26 [],sN 2 (Y2 (sN 1 (dn (lpR [(4,6),(13,26)] ⟨[(13,G5)],[]⟩ 0 nX F6))) F6)⟩
def s72:FSpec:=X7 q72 λx=>gZ x.1 x.2
def yK(A:D6)(B:Int)(C:D6)(D:Int):d1A:=o5 (F9 A.2.2.2.2 B) λx=>o5 (F9 C.2.2.2.2 D) λd=>o5 (oC A x) λb=>o5 (oC C d) λc=>l7 (aj (seq b.1 c.1) (aj (seq b.2.1 c.2.1) (aj (x8 b.2.2.1 c.2.2.1) (aj (x8 b.2.2.2.1.1 c.2.2.2.1.1) (aj (x8 b.2.2.2.1.2 c.2.2.2.1.2) (seq b.2.2.2.2 c.2.2.2.2)))))) (o5 (gZ x.2.2.2.2.2.1 d.2.2.2.2.2.1) λf=>l7 f (o5 (gZ x.2.2.2.2.2.2.1 d.2.2.2.2.2.2.1) λx=>some x) (some false)) (some false)
def q40:FQ:=⟨[tD y24,G5,tD y24,G5],tR 8 dR,mE 42 [(71,s71),(72,s72)],F6⟩
def s40:FSpec:=X7 q40 λx=>yK x.1 x.2.1 x.2.2.1 x.2.2.2
def sQ(A:U5)(B:U5):Option (List iZ):=o5 (uP A) λx=>o5 (uP B) λg=>o5 (Y9 (λ(x:List iZ×Int)=>l7 (D9 x.2 (o9 A.2.2)) (o5 (F9 A.2.2 x.2) λb=>o5 (Y9 (λ(x:List iZ×Int)=>l7 (D9 x.2 (o9 b.2.2.2.2)) (o5 (F9 b.2.2.2.2 x.2) λd=>o5 (jP g b.1 d.1) λc=>l7 (D7 c.2.2) (o5 (dG x.1 [(b.1,d.1,1)]) λf=>some (.inl (f,x9 .i64 x.2 1))) (o5 (yK b x.2 c.1 c.2.1) λf=>l7 (D7 f) (o5 (dG x.1 [(b.1,d.1,3)]) λi=>some (.inl (i,x9 .i64 x.2 1))) (some (.inl (x.1,x9 .i64 x.2 1))))) (some (.inr x.1))) (x.1,0)) λy=>some (.inl (y,x9 .i64 x.2 1))) (some (.inr x.1))) ([],0)) λy=>o5 (Y9 (λ(b:List iZ×Int)=>l7 (D9 b.2 (o9 B.2.2)) (o5 (F9 B.2.2 b.2) λd=>o5 (Y9 (λ(c:List iZ×Int)=>l7 (D9 c.2 (o9 d.2.2.2.2)) (o5 (F9 d.2.2.2.2 c.2) λf=>o5 (jP x d.1 f.1) λx=>l7 (D7 x.2.2) (o5 (dG c.1 [(d.1,f.1,2)]) λx=>some (.inl (x,x9 .i64 c.2 1))) (some (.inl (c.1,x9 .i64 c.2 1)))) (some (.inr c.1))) (b.1,0)) λy=>some (.inl (y,x9 .i64 b.2 1))) (some (.inr b.1))) (y,0)) λy=>some y
def q18:FQ:=⟨[tD y27,tD y27],tR 4 (uO y34),mE 114 [(38,s38),(39,s39),(40,s40)],sN 3 (Y2 (sN 1 (dn (.loop [(7,8),(9,15),(29,77)] ⟨[(7,(uO y34)),(29,G5)],[]⟩ 0 ⟨[(7,(uO y34))],[]⟩ (sN 2 (Y2 (dn (sN 2 (dn (.loop [(7,8),(10,15),(36,76),(17000000,17000001)] ⟨[(7,(uO y34)),(36,G5)],[]⟩ 2 ⟨[(7,(uO y34))],[]⟩ F6)))) F6))))) (Y2 (sN 1 (dn (.loop [(7,8),(16,17),(18,22),(80,113),(18000000,18000001)] ⟨[(7,(uO y34)),(80,G5)],[]⟩ 4 ⟨[(7,(uO y34))],[]⟩ (sN 2 (Y2 (dn (sN 2 (dn (.loop [(7,8),(18,22),(87,112),(76000000,76000001)] ⟨[(7,(uO y34)),(87,G5)],[]⟩ 6 ⟨[(7,(uO y34))],[]⟩ F6)))) F6))))) F6))⟩
def s18:FSpec:=X7 q18 λx=>sQ x.1 x.2
def xO(A:U5)(B:U5)(C:Int)(D:ig)(E:Int):Option (Aa×Int):=o5 (o5 (yI A) λx=>l7 (D7 (aj (x8 x.1 0) (aj (x8 x.2.1 0) (aj (x8 x.2.2.1 0) (x8 x.2.2.2 0))))) (some (.inr (((0,0,0),(0,0,0),0,0,[]),1))) (o5 (yI B) λx=>l7 (D7 (aj (x8 x.1 0) (aj (x8 x.2.1 0) (aj (x8 x.2.2.1 0) (x8 x.2.2.2 0))))) (some (.inr (((0,0,0),(0,0,0),0,0,[]),1))) (some (.inl ((0,0,0),(0,0,0),0,0,[]))))) λo=>U6 o (λ(x:Aa)=>o5 (l7 (D9 C 0) (some (.inr (((0,0,0),(0,0,0),0,0,[]),6))) (l7 (J5 (o9 A.2.2) C) (some (.inr (((0,0,0),(0,0,0),0,0,[]),6))) (l7 (D9 E 0) (some (.inr (((0,0,0),(0,0,0),0,0,[]),6))) (o5 (F9 A.2.2 C) λf=>l7 (J5 (o9 f.2.2.2.1) E) (some (.inr (((0,0,0),(0,0,0),0,0,[]),6))) (some (.inl x)))))) λo=>U6 o (λ(x:Aa)=>o5 (rf A B) λx=>l7 (D7 x) (some (((0,0,0),(0,0,0),0,0,[]),8)) (o5 (wG A C D E) λx=>o5 (wG B C D E) λf=>o5 (wH A C E) λj=>o5 (wH B C E) λi=>o5 (sQ A B) λg=>o5 (Y9 (λ(x:Aa×Int)=>l7 (D9 x.2 (o9 g)) (o5 (F9 g x.2) λk=>o5 (U0 g (U9 x.2)) λc=>l7 (D7 (x8 c.2.2 2)) (l7 (AY (λ(a b:bW)=>aj (seq a.1 b.1) (seq a.2 b.2)) j (c.1,c.2.1) false) (o5 (dG x.1.2.2.2.2 [c]) λd=>some (.inl ((x.1.1,x.1.2.1,x.1.2.2.1,x.1.2.2.2.1,d),x9 .i64 x.2 1))) (l7 (D7 (x8 c.2.2 1)) (l7 (AY (λ(a b:bW)=>aj (seq a.1 b.1) (seq a.2 b.2)) i (c.1,c.2.1) false) (o5 (dG x.1.2.2.2.2 [c]) λd=>some (.inl ((x.1.1,x.1.2.1,x.1.2.2.1,x.1.2.2.2.1,d),x9 .i64 x.2 1))) (some (.inl (x.1,x9 .i64 x.2 1)))) (some (.inl (x.1,x9 .i64 x.2 1))))) (l7 (D7 (x8 c.2.2 1)) (l7 (AY (λ(a b:bW)=>aj (seq a.1 b.1) (seq a.2 b.2)) i (c.1,c.2.1) false) (o5 (dG x.1.2.2.2.2 [c]) λd=>some (.inl ((x.1.1,x.1.2.1,x.1.2.2.1,x.1.2.2.2.1,d),x9 .i64 x.2 1))) (some (.inl (x.1,x9 .i64 x.2 1)))) (some (.inl (x.1,x9 .i64 x.2 1))))) (some (.inr x.1))) ((x.1,f.1,x.2,f.2,[]),0)) λy=>some (y,0))) λr=>some r) λr=>some r
def q6:FQ:=⟨[tD y27,tD y27,G5,tD y32,G5],⟨[(.cell 10 40,tD y39),(.tmp 11,G5)],[]⟩,mE 126 [(14,s14),(15,s15),(16,s16),(17,s17),(18,s18)],sN 1 (Y2 (jnR [(10,12),(18,29),(4000640,4000641)] ⟨[(10,(false,(.box (dT y39))))],[]⟩ F6) (Y2 (jnR [(10,12),(29,54),(6000000,6000001)] ⟨[(10,(false,(.box (dT y39))))],[]⟩ F6) (sN 5 (Y2 (sN 1 (dn (.loop [(12,13),(16,18),(91,125),(37000768,37000769)] ⟨[(12,(false,(.box (pA (dT y3) (pA (dT y3) (pA diM (pA diM (oW y34)))))))),(91,G5)],[]⟩ 0 ⟨[(12,(false,(.box (pA (dT y3) (pA (dT y3) (pA diM (pA diM (oW y34))))))))],[]⟩ F6))) F6))))⟩
def s6:FSpec:=X7 q6 λx=>xO x.1 x.2.1 x.2.2.1 x.2.2.2.1 x.2.2.2.2
def CY(A:List iZ)(B:List iZ):d1A:=l7 (D7 (x8 (o9 A) (o9 B))) (some false) (o5 (U1 (λ(x:Int)=>l7 (D9 x (o9 A)) (l7 (D9 x (o9 B)) (o5 (F9 A x) λb=>o5 (F9 B x) λc=>l7 (D7 (aj (seq b.1 c.1) (aj (seq b.2.1 c.2.1) (x8 b.2.2 c.2.2)))) (some (.rt false)) (some (.nx (x9 .i64 x 1)))) (some (.ex ()))) (some (.ex ()))) 0) λo=>U6 o (λy=>some true) λr=>some r)
def q12:FQ:=⟨[uD y35,uD y35],tR 4 dR,mE 32 [],sN 2 (Y2 (sN 1 (dn (lpR [(4,6),(11,32)] ⟨[(5,G5)],[]⟩ 0 nX F6))) F6)⟩
def s12:FSpec:=X7 q12 λx=>CY x.1 x.2
def DF(A:Aa):d1A:=l7 (x8 A.2.2.1 0) (l7 (x8 A.2.2.2.1 0) (some (D7 (aj (x8 A.1.1 A.2.1.1) (aj (x8 A.1.2.1 A.2.1.2.1) (x8 A.1.2.2 A.2.1.2.2))))) (l7 (x8 A.2.2.1 0) (some true) (some (x8 A.2.2.2.1 0)))) (l7 (x8 A.2.2.1 0) (some true) (some (x8 A.2.2.2.1 0)))
def q13:FQ:=⟨[tD y39],tR 2 dR,mE 24 [],F6⟩
def s13:FSpec:=X7 q13 λx=>DF x
def IG:d1A:=o5 (LG [(3,500)]) λx=>o5 (LG [(3,600)]) λb=>o5 (xO x b 0 (1,[(3,0,0)],[]) 0) λx=>o5 (l7 (D7 (x8 x.2 0)) (some (.inr false)) (l7 (D7 (aj (x8 x.1.1.1 3) (aj (x8 x.1.1.2.1 0) (x8 x.1.1.2.2 500)))) (some (.inr false)) (l7 (D7 (aj (x8 x.1.2.1.1 3) (aj (x8 x.1.2.1.2.1 0) (x8 x.1.2.1.2.2 600)))) (some (.inr false)) (l7 (D7 (x8 x.1.2.2.1 0)) (some (.inr false)) (l7 (D7 (x8 x.1.2.2.2.1 0)) (some (.inr false)) (some (.inl ()))))))) λo=>U6 o (λd=>o5 (CY x.1.2.2.2.2 [([104,111,117,115,101],[98,97,115,101],3)]) λc=>l7 c (o5 (DF x.1) λx=>l7 x (o5 (DF ((0,0,0),(0,0,0),0,0,[])) λx=>some (D7 x)) (some false)) (some false)) λr=>some r
def q5:FQ:=⟨[],tR 0 dR,mE 58 [(11,s11),(6,s6),(12,s12),(13,s13)],sN 4 (Y2 (jnR [(0,1),(20,44)] nX F6) F6)⟩
def s5:FSpec:=X7 q5 λx=>IG
def IQ(A:Int):d1A:=l7 (J5 97 A) (some (J5 A 122)) (some false)
def c2i:FQ:=⟨[(false,(dT (.int .u8)))],tR 2 dR,mE 9 [],F6⟩
def b7I:FSpec:=X7 c2i λx=>IQ x
def NR(A:Int):d1A:=l7 (J5 48 A) (some (J5 A 57)) (some false)
def c2S:FQ:=⟨[(false,(dT (.int .u8)))],tR 2 dR,mE 9 [],F6⟩
def c6Y:FSpec:=X7 c2S λx=>NR x
def Lh(A:Int):d1A:=o5 (IQ A) λx=>l7 x (some true) (o5 (NR A) λx=>l7 x (some true) (some (x8 A 95)))
def c2j:FQ:=⟨[(false,(dT (.int .u8)))],tR 2 dR,mE 13 [(126,b7I),(166,c6Y)],F6⟩
def c6x:FSpec:=X7 c2j λx=>Lh x
def uU:Option (List d1x):=some [[105,102],[116,104,101,110],[101,108,115,101],[111,114],[97,110,100],[110,111,116],[116,114,117,101],[102,97,108,115,101],[116,111,100,97,121],[115,104,97,114,101],[100,105,118],[114,111,117,110,100],[109,105,110],[109,97,120],[112,108,117,115],[109,111,110,116,104,115],[100,97,121,115],[121,101,97,114,115],[121,101,97,114],[109,111,110,116,104],[116,97,98],[98,97,110,100],[99,111,117,110,116],[115,117,109],[97,108,108],[97,110,121],[109,111,115,116],[101,110,117,109],[116,97,98,108,101],[114,111,119],[115,99,111,112,101],[109,101,109,98,101,114,115],[105,110,112,117,116],[100,101,102],[114,117,108,101],[111,102],[111,118,101,114],[112,114,105,111],[102,114,111,109],[116,111],[101,110,100],[119,104,101,110],[105,115],[115,114,99],[98,111,111,108],[105,110,116],[109,111,110,101,121],[114,97,116,101],[100,97,116,101],[100,111,119,110],[117,112],[122,101,114,111],[97,119,97,121],[104,97,108,102],[101,118,101,110]]
def c2k:FQ:=⟨[],tR 0 (uO .str),mE 2 [],F6⟩
def c6y:FSpec:=X7 c2k λx=>uU
def eU(A:d1x):d1A:=o5 (l7 (x8 (o9 A) 0) (some (.inr false)) (l7 (D9 16 (o9 A)) (some (.inr false)) (o5 (sat A 0) λx=>o5 (IQ x) λx=>l7 (D7 x) (some (.inr false)) (some (.inl ()))))) λo=>U6 o (λx=>o5 (U1 (λ(x:Int)=>l7 (D9 x (o9 A)) (o5 (sat A x) λb=>o5 (Lh b) λc=>l7 (D7 c) (some (.rt false)) (some (.nx (x9 .i64 x 1)))) (some (.ex ()))) 0) λo=>U6 o (λy=>o5 uU λx=>o5 (U1 (λ(b:Int)=>l7 (D9 b (o9 x)) (o5 (F9 x b) λc=>o5 (U0 x (U9 b)) λx=>l7 (seq x A) (some (.rt false)) (some (.nx (x9 .i64 b 1)))) (some (.ex ()))) 0) λo=>U6 o (λy=>some true) λr=>some r) λr=>some r) λr=>some r
def q73:FQ:=⟨[uD .str],tR 2 dR,mE 44 [(126,b7I),(127,c6x),(128,c6y)],sN 1 (Y2 (jnR [(2,3),(6,20)] nX F6) (Y2 (sN 1 (dn (lpR [(2,4),(20,31)] ⟨[(3,G5)],[]⟩ 0 nX F6))) (sN 1 (Y2 (sN 1 (dn (lpR [(2,3),(5,6),(32,44)] ⟨[(5,G5)],[]⟩ 2 nX F6))) F6))))⟩
def s73:FSpec:=X7 q73 λx=>eU x
def jE(A:U5)(B:Int)(C:Int)(D:d1x):d1A:=o5 (U1 (λ(x:Int)=>l7 (D9 x (o9 A.1)) (l7 (D9 1 B) (o5 (F9 A.1 x) λb=>l7 (seq b.1 D) (some (.rt true)) (some (.nx (x9 .i64 x 1)))) (l7 (D9 x C) (o5 (F9 A.1 x) λb=>l7 (seq b.1 D) (some (.rt true)) (some (.nx (x9 .i64 x 1)))) (some (.nx (x9 .i64 x 1))))) (some (.ex ()))) 0) λo=>U6 o (λy=>o5 (U1 (λ(x:Int)=>l7 (D9 x (o9 A.2.1)) (l7 (D9 2 B) (o5 (F9 A.2.1 x) λb=>l7 (seq b.1 D) (some (.rt true)) (some (.nx (x9 .i64 x 1)))) (l7 (x8 B 2) (l7 (D9 x C) (o5 (F9 A.2.1 x) λb=>l7 (seq b.1 D) (some (.rt true)) (some (.nx (x9 .i64 x 1)))) (some (.nx (x9 .i64 x 1)))) (some (.nx (x9 .i64 x 1))))) (some (.ex ()))) 0) λo=>U6 o (λy=>o5 (U1 (λ(x:Int)=>l7 (D9 x (o9 A.2.2)) (l7 (x8 B 3) (l7 (D9 x C) (o5 (F9 A.2.2 x) λb=>l7 (seq b.1 D) (some (.rt true)) (some (.nx (x9 .i64 x 1)))) (some (.nx (x9 .i64 x 1)))) (some (.nx (x9 .i64 x 1)))) (some (.ex ()))) 0) λo=>U6 o (λy=>some false) λr=>some r) λr=>some r) λr=>some r
def q74:FQ:=⟨[tD y27,G5,G5,(uD .str)],tR 8 dR,mE 88 [],sN 1 (Y2 (sN 1 (dn (lpR [(8,10),(12,36)] ⟨[(9,G5)],[]⟩ 0 nX F6))) (Y2 (sN 1 (dn (lpR [(8,9),(10,11),(36,64)] ⟨[(10,G5)],[]⟩ 2 nX F6))) (Y2 (sN 1 (dn (lpR [(8,9),(11,12),(64,88)] ⟨[(11,G5)],[]⟩ 4 nX F6))) F6)))⟩
def s74:FSpec:=X7 q74 λx=>jE x.1 x.2.1 x.2.2.1 x.2.2.2
def Az(A:U5)(B:Int):Option N8:=o5 (F9 A.1 B) λx=>o5 (eU x.1) λd=>l7 (D7 d) (some (2,1,B,0)) (o5 (jE A 1 B x.1) λf=>l7 f (some (7,1,B,0)) (l7 (x8 (o9 x.2) 0) (some (5,1,B,0)) (l7 (D9 16 (o9 x.2)) (some (4,1,B,116)) (o5 (U1 (λ(b:N8×N8×Int)=>l7 (D9 b.2.2 (o9 x.2)) (o5 (F9 x.2 b.2.2) λg=>o5 (eU g) λi=>l7 (D7 i) (some (.rt (2,b.2.1.2.1,b.2.1.2.2.1,x9 .i64 100 b.2.2))) (o5 (U1 (λ(c:N8×N8×Int)=>l7 (D9 c.2.2 b.2.2) (o5 (F9 x.2 c.2.2) λj=>o5 (F9 x.2 b.2.2) λx=>l7 (seq j x) (some (.rt (7,c.2.1.2))) (some (.nx (c.1,c.2.1,x9 .i64 c.2.2 1)))) (some (.ex (c.1,c.2.1)))) (b.1,(b.2.1.1,b.2.1.2.1,b.2.1.2.2.1,x9 .i64 100 b.2.2),0)) λo=>U6 o (λ(y:N8×N8)=>some (.nx (y.1,y.2,x9 .i64 b.2.2 1))) λr=>some (.rt r))) (some (.ex b.1))) ((0,0,0,0),(0,1,B,0),0)) λo=>U6 o (λ(y:N8)=>some (0,0,0,0)) λr=>some r))))
def q41:FQ:=⟨[tD y27,G5],cR 4 56 (tD y40),mE 80 [(73,s73),(74,s74)],sN 7 (Y2 (sN 1 (dn (lpR [(4,5),(6,9),(42,79),(4000256,4000257),(10000384,10000385)] ⟨[(4,(false,(.box (dT y40)))),(6,(false,(.box (dT y40)))),(7,G5)],[]⟩ 0 ⟨[(4,(false,(.box (dT y40))))],[]⟩ (sN 1 (Y2 (dn (sN 3 (dn (lpR [(4,5),(6,7),(8,9),(61,79),(72000000,72000002)] ⟨[(4,(false,(.box (dT y40)))),(6,(false,(.box (dT y40)))),(8,G5)],[]⟩ 2 ⟨[(4,(false,(.box (dT y40)))),(6,(false,(.box (dT y40))))],[]⟩ F6)))) F6))))) F6)⟩
def s41:FSpec:=X7 q41 λx=>Az x.1 x.2
def dP(A:I9)(B:List gI):d1A:=l7 (x8 A.1 6) (l7 (J5 0 A.2) (some (D9 A.2 (o9 B))) (some false)) (l7 (J5 1 A.1) (l7 (J5 A.1 5) (some (x8 A.2 0)) (some false)) (some false))
def c2l:FQ:=⟨[tD y2,uD y1],tR 4 dR,mE 31 [],F6⟩
def a9i:FSpec:=X7 c2l λx=>dP x.1 x.2
def yf(A:I9):d1A:=l7 (J5 0 A.1) (l7 (J5 A.1 A.2) (some (J5 A.2 109573)) (some false)) (some false)
def c2r:FQ:=⟨[tD y2],tR 2 dR,mE 18 [],F6⟩
def b2w:FSpec:=X7 c2r λx=>yf x
def nV(A:I9)(B:List gI):Option I9:=o5 (dP A B) λx=>l7 (D7 x) (some (0,-1)) (l7 (x8 A.1 1) (some (0,1)) (l7 (x8 A.1 2) (some (-1000000000000,1000000000000)) (l7 (x8 A.1 3) (some (-1000000000000000,1000000000000000)) (l7 (x8 A.1 4) (some (-1000000000,1000000000)) (l7 (x8 A.1 5) (some (0,109572)) (o5 (F9 B A.2) λx=>some (0,I7 .i64 (o9 x.2) 1)))))))
def c3j:FQ:=⟨[tD y2,uD y1],⟨[(.tmp 4,G5),(.tmp 5,G5)],[]⟩,mE 30 [(129,a9i)],F6⟩
def b7M:FSpec:=X7 c3j λx=>nV x.1 x.2
def Hm(A:Int)(B:I9)(C:List gI):d1A:=o5 (nV B C) λx=>l7 (J5 x.1 A) (some (J5 A x.2)) (some false)
def c2T:FQ:=⟨[G5,tD y2,uD y1],tR 6 dR,mE 23 [(198,b7M)],F6⟩
def b7K:FSpec:=X7 c2T λx=>Hm x.1 x.2.1 x.2.2
def IR(A:ww)(B:bJ)(C:List gI):d1A:=o5 (o5 (yf A.1) λx=>l7 (D7 x) (some (.inr true)) (l7 (x8 A.1.1 A.1.2) (some (.inr true)) (l7 (J5 A.2.2.1 A.2.1) (some (.inr true)) (some (.inl ()))))) λo=>U6 o (λx=>o5 (Hm A.2.1 B.2.1 C) λx=>l7 (D7 x) (some true) (o5 (Hm (I7 .i64 A.2.2.1 1) B.2.1 C) λx=>l7 (D7 x) (some true) (o5 (Hm A.2.2.2 B.2.2.1 C) λx=>some (D7 x)))) λr=>some r
def c2n:FQ:=⟨[tD y4,tD y8,uD y1],tR 6 dR,mE 53 [(133,b2w),(167,b7K)],sN 1 (Y2 (jnR [(6,27)] nX F6) F6)⟩
def c6z:FSpec:=X7 c2n λx=>IR x.1 x.2.1 x.2.2
def Ar(A:I9)(B:I9):Option (I9×Bool):=o5 (yf A) λx=>l7 (D7 x) (some ((0,0),false)) (o5 (yf B) λx=>l7 (D7 x) (some ((0,0),false)) (l7 (J5 (pM A.2 B.2) (nR A.1 B.1)) (some ((0,0),false)) (some ((nR A.1 B.1,pM A.2 B.2),true))))
def c2V:FQ:=⟨[tD y2,tD y2],⟨[(.cell 4 85,tD y2),(.tmp 5,dR)],[]⟩,mE 34 [(133,b2w)],F6⟩
def c6Z:FSpec:=X7 c2V λx=>Ar x.1 x.2
def CO(A:ww)(B:ww):d1A:=o5 (Ar A.1 B.1) λx=>l7 x.2 (some (D9 (nR A.2.1 B.2.1) (pM A.2.2.1 B.2.2.1))) (some false)
def c2o:FQ:=⟨[tD y4,tD y4],tR 4 dR,mE 29 [(168,c6Z)],F6⟩
def c6A:FSpec:=X7 c2o λx=>CO x.1 x.2
def CJ(A:bJ)(B:List gI):Option I9:=l7 (D9 64 (o9 A.2.2.2)) (some (64,4)) (o5 (o5 (dP A.2.1 B) λx=>l7 (D7 x) (some (.inr (-1,8))) (o5 (dP A.2.2.1 B) λx=>l7 (D7 x) (some (.inr (-1,8))) (some (.inl ())))) λo=>U6 o (λx=>o5 (U1 (λ(x:Int)=>l7 (D9 x (o9 A.2.2.2)) (o5 (F9 A.2.2.2 x) λc=>o5 (IR c A B) λd=>l7 d (some (.rt (x,3))) (o5 (U1 (λ(b:Int)=>l7 (D9 b x) (o5 (F9 A.2.2.2 b) λf=>o5 (F9 A.2.2.2 x) λg=>o5 (CO f g) λi=>l7 i (some (.rt (x,11))) (some (.nx (x9 .i64 b 1)))) (some (.ex ()))) 0) λo=>U6 o (λy=>some (.nx (x9 .i64 x 1))) λr=>some (.rt r))) (some (.ex ()))) 0) λo=>U6 o (λy=>some (0,0)) λr=>some r) λr=>some r)
def q75:FQ:=⟨[tD y8,uD y1],⟨[(.tmp 4,G5),(.tmp 5,G5)],[]⟩,mE 57 [(129,a9i),(130,c6z),(131,c6A)],sN 2 (Y2 (jnR [(4,6),(12,24)] nX F6) (Y2 (sN 1 (dn (lpR [(4,8),(24,57)] ⟨[(6,G5)],[]⟩ 0 nX (sN 1 (Y2 (dn (sN 2 (dn (lpR [(4,6),(7,8),(40,57)] ⟨[(7,G5)],[]⟩ 2 nX F6)))) F6))))) F6))⟩
def s75:FSpec:=X7 q75 λx=>CJ x.1 x.2
def yZ(A:U5)(B:Int):Option N8:=o5 (F9 A.2.1 B) λx=>o5 (eU x.1) λb=>l7 (D7 b) (some (2,2,B,0)) (o5 (jE A 2 B x.1) λc=>l7 c (some (7,2,B,0)) (o5 (CJ x A.1) λx=>l7 (x8 x.2 0) (some (0,0,0,0)) (l7 (J5 0 x.1) (some (x.2,2,B,x9 .i64 100 x.1)) (some (x.2,2,B,0)))))
def q42:FQ:=⟨[tD y27,G5],cR 4 56 (tD y40),mE 47 [(73,s73),(74,s74),(75,s75)],F6⟩
def s42:FSpec:=X7 q42 λx=>yZ x.1 x.2
def uY(A:List fF)(B:Int)(C:d1x):d1A:=o5 (U1 (λ(x:Int)=>l7 (D9 x B) (l7 (D9 x (o9 A)) (o5 (F9 A x) λb=>l7 (seq b.1 C) (some (.rt true)) (some (.nx (x9 .i64 x 1)))) (some (.ex ()))) (some (.ex ()))) 0) λo=>U6 o (λy=>some false) λr=>some r
def c2p:FQ:=⟨[uD y11,G5,(uD .str)],tR 6 dR,mE 26 [],sN 1 (Y2 (sN 1 (dn (lpR [(6,26)] ⟨[(7,G5)],[]⟩ 0 nX F6))) F6)⟩
def c6B:FSpec:=X7 c2p λx=>uY x.1 x.2.1 x.2.2
def yV(A:U5)(B:Int):Option N8:=o5 (F9 A.2.2 B) λx=>o5 (U1 (λ(b:N8×Int)=>l7 (D9 b.2 (o9 x.2.2.1)) (o5 (F9 x.2.2.1 b.2) λc=>o5 (eU c.1) λd=>l7 (D7 d) (l7 (D7 (x8 2 0)) (some (.rt (2,3,B,x9 .i64 100 b.2))) (some (.nx (b.1,x9 .i64 b.2 1)))) (o5 (F9 x.2.2.1 b.2) λf=>o5 (uY x.2.2.1 b.2 f.1) λg=>l7 g (l7 (D7 (x8 7 0)) (some (.rt (7,3,B,x9 .i64 100 b.2))) (some (.nx (b.1,x9 .i64 b.2 1)))) (o5 (F9 x.2.2.1 b.2) λx=>o5 (dP x.2 A.1) λx=>l7 (D7 x) (l7 (D7 (x8 8 0)) (some (.rt (8,3,B,x9 .i64 100 b.2))) (some (.nx (b.1,x9 .i64 b.2 1)))) (l7 (D7 (x8 0 0)) (some (.rt (0,3,B,x9 .i64 100 b.2))) (some (.nx (b.1,x9 .i64 b.2 1))))))) (some (.ex b.1))) ((0,0,0,0),0)) λo=>U6 o (λ(y:N8)=>o5 (U1 (λ(b:N8×Int)=>l7 (D9 b.2 (o9 x.2.2.2.1)) (o5 (o5 (F9 x.2.2.2.1 b.2) λc=>o5 (eU c.1) λd=>l7 (D7 d) (some (2,3,B,x9 .i64 200 b.2)) (o5 (F9 x.2.2.2.1 b.2) λf=>o5 (uY x.2.2.1 (o9 x.2.2.1) f.1) λg=>l7 g (some (7,3,B,x9 .i64 200 b.2)) (o5 (F9 x.2.2.2.1 b.2) λi=>o5 (uY x.2.2.2.1 b.2 i.1) λj=>l7 j (some (7,3,B,x9 .i64 200 b.2)) (o5 (F9 x.2.2.2.1 b.2) λx=>o5 (dP x.2 A.1) λx=>l7 (D7 x) (some (8,3,B,x9 .i64 200 b.2)) (some (0,3,B,x9 .i64 200 b.2)))))) λx=>l7 (D7 (x8 x.1 0)) (some (.rt x)) (some (.nx (b.1,x9 .i64 b.2 1)))) (some (.ex b.1))) (y,0)) λo=>U6 o (λ(y:N8)=>some (0,0,0,0)) λr=>some r) λr=>some r
def q76:FQ:=⟨[tD y27,G5],cR 4 56 (tD y40),mE 122 [(73,s73),(132,c6B),(129,a9i)],sN 2 (Y2 (sN 1 (dn (lpR [(4,5),(6,8),(15,61),(4000256,4000257)] ⟨[(4,(false,(.box (dT y40)))),(6,G5)],[]⟩ 0 ⟨[(4,(false,(.box (dT y40))))],[]⟩ F6))) (Y2 (sN 1 (dn (lpR [(4,5),(8,10),(61,121),(15000000,15000001)] ⟨[(4,(false,(.box (dT y40)))),(8,G5)],[]⟩ 2 ⟨[(4,(false,(.box (dT y40))))],[]⟩ (sN 1 (Y2 (dn (sN 1 (Y2 (.join [(9,10),(72,117),(78000576,78000577)] ⟨[(9,(false,(.box (dT y40))))],[]⟩ F6) F6))) F6))))) F6))⟩
def s76:FSpec:=X7 q76 λx=>yV x.1 x.2
def AA(A:d1x):d1A:=o5 (U1 (λ(x:Int)=>l7 (D9 x (o9 A)) (o5 (sat A x) λb=>l7 (D9 b 32) (some (.rt false)) (o5 (sat A x) λc=>l7 (D9 126 c) (some (.rt false)) (o5 (sat A x) λd=>l7 (x8 d 34) (some (.rt false)) (some (.nx (x9 .i64 x 1)))))) (some (.ex ()))) 0) λo=>U6 o (λy=>some (J5 (o9 A) 64)) λr=>some r
def c2s:FQ:=⟨[uD .str],tR 2 dR,mE 29 [],sN 1 (Y2 (sN 1 (dn (lpR [(2,26)] ⟨[(3,G5)],[]⟩ 0 nX F6))) F6)⟩
def c6C:FSpec:=X7 c2s λx=>AA x
def yX(A:List fF):Option (List I9):=o5 (Y9 (λ(x:List I9×Int)=>l7 (D9 x.2 (o9 A)) (o5 (F9 A x.2) λb=>o5 (dG x.1 [b.2]) λc=>some (.inl (c,x9 .i64 x.2 1))) (some (.inr x.1))) ([],0)) λy=>some y
def c2W:FQ:=⟨[uD y11],tR 2 (uO y2),mE 20 [],sN 2 (Y2 (sN 1 (dn (.loop [(3,19)] ⟨[(3,(uO y2)),(4,G5)],[]⟩ 0 ⟨[(3,(uO y2))],[]⟩ F6))) F6)⟩
def c7a:FSpec:=X7 c2W λx=>yX x
def Aw(A:U5)(B:Int):Option L8:=o5 (l7 (D9 B 0) (some (.inr ([],[],[],[],[],false))) (l7 (J5 (o9 A.2.2) B) (some (.inr ([],[],[],[],[],false))) (some (.inl ([],[],[],[],[],false))))) λo=>U6 o (λ(x:L8)=>o5 (F9 A.2.2 B) λx=>o5 (yX x.2.2.1) λb=>o5 (yX x.2.2.2.1) λc=>l7 (J5 0 x.2.1) (l7 (D9 x.2.1 (o9 A.2.2)) (o5 (F9 A.2.2 x.2.1) λx=>o5 (yX x.2.2.2.1) λx=>some (A.1,A.2.1,b,c,x,true)) (some (A.1,A.2.1,b,c,[],false))) (some (A.1,A.2.1,b,c,[],false))) λr=>some r
def c2t:FQ:=⟨[tD y27,G5],cR 4 188 (tD y66),mE 55 [(169,c7a)],sN 1 (Y2 (jnR [(4,5),(7,17),(4000256,4000257)] ⟨[(4,(false,(.box (dT y66))))],[]⟩ F6) F6)⟩
def c6D:FSpec:=X7 c2t λx=>Aw x.1 x.2
def iY(A:Int):d1B:=o5 (l7 (J5 1 A) (l7 (J5 A 9) (some (.inr 0)) (l7 (J5 35 A) (l7 (J5 A 39) (some (.inr 0)) (some (.inl ()))) (some (.inl ())))) (l7 (J5 35 A) (l7 (J5 A 39) (some (.inr 0)) (some (.inl ()))) (some (.inl ())))) λo=>U6 o (λx=>l7 (x8 A 10) (l7 (x8 A 10) (some 1) (l7 (x8 A 26) (some 3) (l7 (J5 11 A) (l7 (J5 A 30) (some 2) (some (-1))) (some (-1))))) (l7 (x8 A 25) (l7 (x8 A 25) (some 1) (l7 (x8 A 26) (some 3) (l7 (J5 11 A) (l7 (J5 A 30) (some 2) (some (-1))) (some (-1))))) (l7 (x8 A 31) (l7 (x8 A 31) (some 1) (l7 (x8 A 26) (some 3) (l7 (J5 11 A) (l7 (J5 A 30) (some 2) (some (-1))) (some (-1))))) (l7 (x8 A 32) (l7 (x8 A 32) (some 1) (l7 (x8 A 26) (some 3) (l7 (J5 11 A) (l7 (J5 A 30) (some 2) (some (-1))) (some (-1))))) (l7 (x8 A 33) (l7 (x8 A 33) (some 1) (l7 (x8 A 26) (some 3) (l7 (J5 11 A) (l7 (J5 A 30) (some 2) (some (-1))) (some (-1))))) (l7 (x8 A 34) (some 1) (l7 (x8 A 26) (some 3) (l7 (J5 11 A) (l7 (J5 A 30) (some 2) (some (-1))) (some (-1)))))))))) λr=>some r
def c3l:FQ:=⟨[G5],tR 2 G5,mE 33 [],sN 1 (Y2 (jnR [(2,17)] nX F6) F6)⟩
def b2G:FSpec:=X7 c3l λx=>iY x
def rU(A:List I9):Option (d1v×I9):=l7 (D9 48 (o9 A)) (some ([],0,4)) (l7 (x8 (o9 A) 0) (some ([],0,5)) (o5 (U1 (λ(x:d1v×d1v×Int)=>l7 (D9 x.2.2 (o9 A)) (o5 (F9 A x.2.2) λg=>o5 (iY g.1) λb=>l7 (D9 b 0) (some (.rt ([],x.2.2,2))) (l7 (D9 (o9 x.2.1) b) (some (.rt ([],x.2.2,5))) (l7 (D9 0 b) (o5 (F9 x.2.1 (I7 .i64 (o9 x.2.1) b)) λd=>o5 (U0 x.2.1 (U9 (I7 .i64 (o9 x.2.1) b))) λc=>l7 (qQ 0 (I7 .i64 (o9 x.2.1) b) (o9 x.2.1)) (o5 (dG (oD x.2.1 (U9 0) (U9 (I7 .i64 (o9 x.2.1) b))) [c]) λf=>o5 (dG x.1 [c]) λi=>l7 (D9 12 (o9 f)) (some (.rt ([],x.2.2,16))) (some (.nx (i,f,x9 .i64 x.2.2 1)))) none) (o5 (dG x.2.1 [x.2.2]) λd=>o5 (dG x.1 [x.2.2]) λc=>l7 (D9 12 (o9 d)) (some (.rt ([],x.2.2,16))) (some (.nx (c,d,x9 .i64 x.2.2 1))))))) (some (.ex (x.1,x.2.1)))) ([],[],0)) λo=>U6 o (λ(y:d1v×d1v)=>l7 (D9 1 (o9 y.2)) (some ([],o9 A,4)) (some (y.1,0,0))) λr=>some r))
def c3k:FQ:=⟨[uD y12],⟨[(.tmp 2,jR),(.tmp 3,G5),(.tmp 4,G5)],[]⟩,mE 70 [(200,b2G)],sN 4 (Y2 (sN 1 (dn (lpR [(2,10),(16,64)] ⟨[(5,jR),(6,jR),(7,G5)],[]⟩ 0 ⟨[(5,jR),(6,jR)],[]⟩ F6))) F6)⟩
def b5z:FSpec:=X7 c3k λx=>rU x
def iy(A:Int):d1A:=o5 (l7 (J5 1 A) (l7 (J5 A 8) (some (.inr true)) (l7 (J5 36 A) (l7 (J5 A 39) (some (.inr true)) (some (.inl ()))) (some (.inl ())))) (l7 (J5 36 A) (l7 (J5 A 39) (some (.inr true)) (some (.inl ()))) (some (.inl ())))) λo=>U6 o (λx=>l7 (x8 A 14) (some true) (l7 (x8 A 15) (some true) (l7 (x8 A 16) (some true) (l7 (x8 A 33) (some true) (some (x8 A 34)))))) λr=>some r
def c3B:FQ:=⟨[G5],tR 2 dR,mE 35 [],sN 1 (Y2 (jnR [(2,17)] nX F6) F6)⟩
def c7x:FSpec:=X7 c3B λx=>iy x
def jB(A:Int):Option I9:=some (A,0)
def c4d:FQ:=⟨[G5],cR 2 79 (tD y2),mE 5 [],F6⟩
def a9k:FSpec:=X7 c4d λx=>jB x
def sW(A:I9)(B:L8):d1A:=o5 (l7 (x8 A.1 1) (some (x8 A.1 1)) (l7 (x8 A.1 2) (some (x8 A.1 2)) (l7 (x8 A.1 3) (some (x8 A.1 3)) (l7 (x8 A.1 4) (some (x8 A.1 4)) (some (x8 A.1 5)))))) λx=>l7 x (o5 (jB A.1) λx=>o5 (nV x B.1) λx=>l7 (J5 x.1 A.2) (some (J5 A.2 x.2)) (some false)) (o5 (l7 (x8 A.1 14) (some (x8 A.1 14)) (l7 (x8 A.1 15) (some (x8 A.1 15)) (some (x8 A.1 16)))) λx=>l7 x (l7 (J5 0 A.2) (some (J5 A.2 5)) (some false)) (l7 (x8 A.1 34) (l7 (J5 0 A.2) (some (J5 (dM A.2 8) 5)) (some false)) (l7 (x8 A.1 6) (some (J5 0 A.2)) (some true))))
def c3C:FQ:=⟨[tD y2,tD y66],tR 4 dR,mE 62 [(258,a9k),(198,b7M)],sN 1 (Y2 (sN 1 (dn (Y2 (.join [(9,15)] ⟨[(9,dR)],[]⟩ F6) (.cond F6 (Y2 (.join [(34,38)] ⟨[(34,dR)],[]⟩ F6) F6))))) F6)⟩
def c7y:FSpec:=X7 c3C λx=>sW x.1 x.2
def vH(A:I9)(B:L8):d1A:=l7 (x8 A.1 6) (l7 (D9 (dD .i64 A.2 16) (o9 B.1)) (o5 (F9 B.1 (dD .i64 A.2 16)) λx=>some (D9 (dM A.2 16) (o9 x.2))) (some false)) (l7 (x8 A.1 7) (l7 (J5 0 A.2) (some (D9 A.2 (o9 B.2.2.1))) (some false)) (l7 (x8 A.1 8) (l7 (J5 0 A.2) (some (D9 A.2 (o9 B.2.2.2.1))) (some false)) (l7 (x8 A.1 33) (l7 (J5 0 A.2) (some (D9 A.2 (o9 B.2.1))) (some false)) (l7 (x8 A.1 34) (some (D9 (dD .i64 A.2 8) (o9 B.2.1))) (l7 (x8 A.1 35) (some B.2.2.2.2.2) (o5 (l7 (x8 A.1 36) (some (x8 A.1 36)) (l7 (x8 A.1 37) (some (x8 A.1 37)) (l7 (x8 A.1 38) (some (x8 A.1 38)) (some (x8 A.1 39))))) λx=>l7 x (l7 B.2.2.2.2.2 (l7 (J5 0 A.2) (some (D9 A.2 (o9 B.2.2.2.2.1))) (some false)) (some false)) (some true)))))))
def c3E:FQ:=⟨[tD y2,tD y66],tR 4 dR,mE 103 [],sN 1 (Y2 (sN 1 (dn (sN 1 (.cond F6 (sN 1 (.cond F6 (sN 1 (.cond F6 (sN 1 (.cond F6 (sN 1 (.cond F6 (sN 1 (.cond F6 (Y2 (.join [(83,88)] ⟨[(83,dR)],[]⟩ F6) F6))))))))))))))) F6)⟩
def c7z:FSpec:=X7 c3E λx=>vH x.1 x.2
def yR(A:Int):d1A:=l7 (x8 A 2) (some true) (l7 (x8 A 3) (some true) (some (x8 A 4)))
def c4f:FQ:=⟨[G5],tR 2 dR,mE 13 [],F6⟩
def b5B:FSpec:=X7 c4f λx=>yR x
def uk(A:Int):d1A:=o5 (yR A) λx=>l7 x (some true) (some (x8 A 5))
def c4e:FQ:=⟨[G5],tR 2 dR,mE 9 [(260,b5B)],F6⟩
def b7S:FSpec:=X7 c4e λx=>uk x
def lX(A:I9)(B:L8):Option (I9×Bool):=o5 (l7 (x8 A.1 6) (some (6,dD .i64 A.2 16)) (l7 (x8 A.1 7) (o5 (F9 B.2.2.1 A.2) λx=>some x) (l7 (x8 A.1 8) (o5 (F9 B.2.2.2.1 A.2) λx=>some x) (l7 (x8 A.1 9) (o5 (jB 5) λx=>some x) (l7 (x8 A.1 35) (o5 (jB 2) λx=>some x) (o5 (l7 (x8 A.1 36) (some (x8 A.1 36)) (l7 (x8 A.1 37) (some (x8 A.1 37)) (l7 (x8 A.1 38) (some (x8 A.1 38)) (some (x8 A.1 39))))) λx=>l7 x (o5 (F9 B.2.2.2.2.1 A.2) λx=>some x) (o5 (jB A.1) λx=>some x))))))) λx=>o5 (dP x B.1) λb=>l7 (x8 A.1 36) (l7 b (l7 (x8 x.1 2) (some (x,true)) (some (x,x8 x.1 3))) (some (x,false))) (l7 (x8 A.1 37) (l7 (x8 A.1 37) (l7 b (some (x,x8 x.1 1)) (some (x,false))) (l7 (x8 A.1 39) (l7 b (o5 (uk x.1) λc=>some (x,c)) (some (x,false))) (some (x,b)))) (l7 (x8 A.1 38) (l7 b (some (x,x8 x.1 1)) (some (x,false))) (l7 (x8 A.1 39) (l7 b (o5 (uk x.1) λc=>some (x,c)) (some (x,false))) (some (x,b)))))
def c3F:FQ:=⟨[tD y2,tD y66],⟨[(.cell 4 79,tD y2),(.tmp 5,dR)],[]⟩,mE 91 [(258,a9k),(129,a9i),(259,b7S)],sN 2 (Y2 (.join [(6,7),(9,53),(7000384,7000385)] ⟨[(6,(false,(.box (dT y2))))],[]⟩ (sN 1 (dn (sN 1 (.cond F6 (sN 1 (.cond F6 (sN 1 (.cond F6 (sN 1 (.cond F6 (sN 1 (.cond F6 (Y2 (.join [(42,47)] ⟨[(42,dR)],[]⟩ F6) F6)))))))))))))) F6)⟩
def c7A:FSpec:=X7 c3F λx=>lX x.1 x.2
def vT(A:I9)(B:I9)(C:L8):Option (I9×Bool):=l7 (x8 A.1 10) (o5 (yR B.1) λx=>some (B,x)) (l7 (x8 A.1 25) (some (B,x8 B.1 1)) (o5 (l7 (x8 A.1 31) (some (x8 A.1 31)) (some (x8 A.1 32))) λx=>l7 x (o5 (jB 2) λx=>some (x,x8 B.1 5)) (l7 (x8 A.1 33) (o5 (F9 C.2.1 A.2) λx=>o5 (dP x.2.1 C.1) λb=>l7 b (o5 (dP x.2.2.1 C.1) λc=>l7 c (some (x.2.2.1,aj (x8 B.1 x.2.1.1) (x8 B.2 x.2.1.2))) (some (x.2.2.1,false))) (some (x.2.2.1,false))) (o5 (F9 C.2.1 (dD .i64 A.2 8)) λx=>l7 (x8 B.1 3) (o5 (jB 3) λb=>l7 (aj (x8 x.2.1.1 b.1) (x8 x.2.1.2 b.2)) (o5 (jB 4) λc=>some (B,aj (x8 x.2.2.1.1 c.1) (x8 x.2.2.1.2 c.2))) (some (B,false))) (some (B,false))))))
def c3G:FQ:=⟨[tD y2,tD y2,tD y66],⟨[(.cell 6 79,tD y2),(.tmp 7,dR)],[]⟩,mE 82 [(260,b5B),(258,a9k),(129,a9i)],sN 1 (Y2 (sN 1 (dn (sN 1 (.cond F6 (sN 1 (.cond F6 (Y2 (.join [(24,27)] ⟨[(24,dR)],[]⟩ F6) F6))))))) F6)⟩
def c7B:FSpec:=X7 c3G λx=>vT x.1 x.2.1 x.2.2
def SH(A:Int)(B:Int)(C:Int):Option (I9×Bool):=l7 (x8 A 13) (o5 (jB B) λx=>l7 (x8 C 2) (l7 (x8 B 2) (some (x,true)) (some (x,x8 B 3))) (some (x,false))) (l7 (x8 A 14) (o5 (jB B) λx=>l7 (x8 C 4) (l7 (x8 B 3) (some (x,true)) (some (x,x8 B 4))) (some (x,false))) (l7 (x8 B 3) (l7 (x8 C 3) (o5 (jB 4) λx=>some (x,true)) (o5 (jB B) λx=>l7 (x8 C 2) (l7 (x8 B 2) (some (x,true)) (some (x,x8 B 3))) (some (x,false)))) (o5 (jB B) λx=>l7 (x8 C 2) (l7 (x8 B 2) (some (x,true)) (some (x,x8 B 3))) (some (x,false)))))
def c4g:FQ:=⟨[G5,G5,G5],⟨[(.cell 6 79,tD y2),(.tmp 7,dR)],[]⟩,mE 56 [(258,a9k)],F6⟩
def c7U:FSpec:=X7 c4g λx=>SH x.1 x.2.1 x.2.2
def yQ(A:Int)(B:I9)(C:I9):Option (I9×Bool):=o5 (o5 (l7 (x8 A 11) (some (x8 A 11)) (some (x8 A 12))) λx=>l7 x (l7 (aj (x8 B.1 C.1) (x8 B.2 C.2)) (o5 (yR B.1) λx=>some (.inr (B,x))) (some (.inr (B,false)))) (o5 (l7 (x8 A 13) (some (x8 A 13)) (l7 (x8 A 14) (some (x8 A 14)) (some (x8 A 15)))) λx=>l7 x (o5 (SH A B.1 C.1) λx=>some (.inr x)) (l7 (x8 A 16) (l7 (x8 B.1 3) (some (.inr (B,x8 C.1 3))) (some (.inr (B,false)))) (o5 (l7 (x8 A 17) (some (x8 A 17)) (some (x8 A 18))) λx=>l7 x (l7 (aj (x8 B.1 C.1) (x8 B.2 C.2)) (o5 (uk B.1) λx=>some (.inr (B,x))) (some (.inr (B,false)))) (o5 (l7 (x8 A 19) (some (x8 A 19)) (some (x8 A 20))) λx=>l7 x (o5 (jB 1) λx=>some (.inr (x,aj (x8 B.1 C.1) (x8 B.2 C.2)))) (o5 (l7 (x8 A 21) (some (x8 A 21)) (some (x8 A 22))) λx=>l7 x (o5 (jB 1) λx=>l7 (aj (x8 B.1 C.1) (x8 B.2 C.2)) (o5 (uk B.1) λb=>some (.inr (x,b))) (some (.inr (x,false)))) (l7 (x8 A 23) (l7 (x8 A 23) (l7 (x8 B.1 1) (some (.inr (B,x8 C.1 1))) (some (.inr (B,false)))) (l7 (x8 A 27) (l7 (x8 A 27) (l7 (x8 B.1 5) (some (.inr (B,x8 C.1 2))) (some (.inr (B,false)))) (some (.inl (0,0)))) (l7 (x8 A 28) (l7 (x8 B.1 5) (some (.inr (B,x8 C.1 2))) (some (.inr (B,false)))) (some (.inl (0,0)))))) (l7 (x8 A 24) (l7 (x8 B.1 1) (some (.inr (B,x8 C.1 1))) (some (.inr (B,false)))) (l7 (x8 A 27) (l7 (x8 A 27) (l7 (x8 B.1 5) (some (.inr (B,x8 C.1 2))) (some (.inr (B,false)))) (some (.inl (0,0)))) (l7 (x8 A 28) (l7 (x8 B.1 5) (some (.inr (B,x8 C.1 2))) (some (.inr (B,false)))) (some (.inl (0,0))))))))))))) λo=>U6 o (λ(x:I9)=>o5 (jB 2) λx=>l7 (x8 B.1 5) (some (x,x8 C.1 5)) (some (x,false))) λr=>some r
def c3H:FQ:=⟨[G5,tD y2,tD y2],⟨[(.cell 6 79,tD y2),(.tmp 7,dR)],[]⟩,mE 108 [(260,b5B),(261,c7U),(259,b7S),(258,a9k)],sN 1 (Y2 (jnR [(6,99),(4000384,4000385)] ⟨[(6,(false,(.box (dT y2))))],[]⟩ (sN 1 (dn (Y2 (.join [(9,12)] ⟨[(9,dR)],[]⟩ F6) (.cond F6 (Y2 (.join [(21,25)] ⟨[(21,dR)],[]⟩ F6) (.cond F6 (sN 1 (.cond F6 (Y2 (.join [(44,47)] ⟨[(44,dR)],[]⟩ F6) (.cond F6 (Y2 (.join [(56,59)] ⟨[(56,dR)],[]⟩ F6) (.cond F6 (Y2 (.join [(63,66)] ⟨[(63,dR)],[]⟩ F6) F6)))))))))))))) F6)⟩
def c7C:FSpec:=X7 c3H λx=>yQ x.1 x.2.1 x.2.2
def yP(A:I9)(B:List I9)(C:L8):Option (I9×Int):=o5 (l7 (D7 (x8 A.2 0)) (o5 (iy A.1) λx=>l7 (D7 x) (some (.inr ((0,0),2))) (some (.inl (0,0)))) (some (.inl (0,0)))) λo=>U6 o (λ(x:I9)=>o5 (sW A C) λx=>l7 (D7 x) (some ((0,0),3)) (o5 (vH A C) λx=>l7 (D7 x) (some ((0,0),6)) (l7 (x8 (o9 B) 0) (o5 (lX A C) λx=>l7 (D7 x.2) (some ((0,0),8)) (some (x.1,0))) (l7 (x8 (o9 B) 1) (o5 (F9 B 0) λx=>o5 (vT A x C) λx=>l7 (D7 x.2) (some ((0,0),8)) (some (x.1,0))) (l7 (x8 (o9 B) 2) (o5 (F9 B 0) λx=>o5 (F9 B 1) λb=>o5 (yQ A.1 x b) λx=>l7 (D7 x.2) (some ((0,0),8)) (some (x.1,0))) (o5 (F9 B 1) λx=>o5 (F9 B 0) λb=>l7 (x8 b.1 1) (o5 (F9 B 1) λc=>o5 (F9 B 2) λd=>l7 (D7 (aj (x8 c.1 d.1) (x8 c.2 d.2))) (some ((0,0),8)) (some (x,0))) (l7 (D7 false) (some ((0,0),8)) (some (x,0))))))))) λr=>some r
def c3n:FQ:=⟨[tD y2,uD y12,tD y66],⟨[(.cell 6 79,tD y2),(.tmp 7,G5)],[]⟩,mE 87 [(228,c7x),(229,c7y),(230,c7z),(231,c7A),(232,c7B),(233,c7C)],sN 1 (Y2 (jnR [(6,8),(10,20),(4000384,4000385)] ⟨[(6,(false,(.box (dT y2))))],[]⟩ F6) F6)⟩
def c7n:FSpec:=X7 c3n λx=>yP x.1 x.2.1 x.2.2
def FN(A:List I9)(B:L8):Option (I9×I9):=o5 (rU A) λx=>l7 (D7 (x8 x.2.2 0)) (some ((0,0),x.2)) (o5 (U1 (λ(x:I9×List I9×Int)=>l7 (D9 x.2.2 (o9 A)) (o5 (F9 A x.2.2) λd=>o5 (iY d.1) λb=>o5 (F9 A x.2.2) λf=>l7 (qQ (I7 .i64 (o9 x.2.1) b) (o9 x.2.1) (o9 x.2.1)) (o5 (yP f (oD x.2.1 (U9 (I7 .i64 (o9 x.2.1) b)) (U9 (o9 x.2.1))) B) λc=>l7 (D7 (x8 c.2 0)) (some (.rt ((0,0),x.2.2,c.2))) (l7 (qQ 0 (I7 .i64 (o9 x.2.1) b) (o9 x.2.1)) (o5 (dG (oD x.2.1 (U9 0) (U9 (I7 .i64 (o9 x.2.1) b))) [c.1]) λg=>some (.nx (x.1,g,x9 .i64 x.2.2 1))) none)) none) (some (.ex (x.1,x.2.1)))) ((0,0),[],0)) λo=>U6 o (λ(y:I9×List I9)=>o5 (F9 y.2 0) λx=>o5 (U0 y.2 (U9 0)) λx=>some (x,0,0)) λr=>some r)
def c2X:FQ:=⟨[uD y12,tD y66],⟨[(.cell 4 79,tD y2),(.tmp 5,G5),(.tmp 6,G5)],[]⟩,mE 67 [(199,b5z),(200,b2G),(201,c7n)],sN 4 (Y2 (sN 1 (dn (lpR [(4,7),(10,15),(26,64),(4000256,4000257)] ⟨[(4,(false,(.box (dT y2)))),(10,(uO y2)),(11,G5)],[]⟩ 0 ⟨[(4,(false,(.box (dT y2)))),(10,(uO y2))],[]⟩ F6))) F6)⟩
def c7b:FSpec:=X7 c2X λx=>FN x.1 x.2
def rV(A:List I9)(B:L8)(C:I9):d1B:=o5 (FN A B) λx=>l7 (D7 (x8 x.2.2 0)) (some x.2.2) (l7 (D7 (aj (x8 x.1.1 C.1) (x8 x.1.2 C.2))) (some 8) (some 0))
def c2u:FQ:=⟨[uD y12,tD y66,tD y2],tR 6 G5,mE 23 [(170,c7b)],F6⟩
def c6E:FSpec:=X7 c2u λx=>rV x.1 x.2.1 x.2.2
def AB(A:U5)(B:Int)(C:Int):d1B:=o5 (F9 A.2.2 B) λx=>o5 (F9 x.2.2.2.2 C) λb=>o5 (eU b.1) λi=>l7 (D7 i) (some 2) (o5 (U1 (λ(c:I9)=>l7 (D9 c.2 C) (o5 (F9 x.2.2.2.2 c.2) λf=>l7 (seq f.1 b.1) (some (.rt 7)) (o5 (F9 x.2.2.2.2 c.2) λx=>l7 (x8 x.2.1 b.2.1) (some (.nx (x9 .i64 c.1 1,x9 .i64 c.2 1))) (some (.nx (c.1,x9 .i64 c.2 1))))) (some (.ex c.1))) (0,0)) λo=>U6 o (λy=>o5 (l7 (D9 b.2.1 0) (some (.inr 6)) (l7 (J5 (o9 x.2.2.2.1) b.2.1) (some (.inr 6)) (some (.inl ())))) λo=>U6 o (λc=>o5 (l7 (D7 (x8 b.2.2.1 (-1))) (l7 (D9 b.2.2.1 0) (some (.inr 9)) (l7 (J5 C b.2.2.1) (some (.inr 9)) (o5 (F9 x.2.2.2.2 b.2.2.1) λx=>l7 (D7 (x8 x.2.1 b.2.1)) (some (.inr 9)) (some (.inl ()))))) (some (.inl ()))) λo=>U6 o (λf=>o5 (l7 (D9 b.2.2.2.1 0) (some (.inr 3)) (l7 (D9 9 b.2.2.2.1) (some (.inr 3)) (o5 (yf b.2.2.2.2.1) λx=>l7 (D7 x) (some (.inr 3)) (l7 (x8 b.2.2.2.2.1.1 b.2.2.2.2.1.2) (some (.inr 3)) (some (.inl ())))))) λo=>U6 o (λk=>l7 (J5 8 y) (some 4) (o5 (AA b.2.2.2.2.2.2.2) λj=>l7 (D7 j) (some 2) (o5 (Aw A B) λd=>l7 (D9 0 (o9 b.2.2.2.2.2.1)) (o5 (rV b.2.2.2.2.2.1 d (1,0)) λg=>l7 (D7 (x8 g 0)) (some g) (o5 (F9 x.2.2.2.1 b.2.1) λx=>o5 (rV b.2.2.2.2.2.2.1 d x.2) λx=>some x)) (o5 (F9 x.2.2.2.1 b.2.1) λx=>o5 (rV b.2.2.2.2.2.2.1 d x.2) λx=>some x)))) λr=>some r) λr=>some r) λr=>some r) λr=>some r)
def q77:FQ:=⟨[tD y27,G5,G5],tR 6 G5,mE 144 [(73,s73),(133,b2w),(134,c6C),(135,c6D),(136,c6E)],sN 5 (Y2 (sN 1 (dn (lpR [(6,7),(9,11),(27,52)] ⟨[(9,G5),(10,G5)],[]⟩ 0 ⟨[(9,G5)],[]⟩ F6))) (Y2 (jnR [(6,7),(52,63)] nX F6) (Y2 (jnR [(6,7),(63,89)] nX F6) (Y2 (jnR [(6,7),(89,112)] nX F6) F6))))⟩
def s77:FSpec:=X7 q77 λx=>AB x.1 x.2.1 x.2.2
def d1i:List MG:=[(true,(.dat y24)),G5]
def d1m:Ret:=⟨[(.tmp 4,dR)],[]⟩
def e96:Env:=⟨14,eqs,tt,gl,[],[],[],[],[],[]⟩
def d1q:Ann:=.leaf
def EI(A:D6)(B:Int):d1A:=l7 (J5 0 B) (some (D9 B (o9 A.2.2.2.1))) (some false)
def s96:FSpec:=mkS d1i d1m λx=>EI x.1 x.2
def d0Z:List MG:=[(false,(.dat y43)),G5]
def d1b:Ret:=⟨[(.tmp 4,jR)],[]⟩
def d1s:Env:=⟨48,eqs,tt,gl,[],[],[],[],[],[]⟩
def d1e:Ann:=.seq F6 (.seq F6 (.seq F6 (.seq (.seq F6 (.blk (.loop [(5,41)] ⟨[(5,jR),(6,dR),(7,G5)],[]⟩ 0 ⟨[(5,jR),(6,dR)],[]⟩ F6))) F6)))
def qi(A:d1v)(B:Int):Option d1v:=o5 (Y9 (λ(x:d1v×Bool×Int)=>l7 (D9 x.2.2 (o9 A)) (l7 (D7 x.2.1) (o5 (F9 A x.2.2) λd=>l7 (J5 B d) (o5 (F9 A x.2.2) λb=>l7 (D9 B b) (o5 (dG x.1 [B]) λc=>o5 (F9 A x.2.2) λf=>o5 (dG c [f]) λg=>some (.inl (g,true,x9 .i64 x.2.2 1))) (o5 (F9 A x.2.2) λc=>o5 (dG x.1 [c]) λf=>some (.inl (f,true,x9 .i64 x.2.2 1)))) (o5 (F9 A x.2.2) λb=>o5 (dG x.1 [b]) λc=>some (.inl (c,x.2.1,x9 .i64 x.2.2 1)))) (o5 (F9 A x.2.2) λd=>o5 (dG x.1 [d]) λb=>some (.inl (b,x.2.1,x9 .i64 x.2.2 1)))) (some (.inr (x.1,x.2.1)))) ([],false,0)) λy=>l7 (D7 y.2) (o5 (dG y.1 [B]) λx=>some x) (some y.1)
def c6M:FSpec:=mkS d0Z d1b λx=>qi x.1 x.2
def d1j:List MG:=[(false,(.dat y12))]
def d1n:Ret:=⟨[(.tmp 2,jR),(.tmp 3,jR),(.tmp 4,jR)],[]⟩
def e98:Env:=⟨55,eqs,tt,gl,[(144,c6M)],[],[],[],[],[]⟩
def d1r:Ann:=.seq F6 (.seq F6 (.seq (.seq F6 (.blk (.loop [(5,52)] ⟨[(5,jR),(6,jR),(7,jR),(8,G5)],[]⟩ 0 ⟨[(5,jR),(6,jR),(7,jR)],[]⟩ F6))) F6))
def nK(A:List I9):Option kM:=o5 (Y9 (λ(x:d1v×d1v×d1v×Int)=>l7 (D9 x.2.2.2 (o9 A)) (o5 (F9 A x.2.2.2) λc=>l7 (x8 c.1 7) (o5 (F9 A x.2.2.2) λf=>o5 (qi x.1 f.2) λb=>l7 (x8 c.1 8) (o5 (F9 A x.2.2.2) λg=>o5 (qi x.2.1 g.2) λd=>l7 (J5 36 c.1) (l7 (J5 c.1 39) (o5 (F9 A x.2.2.2) λi=>o5 (qi x.2.2.1 i.2) λj=>some (.inl (b,d,j,x9 .i64 x.2.2.2 1))) (some (.inl (b,d,x.2.2.1,x9 .i64 x.2.2.2 1)))) (some (.inl (b,d,x.2.2.1,x9 .i64 x.2.2.2 1)))) (l7 (J5 36 c.1) (l7 (J5 c.1 39) (o5 (F9 A x.2.2.2) λg=>o5 (qi x.2.2.1 g.2) λd=>some (.inl (b,x.2.1,d,x9 .i64 x.2.2.2 1))) (some (.inl (b,x.2.1,x.2.2.1,x9 .i64 x.2.2.2 1)))) (some (.inl (b,x.2.1,x.2.2.1,x9 .i64 x.2.2.2 1))))) (l7 (x8 c.1 8) (o5 (F9 A x.2.2.2) λf=>o5 (qi x.2.1 f.2) λb=>l7 (J5 36 c.1) (l7 (J5 c.1 39) (o5 (F9 A x.2.2.2) λg=>o5 (qi x.2.2.1 g.2) λd=>some (.inl (x.1,b,d,x9 .i64 x.2.2.2 1))) (some (.inl (x.1,b,x.2.2.1,x9 .i64 x.2.2.2 1)))) (some (.inl (x.1,b,x.2.2.1,x9 .i64 x.2.2.2 1)))) (l7 (J5 36 c.1) (l7 (J5 c.1 39) (o5 (F9 A x.2.2.2) λf=>o5 (qi x.2.2.1 f.2) λb=>some (.inl (x.1,x.2.1,b,x9 .i64 x.2.2.2 1))) (some (.inl (x.1,x.2.1,x.2.2.1,x9 .i64 x.2.2.2 1)))) (some (.inl (x.1,x.2.1,x.2.2.1,x9 .i64 x.2.2.2 1)))))) (some (.inr (x.1,x.2.1,x.2.2.1)))) ([],[],[],0)) λy=>some y
def s98:FSpec:=mkS d1j d1n λx=>nK x
def d1h:List MG:=[(false,(.dat y43)),G5]
def d1l:Ret:=⟨[(.tmp 4,jR)],[]⟩
def e94:Env:=⟨48,eqs,tt,gl,[],[],[],[],[],[]⟩
def d1p:Ann:=.seq F6 (.seq F6 (.seq F6 (.seq (.seq F6 (.blk (.loop [(5,41)] ⟨[(5,jR),(6,dR),(7,G5)],[]⟩ 0 ⟨[(5,jR),(6,dR)],[]⟩ F6))) F6)))
def kX(A:d1v)(B:Int):Option d1v:=o5 (Y9 (λ(x:d1v×Bool×Int)=>l7 (D9 x.2.2 (o9 A)) (l7 (D7 x.2.1) (o5 (F9 A x.2.2) λd=>l7 (J5 B d) (o5 (F9 A x.2.2) λb=>l7 (D9 B b) (o5 (dG x.1 [B]) λc=>o5 (F9 A x.2.2) λf=>o5 (dG c [f]) λg=>some (.inl (g,true,x9 .i64 x.2.2 1))) (o5 (F9 A x.2.2) λc=>o5 (dG x.1 [c]) λf=>some (.inl (f,true,x9 .i64 x.2.2 1)))) (o5 (F9 A x.2.2) λb=>o5 (dG x.1 [b]) λc=>some (.inl (c,x.2.1,x9 .i64 x.2.2 1)))) (o5 (F9 A x.2.2) λd=>o5 (dG x.1 [d]) λb=>some (.inl (b,x.2.1,x9 .i64 x.2.2 1)))) (some (.inr (x.1,x.2.1)))) ([],false,0)) λy=>l7 (D7 y.2) (o5 (dG y.1 [B]) λx=>some x) (some y.1)
def s94:FSpec:=mkS d1h d1l λx=>kX x.1 x.2
def d1g:List MG:=[(true,(.dat y24)),G5]
def d1k:Ret:=⟨[(.tmp 4,jR)],[]⟩
def e93:Env:=⟨93,eqs,tt,gl,[(96,s96),(98,s98),(94,s94)],[],[],[],[],[]⟩
def d1o:Ann:=.seq F6 (.seq F6 (.seq F6 (.seq (.seq F6 (.blk (.loop [(5,15),(19,92)] ⟨[(5,jR),(6,G5)],[]⟩ 0 ⟨[(5,jR)],[]⟩ (.seq F6 (.seq (.blk (.seq F6 (.seq F6 (.seq F6 (.seq (.seq F6 (.blk (.loop [(5,6),(13,14),(56,74),(24000000,24000001)] ⟨[(5,jR),(13,G5)],[]⟩ 2 ⟨[(5,jR)],[]⟩ F6))) (.seq F6 (.blk (.loop [(5,6),(14,15),(74,92),(55000000,55000001)] ⟨[(5,jR),(14,G5)],[]⟩ 4 ⟨[(5,jR)],[]⟩ F6)))))))) F6))))) F6)))
def yU(A:D6)(B:Int):Option d1v:=o5 (EI A B) λx=>l7 (D7 x) (some []) (o5 (Y9 (λ(x:d1v×Int)=>l7 (D9 x.2 (o9 A.2.2.2.2)) (o5 (F9 A.2.2.2.2 x.2) λj=>l7 (D7 (x8 j.2.1 B)) (some (.inl (x.1,x9 .i64 x.2 1))) (o5 (F9 A.2.2.2.2 x.2) λk=>o5 (nK k.2.2.2.2.2.1) λb=>o5 (F9 A.2.2.2.2 x.2) λn=>o5 (nK n.2.2.2.2.2.2.1) λc=>o5 (Y9 (λ(x:d1v×Int)=>l7 (D9 x.2 (o9 b.2.1)) (o5 (F9 b.2.1 x.2) λp=>o5 (U0 b.2.1 (U9 x.2)) λg=>o5 (EI A g) λi=>l7 i (o5 (F9 b.2.1 x.2) λq=>o5 (U0 b.2.1 (U9 x.2)) λd=>o5 (kX x.1 d) λf=>some (.inl (f,x9 .i64 x.2 1))) (some (.inl (x.1,x9 .i64 x.2 1)))) (some (.inr x.1))) (x.1,0)) λy=>o5 (Y9 (λ(x:d1v×Int)=>l7 (D9 x.2 (o9 c.2.1)) (o5 (F9 c.2.1 x.2) λp=>o5 (U0 c.2.1 (U9 x.2)) λg=>o5 (EI A g) λi=>l7 i (o5 (F9 c.2.1 x.2) λq=>o5 (U0 c.2.1 (U9 x.2)) λd=>o5 (kX x.1 d) λf=>some (.inl (f,x9 .i64 x.2 1))) (some (.inl (x.1,x9 .i64 x.2 1)))) (some (.inr x.1))) (y,0)) λy=>some (.inl (y,x9 .i64 x.2 1)))) (some (.inr x.1))) ([],0)) λy=>some y)
def s93:FSpec:=mkS d1g d1k λx=>yU x.1 x.2
def c1Q:List MG:=[(true,(.dat y24)),G5]
def d0J:Ret:=⟨[(.tmp 4,(false,(.fr (.int .i64))))],[]⟩
def e51:Env:=⟨47,eqs,tt,gl,[(93,s93),(94,s94)],[],[],[],[],[]⟩
def d0x:Ann:=.seq F6 (.seq F6 (.seq (.seq F6 (.blk (.loop [(5,11),(14,46),(7000832,7000833)] ⟨[(5,(false,(.fr (.int .i64)))),(6,G5)],[]⟩ 0 ⟨[(5,(false,(.fr (.int .i64))))],[]⟩ (.seq F6 (.seq (.blk (.seq F6 (.seq F6 (.blk (.loop [(5,6),(8,11),(22,46)] ⟨[(5,(false,(.fr (.int .i64)))),(8,G5)],[]⟩ 2 ⟨[(5,(false,(.fr (.int .i64))))],[]⟩ (.seq F6 (.seq (.blk (.seq F6 (.seq F6 (.blk (.loop [(5,6),(10,11),(34,46)] ⟨[(5,(false,(.fr (.int .i64)))),(10,G5)],[]⟩ 4 ⟨[(5,(false,(.fr (.int .i64))))],[]⟩ F6))))) F6))))))) F6))))) F6))
def lI(A:D6)(B:Int):Option d1v:=o5 (yU A B) λx=>o5 (Y9 (λ(x:d1v×Int)=>l7 (D9 x.2 (o9 A.2.2.2.1)) (o5 (Y9 (λ(c:d1v×Int)=>l7 (D9 c.2 (o9 x.1)) (o5 (F9 x.1 c.2) λx=>o5 (yU A x) λx=>o5 (Y9 (λ(b:d1v×Int)=>l7 (D9 b.2 (o9 x)) (o5 (F9 x b.2) λd=>o5 (U0 x (U9 b.2)) λx=>o5 (kX b.1 x) λx=>some (.inl (x,x9 .i64 b.2 1))) (some (.inr b.1))) (c.1,0)) λy=>some (.inl (y,x9 .i64 c.2 1))) (some (.inr c.1))) (x.1,0)) λy=>some (.inl (y,x9 .i64 x.2 1))) (some (.inr x.1))) (x,0)) λy=>some y
def s51:FSpec:=⟨c1Q,[jR],[],λx=>lI x.1 x.2⟩
def d1a:List MG:=[(true,(.dat y24)),G5]
def d1c:Ret:=⟨[(.tmp 4,(false,(.dat y43)))],[]⟩
def d1t:Env:=⟨47,eqs,tt,gl,[(93,s93),(94,s94)],[],[],[],[],[]⟩
def d1f:Ann:=.seq F6 (.seq F6 (.seq (.seq F6 (.blk (.loop [(5,11),(14,46),(7000832,7000833)] ⟨[(5,(false,(.dat y43))),(6,G5)],[]⟩ 0 ⟨[(5,(false,(.dat y43)))],[]⟩ (.seq F6 (.seq (.blk (.seq F6 (.seq F6 (.blk (.loop [(5,6),(8,11),(22,46)] ⟨[(5,(false,(.dat y43))),(8,G5)],[]⟩ 2 ⟨[(5,(false,(.dat y43)))],[]⟩ (.seq F6 (.seq (.blk (.seq F6 (.seq F6 (.blk (.loop [(5,6),(10,11),(34,46)] ⟨[(5,(false,(.dat y43))),(10,G5)],[]⟩ 4 ⟨[(5,(false,(.dat y43)))],[]⟩ F6))))) F6))))))) F6))))) F6))
def d0X:FSpec:=mkS d1a d1c λx=>lI x.1 x.2
def yY(A:U5)(B:Int):Option N8:=o5 (F9 A.2.2 B) λx=>o5 (eU x.1) λg=>l7 (D7 g) (some (2,3,B,0)) (o5 (jE A 3 B x.1) λi=>l7 i (some (7,3,B,0)) (o5 (l7 (D7 (x8 x.2.1 (-1))) (l7 (D9 x.2.1 0) (some (.inr (6,3,B,0))) (l7 (J5 B x.2.1) (some (.inr (6,3,B,0))) (o5 (F9 A.2.2 x.2.1) λx=>l7 (D7 (x8 x.2.1 (-1))) (some (.inr (6,3,B,0))) (some (.inl ((0,0,0,0),0,3,B,0)))))) (some (.inl ((0,0,0,0),0,3,B,0)))) λo=>U6 o (λ(c:N8×N8)=>l7 (D9 12 (o9 x.2.2.1)) (some (4,c.2.2.1,c.2.2.2.1,112)) (l7 (D9 12 (o9 x.2.2.2.1)) (some (4,c.2.2.1,c.2.2.2.1,212)) (o5 (yV A B) λf=>l7 (D7 (x8 f.1 0)) (some f) (o5 (U1 (λ(b:N8×Int)=>l7 (D9 b.2 (o9 x.2.2.2.2)) (o5 (AB A B b.2) λx=>l7 (D7 (x8 x 0)) (some (.rt (x,3,B,x9 .i64 300 b.2))) (some (.nx (b.1,x9 .i64 b.2 1)))) (some (.ex b.1))) (c.1,0)) λo=>U6 o (λ(y:N8)=>o5 (U1 (λ(b:N8×Int)=>l7 (D9 b.2 (o9 x.2.2.2.1)) (o5 (lI x b.2) λx=>o5 (U1 (λ(d:N8×Int)=>l7 (D9 d.2 (o9 x)) (o5 (F9 x d.2) λx=>l7 (x8 x b.2) (some (.rt (9,3,B,x9 .i64 200 b.2))) (some (.nx (d.1,x9 .i64 d.2 1)))) (some (.ex d.1))) (b.1,0)) λo=>U6 o (λ(y:N8)=>some (.nx (y,x9 .i64 b.2 1))) λr=>some (.rt r)) (some (.ex b.1))) (y,0)) λo=>U6 o (λ(y:N8)=>some (0,0,0,0)) λr=>some r) λr=>some r)))) λr=>some r))
def q43:FQ:=⟨[tD y27,G5],cR 4 56 (tD y40),mE 125 [(73,s73),(74,s74),(76,s76),(77,s77),(51,d0X)],sN 5 (Y2 (jnR [(4,5),(6,7),(33,59),(4000256,4000257),(10000384,10000385)] ⟨[(4,(false,(.box (dT y40)))),(6,(false,(.box (dT y40))))],[]⟩ F6) (sN 4 (Y2 (sN 1 (dn (lpR [(4,5),(8,10),(80,98),(38000000,38000001)] ⟨[(4,(false,(.box (dT y40)))),(8,G5)],[]⟩ 0 ⟨[(4,(false,(.box (dT y40))))],[]⟩ F6))) (Y2 (sN 1 (dn (lpR [(4,5),(10,13),(98,124),(102000000,102000001)] ⟨[(4,(false,(.box (dT y40)))),(10,G5)],[]⟩ 2 ⟨[(4,(false,(.box (dT y40))))],[]⟩ (sN 1 (Y2 (dn (sN 2 (dn (lpR [(4,5),(12,13),(108,124),(132000000,132000001)] ⟨[(4,(false,(.box (dT y40)))),(12,G5)],[]⟩ 4 ⟨[(4,(false,(.box (dT y40))))],[]⟩ F6)))) F6))))) F6))))⟩
def s43:FSpec:=X7 q43 λx=>yY x.1 x.2
def uX(A:U5):Option N8:=l7 (D9 8 (o9 A.1)) (some (4,1,8,0)) (o5 (U1 (λ(x:N8×Int)=>l7 (D9 x.2 (o9 A.1)) (o5 (Az A x.2) λb=>l7 (D7 (x8 b.1 0)) (some (.rt b)) (some (.nx (x.1,x9 .i64 x.2 1)))) (some (.ex x.1))) ((0,0,0,0),0)) λo=>U6 o (λ(y:N8)=>l7 (D9 8 (o9 A.2.1)) (some (4,2,8,0)) (o5 (U1 (λ(x:N8×Int)=>l7 (D9 x.2 (o9 A.2.1)) (o5 (yZ A x.2) λb=>l7 (D7 (x8 b.1 0)) (some (.rt b)) (some (.nx (x.1,x9 .i64 x.2 1)))) (some (.ex x.1))) (y,0)) λo=>U6 o (λ(y:N8)=>l7 (D9 4 (o9 A.2.2)) (some (4,3,4,0)) (o5 (U1 (λ(x:N8×Int)=>l7 (D9 x.2 (o9 A.2.2)) (o5 (yY A x.2) λb=>l7 (D7 (x8 b.1 0)) (some (.rt b)) (some (.nx (x.1,x9 .i64 x.2 1)))) (some (.ex x.1))) (y,0)) λo=>U6 o (λ(y:N8)=>some (0,0,0,0)) λr=>some r)) λr=>some r)) λr=>some r)
def q19:FQ:=⟨[tD y27],cR 2 56 (tD y40),mE 67 [(41,s41),(42,s42),(43,s43)],sN 2 (Y2 (sN 1 (dn (lpR [(2,5),(14,28),(4000128,4000129)] ⟨[(2,(false,(.box (dT y40)))),(3,G5)],[]⟩ 0 ⟨[(2,(false,(.box (dT y40))))],[]⟩ F6))) (sN 1 (Y2 (sN 1 (dn (lpR [(2,3),(5,7),(33,47),(22000000,22000001)] ⟨[(2,(false,(.box (dT y40)))),(5,G5)],[]⟩ 2 ⟨[(2,(false,(.box (dT y40))))],[]⟩ F6))) (sN 1 (Y2 (sN 1 (dn (lpR [(2,3),(7,9),(52,66),(63000000,63000001)] ⟨[(2,(false,(.box (dT y40)))),(7,G5)],[]⟩ 4 ⟨[(2,(false,(.box (dT y40))))],[]⟩ F6))) F6)))))⟩
def s19:FSpec:=X7 q19 λx=>uX x
def Gf(A:List d1x)(B:List d1x):d1A:=l7 (D7 (x8 (o9 A) (o9 B))) (some false) (o5 (U1 (λ(x:Int)=>l7 (D9 x (o9 A)) (l7 (D9 x (o9 B)) (o5 (F9 A x) λb=>o5 (F9 B x) λc=>l7 (D7 (seq b c)) (some (.rt false)) (some (.nx (x9 .i64 x 1)))) (some (.ex ()))) (some (.ex ()))) 0) λo=>U6 o (λy=>some true) λr=>some r)
def c2w:FQ:=⟨[uD (.sl .str),(uD (.sl .str))],tR 4 dR,mE 32 [],sN 2 (Y2 (sN 1 (dn (lpR [(4,6),(11,32)] ⟨[(5,G5)],[]⟩ 0 nX F6))) F6)⟩
def c6F:FSpec:=X7 c2w λx=>Gf x.1 x.2
def Py(A:gI)(B:gI):d1A:=l7 (seq A.1 B.1) (o5 (Gf A.2 B.2) λx=>some x) (some false)
def q78:FQ:=⟨[tD y0,tD y0],tR 4 dR,mE 17 [(137,c6F)],F6⟩
def s78:FSpec:=X7 q78 λx=>Py x.1 x.2
def LC(A:List gI)(B:List gI):d1A:=l7 (D7 (x8 (o9 A) (o9 B))) (some false) (o5 (U1 (λ(x:Int)=>l7 (D9 x (o9 A)) (l7 (D9 x (o9 B)) (o5 (F9 A x) λb=>o5 (F9 B x) λc=>o5 (Py b c) λd=>l7 (D7 d) (some (.rt false)) (some (.nx (x9 .i64 x 1)))) (some (.ex ()))) (some (.ex ()))) 0) λo=>U6 o (λy=>some true) λr=>some r)
def q44:FQ:=⟨[uD y1,uD y1],tR 4 dR,mE 33 [(78,s78)],sN 2 (Y2 (sN 1 (dn (lpR [(4,6),(11,33)] ⟨[(5,G5)],[]⟩ 0 nX F6))) F6)⟩
def s44:FSpec:=X7 q44 λx=>LC x.1 x.2
def Pz(A:List ww)(B:List ww):d1A:=l7 (D7 (x8 (o9 A) (o9 B))) (some false) (o5 (U1 (λ(x:Int)=>l7 (D9 x (o9 A)) (l7 (D9 x (o9 B)) (o5 (F9 A x) λb=>o5 (F9 B x) λc=>l7 (D7 (aj (x8 b.1.1 c.1.1) (aj (x8 b.1.2 c.1.2) (aj (x8 b.2.1 c.2.1) (aj (x8 b.2.2.1 c.2.2.1) (x8 b.2.2.2 c.2.2.2)))))) (some (.rt false)) (some (.nx (x9 .i64 x 1)))) (some (.ex ()))) (some (.ex ()))) 0) λo=>U6 o (λy=>some true) λr=>some r)
def c2x:FQ:=⟨[uD y5,uD y5],tR 4 dR,mE 32 [],sN 2 (Y2 (sN 1 (dn (lpR [(4,6),(11,32)] ⟨[(5,G5)],[]⟩ 0 nX F6))) F6)⟩
def c6G:FSpec:=X7 c2x λx=>Pz x.1 x.2
def LD(A:bJ)(B:bJ):d1A:=l7 (seq A.1 B.1) (l7 (aj (x8 A.2.1.1 B.2.1.1) (x8 A.2.1.2 B.2.1.2)) (l7 (aj (x8 A.2.2.1.1 B.2.2.1.1) (x8 A.2.2.1.2 B.2.2.1.2)) (o5 (Pz A.2.2.2 B.2.2.2) λx=>some x) (some false)) (some false)) (some false)
def q79:FQ:=⟨[tD y8,tD y8],tR 4 dR,mE 31 [(138,c6G)],F6⟩
def s79:FSpec:=X7 q79 λx=>LD x.1 x.2
def Ja(A:List bJ)(B:List bJ):d1A:=l7 (D7 (x8 (o9 A) (o9 B))) (some false) (o5 (U1 (λ(x:Int)=>l7 (D9 x (o9 A)) (l7 (D9 x (o9 B)) (o5 (F9 A x) λb=>o5 (F9 B x) λc=>o5 (LD b c) λd=>l7 (D7 d) (some (.rt false)) (some (.nx (x9 .i64 x 1)))) (some (.ex ()))) (some (.ex ()))) 0) λo=>U6 o (λy=>some true) λr=>some r)
def q45:FQ:=⟨[uD y9,uD y9],tR 4 dR,mE 33 [(79,s79)],sN 2 (Y2 (sN 1 (dn (lpR [(4,6),(11,33)] ⟨[(5,G5)],[]⟩ 0 nX F6))) F6)⟩
def s45:FSpec:=X7 q45 λx=>Ja x.1 x.2
def yx(A:List fF)(B:List fF):d1A:=l7 (D7 (x8 (o9 A) (o9 B))) (some false) (o5 (U1 (λ(x:Int)=>l7 (D9 x (o9 A)) (l7 (D9 x (o9 B)) (o5 (F9 A x) λb=>o5 (F9 B x) λc=>l7 (D7 (aj (seq b.1 c.1) (aj (x8 b.2.1 c.2.1) (x8 b.2.2 c.2.2)))) (some (.rt false)) (some (.nx (x9 .i64 x 1)))) (some (.ex ()))) (some (.ex ()))) 0) λo=>U6 o (λy=>some true) λr=>some r)
def q46:FQ:=⟨[uD y11,uD y11],tR 4 dR,mE 32 [],sN 2 (Y2 (sN 1 (dn (lpR [(4,6),(11,32)] ⟨[(5,G5)],[]⟩ 0 nX F6))) F6)⟩
def s46:FSpec:=X7 q46 λx=>yx x.1 x.2
def uy(A:U5)(B:U5):d1A:=o5 (o5 (LC A.1 B.1) λx=>l7 (D7 x) (some (.inr false)) (o5 (Ja A.2.1 B.2.1) λx=>l7 (D7 x) (some (.inr false)) (l7 (D7 (x8 (o9 A.2.2) (o9 B.2.2))) (some (.inr false)) (some (.inl ()))))) λo=>U6 o (λx=>o5 (U1 (λ(x:Int)=>l7 (D9 x (o9 A.2.2)) (o5 (F9 A.2.2 x) λb=>o5 (F9 B.2.2 x) λc=>l7 (D7 (seq b.1 c.1)) (some (.rt false)) (l7 (D7 (x8 b.2.1 c.2.1)) (some (.rt false)) (o5 (yx b.2.2.1 c.2.2.1) λd=>l7 (D7 d) (some (.rt false)) (o5 (yx b.2.2.2.1 c.2.2.2.1) λf=>l7 (D7 f) (some (.rt false)) (some (.nx (x9 .i64 x 1))))))) (some (.ex ()))) 0) λo=>U6 o (λy=>some true) λr=>some r) λr=>some r
def q20:FQ:=⟨[tD y27,tD y27],tR 4 dR,mE 76 [(44,s44),(45,s45),(46,s46)],sN 1 (Y2 (jnR [(4,5),(8,31)] nX F6) (Y2 (sN 1 (dn (lpR [(4,8),(31,76)] ⟨[(5,G5)],[]⟩ 0 nX F6))) F6))⟩
def s20:FSpec:=X7 q20 λx=>uy x.1 x.2
def Jw(A:U5):d1A:=o5 (uX A) λx=>some (x8 x.1 0)
def q80:FQ:=⟨[tD y27],tR 2 dR,mE 7 [(19,s19)],F6⟩
def s80:FSpec:=X7 q80 λx=>Jw x
def QM(A:J4):Option I9:=some (A.1,A.2.1)
def c2Y:FQ:=⟨[tD y3],cR 2 79 (tD y2),mE 8 [],F6⟩
def c7c:FSpec:=X7 c2Y λx=>QM x
def zf(A:U5)(B:List fF)(C:List J4):Option I9:=l7 (D9 (o9 C) (o9 B)) (some (o9 C,5)) (l7 (D9 (o9 B) (o9 C)) (some (o9 B,4)) (o5 (U1 (λ(x:Int)=>l7 (D9 x (o9 C)) (o5 (F9 C x) λd=>o5 (QM d) λb=>o5 (F9 B x) λc=>l7 (D7 (aj (x8 b.1 c.2.1) (x8 b.2 c.2.2))) (some (.rt (x,8))) (o5 (F9 C x) λf=>o5 (F9 B x) λg=>o5 (Hm f.2.2 g.2 A.1) λi=>l7 (D7 i) (some (.rt (x,3))) (some (.nx (x9 .i64 x 1))))) (some (.ex ()))) 0) λo=>U6 o (λy=>some (0,0)) λr=>some r))
def c2y:FQ:=⟨[tD y27,uD y11,uD y29],⟨[(.tmp 6,G5),(.tmp 7,G5)],[]⟩,mE 56 [(171,c7c),(167,b7K)],sN 3 (Y2 (sN 1 (dn (lpR [(6,9),(23,56)] ⟨[(8,G5)],[]⟩ 0 nX F6))) F6)⟩
def c6H:FSpec:=X7 c2y λx=>zf x.1 x.2.1 x.2.2
def En(A:U5)(B:Int):Option I9:=o5 (F9 A.2.2 B) λx=>l7 (D9 x.2.1 0) (some (-1,0)) (l7 (J5 (o9 A.2.2) x.2.1) (some (-1,0)) (some (x.2.1,8)))
def c2z:FQ:=⟨[tD y27,G5],⟨[(.tmp 4,G5),(.tmp 5,G5)],[]⟩,mE 23 [],F6⟩
def c6I:FSpec:=X7 c2z λx=>En x.1 x.2
def CU(A:U5)(B:Int)(C:ig):Option J4:=o5 (l7 (D9 B 0) (some (.inr (-1,-1,6))) (l7 (J5 (o9 A.2.2) B) (some (.inr (-1,-1,6))) (some (.inl ())))) λo=>U6 o (λx=>o5 (l7 (D9 C.1 0) (some (.inr (-1,-1,3))) (l7 (D9 109572 C.1) (some (.inr (-1,-1,3))) (some (.inl ())))) λo=>U6 o (λx=>o5 (F9 A.2.2 B) λx=>o5 (zf A x.2.2.1 C.2.1) λx=>l7 (D7 (x8 x.2 0)) (some (-1,x)) (o5 (En A B) λx=>l7 (D9 x.2 (o9 C.2.2)) (some (x.2,-1,4)) (o5 (U1 (λ(b:Int)=>l7 (D9 b (o9 C.2.2)) (o5 (F9 A.2.2 x.1) λx=>o5 (F9 C.2.2 b) λc=>o5 (zf A x.2.2.1 c) λx=>l7 (D7 (x8 x.2 0)) (some (.rt (b,x))) (some (.nx (x9 .i64 b 1)))) (some (.ex ()))) 0) λo=>U6 o (λy=>some (0,0,0)) λr=>some r))) λr=>some r) λr=>some r
def q81:FQ:=⟨[tD y27,G5,tD y32],⟨[(.tmp 6,G5),(.tmp 7,G5),(.tmp 8,G5)],[]⟩,mE 90 [(139,c6H),(140,c6I)],sN 1 (Y2 (jnR [(6,9),(16,25)] nX F6) (Y2 (jnR [(6,9),(25,33)] nX F6) (sN 4 (Y2 (sN 1 (dn (lpR [(6,9),(13,16),(62,90)] ⟨[(13,G5)],[]⟩ 0 nX F6))) F6))))⟩
def s81:FSpec:=X7 q81 λx=>CU x.1 x.2.1 x.2.2
def CV(A:U5)(B:Int)(C:ig)(D:Int)(E:Bool):Option N8:=o5 (Jw A) λx=>l7 (D7 x) (some (1,-1,-1,-1)) (o5 (l7 (D9 B 0) (some (.inr (6,-1,-1,-1))) (l7 (J5 (o9 A.2.2) B) (some (.inr (6,-1,-1,-1))) (l7 E (l7 (D9 D 0) (some (.inr (6,-1,-1,-1))) (o5 (F9 A.2.2 B) λx=>l7 (J5 (o9 x.2.2.2.1) D) (some (.inr (6,-1,-1,-1))) (some (.inl (0,0,0,0))))) (some (.inl (0,0,0,0)))))) λo=>U6 o (λ(x:N8)=>o5 (CU A B C) λx=>l7 (D7 (x8 x.2.2 0)) (some (x.2.2,x.1,-1,-1)) (some (0,0,0,0))) λr=>some r)
def q47:FQ:=⟨[tD y27,G5,tD y32,G5,dR],cR 10 71 (tD y40),mE 60 [(80,s80),(81,s81)],sN 2 (Y2 (jnR [(10,11),(18,46),(4000640,4000641)] ⟨[(10,(false,(.box (dT y40))))],[]⟩ F6) F6)⟩
def s47:FSpec:=X7 q47 λx=>CV x.1 x.2.1 x.2.2.1 x.2.2.2.1 x.2.2.2.2
def zQ(A:D6)(B:d1z)(C:Int):Option d1z:=o5 (F9 B C) λx=>o5 (U0 B (U9 C)) λx=>o5 (lI A C) λx=>o5 (Y9 (λ(b:d1z×Int)=>l7 (D9 b.2 (o9 x)) (o5 (F9 x b.2) λx=>o5 (F9 b.1 x) λc=>o5 (U0 b.1 (U9 x)) λd=>some (.inl (bi b.1 (U9 x) true,x9 .i64 b.2 1))) (some (.inr b.1))) (bi B (U9 C) true,0)) λy=>some y
def q82:FQ:=⟨[tD y24,(false,(.ownb .bool)),G5],⟨[],[(1,(uO .bool))]⟩,⟨26,eqs,tt,gl,[(51,d0X)],[],[],[],[1],[]⟩,sN 4 (dn (.loop [(1,2),(7,8),(14,26),(1000000,1000001)] ⟨[(1,(uO .bool)),(7,G5)],[]⟩ 0 ⟨[(1,(uO .bool))],[]⟩ F6))⟩
def s82:FSpec:=X7 q82 λx=>zQ x.1 x.2.1 x.2.2
def lY(A:U5)(B:Int):Option D6:=o5 (F9 A.2.2 B) λx=>l7 (D9 x.2.1 0) (some ([],0,[],[],[])) (l7 (J5 (o9 A.2.2) x.2.1) (some ([],0,[],[],[])) (o5 (F9 A.2.2 x.2.1) λx=>some x))
def q83:FQ:=⟨[tD y27,G5],cR 4 61 (tD y24),mE 27 [],F6⟩
def s83:FSpec:=X7 q83 λx=>lY x.1 x.2
def BA(A:d1v)(B:Int):d1A:=o5 (U1 (λ(x:Int)=>l7 (D9 x (o9 A)) (o5 (F9 A x) λb=>l7 (x8 b B) (some (.rt true)) (some (.nx (x9 .i64 x 1)))) (some (.ex ()))) 0) λo=>U6 o (λy=>some false) λr=>some r
def q97:FQ:=⟨[uD y43,G5],tR 4 dR,mE 18 [],sN 1 (Y2 (sN 1 (dn (lpR [(4,18)] ⟨[(5,G5)],[]⟩ 0 nX F6))) F6)⟩
def s97:FSpec:=X7 q97 λx=>BA x.1 x.2
def uV(A:D6)(B:Int):Option d1v:=o5 (EI A B) λx=>l7 (D7 x) (some []) (o5 (lI A B) λx=>o5 (kX x B) λx=>o5 (Y9 (λ(b:d1v×Int)=>l7 (D9 b.2 (o9 A.2.2.2.2)) (o5 (F9 A.2.2.2.2 b.2) λg=>o5 (BA x g.2.1) λx=>l7 (D7 x) (some (.inl (b.1,x9 .i64 b.2 1))) (o5 (F9 A.2.2.2.2 b.2) λx=>o5 (nK x.2.2.2.2.2.1) λx=>o5 (F9 A.2.2.2.2 b.2) λi=>o5 (nK i.2.2.2.2.2.2.1) λd=>o5 (Y9 (λ(c:d1v×Int)=>l7 (D9 c.2 (o9 x.2.2)) (o5 (F9 x.2.2 c.2) λf=>o5 (U0 x.2.2 (U9 c.2)) λx=>o5 (kX c.1 x) λx=>some (.inl (x,x9 .i64 c.2 1))) (some (.inr c.1))) (b.1,0)) λy=>o5 (Y9 (λ(x:d1v×Int)=>l7 (D9 x.2 (o9 d.2.2)) (o5 (F9 d.2.2 x.2) λc=>o5 (U0 d.2.2 (U9 x.2)) λf=>o5 (kX x.1 f) λj=>some (.inl (j,x9 .i64 x.2 1))) (some (.inr x.1))) (y,0)) λy=>some (.inl (y,x9 .i64 b.2 1)))) (some (.inr b.1))) ([],0)) λy=>some y)
def q53:FQ:=⟨[tD y24,G5],tR 4 jR,mE 88 [(96,s96),(51,d0X),(94,s94),(97,s97),(98,s98)],sN 4 (Y2 (sN 1 (dn (.loop [(6,16),(25,87)] ⟨[(6,jR),(7,G5)],[]⟩ 0 ⟨[(6,jR)],[]⟩ (sN 1 (Y2 (dn (sN 3 (Y2 (sN 1 (dn (.loop [(6,7),(14,15),(63,75),(27000000,27000001)] ⟨[(6,jR),(14,G5)],[]⟩ 2 ⟨[(6,jR)],[]⟩ F6))) (sN 1 (dn (.loop [(6,7),(15,16),(75,87),(58000000,58000001)] ⟨[(6,jR),(15,G5)],[]⟩ 4 ⟨[(6,jR)],[]⟩ F6)))))) F6))))) F6)⟩
def s53:FSpec:=X7 q53 λx=>uV x.1 x.2
def tu(A:U5)(B:Int)(C:d1z)(D:Int):Option d1z:=o5 (F9 A.2.2 B) λx=>o5 (uV x D) λx=>o5 (Y9 (λ(b:d1z×Int)=>l7 (D9 b.2 (o9 x)) (o5 (lY A B) λc=>o5 (F9 x b.2) λd=>o5 (U0 x (U9 b.2)) λx=>o5 (zQ c b.1 x) λx=>some (.inl (x,x9 .i64 b.2 1))) (some (.inr b.1))) (C,0)) λy=>some y
def q84:FQ:=⟨[tD y27,G5,(false,(.ownb .bool)),G5],⟨[],[(2,(uO .bool))]⟩,⟨32,eqs,tt,gl,[(53,s53),(83,s83),(82,s82)],[],[],[],[2],[]⟩,sN 3 (dn (.loop [(2,3),(9,10),(17,32),(1000000,1000001)] ⟨[(2,(uO .bool)),(9,G5)],[]⟩ 0 ⟨[(2,(uO .bool))],[]⟩ F6))⟩
def s84:FSpec:=X7 q84 λx=>tu x.1 x.2.1 x.2.2.1 x.2.2.2
def ET(A:U5)(B:ig)(C:Int):Option bn:=o5 (F9 B.2.2 C) λx=>some (B.1,x,[],[],[],A.2.1)
def c2A:FQ:=⟨[tD y27,tD y32,G5],cR 6 133 (tD y55),mE 17 [],F6⟩
def c6J:FSpec:=X7 c2A λx=>ET x.1 x.2.1 x.2.2
def BC(A:D6)(B:Int)(C:d1v):d1A:=o5 (yU A B) λx=>o5 (U1 (λ(b:Int)=>l7 (D9 b (o9 x)) (o5 (F9 x b) λc=>o5 (U0 x (U9 b)) λx=>o5 (BA C x) λx=>l7 (D7 x) (some (.rt false)) (some (.nx (x9 .i64 b 1)))) (some (.ex ()))) 0) λo=>U6 o (λy=>some true) λr=>some r
def c2Z:FQ:=⟨[tD y24,G5,uD y43],tR 6 dR,mE 25 [(93,s93),(97,s97)],sN 2 (Y2 (sN 1 (dn (lpR [(6,7),(8,9),(12,25)] ⟨[(8,G5)],[]⟩ 0 nX F6))) F6)⟩
def c7d:FSpec:=X7 c2Z λx=>BC x.1 x.2.1 x.2.2
def rq(A:D6):Option (d1v×Int):=o5 (U1 (λ(x:d1v)=>l7 (D9 (o9 x) (o9 A.2.2.2.1)) (o5 (Y9 (λ(b:Int)=>l7 (D9 b (o9 A.2.2.2.1)) (o5 (BA x b) λc=>l7 c (some (.inl (x9 .i64 b 1))) (o5 (BC A b x) λx=>l7 (D7 x) (some (.inl (x9 .i64 b 1))) (some (.inr b)))) (some (.inr b))) 0) λy=>l7 (x8 y (o9 A.2.2.2.1)) (some (.rt ([],9))) (o5 (dG x [y]) λx=>some (.nx x))) (some (.ex x))) []) λo=>U6 o (λ(y:d1v)=>some (y,0)) λr=>some r
def c2B:FQ:=⟨[tD y24],⟨[(.tmp 2,jR),(.tmp 3,G5)],[]⟩,mE 41 [(97,s97),(172,c7d)],sN 2 (Y2 (dn (lpR [(2,40)] ⟨[(4,jR)],[]⟩ 0 ⟨[(4,jR)],[]⟩ (sN 1 (dn (sN 1 (Y2 (dn (.loop [(5,6),(12,31)] ⟨[(5,G5)],[]⟩ 2 ⟨[(5,G5)],[]⟩ F6)) F6)))))) F6)⟩
def c6K:FSpec:=X7 c2B λx=>rq x
def uT(A:I9)(B:Int):d1A:=o5 (yf A) λx=>l7 x (l7 (J5 A.1 B) (some (D9 B A.2)) (some false)) (some false)
def c4h:FQ:=⟨[tD y2,G5],tR 4 dR,mE 19 [(133,b2w)],F6⟩
def b5C:FSpec:=X7 c4h λx=>uT x.1 x.2
def Em(A:D6)(B:Int)(C:Int):Option d1v:=o5 (Y9 (λ(x:d1v×Int)=>l7 (D9 x.2 (o9 A.2.2.2.2)) (o5 (F9 A.2.2.2.2 x.2) λb=>l7 (x8 b.2.1 B) (o5 (F9 A.2.2.2.2 x.2) λc=>o5 (uT c.2.2.2.2.1 C) λd=>l7 d (o5 (dG x.1 [x.2]) λf=>some (.inl (f,x9 .i64 x.2 1))) (some (.inl (x.1,x9 .i64 x.2 1)))) (some (.inl (x.1,x9 .i64 x.2 1)))) (some (.inr x.1))) ([],0)) λy=>some y
def c3I:FQ:=⟨[tD y24,G5,G5],tR 6 jR,mE 39 [(262,b5C)],sN 2 (Y2 (sN 1 (dn (.loop [(7,38)] ⟨[(7,jR),(8,G5)],[]⟩ 0 ⟨[(7,jR)],[]⟩ F6))) F6)⟩
def c7D:FSpec:=X7 c3I λx=>Em x.1 x.2.1 x.2.2
def EH(A:d1v)(B:Int):d1B:=o5 (U1 (λ(x:Int)=>l7 (D9 x (o9 A)) (o5 (F9 A x) λb=>l7 (x8 b B) (some (.rt x)) (some (.nx (x9 .i64 x 1)))) (some (.ex ()))) 0) λo=>U6 o (λy=>some (-1)) λr=>some r
def c4i:FQ:=⟨[uD y43,G5],tR 4 G5,mE 19 [],sN 1 (Y2 (sN 1 (dn (lpR [(4,19)] ⟨[(5,G5)],[]⟩ 0 nX F6))) F6)⟩
def c7V:FSpec:=X7 c4i λx=>EH x.1 x.2
def FU(A:D6)(B:d1v)(C:Int):d1B:=o5 (F9 A.2.2.2.2 C) λx=>o5 (U1 (λ(x:I9)=>l7 (J5 0 x.2) (l7 (D9 x.2 x.1) (o5 (EH B x.2) λb=>l7 (J5 0 b) (some (.rt b)) (o5 (F9 A.2.2.2.2 x.2) λc=>some (.nx (x.2,c.2.2.1)))) (some (.ex ()))) (some (.ex ()))) (C,x.2.2.1)) λo=>U6 o (λy=>some (-1)) λr=>some r
def c3J:FQ:=⟨[tD y24,uD y43,G5],tR 6 G5,mE 35 [(263,c7V)],sN 2 (Y2 (dn (lpR [(2,3),(6,9),(15,35)] ⟨[(2,G5),(7,G5)],[]⟩ 0 nX F6)) F6)⟩
def c7E:FSpec:=X7 c3J λx=>FU x.1 x.2.1 x.2.2
def FT(A:D6)(B:Int)(C:Int):Option kM:=o5 (Em A B C) λx=>o5 (Y9 (λ(b:d1v×d1v×Int)=>l7 (D9 b.2.2 (o9 x)) (o5 (F9 x b.2.2) λg=>o5 (U0 x (U9 b.2.2)) λc=>o5 (FU A x c) λd=>o5 (dG b.1 [d]) λf=>o5 (F9 x b.2.2) λi=>o5 (U0 x (U9 b.2.2)) λx=>o5 (F9 A.2.2.2.2 x) λx=>o5 (dG b.2.1 [x.2.2.2.1]) λx=>some (.inl (f,x,x9 .i64 b.2.2 1))) (some (.inr (b.1,b.2.1)))) ([],[],0)) λy=>some (x,y)
def c3o:FQ:=⟨[tD y24,G5,G5],⟨[(.tmp 6,jR),(.tmp 7,jR),(.tmp 8,jR)],[]⟩,mE 48 [(234,c7D),(235,c7E)],sN 3 (Y2 (sN 1 (dn (.loop [(10,13),(17,45)] ⟨[(10,jR),(11,jR),(12,G5)],[]⟩ 0 ⟨[(10,jR),(11,jR)],[]⟩ F6))) F6)⟩
def c7o:FSpec:=X7 c3o λx=>FT x.1 x.2.1 x.2.2
def Lj(A:List I9):Option (d1v×Int):=o5 (rU A) λx=>some (x.1,x.2.2)
def c3q:FQ:=⟨[uD y12],⟨[(.tmp 2,jR),(.tmp 3,G5)],[]⟩,mE 15 [(199,b5z)],F6⟩
def c7q:FSpec:=X7 c3q λx=>Lj x
def yg(A:List I9)(B:Int):Option d1v:=o5 (rU A) λx=>o5 (l7 (D7 (x8 x.2.2 0)) (some (.inr [])) (l7 (D9 B 0) (some (.inr [])) (l7 (J5 (o9 A) B) (some (.inr [])) (some (.inl ()))))) λo=>U6 o (λg=>o5 (F9 A B) λd=>o5 (iY d.1) λc=>o5 (qL c 0) λf=>o5 (Y9 (λ(b:d1v×I9)=>l7 (J5 0 b.2.2) (o5 (F9 b.1 b.2.2) λi=>o5 (U0 b.1 (U9 b.2.2)) λj=>o5 (F9 x.1 b.2.1) λk=>o5 (U0 x.1 (U9 b.2.1)) λx=>some (.inl (bi b.1 (U9 b.2.2) b.2.1,I7 .i64 x 1,I7 .i64 b.2.2 1))) (some (.inr b.1))) (f,I7 .i64 B 1,I7 .i64 c 1)) λy=>some y) λr=>some r
def c3M:FQ:=⟨[uD y12,G5],tR 4 jR,mE 56 [(199,b5z),(200,b2G)],sN 2 (Y2 (jnR [(4,5),(18,30)] nX F6) (sN 3 (Y2 (sN 1 (dn (.loop [(9,12),(42,55),(23002368,23002369)] ⟨[(9,jR),(10,G5),(11,G5)],[]⟩ 0 ⟨[(9,jR)],[]⟩ F6))) F6)))⟩
def c7H:FSpec:=X7 c3M λx=>yg x.1 x.2
def yS(A:Int):Option I9:=l7 (x8 A 1) (some (0,1)) (l7 (x8 A 2) (some (-1000000000000,1000000000000)) (l7 (x8 A 3) (some (-1000000000000000,1000000000000000)) (l7 (x8 A 4) (some (-1000000000,1000000000)) (l7 (x8 A 5) (some (0,109572)) (l7 (x8 A 6) (some (0,15)) (some (0,-1)))))))
def c4F:FQ:=⟨[G5],⟨[(.tmp 2,G5),(.tmp 3,G5)],[]⟩,mE 17 [],F6⟩
def b7W:FSpec:=X7 c4F λx=>yS x
def fQ(A:J4):d1A:=o5 (yS A.1) λx=>l7 (D9 A.2.2 x.1) (some false) (l7 (D9 x.2 A.2.2) (some false) (l7 (x8 A.1 6) (l7 (J5 0 A.2.1) (some (D9 A.2.1 8)) (some false)) (some (x8 A.2.1 0))))
def c4j:FQ:=⟨[tD y3],tR 2 dR,mE 35 [(291,b7W)],F6⟩
def a5y:FSpec:=X7 c4j λx=>fQ x
def ul(A:Int):d1A:=o5 (l7 (J5 1 A) (l7 (J5 A 8) (some (.inr true)) (l7 (J5 36 A) (l7 (J5 A 39) (some (.inr true)) (some (.inl ()))) (some (.inl ())))) (l7 (J5 36 A) (l7 (J5 A 39) (some (.inr true)) (some (.inl ()))) (some (.inl ())))) λo=>U6 o (λx=>l7 (x8 A 14) (some true) (l7 (x8 A 15) (some true) (l7 (x8 A 16) (some true) (l7 (x8 A 33) (some true) (some (x8 A 34)))))) λr=>some r
def c4G:FQ:=⟨[G5],tR 2 dR,mE 35 [],sN 1 (Y2 (jnR [(2,17)] nX F6) F6)⟩
def c8n:FSpec:=X7 c4G λx=>ul x
def CP(A:I9)(B:Int):d1A:=o5 (o5 (iY A.1) λx=>l7 (D7 (x8 x B)) (some (.inr false)) (l7 (D7 (x8 A.2 0)) (o5 (ul A.1) λx=>l7 (D7 x) (some (.inr false)) (some (.inl ()))) (some (.inl ())))) λo=>U6 o (λx=>o5 (l7 (x8 A.1 14) (some (x8 A.1 14)) (l7 (x8 A.1 15) (some (x8 A.1 15)) (some (x8 A.1 16)))) λx=>l7 x (l7 (J5 0 A.2) (some (J5 A.2 5)) (some false)) (l7 (x8 A.1 34) (l7 (J5 0 A.2) (some (J5 (dM A.2 8) 5)) (some false)) (l7 (x8 A.1 6) (some (J5 0 A.2)) (some true)))) λr=>some r
def c4k:FQ:=⟨[tD y2,G5],tR 4 dR,mE 51 [(200,b2G),(292,c8n)],sN 1 (Y2 (jnR [(4,21)] nX F6) (Y2 (sN 1 (dn (Y2 (.join [(23,27)] ⟨[(23,dR)],[]⟩ F6) F6))) F6))⟩
def c7W:FSpec:=X7 c4k λx=>CP x.1 x.2
def NS(A:I9)(B:bn):d1A:=l7 (x8 A.1 7) (l7 (J5 0 A.2) (some (D9 A.2 (o9 B.2.1))) (some false)) (l7 (x8 A.1 8) (l7 (J5 0 A.2) (l7 (D9 A.2 (o9 B.2.2.1)) (o5 (F9 B.2.2.1 A.2) λx=>some (D7 (x8 x.1 0))) (some false)) (some false)) (l7 (x8 A.1 33) (l7 (J5 0 A.2) (some (D9 A.2 (o9 B.2.2.2.2.2))) (some false)) (l7 (x8 A.1 34) (some (D9 (dD .i64 A.2 8) (o9 B.2.2.2.2.2))) (o5 (l7 (x8 A.1 36) (some (x8 A.1 36)) (l7 (x8 A.1 37) (some (x8 A.1 37)) (l7 (x8 A.1 38) (some (x8 A.1 38)) (some (x8 A.1 39))))) λx=>l7 x (l7 (J5 0 A.2) (some (D9 A.2 (o9 B.2.2.2.2.1))) (some false)) (some true)))))
def c4l:FQ:=⟨[tD y2,tD y55],tR 4 dR,mE 81 [],sN 1 (Y2 (sN 1 (dn (sN 1 (.cond F6 (sN 1 (.cond F6 (sN 1 (.cond F6 (sN 1 (.cond F6 (Y2 (.join [(65,70)] ⟨[(65,dR)],[]⟩ F6) F6))))))))))) F6)⟩
def c7X:FSpec:=X7 c4l λx=>NS x.1 x.2
def Ej(A:Int)(B:I9):d1A:=l7 (D7 (x8 B.2 0)) (some false) (l7 (x8 A 36) (l7 (x8 B.1 2) (some true) (some (x8 B.1 3))) (l7 (x8 A 39) (l7 (J5 2 B.1) (some (J5 B.1 5)) (some false)) (some (x8 B.1 1))))
def c4H:FQ:=⟨[G5,tD y2],tR 4 dR,mE 32 [],F6⟩
def c8o:FSpec:=X7 c4H λx=>Ej x.1 x.2
def Pn(A:J4)(B:I9):d1A:=o5 (fQ A) λx=>l7 x (l7 (x8 A.1 B.1) (some (x8 A.2.1 B.2)) (some false)) (some false)
def c4I:FQ:=⟨[tD y3,tD y2],tR 4 dR,mE 21 [(266,a5y)],F6⟩
def c8p:FSpec:=X7 c4I λx=>Pn x.1 x.2
def Ll(A:Int)(B:Int)(C:Int)(D:Bool):d1B:=l7 (x8 A 36) (some (x9 .i64 B C)) (l7 (x8 A 37) (some (X9 .i64 B C)) (l7 (x8 A 38) (l7 (D9 B C) (some C) (some B)) (l7 D (some C) (l7 (D9 B C) (some C) (some B)))))
def c4J:FQ:=⟨[G5,G5,G5,dR],tR 8 G5,mE 35 [],F6⟩
def c8q:FSpec:=X7 c4J λx=>Ll x.1 x.2.1 x.2.2.1 x.2.2.2
def bY(A:Int)(B:Int):Option (J4×Int):=o5 (fQ (A,0,B)) λx=>l7 (D7 x) (some ((0,0,0),3)) (some ((A,0,B),0))
def c4K:FQ:=⟨[G5,G5],⟨[(.cell 4 36,tD y3),(.tmp 5,G5)],[]⟩,mE 15 [(266,a5y)],F6⟩
def a3x:FSpec:=X7 c4K λx=>bY x.1 x.2
def zN(A:I9)(B:bn):Option (J4×Int):=o5 (F9 B.2.2.2.2.1 A.2) λx=>o5 (Ej A.1 x) λf=>l7 (D7 f) (some ((0,0,0),8)) (o5 (l7 (x8 A.1 37) (some 1) (some 0)) λg=>o5 (U1 (λ(b:J4×I9)=>l7 (D9 b.2.2 (o9 B.2.2.2.1)) (o5 (F9 B.2.2.2.1 b.2.2) λc=>o5 (l7 (J5 (o9 c) A.2) (some (.inr ((0,0,0),6))) (o5 (F9 c A.2) λx=>l7 (x8 x.1 0) (some (.inr ((0,0,0),6))) (some (.inl b.1)))) λo=>U6 o (λ(i:J4)=>o5 (F9 c A.2) λj=>o5 (Pn j x) λk=>l7 (D7 k) (some (.rt ((0,0,0),8))) (o5 (F9 c A.2) λn=>o5 (Ll A.1 b.2.1 n.2.2 (x8 b.2.2 0)) λd=>o5 (bY x.1 d) λx=>l7 (D7 (x8 x.2 0)) (some (.rt ((0,0,0),x.2))) (some (.nx (i,d,x9 .i64 b.2.2 1))))) λr=>some (.rt r)) (some (.ex (b.1,b.2.1)))) ((0,0,0),g,0)) λo=>U6 o (λ(y:J4×Int)=>l7 (x8 A.1 39) (l7 (x8 (o9 B.2.2.2.1) 0) (some ((0,0,0),6)) (o5 (bY x.1 y.2) λx=>some x)) (o5 (bY x.1 y.2) λx=>some x)) λr=>some r)
def c4m:FQ:=⟨[tD y2,tD y55],⟨[(.cell 4 36,tD y3),(.tmp 5,G5)],[]⟩,mE 102 [(293,c8o),(294,c8p),(295,c8q),(296,a3x)],sN 4 (Y2 (.join [(7,8),(24,27)] ⟨[(7,G5)],[]⟩ F6) (Y2 (sN 1 (dn (lpR [(4,6),(7,12),(27,86),(4000256,4000257)] ⟨[(4,(false,(.box (dT y3)))),(7,G5),(8,G5)],[]⟩ 0 ⟨[(4,(false,(.box (dT y3)))),(7,G5)],[]⟩ (sN 1 (Y2 (dn (sN 1 (Y2 (jnR [(4,6),(39,54),(35000000,35000001)] ⟨[(4,(false,(.box (dT y3))))],[]⟩ F6) F6))) F6))))) F6))⟩
def c7Y:FSpec:=X7 c4m λx=>zN x.1 x.2
def kS(A:I9)(B:bn):Option (J4×Int):=l7 (x8 A.1 7) (o5 (F9 B.2.1 A.2) λx=>o5 (fQ x) λx=>l7 (D7 x) (some ((0,0,0),8)) (o5 (F9 B.2.1 A.2) λx=>some (x,0))) (l7 (x8 A.1 8) (o5 (F9 B.2.2.1 A.2) λx=>o5 (fQ x) λx=>l7 (D7 x) (some ((0,0,0),8)) (o5 (F9 B.2.2.1 A.2) λx=>some (x,0))) (l7 (x8 A.1 9) (o5 (bY 5 B.1) λx=>some x) (l7 (x8 A.1 35) (o5 (bY 2 (o9 B.2.2.2.1)) λx=>some x) (l7 (x8 A.1 6) (o5 (fQ (6,dD .i64 A.2 16,dM A.2 16)) λx=>l7 (D7 x) (some ((0,0,0),3)) (some ((6,dD .i64 A.2 16,dM A.2 16),0))) (o5 (bY A.1 A.2) λx=>some x)))))
def c4n:FQ:=⟨[tD y2,tD y55],⟨[(.cell 4 36,tD y3),(.tmp 5,G5)],[]⟩,mE 79 [(266,a5y),(296,a3x)],F6⟩
def c7Z:FSpec:=X7 c4n λx=>kS x.1 x.2
def CQ(A:Int):d1A:=l7 (x8 A 2) (some true) (l7 (x8 A 3) (some true) (some (x8 A 4)))
def c4M:FQ:=⟨[G5],tR 2 dR,mE 13 [],F6⟩
def b7X:FSpec:=X7 c4M λx=>CQ x
def qo(A:Bool):Option (J4×Int):=l7 A (some ((1,0,1),0)) (some ((1,0,0),0))
def c4N:FQ:=⟨[dR],⟨[(.cell 2 36,tD y3),(.tmp 3,G5)],[]⟩,mE 8 [],F6⟩
def b7Y:FSpec:=X7 c4N λx=>qo x
def vG(A:Int):d1A:=l7 (J5 0 A) (some (J5 A 109572)) (some false)
def c5e:FQ:=⟨[G5],tR 2 dR,mE 9 [],F6⟩
def b5G:FSpec:=X7 c5e λx=>vG x
def FM(A:Int):d1A:=l7 (x8 (dM A 4) 0) (l7 (D7 (x8 (dM A 100) 0)) (some true) (some (x8 (dM A 400) 0))) (some false)
def c5G:FQ:=⟨[G5],tR 2 dR,mE 16 [],F6⟩
def b8f:FSpec:=X7 c5G λx=>FM x
def jL(A:Int):d1B:=o5 (FM A) λx=>l7 x (some 366) (some 365)
def c5f:FQ:=⟨[G5],tR 2 G5,mE 5 [(345,b8f)],F6⟩
def b8c:FSpec:=X7 c5f λx=>jL x
def gp(A:Int)(B:Int):d1B:=l7 (x8 B 2) (o5 (FM A) λx=>l7 x (some 29) (some 28)) (o5 (l7 (x8 B 4) (some (x8 B 4)) (l7 (x8 B 6) (some (x8 B 6)) (l7 (x8 B 9) (some (x8 B 9)) (some (x8 B 11))))) λx=>l7 x (some 30) (l7 (x8 B 1) (l7 (x8 B 1) (some 31) (some 0)) (l7 (x8 B 3) (l7 (x8 B 3) (some 31) (some 0)) (l7 (x8 B 5) (l7 (x8 B 5) (some 31) (some 0)) (l7 (x8 B 7) (l7 (x8 B 7) (some 31) (some 0)) (l7 (x8 B 8) (l7 (x8 B 8) (some 31) (some 0)) (l7 (x8 B 10) (l7 (x8 B 10) (some 31) (some 0)) (l7 (x8 B 12) (some 31) (some 0)))))))))
def c5g:FQ:=⟨[G5,G5],tR 4 G5,mE 23 [(345,b8f)],sN 1 (Y2 (sN 1 (dn (sN 1 (.cond F6 (Y2 (.join [(10,15)] ⟨[(10,dR)],[]⟩ F6) F6))))) F6)⟩
def b5H:FSpec:=X7 c5g λx=>gp x.1 x.2
def Bz(A:Int):Option J4:=o5 (vG A) λx=>l7 (D7 x) (some (0,0,0)) (o5 (Y9 (λ(x:I9)=>o5 (jL x.2) λb=>l7 (J5 b x.1) (o5 (jL x.2) λc=>some (.inl (I7 .i64 x.1 c,x9 .i64 x.2 1))) (some (.inr x))) (A,1900)) λy=>o5 (Y9 (λ(x:I9)=>o5 (gp y.2 x.2) λb=>l7 (J5 b x.1) (o5 (gp y.2 x.2) λc=>some (.inl (I7 .i64 x.1 c,x9 .i64 x.2 1))) (some (.inr x))) (y.1,1)) λy_1=>some (y.2,y_1.2,x9 .i64 y_1.1 1))
def c4O:FQ:=⟨[G5],⟨[(.tmp 2,G5),(.tmp 3,G5),(.tmp 4,G5)],[]⟩,mE 36 [(317,b5G),(318,b8c),(319,b5H)],sN 3 (Y2 (dn (.loop [(0,1),(5,6),(10,20)] ⟨[(0,G5),(5,G5)],[]⟩ 0 ⟨[(0,G5),(5,G5)],[]⟩ F6)) (Y2 (dn (.loop [(0,1),(6,7),(20,32)] ⟨[(0,G5),(6,G5)],[]⟩ 2 ⟨[(0,G5),(6,G5)],[]⟩ F6)) F6))⟩
def b7Z:FSpec:=X7 c4O λx=>Bz x
def Jv(A:ww)(B:Int)(C:Int):d1A:=o5 (uT A.1 B) λx=>l7 x (l7 (J5 A.2.1 C) (some (D9 C A.2.2.1)) (some false)) (some false)
def c5H:FQ:=⟨[tD y4,G5,G5],tR 6 dR,mE 23 [(262,b5C)],F6⟩
def c8R:FSpec:=X7 c5H λx=>Jv x.1 x.2.1 x.2.2
def FO(A:bJ)(B:Int)(C:Int):Option (Int×Bool):=o5 (U1 (λ(x:Int)=>l7 (D9 x (o9 A.2.2.2)) (o5 (F9 A.2.2.2 x) λb=>o5 (Jv b B C) λc=>l7 c (some (.rt (x,true))) (some (.nx (x9 .i64 x 1)))) (some (.ex ()))) 0) λo=>U6 o (λy=>some (0,false)) λr=>some r
def c5h:FQ:=⟨[tD y8,G5,G5],⟨[(.tmp 6,G5),(.tmp 7,dR)],[]⟩,mE 25 [(346,c8R)],sN 1 (Y2 (sN 1 (dn (lpR [(6,25)] ⟨[(8,G5)],[]⟩ 0 nX F6))) F6)⟩
def c8B:FSpec:=X7 c5h λx=>FO x.1 x.2.1 x.2.2
def Lm(A:bJ)(B:Int)(C:J4):Option (J4×Int):=o5 (l7 (D7 (x8 C.1 A.2.1.1)) (some (.inr ((0,0,0),8))) (l7 (D7 (x8 C.2.1 A.2.1.2)) (some (.inr ((0,0,0),8))) (l7 (D9 A.2.2.1.1 1) (some (.inr ((0,0,0),8))) (l7 (D9 6 A.2.2.1.1) (some (.inr ((0,0,0),8))) (some (.inl (0,0,0))))))) λo=>U6 o (λ(x:J4)=>o5 (FO A B C.2.2) λx=>l7 (D7 x.2) (some ((0,0,0),6)) (o5 (F9 A.2.2.2 x.1) λx=>o5 (fQ (A.2.2.1.1,A.2.2.1.2,x.2.2.2)) λb=>l7 (D7 b) (some ((0,0,0),3)) (some ((A.2.2.1.1,A.2.2.1.2,x.2.2.2),0)))) λr=>some r
def c4P:FQ:=⟨[tD y8,G5,tD y3],⟨[(.cell 6 36,tD y3),(.tmp 7,G5)],[]⟩,mE 67 [(320,c8B),(266,a5y)],sN 1 (Y2 (jnR [(6,8),(11,38),(4000384,4000385)] ⟨[(6,(false,(.box (dT y3))))],[]⟩ F6) F6)⟩
def c8r:FSpec:=X7 c4P λx=>Lm x.1 x.2.1 x.2.2
def DW(A:Int):d1A:=l7 (J5 0 A) (some (J5 A 5)) (some false)
def c5i:FQ:=⟨[G5],tR 2 dR,mE 9 [],F6⟩
def b2K:FSpec:=X7 c5i λx=>DW x
def jb(A:Int)(B:Int):d1A:=l7 (D9 B A) (some true) (some (D9 A (I7 .i64 0 B)))
def c5j:FQ:=⟨[G5,G5],tR 4 dR,mE 14 [],F6⟩
def b2L:FSpec:=X7 c5j λx=>jb x.1 x.2
def vU(A:Int)(B:Int):Option (Int×Int×Bool):=o5 (l7 (D9 B 0) (some (x9 .u64 (wrap .u64 (I7 .i64 0 (x9 .i64 B 1))) 1)) (some (wrap .u64 B))) λx=>l7 (D9 0 (wrap .i64 (dD .u64 x 1000000))) (o5 (pO .i64 1000000000000000 (wrap .i64 (dD .u64 x 1000000))) λb=>l7 (D9 b A) (some (0,0,false)) (l7 (D9 1000000000000000 (x9 .i64 (x9 .i64 (X9 .i64 A (wrap .i64 (dD .u64 x 1000000))) (X9 .i64 (dD .i64 A 1000000) (wrap .i64 (dM x 1000000)))) (dD .i64 (X9 .i64 (dM A 1000000) (wrap .i64 (dM x 1000000))) 1000000))) (some (0,0,false)) (l7 (D9 B 0) (some (I7 .i64 0 (x9 .i64 (x9 .i64 (X9 .i64 A (wrap .i64 (dD .u64 x 1000000))) (X9 .i64 (dD .i64 A 1000000) (wrap .i64 (dM x 1000000)))) (dD .i64 (X9 .i64 (dM A 1000000) (wrap .i64 (dM x 1000000))) 1000000)),I7 .i64 0 (dM (X9 .i64 (dM A 1000000) (wrap .i64 (dM x 1000000))) 1000000),true)) (some (x9 .i64 (x9 .i64 (X9 .i64 A (wrap .i64 (dD .u64 x 1000000))) (X9 .i64 (dD .i64 A 1000000) (wrap .i64 (dM x 1000000)))) (dD .i64 (X9 .i64 (dM A 1000000) (wrap .i64 (dM x 1000000))) 1000000),dM (X9 .i64 (dM A 1000000) (wrap .i64 (dM x 1000000))) 1000000,true))))) (l7 (D9 1000000000000000 (x9 .i64 (x9 .i64 (X9 .i64 A (wrap .i64 (dD .u64 x 1000000))) (X9 .i64 (dD .i64 A 1000000) (wrap .i64 (dM x 1000000)))) (dD .i64 (X9 .i64 (dM A 1000000) (wrap .i64 (dM x 1000000))) 1000000))) (some (0,0,false)) (l7 (D9 B 0) (some (I7 .i64 0 (x9 .i64 (x9 .i64 (X9 .i64 A (wrap .i64 (dD .u64 x 1000000))) (X9 .i64 (dD .i64 A 1000000) (wrap .i64 (dM x 1000000)))) (dD .i64 (X9 .i64 (dM A 1000000) (wrap .i64 (dM x 1000000))) 1000000)),I7 .i64 0 (dM (X9 .i64 (dM A 1000000) (wrap .i64 (dM x 1000000))) 1000000),true)) (some (x9 .i64 (x9 .i64 (X9 .i64 A (wrap .i64 (dD .u64 x 1000000))) (X9 .i64 (dD .i64 A 1000000) (wrap .i64 (dM x 1000000)))) (dD .i64 (X9 .i64 (dM A 1000000) (wrap .i64 (dM x 1000000))) 1000000),dM (X9 .i64 (dM A 1000000) (wrap .i64 (dM x 1000000))) 1000000,true))))
def c5k:FQ:=⟨[G5,G5],⟨[(.tmp 4,G5),(.tmp 5,G5),(.tmp 6,dR)],[]⟩,mE 62 [],sN 2 (Y2 (.join [(7,8),(14,21)] ⟨[(7,(false,(dT (.int .u64))))],[]⟩ F6) F6)⟩
def c8C:FSpec:=X7 c5k λx=>vU x.1 x.2
def lN(A:Int)(B:Int)(C:Int)(D:Bool)(E:Int):d1B:=o5 (l7 (x8 E 0) (l7 D (some (D9 0 B)) (some false)) (l7 (x8 E 1) (l7 (D7 D) (some (D9 0 B)) (some false)) (l7 (x8 E 3) (some (D9 0 B)) (l7 (x8 E 4) (some (J5 (I7 .i64 C B) B)) (l7 (x8 E 5) (l7 (D9 (I7 .i64 C B) B) (some true) (l7 (x8 B (I7 .i64 C B)) (some (x8 (dM A 2) 1)) (some false))) (some false)))))) λx=>l7 x (l7 D (some (I7 .i64 0 (x9 .i64 A 1))) (some (x9 .i64 A 1))) (l7 D (some (I7 .i64 0 A)) (some A))
def c5I:FQ:=⟨[G5,G5,G5,dR,G5],tR 10 G5,mE 65 [],sN 2 (Y2 (.join [(11,58)] ⟨[(11,dR)],[]⟩ F6) F6)⟩
def b2O:FSpec:=X7 c5I λx=>lN x.1 x.2.1 x.2.2.1 x.2.2.2.1 x.2.2.2.2
def Ei(A:Int)(B:Int)(C:Int):d1B:=o5 (Y9 (λ(x:I9)=>l7 (D9 x.2 0) (some (.inl (I7 .i64 x.1 1,x9 .i64 x.2 1000000))) (some (.inr x))) (A,B)) λy=>o5 (Y9 (λ(x:I9)=>l7 (J5 1000000 x.2) (some (.inl (x9 .i64 x.1 1,I7 .i64 x.2 1000000))) (some (.inr x))) y) λy=>l7 (J5 0 y.1) (o5 (lN y.1 y.2 1000000 false C) λx=>some x) (l7 (x8 y.2 0) (some y.1) (o5 (lN (I7 .i64 (I7 .i64 0 y.1) 1) (I7 .i64 1000000 y.2) 1000000 true C) λx=>some x))
def c5l:FQ:=⟨[G5,G5,G5],tR 6 G5,mE 35 [(347,b2O)],sN 1 (Y2 (dn (.loop [(0,2),(7,13)] ⟨[(0,G5),(1,G5)],[]⟩ 0 ⟨[(0,G5),(1,G5)],[]⟩ F6)) (Y2 (dn (.loop [(0,2),(13,19)] ⟨[(0,G5),(1,G5)],[]⟩ 2 ⟨[(0,G5),(1,G5)],[]⟩ F6)) F6))⟩
def c8D:FSpec:=X7 c5l λx=>Ei x.1 x.2.1 x.2.2
def CG(A:bJ)(B:Int)(C:Int)(D:Int):Option I9:=o5 (DW D) λx=>l7 (D7 x) (some (0,1)) (o5 (l7 (D7 (aj (x8 A.2.1.1 3) (x8 A.2.1.2 0))) (some (.inr (0,8))) (l7 (D7 (aj (x8 A.2.2.1.1 4) (x8 A.2.2.1.2 0))) (some (.inr (0,8))) (some (.inl ())))) λo=>U6 o (λx=>o5 (jb C 1000000000000000) λx=>l7 x (some (0,3)) (o5 (U1 (λ(x:J4)=>l7 (D9 x.2.2 (o9 A.2.2.2)) (o5 (F9 A.2.2.2 x.2.2) λb=>o5 (F9 A.2.2.2 x.2.2) λd=>l7 (J5 (pM d.2.2.1 C) (nR b.2.1 0)) (some (.nx (x.1,x.2.1,x9 .i64 x.2.2 1))) (o5 (F9 A.2.2.2 x.2.2) λf=>o5 (uT f.1 B) λg=>l7 (D7 g) (some (.nx (x.1,x.2.1,x9 .i64 x.2.2 1))) (o5 (F9 A.2.2.2 x.2.2) λi=>o5 (vU (I7 .i64 (pM d.2.2.1 C) (nR b.2.1 0)) i.2.2.2) λc=>l7 (D7 c.2.2) (some (.rt (0,3))) (some (.nx (x9 .i64 x.1 c.1,x9 .i64 x.2.1 c.2.1,x9 .i64 x.2.2 1)))))) (some (.ex (x.1,x.2.1)))) (0,0,0)) λo=>U6 o (λ(y:I9)=>o5 (Ei y.1 y.2 D) λx=>o5 (jb x 1000000000000000) λb=>l7 b (some (0,3)) (some (x,0))) λr=>some r)) λr=>some r)
def c4Q:FQ:=⟨[tD y8,G5,G5,G5],⟨[(.tmp 8,G5),(.tmp 9,G5)],[]⟩,mE 99 [(321,b2K),(322,b2L),(262,b5C),(323,c8C),(324,c8D)],sN 2 (Y2 (jnR [(8,10),(22,32)] nX F6) (sN 2 (Y2 (sN 1 (dn (lpR [(8,18),(34,92)] ⟨[(10,G5),(11,G5),(12,G5)],[]⟩ 0 ⟨[(10,G5),(11,G5)],[]⟩ F6))) F6)))⟩
def c8s:FSpec:=X7 c4Q λx=>CG x.1 x.2.1 x.2.2.1 x.2.2.2
def qO(A:Int)(B:Int)(C:Int):Option (J4×Int):=l7 (D7 (x8 C 0)) (some ((0,0,0),C)) (o5 (bY A B) λx=>some x)
def c4R:FQ:=⟨[G5,G5,G5],⟨[(.cell 6 36,tD y3),(.tmp 7,G5)],[]⟩,mE 17 [(296,a3x)],F6⟩
def b5D:FSpec:=X7 c4R λx=>qO x.1 x.2.1 x.2.2
def tq(A:I9)(B:J4)(C:bn):Option (J4×Int):=o5 (l7 (x8 A.1 10) (o5 (CQ B.1) λx=>l7 (D7 x) (some (.inr ((0,0,0),8))) (o5 (bY B.1 (I7 .i64 0 B.2.2)) λx=>some (.inr x))) (l7 (x8 A.1 25) (l7 (D7 (x8 B.1 1)) (some (.inr ((0,0,0),8))) (o5 (qo (x8 B.2.2 0)) λx=>some (.inr x))) (o5 (l7 (x8 A.1 31) (some (x8 A.1 31)) (some (x8 A.1 32))) λx=>l7 x (l7 (D7 (x8 B.1 5)) (some (.inr ((0,0,0),8))) (o5 (Bz B.2.2) λx=>l7 (x8 A.1 31) (o5 (bY 2 x.1) λx=>some (.inr x)) (o5 (bY 2 x.2.1) λx=>some (.inr x)))) (l7 (x8 A.1 33) (o5 (F9 C.2.2.2.2.2 A.2) λx=>o5 (Lm x C.1 B) λx=>some (.inr x)) (some (.inl (0,0,0))))))) λo=>U6 o (λ(x:J4)=>o5 (F9 C.2.2.2.2.2 (dD .i64 A.2 8)) λb=>o5 (l7 (D7 (x8 B.1 3)) (some (.inr ((0,0,0),8))) (l7 (D7 (x8 b.2.1.1 3)) (some (.inr ((0,0,0),8))) (l7 (D7 (x8 b.2.1.2 0)) (some (.inr ((0,0,0),8))) (l7 (D7 (x8 b.2.2.1.1 4)) (some (.inr ((0,0,0),8))) (l7 (D7 (x8 b.2.2.1.2 0)) (some (.inr ((0,0,0),8))) (some (.inl x))))))) λo=>U6 o (λ(x:J4)=>o5 (CG b C.1 B.2.2 (dM A.2 8)) λx=>o5 (qO 3 x.1 x.2) λx=>some x) λr=>some r) λr=>some r
def c4o:FQ:=⟨[tD y2,tD y3,tD y55],⟨[(.cell 6 36,tD y3),(.tmp 7,G5)],[]⟩,mE 134 [(297,b7X),(296,a3x),(298,b7Y),(299,b7Z),(300,c8r),(301,c8s),(302,b5D)],sN 1 (Y2 (jnR [(6,11),(14,82),(4000384,4000385)] ⟨[(6,(false,(.box (dT y3))))],[]⟩ (sN 1 (dn (sN 1 (.cond F6 (sN 1 (.cond F6 (Y2 (.join [(43,46)] ⟨[(43,dR)],[]⟩ F6) F6)))))))) (sN 1 (Y2 (jnR [(6,8),(89,117),(6000000,6000001)] ⟨[(6,(false,(.box (dT y3))))],[]⟩ F6) F6)))⟩
def c8a:FSpec:=X7 c4o λx=>tq x.1 x.2.1 x.2.2
def wU(A:Int)(B:Int)(C:Int):Option (J4×Int):=o5 (yS A) λx=>l7 (D9 B 0) (l7 (D9 C 0) (l7 (D7 (x8 (I7 .i64 0 C) 0)) (o5 (pO .i64 x.2 (I7 .i64 0 C)) λx=>l7 (D9 x (I7 .i64 0 B)) (some ((0,0,0),3)) (o5 (bY A (X9 .i64 B C)) λx=>some x)) (o5 (bY A (X9 .i64 B C)) λx=>some x)) (l7 (D7 (x8 C 0)) (o5 (pO .i64 x.2 C) λx=>l7 (D9 x (I7 .i64 0 B)) (some ((0,0,0),3)) (o5 (bY A (X9 .i64 B C)) λx=>some x)) (o5 (bY A (X9 .i64 B C)) λx=>some x))) (l7 (D9 C 0) (l7 (D7 (x8 (I7 .i64 0 C) 0)) (o5 (pO .i64 x.2 (I7 .i64 0 C)) λx=>l7 (D9 x B) (some ((0,0,0),3)) (o5 (bY A (X9 .i64 B C)) λx=>some x)) (o5 (bY A (X9 .i64 B C)) λx=>some x)) (l7 (D7 (x8 C 0)) (o5 (pO .i64 x.2 C) λx=>l7 (D9 x B) (some ((0,0,0),3)) (o5 (bY A (X9 .i64 B C)) λx=>some x)) (o5 (bY A (X9 .i64 B C)) λx=>some x)))
def c5m:FQ:=⟨[G5,G5,G5],⟨[(.cell 6 36,tD y3),(.tmp 7,G5)],[]⟩,mE 44 [(291,b7W),(296,a3x)],F6⟩
def c8E:FSpec:=X7 c5m λx=>wU x.1 x.2.1 x.2.2
def yO(A:Int):d1B:=l7 (D9 A 0) (some (I7 .i64 0 A)) (some A)
def c5O:FQ:=⟨[G5],tR 2 G5,mE 8 [],F6⟩
def b5L:FSpec:=X7 c5O λx=>yO x
def FK(A:Int)(B:Int)(C:Int)(D:Int):Option I9:=o5 (DW D) λx=>l7 (D7 x) (some (0,1)) (l7 (x8 C 0) (some (0,12)) (o5 (o5 (jb A 1000000000000000) λx=>l7 x (some (.inr (0,3))) (o5 (jb B 1000000000) λx=>l7 x (some (.inr (0,3))) (o5 (jb C 1000000000) λx=>l7 x (some (.inr (0,3))) (some (.inl ()))))) λo=>U6 o (λx=>o5 (yO A) λx=>o5 (yO B) λc=>o5 (yO C) λb=>l7 (D9 0 c) (o5 (pO .i64 x b) λd=>o5 (pO .i64 1000000000000000 c) λg=>l7 (D9 g d) (some (0,3)) (o5 (zn x b) λf=>o5 (pO .i64 x b) λx=>o5 (pO .i64 (X9 .i64 f c) b) λi=>o5 (zn (X9 .i64 f c) b) λj=>o5 (lN (x9 .i64 (X9 .i64 x c) i) j b (D7 (jl (D7 (jl (D9 A 0) (D9 B 0))) (D9 C 0))) D) λx=>o5 (jb x 1000000000000000) λk=>l7 k (some (0,3)) (some (x,0)))) (o5 (zn x b) λd=>o5 (pO .i64 x b) λx=>o5 (pO .i64 (X9 .i64 d c) b) λg=>o5 (zn (X9 .i64 d c) b) λf=>o5 (lN (x9 .i64 (X9 .i64 x c) g) f b (D7 (jl (D7 (jl (D9 A 0) (D9 B 0))) (D9 C 0))) D) λx=>o5 (jb x 1000000000000000) λi=>l7 i (some (0,3)) (some (x,0)))) λr=>some r))
def c5J:FQ:=⟨[G5,G5,G5,G5],⟨[(.tmp 8,G5),(.tmp 9,G5)],[]⟩,mE 79 [(321,b2K),(322,b2L),(352,b5L),(347,b2O)],sN 3 (Y2 (jnR [(8,10),(21,31)] nX F6) F6)⟩
def c8S:FSpec:=X7 c5J λx=>FK x.1 x.2.1 x.2.2.1 x.2.2.2
def EG(A:Int)(B:Int)(C:Int):Option I9:=o5 (FK A B 1000000 C) λx=>some x
def c5n:FQ:=⟨[G5,G5,G5],⟨[(.tmp 6,G5),(.tmp 7,G5)],[]⟩,mE 14 [(348,c8S)],F6⟩
def c8F:FSpec:=X7 c5n λx=>EG x.1 x.2.1 x.2.2
def jK(A:Int)(B:Int):d1A:=l7 (D9 B A) (some true) (some (D9 A (I7 .i64 0 B)))
def c5K:FQ:=⟨[G5,G5],tR 4 dR,mE 14 [],F6⟩
def b8g:FSpec:=X7 c5K λx=>jK x.1 x.2
def xZ(A:Int)(B:Int):Option I9:=o5 (pO .i64 A B) λx=>o5 (zn A B) λb=>l7 (D9 b 0) (some (I7 .i64 x 1,x9 .i64 b B)) (some (x,b))
def c5M:FQ:=⟨[G5,G5],⟨[(.tmp 4,G5),(.tmp 5,G5)],[]⟩,mE 23 [],F6⟩
def b8h:FSpec:=X7 c5M λx=>xZ x.1 x.2
def bH(A:Int)(B:Int)(C:Int)(D:Int):d1B:=l7 (x8 B 0) (some A) (o5 (l7 (x8 D 1) (some true) (l7 (x8 D 2) (l7 (D9 A 0) (some true) (l7 (x8 D 3) (some (J5 0 A)) (some false))) (l7 (x8 D 3) (some (J5 0 A)) (some false)))) λx=>l7 (x8 D 4) (l7 (x8 B (I7 .i64 C B)) (l7 (x8 D 4) (l7 (J5 0 A) (some (x9 .i64 A 1)) (l7 (x8 D 5) (l7 (D7 (x8 (dM A 2) 0)) (some (x9 .i64 A 1)) (some A)) (some A))) (l7 (x8 D 5) (l7 (D7 (x8 (dM A 2) 0)) (some (x9 .i64 A 1)) (some A)) (some A))) (l7 (D9 (I7 .i64 C B) B) (some (x9 .i64 A 1)) (some A))) (l7 (x8 D 5) (l7 (x8 B (I7 .i64 C B)) (l7 (x8 D 4) (l7 (J5 0 A) (some (x9 .i64 A 1)) (l7 (x8 D 5) (l7 (D7 (x8 (dM A 2) 0)) (some (x9 .i64 A 1)) (some A)) (some A))) (l7 (x8 D 5) (l7 (D7 (x8 (dM A 2) 0)) (some (x9 .i64 A 1)) (some A)) (some A))) (l7 (D9 (I7 .i64 C B) B) (some (x9 .i64 A 1)) (some A))) (l7 x (some (x9 .i64 A 1)) (some A))))
def c5N:FQ:=⟨[G5,G5,G5,G5],tR 8 G5,mE 66 [],sN 2 (Y2 (.join [(9,10),(13,31)] ⟨[(9,dR)],[]⟩ F6) F6)⟩
def b8i:FSpec:=X7 c5N λx=>bH x.1 x.2.1 x.2.2.1 x.2.2.2
def JZ(A:Int)(B:Int)(C:Int):Option I9:=l7 (D9 C 0) (some (0,1)) (l7 (D9 5 C) (some (0,1)) (o5 (jK A 1000000000) λx=>l7 x (some (0,3)) (o5 (jK B 1000000000) λx=>l7 x (some (0,3)) (o5 (xZ (X9 .i64 A B) 1000000) λx=>o5 (bH x.1 x.2 1000000 C) λx=>o5 (jK x 1000000000) λb=>l7 b (some (0,3)) (some (x,0))))))
def c5o:FQ:=⟨[G5,G5,G5],⟨[(.tmp 6,G5),(.tmp 7,G5)],[]⟩,mE 37 [(349,b8g),(350,b8h),(351,b8i)],F6⟩
def c8G:FSpec:=X7 c5o λx=>JZ x.1 x.2.1 x.2.2
def wI(A:Int)(B:Int)(C:Int):Option I9:=o5 (l7 (D9 C 0) (some (.inr (0,1))) (l7 (D9 5 C) (some (.inr (0,1))) (some (.inl ())))) λo=>U6 o (λx=>l7 (x8 B 0) (some (0,12)) (o5 (jK A 1000000000000000) λx=>l7 x (some (0,3)) (o5 (jK B 1000000000000000) λx=>l7 x (some (0,3)) (l7 (D9 B 0) (o5 (xZ (I7 .i64 0 A) (I7 .i64 0 B)) λx=>o5 (jK x.1 1001) λc=>l7 c (some (0,3)) (o5 (pO .i64 (X9 .i64 x.2 1000) (I7 .i64 0 B)) λd=>o5 (zn (X9 .i64 x.2 1000) (I7 .i64 0 B)) λb=>o5 (pO .i64 (X9 .i64 b 1000) (I7 .i64 0 B)) λf=>o5 (zn (X9 .i64 b 1000) (I7 .i64 0 B)) λg=>o5 (bH (x9 .i64 (x9 .i64 (X9 .i64 x.1 1000000) (X9 .i64 d 1000)) f) g (I7 .i64 0 B) C) λx=>o5 (jK x 1000000000) λi=>l7 i (some (0,3)) (some (x,0)))) (o5 (xZ A B) λx=>o5 (jK x.1 1001) λc=>l7 c (some (0,3)) (o5 (pO .i64 (X9 .i64 x.2 1000) B) λd=>o5 (zn (X9 .i64 x.2 1000) B) λb=>o5 (pO .i64 (X9 .i64 b 1000) B) λf=>o5 (zn (X9 .i64 b 1000) B) λg=>o5 (bH (x9 .i64 (x9 .i64 (X9 .i64 x.1 1000000) (X9 .i64 d 1000)) f) g B C) λx=>o5 (jK x 1000000000) λi=>l7 i (some (0,3)) (some (x,0)))))))) λr=>some r
def c5p:FQ:=⟨[G5,G5,G5],⟨[(.tmp 6,G5),(.tmp 7,G5)],[]⟩,mE 71 [(349,b8g),(350,b8h),(351,b8i)],sN 1 (Y2 (jnR [(6,8),(13,19)] nX F6) F6)⟩
def c8H:FSpec:=X7 c5p λx=>wI x.1 x.2.1 x.2.2
def xY(A:Int)(B:Int)(C:Int):Option I9:=o5 (DW C) λx=>l7 (D7 x) (some (0,1)) (l7 (x8 B 0) (some (0,12)) (o5 (jb A 4611686018427387904) λx=>l7 x (some (0,3)) (o5 (jb B 4611686018427387904) λx=>l7 x (some (0,3)) (o5 (yO A) λx=>o5 (yO B) λb=>o5 (pO .i64 x b) λc=>o5 (zn x b) λx=>o5 (lN c x b (D7 (jl (D9 A 0) (D9 B 0))) C) λx=>some (x,0)))))
def c5q:FQ:=⟨[G5,G5,G5],⟨[(.tmp 6,G5),(.tmp 7,G5)],[]⟩,mE 39 [(321,b2K),(322,b2L),(352,b5L),(347,b2O)],F6⟩
def c8I:FSpec:=X7 c5q λx=>xY x.1 x.2.1 x.2.2
def zM(A:Int)(B:Int)(C:Int):Option I9:=o5 (DW C) λx=>l7 (D7 x) (some (0,1)) (l7 (D9 B 1) (some (0,12)) (o5 (jb A 1000000000000000) λx=>l7 x (some (0,3)) (l7 (D9 1000000000000000 B) (some (0,3)) (o5 (yO A) λx=>o5 (pO .i64 x B) λb=>o5 (zn x B) λx=>o5 (lN b x B (D9 A 0) C) λx=>o5 (jb (X9 .i64 x B) 1000000000000000) λc=>l7 c (some (0,3)) (some (X9 .i64 x B,0))))))
def c5r:FQ:=⟨[G5,G5,G5],⟨[(.tmp 6,G5),(.tmp 7,G5)],[]⟩,mE 39 [(321,b2K),(322,b2L),(352,b5L),(347,b2O)],F6⟩
def c8J:FSpec:=X7 c5r λx=>zM x.1 x.2.1 x.2.2
def yT(A:I9)(B:J4)(C:J4):Option (J4×Int):=o5 (o5 (l7 (x8 A.1 13) (l7 (x8 C.1 2) (l7 (x8 B.1 3) (some true) (some (x8 B.1 2))) (some false)) (some false)) λx=>l7 x (o5 (wU B.1 B.2.2 C.2.2) λx=>some (.inr x)) (o5 (l7 (x8 A.1 14) (l7 (x8 C.1 4) (some (x8 B.1 3)) (some false)) (some false)) λx=>l7 x (o5 (EG B.2.2 C.2.2 A.2) λx=>o5 (qO B.1 x.1 x.2) λx=>some (.inr x)) (o5 (l7 (x8 A.1 14) (l7 (x8 C.1 4) (some (x8 B.1 4)) (some false)) (some false)) λx=>l7 x (o5 (JZ B.2.2 C.2.2 A.2) λx=>o5 (qO B.1 x.1 x.2) λx=>some (.inr x)) (o5 (l7 (x8 A.1 15) (l7 (x8 B.1 3) (some (x8 C.1 3)) (some false)) (some false)) λx=>l7 x (o5 (wI B.2.2 C.2.2 A.2) λx=>o5 (qO 4 x.1 x.2) λx=>some (.inr x)) (o5 (l7 (x8 A.1 15) (l7 (x8 C.1 2) (l7 (x8 B.1 3) (some true) (some (x8 B.1 2))) (some false)) (some false)) λx=>l7 x (o5 (xY B.2.2 C.2.2 A.2) λx=>o5 (qO B.1 x.1 x.2) λx=>some (.inr x)) (l7 (x8 A.1 16) (l7 (x8 B.1 3) (l7 (x8 C.1 3) (o5 (zM B.2.2 C.2.2 A.2) λx=>o5 (qO B.1 x.1 x.2) λx=>some (.inr x)) (some (.inl (0,0,0)))) (some (.inl (0,0,0)))) (some (.inl (0,0,0))))))))) λo=>U6 o (λ(x:J4)=>some ((0,0,0),8)) λr=>some r
def c4S:FQ:=⟨[tD y2,tD y3,tD y3],⟨[(.cell 6 36,tD y3),(.tmp 7,G5)],[]⟩,mE 199 [(325,c8E),(326,c8F),(302,b5D),(327,c8G),(328,c8H),(329,c8I),(330,c8J)],sN 2 (Y2 (jnR [(6,8),(9,19),(22,198),(4000384,4000385)] ⟨[(6,(false,(.box (dT y3))))],[]⟩ (dn (Y2 (.join [(22,39)] ⟨[(22,dR)],[]⟩ F6) (.cond F6 (Y2 (.join [(48,60)] ⟨[(48,dR)],[]⟩ F6) (.cond F6 (Y2 (.join [(77,91)] ⟨[(77,dR)],[]⟩ F6) (.cond F6 (Y2 (.join [(108,120)] ⟨[(108,dR)],[]⟩ F6) (.cond F6 (Y2 (.join [(135,152)] ⟨[(135,dR)],[]⟩ F6) F6))))))))))) F6)⟩
def c8t:FSpec:=X7 c4S λx=>yT x.1 x.2.1 x.2.2
def wS(A:Int)(B:Int)(C:Int):Option I9:=o5 (l7 (D9 A 1900) (some (.inr (0,3))) (l7 (D9 2199 A) (some (.inr (0,3))) (l7 (D9 C 1) (some (.inr (0,3))) (o5 (gp A B) λx=>l7 (D9 x C) (some (.inr (0,3))) (some (.inl ())))))) λo=>U6 o (λx=>o5 (Y9 (λ(x:I9)=>l7 (D9 x.2 A) (o5 (jL x.2) λb=>some (.inl (x9 .i64 x.1 b,x9 .i64 x.2 1))) (some (.inr x.1))) (I7 .i64 C 1,1900)) λy=>o5 (Y9 (λ(x:I9)=>l7 (D9 x.2 B) (o5 (gp A x.2) λb=>some (.inl (x9 .i64 x.1 b,x9 .i64 x.2 1))) (some (.inr x.1))) (y,1)) λy=>some (y,0)) λr=>some r
def c5P:FQ:=⟨[G5,G5,G5],⟨[(.tmp 6,G5),(.tmp 7,G5)],[]⟩,mE 50 [(319,b5H),(318,b8c)],sN 1 (Y2 (jnR [(6,8),(11,28)] nX F6) (sN 1 (Y2 (sN 1 (dn (.loop [(8,10),(30,39)] ⟨[(8,G5),(9,G5)],[]⟩ 0 ⟨[(8,G5)],[]⟩ F6))) (Y2 (sN 1 (dn (.loop [(8,9),(10,11),(39,49)] ⟨[(8,G5),(10,G5)],[]⟩ 2 ⟨[(8,G5)],[]⟩ F6))) F6))))⟩
def c8T:FSpec:=X7 c5P λx=>wS x.1 x.2.1 x.2.2
def mO(A:Int)(B:Int):Option I9:=o5 (o5 (vG A) λx=>l7 (D7 x) (some (.inr (0,3))) (l7 (D9 B (-3600)) (some (.inr (0,3))) (l7 (D9 3600 B) (some (.inr (0,3))) (some (.inl ()))))) λo=>U6 o (λx=>o5 (Bz A) λx=>o5 (gp (dD .i64 (x9 .i64 (I7 .i64 (x9 .i64 (X9 .i64 12 x.1) x.2.1) 1) B) 12) (x9 .i64 (dM (x9 .i64 (I7 .i64 (x9 .i64 (X9 .i64 12 x.1) x.2.1) 1) B) 12) 1)) λb=>o5 (wS (dD .i64 (x9 .i64 (I7 .i64 (x9 .i64 (X9 .i64 12 x.1) x.2.1) 1) B) 12) (x9 .i64 (dM (x9 .i64 (I7 .i64 (x9 .i64 (X9 .i64 12 x.1) x.2.1) 1) B) 12) 1) (pM x.2.2 b)) λx=>some x) λr=>some r
def c5s:FQ:=⟨[G5,G5],⟨[(.tmp 4,G5),(.tmp 5,G5)],[]⟩,mE 50 [(317,b5G),(299,b7Z),(319,b5H),(353,c8T)],sN 1 (Y2 (jnR [(4,6),(10,21)] nX F6) F6)⟩
def b8d:FSpec:=X7 c5s λx=>mO x.1 x.2
def qM(A:Int)(B:Int):d1B:=o5 (vG A) λx=>l7 (D7 x) (some 0) (o5 (vG B) λx=>l7 (D7 x) (some 0) (o5 (U1 (λ(x:Int)=>o5 (mO A (X9 .i64 12 (x9 .i64 x 1))) λb=>l7 (D7 (x8 b.2 0)) (some (.rt x)) (l7 (D9 B b.1) (some (.rt x)) (some (.nx (x9 .i64 x 1))))) 0) λo=>U6 o (λ(y:PUnit)=>none) λr=>some r))
def c5t:FQ:=⟨[G5,G5],tR 4 G5,mE 34 [(317,b5G),(331,b8d)],sN 3 (dn (lpR [(4,8),(16,34)] ⟨[(5,G5)],[]⟩ 999999 nX F6))⟩
def c8K:FSpec:=X7 c5t λx=>qM x.1 x.2
def yh(A:Int)(B:J4)(C:J4):Option (J4×Int):=l7 (D7 (x8 B.1 5)) (some ((0,0,0),8)) (l7 (x8 A 27) (l7 (D7 (x8 C.1 2)) (some ((0,0,0),8)) (l7 (x8 A 27) (o5 (bY 5 (x9 .i64 B.2.2 C.2.2)) λx=>some x) (o5 (mO B.2.2 C.2.2) λx=>o5 (qO 5 x.1 x.2) λx=>some x))) (l7 (x8 A 28) (l7 (D7 (x8 C.1 2)) (some ((0,0,0),8)) (l7 (x8 A 27) (o5 (bY 5 (x9 .i64 B.2.2 C.2.2)) λx=>some x) (o5 (mO B.2.2 C.2.2) λx=>o5 (qO 5 x.1 x.2) λx=>some x))) (l7 (D7 (x8 C.1 5)) (some ((0,0,0),8)) (l7 (x8 A 29) (o5 (bY 2 (I7 .i64 C.2.2 B.2.2)) λx=>some x) (o5 (qM B.2.2 C.2.2) λx=>o5 (bY 2 x) λx=>some x)))))
def c4T:FQ:=⟨[G5,tD y3,tD y3],⟨[(.cell 6 36,tD y3),(.tmp 7,G5)],[]⟩,mE 69 [(296,a3x),(331,b8d),(302,b5D),(332,c8K)],F6⟩
def c8u:FSpec:=X7 c4T λx=>yh x.1 x.2.1 x.2.2
def qN(A:Int)(B:J4)(C:J4):Option (J4×Int):=o5 (l7 (D7 (x8 B.1 C.1)) (some (.inr ((0,0,0),8))) (l7 (D7 (x8 B.2.1 C.2.1)) (some (.inr ((0,0,0),8))) (some (.inl (0,0,0))))) λo=>U6 o (λ(x:J4)=>o5 (l7 (x8 A 19) (o5 (qo (x8 B.2.2 C.2.2)) λx=>some (.inr x)) (l7 (x8 A 20) (o5 (qo (D7 (x8 B.2.2 C.2.2))) λx=>some (.inr x)) (o5 (l7 (x8 A 23) (some (x8 A 23)) (some (x8 A 24))) λb=>l7 b (l7 (D7 (x8 B.1 1)) (some (.inr ((0,0,0),8))) (l7 (x8 (x9 .i64 B.2.2 C.2.2) 2) (o5 (qo true) λx=>some (.inr x)) (l7 (x8 A 24) (o5 (qo (x8 (x9 .i64 B.2.2 C.2.2) 1)) λx=>some (.inr x)) (o5 (qo false) λx=>some (.inr x))))) (o5 (l7 (x8 A 11) (some (x8 A 11)) (some (x8 A 12))) λc=>l7 c (o5 (CQ B.1) λx=>l7 (D7 x) (some (.inr ((0,0,0),8))) (l7 (x8 A 11) (o5 (bY B.1 (x9 .i64 B.2.2 C.2.2)) λx=>some (.inr x)) (o5 (bY B.1 (I7 .i64 B.2.2 C.2.2)) λx=>some (.inr x)))) (some (.inl x)))))) λo=>U6 o (λ(x:J4)=>o5 (o5 (CQ B.1) λb=>l7 (D7 b) (l7 (D7 (x8 B.1 5)) (some (.inr ((0,0,0),8))) (some (.inl x))) (some (.inl x))) λo=>U6 o (λ(x:J4)=>l7 (x8 A 21) (o5 (qo (D9 B.2.2 C.2.2)) λx=>some x) (l7 (x8 A 22) (o5 (qo (J5 B.2.2 C.2.2)) λx=>some x) (l7 (jl (x8 A 17) (D9 B.2.2 C.2.2)) (some (B,0)) (some (C,0))))) λr=>some r) λr=>some r) λr=>some r
def c4V:FQ:=⟨[G5,tD y3,tD y3],⟨[(.cell 6 36,tD y3),(.tmp 7,G5)],[]⟩,mE 141 [(298,b7Y),(297,b7X),(296,a3x)],sN 1 (Y2 (jnR [(6,21),(4000384,4000385)] ⟨[(6,(false,(.box (dT y3))))],[]⟩ F6) (Y2 (jnR [(6,8),(21,100),(6000000,6000001)] ⟨[(6,(false,(.box (dT y3))))],[]⟩ (sN 1 (dn (sN 1 (.cond F6 (sN 1 (.cond F6 (Y2 (.join [(42,45)] ⟨[(42,dR)],[]⟩ F6) (.cond F6 (Y2 (.join [(70,73)] ⟨[(70,dR)],[]⟩ F6) F6)))))))))) (Y2 (jnR [(6,8),(100,110),(16000000,16000001)] ⟨[(6,(false,(.box (dT y3))))],[]⟩ F6) F6)))⟩
def c8v:FSpec:=X7 c4V λx=>qN x.1 x.2.1 x.2.2
def iL(A:I9)(B:J4)(C:J4):Option (J4×Int):=l7 (J5 13 A.1) (l7 (J5 A.1 16) (o5 (yT A B C) λx=>some x) (l7 (J5 27 A.1) (o5 (yh A.1 B C) λx=>some x) (o5 (qN A.1 B C) λx=>some x))) (l7 (J5 27 A.1) (o5 (yh A.1 B C) λx=>some x) (o5 (qN A.1 B C) λx=>some x))
def c4p:FQ:=⟨[tD y2,tD y3,tD y3],⟨[(.cell 6 36,tD y3),(.tmp 7,G5)],[]⟩,mE 39 [(303,c8t),(304,c8u),(305,c8v)],F6⟩
def c8b:FSpec:=X7 c4p λx=>iL x.1 x.2.1 x.2.2
def sZ(A:I9)(B:List J4)(C:bn):Option (J4×Int):=o5 (CP A (o9 B)) λx=>l7 (D7 x) (some ((0,0,0),2)) (o5 (NS A C) λx=>l7 (D7 x) (some ((0,0,0),6)) (o5 (U1 (λ(x:J4×Int)=>l7 (D9 x.2 (o9 B)) (o5 (F9 B x.2) λb=>o5 (fQ b) λc=>l7 (D7 c) (some (.rt ((0,0,0),8))) (some (.nx (x.1,x9 .i64 x.2 1)))) (some (.ex x.1))) ((0,0,0),0)) λo=>U6 o (λ(y:J4)=>l7 (x8 (o9 B) 0) (l7 (J5 36 A.1) (l7 (J5 A.1 39) (o5 (zN A C) λx=>some x) (o5 (kS A C) λx=>some x)) (o5 (kS A C) λx=>some x)) (l7 (x8 (o9 B) 1) (o5 (F9 B 0) λx=>o5 (tq A x C) λx=>some x) (l7 (x8 (o9 B) 2) (o5 (F9 B 0) λx=>o5 (F9 B 1) λb=>o5 (iL A x b) λx=>some x) (o5 (F9 B 0) λx=>o5 (F9 B 1) λb=>o5 (F9 B 2) λc=>l7 (D7 (x8 x.1 1)) (some ((0,0,0),8)) (l7 (D7 (x8 b.1 c.1)) (some ((0,0,0),8)) (l7 (D7 (x8 b.2.1 c.2.1)) (some ((0,0,0),8)) (l7 (x8 x.2.2 1) (some (b,0)) (some (c,0))))))))) λr=>some r))
def c3N:FQ:=⟨[tD y2,uD y29,tD y55],⟨[(.cell 6 36,tD y3),(.tmp 7,G5)],[]⟩,mE 112 [(267,c7W),(268,c7X),(266,a5y),(269,c7Y),(270,c7Z),(271,c8a),(272,c8b)],sN 3 (Y2 (sN 1 (dn (lpR [(6,9),(23,36),(4000384,4000385)] ⟨[(6,(false,(.box (dT y3)))),(8,G5)],[]⟩ 0 ⟨[(6,(false,(.box (dT y3))))],[]⟩ F6))) F6)⟩
def c7I:FSpec:=X7 c3N λx=>sZ x.1 x.2.1 x.2.2
def a3b:List MG:=[(false,(.dat y12)),G5,(true,(.dat y55))]
def b1v:List MG:=[(false,(.dat y12)),G5,(false,(.dat y43)),(true,(.dat y55))]
def b6v:Ret:=⟨[(.cell 6 36,(true,(.dat y3))),(.tmp 7,G5)],[]⟩
def d0z (r205:M.den (.dat y12)->M.den diM->M.den (.dat y55)->Option (aU ([(true,(.dat y3)),G5]++[]))) (r239:M.den (.dat y12)->M.den diM->M.den (.dat y43)->M.den (.dat y55)->Option (aU ([(true,(.dat y3)),G5]++[]))):Env:=⟨72,eqs,tt,gl,[(238,c7H),(239,⟨b1v,[(true,(.dat y3)),G5],[],λx=>r239 x.1 x.2.1 x.2.2.1 x.2.2.2⟩),(205,⟨a3b,[(true,(.dat y3)),G5],[],λx=>r205 x.1 x.2.1 x.2.2⟩),(240,c7I)],[],[],[],[],[]⟩
def c1p:Ann:=.seq F6 (.seq F6 (.seq F6 (.seq (.joinR [(6,8),(22,39),(4000384,4000385)] ⟨[(6,(false,(.box (.dat y3))))],[]⟩ F6) (.seq F6 (.seq (.seq F6 (.blk (.loopR [(6,8),(10,14),(39,63),(12000000,12000001)] ⟨[(6,(false,(.box (.dat y3)))),(10,(false,(.own y3))),(11,G5)],[]⟩ 0 ⟨[(6,(false,(.box (.dat y3)))),(10,(false,(.own y3)))],[]⟩ F6))) F6)))))
def DX(r205:List I9->Int->bn->Option (J4×Int))(r239:List I9->Int->d1v->bn->Option (J4×Int))(A:List I9)(B:Int)(C:bn):Option (J4×Int):=o5 (yg A B) λx=>o5 (F9 A B) λc=>o5 (l7 (x8 c.1 23) (o5 (r239 A B x C) λx=>some (.inr x)) (l7 (x8 c.1 24) (o5 (r239 A B x C) λx=>some (.inr x)) (l7 (x8 c.1 26) (o5 (r239 A B x C) λx=>some (.inr x)) (some (.inl (0,0,0)))))) λo=>U6 o (λ(d:J4)=>o5 (U1 (λ(b:J4×List J4×Int)=>l7 (D9 b.2.2 (o9 x)) (o5 (F9 x b.2.2) λf=>o5 (U0 x (U9 b.2.2)) λx=>o5 (r205 A x C) λx=>l7 (D7 (x8 x.2 0)) (some (.rt ((0,0,0),x.2))) (o5 (dG b.2.1 [x.1]) λx=>some (.nx (b.1,x,x9 .i64 b.2.2 1)))) (some (.ex (b.1,b.2.1)))) (d,[],0)) λo=>U6 o (λ(y:J4×List J4)=>o5 (F9 A B) λx=>o5 (sZ x y.2 C) λx=>some x) λr=>some r) λr=>some r
def c6h:Ret:=⟨[(.cell 8 36,(true,(.dat y3))),(.tmp 9,G5)],[]⟩
def d0C (r205:M.den (.dat y12)->M.den diM->M.den (.dat y55)->Option (aU ([(true,(.dat y3)),G5]++[]))) (r239:M.den (.dat y12)->M.den diM->M.den (.dat y43)->M.den (.dat y55)->Option (aU ([(true,(.dat y3)),G5]++[]))):Env:=⟨102,eqs,tt,gl,[(205,⟨a3b,[(true,(.dat y3)),G5],[],λx=>r205 x.1 x.2.1 x.2.2⟩),(266,a5y)],[],[],[],[],[]⟩
def c1s:Ann:=.seq F6 (.seq F6 (.seq F6 (.seq F6 (.seq (.joinR [(8,10),(34,43),(4000512,4000513)] ⟨[(8,(false,(.box (.dat y3))))],[]⟩ F6) F6))))
def Au(r205:List I9->Int->bn->Option (J4×Int))(r239:List I9->Int->d1v->bn->Option (J4×Int))(A:List I9)(B:Int)(C:d1v)(D:bn):Option (J4×Int):=o5 (F9 A B) λx=>l7 (D7 (x8 x.2 0)) (some ((0,0,0),2)) (o5 (F9 C 0) λx=>o5 (r205 A x D) λx=>l7 (D7 (x8 x.2 0)) (some ((0,0,0),x.2)) (o5 (l7 (D7 (x8 x.1.1 1)) (some (.inr ((0,0,0),8))) (o5 (fQ x.1) λx=>l7 (D7 x) (some (.inr ((0,0,0),8))) (some (.inl (0,0,0))))) λo=>U6 o (λ(f:J4)=>o5 (F9 A B) λb=>l7 (x8 b.1 26) (l7 (x8 x.1.2.2 1) (o5 (F9 C 1) λx=>o5 (r205 A x D) λx=>some x) (o5 (F9 C 2) λx=>o5 (r205 A x D) λx=>some x)) (o5 (F9 A B) λc=>l7 (jl (x8 c.1 23) (x8 x.1.2.2 0)) (some (x.1,0)) (o5 (F9 C 1) λx=>o5 (r205 A x D) λx=>l7 (D7 (x8 x.2 0)) (some ((0,0,0),x.2)) (l7 (D7 (x8 x.1.1 1)) (some ((0,0,0),8)) (o5 (fQ x.1) λd=>l7 (D7 d) (some ((0,0,0),8)) (some (x.1,0))))))) λr=>some r))
def P9:Nat->(M.den (.dat y12)->M.den diM->M.den (.dat y55)->Option (aU ([(true,(.dat y3)),G5]++[])))×(M.den (.dat y12)->M.den diM->M.den (.dat y43)->M.den (.dat y55)->Option (aU ([(true,(.dat y3)),G5]++[])))|0=>(λa0 a1 a2=>none,λa0 a1 a2 a3=>none)|n+1=>(λa0 a1 a2=>DX (P9 n).1 (P9 n).2 a0 a1 a2,λa0 a1 a2 a3=>Au (P9 n).1 (P9 n).2 a0 a1 a2 a3)
def NT:M.den (.dat y12)->M.den diM->M.den (.dat y55)->Option (aU ([(true,(.dat y3)),G5]++[])):=λa0 a1 a2=>(P9 jU).1 a0 a1 a2
def c7r:FSpec:=mkS a3b b6v λx=>NT x.1 x.2.1 x.2.2
def Ho(A:List I9)(B:bn):Option (J4×Int):=o5 (Lj A) λx=>l7 (D7 (x8 x.2 0)) (some ((0,0,0),x.2)) (o5 (NT A (I7 .i64 (o9 A) 1) B) λx=>some x)
def c3b:FQ:=⟨[uD y12,tD y55],⟨[(.cell 4 36,tD y3),(.tmp 5,G5)],[]⟩,mE 25 [(204,c7q),(205,c7r)],F6⟩
def b7L:FSpec:=X7 c3b λx=>Ho x.1 x.2
def CS(A:d1v)(B:d1v):d1B:=l7 (D7 (x8 (o9 A) (o9 B))) (some 2) (l7 (D9 8 (o9 A)) (some 4) (o5 (U1 (λ(x:Int)=>l7 (D9 x (o9 A)) (o5 (F9 A x) λb=>l7 (D9 b (-1)) (some (.rt 9)) (o5 (F9 A x) λc=>l7 (J5 x c) (some (.rt 9)) (o5 (F9 B x) λd=>l7 (D9 d 0) (some (.rt 3)) (o5 (F9 B x) λf=>l7 (D9 9 f) (some (.rt 3)) (some (.nx (x9 .i64 x 1))))))) (some (.ex ()))) 0) λo=>U6 o (λy=>some 0) λr=>some r))
def c3K:FQ:=⟨[uD y43,uD y43],tR 4 G5,mE 45 [],sN 3 (Y2 (sN 1 (dn (lpR [(4,6),(14,45)] ⟨[(5,G5)],[]⟩ 0 nX F6))) F6)⟩
def c7F:FSpec:=X7 c3K λx=>CS x.1 x.2
def Hq(A:d1v)(B:Int):Option d1v:=o5 (Y9 (λ(x:d1v×Int)=>l7 (D9 x.2 (o9 A)) (o5 (F9 A x.2) λb=>l7 (x8 b B) (o5 (dG x.1 [x.2]) λc=>some (.inl (c,x9 .i64 x.2 1))) (some (.inl (x.1,x9 .i64 x.2 1)))) (some (.inr x.1))) ([],0)) λy=>some y
def c4E:FQ:=⟨[uD y43,G5],tR 4 jR,mE 25 [],sN 2 (Y2 (sN 1 (dn (.loop [(5,7),(8,24),(7000448,7000449)] ⟨[(5,jR),(6,G5)],[]⟩ 0 ⟨[(5,jR)],[]⟩ F6))) F6)⟩
def c8m:FSpec:=X7 c4E λx=>Hq x.1 x.2
def a7n:List MG:=[(false,(.dat y43)),(false,(.dat y43)),(false,(.dat (.sl .bool))),G5]
def b1x:List MG:=[(false,(.dat y43)),(false,(.dat y43)),(false,(.dat (.sl .bool))),G5]
def a7o:List MG:=[(false,(.dat y43)),(false,(.dat y43)),(false,(.dat (.sl .bool))),G5]
def b6w:Ret:=⟨[(.tmp 8,G5)],[]⟩
def d0B(r237:M.den (.dat y43)->M.den (.dat y43)->M.den (.dat (.sl .bool))->M.den diM->Option (aU ([G5]++[]))) (r264:M.den (.dat y43)->M.den (.dat y43)->M.den (.dat (.sl .bool))->M.den diM->Option (aU ([(false,(.dat y43))]++[]))) (r265:M.den (.dat y43)->M.den (.dat y43)->M.den (.dat (.sl .bool))->M.den diM->Option (aU ([G5]++[]))):Env:=⟨28,eqs,tt,gl,[(264,⟨b1x,[(false,(.dat y43))],[],λx=>r264 x.1 x.2.1 x.2.2.1 x.2.2.2⟩),(265,⟨a7o,[G5],[],λx=>r265 x.1 x.2.1 x.2.2.1 x.2.2.2⟩)],[],[],[],[],[]⟩
def c1r:Ann:=.leaf
def zu(r237:d1v->d1v->d1z->Int->d1B)(r264:d1v->d1v->d1z->Int->Option d1v)(r265:d1v->d1v->d1z->Int->d1B)(A:d1v)(B:d1v)(C:d1z)(D:Int):d1B:=o5 (r264 A B C D) λx=>l7 (x8 (o9 x) 0) (some (-1)) (l7 (D9 1 (o9 x)) (some (-2)) (o5 (F9 x 0) λx=>o5 (r265 A B C x) λx=>some x))
def c6j:Ret:=⟨[(.tmp 8,(false,(.dat y43)))],[]⟩
def d0E(r237:M.den (.dat y43)->M.den (.dat y43)->M.den (.dat (.sl .bool))->M.den diM->Option (aU ([G5]++[]))) (r264:M.den (.dat y43)->M.den (.dat y43)->M.den (.dat (.sl .bool))->M.den diM->Option (aU ([(false,(.dat y43))]++[]))) (r265:M.den (.dat y43)->M.den (.dat y43)->M.den (.dat (.sl .bool))->M.den diM->Option (aU ([G5]++[]))):Env:=⟨78,eqs,tt,gl,[(290,c8m),(265,⟨a7o,[G5],[],λx=>r265 x.1 x.2.1 x.2.2.1 x.2.2.2⟩)],[],[],[],[],[]⟩
def c1u:Ann:=.seq F6 (.seq F6 (.seq F6 (.seq (.seq F6 (.blk (.loop [(10,12),(16,77),(10000960,10000961)] ⟨[(10,jR),(11,G5)],[]⟩ 0 ⟨[(10,jR)],[]⟩ (.seq F6 (.seq (.blk (.seq F6 (.seq (.join [(10,11),(31,51),(17000000,17000001)] ⟨[(10,jR)],[]⟩ F6) F6))) F6))))) F6)))
def ES(r237:d1v->d1v->d1z->Int->d1B)(r264:d1v->d1v->d1z->Int->Option d1v)(r265:d1v->d1v->d1z->Int->d1B)(A:d1v)(B:d1v)(C:d1z)(D:Int):Option d1v:=o5 (Hq A D) λx=>o5 (Y9 (λ(b:d1v×Int)=>l7 (D9 b.2 (o9 x)) (o5 (F9 x b.2) λq=>o5 (U0 x (U9 b.2)) λk=>o5 (r265 A B C k) λn=>l7 (x8 n (-1)) (some (.inl (b.1,x9 .i64 b.2 1))) (o5 (l7 (D9 0 (o9 b.1)) (o5 (F9 x b.2) λc=>o5 (U0 x (U9 b.2)) λx=>o5 (F9 B x) λx=>o5 (F9 b.1 0) λg=>o5 (U0 b.1 (U9 0)) λd=>o5 (F9 B d) λf=>l7 (D9 f x) (some []) (some b.1)) (some b.1)) λc=>l7 (x8 (o9 c) 0) (o5 (F9 x b.2) λg=>o5 (U0 x (U9 b.2)) λx=>o5 (dG c [x]) λx=>some (.inl (x,x9 .i64 b.2 1))) (o5 (F9 x b.2) λg=>o5 (U0 x (U9 b.2)) λd=>o5 (F9 B d) λf=>o5 (F9 c 0) λt=>o5 (U0 c (U9 0)) λi=>o5 (F9 B i) λj=>l7 (x8 f j) (o5 (F9 x b.2) λp=>o5 (U0 x (U9 b.2)) λx=>o5 (dG c [x]) λx=>some (.inl (x,x9 .i64 b.2 1))) (some (.inl (c,x9 .i64 b.2 1)))))) (some (.inr b.1))) ([],0)) λy=>some y
def c6k:Ret:=⟨[(.tmp 8,G5)],[]⟩
def d0F(r237:M.den (.dat y43)->M.den (.dat y43)->M.den (.dat (.sl .bool))->M.den diM->Option (aU ([G5]++[]))) (r264:M.den (.dat y43)->M.den (.dat y43)->M.den (.dat (.sl .bool))->M.den diM->Option (aU ([(false,(.dat y43))]++[]))) (r265:M.den (.dat y43)->M.den (.dat y43)->M.den (.dat (.sl .bool))->M.den diM->Option (aU ([G5]++[]))):Env:=⟨25,eqs,tt,gl,[(237,⟨a7n,[G5],[],λx=>r237 x.1 x.2.1 x.2.2.1 x.2.2.2⟩)],[],[],[],[],[]⟩
def c1w:Ann:=.leaf
def Bc(r237:d1v->d1v->d1z->Int->d1B)(r264:d1v->d1v->d1z->Int->Option d1v)(r265:d1v->d1v->d1z->Int->d1B)(A:d1v)(B:d1v)(C:d1z)(D:Int):d1B:=o5 (r237 A B C D) λx=>l7 (x8 x (-1)) (o5 (F9 C D) λb=>l7 b (some D) (some x)) (some x)
def I5:Nat->(M.den (.dat y43)->M.den (.dat y43)->M.den (.dat (.sl .bool))->M.den diM->Option (aU ([G5]++[])))×(M.den (.dat y43)->M.den (.dat y43)->M.den (.dat (.sl .bool))->M.den diM->Option (aU ([(false,(.dat y43))]++[])))×(M.den (.dat y43)->M.den (.dat y43)->M.den (.dat (.sl .bool))->M.den diM->Option (aU ([G5]++[])))|0=>(λa0 a1 a2 a3=>none,λa0 a1 a2 a3=>none,λa0 a1 a2 a3=>none)|n+1=>(λa0 a1 a2 a3=>zu (I5 n).1 (I5 n).2.1 (I5 n).2.2 a0 a1 a2 a3,λa0 a1 a2 a3=>ES (I5 n).1 (I5 n).2.1 (I5 n).2.2 a0 a1 a2 a3,λa0 a1 a2 a3=>Bc (I5 n).1 (I5 n).2.1 (I5 n).2.2 a0 a1 a2 a3)
def Hr:M.den (.dat y43)->M.den (.dat y43)->M.den (.dat (.sl .bool))->M.den diM->Option (aU ([G5]++[])):=λa0 a1 a2 a3=>(I5 jU).1 a0 a1 a2 a3
def c7G:FSpec:=mkS a7n b6w λx=>Hr x.1 x.2.1 x.2.2.1 x.2.2.2
def FP(A:d1v)(B:d1v)(C:d1z):d1B:=o5 (CS A B) λx=>l7 (D7 (x8 x 0)) (some (-1)) (l7 (D7 (x8 (o9 C) (o9 A))) (some (-1)) (o5 (Hr A B C (-1)) λx=>some x))
def c3p:FQ:=⟨[uD y43,uD y43,(uD (.sl .bool))],tR 6 G5,mE 22 [(236,c7F),(237,c7G)],F6⟩
def c7p:FSpec:=X7 c3p λx=>FP x.1 x.2.1 x.2.2
def FV(A:D6)(B:bn)(C:Int)(D:Int):Option (Int×N8):=o5 (FT A D B.1) λx=>o5 (U1 (λ(b:N8×d1z×Int)=>l7 (D9 b.2.2 (o9 x.1)) (o5 (F9 x.1 b.2.2) λf=>o5 (U0 x.1 (U9 b.2.2)) λg=>o5 (F9 A.2.2.2.2 g) λd=>l7 (x8 (o9 d.2.2.2.2.2.1) 0) (o5 (dG b.2.1 [true]) λx=>some (.nx (b.1,x,x9 .i64 b.2.2 1))) (o5 (Ho d.2.2.2.2.2.1 B) λc=>l7 (D7 (x8 c.2 0)) (o5 (F9 x.1 b.2.2) λi=>o5 (U0 x.1 (U9 b.2.2)) λx=>some (.rt (0,c.2,C,D,x))) (o5 (dG b.2.1 [x8 c.1.2.2 1]) λx=>some (.nx (b.1,x,x9 .i64 b.2.2 1))))) (some (.ex (b.1,b.2.1)))) ((0,0,0,0),[],0)) λo=>U6 o (λ(y:N8×d1z)=>o5 (FP x.2.1 x.2.2 y.2) λb=>l7 (D9 b 0) (some (b,0,0,0,0)) (o5 (F9 x.1 b) λf=>o5 (U0 x.1 (U9 b)) λx=>some (x,0,0,0,0))) λr=>some r
def c3a:FQ:=⟨[tD y24,tD y55,G5,G5],⟨[(.tmp 8,G5),(.cell 9 71,tD y40)],[]⟩,mE 84 [(202,c7o),(174,b7L),(203,c7p)],sN 3 (Y2 (sN 1 (dn (lpR [(8,10),(13,18),(28,71),(4000576,4000577)] ⟨[(9,(false,(.box (dT y40)))),(13,(uO .bool)),(14,G5)],[]⟩ 0 ⟨[(9,(false,(.box (dT y40)))),(13,(uO .bool))],[]⟩ F6))) F6)⟩
def c7e:FSpec:=X7 c3a λx=>FV x.1 x.2.1 x.2.2.1 x.2.2.2
def FW(A:D6)(B:bn)(C:Int)(D:Int):Option (J4×Int×N8):=o5 (FV A B C D) λx=>l7 (D7 (x8 x.2.1 0)) (some ((0,0,0),0,x.2)) (l7 (x8 x.1 (-1)) (some ((0,0,0),0,10,C,D,-1)) (l7 (x8 x.1 (-2)) (some ((0,0,0),0,11,C,D,-1)) (o5 (F9 A.2.2.2.2 x.1) λc=>o5 (Ho c.2.2.2.2.2.2.1 B) λb=>l7 (D7 (x8 b.2 0)) (some ((0,0,0),0,b.2,C,D,x.1)) (some (b.1,x.1,0,0,0,0)))))
def c2C:FQ:=⟨[tD y24,tD y55,G5,G5],⟨[(.cell 8 36,tD y3),(.tmp 9,G5),(.cell 10 71,tD y40)],[]⟩,mE 62 [(173,c7e),(174,b7L)],F6⟩
def c6L:FSpec:=X7 c2C λx=>FW x.1 x.2.1 x.2.2.1 x.2.2.2
def uZ(A:D6)(B:bn)(C:Int)(D:d1z):Option (List J4×d1v×N8):=o5 (qL (o9 A.2.2.2.1) (0,0,0)) λx=>o5 (qL (o9 A.2.2.2.1) 0) λf=>o5 (rq A) λd=>o5 (U1 (λ(x:(Int×List J4×PUnit×List (List J4)×List I9×List bJ)×N8×List J4×d1v×Int)=>l7 (D9 x.2.2.2.2 (o9 d.1)) (o5 (F9 d.1 x.2.2.2.2) λj=>o5 (U0 d.1 (U9 x.2.2.2.2)) λb=>o5 (F9 D b) λg=>l7 (D7 g) (some (.nx ((x.1.1,x.1.2.1,(),x.1.2.2.2),x.2.1,x.2.2.1,x.2.2.2.1,x9 .i64 x.2.2.2.2 1))) (o5 (FW A (x.1.1,x.1.2.1,x.2.2.1,x.1.2.2.2) C b) λc=>l7 (D7 (x8 c.2.2.1 0)) (some (.rt ([],[],c.2.2))) (o5 (F9 x.2.2.1 b) λk=>o5 (U0 x.2.2.1 (U9 b)) λn=>o5 (F9 x.2.2.2.1 b) λp=>o5 (U0 x.2.2.2.1 (U9 b)) λi=>some (.nx ((x.1.1,x.1.2.1,(),x.1.2.2.2),x.2.1,bi x.2.2.1 (U9 b) c.1,bi x.2.2.2.1 (U9 b) c.2.1,x9 .i64 x.2.2.2.2 1))))) (some (.ex (x.2.1,x.2.2.1,x.2.2.2.1)))) ((B.1,B.2.1,(),B.2.2.2),(0,0,0,0),x,f,0)) λo=>U6 o (λ(y:N8×Zh)=>some (y.2.1,y.2.2,0,0,0,0)) λr=>some r
def q86:FQ:=⟨[tD y24,tD y55,G5,(uD (.sl .bool))],⟨[(.tmp 8,uO y3),(.tmp 9,jR),(.cell 10 71,tD y40)],[]⟩,mE 74 [(142,c6K),(143,c6L)],sN 4 (Y2 (sN 1 (dn (lpR [(5,6),(8,13),(15,20),(33,71),(4000320,4000321),(4000640,4000641),(7001472,7001473),(10001728,10001729)] ⟨[(5,(false,(.box (pA diM (pA (dT y29) (pA (.cell none) (pA (dT y30) (pA (dT y12) (dT y9))))))))),(10,(false,(.box (dT y40)))),(11,(uO y3)),(12,jR),(15,G5)],[]⟩ 0 ⟨[(10,(false,(.box (dT y40)))),(11,(uO y3)),(12,jR)],[]⟩ F6))) F6)⟩
def s86:FSpec:=X7 q86 λx=>uZ x.1 x.2.1 x.2.2.1 x.2.2.2
def ru(A:U5)(B:Int)(C:ig)(D:d1z):Option (List (List J4)×List d1v×N8):=o5 (lY A B) λx=>o5 (U1 (λ(b:N8×List (List J4)×List d1v×Int)=>l7 (D9 b.2.2.2 (o9 C.2.2)) (o5 (ET A C b.2.2.2) λc=>o5 (uZ x c b.2.2.2 D) λx=>l7 (D7 (x8 x.2.2.1 0)) (some (.rt ([],[],x.2.2))) (o5 (dG b.2.1 [x.1]) λd=>o5 (dG b.2.2.1 [x.2.1]) λx=>some (.nx (b.1,d,x,x9 .i64 b.2.2.2 1)))) (some (.ex (b.1,b.2.1,b.2.2.1)))) ((0,0,0,0),[],[],0)) λo=>U6 o (λ(y:N8×List (List J4)×List d1v)=>some (y.2.1,y.2.2,0,0,0,0)) λr=>some r
def q85:FQ:=⟨[tD y27,G5,tD y32,(uD (.sl .bool))],⟨[(.tmp 8,uO y29),(.tmp 9,uO y43),(.cell 10 71,tD y40)],[]⟩,mE 55 [(83,s83),(141,c6J),(86,s86)],sN 4 (Y2 (sN 1 (dn (lpR [(8,13),(14,18),(21,52),(4000640,4000641)] ⟨[(10,(false,(.box (dT y40)))),(11,(uO y29)),(12,(uO y43)),(14,G5)],[]⟩ 0 ⟨[(10,(false,(.box (dT y40)))),(11,(uO y29)),(12,(uO y43))],[]⟩ F6))) F6)⟩
def s85:FSpec:=X7 q85 λx=>ru x.1 x.2.1 x.2.2.1 x.2.2.2
def Po(A:U5)(B:Int)(C:ig)(D:List (List J4)):Option bn:=o5 (lY A B) λx=>o5 (Y9 (λ(b:bn×Int)=>l7 (D9 b.2 (o9 x.2.2.2.1)) (o5 (F9 x.2.2.2.1 b.2) λx=>o5 (dG b.1.2.2.2.2.1 [x.2]) λx=>some (.inl ((b.1.1,b.1.2.1,b.1.2.2.1,b.1.2.2.2.1,x,b.1.2.2.2.2.2),x9 .i64 b.2 1))) (some (.inr b.1))) ((C.1,C.2.1,[],D,[],A.2.1),0)) λy=>some y
def q87:FQ:=⟨[tD y27,G5,tD y32,uD y30],cR 8 133 (tD y55),mE 42 [(83,s83)],sN 3 (Y2 (sN 1 (dn (.loop [(9,10),(11,12),(23,41),(7000576,7000577)] ⟨[(9,(false,(.box (pA diM (pA (dT y29) (pA (dT y29) (pA (dT y30) (pA (oW y2) (dT y9))))))))),(11,G5)],[]⟩ 0 ⟨[(9,(false,(.box (pA diM (pA (dT y29) (pA (dT y29) (pA (dT y30) (pA (oW y2) (dT y9)))))))))],[]⟩ F6))) F6)⟩
def s87:FSpec:=X7 q87 λx=>Po x.1 x.2.1 x.2.2.1 x.2.2.2
def Bd(A:U5)(B:Int)(C:ig)(D:Int):Option (J4×Int×N8):=o5 (F9 A.2.2 B) λx=>o5 (qL (o9 x.2.2.2.1) false) λc=>o5 (zQ x c D) λd=>o5 (lY A B) λf=>o5 (qL (o9 f.2.2.2.1) false) λg=>o5 (tu A B g D) λi=>o5 (ru A B C i) λb=>l7 (D7 (x8 b.2.2.1 0)) (some ((0,0,0),0,b.2.2)) (o5 (Po A B C b.1) λj=>o5 (uZ x j (-1) d) λx=>l7 (D7 (x8 x.2.2.1 0)) (some ((0,0,0),0,x.2.2)) (o5 (F9 x.1 D) λp=>o5 (U0 x.1 (U9 D)) λk=>o5 (F9 x.2.1 D) λn=>o5 (U0 x.2.1 (U9 D)) λx=>some (k,x,0,0,0,0)))
def q48:FQ:=⟨[tD y27,G5,tD y32,G5],⟨[(.cell 8 36,tD y3),(.tmp 9,G5),(.cell 10 71,tD y40)],[]⟩,mE 84 [(82,s82),(83,s83),(84,s84),(85,s85),(87,s87),(86,s86)],F6⟩
def s48:FSpec:=X7 q48 λx=>Bd x.1 x.2.1 x.2.2.1 x.2.2.2
def zO(A:U5)(B:Int)(C:ig)(D:Int):Option (J4×Int×N8):=o5 (CV A B C D true) λx=>l7 (D7 (x8 x.1 0)) (some ((0,0,0),0,x)) (o5 (Bd A B C D) λx=>some x)
def q21:FQ:=⟨[tD y27,G5,tD y32,G5],⟨[(.cell 8 36,tD y3),(.tmp 9,G5),(.cell 10 71,tD y40)],[]⟩,mE 30 [(47,s47),(48,s48)],F6⟩
def s21:FSpec:=X7 q21 λx=>zO x.1 x.2.1 x.2.2.1 x.2.2.2
def Eo(A:U5)(B:d1x):d1B:=o5 (U1 (λ(x:Int)=>l7 (D9 x (o9 A.2.2)) (o5 (F9 A.2.2 x) λb=>l7 (seq b.1 B) (some (.rt x)) (some (.nx (x9 .i64 x 1)))) (some (.ex ()))) 0) λo=>U6 o (λy=>some (-1)) λr=>some r
def q88:FQ:=⟨[tD y27,(uD .str)],tR 4 G5,mE 22 [],sN 1 (Y2 (sN 1 (dn (lpR [(4,22)] ⟨[(5,G5)],[]⟩ 0 nX F6))) F6)⟩
def s88:FSpec:=X7 q88 λx=>Eo x.1 x.2
def FX(A:D6)(B:d1x):d1B:=o5 (U1 (λ(x:Int)=>l7 (D9 x (o9 A.2.2.2.2)) (o5 (F9 A.2.2.2.2 x) λb=>l7 (seq b.1 B) (some (.rt x)) (some (.nx (x9 .i64 x 1)))) (some (.ex ()))) 0) λo=>U6 o (λy=>some (-1)) λr=>some r
def q89:FQ:=⟨[tD y24,(uD .str)],tR 4 G5,mE 22 [],sN 1 (Y2 (sN 1 (dn (lpR [(4,22)] ⟨[(5,G5)],[]⟩ 0 nX F6))) F6)⟩
def s89:FSpec:=X7 q89 λx=>FX x.1 x.2
def tC(A:U5)(B:d1x)(C:d1x):Option (D6×Int×Bool):=o5 (Eo A B) λx=>l7 (D9 x 0) (some (([],0,[],[],[]),0,false)) (o5 (F9 A.2.2 x) λc=>o5 (FX c C) λb=>l7 (D9 b 0) (some (([],0,[],[],[]),0,false)) (o5 (F9 A.2.2 x) λx=>some (x,b,true)))
def q49:FQ:=⟨[tD y27,(uD .str),(uD .str)],⟨[(.cell 6 61,tD y24),(.tmp 7,G5),(.tmp 8,dR)],[]⟩,mE 33 [(88,s88),(89,s89)],F6⟩
def s49:FSpec:=X7 q49 λx=>tC x.1 x.2.1 x.2.2
def zS(A:D6)(B:Int):Option d1x:=l7 (D9 B 0) (some []) (l7 (J5 (o9 A.2.2.2.1) B) (some []) (o5 (F9 A.2.2.2.1 B) λx=>some x.1))
def q90:FQ:=⟨[tD y24,G5],tR 4 (uD .str),mE 20 [],F6⟩
def s90:FSpec:=X7 q90 λx=>zS x.1 x.2
def vg(A:D6)(B:Int):Option d1x:=l7 (D9 B 0) (some []) (l7 (J5 (o9 A.2.2.2.2) B) (some []) (o5 (F9 A.2.2.2.2 B) λx=>some x.1))
def q91:FQ:=⟨[tD y24,G5],tR 4 (uD .str),mE 20 [],F6⟩
def s91:FSpec:=X7 q91 λx=>vg x.1 x.2
def HY(A:List I9)(B:List I9):d1A:=l7 (D7 (x8 (o9 A) (o9 B))) (some false) (o5 (U1 (λ(x:Int)=>l7 (D9 x (o9 A)) (l7 (D9 x (o9 B)) (o5 (F9 A x) λb=>o5 (F9 B x) λc=>l7 (D7 (aj (x8 b.1 c.1) (x8 b.2 c.2))) (some (.rt false)) (some (.nx (x9 .i64 x 1)))) (some (.ex ()))) (some (.ex ()))) 0) λo=>U6 o (λy=>some true) λr=>some r)
def q92:FQ:=⟨[uD y12,uD y12],tR 4 dR,mE 32 [],sN 2 (Y2 (sN 1 (dn (lpR [(4,6),(11,32)] ⟨[(5,G5)],[]⟩ 0 nX F6))) F6)⟩
def s92:FSpec:=X7 q92 λx=>HY x.1 x.2
def IU(A:D6)(B:Int)(C:D6)(D:Int):d1A:=o5 (F9 A.2.2.2.2 B) λx=>o5 (F9 C.2.2.2.2 D) λb=>o5 (zS A x.2.1) λc=>o5 (zS C b.2.1) λd=>l7 (seq c d) (o5 (vg A x.2.2.1) λf=>o5 (vg C b.2.2.1) λg=>l7 (seq f g) (l7 (x8 x.2.2.2.1 b.2.2.2.1) (l7 (aj (x8 x.2.2.2.2.1.1 b.2.2.2.2.1.1) (x8 x.2.2.2.2.1.2 b.2.2.2.2.1.2)) (o5 (HY x.2.2.2.2.2.1 b.2.2.2.2.2.1) λi=>l7 i (o5 (HY x.2.2.2.2.2.2.1 b.2.2.2.2.2.2.1) λj=>l7 j (some (seq x.2.2.2.2.2.2.2 b.2.2.2.2.2.2.2)) (some false)) (some false)) (some false)) (some false)) (some false)) (some false)
def q50:FQ:=⟨[tD y24,G5,tD y24,G5],tR 8 dR,mE 76 [(90,s90),(91,s91),(92,s92)],F6⟩
def s50:FSpec:=X7 q50 λx=>IU x.1 x.2.1 x.2.2.1 x.2.2.2
def vV(A:U5)(B:U5):Option (List iZ):=o5 (Y9 (λ(x:List iZ×Int)=>l7 (D9 x.2 (o9 A.2.2)) (o5 (F9 A.2.2 x.2) λb=>o5 (Y9 (λ(x:List iZ×Int)=>l7 (D9 x.2 (o9 b.2.2.2.2)) (o5 (F9 b.2.2.2.2 x.2) λg=>o5 (tC B b.1 g.1) λc=>l7 (D7 c.2.2) (o5 (F9 b.2.2.2.2 x.2) λd=>o5 (dG x.1 [(b.1,d.1,1)]) λf=>some (.inl (f,x9 .i64 x.2 1))) (o5 (IU b x.2 c.1 c.2.1) λd=>l7 (D7 d) (o5 (F9 b.2.2.2.2 x.2) λf=>o5 (dG x.1 [(b.1,f.1,3)]) λi=>some (.inl (i,x9 .i64 x.2 1))) (some (.inl (x.1,x9 .i64 x.2 1))))) (some (.inr x.1))) (x.1,0)) λy=>some (.inl (y,x9 .i64 x.2 1))) (some (.inr x.1))) ([],0)) λy=>o5 (Y9 (λ(x:List iZ×Int)=>l7 (D9 x.2 (o9 B.2.2)) (o5 (F9 B.2.2 x.2) λb=>o5 (Y9 (λ(x:List iZ×Int)=>l7 (D9 x.2 (o9 b.2.2.2.2)) (o5 (F9 b.2.2.2.2 x.2) λg=>o5 (tC A b.1 g.1) λc=>l7 (D7 c.2.2) (o5 (F9 b.2.2.2.2 x.2) λd=>o5 (dG x.1 [(b.1,d.1,2)]) λf=>some (.inl (f,x9 .i64 x.2 1))) (some (.inl (x.1,x9 .i64 x.2 1)))) (some (.inr x.1))) (x.1,0)) λy=>some (.inl (y,x9 .i64 x.2 1))) (some (.inr x.1))) (y,0)) λy=>some y
def q22:FQ:=⟨[tD y27,tD y27],tR 4 (uO y34),mE 131 [(49,s49),(50,s50)],sN 2 (Y2 (sN 1 (dn (.loop [(5,12),(18,83)] ⟨[(5,(uO y34)),(6,G5)],[]⟩ 0 ⟨[(5,(uO y34))],[]⟩ (sN 1 (Y2 (dn (sN 2 (dn (.loop [(5,6),(8,12),(30,83),(14000000,14000001)] ⟨[(5,(uO y34)),(8,G5)],[]⟩ 2 ⟨[(5,(uO y34))],[]⟩ F6)))) F6))))) (Y2 (sN 1 (dn (.loop [(5,6),(12,18),(83,130),(15000000,15000001)] ⟨[(5,(uO y34)),(12,G5)],[]⟩ 4 ⟨[(5,(uO y34))],[]⟩ (sN 1 (Y2 (dn (sN 2 (dn (.loop [(5,6),(14,18),(95,130),(70000000,70000001)] ⟨[(5,(uO y34)),(14,G5)],[]⟩ 6 ⟨[(5,(uO y34))],[]⟩ F6)))) F6))))) F6))⟩
def s22:FSpec:=X7 q22 λx=>vV x.1 x.2
def Pq(A:d1v)(B:Int):d1A:=o5 (U1 (λ(x:Int)=>l7 (D9 x (o9 A)) (o5 (F9 A x) λb=>l7 (x8 b B) (some (.rt true)) (some (.nx (x9 .i64 x 1)))) (some (.ex ()))) 0) λo=>U6 o (λy=>some false) λr=>some r
def q95:FQ:=⟨[uD y43,G5],tR 4 dR,mE 18 [],sN 1 (Y2 (sN 1 (dn (lpR [(4,18)] ⟨[(5,G5)],[]⟩ 0 nX F6))) F6)⟩
def s95:FSpec:=X7 q95 λx=>Pq x.1 x.2
def zT(A:D6)(B:d1v)(C:d1x):d1A:=o5 (U1 (λ(x:Int)=>l7 (D9 x (o9 A.2.2.2.2)) (o5 (F9 A.2.2.2.2 x) λb=>l7 (seq b.1 C) (o5 (F9 A.2.2.2.2 x) λc=>o5 (Pq B c.2.1) λd=>l7 d (some (.rt true)) (some (.nx (x9 .i64 x 1)))) (some (.nx (x9 .i64 x 1)))) (some (.ex ()))) 0) λo=>U6 o (λy=>some false) λr=>some r
def q52:FQ:=⟨[tD y24,uD y43,(uD .str)],tR 6 dR,mE 33 [(95,s95)],sN 1 (Y2 (sN 1 (dn (lpR [(6,33)] ⟨[(7,G5)],[]⟩ 0 nX F6))) F6)⟩
def s52:FSpec:=X7 q52 λx=>zT x.1 x.2.1 x.2.2
def vk(A:U5)(B:Int)(C:Int)(D:d1x)(E:d1x):d1A:=o5 (F9 A.2.2 B) λx=>o5 (lI x C) λd=>o5 (dG d [C]) λf=>o5 (l7 (seq x.1 D) (o5 (zT x f E) λx=>l7 x (some (.inr true)) (some (.inl ()))) (some (.inl ()))) λo=>U6 o (λj=>l7 (D9 x.2.1 0) (some false) (o5 (F9 A.2.2 x.2.1) λc=>o5 (uV x C) λx=>o5 (Y9 (λ(b:d1v×Int)=>l7 (D9 b.2 (o9 x)) (o5 (F9 x b.2) λk=>o5 (U0 x (U9 b.2)) λg=>o5 (dG b.1 [g]) λi=>o5 (F9 x b.2) λn=>o5 (U0 x (U9 b.2)) λx=>o5 (lI c x) λx=>o5 (dG i x) λx=>some (.inl (x,x9 .i64 b.2 1))) (some (.inr b.1))) ([],0)) λy=>l7 (seq c.1 D) (o5 (zT c y E) λx=>some x) (some false))) λr=>some r
def q23:FQ:=⟨[tD y27,G5,G5,(uD .str),(uD .str)],tR 10 dR,mE 81 [(51,s51),(52,s52),(53,s53)],sN 3 (Y2 (jnR [(10,11),(28,38)] nX F6) (sN 4 (Y2 (sN 1 (dn (.loop [(15,17),(50,71)] ⟨[(15,jR),(16,G5)],[]⟩ 0 ⟨[(15,jR)],[]⟩ F6))) F6)))⟩
def s23:FSpec:=X7 q23 λx=>vk x.1 x.2.1 x.2.2.1 x.2.2.2.1 x.2.2.2.2
def Ep(A:U5)(B:U5)(C:Int)(D:ig)(E:Int):Option (Aa×Int):=o5 (o5 (uX A) λx=>l7 (D7 (x8 x.1 0)) (some (.inr (((0,0,0),(0,0,0),0,0,[]),1))) (o5 (uX B) λx=>l7 (D7 (x8 x.1 0)) (some (.inr (((0,0,0),(0,0,0),0,0,[]),1))) (some (.inl ((0,0,0),(0,0,0),0,0,[]))))) λo=>U6 o (λ(x:Aa)=>o5 (l7 (D9 C 0) (some (.inr (((0,0,0),(0,0,0),0,0,[]),6))) (l7 (J5 (o9 A.2.2) C) (some (.inr (((0,0,0),(0,0,0),0,0,[]),6))) (l7 (D9 E 0) (some (.inr (((0,0,0),(0,0,0),0,0,[]),6))) (o5 (F9 A.2.2 C) λd=>l7 (J5 (o9 d.2.2.2.1) E) (some (.inr (((0,0,0),(0,0,0),0,0,[]),6))) (some (.inl x)))))) λo=>U6 o (λ(x:Aa)=>o5 (uy A B) λx=>l7 (D7 x) (some (((0,0,0),(0,0,0),0,0,[]),8)) (o5 (zO A C D E) λx=>o5 (zO B C D E) λd=>o5 (vV A B) λf=>o5 (Y9 (λ(x:Aa×Int)=>l7 (D9 x.2 (o9 f)) (o5 (F9 f x.2) λj=>o5 (U0 f (U9 x.2)) λb=>l7 (D7 (x8 b.2.2 2)) (o5 (vk A C E b.1 b.2.1) λg=>l7 g (o5 (dG x.1.2.2.2.2 [b]) λc=>some (.inl ((x.1.1,x.1.2.1,x.1.2.2.1,x.1.2.2.2.1,c),x9 .i64 x.2 1))) (l7 (D7 (x8 b.2.2 1)) (o5 (vk B C E b.1 b.2.1) λc=>l7 c (o5 (dG x.1.2.2.2.2 [b]) λi=>some (.inl ((x.1.1,x.1.2.1,x.1.2.2.1,x.1.2.2.2.1,i),x9 .i64 x.2 1))) (some (.inl (x.1,x9 .i64 x.2 1)))) (some (.inl (x.1,x9 .i64 x.2 1))))) (l7 (D7 (x8 b.2.2 1)) (o5 (vk B C E b.1 b.2.1) λg=>l7 g (o5 (dG x.1.2.2.2.2 [b]) λc=>some (.inl ((x.1.1,x.1.2.1,x.1.2.2.1,x.1.2.2.2.1,c),x9 .i64 x.2 1))) (some (.inl (x.1,x9 .i64 x.2 1)))) (some (.inl (x.1,x9 .i64 x.2 1))))) (some (.inr x.1))) ((x.1,d.1,x.2.2.1,d.2.2.1,[]),0)) λy=>some (y,0))) λr=>some r) λr=>some r
def q7:FQ:=⟨[tD y27,tD y27,G5,tD y32,G5],⟨[(.cell 10 40,tD y39),(.tmp 11,G5)],[]⟩,mE 138 [(19,s19),(20,s20),(21,s21),(22,s22),(23,s23)],sN 1 (Y2 (jnR [(10,12),(23,34),(4000640,4000641)] ⟨[(10,(false,(.box (dT y39))))],[]⟩ F6) (Y2 (jnR [(10,12),(34,59),(6000000,6000001)] ⟨[(10,(false,(.box (dT y39))))],[]⟩ F6) (sN 5 (Y2 (sN 1 (dn (.loop [(18,19),(20,23),(92,137),(43001152,43001153)] ⟨[(18,(false,(.box (pA (dT y3) (pA (dT y3) (pA diM (pA diM (oW y34)))))))),(20,G5)],[]⟩ 0 ⟨[(18,(false,(.box (pA (dT y3) (pA (dT y3) (pA diM (pA diM (oW y34))))))))],[]⟩ F6))) F6))))⟩
def s7:FSpec:=X7 q7 λx=>Ep x.1 x.2.1 x.2.2.1 x.2.2.2.1 x.2.2.2.2
def IZ(A:Aa)(B:Aa):d1A:=l7 (aj (x8 A.1.1 B.1.1) (aj (x8 A.1.2.1 B.1.2.1) (x8 A.1.2.2 B.1.2.2))) (l7 (aj (x8 A.2.1.1 B.2.1.1) (aj (x8 A.2.1.2.1 B.2.1.2.1) (x8 A.2.1.2.2 B.2.1.2.2))) (l7 (x8 A.2.2.1 B.2.2.1) (l7 (x8 A.2.2.2.1 B.2.2.2.1) (o5 (CY A.2.2.2.2 B.2.2.2.2) λx=>some x) (some false)) (some false)) (some false)) (some false)
def q8:FQ:=⟨[tD y39,tD y39],tR 4 dR,mE 38 [(12,s12)],F6⟩
def s8:FSpec:=X7 q8 λx=>IZ x.1 x.2
def ps3:List MG:=[(true,(.dat y28)),G5,(true,(.dat y32)),G5]
def zq(A:Gx)(B:Int)(C:ig)(D:Int):d1A:=o5 (II A C) λx=>l7 (D7 x) (o5 IG λx=>some x) (o5 (xO A.1 A.2 B C D) λx=>o5 (Ep A.1 A.2 B C D) λb=>o5 (IZ x.1 b.1) λc=>l7 c (l7 (x8 x.2 b.2) (o5 IG λx=>some x) (some false)) (some false))
def q3:FQ:=⟨ps3,tR 8 dR,mE 51 [(4,s4),(5,s5),(6,s6),(7,s7),(8,s8)],F6⟩
def s3:FSpec:=X7 q3 λx=>zq x.1 x.2.1 x.2.2.1 x.2.2.2
abbrev d0R:Ty:=y27
end
end Gt
