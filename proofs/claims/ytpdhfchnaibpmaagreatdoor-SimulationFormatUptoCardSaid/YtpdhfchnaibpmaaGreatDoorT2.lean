import Derived.Test.YtpdhfchnaibpmaaGreatDoorT1
set_option linter.all false
open Go Go.GP
namespace Gt
abbrev yO:List UInt8:=[0,1,2,2,3,3,3,3,4,4,4,4,4,4,4,4,5,5,5,5,5,5,5,5,5,5,5,5,5,5,5,5,6,6,6,6,6,6,6,6,6,6,6,6,6,6,6,6,6,6,6,6,6,6,6,6,6,6,6,6,6,6,6,6,7,7,7,7,7,7,7,7,7,7,7,7,7,7,7,7,7,7,7,7,7,7,7,7,7,7,7,7,7,7,7,7,7,7,7,7,7,7,7,7,7,7,7,7,7,7,7,7,7,7,7,7,7,7,7,7,7,7,7,7,7,7,7,7,8,8,8,8,8,8,8,8,8,8,8,8,8,8,8,8,8,8,8,8,8,8,8,8,8,8,8,8,8,8,8,8,8,8,8,8,8,8,8,8,8,8,8,8,8,8,8,8,8,8,8,8,8,8,8,8,8,8,8,8,8,8,8,8,8,8,8,8,8,8,8,8,8,8,8,8,8,8,8,8,8,8,8,8,8,8,8,8,8,8,8,8,8,8,8,8,8,8,8,8,8,8,8,8,8,8,8,8,8,8,8,8,8,8,8,8,8,8,8,8,8,8,8,8,8,8,8,8]
set_option maxRecDepth 100000
noncomputable section
def Jk(f:Func):Code:=match f.body with|some c=>c|none=> .skip
abbrev mkS(ps:List MG)(rt:Ret)(F:ai ps->Option rt.den):FSpec:=⟨ps,rt.rs.map (·.2),rt.outs.map (·.2),F⟩
structure FQ where
 (ps:List MG)
 (rt:Ret)
 (E:Env)
 (an:Ann)
abbrev U8(q:FQ)(F:ai q.ps->Option q.rt.den):FSpec:=mkS q.ps q.rt F
abbrev jnR:=Ann.joinR
abbrev lpR:=Ann.loopR
abbrev Y6:=Ann.seq
abbrev bU:=Ann.blk
abbrev sgN:Sig:=⟨[],[]⟩
def sN:Nat->Ann->Ann
 |0,a=>a|n+1,a=> .seq .leaf (sN n a)
abbrev uO(t:Ty):MG:=(false,.own t)
abbrev uD(t:Ty):MG:=(false,.dat t)
abbrev tD(t:Ty):MG:=(true,.dat t)
abbrev pA:=M.pair
abbrev oW:=M.own
abbrev dT:=M.dat
abbrev F6:Ann:=.leaf
abbrev diM:M:=.dat (.int .i64)
abbrev oiM:M:=.own (.int .i64)
abbrev dbM:M:=.dat .bool
abbrev G6:MG:=(false,diM)
abbrev di:MG:=(false,dbM)
abbrev uoM:MG:=(false,oiM)
abbrev y0:Ty:=.prod (.int .i64) (.int .i64)
abbrev y1:Ty:=.prod (.int .i64) y0
abbrev y2:Ty:=.prod .str (.int .i64)
abbrev y3:Ty:=.prod .str y2
abbrev y4:Ty:=.sl y3
abbrev y5:Ty:=.prod (.int .i64) y4
abbrev y6:Ty:=.prod (.int .i64) y5
abbrev y7:Ty:=.prod y1 y6
abbrev y8:Ty:=.prod y1 y7
abbrev y9:Ty:=.sl y8
abbrev y10:Ty:=.prod (.int .i64) y1
abbrev y11:Ty:=.prod (.int .i64) y10
abbrev y12:Ty:=.prod (.int .i64) y11
abbrev y13:Ty:=.prod (.int .i64) y12
abbrev y14:Ty:=.prod .str (.sl .str)
abbrev y15:Ty:=.sl y14
abbrev y16:Ty:=.prod y0 y1
abbrev y17:Ty:=.sl y16
abbrev y18:Ty:=.prod y0 y17
abbrev y19:Ty:=.prod y0 y18
abbrev y20:Ty:=.prod .str y19
abbrev y21:Ty:=.sl y20
abbrev y22:Ty:=.prod .str y0
abbrev y23:Ty:=.sl y22
abbrev y24:Ty:=.sl y0
abbrev y25:Ty:=.prod y24 .str
abbrev y26:Ty:=.prod y24 y25
abbrev y27:Ty:=.prod y0 y26
abbrev y28:Ty:=.prod (.int .i64) y27
abbrev y29:Ty:=.prod (.int .i64) y28
abbrev y30:Ty:=.prod (.int .i64) y29
abbrev y31:Ty:=.prod .str y30
abbrev y32:Ty:=.sl y31
abbrev y33:Ty:=.prod y23 y32
abbrev y34:Ty:=.prod y23 y33
abbrev y35:Ty:=.prod (.int .i64) y34
abbrev y36:Ty:=.prod .str y35
abbrev y37:Ty:=.sl y36
abbrev y38:Ty:=.prod y21 y37
abbrev y39:Ty:=.prod y15 y38
abbrev y40:Ty:=.sl y1
abbrev y41:Ty:=.sl y40
abbrev y42:Ty:=.prod y40 y41
abbrev y43:Ty:=.prod (.int .i64) y42
abbrev y44:Ty:=.sl y43
abbrev y45:Ty:=.sl (.int .i64)
abbrev y46:Ty:=.sl (.ent true false y3 (.int .i64))
abbrev y47:Ty:=.sl (.int .u8)
abbrev y48:Ty:=.prod .str .str
abbrev y49:Ty:=.sl (.ent true false y48 .bool)
abbrev y50:Ty:=.sl (.ent false false .str (.int .i64))
abbrev y51:Ty:=.prod y36 y50
abbrev y52:Ty:=.sl (.ent false true .str y51)
abbrev y53:Ty:=.prod y40 y45
abbrev y54:Ty:=.sl y53
abbrev y55:Ty:=.prod y45 y54
abbrev y56:Ty:=.prod y40 y55
abbrev y57:Ty:=.prod y24 y21
abbrev y58:Ty:=.prod y41 y57
abbrev y59:Ty:=.prod y40 y58
abbrev y60:Ty:=.prod y40 y59
abbrev y61:Ty:=.prod (.int .i64) y60
abbrev y62:Ty:=.sl (.ent false false (.int .i64) .bool)
abbrev y63:Ty:=.sl y45
abbrev y64:Ty:=.prod y0 .str
abbrev y65:Ty:=.prod (.int .i64) y64
abbrev y66:Ty:=.prod .str y65
abbrev y67:Ty:=.prod .str y66
abbrev y68:Ty:=.prod y24 .bool
abbrev y69:Ty:=.prod y24 y68
abbrev y70:Ty:=.prod y24 y69
abbrev y71:Ty:=.prod y21 y70
abbrev y72:Ty:=.prod y15 y71
abbrev y73:Ty:=.prod (.sl .bool) (.sl .bool)
abbrev y74:Ty:=.prod y36 y73
abbrev y75:Ty:=.prod y36 y74
abbrev y76:Ty:=.prod y45 y61
abbrev y77:Ty:=.prod y24 y76
abbrev y78:Ty:=.prod y45 y45
abbrev y79:Ty:=.prod y45 y78
def tt:List (Nat×TI):=[(3,⟨1,8,(.int .i64),some (.int .i64),[.i .i64 0]⟩),(4,⟨1,1,.bool,some .bool,[.b false]⟩),(5,⟨1,1,(.int .u8),some (.int .u8),[.i .u8 0]⟩),(9,⟨1,16,.str,some .str,[.s []]⟩),(22,⟨1,24,(.sl 37),some y9,[.nl]⟩),(24,⟨7,56,(.struct [(3,0),(3,1),(3,2),(3,3),(3,4),(3,5),(3,6)]),some y13,[.i .i64 0,.i .i64 0,.i .i64 0,.i .i64 0,.i .i64 0,.i .i64 0,.i .i64 0]⟩),(25,⟨1,24,(.sl 126),some y15,[.nl]⟩),(29,⟨1,24,(.sl 9),some (.sl .str),[.nl]⟩),(33,⟨3,24,(.struct [(3,0),(3,1),(3,2)]),some y1,[.i .i64 0,.i .i64 0,.i .i64 0]⟩),(34,⟨1,8,(.int .i64),some (.int .i64),[.i .i64 0]⟩),(35,⟨1,24,(.sl 57),some y4,[.nl]⟩),(37,⟨9,88,(.struct [(33,0),(33,3),(34,6),(34,7),(35,8)]),some y8,[.i .i64 0,.i .i64 0,.i .i64 0,.i .i64 0,.i .i64 0,.i .i64 0,.i .i64 0,.i .i64 0,.nl]⟩),(38,⟨1,24,(.sl 132),some y21,[.nl]⟩),(39,⟨1,24,(.sl 76),some y37,[.nl]⟩),(41,⟨3,72,(.struct [(25,0),(38,1),(39,2)]),some y39,[.nl,.nl,.nl]⟩),(44,⟨2,16,(.struct [(3,0),(3,1)]),some y0,[.i .i64 0,.i .i64 0]⟩),(45,⟨1,24,(.sl 44),some y24,[.nl]⟩),(46,⟨1,24,(.sl 33),some y40,[.nl]⟩),(47,⟨1,24,(.sl 46),some y41,[.nl]⟩),(49,⟨3,56,(.struct [(3,0),(46,1),(47,2)]),some y43,[.i .i64 0,.nl,.nl]⟩),(52,⟨1,24,(.sl 49),some y44,[.nl]⟩),(53,⟨1,24,(.sl 3),some y45,[.nl]⟩),(57,⟨3,40,(.struct [(9,0),(9,1),(3,2)]),some y3,[.s [],.s [],.i .i64 0]⟩),(61,⟨2,32,(.arr 2 9),none,[.s [],.s []]⟩),(66,⟨2,16,(.struct [(3,0),(3,1)]),some y0,[.i .i64 0,.i .i64 0]⟩),(68,⟨2,16,(.struct [(3,0),(3,1)]),some y0,[.i .i64 0,.i .i64 0]⟩),(70,⟨9,120,(.struct [(9,0),(3,1),(3,2),(3,3),(66,4),(45,6),(45,7),(9,8)]),some y31,[.s [],.i .i64 0,.i .i64 0,.i .i64 0,.i .i64 0,.i .i64 0,.nl,.nl,.s []]⟩),(72,⟨3,32,(.struct [(9,0),(68,1)]),some y22,[.s [],.i .i64 0,.i .i64 0]⟩),(73,⟨1,24,(.sl 72),some y23,[.nl]⟩),(74,⟨1,24,(.sl 70),some y32,[.nl]⟩),(76,⟨5,96,(.struct [(9,0),(3,1),(73,2),(73,3),(74,4)]),some y36,[.s [],.i .i64 0,.nl,.nl,.nl]⟩),(81,⟨1,8,(.map 57 3),some y46,[.sl (.ent true false y3 (.int .i64)) []]⟩),(86,⟨1,24,(.sl 5),some y47,[.nl]⟩),(88,⟨1,8,(.int .u64),some (.int .u64),[.i .u64 0]⟩),(94,⟨4,32,(.struct [(34,0),(3,1),(3,2),(3,3)]),some y10,[.i .i64 0,.i .i64 0,.i .i64 0,.i .i64 0]⟩),(99,⟨1,8,(.map 103 4),some y49,[.sl (.ent true false y48 .bool) []]⟩),(103,⟨2,32,(.struct [(9,0),(9,1)]),some y48,[.s [],.s []]⟩),(108,⟨1,8,(.int .u64),some (.int .u64),[.i .u64 0]⟩),(117,⟨1,16,.other,none,[]⟩),(126,⟨2,40,(.struct [(9,0),(29,1)]),some y14,[.s [],.nl]⟩),(130,⟨1,24,(.sl 169),some y17,[.nl]⟩),(132,⟨6,72,(.struct [(9,0),(68,1),(68,3),(130,5)]),some y20,[.s [],.i .i64 0,.i .i64 0,.i .i64 0,.i .i64 0,.nl]⟩),(137,⟨4,32,(.struct [(34,0),(3,1),(3,2),(3,3)]),some y10,[.i .i64 0,.i .i64 0,.i .i64 0,.i .i64 0]⟩),(143,⟨1,8,(.map 9 192),some y52,[.sl (.ent false true .str y51) []]⟩),(169,⟨5,40,(.struct [(66,0),(3,2),(3,3),(3,4)]),some y16,[.i .i64 0,.i .i64 0,.i .i64 0,.i .i64 0,.i .i64 0]⟩),(174,⟨1,24,(.sl 236),some y54,[.nl]⟩),(176,⟨3,72,(.struct [(46,0),(53,1),(174,2)]),some y56,[.nl,.nl,.nl]⟩),(177,⟨1,24,(.sl 68),some y24,[.nl]⟩),(179,⟨6,128,(.struct [(3,0),(46,1),(46,2),(47,3),(177,4),(38,5)]),some y61,[.i .i64 0,.nl,.nl,.nl,.nl,.nl]⟩),(182,⟨1,8,(.map 3 4),some y62,[.sl (.ent false false (.int .i64) .bool) []]⟩),(184,⟨1,24,(.sl 53),some y63,[.nl]⟩),(186,⟨1,24,(.sl 4),some (.sl .bool),[.nl]⟩),(190,⟨1,8,(.map 9 3),some y50,[.sl (.ent false false .str (.int .i64)) []]⟩),(192,⟨6,104,(.struct [(76,0),(190,5)]),some y51,[.s [],.i .i64 0,.nl,.nl,.nl,.sl (.ent false false .str (.int .i64)) []]⟩),(195,⟨6,72,(.struct [(9,0),(9,1),(3,2),(66,3),(9,5)]),some y67,[.s [],.s [],.i .i64 0,.i .i64 0,.i .i64 0,.s []]⟩),(224,⟨6,128,(.struct [(25,0),(38,1),(177,2),(177,3),(177,4),(4,5)]),some y72,[.nl,.nl,.nl,.nl,.nl,.b false]⟩),(231,⟨12,240,(.struct [(76,0),(76,5),(186,10),(186,11)]),some y75,[.s [],.i .i64 0,.nl,.nl,.nl,.s [],.i .i64 0,.nl,.nl,.nl,.nl,.nl]⟩),(236,⟨2,48,(.struct [(46,0),(53,1)]),some y53,[.nl,.nl]⟩),(266,⟨12,96,(.arr 12 3),none,[.i .i64 0,.i .i64 0,.i .i64 0,.i .i64 0,.i .i64 0,.i .i64 0,.i .i64 0,.i .i64 0,.i .i64 0,.i .i64 0,.i .i64 0,.i .i64 0]⟩),(271,⟨1,8,(.ptr 272),none,[]⟩),(272,⟨1,24,(.sl 3),some y45,[.nl]⟩),(279,⟨8,176,(.struct [(45,0),(53,1),(179,2)]),some y77,[.nl,.nl,.i .i64 0,.nl,.nl,.nl,.nl,.nl]⟩),(308,⟨3,72,(.struct [(53,0),(53,1),(53,2)]),some y79,[.nl,.nl,.nl]⟩)]
def eqs:List (Nat×List Ty):=[(24,[(.int .i64),(.int .i64),(.int .i64),(.int .i64),(.int .i64),(.int .i64),(.int .i64)]),(33,[(.int .i64),(.int .i64),(.int .i64)]),(44,[(.int .i64),(.int .i64)]),(57,[.str,.str,(.int .i64)]),(68,[(.int .i64),(.int .i64)]),(72,[.str,(.int .i64),(.int .i64)]),(94,[(.int .i64),(.int .i64),(.int .i64),(.int .i64)]),(103,[.str,.str]),(169,[(.int .i64),(.int .i64),(.int .i64),(.int .i64),(.int .i64)]),(195,[.str,.str,(.int .i64),(.int .i64),(.int .i64),.str])]
def gl:List (Nat×(t:Ty)×List t.den):=[(2,⟨.int .i64,[31,28,31,30,31,30,31,31,30,31,30,31]⟩),(0,⟨.int .u64,[1,10,100,1000,10000,100000,1000000,10000000,100000000,1000000000,10000000000,100000000000,1000000000000,10000000000000,100000000000000,1000000000000000,10000000000000000,100000000000000000,1000000000000000000,10000000000000000000]⟩)]
abbrev mE(n:Nat)(fs:List (Nat×FSpec)):Env:=⟨n,eqs,tt,gl,fs,[],[],[],[],[]⟩
abbrev tR(n:Nat)(m:MG):Ret:=⟨[(.tmp n,m)],[]⟩
abbrev cR(n k:Nat)(m:MG):Ret:=⟨[(.cell n k,m)],[]⟩
abbrev J6:Type:=Ty.den y0
abbrev bZ:Type:=Ty.den y48
abbrev N8:Type:=Ty.den y1
abbrev aJ:Type:=Ty.den y3
abbrev ng:Type:=Ty.den y22
abbrev dB:Type:=Ty.den y14
abbrev aI:Type:=Ty.den y10
abbrev Hy:Type:=Ty.den y16
abbrev jm:Type:=Ty.den y79
abbrev zA:Type:=Ty.den y67
abbrev U5:Type:=Ty.den y13
abbrev EU:Type:=Ty.den y43
abbrev Z7:Type:=Ty.den y8
abbrev ni:Type:=Ty.den y20
abbrev AY:Type:=Ty.den y56
abbrev xB:Type:=Ty.den y31
abbrev jb:Type:=Ty.den y72
abbrev AX:Type:=Ty.den y61
abbrev gJ:Type:=Ty.den y36
abbrev lH:Type:=Ty.den y51
abbrev Y9:Type:=Ty.den y77
abbrev dw:Type:=Ty.den y75
abbrev oq:Type:=Ty.den y39
def tZ(A:List Z7):Option Bool:=l9 (aC (λ(x:Int)=>o5 (J4 x (o9 A)) (o5 (J4 x 60) (l9 (J9 A x) λb=>o5 (J4 60 (o9 b.2.2.2.2)) (some (.rt false)) (l9 (J9 A x) λc=>o5 (J4 1125899906842624 c.1.2.2) (some (.rt false)) (l9 (J9 A x) λd=>o5 (J4 d.1.2.2 (-1125899906842624)) (some (.rt false)) (l9 (J9 A x) λf=>o5 (J4 1125899906842624 f.2.1.2.2) (some (.rt false)) (l9 (J9 A x) λg=>o5 (J4 g.2.1.2.2 (-1125899906842624)) (some (.rt false)) (some (.nx (D5 .i64 x 1)))))))) (some (.ex ()))) (some (.ex ()))) 0) λo=>az o (λy=>some (aN (o9 A) 50)) λr=>some r
def q4:FQ:=⟨[uD y9],tR 2 di,mE 60 [],sN 1 (Y6 (sN 1 (bU (lpR [(2,57)] ⟨[(3,G6)],[]⟩ 0 sgN F6))) F6)⟩
def s4:FSpec:=U8 q4 λx=>tZ x
def wJ(A:List J6):Option oq:=some ([],[],[([104,111,117,115,101],-1,[([97],3,0)],[([100],3,0)],[([98,97,115,101],0,-1,0,(0,109573),[],A,[])])])
def q9:FQ:=⟨[uD y24],⟨[(.cell 2 41,(true,(pA (dT y15) (pA (dT y21) (.owns (pA (dT .str) (pA diM (pA (dT y23) (pA (dT y23) (oW y31))))))))))],[]⟩,⟨22,eqs,tt,gl,[],[(39,(pA (dT .str) (pA diM (pA (dT y23) (pA (dT y23) (oW y31))))))],[],[],[],[]⟩,F6⟩
def s9:FSpec:=U8 q9 λx=>wJ x
def uK(A:Int):Option Bool:=o5 (aN 97 A) (some (aN A 122)) (some false)
def ZW:FQ:=⟨[(false,(dT (.int .u8)))],tR 2 di,mE 9 [],F6⟩
def Xv:FSpec:=U8 ZW λx=>uK x
def zX(A:Int):Option Bool:=o5 (aN 48 A) (some (aN A 57)) (some false)
def u_:FQ:=⟨[(false,(dT (.int .u8)))],tR 2 di,mE 9 [],F6⟩
def a1x:FSpec:=U8 u_ λx=>zX x
def vF(A:List UInt8):Option Int:=l9 (Y5 (λ(x:Int)=>o5 (J4 x (o9 A)) (l9 (sat A x) λb=>l9 (uK b) λc=>o5 c (some (.inl (D5 .i64 x 1))) (l9 (sat A x) λd=>l9 (zX d) λf=>o5 f (some (.inl (D5 .i64 x 1))) (l9 (sat A x) λg=>o5 (x8 g 95) (some (.inl (D5 .i64 x 1))) (some (.inr x))))) (some (.inr x))) 0) λy=>some y
def ZX:FQ:=⟨[uD .str],tR 2 G6,mE 29 [(119,Xv),(149,a1x)],sN 2 (Y6 (bU (.loop [(3,28)] ⟨[(3,G6)],[]⟩ 0 ⟨[(3,G6)],[]⟩ F6)) F6)⟩
def a1j:FSpec:=U8 ZX λx=>vF x
def yj(A:List UInt8):Option Bool:=l9 (o5 (seq A [105,102]) (some (seq A [105,102])) (o5 (seq A [116,104,101,110]) (some (seq A [116,104,101,110])) (o5 (seq A [101,108,115,101]) (some (seq A [101,108,115,101])) (o5 (seq A [111,114]) (some (seq A [111,114])) (o5 (seq A [97,110,100]) (some (seq A [97,110,100])) (o5 (seq A [110,111,116]) (some (seq A [110,111,116])) (o5 (seq A [116,114,117,101]) (some (seq A [116,114,117,101])) (o5 (seq A [102,97,108,115,101]) (some (seq A [102,97,108,115,101])) (o5 (seq A [116,111,100,97,121]) (some (seq A [116,111,100,97,121])) (o5 (seq A [115,104,97,114,101]) (some (seq A [115,104,97,114,101])) (o5 (seq A [100,105,118]) (some (seq A [100,105,118])) (o5 (seq A [114,111,117,110,100]) (some (seq A [114,111,117,110,100])) (o5 (seq A [109,105,110]) (some (seq A [109,105,110])) (o5 (seq A [109,97,120]) (some (seq A [109,97,120])) (o5 (seq A [112,108,117,115]) (some (seq A [112,108,117,115])) (o5 (seq A [109,111,110,116,104,115]) (some (seq A [109,111,110,116,104,115])) (o5 (seq A [100,97,121,115]) (some (seq A [100,97,121,115])) (o5 (seq A [121,101,97,114,115]) (some (seq A [121,101,97,114,115])) (o5 (seq A [121,101,97,114]) (some (seq A [121,101,97,114])) (o5 (seq A [109,111,110,116,104]) (some (seq A [109,111,110,116,104])) (o5 (seq A [116,97,98]) (some (seq A [116,97,98])) (o5 (seq A [98,97,110,100]) (some (seq A [98,97,110,100])) (o5 (seq A [99,111,117,110,116]) (some (seq A [99,111,117,110,116])) (o5 (seq A [115,117,109]) (some (seq A [115,117,109])) (o5 (seq A [97,108,108]) (some (seq A [97,108,108])) (o5 (seq A [97,110,121]) (some (seq A [97,110,121])) (o5 (seq A [109,111,115,116]) (some (seq A [109,111,115,116])) (o5 (seq A [101,110,117,109]) (some (seq A [101,110,117,109])) (o5 (seq A [116,97,98,108,101]) (some (seq A [116,97,98,108,101])) (o5 (seq A [114,111,119]) (some (seq A [114,111,119])) (o5 (seq A [115,99,111,112,101]) (some (seq A [115,99,111,112,101])) (o5 (seq A [109,101,109,98,101,114,115]) (some (seq A [109,101,109,98,101,114,115])) (o5 (seq A [105,110,112,117,116]) (some (seq A [105,110,112,117,116])) (o5 (seq A [100,101,102]) (some (seq A [100,101,102])) (o5 (seq A [114,117,108,101]) (some (seq A [114,117,108,101])) (o5 (seq A [111,102]) (some (seq A [111,102])) (o5 (seq A [111,118,101,114]) (some (seq A [111,118,101,114])) (o5 (seq A [112,114,105,111]) (some (seq A [112,114,105,111])) (o5 (seq A [102,114,111,109]) (some (seq A [102,114,111,109])) (o5 (seq A [116,111]) (some (seq A [116,111])) (o5 (seq A [101,110,100]) (some (seq A [101,110,100])) (o5 (seq A [119,104,101,110]) (some (seq A [119,104,101,110])) (o5 (seq A [105,115]) (some (seq A [105,115])) (o5 (seq A [115,114,99]) (some (seq A [115,114,99])) (o5 (seq A [98,111,111,108]) (some (seq A [98,111,111,108])) (o5 (seq A [105,110,116]) (some (seq A [105,110,116])) (o5 (seq A [109,111,110,101,121]) (some (seq A [109,111,110,101,121])) (o5 (seq A [114,97,116,101]) (some (seq A [114,97,116,101])) (o5 (seq A [100,97,116,101]) (some (seq A [100,97,116,101])) (o5 (seq A [100,111,119,110]) (some (seq A [100,111,119,110])) (o5 (seq A [117,112]) (some (seq A [117,112])) (o5 (seq A [122,101,114,111]) (some (seq A [122,101,114,111])) (o5 (seq A [97,119,97,121]) (some (seq A [97,119,97,121])) (o5 (seq A [104,97,108,102]) (some (seq A [104,97,108,102])) (some (seq A [101,118,101,110])))))))))))))))))))))))))))))))))))))))))))))))))))))))) λx=>o5 x (some true) (some false)
def ZY:FQ:=⟨[uD .str],tR 2 di,mE 60 [],sN 1 (Y6 (sN 1 (bU (Y6 (.join [(4,60)] ⟨[(4,di)],[]⟩ F6) F6))) F6)⟩
def a1k:FSpec:=U8 ZY λx=>yj x
def bW(A:List UInt8):Option Bool:=o5 (F8 (seq A [])) (l9 (sat A 0) λx=>l9 (uK x) λx=>o5 x (l9 (vF A) λx=>o5 (x8 x (o9 A)) (o5 (aN (o9 A) 16) (l9 (yj A) λx=>some (F8 x)) (some false)) (some false)) (some false)) (some false)
def q84:FQ:=⟨[uD .str],tR 2 di,mE 27 [(119,Xv),(120,a1j),(121,a1k)],F6⟩
def s84:FSpec:=U8 q84 λx=>bW x
def zT(A:dB)(B:List UInt8):Option Bool:=some (seq A.1 B)
def Sv:FQ:=⟨[tD y14,(false,(.rp .str))],tR 3 di,mE 8 [],F6⟩
def NQ:FSpec:=U8 Sv λx=>zT x.1 x.2
def iC(A:List dB)(B:List UInt8):Option Int:=l9 (aC (λ(x:Int)=>o5 (J4 x (o9 A)) (l9 (J9 A x) λb=>l9 (zT b B) λc=>o5 c (some (.rt x)) (some (.nx (D5 .i64 x 1)))) (some (.ex ()))) 0) λo=>az o (λy=>some (-1)) λr=>some r
def SE:FQ:=⟨[uD y15,(false,(.fn 123 [.str]))],tR 4 G6,mE 19 [(123,NQ)],sN 1 (Y6 (sN 1 (bU (lpR [(4,6),(8,19)] ⟨[(8,G6)],[]⟩ 0 sgN F6))) F6)⟩
def TM:FSpec:=U8 SE λx=>iC x.1 x.2
def fG(A:List dB)(B:List UInt8):Option Bool:=l9 (iC A B) λx=>some (aN 0 x)
def Su:FQ:=⟨[uD y15,(false,(.fn 123 [.str]))],tR 4 di,mE 9 [(150,TM)],F6⟩
def TJ:FSpec:=U8 Su λx=>fG x.1 x.2
def uf(A:List dB)(B:List UInt8):Option Bool:=l9 (fG A B) λx=>some x
def q85:FQ:=⟨[uD y15,(uD .str)],tR 4 di,mE 8 [(123,NQ),(122,TJ)],F6⟩
def s85:FSpec:=U8 q85 λx=>uf x.1 x.2
def kX(A:List (List UInt8))(B:List UInt8):Option Int:=l9 (aC (λ(x:Int)=>o5 (J4 x (o9 A)) (l9 (J9 A x) λb=>o5 (seq B b) (some (.rt x)) (some (.nx (D5 .i64 x 1)))) (some (.ex ()))) 0) λo=>az o (λy=>some (-1)) λr=>some r
def r_:FQ:=⟨[uD (.sl .str),(uD .str)],tR 4 G6,mE 19 [],sN 1 (Y6 (sN 1 (bU (lpR [(4,6),(8,19)] ⟨[(8,G6)],[]⟩ 0 sgN F6))) F6)⟩
def a1v:FSpec:=U8 r_ λx=>kX x.1 x.2
def jG(A:List (List UInt8))(B:List UInt8):Option Bool:=l9 (kX A B) λx=>some (aN 0 x)
def ZT:FQ:=⟨[uD (.sl .str),(uD .str)],tR 4 di,mE 9 [(147,a1v)],F6⟩
def a1h:FSpec:=U8 ZT λx=>jG x.1 x.2
def zQ(A:oq)(B:Int)(C:dB):Option J6:=l9 (bW C.1) λx=>o5 (F8 x) (some (2,0)) (l9 (jD A.1 0 B) λx=>l9 (uf x C.1) λx=>o5 x (some (7,0)) (o5 (x8 (o9 C.2) 0) (some (5,0)) (o5 (J4 16 (o9 C.2)) (some (4,116)) (l9 (aC (λ(x:Int)=>o5 (J4 x (o9 C.2)) (l9 (J9 C.2 x) λb=>l9 (bW b) λc=>o5 (F8 c) (some (.rt (2,D5 .i64 100 x))) (l9 (jD C.2 0 x) λd=>l9 (jG d b) λf=>o5 f (some (.rt (7,D5 .i64 100 x))) (some (.nx (D5 .i64 x 1))))) (some (.ex ()))) 0) λo=>az o (λy=>some (0,0)) λr=>some r))))
def q82:FQ:=⟨[tD y39,G6,tD y14],⟨[(.tmp 6,G6),(.tmp 7,G6)],[]⟩,mE 55 [(84,s84),(85,s85),(114,a1h)],sN 2 (Y6 (sN 1 (bU (lpR [(6,10),(36,55)] ⟨[(36,G6)],[]⟩ 1 sgN F6))) F6)⟩
def s82:FSpec:=U8 q82 λx=>zQ x.1 x.2.1 x.2.2
def yf(A:oq):Option aI:=o5 (J4 8 (o9 A.1)) (some (4,1,8,0)) (l9 (aC (λ(x:aI×Int)=>o5 (J4 x.2 (o9 A.1)) (l9 (J9 A.1 x.2) λc=>l9 (zQ A x.2 c) λb=>o5 (F8 (x8 b.1 0)) (some (.rt (b.1,1,x.2,b.2))) (some (.nx (x.1,D5 .i64 x.2 1)))) (some (.ex x.1))) ((0,0,0,0),0)) λo=>az o (λ(y:aI)=>some (0,0,0,0)) λr=>some r)
def q52:FQ:=⟨[tD y39],cR 2 94 (tD y10),mE 35 [(82,s82)],sN 2 (Y6 (sN 1 (bU (lpR [(2,7),(15,34),(4000128,4000129)] ⟨[(2,(false,(.box (dT y10)))),(15,G6)],[]⟩ 0 ⟨[(2,(false,(.box (dT y10))))],[]⟩ F6))) F6)⟩
def s52:FSpec:=U8 q52 λx=>yf x
def V9(A:J6)(B:List dB):Option Bool:=l9 (o5 (x8 A.1 1) (some (x8 A.1 1)) (o5 (x8 A.1 2) (some (x8 A.1 2)) (o5 (x8 A.1 3) (some (x8 A.1 3)) (o5 (x8 A.1 4) (some (x8 A.1 4)) (some (x8 A.1 5)))))) λx=>o5 x (some (x8 A.2 0)) (o5 (x8 A.1 6) (o5 (aN 0 A.2) (some (J4 A.2 (o9 B))) (some false)) (some false))
def q75:FQ:=⟨[tD y0,uD y15],tR 4 di,mE 28 [],sN 1 (Y6 (sN 1 (bU (Y6 (.join [(7,13)] ⟨[(7,di)],[]⟩ F6) F6))) F6)⟩
def s75:FSpec:=U8 q75 λx=>V9 x.1 x.2
def dJ(A:J6)(B:List dB):Option J6:=l9 (V9 A B) λx=>o5 (F8 x) (some (0,-1)) (o5 (x8 A.1 1) (some (0,1)) (o5 (x8 A.1 2) (some (-1000000000000,1000000000000)) (o5 (x8 A.1 3) (some (-1000000000000000,1000000000000000)) (o5 (x8 A.1 4) (some (-1000000000,1000000000)) (o5 (x8 A.1 5) (some (0,109572)) (l9 (J9 B A.2) λx=>some (0,I4 .i64 (o9 x.2) 1)))))))
def ZL:FQ:=⟨[tD y0,uD y15],⟨[(.tmp 4,G6),(.tmp 5,G6)],[]⟩,mE 30 [(75,s75)],F6⟩
def TB:FSpec:=U8 ZL λx=>dJ x.1 x.2
def lV(A:J6):Option Bool:=o5 (aN 0 A.1) (o5 (aN A.1 A.2) (some (aN A.2 109573)) (some false)) (some false)
def ZU:FQ:=⟨[tD y0],tR 2 di,mE 18 [],F6⟩
def Wh:FSpec:=U8 ZU λx=>lV x
def ny(A:J6):Option Bool:=l9 (lV A) λx=>o5 x (some (J4 A.1 A.2)) (some false)
def G_:FQ:=⟨[tD y0],tR 2 di,mE 12 [(115,Wh)],F6⟩
def a1I:FSpec:=U8 G_ λx=>ny x
def qo(A:J6)(B:J6):Option (J6×Bool):=l9 (ny A) λx=>o5 (F8 x) (some ((0,0),false)) (l9 (ny B) λx=>o5 (F8 x) (some ((0,0),false)) (o5 (aN (wo A.2 B.2) (oG A.1 B.1)) (some ((0,0),false)) (some ((oG A.1 B.1,wo A.2 B.2),true))))
def t_:FQ:=⟨[tD y0,tD y0],⟨[(.cell 4 66,tD y0),(.tmp 5,di)],[]⟩,mE 34 [(172,a1I)],F6⟩
def a1w:FSpec:=U8 t_ λx=>qo x.1 x.2
def yS(A:Hy)(B:Hy):Option Bool:=l9 (qo A.1 B.1) λx=>o5 x.2 (some (J4 (oG A.2.1 B.2.1) (wo A.2.2.1 B.2.2.1))) (some false)
def ZV:FQ:=⟨[tD y16,tD y16],tR 4 di,mE 29 [(148,a1w)],F6⟩
def a1i:FSpec:=U8 ZV λx=>yS x.1 x.2
def vK(A:Hy)(B:Hy):Option Bool:=l9 (yS A B) λx=>some x
def Sr:FQ:=⟨[tD y16,(false,(.rp y16))],tR 3 di,mE 7 [(118,a1i)],F6⟩
def NP:FSpec:=U8 Sr λx=>vK x.1 x.2
def qA(A:List Hy)(B:Hy):Option (Int×Bool):=l9 (aC (λ(x:Int)=>o5 (J4 x (o9 A)) (l9 (J9 A x) λb=>l9 (vK b B) λc=>o5 c (some (.rt (x,true))) (some (.nx (D5 .i64 x 1)))) (some (.ex ()))) 0) λo=>az o (λy=>some (0,false)) λr=>some r
def Sj:FQ:=⟨[uD y17,(false,(.fn 117 [y16]))],⟨[(.tmp 4,G6),(.tmp 5,di)],[]⟩,mE 20 [(117,NP)],sN 1 (Y6 (sN 1 (bU (lpR [(4,8),(10,20)] ⟨[(10,G6)],[]⟩ 0 sgN F6))) F6)⟩
def TF:FSpec:=U8 Sj λx=>qA x.1 x.2
def yR(A:ni)(B:List dB):Option J6:=o5 (J4 64 (o9 A.2.2.2)) (some (64,4)) (l9 (l9 (V9 A.2.1 B) λx=>o5 (F8 x) (some (.inr (-1,8))) (l9 (V9 A.2.2.1 B) λx=>o5 (F8 x) (some (.inr (-1,8))) (some (.inl ())))) λo=>az o (λx=>l9 (dJ A.2.1 B) λx=>l9 (dJ A.2.2.1 B) λd=>l9 (aC (λ(b:Int)=>o5 (J4 b (o9 A.2.2.2)) (l9 (J9 A.2.2.2 b) λc=>l9 (l9 (lV c.1) λx=>o5 (F8 x) (some (.inr (b,3))) (o5 (x8 c.1.1 c.1.2) (some (.inr (b,3))) (o5 (aN c.2.2.1 c.2.1) (some (.inr (b,3))) (some (.inl ()))))) λo=>az o (λf=>l9 (o5 (J4 c.2.1 x.1) (some (.inr (b,3))) (o5 (J4 x.2 c.2.1) (some (.inr (b,3))) (o5 (J4 (I4 .i64 c.2.2.1 1) x.1) (some (.inr (b,3))) (o5 (J4 x.2 (I4 .i64 c.2.2.1 1)) (some (.inr (b,3))) (some (.inl ())))))) λo=>az o (λx=>o5 (J4 c.2.2.2 d.1) (some (.rt (b,3))) (o5 (J4 d.2 c.2.2.2) (some (.rt (b,3))) (l9 (jD A.2.2.2 0 b) λx=>l9 (qA x c) λx=>o5 x.2 (some (.rt (b,11))) (some (.nx (D5 .i64 b 1)))))) λr=>some (.rt r)) λr=>some (.rt r)) (some (.ex ()))) 0) λo=>az o (λy=>some (0,0)) λr=>some r) λr=>some r)
def q83:FQ:=⟨[tD y20,uD y15],⟨[(.tmp 4,G6),(.tmp 5,G6)],[]⟩,mE 121 [(75,s75),(107,TB),(115,Wh),(117,NP),(116,TF)],sN 2 (Y6 (jnR [(4,6),(18,30)] sgN F6) (sN 2 (Y6 (sN 1 (bU (lpR [(4,6),(10,14),(47,121)] ⟨[(47,G6)],[]⟩ 0 sgN (sN 2 (Y6 (bU (sN 1 (Y6 (jnR [(4,6),(52,73)] sgN F6) (Y6 (jnR [(4,6),(73,98)] sgN F6) F6)))) F6))))) F6)))⟩
def s83:FSpec:=U8 q83 λx=>yR x.1 x.2
def yh(A:ni)(B:List UInt8):Option Bool:=some (seq A.1 B)
def SA:FQ:=⟨[tD y20,(false,(.rp .str))],tR 3 di,mE 8 [],F6⟩
def NR:FSpec:=U8 SA λx=>yh x.1 x.2
def fV(A:List ni)(B:List UInt8):Option Int:=l9 (aC (λ(x:Int)=>o5 (J4 x (o9 A)) (l9 (J9 A x) λb=>l9 (yh b B) λc=>o5 c (some (.rt x)) (some (.nx (D5 .i64 x 1)))) (some (.ex ()))) 0) λo=>az o (λy=>some (-1)) λr=>some r
def SG:FQ:=⟨[uD y21,(false,(.fn 125 [.str]))],tR 4 G6,mE 19 [(125,NR)],sN 1 (Y6 (sN 1 (bU (lpR [(4,6),(8,19)] ⟨[(8,G6)],[]⟩ 0 sgN F6))) F6)⟩
def TN:FSpec:=U8 SG λx=>fV x.1 x.2
def eP(A:List ni)(B:List UInt8):Option Bool:=l9 (fV A B) λx=>some (aN 0 x)
def Sz:FQ:=⟨[uD y21,(false,(.fn 125 [.str]))],tR 4 di,mE 9 [(151,TN)],F6⟩
def TK:FSpec:=U8 Sz λx=>eP x.1 x.2
def wz(A:List ni)(B:List UInt8):Option Bool:=l9 (eP A B) λx=>some x
def q86:FQ:=⟨[uD y21,(uD .str)],tR 4 di,mE 8 [(125,NR),(124,TK)],F6⟩
def s86:FSpec:=U8 q86 λx=>wz x.1 x.2
def xe(A:oq):Option aI:=o5 (J4 8 (o9 A.2.1)) (some (4,2,8,0)) (l9 (aC (λ(x:aI×Int)=>o5 (J4 x.2 (o9 A.2.1)) (l9 (J9 A.2.1 x.2) λc=>l9 (yR c A.1) λb=>l9 (l9 (bW c.1) λd=>o5 (F8 d) (some (2,2,x.2,0)) (l9 (uf A.1 c.1) λf=>o5 f (some (7,2,x.2,0)) (l9 (jD A.2.1 0 x.2) λg=>l9 (wz g c.1) λi=>o5 i (some (7,2,x.2,0)) (o5 (F8 (x8 b.2 0)) (o5 (F8 (x8 b.1 (-1))) (some (b.2,2,x.2,D5 .i64 100 b.1)) (some (b.2,2,x.2,0))) (some (0,2,x.2,0)))))) λd=>o5 (F8 (x8 d.1 0)) (some (.rt d)) (some (.nx (x.1,D5 .i64 x.2 1)))) (some (.ex x.1))) ((0,0,0,0),0)) λo=>az o (λ(y:aI)=>some (0,0,0,0)) λr=>some r)
def q53:FQ:=⟨[tD y39],cR 2 94 (tD y10),mE 68 [(83,s83),(84,s84),(85,s85),(86,s86)],sN 2 (Y6 (sN 1 (bU (lpR [(2,8),(16,67),(4000128,4000129)] ⟨[(2,(false,(.box (dT y10)))),(16,G6)],[]⟩ 0 ⟨[(2,(false,(.box (dT y10))))],[]⟩ (sN 2 (Y6 (bU (sN 3 (Y6 (.join [(5,6),(30,62),(37000320,37000321)] ⟨[(5,(false,(.box (dT y10))))],[]⟩ F6) F6))) F6))))) F6)⟩
def s53:FSpec:=U8 q53 λx=>xe x
def vk(A:gJ)(B:gJ):Option Bool:=some (seq A.1 B.1)
def SC:FQ:=⟨[tD y36,(false,(.rp y36))],tR 3 di,mE 9 [],F6⟩
def NS:FSpec:=U8 SC λx=>vk x.1 x.2
def fU(A:List gJ)(B:gJ):Option Int:=l9 (aC (λ(x:Int)=>o5 (J4 x (o9 A)) (l9 (J9 A x) λb=>l9 (vk b B) λc=>o5 c (some (.rt x)) (some (.nx (D5 .i64 x 1)))) (some (.ex ()))) 0) λo=>az o (λy=>some (-1)) λr=>some r
def SH:FQ:=⟨[uD y37,(false,(.fn 127 [y36]))],tR 4 G6,mE 19 [(127,NS)],sN 1 (Y6 (sN 1 (bU (lpR [(4,6),(8,19)] ⟨[(8,G6)],[]⟩ 0 sgN F6))) F6)⟩
def TP:FSpec:=U8 SH λx=>fU x.1 x.2
def eH(A:List gJ)(B:gJ):Option Bool:=l9 (fU A B) λx=>some (aN 0 x)
def SB:FQ:=⟨[uD y37,(false,(.fn 127 [y36]))],tR 4 di,mE 9 [(152,TP)],F6⟩
def TL:FSpec:=U8 SB λx=>eH x.1 x.2
def vg(A:ng)(B:ng):Option Bool:=some (seq A.1 B.1)
def SI:FQ:=⟨[tD y22,(false,(.rp y22))],tR 3 di,mE 9 [],F6⟩
def NT:FSpec:=U8 SI λx=>vg x.1 x.2
def fQ(A:List ng)(B:ng):Option Int:=l9 (aC (λ(x:Int)=>o5 (J4 x (o9 A)) (l9 (J9 A x) λb=>l9 (vg b B) λc=>o5 c (some (.rt x)) (some (.nx (D5 .i64 x 1)))) (some (.ex ()))) 0) λo=>az o (λy=>some (-1)) λr=>some r
def SQ:FQ:=⟨[uD y23,(false,(.fn 153 [y22]))],tR 4 G6,mE 19 [(153,NT)],sN 1 (Y6 (sN 1 (bU (lpR [(4,6),(8,19)] ⟨[(8,G6)],[]⟩ 0 sgN F6))) F6)⟩
def TS:FSpec:=U8 SQ λx=>fQ x.1 x.2
def aV(A:List ng)(B:ng):Option Bool:=l9 (fQ A B) λx=>some (aN 0 x)
def SK:FQ:=⟨[uD y23,(false,(.fn 153 [y22]))],tR 4 di,mE 9 [(173,TS)],F6⟩
def TQ:FSpec:=U8 SK λx=>aV x.1 x.2
def rP(A:oq)(B:ng)(C:List ng)(D:List ng):Option Int:=l9 (bW B.1) λx=>o5 (F8 x) (some 2) (l9 (aV C B) λx=>o5 x (some 7) (l9 (aV D B) λx=>o5 x (some 7) (l9 (V9 B.2 A.1) λx=>o5 (F8 x) (some 8) (some 0))))
def ZZ:FQ:=⟨[tD y39,tD y22,uD y23,uD y23],tR 8 G6,mE 32 [(153,NT),(84,s84),(154,TQ),(75,s75)],F6⟩
def a1l:FSpec:=U8 ZZ λx=>rP x.1 x.2.1 x.2.2.1 x.2.2.2
def nI(A:List ng):Option (List J6):=l9 (Y5 (λ(x:List J6×Int)=>o5 (J4 x.2 (o9 A)) (l9 (J9 A x.2) λb=>l9 (bQ x.1 [b.2]) λc=>some (.inl (c,D5 .i64 x.2 1))) (some (.inr x.1))) ([],0)) λy=>some y
def v_:FQ:=⟨[uD y23],tR 2 (uO y0),mE 19 [],sN 2 (Y6 (sN 1 (bU (.loop [(3,4),(5,6),(8,18)] ⟨[(3,(uO y0)),(8,G6)],[]⟩ 0 ⟨[(3,(uO y0))],[]⟩ F6))) F6)⟩
def a1y:FSpec:=U8 v_ λx=>nI x
def qy(A:oq)(B:Int):Option jb:=l9 (J9 A.2.2 B) λx=>l9 (nI x.2.2.1) λb=>l9 (nI x.2.2.2.1) λc=>o5 (aN 0 x.2.1) (o5 (J4 x.2.1 (o9 A.2.2)) (l9 (J9 A.2.2 x.2.1) λx=>l9 (nI x.2.2.2.1) λx=>some (A.1,A.2.1,b,c,x,true)) (some (A.1,A.2.1,b,c,[],false))) (some (A.1,A.2.1,b,c,[],false))
def a_:FQ:=⟨[tD y39,G6],cR 4 224 (tD y72),mE 45 [(155,a1y)],F6⟩
def a1m:FSpec:=U8 a_ λx=>qy x.1 x.2
def wY(A:xB)(B:xB):Option Bool:=some (seq A.1 B.1)
def SN:FQ:=⟨[tD y31,(false,(.rp y31))],tR 3 di,mE 9 [],F6⟩
def NU:FSpec:=U8 SN λx=>wY x.1 x.2
def iD(A:List xB)(B:xB):Option Int:=l9 (aC (λ(x:Int)=>o5 (J4 x (o9 A)) (l9 (J9 A x) λb=>l9 (wY b B) λc=>o5 c (some (.rt x)) (some (.nx (D5 .i64 x 1)))) (some (.ex ()))) 0) λo=>az o (λy=>some (-1)) λr=>some r
def SS:FQ:=⟨[uD y32,(false,(.fn 157 [y31]))],tR 4 G6,mE 19 [(157,NU)],sN 1 (Y6 (sN 1 (bU (lpR [(4,6),(8,19)] ⟨[(8,G6)],[]⟩ 0 sgN F6))) F6)⟩
def TT:FSpec:=U8 SS λx=>iD x.1 x.2
def fH(A:List xB)(B:xB):Option Bool:=l9 (iD A B) λx=>some (aN 0 x)
def SL:FQ:=⟨[uD y32,(false,(.fn 157 [y31]))],tR 4 di,mE 9 [(174,TT)],F6⟩
def TR:FSpec:=U8 SL λx=>fH x.1 x.2
def ZJ:List MG:=[(false,(.dat .str)),(false,(.dat .str))]
def a1J:FSpec:=⟨ZJ,[di],[],λx=>oU x.1 x.2⟩
def xf(A:List UInt8):Option Bool:=o5 (J4 64 (o9 A)) (some false) (l9 (oU A [34]) λx=>o5 x (some false) (l9 (aC (λ(x:Int)=>o5 (J4 x (o9 A)) (l9 (sat A x) λb=>o5 (J4 b 32) (some (.rt false)) (l9 (sat A x) λc=>o5 (J4 126 c) (some (.rt false)) (some (.nx (D5 .i64 x 1))))) (some (.ex ()))) 0) λo=>az o (λy=>some true) λr=>some r))
def w_:FQ:=⟨[uD .str],tR 2 di,mE 27 [(175,a1J)],sN 2 (Y6 (sN 1 (bU (lpR [(2,4),(13,27)] ⟨[(13,G6)],[]⟩ 0 sgN F6))) F6)⟩
def a1z:FSpec:=U8 w_ λx=>xf x
def mF(A:Int):Option Int:=l9 (o5 (x8 A 1) (some (x8 A 1)) (o5 (x8 A 2) (some (x8 A 2)) (o5 (x8 A 3) (some (x8 A 3)) (o5 (x8 A 4) (some (x8 A 4)) (o5 (x8 A 5) (some (x8 A 5)) (o5 (x8 A 6) (some (x8 A 6)) (o5 (x8 A 7) (some (x8 A 7)) (o5 (x8 A 8) (some (x8 A 8)) (o5 (x8 A 9) (some (x8 A 9)) (o5 (x8 A 35) (some (x8 A 35)) (o5 (x8 A 36) (some (x8 A 36)) (o5 (x8 A 37) (some (x8 A 37)) (o5 (x8 A 38) (some (x8 A 38)) (some (x8 A 39))))))))))))))) λx=>o5 x (some 0) (l9 (o5 (x8 A 10) (some (x8 A 10)) (o5 (x8 A 25) (some (x8 A 25)) (o5 (x8 A 31) (some (x8 A 31)) (o5 (x8 A 32) (some (x8 A 32)) (o5 (x8 A 33) (some (x8 A 33)) (some (x8 A 34))))))) λx=>o5 x (some 1) (l9 (o5 (x8 A 11) (some (x8 A 11)) (o5 (x8 A 12) (some (x8 A 12)) (o5 (x8 A 13) (some (x8 A 13)) (o5 (x8 A 14) (some (x8 A 14)) (o5 (x8 A 15) (some (x8 A 15)) (o5 (x8 A 16) (some (x8 A 16)) (o5 (x8 A 17) (some (x8 A 17)) (o5 (x8 A 18) (some (x8 A 18)) (o5 (x8 A 19) (some (x8 A 19)) (o5 (x8 A 20) (some (x8 A 20)) (o5 (x8 A 21) (some (x8 A 21)) (o5 (x8 A 22) (some (x8 A 22)) (o5 (x8 A 23) (some (x8 A 23)) (o5 (x8 A 24) (some (x8 A 24)) (o5 (x8 A 27) (some (x8 A 27)) (o5 (x8 A 28) (some (x8 A 28)) (o5 (x8 A 29) (some (x8 A 29)) (some (x8 A 30))))))))))))))))))) λx=>o5 x (some 2) (o5 (x8 A 26) (some 3) (some (-1)))))
def O_:FQ:=⟨[G6],tR 2 G6,mE 47 [],sN 1 (Y6 (sN 1 (bU (Y6 (.join [(4,19)] ⟨[(4,di)],[]⟩ F6) (.cond F6 (Y6 (.join [(19,26)] ⟨[(19,di)],[]⟩ F6) (.cond F6 (Y6 (.join [(26,45)] ⟨[(26,di)],[]⟩ F6) F6))))))) F6)⟩
def Qy:FSpec:=U8 O_ λx=>mF x
def rJ(A:List J6):Option (List Int×J6):=o5 (J4 48 (o9 A)) (some ([],0,4)) (o5 (x8 (o9 A) 0) (some ([],0,5)) (l9 (qg (o9 A) 0) λx=>l9 (aC (λ(x:List Int×List Int×Int)=>o5 (J4 x.2.2 (o9 A)) (l9 (J9 A x.2.2) λg=>l9 (mF g.1) λb=>o5 (J4 b 0) (some (.rt ([],x.2.2,2))) (o5 (J4 (o9 x.2.1) b) (some (.rt ([],x.2.2,5))) (l9 (J9 x.1 x.2.2) λk=>l9 (ak x.1 (ae x.2.2)) λn=>o5 (J4 0 b) (l9 (J9 x.2.1 (I4 .i64 (o9 x.2.1) b)) λj=>l9 (ak x.2.1 (ae (I4 .i64 (o9 x.2.1) b))) λc=>l9 (J9 (bC x.1 (ae x.2.2) x.2.2) x.2.2) λd=>l9 (ak (bC x.1 (ae x.2.2) x.2.2) (ae x.2.2)) λp=>o5 (pR 0 (I4 .i64 (o9 x.2.1) b) (o9 x.2.1)) (l9 (J9 (bC (bC x.1 (ae x.2.2) x.2.2) (ae x.2.2) c) x.2.2) λq=>l9 (ak (bC (bC x.1 (ae x.2.2) x.2.2) (ae x.2.2) c) (ae x.2.2)) λi=>l9 (bQ (mP x.2.1 (ae 0) (ae (I4 .i64 (o9 x.2.1) b))) [i]) λf=>o5 (J4 12 (o9 f)) (some (.rt ([],x.2.2,16))) (some (.nx (bC (bC x.1 (ae x.2.2) x.2.2) (ae x.2.2) c,f,D5 .i64 x.2.2 1)))) none) (o5 (pR 0 (I4 .i64 (o9 x.2.1) b) (o9 x.2.1)) (l9 (J9 (bC x.1 (ae x.2.2) x.2.2) x.2.2) λj=>l9 (ak (bC x.1 (ae x.2.2) x.2.2) (ae x.2.2)) λc=>l9 (bQ (mP x.2.1 (ae 0) (ae (I4 .i64 (o9 x.2.1) b))) [c]) λd=>o5 (J4 12 (o9 d)) (some (.rt ([],x.2.2,16))) (some (.nx (bC x.1 (ae x.2.2) x.2.2,d,D5 .i64 x.2.2 1)))) none)))) (some (.ex (x.1,x.2.1)))) (x,[],0)) λo=>az o (λ(y:List Int×List Int)=>o5 (J4 1 (o9 y.2)) (some ([],o9 A,4)) (some (y.1,0,0))) λr=>some r))
def M_:FQ:=⟨[uD y24],⟨[(.tmp 2,uoM),(.tmp 3,G6),(.tmp 4,G6)],[]⟩,mE 76 [(197,Qy)],sN 5 (Y6 (sN 1 (bU (lpR [(2,10),(21,70),(27001152,27001153)] ⟨[(5,uoM),(6,uoM),(21,G6)],[]⟩ 0 ⟨[(5,uoM),(6,uoM)],[]⟩ F6))) F6)⟩
def XB:FSpec:=U8 M_ λx=>rJ x
def Aq(A:Int):Option Bool:=o5 (x8 A 1) (o5 (x8 A 1) (some true) (some false)) (o5 (x8 A 2) (o5 (x8 A 2) (some true) (some false)) (o5 (x8 A 3) (o5 (x8 A 3) (some true) (some false)) (o5 (x8 A 4) (o5 (x8 A 4) (some true) (some false)) (o5 (x8 A 5) (o5 (x8 A 5) (some true) (some false)) (o5 (x8 A 6) (o5 (x8 A 6) (some true) (some false)) (o5 (x8 A 7) (o5 (x8 A 7) (some true) (some false)) (o5 (x8 A 8) (o5 (x8 A 8) (some true) (some false)) (o5 (x8 A 14) (o5 (x8 A 14) (some true) (some false)) (o5 (x8 A 15) (o5 (x8 A 15) (some true) (some false)) (o5 (x8 A 16) (o5 (x8 A 16) (some true) (some false)) (o5 (x8 A 33) (o5 (x8 A 33) (some true) (some false)) (o5 (x8 A 34) (o5 (x8 A 34) (some true) (some false)) (o5 (x8 A 36) (o5 (x8 A 36) (some true) (some false)) (o5 (x8 A 37) (o5 (x8 A 37) (some true) (some false)) (o5 (x8 A 38) (o5 (x8 A 38) (some true) (some false)) (o5 (x8 A 39) (some true) (some false)))))))))))))))))
def N_:FQ:=⟨[G6],tR 2 di,mE 22 [],F6⟩
def XC:FSpec:=U8 N_ λx=>Aq x
def gz(A:Int)(B:Int)(C:jb):Option (J6×Int):=l9 (dJ (B,0) C.1) λx=>o5 (J4 A x.1) (some ((0,0),3)) (o5 (J4 x.2 A) (some ((0,0),3)) (some ((B,0),0)))
def W_:FQ:=⟨[G6,G6,tD y72],⟨[(.cell 6 68,tD y0),(.tmp 7,G6)],[]⟩,mE 30 [(107,TB)],F6⟩
def a1U:FSpec:=U8 W_ λx=>gz x.1 x.2.1 x.2.2
def zM(A:Int)(B:jb):Option (J6×Int):=o5 (J4 A 0) (some ((0,0),3)) (o5 (aN (o9 B.1) (fM .i64 A 16)) (some ((0,0),6)) (l9 (J9 B.1 (fM .i64 A 16)) λx=>o5 (aN (o9 x.2) (kN A 16)) (some ((0,0),6)) (some ((6,fM .i64 A 16),0))))
def X_:FQ:=⟨[G6,tD y72],⟨[(.cell 4 68,tD y0),(.tmp 5,G6)],[]⟩,mE 34 [],F6⟩
def a1V:FSpec:=U8 X_ λx=>zM x.1 x.2
def lX(A:Int)(B:List J6)(C:jb):Option (J6×Int):=o5 (J4 A 0) (some ((0,0),6)) (o5 (aN (o9 B) A) (some ((0,0),6)) (l9 (J9 B A) λx=>l9 (V9 x C.1) λx=>o5 (F8 x) (some ((0,0),8)) (l9 (J9 B A) λx=>some (x,0))))
def Y_:FQ:=⟨[G6,uD y24,tD y72],⟨[(.cell 6 68,tD y0),(.tmp 7,G6)],[]⟩,mE 30 [(75,s75)],F6⟩
def XE:FSpec:=U8 Y_ λx=>lX x.1 x.2.1 x.2.2
def kK(A:Int):Option Bool:=o5 (aN 0 A) (some (aN A 5)) (some false)
def a0b:FQ:=⟨[G6],tR 2 di,mE 9 [],F6⟩
def XF:FSpec:=U8 a0b λx=>kK x
def xN(A:J6)(B:J6)(C:jb):Option (J6×Int):=l9 (o5 (x8 A.1 34) (o5 (J4 A.2 0) (some (.inr ((0,0),3))) (l9 (kK (kN A.2 8)) λx=>o5 (F8 x) (some (.inr ((0,0),3))) (some (.inl ((0,0),fM .i64 A.2 8))))) (some (.inl ((0,0),A.2)))) λo=>az o (λ(x:J6×Int)=>l9 (o5 (J4 x.2 0) (some (.inr ((0,0),6))) (o5 (aN (o9 C.2.1) x.2) (some (.inr ((0,0),6))) (some (.inl x.1)))) λo=>az o (λ(d:J6)=>l9 (J9 C.2.1 x.2) λb=>l9 (J9 C.2.1 x.2) λx=>l9 (l9 (V9 b.2.1 C.1) λc=>o5 (F8 c) (some (.inr ((0,0),8))) (l9 (V9 x.2.2.1 C.1) λx=>o5 (F8 x) (some (.inr ((0,0),8))) (o5 (F8 (Y2 (x8 B.1 b.2.1.1) (x8 B.2 b.2.1.2))) (some (.inr ((0,0),8))) (some (.inl d))))) λo=>az o (λ(c:J6)=>o5 (x8 A.1 34) (o5 (F8 (x8 b.2.1.1 3)) (some ((0,0),8)) (o5 (F8 (x8 x.2.2.1.1 4)) (some ((0,0),8)) (some (b.2.1,0)))) (some (x.2.2.1,0))) λr=>some r) λr=>some r) λr=>some r
def Z_:FQ:=⟨[tD y0,tD y0,tD y72],⟨[(.cell 6 68,tD y0),(.tmp 7,G6)],[]⟩,mE 84 [(222,XF),(75,s75)],sN 2 (Y6 (jnR [(6,9),(13,30),(4000384,4000385)] ⟨[(6,(false,(.box (dT y0)))),(8,G6)],[]⟩ F6) (Y6 (jnR [(6,8),(30,40),(9000000,9000001)] ⟨[(6,(false,(.box (dT y0))))],[]⟩ F6) (sN 1 (Y6 (jnR [(6,8),(52,70),(27000000,27000001)] ⟨[(6,(false,(.box (dT y0))))],[]⟩ F6) F6))))⟩
def a1W:FSpec:=U8 Z_ λx=>xN x.1 x.2.1 x.2.2
def jf(A:Int):Option Bool:=o5 (x8 A 2) (some true) (o5 (x8 A 3) (some true) (some (x8 A 4)))
def a0k:FQ:=⟨[G6],tR 2 di,mE 13 [],F6⟩
def XG:FSpec:=U8 a0k λx=>jf x
def wQ(A:J6)(B:jb):Option (J6×Int):=o5 (F8 B.2.2.2.2.2) (some ((0,0),6)) (o5 (x8 A.1 35) (some ((2,0),0)) (l9 (lX A.2 B.2.2.2.2.1 B) λx=>o5 (F8 (x8 x.2 0)) (some ((0,0),x.2)) (l9 (o5 (x8 A.1 36) (o5 (x8 x.1.1 2) (some true) (some (x8 x.1.1 3))) (o5 (x8 A.1 37) (o5 (x8 A.1 37) (some (x8 x.1.1 1)) (o5 (x8 A.1 39) (l9 (jf x.1.1) λb=>o5 b (some true) (some (x8 x.1.1 5))) (some false))) (o5 (x8 A.1 38) (some (x8 x.1.1 1)) (o5 (x8 A.1 39) (l9 (jf x.1.1) λb=>o5 b (some true) (some (x8 x.1.1 5))) (some false))))) λb=>o5 (F8 b) (some ((0,0),8)) (some (x.1,0)))))
def a0a:FQ:=⟨[tD y0,tD y72],⟨[(.cell 4 68,tD y0),(.tmp 5,G6)],[]⟩,mE 62 [(219,XE),(237,XG)],sN 6 (Y6 (.join [(8,9),(30,58)] ⟨[(8,di)],[]⟩ F6) F6)⟩
def a1X:FSpec:=U8 a0a λx=>wQ x.1 x.2
def uV(A:Int)(B:Int)(C:Int):Option (J6×Bool):=o5 (x8 A 14) (o5 (x8 C 4) (o5 (x8 B 3) (some ((B,0),true)) (some ((B,0),x8 B 4))) (some ((B,0),false))) (o5 (x8 C 2) (o5 (x8 B 2) (some ((B,0),true)) (some ((B,0),x8 B 3))) (o5 (x8 A 15) (o5 (x8 B 3) (o5 (x8 C 3) (some ((4,0),true)) (some ((0,0),false))) (some ((0,0),false))) (some ((0,0),false))))
def a0l:FQ:=⟨[G6,G6,G6],⟨[(.cell 6 68,tD y0),(.tmp 7,di)],[]⟩,mE 47 [],F6⟩
def a2f:FSpec:=U8 a0l λx=>uV x.1 x.2.1 x.2.2
def wR(A:Int)(B:List J6):Option (J6×Bool):=l9 (o5 (x8 A 10) (l9 (J9 B 0) λx=>l9 (J9 B 0) λb=>l9 (jf b.1) λc=>some (.inr (x,c))) (o5 (x8 A 25) (l9 (J9 B 0) λx=>some (.inr ((1,0),x8 x.1 1))) (l9 (o5 (x8 A 11) (some (x8 A 11)) (some (x8 A 12))) λx=>o5 x (l9 (J9 B 0) λx=>l9 (J9 B 0) λb=>l9 (J9 B 1) λc=>o5 (Y2 (x8 b.1 c.1) (x8 b.2 c.2)) (l9 (J9 B 0) λd=>l9 (jf d.1) λf=>some (.inr (x,f))) (some (.inr (x,false)))) (l9 (o5 (x8 A 13) (some (x8 A 13)) (o5 (x8 A 14) (some (x8 A 14)) (some (x8 A 15)))) λx=>o5 x (l9 (J9 B 0) λx=>l9 (J9 B 1) λb=>l9 (uV A x.1 b.1) λx=>some (.inr x)) (o5 (x8 A 16) (l9 (J9 B 0) λx=>l9 (J9 B 0) λb=>o5 (x8 b.1 3) (l9 (J9 B 1) λc=>some (.inr (x,x8 c.1 3))) (some (.inr (x,false)))) (l9 (o5 (x8 A 17) (some (x8 A 17)) (some (x8 A 18))) λx=>o5 x (l9 (J9 B 0) λx=>l9 (J9 B 0) λb=>l9 (J9 B 1) λc=>o5 (Y2 (x8 b.1 c.1) (x8 b.2 c.2)) (l9 (J9 B 0) λd=>l9 (jf d.1) λf=>o5 f (some (.inr (x,true))) (l9 (J9 B 0) λg=>some (.inr (x,x8 g.1 5)))) (some (.inr (x,false)))) (l9 (o5 (x8 A 19) (some (x8 A 19)) (some (x8 A 20))) λx=>o5 x (l9 (J9 B 0) λx=>l9 (J9 B 1) λb=>some (.inr ((1,0),Y2 (x8 x.1 b.1) (x8 x.2 b.2)))) (l9 (o5 (x8 A 21) (some (x8 A 21)) (some (x8 A 22))) λx=>o5 x (l9 (J9 B 0) λx=>l9 (J9 B 1) λb=>o5 (Y2 (x8 x.1 b.1) (x8 x.2 b.2)) (l9 (J9 B 0) λx=>l9 (jf x.1) λx=>o5 x (some (.inr ((1,0),true))) (l9 (J9 B 0) λx=>some (.inr ((1,0),x8 x.1 5)))) (some (.inr ((1,0),false)))) (l9 (o5 (x8 A 23) (some (x8 A 23)) (some (x8 A 24))) λx=>o5 x (l9 (J9 B 0) λx=>o5 (x8 x.1 1) (l9 (J9 B 1) λx=>some (.inr ((1,0),x8 x.1 1))) (some (.inr ((1,0),false)))) (o5 (x8 A 26) (l9 (J9 B 1) λx=>l9 (J9 B 0) λb=>o5 (x8 b.1 1) (l9 (J9 B 1) λc=>l9 (J9 B 2) λd=>some (.inr (x,Y2 (x8 c.1 d.1) (x8 c.2 d.2)))) (some (.inr (x,false)))) (l9 (o5 (x8 A 27) (some (x8 A 27)) (some (x8 A 28))) λx=>o5 x (l9 (J9 B 0) λx=>l9 (J9 B 0) λb=>o5 (x8 b.1 5) (l9 (J9 B 1) λc=>some (.inr (x,x8 c.1 2))) (some (.inr (x,false)))) (o5 (x8 A 29) (o5 (x8 A 29) (l9 (J9 B 0) λx=>o5 (x8 x.1 5) (l9 (J9 B 1) λx=>some (.inr ((2,0),x8 x.1 5))) (some (.inr ((2,0),false)))) (o5 (x8 A 31) (o5 (x8 A 31) (l9 (J9 B 0) λx=>some (.inr ((2,0),x8 x.1 5))) (some (.inl (0,0)))) (o5 (x8 A 32) (l9 (J9 B 0) λx=>some (.inr ((2,0),x8 x.1 5))) (some (.inl (0,0)))))) (o5 (x8 A 30) (l9 (J9 B 0) λx=>o5 (x8 x.1 5) (l9 (J9 B 1) λx=>some (.inr ((2,0),x8 x.1 5))) (some (.inr ((2,0),false)))) (o5 (x8 A 31) (o5 (x8 A 31) (l9 (J9 B 0) λx=>some (.inr ((2,0),x8 x.1 5))) (some (.inl (0,0)))) (o5 (x8 A 32) (l9 (J9 B 0) λx=>some (.inr ((2,0),x8 x.1 5))) (some (.inl (0,0)))))))))))))))))) λo=>az o (λ(x:J6)=>some ((0,0),false)) λr=>some r
def a0c:FQ:=⟨[G6,uD y24],⟨[(.cell 4 68,tD y0),(.tmp 5,di)],[]⟩,mE 222 [(237,XG),(238,a2f)],sN 2 (Y6 (jnR [(4,6),(8,221),(4000256,4000257)] ⟨[(4,(false,(.box (dT y0))))],[]⟩ (sN 1 (bU (sN 1 (.cond F6 (sN 1 (.cond F6 (Y6 (.join [(27,30)] ⟨[(27,di)],[]⟩ F6) (.cond F6 (Y6 (.join [(47,51)] ⟨[(47,di)],[]⟩ F6) (.cond F6 (sN 1 (.cond F6 (Y6 (.join [(80,83)] ⟨[(80,di)],[]⟩ F6) (.cond F6 (Y6 (.join [(107,110)] ⟨[(107,di)],[]⟩ F6) (.cond F6 (Y6 (.join [(118,121)] ⟨[(118,di)],[]⟩ F6) (.cond F6 (Y6 (.join [(143,146)] ⟨[(143,di)],[]⟩ F6) (.cond F6 (sN 1 (.cond F6 (Y6 (.join [(178,181)] ⟨[(178,di)],[]⟩ F6) F6)))))))))))))))))))))))) F6)⟩
def a1Y:FSpec:=U8 a0c λx=>wR x.1 x.2
def uH(A:J6)(B:List J6)(C:jb):Option (J6×Int):=l9 (o5 (x8 A.1 1) (l9 (gz A.2 1 C) λx=>some (.inr x)) (o5 (x8 A.1 2) (l9 (gz A.2 2 C) λx=>some (.inr x)) (o5 (x8 A.1 3) (l9 (gz A.2 3 C) λx=>some (.inr x)) (o5 (x8 A.1 4) (l9 (gz A.2 4 C) λx=>some (.inr x)) (o5 (x8 A.1 5) (l9 (gz A.2 5 C) λx=>some (.inr x)) (o5 (x8 A.1 6) (l9 (zM A.2 C) λx=>some (.inr x)) (o5 (x8 A.1 7) (l9 (lX A.2 C.2.2.1 C) λx=>some (.inr x)) (o5 (x8 A.1 8) (l9 (lX A.2 C.2.2.2.1 C) λx=>some (.inr x)) (o5 (x8 A.1 9) (some (.inr ((5,0),0))) (l9 (o5 (x8 A.1 33) (some (x8 A.1 33)) (some (x8 A.1 34))) λx=>o5 x (l9 (J9 B 0) λx=>l9 (xN A x C) λx=>some (.inr x)) (l9 (o5 (x8 A.1 35) (some (x8 A.1 35)) (o5 (x8 A.1 36) (some (x8 A.1 36)) (o5 (x8 A.1 37) (some (x8 A.1 37)) (o5 (x8 A.1 38) (some (x8 A.1 38)) (some (x8 A.1 39)))))) λx=>o5 x (l9 (wQ A C) λx=>some (.inr x)) (o5 (x8 A.1 14) (o5 (x8 A.1 14) (l9 (kK A.2) λx=>o5 (F8 x) (some (.inr ((0,0),3))) (some (.inl (0,0)))) (some (.inl (0,0)))) (o5 (x8 A.1 15) (o5 (x8 A.1 15) (l9 (kK A.2) λx=>o5 (F8 x) (some (.inr ((0,0),3))) (some (.inl (0,0)))) (some (.inl (0,0)))) (o5 (x8 A.1 16) (l9 (kK A.2) λx=>o5 (F8 x) (some (.inr ((0,0),3))) (some (.inl (0,0)))) (some (.inl (0,0))))))))))))))))) λo=>az o (λ(x:J6)=>l9 (wR A.1 B) λx=>o5 (F8 x.2) (some ((0,0),8)) (some (x.1,0))) λr=>some r
def P_:FQ:=⟨[tD y0,uD y24,tD y72],⟨[(.cell 6 68,tD y0),(.tmp 7,G6)],[]⟩,mE 125 [(217,a1U),(218,a1V),(219,XE),(220,a1W),(221,a1X),(222,XF),(223,a1Y)],sN 1 (Y6 (jnR [(6,8),(10,114),(4000384,4000385)] ⟨[(6,(false,(.box (dT y0))))],[]⟩ (sN 1 (bU (sN 1 (.cond F6 (sN 1 (.cond F6 (sN 1 (.cond F6 (sN 1 (.cond F6 (sN 1 (.cond F6 (sN 1 (.cond F6 (sN 1 (.cond F6 (sN 1 (.cond F6 (sN 1 (.cond F6 (Y6 (.join [(83,86)] ⟨[(83,di)],[]⟩ F6) (.cond F6 (Y6 (.join [(94,100)] ⟨[(94,di)],[]⟩ F6) F6)))))))))))))))))))))))) F6)⟩
def a1P:FSpec:=U8 P_ λx=>uH x.1 x.2.1 x.2.2
def DX(A:List J6)(B:jb):Option (J6×J6):=l9 (rJ A) λx=>o5 (F8 (x8 x.2.2 0)) (some ((0,0),x.2)) (l9 (aC (λ(x:J6×List J6×Int)=>o5 (J4 x.2.2 (o9 A)) (l9 (J9 A x.2.2) λc=>o5 (F8 (x8 c.2 0)) (l9 (Aq c.1) λd=>o5 (F8 d) (some (.rt ((0,0),x.2.2,2))) (l9 (mF c.1) λb=>o5 (pR (I4 .i64 (o9 x.2.1) b) (o9 x.2.1) (o9 x.2.1)) (l9 (uH c (mP x.2.1 (ae (I4 .i64 (o9 x.2.1) b)) (ae (o9 x.2.1))) B) λf=>o5 (F8 (x8 f.2 0)) (some (.rt ((0,0),x.2.2,f.2))) (o5 (pR 0 (I4 .i64 (o9 x.2.1) b) (o9 x.2.1)) (l9 (bQ (mP x.2.1 (ae 0) (ae (I4 .i64 (o9 x.2.1) b))) [f.1]) λg=>some (.nx (x.1,g,D5 .i64 x.2.2 1))) none)) none)) (l9 (mF c.1) λd=>o5 (pR (I4 .i64 (o9 x.2.1) d) (o9 x.2.1) (o9 x.2.1)) (l9 (uH c (mP x.2.1 (ae (I4 .i64 (o9 x.2.1) d)) (ae (o9 x.2.1))) B) λb=>o5 (F8 (x8 b.2 0)) (some (.rt ((0,0),x.2.2,b.2))) (o5 (pR 0 (I4 .i64 (o9 x.2.1) d) (o9 x.2.1)) (l9 (bQ (mP x.2.1 (ae 0) (ae (I4 .i64 (o9 x.2.1) d))) [b.1]) λf=>some (.nx (x.1,f,D5 .i64 x.2.2 1))) none)) none)) (some (.ex (x.1,x.2.1)))) ((0,0),[],0)) λo=>az o (λ(y:J6×List J6)=>l9 (J9 y.2 0) λx=>l9 (ak y.2 (ae 0)) λx=>some (x,0,0)) λr=>some r)
def H_:FQ:=⟨[uD y24,tD y72],⟨[(.cell 4 68,tD y0),(.tmp 5,G6),(.tmp 6,G6)],[]⟩,mE 75 [(195,XB),(196,XC),(197,Qy),(198,a1P)],sN 4 (Y6 (sN 1 (bU (lpR [(4,7),(10,16),(29,72),(4000256,4000257)] ⟨[(4,(false,(.box (dT y0)))),(10,(uO y0)),(29,G6)],[]⟩ 0 ⟨[(4,(false,(.box (dT y0)))),(10,(uO y0))],[]⟩ F6))) F6)⟩
def a1K:FSpec:=U8 H_ λx=>DX x.1 x.2
def pg(A:List J6)(B:jb)(C:J6):Option Int:=l9 (DX A B) λx=>o5 (F8 (x8 x.2.2 0)) (some x.2.2) (o5 (F8 (Y2 (x8 x.1.1 C.1) (x8 x.1.2 C.2))) (some 8) (some 0))
def x_:FQ:=⟨[uD y24,tD y72,tD y0],tR 6 G6,mE 23 [(176,a1K)],F6⟩
def a1A:FSpec:=U8 x_ λx=>pg x.1 x.2.1 x.2.2
def zS(A:gJ)(B:Int)(C:jb):Option Int:=l9 (J9 A.2.2.2.2 B) λx=>l9 (jD A.2.2.2.2 0 B) λf=>l9 (Y5 (λ(b:J6)=>o5 (J4 b.2 (o9 f)) (l9 (J9 f b.2) λc=>o5 (x8 c.2.1 x.2.1) (some (.inl (D5 .i64 b.1 1,D5 .i64 b.2 1))) (some (.inl (b.1,D5 .i64 b.2 1)))) (some (.inr b.1))) (0,0)) λy=>l9 (l9 (bW x.1) λb=>o5 (F8 b) (some (.inr 2)) (l9 (jD A.2.2.2.2 0 B) λc=>l9 (fH c x) λg=>o5 g (some (.inr 7)) (l9 (o5 (J4 x.2.1 0) (some true) (some (aN (o9 A.2.2.2.1) x.2.1))) λi=>o5 i (some (.inr 6)) (l9 (o5 (F8 (x8 x.2.2.1 (-1))) (o5 (J4 x.2.2.1 0) (some true) (o5 (aN B x.2.2.1) (some true) (l9 (J9 A.2.2.2.2 x.2.2.1) λd=>some (F8 (x8 d.2.1 x.2.1))))) (some false)) λd=>o5 d (some (.inr 9)) (l9 (o5 (J4 x.2.2.2.1 0) (some true) (some (J4 9 x.2.2.2.1))) λj=>o5 j (some (.inr 3)) (o5 (J4 x.2.2.2.2.1.1 0) (some (.inr 3)) (o5 (aN x.2.2.2.2.1.2 x.2.2.2.2.1.1) (some (.inr 3)) (o5 (J4 109573 x.2.2.2.2.1.2) (some (.inr 3)) (o5 (aN 8 y) (some (.inr 4)) (l9 (xf x.2.2.2.2.2.2.2) λk=>o5 (F8 k) (some (.inr 2)) (some (.inl x)))))))))))) λo=>az o (λ(x:xB)=>o5 (J4 0 (o9 x.2.2.2.2.2.1)) (l9 (pg x.2.2.2.2.2.1 C (1,0)) λb=>o5 (F8 (x8 b 0)) (some b) (l9 (J9 A.2.2.2.1 x.2.1) λc=>l9 (pg x.2.2.2.2.2.2.1 C c.2) λx=>some x)) (l9 (J9 A.2.2.2.1 x.2.1) λb=>l9 (pg x.2.2.2.2.2.2.1 C b.2) λx=>some x)) λr=>some r
def b_:FQ:=⟨[tD y36,G6,tD y72],tR 6 G6,mE 145 [(84,s84),(157,NU),(156,TR),(158,a1z),(159,a1A)],sN 3 (Y6 (sN 1 (bU (.loop [(8,9),(10,11),(22,34)] ⟨[(8,G6),(22,G6)],[]⟩ 0 ⟨[(8,G6)],[]⟩ F6))) (Y6 (jnR [(6,8),(34,122),(7000448,7000449)] ⟨[(7,(false,(.rp y31)))],[]⟩ (bU (sN 1 (.cond F6 (sN 1 (.cond F6 (Y6 (.join [(46,58)] ⟨[(46,di)],[]⟩ F6) (.cond F6 (Y6 (.join [(58,85)] ⟨[(58,di)],[]⟩ F6) (.cond F6 (Y6 (.join [(85,94)] ⟨[(85,di)],[]⟩ F6) F6))))))))))) F6))⟩
def a1n:FSpec:=U8 b_ λx=>zS x.1 x.2.1 x.2.2
def ZH:List MG:=[(false,(.ownb (.int .i64)))]
def Xw:FSpec:=⟨ZH,[],[uoM],λx=>xy x⟩
def ZI:List MG:=[uoM]
def Xx:FSpec:=⟨ZI,[uoM],[],λx=>pz x⟩
def oZ(A:List Int):Option (List Int):=l9 (xy A) λx=>l9 (pz x) λx=>some x
def l_:FQ:=⟨[uoM],tR 2 uoM,mE 7 [(137,Xw),(138,Xx)],F6⟩
def a1t:FSpec:=U8 l_ λx=>oZ x
def jQ(A:List J6):Option jm:=l9 (Y5 (λ(x:List Int×List Int×List Int×Int)=>o5 (J4 x.2.2.2 (o9 A)) (l9 (J9 A x.2.2.2) λb=>o5 (x8 b.1 7) (l9 (bQ x.1 [b.2]) λc=>some (.inl (c,x.2.1,x.2.2.1,D5 .i64 x.2.2.2 1))) (o5 (x8 b.1 8) (l9 (bQ x.2.1 [b.2]) λc=>some (.inl (x.1,c,x.2.2.1,D5 .i64 x.2.2.2 1))) (o5 (x8 b.1 36) (o5 (x8 b.1 36) (l9 (bQ x.2.2.1 [b.2]) λc=>some (.inl (x.1,x.2.1,c,D5 .i64 x.2.2.2 1))) (some (.inl (x.1,x.2.1,x.2.2.1,D5 .i64 x.2.2.2 1)))) (o5 (x8 b.1 37) (o5 (x8 b.1 37) (l9 (bQ x.2.2.1 [b.2]) λc=>some (.inl (x.1,x.2.1,c,D5 .i64 x.2.2.2 1))) (some (.inl (x.1,x.2.1,x.2.2.1,D5 .i64 x.2.2.2 1)))) (o5 (x8 b.1 38) (o5 (x8 b.1 38) (l9 (bQ x.2.2.1 [b.2]) λc=>some (.inl (x.1,x.2.1,c,D5 .i64 x.2.2.2 1))) (some (.inl (x.1,x.2.1,x.2.2.1,D5 .i64 x.2.2.2 1)))) (o5 (x8 b.1 39) (l9 (bQ x.2.2.1 [b.2]) λc=>some (.inl (x.1,x.2.1,c,D5 .i64 x.2.2.2 1))) (some (.inl (x.1,x.2.1,x.2.2.1,D5 .i64 x.2.2.2 1))))))))) (some (.inr (x.1,x.2.1,x.2.2.1)))) ([],[],[],0)) λy=>l9 (oZ y.1) λx=>l9 (oZ y.2.1) λb=>l9 (oZ y.2.2) λc=>some (x,b,c)
def q97:FQ:=⟨[uD y24],⟨[(.tmp 2,uoM),(.tmp 3,uoM),(.tmp 4,uoM)],[]⟩,mE 49 [(136,a1t)],sN 2 (Y6 (sN 1 (bU (.loop [(5,8),(9,10),(12,43)] ⟨[(5,uoM),(6,uoM),(7,uoM),(12,G6)],[]⟩ 0 ⟨[(5,uoM),(6,uoM),(7,uoM)],[]⟩ F6))) F6)⟩
def s97:FSpec:=U8 q97 λx=>jQ x
def ru(A:xB)(B:Int):Option (List Int):=l9 (jQ A.2.2.2.2.2.1) λx=>l9 (jQ A.2.2.2.2.2.2.1) λd=>l9 (Y5 (λ(b:List Int×Int)=>o5 (J4 b.2 (o9 x.2.1)) (l9 (J9 x.2.1 b.2) λc=>l9 (ak x.2.1 (ae b.2)) λx=>o5 (aN 0 x) (o5 (J4 x B) (l9 (bQ b.1 [x]) λx=>some (.inl (x,D5 .i64 b.2 1))) (some (.inl (b.1,D5 .i64 b.2 1)))) (some (.inl (b.1,D5 .i64 b.2 1)))) (some (.inr b.1))) ([],0)) λy=>l9 (Y5 (λ(x:List Int×Int)=>o5 (J4 x.2 (o9 d.2.1)) (l9 (J9 d.2.1 x.2) λb=>l9 (ak d.2.1 (ae x.2)) λc=>o5 (aN 0 c) (o5 (J4 c B) (l9 (bQ x.1 [c]) λf=>some (.inl (f,D5 .i64 x.2 1))) (some (.inl (x.1,D5 .i64 x.2 1)))) (some (.inl (x.1,D5 .i64 x.2 1)))) (some (.inr x.1))) (y,0)) λy=>some y
def j_:FQ:=⟨[tD y31,G6],tR 4 uoM,mE 67 [(97,s97)],sN 4 (Y6 (sN 1 (bU (.loop [(5,6),(13,14),(32,48)] ⟨[(5,uoM),(32,G6)],[]⟩ 0 ⟨[(5,uoM)],[]⟩ F6))) (Y6 (sN 1 (bU (.loop [(5,6),(15,16),(50,66),(21000000,21000001)] ⟨[(5,uoM),(50,G6)],[]⟩ 2 ⟨[(5,uoM)],[]⟩ F6))) F6))⟩
def a1s:FSpec:=U8 j_ λx=>ru x.1 x.2
def rC(A:List Int):Option (List Int):=l9 (xy A) λx=>l9 (pz x) λx=>some x
def q98:FQ:=⟨[uoM],tR 2 uoM,mE 7 [(137,Xw),(138,Xx)],F6⟩
def s98:FSpec:=U8 q98 λx=>rC x
def nz(A:gJ):Option (List (List Int)):=l9 (qg (o9 A.2.2.2.1) []) λx=>l9 (Y5 (λ(x:List (List Int)×Int)=>o5 (J4 x.2 (o9 A.2.2.2.2)) (l9 (J9 A.2.2.2.2 x.2) λb=>o5 (aN 0 b.2.1) (o5 (J4 b.2.1 (o9 x.1)) (o5 (inb b.2.1 (o9 x.1)) (l9 (ak x.1 (ae b.2.1)) λc=>l9 (ru b (o9 x.1)) λd=>l9 (bQ c d) λf=>o5 (inb b.2.1 (o9 x.1)) (o5 (VK (ae b.2.1) (ae b.2.1)) (l9 (ak x.1 (ae b.2.1)) λg=>some (.inl (bC x.1 (ae b.2.1) f,D5 .i64 x.2 1))) none) none) none) (some (.inl (x.1,D5 .i64 x.2 1)))) (some (.inl (x.1,D5 .i64 x.2 1)))) (some (.inr x.1))) (x,0)) λy=>l9 (Y5 (λ(x:List (List Int)×Int)=>o5 (J4 x.2 (o9 y)) (o5 (inb x.2 (o9 x.1)) (l9 (ak x.1 (ae x.2)) λb=>l9 (rC b) λc=>o5 (inb x.2 (o9 x.1)) (o5 (VK (ae x.2) (ae x.2)) (l9 (ak x.1 (ae x.2)) λd=>some (.inl (bC x.1 (ae x.2) c,D5 .i64 x.2 1))) none) none) none) (some (.inr x.1))) (y,0)) λy=>some y
def q96:FQ:=⟨[tD y36],tR 2 (uD y63),⟨58,eqs,tt,gl,[(135,a1s),(98,s98)],[(184,oiM)],[7,36,50,53],[],[],[]⟩,sN 2 (Y6 (sN 1 (bU (.loop [(3,4),(5,6),(15,44),(7000704,7000705)] ⟨[(3,(false,(.owns oiM))),(15,G6)],[]⟩ 0 ⟨[(3,(false,(.owns oiM)))],[]⟩ F6))) (Y6 (sN 1 (bU (.loop [(3,4),(6,8),(44,45),(46,57),(15000000,15000001)] ⟨[(3,(false,(.owns oiM))),(46,G6)],[(44,3)]⟩ 2 ⟨[(3,(false,(.owns oiM)))],[]⟩ F6))) F6))⟩
def s96:FSpec:=U8 q96 λx=>nz x
def vO(A:List (List Int))(B:Int):Option (List Int):=l9 (qg (o9 A) false) λx=>l9 (Y5 (λ(x:List Bool×List Int)=>o5 (J4 0 (o9 x.2)) (l9 (J9 x.2 0) λf=>l9 (ak x.2 (ae 0)) λd=>o5 (pR 1 (o9 x.2) (o9 x.2)) (l9 (J9 A d) λc=>l9 (Y5 (λ(x:List Bool×List Int×Int)=>o5 (J4 x.2.2 (o9 c)) (l9 (J9 c x.2.2) λb=>l9 (J9 x.1 b) λj=>l9 (ak x.1 (ae b)) λg=>o5 (F8 g) (l9 (J9 x.1 b) λk=>l9 (ak x.1 (ae b)) λn=>l9 (bQ x.2.1 [b]) λi=>some (.inl (bC x.1 (ae b) true,i,D5 .i64 x.2.2 1))) (some (.inl (x.1,x.2.1,D5 .i64 x.2.2 1)))) (some (.inr (x.1,x.2.1)))) (x.1,mP x.2 (ae 1) (ae (o9 x.2)),0)) λy=>some (.inl y)) none) (some (.inr x.1))) (x,[B])) λy=>l9 (Y5 (λ(x:List Int×Int)=>o5 (J4 x.2 (o9 y)) (l9 (J9 y x.2) λf=>l9 (ak y (ae x.2)) λd=>o5 d (l9 (bQ x.1 [x.2]) λc=>some (.inl (c,D5 .i64 x.2 1))) (some (.inl (x.1,D5 .i64 x.2 1)))) (some (.inr x.1))) ([],0)) λy=>some y
def q95:FQ:=⟨[uD y63,G6],tR 4 uoM,mE 62 [],sN 3 (Y6 (bU (.loop [(5,8),(9,10),(18,48),(7000960,7000961),(10001088,10001089)] ⟨[(5,(uO .bool)),(6,uoM)],[]⟩ 0 ⟨[(5,(uO .bool))],[]⟩ (sN 1 (bU (sN 3 (bU (.loop [(5,7),(9,10),(31,48),(14000000,14000002)] ⟨[(5,(uO .bool)),(6,uoM),(31,G6)],[]⟩ 2 ⟨[(5,(uO .bool)),(6,uoM)],[]⟩ F6))))))) (sN 1 (Y6 (sN 1 (bU (.loop [(10,13),(50,61)] ⟨[(10,uoM),(50,G6)],[]⟩ 4 ⟨[(10,uoM)],[]⟩ F6))) F6)))⟩
def s95:FSpec:=U8 q95 λx=>vO x.1 x.2
def iK(A:gJ)(B:Int):Option (List Int):=o5 (J4 B 0) (some []) (o5 (aN (o9 A.2.2.2.1) B) (some []) (l9 (nz A) λx=>l9 (vO x B) λx=>some x))
def q63:FQ:=⟨[tD y36,G6],tR 4 uoM,mE 18 [(96,s96),(95,s95)],F6⟩
def s63:FSpec:=U8 q63 λx=>iK x.1 x.2
def pU(A:List Int)(B:Int):Option Int:=l9 (aC (λ(x:Int)=>o5 (J4 x (o9 A)) (l9 (J9 A x) λb=>o5 (x8 B b) (some (.rt x)) (some (.nx (D5 .i64 x 1)))) (some (.ex ()))) 0) λo=>az o (λy=>some (-1)) λr=>some r
def y_:FQ:=⟨[uD y45,G6],tR 4 G6,mE 19 [],sN 1 (Y6 (sN 1 (bU (lpR [(4,6),(8,19)] ⟨[(8,G6)],[]⟩ 0 sgN F6))) F6)⟩
def a1B:FSpec:=U8 y_ λx=>pU x.1 x.2
def mY(A:List Int)(B:Int):Option Bool:=l9 (pU A B) λx=>some (aN 0 x)
def d_:FQ:=⟨[uD y45,G6],tR 4 di,mE 9 [(160,a1B)],F6⟩
def a1o:FSpec:=U8 d_ λx=>mY x.1 x.2
def yg(A:oq)(B:Int):Option J6:=l9 (J9 A.2.2 B) λx=>l9 (jD A.2.2 0 B) λf=>l9 (l9 (uf A.1 x.1) λd=>o5 d (some (x,true)) (l9 (wz A.2.1 x.1) λb=>o5 b (some (x,true)) (l9 (eH f x) λc=>some (x,c)))) λx=>l9 (l9 (bW x.1.1) λd=>o5 (F8 d) (some (.inr (2,0))) (o5 x.2 (some (.inr (7,0))) (l9 (o5 (F8 (x8 x.1.2.1 (-1))) (o5 (J4 x.1.2.1 0) (some true) (o5 (aN B x.1.2.1) (some true) (l9 (J9 f x.1.2.1) λx=>some (F8 (x8 x.2.1 (-1)))))) (some false)) λb=>o5 b (some (.inr (6,0))) (o5 (J4 12 (o9 x.1.2.2.1)) (some (.inr (4,112))) (o5 (J4 12 (o9 x.1.2.2.2.1)) (some (.inr (4,212))) (some (.inl ()))))))) λo=>az o (λd=>l9 (aC (λ(b:Int)=>o5 (J4 b (o9 x.1.2.2.1)) (l9 (J9 x.1.2.2.1 b) λc=>l9 (jD x.1.2.2.1 0 b) λx=>l9 (rP A c x []) λx=>o5 (F8 (x8 x 0)) (some (.rt (x,D5 .i64 100 b))) (some (.nx (D5 .i64 b 1)))) (some (.ex ()))) 0) λo=>az o (λy=>l9 (aC (λ(b:Int)=>o5 (J4 b (o9 x.1.2.2.2.1)) (l9 (J9 x.1.2.2.2.1 b) λc=>l9 (jD x.1.2.2.2.1 0 b) λg=>l9 (rP A c x.1.2.2.1 g) λx=>o5 (F8 (x8 x 0)) (some (.rt (x,D5 .i64 200 b))) (some (.nx (D5 .i64 b 1)))) (some (.ex ()))) 0) λo=>az o (λy=>l9 (qy A B) λb=>l9 (aC (λ(c:Int)=>o5 (J4 c (o9 x.1.2.2.2.2)) (l9 (zS x.1 c b) λx=>o5 (F8 (x8 x 0)) (some (.rt (x,D5 .i64 300 c))) (some (.nx (D5 .i64 c 1)))) (some (.ex ()))) 0) λo=>az o (λy=>l9 (aC (λ(c:Int)=>o5 (J4 c (o9 x.1.2.2.2.1)) (l9 (iK x.1 c) λx=>l9 (mY x c) λx=>o5 x (some (.rt (9,D5 .i64 200 c))) (some (.nx (D5 .i64 c 1)))) (some (.ex ()))) 0) λo=>az o (λy=>some (0,0)) λr=>some r) λr=>some r) λr=>some r) λr=>some r) λr=>some r
def q87:FQ:=⟨[tD y39,G6],⟨[(.tmp 4,G6),(.tmp 5,G6)],[]⟩,mE 163 [(85,s85),(86,s86),(127,NS),(126,TL),(84,s84),(128,a1l),(129,a1m),(130,a1n),(63,s63),(131,a1o)],sN 3 (Y6 (.join [(6,7),(8,9),(28,45),(7000384,7000385)] ⟨[(6,(false,(.rp y36))),(8,di)],[]⟩ F6) (Y6 (jnR [(4,6),(45,86)] sgN (bU (sN 1 (.cond F6 (sN 1 (.cond F6 (Y6 (.join [(52,76)] ⟨[(52,di)],[]⟩ F6) F6))))))) (Y6 (sN 1 (bU (lpR [(4,6),(9,12),(89,107)] ⟨[(89,G6)],[]⟩ 1 sgN F6))) (Y6 (sN 1 (bU (lpR [(4,6),(12,15),(110,130)] ⟨[(110,G6)],[]⟩ 3 sgN F6))) (sN 1 (Y6 (sN 1 (bU (lpR [(4,6),(16,18),(136,149)] ⟨[(136,G6)],[]⟩ 5 sgN F6))) (Y6 (sN 1 (bU (lpR [(4,6),(18,19),(152,163)] ⟨[(152,G6)],[]⟩ 7 sgN F6))) F6)))))))⟩
def s87:FSpec:=U8 q87 λx=>yg x.1 x.2
def wZ(A:oq):Option aI:=o5 (J4 4 (o9 A.2.2)) (some (4,3,4,0)) (l9 (aC (λ(x:aI×Int)=>o5 (J4 x.2 (o9 A.2.2)) (l9 (yg A x.2) λb=>o5 (F8 (x8 b.1 0)) (some (.rt (b.1,3,x.2,b.2))) (some (.nx (x.1,D5 .i64 x.2 1)))) (some (.ex x.1))) ((0,0,0,0),0)) λo=>az o (λ(y:aI)=>some (0,0,0,0)) λr=>some r)
def q54:FQ:=⟨[tD y39],cR 2 94 (tD y10),mE 31 [(87,s87)],sN 2 (Y6 (sN 1 (bU (lpR [(2,6),(14,30),(4000128,4000129)] ⟨[(2,(false,(.box (dT y10)))),(14,G6)],[]⟩ 0 ⟨[(2,(false,(.box (dT y10))))],[]⟩ F6))) F6)⟩
def s54:FSpec:=U8 q54 λx=>wZ x
def qF(A:oq):Option aI:=l9 (yf A) λx=>o5 (F8 (x8 x.1 0)) (some x) (l9 (xe A) λx=>o5 (F8 (x8 x.1 0)) (some x) (l9 (wZ A) λx=>some x))
def q32:FQ:=⟨[tD y39],cR 2 94 (tD y10),mE 19 [(52,s52),(53,s53),(54,s54)],F6⟩
def s32:FSpec:=U8 q32 λx=>qF x
def kW(A:List (List UInt8))(B:List (List UInt8)):Option Bool:=o5 (F8 (x8 (o9 A) (o9 B))) (some false) (l9 (aC (λ(x:Int)=>o5 (J4 x (o9 A)) (l9 (J9 A x) λb=>l9 (J9 B x) λc=>o5 (F8 (seq b c)) (some (.rt false)) (some (.nx (D5 .i64 x 1)))) (some (.ex ()))) 0) λo=>az o (λy=>some true) λr=>some r)
def q88:FQ:=⟨[uD (.sl .str),(uD (.sl .str))],tR 4 di,mE 26 [],sN 2 (Y6 (sN 1 (bU (lpR [(4,6),(13,26)] ⟨[(13,G6)],[]⟩ 0 sgN F6))) F6)⟩
def s88:FSpec:=U8 q88 λx=>kW x.1 x.2
def vz(A:dB)(B:dB):Option Bool:=o5 (seq A.1 B.1) (l9 (kW A.2 B.2) λx=>some x) (some false)
def q56:FQ:=⟨[tD y14,tD y14],tR 4 di,mE 17 [(88,s88)],F6⟩
def s56:FSpec:=U8 q56 λx=>vz x.1 x.2
def aT(A:List dB)(B:List dB)(C:Unit):Option Bool:=o5 (F8 (x8 (o9 A) (o9 B))) (some false) (l9 (aC (λ(x:Int)=>o5 (J4 x (o9 A)) (l9 (J9 A x) λb=>l9 (J9 B x) λc=>l9 (vz b c) λd=>o5 (F8 d) (some (.rt false)) (some (.nx (D5 .i64 x 1)))) (some (.ex ()))) 0) λo=>az o (λy=>some true) λr=>some r)
def WN:FQ:=⟨[uD y15,uD y15,(false,(.fn 56 []))],tR 6 di,mE 32 [(56,s56)],sN 2 (Y6 (sN 1 (bU (lpR [(6,10),(17,32)] ⟨[(17,G6)],[]⟩ 0 sgN F6))) F6)⟩
def WR:FSpec:=U8 WN λx=>aT x.1 x.2.1 x.2.2
def jU(A:List Hy)(B:List Hy):Option Bool:=o5 (F8 (x8 (o9 A) (o9 B))) (some false) (l9 (aC (λ(x:Int)=>o5 (J4 x (o9 A)) (l9 (J9 A x) λb=>l9 (J9 B x) λc=>o5 (F8 (Y2 (x8 b.1.1 c.1.1) (Y2 (x8 b.1.2 c.1.2) (Y2 (x8 b.2.1 c.2.1) (Y2 (x8 b.2.2.1 c.2.2.1) (x8 b.2.2.2 c.2.2.2)))))) (some (.rt false)) (some (.nx (D5 .i64 x 1)))) (some (.ex ()))) 0) λo=>az o (λy=>some true) λr=>some r)
def q89:FQ:=⟨[uD y17,uD y17],tR 4 di,mE 26 [],sN 2 (Y6 (sN 1 (bU (lpR [(4,6),(13,26)] ⟨[(13,G6)],[]⟩ 0 sgN F6))) F6)⟩
def s89:FSpec:=U8 q89 λx=>jU x.1 x.2
def uh(A:ni)(B:ni):Option Bool:=o5 (seq A.1 B.1) (o5 (Y2 (x8 A.2.1.1 B.2.1.1) (x8 A.2.1.2 B.2.1.2)) (o5 (Y2 (x8 A.2.2.1.1 B.2.2.1.1) (x8 A.2.2.1.2 B.2.2.1.2)) (l9 (jU A.2.2.2 B.2.2.2) λx=>some x) (some false)) (some false)) (some false)
def q58:FQ:=⟨[tD y20,tD y20],tR 4 di,mE 31 [(89,s89)],F6⟩
def s58:FSpec:=U8 q58 λx=>uh x.1 x.2
def aH(A:List ni)(B:List ni)(C:Unit):Option Bool:=o5 (F8 (x8 (o9 A) (o9 B))) (some false) (l9 (aC (λ(x:Int)=>o5 (J4 x (o9 A)) (l9 (J9 A x) λb=>l9 (J9 B x) λc=>l9 (uh b c) λd=>o5 (F8 d) (some (.rt false)) (some (.nx (D5 .i64 x 1)))) (some (.ex ()))) 0) λo=>az o (λy=>some true) λr=>some r)
def WO:FQ:=⟨[uD y21,uD y21,(false,(.fn 58 []))],tR 6 di,mE 32 [(58,s58)],sN 2 (Y6 (sN 1 (bU (lpR [(6,10),(17,32)] ⟨[(17,G6)],[]⟩ 0 sgN F6))) F6)⟩
def WS:FSpec:=U8 WO λx=>aH x.1 x.2.1 x.2.2
def dH(A:List ng)(B:List ng):Option Bool:=o5 (F8 (x8 (o9 A) (o9 B))) (some false) (l9 (aC (λ(x:Int)=>o5 (J4 x (o9 A)) (l9 (J9 A x) λb=>l9 (J9 B x) λc=>o5 (F8 (Y2 (seq b.1 c.1) (Y2 (x8 b.2.1 c.2.1) (x8 b.2.2 c.2.2)))) (some (.rt false)) (some (.nx (D5 .i64 x 1)))) (some (.ex ()))) 0) λo=>az o (λy=>some true) λr=>some r)
def q90:FQ:=⟨[uD y23,uD y23],tR 4 di,mE 26 [],sN 2 (Y6 (sN 1 (bU (lpR [(4,6),(13,26)] ⟨[(13,G6)],[]⟩ 0 sgN F6))) F6)⟩
def s90:FSpec:=U8 q90 λx=>dH x.1 x.2
def ug(A:gJ)(B:gJ):Option Bool:=o5 (seq A.1 B.1) (o5 (x8 A.2.1 B.2.1) (l9 (dH A.2.2.1 B.2.2.1) λx=>o5 x (l9 (dH A.2.2.2.1 B.2.2.2.1) λx=>some x) (some false)) (some false)) (some false)
def q60:FQ:=⟨[tD y36,tD y36],tR 4 di,mE 31 [(90,s90)],F6⟩
def s60:FSpec:=U8 q60 λx=>ug x.1 x.2
def aG(A:List gJ)(B:List gJ)(C:Unit):Option Bool:=o5 (F8 (x8 (o9 A) (o9 B))) (some false) (l9 (aC (λ(x:Int)=>o5 (J4 x (o9 A)) (l9 (J9 A x) λb=>l9 (J9 B x) λc=>l9 (ug b c) λd=>o5 (F8 d) (some (.rt false)) (some (.nx (D5 .i64 x 1)))) (some (.ex ()))) 0) λo=>az o (λy=>some true) λr=>some r)
def WP:FQ:=⟨[uD y37,uD y37,(false,(.fn 60 []))],tR 6 di,mE 32 [(60,s60)],sN 2 (Y6 (sN 1 (bU (lpR [(6,10),(17,32)] ⟨[(17,G6)],[]⟩ 0 sgN F6))) F6)⟩
def WT:FSpec:=U8 WP λx=>aG x.1 x.2.1 x.2.2
def og(A:oq)(B:oq):Option Bool:=l9 (aT A.1 B.1 ()) λx=>o5 x (l9 (aH A.2.1 B.2.1 ()) λx=>o5 x (l9 (aG A.2.2 B.2.2 ()) λx=>some x) (some false)) (some false)
def q33:FQ:=⟨[tD y39,tD y39],tR 4 di,mE 24 [(55,WR),(57,WS),(59,WT)],F6⟩
def s33:FSpec:=U8 q33 λx=>og x.1 x.2
def kD(A:oq)(B:List N8)(C:List ng):Option J6:=o5 (J4 (o9 B) (o9 C)) (some (o9 B,5)) (o5 (J4 (o9 C) (o9 B)) (some (o9 C,4)) (l9 (aC (λ(x:Int)=>o5 (J4 x (o9 B)) (l9 (J9 B x) λb=>l9 (J9 C x) λc=>o5 (F8 (x8 b.1 c.2.1)) (some (.rt (x,8))) (o5 (F8 (x8 b.2.1 c.2.2)) (some (.rt (x,8))) (l9 (dJ c.2 A.1) λd=>o5 (J4 b.2.2 d.1) (some (.rt (x,3))) (o5 (J4 d.2 b.2.2) (some (.rt (x,3))) (some (.nx (D5 .i64 x 1))))))) (some (.ex ()))) 0) λo=>az o (λy=>some (0,0)) λr=>some r))
def z_:FQ:=⟨[tD y39,uD y40,uD y23],⟨[(.tmp 6,G6),(.tmp 7,G6)],[]⟩,mE 71 [(107,TB)],sN 3 (Y6 (sN 1 (bU (lpR [(6,13),(29,71)] ⟨[(29,G6)],[]⟩ 0 sgN F6))) F6)⟩
def a1C:FSpec:=U8 z_ λx=>kD x.1 x.2.1 x.2.2
def nU(A:oq)(B:Int):Option (List ng×Int):=l9 (J9 A.2.2 B) λx=>o5 (J4 x.2.1 0) (some ([],0)) (o5 (aN (o9 A.2.2) x.2.1) (some ([],0)) (l9 (J9 A.2.2 x.2.1) λx=>some (x.2.2.1,8)))
def A_:FQ:=⟨[tD y39,G6],⟨[(.tmp 4,uD y23),(.tmp 5,G6)],[]⟩,mE 28 [],F6⟩
def a1D:FSpec:=U8 A_ λx=>nU x.1 x.2
def sZ(A:oq)(B:Int)(C:EU):Option N8:=l9 (o5 (J4 B 0) (some (.inr (-1,-1,6))) (o5 (aN (o9 A.2.2) B) (some (.inr (-1,-1,6))) (some (.inl ())))) λo=>az o (λx=>l9 (o5 (J4 C.1 0) (some (.inr (-1,-1,3))) (o5 (J4 109572 C.1) (some (.inr (-1,-1,3))) (some (.inl ())))) λo=>az o (λx=>l9 (J9 A.2.2 B) λx=>l9 (kD A C.2.1 x.2.2.1) λx=>o5 (F8 (x8 x.2 0)) (some (-1,x)) (l9 (nU A B) λx=>o5 (J4 x.2 (o9 C.2.2)) (some (x.2,-1,4)) (l9 (aC (λ(b:Int)=>o5 (J4 b (o9 C.2.2)) (l9 (J9 C.2.2 b) λc=>l9 (kD A c x.1) λx=>o5 (F8 (x8 x.2 0)) (some (.rt (b,x))) (some (.nx (D5 .i64 b 1)))) (some (.ex ()))) 0) λo=>az o (λy=>some (0,0,0)) λr=>some r))) λr=>some r) λr=>some r
def f_:FQ:=⟨[tD y39,G6,tD y43],⟨[(.tmp 6,G6),(.tmp 7,G6),(.tmp 8,G6)],[]⟩,mE 84 [(161,a1C),(162,a1D)],sN 1 (Y6 (jnR [(6,9),(17,26)] sgN F6) (Y6 (jnR [(6,9),(26,34)] sgN F6) (sN 3 (Y6 (sN 1 (bU (lpR [(6,9),(13,17),(66,84)] ⟨[(66,G6)],[]⟩ 0 sgN F6))) F6))))⟩
def a1p:FSpec:=U8 f_ λx=>sZ x.1 x.2.1 x.2.2
def nX(A:oq)(B:Int)(C:EU)(D:Bool)(E:Int):Option aI:=l9 (qF A) λx=>o5 (F8 (x8 x.1 0)) (some (1,-1,-1,-1)) (l9 (o5 (J4 B 0) (some (.inr (6,-1,-1,-1))) (o5 (aN (o9 A.2.2) B) (some (.inr (6,-1,-1,-1))) (o5 D (o5 (J4 E 0) (some (.inr (6,-1,-1,-1))) (l9 (J9 A.2.2 B) λx=>o5 (aN (o9 x.2.2.2.1) E) (some (.inr (6,-1,-1,-1))) (some (.inl (0,0,0,0))))) (some (.inl (0,0,0,0)))))) λo=>az o (λ(x:aI)=>l9 (sZ A B C) λx=>o5 (F8 (x8 x.2.2 0)) (some (x.2.2,x.1,-1,-1)) (some (0,0,0,0))) λr=>some r)
def q91:FQ:=⟨[tD y39,G6,tD y43,di,G6],cR 10 137 (tD y10),mE 63 [(32,s32),(132,a1p)],sN 2 (Y6 (jnR [(10,11),(21,49),(4000640,4000641)] ⟨[(10,(false,(.box (dT y10))))],[]⟩ F6) F6)⟩
def s91:FSpec:=U8 q91 λx=>nX x.1 x.2.1 x.2.2.1 x.2.2.2.1 x.2.2.2.2
def wW(A:oq)(B:Int):Option dw:=l9 (J9 A.2.2 B) λx=>l9 (qg (o9 x.2.2.2.1) false) λb=>o5 (aN 0 x.2.1) (l9 (J9 A.2.2 x.2.1) λc=>l9 (qg (o9 c.2.2.2.1) false) λd=>some (x,c,b,d)) (some (x,([],0,[],[],[]),b,[]))
def q92:FQ:=⟨[tD y39,G6],⟨[(.tmp 4,(false,(.box (pA (dT y36) (pA (dT y36) (pA (oW .bool) (oW .bool)))))))],[]⟩,mE 52 [],F6⟩
def s92:FSpec:=U8 q92 λx=>wW x.1 x.2
def pX(A:gJ)(B:Int):Option (List Int):=l9 (o5 (J4 B 0) (some (.inr [])) (o5 (aN (o9 A.2.2.2.1) B) (some (.inr [])) (some (.inl ())))) λo=>az o (λx=>l9 (qg (o9 A.2.2.2.1) false) λx=>l9 (J9 x B) λp=>l9 (ak x (ae B)) λq=>l9 (nz A) λk=>l9 (vO k B) λd=>l9 (Y5 (λ(x:List Bool×Int)=>o5 (J4 x.2 (o9 d)) (l9 (J9 d x.2) λb=>l9 (ak d (ae x.2)) λc=>l9 (J9 x.1 c) λf=>l9 (ak x.1 (ae c)) λg=>some (.inl (bC x.1 (ae c) true,D5 .i64 x.2 1))) (some (.inr x.1))) (bC x (ae B) true,0)) λy=>l9 (Y5 (λ(x:List Int×Int)=>o5 (J4 x.2 (o9 A.2.2.2.2)) (l9 (J9 A.2.2.2.2 x.2) λb=>o5 (J4 b.2.1 0) (some (.inl (x.1,D5 .i64 x.2 1))) (o5 (aN (o9 A.2.2.2.1) b.2.1) (some (.inl (x.1,D5 .i64 x.2 1))) (l9 (J9 y b.2.1) λc=>l9 (ak y (ae b.2.1)) λf=>o5 (F8 f) (some (.inl (x.1,D5 .i64 x.2 1))) (l9 (jQ b.2.2.2.2.2.1) λg=>l9 (jQ b.2.2.2.2.2.2.1) λn=>l9 (bQ x.1 g.2.2) λi=>l9 (bQ i n.2.2) λj=>some (.inl (j,D5 .i64 x.2 1)))))) (some (.inr x.1))) ([],0)) λy=>l9 (rC y) λx=>some x) λr=>some r
def q64:FQ:=⟨[tD y36,G6],tR 4 uoM,mE 95 [(96,s96),(95,s95),(97,s97),(98,s98)],sN 1 (Y6 (jnR [(4,5),(17,26)] sgN F6) (sN 2 (Y6 (sN 1 (bU (.loop [(5,6),(7,8),(38,46),(17001856,17001857)] ⟨[(5,(uO .bool)),(38,G6)],[]⟩ 0 ⟨[(5,(uO .bool))],[]⟩ F6))) (sN 1 (Y6 (sN 1 (bU (.loop [(8,9),(10,17),(49,93)] ⟨[(8,uoM),(49,G6)],[]⟩ 2 ⟨[(8,uoM)],[]⟩ F6))) F6)))))⟩
def s64:FSpec:=U8 q64 λx=>pX x.1 x.2
def lC(A:dw)(B:Int):Option dw:=l9 (J9 A.2.2.2 B) λx=>l9 (ak A.2.2.2 (ae B)) λx=>l9 (iK A.2.1 B) λx=>l9 (Y5 (λ(b:dw×Int)=>o5 (J4 b.2 (o9 x)) (l9 (J9 x b.2) λc=>l9 (ak x (ae b.2)) λx=>l9 (J9 b.1.2.2.2 x) λd=>l9 (ak b.1.2.2.2 (ae x)) λf=>some (.inl ((b.1.1,b.1.2.1,b.1.2.2.1,bC b.1.2.2.2 (ae x) true),D5 .i64 b.2 1))) (some (.inr b.1))) ((A.1,A.2.1,A.2.2.1,bC A.2.2.2 (ae B) true),0)) λy=>some y
def g_:FQ:=⟨[(false,(.box (pA (dT y36) (pA (dT y36) (pA (oW .bool) (oW .bool)))))),G6],⟨[],[(0,(true,(pA (dT y36) (pA (dT y36) (pA (oW .bool) (oW .bool))))))]⟩,⟨30,eqs,tt,gl,[(63,s63)],[],[],[],[0],[]⟩,sN 2 (bU (.loop [(0,1),(5,6),(19,30),(1000000,1000003)] ⟨[(0,(false,(.box (pA (dT y36) (pA (dT y36) (pA (oW .bool) (oW .bool))))))),(19,G6)],[]⟩ 0 ⟨[(0,(false,(.box (pA (dT y36) (pA (dT y36) (pA (oW .bool) (oW .bool)))))))],[]⟩ F6))⟩
def a1q:FSpec:=U8 g_ λx=>lC x.1 x.2
def qx(A:dw)(B:Int):Option dw:=l9 (J9 A.2.2.1 B) λx=>l9 (ak A.2.2.1 (ae B)) λx=>l9 (iK A.1 B) λx=>l9 (Y5 (λ(b:dw×Int)=>o5 (J4 b.2 (o9 x)) (l9 (J9 x b.2) λc=>l9 (ak x (ae b.2)) λx=>l9 (J9 b.1.2.2.1 x) λd=>l9 (ak b.1.2.2.1 (ae x)) λf=>some (.inl ((b.1.1,b.1.2.1,bC b.1.2.2.1 (ae x) true,b.1.2.2.2),D5 .i64 b.2 1))) (some (.inr b.1))) ((A.1,A.2.1,bC A.2.2.1 (ae B) true,A.2.2.2),0)) λy=>l9 (pX y.1 B) λx=>l9 (Y5 (λ(b:dw×Int)=>o5 (J4 b.2 (o9 x)) (l9 (J9 x b.2) λc=>l9 (ak x (ae b.2)) λx=>l9 (lC b.1 x) λx=>some (.inl (x,D5 .i64 b.2 1))) (some (.inr b.1))) (y,0)) λy=>some y
def q93:FQ:=⟨[(false,(.box (pA (dT y36) (pA (dT y36) (pA (oW .bool) (oW .bool)))))),G6],⟨[],[(0,(true,(pA (dT y36) (pA (dT y36) (pA (oW .bool) (oW .bool))))))]⟩,⟨47,eqs,tt,gl,[(63,s63),(64,s64),(133,a1q)],[],[],[],[0],[]⟩,sN 1 (Y6 (sN 1 (bU (.loop [(0,1),(5,6),(21,32),(1000000,1000003)] ⟨[(0,(false,(.box (pA (dT y36) (pA (dT y36) (pA (oW .bool) (oW .bool))))))),(21,G6)],[]⟩ 0 ⟨[(0,(false,(.box (pA (dT y36) (pA (dT y36) (pA (oW .bool) (oW .bool)))))))],[]⟩ F6))) (sN 1 (bU (.loop [(0,1),(7,8),(39,47),(12000000,12000003)] ⟨[(0,(false,(.box (pA (dT y36) (pA (dT y36) (pA (oW .bool) (oW .bool))))))),(39,G6)],[]⟩ 2 ⟨[(0,(false,(.box (pA (dT y36) (pA (dT y36) (pA (oW .bool) (oW .bool)))))))],[]⟩ F6))))⟩
def s93:FSpec:=U8 q93 λx=>qx x.1 x.2
def tV(A:List Int)(B:Int):Option (List Int):=l9 (bQ A [B]) λx=>some x
def Tj:FQ:=⟨[(false,(.box oiM)),(false,(.ifc 3 diM))],⟨[],[(0,(true,oiM))]⟩,⟨20,eqs,tt,gl,[],[],[],[],[0],[]⟩,F6⟩
def Ub:FSpec:=U8 Tj λx=>tV x.1 x.2
def kZ(A:List Int):Option Int:=some (o9 A)
def I_:FQ:=⟨[uD y45],tR 2 G6,mE 5 [],F6⟩
def Wj:FSpec:=U8 I_ λx=>kZ x
def fE(A:List Int)(B:Int)(C:Int):Option Bool:=l9 (J9 A B) λx=>l9 (J9 A C) λb=>some (J4 x b)
def a0V:FQ:=⟨[uD y45,G6,G6],tR 6 di,mE 16 [],F6⟩
def XQ:FSpec:=U8 a0V λx=>fE x.1 x.2.1 x.2.2
def fF(A:List Int)(B:Int)(C:Int):Option (List Int):=l9 (J9 A C) λx=>l9 (ak A (ae C)) λx=>l9 (J9 A B) λc=>l9 (ak A (ae B)) λb=>l9 (J9 A B) λd=>l9 (ak A (ae B)) λf=>l9 (J9 (bC A (ae B) x) C) λg=>l9 (ak (bC A (ae B) x) (ae C)) λi=>some (bC (bC A (ae B) x) (ae C) b)
def a0X:FQ:=⟨[(false,(.ownb (.int .i64))),G6,G6],⟨[],[(0,uoM)]⟩,⟨20,eqs,tt,gl,[],[],[],[],[0],[]⟩,F6⟩
def Ws:FSpec:=U8 a0X λx=>fF x.1 x.2.1 x.2.2
def tu(A:List Int)(B:Int):Option (List Int):=l9 (Y5 (λ(x:List Int×Int)=>o5 (x8 (fM .i64 (I4 .i64 x.2 1) 2) x.2) (some (.inr x.1)) (l9 (fE x.1 x.2 (fM .i64 (I4 .i64 x.2 1) 2)) λb=>o5 (F8 b) (some (.inr x.1)) (l9 (fF x.1 (fM .i64 (I4 .i64 x.2 1) 2) x.2) λc=>some (.inl (c,fM .i64 (I4 .i64 x.2 1) 2))))) (A,B)) λy=>some y
def SY:FQ:=⟨[(false,(.ifc 271 (.box oiM))),G6],⟨[],[(0,(true,oiM))]⟩,⟨23,eqs,tt,gl,[(294,XQ),(297,Ws)],[],[],[((271,"Less"),294,some 272),((271,"Swap"),297,some 272)],[0],[]⟩,bU (.loop [(0,2),(4,23),(1000000,1000002)] ⟨[(0,(false,(.ifc 271 (.box oiM)))),(1,G6)],[]⟩ 0 ⟨[(0,(false,(.ifc 271 (.box oiM))))],[]⟩ F6)⟩
def TW:FSpec:=U8 SY λx=>tu x.1 x.2
def lI(A:List Int)(B:Int):Option (List Int):=l9 (tV A B) λx=>l9 (kZ x) λb=>l9 (tu x (I4 .i64 b 1)) λx=>some x
def SV:FQ:=⟨[(false,(.ifc 271 (.box oiM))),(false,(.ifc 3 diM))],⟨[],[(0,(true,oiM))]⟩,⟨12,eqs,tt,gl,[(296,Ub),(178,Wj),(199,TW)],[],[],[((271,"Len"),178,some 272),((271,"Push"),296,none)],[0],[]⟩,F6⟩
def TU:FSpec:=U8 SV λx=>lI x.1 x.2
def qm(A:List Int)(B:Int)(C:Int):Option (Bool×List Int):=l9 (Y5 (λ(x:List Int×Int)=>o5 (aN C (D5 .i64 (gU .i64 2 x.2) 1)) (some (.inr x)) (o5 (J4 (D5 .i64 (gU .i64 2 x.2) 1) 0) (some (.inr x)) (o5 (J4 (D5 .i64 (D5 .i64 (gU .i64 2 x.2) 1) 1) C) (l9 (fE x.1 (D5 .i64 (D5 .i64 (gU .i64 2 x.2) 1) 1) (D5 .i64 (gU .i64 2 x.2) 1)) λc=>o5 c (l9 (fE x.1 (D5 .i64 (D5 .i64 (gU .i64 2 x.2) 1) 1) x.2) λb=>o5 (F8 b) (some (.inr x)) (l9 (fF x.1 x.2 (D5 .i64 (D5 .i64 (gU .i64 2 x.2) 1) 1)) λd=>some (.inl (d,D5 .i64 (D5 .i64 (gU .i64 2 x.2) 1) 1)))) (l9 (fE x.1 (D5 .i64 (gU .i64 2 x.2) 1) x.2) λb=>o5 (F8 b) (some (.inr x)) (l9 (fF x.1 x.2 (D5 .i64 (gU .i64 2 x.2) 1)) λd=>some (.inl (d,D5 .i64 (gU .i64 2 x.2) 1))))) (l9 (fE x.1 (D5 .i64 (gU .i64 2 x.2) 1) x.2) λc=>o5 (F8 c) (some (.inr x)) (l9 (fF x.1 x.2 (D5 .i64 (gU .i64 2 x.2) 1)) λb=>some (.inl (b,D5 .i64 (gU .i64 2 x.2) 1))))))) (A,B)) λy=>some (J4 B y.2,y.1)
def Tc:FQ:=⟨[(false,(.ifc 271 (.box oiM))),G6,G6],⟨[(.tmp 6,di)],[(0,(true,oiM))]⟩,⟨48,eqs,tt,gl,[(294,XQ),(297,Ws)],[],[],[((271,"Less"),294,some 272),((271,"Swap"),297,some 272)],[0],[]⟩,sN 2 (Y6 (bU (.loop [(0,1),(7,11),(12,45),(1000000,1000002)] ⟨[(0,(false,(.ifc 271 (.box oiM)))),(7,G6)],[]⟩ 0 ⟨[(0,(false,(.ifc 271 (.box oiM)))),(7,G6)],[]⟩ F6)) F6)⟩
def TY:FSpec:=U8 Tc λx=>qm x.1 x.2.1 x.2.2
def uQ(A:List Int):Option (Int×List Int):=l9 (J9 A (I4 .i64 (o9 A) 1)) λx=>l9 (ak A (ae (I4 .i64 (o9 A) 1))) λx=>o5 (pR 0 (I4 .i64 (o9 A) 1) (o9 A)) (some (x,mP A (ae 0) (ae (I4 .i64 (o9 A) 1)))) none
def a0W:FQ:=⟨[(false,(.box oiM))],⟨[(.tmp 2,(false,(.ifc 3 diM)))],[(0,(true,oiM))]⟩,⟨23,eqs,tt,gl,[],[],[],[],[0],[]⟩,F6⟩
def a2C:FSpec:=U8 a0W λx=>uQ x
def qZ(A:List Int):Option (Int×List Int):=l9 (kZ A) λx=>l9 (fF A 0 (I4 .i64 x 1)) λb=>l9 (qm b 0 (I4 .i64 x 1)) λx=>l9 (uQ x.2) λx=>some x
def SX:FQ:=⟨[(false,(.ifc 271 (.box oiM)))],⟨[(.tmp 2,(false,(.ifc 3 diM)))],[(0,(true,oiM))]⟩,⟨15,eqs,tt,gl,[(178,Wj),(297,Ws),(200,TY),(295,a2C)],[],[],[((271,"Len"),178,some 272),((271,"Pop"),295,none),((271,"Swap"),297,some 272)],[0],[]⟩,F6⟩
def TV:FSpec:=U8 SX λx=>qZ x
def pG(A:gJ):Option (List Int×Int):=l9 (nz A) λx=>l9 (qg (o9 x) []) λk=>l9 (qg (o9 x) 0) λq=>l9 (Y5 (λ(b:List (List Int)×List Int×List Int×Int)=>o5 (J4 b.2.2.2 (o9 x)) (l9 (J9 x b.2.2.2) λx=>l9 (J9 b.2.1 b.2.2.2) λg=>l9 (ak b.2.1 (ae b.2.2.2)) λi=>l9 (Y5 (λ(c:List (List Int)×Int)=>o5 (J4 c.2 (o9 x)) (l9 (J9 x c.2) λx=>o5 (inb x (o9 c.1)) (l9 (ak c.1 (ae x)) λd=>l9 (bQ d [b.2.2.2]) λj=>o5 (inb x (o9 c.1)) (o5 (VK (ae x) (ae x)) (l9 (ak c.1 (ae x)) λf=>some (.inl (bC c.1 (ae x) j,D5 .i64 c.2 1))) none) none) none) (some (.inr c.1))) (b.1,0)) λy=>o5 (x8 (o9 x) 0) (l9 (lI b.2.2.1 b.2.2.2) λc=>some (.inl (y,bC b.2.1 (ae b.2.2.2) (o9 x),c,D5 .i64 b.2.2.2 1))) (some (.inl (y,bC b.2.1 (ae b.2.2.2) (o9 x),b.2.2.1,D5 .i64 b.2.2.2 1)))) (some (.inr (b.1,b.2.1,b.2.2.1)))) (k,q,[],0)) λy=>l9 (Y5 (λ(x:List (List Int)×jm)=>l9 (kZ x.2.2.1) λb=>o5 (J4 0 b) (l9 (qZ x.2.2.1) λg=>l9 (bQ x.2.2.2 [g.1]) λi=>l9 (J9 x.1 g.1) λc=>l9 (Y5 (λ(x:List Int×List Int×Int)=>o5 (J4 x.2.2 (o9 c)) (l9 (J9 c x.2.2) λd=>l9 (J9 x.1 d) λj=>l9 (ak x.1 (ae d)) λf=>l9 (J9 x.1 d) λt=>l9 (ak x.1 (ae d)) λu=>l9 (J9 (bC x.1 (ae d) (I4 .i64 f 1)) d) λv=>l9 (ak (bC x.1 (ae d) (I4 .i64 f 1)) (ae d)) λn=>o5 (x8 n 0) (l9 (lI x.2.1 d) λp=>some (.inl (bC x.1 (ae d) (I4 .i64 f 1),p,D5 .i64 x.2.2 1))) (some (.inl (bC x.1 (ae d) (I4 .i64 f 1),x.2.1,D5 .i64 x.2.2 1)))) (some (.inr (x.1,x.2.1)))) (x.2.1,g.2,0)) λy=>some (.inl (x.1,y.1,y.2,i))) (some (.inr x.2.2.2))) (y.1,y.2.1,y.2.2,[])) λy=>o5 (J4 (o9 y) (o9 x)) (some ([],9)) (some (y,0))
def B_:FQ:=⟨[tD y36],⟨[(.tmp 2,uoM),(.tmp 3,G6)],[]⟩,⟨113,eqs,tt,gl,[(96,s96),(177,TU),(178,Wj),(179,TV)],[(184,oiM)],[12,50,77,80],[],[],[]⟩,sN 5 (Y6 (sN 1 (bU (.loop [(5,10),(11,12),(29,65),(10001344,10001345),(13001536,13001537),(16001600,16001601),(16001664,16001665)] ⟨[(5,(false,(.owns oiM))),(6,uoM),(7,(false,(.box oiM))),(29,G6)],[]⟩ 0 ⟨[(5,(false,(.owns oiM))),(6,uoM),(7,(false,(.box oiM)))],[]⟩ (sN 2 (Y6 (bU (sN 2 (Y6 (sN 1 (bU (.loop [(5,6),(11,12),(41,56),(23000000,23000001)] ⟨[(5,(false,(.owns oiM))),(41,G6)],[]⟩ 2 ⟨[(5,(false,(.owns oiM)))],[]⟩ F6))) F6))) F6))))) (sN 1 (Y6 (bU (.loop [(5,8),(12,15),(16,17),(65,107),(24000000,24000004)] ⟨[(5,(uD y63)),(6,uoM),(7,(false,(.box oiM))),(12,uoM)],[]⟩ 4 ⟨[(12,uoM)],[]⟩ (sN 1 (bU (sN 3 (bU (.loop [(6,8),(16,17),(86,107),(79000000,79000002),(91004672,91004673)] ⟨[(6,uoM),(7,(false,(.box oiM))),(86,G6)],[]⟩ 6 ⟨[(6,uoM),(7,(false,(.box oiM)))],[]⟩ F6))))))) F6)))⟩
def a1E:FSpec:=U8 B_ λx=>pG x
def jI(A:J6)(B:Int):Option Bool:=l9 (lV A) λx=>o5 x (o5 (aN A.1 B) (some (J4 B A.2)) (some false)) (some false)
def Q_:FQ:=⟨[tD y0,G6],tR 4 di,mE 19 [(115,Wh)],F6⟩
def Wl:FSpec:=U8 Q_ λx=>jI x.1 x.2
def rD(A:xB)(B:Int)(C:Int):Option Bool:=o5 (x8 A.2.1 B) (l9 (jI A.2.2.2.2.1 C) λx=>some x) (some false)
def Tf:FQ:=⟨[tD y31,(false,(.rp (.int .i64))),(false,(.rp (.int .i64)))],tR 4 di,mE 15 [(203,Wl)],F6⟩
def NV:FSpec:=U8 Tf λx=>rD x.1 x.2.1 x.2.2
def qp(A:List xB)(B:J6):Option (List Int×List Int):=l9 (qg (o9 A) 0) λx=>l9 (Y5 (λ(x:List Int×List Int×List Int×Int)=>o5 (J4 x.2.2.2 (o9 A)) (l9 (J9 A x.2.2.2) λc=>l9 (o5 (aN 0 c.2.2.1) (o5 (J4 c.2.2.1 x.2.2.2) (l9 (J9 x.2.2.1 c.2.2.1) λb=>l9 (ak x.2.2.1 (ae c.2.2.1)) λx=>some x) (some (-1))) (some (-1))) λb=>l9 (J9 x.2.2.1 x.2.2.2) λi=>l9 (ak x.2.2.1 (ae x.2.2.2)) λj=>l9 (rD c B.1 B.2) λd=>o5 d (l9 (J9 (bC x.2.2.1 (ae x.2.2.2) b) x.2.2.2) λk=>l9 (ak (bC x.2.2.1 (ae x.2.2.2) b) (ae x.2.2.2)) λn=>l9 (bQ x.1 [x.2.2.2]) λf=>l9 (bQ x.2.1 [b]) λg=>some (.inl (f,g,bC (bC x.2.2.1 (ae x.2.2.2) b) (ae x.2.2.2) (o9 x.1),D5 .i64 x.2.2.2 1))) (some (.inl (x.1,x.2.1,bC x.2.2.1 (ae x.2.2.2) b,D5 .i64 x.2.2.2 1)))) (some (.inr (x.1,x.2.1)))) ([],[],x,0)) λy=>some y
def Td:FQ:=⟨[uD y32,(false,(.fn 202 [(.int .i64),(.int .i64)]))],⟨[(.tmp 4,uoM),(.tmp 5,uoM)],[]⟩,mE 59 [(202,NV)],sN 3 (Y6 (sN 1 (bU (.loop [(6,12),(17,57),(10000896,10000897)] ⟨[(6,uoM),(7,uoM),(8,uoM),(17,G6)],[]⟩ 0 ⟨[(6,uoM),(7,uoM)],[]⟩ (sN 2 (Y6 (bU (sN 2 (Y6 (.join [(11,12),(22,36)] ⟨[(11,G6)],[]⟩ F6) F6))) F6))))) F6)⟩
def TZ:FSpec:=U8 Td λx=>qp x.1 x.2
def uS(A:gJ)(B:Int)(C:Int):Option jm:=l9 (qp A.2.2.2.2 (B,C)) λx=>l9 (Y5 (λ(b:List Int×Int)=>o5 (J4 b.2 (o9 x.1)) (l9 (J9 x.1 b.2) λc=>l9 (ak x.1 (ae b.2)) λx=>l9 (J9 A.2.2.2.2 x) λx=>l9 (bQ b.1 [x.2.2.2.1]) λx=>some (.inl (x,D5 .i64 b.2 1))) (some (.inr b.1))) ([],0)) λy=>some (x.1,x.2,y)
def J_:FQ:=⟨[tD y36,G6,G6],⟨[(.tmp 6,uoM),(.tmp 7,uoM),(.tmp 8,uoM)],[]⟩,mE 40 [(202,NV),(201,TZ)],sN 3 (Y6 (sN 1 (bU (.loop [(11,12),(13,14),(23,37)] ⟨[(11,uoM),(23,G6)],[]⟩ 0 ⟨[(11,uoM)],[]⟩ F6))) F6)⟩
def a1L:FSpec:=U8 J_ λx=>uS x.1 x.2.1 x.2.2
def DW(A:List J6):Option (List Int×Int):=l9 (rJ A) λx=>some (x.1,x.2.2)
def L_:FQ:=⟨[uD y24],⟨[(.tmp 2,uoM),(.tmp 3,G6)],[]⟩,mE 15 [(195,XB)],F6⟩
def a1N:FSpec:=U8 L_ λx=>DW x
def mO(A:Y9)(B:Int):Option (List Int):=l9 (J9 A.1 B) λx=>l9 (mF x.1) λx=>l9 (qg x 0) λx=>l9 (Y5 (λ(x:List Int×J6)=>o5 (aN 0 x.2.2) (l9 (J9 x.1 x.2.2) λc=>l9 (ak x.1 (ae x.2.2)) λd=>l9 (J9 A.2.1 x.2.1) λb=>some (.inl (bC x.1 (ae x.2.2) x.2.1,I4 .i64 b 1,I4 .i64 x.2.2 1))) (some (.inr x.1))) (x,I4 .i64 B 1,I4 .i64 (o9 x) 1)) λy=>some y
def U_:FQ:=⟨[tD y77,G6],tR 4 uoM,mE 36 [(197,Qy)],sN 3 (Y6 (sN 1 (bU (.loop [(5,8),(21,35),(7000960,7000961)] ⟨[(5,uoM),(6,G6),(7,G6)],[]⟩ 0 ⟨[(5,uoM)],[]⟩ F6))) F6)⟩
def a1S:FSpec:=U8 U_ λx=>mO x.1 x.2
def eX(A:N8):Option Bool:=l9 (o5 (F8 (x8 A.1 6)) (o5 (F8 (x8 A.2.1 0)) (some (.inr false)) (some (.inl ()))) (some (.inl ()))) λo=>az o (λx=>o5 (x8 A.1 1) (o5 (x8 A.2.2 0) (some true) (some (x8 A.2.2 1))) (o5 (x8 A.1 2) (o5 (aN (-1000000000000) A.2.2) (some (aN A.2.2 1000000000000)) (some false)) (o5 (x8 A.1 3) (o5 (aN (-1000000000000000) A.2.2) (some (aN A.2.2 1000000000000000)) (some false)) (o5 (x8 A.1 4) (o5 (aN (-1000000000) A.2.2) (some (aN A.2.2 1000000000)) (some false)) (o5 (x8 A.1 5) (o5 (aN 0 A.2.2) (some (aN A.2.2 109572)) (some false)) (o5 (x8 A.1 6) (o5 (aN 0 A.2.1) (o5 (J4 A.2.1 8) (o5 (aN 0 A.2.2) (some (J4 A.2.2 16)) (some false)) (some false)) (some false)) (some false))))))) λr=>some r
def a0j:FQ:=⟨[tD y1],tR 2 di,mE 83 [],sN 1 (Y6 (jnR [(2,11)] sgN F6) F6)⟩
def NW:FSpec:=U8 a0j λx=>eX x
def wP(A:J6):Option Bool:=l9 (l9 (mF A.1) λx=>o5 (J4 x 0) (some (.inr false)) (o5 (F8 (x8 A.2 0)) (l9 (Aq A.1) λx=>o5 (F8 x) (some (.inr false)) (some (.inl ()))) (some (.inl ())))) λo=>az o (λx=>l9 (o5 (x8 A.1 14) (some (x8 A.1 14)) (o5 (x8 A.1 15) (some (x8 A.1 15)) (some (x8 A.1 16)))) λx=>o5 x (o5 (aN 0 A.2) (some (aN A.2 5)) (some false)) (o5 (x8 A.1 34) (o5 (aN 0 A.2) (some (aN (kN A.2 8) 5)) (some false)) (o5 (x8 A.1 6) (some (aN 0 A.2)) (some true)))) λr=>some r
def a0e:FQ:=⟨[tD y0],tR 2 di,mE 48 [(197,Qy),(196,XC)],sN 1 (Y6 (jnR [(2,18)] sgN F6) (Y6 (sN 1 (bU (Y6 (.join [(20,24)] ⟨[(20,di)],[]⟩ F6) F6))) F6))⟩
def a2a:FSpec:=U8 a0e λx=>wP x
def DT(A:J6)(B:AX):Option Bool:=o5 (x8 A.1 7) (o5 (aN 0 A.2) (some (J4 A.2 (o9 B.2.1))) (some false)) (o5 (x8 A.1 8) (o5 (aN 0 A.2) (o5 (J4 A.2 (o9 B.2.2.1)) (l9 (J9 B.2.2.1 A.2) λx=>some (F8 (x8 x.1 0))) (some false)) (some false)) (o5 (x8 A.1 33) (o5 (aN 0 A.2) (some (J4 A.2 (o9 B.2.2.2.2.2))) (some false)) (o5 (x8 A.1 34) (some (J4 (fM .i64 A.2 8) (o9 B.2.2.2.2.2))) (l9 (o5 (x8 A.1 36) (some (x8 A.1 36)) (o5 (x8 A.1 37) (some (x8 A.1 37)) (o5 (x8 A.1 38) (some (x8 A.1 38)) (some (x8 A.1 39))))) λx=>o5 x (o5 (aN 0 A.2) (some (J4 A.2 (o9 B.2.2.2.2.1))) (some false)) (some true)))))
def a0f:FQ:=⟨[tD y0,tD y61],tR 4 di,mE 81 [],sN 1 (Y6 (sN 1 (bU (sN 1 (.cond F6 (sN 1 (.cond F6 (sN 1 (.cond F6 (sN 1 (.cond F6 (Y6 (.join [(65,70)] ⟨[(65,di)],[]⟩ F6) F6))))))))))) F6)⟩
def a2b:FSpec:=U8 a0f λx=>DT x.1 x.2
def tX(A:List N8):Option Bool:=l9 (aC (λ(x:Int)=>o5 (J4 x (o9 A)) (l9 (J9 A x) λb=>l9 (eX b) λc=>o5 (F8 c) (some (.rt false)) (some (.nx (D5 .i64 x 1)))) (some (.ex ()))) 0) λo=>az o (λy=>some true) λr=>some r
def a0g:FQ:=⟨[uD y40],tR 2 di,mE 15 [(231,NW)],sN 1 (Y6 (sN 1 (bU (lpR [(2,3),(4,5),(7,15)] ⟨[(7,G6)],[]⟩ 0 sgN F6))) F6)⟩
def a2c:FSpec:=U8 a0g λx=>tX x
def vW(A:N8)(B:J6):Option Bool:=l9 (eX A) λx=>o5 x (o5 (x8 A.1 B.1) (some (x8 A.2.1 B.2)) (some false)) (some false)
def a0n:FQ:=⟨[tD y1,tD y0],tR 4 di,mE 21 [(231,NW)],F6⟩
def XH:FSpec:=U8 a0n λx=>vW x.1 x.2
def lL(A:Int):Option Bool:=o5 (x8 A 2) (some true) (o5 (x8 A 3) (some true) (some (x8 A 4)))
def a0x:FQ:=⟨[G6],tR 2 di,mE 13 [],F6⟩
def Wn:FSpec:=U8 a0x λx=>lL x
def rG(A:Int)(B:J6):Option Bool:=o5 (F8 (x8 B.2 0)) (some false) (o5 (x8 A 36) (o5 (x8 B.1 2) (some true) (some (x8 B.1 3))) (o5 (x8 A 39) (l9 (lL B.1) λx=>o5 x (some true) (some (x8 B.1 5))) (some (x8 B.1 1))))
def a0o:FQ:=⟨[G6,tD y0],tR 4 di,mE 32 [(252,Wn)],F6⟩
def a2h:FSpec:=U8 a0o λx=>rG x.1 x.2
def tY(A:Int)(B:Int):Option Bool:=o5 (x8 A 10) (l9 (lL B) λx=>some x) (o5 (x8 A 25) (some (x8 B 1)) (some (x8 B 5)))
def a0p:FQ:=⟨[G6,G6],tR 4 di,mE 16 [(252,Wn)],F6⟩
def a2i:FSpec:=U8 a0p λx=>tY x.1 x.2
def lM(A:N8)(B:N8):Option Bool:=o5 (x8 A.1 B.1) (some (x8 A.2.1 B.2.1)) (some false)
def a0r:FQ:=⟨[tD y1,tD y1],tR 4 di,mE 17 [],F6⟩
def XI:FSpec:=U8 a0r λx=>lM x.1 x.2
def rF(A:Int)(B:N8)(C:N8):Option Bool:=l9 (l9 (o5 (x8 A 11) (some (x8 A 11)) (some (x8 A 12))) λx=>o5 x (l9 (lM B C) λx=>o5 x (l9 (lL B.1) λx=>some (.inr x)) (some (.inr false))) (o5 (x8 A 13) (o5 (x8 C.1 2) (o5 (x8 B.1 2) (some (.inr true)) (some (.inr (x8 B.1 3)))) (some (.inr false))) (o5 (x8 A 14) (o5 (x8 C.1 4) (o5 (x8 B.1 3) (some (.inr true)) (some (.inr (x8 B.1 4)))) (some (.inr false))) (o5 (x8 A 15) (o5 (x8 C.1 2) (o5 (x8 B.1 2) (some (.inr true)) (some (.inr (x8 B.1 3)))) (o5 (x8 B.1 3) (some (.inr (x8 C.1 3))) (some (.inr false)))) (o5 (x8 A 16) (o5 (x8 B.1 3) (some (.inr (x8 C.1 3))) (some (.inr false))) (l9 (o5 (x8 A 17) (some (x8 A 17)) (o5 (x8 A 18) (some (x8 A 18)) (o5 (x8 A 21) (some (x8 A 21)) (some (x8 A 22))))) λx=>o5 x (l9 (lM B C) λx=>o5 x (l9 (lL B.1) λx=>o5 x (some (.inr true)) (some (.inr (x8 B.1 5)))) (some (.inr false))) (l9 (o5 (x8 A 19) (some (x8 A 19)) (some (x8 A 20))) λx=>o5 x (l9 (lM B C) λx=>some (.inr x)) (o5 (x8 A 23) (o5 (x8 A 23) (o5 (x8 B.1 1) (some (.inr (x8 C.1 1))) (some (.inr false))) (o5 (x8 A 27) (o5 (x8 A 27) (o5 (x8 B.1 5) (some (.inr (x8 C.1 2))) (some (.inr false))) (some (.inl ()))) (o5 (x8 A 28) (o5 (x8 B.1 5) (some (.inr (x8 C.1 2))) (some (.inr false))) (some (.inl ()))))) (o5 (x8 A 24) (o5 (x8 B.1 1) (some (.inr (x8 C.1 1))) (some (.inr false))) (o5 (x8 A 27) (o5 (x8 A 27) (o5 (x8 B.1 5) (some (.inr (x8 C.1 2))) (some (.inr false))) (some (.inl ()))) (o5 (x8 A 28) (o5 (x8 B.1 5) (some (.inr (x8 C.1 2))) (some (.inr false))) (some (.inl ()))))))))))))) λo=>az o (λx=>o5 (x8 B.1 5) (some (x8 C.1 5)) (some false)) λr=>some r
def a0q:FQ:=⟨[G6,tD y1,tD y1],tR 6 di,mE 134 [(244,XI),(252,Wn)],sN 1 (Y6 (jnR [(6,126)] sgN (sN 1 (bU (Y6 (.join [(8,11)] ⟨[(8,di)],[]⟩ F6) (.cond F6 (sN 1 (.cond F6 (sN 1 (.cond F6 (sN 1 (.cond F6 (sN 1 (.cond F6 (Y6 (.join [(80,85)] ⟨[(80,di)],[]⟩ F6) (.cond F6 (Y6 (.join [(98,101)] ⟨[(98,di)],[]⟩ F6) F6)))))))))))))))) F6)⟩
def a2j:FSpec:=U8 a0q λx=>rF x.1 x.2.1 x.2.2
def Be(A:J6)(B:List N8)(C:AX):Option Bool:=l9 (o5 (x8 A.1 7) (l9 (J9 C.2.1 A.2) λx=>l9 (eX x) λx=>some (.inr x)) (o5 (x8 A.1 8) (l9 (J9 C.2.2.1 A.2) λx=>l9 (eX x) λx=>some (.inr x)) (o5 (x8 A.1 33) (l9 (J9 C.2.2.2.2.2 A.2) λx=>l9 (J9 B 0) λb=>l9 (vW b x.2.1) λc=>o5 c (o5 (aN 1 x.2.2.1.1) (some (.inr (aN x.2.2.1.1 6))) (some (.inr false))) (some (.inr false))) (o5 (x8 A.1 34) (l9 (J9 C.2.2.2.2.2 (fM .i64 A.2 8)) λx=>l9 (J9 B 0) λb=>o5 (x8 b.1 3) (o5 (Y2 (x8 x.2.1.1 3) (x8 x.2.1.2 0)) (some (.inr (Y2 (x8 x.2.2.1.1 4) (x8 x.2.2.1.2 0)))) (some (.inr false))) (some (.inr false))) (l9 (o5 (x8 A.1 36) (some (x8 A.1 36)) (o5 (x8 A.1 37) (some (x8 A.1 37)) (o5 (x8 A.1 38) (some (x8 A.1 38)) (some (x8 A.1 39))))) λx=>o5 x (l9 (J9 C.2.2.2.2.1 A.2) λx=>l9 (rG A.1 x) λx=>some (.inr x)) (some (.inl ()))))))) λo=>az o (λx=>o5 (x8 (o9 B) 1) (l9 (J9 B 0) λx=>l9 (tY A.1 x.1) λx=>some x) (o5 (x8 (o9 B) 2) (l9 (J9 B 0) λx=>l9 (J9 B 1) λb=>l9 (rF A.1 x b) λx=>some x) (o5 (x8 (o9 B) 3) (l9 (J9 B 0) λx=>o5 (x8 x.1 1) (l9 (J9 B 1) λx=>l9 (J9 B 2) λb=>l9 (lM x b) λx=>some x) (some false)) (some true)))) λr=>some r
def a0h:FQ:=⟨[tD y0,uD y40,tD y61],tR 6 di,mE 133 [(231,NW),(240,XH),(241,a2h),(242,a2i),(243,a2j),(244,XI)],sN 1 (Y6 (jnR [(6,95)] sgN (sN 1 (bU (sN 1 (.cond F6 (sN 1 (.cond F6 (sN 1 (.cond F6 (sN 1 (.cond F6 (Y6 (.join [(81,86)] ⟨[(81,di)],[]⟩ F6) F6)))))))))))) F6)⟩
def a2d:FSpec:=U8 a0h λx=>Be x.1 x.2.1 x.2.2
def uU(A:J6)(B:AX):Option (N8×Int):=l9 (J9 B.2.2.2.2.1 A.2) λx=>l9 (o5 (x8 A.1 37) (some (x.1,x.2,1)) (some (x.1,x.2,0))) λg=>l9 (o5 (x8 A.1 39) (o5 (x8 (o9 B.2.2.2.1) 0) (some (.inr ((0,0,0),6))) (some (.inl (0,0,0)))) (some (.inl (0,0,0)))) λo=>az o (λ(i:N8)=>l9 (aC (λ(b:N8×N8×Int)=>o5 (J4 b.2.2 (o9 B.2.2.2.1)) (l9 (J9 B.2.2.2.1 b.2.2) λf=>l9 (o5 (aN (o9 f) A.2) (some (.inr ((0,0,0),6))) (l9 (J9 f A.2) λx=>o5 (x8 x.1 0) (some (.inr ((0,0,0),6))) (some (.inl b.1)))) λo=>az o (λ(d:N8)=>l9 (J9 f A.2) λc=>l9 (vW c x) λx=>o5 (F8 x) (some (.rt ((0,0,0),8))) (o5 (x8 A.1 36) (l9 (eX (b.2.1.1,b.2.1.2.1,D5 .i64 b.2.1.2.2 c.2.2)) λx=>o5 (F8 x) (some (.rt ((0,0,0),3))) (some (.nx (d,(b.2.1.1,b.2.1.2.1,D5 .i64 b.2.1.2.2 c.2.2),D5 .i64 b.2.2 1)))) (o5 (x8 A.1 37) (some (.nx (d,(b.2.1.1,b.2.1.2.1,wo b.2.1.2.2 c.2.2),D5 .i64 b.2.2 1))) (o5 (x8 A.1 38) (some (.nx (d,(b.2.1.1,b.2.1.2.1,oG b.2.1.2.2 c.2.2),D5 .i64 b.2.2 1))) (o5 (x8 A.1 39) (o5 (x8 b.2.2 0) (some (.nx (d,c,D5 .i64 b.2.2 1))) (o5 (J4 b.2.1.2.2 c.2.2) (some (.nx (d,c,D5 .i64 b.2.2 1))) (some (.nx (d,b.2.1,D5 .i64 b.2.2 1))))) (some (.nx (d,b.2.1,D5 .i64 b.2.2 1)))))))) λr=>some (.rt r)) (some (.ex (b.1,b.2.1)))) (i,g,0)) λo=>az o (λ(y:N8×N8)=>some (y.2,0)) λr=>some r) λr=>some r
def a0s:FQ:=⟨[tD y0,tD y61],⟨[(.cell 4 33,tD y1),(.tmp 5,G6)],[]⟩,mE 113 [(240,XH),(231,NW)],sN 3 (Y6 (.join [(7,8),(22,26),(10000448,10000449)] ⟨[(7,(false,(.box (dT y1))))],[]⟩ F6) (Y6 (jnR [(4,6),(26,36),(4000256,4000257)] ⟨[(4,(false,(.box (dT y1))))],[]⟩ F6) (Y6 (sN 1 (bU (lpR [(4,6),(7,11),(39,112),(12000000,12000001),(20000000,20000001)] ⟨[(4,(false,(.box (dT y1)))),(7,(false,(.box (dT y1)))),(39,G6)],[]⟩ 0 ⟨[(4,(false,(.box (dT y1)))),(7,(false,(.box (dT y1))))],[]⟩ (sN 2 (Y6 (bU (sN 1 (Y6 (jnR [(4,6),(44,59),(35000000,35000001)] ⟨[(4,(false,(.box (dT y1))))],[]⟩ F6) F6))) F6))))) F6)))⟩
def a2k:FSpec:=U8 a0s λx=>uU x.1 x.2
def yQ(A:Hy)(B:Int)(C:Int):Option Bool:=l9 (jI A.1 B) λx=>o5 x (o5 (aN A.2.1 C) (some (J4 C A.2.2.1)) (some false)) (some false)
def Ti:FQ:=⟨[tD y16,(false,(.rp (.int .i64))),(false,(.rp (.int .i64)))],tR 4 di,mE 21 [(203,Wl)],F6⟩
def NY:FSpec:=U8 Ti λx=>yQ x.1 x.2.1 x.2.2
def nR(A:List Hy)(B:J6):Option (Int×Bool):=l9 (aC (λ(x:Int)=>o5 (J4 x (o9 A)) (l9 (J9 A x) λb=>l9 (yQ b B.1 B.2) λc=>o5 c (some (.rt (x,true))) (some (.nx (D5 .i64 x 1)))) (some (.ex ()))) 0) λo=>az o (λy=>some (0,false)) λr=>some r
def Sl:FQ:=⟨[uD y17,(false,(.fn 253 [(.int .i64),(.int .i64)]))],⟨[(.tmp 4,G6),(.tmp 5,di)],[]⟩,mE 20 [(253,NY)],sN 1 (Y6 (sN 1 (bU (lpR [(4,8),(10,20)] ⟨[(10,G6)],[]⟩ 0 sgN F6))) F6)⟩
def TG:FSpec:=U8 Sl λx=>nR x.1 x.2
def Cb(A:ni)(B:Int)(C:Int):Option (Int×Bool):=l9 (nR A.2.2.2 (B,C)) λx=>some x
def a0t:FQ:=⟨[tD y20,G6,G6],⟨[(.tmp 6,G6),(.tmp 7,di)],[]⟩,mE 14 [(253,NY),(116,TG)],F6⟩
def a2l:FSpec:=U8 a0t λx=>Cb x.1 x.2.1 x.2.2
def a3T:List MG:=[(false,(.dat (.int .u64))),(false,(.dat (.int .u64)))]
def s71:FSpec:=⟨a3T,[(false,(.dat (.int .u64))),(false,(.dat (.int .u64)))],[],λx=>mJ x.1 x.2⟩
def xh(A:Int):Option Int:=o5 (aN 4294967296 A) (o5 (aN 65536 (jW .u64 A 32)) (o5 (aN 256 (jW .u64 (jW .u64 A 32) 16)) (l9 (sat yO (wrap .u8 (jW .u64 (jW .u64 (jW .u64 A 32) 16) 8))) λx=>some (D5 .i64 (D5 .i64 (D5 .i64 32 16) 8) (wrap .i64 x))) (l9 (sat yO (wrap .u8 (jW .u64 (jW .u64 A 32) 16))) λx=>some (D5 .i64 (D5 .i64 32 16) (wrap .i64 x)))) (o5 (aN 256 (jW .u64 A 32)) (l9 (sat yO (wrap .u8 (jW .u64 (jW .u64 A 32) 8))) λx=>some (D5 .i64 (D5 .i64 32 8) (wrap .i64 x))) (l9 (sat yO (wrap .u8 (jW .u64 A 32))) λx=>some (D5 .i64 32 (wrap .i64 x))))) (o5 (aN 65536 A) (o5 (aN 256 (jW .u64 A 16)) (l9 (sat yO (wrap .u8 (jW .u64 (jW .u64 A 16) 8))) λx=>some (D5 .i64 (D5 .i64 (D5 .i64 0 16) 8) (wrap .i64 x))) (l9 (sat yO (wrap .u8 (jW .u64 A 16))) λx=>some (D5 .i64 (D5 .i64 0 16) (wrap .i64 x)))) (o5 (aN 256 A) (l9 (sat yO (wrap .u8 (jW .u64 A 8))) λx=>some (D5 .i64 (D5 .i64 0 8) (wrap .i64 x))) (l9 (sat yO (wrap .u8 A)) λx=>some (D5 .i64 0 (wrap .i64 x)))))
def m_:FQ:=⟨[(false,(dT (.int .u64)))],tR 2 G6,mE 25 [],F6⟩
def a1u:FSpec:=U8 m_ λx=>xh x
def lT(A:Int):Option Int:=l9 (xh A) λx=>some (I4 .i64 64 x)
def a0M:FQ:=⟨[(false,(dT (.int .u64)))],tR 2 G6,mE 6 [(140,a1u)],F6⟩
def a2z:FSpec:=U8 a0M λx=>lT x
def jS(A:Int)(B:Int)(C:Int):Option J6:=l9 (o5 (x8 C 0) none (some ())) λx=>l9 (o5 (aN C A) none (some ())) λx=>o5 (x8 A 0) (l9 (IK .u64 B C) λx=>l9 (Ph B C) λb=>some (x,b)) (l9 (lT C) λx=>l9 (KF .u64 C (wrap .u64 x)) λb=>l9 (KF .u64 A (wrap .u64 x)) λd=>l9 (Pi .u64 B (I4 .u64 64 (wrap .u64 x))) λf=>l9 (KF .u64 B (wrap .u64 x)) λc=>l9 (IK .u64 (ior .u64 d f) (jW .u64 b 32)) λg=>l9 (Y5 (λ(x:J6)=>o5 (aN 4294967296 x.1) (o5 (aN 4294967296 (D5 .u64 x.2 (jW .u64 b 32))) (some (.inr (I4 .u64 x.1 1))) (some (.inl (I4 .u64 x.1 1,D5 .u64 x.2 (jW .u64 b 32))))) (o5 (J4 (D5 .u64 (gU .u64 4294967296 x.2) (jW .u64 c 32)) (gU .u64 x.1 (Qe .u64 b 4294967295))) (o5 (aN 4294967296 (D5 .u64 x.2 (jW .u64 b 32))) (some (.inr (I4 .u64 x.1 1))) (some (.inl (I4 .u64 x.1 1,D5 .u64 x.2 (jW .u64 b 32))))) (some (.inr x.1)))) (g,I4 .u64 (ior .u64 d f) (gU .u64 g (jW .u64 b 32)))) λy=>l9 (IK .u64 (I4 .u64 (D5 .u64 (gU .u64 (ior .u64 d f) 4294967296) (jW .u64 c 32)) (gU .u64 y b)) (jW .u64 b 32)) λi=>l9 (Y5 (λ(x:J6)=>o5 (aN 4294967296 x.2) (o5 (aN 4294967296 (D5 .u64 x.1 (jW .u64 b 32))) (some (.inr (I4 .u64 x.2 1))) (some (.inl (D5 .u64 x.1 (jW .u64 b 32),I4 .u64 x.2 1)))) (o5 (J4 (D5 .u64 (gU .u64 4294967296 x.1) (Qe .u64 c 4294967295)) (gU .u64 x.2 (Qe .u64 b 4294967295))) (o5 (aN 4294967296 (D5 .u64 x.1 (jW .u64 b 32))) (some (.inr (I4 .u64 x.2 1))) (some (.inl (D5 .u64 x.1 (jW .u64 b 32),I4 .u64 x.2 1)))) (some (.inr x.2)))) (I4 .u64 (I4 .u64 (D5 .u64 (gU .u64 (ior .u64 d f) 4294967296) (jW .u64 c 32)) (gU .u64 y b)) (gU .u64 i (jW .u64 b 32)),i)) λy_1=>l9 (Pi .u64 (I4 .u64 (D5 .u64 (gU .u64 (I4 .u64 (D5 .u64 (gU .u64 (ior .u64 d f) 4294967296) (jW .u64 c 32)) (gU .u64 y b)) 4294967296) (Qe .u64 c 4294967295)) (gU .u64 y_1 b)) (wrap .u64 x)) λx=>some (D5 .u64 (gU .u64 y 4294967296) y_1,x))
def a0E:FQ:=⟨[(false,(dT (.int .u64))),(false,(dT (.int .u64))),(false,(dT (.int .u64)))],⟨[(.tmp 6,(false,(dT (.int .u64)))),(.tmp 7,(false,(dT (.int .u64))))],[]⟩,mE 135 [(268,a2z)],sN 1 (Y6 (.join [(19,22)] sgN F6) (Y6 (.join [(22,26)] sgN F6) (sN 11 (Y6 (bU (.loop [(15,17),(67,86)] ⟨[(15,(false,(dT (.int .u64)))),(16,(false,(dT (.int .u64))))],[]⟩ 0 ⟨[(15,(false,(dT (.int .u64))))],[]⟩ F6)) (sN 3 (Y6 (bU (.loop [(16,17),(18,19),(102,121)] ⟨[(16,(false,(dT (.int .u64)))),(18,(false,(dT (.int .u64))))],[]⟩ 2 ⟨[(18,(false,(dT (.int .u64))))],[]⟩ F6)) F6))))))⟩
def Wp:FSpec:=U8 a0E λx=>jS x.1 x.2.1 x.2.2
def sQ(A:Int)(B:Int):Option (Int×Int×Bool):=o5 (J4 B 0) (l9 (mJ (wrap .u64 A) (I4 .u64 0 (wrap .u64 B))) λx=>o5 (aN 1000000 x.1) (some (0,0,false)) (l9 (jS x.1 x.2 1000000) λx=>o5 (J4 1000000000000000 x.1) (some (0,0,false)) (o5 (J4 B 0) (some (I4 .i64 0 (wrap .i64 x.1),I4 .i64 0 (wrap .i64 x.2),true)) (some (wrap .i64 x.1,wrap .i64 x.2,true))))) (l9 (mJ (wrap .u64 A) (wrap .u64 B)) λx=>o5 (aN 1000000 x.1) (some (0,0,false)) (l9 (jS x.1 x.2 1000000) λx=>o5 (J4 1000000000000000 x.1) (some (0,0,false)) (o5 (J4 B 0) (some (I4 .i64 0 (wrap .i64 x.1),I4 .i64 0 (wrap .i64 x.2),true)) (some (wrap .i64 x.1,wrap .i64 x.2,true)))))
def a0y:FQ:=⟨[G6,G6],⟨[(.tmp 4,G6),(.tmp 5,G6),(.tmp 6,di)],[]⟩,mE 47 [(71,s71),(260,Wp)],F6⟩
def a2p:FSpec:=U8 a0y λx=>sQ x.1 x.2
def lY(A:Int):Option Bool:=o5 (aN 0 A) (some (aN A 5)) (some false)
def a0N:FQ:=⟨[G6],tR 2 di,mE 9 [],F6⟩
def Wq:FSpec:=U8 a0N λx=>lY x
def eU(A:Int)(B:Int):Option Bool:=o5 (J4 B A) (some true) (some (J4 A (I4 .i64 0 B)))
def q68:FQ:=⟨[G6,G6],tR 4 di,mE 14 [],F6⟩
def s68:FSpec:=U8 q68 λx=>eU x.1 x.2
def iL(A:Int):Option Int:=o5 (J4 A 0) (some (I4 .u64 0 (wrap .u64 A))) (some (wrap .u64 A))
def a0O:FQ:=⟨[G6],tR 2 (false,(dT (.int .u64))),mE 10 [],F6⟩
def XL:FSpec:=U8 a0O λx=>iL x
def kQ(A:Int)(B:Int)(C:Int)(D:Bool)(E:Int):Option Int:=o5 (x8 B 0) (some A) (o5 (x8 E 0) (o5 D (some (D5 .u64 A 1)) (some A)) (o5 (x8 E 1) (o5 (F8 D) (some (D5 .u64 A 1)) (some A)) (o5 (x8 E 3) (some (D5 .u64 A 1)) (o5 (x8 E 4) (o5 (aN (I4 .u64 C B) B) (some (D5 .u64 A 1)) (some A)) (o5 (x8 E 5) (o5 (J4 (I4 .u64 C B) B) (some (D5 .u64 A 1)) (o5 (x8 B (I4 .u64 C B)) (o5 (x8 (kN A 2) 1) (some (D5 .u64 A 1)) (some A)) (some A))) (some A))))))
def a0P:FQ:=⟨[(false,(dT (.int .u64))),(false,(dT (.int .u64))),(false,(dT (.int .u64))),di,G6],tR 10 (false,(dT (.int .u64))),mE 55 [],F6⟩
def XM:FSpec:=U8 a0P λx=>kQ x.1 x.2.1 x.2.2.1 x.2.2.2.1 x.2.2.2.2
def wC(A:Int)(B:Bool):Option Int:=o5 B (some (I4 .i64 0 (wrap .i64 A))) (some (wrap .i64 A))
def a0Q:FQ:=⟨[(false,(dT (.int .u64))),di],tR 4 G6,mE 11 [],F6⟩
def XN:FSpec:=U8 a0Q λx=>wC x.1 x.2
def gZ(A:Int)(B:Int)(C:Int):Option J6:=l9 (lY C) λx=>o5 (F8 x) (some (0,1)) (o5 (x8 B 0) (some (0,12)) (l9 (eU A 4611686018427387904) λx=>o5 x (some (0,3)) (l9 (eU B 4611686018427387904) λx=>o5 x (some (0,3)) (l9 (iL A) λx=>l9 (iL B) λb=>l9 (IK .u64 x b) λc=>l9 (Ph x b) λx=>l9 (kQ c x b (F8 (qB (J4 A 0) (J4 B 0))) C) λx=>l9 (wC x (F8 (qB (J4 A 0) (J4 B 0)))) λx=>some (x,0)))))
def a0F:FQ:=⟨[G6,G6,G6],⟨[(.tmp 6,G6),(.tmp 7,G6)],[]⟩,mE 45 [(269,Wq),(68,s68),(270,XL),(271,XM),(272,XN)],F6⟩
def Ua:FSpec:=U8 a0F λx=>gZ x.1 x.2.1 x.2.2
def yT(A:Int)(B:Int)(C:Int):Option J6:=o5 (J4 (D5 .i64 A (fM .i64 B 1000000)) (-2000000000000000)) (some (0,3)) (o5 (J4 2000000000000000 (D5 .i64 A (fM .i64 B 1000000))) (some (0,3)) (o5 (J4 1 (D5 .i64 A (fM .i64 B 1000000))) (l9 (gZ (D5 .i64 (gU .i64 (D5 .i64 (kN (D5 .i64 A (fM .i64 B 1000000)) 2) 2) 1000000) (kN B 1000000)) 1000000 C) λx=>o5 (F8 (x8 x.2 0)) (some (0,x.2)) (o5 (J4 (D5 .i64 (I4 .i64 (D5 .i64 A (fM .i64 B 1000000)) (D5 .i64 (kN (D5 .i64 A (fM .i64 B 1000000)) 2) 2)) x.1) (-1000000000000000)) (some (0,3)) (o5 (J4 1000000000000000 (D5 .i64 (I4 .i64 (D5 .i64 A (fM .i64 B 1000000)) (D5 .i64 (kN (D5 .i64 A (fM .i64 B 1000000)) 2) 2)) x.1)) (some (0,3)) (some (D5 .i64 (I4 .i64 (D5 .i64 A (fM .i64 B 1000000)) (D5 .i64 (kN (D5 .i64 A (fM .i64 B 1000000)) 2) 2)) x.1,0))))) (o5 (J4 (D5 .i64 A (fM .i64 B 1000000)) (-1)) (l9 (gZ (D5 .i64 (gU .i64 (I4 .i64 (kN (D5 .i64 A (fM .i64 B 1000000)) 2) 2) 1000000) (kN B 1000000)) 1000000 C) λx=>o5 (F8 (x8 x.2 0)) (some (0,x.2)) (o5 (J4 (D5 .i64 (I4 .i64 (D5 .i64 A (fM .i64 B 1000000)) (I4 .i64 (kN (D5 .i64 A (fM .i64 B 1000000)) 2) 2)) x.1) (-1000000000000000)) (some (0,3)) (o5 (J4 1000000000000000 (D5 .i64 (I4 .i64 (D5 .i64 A (fM .i64 B 1000000)) (I4 .i64 (kN (D5 .i64 A (fM .i64 B 1000000)) 2) 2)) x.1)) (some (0,3)) (some (D5 .i64 (I4 .i64 (D5 .i64 A (fM .i64 B 1000000)) (I4 .i64 (kN (D5 .i64 A (fM .i64 B 1000000)) 2) 2)) x.1,0))))) (l9 (gZ (D5 .i64 (gU .i64 (kN (D5 .i64 A (fM .i64 B 1000000)) 2) 1000000) (kN B 1000000)) 1000000 C) λx=>o5 (F8 (x8 x.2 0)) (some (0,x.2)) (o5 (J4 (D5 .i64 (I4 .i64 (D5 .i64 A (fM .i64 B 1000000)) (kN (D5 .i64 A (fM .i64 B 1000000)) 2)) x.1) (-1000000000000000)) (some (0,3)) (o5 (J4 1000000000000000 (D5 .i64 (I4 .i64 (D5 .i64 A (fM .i64 B 1000000)) (kN (D5 .i64 A (fM .i64 B 1000000)) 2)) x.1)) (some (0,3)) (some (D5 .i64 (I4 .i64 (D5 .i64 A (fM .i64 B 1000000)) (kN (D5 .i64 A (fM .i64 B 1000000)) 2)) x.1,0))))))))
def a0z:FQ:=⟨[G6,G6,G6],⟨[(.tmp 6,G6),(.tmp 7,G6)],[]⟩,mE 60 [(261,Ua)],F6⟩
def a2q:FSpec:=U8 a0z λx=>yT x.1 x.2.1 x.2.2
def yP(A:ni)(B:Int)(C:Int)(D:Int):Option J6:=l9 (o5 (J4 D 0) (some (.inr (0,1))) (o5 (J4 5 D) (some (.inr (0,1))) (some (.inl ())))) λo=>az o (λx=>l9 (o5 (F8 (Y2 (x8 A.2.1.1 3) (x8 A.2.1.2 0))) (some (.inr (0,8))) (o5 (F8 (Y2 (x8 A.2.2.1.1 4) (x8 A.2.2.1.2 0))) (some (.inr (0,8))) (some (.inl ())))) λo=>az o (λx=>l9 (o5 (J4 C (-1000000000000000)) (some (.inr (0,3))) (o5 (J4 1000000000000000 C) (some (.inr (0,3))) (some (.inl ())))) λo=>az o (λx=>l9 (aC (λ(x:N8)=>o5 (J4 x.2.2 (o9 A.2.2.2)) (l9 (J9 A.2.2.2 x.2.2) λb=>l9 (jI b.1 B) λd=>o5 (F8 d) (some (.nx (x.1,x.2.1,D5 .i64 x.2.2 1))) (o5 (aN (wo b.2.2.1 C) (oG b.2.1 0)) (some (.nx (x.1,x.2.1,D5 .i64 x.2.2 1))) (l9 (sQ (I4 .i64 (wo b.2.2.1 C) (oG b.2.1 0)) b.2.2.2) λc=>o5 (F8 c.2.2) (some (.rt (0,3))) (some (.nx (D5 .i64 x.1 c.1,D5 .i64 x.2.1 c.2.1,D5 .i64 x.2.2 1)))))) (some (.ex (x.1,x.2.1)))) (0,0,0)) λo=>az o (λ(y:J6)=>l9 (yT y.1 y.2 D) λx=>some x) λr=>some r) λr=>some r) λr=>some r) λr=>some r
def a0u:FQ:=⟨[tD y20,G6,G6,G6],⟨[(.tmp 8,G6),(.tmp 9,G6)],[]⟩,mE 90 [(203,Wl),(254,a2p),(255,a2q)],sN 1 (Y6 (jnR [(8,10),(19,25)] sgN F6) (Y6 (jnR [(8,10),(25,35)] sgN F6) (Y6 (jnR [(8,10),(35,41)] sgN F6) (sN 1 (Y6 (sN 1 (bU (lpR [(8,12),(13,19),(44,84)] ⟨[(10,G6),(11,G6),(44,G6)],[]⟩ 0 ⟨[(10,G6),(11,G6)],[]⟩ F6))) F6)))))⟩
def a2m:FSpec:=U8 a0u λx=>yP x.1 x.2.1 x.2.2.1 x.2.2.2
def je(A:Bool):Option N8:=o5 A (some (1,0,1)) (some (1,0,0))
def a0A:FQ:=⟨[di],cR 2 33 (tD y1),mE 6 [],F6⟩
def XJ:FSpec:=U8 a0A λx=>je x
def kH(A:Int):Option Bool:=o5 (aN 0 A) (some (aN A 109572)) (some false)
def ZM:FQ:=⟨[G6],tR 2 di,mE 9 [],F6⟩
def TC:FSpec:=U8 ZM λx=>kH x
def kG(A:Int):Option Int:=some (D5 .i64 (I4 .i64 (fM .i64 A 4) (fM .i64 A 100)) (fM .i64 A 400))
def E_:FQ:=⟨[G6],tR 2 G6,mE 11 [],F6⟩
def a1G:FSpec:=U8 E_ λx=>kG x
def gQ(A:Int):Option Int:=l9 (kG (I4 .i64 A 1)) λx=>l9 (kG 1899) λb=>some (I4 .i64 (D5 .i64 (gU .i64 (I4 .i64 A 1900) 365) x) b)
def n_:FQ:=⟨[G6],tR 2 G6,mE 12 [(170,a1G)],F6⟩
def Xy:FSpec:=U8 n_ λx=>gQ x
def tH(A:Int):Option Bool:=o5 (x8 (kN A 4) 0) (o5 (F8 (x8 (kN A 100) 0)) (some true) (some (x8 (kN A 400) 0))) (some false)
def F_:FQ:=⟨[G6],tR 2 di,mE 16 [],F6⟩
def a1H:FSpec:=U8 F_ λx=>tH x
def cu(A:Int)(B:Int):Option Int:=o5 (J4 B 1) (some 0) (o5 (J4 12 B) (some 0) (o5 (x8 B 2) (l9 (tH A) λx=>o5 x (some 29) (l9 (J9 [31,28,31,30,31,30,31,31,30,31,30,31] (I4 .i64 B 1)) λx=>some x)) (l9 (J9 [31,28,31,30,31,30,31,31,30,31,30,31] (I4 .i64 B 1)) λx=>some x)))
def o_:FQ:=⟨[G6,G6],tR 4 G6,mE 21 [(171,a1H)],F6⟩
def Wi:FSpec:=U8 o_ λx=>cu x.1 x.2
def kF(A:Int):Option N8:=l9 (kH A) λx=>o5 (F8 x) (some (0,0,0)) (l9 (Y5 (λ(x:Int)=>l9 (gQ (D5 .i64 x 1)) λb=>o5 (aN b A) (some (.inl (D5 .i64 x 1))) (some (.inr x))) (D5 .i64 1900 (fM .i64 A 366))) λy=>l9 (gQ y) λx=>l9 (aC (λ(x:J6)=>o5 (J4 x.2 12) (l9 (cu y (D5 .i64 x.2 1)) λb=>o5 (J4 x.1 b) (some (.rt (y,D5 .i64 x.2 1,D5 .i64 x.1 1))) (some (.nx (I4 .i64 x.1 b,D5 .i64 x.2 1)))) (some (.ex ()))) (I4 .i64 A x,0)) λo=>az o (λy=>some (0,0,0)) λr=>some r)
def ZN:FQ:=⟨[G6],⟨[(.tmp 2,G6),(.tmp 3,G6),(.tmp 4,G6)],[]⟩,mE 45 [(108,TC),(144,Xy),(145,Wi)],sN 3 (Y6 (bU (.loop [(5,6),(15,22)] ⟨[(5,G6)],[]⟩ 0 ⟨[(5,G6)],[]⟩ F6)) (sN 1 (Y6 (sN 1 (bU (lpR [(2,5),(6,9),(26,45)] ⟨[(6,G6),(26,G6)],[]⟩ 2 sgN F6))) F6)))⟩
def TE:FSpec:=U8 ZN λx=>kF x
def FM(A:Int)(B:N8):Option N8:=o5 (x8 A 10) (some (B.1,0,I4 .i64 0 B.2.2)) (o5 (x8 A 25) (l9 (je (x8 B.2.2 0)) λx=>some x) (l9 (kF B.2.2) λx=>o5 (x8 A 31) (some (2,0,x.1)) (some (2,0,x.2.1))))
def a0v:FQ:=⟨[G6,tD y1],cR 4 33 (tD y1),mE 36 [(256,XJ),(109,TE)],F6⟩
def a2n:FSpec:=U8 a0v λx=>FM x.1 x.2
def Bg(A:Int)(B:Int):Option J6:=l9 (mJ (wrap .u64 (oG A (I4 .i64 0 A))) (wrap .u64 (oG B (I4 .i64 0 B)))) λx=>o5 (F8 (x8 x.1 0)) (some (0,3)) (o5 (J4 1000000000000000 x.2) (some (0,3)) (o5 (F8 (qB (J4 A 0) (J4 B 0))) (some (I4 .i64 0 (wrap .i64 x.2),0)) (some (wrap .i64 x.2,0))))
def a0G:FQ:=⟨[G6,G6],⟨[(.tmp 4,G6),(.tmp 5,G6)],[]⟩,mE 38 [(71,s71)],F6⟩
def a2t:FSpec:=U8 a0G λx=>Bg x.1 x.2
def BA(A:Int)(B:Int)(C:Int)(D:Int):Option J6:=l9 (lY D) λx=>o5 (F8 x) (some (0,1)) (o5 (x8 C 0) (some (0,12)) (l9 (l9 (eU A 1000000000000000) λx=>o5 x (some (.inr (0,3))) (l9 (eU B 1000000000) λx=>o5 x (some (.inr (0,3))) (l9 (eU C 1000000000) λx=>o5 x (some (.inr (0,3))) (some (.inl ()))))) λo=>az o (λx=>l9 (iL A) λx=>l9 (iL B) λc=>l9 (mJ x c) λx=>l9 (iL C) λb=>o5 (aN b x.1) (some (0,3)) (l9 (jS x.1 x.2 b) λx=>o5 (J4 1000000000000000 x.1) (some (0,3)) (l9 (kQ x.1 x.2 b (F8 (qB (F8 (qB (J4 A 0) (J4 B 0))) (J4 C 0))) D) λx=>o5 (J4 1000000000000000 x) (some (0,3)) (l9 (wC x (F8 (qB (F8 (qB (J4 A 0) (J4 B 0))) (J4 C 0)))) λx=>some (x,0))))) λr=>some r))
def a0R:FQ:=⟨[G6,G6,G6,G6],⟨[(.tmp 8,G6),(.tmp 9,G6)],[]⟩,mE 72 [(269,Wq),(68,s68),(270,XL),(71,s71),(260,Wp),(271,XM),(272,XN)],sN 3 (Y6 (jnR [(8,10),(21,31)] sgN F6) F6)⟩
def a2A:FSpec:=U8 a0R λx=>BA x.1 x.2.1 x.2.2.1 x.2.2.2
def Gy(A:Int)(B:Int)(C:Int):Option J6:=l9 (BA A B 1000000 C) λx=>some x
def a0H:FQ:=⟨[G6,G6,G6],⟨[(.tmp 6,G6),(.tmp 7,G6)],[]⟩,mE 14 [(273,a2A)],F6⟩
def a2u:FSpec:=U8 a0H λx=>Gy x.1 x.2.1 x.2.2
def sD(A:Int):Option Bool:=o5 (aN 0 A) (some (aN A 5)) (some false)
def a0S:FQ:=⟨[G6],tR 2 di,mE 9 [],F6⟩
def XO:FSpec:=U8 a0S λx=>sD x
def mV(A:Int)(B:Int):Option Bool:=o5 (J4 B A) (some true) (some (J4 A (I4 .i64 0 B)))
def a0T:FQ:=⟨[G6,G6],tR 4 di,mE 14 [],F6⟩
def XP:FSpec:=U8 a0T λx=>mV x.1 x.2
def Ld(A:Int)(B:Int)(C:Int):Option J6:=l9 (sD C) λx=>o5 (F8 x) (some (0,1)) (l9 (mV A 1000000000) λx=>o5 x (some (0,3)) (l9 (mV B 1000000000) λx=>o5 x (some (0,3)) (l9 (gZ (gU .i64 A B) 1000000 C) λx=>o5 (F8 (x8 x.2 0)) (some (0,x.2)) (l9 (mV x.1 1000000000) λb=>o5 b (some (0,3)) (some (x.1,0))))))
def a0I:FQ:=⟨[G6,G6,G6],⟨[(.tmp 6,G6),(.tmp 7,G6)],[]⟩,mE 33 [(274,XO),(275,XP),(261,Ua)],F6⟩
def a2v:FSpec:=U8 a0I λx=>Ld x.1 x.2.1 x.2.2
def zZ(A:Int)(B:Int)(C:Int):Option J6:=l9 (lY C) λx=>o5 (F8 x) (some (0,1)) (o5 (J4 B 1) (some (0,12)) (l9 (eU A 1000000000000000) λx=>o5 x (some (0,3)) (o5 (J4 1000000000000000 B) (some (0,3)) (l9 (gZ A B C) λx=>o5 (F8 (x8 x.2 0)) (some (0,x.2)) (l9 (eU (gU .i64 x.1 B) 1000000000000000) λb=>o5 b (some (0,3)) (some (gU .i64 x.1 B,0)))))))
def a0J:FQ:=⟨[G6,G6,G6],⟨[(.tmp 6,G6),(.tmp 7,G6)],[]⟩,mE 38 [(269,Wq),(68,s68),(261,Ua)],F6⟩
def a2w:FSpec:=U8 a0J λx=>zZ x.1 x.2.1 x.2.2
def Ad(A:Int)(B:Int)(C:Int)(D:Bool)(E:Int):Option Bool:=o5 (x8 B 0) (some false) (o5 (x8 E 0) (some D) (o5 (x8 E 1) (some (F8 D)) (o5 (x8 E 3) (some true) (o5 (x8 E 4) (some (aN (I4 .u64 C B) B)) (o5 (x8 E 5) (o5 (J4 (I4 .u64 C B) B) (some true) (o5 (x8 B (I4 .u64 C B)) (some (x8 (kN A 2) 1)) (some false))) (some false))))))
def a0U:FQ:=⟨[(false,(dT (.int .u64))),(false,(dT (.int .u64))),(false,(dT (.int .u64))),di,G6],tR 10 di,mE 49 [],F6⟩
def a2B:FSpec:=U8 a0U λx=>Ad x.1 x.2.1 x.2.2.1 x.2.2.2.1 x.2.2.2.2
def yx(A:Int)(B:Int)(C:Int):Option J6:=l9 (sD C) λx=>o5 (F8 x) (some (0,1)) (o5 (x8 B 0) (some (0,12)) (l9 (mV A 1000000000000000) λx=>o5 x (some (0,3)) (l9 (mV B 1000000000000000) λx=>o5 x (some (0,3)) (l9 (mJ (wrap .u64 (oG A (I4 .i64 0 A))) 1000000) λx=>o5 (aN (wrap .u64 (oG B (I4 .i64 0 B))) x.1) (some (0,3)) (l9 (jS x.1 x.2 (wrap .u64 (oG B (I4 .i64 0 B)))) λx=>o5 (J4 1000000000 x.1) (some (0,3)) (l9 (Ad x.1 x.2 (wrap .u64 (oG B (I4 .i64 0 B))) (F8 (qB (J4 A 0) (J4 B 0))) C) λb=>o5 b (o5 (J4 1000000000 (D5 .i64 (wrap .i64 x.1) 1)) (some (0,3)) (o5 (F8 (qB (J4 A 0) (J4 B 0))) (some (I4 .i64 0 (D5 .i64 (wrap .i64 x.1) 1),0)) (some (D5 .i64 (wrap .i64 x.1) 1,0)))) (o5 (J4 1000000000 (wrap .i64 x.1)) (some (0,3)) (o5 (F8 (qB (J4 A 0) (J4 B 0))) (some (I4 .i64 0 (wrap .i64 x.1),0)) (some (wrap .i64 x.1,0))))))))))
def a0K:FQ:=⟨[G6,G6,G6],⟨[(.tmp 6,G6),(.tmp 7,G6)],[]⟩,mE 73 [(274,XO),(275,XP),(71,s71),(260,Wp),(276,a2B)],F6⟩
def a2x:FSpec:=U8 a0K λx=>yx x.1 x.2.1 x.2.2
def DU(A:J6)(B:N8)(C:N8):Option (N8×Int):=o5 (x8 A.1 13) (l9 (Bg B.2.2 C.2.2) λx=>some ((B.1,0,x.1),x.2)) (l9 (o5 (x8 A.1 14) (some (x8 B.1 3)) (some false)) λx=>o5 x (l9 (Gy B.2.2 C.2.2 A.2) λx=>some ((B.1,0,x.1),x.2)) (o5 (x8 A.1 14) (l9 (Ld B.2.2 C.2.2 A.2) λx=>some ((B.1,0,x.1),x.2)) (o5 (x8 A.1 16) (l9 (zZ B.2.2 C.2.2 A.2) λx=>some ((B.1,0,x.1),x.2)) (o5 (x8 C.1 2) (l9 (gZ B.2.2 C.2.2 A.2) λx=>some ((B.1,0,x.1),x.2)) (l9 (yx B.2.2 C.2.2 A.2) λx=>some ((4,0,x.1),x.2))))))
def a0B:FQ:=⟨[tD y0,tD y1,tD y1],⟨[(.cell 6 33,tD y1),(.tmp 7,G6)],[]⟩,mE 105 [(262,a2t),(263,a2u),(264,a2v),(265,a2w),(261,Ua),(266,a2x)],sN 2 (Y6 (bU (sN 1 (.cond F6 (Y6 (.join [(38,47)] ⟨[(38,di)],[]⟩ F6) F6)))) F6)⟩
def a2r:FSpec:=U8 a0B λx=>DU x.1 x.2.1 x.2.2
def Ba(A:Int)(B:Int)(C:Int):Option J6:=l9 (o5 (J4 A 1900) (some (.inr (0,3))) (o5 (J4 2199 A) (some (.inr (0,3))) (o5 (J4 B 1) (some (.inr (0,3))) (o5 (J4 12 B) (some (.inr (0,3))) (o5 (J4 C 1) (some (.inr (0,3))) (l9 (cu A B) λx=>o5 (J4 x C) (some (.inr (0,3))) (some (.inl ())))))))) λo=>az o (λx=>l9 (gQ A) λx=>l9 (Y5 (λ(x:J6)=>o5 (J4 x.2 (I4 .i64 B 1)) (l9 (cu A (D5 .i64 x.2 1)) λb=>some (.inl (D5 .i64 x.1 b,D5 .i64 x.2 1))) (some (.inr x.1))) (x,0)) λy=>some (I4 .i64 (D5 .i64 y C) 1,0)) λr=>some r
def a0L:FQ:=⟨[G6,G6,G6],⟨[(.tmp 6,G6),(.tmp 7,G6)],[]⟩,mE 53 [(145,Wi),(144,Xy)],sN 1 (Y6 (jnR [(6,8),(10,35)] sgN F6) (sN 1 (Y6 (sN 1 (bU (.loop [(8,10),(39,49)] ⟨[(8,G6),(39,G6)],[]⟩ 0 ⟨[(8,G6)],[]⟩ F6))) F6)))⟩
def a2y:FSpec:=U8 a0L λx=>Ba x.1 x.2.1 x.2.2
def rf(A:Int)(B:Int):Option J6:=l9 (l9 (kH A) λx=>o5 (F8 x) (some (.inr (0,3))) (o5 (J4 B (-3600)) (some (.inr (0,3))) (o5 (J4 3600 B) (some (.inr (0,3))) (some (.inl ()))))) λo=>az o (λx=>l9 (kF A) λx=>o5 (J4 (D5 .i64 (I4 .i64 (D5 .i64 (gU .i64 (I4 .i64 x.1 1900) 12) x.2.1) 1) B) 0) (some (0,3)) (o5 (J4 3599 (D5 .i64 (I4 .i64 (D5 .i64 (gU .i64 (I4 .i64 x.1 1900) 12) x.2.1) 1) B)) (some (0,3)) (l9 (cu (D5 .i64 1900 (fM .i64 (D5 .i64 (I4 .i64 (D5 .i64 (gU .i64 (I4 .i64 x.1 1900) 12) x.2.1) 1) B) 12)) (D5 .i64 (kN (D5 .i64 (I4 .i64 (D5 .i64 (gU .i64 (I4 .i64 x.1 1900) 12) x.2.1) 1) B) 12) 1)) λb=>l9 (Ba (D5 .i64 1900 (fM .i64 (D5 .i64 (I4 .i64 (D5 .i64 (gU .i64 (I4 .i64 x.1 1900) 12) x.2.1) 1) B) 12)) (D5 .i64 (kN (D5 .i64 (I4 .i64 (D5 .i64 (gU .i64 (I4 .i64 x.1 1900) 12) x.2.1) 1) B) 12) 1) (wo x.2.2 b)) λx=>some x))) λr=>some r
def a0C:FQ:=⟨[G6,G6],⟨[(.tmp 4,G6),(.tmp 5,G6)],[]⟩,mE 57 [(108,TC),(109,TE),(145,Wi),(267,a2y)],sN 1 (Y6 (jnR [(4,6),(10,21)] sgN F6) F6)⟩
def XK:FSpec:=U8 a0C λx=>rf x.1 x.2
def tJ(A:Int)(B:Int):Option Int:=l9 (kH A) λx=>o5 (F8 x) (some 0) (l9 (kH B) λx=>o5 (F8 x) (some 0) (o5 (J4 B A) (some 0) (l9 (kF A) λx=>l9 (kF B) λb=>l9 (rf A (gU .i64 12 (I4 .i64 b.1 x.1))) λc=>o5 (F8 (x8 c.2 0)) (some (oG (I4 .i64 (I4 .i64 b.1 x.1) 1) 0)) (o5 (J4 B c.1) (some (oG (I4 .i64 (I4 .i64 b.1 x.1) 1) 0)) (some (oG (I4 .i64 b.1 x.1) 0))))))
def a0D:FQ:=⟨[G6,G6],tR 4 G6,mE 60 [(108,TC),(109,TE),(258,XK)],F6⟩
def a2s:FSpec:=U8 a0D λx=>tJ x.1 x.2
def DR(A:J6)(B:N8)(C:N8):Option (N8×Int):=l9 (l9 (o5 (x8 A.1 11) (some (x8 A.1 11)) (some (x8 A.1 27))) λx=>o5 x (some (.inr ((B.1,0,D5 .i64 B.2.2 C.2.2),0))) (o5 (x8 A.1 12) (some (.inr ((B.1,0,I4 .i64 B.2.2 C.2.2),0))) (l9 (o5 (x8 A.1 13) (some (x8 A.1 13)) (o5 (x8 A.1 14) (some (x8 A.1 14)) (o5 (x8 A.1 15) (some (x8 A.1 15)) (some (x8 A.1 16))))) λx=>o5 x (l9 (DU A B C) λx=>some (.inr x)) (l9 (o5 (x8 A.1 17) (some (x8 A.1 17)) (some (x8 A.1 18))) λx=>o5 x (o5 (qB (x8 A.1 17) (J4 C.2.2 B.2.2)) (some (.inr (C,0))) (some (.inr (B,0)))) (o5 (x8 A.1 19) (l9 (je (x8 B.2.2 C.2.2)) λx=>some (.inr (x,0))) (o5 (x8 A.1 20) (l9 (je (F8 (x8 B.2.2 C.2.2))) λx=>some (.inr (x,0))) (o5 (x8 A.1 21) (l9 (je (J4 B.2.2 C.2.2)) λx=>some (.inr (x,0))) (o5 (x8 A.1 22) (l9 (je (aN B.2.2 C.2.2)) λx=>some (.inr (x,0))) (o5 (x8 A.1 23) (o5 (x8 B.2.2 1) (l9 (je (x8 C.2.2 1)) λx=>some (.inr (x,0))) (l9 (je false) λx=>some (.inr (x,0)))) (o5 (x8 A.1 24) (o5 (x8 B.2.2 1) (l9 (je true) λx=>some (.inr (x,0))) (l9 (je (x8 C.2.2 1)) λx=>some (.inr (x,0)))) (o5 (x8 A.1 28) (l9 (rf B.2.2 C.2.2) λx=>some (.inr ((5,0,x.1),x.2))) (o5 (x8 A.1 29) (some (.inr ((2,0,I4 .i64 C.2.2 B.2.2),0))) (some (.inl (0,0,0))))))))))))))) λo=>az o (λ(x:N8)=>l9 (tJ B.2.2 C.2.2) λx=>some ((2,0,x),0)) λr=>some r
def a0w:FQ:=⟨[tD y0,tD y1,tD y1],⟨[(.cell 6 33,tD y1),(.tmp 7,G6)],[]⟩,mE 139 [(257,a2r),(256,XJ),(258,XK),(259,a2s)],sN 1 (Y6 (jnR [(6,133),(4000384,4000385)] ⟨[(6,(false,(.box (dT y1))))],[]⟩ (sN 1 (bU (Y6 (.join [(12,15)] ⟨[(12,di)],[]⟩ F6) (.cond F6 (sN 1 (.cond F6 (Y6 (.join [(33,38)] ⟨[(33,di)],[]⟩ F6) (.cond F6 (Y6 (.join [(44,47)] ⟨[(44,di)],[]⟩ F6) F6)))))))))) F6)⟩
def a2o:FSpec:=U8 a0w λx=>DR x.1 x.2.1 x.2.2
def Bf(A:J6)(B:List N8)(C:AX):Option (N8×Int):=l9 (l9 (o5 (x8 A.1 1) (some (x8 A.1 1)) (o5 (x8 A.1 2) (some (x8 A.1 2)) (o5 (x8 A.1 3) (some (x8 A.1 3)) (o5 (x8 A.1 4) (some (x8 A.1 4)) (some (x8 A.1 5)))))) λx=>o5 x (some (.inr ((A.1,0,A.2),0))) (o5 (x8 A.1 6) (some (.inr ((6,fM .i64 A.2 16,kN A.2 16),0))) (o5 (x8 A.1 7) (l9 (J9 C.2.1 A.2) λx=>some (.inr (x,0))) (o5 (x8 A.1 8) (l9 (J9 C.2.2.1 A.2) λx=>some (.inr (x,0))) (o5 (x8 A.1 9) (some (.inr ((5,0,C.1),0))) (o5 (x8 A.1 35) (some (.inr ((2,0,o9 C.2.2.2.1),0))) (l9 (o5 (x8 A.1 36) (some (x8 A.1 36)) (o5 (x8 A.1 37) (some (x8 A.1 37)) (o5 (x8 A.1 38) (some (x8 A.1 38)) (some (x8 A.1 39))))) λx=>o5 x (l9 (uU A C) λx=>some (.inr x)) (o5 (x8 A.1 33) (l9 (J9 C.2.2.2.2.2 A.2) λx=>l9 (J9 B 0) λb=>l9 (Cb x C.1 b.2.2) λc=>o5 (F8 c.2) (some (.inr ((0,0,0),6))) (l9 (J9 x.2.2.2 c.1) λd=>some (.inr ((x.2.2.1.1,x.2.2.1.2,d.2.2.2),0)))) (o5 (x8 A.1 34) (l9 (J9 C.2.2.2.2.2 (fM .i64 A.2 8)) λx=>l9 (J9 B 0) λb=>l9 (yP x C.1 b.2.2 (kN A.2 8)) λx=>some (.inr ((3,0,x.1),x.2))) (some (.inl (0,0,0)))))))))))) λo=>az o (λ(x:N8)=>o5 (x8 (o9 B) 1) (l9 (J9 B 0) λx=>l9 (FM A.1 x) λx=>some (x,0)) (o5 (x8 (o9 B) 2) (l9 (J9 B 0) λx=>l9 (J9 B 1) λb=>l9 (DR A x b) λx=>some x) (l9 (J9 B 0) λx=>o5 (x8 x.2.2 1) (l9 (J9 B 1) λx=>some (x,0)) (l9 (J9 B 2) λx=>some (x,0))))) λr=>some r
def a0i:FQ:=⟨[tD y0,uD y40,tD y61],⟨[(.cell 6 33,tD y1),(.tmp 7,G6)],[]⟩,mE 165 [(245,a2k),(246,a2l),(247,a2m),(248,a2n),(249,a2o)],sN 1 (Y6 (jnR [(6,132),(4000384,4000385)] ⟨[(6,(false,(.box (dT y1))))],[]⟩ (sN 1 (bU (Y6 (.join [(15,21)] ⟨[(15,di)],[]⟩ F6) (.cond F6 (sN 1 (.cond F6 (sN 1 (.cond F6 (sN 1 (.cond F6 (sN 1 (.cond F6 (sN 1 (.cond F6 (Y6 (.join [(62,67)] ⟨[(62,di)],[]⟩ F6) F6)))))))))))))))) F6)⟩
def a2e:FSpec:=U8 a0i λx=>Bf x.1 x.2.1 x.2.2
def FK(A:J6)(B:List N8)(C:AX):Option (N8×Int):=l9 (l9 (wP A) λx=>o5 (F8 x) (some (.inr ((0,0,0),2))) (l9 (mF A.1) λx=>o5 (F8 (x8 (o9 B) x)) (some (.inr ((0,0,0),2))) (some (.inl (0,0,0))))) λo=>az o (λ(x:N8)=>l9 (DT A C) λx=>o5 (F8 x) (some ((0,0,0),6)) (l9 (tX B) λx=>o5 (F8 x) (some ((0,0,0),8)) (l9 (Be A B C) λx=>o5 (F8 x) (some ((0,0,0),8)) (l9 (Bf A B C) λx=>o5 (F8 (x8 x.2 0)) (some ((0,0,0),x.2)) (l9 (eX x.1) λb=>o5 (F8 b) (some ((0,0,0),3)) (some (x.1,0))))))) λr=>some r
def V_:FQ:=⟨[tD y0,uD y40,tD y61],⟨[(.cell 6 33,tD y1),(.tmp 7,G6)],[]⟩,mE 54 [(226,a2a),(197,Qy),(227,a2b),(228,a2c),(229,a2d),(230,a2e),(231,NW)],sN 1 (Y6 (jnR [(6,8),(10,22),(4000384,4000385)] ⟨[(6,(false,(.box (dT y1))))],[]⟩ F6) F6)⟩
def a1T:FSpec:=U8 V_ λx=>FK x.1 x.2.1 x.2.2
def Si:List MG:=[(true,(.dat y77)),G6]
def IX:List MG:=[(true,(.dat y77)),G6]
def RZ:List MG:=[(true,(.dat y77)),(true,(.dat y0)),(false,(.dat y45))]
def a1a:Ret:=⟨[(.cell 4 33,(true,(.dat y1))),(.tmp 5,G6)],[]⟩
def a3O (r225:M.den (.dat y77)->M.den diM->Option (ai ([(true,(.dat y1)),G6]++[]))) (r183:M.den (.dat y77)->M.den diM->Option (ai ([(true,(.dat y1)),G6]++[]))) (r208:M.den (.dat y77)->M.den (.dat y0)->M.den (.dat y45)->Option (ai ([(true,(.dat y1)),G6]++[]))):Env:=⟨28,eqs,tt,gl,[(183,⟨IX,[(true,(.dat y1)),G6],[],λx=>r183 x.1 x.2⟩),(231,NW)],[],[],[],[],[]⟩
def Zy:Ann:=.leaf
def qC(r225:Y9->Int->Option (N8×Int))(r183:Y9->Int->Option (N8×Int))(r208:Y9->J6->List Int->Option (N8×Int))(A:Y9)(B:Int):Option (N8×Int):=l9 (r183 A B) λx=>o5 (F8 (x8 x.2 0)) (some ((0,0,0),x.2)) (o5 (F8 (x8 x.1.1 1)) (some ((0,0,0),8)) (l9 (eX x.1) λb=>o5 (F8 b) (some ((0,0,0),8)) (some (x.1,0))))
def WQ:Ret:=⟨[(.cell 4 33,(true,(.dat y1))),(.tmp 5,G6)],[]⟩
def a3M (r225:M.den (.dat y77)->M.den diM->Option (ai ([(true,(.dat y1)),G6]++[]))) (r183:M.den (.dat y77)->M.den diM->Option (ai ([(true,(.dat y1)),G6]++[]))) (r208:M.den (.dat y77)->M.den (.dat y0)->M.den (.dat y45)->Option (ai ([(true,(.dat y1)),G6]++[]))):Env:=⟨65,eqs,tt,gl,[(207,a1S),(208,⟨RZ,[(true,(.dat y1)),G6],[],λx=>r208 x.1 x.2.1 x.2.2⟩),(183,⟨IX,[(true,(.dat y1)),G6],[],λx=>r183 x.1 x.2⟩),(209,a1T)],[],[],[],[],[]⟩
def Zw:Ann:=.seq F6 (.seq F6 (.seq F6 (.seq (.joinR [(4,6),(21,33),(4000256,4000257)] ⟨[(4,(false,(.box (.dat y1))))],[]⟩ F6) (.seq F6 (.seq (.seq F6 (.blk (.loopR [(4,6),(8,13),(38,58),(12000000,12000001),(37002240,37002241)] ⟨[(4,(false,(.box (.dat y1)))),(8,(false,(.own y1))),(38,G6)],[]⟩ 1 ⟨[(4,(false,(.box (.dat y1)))),(8,(false,(.own y1)))],[]⟩ F6))) F6)))))
def uG(r225:Y9->Int->Option (N8×Int))(r183:Y9->Int->Option (N8×Int))(r208:Y9->J6->List Int->Option (N8×Int))(A:Y9)(B:Int):Option (N8×Int):=l9 (J9 A.1 B) λx=>l9 (mO A B) λb=>l9 (o5 (x8 x.1 23) (o5 (x8 x.1 23) (l9 (r208 A x b) λx=>some (.inr x)) (some (.inl (0,0,0)))) (o5 (x8 x.1 24) (o5 (x8 x.1 24) (l9 (r208 A x b) λx=>some (.inr x)) (some (.inl (0,0,0)))) (o5 (x8 x.1 26) (l9 (r208 A x b) λx=>some (.inr x)) (some (.inl (0,0,0)))))) λo=>az o (λ(d:N8)=>l9 (qg (o9 b) (0,0,0)) λf=>l9 (aC (λ(x:N8×List N8×Int)=>o5 (J4 x.2.2 (o9 b)) (l9 (J9 b x.2.2) λi=>l9 (ak b (ae x.2.2)) λg=>l9 (r183 A g) λc=>o5 (F8 (x8 c.2 0)) (some (.rt ((0,0,0),c.2))) (l9 (J9 x.2.1 x.2.2) λj=>l9 (ak x.2.1 (ae x.2.2)) λk=>some (.nx (x.1,bC x.2.1 (ae x.2.2) c.1,D5 .i64 x.2.2 1)))) (some (.ex (x.1,x.2.1)))) (d,f,0)) λo=>az o (λ(y:N8×List N8)=>l9 (FK x y.2 A.2.2) λx=>some x) λr=>some r) λr=>some r
def a0Z:Ret:=⟨[(.cell 6 33,(true,(.dat y1))),(.tmp 7,G6)],[]⟩
def a3N (r225:M.den (.dat y77)->M.den diM->Option (ai ([(true,(.dat y1)),G6]++[]))) (r183:M.den (.dat y77)->M.den diM->Option (ai ([(true,(.dat y1)),G6]++[]))) (r208:M.den (.dat y77)->M.den (.dat y0)->M.den (.dat y45)->Option (ai ([(true,(.dat y1)),G6]++[]))):Env:=⟨69,eqs,tt,gl,[(225,⟨Si,[(true,(.dat y1)),G6],[],λx=>r225 x.1 x.2⟩),(183,⟨IX,[(true,(.dat y1)),G6],[],λx=>r183 x.1 x.2⟩)],[],[],[],[],[]⟩
def Zx:Ann:=.seq F6 (.seq F6 (.seq F6 (.seq F6 (.seq (.blk (.seq (.join [(26,35)] ⟨[(26,di)],[]⟩ F6) F6)) F6))))
def uF(r225:Y9->Int->Option (N8×Int))(r183:Y9->Int->Option (N8×Int))(r208:Y9->J6->List Int->Option (N8×Int))(A:Y9)(B:J6)(C:List Int):Option (N8×Int):=o5 (F8 (x8 B.2 0)) (some ((0,0,0),2)) (l9 (J9 C 0) λx=>l9 (r225 A x) λx=>o5 (F8 (x8 x.2 0)) (some ((0,0,0),x.2)) (l9 (o5 (x8 B.1 26) (some (x8 x.1.2.2 1)) (some false)) λb=>o5 b (l9 (J9 C 1) λx=>l9 (r183 A x) λx=>some x) (o5 (x8 B.1 26) (l9 (J9 C 2) λx=>l9 (r183 A x) λx=>some x) (o5 (qB (x8 B.1 23) (x8 x.1.2.2 0)) (some (x.1,0)) (l9 (J9 C 1) λx=>l9 (r225 A x) λx=>some x)))))
def E8:Nat->(M.den (.dat y77)->M.den diM->Option (ai ([(true,(.dat y1)),G6]++[])))×(M.den (.dat y77)->M.den diM->Option (ai ([(true,(.dat y1)),G6]++[])))×(M.den (.dat y77)->M.den (.dat y0)->M.den (.dat y45)->Option (ai ([(true,(.dat y1)),G6]++[])))|0=>(λa0 a1=>none,λa0 a1=>none,λa0 a1 a2=>none)|n+1=>(λa0 a1=>qC (E8 n).1 (E8 n).2.1 (E8 n).2.2 a0 a1,λa0 a1=>uG (E8 n).1 (E8 n).2.1 (E8 n).2.2 a0 a1,λa0 a1 a2=>uF (E8 n).1 (E8 n).2.1 (E8 n).2.2 a0 a1 a2)
def qw:M.den (.dat y77)->M.den diM->Option (ai ([(true,(.dat y1)),G6]++[])):=λa0 a1=>(E8 mZ).2.1 a0 a1
def a1O:FSpec:=mkS IX WQ λx=>qw x.1 x.2
def CS(A:List J6)(B:AX):Option (N8×Int):=l9 (DW A) λx=>o5 (F8 (x8 x.2 0)) (some ((0,0,0),x.2)) (l9 (qw (A,x.1,B) (I4 .i64 (o9 A) 1)) λx=>some x)
def D_:FQ:=⟨[uD y24,tD y61],⟨[(.cell 4 33,tD y1),(.tmp 5,G6)],[]⟩,mE 27 [(182,a1N),(183,a1O)],F6⟩
def XA:FSpec:=U8 D_ λx=>CS x.1 x.2
def uo(A:List Int)(B:List Int):Option Int:=o5 (F8 (x8 (o9 A) (o9 B))) (some 2) (o5 (J4 8 (o9 A)) (some 4) (l9 (aC (λ(x:Int)=>o5 (J4 x (o9 A)) (l9 (J9 A x) λb=>o5 (J4 b (-1)) (some (.rt 9)) (o5 (aN x b) (some (.rt 9)) (l9 (J9 B x) λc=>o5 (J4 c 0) (some (.rt 3)) (l9 (J9 B x) λd=>o5 (J4 9 d) (some (.rt 3)) (some (.nx (D5 .i64 x 1))))))) (some (.ex ()))) 0) λo=>az o (λy=>some 0) λr=>some r))
def R_:FQ:=⟨[uD y45,uD y45],tR 4 G6,mE 42 [],sN 3 (Y6 (sN 1 (bU (lpR [(4,7),(17,42)] ⟨[(17,G6)],[]⟩ 0 sgN F6))) F6)⟩
def a1Q:FSpec:=U8 R_ λx=>uo x.1 x.2
def um(A:List Int)(B:Int):Option (List Int):=l9 (Y5 (λ(x:List Int×Int)=>o5 (J4 x.2 (o9 A)) (l9 (J9 A x.2) λb=>o5 (x8 b B) (l9 (bQ x.1 [x.2]) λc=>some (.inl (c,D5 .i64 x.2 1))) (some (.inl (x.1,D5 .i64 x.2 1)))) (some (.inr x.1))) ([],0)) λy=>some y
def a0m:FQ:=⟨[uD y45,G6],tR 4 uoM,mE 24 [],sN 2 (Y6 (sN 1 (bU (.loop [(5,8),(10,23)] ⟨[(5,uoM),(10,G6)],[]⟩ 0 ⟨[(5,uoM)],[]⟩ F6))) F6)⟩
def a2g:FSpec:=U8 a0m λx=>um x.1 x.2
def sJ(A:jm)(B:Int):Option (List Int):=l9 (um A.1 B) λx=>l9 (Y5 (λ(b:List Int×Int)=>o5 (J4 b.2 (o9 x)) (l9 (J9 x b.2) λk=>l9 (ak x (ae b.2)) λx=>l9 (J9 A.2.2 x) λg=>o5 (x8 g (-1)) (some (.inl (b.1,D5 .i64 b.2 1))) (l9 (o5 (J4 0 (o9 b.1)) (l9 (J9 A.2.1 x) λx=>l9 (J9 b.1 0) λc=>l9 (ak b.1 (ae 0)) λd=>l9 (J9 A.2.1 d) λf=>o5 (J4 f x) (o5 (pR 0 0 (o9 b.1)) (some (mP b.1 (ae 0) (ae 0))) none) (some b.1)) (some b.1)) λc=>o5 (x8 (o9 c) 0) (l9 (bQ c [x]) λx=>some (.inl (x,D5 .i64 b.2 1))) (l9 (J9 A.2.1 x) λd=>l9 (J9 c 0) λf=>l9 (ak c (ae 0)) λi=>l9 (J9 A.2.1 i) λj=>o5 (x8 d j) (l9 (bQ c [x]) λx=>some (.inl (x,D5 .i64 b.2 1))) (some (.inl (c,D5 .i64 b.2 1)))))) (some (.inr b.1))) ([],0)) λy=>some y
def a0d:FQ:=⟨[tD y79,G6],tR 4 uoM,mE 67 [(239,a2g)],sN 2 (Y6 (sN 1 (bU (.loop [(5,6),(7,8),(13,66)] ⟨[(5,uoM),(13,G6)],[]⟩ 0 ⟨[(5,uoM)],[]⟩ (sN 2 (Y6 (bU (sN 2 (Y6 (.join [(5,6),(23,43),(14000000,14000001)] ⟨[(5,uoM)],[]⟩ F6) F6))) F6))))) F6)⟩
def a1Z:FSpec:=U8 a0d λx=>sJ x.1 x.2
def jh(A:jm)(B:Int):Option Int:=l9 (sJ A B) λx=>o5 (x8 (o9 x) 0) (some (-1)) (o5 (x8 (o9 x) 1) (l9 (J9 x 0) λb=>l9 (ak x (ae 0)) λx=>l9 (J9 A.2.2 x) λx=>some x) (some (-2)))
def T_:FQ:=⟨[tD y79,G6],tR 4 G6,mE 22 [(224,a1Z)],F6⟩
def XD:FSpec:=U8 T_ λx=>jh x.1 x.2
def uq(A:List Int)(B:List Int)(C:List Bool):Option (List Int):=l9 (qg (o9 A) 0) λx=>l9 (Y5 (λ(x:jm×Int)=>o5 (aN 0 x.2) (l9 (jh x.1 x.2) λb=>l9 (J9 x.1.2.2 x.2) λf=>l9 (ak x.1.2.2 (ae x.2)) λg=>l9 (J9 (bC x.1.2.2 (ae x.2) b) x.2) λi=>l9 (ak (bC x.1.2.2 (ae x.2) b) (ae x.2)) λc=>o5 (x8 c (-1)) (l9 (J9 C x.2) λd=>o5 d (l9 (J9 (bC x.1.2.2 (ae x.2) b) x.2) λj=>l9 (ak (bC x.1.2.2 (ae x.2) b) (ae x.2)) λk=>some (.inl ((x.1.1,x.1.2.1,bC (bC x.1.2.2 (ae x.2) b) (ae x.2) x.2),I4 .i64 x.2 1))) (some (.inl ((x.1.1,x.1.2.1,bC x.1.2.2 (ae x.2) b),I4 .i64 x.2 1)))) (some (.inl ((x.1.1,x.1.2.1,bC x.1.2.2 (ae x.2) b),I4 .i64 x.2 1)))) (some (.inr x.1))) ((A,B,x),I4 .i64 (o9 A) 1)) λy=>some y.2.2
def S_:FQ:=⟨[uD y45,uD y45,(uD (.sl .bool))],tR 6 uoM,mE 48 [(206,XD)],sN 2 (Y6 (sN 1 (bU (.loop [(7,9),(18,46),(7000448,7000449),(7000832,7000833)] ⟨[(7,(false,(.box (pA (dT y45) (pA (dT y45) oiM))))),(8,G6)],[]⟩ 0 ⟨[(7,(false,(.box (pA (dT y45) (pA (dT y45) oiM)))))],[]⟩ F6))) F6)⟩
def a1R:FSpec:=U8 S_ λx=>uq x.1 x.2.1 x.2.2
def xn(A:List Int)(B:List Int)(C:List Bool):Option Int:=l9 (uo A B) λx=>o5 (F8 (x8 x 0)) (some (-1)) (o5 (F8 (x8 (o9 C) (o9 A))) (some (-1)) (l9 (uq A B C) λx=>l9 (jh (A,B,x) (-1)) λx=>some x))
def K_:FQ:=⟨[uD y45,uD y45,(uD (.sl .bool))],tR 6 G6,mE 26 [(204,a1Q),(205,a1R),(206,XD)],F6⟩
def a1M:FSpec:=U8 K_ λx=>xn x.1 x.2.1 x.2.2
def wX(A:gJ)(B:AX)(C:Int)(D:Int):Option (Int×aI):=l9 (uS A D B.1) λx=>l9 (qg (o9 x.1) false) λd=>l9 (aC (λ(b:aI×List Bool×Int)=>o5 (J4 b.2.2 (o9 x.1)) (l9 (J9 x.1 b.2.2) λf=>l9 (ak x.1 (ae b.2.2)) λx=>l9 (J9 A.2.2.2.2 x) λg=>o5 (x8 (o9 g.2.2.2.2.2.1) 0) (l9 (J9 b.2.1 b.2.2) λx=>l9 (ak b.2.1 (ae b.2.2)) λx=>some (.nx (b.1,bC b.2.1 (ae b.2.2) true,D5 .i64 b.2.2 1))) (l9 (J9 A.2.2.2.2 x) λi=>l9 (CS i.2.2.2.2.2.1 B) λc=>o5 (F8 (x8 c.2 0)) (some (.rt (0,c.2,C,D,x))) (l9 (J9 b.2.1 b.2.2) λx=>l9 (ak b.2.1 (ae b.2.2)) λx=>some (.nx (b.1,bC b.2.1 (ae b.2.2) (x8 c.1.2.2 1),D5 .i64 b.2.2 1))))) (some (.ex (b.1,b.2.1)))) ((0,0,0,0),d,0)) λo=>az o (λ(y:aI×List Bool)=>l9 (xn x.2.1 x.2.2 y.2) λb=>o5 (J4 b 0) (some (b,0,0,0,0)) (l9 (J9 x.1 b) λf=>l9 (ak x.1 (ae b)) λx=>some (x,0,0,0,0))) λr=>some r
def C_:FQ:=⟨[tD y36,tD y61,G6,G6],⟨[(.tmp 8,G6),(.cell 9 137,tD y10)],[]⟩,mE 87 [(180,a1L),(165,XA),(181,a1M)],sN 3 (Y6 (sN 1 (bU (lpR [(8,10),(13,18),(33,74),(4000576,4000577),(10001920,10001921)] ⟨[(9,(false,(.box (dT y10)))),(13,(uO .bool)),(33,G6)],[]⟩ 0 ⟨[(9,(false,(.box (dT y10)))),(13,(uO .bool))],[]⟩ F6))) F6)⟩
def a1F:FSpec:=U8 C_ λx=>wX x.1 x.2.1 x.2.2.1 x.2.2.2
def kM(A:gJ)(B:AX)(C:Int)(D:List Bool):Option (List Int×aI×AX):=l9 (qg (o9 A.2.2.2.1) (0,0,0)) λx=>l9 (qg (o9 A.2.2.2.1) 0) λg=>l9 (pG A) λd=>l9 (aC (λ(x:AX×aI×List Int×Int)=>o5 (J4 x.2.2.2 (o9 d.1)) (l9 (J9 d.1 x.2.2.2) λq=>l9 (ak d.1 (ae x.2.2.2)) λb=>l9 (J9 D b) λi=>o5 (F8 i) (some (.nx (x.1,x.2.1,x.2.2.1,D5 .i64 x.2.2.2 1))) (l9 (wX A x.1 C b) λc=>o5 (F8 (x8 c.2.1 0)) (some (.rt ([],c.2,x.1))) (o5 (x8 c.1 (-1)) (some (.rt ([],(10,C,b,-1),x.1))) (o5 (x8 c.1 (-2)) (some (.rt ([],(11,C,b,-1),x.1))) (l9 (J9 A.2.2.2.2 c.1) λj=>l9 (CS j.2.2.2.2.2.2.1 x.1) λf=>o5 (F8 (x8 f.2 0)) (some (.rt ([],(f.2,C,b,c.1),x.1))) (l9 (J9 x.1.2.2.1 b) λt=>l9 (ak x.1.2.2.1 (ae b)) λk=>l9 (J9 x.2.2.1 b) λn=>l9 (ak x.2.2.1 (ae b)) λp=>some (.nx ((x.1.1,x.1.2.1,bC x.1.2.2.1 (ae b) f.1,x.1.2.2.2),x.2.1,bC x.2.2.1 (ae b) c.1,D5 .i64 x.2.2.2 1)))))))) (some (.ex (x.1,x.2.1,x.2.2.1)))) ((B.1,B.2.1,x,B.2.2.2),(0,0,0,0),g,0)) λo=>az o (λ(y:AX×aI×List Int)=>some (y.2.2,(0,0,0,0),y.1)) λr=>some r
def h_:FQ:=⟨[tD y36,(false,(.box (pA diM (pA (dT y40) (pA (oW y1) (pA (dT y41) (pA (dT y24) (dT y21)))))))),G6,(uD (.sl .bool))],⟨[(.tmp 8,uoM),(.cell 9 137,tD y10)],[(1,(true,(pA diM (pA (dT y40) (pA (oW y1) (pA (dT y41) (pA (dT y24) (dT y21))))))))]⟩,⟨105,eqs,tt,gl,[(163,a1E),(164,a1F),(165,XA)],[],[],[],[1],[]⟩,sN 4 (Y6 (sN 1 (bU (lpR [(1,2),(8,11),(14,19),(37,103),(1000000,1000001),(4000576,4000577),(7001472,7001473),(10001856,10001857)] ⟨[(1,(false,(.box (pA diM (pA (dT y40) (pA (oW y1) (pA (dT y41) (pA (dT y24) (dT y21))))))))),(9,(false,(.box (dT y10)))),(10,uoM),(37,G6)],[]⟩ 0 ⟨[(1,(false,(.box (pA diM (pA (dT y40) (pA (oW y1) (pA (dT y41) (pA (dT y24) (dT y21))))))))),(9,(false,(.box (dT y10)))),(10,uoM)],[]⟩ F6))) F6)⟩
def a1r:FSpec:=U8 h_ λx=>kM x.1 x.2.1 x.2.2.1 x.2.2.2
def wV(A:oq)(B:Int)(C:EU)(D:dw):Option (AY×AX×aI×dw):=l9 (Y5 (λ(x:(Int×List N8×PUnit×PUnit×List J6×List ni)×Int)=>o5 (J4 x.2 (o9 D.2.1.2.2.2.1)) (l9 (J9 D.2.1.2.2.2.1 x.2) λc=>l9 (bQ x.1.2.2.2.2.1 [c.2]) λb=>some (.inl ((x.1.1,x.1.2.1,(),(),b,x.1.2.2.2.2.2),D5 .i64 x.2 1))) (some (.inr (x.1.1,x.1.2.1,(),(),x.1.2.2.2.2)))) ((C.1,C.2.1,(),(),[],A.2.1),0)) λy=>l9 (aC (λ(x:AY×AX×aI×(Int×List N8×PUnit×List (List N8)×List J6×List ni)×AY×Int)=>o5 (J4 x.2.2.2.2.2 (o9 C.2.2)) (l9 (J9 C.2.2 x.2.2.2.2.2) λc=>l9 (kM D.2.1 (C.1,c,[],[],[],A.2.1) x.2.2.2.2.2 D.2.2.2) λb=>o5 (F8 (x8 b.2.1.1 0)) (some (.rt (([],[],[]),(0,[],[],[],[],[]),b.2.1,D))) (l9 (bQ x.2.2.2.1.2.2.2.1 [b.2.2.2.2.1]) λd=>l9 (bQ x.2.2.2.2.1.2.2 [(b.2.2.2.2.1,b.1)]) λf=>some (.nx (x.1,x.2.1,x.2.2.1,(x.2.2.2.1.1,x.2.2.2.1.2.1,(),d,x.2.2.2.1.2.2.2.2),(x.2.2.2.2.1.1,x.2.2.2.2.1.2.1,f),D5 .i64 x.2.2.2.2.2 1)))) (some (.ex (x.1,x.2.1,x.2.2.1,(x.2.2.2.1.1,x.2.2.2.1.2.1,(),x.2.2.2.1.2.2.2),x.2.2.2.2.1)))) (([],[],[]),(0,[],[],[],[],[]),(0,0,0,0),(y.1,y.2.1,(),[],y.2.2.2.2),([],[],[]),0)) λo=>az o (λ(y:AY×AX×aI×(Int×List N8×PUnit×List (List N8)×List J6×List ni)×AY)=>l9 (kM D.1 (y.2.2.2.1.1,y.2.2.2.1.2.1,[],y.2.2.2.1.2.2.2) (-1) D.2.2.1) λx=>o5 (F8 (x8 x.2.1.1 0)) (some (([],[],[]),(0,[],[],[],[],[]),x.2.1,D)) (some ((x.2.2.2.2.1,x.1,y.2.2.2.2.2.2),x.2.2,(0,0,0,0),D))) λr=>some r
def q94:FQ:=⟨[tD y39,G6,tD y43,(false,(.box (pA (dT y36) (pA (dT y36) (pA (oW .bool) (oW .bool))))))],⟨[(.cell 8 176,tD y56),(.cell 9 179,tD y61),(.cell 10 137,tD y10)],[(3,(true,(pA (dT y36) (pA (dT y36) (pA (oW .bool) (oW .bool))))))]⟩,⟨123,eqs,tt,gl,[(134,a1r)],[],[],[],[3],[]⟩,sN 3 (Y6 (sN 1 (bU (.loop [(11,12),(14,15),(35,47),(7000704,7000705)] ⟨[(11,(false,(.box (pA diM (pA (dT y40) (pA (.cell (some none)) (pA (.cell (some none)) (pA (oW y0) (dT y21))))))))),(35,G6)],[]⟩ 0 ⟨[(11,(false,(.box (pA diM (pA (dT y40) (pA (.cell (some none)) (pA (.cell (some none)) (pA (oW y0) (dT y21)))))))))],[]⟩ F6))) (Y6 (sN 1 (bU (lpR [(8,13),(15,20),(50,97),(4000512,4000513),(4000576,4000577),(4000640,4000641),(10000768,10000769),(18000000,18000002)] ⟨[(8,(false,(.box (dT y56)))),(9,(false,(.box (dT y61)))),(10,(false,(.box (dT y10)))),(11,(false,(.box (pA diM (pA (dT y40) (pA (.cell (some none)) (pA (oW y40) (pA (oW y0) (dT y21))))))))),(12,(false,(.box (pA (dT y40) (pA (dT y45) (oW y53)))))),(50,G6)],[]⟩ 2 ⟨[(8,(false,(.box (dT y56)))),(9,(false,(.box (dT y61)))),(10,(false,(.box (dT y10)))),(11,(false,(.box (pA diM (pA (dT y40) (pA (.cell (some none)) (pA (oW y40) (pA (oW y0) (dT y21))))))))),(12,(false,(.box (pA (dT y40) (pA (dT y45) (oW y53))))))],[]⟩ F6))) F6))⟩
def s94:FSpec:=U8 q94 λx=>wV x.1 x.2.1 x.2.2.1 x.2.2.2
def xW(A:oq)(B:Int)(C:EU)(D:Int):Option (N8×Int×aI):=l9 (nX A B C true D) λx=>o5 (F8 (x8 x.1 0)) (some ((0,0,0),0,x)) (l9 (wW A B) λx=>l9 (qx x D) λx=>l9 (wV A B C x) λx=>o5 (F8 (x8 x.2.2.1.1 0)) (some ((0,0,0),0,x.2.2.1)) (l9 (J9 x.1.1 D) λb=>l9 (J9 x.1.2.1 D) λx=>some (b,x,0,0,0,0)))
def q61:FQ:=⟨[tD y39,G6,tD y43,G6],⟨[(.cell 8 33,tD y1),(.tmp 9,G6),(.cell 10 137,tD y10)],[]⟩,mE 57 [(91,s91),(92,s92),(93,s93),(94,s94)],F6⟩
def s61:FSpec:=U8 q61 λx=>xW x.1 x.2.1 x.2.2.1 x.2.2.2
def qc(A:oq)(B:Int)(C:EU)(D:Int):Option (N8×Int):=l9 (xW A B C D) λx=>o5 (F8 (x8 x.2.2.1 0)) (some ((0,0,0),x.2.2.1)) (some (x.1,0))
def q34:FQ:=⟨[tD y39,G6,tD y43,G6],⟨[(.cell 8 33,tD y1),(.tmp 9,G6)],[]⟩,mE 29 [(61,s61)],F6⟩
def s34:FSpec:=U8 q34 λx=>qc x.1 x.2.1 x.2.2.1 x.2.2.2
def rO(A:List (bZ×Bool))(B:gJ)(C:List Int):Option (List (bZ×Bool)):=l9 (Y5 (λ(x:List (Int×Bool)×Int)=>o5 (J4 x.2 (o9 C)) (l9 (J9 C x.2) λc=>some (.inl (EE (λ(a b:Int)=>x8 a b) x.1 c true,D5 .i64 x.2 1))) (some (.inr x.1))) ([],0)) λy=>l9 (Y5 (λ(x:List (bZ×Bool)×Int)=>o5 (J4 x.2 (o9 B.2.2.2.2)) (l9 (J9 B.2.2.2.2 x.2) λc=>o5 (oJ (λ(a b:Int)=>x8 a b) y c.2.1 false) (some (.inl (EE (λ(a b:bZ)=>Y2 (seq a.1 b.1) (seq a.2 b.2)) x.1 (B.1,c.1) true,D5 .i64 x.2 1))) (some (.inl (x.1,D5 .i64 x.2 1)))) (some (.inr x.1))) (A,0)) λy=>some y
def q62:FQ:=⟨[(false,(.ownb (.ent true false y48 .bool))),tD y36,uD y45],⟨[],[(0,(false,(oW (.ent true false y48 .bool))))]⟩,⟨39,eqs,tt,gl,[],[],[],[],[0],[]⟩,sN 2 (Y6 (sN 1 (bU (.loop [(6,7),(8,9),(14,21),(7000704,7000705)] ⟨[(6,(false,(oW (.ent false false (.int .i64) .bool)))),(14,G6)],[]⟩ 0 ⟨[(6,(false,(oW (.ent false false (.int .i64) .bool))))],[]⟩ F6))) (sN 1 (bU (.loop [(0,1),(10,11),(24,39),(1000000,1000001)] ⟨[(0,(false,(oW (.ent true false y48 .bool)))),(24,G6)],[]⟩ 2 ⟨[(0,(false,(oW (.ent true false y48 .bool))))],[]⟩ F6))))⟩
def s62:FSpec:=U8 q62 λx=>rO x.1 x.2.1 x.2.2
def qf(A:oq)(B:Int)(C:Int):Option (List (bZ×Bool)):=l9 (J9 A.2.2 B) λx=>l9 (iK x C) λf=>l9 (bQ f [C]) λg=>l9 (rO [] x g) λc=>l9 (o5 (J4 x.2.1 0) (some (.inr c)) (o5 (aN (o9 A.2.2) x.2.1) (some (.inr c)) (some (.inl ())))) λo=>az o (λj=>l9 (J9 A.2.2 x.2.1) λd=>l9 (pX x C) λx=>l9 (Y5 (λ(b:List Int×Int)=>o5 (J4 b.2 (o9 x)) (l9 (J9 x b.2) λk=>l9 (ak x (ae b.2)) λx=>l9 (bQ b.1 [x]) λi=>l9 (iK d x) λx=>l9 (bQ i x) λx=>some (.inl (x,D5 .i64 b.2 1))) (some (.inr b.1))) ([],0)) λy=>l9 (rO c d y) λx=>some x) λr=>some r
def q35:FQ:=⟨[tD y39,G6,G6],tR 6 (false,(oW (.ent true false y48 .bool))),mE 69 [(63,s63),(62,s62),(64,s64)],sN 4 (Y6 (jnR [(6,7),(28,40)] sgN F6) (sN 2 (Y6 (sN 1 (bU (.loop [(10,11),(12,13),(50,64)] ⟨[(10,uoM),(50,G6)],[]⟩ 0 ⟨[(10,uoM)],[]⟩ F6))) F6)))⟩
def s35:FSpec:=U8 q35 λx=>qf x.1 x.2.1 x.2.2
def oH(A:oq):Option (List (List UInt8×lH)):=l9 (Y5 (λ(x:List (List UInt8×lH)×Int)=>o5 (J4 x.2 (o9 A.2.2)) (l9 (J9 A.2.2 x.2) λc=>o5 (Jw (λ(a b:List UInt8)=>seq a b) x.1 c.1) (some (.inl (x.1,D5 .i64 x.2 1))) (l9 (Y5 (λ(x:List (List UInt8×Int)×Int)=>o5 (J4 x.2 (o9 c.2.2.2.2)) (l9 (J9 c.2.2.2.2 x.2) λd=>o5 (F8 (Jw (λ(a b:List UInt8)=>seq a b) x.1 d.1)) (some (.inl (EE (λ(a b:List UInt8)=>seq a b) x.1 d.1 x.2,D5 .i64 x.2 1))) (some (.inl (x.1,D5 .i64 x.2 1)))) (some (.inr x.1))) ([],0)) λy=>some (.inl (EE (λ(a b:List UInt8)=>seq a b) x.1 c.1 (c,y),D5 .i64 x.2 1)))) (some (.inr x.1))) ([],0)) λy=>some y
def q65:FQ:=⟨[tD y39],tR 2 (false,(oW (.ent false true .str y51))),mE 60 [],sN 2 (Y6 (sN 1 (bU (.loop [(3,4),(5,13),(17,59),(7000832,7000833)] ⟨[(3,(false,(oW (.ent false true .str y51)))),(17,G6)],[]⟩ 0 ⟨[(3,(false,(oW (.ent false true .str y51))))],[]⟩ (sN 2 (Y6 (bU (sN 3 (Y6 (sN 1 (bU (.loop [(8,13),(33,52),(40001856,40001857)] ⟨[(8,(false,(oW (.ent false false .str (.int .i64))))),(33,G6)],[]⟩ 2 ⟨[(8,(false,(oW (.ent false false .str (.int .i64)))))],[]⟩ F6))) F6))) F6))))) F6)⟩
def s65:FSpec:=U8 q65 λx=>oH x
def iI(A:List (List UInt8×lH))(B:List UInt8)(C:List UInt8):Option (gJ×Int×Bool):=o5 (F8 (Jw (λ(a b:List UInt8)=>seq a b) A B)) (some (([],0,[],[],[]),0,false)) (o5 (F8 (Jw (λ(a b:List UInt8)=>seq a b) (oJ (λ(a b:List UInt8)=>seq a b) A B (([],0,[],[],[]),[])).2 C)) (some (([],0,[],[],[]),0,false)) (some ((oJ (λ(a b:List UInt8)=>seq a b) A B (([],0,[],[],[]),[])).1,oJ (λ(a b:List UInt8)=>seq a b) (oJ (λ(a b:List UInt8)=>seq a b) A B (([],0,[],[],[]),[])).2 C 0,true)))
def q66:FQ:=⟨[uD y52,(uD .str),(uD .str)],⟨[(.cell 6 76,tD y36),(.tmp 7,G6),(.tmp 8,di)],[]⟩,mE 34 [],F6⟩
def s66:FSpec:=U8 q66 λx=>iI x.1 x.2.1 x.2.2
def kP(A:gJ)(B:xB):Option zA:=l9 (o5 (aN 0 B.2.1) (o5 (J4 B.2.1 (o9 A.2.2.2.1)) (l9 (J9 A.2.2.2.1 B.2.1) λx=>some (x.1,[],B.2.2.2.1,B.2.2.2.2.1,B.2.2.2.2.2.2.2)) (some ([],[],B.2.2.2.1,B.2.2.2.2.1,B.2.2.2.2.2.2.2))) (some ([],[],B.2.2.2.1,B.2.2.2.2.1,B.2.2.2.2.2.2.2))) λx=>o5 (aN 0 B.2.2.1) (o5 (J4 B.2.2.1 (o9 A.2.2.2.2)) (l9 (J9 A.2.2.2.2 B.2.2.1) λb=>some (x.1,b.1,x.2.2)) (some x)) (some x)
def q99:FQ:=⟨[tD y36,tD y31],cR 4 195 (tD y67),mE 52 [],sN 2 (Y6 (.join [(5,6),(13,32),(7000320,7000321)] ⟨[(5,(false,(.box (dT y67))))],[]⟩ F6) F6)⟩
def s99:FSpec:=U8 q99 λx=>kP x.1 x.2
def eF(A:List J6)(B:List J6):Option Bool:=o5 (F8 (x8 (o9 A) (o9 B))) (some false) (l9 (aC (λ(x:Int)=>o5 (J4 x (o9 A)) (l9 (J9 A x) λb=>l9 (J9 B x) λc=>o5 (F8 (Y2 (x8 b.1 c.1) (x8 b.2 c.2))) (some (.rt false)) (some (.nx (D5 .i64 x 1)))) (some (.ex ()))) 0) λo=>az o (λy=>some true) λr=>some r)
def ZK:FQ:=⟨[uD y24,uD y24],tR 4 di,mE 26 [],sN 2 (Y6 (sN 1 (bU (lpR [(4,6),(13,26)] ⟨[(13,G6)],[]⟩ 0 sgN F6))) F6)⟩
def a1c:FSpec:=U8 ZK λx=>eF x.1 x.2
def vC(A:gJ)(B:Int)(C:gJ)(D:Int):Option Bool:=l9 (J9 A.2.2.2.2 B) λx=>l9 (J9 C.2.2.2.2 D) λd=>l9 (kP A x) λb=>l9 (kP C d) λc=>o5 (Y2 (seq b.1 c.1) (Y2 (seq b.2.1 c.2.1) (Y2 (x8 b.2.2.1 c.2.2.1) (Y2 (x8 b.2.2.2.1.1 c.2.2.2.1.1) (Y2 (x8 b.2.2.2.1.2 c.2.2.2.1.2) (seq b.2.2.2.2 c.2.2.2.2)))))) (l9 (eF x.2.2.2.2.2.1 d.2.2.2.2.2.1) λf=>o5 f (l9 (eF x.2.2.2.2.2.2.1 d.2.2.2.2.2.2.1) λx=>some x) (some false)) (some false)
def q67:FQ:=⟨[tD y36,G6,tD y36,G6],tR 8 di,mE 42 [(99,s99),(100,a1c)],F6⟩
def s67:FSpec:=U8 q67 λx=>vC x.1 x.2.1 x.2.2.1 x.2.2.2
end
end Gt
open Go Go.GP
namespace Gt
set_option maxRecDepth 100000
noncomputable section
def pJ(A:oq)(B:oq):Option (List aJ):=l9 (oH A) λx=>l9 (oH B) λg=>l9 (Y5 (λ(x:List aJ×Int)=>o5 (J4 x.2 (o9 A.2.2)) (l9 (J9 A.2.2 x.2) λb=>l9 (Y5 (λ(x:List aJ×Int)=>o5 (J4 x.2 (o9 b.2.2.2.2)) (l9 (J9 b.2.2.2.2 x.2) λd=>l9 (iI g b.1 d.1) λc=>o5 (F8 c.2.2) (l9 (bQ x.1 [(b.1,d.1,1)]) λf=>some (.inl (f,D5 .i64 x.2 1))) (l9 (vC b x.2 c.1 c.2.1) λf=>o5 (F8 f) (l9 (bQ x.1 [(b.1,d.1,3)]) λi=>some (.inl (i,D5 .i64 x.2 1))) (some (.inl (x.1,D5 .i64 x.2 1))))) (some (.inr x.1))) (x.1,0)) λy=>some (.inl (y,D5 .i64 x.2 1))) (some (.inr x.1))) ([],0)) λy=>l9 (Y5 (λ(b:List aJ×Int)=>o5 (J4 b.2 (o9 B.2.2)) (l9 (J9 B.2.2 b.2) λd=>l9 (Y5 (λ(c:List aJ×Int)=>o5 (J4 c.2 (o9 d.2.2.2.2)) (l9 (J9 d.2.2.2.2 c.2) λf=>l9 (iI x d.1 f.1) λx=>o5 (F8 x.2.2) (l9 (bQ c.1 [(d.1,f.1,2)]) λx=>some (.inl (x,D5 .i64 c.2 1))) (some (.inl (c.1,D5 .i64 c.2 1)))) (some (.inr c.1))) (b.1,0)) λy=>some (.inl (y,D5 .i64 b.2 1))) (some (.inr b.1))) (y,0)) λy=>some y
def q36:FQ:=⟨[tD y39,tD y39],tR 4 (uO y3),mE 114 [(65,s65),(66,s66),(67,s67)],sN 3 (Y6 (sN 1 (bU (.loop [(7,8),(9,15),(29,77)] ⟨[(7,(uO y3)),(29,G6)],[]⟩ 0 ⟨[(7,(uO y3))],[]⟩ (sN 2 (Y6 (bU (sN 2 (bU (.loop [(7,8),(10,15),(36,76),(17000000,17000001)] ⟨[(7,(uO y3)),(36,G6)],[]⟩ 2 ⟨[(7,(uO y3))],[]⟩ F6)))) F6))))) (Y6 (sN 1 (bU (.loop [(7,8),(16,17),(18,22),(80,113),(18000000,18000001)] ⟨[(7,(uO y3)),(80,G6)],[]⟩ 4 ⟨[(7,(uO y3))],[]⟩ (sN 2 (Y6 (bU (sN 2 (bU (.loop [(7,8),(18,22),(87,112),(76000000,76000001)] ⟨[(7,(uO y3)),(87,G6)],[]⟩ 6 ⟨[(7,(uO y3))],[]⟩ F6)))) F6))))) F6))⟩
def s36:FSpec:=U8 q36 λx=>pJ x.1 x.2
def xU(A:oq)(B:oq)(C:Int)(D:EU)(E:Int):Option (Z7×Int):=l9 (l9 (qF A) λx=>o5 (F8 (Y2 (x8 x.1 0) (Y2 (x8 x.2.1 0) (Y2 (x8 x.2.2.1 0) (x8 x.2.2.2 0))))) (some (.inr (((0,0,0),(0,0,0),0,0,[]),1))) (l9 (qF B) λx=>o5 (F8 (Y2 (x8 x.1 0) (Y2 (x8 x.2.1 0) (Y2 (x8 x.2.2.1 0) (x8 x.2.2.2 0))))) (some (.inr (((0,0,0),(0,0,0),0,0,[]),1))) (some (.inl ((0,0,0),(0,0,0),0,0,[]))))) λo=>az o (λ(x:Z7)=>l9 (o5 (J4 C 0) (some (.inr (((0,0,0),(0,0,0),0,0,[]),6))) (o5 (aN (o9 A.2.2) C) (some (.inr (((0,0,0),(0,0,0),0,0,[]),6))) (o5 (J4 E 0) (some (.inr (((0,0,0),(0,0,0),0,0,[]),6))) (l9 (J9 A.2.2 C) λf=>o5 (aN (o9 f.2.2.2.1) E) (some (.inr (((0,0,0),(0,0,0),0,0,[]),6))) (some (.inl x)))))) λo=>az o (λ(x:Z7)=>l9 (og A B) λx=>o5 (F8 x) (some (((0,0,0),(0,0,0),0,0,[]),8)) (l9 (qc A C D E) λx=>l9 (qc B C D E) λf=>l9 (qf A C E) λj=>l9 (qf B C E) λi=>l9 (pJ A B) λg=>l9 (Y5 (λ(x:Z7×Int)=>o5 (J4 x.2 (o9 g)) (l9 (J9 g x.2) λk=>l9 (ak g (ae x.2)) λc=>o5 (F8 (x8 c.2.2 2)) (o5 (oJ (λ(a b:bZ)=>Y2 (seq a.1 b.1) (seq a.2 b.2)) j (c.1,c.2.1) false) (l9 (bQ x.1.2.2.2.2 [c]) λd=>some (.inl ((x.1.1,x.1.2.1,x.1.2.2.1,x.1.2.2.2.1,d),D5 .i64 x.2 1))) (o5 (F8 (x8 c.2.2 1)) (o5 (oJ (λ(a b:bZ)=>Y2 (seq a.1 b.1) (seq a.2 b.2)) i (c.1,c.2.1) false) (l9 (bQ x.1.2.2.2.2 [c]) λd=>some (.inl ((x.1.1,x.1.2.1,x.1.2.2.1,x.1.2.2.2.1,d),D5 .i64 x.2 1))) (some (.inl (x.1,D5 .i64 x.2 1)))) (some (.inl (x.1,D5 .i64 x.2 1))))) (o5 (F8 (x8 c.2.2 1)) (o5 (oJ (λ(a b:bZ)=>Y2 (seq a.1 b.1) (seq a.2 b.2)) i (c.1,c.2.1) false) (l9 (bQ x.1.2.2.2.2 [c]) λd=>some (.inl ((x.1.1,x.1.2.1,x.1.2.2.1,x.1.2.2.2.1,d),D5 .i64 x.2 1))) (some (.inl (x.1,D5 .i64 x.2 1)))) (some (.inl (x.1,D5 .i64 x.2 1))))) (some (.inr x.1))) ((x.1,f.1,x.2,f.2,[]),0)) λy=>some (y,0))) λr=>some r) λr=>some r
def q21:FQ:=⟨[tD y39,tD y39,G6,tD y43,G6],⟨[(.cell 10 37,tD y8),(.tmp 11,G6)],[]⟩,mE 126 [(32,s32),(33,s33),(34,s34),(35,s35),(36,s36)],sN 1 (Y6 (jnR [(10,12),(18,29),(4000640,4000641)] ⟨[(10,(false,(.box (dT y8))))],[]⟩ F6) (Y6 (jnR [(10,12),(29,54),(6000000,6000001)] ⟨[(10,(false,(.box (dT y8))))],[]⟩ F6) (sN 5 (Y6 (sN 1 (bU (.loop [(12,13),(16,18),(91,125),(37000768,37000769)] ⟨[(12,(false,(.box (pA (dT y1) (pA (dT y1) (pA diM (pA diM (oW y3)))))))),(91,G6)],[]⟩ 0 ⟨[(12,(false,(.box (pA (dT y1) (pA (dT y1) (pA diM (pA diM (oW y3))))))))],[]⟩ F6))) F6))))⟩
def s21:FSpec:=U8 q21 λx=>xU x.1 x.2.1 x.2.2.1 x.2.2.2.1 x.2.2.2.2
def gB(A:Z7):Option Bool:=o5 (x8 A.2.2.1 0) (o5 (x8 A.2.2.2.1 0) (some (F8 (Y2 (x8 A.1.1 A.2.1.1) (Y2 (x8 A.1.2.1 A.2.1.2.1) (x8 A.1.2.2 A.2.1.2.2))))) (o5 (x8 A.2.2.1 0) (some true) (some (x8 A.2.2.2.1 0)))) (o5 (x8 A.2.2.1 0) (some true) (some (x8 A.2.2.2.1 0)))
def q15:FQ:=⟨[tD y8],tR 2 di,mE 24 [],F6⟩
def s15:FSpec:=U8 q15 λx=>gB x
def uu(A:Z7):Option U5:=l9 (l9 (gB A) λx=>o5 x (some (1,1,0,0,0,0,0)) (some (1,0,0,0,0,0,0))) λx=>l9 (l9 (o5 (x8 A.2.2.1 0) (some (F8 (x8 A.2.2.2.1 0))) (some false)) λb=>o5 b (some (x.1,x.2.1,x.2.2.1,x.2.2.2.1,1,x.2.2.2.2.2)) (o5 (F8 (x8 A.2.2.1 0)) (some x) (o5 (F8 (x8 A.2.2.2.1 0)) (some x) (o5 (J4 A.1.2.2 A.2.1.2.2) (some (x.1,x.2.1,1,x.2.2.2)) (o5 (J4 A.2.1.2.2 A.1.2.2) (some (x.1,x.2.1,x.2.2.1,1,x.2.2.2.2)) (some x)))))) λx=>some x
def q37:FQ:=⟨[tD y8],cR 2 24 (tD y13),mE 46 [(15,s15)],sN 2 (Y6 (.join [(3,4),(5,8),(7000192,7000193)] ⟨[(3,(false,(.box (dT y13))))],[]⟩ F6) (Y6 (.join [(3,4),(8,45),(9000000,9000001)] ⟨[(3,(false,(.box (dT y13))))],[]⟩ (bU (Y6 (.join [(8,17)] ⟨[(8,di)],[]⟩ F6) F6))) F6))⟩
def s37:FSpec:=U8 q37 λx=>uu x
def yL(A:U5)(B:U5):Option U5:=some (D5 .i64 A.1 B.1,D5 .i64 A.2.1 B.2.1,D5 .i64 A.2.2.1 B.2.2.1,D5 .i64 A.2.2.2.1 B.2.2.2.1,D5 .i64 A.2.2.2.2.1 B.2.2.2.2.1,A.2.2.2.2.2)
def q38:FQ:=⟨[tD y13,tD y13],cR 4 24 (tD y13),mE 36 [],F6⟩
def s38:FSpec:=U8 q38 λx=>yL x.1 x.2
def Di(A:List Int):Option J6:=l9 (aC (λ(x:J6)=>o5 (J4 x.2 (o9 A)) (l9 (J9 A x.2) λb=>l9 (eU b 1000000000000000) λc=>o5 c (some (.rt (0,3))) (l9 (eU (D5 .i64 x.1 b) 1000000000000000) λd=>o5 d (some (.rt (0,3))) (some (.nx (D5 .i64 x.1 b,D5 .i64 x.2 1))))) (some (.ex x.1))) (0,0)) λo=>az o (λy=>some (y,0)) λr=>some r
def q39:FQ:=⟨[uD y45],⟨[(.tmp 2,G6),(.tmp 3,G6)],[]⟩,mE 22 [(68,s68)],sN 2 (Y6 (sN 1 (bU (lpR [(2,5),(6,7),(9,21)] ⟨[(4,G6),(9,G6)],[]⟩ 0 ⟨[(4,G6)],[]⟩ F6))) F6)⟩
def s39:FSpec:=U8 q39 λx=>Di x
def yM(A:List Z7):Option (U5×Int):=l9 (Y5 (λ(x:U5×List Int×List Int×Int)=>o5 (J4 x.2.2.2 (o9 A)) (l9 (l9 (J9 A x.2.2.2) λb=>l9 (l9 (uu b) λc=>o5 (Y2 (x8 c.1 1) (Y2 (x8 c.2.1 0) (Y2 (x8 c.2.2.1 0) (Y2 (x8 c.2.2.2.1 0) (Y2 (x8 c.2.2.2.2.1 0) (Y2 (x8 c.2.2.2.2.2.1 0) (x8 c.2.2.2.2.2.2 0))))))) (some (D5 .i64 x.1.1 1,x.1.2)) (l9 (yL x.1 c) λx=>some x)) λc=>l9 (o5 (x8 b.2.2.1 0) (o5 (x8 b.1.1 3) (l9 (bQ x.2.1 [b.1.2.2]) λx=>some x) (some x.2.1)) (some x.2.1)) λd=>o5 (x8 b.2.2.2.1 0) (o5 (x8 b.2.1.1 3) (l9 (bQ x.2.2.1 [b.2.1.2.2]) λx=>some (c,d,x)) (some (c,d,x.2.2.1))) (some (c,d,x.2.2.1))) λb=>some (.inl (b.1,b.2.1,b.2.2,D5 .i64 x.2.2.2 1))) (some (.inr (x.1,x.2.1,x.2.2.1)))) ((0,0,0,0,0,0,0),[],[],0)) λy=>l9 (Di y.2.1) λx=>l9 (Di y.2.2) λb=>o5 (F8 (x8 x.2 0)) (some ((0,0,0,0,0,0,0),3)) (o5 (F8 (x8 b.2 0)) (some ((0,0,0,0,0,0,0),3)) (some ((y.1.1,y.1.2.1,y.1.2.2.1,y.1.2.2.2.1,y.1.2.2.2.2.1,x.1,b.1),0)))
def q22:FQ:=⟨[uD y9],⟨[(.cell 2 24,tD y13),(.tmp 3,G6)],[]⟩,mE 87 [(37,s37),(38,s38),(39,s39)],sN 4 (Y6 (sN 1 (bU (.loop [(4,7),(9,11),(18,65),(7000256,7000257)] ⟨[(4,(false,(.box (dT y13)))),(5,uoM),(6,uoM),(18,G6)],[]⟩ 0 ⟨[(4,(false,(.box (dT y13)))),(5,uoM),(6,uoM)],[]⟩ (sN 2 (Y6 (.join [(4,7),(9,11),(20,64),(20000000,20000003)] ⟨[(4,(false,(.box (dT y13)))),(5,uoM),(6,uoM)],[]⟩ (bU (sN 1 (Y6 (.join [(4,5),(10,11),(22,34),(20000000,20000001)] ⟨[(4,(false,(.box (dT y13))))],[]⟩ F6) (Y6 (.join [(5,6),(34,49),(20000001,20000002)] ⟨[(5,uoM)],[]⟩ F6) F6))))) F6))))) F6)⟩
def s22:FSpec:=U8 q22 λx=>yM x
def yK(A:oq)(B:oq)(C:Int)(D:List EU)(E:Int):Option (List Z7×U5×Int):=o5 (pR 0 (o9 D) 1073741824) (l9 (qg 0 ((0,0,0),(0,0,0),0,0,[])) λx=>l9 (aC (λ(x:U5×List Z7×Int)=>o5 (J4 x.2.2 (o9 D)) (l9 (J9 D x.2.2) λc=>l9 (xU A B C c E) λb=>o5 (F8 (x8 b.2 0)) (some (.rt ([],(0,0,0,0,0,0,0),b.2))) (l9 (bQ x.2.1 [b.1]) λd=>some (.nx (x.1,d,D5 .i64 x.2.2 1)))) (some (.ex (x.1,x.2.1)))) ((0,0,0,0,0,0,0),x,0)) λo=>az o (λ(y:U5×List Z7)=>l9 (yM y.2) λx=>o5 (F8 (x8 x.2 0)) (some ([],(0,0,0,0,0,0,0),x.2)) (some (y.2,x.1,0))) λr=>some r) none
def q10:FQ:=⟨[tD y39,tD y39,G6,uD y44,G6],⟨[(.tmp 10,uO y8),(.cell 11 24,tD y13),(.tmp 12,G6)],[]⟩,mE 58 [(21,s21),(22,s22)],sN 2 (Y6 (sN 1 (bU (lpR [(10,14),(15,18),(25,47),(4000704,4000705),(7001408,7001409)] ⟨[(11,(false,(.box (dT y13)))),(13,(uO y8)),(25,G6)],[]⟩ 0 ⟨[(11,(false,(.box (dT y13)))),(13,(uO y8))],[]⟩ F6))) F6)⟩
def s10:FSpec:=U8 q10 λx=>yK x.1 x.2.1 x.2.2.1 x.2.2.2.1 x.2.2.2.2
def a3R:List MG:=[G6]
def s24:FSpec:=⟨a3R,[(false,(.dat .str))],[],λx=>uM x⟩
def V6(A:Int):Option (List UInt8):=l9 (uM A) λx=>some x
def q13:FQ:=⟨[G6],tR 2 (uD .str),mE 5 [(24,s24)],F6⟩
def s13:FSpec:=U8 q13 λx=>V6 x
def lJ(A:Int):Option Int:=some (oG 0 (wo A 9))
def q25:FQ:=⟨[G6],tR 2 G6,mE 6 [],F6⟩
def s25:FSpec:=U8 q25 λx=>lJ x
def a3S:List MG:=[(false,(.dat .str)),G6]
def s26:FSpec:=⟨a3S,[(false,(.dat .str))],[],λx=>jH x.1 x.2⟩
def Q4(A:Int)(B:Int):Option (List UInt8):=l9 (lJ B) λx=>l9 (V6 A) λc=>o5 (x8 x 0) (some c) (o5 (J4 A 0) (l9 (jD c 1 (o9 c)) λb=>o5 (aN (o9 b) x) (l9 (jH [48] (I4 .i64 (D5 .i64 x 1) (o9 b))) λd=>l9 (X0 d b) λf=>l9 (jD f 0 (I4 .i64 (o9 f) x)) λg=>l9 (X0 [45] g) λi=>l9 (X0 i [46]) λj=>l9 (jD f (I4 .i64 (o9 f) x) (o9 f)) λx=>l9 (X0 j x) λx=>some x) (l9 (jD b 0 (I4 .i64 (o9 b) x)) λd=>l9 (X0 [45] d) λf=>l9 (X0 f [46]) λg=>l9 (jD b (I4 .i64 (o9 b) x) (o9 b)) λx=>l9 (X0 g x) λx=>some x)) (o5 (aN (o9 c) x) (l9 (jH [48] (I4 .i64 (D5 .i64 x 1) (o9 c))) λb=>l9 (X0 b c) λd=>l9 (jD d 0 (I4 .i64 (o9 d) x)) λf=>l9 (X0 [] f) λg=>l9 (X0 g [46]) λi=>l9 (jD d (I4 .i64 (o9 d) x) (o9 d)) λx=>l9 (X0 i x) λx=>some x) (l9 (jD c 0 (I4 .i64 (o9 c) x)) λb=>l9 (X0 [] b) λd=>l9 (X0 d [46]) λf=>l9 (jD c (I4 .i64 (o9 c) x) (o9 c)) λx=>l9 (X0 f x) λx=>some x)))
def q14:FQ:=⟨[G6,G6],tR 4 (uD .str),mE 45 [(25,s25),(13,s13),(26,s26)],F6⟩
def s14:FSpec:=U8 q14 λx=>Q4 x.1 x.2
def lw(A:Int)(B:J6)(C:List dB):Option Bool:=l9 (dJ B C) λx=>o5 (aN x.1 A) (some (aN A x.2)) (some false)
def q76:FQ:=⟨[G6,tD y0,uD y15],tR 6 di,mE 23 [(107,TB)],F6⟩
def s76:FSpec:=U8 q76 λx=>lw x.1 x.2.1 x.2.2
def rq(A:Int)(B:Int):Option (List UInt8):=l9 (V6 A) λx=>l9 (jH [48] (oG 0 (I4 .i64 B (o9 x)))) λb=>l9 (X0 b x) λx=>some x
def ZO:FQ:=⟨[G6,G6],tR 4 (uD .str),mE 16 [(13,s13),(26,s26)],F6⟩
def a1d:FSpec:=U8 ZO λx=>rq x.1 x.2
def tC(A:Int):Option (List UInt8):=l9 (kH A) λx=>o5 (F8 x) (some []) (l9 (kF A) λx=>l9 (rq x.1 4) λb=>l9 (X0 b [45]) λc=>l9 (rq x.2.1 2) λd=>l9 (X0 c d) λf=>l9 (X0 f [45]) λg=>l9 (rq x.2.2 2) λx=>l9 (X0 g x) λx=>some x)
def q77:FQ:=⟨[G6],tR 2 (uD .str),mE 25 [(108,TC),(109,TE),(110,a1d)],F6⟩
def s77:FSpec:=U8 q77 λx=>tC x
def jM(A:N8)(B:List dB):Option (List UInt8×Int):=l9 (V9 (A.1,A.2.1) B) λx=>o5 (F8 x) (some ([],8)) (l9 (lw A.2.2 (A.1,A.2.1) B) λx=>o5 (F8 x) (some ([],3)) (o5 (x8 A.1 1) (o5 (x8 A.2.2 0) (some ([102,97,108,115,101],0)) (some ([116,114,117,101],0))) (o5 (x8 A.1 2) (l9 (V6 A.2.2) λx=>some (x,0)) (o5 (x8 A.1 3) (l9 (Q4 A.2.2 2) λx=>some (x,0)) (o5 (x8 A.1 4) (l9 (Q4 A.2.2 4) λx=>l9 (X0 x [37]) λx=>some (x,0)) (o5 (x8 A.1 5) (l9 (tC A.2.2) λx=>some (x,0)) (l9 (J9 B A.2.1) λx=>l9 (J9 x.2 A.2.2) λx=>some (x,0))))))))
def q47:FQ:=⟨[tD y1,uD y15],⟨[(.tmp 4,(uD .str)),(.tmp 5,G6)],[]⟩,mE 60 [(75,s75),(76,s76),(13,s13),(14,s14),(77,s77)],F6⟩
def s47:FSpec:=U8 q47 λx=>jM x.1 x.2
def jT(A:N8)(B:Int)(C:List dB):Option (List UInt8):=o5 (F8 (x8 B 0)) (l9 (V6 B) λx=>l9 (X0 [101,114,114,111,114,32] x) λx=>some x) (l9 (jM A C) λx=>o5 (F8 (x8 x.2 0)) (some [63]) (some x.1))
def q27:FQ:=⟨[tD y1,G6,uD y15],tR 6 (uD .str),mE 23 [(13,s13),(47,s47)],F6⟩
def s27:FSpec:=U8 q27 λx=>jT x.1 x.2.1 x.2.2
def mg(A:Z7)(B:List dB):Option (List UInt8):=l9 (jT A.1 A.2.2.1 B) λx=>l9 (X0 x [32,45,62,32]) λx=>l9 (jT A.2.1 A.2.2.2.1 B) λi=>l9 (X0 x i) λx=>l9 (Y5 (λ(x:List Int×Int)=>o5 (J4 x.2 (o9 A.2.2.2.2)) (l9 (J9 A.2.2.2.2 x.2) λb=>o5 (x8 x.2 0) (l9 (bQ x.1 (oI [32,98,121,32])) λc=>l9 (bQ c (oI b.1)) λd=>l9 (bQ d [46]) λf=>l9 (bQ f (oI b.2.1)) λg=>some (.inl (g,D5 .i64 x.2 1))) (l9 (bQ x.1 (oI [44,32])) λc=>l9 (bQ c (oI b.1)) λd=>l9 (bQ d [46]) λf=>l9 (bQ f (oI b.2.1)) λg=>some (.inl (g,D5 .i64 x.2 1)))) (some (.inr x.1))) (oI x,0)) λy=>some (Fb y)
def q16:FQ:=⟨[tD y8,uD y15],tR 4 (uD .str),mE 53 [(27,s27)],sN 3 (Y6 (sN 1 (bU (.loop [(6,9),(28,51),(10001536,10001537)] ⟨[(6,(false,(oW (.int .u8)))),(28,G6)],[]⟩ 0 ⟨[(6,(false,(oW (.int .u8))))],[]⟩ F6))) F6)⟩
def s16:FSpec:=U8 q16 λx=>mg x.1 x.2
def ja(A:List Z7)(B:U5)(C:List dB):Option (List (List UInt8)):=l9 (V6 B.1) λx=>l9 (X0 [99,97,115,101,115,32] x) λx=>l9 (X0 x [32,99,104,97,110,103,101,100,32]) λx=>l9 (V6 B.2.1) λc=>l9 (X0 x c) λx=>l9 (X0 x [32,103,97,105,110,101,100,32]) λx=>l9 (V6 B.2.2.1) λq=>l9 (X0 x q) λx=>l9 (X0 x [32,114,101,100,117,99,101,100,32]) λx=>l9 (V6 B.2.2.2.1) λt=>l9 (X0 x t) λx=>l9 (X0 x [32,102,97,105,108,101,100,32]) λx=>l9 (V6 B.2.2.2.2.1) λu=>l9 (X0 x u) λx=>l9 (Q4 B.2.2.2.2.2.1 2) λv=>l9 (X0 [111,108,100,32] v) λw=>l9 (X0 w [32,110,101,119,32]) λz=>l9 (Q4 B.2.2.2.2.2.2 2) λh=>l9 (X0 z h) λm=>o5 (pR 2 (D5 .i64 2 (o9 A)) 1073741824) (l9 (qg 2 []) λd=>l9 (Y5 (λ(x:List (List UInt8)×Int)=>o5 (J4 x.2 (o9 A)) (l9 (J9 A x.2) λb=>l9 (gB b) λf=>o5 f (l9 (V6 x.2) λg=>l9 (X0 [99,97,115,101,32] g) λi=>l9 (X0 i [58,32]) λj=>l9 (mg b C) λk=>l9 (X0 j k) λn=>l9 (bQ x.1 [n]) λp=>some (.inl (p,D5 .i64 x.2 1))) (some (.inl (x.1,D5 .i64 x.2 1)))) (some (.inr x.1))) (zU d [x,m],0)) λy=>some y) none
def q7:FQ:=⟨[uD y9,tD y13,uD y15],tR 6 (uO .str),mE 74 [(13,s13),(14,s14),(15,s15),(16,s16)],sN 4 (Y6 (sN 1 (bU (.loop [(8,11),(54,73),(10003072,10003073)] ⟨[(8,(uO .str)),(54,G6)],[]⟩ 0 ⟨[(8,(uO .str))],[]⟩ F6))) F6)⟩
def s7:FSpec:=U8 q7 λx=>ja x.1 x.2.1 x.2.2
def jZ(A:Z7):Option Int:=o5 (F8 (x8 A.2.2.1 0)) (some 0) (o5 (F8 (x8 A.2.2.2.1 0)) (some 0) (o5 (F8 (x8 A.1.1 3)) (some 0) (o5 (F8 (x8 A.2.1.1 3)) (some 0) (some (I4 .i64 A.2.1.2.2 A.1.2.2)))))
def q23:FQ:=⟨[tD y8],tR 2 G6,mE 30 [],F6⟩
def s23:FSpec:=U8 q23 λx=>jZ x
def ut(A:List Z7):Option (List aJ×List Int×List Int):=l9 (Y5 (λ(x:List aJ×List Int×List Int×List Int×List (aJ×Int)×Int)=>o5 (J4 x.2.2.2.2.2 (o9 A)) (l9 (J9 A x.2.2.2.2.2) λj=>l9 (gB j) λs=>o5 (F8 s) (some (.inl (x.1,x.2.1,x.2.2.1,x.2.2.2.1,x.2.2.2.2.1,D5 .i64 x.2.2.2.2.2 1))) (l9 (Y5 (λ(c:List aJ×List Int×List Int×List Int×List (aJ×Int)×Int)=>o5 (J4 c.2.2.2.2.2 (o9 j.2.2.2.2)) (l9 (J9 j.2.2.2.2 c.2.2.2.2.2) λd=>o5 (F8 (Jw (λ(a b:aJ)=>Y2 (seq a.1 b.1) (Y2 (seq a.2.1 b.2.1) (x8 a.2.2 b.2.2))) c.2.2.2.2.1 d)) (l9 (bQ c.1 [d]) λp=>l9 (bQ c.2.1 [0]) λf=>l9 (bQ c.2.2.1 [0]) λg=>l9 (bQ c.2.2.2.1 [-1]) λi=>l9 (J9 i (o9 c.1)) λx_9=>l9 (ak i (ae (o9 c.1))) λk=>o5 (x8 k x.2.2.2.2.2) (some (.inl (p,f,g,i,EE (λ(a b:aJ)=>Y2 (seq a.1 b.1) (Y2 (seq a.2.1 b.2.1) (x8 a.2.2 b.2.2))) c.2.2.2.2.1 d (o9 c.1),D5 .i64 c.2.2.2.2.2 1))) (l9 (J9 i (o9 c.1)) λt=>l9 (ak i (ae (o9 c.1))) λu=>l9 (J9 f (o9 c.1)) λv=>l9 (ak f (ae (o9 c.1))) λn=>l9 (J9 f (o9 c.1)) λq=>l9 (ak f (ae (o9 c.1))) λw=>l9 (J9 g (o9 c.1)) λz=>l9 (ak g (ae (o9 c.1))) λh=>l9 (jZ j) λm=>l9 (J9 g (o9 c.1)) λx_20=>l9 (ak g (ae (o9 c.1))) λx_21=>some (.inl (p,bC f (ae (o9 c.1)) (D5 .i64 n 1),bC g (ae (o9 c.1)) (D5 .i64 h m),bC i (ae (o9 c.1)) x.2.2.2.2.2,EE (λ(a b:aJ)=>Y2 (seq a.1 b.1) (Y2 (seq a.2.1 b.2.1) (x8 a.2.2 b.2.2))) c.2.2.2.2.1 d (o9 c.1),D5 .i64 c.2.2.2.2.2 1)))) (l9 (J9 c.2.2.2.1 (oJ (λ(a b:aJ)=>Y2 (seq a.1 b.1) (Y2 (seq a.2.1 b.2.1) (x8 a.2.2 b.2.2))) c.2.2.2.2.1 d 0)) λp=>l9 (ak c.2.2.2.1 (ae (oJ (λ(a b:aJ)=>Y2 (seq a.1 b.1) (Y2 (seq a.2.1 b.2.1) (x8 a.2.2 b.2.2))) c.2.2.2.2.1 d 0))) λf=>o5 (x8 f x.2.2.2.2.2) (some (.inl (c.1,c.2.1,c.2.2.1,c.2.2.2.1,c.2.2.2.2.1,D5 .i64 c.2.2.2.2.2 1))) (l9 (J9 c.2.2.2.1 (oJ (λ(a b:aJ)=>Y2 (seq a.1 b.1) (Y2 (seq a.2.1 b.2.1) (x8 a.2.2 b.2.2))) c.2.2.2.2.1 d 0)) λg=>l9 (ak c.2.2.2.1 (ae (oJ (λ(a b:aJ)=>Y2 (seq a.1 b.1) (Y2 (seq a.2.1 b.2.1) (x8 a.2.2 b.2.2))) c.2.2.2.2.1 d 0))) λi=>l9 (J9 c.2.1 (oJ (λ(a b:aJ)=>Y2 (seq a.1 b.1) (Y2 (seq a.2.1 b.2.1) (x8 a.2.2 b.2.2))) c.2.2.2.2.1 d 0)) λx_9=>l9 (ak c.2.1 (ae (oJ (λ(a b:aJ)=>Y2 (seq a.1 b.1) (Y2 (seq a.2.1 b.2.1) (x8 a.2.2 b.2.2))) c.2.2.2.2.1 d 0))) λk=>l9 (J9 c.2.1 (oJ (λ(a b:aJ)=>Y2 (seq a.1 b.1) (Y2 (seq a.2.1 b.2.1) (x8 a.2.2 b.2.2))) c.2.2.2.2.1 d 0)) λt=>l9 (ak c.2.1 (ae (oJ (λ(a b:aJ)=>Y2 (seq a.1 b.1) (Y2 (seq a.2.1 b.2.1) (x8 a.2.2 b.2.2))) c.2.2.2.2.1 d 0))) λu=>l9 (J9 c.2.2.1 (oJ (λ(a b:aJ)=>Y2 (seq a.1 b.1) (Y2 (seq a.2.1 b.2.1) (x8 a.2.2 b.2.2))) c.2.2.2.2.1 d 0)) λv=>l9 (ak c.2.2.1 (ae (oJ (λ(a b:aJ)=>Y2 (seq a.1 b.1) (Y2 (seq a.2.1 b.2.1) (x8 a.2.2 b.2.2))) c.2.2.2.2.1 d 0))) λn=>l9 (jZ j) λq=>l9 (J9 c.2.2.1 (oJ (λ(a b:aJ)=>Y2 (seq a.1 b.1) (Y2 (seq a.2.1 b.2.1) (x8 a.2.2 b.2.2))) c.2.2.2.2.1 d 0)) λw=>l9 (ak c.2.2.1 (ae (oJ (λ(a b:aJ)=>Y2 (seq a.1 b.1) (Y2 (seq a.2.1 b.2.1) (x8 a.2.2 b.2.2))) c.2.2.2.2.1 d 0))) λz=>some (.inl (c.1,bC c.2.1 (ae (oJ (λ(a b:aJ)=>Y2 (seq a.1 b.1) (Y2 (seq a.2.1 b.2.1) (x8 a.2.2 b.2.2))) c.2.2.2.2.1 d 0)) (D5 .i64 k 1),bC c.2.2.1 (ae (oJ (λ(a b:aJ)=>Y2 (seq a.1 b.1) (Y2 (seq a.2.1 b.2.1) (x8 a.2.2 b.2.2))) c.2.2.2.2.1 d 0)) (D5 .i64 n q),bC c.2.2.2.1 (ae (oJ (λ(a b:aJ)=>Y2 (seq a.1 b.1) (Y2 (seq a.2.1 b.2.1) (x8 a.2.2 b.2.2))) c.2.2.2.2.1 d 0)) x.2.2.2.2.2,c.2.2.2.2.1,D5 .i64 c.2.2.2.2.2 1))))) (some (.inr (c.1,c.2.1,c.2.2.1,c.2.2.2.1,c.2.2.2.2.1)))) (x.1,x.2.1,x.2.2.1,x.2.2.2.1,x.2.2.2.2.1,0)) λy=>some (.inl (y.1,y.2.1,y.2.2.1,y.2.2.2.1,y.2.2.2.2,D5 .i64 x.2.2.2.2.2 1)))) (some (.inr (x.1,x.2.1,x.2.2.1)))) ([],[],[],[],[],0)) λy=>some y
def q11:FQ:=⟨[uD y9],⟨[(.tmp 2,uO y3),(.tmp 3,uoM),(.tmp 4,uoM)],[]⟩,mE 89 [(15,s15),(23,s23)],sN 4 (Y6 (sN 1 (bU (.loop [(5,12),(13,16),(19,86),(13001024,13001025)] ⟨[(5,(uO y3)),(6,uoM),(7,uoM),(8,uoM),(9,(false,(oW (.ent true false y3 (.int .i64))))),(19,G6)],[]⟩ 0 ⟨[(5,(uO y3)),(6,uoM),(7,uoM)],[]⟩ (sN 2 (Y6 (bU (sN 3 (bU (.loop [(5,10),(13,16),(30,85),(20000000,20000005)] ⟨[(5,(uO y3)),(6,uoM),(7,uoM),(8,uoM),(9,(false,(oW (.ent true false y3 (.int .i64))))),(30,G6)],[]⟩ 2 ⟨[(5,(uO y3)),(6,uoM),(7,uoM),(8,uoM),(9,(false,(oW (.ent true false y3 (.int .i64)))))],[]⟩ F6)))) F6))))) F6)⟩
def s11:FSpec:=U8 q11 λx=>ut x
def Dy(A:List Int)(B:List Int):Option Bool:=o5 (F8 (x8 (o9 A) (o9 B))) (some false) (l9 (aC (λ(x:Int)=>o5 (J4 x (o9 A)) (o5 (J4 x (o9 B)) (l9 (J9 A x) λb=>l9 (J9 B x) λc=>o5 (F8 (x8 b c)) (some (.rt false)) (some (.nx (D5 .i64 x 1)))) (some (.ex ()))) (some (.ex ()))) 0) λo=>az o (λy=>some true) λr=>some r)
def q12:FQ:=⟨[uD y45,uD y45],tR 4 di,mE 32 [],sN 2 (Y6 (sN 1 (bU (lpR [(4,6),(11,32)] ⟨[(5,G6)],[]⟩ 0 sgN F6))) F6)⟩
def s12:FSpec:=U8 q12 λx=>Dy x.1 x.2
def pI:Option Bool:=l9 (wJ [(3,1000)]) λx=>l9 (wJ [(7,0)]) λd=>l9 (yK x d 0 [(45000,[(3,0,1200)],[]),(45000,[(3,0,1000)],[])] 0) λx=>l9 (ja x.1 x.2.1 []) λb=>l9 (ut x.1) λc=>l9 (o5 (F8 (x8 x.2.2 0)) (some (.inr false)) (o5 (F8 (x8 (o9 b) 3)) (some (.inr false)) (o5 (F8 (x8 (o9 c.1) 1)) (some (.inr false)) (some (.inl ()))))) λo=>az o (λf=>o5 (Y2 (x8 x.2.1.1 2) (Y2 (x8 x.2.1.2.1 1) (Y2 (x8 x.2.1.2.2.1 1) (Y2 (x8 x.2.1.2.2.2.1 0) (Y2 (x8 x.2.1.2.2.2.2.1 0) (Y2 (x8 x.2.1.2.2.2.2.2.1 2000) (x8 x.2.1.2.2.2.2.2.2 2200))))))) (l9 (J9 b 0) λx=>l9 (ak b (ae 0)) λx=>o5 (seq x [99,97,115,101,115,32,50,32,99,104,97,110,103,101,100,32,49,32,103,97,105,110,101,100,32,49,32,114,101,100,117,99,101,100,32,48,32,102,97,105,108,101,100,32,48]) (l9 (J9 b 1) λx=>l9 (ak b (ae 1)) λx=>o5 (seq x [111,108,100,32,50,48,46,48,48,32,110,101,119,32,50,50,46,48,48]) (l9 (J9 b 2) λx=>l9 (ak b (ae 2)) λx=>o5 (seq x [99,97,115,101,32,48,58,32,49,48,46,48,48,32,45,62,32,49,50,46,48,48,32,98,121,32,104,111,117,115,101,46,98,97,115,101]) (l9 (J9 c.1 0) λx=>l9 (ak c.1 (ae 0)) λx=>o5 (Y2 (seq x.1 [104,111,117,115,101]) (Y2 (seq x.2.1 [98,97,115,101]) (x8 x.2.2 3))) (l9 (Dy c.2.1 [1]) λx=>o5 x (l9 (Dy c.2.2 [200]) λx=>some x) (some false)) (some false)) (some false)) (some false)) (some false)) (some false)) λr=>some r
def q5:FQ:=⟨[],tR 0 di,mE 93 [(9,s9),(10,s10),(7,s7),(11,s11),(12,s12)],sN 8 (Y6 (jnR [(0,1),(43,55)] sgN F6) F6)⟩
def s5:FSpec:=U8 q5 λx=>pI
def VU:List MG:=[(false,(.dat (.int .u64)))]
def a1b:Ret:=⟨[(.tmp 2,(false,(.dat .str)))],[]⟩
def e28 (r28:M.den (.dat (.int .u64))->Option (ai ([(false,(.dat .str))]++[]))):Env:=⟨20,eqs,tt,gl,[(28,⟨VU,[(false,(.dat .str))],[],λx=>r28 x⟩)],[],[],[],[],[]⟩
def a3K:Ann:=.leaf
def nK(r28:Int->Option (List UInt8))(A:Int):Option (List UInt8):=o5 (J4 A 10) (some (Fb [wrap .u8 (D5 .u64 48 A)])) (l9 (r28 (fM .u64 A 10)) λx=>l9 (X0 x (Fb [wrap .u8 (D5 .u64 48 (kN A 10))])) λx=>some x)
def gG:Nat->(M.den (.dat (.int .u64))->Option (ai ([(false,(.dat .str))]++[])))|0=>λa0=>none|n+1=>λa0=>nK (gG n) a0
def qG:M.den (.dat (.int .u64))->Option (ai ([(false,(.dat .str))]++[])):=λa0=>(gG mZ) a0
def s28:FSpec:=mkS VU a1b λx=>qG x
def Y0(A:Int):Option (List UInt8):=o5 (J4 A 0) (l9 (qG (D5 .u64 (wrap .u64 (I4 .i64 0 (D5 .i64 A 1))) 1)) λx=>l9 (X0 [45] x) λx=>some x) (l9 (qG (wrap .u64 A)) λx=>some x)
def q17:FQ:=⟨[G6],tR 2 (uD .str),mE 15 [(28,s28)],F6⟩
def s17:FSpec:=U8 q17 λx=>Y0 x
def yz(A:Int):Option Int:=some (wo (oG A 0) 9)
def q29:FQ:=⟨[G6],tR 2 G6,mE 6 [],F6⟩
def s29:FSpec:=U8 q29 λx=>yz x
def oN(A:List UInt8):Option (List UInt8×Bool):=o5 (J4 0 (o9 A)) (l9 (sat A 0) λx=>o5 (x8 x 45) (l9 (jD A 1 (o9 A)) λx=>some (x,true)) (some (A,false))) (some (A,false))
def q30:FQ:=⟨[uD .str],⟨[(.tmp 2,(uD .str)),(.tmp 3,di)],[]⟩,mE 15 [],F6⟩
def s30:FSpec:=U8 q30 λx=>oN x
def Z9(A:Int)(B:Int):Option (List UInt8):=l9 (yz B) λx=>o5 (x8 x 0) (l9 (Y0 A) λx=>some x) (l9 (Y0 A) λd=>l9 (oN d) λc=>l9 (Y5 (λ(b:List UInt8)=>o5 (aN (o9 b) x) (l9 (X0 [48] b) λx=>some (.inl x)) (some (.inr b))) c.1) λy=>l9 (jD y 0 (I4 .i64 (o9 y) x)) λb=>l9 (X0 b [46]) λf=>l9 (jD y (I4 .i64 (o9 y) x) (o9 y)) λx=>l9 (X0 f x) λx=>o5 c.2 (l9 (X0 [45] x) λx=>some x) (some x))
def q18:FQ:=⟨[G6,G6],tR 4 (uD .str),mE 44 [(29,s29),(17,s17),(30,s30)],sN 4 (Y6 (bU (.loop [(6,7),(20,26)] ⟨[(6,(uD .str))],[]⟩ 0 ⟨[(6,(uD .str))],[]⟩ F6)) F6)⟩
def s18:FSpec:=U8 q18 λx=>Z9 x.1 x.2
def lZ(A:Z7):Option Bool:=o5 (F8 (qB (x8 A.2.2.1 0) (x8 A.2.2.2.1 0))) (some true) (o5 (x8 A.2.2.1 0) (some (F8 (Y2 (x8 A.1.1 A.2.1.1) (Y2 (x8 A.1.2.1 A.2.1.2.1) (x8 A.1.2.2 A.2.1.2.2))))) (some false))
def q19:FQ:=⟨[tD y8],tR 2 di,mE 20 [],F6⟩
def s19:FSpec:=U8 q19 λx=>lZ x
def oP(A:N8):Option J6:=some (A.1,A.2.1)
def q49:FQ:=⟨[tD y1],cR 2 68 (tD y0),mE 8 [],F6⟩
def s49:FSpec:=U8 q49 λx=>oP x
def bz(A:J6)(B:List dB):Option Bool:=o5 (x8 A.1 6) (o5 (aN 0 A.2) (some (J4 A.2 (o9 B))) (some false)) (o5 (aN 1 A.1) (o5 (aN A.1 5) (some (x8 A.2 0)) (some false)) (some false))
def q48:FQ:=⟨[tD y0,uD y15],tR 4 di,mE 31 [],F6⟩
def s48:FSpec:=U8 q48 λx=>bz x.1 x.2
def lh(A:J6)(B:List dB):Option J6:=l9 (bz A B) λx=>o5 (F8 x) (some (0,-1)) (o5 (x8 A.1 1) (some (0,1)) (o5 (x8 A.1 2) (some (-1000000000000,1000000000000)) (o5 (x8 A.1 3) (some (-1000000000000000,1000000000000000)) (o5 (x8 A.1 4) (some (-1000000000,1000000000)) (o5 (x8 A.1 5) (some (0,109572)) (l9 (J9 B A.2) λx=>some (0,I4 .i64 (o9 x.2) 1)))))))
def ZP:FQ:=⟨[tD y0,uD y15],⟨[(.tmp 4,G6),(.tmp 5,G6)],[]⟩,mE 30 [(48,s48)],F6⟩
def a1e:FSpec:=U8 ZP λx=>lh x.1 x.2
def BL(A:Int)(B:J6)(C:List dB):Option Bool:=l9 (lh B C) λx=>o5 (aN x.1 A) (some (aN A x.2)) (some false)
def q78:FQ:=⟨[G6,tD y0,uD y15],tR 6 di,mE 23 [(111,a1e)],F6⟩
def s78:FSpec:=U8 q78 λx=>BL x.1 x.2.1 x.2.2
def uk(A:N8)(B:List dB):Option Bool:=l9 (oP A) λx=>l9 (bz x B) λx=>o5 x (l9 (oP A) λx=>l9 (BL A.2.2 x B) λx=>some x) (some false)
def q50:FQ:=⟨[tD y1,uD y15],tR 4 di,mE 17 [(49,s49),(48,s48),(78,s78)],F6⟩
def s50:FSpec:=U8 q50 λx=>uk x.1 x.2
def pM(A:Int):Option Bool:=o5 (aN 0 A) (some (aN A 109572)) (some false)
def q79:FQ:=⟨[G6],tR 2 di,mE 9 [],F6⟩
def s79:FSpec:=U8 q79 λx=>pM x
def qI(A:Int):Option Bool:=o5 (x8 (kN A 4) 0) (o5 (F8 (x8 (kN A 100) 0)) (some true) (some (x8 (kN A 400) 0))) (some false)
def p_:FQ:=⟨[G6],tR 2 di,mE 16 [],F6⟩
def Xz:FSpec:=U8 p_ λx=>qI x
def ed(A:Int):Option Int:=l9 (qI A) λx=>o5 x (some 366) (some 365)
def ZQ:FQ:=⟨[G6],tR 2 G6,mE 5 [(146,Xz)],F6⟩
def a1f:FSpec:=U8 ZQ λx=>ed x
def dG(A:Int)(B:Int):Option Int:=o5 (x8 B 2) (l9 (qI A) λx=>o5 x (some 29) (some 28)) (l9 (o5 (x8 B 4) (some (x8 B 4)) (o5 (x8 B 6) (some (x8 B 6)) (o5 (x8 B 9) (some (x8 B 9)) (some (x8 B 11))))) λx=>o5 x (some 30) (o5 (x8 B 1) (o5 (x8 B 1) (some 31) (some 0)) (o5 (x8 B 3) (o5 (x8 B 3) (some 31) (some 0)) (o5 (x8 B 5) (o5 (x8 B 5) (some 31) (some 0)) (o5 (x8 B 7) (o5 (x8 B 7) (some 31) (some 0)) (o5 (x8 B 8) (o5 (x8 B 8) (some 31) (some 0)) (o5 (x8 B 10) (o5 (x8 B 10) (some 31) (some 0)) (o5 (x8 B 12) (some 31) (some 0)))))))))
def ZR:FQ:=⟨[G6,G6],tR 4 G6,mE 23 [(146,Xz)],sN 1 (Y6 (sN 1 (bU (sN 1 (.cond F6 (Y6 (.join [(10,15)] ⟨[(10,di)],[]⟩ F6) F6))))) F6)⟩
def a1g:FSpec:=U8 ZR λx=>dG x.1 x.2
def uj(A:Int):Option N8:=l9 (pM A) λx=>o5 (F8 x) (some (0,0,0)) (l9 (Y5 (λ(x:J6)=>l9 (ed x.2) λb=>o5 (aN b x.1) (l9 (ed x.2) λc=>some (.inl (I4 .i64 x.1 c,D5 .i64 x.2 1))) (some (.inr x))) (A,1900)) λy=>l9 (Y5 (λ(x:J6)=>l9 (dG y.2 x.2) λb=>o5 (aN b x.1) (l9 (dG y.2 x.2) λc=>some (.inl (I4 .i64 x.1 c,D5 .i64 x.2 1))) (some (.inr x))) (y.1,1)) λy_1=>some (y.2,y_1.2,D5 .i64 y_1.1 1))
def q80:FQ:=⟨[G6],⟨[(.tmp 2,G6),(.tmp 3,G6),(.tmp 4,G6)],[]⟩,mE 36 [(79,s79),(112,a1f),(113,a1g)],sN 3 (Y6 (bU (.loop [(0,1),(5,6),(10,20)] ⟨[(0,G6),(5,G6)],[]⟩ 0 ⟨[(0,G6),(5,G6)],[]⟩ F6)) (Y6 (bU (.loop [(0,1),(6,7),(20,32)] ⟨[(0,G6),(6,G6)],[]⟩ 2 ⟨[(0,G6),(6,G6)],[]⟩ F6)) F6))⟩
def s80:FSpec:=U8 q80 λx=>uj x
def oO(A:Int)(B:Int):Option (List UInt8):=l9 (Y0 A) λx=>l9 (Y5 (λ(x:List UInt8)=>o5 (J4 (o9 x) B) (l9 (X0 [48] x) λx=>some (.inl x)) (some (.inr x))) x) λy=>some y
def q81:FQ:=⟨[G6,G6],tR 4 (uD .str),mE 15 [(17,s17)],sN 2 (Y6 (bU (.loop [(5,6),(8,14)] ⟨[(5,(uD .str))],[]⟩ 0 ⟨[(5,(uD .str))],[]⟩ F6)) F6)⟩
def s81:FSpec:=U8 q81 λx=>oO x.1 x.2
def qH(A:Int):Option (List UInt8):=l9 (pM A) λx=>o5 (F8 x) (some []) (l9 (uj A) λx=>l9 (oO x.1 4) λb=>l9 (X0 b [45]) λc=>l9 (oO x.2.1 2) λd=>l9 (X0 c d) λf=>l9 (X0 f [45]) λg=>l9 (oO x.2.2 2) λx=>l9 (X0 g x) λx=>some x)
def q51:FQ:=⟨[G6],tR 2 (uD .str),mE 25 [(79,s79),(80,s80),(81,s81)],F6⟩
def s51:FSpec:=U8 q51 λx=>qH x
def nM(A:N8)(B:List dB):Option (List UInt8×Int):=l9 (oP A) λx=>l9 (bz x B) λx=>o5 (F8 x) (some ([],8)) (l9 (uk A B) λx=>o5 (F8 x) (some ([],3)) (o5 (x8 A.1 1) (o5 (x8 A.2.2 0) (some ([102,97,108,115,101],0)) (some ([116,114,117,101],0))) (o5 (x8 A.1 2) (l9 (Y0 A.2.2) λx=>some (x,0)) (o5 (x8 A.1 3) (l9 (Z9 A.2.2 2) λx=>some (x,0)) (o5 (x8 A.1 4) (l9 (Z9 A.2.2 4) λx=>l9 (X0 x [37]) λx=>some (x,0)) (o5 (x8 A.1 5) (l9 (qH A.2.2) λx=>some (x,0)) (l9 (J9 B A.2.1) λx=>l9 (J9 x.2 A.2.2) λx=>some (x,0))))))))
def q31:FQ:=⟨[tD y1,uD y15],⟨[(.tmp 4,(uD .str)),(.tmp 5,G6)],[]⟩,mE 53 [(49,s49),(48,s48),(50,s50),(17,s17),(18,s18),(51,s51)],F6⟩
def s31:FSpec:=U8 q31 λx=>nM x.1 x.2
def sF(A:N8)(B:Int)(C:List dB):Option (List UInt8):=o5 (F8 (x8 B 0)) (l9 (Y0 B) λx=>l9 (X0 [101,114,114,111,114,32] x) λx=>some x) (l9 (nM A C) λx=>o5 (F8 (x8 x.2 0)) (some [63]) (some x.1))
def q20:FQ:=⟨[tD y1,G6,uD y15],tR 6 (uD .str),mE 23 [(17,s17),(31,s31)],F6⟩
def s20:FSpec:=U8 q20 λx=>sF x.1 x.2.1 x.2.2
def qJ(A:List Z7)(B:U5)(C:List dB):Option (List (List UInt8)):=l9 (Y0 B.1) λx=>l9 (X0 [99,97,115,101,115,32] x) λx=>l9 (X0 x [32,99,104,97,110,103,101,100,32]) λx=>l9 (Y0 B.2.1) λk=>l9 (X0 x k) λx=>l9 (X0 x [32,103,97,105,110,101,100,32]) λx=>l9 (Y0 B.2.2.1) λm=>l9 (X0 x m) λx=>l9 (X0 x [32,114,101,100,117,99,101,100,32]) λx=>l9 (Y0 B.2.2.2.1) λs=>l9 (X0 x s) λx=>l9 (X0 x [32,102,97,105,108,101,100,32]) λx=>l9 (Y0 B.2.2.2.2.1) λx_4=>l9 (X0 x x_4) λx=>l9 (Z9 B.2.2.2.2.2.1 2) λx_5=>l9 (X0 [111,108,100,32] x_5) λx_6=>l9 (X0 x_6 [32,110,101,119,32]) λx_7=>l9 (Z9 B.2.2.2.2.2.2 2) λx_8=>l9 (X0 x_7 x_8) λx_9=>l9 (bQ [x] [x_9]) λx=>l9 (Y5 (λ(x:List (List UInt8)×Int)=>o5 (J4 x.2 (o9 A)) (l9 (J9 A x.2) λb=>l9 (lZ b) λn=>o5 (F8 n) (some (.inl (x.1,D5 .i64 x.2 1))) (l9 (Y0 x.2) λp=>l9 (X0 [99,97,115,101,32] p) λq=>l9 (X0 q [58,32]) λt=>l9 (sF b.1 b.2.2.1 C) λu=>l9 (X0 t u) λv=>l9 (X0 v [32,45,62,32]) λw=>l9 (sF b.2.1 b.2.2.2.1 C) λz=>l9 (X0 w z) λh=>l9 (Y5 (λ(x:List UInt8×Int)=>o5 (J4 x.2 (o9 b.2.2.2.2)) (o5 (x8 x.2 0) (l9 (X0 x.1 [32,98,121,32]) λc=>l9 (J9 b.2.2.2.2 x.2) λd=>l9 (X0 c d.1) λf=>l9 (X0 f [46]) λg=>l9 (J9 b.2.2.2.2 x.2) λi=>l9 (X0 g i.2.1) λj=>some (.inl (j,D5 .i64 x.2 1))) (l9 (X0 x.1 [44,32]) λc=>l9 (J9 b.2.2.2.2 x.2) λd=>l9 (X0 c d.1) λf=>l9 (X0 f [46]) λg=>l9 (J9 b.2.2.2.2 x.2) λi=>l9 (X0 g i.2.1) λj=>some (.inl (j,D5 .i64 x.2 1)))) (some (.inr x.1))) (h,0)) λy=>l9 (bQ x.1 [y]) λc=>some (.inl (c,D5 .i64 x.2 1)))) (some (.inr x.1))) (x,0)) λy=>some y
def q8:FQ:=⟨[uD y9,tD y13,uD y15],tR 6 (uO .str),mE 115 [(17,s17),(18,s18),(19,s19),(20,s20)],sN 3 (Y6 (sN 1 (bU (.loop [(7,12),(49,114),(10003072,10003073)] ⟨[(7,(uO .str)),(8,G6)],[]⟩ 0 ⟨[(7,(uO .str))],[]⟩ (sN 1 (Y6 (bU (sN 3 (Y6 (sN 1 (bU (.loop [(10,12),(81,110)] ⟨[(10,(uD .str)),(11,G6)],[]⟩ 2 ⟨[(10,(uD .str))],[]⟩ F6))) F6))) F6))))) F6)⟩
def s8:FSpec:=U8 q8 λx=>qJ x.1 x.2.1 x.2.2
def qM(A:List (List UInt8))(B:List (List UInt8)):Option Bool:=o5 (F8 (x8 (o9 A) (o9 B))) (some false) (l9 (aC (λ(x:Int)=>o5 (J4 x (o9 A)) (o5 (J4 x (o9 B)) (l9 (J9 A x) λb=>l9 (J9 B x) λc=>o5 (F8 (seq b c)) (some (.rt false)) (some (.nx (D5 .i64 x 1)))) (some (.ex ()))) (some (.ex ()))) 0) λo=>az o (λy=>some true) λr=>some r)
def q6:FQ:=⟨[uD (.sl .str),(uD (.sl .str))],tR 4 di,mE 32 [],sN 2 (Y6 (sN 1 (bU (lpR [(4,6),(11,32)] ⟨[(5,G6)],[]⟩ 0 sgN F6))) F6)⟩
def s6:FSpec:=U8 q6 λx=>qM x.1 x.2
def ps3:List MG:=[(false,(.dat y9)),(true,(.dat y13)),(false,(.dat y15))]
def jK(A:List Z7)(B:U5)(C:List dB):Option Bool:=l9 (tZ A) λx=>o5 (F8 x) (l9 pI λx=>some x) (o5 (J4 20 (o9 C)) (l9 pI λx=>some x) (l9 (ja A B C) λx=>l9 (qJ A B C) λb=>l9 (qM x b) λx=>o5 x (l9 pI λx=>some x) (some false)))
def q3:FQ:=⟨ps3,tR 6 di,mE 28 [(4,s4),(5,s5),(7,s7),(8,s8),(6,s6)],F6⟩
def s3:FSpec:=U8 q3 λx=>jK x.1 x.2.1 x.2.2
end
end Gt
