import Derived.Test.YtoilbhecaokonabGreatDoorT1
set_option linter.all false
open Go Go.GP
namespace Gt
abbrev xQ:List UInt8:=[0,1,2,2,3,3,3,3,4,4,4,4,4,4,4,4,5,5,5,5,5,5,5,5,5,5,5,5,5,5,5,5,6,6,6,6,6,6,6,6,6,6,6,6,6,6,6,6,6,6,6,6,6,6,6,6,6,6,6,6,6,6,6,6,7,7,7,7,7,7,7,7,7,7,7,7,7,7,7,7,7,7,7,7,7,7,7,7,7,7,7,7,7,7,7,7,7,7,7,7,7,7,7,7,7,7,7,7,7,7,7,7,7,7,7,7,7,7,7,7,7,7,7,7,7,7,7,7,8,8,8,8,8,8,8,8,8,8,8,8,8,8,8,8,8,8,8,8,8,8,8,8,8,8,8,8,8,8,8,8,8,8,8,8,8,8,8,8,8,8,8,8,8,8,8,8,8,8,8,8,8,8,8,8,8,8,8,8,8,8,8,8,8,8,8,8,8,8,8,8,8,8,8,8,8,8,8,8,8,8,8,8,8,8,8,8,8,8,8,8,8,8,8,8,8,8,8,8,8,8,8,8,8,8,8,8,8,8,8,8,8,8,8,8,8,8,8,8,8,8,8,8,8,8,8,8]
set_option maxRecDepth 100000
noncomputable section
def Iu(f:Func):Code:=match f.body with|some c=>c|none=> .skip
abbrev mkS(ps:List MG)(rt:Ret)(F:ay ps->Option rt.den):FSpec:=⟨ps,rt.rs.map (·.2),rt.outs.map (·.2),F⟩
structure FQ where
 (ps:List MG)
 (rt:Ret)
 (E:Env)
 (an:Ann)
abbrev V4(q:FQ)(F:ay q.ps->Option q.rt.den):FSpec:=mkS q.ps q.rt F
abbrev jnR:=Ann.joinR
abbrev lpR:=Ann.loopR
abbrev Y6:=Ann.seq
abbrev bV:=Ann.blk
abbrev sgN:Sig:=⟨[],[]⟩
def sN:Nat->Ann->Ann
 |0,a=>a|n+1,a=> .seq .leaf (sN n a)
abbrev uO(t:Ty):MG:=(false,.own t)
abbrev uD(t:Ty):MG:=(false,.dat t)
abbrev tD(t:Ty):MG:=(true,.dat t)
abbrev pA:=M.pair
abbrev oW:=M.own
abbrev dT:=M.dat
abbrev F7:Ann:=.leaf
abbrev diM:M:=.dat (.int .i64)
abbrev oiM:M:=.own (.int .i64)
abbrev dbM:M:=.dat .bool
abbrev H6:MG:=(false,diM)
abbrev dn:MG:=(false,dbM)
abbrev eX:MG:=(false,oiM)
abbrev y0:Ty:=.prod (.int .i64) (.int .i64)
abbrev y1:Ty:=.prod (.int .i64) y0
abbrev y2:Ty:=.prod .str (.int .i64)
abbrev y3:Ty:=.prod .str y2
abbrev y4:Ty:=.sl y3
abbrev y5:Ty:=.prod (.int .i64) y4
abbrev y6:Ty:=.prod (.int .i64) y5
abbrev y7:Ty:=.prod y1 y6
abbrev y8:Ty:=.prod y1 y7
abbrev y9:Ty:=.sl y8
abbrev y10:Ty:=.sl (.int .i64)
abbrev y11:Ty:=.prod .str (.sl .str)
abbrev y12:Ty:=.sl y11
abbrev y13:Ty:=.prod y0 y1
abbrev y14:Ty:=.sl y13
abbrev y15:Ty:=.prod y0 y14
abbrev y16:Ty:=.prod y0 y15
abbrev y17:Ty:=.prod .str y16
abbrev y18:Ty:=.sl y17
abbrev y19:Ty:=.prod .str y0
abbrev y20:Ty:=.sl y19
abbrev y21:Ty:=.sl y0
abbrev y22:Ty:=.prod y21 .str
abbrev y23:Ty:=.prod y21 y22
abbrev y24:Ty:=.prod y0 y23
abbrev y25:Ty:=.prod (.int .i64) y24
abbrev y26:Ty:=.prod (.int .i64) y25
abbrev y27:Ty:=.prod (.int .i64) y26
abbrev y28:Ty:=.prod .str y27
abbrev y29:Ty:=.sl y28
abbrev y30:Ty:=.prod y20 y29
abbrev y31:Ty:=.prod y20 y30
abbrev y32:Ty:=.prod (.int .i64) y31
abbrev y33:Ty:=.prod .str y32
abbrev y34:Ty:=.sl y33
abbrev y35:Ty:=.prod y18 y34
abbrev y36:Ty:=.prod y12 y35
abbrev y37:Ty:=.sl y1
abbrev y38:Ty:=.sl y37
abbrev y39:Ty:=.prod y37 y38
abbrev y40:Ty:=.prod (.int .i64) y39
abbrev y41:Ty:=.prod (.int .i64) y1
abbrev y42:Ty:=.prod (.int .i64) y41
abbrev y43:Ty:=.prod (.int .i64) y42
abbrev y44:Ty:=.prod (.int .i64) y43
abbrev y45:Ty:=.sl y40
abbrev y46:Ty:=.sl (.ent true false y3 (.int .i64))
abbrev y47:Ty:=.prod .str .str
abbrev y48:Ty:=.sl (.ent true false y47 .bool)
abbrev y49:Ty:=.sl (.int .u8)
abbrev y50:Ty:=.sl (.ent false false .str (.int .i64))
abbrev y51:Ty:=.prod y33 y50
abbrev y52:Ty:=.sl (.ent false true .str y51)
abbrev y53:Ty:=.prod y37 y10
abbrev y54:Ty:=.sl y53
abbrev y55:Ty:=.prod y10 y54
abbrev y56:Ty:=.prod y37 y55
abbrev y57:Ty:=.prod y21 y18
abbrev y58:Ty:=.prod y38 y57
abbrev y59:Ty:=.prod y37 y58
abbrev y60:Ty:=.prod y37 y59
abbrev y61:Ty:=.prod (.int .i64) y60
abbrev y62:Ty:=.sl (.ent false false (.int .i64) .bool)
abbrev y63:Ty:=.sl y10
abbrev y64:Ty:=.prod y0 .str
abbrev y65:Ty:=.prod (.int .i64) y64
abbrev y66:Ty:=.prod .str y65
abbrev y67:Ty:=.prod .str y66
abbrev y68:Ty:=.prod y21 .bool
abbrev y69:Ty:=.prod y21 y68
abbrev y70:Ty:=.prod y21 y69
abbrev y71:Ty:=.prod y18 y70
abbrev y72:Ty:=.prod y12 y71
abbrev y73:Ty:=.prod (.sl .bool) (.sl .bool)
abbrev y74:Ty:=.prod y33 y73
abbrev y75:Ty:=.prod y33 y74
abbrev y76:Ty:=.prod y10 y61
abbrev y77:Ty:=.prod y21 y76
abbrev y78:Ty:=.prod y10 y10
abbrev y79:Ty:=.prod y10 y78
def tt:List (Nat×TI):=[(3,⟨1,8,(.int .i64),some (.int .i64),[.i .i64 0]⟩),(4,⟨1,1,.bool,some .bool,[.b false]⟩),(5,⟨1,1,(.int .u8),some (.int .u8),[.i .u8 0]⟩),(9,⟨1,16,.str,some .str,[.s []]⟩),(22,⟨1,24,(.sl 35),some y9,[.nl]⟩),(25,⟨1,24,(.sl 57),some y4,[.nl]⟩),(26,⟨1,24,(.sl 3),some y10,[.nl]⟩),(32,⟨3,24,(.struct [(3,0),(3,1),(3,2)]),some y1,[.i .i64 0,.i .i64 0,.i .i64 0]⟩),(33,⟨1,8,(.int .i64),some (.int .i64),[.i .i64 0]⟩),(35,⟨9,88,(.struct [(32,0),(32,3),(33,6),(33,7),(25,8)]),some y8,[.i .i64 0,.i .i64 0,.i .i64 0,.i .i64 0,.i .i64 0,.i .i64 0,.i .i64 0,.i .i64 0,.nl]⟩),(36,⟨1,24,(.sl 104),some y12,[.nl]⟩),(37,⟨1,24,(.sl 109),some y18,[.nl]⟩),(38,⟨1,24,(.sl 74),some y34,[.nl]⟩),(40,⟨3,72,(.struct [(36,0),(37,1),(38,2)]),some y36,[.nl,.nl,.nl]⟩),(43,⟨2,16,(.struct [(3,0),(3,1)]),some y0,[.i .i64 0,.i .i64 0]⟩),(44,⟨1,24,(.sl 43),some y21,[.nl]⟩),(45,⟨1,24,(.sl 32),some y37,[.nl]⟩),(46,⟨1,24,(.sl 45),some y38,[.nl]⟩),(48,⟨3,56,(.struct [(3,0),(45,1),(46,2)]),some y40,[.i .i64 0,.nl,.nl]⟩),(50,⟨7,56,(.struct [(3,0),(3,1),(3,2),(3,3),(3,4),(3,5),(3,6)]),some y44,[.i .i64 0,.i .i64 0,.i .i64 0,.i .i64 0,.i .i64 0,.i .i64 0,.i .i64 0]⟩),(53,⟨1,24,(.sl 48),some y45,[.nl]⟩),(54,⟨1,24,(.sl 9),some (.sl .str),[.nl]⟩),(57,⟨3,40,(.struct [(9,0),(9,1),(3,2)]),some y3,[.s [],.s [],.i .i64 0]⟩),(58,⟨1,8,(.map 57 3),some y46,[.sl (.ent true false y3 (.int .i64)) []]⟩),(64,⟨2,16,(.struct [(3,0),(3,1)]),some y0,[.i .i64 0,.i .i64 0]⟩),(66,⟨2,16,(.struct [(3,0),(3,1)]),some y0,[.i .i64 0,.i .i64 0]⟩),(68,⟨9,120,(.struct [(9,0),(3,1),(3,2),(3,3),(64,4),(44,6),(44,7),(9,8)]),some y28,[.s [],.i .i64 0,.i .i64 0,.i .i64 0,.i .i64 0,.i .i64 0,.nl,.nl,.s []]⟩),(70,⟨3,32,(.struct [(9,0),(66,1)]),some y19,[.s [],.i .i64 0,.i .i64 0]⟩),(71,⟨1,24,(.sl 70),some y20,[.nl]⟩),(72,⟨1,24,(.sl 68),some y29,[.nl]⟩),(74,⟨5,96,(.struct [(9,0),(3,1),(71,2),(71,3),(72,4)]),some y33,[.s [],.i .i64 0,.nl,.nl,.nl]⟩),(81,⟨2,32,(.arr 2 9),none,[.s [],.s []]⟩),(84,⟨4,32,(.struct [(33,0),(3,1),(3,2),(3,3)]),some y41,[.i .i64 0,.i .i64 0,.i .i64 0,.i .i64 0]⟩),(89,⟨1,8,(.map 93 4),some y48,[.sl (.ent true false y47 .bool) []]⟩),(93,⟨2,32,(.struct [(9,0),(9,1)]),some y47,[.s [],.s []]⟩),(101,⟨1,24,(.sl 5),some y49,[.nl]⟩),(104,⟨2,40,(.struct [(9,0),(54,1)]),some y11,[.s [],.nl]⟩),(107,⟨1,24,(.sl 152),some y14,[.nl]⟩),(109,⟨6,72,(.struct [(9,0),(66,1),(66,3),(107,5)]),some y17,[.s [],.i .i64 0,.i .i64 0,.i .i64 0,.i .i64 0,.nl]⟩),(114,⟨4,32,(.struct [(33,0),(3,1),(3,2),(3,3)]),some y41,[.i .i64 0,.i .i64 0,.i .i64 0,.i .i64 0]⟩),(120,⟨1,8,(.map 9 175),some y52,[.sl (.ent false true .str y51) []]⟩),(126,⟨1,8,(.int .u64),some (.int .u64),[.i .u64 0]⟩),(135,⟨1,16,.other,none,[]⟩),(152,⟨5,40,(.struct [(64,0),(3,2),(3,3),(3,4)]),some y13,[.i .i64 0,.i .i64 0,.i .i64 0,.i .i64 0,.i .i64 0]⟩),(157,⟨1,24,(.sl 220),some y54,[.nl]⟩),(159,⟨3,72,(.struct [(45,0),(26,1),(157,2)]),some y56,[.nl,.nl,.nl]⟩),(160,⟨1,24,(.sl 66),some y21,[.nl]⟩),(162,⟨6,128,(.struct [(3,0),(45,1),(45,2),(46,3),(160,4),(37,5)]),some y61,[.i .i64 0,.nl,.nl,.nl,.nl,.nl]⟩),(165,⟨1,8,(.map 3 4),some y62,[.sl (.ent false false (.int .i64) .bool) []]⟩),(167,⟨1,24,(.sl 26),some y63,[.nl]⟩),(169,⟨1,24,(.sl 4),some (.sl .bool),[.nl]⟩),(173,⟨1,8,(.map 9 3),some y50,[.sl (.ent false false .str (.int .i64)) []]⟩),(175,⟨6,104,(.struct [(74,0),(173,5)]),some y51,[.s [],.i .i64 0,.nl,.nl,.nl,.sl (.ent false false .str (.int .i64)) []]⟩),(178,⟨6,72,(.struct [(9,0),(9,1),(3,2),(64,3),(9,5)]),some y67,[.s [],.s [],.i .i64 0,.i .i64 0,.i .i64 0,.s []]⟩),(185,⟨1,8,(.int .u64),some (.int .u64),[.i .u64 0]⟩),(208,⟨6,128,(.struct [(36,0),(37,1),(160,2),(160,3),(160,4),(4,5)]),some y72,[.nl,.nl,.nl,.nl,.nl,.b false]⟩),(215,⟨12,240,(.struct [(74,0),(74,5),(169,10),(169,11)]),some y75,[.s [],.i .i64 0,.nl,.nl,.nl,.s [],.i .i64 0,.nl,.nl,.nl,.nl,.nl]⟩),(220,⟨2,48,(.struct [(45,0),(26,1)]),some y53,[.nl,.nl]⟩),(265,⟨1,8,(.ptr 266),none,[]⟩),(266,⟨1,24,(.sl 3),some y10,[.nl]⟩),(273,⟨8,176,(.struct [(44,0),(26,1),(162,2)]),some y77,[.nl,.nl,.i .i64 0,.nl,.nl,.nl,.nl,.nl]⟩),(283,⟨12,96,(.arr 12 3),none,[.i .i64 0,.i .i64 0,.i .i64 0,.i .i64 0,.i .i64 0,.i .i64 0,.i .i64 0,.i .i64 0,.i .i64 0,.i .i64 0,.i .i64 0,.i .i64 0]⟩),(302,⟨3,72,(.struct [(26,0),(26,1),(26,2)]),some y79,[.nl,.nl,.nl]⟩)]
def eqs:List (Nat×List Ty):=[(32,[(.int .i64),(.int .i64),(.int .i64)]),(43,[(.int .i64),(.int .i64)]),(50,[(.int .i64),(.int .i64),(.int .i64),(.int .i64),(.int .i64),(.int .i64),(.int .i64)]),(57,[.str,.str,(.int .i64)]),(66,[(.int .i64),(.int .i64)]),(70,[.str,(.int .i64),(.int .i64)]),(84,[(.int .i64),(.int .i64),(.int .i64),(.int .i64)]),(93,[.str,.str]),(152,[(.int .i64),(.int .i64),(.int .i64),(.int .i64),(.int .i64)]),(178,[.str,.str,(.int .i64),(.int .i64),(.int .i64),.str])]
def gl:List (Nat×(t:Ty)×List t.den):=[(2,⟨.int .i64,[31,28,31,30,31,30,31,31,30,31,30,31]⟩),(0,⟨.int .u64,[1,10,100,1000,10000,100000,1000000,10000000,100000000,1000000000,10000000000,100000000000,1000000000000,10000000000000,100000000000000,1000000000000000,10000000000000000,100000000000000000,1000000000000000000,10000000000000000000]⟩)]
abbrev mE(n:Nat)(fs:List (Nat×FSpec)):Env:=⟨n,eqs,tt,gl,fs,[],[],[],[],[]⟩
abbrev tR(n:Nat)(m:MG):Ret:=⟨[(.tmp n,m)],[]⟩
abbrev cR(n k:Nat)(m:MG):Ret:=⟨[(.cell n k,m)],[]⟩
abbrev L8:Type:=Ty.den y0
abbrev bK:Type:=Ty.den y47
abbrev O9:Type:=Ty.den y1
abbrev F8:Type:=Ty.den y3
abbrev lQ:Type:=Ty.den y19
abbrev og:Type:=Ty.den y11
abbrev au:Type:=Ty.den y41
abbrev Gs:Type:=Ty.den y13
abbrev iU:Type:=Ty.den y79
abbrev yF:Type:=Ty.den y67
abbrev Es:Type:=Ty.den y40
abbrev bY:Type:=Ty.den y44
abbrev U8:Type:=Ty.den y8
abbrev lS:Type:=Ty.den y17
abbrev zY:Type:=Ty.den y56
abbrev tX:Type:=Ty.den y28
abbrev iJ:Type:=Ty.den y72
abbrev zX:Type:=Ty.den y61
abbrev aJ:Type:=Ty.den y33
abbrev kJ:Type:=Ty.den y51
abbrev Y1:Type:=Ty.den y77
abbrev bZ:Type:=Ty.den y75
abbrev ni:Type:=Ty.den y36
def rZ(A:List U8):Option Bool:=l7 (Z4 (λ(x:Int)=>l9 (J4 x (x9 A)) (l9 (J4 x 60) (l7 (J3 A x) λb=>l9 (J4 60 (x9 b.2.2.2.2)) (some (.rt false)) (l7 (J3 A x) λc=>l9 (J4 1125899906842624 c.1.2.2) (some (.rt false)) (l7 (J3 A x) λd=>l9 (J4 d.1.2.2 (-1125899906842624)) (some (.rt false)) (l7 (J3 A x) λf=>l9 (J4 1125899906842624 f.2.1.2.2) (some (.rt false)) (l7 (J3 A x) λg=>l9 (J4 g.2.1.2.2 (-1125899906842624)) (some (.rt false)) (some (.nx (D5 .i64 x 1)))))))) (some (.ex ()))) (some (.ex ()))) 0) λo=>Y9 o (λy=>some (bG (x9 A) 50)) λr=>some r
def q4:FQ:=⟨[uD y9],tR 2 dn,mE 60 [],sN 1 (Y6 (sN 1 (bV (lpR [(2,57)] ⟨[(3,H6)],[]⟩ 0 sgN F7))) F7)⟩
def s4:FSpec:=V4 q4 λx=>rZ x
def vH(A:List L8):Option ni:=some ([],[],[([104,111,117,115,101],-1,[([97],3,0)],[([100],3,0)],[([98,97,115,101],0,-1,0,(0,109573),[],A,[])])])
def q10:FQ:=⟨[uD y21],⟨[(.cell 2 40,(true,(pA (dT y12) (pA (dT y18) (.owns (pA (dT .str) (pA diM (pA (dT y20) (pA (dT y20) (oW y28))))))))))],[]⟩,⟨22,eqs,tt,gl,[],[(38,(pA (dT .str) (pA diM (pA (dT y20) (pA (dT y20) (oW y28))))))],[],[],[],[]⟩,F7⟩
def s10:FSpec:=V4 q10 λx=>vH x
def tV(A:Int):Option Bool:=l9 (bG 97 A) (some (bG A 122)) (some false)
def q94:FQ:=⟨[(false,(dT (.int .u8)))],tR 2 dn,mE 9 [],F7⟩
def s94:FSpec:=V4 q94 λx=>tV x
def yX(A:Int):Option Bool:=l9 (bG 48 A) (some (bG A 57)) (some false)
def YW:FQ:=⟨[(false,(dT (.int .u8)))],tR 2 dn,mE 9 [],F7⟩
def a0b:FSpec:=V4 YW λx=>yX x
def uy(A:List UInt8):Option Int:=l7 (af (λ(x:Int)=>l9 (J4 x (x9 A)) (l7 (sat A x) λb=>l7 (tV b) λc=>l9 c (some (.inl (D5 .i64 x 1))) (l7 (sat A x) λd=>l7 (yX d) λf=>l9 f (some (.inl (D5 .i64 x 1))) (l7 (sat A x) λg=>l9 (o8 g 95) (some (.inl (D5 .i64 x 1))) (some (.inr x))))) (some (.inr x))) 0) λy=>some y
def q95:FQ:=⟨[uD .str],tR 2 H6,mE 29 [(94,s94),(125,a0b)],sN 2 (Y6 (bV (.loop [(3,28)] ⟨[(3,H6)],[]⟩ 0 ⟨[(3,H6)],[]⟩ F7)) F7)⟩
def s95:FSpec:=V4 q95 λx=>uy x
def xh(A:List UInt8):Option Bool:=l7 (l9 (seq A [105,102]) (some (seq A [105,102])) (l9 (seq A [116,104,101,110]) (some (seq A [116,104,101,110])) (l9 (seq A [101,108,115,101]) (some (seq A [101,108,115,101])) (l9 (seq A [111,114]) (some (seq A [111,114])) (l9 (seq A [97,110,100]) (some (seq A [97,110,100])) (l9 (seq A [110,111,116]) (some (seq A [110,111,116])) (l9 (seq A [116,114,117,101]) (some (seq A [116,114,117,101])) (l9 (seq A [102,97,108,115,101]) (some (seq A [102,97,108,115,101])) (l9 (seq A [116,111,100,97,121]) (some (seq A [116,111,100,97,121])) (l9 (seq A [115,104,97,114,101]) (some (seq A [115,104,97,114,101])) (l9 (seq A [100,105,118]) (some (seq A [100,105,118])) (l9 (seq A [114,111,117,110,100]) (some (seq A [114,111,117,110,100])) (l9 (seq A [109,105,110]) (some (seq A [109,105,110])) (l9 (seq A [109,97,120]) (some (seq A [109,97,120])) (l9 (seq A [112,108,117,115]) (some (seq A [112,108,117,115])) (l9 (seq A [109,111,110,116,104,115]) (some (seq A [109,111,110,116,104,115])) (l9 (seq A [100,97,121,115]) (some (seq A [100,97,121,115])) (l9 (seq A [121,101,97,114,115]) (some (seq A [121,101,97,114,115])) (l9 (seq A [121,101,97,114]) (some (seq A [121,101,97,114])) (l9 (seq A [109,111,110,116,104]) (some (seq A [109,111,110,116,104])) (l9 (seq A [116,97,98]) (some (seq A [116,97,98])) (l9 (seq A [98,97,110,100]) (some (seq A [98,97,110,100])) (l9 (seq A [99,111,117,110,116]) (some (seq A [99,111,117,110,116])) (l9 (seq A [115,117,109]) (some (seq A [115,117,109])) (l9 (seq A [97,108,108]) (some (seq A [97,108,108])) (l9 (seq A [97,110,121]) (some (seq A [97,110,121])) (l9 (seq A [109,111,115,116]) (some (seq A [109,111,115,116])) (l9 (seq A [101,110,117,109]) (some (seq A [101,110,117,109])) (l9 (seq A [116,97,98,108,101]) (some (seq A [116,97,98,108,101])) (l9 (seq A [114,111,119]) (some (seq A [114,111,119])) (l9 (seq A [115,99,111,112,101]) (some (seq A [115,99,111,112,101])) (l9 (seq A [109,101,109,98,101,114,115]) (some (seq A [109,101,109,98,101,114,115])) (l9 (seq A [105,110,112,117,116]) (some (seq A [105,110,112,117,116])) (l9 (seq A [100,101,102]) (some (seq A [100,101,102])) (l9 (seq A [114,117,108,101]) (some (seq A [114,117,108,101])) (l9 (seq A [111,102]) (some (seq A [111,102])) (l9 (seq A [111,118,101,114]) (some (seq A [111,118,101,114])) (l9 (seq A [112,114,105,111]) (some (seq A [112,114,105,111])) (l9 (seq A [102,114,111,109]) (some (seq A [102,114,111,109])) (l9 (seq A [116,111]) (some (seq A [116,111])) (l9 (seq A [101,110,100]) (some (seq A [101,110,100])) (l9 (seq A [119,104,101,110]) (some (seq A [119,104,101,110])) (l9 (seq A [105,115]) (some (seq A [105,115])) (l9 (seq A [115,114,99]) (some (seq A [115,114,99])) (l9 (seq A [98,111,111,108]) (some (seq A [98,111,111,108])) (l9 (seq A [105,110,116]) (some (seq A [105,110,116])) (l9 (seq A [109,111,110,101,121]) (some (seq A [109,111,110,101,121])) (l9 (seq A [114,97,116,101]) (some (seq A [114,97,116,101])) (l9 (seq A [100,97,116,101]) (some (seq A [100,97,116,101])) (l9 (seq A [100,111,119,110]) (some (seq A [100,111,119,110])) (l9 (seq A [117,112]) (some (seq A [117,112])) (l9 (seq A [122,101,114,111]) (some (seq A [122,101,114,111])) (l9 (seq A [97,119,97,121]) (some (seq A [97,119,97,121])) (l9 (seq A [104,97,108,102]) (some (seq A [104,97,108,102])) (some (seq A [101,118,101,110])))))))))))))))))))))))))))))))))))))))))))))))))))))))) λx=>l9 x (some true) (some false)
def q96:FQ:=⟨[uD .str],tR 2 dn,mE 60 [],sN 1 (Y6 (sN 1 (bV (Y6 (.join [(4,60)] ⟨[(4,dn)],[]⟩ F7) F7))) F7)⟩
def s96:FSpec:=V4 q96 λx=>xh x
def bJ(A:List UInt8):Option Bool:=l9 (F5 (seq A [])) (l7 (sat A 0) λx=>l7 (tV x) λx=>l9 x (l7 (uy A) λx=>l9 (o8 x (x9 A)) (l9 (bG (x9 A) 16) (l7 (xh A) λx=>some (F5 x)) (some false)) (some false)) (some false)) (some false)
def q62:FQ:=⟨[uD .str],tR 2 dn,mE 27 [(94,s94),(95,s95),(96,s96)],F7⟩
def s62:FSpec:=V4 q62 λx=>bJ x
def yT(A:og)(B:List UInt8):Option Bool:=some (seq A.1 B)
def Vw:FQ:=⟨[tD y11,(false,(.rp .str))],tR 3 dn,mE 8 [],F7⟩
def Su:FSpec:=V4 Vw λx=>yT x.1 x.2
def gW(A:List og)(B:List UInt8):Option Int:=l7 (Z4 (λ(x:Int)=>l9 (J4 x (x9 A)) (l7 (J3 A x) λb=>l7 (yT b B) λc=>l9 c (some (.rt x)) (some (.nx (D5 .i64 x 1)))) (some (.ex ()))) 0) λo=>Y9 o (λy=>some (-1)) λr=>some r
def QQ:FQ:=⟨[uD y12,(false,(.fn 98 [.str]))],tR 4 H6,mE 19 [(98,Su)],sN 1 (Y6 (sN 1 (bV (lpR [(4,6),(8,19)] ⟨[(8,H6)],[]⟩ 0 sgN F7))) F7)⟩
def RI:FSpec:=V4 QQ λx=>gW x.1 x.2
def eP(A:List og)(B:List UInt8):Option Bool:=l7 (gW A B) λx=>some (bG 0 x)
def Vu:FQ:=⟨[uD y12,(false,(.fn 98 [.str]))],tR 4 dn,mE 9 [(126,RI)],F7⟩
def VF:FSpec:=V4 Vu λx=>eP x.1 x.2
def su(A:List og)(B:List UInt8):Option Bool:=l7 (eP A B) λx=>some x
def q63:FQ:=⟨[uD y12,(uD .str)],tR 4 dn,mE 8 [(98,Su),(97,VF)],F7⟩
def s63:FSpec:=V4 q63 λx=>su x.1 x.2
def ku(A:List (List UInt8))(B:List UInt8):Option Int:=l7 (Z4 (λ(x:Int)=>l9 (J4 x (x9 A)) (l7 (J3 A x) λb=>l9 (seq B b) (some (.rt x)) (some (.nx (D5 .i64 x 1)))) (some (.ex ()))) 0) λo=>Y9 o (λy=>some (-1)) λr=>some r
def YU:FQ:=⟨[uD (.sl .str),(uD .str)],tR 4 H6,mE 19 [],sN 1 (Y6 (sN 1 (bV (lpR [(4,6),(8,19)] ⟨[(8,H6)],[]⟩ 0 sgN F7))) F7)⟩
def Z_:FSpec:=V4 YU λx=>ku x.1 x.2
def jh(A:List (List UInt8))(B:List UInt8):Option Bool:=l7 (ku A B) λx=>some (bG 0 x)
def q88:FQ:=⟨[uD (.sl .str),(uD .str)],tR 4 dn,mE 9 [(123,Z_)],F7⟩
def s88:FSpec:=V4 q88 λx=>jh x.1 x.2
def yR(A:ni)(B:Int)(C:og):Option L8:=l7 (bJ C.1) λx=>l9 (F5 x) (some (2,0)) (l7 (oM A.1 0 B) λx=>l7 (su x C.1) λx=>l9 x (some (7,0)) (l9 (o8 (x9 C.2) 0) (some (5,0)) (l9 (J4 16 (x9 C.2)) (some (4,116)) (l7 (Z4 (λ(x:Int)=>l9 (J4 x (x9 C.2)) (l7 (J3 C.2 x) λb=>l7 (bJ b) λc=>l9 (F5 c) (some (.rt (2,D5 .i64 100 x))) (l7 (oM C.2 0 x) λd=>l7 (jh d b) λf=>l9 f (some (.rt (7,D5 .i64 100 x))) (some (.nx (D5 .i64 x 1))))) (some (.ex ()))) 0) λo=>Y9 o (λy=>some (0,0)) λr=>some r))))
def q60:FQ:=⟨[tD y36,H6,tD y11],⟨[(.tmp 6,H6),(.tmp 7,H6)],[]⟩,mE 55 [(62,s62),(63,s63),(88,s88)],sN 2 (Y6 (sN 1 (bV (lpR [(6,10),(36,55)] ⟨[(36,H6)],[]⟩ 1 sgN F7))) F7)⟩
def s60:FSpec:=V4 q60 λx=>yR x.1 x.2.1 x.2.2
def wZ(A:ni):Option au:=l9 (J4 8 (x9 A.1)) (some (4,1,8,0)) (l7 (Z4 (λ(x:au×Int)=>l9 (J4 x.2 (x9 A.1)) (l7 (J3 A.1 x.2) λc=>l7 (yR A x.2 c) λb=>l9 (F5 (o8 b.1 0)) (some (.rt (b.1,1,x.2,b.2))) (some (.nx (x.1,D5 .i64 x.2 1)))) (some (.ex x.1))) ((0,0,0,0),0)) λo=>Y9 o (λ(y:au)=>some (0,0,0,0)) λr=>some r)
def q35:FQ:=⟨[tD y36],cR 2 84 (tD y41),mE 35 [(60,s60)],sN 2 (Y6 (sN 1 (bV (lpR [(2,7),(15,34),(4000128,4000129)] ⟨[(2,(false,(.box (dT y41)))),(15,H6)],[]⟩ 0 ⟨[(2,(false,(.box (dT y41))))],[]⟩ F7))) F7)⟩
def s35:FSpec:=V4 q35 λx=>wZ x
def bI(A:L8)(B:List og):Option Bool:=l7 (l9 (o8 A.1 1) (some (o8 A.1 1)) (l9 (o8 A.1 2) (some (o8 A.1 2)) (l9 (o8 A.1 3) (some (o8 A.1 3)) (l9 (o8 A.1 4) (some (o8 A.1 4)) (some (o8 A.1 5)))))) λx=>l9 x (some (o8 A.2 0)) (l9 (o8 A.1 6) (l9 (bG 0 A.2) (some (J4 A.2 (x9 B))) (some false)) (some false))
def q85:FQ:=⟨[tD y0,uD y12],tR 4 dn,mE 28 [],sN 1 (Y6 (sN 1 (bV (Y6 (.join [(7,13)] ⟨[(7,dn)],[]⟩ F7) F7))) F7)⟩
def s85:FSpec:=V4 q85 λx=>bI x.1 x.2
def kF(A:L8)(B:List og):Option L8:=l7 (bI A B) λx=>l9 (F5 x) (some (0,-1)) (l9 (o8 A.1 1) (some (0,1)) (l9 (o8 A.1 2) (some (-1000000000000,1000000000000)) (l9 (o8 A.1 3) (some (-1000000000000000,1000000000000000)) (l9 (o8 A.1 4) (some (-1000000000,1000000000)) (l9 (o8 A.1 5) (some (0,109572)) (l7 (J3 B A.2) λx=>some (0,J7 .i64 (x9 x.2) 1)))))))
def q89:FQ:=⟨[tD y0,uD y12],⟨[(.tmp 4,H6),(.tmp 5,H6)],[]⟩,mE 30 [(85,s85)],F7⟩
def s89:FSpec:=V4 q89 λx=>kF x.1 x.2
def kV(A:L8):Option Bool:=l9 (bG 0 A.1) (l9 (bG A.1 A.2) (some (bG A.2 109573)) (some false)) (some false)
def q90:FQ:=⟨[tD y0],tR 2 dn,mE 18 [],F7⟩
def s90:FSpec:=V4 q90 λx=>kV x
def lU(A:L8):Option Bool:=l7 (kV A) λx=>l9 x (some (J4 A.1 A.2)) (some false)
def Zj:FQ:=⟨[tD y0],tR 2 dn,mE 12 [(90,s90)],F7⟩
def a0l:FSpec:=V4 Zj λx=>lU x
def pg(A:L8)(B:L8):Option (L8×Bool):=l7 (lU A) λx=>l9 (F5 x) (some ((0,0),false)) (l7 (lU B) λx=>l9 (F5 x) (some ((0,0),false)) (l9 (bG (Aq A.2 B.2) (um A.1 B.1)) (some ((0,0),false)) (some ((um A.1 B.1,Aq A.2 B.2),true))))
def YV:FQ:=⟨[tD y0,tD y0],⟨[(.cell 4 64,tD y0),(.tmp 5,dn)],[]⟩,mE 34 [(151,a0l)],F7⟩
def a0a:FSpec:=V4 YV λx=>pg x.1 x.2
def xX(A:Gs)(B:Gs):Option Bool:=l7 (pg A.1 B.1) λx=>l9 x.2 (some (J4 (um A.2.1 B.2.1) (Aq A.2.2.1 B.2.2.1))) (some false)
def q93:FQ:=⟨[tD y13,tD y13],tR 4 dn,mE 29 [(124,a0a)],F7⟩
def s93:FSpec:=V4 q93 λx=>xX x.1 x.2
def uF(A:Gs)(B:Gs):Option Bool:=l7 (xX A B) λx=>some x
def Vt:FQ:=⟨[tD y13,(false,(.rp y13))],tR 3 dn,mE 7 [(93,s93)],F7⟩
def Sr:FSpec:=V4 Vt λx=>uF x.1 x.2
def pJ(A:List Gs)(B:Gs):Option (Int×Bool):=l7 (Z4 (λ(x:Int)=>l9 (J4 x (x9 A)) (l7 (J3 A x) λb=>l7 (uF b B) λc=>l9 c (some (.rt (x,true))) (some (.nx (D5 .i64 x 1)))) (some (.ex ()))) 0) λo=>Y9 o (λy=>some (0,false)) λr=>some r
def Vr:FQ:=⟨[uD y14,(false,(.fn 92 [y13]))],⟨[(.tmp 4,H6),(.tmp 5,dn)],[]⟩,mE 20 [(92,Sr)],sN 1 (Y6 (sN 1 (bV (lpR [(4,8),(10,20)] ⟨[(10,H6)],[]⟩ 0 sgN F7))) F7)⟩
def VD:FSpec:=V4 Vr λx=>pJ x.1 x.2
def xW(A:lS)(B:List og):Option L8:=l9 (J4 64 (x9 A.2.2.2)) (some (64,4)) (l7 (l7 (bI A.2.1 B) λx=>l9 (F5 x) (some (.inr (-1,8))) (l7 (bI A.2.2.1 B) λx=>l9 (F5 x) (some (.inr (-1,8))) (some (.inl ())))) λo=>Y9 o (λx=>l7 (kF A.2.1 B) λx=>l7 (kF A.2.2.1 B) λd=>l7 (Z4 (λ(b:Int)=>l9 (J4 b (x9 A.2.2.2)) (l7 (J3 A.2.2.2 b) λc=>l7 (l7 (kV c.1) λx=>l9 (F5 x) (some (.inr (b,3))) (l9 (o8 c.1.1 c.1.2) (some (.inr (b,3))) (l9 (bG c.2.2.1 c.2.1) (some (.inr (b,3))) (some (.inl ()))))) λo=>Y9 o (λf=>l7 (l9 (J4 c.2.1 x.1) (some (.inr (b,3))) (l9 (J4 x.2 c.2.1) (some (.inr (b,3))) (l9 (J4 (J7 .i64 c.2.2.1 1) x.1) (some (.inr (b,3))) (l9 (J4 x.2 (J7 .i64 c.2.2.1 1)) (some (.inr (b,3))) (some (.inl ())))))) λo=>Y9 o (λx=>l9 (J4 c.2.2.2 d.1) (some (.rt (b,3))) (l9 (J4 d.2 c.2.2.2) (some (.rt (b,3))) (l7 (oM A.2.2.2 0 b) λx=>l7 (pJ x c) λx=>l9 x.2 (some (.rt (b,11))) (some (.nx (D5 .i64 b 1)))))) λr=>some (.rt r)) λr=>some (.rt r)) (some (.ex ()))) 0) λo=>Y9 o (λy=>some (0,0)) λr=>some r) λr=>some r)
def q61:FQ:=⟨[tD y17,uD y12],⟨[(.tmp 4,H6),(.tmp 5,H6)],[]⟩,mE 121 [(85,s85),(89,s89),(90,s90),(92,Sr),(91,VD)],sN 2 (Y6 (jnR [(4,6),(18,30)] sgN F7) (sN 2 (Y6 (sN 1 (bV (lpR [(4,6),(10,14),(47,121)] ⟨[(47,H6)],[]⟩ 0 sgN (sN 2 (Y6 (bV (sN 1 (Y6 (jnR [(4,6),(52,73)] sgN F7) (Y6 (jnR [(4,6),(73,98)] sgN F7) F7)))) F7))))) F7)))⟩
def s61:FSpec:=V4 q61 λx=>xW x.1 x.2
def xf(A:lS)(B:List UInt8):Option Bool:=some (seq A.1 B)
def QN:FQ:=⟨[tD y17,(false,(.rp .str))],tR 3 dn,mE 8 [],F7⟩
def Me:FSpec:=V4 QN λx=>xf x.1 x.2
def fH(A:List lS)(B:List UInt8):Option Int:=l7 (Z4 (λ(x:Int)=>l9 (J4 x (x9 A)) (l7 (J3 A x) λb=>l7 (xf b B) λc=>l9 c (some (.rt x)) (some (.nx (D5 .i64 x 1)))) (some (.ex ()))) 0) λo=>Y9 o (λy=>some (-1)) λr=>some r
def QR:FQ:=⟨[uD y18,(false,(.fn 100 [.str]))],tR 4 H6,mE 19 [(100,Me)],sN 1 (Y6 (sN 1 (bV (lpR [(4,6),(8,19)] ⟨[(8,H6)],[]⟩ 0 sgN F7))) F7)⟩
def RJ:FSpec:=V4 QR λx=>fH x.1 x.2
def dU(A:List lS)(B:List UInt8):Option Bool:=l7 (fH A B) λx=>some (bG 0 x)
def Vx:FQ:=⟨[uD y18,(false,(.fn 100 [.str]))],tR 4 dn,mE 9 [(127,RJ)],F7⟩
def VG:FSpec:=V4 Vx λx=>dU x.1 x.2
def uZ(A:List lS)(B:List UInt8):Option Bool:=l7 (dU A B) λx=>some x
def q64:FQ:=⟨[uD y18,(uD .str)],tR 4 dn,mE 8 [(100,Me),(99,VG)],F7⟩
def s64:FSpec:=V4 q64 λx=>uZ x.1 x.2
def vZ(A:ni):Option au:=l9 (J4 8 (x9 A.2.1)) (some (4,2,8,0)) (l7 (Z4 (λ(x:au×Int)=>l9 (J4 x.2 (x9 A.2.1)) (l7 (J3 A.2.1 x.2) λc=>l7 (xW c A.1) λb=>l7 (l7 (bJ c.1) λd=>l9 (F5 d) (some (2,2,x.2,0)) (l7 (su A.1 c.1) λf=>l9 f (some (7,2,x.2,0)) (l7 (oM A.2.1 0 x.2) λg=>l7 (uZ g c.1) λi=>l9 i (some (7,2,x.2,0)) (l9 (F5 (o8 b.2 0)) (l9 (F5 (o8 b.1 (-1))) (some (b.2,2,x.2,D5 .i64 100 b.1)) (some (b.2,2,x.2,0))) (some (0,2,x.2,0)))))) λd=>l9 (F5 (o8 d.1 0)) (some (.rt d)) (some (.nx (x.1,D5 .i64 x.2 1)))) (some (.ex x.1))) ((0,0,0,0),0)) λo=>Y9 o (λ(y:au)=>some (0,0,0,0)) λr=>some r)
def q36:FQ:=⟨[tD y36],cR 2 84 (tD y41),mE 68 [(61,s61),(62,s62),(63,s63),(64,s64)],sN 2 (Y6 (sN 1 (bV (lpR [(2,8),(16,67),(4000128,4000129)] ⟨[(2,(false,(.box (dT y41)))),(16,H6)],[]⟩ 0 ⟨[(2,(false,(.box (dT y41))))],[]⟩ (sN 2 (Y6 (bV (sN 3 (Y6 (.join [(5,6),(30,62),(37000320,37000321)] ⟨[(5,(false,(.box (dT y41))))],[]⟩ F7) F7))) F7))))) F7)⟩
def s36:FSpec:=V4 q36 λx=>vZ x
def ut(A:aJ)(B:aJ):Option Bool:=some (seq A.1 B.1)
def QP:FQ:=⟨[tD y33,(false,(.rp y33))],tR 3 dn,mE 9 [],F7⟩
def MB:FSpec:=V4 QP λx=>ut x.1 x.2
def fG(A:List aJ)(B:aJ):Option Int:=l7 (Z4 (λ(x:Int)=>l9 (J4 x (x9 A)) (l7 (J3 A x) λb=>l7 (ut b B) λc=>l9 c (some (.rt x)) (some (.nx (D5 .i64 x 1)))) (some (.ex ()))) 0) λo=>Y9 o (λy=>some (-1)) λr=>some r
def QS:FQ:=⟨[uD y34,(false,(.fn 102 [y33]))],tR 4 H6,mE 19 [(102,MB)],sN 1 (Y6 (sN 1 (bV (lpR [(4,6),(8,19)] ⟨[(8,H6)],[]⟩ 0 sgN F7))) F7)⟩
def RN:FSpec:=V4 QS λx=>fG x.1 x.2
def dR(A:List aJ)(B:aJ):Option Bool:=l7 (fG A B) λx=>some (bG 0 x)
def QO:FQ:=⟨[uD y34,(false,(.fn 102 [y33]))],tR 4 dn,mE 9 [(128,RN)],F7⟩
def RF:FSpec:=V4 QO λx=>dR x.1 x.2
def uq(A:lQ)(B:lQ):Option Bool:=some (seq A.1 B.1)
def QT:FQ:=⟨[tD y19,(false,(.rp y19))],tR 3 dn,mE 9 [],F7⟩
def MC:FSpec:=V4 QT λx=>uq x.1 x.2
def fF(A:List lQ)(B:lQ):Option Int:=l7 (Z4 (λ(x:Int)=>l9 (J4 x (x9 A)) (l7 (J3 A x) λb=>l7 (uq b B) λc=>l9 c (some (.rt x)) (some (.nx (D5 .i64 x 1)))) (some (.ex ()))) 0) λo=>Y9 o (λy=>some (-1)) λr=>some r
def QX:FQ:=⟨[uD y20,(false,(.fn 129 [y19]))],tR 4 H6,mE 19 [(129,MC)],sN 1 (Y6 (sN 1 (bV (lpR [(4,6),(8,19)] ⟨[(8,H6)],[]⟩ 0 sgN F7))) F7)⟩
def RS:FSpec:=V4 QX λx=>fF x.1 x.2
def aK(A:List lQ)(B:lQ):Option Bool:=l7 (fF A B) λx=>some (bG 0 x)
def QU:FQ:=⟨[uD y20,(false,(.fn 129 [y19]))],tR 4 dn,mE 9 [(152,RS)],F7⟩
def RP:FSpec:=V4 QU λx=>aK x.1 x.2
def qK(A:ni)(B:lQ)(C:List lQ)(D:List lQ):Option Int:=l7 (bJ B.1) λx=>l9 (F5 x) (some 2) (l7 (aK C B) λx=>l9 x (some 7) (l7 (aK D B) λx=>l9 x (some 7) (l7 (bI B.2 A.1) λx=>l9 (F5 x) (some 8) (some 0))))
def YI:FQ:=⟨[tD y36,tD y19,uD y20,uD y20],tR 8 H6,mE 32 [(129,MC),(62,s62),(130,RP),(85,s85)],F7⟩
def P_:FSpec:=V4 YI λx=>qK x.1 x.2.1 x.2.2.1 x.2.2.2
def mi(A:List lQ):Option (List L8):=l7 (af (λ(x:List L8×Int)=>l9 (J4 x.2 (x9 A)) (l7 (J3 A x.2) λb=>l7 (bi x.1 [b.2]) λc=>some (.inl (c,D5 .i64 x.2 1))) (some (.inr x.1))) ([],0)) λy=>some y
def YX:FQ:=⟨[uD y20],tR 2 (uO y0),mE 19 [],sN 2 (Y6 (sN 1 (bV (.loop [(3,4),(5,6),(8,18)] ⟨[(3,(uO y0)),(8,H6)],[]⟩ 0 ⟨[(3,(uO y0))],[]⟩ F7))) F7)⟩
def a0c:FSpec:=V4 YX λx=>mi x
def pG(A:ni)(B:Int):Option iJ:=l7 (J3 A.2.2 B) λx=>l7 (mi x.2.2.1) λb=>l7 (mi x.2.2.2.1) λc=>l9 (bG 0 x.2.1) (l9 (J4 x.2.1 (x9 A.2.2)) (l7 (J3 A.2.2 x.2.1) λx=>l7 (mi x.2.2.2.1) λx=>some (A.1,A.2.1,b,c,x,true)) (some (A.1,A.2.1,b,c,[],false))) (some (A.1,A.2.1,b,c,[],false))
def YJ:FQ:=⟨[tD y36,H6],cR 4 208 (tD y72),mE 45 [(131,a0c)],F7⟩
def Q_:FSpec:=V4 YJ λx=>pG x.1 x.2
def vX(A:tX)(B:tX):Option Bool:=some (seq A.1 B.1)
def QW:FQ:=⟨[tD y28,(false,(.rp y28))],tR 3 dn,mE 9 [],F7⟩
def MF:FSpec:=V4 QW λx=>vX x.1 x.2
def gX(A:List tX)(B:tX):Option Int:=l7 (Z4 (λ(x:Int)=>l9 (J4 x (x9 A)) (l7 (J3 A x) λb=>l7 (vX b B) λc=>l9 c (some (.rt x)) (some (.nx (D5 .i64 x 1)))) (some (.ex ()))) 0) λo=>Y9 o (λy=>some (-1)) λr=>some r
def QY:FQ:=⟨[uD y29,(false,(.fn 133 [y28]))],tR 4 H6,mE 19 [(133,MF)],sN 1 (Y6 (sN 1 (bV (lpR [(4,6),(8,19)] ⟨[(8,H6)],[]⟩ 0 sgN F7))) F7)⟩
def RU:FSpec:=V4 QY λx=>gX x.1 x.2
def eQ(A:List tX)(B:tX):Option Bool:=l7 (gX A B) λx=>some (bG 0 x)
def QV:FQ:=⟨[uD y29,(false,(.fn 133 [y28]))],tR 4 dn,mE 9 [(153,RU)],F7⟩
def RQ:FSpec:=V4 QV λx=>eQ x.1 x.2
def YH:List MG:=[(false,(.dat .str)),(false,(.dat .str))]
def a0m:FSpec:=⟨YH,[dn],[],λx=>nT x.1 x.2⟩
def wo(A:List UInt8):Option Bool:=l9 (J4 64 (x9 A)) (some false) (l7 (nT A [34]) λx=>l9 x (some false) (l7 (Z4 (λ(x:Int)=>l9 (J4 x (x9 A)) (l7 (sat A x) λb=>l9 (J4 b 32) (some (.rt false)) (l7 (sat A x) λc=>l9 (J4 126 c) (some (.rt false)) (some (.nx (D5 .i64 x 1))))) (some (.ex ()))) 0) λo=>Y9 o (λy=>some true) λr=>some r))
def YY:FQ:=⟨[uD .str],tR 2 dn,mE 27 [(154,a0m)],sN 2 (Y6 (sN 1 (bV (lpR [(2,4),(13,27)] ⟨[(13,H6)],[]⟩ 0 sgN F7))) F7)⟩
def a0d:FSpec:=V4 YY λx=>wo x
def lq(A:Int):Option Int:=l7 (l9 (o8 A 1) (some (o8 A 1)) (l9 (o8 A 2) (some (o8 A 2)) (l9 (o8 A 3) (some (o8 A 3)) (l9 (o8 A 4) (some (o8 A 4)) (l9 (o8 A 5) (some (o8 A 5)) (l9 (o8 A 6) (some (o8 A 6)) (l9 (o8 A 7) (some (o8 A 7)) (l9 (o8 A 8) (some (o8 A 8)) (l9 (o8 A 9) (some (o8 A 9)) (l9 (o8 A 35) (some (o8 A 35)) (l9 (o8 A 36) (some (o8 A 36)) (l9 (o8 A 37) (some (o8 A 37)) (l9 (o8 A 38) (some (o8 A 38)) (some (o8 A 39))))))))))))))) λx=>l9 x (some 0) (l7 (l9 (o8 A 10) (some (o8 A 10)) (l9 (o8 A 25) (some (o8 A 25)) (l9 (o8 A 31) (some (o8 A 31)) (l9 (o8 A 32) (some (o8 A 32)) (l9 (o8 A 33) (some (o8 A 33)) (some (o8 A 34))))))) λx=>l9 x (some 1) (l7 (l9 (o8 A 11) (some (o8 A 11)) (l9 (o8 A 12) (some (o8 A 12)) (l9 (o8 A 13) (some (o8 A 13)) (l9 (o8 A 14) (some (o8 A 14)) (l9 (o8 A 15) (some (o8 A 15)) (l9 (o8 A 16) (some (o8 A 16)) (l9 (o8 A 17) (some (o8 A 17)) (l9 (o8 A 18) (some (o8 A 18)) (l9 (o8 A 19) (some (o8 A 19)) (l9 (o8 A 20) (some (o8 A 20)) (l9 (o8 A 21) (some (o8 A 21)) (l9 (o8 A 22) (some (o8 A 22)) (l9 (o8 A 23) (some (o8 A 23)) (l9 (o8 A 24) (some (o8 A 24)) (l9 (o8 A 27) (some (o8 A 27)) (l9 (o8 A 28) (some (o8 A 28)) (l9 (o8 A 29) (some (o8 A 29)) (some (o8 A 30))))))))))))))))))) λx=>l9 x (some 2) (l9 (o8 A 26) (some 3) (some (-1)))))
def Zu:FQ:=⟨[H6],tR 2 H6,mE 47 [],sN 1 (Y6 (sN 1 (bV (Y6 (.join [(4,19)] ⟨[(4,dn)],[]⟩ F7) (.cond F7 (Y6 (.join [(19,26)] ⟨[(19,dn)],[]⟩ F7) (.cond F7 (Y6 (.join [(26,45)] ⟨[(26,dn)],[]⟩ F7) F7))))))) F7)⟩
def PD:FSpec:=V4 Zu λx=>lq x
def qH(A:List L8):Option (List Int×L8):=l9 (J4 48 (x9 A)) (some ([],0,4)) (l9 (o8 (x9 A) 0) (some ([],0,5)) (l7 (qL (x9 A) 0) λx=>l7 (Z4 (λ(x:List Int×List Int×Int)=>l9 (J4 x.2.2 (x9 A)) (l7 (J3 A x.2.2) λg=>l7 (lq g.1) λb=>l9 (J4 b 0) (some (.rt ([],x.2.2,2))) (l9 (J4 (x9 x.2.1) b) (some (.rt ([],x.2.2,5))) (l7 (J3 x.1 x.2.2) λk=>l7 (V7 x.1 (V8 x.2.2)) λn=>l9 (J4 0 b) (l7 (J3 x.2.1 (J7 .i64 (x9 x.2.1) b)) λj=>l7 (V7 x.2.1 (V8 (J7 .i64 (x9 x.2.1) b))) λc=>l7 (J3 (Z9 x.1 (V8 x.2.2) x.2.2) x.2.2) λd=>l7 (V7 (Z9 x.1 (V8 x.2.2) x.2.2) (V8 x.2.2)) λp=>l9 (qY 0 (J7 .i64 (x9 x.2.1) b) (x9 x.2.1)) (l7 (J3 (Z9 (Z9 x.1 (V8 x.2.2) x.2.2) (V8 x.2.2) c) x.2.2) λq=>l7 (V7 (Z9 (Z9 x.1 (V8 x.2.2) x.2.2) (V8 x.2.2) c) (V8 x.2.2)) λi=>l7 (bi (lH x.2.1 (V8 0) (V8 (J7 .i64 (x9 x.2.1) b))) [i]) λf=>l9 (J4 12 (x9 f)) (some (.rt ([],x.2.2,16))) (some (.nx (Z9 (Z9 x.1 (V8 x.2.2) x.2.2) (V8 x.2.2) c,f,D5 .i64 x.2.2 1)))) none) (l9 (qY 0 (J7 .i64 (x9 x.2.1) b) (x9 x.2.1)) (l7 (J3 (Z9 x.1 (V8 x.2.2) x.2.2) x.2.2) λj=>l7 (V7 (Z9 x.1 (V8 x.2.2) x.2.2) (V8 x.2.2)) λc=>l7 (bi (lH x.2.1 (V8 0) (V8 (J7 .i64 (x9 x.2.1) b))) [c]) λd=>l9 (J4 12 (x9 d)) (some (.rt ([],x.2.2,16))) (some (.nx (Z9 x.1 (V8 x.2.2) x.2.2,d,D5 .i64 x.2.2 1)))) none)))) (some (.ex (x.1,x.2.1)))) (x,[],0)) λo=>Y9 o (λ(y:List Int×List Int)=>l9 (J4 1 (x9 y.2)) (some ([],x9 A,4)) (some (y.1,0,0))) λr=>some r))
def Zr:FQ:=⟨[uD y21],⟨[(.tmp 2,eX),(.tmp 3,H6),(.tmp 4,H6)],[]⟩,mE 76 [(180,PD)],sN 5 (Y6 (sN 1 (bV (lpR [(2,10),(21,70),(27001152,27001153)] ⟨[(5,eX),(6,eX),(21,H6)],[]⟩ 0 ⟨[(5,eX),(6,eX)],[]⟩ F7))) F7)⟩
def WB:FSpec:=V4 Zr λx=>qH x
def zA(A:Int):Option Bool:=l9 (o8 A 1) (l9 (o8 A 1) (some true) (some false)) (l9 (o8 A 2) (l9 (o8 A 2) (some true) (some false)) (l9 (o8 A 3) (l9 (o8 A 3) (some true) (some false)) (l9 (o8 A 4) (l9 (o8 A 4) (some true) (some false)) (l9 (o8 A 5) (l9 (o8 A 5) (some true) (some false)) (l9 (o8 A 6) (l9 (o8 A 6) (some true) (some false)) (l9 (o8 A 7) (l9 (o8 A 7) (some true) (some false)) (l9 (o8 A 8) (l9 (o8 A 8) (some true) (some false)) (l9 (o8 A 14) (l9 (o8 A 14) (some true) (some false)) (l9 (o8 A 15) (l9 (o8 A 15) (some true) (some false)) (l9 (o8 A 16) (l9 (o8 A 16) (some true) (some false)) (l9 (o8 A 33) (l9 (o8 A 33) (some true) (some false)) (l9 (o8 A 34) (l9 (o8 A 34) (some true) (some false)) (l9 (o8 A 36) (l9 (o8 A 36) (some true) (some false)) (l9 (o8 A 37) (l9 (o8 A 37) (some true) (some false)) (l9 (o8 A 38) (l9 (o8 A 38) (some true) (some false)) (l9 (o8 A 39) (some true) (some false)))))))))))))))))
def Zt:FQ:=⟨[H6],tR 2 dn,mE 22 [],F7⟩
def WC:FSpec:=V4 Zt λx=>zA x
def fZ(A:Int)(B:Int)(C:iJ):Option (L8×Int):=l7 (kF (B,0) C.1) λx=>l9 (J4 A x.1) (some ((0,0),3)) (l9 (J4 x.2 A) (some ((0,0),3)) (some ((B,0),0)))
def ZC:FQ:=⟨[H6,H6,tD y72],⟨[(.cell 6 66,tD y0),(.tmp 7,H6)],[]⟩,mE 30 [(89,s89)],F7⟩
def a0z:FSpec:=V4 ZC λx=>fZ x.1 x.2.1 x.2.2
def yP(A:Int)(B:iJ):Option (L8×Int):=l9 (J4 A 0) (some ((0,0),3)) (l9 (bG (x9 B.1) (ig .i64 A 16)) (some ((0,0),6)) (l7 (J3 B.1 (ig .i64 A 16)) λx=>l9 (bG (x9 x.2) (lZ A 16)) (some ((0,0),6)) (some ((6,ig .i64 A 16),0))))
def ZE:FQ:=⟨[H6,tD y72],⟨[(.cell 4 66,tD y0),(.tmp 5,H6)],[]⟩,mE 34 [],F7⟩
def a0A:FSpec:=V4 ZE λx=>yP x.1 x.2
def kX(A:Int)(B:List L8)(C:iJ):Option (L8×Int):=l9 (J4 A 0) (some ((0,0),6)) (l9 (bG (x9 B) A) (some ((0,0),6)) (l7 (J3 B A) λx=>l7 (bI x C.1) λx=>l9 (F5 x) (some ((0,0),8)) (l7 (J3 B A) λx=>some (x,0))))
def ZF:FQ:=⟨[H6,uD y21,tD y72],⟨[(.cell 6 66,tD y0),(.tmp 7,H6)],[]⟩,mE 30 [(85,s85)],F7⟩
def WF:FSpec:=V4 ZF λx=>kX x.1 x.2.1 x.2.2
def jM(A:Int):Option Bool:=l9 (bG 0 A) (some (bG A 5)) (some false)
def ZI:FQ:=⟨[H6],tR 2 dn,mE 9 [],F7⟩
def WG:FSpec:=V4 ZI λx=>jM x
def wP(A:L8)(B:L8)(C:iJ):Option (L8×Int):=l7 (l9 (o8 A.1 34) (l9 (J4 A.2 0) (some (.inr ((0,0),3))) (l7 (jM (lZ A.2 8)) λx=>l9 (F5 x) (some (.inr ((0,0),3))) (some (.inl ((0,0),ig .i64 A.2 8))))) (some (.inl ((0,0),A.2)))) λo=>Y9 o (λ(x:L8×Int)=>l7 (l9 (J4 x.2 0) (some (.inr ((0,0),6))) (l9 (bG (x9 C.2.1) x.2) (some (.inr ((0,0),6))) (some (.inl x.1)))) λo=>Y9 o (λ(d:L8)=>l7 (J3 C.2.1 x.2) λb=>l7 (J3 C.2.1 x.2) λx=>l7 (l7 (bI b.2.1 C.1) λc=>l9 (F5 c) (some (.inr ((0,0),8))) (l7 (bI x.2.2.1 C.1) λx=>l9 (F5 x) (some (.inr ((0,0),8))) (l9 (F5 (U2 (o8 B.1 b.2.1.1) (o8 B.2 b.2.1.2))) (some (.inr ((0,0),8))) (some (.inl d))))) λo=>Y9 o (λ(c:L8)=>l9 (o8 A.1 34) (l9 (F5 (o8 b.2.1.1 3)) (some ((0,0),8)) (l9 (F5 (o8 x.2.2.1.1 4)) (some ((0,0),8)) (some (b.2.1,0)))) (some (x.2.2.1,0))) λr=>some r) λr=>some r) λr=>some r
def ZG:FQ:=⟨[tD y0,tD y0,tD y72],⟨[(.cell 6 66,tD y0),(.tmp 7,H6)],[]⟩,mE 84 [(205,WG),(85,s85)],sN 2 (Y6 (jnR [(6,9),(13,30),(4000384,4000385)] ⟨[(6,(false,(.box (dT y0)))),(8,H6)],[]⟩ F7) (Y6 (jnR [(6,8),(30,40),(9000000,9000001)] ⟨[(6,(false,(.box (dT y0))))],[]⟩ F7) (sN 1 (Y6 (jnR [(6,8),(52,70),(27000000,27000001)] ⟨[(6,(false,(.box (dT y0))))],[]⟩ F7) F7))))⟩
def a0B:FSpec:=V4 ZG λx=>wP x.1 x.2.1 x.2.2
def iO(A:Int):Option Bool:=l9 (o8 A 2) (some true) (l9 (o8 A 3) (some true) (some (o8 A 4)))
def ZR:FQ:=⟨[H6],tR 2 dn,mE 13 [],F7⟩
def WH:FSpec:=V4 ZR λx=>iO x
def vO(A:L8)(B:iJ):Option (L8×Int):=l9 (F5 B.2.2.2.2.2) (some ((0,0),6)) (l9 (o8 A.1 35) (some ((2,0),0)) (l7 (kX A.2 B.2.2.2.2.1 B) λx=>l9 (F5 (o8 x.2 0)) (some ((0,0),x.2)) (l7 (l9 (o8 A.1 36) (l9 (o8 x.1.1 2) (some true) (some (o8 x.1.1 3))) (l9 (o8 A.1 37) (l9 (o8 A.1 37) (some (o8 x.1.1 1)) (l9 (o8 A.1 39) (l7 (iO x.1.1) λb=>l9 b (some true) (some (o8 x.1.1 5))) (some false))) (l9 (o8 A.1 38) (some (o8 x.1.1 1)) (l9 (o8 A.1 39) (l7 (iO x.1.1) λb=>l9 b (some true) (some (o8 x.1.1 5))) (some false))))) λb=>l9 (F5 b) (some ((0,0),8)) (some (x.1,0)))))
def ZH:FQ:=⟨[tD y0,tD y72],⟨[(.cell 4 66,tD y0),(.tmp 5,H6)],[]⟩,mE 62 [(202,WF),(220,WH)],sN 6 (Y6 (.join [(8,9),(30,58)] ⟨[(8,dn)],[]⟩ F7) F7)⟩
def a0C:FSpec:=V4 ZH λx=>vO x.1 x.2
def uj(A:Int)(B:Int)(C:Int):Option (L8×Bool):=l9 (o8 A 14) (l9 (o8 C 4) (l9 (o8 B 3) (some ((B,0),true)) (some ((B,0),o8 B 4))) (some ((B,0),false))) (l9 (o8 C 2) (l9 (o8 B 2) (some ((B,0),true)) (some ((B,0),o8 B 3))) (l9 (o8 A 15) (l9 (o8 B 3) (l9 (o8 C 3) (some ((4,0),true)) (some ((0,0),false))) (some ((0,0),false))) (some ((0,0),false))))
def ZT:FQ:=⟨[H6,H6,H6],⟨[(.cell 6 66,tD y0),(.tmp 7,dn)],[]⟩,mE 47 [],F7⟩
def a0K:FSpec:=V4 ZT λx=>uj x.1 x.2.1 x.2.2
def vP(A:Int)(B:List L8):Option (L8×Bool):=l7 (l9 (o8 A 10) (l7 (J3 B 0) λx=>l7 (J3 B 0) λb=>l7 (iO b.1) λc=>some (.inr (x,c))) (l9 (o8 A 25) (l7 (J3 B 0) λx=>some (.inr ((1,0),o8 x.1 1))) (l7 (l9 (o8 A 11) (some (o8 A 11)) (some (o8 A 12))) λx=>l9 x (l7 (J3 B 0) λx=>l7 (J3 B 0) λb=>l7 (J3 B 1) λc=>l9 (U2 (o8 b.1 c.1) (o8 b.2 c.2)) (l7 (J3 B 0) λd=>l7 (iO d.1) λf=>some (.inr (x,f))) (some (.inr (x,false)))) (l7 (l9 (o8 A 13) (some (o8 A 13)) (l9 (o8 A 14) (some (o8 A 14)) (some (o8 A 15)))) λx=>l9 x (l7 (J3 B 0) λx=>l7 (J3 B 1) λb=>l7 (uj A x.1 b.1) λx=>some (.inr x)) (l9 (o8 A 16) (l7 (J3 B 0) λx=>l7 (J3 B 0) λb=>l9 (o8 b.1 3) (l7 (J3 B 1) λc=>some (.inr (x,o8 c.1 3))) (some (.inr (x,false)))) (l7 (l9 (o8 A 17) (some (o8 A 17)) (some (o8 A 18))) λx=>l9 x (l7 (J3 B 0) λx=>l7 (J3 B 0) λb=>l7 (J3 B 1) λc=>l9 (U2 (o8 b.1 c.1) (o8 b.2 c.2)) (l7 (J3 B 0) λd=>l7 (iO d.1) λf=>l9 f (some (.inr (x,true))) (l7 (J3 B 0) λg=>some (.inr (x,o8 g.1 5)))) (some (.inr (x,false)))) (l7 (l9 (o8 A 19) (some (o8 A 19)) (some (o8 A 20))) λx=>l9 x (l7 (J3 B 0) λx=>l7 (J3 B 1) λb=>some (.inr ((1,0),U2 (o8 x.1 b.1) (o8 x.2 b.2)))) (l7 (l9 (o8 A 21) (some (o8 A 21)) (some (o8 A 22))) λx=>l9 x (l7 (J3 B 0) λx=>l7 (J3 B 1) λb=>l9 (U2 (o8 x.1 b.1) (o8 x.2 b.2)) (l7 (J3 B 0) λx=>l7 (iO x.1) λx=>l9 x (some (.inr ((1,0),true))) (l7 (J3 B 0) λx=>some (.inr ((1,0),o8 x.1 5)))) (some (.inr ((1,0),false)))) (l7 (l9 (o8 A 23) (some (o8 A 23)) (some (o8 A 24))) λx=>l9 x (l7 (J3 B 0) λx=>l9 (o8 x.1 1) (l7 (J3 B 1) λx=>some (.inr ((1,0),o8 x.1 1))) (some (.inr ((1,0),false)))) (l9 (o8 A 26) (l7 (J3 B 1) λx=>l7 (J3 B 0) λb=>l9 (o8 b.1 1) (l7 (J3 B 1) λc=>l7 (J3 B 2) λd=>some (.inr (x,U2 (o8 c.1 d.1) (o8 c.2 d.2)))) (some (.inr (x,false)))) (l7 (l9 (o8 A 27) (some (o8 A 27)) (some (o8 A 28))) λx=>l9 x (l7 (J3 B 0) λx=>l7 (J3 B 0) λb=>l9 (o8 b.1 5) (l7 (J3 B 1) λc=>some (.inr (x,o8 c.1 2))) (some (.inr (x,false)))) (l9 (o8 A 29) (l9 (o8 A 29) (l7 (J3 B 0) λx=>l9 (o8 x.1 5) (l7 (J3 B 1) λx=>some (.inr ((2,0),o8 x.1 5))) (some (.inr ((2,0),false)))) (l9 (o8 A 31) (l9 (o8 A 31) (l7 (J3 B 0) λx=>some (.inr ((2,0),o8 x.1 5))) (some (.inl (0,0)))) (l9 (o8 A 32) (l7 (J3 B 0) λx=>some (.inr ((2,0),o8 x.1 5))) (some (.inl (0,0)))))) (l9 (o8 A 30) (l7 (J3 B 0) λx=>l9 (o8 x.1 5) (l7 (J3 B 1) λx=>some (.inr ((2,0),o8 x.1 5))) (some (.inr ((2,0),false)))) (l9 (o8 A 31) (l9 (o8 A 31) (l7 (J3 B 0) λx=>some (.inr ((2,0),o8 x.1 5))) (some (.inl (0,0)))) (l9 (o8 A 32) (l7 (J3 B 0) λx=>some (.inr ((2,0),o8 x.1 5))) (some (.inl (0,0)))))))))))))))))) λo=>Y9 o (λ(x:L8)=>some ((0,0),false)) λr=>some r
def ZJ:FQ:=⟨[H6,uD y21],⟨[(.cell 4 66,tD y0),(.tmp 5,dn)],[]⟩,mE 222 [(220,WH),(221,a0K)],sN 2 (Y6 (jnR [(4,6),(8,221),(4000256,4000257)] ⟨[(4,(false,(.box (dT y0))))],[]⟩ (sN 1 (bV (sN 1 (.cond F7 (sN 1 (.cond F7 (Y6 (.join [(27,30)] ⟨[(27,dn)],[]⟩ F7) (.cond F7 (Y6 (.join [(47,51)] ⟨[(47,dn)],[]⟩ F7) (.cond F7 (sN 1 (.cond F7 (Y6 (.join [(80,83)] ⟨[(80,dn)],[]⟩ F7) (.cond F7 (Y6 (.join [(107,110)] ⟨[(107,dn)],[]⟩ F7) (.cond F7 (Y6 (.join [(118,121)] ⟨[(118,dn)],[]⟩ F7) (.cond F7 (Y6 (.join [(143,146)] ⟨[(143,dn)],[]⟩ F7) (.cond F7 (sN 1 (.cond F7 (Y6 (.join [(178,181)] ⟨[(178,dn)],[]⟩ F7) F7)))))))))))))))))))))))) F7)⟩
def a0D:FSpec:=V4 ZJ λx=>vP x.1 x.2
def tJ(A:L8)(B:List L8)(C:iJ):Option (L8×Int):=l7 (l9 (o8 A.1 1) (l7 (fZ A.2 1 C) λx=>some (.inr x)) (l9 (o8 A.1 2) (l7 (fZ A.2 2 C) λx=>some (.inr x)) (l9 (o8 A.1 3) (l7 (fZ A.2 3 C) λx=>some (.inr x)) (l9 (o8 A.1 4) (l7 (fZ A.2 4 C) λx=>some (.inr x)) (l9 (o8 A.1 5) (l7 (fZ A.2 5 C) λx=>some (.inr x)) (l9 (o8 A.1 6) (l7 (yP A.2 C) λx=>some (.inr x)) (l9 (o8 A.1 7) (l7 (kX A.2 C.2.2.1 C) λx=>some (.inr x)) (l9 (o8 A.1 8) (l7 (kX A.2 C.2.2.2.1 C) λx=>some (.inr x)) (l9 (o8 A.1 9) (some (.inr ((5,0),0))) (l7 (l9 (o8 A.1 33) (some (o8 A.1 33)) (some (o8 A.1 34))) λx=>l9 x (l7 (J3 B 0) λx=>l7 (wP A x C) λx=>some (.inr x)) (l7 (l9 (o8 A.1 35) (some (o8 A.1 35)) (l9 (o8 A.1 36) (some (o8 A.1 36)) (l9 (o8 A.1 37) (some (o8 A.1 37)) (l9 (o8 A.1 38) (some (o8 A.1 38)) (some (o8 A.1 39)))))) λx=>l9 x (l7 (vO A C) λx=>some (.inr x)) (l9 (o8 A.1 14) (l9 (o8 A.1 14) (l7 (jM A.2) λx=>l9 (F5 x) (some (.inr ((0,0),3))) (some (.inl (0,0)))) (some (.inl (0,0)))) (l9 (o8 A.1 15) (l9 (o8 A.1 15) (l7 (jM A.2) λx=>l9 (F5 x) (some (.inr ((0,0),3))) (some (.inl (0,0)))) (some (.inl (0,0)))) (l9 (o8 A.1 16) (l7 (jM A.2) λx=>l9 (F5 x) (some (.inr ((0,0),3))) (some (.inl (0,0)))) (some (.inl (0,0))))))))))))))))) λo=>Y9 o (λ(x:L8)=>l7 (vP A.1 B) λx=>l9 (F5 x.2) (some ((0,0),8)) (some (x.1,0))) λr=>some r
def Zv:FQ:=⟨[tD y0,uD y21,tD y72],⟨[(.cell 6 66,tD y0),(.tmp 7,H6)],[]⟩,mE 125 [(200,a0z),(201,a0A),(202,WF),(203,a0B),(204,a0C),(205,WG),(206,a0D)],sN 1 (Y6 (jnR [(6,8),(10,114),(4000384,4000385)] ⟨[(6,(false,(.box (dT y0))))],[]⟩ (sN 1 (bV (sN 1 (.cond F7 (sN 1 (.cond F7 (sN 1 (.cond F7 (sN 1 (.cond F7 (sN 1 (.cond F7 (sN 1 (.cond F7 (sN 1 (.cond F7 (sN 1 (.cond F7 (sN 1 (.cond F7 (Y6 (.join [(83,86)] ⟨[(83,dn)],[]⟩ F7) (.cond F7 (Y6 (.join [(94,100)] ⟨[(94,dn)],[]⟩ F7) F7)))))))))))))))))))))))) F7)⟩
def a0u:FSpec:=V4 Zv λx=>tJ x.1 x.2.1 x.2.2
def Dp(A:List L8)(B:iJ):Option (L8×L8):=l7 (qH A) λx=>l9 (F5 (o8 x.2.2 0)) (some ((0,0),x.2)) (l7 (Z4 (λ(x:L8×List L8×Int)=>l9 (J4 x.2.2 (x9 A)) (l7 (J3 A x.2.2) λc=>l9 (F5 (o8 c.2 0)) (l7 (zA c.1) λd=>l9 (F5 d) (some (.rt ((0,0),x.2.2,2))) (l7 (lq c.1) λb=>l9 (qY (J7 .i64 (x9 x.2.1) b) (x9 x.2.1) (x9 x.2.1)) (l7 (tJ c (lH x.2.1 (V8 (J7 .i64 (x9 x.2.1) b)) (V8 (x9 x.2.1))) B) λf=>l9 (F5 (o8 f.2 0)) (some (.rt ((0,0),x.2.2,f.2))) (l9 (qY 0 (J7 .i64 (x9 x.2.1) b) (x9 x.2.1)) (l7 (bi (lH x.2.1 (V8 0) (V8 (J7 .i64 (x9 x.2.1) b))) [f.1]) λg=>some (.nx (x.1,g,D5 .i64 x.2.2 1))) none)) none)) (l7 (lq c.1) λd=>l9 (qY (J7 .i64 (x9 x.2.1) d) (x9 x.2.1) (x9 x.2.1)) (l7 (tJ c (lH x.2.1 (V8 (J7 .i64 (x9 x.2.1) d)) (V8 (x9 x.2.1))) B) λb=>l9 (F5 (o8 b.2 0)) (some (.rt ((0,0),x.2.2,b.2))) (l9 (qY 0 (J7 .i64 (x9 x.2.1) d) (x9 x.2.1)) (l7 (bi (lH x.2.1 (V8 0) (V8 (J7 .i64 (x9 x.2.1) d))) [b.1]) λf=>some (.nx (x.1,f,D5 .i64 x.2.2 1))) none)) none)) (some (.ex (x.1,x.2.1)))) ((0,0),[],0)) λo=>Y9 o (λ(y:L8×List L8)=>l7 (J3 y.2 0) λx=>l7 (V7 y.2 (V8 0)) λx=>some (x,0,0)) λr=>some r)
def Zk:FQ:=⟨[uD y21,tD y72],⟨[(.cell 4 66,tD y0),(.tmp 5,H6),(.tmp 6,H6)],[]⟩,mE 75 [(178,WB),(179,WC),(180,PD),(181,a0u)],sN 4 (Y6 (sN 1 (bV (lpR [(4,7),(10,16),(29,72),(4000256,4000257)] ⟨[(4,(false,(.box (dT y0)))),(10,(uO y0)),(29,H6)],[]⟩ 0 ⟨[(4,(false,(.box (dT y0)))),(10,(uO y0))],[]⟩ F7))) F7)⟩
def a0n:FSpec:=V4 Zk λx=>Dp x.1 x.2
def nX(A:List L8)(B:iJ)(C:L8):Option Int:=l7 (Dp A B) λx=>l9 (F5 (o8 x.2.2 0)) (some x.2.2) (l9 (F5 (U2 (o8 x.1.1 C.1) (o8 x.1.2 C.2))) (some 8) (some 0))
def YZ:FQ:=⟨[uD y21,tD y72,tD y0],tR 6 H6,mE 23 [(155,a0n)],F7⟩
def a0e:FSpec:=V4 YZ λx=>nX x.1 x.2.1 x.2.2
def yS(A:aJ)(B:Int)(C:iJ):Option Int:=l7 (J3 A.2.2.2.2 B) λx=>l7 (oM A.2.2.2.2 0 B) λf=>l7 (af (λ(b:L8)=>l9 (J4 b.2 (x9 f)) (l7 (J3 f b.2) λc=>l9 (o8 c.2.1 x.2.1) (some (.inl (D5 .i64 b.1 1,D5 .i64 b.2 1))) (some (.inl (b.1,D5 .i64 b.2 1)))) (some (.inr b.1))) (0,0)) λy=>l7 (l7 (bJ x.1) λb=>l9 (F5 b) (some (.inr 2)) (l7 (oM A.2.2.2.2 0 B) λc=>l7 (eQ c x) λg=>l9 g (some (.inr 7)) (l7 (l9 (J4 x.2.1 0) (some true) (some (bG (x9 A.2.2.2.1) x.2.1))) λi=>l9 i (some (.inr 6)) (l7 (l9 (F5 (o8 x.2.2.1 (-1))) (l9 (J4 x.2.2.1 0) (some true) (l9 (bG B x.2.2.1) (some true) (l7 (J3 A.2.2.2.2 x.2.2.1) λd=>some (F5 (o8 d.2.1 x.2.1))))) (some false)) λd=>l9 d (some (.inr 9)) (l7 (l9 (J4 x.2.2.2.1 0) (some true) (some (J4 9 x.2.2.2.1))) λj=>l9 j (some (.inr 3)) (l9 (J4 x.2.2.2.2.1.1 0) (some (.inr 3)) (l9 (bG x.2.2.2.2.1.2 x.2.2.2.2.1.1) (some (.inr 3)) (l9 (J4 109573 x.2.2.2.2.1.2) (some (.inr 3)) (l9 (bG 8 y) (some (.inr 4)) (l7 (wo x.2.2.2.2.2.2.2) λk=>l9 (F5 k) (some (.inr 2)) (some (.inl x)))))))))))) λo=>Y9 o (λ(x:tX)=>l9 (J4 0 (x9 x.2.2.2.2.2.1)) (l7 (nX x.2.2.2.2.2.1 C (1,0)) λb=>l9 (F5 (o8 b 0)) (some b) (l7 (J3 A.2.2.2.1 x.2.1) λc=>l7 (nX x.2.2.2.2.2.2.1 C c.2) λx=>some x)) (l7 (J3 A.2.2.2.1 x.2.1) λb=>l7 (nX x.2.2.2.2.2.2.1 C b.2) λx=>some x)) λr=>some r
def YK:FQ:=⟨[tD y33,H6,tD y72],tR 6 H6,mE 145 [(62,s62),(133,MF),(132,RQ),(134,a0d),(135,a0e)],sN 3 (Y6 (sN 1 (bV (.loop [(8,9),(10,11),(22,34)] ⟨[(8,H6),(22,H6)],[]⟩ 0 ⟨[(8,H6)],[]⟩ F7))) (Y6 (jnR [(6,8),(34,122),(7000448,7000449)] ⟨[(7,(false,(.rp y28)))],[]⟩ (bV (sN 1 (.cond F7 (sN 1 (.cond F7 (Y6 (.join [(46,58)] ⟨[(46,dn)],[]⟩ F7) (.cond F7 (Y6 (.join [(58,85)] ⟨[(58,dn)],[]⟩ F7) (.cond F7 (Y6 (.join [(85,94)] ⟨[(85,dn)],[]⟩ F7) F7))))))))))) F7))⟩
def R_:FSpec:=V4 YK λx=>yS x.1 x.2.1 x.2.2
def YF:List MG:=[(false,(.ownb (.int .i64)))]
def Wv:FSpec:=⟨YF,[],[eX],λx=>wG x⟩
def YG:List MG:=[eX]
def Wx:FSpec:=⟨YG,[eX],[],λx=>nZ x⟩
def nU(A:List Int):Option (List Int):=l7 (wG A) λx=>l7 (nZ x) λx=>some x
def YQ:FQ:=⟨[eX],tR 2 eX,mE 7 [(112,Wv),(113,Wx)],F7⟩
def X_:FSpec:=V4 YQ λx=>nU x
def jr(A:List L8):Option iU:=l7 (af (λ(x:List Int×List Int×List Int×Int)=>l9 (J4 x.2.2.2 (x9 A)) (l7 (J3 A x.2.2.2) λb=>l9 (o8 b.1 7) (l7 (bi x.1 [b.2]) λc=>some (.inl (c,x.2.1,x.2.2.1,D5 .i64 x.2.2.2 1))) (l9 (o8 b.1 8) (l7 (bi x.2.1 [b.2]) λc=>some (.inl (x.1,c,x.2.2.1,D5 .i64 x.2.2.2 1))) (l9 (o8 b.1 36) (l9 (o8 b.1 36) (l7 (bi x.2.2.1 [b.2]) λc=>some (.inl (x.1,x.2.1,c,D5 .i64 x.2.2.2 1))) (some (.inl (x.1,x.2.1,x.2.2.1,D5 .i64 x.2.2.2 1)))) (l9 (o8 b.1 37) (l9 (o8 b.1 37) (l7 (bi x.2.2.1 [b.2]) λc=>some (.inl (x.1,x.2.1,c,D5 .i64 x.2.2.2 1))) (some (.inl (x.1,x.2.1,x.2.2.1,D5 .i64 x.2.2.2 1)))) (l9 (o8 b.1 38) (l9 (o8 b.1 38) (l7 (bi x.2.2.1 [b.2]) λc=>some (.inl (x.1,x.2.1,c,D5 .i64 x.2.2.2 1))) (some (.inl (x.1,x.2.1,x.2.2.1,D5 .i64 x.2.2.2 1)))) (l9 (o8 b.1 39) (l7 (bi x.2.2.1 [b.2]) λc=>some (.inl (x.1,x.2.1,c,D5 .i64 x.2.2.2 1))) (some (.inl (x.1,x.2.1,x.2.2.1,D5 .i64 x.2.2.2 1))))))))) (some (.inr (x.1,x.2.1,x.2.2.1)))) ([],[],[],0)) λy=>l7 (nU y.1) λx=>l7 (nU y.2.1) λb=>l7 (nU y.2.2) λc=>some (x,b,c)
def q75:FQ:=⟨[uD y21],⟨[(.tmp 2,eX),(.tmp 3,eX),(.tmp 4,eX)],[]⟩,mE 49 [(111,X_)],sN 2 (Y6 (sN 1 (bV (.loop [(5,8),(9,10),(12,43)] ⟨[(5,eX),(6,eX),(7,eX),(12,H6)],[]⟩ 0 ⟨[(5,eX),(6,eX),(7,eX)],[]⟩ F7))) F7)⟩
def s75:FSpec:=V4 q75 λx=>jr x
def qx(A:tX)(B:Int):Option (List Int):=l7 (jr A.2.2.2.2.2.1) λx=>l7 (jr A.2.2.2.2.2.2.1) λd=>l7 (af (λ(b:List Int×Int)=>l9 (J4 b.2 (x9 x.2.1)) (l7 (J3 x.2.1 b.2) λc=>l7 (V7 x.2.1 (V8 b.2)) λx=>l9 (bG 0 x) (l9 (J4 x B) (l7 (bi b.1 [x]) λx=>some (.inl (x,D5 .i64 b.2 1))) (some (.inl (b.1,D5 .i64 b.2 1)))) (some (.inl (b.1,D5 .i64 b.2 1)))) (some (.inr b.1))) ([],0)) λy=>l7 (af (λ(x:List Int×Int)=>l9 (J4 x.2 (x9 d.2.1)) (l7 (J3 d.2.1 x.2) λb=>l7 (V7 d.2.1 (V8 x.2)) λc=>l9 (bG 0 c) (l9 (J4 c B) (l7 (bi x.1 [c]) λf=>some (.inl (f,D5 .i64 x.2 1))) (some (.inl (x.1,D5 .i64 x.2 1)))) (some (.inl (x.1,D5 .i64 x.2 1)))) (some (.inr x.1))) (y,0)) λy=>some y
def YP:FQ:=⟨[tD y28,H6],tR 4 eX,mE 67 [(75,s75)],sN 4 (Y6 (sN 1 (bV (.loop [(5,6),(13,14),(32,48)] ⟨[(5,eX),(32,H6)],[]⟩ 0 ⟨[(5,eX)],[]⟩ F7))) (Y6 (sN 1 (bV (.loop [(5,6),(15,16),(50,66),(21000000,21000001)] ⟨[(5,eX),(50,H6)],[]⟩ 2 ⟨[(5,eX)],[]⟩ F7))) F7))⟩
def W_:FSpec:=V4 YP λx=>qx x.1 x.2
def qy(A:List Int):Option (List Int):=l7 (wG A) λx=>l7 (nZ x) λx=>some x
def q76:FQ:=⟨[eX],tR 2 eX,mE 7 [(112,Wv),(113,Wx)],F7⟩
def s76:FSpec:=V4 q76 λx=>qy x
def lV(A:aJ):Option (List (List Int)):=l7 (qL (x9 A.2.2.2.1) []) λx=>l7 (af (λ(x:List (List Int)×Int)=>l9 (J4 x.2 (x9 A.2.2.2.2)) (l7 (J3 A.2.2.2.2 x.2) λb=>l9 (bG 0 b.2.1) (l9 (J4 b.2.1 (x9 x.1)) (l9 (inb b.2.1 (x9 x.1)) (l7 (V7 x.1 (V8 b.2.1)) λc=>l7 (qx b (x9 x.1)) λd=>l7 (bi c d) λf=>l9 (inb b.2.1 (x9 x.1)) (l9 (Uu (V8 b.2.1) (V8 b.2.1)) (l7 (V7 x.1 (V8 b.2.1)) λg=>some (.inl (Z9 x.1 (V8 b.2.1) f,D5 .i64 x.2 1))) none) none) none) (some (.inl (x.1,D5 .i64 x.2 1)))) (some (.inl (x.1,D5 .i64 x.2 1)))) (some (.inr x.1))) (x,0)) λy=>l7 (af (λ(x:List (List Int)×Int)=>l9 (J4 x.2 (x9 y)) (l9 (inb x.2 (x9 x.1)) (l7 (V7 x.1 (V8 x.2)) λb=>l7 (qy b) λc=>l9 (inb x.2 (x9 x.1)) (l9 (Uu (V8 x.2) (V8 x.2)) (l7 (V7 x.1 (V8 x.2)) λd=>some (.inl (Z9 x.1 (V8 x.2) c,D5 .i64 x.2 1))) none) none) none) (some (.inr x.1))) (y,0)) λy=>some y
def q74:FQ:=⟨[tD y33],tR 2 (uD y63),⟨58,eqs,tt,gl,[(110,W_),(76,s76)],[(167,oiM)],[7,36,50,53],[],[],[]⟩,sN 2 (Y6 (sN 1 (bV (.loop [(3,4),(5,6),(15,44),(7000704,7000705)] ⟨[(3,(false,(.owns oiM))),(15,H6)],[]⟩ 0 ⟨[(3,(false,(.owns oiM)))],[]⟩ F7))) (Y6 (sN 1 (bV (.loop [(3,4),(6,8),(44,45),(46,57),(15000000,15000001)] ⟨[(3,(false,(.owns oiM))),(46,H6)],[(44,3)]⟩ 2 ⟨[(3,(false,(.owns oiM)))],[]⟩ F7))) F7))⟩
def s74:FSpec:=V4 q74 λx=>lV x
def uI(A:List (List Int))(B:Int):Option (List Int):=l7 (qL (x9 A) false) λx=>l7 (af (λ(x:List Bool×List Int)=>l9 (J4 0 (x9 x.2)) (l7 (J3 x.2 0) λf=>l7 (V7 x.2 (V8 0)) λd=>l9 (qY 1 (x9 x.2) (x9 x.2)) (l7 (J3 A d) λc=>l7 (af (λ(x:List Bool×List Int×Int)=>l9 (J4 x.2.2 (x9 c)) (l7 (J3 c x.2.2) λb=>l7 (J3 x.1 b) λj=>l7 (V7 x.1 (V8 b)) λg=>l9 (F5 g) (l7 (J3 x.1 b) λk=>l7 (V7 x.1 (V8 b)) λn=>l7 (bi x.2.1 [b]) λi=>some (.inl (Z9 x.1 (V8 b) true,i,D5 .i64 x.2.2 1))) (some (.inl (x.1,x.2.1,D5 .i64 x.2.2 1)))) (some (.inr (x.1,x.2.1)))) (x.1,lH x.2 (V8 1) (V8 (x9 x.2)),0)) λy=>some (.inl y)) none) (some (.inr x.1))) (x,[B])) λy=>l7 (af (λ(x:List Int×Int)=>l9 (J4 x.2 (x9 y)) (l7 (J3 y x.2) λf=>l7 (V7 y (V8 x.2)) λd=>l9 d (l7 (bi x.1 [x.2]) λc=>some (.inl (c,D5 .i64 x.2 1))) (some (.inl (x.1,D5 .i64 x.2 1)))) (some (.inr x.1))) ([],0)) λy=>some y
def q73:FQ:=⟨[uD y63,H6],tR 4 eX,mE 62 [],sN 3 (Y6 (bV (.loop [(5,8),(9,10),(18,48),(7000960,7000961),(10001088,10001089)] ⟨[(5,(uO .bool)),(6,eX)],[]⟩ 0 ⟨[(5,(uO .bool))],[]⟩ (sN 1 (bV (sN 3 (bV (.loop [(5,7),(9,10),(31,48),(14000000,14000002)] ⟨[(5,(uO .bool)),(6,eX),(31,H6)],[]⟩ 2 ⟨[(5,(uO .bool)),(6,eX)],[]⟩ F7))))))) (sN 1 (Y6 (sN 1 (bV (.loop [(10,13),(50,61)] ⟨[(10,eX),(50,H6)],[]⟩ 4 ⟨[(10,eX)],[]⟩ F7))) F7)))⟩
def s73:FSpec:=V4 q73 λx=>uI x.1 x.2
def iw(A:aJ)(B:Int):Option (List Int):=l9 (J4 B 0) (some []) (l9 (bG (x9 A.2.2.2.1) B) (some []) (l7 (lV A) λx=>l7 (uI x B) λx=>some x))
def q46:FQ:=⟨[tD y33,H6],tR 4 eX,mE 18 [(74,s74),(73,s73)],F7⟩
def s46:FSpec:=V4 q46 λx=>iw x.1 x.2
def oD(A:List Int)(B:Int):Option Int:=l7 (Z4 (λ(x:Int)=>l9 (J4 x (x9 A)) (l7 (J3 A x) λb=>l9 (o8 B b) (some (.rt x)) (some (.nx (D5 .i64 x 1)))) (some (.ex ()))) 0) λo=>Y9 o (λy=>some (-1)) λr=>some r
def Za:FQ:=⟨[uD y10,H6],tR 4 H6,mE 19 [],sN 1 (Y6 (sN 1 (bV (lpR [(4,6),(8,19)] ⟨[(8,H6)],[]⟩ 0 sgN F7))) F7)⟩
def a0f:FSpec:=V4 Za λx=>oD x.1 x.2
def lM(A:List Int)(B:Int):Option Bool:=l7 (oD A B) λx=>some (bG 0 x)
def YL:FQ:=⟨[uD y10,H6],tR 4 dn,mE 9 [(136,a0f)],F7⟩
def S_:FSpec:=V4 YL λx=>lM x.1 x.2
def xe(A:ni)(B:Int):Option L8:=l7 (J3 A.2.2 B) λx=>l7 (oM A.2.2 0 B) λf=>l7 (l7 (su A.1 x.1) λd=>l9 d (some (x,true)) (l7 (uZ A.2.1 x.1) λb=>l9 b (some (x,true)) (l7 (dR f x) λc=>some (x,c)))) λx=>l7 (l7 (bJ x.1.1) λd=>l9 (F5 d) (some (.inr (2,0))) (l9 x.2 (some (.inr (7,0))) (l7 (l9 (F5 (o8 x.1.2.1 (-1))) (l9 (J4 x.1.2.1 0) (some true) (l9 (bG B x.1.2.1) (some true) (l7 (J3 f x.1.2.1) λx=>some (F5 (o8 x.2.1 (-1)))))) (some false)) λb=>l9 b (some (.inr (6,0))) (l9 (J4 12 (x9 x.1.2.2.1)) (some (.inr (4,112))) (l9 (J4 12 (x9 x.1.2.2.2.1)) (some (.inr (4,212))) (some (.inl ()))))))) λo=>Y9 o (λd=>l7 (Z4 (λ(b:Int)=>l9 (J4 b (x9 x.1.2.2.1)) (l7 (J3 x.1.2.2.1 b) λc=>l7 (oM x.1.2.2.1 0 b) λx=>l7 (qK A c x []) λx=>l9 (F5 (o8 x 0)) (some (.rt (x,D5 .i64 100 b))) (some (.nx (D5 .i64 b 1)))) (some (.ex ()))) 0) λo=>Y9 o (λy=>l7 (Z4 (λ(b:Int)=>l9 (J4 b (x9 x.1.2.2.2.1)) (l7 (J3 x.1.2.2.2.1 b) λc=>l7 (oM x.1.2.2.2.1 0 b) λg=>l7 (qK A c x.1.2.2.1 g) λx=>l9 (F5 (o8 x 0)) (some (.rt (x,D5 .i64 200 b))) (some (.nx (D5 .i64 b 1)))) (some (.ex ()))) 0) λo=>Y9 o (λy=>l7 (pG A B) λb=>l7 (Z4 (λ(c:Int)=>l9 (J4 c (x9 x.1.2.2.2.2)) (l7 (yS x.1 c b) λx=>l9 (F5 (o8 x 0)) (some (.rt (x,D5 .i64 300 c))) (some (.nx (D5 .i64 c 1)))) (some (.ex ()))) 0) λo=>Y9 o (λy=>l7 (Z4 (λ(c:Int)=>l9 (J4 c (x9 x.1.2.2.2.1)) (l7 (iw x.1 c) λx=>l7 (lM x c) λx=>l9 x (some (.rt (9,D5 .i64 200 c))) (some (.nx (D5 .i64 c 1)))) (some (.ex ()))) 0) λo=>Y9 o (λy=>some (0,0)) λr=>some r) λr=>some r) λr=>some r) λr=>some r) λr=>some r
def q65:FQ:=⟨[tD y36,H6],⟨[(.tmp 4,H6),(.tmp 5,H6)],[]⟩,mE 163 [(63,s63),(64,s64),(102,MB),(101,RF),(62,s62),(103,P_),(104,Q_),(105,R_),(46,s46),(106,S_)],sN 3 (Y6 (.join [(6,7),(8,9),(28,45),(7000384,7000385)] ⟨[(6,(false,(.rp y33))),(8,dn)],[]⟩ F7) (Y6 (jnR [(4,6),(45,86)] sgN (bV (sN 1 (.cond F7 (sN 1 (.cond F7 (Y6 (.join [(52,76)] ⟨[(52,dn)],[]⟩ F7) F7))))))) (Y6 (sN 1 (bV (lpR [(4,6),(9,12),(89,107)] ⟨[(89,H6)],[]⟩ 1 sgN F7))) (Y6 (sN 1 (bV (lpR [(4,6),(12,15),(110,130)] ⟨[(110,H6)],[]⟩ 3 sgN F7))) (sN 1 (Y6 (sN 1 (bV (lpR [(4,6),(16,18),(136,149)] ⟨[(136,H6)],[]⟩ 5 sgN F7))) (Y6 (sN 1 (bV (lpR [(4,6),(18,19),(152,163)] ⟨[(152,H6)],[]⟩ 7 sgN F7))) F7)))))))⟩
def s65:FSpec:=V4 q65 λx=>xe x.1 x.2
def vY(A:ni):Option au:=l9 (J4 4 (x9 A.2.2)) (some (4,3,4,0)) (l7 (Z4 (λ(x:au×Int)=>l9 (J4 x.2 (x9 A.2.2)) (l7 (xe A x.2) λb=>l9 (F5 (o8 b.1 0)) (some (.rt (b.1,3,x.2,b.2))) (some (.nx (x.1,D5 .i64 x.2 1)))) (some (.ex x.1))) ((0,0,0,0),0)) λo=>Y9 o (λ(y:au)=>some (0,0,0,0)) λr=>some r)
def q37:FQ:=⟨[tD y36],cR 2 84 (tD y41),mE 31 [(65,s65)],sN 2 (Y6 (sN 1 (bV (lpR [(2,6),(14,30),(4000128,4000129)] ⟨[(2,(false,(.box (dT y41)))),(14,H6)],[]⟩ 0 ⟨[(2,(false,(.box (dT y41))))],[]⟩ F7))) F7)⟩
def s37:FSpec:=V4 q37 λx=>vY x
def pU(A:ni):Option au:=l7 (wZ A) λx=>l9 (F5 (o8 x.1 0)) (some x) (l7 (vZ A) λx=>l9 (F5 (o8 x.1 0)) (some x) (l7 (vY A) λx=>some x))
def q23:FQ:=⟨[tD y36],cR 2 84 (tD y41),mE 19 [(35,s35),(36,s36),(37,s37)],F7⟩
def s23:FSpec:=V4 q23 λx=>pU x
def jZ(A:List (List UInt8))(B:List (List UInt8)):Option Bool:=l9 (F5 (o8 (x9 A) (x9 B))) (some false) (l7 (Z4 (λ(x:Int)=>l9 (J4 x (x9 A)) (l7 (J3 A x) λb=>l7 (J3 B x) λc=>l9 (F5 (seq b c)) (some (.rt false)) (some (.nx (D5 .i64 x 1)))) (some (.ex ()))) 0) λo=>Y9 o (λy=>some true) λr=>some r)
def q66:FQ:=⟨[uD (.sl .str),(uD (.sl .str))],tR 4 dn,mE 26 [],sN 2 (Y6 (sN 1 (bV (lpR [(4,6),(13,26)] ⟨[(13,H6)],[]⟩ 0 sgN F7))) F7)⟩
def s66:FSpec:=V4 q66 λx=>jZ x.1 x.2
def uu(A:og)(B:og):Option Bool:=l9 (seq A.1 B.1) (l7 (jZ A.2 B.2) λx=>some x) (some false)
def q39:FQ:=⟨[tD y11,tD y11],tR 4 dn,mE 17 [(66,s66)],F7⟩
def s39:FSpec:=V4 q39 λx=>uu x.1 x.2
def aH(A:List og)(B:List og)(C:Unit):Option Bool:=l9 (F5 (o8 (x9 A) (x9 B))) (some false) (l7 (Z4 (λ(x:Int)=>l9 (J4 x (x9 A)) (l7 (J3 A x) λb=>l7 (J3 B x) λc=>l7 (uu b c) λd=>l9 (F5 d) (some (.rt false)) (some (.nx (D5 .i64 x 1)))) (some (.ex ()))) 0) λo=>Y9 o (λy=>some true) λr=>some r)
def Vo:FQ:=⟨[uD y12,uD y12,(false,(.fn 39 []))],tR 6 dn,mE 32 [(39,s39)],sN 2 (Y6 (sN 1 (bV (lpR [(6,10),(17,32)] ⟨[(17,H6)],[]⟩ 0 sgN F7))) F7)⟩
def VA:FSpec:=V4 Vo λx=>aH x.1 x.2.1 x.2.2
def jw(A:List Gs)(B:List Gs):Option Bool:=l9 (F5 (o8 (x9 A) (x9 B))) (some false) (l7 (Z4 (λ(x:Int)=>l9 (J4 x (x9 A)) (l7 (J3 A x) λb=>l7 (J3 B x) λc=>l9 (F5 (U2 (o8 b.1.1 c.1.1) (U2 (o8 b.1.2 c.1.2) (U2 (o8 b.2.1 c.2.1) (U2 (o8 b.2.2.1 c.2.2.1) (o8 b.2.2.2 c.2.2.2)))))) (some (.rt false)) (some (.nx (D5 .i64 x 1)))) (some (.ex ()))) 0) λo=>Y9 o (λy=>some true) λr=>some r)
def q67:FQ:=⟨[uD y14,uD y14],tR 4 dn,mE 26 [],sN 2 (Y6 (sN 1 (bV (lpR [(4,6),(13,26)] ⟨[(13,H6)],[]⟩ 0 sgN F7))) F7)⟩
def s67:FSpec:=V4 q67 λx=>jw x.1 x.2
def sF(A:lS)(B:lS):Option Bool:=l9 (seq A.1 B.1) (l9 (U2 (o8 A.2.1.1 B.2.1.1) (o8 A.2.1.2 B.2.1.2)) (l9 (U2 (o8 A.2.2.1.1 B.2.2.1.1) (o8 A.2.2.1.2 B.2.2.1.2)) (l7 (jw A.2.2.2 B.2.2.2) λx=>some x) (some false)) (some false)) (some false)
def q41:FQ:=⟨[tD y17,tD y17],tR 4 dn,mE 31 [(67,s67)],F7⟩
def s41:FSpec:=V4 q41 λx=>sF x.1 x.2
def ak(A:List lS)(B:List lS)(C:Unit):Option Bool:=l9 (F5 (o8 (x9 A) (x9 B))) (some false) (l7 (Z4 (λ(x:Int)=>l9 (J4 x (x9 A)) (l7 (J3 A x) λb=>l7 (J3 B x) λc=>l7 (sF b c) λd=>l9 (F5 d) (some (.rt false)) (some (.nx (D5 .i64 x 1)))) (some (.ex ()))) 0) λo=>Y9 o (λy=>some true) λr=>some r)
def Vp:FQ:=⟨[uD y18,uD y18,(false,(.fn 41 []))],tR 6 dn,mE 32 [(41,s41)],sN 2 (Y6 (sN 1 (bV (lpR [(6,10),(17,32)] ⟨[(17,H6)],[]⟩ 0 sgN F7))) F7)⟩
def VB:FSpec:=V4 Vp λx=>ak x.1 x.2.1 x.2.2
def dh(A:List lQ)(B:List lQ):Option Bool:=l9 (F5 (o8 (x9 A) (x9 B))) (some false) (l7 (Z4 (λ(x:Int)=>l9 (J4 x (x9 A)) (l7 (J3 A x) λb=>l7 (J3 B x) λc=>l9 (F5 (U2 (seq b.1 c.1) (U2 (o8 b.2.1 c.2.1) (o8 b.2.2 c.2.2)))) (some (.rt false)) (some (.nx (D5 .i64 x 1)))) (some (.ex ()))) 0) λo=>Y9 o (λy=>some true) λr=>some r)
def q68:FQ:=⟨[uD y20,uD y20],tR 4 dn,mE 26 [],sN 2 (Y6 (sN 1 (bV (lpR [(4,6),(13,26)] ⟨[(13,H6)],[]⟩ 0 sgN F7))) F7)⟩
def s68:FSpec:=V4 q68 λx=>dh x.1 x.2
def sD(A:aJ)(B:aJ):Option Bool:=l9 (seq A.1 B.1) (l9 (o8 A.2.1 B.2.1) (l7 (dh A.2.2.1 B.2.2.1) λx=>l9 x (l7 (dh A.2.2.2.1 B.2.2.2.1) λx=>some x) (some false)) (some false)) (some false)
def q43:FQ:=⟨[tD y33,tD y33],tR 4 dn,mE 31 [(68,s68)],F7⟩
def s43:FSpec:=V4 q43 λx=>sD x.1 x.2
def aj(A:List aJ)(B:List aJ)(C:Unit):Option Bool:=l9 (F5 (o8 (x9 A) (x9 B))) (some false) (l7 (Z4 (λ(x:Int)=>l9 (J4 x (x9 A)) (l7 (J3 A x) λb=>l7 (J3 B x) λc=>l7 (sD b c) λd=>l9 (F5 d) (some (.rt false)) (some (.nx (D5 .i64 x 1)))) (some (.ex ()))) 0) λo=>Y9 o (λy=>some true) λr=>some r)
def Vq:FQ:=⟨[uD y34,uD y34,(false,(.fn 43 []))],tR 6 dn,mE 32 [(43,s43)],sN 2 (Y6 (sN 1 (bV (lpR [(6,10),(17,32)] ⟨[(17,H6)],[]⟩ 0 sgN F7))) F7)⟩
def VC:FSpec:=V4 Vq λx=>aj x.1 x.2.1 x.2.2
def mZ(A:ni)(B:ni):Option Bool:=l7 (aH A.1 B.1 ()) λx=>l9 x (l7 (ak A.2.1 B.2.1 ()) λx=>l9 x (l7 (aj A.2.2 B.2.2 ()) λx=>some x) (some false)) (some false)
def q24:FQ:=⟨[tD y36,tD y36],tR 4 dn,mE 24 [(38,VA),(40,VB),(42,VC)],F7⟩
def s24:FSpec:=V4 q24 λx=>mZ x.1 x.2
def jJ(A:ni)(B:List O9)(C:List lQ):Option L8:=l9 (J4 (x9 B) (x9 C)) (some (x9 B,5)) (l9 (J4 (x9 C) (x9 B)) (some (x9 C,4)) (l7 (Z4 (λ(x:Int)=>l9 (J4 x (x9 B)) (l7 (J3 B x) λb=>l7 (J3 C x) λc=>l9 (F5 (o8 b.1 c.2.1)) (some (.rt (x,8))) (l9 (F5 (o8 b.2.1 c.2.2)) (some (.rt (x,8))) (l7 (kF c.2 A.1) λd=>l9 (J4 b.2.2 d.1) (some (.rt (x,3))) (l9 (J4 d.2 b.2.2) (some (.rt (x,3))) (some (.nx (D5 .i64 x 1))))))) (some (.ex ()))) 0) λo=>Y9 o (λy=>some (0,0)) λr=>some r))
def Zb:FQ:=⟨[tD y36,uD y37,uD y20],⟨[(.tmp 6,H6),(.tmp 7,H6)],[]⟩,mE 71 [(89,s89)],sN 3 (Y6 (sN 1 (bV (lpR [(6,13),(29,71)] ⟨[(29,H6)],[]⟩ 0 sgN F7))) F7)⟩
def a0g:FSpec:=V4 Zb λx=>jJ x.1 x.2.1 x.2.2
def mQ(A:ni)(B:Int):Option (List lQ×Int):=l7 (J3 A.2.2 B) λx=>l9 (J4 x.2.1 0) (some ([],0)) (l9 (bG (x9 A.2.2) x.2.1) (some ([],0)) (l7 (J3 A.2.2 x.2.1) λx=>some (x.2.2.1,8)))
def Zc:FQ:=⟨[tD y36,H6],⟨[(.tmp 4,uD y20),(.tmp 5,H6)],[]⟩,mE 28 [],F7⟩
def a0h:FSpec:=V4 Zc λx=>mQ x.1 x.2
def rG(A:ni)(B:Int)(C:Es):Option O9:=l7 (l9 (J4 B 0) (some (.inr (-1,-1,6))) (l9 (bG (x9 A.2.2) B) (some (.inr (-1,-1,6))) (some (.inl ())))) λo=>Y9 o (λx=>l7 (l9 (J4 C.1 0) (some (.inr (-1,-1,3))) (l9 (J4 109572 C.1) (some (.inr (-1,-1,3))) (some (.inl ())))) λo=>Y9 o (λx=>l7 (J3 A.2.2 B) λx=>l7 (jJ A C.2.1 x.2.2.1) λx=>l9 (F5 (o8 x.2 0)) (some (-1,x)) (l7 (mQ A B) λx=>l9 (J4 x.2 (x9 C.2.2)) (some (x.2,-1,4)) (l7 (Z4 (λ(b:Int)=>l9 (J4 b (x9 C.2.2)) (l7 (J3 C.2.2 b) λc=>l7 (jJ A c x.1) λx=>l9 (F5 (o8 x.2 0)) (some (.rt (b,x))) (some (.nx (D5 .i64 b 1)))) (some (.ex ()))) 0) λo=>Y9 o (λy=>some (0,0,0)) λr=>some r))) λr=>some r) λr=>some r
def YM:FQ:=⟨[tD y36,H6,tD y40],⟨[(.tmp 6,H6),(.tmp 7,H6),(.tmp 8,H6)],[]⟩,mE 84 [(137,a0g),(138,a0h)],sN 1 (Y6 (jnR [(6,9),(17,26)] sgN F7) (Y6 (jnR [(6,9),(26,34)] sgN F7) (sN 3 (Y6 (sN 1 (bV (lpR [(6,9),(13,17),(66,84)] ⟨[(66,H6)],[]⟩ 0 sgN F7))) F7))))⟩
def T_:FSpec:=V4 YM λx=>rG x.1 x.2.1 x.2.2
def mV(A:ni)(B:Int)(C:Es)(D:Bool)(E:Int):Option au:=l7 (pU A) λx=>l9 (F5 (o8 x.1 0)) (some (1,-1,-1,-1)) (l7 (l9 (J4 B 0) (some (.inr (6,-1,-1,-1))) (l9 (bG (x9 A.2.2) B) (some (.inr (6,-1,-1,-1))) (l9 D (l9 (J4 E 0) (some (.inr (6,-1,-1,-1))) (l7 (J3 A.2.2 B) λx=>l9 (bG (x9 x.2.2.2.1) E) (some (.inr (6,-1,-1,-1))) (some (.inl (0,0,0,0))))) (some (.inl (0,0,0,0)))))) λo=>Y9 o (λ(x:au)=>l7 (rG A B C) λx=>l9 (F5 (o8 x.2.2 0)) (some (x.2.2,x.1,-1,-1)) (some (0,0,0,0))) λr=>some r)
def q69:FQ:=⟨[tD y36,H6,tD y40,dn,H6],cR 10 114 (tD y41),mE 63 [(23,s23),(107,T_)],sN 2 (Y6 (jnR [(10,11),(21,49),(4000640,4000641)] ⟨[(10,(false,(.box (dT y41))))],[]⟩ F7) F7)⟩
def s69:FSpec:=V4 q69 λx=>mV x.1 x.2.1 x.2.2.1 x.2.2.2.1 x.2.2.2.2
def vV(A:ni)(B:Int):Option bZ:=l7 (J3 A.2.2 B) λx=>l7 (qL (x9 x.2.2.2.1) false) λb=>l9 (bG 0 x.2.1) (l7 (J3 A.2.2 x.2.1) λc=>l7 (qL (x9 c.2.2.2.1) false) λd=>some (x,c,b,d)) (some (x,([],0,[],[],[]),b,[]))
def q70:FQ:=⟨[tD y36,H6],⟨[(.tmp 4,(false,(.box (pA (dT y33) (pA (dT y33) (pA (oW .bool) (oW .bool)))))))],[]⟩,mE 52 [],F7⟩
def s70:FSpec:=V4 q70 λx=>vV x.1 x.2
def oI(A:aJ)(B:Int):Option (List Int):=l7 (l9 (J4 B 0) (some (.inr [])) (l9 (bG (x9 A.2.2.2.1) B) (some (.inr [])) (some (.inl ())))) λo=>Y9 o (λx=>l7 (qL (x9 A.2.2.2.1) false) λx=>l7 (J3 x B) λp=>l7 (V7 x (V8 B)) λq=>l7 (lV A) λk=>l7 (uI k B) λd=>l7 (af (λ(x:List Bool×Int)=>l9 (J4 x.2 (x9 d)) (l7 (J3 d x.2) λb=>l7 (V7 d (V8 x.2)) λc=>l7 (J3 x.1 c) λf=>l7 (V7 x.1 (V8 c)) λg=>some (.inl (Z9 x.1 (V8 c) true,D5 .i64 x.2 1))) (some (.inr x.1))) (Z9 x (V8 B) true,0)) λy=>l7 (af (λ(x:List Int×Int)=>l9 (J4 x.2 (x9 A.2.2.2.2)) (l7 (J3 A.2.2.2.2 x.2) λb=>l9 (J4 b.2.1 0) (some (.inl (x.1,D5 .i64 x.2 1))) (l9 (bG (x9 A.2.2.2.1) b.2.1) (some (.inl (x.1,D5 .i64 x.2 1))) (l7 (J3 y b.2.1) λc=>l7 (V7 y (V8 b.2.1)) λf=>l9 (F5 f) (some (.inl (x.1,D5 .i64 x.2 1))) (l7 (jr b.2.2.2.2.2.1) λg=>l7 (jr b.2.2.2.2.2.2.1) λn=>l7 (bi x.1 g.2.2) λi=>l7 (bi i n.2.2) λj=>some (.inl (j,D5 .i64 x.2 1)))))) (some (.inr x.1))) ([],0)) λy=>l7 (qy y) λx=>some x) λr=>some r
def q47:FQ:=⟨[tD y33,H6],tR 4 eX,mE 95 [(74,s74),(73,s73),(75,s75),(76,s76)],sN 1 (Y6 (jnR [(4,5),(17,26)] sgN F7) (sN 2 (Y6 (sN 1 (bV (.loop [(5,6),(7,8),(38,46),(17001856,17001857)] ⟨[(5,(uO .bool)),(38,H6)],[]⟩ 0 ⟨[(5,(uO .bool))],[]⟩ F7))) (sN 1 (Y6 (sN 1 (bV (.loop [(8,9),(10,17),(49,93)] ⟨[(8,eX),(49,H6)],[]⟩ 2 ⟨[(8,eX)],[]⟩ F7))) F7)))))⟩
def s47:FSpec:=V4 q47 λx=>oI x.1 x.2
def kG(A:bZ)(B:Int):Option bZ:=l7 (J3 A.2.2.2 B) λx=>l7 (V7 A.2.2.2 (V8 B)) λx=>l7 (iw A.2.1 B) λx=>l7 (af (λ(b:bZ×Int)=>l9 (J4 b.2 (x9 x)) (l7 (J3 x b.2) λc=>l7 (V7 x (V8 b.2)) λx=>l7 (J3 b.1.2.2.2 x) λd=>l7 (V7 b.1.2.2.2 (V8 x)) λf=>some (.inl ((b.1.1,b.1.2.1,b.1.2.2.1,Z9 b.1.2.2.2 (V8 x) true),D5 .i64 b.2 1))) (some (.inr b.1))) ((A.1,A.2.1,A.2.2.1,Z9 A.2.2.2 (V8 B) true),0)) λy=>some y
def YN:FQ:=⟨[(false,(.box (pA (dT y33) (pA (dT y33) (pA (oW .bool) (oW .bool)))))),H6],⟨[],[(0,(true,(pA (dT y33) (pA (dT y33) (pA (oW .bool) (oW .bool))))))]⟩,⟨30,eqs,tt,gl,[(46,s46)],[],[],[],[0],[]⟩,sN 2 (bV (.loop [(0,1),(5,6),(19,30),(1000000,1000003)] ⟨[(0,(false,(.box (pA (dT y33) (pA (dT y33) (pA (oW .bool) (oW .bool))))))),(19,H6)],[]⟩ 0 ⟨[(0,(false,(.box (pA (dT y33) (pA (dT y33) (pA (oW .bool) (oW .bool)))))))],[]⟩ F7))⟩
def U_:FSpec:=V4 YN λx=>kG x.1 x.2
def pF(A:bZ)(B:Int):Option bZ:=l7 (J3 A.2.2.1 B) λx=>l7 (V7 A.2.2.1 (V8 B)) λx=>l7 (iw A.1 B) λx=>l7 (af (λ(b:bZ×Int)=>l9 (J4 b.2 (x9 x)) (l7 (J3 x b.2) λc=>l7 (V7 x (V8 b.2)) λx=>l7 (J3 b.1.2.2.1 x) λd=>l7 (V7 b.1.2.2.1 (V8 x)) λf=>some (.inl ((b.1.1,b.1.2.1,Z9 b.1.2.2.1 (V8 x) true,b.1.2.2.2),D5 .i64 b.2 1))) (some (.inr b.1))) ((A.1,A.2.1,Z9 A.2.2.1 (V8 B) true,A.2.2.2),0)) λy=>l7 (oI y.1 B) λx=>l7 (af (λ(b:bZ×Int)=>l9 (J4 b.2 (x9 x)) (l7 (J3 x b.2) λc=>l7 (V7 x (V8 b.2)) λx=>l7 (kG b.1 x) λx=>some (.inl (x,D5 .i64 b.2 1))) (some (.inr b.1))) (y,0)) λy=>some y
def q71:FQ:=⟨[(false,(.box (pA (dT y33) (pA (dT y33) (pA (oW .bool) (oW .bool)))))),H6],⟨[],[(0,(true,(pA (dT y33) (pA (dT y33) (pA (oW .bool) (oW .bool))))))]⟩,⟨47,eqs,tt,gl,[(46,s46),(47,s47),(108,U_)],[],[],[],[0],[]⟩,sN 1 (Y6 (sN 1 (bV (.loop [(0,1),(5,6),(21,32),(1000000,1000003)] ⟨[(0,(false,(.box (pA (dT y33) (pA (dT y33) (pA (oW .bool) (oW .bool))))))),(21,H6)],[]⟩ 0 ⟨[(0,(false,(.box (pA (dT y33) (pA (dT y33) (pA (oW .bool) (oW .bool)))))))],[]⟩ F7))) (sN 1 (bV (.loop [(0,1),(7,8),(39,47),(12000000,12000003)] ⟨[(0,(false,(.box (pA (dT y33) (pA (dT y33) (pA (oW .bool) (oW .bool))))))),(39,H6)],[]⟩ 2 ⟨[(0,(false,(.box (pA (dT y33) (pA (dT y33) (pA (oW .bool) (oW .bool)))))))],[]⟩ F7))))⟩
def s71:FSpec:=V4 q71 λx=>pF x.1 x.2
def rO(A:List Int)(B:Int):Option (List Int):=l7 (bi A [B]) λx=>some x
def Ro:FQ:=⟨[(false,(.box oiM)),(false,(.ifc 3 diM))],⟨[],[(0,(true,oiM))]⟩,⟨20,eqs,tt,gl,[],[],[],[],[0],[]⟩,F7⟩
def Sl:FSpec:=V4 Ro λx=>rO x.1 x.2
def kz(A:List Int):Option Int:=some (x9 A)
def Zl:FQ:=⟨[uD y10],tR 2 H6,mE 5 [],F7⟩
def UK:FSpec:=V4 Zl λx=>kz x
def eF(A:List Int)(B:Int)(C:Int):Option Bool:=l7 (J3 A B) λx=>l7 (J3 A C) λb=>some (J4 x b)
def J_:FQ:=⟨[uD y10,H6,H6],tR 6 dn,mE 16 [],F7⟩
def WS:FSpec:=V4 J_ λx=>eF x.1 x.2.1 x.2.2
def eG(A:List Int)(B:Int)(C:Int):Option (List Int):=l7 (J3 A C) λx=>l7 (V7 A (V8 C)) λx=>l7 (J3 A B) λc=>l7 (V7 A (V8 B)) λb=>l7 (J3 A B) λd=>l7 (V7 A (V8 B)) λf=>l7 (J3 (Z9 A (V8 B) x) C) λg=>l7 (V7 (Z9 A (V8 B) x) (V8 C)) λi=>some (Z9 (Z9 A (V8 B) x) (V8 C) b)
def L_:FQ:=⟨[(false,(.ownb (.int .i64))),H6,H6],⟨[],[(0,eX)]⟩,⟨20,eqs,tt,gl,[],[],[],[],[0],[]⟩,F7⟩
def UQ:FSpec:=V4 L_ λx=>eG x.1 x.2.1 x.2.2
def rJ(A:List Int)(B:Int):Option (List Int):=l7 (af (λ(x:List Int×Int)=>l9 (o8 (ig .i64 (J7 .i64 x.2 1) 2) x.2) (some (.inr x.1)) (l7 (eF x.1 x.2 (ig .i64 (J7 .i64 x.2 1) 2)) λb=>l9 (F5 b) (some (.inr x.1)) (l7 (eG x.1 (ig .i64 (J7 .i64 x.2 1) 2) x.2) λc=>some (.inl (c,ig .i64 (J7 .i64 x.2 1) 2))))) (A,B)) λy=>some y
def Rh:FQ:=⟨[(false,(.ifc 265 (.box oiM))),H6],⟨[],[(0,(true,oiM))]⟩,⟨23,eqs,tt,gl,[(277,WS),(280,UQ)],[],[],[((265,"Less"),277,some 266),((265,"Swap"),280,some 266)],[0],[]⟩,bV (.loop [(0,2),(4,23),(1000000,1000002)] ⟨[(0,(false,(.ifc 265 (.box oiM)))),(1,H6)],[]⟩ 0 ⟨[(0,(false,(.ifc 265 (.box oiM))))],[]⟩ F7)⟩
def RY:FSpec:=V4 Rh λx=>rJ x.1 x.2
def kK(A:List Int)(B:Int):Option (List Int):=l7 (rO A B) λx=>l7 (kz x) λb=>l7 (rJ x (J7 .i64 b 1)) λx=>some x
def QZ:FQ:=⟨[(false,(.ifc 265 (.box oiM))),(false,(.ifc 3 diM))],⟨[],[(0,(true,oiM))]⟩,⟨12,eqs,tt,gl,[(279,Sl),(157,UK),(182,RY)],[],[],[((265,"Len"),157,some 266),((265,"Push"),279,none)],[0],[]⟩,F7⟩
def RV:FSpec:=V4 QZ λx=>kK x.1 x.2
def oZ(A:List Int)(B:Int)(C:Int):Option (Bool×List Int):=l7 (af (λ(x:List Int×Int)=>l9 (bG C (D5 .i64 (gZ .i64 2 x.2) 1)) (some (.inr x)) (l9 (J4 (D5 .i64 (gZ .i64 2 x.2) 1) 0) (some (.inr x)) (l9 (J4 (D5 .i64 (D5 .i64 (gZ .i64 2 x.2) 1) 1) C) (l7 (eF x.1 (D5 .i64 (D5 .i64 (gZ .i64 2 x.2) 1) 1) (D5 .i64 (gZ .i64 2 x.2) 1)) λc=>l9 c (l7 (eF x.1 (D5 .i64 (D5 .i64 (gZ .i64 2 x.2) 1) 1) x.2) λb=>l9 (F5 b) (some (.inr x)) (l7 (eG x.1 x.2 (D5 .i64 (D5 .i64 (gZ .i64 2 x.2) 1) 1)) λd=>some (.inl (d,D5 .i64 (D5 .i64 (gZ .i64 2 x.2) 1) 1)))) (l7 (eF x.1 (D5 .i64 (gZ .i64 2 x.2) 1) x.2) λb=>l9 (F5 b) (some (.inr x)) (l7 (eG x.1 x.2 (D5 .i64 (gZ .i64 2 x.2) 1)) λd=>some (.inl (d,D5 .i64 (gZ .i64 2 x.2) 1))))) (l7 (eF x.1 (D5 .i64 (gZ .i64 2 x.2) 1) x.2) λc=>l9 (F5 c) (some (.inr x)) (l7 (eG x.1 x.2 (D5 .i64 (gZ .i64 2 x.2) 1)) λb=>some (.inl (b,D5 .i64 (gZ .i64 2 x.2) 1))))))) (A,B)) λy=>some (J4 B y.2,y.1)
def Ri:FQ:=⟨[(false,(.ifc 265 (.box oiM))),H6,H6],⟨[(.tmp 6,dn)],[(0,(true,oiM))]⟩,⟨48,eqs,tt,gl,[(277,WS),(280,UQ)],[],[],[((265,"Less"),277,some 266),((265,"Swap"),280,some 266)],[0],[]⟩,sN 2 (Y6 (bV (.loop [(0,1),(7,11),(12,45),(1000000,1000002)] ⟨[(0,(false,(.ifc 265 (.box oiM)))),(7,H6)],[]⟩ 0 ⟨[(0,(false,(.ifc 265 (.box oiM)))),(7,H6)],[]⟩ F7)) F7)⟩
def RZ:FSpec:=V4 Ri λx=>oZ x.1 x.2.1 x.2.2
def tZ(A:List Int):Option (Int×List Int):=l7 (J3 A (J7 .i64 (x9 A) 1)) λx=>l7 (V7 A (V8 (J7 .i64 (x9 A) 1))) λx=>l9 (qY 0 (J7 .i64 (x9 A) 1) (x9 A)) (some (x,lH A (V8 0) (V8 (J7 .i64 (x9 A) 1)))) none
def K_:FQ:=⟨[(false,(.box oiM))],⟨[(.tmp 2,(false,(.ifc 3 diM)))],[(0,(true,oiM))]⟩,⟨23,eqs,tt,gl,[],[],[],[],[0],[]⟩,F7⟩
def a1h:FSpec:=V4 K_ λx=>tZ x
def qo(A:List Int):Option (Int×List Int):=l7 (kz A) λx=>l7 (eG A 0 (J7 .i64 x 1)) λb=>l7 (oZ b 0 (J7 .i64 x 1)) λx=>l7 (tZ x.2) λx=>some x
def Rf:FQ:=⟨[(false,(.ifc 265 (.box oiM)))],⟨[(.tmp 2,(false,(.ifc 3 diM)))],[(0,(true,oiM))]⟩,⟨15,eqs,tt,gl,[(157,UK),(280,UQ),(183,RZ),(278,a1h)],[],[],[((265,"Len"),157,some 266),((265,"Pop"),278,none),((265,"Swap"),280,some 266)],[0],[]⟩,F7⟩
def RX:FSpec:=V4 Rf λx=>qo x
def oq(A:aJ):Option (List Int×Int):=l7 (lV A) λx=>l7 (qL (x9 x) []) λk=>l7 (qL (x9 x) 0) λq=>l7 (af (λ(b:List (List Int)×List Int×List Int×Int)=>l9 (J4 b.2.2.2 (x9 x)) (l7 (J3 x b.2.2.2) λx=>l7 (J3 b.2.1 b.2.2.2) λg=>l7 (V7 b.2.1 (V8 b.2.2.2)) λi=>l7 (af (λ(c:List (List Int)×Int)=>l9 (J4 c.2 (x9 x)) (l7 (J3 x c.2) λx=>l9 (inb x (x9 c.1)) (l7 (V7 c.1 (V8 x)) λd=>l7 (bi d [b.2.2.2]) λj=>l9 (inb x (x9 c.1)) (l9 (Uu (V8 x) (V8 x)) (l7 (V7 c.1 (V8 x)) λf=>some (.inl (Z9 c.1 (V8 x) j,D5 .i64 c.2 1))) none) none) none) (some (.inr c.1))) (b.1,0)) λy=>l9 (o8 (x9 x) 0) (l7 (kK b.2.2.1 b.2.2.2) λc=>some (.inl (y,Z9 b.2.1 (V8 b.2.2.2) (x9 x),c,D5 .i64 b.2.2.2 1))) (some (.inl (y,Z9 b.2.1 (V8 b.2.2.2) (x9 x),b.2.2.1,D5 .i64 b.2.2.2 1)))) (some (.inr (b.1,b.2.1,b.2.2.1)))) (k,q,[],0)) λy=>l7 (af (λ(x:List (List Int)×iU)=>l7 (kz x.2.2.1) λb=>l9 (J4 0 b) (l7 (qo x.2.2.1) λg=>l7 (bi x.2.2.2 [g.1]) λi=>l7 (J3 x.1 g.1) λc=>l7 (af (λ(x:List Int×List Int×Int)=>l9 (J4 x.2.2 (x9 c)) (l7 (J3 c x.2.2) λd=>l7 (J3 x.1 d) λj=>l7 (V7 x.1 (V8 d)) λf=>l7 (J3 x.1 d) λt=>l7 (V7 x.1 (V8 d)) λu=>l7 (J3 (Z9 x.1 (V8 d) (J7 .i64 f 1)) d) λv=>l7 (V7 (Z9 x.1 (V8 d) (J7 .i64 f 1)) (V8 d)) λn=>l9 (o8 n 0) (l7 (kK x.2.1 d) λp=>some (.inl (Z9 x.1 (V8 d) (J7 .i64 f 1),p,D5 .i64 x.2.2 1))) (some (.inl (Z9 x.1 (V8 d) (J7 .i64 f 1),x.2.1,D5 .i64 x.2.2 1)))) (some (.inr (x.1,x.2.1)))) (x.2.1,g.2,0)) λy=>some (.inl (x.1,y.1,y.2,i))) (some (.inr x.2.2.2))) (y.1,y.2.1,y.2.2,[])) λy=>l9 (J4 (x9 y) (x9 x)) (some ([],9)) (some (y,0))
def Zd:FQ:=⟨[tD y33],⟨[(.tmp 2,eX),(.tmp 3,H6)],[]⟩,⟨113,eqs,tt,gl,[(74,s74),(156,RV),(157,UK),(158,RX)],[(167,oiM)],[12,50,77,80],[],[],[]⟩,sN 5 (Y6 (sN 1 (bV (.loop [(5,10),(11,12),(29,65),(10001344,10001345),(13001536,13001537),(16001600,16001601),(16001664,16001665)] ⟨[(5,(false,(.owns oiM))),(6,eX),(7,(false,(.box oiM))),(29,H6)],[]⟩ 0 ⟨[(5,(false,(.owns oiM))),(6,eX),(7,(false,(.box oiM)))],[]⟩ (sN 2 (Y6 (bV (sN 2 (Y6 (sN 1 (bV (.loop [(5,6),(11,12),(41,56),(23000000,23000001)] ⟨[(5,(false,(.owns oiM))),(41,H6)],[]⟩ 2 ⟨[(5,(false,(.owns oiM)))],[]⟩ F7))) F7))) F7))))) (sN 1 (Y6 (bV (.loop [(5,8),(12,15),(16,17),(65,107),(24000000,24000004)] ⟨[(5,(uD y63)),(6,eX),(7,(false,(.box oiM))),(12,eX)],[]⟩ 4 ⟨[(12,eX)],[]⟩ (sN 1 (bV (sN 3 (bV (.loop [(6,8),(16,17),(86,107),(79000000,79000002),(91004672,91004673)] ⟨[(6,eX),(7,(false,(.box oiM))),(86,H6)],[]⟩ 6 ⟨[(6,eX),(7,(false,(.box oiM)))],[]⟩ F7))))))) F7)))⟩
def a0i:FSpec:=V4 Zd λx=>oq x
def ji(A:L8)(B:Int):Option Bool:=l7 (kV A) λx=>l9 x (l9 (bG A.1 B) (some (J4 B A.2)) (some false)) (some false)
def Zw:FQ:=⟨[tD y0,H6],tR 4 dn,mE 19 [(90,s90)],F7⟩
def UL:FSpec:=V4 Zw λx=>ji x.1 x.2
def qB(A:tX)(B:Int)(C:Int):Option Bool:=l9 (o8 A.2.1 B) (l7 (ji A.2.2.2.2.1 C) λx=>some x) (some false)
def Rk:FQ:=⟨[tD y28,(false,(.rp (.int .i64))),(false,(.rp (.int .i64)))],tR 4 dn,mE 15 [(186,UL)],F7⟩
def MH:FSpec:=V4 Rk λx=>qB x.1 x.2.1 x.2.2
def pq(A:List tX)(B:L8):Option (List Int×List Int):=l7 (qL (x9 A) 0) λx=>l7 (af (λ(x:List Int×List Int×List Int×Int)=>l9 (J4 x.2.2.2 (x9 A)) (l7 (J3 A x.2.2.2) λc=>l7 (l9 (bG 0 c.2.2.1) (l9 (J4 c.2.2.1 x.2.2.2) (l7 (J3 x.2.2.1 c.2.2.1) λb=>l7 (V7 x.2.2.1 (V8 c.2.2.1)) λx=>some x) (some (-1))) (some (-1))) λb=>l7 (J3 x.2.2.1 x.2.2.2) λi=>l7 (V7 x.2.2.1 (V8 x.2.2.2)) λj=>l7 (qB c B.1 B.2) λd=>l9 d (l7 (J3 (Z9 x.2.2.1 (V8 x.2.2.2) b) x.2.2.2) λk=>l7 (V7 (Z9 x.2.2.1 (V8 x.2.2.2) b) (V8 x.2.2.2)) λn=>l7 (bi x.1 [x.2.2.2]) λf=>l7 (bi x.2.1 [b]) λg=>some (.inl (f,g,Z9 (Z9 x.2.2.1 (V8 x.2.2.2) b) (V8 x.2.2.2) (x9 x.1),D5 .i64 x.2.2.2 1))) (some (.inl (x.1,x.2.1,Z9 x.2.2.1 (V8 x.2.2.2) b,D5 .i64 x.2.2.2 1)))) (some (.inr (x.1,x.2.1)))) ([],[],x,0)) λy=>some y
def Rj:FQ:=⟨[uD y29,(false,(.fn 185 [(.int .i64),(.int .i64)]))],⟨[(.tmp 4,eX),(.tmp 5,eX)],[]⟩,mE 59 [(185,MH)],sN 3 (Y6 (sN 1 (bV (.loop [(6,12),(17,57),(10000896,10000897)] ⟨[(6,eX),(7,eX),(8,eX),(17,H6)],[]⟩ 0 ⟨[(6,eX),(7,eX)],[]⟩ (sN 2 (Y6 (bV (sN 2 (Y6 (.join [(11,12),(22,36)] ⟨[(11,H6)],[]⟩ F7) F7))) F7))))) F7)⟩
def Si:FSpec:=V4 Rj λx=>pq x.1 x.2
def uf(A:aJ)(B:Int)(C:Int):Option iU:=l7 (pq A.2.2.2.2 (B,C)) λx=>l7 (af (λ(b:List Int×Int)=>l9 (J4 b.2 (x9 x.1)) (l7 (J3 x.1 b.2) λc=>l7 (V7 x.1 (V8 b.2)) λx=>l7 (J3 A.2.2.2.2 x) λx=>l7 (bi b.1 [x.2.2.2.1]) λx=>some (.inl (x,D5 .i64 b.2 1))) (some (.inr b.1))) ([],0)) λy=>some (x.1,x.2,y)
def Zm:FQ:=⟨[tD y33,H6,H6],⟨[(.tmp 6,eX),(.tmp 7,eX),(.tmp 8,eX)],[]⟩,mE 40 [(185,MH),(184,Si)],sN 3 (Y6 (sN 1 (bV (.loop [(11,12),(13,14),(23,37)] ⟨[(11,eX),(23,H6)],[]⟩ 0 ⟨[(11,eX)],[]⟩ F7))) F7)⟩
def a0o:FSpec:=V4 Zm λx=>uf x.1 x.2.1 x.2.2
def Dn(A:List L8):Option (List Int×Int):=l7 (qH A) λx=>some (x.1,x.2.2)
def Zo:FQ:=⟨[uD y21],⟨[(.tmp 2,eX),(.tmp 3,H6)],[]⟩,mE 15 [(178,WB)],F7⟩
def a0q:FSpec:=V4 Zo λx=>Dn x
def lF(A:Y1)(B:Int):Option (List Int):=l7 (J3 A.1 B) λx=>l7 (lq x.1) λx=>l7 (qL x 0) λx=>l7 (af (λ(x:List Int×L8)=>l9 (bG 0 x.2.2) (l7 (J3 x.1 x.2.2) λc=>l7 (V7 x.1 (V8 x.2.2)) λd=>l7 (J3 A.2.1 x.2.1) λb=>some (.inl (Z9 x.1 (V8 x.2.2) x.2.1,J7 .i64 b 1,J7 .i64 x.2.2 1))) (some (.inr x.1))) (x,J7 .i64 B 1,J7 .i64 (x9 x) 1)) λy=>some y
def ZA:FQ:=⟨[tD y77,H6],tR 4 eX,mE 36 [(180,PD)],sN 3 (Y6 (sN 1 (bV (.loop [(5,8),(21,35),(7000960,7000961)] ⟨[(5,eX),(6,H6),(7,H6)],[]⟩ 0 ⟨[(5,eX)],[]⟩ F7))) F7)⟩
def a0x:FSpec:=V4 ZA λx=>lF x.1 x.2
def dW(A:O9):Option Bool:=l7 (l9 (F5 (o8 A.1 6)) (l9 (F5 (o8 A.2.1 0)) (some (.inr false)) (some (.inl ()))) (some (.inl ()))) λo=>Y9 o (λx=>l9 (o8 A.1 1) (l9 (o8 A.2.2 0) (some true) (some (o8 A.2.2 1))) (l9 (o8 A.1 2) (l9 (bG (-1000000000000) A.2.2) (some (bG A.2.2 1000000000000)) (some false)) (l9 (o8 A.1 3) (l9 (bG (-1000000000000000) A.2.2) (some (bG A.2.2 1000000000000000)) (some false)) (l9 (o8 A.1 4) (l9 (bG (-1000000000) A.2.2) (some (bG A.2.2 1000000000)) (some false)) (l9 (o8 A.1 5) (l9 (bG 0 A.2.2) (some (bG A.2.2 109572)) (some false)) (l9 (o8 A.1 6) (l9 (bG 0 A.2.1) (l9 (J4 A.2.1 8) (l9 (bG 0 A.2.2) (some (J4 A.2.2 16)) (some false)) (some false)) (some false)) (some false))))))) λr=>some r
def ZQ:FQ:=⟨[tD y1],tR 2 dn,mE 83 [],sN 1 (Y6 (jnR [(2,11)] sgN F7) F7)⟩
def MI:FSpec:=V4 ZQ λx=>dW x
def vN(A:L8):Option Bool:=l7 (l7 (lq A.1) λx=>l9 (J4 x 0) (some (.inr false)) (l9 (F5 (o8 A.2 0)) (l7 (zA A.1) λx=>l9 (F5 x) (some (.inr false)) (some (.inl ()))) (some (.inl ())))) λo=>Y9 o (λx=>l7 (l9 (o8 A.1 14) (some (o8 A.1 14)) (l9 (o8 A.1 15) (some (o8 A.1 15)) (some (o8 A.1 16)))) λx=>l9 x (l9 (bG 0 A.2) (some (bG A.2 5)) (some false)) (l9 (o8 A.1 34) (l9 (bG 0 A.2) (some (bG (lZ A.2 8) 5)) (some false)) (l9 (o8 A.1 6) (some (bG 0 A.2)) (some true)))) λr=>some r
def ZL:FQ:=⟨[tD y0],tR 2 dn,mE 48 [(180,PD),(179,WC)],sN 1 (Y6 (jnR [(2,18)] sgN F7) (Y6 (sN 1 (bV (Y6 (.join [(20,24)] ⟨[(20,dn)],[]⟩ F7) F7))) F7))⟩
def a0F:FSpec:=V4 ZL λx=>vN x
def Dj(A:L8)(B:zX):Option Bool:=l9 (o8 A.1 7) (l9 (bG 0 A.2) (some (J4 A.2 (x9 B.2.1))) (some false)) (l9 (o8 A.1 8) (l9 (bG 0 A.2) (l9 (J4 A.2 (x9 B.2.2.1)) (l7 (J3 B.2.2.1 A.2) λx=>some (F5 (o8 x.1 0))) (some false)) (some false)) (l9 (o8 A.1 33) (l9 (bG 0 A.2) (some (J4 A.2 (x9 B.2.2.2.2.2))) (some false)) (l9 (o8 A.1 34) (some (J4 (ig .i64 A.2 8) (x9 B.2.2.2.2.2))) (l7 (l9 (o8 A.1 36) (some (o8 A.1 36)) (l9 (o8 A.1 37) (some (o8 A.1 37)) (l9 (o8 A.1 38) (some (o8 A.1 38)) (some (o8 A.1 39))))) λx=>l9 x (l9 (bG 0 A.2) (some (J4 A.2 (x9 B.2.2.2.2.1))) (some false)) (some true)))))
def ZM:FQ:=⟨[tD y0,tD y61],tR 4 dn,mE 81 [],sN 1 (Y6 (sN 1 (bV (sN 1 (.cond F7 (sN 1 (.cond F7 (sN 1 (.cond F7 (sN 1 (.cond F7 (Y6 (.join [(65,70)] ⟨[(65,dn)],[]⟩ F7) F7))))))))))) F7)⟩
def a0G:FSpec:=V4 ZM λx=>Dj x.1 x.2
def rQ(A:List O9):Option Bool:=l7 (Z4 (λ(x:Int)=>l9 (J4 x (x9 A)) (l7 (J3 A x) λb=>l7 (dW b) λc=>l9 (F5 c) (some (.rt false)) (some (.nx (D5 .i64 x 1)))) (some (.ex ()))) 0) λo=>Y9 o (λy=>some true) λr=>some r
def ZN:FQ:=⟨[uD y37],tR 2 dn,mE 15 [(214,MI)],sN 1 (Y6 (sN 1 (bV (lpR [(2,3),(4,5),(7,15)] ⟨[(7,H6)],[]⟩ 0 sgN F7))) F7)⟩
def a0H:FSpec:=V4 ZN λx=>rQ x
def uQ(A:O9)(B:L8):Option Bool:=l7 (dW A) λx=>l9 x (l9 (o8 A.1 B.1) (some (o8 A.2.1 B.2)) (some false)) (some false)
def ZV:FQ:=⟨[tD y1,tD y0],tR 4 dn,mE 21 [(214,MI)],F7⟩
def WI:FSpec:=V4 ZV λx=>uQ x.1 x.2
def kM(A:Int):Option Bool:=l9 (o8 A 2) (some true) (l9 (o8 A 3) (some true) (some (o8 A 4)))
def h_:FQ:=⟨[H6],tR 2 dn,mE 13 [],F7⟩
def UM:FSpec:=V4 h_ λx=>kM x
def qF(A:Int)(B:L8):Option Bool:=l9 (F5 (o8 B.2 0)) (some false) (l9 (o8 A 36) (l9 (o8 B.1 2) (some true) (some (o8 B.1 3))) (l9 (o8 A 39) (l7 (kM B.1) λx=>l9 x (some true) (some (o8 B.1 5))) (some (o8 B.1 1))))
def ZW:FQ:=⟨[H6,tD y0],tR 4 dn,mE 32 [(235,UM)],F7⟩
def a0M:FSpec:=V4 ZW λx=>qF x.1 x.2
def rU(A:Int)(B:Int):Option Bool:=l9 (o8 A 10) (l7 (kM B) λx=>some x) (l9 (o8 A 25) (some (o8 B 1)) (some (o8 B 5)))
def ZX:FQ:=⟨[H6,H6],tR 4 dn,mE 16 [(235,UM)],F7⟩
def a0N:FSpec:=V4 ZX λx=>rU x.1 x.2
def kN(A:O9)(B:O9):Option Bool:=l9 (o8 A.1 B.1) (some (o8 A.2.1 B.2.1)) (some false)
def ZZ:FQ:=⟨[tD y1,tD y1],tR 4 dn,mE 17 [],F7⟩
def WJ:FSpec:=V4 ZZ λx=>kN x.1 x.2
def qE(A:Int)(B:O9)(C:O9):Option Bool:=l7 (l7 (l9 (o8 A 11) (some (o8 A 11)) (some (o8 A 12))) λx=>l9 x (l7 (kN B C) λx=>l9 x (l7 (kM B.1) λx=>some (.inr x)) (some (.inr false))) (l9 (o8 A 13) (l9 (o8 C.1 2) (l9 (o8 B.1 2) (some (.inr true)) (some (.inr (o8 B.1 3)))) (some (.inr false))) (l9 (o8 A 14) (l9 (o8 C.1 4) (l9 (o8 B.1 3) (some (.inr true)) (some (.inr (o8 B.1 4)))) (some (.inr false))) (l9 (o8 A 15) (l9 (o8 C.1 2) (l9 (o8 B.1 2) (some (.inr true)) (some (.inr (o8 B.1 3)))) (l9 (o8 B.1 3) (some (.inr (o8 C.1 3))) (some (.inr false)))) (l9 (o8 A 16) (l9 (o8 B.1 3) (some (.inr (o8 C.1 3))) (some (.inr false))) (l7 (l9 (o8 A 17) (some (o8 A 17)) (l9 (o8 A 18) (some (o8 A 18)) (l9 (o8 A 21) (some (o8 A 21)) (some (o8 A 22))))) λx=>l9 x (l7 (kN B C) λx=>l9 x (l7 (kM B.1) λx=>l9 x (some (.inr true)) (some (.inr (o8 B.1 5)))) (some (.inr false))) (l7 (l9 (o8 A 19) (some (o8 A 19)) (some (o8 A 20))) λx=>l9 x (l7 (kN B C) λx=>some (.inr x)) (l9 (o8 A 23) (l9 (o8 A 23) (l9 (o8 B.1 1) (some (.inr (o8 C.1 1))) (some (.inr false))) (l9 (o8 A 27) (l9 (o8 A 27) (l9 (o8 B.1 5) (some (.inr (o8 C.1 2))) (some (.inr false))) (some (.inl ()))) (l9 (o8 A 28) (l9 (o8 B.1 5) (some (.inr (o8 C.1 2))) (some (.inr false))) (some (.inl ()))))) (l9 (o8 A 24) (l9 (o8 B.1 1) (some (.inr (o8 C.1 1))) (some (.inr false))) (l9 (o8 A 27) (l9 (o8 A 27) (l9 (o8 B.1 5) (some (.inr (o8 C.1 2))) (some (.inr false))) (some (.inl ()))) (l9 (o8 A 28) (l9 (o8 B.1 5) (some (.inr (o8 C.1 2))) (some (.inr false))) (some (.inl ()))))))))))))) λo=>Y9 o (λx=>l9 (o8 B.1 5) (some (o8 C.1 5)) (some false)) λr=>some r
def ZY:FQ:=⟨[H6,tD y1,tD y1],tR 6 dn,mE 134 [(227,WJ),(235,UM)],sN 1 (Y6 (jnR [(6,126)] sgN (sN 1 (bV (Y6 (.join [(8,11)] ⟨[(8,dn)],[]⟩ F7) (.cond F7 (sN 1 (.cond F7 (sN 1 (.cond F7 (sN 1 (.cond F7 (sN 1 (.cond F7 (Y6 (.join [(80,85)] ⟨[(80,dn)],[]⟩ F7) (.cond F7 (Y6 (.join [(98,101)] ⟨[(98,dn)],[]⟩ F7) F7)))))))))))))))) F7)⟩
def a0O:FSpec:=V4 ZY λx=>qE x.1 x.2.1 x.2.2
def Af(A:L8)(B:List O9)(C:zX):Option Bool:=l7 (l9 (o8 A.1 7) (l7 (J3 C.2.1 A.2) λx=>l7 (dW x) λx=>some (.inr x)) (l9 (o8 A.1 8) (l7 (J3 C.2.2.1 A.2) λx=>l7 (dW x) λx=>some (.inr x)) (l9 (o8 A.1 33) (l7 (J3 C.2.2.2.2.2 A.2) λx=>l7 (J3 B 0) λb=>l7 (uQ b x.2.1) λc=>l9 c (l9 (bG 1 x.2.2.1.1) (some (.inr (bG x.2.2.1.1 6))) (some (.inr false))) (some (.inr false))) (l9 (o8 A.1 34) (l7 (J3 C.2.2.2.2.2 (ig .i64 A.2 8)) λx=>l7 (J3 B 0) λb=>l9 (o8 b.1 3) (l9 (U2 (o8 x.2.1.1 3) (o8 x.2.1.2 0)) (some (.inr (U2 (o8 x.2.2.1.1 4) (o8 x.2.2.1.2 0)))) (some (.inr false))) (some (.inr false))) (l7 (l9 (o8 A.1 36) (some (o8 A.1 36)) (l9 (o8 A.1 37) (some (o8 A.1 37)) (l9 (o8 A.1 38) (some (o8 A.1 38)) (some (o8 A.1 39))))) λx=>l9 x (l7 (J3 C.2.2.2.2.1 A.2) λx=>l7 (qF A.1 x) λx=>some (.inr x)) (some (.inl ()))))))) λo=>Y9 o (λx=>l9 (o8 (x9 B) 1) (l7 (J3 B 0) λx=>l7 (rU A.1 x.1) λx=>some x) (l9 (o8 (x9 B) 2) (l7 (J3 B 0) λx=>l7 (J3 B 1) λb=>l7 (qE A.1 x b) λx=>some x) (l9 (o8 (x9 B) 3) (l7 (J3 B 0) λx=>l9 (o8 x.1 1) (l7 (J3 B 1) λx=>l7 (J3 B 2) λb=>l7 (kN x b) λx=>some x) (some false)) (some true)))) λr=>some r
def ZO:FQ:=⟨[tD y0,uD y37,tD y61],tR 6 dn,mE 133 [(214,MI),(223,WI),(224,a0M),(225,a0N),(226,a0O),(227,WJ)],sN 1 (Y6 (jnR [(6,95)] sgN (sN 1 (bV (sN 1 (.cond F7 (sN 1 (.cond F7 (sN 1 (.cond F7 (sN 1 (.cond F7 (Y6 (.join [(81,86)] ⟨[(81,dn)],[]⟩ F7) F7)))))))))))) F7)⟩
def a0I:FSpec:=V4 ZO λx=>Af x.1 x.2.1 x.2.2
def ui(A:L8)(B:zX):Option (O9×Int):=l7 (J3 B.2.2.2.2.1 A.2) λx=>l7 (l9 (o8 A.1 37) (some (x.1,x.2,1)) (some (x.1,x.2,0))) λg=>l7 (l9 (o8 A.1 39) (l9 (o8 (x9 B.2.2.2.1) 0) (some (.inr ((0,0,0),6))) (some (.inl (0,0,0)))) (some (.inl (0,0,0)))) λo=>Y9 o (λ(i:O9)=>l7 (Z4 (λ(b:O9×O9×Int)=>l9 (J4 b.2.2 (x9 B.2.2.2.1)) (l7 (J3 B.2.2.2.1 b.2.2) λf=>l7 (l9 (bG (x9 f) A.2) (some (.inr ((0,0,0),6))) (l7 (J3 f A.2) λx=>l9 (o8 x.1 0) (some (.inr ((0,0,0),6))) (some (.inl b.1)))) λo=>Y9 o (λ(d:O9)=>l7 (J3 f A.2) λc=>l7 (uQ c x) λx=>l9 (F5 x) (some (.rt ((0,0,0),8))) (l9 (o8 A.1 36) (l7 (dW (b.2.1.1,b.2.1.2.1,D5 .i64 b.2.1.2.2 c.2.2)) λx=>l9 (F5 x) (some (.rt ((0,0,0),3))) (some (.nx (d,(b.2.1.1,b.2.1.2.1,D5 .i64 b.2.1.2.2 c.2.2),D5 .i64 b.2.2 1)))) (l9 (o8 A.1 37) (some (.nx (d,(b.2.1.1,b.2.1.2.1,Aq b.2.1.2.2 c.2.2),D5 .i64 b.2.2 1))) (l9 (o8 A.1 38) (some (.nx (d,(b.2.1.1,b.2.1.2.1,um b.2.1.2.2 c.2.2),D5 .i64 b.2.2 1))) (l9 (o8 A.1 39) (l9 (o8 b.2.2 0) (some (.nx (d,c,D5 .i64 b.2.2 1))) (l9 (J4 b.2.1.2.2 c.2.2) (some (.nx (d,c,D5 .i64 b.2.2 1))) (some (.nx (d,b.2.1,D5 .i64 b.2.2 1))))) (some (.nx (d,b.2.1,D5 .i64 b.2.2 1)))))))) λr=>some (.rt r)) (some (.ex (b.1,b.2.1)))) (i,g,0)) λo=>Y9 o (λ(y:O9×O9)=>some (y.2,0)) λr=>some r) λr=>some r
def a_:FQ:=⟨[tD y0,tD y61],⟨[(.cell 4 32,tD y1),(.tmp 5,H6)],[]⟩,mE 113 [(223,WI),(214,MI)],sN 3 (Y6 (.join [(7,8),(22,26),(10000448,10000449)] ⟨[(7,(false,(.box (dT y1))))],[]⟩ F7) (Y6 (jnR [(4,6),(26,36),(4000256,4000257)] ⟨[(4,(false,(.box (dT y1))))],[]⟩ F7) (Y6 (sN 1 (bV (lpR [(4,6),(7,11),(39,112),(12000000,12000001),(20000000,20000001)] ⟨[(4,(false,(.box (dT y1)))),(7,(false,(.box (dT y1)))),(39,H6)],[]⟩ 0 ⟨[(4,(false,(.box (dT y1)))),(7,(false,(.box (dT y1))))],[]⟩ (sN 2 (Y6 (bV (sN 1 (Y6 (jnR [(4,6),(44,59),(35000000,35000001)] ⟨[(4,(false,(.box (dT y1))))],[]⟩ F7) F7))) F7))))) F7)))⟩
def a0P:FSpec:=V4 a_ λx=>ui x.1 x.2
def xU(A:Gs)(B:Int)(C:Int):Option Bool:=l7 (ji A.1 B) λx=>l9 x (l9 (bG A.2.1 C) (some (J4 C A.2.2.1)) (some false)) (some false)
def Rn:FQ:=⟨[tD y13,(false,(.rp (.int .i64))),(false,(.rp (.int .i64)))],tR 4 dn,mE 21 [(186,UL)],F7⟩
def MJ:FSpec:=V4 Rn λx=>xU x.1 x.2.1 x.2.2
def mM(A:List Gs)(B:L8):Option (Int×Bool):=l7 (Z4 (λ(x:Int)=>l9 (J4 x (x9 A)) (l7 (J3 A x) λb=>l7 (xU b B.1 B.2) λc=>l9 c (some (.rt (x,true))) (some (.nx (D5 .i64 x 1)))) (some (.ex ()))) 0) λo=>Y9 o (λy=>some (0,false)) λr=>some r
def Vs:FQ:=⟨[uD y14,(false,(.fn 236 [(.int .i64),(.int .i64)]))],⟨[(.tmp 4,H6),(.tmp 5,dn)],[]⟩,mE 20 [(236,MJ)],sN 1 (Y6 (sN 1 (bV (lpR [(4,8),(10,20)] ⟨[(10,H6)],[]⟩ 0 sgN F7))) F7)⟩
def VE:FSpec:=V4 Vs λx=>mM x.1 x.2
def Bz(A:lS)(B:Int)(C:Int):Option (Int×Bool):=l7 (mM A.2.2.2 (B,C)) λx=>some x
def b_:FQ:=⟨[tD y17,H6,H6],⟨[(.tmp 6,H6),(.tmp 7,dn)],[]⟩,mE 14 [(236,MJ),(91,VE)],F7⟩
def a0Q:FSpec:=V4 b_ λx=>Bz x.1 x.2.1 x.2.2
def a2v:List MG:=[(false,(.dat (.int .u64))),(false,(.dat (.int .u64)))]
def s81:FSpec:=⟨a2v,[(false,(.dat (.int .u64))),(false,(.dat (.int .u64)))],[],λx=>lw x.1 x.2⟩
def ww(A:Int):Option Int:=l9 (bG 4294967296 A) (l9 (bG 65536 (jA .u64 A 32)) (l9 (bG 256 (jA .u64 (jA .u64 A 32) 16)) (l7 (sat xQ (wrap .u8 (jA .u64 (jA .u64 (jA .u64 A 32) 16) 8))) λx=>some (D5 .i64 (D5 .i64 (D5 .i64 32 16) 8) (wrap .i64 x))) (l7 (sat xQ (wrap .u8 (jA .u64 (jA .u64 A 32) 16))) λx=>some (D5 .i64 (D5 .i64 32 16) (wrap .i64 x)))) (l9 (bG 256 (jA .u64 A 32)) (l7 (sat xQ (wrap .u8 (jA .u64 (jA .u64 A 32) 8))) λx=>some (D5 .i64 (D5 .i64 32 8) (wrap .i64 x))) (l7 (sat xQ (wrap .u8 (jA .u64 A 32))) λx=>some (D5 .i64 32 (wrap .i64 x))))) (l9 (bG 65536 A) (l9 (bG 256 (jA .u64 A 16)) (l7 (sat xQ (wrap .u8 (jA .u64 (jA .u64 A 16) 8))) λx=>some (D5 .i64 (D5 .i64 (D5 .i64 0 16) 8) (wrap .i64 x))) (l7 (sat xQ (wrap .u8 (jA .u64 A 16))) λx=>some (D5 .i64 (D5 .i64 0 16) (wrap .i64 x)))) (l9 (bG 256 A) (l7 (sat xQ (wrap .u8 (jA .u64 A 8))) λx=>some (D5 .i64 (D5 .i64 0 8) (wrap .i64 x))) (l7 (sat xQ (wrap .u8 A)) λx=>some (D5 .i64 0 (wrap .i64 x)))))
def Zg:FQ:=⟨[(false,(dT (.int .u64)))],tR 2 H6,mE 25 [],F7⟩
def a0k:FSpec:=V4 Zg λx=>ww x
def kT(A:Int):Option Int:=l7 (ww A) λx=>some (J7 .i64 64 x)
def A_:FQ:=⟨[(false,(dT (.int .u64)))],tR 2 H6,mE 6 [(145,a0k)],F7⟩
def a1e:FSpec:=V4 A_ λx=>kT x
def jv(A:Int)(B:Int)(C:Int):Option L8:=l7 (l9 (o8 C 0) none (some ())) λx=>l7 (l9 (bG C A) none (some ())) λx=>l9 (o8 A 0) (l7 (Hl .u64 B C) λx=>l7 (NK B C) λb=>some (x,b)) (l7 (kT C) λx=>l7 (JB .u64 C (wrap .u64 x)) λb=>l7 (JB .u64 A (wrap .u64 x)) λd=>l7 (NL .u64 B (J7 .u64 64 (wrap .u64 x))) λf=>l7 (JB .u64 B (wrap .u64 x)) λc=>l7 (Hl .u64 (ior .u64 d f) (jA .u64 b 32)) λg=>l7 (af (λ(x:L8)=>l9 (bG 4294967296 x.1) (l9 (bG 4294967296 (D5 .u64 x.2 (jA .u64 b 32))) (some (.inr (J7 .u64 x.1 1))) (some (.inl (J7 .u64 x.1 1,D5 .u64 x.2 (jA .u64 b 32))))) (l9 (J4 (D5 .u64 (gZ .u64 4294967296 x.2) (jA .u64 c 32)) (gZ .u64 x.1 (OT .u64 b 4294967295))) (l9 (bG 4294967296 (D5 .u64 x.2 (jA .u64 b 32))) (some (.inr (J7 .u64 x.1 1))) (some (.inl (J7 .u64 x.1 1,D5 .u64 x.2 (jA .u64 b 32))))) (some (.inr x.1)))) (g,J7 .u64 (ior .u64 d f) (gZ .u64 g (jA .u64 b 32)))) λy=>l7 (Hl .u64 (J7 .u64 (D5 .u64 (gZ .u64 (ior .u64 d f) 4294967296) (jA .u64 c 32)) (gZ .u64 y b)) (jA .u64 b 32)) λi=>l7 (af (λ(x:L8)=>l9 (bG 4294967296 x.2) (l9 (bG 4294967296 (D5 .u64 x.1 (jA .u64 b 32))) (some (.inr (J7 .u64 x.2 1))) (some (.inl (D5 .u64 x.1 (jA .u64 b 32),J7 .u64 x.2 1)))) (l9 (J4 (D5 .u64 (gZ .u64 4294967296 x.1) (OT .u64 c 4294967295)) (gZ .u64 x.2 (OT .u64 b 4294967295))) (l9 (bG 4294967296 (D5 .u64 x.1 (jA .u64 b 32))) (some (.inr (J7 .u64 x.2 1))) (some (.inl (D5 .u64 x.1 (jA .u64 b 32),J7 .u64 x.2 1)))) (some (.inr x.2)))) (J7 .u64 (J7 .u64 (D5 .u64 (gZ .u64 (ior .u64 d f) 4294967296) (jA .u64 c 32)) (gZ .u64 y b)) (gZ .u64 i (jA .u64 b 32)),i)) λy_1=>l7 (NL .u64 (J7 .u64 (D5 .u64 (gZ .u64 (J7 .u64 (D5 .u64 (gZ .u64 (ior .u64 d f) 4294967296) (jA .u64 c 32)) (gZ .u64 y b)) 4294967296) (OT .u64 c 4294967295)) (gZ .u64 y_1 b)) (wrap .u64 x)) λx=>some (D5 .u64 (gZ .u64 y 4294967296) y_1,x))
def r_:FQ:=⟨[(false,(dT (.int .u64))),(false,(dT (.int .u64))),(false,(dT (.int .u64)))],⟨[(.tmp 6,(false,(dT (.int .u64)))),(.tmp 7,(false,(dT (.int .u64))))],[]⟩,mE 135 [(251,a1e)],sN 1 (Y6 (.join [(19,22)] sgN F7) (Y6 (.join [(22,26)] sgN F7) (sN 11 (Y6 (bV (.loop [(15,17),(67,86)] ⟨[(15,(false,(dT (.int .u64)))),(16,(false,(dT (.int .u64))))],[]⟩ 0 ⟨[(15,(false,(dT (.int .u64))))],[]⟩ F7)) (sN 3 (Y6 (bV (.loop [(16,17),(18,19),(102,121)] ⟨[(16,(false,(dT (.int .u64)))),(18,(false,(dT (.int .u64))))],[]⟩ 2 ⟨[(18,(false,(dT (.int .u64))))],[]⟩ F7)) F7))))))⟩
def UN:FSpec:=V4 r_ λx=>jv x.1 x.2.1 x.2.2
def ru(A:Int)(B:Int):Option (Int×Int×Bool):=l9 (J4 B 0) (l7 (lw (wrap .u64 A) (J7 .u64 0 (wrap .u64 B))) λx=>l9 (bG 1000000 x.1) (some (0,0,false)) (l7 (jv x.1 x.2 1000000) λx=>l9 (J4 1000000000000000 x.1) (some (0,0,false)) (l9 (J4 B 0) (some (J7 .i64 0 (wrap .i64 x.1),J7 .i64 0 (wrap .i64 x.2),true)) (some (wrap .i64 x.1,wrap .i64 x.2,true))))) (l7 (lw (wrap .u64 A) (wrap .u64 B)) λx=>l9 (bG 1000000 x.1) (some (0,0,false)) (l7 (jv x.1 x.2 1000000) λx=>l9 (J4 1000000000000000 x.1) (some (0,0,false)) (l9 (J4 B 0) (some (J7 .i64 0 (wrap .i64 x.1),J7 .i64 0 (wrap .i64 x.2),true)) (some (wrap .i64 x.1,wrap .i64 x.2,true)))))
def j_:FQ:=⟨[H6,H6],⟨[(.tmp 4,H6),(.tmp 5,H6),(.tmp 6,dn)],[]⟩,mE 47 [(81,s81),(243,UN)],F7⟩
def a0U:FSpec:=V4 j_ λx=>ru x.1 x.2
def kY(A:Int):Option Bool:=l9 (bG 0 A) (some (bG A 5)) (some false)
def B_:FQ:=⟨[H6],tR 2 dn,mE 9 [],F7⟩
def UO:FSpec:=V4 B_ λx=>kY x
def dV(A:Int)(B:Int):Option Bool:=l9 (J4 B A) (some true) (some (J4 A (J7 .i64 0 B)))
def q51:FQ:=⟨[H6,H6],tR 4 dn,mE 14 [],F7⟩
def s51:FSpec:=V4 q51 λx=>dV x.1 x.2
def iy(A:Int):Option Int:=l9 (J4 A 0) (some (J7 .u64 0 (wrap .u64 A))) (some (wrap .u64 A))
def C_:FQ:=⟨[H6],tR 2 (false,(dT (.int .u64))),mE 10 [],F7⟩
def WN:FSpec:=V4 C_ λx=>iy x
def jT(A:Int)(B:Int)(C:Int)(D:Bool)(E:Int):Option Int:=l9 (o8 B 0) (some A) (l9 (o8 E 0) (l9 D (some (D5 .u64 A 1)) (some A)) (l9 (o8 E 1) (l9 (F5 D) (some (D5 .u64 A 1)) (some A)) (l9 (o8 E 3) (some (D5 .u64 A 1)) (l9 (o8 E 4) (l9 (bG (J7 .u64 C B) B) (some (D5 .u64 A 1)) (some A)) (l9 (o8 E 5) (l9 (J4 (J7 .u64 C B) B) (some (D5 .u64 A 1)) (l9 (o8 B (J7 .u64 C B)) (l9 (o8 (lZ A 2) 1) (some (D5 .u64 A 1)) (some A)) (some A))) (some A))))))
def D_:FQ:=⟨[(false,(dT (.int .u64))),(false,(dT (.int .u64))),(false,(dT (.int .u64))),dn,H6],tR 10 (false,(dT (.int .u64))),mE 55 [],F7⟩
def WO:FSpec:=V4 D_ λx=>jT x.1 x.2.1 x.2.2.1 x.2.2.2.1 x.2.2.2.2
def vz(A:Int)(B:Bool):Option Int:=l9 B (some (J7 .i64 0 (wrap .i64 A))) (some (wrap .i64 A))
def E_:FQ:=⟨[(false,(dT (.int .u64))),dn],tR 4 H6,mE 11 [],F7⟩
def WP:FSpec:=V4 E_ λx=>vz x.1 x.2
def gI(A:Int)(B:Int)(C:Int):Option L8:=l7 (kY C) λx=>l9 (F5 x) (some (0,1)) (l9 (o8 B 0) (some (0,12)) (l7 (dV A 4611686018427387904) λx=>l9 x (some (0,3)) (l7 (dV B 4611686018427387904) λx=>l9 x (some (0,3)) (l7 (iy A) λx=>l7 (iy B) λb=>l7 (Hl .u64 x b) λc=>l7 (NK x b) λx=>l7 (jT c x b (F5 (pK (J4 A 0) (J4 B 0))) C) λx=>l7 (vz x (F5 (pK (J4 A 0) (J4 B 0)))) λx=>some (x,0)))))
def t_:FQ:=⟨[H6,H6,H6],⟨[(.tmp 6,H6),(.tmp 7,H6)],[]⟩,mE 45 [(252,UO),(51,s51),(253,WN),(254,WO),(255,WP)],F7⟩
def Sj:FSpec:=V4 t_ λx=>gI x.1 x.2.1 x.2.2
def xY(A:Int)(B:Int)(C:Int):Option L8:=l9 (J4 (D5 .i64 A (ig .i64 B 1000000)) (-2000000000000000)) (some (0,3)) (l9 (J4 2000000000000000 (D5 .i64 A (ig .i64 B 1000000))) (some (0,3)) (l9 (J4 1 (D5 .i64 A (ig .i64 B 1000000))) (l7 (gI (D5 .i64 (gZ .i64 (D5 .i64 (lZ (D5 .i64 A (ig .i64 B 1000000)) 2) 2) 1000000) (lZ B 1000000)) 1000000 C) λx=>l9 (F5 (o8 x.2 0)) (some (0,x.2)) (l9 (J4 (D5 .i64 (J7 .i64 (D5 .i64 A (ig .i64 B 1000000)) (D5 .i64 (lZ (D5 .i64 A (ig .i64 B 1000000)) 2) 2)) x.1) (-1000000000000000)) (some (0,3)) (l9 (J4 1000000000000000 (D5 .i64 (J7 .i64 (D5 .i64 A (ig .i64 B 1000000)) (D5 .i64 (lZ (D5 .i64 A (ig .i64 B 1000000)) 2) 2)) x.1)) (some (0,3)) (some (D5 .i64 (J7 .i64 (D5 .i64 A (ig .i64 B 1000000)) (D5 .i64 (lZ (D5 .i64 A (ig .i64 B 1000000)) 2) 2)) x.1,0))))) (l9 (J4 (D5 .i64 A (ig .i64 B 1000000)) (-1)) (l7 (gI (D5 .i64 (gZ .i64 (J7 .i64 (lZ (D5 .i64 A (ig .i64 B 1000000)) 2) 2) 1000000) (lZ B 1000000)) 1000000 C) λx=>l9 (F5 (o8 x.2 0)) (some (0,x.2)) (l9 (J4 (D5 .i64 (J7 .i64 (D5 .i64 A (ig .i64 B 1000000)) (J7 .i64 (lZ (D5 .i64 A (ig .i64 B 1000000)) 2) 2)) x.1) (-1000000000000000)) (some (0,3)) (l9 (J4 1000000000000000 (D5 .i64 (J7 .i64 (D5 .i64 A (ig .i64 B 1000000)) (J7 .i64 (lZ (D5 .i64 A (ig .i64 B 1000000)) 2) 2)) x.1)) (some (0,3)) (some (D5 .i64 (J7 .i64 (D5 .i64 A (ig .i64 B 1000000)) (J7 .i64 (lZ (D5 .i64 A (ig .i64 B 1000000)) 2) 2)) x.1,0))))) (l7 (gI (D5 .i64 (gZ .i64 (lZ (D5 .i64 A (ig .i64 B 1000000)) 2) 1000000) (lZ B 1000000)) 1000000 C) λx=>l9 (F5 (o8 x.2 0)) (some (0,x.2)) (l9 (J4 (D5 .i64 (J7 .i64 (D5 .i64 A (ig .i64 B 1000000)) (lZ (D5 .i64 A (ig .i64 B 1000000)) 2)) x.1) (-1000000000000000)) (some (0,3)) (l9 (J4 1000000000000000 (D5 .i64 (J7 .i64 (D5 .i64 A (ig .i64 B 1000000)) (lZ (D5 .i64 A (ig .i64 B 1000000)) 2)) x.1)) (some (0,3)) (some (D5 .i64 (J7 .i64 (D5 .i64 A (ig .i64 B 1000000)) (lZ (D5 .i64 A (ig .i64 B 1000000)) 2)) x.1,0))))))))
def l_:FQ:=⟨[H6,H6,H6],⟨[(.tmp 6,H6),(.tmp 7,H6)],[]⟩,mE 60 [(244,Sj)],F7⟩
def a0V:FSpec:=V4 l_ λx=>xY x.1 x.2.1 x.2.2
def xR(A:lS)(B:Int)(C:Int)(D:Int):Option L8:=l7 (l9 (J4 D 0) (some (.inr (0,1))) (l9 (J4 5 D) (some (.inr (0,1))) (some (.inl ())))) λo=>Y9 o (λx=>l7 (l9 (F5 (U2 (o8 A.2.1.1 3) (o8 A.2.1.2 0))) (some (.inr (0,8))) (l9 (F5 (U2 (o8 A.2.2.1.1 4) (o8 A.2.2.1.2 0))) (some (.inr (0,8))) (some (.inl ())))) λo=>Y9 o (λx=>l7 (l9 (J4 C (-1000000000000000)) (some (.inr (0,3))) (l9 (J4 1000000000000000 C) (some (.inr (0,3))) (some (.inl ())))) λo=>Y9 o (λx=>l7 (Z4 (λ(x:O9)=>l9 (J4 x.2.2 (x9 A.2.2.2)) (l7 (J3 A.2.2.2 x.2.2) λb=>l7 (ji b.1 B) λd=>l9 (F5 d) (some (.nx (x.1,x.2.1,D5 .i64 x.2.2 1))) (l9 (bG (Aq b.2.2.1 C) (um b.2.1 0)) (some (.nx (x.1,x.2.1,D5 .i64 x.2.2 1))) (l7 (ru (J7 .i64 (Aq b.2.2.1 C) (um b.2.1 0)) b.2.2.2) λc=>l9 (F5 c.2.2) (some (.rt (0,3))) (some (.nx (D5 .i64 x.1 c.1,D5 .i64 x.2.1 c.2.1,D5 .i64 x.2.2 1)))))) (some (.ex (x.1,x.2.1)))) (0,0,0)) λo=>Y9 o (λ(y:L8)=>l7 (xY y.1 y.2 D) λx=>some x) λr=>some r) λr=>some r) λr=>some r) λr=>some r
def d_:FQ:=⟨[tD y17,H6,H6,H6],⟨[(.tmp 8,H6),(.tmp 9,H6)],[]⟩,mE 90 [(186,UL),(237,a0U),(238,a0V)],sN 1 (Y6 (jnR [(8,10),(19,25)] sgN F7) (Y6 (jnR [(8,10),(25,35)] sgN F7) (Y6 (jnR [(8,10),(35,41)] sgN F7) (sN 1 (Y6 (sN 1 (bV (lpR [(8,12),(13,19),(44,84)] ⟨[(10,H6),(11,H6),(44,H6)],[]⟩ 0 ⟨[(10,H6),(11,H6)],[]⟩ F7))) F7)))))⟩
def a0R:FSpec:=V4 d_ λx=>xR x.1 x.2.1 x.2.2.1 x.2.2.2
def iM(A:Bool):Option O9:=l9 A (some (1,0,1)) (some (1,0,0))
def m_:FQ:=⟨[dn],cR 2 32 (tD y1),mE 6 [],F7⟩
def WL:FSpec:=V4 m_ λx=>iM x
def nG(A:Int):Option Bool:=l9 (bG 0 A) (some (bG A 109572)) (some false)
def YR:FQ:=⟨[H6],tR 2 dn,mE 9 [],F7⟩
def RG:FSpec:=V4 YR λx=>nG x
def qw(A:Int):Option Int:=some (D5 .i64 (J7 .i64 (ig .i64 A 4) (ig .i64 A 100)) (ig .i64 A 400))
def Zp:FQ:=⟨[H6],tR 2 H6,mE 11 [],F7⟩
def a0s:FSpec:=V4 Zp λx=>qw x
def lT(A:Int):Option Int:=l7 (qw (J7 .i64 A 1)) λx=>l7 (qw 1899) λb=>some (J7 .i64 (D5 .i64 (gZ .i64 (J7 .i64 A 1900) 365) x) b)
def Zh:FQ:=⟨[H6],tR 2 H6,mE 12 [(175,a0s)],F7⟩
def WA:FSpec:=V4 Zh λx=>lT x
def Dh(A:Int):Option Bool:=l9 (o8 (lZ A 4) 0) (l9 (F5 (o8 (lZ A 100) 0)) (some true) (some (o8 (lZ A 400) 0))) (some false)
def Zq:FQ:=⟨[H6],tR 2 dn,mE 16 [],F7⟩
def a0t:FSpec:=V4 Zq λx=>Dh x
def iV(A:Int)(B:Int):Option Int:=l9 (J4 B 1) (some 0) (l9 (J4 12 B) (some 0) (l9 (o8 B 2) (l7 (Dh A) λx=>l9 x (some 29) (l7 (J3 [31,28,31,30,31,30,31,31,30,31,30,31] (J7 .i64 B 1)) λx=>some x)) (l7 (J3 [31,28,31,30,31,30,31,31,30,31,30,31] (J7 .i64 B 1)) λx=>some x)))
def Zi:FQ:=⟨[H6,H6],tR 4 H6,mE 21 [(176,a0t)],F7⟩
def UJ:FSpec:=V4 Zi λx=>iV x.1 x.2
def nC(A:Int):Option O9:=l7 (nG A) λx=>l9 (F5 x) (some (0,0,0)) (l7 (af (λ(x:Int)=>l7 (lT (D5 .i64 x 1)) λb=>l9 (bG b A) (some (.inl (D5 .i64 x 1))) (some (.inr x))) (D5 .i64 1900 (ig .i64 A 366))) λy=>l7 (lT y) λx=>l7 (Z4 (λ(x:L8)=>l9 (J4 x.2 12) (l7 (iV y (D5 .i64 x.2 1)) λb=>l9 (J4 x.1 b) (some (.rt (y,D5 .i64 x.2 1,D5 .i64 x.1 1))) (some (.nx (J7 .i64 x.1 b,D5 .i64 x.2 1)))) (some (.ex ()))) (J7 .i64 A x,0)) λo=>Y9 o (λy=>some (0,0,0)) λr=>some r)
def YS:FQ:=⟨[H6],⟨[(.tmp 2,H6),(.tmp 3,H6),(.tmp 4,H6)],[]⟩,mE 45 [(120,RG),(149,WA),(150,UJ)],sN 3 (Y6 (bV (.loop [(5,6),(15,22)] ⟨[(5,H6)],[]⟩ 0 ⟨[(5,H6)],[]⟩ F7)) (sN 1 (Y6 (sN 1 (bV (lpR [(2,5),(6,9),(26,45)] ⟨[(6,H6),(26,H6)],[]⟩ 2 sgN F7))) F7)))⟩
def RH:FSpec:=V4 YS λx=>nC x
def EO(A:Int)(B:O9):Option O9:=l9 (o8 A 10) (some (B.1,0,J7 .i64 0 B.2.2)) (l9 (o8 A 25) (l7 (iM (o8 B.2.2 0)) λx=>some x) (l7 (nC B.2.2) λx=>l9 (o8 A 31) (some (2,0,x.1)) (some (2,0,x.2.1))))
def f_:FQ:=⟨[H6,tD y1],cR 4 32 (tD y1),mE 36 [(239,WL),(121,RH)],F7⟩
def a0S:FSpec:=V4 f_ λx=>EO x.1 x.2
def Ai(A:Int)(B:Int):Option L8:=l7 (lw (wrap .u64 (um A (J7 .i64 0 A))) (wrap .u64 (um B (J7 .i64 0 B)))) λx=>l9 (F5 (o8 x.1 0)) (some (0,3)) (l9 (J4 1000000000000000 x.2) (some (0,3)) (l9 (F5 (pK (J4 A 0) (J4 B 0))) (some (J7 .i64 0 (wrap .i64 x.2),0)) (some (wrap .i64 x.2,0))))
def u_:FQ:=⟨[H6,H6],⟨[(.tmp 4,H6),(.tmp 5,H6)],[]⟩,mE 38 [(81,s81)],F7⟩
def a0Y:FSpec:=V4 u_ λx=>Ai x.1 x.2
def AO(A:Int)(B:Int)(C:Int)(D:Int):Option L8:=l7 (kY D) λx=>l9 (F5 x) (some (0,1)) (l9 (o8 C 0) (some (0,12)) (l7 (l7 (dV A 1000000000000000) λx=>l9 x (some (.inr (0,3))) (l7 (dV B 1000000000) λx=>l9 x (some (.inr (0,3))) (l7 (dV C 1000000000) λx=>l9 x (some (.inr (0,3))) (some (.inl ()))))) λo=>Y9 o (λx=>l7 (iy A) λx=>l7 (iy B) λc=>l7 (lw x c) λx=>l7 (iy C) λb=>l9 (bG b x.1) (some (0,3)) (l7 (jv x.1 x.2 b) λx=>l9 (J4 1000000000000000 x.1) (some (0,3)) (l7 (jT x.1 x.2 b (F5 (pK (F5 (pK (J4 A 0) (J4 B 0))) (J4 C 0))) D) λx=>l9 (J4 1000000000000000 x) (some (0,3)) (l7 (vz x (F5 (pK (F5 (pK (J4 A 0) (J4 B 0))) (J4 C 0)))) λx=>some (x,0))))) λr=>some r))
def F_:FQ:=⟨[H6,H6,H6,H6],⟨[(.tmp 8,H6),(.tmp 9,H6)],[]⟩,mE 72 [(252,UO),(51,s51),(253,WN),(81,s81),(243,UN),(254,WO),(255,WP)],sN 3 (Y6 (jnR [(8,10),(21,31)] sgN F7) F7)⟩
def a1f:FSpec:=V4 F_ λx=>AO x.1 x.2.1 x.2.2.1 x.2.2.2
def FK(A:Int)(B:Int)(C:Int):Option L8:=l7 (AO A B 1000000 C) λx=>some x
def v_:FQ:=⟨[H6,H6,H6],⟨[(.tmp 6,H6),(.tmp 7,H6)],[]⟩,mE 14 [(256,a1f)],F7⟩
def a0Z:FSpec:=V4 v_ λx=>FK x.1 x.2.1 x.2.2
def qU(A:Int):Option Bool:=l9 (bG 0 A) (some (bG A 5)) (some false)
def G_:FQ:=⟨[H6],tR 2 dn,mE 9 [],F7⟩
def WQ:FSpec:=V4 G_ λx=>qU x
def lJ(A:Int)(B:Int):Option Bool:=l9 (J4 B A) (some true) (some (J4 A (J7 .i64 0 B)))
def H_:FQ:=⟨[H6,H6],tR 4 dn,mE 14 [],F7⟩
def WR:FSpec:=V4 H_ λx=>lJ x.1 x.2
def JV(A:Int)(B:Int)(C:Int):Option L8:=l7 (qU C) λx=>l9 (F5 x) (some (0,1)) (l7 (lJ A 1000000000) λx=>l9 x (some (0,3)) (l7 (lJ B 1000000000) λx=>l9 x (some (0,3)) (l7 (gI (gZ .i64 A B) 1000000 C) λx=>l9 (F5 (o8 x.2 0)) (some (0,x.2)) (l7 (lJ x.1 1000000000) λb=>l9 b (some (0,3)) (some (x.1,0))))))
def w_:FQ:=⟨[H6,H6,H6],⟨[(.tmp 6,H6),(.tmp 7,H6)],[]⟩,mE 33 [(257,WQ),(258,WR),(244,Sj)],F7⟩
def a1a:FSpec:=V4 w_ λx=>JV x.1 x.2.1 x.2.2
def yZ(A:Int)(B:Int)(C:Int):Option L8:=l7 (kY C) λx=>l9 (F5 x) (some (0,1)) (l9 (J4 B 1) (some (0,12)) (l7 (dV A 1000000000000000) λx=>l9 x (some (0,3)) (l9 (J4 1000000000000000 B) (some (0,3)) (l7 (gI A B C) λx=>l9 (F5 (o8 x.2 0)) (some (0,x.2)) (l7 (dV (gZ .i64 x.1 B) 1000000000000000) λb=>l9 b (some (0,3)) (some (gZ .i64 x.1 B,0)))))))
def x_:FQ:=⟨[H6,H6,H6],⟨[(.tmp 6,H6),(.tmp 7,H6)],[]⟩,mE 38 [(252,UO),(51,s51),(244,Sj)],F7⟩
def a1b:FSpec:=V4 x_ λx=>yZ x.1 x.2.1 x.2.2
def zi(A:Int)(B:Int)(C:Int)(D:Bool)(E:Int):Option Bool:=l9 (o8 B 0) (some false) (l9 (o8 E 0) (some D) (l9 (o8 E 1) (some (F5 D)) (l9 (o8 E 3) (some true) (l9 (o8 E 4) (some (bG (J7 .u64 C B) B)) (l9 (o8 E 5) (l9 (J4 (J7 .u64 C B) B) (some true) (l9 (o8 B (J7 .u64 C B)) (some (o8 (lZ A 2) 1)) (some false))) (some false))))))
def I_:FQ:=⟨[(false,(dT (.int .u64))),(false,(dT (.int .u64))),(false,(dT (.int .u64))),dn,H6],tR 10 dn,mE 49 [],F7⟩
def a1g:FSpec:=V4 I_ λx=>zi x.1 x.2.1 x.2.2.1 x.2.2.2.1 x.2.2.2.2
def xy(A:Int)(B:Int)(C:Int):Option L8:=l7 (qU C) λx=>l9 (F5 x) (some (0,1)) (l9 (o8 B 0) (some (0,12)) (l7 (lJ A 1000000000000000) λx=>l9 x (some (0,3)) (l7 (lJ B 1000000000000000) λx=>l9 x (some (0,3)) (l7 (lw (wrap .u64 (um A (J7 .i64 0 A))) 1000000) λx=>l9 (bG (wrap .u64 (um B (J7 .i64 0 B))) x.1) (some (0,3)) (l7 (jv x.1 x.2 (wrap .u64 (um B (J7 .i64 0 B)))) λx=>l9 (J4 1000000000 x.1) (some (0,3)) (l7 (zi x.1 x.2 (wrap .u64 (um B (J7 .i64 0 B))) (F5 (pK (J4 A 0) (J4 B 0))) C) λb=>l9 b (l9 (J4 1000000000 (D5 .i64 (wrap .i64 x.1) 1)) (some (0,3)) (l9 (F5 (pK (J4 A 0) (J4 B 0))) (some (J7 .i64 0 (D5 .i64 (wrap .i64 x.1) 1),0)) (some (D5 .i64 (wrap .i64 x.1) 1,0)))) (l9 (J4 1000000000 (wrap .i64 x.1)) (some (0,3)) (l9 (F5 (pK (J4 A 0) (J4 B 0))) (some (J7 .i64 0 (wrap .i64 x.1),0)) (some (wrap .i64 x.1,0))))))))))
def y_:FQ:=⟨[H6,H6,H6],⟨[(.tmp 6,H6),(.tmp 7,H6)],[]⟩,mE 73 [(257,WQ),(258,WR),(81,s81),(243,UN),(259,a1g)],F7⟩
def a1c:FSpec:=V4 y_ λx=>xy x.1 x.2.1 x.2.2
def Dk(A:L8)(B:O9)(C:O9):Option (O9×Int):=l9 (o8 A.1 13) (l7 (Ai B.2.2 C.2.2) λx=>some ((B.1,0,x.1),x.2)) (l7 (l9 (o8 A.1 14) (some (o8 B.1 3)) (some false)) λx=>l9 x (l7 (FK B.2.2 C.2.2 A.2) λx=>some ((B.1,0,x.1),x.2)) (l9 (o8 A.1 14) (l7 (JV B.2.2 C.2.2 A.2) λx=>some ((B.1,0,x.1),x.2)) (l9 (o8 A.1 16) (l7 (yZ B.2.2 C.2.2 A.2) λx=>some ((B.1,0,x.1),x.2)) (l9 (o8 C.1 2) (l7 (gI B.2.2 C.2.2 A.2) λx=>some ((B.1,0,x.1),x.2)) (l7 (xy B.2.2 C.2.2 A.2) λx=>some ((4,0,x.1),x.2))))))
def n_:FQ:=⟨[tD y0,tD y1,tD y1],⟨[(.cell 6 32,tD y1),(.tmp 7,H6)],[]⟩,mE 105 [(245,a0Y),(246,a0Z),(247,a1a),(248,a1b),(244,Sj),(249,a1c)],sN 2 (Y6 (bV (sN 1 (.cond F7 (Y6 (.join [(38,47)] ⟨[(38,dn)],[]⟩ F7) F7)))) F7)⟩
def a0W:FSpec:=V4 n_ λx=>Dk x.1 x.2.1 x.2.2
def Aa(A:Int)(B:Int)(C:Int):Option L8:=l7 (l9 (J4 A 1900) (some (.inr (0,3))) (l9 (J4 2199 A) (some (.inr (0,3))) (l9 (J4 B 1) (some (.inr (0,3))) (l9 (J4 12 B) (some (.inr (0,3))) (l9 (J4 C 1) (some (.inr (0,3))) (l7 (iV A B) λx=>l9 (J4 x C) (some (.inr (0,3))) (some (.inl ())))))))) λo=>Y9 o (λx=>l7 (lT A) λx=>l7 (af (λ(x:L8)=>l9 (J4 x.2 (J7 .i64 B 1)) (l7 (iV A (D5 .i64 x.2 1)) λb=>some (.inl (D5 .i64 x.1 b,D5 .i64 x.2 1))) (some (.inr x.1))) (x,0)) λy=>some (J7 .i64 (D5 .i64 y C) 1,0)) λr=>some r
def z_:FQ:=⟨[H6,H6,H6],⟨[(.tmp 6,H6),(.tmp 7,H6)],[]⟩,mE 53 [(150,UJ),(149,WA)],sN 1 (Y6 (jnR [(6,8),(10,35)] sgN F7) (sN 1 (Y6 (sN 1 (bV (.loop [(8,10),(39,49)] ⟨[(8,H6),(39,H6)],[]⟩ 0 ⟨[(8,H6)],[]⟩ F7))) F7)))⟩
def a1d:FSpec:=V4 z_ λx=>Aa x.1 x.2.1 x.2.2
def qp(A:Int)(B:Int):Option L8:=l7 (l7 (nG A) λx=>l9 (F5 x) (some (.inr (0,3))) (l9 (J4 B (-3600)) (some (.inr (0,3))) (l9 (J4 3600 B) (some (.inr (0,3))) (some (.inl ()))))) λo=>Y9 o (λx=>l7 (nC A) λx=>l9 (J4 (D5 .i64 (J7 .i64 (D5 .i64 (gZ .i64 (J7 .i64 x.1 1900) 12) x.2.1) 1) B) 0) (some (0,3)) (l9 (J4 3599 (D5 .i64 (J7 .i64 (D5 .i64 (gZ .i64 (J7 .i64 x.1 1900) 12) x.2.1) 1) B)) (some (0,3)) (l7 (iV (D5 .i64 1900 (ig .i64 (D5 .i64 (J7 .i64 (D5 .i64 (gZ .i64 (J7 .i64 x.1 1900) 12) x.2.1) 1) B) 12)) (D5 .i64 (lZ (D5 .i64 (J7 .i64 (D5 .i64 (gZ .i64 (J7 .i64 x.1 1900) 12) x.2.1) 1) B) 12) 1)) λb=>l7 (Aa (D5 .i64 1900 (ig .i64 (D5 .i64 (J7 .i64 (D5 .i64 (gZ .i64 (J7 .i64 x.1 1900) 12) x.2.1) 1) B) 12)) (D5 .i64 (lZ (D5 .i64 (J7 .i64 (D5 .i64 (gZ .i64 (J7 .i64 x.1 1900) 12) x.2.1) 1) B) 12) 1) (Aq x.2.2 b)) λx=>some x))) λr=>some r
def o_:FQ:=⟨[H6,H6],⟨[(.tmp 4,H6),(.tmp 5,H6)],[]⟩,mE 57 [(120,RG),(121,RH),(150,UJ),(250,a1d)],sN 1 (Y6 (jnR [(4,6),(10,21)] sgN F7) F7)⟩
def WM:FSpec:=V4 o_ λx=>qp x.1 x.2
def rM(A:Int)(B:Int):Option Int:=l7 (nG A) λx=>l9 (F5 x) (some 0) (l7 (nG B) λx=>l9 (F5 x) (some 0) (l9 (J4 B A) (some 0) (l7 (nC A) λx=>l7 (nC B) λb=>l7 (qp A (gZ .i64 12 (J7 .i64 b.1 x.1))) λc=>l9 (F5 (o8 c.2 0)) (some (um (J7 .i64 (J7 .i64 b.1 x.1) 1) 0)) (l9 (J4 B c.1) (some (um (J7 .i64 (J7 .i64 b.1 x.1) 1) 0)) (some (um (J7 .i64 b.1 x.1) 0))))))
def p_:FQ:=⟨[H6,H6],tR 4 H6,mE 60 [(120,RG),(121,RH),(241,WM)],F7⟩
def a0X:FSpec:=V4 p_ λx=>rM x.1 x.2
def Di(A:L8)(B:O9)(C:O9):Option (O9×Int):=l7 (l7 (l9 (o8 A.1 11) (some (o8 A.1 11)) (some (o8 A.1 27))) λx=>l9 x (some (.inr ((B.1,0,D5 .i64 B.2.2 C.2.2),0))) (l9 (o8 A.1 12) (some (.inr ((B.1,0,J7 .i64 B.2.2 C.2.2),0))) (l7 (l9 (o8 A.1 13) (some (o8 A.1 13)) (l9 (o8 A.1 14) (some (o8 A.1 14)) (l9 (o8 A.1 15) (some (o8 A.1 15)) (some (o8 A.1 16))))) λx=>l9 x (l7 (Dk A B C) λx=>some (.inr x)) (l7 (l9 (o8 A.1 17) (some (o8 A.1 17)) (some (o8 A.1 18))) λx=>l9 x (l9 (pK (o8 A.1 17) (J4 C.2.2 B.2.2)) (some (.inr (C,0))) (some (.inr (B,0)))) (l9 (o8 A.1 19) (l7 (iM (o8 B.2.2 C.2.2)) λx=>some (.inr (x,0))) (l9 (o8 A.1 20) (l7 (iM (F5 (o8 B.2.2 C.2.2))) λx=>some (.inr (x,0))) (l9 (o8 A.1 21) (l7 (iM (J4 B.2.2 C.2.2)) λx=>some (.inr (x,0))) (l9 (o8 A.1 22) (l7 (iM (bG B.2.2 C.2.2)) λx=>some (.inr (x,0))) (l9 (o8 A.1 23) (l9 (o8 B.2.2 1) (l7 (iM (o8 C.2.2 1)) λx=>some (.inr (x,0))) (l7 (iM false) λx=>some (.inr (x,0)))) (l9 (o8 A.1 24) (l9 (o8 B.2.2 1) (l7 (iM true) λx=>some (.inr (x,0))) (l7 (iM (o8 C.2.2 1)) λx=>some (.inr (x,0)))) (l9 (o8 A.1 28) (l7 (qp B.2.2 C.2.2) λx=>some (.inr ((5,0,x.1),x.2))) (l9 (o8 A.1 29) (some (.inr ((2,0,J7 .i64 C.2.2 B.2.2),0))) (some (.inl (0,0,0))))))))))))))) λo=>Y9 o (λ(x:O9)=>l7 (rM B.2.2 C.2.2) λx=>some ((2,0,x),0)) λr=>some r
def g_:FQ:=⟨[tD y0,tD y1,tD y1],⟨[(.cell 6 32,tD y1),(.tmp 7,H6)],[]⟩,mE 139 [(240,a0W),(239,WL),(241,WM),(242,a0X)],sN 1 (Y6 (jnR [(6,133),(4000384,4000385)] ⟨[(6,(false,(.box (dT y1))))],[]⟩ (sN 1 (bV (Y6 (.join [(12,15)] ⟨[(12,dn)],[]⟩ F7) (.cond F7 (sN 1 (.cond F7 (Y6 (.join [(33,38)] ⟨[(33,dn)],[]⟩ F7) (.cond F7 (Y6 (.join [(44,47)] ⟨[(44,dn)],[]⟩ F7) F7)))))))))) F7)⟩
def a0T:FSpec:=V4 g_ λx=>Di x.1 x.2.1 x.2.2
def Ah(A:L8)(B:List O9)(C:zX):Option (O9×Int):=l7 (l7 (l9 (o8 A.1 1) (some (o8 A.1 1)) (l9 (o8 A.1 2) (some (o8 A.1 2)) (l9 (o8 A.1 3) (some (o8 A.1 3)) (l9 (o8 A.1 4) (some (o8 A.1 4)) (some (o8 A.1 5)))))) λx=>l9 x (some (.inr ((A.1,0,A.2),0))) (l9 (o8 A.1 6) (some (.inr ((6,ig .i64 A.2 16,lZ A.2 16),0))) (l9 (o8 A.1 7) (l7 (J3 C.2.1 A.2) λx=>some (.inr (x,0))) (l9 (o8 A.1 8) (l7 (J3 C.2.2.1 A.2) λx=>some (.inr (x,0))) (l9 (o8 A.1 9) (some (.inr ((5,0,C.1),0))) (l9 (o8 A.1 35) (some (.inr ((2,0,x9 C.2.2.2.1),0))) (l7 (l9 (o8 A.1 36) (some (o8 A.1 36)) (l9 (o8 A.1 37) (some (o8 A.1 37)) (l9 (o8 A.1 38) (some (o8 A.1 38)) (some (o8 A.1 39))))) λx=>l9 x (l7 (ui A C) λx=>some (.inr x)) (l9 (o8 A.1 33) (l7 (J3 C.2.2.2.2.2 A.2) λx=>l7 (J3 B 0) λb=>l7 (Bz x C.1 b.2.2) λc=>l9 (F5 c.2) (some (.inr ((0,0,0),6))) (l7 (J3 x.2.2.2 c.1) λd=>some (.inr ((x.2.2.1.1,x.2.2.1.2,d.2.2.2),0)))) (l9 (o8 A.1 34) (l7 (J3 C.2.2.2.2.2 (ig .i64 A.2 8)) λx=>l7 (J3 B 0) λb=>l7 (xR x C.1 b.2.2 (lZ A.2 8)) λx=>some (.inr ((3,0,x.1),x.2))) (some (.inl (0,0,0)))))))))))) λo=>Y9 o (λ(x:O9)=>l9 (o8 (x9 B) 1) (l7 (J3 B 0) λx=>l7 (EO A.1 x) λx=>some (x,0)) (l9 (o8 (x9 B) 2) (l7 (J3 B 0) λx=>l7 (J3 B 1) λb=>l7 (Di A x b) λx=>some x) (l7 (J3 B 0) λx=>l9 (o8 x.2.2 1) (l7 (J3 B 1) λx=>some (x,0)) (l7 (J3 B 2) λx=>some (x,0))))) λr=>some r
def ZP:FQ:=⟨[tD y0,uD y37,tD y61],⟨[(.cell 6 32,tD y1),(.tmp 7,H6)],[]⟩,mE 165 [(228,a0P),(229,a0Q),(230,a0R),(231,a0S),(232,a0T)],sN 1 (Y6 (jnR [(6,132),(4000384,4000385)] ⟨[(6,(false,(.box (dT y1))))],[]⟩ (sN 1 (bV (Y6 (.join [(15,21)] ⟨[(15,dn)],[]⟩ F7) (.cond F7 (sN 1 (.cond F7 (sN 1 (.cond F7 (sN 1 (.cond F7 (sN 1 (.cond F7 (sN 1 (.cond F7 (Y6 (.join [(62,67)] ⟨[(62,dn)],[]⟩ F7) F7)))))))))))))))) F7)⟩
def a0J:FSpec:=V4 ZP λx=>Ah x.1 x.2.1 x.2.2
def EN(A:L8)(B:List O9)(C:zX):Option (O9×Int):=l7 (l7 (vN A) λx=>l9 (F5 x) (some (.inr ((0,0,0),2))) (l7 (lq A.1) λx=>l9 (F5 (o8 (x9 B) x)) (some (.inr ((0,0,0),2))) (some (.inl (0,0,0))))) λo=>Y9 o (λ(x:O9)=>l7 (Dj A C) λx=>l9 (F5 x) (some ((0,0,0),6)) (l7 (rQ B) λx=>l9 (F5 x) (some ((0,0,0),8)) (l7 (Af A B C) λx=>l9 (F5 x) (some ((0,0,0),8)) (l7 (Ah A B C) λx=>l9 (F5 (o8 x.2 0)) (some ((0,0,0),x.2)) (l7 (dW x.1) λb=>l9 (F5 b) (some ((0,0,0),3)) (some (x.1,0))))))) λr=>some r
def ZB:FQ:=⟨[tD y0,uD y37,tD y61],⟨[(.cell 6 32,tD y1),(.tmp 7,H6)],[]⟩,mE 54 [(209,a0F),(180,PD),(210,a0G),(211,a0H),(212,a0I),(213,a0J),(214,MI)],sN 1 (Y6 (jnR [(6,8),(10,22),(4000384,4000385)] ⟨[(6,(false,(.box (dT y1))))],[]⟩ F7) F7)⟩
def a0y:FSpec:=V4 ZB λx=>EN x.1 x.2.1 x.2.2
def QM:List MG:=[(true,(.dat y77)),H6]
def Ib:List MG:=[(true,(.dat y77)),H6]
def QL:List MG:=[(true,(.dat y77)),(true,(.dat y0)),(false,(.dat y10))]
def O_:Ret:=⟨[(.cell 4 32,(true,(.dat y1))),(.tmp 5,H6)],[]⟩
def a2q (r208:M.den (.dat y77)->M.den diM->Option (ay ([(true,(.dat y1)),H6]++[]))) (r162:M.den (.dat y77)->M.den diM->Option (ay ([(true,(.dat y1)),H6]++[]))) (r191:M.den (.dat y77)->M.den (.dat y0)->M.den (.dat y10)->Option (ay ([(true,(.dat y1)),H6]++[]))):Env:=⟨28,eqs,tt,gl,[(162,⟨Ib,[(true,(.dat y1)),H6],[],λx=>r162 x.1 x.2⟩),(214,MI)],[],[],[],[],[]⟩
def Yt:Ann:=.leaf
def pM(r208:Y1->Int->Option (O9×Int))(r162:Y1->Int->Option (O9×Int))(r191:Y1->L8->List Int->Option (O9×Int))(A:Y1)(B:Int):Option (O9×Int):=l7 (r162 A B) λx=>l9 (F5 (o8 x.2 0)) (some ((0,0,0),x.2)) (l9 (F5 (o8 x.1.1 1)) (some ((0,0,0),8)) (l7 (dW x.1) λb=>l9 (F5 b) (some ((0,0,0),8)) (some (x.1,0))))
def Vz:Ret:=⟨[(.cell 4 32,(true,(.dat y1))),(.tmp 5,H6)],[]⟩
def a2o (r208:M.den (.dat y77)->M.den diM->Option (ay ([(true,(.dat y1)),H6]++[]))) (r162:M.den (.dat y77)->M.den diM->Option (ay ([(true,(.dat y1)),H6]++[]))) (r191:M.den (.dat y77)->M.den (.dat y0)->M.den (.dat y10)->Option (ay ([(true,(.dat y1)),H6]++[]))):Env:=⟨65,eqs,tt,gl,[(190,a0x),(191,⟨QL,[(true,(.dat y1)),H6],[],λx=>r191 x.1 x.2.1 x.2.2⟩),(162,⟨Ib,[(true,(.dat y1)),H6],[],λx=>r162 x.1 x.2⟩),(192,a0y)],[],[],[],[],[]⟩
def Yq:Ann:=.seq F7 (.seq F7 (.seq F7 (.seq (.joinR [(4,6),(21,33),(4000256,4000257)] ⟨[(4,(false,(.box (.dat y1))))],[]⟩ F7) (.seq F7 (.seq (.seq F7 (.blk (.loopR [(4,6),(8,13),(38,58),(12000000,12000001),(37002240,37002241)] ⟨[(4,(false,(.box (.dat y1)))),(8,(false,(.own y1))),(38,H6)],[]⟩ 1 ⟨[(4,(false,(.box (.dat y1)))),(8,(false,(.own y1)))],[]⟩ F7))) F7)))))
def tH(r208:Y1->Int->Option (O9×Int))(r162:Y1->Int->Option (O9×Int))(r191:Y1->L8->List Int->Option (O9×Int))(A:Y1)(B:Int):Option (O9×Int):=l7 (J3 A.1 B) λx=>l7 (lF A B) λb=>l7 (l9 (o8 x.1 23) (l9 (o8 x.1 23) (l7 (r191 A x b) λx=>some (.inr x)) (some (.inl (0,0,0)))) (l9 (o8 x.1 24) (l9 (o8 x.1 24) (l7 (r191 A x b) λx=>some (.inr x)) (some (.inl (0,0,0)))) (l9 (o8 x.1 26) (l7 (r191 A x b) λx=>some (.inr x)) (some (.inl (0,0,0)))))) λo=>Y9 o (λ(d:O9)=>l7 (qL (x9 b) (0,0,0)) λf=>l7 (Z4 (λ(x:O9×List O9×Int)=>l9 (J4 x.2.2 (x9 b)) (l7 (J3 b x.2.2) λi=>l7 (V7 b (V8 x.2.2)) λg=>l7 (r162 A g) λc=>l9 (F5 (o8 c.2 0)) (some (.rt ((0,0,0),c.2))) (l7 (J3 x.2.1 x.2.2) λj=>l7 (V7 x.2.1 (V8 x.2.2)) λk=>some (.nx (x.1,Z9 x.2.1 (V8 x.2.2) c.1,D5 .i64 x.2.2 1)))) (some (.ex (x.1,x.2.1)))) (d,f,0)) λo=>Y9 o (λ(y:O9×List O9)=>l7 (EN x y.2 A.2.2) λx=>some x) λr=>some r) λr=>some r
def N_:Ret:=⟨[(.cell 6 32,(true,(.dat y1))),(.tmp 7,H6)],[]⟩
def a2p (r208:M.den (.dat y77)->M.den diM->Option (ay ([(true,(.dat y1)),H6]++[]))) (r162:M.den (.dat y77)->M.den diM->Option (ay ([(true,(.dat y1)),H6]++[]))) (r191:M.den (.dat y77)->M.den (.dat y0)->M.den (.dat y10)->Option (ay ([(true,(.dat y1)),H6]++[]))):Env:=⟨69,eqs,tt,gl,[(208,⟨QM,[(true,(.dat y1)),H6],[],λx=>r208 x.1 x.2⟩),(162,⟨Ib,[(true,(.dat y1)),H6],[],λx=>r162 x.1 x.2⟩)],[],[],[],[],[]⟩
def Yr:Ann:=.seq F7 (.seq F7 (.seq F7 (.seq F7 (.seq (.blk (.seq (.join [(26,35)] ⟨[(26,dn)],[]⟩ F7) F7)) F7))))
def tC(r208:Y1->Int->Option (O9×Int))(r162:Y1->Int->Option (O9×Int))(r191:Y1->L8->List Int->Option (O9×Int))(A:Y1)(B:L8)(C:List Int):Option (O9×Int):=l9 (F5 (o8 B.2 0)) (some ((0,0,0),2)) (l7 (J3 C 0) λx=>l7 (r208 A x) λx=>l9 (F5 (o8 x.2 0)) (some ((0,0,0),x.2)) (l7 (l9 (o8 B.1 26) (some (o8 x.1.2.2 1)) (some false)) λb=>l9 b (l7 (J3 C 1) λx=>l7 (r162 A x) λx=>some x) (l9 (o8 B.1 26) (l7 (J3 C 2) λx=>l7 (r162 A x) λx=>some x) (l9 (pK (o8 B.1 23) (o8 x.1.2.2 0)) (some (x.1,0)) (l7 (J3 C 1) λx=>l7 (r208 A x) λx=>some x)))))
def E5:Nat->(M.den (.dat y77)->M.den diM->Option (ay ([(true,(.dat y1)),H6]++[])))×(M.den (.dat y77)->M.den diM->Option (ay ([(true,(.dat y1)),H6]++[])))×(M.den (.dat y77)->M.den (.dat y0)->M.den (.dat y10)->Option (ay ([(true,(.dat y1)),H6]++[])))|0=>(λa0 a1=>none,λa0 a1=>none,λa0 a1 a2=>none)|n+1=>(λa0 a1=>pM (E5 n).1 (E5 n).2.1 (E5 n).2.2 a0 a1,λa0 a1=>tH (E5 n).1 (E5 n).2.1 (E5 n).2.2 a0 a1,λa0 a1 a2=>tC (E5 n).1 (E5 n).2.1 (E5 n).2.2 a0 a1 a2)
def pz:M.den (.dat y77)->M.den diM->Option (ay ([(true,(.dat y1)),H6]++[])):=λa0 a1=>(E5 nK).2.1 a0 a1
def a0r:FSpec:=mkS Ib Vz λx=>pz x.1 x.2
def BO(A:List L8)(B:zX):Option (O9×Int):=l7 (Dn A) λx=>l9 (F5 (o8 x.2 0)) (some ((0,0,0),x.2)) (l7 (pz (A,x.1,B) (J7 .i64 (x9 A) 1)) λx=>some x)
def Zf:FQ:=⟨[uD y21,tD y61],⟨[(.cell 4 32,tD y1),(.tmp 5,H6)],[]⟩,mE 27 [(161,a0q),(162,a0r)],F7⟩
def Wy:FSpec:=V4 Zf λx=>BO x.1 x.2
def sK(A:List Int)(B:List Int):Option Int:=l9 (F5 (o8 (x9 A) (x9 B))) (some 2) (l9 (J4 8 (x9 A)) (some 4) (l7 (Z4 (λ(x:Int)=>l9 (J4 x (x9 A)) (l7 (J3 A x) λb=>l9 (J4 b (-1)) (some (.rt 9)) (l9 (bG x b) (some (.rt 9)) (l7 (J3 B x) λc=>l9 (J4 c 0) (some (.rt 3)) (l7 (J3 B x) λd=>l9 (J4 9 d) (some (.rt 3)) (some (.nx (D5 .i64 x 1))))))) (some (.ex ()))) 0) λo=>Y9 o (λy=>some 0) λr=>some r))
def Zx:FQ:=⟨[uD y10,uD y10],tR 4 H6,mE 42 [],sN 3 (Y6 (sN 1 (bV (lpR [(4,7),(17,42)] ⟨[(17,H6)],[]⟩ 0 sgN F7))) F7)⟩
def a0v:FSpec:=V4 Zx λx=>sK x.1 x.2
def sJ(A:List Int)(B:Int):Option (List Int):=l7 (af (λ(x:List Int×Int)=>l9 (J4 x.2 (x9 A)) (l7 (J3 A x.2) λb=>l9 (o8 b B) (l7 (bi x.1 [x.2]) λc=>some (.inl (c,D5 .i64 x.2 1))) (some (.inl (x.1,D5 .i64 x.2 1)))) (some (.inr x.1))) ([],0)) λy=>some y
def ZU:FQ:=⟨[uD y10,H6],tR 4 eX,mE 24 [],sN 2 (Y6 (sN 1 (bV (.loop [(5,8),(10,23)] ⟨[(5,eX),(10,H6)],[]⟩ 0 ⟨[(5,eX)],[]⟩ F7))) F7)⟩
def a0L:FSpec:=V4 ZU λx=>sJ x.1 x.2
def qZ(A:iU)(B:Int):Option (List Int):=l7 (sJ A.1 B) λx=>l7 (af (λ(b:List Int×Int)=>l9 (J4 b.2 (x9 x)) (l7 (J3 x b.2) λk=>l7 (V7 x (V8 b.2)) λx=>l7 (J3 A.2.2 x) λg=>l9 (o8 g (-1)) (some (.inl (b.1,D5 .i64 b.2 1))) (l7 (l9 (J4 0 (x9 b.1)) (l7 (J3 A.2.1 x) λx=>l7 (J3 b.1 0) λc=>l7 (V7 b.1 (V8 0)) λd=>l7 (J3 A.2.1 d) λf=>l9 (J4 f x) (l9 (qY 0 0 (x9 b.1)) (some (lH b.1 (V8 0) (V8 0))) none) (some b.1)) (some b.1)) λc=>l9 (o8 (x9 c) 0) (l7 (bi c [x]) λx=>some (.inl (x,D5 .i64 b.2 1))) (l7 (J3 A.2.1 x) λd=>l7 (J3 c 0) λf=>l7 (V7 c (V8 0)) λi=>l7 (J3 A.2.1 i) λj=>l9 (o8 d j) (l7 (bi c [x]) λx=>some (.inl (x,D5 .i64 b.2 1))) (some (.inl (c,D5 .i64 b.2 1)))))) (some (.inr b.1))) ([],0)) λy=>some y
def ZK:FQ:=⟨[tD y79,H6],tR 4 eX,mE 67 [(222,a0L)],sN 2 (Y6 (sN 1 (bV (.loop [(5,6),(7,8),(13,66)] ⟨[(5,eX),(13,H6)],[]⟩ 0 ⟨[(5,eX)],[]⟩ (sN 2 (Y6 (bV (sN 2 (Y6 (.join [(5,6),(23,43),(14000000,14000001)] ⟨[(5,eX)],[]⟩ F7) F7))) F7))))) F7)⟩
def a0E:FSpec:=V4 ZK λx=>qZ x.1 x.2
def iQ(A:iU)(B:Int):Option Int:=l7 (qZ A B) λx=>l9 (o8 (x9 x) 0) (some (-1)) (l9 (o8 (x9 x) 1) (l7 (J3 x 0) λb=>l7 (V7 x (V8 0)) λx=>l7 (J3 A.2.2 x) λx=>some x) (some (-2)))
def Zz:FQ:=⟨[tD y79,H6],tR 4 H6,mE 22 [(207,a0E)],F7⟩
def WE:FSpec:=V4 Zz λx=>iQ x.1 x.2
def sO(A:List Int)(B:List Int)(C:List Bool):Option (List Int):=l7 (qL (x9 A) 0) λx=>l7 (af (λ(x:iU×Int)=>l9 (bG 0 x.2) (l7 (iQ x.1 x.2) λb=>l7 (J3 x.1.2.2 x.2) λf=>l7 (V7 x.1.2.2 (V8 x.2)) λg=>l7 (J3 (Z9 x.1.2.2 (V8 x.2) b) x.2) λi=>l7 (V7 (Z9 x.1.2.2 (V8 x.2) b) (V8 x.2)) λc=>l9 (o8 c (-1)) (l7 (J3 C x.2) λd=>l9 d (l7 (J3 (Z9 x.1.2.2 (V8 x.2) b) x.2) λj=>l7 (V7 (Z9 x.1.2.2 (V8 x.2) b) (V8 x.2)) λk=>some (.inl ((x.1.1,x.1.2.1,Z9 (Z9 x.1.2.2 (V8 x.2) b) (V8 x.2) x.2),J7 .i64 x.2 1))) (some (.inl ((x.1.1,x.1.2.1,Z9 x.1.2.2 (V8 x.2) b),J7 .i64 x.2 1)))) (some (.inl ((x.1.1,x.1.2.1,Z9 x.1.2.2 (V8 x.2) b),J7 .i64 x.2 1)))) (some (.inr x.1))) ((A,B,x),J7 .i64 (x9 A) 1)) λy=>some y.2.2
def Zy:FQ:=⟨[uD y10,uD y10,(uD (.sl .bool))],tR 6 eX,mE 48 [(189,WE)],sN 2 (Y6 (sN 1 (bV (.loop [(7,9),(18,46),(7000448,7000449),(7000832,7000833)] ⟨[(7,(false,(.box (pA (dT y10) (pA (dT y10) oiM))))),(8,H6)],[]⟩ 0 ⟨[(7,(false,(.box (pA (dT y10) (pA (dT y10) oiM)))))],[]⟩ F7))) F7)⟩
def a0w:FSpec:=V4 Zy λx=>sO x.1 x.2.1 x.2.2
def wz(A:List Int)(B:List Int)(C:List Bool):Option Int:=l7 (sK A B) λx=>l9 (F5 (o8 x 0)) (some (-1)) (l9 (F5 (o8 (x9 C) (x9 A))) (some (-1)) (l7 (sO A B C) λx=>l7 (iQ (A,B,x) (-1)) λx=>some x))
def Zn:FQ:=⟨[uD y10,uD y10,(uD (.sl .bool))],tR 6 H6,mE 26 [(187,a0v),(188,a0w),(189,WE)],F7⟩
def a0p:FSpec:=V4 Zn λx=>wz x.1 x.2.1 x.2.2
def vW(A:aJ)(B:zX)(C:Int)(D:Int):Option (Int×au):=l7 (uf A D B.1) λx=>l7 (qL (x9 x.1) false) λd=>l7 (Z4 (λ(b:au×List Bool×Int)=>l9 (J4 b.2.2 (x9 x.1)) (l7 (J3 x.1 b.2.2) λf=>l7 (V7 x.1 (V8 b.2.2)) λx=>l7 (J3 A.2.2.2.2 x) λg=>l9 (o8 (x9 g.2.2.2.2.2.1) 0) (l7 (J3 b.2.1 b.2.2) λx=>l7 (V7 b.2.1 (V8 b.2.2)) λx=>some (.nx (b.1,Z9 b.2.1 (V8 b.2.2) true,D5 .i64 b.2.2 1))) (l7 (J3 A.2.2.2.2 x) λi=>l7 (BO i.2.2.2.2.2.1 B) λc=>l9 (F5 (o8 c.2 0)) (some (.rt (0,c.2,C,D,x))) (l7 (J3 b.2.1 b.2.2) λx=>l7 (V7 b.2.1 (V8 b.2.2)) λx=>some (.nx (b.1,Z9 b.2.1 (V8 b.2.2) (o8 c.1.2.2 1),D5 .i64 b.2.2 1))))) (some (.ex (b.1,b.2.1)))) ((0,0,0,0),d,0)) λo=>Y9 o (λ(y:au×List Bool)=>l7 (wz x.2.1 x.2.2 y.2) λb=>l9 (J4 b 0) (some (b,0,0,0,0)) (l7 (J3 x.1 b) λf=>l7 (V7 x.1 (V8 b)) λx=>some (x,0,0,0,0))) λr=>some r
def Ze:FQ:=⟨[tD y33,tD y61,H6,H6],⟨[(.tmp 8,H6),(.cell 9 114,tD y41)],[]⟩,mE 87 [(159,a0o),(141,Wy),(160,a0p)],sN 3 (Y6 (sN 1 (bV (lpR [(8,10),(13,18),(33,74),(4000576,4000577),(10001920,10001921)] ⟨[(9,(false,(.box (dT y41)))),(13,(uO .bool)),(33,H6)],[]⟩ 0 ⟨[(9,(false,(.box (dT y41)))),(13,(uO .bool))],[]⟩ F7))) F7)⟩
def a0j:FSpec:=V4 Ze λx=>vW x.1 x.2.1 x.2.2.1 x.2.2.2
def jP(A:aJ)(B:zX)(C:Int)(D:List Bool):Option (List Int×au×zX):=l7 (qL (x9 A.2.2.2.1) (0,0,0)) λx=>l7 (qL (x9 A.2.2.2.1) 0) λg=>l7 (oq A) λd=>l7 (Z4 (λ(x:zX×au×List Int×Int)=>l9 (J4 x.2.2.2 (x9 d.1)) (l7 (J3 d.1 x.2.2.2) λq=>l7 (V7 d.1 (V8 x.2.2.2)) λb=>l7 (J3 D b) λi=>l9 (F5 i) (some (.nx (x.1,x.2.1,x.2.2.1,D5 .i64 x.2.2.2 1))) (l7 (vW A x.1 C b) λc=>l9 (F5 (o8 c.2.1 0)) (some (.rt ([],c.2,x.1))) (l9 (o8 c.1 (-1)) (some (.rt ([],(10,C,b,-1),x.1))) (l9 (o8 c.1 (-2)) (some (.rt ([],(11,C,b,-1),x.1))) (l7 (J3 A.2.2.2.2 c.1) λj=>l7 (BO j.2.2.2.2.2.2.1 x.1) λf=>l9 (F5 (o8 f.2 0)) (some (.rt ([],(f.2,C,b,c.1),x.1))) (l7 (J3 x.1.2.2.1 b) λt=>l7 (V7 x.1.2.2.1 (V8 b)) λk=>l7 (J3 x.2.2.1 b) λn=>l7 (V7 x.2.2.1 (V8 b)) λp=>some (.nx ((x.1.1,x.1.2.1,Z9 x.1.2.2.1 (V8 b) f.1,x.1.2.2.2),x.2.1,Z9 x.2.2.1 (V8 b) c.1,D5 .i64 x.2.2.2 1)))))))) (some (.ex (x.1,x.2.1,x.2.2.1)))) ((B.1,B.2.1,x,B.2.2.2),(0,0,0,0),g,0)) λo=>Y9 o (λ(y:zX×au×List Int)=>some (y.2.2,(0,0,0,0),y.1)) λr=>some r
def YO:FQ:=⟨[tD y33,(false,(.box (pA diM (pA (dT y37) (pA (oW y1) (pA (dT y38) (pA (dT y21) (dT y18)))))))),H6,(uD (.sl .bool))],⟨[(.tmp 8,eX),(.cell 9 114,tD y41)],[(1,(true,(pA diM (pA (dT y37) (pA (oW y1) (pA (dT y38) (pA (dT y21) (dT y18))))))))]⟩,⟨105,eqs,tt,gl,[(139,a0i),(140,a0j),(141,Wy)],[],[],[],[1],[]⟩,sN 4 (Y6 (sN 1 (bV (lpR [(1,2),(8,11),(14,19),(37,103),(1000000,1000001),(4000576,4000577),(7001472,7001473),(10001856,10001857)] ⟨[(1,(false,(.box (pA diM (pA (dT y37) (pA (oW y1) (pA (dT y38) (pA (dT y21) (dT y18))))))))),(9,(false,(.box (dT y41)))),(10,eX),(37,H6)],[]⟩ 0 ⟨[(1,(false,(.box (pA diM (pA (dT y37) (pA (oW y1) (pA (dT y38) (pA (dT y21) (dT y18))))))))),(9,(false,(.box (dT y41)))),(10,eX)],[]⟩ F7))) F7)⟩
def V_:FSpec:=V4 YO λx=>jP x.1 x.2.1 x.2.2.1 x.2.2.2
def vU(A:ni)(B:Int)(C:Es)(D:bZ):Option (zY×zX×au×bZ):=l7 (af (λ(x:(Int×List O9×PUnit×PUnit×List L8×List lS)×Int)=>l9 (J4 x.2 (x9 D.2.1.2.2.2.1)) (l7 (J3 D.2.1.2.2.2.1 x.2) λc=>l7 (bi x.1.2.2.2.2.1 [c.2]) λb=>some (.inl ((x.1.1,x.1.2.1,(),(),b,x.1.2.2.2.2.2),D5 .i64 x.2 1))) (some (.inr (x.1.1,x.1.2.1,(),(),x.1.2.2.2.2)))) ((C.1,C.2.1,(),(),[],A.2.1),0)) λy=>l7 (Z4 (λ(x:zY×zX×au×(Int×List O9×PUnit×List (List O9)×List L8×List lS)×zY×Int)=>l9 (J4 x.2.2.2.2.2 (x9 C.2.2)) (l7 (J3 C.2.2 x.2.2.2.2.2) λc=>l7 (jP D.2.1 (C.1,c,[],[],[],A.2.1) x.2.2.2.2.2 D.2.2.2) λb=>l9 (F5 (o8 b.2.1.1 0)) (some (.rt (([],[],[]),(0,[],[],[],[],[]),b.2.1,D))) (l7 (bi x.2.2.2.1.2.2.2.1 [b.2.2.2.2.1]) λd=>l7 (bi x.2.2.2.2.1.2.2 [(b.2.2.2.2.1,b.1)]) λf=>some (.nx (x.1,x.2.1,x.2.2.1,(x.2.2.2.1.1,x.2.2.2.1.2.1,(),d,x.2.2.2.1.2.2.2.2),(x.2.2.2.2.1.1,x.2.2.2.2.1.2.1,f),D5 .i64 x.2.2.2.2.2 1)))) (some (.ex (x.1,x.2.1,x.2.2.1,(x.2.2.2.1.1,x.2.2.2.1.2.1,(),x.2.2.2.1.2.2.2),x.2.2.2.2.1)))) (([],[],[]),(0,[],[],[],[],[]),(0,0,0,0),(y.1,y.2.1,(),[],y.2.2.2.2),([],[],[]),0)) λo=>Y9 o (λ(y:zY×zX×au×(Int×List O9×PUnit×List (List O9)×List L8×List lS)×zY)=>l7 (jP D.1 (y.2.2.2.1.1,y.2.2.2.1.2.1,[],y.2.2.2.1.2.2.2) (-1) D.2.2.1) λx=>l9 (F5 (o8 x.2.1.1 0)) (some (([],[],[]),(0,[],[],[],[],[]),x.2.1,D)) (some ((x.2.2.2.2.1,x.1,y.2.2.2.2.2.2),x.2.2,(0,0,0,0),D))) λr=>some r
def q72:FQ:=⟨[tD y36,H6,tD y40,(false,(.box (pA (dT y33) (pA (dT y33) (pA (oW .bool) (oW .bool))))))],⟨[(.cell 8 159,tD y56),(.cell 9 162,tD y61),(.cell 10 114,tD y41)],[(3,(true,(pA (dT y33) (pA (dT y33) (pA (oW .bool) (oW .bool))))))]⟩,⟨123,eqs,tt,gl,[(109,V_)],[],[],[],[3],[]⟩,sN 3 (Y6 (sN 1 (bV (.loop [(11,12),(14,15),(35,47),(7000704,7000705)] ⟨[(11,(false,(.box (pA diM (pA (dT y37) (pA (.cell (some none)) (pA (.cell (some none)) (pA (oW y0) (dT y18))))))))),(35,H6)],[]⟩ 0 ⟨[(11,(false,(.box (pA diM (pA (dT y37) (pA (.cell (some none)) (pA (.cell (some none)) (pA (oW y0) (dT y18)))))))))],[]⟩ F7))) (Y6 (sN 1 (bV (lpR [(8,13),(15,20),(50,97),(4000512,4000513),(4000576,4000577),(4000640,4000641),(10000768,10000769),(18000000,18000002)] ⟨[(8,(false,(.box (dT y56)))),(9,(false,(.box (dT y61)))),(10,(false,(.box (dT y41)))),(11,(false,(.box (pA diM (pA (dT y37) (pA (.cell (some none)) (pA (oW y37) (pA (oW y0) (dT y18))))))))),(12,(false,(.box (pA (dT y37) (pA (dT y10) (oW y53)))))),(50,H6)],[]⟩ 2 ⟨[(8,(false,(.box (dT y56)))),(9,(false,(.box (dT y61)))),(10,(false,(.box (dT y41)))),(11,(false,(.box (pA diM (pA (dT y37) (pA (.cell (some none)) (pA (oW y37) (pA (oW y0) (dT y18))))))))),(12,(false,(.box (pA (dT y37) (pA (dT y10) (oW y53))))))],[]⟩ F7))) F7))⟩
def s72:FSpec:=V4 q72 λx=>vU x.1 x.2.1 x.2.2.1 x.2.2.2
def wW(A:ni)(B:Int)(C:Es)(D:Int):Option (O9×Int×au):=l7 (mV A B C true D) λx=>l9 (F5 (o8 x.1 0)) (some ((0,0,0),0,x)) (l7 (vV A B) λx=>l7 (pF x D) λx=>l7 (vU A B C x) λx=>l9 (F5 (o8 x.2.2.1.1 0)) (some ((0,0,0),0,x.2.2.1)) (l7 (J3 x.1.1 D) λb=>l7 (J3 x.1.2.1 D) λx=>some (b,x,0,0,0,0)))
def q44:FQ:=⟨[tD y36,H6,tD y40,H6],⟨[(.cell 8 32,tD y1),(.tmp 9,H6),(.cell 10 114,tD y41)],[]⟩,mE 57 [(69,s69),(70,s70),(71,s71),(72,s72)],F7⟩
def s44:FSpec:=V4 q44 λx=>wW x.1 x.2.1 x.2.2.1 x.2.2.2
def oK(A:ni)(B:Int)(C:Es)(D:Int):Option (O9×Int):=l7 (wW A B C D) λx=>l9 (F5 (o8 x.2.2.1 0)) (some ((0,0,0),x.2.2.1)) (some (x.1,0))
def q25:FQ:=⟨[tD y36,H6,tD y40,H6],⟨[(.cell 8 32,tD y1),(.tmp 9,H6)],[]⟩,mE 29 [(44,s44)],F7⟩
def s25:FSpec:=V4 q25 λx=>oK x.1 x.2.1 x.2.2.1 x.2.2.2
def qI(A:List (bK×Bool))(B:aJ)(C:List Int):Option (List (bK×Bool)):=l7 (af (λ(x:List (Int×Bool)×Int)=>l9 (J4 x.2 (x9 C)) (l7 (J3 C x.2) λc=>some (.inl (zI (λ(a b:Int)=>o8 a b) x.1 c true,D5 .i64 x.2 1))) (some (.inr x.1))) ([],0)) λy=>l7 (af (λ(x:List (bK×Bool)×Int)=>l9 (J4 x.2 (x9 B.2.2.2.2)) (l7 (J3 B.2.2.2.2 x.2) λc=>l9 (lN (λ(a b:Int)=>o8 a b) y c.2.1 false) (some (.inl (zI (λ(a b:bK)=>U2 (seq a.1 b.1) (seq a.2 b.2)) x.1 (B.1,c.1) true,D5 .i64 x.2 1))) (some (.inl (x.1,D5 .i64 x.2 1)))) (some (.inr x.1))) (A,0)) λy=>some y
def q45:FQ:=⟨[(false,(.ownb (.ent true false y47 .bool))),tD y33,uD y10],⟨[],[(0,(false,(oW (.ent true false y47 .bool))))]⟩,⟨39,eqs,tt,gl,[],[],[],[],[0],[]⟩,sN 2 (Y6 (sN 1 (bV (.loop [(6,7),(8,9),(14,21),(7000704,7000705)] ⟨[(6,(false,(oW (.ent false false (.int .i64) .bool)))),(14,H6)],[]⟩ 0 ⟨[(6,(false,(oW (.ent false false (.int .i64) .bool))))],[]⟩ F7))) (sN 1 (bV (.loop [(0,1),(10,11),(24,39),(1000000,1000001)] ⟨[(0,(false,(oW (.ent true false y47 .bool)))),(24,H6)],[]⟩ 2 ⟨[(0,(false,(oW (.ent true false y47 .bool))))],[]⟩ F7))))⟩
def s45:FSpec:=V4 q45 λx=>qI x.1 x.2.1 x.2.2
def oL(A:ni)(B:Int)(C:Int):Option (List (bK×Bool)):=l7 (J3 A.2.2 B) λx=>l7 (iw x C) λf=>l7 (bi f [C]) λg=>l7 (qI [] x g) λc=>l7 (l9 (J4 x.2.1 0) (some (.inr c)) (l9 (bG (x9 A.2.2) x.2.1) (some (.inr c)) (some (.inl ())))) λo=>Y9 o (λj=>l7 (J3 A.2.2 x.2.1) λd=>l7 (oI x C) λx=>l7 (af (λ(b:List Int×Int)=>l9 (J4 b.2 (x9 x)) (l7 (J3 x b.2) λk=>l7 (V7 x (V8 b.2)) λx=>l7 (bi b.1 [x]) λi=>l7 (iw d x) λx=>l7 (bi i x) λx=>some (.inl (x,D5 .i64 b.2 1))) (some (.inr b.1))) ([],0)) λy=>l7 (qI c d y) λx=>some x) λr=>some r
def q26:FQ:=⟨[tD y36,H6,H6],tR 6 (false,(oW (.ent true false y47 .bool))),mE 69 [(46,s46),(45,s45),(47,s47)],sN 4 (Y6 (jnR [(6,7),(28,40)] sgN F7) (sN 2 (Y6 (sN 1 (bV (.loop [(10,11),(12,13),(50,64)] ⟨[(10,eX),(50,H6)],[]⟩ 0 ⟨[(10,eX)],[]⟩ F7))) F7)))⟩
def s26:FSpec:=V4 q26 λx=>oL x.1 x.2.1 x.2.2
def nM(A:ni):Option (List (List UInt8×kJ)):=l7 (af (λ(x:List (List UInt8×kJ)×Int)=>l9 (J4 x.2 (x9 A.2.2)) (l7 (J3 A.2.2 x.2) λc=>l9 (DZ (λ(a b:List UInt8)=>seq a b) x.1 c.1) (some (.inl (x.1,D5 .i64 x.2 1))) (l7 (af (λ(x:List (List UInt8×Int)×Int)=>l9 (J4 x.2 (x9 c.2.2.2.2)) (l7 (J3 c.2.2.2.2 x.2) λd=>l9 (F5 (DZ (λ(a b:List UInt8)=>seq a b) x.1 d.1)) (some (.inl (zI (λ(a b:List UInt8)=>seq a b) x.1 d.1 x.2,D5 .i64 x.2 1))) (some (.inl (x.1,D5 .i64 x.2 1)))) (some (.inr x.1))) ([],0)) λy=>some (.inl (zI (λ(a b:List UInt8)=>seq a b) x.1 c.1 (c,y),D5 .i64 x.2 1)))) (some (.inr x.1))) ([],0)) λy=>some y
def q48:FQ:=⟨[tD y36],tR 2 (false,(oW (.ent false true .str y51))),mE 60 [],sN 2 (Y6 (sN 1 (bV (.loop [(3,4),(5,13),(17,59),(7000832,7000833)] ⟨[(3,(false,(oW (.ent false true .str y51)))),(17,H6)],[]⟩ 0 ⟨[(3,(false,(oW (.ent false true .str y51))))],[]⟩ (sN 2 (Y6 (bV (sN 3 (Y6 (sN 1 (bV (.loop [(8,13),(33,52),(40001856,40001857)] ⟨[(8,(false,(oW (.ent false false .str (.int .i64))))),(33,H6)],[]⟩ 2 ⟨[(8,(false,(oW (.ent false false .str (.int .i64)))))],[]⟩ F7))) F7))) F7))))) F7)⟩
def s48:FSpec:=V4 q48 λx=>nM x
def iq(A:List (List UInt8×kJ))(B:List UInt8)(C:List UInt8):Option (aJ×Int×Bool):=l9 (F5 (DZ (λ(a b:List UInt8)=>seq a b) A B)) (some (([],0,[],[],[]),0,false)) (l9 (F5 (DZ (λ(a b:List UInt8)=>seq a b) (lN (λ(a b:List UInt8)=>seq a b) A B (([],0,[],[],[]),[])).2 C)) (some (([],0,[],[],[]),0,false)) (some ((lN (λ(a b:List UInt8)=>seq a b) A B (([],0,[],[],[]),[])).1,lN (λ(a b:List UInt8)=>seq a b) (lN (λ(a b:List UInt8)=>seq a b) A B (([],0,[],[],[]),[])).2 C 0,true)))
def q49:FQ:=⟨[uD y52,(uD .str),(uD .str)],⟨[(.cell 6 74,tD y33),(.tmp 7,H6),(.tmp 8,dn)],[]⟩,mE 34 [],F7⟩
def s49:FSpec:=V4 q49 λx=>iq x.1 x.2.1 x.2.2
def jS(A:aJ)(B:tX):Option yF:=l7 (l9 (bG 0 B.2.1) (l9 (J4 B.2.1 (x9 A.2.2.2.1)) (l7 (J3 A.2.2.2.1 B.2.1) λx=>some (x.1,[],B.2.2.2.1,B.2.2.2.2.1,B.2.2.2.2.2.2.2)) (some ([],[],B.2.2.2.1,B.2.2.2.2.1,B.2.2.2.2.2.2.2))) (some ([],[],B.2.2.2.1,B.2.2.2.2.1,B.2.2.2.2.2.2.2))) λx=>l9 (bG 0 B.2.2.1) (l9 (J4 B.2.2.1 (x9 A.2.2.2.2)) (l7 (J3 A.2.2.2.2 B.2.2.1) λb=>some (x.1,b.1,x.2.2)) (some x)) (some x)
def q77:FQ:=⟨[tD y33,tD y28],cR 4 178 (tD y67),mE 52 [],sN 2 (Y6 (.join [(5,6),(13,32),(7000320,7000321)] ⟨[(5,(false,(.box (dT y67))))],[]⟩ F7) F7)⟩
def s77:FSpec:=V4 q77 λx=>jS x.1 x.2
def dM(A:List L8)(B:List L8):Option Bool:=l9 (F5 (o8 (x9 A) (x9 B))) (some false) (l7 (Z4 (λ(x:Int)=>l9 (J4 x (x9 A)) (l7 (J3 A x) λb=>l7 (J3 B x) λc=>l9 (F5 (U2 (o8 b.1 c.1) (o8 b.2 c.2))) (some (.rt false)) (some (.nx (D5 .i64 x 1)))) (some (.ex ()))) 0) λo=>Y9 o (λy=>some true) λr=>some r)
def q78:FQ:=⟨[uD y21,uD y21],tR 4 dn,mE 26 [],sN 2 (Y6 (sN 1 (bV (lpR [(4,6),(13,26)] ⟨[(13,H6)],[]⟩ 0 sgN F7))) F7)⟩
def s78:FSpec:=V4 q78 λx=>dM x.1 x.2
def uw(A:aJ)(B:Int)(C:aJ)(D:Int):Option Bool:=l7 (J3 A.2.2.2.2 B) λx=>l7 (J3 C.2.2.2.2 D) λd=>l7 (jS A x) λb=>l7 (jS C d) λc=>l9 (U2 (seq b.1 c.1) (U2 (seq b.2.1 c.2.1) (U2 (o8 b.2.2.1 c.2.2.1) (U2 (o8 b.2.2.2.1.1 c.2.2.2.1.1) (U2 (o8 b.2.2.2.1.2 c.2.2.2.1.2) (seq b.2.2.2.2 c.2.2.2.2)))))) (l7 (dM x.2.2.2.2.2.1 d.2.2.2.2.2.1) λf=>l9 f (l7 (dM x.2.2.2.2.2.2.1 d.2.2.2.2.2.2.1) λx=>some x) (some false)) (some false)
def q50:FQ:=⟨[tD y33,H6,tD y33,H6],tR 8 dn,mE 42 [(77,s77),(78,s78)],F7⟩
def s50:FSpec:=V4 q50 λx=>uw x.1 x.2.1 x.2.2.1 x.2.2.2
end
end Gt
open Go Go.GP
namespace Gt
set_option maxRecDepth 100000
noncomputable section
def ou(A:ni)(B:ni):Option (List F8):=l7 (nM A) λx=>l7 (nM B) λg=>l7 (af (λ(x:List F8×Int)=>l9 (J4 x.2 (x9 A.2.2)) (l7 (J3 A.2.2 x.2) λb=>l7 (af (λ(x:List F8×Int)=>l9 (J4 x.2 (x9 b.2.2.2.2)) (l7 (J3 b.2.2.2.2 x.2) λd=>l7 (iq g b.1 d.1) λc=>l9 (F5 c.2.2) (l7 (bi x.1 [(b.1,d.1,1)]) λf=>some (.inl (f,D5 .i64 x.2 1))) (l7 (uw b x.2 c.1 c.2.1) λf=>l9 (F5 f) (l7 (bi x.1 [(b.1,d.1,3)]) λi=>some (.inl (i,D5 .i64 x.2 1))) (some (.inl (x.1,D5 .i64 x.2 1))))) (some (.inr x.1))) (x.1,0)) λy=>some (.inl (y,D5 .i64 x.2 1))) (some (.inr x.1))) ([],0)) λy=>l7 (af (λ(b:List F8×Int)=>l9 (J4 b.2 (x9 B.2.2)) (l7 (J3 B.2.2 b.2) λd=>l7 (af (λ(c:List F8×Int)=>l9 (J4 c.2 (x9 d.2.2.2.2)) (l7 (J3 d.2.2.2.2 c.2) λf=>l7 (iq x d.1 f.1) λx=>l9 (F5 x.2.2) (l7 (bi c.1 [(d.1,f.1,2)]) λx=>some (.inl (x,D5 .i64 c.2 1))) (some (.inl (c.1,D5 .i64 c.2 1)))) (some (.inr c.1))) (b.1,0)) λy=>some (.inl (y,D5 .i64 b.2 1))) (some (.inr b.1))) (y,0)) λy=>some y
def q27:FQ:=⟨[tD y36,tD y36],tR 4 (uO y3),mE 114 [(48,s48),(49,s49),(50,s50)],sN 3 (Y6 (sN 1 (bV (.loop [(7,8),(9,15),(29,77)] ⟨[(7,(uO y3)),(29,H6)],[]⟩ 0 ⟨[(7,(uO y3))],[]⟩ (sN 2 (Y6 (bV (sN 2 (bV (.loop [(7,8),(10,15),(36,76),(17000000,17000001)] ⟨[(7,(uO y3)),(36,H6)],[]⟩ 2 ⟨[(7,(uO y3))],[]⟩ F7)))) F7))))) (Y6 (sN 1 (bV (.loop [(7,8),(16,17),(18,22),(80,113),(18000000,18000001)] ⟨[(7,(uO y3)),(80,H6)],[]⟩ 4 ⟨[(7,(uO y3))],[]⟩ (sN 2 (Y6 (bV (sN 2 (bV (.loop [(7,8),(18,22),(87,112),(76000000,76000001)] ⟨[(7,(uO y3)),(87,H6)],[]⟩ 6 ⟨[(7,(uO y3))],[]⟩ F7)))) F7))))) F7))⟩
def s27:FSpec:=V4 q27 λx=>ou x.1 x.2
def wV(A:ni)(B:ni)(C:Int)(D:Es)(E:Int):Option (U8×Int):=l7 (l7 (pU A) λx=>l9 (F5 (U2 (o8 x.1 0) (U2 (o8 x.2.1 0) (U2 (o8 x.2.2.1 0) (o8 x.2.2.2 0))))) (some (.inr (((0,0,0),(0,0,0),0,0,[]),1))) (l7 (pU B) λx=>l9 (F5 (U2 (o8 x.1 0) (U2 (o8 x.2.1 0) (U2 (o8 x.2.2.1 0) (o8 x.2.2.2 0))))) (some (.inr (((0,0,0),(0,0,0),0,0,[]),1))) (some (.inl ((0,0,0),(0,0,0),0,0,[]))))) λo=>Y9 o (λ(x:U8)=>l7 (l9 (J4 C 0) (some (.inr (((0,0,0),(0,0,0),0,0,[]),6))) (l9 (bG (x9 A.2.2) C) (some (.inr (((0,0,0),(0,0,0),0,0,[]),6))) (l9 (J4 E 0) (some (.inr (((0,0,0),(0,0,0),0,0,[]),6))) (l7 (J3 A.2.2 C) λf=>l9 (bG (x9 f.2.2.2.1) E) (some (.inr (((0,0,0),(0,0,0),0,0,[]),6))) (some (.inl x)))))) λo=>Y9 o (λ(x:U8)=>l7 (mZ A B) λx=>l9 (F5 x) (some (((0,0,0),(0,0,0),0,0,[]),8)) (l7 (oK A C D E) λx=>l7 (oK B C D E) λf=>l7 (oL A C E) λj=>l7 (oL B C E) λi=>l7 (ou A B) λg=>l7 (af (λ(x:U8×Int)=>l9 (J4 x.2 (x9 g)) (l7 (J3 g x.2) λk=>l7 (V7 g (V8 x.2)) λc=>l9 (F5 (o8 c.2.2 2)) (l9 (lN (λ(a b:bK)=>U2 (seq a.1 b.1) (seq a.2 b.2)) j (c.1,c.2.1) false) (l7 (bi x.1.2.2.2.2 [c]) λd=>some (.inl ((x.1.1,x.1.2.1,x.1.2.2.1,x.1.2.2.2.1,d),D5 .i64 x.2 1))) (l9 (F5 (o8 c.2.2 1)) (l9 (lN (λ(a b:bK)=>U2 (seq a.1 b.1) (seq a.2 b.2)) i (c.1,c.2.1) false) (l7 (bi x.1.2.2.2.2 [c]) λd=>some (.inl ((x.1.1,x.1.2.1,x.1.2.2.1,x.1.2.2.2.1,d),D5 .i64 x.2 1))) (some (.inl (x.1,D5 .i64 x.2 1)))) (some (.inl (x.1,D5 .i64 x.2 1))))) (l9 (F5 (o8 c.2.2 1)) (l9 (lN (λ(a b:bK)=>U2 (seq a.1 b.1) (seq a.2 b.2)) i (c.1,c.2.1) false) (l7 (bi x.1.2.2.2.2 [c]) λd=>some (.inl ((x.1.1,x.1.2.1,x.1.2.2.1,x.1.2.2.2.1,d),D5 .i64 x.2 1))) (some (.inl (x.1,D5 .i64 x.2 1)))) (some (.inl (x.1,D5 .i64 x.2 1))))) (some (.inr x.1))) ((x.1,f.1,x.2,f.2,[]),0)) λy=>some (y,0))) λr=>some r) λr=>some r
def q18:FQ:=⟨[tD y36,tD y36,H6,tD y40,H6],⟨[(.cell 10 35,tD y8),(.tmp 11,H6)],[]⟩,mE 126 [(23,s23),(24,s24),(25,s25),(26,s26),(27,s27)],sN 1 (Y6 (jnR [(10,12),(18,29),(4000640,4000641)] ⟨[(10,(false,(.box (dT y8))))],[]⟩ F7) (Y6 (jnR [(10,12),(29,54),(6000000,6000001)] ⟨[(10,(false,(.box (dT y8))))],[]⟩ F7) (sN 5 (Y6 (sN 1 (bV (.loop [(12,13),(16,18),(91,125),(37000768,37000769)] ⟨[(12,(false,(.box (pA (dT y1) (pA (dT y1) (pA diM (pA diM (oW y3)))))))),(91,H6)],[]⟩ 0 ⟨[(12,(false,(.box (pA (dT y1) (pA (dT y1) (pA diM (pA diM (oW y3))))))))],[]⟩ F7))) F7))))⟩
def s18:FSpec:=V4 q18 λx=>wV x.1 x.2.1 x.2.2.1 x.2.2.2.1 x.2.2.2.2
def gm(A:U8):Option Bool:=l9 (o8 A.2.2.1 0) (l9 (o8 A.2.2.2.1 0) (some (F5 (U2 (o8 A.1.1 A.2.1.1) (U2 (o8 A.1.2.1 A.2.1.2.1) (o8 A.1.2.2 A.2.1.2.2))))) (l9 (o8 A.2.2.1 0) (some true) (some (o8 A.2.2.2.1 0)))) (l9 (o8 A.2.2.1 0) (some true) (some (o8 A.2.2.2.1 0)))
def q13:FQ:=⟨[tD y8],tR 2 dn,mE 24 [],F7⟩
def s13:FSpec:=V4 q13 λx=>gm x
def sS(A:U8):Option bY:=l7 (l7 (gm A) λx=>l9 x (some (1,1,0,0,0,0,0)) (some (1,0,0,0,0,0,0))) λx=>l7 (l7 (l9 (o8 A.2.2.1 0) (some (F5 (o8 A.2.2.2.1 0))) (some false)) λb=>l9 b (some (x.1,x.2.1,x.2.2.1,x.2.2.2.1,1,x.2.2.2.2.2)) (l9 (F5 (o8 A.2.2.1 0)) (some x) (l9 (F5 (o8 A.2.2.2.1 0)) (some x) (l9 (J4 A.1.2.2 A.2.1.2.2) (some (x.1,x.2.1,1,x.2.2.2)) (l9 (J4 A.2.1.2.2 A.1.2.2) (some (x.1,x.2.1,x.2.2.1,1,x.2.2.2.2)) (some x)))))) λx=>some x
def q28:FQ:=⟨[tD y8],cR 2 50 (tD y44),mE 46 [(13,s13)],sN 2 (Y6 (.join [(3,4),(5,8),(7000192,7000193)] ⟨[(3,(false,(.box (dT y44))))],[]⟩ F7) (Y6 (.join [(3,4),(8,45),(9000000,9000001)] ⟨[(3,(false,(.box (dT y44))))],[]⟩ (bV (Y6 (.join [(8,17)] ⟨[(8,dn)],[]⟩ F7) F7))) F7))⟩
def s28:FSpec:=V4 q28 λx=>sS x
def xN(A:bY)(B:bY):Option bY:=some (D5 .i64 A.1 B.1,D5 .i64 A.2.1 B.2.1,D5 .i64 A.2.2.1 B.2.2.1,D5 .i64 A.2.2.2.1 B.2.2.2.1,D5 .i64 A.2.2.2.2.1 B.2.2.2.2.1,A.2.2.2.2.2)
def q29:FQ:=⟨[tD y44,tD y44],cR 4 50 (tD y44),mE 36 [],F7⟩
def s29:FSpec:=V4 q29 λx=>xN x.1 x.2
def Cb(A:List Int):Option L8:=l7 (Z4 (λ(x:L8)=>l9 (J4 x.2 (x9 A)) (l7 (J3 A x.2) λb=>l7 (dV b 1000000000000000) λc=>l9 c (some (.rt (0,3))) (l7 (dV (D5 .i64 x.1 b) 1000000000000000) λd=>l9 d (some (.rt (0,3))) (some (.nx (D5 .i64 x.1 b,D5 .i64 x.2 1))))) (some (.ex x.1))) (0,0)) λo=>Y9 o (λy=>some (y,0)) λr=>some r
def q30:FQ:=⟨[uD y10],⟨[(.tmp 2,H6),(.tmp 3,H6)],[]⟩,mE 22 [(51,s51)],sN 2 (Y6 (sN 1 (bV (lpR [(2,5),(6,7),(9,21)] ⟨[(4,H6),(9,H6)],[]⟩ 0 ⟨[(4,H6)],[]⟩ F7))) F7)⟩
def s30:FSpec:=V4 q30 λx=>Cb x
def xO(A:List U8):Option (bY×Int):=l7 (af (λ(x:bY×List Int×List Int×Int)=>l9 (J4 x.2.2.2 (x9 A)) (l7 (l7 (J3 A x.2.2.2) λb=>l7 (l7 (sS b) λc=>l9 (U2 (o8 c.1 1) (U2 (o8 c.2.1 0) (U2 (o8 c.2.2.1 0) (U2 (o8 c.2.2.2.1 0) (U2 (o8 c.2.2.2.2.1 0) (U2 (o8 c.2.2.2.2.2.1 0) (o8 c.2.2.2.2.2.2 0))))))) (some (D5 .i64 x.1.1 1,x.1.2)) (l7 (xN x.1 c) λx=>some x)) λc=>l7 (l9 (o8 b.2.2.1 0) (l9 (o8 b.1.1 3) (l7 (bi x.2.1 [b.1.2.2]) λx=>some x) (some x.2.1)) (some x.2.1)) λd=>l9 (o8 b.2.2.2.1 0) (l9 (o8 b.2.1.1 3) (l7 (bi x.2.2.1 [b.2.1.2.2]) λx=>some (c,d,x)) (some (c,d,x.2.2.1))) (some (c,d,x.2.2.1))) λb=>some (.inl (b.1,b.2.1,b.2.2,D5 .i64 x.2.2.2 1))) (some (.inr (x.1,x.2.1,x.2.2.1)))) ((0,0,0,0,0,0,0),[],[],0)) λy=>l7 (Cb y.2.1) λx=>l7 (Cb y.2.2) λb=>l9 (F5 (o8 x.2 0)) (some ((0,0,0,0,0,0,0),3)) (l9 (F5 (o8 b.2 0)) (some ((0,0,0,0,0,0,0),3)) (some ((y.1.1,y.1.2.1,y.1.2.2.1,y.1.2.2.2.1,y.1.2.2.2.2.1,x.1,b.1),0)))
def q19:FQ:=⟨[uD y9],⟨[(.cell 2 50,tD y44),(.tmp 3,H6)],[]⟩,mE 87 [(28,s28),(29,s29),(30,s30)],sN 4 (Y6 (sN 1 (bV (.loop [(4,7),(9,11),(18,65),(7000256,7000257)] ⟨[(4,(false,(.box (dT y44)))),(5,eX),(6,eX),(18,H6)],[]⟩ 0 ⟨[(4,(false,(.box (dT y44)))),(5,eX),(6,eX)],[]⟩ (sN 2 (Y6 (.join [(4,7),(9,11),(20,64),(20000000,20000003)] ⟨[(4,(false,(.box (dT y44)))),(5,eX),(6,eX)],[]⟩ (bV (sN 1 (Y6 (.join [(4,5),(10,11),(22,34),(20000000,20000001)] ⟨[(4,(false,(.box (dT y44))))],[]⟩ F7) (Y6 (.join [(5,6),(34,49),(20000001,20000002)] ⟨[(5,eX)],[]⟩ F7) F7))))) F7))))) F7)⟩
def s19:FSpec:=V4 q19 λx=>xO x
def xM(A:ni)(B:ni)(C:Int)(D:List Es)(E:Int):Option (List U8×bY×Int):=l9 (qY 0 (x9 D) 1073741824) (l7 (qL 0 ((0,0,0),(0,0,0),0,0,[])) λx=>l7 (Z4 (λ(x:bY×List U8×Int)=>l9 (J4 x.2.2 (x9 D)) (l7 (J3 D x.2.2) λc=>l7 (wV A B C c E) λb=>l9 (F5 (o8 b.2 0)) (some (.rt ([],(0,0,0,0,0,0,0),b.2))) (l7 (bi x.2.1 [b.1]) λd=>some (.nx (x.1,d,D5 .i64 x.2.2 1)))) (some (.ex (x.1,x.2.1)))) ((0,0,0,0,0,0,0),x,0)) λo=>Y9 o (λ(y:bY×List U8)=>l7 (xO y.2) λx=>l9 (F5 (o8 x.2 0)) (some ([],(0,0,0,0,0,0,0),x.2)) (some (y.2,x.1,0))) λr=>some r) none
def q11:FQ:=⟨[tD y36,tD y36,H6,uD y45,H6],⟨[(.tmp 10,uO y8),(.cell 11 50,tD y44),(.tmp 12,H6)],[]⟩,mE 58 [(18,s18),(19,s19)],sN 2 (Y6 (sN 1 (bV (lpR [(10,14),(15,18),(25,47),(4000704,4000705),(7001408,7001409)] ⟨[(11,(false,(.box (dT y44)))),(13,(uO y8)),(25,H6)],[]⟩ 0 ⟨[(11,(false,(.box (dT y44)))),(13,(uO y8))],[]⟩ F7))) F7)⟩
def s11:FSpec:=V4 q11 λx=>xM x.1 x.2.1 x.2.2.1 x.2.2.2.1 x.2.2.2.2
def a2t:List MG:=[H6]
def s31:FSpec:=⟨a2t,[(false,(.dat .str))],[],λx=>zU x⟩
def Y5(A:Int):Option (List UInt8):=l7 (zU A) λx=>some x
def q20:FQ:=⟨[H6],tR 2 (uD .str),mE 5 [(31,s31)],F7⟩
def s20:FSpec:=V4 q20 λx=>Y5 x
def pI(A:Int):Option Int:=some (um 0 (Aq A 9))
def q32:FQ:=⟨[H6],tR 2 H6,mE 6 [],F7⟩
def s32:FSpec:=V4 q32 λx=>pI x
def a2u:List MG:=[(false,(.dat .str)),H6]
def s33:FSpec:=⟨a2u,[(false,(.dat .str))],[],λx=>ng x.1 x.2⟩
def fE(A:Int)(B:Int):Option (List UInt8):=l7 (pI B) λx=>l7 (Y5 A) λc=>l9 (o8 x 0) (some c) (l9 (J4 A 0) (l7 (oM c 1 (x9 c)) λb=>l9 (bG (x9 b) x) (l7 (ng [48] (J7 .i64 (D5 .i64 x 1) (x9 b))) λd=>l7 (jf d b) λf=>l7 (oM f 0 (J7 .i64 (x9 f) x)) λg=>l7 (jf [45] g) λi=>l7 (jf i [46]) λj=>l7 (oM f (J7 .i64 (x9 f) x) (x9 f)) λx=>l7 (jf j x) λx=>some x) (l7 (oM b 0 (J7 .i64 (x9 b) x)) λd=>l7 (jf [45] d) λf=>l7 (jf f [46]) λg=>l7 (oM b (J7 .i64 (x9 b) x) (x9 b)) λx=>l7 (jf g x) λx=>some x)) (l9 (bG (x9 c) x) (l7 (ng [48] (J7 .i64 (D5 .i64 x 1) (x9 c))) λb=>l7 (jf b c) λd=>l7 (oM d 0 (J7 .i64 (x9 d) x)) λf=>l7 (jf [] f) λg=>l7 (jf g [46]) λi=>l7 (oM d (J7 .i64 (x9 d) x) (x9 d)) λx=>l7 (jf i x) λx=>some x) (l7 (oM c 0 (J7 .i64 (x9 c) x)) λb=>l7 (jf [] b) λd=>l7 (jf d [46]) λf=>l7 (oM c (J7 .i64 (x9 c) x) (x9 c)) λx=>l7 (jf f x) λx=>some x)))
def q21:FQ:=⟨[H6,H6],tR 4 (uD .str),mE 45 [(32,s32),(20,s20),(33,s33)],F7⟩
def s21:FSpec:=V4 q21 λx=>fE x.1 x.2
def BD(A:Int)(B:L8)(C:List og):Option Bool:=l7 (kF B C) λx=>l9 (bG x.1 A) (some (bG A x.2)) (some false)
def q86:FQ:=⟨[H6,tD y0,uD y12],tR 6 dn,mE 23 [(89,s89)],F7⟩
def s86:FSpec:=V4 q86 λx=>BD x.1 x.2.1 x.2.2
def Ac(A:Int)(B:Int):Option (List UInt8):=l7 (Y5 A) λx=>l7 (ng [48] (um 0 (J7 .i64 B (x9 x)))) λb=>l7 (jf b x) λx=>some x
def YT:FQ:=⟨[H6,H6],tR 4 (uD .str),mE 16 [(20,s20),(33,s33)],F7⟩
def Y_:FSpec:=V4 YT λx=>Ac x.1 x.2
def Df(A:Int):Option (List UInt8):=l7 (nG A) λx=>l9 (F5 x) (some []) (l7 (nC A) λx=>l7 (Ac x.1 4) λb=>l7 (jf b [45]) λc=>l7 (Ac x.2.1 2) λd=>l7 (jf c d) λf=>l7 (jf f [45]) λg=>l7 (Ac x.2.2 2) λx=>l7 (jf g x) λx=>some x)
def q87:FQ:=⟨[H6],tR 2 (uD .str),mE 25 [(120,RG),(121,RH),(122,Y_)],F7⟩
def s87:FSpec:=V4 q87 λx=>Df x
def BC(A:O9)(B:List og):Option (List UInt8×Int):=l7 (bI (A.1,A.2.1) B) λx=>l9 (F5 x) (some ([],8)) (l7 (BD A.2.2 (A.1,A.2.1) B) λx=>l9 (F5 x) (some ([],3)) (l9 (o8 A.1 1) (l9 (o8 A.2.2 0) (some ([102,97,108,115,101],0)) (some ([116,114,117,101],0))) (l9 (o8 A.1 2) (l7 (Y5 A.2.2) λx=>some (x,0)) (l9 (o8 A.1 3) (l7 (fE A.2.2 2) λx=>some (x,0)) (l9 (o8 A.1 4) (l7 (fE A.2.2 4) λx=>l7 (jf x [37]) λx=>some (x,0)) (l9 (o8 A.1 5) (l7 (Df A.2.2) λx=>some (x,0)) (l7 (J3 B A.2.1) λx=>l7 (J3 x.2 A.2.2) λx=>some (x,0))))))))
def q59:FQ:=⟨[tD y1,uD y12],⟨[(.tmp 4,(uD .str)),(.tmp 5,H6)],[]⟩,mE 60 [(85,s85),(86,s86),(20,s20),(21,s21),(87,s87)],F7⟩
def s59:FSpec:=V4 q59 λx=>BC x.1 x.2
def oQ(A:O9)(B:Int)(C:List og):Option (List UInt8):=l9 (F5 (o8 B 0)) (l7 (Y5 B) λx=>l7 (jf [101,114,114,111,114,32] x) λx=>some x) (l7 (BC A C) λx=>l9 (F5 (o8 x.2 0)) (some [63]) (some x.1))
def q34:FQ:=⟨[tD y1,H6,uD y12],tR 6 (uD .str),mE 23 [(20,s20),(59,s59)],F7⟩
def s34:FSpec:=V4 q34 λx=>oQ x.1 x.2.1 x.2.2
def wC(A:U8)(B:List og):Option (List UInt8):=l7 (oQ A.1 A.2.2.1 B) λx=>l7 (jf x [32,45,62,32]) λx=>l7 (oQ A.2.1 A.2.2.2.1 B) λi=>l7 (jf x i) λx=>l7 (af (λ(x:List Int×Int)=>l9 (J4 x.2 (x9 A.2.2.2.2)) (l7 (J3 A.2.2.2.2 x.2) λb=>l9 (o8 x.2 0) (l7 (bi x.1 (xg [32,98,121,32])) λc=>l7 (bi c (xg b.1)) λd=>l7 (bi d [46]) λf=>l7 (bi f (xg b.2.1)) λg=>some (.inl (g,D5 .i64 x.2 1))) (l7 (bi x.1 (xg [44,32])) λc=>l7 (bi c (xg b.1)) λd=>l7 (bi d [46]) λf=>l7 (bi f (xg b.2.1)) λg=>some (.inl (g,D5 .i64 x.2 1)))) (some (.inr x.1))) (xg x,0)) λy=>some (OE y)
def q22:FQ:=⟨[tD y8,uD y12],tR 4 (uD .str),mE 53 [(34,s34)],sN 3 (Y6 (sN 1 (bV (.loop [(6,9),(28,51),(10001536,10001537)] ⟨[(6,(false,(oW (.int .u8)))),(28,H6)],[]⟩ 0 ⟨[(6,(false,(oW (.int .u8))))],[]⟩ F7))) F7)⟩
def s22:FSpec:=V4 q22 λx=>wC x.1 x.2
def sQ(A:List U8)(B:bY)(C:List og):Option (List (List UInt8)):=l7 (Y5 B.1) λx=>l7 (jf [99,97,115,101,115,32] x) λx=>l7 (jf x [32,99,104,97,110,103,101,100,32]) λx=>l7 (Y5 B.2.1) λc=>l7 (jf x c) λx=>l7 (jf x [32,103,97,105,110,101,100,32]) λx=>l7 (Y5 B.2.2.1) λq=>l7 (jf x q) λx=>l7 (jf x [32,114,101,100,117,99,101,100,32]) λx=>l7 (Y5 B.2.2.2.1) λt=>l7 (jf x t) λx=>l7 (jf x [32,102,97,105,108,101,100,32]) λx=>l7 (Y5 B.2.2.2.2.1) λu=>l7 (jf x u) λx=>l7 (fE B.2.2.2.2.2.1 2) λv=>l7 (jf [111,108,100,32] v) λw=>l7 (jf w [32,110,101,119,32]) λz=>l7 (fE B.2.2.2.2.2.2 2) λh=>l7 (jf z h) λm=>l9 (qY 2 (D5 .i64 2 (x9 A)) 1073741824) (l7 (qL 2 []) λd=>l7 (af (λ(x:List (List UInt8)×Int)=>l9 (J4 x.2 (x9 A)) (l7 (J3 A x.2) λb=>l7 (gm b) λf=>l9 f (l7 (Y5 x.2) λg=>l7 (jf [99,97,115,101,32] g) λi=>l7 (jf i [58,32]) λj=>l7 (wC b C) λk=>l7 (jf j k) λn=>l7 (bi x.1 [n]) λp=>some (.inl (p,D5 .i64 x.2 1))) (some (.inl (x.1,D5 .i64 x.2 1)))) (some (.inr x.1))) (yU d [x,m],0)) λy=>some y) none
def q12:FQ:=⟨[uD y9,tD y44,uD y12],tR 6 (uO .str),mE 74 [(20,s20),(21,s21),(13,s13),(22,s22)],sN 4 (Y6 (sN 1 (bV (.loop [(8,11),(54,73),(10003072,10003073)] ⟨[(8,(uO .str)),(54,H6)],[]⟩ 0 ⟨[(8,(uO .str))],[]⟩ F7))) F7)⟩
def s12:FSpec:=V4 q12 λx=>sQ x.1 x.2.1 x.2.2
def dH(A:U8):Option Int:=l9 (F5 (o8 A.2.2.1 0)) (some 0) (l9 (F5 (o8 A.2.2.2.1 0)) (some 0) (l9 (F5 (o8 A.1.1 3)) (some 0) (l9 (F5 (o8 A.2.1.1 3)) (some 0) (some (J7 .i64 A.2.1.2.2 A.1.2.2)))))
def q14:FQ:=⟨[tD y8],tR 2 H6,mE 30 [],F7⟩
def s14:FSpec:=V4 q14 λx=>dH x
def iI(A:List U8):Option (List F8×List Int×List Int):=l7 (af (λ(x:List F8×List Int×List Int×List Int×List (F8×Int)×Int)=>l9 (J4 x.2.2.2.2.2 (x9 A)) (l7 (J3 A x.2.2.2.2.2) λj=>l7 (gm j) λs=>l9 (F5 s) (some (.inl (x.1,x.2.1,x.2.2.1,x.2.2.2.1,x.2.2.2.2.1,D5 .i64 x.2.2.2.2.2 1))) (l7 (af (λ(c:List F8×List Int×List Int×List Int×List (F8×Int)×Int)=>l9 (J4 c.2.2.2.2.2 (x9 j.2.2.2.2)) (l7 (J3 j.2.2.2.2 c.2.2.2.2.2) λd=>l9 (F5 (DZ (λ(a b:F8)=>U2 (seq a.1 b.1) (U2 (seq a.2.1 b.2.1) (o8 a.2.2 b.2.2))) c.2.2.2.2.1 d)) (l7 (bi c.1 [d]) λp=>l7 (bi c.2.1 [0]) λf=>l7 (bi c.2.2.1 [0]) λg=>l7 (bi c.2.2.2.1 [-1]) λi=>l7 (J3 i (x9 c.1)) λx_9=>l7 (V7 i (V8 (x9 c.1))) λk=>l9 (o8 k x.2.2.2.2.2) (some (.inl (p,f,g,i,zI (λ(a b:F8)=>U2 (seq a.1 b.1) (U2 (seq a.2.1 b.2.1) (o8 a.2.2 b.2.2))) c.2.2.2.2.1 d (x9 c.1),D5 .i64 c.2.2.2.2.2 1))) (l7 (J3 i (x9 c.1)) λt=>l7 (V7 i (V8 (x9 c.1))) λu=>l7 (J3 f (x9 c.1)) λv=>l7 (V7 f (V8 (x9 c.1))) λn=>l7 (J3 f (x9 c.1)) λq=>l7 (V7 f (V8 (x9 c.1))) λw=>l7 (J3 g (x9 c.1)) λz=>l7 (V7 g (V8 (x9 c.1))) λh=>l7 (dH j) λm=>l7 (J3 g (x9 c.1)) λx_20=>l7 (V7 g (V8 (x9 c.1))) λx_21=>some (.inl (p,Z9 f (V8 (x9 c.1)) (D5 .i64 n 1),Z9 g (V8 (x9 c.1)) (D5 .i64 h m),Z9 i (V8 (x9 c.1)) x.2.2.2.2.2,zI (λ(a b:F8)=>U2 (seq a.1 b.1) (U2 (seq a.2.1 b.2.1) (o8 a.2.2 b.2.2))) c.2.2.2.2.1 d (x9 c.1),D5 .i64 c.2.2.2.2.2 1)))) (l7 (J3 c.2.2.2.1 (lN (λ(a b:F8)=>U2 (seq a.1 b.1) (U2 (seq a.2.1 b.2.1) (o8 a.2.2 b.2.2))) c.2.2.2.2.1 d 0)) λp=>l7 (V7 c.2.2.2.1 (V8 (lN (λ(a b:F8)=>U2 (seq a.1 b.1) (U2 (seq a.2.1 b.2.1) (o8 a.2.2 b.2.2))) c.2.2.2.2.1 d 0))) λf=>l9 (o8 f x.2.2.2.2.2) (some (.inl (c.1,c.2.1,c.2.2.1,c.2.2.2.1,c.2.2.2.2.1,D5 .i64 c.2.2.2.2.2 1))) (l7 (J3 c.2.2.2.1 (lN (λ(a b:F8)=>U2 (seq a.1 b.1) (U2 (seq a.2.1 b.2.1) (o8 a.2.2 b.2.2))) c.2.2.2.2.1 d 0)) λg=>l7 (V7 c.2.2.2.1 (V8 (lN (λ(a b:F8)=>U2 (seq a.1 b.1) (U2 (seq a.2.1 b.2.1) (o8 a.2.2 b.2.2))) c.2.2.2.2.1 d 0))) λi=>l7 (J3 c.2.1 (lN (λ(a b:F8)=>U2 (seq a.1 b.1) (U2 (seq a.2.1 b.2.1) (o8 a.2.2 b.2.2))) c.2.2.2.2.1 d 0)) λx_9=>l7 (V7 c.2.1 (V8 (lN (λ(a b:F8)=>U2 (seq a.1 b.1) (U2 (seq a.2.1 b.2.1) (o8 a.2.2 b.2.2))) c.2.2.2.2.1 d 0))) λk=>l7 (J3 c.2.1 (lN (λ(a b:F8)=>U2 (seq a.1 b.1) (U2 (seq a.2.1 b.2.1) (o8 a.2.2 b.2.2))) c.2.2.2.2.1 d 0)) λt=>l7 (V7 c.2.1 (V8 (lN (λ(a b:F8)=>U2 (seq a.1 b.1) (U2 (seq a.2.1 b.2.1) (o8 a.2.2 b.2.2))) c.2.2.2.2.1 d 0))) λu=>l7 (J3 c.2.2.1 (lN (λ(a b:F8)=>U2 (seq a.1 b.1) (U2 (seq a.2.1 b.2.1) (o8 a.2.2 b.2.2))) c.2.2.2.2.1 d 0)) λv=>l7 (V7 c.2.2.1 (V8 (lN (λ(a b:F8)=>U2 (seq a.1 b.1) (U2 (seq a.2.1 b.2.1) (o8 a.2.2 b.2.2))) c.2.2.2.2.1 d 0))) λn=>l7 (dH j) λq=>l7 (J3 c.2.2.1 (lN (λ(a b:F8)=>U2 (seq a.1 b.1) (U2 (seq a.2.1 b.2.1) (o8 a.2.2 b.2.2))) c.2.2.2.2.1 d 0)) λw=>l7 (V7 c.2.2.1 (V8 (lN (λ(a b:F8)=>U2 (seq a.1 b.1) (U2 (seq a.2.1 b.2.1) (o8 a.2.2 b.2.2))) c.2.2.2.2.1 d 0))) λz=>some (.inl (c.1,Z9 c.2.1 (V8 (lN (λ(a b:F8)=>U2 (seq a.1 b.1) (U2 (seq a.2.1 b.2.1) (o8 a.2.2 b.2.2))) c.2.2.2.2.1 d 0)) (D5 .i64 k 1),Z9 c.2.2.1 (V8 (lN (λ(a b:F8)=>U2 (seq a.1 b.1) (U2 (seq a.2.1 b.2.1) (o8 a.2.2 b.2.2))) c.2.2.2.2.1 d 0)) (D5 .i64 n q),Z9 c.2.2.2.1 (V8 (lN (λ(a b:F8)=>U2 (seq a.1 b.1) (U2 (seq a.2.1 b.2.1) (o8 a.2.2 b.2.2))) c.2.2.2.2.1 d 0)) x.2.2.2.2.2,c.2.2.2.2.1,D5 .i64 c.2.2.2.2.2 1))))) (some (.inr (c.1,c.2.1,c.2.2.1,c.2.2.2.1,c.2.2.2.2.1)))) (x.1,x.2.1,x.2.2.1,x.2.2.2.1,x.2.2.2.2.1,0)) λy=>some (.inl (y.1,y.2.1,y.2.2.1,y.2.2.2.1,y.2.2.2.2,D5 .i64 x.2.2.2.2.2 1)))) (some (.inr (x.1,x.2.1,x.2.2.1)))) ([],[],[],[],[],0)) λy=>some y
def q6:FQ:=⟨[uD y9],⟨[(.tmp 2,uO y3),(.tmp 3,eX),(.tmp 4,eX)],[]⟩,mE 89 [(13,s13),(14,s14)],sN 4 (Y6 (sN 1 (bV (.loop [(5,12),(13,16),(19,86),(13001024,13001025)] ⟨[(5,(uO y3)),(6,eX),(7,eX),(8,eX),(9,(false,(oW (.ent true false y3 (.int .i64))))),(19,H6)],[]⟩ 0 ⟨[(5,(uO y3)),(6,eX),(7,eX)],[]⟩ (sN 2 (Y6 (bV (sN 3 (bV (.loop [(5,10),(13,16),(30,85),(20000000,20000005)] ⟨[(5,(uO y3)),(6,eX),(7,eX),(8,eX),(9,(false,(oW (.ent true false y3 (.int .i64))))),(30,H6)],[]⟩ 2 ⟨[(5,(uO y3)),(6,eX),(7,eX),(8,eX),(9,(false,(oW (.ent true false y3 (.int .i64)))))],[]⟩ F7)))) F7))))) F7)⟩
def s6:FSpec:=V4 q6 λx=>iI x
def nS(A:List Int)(B:List Int):Option Bool:=l9 (F5 (o8 (x9 A) (x9 B))) (some false) (l7 (Z4 (λ(x:Int)=>l9 (J4 x (x9 A)) (l9 (J4 x (x9 B)) (l7 (J3 A x) λb=>l7 (J3 B x) λc=>l9 (F5 (o8 b c)) (some (.rt false)) (some (.nx (D5 .i64 x 1)))) (some (.ex ()))) (some (.ex ()))) 0) λo=>Y9 o (λy=>some true) λr=>some r)
def q9:FQ:=⟨[uD y10,uD y10],tR 4 dn,mE 32 [],sN 2 (Y6 (sN 1 (bV (lpR [(4,6),(11,32)] ⟨[(5,H6)],[]⟩ 0 sgN F7))) F7)⟩
def s9:FSpec:=V4 q9 λx=>nS x.1 x.2
def rY:Option Bool:=l7 (vH [(3,1000)]) λx=>l7 (vH [(7,0)]) λd=>l7 (xM x d 0 [(45000,[(3,0,1200)],[]),(45000,[(3,0,1000)],[])] 0) λx=>l7 (sQ x.1 x.2.1 []) λb=>l7 (iI x.1) λc=>l7 (l9 (F5 (o8 x.2.2 0)) (some (.inr false)) (l9 (F5 (o8 (x9 b) 3)) (some (.inr false)) (l9 (F5 (o8 (x9 c.1) 1)) (some (.inr false)) (some (.inl ()))))) λo=>Y9 o (λf=>l9 (U2 (o8 x.2.1.1 2) (U2 (o8 x.2.1.2.1 1) (U2 (o8 x.2.1.2.2.1 1) (U2 (o8 x.2.1.2.2.2.1 0) (U2 (o8 x.2.1.2.2.2.2.1 0) (U2 (o8 x.2.1.2.2.2.2.2.1 2000) (o8 x.2.1.2.2.2.2.2.2 2200))))))) (l7 (J3 b 0) λx=>l7 (V7 b (V8 0)) λx=>l9 (seq x [99,97,115,101,115,32,50,32,99,104,97,110,103,101,100,32,49,32,103,97,105,110,101,100,32,49,32,114,101,100,117,99,101,100,32,48,32,102,97,105,108,101,100,32,48]) (l7 (J3 b 1) λx=>l7 (V7 b (V8 1)) λx=>l9 (seq x [111,108,100,32,50,48,46,48,48,32,110,101,119,32,50,50,46,48,48]) (l7 (J3 b 2) λx=>l7 (V7 b (V8 2)) λx=>l9 (seq x [99,97,115,101,32,48,58,32,49,48,46,48,48,32,45,62,32,49,50,46,48,48,32,98,121,32,104,111,117,115,101,46,98,97,115,101]) (l7 (J3 c.1 0) λx=>l7 (V7 c.1 (V8 0)) λx=>l9 (U2 (seq x.1 [104,111,117,115,101]) (U2 (seq x.2.1 [98,97,115,101]) (o8 x.2.2 3))) (l7 (nS c.2.1 [1]) λx=>l9 x (l7 (nS c.2.2 [200]) λx=>some x) (some false)) (some false)) (some false)) (some false)) (some false)) (some false)) λr=>some r
def q5:FQ:=⟨[],tR 0 dn,mE 93 [(10,s10),(11,s11),(12,s12),(6,s6),(9,s9)],sN 8 (Y6 (jnR [(0,1),(43,55)] sgN F7) F7)⟩
def s5:FSpec:=V4 q5 λx=>rY
def kZ(A:U8):Option Bool:=l9 (F5 (pK (o8 A.2.2.1 0) (o8 A.2.2.2.1 0))) (some true) (l9 (o8 A.2.2.1 0) (some (F5 (U2 (o8 A.1.1 A.2.1.1) (U2 (o8 A.1.2.1 A.2.1.2.1) (o8 A.1.2.2 A.2.1.2.2))))) (some false))
def q15:FQ:=⟨[tD y8],tR 2 dn,mE 20 [],F7⟩
def s15:FSpec:=V4 q15 λx=>kZ x
def qV(A:List F8)(B:F8):Option Int:=l7 (Z4 (λ(x:Int)=>l9 (J4 x (x9 A)) (l7 (J3 A x) λb=>l9 (U2 (seq b.1 B.1) (U2 (seq b.2.1 B.2.1) (o8 b.2.2 B.2.2))) (some (.rt x)) (some (.nx (D5 .i64 x 1)))) (some (.ex ()))) 0) λo=>Y9 o (λy=>some (-1)) λr=>some r
def q16:FQ:=⟨[uD y4,tD y3],tR 4 H6,mE 19 [],sN 1 (Y6 (sN 1 (bV (lpR [(4,19)] ⟨[(5,H6)],[]⟩ 0 sgN F7))) F7)⟩
def s16:FSpec:=V4 q16 λx=>qV x.1 x.2
def jd(A:U8):Option Int:=l9 (F5 (o8 A.2.2.1 0)) (some 0) (l9 (F5 (o8 A.2.2.2.1 0)) (some 0) (l9 (F5 (o8 A.1.1 3)) (some 0) (l9 (F5 (o8 A.2.1.1 3)) (some 0) (some (J7 .i64 A.2.1.2.2 A.1.2.2)))))
def q17:FQ:=⟨[tD y8],tR 2 H6,mE 30 [],F7⟩
def s17:FSpec:=V4 q17 λx=>jd x
def pV(A:List U8):Option (List F8×List Int×List Int):=l7 (af (λ(x:List F8×List Int×List Int×Int)=>l9 (J4 x.2.2.2 (x9 A)) (l7 (J3 A x.2.2.2) λn=>l7 (kZ n) λv=>l9 (F5 v) (some (.inl (x.1,x.2.1,x.2.2.1,D5 .i64 x.2.2.2 1))) (l7 (af (λ(b:List F8×List Int×List Int×Int)=>l7 (J3 A x.2.2.2) λw=>l9 (J4 b.2.2.2 (x9 w.2.2.2.2)) (l7 (J3 A x.2.2.2) λz=>l7 (J3 z.2.2.2.2 b.2.2.2) λg=>l7 (J3 A x.2.2.2) λh=>l7 (oM h.2.2.2.2 0 b.2.2.2) λm=>l7 (qV m g) λs=>l9 (bG 0 s) (some (.inl (b.1,b.2.1,b.2.2.1,D5 .i64 b.2.2.2 1))) (l7 (qV b.1 g) λc=>l9 (J4 c 0) (l7 (bi b.1 [g]) λi=>l7 (bi b.2.1 [0]) λd=>l7 (bi b.2.2.1 [0]) λf=>l7 (J3 d (x9 b.1)) λp=>l7 (V7 d (V8 (x9 b.1))) λj=>l7 (J3 d (x9 b.1)) λk=>l7 (V7 d (V8 (x9 b.1))) λq=>l7 (J3 f (x9 b.1)) λt=>l7 (V7 f (V8 (x9 b.1))) λu=>l7 (J3 A x.2.2.2) λx=>l7 (jd x) λx=>l7 (J3 f (x9 b.1)) λx_20=>l7 (V7 f (V8 (x9 b.1))) λx_21=>some (.inl (i,Z9 d (V8 (x9 b.1)) (D5 .i64 j 1),Z9 f (V8 (x9 b.1)) (D5 .i64 u x),D5 .i64 b.2.2.2 1))) (l7 (J3 b.2.1 c) λi=>l7 (V7 b.2.1 (V8 c)) λd=>l7 (J3 b.2.1 c) λf=>l7 (V7 b.2.1 (V8 c)) λp=>l7 (J3 b.2.2.1 c) λj=>l7 (V7 b.2.2.1 (V8 c)) λk=>l7 (J3 A x.2.2.2) λx=>l7 (jd x) λx=>l7 (J3 b.2.2.1 c) λq=>l7 (V7 b.2.2.1 (V8 c)) λt=>some (.inl (b.1,Z9 b.2.1 (V8 c) (D5 .i64 d 1),Z9 b.2.2.1 (V8 c) (D5 .i64 k x),D5 .i64 b.2.2.2 1))))) (some (.inr (b.1,b.2.1,b.2.2.1)))) (x.1,x.2.1,x.2.2.1,0)) λy=>some (.inl (y.1,y.2.1,y.2.2,D5 .i64 x.2.2.2 1)))) (some (.inr (x.1,x.2.1,x.2.2.1)))) ([],[],[],0)) λy=>some y
def q7:FQ:=⟨[uD y9],⟨[(.tmp 2,uO y3),(.tmp 3,eX),(.tmp 4,eX)],[]⟩,mE 92 [(15,s15),(16,s16),(17,s17)],sN 3 (Y6 (sN 1 (bV (.loop [(5,12),(15,89),(7000768,7000769),(10000832,10000833),(10000896,10000897)] ⟨[(5,(uO y3)),(6,eX),(7,eX),(8,H6)],[]⟩ 0 ⟨[(5,(uO y3)),(6,eX),(7,eX)],[]⟩ (sN 1 (Y6 (bV (sN 2 (bV (.loop [(5,8),(9,12),(27,89),(17000000,17000003)] ⟨[(5,(uO y3)),(6,eX),(7,eX),(9,H6)],[]⟩ 2 ⟨[(5,(uO y3)),(6,eX),(7,eX)],[]⟩ F7)))) F7))))) F7)⟩
def s7:FSpec:=V4 q7 λx=>pV x
def pY(A:List F8)(B:List F8):Option Bool:=l9 (F5 (o8 (x9 A) (x9 B))) (some false) (l7 (Z4 (λ(x:Int)=>l9 (J4 x (x9 A)) (l9 (J4 x (x9 B)) (l7 (J3 A x) λb=>l7 (J3 B x) λc=>l9 (F5 (U2 (seq b.1 c.1) (U2 (seq b.2.1 c.2.1) (o8 b.2.2 c.2.2)))) (some (.rt false)) (some (.nx (D5 .i64 x 1)))) (some (.ex ()))) (some (.ex ()))) 0) λo=>Y9 o (λy=>some true) λr=>some r)
def q8:FQ:=⟨[uD y4,uD y4],tR 4 dn,mE 32 [],sN 2 (Y6 (sN 1 (bV (lpR [(4,6),(11,32)] ⟨[(5,H6)],[]⟩ 0 sgN F7))) F7)⟩
def s8:FSpec:=V4 q8 λx=>pY x.1 x.2
def ps3:List MG:=[(false,(.dat y9))]
def jk(A:List U8):Option Bool:=l7 (rZ A) λx=>l9 (F5 x) (l7 rY λx=>some x) (l7 (iI A) λx=>l7 (pV A) λb=>l7 (pY x.1 b.1) λc=>l9 c (l7 (nS x.2.1 b.2.1) λd=>l9 d (l7 (nS x.2.2 b.2.2) λx=>l9 x (l7 rY λx=>some x) (some false)) (some false)) (some false))
def q3:FQ:=⟨ps3,tR 2 dn,mE 41 [(4,s4),(5,s5),(6,s6),(7,s7),(8,s8),(9,s9)],F7⟩
def s3:FSpec:=V4 q3 λx=>jk x
end
end Gt
