import Derived.Test.YtoilbhecaokonabGreatDoorT1
set_option linter.all false
open Go Go.GP
namespace Gt
abbrev AQ:List UInt8:=[0,1,2,2,3,3,3,3,4,4,4,4,4,4,4,4,5,5,5,5,5,5,5,5,5,5,5,5,5,5,5,5,6,6,6,6,6,6,6,6,6,6,6,6,6,6,6,6,6,6,6,6,6,6,6,6,6,6,6,6,6,6,6,6,7,7,7,7,7,7,7,7,7,7,7,7,7,7,7,7,7,7,7,7,7,7,7,7,7,7,7,7,7,7,7,7,7,7,7,7,7,7,7,7,7,7,7,7,7,7,7,7,7,7,7,7,7,7,7,7,7,7,7,7,7,7,7,7,8,8,8,8,8,8,8,8,8,8,8,8,8,8,8,8,8,8,8,8,8,8,8,8,8,8,8,8,8,8,8,8,8,8,8,8,8,8,8,8,8,8,8,8,8,8,8,8,8,8,8,8,8,8,8,8,8,8,8,8,8,8,8,8,8,8,8,8,8,8,8,8,8,8,8,8,8,8,8,8,8,8,8,8,8,8,8,8,8,8,8,8,8,8,8,8,8,8,8,8,8,8,8,8,8,8,8,8,8,8,8,8,8,8,8,8,8,8,8,8,8,8,8,8,8,8,8,8]
set_option maxRecDepth 100000
noncomputable section
def Ob(f:Func):Code:=match f.body with|some c=>c|none=> .skip
abbrev mkS(ps:List MG)(rt:Ret)(F:bC ps->Option rt.den):FSpec:=⟨ps,rt.rs.map (·.2),rt.outs.map (·.2),F⟩
structure FQ where
 (ps:List MG)
 (rt:Ret)
 (E:Env)
 (an:Ann)
abbrev Y3(q:FQ)(F:bC q.ps->Option q.rt.den):FSpec:=mkS q.ps q.rt F
abbrev jnR:=Ann.joinR
abbrev lpR:=Ann.loopR
abbrev aK:=Ann.seq
abbrev dY:=Ann.blk
abbrev sgN:Sig:=⟨[],[]⟩
def sN:Nat->Ann->Ann
 |0,a=>a|n+1,a=> .seq .leaf (sN n a)
abbrev uO(t:Ty):MG:=(false,.own t)
abbrev uD(t:Ty):MG:=(false,.dat t)
abbrev tD(t:Ty):MG:=(true,.dat t)
abbrev pA:=M.pair
abbrev oW:=M.own
abbrev dT:=M.dat
abbrev G8:Ann:=.leaf
abbrev diM:M:=.dat (.int .i64)
abbrev oiM:M:=.own (.int .i64)
abbrev dbM:M:=.dat .bool
abbrev I8:MG:=(false,diM)
abbrev eY:MG:=(false,dbM)
abbrev gZ:MG:=(false,oiM)
abbrev y0:Ty:=.prod (.int .i64) (.int .i64)
abbrev y1:Ty:=.prod (.int .i64) y0
abbrev y2:Ty:=.prod .str (.int .i64)
abbrev y3:Ty:=.prod .str y2
abbrev y4:Ty:=.sl y3
abbrev y5:Ty:=.prod (.int .i64) y4
abbrev y6:Ty:=.prod (.int .i64) y5
abbrev y7:Ty:=.prod y1 y6
abbrev y8:Ty:=.prod y1 y7
abbrev y9:Ty:=.sl y8
abbrev y10:Ty:=.sl (.int .i64)
abbrev y11:Ty:=.prod .str (.sl .str)
abbrev y12:Ty:=.sl y11
abbrev y13:Ty:=.prod y0 y1
abbrev y14:Ty:=.sl y13
abbrev y15:Ty:=.prod y0 y14
abbrev y16:Ty:=.prod y0 y15
abbrev y17:Ty:=.prod .str y16
abbrev y18:Ty:=.sl y17
abbrev y19:Ty:=.prod .str y0
abbrev y20:Ty:=.sl y19
abbrev y21:Ty:=.sl y0
abbrev y22:Ty:=.prod y21 .str
abbrev y23:Ty:=.prod y21 y22
abbrev y24:Ty:=.prod y0 y23
abbrev y25:Ty:=.prod (.int .i64) y24
abbrev y26:Ty:=.prod (.int .i64) y25
abbrev y27:Ty:=.prod (.int .i64) y26
abbrev y28:Ty:=.prod .str y27
abbrev y29:Ty:=.sl y28
abbrev y30:Ty:=.prod y20 y29
abbrev y31:Ty:=.prod y20 y30
abbrev y32:Ty:=.prod (.int .i64) y31
abbrev y33:Ty:=.prod .str y32
abbrev y34:Ty:=.sl y33
abbrev y35:Ty:=.prod y18 y34
abbrev y36:Ty:=.prod y12 y35
abbrev y37:Ty:=.sl y1
abbrev y38:Ty:=.sl y37
abbrev y39:Ty:=.prod y37 y38
abbrev y40:Ty:=.prod (.int .i64) y39
abbrev y41:Ty:=.prod (.int .i64) y1
abbrev y42:Ty:=.prod (.int .i64) y41
abbrev y43:Ty:=.prod (.int .i64) y42
abbrev y44:Ty:=.prod (.int .i64) y43
abbrev y45:Ty:=.sl y40
abbrev y46:Ty:=.sl (.ent true false y3 (.int .i64))
abbrev y47:Ty:=.prod .str .str
abbrev y48:Ty:=.sl (.ent true false y47 .bool)
abbrev y49:Ty:=.sl (.int .u8)
abbrev y50:Ty:=.sl (.ent false false .str (.int .i64))
abbrev y51:Ty:=.prod y33 y50
abbrev y52:Ty:=.sl (.ent false true .str y51)
abbrev y53:Ty:=.prod y37 y10
abbrev y54:Ty:=.sl y53
abbrev y55:Ty:=.prod y10 y54
abbrev y56:Ty:=.prod y37 y55
abbrev y57:Ty:=.prod y21 y18
abbrev y58:Ty:=.prod y38 y57
abbrev y59:Ty:=.prod y37 y58
abbrev y60:Ty:=.prod y37 y59
abbrev y61:Ty:=.prod (.int .i64) y60
abbrev y62:Ty:=.sl (.ent false false (.int .i64) .bool)
abbrev y63:Ty:=.sl y10
abbrev y64:Ty:=.prod y0 .str
abbrev y65:Ty:=.prod (.int .i64) y64
abbrev y66:Ty:=.prod .str y65
abbrev y67:Ty:=.prod .str y66
abbrev y68:Ty:=.prod y21 .bool
abbrev y69:Ty:=.prod y21 y68
abbrev y70:Ty:=.prod y21 y69
abbrev y71:Ty:=.prod y18 y70
abbrev y72:Ty:=.prod y12 y71
abbrev y73:Ty:=.prod (.sl .bool) (.sl .bool)
abbrev y74:Ty:=.prod y33 y73
abbrev y75:Ty:=.prod y33 y74
abbrev y76:Ty:=.prod y10 y61
abbrev y77:Ty:=.prod y21 y76
abbrev y78:Ty:=.prod y10 y10
abbrev y79:Ty:=.prod y10 y78
def tt:List (Nat×TI):=[(3,⟨1,8,(.int .i64),some (.int .i64),[.i .i64 0]⟩),(4,⟨1,1,.bool,some .bool,[.b false]⟩),(5,⟨1,1,(.int .u8),some (.int .u8),[.i .u8 0]⟩),(9,⟨1,16,.str,some .str,[.s []]⟩),(22,⟨1,24,(.sl 35),some y9,[.nl]⟩),(25,⟨1,24,(.sl 57),some y4,[.nl]⟩),(26,⟨1,24,(.sl 3),some y10,[.nl]⟩),(32,⟨3,24,(.struct [(3,0),(3,1),(3,2)]),some y1,[.i .i64 0,.i .i64 0,.i .i64 0]⟩),(33,⟨1,8,(.int .i64),some (.int .i64),[.i .i64 0]⟩),(35,⟨9,88,(.struct [(32,0),(32,3),(33,6),(33,7),(25,8)]),some y8,[.i .i64 0,.i .i64 0,.i .i64 0,.i .i64 0,.i .i64 0,.i .i64 0,.i .i64 0,.i .i64 0,.nl]⟩),(36,⟨1,24,(.sl 104),some y12,[.nl]⟩),(37,⟨1,24,(.sl 109),some y18,[.nl]⟩),(38,⟨1,24,(.sl 74),some y34,[.nl]⟩),(40,⟨3,72,(.struct [(36,0),(37,1),(38,2)]),some y36,[.nl,.nl,.nl]⟩),(43,⟨2,16,(.struct [(3,0),(3,1)]),some y0,[.i .i64 0,.i .i64 0]⟩),(44,⟨1,24,(.sl 43),some y21,[.nl]⟩),(45,⟨1,24,(.sl 32),some y37,[.nl]⟩),(46,⟨1,24,(.sl 45),some y38,[.nl]⟩),(48,⟨3,56,(.struct [(3,0),(45,1),(46,2)]),some y40,[.i .i64 0,.nl,.nl]⟩),(50,⟨7,56,(.struct [(3,0),(3,1),(3,2),(3,3),(3,4),(3,5),(3,6)]),some y44,[.i .i64 0,.i .i64 0,.i .i64 0,.i .i64 0,.i .i64 0,.i .i64 0,.i .i64 0]⟩),(53,⟨1,24,(.sl 48),some y45,[.nl]⟩),(54,⟨1,24,(.sl 9),some (.sl .str),[.nl]⟩),(57,⟨3,40,(.struct [(9,0),(9,1),(3,2)]),some y3,[.s [],.s [],.i .i64 0]⟩),(58,⟨1,8,(.map 57 3),some y46,[.sl (.ent true false y3 (.int .i64)) []]⟩),(64,⟨2,16,(.struct [(3,0),(3,1)]),some y0,[.i .i64 0,.i .i64 0]⟩),(66,⟨2,16,(.struct [(3,0),(3,1)]),some y0,[.i .i64 0,.i .i64 0]⟩),(68,⟨9,120,(.struct [(9,0),(3,1),(3,2),(3,3),(64,4),(44,6),(44,7),(9,8)]),some y28,[.s [],.i .i64 0,.i .i64 0,.i .i64 0,.i .i64 0,.i .i64 0,.nl,.nl,.s []]⟩),(70,⟨3,32,(.struct [(9,0),(66,1)]),some y19,[.s [],.i .i64 0,.i .i64 0]⟩),(71,⟨1,24,(.sl 70),some y20,[.nl]⟩),(72,⟨1,24,(.sl 68),some y29,[.nl]⟩),(74,⟨5,96,(.struct [(9,0),(3,1),(71,2),(71,3),(72,4)]),some y33,[.s [],.i .i64 0,.nl,.nl,.nl]⟩),(81,⟨2,32,(.arr 2 9),none,[.s [],.s []]⟩),(84,⟨4,32,(.struct [(33,0),(3,1),(3,2),(3,3)]),some y41,[.i .i64 0,.i .i64 0,.i .i64 0,.i .i64 0]⟩),(89,⟨1,8,(.map 93 4),some y48,[.sl (.ent true false y47 .bool) []]⟩),(93,⟨2,32,(.struct [(9,0),(9,1)]),some y47,[.s [],.s []]⟩),(101,⟨1,24,(.sl 5),some y49,[.nl]⟩),(104,⟨2,40,(.struct [(9,0),(54,1)]),some y11,[.s [],.nl]⟩),(107,⟨1,24,(.sl 152),some y14,[.nl]⟩),(109,⟨6,72,(.struct [(9,0),(66,1),(66,3),(107,5)]),some y17,[.s [],.i .i64 0,.i .i64 0,.i .i64 0,.i .i64 0,.nl]⟩),(114,⟨4,32,(.struct [(33,0),(3,1),(3,2),(3,3)]),some y41,[.i .i64 0,.i .i64 0,.i .i64 0,.i .i64 0]⟩),(120,⟨1,8,(.map 9 175),some y52,[.sl (.ent false true .str y51) []]⟩),(126,⟨1,8,(.int .u64),some (.int .u64),[.i .u64 0]⟩),(135,⟨1,16,.other,none,[]⟩),(152,⟨5,40,(.struct [(64,0),(3,2),(3,3),(3,4)]),some y13,[.i .i64 0,.i .i64 0,.i .i64 0,.i .i64 0,.i .i64 0]⟩),(157,⟨1,24,(.sl 220),some y54,[.nl]⟩),(159,⟨3,72,(.struct [(45,0),(26,1),(157,2)]),some y56,[.nl,.nl,.nl]⟩),(160,⟨1,24,(.sl 66),some y21,[.nl]⟩),(162,⟨6,128,(.struct [(3,0),(45,1),(45,2),(46,3),(160,4),(37,5)]),some y61,[.i .i64 0,.nl,.nl,.nl,.nl,.nl]⟩),(165,⟨1,8,(.map 3 4),some y62,[.sl (.ent false false (.int .i64) .bool) []]⟩),(167,⟨1,24,(.sl 26),some y63,[.nl]⟩),(169,⟨1,24,(.sl 4),some (.sl .bool),[.nl]⟩),(173,⟨1,8,(.map 9 3),some y50,[.sl (.ent false false .str (.int .i64)) []]⟩),(175,⟨6,104,(.struct [(74,0),(173,5)]),some y51,[.s [],.i .i64 0,.nl,.nl,.nl,.sl (.ent false false .str (.int .i64)) []]⟩),(178,⟨6,72,(.struct [(9,0),(9,1),(3,2),(64,3),(9,5)]),some y67,[.s [],.s [],.i .i64 0,.i .i64 0,.i .i64 0,.s []]⟩),(185,⟨1,8,(.int .u64),some (.int .u64),[.i .u64 0]⟩),(208,⟨6,128,(.struct [(36,0),(37,1),(160,2),(160,3),(160,4),(4,5)]),some y72,[.nl,.nl,.nl,.nl,.nl,.b false]⟩),(215,⟨12,240,(.struct [(74,0),(74,5),(169,10),(169,11)]),some y75,[.s [],.i .i64 0,.nl,.nl,.nl,.s [],.i .i64 0,.nl,.nl,.nl,.nl,.nl]⟩),(220,⟨2,48,(.struct [(45,0),(26,1)]),some y53,[.nl,.nl]⟩),(265,⟨1,8,(.ptr 266),none,[]⟩),(266,⟨1,24,(.sl 3),some y10,[.nl]⟩),(273,⟨8,176,(.struct [(44,0),(26,1),(162,2)]),some y77,[.nl,.nl,.i .i64 0,.nl,.nl,.nl,.nl,.nl]⟩),(283,⟨12,96,(.arr 12 3),none,[.i .i64 0,.i .i64 0,.i .i64 0,.i .i64 0,.i .i64 0,.i .i64 0,.i .i64 0,.i .i64 0,.i .i64 0,.i .i64 0,.i .i64 0,.i .i64 0]⟩),(302,⟨3,72,(.struct [(26,0),(26,1),(26,2)]),some y79,[.nl,.nl,.nl]⟩)]
def eqs:List (Nat×List Ty):=[(32,[(.int .i64),(.int .i64),(.int .i64)]),(43,[(.int .i64),(.int .i64)]),(50,[(.int .i64),(.int .i64),(.int .i64),(.int .i64),(.int .i64),(.int .i64),(.int .i64)]),(57,[.str,.str,(.int .i64)]),(66,[(.int .i64),(.int .i64)]),(70,[.str,(.int .i64),(.int .i64)]),(84,[(.int .i64),(.int .i64),(.int .i64),(.int .i64)]),(93,[.str,.str]),(152,[(.int .i64),(.int .i64),(.int .i64),(.int .i64),(.int .i64)]),(178,[.str,.str,(.int .i64),(.int .i64),(.int .i64),.str])]
def gl:List (Nat×(t:Ty)×List t.den):=[(2,⟨.int .i64,[31,28,31,30,31,30,31,31,30,31,30,31]⟩),(0,⟨.int .u64,[1,10,100,1000,10000,100000,1000000,10000000,100000000,1000000000,10000000000,100000000000,1000000000000,10000000000000,100000000000000,1000000000000000,10000000000000000,100000000000000000,1000000000000000000,10000000000000000000]⟩)]
abbrev mE(n:Nat)(fs:List (Nat×FSpec)):Env:=⟨n,eqs,tt,gl,fs,[],[],[],[],[]⟩
abbrev tR(n:Nat)(m:MG):Ret:=⟨[(.tmp n,m)],[]⟩
abbrev cR(n k:Nat)(m:MG):Ret:=⟨[(.cell n k,m)],[]⟩
abbrev O7:Type:=Ty.den y0
abbrev zo:Type:=Ty.den y0
abbrev dN:Type:=Ty.den y47
abbrev P6:Type:=Ty.den y1
abbrev H7:Type:=Ty.den y3
abbrev jS:Type:=Ty.den y19
abbrev iI:Type:=Ty.den y11
abbrev bi:Type:=Ty.den y41
abbrev EY:Type:=Ty.den y13
abbrev jT:Type:=Ty.den y79
abbrev BG:Type:=Ty.den y67
abbrev jO:Type:=Ty.den y40
abbrev ed:Type:=Ty.den y44
abbrev X9:Type:=Ty.den y8
abbrev kK:Type:=Ty.den y17
abbrev DK:Type:=Ty.den y56
abbrev bW:Type:=Ty.den y28
abbrev L6:Type:=Ty.den y72
abbrev fA:Type:=Ty.den y61
abbrev A8:Type:=Ty.den y33
abbrev mW:Type:=Ty.den y51
abbrev aB:Type:=Ty.den y77
abbrev eF:Type:=Ty.den y75
abbrev ay:Type:=Ty.den y36
def vP(A:List X9):Option Bool:=l9 (ak (λ(x:Int)=>l7 (I7 x (x9 A)) (l7 (I7 x 60) (l9 (H9 A x) λb=>l7 (I7 60 (x9 b.2.2.2.2)) (some (.rt false)) (l9 (H9 A x) λc=>l7 (I7 1125899906842624 c.1.2.2) (some (.rt false)) (l9 (H9 A x) λd=>l7 (I7 d.1.2.2 (-1125899906842624)) (some (.rt false)) (l9 (H9 A x) λf=>l7 (I7 1125899906842624 f.2.1.2.2) (some (.rt false)) (l9 (H9 A x) λg=>l7 (I7 g.2.1.2.2 (-1125899906842624)) (some (.rt false)) (some (.nx (D7 .i64 x 1)))))))) (some (.ex ()))) (some (.ex ()))) 0) λo=>aN o (λy=>some (Y2 (x9 A) 50)) λr=>some r
def q4:FQ:=⟨[uD y9],tR 2 eY,mE 60 [],sN 1 (aK (sN 1 (dY (lpR [(2,57)] ⟨[(3,I8)],[]⟩ 0 sgN G8))) G8)⟩
def s4:FSpec:=Y3 q4 λx=>vP x
def yE(A:List O7):Option ay:=some ([],[],[([104,111,117,115,101],-1,[([97],3,0)],[([100],3,0)],[([98,97,115,101],0,-1,0,(0,109573),[],A,[])])])
def q10:FQ:=⟨[uD y21],⟨[(.cell 2 40,(true,(pA (dT y12) (pA (dT y18) (.owns (pA (dT .str) (pA diM (pA (dT y20) (pA (dT y20) (oW y28))))))))))],[]⟩,⟨22,eqs,tt,gl,[],[(38,(pA (dT .str) (pA diM (pA (dT y20) (pA (dT y20) (oW y28))))))],[],[],[],[]⟩,G8⟩
def s10:FSpec:=Y3 q10 λx=>yE x
def wR(A:Int):Option Bool:=l7 (Y2 97 A) (some (Y2 A 122)) (some false)
def q94:FQ:=⟨[(false,(dT (.int .u8)))],tR 2 eY,mE 9 [],G8⟩
def s94:FSpec:=Y3 q94 λx=>wR x
def Cb(A:Int):Option Bool:=l7 (Y2 48 A) (some (Y2 A 57)) (some false)
def a4U:FQ:=⟨[(false,(dT (.int .u8)))],tR 2 eY,mE 9 [],G8⟩
def a6Q:FSpec:=Y3 a4U λx=>Cb x
def xy(A:List UInt8):Option Int:=l9 (aX (λ(x:Int)=>l7 (I7 x (x9 A)) (l9 (sat A x) λb=>l9 (wR b) λc=>l7 c (some (.inl (D7 .i64 x 1))) (l9 (sat A x) λd=>l9 (Cb d) λf=>l7 f (some (.inl (D7 .i64 x 1))) (l9 (sat A x) λg=>l7 (x8 g 95) (some (.inl (D7 .i64 x 1))) (some (.inr x))))) (some (.inr x))) 0) λy=>some y
def q95:FQ:=⟨[uD .str],tR 2 I8,mE 29 [(94,s94),(125,a6Q)],sN 2 (aK (dY (.loop [(3,28)] ⟨[(3,I8)],[]⟩ 0 ⟨[(3,I8)],[]⟩ G8)) G8)⟩
def s95:FSpec:=Y3 q95 λx=>xy x
def zW(A:List UInt8):Option Bool:=l9 (l7 (seq A [105,102]) (some (seq A [105,102])) (l7 (seq A [116,104,101,110]) (some (seq A [116,104,101,110])) (l7 (seq A [101,108,115,101]) (some (seq A [101,108,115,101])) (l7 (seq A [111,114]) (some (seq A [111,114])) (l7 (seq A [97,110,100]) (some (seq A [97,110,100])) (l7 (seq A [110,111,116]) (some (seq A [110,111,116])) (l7 (seq A [116,114,117,101]) (some (seq A [116,114,117,101])) (l7 (seq A [102,97,108,115,101]) (some (seq A [102,97,108,115,101])) (l7 (seq A [116,111,100,97,121]) (some (seq A [116,111,100,97,121])) (l7 (seq A [115,104,97,114,101]) (some (seq A [115,104,97,114,101])) (l7 (seq A [100,105,118]) (some (seq A [100,105,118])) (l7 (seq A [114,111,117,110,100]) (some (seq A [114,111,117,110,100])) (l7 (seq A [109,105,110]) (some (seq A [109,105,110])) (l7 (seq A [109,97,120]) (some (seq A [109,97,120])) (l7 (seq A [112,108,117,115]) (some (seq A [112,108,117,115])) (l7 (seq A [109,111,110,116,104,115]) (some (seq A [109,111,110,116,104,115])) (l7 (seq A [100,97,121,115]) (some (seq A [100,97,121,115])) (l7 (seq A [121,101,97,114,115]) (some (seq A [121,101,97,114,115])) (l7 (seq A [121,101,97,114]) (some (seq A [121,101,97,114])) (l7 (seq A [109,111,110,116,104]) (some (seq A [109,111,110,116,104])) (l7 (seq A [116,97,98]) (some (seq A [116,97,98])) (l7 (seq A [98,97,110,100]) (some (seq A [98,97,110,100])) (l7 (seq A [99,111,117,110,116]) (some (seq A [99,111,117,110,116])) (l7 (seq A [115,117,109]) (some (seq A [115,117,109])) (l7 (seq A [97,108,108]) (some (seq A [97,108,108])) (l7 (seq A [97,110,121]) (some (seq A [97,110,121])) (l7 (seq A [109,111,115,116]) (some (seq A [109,111,115,116])) (l7 (seq A [101,110,117,109]) (some (seq A [101,110,117,109])) (l7 (seq A [116,97,98,108,101]) (some (seq A [116,97,98,108,101])) (l7 (seq A [114,111,119]) (some (seq A [114,111,119])) (l7 (seq A [115,99,111,112,101]) (some (seq A [115,99,111,112,101])) (l7 (seq A [109,101,109,98,101,114,115]) (some (seq A [109,101,109,98,101,114,115])) (l7 (seq A [105,110,112,117,116]) (some (seq A [105,110,112,117,116])) (l7 (seq A [100,101,102]) (some (seq A [100,101,102])) (l7 (seq A [114,117,108,101]) (some (seq A [114,117,108,101])) (l7 (seq A [111,102]) (some (seq A [111,102])) (l7 (seq A [111,118,101,114]) (some (seq A [111,118,101,114])) (l7 (seq A [112,114,105,111]) (some (seq A [112,114,105,111])) (l7 (seq A [102,114,111,109]) (some (seq A [102,114,111,109])) (l7 (seq A [116,111]) (some (seq A [116,111])) (l7 (seq A [101,110,100]) (some (seq A [101,110,100])) (l7 (seq A [119,104,101,110]) (some (seq A [119,104,101,110])) (l7 (seq A [105,115]) (some (seq A [105,115])) (l7 (seq A [115,114,99]) (some (seq A [115,114,99])) (l7 (seq A [98,111,111,108]) (some (seq A [98,111,111,108])) (l7 (seq A [105,110,116]) (some (seq A [105,110,116])) (l7 (seq A [109,111,110,101,121]) (some (seq A [109,111,110,101,121])) (l7 (seq A [114,97,116,101]) (some (seq A [114,97,116,101])) (l7 (seq A [100,97,116,101]) (some (seq A [100,97,116,101])) (l7 (seq A [100,111,119,110]) (some (seq A [100,111,119,110])) (l7 (seq A [117,112]) (some (seq A [117,112])) (l7 (seq A [122,101,114,111]) (some (seq A [122,101,114,111])) (l7 (seq A [97,119,97,121]) (some (seq A [97,119,97,121])) (l7 (seq A [104,97,108,102]) (some (seq A [104,97,108,102])) (some (seq A [101,118,101,110])))))))))))))))))))))))))))))))))))))))))))))))))))))))) λx=>l7 x (some true) (some false)
def q96:FQ:=⟨[uD .str],tR 2 eY,mE 60 [],sN 1 (aK (sN 1 (dY (aK (.join [(4,60)] ⟨[(4,eY)],[]⟩ G8) G8))) G8)⟩
def s96:FSpec:=Y3 q96 λx=>zW x
def dM(A:List UInt8):Option Bool:=l7 (G5 (seq A [])) (l9 (sat A 0) λx=>l9 (wR x) λx=>l7 x (l9 (xy A) λx=>l7 (x8 x (x9 A)) (l7 (Y2 (x9 A) 16) (l9 (zW A) λx=>some (G5 x)) (some false)) (some false)) (some false)) (some false)
def q62:FQ:=⟨[uD .str],tR 2 eY,mE 27 [(94,s94),(95,s95),(96,s96)],G8⟩
def s62:FSpec:=Y3 q62 λx=>dM x
def BV(A:iI)(B:List UInt8):Option Bool:=some (seq A.1 B)
def a1r:FQ:=⟨[tD y11,(false,(.rp .str))],tR 3 eY,mE 8 [],G8⟩
def ZB:FSpec:=Y3 a1r λx=>BV x.1 x.2
def jd(A:List iI)(B:List UInt8):Option Int:=l9 (ak (λ(x:Int)=>l7 (I7 x (x9 A)) (l9 (H9 A x) λb=>l9 (BV b B) λc=>l7 c (some (.rt x)) (some (.nx (D7 .i64 x 1)))) (some (.ex ()))) 0) λo=>aN o (λy=>some (-1)) λr=>some r
def YD:FQ:=⟨[uD y12,(false,(.fn 98 [.str]))],tR 4 I8,mE 19 [(98,ZB)],sN 1 (aK (sN 1 (dY (lpR [(4,6),(8,19)] ⟨[(8,I8)],[]⟩ 0 sgN G8))) G8)⟩
def Zl:FSpec:=Y3 YD λx=>jd x.1 x.2
def gW(A:List iI)(B:List UInt8):Option Bool:=l9 (jd A B) λx=>some (Y2 0 x)
def a1q:FQ:=⟨[uD y12,(false,(.fn 98 [.str]))],tR 4 eY,mE 9 [(126,Zl)],G8⟩
def a1A:FSpec:=Y3 a1q λx=>gW x.1 x.2
def vS(A:List iI)(B:List UInt8):Option Bool:=l9 (gW A B) λx=>some x
def q63:FQ:=⟨[uD y12,(uD .str)],tR 4 eY,mE 8 [(98,ZB),(97,a1A)],G8⟩
def s63:FSpec:=Y3 q63 λx=>vS x.1 x.2
def mg(A:List (List UInt8))(B:List UInt8):Option Int:=l9 (ak (λ(x:Int)=>l7 (I7 x (x9 A)) (l9 (H9 A x) λb=>l7 (seq B b) (some (.rt x)) (some (.nx (D7 .i64 x 1)))) (some (.ex ()))) 0) λo=>aN o (λy=>some (-1)) λr=>some r
def a4S:FQ:=⟨[uD (.sl .str),(uD .str)],tR 4 I8,mE 19 [],sN 1 (aK (sN 1 (dY (lpR [(4,6),(8,19)] ⟨[(8,I8)],[]⟩ 0 sgN G8))) G8)⟩
def a6O:FSpec:=Y3 a4S λx=>mg x.1 x.2
def kJ(A:List (List UInt8))(B:List UInt8):Option Bool:=l9 (mg A B) λx=>some (Y2 0 x)
def q88:FQ:=⟨[uD (.sl .str),(uD .str)],tR 4 eY,mE 9 [(123,a6O)],G8⟩
def s88:FSpec:=Y3 q88 λx=>kJ x.1 x.2
def BQ(A:ay)(B:Int)(C:iI):Option O7:=l9 (dM C.1) λx=>l7 (G5 x) (some (2,0)) (l9 (rD A.1 0 B) λx=>l9 (vS x C.1) λx=>l7 x (some (7,0)) (l7 (x8 (x9 C.2) 0) (some (5,0)) (l7 (I7 16 (x9 C.2)) (some (4,116)) (l9 (ak (λ(x:Int)=>l7 (I7 x (x9 C.2)) (l9 (H9 C.2 x) λb=>l9 (dM b) λc=>l7 (G5 c) (some (.rt (2,D7 .i64 100 x))) (l9 (rD C.2 0 x) λd=>l9 (kJ d b) λf=>l7 f (some (.rt (7,D7 .i64 100 x))) (some (.nx (D7 .i64 x 1))))) (some (.ex ()))) 0) λo=>aN o (λy=>some (0,0)) λr=>some r))))
def q60:FQ:=⟨[tD y36,I8,tD y11],⟨[(.tmp 6,I8),(.tmp 7,I8)],[]⟩,mE 55 [(62,s62),(63,s63),(88,s88)],sN 2 (aK (sN 1 (dY (lpR [(6,10),(36,55)] ⟨[(36,I8)],[]⟩ 1 sgN G8))) G8)⟩
def s60:FSpec:=Y3 q60 λx=>BQ x.1 x.2.1 x.2.2
def zQ(A:ay):Option bi:=l7 (I7 8 (x9 A.1)) (some (4,1,8,0)) (l9 (ak (λ(x:bi×Int)=>l7 (I7 x.2 (x9 A.1)) (l9 (H9 A.1 x.2) λc=>l9 (BQ A x.2 c) λb=>l7 (G5 (x8 b.1 0)) (some (.rt (b.1,1,x.2,b.2))) (some (.nx (x.1,D7 .i64 x.2 1)))) (some (.ex x.1))) ((0,0,0,0),0)) λo=>aN o (λ(y:bi)=>some (0,0,0,0)) λr=>some r)
def q35:FQ:=⟨[tD y36],cR 2 84 (tD y41),mE 35 [(60,s60)],sN 2 (aK (sN 1 (dY (lpR [(2,7),(15,34),(4000128,4000129)] ⟨[(2,(false,(.box (dT y41)))),(15,I8)],[]⟩ 0 ⟨[(2,(false,(.box (dT y41))))],[]⟩ G8))) G8)⟩
def s35:FSpec:=Y3 q35 λx=>zQ x
def aS(A:O7)(B:List iI):Option Bool:=l9 (l7 (x8 A.1 1) (some (x8 A.1 1)) (l7 (x8 A.1 2) (some (x8 A.1 2)) (l7 (x8 A.1 3) (some (x8 A.1 3)) (l7 (x8 A.1 4) (some (x8 A.1 4)) (some (x8 A.1 5)))))) λx=>l7 x (some (x8 A.2 0)) (l7 (x8 A.1 6) (l7 (Y2 0 A.2) (some (I7 A.2 (x9 B))) (some false)) (some false))
def q85:FQ:=⟨[tD y0,uD y12],tR 4 eY,mE 28 [],sN 1 (aK (sN 1 (dY (aK (.join [(7,13)] ⟨[(7,eY)],[]⟩ G8) G8))) G8)⟩
def s85:FSpec:=Y3 q85 λx=>aS x.1 x.2
def mQ(A:O7)(B:List iI):Option O7:=l9 (aS A B) λx=>l7 (G5 x) (some (0,-1)) (l7 (x8 A.1 1) (some (0,1)) (l7 (x8 A.1 2) (some (-1000000000000,1000000000000)) (l7 (x8 A.1 3) (some (-1000000000000000,1000000000000000)) (l7 (x8 A.1 4) (some (-1000000000,1000000000)) (l7 (x8 A.1 5) (some (0,109572)) (l9 (H9 B A.2) λx=>some (0,O0 .i64 (x9 x.2) 1)))))))
def q89:FQ:=⟨[tD y0,uD y12],⟨[(.tmp 4,I8),(.tmp 5,I8)],[]⟩,mE 30 [(85,s85)],G8⟩
def s89:FSpec:=Y3 q89 λx=>mQ x.1 x.2
def nJ(A:O7):Option Bool:=l7 (Y2 0 A.1) (l7 (Y2 A.1 A.2) (some (Y2 A.2 109573)) (some false)) (some false)
def q90:FQ:=⟨[tD y0],tR 2 eY,mE 18 [],G8⟩
def s90:FSpec:=Y3 q90 λx=>nJ x
def oP(A:O7):Option Bool:=l9 (nJ A) λx=>l7 x (some (I7 A.1 A.2)) (some false)
def a5h:FQ:=⟨[tD y0],tR 2 eY,mE 12 [(90,s90)],G8⟩
def a7a:FSpec:=Y3 a5h λx=>oP x
def rO(A:O7)(B:O7):Option (O7×Bool):=l9 (oP A) λx=>l7 (G5 x) (some ((0,0),false)) (l9 (oP B) λx=>l7 (G5 x) (some ((0,0),false)) (l7 (Y2 (zG A.2 B.2) (ul A.1 B.1)) (some ((0,0),false)) (some ((ul A.1 B.1,zG A.2 B.2),true))))
def a4T:FQ:=⟨[tD y0,tD y0],⟨[(.cell 4 64,tD y0),(.tmp 5,eY)],[]⟩,mE 34 [(151,a7a)],G8⟩
def a6P:FSpec:=Y3 a4T λx=>rO x.1 x.2
def AY(A:EY)(B:EY):Option Bool:=l9 (rO A.1 B.1) λx=>l7 x.2 (some (I7 (ul A.2.1 B.2.1) (zG A.2.2.1 B.2.2.1))) (some false)
def q93:FQ:=⟨[tD y13,tD y13],tR 4 eY,mE 29 [(124,a6P)],G8⟩
def s93:FSpec:=Y3 q93 λx=>AY x.1 x.2
def xF(A:EY)(B:EY):Option Bool:=l9 (AY A B) λx=>some x
def a1p:FQ:=⟨[tD y13,(false,(.rp y13))],tR 3 eY,mE 7 [(93,s93)],G8⟩
def ZA:FSpec:=Y3 a1p λx=>xF x.1 x.2
def rX(A:List EY)(B:EY):Option (Int×Bool):=l9 (ak (λ(x:Int)=>l7 (I7 x (x9 A)) (l9 (H9 A x) λb=>l9 (xF b B) λc=>l7 c (some (.rt (x,true))) (some (.nx (D7 .i64 x 1)))) (some (.ex ()))) 0) λo=>aN o (λy=>some (0,false)) λr=>some r
def a1n:FQ:=⟨[uD y14,(false,(.fn 92 [y13]))],⟨[(.tmp 4,I8),(.tmp 5,eY)],[]⟩,mE 20 [(92,ZA)],sN 1 (aK (sN 1 (dY (lpR [(4,8),(10,20)] ⟨[(10,I8)],[]⟩ 0 sgN G8))) G8)⟩
def a1y:FSpec:=Y3 a1n λx=>rX x.1 x.2
def AX(A:kK)(B:List iI):Option O7:=l7 (I7 64 (x9 A.2.2.2)) (some (64,4)) (l9 (l9 (aS A.2.1 B) λx=>l7 (G5 x) (some (.inr (-1,8))) (l9 (aS A.2.2.1 B) λx=>l7 (G5 x) (some (.inr (-1,8))) (some (.inl ())))) λo=>aN o (λx=>l9 (mQ A.2.1 B) λx=>l9 (mQ A.2.2.1 B) λd=>l9 (ak (λ(b:Int)=>l7 (I7 b (x9 A.2.2.2)) (l9 (H9 A.2.2.2 b) λc=>l9 (l9 (nJ c.1) λx=>l7 (G5 x) (some (.inr (b,3))) (l7 (x8 c.1.1 c.1.2) (some (.inr (b,3))) (l7 (Y2 c.2.2.1 c.2.1) (some (.inr (b,3))) (some (.inl ()))))) λo=>aN o (λf=>l9 (l7 (I7 c.2.1 x.1) (some (.inr (b,3))) (l7 (I7 x.2 c.2.1) (some (.inr (b,3))) (l7 (I7 (O0 .i64 c.2.2.1 1) x.1) (some (.inr (b,3))) (l7 (I7 x.2 (O0 .i64 c.2.2.1 1)) (some (.inr (b,3))) (some (.inl ())))))) λo=>aN o (λx=>l7 (I7 c.2.2.2 d.1) (some (.rt (b,3))) (l7 (I7 d.2 c.2.2.2) (some (.rt (b,3))) (l9 (rD A.2.2.2 0 b) λx=>l9 (rX x c) λx=>l7 x.2 (some (.rt (b,11))) (some (.nx (D7 .i64 b 1)))))) λr=>some (.rt r)) λr=>some (.rt r)) (some (.ex ()))) 0) λo=>aN o (λy=>some (0,0)) λr=>some r) λr=>some r)
def q61:FQ:=⟨[tD y17,uD y12],⟨[(.tmp 4,I8),(.tmp 5,I8)],[]⟩,mE 121 [(85,s85),(89,s89),(90,s90),(92,ZA),(91,a1y)],sN 2 (aK (jnR [(4,6),(18,30)] sgN G8) (sN 2 (aK (sN 1 (dY (lpR [(4,6),(10,14),(47,121)] ⟨[(47,I8)],[]⟩ 0 sgN (sN 2 (aK (dY (sN 1 (aK (jnR [(4,6),(52,73)] sgN G8) (aK (jnR [(4,6),(73,98)] sgN G8) G8)))) G8))))) G8)))⟩
def s61:FSpec:=Y3 q61 λx=>AX x.1 x.2
def zT(A:kK)(B:List UInt8):Option Bool:=some (seq A.1 B)
def YA:FQ:=⟨[tD y17,(false,(.rp .str))],tR 3 eY,mE 8 [],G8⟩
def TP:FSpec:=Y3 YA λx=>zT x.1 x.2
def iF(A:List kK)(B:List UInt8):Option Int:=l9 (ak (λ(x:Int)=>l7 (I7 x (x9 A)) (l9 (H9 A x) λb=>l9 (zT b B) λc=>l7 c (some (.rt x)) (some (.nx (D7 .i64 x 1)))) (some (.ex ()))) 0) λo=>aN o (λy=>some (-1)) λr=>some r
def YE:FQ:=⟨[uD y18,(false,(.fn 100 [.str]))],tR 4 I8,mE 19 [(100,TP)],sN 1 (aK (sN 1 (dY (lpR [(4,6),(8,19)] ⟨[(8,I8)],[]⟩ 0 sgN G8))) G8)⟩
def Zm:FSpec:=Y3 YE λx=>iF x.1 x.2
def fZ(A:List kK)(B:List UInt8):Option Bool:=l9 (iF A B) λx=>some (Y2 0 x)
def a1s:FQ:=⟨[uD y18,(false,(.fn 100 [.str]))],tR 4 eY,mE 9 [(127,Zm)],G8⟩
def a1B:FSpec:=Y3 a1s λx=>fZ x.1 x.2
def yl(A:List kK)(B:List UInt8):Option Bool:=l9 (fZ A B) λx=>some x
def q64:FQ:=⟨[uD y18,(uD .str)],tR 4 eY,mE 8 [(100,TP),(99,a1B)],G8⟩
def s64:FSpec:=Y3 q64 λx=>yl x.1 x.2
def yV(A:ay):Option bi:=l7 (I7 8 (x9 A.2.1)) (some (4,2,8,0)) (l9 (ak (λ(x:bi×Int)=>l7 (I7 x.2 (x9 A.2.1)) (l9 (H9 A.2.1 x.2) λc=>l9 (AX c A.1) λb=>l9 (l9 (dM c.1) λd=>l7 (G5 d) (some (2,2,x.2,0)) (l9 (vS A.1 c.1) λf=>l7 f (some (7,2,x.2,0)) (l9 (rD A.2.1 0 x.2) λg=>l9 (yl g c.1) λi=>l7 i (some (7,2,x.2,0)) (l7 (G5 (x8 b.2 0)) (l7 (G5 (x8 b.1 (-1))) (some (b.2,2,x.2,D7 .i64 100 b.1)) (some (b.2,2,x.2,0))) (some (0,2,x.2,0)))))) λd=>l7 (G5 (x8 d.1 0)) (some (.rt d)) (some (.nx (x.1,D7 .i64 x.2 1)))) (some (.ex x.1))) ((0,0,0,0),0)) λo=>aN o (λ(y:bi)=>some (0,0,0,0)) λr=>some r)
def q36:FQ:=⟨[tD y36],cR 2 84 (tD y41),mE 68 [(61,s61),(62,s62),(63,s63),(64,s64)],sN 2 (aK (sN 1 (dY (lpR [(2,8),(16,67),(4000128,4000129)] ⟨[(2,(false,(.box (dT y41)))),(16,I8)],[]⟩ 0 ⟨[(2,(false,(.box (dT y41))))],[]⟩ (sN 2 (aK (dY (sN 3 (aK (.join [(5,6),(30,62),(37000320,37000321)] ⟨[(5,(false,(.box (dT y41))))],[]⟩ G8) G8))) G8))))) G8)⟩
def s36:FSpec:=Y3 q36 λx=>yV x
def xu(A:A8)(B:A8):Option Bool:=some (seq A.1 B.1)
def YC:FQ:=⟨[tD y33,(false,(.rp y33))],tR 3 eY,mE 9 [],G8⟩
def TQ:FSpec:=Y3 YC λx=>xu x.1 x.2
def iE(A:List A8)(B:A8):Option Int:=l9 (ak (λ(x:Int)=>l7 (I7 x (x9 A)) (l9 (H9 A x) λb=>l9 (xu b B) λc=>l7 c (some (.rt x)) (some (.nx (D7 .i64 x 1)))) (some (.ex ()))) 0) λo=>aN o (λy=>some (-1)) λr=>some r
def YF:FQ:=⟨[uD y34,(false,(.fn 102 [y33]))],tR 4 I8,mE 19 [(102,TQ)],sN 1 (aK (sN 1 (dY (lpR [(4,6),(8,19)] ⟨[(8,I8)],[]⟩ 0 sgN G8))) G8)⟩
def Zn:FSpec:=Y3 YF λx=>iE x.1 x.2
def fV(A:List A8)(B:A8):Option Bool:=l9 (iE A B) λx=>some (Y2 0 x)
def YB:FQ:=⟨[uD y34,(false,(.fn 102 [y33]))],tR 4 eY,mE 9 [(128,Zn)],G8⟩
def Zi:FSpec:=Y3 YB λx=>fV x.1 x.2
def xq(A:jS)(B:jS):Option Bool:=some (seq A.1 B.1)
def YG:FQ:=⟨[tD y19,(false,(.rp y19))],tR 3 eY,mE 9 [],G8⟩
def TR:FSpec:=Y3 YG λx=>xq x.1 x.2
def iD(A:List jS)(B:jS):Option Int:=l9 (ak (λ(x:Int)=>l7 (I7 x (x9 A)) (l9 (H9 A x) λb=>l9 (xq b B) λc=>l7 c (some (.rt x)) (some (.nx (D7 .i64 x 1)))) (some (.ex ()))) 0) λo=>aN o (λy=>some (-1)) λr=>some r
def YK:FQ:=⟨[uD y20,(false,(.fn 129 [y19]))],tR 4 I8,mE 19 [(129,TR)],sN 1 (aK (sN 1 (dY (lpR [(4,6),(8,19)] ⟨[(8,I8)],[]⟩ 0 sgN G8))) G8)⟩
def Zq:FSpec:=Y3 YK λx=>iD x.1 x.2
def bP(A:List jS)(B:jS):Option Bool:=l9 (iD A B) λx=>some (Y2 0 x)
def YH:FQ:=⟨[uD y20,(false,(.fn 129 [y19]))],tR 4 eY,mE 9 [(152,Zq)],G8⟩
def Zo:FSpec:=Y3 YH λx=>bP x.1 x.2
def uw(A:ay)(B:jS)(C:List jS)(D:List jS):Option Int:=l9 (dM B.1) λx=>l7 (G5 x) (some 2) (l9 (bP C B) λx=>l7 x (some 7) (l9 (bP D B) λx=>l7 x (some 7) (l9 (aS B.2 A.1) λx=>l7 (G5 x) (some 8) (some 0))))
def a4G:FQ:=⟨[tD y36,tD y19,uD y20,uD y20],tR 8 I8,mE 32 [(129,TR),(62,s62),(130,Zo),(85,s85)],G8⟩
def a6E:FSpec:=Y3 a4G λx=>uw x.1 x.2.1 x.2.2.1 x.2.2.2
def pG(A:List jS):Option (List O7):=l9 (aX (λ(x:List O7×Int)=>l7 (I7 x.2 (x9 A)) (l9 (H9 A x.2) λb=>l9 (dD x.1 [b.2]) λc=>some (.inl (c,D7 .i64 x.2 1))) (some (.inr x.1))) ([],0)) λy=>some y
def a4V:FQ:=⟨[uD y20],tR 2 (uO y0),mE 19 [],sN 2 (aK (sN 1 (dY (.loop [(3,4),(5,6),(8,18)] ⟨[(3,(uO y0)),(8,I8)],[]⟩ 0 ⟨[(3,(uO y0))],[]⟩ G8))) G8)⟩
def a6R:FSpec:=Y3 a4V λx=>pG x
def rV(A:ay)(B:Int):Option L6:=l9 (H9 A.2.2 B) λx=>l9 (pG x.2.2.1) λb=>l9 (pG x.2.2.2.1) λc=>l7 (Y2 0 x.2.1) (l7 (I7 x.2.1 (x9 A.2.2)) (l9 (H9 A.2.2 x.2.1) λx=>l9 (pG x.2.2.2.1) λx=>some (A.1,A.2.1,b,c,x,true)) (some (A.1,A.2.1,b,c,[],false))) (some (A.1,A.2.1,b,c,[],false))
def a4H:FQ:=⟨[tD y36,I8],cR 4 208 (tD y72),mE 45 [(131,a6R)],G8⟩
def a6F:FSpec:=Y3 a4H λx=>rV x.1 x.2
def yT(A:bW)(B:bW):Option Bool:=some (seq A.1 B.1)
def YJ:FQ:=⟨[tD y28,(false,(.rp y28))],tR 3 eY,mE 9 [],G8⟩
def TS:FSpec:=Y3 YJ λx=>yT x.1 x.2
def je(A:List bW)(B:bW):Option Int:=l9 (ak (λ(x:Int)=>l7 (I7 x (x9 A)) (l9 (H9 A x) λb=>l9 (yT b B) λc=>l7 c (some (.rt x)) (some (.nx (D7 .i64 x 1)))) (some (.ex ()))) 0) λo=>aN o (λy=>some (-1)) λr=>some r
def YL:FQ:=⟨[uD y29,(false,(.fn 133 [y28]))],tR 4 I8,mE 19 [(133,TS)],sN 1 (aK (sN 1 (dY (lpR [(4,6),(8,19)] ⟨[(8,I8)],[]⟩ 0 sgN G8))) G8)⟩
def Zr:FSpec:=Y3 YL λx=>je x.1 x.2
def gX(A:List bW)(B:bW):Option Bool:=l9 (je A B) λx=>some (Y2 0 x)
def YI:FQ:=⟨[uD y29,(false,(.fn 133 [y28]))],tR 4 eY,mE 9 [(153,Zr)],G8⟩
def Zp:FSpec:=Y3 YI λx=>gX x.1 x.2
def a4F:List MG:=[(false,(.dat .str)),(false,(.dat .str))]
def a7b:FSpec:=⟨a4F,[eY],[],λx=>qH x.1 x.2⟩
def yX(A:List UInt8):Option Bool:=l7 (I7 64 (x9 A)) (some false) (l9 (qH A [34]) λx=>l7 x (some false) (l9 (ak (λ(x:Int)=>l7 (I7 x (x9 A)) (l9 (sat A x) λb=>l7 (I7 b 32) (some (.rt false)) (l9 (sat A x) λc=>l7 (I7 126 c) (some (.rt false)) (some (.nx (D7 .i64 x 1))))) (some (.ex ()))) 0) λo=>aN o (λy=>some true) λr=>some r))
def a4W:FQ:=⟨[uD .str],tR 2 eY,mE 27 [(154,a7b)],sN 2 (aK (sN 1 (dY (lpR [(2,4),(13,27)] ⟨[(13,I8)],[]⟩ 0 sgN G8))) G8)⟩
def a6S:FSpec:=Y3 a4W λx=>yX x
def nZ(A:Int):Option Int:=l9 (l7 (x8 A 1) (some (x8 A 1)) (l7 (x8 A 2) (some (x8 A 2)) (l7 (x8 A 3) (some (x8 A 3)) (l7 (x8 A 4) (some (x8 A 4)) (l7 (x8 A 5) (some (x8 A 5)) (l7 (x8 A 6) (some (x8 A 6)) (l7 (x8 A 7) (some (x8 A 7)) (l7 (x8 A 8) (some (x8 A 8)) (l7 (x8 A 9) (some (x8 A 9)) (l7 (x8 A 35) (some (x8 A 35)) (l7 (x8 A 36) (some (x8 A 36)) (l7 (x8 A 37) (some (x8 A 37)) (l7 (x8 A 38) (some (x8 A 38)) (some (x8 A 39))))))))))))))) λx=>l7 x (some 0) (l9 (l7 (x8 A 10) (some (x8 A 10)) (l7 (x8 A 25) (some (x8 A 25)) (l7 (x8 A 31) (some (x8 A 31)) (l7 (x8 A 32) (some (x8 A 32)) (l7 (x8 A 33) (some (x8 A 33)) (some (x8 A 34))))))) λx=>l7 x (some 1) (l9 (l7 (x8 A 11) (some (x8 A 11)) (l7 (x8 A 12) (some (x8 A 12)) (l7 (x8 A 13) (some (x8 A 13)) (l7 (x8 A 14) (some (x8 A 14)) (l7 (x8 A 15) (some (x8 A 15)) (l7 (x8 A 16) (some (x8 A 16)) (l7 (x8 A 17) (some (x8 A 17)) (l7 (x8 A 18) (some (x8 A 18)) (l7 (x8 A 19) (some (x8 A 19)) (l7 (x8 A 20) (some (x8 A 20)) (l7 (x8 A 21) (some (x8 A 21)) (l7 (x8 A 22) (some (x8 A 22)) (l7 (x8 A 23) (some (x8 A 23)) (l7 (x8 A 24) (some (x8 A 24)) (l7 (x8 A 27) (some (x8 A 27)) (l7 (x8 A 28) (some (x8 A 28)) (l7 (x8 A 29) (some (x8 A 29)) (some (x8 A 30))))))))))))))))))) λx=>l7 x (some 2) (l7 (x8 A 26) (some 3) (some (-1)))))
def a5r:FQ:=⟨[I8],tR 2 I8,mE 47 [],sN 1 (aK (sN 1 (dY (aK (.join [(4,19)] ⟨[(4,eY)],[]⟩ G8) (.cond G8 (aK (.join [(19,26)] ⟨[(19,eY)],[]⟩ G8) (.cond G8 (aK (.join [(26,45)] ⟨[(26,eY)],[]⟩ G8) G8))))))) G8)⟩
def WN:FSpec:=Y3 a5r λx=>nZ x
def uj(A:List O7):Option (List Int×O7):=l7 (I7 48 (x9 A)) (some ([],0,4)) (l7 (x8 (x9 A) 0) (some ([],0,5)) (l9 (uz (x9 A) 0) λx=>l9 (ak (λ(x:List Int×List Int×Int)=>l7 (I7 x.2.2 (x9 A)) (l9 (H9 A x.2.2) λg=>l9 (nZ g.1) λb=>l7 (I7 b 0) (some (.rt ([],x.2.2,2))) (l7 (I7 (x9 x.2.1) b) (some (.rt ([],x.2.2,5))) (l9 (H9 x.1 x.2.2) λk=>l9 (Y6 x.1 (Y7 x.2.2)) λn=>l7 (I7 0 b) (l9 (H9 x.2.1 (O0 .i64 (x9 x.2.1) b)) λj=>l9 (Y6 x.2.1 (Y7 (O0 .i64 (x9 x.2.1) b))) λc=>l9 (H9 (aU x.1 (Y7 x.2.2) x.2.2) x.2.2) λd=>l9 (Y6 (aU x.1 (Y7 x.2.2) x.2.2) (Y7 x.2.2)) λp=>l7 (uP 0 (O0 .i64 (x9 x.2.1) b) (x9 x.2.1)) (l9 (H9 (aU (aU x.1 (Y7 x.2.2) x.2.2) (Y7 x.2.2) c) x.2.2) λq=>l9 (Y6 (aU (aU x.1 (Y7 x.2.2) x.2.2) (Y7 x.2.2) c) (Y7 x.2.2)) λi=>l9 (dD (oG x.2.1 (Y7 0) (Y7 (O0 .i64 (x9 x.2.1) b))) [i]) λf=>l7 (I7 12 (x9 f)) (some (.rt ([],x.2.2,16))) (some (.nx (aU (aU x.1 (Y7 x.2.2) x.2.2) (Y7 x.2.2) c,f,D7 .i64 x.2.2 1)))) none) (l7 (uP 0 (O0 .i64 (x9 x.2.1) b) (x9 x.2.1)) (l9 (H9 (aU x.1 (Y7 x.2.2) x.2.2) x.2.2) λj=>l9 (Y6 (aU x.1 (Y7 x.2.2) x.2.2) (Y7 x.2.2)) λc=>l9 (dD (oG x.2.1 (Y7 0) (Y7 (O0 .i64 (x9 x.2.1) b))) [c]) λd=>l7 (I7 12 (x9 d)) (some (.rt ([],x.2.2,16))) (some (.nx (aU x.1 (Y7 x.2.2) x.2.2,d,D7 .i64 x.2.2 1)))) none)))) (some (.ex (x.1,x.2.1)))) (x,[],0)) λo=>aN o (λ(y:List Int×List Int)=>l7 (I7 1 (x9 y.2)) (some ([],x9 A,4)) (some (y.1,0,0))) λr=>some r))
def a5p:FQ:=⟨[uD y21],⟨[(.tmp 2,gZ),(.tmp 3,I8),(.tmp 4,I8)],[]⟩,mE 76 [(180,WN)],sN 5 (aK (sN 1 (dY (lpR [(2,10),(21,70),(27001152,27001153)] ⟨[(5,gZ),(6,gZ),(21,I8)],[]⟩ 0 ⟨[(5,gZ),(6,gZ)],[]⟩ G8))) G8)⟩
def a2q:FSpec:=Y3 a5p λx=>uj x
def CZ(A:Int):Option Bool:=l7 (x8 A 1) (l7 (x8 A 1) (some true) (some false)) (l7 (x8 A 2) (l7 (x8 A 2) (some true) (some false)) (l7 (x8 A 3) (l7 (x8 A 3) (some true) (some false)) (l7 (x8 A 4) (l7 (x8 A 4) (some true) (some false)) (l7 (x8 A 5) (l7 (x8 A 5) (some true) (some false)) (l7 (x8 A 6) (l7 (x8 A 6) (some true) (some false)) (l7 (x8 A 7) (l7 (x8 A 7) (some true) (some false)) (l7 (x8 A 8) (l7 (x8 A 8) (some true) (some false)) (l7 (x8 A 14) (l7 (x8 A 14) (some true) (some false)) (l7 (x8 A 15) (l7 (x8 A 15) (some true) (some false)) (l7 (x8 A 16) (l7 (x8 A 16) (some true) (some false)) (l7 (x8 A 33) (l7 (x8 A 33) (some true) (some false)) (l7 (x8 A 34) (l7 (x8 A 34) (some true) (some false)) (l7 (x8 A 36) (l7 (x8 A 36) (some true) (some false)) (l7 (x8 A 37) (l7 (x8 A 37) (some true) (some false)) (l7 (x8 A 38) (l7 (x8 A 38) (some true) (some false)) (l7 (x8 A 39) (some true) (some false)))))))))))))))))
def a5q:FQ:=⟨[I8],tR 2 eY,mE 22 [],G8⟩
def a2r:FSpec:=Y3 a5q λx=>CZ x
def iL(A:Int)(B:Int)(C:L6):Option (O7×Int):=l9 (mQ (B,0) C.1) λx=>l7 (I7 A x.1) (some ((0,0),3)) (l7 (I7 x.2 A) (some ((0,0),3)) (some ((B,0),0)))
def a5z:FQ:=⟨[I8,I8,tD y72],⟨[(.cell 6 66,tD y0),(.tmp 7,I8)],[]⟩,mE 30 [(89,s89)],G8⟩
def a7o:FSpec:=Y3 a5z λx=>iL x.1 x.2.1 x.2.2
def BO(A:Int)(B:L6):Option (O7×Int):=l7 (I7 A 0) (some ((0,0),3)) (l7 (Y2 (x9 B.1) (jk .i64 A 16)) (some ((0,0),6)) (l9 (H9 B.1 (jk .i64 A 16)) λx=>l7 (Y2 (x9 x.2) (pz A 16)) (some ((0,0),6)) (some ((6,jk .i64 A 16),0))))
def a5A:FQ:=⟨[I8,tD y72],⟨[(.cell 4 66,tD y0),(.tmp 5,I8)],[]⟩,mE 34 [],G8⟩
def a7p:FSpec:=Y3 a5A λx=>BO x.1 x.2
def iq(A:Int)(B:List O7)(C:L6):Option (O7×Int):=l7 (I7 A 0) (some ((0,0),6)) (l7 (Y2 (x9 B) A) (some ((0,0),6)) (l9 (H9 B A) λx=>l9 (aS x C.1) λx=>l7 (G5 x) (some ((0,0),8)) (l9 (H9 B A) λx=>some (x,0))))
def a5B:FQ:=⟨[I8,uD y21,tD y72],⟨[(.cell 6 66,tD y0),(.tmp 7,I8)],[]⟩,mE 30 [(85,s85)],G8⟩
def a2t:FSpec:=Y3 a5B λx=>iq x.1 x.2.1 x.2.2
def lM(A:Int):Option Bool:=l7 (Y2 0 A) (some (Y2 A 5)) (some false)
def a5E:FQ:=⟨[I8],tR 2 eY,mE 9 [],G8⟩
def a2u:FSpec:=Y3 a5E λx=>lM x
def zB(A:O7)(B:O7)(C:L6):Option (O7×Int):=l9 (l7 (x8 A.1 34) (l7 (I7 A.2 0) (some (.inr ((0,0),3))) (l9 (lM (pz A.2 8)) λx=>l7 (G5 x) (some (.inr ((0,0),3))) (some (.inl ((0,0),jk .i64 A.2 8))))) (some (.inl ((0,0),A.2)))) λo=>aN o (λ(x:O7×Int)=>l9 (l7 (I7 x.2 0) (some (.inr ((0,0),6))) (l7 (Y2 (x9 C.2.1) x.2) (some (.inr ((0,0),6))) (some (.inl x.1)))) λo=>aN o (λ(d:O7)=>l9 (H9 C.2.1 x.2) λb=>l9 (H9 C.2.1 x.2) λx=>l9 (l9 (aS b.2.1 C.1) λc=>l7 (G5 c) (some (.inr ((0,0),8))) (l9 (aS x.2.2.1 C.1) λx=>l7 (G5 x) (some (.inr ((0,0),8))) (l7 (G5 (V7 (x8 B.1 b.2.1.1) (x8 B.2 b.2.1.2))) (some (.inr ((0,0),8))) (some (.inl d))))) λo=>aN o (λ(c:O7)=>l7 (x8 A.1 34) (l7 (G5 (x8 b.2.1.1 3)) (some ((0,0),8)) (l7 (G5 (x8 x.2.2.1.1 4)) (some ((0,0),8)) (some (b.2.1,0)))) (some (x.2.2.1,0))) λr=>some r) λr=>some r) λr=>some r
def a5C:FQ:=⟨[tD y0,tD y0,tD y72],⟨[(.cell 6 66,tD y0),(.tmp 7,I8)],[]⟩,mE 84 [(205,a2u),(85,s85)],sN 2 (aK (jnR [(6,9),(13,30),(4000384,4000385)] ⟨[(6,(false,(.box (dT y0)))),(8,I8)],[]⟩ G8) (aK (jnR [(6,8),(30,40),(9000000,9000001)] ⟨[(6,(false,(.box (dT y0))))],[]⟩ G8) (sN 1 (aK (jnR [(6,8),(52,70),(27000000,27000001)] ⟨[(6,(false,(.box (dT y0))))],[]⟩ G8) G8))))⟩
def a7q:FSpec:=Y3 a5C λx=>zB x.1 x.2.1 x.2.2
def jH(A:Int):Option Bool:=l7 (x8 A 2) (some true) (l7 (x8 A 3) (some true) (some (x8 A 4)))
def a5N:FQ:=⟨[I8],tR 2 eY,mE 13 [],G8⟩
def a2v:FSpec:=Y3 a5N λx=>jH x
def yL(A:O7)(B:L6):Option (O7×Int):=l7 (G5 B.2.2.2.2.2) (some ((0,0),6)) (l7 (x8 A.1 35) (some ((2,0),0)) (l9 (iq A.2 B.2.2.2.2.1 B) λx=>l7 (G5 (x8 x.2 0)) (some ((0,0),x.2)) (l9 (l7 (x8 A.1 36) (l7 (x8 x.1.1 2) (some true) (some (x8 x.1.1 3))) (l7 (x8 A.1 37) (l7 (x8 A.1 37) (some (x8 x.1.1 1)) (l7 (x8 A.1 39) (l9 (jH x.1.1) λb=>l7 b (some true) (some (x8 x.1.1 5))) (some false))) (l7 (x8 A.1 38) (some (x8 x.1.1 1)) (l7 (x8 A.1 39) (l9 (jH x.1.1) λb=>l7 b (some true) (some (x8 x.1.1 5))) (some false))))) λb=>l7 (G5 b) (some ((0,0),8)) (some (x.1,0)))))
def a5D:FQ:=⟨[tD y0,tD y72],⟨[(.cell 4 66,tD y0),(.tmp 5,I8)],[]⟩,mE 62 [(202,a2t),(220,a2v)],sN 6 (aK (.join [(8,9),(30,58)] ⟨[(8,eY)],[]⟩ G8) G8)⟩
def a7r:FSpec:=Y3 a5D λx=>yL x.1 x.2
def xe(A:Int)(B:Int)(C:Int):Option (O7×Bool):=l7 (x8 A 14) (l7 (x8 C 4) (l7 (x8 B 3) (some ((B,0),true)) (some ((B,0),x8 B 4))) (some ((B,0),false))) (l7 (x8 C 2) (l7 (x8 B 2) (some ((B,0),true)) (some ((B,0),x8 B 3))) (l7 (x8 A 15) (l7 (x8 B 3) (l7 (x8 C 3) (some ((4,0),true)) (some ((0,0),false))) (some ((0,0),false))) (some ((0,0),false))))
def a5O:FQ:=⟨[I8,I8,I8],⟨[(.cell 6 66,tD y0),(.tmp 7,eY)],[]⟩,mE 47 [],G8⟩
def a7z:FSpec:=Y3 a5O λx=>xe x.1 x.2.1 x.2.2
def yM(A:Int)(B:List O7):Option (O7×Bool):=l9 (l7 (x8 A 10) (l9 (H9 B 0) λx=>l9 (H9 B 0) λb=>l9 (jH b.1) λc=>some (.inr (x,c))) (l7 (x8 A 25) (l9 (H9 B 0) λx=>some (.inr ((1,0),x8 x.1 1))) (l9 (l7 (x8 A 11) (some (x8 A 11)) (some (x8 A 12))) λx=>l7 x (l9 (H9 B 0) λx=>l9 (H9 B 0) λb=>l9 (H9 B 1) λc=>l7 (V7 (x8 b.1 c.1) (x8 b.2 c.2)) (l9 (H9 B 0) λd=>l9 (jH d.1) λf=>some (.inr (x,f))) (some (.inr (x,false)))) (l9 (l7 (x8 A 13) (some (x8 A 13)) (l7 (x8 A 14) (some (x8 A 14)) (some (x8 A 15)))) λx=>l7 x (l9 (H9 B 0) λx=>l9 (H9 B 1) λb=>l9 (xe A x.1 b.1) λx=>some (.inr x)) (l7 (x8 A 16) (l9 (H9 B 0) λx=>l9 (H9 B 0) λb=>l7 (x8 b.1 3) (l9 (H9 B 1) λc=>some (.inr (x,x8 c.1 3))) (some (.inr (x,false)))) (l9 (l7 (x8 A 17) (some (x8 A 17)) (some (x8 A 18))) λx=>l7 x (l9 (H9 B 0) λx=>l9 (H9 B 0) λb=>l9 (H9 B 1) λc=>l7 (V7 (x8 b.1 c.1) (x8 b.2 c.2)) (l9 (H9 B 0) λd=>l9 (jH d.1) λf=>l7 f (some (.inr (x,true))) (l9 (H9 B 0) λg=>some (.inr (x,x8 g.1 5)))) (some (.inr (x,false)))) (l9 (l7 (x8 A 19) (some (x8 A 19)) (some (x8 A 20))) λx=>l7 x (l9 (H9 B 0) λx=>l9 (H9 B 1) λb=>some (.inr ((1,0),V7 (x8 x.1 b.1) (x8 x.2 b.2)))) (l9 (l7 (x8 A 21) (some (x8 A 21)) (some (x8 A 22))) λx=>l7 x (l9 (H9 B 0) λx=>l9 (H9 B 1) λb=>l7 (V7 (x8 x.1 b.1) (x8 x.2 b.2)) (l9 (H9 B 0) λx=>l9 (jH x.1) λx=>l7 x (some (.inr ((1,0),true))) (l9 (H9 B 0) λx=>some (.inr ((1,0),x8 x.1 5)))) (some (.inr ((1,0),false)))) (l9 (l7 (x8 A 23) (some (x8 A 23)) (some (x8 A 24))) λx=>l7 x (l9 (H9 B 0) λx=>l7 (x8 x.1 1) (l9 (H9 B 1) λx=>some (.inr ((1,0),x8 x.1 1))) (some (.inr ((1,0),false)))) (l7 (x8 A 26) (l9 (H9 B 1) λx=>l9 (H9 B 0) λb=>l7 (x8 b.1 1) (l9 (H9 B 1) λc=>l9 (H9 B 2) λd=>some (.inr (x,V7 (x8 c.1 d.1) (x8 c.2 d.2)))) (some (.inr (x,false)))) (l9 (l7 (x8 A 27) (some (x8 A 27)) (some (x8 A 28))) λx=>l7 x (l9 (H9 B 0) λx=>l9 (H9 B 0) λb=>l7 (x8 b.1 5) (l9 (H9 B 1) λc=>some (.inr (x,x8 c.1 2))) (some (.inr (x,false)))) (l7 (x8 A 29) (l7 (x8 A 29) (l9 (H9 B 0) λx=>l7 (x8 x.1 5) (l9 (H9 B 1) λx=>some (.inr ((2,0),x8 x.1 5))) (some (.inr ((2,0),false)))) (l7 (x8 A 31) (l7 (x8 A 31) (l9 (H9 B 0) λx=>some (.inr ((2,0),x8 x.1 5))) (some (.inl (0,0)))) (l7 (x8 A 32) (l9 (H9 B 0) λx=>some (.inr ((2,0),x8 x.1 5))) (some (.inl (0,0)))))) (l7 (x8 A 30) (l9 (H9 B 0) λx=>l7 (x8 x.1 5) (l9 (H9 B 1) λx=>some (.inr ((2,0),x8 x.1 5))) (some (.inr ((2,0),false)))) (l7 (x8 A 31) (l7 (x8 A 31) (l9 (H9 B 0) λx=>some (.inr ((2,0),x8 x.1 5))) (some (.inl (0,0)))) (l7 (x8 A 32) (l9 (H9 B 0) λx=>some (.inr ((2,0),x8 x.1 5))) (some (.inl (0,0)))))))))))))))))) λo=>aN o (λ(x:O7)=>some ((0,0),false)) λr=>some r
def a5F:FQ:=⟨[I8,uD y21],⟨[(.cell 4 66,tD y0),(.tmp 5,eY)],[]⟩,mE 222 [(220,a2v),(221,a7z)],sN 2 (aK (jnR [(4,6),(8,221),(4000256,4000257)] ⟨[(4,(false,(.box (dT y0))))],[]⟩ (sN 1 (dY (sN 1 (.cond G8 (sN 1 (.cond G8 (aK (.join [(27,30)] ⟨[(27,eY)],[]⟩ G8) (.cond G8 (aK (.join [(47,51)] ⟨[(47,eY)],[]⟩ G8) (.cond G8 (sN 1 (.cond G8 (aK (.join [(80,83)] ⟨[(80,eY)],[]⟩ G8) (.cond G8 (aK (.join [(107,110)] ⟨[(107,eY)],[]⟩ G8) (.cond G8 (aK (.join [(118,121)] ⟨[(118,eY)],[]⟩ G8) (.cond G8 (aK (.join [(143,146)] ⟨[(143,eY)],[]⟩ G8) (.cond G8 (sN 1 (.cond G8 (aK (.join [(178,181)] ⟨[(178,eY)],[]⟩ G8) G8)))))))))))))))))))))))) G8)⟩
def a7s:FSpec:=Y3 a5F λx=>yM x.1 x.2
def wL(A:O7)(B:List O7)(C:L6):Option (O7×Int):=l9 (l7 (x8 A.1 1) (l9 (iL A.2 1 C) λx=>some (.inr x)) (l7 (x8 A.1 2) (l9 (iL A.2 2 C) λx=>some (.inr x)) (l7 (x8 A.1 3) (l9 (iL A.2 3 C) λx=>some (.inr x)) (l7 (x8 A.1 4) (l9 (iL A.2 4 C) λx=>some (.inr x)) (l7 (x8 A.1 5) (l9 (iL A.2 5 C) λx=>some (.inr x)) (l7 (x8 A.1 6) (l9 (BO A.2 C) λx=>some (.inr x)) (l7 (x8 A.1 7) (l9 (iq A.2 C.2.2.1 C) λx=>some (.inr x)) (l7 (x8 A.1 8) (l9 (iq A.2 C.2.2.2.1 C) λx=>some (.inr x)) (l7 (x8 A.1 9) (some (.inr ((5,0),0))) (l9 (l7 (x8 A.1 33) (some (x8 A.1 33)) (some (x8 A.1 34))) λx=>l7 x (l9 (H9 B 0) λx=>l9 (zB A x C) λx=>some (.inr x)) (l9 (l7 (x8 A.1 35) (some (x8 A.1 35)) (l7 (x8 A.1 36) (some (x8 A.1 36)) (l7 (x8 A.1 37) (some (x8 A.1 37)) (l7 (x8 A.1 38) (some (x8 A.1 38)) (some (x8 A.1 39)))))) λx=>l7 x (l9 (yL A C) λx=>some (.inr x)) (l7 (x8 A.1 14) (l7 (x8 A.1 14) (l9 (lM A.2) λx=>l7 (G5 x) (some (.inr ((0,0),3))) (some (.inl (0,0)))) (some (.inl (0,0)))) (l7 (x8 A.1 15) (l7 (x8 A.1 15) (l9 (lM A.2) λx=>l7 (G5 x) (some (.inr ((0,0),3))) (some (.inl (0,0)))) (some (.inl (0,0)))) (l7 (x8 A.1 16) (l9 (lM A.2) λx=>l7 (G5 x) (some (.inr ((0,0),3))) (some (.inl (0,0)))) (some (.inl (0,0))))))))))))))))) λo=>aN o (λ(x:O7)=>l9 (yM A.1 B) λx=>l7 (G5 x.2) (some ((0,0),8)) (some (x.1,0))) λr=>some r
def a5s:FQ:=⟨[tD y0,uD y21,tD y72],⟨[(.cell 6 66,tD y0),(.tmp 7,I8)],[]⟩,mE 125 [(200,a7o),(201,a7p),(202,a2t),(203,a7q),(204,a7r),(205,a2u),(206,a7s)],sN 1 (aK (jnR [(6,8),(10,114),(4000384,4000385)] ⟨[(6,(false,(.box (dT y0))))],[]⟩ (sN 1 (dY (sN 1 (.cond G8 (sN 1 (.cond G8 (sN 1 (.cond G8 (sN 1 (.cond G8 (sN 1 (.cond G8 (sN 1 (.cond G8 (sN 1 (.cond G8 (sN 1 (.cond G8 (sN 1 (.cond G8 (aK (.join [(83,86)] ⟨[(83,eY)],[]⟩ G8) (.cond G8 (aK (.join [(94,100)] ⟨[(94,eY)],[]⟩ G8) G8)))))))))))))))))))))))) G8)⟩
def a7j:FSpec:=Y3 a5s λx=>wL x.1 x.2.1 x.2.2
def GZ(A:List O7)(B:L6):Option (O7×O7):=l9 (uj A) λx=>l7 (G5 (x8 x.2.2 0)) (some ((0,0),x.2)) (l9 (ak (λ(x:O7×List O7×Int)=>l7 (I7 x.2.2 (x9 A)) (l9 (H9 A x.2.2) λc=>l7 (G5 (x8 c.2 0)) (l9 (CZ c.1) λd=>l7 (G5 d) (some (.rt ((0,0),x.2.2,2))) (l9 (nZ c.1) λb=>l7 (uP (O0 .i64 (x9 x.2.1) b) (x9 x.2.1) (x9 x.2.1)) (l9 (wL c (oG x.2.1 (Y7 (O0 .i64 (x9 x.2.1) b)) (Y7 (x9 x.2.1))) B) λf=>l7 (G5 (x8 f.2 0)) (some (.rt ((0,0),x.2.2,f.2))) (l7 (uP 0 (O0 .i64 (x9 x.2.1) b) (x9 x.2.1)) (l9 (dD (oG x.2.1 (Y7 0) (Y7 (O0 .i64 (x9 x.2.1) b))) [f.1]) λg=>some (.nx (x.1,g,D7 .i64 x.2.2 1))) none)) none)) (l9 (nZ c.1) λd=>l7 (uP (O0 .i64 (x9 x.2.1) d) (x9 x.2.1) (x9 x.2.1)) (l9 (wL c (oG x.2.1 (Y7 (O0 .i64 (x9 x.2.1) d)) (Y7 (x9 x.2.1))) B) λb=>l7 (G5 (x8 b.2 0)) (some (.rt ((0,0),x.2.2,b.2))) (l7 (uP 0 (O0 .i64 (x9 x.2.1) d) (x9 x.2.1)) (l9 (dD (oG x.2.1 (Y7 0) (Y7 (O0 .i64 (x9 x.2.1) d))) [b.1]) λf=>some (.nx (x.1,f,D7 .i64 x.2.2 1))) none)) none)) (some (.ex (x.1,x.2.1)))) ((0,0),[],0)) λo=>aN o (λ(y:O7×List O7)=>l9 (H9 y.2 0) λx=>l9 (Y6 y.2 (Y7 0)) λx=>some (x,0,0)) λr=>some r)
def a5i:FQ:=⟨[uD y21,tD y72],⟨[(.cell 4 66,tD y0),(.tmp 5,I8),(.tmp 6,I8)],[]⟩,mE 75 [(178,a2q),(179,a2r),(180,WN),(181,a7j)],sN 4 (aK (sN 1 (dY (lpR [(4,7),(10,16),(29,72),(4000256,4000257)] ⟨[(4,(false,(.box (dT y0)))),(10,(uO y0)),(29,I8)],[]⟩ 0 ⟨[(4,(false,(.box (dT y0)))),(10,(uO y0))],[]⟩ G8))) G8)⟩
def a7c:FSpec:=Y3 a5i λx=>GZ x.1 x.2
def qJ(A:List O7)(B:L6)(C:O7):Option Int:=l9 (GZ A B) λx=>l7 (G5 (x8 x.2.2 0)) (some x.2.2) (l7 (G5 (V7 (x8 x.1.1 C.1) (x8 x.1.2 C.2))) (some 8) (some 0))
def a4X:FQ:=⟨[uD y21,tD y72,tD y0],tR 6 I8,mE 23 [(155,a7c)],G8⟩
def a6T:FSpec:=Y3 a4X λx=>qJ x.1 x.2.1 x.2.2
def BU(A:A8)(B:Int)(C:L6):Option Int:=l9 (H9 A.2.2.2.2 B) λx=>l9 (rD A.2.2.2.2 0 B) λf=>l9 (aX (λ(b:O7)=>l7 (I7 b.2 (x9 f)) (l9 (H9 f b.2) λc=>l7 (x8 c.2.1 x.2.1) (some (.inl (D7 .i64 b.1 1,D7 .i64 b.2 1))) (some (.inl (b.1,D7 .i64 b.2 1)))) (some (.inr b.1))) (0,0)) λy=>l9 (l9 (dM x.1) λb=>l7 (G5 b) (some (.inr 2)) (l9 (rD A.2.2.2.2 0 B) λc=>l9 (gX c x) λg=>l7 g (some (.inr 7)) (l9 (l7 (I7 x.2.1 0) (some true) (some (Y2 (x9 A.2.2.2.1) x.2.1))) λi=>l7 i (some (.inr 6)) (l9 (l7 (G5 (x8 x.2.2.1 (-1))) (l7 (I7 x.2.2.1 0) (some true) (l7 (Y2 B x.2.2.1) (some true) (l9 (H9 A.2.2.2.2 x.2.2.1) λd=>some (G5 (x8 d.2.1 x.2.1))))) (some false)) λd=>l7 d (some (.inr 9)) (l9 (l7 (I7 x.2.2.2.1 0) (some true) (some (I7 9 x.2.2.2.1))) λj=>l7 j (some (.inr 3)) (l7 (I7 x.2.2.2.2.1.1 0) (some (.inr 3)) (l7 (Y2 x.2.2.2.2.1.2 x.2.2.2.2.1.1) (some (.inr 3)) (l7 (I7 109573 x.2.2.2.2.1.2) (some (.inr 3)) (l7 (Y2 8 y) (some (.inr 4)) (l9 (yX x.2.2.2.2.2.2.2) λk=>l7 (G5 k) (some (.inr 2)) (some (.inl x)))))))))))) λo=>aN o (λ(x:bW)=>l7 (I7 0 (x9 x.2.2.2.2.2.1)) (l9 (qJ x.2.2.2.2.2.1 C (1,0)) λb=>l7 (G5 (x8 b 0)) (some b) (l9 (H9 A.2.2.2.1 x.2.1) λc=>l9 (qJ x.2.2.2.2.2.2.1 C c.2) λx=>some x)) (l9 (H9 A.2.2.2.1 x.2.1) λb=>l9 (qJ x.2.2.2.2.2.2.1 C b.2) λx=>some x)) λr=>some r
def a4I:FQ:=⟨[tD y33,I8,tD y72],tR 6 I8,mE 145 [(62,s62),(133,TS),(132,Zp),(134,a6S),(135,a6T)],sN 3 (aK (sN 1 (dY (.loop [(8,9),(10,11),(22,34)] ⟨[(8,I8),(22,I8)],[]⟩ 0 ⟨[(8,I8)],[]⟩ G8))) (aK (jnR [(6,8),(34,122),(7000448,7000449)] ⟨[(7,(false,(.rp y28)))],[]⟩ (dY (sN 1 (.cond G8 (sN 1 (.cond G8 (aK (.join [(46,58)] ⟨[(46,eY)],[]⟩ G8) (.cond G8 (aK (.join [(58,85)] ⟨[(58,eY)],[]⟩ G8) (.cond G8 (aK (.join [(85,94)] ⟨[(85,eY)],[]⟩ G8) G8))))))))))) G8))⟩
def a6G:FSpec:=Y3 a4I λx=>BU x.1 x.2.1 x.2.2
def a4D:List MG:=[(false,(.ownb (.int .i64)))]
def a2m:FSpec:=⟨a4D,[],[gZ],λx=>zl x⟩
def a4E:List MG:=[gZ]
def a2n:FSpec:=⟨a4E,[gZ],[],λx=>qM x⟩
def qI(A:List Int):Option (List Int):=l9 (zl A) λx=>l9 (qM x) λx=>some x
def a4O:FQ:=⟨[gZ],tR 2 gZ,mE 7 [(112,a2m),(113,a2n)],G8⟩
def a6M:FSpec:=Y3 a4O λx=>qI x
def kV(A:List O7):Option jT:=l9 (aX (λ(x:List Int×List Int×List Int×Int)=>l7 (I7 x.2.2.2 (x9 A)) (l9 (H9 A x.2.2.2) λb=>l7 (x8 b.1 7) (l9 (dD x.1 [b.2]) λc=>some (.inl (c,x.2.1,x.2.2.1,D7 .i64 x.2.2.2 1))) (l7 (x8 b.1 8) (l9 (dD x.2.1 [b.2]) λc=>some (.inl (x.1,c,x.2.2.1,D7 .i64 x.2.2.2 1))) (l7 (x8 b.1 36) (l7 (x8 b.1 36) (l9 (dD x.2.2.1 [b.2]) λc=>some (.inl (x.1,x.2.1,c,D7 .i64 x.2.2.2 1))) (some (.inl (x.1,x.2.1,x.2.2.1,D7 .i64 x.2.2.2 1)))) (l7 (x8 b.1 37) (l7 (x8 b.1 37) (l9 (dD x.2.2.1 [b.2]) λc=>some (.inl (x.1,x.2.1,c,D7 .i64 x.2.2.2 1))) (some (.inl (x.1,x.2.1,x.2.2.1,D7 .i64 x.2.2.2 1)))) (l7 (x8 b.1 38) (l7 (x8 b.1 38) (l9 (dD x.2.2.1 [b.2]) λc=>some (.inl (x.1,x.2.1,c,D7 .i64 x.2.2.2 1))) (some (.inl (x.1,x.2.1,x.2.2.1,D7 .i64 x.2.2.2 1)))) (l7 (x8 b.1 39) (l9 (dD x.2.2.1 [b.2]) λc=>some (.inl (x.1,x.2.1,c,D7 .i64 x.2.2.2 1))) (some (.inl (x.1,x.2.1,x.2.2.1,D7 .i64 x.2.2.2 1))))))))) (some (.inr (x.1,x.2.1,x.2.2.1)))) ([],[],[],0)) λy=>l9 (qI y.1) λx=>l9 (qI y.2.1) λb=>l9 (qI y.2.2) λc=>some (x,b,c)
def q75:FQ:=⟨[uD y21],⟨[(.tmp 2,gZ),(.tmp 3,gZ),(.tmp 4,gZ)],[]⟩,mE 49 [(111,a6M)],sN 2 (aK (sN 1 (dY (.loop [(5,8),(9,10),(12,43)] ⟨[(5,gZ),(6,gZ),(7,gZ),(12,I8)],[]⟩ 0 ⟨[(5,gZ),(6,gZ),(7,gZ)],[]⟩ G8))) G8)⟩
def s75:FSpec:=Y3 q75 λx=>kV x
def tN(A:bW)(B:Int):Option (List Int):=l9 (kV A.2.2.2.2.2.1) λx=>l9 (kV A.2.2.2.2.2.2.1) λd=>l9 (aX (λ(b:List Int×Int)=>l7 (I7 b.2 (x9 x.2.1)) (l9 (H9 x.2.1 b.2) λc=>l9 (Y6 x.2.1 (Y7 b.2)) λx=>l7 (Y2 0 x) (l7 (I7 x B) (l9 (dD b.1 [x]) λx=>some (.inl (x,D7 .i64 b.2 1))) (some (.inl (b.1,D7 .i64 b.2 1)))) (some (.inl (b.1,D7 .i64 b.2 1)))) (some (.inr b.1))) ([],0)) λy=>l9 (aX (λ(x:List Int×Int)=>l7 (I7 x.2 (x9 d.2.1)) (l9 (H9 d.2.1 x.2) λb=>l9 (Y6 d.2.1 (Y7 x.2)) λc=>l7 (Y2 0 c) (l7 (I7 c B) (l9 (dD x.1 [c]) λf=>some (.inl (f,D7 .i64 x.2 1))) (some (.inl (x.1,D7 .i64 x.2 1)))) (some (.inl (x.1,D7 .i64 x.2 1)))) (some (.inr x.1))) (y,0)) λy=>some y
def a4N:FQ:=⟨[tD y28,I8],tR 4 gZ,mE 67 [(75,s75)],sN 4 (aK (sN 1 (dY (.loop [(5,6),(13,14),(32,48)] ⟨[(5,gZ),(32,I8)],[]⟩ 0 ⟨[(5,gZ)],[]⟩ G8))) (aK (sN 1 (dY (.loop [(5,6),(15,16),(50,66),(21000000,21000001)] ⟨[(5,gZ),(50,I8)],[]⟩ 2 ⟨[(5,gZ)],[]⟩ G8))) G8))⟩
def a6L:FSpec:=Y3 a4N λx=>tN x.1 x.2
def tV(A:List Int):Option (List Int):=l9 (zl A) λx=>l9 (qM x) λx=>some x
def q76:FQ:=⟨[gZ],tR 2 gZ,mE 7 [(112,a2m),(113,a2n)],G8⟩
def s76:FSpec:=Y3 q76 λx=>tV x
def oQ(A:A8):Option (List (List Int)):=l9 (uz (x9 A.2.2.2.1) []) λx=>l9 (aX (λ(x:List (List Int)×Int)=>l7 (I7 x.2 (x9 A.2.2.2.2)) (l9 (H9 A.2.2.2.2 x.2) λb=>l7 (Y2 0 b.2.1) (l7 (I7 b.2.1 (x9 x.1)) (l7 (inb b.2.1 (x9 x.1)) (l9 (Y6 x.1 (Y7 b.2.1)) λc=>l9 (tN b (x9 x.1)) λd=>l9 (dD c d) λf=>l7 (inb b.2.1 (x9 x.1)) (l7 (a0k (Y7 b.2.1) (Y7 b.2.1)) (l9 (Y6 x.1 (Y7 b.2.1)) λg=>some (.inl (aU x.1 (Y7 b.2.1) f,D7 .i64 x.2 1))) none) none) none) (some (.inl (x.1,D7 .i64 x.2 1)))) (some (.inl (x.1,D7 .i64 x.2 1)))) (some (.inr x.1))) (x,0)) λy=>l9 (aX (λ(x:List (List Int)×Int)=>l7 (I7 x.2 (x9 y)) (l7 (inb x.2 (x9 x.1)) (l9 (Y6 x.1 (Y7 x.2)) λb=>l9 (tV b) λc=>l7 (inb x.2 (x9 x.1)) (l7 (a0k (Y7 x.2) (Y7 x.2)) (l9 (Y6 x.1 (Y7 x.2)) λd=>some (.inl (aU x.1 (Y7 x.2) c,D7 .i64 x.2 1))) none) none) none) (some (.inr x.1))) (y,0)) λy=>some y
def q74:FQ:=⟨[tD y33],tR 2 (uD y63),⟨58,eqs,tt,gl,[(110,a6L),(76,s76)],[(167,oiM)],[7,36,50,53],[],[],[]⟩,sN 2 (aK (sN 1 (dY (.loop [(3,4),(5,6),(15,44),(7000704,7000705)] ⟨[(3,(false,(.owns oiM))),(15,I8)],[]⟩ 0 ⟨[(3,(false,(.owns oiM)))],[]⟩ G8))) (aK (sN 1 (dY (.loop [(3,4),(6,8),(44,45),(46,57),(15000000,15000001)] ⟨[(3,(false,(.owns oiM))),(46,I8)],[(44,3)]⟩ 2 ⟨[(3,(false,(.owns oiM)))],[]⟩ G8))) G8))⟩
def s74:FSpec:=Y3 q74 λx=>oQ x
def xK(A:List (List Int))(B:Int):Option (List Int):=l9 (uz (x9 A) false) λx=>l9 (aX (λ(x:List Bool×List Int)=>l7 (I7 0 (x9 x.2)) (l9 (H9 x.2 0) λf=>l9 (Y6 x.2 (Y7 0)) λd=>l7 (uP 1 (x9 x.2) (x9 x.2)) (l9 (H9 A d) λc=>l9 (aX (λ(x:List Bool×List Int×Int)=>l7 (I7 x.2.2 (x9 c)) (l9 (H9 c x.2.2) λb=>l9 (H9 x.1 b) λj=>l9 (Y6 x.1 (Y7 b)) λg=>l7 (G5 g) (l9 (H9 x.1 b) λk=>l9 (Y6 x.1 (Y7 b)) λn=>l9 (dD x.2.1 [b]) λi=>some (.inl (aU x.1 (Y7 b) true,i,D7 .i64 x.2.2 1))) (some (.inl (x.1,x.2.1,D7 .i64 x.2.2 1)))) (some (.inr (x.1,x.2.1)))) (x.1,oG x.2 (Y7 1) (Y7 (x9 x.2)),0)) λy=>some (.inl y)) none) (some (.inr x.1))) (x,[B])) λy=>l9 (aX (λ(x:List Int×Int)=>l7 (I7 x.2 (x9 y)) (l9 (H9 y x.2) λf=>l9 (Y6 y (Y7 x.2)) λd=>l7 d (l9 (dD x.1 [x.2]) λc=>some (.inl (c,D7 .i64 x.2 1))) (some (.inl (x.1,D7 .i64 x.2 1)))) (some (.inr x.1))) ([],0)) λy=>some y
def q73:FQ:=⟨[uD y63,I8],tR 4 gZ,mE 62 [],sN 3 (aK (dY (.loop [(5,8),(9,10),(18,48),(7000960,7000961),(10001088,10001089)] ⟨[(5,(uO .bool)),(6,gZ)],[]⟩ 0 ⟨[(5,(uO .bool))],[]⟩ (sN 1 (dY (sN 3 (dY (.loop [(5,7),(9,10),(31,48),(14000000,14000002)] ⟨[(5,(uO .bool)),(6,gZ),(31,I8)],[]⟩ 2 ⟨[(5,(uO .bool)),(6,gZ)],[]⟩ G8))))))) (sN 1 (aK (sN 1 (dY (.loop [(10,13),(50,61)] ⟨[(10,gZ),(50,I8)],[]⟩ 4 ⟨[(10,gZ)],[]⟩ G8))) G8)))⟩
def s73:FSpec:=Y3 q73 λx=>xK x.1 x.2
def jq(A:A8)(B:Int):Option (List Int):=l7 (I7 B 0) (some []) (l7 (Y2 (x9 A.2.2.2.1) B) (some []) (l9 (oQ A) λx=>l9 (xK x B) λx=>some x))
def q46:FQ:=⟨[tD y33,I8],tR 4 gZ,mE 18 [(74,s74),(73,s73)],G8⟩
def s46:FSpec:=Y3 q46 λx=>jq x.1 x.2
def qV(A:List Int)(B:Int):Option Int:=l9 (ak (λ(x:Int)=>l7 (I7 x (x9 A)) (l9 (H9 A x) λb=>l7 (x8 B b) (some (.rt x)) (some (.nx (D7 .i64 x 1)))) (some (.ex ()))) 0) λo=>aN o (λy=>some (-1)) λr=>some r
def a4Y:FQ:=⟨[uD y10,I8],tR 4 I8,mE 19 [],sN 1 (aK (sN 1 (dY (lpR [(4,6),(8,19)] ⟨[(8,I8)],[]⟩ 0 sgN G8))) G8)⟩
def a6U:FSpec:=Y3 a4Y λx=>qV x.1 x.2
def oL(A:List Int)(B:Int):Option Bool:=l9 (qV A B) λx=>some (Y2 0 x)
def a4J:FQ:=⟨[uD y10,I8],tR 4 eY,mE 9 [(136,a6U)],G8⟩
def a6H:FSpec:=Y3 a4J λx=>oL x.1 x.2
def zS(A:ay)(B:Int):Option O7:=l9 (H9 A.2.2 B) λx=>l9 (rD A.2.2 0 B) λf=>l9 (l9 (vS A.1 x.1) λd=>l7 d (some (x,true)) (l9 (yl A.2.1 x.1) λb=>l7 b (some (x,true)) (l9 (fV f x) λc=>some (x,c)))) λx=>l9 (l9 (dM x.1.1) λd=>l7 (G5 d) (some (.inr (2,0))) (l7 x.2 (some (.inr (7,0))) (l9 (l7 (G5 (x8 x.1.2.1 (-1))) (l7 (I7 x.1.2.1 0) (some true) (l7 (Y2 B x.1.2.1) (some true) (l9 (H9 f x.1.2.1) λx=>some (G5 (x8 x.2.1 (-1)))))) (some false)) λb=>l7 b (some (.inr (6,0))) (l7 (I7 12 (x9 x.1.2.2.1)) (some (.inr (4,112))) (l7 (I7 12 (x9 x.1.2.2.2.1)) (some (.inr (4,212))) (some (.inl ()))))))) λo=>aN o (λd=>l9 (ak (λ(b:Int)=>l7 (I7 b (x9 x.1.2.2.1)) (l9 (H9 x.1.2.2.1 b) λc=>l9 (rD x.1.2.2.1 0 b) λx=>l9 (uw A c x []) λx=>l7 (G5 (x8 x 0)) (some (.rt (x,D7 .i64 100 b))) (some (.nx (D7 .i64 b 1)))) (some (.ex ()))) 0) λo=>aN o (λy=>l9 (ak (λ(b:Int)=>l7 (I7 b (x9 x.1.2.2.2.1)) (l9 (H9 x.1.2.2.2.1 b) λc=>l9 (rD x.1.2.2.2.1 0 b) λg=>l9 (uw A c x.1.2.2.1 g) λx=>l7 (G5 (x8 x 0)) (some (.rt (x,D7 .i64 200 b))) (some (.nx (D7 .i64 b 1)))) (some (.ex ()))) 0) λo=>aN o (λy=>l9 (rV A B) λb=>l9 (ak (λ(c:Int)=>l7 (I7 c (x9 x.1.2.2.2.2)) (l9 (BU x.1 c b) λx=>l7 (G5 (x8 x 0)) (some (.rt (x,D7 .i64 300 c))) (some (.nx (D7 .i64 c 1)))) (some (.ex ()))) 0) λo=>aN o (λy=>l9 (ak (λ(c:Int)=>l7 (I7 c (x9 x.1.2.2.2.1)) (l9 (jq x.1 c) λx=>l9 (oL x c) λx=>l7 x (some (.rt (9,D7 .i64 200 c))) (some (.nx (D7 .i64 c 1)))) (some (.ex ()))) 0) λo=>aN o (λy=>some (0,0)) λr=>some r) λr=>some r) λr=>some r) λr=>some r) λr=>some r
def q65:FQ:=⟨[tD y36,I8],⟨[(.tmp 4,I8),(.tmp 5,I8)],[]⟩,mE 163 [(63,s63),(64,s64),(102,TQ),(101,Zi),(62,s62),(103,a6E),(104,a6F),(105,a6G),(46,s46),(106,a6H)],sN 3 (aK (.join [(6,7),(8,9),(28,45),(7000384,7000385)] ⟨[(6,(false,(.rp y33))),(8,eY)],[]⟩ G8) (aK (jnR [(4,6),(45,86)] sgN (dY (sN 1 (.cond G8 (sN 1 (.cond G8 (aK (.join [(52,76)] ⟨[(52,eY)],[]⟩ G8) G8))))))) (aK (sN 1 (dY (lpR [(4,6),(9,12),(89,107)] ⟨[(89,I8)],[]⟩ 1 sgN G8))) (aK (sN 1 (dY (lpR [(4,6),(12,15),(110,130)] ⟨[(110,I8)],[]⟩ 3 sgN G8))) (sN 1 (aK (sN 1 (dY (lpR [(4,6),(16,18),(136,149)] ⟨[(136,I8)],[]⟩ 5 sgN G8))) (aK (sN 1 (dY (lpR [(4,6),(18,19),(152,163)] ⟨[(152,I8)],[]⟩ 7 sgN G8))) G8)))))))⟩
def s65:FSpec:=Y3 q65 λx=>zS x.1 x.2
def yU(A:ay):Option bi:=l7 (I7 4 (x9 A.2.2)) (some (4,3,4,0)) (l9 (ak (λ(x:bi×Int)=>l7 (I7 x.2 (x9 A.2.2)) (l9 (zS A x.2) λb=>l7 (G5 (x8 b.1 0)) (some (.rt (b.1,3,x.2,b.2))) (some (.nx (x.1,D7 .i64 x.2 1)))) (some (.ex x.1))) ((0,0,0,0),0)) λo=>aN o (λ(y:bi)=>some (0,0,0,0)) λr=>some r)
def q37:FQ:=⟨[tD y36],cR 2 84 (tD y41),mE 31 [(65,s65)],sN 2 (aK (sN 1 (dY (lpR [(2,6),(14,30),(4000128,4000129)] ⟨[(2,(false,(.box (dT y41)))),(14,I8)],[]⟩ 0 ⟨[(2,(false,(.box (dT y41))))],[]⟩ G8))) G8)⟩
def s37:FSpec:=Y3 q37 λx=>yU x
def sF(A:ay):Option bi:=l9 (zQ A) λx=>l7 (G5 (x8 x.1 0)) (some x) (l9 (yV A) λx=>l7 (G5 (x8 x.1 0)) (some x) (l9 (yU A) λx=>some x))
def q23:FQ:=⟨[tD y36],cR 2 84 (tD y41),mE 19 [(35,s35),(36,s36),(37,s37)],G8⟩
def s23:FSpec:=Y3 q23 λx=>sF x
def mf(A:List (List UInt8))(B:List (List UInt8)):Option Bool:=l7 (G5 (x8 (x9 A) (x9 B))) (some false) (l9 (ak (λ(x:Int)=>l7 (I7 x (x9 A)) (l9 (H9 A x) λb=>l9 (H9 B x) λc=>l7 (G5 (seq b c)) (some (.rt false)) (some (.nx (D7 .i64 x 1)))) (some (.ex ()))) 0) λo=>aN o (λy=>some true) λr=>some r)
def q66:FQ:=⟨[uD (.sl .str),(uD (.sl .str))],tR 4 eY,mE 26 [],sN 2 (aK (sN 1 (dY (lpR [(4,6),(13,26)] ⟨[(13,I8)],[]⟩ 0 sgN G8))) G8)⟩
def s66:FSpec:=Y3 q66 λx=>mf x.1 x.2
def xw(A:iI)(B:iI):Option Bool:=l7 (seq A.1 B.1) (l9 (mf A.2 B.2) λx=>some x) (some false)
def q39:FQ:=⟨[tD y11,tD y11],tR 4 eY,mE 17 [(66,s66)],G8⟩
def s39:FSpec:=Y3 q39 λx=>xw x.1 x.2
def bM(A:List iI)(B:List iI)(C:Unit):Option Bool:=l7 (G5 (x8 (x9 A) (x9 B))) (some false) (l9 (ak (λ(x:Int)=>l7 (I7 x (x9 A)) (l9 (H9 A x) λb=>l9 (H9 B x) λc=>l9 (xw b c) λd=>l7 (G5 d) (some (.rt false)) (some (.nx (D7 .i64 x 1)))) (some (.ex ()))) 0) λo=>aN o (λy=>some true) λr=>some r)
def a1k:FQ:=⟨[uD y12,uD y12,(false,(.fn 39 []))],tR 6 eY,mE 32 [(39,s39)],sN 2 (aK (sN 1 (dY (lpR [(6,10),(17,32)] ⟨[(17,I8)],[]⟩ 0 sgN G8))) G8)⟩
def a1v:FSpec:=Y3 a1k λx=>bM x.1 x.2.1 x.2.2
def kY(A:List EY)(B:List EY):Option Bool:=l7 (G5 (x8 (x9 A) (x9 B))) (some false) (l9 (ak (λ(x:Int)=>l7 (I7 x (x9 A)) (l9 (H9 A x) λb=>l9 (H9 B x) λc=>l7 (G5 (V7 (x8 b.1.1 c.1.1) (V7 (x8 b.1.2 c.1.2) (V7 (x8 b.2.1 c.2.1) (V7 (x8 b.2.2.1 c.2.2.1) (x8 b.2.2.2 c.2.2.2)))))) (some (.rt false)) (some (.nx (D7 .i64 x 1)))) (some (.ex ()))) 0) λo=>aN o (λy=>some true) λr=>some r)
def q67:FQ:=⟨[uD y14,uD y14],tR 4 eY,mE 26 [],sN 2 (aK (sN 1 (dY (lpR [(4,6),(13,26)] ⟨[(13,I8)],[]⟩ 0 sgN G8))) G8)⟩
def s67:FSpec:=Y3 q67 λx=>kY x.1 x.2
def vU(A:kK)(B:kK):Option Bool:=l7 (seq A.1 B.1) (l7 (V7 (x8 A.2.1.1 B.2.1.1) (x8 A.2.1.2 B.2.1.2)) (l7 (V7 (x8 A.2.2.1.1 B.2.2.1.1) (x8 A.2.2.1.2 B.2.2.1.2)) (l9 (kY A.2.2.2 B.2.2.2) λx=>some x) (some false)) (some false)) (some false)
def q41:FQ:=⟨[tD y17,tD y17],tR 4 eY,mE 31 [(67,s67)],G8⟩
def s41:FSpec:=Y3 q41 λx=>vU x.1 x.2
def bg(A:List kK)(B:List kK)(C:Unit):Option Bool:=l7 (G5 (x8 (x9 A) (x9 B))) (some false) (l9 (ak (λ(x:Int)=>l7 (I7 x (x9 A)) (l9 (H9 A x) λb=>l9 (H9 B x) λc=>l9 (vU b c) λd=>l7 (G5 d) (some (.rt false)) (some (.nx (D7 .i64 x 1)))) (some (.ex ()))) 0) λo=>aN o (λy=>some true) λr=>some r)
def a1l:FQ:=⟨[uD y18,uD y18,(false,(.fn 41 []))],tR 6 eY,mE 32 [(41,s41)],sN 2 (aK (sN 1 (dY (lpR [(6,10),(17,32)] ⟨[(17,I8)],[]⟩ 0 sgN G8))) G8)⟩
def a1w:FSpec:=Y3 a1l λx=>bg x.1 x.2.1 x.2.2
def eU(A:List jS)(B:List jS):Option Bool:=l7 (G5 (x8 (x9 A) (x9 B))) (some false) (l9 (ak (λ(x:Int)=>l7 (I7 x (x9 A)) (l9 (H9 A x) λb=>l9 (H9 B x) λc=>l7 (G5 (V7 (seq b.1 c.1) (V7 (x8 b.2.1 c.2.1) (x8 b.2.2 c.2.2)))) (some (.rt false)) (some (.nx (D7 .i64 x 1)))) (some (.ex ()))) 0) λo=>aN o (λy=>some true) λr=>some r)
def q68:FQ:=⟨[uD y20,uD y20],tR 4 eY,mE 26 [],sN 2 (aK (sN 1 (dY (lpR [(4,6),(13,26)] ⟨[(13,I8)],[]⟩ 0 sgN G8))) G8)⟩
def s68:FSpec:=Y3 q68 λx=>eU x.1 x.2
def vT(A:A8)(B:A8):Option Bool:=l7 (seq A.1 B.1) (l7 (x8 A.2.1 B.2.1) (l9 (eU A.2.2.1 B.2.2.1) λx=>l7 x (l9 (eU A.2.2.2.1 B.2.2.2.1) λx=>some x) (some false)) (some false)) (some false)
def q43:FQ:=⟨[tD y33,tD y33],tR 4 eY,mE 31 [(68,s68)],G8⟩
def s43:FSpec:=Y3 q43 λx=>vT x.1 x.2
def bf(A:List A8)(B:List A8)(C:Unit):Option Bool:=l7 (G5 (x8 (x9 A) (x9 B))) (some false) (l9 (ak (λ(x:Int)=>l7 (I7 x (x9 A)) (l9 (H9 A x) λb=>l9 (H9 B x) λc=>l9 (vT b c) λd=>l7 (G5 d) (some (.rt false)) (some (.nx (D7 .i64 x 1)))) (some (.ex ()))) 0) λo=>aN o (λy=>some true) λr=>some r)
def a1m:FQ:=⟨[uD y34,uD y34,(false,(.fn 43 []))],tR 6 eY,mE 32 [(43,s43)],sN 2 (aK (sN 1 (dY (lpR [(6,10),(17,32)] ⟨[(17,I8)],[]⟩ 0 sgN G8))) G8)⟩
def a1x:FSpec:=Y3 a1m λx=>bf x.1 x.2.1 x.2.2
def qg(A:ay)(B:ay):Option Bool:=l9 (bM A.1 B.1 ()) λx=>l7 x (l9 (bg A.2.1 B.2.1 ()) λx=>l7 x (l9 (bf A.2.2 B.2.2 ()) λx=>some x) (some false)) (some false)
def q24:FQ:=⟨[tD y36,tD y36],tR 4 eY,mE 24 [(38,a1v),(40,a1w),(42,a1x)],G8⟩
def s24:FSpec:=Y3 q24 λx=>qg x.1 x.2
def lI(A:ay)(B:List P6)(C:List jS):Option O7:=l7 (I7 (x9 B) (x9 C)) (some (x9 B,5)) (l7 (I7 (x9 C) (x9 B)) (some (x9 C,4)) (l9 (ak (λ(x:Int)=>l7 (I7 x (x9 B)) (l9 (H9 B x) λb=>l9 (H9 C x) λc=>l7 (G5 (x8 b.1 c.2.1)) (some (.rt (x,8))) (l7 (G5 (x8 b.2.1 c.2.2)) (some (.rt (x,8))) (l9 (mQ c.2 A.1) λd=>l7 (I7 b.2.2 d.1) (some (.rt (x,3))) (l7 (I7 d.2 b.2.2) (some (.rt (x,3))) (some (.nx (D7 .i64 x 1))))))) (some (.ex ()))) 0) λo=>aN o (λy=>some (0,0)) λr=>some r))
def a4Z:FQ:=⟨[tD y36,uD y37,uD y20],⟨[(.tmp 6,I8),(.tmp 7,I8)],[]⟩,mE 71 [(89,s89)],sN 3 (aK (sN 1 (dY (lpR [(6,13),(29,71)] ⟨[(29,I8)],[]⟩ 0 sgN G8))) G8)⟩
def a6V:FSpec:=Y3 a4Z λx=>lI x.1 x.2.1 x.2.2
def pW(A:ay)(B:Int):Option (List jS×Int):=l9 (H9 A.2.2 B) λx=>l7 (I7 x.2.1 0) (some ([],0)) (l7 (Y2 (x9 A.2.2) x.2.1) (some ([],0)) (l9 (H9 A.2.2 x.2.1) λx=>some (x.2.2.1,8)))
def a5a:FQ:=⟨[tD y36,I8],⟨[(.tmp 4,uD y20),(.tmp 5,I8)],[]⟩,mE 28 [],G8⟩
def a6W:FSpec:=Y3 a5a λx=>pW x.1 x.2
def vk(A:ay)(B:Int)(C:jO):Option P6:=l9 (l7 (I7 B 0) (some (.inr (-1,-1,6))) (l7 (Y2 (x9 A.2.2) B) (some (.inr (-1,-1,6))) (some (.inl ())))) λo=>aN o (λx=>l9 (l7 (I7 C.1 0) (some (.inr (-1,-1,3))) (l7 (I7 109572 C.1) (some (.inr (-1,-1,3))) (some (.inl ())))) λo=>aN o (λx=>l9 (H9 A.2.2 B) λx=>l9 (lI A C.2.1 x.2.2.1) λx=>l7 (G5 (x8 x.2 0)) (some (-1,x)) (l9 (pW A B) λx=>l7 (I7 x.2 (x9 C.2.2)) (some (x.2,-1,4)) (l9 (ak (λ(b:Int)=>l7 (I7 b (x9 C.2.2)) (l9 (H9 C.2.2 b) λc=>l9 (lI A c x.1) λx=>l7 (G5 (x8 x.2 0)) (some (.rt (b,x))) (some (.nx (D7 .i64 b 1)))) (some (.ex ()))) 0) λo=>aN o (λy=>some (0,0,0)) λr=>some r))) λr=>some r) λr=>some r
def a4K:FQ:=⟨[tD y36,I8,tD y40],⟨[(.tmp 6,I8),(.tmp 7,I8),(.tmp 8,I8)],[]⟩,mE 84 [(137,a6V),(138,a6W)],sN 1 (aK (jnR [(6,9),(17,26)] sgN G8) (aK (jnR [(6,9),(26,34)] sgN G8) (sN 3 (aK (sN 1 (dY (lpR [(6,9),(13,17),(66,84)] ⟨[(66,I8)],[]⟩ 0 sgN G8))) G8))))⟩
def a6I:FSpec:=Y3 a4K λx=>vk x.1 x.2.1 x.2.2
def pX(A:ay)(B:Int)(C:jO)(D:Bool)(E:Int):Option bi:=l9 (sF A) λx=>l7 (G5 (x8 x.1 0)) (some (1,-1,-1,-1)) (l9 (l7 (I7 B 0) (some (.inr (6,-1,-1,-1))) (l7 (Y2 (x9 A.2.2) B) (some (.inr (6,-1,-1,-1))) (l7 D (l7 (I7 E 0) (some (.inr (6,-1,-1,-1))) (l9 (H9 A.2.2 B) λx=>l7 (Y2 (x9 x.2.2.2.1) E) (some (.inr (6,-1,-1,-1))) (some (.inl (0,0,0,0))))) (some (.inl (0,0,0,0)))))) λo=>aN o (λ(x:bi)=>l9 (vk A B C) λx=>l7 (G5 (x8 x.2.2 0)) (some (x.2.2,x.1,-1,-1)) (some (0,0,0,0))) λr=>some r)
def q69:FQ:=⟨[tD y36,I8,tD y40,eY,I8],cR 10 114 (tD y41),mE 63 [(23,s23),(107,a6I)],sN 2 (aK (jnR [(10,11),(21,49),(4000640,4000641)] ⟨[(10,(false,(.box (dT y41))))],[]⟩ G8) G8)⟩
def s69:FSpec:=Y3 q69 λx=>pX x.1 x.2.1 x.2.2.1 x.2.2.2.1 x.2.2.2.2
def yR(A:ay)(B:Int):Option eF:=l9 (H9 A.2.2 B) λx=>l9 (uz (x9 x.2.2.2.1) false) λb=>l7 (Y2 0 x.2.1) (l9 (H9 A.2.2 x.2.1) λc=>l9 (uz (x9 c.2.2.2.1) false) λd=>some (x,c,b,d)) (some (x,([],0,[],[],[]),b,[]))
def q70:FQ:=⟨[tD y36,I8],⟨[(.tmp 4,(false,(.box (pA (dT y33) (pA (dT y33) (pA (oW .bool) (oW .bool)))))))],[]⟩,mE 52 [],G8⟩
def s70:FSpec:=Y3 q70 λx=>yR x.1 x.2
def qZ(A:A8)(B:Int):Option (List Int):=l9 (l7 (I7 B 0) (some (.inr [])) (l7 (Y2 (x9 A.2.2.2.1) B) (some (.inr [])) (some (.inl ())))) λo=>aN o (λx=>l9 (uz (x9 A.2.2.2.1) false) λx=>l9 (H9 x B) λp=>l9 (Y6 x (Y7 B)) λq=>l9 (oQ A) λk=>l9 (xK k B) λd=>l9 (aX (λ(x:List Bool×Int)=>l7 (I7 x.2 (x9 d)) (l9 (H9 d x.2) λb=>l9 (Y6 d (Y7 x.2)) λc=>l9 (H9 x.1 c) λf=>l9 (Y6 x.1 (Y7 c)) λg=>some (.inl (aU x.1 (Y7 c) true,D7 .i64 x.2 1))) (some (.inr x.1))) (aU x (Y7 B) true,0)) λy=>l9 (aX (λ(x:List Int×Int)=>l7 (I7 x.2 (x9 A.2.2.2.2)) (l9 (H9 A.2.2.2.2 x.2) λb=>l7 (I7 b.2.1 0) (some (.inl (x.1,D7 .i64 x.2 1))) (l7 (Y2 (x9 A.2.2.2.1) b.2.1) (some (.inl (x.1,D7 .i64 x.2 1))) (l9 (H9 y b.2.1) λc=>l9 (Y6 y (Y7 b.2.1)) λf=>l7 (G5 f) (some (.inl (x.1,D7 .i64 x.2 1))) (l9 (kV b.2.2.2.2.2.1) λg=>l9 (kV b.2.2.2.2.2.2.1) λn=>l9 (dD x.1 g.2.2) λi=>l9 (dD i n.2.2) λj=>some (.inl (j,D7 .i64 x.2 1)))))) (some (.inr x.1))) ([],0)) λy=>l9 (tV y) λx=>some x) λr=>some r
def q47:FQ:=⟨[tD y33,I8],tR 4 gZ,mE 95 [(74,s74),(73,s73),(75,s75),(76,s76)],sN 1 (aK (jnR [(4,5),(17,26)] sgN G8) (sN 2 (aK (sN 1 (dY (.loop [(5,6),(7,8),(38,46),(17001856,17001857)] ⟨[(5,(uO .bool)),(38,I8)],[]⟩ 0 ⟨[(5,(uO .bool))],[]⟩ G8))) (sN 1 (aK (sN 1 (dY (.loop [(8,9),(10,17),(49,93)] ⟨[(8,gZ),(49,I8)],[]⟩ 2 ⟨[(8,gZ)],[]⟩ G8))) G8)))))⟩
def s47:FSpec:=Y3 q47 λx=>qZ x.1 x.2
def mV(A:eF)(B:Int):Option eF:=l9 (H9 A.2.2.2 B) λx=>l9 (Y6 A.2.2.2 (Y7 B)) λx=>l9 (jq A.2.1 B) λx=>l9 (aX (λ(b:eF×Int)=>l7 (I7 b.2 (x9 x)) (l9 (H9 x b.2) λc=>l9 (Y6 x (Y7 b.2)) λx=>l9 (H9 b.1.2.2.2 x) λd=>l9 (Y6 b.1.2.2.2 (Y7 x)) λf=>some (.inl ((b.1.1,b.1.2.1,b.1.2.2.1,aU b.1.2.2.2 (Y7 x) true),D7 .i64 b.2 1))) (some (.inr b.1))) ((A.1,A.2.1,A.2.2.1,aU A.2.2.2 (Y7 B) true),0)) λy=>some y
def a4L:FQ:=⟨[(false,(.box (pA (dT y33) (pA (dT y33) (pA (oW .bool) (oW .bool)))))),I8],⟨[],[(0,(true,(pA (dT y33) (pA (dT y33) (pA (oW .bool) (oW .bool))))))]⟩,⟨30,eqs,tt,gl,[(46,s46)],[],[],[],[0],[]⟩,sN 2 (dY (.loop [(0,1),(5,6),(19,30),(1000000,1000003)] ⟨[(0,(false,(.box (pA (dT y33) (pA (dT y33) (pA (oW .bool) (oW .bool))))))),(19,I8)],[]⟩ 0 ⟨[(0,(false,(.box (pA (dT y33) (pA (dT y33) (pA (oW .bool) (oW .bool)))))))],[]⟩ G8))⟩
def a6J:FSpec:=Y3 a4L λx=>mV x.1 x.2
def rU(A:eF)(B:Int):Option eF:=l9 (H9 A.2.2.1 B) λx=>l9 (Y6 A.2.2.1 (Y7 B)) λx=>l9 (jq A.1 B) λx=>l9 (aX (λ(b:eF×Int)=>l7 (I7 b.2 (x9 x)) (l9 (H9 x b.2) λc=>l9 (Y6 x (Y7 b.2)) λx=>l9 (H9 b.1.2.2.1 x) λd=>l9 (Y6 b.1.2.2.1 (Y7 x)) λf=>some (.inl ((b.1.1,b.1.2.1,aU b.1.2.2.1 (Y7 x) true,b.1.2.2.2),D7 .i64 b.2 1))) (some (.inr b.1))) ((A.1,A.2.1,aU A.2.2.1 (Y7 B) true,A.2.2.2),0)) λy=>l9 (qZ y.1 B) λx=>l9 (aX (λ(b:eF×Int)=>l7 (I7 b.2 (x9 x)) (l9 (H9 x b.2) λc=>l9 (Y6 x (Y7 b.2)) λx=>l9 (mV b.1 x) λx=>some (.inl (x,D7 .i64 b.2 1))) (some (.inr b.1))) (y,0)) λy=>some y
def q71:FQ:=⟨[(false,(.box (pA (dT y33) (pA (dT y33) (pA (oW .bool) (oW .bool)))))),I8],⟨[],[(0,(true,(pA (dT y33) (pA (dT y33) (pA (oW .bool) (oW .bool))))))]⟩,⟨47,eqs,tt,gl,[(46,s46),(47,s47),(108,a6J)],[],[],[],[0],[]⟩,sN 1 (aK (sN 1 (dY (.loop [(0,1),(5,6),(21,32),(1000000,1000003)] ⟨[(0,(false,(.box (pA (dT y33) (pA (dT y33) (pA (oW .bool) (oW .bool))))))),(21,I8)],[]⟩ 0 ⟨[(0,(false,(.box (pA (dT y33) (pA (dT y33) (pA (oW .bool) (oW .bool)))))))],[]⟩ G8))) (sN 1 (dY (.loop [(0,1),(7,8),(39,47),(12000000,12000003)] ⟨[(0,(false,(.box (pA (dT y33) (pA (dT y33) (pA (oW .bool) (oW .bool))))))),(39,I8)],[]⟩ 2 ⟨[(0,(false,(.box (pA (dT y33) (pA (dT y33) (pA (oW .bool) (oW .bool)))))))],[]⟩ G8))))⟩
def s71:FSpec:=Y3 q71 λx=>rU x.1 x.2
def vG(A:List Int)(B:Int):Option (List Int):=l9 (dD A [B]) λx=>some x
def YT:FQ:=⟨[(false,(.box oiM)),(false,(.ifc 3 diM))],⟨[],[(0,(true,oiM))]⟩,⟨20,eqs,tt,gl,[],[],[],[],[0],[]⟩,G8⟩
def Zz:FSpec:=Y3 YT λx=>vG x.1 x.2
def mD(A:List Int):Option Int:=some (x9 A)
def a5j:FQ:=⟨[uD y10],tR 2 I8,mE 5 [],G8⟩
def a0D:FSpec:=Y3 a5j λx=>mD x
def gQ(A:List Int)(B:Int)(C:Int):Option Bool:=l9 (H9 A B) λx=>l9 (H9 A C) λb=>some (I7 x b)
def a6y:FQ:=⟨[uD y10,I8,I8],tR 6 eY,mE 16 [],G8⟩
def a2F:FSpec:=Y3 a6y λx=>gQ x.1 x.2.1 x.2.2
def gU(A:List Int)(B:Int)(C:Int):Option (List Int):=l9 (H9 A C) λx=>l9 (Y6 A (Y7 C)) λx=>l9 (H9 A B) λc=>l9 (Y6 A (Y7 B)) λb=>l9 (H9 A B) λd=>l9 (Y6 A (Y7 B)) λf=>l9 (H9 (aU A (Y7 B) x) C) λg=>l9 (Y6 (aU A (Y7 B) x) (Y7 C)) λi=>some (aU (aU A (Y7 B) x) (Y7 C) b)
def a6A:FQ:=⟨[(false,(.ownb (.int .i64))),I8,I8],⟨[],[(0,gZ)]⟩,⟨20,eqs,tt,gl,[],[],[],[],[0],[]⟩,G8⟩
def a0I:FSpec:=Y3 a6A λx=>gU x.1 x.2.1 x.2.2
def vC(A:List Int)(B:Int):Option (List Int):=l9 (aX (λ(x:List Int×Int)=>l7 (x8 (jk .i64 (O0 .i64 x.2 1) 2) x.2) (some (.inr x.1)) (l9 (gQ x.1 x.2 (jk .i64 (O0 .i64 x.2 1) 2)) λb=>l7 (G5 b) (some (.inr x.1)) (l9 (gU x.1 (jk .i64 (O0 .i64 x.2 1) 2) x.2) λc=>some (.inl (c,jk .i64 (O0 .i64 x.2 1) 2))))) (A,B)) λy=>some y
def YO:FQ:=⟨[(false,(.ifc 265 (.box oiM))),I8],⟨[],[(0,(true,oiM))]⟩,⟨23,eqs,tt,gl,[(277,a2F),(280,a0I)],[],[],[((265,"Less"),277,some 266),((265,"Swap"),280,some 266)],[0],[]⟩,dY (.loop [(0,2),(4,23),(1000000,1000002)] ⟨[(0,(false,(.ifc 265 (.box oiM)))),(1,I8)],[]⟩ 0 ⟨[(0,(false,(.ifc 265 (.box oiM))))],[]⟩ G8)⟩
def Zv:FSpec:=Y3 YO λx=>vC x.1 x.2
def mX(A:List Int)(B:Int):Option (List Int):=l9 (vG A B) λx=>l9 (mD x) λb=>l9 (vC x (O0 .i64 b 1)) λx=>some x
def YM:FQ:=⟨[(false,(.ifc 265 (.box oiM))),(false,(.ifc 3 diM))],⟨[],[(0,(true,oiM))]⟩,⟨12,eqs,tt,gl,[(279,Zz),(157,a0D),(182,Zv)],[],[],[((265,"Len"),157,some 266),((265,"Push"),279,none)],[0],[]⟩,G8⟩
def Zt:FSpec:=Y3 YM λx=>mX x.1 x.2
def rM(A:List Int)(B:Int)(C:Int):Option (Bool×List Int):=l9 (aX (λ(x:List Int×Int)=>l7 (Y2 C (D7 .i64 (ji .i64 2 x.2) 1)) (some (.inr x)) (l7 (I7 (D7 .i64 (ji .i64 2 x.2) 1) 0) (some (.inr x)) (l7 (I7 (D7 .i64 (D7 .i64 (ji .i64 2 x.2) 1) 1) C) (l9 (gQ x.1 (D7 .i64 (D7 .i64 (ji .i64 2 x.2) 1) 1) (D7 .i64 (ji .i64 2 x.2) 1)) λc=>l7 c (l9 (gQ x.1 (D7 .i64 (D7 .i64 (ji .i64 2 x.2) 1) 1) x.2) λb=>l7 (G5 b) (some (.inr x)) (l9 (gU x.1 x.2 (D7 .i64 (D7 .i64 (ji .i64 2 x.2) 1) 1)) λd=>some (.inl (d,D7 .i64 (D7 .i64 (ji .i64 2 x.2) 1) 1)))) (l9 (gQ x.1 (D7 .i64 (ji .i64 2 x.2) 1) x.2) λb=>l7 (G5 b) (some (.inr x)) (l9 (gU x.1 x.2 (D7 .i64 (ji .i64 2 x.2) 1)) λd=>some (.inl (d,D7 .i64 (ji .i64 2 x.2) 1))))) (l9 (gQ x.1 (D7 .i64 (ji .i64 2 x.2) 1) x.2) λc=>l7 (G5 c) (some (.inr x)) (l9 (gU x.1 x.2 (D7 .i64 (ji .i64 2 x.2) 1)) λb=>some (.inl (b,D7 .i64 (ji .i64 2 x.2) 1))))))) (A,B)) λy=>some (I7 B y.2,y.1)
def YP:FQ:=⟨[(false,(.ifc 265 (.box oiM))),I8,I8],⟨[(.tmp 6,eY)],[(0,(true,oiM))]⟩,⟨48,eqs,tt,gl,[(277,a2F),(280,a0I)],[],[],[((265,"Less"),277,some 266),((265,"Swap"),280,some 266)],[0],[]⟩,sN 2 (aK (dY (.loop [(0,1),(7,11),(12,45),(1000000,1000002)] ⟨[(0,(false,(.ifc 265 (.box oiM)))),(7,I8)],[]⟩ 0 ⟨[(0,(false,(.ifc 265 (.box oiM)))),(7,I8)],[]⟩ G8)) G8)⟩
def Zw:FSpec:=Y3 YP λx=>rM x.1 x.2.1 x.2.2
def wV(A:List Int):Option (Int×List Int):=l9 (H9 A (O0 .i64 (x9 A) 1)) λx=>l9 (Y6 A (Y7 (O0 .i64 (x9 A) 1))) λx=>l7 (uP 0 (O0 .i64 (x9 A) 1) (x9 A)) (some (x,oG A (Y7 0) (Y7 (O0 .i64 (x9 A) 1)))) none
def a6z:FQ:=⟨[(false,(.box oiM))],⟨[(.tmp 2,(false,(.ifc 3 diM)))],[(0,(true,oiM))]⟩,⟨23,eqs,tt,gl,[],[],[],[],[0],[]⟩,G8⟩
def a7W:FSpec:=Y3 a6z λx=>wV x
def tH(A:List Int):Option (Int×List Int):=l9 (mD A) λx=>l9 (gU A 0 (O0 .i64 x 1)) λb=>l9 (rM b 0 (O0 .i64 x 1)) λx=>l9 (wV x.2) λx=>some x
def YN:FQ:=⟨[(false,(.ifc 265 (.box oiM)))],⟨[(.tmp 2,(false,(.ifc 3 diM)))],[(0,(true,oiM))]⟩,⟨15,eqs,tt,gl,[(157,a0D),(280,a0I),(183,Zw),(278,a7W)],[],[],[((265,"Len"),157,some 266),((265,"Pop"),278,none),((265,"Swap"),280,some 266)],[0],[]⟩,G8⟩
def Zu:FSpec:=Y3 YN λx=>tH x
def qO(A:A8):Option (List Int×Int):=l9 (oQ A) λx=>l9 (uz (x9 x) []) λk=>l9 (uz (x9 x) 0) λq=>l9 (aX (λ(b:List (List Int)×List Int×List Int×Int)=>l7 (I7 b.2.2.2 (x9 x)) (l9 (H9 x b.2.2.2) λx=>l9 (H9 b.2.1 b.2.2.2) λg=>l9 (Y6 b.2.1 (Y7 b.2.2.2)) λi=>l9 (aX (λ(c:List (List Int)×Int)=>l7 (I7 c.2 (x9 x)) (l9 (H9 x c.2) λx=>l7 (inb x (x9 c.1)) (l9 (Y6 c.1 (Y7 x)) λd=>l9 (dD d [b.2.2.2]) λj=>l7 (inb x (x9 c.1)) (l7 (a0k (Y7 x) (Y7 x)) (l9 (Y6 c.1 (Y7 x)) λf=>some (.inl (aU c.1 (Y7 x) j,D7 .i64 c.2 1))) none) none) none) (some (.inr c.1))) (b.1,0)) λy=>l7 (x8 (x9 x) 0) (l9 (mX b.2.2.1 b.2.2.2) λc=>some (.inl (y,aU b.2.1 (Y7 b.2.2.2) (x9 x),c,D7 .i64 b.2.2.2 1))) (some (.inl (y,aU b.2.1 (Y7 b.2.2.2) (x9 x),b.2.2.1,D7 .i64 b.2.2.2 1)))) (some (.inr (b.1,b.2.1,b.2.2.1)))) (k,q,[],0)) λy=>l9 (aX (λ(x:List (List Int)×jT)=>l9 (mD x.2.2.1) λb=>l7 (I7 0 b) (l9 (tH x.2.2.1) λg=>l9 (dD x.2.2.2 [g.1]) λi=>l9 (H9 x.1 g.1) λc=>l9 (aX (λ(x:List Int×List Int×Int)=>l7 (I7 x.2.2 (x9 c)) (l9 (H9 c x.2.2) λd=>l9 (H9 x.1 d) λj=>l9 (Y6 x.1 (Y7 d)) λf=>l9 (H9 x.1 d) λt=>l9 (Y6 x.1 (Y7 d)) λu=>l9 (H9 (aU x.1 (Y7 d) (O0 .i64 f 1)) d) λv=>l9 (Y6 (aU x.1 (Y7 d) (O0 .i64 f 1)) (Y7 d)) λn=>l7 (x8 n 0) (l9 (mX x.2.1 d) λp=>some (.inl (aU x.1 (Y7 d) (O0 .i64 f 1),p,D7 .i64 x.2.2 1))) (some (.inl (aU x.1 (Y7 d) (O0 .i64 f 1),x.2.1,D7 .i64 x.2.2 1)))) (some (.inr (x.1,x.2.1)))) (x.2.1,g.2,0)) λy=>some (.inl (x.1,y.1,y.2,i))) (some (.inr x.2.2.2))) (y.1,y.2.1,y.2.2,[])) λy=>l7 (I7 (x9 y) (x9 x)) (some ([],9)) (some (y,0))
def a5b:FQ:=⟨[tD y33],⟨[(.tmp 2,gZ),(.tmp 3,I8)],[]⟩,⟨113,eqs,tt,gl,[(74,s74),(156,Zt),(157,a0D),(158,Zu)],[(167,oiM)],[12,50,77,80],[],[],[]⟩,sN 5 (aK (sN 1 (dY (.loop [(5,10),(11,12),(29,65),(10001344,10001345),(13001536,13001537),(16001600,16001601),(16001664,16001665)] ⟨[(5,(false,(.owns oiM))),(6,gZ),(7,(false,(.box oiM))),(29,I8)],[]⟩ 0 ⟨[(5,(false,(.owns oiM))),(6,gZ),(7,(false,(.box oiM)))],[]⟩ (sN 2 (aK (dY (sN 2 (aK (sN 1 (dY (.loop [(5,6),(11,12),(41,56),(23000000,23000001)] ⟨[(5,(false,(.owns oiM))),(41,I8)],[]⟩ 2 ⟨[(5,(false,(.owns oiM)))],[]⟩ G8))) G8))) G8))))) (sN 1 (aK (dY (.loop [(5,8),(12,15),(16,17),(65,107),(24000000,24000004)] ⟨[(5,(uD y63)),(6,gZ),(7,(false,(.box oiM))),(12,gZ)],[]⟩ 4 ⟨[(12,gZ)],[]⟩ (sN 1 (dY (sN 3 (dY (.loop [(6,8),(16,17),(86,107),(79000000,79000002),(91004672,91004673)] ⟨[(6,gZ),(7,(false,(.box oiM))),(86,I8)],[]⟩ 6 ⟨[(6,gZ),(7,(false,(.box oiM)))],[]⟩ G8))))))) G8)))⟩
def a6X:FSpec:=Y3 a5b λx=>qO x
def kL(A:O7)(B:Int):Option Bool:=l9 (nJ A) λx=>l7 x (l7 (Y2 A.1 B) (some (I7 B A.2)) (some false)) (some false)
def a5t:FQ:=⟨[tD y0,I8],tR 4 eY,mE 19 [(90,s90)],G8⟩
def a0E:FSpec:=Y3 a5t λx=>kL x.1 x.2
def tY(A:bW)(B:Int)(C:Int):Option Bool:=l7 (x8 A.2.1 B) (l9 (kL A.2.2.2.2.1 C) λx=>some x) (some false)
def YR:FQ:=⟨[tD y28,(false,(.rp (.int .i64))),(false,(.rp (.int .i64)))],tR 4 eY,mE 15 [(186,a0E)],G8⟩
def TT:FSpec:=Y3 YR λx=>tY x.1 x.2.1 x.2.2
def rP(A:List bW)(B:O7):Option (List Int×List Int):=l9 (uz (x9 A) 0) λx=>l9 (aX (λ(x:List Int×List Int×List Int×Int)=>l7 (I7 x.2.2.2 (x9 A)) (l9 (H9 A x.2.2.2) λc=>l9 (l7 (Y2 0 c.2.2.1) (l7 (I7 c.2.2.1 x.2.2.2) (l9 (H9 x.2.2.1 c.2.2.1) λb=>l9 (Y6 x.2.2.1 (Y7 c.2.2.1)) λx=>some x) (some (-1))) (some (-1))) λb=>l9 (H9 x.2.2.1 x.2.2.2) λi=>l9 (Y6 x.2.2.1 (Y7 x.2.2.2)) λj=>l9 (tY c B.1 B.2) λd=>l7 d (l9 (H9 (aU x.2.2.1 (Y7 x.2.2.2) b) x.2.2.2) λk=>l9 (Y6 (aU x.2.2.1 (Y7 x.2.2.2) b) (Y7 x.2.2.2)) λn=>l9 (dD x.1 [x.2.2.2]) λf=>l9 (dD x.2.1 [b]) λg=>some (.inl (f,g,aU (aU x.2.2.1 (Y7 x.2.2.2) b) (Y7 x.2.2.2) (x9 x.1),D7 .i64 x.2.2.2 1))) (some (.inl (x.1,x.2.1,aU x.2.2.1 (Y7 x.2.2.2) b,D7 .i64 x.2.2.2 1)))) (some (.inr (x.1,x.2.1)))) ([],[],x,0)) λy=>some y
def YQ:FQ:=⟨[uD y29,(false,(.fn 185 [(.int .i64),(.int .i64)]))],⟨[(.tmp 4,gZ),(.tmp 5,gZ)],[]⟩,mE 59 [(185,TT)],sN 3 (aK (sN 1 (dY (.loop [(6,12),(17,57),(10000896,10000897)] ⟨[(6,gZ),(7,gZ),(8,gZ),(17,I8)],[]⟩ 0 ⟨[(6,gZ),(7,gZ)],[]⟩ (sN 2 (aK (dY (sN 2 (aK (.join [(11,12),(22,36)] ⟨[(11,I8)],[]⟩ G8) G8))) G8))))) G8)⟩
def Zx:FSpec:=Y3 YQ λx=>rP x.1 x.2
def wW(A:A8)(B:Int)(C:Int):Option jT:=l9 (rP A.2.2.2.2 (B,C)) λx=>l9 (aX (λ(b:List Int×Int)=>l7 (I7 b.2 (x9 x.1)) (l9 (H9 x.1 b.2) λc=>l9 (Y6 x.1 (Y7 b.2)) λx=>l9 (H9 A.2.2.2.2 x) λx=>l9 (dD b.1 [x.2.2.2.1]) λx=>some (.inl (x,D7 .i64 b.2 1))) (some (.inr b.1))) ([],0)) λy=>some (x.1,x.2,y)
def a5k:FQ:=⟨[tD y33,I8,I8],⟨[(.tmp 6,gZ),(.tmp 7,gZ),(.tmp 8,gZ)],[]⟩,mE 40 [(185,TT),(184,Zx)],sN 3 (aK (sN 1 (dY (.loop [(11,12),(13,14),(23,37)] ⟨[(11,gZ),(23,I8)],[]⟩ 0 ⟨[(11,gZ)],[]⟩ G8))) G8)⟩
def a7d:FSpec:=Y3 a5k λx=>wW x.1 x.2.1 x.2.2
def GY(A:List O7):Option (List Int×Int):=l9 (uj A) λx=>some (x.1,x.2.2)
def a5m:FQ:=⟨[uD y21],⟨[(.tmp 2,gZ),(.tmp 3,I8)],[]⟩,mE 15 [(178,a2q)],G8⟩
def a7f:FSpec:=Y3 a5m λx=>GY x
def oz(A:aB)(B:Int):Option (List Int):=l9 (H9 A.1 B) λx=>l9 (nZ x.1) λx=>l9 (uz x 0) λx=>l9 (aX (λ(x:List Int×O7)=>l7 (Y2 0 x.2.2) (l9 (H9 x.1 x.2.2) λc=>l9 (Y6 x.1 (Y7 x.2.2)) λd=>l9 (H9 A.2.1 x.2.1) λb=>some (.inl (aU x.1 (Y7 x.2.2) x.2.1,O0 .i64 b 1,O0 .i64 x.2.2 1))) (some (.inr x.1))) (x,O0 .i64 B 1,O0 .i64 (x9 x) 1)) λy=>some y
def a5x:FQ:=⟨[tD y77,I8],tR 4 gZ,mE 36 [(180,WN)],sN 3 (aK (sN 1 (dY (.loop [(5,8),(21,35),(7000960,7000961)] ⟨[(5,gZ),(6,I8),(7,I8)],[]⟩ 0 ⟨[(5,gZ)],[]⟩ G8))) G8)⟩
def a7m:FSpec:=Y3 a5x λx=>oz x.1 x.2
def gu(A:P6):Option Bool:=l9 (l7 (G5 (x8 A.1 6)) (l7 (G5 (x8 A.2.1 0)) (some (.inr false)) (some (.inl ()))) (some (.inl ()))) λo=>aN o (λx=>l7 (x8 A.1 1) (l7 (x8 A.2.2 0) (some true) (some (x8 A.2.2 1))) (l7 (x8 A.1 2) (l7 (Y2 (-1000000000000) A.2.2) (some (Y2 A.2.2 1000000000000)) (some false)) (l7 (x8 A.1 3) (l7 (Y2 (-1000000000000000) A.2.2) (some (Y2 A.2.2 1000000000000000)) (some false)) (l7 (x8 A.1 4) (l7 (Y2 (-1000000000) A.2.2) (some (Y2 A.2.2 1000000000)) (some false)) (l7 (x8 A.1 5) (l7 (Y2 0 A.2.2) (some (Y2 A.2.2 109572)) (some false)) (l7 (x8 A.1 6) (l7 (Y2 0 A.2.1) (l7 (I7 A.2.1 8) (l7 (Y2 0 A.2.2) (some (I7 A.2.2 16)) (some false)) (some false)) (some false)) (some false))))))) λr=>some r
def a5M:FQ:=⟨[tD y1],tR 2 eY,mE 83 [],sN 1 (aK (jnR [(2,11)] sgN G8) G8)⟩
def TU:FSpec:=Y3 a5M λx=>gu x
def yK(A:O7):Option Bool:=l9 (l9 (nZ A.1) λx=>l7 (I7 x 0) (some (.inr false)) (l7 (G5 (x8 A.2 0)) (l9 (CZ A.1) λx=>l7 (G5 x) (some (.inr false)) (some (.inl ()))) (some (.inl ())))) λo=>aN o (λx=>l9 (l7 (x8 A.1 14) (some (x8 A.1 14)) (l7 (x8 A.1 15) (some (x8 A.1 15)) (some (x8 A.1 16)))) λx=>l7 x (l7 (Y2 0 A.2) (some (Y2 A.2 5)) (some false)) (l7 (x8 A.1 34) (l7 (Y2 0 A.2) (some (Y2 (pz A.2 8) 5)) (some false)) (l7 (x8 A.1 6) (some (Y2 0 A.2)) (some true)))) λr=>some r
def a5H:FQ:=⟨[tD y0],tR 2 eY,mE 48 [(180,WN),(179,a2r)],sN 1 (aK (jnR [(2,18)] sgN G8) (aK (sN 1 (dY (aK (.join [(20,24)] ⟨[(20,eY)],[]⟩ G8) G8))) G8))⟩
def a7u:FSpec:=Y3 a5H λx=>yK x
def GU(A:O7)(B:fA):Option Bool:=l7 (x8 A.1 7) (l7 (Y2 0 A.2) (some (I7 A.2 (x9 B.2.1))) (some false)) (l7 (x8 A.1 8) (l7 (Y2 0 A.2) (l7 (I7 A.2 (x9 B.2.2.1)) (l9 (H9 B.2.2.1 A.2) λx=>some (G5 (x8 x.1 0))) (some false)) (some false)) (l7 (x8 A.1 33) (l7 (Y2 0 A.2) (some (I7 A.2 (x9 B.2.2.2.2.2))) (some false)) (l7 (x8 A.1 34) (some (I7 (jk .i64 A.2 8) (x9 B.2.2.2.2.2))) (l9 (l7 (x8 A.1 36) (some (x8 A.1 36)) (l7 (x8 A.1 37) (some (x8 A.1 37)) (l7 (x8 A.1 38) (some (x8 A.1 38)) (some (x8 A.1 39))))) λx=>l7 x (l7 (Y2 0 A.2) (some (I7 A.2 (x9 B.2.2.2.2.1))) (some false)) (some true)))))
def a5I:FQ:=⟨[tD y0,tD y61],tR 4 eY,mE 81 [],sN 1 (aK (sN 1 (dY (sN 1 (.cond G8 (sN 1 (.cond G8 (sN 1 (.cond G8 (sN 1 (.cond G8 (aK (.join [(65,70)] ⟨[(65,eY)],[]⟩ G8) G8))))))))))) G8)⟩
def a7v:FSpec:=Y3 a5I λx=>GU x.1 x.2
def vI(A:List P6):Option Bool:=l9 (ak (λ(x:Int)=>l7 (I7 x (x9 A)) (l9 (H9 A x) λb=>l9 (gu b) λc=>l7 (G5 c) (some (.rt false)) (some (.nx (D7 .i64 x 1)))) (some (.ex ()))) 0) λo=>aN o (λy=>some true) λr=>some r
def a5J:FQ:=⟨[uD y37],tR 2 eY,mE 15 [(214,TU)],sN 1 (aK (sN 1 (dY (lpR [(2,3),(4,5),(7,15)] ⟨[(7,I8)],[]⟩ 0 sgN G8))) G8)⟩
def a7w:FSpec:=Y3 a5J λx=>vI x
def xU(A:P6)(B:O7):Option Bool:=l9 (gu A) λx=>l7 x (l7 (x8 A.1 B.1) (some (x8 A.2.1 B.2)) (some false)) (some false)
def a5Q:FQ:=⟨[tD y1,tD y0],tR 4 eY,mE 21 [(214,TU)],G8⟩
def a2w:FSpec:=Y3 a5Q λx=>xU x.1 x.2
def ng(A:Int):Option Bool:=l7 (x8 A 2) (some true) (l7 (x8 A 3) (some true) (some (x8 A 4)))
def a6a:FQ:=⟨[I8],tR 2 eY,mE 13 [],G8⟩
def a0F:FSpec:=Y3 a6a λx=>ng x
def uh(A:Int)(B:O7):Option Bool:=l7 (G5 (x8 B.2 0)) (some false) (l7 (x8 A 36) (l7 (x8 B.1 2) (some true) (some (x8 B.1 3))) (l7 (x8 A 39) (l9 (ng B.1) λx=>l7 x (some true) (some (x8 B.1 5))) (some (x8 B.1 1))))
def a5R:FQ:=⟨[I8,tD y0],tR 4 eY,mE 32 [(235,a0F)],G8⟩
def a7B:FSpec:=Y3 a5R λx=>uh x.1 x.2
def vJ(A:Int)(B:Int):Option Bool:=l7 (x8 A 10) (l9 (ng B) λx=>some x) (l7 (x8 A 25) (some (x8 B 1)) (some (x8 B 5)))
def a5S:FQ:=⟨[I8,I8],tR 4 eY,mE 16 [(235,a0F)],G8⟩
def a7C:FSpec:=Y3 a5S λx=>vJ x.1 x.2
def ny(A:P6)(B:P6):Option Bool:=l7 (x8 A.1 B.1) (some (x8 A.2.1 B.2.1)) (some false)
def a5U:FQ:=⟨[tD y1,tD y1],tR 4 eY,mE 17 [],G8⟩
def a2x:FSpec:=Y3 a5U λx=>ny x.1 x.2
def ug(A:Int)(B:P6)(C:P6):Option Bool:=l9 (l9 (l7 (x8 A 11) (some (x8 A 11)) (some (x8 A 12))) λx=>l7 x (l9 (ny B C) λx=>l7 x (l9 (ng B.1) λx=>some (.inr x)) (some (.inr false))) (l7 (x8 A 13) (l7 (x8 C.1 2) (l7 (x8 B.1 2) (some (.inr true)) (some (.inr (x8 B.1 3)))) (some (.inr false))) (l7 (x8 A 14) (l7 (x8 C.1 4) (l7 (x8 B.1 3) (some (.inr true)) (some (.inr (x8 B.1 4)))) (some (.inr false))) (l7 (x8 A 15) (l7 (x8 C.1 2) (l7 (x8 B.1 2) (some (.inr true)) (some (.inr (x8 B.1 3)))) (l7 (x8 B.1 3) (some (.inr (x8 C.1 3))) (some (.inr false)))) (l7 (x8 A 16) (l7 (x8 B.1 3) (some (.inr (x8 C.1 3))) (some (.inr false))) (l9 (l7 (x8 A 17) (some (x8 A 17)) (l7 (x8 A 18) (some (x8 A 18)) (l7 (x8 A 21) (some (x8 A 21)) (some (x8 A 22))))) λx=>l7 x (l9 (ny B C) λx=>l7 x (l9 (ng B.1) λx=>l7 x (some (.inr true)) (some (.inr (x8 B.1 5)))) (some (.inr false))) (l9 (l7 (x8 A 19) (some (x8 A 19)) (some (x8 A 20))) λx=>l7 x (l9 (ny B C) λx=>some (.inr x)) (l7 (x8 A 23) (l7 (x8 A 23) (l7 (x8 B.1 1) (some (.inr (x8 C.1 1))) (some (.inr false))) (l7 (x8 A 27) (l7 (x8 A 27) (l7 (x8 B.1 5) (some (.inr (x8 C.1 2))) (some (.inr false))) (some (.inl ()))) (l7 (x8 A 28) (l7 (x8 B.1 5) (some (.inr (x8 C.1 2))) (some (.inr false))) (some (.inl ()))))) (l7 (x8 A 24) (l7 (x8 B.1 1) (some (.inr (x8 C.1 1))) (some (.inr false))) (l7 (x8 A 27) (l7 (x8 A 27) (l7 (x8 B.1 5) (some (.inr (x8 C.1 2))) (some (.inr false))) (some (.inl ()))) (l7 (x8 A 28) (l7 (x8 B.1 5) (some (.inr (x8 C.1 2))) (some (.inr false))) (some (.inl ()))))))))))))) λo=>aN o (λx=>l7 (x8 B.1 5) (some (x8 C.1 5)) (some false)) λr=>some r
def a5T:FQ:=⟨[I8,tD y1,tD y1],tR 6 eY,mE 134 [(227,a2x),(235,a0F)],sN 1 (aK (jnR [(6,126)] sgN (sN 1 (dY (aK (.join [(8,11)] ⟨[(8,eY)],[]⟩ G8) (.cond G8 (sN 1 (.cond G8 (sN 1 (.cond G8 (sN 1 (.cond G8 (sN 1 (.cond G8 (aK (.join [(80,85)] ⟨[(80,eY)],[]⟩ G8) (.cond G8 (aK (.join [(98,101)] ⟨[(98,eY)],[]⟩ G8) G8)))))))))))))))) G8)⟩
def a7D:FSpec:=Y3 a5T λx=>ug x.1 x.2.1 x.2.2
def DV(A:O7)(B:List P6)(C:fA):Option Bool:=l9 (l7 (x8 A.1 7) (l9 (H9 C.2.1 A.2) λx=>l9 (gu x) λx=>some (.inr x)) (l7 (x8 A.1 8) (l9 (H9 C.2.2.1 A.2) λx=>l9 (gu x) λx=>some (.inr x)) (l7 (x8 A.1 33) (l9 (H9 C.2.2.2.2.2 A.2) λx=>l9 (H9 B 0) λb=>l9 (xU b x.2.1) λc=>l7 c (l7 (Y2 1 x.2.2.1.1) (some (.inr (Y2 x.2.2.1.1 6))) (some (.inr false))) (some (.inr false))) (l7 (x8 A.1 34) (l9 (H9 C.2.2.2.2.2 (jk .i64 A.2 8)) λx=>l9 (H9 B 0) λb=>l7 (x8 b.1 3) (l7 (V7 (x8 x.2.1.1 3) (x8 x.2.1.2 0)) (some (.inr (V7 (x8 x.2.2.1.1 4) (x8 x.2.2.1.2 0)))) (some (.inr false))) (some (.inr false))) (l9 (l7 (x8 A.1 36) (some (x8 A.1 36)) (l7 (x8 A.1 37) (some (x8 A.1 37)) (l7 (x8 A.1 38) (some (x8 A.1 38)) (some (x8 A.1 39))))) λx=>l7 x (l9 (H9 C.2.2.2.2.1 A.2) λx=>l9 (uh A.1 x) λx=>some (.inr x)) (some (.inl ()))))))) λo=>aN o (λx=>l7 (x8 (x9 B) 1) (l9 (H9 B 0) λx=>l9 (vJ A.1 x.1) λx=>some x) (l7 (x8 (x9 B) 2) (l9 (H9 B 0) λx=>l9 (H9 B 1) λb=>l9 (ug A.1 x b) λx=>some x) (l7 (x8 (x9 B) 3) (l9 (H9 B 0) λx=>l7 (x8 x.1 1) (l9 (H9 B 1) λx=>l9 (H9 B 2) λb=>l9 (ny x b) λx=>some x) (some false)) (some true)))) λr=>some r
def a5K:FQ:=⟨[tD y0,uD y37,tD y61],tR 6 eY,mE 133 [(214,TU),(223,a2w),(224,a7B),(225,a7C),(226,a7D),(227,a2x)],sN 1 (aK (jnR [(6,95)] sgN (sN 1 (dY (sN 1 (.cond G8 (sN 1 (.cond G8 (sN 1 (.cond G8 (sN 1 (.cond G8 (aK (.join [(81,86)] ⟨[(81,eY)],[]⟩ G8) G8)))))))))))) G8)⟩
def a7x:FSpec:=Y3 a5K λx=>DV x.1 x.2.1 x.2.2
def wZ(A:O7)(B:fA):Option (P6×Int):=l9 (H9 B.2.2.2.2.1 A.2) λx=>l9 (l7 (x8 A.1 37) (some (x.1,x.2,1)) (some (x.1,x.2,0))) λg=>l9 (l7 (x8 A.1 39) (l7 (x8 (x9 B.2.2.2.1) 0) (some (.inr ((0,0,0),6))) (some (.inl (0,0,0)))) (some (.inl (0,0,0)))) λo=>aN o (λ(i:P6)=>l9 (ak (λ(b:P6×P6×Int)=>l7 (I7 b.2.2 (x9 B.2.2.2.1)) (l9 (H9 B.2.2.2.1 b.2.2) λf=>l9 (l7 (Y2 (x9 f) A.2) (some (.inr ((0,0,0),6))) (l9 (H9 f A.2) λx=>l7 (x8 x.1 0) (some (.inr ((0,0,0),6))) (some (.inl b.1)))) λo=>aN o (λ(d:P6)=>l9 (H9 f A.2) λc=>l9 (xU c x) λx=>l7 (G5 x) (some (.rt ((0,0,0),8))) (l7 (x8 A.1 36) (l9 (gu (b.2.1.1,b.2.1.2.1,D7 .i64 b.2.1.2.2 c.2.2)) λx=>l7 (G5 x) (some (.rt ((0,0,0),3))) (some (.nx (d,(b.2.1.1,b.2.1.2.1,D7 .i64 b.2.1.2.2 c.2.2),D7 .i64 b.2.2 1)))) (l7 (x8 A.1 37) (some (.nx (d,(b.2.1.1,b.2.1.2.1,zG b.2.1.2.2 c.2.2),D7 .i64 b.2.2 1))) (l7 (x8 A.1 38) (some (.nx (d,(b.2.1.1,b.2.1.2.1,ul b.2.1.2.2 c.2.2),D7 .i64 b.2.2 1))) (l7 (x8 A.1 39) (l7 (x8 b.2.2 0) (some (.nx (d,c,D7 .i64 b.2.2 1))) (l7 (I7 b.2.1.2.2 c.2.2) (some (.nx (d,c,D7 .i64 b.2.2 1))) (some (.nx (d,b.2.1,D7 .i64 b.2.2 1))))) (some (.nx (d,b.2.1,D7 .i64 b.2.2 1)))))))) λr=>some (.rt r)) (some (.ex (b.1,b.2.1)))) (i,g,0)) λo=>aN o (λ(y:P6×P6)=>some (y.2,0)) λr=>some r) λr=>some r
def a5V:FQ:=⟨[tD y0,tD y61],⟨[(.cell 4 32,tD y1),(.tmp 5,I8)],[]⟩,mE 113 [(223,a2w),(214,TU)],sN 3 (aK (.join [(7,8),(22,26),(10000448,10000449)] ⟨[(7,(false,(.box (dT y1))))],[]⟩ G8) (aK (jnR [(4,6),(26,36),(4000256,4000257)] ⟨[(4,(false,(.box (dT y1))))],[]⟩ G8) (aK (sN 1 (dY (lpR [(4,6),(7,11),(39,112),(12000000,12000001),(20000000,20000001)] ⟨[(4,(false,(.box (dT y1)))),(7,(false,(.box (dT y1)))),(39,I8)],[]⟩ 0 ⟨[(4,(false,(.box (dT y1)))),(7,(false,(.box (dT y1))))],[]⟩ (sN 2 (aK (dY (sN 1 (aK (jnR [(4,6),(44,59),(35000000,35000001)] ⟨[(4,(false,(.box (dT y1))))],[]⟩ G8) G8))) G8))))) G8)))⟩
def a7E:FSpec:=Y3 a5V λx=>wZ x.1 x.2
def AV(A:EY)(B:Int)(C:Int):Option Bool:=l9 (kL A.1 B) λx=>l7 x (l7 (Y2 A.2.1 C) (some (I7 C A.2.2.1)) (some false)) (some false)
def YS:FQ:=⟨[tD y13,(false,(.rp (.int .i64))),(false,(.rp (.int .i64)))],tR 4 eY,mE 21 [(186,a0E)],G8⟩
def TV:FSpec:=Y3 YS λx=>AV x.1 x.2.1 x.2.2
def pO(A:List EY)(B:O7):Option (Int×Bool):=l9 (ak (λ(x:Int)=>l7 (I7 x (x9 A)) (l9 (H9 A x) λb=>l9 (AV b B.1 B.2) λc=>l7 c (some (.rt (x,true))) (some (.nx (D7 .i64 x 1)))) (some (.ex ()))) 0) λo=>aN o (λy=>some (0,false)) λr=>some r
def a1o:FQ:=⟨[uD y14,(false,(.fn 236 [(.int .i64),(.int .i64)]))],⟨[(.tmp 4,I8),(.tmp 5,eY)],[]⟩,mE 20 [(236,TV)],sN 1 (aK (sN 1 (dY (lpR [(4,8),(10,20)] ⟨[(10,I8)],[]⟩ 0 sgN G8))) G8)⟩
def a1z:FSpec:=Y3 a1o λx=>pO x.1 x.2
def EQ(A:kK)(B:Int)(C:Int):Option (Int×Bool):=l9 (pO A.2.2.2 (B,C)) λx=>some x
def a5W:FQ:=⟨[tD y17,I8,I8],⟨[(.tmp 6,I8),(.tmp 7,eY)],[]⟩,mE 14 [(236,TV),(91,a1z)],G8⟩
def a7F:FSpec:=Y3 a5W λx=>EQ x.1 x.2.1 x.2.2
def a9o:List MG:=[(false,(.dat (.int .u64))),(false,(.dat (.int .u64)))]
def s81:FSpec:=⟨a9o,[(false,(.dat (.int .u64))),(false,(.dat (.int .u64)))],[],λx=>oh x.1 x.2⟩
def yY(A:Int):Option Int:=l7 (Y2 4294967296 A) (l7 (Y2 65536 (lg .u64 A 32)) (l7 (Y2 256 (lg .u64 (lg .u64 A 32) 16)) (l9 (sat AQ (wrap .u8 (lg .u64 (lg .u64 (lg .u64 A 32) 16) 8))) λx=>some (D7 .i64 (D7 .i64 (D7 .i64 32 16) 8) (wrap .i64 x))) (l9 (sat AQ (wrap .u8 (lg .u64 (lg .u64 A 32) 16))) λx=>some (D7 .i64 (D7 .i64 32 16) (wrap .i64 x)))) (l7 (Y2 256 (lg .u64 A 32)) (l9 (sat AQ (wrap .u8 (lg .u64 (lg .u64 A 32) 8))) λx=>some (D7 .i64 (D7 .i64 32 8) (wrap .i64 x))) (l9 (sat AQ (wrap .u8 (lg .u64 A 32))) λx=>some (D7 .i64 32 (wrap .i64 x))))) (l7 (Y2 65536 A) (l7 (Y2 256 (lg .u64 A 16)) (l9 (sat AQ (wrap .u8 (lg .u64 (lg .u64 A 16) 8))) λx=>some (D7 .i64 (D7 .i64 (D7 .i64 0 16) 8) (wrap .i64 x))) (l9 (sat AQ (wrap .u8 (lg .u64 A 16))) λx=>some (D7 .i64 (D7 .i64 0 16) (wrap .i64 x)))) (l7 (Y2 256 A) (l9 (sat AQ (wrap .u8 (lg .u64 A 8))) λx=>some (D7 .i64 (D7 .i64 0 8) (wrap .i64 x))) (l9 (sat AQ (wrap .u8 A)) λx=>some (D7 .i64 0 (wrap .i64 x)))))
def a5e:FQ:=⟨[(false,(dT (.int .u64)))],tR 2 I8,mE 25 [],G8⟩
def a6Z:FSpec:=Y3 a5e λx=>yY x
def nH(A:Int):Option Int:=l9 (yY A) λx=>some (O0 .i64 64 x)
def a6p:FQ:=⟨[(false,(dT (.int .u64)))],tR 2 I8,mE 6 [(145,a6Z)],G8⟩
def a7T:FSpec:=Y3 a6p λx=>nH x
def kW(A:Int)(B:Int)(C:Int):Option O7:=l9 (l7 (x8 C 0) none (some ())) λx=>l9 (l7 (Y2 C A) none (some ())) λx=>l7 (x8 A 0) (l9 (Na .u64 B C) λx=>l9 (UN B C) λb=>some (x,b)) (l9 (nH C) λx=>l9 (Qk .u64 C (wrap .u64 x)) λb=>l9 (Qk .u64 A (wrap .u64 x)) λd=>l9 (UO .u64 B (O0 .u64 64 (wrap .u64 x))) λf=>l9 (Qk .u64 B (wrap .u64 x)) λc=>l9 (Na .u64 (ior .u64 d f) (lg .u64 b 32)) λg=>l9 (aX (λ(x:O7)=>l7 (Y2 4294967296 x.1) (l7 (Y2 4294967296 (D7 .u64 x.2 (lg .u64 b 32))) (some (.inr (O0 .u64 x.1 1))) (some (.inl (O0 .u64 x.1 1,D7 .u64 x.2 (lg .u64 b 32))))) (l7 (I7 (D7 .u64 (ji .u64 4294967296 x.2) (lg .u64 c 32)) (ji .u64 x.1 (We .u64 b 4294967295))) (l7 (Y2 4294967296 (D7 .u64 x.2 (lg .u64 b 32))) (some (.inr (O0 .u64 x.1 1))) (some (.inl (O0 .u64 x.1 1,D7 .u64 x.2 (lg .u64 b 32))))) (some (.inr x.1)))) (g,O0 .u64 (ior .u64 d f) (ji .u64 g (lg .u64 b 32)))) λy=>l9 (Na .u64 (O0 .u64 (D7 .u64 (ji .u64 (ior .u64 d f) 4294967296) (lg .u64 c 32)) (ji .u64 y b)) (lg .u64 b 32)) λi=>l9 (aX (λ(x:O7)=>l7 (Y2 4294967296 x.2) (l7 (Y2 4294967296 (D7 .u64 x.1 (lg .u64 b 32))) (some (.inr (O0 .u64 x.2 1))) (some (.inl (D7 .u64 x.1 (lg .u64 b 32),O0 .u64 x.2 1)))) (l7 (I7 (D7 .u64 (ji .u64 4294967296 x.1) (We .u64 c 4294967295)) (ji .u64 x.2 (We .u64 b 4294967295))) (l7 (Y2 4294967296 (D7 .u64 x.1 (lg .u64 b 32))) (some (.inr (O0 .u64 x.2 1))) (some (.inl (D7 .u64 x.1 (lg .u64 b 32),O0 .u64 x.2 1)))) (some (.inr x.2)))) (O0 .u64 (O0 .u64 (D7 .u64 (ji .u64 (ior .u64 d f) 4294967296) (lg .u64 c 32)) (ji .u64 y b)) (ji .u64 i (lg .u64 b 32)),i)) λy_1=>l9 (UO .u64 (O0 .u64 (D7 .u64 (ji .u64 (O0 .u64 (D7 .u64 (ji .u64 (ior .u64 d f) 4294967296) (lg .u64 c 32)) (ji .u64 y b)) 4294967296) (We .u64 c 4294967295)) (ji .u64 y_1 b)) (wrap .u64 x)) λx=>some (D7 .u64 (ji .u64 y 4294967296) y_1,x))
def a6h:FQ:=⟨[(false,(dT (.int .u64))),(false,(dT (.int .u64))),(false,(dT (.int .u64)))],⟨[(.tmp 6,(false,(dT (.int .u64)))),(.tmp 7,(false,(dT (.int .u64))))],[]⟩,mE 135 [(251,a7T)],sN 1 (aK (.join [(19,22)] sgN G8) (aK (.join [(22,26)] sgN G8) (sN 11 (aK (dY (.loop [(15,17),(67,86)] ⟨[(15,(false,(dT (.int .u64)))),(16,(false,(dT (.int .u64))))],[]⟩ 0 ⟨[(15,(false,(dT (.int .u64))))],[]⟩ G8)) (sN 3 (aK (dY (.loop [(16,17),(18,19),(102,121)] ⟨[(16,(false,(dT (.int .u64)))),(18,(false,(dT (.int .u64))))],[]⟩ 2 ⟨[(18,(false,(dT (.int .u64))))],[]⟩ G8)) G8))))))⟩
def a0G:FSpec:=Y3 a6h λx=>kW x.1 x.2.1 x.2.2
def uU(A:Int)(B:Int):Option (Int×Int×Bool):=l7 (I7 B 0) (l9 (oh (wrap .u64 A) (O0 .u64 0 (wrap .u64 B))) λx=>l7 (Y2 1000000 x.1) (some (0,0,false)) (l9 (kW x.1 x.2 1000000) λx=>l7 (I7 1000000000000000 x.1) (some (0,0,false)) (l7 (I7 B 0) (some (O0 .i64 0 (wrap .i64 x.1),O0 .i64 0 (wrap .i64 x.2),true)) (some (wrap .i64 x.1,wrap .i64 x.2,true))))) (l9 (oh (wrap .u64 A) (wrap .u64 B)) λx=>l7 (Y2 1000000 x.1) (some (0,0,false)) (l9 (kW x.1 x.2 1000000) λx=>l7 (I7 1000000000000000 x.1) (some (0,0,false)) (l7 (I7 B 0) (some (O0 .i64 0 (wrap .i64 x.1),O0 .i64 0 (wrap .i64 x.2),true)) (some (wrap .i64 x.1,wrap .i64 x.2,true)))))
def a6b:FQ:=⟨[I8,I8],⟨[(.tmp 4,I8),(.tmp 5,I8),(.tmp 6,eY)],[]⟩,mE 47 [(81,s81),(243,a0G)],G8⟩
def a7J:FSpec:=Y3 a6b λx=>uU x.1 x.2
def nO(A:Int):Option Bool:=l7 (Y2 0 A) (some (Y2 A 5)) (some false)
def a6q:FQ:=⟨[I8],tR 2 eY,mE 9 [],G8⟩
def a0H:FSpec:=Y3 a6q λx=>nO x
def gp(A:Int)(B:Int):Option Bool:=l7 (I7 B A) (some true) (some (I7 A (O0 .i64 0 B)))
def q51:FQ:=⟨[I8,I8],tR 4 eY,mE 14 [],G8⟩
def s51:FSpec:=Y3 q51 λx=>gp x.1 x.2
def jv(A:Int):Option Int:=l7 (I7 A 0) (some (O0 .u64 0 (wrap .u64 A))) (some (wrap .u64 A))
def a6r:FQ:=⟨[I8],tR 2 (false,(dT (.int .u64))),mE 10 [],G8⟩
def a2A:FSpec:=Y3 a6r λx=>jv x
def lV(A:Int)(B:Int)(C:Int)(D:Bool)(E:Int):Option Int:=l7 (x8 B 0) (some A) (l7 (x8 E 0) (l7 D (some (D7 .u64 A 1)) (some A)) (l7 (x8 E 1) (l7 (G5 D) (some (D7 .u64 A 1)) (some A)) (l7 (x8 E 3) (some (D7 .u64 A 1)) (l7 (x8 E 4) (l7 (Y2 (O0 .u64 C B) B) (some (D7 .u64 A 1)) (some A)) (l7 (x8 E 5) (l7 (I7 (O0 .u64 C B) B) (some (D7 .u64 A 1)) (l7 (x8 B (O0 .u64 C B)) (l7 (x8 (pz A 2) 1) (some (D7 .u64 A 1)) (some A)) (some A))) (some A))))))
def a6s:FQ:=⟨[(false,(dT (.int .u64))),(false,(dT (.int .u64))),(false,(dT (.int .u64))),eY,I8],tR 10 (false,(dT (.int .u64))),mE 55 [],G8⟩
def a2B:FSpec:=Y3 a6s λx=>lV x.1 x.2.1 x.2.2.1 x.2.2.2.1 x.2.2.2.2
def yx(A:Int)(B:Bool):Option Int:=l7 B (some (O0 .i64 0 (wrap .i64 A))) (some (wrap .i64 A))
def a6t:FQ:=⟨[(false,(dT (.int .u64))),eY],tR 4 I8,mE 11 [],G8⟩
def a2C:FSpec:=Y3 a6t λx=>yx x.1 x.2
def iY(A:Int)(B:Int)(C:Int):Option O7:=l9 (nO C) λx=>l7 (G5 x) (some (0,1)) (l7 (x8 B 0) (some (0,12)) (l9 (gp A 4611686018427387904) λx=>l7 x (some (0,3)) (l9 (gp B 4611686018427387904) λx=>l7 x (some (0,3)) (l9 (jv A) λx=>l9 (jv B) λb=>l9 (Na .u64 x b) λc=>l9 (UN x b) λx=>l9 (lV c x b (G5 (qY (I7 A 0) (I7 B 0))) C) λx=>l9 (yx x (G5 (qY (I7 A 0) (I7 B 0)))) λx=>some (x,0)))))
def a6i:FQ:=⟨[I8,I8,I8],⟨[(.tmp 6,I8),(.tmp 7,I8)],[]⟩,mE 45 [(252,a0H),(51,s51),(253,a2A),(254,a2B),(255,a2C)],G8⟩
def Zy:FSpec:=Y3 a6i λx=>iY x.1 x.2.1 x.2.2
def AZ(A:Int)(B:Int)(C:Int):Option O7:=l7 (I7 (D7 .i64 A (jk .i64 B 1000000)) (-2000000000000000)) (some (0,3)) (l7 (I7 2000000000000000 (D7 .i64 A (jk .i64 B 1000000))) (some (0,3)) (l7 (I7 1 (D7 .i64 A (jk .i64 B 1000000))) (l9 (iY (D7 .i64 (ji .i64 (D7 .i64 (pz (D7 .i64 A (jk .i64 B 1000000)) 2) 2) 1000000) (pz B 1000000)) 1000000 C) λx=>l7 (G5 (x8 x.2 0)) (some (0,x.2)) (l7 (I7 (D7 .i64 (O0 .i64 (D7 .i64 A (jk .i64 B 1000000)) (D7 .i64 (pz (D7 .i64 A (jk .i64 B 1000000)) 2) 2)) x.1) (-1000000000000000)) (some (0,3)) (l7 (I7 1000000000000000 (D7 .i64 (O0 .i64 (D7 .i64 A (jk .i64 B 1000000)) (D7 .i64 (pz (D7 .i64 A (jk .i64 B 1000000)) 2) 2)) x.1)) (some (0,3)) (some (D7 .i64 (O0 .i64 (D7 .i64 A (jk .i64 B 1000000)) (D7 .i64 (pz (D7 .i64 A (jk .i64 B 1000000)) 2) 2)) x.1,0))))) (l7 (I7 (D7 .i64 A (jk .i64 B 1000000)) (-1)) (l9 (iY (D7 .i64 (ji .i64 (O0 .i64 (pz (D7 .i64 A (jk .i64 B 1000000)) 2) 2) 1000000) (pz B 1000000)) 1000000 C) λx=>l7 (G5 (x8 x.2 0)) (some (0,x.2)) (l7 (I7 (D7 .i64 (O0 .i64 (D7 .i64 A (jk .i64 B 1000000)) (O0 .i64 (pz (D7 .i64 A (jk .i64 B 1000000)) 2) 2)) x.1) (-1000000000000000)) (some (0,3)) (l7 (I7 1000000000000000 (D7 .i64 (O0 .i64 (D7 .i64 A (jk .i64 B 1000000)) (O0 .i64 (pz (D7 .i64 A (jk .i64 B 1000000)) 2) 2)) x.1)) (some (0,3)) (some (D7 .i64 (O0 .i64 (D7 .i64 A (jk .i64 B 1000000)) (O0 .i64 (pz (D7 .i64 A (jk .i64 B 1000000)) 2) 2)) x.1,0))))) (l9 (iY (D7 .i64 (ji .i64 (pz (D7 .i64 A (jk .i64 B 1000000)) 2) 1000000) (pz B 1000000)) 1000000 C) λx=>l7 (G5 (x8 x.2 0)) (some (0,x.2)) (l7 (I7 (D7 .i64 (O0 .i64 (D7 .i64 A (jk .i64 B 1000000)) (pz (D7 .i64 A (jk .i64 B 1000000)) 2)) x.1) (-1000000000000000)) (some (0,3)) (l7 (I7 1000000000000000 (D7 .i64 (O0 .i64 (D7 .i64 A (jk .i64 B 1000000)) (pz (D7 .i64 A (jk .i64 B 1000000)) 2)) x.1)) (some (0,3)) (some (D7 .i64 (O0 .i64 (D7 .i64 A (jk .i64 B 1000000)) (pz (D7 .i64 A (jk .i64 B 1000000)) 2)) x.1,0))))))))
def a6c:FQ:=⟨[I8,I8,I8],⟨[(.tmp 6,I8),(.tmp 7,I8)],[]⟩,mE 60 [(244,Zy)],G8⟩
def a7K:FSpec:=Y3 a6c λx=>AZ x.1 x.2.1 x.2.2
def AU(A:kK)(B:Int)(C:Int)(D:Int):Option O7:=l9 (l7 (I7 D 0) (some (.inr (0,1))) (l7 (I7 5 D) (some (.inr (0,1))) (some (.inl ())))) λo=>aN o (λx=>l9 (l7 (G5 (V7 (x8 A.2.1.1 3) (x8 A.2.1.2 0))) (some (.inr (0,8))) (l7 (G5 (V7 (x8 A.2.2.1.1 4) (x8 A.2.2.1.2 0))) (some (.inr (0,8))) (some (.inl ())))) λo=>aN o (λx=>l9 (l7 (I7 C (-1000000000000000)) (some (.inr (0,3))) (l7 (I7 1000000000000000 C) (some (.inr (0,3))) (some (.inl ())))) λo=>aN o (λx=>l9 (ak (λ(x:P6)=>l7 (I7 x.2.2 (x9 A.2.2.2)) (l9 (H9 A.2.2.2 x.2.2) λb=>l9 (kL b.1 B) λd=>l7 (G5 d) (some (.nx (x.1,x.2.1,D7 .i64 x.2.2 1))) (l7 (Y2 (zG b.2.2.1 C) (ul b.2.1 0)) (some (.nx (x.1,x.2.1,D7 .i64 x.2.2 1))) (l9 (uU (O0 .i64 (zG b.2.2.1 C) (ul b.2.1 0)) b.2.2.2) λc=>l7 (G5 c.2.2) (some (.rt (0,3))) (some (.nx (D7 .i64 x.1 c.1,D7 .i64 x.2.1 c.2.1,D7 .i64 x.2.2 1)))))) (some (.ex (x.1,x.2.1)))) (0,0,0)) λo=>aN o (λ(y:O7)=>l9 (AZ y.1 y.2 D) λx=>some x) λr=>some r) λr=>some r) λr=>some r) λr=>some r
def a5X:FQ:=⟨[tD y17,I8,I8,I8],⟨[(.tmp 8,I8),(.tmp 9,I8)],[]⟩,mE 90 [(186,a0E),(237,a7J),(238,a7K)],sN 1 (aK (jnR [(8,10),(19,25)] sgN G8) (aK (jnR [(8,10),(25,35)] sgN G8) (aK (jnR [(8,10),(35,41)] sgN G8) (sN 1 (aK (sN 1 (dY (lpR [(8,12),(13,19),(44,84)] ⟨[(10,I8),(11,I8),(44,I8)],[]⟩ 0 ⟨[(10,I8),(11,I8)],[]⟩ G8))) G8)))))⟩
def a7G:FSpec:=Y3 a5X λx=>AU x.1 x.2.1 x.2.2.1 x.2.2.2
def jG(A:Bool):Option P6:=l7 A (some (1,0,1)) (some (1,0,0))
def a6d:FQ:=⟨[eY],cR 2 32 (tD y1),mE 6 [],G8⟩
def a2y:FSpec:=Y3 a6d λx=>jG x
def qo(A:Int):Option Bool:=l7 (Y2 0 A) (some (Y2 A 109572)) (some false)
def a4P:FQ:=⟨[I8],tR 2 eY,mE 9 [],G8⟩
def Zj:FSpec:=Y3 a4P λx=>qo x
def tK(A:Int):Option Int:=some (D7 .i64 (O0 .i64 (jk .i64 A 4) (jk .i64 A 100)) (jk .i64 A 400))
def a5n:FQ:=⟨[I8],tR 2 I8,mE 11 [],G8⟩
def a7h:FSpec:=Y3 a5n λx=>tK x
def oO(A:Int):Option Int:=l9 (tK (O0 .i64 A 1)) λx=>l9 (tK 1899) λb=>some (O0 .i64 (D7 .i64 (ji .i64 (O0 .i64 A 1900) 365) x) b)
def a5f:FQ:=⟨[I8],tR 2 I8,mE 12 [(175,a7h)],G8⟩
def a2p:FSpec:=Y3 a5f λx=>oO x
def GM(A:Int):Option Bool:=l7 (x8 (pz A 4) 0) (l7 (G5 (x8 (pz A 100) 0)) (some true) (some (x8 (pz A 400) 0))) (some false)
def a5o:FQ:=⟨[I8],tR 2 eY,mE 16 [],G8⟩
def a7i:FSpec:=Y3 a5o λx=>GM x
def jV(A:Int)(B:Int):Option Int:=l7 (I7 B 1) (some 0) (l7 (I7 12 B) (some 0) (l7 (x8 B 2) (l9 (GM A) λx=>l7 x (some 29) (l9 (H9 [31,28,31,30,31,30,31,31,30,31,30,31] (O0 .i64 B 1)) λx=>some x)) (l9 (H9 [31,28,31,30,31,30,31,31,30,31,30,31] (O0 .i64 B 1)) λx=>some x)))
def a5g:FQ:=⟨[I8,I8],tR 4 I8,mE 21 [(176,a7i)],G8⟩
def a0C:FSpec:=Y3 a5g λx=>jV x.1 x.2
def qm(A:Int):Option P6:=l9 (qo A) λx=>l7 (G5 x) (some (0,0,0)) (l9 (aX (λ(x:Int)=>l9 (oO (D7 .i64 x 1)) λb=>l7 (Y2 b A) (some (.inl (D7 .i64 x 1))) (some (.inr x))) (D7 .i64 1900 (jk .i64 A 366))) λy=>l9 (oO y) λx=>l9 (ak (λ(x:O7)=>l7 (I7 x.2 12) (l9 (jV y (D7 .i64 x.2 1)) λb=>l7 (I7 x.1 b) (some (.rt (y,D7 .i64 x.2 1,D7 .i64 x.1 1))) (some (.nx (O0 .i64 x.1 b,D7 .i64 x.2 1)))) (some (.ex ()))) (O0 .i64 A x,0)) λo=>aN o (λy=>some (0,0,0)) λr=>some r)
def a4Q:FQ:=⟨[I8],⟨[(.tmp 2,I8),(.tmp 3,I8),(.tmp 4,I8)],[]⟩,mE 45 [(120,Zj),(149,a2p),(150,a0C)],sN 3 (aK (dY (.loop [(5,6),(15,22)] ⟨[(5,I8)],[]⟩ 0 ⟨[(5,I8)],[]⟩ G8)) (sN 1 (aK (sN 1 (dY (lpR [(2,5),(6,9),(26,45)] ⟨[(6,I8),(26,I8)],[]⟩ 2 sgN G8))) G8)))⟩
def Zk:FSpec:=Y3 a4Q λx=>qm x
def JD(A:Int)(B:P6):Option P6:=l7 (x8 A 10) (some (B.1,0,O0 .i64 0 B.2.2)) (l7 (x8 A 25) (l9 (jG (x8 B.2.2 0)) λx=>some x) (l9 (qm B.2.2) λx=>l7 (x8 A 31) (some (2,0,x.1)) (some (2,0,x.2.1))))
def a5Y:FQ:=⟨[I8,tD y1],cR 4 32 (tD y1),mE 36 [(239,a2y),(121,Zk)],G8⟩
def a7H:FSpec:=Y3 a5Y λx=>JD x.1 x.2
def DX(A:Int)(B:Int):Option O7:=l9 (oh (wrap .u64 (ul A (O0 .i64 0 A))) (wrap .u64 (ul B (O0 .i64 0 B)))) λx=>l7 (G5 (x8 x.1 0)) (some (0,3)) (l7 (I7 1000000000000000 x.2) (some (0,3)) (l7 (G5 (qY (I7 A 0) (I7 B 0))) (some (O0 .i64 0 (wrap .i64 x.2),0)) (some (wrap .i64 x.2,0))))
def a6j:FQ:=⟨[I8,I8],⟨[(.tmp 4,I8),(.tmp 5,I8)],[]⟩,mE 38 [(81,s81)],G8⟩
def a7N:FSpec:=Y3 a6j λx=>DX x.1 x.2
def Eo(A:Int)(B:Int)(C:Int)(D:Int):Option O7:=l9 (nO D) λx=>l7 (G5 x) (some (0,1)) (l7 (x8 C 0) (some (0,12)) (l9 (l9 (gp A 1000000000000000) λx=>l7 x (some (.inr (0,3))) (l9 (gp B 1000000000) λx=>l7 x (some (.inr (0,3))) (l9 (gp C 1000000000) λx=>l7 x (some (.inr (0,3))) (some (.inl ()))))) λo=>aN o (λx=>l9 (jv A) λx=>l9 (jv B) λc=>l9 (oh x c) λx=>l9 (jv C) λb=>l7 (Y2 b x.1) (some (0,3)) (l9 (kW x.1 x.2 b) λx=>l7 (I7 1000000000000000 x.1) (some (0,3)) (l9 (lV x.1 x.2 b (G5 (qY (G5 (qY (I7 A 0) (I7 B 0))) (I7 C 0))) D) λx=>l7 (I7 1000000000000000 x) (some (0,3)) (l9 (yx x (G5 (qY (G5 (qY (I7 A 0) (I7 B 0))) (I7 C 0)))) λx=>some (x,0))))) λr=>some r))
def a6u:FQ:=⟨[I8,I8,I8,I8],⟨[(.tmp 8,I8),(.tmp 9,I8)],[]⟩,mE 72 [(252,a0H),(51,s51),(253,a2A),(81,s81),(243,a0G),(254,a2B),(255,a2C)],sN 3 (aK (jnR [(8,10),(21,31)] sgN G8) G8)⟩
def a7U:FSpec:=Y3 a6u λx=>Eo x.1 x.2.1 x.2.2.1 x.2.2.2
def KN(A:Int)(B:Int)(C:Int):Option O7:=l9 (Eo A B 1000000 C) λx=>some x
def a6k:FQ:=⟨[I8,I8,I8],⟨[(.tmp 6,I8),(.tmp 7,I8)],[]⟩,mE 14 [(256,a7U)],G8⟩
def a7O:FSpec:=Y3 a6k λx=>KN x.1 x.2.1 x.2.2
def uJ(A:Int):Option Bool:=l7 (Y2 0 A) (some (Y2 A 5)) (some false)
def a6v:FQ:=⟨[I8],tR 2 eY,mE 9 [],G8⟩
def a2D:FSpec:=Y3 a6v λx=>uJ x
def oI(A:Int)(B:Int):Option Bool:=l7 (I7 B A) (some true) (some (I7 A (O0 .i64 0 B)))
def a6w:FQ:=⟨[I8,I8],tR 4 eY,mE 14 [],G8⟩
def a2E:FSpec:=Y3 a6w λx=>oI x.1 x.2
def QM(A:Int)(B:Int)(C:Int):Option O7:=l9 (uJ C) λx=>l7 (G5 x) (some (0,1)) (l9 (oI A 1000000000) λx=>l7 x (some (0,3)) (l9 (oI B 1000000000) λx=>l7 x (some (0,3)) (l9 (iY (ji .i64 A B) 1000000 C) λx=>l7 (G5 (x8 x.2 0)) (some (0,x.2)) (l9 (oI x.1 1000000000) λb=>l7 b (some (0,3)) (some (x.1,0))))))
def a6l:FQ:=⟨[I8,I8,I8],⟨[(.tmp 6,I8),(.tmp 7,I8)],[]⟩,mE 33 [(257,a2D),(258,a2E),(244,Zy)],G8⟩
def a7P:FSpec:=Y3 a6l λx=>QM x.1 x.2.1 x.2.2
def Ce(A:Int)(B:Int)(C:Int):Option O7:=l9 (nO C) λx=>l7 (G5 x) (some (0,1)) (l7 (I7 B 1) (some (0,12)) (l9 (gp A 1000000000000000) λx=>l7 x (some (0,3)) (l7 (I7 1000000000000000 B) (some (0,3)) (l9 (iY A B C) λx=>l7 (G5 (x8 x.2 0)) (some (0,x.2)) (l9 (gp (ji .i64 x.1 B) 1000000000000000) λb=>l7 b (some (0,3)) (some (ji .i64 x.1 B,0)))))))
def a6m:FQ:=⟨[I8,I8,I8],⟨[(.tmp 6,I8),(.tmp 7,I8)],[]⟩,mE 38 [(252,a0H),(51,s51),(244,Zy)],G8⟩
def a7Q:FSpec:=Y3 a6m λx=>Ce x.1 x.2.1 x.2.2
def CE(A:Int)(B:Int)(C:Int)(D:Bool)(E:Int):Option Bool:=l7 (x8 B 0) (some false) (l7 (x8 E 0) (some D) (l7 (x8 E 1) (some (G5 D)) (l7 (x8 E 3) (some true) (l7 (x8 E 4) (some (Y2 (O0 .u64 C B) B)) (l7 (x8 E 5) (l7 (I7 (O0 .u64 C B) B) (some true) (l7 (x8 B (O0 .u64 C B)) (some (x8 (pz A 2) 1)) (some false))) (some false))))))
def a6x:FQ:=⟨[(false,(dT (.int .u64))),(false,(dT (.int .u64))),(false,(dT (.int .u64))),eY,I8],tR 10 eY,mE 49 [],G8⟩
def a7V:FSpec:=Y3 a6x λx=>CE x.1 x.2.1 x.2.2.1 x.2.2.2.1 x.2.2.2.2
def Aj(A:Int)(B:Int)(C:Int):Option O7:=l9 (uJ C) λx=>l7 (G5 x) (some (0,1)) (l7 (x8 B 0) (some (0,12)) (l9 (oI A 1000000000000000) λx=>l7 x (some (0,3)) (l9 (oI B 1000000000000000) λx=>l7 x (some (0,3)) (l9 (oh (wrap .u64 (ul A (O0 .i64 0 A))) 1000000) λx=>l7 (Y2 (wrap .u64 (ul B (O0 .i64 0 B))) x.1) (some (0,3)) (l9 (kW x.1 x.2 (wrap .u64 (ul B (O0 .i64 0 B)))) λx=>l7 (I7 1000000000 x.1) (some (0,3)) (l9 (CE x.1 x.2 (wrap .u64 (ul B (O0 .i64 0 B))) (G5 (qY (I7 A 0) (I7 B 0))) C) λb=>l7 b (l7 (I7 1000000000 (D7 .i64 (wrap .i64 x.1) 1)) (some (0,3)) (l7 (G5 (qY (I7 A 0) (I7 B 0))) (some (O0 .i64 0 (D7 .i64 (wrap .i64 x.1) 1),0)) (some (D7 .i64 (wrap .i64 x.1) 1,0)))) (l7 (I7 1000000000 (wrap .i64 x.1)) (some (0,3)) (l7 (G5 (qY (I7 A 0) (I7 B 0))) (some (O0 .i64 0 (wrap .i64 x.1),0)) (some (wrap .i64 x.1,0))))))))))
def a6n:FQ:=⟨[I8,I8,I8],⟨[(.tmp 6,I8),(.tmp 7,I8)],[]⟩,mE 73 [(257,a2D),(258,a2E),(81,s81),(243,a0G),(259,a7V)],G8⟩
def a7R:FSpec:=Y3 a6n λx=>Aj x.1 x.2.1 x.2.2
def GV(A:O7)(B:P6)(C:P6):Option (P6×Int):=l7 (x8 A.1 13) (l9 (DX B.2.2 C.2.2) λx=>some ((B.1,0,x.1),x.2)) (l9 (l7 (x8 A.1 14) (some (x8 B.1 3)) (some false)) λx=>l7 x (l9 (KN B.2.2 C.2.2 A.2) λx=>some ((B.1,0,x.1),x.2)) (l7 (x8 A.1 14) (l9 (QM B.2.2 C.2.2 A.2) λx=>some ((B.1,0,x.1),x.2)) (l7 (x8 A.1 16) (l9 (Ce B.2.2 C.2.2 A.2) λx=>some ((B.1,0,x.1),x.2)) (l7 (x8 C.1 2) (l9 (iY B.2.2 C.2.2 A.2) λx=>some ((B.1,0,x.1),x.2)) (l9 (Aj B.2.2 C.2.2 A.2) λx=>some ((4,0,x.1),x.2))))))
def a6e:FQ:=⟨[tD y0,tD y1,tD y1],⟨[(.cell 6 32,tD y1),(.tmp 7,I8)],[]⟩,mE 105 [(245,a7N),(246,a7O),(247,a7P),(248,a7Q),(244,Zy),(249,a7R)],sN 2 (aK (dY (sN 1 (.cond G8 (aK (.join [(38,47)] ⟨[(38,eY)],[]⟩ G8) G8)))) G8)⟩
def a7L:FSpec:=Y3 a6e λx=>GV x.1 x.2.1 x.2.2
def DN(A:Int)(B:Int)(C:Int):Option O7:=l9 (l7 (I7 A 1900) (some (.inr (0,3))) (l7 (I7 2199 A) (some (.inr (0,3))) (l7 (I7 B 1) (some (.inr (0,3))) (l7 (I7 12 B) (some (.inr (0,3))) (l7 (I7 C 1) (some (.inr (0,3))) (l9 (jV A B) λx=>l7 (I7 x C) (some (.inr (0,3))) (some (.inl ())))))))) λo=>aN o (λx=>l9 (oO A) λx=>l9 (aX (λ(x:O7)=>l7 (I7 x.2 (O0 .i64 B 1)) (l9 (jV A (D7 .i64 x.2 1)) λb=>some (.inl (D7 .i64 x.1 b,D7 .i64 x.2 1))) (some (.inr x.1))) (x,0)) λy=>some (O0 .i64 (D7 .i64 y C) 1,0)) λr=>some r
def a6o:FQ:=⟨[I8,I8,I8],⟨[(.tmp 6,I8),(.tmp 7,I8)],[]⟩,mE 53 [(150,a0C),(149,a2p)],sN 1 (aK (jnR [(6,8),(10,35)] sgN G8) (sN 1 (aK (sN 1 (dY (.loop [(8,10),(39,49)] ⟨[(8,I8),(39,I8)],[]⟩ 0 ⟨[(8,I8)],[]⟩ G8))) G8)))⟩
def a7S:FSpec:=Y3 a6o λx=>DN x.1 x.2.1 x.2.2
def tJ(A:Int)(B:Int):Option O7:=l9 (l9 (qo A) λx=>l7 (G5 x) (some (.inr (0,3))) (l7 (I7 B (-3600)) (some (.inr (0,3))) (l7 (I7 3600 B) (some (.inr (0,3))) (some (.inl ()))))) λo=>aN o (λx=>l9 (qm A) λx=>l7 (I7 (D7 .i64 (O0 .i64 (D7 .i64 (ji .i64 (O0 .i64 x.1 1900) 12) x.2.1) 1) B) 0) (some (0,3)) (l7 (I7 3599 (D7 .i64 (O0 .i64 (D7 .i64 (ji .i64 (O0 .i64 x.1 1900) 12) x.2.1) 1) B)) (some (0,3)) (l9 (jV (D7 .i64 1900 (jk .i64 (D7 .i64 (O0 .i64 (D7 .i64 (ji .i64 (O0 .i64 x.1 1900) 12) x.2.1) 1) B) 12)) (D7 .i64 (pz (D7 .i64 (O0 .i64 (D7 .i64 (ji .i64 (O0 .i64 x.1 1900) 12) x.2.1) 1) B) 12) 1)) λb=>l9 (DN (D7 .i64 1900 (jk .i64 (D7 .i64 (O0 .i64 (D7 .i64 (ji .i64 (O0 .i64 x.1 1900) 12) x.2.1) 1) B) 12)) (D7 .i64 (pz (D7 .i64 (O0 .i64 (D7 .i64 (ji .i64 (O0 .i64 x.1 1900) 12) x.2.1) 1) B) 12) 1) (zG x.2.2 b)) λx=>some x))) λr=>some r
def a6f:FQ:=⟨[I8,I8],⟨[(.tmp 4,I8),(.tmp 5,I8)],[]⟩,mE 57 [(120,Zj),(121,Zk),(150,a0C),(250,a7S)],sN 1 (aK (jnR [(4,6),(10,21)] sgN G8) G8)⟩
def a2z:FSpec:=Y3 a6f λx=>tJ x.1 x.2
def vF(A:Int)(B:Int):Option Int:=l9 (qo A) λx=>l7 (G5 x) (some 0) (l9 (qo B) λx=>l7 (G5 x) (some 0) (l7 (I7 B A) (some 0) (l9 (qm A) λx=>l9 (qm B) λb=>l9 (tJ A (ji .i64 12 (O0 .i64 b.1 x.1))) λc=>l7 (G5 (x8 c.2 0)) (some (ul (O0 .i64 (O0 .i64 b.1 x.1) 1) 0)) (l7 (I7 B c.1) (some (ul (O0 .i64 (O0 .i64 b.1 x.1) 1) 0)) (some (ul (O0 .i64 b.1 x.1) 0))))))
def a6g:FQ:=⟨[I8,I8],tR 4 I8,mE 60 [(120,Zj),(121,Zk),(241,a2z)],G8⟩
def a7M:FSpec:=Y3 a6g λx=>vF x.1 x.2
def GR(A:O7)(B:P6)(C:P6):Option (P6×Int):=l9 (l9 (l7 (x8 A.1 11) (some (x8 A.1 11)) (some (x8 A.1 27))) λx=>l7 x (some (.inr ((B.1,0,D7 .i64 B.2.2 C.2.2),0))) (l7 (x8 A.1 12) (some (.inr ((B.1,0,O0 .i64 B.2.2 C.2.2),0))) (l9 (l7 (x8 A.1 13) (some (x8 A.1 13)) (l7 (x8 A.1 14) (some (x8 A.1 14)) (l7 (x8 A.1 15) (some (x8 A.1 15)) (some (x8 A.1 16))))) λx=>l7 x (l9 (GV A B C) λx=>some (.inr x)) (l9 (l7 (x8 A.1 17) (some (x8 A.1 17)) (some (x8 A.1 18))) λx=>l7 x (l7 (qY (x8 A.1 17) (I7 C.2.2 B.2.2)) (some (.inr (C,0))) (some (.inr (B,0)))) (l7 (x8 A.1 19) (l9 (jG (x8 B.2.2 C.2.2)) λx=>some (.inr (x,0))) (l7 (x8 A.1 20) (l9 (jG (G5 (x8 B.2.2 C.2.2))) λx=>some (.inr (x,0))) (l7 (x8 A.1 21) (l9 (jG (I7 B.2.2 C.2.2)) λx=>some (.inr (x,0))) (l7 (x8 A.1 22) (l9 (jG (Y2 B.2.2 C.2.2)) λx=>some (.inr (x,0))) (l7 (x8 A.1 23) (l7 (x8 B.2.2 1) (l9 (jG (x8 C.2.2 1)) λx=>some (.inr (x,0))) (l9 (jG false) λx=>some (.inr (x,0)))) (l7 (x8 A.1 24) (l7 (x8 B.2.2 1) (l9 (jG true) λx=>some (.inr (x,0))) (l9 (jG (x8 C.2.2 1)) λx=>some (.inr (x,0)))) (l7 (x8 A.1 28) (l9 (tJ B.2.2 C.2.2) λx=>some (.inr ((5,0,x.1),x.2))) (l7 (x8 A.1 29) (some (.inr ((2,0,O0 .i64 C.2.2 B.2.2),0))) (some (.inl (0,0,0))))))))))))))) λo=>aN o (λ(x:P6)=>l9 (vF B.2.2 C.2.2) λx=>some ((2,0,x),0)) λr=>some r
def a5Z:FQ:=⟨[tD y0,tD y1,tD y1],⟨[(.cell 6 32,tD y1),(.tmp 7,I8)],[]⟩,mE 139 [(240,a7L),(239,a2y),(241,a2z),(242,a7M)],sN 1 (aK (jnR [(6,133),(4000384,4000385)] ⟨[(6,(false,(.box (dT y1))))],[]⟩ (sN 1 (dY (aK (.join [(12,15)] ⟨[(12,eY)],[]⟩ G8) (.cond G8 (sN 1 (.cond G8 (aK (.join [(33,38)] ⟨[(33,eY)],[]⟩ G8) (.cond G8 (aK (.join [(44,47)] ⟨[(44,eY)],[]⟩ G8) G8)))))))))) G8)⟩
def a7I:FSpec:=Y3 a5Z λx=>GR x.1 x.2.1 x.2.2
def DW(A:O7)(B:List P6)(C:fA):Option (P6×Int):=l9 (l9 (l7 (x8 A.1 1) (some (x8 A.1 1)) (l7 (x8 A.1 2) (some (x8 A.1 2)) (l7 (x8 A.1 3) (some (x8 A.1 3)) (l7 (x8 A.1 4) (some (x8 A.1 4)) (some (x8 A.1 5)))))) λx=>l7 x (some (.inr ((A.1,0,A.2),0))) (l7 (x8 A.1 6) (some (.inr ((6,jk .i64 A.2 16,pz A.2 16),0))) (l7 (x8 A.1 7) (l9 (H9 C.2.1 A.2) λx=>some (.inr (x,0))) (l7 (x8 A.1 8) (l9 (H9 C.2.2.1 A.2) λx=>some (.inr (x,0))) (l7 (x8 A.1 9) (some (.inr ((5,0,C.1),0))) (l7 (x8 A.1 35) (some (.inr ((2,0,x9 C.2.2.2.1),0))) (l9 (l7 (x8 A.1 36) (some (x8 A.1 36)) (l7 (x8 A.1 37) (some (x8 A.1 37)) (l7 (x8 A.1 38) (some (x8 A.1 38)) (some (x8 A.1 39))))) λx=>l7 x (l9 (wZ A C) λx=>some (.inr x)) (l7 (x8 A.1 33) (l9 (H9 C.2.2.2.2.2 A.2) λx=>l9 (H9 B 0) λb=>l9 (EQ x C.1 b.2.2) λc=>l7 (G5 c.2) (some (.inr ((0,0,0),6))) (l9 (H9 x.2.2.2 c.1) λd=>some (.inr ((x.2.2.1.1,x.2.2.1.2,d.2.2.2),0)))) (l7 (x8 A.1 34) (l9 (H9 C.2.2.2.2.2 (jk .i64 A.2 8)) λx=>l9 (H9 B 0) λb=>l9 (AU x C.1 b.2.2 (pz A.2 8)) λx=>some (.inr ((3,0,x.1),x.2))) (some (.inl (0,0,0)))))))))))) λo=>aN o (λ(x:P6)=>l7 (x8 (x9 B) 1) (l9 (H9 B 0) λx=>l9 (JD A.1 x) λx=>some (x,0)) (l7 (x8 (x9 B) 2) (l9 (H9 B 0) λx=>l9 (H9 B 1) λb=>l9 (GR A x b) λx=>some x) (l9 (H9 B 0) λx=>l7 (x8 x.2.2 1) (l9 (H9 B 1) λx=>some (x,0)) (l9 (H9 B 2) λx=>some (x,0))))) λr=>some r
def a5L:FQ:=⟨[tD y0,uD y37,tD y61],⟨[(.cell 6 32,tD y1),(.tmp 7,I8)],[]⟩,mE 165 [(228,a7E),(229,a7F),(230,a7G),(231,a7H),(232,a7I)],sN 1 (aK (jnR [(6,132),(4000384,4000385)] ⟨[(6,(false,(.box (dT y1))))],[]⟩ (sN 1 (dY (aK (.join [(15,21)] ⟨[(15,eY)],[]⟩ G8) (.cond G8 (sN 1 (.cond G8 (sN 1 (.cond G8 (sN 1 (.cond G8 (sN 1 (.cond G8 (sN 1 (.cond G8 (aK (.join [(62,67)] ⟨[(62,eY)],[]⟩ G8) G8)))))))))))))))) G8)⟩
def a7y:FSpec:=Y3 a5L λx=>DW x.1 x.2.1 x.2.2
def JC(A:O7)(B:List P6)(C:fA):Option (P6×Int):=l9 (l9 (yK A) λx=>l7 (G5 x) (some (.inr ((0,0,0),2))) (l9 (nZ A.1) λx=>l7 (G5 (x8 (x9 B) x)) (some (.inr ((0,0,0),2))) (some (.inl (0,0,0))))) λo=>aN o (λ(x:P6)=>l9 (GU A C) λx=>l7 (G5 x) (some ((0,0,0),6)) (l9 (vI B) λx=>l7 (G5 x) (some ((0,0,0),8)) (l9 (DV A B C) λx=>l7 (G5 x) (some ((0,0,0),8)) (l9 (DW A B C) λx=>l7 (G5 (x8 x.2 0)) (some ((0,0,0),x.2)) (l9 (gu x.1) λb=>l7 (G5 b) (some ((0,0,0),3)) (some (x.1,0))))))) λr=>some r
def a5y:FQ:=⟨[tD y0,uD y37,tD y61],⟨[(.cell 6 32,tD y1),(.tmp 7,I8)],[]⟩,mE 54 [(209,a7u),(180,WN),(210,a7v),(211,a7w),(212,a7x),(213,a7y),(214,TU)],sN 1 (aK (jnR [(6,8),(10,22),(4000384,4000385)] ⟨[(6,(false,(.box (dT y1))))],[]⟩ G8) G8)⟩
def a7n:FSpec:=Y3 a5y λx=>JC x.1 x.2.1 x.2.2
def Yz:List MG:=[(true,(.dat y77)),I8]
def NF:List MG:=[(true,(.dat y77)),I8]
def Yy:List MG:=[(true,(.dat y77)),(true,(.dat y0)),(false,(.dat y10))]
def a6C:Ret:=⟨[(.cell 4 32,(true,(.dat y1))),(.tmp 5,I8)],[]⟩
def a9g (r208:M.den (.dat y77)->M.den diM->Option (bC ([(true,(.dat y1)),I8]++[]))) (r162:M.den (.dat y77)->M.den diM->Option (bC ([(true,(.dat y1)),I8]++[]))) (r191:M.den (.dat y77)->M.den (.dat y0)->M.den (.dat y10)->Option (bC ([(true,(.dat y1)),I8]++[]))):Env:=⟨28,eqs,tt,gl,[(162,⟨NF,[(true,(.dat y1)),I8],[],λx=>r162 x.1 x.2⟩),(214,TU)],[],[],[],[],[]⟩
def a4h:Ann:=.leaf
def rY(r208:aB->Int->Option (P6×Int))(r162:aB->Int->Option (P6×Int))(r191:aB->O7->List Int->Option (P6×Int))(A:aB)(B:Int):Option (P6×Int):=l9 (r162 A B) λx=>l7 (G5 (x8 x.2 0)) (some ((0,0,0),x.2)) (l7 (G5 (x8 x.1.1 1)) (some ((0,0,0),8)) (l9 (gu x.1) λb=>l7 (G5 b) (some ((0,0,0),8)) (some (x.1,0))))
def a1u:Ret:=⟨[(.cell 4 32,(true,(.dat y1))),(.tmp 5,I8)],[]⟩
def a9e (r208:M.den (.dat y77)->M.den diM->Option (bC ([(true,(.dat y1)),I8]++[]))) (r162:M.den (.dat y77)->M.den diM->Option (bC ([(true,(.dat y1)),I8]++[]))) (r191:M.den (.dat y77)->M.den (.dat y0)->M.den (.dat y10)->Option (bC ([(true,(.dat y1)),I8]++[]))):Env:=⟨65,eqs,tt,gl,[(190,a7m),(191,⟨Yy,[(true,(.dat y1)),I8],[],λx=>r191 x.1 x.2.1 x.2.2⟩),(162,⟨NF,[(true,(.dat y1)),I8],[],λx=>r162 x.1 x.2⟩),(192,a7n)],[],[],[],[],[]⟩
def a4f:Ann:=.seq G8 (.seq G8 (.seq G8 (.seq (.joinR [(4,6),(21,33),(4000256,4000257)] ⟨[(4,(false,(.box (.dat y1))))],[]⟩ G8) (.seq G8 (.seq (.seq G8 (.blk (.loopR [(4,6),(8,13),(38,58),(12000000,12000001),(37002240,37002241)] ⟨[(4,(false,(.box (.dat y1)))),(8,(false,(.own y1))),(38,I8)],[]⟩ 1 ⟨[(4,(false,(.box (.dat y1)))),(8,(false,(.own y1)))],[]⟩ G8))) G8)))))
def wK(r208:aB->Int->Option (P6×Int))(r162:aB->Int->Option (P6×Int))(r191:aB->O7->List Int->Option (P6×Int))(A:aB)(B:Int):Option (P6×Int):=l9 (H9 A.1 B) λx=>l9 (oz A B) λb=>l9 (l7 (x8 x.1 23) (l7 (x8 x.1 23) (l9 (r191 A x b) λx=>some (.inr x)) (some (.inl (0,0,0)))) (l7 (x8 x.1 24) (l7 (x8 x.1 24) (l9 (r191 A x b) λx=>some (.inr x)) (some (.inl (0,0,0)))) (l7 (x8 x.1 26) (l9 (r191 A x b) λx=>some (.inr x)) (some (.inl (0,0,0)))))) λo=>aN o (λ(d:P6)=>l9 (uz (x9 b) (0,0,0)) λf=>l9 (ak (λ(x:P6×List P6×Int)=>l7 (I7 x.2.2 (x9 b)) (l9 (H9 b x.2.2) λi=>l9 (Y6 b (Y7 x.2.2)) λg=>l9 (r162 A g) λc=>l7 (G5 (x8 c.2 0)) (some (.rt ((0,0,0),c.2))) (l9 (H9 x.2.1 x.2.2) λj=>l9 (Y6 x.2.1 (Y7 x.2.2)) λk=>some (.nx (x.1,aU x.2.1 (Y7 x.2.2) c.1,D7 .i64 x.2.2 1)))) (some (.ex (x.1,x.2.1)))) (d,f,0)) λo=>aN o (λ(y:P6×List P6)=>l9 (JC x y.2 A.2.2) λx=>some x) λr=>some r) λr=>some r
def a6B:Ret:=⟨[(.cell 6 32,(true,(.dat y1))),(.tmp 7,I8)],[]⟩
def a9f (r208:M.den (.dat y77)->M.den diM->Option (bC ([(true,(.dat y1)),I8]++[]))) (r162:M.den (.dat y77)->M.den diM->Option (bC ([(true,(.dat y1)),I8]++[]))) (r191:M.den (.dat y77)->M.den (.dat y0)->M.den (.dat y10)->Option (bC ([(true,(.dat y1)),I8]++[]))):Env:=⟨69,eqs,tt,gl,[(208,⟨Yz,[(true,(.dat y1)),I8],[],λx=>r208 x.1 x.2⟩),(162,⟨NF,[(true,(.dat y1)),I8],[],λx=>r162 x.1 x.2⟩)],[],[],[],[],[]⟩
def a4g:Ann:=.seq G8 (.seq G8 (.seq G8 (.seq G8 (.seq (.blk (.seq (.join [(26,35)] ⟨[(26,eY)],[]⟩ G8) G8)) G8))))
def wJ(r208:aB->Int->Option (P6×Int))(r162:aB->Int->Option (P6×Int))(r191:aB->O7->List Int->Option (P6×Int))(A:aB)(B:O7)(C:List Int):Option (P6×Int):=l7 (G5 (x8 B.2 0)) (some ((0,0,0),2)) (l9 (H9 C 0) λx=>l9 (r208 A x) λx=>l7 (G5 (x8 x.2 0)) (some ((0,0,0),x.2)) (l9 (l7 (x8 B.1 26) (some (x8 x.1.2.2 1)) (some false)) λb=>l7 b (l9 (H9 C 1) λx=>l9 (r162 A x) λx=>some x) (l7 (x8 B.1 26) (l9 (H9 C 2) λx=>l9 (r162 A x) λx=>some x) (l7 (qY (x8 B.1 23) (x8 x.1.2.2 0)) (some (x.1,0)) (l9 (H9 C 1) λx=>l9 (r208 A x) λx=>some x)))))
def F5:Nat->(M.den (.dat y77)->M.den diM->Option (bC ([(true,(.dat y1)),I8]++[])))×(M.den (.dat y77)->M.den diM->Option (bC ([(true,(.dat y1)),I8]++[])))×(M.den (.dat y77)->M.den (.dat y0)->M.den (.dat y10)->Option (bC ([(true,(.dat y1)),I8]++[])))|0=>(λa0 a1=>none,λa0 a1=>none,λa0 a1 a2=>none)|n+1=>(λa0 a1=>rY (F5 n).1 (F5 n).2.1 (F5 n).2.2 a0 a1,λa0 a1=>wK (F5 n).1 (F5 n).2.1 (F5 n).2.2 a0 a1,λa0 a1 a2=>wJ (F5 n).1 (F5 n).2.1 (F5 n).2.2 a0 a1 a2)
def rQ:M.den (.dat y77)->M.den diM->Option (bC ([(true,(.dat y1)),I8]++[])):=λa0 a1=>(F5 lF).2.1 a0 a1
def a7g:FSpec:=mkS NF a1u λx=>rQ x.1 x.2
def FD(A:List O7)(B:fA):Option (P6×Int):=l9 (GY A) λx=>l7 (G5 (x8 x.2 0)) (some ((0,0,0),x.2)) (l9 (rQ (A,x.1,B) (O0 .i64 (x9 A) 1)) λx=>some x)
def a5d:FQ:=⟨[uD y21,tD y61],⟨[(.cell 4 32,tD y1),(.tmp 5,I8)],[]⟩,mE 27 [(161,a7f),(162,a7g)],G8⟩
def a2o:FSpec:=Y3 a5d λx=>FD x.1 x.2
def wu(A:List Int)(B:List Int):Option Int:=l7 (G5 (x8 (x9 A) (x9 B))) (some 2) (l7 (I7 8 (x9 A)) (some 4) (l9 (ak (λ(x:Int)=>l7 (I7 x (x9 A)) (l9 (H9 A x) λb=>l7 (I7 b (-1)) (some (.rt 9)) (l7 (Y2 x b) (some (.rt 9)) (l9 (H9 B x) λc=>l7 (I7 c 0) (some (.rt 3)) (l9 (H9 B x) λd=>l7 (I7 9 d) (some (.rt 3)) (some (.nx (D7 .i64 x 1))))))) (some (.ex ()))) 0) λo=>aN o (λy=>some 0) λr=>some r))
def a5u:FQ:=⟨[uD y10,uD y10],tR 4 I8,mE 42 [],sN 3 (aK (sN 1 (dY (lpR [(4,7),(17,42)] ⟨[(17,I8)],[]⟩ 0 sgN G8))) G8)⟩
def a7k:FSpec:=Y3 a5u λx=>wu x.1 x.2
def wo(A:List Int)(B:Int):Option (List Int):=l9 (aX (λ(x:List Int×Int)=>l7 (I7 x.2 (x9 A)) (l9 (H9 A x.2) λb=>l7 (x8 b B) (l9 (dD x.1 [x.2]) λc=>some (.inl (c,D7 .i64 x.2 1))) (some (.inl (x.1,D7 .i64 x.2 1)))) (some (.inr x.1))) ([],0)) λy=>some y
def a5P:FQ:=⟨[uD y10,I8],tR 4 gZ,mE 24 [],sN 2 (aK (sN 1 (dY (.loop [(5,8),(10,23)] ⟨[(5,gZ),(10,I8)],[]⟩ 0 ⟨[(5,gZ)],[]⟩ G8))) G8)⟩
def a7A:FSpec:=Y3 a5P λx=>wo x.1 x.2
def uQ(A:jT)(B:Int):Option (List Int):=l9 (wo A.1 B) λx=>l9 (aX (λ(b:List Int×Int)=>l7 (I7 b.2 (x9 x)) (l9 (H9 x b.2) λk=>l9 (Y6 x (Y7 b.2)) λx=>l9 (H9 A.2.2 x) λg=>l7 (x8 g (-1)) (some (.inl (b.1,D7 .i64 b.2 1))) (l9 (l7 (I7 0 (x9 b.1)) (l9 (H9 A.2.1 x) λx=>l9 (H9 b.1 0) λc=>l9 (Y6 b.1 (Y7 0)) λd=>l9 (H9 A.2.1 d) λf=>l7 (I7 f x) (l7 (uP 0 0 (x9 b.1)) (some (oG b.1 (Y7 0) (Y7 0))) none) (some b.1)) (some b.1)) λc=>l7 (x8 (x9 c) 0) (l9 (dD c [x]) λx=>some (.inl (x,D7 .i64 b.2 1))) (l9 (H9 A.2.1 x) λd=>l9 (H9 c 0) λf=>l9 (Y6 c (Y7 0)) λi=>l9 (H9 A.2.1 i) λj=>l7 (x8 d j) (l9 (dD c [x]) λx=>some (.inl (x,D7 .i64 b.2 1))) (some (.inl (c,D7 .i64 b.2 1)))))) (some (.inr b.1))) ([],0)) λy=>some y
def a5G:FQ:=⟨[tD y79,I8],tR 4 gZ,mE 67 [(222,a7A)],sN 2 (aK (sN 1 (dY (.loop [(5,6),(7,8),(13,66)] ⟨[(5,gZ),(13,I8)],[]⟩ 0 ⟨[(5,gZ)],[]⟩ (sN 2 (aK (dY (sN 2 (aK (.join [(5,6),(23,43),(14000000,14000001)] ⟨[(5,gZ)],[]⟩ G8) G8))) G8))))) G8)⟩
def a7t:FSpec:=Y3 a5G λx=>uQ x.1 x.2
def jK(A:jT)(B:Int):Option Int:=l9 (uQ A B) λx=>l7 (x8 (x9 x) 0) (some (-1)) (l7 (x8 (x9 x) 1) (l9 (H9 x 0) λb=>l9 (Y6 x (Y7 0)) λx=>l9 (H9 A.2.2 x) λx=>some x) (some (-2)))
def a5w:FQ:=⟨[tD y79,I8],tR 4 I8,mE 22 [(207,a7t)],G8⟩
def a2s:FSpec:=Y3 a5w λx=>jK x.1 x.2
def ww(A:List Int)(B:List Int)(C:List Bool):Option (List Int):=l9 (uz (x9 A) 0) λx=>l9 (aX (λ(x:jT×Int)=>l7 (Y2 0 x.2) (l9 (jK x.1 x.2) λb=>l9 (H9 x.1.2.2 x.2) λf=>l9 (Y6 x.1.2.2 (Y7 x.2)) λg=>l9 (H9 (aU x.1.2.2 (Y7 x.2) b) x.2) λi=>l9 (Y6 (aU x.1.2.2 (Y7 x.2) b) (Y7 x.2)) λc=>l7 (x8 c (-1)) (l9 (H9 C x.2) λd=>l7 d (l9 (H9 (aU x.1.2.2 (Y7 x.2) b) x.2) λj=>l9 (Y6 (aU x.1.2.2 (Y7 x.2) b) (Y7 x.2)) λk=>some (.inl ((x.1.1,x.1.2.1,aU (aU x.1.2.2 (Y7 x.2) b) (Y7 x.2) x.2),O0 .i64 x.2 1))) (some (.inl ((x.1.1,x.1.2.1,aU x.1.2.2 (Y7 x.2) b),O0 .i64 x.2 1)))) (some (.inl ((x.1.1,x.1.2.1,aU x.1.2.2 (Y7 x.2) b),O0 .i64 x.2 1)))) (some (.inr x.1))) ((A,B,x),O0 .i64 (x9 A) 1)) λy=>some y.2.2
def a5v:FQ:=⟨[uD y10,uD y10,(uD (.sl .bool))],tR 6 gZ,mE 48 [(189,a2s)],sN 2 (aK (sN 1 (dY (.loop [(7,9),(18,46),(7000448,7000449),(7000832,7000833)] ⟨[(7,(false,(.box (pA (dT y10) (pA (dT y10) oiM))))),(8,I8)],[]⟩ 0 ⟨[(7,(false,(.box (pA (dT y10) (pA (dT y10) oiM)))))],[]⟩ G8))) G8)⟩
def a7l:FSpec:=Y3 a5v λx=>ww x.1 x.2.1 x.2.2
def yZ(A:List Int)(B:List Int)(C:List Bool):Option Int:=l9 (wu A B) λx=>l7 (G5 (x8 x 0)) (some (-1)) (l7 (G5 (x8 (x9 C) (x9 A))) (some (-1)) (l9 (ww A B C) λx=>l9 (jK (A,B,x) (-1)) λx=>some x))
def a5l:FQ:=⟨[uD y10,uD y10,(uD (.sl .bool))],tR 6 I8,mE 26 [(187,a7k),(188,a7l),(189,a2s)],G8⟩
def a7e:FSpec:=Y3 a5l λx=>yZ x.1 x.2.1 x.2.2
def yS(A:A8)(B:fA)(C:Int)(D:Int):Option (Int×bi):=l9 (wW A D B.1) λx=>l9 (uz (x9 x.1) false) λd=>l9 (ak (λ(b:bi×List Bool×Int)=>l7 (I7 b.2.2 (x9 x.1)) (l9 (H9 x.1 b.2.2) λf=>l9 (Y6 x.1 (Y7 b.2.2)) λx=>l9 (H9 A.2.2.2.2 x) λg=>l7 (x8 (x9 g.2.2.2.2.2.1) 0) (l9 (H9 b.2.1 b.2.2) λx=>l9 (Y6 b.2.1 (Y7 b.2.2)) λx=>some (.nx (b.1,aU b.2.1 (Y7 b.2.2) true,D7 .i64 b.2.2 1))) (l9 (H9 A.2.2.2.2 x) λi=>l9 (FD i.2.2.2.2.2.1 B) λc=>l7 (G5 (x8 c.2 0)) (some (.rt (0,c.2,C,D,x))) (l9 (H9 b.2.1 b.2.2) λx=>l9 (Y6 b.2.1 (Y7 b.2.2)) λx=>some (.nx (b.1,aU b.2.1 (Y7 b.2.2) (x8 c.1.2.2 1),D7 .i64 b.2.2 1))))) (some (.ex (b.1,b.2.1)))) ((0,0,0,0),d,0)) λo=>aN o (λ(y:bi×List Bool)=>l9 (yZ x.2.1 x.2.2 y.2) λb=>l7 (I7 b 0) (some (b,0,0,0,0)) (l9 (H9 x.1 b) λf=>l9 (Y6 x.1 (Y7 b)) λx=>some (x,0,0,0,0))) λr=>some r
def a5c:FQ:=⟨[tD y33,tD y61,I8,I8],⟨[(.tmp 8,I8),(.cell 9 114,tD y41)],[]⟩,mE 87 [(159,a7d),(141,a2o),(160,a7e)],sN 3 (aK (sN 1 (dY (lpR [(8,10),(13,18),(33,74),(4000576,4000577),(10001920,10001921)] ⟨[(9,(false,(.box (dT y41)))),(13,(uO .bool)),(33,I8)],[]⟩ 0 ⟨[(9,(false,(.box (dT y41)))),(13,(uO .bool))],[]⟩ G8))) G8)⟩
def a6Y:FSpec:=Y3 a5c λx=>yS x.1 x.2.1 x.2.2.1 x.2.2.2
def lQ(A:A8)(B:fA)(C:Int)(D:List Bool):Option (List Int×bi×fA):=l9 (uz (x9 A.2.2.2.1) (0,0,0)) λx=>l9 (uz (x9 A.2.2.2.1) 0) λg=>l9 (qO A) λd=>l9 (ak (λ(x:fA×bi×List Int×Int)=>l7 (I7 x.2.2.2 (x9 d.1)) (l9 (H9 d.1 x.2.2.2) λq=>l9 (Y6 d.1 (Y7 x.2.2.2)) λb=>l9 (H9 D b) λi=>l7 (G5 i) (some (.nx (x.1,x.2.1,x.2.2.1,D7 .i64 x.2.2.2 1))) (l9 (yS A x.1 C b) λc=>l7 (G5 (x8 c.2.1 0)) (some (.rt ([],c.2,x.1))) (l7 (x8 c.1 (-1)) (some (.rt ([],(10,C,b,-1),x.1))) (l7 (x8 c.1 (-2)) (some (.rt ([],(11,C,b,-1),x.1))) (l9 (H9 A.2.2.2.2 c.1) λj=>l9 (FD j.2.2.2.2.2.2.1 x.1) λf=>l7 (G5 (x8 f.2 0)) (some (.rt ([],(f.2,C,b,c.1),x.1))) (l9 (H9 x.1.2.2.1 b) λt=>l9 (Y6 x.1.2.2.1 (Y7 b)) λk=>l9 (H9 x.2.2.1 b) λn=>l9 (Y6 x.2.2.1 (Y7 b)) λp=>some (.nx ((x.1.1,x.1.2.1,aU x.1.2.2.1 (Y7 b) f.1,x.1.2.2.2),x.2.1,aU x.2.2.1 (Y7 b) c.1,D7 .i64 x.2.2.2 1)))))))) (some (.ex (x.1,x.2.1,x.2.2.1)))) ((B.1,B.2.1,x,B.2.2.2),(0,0,0,0),g,0)) λo=>aN o (λ(y:fA×bi×List Int)=>some (y.2.2,(0,0,0,0),y.1)) λr=>some r
def a4M:FQ:=⟨[tD y33,(false,(.box (pA diM (pA (dT y37) (pA (oW y1) (pA (dT y38) (pA (dT y21) (dT y18)))))))),I8,(uD (.sl .bool))],⟨[(.tmp 8,gZ),(.cell 9 114,tD y41)],[(1,(true,(pA diM (pA (dT y37) (pA (oW y1) (pA (dT y38) (pA (dT y21) (dT y18))))))))]⟩,⟨105,eqs,tt,gl,[(139,a6X),(140,a6Y),(141,a2o)],[],[],[],[1],[]⟩,sN 4 (aK (sN 1 (dY (lpR [(1,2),(8,11),(14,19),(37,103),(1000000,1000001),(4000576,4000577),(7001472,7001473),(10001856,10001857)] ⟨[(1,(false,(.box (pA diM (pA (dT y37) (pA (oW y1) (pA (dT y38) (pA (dT y21) (dT y18))))))))),(9,(false,(.box (dT y41)))),(10,gZ),(37,I8)],[]⟩ 0 ⟨[(1,(false,(.box (pA diM (pA (dT y37) (pA (oW y1) (pA (dT y38) (pA (dT y21) (dT y18))))))))),(9,(false,(.box (dT y41)))),(10,gZ)],[]⟩ G8))) G8)⟩
def a6K:FSpec:=Y3 a4M λx=>lQ x.1 x.2.1 x.2.2.1 x.2.2.2
def yQ(A:ay)(B:Int)(C:jO)(D:eF):Option (DK×fA×bi×eF):=l9 (aX (λ(x:(Int×List P6×PUnit×PUnit×List O7×List kK)×Int)=>l7 (I7 x.2 (x9 D.2.1.2.2.2.1)) (l9 (H9 D.2.1.2.2.2.1 x.2) λc=>l9 (dD x.1.2.2.2.2.1 [c.2]) λb=>some (.inl ((x.1.1,x.1.2.1,(),(),b,x.1.2.2.2.2.2),D7 .i64 x.2 1))) (some (.inr (x.1.1,x.1.2.1,(),(),x.1.2.2.2.2)))) ((C.1,C.2.1,(),(),[],A.2.1),0)) λy=>l9 (ak (λ(x:DK×fA×bi×(Int×List P6×PUnit×List (List P6)×List O7×List kK)×DK×Int)=>l7 (I7 x.2.2.2.2.2 (x9 C.2.2)) (l9 (H9 C.2.2 x.2.2.2.2.2) λc=>l9 (lQ D.2.1 (C.1,c,[],[],[],A.2.1) x.2.2.2.2.2 D.2.2.2) λb=>l7 (G5 (x8 b.2.1.1 0)) (some (.rt (([],[],[]),(0,[],[],[],[],[]),b.2.1,D))) (l9 (dD x.2.2.2.1.2.2.2.1 [b.2.2.2.2.1]) λd=>l9 (dD x.2.2.2.2.1.2.2 [(b.2.2.2.2.1,b.1)]) λf=>some (.nx (x.1,x.2.1,x.2.2.1,(x.2.2.2.1.1,x.2.2.2.1.2.1,(),d,x.2.2.2.1.2.2.2.2),(x.2.2.2.2.1.1,x.2.2.2.2.1.2.1,f),D7 .i64 x.2.2.2.2.2 1)))) (some (.ex (x.1,x.2.1,x.2.2.1,(x.2.2.2.1.1,x.2.2.2.1.2.1,(),x.2.2.2.1.2.2.2),x.2.2.2.2.1)))) (([],[],[]),(0,[],[],[],[],[]),(0,0,0,0),(y.1,y.2.1,(),[],y.2.2.2.2),([],[],[]),0)) λo=>aN o (λ(y:DK×fA×bi×(Int×List P6×PUnit×List (List P6)×List O7×List kK)×DK)=>l9 (lQ D.1 (y.2.2.2.1.1,y.2.2.2.1.2.1,[],y.2.2.2.1.2.2.2) (-1) D.2.2.1) λx=>l7 (G5 (x8 x.2.1.1 0)) (some (([],[],[]),(0,[],[],[],[],[]),x.2.1,D)) (some ((x.2.2.2.2.1,x.1,y.2.2.2.2.2.2),x.2.2,(0,0,0,0),D))) λr=>some r
def q72:FQ:=⟨[tD y36,I8,tD y40,(false,(.box (pA (dT y33) (pA (dT y33) (pA (oW .bool) (oW .bool))))))],⟨[(.cell 8 159,tD y56),(.cell 9 162,tD y61),(.cell 10 114,tD y41)],[(3,(true,(pA (dT y33) (pA (dT y33) (pA (oW .bool) (oW .bool))))))]⟩,⟨123,eqs,tt,gl,[(109,a6K)],[],[],[],[3],[]⟩,sN 3 (aK (sN 1 (dY (.loop [(11,12),(14,15),(35,47),(7000704,7000705)] ⟨[(11,(false,(.box (pA diM (pA (dT y37) (pA (.cell (some none)) (pA (.cell (some none)) (pA (oW y0) (dT y18))))))))),(35,I8)],[]⟩ 0 ⟨[(11,(false,(.box (pA diM (pA (dT y37) (pA (.cell (some none)) (pA (.cell (some none)) (pA (oW y0) (dT y18)))))))))],[]⟩ G8))) (aK (sN 1 (dY (lpR [(8,13),(15,20),(50,97),(4000512,4000513),(4000576,4000577),(4000640,4000641),(10000768,10000769),(18000000,18000002)] ⟨[(8,(false,(.box (dT y56)))),(9,(false,(.box (dT y61)))),(10,(false,(.box (dT y41)))),(11,(false,(.box (pA diM (pA (dT y37) (pA (.cell (some none)) (pA (oW y37) (pA (oW y0) (dT y18))))))))),(12,(false,(.box (pA (dT y37) (pA (dT y10) (oW y53)))))),(50,I8)],[]⟩ 2 ⟨[(8,(false,(.box (dT y56)))),(9,(false,(.box (dT y61)))),(10,(false,(.box (dT y41)))),(11,(false,(.box (pA diM (pA (dT y37) (pA (.cell (some none)) (pA (oW y37) (pA (oW y0) (dT y18))))))))),(12,(false,(.box (pA (dT y37) (pA (dT y10) (oW y53))))))],[]⟩ G8))) G8))⟩
def s72:FSpec:=Y3 q72 λx=>yQ x.1 x.2.1 x.2.2.1 x.2.2.2
def zI(A:ay)(B:Int)(C:jO)(D:Int):Option (P6×Int×bi):=l9 (pX A B C true D) λx=>l7 (G5 (x8 x.1 0)) (some ((0,0,0),0,x)) (l9 (yR A B) λx=>l9 (rU x D) λx=>l9 (yQ A B C x) λx=>l7 (G5 (x8 x.2.2.1.1 0)) (some ((0,0,0),0,x.2.2.1)) (l9 (H9 x.1.1 D) λb=>l9 (H9 x.1.2.1 D) λx=>some (b,x,0,0,0,0)))
def q44:FQ:=⟨[tD y36,I8,tD y40,I8],⟨[(.cell 8 32,tD y1),(.tmp 9,I8),(.cell 10 114,tD y41)],[]⟩,mE 57 [(69,s69),(70,s70),(71,s71),(72,s72)],G8⟩
def s44:FSpec:=Y3 q44 λx=>zI x.1 x.2.1 x.2.2.1 x.2.2.2
def rq(A:ay)(B:Int)(C:jO)(D:Int):Option (P6×Int):=l9 (zI A B C D) λx=>l7 (G5 (x8 x.2.2.1 0)) (some ((0,0,0),x.2.2.1)) (some (x.1,0))
def q25:FQ:=⟨[tD y36,I8,tD y40,I8],⟨[(.cell 8 32,tD y1),(.tmp 9,I8)],[]⟩,mE 29 [(44,s44)],G8⟩
def s25:FSpec:=Y3 q25 λx=>rq x.1 x.2.1 x.2.2.1 x.2.2.2
def um(A:List (dN×Bool))(B:A8)(C:List Int):Option (List (dN×Bool)):=l9 (aX (λ(x:List (Int×Bool)×Int)=>l7 (I7 x.2 (x9 C)) (l9 (H9 C x.2) λc=>some (.inl (Du (λ(a b:Int)=>x8 a b) x.1 c true,D7 .i64 x.2 1))) (some (.inr x.1))) ([],0)) λy=>l9 (aX (λ(x:List (dN×Bool)×Int)=>l7 (I7 x.2 (x9 B.2.2.2.2)) (l9 (H9 B.2.2.2.2 x.2) λc=>l7 (oM (λ(a b:Int)=>x8 a b) y c.2.1 false) (some (.inl (Du (λ(a b:dN)=>V7 (seq a.1 b.1) (seq a.2 b.2)) x.1 (B.1,c.1) true,D7 .i64 x.2 1))) (some (.inl (x.1,D7 .i64 x.2 1)))) (some (.inr x.1))) (A,0)) λy=>some y
def q45:FQ:=⟨[(false,(.ownb (.ent true false y47 .bool))),tD y33,uD y10],⟨[],[(0,(false,(oW (.ent true false y47 .bool))))]⟩,⟨39,eqs,tt,gl,[],[],[],[],[0],[]⟩,sN 2 (aK (sN 1 (dY (.loop [(6,7),(8,9),(14,21),(7000704,7000705)] ⟨[(6,(false,(oW (.ent false false (.int .i64) .bool)))),(14,I8)],[]⟩ 0 ⟨[(6,(false,(oW (.ent false false (.int .i64) .bool))))],[]⟩ G8))) (sN 1 (dY (.loop [(0,1),(10,11),(24,39),(1000000,1000001)] ⟨[(0,(false,(oW (.ent true false y47 .bool)))),(24,I8)],[]⟩ 2 ⟨[(0,(false,(oW (.ent true false y47 .bool))))],[]⟩ G8))))⟩
def s45:FSpec:=Y3 q45 λx=>um x.1 x.2.1 x.2.2
def ru(A:ay)(B:Int)(C:Int):Option (List (dN×Bool)):=l9 (H9 A.2.2 B) λx=>l9 (jq x C) λf=>l9 (dD f [C]) λg=>l9 (um [] x g) λc=>l9 (l7 (I7 x.2.1 0) (some (.inr c)) (l7 (Y2 (x9 A.2.2) x.2.1) (some (.inr c)) (some (.inl ())))) λo=>aN o (λj=>l9 (H9 A.2.2 x.2.1) λd=>l9 (qZ x C) λx=>l9 (aX (λ(b:List Int×Int)=>l7 (I7 b.2 (x9 x)) (l9 (H9 x b.2) λk=>l9 (Y6 x (Y7 b.2)) λx=>l9 (dD b.1 [x]) λi=>l9 (jq d x) λx=>l9 (dD i x) λx=>some (.inl (x,D7 .i64 b.2 1))) (some (.inr b.1))) ([],0)) λy=>l9 (um c d y) λx=>some x) λr=>some r
def q26:FQ:=⟨[tD y36,I8,I8],tR 6 (false,(oW (.ent true false y47 .bool))),mE 69 [(46,s46),(45,s45),(47,s47)],sN 4 (aK (jnR [(6,7),(28,40)] sgN G8) (sN 2 (aK (sN 1 (dY (.loop [(10,11),(12,13),(50,64)] ⟨[(10,gZ),(50,I8)],[]⟩ 0 ⟨[(10,gZ)],[]⟩ G8))) G8)))⟩
def s26:FSpec:=Y3 q26 λx=>ru x.1 x.2.1 x.2.2
def qA(A:ay):Option (List (List UInt8×mW)):=l9 (aX (λ(x:List (List UInt8×mW)×Int)=>l7 (I7 x.2 (x9 A.2.2)) (l9 (H9 A.2.2 x.2) λc=>l7 (IJ (λ(a b:List UInt8)=>seq a b) x.1 c.1) (some (.inl (x.1,D7 .i64 x.2 1))) (l9 (aX (λ(x:List (List UInt8×Int)×Int)=>l7 (I7 x.2 (x9 c.2.2.2.2)) (l9 (H9 c.2.2.2.2 x.2) λd=>l7 (G5 (IJ (λ(a b:List UInt8)=>seq a b) x.1 d.1)) (some (.inl (Du (λ(a b:List UInt8)=>seq a b) x.1 d.1 x.2,D7 .i64 x.2 1))) (some (.inl (x.1,D7 .i64 x.2 1)))) (some (.inr x.1))) ([],0)) λy=>some (.inl (Du (λ(a b:List UInt8)=>seq a b) x.1 c.1 (c,y),D7 .i64 x.2 1)))) (some (.inr x.1))) ([],0)) λy=>some y
def q48:FQ:=⟨[tD y36],tR 2 (false,(oW (.ent false true .str y51))),mE 60 [],sN 2 (aK (sN 1 (dY (.loop [(3,4),(5,13),(17,59),(7000832,7000833)] ⟨[(3,(false,(oW (.ent false true .str y51)))),(17,I8)],[]⟩ 0 ⟨[(3,(false,(oW (.ent false true .str y51))))],[]⟩ (sN 2 (aK (dY (sN 3 (aK (sN 1 (dY (.loop [(8,13),(33,52),(40001856,40001857)] ⟨[(8,(false,(oW (.ent false false .str (.int .i64))))),(33,I8)],[]⟩ 2 ⟨[(8,(false,(oW (.ent false false .str (.int .i64)))))],[]⟩ G8))) G8))) G8))))) G8)⟩
def s48:FSpec:=Y3 q48 λx=>qA x
def jm(A:List (List UInt8×mW))(B:List UInt8)(C:List UInt8):Option (A8×Int×Bool):=l7 (G5 (IJ (λ(a b:List UInt8)=>seq a b) A B)) (some (([],0,[],[],[]),0,false)) (l7 (G5 (IJ (λ(a b:List UInt8)=>seq a b) (oM (λ(a b:List UInt8)=>seq a b) A B (([],0,[],[],[]),[])).2 C)) (some (([],0,[],[],[]),0,false)) (some ((oM (λ(a b:List UInt8)=>seq a b) A B (([],0,[],[],[]),[])).1,oM (λ(a b:List UInt8)=>seq a b) (oM (λ(a b:List UInt8)=>seq a b) A B (([],0,[],[],[]),[])).2 C 0,true)))
def q49:FQ:=⟨[uD y52,(uD .str),(uD .str)],⟨[(.cell 6 74,tD y33),(.tmp 7,I8),(.tmp 8,eY)],[]⟩,mE 34 [],G8⟩
def s49:FSpec:=Y3 q49 λx=>jm x.1 x.2.1 x.2.2
def lU(A:A8)(B:bW):Option BG:=l9 (l7 (Y2 0 B.2.1) (l7 (I7 B.2.1 (x9 A.2.2.2.1)) (l9 (H9 A.2.2.2.1 B.2.1) λx=>some (x.1,[],B.2.2.2.1,B.2.2.2.2.1,B.2.2.2.2.2.2.2)) (some ([],[],B.2.2.2.1,B.2.2.2.2.1,B.2.2.2.2.2.2.2))) (some ([],[],B.2.2.2.1,B.2.2.2.2.1,B.2.2.2.2.2.2.2))) λx=>l7 (Y2 0 B.2.2.1) (l7 (I7 B.2.2.1 (x9 A.2.2.2.2)) (l9 (H9 A.2.2.2.2 B.2.2.1) λb=>some (x.1,b.1,x.2.2)) (some x)) (some x)
def q77:FQ:=⟨[tD y33,tD y28],cR 4 178 (tD y67),mE 52 [],sN 2 (aK (.join [(5,6),(13,32),(7000320,7000321)] ⟨[(5,(false,(.box (dT y67))))],[]⟩ G8) G8)⟩
def s77:FSpec:=Y3 q77 λx=>lU x.1 x.2
def fU(A:List O7)(B:List O7):Option Bool:=l7 (G5 (x8 (x9 A) (x9 B))) (some false) (l9 (ak (λ(x:Int)=>l7 (I7 x (x9 A)) (l9 (H9 A x) λb=>l9 (H9 B x) λc=>l7 (G5 (V7 (x8 b.1 c.1) (x8 b.2 c.2))) (some (.rt false)) (some (.nx (D7 .i64 x 1)))) (some (.ex ()))) 0) λo=>aN o (λy=>some true) λr=>some r)
def q78:FQ:=⟨[uD y21,uD y21],tR 4 eY,mE 26 [],sN 2 (aK (sN 1 (dY (lpR [(4,6),(13,26)] ⟨[(13,I8)],[]⟩ 0 sgN G8))) G8)⟩
def s78:FSpec:=Y3 q78 λx=>fU x.1 x.2
def xx(A:A8)(B:Int)(C:A8)(D:Int):Option Bool:=l9 (H9 A.2.2.2.2 B) λx=>l9 (H9 C.2.2.2.2 D) λd=>l9 (lU A x) λb=>l9 (lU C d) λc=>l7 (V7 (seq b.1 c.1) (V7 (seq b.2.1 c.2.1) (V7 (x8 b.2.2.1 c.2.2.1) (V7 (x8 b.2.2.2.1.1 c.2.2.2.1.1) (V7 (x8 b.2.2.2.1.2 c.2.2.2.1.2) (seq b.2.2.2.2 c.2.2.2.2)))))) (l9 (fU x.2.2.2.2.2.1 d.2.2.2.2.2.1) λf=>l7 f (l9 (fU x.2.2.2.2.2.2.1 d.2.2.2.2.2.2.1) λx=>some x) (some false)) (some false)
def q50:FQ:=⟨[tD y33,I8,tD y33,I8],tR 8 eY,mE 42 [(77,s77),(78,s78)],G8⟩
def s50:FSpec:=Y3 q50 λx=>xx x.1 x.2.1 x.2.2.1 x.2.2.2
end
end Gt
open Go Go.GP
namespace Gt
set_option maxRecDepth 100000
noncomputable section
def qR(A:ay)(B:ay):Option (List H7):=l9 (qA A) λx=>l9 (qA B) λg=>l9 (aX (λ(x:List H7×Int)=>l7 (I7 x.2 (x9 A.2.2)) (l9 (H9 A.2.2 x.2) λb=>l9 (aX (λ(x:List H7×Int)=>l7 (I7 x.2 (x9 b.2.2.2.2)) (l9 (H9 b.2.2.2.2 x.2) λd=>l9 (jm g b.1 d.1) λc=>l7 (G5 c.2.2) (l9 (dD x.1 [(b.1,d.1,1)]) λf=>some (.inl (f,D7 .i64 x.2 1))) (l9 (xx b x.2 c.1 c.2.1) λf=>l7 (G5 f) (l9 (dD x.1 [(b.1,d.1,3)]) λi=>some (.inl (i,D7 .i64 x.2 1))) (some (.inl (x.1,D7 .i64 x.2 1))))) (some (.inr x.1))) (x.1,0)) λy=>some (.inl (y,D7 .i64 x.2 1))) (some (.inr x.1))) ([],0)) λy=>l9 (aX (λ(b:List H7×Int)=>l7 (I7 b.2 (x9 B.2.2)) (l9 (H9 B.2.2 b.2) λd=>l9 (aX (λ(c:List H7×Int)=>l7 (I7 c.2 (x9 d.2.2.2.2)) (l9 (H9 d.2.2.2.2 c.2) λf=>l9 (jm x d.1 f.1) λx=>l7 (G5 x.2.2) (l9 (dD c.1 [(d.1,f.1,2)]) λx=>some (.inl (x,D7 .i64 c.2 1))) (some (.inl (c.1,D7 .i64 c.2 1)))) (some (.inr c.1))) (b.1,0)) λy=>some (.inl (y,D7 .i64 b.2 1))) (some (.inr b.1))) (y,0)) λy=>some y
def q27:FQ:=⟨[tD y36,tD y36],tR 4 (uO y3),mE 114 [(48,s48),(49,s49),(50,s50)],sN 3 (aK (sN 1 (dY (.loop [(7,8),(9,15),(29,77)] ⟨[(7,(uO y3)),(29,I8)],[]⟩ 0 ⟨[(7,(uO y3))],[]⟩ (sN 2 (aK (dY (sN 2 (dY (.loop [(7,8),(10,15),(36,76),(17000000,17000001)] ⟨[(7,(uO y3)),(36,I8)],[]⟩ 2 ⟨[(7,(uO y3))],[]⟩ G8)))) G8))))) (aK (sN 1 (dY (.loop [(7,8),(16,17),(18,22),(80,113),(18000000,18000001)] ⟨[(7,(uO y3)),(80,I8)],[]⟩ 4 ⟨[(7,(uO y3))],[]⟩ (sN 2 (aK (dY (sN 2 (dY (.loop [(7,8),(18,22),(87,112),(76000000,76000001)] ⟨[(7,(uO y3)),(87,I8)],[]⟩ 6 ⟨[(7,(uO y3))],[]⟩ G8)))) G8))))) G8))⟩
def s27:FSpec:=Y3 q27 λx=>qR x.1 x.2
def zH(A:ay)(B:ay)(C:Int)(D:jO)(E:Int):Option (X9×Int):=l9 (l9 (sF A) λx=>l7 (G5 (V7 (x8 x.1 0) (V7 (x8 x.2.1 0) (V7 (x8 x.2.2.1 0) (x8 x.2.2.2 0))))) (some (.inr (((0,0,0),(0,0,0),0,0,[]),1))) (l9 (sF B) λx=>l7 (G5 (V7 (x8 x.1 0) (V7 (x8 x.2.1 0) (V7 (x8 x.2.2.1 0) (x8 x.2.2.2 0))))) (some (.inr (((0,0,0),(0,0,0),0,0,[]),1))) (some (.inl ((0,0,0),(0,0,0),0,0,[]))))) λo=>aN o (λ(x:X9)=>l9 (l7 (I7 C 0) (some (.inr (((0,0,0),(0,0,0),0,0,[]),6))) (l7 (Y2 (x9 A.2.2) C) (some (.inr (((0,0,0),(0,0,0),0,0,[]),6))) (l7 (I7 E 0) (some (.inr (((0,0,0),(0,0,0),0,0,[]),6))) (l9 (H9 A.2.2 C) λf=>l7 (Y2 (x9 f.2.2.2.1) E) (some (.inr (((0,0,0),(0,0,0),0,0,[]),6))) (some (.inl x)))))) λo=>aN o (λ(x:X9)=>l9 (qg A B) λx=>l7 (G5 x) (some (((0,0,0),(0,0,0),0,0,[]),8)) (l9 (rq A C D E) λx=>l9 (rq B C D E) λf=>l9 (ru A C E) λj=>l9 (ru B C E) λi=>l9 (qR A B) λg=>l9 (aX (λ(x:X9×Int)=>l7 (I7 x.2 (x9 g)) (l9 (H9 g x.2) λk=>l9 (Y6 g (Y7 x.2)) λc=>l7 (G5 (x8 c.2.2 2)) (l7 (oM (λ(a b:dN)=>V7 (seq a.1 b.1) (seq a.2 b.2)) j (c.1,c.2.1) false) (l9 (dD x.1.2.2.2.2 [c]) λd=>some (.inl ((x.1.1,x.1.2.1,x.1.2.2.1,x.1.2.2.2.1,d),D7 .i64 x.2 1))) (l7 (G5 (x8 c.2.2 1)) (l7 (oM (λ(a b:dN)=>V7 (seq a.1 b.1) (seq a.2 b.2)) i (c.1,c.2.1) false) (l9 (dD x.1.2.2.2.2 [c]) λd=>some (.inl ((x.1.1,x.1.2.1,x.1.2.2.1,x.1.2.2.2.1,d),D7 .i64 x.2 1))) (some (.inl (x.1,D7 .i64 x.2 1)))) (some (.inl (x.1,D7 .i64 x.2 1))))) (l7 (G5 (x8 c.2.2 1)) (l7 (oM (λ(a b:dN)=>V7 (seq a.1 b.1) (seq a.2 b.2)) i (c.1,c.2.1) false) (l9 (dD x.1.2.2.2.2 [c]) λd=>some (.inl ((x.1.1,x.1.2.1,x.1.2.2.1,x.1.2.2.2.1,d),D7 .i64 x.2 1))) (some (.inl (x.1,D7 .i64 x.2 1)))) (some (.inl (x.1,D7 .i64 x.2 1))))) (some (.inr x.1))) ((x.1,f.1,x.2,f.2,[]),0)) λy=>some (y,0))) λr=>some r) λr=>some r
def q18:FQ:=⟨[tD y36,tD y36,I8,tD y40,I8],⟨[(.cell 10 35,tD y8),(.tmp 11,I8)],[]⟩,mE 126 [(23,s23),(24,s24),(25,s25),(26,s26),(27,s27)],sN 1 (aK (jnR [(10,12),(18,29),(4000640,4000641)] ⟨[(10,(false,(.box (dT y8))))],[]⟩ G8) (aK (jnR [(10,12),(29,54),(6000000,6000001)] ⟨[(10,(false,(.box (dT y8))))],[]⟩ G8) (sN 5 (aK (sN 1 (dY (.loop [(12,13),(16,18),(91,125),(37000768,37000769)] ⟨[(12,(false,(.box (pA (dT y1) (pA (dT y1) (pA diM (pA diM (oW y3)))))))),(91,I8)],[]⟩ 0 ⟨[(12,(false,(.box (pA (dT y1) (pA (dT y1) (pA diM (pA diM (oW y3))))))))],[]⟩ G8))) G8))))⟩
def s18:FSpec:=Y3 q18 λx=>zH x.1 x.2.1 x.2.2.1 x.2.2.2.1 x.2.2.2.2
def iM(A:X9):Option Bool:=l7 (x8 A.2.2.1 0) (l7 (x8 A.2.2.2.1 0) (some (G5 (V7 (x8 A.1.1 A.2.1.1) (V7 (x8 A.1.2.1 A.2.1.2.1) (x8 A.1.2.2 A.2.1.2.2))))) (l7 (x8 A.2.2.1 0) (some true) (some (x8 A.2.2.2.1 0)))) (l7 (x8 A.2.2.1 0) (some true) (some (x8 A.2.2.2.1 0)))
def q13:FQ:=⟨[tD y8],tR 2 eY,mE 24 [],G8⟩
def s13:FSpec:=Y3 q13 λx=>iM x
def wB(A:X9):Option ed:=l9 (l9 (iM A) λx=>l7 x (some (1,1,0,0,0,0,0)) (some (1,0,0,0,0,0,0))) λx=>l9 (l9 (l7 (x8 A.2.2.1 0) (some (G5 (x8 A.2.2.2.1 0))) (some false)) λb=>l7 b (some (x.1,x.2.1,x.2.2.1,x.2.2.2.1,1,x.2.2.2.2.2)) (l7 (G5 (x8 A.2.2.1 0)) (some x) (l7 (G5 (x8 A.2.2.2.1 0)) (some x) (l7 (I7 A.1.2.2 A.2.1.2.2) (some (x.1,x.2.1,1,x.2.2.2)) (l7 (I7 A.2.1.2.2 A.1.2.2) (some (x.1,x.2.1,x.2.2.1,1,x.2.2.2.2)) (some x)))))) λx=>some x
def q28:FQ:=⟨[tD y8],cR 2 50 (tD y44),mE 46 [(13,s13)],sN 2 (aK (.join [(3,4),(5,8),(7000192,7000193)] ⟨[(3,(false,(.box (dT y44))))],[]⟩ G8) (aK (.join [(3,4),(8,45),(9000000,9000001)] ⟨[(3,(false,(.box (dT y44))))],[]⟩ (dY (aK (.join [(8,17)] ⟨[(8,eY)],[]⟩ G8) G8))) G8))⟩
def s28:FSpec:=Y3 q28 λx=>wB x
def AL(A:ed)(B:ed):Option ed:=some (D7 .i64 A.1 B.1,D7 .i64 A.2.1 B.2.1,D7 .i64 A.2.2.1 B.2.2.1,D7 .i64 A.2.2.2.1 B.2.2.2.1,D7 .i64 A.2.2.2.2.1 B.2.2.2.2.1,A.2.2.2.2.2)
def q29:FQ:=⟨[tD y44,tD y44],cR 4 50 (tD y44),mE 36 [],G8⟩
def s29:FSpec:=Y3 q29 λx=>AL x.1 x.2
def FT(A:List Int):Option O7:=l9 (ak (λ(x:O7)=>l7 (I7 x.2 (x9 A)) (l9 (H9 A x.2) λb=>l9 (gp b 1000000000000000) λc=>l7 c (some (.rt (0,3))) (l9 (gp (D7 .i64 x.1 b) 1000000000000000) λd=>l7 d (some (.rt (0,3))) (some (.nx (D7 .i64 x.1 b,D7 .i64 x.2 1))))) (some (.ex x.1))) (0,0)) λo=>aN o (λy=>some (y,0)) λr=>some r
def q30:FQ:=⟨[uD y10],⟨[(.tmp 2,I8),(.tmp 3,I8)],[]⟩,mE 22 [(51,s51)],sN 2 (aK (sN 1 (dY (lpR [(2,5),(6,7),(9,21)] ⟨[(4,I8),(9,I8)],[]⟩ 0 ⟨[(4,I8)],[]⟩ G8))) G8)⟩
def s30:FSpec:=Y3 q30 λx=>FT x
def AO(A:List X9):Option (ed×Int):=l9 (aX (λ(x:ed×List Int×List Int×Int)=>l7 (I7 x.2.2.2 (x9 A)) (l9 (l9 (H9 A x.2.2.2) λb=>l9 (l9 (wB b) λc=>l7 (V7 (x8 c.1 1) (V7 (x8 c.2.1 0) (V7 (x8 c.2.2.1 0) (V7 (x8 c.2.2.2.1 0) (V7 (x8 c.2.2.2.2.1 0) (V7 (x8 c.2.2.2.2.2.1 0) (x8 c.2.2.2.2.2.2 0))))))) (some (D7 .i64 x.1.1 1,x.1.2)) (l9 (AL x.1 c) λx=>some x)) λc=>l9 (l7 (x8 b.2.2.1 0) (l7 (x8 b.1.1 3) (l9 (dD x.2.1 [b.1.2.2]) λx=>some x) (some x.2.1)) (some x.2.1)) λd=>l7 (x8 b.2.2.2.1 0) (l7 (x8 b.2.1.1 3) (l9 (dD x.2.2.1 [b.2.1.2.2]) λx=>some (c,d,x)) (some (c,d,x.2.2.1))) (some (c,d,x.2.2.1))) λb=>some (.inl (b.1,b.2.1,b.2.2,D7 .i64 x.2.2.2 1))) (some (.inr (x.1,x.2.1,x.2.2.1)))) ((0,0,0,0,0,0,0),[],[],0)) λy=>l9 (FT y.2.1) λx=>l9 (FT y.2.2) λb=>l7 (G5 (x8 x.2 0)) (some ((0,0,0,0,0,0,0),3)) (l7 (G5 (x8 b.2 0)) (some ((0,0,0,0,0,0,0),3)) (some ((y.1.1,y.1.2.1,y.1.2.2.1,y.1.2.2.2.1,y.1.2.2.2.2.1,x.1,b.1),0)))
def q19:FQ:=⟨[uD y9],⟨[(.cell 2 50,tD y44),(.tmp 3,I8)],[]⟩,mE 87 [(28,s28),(29,s29),(30,s30)],sN 4 (aK (sN 1 (dY (.loop [(4,7),(9,11),(18,65),(7000256,7000257)] ⟨[(4,(false,(.box (dT y44)))),(5,gZ),(6,gZ),(18,I8)],[]⟩ 0 ⟨[(4,(false,(.box (dT y44)))),(5,gZ),(6,gZ)],[]⟩ (sN 2 (aK (.join [(4,7),(9,11),(20,64),(20000000,20000003)] ⟨[(4,(false,(.box (dT y44)))),(5,gZ),(6,gZ)],[]⟩ (dY (sN 1 (aK (.join [(4,5),(10,11),(22,34),(20000000,20000001)] ⟨[(4,(false,(.box (dT y44))))],[]⟩ G8) (aK (.join [(5,6),(34,49),(20000001,20000002)] ⟨[(5,gZ)],[]⟩ G8) G8))))) G8))))) G8)⟩
def s19:FSpec:=Y3 q19 λx=>AO x
def AC(A:ay)(B:ay)(C:Int)(D:List jO)(E:Int):Option (List X9×ed×Int):=l7 (uP 0 (x9 D) 1073741824) (l9 (uz 0 ((0,0,0),(0,0,0),0,0,[])) λx=>l9 (ak (λ(x:ed×List X9×Int)=>l7 (I7 x.2.2 (x9 D)) (l9 (H9 D x.2.2) λc=>l9 (zH A B C c E) λb=>l7 (G5 (x8 b.2 0)) (some (.rt ([],(0,0,0,0,0,0,0),b.2))) (l9 (dD x.2.1 [b.1]) λd=>some (.nx (x.1,d,D7 .i64 x.2.2 1)))) (some (.ex (x.1,x.2.1)))) ((0,0,0,0,0,0,0),x,0)) λo=>aN o (λ(y:ed×List X9)=>l9 (AO y.2) λx=>l7 (G5 (x8 x.2 0)) (some ([],(0,0,0,0,0,0,0),x.2)) (some (y.2,x.1,0))) λr=>some r) none
def q11:FQ:=⟨[tD y36,tD y36,I8,uD y45,I8],⟨[(.tmp 10,uO y8),(.cell 11 50,tD y44),(.tmp 12,I8)],[]⟩,mE 58 [(18,s18),(19,s19)],sN 2 (aK (sN 1 (dY (lpR [(10,14),(15,18),(25,47),(4000704,4000705),(7001408,7001409)] ⟨[(11,(false,(.box (dT y44)))),(13,(uO y8)),(25,I8)],[]⟩ 0 ⟨[(11,(false,(.box (dT y44)))),(13,(uO y8))],[]⟩ G8))) G8)⟩
def s11:FSpec:=Y3 q11 λx=>AC x.1 x.2.1 x.2.2.1 x.2.2.2.1 x.2.2.2.2
def a9m:List MG:=[I8]
def s31:FSpec:=⟨a9m,[(false,(.dat .str))],[],λx=>DI x⟩
def aJ(A:Int):Option (List UInt8):=l9 (DI A) λx=>some x
def q20:FQ:=⟨[I8],tR 2 (uD .str),mE 5 [(31,s31)],G8⟩
def s20:FSpec:=Y3 q20 λx=>aJ x
def rW(A:Int):Option Int:=some (ul 0 (zG A 9))
def q32:FQ:=⟨[I8],tR 2 I8,mE 6 [],G8⟩
def s32:FSpec:=Y3 q32 λx=>rW x
def a9n:List MG:=[(false,(.dat .str)),I8]
def s33:FSpec:=⟨a9n,[(false,(.dat .str))],[],λx=>qi x.1 x.2⟩
def iC(A:Int)(B:Int):Option (List UInt8):=l9 (rW B) λx=>l9 (aJ A) λc=>l7 (x8 x 0) (some c) (l7 (I7 A 0) (l9 (rD c 1 (x9 c)) λb=>l7 (Y2 (x9 b) x) (l9 (qi [48] (O0 .i64 (D7 .i64 x 1) (x9 b))) λd=>l9 (kH d b) λf=>l9 (rD f 0 (O0 .i64 (x9 f) x)) λg=>l9 (kH [45] g) λi=>l9 (kH i [46]) λj=>l9 (rD f (O0 .i64 (x9 f) x) (x9 f)) λx=>l9 (kH j x) λx=>some x) (l9 (rD b 0 (O0 .i64 (x9 b) x)) λd=>l9 (kH [45] d) λf=>l9 (kH f [46]) λg=>l9 (rD b (O0 .i64 (x9 b) x) (x9 b)) λx=>l9 (kH g x) λx=>some x)) (l7 (Y2 (x9 c) x) (l9 (qi [48] (O0 .i64 (D7 .i64 x 1) (x9 c))) λb=>l9 (kH b c) λd=>l9 (rD d 0 (O0 .i64 (x9 d) x)) λf=>l9 (kH [] f) λg=>l9 (kH g [46]) λi=>l9 (rD d (O0 .i64 (x9 d) x) (x9 d)) λx=>l9 (kH i x) λx=>some x) (l9 (rD c 0 (O0 .i64 (x9 c) x)) λb=>l9 (kH [] b) λd=>l9 (kH d [46]) λf=>l9 (rD c (O0 .i64 (x9 c) x) (x9 c)) λx=>l9 (kH f x) λx=>some x)))
def q21:FQ:=⟨[I8,I8],tR 4 (uD .str),mE 45 [(32,s32),(20,s20),(33,s33)],G8⟩
def s21:FSpec:=Y3 q21 λx=>iC x.1 x.2
def ET(A:Int)(B:O7)(C:List iI):Option Bool:=l9 (mQ B C) λx=>l7 (Y2 x.1 A) (some (Y2 A x.2)) (some false)
def q86:FQ:=⟨[I8,tD y0,uD y12],tR 6 eY,mE 23 [(89,s89)],G8⟩
def s86:FSpec:=Y3 q86 λx=>ET x.1 x.2.1 x.2.2
def DR(A:Int)(B:Int):Option (List UInt8):=l9 (aJ A) λx=>l9 (qi [48] (ul 0 (O0 .i64 B (x9 x)))) λb=>l9 (kH b x) λx=>some x
def a4R:FQ:=⟨[I8,I8],tR 4 (uD .str),mE 16 [(20,s20),(33,s33)],G8⟩
def a6N:FSpec:=Y3 a4R λx=>DR x.1 x.2
def GL(A:Int):Option (List UInt8):=l9 (qo A) λx=>l7 (G5 x) (some []) (l9 (qm A) λx=>l9 (DR x.1 4) λb=>l9 (kH b [45]) λc=>l9 (DR x.2.1 2) λd=>l9 (kH c d) λf=>l9 (kH f [45]) λg=>l9 (DR x.2.2 2) λx=>l9 (kH g x) λx=>some x)
def q87:FQ:=⟨[I8],tR 2 (uD .str),mE 25 [(120,Zj),(121,Zk),(122,a6N)],G8⟩
def s87:FSpec:=Y3 q87 λx=>GL x
def ES(A:P6)(B:List iI):Option (List UInt8×Int):=l9 (aS (A.1,A.2.1) B) λx=>l7 (G5 x) (some ([],8)) (l9 (ET A.2.2 (A.1,A.2.1) B) λx=>l7 (G5 x) (some ([],3)) (l7 (x8 A.1 1) (l7 (x8 A.2.2 0) (some ([102,97,108,115,101],0)) (some ([116,114,117,101],0))) (l7 (x8 A.1 2) (l9 (aJ A.2.2) λx=>some (x,0)) (l7 (x8 A.1 3) (l9 (iC A.2.2 2) λx=>some (x,0)) (l7 (x8 A.1 4) (l9 (iC A.2.2 4) λx=>l9 (kH x [37]) λx=>some (x,0)) (l7 (x8 A.1 5) (l9 (GL A.2.2) λx=>some (x,0)) (l9 (H9 B A.2.1) λx=>l9 (H9 x.2 A.2.2) λx=>some (x,0))))))))
def q59:FQ:=⟨[tD y1,uD y12],⟨[(.tmp 4,(uD .str)),(.tmp 5,I8)],[]⟩,mE 60 [(85,s85),(86,s86),(20,s20),(21,s21),(87,s87)],G8⟩
def s59:FSpec:=Y3 q59 λx=>ES x.1 x.2
def rG(A:P6)(B:Int)(C:List iI):Option (List UInt8):=l7 (G5 (x8 B 0)) (l9 (aJ B) λx=>l9 (kH [101,114,114,111,114,32] x) λx=>some x) (l9 (ES A C) λx=>l7 (G5 (x8 x.2 0)) (some [63]) (some x.1))
def q34:FQ:=⟨[tD y1,I8,uD y12],tR 6 (uD .str),mE 23 [(20,s20),(59,s59)],G8⟩
def s34:FSpec:=Y3 q34 λx=>rG x.1 x.2.1 x.2.2
def zg(A:X9)(B:List iI):Option (List UInt8):=l9 (rG A.1 A.2.2.1 B) λx=>l9 (kH x [32,45,62,32]) λx=>l9 (rG A.2.1 A.2.2.2.1 B) λi=>l9 (kH x i) λx=>l9 (aX (λ(x:List Int×Int)=>l7 (I7 x.2 (x9 A.2.2.2.2)) (l9 (H9 A.2.2.2.2 x.2) λb=>l7 (x8 x.2 0) (l9 (dD x.1 (zU [32,98,121,32])) λc=>l9 (dD c (zU b.1)) λd=>l9 (dD d [46]) λf=>l9 (dD f (zU b.2.1)) λg=>some (.inl (g,D7 .i64 x.2 1))) (l9 (dD x.1 (zU [44,32])) λc=>l9 (dD c (zU b.1)) λd=>l9 (dD d [46]) λf=>l9 (dD f (zU b.2.1)) λg=>some (.inl (g,D7 .i64 x.2 1)))) (some (.inr x.1))) (zU x,0)) λy=>some (VN y)
def q22:FQ:=⟨[tD y8,uD y12],tR 4 (uD .str),mE 53 [(34,s34)],sN 3 (aK (sN 1 (dY (.loop [(6,9),(28,51),(10001536,10001537)] ⟨[(6,(false,(oW (.int .u8)))),(28,I8)],[]⟩ 0 ⟨[(6,(false,(oW (.int .u8))))],[]⟩ G8))) G8)⟩
def s22:FSpec:=Y3 q22 λx=>zg x.1 x.2
def wz(A:List X9)(B:ed)(C:List iI):Option (List (List UInt8)):=l9 (aJ B.1) λx=>l9 (kH [99,97,115,101,115,32] x) λx=>l9 (kH x [32,99,104,97,110,103,101,100,32]) λx=>l9 (aJ B.2.1) λc=>l9 (kH x c) λx=>l9 (kH x [32,103,97,105,110,101,100,32]) λx=>l9 (aJ B.2.2.1) λq=>l9 (kH x q) λx=>l9 (kH x [32,114,101,100,117,99,101,100,32]) λx=>l9 (aJ B.2.2.2.1) λt=>l9 (kH x t) λx=>l9 (kH x [32,102,97,105,108,101,100,32]) λx=>l9 (aJ B.2.2.2.2.1) λu=>l9 (kH x u) λx=>l9 (iC B.2.2.2.2.2.1 2) λv=>l9 (kH [111,108,100,32] v) λw=>l9 (kH w [32,110,101,119,32]) λz=>l9 (iC B.2.2.2.2.2.2 2) λh=>l9 (kH z h) λm=>l7 (uP 2 (D7 .i64 2 (x9 A)) 1073741824) (l9 (uz 2 []) λd=>l9 (aX (λ(x:List (List UInt8)×Int)=>l7 (I7 x.2 (x9 A)) (l9 (H9 A x.2) λb=>l9 (iM b) λf=>l7 f (l9 (aJ x.2) λg=>l9 (kH [99,97,115,101,32] g) λi=>l9 (kH i [58,32]) λj=>l9 (zg b C) λk=>l9 (kH j k) λn=>l9 (dD x.1 [n]) λp=>some (.inl (p,D7 .i64 x.2 1))) (some (.inl (x.1,D7 .i64 x.2 1)))) (some (.inr x.1))) (BX d [x,m],0)) λy=>some y) none
def q12:FQ:=⟨[uD y9,tD y44,uD y12],tR 6 (uO .str),mE 74 [(20,s20),(21,s21),(13,s13),(22,s22)],sN 4 (aK (sN 1 (dY (.loop [(8,11),(54,73),(10003072,10003073)] ⟨[(8,(uO .str)),(54,I8)],[]⟩ 0 ⟨[(8,(uO .str))],[]⟩ G8))) G8)⟩
def s12:FSpec:=Y3 q12 λx=>wz x.1 x.2.1 x.2.2
def fJ(A:X9):Option Int:=l7 (G5 (x8 A.2.2.1 0)) (some 0) (l7 (G5 (x8 A.2.2.2.1 0)) (some 0) (l7 (G5 (x8 A.1.1 3)) (some 0) (l7 (G5 (x8 A.2.1.1 3)) (some 0) (some (O0 .i64 A.2.1.2.2 A.1.2.2)))))
def q14:FQ:=⟨[tD y8],tR 2 I8,mE 30 [],G8⟩
def s14:FSpec:=Y3 q14 λx=>fJ x
def jC(A:List X9):Option (List H7×List Int×List Int):=l9 (aX (λ(x:List H7×List Int×List Int×List Int×List (H7×Int)×Int)=>l7 (I7 x.2.2.2.2.2 (x9 A)) (l9 (H9 A x.2.2.2.2.2) λj=>l9 (iM j) λs=>l7 (G5 s) (some (.inl (x.1,x.2.1,x.2.2.1,x.2.2.2.1,x.2.2.2.2.1,D7 .i64 x.2.2.2.2.2 1))) (l9 (aX (λ(c:List H7×List Int×List Int×List Int×List (H7×Int)×Int)=>l7 (I7 c.2.2.2.2.2 (x9 j.2.2.2.2)) (l9 (H9 j.2.2.2.2 c.2.2.2.2.2) λd=>l7 (G5 (IJ (λ(a b:H7)=>V7 (seq a.1 b.1) (V7 (seq a.2.1 b.2.1) (x8 a.2.2 b.2.2))) c.2.2.2.2.1 d)) (l9 (dD c.1 [d]) λp=>l9 (dD c.2.1 [0]) λf=>l9 (dD c.2.2.1 [0]) λg=>l9 (dD c.2.2.2.1 [-1]) λi=>l9 (H9 i (x9 c.1)) λx_9=>l9 (Y6 i (Y7 (x9 c.1))) λk=>l7 (x8 k x.2.2.2.2.2) (some (.inl (p,f,g,i,Du (λ(a b:H7)=>V7 (seq a.1 b.1) (V7 (seq a.2.1 b.2.1) (x8 a.2.2 b.2.2))) c.2.2.2.2.1 d (x9 c.1),D7 .i64 c.2.2.2.2.2 1))) (l9 (H9 i (x9 c.1)) λt=>l9 (Y6 i (Y7 (x9 c.1))) λu=>l9 (H9 f (x9 c.1)) λv=>l9 (Y6 f (Y7 (x9 c.1))) λn=>l9 (H9 f (x9 c.1)) λq=>l9 (Y6 f (Y7 (x9 c.1))) λw=>l9 (H9 g (x9 c.1)) λz=>l9 (Y6 g (Y7 (x9 c.1))) λh=>l9 (fJ j) λm=>l9 (H9 g (x9 c.1)) λx_20=>l9 (Y6 g (Y7 (x9 c.1))) λx_21=>some (.inl (p,aU f (Y7 (x9 c.1)) (D7 .i64 n 1),aU g (Y7 (x9 c.1)) (D7 .i64 h m),aU i (Y7 (x9 c.1)) x.2.2.2.2.2,Du (λ(a b:H7)=>V7 (seq a.1 b.1) (V7 (seq a.2.1 b.2.1) (x8 a.2.2 b.2.2))) c.2.2.2.2.1 d (x9 c.1),D7 .i64 c.2.2.2.2.2 1)))) (l9 (H9 c.2.2.2.1 (oM (λ(a b:H7)=>V7 (seq a.1 b.1) (V7 (seq a.2.1 b.2.1) (x8 a.2.2 b.2.2))) c.2.2.2.2.1 d 0)) λp=>l9 (Y6 c.2.2.2.1 (Y7 (oM (λ(a b:H7)=>V7 (seq a.1 b.1) (V7 (seq a.2.1 b.2.1) (x8 a.2.2 b.2.2))) c.2.2.2.2.1 d 0))) λf=>l7 (x8 f x.2.2.2.2.2) (some (.inl (c.1,c.2.1,c.2.2.1,c.2.2.2.1,c.2.2.2.2.1,D7 .i64 c.2.2.2.2.2 1))) (l9 (H9 c.2.2.2.1 (oM (λ(a b:H7)=>V7 (seq a.1 b.1) (V7 (seq a.2.1 b.2.1) (x8 a.2.2 b.2.2))) c.2.2.2.2.1 d 0)) λg=>l9 (Y6 c.2.2.2.1 (Y7 (oM (λ(a b:H7)=>V7 (seq a.1 b.1) (V7 (seq a.2.1 b.2.1) (x8 a.2.2 b.2.2))) c.2.2.2.2.1 d 0))) λi=>l9 (H9 c.2.1 (oM (λ(a b:H7)=>V7 (seq a.1 b.1) (V7 (seq a.2.1 b.2.1) (x8 a.2.2 b.2.2))) c.2.2.2.2.1 d 0)) λx_9=>l9 (Y6 c.2.1 (Y7 (oM (λ(a b:H7)=>V7 (seq a.1 b.1) (V7 (seq a.2.1 b.2.1) (x8 a.2.2 b.2.2))) c.2.2.2.2.1 d 0))) λk=>l9 (H9 c.2.1 (oM (λ(a b:H7)=>V7 (seq a.1 b.1) (V7 (seq a.2.1 b.2.1) (x8 a.2.2 b.2.2))) c.2.2.2.2.1 d 0)) λt=>l9 (Y6 c.2.1 (Y7 (oM (λ(a b:H7)=>V7 (seq a.1 b.1) (V7 (seq a.2.1 b.2.1) (x8 a.2.2 b.2.2))) c.2.2.2.2.1 d 0))) λu=>l9 (H9 c.2.2.1 (oM (λ(a b:H7)=>V7 (seq a.1 b.1) (V7 (seq a.2.1 b.2.1) (x8 a.2.2 b.2.2))) c.2.2.2.2.1 d 0)) λv=>l9 (Y6 c.2.2.1 (Y7 (oM (λ(a b:H7)=>V7 (seq a.1 b.1) (V7 (seq a.2.1 b.2.1) (x8 a.2.2 b.2.2))) c.2.2.2.2.1 d 0))) λn=>l9 (fJ j) λq=>l9 (H9 c.2.2.1 (oM (λ(a b:H7)=>V7 (seq a.1 b.1) (V7 (seq a.2.1 b.2.1) (x8 a.2.2 b.2.2))) c.2.2.2.2.1 d 0)) λw=>l9 (Y6 c.2.2.1 (Y7 (oM (λ(a b:H7)=>V7 (seq a.1 b.1) (V7 (seq a.2.1 b.2.1) (x8 a.2.2 b.2.2))) c.2.2.2.2.1 d 0))) λz=>some (.inl (c.1,aU c.2.1 (Y7 (oM (λ(a b:H7)=>V7 (seq a.1 b.1) (V7 (seq a.2.1 b.2.1) (x8 a.2.2 b.2.2))) c.2.2.2.2.1 d 0)) (D7 .i64 k 1),aU c.2.2.1 (Y7 (oM (λ(a b:H7)=>V7 (seq a.1 b.1) (V7 (seq a.2.1 b.2.1) (x8 a.2.2 b.2.2))) c.2.2.2.2.1 d 0)) (D7 .i64 n q),aU c.2.2.2.1 (Y7 (oM (λ(a b:H7)=>V7 (seq a.1 b.1) (V7 (seq a.2.1 b.2.1) (x8 a.2.2 b.2.2))) c.2.2.2.2.1 d 0)) x.2.2.2.2.2,c.2.2.2.2.1,D7 .i64 c.2.2.2.2.2 1))))) (some (.inr (c.1,c.2.1,c.2.2.1,c.2.2.2.1,c.2.2.2.2.1)))) (x.1,x.2.1,x.2.2.1,x.2.2.2.1,x.2.2.2.2.1,0)) λy=>some (.inl (y.1,y.2.1,y.2.2.1,y.2.2.2.1,y.2.2.2.2,D7 .i64 x.2.2.2.2.2 1)))) (some (.inr (x.1,x.2.1,x.2.2.1)))) ([],[],[],[],[],0)) λy=>some y
def q6:FQ:=⟨[uD y9],⟨[(.tmp 2,uO y3),(.tmp 3,gZ),(.tmp 4,gZ)],[]⟩,mE 89 [(13,s13),(14,s14)],sN 4 (aK (sN 1 (dY (.loop [(5,12),(13,16),(19,86),(13001024,13001025)] ⟨[(5,(uO y3)),(6,gZ),(7,gZ),(8,gZ),(9,(false,(oW (.ent true false y3 (.int .i64))))),(19,I8)],[]⟩ 0 ⟨[(5,(uO y3)),(6,gZ),(7,gZ)],[]⟩ (sN 2 (aK (dY (sN 3 (dY (.loop [(5,10),(13,16),(30,85),(20000000,20000005)] ⟨[(5,(uO y3)),(6,gZ),(7,gZ),(8,gZ),(9,(false,(oW (.ent true false y3 (.int .i64))))),(30,I8)],[]⟩ 2 ⟨[(5,(uO y3)),(6,gZ),(7,gZ),(8,gZ),(9,(false,(oW (.ent true false y3 (.int .i64)))))],[]⟩ G8)))) G8))))) G8)⟩
def s6:FSpec:=Y3 q6 λx=>jC x
def qF(A:List Int)(B:List Int):Option Bool:=l7 (G5 (x8 (x9 A) (x9 B))) (some false) (l9 (ak (λ(x:Int)=>l7 (I7 x (x9 A)) (l7 (I7 x (x9 B)) (l9 (H9 A x) λb=>l9 (H9 B x) λc=>l7 (G5 (x8 b c)) (some (.rt false)) (some (.nx (D7 .i64 x 1)))) (some (.ex ()))) (some (.ex ()))) 0) λo=>aN o (λy=>some true) λr=>some r)
def q9:FQ:=⟨[uD y10,uD y10],tR 4 eY,mE 32 [],sN 2 (aK (sN 1 (dY (lpR [(4,6),(11,32)] ⟨[(5,I8)],[]⟩ 0 sgN G8))) G8)⟩
def s9:FSpec:=Y3 q9 λx=>qF x.1 x.2
def vO:Option Bool:=l9 (yE [(3,1000)]) λx=>l9 (yE [(7,0)]) λd=>l9 (AC x d 0 [(45000,[(3,0,1200)],[]),(45000,[(3,0,1000)],[])] 0) λx=>l9 (wz x.1 x.2.1 []) λb=>l9 (jC x.1) λc=>l9 (l7 (G5 (x8 x.2.2 0)) (some (.inr false)) (l7 (G5 (x8 (x9 b) 3)) (some (.inr false)) (l7 (G5 (x8 (x9 c.1) 1)) (some (.inr false)) (some (.inl ()))))) λo=>aN o (λf=>l7 (V7 (x8 x.2.1.1 2) (V7 (x8 x.2.1.2.1 1) (V7 (x8 x.2.1.2.2.1 1) (V7 (x8 x.2.1.2.2.2.1 0) (V7 (x8 x.2.1.2.2.2.2.1 0) (V7 (x8 x.2.1.2.2.2.2.2.1 2000) (x8 x.2.1.2.2.2.2.2.2 2200))))))) (l9 (H9 b 0) λx=>l9 (Y6 b (Y7 0)) λx=>l7 (seq x [99,97,115,101,115,32,50,32,99,104,97,110,103,101,100,32,49,32,103,97,105,110,101,100,32,49,32,114,101,100,117,99,101,100,32,48,32,102,97,105,108,101,100,32,48]) (l9 (H9 b 1) λx=>l9 (Y6 b (Y7 1)) λx=>l7 (seq x [111,108,100,32,50,48,46,48,48,32,110,101,119,32,50,50,46,48,48]) (l9 (H9 b 2) λx=>l9 (Y6 b (Y7 2)) λx=>l7 (seq x [99,97,115,101,32,48,58,32,49,48,46,48,48,32,45,62,32,49,50,46,48,48,32,98,121,32,104,111,117,115,101,46,98,97,115,101]) (l9 (H9 c.1 0) λx=>l9 (Y6 c.1 (Y7 0)) λx=>l7 (V7 (seq x.1 [104,111,117,115,101]) (V7 (seq x.2.1 [98,97,115,101]) (x8 x.2.2 3))) (l9 (qF c.2.1 [1]) λx=>l7 x (l9 (qF c.2.2 [200]) λx=>some x) (some false)) (some false)) (some false)) (some false)) (some false)) (some false)) λr=>some r
def q5:FQ:=⟨[],tR 0 eY,mE 93 [(10,s10),(11,s11),(12,s12),(6,s6),(9,s9)],sN 8 (aK (jnR [(0,1),(43,55)] sgN G8) G8)⟩
def s5:FSpec:=Y3 q5 λx=>vO
def nR(A:X9):Option Bool:=l7 (G5 (qY (x8 A.2.2.1 0) (x8 A.2.2.2.1 0))) (some true) (l7 (x8 A.2.2.1 0) (some (G5 (V7 (x8 A.1.1 A.2.1.1) (V7 (x8 A.1.2.1 A.2.1.2.1) (x8 A.1.2.2 A.2.1.2.2))))) (some false))
def q15:FQ:=⟨[tD y8],tR 2 eY,mE 20 [],G8⟩
def s15:FSpec:=Y3 q15 λx=>nR x
def uK(A:List H7)(B:H7):Option Int:=l9 (ak (λ(x:Int)=>l7 (I7 x (x9 A)) (l9 (H9 A x) λb=>l7 (V7 (seq b.1 B.1) (V7 (seq b.2.1 B.2.1) (x8 b.2.2 B.2.2))) (some (.rt x)) (some (.nx (D7 .i64 x 1)))) (some (.ex ()))) 0) λo=>aN o (λy=>some (-1)) λr=>some r
def q16:FQ:=⟨[uD y4,tD y3],tR 4 I8,mE 19 [],sN 1 (aK (sN 1 (dY (lpR [(4,19)] ⟨[(5,I8)],[]⟩ 0 sgN G8))) G8)⟩
def s16:FSpec:=Y3 q16 λx=>uK x.1 x.2
def kD(A:X9):Option Int:=l7 (G5 (x8 A.2.2.1 0)) (some 0) (l7 (G5 (x8 A.2.2.2.1 0)) (some 0) (l7 (G5 (x8 A.1.1 3)) (some 0) (l7 (G5 (x8 A.2.1.1 3)) (some 0) (some (O0 .i64 A.2.1.2.2 A.1.2.2)))))
def q17:FQ:=⟨[tD y8],tR 2 I8,mE 30 [],G8⟩
def s17:FSpec:=Y3 q17 λx=>kD x
def sH(A:List X9):Option (List H7×List Int×List Int):=l9 (aX (λ(x:List H7×List Int×List Int×Int)=>l7 (I7 x.2.2.2 (x9 A)) (l9 (H9 A x.2.2.2) λn=>l9 (nR n) λv=>l7 (G5 v) (some (.inl (x.1,x.2.1,x.2.2.1,D7 .i64 x.2.2.2 1))) (l9 (aX (λ(b:List H7×List Int×List Int×Int)=>l9 (H9 A x.2.2.2) λw=>l7 (I7 b.2.2.2 (x9 w.2.2.2.2)) (l9 (H9 A x.2.2.2) λz=>l9 (H9 z.2.2.2.2 b.2.2.2) λg=>l9 (H9 A x.2.2.2) λh=>l9 (rD h.2.2.2.2 0 b.2.2.2) λm=>l9 (uK m g) λs=>l7 (Y2 0 s) (some (.inl (b.1,b.2.1,b.2.2.1,D7 .i64 b.2.2.2 1))) (l9 (uK b.1 g) λc=>l7 (I7 c 0) (l9 (dD b.1 [g]) λi=>l9 (dD b.2.1 [0]) λd=>l9 (dD b.2.2.1 [0]) λf=>l9 (H9 d (x9 b.1)) λp=>l9 (Y6 d (Y7 (x9 b.1))) λj=>l9 (H9 d (x9 b.1)) λk=>l9 (Y6 d (Y7 (x9 b.1))) λq=>l9 (H9 f (x9 b.1)) λt=>l9 (Y6 f (Y7 (x9 b.1))) λu=>l9 (H9 A x.2.2.2) λx=>l9 (kD x) λx=>l9 (H9 f (x9 b.1)) λx_20=>l9 (Y6 f (Y7 (x9 b.1))) λx_21=>some (.inl (i,aU d (Y7 (x9 b.1)) (D7 .i64 j 1),aU f (Y7 (x9 b.1)) (D7 .i64 u x),D7 .i64 b.2.2.2 1))) (l9 (H9 b.2.1 c) λi=>l9 (Y6 b.2.1 (Y7 c)) λd=>l9 (H9 b.2.1 c) λf=>l9 (Y6 b.2.1 (Y7 c)) λp=>l9 (H9 b.2.2.1 c) λj=>l9 (Y6 b.2.2.1 (Y7 c)) λk=>l9 (H9 A x.2.2.2) λx=>l9 (kD x) λx=>l9 (H9 b.2.2.1 c) λq=>l9 (Y6 b.2.2.1 (Y7 c)) λt=>some (.inl (b.1,aU b.2.1 (Y7 c) (D7 .i64 d 1),aU b.2.2.1 (Y7 c) (D7 .i64 k x),D7 .i64 b.2.2.2 1))))) (some (.inr (b.1,b.2.1,b.2.2.1)))) (x.1,x.2.1,x.2.2.1,0)) λy=>some (.inl (y.1,y.2.1,y.2.2,D7 .i64 x.2.2.2 1)))) (some (.inr (x.1,x.2.1,x.2.2.1)))) ([],[],[],0)) λy=>some y
def q7:FQ:=⟨[uD y9],⟨[(.tmp 2,uO y3),(.tmp 3,gZ),(.tmp 4,gZ)],[]⟩,mE 92 [(15,s15),(16,s16),(17,s17)],sN 3 (aK (sN 1 (dY (.loop [(5,12),(15,89),(7000768,7000769),(10000832,10000833),(10000896,10000897)] ⟨[(5,(uO y3)),(6,gZ),(7,gZ),(8,I8)],[]⟩ 0 ⟨[(5,(uO y3)),(6,gZ),(7,gZ)],[]⟩ (sN 1 (aK (dY (sN 2 (dY (.loop [(5,8),(9,12),(27,89),(17000000,17000003)] ⟨[(5,(uO y3)),(6,gZ),(7,gZ),(9,I8)],[]⟩ 2 ⟨[(5,(uO y3)),(6,gZ),(7,gZ)],[]⟩ G8)))) G8))))) G8)⟩
def s7:FSpec:=Y3 q7 λx=>sH x
def sO(A:List H7)(B:List H7):Option Bool:=l7 (G5 (x8 (x9 A) (x9 B))) (some false) (l9 (ak (λ(x:Int)=>l7 (I7 x (x9 A)) (l7 (I7 x (x9 B)) (l9 (H9 A x) λb=>l9 (H9 B x) λc=>l7 (G5 (V7 (seq b.1 c.1) (V7 (seq b.2.1 c.2.1) (x8 b.2.2 c.2.2)))) (some (.rt false)) (some (.nx (D7 .i64 x 1)))) (some (.ex ()))) (some (.ex ()))) 0) λo=>aN o (λy=>some true) λr=>some r)
def q8:FQ:=⟨[uD y4,uD y4],tR 4 eY,mE 32 [],sN 2 (aK (sN 1 (dY (lpR [(4,6),(11,32)] ⟨[(5,I8)],[]⟩ 0 sgN G8))) G8)⟩
def s8:FSpec:=Y3 q8 λx=>sO x.1 x.2
def ps3:List MG:=[(false,(.dat y9))]
def kP(A:List X9):Option Bool:=l9 (vP A) λx=>l7 (G5 x) (l9 vO λx=>some x) (l9 (jC A) λx=>l9 (sH A) λb=>l9 (sO x.1 b.1) λc=>l7 c (l9 (qF x.2.1 b.2.1) λd=>l7 d (l9 (qF x.2.2 b.2.2) λx=>l7 x (l9 vO λx=>some x) (some false)) (some false)) (some false))
def q3:FQ:=⟨ps3,tR 2 eY,mE 41 [(4,s4),(5,s5),(6,s6),(7,s7),(8,s8),(9,s9)],G8⟩
def s3:FSpec:=Y3 q3 λx=>kP x
end
end Gt
