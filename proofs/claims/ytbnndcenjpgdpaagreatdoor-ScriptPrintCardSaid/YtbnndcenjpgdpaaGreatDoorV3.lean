import Derived.Test.YtbnndcenjpgdpaaGreatDoorV2
set_option linter.all false
open Go Go.GP
namespace Gt
set_option maxRecDepth 100000
noncomputable section
def Ut(f:Func):Code:=match f.body with|some c=>c|none=> .skip
abbrev mkS(ps:List MG)(rt:Ret)(F:Y3 ps->Option rt.den):FSpec:=⟨ps,rt.rs.map (·.2),rt.outs.map (·.2),F⟩
structure FQ where
 (ps:List MG)
 (rt:Ret)
 (E:Env)
 (an:Ann)
abbrev dX(q:FQ)(F:Y3 q.ps->Option q.rt.den):FSpec:=mkS q.ps q.rt F
abbrev jnR:=Ann.joinR
abbrev lpR:=Ann.loopR
abbrev iC:=Ann.seq
abbrev pq:=Ann.blk
abbrev sgN:Sig:=⟨[],[]⟩
def sN:Nat->Ann->Ann
 |0,a=>a|n+1,a=> .seq .leaf (sN n a)
abbrev uO(t:Ty):MG:=(false,.own t)
abbrev uD(t:Ty):MG:=(false,.dat t)
abbrev tD(t:Ty):MG:=(true,.dat t)
abbrev pA:=M.pair
abbrev oW:=M.own
abbrev dT:=M.dat
abbrev O7:Ann:=.leaf
abbrev J6:M:=.dat (.int .i64)
abbrev oiM:M:=.own (.int .i64)
abbrev dbM:M:=.dat .bool
abbrev Z4:MG:=(false,J6)
abbrev iQ:MG:=(false,dbM)
abbrev uoM:MG:=(false,oiM)
abbrev y0:Ty:=.prod .str (.sl .str)
abbrev y1:Ty:=.sl y0
abbrev y2:Ty:=.prod (.int .i64) (.int .i64)
abbrev y3:Ty:=.prod (.int .i64) y2
abbrev y4:Ty:=.prod y2 y3
abbrev y5:Ty:=.sl y4
abbrev y6:Ty:=.prod y2 y5
abbrev y7:Ty:=.prod y2 y6
abbrev y8:Ty:=.prod .str y7
abbrev y9:Ty:=.sl y8
abbrev y10:Ty:=.prod .str y2
abbrev y11:Ty:=.sl y10
abbrev y12:Ty:=.sl y2
abbrev y13:Ty:=.prod y12 .str
abbrev y14:Ty:=.prod y12 y13
abbrev y15:Ty:=.prod y2 y14
abbrev y16:Ty:=.prod (.int .i64) y15
abbrev y17:Ty:=.prod (.int .i64) y16
abbrev y18:Ty:=.prod (.int .i64) y17
abbrev y19:Ty:=.prod .str y18
abbrev y20:Ty:=.sl y19
abbrev y21:Ty:=.prod y11 y20
abbrev y22:Ty:=.prod y11 y21
abbrev y23:Ty:=.prod (.int .i64) y22
abbrev y24:Ty:=.prod .str y23
abbrev y25:Ty:=.sl y24
abbrev y26:Ty:=.prod y9 y25
abbrev y27:Ty:=.prod y1 y26
abbrev y28:Ty:=.prod (.int .i64) y3
abbrev y29:Ty:=.sl (.int .u8)
abbrev y30:Ty:=.prod (.sl .str) (.sl .str)
abbrev y31:Ty:=.prod (.sl .str) y30
abbrev y32:Ty:=.prod (.sl .str) y31
abbrev jK:Ty:=.prod y1 y32
abbrev y34:Ty:=.sl y3
abbrev y35:Ty:=.sl y34
abbrev y36:Ty:=.prod y34 y35
abbrev y37:Ty:=.prod (.int .i64) y36
abbrev y38:Ty:=.sl (.int .i64)
abbrev y39:Ty:=.prod (.int .i64) .bool
abbrev y40:Ty:=.prod .str y39
abbrev y41:Ty:=.sl y40
abbrev y42:Ty:=.prod y12 .bool
abbrev y43:Ty:=.prod y12 y42
abbrev y44:Ty:=.prod y12 y43
abbrev y45:Ty:=.prod y9 y44
abbrev y46:Ty:=.prod y1 y45
abbrev y47:Ty:=.prod y34 y38
abbrev y48:Ty:=.sl y47
abbrev y49:Ty:=.prod y38 y48
abbrev y50:Ty:=.prod y34 y49
abbrev y51:Ty:=.prod .str (.int .i64)
abbrev y52:Ty:=.prod .str y51
abbrev y53:Ty:=.sl y52
abbrev y54:Ty:=.sl y38
abbrev y55:Ty:=.prod jK .bool
abbrev y56:Ty:=.prod (.int .i64) y55
abbrev y57:Ty:=.prod y27 y56
abbrev y58:Ty:=.sl (.ent false false .str (.int .i64))
abbrev y59:Ty:=.prod y24 y58
abbrev y60:Ty:=.sl (.ent false true .str y59)
abbrev y61:Ty:=.prod .str .bool
abbrev y62:Ty:=.prod y2 .str
abbrev y63:Ty:=.prod (.int .i64) y62
abbrev y64:Ty:=.prod .str y63
abbrev y65:Ty:=.prod .str y64
abbrev y66:Ty:=.prod (.int .i64) y10
abbrev oK:Ty:=.sl y66
abbrev y68:Ty:=.prod y12 y2
abbrev y69:Ty:=.prod jK y68
abbrev y70:Ty:=.prod (.int .i64) y69
abbrev y71:Ty:=.prod (.int .i64) y70
abbrev y72:Ty:=.prod oK y71
abbrev y73:Ty:=.prod (.int .i64) y37
abbrev y74:Ty:=.prod .bool y73
abbrev y75:Ty:=.prod y27 y74
abbrev y76:Ty:=.prod y27 y75
abbrev y77:Ty:=.prod (.any none) (.any none)
abbrev y78:Ty:=.prod y1 y77
abbrev y79:Ty:=.prod (.any none) y77
abbrev y80:Ty:=.prod (.any none) y79
abbrev y81:Ty:=.prod (.any none) y80
abbrev y82:Ty:=.prod y81 (.any none)
abbrev y83:Ty:=.prod (.any none) y82
abbrev y84:Ty:=.prod y78 y83
abbrev y85:Ty:=.prod (.any none) y25
abbrev y86:Ty:=.prod (.any none) y85
abbrev y87:Ty:=.prod y86 y83
abbrev y88:Ty:=.prod jK (.any none)
abbrev y89:Ty:=.prod (.any none) y88
abbrev y90:Ty:=.prod y79 y89
def tt:List (Nat×TI):=[(3,⟨1,8,(.int .i64),some (.int .i64),[.i .i64 0]⟩),(4,⟨1,1,.bool,some .bool,[.b false]⟩),(5,⟨1,1,(.int .u8),some (.int .u8),[.i .u8 0]⟩),(9,⟨1,16,.str,some .str,[.s []]⟩),(20,⟨1,16,.other,some .ifv,[.ifd none]⟩),(21,⟨1,4,(.int .i32),some (.int .i32),[.i .i32 0]⟩),(22,⟨1,24,(.sl 37),some y1,[.nl]⟩),(23,⟨1,24,(.sl 42),some y9,[.nl]⟩),(24,⟨1,24,(.sl 46),some y25,[.nl]⟩),(26,⟨3,72,(.struct [(22,0),(23,1),(24,2)]),some y27,[.nl,.nl,.nl]⟩),(29,⟨1,8,(.int .i64),some (.int .i64),[.i .i64 0]⟩),(31,⟨4,32,(.struct [(29,0),(3,1),(3,2),(3,3)]),some y28,[.i .i64 0,.i .i64 0,.i .i64 0,.i .i64 0]⟩),(35,⟨1,24,(.sl 9),some (.sl .str),[.nl]⟩),(37,⟨2,40,(.struct [(9,0),(35,1)]),some y0,[.s [],.nl]⟩),(39,⟨2,16,(.struct [(3,0),(3,1)]),some y2,[.i .i64 0,.i .i64 0]⟩),(40,⟨1,24,(.sl 62),some y5,[.nl]⟩),(42,⟨6,72,(.struct [(9,0),(39,1),(39,3),(40,5)]),some y8,[.s [],.i .i64 0,.i .i64 0,.i .i64 0,.i .i64 0,.nl]⟩),(43,⟨1,24,(.sl 65),some y11,[.nl]⟩),(44,⟨1,24,(.sl 71),some y20,[.nl]⟩),(46,⟨5,96,(.struct [(9,0),(3,1),(43,2),(43,3),(44,4)]),some y24,[.s [],.i .i64 0,.nl,.nl,.nl]⟩),(49,⟨1,8,(.ptr 52),none,[]⟩),(50,⟨1,24,(.sl 5),some y29,[.nl]⟩),(52,⟨2,32,(.struct [(49,0),(50,1)]),none,[.npt,.nl]⟩),(60,⟨2,16,(.struct [(3,0),(3,1)]),some y2,[.i .i64 0,.i .i64 0]⟩),(62,⟨5,40,(.struct [(60,0),(3,2),(3,3),(3,4)]),some y4,[.i .i64 0,.i .i64 0,.i .i64 0,.i .i64 0,.i .i64 0]⟩),(65,⟨3,32,(.struct [(9,0),(39,1)]),some y10,[.s [],.i .i64 0,.i .i64 0]⟩),(67,⟨5,120,(.struct [(22,0),(35,1),(35,2),(35,3),(35,4)]),some jK,[.nl,.nl,.nl,.nl,.nl]⟩),(69,⟨1,24,(.sl 124),some y12,[.nl]⟩),(71,⟨9,120,(.struct [(9,0),(3,1),(3,2),(3,3),(60,4),(69,6),(69,7),(9,8)]),some y19,[.s [],.i .i64 0,.i .i64 0,.i .i64 0,.i .i64 0,.i .i64 0,.nl,.nl,.s []]⟩),(76,⟨1,24,(.sl 113),some y34,[.nl]⟩),(77,⟨1,24,(.sl 76),some y35,[.nl]⟩),(79,⟨3,56,(.struct [(3,0),(76,1),(77,2)]),some y37,[.i .i64 0,.nl,.nl]⟩),(81,⟨13,248,(.struct [(26,0),(26,3),(4,6),(3,7),(79,8),(52,11)]),none,[.nl,.nl,.nl,.nl,.nl,.nl,.b false,.i .i64 0,.i .i64 0,.nl,.nl,.npt,.nl]⟩),(98,⟨1,24,(.sl 20),some (.sl .ifv),[.nl]⟩),(113,⟨3,24,(.struct [(3,0),(3,1),(3,2)]),some y3,[.i .i64 0,.i .i64 0,.i .i64 0]⟩),(119,⟨1,24,(.sl 3),some y38,[.nl]⟩),(122,⟨1,24,(.sl 127),some y41,[.nl]⟩),(124,⟨2,16,(.struct [(3,0),(3,1)]),some y2,[.i .i64 0,.i .i64 0]⟩),(127,⟨3,32,(.struct [(9,0),(3,1),(4,2)]),some y40,[.s [],.i .i64 0,.b false]⟩),(151,⟨1,24,(.sl 39),some y12,[.nl]⟩),(153,⟨6,128,(.struct [(22,0),(23,1),(151,2),(151,3),(151,4),(4,5)]),some y46,[.nl,.nl,.nl,.nl,.nl,.b false]⟩),(172,⟨1,24,(.sl 204),some y48,[.nl]⟩),(174,⟨3,72,(.struct [(76,0),(119,1),(172,2)]),some y50,[.nl,.nl,.nl]⟩),(176,⟨4,32,(.struct [(29,0),(3,1),(3,2),(3,3)]),some y28,[.i .i64 0,.i .i64 0,.i .i64 0,.i .i64 0]⟩),(184,⟨1,24,(.sl 4),some (.sl .bool),[.nl]⟩),(204,⟨2,48,(.struct [(76,0),(119,1)]),some y47,[.nl,.nl]⟩),(212,⟨1,24,(.sl 215),some y53,[.nl]⟩),(215,⟨3,40,(.struct [(9,0),(9,1),(3,2)]),some y52,[.s [],.s [],.i .i64 0]⟩),(259,⟨1,24,(.sl 119),some y54,[.nl]⟩),(261,⟨12,96,(.arr 12 3),none,[.i .i64 0,.i .i64 0,.i .i64 0,.i .i64 0,.i .i64 0,.i .i64 0,.i .i64 0,.i .i64 0,.i .i64 0,.i .i64 0,.i .i64 0,.i .i64 0]⟩),(268,⟨10,208,(.struct [(26,0),(3,3),(67,4),(4,9)]),some y57,[.nl,.nl,.nl,.i .i64 0,.nl,.nl,.nl,.nl,.nl,.b false]⟩),(285,⟨1,8,(.map 9 387),some y60,[.sl (.ent false true .str y59) []]⟩),(360,⟨2,24,(.struct [(9,0),(4,1)]),some y61,[.s [],.b false]⟩),(385,⟨1,8,(.map 9 3),some y58,[.sl (.ent false false .str (.int .i64)) []]⟩),(387,⟨6,104,(.struct [(46,0),(385,5)]),some y59,[.s [],.i .i64 0,.nl,.nl,.nl,.sl (.ent false false .str (.int .i64)) []]⟩),(390,⟨6,72,(.struct [(9,0),(9,1),(3,2),(60,3),(9,5)]),some y65,[.s [],.s [],.i .i64 0,.i .i64 0,.i .i64 0,.s []]⟩),(514,⟨1,24,(.sl 557),some oK,[.nl]⟩),(518,⟨11,200,(.struct [(514,0),(3,1),(3,2),(67,3),(69,8),(3,9),(29,10)]),some y72,[.nl,.i .i64 0,.i .i64 0,.nl,.nl,.nl,.nl,.nl,.nl,.i .i64 0,.i .i64 0]⟩),(557,⟨4,40,(.struct [(3,0),(9,1),(3,2),(3,3)]),some y66,[.i .i64 0,.s [],.i .i64 0,.i .i64 0]⟩)]
def eqs:List (Nat×List Ty):=[(39,[(.int .i64),(.int .i64)]),(124,[(.int .i64),(.int .i64)]),(390,[.str,.str,(.int .i64),(.int .i64),(.int .i64),.str])]
def gl:List (Nat×(t:Ty)×List t.den):=[(0,⟨.int .i64,[31,28,31,30,31,30,31,31,30,31,30,31]⟩),(1,⟨.int .u64,[1,10,100,1000,10000,100000,1000000,10000000,100000000,1000000000,10000000000,100000000000,1000000000000,10000000000000,100000000000000,1000000000000000,10000000000000000,100000000000000000,1000000000000000000,10000000000000000000]⟩),(2,⟨.any (some .i64),[()]⟩)]
abbrev mE(n:Nat)(fs:List (Nat×FSpec)):Env:=⟨n,eqs,tt,gl,fs,[],[],[],[],[],[]⟩
abbrev tR(n:Nat)(m:MG):Ret:=⟨[(.tmp n,m)],[]⟩
abbrev cR(n k:Nat)(m:MG):Ret:=⟨[(.cell n k,m)],[]⟩
abbrev L9:Type:=Ty.den y2
abbrev a0c:Type:=Ty.den y2
abbrev G5:Type:=Ty.den y61
abbrev U2:Type:=Ty.den y0
abbrev dO:Type:=Ty.den y10
abbrev GH:Type:=Ty.den y3
abbrev I4:Type:=Ty.den y40
abbrev xm:Type:=Ty.den y52
abbrev nZ:Type:=Ty.den y28
abbrev zq:Type:=Ty.den y4
abbrev bD:Type:=Ty.den y66
abbrev D9:Type:=Ty.den jK
abbrev oQ:Type:=Ty.den y65
abbrev xK:Type:=Ty.den y37
abbrev aP:Type:=Ty.den y8
abbrev U3:Type:=Ty.den y19
abbrev D6:Type:=Ty.den y72
abbrev O8:Type:=Ty.den y46
abbrev H6:Type:=Ty.den y24
abbrev iH:Type:=Ty.den y59
abbrev O6:Type:=Ty.den y27
abbrev I7:Type:=Ty.den y57
def lw(A:Int):c5z:=l7 (U7 97 A) (some (U7 A 122)) (some false)
def q77:FQ:=⟨[(false,(dT (.int .u8)))],tR 2 iQ,mE 9 [],O7⟩
def s77:FSpec:=dX q77 λx=>lw x
def iG(A:Int):c5z:=l7 (U7 48 A) (some (U7 A 57)) (some false)
def c0r:FQ:=⟨[(false,(dT (.int .u8)))],tR 2 iQ,mE 9 [],O7⟩
def b0C:FSpec:=dX c0r λx=>iG x
def ny(A:c5v):c5A:=o5 (fF (λ(x:Int)=>l7 (J4 x (x9 A)) (o5 (sat A x) λb=>o5 (lw b) λc=>l7 c (some (.inl (I8 .i64 x 1))) (o5 (sat A x) λd=>o5 (iG d) λf=>l7 f (some (.inl (I8 .i64 x 1))) (o5 (sat A x) λg=>l7 (D8 g 95) (some (.inl (I8 .i64 x 1))) (some (.inr x))))) (some (.inr x))) 0) λy=>some y
def q78:FQ:=⟨[uD .str],tR 2 Z4,mE 29 [(77,s77),(139,b0C)],sN 2 (iC (pq (.loop [(3,28)] ⟨[(3,Z4)],[]⟩ 0 ⟨[(3,Z4)],[]⟩ O7)) O7)⟩
def s78:FSpec:=dX q78 λx=>ny x
def DV(A:c5v):c5z:=o5 (l7 (seq A [105,102]) (some (seq A [105,102])) (l7 (seq A [116,104,101,110]) (some (seq A [116,104,101,110])) (l7 (seq A [101,108,115,101]) (some (seq A [101,108,115,101])) (l7 (seq A [111,114]) (some (seq A [111,114])) (l7 (seq A [97,110,100]) (some (seq A [97,110,100])) (l7 (seq A [110,111,116]) (some (seq A [110,111,116])) (l7 (seq A [116,114,117,101]) (some (seq A [116,114,117,101])) (l7 (seq A [102,97,108,115,101]) (some (seq A [102,97,108,115,101])) (l7 (seq A [116,111,100,97,121]) (some (seq A [116,111,100,97,121])) (l7 (seq A [115,104,97,114,101]) (some (seq A [115,104,97,114,101])) (l7 (seq A [100,105,118]) (some (seq A [100,105,118])) (l7 (seq A [114,111,117,110,100]) (some (seq A [114,111,117,110,100])) (l7 (seq A [109,105,110]) (some (seq A [109,105,110])) (l7 (seq A [109,97,120]) (some (seq A [109,97,120])) (l7 (seq A [112,108,117,115]) (some (seq A [112,108,117,115])) (l7 (seq A [109,111,110,116,104,115]) (some (seq A [109,111,110,116,104,115])) (l7 (seq A [100,97,121,115]) (some (seq A [100,97,121,115])) (l7 (seq A [121,101,97,114,115]) (some (seq A [121,101,97,114,115])) (l7 (seq A [121,101,97,114]) (some (seq A [121,101,97,114])) (l7 (seq A [109,111,110,116,104]) (some (seq A [109,111,110,116,104])) (l7 (seq A [116,97,98]) (some (seq A [116,97,98])) (l7 (seq A [98,97,110,100]) (some (seq A [98,97,110,100])) (l7 (seq A [99,111,117,110,116]) (some (seq A [99,111,117,110,116])) (l7 (seq A [115,117,109]) (some (seq A [115,117,109])) (l7 (seq A [97,108,108]) (some (seq A [97,108,108])) (l7 (seq A [97,110,121]) (some (seq A [97,110,121])) (l7 (seq A [109,111,115,116]) (some (seq A [109,111,115,116])) (l7 (seq A [101,110,117,109]) (some (seq A [101,110,117,109])) (l7 (seq A [116,97,98,108,101]) (some (seq A [116,97,98,108,101])) (l7 (seq A [114,111,119]) (some (seq A [114,111,119])) (l7 (seq A [115,99,111,112,101]) (some (seq A [115,99,111,112,101])) (l7 (seq A [109,101,109,98,101,114,115]) (some (seq A [109,101,109,98,101,114,115])) (l7 (seq A [105,110,112,117,116]) (some (seq A [105,110,112,117,116])) (l7 (seq A [100,101,102]) (some (seq A [100,101,102])) (l7 (seq A [114,117,108,101]) (some (seq A [114,117,108,101])) (l7 (seq A [111,102]) (some (seq A [111,102])) (l7 (seq A [111,118,101,114]) (some (seq A [111,118,101,114])) (l7 (seq A [112,114,105,111]) (some (seq A [112,114,105,111])) (l7 (seq A [102,114,111,109]) (some (seq A [102,114,111,109])) (l7 (seq A [116,111]) (some (seq A [116,111])) (l7 (seq A [101,110,100]) (some (seq A [101,110,100])) (l7 (seq A [119,104,101,110]) (some (seq A [119,104,101,110])) (l7 (seq A [105,115]) (some (seq A [105,115])) (l7 (seq A [115,114,99]) (some (seq A [115,114,99])) (l7 (seq A [98,111,111,108]) (some (seq A [98,111,111,108])) (l7 (seq A [105,110,116]) (some (seq A [105,110,116])) (l7 (seq A [109,111,110,101,121]) (some (seq A [109,111,110,101,121])) (l7 (seq A [114,97,116,101]) (some (seq A [114,97,116,101])) (l7 (seq A [100,97,116,101]) (some (seq A [100,97,116,101])) (l7 (seq A [100,111,119,110]) (some (seq A [100,111,119,110])) (l7 (seq A [117,112]) (some (seq A [117,112])) (l7 (seq A [122,101,114,111]) (some (seq A [122,101,114,111])) (l7 (seq A [97,119,97,121]) (some (seq A [97,119,97,121])) (l7 (seq A [104,97,108,102]) (some (seq A [104,97,108,102])) (some (seq A [101,118,101,110])))))))))))))))))))))))))))))))))))))))))))))))))))))))) λx=>l7 x (some true) (some false)
def q79:FQ:=⟨[uD .str],tR 2 iQ,mE 60 [],sN 1 (iC (sN 1 (pq (iC (.join [(4,60)] ⟨[(4,iQ)],[]⟩ O7) O7))) O7)⟩
def s79:FSpec:=dX q79 λx=>DV x
def bG(A:c5v):c5z:=l7 (I5 (seq A [])) (o5 (sat A 0) λx=>o5 (lw x) λx=>l7 x (o5 (ny A) λx=>l7 (D8 x (x9 A)) (l7 (U7 (x9 A) 16) (o5 (DV A) λx=>some (I5 x)) (some false)) (some false)) (some false)) (some false)
def q43:FQ:=⟨[uD .str],tR 2 iQ,mE 27 [(77,s77),(78,s78),(79,s79)],O7⟩
def s43:FSpec:=dX q43 λx=>bG x
def Fj(A:U2)(B:c5v):c5z:=some (seq A.1 B)
def b5j:FQ:=⟨[tD y0,(false,(.rp .str))],tR 3 iQ,mE 8 [],O7⟩
def b0O:FSpec:=dX b5j λx=>Fj x.1 x.2
def kN(A:List U2)(B:c5v):c5A:=o5 (X5 (λ(x:Int)=>l7 (J4 x (x9 A)) (o5 (P8 A x) λb=>o5 (Fj b B) λc=>l7 c (some (.rt x)) (some (.nx (I8 .i64 x 1)))) (some (.ex ()))) 0) λo=>dU o (λy=>some (-1)) λr=>some r
def a9T:FQ:=⟨[uD y1,(false,(.fn 81 [.str]))],tR 4 Z4,mE 19 [(81,b0O)],sN 1 (iC (sN 1 (pq (lpR [(4,6),(8,19)] ⟨[(8,Z4)],[]⟩ 0 sgN O7))) O7)⟩
def b0D:FSpec:=dX a9T λx=>kN x.1 x.2
def jy(A:List U2)(B:c5v):c5z:=o5 (kN A B) λx=>some (U7 0 x)
def b5i:FQ:=⟨[uD y1,(false,(.fn 81 [.str]))],tR 4 iQ,mE 9 [(140,b0D)],O7⟩
def b5w:FSpec:=dX b5i λx=>jy x.1 x.2
def yU(A:List U2)(B:c5v):c5z:=o5 (jy A B) λx=>some x
def q44:FQ:=⟨[uD y1,(uD .str)],tR 4 iQ,mE 8 [(81,b0O),(80,b5w)],O7⟩
def s44:FSpec:=dX q44 λx=>yU x.1 x.2
def dR(A:List c5v)(B:c5v):c5A:=o5 (X5 (λ(x:Int)=>l7 (J4 x (x9 A)) (o5 (P8 A x) λb=>l7 (seq B b) (some (.rt x)) (some (.nx (I8 .i64 x 1)))) (some (.ex ()))) 0) λo=>dU o (λy=>some (-1)) λr=>some r
def c0p:FQ:=⟨[uD (.sl .str),(uD .str)],tR 4 Z4,mE 19 [],sN 1 (iC (sN 1 (pq (lpR [(4,6),(8,19)] ⟨[(8,Z4)],[]⟩ 0 sgN O7))) O7)⟩
def b3M:FSpec:=dX c0p λx=>dR x.1 x.2
def nY(A:List c5v)(B:c5v):c5z:=o5 (dR A B) λx=>some (U7 0 x)
def q72:FQ:=⟨[uD (.sl .str),(uD .str)],tR 4 iQ,mE 9 [(137,b3M)],O7⟩
def s72:FSpec:=dX q72 λx=>nY x.1 x.2
def Bj(A:O6)(B:Int)(C:U2):Option L9:=o5 (bG C.1) λx=>l7 (I5 x) (some (2,0)) (o5 (dM A.1 0 B) λx=>o5 (yU x C.1) λx=>l7 x (some (7,0)) (l7 (D8 (x9 C.2) 0) (some (5,0)) (l7 (J4 16 (x9 C.2)) (some (4,116)) (o5 (X5 (λ(x:Int)=>l7 (J4 x (x9 C.2)) (o5 (P8 C.2 x) λb=>o5 (bG b) λc=>l7 (I5 c) (some (.rt (2,I8 .i64 100 x))) (o5 (dM C.2 0 x) λd=>o5 (nY d b) λf=>l7 f (some (.rt (7,I8 .i64 100 x))) (some (.nx (I8 .i64 x 1))))) (some (.ex ()))) 0) λo=>dU o (λy=>some (0,0)) λr=>some r))))
def q41:FQ:=⟨[tD y27,Z4,tD y0],⟨[(.tmp 6,Z4),(.tmp 7,Z4)],[]⟩,mE 55 [(43,s43),(44,s44),(72,s72)],sN 2 (iC (sN 1 (pq (lpR [(6,10),(36,55)] ⟨[(36,Z4)],[]⟩ 1 sgN O7))) O7)⟩
def s41:FSpec:=dX q41 λx=>Bj x.1 x.2.1 x.2.2
def zI(A:O6):Option nZ:=l7 (J4 8 (x9 A.1)) (some (4,1,8,0)) (o5 (X5 (λ(x:nZ×Int)=>l7 (J4 x.2 (x9 A.1)) (o5 (P8 A.1 x.2) λc=>o5 (Bj A x.2 c) λb=>l7 (I5 (D8 b.1 0)) (some (.rt (b.1,1,x.2,b.2))) (some (.nx (x.1,I8 .i64 x.2 1)))) (some (.ex x.1))) ((0,0,0,0),0)) λo=>dU o (λ(y:nZ)=>some (0,0,0,0)) λr=>some r)
def q25:FQ:=⟨[tD y27],cR 2 31 (tD y28),mE 35 [(41,s41)],sN 2 (iC (sN 1 (pq (lpR [(2,7),(15,34),(4000128,4000129)] ⟨[(2,(false,(.box (dT y28)))),(15,Z4)],[]⟩ 0 ⟨[(2,(false,(.box (dT y28))))],[]⟩ O7))) O7)⟩
def s25:FSpec:=dX q25 λx=>zI x
def bg(A:L9)(B:List U2):c5z:=o5 (l7 (D8 A.1 1) (some (D8 A.1 1)) (l7 (D8 A.1 2) (some (D8 A.1 2)) (l7 (D8 A.1 3) (some (D8 A.1 3)) (l7 (D8 A.1 4) (some (D8 A.1 4)) (some (D8 A.1 5)))))) λx=>l7 x (some (D8 A.2 0)) (l7 (D8 A.1 6) (l7 (U7 0 A.2) (some (J4 A.2 (x9 B))) (some false)) (some false))
def q48:FQ:=⟨[tD y2,uD y1],tR 4 iQ,mE 28 [],sN 1 (iC (sN 1 (pq (iC (.join [(7,13)] ⟨[(7,iQ)],[]⟩ O7) O7))) O7)⟩
def s48:FSpec:=dX q48 λx=>bg x.1 x.2
def jC(A:L9)(B:List U2):Option L9:=o5 (bg A B) λx=>l7 (I5 x) (some (0,-1)) (l7 (D8 A.1 1) (some (0,1)) (l7 (D8 A.1 2) (some (-1000000000000,1000000000000)) (l7 (D8 A.1 3) (some (-1000000000000000,1000000000000000)) (l7 (D8 A.1 4) (some (-1000000000,1000000000)) (l7 (D8 A.1 5) (some (0,109572)) (o5 (P8 B A.2) λx=>some (0,L6 .i64 (x9 x.2) 1)))))))
def q29:FQ:=⟨[tD y2,uD y1],⟨[(.tmp 4,Z4),(.tmp 5,Z4)],[]⟩,mE 30 [(48,s48)],O7⟩
def s29:FSpec:=dX q29 λx=>jC x.1 x.2
def uX(A:L9):c5z:=l7 (U7 0 A.1) (l7 (U7 A.1 A.2) (some (U7 A.2 109573)) (some false)) (some false)
def q73:FQ:=⟨[tD y2],tR 2 iQ,mE 18 [],O7⟩
def s73:FSpec:=dX q73 λx=>uX x
def wu(A:L9):c5z:=o5 (uX A) λx=>l7 x (some (J4 A.1 A.2)) (some false)
def c0K:FQ:=⟨[tD y2],tR 2 iQ,mE 12 [(73,s73)],O7⟩
def c2N:FSpec:=dX c0K λx=>wu x
def sO(A:L9)(B:L9):Option (L9×Bool):=o5 (wu A) λx=>l7 (I5 x) (some ((0,0),false)) (o5 (wu B) λx=>l7 (I5 x) (some ((0,0),false)) (l7 (U7 (IR A.2 B.2) (Fh A.1 B.1)) (some ((0,0),false)) (some ((Fh A.1 B.1,IR A.2 B.2),true))))
def c0q:FQ:=⟨[tD y2,tD y2],⟨[(.cell 4 60,tD y2),(.tmp 5,iQ)],[]⟩,mE 34 [(206,c2N)],O7⟩
def c2t:FSpec:=dX c0q λx=>sO x.1 x.2
def Af(A:zq)(B:zq):c5z:=o5 (sO A.1 B.1) λx=>l7 x.2 (some (J4 (Fh A.2.1 B.2.1) (IR A.2.2.1 B.2.2.1))) (some false)
def q76:FQ:=⟨[tD y4,tD y4],tR 4 iQ,mE 29 [(138,c2t)],O7⟩
def s76:FSpec:=dX q76 λx=>Af x.1 x.2
def uj(A:zq)(B:zq):c5z:=o5 (Af A B) λx=>some x
def b5h:FQ:=⟨[tD y4,(false,(.rp y4))],tR 3 iQ,mE 7 [(76,s76)],O7⟩
def b0N:FSpec:=dX b5h λx=>uj x.1 x.2
def sS(A:List zq)(B:zq):Option (Int×Bool):=o5 (X5 (λ(x:Int)=>l7 (J4 x (x9 A)) (o5 (P8 A x) λb=>o5 (uj b B) λc=>l7 c (some (.rt (x,true))) (some (.nx (I8 .i64 x 1)))) (some (.ex ()))) 0) λo=>dU o (λy=>some (0,false)) λr=>some r
def b5g:FQ:=⟨[uD y5,(false,(.fn 75 [y4]))],⟨[(.tmp 4,Z4),(.tmp 5,iQ)],[]⟩,mE 20 [(75,b0N)],sN 1 (iC (sN 1 (pq (lpR [(4,8),(10,20)] ⟨[(10,Z4)],[]⟩ 0 sgN O7))) O7)⟩
def b5v:FSpec:=dX b5g λx=>sS x.1 x.2
def Ae(A:aP)(B:List U2):Option L9:=l7 (J4 64 (x9 A.2.2.2)) (some (64,4)) (o5 (o5 (bg A.2.1 B) λx=>l7 (I5 x) (some (.inr (-1,8))) (o5 (bg A.2.2.1 B) λx=>l7 (I5 x) (some (.inr (-1,8))) (some (.inl ())))) λo=>dU o (λx=>o5 (jC A.2.1 B) λx=>o5 (jC A.2.2.1 B) λd=>o5 (X5 (λ(b:Int)=>l7 (J4 b (x9 A.2.2.2)) (o5 (P8 A.2.2.2 b) λc=>o5 (o5 (uX c.1) λx=>l7 (I5 x) (some (.inr (b,3))) (l7 (D8 c.1.1 c.1.2) (some (.inr (b,3))) (l7 (U7 c.2.2.1 c.2.1) (some (.inr (b,3))) (some (.inl ()))))) λo=>dU o (λf=>o5 (l7 (J4 c.2.1 x.1) (some (.inr (b,3))) (l7 (J4 x.2 c.2.1) (some (.inr (b,3))) (l7 (J4 (L6 .i64 c.2.2.1 1) x.1) (some (.inr (b,3))) (l7 (J4 x.2 (L6 .i64 c.2.2.1 1)) (some (.inr (b,3))) (some (.inl ())))))) λo=>dU o (λx=>l7 (J4 c.2.2.2 d.1) (some (.rt (b,3))) (l7 (J4 d.2 c.2.2.2) (some (.rt (b,3))) (o5 (dM A.2.2.2 0 b) λx=>o5 (sS x c) λx=>l7 x.2 (some (.rt (b,11))) (some (.nx (I8 .i64 b 1)))))) λr=>some (.rt r)) λr=>some (.rt r)) (some (.ex ()))) 0) λo=>dU o (λy=>some (0,0)) λr=>some r) λr=>some r)
def q42:FQ:=⟨[tD y8,uD y1],⟨[(.tmp 4,Z4),(.tmp 5,Z4)],[]⟩,mE 121 [(48,s48),(29,s29),(73,s73),(75,b0N),(74,b5v)],sN 2 (iC (jnR [(4,6),(18,30)] sgN O7) (sN 2 (iC (sN 1 (pq (lpR [(4,6),(10,14),(47,121)] ⟨[(47,Z4)],[]⟩ 0 sgN (sN 2 (iC (pq (sN 1 (iC (jnR [(4,6),(52,73)] sgN O7) (iC (jnR [(4,6),(73,98)] sgN O7) O7)))) O7))))) O7)))⟩
def s42:FSpec:=dX q42 λx=>Ae x.1 x.2
def DU(A:aP)(B:c5v):c5z:=some (seq A.1 B)
def b5l:FQ:=⟨[tD y8,(false,(.rp .str))],tR 3 iQ,mE 8 [],O7⟩
def b0P:FSpec:=dX b5l λx=>DU x.1 x.2
def jJ(A:List aP)(B:c5v):c5A:=o5 (X5 (λ(x:Int)=>l7 (J4 x (x9 A)) (o5 (P8 A x) λb=>o5 (DU b B) λc=>l7 c (some (.rt x)) (some (.nx (I8 .i64 x 1)))) (some (.ex ()))) 0) λo=>dU o (λy=>some (-1)) λr=>some r
def a9V:FQ:=⟨[uD y9,(false,(.fn 83 [.str]))],tR 4 Z4,mE 19 [(83,b0P)],sN 1 (iC (sN 1 (pq (lpR [(4,6),(8,19)] ⟨[(8,Z4)],[]⟩ 0 sgN O7))) O7)⟩
def b0F:FSpec:=dX a9V λx=>jJ x.1 x.2
def iU(A:List aP)(B:c5v):c5z:=o5 (jJ A B) λx=>some (U7 0 x)
def b5k:FQ:=⟨[uD y9,(false,(.fn 83 [.str]))],tR 4 iQ,mE 9 [(141,b0F)],O7⟩
def b5x:FSpec:=dX b5k λx=>iU x.1 x.2
def zK(A:List aP)(B:c5v):c5z:=o5 (iU A B) λx=>some x
def q45:FQ:=⟨[uD y9,(uD .str)],tR 4 iQ,mE 8 [(83,b0P),(82,b5x)],O7⟩
def s45:FSpec:=dX q45 λx=>zK x.1 x.2
def yl(A:O6):Option nZ:=l7 (J4 8 (x9 A.2.1)) (some (4,2,8,0)) (o5 (X5 (λ(x:nZ×Int)=>l7 (J4 x.2 (x9 A.2.1)) (o5 (P8 A.2.1 x.2) λc=>o5 (Ae c A.1) λb=>o5 (o5 (bG c.1) λd=>l7 (I5 d) (some (2,2,x.2,0)) (o5 (yU A.1 c.1) λf=>l7 f (some (7,2,x.2,0)) (o5 (dM A.2.1 0 x.2) λg=>o5 (zK g c.1) λi=>l7 i (some (7,2,x.2,0)) (l7 (I5 (D8 b.2 0)) (l7 (I5 (D8 b.1 (-1))) (some (b.2,2,x.2,I8 .i64 100 b.1)) (some (b.2,2,x.2,0))) (some (0,2,x.2,0)))))) λd=>l7 (I5 (D8 d.1 0)) (some (.rt d)) (some (.nx (x.1,I8 .i64 x.2 1)))) (some (.ex x.1))) ((0,0,0,0),0)) λo=>dU o (λ(y:nZ)=>some (0,0,0,0)) λr=>some r)
def q26:FQ:=⟨[tD y27],cR 2 31 (tD y28),mE 68 [(42,s42),(43,s43),(44,s44),(45,s45)],sN 2 (iC (sN 1 (pq (lpR [(2,8),(16,67),(4000128,4000129)] ⟨[(2,(false,(.box (dT y28)))),(16,Z4)],[]⟩ 0 ⟨[(2,(false,(.box (dT y28))))],[]⟩ (sN 2 (iC (pq (sN 3 (iC (.join [(5,6),(30,62),(37000320,37000321)] ⟨[(5,(false,(.box (dT y28))))],[]⟩ O7) O7))) O7))))) O7)⟩
def s26:FSpec:=dX q26 λx=>yl x
def AP(A:H6)(B:H6):c5z:=some (seq A.1 B.1)
def b5n:FQ:=⟨[tD y24,(false,(.rp y24))],tR 3 iQ,mE 9 [],O7⟩
def b0Q:FSpec:=dX b5n λx=>AP x.1 x.2
def pg(A:List H6)(B:H6):c5A:=o5 (X5 (λ(x:Int)=>l7 (J4 x (x9 A)) (o5 (P8 A x) λb=>o5 (AP b B) λc=>l7 c (some (.rt x)) (some (.nx (I8 .i64 x 1)))) (some (.ex ()))) 0) λo=>dU o (λy=>some (-1)) λr=>some r
def a9R:FQ:=⟨[uD y25,(false,(.fn 85 [y24]))],tR 4 Z4,mE 19 [(85,b0Q)],sN 1 (iC (sN 1 (pq (lpR [(4,6),(8,19)] ⟨[(8,Z4)],[]⟩ 0 sgN O7))) O7)⟩
def b0A:FSpec:=dX a9R λx=>pg x.1 x.2
def iT(A:List H6)(B:H6):c5z:=o5 (pg A B) λx=>some (U7 0 x)
def b5m:FQ:=⟨[uD y25,(false,(.fn 85 [y24]))],tR 4 iQ,mE 9 [(120,b0A)],O7⟩
def b5y:FSpec:=dX b5m λx=>iT x.1 x.2
def AO(A:dO)(B:dO):c5z:=some (seq A.1 B.1)
def a9W:FQ:=⟨[tD y10,(false,(.rp y10))],tR 3 iQ,mE 9 [],O7⟩
def a3Q:FSpec:=dX a9W λx=>AO x.1 x.2
def oZ(A:List dO)(B:dO):c5A:=o5 (X5 (λ(x:Int)=>l7 (J4 x (x9 A)) (o5 (P8 A x) λb=>o5 (AO b B) λc=>l7 c (some (.rt x)) (some (.nx (I8 .i64 x 1)))) (some (.ex ()))) 0) λo=>dU o (λy=>some (-1)) λr=>some r
def a9S:FQ:=⟨[uD y11,(false,(.fn 142 [y10]))],tR 4 Z4,mE 19 [(142,a3Q)],sN 1 (iC (sN 1 (pq (lpR [(4,6),(8,19)] ⟨[(8,Z4)],[]⟩ 0 sgN O7))) O7)⟩
def b0B:FSpec:=dX a9S λx=>oZ x.1 x.2
def eG(A:List dO)(B:dO):c5z:=o5 (oZ A B) λx=>some (U7 0 x)
def a9X:FQ:=⟨[uD y11,(false,(.fn 142 [y10]))],tR 4 iQ,mE 9 [(123,b0B)],O7⟩
def b0G:FSpec:=dX a9X λx=>eG x.1 x.2
def wU(A:O6)(B:dO)(C:List dO)(D:List dO):c5A:=o5 (bG B.1) λx=>l7 (I5 x) (some 2) (o5 (eG C B) λx=>l7 x (some 7) (o5 (eG D B) λx=>l7 x (some 7) (o5 (bg B.2 A.1) λx=>l7 (I5 x) (some 8) (some 0))))
def q86:FQ:=⟨[tD y27,tD y10,uD y11,uD y11],tR 8 Z4,mE 32 [(142,a3Q),(43,s43),(143,b0G),(48,s48)],O7⟩
def s86:FSpec:=dX q86 λx=>wU x.1 x.2.1 x.2.2.1 x.2.2.2
def tK(A:List dO):Option (List L9):=o5 (fF (λ(x:List L9×Int)=>l7 (J4 x.2 (x9 A)) (o5 (P8 A x.2) λb=>o5 (iy x.1 [b.2]) λc=>some (.inl (c,I8 .i64 x.2 1))) (some (.inr x.1))) ([],0)) λy=>some y
def c0s:FQ:=⟨[uD y11],tR 2 (uO y2),mE 19 [],sN 2 (iC (sN 1 (pq (.loop [(3,4),(5,6),(8,18)] ⟨[(3,(uO y2)),(8,Z4)],[]⟩ 0 ⟨[(3,(uO y2))],[]⟩ O7))) O7)⟩
def c2u:FSpec:=dX c0s λx=>tK x
def sQ(A:O6)(B:Int):Option O8:=o5 (P8 A.2.2 B) λx=>o5 (tK x.2.2.1) λb=>o5 (tK x.2.2.2.1) λc=>l7 (U7 0 x.2.1) (l7 (J4 x.2.1 (x9 A.2.2)) (o5 (P8 A.2.2 x.2.1) λx=>o5 (tK x.2.2.2.1) λx=>some (A.1,A.2.1,b,c,x,true)) (some (A.1,A.2.1,b,c,[],false))) (some (A.1,A.2.1,b,c,[],false))
def q87:FQ:=⟨[tD y27,Z4],cR 4 153 (tD y46),mE 45 [(144,c2u)],O7⟩
def s87:FSpec:=dX q87 λx=>sQ x.1 x.2
def Cb(A:U3)(B:U3):c5z:=some (seq A.1 B.1)
def a9Z:FQ:=⟨[tD y19,(false,(.rp y19))],tR 3 iQ,mE 9 [],O7⟩
def a3R:FSpec:=dX a9Z λx=>Cb x.1 x.2
def qK(A:List U3)(B:U3):c5A:=o5 (X5 (λ(x:Int)=>l7 (J4 x (x9 A)) (o5 (P8 A x) λb=>o5 (Cb b B) λc=>l7 c (some (.rt x)) (some (.nx (I8 .i64 x 1)))) (some (.ex ()))) 0) λo=>dU o (λy=>some (-1)) λr=>some r
def b0a:FQ:=⟨[uD y20,(false,(.fn 146 [y19]))],tR 4 Z4,mE 19 [(146,a3R)],sN 1 (iC (sN 1 (pq (lpR [(4,6),(8,19)] ⟨[(8,Z4)],[]⟩ 0 sgN O7))) O7)⟩
def b0J:FSpec:=dX b0a λx=>qK x.1 x.2
def jA(A:List U3)(B:U3):c5z:=o5 (qK A B) λx=>some (U7 0 x)
def a9Y:FQ:=⟨[uD y20,(false,(.fn 146 [y19]))],tR 4 iQ,mE 9 [(207,b0J)],O7⟩
def b0H:FSpec:=dX a9Y λx=>jA x.1 x.2
def b9V:List MG:=[(false,(.dat .str)),(false,(.dat .str))]
def c2O:FSpec:=⟨b9V,[iQ],[],λx=>xQ x.1 x.2⟩
def yu(A:c5v):c5z:=l7 (J4 64 (x9 A)) (some false) (o5 (xQ A [34]) λx=>l7 x (some false) (o5 (X5 (λ(x:Int)=>l7 (J4 x (x9 A)) (o5 (sat A x) λb=>l7 (J4 b 32) (some (.rt false)) (o5 (sat A x) λc=>l7 (J4 126 c) (some (.rt false)) (some (.nx (I8 .i64 x 1))))) (some (.ex ()))) 0) λo=>dU o (λy=>some true) λr=>some r))
def c0t:FQ:=⟨[uD .str],tR 2 iQ,mE 27 [(208,c2O)],sN 2 (iC (sN 1 (pq (lpR [(2,4),(13,27)] ⟨[(13,Z4)],[]⟩ 0 sgN O7))) O7)⟩
def c2w:FSpec:=dX c0t λx=>yu x
def lD(A:Int):c5A:=o5 (l7 (D8 A 1) (some (D8 A 1)) (l7 (D8 A 2) (some (D8 A 2)) (l7 (D8 A 3) (some (D8 A 3)) (l7 (D8 A 4) (some (D8 A 4)) (l7 (D8 A 5) (some (D8 A 5)) (l7 (D8 A 6) (some (D8 A 6)) (l7 (D8 A 7) (some (D8 A 7)) (l7 (D8 A 8) (some (D8 A 8)) (l7 (D8 A 9) (some (D8 A 9)) (l7 (D8 A 35) (some (D8 A 35)) (l7 (D8 A 36) (some (D8 A 36)) (l7 (D8 A 37) (some (D8 A 37)) (l7 (D8 A 38) (some (D8 A 38)) (some (D8 A 39))))))))))))))) λx=>l7 x (some 0) (o5 (l7 (D8 A 10) (some (D8 A 10)) (l7 (D8 A 25) (some (D8 A 25)) (l7 (D8 A 31) (some (D8 A 31)) (l7 (D8 A 32) (some (D8 A 32)) (l7 (D8 A 33) (some (D8 A 33)) (some (D8 A 34))))))) λx=>l7 x (some 1) (o5 (l7 (D8 A 11) (some (D8 A 11)) (l7 (D8 A 12) (some (D8 A 12)) (l7 (D8 A 13) (some (D8 A 13)) (l7 (D8 A 14) (some (D8 A 14)) (l7 (D8 A 15) (some (D8 A 15)) (l7 (D8 A 16) (some (D8 A 16)) (l7 (D8 A 17) (some (D8 A 17)) (l7 (D8 A 18) (some (D8 A 18)) (l7 (D8 A 19) (some (D8 A 19)) (l7 (D8 A 20) (some (D8 A 20)) (l7 (D8 A 21) (some (D8 A 21)) (l7 (D8 A 22) (some (D8 A 22)) (l7 (D8 A 23) (some (D8 A 23)) (l7 (D8 A 24) (some (D8 A 24)) (l7 (D8 A 27) (some (D8 A 27)) (l7 (D8 A 28) (some (D8 A 28)) (l7 (D8 A 29) (some (D8 A 29)) (some (D8 A 30))))))))))))))))))) λx=>l7 x (some 2) (l7 (D8 A 26) (some 3) (some (-1)))))
def q57:FQ:=⟨[Z4],tR 2 Z4,mE 47 [],sN 1 (iC (sN 1 (pq (iC (.join [(4,19)] ⟨[(4,iQ)],[]⟩ O7) (.cond O7 (iC (.join [(19,26)] ⟨[(19,iQ)],[]⟩ O7) (.cond O7 (iC (.join [(26,45)] ⟨[(26,iQ)],[]⟩ O7) O7))))))) O7)⟩
def s57:FSpec:=dX q57 λx=>lD x
def wP(A:List L9):Option (c5w×L9):=l7 (J4 48 (x9 A)) (some ([],0,4)) (l7 (D8 (x9 A) 0) (some ([],0,5)) (o5 (Ny (x9 A) 0) λx=>o5 (X5 (λ(x:c5w×c5w×Int)=>l7 (J4 x.2.2 (x9 A)) (o5 (P8 A x.2.2) λg=>o5 (lD g.1) λb=>l7 (J4 b 0) (some (.rt ([],x.2.2,2))) (l7 (J4 (x9 x.2.1) b) (some (.rt ([],x.2.2,5))) (o5 (P8 x.1 x.2.2) λk=>o5 (jg x.1 (dV x.2.2)) λn=>l7 (J4 0 b) (o5 (P8 x.2.1 (L6 .i64 (x9 x.2.1) b)) λj=>o5 (jg x.2.1 (dV (L6 .i64 (x9 x.2.1) b))) λc=>o5 (P8 (mQ x.1 (dV x.2.2) x.2.2) x.2.2) λd=>o5 (jg (mQ x.1 (dV x.2.2) x.2.2) (dV x.2.2)) λp=>l7 (nK 0 (L6 .i64 (x9 x.2.1) b) (x9 x.2.1)) (o5 (P8 (mQ (mQ x.1 (dV x.2.2) x.2.2) (dV x.2.2) c) x.2.2) λq=>o5 (jg (mQ (mQ x.1 (dV x.2.2) x.2.2) (dV x.2.2) c) (dV x.2.2)) λi=>o5 (iy (lq x.2.1 (dV 0) (dV (L6 .i64 (x9 x.2.1) b))) [i]) λf=>l7 (J4 12 (x9 f)) (some (.rt ([],x.2.2,16))) (some (.nx (mQ (mQ x.1 (dV x.2.2) x.2.2) (dV x.2.2) c,f,I8 .i64 x.2.2 1)))) none) (l7 (nK 0 (L6 .i64 (x9 x.2.1) b) (x9 x.2.1)) (o5 (P8 (mQ x.1 (dV x.2.2) x.2.2) x.2.2) λj=>o5 (jg (mQ x.1 (dV x.2.2) x.2.2) (dV x.2.2)) λc=>o5 (iy (lq x.2.1 (dV 0) (dV (L6 .i64 (x9 x.2.1) b))) [c]) λd=>l7 (J4 12 (x9 d)) (some (.rt ([],x.2.2,16))) (some (.nx (mQ x.1 (dV x.2.2) x.2.2,d,I8 .i64 x.2.2 1)))) none)))) (some (.ex (x.1,x.2.1)))) (x,[],0)) λo=>dU o (λ(y:c5w×c5w)=>l7 (J4 1 (x9 y.2)) (some ([],x9 A,4)) (some (y.1,0,0))) λr=>some r))
def q97:FQ:=⟨[uD y12],⟨[(.tmp 2,uoM),(.tmp 3,Z4),(.tmp 4,Z4)],[]⟩,mE 76 [(57,s57)],sN 5 (iC (sN 1 (pq (lpR [(2,10),(21,70),(27001152,27001153)] ⟨[(5,uoM),(6,uoM),(21,Z4)],[]⟩ 0 ⟨[(5,uoM),(6,uoM)],[]⟩ O7))) O7)⟩
def s97:FSpec:=dX q97 λx=>wP x
def dw(A:Int):c5z:=l7 (D8 A 1) (l7 (D8 A 1) (some true) (some false)) (l7 (D8 A 2) (l7 (D8 A 2) (some true) (some false)) (l7 (D8 A 3) (l7 (D8 A 3) (some true) (some false)) (l7 (D8 A 4) (l7 (D8 A 4) (some true) (some false)) (l7 (D8 A 5) (l7 (D8 A 5) (some true) (some false)) (l7 (D8 A 6) (l7 (D8 A 6) (some true) (some false)) (l7 (D8 A 7) (l7 (D8 A 7) (some true) (some false)) (l7 (D8 A 8) (l7 (D8 A 8) (some true) (some false)) (l7 (D8 A 14) (l7 (D8 A 14) (some true) (some false)) (l7 (D8 A 15) (l7 (D8 A 15) (some true) (some false)) (l7 (D8 A 16) (l7 (D8 A 16) (some true) (some false)) (l7 (D8 A 33) (l7 (D8 A 33) (some true) (some false)) (l7 (D8 A 34) (l7 (D8 A 34) (some true) (some false)) (l7 (D8 A 36) (l7 (D8 A 36) (some true) (some false)) (l7 (D8 A 37) (l7 (D8 A 37) (some true) (some false)) (l7 (D8 A 38) (l7 (D8 A 38) (some true) (some false)) (l7 (D8 A 39) (some true) (some false)))))))))))))))))
def q56:FQ:=⟨[Z4],tR 2 iQ,mE 22 [],O7⟩
def s56:FSpec:=dX q56 λx=>dw x
def kQ(A:Int)(B:Int)(C:O8):Option (L9×Int):=o5 (jC (B,0) C.1) λx=>l7 (J4 A x.1) (some ((0,0),3)) (l7 (J4 x.2 A) (some ((0,0),3)) (some ((B,0),0)))
def c1m:FQ:=⟨[Z4,Z4,tD y46],⟨[(.cell 6 39,tD y2),(.tmp 7,Z4)],[]⟩,mE 30 [(29,s29)],O7⟩
def c3i:FSpec:=dX c1m λx=>kQ x.1 x.2.1 x.2.2
def Bi(A:Int)(B:O8):Option (L9×Int):=l7 (J4 A 0) (some ((0,0),3)) (l7 (U7 (x9 B.1) (dh .i64 A 16)) (some ((0,0),6)) (o5 (P8 B.1 (dh .i64 A 16)) λx=>l7 (U7 (x9 x.2) (iE A 16)) (some ((0,0),6)) (some ((6,dh .i64 A 16),0))))
def c1n:FQ:=⟨[Z4,tD y46],⟨[(.cell 4 39,tD y2),(.tmp 5,Z4)],[]⟩,mE 34 [],O7⟩
def c3j:FSpec:=dX c1n λx=>Bi x.1 x.2
def kG(A:Int)(B:List L9)(C:O8):Option (L9×Int):=l7 (J4 A 0) (some ((0,0),6)) (l7 (U7 (x9 B) A) (some ((0,0),6)) (o5 (P8 B A) λx=>o5 (bg x C.1) λx=>l7 (I5 x) (some ((0,0),8)) (o5 (P8 B A) λx=>some (x,0))))
def c1o:FQ:=⟨[Z4,uD y12,tD y46],⟨[(.cell 6 39,tD y2),(.tmp 7,Z4)],[]⟩,mE 30 [(48,s48)],O7⟩
def b7m:FSpec:=dX c1o λx=>kG x.1 x.2.1 x.2.2
def nT(A:Int):c5z:=l7 (U7 0 A) (some (U7 A 5)) (some false)
def c1r:FQ:=⟨[Z4],tR 2 iQ,mE 9 [],O7⟩
def b7n:FSpec:=dX c1r λx=>nT x
def sW(A:L9)(B:L9)(C:O8):Option (L9×Int):=o5 (l7 (D8 A.1 34) (l7 (J4 A.2 0) (some (.inr ((0,0),3))) (o5 (nT (iE A.2 8)) λx=>l7 (I5 x) (some (.inr ((0,0),3))) (some (.inl ((0,0),dh .i64 A.2 8))))) (some (.inl ((0,0),A.2)))) λo=>dU o (λ(x:L9×Int)=>o5 (l7 (J4 x.2 0) (some (.inr ((0,0),6))) (l7 (U7 (x9 C.2.1) x.2) (some (.inr ((0,0),6))) (some (.inl x.1)))) λo=>dU o (λ(d:L9)=>o5 (P8 C.2.1 x.2) λb=>o5 (P8 C.2.1 x.2) λx=>o5 (o5 (bg b.2.1 C.1) λc=>l7 (I5 c) (some (.inr ((0,0),8))) (o5 (bg x.2.2.1 C.1) λx=>l7 (I5 x) (some (.inr ((0,0),8))) (l7 (I5 (qM (D8 B.1 b.2.1.1) (D8 B.2 b.2.1.2))) (some (.inr ((0,0),8))) (some (.inl d))))) λo=>dU o (λ(c:L9)=>l7 (D8 A.1 34) (l7 (I5 (D8 b.2.1.1 3)) (some ((0,0),8)) (l7 (I5 (D8 x.2.2.1.1 4)) (some ((0,0),8)) (some (b.2.1,0)))) (some (x.2.2.1,0))) λr=>some r) λr=>some r) λr=>some r
def c1p:FQ:=⟨[tD y2,tD y2,tD y46],⟨[(.cell 6 39,tD y2),(.tmp 7,Z4)],[]⟩,mE 84 [(360,b7n),(48,s48)],sN 2 (iC (jnR [(6,9),(13,30),(4000384,4000385)] ⟨[(6,(false,(.box (dT y2)))),(8,Z4)],[]⟩ O7) (iC (jnR [(6,8),(30,40),(9000000,9000001)] ⟨[(6,(false,(.box (dT y2))))],[]⟩ O7) (sN 1 (iC (jnR [(6,8),(52,70),(27000000,27000001)] ⟨[(6,(false,(.box (dT y2))))],[]⟩ O7) O7))))⟩
def c3k:FSpec:=dX c1p λx=>sW x.1 x.2.1 x.2.2
def pX(A:Int):c5z:=l7 (D8 A 2) (some true) (l7 (D8 A 3) (some true) (some (D8 A 4)))
def c1E:FQ:=⟨[Z4],tR 2 iQ,mE 13 [],O7⟩
def b7p:FSpec:=dX c1E λx=>pX x
def qW(A:L9)(B:O8):Option (L9×Int):=l7 (I5 B.2.2.2.2.2) (some ((0,0),6)) (l7 (D8 A.1 35) (some ((2,0),0)) (o5 (kG A.2 B.2.2.2.2.1 B) λx=>l7 (I5 (D8 x.2 0)) (some ((0,0),x.2)) (o5 (l7 (D8 A.1 36) (l7 (D8 x.1.1 2) (some true) (some (D8 x.1.1 3))) (l7 (D8 A.1 37) (l7 (D8 A.1 37) (some (D8 x.1.1 1)) (l7 (D8 A.1 39) (o5 (pX x.1.1) λb=>l7 b (some true) (some (D8 x.1.1 5))) (some false))) (l7 (D8 A.1 38) (some (D8 x.1.1 1)) (l7 (D8 A.1 39) (o5 (pX x.1.1) λb=>l7 b (some true) (some (D8 x.1.1 5))) (some false))))) λb=>l7 (I5 b) (some ((0,0),8)) (some (x.1,0)))))
def c1q:FQ:=⟨[tD y2,tD y46],⟨[(.cell 4 39,tD y2),(.tmp 5,Z4)],[]⟩,mE 62 [(357,b7m),(422,b7p)],sN 6 (iC (.join [(8,9),(30,58)] ⟨[(8,iQ)],[]⟩ O7) O7)⟩
def c3l:FSpec:=dX c1q λx=>qW x.1 x.2
def FV(A:Int)(B:Int)(C:Int):Option (L9×Bool):=l7 (D8 A 14) (l7 (D8 C 4) (l7 (D8 B 3) (some ((B,0),true)) (some ((B,0),D8 B 4))) (some ((B,0),false))) (l7 (D8 C 2) (l7 (D8 B 2) (some ((B,0),true)) (some ((B,0),D8 B 3))) (l7 (D8 A 15) (l7 (D8 B 3) (l7 (D8 C 3) (some ((4,0),true)) (some ((0,0),false))) (some ((0,0),false))) (some ((0,0),false))))
def c1F:FQ:=⟨[Z4,Z4,Z4],⟨[(.cell 6 39,tD y2),(.tmp 7,iQ)],[]⟩,mE 47 [],O7⟩
def c3x:FSpec:=dX c1F λx=>FV x.1 x.2.1 x.2.2
def oM(A:Int)(B:List L9):Option (L9×Bool):=o5 (l7 (D8 A 10) (o5 (P8 B 0) λx=>o5 (P8 B 0) λb=>o5 (pX b.1) λc=>some (.inr (x,c))) (l7 (D8 A 25) (o5 (P8 B 0) λx=>some (.inr ((1,0),D8 x.1 1))) (o5 (l7 (D8 A 11) (some (D8 A 11)) (some (D8 A 12))) λx=>l7 x (o5 (P8 B 0) λx=>o5 (P8 B 0) λb=>o5 (P8 B 1) λc=>l7 (qM (D8 b.1 c.1) (D8 b.2 c.2)) (o5 (P8 B 0) λd=>o5 (pX d.1) λf=>some (.inr (x,f))) (some (.inr (x,false)))) (o5 (l7 (D8 A 13) (some (D8 A 13)) (l7 (D8 A 14) (some (D8 A 14)) (some (D8 A 15)))) λx=>l7 x (o5 (P8 B 0) λx=>o5 (P8 B 1) λb=>o5 (FV A x.1 b.1) λx=>some (.inr x)) (l7 (D8 A 16) (o5 (P8 B 0) λx=>o5 (P8 B 0) λb=>l7 (D8 b.1 3) (o5 (P8 B 1) λc=>some (.inr (x,D8 c.1 3))) (some (.inr (x,false)))) (o5 (l7 (D8 A 17) (some (D8 A 17)) (some (D8 A 18))) λx=>l7 x (o5 (P8 B 0) λx=>o5 (P8 B 0) λb=>o5 (P8 B 1) λc=>l7 (qM (D8 b.1 c.1) (D8 b.2 c.2)) (o5 (P8 B 0) λd=>o5 (pX d.1) λf=>l7 f (some (.inr (x,true))) (o5 (P8 B 0) λg=>some (.inr (x,D8 g.1 5)))) (some (.inr (x,false)))) (o5 (l7 (D8 A 19) (some (D8 A 19)) (some (D8 A 20))) λx=>l7 x (o5 (P8 B 0) λx=>o5 (P8 B 1) λb=>some (.inr ((1,0),qM (D8 x.1 b.1) (D8 x.2 b.2)))) (o5 (l7 (D8 A 21) (some (D8 A 21)) (some (D8 A 22))) λx=>l7 x (o5 (P8 B 0) λx=>o5 (P8 B 1) λb=>l7 (qM (D8 x.1 b.1) (D8 x.2 b.2)) (o5 (P8 B 0) λx=>o5 (pX x.1) λx=>l7 x (some (.inr ((1,0),true))) (o5 (P8 B 0) λx=>some (.inr ((1,0),D8 x.1 5)))) (some (.inr ((1,0),false)))) (o5 (l7 (D8 A 23) (some (D8 A 23)) (some (D8 A 24))) λx=>l7 x (o5 (P8 B 0) λx=>l7 (D8 x.1 1) (o5 (P8 B 1) λx=>some (.inr ((1,0),D8 x.1 1))) (some (.inr ((1,0),false)))) (l7 (D8 A 26) (o5 (P8 B 1) λx=>o5 (P8 B 0) λb=>l7 (D8 b.1 1) (o5 (P8 B 1) λc=>o5 (P8 B 2) λd=>some (.inr (x,qM (D8 c.1 d.1) (D8 c.2 d.2)))) (some (.inr (x,false)))) (o5 (l7 (D8 A 27) (some (D8 A 27)) (some (D8 A 28))) λx=>l7 x (o5 (P8 B 0) λx=>o5 (P8 B 0) λb=>l7 (D8 b.1 5) (o5 (P8 B 1) λc=>some (.inr (x,D8 c.1 2))) (some (.inr (x,false)))) (l7 (D8 A 29) (l7 (D8 A 29) (o5 (P8 B 0) λx=>l7 (D8 x.1 5) (o5 (P8 B 1) λx=>some (.inr ((2,0),D8 x.1 5))) (some (.inr ((2,0),false)))) (l7 (D8 A 31) (l7 (D8 A 31) (o5 (P8 B 0) λx=>some (.inr ((2,0),D8 x.1 5))) (some (.inl (0,0)))) (l7 (D8 A 32) (o5 (P8 B 0) λx=>some (.inr ((2,0),D8 x.1 5))) (some (.inl (0,0)))))) (l7 (D8 A 30) (o5 (P8 B 0) λx=>l7 (D8 x.1 5) (o5 (P8 B 1) λx=>some (.inr ((2,0),D8 x.1 5))) (some (.inr ((2,0),false)))) (l7 (D8 A 31) (l7 (D8 A 31) (o5 (P8 B 0) λx=>some (.inr ((2,0),D8 x.1 5))) (some (.inl (0,0)))) (l7 (D8 A 32) (o5 (P8 B 0) λx=>some (.inr ((2,0),D8 x.1 5))) (some (.inl (0,0)))))))))))))))))) λo=>dU o (λ(x:L9)=>some ((0,0),false)) λr=>some r
def c1s:FQ:=⟨[Z4,uD y12],⟨[(.cell 4 39,tD y2),(.tmp 5,iQ)],[]⟩,mE 222 [(422,b7p),(423,c3x)],sN 2 (iC (jnR [(4,6),(8,221),(4000256,4000257)] ⟨[(4,(false,(.box (dT y2))))],[]⟩ (sN 1 (pq (sN 1 (.cond O7 (sN 1 (.cond O7 (iC (.join [(27,30)] ⟨[(27,iQ)],[]⟩ O7) (.cond O7 (iC (.join [(47,51)] ⟨[(47,iQ)],[]⟩ O7) (.cond O7 (sN 1 (.cond O7 (iC (.join [(80,83)] ⟨[(80,iQ)],[]⟩ O7) (.cond O7 (iC (.join [(107,110)] ⟨[(107,iQ)],[]⟩ O7) (.cond O7 (iC (.join [(118,121)] ⟨[(118,iQ)],[]⟩ O7) (.cond O7 (iC (.join [(143,146)] ⟨[(143,iQ)],[]⟩ O7) (.cond O7 (sN 1 (.cond O7 (iC (.join [(178,181)] ⟨[(178,iQ)],[]⟩ O7) O7)))))))))))))))))))))))) O7)⟩
def c3n:FSpec:=dX c1s λx=>oM x.1 x.2
def bi(A:L9)(B:List L9)(C:O8):Option (L9×Int):=o5 (l7 (D8 A.1 1) (o5 (kQ A.2 1 C) λx=>some (.inr x)) (l7 (D8 A.1 2) (o5 (kQ A.2 2 C) λx=>some (.inr x)) (l7 (D8 A.1 3) (o5 (kQ A.2 3 C) λx=>some (.inr x)) (l7 (D8 A.1 4) (o5 (kQ A.2 4 C) λx=>some (.inr x)) (l7 (D8 A.1 5) (o5 (kQ A.2 5 C) λx=>some (.inr x)) (l7 (D8 A.1 6) (o5 (Bi A.2 C) λx=>some (.inr x)) (l7 (D8 A.1 7) (o5 (kG A.2 C.2.2.1 C) λx=>some (.inr x)) (l7 (D8 A.1 8) (o5 (kG A.2 C.2.2.2.1 C) λx=>some (.inr x)) (l7 (D8 A.1 9) (some (.inr ((5,0),0))) (o5 (l7 (D8 A.1 33) (some (D8 A.1 33)) (some (D8 A.1 34))) λx=>l7 x (o5 (P8 B 0) λx=>o5 (sW A x C) λx=>some (.inr x)) (o5 (l7 (D8 A.1 35) (some (D8 A.1 35)) (l7 (D8 A.1 36) (some (D8 A.1 36)) (l7 (D8 A.1 37) (some (D8 A.1 37)) (l7 (D8 A.1 38) (some (D8 A.1 38)) (some (D8 A.1 39)))))) λx=>l7 x (o5 (qW A C) λx=>some (.inr x)) (l7 (D8 A.1 14) (l7 (D8 A.1 14) (o5 (nT A.2) λx=>l7 (I5 x) (some (.inr ((0,0),3))) (some (.inl (0,0)))) (some (.inl (0,0)))) (l7 (D8 A.1 15) (l7 (D8 A.1 15) (o5 (nT A.2) λx=>l7 (I5 x) (some (.inr ((0,0),3))) (some (.inl (0,0)))) (some (.inl (0,0)))) (l7 (D8 A.1 16) (o5 (nT A.2) λx=>l7 (I5 x) (some (.inr ((0,0),3))) (some (.inl (0,0)))) (some (.inl (0,0))))))))))))))))) λo=>dU o (λ(x:L9)=>o5 (oM A.1 B) λx=>l7 (I5 x.2) (some ((0,0),8)) (some (x.1,0))) λr=>some r
def c0Y:FQ:=⟨[tD y2,uD y12,tD y46],⟨[(.cell 6 39,tD y2),(.tmp 7,Z4)],[]⟩,mE 125 [(355,c3i),(356,c3j),(357,b7m),(358,c3k),(359,c3l),(360,b7n),(361,c3n)],sN 1 (iC (jnR [(6,8),(10,114),(4000384,4000385)] ⟨[(6,(false,(.box (dT y2))))],[]⟩ (sN 1 (pq (sN 1 (.cond O7 (sN 1 (.cond O7 (sN 1 (.cond O7 (sN 1 (.cond O7 (sN 1 (.cond O7 (sN 1 (.cond O7 (sN 1 (.cond O7 (sN 1 (.cond O7 (sN 1 (.cond O7 (iC (.join [(83,86)] ⟨[(83,iQ)],[]⟩ O7) (.cond O7 (iC (.join [(94,100)] ⟨[(94,iQ)],[]⟩ O7) O7)))))))))))))))))))))))) O7)⟩
def c3c:FSpec:=dX c0Y λx=>bi x.1 x.2.1 x.2.2
def EC(A:List L9)(B:O8):Option (L9×L9):=o5 (wP A) λx=>l7 (I5 (D8 x.2.2 0)) (some ((0,0),x.2)) (o5 (X5 (λ(x:L9×List L9×Int)=>l7 (J4 x.2.2 (x9 A)) (o5 (P8 A x.2.2) λc=>l7 (I5 (D8 c.2 0)) (o5 (dw c.1) λd=>l7 (I5 d) (some (.rt ((0,0),x.2.2,2))) (o5 (lD c.1) λb=>l7 (nK (L6 .i64 (x9 x.2.1) b) (x9 x.2.1) (x9 x.2.1)) (o5 (bi c (lq x.2.1 (dV (L6 .i64 (x9 x.2.1) b)) (dV (x9 x.2.1))) B) λf=>l7 (I5 (D8 f.2 0)) (some (.rt ((0,0),x.2.2,f.2))) (l7 (nK 0 (L6 .i64 (x9 x.2.1) b) (x9 x.2.1)) (o5 (iy (lq x.2.1 (dV 0) (dV (L6 .i64 (x9 x.2.1) b))) [f.1]) λg=>some (.nx (x.1,g,I8 .i64 x.2.2 1))) none)) none)) (o5 (lD c.1) λd=>l7 (nK (L6 .i64 (x9 x.2.1) d) (x9 x.2.1) (x9 x.2.1)) (o5 (bi c (lq x.2.1 (dV (L6 .i64 (x9 x.2.1) d)) (dV (x9 x.2.1))) B) λb=>l7 (I5 (D8 b.2 0)) (some (.rt ((0,0),x.2.2,b.2))) (l7 (nK 0 (L6 .i64 (x9 x.2.1) d) (x9 x.2.1)) (o5 (iy (lq x.2.1 (dV 0) (dV (L6 .i64 (x9 x.2.1) d))) [b.1]) λf=>some (.nx (x.1,f,I8 .i64 x.2.2 1))) none)) none)) (some (.ex (x.1,x.2.1)))) ((0,0),[],0)) λo=>dU o (λ(y:L9×List L9)=>o5 (P8 y.2 0) λx=>o5 (jg y.2 (dV 0)) λx=>some (x,0,0)) λr=>some r)
def c0L:FQ:=⟨[uD y12,tD y46],⟨[(.cell 4 39,tD y2),(.tmp 5,Z4),(.tmp 6,Z4)],[]⟩,mE 75 [(97,s97),(56,s56),(57,s57),(288,c3c)],sN 4 (iC (sN 1 (pq (lpR [(4,7),(10,16),(29,72),(4000256,4000257)] ⟨[(4,(false,(.box (dT y2)))),(10,(uO y2)),(29,Z4)],[]⟩ 0 ⟨[(4,(false,(.box (dT y2)))),(10,(uO y2))],[]⟩ O7))) O7)⟩
def c2P:FSpec:=dX c0L λx=>EC x.1 x.2
def vJ(A:List L9)(B:O8)(C:L9):c5A:=o5 (EC A B) λx=>l7 (I5 (D8 x.2.2 0)) (some x.2.2) (l7 (I5 (qM (D8 x.1.1 C.1) (D8 x.1.2 C.2))) (some 8) (some 0))
def c0u:FQ:=⟨[uD y12,tD y46,tD y2],tR 6 Z4,mE 23 [(209,c2P)],O7⟩
def c2x:FSpec:=dX c0u λx=>vJ x.1 x.2.1 x.2.2
def Bl(A:H6)(B:Int)(C:O8):c5A:=o5 (P8 A.2.2.2.2 B) λx=>o5 (dM A.2.2.2.2 0 B) λf=>o5 (fF (λ(b:L9)=>l7 (J4 b.2 (x9 f)) (o5 (P8 f b.2) λc=>l7 (D8 c.2.1 x.2.1) (some (.inl (I8 .i64 b.1 1,I8 .i64 b.2 1))) (some (.inl (b.1,I8 .i64 b.2 1)))) (some (.inr b.1))) (0,0)) λy=>o5 (o5 (bG x.1) λb=>l7 (I5 b) (some (.inr 2)) (o5 (dM A.2.2.2.2 0 B) λc=>o5 (jA c x) λg=>l7 g (some (.inr 7)) (o5 (l7 (J4 x.2.1 0) (some true) (some (U7 (x9 A.2.2.2.1) x.2.1))) λi=>l7 i (some (.inr 6)) (o5 (l7 (I5 (D8 x.2.2.1 (-1))) (l7 (J4 x.2.2.1 0) (some true) (l7 (U7 B x.2.2.1) (some true) (o5 (P8 A.2.2.2.2 x.2.2.1) λd=>some (I5 (D8 d.2.1 x.2.1))))) (some false)) λd=>l7 d (some (.inr 9)) (o5 (l7 (J4 x.2.2.2.1 0) (some true) (some (J4 9 x.2.2.2.1))) λj=>l7 j (some (.inr 3)) (l7 (J4 x.2.2.2.2.1.1 0) (some (.inr 3)) (l7 (U7 x.2.2.2.2.1.2 x.2.2.2.2.1.1) (some (.inr 3)) (l7 (J4 109573 x.2.2.2.2.1.2) (some (.inr 3)) (l7 (U7 8 y) (some (.inr 4)) (o5 (yu x.2.2.2.2.2.2.2) λk=>l7 (I5 k) (some (.inr 2)) (some (.inl x)))))))))))) λo=>dU o (λ(x:U3)=>l7 (J4 0 (x9 x.2.2.2.2.2.1)) (o5 (vJ x.2.2.2.2.2.1 C (1,0)) λb=>l7 (I5 (D8 b 0)) (some b) (o5 (P8 A.2.2.2.1 x.2.1) λc=>o5 (vJ x.2.2.2.2.2.2.1 C c.2) λx=>some x)) (o5 (P8 A.2.2.2.1 x.2.1) λb=>o5 (vJ x.2.2.2.2.2.2.1 C b.2) λx=>some x)) λr=>some r
def q88:FQ:=⟨[tD y24,Z4,tD y46],tR 6 Z4,mE 145 [(43,s43),(146,a3R),(145,b0H),(147,c2w),(148,c2x)],sN 3 (iC (sN 1 (pq (.loop [(8,9),(10,11),(22,34)] ⟨[(8,Z4),(22,Z4)],[]⟩ 0 ⟨[(8,Z4)],[]⟩ O7))) (iC (jnR [(6,8),(34,122),(7000448,7000449)] ⟨[(7,(false,(.rp y19)))],[]⟩ (pq (sN 1 (.cond O7 (sN 1 (.cond O7 (iC (.join [(46,58)] ⟨[(46,iQ)],[]⟩ O7) (.cond O7 (iC (.join [(58,85)] ⟨[(58,iQ)],[]⟩ O7) (.cond O7 (iC (.join [(85,94)] ⟨[(85,iQ)],[]⟩ O7) O7))))))))))) O7))⟩
def s88:FSpec:=dX q88 λx=>Bl x.1 x.2.1 x.2.2
def b9U:List MG:=[(false,(.ownb (.int .i64)))]
def b7g:FSpec:=⟨b9U,[],[uoM],λx=>Dt x⟩
def b9W:List MG:=[uoM]
def b7h:FSpec:=⟨b9W,[uoM],[],λx=>wJ x⟩
def vI(A:c5w):Option c5w:=o5 (Dt A) λx=>o5 (wJ x) λx=>some x
def c1t:FQ:=⟨[uoM],tR 2 uoM,mE 7 [(168,b7g),(290,b7h)],O7⟩
def c3o:FSpec:=dX c1t λx=>vI x
def yg(A:List L9):Option (c5w×c5w×c5w):=o5 (fF (λ(x:c5w×c5w×c5w×Int)=>l7 (J4 x.2.2.2 (x9 A)) (o5 (P8 A x.2.2.2) λb=>l7 (D8 b.1 7) (o5 (iy x.1 [b.2]) λc=>some (.inl (c,x.2.1,x.2.2.1,I8 .i64 x.2.2.2 1))) (l7 (D8 b.1 8) (o5 (iy x.2.1 [b.2]) λc=>some (.inl (x.1,c,x.2.2.1,I8 .i64 x.2.2.2 1))) (l7 (D8 b.1 36) (l7 (D8 b.1 36) (o5 (iy x.2.2.1 [b.2]) λc=>some (.inl (x.1,x.2.1,c,I8 .i64 x.2.2.2 1))) (some (.inl (x.1,x.2.1,x.2.2.1,I8 .i64 x.2.2.2 1)))) (l7 (D8 b.1 37) (l7 (D8 b.1 37) (o5 (iy x.2.2.1 [b.2]) λc=>some (.inl (x.1,x.2.1,c,I8 .i64 x.2.2.2 1))) (some (.inl (x.1,x.2.1,x.2.2.1,I8 .i64 x.2.2.2 1)))) (l7 (D8 b.1 38) (l7 (D8 b.1 38) (o5 (iy x.2.2.1 [b.2]) λc=>some (.inl (x.1,x.2.1,c,I8 .i64 x.2.2.2 1))) (some (.inl (x.1,x.2.1,x.2.2.1,I8 .i64 x.2.2.2 1)))) (l7 (D8 b.1 39) (o5 (iy x.2.2.1 [b.2]) λc=>some (.inl (x.1,x.2.1,c,I8 .i64 x.2.2.2 1))) (some (.inl (x.1,x.2.1,x.2.2.1,I8 .i64 x.2.2.2 1))))))))) (some (.inr (x.1,x.2.1,x.2.2.1)))) ([],[],[],0)) λy=>o5 (vI y.1) λx=>o5 (vI y.2.1) λb=>o5 (vI y.2.2) λc=>some (x,b,c)
def c0Z:FQ:=⟨[uD y12],⟨[(.tmp 2,uoM),(.tmp 3,uoM),(.tmp 4,uoM)],[]⟩,mE 49 [(362,c3o)],sN 2 (iC (sN 1 (pq (.loop [(5,8),(9,10),(12,43)] ⟨[(5,uoM),(6,uoM),(7,uoM),(12,Z4)],[]⟩ 0 ⟨[(5,uoM),(6,uoM),(7,uoM)],[]⟩ O7))) O7)⟩
def c3d:FSpec:=dX c0Z λx=>yg x
def uF(A:U3)(B:Int):Option c5w:=o5 (yg A.2.2.2.2.2.1) λx=>o5 (yg A.2.2.2.2.2.2.1) λd=>o5 (fF (λ(b:c5w×Int)=>l7 (J4 b.2 (x9 x.2.1)) (o5 (P8 x.2.1 b.2) λc=>o5 (jg x.2.1 (dV b.2)) λx=>l7 (U7 0 x) (l7 (J4 x B) (o5 (iy b.1 [x]) λx=>some (.inl (x,I8 .i64 b.2 1))) (some (.inl (b.1,I8 .i64 b.2 1)))) (some (.inl (b.1,I8 .i64 b.2 1)))) (some (.inr b.1))) ([],0)) λy=>o5 (fF (λ(x:c5w×Int)=>l7 (J4 x.2 (x9 d.2.1)) (o5 (P8 d.2.1 x.2) λb=>o5 (jg d.2.1 (dV x.2)) λc=>l7 (U7 0 c) (l7 (J4 c B) (o5 (iy x.1 [c]) λf=>some (.inl (f,I8 .i64 x.2 1))) (some (.inl (x.1,I8 .i64 x.2 1)))) (some (.inl (x.1,I8 .i64 x.2 1)))) (some (.inr x.1))) (y,0)) λy=>some y
def c0M:FQ:=⟨[tD y19,Z4],tR 4 uoM,mE 67 [(289,c3d)],sN 4 (iC (sN 1 (pq (.loop [(5,6),(13,14),(32,48)] ⟨[(5,uoM),(32,Z4)],[]⟩ 0 ⟨[(5,uoM)],[]⟩ O7))) (iC (sN 1 (pq (.loop [(5,6),(15,16),(50,66),(21000000,21000001)] ⟨[(5,uoM),(50,Z4)],[]⟩ 2 ⟨[(5,uoM)],[]⟩ O7))) O7))⟩
def c2Q:FSpec:=dX c0M λx=>uF x.1 x.2
def DJ(A:c5w):Option c5w:=o5 (Dt A) λx=>o5 (wJ x) λx=>some x
def c0N:FQ:=⟨[uoM],tR 2 uoM,mE 7 [(168,b7g),(290,b7h)],O7⟩
def c2R:FSpec:=dX c0N λx=>DJ x
def zA(A:H6):Option (List c5w):=o5 (Ny (x9 A.2.2.2.1) []) λx=>o5 (fF (λ(x:List c5w×Int)=>l7 (J4 x.2 (x9 A.2.2.2.2)) (o5 (P8 A.2.2.2.2 x.2) λb=>l7 (U7 0 b.2.1) (l7 (J4 b.2.1 (x9 x.1)) (l7 (inb b.2.1 (x9 x.1)) (o5 (jg x.1 (dV b.2.1)) λc=>o5 (uF b (x9 x.1)) λd=>o5 (iy c d) λf=>l7 (inb b.2.1 (x9 x.1)) (l7 (Ht (dV b.2.1) (dV b.2.1)) (o5 (jg x.1 (dV b.2.1)) λg=>some (.inl (mQ x.1 (dV b.2.1) f,I8 .i64 x.2 1))) none) none) none) (some (.inl (x.1,I8 .i64 x.2 1)))) (some (.inl (x.1,I8 .i64 x.2 1)))) (some (.inr x.1))) (x,0)) λy=>o5 (fF (λ(x:List c5w×Int)=>l7 (J4 x.2 (x9 y)) (l7 (inb x.2 (x9 x.1)) (o5 (jg x.1 (dV x.2)) λb=>o5 (DJ b) λc=>l7 (inb x.2 (x9 x.1)) (l7 (Ht (dV x.2) (dV x.2)) (o5 (jg x.1 (dV x.2)) λd=>some (.inl (mQ x.1 (dV x.2) c,I8 .i64 x.2 1))) none) none) none) (some (.inr x.1))) (y,0)) λy=>some y
def c0y:FQ:=⟨[tD y24],tR 2 (uD y54),⟨58,eqs,tt,gl,[(210,c2Q),(211,c2R)],[(259,oiM)],[7,36,50,53],[],[],[],[]⟩,sN 2 (iC (sN 1 (pq (.loop [(3,4),(5,6),(15,44),(7000704,7000705)] ⟨[(3,(false,(.owns oiM))),(15,Z4)],[]⟩ 0 ⟨[(3,(false,(.owns oiM)))],[]⟩ O7))) (iC (sN 1 (pq (.loop [(3,4),(6,8),(44,45),(46,57),(15000000,15000001)] ⟨[(3,(false,(.owns oiM))),(46,Z4)],[(44,3,none)]⟩ 2 ⟨[(3,(false,(.owns oiM)))],[]⟩ O7))) O7))⟩
def c2A:FSpec:=dX c0y λx=>zA x
def CJ(A:List c5w)(B:Int):Option c5w:=o5 (Ny (x9 A) false) λx=>o5 (fF (λ(x:List Bool×c5w)=>l7 (J4 0 (x9 x.2)) (o5 (P8 x.2 0) λf=>o5 (jg x.2 (dV 0)) λd=>l7 (nK 1 (x9 x.2) (x9 x.2)) (o5 (P8 A d) λc=>o5 (fF (λ(x:List Bool×c5w×Int)=>l7 (J4 x.2.2 (x9 c)) (o5 (P8 c x.2.2) λb=>o5 (P8 x.1 b) λj=>o5 (jg x.1 (dV b)) λg=>l7 (I5 g) (o5 (P8 x.1 b) λk=>o5 (jg x.1 (dV b)) λn=>o5 (iy x.2.1 [b]) λi=>some (.inl (mQ x.1 (dV b) true,i,I8 .i64 x.2.2 1))) (some (.inl (x.1,x.2.1,I8 .i64 x.2.2 1)))) (some (.inr (x.1,x.2.1)))) (x.1,lq x.2 (dV 1) (dV (x9 x.2)),0)) λy=>some (.inl y)) none) (some (.inr x.1))) (x,[B])) λy=>o5 (fF (λ(x:c5w×Int)=>l7 (J4 x.2 (x9 y)) (o5 (P8 y x.2) λf=>o5 (jg y (dV x.2)) λd=>l7 d (o5 (iy x.1 [x.2]) λc=>some (.inl (c,I8 .i64 x.2 1))) (some (.inl (x.1,I8 .i64 x.2 1)))) (some (.inr x.1))) ([],0)) λy=>some y
def c0x:FQ:=⟨[uD y54,Z4],tR 4 uoM,mE 62 [],sN 3 (iC (pq (.loop [(5,8),(9,10),(18,48),(7000960,7000961),(10001088,10001089)] ⟨[(5,(uO .bool)),(6,uoM)],[]⟩ 0 ⟨[(5,(uO .bool))],[]⟩ (sN 1 (pq (sN 3 (pq (.loop [(5,7),(9,10),(31,48),(14000000,14000002)] ⟨[(5,(uO .bool)),(6,uoM),(31,Z4)],[]⟩ 2 ⟨[(5,(uO .bool)),(6,uoM)],[]⟩ O7))))))) (sN 1 (iC (sN 1 (pq (.loop [(10,13),(50,61)] ⟨[(10,uoM),(50,Z4)],[]⟩ 4 ⟨[(10,uoM)],[]⟩ O7))) O7)))⟩
def c2z:FSpec:=dX c0x λx=>CJ x.1 x.2
def BX(A:H6)(B:Int):Option c5w:=l7 (J4 B 0) (some []) (l7 (U7 (x9 A.2.2.2.1) B) (some []) (o5 (zA A) λx=>o5 (CJ x B) λx=>some x))
def q90:FQ:=⟨[tD y24,Z4],tR 4 uoM,mE 18 [(151,c2A),(150,c2z)],O7⟩
def s90:FSpec:=dX q90 λx=>BX x.1 x.2
def BL(A:c5w)(B:Int):c5A:=o5 (X5 (λ(x:Int)=>l7 (J4 x (x9 A)) (o5 (P8 A x) λb=>l7 (D8 B b) (some (.rt x)) (some (.nx (I8 .i64 x 1)))) (some (.ex ()))) 0) λo=>dU o (λy=>some (-1)) λr=>some r
def c0w:FQ:=⟨[uD y38,Z4],tR 4 Z4,mE 19 [],sN 1 (iC (sN 1 (pq (lpR [(4,6),(8,19)] ⟨[(8,Z4)],[]⟩ 0 sgN O7))) O7)⟩
def c2y:FSpec:=dX c0w λx=>BL x.1 x.2
def uh(A:c5w)(B:Int):c5z:=o5 (BL A B) λx=>some (U7 0 x)
def q89:FQ:=⟨[uD y38,Z4],tR 4 iQ,mE 9 [(149,c2y)],O7⟩
def s89:FSpec:=dX q89 λx=>uh x.1 x.2
def zJ(A:O6)(B:Int):Option L9:=o5 (P8 A.2.2 B) λx=>o5 (dM A.2.2 0 B) λf=>o5 (o5 (yU A.1 x.1) λd=>l7 d (some (x,true)) (o5 (zK A.2.1 x.1) λb=>l7 b (some (x,true)) (o5 (iT f x) λc=>some (x,c)))) λx=>o5 (o5 (bG x.1.1) λd=>l7 (I5 d) (some (.inr (2,0))) (l7 x.2 (some (.inr (7,0))) (o5 (l7 (I5 (D8 x.1.2.1 (-1))) (l7 (J4 x.1.2.1 0) (some true) (l7 (U7 B x.1.2.1) (some true) (o5 (P8 f x.1.2.1) λx=>some (I5 (D8 x.2.1 (-1)))))) (some false)) λb=>l7 b (some (.inr (6,0))) (l7 (J4 12 (x9 x.1.2.2.1)) (some (.inr (4,112))) (l7 (J4 12 (x9 x.1.2.2.2.1)) (some (.inr (4,212))) (some (.inl ()))))))) λo=>dU o (λd=>o5 (X5 (λ(b:Int)=>l7 (J4 b (x9 x.1.2.2.1)) (o5 (P8 x.1.2.2.1 b) λc=>o5 (dM x.1.2.2.1 0 b) λx=>o5 (wU A c x []) λx=>l7 (I5 (D8 x 0)) (some (.rt (x,I8 .i64 100 b))) (some (.nx (I8 .i64 b 1)))) (some (.ex ()))) 0) λo=>dU o (λy=>o5 (X5 (λ(b:Int)=>l7 (J4 b (x9 x.1.2.2.2.1)) (o5 (P8 x.1.2.2.2.1 b) λc=>o5 (dM x.1.2.2.2.1 0 b) λg=>o5 (wU A c x.1.2.2.1 g) λx=>l7 (I5 (D8 x 0)) (some (.rt (x,I8 .i64 200 b))) (some (.nx (I8 .i64 b 1)))) (some (.ex ()))) 0) λo=>dU o (λy=>o5 (sQ A B) λb=>o5 (X5 (λ(c:Int)=>l7 (J4 c (x9 x.1.2.2.2.2)) (o5 (Bl x.1 c b) λx=>l7 (I5 (D8 x 0)) (some (.rt (x,I8 .i64 300 c))) (some (.nx (I8 .i64 c 1)))) (some (.ex ()))) 0) λo=>dU o (λy=>o5 (X5 (λ(c:Int)=>l7 (J4 c (x9 x.1.2.2.2.1)) (o5 (BX x.1 c) λx=>o5 (uh x c) λx=>l7 x (some (.rt (9,I8 .i64 200 c))) (some (.nx (I8 .i64 c 1)))) (some (.ex ()))) 0) λo=>dU o (λy=>some (0,0)) λr=>some r) λr=>some r) λr=>some r) λr=>some r) λr=>some r
def q46:FQ:=⟨[tD y27,Z4],⟨[(.tmp 4,Z4),(.tmp 5,Z4)],[]⟩,mE 163 [(44,s44),(45,s45),(85,b0Q),(84,b5y),(43,s43),(86,s86),(87,s87),(88,s88),(90,s90),(89,s89)],sN 3 (iC (.join [(6,7),(8,9),(28,45),(7000384,7000385)] ⟨[(6,(false,(.rp y24))),(8,iQ)],[]⟩ O7) (iC (jnR [(4,6),(45,86)] sgN (pq (sN 1 (.cond O7 (sN 1 (.cond O7 (iC (.join [(52,76)] ⟨[(52,iQ)],[]⟩ O7) O7))))))) (iC (sN 1 (pq (lpR [(4,6),(9,12),(89,107)] ⟨[(89,Z4)],[]⟩ 1 sgN O7))) (iC (sN 1 (pq (lpR [(4,6),(12,15),(110,130)] ⟨[(110,Z4)],[]⟩ 3 sgN O7))) (sN 1 (iC (sN 1 (pq (lpR [(4,6),(16,18),(136,149)] ⟨[(136,Z4)],[]⟩ 5 sgN O7))) (iC (sN 1 (pq (lpR [(4,6),(18,19),(152,163)] ⟨[(152,Z4)],[]⟩ 7 sgN O7))) O7)))))))⟩
def s46:FSpec:=dX q46 λx=>zJ x.1 x.2
def yj(A:O6):Option nZ:=l7 (J4 4 (x9 A.2.2)) (some (4,3,4,0)) (o5 (X5 (λ(x:nZ×Int)=>l7 (J4 x.2 (x9 A.2.2)) (o5 (zJ A x.2) λb=>l7 (I5 (D8 b.1 0)) (some (.rt (b.1,3,x.2,b.2))) (some (.nx (x.1,I8 .i64 x.2 1)))) (some (.ex x.1))) ((0,0,0,0),0)) λo=>dU o (λ(y:nZ)=>some (0,0,0,0)) λr=>some r)
def q27:FQ:=⟨[tD y27],cR 2 31 (tD y28),mE 31 [(46,s46)],sN 2 (iC (sN 1 (pq (lpR [(2,6),(14,30),(4000128,4000129)] ⟨[(2,(false,(.box (dT y28)))),(14,Z4)],[]⟩ 0 ⟨[(2,(false,(.box (dT y28))))],[]⟩ O7))) O7)⟩
def s27:FSpec:=dX q27 λx=>yj x
def uN(A:O6):Option nZ:=o5 (zI A) λx=>l7 (I5 (D8 x.1 0)) (some x) (o5 (yl A) λx=>l7 (I5 (D8 x.1 0)) (some x) (o5 (yj A) λx=>some x))
def q9:FQ:=⟨[tD y27],cR 2 31 (tD y28),mE 19 [(25,s25),(26,s26),(27,s27)],O7⟩
def s9:FSpec:=dX q9 λx=>uN x
def yw(A:H6):c5z:=o5 (l7 (J4 80 (x9 A.1)) (some (.inr false)) (l7 (J4 14 (x9 A.2.2.1)) (some (.inr false)) (l7 (J4 14 (x9 A.2.2.2.1)) (some (.inr false)) (l7 (J4 60 (x9 A.2.2.2.2)) (some (.inr false)) (some (.inl ())))))) λo=>dU o (λx=>o5 (X5 (λ(x:Int)=>l7 (J4 x (x9 A.2.2.1)) (o5 (P8 A.2.2.1 x) λb=>l7 (J4 80 (x9 b.1)) (some (.rt false)) (some (.nx (I8 .i64 x 1)))) (some (.ex ()))) 0) λo=>dU o (λy=>o5 (X5 (λ(x:Int)=>l7 (J4 x (x9 A.2.2.2.1)) (o5 (P8 A.2.2.2.1 x) λb=>l7 (J4 80 (x9 b.1)) (some (.rt false)) (some (.nx (I8 .i64 x 1)))) (some (.ex ()))) 0) λo=>dU o (λy=>o5 (X5 (λ(x:Int)=>l7 (J4 x (x9 A.2.2.2.2)) (o5 (P8 A.2.2.2.2 x) λb=>l7 (J4 80 (x9 b.1)) (some (.rt false)) (l7 (J4 80 (x9 b.2.2.2.2.2.2.2)) (some (.rt false)) (l7 (J4 50 (x9 b.2.2.2.2.2.1)) (some (.rt false)) (l7 (J4 50 (x9 b.2.2.2.2.2.2.1)) (some (.rt false)) (some (.nx (I8 .i64 x 1))))))) (some (.ex ()))) 0) λo=>dU o (λy=>some true) λr=>some r) λr=>some r) λr=>some r) λr=>some r
def q8:FQ:=⟨[tD y24],tR 2 iQ,mE 93 [],sN 1 (iC (jnR [(2,3),(7,29)] sgN O7) (iC (sN 1 (pq (lpR [(2,4),(29,44)] ⟨[(3,Z4)],[]⟩ 0 sgN O7))) (iC (sN 1 (pq (lpR [(2,3),(4,5),(44,59)] ⟨[(4,Z4)],[]⟩ 2 sgN O7))) (iC (sN 1 (pq (lpR [(2,3),(5,7),(59,93)] ⟨[(5,Z4)],[]⟩ 4 sgN O7))) O7))))⟩
def s8:FSpec:=dX q8 λx=>yw x
def Bq(A:O6):c5z:=o5 (l7 (J4 9 (x9 A.1)) (some (.inr false)) (l7 (J4 9 (x9 A.2.1)) (some (.inr false)) (l7 (J4 5 (x9 A.2.2)) (some (.inr false)) (some (.inl ()))))) λo=>dU o (λx=>o5 (X5 (λ(x:Int)=>l7 (J4 x (x9 A.1)) (o5 (P8 A.1 x) λb=>l7 (J4 80 (x9 b.1)) (some (.rt false)) (o5 (P8 A.1 x) λc=>l7 (J4 20 (x9 c.2)) (some (.rt false)) (o5 (X5 (λ(d:Int)=>o5 (P8 A.1 x) λf=>l7 (J4 d (x9 f.2)) (o5 (P8 A.1 x) λx=>o5 (P8 x.2 d) λx=>l7 (J4 80 (x9 x)) (some (.rt false)) (some (.nx (I8 .i64 d 1)))) (some (.ex ()))) 0) λo=>dU o (λy=>some (.nx (I8 .i64 x 1))) λr=>some (.rt r)))) (some (.ex ()))) 0) λo=>dU o (λy=>o5 (X5 (λ(x:L9)=>l7 (J4 x.2 (x9 A.2.1)) (o5 (P8 A.2.1 x.2) λb=>o5 (P8 A.2.1 x.2) λc=>l7 (J4 80 (x9 c.1)) (some (.rt false)) (l7 (J4 150 (I8 .i64 x.1 (x9 b.2.2.2))) (some (.rt false)) (some (.nx (I8 .i64 x.1 (x9 b.2.2.2),I8 .i64 x.2 1))))) (some (.ex ()))) (0,0)) λo=>dU o (λy=>o5 (X5 (λ(x:L9)=>l7 (J4 x.2 (x9 A.2.2)) (o5 (P8 A.2.2 x.2) λb=>l7 (J4 60 (I8 .i64 x.1 (x9 b.2.2.2.2))) (some (.rt false)) (o5 (P8 A.2.2 x.2) λc=>o5 (yw c) λd=>l7 (I5 d) (some (.rt false)) (some (.nx (I8 .i64 x.1 (x9 b.2.2.2.2),I8 .i64 x.2 1))))) (some (.ex ()))) (0,0)) λo=>dU o (λy=>some true) λr=>some r) λr=>some r) λr=>some r) λr=>some r
def q4:FQ:=⟨[tD y27],tR 2 iQ,mE 127 [(8,s8)],sN 1 (iC (jnR [(2,3),(9,25)] sgN O7) (sN 2 (iC (sN 1 (pq (lpR [(2,3),(5,7),(25,72)] ⟨[(5,Z4)],[]⟩ 0 sgN (sN 1 (iC (pq (sN 2 (pq (lpR [(2,3),(6,7),(50,72)] ⟨[(6,Z4)],[]⟩ 2 sgN O7)))) O7))))) (iC (sN 1 (pq (lpR [(2,4),(7,8),(72,100)] ⟨[(3,Z4),(7,Z4)],[]⟩ 4 sgN O7))) (iC (sN 1 (pq (lpR [(2,3),(4,5),(8,9),(100,127)] ⟨[(4,Z4),(8,Z4)],[]⟩ 6 sgN O7))) O7)))))⟩
def s4:FSpec:=dX q4 λx=>Bq x
def ji(A:c5v):Option (List c5v×Int):=l7 (J4 65536 (x9 A)) (some ([],4)) (l7 (seq A []) (some ([],0)) (o5 (X5 (λ(x:List c5v×Int×c5v×Int)=>l7 (J4 x.2.2.2 (x9 x.2.2.1)) (l7 (D8 (sJ x.2.2.1 x.2.2.2) 10) (o5 (dM A x.2.1 x.2.2.2) λb=>o5 (iy x.1 [b]) λc=>some (.nx (c,I8 .i64 x.2.2.2 1,x.2.2.1,ui x.2.2.1 x.2.2.2))) (l7 (D8 (sJ x.2.2.1 x.2.2.2) 9) (some (.nx (x.1,x.2.1,x.2.2.1,ui x.2.2.1 x.2.2.2))) (l7 (U7 32 (sJ x.2.2.1 x.2.2.2)) (l7 (U7 (sJ x.2.2.1 x.2.2.2) 126) (some (.nx (x.1,x.2.1,x.2.2.1,ui x.2.2.1 x.2.2.2))) (some (.rt ([],2)))) (some (.rt ([],2)))))) (some (.ex (x.1,x.2.1)))) ([],0,A,0)) λo=>dU o (λ(y:List c5v×Int)=>l7 (I5 (D8 y.2 (x9 A))) (some ([],2)) (some (y.1,0))) λr=>some r))
def q18:FQ:=⟨[uD .str],⟨[(.tmp 2,(uO .str)),(.tmp 3,Z4)],[]⟩,mE 47 [],sN 5 (iC (sN 1 (pq (lpR [(2,8),(14,42),(34000896,34000897)] ⟨[(4,(uO .str)),(5,Z4),(14,(false,.sit))],[]⟩ 0 ⟨[(4,(uO .str)),(5,Z4)],[]⟩ O7))) O7)⟩
def s18:FSpec:=dX q18 λx=>ji x
def b6Q:List MG:=[(false,(.mbx y76 81 5 11)),(false,(.dat (.int .u8)))]
def b5q:FSpec:=⟨b6Q,[(false,(.cell none))],[(false,(.mbx y76 81 5 11))],λx=>yQ y76 x.1 x.2⟩
def b6M:List MG:=[(false,(.mbx y76 81 5 11)),(false,(.dat .str))]
def b0y:FSpec:=⟨b6M,[Z4,(false,(.cell none))],[(false,(.mbx y76 81 5 11))],λx=>mW y76 x.1 x.2⟩
def c5j:List MG:=[Z4]
def s54:FSpec:=⟨c5j,[(false,(.dat .str))],[],λx=>FD x⟩
def fH(A:Int):Option c5v:=o5 (FD A) λx=>some x
def q35:FQ:=⟨[Z4],tR 2 (uD .str),mE 5 [(54,s54)],O7⟩
def s35:FSpec:=dX q35 λx=>fH x
def X6(A:(O6×O6×Bool×Int×xK)×c5v)(B:List (Option (Nat×(c5v⊕IntKind×Int)))):Option ((O6×O6×Bool×Int×xK)×c5v):=o5 (fF (λ(x:((O6×O6×Bool×Int×xK)×c5v)×Int)=>l7 (J4 x.2 (x9 B)) (o5 (P8 B x.2) λg=>l7 (J4 0 x.2) (o5 (yQ y76 x.1 32) λd=>o5 (ifS 9 g) λf=>l7 f.1 (o5 (mW y76 d.2 f.2) λb=>some (.inl (b.2.2,I8 .i64 x.2 1))) (o5 (ifI 3 .i64 g) λb=>l7 b.1 (o5 (fH b.2) λc=>o5 (mW y76 d.2 c) λi=>some (.inl (i.2.2,I8 .i64 x.2 1))) (o5 (ifI 29 .i64 g) λc=>l7 c.1 (o5 (fH c.2) λi=>o5 (mW y76 d.2 i) λj=>some (.inl (j.2.2,I8 .i64 x.2 1))) (some (.inl (d.2,I8 .i64 x.2 1)))))) (o5 (ifS 9 g) λd=>l7 d.1 (o5 (mW y76 x.1 d.2) λf=>some (.inl (f.2.2,I8 .i64 x.2 1))) (o5 (ifI 3 .i64 g) λf=>l7 f.1 (o5 (fH f.2) λb=>o5 (mW y76 x.1 b) λc=>some (.inl (c.2.2,I8 .i64 x.2 1))) (o5 (ifI 29 .i64 g) λb=>l7 b.1 (o5 (fH b.2) λc=>o5 (mW y76 x.1 c) λi=>some (.inl (i.2.2,I8 .i64 x.2 1))) (some (.inl (x.1,I8 .i64 x.2 1))))))) (some (.inr x.1))) (A,0)) λy=>o5 (yQ y76 y 10) λx=>some x.2
def q19:FQ:=⟨[(false,(.mbx y76 81 5 0)),(uD (.sl .ifv))],⟨[],[(0,(false,(.mbx y76 81 5 0)))]⟩,⟨54,eqs,tt,gl,[(24,b5q),(10,b0y),(35,s35)],[],[],[],[0],[],[]⟩,iC (sN 1 (pq (.loop [(0,1),(4,9),(11,50),(1000000,1000002)] ⟨[(0,(false,(.mbx y76 81 5 0))),(11,Z4)],[]⟩ 0 ⟨[(0,(false,(.mbx y76 81 5 0)))],[]⟩ O7))) O7⟩
def s19:FSpec:=dX q19 λx=>X6 x.1 x.2
def b6O:List MG:=[(false,(.mbx y76 81 5 11))]
def b5p:FSpec:=⟨b6O,[(false,(.dat .str))],[(false,(.mbx y76 81 5 11))],λx=>um y76 x⟩
def c5h:List MG:=[(false,(.dat .str)),(false,(.dat .str))]
def s37:FSpec:=⟨c5h,[iQ],[],λx=>iD x.1 x.2⟩
def P6(A:c5v)(B:c5v):c5z:=o5 (iD A B) λx=>some x
def q20:FQ:=⟨[uD .str,(uD .str)],tR 4 iQ,mE 8 [(37,s37)],O7⟩
def s20:FSpec:=dX q20 λx=>P6 x.1 x.2
def b6P:List MG:=[(false,(.mbx .unit 52 5 0))]
def b0I:FSpec:=⟨b6P,[(false,(.dat .str))],[(false,(.mbx .unit 52 5 0))],λx=>yP x⟩
def c5g:List MG:=[(false,(.mbx .unit 52 5 0))]
def s21:FSpec:=⟨c5g,[],[(false,(.mbx .unit 52 5 0))],λx=>yC x⟩
def tV(A:c5v):Option (List c5v):=o5 (fF (λ(x:List c5v×Int×c5v×Int)=>l7 (J4 x.2.2.2 (x9 x.2.2.1)) (l7 (D8 (sJ x.2.2.1 x.2.2.2) 32) (l7 (U7 0 x.2.1) (o5 (dM A x.2.1 x.2.2.2) λb=>o5 (iy x.1 [b]) λc=>some (.inl (c,-1,x.2.2.1,ui x.2.2.1 x.2.2.2))) (some (.inl (x.1,-1,x.2.2.1,ui x.2.2.1 x.2.2.2)))) (l7 (D8 (sJ x.2.2.1 x.2.2.2) 9) (l7 (U7 0 x.2.1) (o5 (dM A x.2.1 x.2.2.2) λb=>o5 (iy x.1 [b]) λc=>some (.inl (c,-1,x.2.2.1,ui x.2.2.1 x.2.2.2))) (some (.inl (x.1,-1,x.2.2.1,ui x.2.2.1 x.2.2.2)))) (l7 (J4 x.2.1 0) (some (.inl (x.1,x.2.2.2,x.2.2.1,ui x.2.2.1 x.2.2.2))) (some (.inl (x.1,x.2.1,x.2.2.1,ui x.2.2.1 x.2.2.2)))))) (some (.inr (x.1,x.2.1)))) ([],-1,A,0)) λy=>l7 (U7 0 y.2) (o5 (dM A y.2 (x9 A)) λx=>o5 (iy y.1 [x]) λx=>some x) (some y.1)
def q23:FQ:=⟨[uD .str],tR 2 (uO .str),mE 40 [],sN 3 (iC (sN 1 (pq (.loop [(3,7),(8,31),(14000512,14000513)] ⟨[(3,(uO .str)),(4,Z4),(8,(false,.sit))],[]⟩ 0 ⟨[(3,(uO .str)),(4,Z4)],[]⟩ O7))) O7)⟩
def s23:FSpec:=dX q23 λx=>tV x
def b9X:List MG:=[(false,(.dat .str)),(false,(.dat .str))]
def b3N:FSpec:=⟨b9X,[(false,(.dat .str)),(false,(.dat .str)),iQ],[],λx=>Bg x.1 x.2⟩
def H5(A:G5):Option (c5v×Bool×G5):=l7 (I5 A.2) (some ([],false,A)) (o5 (Bg A.1 [32]) λx=>some (x.1,I5 (seq x.1 []),x.2))
def c0O:FQ:=⟨[(false,(.box (dT y61)))],⟨[(.tmp 2,(uD .str)),(.tmp 3,iQ)],[(0,tD y61)]⟩,⟨32,eqs,tt,gl,[(297,b3N)],[],[],[],[0],[],[]⟩,O7⟩
def LJ:FSpec:=dX c0O λx=>H5 x
def kT(A:I7)(B:G5):Option (Int×I7×G5):=o5 (H5 B) λx=>o5 (l7 (I5 x.2.1) (some (.inr (2,A,x.2.2))) (l7 (I5 x.2.2.2) (some (.inr (2,A,x.2.2))) (some (.inl ())))) λo=>dU o (λd=>o5 (X5 (λ(x:G5×U2)=>l7 x.1.2 (o5 (H5 x.1) λb=>l7 (I5 b.2.1) (some (.rt (2,A,b.2.2))) (o5 (iy x.2.2 [b.1]) λc=>some (.nx (b.2.2,x.2.1,c)))) (some (.ex x))) (x.2.2,x.1,[])) λo=>dU o (λ(y:G5×U2)=>o5 (iy A.1.1 [y.2]) λx=>some (0,((x,A.1.2),A.2),y.1)) λr=>some r) λr=>some r
def c0P:FQ:=⟨[(false,(.box (pA (pA (oW y0) (pA (.owns (pA (dT .str) (pA (dT y2) (pA (dT y2) (oW y4))))) (.owns (pA (dT .str) (pA J6 (pA (oW y10) (pA (oW y10) (oW y19)))))))) (pA J6 (pA (dT jK) dbM))))),(false,(.box (dT y61)))],⟨[(.tmp 4,Z4)],[(0,(true,(pA (pA (oW y0) (pA (.owns (pA (dT .str) (pA (dT y2) (pA (dT y2) (oW y4))))) (.owns (pA (dT .str) (pA J6 (pA (oW y10) (pA (oW y10) (oW y19)))))))) (pA J6 (pA (dT jK) dbM))))),(1,tD y61)]⟩,⟨55,eqs,tt,gl,[(219,LJ)],[(23,(pA (dT .str) (pA (dT y2) (pA (dT y2) (oW y4))))),(24,(pA (dT .str) (pA J6 (pA (oW y10) (pA (oW y10) (oW y19))))))],[38,48],[],[0,1],[],[]⟩,sN 2 (iC (jnR [(4,5),(15,24)] sgN O7) (sN 1 (iC (pq (lpR [(1,2),(4,5),(7,10),(26,43),(1000004,1000005),(20000448,20000449)] ⟨[(1,(false,(.box (dT y61)))),(7,(false,(.box (pA (dT .str) (oW .str)))))],[]⟩ 0 ⟨[(1,(false,(.box (dT y61)))),(7,(false,(.box (pA (dT .str) (oW .str)))))],[]⟩ O7)) O7)))⟩
def c2S:FSpec:=dX c0P λx=>kT x.1 x.2
def gI(A:(List U2×Unit×Unit)×Unit×(Unit×Unit×Unit×Unit×Unit)×Unit)(B:G5):Option (L9×Int×G5):=o5 (H5 B) λx=>l7 (I5 x.2.1) (some ((0,0),2,x.2.2)) (l7 (seq x.1 [98,111,111,108]) (some ((1,0),0,x.2.2)) (l7 (seq x.1 [105,110,116]) (some ((2,0),0,x.2.2)) (l7 (seq x.1 [109,111,110,101,121]) (some ((3,0),0,x.2.2)) (l7 (seq x.1 [114,97,116,101]) (some ((4,0),0,x.2.2)) (l7 (seq x.1 [100,97,116,101]) (some ((5,0),0,x.2.2)) (o5 (X5 (λ(b:L9×Int)=>l7 (J4 b.2 (x9 A.1.1)) (o5 (P8 A.1.1 b.2) λc=>l7 (seq c.1 x.1) (some (.rt ((6,b.2),0,x.2.2))) (some (.nx (b.1,I8 .i64 b.2 1)))) (some (.ex b.1))) ((0,0),0)) λo=>dU o (λ(y:L9)=>some ((0,0),6,x.2.2)) λr=>some r))))))
def c1b:FQ:=⟨[(false,(.lp y84)),(false,(.box (dT y61)))],⟨[(.cell 4 39,tD y2),(.tmp 5,Z4)],[(1,tD y61)]⟩,⟨53,eqs,tt,gl,[(219,LJ)],[],[],[],[1],[],[]⟩,sN 4 (iC (sN 1 (pq (lpR [(4,6),(8,10),(40,52),(4000256,4000257)] ⟨[(4,(false,(.box (dT y2)))),(40,Z4)],[]⟩ 1 ⟨[(4,(false,(.box (dT y2))))],[]⟩ O7))) O7)⟩
def b3O:FSpec:=dX c1b λx=>gI x.1 x.2
def iq(A:G5):Option (Int×G5):=l7 A.2 (some (2,A)) (some (0,A))
def c1c:FQ:=⟨[(false,(.box (dT y61)))],⟨[(.tmp 2,Z4)],[(0,tD y61)]⟩,⟨7,eqs,tt,gl,[],[],[],[],[0],[],[]⟩,O7⟩
def a3S:FSpec:=dX c1c λx=>iq x
def kz(A:I7)(B:G5):Option (Int×I7×G5):=o5 (H5 B) λx=>l7 (I5 x.2.1) (some (2,A,x.2.2)) (o5 (gI ((A.1.1,(),()),(),((),(),(),(),()),()) x.2.2) λb=>l7 (I5 (D8 b.2.1 0)) (some (b.2.1,A,b.2.2)) (o5 (gI ((A.1.1,(),()),(),((),(),(),(),()),()) b.2.2) λc=>l7 (I5 (D8 c.2.1 0)) (some (c.2.1,A,c.2.2)) (o5 (iy A.1.2.1 [(x.1,b.1,c.1,[])]) λx=>o5 (iq c.2.2) λd=>some (d.1,((A.1.1,x,A.1.2.2),A.2),d.2))))
def c0Q:FQ:=⟨[(false,(.box (pA (pA (oW y0) (pA (.owns (pA (dT .str) (pA (dT y2) (pA (dT y2) (oW y4))))) (.owns (pA (dT .str) (pA J6 (pA (oW y10) (pA (oW y10) (oW y19)))))))) (pA J6 (pA (dT jK) dbM))))),(false,(.box (dT y61)))],⟨[(.tmp 4,Z4)],[(0,(true,(pA (pA (oW y0) (pA (.owns (pA (dT .str) (pA (dT y2) (pA (dT y2) (oW y4))))) (.owns (pA (dT .str) (pA J6 (pA (oW y10) (pA (oW y10) (oW y19)))))))) (pA J6 (pA (dT jK) dbM))))),(1,tD y61)]⟩,⟨52,eqs,tt,gl,[(219,LJ),(298,b3O),(299,a3S)],[(23,(pA (dT .str) (pA (dT y2) (pA (dT y2) (oW y4))))),(24,(pA (dT .str) (pA J6 (pA (oW y10) (pA (oW y10) (oW y19))))))],[40],[],[0,1],[],[]⟩,O7⟩
def c2T:FSpec:=dX c0Q λx=>kz x.1 x.2
def yR(A:c5v):Option (Int×Bool):=o5 (X5 (λ(x:Int×c5v×Int)=>l7 (J4 x.2.2 (x9 x.2.1)) (l7 (J4 (sJ x.2.1 x.2.2) 48) (some (.rt (0,false))) (l7 (J4 57 (sJ x.2.1 x.2.2)) (some (.rt (0,false))) (some (.nx (I8 .i64 (Qw .i64 x.1 10) (wrap .i64 (L6 .i32 (sJ x.2.1 x.2.2) 48)),x.2.1,ui x.2.1 x.2.2))))) (some (.ex x.1))) (0,A,0)) λo=>dU o (λy=>some (y,true)) λr=>some r
def c0H:FQ:=⟨[uD .str],⟨[(.tmp 2,Z4),(.tmp 3,iQ)],[]⟩,mE 25 [],sN 2 (iC (sN 1 (pq (lpR [(2,5),(6,7),(8,24),(11000512,11000513)] ⟨[(4,Z4),(8,(false,.sit))],[]⟩ 0 ⟨[(4,Z4)],[]⟩ O7))) O7)⟩
def c2J:FSpec:=dX c0H λx=>yR x
def Eu(A:Int):c5z:=l7 (D8 (iE A 4) 0) (l7 (I5 (D8 (iE A 100) 0)) (some true) (some (D8 (iE A 400) 0))) (some false)
def c0B:FQ:=⟨[Z4],tR 2 iQ,mE 16 [],O7⟩
def c2C:FSpec:=dX c0B λx=>Eu x
def kP(A:Int)(B:Int):c5A:=l7 (J4 B 1) (some 0) (l7 (J4 12 B) (some 0) (l7 (D8 B 2) (o5 (Eu A) λx=>l7 x (some 29) (o5 (P8 [31,28,31,30,31,30,31,31,30,31,30,31] (L6 .i64 B 1)) λx=>some x)) (o5 (P8 [31,28,31,30,31,30,31,31,30,31,30,31] (L6 .i64 B 1)) λx=>some x)))
def q94:FQ:=⟨[Z4,Z4],tR 4 Z4,mE 21 [(154,c2C)],O7⟩
def s94:FSpec:=dX q94 λx=>kP x.1 x.2
def wM(A:Int):c5A:=some (I8 .i64 (L6 .i64 (dh .i64 A 4) (dh .i64 A 100)) (dh .i64 A 400))
def c0A:FQ:=⟨[Z4],tR 2 Z4,mE 11 [],O7⟩
def c2B:FSpec:=dX c0A λx=>wM x
def qy(A:Int):c5A:=o5 (wM (L6 .i64 A 1)) λx=>o5 (wM 1899) λb=>some (L6 .i64 (I8 .i64 (Qw .i64 (L6 .i64 A 1900) 365) x) b)
def q93:FQ:=⟨[Z4],tR 2 Z4,mE 12 [(153,c2B)],O7⟩
def s93:FSpec:=dX q93 λx=>qy x
def zx(A:Int)(B:Int)(C:Int):Option L9:=o5 (l7 (J4 A 1900) (some (.inr (0,3))) (l7 (J4 2199 A) (some (.inr (0,3))) (l7 (J4 B 1) (some (.inr (0,3))) (l7 (J4 12 B) (some (.inr (0,3))) (l7 (J4 C 1) (some (.inr (0,3))) (o5 (kP A B) λx=>l7 (J4 x C) (some (.inr (0,3))) (some (.inl ())))))))) λo=>dU o (λx=>o5 (qy A) λx=>o5 (fF (λ(x:L9)=>l7 (J4 x.2 (L6 .i64 B 1)) (o5 (kP A (I8 .i64 x.2 1)) λb=>some (.inl (I8 .i64 x.1 b,I8 .i64 x.2 1))) (some (.inr x.1))) (x,0)) λy=>some (L6 .i64 (I8 .i64 y C) 1,0)) λr=>some r
def c0I:FQ:=⟨[Z4,Z4,Z4],⟨[(.tmp 6,Z4),(.tmp 7,Z4)],[]⟩,mE 53 [(94,s94),(93,s93)],sN 1 (iC (jnR [(6,8),(10,35)] sgN O7) (sN 1 (iC (sN 1 (pq (.loop [(8,10),(39,49)] ⟨[(8,Z4),(39,Z4)],[]⟩ 0 ⟨[(8,Z4)],[]⟩ O7))) O7)))⟩
def c2K:FSpec:=dX c0I λx=>zx x.1 x.2.1 x.2.2
def yE(A:c5v):Option L9:=o5 (l7 (I5 (D8 (x9 A) 10)) (some (.inr (0,2))) (o5 (sat A 4) λx=>l7 (I5 (D8 x 45)) (some (.inr (0,2))) (o5 (sat A 7) λx=>l7 (I5 (D8 x 45)) (some (.inr (0,2))) (some (.inl ()))))) λo=>dU o (λx=>o5 (dM A 0 4) λx=>o5 (yR x) λx=>o5 (dM A 5 7) λd=>o5 (yR d) λb=>o5 (dM A 8 (x9 A)) λf=>o5 (yR f) λc=>l7 (I5 x.2) (some (0,2)) (l7 (I5 b.2) (some (0,2)) (l7 (I5 c.2) (some (0,2)) (o5 (zx x.1 b.1 c.1) λx=>some x)))) λr=>some r
def c0o:FQ:=⟨[uD .str],⟨[(.tmp 2,Z4),(.tmp 3,Z4)],[]⟩,mE 57 [(177,c2J),(178,c2K)],sN 1 (iC (jnR [(2,4),(10,23)] sgN O7) O7)⟩
def b3L:FSpec:=dX c0o λx=>yE x
def bF(A:G5)(B:Bool):Option (Int×Int×G5):=o5 (H5 A) λx=>l7 (I5 x.2.1) (some (0,2,x.2.2)) (l7 B (l7 (seq x.1 [101,110,100]) (some (109573,0,x.2.2)) (o5 (yE x.1) λb=>some (b.1,b.2,x.2.2))) (o5 (yE x.1) λb=>some (b.1,b.2,x.2.2)))
def c1d:FQ:=⟨[(false,(.box (dT y61))),iQ],⟨[(.tmp 4,Z4),(.tmp 5,Z4)],[(0,tD y61)]⟩,⟨24,eqs,tt,gl,[(219,LJ),(125,b3L)],[],[],[],[0],[],[]⟩,O7⟩
def b7i:FSpec:=dX c1d λx=>bF x.1 x.2
def oq(A:c5v)(B:c5v):Option G5:=o5 (iD A B) λx=>l7 (I5 x) (some (A,false)) (o5 (dM A (x9 B) (x9 A)) λx=>some (x,true))
def c0G:FQ:=⟨[uD .str,(uD .str)],⟨[(.tmp 4,(uD .str)),(.tmp 5,iQ)],[]⟩,mE 15 [(37,s37)],O7⟩
def c2I:FSpec:=dX c0G λx=>oq x.1 x.2
def oI(A:c5v)(B:c5v):Option G5:=o5 (oq A B) λx=>some x
def c0n:FQ:=⟨[uD .str,(uD .str)],⟨[(.tmp 4,(uD .str)),(.tmp 5,iQ)],[]⟩,mE 11 [(176,c2I)],O7⟩
def c2s:FSpec:=dX c0n λx=>oI x.1 x.2
def vz(A:Int):c5z:=l7 (U7 48 A) (some (U7 A 57)) (some false)
def c1M:FQ:=⟨[(false,(dT (.int .i32)))],tR 2 iQ,mE 9 [],O7⟩
def c3A:FSpec:=dX c1M λx=>vz x
def kD(A:c5v)(B:Int):Option L9:=o5 (oI A [45]) λx=>o5 (l7 (J4 0 B) (some (L6 .i64 (x9 x.1) (I8 .i64 B 1))) (some (x9 x.1))) λb=>o5 (l7 (J4 b 1) (some (.inr (0,2))) (l7 (J4 1 b) (o5 (sat x.1 0) λx=>l7 (D8 x 48) (some (.inr (0,2))) (some (.inl ()))) (some (.inl ())))) λo=>dU o (λd=>o5 (X5 (λ(x:Int×Bool×c5v×Int)=>l7 (J4 x.2.2.2 (x9 x.2.2.1)) (l7 (D8 x.2.2.2 b) (l7 (I5 (D8 (sJ x.2.2.1 x.2.2.2) 46)) (some (.rt (0,2))) (some (.nx (x.1,x.2.1,x.2.2.1,ui x.2.2.1 x.2.2.2)))) (o5 (vz (sJ x.2.2.1 x.2.2.2)) λc=>l7 (I5 c) (some (.rt (0,2))) (l7 x.2.1 (some (.nx (x.1,true,x.2.2.1,ui x.2.2.1 x.2.2.2))) (l7 (J4 461168601842738790 x.1) (some (.nx (x.1,true,x.2.2.1,ui x.2.2.1 x.2.2.2))) (some (.nx (I8 .i64 (Qw .i64 x.1 10) (wrap .i64 (L6 .i32 (sJ x.2.2.1 x.2.2.2) 48)),J4 4611686018427387904 (I8 .i64 (Qw .i64 x.1 10) (wrap .i64 (L6 .i32 (sJ x.2.2.1 x.2.2.2) 48))),x.2.2.1,ui x.2.2.1 x.2.2.2))))))) (some (.ex (x.1,x.2.1)))) (0,false,x.1,0)) λo=>dU o (λ(y:Int×Bool)=>l7 x.2 (l7 (D8 y.1 0) (l7 (I5 y.2) (some (0,2)) (l7 y.2 (some (0,3)) (l7 x.2 (some (L6 .i64 0 y.1,0)) (some (y.1,0))))) (l7 y.2 (some (0,3)) (l7 x.2 (some (L6 .i64 0 y.1,0)) (some (y.1,0))))) (l7 y.2 (some (0,3)) (l7 x.2 (some (L6 .i64 0 y.1,0)) (some (y.1,0))))) λr=>some r) λr=>some r
def c1B:FQ:=⟨[uD .str,Z4],⟨[(.tmp 4,Z4),(.tmp 5,Z4)],[]⟩,mE 78 [(124,c2s),(449,c3A)],sN 3 (iC (.join [(8,9),(20,26)] ⟨[(8,Z4)],[]⟩ O7) (iC (jnR [(4,6),(26,37)] sgN O7) (sN 1 (iC (sN 1 (pq (lpR [(4,6),(9,13),(38,64),(35002432,35002433)] ⟨[(9,Z4),(10,iQ),(38,(false,.sit))],[]⟩ 0 ⟨[(9,Z4),(10,iQ)],[]⟩ O7))) O7))))⟩
def b7o:FSpec:=dX c1B λx=>kD x.1 x.2
def nC(A:c5v):Option L9:=o5 (kD A 0) λx=>some x
def c1j:FQ:=⟨[uD .str],⟨[(.tmp 2,Z4),(.tmp 3,Z4)],[]⟩,mE 8 [(406,b7o)],O7⟩
def b3P:FSpec:=dX c1j λx=>nC x
def iJ(A:Int):c5A:=some (Fh 0 (IR A 9))
def c0z:FQ:=⟨[Z4],tR 2 Z4,mE 6 [],O7⟩
def b7f:FSpec:=dX c0z λx=>iJ x
def dP(A:c5v)(B:Int):Option L9:=o5 (iJ B) λx=>o5 (kD A x) λx=>some x
def c1k:FQ:=⟨[uD .str,Z4],⟨[(.tmp 4,Z4),(.tmp 5,Z4)],[]⟩,mE 12 [(152,b7f),(406,b7o)],O7⟩
def b7l:FSpec:=dX c1k λx=>dP x.1 x.2
def tC(A:c5v)(B:c5v):c5z:=l7 (U7 (x9 B) (x9 A)) (o5 (dM A (L6 .i64 (x9 A) (x9 B)) (x9 A)) λx=>some (seq x B)) (some false)
def c1N:FQ:=⟨[uD .str,(uD .str)],tR 4 iQ,mE 21 [],O7⟩
def c3B:FSpec:=dX c1N λx=>tC x.1 x.2
def tu(A:c5v)(B:c5v):Option G5:=o5 (tC A B) λx=>l7 (I5 x) (some (A,false)) (o5 (dM A 0 (L6 .i64 (x9 A) (x9 B))) λx=>some (x,true))
def c1C:FQ:=⟨[uD .str,(uD .str)],⟨[(.tmp 4,(uD .str)),(.tmp 5,iQ)],[]⟩,mE 18 [(450,c3B)],O7⟩
def c3w:FSpec:=dX c1C λx=>tu x.1 x.2
def wI(A:c5v)(B:c5v):Option G5:=o5 (tu A B) λx=>some x
def c1l:FQ:=⟨[uD .str,(uD .str)],⟨[(.tmp 4,(uD .str)),(.tmp 5,iQ)],[]⟩,mE 11 [(407,c3w)],O7⟩
def c3h:FSpec:=dX c1l λx=>wI x.1 x.2
def iR(A:c5v)(B:L9)(C:List U2):Option L9:=l7 (D8 B.1 1) (l7 (seq A [102,97,108,115,101]) (some (0,0)) (l7 (seq A [116,114,117,101]) (some (1,0)) (some (0,2)))) (l7 (D8 B.1 2) (o5 (nC A) λx=>some x) (l7 (D8 B.1 3) (o5 (dP A 2) λx=>some x) (l7 (D8 B.1 4) (o5 (wI A [37]) λx=>l7 (I5 x.2) (some (0,2)) (o5 (dP x.1 4) λx=>some x)) (l7 (D8 B.1 5) (o5 (yE A) λx=>some x) (o5 (P8 C B.2) λx=>o5 (X5 (λ(b:Int)=>l7 (J4 b (x9 x.2)) (o5 (P8 x.2 b) λx=>l7 (seq x A) (some (.rt (b,0))) (some (.nx (I8 .i64 b 1)))) (some (.ex ()))) 0) λo=>dU o (λy=>some (0,6)) λr=>some r)))))
def c0X:FQ:=⟨[uD .str,tD y2,uD y1],⟨[(.tmp 6,Z4),(.tmp 7,Z4)],[]⟩,mE 69 [(334,b3P),(335,b7l),(336,c3h),(125,b3L)],sN 2 (iC (sN 1 (pq (lpR [(6,8),(10,12),(59,69)] ⟨[(59,Z4)],[]⟩ 2 sgN O7))) O7)⟩
def c3b:FSpec:=dX c0X λx=>iR x.1 x.2.1 x.2.2
def iw(A:Int)(B:L9)(C:List U2):c5z:=o5 (jC B C) λx=>l7 (U7 x.1 A) (some (U7 A x.2)) (some false)
def q91:FQ:=⟨[Z4,tD y2,uD y1],tR 6 iQ,mE 23 [(29,s29)],O7⟩
def s91:FSpec:=dX q91 λx=>iw x.1 x.2.1 x.2.2
def BU(A:c5v)(B:L9)(C:List U2):Option (GH×Int):=o5 (bg B C) λx=>l7 (I5 x) (some ((0,0,0),8)) (o5 (iR A B C) λx=>l7 (I5 (D8 x.2 0)) (some ((0,0,0),x.2)) (o5 (iw x.1 B C) λb=>l7 (I5 b) (some ((0,0,0),3)) (some ((B.1,B.2,x.1),0))))
def c0J:FQ:=⟨[uD .str,tD y2,uD y1],⟨[(.cell 6 113,tD y3),(.tmp 7,Z4)],[]⟩,mE 38 [(48,s48),(251,c3b),(91,s91)],O7⟩
def c2M:FSpec:=dX c0J λx=>BU x.1 x.2.1 x.2.2
def dB(A:(List U2×Unit×Unit)×Unit×(Unit×Unit×Unit×Unit×Unit)×Unit)(B:G5)(C:L9)(D:Bool):Option (Int×Int×G5):=o5 (H5 B) λx=>l7 (I5 x.2.1) (some (0,2,x.2.2)) (l7 D (l7 (seq x.1 [101,110,100]) (o5 (jC C A.1.1) λb=>some (I8 .i64 b.2 1,0,x.2.2)) (o5 (BU x.1 C A.1.1) λb=>some (b.1.2.2,b.2,x.2.2))) (o5 (BU x.1 C A.1.1) λb=>some (b.1.2.2,b.2,x.2.2)))
def c1e:FQ:=⟨[(false,(.lp y84)),(false,(.box (dT y61))),tD y2,iQ],⟨[(.tmp 8,Z4),(.tmp 9,Z4)],[(1,tD y61)]⟩,⟨54,eqs,tt,gl,[(219,LJ),(29,s29),(180,c2M)],[],[],[],[1],[],[]⟩,O7⟩
def c3e:FSpec:=dX c1e λx=>dB x.1 x.2.1 x.2.2.1 x.2.2.2
def lK(A:I7)(B:G5):Option (Int×I7×G5):=l7 (inb (L6 .i64 (x9 A.1.2.1) 1) (x9 A.1.2.1)) (o5 (bF B false) λx=>l7 (I5 (D8 x.2.1 0)) (some (x.2.1,A,x.2.2)) (o5 (bF x.2.2 true) λb=>l7 (I5 (D8 b.2.1 0)) (some (b.2.1,A,b.2.2)) (o5 (jg A.1.2.1 (dV (L6 .i64 (x9 A.1.2.1) 1))) λj=>o5 (dB ((A.1.1,(),()),(),((),(),(),(),()),()) b.2.2 j.2.1 false) λc=>l7 (I5 (D8 c.2.1 0)) (some (c.2.1,A,c.2.2)) (o5 (jg A.1.2.1 (dV (L6 .i64 (x9 A.1.2.1) 1))) λk=>o5 (dB ((A.1.1,(),()),(),((),(),(),(),()),()) c.2.2 k.2.1 true) λd=>l7 (I5 (D8 d.2.1 0)) (some (d.2.1,A,d.2.2)) (o5 (jg A.1.2.1 (dV (L6 .i64 (x9 A.1.2.1) 1))) λn=>o5 (dB ((A.1.1,(),()),(),((),(),(),(),()),()) d.2.2 n.2.2.1 false) λf=>l7 (I5 (D8 f.2.1 0)) (some (f.2.1,A,f.2.2)) (o5 (jg A.1.2.1 (dV (L6 .i64 (x9 A.1.2.1) 1))) λp=>o5 (iy p.2.2.2 [((x.1,b.1),c.1,d.1,f.1)]) λx=>l7 (Ht (dV (L6 .i64 (x9 A.1.2.1) 1)) (dV (L6 .i64 (x9 A.1.2.1) 1))) (o5 (jg A.1.2.1 (dV (L6 .i64 (x9 A.1.2.1) 1))) λg=>o5 (iq f.2.2) λi=>some (i.1,((A.1.1,mQ A.1.2.1 (dV (L6 .i64 (x9 A.1.2.1) 1)) (g.1,g.2.1,g.2.2.1,x),A.1.2.2),A.2),i.2)) none)))))) none
def c0R:FQ:=⟨[(false,(.box (pA (pA (oW y0) (pA (.owns (pA (dT .str) (pA (dT y2) (pA (dT y2) (oW y4))))) (.owns (pA (dT .str) (pA J6 (pA (oW y10) (pA (oW y10) (oW y19)))))))) (pA J6 (pA (dT jK) dbM))))),(false,(.box (dT y61)))],⟨[(.tmp 4,Z4)],[(0,(true,(pA (pA (oW y0) (pA (.owns (pA (dT .str) (pA (dT y2) (pA (dT y2) (oW y4))))) (.owns (pA (dT .str) (pA J6 (pA (oW y10) (pA (oW y10) (oW y19)))))))) (pA J6 (pA (dT jK) dbM))))),(1,tD y61)]⟩,⟨96,eqs,tt,gl,[(300,b7i),(301,c3e),(299,a3S)],[(23,(pA (dT .str) (pA (dT y2) (pA (dT y2) (oW y4))))),(24,(pA (dT .str) (pA J6 (pA (oW y10) (pA (oW y10) (oW y19))))))],[88],[],[0,1],[],[]⟩,O7⟩
def c2V:FSpec:=dX c0R λx=>lK x.1 x.2
def kw(A:I7)(B:G5):Option (Int×I7×G5):=o5 (H5 B) λx=>l7 (I5 x.2.1) (some (2,A,x.2.2)) (o5 (iy A.1.2.2 [(x.1,-1,[],[],[])]) λb=>o5 (iq x.2.2) λx=>some (x.1,((A.1.1,A.1.2.1,b),A.2.1,([],[],[],[],[]),false),x.2))
def c0S:FQ:=⟨[(false,(.box (pA (pA (oW y0) (pA (.owns (pA (dT .str) (pA (dT y2) (pA (dT y2) (oW y4))))) (.owns (pA (dT .str) (pA J6 (pA (oW y10) (pA (oW y10) (oW y19)))))))) (pA J6 (pA (dT jK) dbM))))),(false,(.box (dT y61)))],⟨[(.tmp 4,Z4)],[(0,(true,(pA (pA (oW y0) (pA (.owns (pA (dT .str) (pA (dT y2) (pA (dT y2) (oW y4))))) (.owns (pA (dT .str) (pA J6 (pA (oW y10) (pA (oW y10) (oW y19)))))))) (pA J6 (pA (dT jK) dbM))))),(1,tD y61)]⟩,⟨36,eqs,tt,gl,[(219,LJ),(299,a3S)],[(23,(pA (dT .str) (pA (dT y2) (pA (dT y2) (oW y4))))),(24,(pA (dT .str) (pA J6 (pA (oW y10) (pA (oW y10) (oW y19))))))],[19],[],[0,1],[],[]⟩,O7⟩
def c2W:FSpec:=dX c0S λx=>kw x.1 x.2
def jf(A:I7)(B:G5):Option (Int×I7×G5):=o5 (H5 B) λx=>l7 (I5 x.2.1) (some (2,A,x.2.2)) (l7 (inb (L6 .i64 (x9 A.1.2.2) 1) (x9 A.1.2.2)) (o5 (X5 (λ(b:Int)=>l7 (J4 b (L6 .i64 (x9 A.1.2.2) 1)) (l7 (inb b (x9 A.1.2.2)) (o5 (jg A.1.2.2 (dV b)) λd=>l7 (seq d.1 x.1) (o5 (jg A.1.2.2 (dV (L6 .i64 (x9 A.1.2.2) 1))) λc=>o5 (iq x.2.2) λx=>some (.rt (x.1,((A.1.1,A.1.2.1,mQ A.1.2.2 (dV (L6 .i64 (x9 A.1.2.2) 1)) (c.1,b,c.2.2)),A.2),x.2))) (some (.nx (I8 .i64 b 1)))) none) (some (.ex ()))) 0) λo=>dU o (λy=>some (6,A,x.2.2)) λr=>some r) none)
def c0T:FQ:=⟨[(false,(.box (pA (pA (oW y0) (pA (.owns (pA (dT .str) (pA (dT y2) (pA (dT y2) (oW y4))))) (.owns (pA (dT .str) (pA J6 (pA (oW y10) (pA (oW y10) (oW y19)))))))) (pA J6 (pA (dT jK) dbM))))),(false,(.box (dT y61)))],⟨[(.tmp 4,Z4)],[(0,(true,(pA (pA (oW y0) (pA (.owns (pA (dT .str) (pA (dT y2) (pA (dT y2) (oW y4))))) (.owns (pA (dT .str) (pA J6 (pA (oW y10) (pA (oW y10) (oW y19)))))))) (pA J6 (pA (dT jK) dbM))))),(1,tD y61)]⟩,⟨46,eqs,tt,gl,[(219,LJ),(299,a3S)],[(23,(pA (dT .str) (pA (dT y2) (pA (dT y2) (oW y4))))),(24,(pA (dT .str) (pA J6 (pA (oW y10) (pA (oW y10) (oW y19))))))],[],[],[0,1],[],[(225,2,5)]⟩,sN 4 (iC (sN 1 (pq (lpR [(4,5),(8,9),(25,46)] ⟨[(25,Z4)],[]⟩ 0 sgN O7))) O7)⟩
def c2X:FSpec:=dX c0T λx=>jf x.1 x.2
def jZ(A:I7)(B:G5)(C:Unit):Option (Int×I7×G5):=l7 (inb (L6 .i64 (x9 A.1.2.2) 1) (x9 A.1.2.2)) (o5 (H5 B) λx=>l7 (I5 x.2.1) (some (2,A,x.2.2)) (o5 (gI ((A.1.1,(),()),(),((),(),(),(),()),()) x.2.2) λb=>l7 (I5 (D8 b.2.1 0)) (some (b.2.1,A,b.2.2)) (o5 (jg A.1.2.2 (dV (L6 .i64 (x9 A.1.2.2) 1))) λf=>o5 (iy f.2.2.1 [(x.1,b.1)]) λx=>l7 (Ht (dV (L6 .i64 (x9 A.1.2.2) 1)) (dV (L6 .i64 (x9 A.1.2.2) 1))) (o5 (jg A.1.2.2 (dV (L6 .i64 (x9 A.1.2.2) 1))) λc=>o5 (iq b.2.2) λd=>some (d.1,((A.1.1,A.1.2.1,mQ A.1.2.2 (dV (L6 .i64 (x9 A.1.2.2) 1)) (c.1,c.2.1,x,c.2.2.2)),A.2),d.2)) none))) none
def b0b:FQ:=⟨[(false,(.box (pA (pA (oW y0) (pA (.owns (pA (dT .str) (pA (dT y2) (pA (dT y2) (oW y4))))) (.owns (pA (dT .str) (pA J6 (pA (oW y10) (pA (oW y10) (oW y19)))))))) (pA J6 (pA (dT jK) dbM))))),(false,(.box (dT y61))),(false,(.dv 0 2 5 2))],⟨[(.tmp 6,Z4)],[(0,(true,(pA (pA (oW y0) (pA (.owns (pA (dT .str) (pA (dT y2) (pA (dT y2) (oW y4))))) (.owns (pA (dT .str) (pA J6 (pA (oW y10) (pA (oW y10) (oW y19)))))))) (pA J6 (pA (dT jK) dbM))))),(1,tD y61)]⟩,⟨39,eqs,tt,gl,[(219,LJ),(298,b3O),(299,a3S)],[(23,(pA (dT .str) (pA (dT y2) (pA (dT y2) (oW y4))))),(24,(pA (dT .str) (pA J6 (pA (oW y10) (pA (oW y10) (oW y19))))))],[30],[],[0,1],[],[]⟩,O7⟩
def b0K:FSpec:=dX b0b λx=>jZ x.1 x.2.1 x.2.2
def iP(A:I7)(B:G5)(C:Unit):Option (Int×I7×G5):=l7 (inb (L6 .i64 (x9 A.1.2.2) 1) (x9 A.1.2.2)) (o5 (H5 B) λx=>l7 (I5 x.2.1) (some (2,A,x.2.2)) (o5 (gI ((A.1.1,(),()),(),((),(),(),(),()),()) x.2.2) λb=>l7 (I5 (D8 b.2.1 0)) (some (b.2.1,A,b.2.2)) (o5 (jg A.1.2.2 (dV (L6 .i64 (x9 A.1.2.2) 1))) λf=>o5 (iy f.2.2.2.1 [(x.1,b.1)]) λx=>l7 (Ht (dV (L6 .i64 (x9 A.1.2.2) 1)) (dV (L6 .i64 (x9 A.1.2.2) 1))) (o5 (jg A.1.2.2 (dV (L6 .i64 (x9 A.1.2.2) 1))) λc=>o5 (iq b.2.2) λd=>some (d.1,((A.1.1,A.1.2.1,mQ A.1.2.2 (dV (L6 .i64 (x9 A.1.2.2) 1)) (c.1,c.2.1,c.2.2.1,x,c.2.2.2.2)),A.2),d.2)) none))) none
def b0c:FQ:=⟨[(false,(.box (pA (pA (oW y0) (pA (.owns (pA (dT .str) (pA (dT y2) (pA (dT y2) (oW y4))))) (.owns (pA (dT .str) (pA J6 (pA (oW y10) (pA (oW y10) (oW y19)))))))) (pA J6 (pA (dT jK) dbM))))),(false,(.box (dT y61))),(false,(.dv 0 2 5 3))],⟨[(.tmp 6,Z4)],[(0,(true,(pA (pA (oW y0) (pA (.owns (pA (dT .str) (pA (dT y2) (pA (dT y2) (oW y4))))) (.owns (pA (dT .str) (pA J6 (pA (oW y10) (pA (oW y10) (oW y19)))))))) (pA J6 (pA (dT jK) dbM))))),(1,tD y61)]⟩,⟨39,eqs,tt,gl,[(219,LJ),(298,b3O),(299,a3S)],[(23,(pA (dT .str) (pA (dT y2) (pA (dT y2) (oW y4))))),(24,(pA (dT .str) (pA J6 (pA (oW y10) (pA (oW y10) (oW y19))))))],[30],[],[0,1],[],[]⟩,O7⟩
def b0L:FSpec:=dX b0c λx=>iP x.1 x.2.1 x.2.2
def jX(A:G5)(B:c5v):Option (Int×G5):=o5 (H5 A) λx=>l7 (I5 x.2.1) (some (2,x.2.2)) (l7 (I5 (seq x.1 B)) (some (2,x.2.2)) (some (0,x.2.2)))
def c1u:FQ:=⟨[(false,(.box (dT y61))),(uD .str)],⟨[(.tmp 4,Z4)],[(0,tD y61)]⟩,⟨19,eqs,tt,gl,[(219,LJ)],[],[],[],[0],[],[]⟩,O7⟩
def c3p:FSpec:=dX c1u λx=>jX x.1 x.2
def pI(A:(Unit×Unit×List H6)×Unit×(Unit×Unit×Unit×Unit×Unit)×Unit)(B:G5):Option (Int×Int×G5):=o5 (H5 B) λx=>l7 (I5 x.2.1) (some (0,2,x.2.2)) (o5 (P8 A.1.2.2 (L6 .i64 (x9 A.1.2.2) 1)) λc=>o5 (X5 (λ(b:Int)=>l7 (J4 b (x9 c.2.2.2.1)) (o5 (P8 c.2.2.2.1 b) λd=>l7 (seq d.1 x.1) (some (.rt (b,0,x.2.2))) (some (.nx (I8 .i64 b 1)))) (some (.ex ()))) 0) λo=>dU o (λy=>some (0,6,x.2.2)) λr=>some r)
def c1w:FQ:=⟨[(false,(.lp y87)),(false,(.box (dT y61)))],⟨[(.tmp 4,Z4),(.tmp 5,Z4)],[(1,tD y61)]⟩,⟨34,eqs,tt,gl,[(219,LJ)],[],[],[],[1],[],[(225,2,5)]⟩,sN 3 (iC (sN 1 (pq (lpR [(4,6),(8,10),(23,34)] ⟨[(23,Z4)],[]⟩ 0 sgN O7))) O7)⟩
def c3q:FSpec:=dX c1w λx=>pI x.1 x.2
def mG(A:(Unit×Unit×List H6)×Unit×(Unit×Unit×Unit×Unit×Unit)×Unit)(B:G5):Option (Int×Int×G5):=o5 (H5 B) λx=>l7 (I5 x.2.1) (some (0,2,x.2.2)) (o5 (P8 A.1.2.2 (L6 .i64 (x9 A.1.2.2) 1)) λc=>o5 (X5 (λ(b:Int)=>l7 (J4 b (x9 c.2.2.2.2)) (o5 (P8 c.2.2.2.2 b) λd=>l7 (seq d.1 x.1) (some (.rt (b,0,x.2.2))) (some (.nx (I8 .i64 b 1)))) (some (.ex ()))) 0) λo=>dU o (λy=>some (0,6,x.2.2)) λr=>some r)
def c1x:FQ:=⟨[(false,(.lp y87)),(false,(.box (dT y61)))],⟨[(.tmp 4,Z4),(.tmp 5,Z4)],[(1,tD y61)]⟩,⟨34,eqs,tt,gl,[(219,LJ)],[],[],[],[1],[],[(225,2,5)]⟩,sN 3 (iC (sN 1 (pq (lpR [(4,6),(8,10),(23,34)] ⟨[(23,Z4)],[]⟩ 0 sgN O7))) O7)⟩
def c3r:FSpec:=dX c1x λx=>mG x.1 x.2
def rJ(A:G5):Option (Int×Int×G5):=o5 (H5 A) λx=>l7 (I5 x.2.1) (some (0,2,x.2.2)) (o5 (nC x.1) λb=>l7 (I5 (D8 b.2 0)) (some (0,b.2,x.2.2)) (l7 (U7 b.1 0) (some (0,2,x.2.2)) (some (b.1,0,x.2.2))))
def c1y:FQ:=⟨[(false,(.box (dT y61)))],⟨[(.tmp 2,Z4),(.tmp 3,Z4)],[(0,tD y61)]⟩,⟨26,eqs,tt,gl,[(219,LJ),(334,b3P)],[],[],[],[0],[],[]⟩,O7⟩
def c3s:FSpec:=dX c1y λx=>rJ x
def kY(A:(Unit×Unit×List H6)×Unit×(Unit×Unit×Unit×Unit×Unit)×Unit)(B:G5)(C:U3):Option (c5v×Int×G5×U3):=o5 (H5 B) λx=>l7 (I5 x.2.1) (some ([],2,x.2.2,x.1,C.2)) (o5 (jX x.2.2 [111,102]) λj=>l7 (I5 (D8 j.1 0)) (some ([],j.1,j.2,x.1,C.2)) (o5 (pI A j.2) λf=>l7 (I5 (D8 f.2.1 0)) (some ([],f.2.1,f.2.2,x.1,f.1,C.2.2)) (o5 (H5 f.2.2) λk=>o5 (l7 (seq k.1 [111,118,101,114]) (o5 (mG A k.2.2) λb=>l7 (I5 (D8 b.2.1 0)) (some (.inr ([],b.2.1,b.2.2,x.1,f.1,b.1,C.2.2.2))) (o5 (H5 b.2.2) λd=>some (.inl (d.2.2,(x.1,f.1,b.1,C.2.2.2),d.1)))) (some (.inl (k.2.2,(x.1,f.1,C.2.2),k.1)))) λo=>dU o (λ(x:G5×U3×c5v)=>l7 (seq x.2.2 [112,114,105,111]) (o5 (rJ x.1) λb=>l7 (I5 (D8 b.2.1 0)) (some ([],b.2.1,b.2.2,x.2.1.1,x.2.1.2.1,x.2.1.2.2.1,b.1,x.2.1.2.2.2.2)) (o5 (H5 b.2.2) λd=>l7 (I5 (seq d.1 [102,114,111,109])) (some ([],2,d.2.2,x.2.1.1,x.2.1.2.1,x.2.1.2.2.1,b.1,x.2.1.2.2.2.2)) (o5 (bF d.2.2 false) λc=>l7 (I5 (D8 c.2.1 0)) (some ([],c.2.1,c.2.2,x.2.1.1,x.2.1.2.1,x.2.1.2.2.1,b.1,(c.1,x.2.1.2.2.2.2.1.2),x.2.1.2.2.2.2.2)) (o5 (jX c.2.2 [116,111]) λg=>l7 (I5 (D8 g.1 0)) (some ([],g.1,g.2,x.2.1.1,x.2.1.2.1,x.2.1.2.2.1,b.1,(c.1,x.2.1.2.2.2.2.1.2),x.2.1.2.2.2.2.2)) (o5 (bF g.2 true) λi=>l7 (I5 (D8 i.2.1 0)) (some ([],i.2.1,i.2.2,x.2.1.1,x.2.1.2.1,x.2.1.2.2.1,b.1,(c.1,i.1),x.2.1.2.2.2.2.2)) (o5 (H5 i.2.2) λn=>some (n.1,0,n.2.2,x.2.1.1,x.2.1.2.1,x.2.1.2.2.1,b.1,(c.1,i.1),x.2.1.2.2.2.2.2))))))) (l7 (I5 (seq x.2.2 [102,114,111,109])) (some ([],2,x.1,x.2.1)) (o5 (bF x.1 false) λb=>l7 (I5 (D8 b.2.1 0)) (some ([],b.2.1,b.2.2,x.2.1.1,x.2.1.2.1,x.2.1.2.2.1,x.2.1.2.2.2.1,(b.1,x.2.1.2.2.2.2.1.2),x.2.1.2.2.2.2.2)) (o5 (jX b.2.2 [116,111]) λd=>l7 (I5 (D8 d.1 0)) (some ([],d.1,d.2,x.2.1.1,x.2.1.2.1,x.2.1.2.2.1,x.2.1.2.2.2.1,(b.1,x.2.1.2.2.2.2.1.2),x.2.1.2.2.2.2.2)) (o5 (bF d.2 true) λc=>l7 (I5 (D8 c.2.1 0)) (some ([],c.2.1,c.2.2,x.2.1.1,x.2.1.2.1,x.2.1.2.2.1,x.2.1.2.2.2.1,(b.1,c.1),x.2.1.2.2.2.2.2)) (o5 (H5 c.2.2) λg=>some (g.1,0,g.2.2,x.2.1.1,x.2.1.2.1,x.2.1.2.2.1,x.2.1.2.2.2.1,(b.1,c.1),x.2.1.2.2.2.2.2))))))) λr=>some r)))
def c1f:FQ:=⟨[(false,(.lp y87)),(false,(.box (dT y61))),(false,(.box (dT y19)))],⟨[(.tmp 6,(uD .str)),(.tmp 7,Z4)],[(1,tD y61),(2,tD y19)]⟩,⟨119,eqs,tt,gl,[(219,LJ),(366,c3p),(367,c3q),(368,c3r),(369,c3s),(300,b7i)],[],[],[],[1,2],[],[]⟩,sN 7 (iC (jnR [(1,3),(6,8),(10,12),(45,64),(1000000,1000002)] ⟨[(1,(false,(.box (dT y61)))),(2,(false,(.box (dT y19)))),(11,(uD .str))],[]⟩ O7) O7)⟩
def c3f:FSpec:=dX c1f λx=>kY x.1 x.2.1 x.2.2
def c5i:List MG:=[(false,(.dat (.sl .str)))]
def s53:FSpec:=⟨c5i,[(false,(.own .str))],[],λx=>CW x⟩
def wV(A:List U2):Option (List U2):=o5 (fF (λ(x:List U2×Int)=>l7 (J4 x.2 (x9 A)) (o5 (P8 A x.2) λb=>o5 (CW b.2) λc=>o5 (iy x.1 [(b.1,c)]) λd=>some (.inl (d,I8 .i64 x.2 1))) (some (.inr x.1))) ([],0)) λy=>some y
def q33:FQ:=⟨[uD y1],⟨[(.tmp 2,(false,(.owns (pA (dT .str) (oW .str)))))],[]⟩,⟨23,eqs,tt,gl,[(53,s53)],[(22,(pA (dT .str) (oW .str)))],[3,12,20],[],[],[],[]⟩,sN 2 (iC (sN 1 (pq (.loop [(3,4),(5,6),(8,22)] ⟨[(3,(false,(.owns (pA (dT .str) (oW .str))))),(8,Z4)],[]⟩ 0 ⟨[(3,(false,(.owns (pA (dT .str) (oW .str)))))],[]⟩ O7))) O7)⟩
def s33:FSpec:=dX q33 λx=>wV x
def tJ(A:List dO):Option (List c5v):=o5 (fF (λ(x:List c5v×Int)=>l7 (J4 x.2 (x9 A)) (o5 (P8 A x.2) λb=>o5 (iy x.1 [b.1]) λc=>some (.inl (c,I8 .i64 x.2 1))) (some (.inr x.1))) ([],0)) λy=>some y
def q34:FQ:=⟨[uD y11],tR 2 (uO .str),mE 19 [],sN 2 (iC (sN 1 (pq (.loop [(3,4),(5,6),(8,18)] ⟨[(3,(uO .str)),(8,Z4)],[]⟩ 0 ⟨[(3,(uO .str))],[]⟩ O7))) O7)⟩
def s34:FSpec:=dX q34 λx=>tJ x
def jm(A:O6)(B:Int):Option D9:=o5 (l7 (J4 B 0) (some (.inr ([],[],[],[],[]))) (l7 (U7 (x9 A.2.2) B) (some (.inr ([],[],[],[],[]))) (some (.inl ([],[],[],[],[]))))) λo=>dU o (λ(x:D9)=>o5 (P8 A.2.2 B) λx=>o5 (wV A.1) λb=>o5 (tJ x.2.2.1) λc=>o5 (tJ x.2.2.2.1) λd=>o5 (fF (λ(x:D9×Int)=>l7 (J4 x.2 (x9 A.2.1)) (o5 (P8 A.2.1 x.2) λf=>o5 (iy x.1.2.1 [f.1]) λg=>some (.inl ((x.1.1,g,x.1.2.2),I8 .i64 x.2 1))) (some (.inr x.1))) ((b,[],c,d,[]),0)) λy=>l7 (U7 0 x.2.1) (l7 (J4 x.2.1 (x9 A.2.2)) (o5 (P8 A.2.2 x.2.1) λx=>o5 (tJ x.2.2.2.1) λx=>some (y.1,y.2.1,y.2.2.1,y.2.2.2.1,x)) (some y)) (some y)) λr=>some r
def q14:FQ:=⟨[tD y27,Z4],⟨[(.cell 4 67,(true,(pA (.owns (pA (dT .str) (oW .str))) (pA (oW .str) (pA (oW .str) (pA (oW .str) (oW .str)))))))],[]⟩,⟨70,eqs,tt,gl,[(33,s33),(34,s34)],[(22,(pA (dT .str) (oW .str)))],[42],[],[],[],[]⟩,sN 1 (iC (jnR [(4,5),(9,19),(4000256,4000257)] ⟨[(4,(false,(.box (dT jK))))],[]⟩ O7) (sN 2 (iC (sN 1 (pq (.loop [(6,7),(8,9),(37,49),(20000384,20000385),(20001664,20001665),(20001856,20001857),(20002048,20002049)] ⟨[(6,(false,(.box (pA (.owns (pA (dT .str) (oW .str))) (pA (oW .str) (pA (oW .str) (pA (oW .str) (oW .str)))))))),(37,Z4)],[]⟩ 0 ⟨[(6,(false,(.box (pA (.owns (pA (dT .str) (oW .str))) (pA (oW .str) (pA (oW .str) (pA (oW .str) (oW .str))))))))],[]⟩ O7))) O7)))⟩
def s14:FSpec:=dX q14 λx=>jm x.1 x.2
def rZ(A:c5v)(B:Int):c5A:=o5 (X5 (λ(x:Int×Bool)=>l7 (J4 x.1 (x9 A)) (o5 (sat A x.1) λb=>l7 x.2 (l7 (D8 b 10) (some (.rt x.1)) (some (.nx (I8 .i64 x.1 1,x.2)))) (l7 (D8 b 35) (some (.nx (I8 .i64 x.1 1,true))) (l7 (I5 (D8 b 32)) (l7 (I5 (D8 b 9)) (some (.rt x.1)) (some (.nx (I8 .i64 x.1 1,x.2)))) (some (.nx (I8 .i64 x.1 1,x.2)))))) (some (.ex x.1))) (B,false)) λo=>dU o (λy=>some y) λr=>some r
def c1G:FQ:=⟨[uD .str,Z4],tR 4 Z4,mE 33 [],sN 2 (iC (pq (lpR [(1,2),(4,32)] ⟨[(1,Z4),(5,iQ)],[]⟩ 0 ⟨[(1,Z4)],[]⟩ O7)) O7)⟩
def c3y:FSpec:=dX c1G λx=>rZ x.1 x.2
def b9Y:List MG:=[(false,(.dat .str)),(false,(.dat (.int .u8)))]
def c3v:FSpec:=⟨b9Y,[Z4],[],λx=>Bh x.1 x.2⟩
def rQ(A:c5v)(B:Int):c5A:=o5 (Bh A B) λx=>some x
def c1i:FQ:=⟨[uD .str,(false,(dT (.int .u8)))],tR 4 Z4,mE 8 [(373,c3v)],O7⟩
def b7k:FSpec:=dX c1i λx=>rQ x.1 x.2
def DW(A:c5v):Option (bD×L9):=o5 (ny A) λx=>l7 (J4 16 x) (some ((0,[],0,0),0,4)) (o5 (dM A 0 x) λb=>some ((1,b,0,0),x,0))
def c1O:FQ:=⟨[uD .str],⟨[(.cell 2 557,tD y66),(.tmp 3,Z4),(.tmp 4,Z4)],[]⟩,mE 16 [(78,s78)],O7⟩
def c3C:FSpec:=dX c1O λx=>DW x
def kC(A:c5v)(B:Int):c5A:=o5 (fF (λ(x:Int)=>l7 (J4 x (x9 A)) (o5 (sat A x) λb=>o5 (iG b) λc=>l7 c (some (.inl (I8 .i64 x 1))) (some (.inr x))) (some (.inr x))) B) λy=>some (L6 .i64 y B)
def c1V:FQ:=⟨[uD .str,Z4],tR 4 Z4,mE 22 [(139,b0C)],sN 2 (iC (pq (.loop [(5,6),(7,19)] ⟨[(5,Z4)],[]⟩ 0 ⟨[(5,Z4)],[]⟩ O7)) O7)⟩
def b3Q:FSpec:=dX c1V λx=>kC x.1 x.2
def ql(A:c5v):c5z:=o5 (kC A 0) λx=>l7 (D8 x 4) (o5 (kC A 5) λx=>l7 (D8 x 2) (o5 (kC A 8) λx=>l7 (U7 2 x) (o5 (sat A 4) λx=>l7 (D8 x 45) (o5 (sat A 7) λx=>some (D8 x 45)) (some false)) (some false)) (some false)) (some false)
def c1T:FQ:=⟨[uD .str],tR 2 iQ,mE 26 [(482,b3Q)],O7⟩
def c3H:FSpec:=dX c1T λx=>ql x
def lL(A:c5v)(B:Int):c5z:=o5 (P6 A [46]) λx=>l7 x (o5 (kC A 1) λx=>some (D8 x B)) (some false)
def c1W:FQ:=⟨[uD .str,Z4],tR 4 iQ,mE 13 [(20,s20),(482,b3Q)],O7⟩
def c3I:FSpec:=dX c1W λx=>lL x.1 x.2
def jw(A:Int)(B:c5v):Option L9:=l7 (D8 A 5) (o5 (yE B) λx=>l7 (D8 x.2 0) (l7 (J4 109572 x.1) (some (x.1,3)) (some x)) (some x)) (l7 (D8 A 3) (o5 (dP B 2) λx=>l7 (D8 x.2 0) (l7 (J4 1000000000000000 x.1) (some (x.1,3)) (some x)) (some x)) (l7 (D8 A 4) (o5 (dM B 0 (L6 .i64 (x9 B) 1)) λx=>o5 (dP x 4) λx=>l7 (D8 x.2 0) (l7 (J4 1000000000 x.1) (some (x.1,3)) (some x)) (some x)) (o5 (nC B) λx=>l7 (D8 x.2 0) (l7 (J4 1000000000000 x.1) (some (x.1,3)) (some x)) (some x))))
def c1X:FQ:=⟨[Z4,(uD .str)],⟨[(.tmp 4,Z4),(.tmp 5,Z4)],[]⟩,mE 49 [(125,b3L),(335,b7l),(334,b3P)],O7⟩
def c3J:FSpec:=dX c1X λx=>jw x.1 x.2
def nz(A:c5v):Option (bD×L9):=o5 (o5 (ql A) λx=>l7 (I5 x) (o5 (kC A 0) λx=>o5 (o5 (dM A x (x9 A)) λb=>o5 (lL b 2) λd=>l7 d (some (3,I8 .i64 x 3)) (o5 (dM A x (x9 A)) λc=>o5 (lL c 4) λf=>l7 f (o5 (dM A (I8 .i64 x 5) (x9 A)) λg=>o5 (P6 g [37]) λi=>l7 i (some (4,I8 .i64 x 6)) (some (2,x))) (some (2,x)))) λb=>l7 (J4 1 x) (o5 (sat A 0) λx=>l7 (D8 x 48) (some (.inr ((0,[],0,0),0,2))) (some (.inl ((0,[],0,0),b)))) (some (.inl ((0,[],0,0),b)))) (some (.inl ((0,[],0,0),5,10)))) λo=>dU o (λ(x:bD×L9)=>o5 (l7 (J4 x.2.2 (x9 A)) (o5 (sat A x.2.2) λb=>o5 (lw b) λd=>l7 d (some (.inr ((0,[],0,0),0,2))) (l7 (U7 65 b) (l7 (U7 b 90) (some (.inr ((0,[],0,0),0,2))) (o5 (iG b) λc=>l7 c (some (.inr ((0,[],0,0),0,2))) (l7 (D8 b 95) (some (.inr ((0,[],0,0),0,2))) (l7 (D8 b 46) (some (.inr ((0,[],0,0),0,2))) (some (.inl x.1)))))) (o5 (iG b) λc=>l7 c (some (.inr ((0,[],0,0),0,2))) (l7 (D8 b 95) (some (.inr ((0,[],0,0),0,2))) (l7 (D8 b 46) (some (.inr ((0,[],0,0),0,2))) (some (.inl x.1))))))) (some (.inl x.1))) λo=>dU o (λ(b:bD)=>o5 (dM A 0 x.2.2) λd=>o5 (jw x.2.1 d) λc=>l7 (I5 (D8 c.2 0)) (some ((0,[],0,0),0,3)) (o5 (dM A 0 x.2.2) λf=>some ((x.2.1,f,c.1,0),x.2.2,0))) λr=>some r) λr=>some r
def c1P:FQ:=⟨[uD .str],⟨[(.cell 2 557,tD y66),(.tmp 3,Z4),(.tmp 4,Z4)],[]⟩,mE 94 [(481,c3H),(482,b3Q),(483,c3I),(20,s20),(77,s77),(139,b0C),(484,c3J)],sN 2 (iC (jnR [(2,8),(11,46),(4000128,4000129)] ⟨[(2,(false,(.box (dT y66)))),(5,Z4),(6,Z4)],[]⟩ (sN 1 (.cond (sN 1 (iC (.join [(5,7),(16,38)] ⟨[(5,Z4),(6,Z4)],[]⟩ O7) O7)) O7))) (iC (jnR [(2,5),(8,9),(46,76),(9000000,9000001)] ⟨[(2,(false,(.box (dT y66))))],[]⟩ O7) O7))⟩
def c3E:FSpec:=dX c1P λx=>nz x
def b9Z:List MG:=[(false,(.dat .str)),(false,(.dat .str))]
def c3K:FSpec:=⟨b9Z,[Z4],[],λx=>Cm x.1 x.2⟩
def Gi(A:c5v):Option (bD×L9):=o5 (dM A 1 (x9 A)) λx=>o5 (Cm x [34,10]) λx=>l7 (J4 x 0) (some ((0,[],0,0),0,5)) (o5 (sat A (I8 .i64 1 x)) λc=>l7 (D8 c 10) (some ((0,[],0,0),0,5)) (o5 (dM A 1 (I8 .i64 1 x)) λb=>o5 (X5 (λ(x:bD×Int)=>l7 (J4 x.2 (x9 b)) (o5 (sat b x.2) λd=>l7 (J4 d 32) (some (.rt ((0,[],0,0),0,2))) (o5 (sat b x.2) λf=>l7 (J4 126 f) (some (.rt ((0,[],0,0),0,2))) (some (.nx (x.1,I8 .i64 x.2 1))))) (some (.ex x.1))) ((0,[],0,0),0)) λo=>dU o (λ(y:bD)=>l7 (J4 64 x) (some ((0,[],0,0),0,4)) (some ((6,b,0,0),I8 .i64 x 2,0))) λr=>some r))
def c1Q:FQ:=⟨[uD .str],⟨[(.cell 2 557,tD y66),(.tmp 3,Z4),(.tmp 4,Z4)],[]⟩,mE 49 [(485,c3K)],sN 4 (iC (sN 1 (pq (lpR [(2,5),(7,8),(27,42),(4000128,4000129)] ⟨[(2,(false,(.box (dT y66)))),(27,Z4)],[]⟩ 0 ⟨[(2,(false,(.box (dT y66))))],[]⟩ O7))) O7)⟩
def c3F:FSpec:=dX c1Q λx=>Gi x
def rY(A:c5v):Option (bD×L9):=o5 (sat A 0) λx=>l7 (D8 x 10) (o5 (dM A 0 1) λx=>some ((8,x,0,0),1,0)) (o5 (lw x) λd=>l7 d (o5 (DW A) λx=>some x) (o5 (iG x) λf=>l7 f (o5 (nz A) λx=>some x) (l7 (D8 x 34) (o5 (Gi A) λx=>some x) (l7 (D8 x 60) (o5 (dM A 1 (x9 A)) λb=>o5 (P6 b [61]) λc=>l7 c (o5 (dM A 0 2) λx=>some ((7,x,0,0),2,0)) (l7 (D8 x 33) (some ((0,[],0,0),0,2)) (o5 (dM A 0 1) λx=>some ((7,x,0,0),1,0)))) (l7 (D8 x 61) (o5 (dM A 1 (x9 A)) λb=>o5 (P6 b [61]) λc=>l7 c (o5 (dM A 0 2) λx=>some ((7,x,0,0),2,0)) (l7 (D8 x 33) (some ((0,[],0,0),0,2)) (o5 (dM A 0 1) λx=>some ((7,x,0,0),1,0)))) (l7 (D8 x 33) (o5 (dM A 1 (x9 A)) λb=>o5 (P6 b [61]) λc=>l7 c (o5 (dM A 0 2) λx=>some ((7,x,0,0),2,0)) (l7 (D8 x 33) (some ((0,[],0,0),0,2)) (o5 (dM A 0 1) λx=>some ((7,x,0,0),1,0)))) (o5 (rQ [40,41,44,58,43,45,42] x) λx=>l7 (U7 0 x) (o5 (dM A 0 1) λx=>some ((7,x,0,0),1,0)) (some ((0,[],0,0),0,2)))))))))
def c1H:FQ:=⟨[uD .str],⟨[(.cell 2 557,tD y66),(.tmp 3,Z4),(.tmp 4,Z4)],[]⟩,mE 66 [(77,s77),(139,b0C),(305,b7k),(456,c3C),(457,c3E),(458,c3F),(20,s20)],O7⟩
def c3z:FSpec:=dX c1H λx=>rY x
def zM(A:c5v):Option (List bD×L9):=l7 (J4 65536 (x9 A)) (some ([],0,4)) (o5 (rZ A 0) λx=>o5 (X5 (λ(x:List bD×Int)=>l7 (J4 x.2 (x9 A)) (o5 (dM A x.2 (x9 A)) λc=>o5 (rY c) λb=>l7 (I5 (D8 b.2.2 0)) (some (.rt ([],x.2,b.2.2))) (o5 (iy x.1 [(b.1.1,b.1.2.1,b.1.2.2.1,x.2)]) λd=>o5 (rZ A (I8 .i64 x.2 b.2.1)) λx=>some (.nx (d,x)))) (some (.ex x.1))) ([],x)) λo=>dU o (λ(y:List bD)=>some (y,0,0)) λr=>some r)
def c1z:FQ:=⟨[uD .str],⟨[(.tmp 2,uO y66),(.tmp 3,Z4),(.tmp 4,Z4)],[]⟩,mE 43 [(424,c3y),(425,c3z)],sN 4 (iC (pq (lpR [(2,10),(15,42)] ⟨[(5,(uO y66)),(6,Z4)],[]⟩ 0 ⟨[(5,(uO y66))],[]⟩ O7)) O7)⟩
def c3t:FSpec:=dX c1z λx=>zM x
def U1(A:D6)(B:Int):Option (bD×D6):=l7 (J4 (I8 .i64 A.2.1 B) (x9 A.1)) (o5 (P8 A.1 (I8 .i64 A.2.1 B)) λx=>some (x,A)) (some ((0,[],0,0),A))
def c1R:FQ:=⟨[(false,(.box (pA (dT oK) (pA J6 (pA J6 (pA (dT jK) (pA (oW y2) (pA J6 J6)))))))),Z4],⟨[(.cell 4 557,tD y66)],[(0,(true,(pA (dT oK) (pA J6 (pA J6 (pA (dT jK) (pA (oW y2) (pA J6 J6))))))))]⟩,⟨30,eqs,tt,gl,[],[],[],[],[0],[],[]⟩,O7⟩
def a1J:FSpec:=dX c1R λx=>U1 x.1 x.2
def jb(A:D6)(B:Int)(C:c5v):Option (Bool×D6):=o5 (U1 A 0) λx=>l7 (D8 x.1.1 B) (some (seq x.1.2.1 C,x.2)) (some (false,x.2))
def c1I:FQ:=⟨[(false,(.box (pA (dT oK) (pA J6 (pA J6 (pA (dT jK) (pA (oW y2) (pA J6 J6)))))))),Z4,(uD .str)],⟨[(.tmp 6,iQ)],[(0,(true,(pA (dT oK) (pA J6 (pA J6 (pA (dT jK) (pA (oW y2) (pA J6 J6))))))))]⟩,⟨20,eqs,tt,gl,[(459,a1J)],[],[],[],[0],[],[]⟩,O7⟩
def b0M:FSpec:=dX c1I λx=>jb x.1 x.2.1 x.2.2
def kK(A:bD):c5A:=l7 (D8 A.1 2) (some 2) (l7 (D8 A.1 3) (some 3) (l7 (D8 A.1 4) (some 4) (some 0)))
def c1Y:FQ:=⟨[tD y66],tR 2 Z4,mE 11 [],O7⟩
def b7r:FSpec:=dX c1Y λx=>kK x
def G7(A:D6)(B:Int)(C:Int):Option (Bool×D6):=o5 (iy A.2.2.2.2.1 [(B,C)]) λx=>some (true,A.1,A.2.1,A.2.2.1,A.2.2.2.1,x,A.2.2.2.2.2)
def c1K:FQ:=⟨[(false,(.box (pA (dT oK) (pA J6 (pA J6 (pA (dT jK) (pA (oW y2) (pA J6 J6)))))))),Z4,Z4],⟨[(.tmp 6,iQ)],[(0,(true,(pA (dT oK) (pA J6 (pA J6 (pA (dT jK) (pA (oW y2) (pA J6 J6))))))))]⟩,⟨19,eqs,tt,gl,[],[],[],[],[0],[],[]⟩,O7⟩
def a3U:FSpec:=dX c1K λx=>G7 x.1 x.2.1 x.2.2
def bQ(A:D6)(B:Int):Option (Bool×D6):=l7 (J4 A.2.1 (x9 A.1)) (o5 (P8 A.1 A.2.1) λx=>some (false,A.1,A.2.1,A.2.2.1,A.2.2.2.1,A.2.2.2.2.1,x.2.2.2,B)) (some (false,A.1,A.2.1,A.2.2.1,A.2.2.2.1,A.2.2.2.2.1,A.2.2.1,B))
def c1A:FQ:=⟨[(false,(.box (pA (dT oK) (pA J6 (pA J6 (pA (dT jK) (pA (oW y2) (pA J6 J6)))))))),Z4],⟨[(.tmp 4,iQ)],[(0,(true,(pA (dT oK) (pA J6 (pA J6 (pA (dT jK) (pA (oW y2) (pA J6 J6))))))))]⟩,⟨40,eqs,tt,gl,[],[],[],[],[0],[],[]⟩,O7⟩
def a3T:FSpec:=dX c1A λx=>bQ x.1 x.2
def dF(A:D6)(B:Int)(C:c5v):Option (Bool×D6):=o5 (jb A B C) λx=>l7 (I5 x.1) (o5 (bQ x.2 2) λx=>some x) (some (true,x.2.1,I8 .i64 x.2.2.1 1,x.2.2.2))
def c1J:FQ:=⟨[(false,(.box (pA (dT oK) (pA J6 (pA J6 (pA (dT jK) (pA (oW y2) (pA J6 J6)))))))),Z4,(uD .str)],⟨[(.tmp 6,iQ)],[(0,(true,(pA (dT oK) (pA J6 (pA J6 (pA (dT jK) (pA (oW y2) (pA J6 J6))))))))]⟩,⟨21,eqs,tt,gl,[(426,b0M),(372,a3T)],[],[],[],[0],[],[]⟩,O7⟩
def b7q:FSpec:=dX c1J λx=>dF x.1 x.2.1 x.2.2
def O9(A:D6)(B:c5v):Option (Bool×D6):=o5 (dF A 7 B) λx=>some x
def c1Z:FQ:=⟨[(false,(.box (pA (dT oK) (pA J6 (pA J6 (pA (dT jK) (pA (oW y2) (pA J6 J6)))))))),(uD .str)],⟨[(.tmp 4,iQ)],[(0,(true,(pA (dT oK) (pA J6 (pA J6 (pA (dT jK) (pA (oW y2) (pA J6 J6))))))))]⟩,⟨8,eqs,tt,gl,[(428,b7q)],[],[],[],[0],[],[]⟩,O7⟩
def b7s:FSpec:=dX c1Z λx=>O9 x.1 x.2
def gU(A:Int):Option c5v:=l7 (D8 A 14) (some [115,104,97,114,101]) (l7 (D8 A 15) (some [100,105,118]) (l7 (D8 A 16) (some [114,111,117,110,100]) (l7 (D8 A 17) (some [109,105,110]) (l7 (D8 A 18) (some [109,97,120]) (l7 (D8 A 27) (some [112,108,117,115]) (l7 (D8 A 28) (some [109,111,110,116,104,115]) (l7 (D8 A 29) (some [100,97,121,115]) (l7 (D8 A 30) (some [121,101,97,114,115]) (l7 (D8 A 31) (some [121,101,97,114]) (l7 (D8 A 32) (some [109,111,110,116,104]) (l7 (D8 A 33) (some [116,97,98]) (l7 (D8 A 34) (some [98,97,110,100]) (l7 (D8 A 35) (some [99,111,117,110,116]) (l7 (D8 A 36) (some [115,117,109]) (l7 (D8 A 37) (some [97,108,108]) (l7 (D8 A 38) (some [97,110,121]) (l7 (D8 A 39) (some [109,111,115,116]) (some []))))))))))))))))))
def c0f:FQ:=⟨[Z4],tR 2 (uD .str),mE 40 [],O7⟩
def b0x:FSpec:=dX c0f λx=>gU x
def lY(A:c5v):c5A:=o5 (X5 (λ(x:Int)=>l7 (U7 x 39) (l7 (I5 (seq A [])) (o5 (gU x) λb=>l7 (seq b A) (some (.rt x)) (some (.nx (I8 .i64 x 1)))) (some (.nx (I8 .i64 x 1)))) (some (.ex ()))) 10) λo=>dU o (λy=>some 0) λr=>some r
def c2a:FQ:=⟨[uD .str],tR 2 Z4,mE 17 [(102,b0x)],sN 1 (iC (sN 1 (pq (lpR [(2,17)] ⟨[(3,Z4)],[]⟩ 0 sgN O7))) O7)⟩
def c3M:FSpec:=dX c2a λx=>lY x
def eX(A:D6)(B:List c5v):Option (Int×Bool×D6):=o5 (U1 A 0) λx=>l7 (I5 (D8 x.1.1 1)) (o5 (bQ x.2 2) λx=>some (0,x)) (o5 (bG x.1.2.1) λc=>l7 (I5 c) (o5 (bQ x.2 2) λx=>some (0,x)) (o5 (dR B x.1.2.1) λb=>l7 (J4 b 0) (o5 (bQ x.2 6) λx=>some (0,x)) (some (b,true,x.2.1,I8 .i64 x.2.2.1 1,x.2.2.2))))
def c2c:FQ:=⟨[(false,(.box (pA (dT oK) (pA J6 (pA J6 (pA (dT jK) (pA (oW y2) (pA J6 J6)))))))),(uD (.sl .str))],⟨[(.tmp 4,Z4),(.tmp 5,iQ)],[(0,(true,(pA (dT oK) (pA J6 (pA J6 (pA (dT jK) (pA (oW y2) (pA J6 J6))))))))]⟩,⟨37,eqs,tt,gl,[(459,a1J),(43,s43),(372,a3T),(137,b3M)],[],[],[],[0],[],[]⟩,O7⟩
def b7t:FSpec:=dX c2c λx=>eX x.1 x.2
def dL(A:Int):Option c5v:=l7 (D8 A 0) (some [100,111,119,110]) (l7 (D8 A 1) (some [117,112]) (l7 (D8 A 2) (some [122,101,114,111]) (l7 (D8 A 3) (some [97,119,97,121]) (l7 (D8 A 4) (some [104,97,108,102]) (l7 (D8 A 5) (some [101,118,101,110]) (some []))))))
def c0g:FQ:=⟨[Z4],tR 2 (uD .str),mE 16 [],O7⟩
def b3K:FSpec:=dX c0g λx=>dL x
def yh(A:c5v):c5A:=o5 (X5 (λ(x:Int)=>l7 (U7 x 5) (o5 (dL x) λb=>l7 (seq b A) (some (.rt x)) (some (.nx (I8 .i64 x 1)))) (some (.ex ()))) 0) λo=>dU o (λy=>some (-1)) λr=>some r
def c2e:FQ:=⟨[uD .str],tR 2 Z4,mE 13 [(103,b3K)],sN 1 (iC (sN 1 (pq (lpR [(2,13)] ⟨[(3,Z4)],[]⟩ 0 sgN O7))) O7)⟩
def c3P:FSpec:=dX c2e λx=>yh x
def dI(A:D6):Option (Int×Bool×D6):=o5 (U1 A 0) λx=>o5 (yh x.1.2.1) λb=>l7 (I5 (D8 x.1.1 1)) (o5 (bQ x.2 2) λx=>some (0,x)) (l7 (J4 b 0) (o5 (bQ x.2 2) λx=>some (0,x)) (some (b,true,x.2.1,I8 .i64 x.2.2.1 1,x.2.2.2)))
def c2d:FQ:=⟨[(false,(.box (pA (dT oK) (pA J6 (pA J6 (pA (dT jK) (pA (oW y2) (pA J6 J6))))))))],⟨[(.tmp 2,Z4),(.tmp 3,iQ)],[(0,(true,(pA (dT oK) (pA J6 (pA J6 (pA (dT jK) (pA (oW y2) (pA J6 J6))))))))]⟩,⟨28,eqs,tt,gl,[(459,a1J),(514,c3P),(372,a3T)],[],[],[],[0],[],[]⟩,O7⟩
def c3O:FSpec:=dX c2d λx=>dI x
def uG(A:U2)(B:bD):c5z:=some (seq A.1 B.2.1)
def b0d:FQ:=⟨[tD y0,(false,(.rp y66))],tR 3 iQ,mE 9 [],O7⟩
def a3V:FSpec:=dX b0d λx=>uG x.1 x.2
def fO(A:List U2)(B:bD):c5A:=o5 (X5 (λ(x:Int)=>l7 (J4 x (x9 A)) (o5 (P8 A x) λb=>o5 (uG b B) λc=>l7 c (some (.rt x)) (some (.nx (I8 .i64 x 1)))) (some (.ex ()))) 0) λo=>dU o (λy=>some (-1)) λr=>some r
def a9U:FQ:=⟨[uD y1,(false,(.fn 513 [y66]))],tR 4 Z4,mE 19 [(513,a3V)],sN 1 (iC (sN 1 (pq (lpR [(4,6),(8,19)] ⟨[(8,Z4)],[]⟩ 0 sgN O7))) O7)⟩
def b0E:FSpec:=dX a9U λx=>fO x.1 x.2
def dJ(A:D6):Option (Bool×D6):=o5 (U1 A 0) λx=>o5 (U1 x.2 1) λb=>o5 (bG x.1.2.1) λd=>l7 (I5 d) (o5 (bQ b.2 2) λx=>some x) (o5 (l7 (D8 b.1.1 7) (some (seq b.1.2.1 [58])) (some false)) λf=>l7 f (o5 (fO b.2.2.2.2.1.1 x.1) λx=>l7 (J4 x 0) (o5 (bQ b.2 6) λx=>some x) (o5 (P8 b.2.2.2.2.1.1 x) λg=>o5 (eX (b.2.1,I8 .i64 b.2.2.1 2,b.2.2.2) g.2) λc=>l7 c.2.1 (o5 (G7 c.2.2 6 (I8 .i64 (Qw .i64 16 x) c.1)) λx=>some x) (some (false,c.2.2)))) (o5 (dR b.2.2.2.2.1.2.2.1 x.1.2.1) λx=>l7 (U7 0 x) (o5 (G7 (b.2.1,I8 .i64 b.2.2.1 1,b.2.2.2) 7 x) λx=>some x) (o5 (eX b.2 b.2.2.2.2.1.2.2.2.1) λx=>l7 x.2.1 (o5 (G7 x.2.2 8 x.1) λx=>some x) (some (false,x.2.2)))))
def c2b:FQ:=⟨[(false,(.box (pA (dT oK) (pA J6 (pA J6 (pA (dT jK) (pA (oW y2) (pA J6 J6))))))))],⟨[(.tmp 2,iQ)],[(0,(true,(pA (dT oK) (pA J6 (pA J6 (pA (dT jK) (pA (oW y2) (pA J6 J6))))))))]⟩,⟨106,eqs,tt,gl,[(459,a1J),(43,s43),(372,a3T),(513,a3V),(140,b0E),(511,b7t),(429,a3U),(137,b3M)],[],[],[],[0],[],[]⟩,sN 3 (iC (iC (.join [(21,29)] ⟨[(28,iQ)],[]⟩ O7) O7) O7)⟩
def c3N:FSpec:=dX c2b λx=>dJ x
def iK(A:Int):Option (c5v×Int):=l7 (D8 A 24) (some ([111,114],1)) (l7 (D8 A 23) (some ([97,110,100],2)) (l7 (D8 A 19) (some ([61,61],3)) (l7 (D8 A 20) (some ([33,61],3)) (l7 (D8 A 21) (some ([60],3)) (l7 (D8 A 22) (some ([60,61],3)) (l7 (D8 A 11) (some ([43],4)) (l7 (D8 A 12) (some ([45],4)) (l7 (D8 A 13) (some ([42],5)) (some ([],0))))))))))
def c0i:FQ:=⟨[Z4],⟨[(.tmp 2,(uD .str)),(.tmp 3,Z4)],[]⟩,mE 23 [],O7⟩
def b7e:FSpec:=dX c0i λx=>iK x
def lW(A:bD):Option L9:=l7 (I5 (D8 A.1 7)) (l7 (I5 (D8 A.1 1)) (some (0,0)) (o5 (X5 (λ(x:Int)=>l7 (U7 x 24) (o5 (iK x) λb=>l7 (I5 (seq b.1 [])) (l7 (seq b.1 A.2.1) (some (.rt (x,b.2))) (some (.nx (I8 .i64 x 1)))) (some (.nx (I8 .i64 x 1)))) (some (.ex ()))) 11) λo=>dU o (λy=>some (0,0)) λr=>some r)) (o5 (X5 (λ(x:Int)=>l7 (U7 x 24) (o5 (iK x) λb=>l7 (I5 (seq b.1 [])) (l7 (seq b.1 A.2.1) (some (.rt (x,b.2))) (some (.nx (I8 .i64 x 1)))) (some (.nx (I8 .i64 x 1)))) (some (.ex ()))) 11) λo=>dU o (λy=>some (0,0)) λr=>some r)
def c1S:FQ:=⟨[tD y66],⟨[(.tmp 2,Z4),(.tmp 3,Z4)],[]⟩,mE 34 [(105,b7e)],sN 2 (iC (sN 1 (pq (lpR [(2,7),(15,34)] ⟨[(4,Z4)],[]⟩ 0 sgN O7))) O7)⟩
def c3G:FSpec:=dX c1S λx=>lW x
def Yt:List MG:=[(false,(.box (.pair (.dat oK) (.pair J6 (.pair J6 (.pair (.dat jK) (.pair (.own y2) (.pair J6 J6))))))))]
def a5z:List MG:=[(false,(.box (.pair (.dat oK) (.pair J6 (.pair J6 (.pair (.dat jK) (.pair (.own y2) (.pair J6 J6)))))))),Z4]
def a5A:List MG:=[(false,(.box (.pair (.dat oK) (.pair J6 (.pair J6 (.pair (.dat jK) (.pair (.own y2) (.pair J6 J6))))))))]
def a9O:List MG:=[(false,(.box (.pair (.dat oK) (.pair J6 (.pair J6 (.pair (.dat jK) (.pair (.own y2) (.pair J6 J6))))))))]
def a9P:List MG:=[(false,(.box (.pair (.dat oK) (.pair J6 (.pair J6 (.pair (.dat jK) (.pair (.own y2) (.pair J6 J6)))))))),Z4]
def b5o:Ret:=⟨[(.tmp 2,iQ)],[(0,(true,(.pair (.dat oK) (.pair J6 (.pair J6 (.pair (.dat jK) (.pair (.own y2) (.pair J6 J6))))))))]⟩
def c4V (r371:M.den (.box (.pair (.dat oK) (.pair J6 (.pair J6 (.pair (.dat jK) (.pair (.own y2) (.pair J6 J6)))))))->Option (Y3 ([iQ]++[(true,(.pair (.dat oK) (.pair J6 (.pair J6 (.pair (.dat jK) (.pair (.own y2) (.pair J6 J6)))))))]))) (r427:M.den (.box (.pair (.dat oK) (.pair J6 (.pair J6 (.pair (.dat jK) (.pair (.own y2) (.pair J6 J6)))))))->M.den J6->Option (Y3 ([iQ]++[(true,(.pair (.dat oK) (.pair J6 (.pair J6 (.pair (.dat jK) (.pair (.own y2) (.pair J6 J6)))))))]))) (r460:M.den (.box (.pair (.dat oK) (.pair J6 (.pair J6 (.pair (.dat jK) (.pair (.own y2) (.pair J6 J6)))))))->Option (Y3 ([iQ]++[(true,(.pair (.dat oK) (.pair J6 (.pair J6 (.pair (.dat jK) (.pair (.own y2) (.pair J6 J6)))))))]))) (r487:M.den (.box (.pair (.dat oK) (.pair J6 (.pair J6 (.pair (.dat jK) (.pair (.own y2) (.pair J6 J6)))))))->Option (Y3 ([iQ]++[(true,(.pair (.dat oK) (.pair J6 (.pair J6 (.pair (.dat jK) (.pair (.own y2) (.pair J6 J6)))))))]))) (r507:M.den (.box (.pair (.dat oK) (.pair J6 (.pair J6 (.pair (.dat jK) (.pair (.own y2) (.pair J6 J6)))))))->M.den J6->Option (Y3 ([iQ]++[(true,(.pair (.dat oK) (.pair J6 (.pair J6 (.pair (.dat jK) (.pair (.own y2) (.pair J6 J6)))))))]))):Env:=⟨37,eqs,tt,gl,[(426,b0M),(427,⟨a5z,[iQ],[(true,(.pair (.dat oK) (.pair J6 (.pair J6 (.pair (.dat jK) (.pair (.own y2) (.pair J6 J6)))))))],λx=>r427 x.1 x.2⟩),(371,⟨Yt,[iQ],[(true,(.pair (.dat oK) (.pair J6 (.pair J6 (.pair (.dat jK) (.pair (.own y2) (.pair J6 J6)))))))],λx=>r371 x⟩),(428,b7q),(429,a3U)],[],[],[],[0],[],[]⟩
def b9p:Ann:=.leaf
def iZ(r371:D6->Option (Bool×D6))(r427:D6->Int->Option (Bool×D6))(r460:D6->Option (Bool×D6))(r487:D6->Option (Bool×D6))(r507:D6->Int->Option (Bool×D6))(A:D6):Option (Bool×D6):=o5 (jb A 1 [105,102]) λx=>l7 (I5 x.1) (o5 (r427 x.2 1) λx=>some x) (o5 (r371 (x.2.1,I8 .i64 x.2.2.1 1,x.2.2.2)) λx=>l7 x.1 (o5 (dF x.2 1 [116,104,101,110]) λx=>l7 x.1 (o5 (r371 x.2) λx=>l7 x.1 (o5 (dF x.2 1 [101,108,115,101]) λx=>l7 x.1 (o5 (r371 x.2) λx=>l7 x.1 (o5 (G7 x.2 26 0) λx=>some x) (some (false,x.2))) (some (false,x.2))) (some (false,x.2))) (some (false,x.2))) (some (false,x.2)))
def c2h:Ret:=⟨[(.tmp 4,iQ)],[(0,(true,(.pair (.dat oK) (.pair J6 (.pair J6 (.pair (.dat jK) (.pair (.own y2) (.pair J6 J6))))))))]⟩
def c4W (r371:M.den (.box (.pair (.dat oK) (.pair J6 (.pair J6 (.pair (.dat jK) (.pair (.own y2) (.pair J6 J6)))))))->Option (Y3 ([iQ]++[(true,(.pair (.dat oK) (.pair J6 (.pair J6 (.pair (.dat jK) (.pair (.own y2) (.pair J6 J6)))))))]))) (r427:M.den (.box (.pair (.dat oK) (.pair J6 (.pair J6 (.pair (.dat jK) (.pair (.own y2) (.pair J6 J6)))))))->M.den J6->Option (Y3 ([iQ]++[(true,(.pair (.dat oK) (.pair J6 (.pair J6 (.pair (.dat jK) (.pair (.own y2) (.pair J6 J6)))))))]))) (r460:M.den (.box (.pair (.dat oK) (.pair J6 (.pair J6 (.pair (.dat jK) (.pair (.own y2) (.pair J6 J6)))))))->Option (Y3 ([iQ]++[(true,(.pair (.dat oK) (.pair J6 (.pair J6 (.pair (.dat jK) (.pair (.own y2) (.pair J6 J6)))))))]))) (r487:M.den (.box (.pair (.dat oK) (.pair J6 (.pair J6 (.pair (.dat jK) (.pair (.own y2) (.pair J6 J6)))))))->Option (Y3 ([iQ]++[(true,(.pair (.dat oK) (.pair J6 (.pair J6 (.pair (.dat jK) (.pair (.own y2) (.pair J6 J6)))))))]))) (r507:M.den (.box (.pair (.dat oK) (.pair J6 (.pair J6 (.pair (.dat jK) (.pair (.own y2) (.pair J6 J6)))))))->M.den J6->Option (Y3 ([iQ]++[(true,(.pair (.dat oK) (.pair J6 (.pair J6 (.pair (.dat jK) (.pair (.own y2) (.pair J6 J6)))))))]))):Env:=⟨49,eqs,tt,gl,[(460,⟨a5A,[iQ],[(true,(.pair (.dat oK) (.pair J6 (.pair J6 (.pair (.dat jK) (.pair (.own y2) (.pair J6 J6)))))))],λx=>r460 x⟩),(459,a1J),(461,c3G),(427,⟨a5z,[iQ],[(true,(.pair (.dat oK) (.pair J6 (.pair J6 (.pair (.dat jK) (.pair (.own y2) (.pair J6 J6)))))))],λx=>r427 x.1 x.2⟩),(429,a3U)],[],[],[],[0],[],[]⟩
def b9q:Ann:=.seq O7 (.seq O7 (.seq O7 (.blk (.loopR [(0,1),(4,8),(11,49),(1000000,1000001),(8000576,8000577)] ⟨[(0,(false,(.box (.pair (.dat oK) (.pair J6 (.pair J6 (.pair (.dat jK) (.pair (.own y2) (.pair J6 J6))))))))),(5,Z4)],[]⟩ 999999 ⟨[],[]⟩ (.blk (.seq O7 (.seq (.joinR [(4,5),(17,29)] ⟨[],[]⟩ O7) O7)))))))
def CO(r371:D6->Option (Bool×D6))(r427:D6->Int->Option (Bool×D6))(r460:D6->Option (Bool×D6))(r487:D6->Option (Bool×D6))(r507:D6->Int->Option (Bool×D6))(A:D6)(B:Int):Option (Bool×D6):=o5 (r460 A) λx=>l7 (I5 x.1) (some (false,x.2)) (o5 (X5 (λ(x:D6×Int)=>o5 (U1 x.1 0) λc=>o5 (lW c.1) λb=>o5 (l7 (D8 b.1 0) (some (.inr (true,c.2))) (l7 (J4 b.2 B) (some (.inr (true,c.2))) (l7 (J4 x.2 b.2) (some (.inr (true,c.2))) (some (.inl ()))))) λo=>dU o (λx=>o5 (r427 (c.2.1,I8 .i64 c.2.2.1 1,c.2.2.2) (I8 .i64 b.2 1)) λx=>l7 (I5 x.1) (some (.rt (false,x.2))) (o5 (G7 x.2 b.1 0) λx=>l7 (D8 b.2 3) (some (.nx (x.2,L6 .i64 b.2 1))) (some (.nx (x.2,b.2))))) λr=>some (.rt r)) (x.2,5)) λo=>dU o (λ(y:PUnit)=>none) λr=>some r)
def c2i:Ret:=⟨[(.tmp 2,iQ)],[(0,(true,(.pair (.dat oK) (.pair J6 (.pair J6 (.pair (.dat jK) (.pair (.own y2) (.pair J6 J6))))))))]⟩
def c4X (r371:M.den (.box (.pair (.dat oK) (.pair J6 (.pair J6 (.pair (.dat jK) (.pair (.own y2) (.pair J6 J6)))))))->Option (Y3 ([iQ]++[(true,(.pair (.dat oK) (.pair J6 (.pair J6 (.pair (.dat jK) (.pair (.own y2) (.pair J6 J6)))))))]))) (r427:M.den (.box (.pair (.dat oK) (.pair J6 (.pair J6 (.pair (.dat jK) (.pair (.own y2) (.pair J6 J6)))))))->M.den J6->Option (Y3 ([iQ]++[(true,(.pair (.dat oK) (.pair J6 (.pair J6 (.pair (.dat jK) (.pair (.own y2) (.pair J6 J6)))))))]))) (r460:M.den (.box (.pair (.dat oK) (.pair J6 (.pair J6 (.pair (.dat jK) (.pair (.own y2) (.pair J6 J6)))))))->Option (Y3 ([iQ]++[(true,(.pair (.dat oK) (.pair J6 (.pair J6 (.pair (.dat jK) (.pair (.own y2) (.pair J6 J6)))))))]))) (r487:M.den (.box (.pair (.dat oK) (.pair J6 (.pair J6 (.pair (.dat jK) (.pair (.own y2) (.pair J6 J6)))))))->Option (Y3 ([iQ]++[(true,(.pair (.dat oK) (.pair J6 (.pair J6 (.pair (.dat jK) (.pair (.own y2) (.pair J6 J6)))))))]))) (r507:M.den (.box (.pair (.dat oK) (.pair J6 (.pair J6 (.pair (.dat jK) (.pair (.own y2) (.pair J6 J6)))))))->M.den J6->Option (Y3 ([iQ]++[(true,(.pair (.dat oK) (.pair J6 (.pair J6 (.pair (.dat jK) (.pair (.own y2) (.pair J6 J6)))))))]))):Env:=⟨57,eqs,tt,gl,[(426,b0M),(459,a1J),(486,b7r),(429,a3U),(460,⟨a5A,[iQ],[(true,(.pair (.dat oK) (.pair J6 (.pair J6 (.pair (.dat jK) (.pair (.own y2) (.pair J6 J6)))))))],λx=>r460 x⟩),(487,⟨a9O,[iQ],[(true,(.pair (.dat oK) (.pair J6 (.pair J6 (.pair (.dat jK) (.pair (.own y2) (.pair J6 J6)))))))],λx=>r487 x⟩)],[],[],[],[0],[],[]⟩
def b9r:Ann:=.leaf
def gp(r371:D6->Option (Bool×D6))(r427:D6->Int->Option (Bool×D6))(r460:D6->Option (Bool×D6))(r487:D6->Option (Bool×D6))(r507:D6->Int->Option (Bool×D6))(A:D6):Option (Bool×D6):=o5 (jb A 7 [45]) λx=>l7 x.1 (o5 (U1 x.2 1) λx=>o5 (kK x.1) λb=>l7 (I5 (D8 b 0)) (o5 (kK x.1) λc=>o5 (G7 (x.2.1,I8 .i64 x.2.2.1 2,x.2.2.2) c (L6 .i64 0 x.1.2.2.1)) λx=>some x) (o5 (r460 (x.2.1,I8 .i64 x.2.2.1 1,x.2.2.2)) λx=>l7 x.1 (o5 (G7 x.2 10 0) λx=>some x) (some (false,x.2)))) (o5 (jb x.2 1 [110,111,116]) λx=>l7 x.1 (o5 (r460 (x.2.1,I8 .i64 x.2.2.1 1,x.2.2.2)) λx=>l7 x.1 (o5 (G7 x.2 25 0) λx=>some x) (some (false,x.2))) (o5 (r487 x.2) λx=>some x))
def c2j:Ret:=⟨[(.tmp 2,iQ)],[(0,(true,(.pair (.dat oK) (.pair J6 (.pair J6 (.pair (.dat jK) (.pair (.own y2) (.pair J6 J6))))))))]⟩
def c4Y (r371:M.den (.box (.pair (.dat oK) (.pair J6 (.pair J6 (.pair (.dat jK) (.pair (.own y2) (.pair J6 J6)))))))->Option (Y3 ([iQ]++[(true,(.pair (.dat oK) (.pair J6 (.pair J6 (.pair (.dat jK) (.pair (.own y2) (.pair J6 J6)))))))]))) (r427:M.den (.box (.pair (.dat oK) (.pair J6 (.pair J6 (.pair (.dat jK) (.pair (.own y2) (.pair J6 J6)))))))->M.den J6->Option (Y3 ([iQ]++[(true,(.pair (.dat oK) (.pair J6 (.pair J6 (.pair (.dat jK) (.pair (.own y2) (.pair J6 J6)))))))]))) (r460:M.den (.box (.pair (.dat oK) (.pair J6 (.pair J6 (.pair (.dat jK) (.pair (.own y2) (.pair J6 J6)))))))->Option (Y3 ([iQ]++[(true,(.pair (.dat oK) (.pair J6 (.pair J6 (.pair (.dat jK) (.pair (.own y2) (.pair J6 J6)))))))]))) (r487:M.den (.box (.pair (.dat oK) (.pair J6 (.pair J6 (.pair (.dat jK) (.pair (.own y2) (.pair J6 J6)))))))->Option (Y3 ([iQ]++[(true,(.pair (.dat oK) (.pair J6 (.pair J6 (.pair (.dat jK) (.pair (.own y2) (.pair J6 J6)))))))]))) (r507:M.den (.box (.pair (.dat oK) (.pair J6 (.pair J6 (.pair (.dat jK) (.pair (.own y2) (.pair J6 J6)))))))->M.den J6->Option (Y3 ([iQ]++[(true,(.pair (.dat oK) (.pair J6 (.pair J6 (.pair (.dat jK) (.pair (.own y2) (.pair J6 J6)))))))]))):Env:=⟨126,eqs,tt,gl,[(459,a1J),(486,b7r),(429,a3U),(426,b0M),(371,⟨Yt,[iQ],[(true,(.pair (.dat oK) (.pair J6 (.pair J6 (.pair (.dat jK) (.pair (.own y2) (.pair J6 J6)))))))],λx=>r371 x⟩),(505,b7s),(372,a3T),(506,c3M),(507,⟨a9P,[iQ],[(true,(.pair (.dat oK) (.pair J6 (.pair J6 (.pair (.dat jK) (.pair (.own y2) (.pair J6 J6)))))))],λx=>r507 x.1 x.2⟩),(508,c3N)],[],[],[],[0],[],[]⟩
def b9s:Ann:=.leaf
def gY(r371:D6->Option (Bool×D6))(r427:D6->Int->Option (Bool×D6))(r460:D6->Option (Bool×D6))(r487:D6->Option (Bool×D6))(r507:D6->Int->Option (Bool×D6))(A:D6):Option (Bool×D6):=o5 (U1 A 0) λx=>o5 (kK x.1) λd=>l7 (I5 (D8 d 0)) (o5 (kK x.1) λb=>o5 (G7 (x.2.1,I8 .i64 x.2.2.1 1,x.2.2.2) b x.1.2.2.1) λx=>some x) (l7 (D8 x.1.1 5) (o5 (G7 (x.2.1,I8 .i64 x.2.2.1 1,x.2.2.2) 5 x.1.2.2.1) λx=>some x) (o5 (jb x.2 7 [40]) λb=>l7 b.1 (o5 (r371 (b.2.1,I8 .i64 b.2.2.1 1,b.2.2.2)) λx=>l7 x.1 (o5 (O9 x.2 [41]) λx=>some x) (some (false,x.2))) (l7 (I5 (D8 x.1.1 1)) (o5 (bQ b.2 2) λx=>some x) (l7 (seq x.1.2.1 [116,114,117,101]) (o5 (G7 (b.2.1,I8 .i64 b.2.2.1 1,b.2.2.2) 1 1) λx=>some x) (l7 (seq x.1.2.1 [102,97,108,115,101]) (o5 (G7 (b.2.1,I8 .i64 b.2.2.1 1,b.2.2.2) 1 0) λx=>some x) (l7 (seq x.1.2.1 [116,111,100,97,121]) (o5 (G7 (b.2.1,I8 .i64 b.2.2.1 1,b.2.2.2) 9 0) λx=>some x) (o5 (lY x.1.2.1) λf=>l7 (I5 (D8 f 0)) (o5 (O9 (b.2.1,I8 .i64 b.2.2.1 1,b.2.2.2) [40]) λc=>l7 c.1 (o5 (lY x.1.2.1) λx=>o5 (r507 c.2 x) λx=>l7 x.1 (o5 (O9 x.2 [41]) λx=>some x) (some (false,x.2))) (some (false,c.2))) (o5 (dJ b.2) λx=>some x))))))))
def c2k:Ret:=⟨[(.tmp 4,iQ)],[(0,(true,(.pair (.dat oK) (.pair J6 (.pair J6 (.pair (.dat jK) (.pair (.own y2) (.pair J6 J6))))))))]⟩
def c4Z (r371:M.den (.box (.pair (.dat oK) (.pair J6 (.pair J6 (.pair (.dat jK) (.pair (.own y2) (.pair J6 J6)))))))->Option (Y3 ([iQ]++[(true,(.pair (.dat oK) (.pair J6 (.pair J6 (.pair (.dat jK) (.pair (.own y2) (.pair J6 J6)))))))]))) (r427:M.den (.box (.pair (.dat oK) (.pair J6 (.pair J6 (.pair (.dat jK) (.pair (.own y2) (.pair J6 J6)))))))->M.den J6->Option (Y3 ([iQ]++[(true,(.pair (.dat oK) (.pair J6 (.pair J6 (.pair (.dat jK) (.pair (.own y2) (.pair J6 J6)))))))]))) (r460:M.den (.box (.pair (.dat oK) (.pair J6 (.pair J6 (.pair (.dat jK) (.pair (.own y2) (.pair J6 J6)))))))->Option (Y3 ([iQ]++[(true,(.pair (.dat oK) (.pair J6 (.pair J6 (.pair (.dat jK) (.pair (.own y2) (.pair J6 J6)))))))]))) (r487:M.den (.box (.pair (.dat oK) (.pair J6 (.pair J6 (.pair (.dat jK) (.pair (.own y2) (.pair J6 J6)))))))->Option (Y3 ([iQ]++[(true,(.pair (.dat oK) (.pair J6 (.pair J6 (.pair (.dat jK) (.pair (.own y2) (.pair J6 J6)))))))]))) (r507:M.den (.box (.pair (.dat oK) (.pair J6 (.pair J6 (.pair (.dat jK) (.pair (.own y2) (.pair J6 J6)))))))->M.den J6->Option (Y3 ([iQ]++[(true,(.pair (.dat oK) (.pair J6 (.pair J6 (.pair (.dat jK) (.pair (.own y2) (.pair J6 J6)))))))]))):Env:=⟨130,eqs,tt,gl,[(429,a3U),(511,b7t),(505,b7s),(371,⟨Yt,[iQ],[(true,(.pair (.dat oK) (.pair J6 (.pair J6 (.pair (.dat jK) (.pair (.own y2) (.pair J6 J6)))))))],λx=>r371 x⟩),(512,c3O)],[],[],[],[0],[],[]⟩
def b9t:Ann:=.seq O7 (.seq (.joinR [(0,1),(4,10),(12,89),(1000000,1000002)] ⟨[(0,(false,(.box (.pair (.dat oK) (.pair J6 (.pair J6 (.pair (.dat jK) (.pair (.own y2) (.pair J6 J6)))))))))],[]⟩ (.seq O7 (.blk (.seq O7 (.cond O7 (.seq (.join [(18,23)] ⟨[(18,iQ)],[]⟩ O7) (.cond O7 (.seq (.join [(40,43)] ⟨[(40,iQ)],[]⟩ O7) O7)))))))) O7)
def bn(r371:D6->Option (Bool×D6))(r427:D6->Int->Option (Bool×D6))(r460:D6->Option (Bool×D6))(r487:D6->Option (Bool×D6))(r507:D6->Int->Option (Bool×D6))(A:D6)(B:Int):Option (Bool×D6):=o5 (l7 (D8 B 35) (o5 (G7 A B 0) λx=>some (.inr x)) (o5 (l7 (D8 B 36) (some (D8 B 36)) (l7 (D8 B 37) (some (D8 B 37)) (l7 (D8 B 38) (some (D8 B 38)) (some (D8 B 39))))) λx=>l7 x (o5 (eX A A.2.2.2.1.2.2.2.2) λx=>l7 x.2.1 (o5 (G7 x.2.2 B x.1) λx=>some (.inr x)) (some (.inr (false,x.2.2)))) (o5 (l7 (D8 B 33) (some (D8 B 33)) (some (D8 B 34))) λx=>l7 x (o5 (eX A A.2.2.2.1.2.1) λx=>l7 (I5 x.2.1) (some (.inr (false,x.2.2))) (o5 (O9 x.2.2 [44]) λd=>l7 (I5 d.1) (some (.inr (false,d.2))) (o5 (r371 d.2) λb=>l7 (I5 b.1) (some (.inr (false,b.2))) (l7 (D8 B 33) (o5 (G7 b.2 B x.1) λx=>some (.inr x)) (o5 (O9 b.2 [44]) λf=>l7 (I5 f.1) (some (.inr (false,f.2))) (o5 (dI f.2) λc=>l7 c.2.1 (o5 (G7 c.2.2 B (I8 .i64 (Qw .i64 8 x.1) c.1)) λx=>some (.inr x)) (some (.inr (false,c.2.2))))))))) (some (.inl A))))) λo=>dU o (λ(x:D6)=>o5 (r371 x) λx=>l7 (I5 x.1) (some (false,x.2)) (l7 (D8 B 31) (l7 (D8 B 31) (o5 (G7 x.2 B 0) λx=>some x) (o5 (O9 x.2 [44]) λx=>l7 (I5 x.1) (some (false,x.2)) (o5 (r371 x.2) λx=>l7 (I5 x.1) (some (false,x.2)) (l7 (D8 B 14) (l7 (D8 B 14) (o5 (O9 x.2 [44]) λx=>l7 (I5 x.1) (some (false,x.2)) (o5 (dI x.2) λx=>l7 x.2.1 (o5 (G7 x.2.2 B x.1) λx=>some x) (some (false,x.2.2)))) (o5 (G7 x.2 B 0) λx=>some x)) (l7 (D8 B 15) (l7 (D8 B 15) (o5 (O9 x.2 [44]) λx=>l7 (I5 x.1) (some (false,x.2)) (o5 (dI x.2) λx=>l7 x.2.1 (o5 (G7 x.2.2 B x.1) λx=>some x) (some (false,x.2.2)))) (o5 (G7 x.2 B 0) λx=>some x)) (l7 (D8 B 16) (o5 (O9 x.2 [44]) λx=>l7 (I5 x.1) (some (false,x.2)) (o5 (dI x.2) λx=>l7 x.2.1 (o5 (G7 x.2.2 B x.1) λx=>some x) (some (false,x.2.2)))) (o5 (G7 x.2 B 0) λx=>some x))))))) (l7 (D8 B 32) (o5 (G7 x.2 B 0) λx=>some x) (o5 (O9 x.2 [44]) λx=>l7 (I5 x.1) (some (false,x.2)) (o5 (r371 x.2) λx=>l7 (I5 x.1) (some (false,x.2)) (l7 (D8 B 14) (l7 (D8 B 14) (o5 (O9 x.2 [44]) λx=>l7 (I5 x.1) (some (false,x.2)) (o5 (dI x.2) λx=>l7 x.2.1 (o5 (G7 x.2.2 B x.1) λx=>some x) (some (false,x.2.2)))) (o5 (G7 x.2 B 0) λx=>some x)) (l7 (D8 B 15) (l7 (D8 B 15) (o5 (O9 x.2 [44]) λx=>l7 (I5 x.1) (some (false,x.2)) (o5 (dI x.2) λx=>l7 x.2.1 (o5 (G7 x.2.2 B x.1) λx=>some x) (some (false,x.2.2)))) (o5 (G7 x.2 B 0) λx=>some x)) (l7 (D8 B 16) (o5 (O9 x.2 [44]) λx=>l7 (I5 x.1) (some (false,x.2)) (o5 (dI x.2) λx=>l7 x.2.1 (o5 (G7 x.2.2 B x.1) λx=>some x) (some (false,x.2.2)))) (o5 (G7 x.2 B 0) λx=>some x))))))))) λr=>some r
def o8:Nat->(M.den (.box (.pair (.dat oK) (.pair J6 (.pair J6 (.pair (.dat jK) (.pair (.own y2) (.pair J6 J6)))))))->Option (Y3 ([iQ]++[(true,(.pair (.dat oK) (.pair J6 (.pair J6 (.pair (.dat jK) (.pair (.own y2) (.pair J6 J6)))))))])))×(M.den (.box (.pair (.dat oK) (.pair J6 (.pair J6 (.pair (.dat jK) (.pair (.own y2) (.pair J6 J6)))))))->M.den J6->Option (Y3 ([iQ]++[(true,(.pair (.dat oK) (.pair J6 (.pair J6 (.pair (.dat jK) (.pair (.own y2) (.pair J6 J6)))))))])))×(M.den (.box (.pair (.dat oK) (.pair J6 (.pair J6 (.pair (.dat jK) (.pair (.own y2) (.pair J6 J6)))))))->Option (Y3 ([iQ]++[(true,(.pair (.dat oK) (.pair J6 (.pair J6 (.pair (.dat jK) (.pair (.own y2) (.pair J6 J6)))))))])))×(M.den (.box (.pair (.dat oK) (.pair J6 (.pair J6 (.pair (.dat jK) (.pair (.own y2) (.pair J6 J6)))))))->Option (Y3 ([iQ]++[(true,(.pair (.dat oK) (.pair J6 (.pair J6 (.pair (.dat jK) (.pair (.own y2) (.pair J6 J6)))))))])))×(M.den (.box (.pair (.dat oK) (.pair J6 (.pair J6 (.pair (.dat jK) (.pair (.own y2) (.pair J6 J6)))))))->M.den J6->Option (Y3 ([iQ]++[(true,(.pair (.dat oK) (.pair J6 (.pair J6 (.pair (.dat jK) (.pair (.own y2) (.pair J6 J6)))))))])))|0=>(λa0=>none,λa0 a1=>none,λa0=>none,λa0=>none,λa0 a1=>none)|n+1=>(λa0=>iZ (o8 n).1 (o8 n).2.1 (o8 n).2.2.1 (o8 n).2.2.2.1 (o8 n).2.2.2.2 a0,λa0 a1=>CO (o8 n).1 (o8 n).2.1 (o8 n).2.2.1 (o8 n).2.2.2.1 (o8 n).2.2.2.2 a0 a1,λa0=>gp (o8 n).1 (o8 n).2.1 (o8 n).2.2.1 (o8 n).2.2.2.1 (o8 n).2.2.2.2 a0,λa0=>gY (o8 n).1 (o8 n).2.1 (o8 n).2.2.1 (o8 n).2.2.2.1 (o8 n).2.2.2.2 a0,λa0 a1=>bn (o8 n).1 (o8 n).2.1 (o8 n).2.2.1 (o8 n).2.2.2.1 (o8 n).2.2.2.2 a0 a1)
def qA:M.den (.box (.pair (.dat oK) (.pair J6 (.pair J6 (.pair (.dat jK) (.pair (.own y2) (.pair J6 J6)))))))->Option (Y3 ([iQ]++[(true,(.pair (.dat oK) (.pair J6 (.pair J6 (.pair (.dat jK) (.pair (.own y2) (.pair J6 J6)))))))])):=λa0=>(o8 au).1 a0
def c3u:FSpec:=mkS Yt b5o λx=>qA x
def BB(A:List L9):Option (c5w×Int):=o5 (wP A) λx=>some (x.1,x.2.2)
def q55:FQ:=⟨[uD y12],⟨[(.tmp 2,uoM),(.tmp 3,Z4)],[]⟩,mE 15 [(97,s97)],O7⟩
def s55:FSpec:=dX q55 λx=>BB x
def c5k:List MG:=[(false,(.dat .str)),Z4]
def s95:FSpec:=⟨c5k,[(false,(.dat .str))],[],λx=>uw x.1 x.2⟩
def aV(A:Int)(B:Int):Option c5v:=o5 (iJ B) λx=>o5 (fH A) λc=>l7 (D8 x 0) (some c) (l7 (J4 A 0) (o5 (dM c 1 (x9 c)) λb=>l7 (U7 (x9 b) x) (o5 (uw [48] (L6 .i64 (I8 .i64 x 1) (x9 b))) λd=>o5 (ak d b) λf=>o5 (dM f 0 (L6 .i64 (x9 f) x)) λg=>o5 (ak [45] g) λi=>o5 (ak i [46]) λj=>o5 (dM f (L6 .i64 (x9 f) x) (x9 f)) λx=>o5 (ak j x) λx=>some x) (o5 (dM b 0 (L6 .i64 (x9 b) x)) λd=>o5 (ak [45] d) λf=>o5 (ak f [46]) λg=>o5 (dM b (L6 .i64 (x9 b) x) (x9 b)) λx=>o5 (ak g x) λx=>some x)) (l7 (U7 (x9 c) x) (o5 (uw [48] (L6 .i64 (I8 .i64 x 1) (x9 c))) λb=>o5 (ak b c) λd=>o5 (dM d 0 (L6 .i64 (x9 d) x)) λf=>o5 (ak [] f) λg=>o5 (ak g [46]) λi=>o5 (dM d (L6 .i64 (x9 d) x) (x9 d)) λx=>o5 (ak i x) λx=>some x) (o5 (dM c 0 (L6 .i64 (x9 c) x)) λb=>o5 (ak [] b) λd=>o5 (ak d [46]) λf=>o5 (dM c (L6 .i64 (x9 c) x) (x9 c)) λx=>o5 (ak f x) λx=>some x)))
def q92:FQ:=⟨[Z4,Z4],tR 4 (uD .str),mE 45 [(152,b7f),(35,s35),(95,s95)],O7⟩
def s92:FSpec:=dX q92 λx=>aV x.1 x.2
def DI(A:Int):c5z:=l7 (U7 0 A) (some (U7 A 109572)) (some false)
def q50:FQ:=⟨[Z4],tR 2 iQ,mE 9 [],O7⟩
def s50:FSpec:=dX q50 λx=>DI x
def GR(A:Int):Option GH:=o5 (DI A) λx=>l7 (I5 x) (some (0,0,0)) (o5 (fF (λ(x:Int)=>o5 (qy (I8 .i64 x 1)) λb=>l7 (U7 b A) (some (.inl (I8 .i64 x 1))) (some (.inr x))) (I8 .i64 1900 (dh .i64 A 366))) λy=>o5 (qy y) λx=>o5 (X5 (λ(x:L9)=>l7 (J4 x.2 12) (o5 (kP y (I8 .i64 x.2 1)) λb=>l7 (J4 x.1 b) (some (.rt (y,I8 .i64 x.2 1,I8 .i64 x.1 1))) (some (.nx (L6 .i64 x.1 b,I8 .i64 x.2 1)))) (some (.ex ()))) (L6 .i64 A x,0)) λo=>dU o (λy=>some (0,0,0)) λr=>some r)
def q51:FQ:=⟨[Z4],⟨[(.tmp 2,Z4),(.tmp 3,Z4),(.tmp 4,Z4)],[]⟩,mE 45 [(50,s50),(93,s93),(94,s94)],sN 3 (iC (pq (.loop [(5,6),(15,22)] ⟨[(5,Z4)],[]⟩ 0 ⟨[(5,Z4)],[]⟩ O7)) (sN 1 (iC (sN 1 (pq (lpR [(2,5),(6,9),(26,45)] ⟨[(6,Z4),(26,Z4)],[]⟩ 2 sgN O7))) O7)))⟩
def s51:FSpec:=dX q51 λx=>GR x
def DF(A:Int)(B:Int):Option c5v:=o5 (fH A) λx=>o5 (uw [48] (Fh 0 (L6 .i64 B (x9 x)))) λb=>o5 (ak b x) λx=>some x
def q52:FQ:=⟨[Z4,Z4],tR 4 (uD .str),mE 16 [(35,s35),(95,s95)],O7⟩
def s52:FSpec:=dX q52 λx=>DF x.1 x.2
def ut(A:Int):Option c5v:=o5 (DI A) λx=>l7 (I5 x) (some []) (o5 (GR A) λx=>o5 (DF x.1 4) λb=>o5 (ak b [45]) λc=>o5 (DF x.2.1 2) λd=>o5 (ak c d) λf=>o5 (ak f [45]) λg=>o5 (DF x.2.2 2) λx=>o5 (ak g x) λx=>some x)
def q31:FQ:=⟨[Z4],tR 2 (uD .str),mE 25 [(50,s50),(51,s51),(52,s52)],O7⟩
def s31:FSpec:=dX q31 λx=>ut x
def fK(A:GH)(B:List U2):Option (c5v×Int):=o5 (bg (A.1,A.2.1) B) λx=>l7 (I5 x) (some ([],8)) (o5 (iw A.2.2 (A.1,A.2.1) B) λx=>l7 (I5 x) (some ([],3)) (l7 (D8 A.1 1) (l7 (D8 A.2.2 0) (some ([102,97,108,115,101],0)) (some ([116,114,117,101],0))) (l7 (D8 A.1 2) (o5 (fH A.2.2) λx=>some (x,0)) (l7 (D8 A.1 3) (o5 (aV A.2.2 2) λx=>some (x,0)) (l7 (D8 A.1 4) (o5 (aV A.2.2 4) λx=>o5 (ak x [37]) λx=>some (x,0)) (l7 (D8 A.1 5) (o5 (ut A.2.2) λx=>some (x,0)) (o5 (P8 B A.2.1) λx=>o5 (P8 x.2 A.2.2) λx=>some (x,0))))))))
def q49:FQ:=⟨[tD y3,uD y1],⟨[(.tmp 4,(uD .str)),(.tmp 5,Z4)],[]⟩,mE 60 [(48,s48),(91,s91),(35,s35),(92,s92),(31,s31)],O7⟩
def s49:FSpec:=dX q49 λx=>fK x.1 x.2
def aC(A:c5v):Option I4:=some (A,7,false)
def c0e:FQ:=⟨[uD .str],cR 2 127 (tD y40),mE 5 [],O7⟩
def b0w:FSpec:=dX c0e λx=>aC x
def pz(A:L9):Option (I4×Int):=o5 (fK (A.1,0,A.2) []) λx=>l7 (I5 (D8 x.2 0)) (some (([],0,false),3)) (o5 (aC x.1) λx=>l7 (D8 A.1 2) (l7 (J4 A.2 0) (some ((x.1,6,true),0)) (some ((x.1,x.2.1,true),0))) (l7 (D8 A.1 3) (l7 (J4 A.2 0) (some ((x.1,6,true),0)) (some ((x.1,x.2.1,true),0))) (l7 (D8 A.1 4) (l7 (J4 A.2 0) (some ((x.1,6,D8 A.1 4),0)) (some ((x.1,x.2.1,D8 A.1 4),0))) (some ((x.1,x.2.1,D8 A.1 4),0)))))
def q98:FQ:=⟨[tD y2],⟨[(.cell 2 127,tD y40),(.tmp 3,Z4)],[]⟩,mE 44 [(49,s49),(101,b0w)],O7⟩
def s98:FSpec:=dX q98 λx=>pz x
def dY(A:L9)(B:D9):Option (I4×Int):=o5 (l7 (D8 A.1 6) (l7 (J4 A.2 0) (some (.inr (([],0,false),6))) (l7 (U7 (x9 B.1) (dh .i64 A.2 16)) (some (.inr (([],0,false),6))) (o5 (P8 B.1 (dh .i64 A.2 16)) λx=>o5 (ak x.1 [58]) λb=>some (.inl (([],0,false),x.2,iE A.2 16,b,[]))))) (l7 (D8 A.1 7) (some (.inl (([],0,false),B.2.2.1,A.2,[],[]))) (l7 (D8 A.1 8) (some (.inl (([],0,false),B.2.2.2.1,A.2,[],[]))) (o5 (gU A.1) λx=>o5 (ak x [40]) λx=>some (.inl (([],0,false),B.2.2.2.2,A.2,x,[41])))))) λo=>dU o (λ(x:I4×List c5v×Int×c5v×c5v)=>l7 (J4 x.2.2.1 0) (some (([],0,false),6)) (l7 (U7 (x9 x.2.1) x.2.2.1) (some (([],0,false),6)) (o5 (P8 x.2.1 x.2.2.1) λb=>o5 (ak x.2.2.2.1 b) λc=>o5 (ak c x.2.2.2.2) λx=>o5 (aC x) λx=>some (x,0)))) λr=>some r
def q99:FQ:=⟨[tD y2,tD jK],⟨[(.cell 4 127,tD y40),(.tmp 5,Z4)],[]⟩,mE 77 [(102,b0x),(101,b0w)],sN 2 (iC (jnR [(4,11),(15,59),(4000256,4000257)] ⟨[(4,(false,(.box (dT y40)))),(6,(uD (.sl .str))),(7,Z4),(8,(uD .str)),(9,(uD .str))],[]⟩ O7) O7)⟩
def s99:FSpec:=dX q99 λx=>dY x.1 x.2
def gW(A:L9)(B:I4)(C:D9):Option (I4×Int):=o5 (l7 (D8 A.1 34) (l7 (J4 0 A.2) (some (dh .i64 A.2 8)) (some A.2)) (some A.2)) λx=>o5 (l7 (J4 x 0) (some (.inr (([],0,false),6))) (l7 (U7 (x9 C.2.1) x) (some (.inr (([],0,false),6))) (some (.inl ([],0,false))))) λo=>dU o (λ(g:I4)=>o5 (gU A.1) λc=>o5 (ak c [40]) λd=>o5 (P8 C.2.1 x) λx=>o5 (ak d x) λx=>o5 (ak x [44,32]) λx=>o5 (ak x B.1) λx=>l7 (D8 A.1 34) (o5 (dL (iE A.2 8)) λb=>l7 (seq b []) (some (([],0,false),3)) (o5 (ak [44,32] b) λf=>o5 (ak x f) λx=>o5 (ak x [41]) λx=>o5 (aC x) λx=>some (x,0))) (o5 (ak x [41]) λx=>o5 (aC x) λx=>some (x,0))) λr=>some r
def c0d:FQ:=⟨[tD y2,tD y40,tD jK],⟨[(.cell 6 127,tD y40),(.tmp 7,Z4)],[]⟩,mE 63 [(102,b0x),(103,b3K),(101,b0w)],sN 2 (iC (.join [(8,9),(13,22)] ⟨[(8,Z4)],[]⟩ O7) (iC (jnR [(6,8),(22,32),(4000384,4000385)] ⟨[(6,(false,(.box (dT y40))))],[]⟩ O7) O7))⟩
def c2l:FSpec:=dX c0d λx=>gW x.1 x.2.1 x.2.2
def eP(A:I4)(B:Int):Option c5v:=l7 (J4 A.2.1 B) (o5 (ak [40] A.1) λx=>o5 (ak x [41]) λx=>some x) (some A.1)
def c0h:FQ:=⟨[tD y40,Z4],tR 4 (uD .str),mE 15 [],O7⟩
def c2n:FSpec:=dX c0h λx=>eP x.1 x.2
def W9(A:L9)(B:List I4)(C:D9):Option (I4×Int):=o5 (o5 (l7 (D8 A.1 1) (some (D8 A.1 1)) (l7 (D8 A.1 2) (some (D8 A.1 2)) (l7 (D8 A.1 3) (some (D8 A.1 3)) (l7 (D8 A.1 4) (some (D8 A.1 4)) (some (D8 A.1 5)))))) λx=>l7 x (o5 (pz A) λx=>some (.inr x)) (o5 (l7 (D8 A.1 6) (some (D8 A.1 6)) (l7 (D8 A.1 7) (some (D8 A.1 7)) (l7 (D8 A.1 8) (some (D8 A.1 8)) (l7 (D8 A.1 36) (some (D8 A.1 36)) (l7 (D8 A.1 37) (some (D8 A.1 37)) (l7 (D8 A.1 38) (some (D8 A.1 38)) (some (D8 A.1 39)))))))) λx=>l7 x (o5 (dY A C) λx=>some (.inr x)) (o5 (l7 (D8 A.1 33) (some (D8 A.1 33)) (some (D8 A.1 34))) λx=>l7 x (o5 (P8 B 0) λx=>o5 (gW A x C) λx=>some (.inr x)) (l7 (D8 A.1 9) (o5 (aC [116,111,100,97,121]) λx=>some (.inr (x,0))) (l7 (D8 A.1 35) (o5 (aC [99,111,117,110,116,40,41]) λx=>some (.inr (x,0))) (o5 (l7 (D8 A.1 31) (some (D8 A.1 31)) (some (D8 A.1 32))) λx=>l7 x (o5 (gU A.1) λx=>o5 (ak x [40]) λx=>o5 (P8 B 0) λb=>o5 (ak x b.1) λx=>o5 (ak x [41]) λx=>o5 (aC x) λx=>some (.inr (x,0))) (o5 (l7 (D8 A.1 17) (some (D8 A.1 17)) (l7 (D8 A.1 18) (some (D8 A.1 18)) (l7 (D8 A.1 27) (some (D8 A.1 27)) (l7 (D8 A.1 28) (some (D8 A.1 28)) (l7 (D8 A.1 29) (some (D8 A.1 29)) (some (D8 A.1 30))))))) λx=>l7 x (o5 (gU A.1) λx=>o5 (ak x [40]) λx=>o5 (P8 B 0) λb=>o5 (ak x b.1) λx=>o5 (ak x [44,32]) λx=>o5 (P8 B 1) λc=>o5 (ak x c.1) λx=>o5 (ak x [41]) λx=>o5 (aC x) λx=>some (.inr (x,0))) (o5 (l7 (D8 A.1 14) (some (D8 A.1 14)) (l7 (D8 A.1 15) (some (D8 A.1 15)) (some (D8 A.1 16)))) λx=>l7 x (o5 (dL A.2) λx=>l7 (seq x []) (some (.inr (([],0,false),3))) (o5 (gU A.1) λb=>o5 (ak b [40]) λc=>o5 (P8 B 0) λd=>o5 (ak c d.1) λf=>o5 (ak f [44,32]) λg=>o5 (P8 B 1) λi=>o5 (ak g i.1) λj=>o5 (ak j [44,32]) λk=>o5 (ak k x) λx=>o5 (ak x [41]) λx=>o5 (aC x) λx=>some (.inr (x,0)))) (l7 (D8 A.1 26) (o5 (P8 B 0) λx=>o5 (ak [105,102,32] x.1) λx=>o5 (ak x [32,116,104,101,110,32]) λx=>o5 (P8 B 1) λb=>o5 (ak x b.1) λx=>o5 (ak x [32,101,108,115,101,32]) λx=>o5 (P8 B 2) λc=>o5 (ak x c.1) λx=>some (.inr ((x,0,false),0))) (l7 (D8 A.1 25) (o5 (P8 B 0) λx=>o5 (eP x 6) λx=>o5 (ak [110,111,116,32] x) λx=>some (.inr ((x,6,false),0))) (l7 (D8 A.1 10) (o5 (P8 B 0) λx=>o5 (eP x 6) λx=>o5 (P8 B 0) λb=>l7 b.2.2 (o5 (P8 B 0) λx=>o5 (ak [40] x.1) λx=>o5 (ak x [41]) λx=>o5 (ak [45] x) λx=>some (.inr ((x,6,false),0))) (o5 (ak [45] x) λx=>some (.inr ((x,6,false),0)))) (some (.inl ([],0,false)))))))))))))) λo=>dU o (λ(x:I4)=>o5 (iK A.1) λx=>l7 (D8 x.2 3) (o5 (P8 B 0) λb=>o5 (eP b 4) λc=>o5 (ak c [32]) λd=>o5 (ak d x.1) λf=>o5 (ak f [32]) λg=>o5 (P8 B 1) λi=>o5 (eP i (I8 .i64 x.2 1)) λj=>o5 (ak g j) λk=>some ((k,x.2,false),0)) (o5 (P8 B 0) λb=>o5 (eP b x.2) λc=>o5 (ak c [32]) λd=>o5 (ak d x.1) λf=>o5 (ak f [32]) λg=>o5 (P8 B 1) λi=>o5 (eP i (I8 .i64 x.2 1)) λj=>o5 (ak g j) λk=>some ((k,x.2,false),0))) λr=>some r
def q58:FQ:=⟨[tD y2,uD y41,tD jK],⟨[(.cell 6 127,tD y40),(.tmp 7,Z4)],[]⟩,mE 203 [(98,s98),(99,s99),(100,c2l),(101,b0w),(102,b0x),(103,b3K),(104,c2n),(105,b7e)],sN 1 (iC (jnR [(6,11),(16,174),(4000384,4000385)] ⟨[(6,(false,(.box (dT y40))))],[]⟩ (sN 1 (pq (iC (.join [(18,24)] ⟨[(18,iQ)],[]⟩ O7) (.cond O7 (iC (.join [(28,36)] ⟨[(28,iQ)],[]⟩ O7) (.cond O7 (iC (.join [(41,44)] ⟨[(41,iQ)],[]⟩ O7) (.cond O7 (sN 1 (.cond O7 (sN 1 (.cond O7 (iC (.join [(58,61)] ⟨[(58,iQ)],[]⟩ O7) (.cond O7 (iC (.join [(72,79)] ⟨[(72,iQ)],[]⟩ O7) (.cond O7 (iC (.join [(96,100)] ⟨[(96,iQ)],[]⟩ O7) O7)))))))))))))))))) O7)⟩
def s58:FSpec:=dX q58 λx=>W9 x.1 x.2.1 x.2.2
def oN(A:List L9)(B:D9):Option (c5v×Int):=o5 (BB A) λx=>l7 (I5 (D8 x.2 0)) (some ([],x.2)) (o5 (X5 (λ(x:List I4×Int)=>l7 (J4 x.2 (x9 A)) (o5 (P8 A x.2) λc=>l7 (I5 (D8 c.2 0)) (o5 (dw c.1) λd=>l7 (I5 d) (some (.rt ([],2))) (o5 (lD c.1) λb=>l7 (nK (L6 .i64 (x9 x.1) b) (x9 x.1) (x9 x.1)) (o5 (W9 c (lq x.1 (dV (L6 .i64 (x9 x.1) b)) (dV (x9 x.1))) B) λf=>l7 (I5 (D8 f.2 0)) (some (.rt ([],f.2))) (l7 (nK 0 (L6 .i64 (x9 x.1) b) (x9 x.1)) (o5 (iy (lq x.1 (dV 0) (dV (L6 .i64 (x9 x.1) b))) [f.1]) λg=>some (.nx (g,I8 .i64 x.2 1))) none)) none)) (o5 (lD c.1) λd=>l7 (nK (L6 .i64 (x9 x.1) d) (x9 x.1) (x9 x.1)) (o5 (W9 c (lq x.1 (dV (L6 .i64 (x9 x.1) d)) (dV (x9 x.1))) B) λb=>l7 (I5 (D8 b.2 0)) (some (.rt ([],b.2))) (l7 (nK 0 (L6 .i64 (x9 x.1) d) (x9 x.1)) (o5 (iy (lq x.1 (dV 0) (dV (L6 .i64 (x9 x.1) d))) [b.1]) λf=>some (.nx (f,I8 .i64 x.2 1))) none)) none)) (some (.ex x.1))) ([],0)) λo=>dU o (λ(y:List I4)=>o5 (P8 y 0) λx=>o5 (jg y (dV 0)) λx=>some (x.1,0)) λr=>some r)
def q36:FQ:=⟨[uD y12,tD jK],⟨[(.tmp 4,(uD .str)),(.tmp 5,Z4)],[]⟩,mE 66 [(55,s55),(56,s56),(57,s57),(58,s58)],sN 3 (iC (sN 1 (pq (lpR [(4,6),(8,9),(10,14),(24,62)] ⟨[(8,(uO y40)),(24,Z4)],[]⟩ 0 ⟨[(8,(uO y40))],[]⟩ O7))) O7)⟩
def s36:FSpec:=dX q36 λx=>oN x.1 x.2
def sZ(A:c5v)(B:D9):Option (List L9×L9):=o5 (zM A) λx=>l7 (I5 (D8 x.2.2 0)) (some ([],x.2)) (o5 (o5 (qA (x.1,0,x9 A,B,[],0,0)) λb=>l7 b.1 (l7 (J4 b.2.2.1 (x9 x.1)) (o5 (bQ b.2 2) λx=>some x.2) (some b.2)) (some b.2)) λx=>l7 (I5 (D8 x.2.2.2.2.2.2 0)) (some ([],x.2.2.2.2.2)) (o5 (BB x.2.2.2.2.1) λb=>l7 (I5 (D8 b.2 0)) (some ([],0,b.2)) (o5 (oN x.2.2.2.2.1 B) λc=>l7 (I5 (D8 c.2 0)) (some ([],0,2)) (l7 (I5 (seq c.1 A)) (some ([],0,2)) (some (x.2.2.2.2.1,0,0))))))
def c1h:FQ:=⟨[uD .str,tD jK],⟨[(.tmp 4,uO y2),(.tmp 5,Z4),(.tmp 6,Z4)],[]⟩,mE 71 [(370,c3t),(371,c3u),(372,a3T),(55,s55),(36,s36)],sN 4 (iC (.join [(10,11),(30,39),(7001088,7001089),(20000640,20000641)] ⟨[(10,(false,(.box (pA (dT oK) (pA J6 (pA J6 (pA (dT jK) (pA (oW y2) (pA J6 J6)))))))))],[]⟩ O7) O7)⟩
def b7j:FSpec:=dX c1h λx=>sZ x.1 x.2
def ku(A:(Unit×Unit×Unit)×Unit×D9×Unit)(B:G5):Option (List L9×Int×G5):=l7 (I5 B.2) (some ([],2,B)) (o5 (Bg B.1 [32,105,115,32]) λx=>l7 (I5 x.2.2) (some ([],2,B)) (o5 (sZ x.1 A.2.2.1) λb=>some (b.1,b.2.2,x.2.1,B.2)))
def c1g:FQ:=⟨[(false,(.lp y90)),(false,(.box (dT y61)))],⟨[(.tmp 4,uO y2),(.tmp 5,Z4)],[(1,tD y61)]⟩,⟨44,eqs,tt,gl,[(297,b3N),(304,b7j)],[],[],[],[1],[],[]⟩,O7⟩
def c3g:FSpec:=dX c1g λx=>ku x.1 x.2
def iY(A:I7)(B:G5):Option (Int×I7×G5):=o5 (kY (((),(),A.1.2.2),(),((),(),(),(),()),()) B ([],0,-1,0,(0,0),[],[],[])) λx=>l7 (I5 (D8 x.2.1 0)) (some (x.2.1,A,x.2.2.1)) (o5 (l7 (I5 A.2.2.2) (o5 (jm A.1 (L6 .i64 (x9 A.1.2.2) 1)) λx=>some (A.1,A.2.1,x,true)) (some A)) λb=>o5 (l7 (seq x.1 [119,104,101,110]) (o5 (ku (((),(),()),(),b.2.2.1,()) x.2.2.1) λc=>l7 (I5 (D8 c.2.1 0)) (some (.inr (c.2.1,b,c.2.2))) (some (.inl (c.2.2,x.2.2.2.1,x.2.2.2.2.1,x.2.2.2.2.2.1,x.2.2.2.2.2.2.1,x.2.2.2.2.2.2.2.1,c.1,x.2.2.2.2.2.2.2.2.2)))) (l7 (I5 (seq x.1 [105,115])) (some (.inr (2,b,x.2.2.1))) (some (.inl x.2.2)))) λo=>dU o (λ(x:G5×U3)=>l7 (I5 x.1.2) (some (2,b,x.1)) (o5 (Bg x.1.1 [32,115,114,99,32,34]) λc=>o5 (sZ c.1 b.2.2.1) λf=>l7 (I5 (D8 f.2.2 0)) (some (f.2.2,b,x.1)) (l7 c.2.2 (o5 (rQ c.2.1 34) λi=>l7 (I5 (D8 i (L6 .i64 (x9 c.2.1) 1))) (some (2,b,x.1)) (l7 (J4 (x9 c.2.1) 2) (some (2,b,x.1)) (o5 (dM c.2.1 0 (L6 .i64 (x9 c.2.1) 1)) λj=>l7 (inb (L6 .i64 (x9 b.1.2.2) 1) (x9 b.1.2.2)) (o5 (jg b.1.2.2 (dV (L6 .i64 (x9 b.1.2.2) 1))) λd=>o5 (iy d.2.2.2.2 [(x.2.1,x.2.2.1,x.2.2.2.1,x.2.2.2.2.1,x.2.2.2.2.2.1,x.2.2.2.2.2.2.1,f.1,j)]) λk=>l7 (Ht (dV (L6 .i64 (x9 b.1.2.2) 1)) (dV (L6 .i64 (x9 b.1.2.2) 1))) (o5 (jg b.1.2.2 (dV (L6 .i64 (x9 b.1.2.2) 1))) λg=>some (0,((b.1.1,b.1.2.1,mQ b.1.2.2 (dV (L6 .i64 (x9 b.1.2.2) 1)) (g.1,g.2.1,g.2.2.1,g.2.2.2.1,k)),b.2),x.1)) none) none))) (l7 (inb (L6 .i64 (x9 b.1.2.2) 1) (x9 b.1.2.2)) (o5 (jg b.1.2.2 (dV (L6 .i64 (x9 b.1.2.2) 1))) λi=>o5 (iy i.2.2.2.2 [(x.2.1,x.2.2.1,x.2.2.2.1,x.2.2.2.2.1,x.2.2.2.2.2.1,x.2.2.2.2.2.2.1,f.1,x.2.2.2.2.2.2.2.2)]) λj=>l7 (Ht (dV (L6 .i64 (x9 b.1.2.2) 1)) (dV (L6 .i64 (x9 b.1.2.2) 1))) (o5 (jg b.1.2.2 (dV (L6 .i64 (x9 b.1.2.2) 1))) λd=>some (0,((b.1.1,b.1.2.1,mQ b.1.2.2 (dV (L6 .i64 (x9 b.1.2.2) 1)) (d.1,d.2.1,d.2.2.1,d.2.2.2.1,j)),b.2),x.1)) none) none)))) λr=>some r)
def c0U:FQ:=⟨[(false,(.box (pA (pA (oW y0) (pA (.owns (pA (dT .str) (pA (dT y2) (pA (dT y2) (oW y4))))) (.owns (pA (dT .str) (pA J6 (pA (oW y10) (pA (oW y10) (oW y19)))))))) (pA J6 (pA (dT jK) dbM))))),(false,(.box (dT y61)))],⟨[(.tmp 4,Z4)],[(0,(true,(pA (pA (oW y0) (pA (.owns (pA (dT .str) (pA (dT y2) (pA (dT y2) (oW y4))))) (.owns (pA (dT .str) (pA J6 (pA (oW y10) (pA (oW y10) (oW y19)))))))) (pA J6 (pA (dT jK) dbM))))),(1,tD y61)]⟩,⟨117,eqs,tt,gl,[(302,c3f),(14,s14),(303,c3g),(297,b3N),(304,b7j),(305,b7k)],[(23,(pA (dT .str) (pA (dT y2) (pA (dT y2) (oW y4))))),(24,(pA (dT .str) (pA J6 (pA (oW y10) (pA (oW y10) (oW y19))))))],[111],[],[0,1],[],[(225,2,5)]⟩,sN 4 (iC (.join [(0,1),(22,45),(1000000,1000004)] ⟨[(0,(false,(.box (pA (pA (oW y0) (pA (.owns (pA (dT .str) (pA (dT y2) (pA (dT y2) (oW y4))))) (.owns (pA (dT .str) (pA J6 (pA (oW y10) (pA (oW y10) (oW y19)))))))) (pA J6 (pA (dT jK) dbM))))))],[]⟩ O7) (iC (jnR [(1,2),(4,6),(7,8),(45,59),(1000004,1000005),(7000320,7000321)] ⟨[(1,(false,(.box (dT y61)))),(5,(false,(.box (dT y19))))],[]⟩ O7) O7))⟩
def c2Y:FSpec:=dX c0U λx=>iY x.1 x.2
def H9(A:I7)(B:c5v):Option (Int×I7):=o5 (H5 (B,true)) λx=>o5 (l7 (seq x.1 [101,110,117,109]) (some (D8 A.2.1 0)) (some false)) λb=>l7 b (o5 (kT A x.2.2) λx=>some (x.1,x.2.1)) (o5 (l7 (seq x.1 [116,97,98,108,101]) (some (U7 A.2.1 1)) (some false)) λc=>l7 c (o5 (kz (A.1,1,A.2.2) x.2.2) λx=>some (x.1,x.2.1)) (o5 (l7 (seq x.1 [114,111,119]) (some (D8 A.2.1 1)) (some false)) λd=>l7 d (o5 (lK A x.2.2) λx=>some (x.1,x.2.1)) (l7 (seq x.1 [115,99,111,112,101]) (o5 (kw (A.1,2,A.2.2) x.2.2) λx=>some (x.1,x.2.1)) (o5 (l7 (seq x.1 [109,101,109,98,101,114,115]) (some (D8 A.2.1 2)) (some false)) λf=>l7 f (o5 (jf (A.1,3,A.2.2) x.2.2) λx=>some (x.1,x.2.1)) (o5 (l7 (seq x.1 [105,110,112,117,116]) (l7 (U7 2 A.2.1) (some (U7 A.2.1 4)) (some false)) (some false)) λg=>l7 g (l7 (inb (L6 .i64 (x9 A.1.2.2) 1) (x9 A.1.2.2)) (l7 (inb (L6 .i64 (x9 A.1.2.2) 1) (x9 A.1.2.2)) (l7 (Ht (dV (L6 .i64 (x9 A.1.2.2) 1)) (dV (L6 .i64 (x9 A.1.2.2) 1))) (o5 (jZ (A.1,4,A.2.2) x.2.2 ()) λx=>some (x.1,x.2.1)) none) none) none) (o5 (l7 (seq x.1 [100,101,102]) (l7 (U7 2 A.2.1) (some (U7 A.2.1 5)) (some false)) (some false)) λi=>l7 i (l7 (inb (L6 .i64 (x9 A.1.2.2) 1) (x9 A.1.2.2)) (l7 (inb (L6 .i64 (x9 A.1.2.2) 1) (x9 A.1.2.2)) (l7 (Ht (dV (L6 .i64 (x9 A.1.2.2) 1)) (dV (L6 .i64 (x9 A.1.2.2) 1))) (o5 (iP (A.1,5,A.2.2) x.2.2 ()) λx=>some (x.1,x.2.1)) none) none) none) (l7 (seq x.1 [114,117,108,101]) (l7 (U7 2 A.2.1) (o5 (iY (A.1,6,A.2.2) x.2.2) λx=>some (x.1,x.2.1)) (some (2,A))) (some (2,A)))))))))
def c0C:FQ:=⟨[(false,(.box (pA (pA (oW y0) (pA (.owns (pA (dT .str) (pA (dT y2) (pA (dT y2) (oW y4))))) (.owns (pA (dT .str) (pA J6 (pA (oW y10) (pA (oW y10) (oW y19)))))))) (pA J6 (pA (dT jK) dbM))))),(uD .str)],⟨[(.tmp 4,Z4)],[(0,(true,(pA (pA (oW y0) (pA (.owns (pA (dT .str) (pA (dT y2) (pA (dT y2) (oW y4))))) (.owns (pA (dT .str) (pA J6 (pA (oW y10) (pA (oW y10) (oW y19)))))))) (pA J6 (pA (dT jK) dbM)))))]⟩,⟨151,eqs,tt,gl,[(219,LJ),(220,c2S),(221,c2T),(222,c2V),(223,c2W),(224,c2X),(226,b0K),(226,b0L),(227,c2Y)],[(23,(pA (dT .str) (pA (dT y2) (pA (dT y2) (oW y4))))),(24,(pA (dT .str) (pA J6 (pA (oW y10) (pA (oW y10) (oW y19))))))],[],[],[0],[],[(225,2,5)]⟩,sN 4 (iC (pq (iC (.join [(24,34)] ⟨[(24,iQ)],[]⟩ O7) (.cond O7 (iC (.join [(37,47)] ⟨[(37,iQ)],[]⟩ O7) (.cond O7 (iC (.join [(53,63)] ⟨[(53,iQ)],[]⟩ O7) (.cond O7 (sN 1 (.cond O7 (iC (.join [(75,85)] ⟨[(75,iQ)],[]⟩ O7) (.cond O7 (iC (.join [(91,104)] ⟨[(91,iQ)],[]⟩ O7) (.cond O7 (iC (.join [(115,128)] ⟨[(115,iQ)],[]⟩ O7) O7)))))))))))))) O7)⟩
def c2E:FSpec:=dX c0C λx=>H9 x.1 x.2
def vK(A:c5v):Option (O6×L9):=o5 (ji A) λx=>l7 (I5 (D8 x.2 0)) (some (([],[],[]),0,x.2)) (o5 (X5 (λ(b:O6×I7×Int)=>l7 (J4 b.2.2 (x9 x.1)) (o5 (P8 x.1 b.2.2) λc=>o5 (jg x.1 (dV b.2.2)) λx=>o5 (H9 b.2.1 x) λx=>l7 (I5 (D8 x.1 0)) (some (.rt (([],[],[]),b.2.2,x.1))) (some (.nx (b.1,x.2,I8 .i64 b.2.2 1)))) (some (.ex (b.1,b.2.1)))) (([],[],[]),(([],[],[]),0,([],[],[],[],[]),false),0)) λo=>dU o (λ(y:O6×I7)=>o5 (uN y.2.1) λb=>l7 (I5 (D8 b.1 0)) (some (([],[],[]),x9 x.1,b.1)) (some (y.2.1,0,0))) λr=>some r)
def c0j:FQ:=⟨[uD .str],⟨[(.cell 2 26,tD y27),(.tmp 3,Z4),(.tmp 4,Z4)],[]⟩,⟨56,eqs,tt,gl,[(18,s18),(158,c2E),(9,s9)],[(23,(pA (dT .str) (pA (dT y2) (pA (dT y2) (oW y4))))),(24,(pA (dT .str) (pA J6 (pA (oW y10) (pA (oW y10) (oW y19))))))],[],[],[],[],[]⟩,sN 4 (iC (sN 1 (pq (lpR [(2,5),(7,11),(25,39),(4000128,4000129),(20001408,20001409)] ⟨[(2,(false,(.box (dT y27)))),(7,(false,(.box (pA (pA (oW y0) (pA (.owns (pA (dT .str) (pA (dT y2) (pA (dT y2) (oW y4))))) (.owns (pA (dT .str) (pA J6 (pA (oW y10) (pA (oW y10) (oW y19)))))))) (pA J6 (pA (dT jK) dbM)))))),(25,Z4)],[]⟩ 0 ⟨[(2,(false,(.box (dT y27)))),(7,(false,(.box (pA (pA (oW y0) (pA (.owns (pA (dT .str) (pA (dT y2) (pA (dT y2) (oW y4))))) (.owns (pA (dT .str) (pA J6 (pA (oW y10) (pA (oW y10) (oW y19)))))))) (pA J6 (pA (dT jK) dbM))))))],[]⟩ O7))) O7)⟩
def c2o:FSpec:=dX c0j λx=>vK x
def uT(A:(O6×O6×Bool×Int×xK)×c5v)(B:c5v):Option ((O6×O6×Bool×Int×xK)×c5v):=o5 (vK B) λx=>l7 (I5 (D8 x.2.2 0)) (o5 (X6 A [some (9,.inl [101,114,114,111,114]),some (29,.inr (.i64,x.2.2)),some (9,.inl [108,105,110,101]),some (3,.inr (.i64,x.2.1))]) λx=>some x) (o5 (X6 ((x.1,A.1.2.1,false,0,0,[],[]),A.2) [some (9,.inl [108,97,119])]) λx=>some x)
def q59:FQ:=⟨[(false,(.mbx y76 81 5 0)),(uD .str)],⟨[],[(0,(false,(.mbx y76 81 5 0)))]⟩,⟨42,eqs,tt,gl,[(106,c2o),(19,s19)],[],[],[],[0],[],[]⟩,O7⟩
def s59:FSpec:=dX q59 λx=>uT x.1 x.2
def ai(A:c5v)(B:List c5v):Option c5v:=o5 (fF (λ(x:c5v×Int)=>l7 (J4 x.2 (x9 B)) (o5 (P8 B x.2) λb=>o5 (ak [32] b) λc=>o5 (ak x.1 c) λd=>some (.inl (d,I8 .i64 x.2 1))) (some (.inr x.1))) (A,0)) λy=>o5 (ak y [10]) λx=>some x
def q11:FQ:=⟨[uD .str,(uD (.sl .str))],tR 4 (uD .str),mE 20 [],sN 1 (iC (sN 1 (pq (.loop [(0,1),(6,7),(9,18)] ⟨[(0,(uD .str)),(9,Z4)],[]⟩ 0 ⟨[(0,(uD .str))],[]⟩ O7))) O7)⟩
def s11:FSpec:=dX q11 λx=>ai x.1 x.2
def b6N:List MG:=[(false,(.mbx .unit 52 5 0)),(false,(.dat .str))]
def b0z:FSpec:=⟨b6N,[Z4,(false,(.cell none))],[(false,(.mbx .unit 52 5 0))],λx=>ig x.1 x.2⟩
def jv(A:L9)(B:List U2):Option c5v:=l7 (D8 A.1 1) (some [98,111,111,108]) (l7 (D8 A.1 2) (some [105,110,116]) (l7 (D8 A.1 3) (some [109,111,110,101,121]) (l7 (D8 A.1 4) (some [114,97,116,101]) (l7 (D8 A.1 5) (some [100,97,116,101]) (o5 (P8 B A.2) λx=>some x.1)))))
def q12:FQ:=⟨[tD y2,uD y1],tR 4 (uD .str),mE 23 [],O7⟩
def s12:FSpec:=dX q12 λx=>jv x.1 x.2
def jR(A:Int)(B:L9)(C:List U2):Option c5v:=o5 (fK (B.1,B.2,A) C) λx=>some x.1
def q30:FQ:=⟨[Z4,tD y2,uD y1],tR 6 (uD .str),mE 21 [(49,s49)],O7⟩
def s30:FSpec:=dX q30 λx=>jR x.1 x.2.1 x.2.2
def qX(A:Int):Option c5v:=l7 (D8 A 109573) (some [101,110,100]) (o5 (ut A) λx=>some x)
def q32:FQ:=⟨[Z4],tR 2 (uD .str),mE 7 [(31,s31)],O7⟩
def s32:FSpec:=dX q32 λx=>qX x
def uZ(A:aP)(B:zq)(C:List U2):Option c5v:=o5 (jC A.2.1 C) λx=>l7 (U7 B.2.2.1 x.2) (o5 (jR B.2.2.1 A.2.1 C) λx=>o5 (ut B.1.1) λb=>o5 (qX B.1.2) λc=>o5 (jR B.2.1 A.2.1 C) λd=>o5 (jR B.2.2.2 A.2.2.1 C) λf=>o5 (ai [114,111,119] [b,c,d,x,f]) λx=>some x) (o5 (ut B.1.1) λx=>o5 (qX B.1.2) λb=>o5 (jR B.2.1 A.2.1 C) λc=>o5 (jR B.2.2.2 A.2.2.1 C) λd=>o5 (ai [114,111,119] [x,b,c,[101,110,100],d]) λx=>some x)
def q13:FQ:=⟨[tD y8,tD y4,uD y1],tR 6 (uD .str),mE 50 [(29,s29),(30,s30),(31,s31),(32,s32),(11,s11)],O7⟩
def s13:FSpec:=dX q13 λx=>uZ x.1 x.2.1 x.2.2
def qj(A:H6)(B:U3)(C:D9):Option c5v:=o5 (P8 A.2.2.2.1 B.2.1) λx=>o5 (l7 (U7 0 B.2.2.1) (o5 (P8 A.2.2.2.2 B.2.2.1) λb=>o5 (iy [B.1,[111,102],x.1] [[111,118,101,114],b.1]) λx=>some x) (some [B.1,[111,102],x.1])) λx=>o5 (l7 (I5 (D8 B.2.2.2.1 0)) (o5 (fH B.2.2.2.1) λb=>o5 (iy x [[112,114,105,111],b]) λx=>some x) (some x)) λx=>o5 (ut B.2.2.2.2.1.1) λb=>o5 (qX B.2.2.2.2.1.2) λg=>o5 (iy x [[102,114,111,109],b,[116,111],g]) λx=>l7 (J4 0 (x9 B.2.2.2.2.2.1)) (o5 (oN B.2.2.2.2.2.1 C) λc=>o5 (iy x [[119,104,101,110],c.1]) λx=>o5 (oN B.2.2.2.2.2.2.1 C) λd=>o5 (iy x [[105,115],d.1]) λx=>l7 (I5 (seq B.2.2.2.2.2.2.2 [])) (o5 (ak [34] B.2.2.2.2.2.2.2) λf=>o5 (ak f [34]) λi=>o5 (iy x [[115,114,99],i]) λx=>o5 (ai [114,117,108,101] x) λx=>some x) (o5 (ai [114,117,108,101] x) λx=>some x)) (o5 (oN B.2.2.2.2.2.2.1 C) λc=>o5 (iy x [[105,115],c.1]) λx=>l7 (I5 (seq B.2.2.2.2.2.2.2 [])) (o5 (ak [34] B.2.2.2.2.2.2.2) λd=>o5 (ak d [34]) λf=>o5 (iy x [[115,114,99],f]) λx=>o5 (ai [114,117,108,101] x) λx=>some x) (o5 (ai [114,117,108,101] x) λx=>some x))
def q15:FQ:=⟨[tD y24,tD y19,tD jK],tR 6 (uD .str),mE 93 [(35,s35),(31,s31),(32,s32),(36,s36),(11,s11)],sN 2 (iC (.join [(7,8),(22,35),(7001344,7001345)] ⟨[(7,(uO .str))],[]⟩ O7) (iC (.join [(7,8),(35,44),(9000000,9000001)] ⟨[(7,(uO .str))],[]⟩ O7) O7))⟩
def s15:FSpec:=dX q15 λx=>qj x.1 x.2.1 x.2.2
def c5f:List MG:=[(false,(.mbx .unit 52 5 0))]
def s16:FSpec:=⟨c5f,[Z4],[(false,(.mbx .unit 52 5 0))],λx=>Oe x⟩
def qH(A:O6):Option (c5v×nZ):=o5 (uN A) λx=>l7 (I5 (D8 x.1 0)) (some ([],x)) (o5 (fF (λ(x:c5v×Int)=>l7 (J4 x.2 (x9 A.1)) (o5 (P8 A.1 x.2) λb=>o5 (iy [b.1] b.2) λj=>o5 (ai [101,110,117,109] j) λi=>o5 (ig x.1 i) λk=>some (.inl (k.2.2,I8 .i64 x.2 1))) (some (.inr x.1))) ([],0)) λy=>o5 (fF (λ(x:c5v×Int)=>l7 (J4 x.2 (x9 A.2.1)) (o5 (P8 A.2.1 x.2) λb=>o5 (jv b.2.1 A.1) λj=>o5 (jv b.2.2.1 A.1) λi=>o5 (ai [116,97,98,108,101] [b.1,j,i]) λk=>o5 (ig x.1 k) λc=>o5 (fF (λ(x:c5v×Int)=>l7 (J4 x.2 (x9 b.2.2.2)) (o5 (P8 b.2.2.2 x.2) λd=>o5 (uZ b d A.1) λf=>o5 (ig x.1 f) λg=>some (.inl (g.2.2,I8 .i64 x.2 1))) (some (.inr x.1))) (c.2.2,0)) λy=>some (.inl (y,I8 .i64 x.2 1))) (some (.inr x.1))) (y,0)) λy=>o5 (fF (λ(x:c5v×Int)=>l7 (J4 x.2 (x9 A.2.2)) (o5 (P8 A.2.2 x.2) λb=>o5 (ai [115,99,111,112,101] [b.1]) λj=>o5 (ig x.1 j) λi=>o5 (l7 (U7 0 b.2.1) (o5 (P8 A.2.2 b.2.1) λx=>o5 (ai [109,101,109,98,101,114,115] [x.1]) λx=>o5 (ig i.2.2 x) λx=>some x.2.2) (some i.2.2)) λk=>o5 (fF (λ(x:c5v×Int)=>l7 (J4 x.2 (x9 b.2.2.1)) (o5 (P8 b.2.2.1 x.2) λc=>o5 (jv c.2 A.1) λd=>o5 (ai [105,110,112,117,116] [c.1,d]) λf=>o5 (ig x.1 f) λg=>some (.inl (g.2.2,I8 .i64 x.2 1))) (some (.inr x.1))) (k,0)) λy=>o5 (fF (λ(x:c5v×Int)=>l7 (J4 x.2 (x9 b.2.2.2.1)) (o5 (P8 b.2.2.2.1 x.2) λc=>o5 (jv c.2 A.1) λd=>o5 (ai [100,101,102] [c.1,d]) λf=>o5 (ig x.1 f) λg=>some (.inl (g.2.2,I8 .i64 x.2 1))) (some (.inr x.1))) (y,0)) λy=>o5 (jm A x.2) λc=>o5 (fF (λ(x:c5v×Int)=>l7 (J4 x.2 (x9 b.2.2.2.2)) (o5 (P8 b.2.2.2.2 x.2) λd=>o5 (qj b d c) λf=>o5 (ig x.1 f) λg=>some (.inl (g.2.2,I8 .i64 x.2 1))) (some (.inr x.1))) (y,0)) λy=>some (.inl (y,I8 .i64 x.2 1))) (some (.inr x.1))) (y,0)) λy=>o5 (Oe y) λx=>l7 (J4 65536 x.1) (some ([],4,0,0,0)) (o5 (yP x.2) λx=>some (x.1,0,0,0,0)))
def q6:FQ:=⟨[tD y27],⟨[(.tmp 2,(uD .str)),(.cell 3 31,tD y28)],[]⟩,mE 164 [(9,s9),(11,s11),(10,b0z),(12,s12),(13,s13),(14,s14),(15,s15),(16,s16),(17,b0I)],sN 3 (iC (sN 1 (pq (.loop [(5,6),(7,8),(30,43),(20000320,20000321)] ⟨[(5,(false,(.mbx .unit 52 5 0))),(30,Z4)],[]⟩ 0 ⟨[(5,(false,(.mbx .unit 52 5 0)))],[]⟩ O7))) (iC (sN 1 (pq (.loop [(5,6),(9,10),(11,12),(46,80),(28000000,28000002)] ⟨[(5,(false,(.mbx .unit 52 5 0))),(46,Z4)],[]⟩ 2 ⟨[(5,(false,(.mbx .unit 52 5 0)))],[]⟩ (sN 2 (iC (pq (sN 3 (pq (.loop [(5,6),(11,12),(68,79),(51000000,51000001),(67004097,67004098)] ⟨[(5,(false,(.mbx .unit 52 5 0))),(68,Z4)],[]⟩ 4 ⟨[(5,(false,(.mbx .unit 52 5 0)))],[]⟩ O7)))) O7))))) (iC (sN 1 (pq (.loop [(5,6),(12,14),(15,16),(17,19),(20,21),(83,159),(52000000,52000002)] ⟨[(5,(false,(.mbx .unit 52 5 0))),(83,Z4)],[]⟩ 6 ⟨[(5,(false,(.mbx .unit 52 5 0)))],[]⟩ (sN 2 (iC (pq (sN 2 (iC (.join [(5,6),(93,106),(99000000,99000001),(115005889,115005890)] ⟨[(5,(false,(.mbx .unit 52 5 0)))],[]⟩ O7) (iC (sN 1 (pq (.loop [(5,6),(15,16),(109,124),(117000000,117000002)] ⟨[(5,(false,(.mbx .unit 52 5 0))),(109,Z4)],[]⟩ 8 ⟨[(5,(false,(.mbx .unit 52 5 0)))],[]⟩ O7))) (iC (sN 1 (pq (.loop [(5,6),(17,18),(127,142),(131000000,131000002)] ⟨[(5,(false,(.mbx .unit 52 5 0))),(127,Z4)],[]⟩ 10 ⟨[(5,(false,(.mbx .unit 52 5 0)))],[]⟩ O7))) (sN 2 (pq (.loop [(5,6),(20,21),(148,158),(155000000,155000002)] ⟨[(5,(false,(.mbx .unit 52 5 0))),(148,Z4)],[]⟩ 12 ⟨[(5,(false,(.mbx .unit 52 5 0)))],[]⟩ O7)))))))) O7))))) O7)))⟩
def s6:FSpec:=dX q6 λx=>qH x
def zi(A:(O6×O6×Bool×Int×xK)×c5v)(B:Unit):Option ((O6×O6×Bool×Int×xK)×c5v):=l7 (I5 A.1.2.2.1) (o5 (X6 A [some (9,.inl [101,114,114,111,114]),some (29,.inr (.i64,6))]) λx=>some x) none
def b5d:FQ:=⟨[(false,(.mbx y76 81 5 0)),(false,(.fn 61 []))],⟨[],[(0,(false,(.mbx y76 81 5 0)))]⟩,⟨62,eqs,tt,gl,[(19,s19)],[],[],[],[0],[],[]⟩,O7⟩
def b5s:FSpec:=dX b5d λx=>zi x.1 x.2
def xe(A:(O6×O6×Bool×Int×xK)×c5v)(B:Unit):Option ((O6×O6×Bool×Int×xK)×c5v):=l7 (I5 A.1.2.2.1) (o5 (X6 A [some (9,.inl [101,114,114,111,114]),some (29,.inr (.i64,6))]) λx=>some x) none
def b5e:FQ:=⟨[(false,(.mbx y76 81 5 0)),(false,(.fn 62 []))],⟨[],[(0,(false,(.mbx y76 81 5 0)))]⟩,⟨62,eqs,tt,gl,[(19,s19)],[],[],[],[0],[],[]⟩,O7⟩
def b5t:FSpec:=dX b5e λx=>xe x.1 x.2
def xf(A:(O6×O6×Bool×Int×xK)×c5v)(B:Unit):Option ((O6×O6×Bool×Int×xK)×c5v):=l7 (I5 A.1.2.2.1) (o5 (X6 A [some (9,.inl [101,114,114,111,114]),some (29,.inr (.i64,6))]) λx=>some x) none
def b5f:FQ:=⟨[(false,(.mbx y76 81 5 0)),(false,(.fn 63 []))],⟨[],[(0,(false,(.mbx y76 81 5 0)))]⟩,⟨62,eqs,tt,gl,[(19,s19)],[],[],[],[0],[],[]⟩,O7⟩
def b5u:FSpec:=dX b5f λx=>xf x.1 x.2
def tN(A:O6):Option (List (c5v×iH)):=o5 (fF (λ(x:List (c5v×iH)×Int)=>l7 (J4 x.2 (x9 A.2.2)) (o5 (P8 A.2.2 x.2) λc=>l7 (OL (λ(a b:c5v)=>seq a b) x.1 c.1) (some (.inl (x.1,I8 .i64 x.2 1))) (o5 (fF (λ(x:List (c5v×Int)×Int)=>l7 (J4 x.2 (x9 c.2.2.2.2)) (o5 (P8 c.2.2.2.2 x.2) λd=>l7 (I5 (OL (λ(a b:c5v)=>seq a b) x.1 d.1)) (some (.inl (VG (λ(a b:c5v)=>seq a b) x.1 d.1 x.2,I8 .i64 x.2 1))) (some (.inl (x.1,I8 .i64 x.2 1)))) (some (.inr x.1))) ([],0)) λy=>some (.inl (VG (λ(a b:c5v)=>seq a b) x.1 c.1 (c,y),I8 .i64 x.2 1)))) (some (.inr x.1))) ([],0)) λy=>some y
def c0D:FQ:=⟨[tD y27],tR 2 (false,(oW (.ent false true .str y59))),mE 60 [],sN 2 (iC (sN 1 (pq (.loop [(3,4),(5,13),(17,59),(7000832,7000833)] ⟨[(3,(false,(oW (.ent false true .str y59)))),(17,Z4)],[]⟩ 0 ⟨[(3,(false,(oW (.ent false true .str y59))))],[]⟩ (sN 2 (iC (pq (sN 3 (iC (sN 1 (pq (.loop [(8,13),(33,52),(40001856,40001857)] ⟨[(8,(false,(oW (.ent false false .str (.int .i64))))),(33,Z4)],[]⟩ 2 ⟨[(8,(false,(oW (.ent false false .str (.int .i64)))))],[]⟩ O7))) O7))) O7))))) O7)⟩
def c2F:FSpec:=dX c0D λx=>tN x
def jF(A:List (c5v×iH))(B:c5v)(C:c5v):Option (H6×Int×Bool):=l7 (I5 (OL (λ(a b:c5v)=>seq a b) A B)) (some (([],0,[],[],[]),0,false)) (l7 (I5 (OL (λ(a b:c5v)=>seq a b) (Xl (λ(a b:c5v)=>seq a b) A B (([],0,[],[],[]),[])).2 C)) (some (([],0,[],[],[]),0,false)) (some ((Xl (λ(a b:c5v)=>seq a b) A B (([],0,[],[],[]),[])).1,Xl (λ(a b:c5v)=>seq a b) (Xl (λ(a b:c5v)=>seq a b) A B (([],0,[],[],[]),[])).2 C 0,true)))
def c0E:FQ:=⟨[uD y60,(uD .str),(uD .str)],⟨[(.cell 6 46,tD y24),(.tmp 7,Z4),(.tmp 8,iQ)],[]⟩,mE 34 [],O7⟩
def c2G:FSpec:=dX c0E λx=>jF x.1 x.2.1 x.2.2
def nV(A:H6)(B:U3):Option oQ:=o5 (l7 (U7 0 B.2.1) (l7 (J4 B.2.1 (x9 A.2.2.2.1)) (o5 (P8 A.2.2.2.1 B.2.1) λx=>some (x.1,[],B.2.2.2.1,B.2.2.2.2.1,B.2.2.2.2.2.2.2)) (some ([],[],B.2.2.2.1,B.2.2.2.2.1,B.2.2.2.2.2.2.2))) (some ([],[],B.2.2.2.1,B.2.2.2.2.1,B.2.2.2.2.2.2.2))) λx=>l7 (U7 0 B.2.2.1) (l7 (J4 B.2.2.1 (x9 A.2.2.2.2)) (o5 (P8 A.2.2.2.2 B.2.2.1) λb=>some (x.1,b.1,x.2.2)) (some x)) (some x)
def c0V:FQ:=⟨[tD y24,tD y19],cR 4 390 (tD y65),mE 52 [],sN 2 (iC (.join [(5,6),(13,32),(7000320,7000321)] ⟨[(5,(false,(.box (dT y65))))],[]⟩ O7) O7)⟩
def c2Z:FSpec:=dX c0V λx=>nV x.1 x.2
def gK(A:List L9)(B:List L9):c5z:=l7 (I5 (D8 (x9 A) (x9 B))) (some false) (o5 (X5 (λ(x:Int)=>l7 (J4 x (x9 A)) (o5 (P8 A x) λb=>o5 (P8 B x) λc=>l7 (I5 (qM (D8 b.1 c.1) (D8 b.2 c.2))) (some (.rt false)) (some (.nx (I8 .i64 x 1)))) (some (.ex ()))) 0) λo=>dU o (λy=>some true) λr=>some r)
def c0W:FQ:=⟨[uD y12,uD y12],tR 4 iQ,mE 26 [],sN 2 (iC (sN 1 (pq (lpR [(4,6),(13,26)] ⟨[(13,Z4)],[]⟩ 0 sgN O7))) O7)⟩
def c3a:FSpec:=dX c0W λx=>gK x.1 x.2
def xA(A:H6)(B:Int)(C:H6)(D:Int):c5z:=o5 (P8 A.2.2.2.2 B) λx=>o5 (P8 C.2.2.2.2 D) λd=>o5 (nV A x) λb=>o5 (nV C d) λc=>l7 (qM (seq b.1 c.1) (qM (seq b.2.1 c.2.1) (qM (D8 b.2.2.1 c.2.2.1) (qM (D8 b.2.2.2.1.1 c.2.2.2.1.1) (qM (D8 b.2.2.2.1.2 c.2.2.2.1.2) (seq b.2.2.2.2 c.2.2.2.2)))))) (o5 (gK x.2.2.2.2.2.1 d.2.2.2.2.2.1) λf=>l7 f (o5 (gK x.2.2.2.2.2.2.1 d.2.2.2.2.2.2.1) λx=>some x) (some false)) (some false)
def c0F:FQ:=⟨[tD y24,Z4,tD y24,Z4],tR 8 iQ,mE 42 [(248,c2Z),(249,c3a)],O7⟩
def c2H:FSpec:=dX c0F λx=>xA x.1 x.2.1 x.2.2.1 x.2.2.2
def je(A:O6)(B:O6):Option (List xm):=o5 (tN A) λx=>o5 (tN B) λg=>o5 (fF (λ(x:List xm×Int)=>l7 (J4 x.2 (x9 A.2.2)) (o5 (P8 A.2.2 x.2) λb=>o5 (fF (λ(x:List xm×Int)=>l7 (J4 x.2 (x9 b.2.2.2.2)) (o5 (P8 b.2.2.2.2 x.2) λd=>o5 (jF g b.1 d.1) λc=>l7 (I5 c.2.2) (o5 (iy x.1 [(b.1,d.1,1)]) λf=>some (.inl (f,I8 .i64 x.2 1))) (o5 (xA b x.2 c.1 c.2.1) λf=>l7 (I5 f) (o5 (iy x.1 [(b.1,d.1,3)]) λi=>some (.inl (i,I8 .i64 x.2 1))) (some (.inl (x.1,I8 .i64 x.2 1))))) (some (.inr x.1))) (x.1,0)) λy=>some (.inl (y,I8 .i64 x.2 1))) (some (.inr x.1))) ([],0)) λy=>o5 (fF (λ(b:List xm×Int)=>l7 (J4 b.2 (x9 B.2.2)) (o5 (P8 B.2.2 b.2) λd=>o5 (fF (λ(c:List xm×Int)=>l7 (J4 c.2 (x9 d.2.2.2.2)) (o5 (P8 d.2.2.2.2 c.2) λf=>o5 (jF x d.1 f.1) λx=>l7 (I5 x.2.2) (o5 (iy c.1 [(d.1,f.1,2)]) λx=>some (.inl (x,I8 .i64 c.2 1))) (some (.inl (c.1,I8 .i64 c.2 1)))) (some (.inr c.1))) (b.1,0)) λy=>some (.inl (y,I8 .i64 b.2 1))) (some (.inr b.1))) (y,0)) λy=>some y
def c0k:FQ:=⟨[tD y27,tD y27],tR 4 (uO y52),mE 114 [(173,c2F),(174,c2G),(175,c2H)],sN 3 (iC (sN 1 (pq (.loop [(7,8),(9,15),(29,77)] ⟨[(7,(uO y52)),(29,Z4)],[]⟩ 0 ⟨[(7,(uO y52))],[]⟩ (sN 2 (iC (pq (sN 2 (pq (.loop [(7,8),(10,15),(36,76),(17000000,17000001)] ⟨[(7,(uO y52)),(36,Z4)],[]⟩ 2 ⟨[(7,(uO y52))],[]⟩ O7)))) O7))))) (iC (sN 1 (pq (.loop [(7,8),(16,17),(18,22),(80,113),(18000000,18000001)] ⟨[(7,(uO y52)),(80,Z4)],[]⟩ 4 ⟨[(7,(uO y52))],[]⟩ (sN 2 (iC (pq (sN 2 (pq (.loop [(7,8),(18,22),(87,112),(76000000,76000001)] ⟨[(7,(uO y52)),(87,Z4)],[]⟩ 6 ⟨[(7,(uO y52))],[]⟩ O7)))) O7))))) O7))⟩
def c2p:FSpec:=dX c0k λx=>je x.1 x.2
def Aa(A:Int):Option c5v:=l7 (D8 A 1) (some [114,101,109,111,118,101,100]) (l7 (D8 A 2) (some [97,100,100,101,100]) (some [109,111,100,105,102,105,101,100]))
def c0l:FQ:=⟨[Z4],tR 2 (uD .str),mE 8 [],O7⟩
def c2r:FSpec:=dX c0l λx=>Aa x
def xP(A:(O6×O6×Bool×Int×xK)×c5v):Option ((O6×O6×Bool×Int×xK)×c5v):=o5 (je A.1.2.1 A.1.1) λx=>l7 (D8 (x9 x) 0) (o5 (X6 A [some (9,.inl [110,111,110,101])]) λb=>o5 (fF (λ(c:((O6×O6×Bool×Int×xK)×c5v)×Int)=>l7 (J4 c.2 (x9 x)) (o5 (P8 x c.2) λd=>o5 (jg x (dV c.2)) λx=>o5 (Aa x.2.2) λf=>o5 (X6 c.1 [some (9,.inl f),some (9,.inl x.1),some (9,.inl x.2.1)]) λx=>some (.inl (x,I8 .i64 c.2 1))) (some (.inr c.1))) (b,0)) λy=>some y) (o5 (fF (λ(b:((O6×O6×Bool×Int×xK)×c5v)×Int)=>l7 (J4 b.2 (x9 x)) (o5 (P8 x b.2) λc=>o5 (jg x (dV b.2)) λx=>o5 (Aa x.2.2) λd=>o5 (X6 b.1 [some (9,.inl d),some (9,.inl x.1),some (9,.inl x.2.1)]) λx=>some (.inl (x,I8 .i64 b.2 1))) (some (.inr b.1))) (A,0)) λy=>some y)
def q64:FQ:=⟨[(false,(.mbx y76 81 5 0))],⟨[],[(0,(false,(.mbx y76 81 5 0)))]⟩,⟨41,eqs,tt,gl,[(118,c2p),(19,s19),(119,c2r)],[],[],[],[0],[],[]⟩,sN 3 (pq (.loop [(0,1),(4,5),(23,41),(1000000,1000002),(11001281,11001282)] ⟨[(0,(false,(.mbx y76 81 5 0))),(23,Z4)],[]⟩ 0 ⟨[(0,(false,(.mbx y76 81 5 0)))],[]⟩ O7))⟩
def s64:FSpec:=dX q64 λx=>xP x
def bf(A:(O6×O6×Bool×Int×xK)×c5v)(B:c5v)(C:c5v):Option ((O6×O6×Bool×Int×xK)×c5v):=l7 (seq B [33,108,97,119]) (o5 (uT A C) λx=>some x) (l7 (seq B [33,111,108,100]) (o5 (X6 ((A.1.1,A.1.1,A.1.2.2),A.2) [some (9,.inl [111,108,100])]) λx=>some x) (l7 (seq B [33,112,114,105,110,116]) (o5 (qH A.1.1) λx=>l7 (I5 (D8 x.2.1 0)) (o5 (X6 A [some (9,.inl [101,114,114,111,114]),some (29,.inr (.i64,x.2.1))]) λx=>some x) (o5 (mW y76 A x.1) λx=>some x.2.2)) (l7 (seq B [33,114,117,110]) (o5 (zi A ()) λx=>some x) (l7 (seq B [33,99,111,109,112,105,108,101,100]) (o5 (xe A ()) λx=>some x) (l7 (seq B [33,116,97,98,108,101,115]) (o5 (xf A ()) λx=>some x) (l7 (seq B [33,100,105,102,102]) (o5 (xP A) λx=>some x) (o5 (X6 A [some (9,.inl [101,114,114,111,114]),some (29,.inr (.i64,1))]) λx=>some x)))))))
def q38:FQ:=⟨[(false,(.mbx y76 81 5 0)),(uD .str),(uD .str)],⟨[],[(0,(false,(.mbx y76 81 5 0)))]⟩,⟨73,eqs,tt,gl,[(59,s59),(19,s19),(6,s6),(10,b0y),(60,b5s),(60,b5t),(60,b5u),(64,s64)],[],[],[],[0],[],[]⟩,O7⟩
def s38:FSpec:=dX q38 λx=>bf x.1 x.2.1 x.2.2
def pK(A:(O6×O6×Bool×Int×xK)×c5v)(B:List c5v)(C:c5v):Option ((O6×O6×Bool×Int×xK)×c5v):=l7 (D8 (x9 B) 1) (o5 (P8 B 0) λx=>o5 (bf A x C) λx=>some x) (l7 (D8 (x9 B) 2) (o5 (P8 B 0) λx=>l7 (seq x [33,99,97,115,101]) (o5 (P8 B 1) λx=>none) (o5 (P8 B 0) λx=>o5 (P8 B 1) λx=>none)) (o5 (X6 A [some (9,.inl [101,114,114,111,114]),some (29,.inr (.i64,1))]) λx=>some x))
def q22:FQ:=⟨[(false,(.mbx y76 81 5 0)),(uD (.sl .str)),(uD .str)],⟨[],[(0,(false,(.mbx y76 81 5 0)))]⟩,⟨41,eqs,tt,gl,[(38,s38),(19,s19)],[],[],[],[0],[],[]⟩,O7⟩
def s22:FSpec:=dX q22 λx=>pK x.1 x.2.1 x.2.2
def b6R:List MG:=[(false,(.mbx .unit 52 5 0)),(false,(.dat (.int .u8)))]
def b5r:FSpec:=⟨b6R,[(false,(.cell none))],[(false,(.mbx .unit 52 5 0))],λx=>FC x.1 x.2⟩
def yM(A:c5v):Option c5v:=o5 (ji A) λx=>l7 (I5 (D8 x.2 0)) (o5 (X6 ((([],[],[]),([],[],[]),false,0,0,[],[]),[]) [some (9,.inl [101,114,114,111,114]),some (29,.inr (.i64,x.2))]) λx=>o5 (um y76 x) λx=>some x.1) (o5 (fF (λ(b:((O6×O6×Bool×Int×xK)×c5v)×c5v×Int)=>l7 (J4 b.2.2 (x9 x.1)) (o5 (P8 x.1 b.2.2) λg=>o5 (jg x.1 (dV b.2.2)) λx=>o5 (P6 x [33]) λd=>l7 d (o5 (yP b.2.1) λc=>o5 (yC c.2) λf=>o5 (tV x) λx=>o5 (pK b.1 x c.1) λx=>some (.inl (x,f,I8 .i64 b.2.2 1))) (o5 (ig b.2.1 x) λx=>o5 (FC x.2.2 10) λx=>some (.inl (b.1,x.2,I8 .i64 b.2.2 1)))) (some (.inr b.1))) (((([],[],[]),([],[],[]),false,0,0,[],[]),[]),[],0)) λy=>o5 (um y76 y) λx=>some x.1)
def q7:FQ:=⟨[uD .str],tR 2 (uD .str),mE 52 [(18,s18),(19,s19),(17,b5p),(20,s20),(17,b0I),(21,s21),(23,s23),(22,s22),(10,b0z),(24,b5r)],sN 5 (iC (sN 1 (pq (.loop [(3,4),(6,7),(8,10),(31,48),(7000704,7000705),(26000384,26000385)] ⟨[(3,(false,(.mbx y76 81 5 0))),(6,(false,(.mbx .unit 52 5 0))),(31,Z4)],[]⟩ 0 ⟨[(3,(false,(.mbx y76 81 5 0)))],[]⟩ O7))) O7)⟩
def s7:FSpec:=dX q7 λx=>yM x
def yT:c5z:=o5 (yM [33,114,117,110,10]) λx=>l7 (seq x [101,114,114,111,114,32,54,10]) (o5 (yM [101,110,117,109,32,122,111,110,101,32,110,111,114,116,104,32,115,111,117,116,104,10,33,108,97,119,10,33,100,105,102,102,10]) λx=>l7 (seq x [108,97,119,10,110,111,110,101,10]) (o5 (yM [33,120,10]) λx=>some (seq x [101,114,114,111,114,32,49,10])) (some false)) (some false)
def q5:FQ:=⟨[],tR 0 iQ,mE 11 [(7,s7)],O7⟩
def s5:FSpec:=dX q5 λx=>yT
def ps3:List MG:=[(true,(.dat y27))]
def zH(A:O6):c5z:=o5 (Bq A) λx=>l7 (I5 x) (o5 yT λx=>some x) (o5 (qH A) λx=>l7 (I5 (D8 x.2.1 0)) (o5 yT λx=>some x) (l7 (J4 65336 (x9 x.1)) (o5 yT λx=>some x) (o5 (ak x.1 [33,108,97,119,10,33,112,114,105,110,116,10,33,111,108,100,10,33,100,105,102,102,10]) λb=>o5 (yM b) λc=>o5 (ak [108,97,119,10] x.1) λx=>o5 (ak x [111,108,100,10,110,111,110,101,10]) λx=>l7 (seq c x) (o5 yT λx=>some x) (some false))))
def q3:FQ:=⟨ps3,tR 2 iQ,mE 33 [(4,s4),(5,s5),(6,s6),(7,s7)],O7⟩
def s3:FSpec:=dX q3 λx=>zH x
abbrev c5u:Ty:=y27
end
end Gt
