import Derived.Test.YtmppebmaeckklaaGreatDoorV2
set_option linter.all false
open Go Go.GP
namespace Gt
abbrev a0f:c5y:=[0,1,1,2,1,2,2,3,1,2,2,3,2,3,3,4,1,2,2,3,2,3,3,4,2,3,3,4,3,4,4,5,1,2,2,3,2,3,3,4,2,3,3,4,3,4,4,5,2,3,3,4,3,4,4,5,3,4,4,5,4,5,5,6,1,2,2,3,2,3,3,4,2,3,3,4,3,4,4,5,2,3,3,4,3,4,4,5,3,4,4,5,4,5,5,6,2,3,3,4,3,4,4,5,3,4,4,5,4,5,5,6,3,4,4,5,4,5,5,6,4,5,5,6,5,6,6,7,1,2,2,3,2,3,3,4,2,3,3,4,3,4,4,5,2,3,3,4,3,4,4,5,3,4,4,5,4,5,5,6,2,3,3,4,3,4,4,5,3,4,4,5,4,5,5,6,3,4,4,5,4,5,5,6,4,5,5,6,5,6,6,7,2,3,3,4,3,4,4,5,3,4,4,5,4,5,5,6,3,4,4,5,4,5,5,6,4,5,5,6,5,6,6,7,3,4,4,5,4,5,5,6,4,5,5,6,5,6,6,7,4,5,5,6,5,6,6,7,5,6,6,7,6,7,7,8]
set_option maxRecDepth 100000
noncomputable section
def FT(f:Func):Code:=match f.body with|some c=>c|none=> .skip
abbrev mkS(ps:List MG)(rt:Ret)(F:X4 ps->Option rt.den):FSpec:=⟨ps,rt.rs.map (·.2),rt.outs.map (·.2),F⟩
structure FQ where
 (ps:List MG)
 (rt:Ret)
 (E:Env)
 (an:Ann)
abbrev gW(q:FQ)(F:X4 q.ps->Option q.rt.den):FSpec:=mkS q.ps q.rt F
abbrev jnR:=Ann.joinR
abbrev lpR:=Ann.loopR
abbrev ji:=Ann.seq
abbrev blA:=Ann.blk
abbrev sgN:Sig:=⟨[],[]⟩
def sN:Nat->Ann->Ann
 |0,a=>a|n+1,a=> .seq .leaf (sN n a)
abbrev uO(t:Ty):MG:=(false,.own t)
abbrev uD(t:Ty):MG:=(false,.dat t)
abbrev tD(t:Ty):MG:=(true,.dat t)
abbrev pA:=M.pair
abbrev oW:=M.own
abbrev dT:=M.dat
abbrev S9:Ann:=.leaf
abbrev P7:M:=.dat (.int .i64)
abbrev oiM:M:=.own (.int .i64)
abbrev dbM:M:=.dat .bool
abbrev ah:MG:=(false,P7)
abbrev jv:MG:=(false,dbM)
abbrev uoM:MG:=(false,oiM)
abbrev y0:Ty:=.prod .str (.sl .str)
abbrev y1:Ty:=.sl y0
abbrev y2:Ty:=.prod (.int .i64) (.int .i64)
abbrev y3:Ty:=.prod (.int .i64) y2
abbrev y4:Ty:=.prod y2 y3
abbrev y5:Ty:=.sl y4
abbrev y6:Ty:=.prod y2 y5
abbrev y7:Ty:=.prod y2 y6
abbrev y8:Ty:=.prod .str y7
abbrev y9:Ty:=.sl y8
abbrev y10:Ty:=.prod .str y2
abbrev y11:Ty:=.sl y10
abbrev y12:Ty:=.sl y2
abbrev y13:Ty:=.prod y12 .str
abbrev y14:Ty:=.prod y12 y13
abbrev y15:Ty:=.prod y2 y14
abbrev y16:Ty:=.prod (.int .i64) y15
abbrev y17:Ty:=.prod (.int .i64) y16
abbrev y18:Ty:=.prod (.int .i64) y17
abbrev y19:Ty:=.prod .str y18
abbrev y20:Ty:=.sl y19
abbrev y21:Ty:=.prod y11 y20
abbrev y22:Ty:=.prod y11 y21
abbrev y23:Ty:=.prod (.int .i64) y22
abbrev y24:Ty:=.prod .str y23
abbrev y25:Ty:=.sl y24
abbrev y26:Ty:=.prod y9 y25
abbrev y27:Ty:=.prod y1 y26
abbrev y28:Ty:=.sl y12
abbrev y29:Ty:=.sl (.int .i64)
abbrev y30:Ty:=.prod y2 (.int .i64)
abbrev y31:Ty:=.sl y30
abbrev y32:Ty:=.prod y29 y31
abbrev y33:Ty:=.prod y28 y32
abbrev y34:Ty:=.prod (.int .i64) y33
abbrev y35:Ty:=.prod (.int .i64) y3
abbrev y36:Ty:=.sl (.int .u8)
abbrev y37:Ty:=.prod (.sl .str) (.sl .str)
abbrev y38:Ty:=.prod (.sl .str) y37
abbrev y39:Ty:=.prod (.sl .str) y38
abbrev lW:Ty:=.prod y1 y39
abbrev y41:Ty:=.prod lW y34
abbrev y42:Ty:=.prod y24 y41
abbrev y43:Ty:=.prod (.int .i64) .bool
abbrev y44:Ty:=.prod .str y43
abbrev y45:Ty:=.sl y44
abbrev y46:Ty:=.prod y29 y29
abbrev y47:Ty:=.prod y29 y46
abbrev y48:Ty:=.sl (.ent false false (.int .i64) .bool)
abbrev y49:Ty:=.sl (.ent true false y2 .bool)
abbrev y50:Ty:=.prod y12 .bool
abbrev y51:Ty:=.prod y12 y50
abbrev y52:Ty:=.prod y12 y51
abbrev y53:Ty:=.prod y9 y52
abbrev y54:Ty:=.prod y1 y53
abbrev y55:Ty:=.prod (.int .i64) y10
abbrev pO:Ty:=.sl y55
abbrev y57:Ty:=.prod y12 y2
abbrev y58:Ty:=.prod lW y57
abbrev y59:Ty:=.prod (.int .i64) y58
abbrev y60:Ty:=.prod (.int .i64) y59
abbrev y61:Ty:=.prod pO y60
abbrev y62:Ty:=.sl y29
def tt:List (Nat×TI):=[(3,⟨1,8,(.int .i64),some (.int .i64),[.i .i64 0]⟩),(4,⟨1,1,.bool,some .bool,[.b false]⟩),(5,⟨1,1,(.int .u8),some (.int .u8),[.i .u8 0]⟩),(9,⟨1,16,.str,some .str,[.s []]⟩),(21,⟨1,4,(.int .i32),some (.int .i32),[.i .i32 0]⟩),(22,⟨1,24,(.sl 45),some y1,[.nl]⟩),(23,⟨1,24,(.sl 50),some y9,[.nl]⟩),(24,⟨1,24,(.sl 54),some y25,[.nl]⟩),(26,⟨3,72,(.struct [(22,0),(23,1),(24,2)]),some y27,[.nl,.nl,.nl]⟩),(29,⟨1,24,(.sl 59),some y28,[.nl]⟩),(30,⟨1,24,(.sl 3),some y29,[.nl]⟩),(31,⟨1,24,(.sl 63),some y31,[.nl]⟩),(33,⟨4,80,(.struct [(3,0),(29,1),(30,2),(31,3)]),some y34,[.i .i64 0,.nl,.nl,.nl]⟩),(34,⟨1,8,(.int .i64),some (.int .i64),[.i .i64 0]⟩),(43,⟨1,24,(.sl 9),some (.sl .str),[.nl]⟩),(45,⟨2,40,(.struct [(9,0),(43,1)]),some y0,[.s [],.nl]⟩),(47,⟨2,16,(.struct [(3,0),(3,1)]),some y2,[.i .i64 0,.i .i64 0]⟩),(48,⟨1,24,(.sl 172),some y5,[.nl]⟩),(50,⟨6,72,(.struct [(9,0),(47,1),(47,3),(48,5)]),some y8,[.s [],.i .i64 0,.i .i64 0,.i .i64 0,.i .i64 0,.nl]⟩),(51,⟨1,24,(.sl 86),some y11,[.nl]⟩),(52,⟨1,24,(.sl 72),some y20,[.nl]⟩),(54,⟨5,96,(.struct [(9,0),(3,1),(51,2),(51,3),(52,4)]),some y24,[.s [],.i .i64 0,.nl,.nl,.nl]⟩),(58,⟨2,16,(.struct [(3,0),(3,1)]),some y2,[.i .i64 0,.i .i64 0]⟩),(59,⟨1,24,(.sl 58),some y12,[.nl]⟩),(61,⟨2,16,(.struct [(3,0),(3,1)]),some y2,[.i .i64 0,.i .i64 0]⟩),(63,⟨3,24,(.struct [(61,0),(3,2)]),some y30,[.i .i64 0,.i .i64 0,.i .i64 0]⟩),(65,⟨4,32,(.struct [(34,0),(3,1),(3,2),(3,3)]),some y35,[.i .i64 0,.i .i64 0,.i .i64 0,.i .i64 0]⟩),(70,⟨2,16,(.struct [(3,0),(3,1)]),some y2,[.i .i64 0,.i .i64 0]⟩),(72,⟨9,120,(.struct [(9,0),(3,1),(3,2),(3,3),(70,4),(59,6),(59,7),(9,8)]),some y19,[.s [],.i .i64 0,.i .i64 0,.i .i64 0,.i .i64 0,.i .i64 0,.nl,.nl,.s []]⟩),(77,⟨1,8,(.ptr 80),none,[]⟩),(78,⟨1,24,(.sl 5),some y36,[.nl]⟩),(80,⟨2,32,(.struct [(77,0),(78,1)]),none,[.npt,.nl]⟩),(86,⟨3,32,(.struct [(9,0),(47,1)]),some y10,[.s [],.i .i64 0,.i .i64 0]⟩),(88,⟨5,120,(.struct [(22,0),(43,1),(43,2),(43,3),(43,4)]),some lW,[.nl,.nl,.nl,.nl,.nl]⟩),(97,⟨14,296,(.struct [(54,0),(88,5),(33,10)]),some y42,[.s [],.i .i64 0,.nl,.nl,.nl,.nl,.nl,.nl,.nl,.nl,.i .i64 0,.nl,.nl,.nl]⟩),(107,⟨1,24,(.sl 4),some (.sl .bool),[.nl]⟩),(109,⟨1,24,(.sl 61),some y12,[.nl]⟩),(115,⟨1,24,(.sl 119),some y45,[.nl]⟩),(119,⟨3,32,(.struct [(9,0),(3,1),(4,2)]),some y44,[.s [],.i .i64 0,.b false]⟩),(141,⟨3,72,(.struct [(30,0),(30,1),(30,2)]),some y47,[.nl,.nl,.nl]⟩),(142,⟨1,8,(.map 3 4),some y48,[.sl (.ent false false (.int .i64) .bool) []]⟩),(143,⟨1,8,(.map 61 4),some y49,[.sl (.ent true false y2 .bool) []]⟩),(172,⟨5,40,(.struct [(70,0),(3,2),(3,3),(3,4)]),some y4,[.i .i64 0,.i .i64 0,.i .i64 0,.i .i64 0,.i .i64 0]⟩),(184,⟨1,24,(.sl 47),some y12,[.nl]⟩),(186,⟨6,128,(.struct [(22,0),(23,1),(184,2),(184,3),(184,4),(4,5)]),some y54,[.nl,.nl,.nl,.nl,.nl,.b false]⟩),(198,⟨1,8,(.int .u64),some (.int .u64),[.i .u64 0]⟩),(202,⟨3,24,(.struct [(3,0),(3,1),(3,2)]),some y3,[.i .i64 0,.i .i64 0,.i .i64 0]⟩),(204,⟨1,24,(.sl 235),some pO,[.nl]⟩),(208,⟨11,200,(.struct [(204,0),(3,1),(3,2),(88,3),(59,8),(3,9),(34,10)]),some y61,[.nl,.i .i64 0,.i .i64 0,.nl,.nl,.nl,.nl,.nl,.nl,.i .i64 0,.i .i64 0]⟩),(223,⟨1,24,(.sl 30),some y62,[.nl]⟩),(228,⟨1,4,(.int .u32),some (.int .u32),[.i .u32 0]⟩),(230,⟨1,8,(.int .u64),some (.int .u64),[.i .u64 0]⟩),(235,⟨4,40,(.struct [(3,0),(9,1),(3,2),(3,3)]),some y55,[.i .i64 0,.s [],.i .i64 0,.i .i64 0]⟩),(292,⟨12,96,(.arr 12 3),none,[.i .i64 0,.i .i64 0,.i .i64 0,.i .i64 0,.i .i64 0,.i .i64 0,.i .i64 0,.i .i64 0,.i .i64 0,.i .i64 0,.i .i64 0,.i .i64 0]⟩)]
def eqs:List (Nat×List Ty):=[(47,[(.int .i64),(.int .i64)]),(58,[(.int .i64),(.int .i64)]),(61,[(.int .i64),(.int .i64)]),(63,[(.int .i64),(.int .i64),(.int .i64)]),(65,[(.int .i64),(.int .i64),(.int .i64),(.int .i64)])]
def gl:List (Nat×(t:Ty)×List t.den):=[(1,⟨.int .i64,[31,28,31,30,31,30,31,31,30,31,30,31]⟩),(2,⟨.int .u64,[1,10,100,1000,10000,100000,1000000,10000000,100000000,1000000000,10000000000,100000000000,1000000000000,10000000000000,100000000000000,1000000000000000,10000000000000000,100000000000000000,1000000000000000000,10000000000000000000]⟩)]
abbrev mE(n:Nat)(fs:List (Nat×FSpec)):Env:=⟨n,eqs,tt,gl,fs,[],[],[],[],[],[]⟩
abbrev tR(n:Nat)(m:MG):Ret:=⟨[(.tmp n,m)],[]⟩
abbrev cR(n k:Nat)(m:MG):Ret:=⟨[(.cell n k,m)],[]⟩
abbrev F9:Type:=Ty.den y2
abbrev gm:Type:=Ty.den y0
abbrev L8:Type:=Ty.den y30
abbrev mF:Type:=Ty.den y10
abbrev I9:Type:=Ty.den y44
abbrev FO:Type:=Ty.den y3
abbrev uq:Type:=Ty.den y35
abbrev qU:Type:=Ty.den y47
abbrev TA:Type:=Ty.den y4
abbrev dA:Type:=Ty.den y55
abbrev D9:Type:=Ty.den lW
abbrev G9:Type:=Ty.den y34
abbrev pR:Type:=Ty.den y8
abbrev iV:Type:=Ty.den y19
abbrev C9:Type:=Ty.den y61
abbrev V8:Type:=Ty.den y54
abbrev N8:Type:=Ty.den y24
abbrev U2:Type:=Ty.den y42
abbrev gz:Type:=Ty.den y27
def mD(A:Int):c5C:=l9 (X6 97 A) (some (X6 A 122)) (some false)
def q89:FQ:=⟨[(false,(dT (.int .u8)))],tR 2 jv,mE 9 [],S9⟩
def s89:FSpec:=gW q89 λx=>mD x
def jm(A:Int):c5C:=l9 (X6 48 A) (some (X6 A 57)) (some false)
def b9W:FQ:=⟨[(false,(dT (.int .u8)))],tR 2 jv,mE 9 [],S9⟩
def b0J:FSpec:=gW b9W λx=>jm x
def nY(A:c5y):c5E:=o5 (aS (λ(x:Int)=>l9 (I7 x (x8 A)) (o5 (sat A x) λb=>o5 (mD b) λc=>l9 c (some (.inl (G6 .i64 x 1))) (o5 (sat A x) λd=>o5 (jm d) λf=>l9 f (some (.inl (G6 .i64 x 1))) (o5 (sat A x) λg=>l9 (D6 g 95) (some (.inl (G6 .i64 x 1))) (some (.inr x))))) (some (.inr x))) 0) λy=>some y
def q90:FQ:=⟨[uD .str],tR 2 ah,mE 29 [(89,s89),(119,b0J)],sN 2 (ji (blA (.loop [(3,28)] ⟨[(3,ah)],[]⟩ 0 ⟨[(3,ah)],[]⟩ S9)) S9)⟩
def s90:FSpec:=gW q90 λx=>nY x
def Ag(A:c5y):c5C:=o5 (l9 (seq A [105,102]) (some (seq A [105,102])) (l9 (seq A [116,104,101,110]) (some (seq A [116,104,101,110])) (l9 (seq A [101,108,115,101]) (some (seq A [101,108,115,101])) (l9 (seq A [111,114]) (some (seq A [111,114])) (l9 (seq A [97,110,100]) (some (seq A [97,110,100])) (l9 (seq A [110,111,116]) (some (seq A [110,111,116])) (l9 (seq A [116,114,117,101]) (some (seq A [116,114,117,101])) (l9 (seq A [102,97,108,115,101]) (some (seq A [102,97,108,115,101])) (l9 (seq A [116,111,100,97,121]) (some (seq A [116,111,100,97,121])) (l9 (seq A [115,104,97,114,101]) (some (seq A [115,104,97,114,101])) (l9 (seq A [100,105,118]) (some (seq A [100,105,118])) (l9 (seq A [114,111,117,110,100]) (some (seq A [114,111,117,110,100])) (l9 (seq A [109,105,110]) (some (seq A [109,105,110])) (l9 (seq A [109,97,120]) (some (seq A [109,97,120])) (l9 (seq A [112,108,117,115]) (some (seq A [112,108,117,115])) (l9 (seq A [109,111,110,116,104,115]) (some (seq A [109,111,110,116,104,115])) (l9 (seq A [100,97,121,115]) (some (seq A [100,97,121,115])) (l9 (seq A [121,101,97,114,115]) (some (seq A [121,101,97,114,115])) (l9 (seq A [121,101,97,114]) (some (seq A [121,101,97,114])) (l9 (seq A [109,111,110,116,104]) (some (seq A [109,111,110,116,104])) (l9 (seq A [116,97,98]) (some (seq A [116,97,98])) (l9 (seq A [98,97,110,100]) (some (seq A [98,97,110,100])) (l9 (seq A [99,111,117,110,116]) (some (seq A [99,111,117,110,116])) (l9 (seq A [115,117,109]) (some (seq A [115,117,109])) (l9 (seq A [97,108,108]) (some (seq A [97,108,108])) (l9 (seq A [97,110,121]) (some (seq A [97,110,121])) (l9 (seq A [109,111,115,116]) (some (seq A [109,111,115,116])) (l9 (seq A [101,110,117,109]) (some (seq A [101,110,117,109])) (l9 (seq A [116,97,98,108,101]) (some (seq A [116,97,98,108,101])) (l9 (seq A [114,111,119]) (some (seq A [114,111,119])) (l9 (seq A [115,99,111,112,101]) (some (seq A [115,99,111,112,101])) (l9 (seq A [109,101,109,98,101,114,115]) (some (seq A [109,101,109,98,101,114,115])) (l9 (seq A [105,110,112,117,116]) (some (seq A [105,110,112,117,116])) (l9 (seq A [100,101,102]) (some (seq A [100,101,102])) (l9 (seq A [114,117,108,101]) (some (seq A [114,117,108,101])) (l9 (seq A [111,102]) (some (seq A [111,102])) (l9 (seq A [111,118,101,114]) (some (seq A [111,118,101,114])) (l9 (seq A [112,114,105,111]) (some (seq A [112,114,105,111])) (l9 (seq A [102,114,111,109]) (some (seq A [102,114,111,109])) (l9 (seq A [116,111]) (some (seq A [116,111])) (l9 (seq A [101,110,100]) (some (seq A [101,110,100])) (l9 (seq A [119,104,101,110]) (some (seq A [119,104,101,110])) (l9 (seq A [105,115]) (some (seq A [105,115])) (l9 (seq A [115,114,99]) (some (seq A [115,114,99])) (l9 (seq A [98,111,111,108]) (some (seq A [98,111,111,108])) (l9 (seq A [105,110,116]) (some (seq A [105,110,116])) (l9 (seq A [109,111,110,101,121]) (some (seq A [109,111,110,101,121])) (l9 (seq A [114,97,116,101]) (some (seq A [114,97,116,101])) (l9 (seq A [100,97,116,101]) (some (seq A [100,97,116,101])) (l9 (seq A [100,111,119,110]) (some (seq A [100,111,119,110])) (l9 (seq A [117,112]) (some (seq A [117,112])) (l9 (seq A [122,101,114,111]) (some (seq A [122,101,114,111])) (l9 (seq A [97,119,97,121]) (some (seq A [97,119,97,121])) (l9 (seq A [104,97,108,102]) (some (seq A [104,97,108,102])) (some (seq A [101,118,101,110])))))))))))))))))))))))))))))))))))))))))))))))))))))))) λx=>l9 x (some true) (some false)
def q91:FQ:=⟨[uD .str],tR 2 jv,mE 60 [],sN 1 (ji (sN 1 (blA (ji (.join [(4,60)] ⟨[(4,jv)],[]⟩ S9) S9))) S9)⟩
def s91:FSpec:=gW q91 λx=>Ag x
def dB(A:c5y):c5C:=l9 (J8 (seq A [])) (o5 (sat A 0) λx=>o5 (mD x) λx=>l9 x (o5 (nY A) λx=>l9 (D6 x (x8 A)) (l9 (X6 (x8 A) 16) (o5 (Ag A) λx=>some (J8 x)) (some false)) (some false)) (some false)) (some false)
def q54:FQ:=⟨[uD .str],tR 2 jv,mE 27 [(89,s89),(90,s90),(91,s91)],S9⟩
def s54:FSpec:=gW q54 λx=>dB x
def Gg(A:gm)(B:c5y):c5C:=some (seq A.1 B)
def b4Z:FQ:=⟨[tD y0,(false,(.rp .str))],tR 3 jv,mE 8 [],S9⟩
def b0V:FSpec:=gW b4Z λx=>Gg x.1 x.2
def lK(A:List gm)(B:c5y):c5E:=o5 (Y9 (λ(x:Int)=>l9 (I7 x (x8 A)) (o5 (U0 A x) λb=>o5 (Gg b B) λc=>l9 c (some (.rt x)) (some (.nx (G6 .i64 x 1)))) (some (.ex ()))) 0) λo=>dw o (λy=>some (-1)) λr=>some r
def b0n:FQ:=⟨[uD y1,(false,(.fn 93 [.str]))],tR 4 ah,mE 19 [(93,b0V)],sN 1 (ji (sN 1 (blA (lpR [(4,6),(8,19)] ⟨[(8,ah)],[]⟩ 0 sgN S9))) S9)⟩
def b0K:FSpec:=gW b0n λx=>lK x.1 x.2
def kw(A:List gm)(B:c5y):c5C:=o5 (lK A B) λx=>some (X6 0 x)
def b4Y:FQ:=⟨[uD y1,(false,(.fn 93 [.str]))],tR 4 jv,mE 9 [(120,b0K)],S9⟩
def b5o:FSpec:=gW b4Y λx=>kw x.1 x.2
def zB(A:List gm)(B:c5y):c5C:=o5 (kw A B) λx=>some x
def q55:FQ:=⟨[uD y1,(uD .str)],tR 4 jv,mE 8 [(93,b0V),(92,b5o)],S9⟩
def s55:FSpec:=gW q55 λx=>zB x.1 x.2
def dR(A:List c5y)(B:c5y):c5E:=o5 (Y9 (λ(x:Int)=>l9 (I7 x (x8 A)) (o5 (U0 A x) λb=>l9 (seq B b) (some (.rt x)) (some (.nx (G6 .i64 x 1)))) (some (.ex ()))) 0) λo=>dw o (λy=>some (-1)) λr=>some r
def b9U:FQ:=⟨[uD (.sl .str),(uD .str)],tR 4 ah,mE 19 [],sN 1 (ji (sN 1 (blA (lpR [(4,6),(8,19)] ⟨[(8,ah)],[]⟩ 0 sgN S9))) S9)⟩
def b3M:FSpec:=gW b9U λx=>dR x.1 x.2
def kT(A:List c5y)(B:c5y):c5C:=o5 (dR A B) λx=>some (X6 0 x)
def q83:FQ:=⟨[uD (.sl .str),(uD .str)],tR 4 jv,mE 9 [(117,b3M)],S9⟩
def s83:FSpec:=gW q83 λx=>kT x.1 x.2
def BO(A:gz)(B:Int)(C:gm):Option F9:=o5 (dB C.1) λx=>l9 (J8 x) (some (2,0)) (o5 (gJ A.1 0 B) λx=>o5 (zB x C.1) λx=>l9 x (some (7,0)) (l9 (D6 (x8 C.2) 0) (some (5,0)) (l9 (I7 16 (x8 C.2)) (some (4,116)) (o5 (Y9 (λ(x:Int)=>l9 (I7 x (x8 C.2)) (o5 (U0 C.2 x) λb=>o5 (dB b) λc=>l9 (J8 c) (some (.rt (2,G6 .i64 100 x))) (o5 (gJ C.2 0 x) λd=>o5 (kT d b) λf=>l9 f (some (.rt (7,G6 .i64 100 x))) (some (.nx (G6 .i64 x 1))))) (some (.ex ()))) 0) λo=>dw o (λy=>some (0,0)) λr=>some r))))
def q52:FQ:=⟨[tD y27,ah,tD y0],⟨[(.tmp 6,ah),(.tmp 7,ah)],[]⟩,mE 55 [(54,s54),(55,s55),(83,s83)],sN 2 (ji (sN 1 (blA (lpR [(6,10),(36,55)] ⟨[(36,ah)],[]⟩ 1 sgN S9))) S9)⟩
def s52:FSpec:=gW q52 λx=>BO x.1 x.2.1 x.2.2
def Ac(A:gz):Option uq:=l9 (I7 8 (x8 A.1)) (some (4,1,8,0)) (o5 (Y9 (λ(x:uq×Int)=>l9 (I7 x.2 (x8 A.1)) (o5 (U0 A.1 x.2) λc=>o5 (BO A x.2 c) λb=>l9 (J8 (D6 b.1 0)) (some (.rt (b.1,1,x.2,b.2))) (some (.nx (x.1,G6 .i64 x.2 1)))) (some (.ex x.1))) ((0,0,0,0),0)) λo=>dw o (λ(y:uq)=>some (0,0,0,0)) λr=>some r)
def q29:FQ:=⟨[tD y27],cR 2 65 (tD y35),mE 35 [(52,s52)],sN 2 (ji (sN 1 (blA (lpR [(2,7),(15,34),(4000128,4000129)] ⟨[(2,(false,(.box (dT y35)))),(15,ah)],[]⟩ 0 ⟨[(2,(false,(.box (dT y35))))],[]⟩ S9))) S9)⟩
def s29:FSpec:=gW q29 λx=>Ac x
def dH(A:F9)(B:List gm):c5C:=o5 (l9 (D6 A.1 1) (some (D6 A.1 1)) (l9 (D6 A.1 2) (some (D6 A.1 2)) (l9 (D6 A.1 3) (some (D6 A.1 3)) (l9 (D6 A.1 4) (some (D6 A.1 4)) (some (D6 A.1 5)))))) λx=>l9 x (some (D6 A.2 0)) (l9 (D6 A.1 6) (l9 (X6 0 A.2) (some (I7 A.2 (x8 B))) (some false)) (some false))
def q84:FQ:=⟨[tD y2,uD y1],tR 4 jv,mE 28 [],sN 1 (ji (sN 1 (blA (ji (.join [(7,13)] ⟨[(7,jv)],[]⟩ S9) S9))) S9)⟩
def s84:FSpec:=gW q84 λx=>dH x.1 x.2
def ng(A:F9)(B:List gm):Option F9:=o5 (dH A B) λx=>l9 (J8 x) (some (0,-1)) (l9 (D6 A.1 1) (some (0,1)) (l9 (D6 A.1 2) (some (-1000000000000,1000000000000)) (l9 (D6 A.1 3) (some (-1000000000000000,1000000000000000)) (l9 (D6 A.1 4) (some (-1000000000,1000000000)) (l9 (D6 A.1 5) (some (0,109572)) (o5 (U0 B A.2) λx=>some (0,Y5 .i64 (x8 x.2) 1)))))))
def q85:FQ:=⟨[tD y2,uD y1],⟨[(.tmp 4,ah),(.tmp 5,ah)],[]⟩,mE 30 [(84,s84)],S9⟩
def s85:FSpec:=gW q85 λx=>ng x.1 x.2
def rZ(A:F9):c5C:=l9 (X6 0 A.1) (l9 (X6 A.1 A.2) (some (X6 A.2 109573)) (some false)) (some false)
def q58:FQ:=⟨[tD y2],tR 2 jv,mE 18 [],S9⟩
def s58:FSpec:=gW q58 λx=>rZ x
def xq(A:F9):c5C:=o5 (rZ A) λx=>l9 x (some (I7 A.1 A.2)) (some false)
def c0s:FQ:=⟨[tD y2],tR 2 jv,mE 12 [(58,s58)],S9⟩
def c2e:FSpec:=gW c0s λx=>xq x
def ui(A:F9)(B:F9):Option (F9×Bool):=o5 (xq A) λx=>l9 (J8 x) (some ((0,0),false)) (o5 (xq B) λx=>l9 (J8 x) (some ((0,0),false)) (l9 (X6 (EJ A.2 B.2) (CW A.1 B.1)) (some ((0,0),false)) (some ((CW A.1 B.1,EJ A.2 B.2),true))))
def b9V:FQ:=⟨[tD y2,tD y2],⟨[(.cell 4 70,tD y2),(.tmp 5,jv)],[]⟩,mE 34 [(150,c2e)],S9⟩
def c1O:FSpec:=gW b9V λx=>ui x.1 x.2
def AL(A:TA)(B:TA):c5C:=o5 (ui A.1 B.1) λx=>l9 x.2 (some (I7 (CW A.2.1 B.2.1) (EJ A.2.2.1 B.2.2.1))) (some false)
def q88:FQ:=⟨[tD y4,tD y4],tR 4 jv,mE 29 [(118,c1O)],S9⟩
def s88:FSpec:=gW q88 λx=>AL x.1 x.2
def uN(A:TA)(B:TA):c5C:=o5 (AL A B) λx=>some x
def b4X:FQ:=⟨[tD y4,(false,(.rp y4))],tR 3 jv,mE 7 [(88,s88)],S9⟩
def b0U:FSpec:=gW b4X λx=>uN x.1 x.2
def ul(A:List TA)(B:TA):Option (Int×Bool):=o5 (Y9 (λ(x:Int)=>l9 (I7 x (x8 A)) (o5 (U0 A x) λb=>o5 (uN b B) λc=>l9 c (some (.rt (x,true))) (some (.nx (G6 .i64 x 1)))) (some (.ex ()))) 0) λo=>dw o (λy=>some (0,false)) λr=>some r
def b4W:FQ:=⟨[uD y5,(false,(.fn 87 [y4]))],⟨[(.tmp 4,ah),(.tmp 5,jv)],[]⟩,mE 20 [(87,b0U)],sN 1 (ji (sN 1 (blA (lpR [(4,8),(10,20)] ⟨[(10,ah)],[]⟩ 0 sgN S9))) S9)⟩
def b5n:FSpec:=gW b4W λx=>ul x.1 x.2
def AC(A:pR)(B:List gm):Option F9:=l9 (I7 64 (x8 A.2.2.2)) (some (64,4)) (o5 (o5 (dH A.2.1 B) λx=>l9 (J8 x) (some (.inr (-1,8))) (o5 (dH A.2.2.1 B) λx=>l9 (J8 x) (some (.inr (-1,8))) (some (.inl ())))) λo=>dw o (λx=>o5 (ng A.2.1 B) λx=>o5 (ng A.2.2.1 B) λd=>o5 (Y9 (λ(b:Int)=>l9 (I7 b (x8 A.2.2.2)) (o5 (U0 A.2.2.2 b) λc=>o5 (o5 (rZ c.1) λx=>l9 (J8 x) (some (.inr (b,3))) (l9 (D6 c.1.1 c.1.2) (some (.inr (b,3))) (l9 (X6 c.2.2.1 c.2.1) (some (.inr (b,3))) (some (.inl ()))))) λo=>dw o (λf=>o5 (l9 (I7 c.2.1 x.1) (some (.inr (b,3))) (l9 (I7 x.2 c.2.1) (some (.inr (b,3))) (l9 (I7 (Y5 .i64 c.2.2.1 1) x.1) (some (.inr (b,3))) (l9 (I7 x.2 (Y5 .i64 c.2.2.1 1)) (some (.inr (b,3))) (some (.inl ())))))) λo=>dw o (λx=>l9 (I7 c.2.2.2 d.1) (some (.rt (b,3))) (l9 (I7 d.2 c.2.2.2) (some (.rt (b,3))) (o5 (gJ A.2.2.2 0 b) λx=>o5 (ul x c) λx=>l9 x.2 (some (.rt (b,11))) (some (.nx (G6 .i64 b 1)))))) λr=>some (.rt r)) λr=>some (.rt r)) (some (.ex ()))) 0) λo=>dw o (λy=>some (0,0)) λr=>some r) λr=>some r)
def q53:FQ:=⟨[tD y8,uD y1],⟨[(.tmp 4,ah),(.tmp 5,ah)],[]⟩,mE 121 [(84,s84),(85,s85),(58,s58),(87,b0U),(86,b5n)],sN 2 (ji (jnR [(4,6),(18,30)] sgN S9) (sN 2 (ji (sN 1 (blA (lpR [(4,6),(10,14),(47,121)] ⟨[(47,ah)],[]⟩ 0 sgN (sN 2 (ji (blA (sN 1 (ji (jnR [(4,6),(52,73)] sgN S9) (ji (jnR [(4,6),(73,98)] sgN S9) S9)))) S9))))) S9)))⟩
def s53:FSpec:=gW q53 λx=>AC x.1 x.2
def Eg(A:pR)(B:c5y):c5C:=some (seq A.1 B)
def b5b:FQ:=⟨[tD y8,(false,(.rp .str))],tR 3 jv,mE 8 [],S9⟩
def b0W:FSpec:=gW b5b λx=>Eg x.1 x.2
def kN(A:List pR)(B:c5y):c5E:=o5 (Y9 (λ(x:Int)=>l9 (I7 x (x8 A)) (o5 (U0 A x) λb=>o5 (Eg b B) λc=>l9 c (some (.rt x)) (some (.nx (G6 .i64 x 1)))) (some (.ex ()))) 0) λo=>dw o (λy=>some (-1)) λr=>some r
def b0p:FQ:=⟨[uD y9,(false,(.fn 95 [.str]))],tR 4 ah,mE 19 [(95,b0W)],sN 1 (ji (sN 1 (blA (lpR [(4,6),(8,19)] ⟨[(8,ah)],[]⟩ 0 sgN S9))) S9)⟩
def b0M:FSpec:=gW b0p λx=>kN x.1 x.2
def jF(A:List pR)(B:c5y):c5C:=o5 (kN A B) λx=>some (X6 0 x)
def b5a:FQ:=⟨[uD y9,(false,(.fn 95 [.str]))],tR 4 jv,mE 9 [(121,b0M)],S9⟩
def b5p:FSpec:=gW b5a λx=>jF x.1 x.2
def Ae(A:List pR)(B:c5y):c5C:=o5 (jF A B) λx=>some x
def q56:FQ:=⟨[uD y9,(uD .str)],tR 4 jv,mE 8 [(95,b0W),(94,b5p)],S9⟩
def s56:FSpec:=gW q56 λx=>Ae x.1 x.2
def yX(A:gz):Option uq:=l9 (I7 8 (x8 A.2.1)) (some (4,2,8,0)) (o5 (Y9 (λ(x:uq×Int)=>l9 (I7 x.2 (x8 A.2.1)) (o5 (U0 A.2.1 x.2) λc=>o5 (AC c A.1) λb=>o5 (o5 (dB c.1) λd=>l9 (J8 d) (some (2,2,x.2,0)) (o5 (zB A.1 c.1) λf=>l9 f (some (7,2,x.2,0)) (o5 (gJ A.2.1 0 x.2) λg=>o5 (Ae g c.1) λi=>l9 i (some (7,2,x.2,0)) (l9 (J8 (D6 b.2 0)) (l9 (J8 (D6 b.1 (-1))) (some (b.2,2,x.2,G6 .i64 100 b.1)) (some (b.2,2,x.2,0))) (some (0,2,x.2,0)))))) λd=>l9 (J8 (D6 d.1 0)) (some (.rt d)) (some (.nx (x.1,G6 .i64 x.2 1)))) (some (.ex x.1))) ((0,0,0,0),0)) λo=>dw o (λ(y:uq)=>some (0,0,0,0)) λr=>some r)
def q30:FQ:=⟨[tD y27],cR 2 65 (tD y35),mE 68 [(53,s53),(54,s54),(55,s55),(56,s56)],sN 2 (ji (sN 1 (blA (lpR [(2,8),(16,67),(4000128,4000129)] ⟨[(2,(false,(.box (dT y35)))),(16,ah)],[]⟩ 0 ⟨[(2,(false,(.box (dT y35))))],[]⟩ (sN 2 (ji (blA (sN 3 (ji (.join [(5,6),(30,62),(37000320,37000321)] ⟨[(5,(false,(.box (dT y35))))],[]⟩ S9) S9))) S9))))) S9)⟩
def s30:FSpec:=gW q30 λx=>yX x
def Bi(A:N8)(B:N8):c5C:=some (seq A.1 B.1)
def b5d:FQ:=⟨[tD y24,(false,(.rp y24))],tR 3 jv,mE 9 [],S9⟩
def b0X:FSpec:=gW b5d λx=>Bi x.1 x.2
def kM(A:List N8)(B:N8):c5E:=o5 (Y9 (λ(x:Int)=>l9 (I7 x (x8 A)) (o5 (U0 A x) λb=>o5 (Bi b B) λc=>l9 c (some (.rt x)) (some (.nx (G6 .i64 x 1)))) (some (.ex ()))) 0) λo=>dw o (λy=>some (-1)) λr=>some r
def b0q:FQ:=⟨[uD y25,(false,(.fn 97 [y24]))],tR 4 ah,mE 19 [(97,b0X)],sN 1 (ji (sN 1 (blA (lpR [(4,6),(8,19)] ⟨[(8,ah)],[]⟩ 0 sgN S9))) S9)⟩
def b0N:FSpec:=gW b0q λx=>kM x.1 x.2
def gK(A:List N8)(B:N8):c5C:=o5 (kM A B) λx=>some (X6 0 x)
def b5c:FQ:=⟨[uD y25,(false,(.fn 97 [y24]))],tR 4 jv,mE 9 [(122,b0N)],S9⟩
def b5q:FSpec:=gW b5c λx=>gK x.1 x.2
def Bh(A:mF)(B:mF):c5C:=some (seq A.1 B.1)
def b0r:FQ:=⟨[tD y10,(false,(.rp y10))],tR 3 jv,mE 9 [],S9⟩
def a4u:FSpec:=gW b0r λx=>Bh x.1 x.2
def kL(A:List mF)(B:mF):c5E:=o5 (Y9 (λ(x:Int)=>l9 (I7 x (x8 A)) (o5 (U0 A x) λb=>o5 (Bh b B) λc=>l9 c (some (.rt x)) (some (.nx (G6 .i64 x 1)))) (some (.ex ()))) 0) λo=>dw o (λy=>some (-1)) λr=>some r
def b0v:FQ:=⟨[uD y11,(false,(.fn 123 [y10]))],tR 4 ah,mE 19 [(123,a4u)],sN 1 (ji (sN 1 (blA (lpR [(4,6),(8,19)] ⟨[(8,ah)],[]⟩ 0 sgN S9))) S9)⟩
def b0R:FSpec:=gW b0v λx=>kL x.1 x.2
def dF(A:List mF)(B:mF):c5C:=o5 (kL A B) λx=>some (X6 0 x)
def b0s:FQ:=⟨[uD y11,(false,(.fn 123 [y10]))],tR 4 jv,mE 9 [(151,b0R)],S9⟩
def b0O:FSpec:=gW b0s λx=>dF x.1 x.2
def xP(A:gz)(B:mF)(C:List mF)(D:List mF):c5E:=o5 (dB B.1) λx=>l9 (J8 x) (some 2) (o5 (dF C B) λx=>l9 x (some 7) (o5 (dF D B) λx=>l9 x (some 7) (o5 (dH B.2 A.1) λx=>l9 (J8 x) (some 8) (some 0))))
def q98:FQ:=⟨[tD y27,tD y10,uD y11,uD y11],tR 8 ah,mE 32 [(123,a4u),(54,s54),(124,b0O),(84,s84)],S9⟩
def s98:FSpec:=gW q98 λx=>xP x.1 x.2.1 x.2.2.1 x.2.2.2
def uF(A:List mF):Option (List F9):=o5 (aS (λ(x:List F9×Int)=>l9 (I7 x.2 (x8 A)) (o5 (U0 A x.2) λb=>o5 (eY x.1 [b.2]) λc=>some (.inl (c,G6 .i64 x.2 1))) (some (.inr x.1))) ([],0)) λy=>some y
def b9X:FQ:=⟨[uD y11],tR 2 (uO y2),mE 19 [],sN 2 (ji (sN 1 (blA (.loop [(3,4),(5,6),(8,18)] ⟨[(3,(uO y2)),(8,ah)],[]⟩ 0 ⟨[(3,(uO y2))],[]⟩ S9))) S9)⟩
def c1P:FSpec:=gW b9X λx=>uF x
def uk(A:gz)(B:Int):Option V8:=o5 (U0 A.2.2 B) λx=>o5 (uF x.2.2.1) λb=>o5 (uF x.2.2.2.1) λc=>l9 (X6 0 x.2.1) (l9 (I7 x.2.1 (x8 A.2.2)) (o5 (U0 A.2.2 x.2.1) λx=>o5 (uF x.2.2.2.1) λx=>some (A.1,A.2.1,b,c,x,true)) (some (A.1,A.2.1,b,c,[],false))) (some (A.1,A.2.1,b,c,[],false))
def q99:FQ:=⟨[tD y27,ah],cR 4 186 (tD y54),mE 45 [(125,c1P)],S9⟩
def s99:FSpec:=gW q99 λx=>uk x.1 x.2
def CX(A:iV)(B:iV):c5C:=some (seq A.1 B.1)
def b0u:FQ:=⟨[tD y19,(false,(.rp y19))],tR 3 jv,mE 9 [],S9⟩
def a4v:FSpec:=gW b0u λx=>CX x.1 x.2
def lL(A:List iV)(B:iV):c5E:=o5 (Y9 (λ(x:Int)=>l9 (I7 x (x8 A)) (o5 (U0 A x) λb=>o5 (CX b B) λc=>l9 c (some (.rt x)) (some (.nx (G6 .i64 x 1)))) (some (.ex ()))) 0) λo=>dw o (λy=>some (-1)) λr=>some r
def b0w:FQ:=⟨[uD y20,(false,(.fn 127 [y19]))],tR 4 ah,mE 19 [(127,a4v)],sN 1 (ji (sN 1 (blA (lpR [(4,6),(8,19)] ⟨[(8,ah)],[]⟩ 0 sgN S9))) S9)⟩
def b0S:FSpec:=gW b0w λx=>lL x.1 x.2
def iH(A:List iV)(B:iV):c5C:=o5 (lL A B) λx=>some (X6 0 x)
def b0t:FQ:=⟨[uD y20,(false,(.fn 127 [y19]))],tR 4 jv,mE 9 [(152,b0S)],S9⟩
def b0P:FSpec:=gW b0t λx=>iH x.1 x.2
def c4T:List MG:=[(false,(.dat .str)),(false,(.dat .str))]
def s78:FSpec:=⟨c4T,[jv],[],λx=>tC x.1 x.2⟩
def yY(A:c5y):c5C:=l9 (I7 64 (x8 A)) (some false) (o5 (tC A [34]) λx=>l9 x (some false) (o5 (Y9 (λ(x:Int)=>l9 (I7 x (x8 A)) (o5 (sat A x) λb=>l9 (I7 b 32) (some (.rt false)) (o5 (sat A x) λc=>l9 (I7 126 c) (some (.rt false)) (some (.nx (G6 .i64 x 1))))) (some (.ex ()))) 0) λo=>dw o (λy=>some true) λr=>some r))
def b9Y:FQ:=⟨[uD .str],tR 2 jv,mE 27 [(78,s78)],sN 2 (ji (sN 1 (blA (lpR [(2,4),(13,27)] ⟨[(13,ah)],[]⟩ 0 sgN S9))) S9)⟩
def c1Q:FSpec:=gW b9Y λx=>yY x
def mG(A:Int):c5E:=o5 (l9 (D6 A 1) (some (D6 A 1)) (l9 (D6 A 2) (some (D6 A 2)) (l9 (D6 A 3) (some (D6 A 3)) (l9 (D6 A 4) (some (D6 A 4)) (l9 (D6 A 5) (some (D6 A 5)) (l9 (D6 A 6) (some (D6 A 6)) (l9 (D6 A 7) (some (D6 A 7)) (l9 (D6 A 8) (some (D6 A 8)) (l9 (D6 A 9) (some (D6 A 9)) (l9 (D6 A 35) (some (D6 A 35)) (l9 (D6 A 36) (some (D6 A 36)) (l9 (D6 A 37) (some (D6 A 37)) (l9 (D6 A 38) (some (D6 A 38)) (some (D6 A 39))))))))))))))) λx=>l9 x (some 0) (o5 (l9 (D6 A 10) (some (D6 A 10)) (l9 (D6 A 25) (some (D6 A 25)) (l9 (D6 A 31) (some (D6 A 31)) (l9 (D6 A 32) (some (D6 A 32)) (l9 (D6 A 33) (some (D6 A 33)) (some (D6 A 34))))))) λx=>l9 x (some 1) (o5 (l9 (D6 A 11) (some (D6 A 11)) (l9 (D6 A 12) (some (D6 A 12)) (l9 (D6 A 13) (some (D6 A 13)) (l9 (D6 A 14) (some (D6 A 14)) (l9 (D6 A 15) (some (D6 A 15)) (l9 (D6 A 16) (some (D6 A 16)) (l9 (D6 A 17) (some (D6 A 17)) (l9 (D6 A 18) (some (D6 A 18)) (l9 (D6 A 19) (some (D6 A 19)) (l9 (D6 A 20) (some (D6 A 20)) (l9 (D6 A 21) (some (D6 A 21)) (l9 (D6 A 22) (some (D6 A 22)) (l9 (D6 A 23) (some (D6 A 23)) (l9 (D6 A 24) (some (D6 A 24)) (l9 (D6 A 27) (some (D6 A 27)) (l9 (D6 A 28) (some (D6 A 28)) (l9 (D6 A 29) (some (D6 A 29)) (some (D6 A 30))))))))))))))))))) λx=>l9 x (some 2) (l9 (D6 A 26) (some 3) (some (-1)))))
def q43:FQ:=⟨[ah],tR 2 ah,mE 47 [],sN 1 (ji (sN 1 (blA (ji (.join [(4,19)] ⟨[(4,jv)],[]⟩ S9) (.cond S9 (ji (.join [(19,26)] ⟨[(19,jv)],[]⟩ S9) (.cond S9 (ji (.join [(26,45)] ⟨[(26,jv)],[]⟩ S9) S9))))))) S9)⟩
def s43:FSpec:=gW q43 λx=>mG x
def xJ(A:List F9):Option (c5z×F9):=l9 (I7 48 (x8 A)) (some ([],0,4)) (l9 (D6 (x8 A) 0) (some ([],0,5)) (o5 (yu (x8 A) 0) λx=>o5 (Y9 (λ(x:c5z×c5z×Int)=>l9 (I7 x.2.2 (x8 A)) (o5 (U0 A x.2.2) λg=>o5 (mG g.1) λb=>l9 (I7 b 0) (some (.rt ([],x.2.2,2))) (l9 (I7 (x8 x.2.1) b) (some (.rt ([],x.2.2,5))) (o5 (U0 x.1 x.2.2) λk=>o5 (dm x.1 (aJ x.2.2)) λn=>l9 (I7 0 b) (o5 (U0 x.2.1 (Y5 .i64 (x8 x.2.1) b)) λj=>o5 (dm x.2.1 (aJ (Y5 .i64 (x8 x.2.1) b))) λc=>o5 (U0 (dD x.1 (aJ x.2.2) x.2.2) x.2.2) λd=>o5 (dm (dD x.1 (aJ x.2.2) x.2.2) (aJ x.2.2)) λp=>l9 (mY 0 (Y5 .i64 (x8 x.2.1) b) (x8 x.2.1)) (o5 (U0 (dD (dD x.1 (aJ x.2.2) x.2.2) (aJ x.2.2) c) x.2.2) λq=>o5 (dm (dD (dD x.1 (aJ x.2.2) x.2.2) (aJ x.2.2) c) (aJ x.2.2)) λi=>o5 (eY (lq x.2.1 (aJ 0) (aJ (Y5 .i64 (x8 x.2.1) b))) [i]) λf=>l9 (I7 12 (x8 f)) (some (.rt ([],x.2.2,16))) (some (.nx (dD (dD x.1 (aJ x.2.2) x.2.2) (aJ x.2.2) c,f,G6 .i64 x.2.2 1)))) none) (l9 (mY 0 (Y5 .i64 (x8 x.2.1) b) (x8 x.2.1)) (o5 (U0 (dD x.1 (aJ x.2.2) x.2.2) x.2.2) λj=>o5 (dm (dD x.1 (aJ x.2.2) x.2.2) (aJ x.2.2)) λc=>o5 (eY (lq x.2.1 (aJ 0) (aJ (Y5 .i64 (x8 x.2.1) b))) [c]) λd=>l9 (I7 12 (x8 d)) (some (.rt ([],x.2.2,16))) (some (.nx (dD x.1 (aJ x.2.2) x.2.2,d,G6 .i64 x.2.2 1)))) none)))) (some (.ex (x.1,x.2.1)))) (x,[],0)) λo=>dw o (λ(y:c5z×c5z)=>l9 (I7 1 (x8 y.2)) (some ([],x8 A,4)) (some (y.1,0,0))) λr=>some r))
def q68:FQ:=⟨[uD y12],⟨[(.tmp 2,uoM),(.tmp 3,ah),(.tmp 4,ah)],[]⟩,mE 76 [(43,s43)],sN 5 (ji (sN 1 (blA (lpR [(2,10),(21,70),(27001152,27001153)] ⟨[(5,uoM),(6,uoM),(21,ah)],[]⟩ 0 ⟨[(5,uoM),(6,uoM)],[]⟩ S9))) S9)⟩
def s68:FSpec:=gW q68 λx=>xJ x
def dY(A:Int):c5C:=l9 (D6 A 1) (l9 (D6 A 1) (some true) (some false)) (l9 (D6 A 2) (l9 (D6 A 2) (some true) (some false)) (l9 (D6 A 3) (l9 (D6 A 3) (some true) (some false)) (l9 (D6 A 4) (l9 (D6 A 4) (some true) (some false)) (l9 (D6 A 5) (l9 (D6 A 5) (some true) (some false)) (l9 (D6 A 6) (l9 (D6 A 6) (some true) (some false)) (l9 (D6 A 7) (l9 (D6 A 7) (some true) (some false)) (l9 (D6 A 8) (l9 (D6 A 8) (some true) (some false)) (l9 (D6 A 14) (l9 (D6 A 14) (some true) (some false)) (l9 (D6 A 15) (l9 (D6 A 15) (some true) (some false)) (l9 (D6 A 16) (l9 (D6 A 16) (some true) (some false)) (l9 (D6 A 33) (l9 (D6 A 33) (some true) (some false)) (l9 (D6 A 34) (l9 (D6 A 34) (some true) (some false)) (l9 (D6 A 36) (l9 (D6 A 36) (some true) (some false)) (l9 (D6 A 37) (l9 (D6 A 37) (some true) (some false)) (l9 (D6 A 38) (l9 (D6 A 38) (some true) (some false)) (l9 (D6 A 39) (some true) (some false)))))))))))))))))
def q42:FQ:=⟨[ah],tR 2 jv,mE 22 [],S9⟩
def s42:FSpec:=gW q42 λx=>dY x
def lN(A:Int)(B:Int)(C:V8):Option L8:=o5 (ng (B,0) C.1) λx=>l9 (I7 A x.1) (some ((0,0),3)) (l9 (I7 x.2 A) (some ((0,0),3)) (some ((B,0),0)))
def c0R:FQ:=⟨[ah,ah,tD y54],⟨[(.cell 6 47,tD y2),(.tmp 7,ah)],[]⟩,mE 30 [(85,s85)],S9⟩
def c2A:FSpec:=gW c0R λx=>lN x.1 x.2.1 x.2.2
def BN(A:Int)(B:V8):Option L8:=l9 (I7 A 0) (some ((0,0),3)) (l9 (X6 (x8 B.1) (eP .i64 A 16)) (some ((0,0),6)) (o5 (U0 B.1 (eP .i64 A 16)) λx=>l9 (X6 (x8 x.2) (jB A 16)) (some ((0,0),6)) (some ((6,eP .i64 A 16),0))))
def c0S:FQ:=⟨[ah,tD y54],⟨[(.cell 4 47,tD y2),(.tmp 5,ah)],[]⟩,mE 34 [],S9⟩
def c2B:FSpec:=gW c0S λx=>BN x.1 x.2
def lw(A:Int)(B:List F9)(C:V8):Option L8:=l9 (I7 A 0) (some ((0,0),6)) (l9 (X6 (x8 B) A) (some ((0,0),6)) (o5 (U0 B A) λx=>o5 (dH x C.1) λx=>l9 (J8 x) (some ((0,0),8)) (o5 (U0 B A) λx=>some (x,0))))
def c0T:FQ:=⟨[ah,uD y12,tD y54],⟨[(.cell 6 47,tD y2),(.tmp 7,ah)],[]⟩,mE 30 [(84,s84)],S9⟩
def b7g:FSpec:=gW c0T λx=>lw x.1 x.2.1 x.2.2
def oL(A:Int):c5C:=l9 (X6 0 A) (some (X6 A 5)) (some false)
def c0W:FQ:=⟨[ah],tR 2 jv,mE 9 [],S9⟩
def b7h:FSpec:=gW c0W λx=>oL x
def uy(A:F9)(B:F9)(C:V8):Option L8:=o5 (l9 (D6 A.1 34) (l9 (I7 A.2 0) (some (.inr ((0,0),3))) (o5 (oL (jB A.2 8)) λx=>l9 (J8 x) (some (.inr ((0,0),3))) (some (.inl ((0,0),eP .i64 A.2 8))))) (some (.inl ((0,0),A.2)))) λo=>dw o (λ(x:L8)=>o5 (l9 (I7 x.2 0) (some (.inr ((0,0),6))) (l9 (X6 (x8 C.2.1) x.2) (some (.inr ((0,0),6))) (some (.inl x.1)))) λo=>dw o (λ(d:F9)=>o5 (U0 C.2.1 x.2) λb=>o5 (U0 C.2.1 x.2) λx=>o5 (o5 (dH b.2.1 C.1) λc=>l9 (J8 c) (some (.inr ((0,0),8))) (o5 (dH x.2.2.1 C.1) λx=>l9 (J8 x) (some (.inr ((0,0),8))) (l9 (J8 (jy (D6 B.1 b.2.1.1) (D6 B.2 b.2.1.2))) (some (.inr ((0,0),8))) (some (.inl d))))) λo=>dw o (λ(c:F9)=>l9 (D6 A.1 34) (l9 (J8 (D6 b.2.1.1 3)) (some ((0,0),8)) (l9 (J8 (D6 x.2.2.1.1 4)) (some ((0,0),8)) (some (b.2.1,0)))) (some (x.2.2.1,0))) λr=>some r) λr=>some r) λr=>some r
def c0U:FQ:=⟨[tD y2,tD y2,tD y54],⟨[(.cell 6 47,tD y2),(.tmp 7,ah)],[]⟩,mE 84 [(212,b7h),(84,s84)],sN 2 (ji (jnR [(6,9),(13,30),(4000384,4000385)] ⟨[(6,(false,(.box (dT y2)))),(8,ah)],[]⟩ S9) (ji (jnR [(6,8),(30,40),(9000000,9000001)] ⟨[(6,(false,(.box (dT y2))))],[]⟩ S9) (sN 1 (ji (jnR [(6,8),(52,70),(27000000,27000001)] ⟨[(6,(false,(.box (dT y2))))],[]⟩ S9) S9))))⟩
def c2C:FSpec:=gW c0U λx=>uy x.1 x.2.1 x.2.2
def oD(A:Int):c5C:=l9 (D6 A 2) (some true) (l9 (D6 A 3) (some true) (some (D6 A 4)))
def c1i:FQ:=⟨[ah],tR 2 jv,mE 13 [],S9⟩
def b7j:FSpec:=gW c1i λx=>oD x
def su(A:F9)(B:V8):Option L8:=l9 (J8 B.2.2.2.2.2) (some ((0,0),6)) (l9 (D6 A.1 35) (some ((2,0),0)) (o5 (lw A.2 B.2.2.2.2.1 B) λx=>l9 (J8 (D6 x.2 0)) (some ((0,0),x.2)) (o5 (l9 (D6 A.1 36) (l9 (D6 x.1.1 2) (some true) (some (D6 x.1.1 3))) (l9 (D6 A.1 37) (l9 (D6 A.1 37) (some (D6 x.1.1 1)) (l9 (D6 A.1 39) (o5 (oD x.1.1) λb=>l9 b (some true) (some (D6 x.1.1 5))) (some false))) (l9 (D6 A.1 38) (some (D6 x.1.1 1)) (l9 (D6 A.1 39) (o5 (oD x.1.1) λb=>l9 b (some true) (some (D6 x.1.1 5))) (some false))))) λb=>l9 (J8 b) (some ((0,0),8)) (some (x.1,0)))))
def c0V:FQ:=⟨[tD y2,tD y54],⟨[(.cell 4 47,tD y2),(.tmp 5,ah)],[]⟩,mE 62 [(209,b7g),(234,b7j)],sN 6 (ji (.join [(8,9),(30,58)] ⟨[(8,jv)],[]⟩ S9) S9)⟩
def c2E:FSpec:=gW c0V λx=>su x.1 x.2
def Gx(A:Int)(B:Int)(C:Int):Option (F9×Bool):=l9 (D6 A 14) (l9 (D6 C 4) (l9 (D6 B 3) (some ((B,0),true)) (some ((B,0),D6 B 4))) (some ((B,0),false))) (l9 (D6 C 2) (l9 (D6 B 2) (some ((B,0),true)) (some ((B,0),D6 B 3))) (l9 (D6 A 15) (l9 (D6 B 3) (l9 (D6 C 3) (some ((4,0),true)) (some ((0,0),false))) (some ((0,0),false))) (some ((0,0),false))))
def c1j:FQ:=⟨[ah,ah,ah],⟨[(.cell 6 47,tD y2),(.tmp 7,jv)],[]⟩,mE 47 [],S9⟩
def c2P:FSpec:=gW c1j λx=>Gx x.1 x.2.1 x.2.2
def pW(A:Int)(B:List F9):Option (F9×Bool):=o5 (l9 (D6 A 10) (o5 (U0 B 0) λx=>o5 (U0 B 0) λb=>o5 (oD b.1) λc=>some (.inr (x,c))) (l9 (D6 A 25) (o5 (U0 B 0) λx=>some (.inr ((1,0),D6 x.1 1))) (o5 (l9 (D6 A 11) (some (D6 A 11)) (some (D6 A 12))) λx=>l9 x (o5 (U0 B 0) λx=>o5 (U0 B 0) λb=>o5 (U0 B 1) λc=>l9 (jy (D6 b.1 c.1) (D6 b.2 c.2)) (o5 (U0 B 0) λd=>o5 (oD d.1) λf=>some (.inr (x,f))) (some (.inr (x,false)))) (o5 (l9 (D6 A 13) (some (D6 A 13)) (l9 (D6 A 14) (some (D6 A 14)) (some (D6 A 15)))) λx=>l9 x (o5 (U0 B 0) λx=>o5 (U0 B 1) λb=>o5 (Gx A x.1 b.1) λx=>some (.inr x)) (l9 (D6 A 16) (o5 (U0 B 0) λx=>o5 (U0 B 0) λb=>l9 (D6 b.1 3) (o5 (U0 B 1) λc=>some (.inr (x,D6 c.1 3))) (some (.inr (x,false)))) (o5 (l9 (D6 A 17) (some (D6 A 17)) (some (D6 A 18))) λx=>l9 x (o5 (U0 B 0) λx=>o5 (U0 B 0) λb=>o5 (U0 B 1) λc=>l9 (jy (D6 b.1 c.1) (D6 b.2 c.2)) (o5 (U0 B 0) λd=>o5 (oD d.1) λf=>l9 f (some (.inr (x,true))) (o5 (U0 B 0) λg=>some (.inr (x,D6 g.1 5)))) (some (.inr (x,false)))) (o5 (l9 (D6 A 19) (some (D6 A 19)) (some (D6 A 20))) λx=>l9 x (o5 (U0 B 0) λx=>o5 (U0 B 1) λb=>some (.inr ((1,0),jy (D6 x.1 b.1) (D6 x.2 b.2)))) (o5 (l9 (D6 A 21) (some (D6 A 21)) (some (D6 A 22))) λx=>l9 x (o5 (U0 B 0) λx=>o5 (U0 B 1) λb=>l9 (jy (D6 x.1 b.1) (D6 x.2 b.2)) (o5 (U0 B 0) λx=>o5 (oD x.1) λx=>l9 x (some (.inr ((1,0),true))) (o5 (U0 B 0) λx=>some (.inr ((1,0),D6 x.1 5)))) (some (.inr ((1,0),false)))) (o5 (l9 (D6 A 23) (some (D6 A 23)) (some (D6 A 24))) λx=>l9 x (o5 (U0 B 0) λx=>l9 (D6 x.1 1) (o5 (U0 B 1) λx=>some (.inr ((1,0),D6 x.1 1))) (some (.inr ((1,0),false)))) (l9 (D6 A 26) (o5 (U0 B 1) λx=>o5 (U0 B 0) λb=>l9 (D6 b.1 1) (o5 (U0 B 1) λc=>o5 (U0 B 2) λd=>some (.inr (x,jy (D6 c.1 d.1) (D6 c.2 d.2)))) (some (.inr (x,false)))) (o5 (l9 (D6 A 27) (some (D6 A 27)) (some (D6 A 28))) λx=>l9 x (o5 (U0 B 0) λx=>o5 (U0 B 0) λb=>l9 (D6 b.1 5) (o5 (U0 B 1) λc=>some (.inr (x,D6 c.1 2))) (some (.inr (x,false)))) (l9 (D6 A 29) (l9 (D6 A 29) (o5 (U0 B 0) λx=>l9 (D6 x.1 5) (o5 (U0 B 1) λx=>some (.inr ((2,0),D6 x.1 5))) (some (.inr ((2,0),false)))) (l9 (D6 A 31) (l9 (D6 A 31) (o5 (U0 B 0) λx=>some (.inr ((2,0),D6 x.1 5))) (some (.inl (0,0)))) (l9 (D6 A 32) (o5 (U0 B 0) λx=>some (.inr ((2,0),D6 x.1 5))) (some (.inl (0,0)))))) (l9 (D6 A 30) (o5 (U0 B 0) λx=>l9 (D6 x.1 5) (o5 (U0 B 1) λx=>some (.inr ((2,0),D6 x.1 5))) (some (.inr ((2,0),false)))) (l9 (D6 A 31) (l9 (D6 A 31) (o5 (U0 B 0) λx=>some (.inr ((2,0),D6 x.1 5))) (some (.inl (0,0)))) (l9 (D6 A 32) (o5 (U0 B 0) λx=>some (.inr ((2,0),D6 x.1 5))) (some (.inl (0,0)))))))))))))))))) λo=>dw o (λ(x:F9)=>some ((0,0),false)) λr=>some r
def c0X:FQ:=⟨[ah,uD y12],⟨[(.cell 4 47,tD y2),(.tmp 5,jv)],[]⟩,mE 222 [(234,b7j),(235,c2P)],sN 2 (ji (jnR [(4,6),(8,221),(4000256,4000257)] ⟨[(4,(false,(.box (dT y2))))],[]⟩ (sN 1 (blA (sN 1 (.cond S9 (sN 1 (.cond S9 (ji (.join [(27,30)] ⟨[(27,jv)],[]⟩ S9) (.cond S9 (ji (.join [(47,51)] ⟨[(47,jv)],[]⟩ S9) (.cond S9 (sN 1 (.cond S9 (ji (.join [(80,83)] ⟨[(80,jv)],[]⟩ S9) (.cond S9 (ji (.join [(107,110)] ⟨[(107,jv)],[]⟩ S9) (.cond S9 (ji (.join [(118,121)] ⟨[(118,jv)],[]⟩ S9) (.cond S9 (ji (.join [(143,146)] ⟨[(143,jv)],[]⟩ S9) (.cond S9 (sN 1 (.cond S9 (ji (.join [(178,181)] ⟨[(178,jv)],[]⟩ S9) S9)))))))))))))))))))))))) S9)⟩
def c2F:FSpec:=gW c0X λx=>pW x.1 x.2
def cZ(A:F9)(B:List F9)(C:V8):Option L8:=o5 (l9 (D6 A.1 1) (o5 (lN A.2 1 C) λx=>some (.inr x)) (l9 (D6 A.1 2) (o5 (lN A.2 2 C) λx=>some (.inr x)) (l9 (D6 A.1 3) (o5 (lN A.2 3 C) λx=>some (.inr x)) (l9 (D6 A.1 4) (o5 (lN A.2 4 C) λx=>some (.inr x)) (l9 (D6 A.1 5) (o5 (lN A.2 5 C) λx=>some (.inr x)) (l9 (D6 A.1 6) (o5 (BN A.2 C) λx=>some (.inr x)) (l9 (D6 A.1 7) (o5 (lw A.2 C.2.2.1 C) λx=>some (.inr x)) (l9 (D6 A.1 8) (o5 (lw A.2 C.2.2.2.1 C) λx=>some (.inr x)) (l9 (D6 A.1 9) (some (.inr ((5,0),0))) (o5 (l9 (D6 A.1 33) (some (D6 A.1 33)) (some (D6 A.1 34))) λx=>l9 x (o5 (U0 B 0) λx=>o5 (uy A x C) λx=>some (.inr x)) (o5 (l9 (D6 A.1 35) (some (D6 A.1 35)) (l9 (D6 A.1 36) (some (D6 A.1 36)) (l9 (D6 A.1 37) (some (D6 A.1 37)) (l9 (D6 A.1 38) (some (D6 A.1 38)) (some (D6 A.1 39)))))) λx=>l9 x (o5 (su A C) λx=>some (.inr x)) (l9 (D6 A.1 14) (l9 (D6 A.1 14) (o5 (oL A.2) λx=>l9 (J8 x) (some (.inr ((0,0),3))) (some (.inl (0,0)))) (some (.inl (0,0)))) (l9 (D6 A.1 15) (l9 (D6 A.1 15) (o5 (oL A.2) λx=>l9 (J8 x) (some (.inr ((0,0),3))) (some (.inl (0,0)))) (some (.inl (0,0)))) (l9 (D6 A.1 16) (o5 (oL A.2) λx=>l9 (J8 x) (some (.inr ((0,0),3))) (some (.inl (0,0)))) (some (.inl (0,0))))))))))))))))) λo=>dw o (λ(x:F9)=>o5 (pW A.1 B) λx=>l9 (J8 x.2) (some ((0,0),8)) (some (x.1,0))) λr=>some r
def c0I:FQ:=⟨[tD y2,uD y12,tD y54],⟨[(.cell 6 47,tD y2),(.tmp 7,ah)],[]⟩,mE 125 [(207,c2A),(208,c2B),(209,b7g),(210,c2C),(211,c2E),(212,b7h),(213,c2F)],sN 1 (ji (jnR [(6,8),(10,114),(4000384,4000385)] ⟨[(6,(false,(.box (dT y2))))],[]⟩ (sN 1 (blA (sN 1 (.cond S9 (sN 1 (.cond S9 (sN 1 (.cond S9 (sN 1 (.cond S9 (sN 1 (.cond S9 (sN 1 (.cond S9 (sN 1 (.cond S9 (sN 1 (.cond S9 (sN 1 (.cond S9 (ji (.join [(83,86)] ⟨[(83,jv)],[]⟩ S9) (.cond S9 (ji (.join [(94,100)] ⟨[(94,jv)],[]⟩ S9) S9)))))))))))))))))))))))) S9)⟩
def c2t:FSpec:=gW c0I λx=>cZ x.1 x.2.1 x.2.2
def ES(A:List F9)(B:V8):Option (F9×F9):=o5 (xJ A) λx=>l9 (J8 (D6 x.2.2 0)) (some ((0,0),x.2)) (o5 (Y9 (λ(x:F9×List F9×Int)=>l9 (I7 x.2.2 (x8 A)) (o5 (U0 A x.2.2) λc=>l9 (J8 (D6 c.2 0)) (o5 (dY c.1) λd=>l9 (J8 d) (some (.rt ((0,0),x.2.2,2))) (o5 (mG c.1) λb=>l9 (mY (Y5 .i64 (x8 x.2.1) b) (x8 x.2.1) (x8 x.2.1)) (o5 (cZ c (lq x.2.1 (aJ (Y5 .i64 (x8 x.2.1) b)) (aJ (x8 x.2.1))) B) λf=>l9 (J8 (D6 f.2 0)) (some (.rt ((0,0),x.2.2,f.2))) (l9 (mY 0 (Y5 .i64 (x8 x.2.1) b) (x8 x.2.1)) (o5 (eY (lq x.2.1 (aJ 0) (aJ (Y5 .i64 (x8 x.2.1) b))) [f.1]) λg=>some (.nx (x.1,g,G6 .i64 x.2.2 1))) none)) none)) (o5 (mG c.1) λd=>l9 (mY (Y5 .i64 (x8 x.2.1) d) (x8 x.2.1) (x8 x.2.1)) (o5 (cZ c (lq x.2.1 (aJ (Y5 .i64 (x8 x.2.1) d)) (aJ (x8 x.2.1))) B) λb=>l9 (J8 (D6 b.2 0)) (some (.rt ((0,0),x.2.2,b.2))) (l9 (mY 0 (Y5 .i64 (x8 x.2.1) d) (x8 x.2.1)) (o5 (eY (lq x.2.1 (aJ 0) (aJ (Y5 .i64 (x8 x.2.1) d))) [b.1]) λf=>some (.nx (x.1,f,G6 .i64 x.2.2 1))) none)) none)) (some (.ex (x.1,x.2.1)))) ((0,0),[],0)) λo=>dw o (λ(y:F9×List F9)=>o5 (U0 y.2 0) λx=>o5 (dm y.2 (aJ 0)) λx=>some (x,0,0)) λr=>some r)
def c0t:FQ:=⟨[uD y12,tD y54],⟨[(.cell 4 47,tD y2),(.tmp 5,ah),(.tmp 6,ah)],[]⟩,mE 75 [(68,s68),(42,s42),(43,s43),(184,c2t)],sN 4 (ji (sN 1 (blA (lpR [(4,7),(10,16),(29,72),(4000256,4000257)] ⟨[(4,(false,(.box (dT y2)))),(10,(uO y2)),(29,ah)],[]⟩ 0 ⟨[(4,(false,(.box (dT y2)))),(10,(uO y2))],[]⟩ S9))) S9)⟩
def c2f:FSpec:=gW c0t λx=>ES x.1 x.2
def wV(A:List F9)(B:V8)(C:F9):c5E:=o5 (ES A B) λx=>l9 (J8 (D6 x.2.2 0)) (some x.2.2) (l9 (J8 (jy (D6 x.1.1 C.1) (D6 x.1.2 C.2))) (some 8) (some 0))
def b9Z:FQ:=⟨[uD y12,tD y54,tD y2],tR 6 ah,mE 23 [(153,c2f)],S9⟩
def c1R:FSpec:=gW b9Z λx=>wV x.1 x.2.1 x.2.2
def BP(A:N8)(B:Int)(C:V8):c5E:=o5 (U0 A.2.2.2.2 B) λx=>o5 (gJ A.2.2.2.2 0 B) λf=>o5 (aS (λ(b:F9)=>l9 (I7 b.2 (x8 f)) (o5 (U0 f b.2) λc=>l9 (D6 c.2.1 x.2.1) (some (.inl (G6 .i64 b.1 1,G6 .i64 b.2 1))) (some (.inl (b.1,G6 .i64 b.2 1)))) (some (.inr b.1))) (0,0)) λy=>o5 (o5 (dB x.1) λb=>l9 (J8 b) (some (.inr 2)) (o5 (gJ A.2.2.2.2 0 B) λc=>o5 (iH c x) λg=>l9 g (some (.inr 7)) (o5 (l9 (I7 x.2.1 0) (some true) (some (X6 (x8 A.2.2.2.1) x.2.1))) λi=>l9 i (some (.inr 6)) (o5 (l9 (J8 (D6 x.2.2.1 (-1))) (l9 (I7 x.2.2.1 0) (some true) (l9 (X6 B x.2.2.1) (some true) (o5 (U0 A.2.2.2.2 x.2.2.1) λd=>some (J8 (D6 d.2.1 x.2.1))))) (some false)) λd=>l9 d (some (.inr 9)) (o5 (l9 (I7 x.2.2.2.1 0) (some true) (some (I7 9 x.2.2.2.1))) λj=>l9 j (some (.inr 3)) (l9 (I7 x.2.2.2.2.1.1 0) (some (.inr 3)) (l9 (X6 x.2.2.2.2.1.2 x.2.2.2.2.1.1) (some (.inr 3)) (l9 (I7 109573 x.2.2.2.2.1.2) (some (.inr 3)) (l9 (X6 8 y) (some (.inr 4)) (o5 (yY x.2.2.2.2.2.2.2) λk=>l9 (J8 k) (some (.inr 2)) (some (.inl x)))))))))))) λo=>dw o (λ(x:iV)=>l9 (I7 0 (x8 x.2.2.2.2.2.1)) (o5 (wV x.2.2.2.2.2.1 C (1,0)) λb=>l9 (J8 (D6 b 0)) (some b) (o5 (U0 A.2.2.2.1 x.2.1) λc=>o5 (wV x.2.2.2.2.2.2.1 C c.2) λx=>some x)) (o5 (U0 A.2.2.2.1 x.2.1) λb=>o5 (wV x.2.2.2.2.2.2.1 C b.2) λx=>some x)) λr=>some r
def b9K:FQ:=⟨[tD y24,ah,tD y54],tR 6 ah,mE 145 [(54,s54),(127,a4v),(126,b0P),(128,c1Q),(129,c1R)],sN 3 (ji (sN 1 (blA (.loop [(8,9),(10,11),(22,34)] ⟨[(8,ah),(22,ah)],[]⟩ 0 ⟨[(8,ah)],[]⟩ S9))) (ji (jnR [(6,8),(34,122),(7000448,7000449)] ⟨[(7,(false,(.rp y19)))],[]⟩ (blA (sN 1 (.cond S9 (sN 1 (.cond S9 (ji (.join [(46,58)] ⟨[(46,jv)],[]⟩ S9) (.cond S9 (ji (.join [(58,85)] ⟨[(58,jv)],[]⟩ S9) (.cond S9 (ji (.join [(85,94)] ⟨[(85,jv)],[]⟩ S9) S9))))))))))) S9))⟩
def c1B:FSpec:=gW b9K λx=>BP x.1 x.2.1 x.2.2
def b9E:List MG:=[(false,(.ownb (.int .i64)))]
def b7b:FSpec:=⟨b9E,[],[uoM],λx=>DL x⟩
def b9F:List MG:=[uoM]
def b7c:FSpec:=⟨b9F,[uoM],[],λx=>sK x⟩
def wS(A:c5z):Option c5z:=o5 (DL A) λx=>o5 (sK x) λx=>some x
def c0Y:FQ:=⟨[uoM],tR 2 uoM,mE 7 [(186,b7b),(187,b7c)],S9⟩
def c2G:FSpec:=gW c0Y λx=>wS x
def wH(A:List F9):Option qU:=o5 (aS (λ(x:c5z×c5z×c5z×Int)=>l9 (I7 x.2.2.2 (x8 A)) (o5 (U0 A x.2.2.2) λb=>l9 (D6 b.1 7) (o5 (eY x.1 [b.2]) λc=>some (.inl (c,x.2.1,x.2.2.1,G6 .i64 x.2.2.2 1))) (l9 (D6 b.1 8) (o5 (eY x.2.1 [b.2]) λc=>some (.inl (x.1,c,x.2.2.1,G6 .i64 x.2.2.2 1))) (l9 (D6 b.1 36) (l9 (D6 b.1 36) (o5 (eY x.2.2.1 [b.2]) λc=>some (.inl (x.1,x.2.1,c,G6 .i64 x.2.2.2 1))) (some (.inl (x.1,x.2.1,x.2.2.1,G6 .i64 x.2.2.2 1)))) (l9 (D6 b.1 37) (l9 (D6 b.1 37) (o5 (eY x.2.2.1 [b.2]) λc=>some (.inl (x.1,x.2.1,c,G6 .i64 x.2.2.2 1))) (some (.inl (x.1,x.2.1,x.2.2.1,G6 .i64 x.2.2.2 1)))) (l9 (D6 b.1 38) (l9 (D6 b.1 38) (o5 (eY x.2.2.1 [b.2]) λc=>some (.inl (x.1,x.2.1,c,G6 .i64 x.2.2.2 1))) (some (.inl (x.1,x.2.1,x.2.2.1,G6 .i64 x.2.2.2 1)))) (l9 (D6 b.1 39) (o5 (eY x.2.2.1 [b.2]) λc=>some (.inl (x.1,x.2.1,c,G6 .i64 x.2.2.2 1))) (some (.inl (x.1,x.2.1,x.2.2.1,G6 .i64 x.2.2.2 1))))))))) (some (.inr (x.1,x.2.1,x.2.2.1)))) ([],[],[],0)) λy=>o5 (wS y.1) λx=>o5 (wS y.2.1) λb=>o5 (wS y.2.2) λc=>some (x,b,c)
def c0J:FQ:=⟨[uD y12],⟨[(.tmp 2,uoM),(.tmp 3,uoM),(.tmp 4,uoM)],[]⟩,mE 49 [(214,c2G)],sN 2 (ji (sN 1 (blA (.loop [(5,8),(9,10),(12,43)] ⟨[(5,uoM),(6,uoM),(7,uoM),(12,ah)],[]⟩ 0 ⟨[(5,uoM),(6,uoM),(7,uoM)],[]⟩ S9))) S9)⟩
def c2u:FSpec:=gW c0J λx=>wH x
def vG(A:iV)(B:Int):Option c5z:=o5 (wH A.2.2.2.2.2.1) λx=>o5 (wH A.2.2.2.2.2.2.1) λd=>o5 (aS (λ(b:c5z×Int)=>l9 (I7 b.2 (x8 x.2.1)) (o5 (U0 x.2.1 b.2) λc=>o5 (dm x.2.1 (aJ b.2)) λx=>l9 (X6 0 x) (l9 (I7 x B) (o5 (eY b.1 [x]) λx=>some (.inl (x,G6 .i64 b.2 1))) (some (.inl (b.1,G6 .i64 b.2 1)))) (some (.inl (b.1,G6 .i64 b.2 1)))) (some (.inr b.1))) ([],0)) λy=>o5 (aS (λ(x:c5z×Int)=>l9 (I7 x.2 (x8 d.2.1)) (o5 (U0 d.2.1 x.2) λb=>o5 (dm d.2.1 (aJ x.2)) λc=>l9 (X6 0 c) (l9 (I7 c B) (o5 (eY x.1 [c]) λf=>some (.inl (f,G6 .i64 x.2 1))) (some (.inl (x.1,G6 .i64 x.2 1)))) (some (.inl (x.1,G6 .i64 x.2 1)))) (some (.inr x.1))) (y,0)) λy=>some y
def c0u:FQ:=⟨[tD y19,ah],tR 4 uoM,mE 67 [(185,c2u)],sN 4 (ji (sN 1 (blA (.loop [(5,6),(13,14),(32,48)] ⟨[(5,uoM),(32,ah)],[]⟩ 0 ⟨[(5,uoM)],[]⟩ S9))) (ji (sN 1 (blA (.loop [(5,6),(15,16),(50,66),(21000000,21000001)] ⟨[(5,uoM),(50,ah)],[]⟩ 2 ⟨[(5,uoM)],[]⟩ S9))) S9))⟩
def c2g:FSpec:=gW c0u λx=>vG x.1 x.2
def Ea(A:c5z):Option c5z:=o5 (DL A) λx=>o5 (sK x) λx=>some x
def c0w:FQ:=⟨[uoM],tR 2 uoM,mE 7 [(186,b7b),(187,b7c)],S9⟩
def c2h:FSpec:=gW c0w λx=>Ea x
def zU(A:N8):Option (List c5z):=o5 (yu (x8 A.2.2.2.1) []) λx=>o5 (aS (λ(x:List c5z×Int)=>l9 (I7 x.2 (x8 A.2.2.2.2)) (o5 (U0 A.2.2.2.2 x.2) λb=>l9 (X6 0 b.2.1) (l9 (I7 b.2.1 (x8 x.1)) (l9 (inb b.2.1 (x8 x.1)) (o5 (dm x.1 (aJ b.2.1)) λc=>o5 (vG b (x8 x.1)) λd=>o5 (eY c d) λf=>l9 (inb b.2.1 (x8 x.1)) (l9 (XU (aJ b.2.1) (aJ b.2.1)) (o5 (dm x.1 (aJ b.2.1)) λg=>some (.inl (dD x.1 (aJ b.2.1) f,G6 .i64 x.2 1))) none) none) none) (some (.inl (x.1,G6 .i64 x.2 1)))) (some (.inl (x.1,G6 .i64 x.2 1)))) (some (.inr x.1))) (x,0)) λy=>o5 (aS (λ(x:List c5z×Int)=>l9 (I7 x.2 (x8 y)) (l9 (inb x.2 (x8 x.1)) (o5 (dm x.1 (aJ x.2)) λb=>o5 (Ea b) λc=>l9 (inb x.2 (x8 x.1)) (l9 (XU (aJ x.2) (aJ x.2)) (o5 (dm x.1 (aJ x.2)) λd=>some (.inl (dD x.1 (aJ x.2) c,G6 .i64 x.2 1))) none) none) none) (some (.inr x.1))) (y,0)) λy=>some y
def c0e:FQ:=⟨[tD y24],tR 2 (uD y62),⟨58,eqs,tt,gl,[(154,c2g),(155,c2h)],[(223,oiM)],[7,36,50,53],[],[],[],[]⟩,sN 2 (ji (sN 1 (blA (.loop [(3,4),(5,6),(15,44),(7000704,7000705)] ⟨[(3,(false,(.owns oiM))),(15,ah)],[]⟩ 0 ⟨[(3,(false,(.owns oiM)))],[]⟩ S9))) (ji (sN 1 (blA (.loop [(3,4),(6,8),(44,45),(46,57),(15000000,15000001)] ⟨[(3,(false,(.owns oiM))),(46,ah)],[(44,3,none)]⟩ 2 ⟨[(3,(false,(.owns oiM)))],[]⟩ S9))) S9))⟩
def c1V:FSpec:=gW c0e λx=>zU x
def Dj(A:List c5z)(B:Int):Option c5z:=o5 (yu (x8 A) false) λx=>o5 (aS (λ(x:List Bool×c5z)=>l9 (I7 0 (x8 x.2)) (o5 (U0 x.2 0) λf=>o5 (dm x.2 (aJ 0)) λd=>l9 (mY 1 (x8 x.2) (x8 x.2)) (o5 (U0 A d) λc=>o5 (aS (λ(x:List Bool×c5z×Int)=>l9 (I7 x.2.2 (x8 c)) (o5 (U0 c x.2.2) λb=>o5 (U0 x.1 b) λj=>o5 (dm x.1 (aJ b)) λg=>l9 (J8 g) (o5 (U0 x.1 b) λk=>o5 (dm x.1 (aJ b)) λn=>o5 (eY x.2.1 [b]) λi=>some (.inl (dD x.1 (aJ b) true,i,G6 .i64 x.2.2 1))) (some (.inl (x.1,x.2.1,G6 .i64 x.2.2 1)))) (some (.inr (x.1,x.2.1)))) (x.1,lq x.2 (aJ 1) (aJ (x8 x.2)),0)) λy=>some (.inl y)) none) (some (.inr x.1))) (x,[B])) λy=>o5 (aS (λ(x:c5z×Int)=>l9 (I7 x.2 (x8 y)) (o5 (U0 y x.2) λf=>o5 (dm y (aJ x.2)) λd=>l9 d (o5 (eY x.1 [x.2]) λc=>some (.inl (c,G6 .i64 x.2 1))) (some (.inl (x.1,G6 .i64 x.2 1)))) (some (.inr x.1))) ([],0)) λy=>some y
def c0d:FQ:=⟨[uD y62,ah],tR 4 uoM,mE 62 [],sN 3 (ji (blA (.loop [(5,8),(9,10),(18,48),(7000960,7000961),(10001088,10001089)] ⟨[(5,(uO .bool)),(6,uoM)],[]⟩ 0 ⟨[(5,(uO .bool))],[]⟩ (sN 1 (blA (sN 3 (blA (.loop [(5,7),(9,10),(31,48),(14000000,14000002)] ⟨[(5,(uO .bool)),(6,uoM),(31,ah)],[]⟩ 2 ⟨[(5,(uO .bool)),(6,uoM)],[]⟩ S9))))))) (sN 1 (ji (sN 1 (blA (.loop [(10,13),(50,61)] ⟨[(10,uoM),(50,ah)],[]⟩ 4 ⟨[(10,uoM)],[]⟩ S9))) S9)))⟩
def c1T:FSpec:=gW c0d λx=>Dj x.1 x.2
def yS(A:N8)(B:Int):Option c5z:=l9 (I7 B 0) (some []) (l9 (X6 (x8 A.2.2.2.1) B) (some []) (o5 (zU A) λx=>o5 (Dj x B) λx=>some x))
def b9M:FQ:=⟨[tD y24,ah],tR 4 uoM,mE 18 [(132,c1V),(131,c1T)],S9⟩
def c1E:FSpec:=gW b9M λx=>yS x.1 x.2
def xW(A:c5z)(B:Int):c5E:=o5 (Y9 (λ(x:Int)=>l9 (I7 x (x8 A)) (o5 (U0 A x) λb=>l9 (D6 B b) (some (.rt x)) (some (.nx (G6 .i64 x 1)))) (some (.ex ()))) 0) λo=>dw o (λy=>some (-1)) λr=>some r
def c0c:FQ:=⟨[uD y29,ah],tR 4 ah,mE 19 [],sN 1 (ji (sN 1 (blA (lpR [(4,6),(8,19)] ⟨[(8,ah)],[]⟩ 0 sgN S9))) S9)⟩
def c1S:FSpec:=gW c0c λx=>xW x.1 x.2
def pM(A:c5z)(B:Int):c5C:=o5 (xW A B) λx=>some (X6 0 x)
def b9L:FQ:=⟨[uD y29,ah],tR 4 jv,mE 9 [(130,c1S)],S9⟩
def c1C:FSpec:=gW b9L λx=>pM x.1 x.2
def Ad(A:gz)(B:Int):Option F9:=o5 (U0 A.2.2 B) λx=>o5 (gJ A.2.2 0 B) λf=>o5 (o5 (zB A.1 x.1) λd=>l9 d (some (x,true)) (o5 (Ae A.2.1 x.1) λb=>l9 b (some (x,true)) (o5 (gK f x) λc=>some (x,c)))) λx=>o5 (o5 (dB x.1.1) λd=>l9 (J8 d) (some (.inr (2,0))) (l9 x.2 (some (.inr (7,0))) (o5 (l9 (J8 (D6 x.1.2.1 (-1))) (l9 (I7 x.1.2.1 0) (some true) (l9 (X6 B x.1.2.1) (some true) (o5 (U0 f x.1.2.1) λx=>some (J8 (D6 x.2.1 (-1)))))) (some false)) λb=>l9 b (some (.inr (6,0))) (l9 (I7 12 (x8 x.1.2.2.1)) (some (.inr (4,112))) (l9 (I7 12 (x8 x.1.2.2.2.1)) (some (.inr (4,212))) (some (.inl ()))))))) λo=>dw o (λd=>o5 (Y9 (λ(b:Int)=>l9 (I7 b (x8 x.1.2.2.1)) (o5 (U0 x.1.2.2.1 b) λc=>o5 (gJ x.1.2.2.1 0 b) λx=>o5 (xP A c x []) λx=>l9 (J8 (D6 x 0)) (some (.rt (x,G6 .i64 100 b))) (some (.nx (G6 .i64 b 1)))) (some (.ex ()))) 0) λo=>dw o (λy=>o5 (Y9 (λ(b:Int)=>l9 (I7 b (x8 x.1.2.2.2.1)) (o5 (U0 x.1.2.2.2.1 b) λc=>o5 (gJ x.1.2.2.2.1 0 b) λg=>o5 (xP A c x.1.2.2.1 g) λx=>l9 (J8 (D6 x 0)) (some (.rt (x,G6 .i64 200 b))) (some (.nx (G6 .i64 b 1)))) (some (.ex ()))) 0) λo=>dw o (λy=>o5 (uk A B) λb=>o5 (Y9 (λ(c:Int)=>l9 (I7 c (x8 x.1.2.2.2.2)) (o5 (BP x.1 c b) λx=>l9 (J8 (D6 x 0)) (some (.rt (x,G6 .i64 300 c))) (some (.nx (G6 .i64 c 1)))) (some (.ex ()))) 0) λo=>dw o (λy=>o5 (Y9 (λ(c:Int)=>l9 (I7 c (x8 x.1.2.2.2.1)) (o5 (yS x.1 c) λx=>o5 (pM x c) λx=>l9 x (some (.rt (9,G6 .i64 200 c))) (some (.nx (G6 .i64 c 1)))) (some (.ex ()))) 0) λo=>dw o (λy=>some (0,0)) λr=>some r) λr=>some r) λr=>some r) λr=>some r) λr=>some r
def q57:FQ:=⟨[tD y27,ah],⟨[(.tmp 4,ah),(.tmp 5,ah)],[]⟩,mE 163 [(55,s55),(56,s56),(97,b0X),(96,b5q),(54,s54),(98,s98),(99,s99),(100,c1B),(102,c1E),(101,c1C)],sN 3 (ji (.join [(6,7),(8,9),(28,45),(7000384,7000385)] ⟨[(6,(false,(.rp y24))),(8,jv)],[]⟩ S9) (ji (jnR [(4,6),(45,86)] sgN (blA (sN 1 (.cond S9 (sN 1 (.cond S9 (ji (.join [(52,76)] ⟨[(52,jv)],[]⟩ S9) S9))))))) (ji (sN 1 (blA (lpR [(4,6),(9,12),(89,107)] ⟨[(89,ah)],[]⟩ 1 sgN S9))) (ji (sN 1 (blA (lpR [(4,6),(12,15),(110,130)] ⟨[(110,ah)],[]⟩ 3 sgN S9))) (sN 1 (ji (sN 1 (blA (lpR [(4,6),(16,18),(136,149)] ⟨[(136,ah)],[]⟩ 5 sgN S9))) (ji (sN 1 (blA (lpR [(4,6),(18,19),(152,163)] ⟨[(152,ah)],[]⟩ 7 sgN S9))) S9)))))))⟩
def s57:FSpec:=gW q57 λx=>Ad x.1 x.2
def yV(A:gz):Option uq:=l9 (I7 4 (x8 A.2.2)) (some (4,3,4,0)) (o5 (Y9 (λ(x:uq×Int)=>l9 (I7 x.2 (x8 A.2.2)) (o5 (Ad A x.2) λb=>l9 (J8 (D6 b.1 0)) (some (.rt (b.1,3,x.2,b.2))) (some (.nx (x.1,G6 .i64 x.2 1)))) (some (.ex x.1))) ((0,0,0,0),0)) λo=>dw o (λ(y:uq)=>some (0,0,0,0)) λr=>some r)
def q31:FQ:=⟨[tD y27],cR 2 65 (tD y35),mE 31 [(57,s57)],sN 2 (ji (sN 1 (blA (lpR [(2,6),(14,30),(4000128,4000129)] ⟨[(2,(false,(.box (dT y35)))),(14,ah)],[]⟩ 0 ⟨[(2,(false,(.box (dT y35))))],[]⟩ S9))) S9)⟩
def s31:FSpec:=gW q31 λx=>yV x
def sU(A:gz):Option uq:=o5 (Ac A) λx=>l9 (J8 (D6 x.1 0)) (some x) (o5 (yX A) λx=>l9 (J8 (D6 x.1 0)) (some x) (o5 (yV A) λx=>some x))
def q12:FQ:=⟨[tD y27],cR 2 65 (tD y35),mE 19 [(29,s29),(30,s30),(31,s31)],S9⟩
def s12:FSpec:=gW q12 λx=>sU x
def yZ(A:N8):c5C:=o5 (l9 (I7 80 (x8 A.1)) (some (.inr false)) (l9 (I7 14 (x8 A.2.2.1)) (some (.inr false)) (l9 (I7 14 (x8 A.2.2.2.1)) (some (.inr false)) (l9 (I7 60 (x8 A.2.2.2.2)) (some (.inr false)) (some (.inl ())))))) λo=>dw o (λx=>o5 (Y9 (λ(x:Int)=>l9 (I7 x (x8 A.2.2.1)) (o5 (U0 A.2.2.1 x) λb=>l9 (I7 80 (x8 b.1)) (some (.rt false)) (some (.nx (G6 .i64 x 1)))) (some (.ex ()))) 0) λo=>dw o (λy=>o5 (Y9 (λ(x:Int)=>l9 (I7 x (x8 A.2.2.2.1)) (o5 (U0 A.2.2.2.1 x) λb=>l9 (I7 80 (x8 b.1)) (some (.rt false)) (some (.nx (G6 .i64 x 1)))) (some (.ex ()))) 0) λo=>dw o (λy=>o5 (Y9 (λ(x:Int)=>l9 (I7 x (x8 A.2.2.2.2)) (o5 (U0 A.2.2.2.2 x) λb=>l9 (I7 80 (x8 b.1)) (some (.rt false)) (l9 (I7 80 (x8 b.2.2.2.2.2.2.2)) (some (.rt false)) (l9 (I7 50 (x8 b.2.2.2.2.2.1)) (some (.rt false)) (l9 (I7 50 (x8 b.2.2.2.2.2.2.1)) (some (.rt false)) (some (.nx (G6 .i64 x 1))))))) (some (.ex ()))) 0) λo=>dw o (λy=>some true) λr=>some r) λr=>some r) λr=>some r) λr=>some r
def q10:FQ:=⟨[tD y24],tR 2 jv,mE 93 [],sN 1 (ji (jnR [(2,3),(7,29)] sgN S9) (ji (sN 1 (blA (lpR [(2,4),(29,44)] ⟨[(3,ah)],[]⟩ 0 sgN S9))) (ji (sN 1 (blA (lpR [(2,3),(4,5),(44,59)] ⟨[(4,ah)],[]⟩ 2 sgN S9))) (ji (sN 1 (blA (lpR [(2,3),(5,7),(59,93)] ⟨[(5,ah)],[]⟩ 4 sgN S9))) S9))))⟩
def s10:FSpec:=gW q10 λx=>yZ x
def BR(A:gz):c5C:=o5 (l9 (I7 9 (x8 A.1)) (some (.inr false)) (l9 (I7 9 (x8 A.2.1)) (some (.inr false)) (l9 (I7 5 (x8 A.2.2)) (some (.inr false)) (some (.inl ()))))) λo=>dw o (λx=>o5 (Y9 (λ(x:Int)=>l9 (I7 x (x8 A.1)) (o5 (U0 A.1 x) λb=>l9 (I7 80 (x8 b.1)) (some (.rt false)) (o5 (U0 A.1 x) λc=>l9 (I7 20 (x8 c.2)) (some (.rt false)) (o5 (Y9 (λ(d:Int)=>o5 (U0 A.1 x) λf=>l9 (I7 d (x8 f.2)) (o5 (U0 A.1 x) λx=>o5 (U0 x.2 d) λx=>l9 (I7 80 (x8 x)) (some (.rt false)) (some (.nx (G6 .i64 d 1)))) (some (.ex ()))) 0) λo=>dw o (λy=>some (.nx (G6 .i64 x 1))) λr=>some (.rt r)))) (some (.ex ()))) 0) λo=>dw o (λy=>o5 (Y9 (λ(x:F9)=>l9 (I7 x.2 (x8 A.2.1)) (o5 (U0 A.2.1 x.2) λb=>o5 (U0 A.2.1 x.2) λc=>l9 (I7 80 (x8 c.1)) (some (.rt false)) (l9 (I7 150 (G6 .i64 x.1 (x8 b.2.2.2))) (some (.rt false)) (some (.nx (G6 .i64 x.1 (x8 b.2.2.2),G6 .i64 x.2 1))))) (some (.ex ()))) (0,0)) λo=>dw o (λy=>o5 (Y9 (λ(x:F9)=>l9 (I7 x.2 (x8 A.2.2)) (o5 (U0 A.2.2 x.2) λb=>l9 (I7 60 (G6 .i64 x.1 (x8 b.2.2.2.2))) (some (.rt false)) (o5 (U0 A.2.2 x.2) λc=>o5 (yZ c) λd=>l9 (J8 d) (some (.rt false)) (some (.nx (G6 .i64 x.1 (x8 b.2.2.2.2),G6 .i64 x.2 1))))) (some (.ex ()))) (0,0)) λo=>dw o (λy=>some true) λr=>some r) λr=>some r) λr=>some r) λr=>some r
def q4:FQ:=⟨[tD y27],tR 2 jv,mE 127 [(10,s10)],sN 1 (ji (jnR [(2,3),(9,25)] sgN S9) (sN 2 (ji (sN 1 (blA (lpR [(2,3),(5,7),(25,72)] ⟨[(5,ah)],[]⟩ 0 sgN (sN 1 (ji (blA (sN 2 (blA (lpR [(2,3),(6,7),(50,72)] ⟨[(6,ah)],[]⟩ 2 sgN S9)))) S9))))) (ji (sN 1 (blA (lpR [(2,4),(7,8),(72,100)] ⟨[(3,ah),(7,ah)],[]⟩ 4 sgN S9))) (ji (sN 1 (blA (lpR [(2,3),(4,5),(8,9),(100,127)] ⟨[(4,ah),(8,ah)],[]⟩ 6 sgN S9))) S9)))))⟩
def s4:FSpec:=gW q4 λx=>BR x
def Qk(A:List F9):Option gz:=some ([],[],[([104,111,117,115,101],-1,[([97],3,0)],[([100],3,0)],[([98,97,115,101],0,-1,0,(0,109573),[],A,[])])])
def q11:FQ:=⟨[uD y12],⟨[(.cell 2 26,(true,(pA (dT y1) (pA (dT y9) (.owns (pA (dT .str) (pA P7 (pA (dT y11) (pA (dT y11) (oW y19))))))))))],[]⟩,⟨22,eqs,tt,gl,[],[(24,(pA (dT .str) (pA P7 (pA (dT y11) (pA (dT y11) (oW y19))))))],[],[],[],[],[]⟩,S9⟩
def s11:FSpec:=gW q11 λx=>Qk x
def c4P:List MG:=[(false,(.sbx 80 5)),(false,(.dat .str))]
def s18:FSpec:=⟨c4P,[ah,(false,(.cell none))],[(false,(.sbx 80 5))],λx=>nV x.1 x.2⟩
def c4S:List MG:=[(false,(.dat (.sl .str)))]
def s67:FSpec:=⟨c4S,[(false,(.own .str))],[],λx=>um x⟩
def xQ(A:List gm):Option (List gm):=o5 (aS (λ(x:List gm×Int)=>l9 (I7 x.2 (x8 A)) (o5 (U0 A x.2) λb=>o5 (um b.2) λc=>o5 (eY x.1 [(b.1,c)]) λd=>some (.inl (d,G6 .i64 x.2 1))) (some (.inr x.1))) ([],0)) λy=>some y
def q39:FQ:=⟨[uD y1],tR 2 (uO y0),mE 23 [(67,s67)],sN 2 (ji (sN 1 (blA (.loop [(3,4),(5,6),(8,22)] ⟨[(3,(uO y0)),(8,ah)],[]⟩ 0 ⟨[(3,(uO y0))],[]⟩ S9))) S9)⟩
def s39:FSpec:=gW q39 λx=>xQ x
def uC(A:List mF):Option (List c5y):=o5 (aS (λ(x:List c5y×Int)=>l9 (I7 x.2 (x8 A)) (o5 (U0 A x.2) λb=>o5 (eY x.1 [b.1]) λc=>some (.inl (c,G6 .i64 x.2 1))) (some (.inr x.1))) ([],0)) λy=>some y
def q40:FQ:=⟨[uD y11],tR 2 (uO .str),mE 19 [],sN 2 (ji (sN 1 (blA (.loop [(3,4),(5,6),(8,18)] ⟨[(3,(uO .str)),(8,ah)],[]⟩ 0 ⟨[(3,(uO .str))],[]⟩ S9))) S9)⟩
def s40:FSpec:=gW q40 λx=>uC x
def sH(A:gz)(B:Int):Option D9:=o5 (l9 (I7 B 0) (some (.inr ([],[],[],[],[]))) (l9 (X6 (x8 A.2.2) B) (some (.inr ([],[],[],[],[]))) (some (.inl ([],[],[],[],[]))))) λo=>dw o (λ(x:D9)=>o5 (U0 A.2.2 B) λx=>o5 (xQ A.1) λb=>o5 (uC x.2.2.1) λc=>o5 (uC x.2.2.2.1) λd=>o5 (aS (λ(x:D9×Int)=>l9 (I7 x.2 (x8 A.2.1)) (o5 (U0 A.2.1 x.2) λf=>o5 (eY x.1.2.1 [f.1]) λg=>some (.inl ((x.1.1,g,x.1.2.2),G6 .i64 x.2 1))) (some (.inr x.1))) ((b,[],c,d,[]),0)) λy=>l9 (X6 0 x.2.1) (l9 (I7 x.2.1 (x8 A.2.2)) (o5 (U0 A.2.2 x.2.1) λx=>o5 (uC x.2.2.2.1) λx=>some (y.1,y.2.1,y.2.2.1,y.2.2.2.1,x)) (some y)) (some y)) λr=>some r
def q19:FQ:=⟨[tD y27,ah],cR 4 88 (tD lW),mE 70 [(39,s39),(40,s40)],sN 1 (ji (jnR [(4,5),(9,19),(4000256,4000257)] ⟨[(4,(false,(.box (dT lW))))],[]⟩ S9) (sN 2 (ji (sN 1 (blA (.loop [(6,7),(8,9),(37,49),(20000384,20000385),(20001664,20001665),(20001856,20001857),(20002048,20002049)] ⟨[(6,(false,(.box (pA (oW y0) (pA (oW .str) (pA (oW .str) (pA (oW .str) (dT (.sl .str))))))))),(37,ah)],[]⟩ 0 ⟨[(6,(false,(.box (pA (oW y0) (pA (oW .str) (pA (oW .str) (pA (oW .str) (dT (.sl .str)))))))))],[]⟩ S9))) S9)))⟩
def s19:FSpec:=gW q19 λx=>sH x.1 x.2
def Cb(A:List F9):Option (c5z×Int):=o5 (xJ A) λx=>some (x.1,x.2.2)
def q41:FQ:=⟨[uD y12],⟨[(.tmp 2,uoM),(.tmp 3,ah)],[]⟩,mE 15 [(68,s68)],S9⟩
def s41:FSpec:=gW q41 λx=>Cb x
def tu(A:Int)(B:F9)(C:List gm):c5C:=o5 (ng B C) λx=>l9 (X6 x.1 A) (some (X6 A x.2)) (some false)
def c0i:FQ:=⟨[ah,tD y2,uD y1],tR 6 jv,mE 23 [(85,s85)],S9⟩
def c1Y:FSpec:=gW c0i λx=>tu x.1 x.2.1 x.2.2
def b9B:List MG:=[ah]
def c2i:FSpec:=⟨b9B,[(false,(.dat .str))],[],λx=>Gl x⟩
def pJ(A:Int):Option c5y:=o5 (Gl A) λx=>some x
def c0j:FQ:=⟨[ah],tR 2 (uD .str),mE 5 [(166,c2i)],S9⟩
def b3N:FSpec:=gW c0j λx=>pJ x
def nC(A:Int):c5E:=some (CW 0 (EJ A 9))
def c0x:FQ:=⟨[ah],tR 2 ah,mE 6 [],S9⟩
def b6Y:FSpec:=gW c0x λx=>nC x
def b9C:List MG:=[(false,(.dat .str)),ah]
def b6Z:FSpec:=⟨b9C,[(false,(.dat .str))],[],λx=>vg x.1 x.2⟩
def eH(A:Int)(B:Int):Option c5y:=o5 (nC B) λx=>o5 (pJ A) λc=>l9 (D6 x 0) (some c) (l9 (I7 A 0) (o5 (gJ c 1 (x8 c)) λb=>l9 (X6 (x8 b) x) (o5 (vg [48] (Y5 .i64 (G6 .i64 x 1) (x8 b))) λd=>o5 (aO d b) λf=>o5 (gJ f 0 (Y5 .i64 (x8 f) x)) λg=>o5 (aO [45] g) λi=>o5 (aO i [46]) λj=>o5 (gJ f (Y5 .i64 (x8 f) x) (x8 f)) λx=>o5 (aO j x) λx=>some x) (o5 (gJ b 0 (Y5 .i64 (x8 b) x)) λd=>o5 (aO [45] d) λf=>o5 (aO f [46]) λg=>o5 (gJ b (Y5 .i64 (x8 b) x) (x8 b)) λx=>o5 (aO g x) λx=>some x)) (l9 (X6 (x8 c) x) (o5 (vg [48] (Y5 .i64 (G6 .i64 x 1) (x8 c))) λb=>o5 (aO b c) λd=>o5 (gJ d 0 (Y5 .i64 (x8 d) x)) λf=>o5 (aO [] f) λg=>o5 (aO g [46]) λi=>o5 (gJ d (Y5 .i64 (x8 d) x) (x8 d)) λx=>o5 (aO i x) λx=>some x) (o5 (gJ c 0 (Y5 .i64 (x8 c) x)) λb=>o5 (aO [] b) λd=>o5 (aO d [46]) λf=>o5 (gJ c (Y5 .i64 (x8 c) x) (x8 c)) λx=>o5 (aO f x) λx=>some x)))
def c0k:FQ:=⟨[ah,ah],tR 4 (uD .str),mE 45 [(167,b6Y),(140,b3N),(168,b6Z)],S9⟩
def c1Z:FSpec:=gW c0k λx=>eH x.1 x.2
def DZ(A:Int):c5C:=l9 (X6 0 A) (some (X6 A 109572)) (some false)
def c0y:FQ:=⟨[ah],tR 2 jv,mE 9 [],S9⟩
def b7a:FSpec:=gW c0y λx=>DZ x
def xI(A:Int):c5E:=some (G6 .i64 (Y5 .i64 (eP .i64 A 4) (eP .i64 A 100)) (eP .i64 A 400))
def c0Z:FQ:=⟨[ah],tR 2 ah,mE 11 [],S9⟩
def c2H:FSpec:=gW c0Z λx=>xI x
def qV(A:Int):c5E:=o5 (xI (Y5 .i64 A 1)) λx=>o5 (xI 1899) λb=>some (Y5 .i64 (G6 .i64 (Pn .i64 (Y5 .i64 A 1900) 365) x) b)
def c0K:FQ:=⟨[ah],tR 2 ah,mE 12 [(221,c2H)],S9⟩
def b7d:FSpec:=gW c0K λx=>qV x
def EP(A:Int):c5C:=l9 (D6 (jB A 4) 0) (l9 (J8 (D6 (jB A 100) 0)) (some true) (some (D6 (jB A 400) 0))) (some false)
def c1b:FQ:=⟨[ah],tR 2 jv,mE 16 [],S9⟩
def c2I:FSpec:=gW c1b λx=>EP x
def lM(A:Int)(B:Int):c5E:=l9 (I7 B 1) (some 0) (l9 (I7 12 B) (some 0) (l9 (D6 B 2) (o5 (EP A) λx=>l9 x (some 29) (o5 (U0 [31,28,31,30,31,30,31,31,30,31,30,31] (Y5 .i64 B 1)) λx=>some x)) (o5 (U0 [31,28,31,30,31,30,31,31,30,31,30,31] (Y5 .i64 B 1)) λx=>some x)))
def c0L:FQ:=⟨[ah,ah],tR 4 ah,mE 21 [(222,c2I)],S9⟩
def b7e:FSpec:=gW c0L λx=>lM x.1 x.2
def Ii(A:Int):Option FO:=o5 (DZ A) λx=>l9 (J8 x) (some (0,0,0)) (o5 (aS (λ(x:Int)=>o5 (qV (G6 .i64 x 1)) λb=>l9 (X6 b A) (some (.inl (G6 .i64 x 1))) (some (.inr x))) (G6 .i64 1900 (eP .i64 A 366))) λy=>o5 (qV y) λx=>o5 (Y9 (λ(x:F9)=>l9 (I7 x.2 12) (o5 (lM y (G6 .i64 x.2 1)) λb=>l9 (I7 x.1 b) (some (.rt (y,G6 .i64 x.2 1,G6 .i64 x.1 1))) (some (.nx (Y5 .i64 x.1 b,G6 .i64 x.2 1)))) (some (.ex ()))) (Y5 .i64 A x,0)) λo=>dw o (λy=>some (0,0,0)) λr=>some r)
def c0z:FQ:=⟨[ah],⟨[(.tmp 2,ah),(.tmp 3,ah),(.tmp 4,ah)],[]⟩,mE 45 [(169,b7a),(196,b7d),(197,b7e)],sN 3 (ji (blA (.loop [(5,6),(15,22)] ⟨[(5,ah)],[]⟩ 0 ⟨[(5,ah)],[]⟩ S9)) (sN 1 (ji (sN 1 (blA (lpR [(2,5),(6,9),(26,45)] ⟨[(6,ah),(26,ah)],[]⟩ 2 sgN S9))) S9)))⟩
def c2j:FSpec:=gW c0z λx=>Ii x
def DY(A:Int)(B:Int):Option c5y:=o5 (pJ A) λx=>o5 (vg [48] (CW 0 (Y5 .i64 B (x8 x)))) λb=>o5 (aO b x) λx=>some x
def c0A:FQ:=⟨[ah,ah],tR 4 (uD .str),mE 16 [(140,b3N),(168,b6Z)],S9⟩
def c2k:FSpec:=gW c0A λx=>DY x.1 x.2
def EO(A:Int):Option c5y:=o5 (DZ A) λx=>l9 (J8 x) (some []) (o5 (Ii A) λx=>o5 (DY x.1 4) λb=>o5 (aO b [45]) λc=>o5 (DY x.2.1 2) λd=>o5 (aO c d) λf=>o5 (aO f [45]) λg=>o5 (DY x.2.2 2) λx=>o5 (aO g x) λx=>some x)
def c0l:FQ:=⟨[ah],tR 2 (uD .str),mE 25 [(169,b7a),(170,c2j),(171,c2k)],S9⟩
def c2a:FSpec:=gW c0l λx=>EO x
def ny(A:FO)(B:List gm):Option (c5y×Int):=o5 (dH (A.1,A.2.1) B) λx=>l9 (J8 x) (some ([],8)) (o5 (tu A.2.2 (A.1,A.2.1) B) λx=>l9 (J8 x) (some ([],3)) (l9 (D6 A.1 1) (l9 (D6 A.2.2 0) (some ([102,97,108,115,101],0)) (some ([116,114,117,101],0))) (l9 (D6 A.1 2) (o5 (pJ A.2.2) λx=>some (x,0)) (l9 (D6 A.1 3) (o5 (eH A.2.2 2) λx=>some (x,0)) (l9 (D6 A.1 4) (o5 (eH A.2.2 4) λx=>o5 (aO x [37]) λx=>some (x,0)) (l9 (D6 A.1 5) (o5 (EO A.2.2) λx=>some (x,0)) (o5 (U0 B A.2.1) λx=>o5 (U0 x.2 A.2.2) λx=>some (x,0))))))))
def b9Q:FQ:=⟨[tD y3,uD y1],⟨[(.tmp 4,(uD .str)),(.tmp 5,ah)],[]⟩,mE 60 [(84,s84),(139,c1Y),(140,b3N),(141,c1Z),(142,c2a)],S9⟩
def c1J:FSpec:=gW b9Q λx=>ny x.1 x.2
def bz(A:c5y):Option I9:=some (A,7,false)
def q72:FQ:=⟨[uD .str],cR 2 119 (tD y44),mE 5 [],S9⟩
def s72:FSpec:=gW q72 λx=>bz x
def qw(A:F9):Option (I9×Int):=o5 (ny (A.1,0,A.2) []) λx=>l9 (J8 (D6 x.2 0)) (some (([],0,false),3)) (o5 (bz x.1) λx=>l9 (D6 A.1 2) (l9 (I7 A.2 0) (some ((x.1,6,true),0)) (some ((x.1,x.2.1,true),0))) (l9 (D6 A.1 3) (l9 (I7 A.2 0) (some ((x.1,6,true),0)) (some ((x.1,x.2.1,true),0))) (l9 (D6 A.1 4) (l9 (I7 A.2 0) (some ((x.1,6,D6 A.1 4),0)) (some ((x.1,x.2.1,D6 A.1 4),0))) (some ((x.1,x.2.1,D6 A.1 4),0)))))
def q69:FQ:=⟨[tD y2],⟨[(.cell 2 119,tD y44),(.tmp 3,ah)],[]⟩,mE 44 [(110,c1J),(72,s72)],S9⟩
def s69:FSpec:=gW q69 λx=>qw x
def iW(A:Int):Option c5y:=l9 (D6 A 14) (some [115,104,97,114,101]) (l9 (D6 A 15) (some [100,105,118]) (l9 (D6 A 16) (some [114,111,117,110,100]) (l9 (D6 A 17) (some [109,105,110]) (l9 (D6 A 18) (some [109,97,120]) (l9 (D6 A 27) (some [112,108,117,115]) (l9 (D6 A 28) (some [109,111,110,116,104,115]) (l9 (D6 A 29) (some [100,97,121,115]) (l9 (D6 A 30) (some [121,101,97,114,115]) (l9 (D6 A 31) (some [121,101,97,114]) (l9 (D6 A 32) (some [109,111,110,116,104]) (l9 (D6 A 33) (some [116,97,98]) (l9 (D6 A 34) (some [98,97,110,100]) (l9 (D6 A 35) (some [99,111,117,110,116]) (l9 (D6 A 36) (some [115,117,109]) (l9 (D6 A 37) (some [97,108,108]) (l9 (D6 A 38) (some [97,110,121]) (l9 (D6 A 39) (some [109,111,115,116]) (some []))))))))))))))))))
def q73:FQ:=⟨[ah],tR 2 (uD .str),mE 40 [],S9⟩
def s73:FSpec:=gW q73 λx=>iW x
def gB(A:F9)(B:D9):Option (I9×Int):=o5 (l9 (D6 A.1 6) (l9 (I7 A.2 0) (some (.inr (([],0,false),6))) (l9 (X6 (x8 B.1) (eP .i64 A.2 16)) (some (.inr (([],0,false),6))) (o5 (U0 B.1 (eP .i64 A.2 16)) λx=>o5 (aO x.1 [58]) λb=>some (.inl (([],0,false),x.2,jB A.2 16,b,[]))))) (l9 (D6 A.1 7) (some (.inl (([],0,false),B.2.2.1,A.2,[],[]))) (l9 (D6 A.1 8) (some (.inl (([],0,false),B.2.2.2.1,A.2,[],[]))) (o5 (iW A.1) λx=>o5 (aO x [40]) λx=>some (.inl (([],0,false),B.2.2.2.2,A.2,x,[41])))))) λo=>dw o (λ(x:I9×List c5y×Int×c5y×c5y)=>l9 (I7 x.2.2.1 0) (some (([],0,false),6)) (l9 (X6 (x8 x.2.1) x.2.2.1) (some (([],0,false),6)) (o5 (U0 x.2.1 x.2.2.1) λb=>o5 (aO x.2.2.2.1 b) λc=>o5 (aO c x.2.2.2.2) λx=>o5 (bz x) λx=>some (x,0)))) λr=>some r
def q70:FQ:=⟨[tD y2,tD lW],⟨[(.cell 4 119,tD y44),(.tmp 5,ah)],[]⟩,mE 77 [(73,s73),(72,s72)],sN 2 (ji (jnR [(4,11),(15,59),(4000256,4000257)] ⟨[(4,(false,(.box (dT y44)))),(6,(uD (.sl .str))),(7,ah),(8,(uD .str)),(9,(uD .str))],[]⟩ S9) S9)⟩
def s70:FSpec:=gW q70 λx=>gB x.1 x.2
def gZ(A:Int):Option c5y:=l9 (D6 A 0) (some [100,111,119,110]) (l9 (D6 A 1) (some [117,112]) (l9 (D6 A 2) (some [122,101,114,111]) (l9 (D6 A 3) (some [97,119,97,121]) (l9 (D6 A 4) (some [104,97,108,102]) (l9 (D6 A 5) (some [101,118,101,110]) (some []))))))
def q74:FQ:=⟨[ah],tR 2 (uD .str),mE 16 [],S9⟩
def s74:FSpec:=gW q74 λx=>gZ x
def iZ(A:F9)(B:I9)(C:D9):Option (I9×Int):=o5 (l9 (D6 A.1 34) (l9 (I7 0 A.2) (some (eP .i64 A.2 8)) (some A.2)) (some A.2)) λx=>o5 (l9 (I7 x 0) (some (.inr (([],0,false),6))) (l9 (X6 (x8 C.2.1) x) (some (.inr (([],0,false),6))) (some (.inl ([],0,false))))) λo=>dw o (λ(g:I9)=>o5 (iW A.1) λc=>o5 (aO c [40]) λd=>o5 (U0 C.2.1 x) λx=>o5 (aO d x) λx=>o5 (aO x [44,32]) λx=>o5 (aO x B.1) λx=>l9 (D6 A.1 34) (o5 (gZ (jB A.2 8)) λb=>l9 (seq b []) (some (([],0,false),3)) (o5 (aO [44,32] b) λf=>o5 (aO x f) λx=>o5 (aO x [41]) λx=>o5 (bz x) λx=>some (x,0))) (o5 (aO x [41]) λx=>o5 (bz x) λx=>some (x,0))) λr=>some r
def q71:FQ:=⟨[tD y2,tD y44,tD lW],⟨[(.cell 6 119,tD y44),(.tmp 7,ah)],[]⟩,mE 63 [(73,s73),(74,s74),(72,s72)],sN 2 (ji (.join [(8,9),(13,22)] ⟨[(8,ah)],[]⟩ S9) (ji (jnR [(6,8),(22,32),(4000384,4000385)] ⟨[(6,(false,(.box (dT y44))))],[]⟩ S9) S9))⟩
def s71:FSpec:=gW q71 λx=>iZ x.1 x.2.1 x.2.2
def gU(A:I9)(B:Int):Option c5y:=l9 (I7 A.2.1 B) (o5 (aO [40] A.1) λx=>o5 (aO x [41]) λx=>some x) (some A.1)
def q75:FQ:=⟨[tD y44,ah],tR 4 (uD .str),mE 15 [],S9⟩
def s75:FSpec:=gW q75 λx=>gU x.1 x.2
def jA(A:Int):Option (c5y×Int):=l9 (D6 A 24) (some ([111,114],1)) (l9 (D6 A 23) (some ([97,110,100],2)) (l9 (D6 A 19) (some ([61,61],3)) (l9 (D6 A 20) (some ([33,61],3)) (l9 (D6 A 21) (some ([60],3)) (l9 (D6 A 22) (some ([60,61],3)) (l9 (D6 A 11) (some ([43],4)) (l9 (D6 A 12) (some ([45],4)) (l9 (D6 A 13) (some ([42],5)) (some ([],0))))))))))
def q76:FQ:=⟨[ah],⟨[(.tmp 2,(uD .str)),(.tmp 3,ah)],[]⟩,mE 23 [],S9⟩
def s76:FSpec:=gW q76 λx=>jA x
def ae(A:F9)(B:List I9)(C:D9):Option (I9×Int):=o5 (o5 (l9 (D6 A.1 1) (some (D6 A.1 1)) (l9 (D6 A.1 2) (some (D6 A.1 2)) (l9 (D6 A.1 3) (some (D6 A.1 3)) (l9 (D6 A.1 4) (some (D6 A.1 4)) (some (D6 A.1 5)))))) λx=>l9 x (o5 (qw A) λx=>some (.inr x)) (o5 (l9 (D6 A.1 6) (some (D6 A.1 6)) (l9 (D6 A.1 7) (some (D6 A.1 7)) (l9 (D6 A.1 8) (some (D6 A.1 8)) (l9 (D6 A.1 36) (some (D6 A.1 36)) (l9 (D6 A.1 37) (some (D6 A.1 37)) (l9 (D6 A.1 38) (some (D6 A.1 38)) (some (D6 A.1 39)))))))) λx=>l9 x (o5 (gB A C) λx=>some (.inr x)) (o5 (l9 (D6 A.1 33) (some (D6 A.1 33)) (some (D6 A.1 34))) λx=>l9 x (o5 (U0 B 0) λx=>o5 (iZ A x C) λx=>some (.inr x)) (l9 (D6 A.1 9) (o5 (bz [116,111,100,97,121]) λx=>some (.inr (x,0))) (l9 (D6 A.1 35) (o5 (bz [99,111,117,110,116,40,41]) λx=>some (.inr (x,0))) (o5 (l9 (D6 A.1 31) (some (D6 A.1 31)) (some (D6 A.1 32))) λx=>l9 x (o5 (iW A.1) λx=>o5 (aO x [40]) λx=>o5 (U0 B 0) λb=>o5 (aO x b.1) λx=>o5 (aO x [41]) λx=>o5 (bz x) λx=>some (.inr (x,0))) (o5 (l9 (D6 A.1 17) (some (D6 A.1 17)) (l9 (D6 A.1 18) (some (D6 A.1 18)) (l9 (D6 A.1 27) (some (D6 A.1 27)) (l9 (D6 A.1 28) (some (D6 A.1 28)) (l9 (D6 A.1 29) (some (D6 A.1 29)) (some (D6 A.1 30))))))) λx=>l9 x (o5 (iW A.1) λx=>o5 (aO x [40]) λx=>o5 (U0 B 0) λb=>o5 (aO x b.1) λx=>o5 (aO x [44,32]) λx=>o5 (U0 B 1) λc=>o5 (aO x c.1) λx=>o5 (aO x [41]) λx=>o5 (bz x) λx=>some (.inr (x,0))) (o5 (l9 (D6 A.1 14) (some (D6 A.1 14)) (l9 (D6 A.1 15) (some (D6 A.1 15)) (some (D6 A.1 16)))) λx=>l9 x (o5 (gZ A.2) λx=>l9 (seq x []) (some (.inr (([],0,false),3))) (o5 (iW A.1) λb=>o5 (aO b [40]) λc=>o5 (U0 B 0) λd=>o5 (aO c d.1) λf=>o5 (aO f [44,32]) λg=>o5 (U0 B 1) λi=>o5 (aO g i.1) λj=>o5 (aO j [44,32]) λk=>o5 (aO k x) λx=>o5 (aO x [41]) λx=>o5 (bz x) λx=>some (.inr (x,0)))) (l9 (D6 A.1 26) (o5 (U0 B 0) λx=>o5 (aO [105,102,32] x.1) λx=>o5 (aO x [32,116,104,101,110,32]) λx=>o5 (U0 B 1) λb=>o5 (aO x b.1) λx=>o5 (aO x [32,101,108,115,101,32]) λx=>o5 (U0 B 2) λc=>o5 (aO x c.1) λx=>some (.inr ((x,0,false),0))) (l9 (D6 A.1 25) (o5 (U0 B 0) λx=>o5 (gU x 6) λx=>o5 (aO [110,111,116,32] x) λx=>some (.inr ((x,6,false),0))) (l9 (D6 A.1 10) (o5 (U0 B 0) λx=>o5 (gU x 6) λx=>o5 (U0 B 0) λb=>l9 b.2.2 (o5 (U0 B 0) λx=>o5 (aO [40] x.1) λx=>o5 (aO x [41]) λx=>o5 (aO [45] x) λx=>some (.inr ((x,6,false),0))) (o5 (aO [45] x) λx=>some (.inr ((x,6,false),0)))) (some (.inl ([],0,false)))))))))))))) λo=>dw o (λ(x:I9)=>o5 (jA A.1) λx=>l9 (D6 x.2 3) (o5 (U0 B 0) λb=>o5 (gU b 4) λc=>o5 (aO c [32]) λd=>o5 (aO d x.1) λf=>o5 (aO f [32]) λg=>o5 (U0 B 1) λi=>o5 (gU i (G6 .i64 x.2 1)) λj=>o5 (aO g j) λk=>some ((k,x.2,false),0)) (o5 (U0 B 0) λb=>o5 (gU b x.2) λc=>o5 (aO c [32]) λd=>o5 (aO d x.1) λf=>o5 (aO f [32]) λg=>o5 (U0 B 1) λi=>o5 (gU i (G6 .i64 x.2 1)) λj=>o5 (aO g j) λk=>some ((k,x.2,false),0))) λr=>some r
def q44:FQ:=⟨[tD y2,uD y45,tD lW],⟨[(.cell 6 119,tD y44),(.tmp 7,ah)],[]⟩,mE 203 [(69,s69),(70,s70),(71,s71),(72,s72),(73,s73),(74,s74),(75,s75),(76,s76)],sN 1 (ji (jnR [(6,11),(16,174),(4000384,4000385)] ⟨[(6,(false,(.box (dT y44))))],[]⟩ (sN 1 (blA (ji (.join [(18,24)] ⟨[(18,jv)],[]⟩ S9) (.cond S9 (ji (.join [(28,36)] ⟨[(28,jv)],[]⟩ S9) (.cond S9 (ji (.join [(41,44)] ⟨[(41,jv)],[]⟩ S9) (.cond S9 (sN 1 (.cond S9 (sN 1 (.cond S9 (ji (.join [(58,61)] ⟨[(58,jv)],[]⟩ S9) (.cond S9 (ji (.join [(72,79)] ⟨[(72,jv)],[]⟩ S9) (.cond S9 (ji (.join [(96,100)] ⟨[(96,jv)],[]⟩ S9) S9)))))))))))))))))) S9)⟩
def s44:FSpec:=gW q44 λx=>ae x.1 x.2.1 x.2.2
def pX(A:List F9)(B:D9):Option (c5y×Int):=o5 (Cb A) λx=>l9 (J8 (D6 x.2 0)) (some ([],x.2)) (o5 (Y9 (λ(x:List I9×Int)=>l9 (I7 x.2 (x8 A)) (o5 (U0 A x.2) λc=>l9 (J8 (D6 c.2 0)) (o5 (dY c.1) λd=>l9 (J8 d) (some (.rt ([],2))) (o5 (mG c.1) λb=>l9 (mY (Y5 .i64 (x8 x.1) b) (x8 x.1) (x8 x.1)) (o5 (ae c (lq x.1 (aJ (Y5 .i64 (x8 x.1) b)) (aJ (x8 x.1))) B) λf=>l9 (J8 (D6 f.2 0)) (some (.rt ([],f.2))) (l9 (mY 0 (Y5 .i64 (x8 x.1) b) (x8 x.1)) (o5 (eY (lq x.1 (aJ 0) (aJ (Y5 .i64 (x8 x.1) b))) [f.1]) λg=>some (.nx (g,G6 .i64 x.2 1))) none)) none)) (o5 (mG c.1) λd=>l9 (mY (Y5 .i64 (x8 x.1) d) (x8 x.1) (x8 x.1)) (o5 (ae c (lq x.1 (aJ (Y5 .i64 (x8 x.1) d)) (aJ (x8 x.1))) B) λb=>l9 (J8 (D6 b.2 0)) (some (.rt ([],b.2))) (l9 (mY 0 (Y5 .i64 (x8 x.1) d) (x8 x.1)) (o5 (eY (lq x.1 (aJ 0) (aJ (Y5 .i64 (x8 x.1) d))) [b.1]) λf=>some (.nx (f,G6 .i64 x.2 1))) none)) none)) (some (.ex x.1))) ([],0)) λo=>dw o (λ(y:List I9)=>o5 (U0 y 0) λx=>o5 (dm y (aJ 0)) λx=>some (x.1,0)) λr=>some r)
def q20:FQ:=⟨[uD y12,tD lW],⟨[(.tmp 4,(uD .str)),(.tmp 5,ah)],[]⟩,mE 66 [(41,s41),(42,s42),(43,s43),(44,s44)],sN 3 (ji (sN 1 (blA (lpR [(4,6),(8,9),(10,14),(24,62)] ⟨[(8,(uO y44)),(24,ah)],[]⟩ 0 ⟨[(8,(uO y44))],[]⟩ S9))) S9)⟩
def s20:FSpec:=gW q20 λx=>pX x.1 x.2
def kU(A:Int):c5E:=some (EJ (CW A 0) 8)
def q62:FQ:=⟨[ah],tR 2 ah,mE 6 [],S9⟩
def s62:FSpec:=gW q62 λx=>kU x
def BV(A:F9)(B:Int):c5C:=l9 (X6 0 A.1) (o5 (kU B) λx=>o5 (AQ .i64 1 x) λx=>l9 (I7 A.1 x) (l9 (X6 0 A.2) (some (D6 (ak .i64 A.2 A.1) A.2)) (some false)) (some false)) (some false)
def q45:FQ:=⟨[tD y2,ah],tR 4 jv,mE 31 [(62,s62)],S9⟩
def s45:FSpec:=gW q45 λx=>BV x.1 x.2
def xX(A:F9)(B:Int):Option c5y:=o5 (kU B) λx=>o5 (aS (λ(x:c5z×Int)=>l9 (X6 0 x.2) (o5 (EX .i64 A.1 x.2) λd=>l9 (D6 (ak .i64 d 1) 0) (o5 (eY x.1 [45]) λb=>some (.inl (b,Y5 .i64 x.2 1))) (o5 (EX .i64 A.2 x.2) λb=>l9 (D6 (ak .i64 b 1) 1) (o5 (eY x.1 [49]) λc=>some (.inl (c,Y5 .i64 x.2 1))) (o5 (eY x.1 [48]) λc=>some (.inl (c,Y5 .i64 x.2 1))))) (some (.inr x.1))) ([],Y5 .i64 x 1)) λy=>some (JG y)
def q46:FQ:=⟨[tD y2,ah],tR 4 (uD .str),mE 39 [(62,s62)],sN 2 (ji (sN 1 (blA (.loop [(5,7),(10,37)] ⟨[(5,(false,(oW (.int .u8)))),(6,ah)],[]⟩ 0 ⟨[(5,(false,(oW (.int .u8))))],[]⟩ S9))) S9)⟩
def s46:FSpec:=gW q46 λx=>xX x.1 x.2
def oJ(A:N8)(B:L8)(C:Int):Option (c5y×Int):=o5 (BV B.1 C) λx=>l9 (J8 x) (some ([],3)) (o5 (l9 (I7 0 C) (o5 (xX B.1 C) λx=>some x) (some [46])) λx=>l9 (D6 B.2 (-1)) (o5 (aO [114,111,119,32] x) λx=>o5 (aO x [32,110,111,110,101,10]) λx=>some (x,0)) (l9 (D6 B.2 (-2)) (o5 (aO [114,111,119,32] x) λx=>o5 (aO x [32,99,111,110,102,108,105,99,116,10]) λx=>some (x,0)) (l9 (X6 0 B.2) (l9 (I7 B.2 (x8 A.2.2.2.2)) (o5 (aO [114,111,119,32] x) λx=>o5 (aO x [32,114,117,108,101,32]) λx=>o5 (U0 A.2.2.2.2 B.2) λb=>o5 (aO x b.1) λx=>o5 (aO x [10]) λx=>some (x,0)) (some ([],6))) (some ([],6)))))
def q21:FQ:=⟨[tD y24,tD y30,ah],⟨[(.tmp 6,(uD .str)),(.tmp 7,ah)],[]⟩,mE 58 [(45,s45),(46,s46)],sN 3 (ji (.join [(8,9),(14,20)] ⟨[(8,(uD .str))],[]⟩ S9) S9)⟩
def s21:FSpec:=gW q21 λx=>oJ x.1 x.2.1 x.2.2
def c4Q:List MG:=[(false,(.sbx 80 5))]
def s22:FSpec:=⟨c4Q,[ah],[(false,(.sbx 80 5))],λx=>DJ x⟩
def c4R:List MG:=[(false,(.sbx 80 5))]
def s23:FSpec:=⟨c4R,[(false,(.dat .str))],[(false,(.sbx 80 5))],λx=>zq x⟩
def kF(A:gz)(B:Int)(C:G9):Option (c5y×Int):=o5 (sU A) λx=>l9 (J8 (jy (D6 x.1 0) (jy (D6 x.2.1 0) (jy (D6 x.2.2.1 0) (D6 x.2.2.2 0))))) (some ([],1)) (o5 (l9 (I7 B 0) (some (.inr ([],6))) (l9 (X6 (x8 A.2.2) B) (some (.inr ([],6))) (some (.inl ())))) λo=>dw o (λx=>o5 (U0 A.2.2 B) λx=>o5 (l9 (I7 C.1 0) (some (.inr ([],6))) (l9 (X6 (x8 x.2.2.2.1) C.1) (some (.inr ([],6))) (some (.inl ())))) λo=>dw o (λp=>l9 (I7 8 (x8 C.2.1)) (some ([],4)) (l9 (J8 (D6 (x8 C.2.2.1) (x8 C.2.1))) (some ([],2)) (o5 (U0 x.2.2.2.1 C.1) λg=>o5 (aO [100,101,99,105,115,105,111,110,32] g.1) λi=>o5 (aO i [10]) λj=>o5 (nV [] j) λk=>o5 (sH A B) λn=>o5 (Y9 (λ(b:c5y×Int)=>l9 (I7 b.2 (x8 C.2.1)) (o5 (U0 C.2.1 b.2) λf=>o5 (U0 C.2.2.1 b.2) λc=>l9 (I7 c 0) (some (.rt ([],6))) (l9 (X6 (x8 x.2.2.2.2) c) (some (.rt ([],6))) (o5 (pX f n) λd=>l9 (J8 (D6 d.2 0)) (some (.rt ([],d.2))) (o5 (U0 x.2.2.2.2 c) λx=>o5 (aO [119,104,101,110,32] x.1) λx=>o5 (aO x [32]) λx=>o5 (aO x d.1) λx=>o5 (aO x [10]) λx=>o5 (nV b.1 x) λx=>some (.nx (x.2.2,G6 .i64 b.2 1)))))) (some (.ex b.1))) (k.2.2,0)) λo=>dw o (λ(y:c5y)=>o5 (Y9 (λ(b:c5y×Int)=>l9 (I7 b.2 (x8 C.2.2.2)) (o5 (U0 C.2.2.2 b.2) λf=>o5 (oJ x f (x8 C.2.1)) λx=>l9 (J8 (D6 x.2 0)) (some (.rt ([],x.2))) (o5 (DJ b.1) λc=>l9 (X6 c.1 65536) (o5 (nV c.2 x.1) λx=>some (.nx (x.2.2,G6 .i64 b.2 1))) (some (.nx (c.2,G6 .i64 b.2 1))))) (some (.ex b.1))) (y,0)) λo=>dw o (λ(y:c5y)=>o5 (DJ y) λx=>l9 (I7 65536 x.1) (some ([],4)) (o5 (zq x.2) λx=>some (x.1,0))) λr=>some r) λr=>some r))) λr=>some r) λr=>some r)
def q7:FQ:=⟨[tD y27,ah,tD y34],⟨[(.tmp 6,(uD .str)),(.tmp 7,ah)],[]⟩,mE 144 [(12,s12),(18,s18),(19,s19),(20,s20),(21,s21),(22,s22),(23,s23)],sN 2 (ji (jnR [(6,8),(24,33)] sgN S9) (sN 1 (ji (jnR [(6,8),(38,49)] sgN S9) (sN 5 (ji (sN 1 (blA (lpR [(6,8),(9,10),(11,16),(76,117),(60000576,60000577),(63004417,63004418)] ⟨[(9,(false,(.sbx 80 5))),(76,ah)],[]⟩ 0 ⟨[(9,(false,(.sbx 80 5)))],[]⟩ S9))) (ji (sN 1 (blA (lpR [(6,8),(9,10),(17,20),(120,141),(74000000,74000002)] ⟨[(9,(false,(.sbx 80 5))),(120,ah)],[]⟩ 2 ⟨[(9,(false,(.sbx 80 5)))],[]⟩ S9))) S9))))))⟩
def s7:FSpec:=gW q7 λx=>kF x.1 x.2.1 x.2.2
def vU(A:c5y):Option (List c5y×Int):=l9 (I7 65536 (x8 A)) (some ([],4)) (l9 (seq A []) (some ([],0)) (o5 (Y9 (λ(x:List c5y×Int×c5y×Int)=>l9 (I7 x.2.2.2 (x8 x.2.2.1)) (l9 (D6 (uY x.2.2.1 x.2.2.2) 10) (o5 (gJ A x.2.1 x.2.2.2) λb=>o5 (eY x.1 [b]) λc=>some (.nx (c,G6 .i64 x.2.2.2 1,x.2.2.1,yO x.2.2.1 x.2.2.2))) (l9 (D6 (uY x.2.2.1 x.2.2.2) 9) (some (.nx (x.1,x.2.1,x.2.2.1,yO x.2.2.1 x.2.2.2))) (l9 (X6 32 (uY x.2.2.1 x.2.2.2)) (l9 (X6 (uY x.2.2.1 x.2.2.2) 126) (some (.nx (x.1,x.2.1,x.2.2.1,yO x.2.2.1 x.2.2.2))) (some (.rt ([],2)))) (some (.rt ([],2)))))) (some (.ex (x.1,x.2.1)))) ([],0,A,0)) λo=>dw o (λ(y:List c5y×Int)=>l9 (J8 (D6 y.2 (x8 A))) (some ([],2)) (some (y.1,0))) λr=>some r))
def q24:FQ:=⟨[uD .str],⟨[(.tmp 2,(uO .str)),(.tmp 3,ah)],[]⟩,mE 47 [],sN 5 (ji (sN 1 (blA (lpR [(2,8),(14,42),(34000896,34000897)] ⟨[(4,(uO .str)),(5,ah),(14,(false,.sit))],[]⟩ 0 ⟨[(4,(uO .str)),(5,ah)],[]⟩ S9))) S9)⟩
def s24:FSpec:=gW q24 λx=>vU x
def b9z:List MG:=[(false,(.dat .str)),(false,(.dat .str))]
def b6U:FSpec:=⟨b9z,[jv],[],λx=>jV x.1 x.2⟩
def lQ(A:c5y)(B:c5y):Option (c5y×Bool):=o5 (jV A B) λx=>l9 (J8 x) (some (A,false)) (o5 (gJ A (x8 B) (x8 A)) λx=>some (x,true))
def q77:FQ:=⟨[uD .str,(uD .str)],⟨[(.tmp 4,(uD .str)),(.tmp 5,jv)],[]⟩,mE 15 [(111,b6U)],S9⟩
def s77:FSpec:=gW q77 λx=>lQ x.1 x.2
def fH(A:c5y)(B:c5y):Option (c5y×Bool):=o5 (lQ A B) λx=>some x
def q47:FQ:=⟨[uD .str,(uD .str)],⟨[(.tmp 4,(uD .str)),(.tmp 5,jv)],[]⟩,mE 11 [(77,s77)],S9⟩
def s47:FSpec:=gW q47 λx=>fH x.1 x.2
def qh(A:c5y):c5C:=l9 (J8 (seq A [])) (o5 (tC A [32]) λx=>some (J8 x)) (some false)
def q48:FQ:=⟨[uD .str],tR 2 jv,mE 10 [(78,s78)],S9⟩
def s48:FSpec:=gW q48 λx=>qh x
def b9A:List MG:=[(false,(.dat .str)),(false,(.dat .str))]
def c2b:FSpec:=⟨b9A,[ah],[],λx=>DK x.1 x.2⟩
def zY(A:c5y)(B:c5y):Option (c5y×c5y×Bool):=o5 (DK A B) λx=>l9 (X6 0 x) (o5 (gJ A 0 x) λb=>o5 (gJ A (G6 .i64 x (x8 B)) (x8 A)) λx=>some (b,x,true)) (some (A,[],false))
def b9R:FQ:=⟨[uD .str,(uD .str)],⟨[(.tmp 4,(uD .str)),(.tmp 5,(uD .str)),(.tmp 6,jv)],[]⟩,mE 23 [(143,c2b)],S9⟩
def c1K:FSpec:=gW b9R λx=>zY x.1 x.2
def CP(A:c5y)(B:c5y):Option (c5y×c5y×Bool):=o5 (zY A B) λx=>some x
def q79:FQ:=⟨[uD .str,(uD .str)],⟨[(.tmp 4,(uD .str)),(.tmp 5,(uD .str)),(.tmp 6,jv)],[]⟩,mE 13 [(113,c1K)],S9⟩
def s79:FSpec:=gW q79 λx=>CP x.1 x.2
def gq(A:U2)(B:c5y):Option (Int×U2):=o5 (Y9 (λ(x:Int)=>l9 (I7 x (x8 A.1.2.2.2.2)) (o5 (U0 A.1.2.2.2.2 x) λb=>l9 (seq b.1 B) (some (.rt (x,A))) (some (.nx (G6 .i64 x 1)))) (some (.ex ()))) 0) λo=>dw o (λy=>some (-1,A)) λr=>some r
def q80:FQ:=⟨[(false,(.box (pA (dT y24) (pA (dT lW) (pA P7 (pA (oW y12) (pA oiM (oW y30)))))))),(uD .str)],⟨[(.tmp 4,ah)],[(0,(true,(pA (dT y24) (pA (dT lW) (pA P7 (pA (oW y12) (pA oiM (oW y30))))))))]⟩,⟨24,eqs,tt,gl,[],[],[],[],[0],[],[]⟩,sN 1 (ji (sN 1 (blA (lpR [(4,7),(13,24)] ⟨[(13,ah)],[]⟩ 0 sgN S9))) S9)⟩
def s80:FSpec:=gW q80 λx=>gq x.1 x.2
def tZ(A:c5y)(B:Int):c5E:=o5 (Y9 (λ(x:Int×Bool)=>l9 (I7 x.1 (x8 A)) (o5 (sat A x.1) λb=>l9 x.2 (l9 (D6 b 10) (some (.rt x.1)) (some (.nx (G6 .i64 x.1 1,x.2)))) (l9 (D6 b 35) (some (.nx (G6 .i64 x.1 1,true))) (l9 (J8 (D6 b 32)) (l9 (J8 (D6 b 9)) (some (.rt x.1)) (some (.nx (G6 .i64 x.1 1,x.2)))) (some (.nx (G6 .i64 x.1 1,x.2)))))) (some (.ex x.1))) (B,false)) λo=>dw o (λy=>some y) λr=>some r
def c0n:FQ:=⟨[uD .str,ah],tR 4 ah,mE 33 [],sN 2 (ji (blA (lpR [(1,2),(4,32)] ⟨[(1,ah),(5,jv)],[]⟩ 0 ⟨[(1,ah)],[]⟩ S9)) S9)⟩
def c2c:FSpec:=gW c0n λx=>tZ x.1 x.2
def b9D:List MG:=[(false,(.dat .str)),(false,(.dat (.int .u8)))]
def c2l:FSpec:=⟨b9D,[ah],[],λx=>FM x.1 x.2⟩
def FD(A:c5y)(B:Int):c5E:=o5 (FM A B) λx=>some x
def c0F:FQ:=⟨[uD .str,(false,(dT (.int .u8)))],tR 4 ah,mE 8 [(172,c2l)],S9⟩
def c2r:FSpec:=gW c0F λx=>FD x.1 x.2
def Ei(A:c5y):Option (dA×F9):=o5 (nY A) λx=>l9 (I7 16 x) (some ((0,[],0,0),0,4)) (o5 (gJ A 0 x) λb=>some ((1,b,0,0),x,0))
def c0B:FQ:=⟨[uD .str],⟨[(.cell 2 235,tD y55),(.tmp 3,ah),(.tmp 4,ah)],[]⟩,mE 16 [(90,s90)],S9⟩
def c2n:FSpec:=gW c0B λx=>Ei x
def lh(A:c5y)(B:Int):c5E:=o5 (aS (λ(x:Int)=>l9 (I7 x (x8 A)) (o5 (sat A x) λb=>o5 (jm b) λc=>l9 c (some (.inl (G6 .i64 x 1))) (some (.inr x))) (some (.inr x))) B) λy=>some (Y5 .i64 y B)
def c0N:FQ:=⟨[uD .str,ah],tR 4 ah,mE 22 [(119,b0J)],sN 2 (ji (blA (.loop [(5,6),(7,19)] ⟨[(5,ah)],[]⟩ 0 ⟨[(5,ah)],[]⟩ S9)) S9)⟩
def b3P:FSpec:=gW c0N λx=>lh x.1 x.2
def qP(A:c5y):c5C:=o5 (lh A 0) λx=>l9 (D6 x 4) (o5 (lh A 5) λx=>l9 (D6 x 2) (o5 (lh A 8) λx=>l9 (X6 2 x) (o5 (sat A 4) λx=>l9 (D6 x 45) (o5 (sat A 7) λx=>some (D6 x 45)) (some false)) (some false)) (some false)) (some false)
def c0M:FQ:=⟨[uD .str],tR 2 jv,mE 26 [(201,b3P)],S9⟩
def c2w:FSpec:=gW c0M λx=>qP x
def bT(A:c5y)(B:c5y):c5C:=o5 (jV A B) λx=>some x
def c0E:FQ:=⟨[uD .str,(uD .str)],tR 4 jv,mE 8 [(111,b6U)],S9⟩
def b3O:FSpec:=gW c0E λx=>bT x.1 x.2
def mQ(A:c5y)(B:Int):c5C:=o5 (bT A [46]) λx=>l9 x (o5 (lh A 1) λx=>some (D6 x B)) (some false)
def c0O:FQ:=⟨[uD .str,ah],tR 4 jv,mE 13 [(179,b3O),(201,b3P)],S9⟩
def c2x:FSpec:=gW c0O λx=>mQ x.1 x.2
def zu(A:c5y):Option (Int×Bool):=o5 (Y9 (λ(x:Int×c5y×Int)=>l9 (I7 x.2.2 (x8 x.2.1)) (l9 (I7 (uY x.2.1 x.2.2) 48) (some (.rt (0,false))) (l9 (I7 57 (uY x.2.1 x.2.2)) (some (.rt (0,false))) (some (.nx (G6 .i64 (Pn .i64 x.1 10) (wrap .i64 (Y5 .i32 (uY x.2.1 x.2.2) 48)),x.2.1,yO x.2.1 x.2.2))))) (some (.ex x.1))) (0,A,0)) λo=>dw o (λy=>some (y,true)) λr=>some r
def c1k:FQ:=⟨[uD .str],⟨[(.tmp 2,ah),(.tmp 3,jv)],[]⟩,mE 25 [],sN 2 (ji (sN 1 (blA (lpR [(2,5),(6,7),(8,24),(11000512,11000513)] ⟨[(4,ah),(8,(false,.sit))],[]⟩ 0 ⟨[(4,ah)],[]⟩ S9))) S9)⟩
def c2Q:FSpec:=gW c1k λx=>zu x
def zQ(A:Int)(B:Int)(C:Int):Option F9:=o5 (l9 (I7 A 1900) (some (.inr (0,3))) (l9 (I7 2199 A) (some (.inr (0,3))) (l9 (I7 B 1) (some (.inr (0,3))) (l9 (I7 12 B) (some (.inr (0,3))) (l9 (I7 C 1) (some (.inr (0,3))) (o5 (lM A B) λx=>l9 (I7 x C) (some (.inr (0,3))) (some (.inl ())))))))) λo=>dw o (λx=>o5 (qV A) λx=>o5 (aS (λ(x:F9)=>l9 (I7 x.2 (Y5 .i64 B 1)) (o5 (lM A (G6 .i64 x.2 1)) λb=>some (.inl (G6 .i64 x.1 b,G6 .i64 x.2 1))) (some (.inr x.1))) (x,0)) λy=>some (Y5 .i64 (G6 .i64 y C) 1,0)) λr=>some r
def c1l:FQ:=⟨[ah,ah,ah],⟨[(.tmp 6,ah),(.tmp 7,ah)],[]⟩,mE 53 [(197,b7e),(196,b7d)],sN 1 (ji (jnR [(6,8),(10,35)] sgN S9) (sN 1 (ji (sN 1 (blA (.loop [(8,10),(39,49)] ⟨[(8,ah),(39,ah)],[]⟩ 0 ⟨[(8,ah)],[]⟩ S9))) S9)))⟩
def c2R:FSpec:=gW c1l λx=>zQ x.1 x.2.1 x.2.2
def Ih(A:c5y):Option F9:=o5 (l9 (J8 (D6 (x8 A) 10)) (some (.inr (0,2))) (o5 (sat A 4) λx=>l9 (J8 (D6 x 45)) (some (.inr (0,2))) (o5 (sat A 7) λx=>l9 (J8 (D6 x 45)) (some (.inr (0,2))) (some (.inl ()))))) λo=>dw o (λx=>o5 (gJ A 0 4) λx=>o5 (zu x) λx=>o5 (gJ A 5 7) λd=>o5 (zu d) λb=>o5 (gJ A 8 (x8 A)) λf=>o5 (zu f) λc=>l9 (J8 x.2) (some (0,2)) (l9 (J8 b.2) (some (0,2)) (l9 (J8 c.2) (some (0,2)) (o5 (zQ x.1 b.1 c.1) λx=>some x)))) λr=>some r
def c1c:FQ:=⟨[uD .str],⟨[(.tmp 2,ah),(.tmp 3,ah)],[]⟩,mE 57 [(250,c2Q),(251,c2R)],sN 1 (ji (jnR [(2,4),(10,23)] sgN S9) S9)⟩
def c2J:FSpec:=gW c1c λx=>Ih x
def wM(A:Int):c5C:=l9 (X6 48 A) (some (X6 A 57)) (some false)
def c1p:FQ:=⟨[(false,(dT (.int .i32)))],tR 2 jv,mE 9 [],S9⟩
def c2T:FSpec:=gW c1p λx=>wM x
def uf(A:c5y)(B:Int):Option F9:=o5 (fH A [45]) λx=>o5 (l9 (I7 0 B) (some (Y5 .i64 (x8 x.1) (G6 .i64 B 1))) (some (x8 x.1))) λb=>o5 (l9 (I7 b 1) (some (.inr (0,2))) (l9 (I7 1 b) (o5 (sat x.1 0) λx=>l9 (D6 x 48) (some (.inr (0,2))) (some (.inl ()))) (some (.inl ())))) λo=>dw o (λd=>o5 (Y9 (λ(x:Int×Bool×c5y×Int)=>l9 (I7 x.2.2.2 (x8 x.2.2.1)) (l9 (D6 x.2.2.2 b) (l9 (J8 (D6 (uY x.2.2.1 x.2.2.2) 46)) (some (.rt (0,2))) (some (.nx (x.1,x.2.1,x.2.2.1,yO x.2.2.1 x.2.2.2)))) (o5 (wM (uY x.2.2.1 x.2.2.2)) λc=>l9 (J8 c) (some (.rt (0,2))) (l9 x.2.1 (some (.nx (x.1,true,x.2.2.1,yO x.2.2.1 x.2.2.2))) (l9 (I7 461168601842738790 x.1) (some (.nx (x.1,true,x.2.2.1,yO x.2.2.1 x.2.2.2))) (some (.nx (G6 .i64 (Pn .i64 x.1 10) (wrap .i64 (Y5 .i32 (uY x.2.2.1 x.2.2.2) 48)),I7 4611686018427387904 (G6 .i64 (Pn .i64 x.1 10) (wrap .i64 (Y5 .i32 (uY x.2.2.1 x.2.2.2) 48))),x.2.2.1,yO x.2.2.1 x.2.2.2))))))) (some (.ex (x.1,x.2.1)))) (0,false,x.1,0)) λo=>dw o (λ(y:Int×Bool)=>l9 x.2 (l9 (D6 y.1 0) (l9 (J8 y.2) (some (0,2)) (l9 y.2 (some (0,3)) (l9 x.2 (some (Y5 .i64 0 y.1,0)) (some (y.1,0))))) (l9 y.2 (some (0,3)) (l9 x.2 (some (Y5 .i64 0 y.1,0)) (some (y.1,0))))) (l9 y.2 (some (0,3)) (l9 x.2 (some (Y5 .i64 0 y.1,0)) (some (y.1,0))))) λr=>some r) λr=>some r
def c1m:FQ:=⟨[uD .str,ah],⟨[(.tmp 4,ah),(.tmp 5,ah)],[]⟩,mE 78 [(47,s47),(264,c2T)],sN 3 (ji (.join [(8,9),(20,26)] ⟨[(8,ah)],[]⟩ S9) (ji (jnR [(4,6),(26,37)] sgN S9) (sN 1 (ji (sN 1 (blA (lpR [(4,6),(9,13),(38,64),(35002432,35002433)] ⟨[(9,ah),(10,jv),(38,(false,.sit))],[]⟩ 0 ⟨[(9,ah),(10,jv)],[]⟩ S9))) S9))))⟩
def b7k:FSpec:=gW c1m λx=>uf x.1 x.2
def rF(A:c5y)(B:Int):Option F9:=o5 (nC B) λx=>o5 (uf A x) λx=>some x
def c1d:FQ:=⟨[uD .str,ah],⟨[(.tmp 4,ah),(.tmp 5,ah)],[]⟩,mE 12 [(167,b6Y),(252,b7k)],S9⟩
def c2K:FSpec:=gW c1d λx=>rF x.1 x.2
def Bv(A:c5y):Option F9:=o5 (uf A 0) λx=>some x
def c1e:FQ:=⟨[uD .str],⟨[(.tmp 2,ah),(.tmp 3,ah)],[]⟩,mE 8 [(252,b7k)],S9⟩
def c2M:FSpec:=gW c1e λx=>Bv x
def jZ(A:Int)(B:c5y):Option F9:=l9 (D6 A 5) (o5 (Ih B) λx=>l9 (D6 x.2 0) (l9 (I7 109572 x.1) (some (x.1,3)) (some x)) (some x)) (l9 (D6 A 3) (o5 (rF B 2) λx=>l9 (D6 x.2 0) (l9 (I7 1000000000000000 x.1) (some (x.1,3)) (some x)) (some x)) (l9 (D6 A 4) (o5 (gJ B 0 (Y5 .i64 (x8 B) 1)) λx=>o5 (rF x 4) λx=>l9 (D6 x.2 0) (l9 (I7 1000000000 x.1) (some (x.1,3)) (some x)) (some x)) (o5 (Bv B) λx=>l9 (D6 x.2 0) (l9 (I7 1000000000000 x.1) (some (x.1,3)) (some x)) (some x))))
def c0P:FQ:=⟨[ah,(uD .str)],⟨[(.tmp 4,ah),(.tmp 5,ah)],[]⟩,mE 49 [(223,c2J),(224,c2K),(225,c2M)],S9⟩
def c2y:FSpec:=gW c0P λx=>jZ x.1 x.2
def nZ(A:c5y):Option (dA×F9):=o5 (o5 (qP A) λx=>l9 (J8 x) (o5 (lh A 0) λx=>o5 (o5 (gJ A x (x8 A)) λb=>o5 (mQ b 2) λd=>l9 d (some (3,G6 .i64 x 3)) (o5 (gJ A x (x8 A)) λc=>o5 (mQ c 4) λf=>l9 f (o5 (gJ A (G6 .i64 x 5) (x8 A)) λg=>o5 (bT g [37]) λi=>l9 i (some (4,G6 .i64 x 6)) (some (2,x))) (some (2,x)))) λb=>l9 (I7 1 x) (o5 (sat A 0) λx=>l9 (D6 x 48) (some (.inr ((0,[],0,0),0,2))) (some (.inl ((0,[],0,0),b)))) (some (.inl ((0,[],0,0),b)))) (some (.inl ((0,[],0,0),5,10)))) λo=>dw o (λ(x:dA×F9)=>o5 (l9 (I7 x.2.2 (x8 A)) (o5 (sat A x.2.2) λb=>o5 (mD b) λd=>l9 d (some (.inr ((0,[],0,0),0,2))) (l9 (X6 65 b) (l9 (X6 b 90) (some (.inr ((0,[],0,0),0,2))) (o5 (jm b) λc=>l9 c (some (.inr ((0,[],0,0),0,2))) (l9 (D6 b 95) (some (.inr ((0,[],0,0),0,2))) (l9 (D6 b 46) (some (.inr ((0,[],0,0),0,2))) (some (.inl x.1)))))) (o5 (jm b) λc=>l9 c (some (.inr ((0,[],0,0),0,2))) (l9 (D6 b 95) (some (.inr ((0,[],0,0),0,2))) (l9 (D6 b 46) (some (.inr ((0,[],0,0),0,2))) (some (.inl x.1))))))) (some (.inl x.1))) λo=>dw o (λ(b:dA)=>o5 (gJ A 0 x.2.2) λd=>o5 (jZ x.2.1 d) λc=>l9 (J8 (D6 c.2 0)) (some ((0,[],0,0),0,3)) (o5 (gJ A 0 x.2.2) λf=>some ((x.2.1,f,c.1,0),x.2.2,0))) λr=>some r) λr=>some r
def c0C:FQ:=⟨[uD .str],⟨[(.cell 2 235,tD y55),(.tmp 3,ah),(.tmp 4,ah)],[]⟩,mE 94 [(200,c2w),(201,b3P),(202,c2x),(179,b3O),(89,s89),(119,b0J),(203,c2y)],sN 2 (ji (jnR [(2,8),(11,46),(4000128,4000129)] ⟨[(2,(false,(.box (dT y55)))),(5,ah),(6,ah)],[]⟩ (sN 1 (.cond (sN 1 (ji (.join [(5,7),(16,38)] ⟨[(5,ah),(6,ah)],[]⟩ S9) S9)) S9))) (ji (jnR [(2,5),(8,9),(46,76),(9000000,9000001)] ⟨[(2,(false,(.box (dT y55))))],[]⟩ S9) S9))⟩
def c2o:FSpec:=gW c0C λx=>nZ x
def b9G:List MG:=[(false,(.dat .str)),(false,(.dat .str))]
def c2z:FSpec:=⟨b9G,[ah],[],λx=>Df x.1 x.2⟩
def GM(A:c5y):Option (dA×F9):=o5 (gJ A 1 (x8 A)) λx=>o5 (Df x [34,10]) λx=>l9 (I7 x 0) (some ((0,[],0,0),0,5)) (o5 (sat A (G6 .i64 1 x)) λc=>l9 (D6 c 10) (some ((0,[],0,0),0,5)) (o5 (gJ A 1 (G6 .i64 1 x)) λb=>o5 (Y9 (λ(x:dA×Int)=>l9 (I7 x.2 (x8 b)) (o5 (sat b x.2) λd=>l9 (I7 d 32) (some (.rt ((0,[],0,0),0,2))) (o5 (sat b x.2) λf=>l9 (I7 126 f) (some (.rt ((0,[],0,0),0,2))) (some (.nx (x.1,G6 .i64 x.2 1))))) (some (.ex x.1))) ((0,[],0,0),0)) λo=>dw o (λ(y:dA)=>l9 (I7 64 x) (some ((0,[],0,0),0,4)) (some ((6,b,0,0),G6 .i64 x 2,0))) λr=>some r))
def c0D:FQ:=⟨[uD .str],⟨[(.cell 2 235,tD y55),(.tmp 3,ah),(.tmp 4,ah)],[]⟩,mE 49 [(204,c2z)],sN 4 (ji (sN 1 (blA (lpR [(2,5),(7,8),(27,42),(4000128,4000129)] ⟨[(2,(false,(.box (dT y55)))),(27,ah)],[]⟩ 0 ⟨[(2,(false,(.box (dT y55))))],[]⟩ S9))) S9)⟩
def c2p:FSpec:=gW c0D λx=>GM x
def tY(A:c5y):Option (dA×F9):=o5 (sat A 0) λx=>l9 (D6 x 10) (o5 (gJ A 0 1) λx=>some ((8,x,0,0),1,0)) (o5 (mD x) λd=>l9 d (o5 (Ei A) λx=>some x) (o5 (jm x) λf=>l9 f (o5 (nZ A) λx=>some x) (l9 (D6 x 34) (o5 (GM A) λx=>some x) (l9 (D6 x 60) (o5 (gJ A 1 (x8 A)) λb=>o5 (bT b [61]) λc=>l9 c (o5 (gJ A 0 2) λx=>some ((7,x,0,0),2,0)) (l9 (D6 x 33) (some ((0,[],0,0),0,2)) (o5 (gJ A 0 1) λx=>some ((7,x,0,0),1,0)))) (l9 (D6 x 61) (o5 (gJ A 1 (x8 A)) λb=>o5 (bT b [61]) λc=>l9 c (o5 (gJ A 0 2) λx=>some ((7,x,0,0),2,0)) (l9 (D6 x 33) (some ((0,[],0,0),0,2)) (o5 (gJ A 0 1) λx=>some ((7,x,0,0),1,0)))) (l9 (D6 x 33) (o5 (gJ A 1 (x8 A)) λb=>o5 (bT b [61]) λc=>l9 c (o5 (gJ A 0 2) λx=>some ((7,x,0,0),2,0)) (l9 (D6 x 33) (some ((0,[],0,0),0,2)) (o5 (gJ A 0 1) λx=>some ((7,x,0,0),1,0)))) (o5 (FD [40,41,44,58,43,45,42] x) λx=>l9 (X6 0 x) (o5 (gJ A 0 1) λx=>some ((7,x,0,0),1,0)) (some ((0,[],0,0),0,2)))))))))
def c0o:FQ:=⟨[uD .str],⟨[(.cell 2 235,tD y55),(.tmp 3,ah),(.tmp 4,ah)],[]⟩,mE 66 [(89,s89),(119,b0J),(180,c2r),(176,c2n),(177,c2o),(178,c2p),(179,b3O)],S9⟩
def c2d:FSpec:=gW c0o λx=>tY x
def Af(A:c5y):Option (List dA×F9):=l9 (I7 65536 (x8 A)) (some ([],0,4)) (o5 (tZ A 0) λx=>o5 (Y9 (λ(x:List dA×Int)=>l9 (I7 x.2 (x8 A)) (o5 (gJ A x.2 (x8 A)) λc=>o5 (tY c) λb=>l9 (J8 (D6 b.2.2 0)) (some (.rt ([],x.2,b.2.2))) (o5 (eY x.1 [(b.1.1,b.1.2.1,b.1.2.2.1,x.2)]) λd=>o5 (tZ A (G6 .i64 x.2 b.2.1)) λx=>some (.nx (d,x)))) (some (.ex x.1))) ([],x)) λo=>dw o (λ(y:List dA)=>some (y,0,0)) λr=>some r)
def b9S:FQ:=⟨[uD .str],⟨[(.tmp 2,uO y55),(.tmp 3,ah),(.tmp 4,ah)],[]⟩,mE 43 [(144,c2c),(145,c2d)],sN 4 (ji (blA (lpR [(2,10),(15,42)] ⟨[(5,(uO y55)),(6,ah)],[]⟩ 0 ⟨[(5,(uO y55))],[]⟩ S9)) S9)⟩
def c1M:FSpec:=gW b9S λx=>Af x
def X8(A:C9)(B:Int):Option (dA×C9):=l9 (I7 (G6 .i64 A.2.1 B) (x8 A.1)) (o5 (U0 A.1 (G6 .i64 A.2.1 B)) λx=>some (x,A)) (some ((0,[],0,0),A))
def c0G:FQ:=⟨[(false,(.box (pA (dT pO) (pA P7 (pA P7 (pA (dT lW) (pA (oW y2) (pA P7 P7)))))))),ah],⟨[(.cell 4 235,tD y55)],[(0,(true,(pA (dT pO) (pA P7 (pA P7 (pA (dT lW) (pA (oW y2) (pA P7 P7))))))))]⟩,⟨30,eqs,tt,gl,[],[],[],[],[0],[],[]⟩,S9⟩
def a2k:FSpec:=gW c0G λx=>X8 x.1 x.2
def jL(A:C9)(B:Int)(C:c5y):Option (Bool×C9):=o5 (X8 A 0) λx=>l9 (D6 x.1.1 B) (some (seq x.1.2.1 C,x.2)) (some (false,x.2))
def c0p:FQ:=⟨[(false,(.box (pA (dT pO) (pA P7 (pA P7 (pA (dT lW) (pA (oW y2) (pA P7 P7)))))))),ah,(uD .str)],⟨[(.tmp 6,jv)],[(0,(true,(pA (dT pO) (pA P7 (pA P7 (pA (dT lW) (pA (oW y2) (pA P7 P7))))))))]⟩,⟨20,eqs,tt,gl,[(181,a2k)],[],[],[],[0],[],[]⟩,S9⟩
def b0Q:FSpec:=gW c0p λx=>jL x.1 x.2.1 x.2.2
def lH(A:dA):c5E:=l9 (D6 A.1 2) (some 2) (l9 (D6 A.1 3) (some 3) (l9 (D6 A.1 4) (some 4) (some 0)))
def c0Q:FQ:=⟨[tD y55],tR 2 ah,mE 11 [],S9⟩
def b7f:FSpec:=gW c0Q λx=>lH x
def H5(A:C9)(B:Int)(C:Int):Option (Bool×C9):=o5 (eY A.2.2.2.2.1 [(B,C)]) λx=>some (true,A.1,A.2.1,A.2.2.1,A.2.2.2.1,x,A.2.2.2.2.2)
def c0r:FQ:=⟨[(false,(.box (pA (dT pO) (pA P7 (pA P7 (pA (dT lW) (pA (oW y2) (pA P7 P7)))))))),ah,ah],⟨[(.tmp 6,jv)],[(0,(true,(pA (dT pO) (pA P7 (pA P7 (pA (dT lW) (pA (oW y2) (pA P7 P7))))))))]⟩,⟨19,eqs,tt,gl,[],[],[],[],[0],[],[]⟩,S9⟩
def a4w:FSpec:=gW c0r λx=>H5 x.1 x.2.1 x.2.2
def dM(A:C9)(B:Int):Option (Bool×C9):=l9 (I7 A.2.1 (x8 A.1)) (o5 (U0 A.1 A.2.1) λx=>some (false,A.1,A.2.1,A.2.2.1,A.2.2.2.1,A.2.2.2.2.1,x.2.2.2,B)) (some (false,A.1,A.2.1,A.2.2.1,A.2.2.2.1,A.2.2.2.2.1,A.2.2.1,B))
def b9T:FQ:=⟨[(false,(.box (pA (dT pO) (pA P7 (pA P7 (pA (dT lW) (pA (oW y2) (pA P7 P7)))))))),ah],⟨[(.tmp 4,jv)],[(0,(true,(pA (dT pO) (pA P7 (pA P7 (pA (dT lW) (pA (oW y2) (pA P7 P7))))))))]⟩,⟨40,eqs,tt,gl,[],[],[],[],[0],[],[]⟩,S9⟩
def a4t:FSpec:=gW b9T λx=>dM x.1 x.2
def eX(A:C9)(B:Int)(C:c5y):Option (Bool×C9):=o5 (jL A B C) λx=>l9 (J8 x.1) (o5 (dM x.2 2) λx=>some x) (some (true,x.2.1,G6 .i64 x.2.2.1 1,x.2.2.2))
def c0q:FQ:=⟨[(false,(.box (pA (dT pO) (pA P7 (pA P7 (pA (dT lW) (pA (oW y2) (pA P7 P7)))))))),ah,(uD .str)],⟨[(.tmp 6,jv)],[(0,(true,(pA (dT pO) (pA P7 (pA P7 (pA (dT lW) (pA (oW y2) (pA P7 P7))))))))]⟩,⟨21,eqs,tt,gl,[(146,b0Q),(116,a4t)],[],[],[],[0],[],[]⟩,S9⟩
def b6X:FSpec:=gW c0q λx=>eX x.1 x.2.1 x.2.2
def U9(A:C9)(B:c5y):Option (Bool×C9):=o5 (eX A 7 B) λx=>some x
def c1f:FQ:=⟨[(false,(.box (pA (dT pO) (pA P7 (pA P7 (pA (dT lW) (pA (oW y2) (pA P7 P7)))))))),(uD .str)],⟨[(.tmp 4,jv)],[(0,(true,(pA (dT pO) (pA P7 (pA P7 (pA (dT lW) (pA (oW y2) (pA P7 P7))))))))]⟩,⟨8,eqs,tt,gl,[(148,b6X)],[],[],[],[0],[],[]⟩,S9⟩
def b7i:FSpec:=gW c1f λx=>U9 x.1 x.2
def nH(A:c5y):c5E:=o5 (Y9 (λ(x:Int)=>l9 (X6 x 39) (l9 (J8 (seq A [])) (o5 (iW x) λb=>l9 (seq b A) (some (.rt x)) (some (.nx (G6 .i64 x 1)))) (some (.nx (G6 .i64 x 1)))) (some (.ex ()))) 10) λo=>dw o (λy=>some 0) λr=>some r
def c1g:FQ:=⟨[uD .str],tR 2 ah,mE 17 [(73,s73)],sN 1 (ji (sN 1 (blA (lpR [(2,17)] ⟨[(3,ah)],[]⟩ 0 sgN S9))) S9)⟩
def c2N:FSpec:=gW c1g λx=>nH x
def ig(A:C9)(B:List c5y):Option (Int×Bool×C9):=o5 (X8 A 0) λx=>l9 (J8 (D6 x.1.1 1)) (o5 (dM x.2 2) λx=>some (0,x)) (o5 (dB x.1.2.1) λc=>l9 (J8 c) (o5 (dM x.2 2) λx=>some (0,x)) (o5 (dR B x.1.2.1) λb=>l9 (I7 b 0) (o5 (dM x.2 6) λx=>some (0,x)) (some (b,true,x.2.1,G6 .i64 x.2.2.1 1,x.2.2.2))))
def c1n:FQ:=⟨[(false,(.box (pA (dT pO) (pA P7 (pA P7 (pA (dT lW) (pA (oW y2) (pA P7 P7)))))))),(uD (.sl .str))],⟨[(.tmp 4,ah),(.tmp 5,jv)],[(0,(true,(pA (dT pO) (pA P7 (pA P7 (pA (dT lW) (pA (oW y2) (pA P7 P7))))))))]⟩,⟨37,eqs,tt,gl,[(181,a2k),(54,s54),(116,a4t),(117,b3M)],[],[],[],[0],[],[]⟩,S9⟩
def b7l:FSpec:=gW c1n λx=>ig x.1 x.2
def yU(A:c5y):c5E:=o5 (Y9 (λ(x:Int)=>l9 (X6 x 5) (o5 (gZ x) λb=>l9 (seq b A) (some (.rt x)) (some (.nx (G6 .i64 x 1)))) (some (.ex ()))) 0) λo=>dw o (λy=>some (-1)) λr=>some r
def c1q:FQ:=⟨[uD .str],tR 2 ah,mE 13 [(74,s74)],sN 1 (ji (sN 1 (blA (lpR [(2,13)] ⟨[(3,ah)],[]⟩ 0 sgN S9))) S9)⟩
def c2V:FSpec:=gW c1q λx=>yU x
def fA(A:C9):Option (Int×Bool×C9):=o5 (X8 A 0) λx=>o5 (yU x.1.2.1) λb=>l9 (J8 (D6 x.1.1 1)) (o5 (dM x.2 2) λx=>some (0,x)) (l9 (I7 b 0) (o5 (dM x.2 2) λx=>some (0,x)) (some (b,true,x.2.1,G6 .i64 x.2.2.1 1,x.2.2.2)))
def c1o:FQ:=⟨[(false,(.box (pA (dT pO) (pA P7 (pA P7 (pA (dT lW) (pA (oW y2) (pA P7 P7))))))))],⟨[(.tmp 2,ah),(.tmp 3,jv)],[(0,(true,(pA (dT pO) (pA P7 (pA P7 (pA (dT lW) (pA (oW y2) (pA P7 P7))))))))]⟩,⟨28,eqs,tt,gl,[(181,a2k),(265,c2V),(116,a4t)],[],[],[],[0],[],[]⟩,S9⟩
def c2S:FSpec:=gW c1o λx=>fA x
def vI(A:gm)(B:dA):c5C:=some (seq A.1 B.2.1)
def b0x:FQ:=⟨[tD y0,(false,(.rp y55))],tR 3 jv,mE 9 [],S9⟩
def a4x:FSpec:=gW b0x λx=>vI x.1 x.2
def iI(A:List gm)(B:dA):c5E:=o5 (Y9 (λ(x:Int)=>l9 (I7 x (x8 A)) (o5 (U0 A x) λb=>o5 (vI b B) λc=>l9 c (some (.rt x)) (some (.nx (G6 .i64 x 1)))) (some (.ex ()))) 0) λo=>dw o (λy=>some (-1)) λr=>some r
def b0o:FQ:=⟨[uD y1,(false,(.fn 256 [y55]))],tR 4 ah,mE 19 [(256,a4x)],sN 1 (ji (sN 1 (blA (lpR [(4,6),(8,19)] ⟨[(8,ah)],[]⟩ 0 sgN S9))) S9)⟩
def b0L:FSpec:=gW b0o λx=>iI x.1 x.2
def fB(A:C9):Option (Bool×C9):=o5 (X8 A 0) λx=>o5 (X8 x.2 1) λb=>o5 (dB x.1.2.1) λd=>l9 (J8 d) (o5 (dM b.2 2) λx=>some x) (o5 (l9 (D6 b.1.1 7) (some (seq b.1.2.1 [58])) (some false)) λf=>l9 f (o5 (iI b.2.2.2.2.1.1 x.1) λx=>l9 (I7 x 0) (o5 (dM b.2 6) λx=>some x) (o5 (U0 b.2.2.2.2.1.1 x) λg=>o5 (ig (b.2.1,G6 .i64 b.2.2.1 2,b.2.2.2) g.2) λc=>l9 c.2.1 (o5 (H5 c.2.2 6 (G6 .i64 (Pn .i64 16 x) c.1)) λx=>some x) (some (false,c.2.2)))) (o5 (dR b.2.2.2.2.1.2.2.1 x.1.2.1) λx=>l9 (X6 0 x) (o5 (H5 (b.2.1,G6 .i64 b.2.2.1 1,b.2.2.2) 7 x) λx=>some x) (o5 (ig b.2 b.2.2.2.2.1.2.2.2.1) λx=>l9 x.2.1 (o5 (H5 x.2.2 8 x.1) λx=>some x) (some (false,x.2.2)))))
def c1h:FQ:=⟨[(false,(.box (pA (dT pO) (pA P7 (pA P7 (pA (dT lW) (pA (oW y2) (pA P7 P7))))))))],⟨[(.tmp 2,jv)],[(0,(true,(pA (dT pO) (pA P7 (pA P7 (pA (dT lW) (pA (oW y2) (pA P7 P7))))))))]⟩,⟨106,eqs,tt,gl,[(181,a2k),(54,s54),(116,a4t),(256,a4x),(120,b0L),(254,b7l),(149,a4w),(117,b3M)],[],[],[],[0],[],[]⟩,sN 3 (ji (ji (.join [(21,29)] ⟨[(28,jv)],[]⟩ S9) S9) S9)⟩
def c2O:FSpec:=gW c1h λx=>fB x
def nz(A:dA):Option F9:=l9 (J8 (D6 A.1 7)) (l9 (J8 (D6 A.1 1)) (some (0,0)) (o5 (Y9 (λ(x:Int)=>l9 (X6 x 24) (o5 (jA x) λb=>l9 (J8 (seq b.1 [])) (l9 (seq b.1 A.2.1) (some (.rt (x,b.2))) (some (.nx (G6 .i64 x 1)))) (some (.nx (G6 .i64 x 1)))) (some (.ex ()))) 11) λo=>dw o (λy=>some (0,0)) λr=>some r)) (o5 (Y9 (λ(x:Int)=>l9 (X6 x 24) (o5 (jA x) λb=>l9 (J8 (seq b.1 [])) (l9 (seq b.1 A.2.1) (some (.rt (x,b.2))) (some (.nx (G6 .i64 x 1)))) (some (.nx (G6 .i64 x 1)))) (some (.ex ()))) 11) λo=>dw o (λy=>some (0,0)) λr=>some r)
def c0H:FQ:=⟨[tD y55],⟨[(.tmp 2,ah),(.tmp 3,ah)],[]⟩,mE 34 [(76,s76)],sN 2 (ji (sN 1 (blA (lpR [(2,7),(15,34)] ⟨[(4,ah)],[]⟩ 0 sgN S9))) S9)⟩
def c2s:FSpec:=gW c0H λx=>nz x
def YZ:List MG:=[(false,(.box (.pair (.dat pO) (.pair P7 (.pair P7 (.pair (.dat lW) (.pair (.own y2) (.pair P7 P7))))))))]
def a6j:List MG:=[(false,(.box (.pair (.dat pO) (.pair P7 (.pair P7 (.pair (.dat lW) (.pair (.own y2) (.pair P7 P7)))))))),ah]
def a6k:List MG:=[(false,(.box (.pair (.dat pO) (.pair P7 (.pair P7 (.pair (.dat lW) (.pair (.own y2) (.pair P7 P7))))))))]
def b0i:List MG:=[(false,(.box (.pair (.dat pO) (.pair P7 (.pair P7 (.pair (.dat lW) (.pair (.own y2) (.pair P7 P7))))))))]
def b0j:List MG:=[(false,(.box (.pair (.dat pO) (.pair P7 (.pair P7 (.pair (.dat lW) (.pair (.own y2) (.pair P7 P7)))))))),ah]
def b5i:Ret:=⟨[(.tmp 2,jv)],[(0,(true,(.pair (.dat pO) (.pair P7 (.pair P7 (.pair (.dat lW) (.pair (.own y2) (.pair P7 P7))))))))]⟩
def c4F (r115:M.den (.box (.pair (.dat pO) (.pair P7 (.pair P7 (.pair (.dat lW) (.pair (.own y2) (.pair P7 P7)))))))->Option (X4 ([jv]++[(true,(.pair (.dat pO) (.pair P7 (.pair P7 (.pair (.dat lW) (.pair (.own y2) (.pair P7 P7)))))))]))) (r147:M.den (.box (.pair (.dat pO) (.pair P7 (.pair P7 (.pair (.dat lW) (.pair (.own y2) (.pair P7 P7)))))))->M.den P7->Option (X4 ([jv]++[(true,(.pair (.dat pO) (.pair P7 (.pair P7 (.pair (.dat lW) (.pair (.own y2) (.pair P7 P7)))))))]))) (r182:M.den (.box (.pair (.dat pO) (.pair P7 (.pair P7 (.pair (.dat lW) (.pair (.own y2) (.pair P7 P7)))))))->Option (X4 ([jv]++[(true,(.pair (.dat pO) (.pair P7 (.pair P7 (.pair (.dat lW) (.pair (.own y2) (.pair P7 P7)))))))]))) (r206:M.den (.box (.pair (.dat pO) (.pair P7 (.pair P7 (.pair (.dat lW) (.pair (.own y2) (.pair P7 P7)))))))->Option (X4 ([jv]++[(true,(.pair (.dat pO) (.pair P7 (.pair P7 (.pair (.dat lW) (.pair (.own y2) (.pair P7 P7)))))))]))) (r232:M.den (.box (.pair (.dat pO) (.pair P7 (.pair P7 (.pair (.dat lW) (.pair (.own y2) (.pair P7 P7)))))))->M.den P7->Option (X4 ([jv]++[(true,(.pair (.dat pO) (.pair P7 (.pair P7 (.pair (.dat lW) (.pair (.own y2) (.pair P7 P7)))))))]))):Env:=⟨37,eqs,tt,gl,[(146,b0Q),(147,⟨a6j,[jv],[(true,(.pair (.dat pO) (.pair P7 (.pair P7 (.pair (.dat lW) (.pair (.own y2) (.pair P7 P7)))))))],λx=>r147 x.1 x.2⟩),(115,⟨YZ,[jv],[(true,(.pair (.dat pO) (.pair P7 (.pair P7 (.pair (.dat lW) (.pair (.own y2) (.pair P7 P7)))))))],λx=>r115 x⟩),(148,b6X),(149,a4w)],[],[],[],[0],[],[]⟩
def b8W:Ann:=.leaf
def jJ(r115:C9->Option (Bool×C9))(r147:C9->Int->Option (Bool×C9))(r182:C9->Option (Bool×C9))(r206:C9->Option (Bool×C9))(r232:C9->Int->Option (Bool×C9))(A:C9):Option (Bool×C9):=o5 (jL A 1 [105,102]) λx=>l9 (J8 x.1) (o5 (r147 x.2 1) λx=>some x) (o5 (r115 (x.2.1,G6 .i64 x.2.2.1 1,x.2.2.2)) λx=>l9 x.1 (o5 (eX x.2 1 [116,104,101,110]) λx=>l9 x.1 (o5 (r115 x.2) λx=>l9 x.1 (o5 (eX x.2 1 [101,108,115,101]) λx=>l9 x.1 (o5 (r115 x.2) λx=>l9 x.1 (o5 (H5 x.2 26 0) λx=>some x) (some (false,x.2))) (some (false,x.2))) (some (false,x.2))) (some (false,x.2))) (some (false,x.2)))
def c1t:Ret:=⟨[(.tmp 4,jv)],[(0,(true,(.pair (.dat pO) (.pair P7 (.pair P7 (.pair (.dat lW) (.pair (.own y2) (.pair P7 P7))))))))]⟩
def c4G (r115:M.den (.box (.pair (.dat pO) (.pair P7 (.pair P7 (.pair (.dat lW) (.pair (.own y2) (.pair P7 P7)))))))->Option (X4 ([jv]++[(true,(.pair (.dat pO) (.pair P7 (.pair P7 (.pair (.dat lW) (.pair (.own y2) (.pair P7 P7)))))))]))) (r147:M.den (.box (.pair (.dat pO) (.pair P7 (.pair P7 (.pair (.dat lW) (.pair (.own y2) (.pair P7 P7)))))))->M.den P7->Option (X4 ([jv]++[(true,(.pair (.dat pO) (.pair P7 (.pair P7 (.pair (.dat lW) (.pair (.own y2) (.pair P7 P7)))))))]))) (r182:M.den (.box (.pair (.dat pO) (.pair P7 (.pair P7 (.pair (.dat lW) (.pair (.own y2) (.pair P7 P7)))))))->Option (X4 ([jv]++[(true,(.pair (.dat pO) (.pair P7 (.pair P7 (.pair (.dat lW) (.pair (.own y2) (.pair P7 P7)))))))]))) (r206:M.den (.box (.pair (.dat pO) (.pair P7 (.pair P7 (.pair (.dat lW) (.pair (.own y2) (.pair P7 P7)))))))->Option (X4 ([jv]++[(true,(.pair (.dat pO) (.pair P7 (.pair P7 (.pair (.dat lW) (.pair (.own y2) (.pair P7 P7)))))))]))) (r232:M.den (.box (.pair (.dat pO) (.pair P7 (.pair P7 (.pair (.dat lW) (.pair (.own y2) (.pair P7 P7)))))))->M.den P7->Option (X4 ([jv]++[(true,(.pair (.dat pO) (.pair P7 (.pair P7 (.pair (.dat lW) (.pair (.own y2) (.pair P7 P7)))))))]))):Env:=⟨49,eqs,tt,gl,[(182,⟨a6k,[jv],[(true,(.pair (.dat pO) (.pair P7 (.pair P7 (.pair (.dat lW) (.pair (.own y2) (.pair P7 P7)))))))],λx=>r182 x⟩),(181,a2k),(183,c2s),(147,⟨a6j,[jv],[(true,(.pair (.dat pO) (.pair P7 (.pair P7 (.pair (.dat lW) (.pair (.own y2) (.pair P7 P7)))))))],λx=>r147 x.1 x.2⟩),(149,a4w)],[],[],[],[0],[],[]⟩
def b8X:Ann:=.seq S9 (.seq S9 (.seq S9 (.blk (.loopR [(0,1),(4,8),(11,49),(1000000,1000001),(8000576,8000577)] ⟨[(0,(false,(.box (.pair (.dat pO) (.pair P7 (.pair P7 (.pair (.dat lW) (.pair (.own y2) (.pair P7 P7))))))))),(5,ah)],[]⟩ 999999 ⟨[],[]⟩ (.blk (.seq S9 (.seq (.joinR [(4,5),(17,29)] ⟨[],[]⟩ S9) S9)))))))
def Dl(r115:C9->Option (Bool×C9))(r147:C9->Int->Option (Bool×C9))(r182:C9->Option (Bool×C9))(r206:C9->Option (Bool×C9))(r232:C9->Int->Option (Bool×C9))(A:C9)(B:Int):Option (Bool×C9):=o5 (r182 A) λx=>l9 (J8 x.1) (some (false,x.2)) (o5 (Y9 (λ(x:C9×Int)=>o5 (X8 x.1 0) λc=>o5 (nz c.1) λb=>o5 (l9 (D6 b.1 0) (some (.inr (true,c.2))) (l9 (I7 b.2 B) (some (.inr (true,c.2))) (l9 (I7 x.2 b.2) (some (.inr (true,c.2))) (some (.inl ()))))) λo=>dw o (λx=>o5 (r147 (c.2.1,G6 .i64 c.2.2.1 1,c.2.2.2) (G6 .i64 b.2 1)) λx=>l9 (J8 x.1) (some (.rt (false,x.2))) (o5 (H5 x.2 b.1 0) λx=>l9 (D6 b.2 3) (some (.nx (x.2,Y5 .i64 b.2 1))) (some (.nx (x.2,b.2))))) λr=>some (.rt r)) (x.2,5)) λo=>dw o (λ(y:PUnit)=>none) λr=>some r)
def c1u:Ret:=⟨[(.tmp 2,jv)],[(0,(true,(.pair (.dat pO) (.pair P7 (.pair P7 (.pair (.dat lW) (.pair (.own y2) (.pair P7 P7))))))))]⟩
def c4H (r115:M.den (.box (.pair (.dat pO) (.pair P7 (.pair P7 (.pair (.dat lW) (.pair (.own y2) (.pair P7 P7)))))))->Option (X4 ([jv]++[(true,(.pair (.dat pO) (.pair P7 (.pair P7 (.pair (.dat lW) (.pair (.own y2) (.pair P7 P7)))))))]))) (r147:M.den (.box (.pair (.dat pO) (.pair P7 (.pair P7 (.pair (.dat lW) (.pair (.own y2) (.pair P7 P7)))))))->M.den P7->Option (X4 ([jv]++[(true,(.pair (.dat pO) (.pair P7 (.pair P7 (.pair (.dat lW) (.pair (.own y2) (.pair P7 P7)))))))]))) (r182:M.den (.box (.pair (.dat pO) (.pair P7 (.pair P7 (.pair (.dat lW) (.pair (.own y2) (.pair P7 P7)))))))->Option (X4 ([jv]++[(true,(.pair (.dat pO) (.pair P7 (.pair P7 (.pair (.dat lW) (.pair (.own y2) (.pair P7 P7)))))))]))) (r206:M.den (.box (.pair (.dat pO) (.pair P7 (.pair P7 (.pair (.dat lW) (.pair (.own y2) (.pair P7 P7)))))))->Option (X4 ([jv]++[(true,(.pair (.dat pO) (.pair P7 (.pair P7 (.pair (.dat lW) (.pair (.own y2) (.pair P7 P7)))))))]))) (r232:M.den (.box (.pair (.dat pO) (.pair P7 (.pair P7 (.pair (.dat lW) (.pair (.own y2) (.pair P7 P7)))))))->M.den P7->Option (X4 ([jv]++[(true,(.pair (.dat pO) (.pair P7 (.pair P7 (.pair (.dat lW) (.pair (.own y2) (.pair P7 P7)))))))]))):Env:=⟨57,eqs,tt,gl,[(146,b0Q),(181,a2k),(205,b7f),(149,a4w),(182,⟨a6k,[jv],[(true,(.pair (.dat pO) (.pair P7 (.pair P7 (.pair (.dat lW) (.pair (.own y2) (.pair P7 P7)))))))],λx=>r182 x⟩),(206,⟨b0i,[jv],[(true,(.pair (.dat pO) (.pair P7 (.pair P7 (.pair (.dat lW) (.pair (.own y2) (.pair P7 P7)))))))],λx=>r206 x⟩)],[],[],[],[0],[],[]⟩
def b8Y:Ann:=.leaf
def iO(r115:C9->Option (Bool×C9))(r147:C9->Int->Option (Bool×C9))(r182:C9->Option (Bool×C9))(r206:C9->Option (Bool×C9))(r232:C9->Int->Option (Bool×C9))(A:C9):Option (Bool×C9):=o5 (jL A 7 [45]) λx=>l9 x.1 (o5 (X8 x.2 1) λx=>o5 (lH x.1) λb=>l9 (J8 (D6 b 0)) (o5 (lH x.1) λc=>o5 (H5 (x.2.1,G6 .i64 x.2.2.1 2,x.2.2.2) c (Y5 .i64 0 x.1.2.2.1)) λx=>some x) (o5 (r182 (x.2.1,G6 .i64 x.2.2.1 1,x.2.2.2)) λx=>l9 x.1 (o5 (H5 x.2 10 0) λx=>some x) (some (false,x.2)))) (o5 (jL x.2 1 [110,111,116]) λx=>l9 x.1 (o5 (r182 (x.2.1,G6 .i64 x.2.2.1 1,x.2.2.2)) λx=>l9 x.1 (o5 (H5 x.2 25 0) λx=>some x) (some (false,x.2))) (o5 (r206 x.2) λx=>some x))
def c1w:Ret:=⟨[(.tmp 2,jv)],[(0,(true,(.pair (.dat pO) (.pair P7 (.pair P7 (.pair (.dat lW) (.pair (.own y2) (.pair P7 P7))))))))]⟩
def c4I (r115:M.den (.box (.pair (.dat pO) (.pair P7 (.pair P7 (.pair (.dat lW) (.pair (.own y2) (.pair P7 P7)))))))->Option (X4 ([jv]++[(true,(.pair (.dat pO) (.pair P7 (.pair P7 (.pair (.dat lW) (.pair (.own y2) (.pair P7 P7)))))))]))) (r147:M.den (.box (.pair (.dat pO) (.pair P7 (.pair P7 (.pair (.dat lW) (.pair (.own y2) (.pair P7 P7)))))))->M.den P7->Option (X4 ([jv]++[(true,(.pair (.dat pO) (.pair P7 (.pair P7 (.pair (.dat lW) (.pair (.own y2) (.pair P7 P7)))))))]))) (r182:M.den (.box (.pair (.dat pO) (.pair P7 (.pair P7 (.pair (.dat lW) (.pair (.own y2) (.pair P7 P7)))))))->Option (X4 ([jv]++[(true,(.pair (.dat pO) (.pair P7 (.pair P7 (.pair (.dat lW) (.pair (.own y2) (.pair P7 P7)))))))]))) (r206:M.den (.box (.pair (.dat pO) (.pair P7 (.pair P7 (.pair (.dat lW) (.pair (.own y2) (.pair P7 P7)))))))->Option (X4 ([jv]++[(true,(.pair (.dat pO) (.pair P7 (.pair P7 (.pair (.dat lW) (.pair (.own y2) (.pair P7 P7)))))))]))) (r232:M.den (.box (.pair (.dat pO) (.pair P7 (.pair P7 (.pair (.dat lW) (.pair (.own y2) (.pair P7 P7)))))))->M.den P7->Option (X4 ([jv]++[(true,(.pair (.dat pO) (.pair P7 (.pair P7 (.pair (.dat lW) (.pair (.own y2) (.pair P7 P7)))))))]))):Env:=⟨126,eqs,tt,gl,[(181,a2k),(205,b7f),(149,a4w),(146,b0Q),(115,⟨YZ,[jv],[(true,(.pair (.dat pO) (.pair P7 (.pair P7 (.pair (.dat lW) (.pair (.own y2) (.pair P7 P7)))))))],λx=>r115 x⟩),(230,b7i),(116,a4t),(231,c2N),(232,⟨b0j,[jv],[(true,(.pair (.dat pO) (.pair P7 (.pair P7 (.pair (.dat lW) (.pair (.own y2) (.pair P7 P7)))))))],λx=>r232 x.1 x.2⟩),(233,c2O)],[],[],[],[0],[],[]⟩
def b8Z:Ann:=.leaf
def jb(r115:C9->Option (Bool×C9))(r147:C9->Int->Option (Bool×C9))(r182:C9->Option (Bool×C9))(r206:C9->Option (Bool×C9))(r232:C9->Int->Option (Bool×C9))(A:C9):Option (Bool×C9):=o5 (X8 A 0) λx=>o5 (lH x.1) λd=>l9 (J8 (D6 d 0)) (o5 (lH x.1) λb=>o5 (H5 (x.2.1,G6 .i64 x.2.2.1 1,x.2.2.2) b x.1.2.2.1) λx=>some x) (l9 (D6 x.1.1 5) (o5 (H5 (x.2.1,G6 .i64 x.2.2.1 1,x.2.2.2) 5 x.1.2.2.1) λx=>some x) (o5 (jL x.2 7 [40]) λb=>l9 b.1 (o5 (r115 (b.2.1,G6 .i64 b.2.2.1 1,b.2.2.2)) λx=>l9 x.1 (o5 (U9 x.2 [41]) λx=>some x) (some (false,x.2))) (l9 (J8 (D6 x.1.1 1)) (o5 (dM b.2 2) λx=>some x) (l9 (seq x.1.2.1 [116,114,117,101]) (o5 (H5 (b.2.1,G6 .i64 b.2.2.1 1,b.2.2.2) 1 1) λx=>some x) (l9 (seq x.1.2.1 [102,97,108,115,101]) (o5 (H5 (b.2.1,G6 .i64 b.2.2.1 1,b.2.2.2) 1 0) λx=>some x) (l9 (seq x.1.2.1 [116,111,100,97,121]) (o5 (H5 (b.2.1,G6 .i64 b.2.2.1 1,b.2.2.2) 9 0) λx=>some x) (o5 (nH x.1.2.1) λf=>l9 (J8 (D6 f 0)) (o5 (U9 (b.2.1,G6 .i64 b.2.2.1 1,b.2.2.2) [40]) λc=>l9 c.1 (o5 (nH x.1.2.1) λx=>o5 (r232 c.2 x) λx=>l9 x.1 (o5 (U9 x.2 [41]) λx=>some x) (some (false,x.2))) (some (false,c.2))) (o5 (fB b.2) λx=>some x))))))))
def c1x:Ret:=⟨[(.tmp 4,jv)],[(0,(true,(.pair (.dat pO) (.pair P7 (.pair P7 (.pair (.dat lW) (.pair (.own y2) (.pair P7 P7))))))))]⟩
def c4J (r115:M.den (.box (.pair (.dat pO) (.pair P7 (.pair P7 (.pair (.dat lW) (.pair (.own y2) (.pair P7 P7)))))))->Option (X4 ([jv]++[(true,(.pair (.dat pO) (.pair P7 (.pair P7 (.pair (.dat lW) (.pair (.own y2) (.pair P7 P7)))))))]))) (r147:M.den (.box (.pair (.dat pO) (.pair P7 (.pair P7 (.pair (.dat lW) (.pair (.own y2) (.pair P7 P7)))))))->M.den P7->Option (X4 ([jv]++[(true,(.pair (.dat pO) (.pair P7 (.pair P7 (.pair (.dat lW) (.pair (.own y2) (.pair P7 P7)))))))]))) (r182:M.den (.box (.pair (.dat pO) (.pair P7 (.pair P7 (.pair (.dat lW) (.pair (.own y2) (.pair P7 P7)))))))->Option (X4 ([jv]++[(true,(.pair (.dat pO) (.pair P7 (.pair P7 (.pair (.dat lW) (.pair (.own y2) (.pair P7 P7)))))))]))) (r206:M.den (.box (.pair (.dat pO) (.pair P7 (.pair P7 (.pair (.dat lW) (.pair (.own y2) (.pair P7 P7)))))))->Option (X4 ([jv]++[(true,(.pair (.dat pO) (.pair P7 (.pair P7 (.pair (.dat lW) (.pair (.own y2) (.pair P7 P7)))))))]))) (r232:M.den (.box (.pair (.dat pO) (.pair P7 (.pair P7 (.pair (.dat lW) (.pair (.own y2) (.pair P7 P7)))))))->M.den P7->Option (X4 ([jv]++[(true,(.pair (.dat pO) (.pair P7 (.pair P7 (.pair (.dat lW) (.pair (.own y2) (.pair P7 P7)))))))]))):Env:=⟨130,eqs,tt,gl,[(149,a4w),(254,b7l),(230,b7i),(115,⟨YZ,[jv],[(true,(.pair (.dat pO) (.pair P7 (.pair P7 (.pair (.dat lW) (.pair (.own y2) (.pair P7 P7)))))))],λx=>r115 x⟩),(255,c2S)],[],[],[],[0],[],[]⟩
def b9a:Ann:=.seq S9 (.seq (.joinR [(0,1),(4,10),(12,89),(1000000,1000002)] ⟨[(0,(false,(.box (.pair (.dat pO) (.pair P7 (.pair P7 (.pair (.dat lW) (.pair (.own y2) (.pair P7 P7)))))))))],[]⟩ (.seq S9 (.blk (.seq S9 (.cond S9 (.seq (.join [(18,23)] ⟨[(18,jv)],[]⟩ S9) (.cond S9 (.seq (.join [(40,43)] ⟨[(40,jv)],[]⟩ S9) S9)))))))) S9)
def dh(r115:C9->Option (Bool×C9))(r147:C9->Int->Option (Bool×C9))(r182:C9->Option (Bool×C9))(r206:C9->Option (Bool×C9))(r232:C9->Int->Option (Bool×C9))(A:C9)(B:Int):Option (Bool×C9):=o5 (l9 (D6 B 35) (o5 (H5 A B 0) λx=>some (.inr x)) (o5 (l9 (D6 B 36) (some (D6 B 36)) (l9 (D6 B 37) (some (D6 B 37)) (l9 (D6 B 38) (some (D6 B 38)) (some (D6 B 39))))) λx=>l9 x (o5 (ig A A.2.2.2.1.2.2.2.2) λx=>l9 x.2.1 (o5 (H5 x.2.2 B x.1) λx=>some (.inr x)) (some (.inr (false,x.2.2)))) (o5 (l9 (D6 B 33) (some (D6 B 33)) (some (D6 B 34))) λx=>l9 x (o5 (ig A A.2.2.2.1.2.1) λx=>l9 (J8 x.2.1) (some (.inr (false,x.2.2))) (o5 (U9 x.2.2 [44]) λd=>l9 (J8 d.1) (some (.inr (false,d.2))) (o5 (r115 d.2) λb=>l9 (J8 b.1) (some (.inr (false,b.2))) (l9 (D6 B 33) (o5 (H5 b.2 B x.1) λx=>some (.inr x)) (o5 (U9 b.2 [44]) λf=>l9 (J8 f.1) (some (.inr (false,f.2))) (o5 (fA f.2) λc=>l9 c.2.1 (o5 (H5 c.2.2 B (G6 .i64 (Pn .i64 8 x.1) c.1)) λx=>some (.inr x)) (some (.inr (false,c.2.2))))))))) (some (.inl A))))) λo=>dw o (λ(x:C9)=>o5 (r115 x) λx=>l9 (J8 x.1) (some (false,x.2)) (l9 (D6 B 31) (l9 (D6 B 31) (o5 (H5 x.2 B 0) λx=>some x) (o5 (U9 x.2 [44]) λx=>l9 (J8 x.1) (some (false,x.2)) (o5 (r115 x.2) λx=>l9 (J8 x.1) (some (false,x.2)) (l9 (D6 B 14) (l9 (D6 B 14) (o5 (U9 x.2 [44]) λx=>l9 (J8 x.1) (some (false,x.2)) (o5 (fA x.2) λx=>l9 x.2.1 (o5 (H5 x.2.2 B x.1) λx=>some x) (some (false,x.2.2)))) (o5 (H5 x.2 B 0) λx=>some x)) (l9 (D6 B 15) (l9 (D6 B 15) (o5 (U9 x.2 [44]) λx=>l9 (J8 x.1) (some (false,x.2)) (o5 (fA x.2) λx=>l9 x.2.1 (o5 (H5 x.2.2 B x.1) λx=>some x) (some (false,x.2.2)))) (o5 (H5 x.2 B 0) λx=>some x)) (l9 (D6 B 16) (o5 (U9 x.2 [44]) λx=>l9 (J8 x.1) (some (false,x.2)) (o5 (fA x.2) λx=>l9 x.2.1 (o5 (H5 x.2.2 B x.1) λx=>some x) (some (false,x.2.2)))) (o5 (H5 x.2 B 0) λx=>some x))))))) (l9 (D6 B 32) (o5 (H5 x.2 B 0) λx=>some x) (o5 (U9 x.2 [44]) λx=>l9 (J8 x.1) (some (false,x.2)) (o5 (r115 x.2) λx=>l9 (J8 x.1) (some (false,x.2)) (l9 (D6 B 14) (l9 (D6 B 14) (o5 (U9 x.2 [44]) λx=>l9 (J8 x.1) (some (false,x.2)) (o5 (fA x.2) λx=>l9 x.2.1 (o5 (H5 x.2.2 B x.1) λx=>some x) (some (false,x.2.2)))) (o5 (H5 x.2 B 0) λx=>some x)) (l9 (D6 B 15) (l9 (D6 B 15) (o5 (U9 x.2 [44]) λx=>l9 (J8 x.1) (some (false,x.2)) (o5 (fA x.2) λx=>l9 x.2.1 (o5 (H5 x.2.2 B x.1) λx=>some x) (some (false,x.2.2)))) (o5 (H5 x.2 B 0) λx=>some x)) (l9 (D6 B 16) (o5 (U9 x.2 [44]) λx=>l9 (J8 x.1) (some (false,x.2)) (o5 (fA x.2) λx=>l9 x.2.1 (o5 (H5 x.2.2 B x.1) λx=>some x) (some (false,x.2.2)))) (o5 (H5 x.2 B 0) λx=>some x))))))))) λr=>some r
def o8:Nat->(M.den (.box (.pair (.dat pO) (.pair P7 (.pair P7 (.pair (.dat lW) (.pair (.own y2) (.pair P7 P7)))))))->Option (X4 ([jv]++[(true,(.pair (.dat pO) (.pair P7 (.pair P7 (.pair (.dat lW) (.pair (.own y2) (.pair P7 P7)))))))])))×(M.den (.box (.pair (.dat pO) (.pair P7 (.pair P7 (.pair (.dat lW) (.pair (.own y2) (.pair P7 P7)))))))->M.den P7->Option (X4 ([jv]++[(true,(.pair (.dat pO) (.pair P7 (.pair P7 (.pair (.dat lW) (.pair (.own y2) (.pair P7 P7)))))))])))×(M.den (.box (.pair (.dat pO) (.pair P7 (.pair P7 (.pair (.dat lW) (.pair (.own y2) (.pair P7 P7)))))))->Option (X4 ([jv]++[(true,(.pair (.dat pO) (.pair P7 (.pair P7 (.pair (.dat lW) (.pair (.own y2) (.pair P7 P7)))))))])))×(M.den (.box (.pair (.dat pO) (.pair P7 (.pair P7 (.pair (.dat lW) (.pair (.own y2) (.pair P7 P7)))))))->Option (X4 ([jv]++[(true,(.pair (.dat pO) (.pair P7 (.pair P7 (.pair (.dat lW) (.pair (.own y2) (.pair P7 P7)))))))])))×(M.den (.box (.pair (.dat pO) (.pair P7 (.pair P7 (.pair (.dat lW) (.pair (.own y2) (.pair P7 P7)))))))->M.den P7->Option (X4 ([jv]++[(true,(.pair (.dat pO) (.pair P7 (.pair P7 (.pair (.dat lW) (.pair (.own y2) (.pair P7 P7)))))))])))|0=>(λa0=>none,λa0 a1=>none,λa0=>none,λa0=>none,λa0 a1=>none)|n+1=>(λa0=>jJ (o8 n).1 (o8 n).2.1 (o8 n).2.2.1 (o8 n).2.2.2.1 (o8 n).2.2.2.2 a0,λa0 a1=>Dl (o8 n).1 (o8 n).2.1 (o8 n).2.2.1 (o8 n).2.2.2.1 (o8 n).2.2.2.2 a0 a1,λa0=>iO (o8 n).1 (o8 n).2.1 (o8 n).2.2.1 (o8 n).2.2.2.1 (o8 n).2.2.2.2 a0,λa0=>jb (o8 n).1 (o8 n).2.1 (o8 n).2.2.1 (o8 n).2.2.2.1 (o8 n).2.2.2.2 a0,λa0 a1=>dh (o8 n).1 (o8 n).2.1 (o8 n).2.2.1 (o8 n).2.2.2.1 (o8 n).2.2.2.2 a0 a1)
def qY:M.den (.box (.pair (.dat pO) (.pair P7 (.pair P7 (.pair (.dat lW) (.pair (.own y2) (.pair P7 P7)))))))->Option (X4 ([jv]++[(true,(.pair (.dat pO) (.pair P7 (.pair P7 (.pair (.dat lW) (.pair (.own y2) (.pair P7 P7)))))))])):=λa0=>(o8 aT).1 a0
def c1N:FSpec:=mkS YZ b5i λx=>qY x
def qX(A:c5y)(B:D9):Option (List F9×F9):=o5 (Af A) λx=>l9 (J8 (D6 x.2.2 0)) (some ([],x.2)) (o5 (o5 (qY (x.1,0,x8 A,B,[],0,0)) λb=>l9 b.1 (l9 (I7 b.2.2.1 (x8 x.1)) (o5 (dM b.2 2) λx=>some x.2) (some b.2)) (some b.2)) λx=>l9 (J8 (D6 x.2.2.2.2.2.2 0)) (some ([],x.2.2.2.2.2)) (o5 (Cb x.2.2.2.2.1) λb=>l9 (J8 (D6 b.2 0)) (some ([],0,b.2)) (o5 (pX x.2.2.2.2.1 B) λc=>l9 (J8 (D6 c.2 0)) (some ([],0,2)) (l9 (J8 (seq c.1 A)) (some ([],0,2)) (some (x.2.2.2.2.1,0,0))))))
def q81:FQ:=⟨[uD .str,tD lW],⟨[(.tmp 4,uO y2),(.tmp 5,ah),(.tmp 6,ah)],[]⟩,mE 71 [(114,c1M),(115,c1N),(116,a4t),(41,s41),(20,s20)],sN 4 (ji (.join [(10,11),(30,39),(7001088,7001089),(20000640,20000641)] ⟨[(10,(false,(.box (pA (dT pO) (pA P7 (pA P7 (pA (dT lW) (pA (oW y2) (pA P7 P7)))))))))],[]⟩ S9) S9)⟩
def s81:FSpec:=gW q81 λx=>qX x.1 x.2
def tN(A:U2)(B:c5y):Option (Int×U2):=o5 (CP B [32]) λx=>o5 (l9 (J8 x.2.2) (some (.inr (2,A))) (l9 (seq x.1 []) (some (.inr (2,A))) (l9 (seq x.2.1 []) (some (.inr (2,A))) (l9 (I7 0 (x8 A.2.2.2.2.2)) (some (.inr (2,A))) (some (.inl ())))))) λo=>dw o (λd=>l9 (X6 8 (x8 A.2.2.2.1)) (some (4,A)) (o5 (gq A x.1) λb=>l9 (I7 b.1 0) (some (6,b.2)) (o5 (qX x.2.1 b.2.2.1) λx=>l9 (J8 (D6 x.2.2 0)) (some (x.2.2,b.2)) (o5 (eY b.2.2.2.2.1 [x.1]) λx=>o5 (eY b.2.2.2.2.2.1 [b.1]) λc=>some (0,b.2.1,b.2.2.1,b.2.2.2.1,x,c,b.2.2.2.2.2.2))))) λr=>some r
def q49:FQ:=⟨[(false,(.box (pA (dT y24) (pA (dT lW) (pA P7 (pA (oW y12) (pA oiM (oW y30)))))))),(uD .str)],⟨[(.tmp 4,ah)],[(0,(true,(pA (dT y24) (pA (dT lW) (pA P7 (pA (oW y12) (pA oiM (oW y30))))))))]⟩,⟨86,eqs,tt,gl,[(79,s79),(80,s80),(81,s81)],[],[],[],[0],[],[]⟩,sN 2 (ji (jnR [(4,5),(18,37)] sgN S9) S9)⟩
def s49:FSpec:=gW q49 λx=>tN x.1 x.2
def uh(A:c5y):Option (F9×F9):=l9 (I7 8 (x8 A)) (some ((0,0),0,4)) (o5 (Y9 (λ(x:F9×L8)=>l9 (I7 x.2.2 (x8 A)) (o5 (sat A x.2.2) λb=>l9 (D6 b 48) (some (.nx (x.1,(ior .i64 (JH .i64 x.2.1.1 1) 1,JH .i64 x.2.1.2 1),G6 .i64 x.2.2 1))) (l9 (D6 b 49) (some (.nx (x.1,(ior .i64 (JH .i64 x.2.1.1 1) 1,ior .i64 (JH .i64 x.2.1.2 1) 1),G6 .i64 x.2.2 1))) (l9 (D6 b 45) (some (.nx (x.1,(JH .i64 x.2.1.1 1,JH .i64 x.2.1.2 1),G6 .i64 x.2.2 1))) (some (.rt ((0,0),0,2)))))) (some (.ex (x.1,x.2.1)))) ((0,0),(0,0),0)) λo=>dw o (λ(y:F9×F9)=>some (y.2,x8 A,0)) λr=>some r)
def q82:FQ:=⟨[uD .str],⟨[(.cell 2 61,tD y2),(.tmp 3,ah),(.tmp 4,ah)],[]⟩,mE 50 [],sN 3 (ji (sN 1 (blA (lpR [(2,7),(13,47),(4000128,4000129),(17000320,17000321)] ⟨[(2,(false,(.box (dT y2)))),(5,(false,(.box (dT y2)))),(13,ah)],[]⟩ 0 ⟨[(2,(false,(.box (dT y2)))),(5,(false,(.box (dT y2))))],[]⟩ S9))) S9)⟩
def s82:FSpec:=gW q82 λx=>uh x
def ut(A:U2)(B:c5y):Option (Int×U2):=o5 (CP B [32]) λx=>o5 (l9 (J8 x.2.2) (some (.inr (2,A))) (l9 (seq x.1 []) (some (.inr (2,A))) (some (.inl ())))) λo=>dw o (λg=>o5 (fH x.2.1 [114,117,108,101,32]) λb=>o5 (l9 b.2 (o5 (qh b.1) λf=>l9 (J8 f) (some (.inr (2,A))) (l9 (J8 b.2) (l9 (J8 (seq x.2.1 [110,111,110,101])) (l9 (J8 (seq x.2.1 [99,111,110,102,108,105,99,116])) (some (.inr (2,A))) (some (.inl ()))) (some (.inl ()))) (some (.inl ())))) (l9 (J8 b.2) (l9 (J8 (seq x.2.1 [110,111,110,101])) (l9 (J8 (seq x.2.1 [99,111,110,102,108,105,99,116])) (some (.inr (2,A))) (some (.inl ()))) (some (.inl ()))) (some (.inl ())))) λo=>dw o (λf=>o5 (l9 (I7 0 (x8 A.2.2.2.1)) (o5 (uh x.1) λx=>l9 (J8 (D6 x.2.2 0)) (some (.inr (2,A))) (l9 (J8 (D6 x.2.1 (x8 A.2.2.2.1))) (some (.inr (2,A))) (l9 (D6 (x8 A.2.2.2.1) 0) (some (.inr (2,A))) (some (.inl (x.1,-1)))))) (l9 (J8 (seq x.1 [46])) (o5 (uh x.1) λx=>l9 (J8 (D6 x.2.2 0)) (some (.inr (2,A))) (l9 (J8 (D6 x.2.1 (x8 A.2.2.2.1))) (some (.inr (2,A))) (l9 (D6 (x8 A.2.2.2.1) 0) (some (.inr (2,A))) (some (.inl (x.1,-1)))))) (some (.inl ((0,0),-1))))) λ(o:L8⊕Int×U2)=>dw o (λ(c:L8)=>l9 (seq x.2.1 [99,111,110,102,108,105,99,116]) (l9 b.2 (o5 (gq A b.1) λx=>l9 (I7 x.1 0) (some (6,x.2)) (o5 (eY x.2.2.2.2.2.2 [(c.1,x.1)]) λd=>some (0,x.2.1,x.2.2.1,x.2.2.2.1,x.2.2.2.2.1,x.2.2.2.2.2.1,d))) (o5 (eY A.2.2.2.2.2 [(c.1,-2)]) λx=>some (0,A.1,A.2.1,A.2.2.1,A.2.2.2.1,A.2.2.2.2.1,x))) (l9 b.2 (o5 (gq A b.1) λx=>l9 (I7 x.1 0) (some (6,x.2)) (o5 (eY x.2.2.2.2.2.2 [(c.1,x.1)]) λd=>some (0,x.2.1,x.2.2.1,x.2.2.2.1,x.2.2.2.2.1,x.2.2.2.2.2.1,d))) (o5 (eY A.2.2.2.2.2 [c]) λx=>some (0,A.1,A.2.1,A.2.2.1,A.2.2.2.1,A.2.2.2.2.1,x)))) λr=>some r) λr=>some r) λr=>some r
def q50:FQ:=⟨[(false,(.box (pA (dT y24) (pA (dT lW) (pA P7 (pA (oW y12) (pA oiM (oW y30)))))))),(uD .str)],⟨[(.tmp 4,ah)],[(0,(true,(pA (dT y24) (pA (dT lW) (pA P7 (pA (oW y12) (pA oiM (oW y30))))))))]⟩,⟨105,eqs,tt,gl,[(79,s79),(47,s47),(48,s48),(82,s82),(80,s80)],[],[],[],[0],[],[]⟩,sN 2 (ji (jnR [(4,5),(21,27)] sgN S9) (sN 1 (ji (jnR [(4,5),(32,50)] sgN S9) (sN 1 (ji (jnR [(4,5),(10,15),(51,82),(33000640,33000641)] ⟨[(10,(false,(.box (dT y30))))],[]⟩ S9) S9)))))⟩
def s50:FSpec:=gW q50 λx=>ut x.1 x.2
def bK(A:U2)(B:Int)(C:c5y):Option (Int×U2):=l9 (D6 B 0) (o5 (fH C [100,101,99,105,115,105,111,110,32]) λx=>l9 (J8 x.2) (some (2,A)) (o5 (qh x.1) λc=>l9 (J8 c) (some (2,A)) (o5 (Y9 (λ(b:U2×Int)=>l9 (I7 b.2 (x8 A.1.2.2.2.1)) (o5 (U0 A.1.2.2.2.1 b.2) λd=>l9 (seq d.1 x.1) (some (.rt (0,b.1.1,b.1.2.1,b.2,b.1.2.2.2))) (some (.nx (b.1,G6 .i64 b.2 1)))) (some (.ex b.1))) (A,0)) λo=>dw o (λ(y:U2)=>some (6,y)) λr=>some r))) (o5 (fH C [119,104,101,110,32]) λx=>l9 x.2 (o5 (tN A x.1) λx=>some x) (o5 (fH C [114,111,119,32]) λx=>l9 x.2 (o5 (ut A x.1) λx=>some x) (some (2,A))))
def q25:FQ:=⟨[(false,(.box (pA (dT y24) (pA (dT lW) (pA P7 (pA (oW y12) (pA oiM (oW y30)))))))),ah,(uD .str)],⟨[(.tmp 6,ah)],[(0,(true,(pA (dT y24) (pA (dT lW) (pA P7 (pA (oW y12) (pA oiM (oW y30))))))))]⟩,⟨68,eqs,tt,gl,[(47,s47),(48,s48),(49,s49),(50,s50)],[],[],[],[0],[],[]⟩,sN 1 (ji (sN 1 (.cond (sN 2 (ji (sN 1 (blA (lpR [(0,1),(6,7),(9,11),(35,50),(1000000,1000004)] ⟨[(0,(false,(.box (pA (dT y24) (pA (dT lW) (pA P7 (pA (oW y12) (pA oiM (oW y30))))))))),(35,ah)],[]⟩ 0 ⟨[(0,(false,(.box (pA (dT y24) (pA (dT lW) (pA P7 (pA (oW y12) (pA oiM (oW y30)))))))))],[]⟩ S9))) S9)) S9)) S9)⟩
def s25:FSpec:=gW q25 λx=>bK x.1 x.2.1 x.2.2
def lG(A:gz)(B:Int)(C:c5y):Option (G9×F9):=o5 (sU A) λx=>l9 (J8 (jy (D6 x.1 0) (jy (D6 x.2.1 0) (jy (D6 x.2.2.1 0) (D6 x.2.2.2 0))))) (some ((0,[],[],[]),0,1)) (o5 (l9 (I7 B 0) (some (.inr ((0,[],[],[]),0,6))) (l9 (X6 (x8 A.2.2) B) (some (.inr ((0,[],[],[]),0,6))) (some (.inl (0,[],[],[]))))) λo=>dw o (λ(x:G9)=>o5 (vU C) λb=>l9 (J8 (D6 b.2 0)) (some ((0,[],[],[]),0,b.2)) (l9 (D6 (x8 b.1) 0) (some ((0,[],[],[]),0,5)) (o5 (U0 A.2.2 B) λd=>o5 (sH A B) λf=>o5 (Y9 (λ(x:G9×U2×Int)=>l9 (I7 x.2.2 (x8 b.1)) (o5 (U0 b.1 x.2.2) λi=>o5 (dm b.1 (aJ x.2.2)) λg=>o5 (bK x.2.1 x.2.2 g) λc=>l9 (J8 (D6 c.1 0)) (some (.rt ((0,[],[],[]),x.2.2,c.1))) (some (.nx (x.1,c.2,G6 .i64 x.2.2 1)))) (some (.ex (x.1,x.2.1)))) (x,(d,f,0,[],[],[]),0)) λo=>dw o (λ(y:G9×U2)=>some (y.2.2.2,0,0)) λr=>some r))) λr=>some r)
def q8:FQ:=⟨[tD y27,ah,(uD .str)],⟨[(.cell 6 33,tD y34),(.tmp 7,ah),(.tmp 8,ah)],[]⟩,mE 70 [(12,s12),(24,s24),(19,s19),(25,s25)],sN 2 (ji (jnR [(6,9),(20,30),(4000384,4000385)] ⟨[(6,(false,(.box (dT y34))))],[]⟩ S9) (sN 4 (ji (sN 1 (blA (lpR [(6,9),(11,15),(54,68),(16000000,16000001),(50000704,50000705)] ⟨[(6,(false,(.box (dT y34)))),(11,(false,(.box (pA (dT y24) (pA (dT lW) (pA P7 (pA (oW y12) (pA oiM (oW y30))))))))),(54,ah)],[]⟩ 0 ⟨[(6,(false,(.box (dT y34)))),(11,(false,(.box (pA (dT y24) (pA (dT lW) (pA P7 (pA (oW y12) (pA oiM (oW y30)))))))))],[]⟩ S9))) S9)))⟩
def s8:FSpec:=gW q8 λx=>lG x.1 x.2.1 x.2.2
def Jd(A:List F9)(B:List F9):c5C:=l9 (J8 (D6 (x8 A) (x8 B))) (some false) (o5 (Y9 (λ(x:Int)=>l9 (I7 x (x8 A)) (l9 (I7 x (x8 B)) (o5 (U0 A x) λb=>o5 (U0 B x) λc=>l9 (J8 (jy (D6 b.1 c.1) (D6 b.2 c.2))) (some (.rt false)) (some (.nx (G6 .i64 x 1)))) (some (.ex ()))) (some (.ex ()))) 0) λo=>dw o (λy=>some true) λr=>some r)
def q51:FQ:=⟨[uD y12,uD y12],tR 4 jv,mE 32 [],sN 2 (ji (sN 1 (blA (lpR [(4,6),(11,32)] ⟨[(5,ah)],[]⟩ 0 sgN S9))) S9)⟩
def s51:FSpec:=gW q51 λx=>Jd x.1 x.2
def Jc(A:List (List F9))(B:List (List F9)):c5C:=l9 (J8 (D6 (x8 A) (x8 B))) (some false) (o5 (Y9 (λ(x:Int)=>l9 (I7 x (x8 A)) (l9 (I7 x (x8 B)) (o5 (U0 A x) λb=>o5 (U0 B x) λc=>o5 (Jd b c) λd=>l9 (J8 d) (some (.rt false)) (some (.nx (G6 .i64 x 1)))) (some (.ex ()))) (some (.ex ()))) 0) λo=>dw o (λy=>some true) λr=>some r)
def q26:FQ:=⟨[uD y28,uD y28],tR 4 jv,mE 33 [(51,s51)],sN 2 (ji (sN 1 (blA (lpR [(4,6),(11,33)] ⟨[(5,ah)],[]⟩ 0 sgN S9))) S9)⟩
def s26:FSpec:=gW q26 λx=>Jc x.1 x.2
def MR(A:c5z)(B:c5z):c5C:=l9 (J8 (D6 (x8 A) (x8 B))) (some false) (o5 (Y9 (λ(x:Int)=>l9 (I7 x (x8 A)) (l9 (I7 x (x8 B)) (o5 (U0 A x) λb=>o5 (U0 B x) λc=>l9 (J8 (D6 b c)) (some (.rt false)) (some (.nx (G6 .i64 x 1)))) (some (.ex ()))) (some (.ex ()))) 0) λo=>dw o (λy=>some true) λr=>some r)
def q27:FQ:=⟨[uD y29,uD y29],tR 4 jv,mE 32 [],sN 2 (ji (sN 1 (blA (lpR [(4,6),(11,32)] ⟨[(5,ah)],[]⟩ 0 sgN S9))) S9)⟩
def s27:FSpec:=gW q27 λx=>MR x.1 x.2
def xC(A:List L8)(B:List L8):c5C:=l9 (J8 (D6 (x8 A) (x8 B))) (some false) (o5 (Y9 (λ(x:Int)=>l9 (I7 x (x8 A)) (l9 (I7 x (x8 B)) (o5 (U0 A x) λb=>o5 (U0 B x) λc=>l9 (J8 (jy (D6 b.1.1 c.1.1) (jy (D6 b.1.2 c.1.2) (D6 b.2 c.2)))) (some (.rt false)) (some (.nx (G6 .i64 x 1)))) (some (.ex ()))) (some (.ex ()))) 0) λo=>dw o (λy=>some true) λr=>some r)
def q28:FQ:=⟨[uD y31,uD y31],tR 4 jv,mE 32 [],sN 2 (ji (sN 1 (blA (lpR [(4,6),(11,32)] ⟨[(5,ah)],[]⟩ 0 sgN S9))) S9)⟩
def s28:FSpec:=gW q28 λx=>xC x.1 x.2
def rH(A:G9)(B:G9):c5C:=l9 (D6 A.1 B.1) (o5 (Jc A.2.1 B.2.1) λx=>l9 x (o5 (MR A.2.2.1 B.2.2.1) λx=>l9 x (o5 (xC A.2.2.2 B.2.2.2) λx=>some x) (some false)) (some false)) (some false)
def q9:FQ:=⟨[tD y34,tD y34],tR 4 jv,mE 31 [(26,s26),(27,s27),(28,s28)],S9⟩
def s9:FSpec:=gW q9 λx=>rH x.1 x.2
def zA:c5C:=o5 (Qk [(7,0)]) λx=>o5 (kF x 0 (0,[],[],[((0,0),0)])) λc=>o5 (lG x 0 [100,101,99,105,115,105,111,110,32,100,10,114,111,119,32,46,32,114,117,108,101,32,98,97,115,101,10]) λb=>o5 (lG x 0 []) λx=>l9 (seq c.1 [100,101,99,105,115,105,111,110,32,100,10,114,111,119,32,46,32,114,117,108,101,32,98,97,115,101,10]) (l9 (D6 c.2 0) (l9 (D6 b.2.1 0) (l9 (D6 b.2.2 0) (o5 (rH (0,[],[],[((0,0),0)]) b.1) λd=>l9 d (some (D6 x.2.2 5)) (some false)) (some false)) (some false)) (some false)) (some false)
def q5:FQ:=⟨[],tR 0 jv,mE 58 [(11,s11),(7,s7),(8,s8),(9,s9)],S9⟩
def s5:FSpec:=gW q5 λx=>zA
def vF(A:F9)(B:Int):c5C:=o5 (rZ A) λx=>l9 x (l9 (X6 A.1 B) (some (I7 B A.2)) (some false)) (some false)
def q34:FQ:=⟨[tD y2,ah],tR 4 jv,mE 19 [(58,s58)],S9⟩
def s34:FSpec:=gW q34 λx=>vF x.1 x.2
def vH(A:iV)(B:Int)(C:Int):c5C:=l9 (D6 A.2.1 B) (o5 (vF A.2.2.2.2.1 C) λx=>some x) (some false)
def b4V:FQ:=⟨[tD y19,(false,(.rp (.int .i64))),(false,(.rp (.int .i64)))],tR 4 jv,mE 15 [(34,s34)],S9⟩
def b0T:FSpec:=gW b4V λx=>vH x.1 x.2.1 x.2.2
def uj(A:List iV)(B:F9):Option (c5z×c5z):=o5 (yu (x8 A) 0) λx=>o5 (aS (λ(x:c5z×c5z×c5z×Int)=>l9 (I7 x.2.2.2 (x8 A)) (o5 (U0 A x.2.2.2) λc=>o5 (l9 (X6 0 c.2.2.1) (l9 (I7 c.2.2.1 x.2.2.2) (o5 (U0 x.2.2.1 c.2.2.1) λb=>o5 (dm x.2.2.1 (aJ c.2.2.1)) λx=>some x) (some (-1))) (some (-1))) λb=>o5 (U0 x.2.2.1 x.2.2.2) λi=>o5 (dm x.2.2.1 (aJ x.2.2.2)) λj=>o5 (vH c B.1 B.2) λd=>l9 d (o5 (U0 (dD x.2.2.1 (aJ x.2.2.2) b) x.2.2.2) λk=>o5 (dm (dD x.2.2.1 (aJ x.2.2.2) b) (aJ x.2.2.2)) λn=>o5 (eY x.1 [x.2.2.2]) λf=>o5 (eY x.2.1 [b]) λg=>some (.inl (f,g,dD (dD x.2.2.1 (aJ x.2.2.2) b) (aJ x.2.2.2) (x8 x.1),G6 .i64 x.2.2.2 1))) (some (.inl (x.1,x.2.1,dD x.2.2.1 (aJ x.2.2.2) b,G6 .i64 x.2.2.2 1)))) (some (.inr (x.1,x.2.1)))) ([],[],x,0)) λy=>some y
def b4U:FQ:=⟨[uD y20,(false,(.fn 33 [(.int .i64),(.int .i64)]))],⟨[(.tmp 4,uoM),(.tmp 5,uoM)],[]⟩,mE 59 [(33,b0T)],sN 3 (ji (sN 1 (blA (.loop [(6,12),(17,57),(10000896,10000897)] ⟨[(6,uoM),(7,uoM),(8,uoM),(17,ah)],[]⟩ 0 ⟨[(6,uoM),(7,uoM)],[]⟩ (sN 2 (ji (blA (sN 2 (ji (.join [(11,12),(22,36)] ⟨[(11,ah)],[]⟩ S9) S9))) S9))))) S9)⟩
def b5m:FSpec:=gW b4U λx=>uj x.1 x.2
def uw(A:N8)(B:Int)(C:Int):Option qU:=o5 (uj A.2.2.2.2 (B,C)) λx=>o5 (aS (λ(b:c5z×Int)=>l9 (I7 b.2 (x8 x.1)) (o5 (U0 x.1 b.2) λc=>o5 (dm x.1 (aJ b.2)) λx=>o5 (U0 A.2.2.2.2 x) λx=>o5 (eY b.1 [x.2.2.2.1]) λx=>some (.inl (x,G6 .i64 b.2 1))) (some (.inr b.1))) ([],0)) λy=>some (x.1,x.2,y)
def q13:FQ:=⟨[tD y24,ah,ah],⟨[(.tmp 6,uoM),(.tmp 7,uoM),(.tmp 8,uoM)],[]⟩,mE 40 [(33,b0T),(32,b5m)],sN 3 (ji (sN 1 (blA (.loop [(11,12),(13,14),(23,37)] ⟨[(11,uoM),(23,ah)],[]⟩ 0 ⟨[(11,uoM)],[]⟩ S9))) S9)⟩
def s13:FSpec:=gW q13 λx=>uw x.1 x.2.1 x.2.2
def iU(A:List F9)(B:List F9):c5C:=l9 (J8 (D6 (x8 A) (x8 B))) (some false) (o5 (Y9 (λ(x:Int)=>l9 (I7 x (x8 A)) (o5 (U0 A x) λb=>o5 (U0 B x) λc=>l9 (J8 (jy (D6 b.1 c.1) (D6 b.2 c.2))) (some (.rt false)) (some (.nx (G6 .i64 x 1)))) (some (.ex ()))) 0) λo=>dw o (λy=>some true) λr=>some r)
def q35:FQ:=⟨[uD y12,uD y12],tR 4 jv,mE 26 [],sN 2 (ji (sN 1 (blA (lpR [(4,6),(13,26)] ⟨[(13,ah)],[]⟩ 0 sgN S9))) S9)⟩
def s35:FSpec:=gW q35 λx=>iU x.1 x.2
def gp(A:List (List F9))(B:List F9):c5E:=o5 (Y9 (λ(x:Int)=>l9 (I7 x (x8 A)) (o5 (U0 A x) λb=>o5 (iU b B) λc=>l9 c (some (.rt x)) (some (.nx (G6 .i64 x 1)))) (some (.ex ()))) 0) λo=>dw o (λy=>some (-1)) λr=>some r
def q14:FQ:=⟨[uD y28,uD y12],tR 4 ah,mE 19 [(35,s35)],sN 1 (ji (sN 1 (blA (lpR [(4,7),(9,19)] ⟨[(9,ah)],[]⟩ 0 sgN S9))) S9)⟩
def s14:FSpec:=gW q14 λx=>gp x.1 x.2
def c4O:List MG:=[(false,(.dat y12))]
def s15:FSpec:=⟨c4O,[(false,(.own y2))],[],λx=>um x⟩
def xy(A:c5z)(B:c5z):c5E:=l9 (J8 (D6 (x8 A) (x8 B))) (some 2) (l9 (I7 8 (x8 A)) (some 4) (o5 (Y9 (λ(x:Int)=>l9 (I7 x (x8 A)) (o5 (U0 A x) λb=>l9 (I7 b (-1)) (some (.rt 9)) (l9 (X6 x b) (some (.rt 9)) (o5 (U0 B x) λc=>l9 (I7 c 0) (some (.rt 3)) (o5 (U0 B x) λd=>l9 (I7 9 d) (some (.rt 3)) (some (.nx (G6 .i64 x 1))))))) (some (.ex ()))) 0) λo=>dw o (λy=>some 0) λr=>some r))
def q59:FQ:=⟨[uD y29,uD y29],tR 4 ah,mE 42 [],sN 3 (ji (sN 1 (blA (lpR [(4,7),(17,42)] ⟨[(17,ah)],[]⟩ 0 sgN S9))) S9)⟩
def s59:FSpec:=gW q59 λx=>xy x.1 x.2
end
end Gt
open Go Go.GP
namespace Gt
set_option maxRecDepth 100000
noncomputable section
def xx(A:c5z)(B:Int):Option c5z:=o5 (aS (λ(x:c5z×Int)=>l9 (I7 x.2 (x8 A)) (o5 (U0 A x.2) λb=>l9 (D6 b B) (o5 (eY x.1 [x.2]) λc=>some (.inl (c,G6 .i64 x.2 1))) (some (.inl (x.1,G6 .i64 x.2 1)))) (some (.inr x.1))) ([],0)) λy=>some y
def c0f:FQ:=⟨[uD y29,ah],tR 4 uoM,mE 24 [],sN 2 (ji (sN 1 (blA (.loop [(5,8),(10,23)] ⟨[(5,uoM),(10,ah)],[]⟩ 0 ⟨[(5,uoM)],[]⟩ S9))) S9)⟩
def c1W:FSpec:=gW c0f λx=>xx x.1 x.2
def vY(A:qU)(B:Int):Option c5z:=o5 (xx A.1 B) λx=>o5 (aS (λ(b:c5z×Int)=>l9 (I7 b.2 (x8 x)) (o5 (U0 x b.2) λk=>o5 (dm x (aJ b.2)) λx=>o5 (U0 A.2.2 x) λg=>l9 (D6 g (-1)) (some (.inl (b.1,G6 .i64 b.2 1))) (o5 (l9 (I7 0 (x8 b.1)) (o5 (U0 A.2.1 x) λx=>o5 (U0 b.1 0) λc=>o5 (dm b.1 (aJ 0)) λd=>o5 (U0 A.2.1 d) λf=>l9 (I7 f x) (l9 (mY 0 0 (x8 b.1)) (some (lq b.1 (aJ 0) (aJ 0))) none) (some b.1)) (some b.1)) λc=>l9 (D6 (x8 c) 0) (o5 (eY c [x]) λx=>some (.inl (x,G6 .i64 b.2 1))) (o5 (U0 A.2.1 x) λd=>o5 (U0 c 0) λf=>o5 (dm c (aJ 0)) λi=>o5 (U0 A.2.1 i) λj=>l9 (D6 d j) (o5 (eY c [x]) λx=>some (.inl (x,G6 .i64 b.2 1))) (some (.inl (c,G6 .i64 b.2 1)))))) (some (.inr b.1))) ([],0)) λy=>some y
def b9N:FQ:=⟨[tD y47,ah],tR 4 uoM,mE 67 [(133,c1W)],sN 2 (ji (sN 1 (blA (.loop [(5,6),(7,8),(13,66)] ⟨[(5,uoM),(13,ah)],[]⟩ 0 ⟨[(5,uoM)],[]⟩ (sN 2 (ji (blA (sN 2 (ji (.join [(5,6),(23,43),(14000000,14000001)] ⟨[(5,uoM)],[]⟩ S9) S9))) S9))))) S9)⟩
def c1F:FSpec:=gW b9N λx=>vY x.1 x.2
def jo(A:qU)(B:Int):c5E:=o5 (vY A B) λx=>l9 (D6 (x8 x) 0) (some (-1)) (l9 (D6 (x8 x) 1) (o5 (U0 x 0) λb=>o5 (dm x (aJ 0)) λx=>o5 (U0 A.2.2 x) λx=>some x) (some (-2)))
def q61:FQ:=⟨[tD y47,ah],tR 4 ah,mE 22 [(103,c1F)],S9⟩
def s61:FSpec:=gW q61 λx=>jo x.1 x.2
def xA(A:c5z)(B:c5z)(C:List Bool):Option c5z:=o5 (yu (x8 A) 0) λx=>o5 (aS (λ(x:qU×Int)=>l9 (X6 0 x.2) (o5 (jo x.1 x.2) λb=>o5 (U0 x.1.2.2 x.2) λf=>o5 (dm x.1.2.2 (aJ x.2)) λg=>o5 (U0 (dD x.1.2.2 (aJ x.2) b) x.2) λi=>o5 (dm (dD x.1.2.2 (aJ x.2) b) (aJ x.2)) λc=>l9 (D6 c (-1)) (o5 (U0 C x.2) λd=>l9 d (o5 (U0 (dD x.1.2.2 (aJ x.2) b) x.2) λj=>o5 (dm (dD x.1.2.2 (aJ x.2) b) (aJ x.2)) λk=>some (.inl ((x.1.1,x.1.2.1,dD (dD x.1.2.2 (aJ x.2) b) (aJ x.2) x.2),Y5 .i64 x.2 1))) (some (.inl ((x.1.1,x.1.2.1,dD x.1.2.2 (aJ x.2) b),Y5 .i64 x.2 1)))) (some (.inl ((x.1.1,x.1.2.1,dD x.1.2.2 (aJ x.2) b),Y5 .i64 x.2 1)))) (some (.inr x.1))) ((A,B,x),Y5 .i64 (x8 A) 1)) λy=>some y.2.2
def q60:FQ:=⟨[uD y29,uD y29,(uD (.sl .bool))],tR 6 uoM,mE 48 [(61,s61)],sN 2 (ji (sN 1 (blA (.loop [(7,9),(18,46),(7000448,7000449),(7000832,7000833)] ⟨[(7,(false,(.box (pA (dT y29) (pA (dT y29) oiM))))),(8,ah)],[]⟩ 0 ⟨[(7,(false,(.box (pA (dT y29) (pA (dT y29) oiM)))))],[]⟩ S9))) S9)⟩
def s60:FSpec:=gW q60 λx=>xA x.1 x.2.1 x.2.2
def wP(A:c5z)(B:c5z)(C:List Bool):c5E:=o5 (xy A B) λx=>l9 (J8 (D6 x 0)) (some (-1)) (l9 (J8 (D6 (x8 C) (x8 A))) (some (-1)) (o5 (xA A B C) λx=>o5 (jo (A,B,x) (-1)) λx=>some x))
def q36:FQ:=⟨[uD y29,uD y29,(uD (.sl .bool))],tR 6 ah,mE 26 [(59,s59),(60,s60),(61,s61)],S9⟩
def s36:FSpec:=gW q36 λx=>wP x.1 x.2.1 x.2.2
def gQ(A:c5z)(B:c5z)(C:c5z)(D:c5z)(E:Int):Option c5z:=o5 (AQ .i64 1 E) λx=>o5 (yu x 0) λx=>o5 (yu (x8 A) false) λf=>o5 (aS (λ(b:c5z×List Bool×Int)=>l9 (I7 b.2.2 (x8 x)) (o5 (aS (λ(x:List Bool×Int)=>l9 (I7 x.2 (x8 D)) (o5 (U0 D x.2) λc=>l9 (I7 c 0) (o5 (U0 x.1 x.2) λd=>o5 (dm x.1 (aJ x.2)) λg=>some (.inl (dD x.1 (aJ x.2) true,G6 .i64 x.2 1))) (o5 (EX .i64 b.2.2 c) λd=>o5 (U0 x.1 x.2) λg=>o5 (dm x.1 (aJ x.2)) λi=>some (.inl (dD x.1 (aJ x.2) (D6 (ak .i64 d 1) 1),G6 .i64 x.2 1)))) (some (.inr x.1))) (b.2.1,0)) λy=>o5 (wP B C y) λx=>l9 (X6 0 x) (l9 (I7 x (x8 A)) (o5 (U0 A x) λx=>o5 (U0 b.1 b.2.2) λc=>o5 (dm b.1 (aJ b.2.2)) λd=>some (.inl (dD b.1 (aJ b.2.2) x,y,G6 .i64 b.2.2 1))) (o5 (U0 b.1 b.2.2) λc=>o5 (dm b.1 (aJ b.2.2)) λd=>some (.inl (dD b.1 (aJ b.2.2) x,y,G6 .i64 b.2.2 1)))) (o5 (U0 b.1 b.2.2) λc=>o5 (dm b.1 (aJ b.2.2)) λd=>some (.inl (dD b.1 (aJ b.2.2) x,y,G6 .i64 b.2.2 1)))) (some (.inr b.1))) (x,f,0)) λy=>some y
def q16:FQ:=⟨[uD y29,uD y29,uD y29,uD y29,ah],tR 10 uoM,mE 73 [(36,s36)],sN 3 (ji (sN 1 (blA (.loop [(11,17),(25,72),(7001216,7001217),(10001408,10001409)] ⟨[(11,uoM),(12,(uO .bool)),(25,ah)],[]⟩ 0 ⟨[(11,uoM)],[]⟩ (sN 2 (ji (blA (sN 1 (ji (sN 1 (blA (.loop [(12,13),(14,16),(30,48),(17000001,17000002)] ⟨[(12,(uO .bool)),(30,ah)],[]⟩ 2 ⟨[(12,(uO .bool))],[]⟩ S9))) S9))) S9))))) S9)⟩
def s16:FSpec:=gW q16 λx=>gQ x.1 x.2.1 x.2.2.1 x.2.2.2.1 x.2.2.2.2
def b4S:List MG:=[(false,(.dat (.int .u32)))]
def b5k:Ret:=⟨[(.tmp 2,ah)],[]⟩
def c5s:Env:=⟨21,eqs,tt,gl,[],[],[],[],[],[],[]⟩
def c5l:Ann:=.leaf
def JK(A:Int):c5E:=o5 (sat a0f (jh .u32 A 24)) λx=>o5 (sat a0f (ak .u32 (jh .u32 A 16) 255)) λb=>o5 (sat a0f (ak .u32 (jh .u32 A 8) 255)) λc=>o5 (sat a0f (ak .u32 A 255)) λd=>some (wrap .i64 (G6 .u8 (G6 .u8 (G6 .u8 x b) c) d))
def b6V:FSpec:=mkS b4S b5k λx=>JK x
def b4T:List MG:=[(false,(.dat (.int .u64)))]
def b5l:Ret:=⟨[(.tmp 2,ah)],[]⟩
def c5t:Env:=⟨35,eqs,tt,gl,[],[],[],[],[],[],[]⟩
def c5m:Ann:=.leaf
def AX(A:Int):c5E:=some (ak .i64 (wrap .i64 (G6 .u64 (G6 .u64 (G6 .u64 (ak .u64 (G6 .u64 (jh .u64 (G6 .u64 (ak .u64 (jh .u64 (G6 .u64 (ak .u64 (jh .u64 A 1) 6148914691236517205) (ak .u64 A 6148914691236517205)) 2) 3689348814741910323) (ak .u64 (G6 .u64 (ak .u64 (jh .u64 A 1) 6148914691236517205) (ak .u64 A 6148914691236517205)) 3689348814741910323)) 4) (G6 .u64 (ak .u64 (jh .u64 (G6 .u64 (ak .u64 (jh .u64 A 1) 6148914691236517205) (ak .u64 A 6148914691236517205)) 2) 3689348814741910323) (ak .u64 (G6 .u64 (ak .u64 (jh .u64 A 1) 6148914691236517205) (ak .u64 A 6148914691236517205)) 3689348814741910323))) 1085102592571150095) (jh .u64 (ak .u64 (G6 .u64 (jh .u64 (G6 .u64 (ak .u64 (jh .u64 (G6 .u64 (ak .u64 (jh .u64 A 1) 6148914691236517205) (ak .u64 A 6148914691236517205)) 2) 3689348814741910323) (ak .u64 (G6 .u64 (ak .u64 (jh .u64 A 1) 6148914691236517205) (ak .u64 A 6148914691236517205)) 3689348814741910323)) 4) (G6 .u64 (ak .u64 (jh .u64 (G6 .u64 (ak .u64 (jh .u64 A 1) 6148914691236517205) (ak .u64 A 6148914691236517205)) 2) 3689348814741910323) (ak .u64 (G6 .u64 (ak .u64 (jh .u64 A 1) 6148914691236517205) (ak .u64 A 6148914691236517205)) 3689348814741910323))) 1085102592571150095) 8)) (jh .u64 (G6 .u64 (ak .u64 (G6 .u64 (jh .u64 (G6 .u64 (ak .u64 (jh .u64 (G6 .u64 (ak .u64 (jh .u64 A 1) 6148914691236517205) (ak .u64 A 6148914691236517205)) 2) 3689348814741910323) (ak .u64 (G6 .u64 (ak .u64 (jh .u64 A 1) 6148914691236517205) (ak .u64 A 6148914691236517205)) 3689348814741910323)) 4) (G6 .u64 (ak .u64 (jh .u64 (G6 .u64 (ak .u64 (jh .u64 A 1) 6148914691236517205) (ak .u64 A 6148914691236517205)) 2) 3689348814741910323) (ak .u64 (G6 .u64 (ak .u64 (jh .u64 A 1) 6148914691236517205) (ak .u64 A 6148914691236517205)) 3689348814741910323))) 1085102592571150095) (jh .u64 (ak .u64 (G6 .u64 (jh .u64 (G6 .u64 (ak .u64 (jh .u64 (G6 .u64 (ak .u64 (jh .u64 A 1) 6148914691236517205) (ak .u64 A 6148914691236517205)) 2) 3689348814741910323) (ak .u64 (G6 .u64 (ak .u64 (jh .u64 A 1) 6148914691236517205) (ak .u64 A 6148914691236517205)) 3689348814741910323)) 4) (G6 .u64 (ak .u64 (jh .u64 (G6 .u64 (ak .u64 (jh .u64 A 1) 6148914691236517205) (ak .u64 A 6148914691236517205)) 2) 3689348814741910323) (ak .u64 (G6 .u64 (ak .u64 (jh .u64 A 1) 6148914691236517205) (ak .u64 A 6148914691236517205)) 3689348814741910323))) 1085102592571150095) 8)) 16)) (jh .u64 (G6 .u64 (G6 .u64 (ak .u64 (G6 .u64 (jh .u64 (G6 .u64 (ak .u64 (jh .u64 (G6 .u64 (ak .u64 (jh .u64 A 1) 6148914691236517205) (ak .u64 A 6148914691236517205)) 2) 3689348814741910323) (ak .u64 (G6 .u64 (ak .u64 (jh .u64 A 1) 6148914691236517205) (ak .u64 A 6148914691236517205)) 3689348814741910323)) 4) (G6 .u64 (ak .u64 (jh .u64 (G6 .u64 (ak .u64 (jh .u64 A 1) 6148914691236517205) (ak .u64 A 6148914691236517205)) 2) 3689348814741910323) (ak .u64 (G6 .u64 (ak .u64 (jh .u64 A 1) 6148914691236517205) (ak .u64 A 6148914691236517205)) 3689348814741910323))) 1085102592571150095) (jh .u64 (ak .u64 (G6 .u64 (jh .u64 (G6 .u64 (ak .u64 (jh .u64 (G6 .u64 (ak .u64 (jh .u64 A 1) 6148914691236517205) (ak .u64 A 6148914691236517205)) 2) 3689348814741910323) (ak .u64 (G6 .u64 (ak .u64 (jh .u64 A 1) 6148914691236517205) (ak .u64 A 6148914691236517205)) 3689348814741910323)) 4) (G6 .u64 (ak .u64 (jh .u64 (G6 .u64 (ak .u64 (jh .u64 A 1) 6148914691236517205) (ak .u64 A 6148914691236517205)) 2) 3689348814741910323) (ak .u64 (G6 .u64 (ak .u64 (jh .u64 A 1) 6148914691236517205) (ak .u64 A 6148914691236517205)) 3689348814741910323))) 1085102592571150095) 8)) (jh .u64 (G6 .u64 (ak .u64 (G6 .u64 (jh .u64 (G6 .u64 (ak .u64 (jh .u64 (G6 .u64 (ak .u64 (jh .u64 A 1) 6148914691236517205) (ak .u64 A 6148914691236517205)) 2) 3689348814741910323) (ak .u64 (G6 .u64 (ak .u64 (jh .u64 A 1) 6148914691236517205) (ak .u64 A 6148914691236517205)) 3689348814741910323)) 4) (G6 .u64 (ak .u64 (jh .u64 (G6 .u64 (ak .u64 (jh .u64 A 1) 6148914691236517205) (ak .u64 A 6148914691236517205)) 2) 3689348814741910323) (ak .u64 (G6 .u64 (ak .u64 (jh .u64 A 1) 6148914691236517205) (ak .u64 A 6148914691236517205)) 3689348814741910323))) 1085102592571150095) (jh .u64 (ak .u64 (G6 .u64 (jh .u64 (G6 .u64 (ak .u64 (jh .u64 (G6 .u64 (ak .u64 (jh .u64 A 1) 6148914691236517205) (ak .u64 A 6148914691236517205)) 2) 3689348814741910323) (ak .u64 (G6 .u64 (ak .u64 (jh .u64 A 1) 6148914691236517205) (ak .u64 A 6148914691236517205)) 3689348814741910323)) 4) (G6 .u64 (ak .u64 (jh .u64 (G6 .u64 (ak .u64 (jh .u64 A 1) 6148914691236517205) (ak .u64 A 6148914691236517205)) 2) 3689348814741910323) (ak .u64 (G6 .u64 (ak .u64 (jh .u64 A 1) 6148914691236517205) (ak .u64 A 6148914691236517205)) 3689348814741910323))) 1085102592571150095) 8)) 16)) 32))) 127)
def b6W:FSpec:=mkS b4T b5l λx=>AX x
def b4Q:List MG:=[(false,(.dat (.int .u64)))]
def b5h:Ret:=⟨[(.tmp 2,ah)],[]⟩
def c5r:Env:=⟨8,eqs,tt,gl,[(137,b6V),(138,b6W)],[],[],[],[],[],[]⟩
def c5k:Ann:=.leaf
def kH(A:Int):c5E:=o5 (AX A) λx=>some x
def b3L:FSpec:=mkS b4Q b5h λx=>kH x
def yQ(A:F9)(B:F9):Option (F9×Bool):=l9 (J8 (D6 A.1 B.1)) (some ((0,0),false)) (o5 (kH (wrap .u64 (JI .i64 A.2 B.2))) λx=>l9 (J8 (D6 x 1)) (some ((0,0),false)) (l9 (D6 (ak .i64 (JI .i64 A.2 B.2) A.1) 0) (some ((0,0),false)) (some ((sQ .i64 A.1 (JI .i64 A.2 B.2),sQ .i64 A.2 (JI .i64 A.2 B.2)),true))))
def b9O:FQ:=⟨[tD y2,tD y2],⟨[(.cell 4 61,tD y2),(.tmp 5,jv)],[]⟩,mE 40 [(109,b3L)],S9⟩
def c1G:FSpec:=gW b9O λx=>yQ x.1 x.2
def b9I:List MG:=[(false,(.ownb (.ent true false y2 .bool))),ah]
def b3K:Ret:=⟨[],[(0,(false,(.own (.ent true false y2 .bool))))]⟩
def e63:Env:=⟨70,eqs,tt,gl,[(104,c1G)],[],[],[],[0],[],[]⟩
def c4B:SAnn:=.seq S9 (.rng ⟨[(4,6),(15,23)],⟨[(4,(false,(.own y2)))],[]⟩,.leaf⟩ (.fin (.blk (.loop [(0,1),(4,5),(6,7),(8,13),(23,70),(1000000,1000001),(5000000,5000001)] ⟨[(0,(false,(.own (.ent true false y2 .bool)))),(4,(false,(.own y2)))],[]⟩ 2 ⟨[(0,(false,(.own (.ent true false y2 .bool))))],[]⟩ (.seq S9 (.blk (.seq S9 (.seq (.seq S9 (.blk (.loop [(0,1),(6,7),(8,13),(28,69),(8000000,8000001)] ⟨[(0,(false,(.own (.ent true false y2 .bool)))),(6,(false,(.own y2))),(28,ah)],[]⟩ 4 ⟨[(0,(false,(.own (.ent true false y2 .bool)))),(6,(false,(.own y2)))],[]⟩ (.seq S9 (.seq S9 (.seq (.blk (.seq S9 (.seq S9 (.blk (.loop [(0,1),(6,7),(9,13),(33,68),(27000000,27000002)] ⟨[(0,(false,(.own (.ent true false y2 .bool)))),(6,(false,(.own y2))),(33,ah)],[]⟩ 6 ⟨[(0,(false,(.own (.ent true false y2 .bool)))),(6,(false,(.own y2)))],[]⟩ S9))))) S9)))))) S9))))))))
def AO(A:List (F9×Bool))(B:Int):Option Prop:=Qx (λ(ys:List (F9×Bool))=>List.Perm ys A) λys=>o5 (xE (λ(e:F9×Bool) (x:List F9)=>o5 (eY x [e.1]) λx=>some x) ys []) λx1=>o5 (aS (λ(x:List (F9×Bool)×List F9)=>l9 (I7 0 (x8 x.2)) (o5 (aS (λ(d:List (F9×Bool)×List F9×Int)=>l9 (I7 d.2.2 (x8 x.2)) (o5 (U0 x.2 d.2.2) λi=>o5 (dm x.2 (aJ d.2.2)) λx=>o5 (aS (λ(c:List (F9×Bool)×List F9×Int)=>l9 (I7 c.2.2 B) (o5 (AQ .i64 1 c.2.2) λf=>l9 (J8 (JL (λ(a b:F9)=>jy (D6 a.1 b.1) (D6 a.2 b.2)) c.1 (x.1,JI .i64 x.2 f) false)) (some (.inl (c.1,c.2.1,G6 .i64 c.2.2 1))) (o5 (yQ x (x.1,JI .i64 x.2 f)) λx=>l9 x.2 (l9 (J8 (JL (λ(a b:F9)=>jy (D6 a.1 b.1) (D6 a.2 b.2)) c.1 x.1 false)) (o5 (eY c.2.1 [x.1]) λg=>some (.inl (MX (λ(a b:F9)=>jy (D6 a.1 b.1) (D6 a.2 b.2)) c.1 x.1 true,g,G6 .i64 c.2.2 1))) (some (.inl (c.1,c.2.1,G6 .i64 c.2.2 1)))) (some (.inl (c.1,c.2.1,G6 .i64 c.2.2 1))))) (some (.inr (c.1,c.2.1)))) (d.1,d.2.1,0)) λy=>some (.inl (y.1,y.2,G6 .i64 d.2.2 1))) (some (.inr (d.1,d.2.1)))) (x.1,[],0)) λy=>some (.inl y)) (some (.inr x.1))) (A,x1)) λy=>some (RQ (A,B) y)
def s63:NSpec:=⟨b3K.den,b9I,b3K.rs.map (·.2),b3K.outs.map (·.2),RQ,λa _=>some a⟩
def b4R:List MG:=[ah]
def b5j:Ret:=⟨[(.tmp 2,jv)],[]⟩
def c5x:Env:=⟨6,eqs,tt,gl,[],[],[],[],[],[],[]⟩
def c5q:Ann:=.leaf
def BL(A:Int):c5C:=some (J8 (D6 A A))
def c1X:FSpec:=mkS b4R b5j λx=>BL x
def b4P:List MG:=[ah,ah]
def b5g:Ret:=⟨[(.tmp 4,ah)],[]⟩
def c5w:Env:=⟨20,eqs,tt,gl,[(136,c1X)],[],[],[],[],[],[]⟩
def c5p:Ann:=.leaf
def rY(A:Int)(B:Int):c5E:=o5 (BL A) λx=>o5 (BL B) λb=>l9 x (l9 b (some 0) (some (-1))) (l9 b (some 1) (l9 (I7 A B) (some (-1)) (l9 (I7 B A) (some 1) (some 0))))
def c1I:FSpec:=mkS b4P b5g λx=>rY x.1 x.2
def b4O:List MG:=[(false,(.dat y29))]
def b5f:Ret:=⟨[(.tmp 2,ah)],[]⟩
def c5v:Env:=⟨18,eqs,tt,gl,[],[],[],[],[],[],[]⟩
def c5o:Ann:=.seq S9 (.seq S9 (.seq (.seq S9 (.blk (.loopR [(2,3),(5,6),(8,17)] ⟨[(8,ah)],[]⟩ 0 ⟨[],[]⟩ S9))) S9))
def Ig(A:c5z):c5E:=o5 (Y9 (λ(x:Int)=>l9 (I7 x (x8 A)) (o5 (U0 A x) λb=>l9 (J8 (D6 b 0)) (some (.rt b)) (some (.nx (G6 .i64 x 1)))) (some (.ex ()))) 0) λo=>dw o (λy=>some 0) λr=>some r
def c1H:FSpec:=mkS b4O b5f λx=>Ig x
def b4N:List MG:=[(true,(.dat y2)),(true,(.dat y2))]
def b5e:Ret:=⟨[(.tmp 4,ah)],[]⟩
def c5u:Env:=⟨26,eqs,tt,gl,[(109,b3L),(108,c1I),(107,c1H)],[],[],[],[],[],[]⟩
def c5n:Ann:=.leaf
def BH(A:F9)(B:F9):c5E:=o5 (kH (wrap .u64 A.1)) λx=>o5 (kH (wrap .u64 B.1)) λb=>o5 (rY x b) λx=>o5 (rY A.1 B.1) λc=>o5 (rY A.2 B.2) λd=>o5 (Ig [x,c,d]) λx=>some x
def c4Z:FSpec:=mkS b4N b5e λx=>BH x.1 x.2
def b3x:List MG:=[(false,(.ownb y2)),(false,(.fn 106 []))]
def b0I:FSpec:=⟨b3x,[],[(false,(.own y2))],λx=>Dv x.1 x.2⟩
def b9J:List MG:=[(false,(.dat y49)),ah]
def c1z:Ret:=⟨[(.tmp 4,(false,(.own y2)))],[]⟩
def e64:Env:=⟨48,eqs,tt,gl,[(105,b0I)],[],[],[],[],[],[]⟩
def c4C:SAnn:=.seq S9 (.seq S9 (.rng ⟨[(5,10),(12,45)],⟨[(5,(false,(.own y2)))],[]⟩,.seq S9 (.seq (.seq S9 (.blk (.loop [(7,10),(17,40)] ⟨[(7,jv),(17,ah)],[]⟩ 2 ⟨[(7,jv)],[]⟩ S9))) S9)⟩ (.fin S9)))
def xY(A:List (F9×Bool))(B:Int):Option (List F9):=Qx (λ(ys:List (F9×Bool))=>List.Perm ys A) λys=>o5 (xE (λ(e:F9×Bool) (x:List F9)=>o5 (aS (λ(x:Bool×Int)=>l9 (I7 x.2 B) (o5 (AQ .i64 1 x.2) λc=>o5 (AQ .i64 1 x.2) λd=>l9 (J8 (jy (D6 (sQ .i64 e.1.1 c) e.1.1) (D6 (sQ .i64 e.1.2 d) e.1.2))) (l9 (JL (λ(a b:F9)=>jy (D6 a.1 b.1) (D6 a.2 b.2)) A (sQ .i64 e.1.1 c,sQ .i64 e.1.2 d) false) (some (.inl (false,G6 .i64 x.2 1))) (some (.inl (x.1,G6 .i64 x.2 1)))) (some (.inl (x.1,G6 .i64 x.2 1)))) (some (.inr x.1))) (true,0)) λy=>l9 y (o5 (eY x [e.1]) λx=>some x) (some x)) ys []) λx1=>o5 (Dv x1 ()) λx=>some x
def s64:FSpec:=mkS b9J c1z λx=>xY x.1 x.2
def wQ(A:F9)(B:Int):c5C:=some (D6 (ak .i64 B A.1) A.2)
def q65:FQ:=⟨[tD y2,ah],tR 4 jv,mE 12 [],S9⟩
def s65:FSpec:=gW q65 λx=>wQ x.1 x.2
def b9H:List MG:=[(false,(.dat y29)),ah]
def c1y:Ret:=⟨[(.tmp 4,(false,(.own y2)))],[]⟩
def e37:Env:=⟨75,eqs,tt,gl,[(62,s62),(64,s64),(65,s65)],[],[],[],[],[],[]⟩
def b9b:SAnn:=.seq S9 (.seq S9 (.seq S9 (.seq S9 (.seq S9 (.seq (.seq S9 (.blk (.loop [(6,8),(9,10),(23,42),(9001216,9001217),(11001280,11001281)] ⟨[(6,(false,(.own (.ent false false (.int .i64) .bool)))),(7,(false,(.own (.ent true false y2 .bool)))),(23,ah)],[]⟩ 0 ⟨[(6,(false,(.own (.ent false false (.int .i64) .bool)))),(7,(false,(.own (.ent true false y2 .bool))))],[]⟩ S9))) (.nd 63 s63 (.fin (.seq S9 (.seq (.seq S9 (.blk (.loop [(6,7),(10,11),(12,15),(49,74),(18000000,18000001)] ⟨[(6,(false,(.own (.ent false false (.int .i64) .bool)))),(10,(false,(.own y2))),(49,ah)],[]⟩ 2 ⟨[(10,(false,(.own y2)))],[]⟩ (.seq S9 (.seq S9 (.seq (.blk (.seq S9 (.seq S9 (.seq (.seq S9 (.blk (.loop [(6,7),(13,15),(54,68),(54000000,54000001)] ⟨[(6,(false,(.own (.ent false false (.int .i64) .bool)))),(13,jv),(54,ah)],[]⟩ 4 ⟨[(6,(false,(.own (.ent false false (.int .i64) .bool)))),(13,jv)],[]⟩ S9))) S9)))) S9)))))) S9)))))))))
def uP(A:c5z)(B:Int):Option (List F9):=o5 (kU B) λx=>o5 (AQ .i64 1 x) λf=>o5 (aS (λ(x:List (Int×Bool)×List (F9×Bool)×Int)=>l9 (I7 x.2.2 (x8 A)) (o5 (U0 A x.2.2) λd=>l9 (X6 0 d) (l9 (I7 d f) (some (.inl (MX (λ(a b:Int)=>D6 a b) x.1 d true,MX (λ(a b:F9)=>jy (D6 a.1 b.1) (D6 a.2 b.2)) x.2.1 (Y5 .i64 f 1,d) true,G6 .i64 x.2.2 1))) (some (.inl (x.1,x.2.1,G6 .i64 x.2.2 1)))) (some (.inl (x.1,x.2.1,G6 .i64 x.2.2 1)))) (some (.inr (x.1,x.2.1)))) ([],[],0)) λy=>Qx (RQ (y.2,x)) λa=>o5 (xY a x) λx=>o5 (aS (λ(d:List (Int×Bool)×List F9×Int)=>l9 (I7 d.2.2 (x8 x)) (o5 (U0 x d.2.2) λg=>o5 (dm x (aJ d.2.2)) λx=>o5 (aS (λ(c:List (Int×Bool)×Bool×Int)=>l9 (I7 c.2.2 f) (l9 (JL (λ(a b:Int)=>D6 a b) c.1 c.2.2 false) (o5 (wQ x c.2.2) λx=>l9 x (some (.inl (TM (λ(a b:Int)=>D6 a b) c.1 c.2.2,true,G6 .i64 c.2.2 1))) (some (.inl (c.1,c.2.1,G6 .i64 c.2.2 1)))) (some (.inl (c.1,c.2.1,G6 .i64 c.2.2 1)))) (some (.inr (c.1,c.2.1)))) (d.1,false,0)) λy=>l9 y.2 (o5 (eY d.2.1 [x]) λx=>some (.inl (y.1,x,G6 .i64 d.2.2 1))) (some (.inl (y.1,d.2.1,G6 .i64 d.2.2 1)))) (some (.inr d.2.1))) (y.1,[],0)) λy=>some y
def s37:FSpec:=mkS b9H c1y λx=>uP x.1 x.2
def qO(A:c5z)(B:c5z)(C:Int):Option (List L8):=o5 (eY [-2,-1] B) λx=>o5 (aS (λ(c:List L8×Int)=>l9 (I7 c.2 (x8 x)) (o5 (U0 x c.2) λg=>o5 (dm x (aJ c.2)) λx=>o5 (aS (λ(b:c5z×Int)=>l9 (I7 b.2 (x8 A)) (o5 (U0 A b.2) λd=>l9 (D6 d x) (o5 (eY b.1 [b.2]) λx=>some (.inl (x,G6 .i64 b.2 1))) (some (.inl (b.1,G6 .i64 b.2 1)))) (some (.inr b.1))) ([],0)) λy=>l9 (D6 (x8 y) 0) (some (.inl (c.1,G6 .i64 c.2 1))) (o5 (uP y C) λb=>o5 (aS (λ(d:List L8×Int)=>l9 (I7 d.2 (x8 b)) (o5 (U0 b d.2) λi=>o5 (dm b (aJ d.2)) λf=>o5 (eY d.1 [(f,x)]) λx=>some (.inl (x,G6 .i64 d.2 1))) (some (.inr d.1))) (c.1,0)) λy=>some (.inl (y,G6 .i64 c.2 1)))) (some (.inr c.1))) ([],0)) λy=>some y
def q17:FQ:=⟨[uD y29,uD y29,ah],tR 6 (uO y30),mE 60 [(37,s37)],sN 3 (ji (sN 1 (blA (.loop [(8,9),(10,14),(15,16),(21,59)] ⟨[(8,(uO y30)),(21,ah)],[]⟩ 0 ⟨[(8,(uO y30))],[]⟩ (sN 2 (ji (blA (sN 2 (ji (sN 1 (blA (.loop [(11,14),(27,40)] ⟨[(11,uoM),(27,ah)],[]⟩ 2 ⟨[(11,uoM)],[]⟩ S9))) (sN 2 (blA (.loop [(8,9),(15,16),(47,58),(17000000,17000001)] ⟨[(8,(uO y30)),(47,ah)],[]⟩ 4 ⟨[(8,(uO y30))],[]⟩ S9)))))) S9))))) S9)⟩
def s17:FSpec:=gW q17 λx=>qO x.1 x.2.1 x.2.2
def zT(A:gz)(B:Int)(C:Int)(D:Int):Option (G9×Int):=o5 (sU A) λx=>l9 (J8 (jy (D6 x.1 0) (jy (D6 x.2.1 0) (jy (D6 x.2.2.1 0) (D6 x.2.2.2 0))))) (some ((0,[],[],[]),1)) (o5 (l9 (I7 B 0) (some (.inr ((0,[],[],[]),6))) (l9 (X6 (x8 A.2.2) B) (some (.inr ((0,[],[],[]),6))) (some (.inl (0,[],[],[]))))) λo=>dw o (λ(x:G9)=>o5 (U0 A.2.2 B) λc=>o5 (l9 (I7 C 0) (some (.inr ((0,[],[],[]),6))) (l9 (X6 (x8 c.2.2.2.1) C) (some (.inr ((0,[],[],[]),6))) (some (.inl x)))) λo=>dw o (λ(x:G9)=>o5 (l9 (I7 D 0) (some (.inr ((0,[],[],[]),3))) (l9 (I7 109572 D) (some (.inr ((0,[],[],[]),3))) (some (.inl x)))) λo=>dw o (λ(x:G9)=>o5 (uw c C D) λx=>o5 (yu (x8 x.1) 0) λi=>o5 (aS (λ(b:G9×c5z×Int)=>l9 (I7 b.2.2 (x8 x.1)) (o5 (U0 x.1 b.2.2) λp=>o5 (dm x.1 (aJ b.2.2)) λx=>o5 (U0 b.2.1 b.2.2) λq=>o5 (dm b.2.1 (aJ b.2.2)) λt=>o5 (U0 c.2.2.2.2 x) λd=>l9 (D6 (x8 d.2.2.2.2.2.1) 0) (some (.inl (b.1,dD b.2.1 (aJ b.2.2) (-1),G6 .i64 b.2.2 1))) (o5 (gp b.1.2.1 d.2.2.2.2.2.1) λf=>l9 (I7 f 0) (o5 (um d.2.2.2.2.2.1) λj=>o5 (eY b.1.2.1 [j]) λg=>o5 (eY b.1.2.2.1 [x]) λx=>o5 (U0 (dD b.2.1 (aJ b.2.2) (-1)) b.2.2) λk=>o5 (dm (dD b.2.1 (aJ b.2.2) (-1)) (aJ b.2.2)) λn=>some (.inl ((b.1.1,g,x,b.1.2.2.2),dD (dD b.2.1 (aJ b.2.2) (-1)) (aJ b.2.2) (x8 b.1.2.1),G6 .i64 b.2.2 1))) (o5 (U0 (dD b.2.1 (aJ b.2.2) (-1)) b.2.2) λx=>o5 (dm (dD b.2.1 (aJ b.2.2) (-1)) (aJ b.2.2)) λx=>some (.inl (b.1,dD (dD b.2.1 (aJ b.2.2) (-1)) (aJ b.2.2) f,G6 .i64 b.2.2 1))))) (some (.inr (b.1,b.2.1)))) ((C,[],[],[]),i,0)) λy=>o5 (gQ x.1 x.2.1 x.2.2 y.2 (x8 y.1.2.1)) λb=>o5 (qO b x.1 (x8 y.1.2.1)) λx=>some ((y.1.1,y.1.2.1,y.1.2.2.1,x),0)) λr=>some r) λr=>some r) λr=>some r)
def q6:FQ:=⟨[tD y27,ah,ah,ah],⟨[(.cell 8 33,tD y34),(.tmp 9,ah)],[]⟩,mE 133 [(12,s12),(13,s13),(14,s14),(15,s15),(16,s16),(17,s17)],sN 2 (ji (jnR [(8,10),(26,36),(4000512,4000513)] ⟨[(8,(false,(.box (dT y34))))],[]⟩ S9) (sN 1 (ji (jnR [(8,10),(41,51),(16000000,16000001)] ⟨[(8,(false,(.box (dT y34))))],[]⟩ S9) (ji (jnR [(8,10),(51,58),(29000000,29000001)] ⟨[(8,(false,(.box (dT y34))))],[]⟩ S9) (sN 3 (ji (sN 1 (blA (.loop [(11,12),(15,20),(73,117),(50000704,50000705),(56004480,56004481)] ⟨[(11,(false,(.box (pA P7 (pA (oW y12) (pA oiM (dT y31))))))),(15,uoM),(73,ah)],[]⟩ 0 ⟨[(11,(false,(.box (pA P7 (pA (oW y12) (pA oiM (dT y31))))))),(15,uoM)],[]⟩ S9))) S9))))))⟩
def s6:FSpec:=gW q6 λx=>zT x.1 x.2.1 x.2.2.1 x.2.2.2
def ps3:List MG:=[(true,(.dat y27)),ah,ah,ah]
def uB(A:gz)(B:Int)(C:Int)(D:Int):c5C:=o5 (BR A) λx=>l9 (J8 x) (o5 zA λx=>some x) (o5 (zT A B C D) λx=>l9 (J8 (D6 x.2 0)) (o5 zA λx=>some x) (o5 (kF A B x.1) λb=>l9 (D6 b.2 4) (o5 zA λx=>some x) (o5 (lG A B b.1) λc=>l9 (D6 b.2 0) (l9 (D6 c.2.2 0) (l9 (D6 c.2.1 0) (o5 (rH x.1 c.1) λx=>l9 x (o5 zA λx=>some x) (some false)) (some false)) (some false)) (some false))))
def q3:FQ:=⟨ps3,tR 8 jv,mE 67 [(4,s4),(5,s5),(6,s6),(7,s7),(8,s8),(9,s9)],S9⟩
def s3:FSpec:=gW q3 λx=>uB x.1 x.2.1 x.2.2.1 x.2.2.2
abbrev c5j:Ty:=y27
def Ez:Option (List c5y):=some [[105,102],[116,104,101,110],[101,108,115,101],[111,114],[97,110,100],[110,
 111,116],[116,114,117,101],[102,97,108,115,101],[116,111,100,97,121],[115,104,97,114,101],[100,105,118],[114,111,117,110,
 100],[109,105,110],[109,97,120],[112,108,117,115],[109,111,110,116,104,115],[100,97,121,115],[121,101,97,114,115],[121,
 101,97,114],[109,111,110,116,104],[116,97,98],[98,97,110,100],[99,111,117,110,116],[115,117,109],[97,108,108],[97,110,
 121],[109,111,115,116],[101,110,117,109],[116,97,98,108,101],[114,111,119],[115,99,111,112,101],[109,101,109,98,101,114,
 115],[105,110,112,117,116],[100,101,102],[114,117,108,101],[111,102],[111,118,101,114],[112,114,105,111],[102,114,111,109],
 [116,111],[101,110,100],[119,104,101,110],[105,115],[115,114,99],[98,111,111,108],[105,110,116],[109,111,110,101,121],[114,
 97,116,101],[100,97,116,101],[100,111,119,110],[117,112],[122,101,114,111],[97,119,97,121],[104,97,108,102],[101,118,101,
 110]]
def bF(a0:F9)(a1:List gm):c5C:=l9 (D6 a0.1 6) (l9 (X6 0 a0.2) (some (I7 a0.2 (x8 a1))) (some false))
 (l9 (X6 1 a0.1) (l9 (X6 a0.1 5) (some (D6 a0.2 0)) (some false)) (some false))
def fZ(a0:F9)(a1:List gm):Option F9:=o5 (bF a0 a1) λ(x:Bool)=>l9 (J8 x) (some (0,-1)) (l9
 (D6 a0.1 1) (some (0,1)) (l9 (D6 a0.1 2) (some (-1000000000000,1000000000000)) (l9 (D6 a0.1 3) (some (-1000000000000000,
 1000000000000000)) (l9 (D6 a0.1 4) (some (-1000000000,1000000000)) (l9 (D6 a0.1 5) (some (0,109572)) (o5 (U0 a1 a0.2) λ(x:gm)
 =>some (0,Y5 IntKind.i64 (x8 x.2) 1)))))))
def PS(a0:Int)(a1:F9)(a2:List gm):c5C:=o5 (fZ a1 a2) λ(x:F9)=>l9 (X6 x.1 a0) (some (X6 a0
 x.2)) (some false)
def qL(a0:Int):c5E:=o5 (l9 (X6 1 a0) (l9 (X6 a0 9) (some (Sum.inr 0)) (l9 (X6 35 a0) (l9 (X6 a0 39) (some
 (Sum.inr 0)) (some (Sum.inl PUnit.unit))) (some (Sum.inl PUnit.unit)))) (l9 (X6 35 a0) (l9 (X6 a0 39) (some (Sum.inr 0)) (some (Sum.inl
 PUnit.unit))) (some (Sum.inl PUnit.unit)))) λ(o:PUnit⊕Int)=>dw o (λ(x:PUnit)=>l9 (D6 a0 10) (l9 (D6 a0 10) (some 1) (l9
 (D6 a0 26) (some 3) (l9 (X6 11 a0) (l9 (X6 a0 30) (some 2) (some (-1))) (some (-1))))) (l9 (D6 a0 25) (l9 (D6 a0 25) (some 1) (l9
 (D6 a0 26) (some 3) (l9 (X6 11 a0) (l9 (X6 a0 30) (some 2) (some (-1))) (some (-1))))) (l9 (D6 a0 31) (l9 (D6 a0 31) (some 1) (l9
 (D6 a0 26) (some 3) (l9 (X6 11 a0) (l9 (X6 a0 30) (some 2) (some (-1))) (some (-1))))) (l9 (D6 a0 32) (l9 (D6 a0 32) (some 1) (l9
 (D6 a0 26) (some 3) (l9 (X6 11 a0) (l9 (X6 a0 30) (some 2) (some (-1))) (some (-1))))) (l9 (D6 a0 33) (l9 (D6 a0 33) (some 1) (l9
 (D6 a0 26) (some 3) (l9 (X6 11 a0) (l9 (X6 a0 30) (some 2) (some (-1))) (some (-1))))) (l9 (D6 a0 34) (some 1) (l9 (D6 a0 26) (some
 3) (l9 (X6 11 a0) (l9 (X6 a0 30) (some 2) (some (-1))) (some (-1)))))))))) λ(r:Int)=>some r
def gI(a0:Int):c5C:=o5 (l9 (X6 1 a0) (l9 (X6 a0 8) (some (Sum.inr true)) (l9 (X6 36 a0) (l9 (X6 a0 39)
 (some (Sum.inr true)) (some (Sum.inl PUnit.unit))) (some (Sum.inl PUnit.unit)))) (l9 (X6 36 a0) (l9 (X6 a0 39) (some (Sum.inr true)) (some
 (Sum.inl PUnit.unit))) (some (Sum.inl PUnit.unit)))) λ(o:PUnit⊕Bool)=>dw o (λ(x:PUnit)=>l9 (D6 a0 14) (some true) (l9 (D6
 a0 15) (some true) (l9 (D6 a0 16) (some true) (l9 (D6 a0 33) (some true) (some (D6 a0 34)))))) λ(r:Bool)=>some r
def kK(a0:Int):Option F9:=some (a0,0)
def mW(a0:F9)(a1:V8):c5C:=o5 (l9 (D6 a0.1 1) (some (D6 a0.1 1)) (l9 (D6 a0.1 2) (some (D6 a0.1 2))
 (l9 (D6 a0.1 3) (some (D6 a0.1 3)) (l9 (D6 a0.1 4) (some (D6 a0.1 4)) (some (D6 a0.1 5)))))) λ(x:Bool)=>l9 x (o5 (kK
 a0.1) λ(x:F9)=>o5 (fZ x a1.1) λ(x:F9)=>l9 (X6 x.1 a0.2) (some (X6 a0.2 x.2)) (some false)) (o5 (l9 (D6
 a0.1 14) (some (D6 a0.1 14)) (l9 (D6 a0.1 15) (some (D6 a0.1 15)) (some (D6 a0.1 16)))) λ(x:Bool)=>l9 x (l9 (X6 0 a0.2) (some
 (X6 a0.2 5)) (some false)) (l9 (D6 a0.1 34) (l9 (X6 0 a0.2) (some (X6 (jB a0.2 8) 5)) (some false)) (l9 (D6 a0.1 6) (some (X6 0
 a0.2)) (some true))))
def qM(a0:F9)(a1:V8):c5C:=l9 (D6 a0.1 6) (l9 (I7 (eP IntKind.i64 a0.2 16) (x8 a1.1)) (o5 (U0
 a1.1 (eP IntKind.i64 a0.2 16)) λ(x:gm)=>some (I7 (jB a0.2 16) (x8 x.2))) (some false)) (l9 (D6 a0.1 7) (l9 (X6 0 a0.2) (some
 (I7 a0.2 (x8 a1.2.2.1))) (some false)) (l9 (D6 a0.1 8) (l9 (X6 0 a0.2) (some (I7 a0.2 (x8 a1.2.2.2.1))) (some false)) (l9 (D6 a0.1
 33) (l9 (X6 0 a0.2) (some (I7 a0.2 (x8 a1.2.1))) (some false)) (l9 (D6 a0.1 34) (some (I7 (eP IntKind.i64 a0.2 8) (x8 a1.2.1)))
 (l9 (D6 a0.1 35) (some a1.2.2.2.2.2) (o5 (l9 (D6 a0.1 36) (some (D6 a0.1 36)) (l9 (D6 a0.1 37) (some (D6 a0.1 37)) (l9 (D6 a0.1
 38) (some (D6 a0.1 38)) (some (D6 a0.1 39))))) λ(x:Bool)=>l9 x (l9 a1.2.2.2.2.2 (l9 (X6 0 a0.2) (some (I7 a0.2 (x8
 a1.2.2.2.2.1))) (some false)) (some false)) (some true)))))))
def Ar(a0:Int):c5C:=l9 (D6 a0 2) (some true) (l9 (D6 a0 3) (some true) (some (D6 a0 4)))
def wW(a0:Int):c5C:=o5 (Ar a0) λ(x:Bool)=>l9 x (some true) (some (D6 a0 5))
def qf(a0:F9)(a1:V8):Option (F9×Bool):=o5 (l9 (D6 a0.1 6) (some (6,eP IntKind.i64 a0.2 16)) (l9 (D6
 a0.1 7) (o5 (U0 a1.2.2.1 a0.2) λ(x:F9)=>some x) (l9 (D6 a0.1 8) (o5 (U0 a1.2.2.2.1 a0.2) λ(x:F9)=>some x) (l9 (D6
 a0.1 9) (o5 (kK 5) λ(x:F9)=>some x) (l9 (D6 a0.1 35) (o5 (kK 2) λ(x:F9)=>some x) (o5 (l9 (D6
 a0.1 36) (some (D6 a0.1 36)) (l9 (D6 a0.1 37) (some (D6 a0.1 37)) (l9 (D6 a0.1 38) (some (D6 a0.1 38)) (some (D6 a0.1 39))))) λ(x:
 Bool)=>l9 x (o5 (U0 a1.2.2.2.2.1 a0.2) λ(x:F9)=>some x) (o5 (kK a0.1) λ(x:F9)=>some x))))))) λ(x:F9)
 =>o5 (bF x a1.1) λ(x_1:Bool)=>l9 (D6 a0.1 36) (l9 x_1 (l9 (D6 x.1 2) (some (x,true)) (some (x,D6 x.1 3))) (some
 (x,false))) (l9 (D6 a0.1 37) (l9 (D6 a0.1 37) (l9 x_1 (some (x,D6 x.1 1)) (some (x,false))) (l9 (D6 a0.1 39) (l9 x_1 (o5
 (wW x.1) λ(x_2:Bool)=>some (x,x_2)) (some (x,false))) (some (x,x_1)))) (l9 (D6 a0.1 38) (l9 x_1 (some (x,D6 x.1 1))
 (some (x,false))) (l9 (D6 a0.1 39) (l9 x_1 (o5 (wW x.1) λ(x_2:Bool)=>some (x,x_2)) (some (x,false))) (some (x,
 x_1)))))
def yz(a0:F9)(a1:F9)(a2:V8):Option (F9×Bool):=l9 (D6 a0.1 10) (o5 (Ar a1.1) λ(x:Bool)
 =>some (a1,x)) (l9 (D6 a0.1 25) (some (a1,D6 a1.1 1)) (o5 (l9 (D6 a0.1 31) (some (D6 a0.1 31)) (some (D6 a0.1 32))) λ(x:Bool)
 =>l9 x (o5 (kK 2) λ(x:F9)=>some (x,D6 a1.1 5)) (l9 (D6 a0.1 33) (o5 (U0 a2.2.1 a0.2) λ(x:pR)=>o5
 (bF x.2.1 a2.1) λ(x_1:Bool)=>l9 x_1 (o5 (bF x.2.2.1 a2.1) λ(x_2:Bool)=>l9 x_2 (some (x.2.2.1,jy
 (D6 a1.1 x.2.1.1) (D6 a1.2 x.2.1.2))) (some (x.2.2.1,false))) (some (x.2.2.1,false))) (o5 (U0 a2.2.1 (eP IntKind.i64 a0.2 8)) λ(x:
 pR)=>l9 (D6 a1.1 3) (o5 (kK 3) λ(x_1:F9)=>l9 (jy (D6 x.2.1.1 x_1.1) (D6 x.2.1.2 x_1.2)) (o5 (kK 4)
 λ(x_2:F9)=>some (a1,jy (D6 x.2.2.1.1 x_2.1) (D6 x.2.2.1.2 x_2.2))) (some (a1,false))) (some (a1,false))))))
def G_(a0:Int)(a1:Int)(a2:Int):Option (F9×Bool):=l9 (D6 a0 13) (o5 (kK a1) λ(x:F9)=>l9 (D6 a2
 2) (l9 (D6 a1 2) (some (x,true)) (some (x,D6 a1 3))) (some (x,false))) (l9 (D6 a0 14) (o5 (kK a1) λ(x:F9)=>l9
 (D6 a2 4) (l9 (D6 a1 3) (some (x,true)) (some (x,D6 a1 4))) (some (x,false))) (l9 (D6 a1 3) (l9 (D6 a2 3) (o5 (kK 4) λ
 (x:F9)=>some (x,true)) (o5 (kK a1) λ(x:F9)=>l9 (D6 a2 2) (l9 (D6 a1 2) (some (x,true)) (some (x,D6 a1 3)))
 (some (x,false)))) (o5 (kK a1) λ(x:F9)=>l9 (D6 a2 2) (l9 (D6 a1 2) (some (x,true)) (some (x,D6 a1 3))) (some (x,
 false)))))
def Aq(a0:Int)(a1:F9)(a2:F9):Option (F9×Bool):=o5 (o5 (l9 (D6 a0 11) (some (D6 a0 11)) (some (D6 a0
 12))) λ(x:Bool)=>l9 x (l9 (jy (D6 a1.1 a2.1) (D6 a1.2 a2.2)) (o5 (Ar a1.1) λ(x:Bool)=>some (Sum.inr (a1,x)))
 (some (Sum.inr (a1,false)))) (o5 (l9 (D6 a0 13) (some (D6 a0 13)) (l9 (D6 a0 14) (some (D6 a0 14)) (some (D6 a0 15)))) λ(x:Bool)
 =>l9 x (o5 (G_ a0 a1.1 a2.1) λ(x:F9×Bool)=>some (Sum.inr x)) (l9 (D6 a0 16) (l9 (D6 a1.1 3) (some (Sum.inr (a1,
 D6 a2.1 3))) (some (Sum.inr (a1,false)))) (o5 (l9 (D6 a0 17) (some (D6 a0 17)) (some (D6 a0 18))) λ(x:Bool)=>l9 x (l9 (jy
 (D6 a1.1 a2.1) (D6 a1.2 a2.2)) (o5 (wW a1.1) λ(x:Bool)=>some (Sum.inr (a1,x))) (some (Sum.inr (a1,false)))) (o5 (l9
 (D6 a0 19) (some (D6 a0 19)) (some (D6 a0 20))) λ(x:Bool)=>l9 x (o5 (kK 1) λ(x:F9)=>some (Sum.inr (x,jy (D6
 a1.1 a2.1) (D6 a1.2 a2.2)))) (o5 (l9 (D6 a0 21) (some (D6 a0 21)) (some (D6 a0 22))) λ(x:Bool)=>l9 x (o5 (kK 1) λ(x
 :F9)=>l9 (jy (D6 a1.1 a2.1) (D6 a1.2 a2.2)) (o5 (wW a1.1) λ(x_1:Bool)=>some (Sum.inr (x,x_1))) (some (Sum.inr (x,
 false)))) (l9 (D6 a0 23) (l9 (D6 a0 23) (l9 (D6 a1.1 1) (some (Sum.inr (a1,D6 a2.1 1))) (some (Sum.inr (a1,false)))) (l9 (D6 a0
 27) (l9 (D6 a0 27) (l9 (D6 a1.1 5) (some (Sum.inr (a1,D6 a2.1 2))) (some (Sum.inr (a1,false)))) (some (Sum.inl (0,0)))) (l9 (D6 a0
 28) (l9 (D6 a1.1 5) (some (Sum.inr (a1,D6 a2.1 2))) (some (Sum.inr (a1,false)))) (some (Sum.inl (0,0)))))) (l9 (D6 a0 24) (l9 (D6
 a1.1 1) (some (Sum.inr (a1,D6 a2.1 1))) (some (Sum.inr (a1,false)))) (l9 (D6 a0 27) (l9 (D6 a0 27) (l9 (D6 a1.1 5) (some (Sum.inr (a1,
 D6 a2.1 2))) (some (Sum.inr (a1,false)))) (some (Sum.inl (0,0)))) (l9 (D6 a0 28) (l9 (D6 a1.1 5) (some (Sum.inr (a1,D6 a2.1 2))) (some
 (Sum.inr (a1,false)))) (some (Sum.inl (0,0))))))))))))) λ(o:F9⊕F9×Bool)=>dw o (λ(x:F9)=>o5 (kK 2) λ(x:
 F9)=>l9 (D6 a1.1 5) (some (x,D6 a2.1 5)) (some (x,false))) λ(r:F9×Bool)=>some r
def yx(a0:F9)(a1:List F9)(a2:V8):Option (F9×Int):=o5 (l9 (J8 (D6 a0.2 0)) (o5 (gI
 a0.1) λ(x:Bool)=>l9 (J8 x) (some (Sum.inr ((0,0),2))) (some (Sum.inl (0,0)))) (some (Sum.inl (0,0)))) λ(o:F9⊕F9×Int)
 =>dw o (λ(x:F9)=>o5 (mW a0 a2) λ(x:Bool)=>l9 (J8 x) (some ((0,0),3)) (o5 (qM a0 a2) λ(x:
 Bool)=>l9 (J8 x) (some ((0,0),6)) (l9 (D6 (x8 a1) 0) (o5 (qf a0 a2) λ(x:F9×Bool)=>l9 (J8 x.2) (some ((0,
 0),8)) (some (x.1,0))) (l9 (D6 (x8 a1) 1) (o5 (U0 a1 0) λ(x:F9)=>o5 (yz a0 x a2) λ(x:F9×Bool)=>l9
 (J8 x.2) (some ((0,0),8)) (some (x.1,0))) (l9 (D6 (x8 a1) 2) (o5 (U0 a1 0) λ(x:F9)=>o5 (U0 a1 1) λ(x_1:F9)=>
 o5 (Aq a0.1 x x_1) λ(x:F9×Bool)=>l9 (J8 x.2) (some ((0,0),8)) (some (x.1,0))) (o5 (U0 a1 1) λ(x:F9)=>
 o5 (U0 a1 0) λ(x_1:F9)=>l9 (D6 x_1.1 1) (o5 (U0 a1 1) λ(x_2:F9)=>o5 (U0 a1 2) λ(x_3:F9)=>l9 (J8
 (jy (D6 x_2.1 x_3.1) (D6 x_2.2 x_3.2))) (some ((0,0),8)) (some (x,0))) (l9 (J8 false) (some ((0,0),8)) (some (x,0))))))))) λ(r:
 F9×Int)=>some r
def zn(a0:FO):Option F9:=some (a0.1,a0.2.1)
def Ff(a0:Int):c5C:=l9 (X6 0 a0) (some (X6 a0 109572)) (some false)
def IV(a0:Int):c5C:=l9 (D6 (jB a0 4) 0) (l9 (J8 (D6 (jB a0 100) 0)) (some true) (some (D6 (jB a0 400) 0)))
 (some false)
def qR(a0:Int):c5E:=o5 (IV a0) λ(x:Bool)=>l9 x (some 366) (some 365)
def pK(a0:Int)(a1:Int):c5E:=l9 (D6 a1 2) (o5 (IV a0) λ(x:Bool)=>l9 x (some 29) (some 28))
 (o5 (l9 (D6 a1 4) (some (D6 a1 4)) (l9 (D6 a1 6) (some (D6 a1 6)) (l9 (D6 a1 9) (some (D6 a1 9)) (some (D6 a1 11))))) λ(x:
 Bool)=>l9 x (some 30) (l9 (D6 a1 1) (l9 (D6 a1 1) (some 31) (some 0)) (l9 (D6 a1 3) (l9 (D6 a1 3) (some 31) (some 0)) (l9
 (D6 a1 5) (l9 (D6 a1 5) (some 31) (some 0)) (l9 (D6 a1 7) (l9 (D6 a1 7) (some 31) (some 0)) (l9 (D6 a1 8) (l9 (D6 a1 8) (some
 31) (some 0)) (l9 (D6 a1 10) (l9 (D6 a1 10) (some 31) (some 0)) (l9 (D6 a1 12) (some 31) (some 0)))))))))
def KR(a0:Int):Option FO:=o5 (Ff a0) λ(x:Bool)=>l9 (J8 x) (some (0,0,0)) (o5 (aS (λ(x:F9)
 =>o5 (qR x.2) λ(x_1:Int)=>l9 (X6 x_1 x.1) (o5 (qR x.2) λ(x_2:Int)=>some (Sum.inl (Y5
 IntKind.i64 x.1 x_2,G6 IntKind.i64 x.2 1))) (some (Sum.inr x))) (a0,1900)) λ(y:F9)=>o5 (aS (λ(x:F9)=>o5
 (pK y.2 x.2) λ(x_1:Int)=>l9 (X6 x_1 x.1) (o5 (pK y.2 x.2) λ(x_2:Int)=>some (Sum.inl (Y5
 IntKind.i64 x.1 x_2,G6 IntKind.i64 x.2 1))) (some (Sum.inr x))) (y.1,1)) λ(y_1:F9)=>some (y.2,y_1.2,G6 IntKind.i64 y_1.1 1))
def oq(a0:List mF):Option (List c5y):=
 o5
 (aS
  (λ(x:List c5y×Int)=>
   l9 (I7 x.2 (x8 a0))
    (o5 (U0 a0 x.2) λ(x_1:mF)=>
     o5 (eY x.1 [x_1.1]) λ(x_2:List c5y)=>some (Sum.inl (x_2,G6 IntKind.i64 x.2 1)))
    (some (Sum.inr x.1)))
  ([],0))
 λ(y:List c5y)=>some y
def xw(a0:gz)(a1:Int):Option D9:=
 o5
 (l9 (I7 a1 0) (some (Sum.inr ([],[],[],[],[])))
  (l9 (X6 (x8 a0.2.2) a1) (some (Sum.inr ([],[],[],[],[]))) (some (Sum.inl ([],[],[],[],[])))))
 λ(o:D9⊕D9)=>
 dw o
  (λ(x:D9)=>
   o5 (U0 a0.2.2 a1) λ(x:N8)=>
    o5 (oq x.2.2.1) λ(x_1:List c5y)=>
     o5 (oq x.2.2.2.1) λ(x_2:List c5y)=>
      o5
       (aS
        (λ(x:D9×Int)=>
         l9 (I7 x.2 (x8 a0.2.1))
          (o5 (U0 a0.2.1 x.2) λ(x_3:pR)=>
           o5 (eY x.1.2.1 [x_3.1]) λ(x_4:List c5y)=>
            some (Sum.inl ((x.1.1,x_4,x.1.2.2),G6 IntKind.i64 x.2 1)))
          (some (Sum.inr x.1)))
        ((a0.1,[],x_1,x_2,[]),0))
       λ(y:D9)=>
       l9 (X6 0 x.2.1)
        (l9 (I7 x.2.1 (x8 a0.2.2))
         (o5 (U0 a0.2.2 x.2.1) λ(x:N8)=>
          o5 (oq x.2.2.2.1) λ(x:List c5y)=>
           some (y.1,y.2.1,y.2.2.1,y.2.2.2.1,x))
         (some y))
        (some y))
  λ(r:D9)=>some r
def wX(a0:F9):Option (FO×Bool):=
 l9 (X6 1 a0.1) (l9 (X6 a0.1 5) (some ((a0.1,0,a0.2),true)) (some ((0,0,0),false)))
 (some ((0,0,0),false))
def a1T(a0:F9)(a1:D9):Option (List c5y):=
 l9 (D6 a0.1 7) (some a1.2.2.1)
 (l9 (D6 a0.1 8) (some a1.2.2.2.1) (l9 (D6 a0.1 33) (some a1.2.1) (some a1.2.2.2.2)))
def Y6(a0:F9)(a1:D9):c5E:=
 o5 (wX a0) λ(x:FO×Bool)=>
 l9 x.2
  (o5 (fZ (x.1.1,0) []) λ(x_1:F9)=>
   l9 (I7 x.1.2.2 x_1.1) (some 3) (l9 (I7 x_1.2 x.1.2.2) (some 3) (some 0)))
  (l9 (D6 a0.1 6)
   (l9 (I7 a0.2 0) (some 6)
    (l9 (X6 (x8 a1.1) (eP IntKind.i64 a0.2 16)) (some 6)
     (o5 (U0 a1.1 (eP IntKind.i64 a0.2 16)) λ(x:gm)=>
      l9 (X6 (x8 x.2) (jB a0.2 16)) (some 6) (some 0))))
   (o5
    (l9 (D6 a0.1 7) (some true)
     (l9 (D6 a0.1 8) (some true)
      (l9 (D6 a0.1 33) (some true) (l9 (X6 36 a0.1) (some (X6 a0.1 39)) (some false)))))
    λ(x:Bool)=>
    l9 x
     (l9 (I7 a0.2 0) (some 6)
      (o5 (a1T a0 a1) λ(x:List c5y)=>l9 (X6 (x8 x) a0.2) (some 6) (some 0)))
     (l9 (D6 a0.1 34)
      (l9 (I7 a0.2 0) (some 6)
       (l9 (X6 (x8 a1.2.1) (eP IntKind.i64 a0.2 8)) (some 6)
        (l9 (I7 5 (jB a0.2 8)) (some 3) (some 0))))
      (o5 (l9 (D6 a0.1 14) (some true) (l9 (D6 a0.1 15) (some true) (some (D6 a0.1 16))))
       λ(x:Bool)=>
       l9 x (l9 (I7 a0.2 0) (some 3) (l9 (I7 5 a0.2) (some 3) (some 0)))
        (l9 (J8 (D6 a0.2 0)) (some 2) (some 0))))))
def Fg(a0:FO)(a1:List gm):c5C:=
 o5 (zn a0) λ(x:F9)=>
 o5 (bF x a1) λ(x:Bool)=>
  l9 x (o5 (zn a0) λ(x:F9)=>o5 (PS a0.2.2 x a1) λ(x:Bool)=>some x)
   (some false)
def Am(r196:Int->Option c5y)(a0:Int):Option c5y:=
 l9 (I7 a0 10) (some (JG [wrap IntKind.u8 (G6 IntKind.u64 48 a0)]))
 (o5 (r196 (eP IntKind.u64 a0 10)) λ(x:c5y)=>
  o5 (aO x (JG [wrap IntKind.u8 (G6 IntKind.u64 48 (jB a0 10))])) λ(x:c5y)=>some x)
def yw:Nat->(M.den (.dat (.int .u64))->Option (X4 ([(false,(.dat .str))]++[])))
 |0=>λa0=>none
 |n+1=>λa0=>Am (yw n) a0
def IR:M.den (.dat (.int .u64))->Option (X4 ([(false,(.dat .str))]++[])):=λa0=>(yw aT) a0
def sJ(a0:Int):Option c5y:=
 l9 (I7 a0 0)
 (o5 (IR (G6 IntKind.u64 (wrap IntKind.u64 (Y5 IntKind.i64 0 (G6 IntKind.i64 a0 1))) 1))
  λ(x:c5y)=>o5 (aO [45] x) λ(x:c5y)=>some x)
 (o5 (IR (wrap IntKind.u64 a0)) λ(x:c5y)=>some x)
def Tc(a0:Int):c5E:=
 some (EJ (CW a0 0) 9)
def Ey(a0:c5y):Option (c5y×Bool):=
 l9 (I7 0 (x8 a0))
 (o5 (sat a0 0) λ(x:Int)=>
  l9 (D6 x 45) (o5 (gJ a0 1 (x8 a0)) λ(x:c5y)=>some (x,true)) (some (a0,false)))
 (some (a0,false))
def kS(a0:Int)(a1:Int):Option c5y:=
 o5 (Tc a1) λ(x:Int)=>
 l9 (D6 x 0) (o5 (sJ a0) λ(x:c5y)=>some x)
  (o5 (sJ a0) λ(x_1:c5y)=>
   o5 (Ey x_1) λ(x_2:c5y×Bool)=>
    o5
     (aS
      (λ(x_3:c5y)=>
       l9 (X6 (x8 x_3) x) (o5 (aO [48] x_3) λ(x:c5y)=>some (Sum.inl x))
        (some (Sum.inr x_3)))
      x_2.1)
     λ(y:c5y)=>
     o5 (gJ y 0 (Y5 IntKind.i64 (x8 y) x)) λ(x_3:c5y)=>
      o5 (aO x_3 [46]) λ(x_4:c5y)=>
       o5 (gJ y (Y5 IntKind.i64 (x8 y) x) (x8 y)) λ(x:c5y)=>
        o5 (aO x_4 x) λ(x:c5y)=>
         l9 x_2.2 (o5 (aO [45] x) λ(x:c5y)=>some x) (some x))
def DD(a0:Int)(a1:Int):Option c5y:=
 o5 (sJ a0) λ(x:c5y)=>
 o5
  (aS
   (λ(x:c5y)=>
    l9 (I7 (x8 x) a1) (o5 (aO [48] x) λ(x:c5y)=>some (Sum.inl x)) (some (Sum.inr x)))
   x)
  λ(y:c5y)=>some y
def IU(a0:Int):Option c5y:=
 o5 (Ff a0) λ(x:Bool)=>
 l9 (J8 x) (some [])
  (o5 (KR a0) λ(x:FO)=>
   o5 (DD x.1 4) λ(x_1:c5y)=>
    o5 (aO x_1 [45]) λ(x_2:c5y)=>
     o5 (DD x.2.1 2) λ(x_3:c5y)=>
      o5 (aO x_2 x_3) λ(x_4:c5y)=>
       o5 (aO x_4 [45]) λ(x_5:c5y)=>
        o5 (DD x.2.2 2) λ(x:c5y)=>o5 (aO x_5 x) λ(x:c5y)=>some x)
def Ap(a0:FO)(a1:List gm):Option (c5y×Int):=
 o5 (zn a0) λ(x:F9)=>
 o5 (bF x a1) λ(x:Bool)=>
  l9 (J8 x) (some ([],8))
   (o5 (Fg a0 a1) λ(x:Bool)=>
    l9 (J8 x) (some ([],3))
     (l9 (D6 a0.1 1)
      (l9 (D6 a0.2.2 0) (some ([102,97,108,115,101],0)) (some ([116,114,117,101],0)))
      (l9 (D6 a0.1 2) (o5 (sJ a0.2.2) λ(x:c5y)=>some (x,0))
       (l9 (D6 a0.1 3) (o5 (kS a0.2.2 2) λ(x:c5y)=>some (x,0))
        (l9 (D6 a0.1 4)
         (o5 (kS a0.2.2 4) λ(x:c5y)=>
          o5 (aO x [37]) λ(x:c5y)=>some (x,0))
         (l9 (D6 a0.1 5) (o5 (IU a0.2.2) λ(x:c5y)=>some (x,0))
          (o5 (U0 a1 a0.2.1) λ(x:gm)=>
           o5 (U0 x.2 a0.2.2) λ(x:c5y)=>some (x,0))))))))
def oH(a0:Int):Option (c5y×Int):=
 l9 (D6 a0 24) (some ([111,114],1))
 (l9 (D6 a0 23) (some ([97,110,100],2))
  (l9 (D6 a0 19) (some ([61,61],3))
   (l9 (D6 a0 20) (some ([33,61],3))
    (l9 (D6 a0 21) (some ([60],3))
     (l9 (D6 a0 22) (some ([60,61],3))
      (l9 (D6 a0 11) (some ([43],4))
       (l9 (D6 a0 12) (some ([45],4)) (l9 (D6 a0 13) (some ([42],5)) (some ([],0))))))))))
def EC(a0:Int):Option c5y:=
 l9 (D6 a0 14) (some [115,104,97,114,101])
 (l9 (D6 a0 15) (some [100,105,118])
  (l9 (D6 a0 16) (some [114,111,117,110,100])
   (l9 (D6 a0 17) (some [109,105,110])
    (l9 (D6 a0 18) (some [109,97,120])
     (l9 (D6 a0 27) (some [112,108,117,115])
      (l9 (D6 a0 28) (some [109,111,110,116,104,115])
       (l9 (D6 a0 29) (some [100,97,121,115])
        (l9 (D6 a0 30) (some [121,101,97,114,115])
         (l9 (D6 a0 31) (some [121,101,97,114])
          (l9 (D6 a0 32) (some [109,111,110,116,104])
           (l9 (D6 a0 33) (some [116,97,98])
            (l9 (D6 a0 34) (some [98,97,110,100])
             (l9 (D6 a0 35) (some [99,111,117,110,116])
              (l9 (D6 a0 36) (some [115,117,109])
               (l9 (D6 a0 37) (some [97,108,108])
                (l9 (D6 a0 38) (some [97,110,121])
                 (l9 (D6 a0 39) (some [109,111,115,116]) (some []))))))))))))))))))
def a4e(a0:Int):c5E:=
 o5
 (aS
  (λ(x:F9)=>
   l9 (I7 x.2 a0) (some (Sum.inl (Pn IntKind.i64 x.1 2,G6 IntKind.i64 x.2 1))) (some (Sum.inr x.1)))
  (1,0))
 λ(y:Int)=>some y
end
end Gt
