import Derived.Test.YtpiondedhhgjbaaGreatDoorV2
set_option linter.all false
open Go Go.GP
namespace Gt
abbrev Lu:c6F:=[0,1,2,2,3,3,3,3,4,4,4,4,4,4,4,4,5,5,5,5,5,5,5,5,5,5,5,5,5,5,5,5,6,6,6,6,6,6,6,6,6,6,6,6,6,6,6,6,6,6,6,6,6,6,6,6,6,6,6,6,6,6,6,6,7,7,7,7,7,7,7,7,7,7,7,7,7,7,7,7,7,7,7,7,7,7,7,7,7,7,7,7,7,7,7,7,7,7,7,7,7,7,7,7,7,7,7,7,7,7,7,7,7,7,7,7,7,7,7,7,7,7,7,7,7,7,7,7,8,8,8,8,8,8,8,8,8,8,8,8,8,8,8,8,8,8,8,8,8,8,8,8,8,8,8,8,8,8,8,8,8,8,8,8,8,8,8,8,8,8,8,8,8,8,8,8,8,8,8,8,8,8,8,8,8,8,8,8,8,8,8,8,8,8,8,8,8,8,8,8,8,8,8,8,8,8,8,8,8,8,8,8,8,8,8,8,8,8,8,8,8,8,8,8,8,8,8,8,8,8,8,8,8,8,8,8,8,8,8,8,8,8,8,8,8,8,8,8,8,8,8,8,8,8,8,8]
set_option maxRecDepth 100000
noncomputable section
def BM(f:Func):Code:=match f.body with|some c=>c|none=> .skip
abbrev mkS(ps:List MG)(rt:Ret)(F:U0 ps->Option rt.den):FSpec:=⟨ps,rt.rs.map (·.2),rt.outs.map (·.2),F⟩
abbrev mkP(ps:List MG)(rt:Ret) (F:U0 ps->Option (U0 (cd::(rt.rs.map (·.2)++rt.outs.map (·.2))))):FSpec:=FSpec.mk ps (cd::(rt.rs.map (·.2):List MG)) (rt.outs.map (·.2):List MG) (λx=>(F x:Option (U0 ((cd::(rt.rs.map (·.2):List MG))++(rt.outs.map (·.2):List MG)))))
structure FQ where
 (ps:List MG)
 (rt:Ret)
 (E:Env)
 (an:Ann)
abbrev bM(q:FQ)(F:U0 q.ps->Option q.rt.den):FSpec:=mkS q.ps q.rt F
abbrev jnR:=Ann.joinR
abbrev lpR:=Ann.loopR
abbrev dW:=Ann.seq
abbrev lM:=Ann.blk
abbrev sgN:Sig:=⟨[],[]⟩
def sN:Nat->Ann->Ann
 |0,a=>a|n+1,a=> .seq .leaf (sN n a)
abbrev uO(t:Ty):MG:=(false,.own t)
abbrev uD(t:Ty):MG:=(false,.dat t)
abbrev tD(t:Ty):MG:=(true,.dat t)
abbrev pA:=M.pair
abbrev oW:=M.own
abbrev dT:=M.dat
abbrev J9:Ann:=.leaf
abbrev O7:M:=.dat (.int .i64)
abbrev oiM:M:=.own (.int .i64)
abbrev dbM:M:=.dat .bool
abbrev P7:MG:=(false,O7)
abbrev fF:MG:=(false,dbM)
abbrev uoM:MG:=(false,oiM)
abbrev y0:Ty:=.prod .str (.sl .str)
abbrev y1:Ty:=.sl y0
abbrev y2:Ty:=.prod (.int .i64) (.int .i64)
abbrev y3:Ty:=.prod (.int .i64) y2
abbrev y4:Ty:=.prod y2 y3
abbrev y5:Ty:=.sl y4
abbrev y6:Ty:=.prod y2 y5
abbrev y7:Ty:=.prod y2 y6
abbrev y8:Ty:=.prod .str y7
abbrev y9:Ty:=.sl y8
abbrev y10:Ty:=.prod .str y2
abbrev y11:Ty:=.sl y10
abbrev y12:Ty:=.sl y2
abbrev y13:Ty:=.prod y12 .str
abbrev y14:Ty:=.prod y12 y13
abbrev y15:Ty:=.prod y2 y14
abbrev y16:Ty:=.prod (.int .i64) y15
abbrev y17:Ty:=.prod (.int .i64) y16
abbrev y18:Ty:=.prod (.int .i64) y17
abbrev y19:Ty:=.prod .str y18
abbrev y20:Ty:=.sl y19
abbrev y21:Ty:=.prod y11 y20
abbrev y22:Ty:=.prod y11 y21
abbrev y23:Ty:=.prod (.int .i64) y22
abbrev y24:Ty:=.prod .str y23
abbrev y25:Ty:=.sl y24
abbrev y26:Ty:=.prod y9 y25
abbrev y27:Ty:=.prod y1 y26
abbrev y28:Ty:=.prod .str y4
abbrev y29:Ty:=.prod .str y28
abbrev y30:Ty:=.prod y12 y29
abbrev y31:Ty:=.prod y12 y30
abbrev y32:Ty:=.prod (.int .i64) y31
abbrev y33:Ty:=.prod .str y32
abbrev y34:Ty:=.prod .str y33
abbrev y35:Ty:=.prod .str y34
abbrev y36:Ty:=.prod .str y35
abbrev y37:Ty:=.prod (.int .i64) y36
abbrev y38:Ty:=.prod (.int .i64) y37
abbrev y39:Ty:=.sl y38
abbrev y40:Ty:=.sl y3
abbrev y41:Ty:=.sl (.int .i64)
abbrev y42:Ty:=.prod y40 y41
abbrev y43:Ty:=.sl y42
abbrev y44:Ty:=.prod y41 y43
abbrev y45:Ty:=.prod y40 y44
abbrev y46:Ty:=.prod (.int .i64) y3
abbrev y47:Ty:=.sl y40
abbrev y48:Ty:=.prod y40 y47
abbrev y49:Ty:=.prod (.int .i64) y48
abbrev y50:Ty:=.sl (.int .u8)
abbrev y51:Ty:=.prod (.sl .bool) (.sl .bool)
abbrev y52:Ty:=.prod y24 y51
abbrev y53:Ty:=.prod y24 y52
abbrev y54:Ty:=.prod y12 y9
abbrev y55:Ty:=.prod y47 y54
abbrev y56:Ty:=.prod y40 y55
abbrev y57:Ty:=.prod y40 y56
abbrev y58:Ty:=.prod (.int .i64) y57
abbrev y59:Ty:=.prod .str .bool
abbrev y60:Ty:=.prod y27 y59
abbrev y61:Ty:=.prod (.sl .str) (.sl .str)
abbrev y62:Ty:=.prod (.sl .str) y61
abbrev y63:Ty:=.prod (.sl .str) y62
abbrev nI:Ty:=.prod y1 y63
abbrev y65:Ty:=.prod y12 .bool
abbrev y66:Ty:=.prod y12 y65
abbrev y67:Ty:=.prod y12 y66
abbrev y68:Ty:=.prod y9 y67
abbrev y69:Ty:=.prod y1 y68
abbrev y70:Ty:=.prod (.int .i64) .bool
abbrev y71:Ty:=.prod .str y70
abbrev y72:Ty:=.sl y71
abbrev y73:Ty:=.sl y41
abbrev y74:Ty:=.prod y41 y58
abbrev y75:Ty:=.prod y12 y74
abbrev y76:Ty:=.prod (.int .i64) y10
abbrev pW:Ty:=.sl y76
abbrev y78:Ty:=.prod y12 y2
abbrev y79:Ty:=.prod nI y78
abbrev y80:Ty:=.prod (.int .i64) y79
abbrev y81:Ty:=.prod (.int .i64) y80
abbrev y82:Ty:=.prod pW y81
abbrev y83:Ty:=.prod y41 y41
abbrev y84:Ty:=.prod y41 y83
def tt:List (Nat×TI):=[(3,⟨1,8,(.int .i64),some (.int .i64),[.i .i64 0]⟩),(4,⟨1,1,.bool,some .bool,[.b false]⟩),(5,⟨1,1,(.int .u8),some (.int .u8),[.i .u8 0]⟩),(9,⟨1,16,.str,some .str,[.s []]⟩),(21,⟨1,4,(.int .i32),some (.int .i32),[.i .i32 0]⟩),(22,⟨1,24,(.sl 38),some y1,[.nl]⟩),(23,⟨1,24,(.sl 43),some y9,[.nl]⟩),(24,⟨1,24,(.sl 47),some y25,[.nl]⟩),(26,⟨3,72,(.struct [(22,0),(23,1),(24,2)]),some y27,[.nl,.nl,.nl]⟩),(29,⟨1,24,(.sl 76),some y39,[.nl]⟩),(30,⟨1,8,(.int .i64),some (.int .i64),[.i .i64 0]⟩),(36,⟨1,24,(.sl 9),some (.sl .str),[.nl]⟩),(38,⟨2,40,(.struct [(9,0),(36,1)]),some y0,[.s [],.nl]⟩),(40,⟨2,16,(.struct [(3,0),(3,1)]),some y2,[.i .i64 0,.i .i64 0]⟩),(41,⟨1,24,(.sl 74),some y5,[.nl]⟩),(43,⟨6,72,(.struct [(9,0),(40,1),(40,3),(41,5)]),some y8,[.s [],.i .i64 0,.i .i64 0,.i .i64 0,.i .i64 0,.nl]⟩),(44,⟨1,24,(.sl 97),some y11,[.nl]⟩),(45,⟨1,24,(.sl 99),some y20,[.nl]⟩),(47,⟨5,96,(.struct [(9,0),(3,1),(44,2),(44,3),(45,4)]),some y24,[.s [],.i .i64 0,.nl,.nl,.nl]⟩),(51,⟨2,16,(.struct [(3,0),(3,1)]),some y2,[.i .i64 0,.i .i64 0]⟩),(52,⟨1,24,(.sl 51),some y12,[.nl]⟩),(55,⟨1,24,(.sl 65),some y40,[.nl]⟩),(56,⟨1,24,(.sl 3),some y41,[.nl]⟩),(57,⟨1,24,(.sl 136),some y43,[.nl]⟩),(59,⟨3,72,(.struct [(55,0),(56,1),(57,2)]),some y45,[.nl,.nl,.nl]⟩),(61,⟨4,32,(.struct [(30,0),(3,1),(3,2),(3,3)]),some y46,[.i .i64 0,.i .i64 0,.i .i64 0,.i .i64 0]⟩),(65,⟨3,24,(.struct [(3,0),(3,1),(3,2)]),some y3,[.i .i64 0,.i .i64 0,.i .i64 0]⟩),(66,⟨1,24,(.sl 55),some y47,[.nl]⟩),(68,⟨3,56,(.struct [(3,0),(55,1),(66,2)]),some y49,[.i .i64 0,.nl,.nl]⟩),(72,⟨2,16,(.struct [(3,0),(3,1)]),some y2,[.i .i64 0,.i .i64 0]⟩),(74,⟨5,40,(.struct [(72,0),(3,2),(3,3),(3,4)]),some y4,[.i .i64 0,.i .i64 0,.i .i64 0,.i .i64 0,.i .i64 0]⟩),(76,⟨16,208,(.struct [(3,0),(3,1),(9,2),(9,3),(9,4),(9,5),(3,6),(52,7),(52,8),(9,9),(9,10),(74,11)]),some y38,[.i .i64 0,.i .i64 0,.s [],.s [],.s [],.s [],.i .i64 0,.nl,.nl,.s [],.s [],.i .i64 0,.i .i64 0,.i .i64 0,.i .i64 0,.i .i64 0]⟩),(78,⟨4,32,(.struct [(30,0),(3,1),(3,2),(3,3)]),some y46,[.i .i64 0,.i .i64 0,.i .i64 0,.i .i64 0]⟩),(84,⟨1,8,(.ptr 87),none,[]⟩),(85,⟨1,24,(.sl 5),some y50,[.nl]⟩),(87,⟨2,32,(.struct [(84,0),(85,1)]),none,[.npt,.nl]⟩),(91,⟨1,16,.other,none,[]⟩),(97,⟨3,32,(.struct [(9,0),(40,1)]),some y10,[.s [],.i .i64 0,.i .i64 0]⟩),(99,⟨9,120,(.struct [(9,0),(3,1),(3,2),(3,3),(72,4),(52,6),(52,7),(9,8)]),some y19,[.s [],.i .i64 0,.i .i64 0,.i .i64 0,.i .i64 0,.i .i64 0,.nl,.nl,.s []]⟩),(104,⟨1,24,(.sl 4),some (.sl .bool),[.nl]⟩),(106,⟨12,240,(.struct [(47,0),(47,5),(104,10),(104,11)]),some y53,[.s [],.i .i64 0,.nl,.nl,.nl,.s [],.i .i64 0,.nl,.nl,.nl,.nl,.nl]⟩),(107,⟨1,24,(.sl 40),some y12,[.nl]⟩),(109,⟨6,128,(.struct [(3,0),(55,1),(55,2),(66,3),(107,4),(23,5)]),some y58,[.i .i64 0,.nl,.nl,.nl,.nl,.nl]⟩),(117,⟨5,96,(.struct [(26,0),(9,3),(4,4)]),some y60,[.nl,.nl,.nl,.s [],.b false]⟩),(136,⟨2,48,(.struct [(55,0),(56,1)]),some y42,[.nl,.nl]⟩),(154,⟨5,120,(.struct [(22,0),(36,1),(36,2),(36,3),(36,4)]),some nI,[.nl,.nl,.nl,.nl,.nl]⟩),(200,⟨6,128,(.struct [(22,0),(23,1),(107,2),(107,3),(107,4),(4,5)]),some y69,[.nl,.nl,.nl,.nl,.nl,.b false]⟩),(214,⟨1,24,(.sl 217),some y72,[.nl]⟩),(217,⟨3,32,(.struct [(9,0),(3,1),(4,2)]),some y71,[.s [],.i .i64 0,.b false]⟩),(223,⟨1,24,(.sl 56),some y73,[.nl]⟩),(225,⟨1,8,(.ptr 226),none,[]⟩),(226,⟨1,24,(.sl 3),some y41,[.nl]⟩),(233,⟨8,176,(.struct [(52,0),(56,1),(109,2)]),some y75,[.nl,.nl,.i .i64 0,.nl,.nl,.nl,.nl,.nl]⟩),(249,⟨1,8,(.int .u64),some (.int .u64),[.i .u64 0]⟩),(253,⟨1,24,(.sl 304),some pW,[.nl]⟩),(257,⟨11,200,(.struct [(253,0),(3,1),(3,2),(154,3),(52,8),(3,9),(30,10)]),some y82,[.nl,.i .i64 0,.i .i64 0,.nl,.nl,.nl,.nl,.nl,.nl,.i .i64 0,.i .i64 0]⟩),(271,⟨12,96,(.arr 12 3),none,[.i .i64 0,.i .i64 0,.i .i64 0,.i .i64 0,.i .i64 0,.i .i64 0,.i .i64 0,.i .i64 0,.i .i64 0,.i .i64 0,.i .i64 0,.i .i64 0]⟩),(290,⟨3,72,(.struct [(56,0),(56,1),(56,2)]),some y84,[.nl,.nl,.nl]⟩),(304,⟨4,40,(.struct [(3,0),(9,1),(3,2),(3,3)]),some y76,[.i .i64 0,.s [],.i .i64 0,.i .i64 0]⟩),(314,⟨1,8,(.int .u64),some (.int .u64),[.i .u64 0]⟩)]
def eqs:List (Nat×List Ty):=[(40,[(.int .i64),(.int .i64)]),(61,[(.int .i64),(.int .i64),(.int .i64),(.int .i64)]),(72,[(.int .i64),(.int .i64)]),(74,[(.int .i64),(.int .i64),(.int .i64),(.int .i64),(.int .i64)]),(78,[(.int .i64),(.int .i64),(.int .i64),(.int .i64)])]
def gl:List (Nat×(t:Ty)×List t.den):=[(1,⟨.int .i64,[31,28,31,30,31,30,31,31,30,31,30,31]⟩),(4,⟨.int .u64,[1,10,100,1000,10000,100000,1000000,10000000,100000000,1000000000,10000000000,100000000000,1000000000000,10000000000000,100000000000000,1000000000000000,10000000000000000,100000000000000000,1000000000000000000,10000000000000000000]⟩),(0,⟨.any (some .i64),[()]⟩)]
abbrev mE(n:Nat)(fs:List (Nat×FSpec)):Env:=⟨n,eqs,tt,gl,fs,[],[],[],[],[],[]⟩
abbrev tR(n:Nat)(m:MG):Ret:=⟨[(.tmp n,m)],[]⟩
abbrev cR(n k:Nat)(m:MG):Ret:=⟨[(.cell n k,m)],[]⟩
abbrev H6:Type:=Ty.den y2
abbrev Uo:Type:=Ty.den y2
abbrev bK:Type:=Ty.den y0
abbrev aI:Type:=Ty.den y3
abbrev mW:Type:=Ty.den y10
abbrev H8:Type:=Ty.den y71
abbrev fP:Type:=Ty.den y46
abbrev OM:Type:=Ty.den y4
abbrev uy:Type:=Ty.den y84
abbrev dF:Type:=Ty.den y76
abbrev E9:Type:=Ty.den nI
abbrev a3P:Type:=Ty.den y49
abbrev eP:Type:=Ty.den y8
abbrev LP:Type:=Ty.den y45
abbrev kF:Type:=Ty.den y19
abbrev A8:Type:=Ty.den y82
abbrev Y0:Type:=Ty.den y69
abbrev OL:Type:=Ty.den y58
abbrev au:Type:=Ty.den y24
abbrev F8:Type:=Ty.den y38
abbrev fQ:Type:=Ty.den y75
abbrev yQ:Type:=Ty.den y53
abbrev Z9:Type:=Ty.den y27
abbrev D9:Type:=Ty.den y60
def kS(A:Int):c6J:=l7 (U7 97 A) (some (U7 A 122)) (some false)
def q99:FQ:=⟨[(false,(dT (.int .u8)))],tR 2 fF,mE 9 [],J9⟩
def s99:FSpec:=bM q99 λx=>kS x
def fJ(A:Int):c6J:=l7 (U7 48 A) (some (U7 A 57)) (some false)
def b9f:FQ:=⟨[(false,(dT (.int .u8)))],tR 2 fF,mE 9 [],J9⟩
def a9o:FSpec:=bM b9f λx=>fJ x
def nS(A:c6F):c6K:=l9 (fA (λ(x:Int)=>l7 (I5 x (A7 A)) (l9 (sat A x) λb=>l9 (kS b) λc=>l7 c (some (.inl (G5 .i64 x 1))) (l9 (sat A x) λd=>l9 (fJ d) λf=>l7 f (some (.inl (G5 .i64 x 1))) (l9 (sat A x) λg=>l7 (C9 g 95) (some (.inl (G5 .i64 x 1))) (some (.inr x))))) (some (.inr x))) 0) λy=>some y
def b8F:FQ:=⟨[uD .str],tR 2 P7,mE 29 [(99,s99),(140,a9o)],sN 2 (dW (lM (.loop [(3,28)] ⟨[(3,P7)],[]⟩ 0 ⟨[(3,P7)],[]⟩ J9)) J9)⟩
def b4K:FSpec:=bM b8F λx=>nS x
def AO(A:c6F):c6J:=l9 (l7 (seq A [105,102]) (some (seq A [105,102])) (l7 (seq A [116,104,101,110]) (some (seq A [116,104,101,110])) (l7 (seq A [101,108,115,101]) (some (seq A [101,108,115,101])) (l7 (seq A [111,114]) (some (seq A [111,114])) (l7 (seq A [97,110,100]) (some (seq A [97,110,100])) (l7 (seq A [110,111,116]) (some (seq A [110,111,116])) (l7 (seq A [116,114,117,101]) (some (seq A [116,114,117,101])) (l7 (seq A [102,97,108,115,101]) (some (seq A [102,97,108,115,101])) (l7 (seq A [116,111,100,97,121]) (some (seq A [116,111,100,97,121])) (l7 (seq A [115,104,97,114,101]) (some (seq A [115,104,97,114,101])) (l7 (seq A [100,105,118]) (some (seq A [100,105,118])) (l7 (seq A [114,111,117,110,100]) (some (seq A [114,111,117,110,100])) (l7 (seq A [109,105,110]) (some (seq A [109,105,110])) (l7 (seq A [109,97,120]) (some (seq A [109,97,120])) (l7 (seq A [112,108,117,115]) (some (seq A [112,108,117,115])) (l7 (seq A [109,111,110,116,104,115]) (some (seq A [109,111,110,116,104,115])) (l7 (seq A [100,97,121,115]) (some (seq A [100,97,121,115])) (l7 (seq A [121,101,97,114,115]) (some (seq A [121,101,97,114,115])) (l7 (seq A [121,101,97,114]) (some (seq A [121,101,97,114])) (l7 (seq A [109,111,110,116,104]) (some (seq A [109,111,110,116,104])) (l7 (seq A [116,97,98]) (some (seq A [116,97,98])) (l7 (seq A [98,97,110,100]) (some (seq A [98,97,110,100])) (l7 (seq A [99,111,117,110,116]) (some (seq A [99,111,117,110,116])) (l7 (seq A [115,117,109]) (some (seq A [115,117,109])) (l7 (seq A [97,108,108]) (some (seq A [97,108,108])) (l7 (seq A [97,110,121]) (some (seq A [97,110,121])) (l7 (seq A [109,111,115,116]) (some (seq A [109,111,115,116])) (l7 (seq A [101,110,117,109]) (some (seq A [101,110,117,109])) (l7 (seq A [116,97,98,108,101]) (some (seq A [116,97,98,108,101])) (l7 (seq A [114,111,119]) (some (seq A [114,111,119])) (l7 (seq A [115,99,111,112,101]) (some (seq A [115,99,111,112,101])) (l7 (seq A [109,101,109,98,101,114,115]) (some (seq A [109,101,109,98,101,114,115])) (l7 (seq A [105,110,112,117,116]) (some (seq A [105,110,112,117,116])) (l7 (seq A [100,101,102]) (some (seq A [100,101,102])) (l7 (seq A [114,117,108,101]) (some (seq A [114,117,108,101])) (l7 (seq A [111,102]) (some (seq A [111,102])) (l7 (seq A [111,118,101,114]) (some (seq A [111,118,101,114])) (l7 (seq A [112,114,105,111]) (some (seq A [112,114,105,111])) (l7 (seq A [102,114,111,109]) (some (seq A [102,114,111,109])) (l7 (seq A [116,111]) (some (seq A [116,111])) (l7 (seq A [101,110,100]) (some (seq A [101,110,100])) (l7 (seq A [119,104,101,110]) (some (seq A [119,104,101,110])) (l7 (seq A [105,115]) (some (seq A [105,115])) (l7 (seq A [115,114,99]) (some (seq A [115,114,99])) (l7 (seq A [98,111,111,108]) (some (seq A [98,111,111,108])) (l7 (seq A [105,110,116]) (some (seq A [105,110,116])) (l7 (seq A [109,111,110,101,121]) (some (seq A [109,111,110,101,121])) (l7 (seq A [114,97,116,101]) (some (seq A [114,97,116,101])) (l7 (seq A [100,97,116,101]) (some (seq A [100,97,116,101])) (l7 (seq A [100,111,119,110]) (some (seq A [100,111,119,110])) (l7 (seq A [117,112]) (some (seq A [117,112])) (l7 (seq A [122,101,114,111]) (some (seq A [122,101,114,111])) (l7 (seq A [97,119,97,121]) (some (seq A [97,119,97,121])) (l7 (seq A [104,97,108,102]) (some (seq A [104,97,108,102])) (some (seq A [101,118,101,110])))))))))))))))))))))))))))))))))))))))))))))))))))))))) λx=>l7 x (some true) (some false)
def b8G:FQ:=⟨[uD .str],tR 2 fF,mE 60 [],sN 1 (dW (sN 1 (lM (dW (.join [(4,60)] ⟨[(4,fF)],[]⟩ J9) J9))) J9)⟩
def c2g:FSpec:=bM b8G λx=>AO x
def X6(A:c6F):c6J:=l7 (H5 (seq A [])) (l9 (sat A 0) λx=>l9 (kS x) λx=>l7 x (l9 (nS A) λx=>l7 (C9 x (A7 A)) (l7 (U7 (A7 A) 16) (l9 (AO A) λx=>some (H5 x)) (some false)) (some false)) (some false)) (some false)
def q55:FQ:=⟨[uD .str],tR 2 fF,mE 27 [(99,s99),(100,b4K),(101,c2g)],J9⟩
def s55:FSpec:=bM q55 λx=>X6 x
def GX(A:bK)(B:c6F):c6J:=some (seq A.1 B)
def a8r:FQ:=⟨[tD y0,(false,(.rp .str))],tR 3 fF,mE 8 [],J9⟩
def a2P:FSpec:=bM a8r λx=>GX x.1 x.2
def kZ(A:List bK)(B:c6F):c6K:=l9 (V4 (λ(x:Int)=>l7 (I5 x (A7 A)) (l9 (P5 A x) λb=>l9 (GX b B) λc=>l7 c (some (.rt x)) (some (.nx (G5 .i64 x 1)))) (some (.ex ()))) 0) λo=>Z8 o (λy=>some (-1)) λr=>some r
def a8y:FQ:=⟨[uD y1,(false,(.fn 103 [.str]))],tR 4 P7,mE 19 [(103,a2P)],sN 1 (dW (sN 1 (lM (lpR [(4,6),(8,19)] ⟨[(8,P7)],[]⟩ 0 sgN J9))) J9)⟩
def a9p:FSpec:=bM a8y λx=>kZ x.1 x.2
def jX(A:List bK)(B:c6F):c6J:=l9 (kZ A B) λx=>some (U7 0 x)
def a8q:FQ:=⟨[uD y1,(false,(.fn 103 [.str]))],tR 4 fF,mE 9 [(141,a9p)],J9⟩
def a9j:FSpec:=bM a8q λx=>jX x.1 x.2
def zW(A:List bK)(B:c6F):c6J:=l9 (jX A B) λx=>some x
def q56:FQ:=⟨[uD y1,(uD .str)],tR 4 fF,mE 8 [(103,a2P),(102,a9j)],J9⟩
def s56:FSpec:=bM q56 λx=>zW x.1 x.2
def cu(A:List c6F)(B:c6F):c6K:=l9 (V4 (λ(x:Int)=>l7 (I5 x (A7 A)) (l9 (P5 A x) λb=>l7 (seq B b) (some (.rt x)) (some (.nx (G5 .i64 x 1)))) (some (.ex ()))) 0) λo=>Z8 o (λy=>some (-1)) λr=>some r
def b9d:FQ:=⟨[uD (.sl .str),(uD .str)],tR 4 P7,mE 19 [],sN 1 (dW (sN 1 (lM (lpR [(4,6),(8,19)] ⟨[(8,P7)],[]⟩ 0 sgN J9))) J9)⟩
def b2G:FSpec:=bM b9d λx=>cu x.1 x.2
def kK(A:List c6F)(B:c6F):c6J:=l9 (cu A B) λx=>some (U7 0 x)
def q93:FQ:=⟨[uD (.sl .str),(uD .str)],tR 4 fF,mE 9 [(138,b2G)],J9⟩
def s93:FSpec:=bM q93 λx=>kK x.1 x.2
def CU(A:Z9)(B:Int)(C:bK):Option H6:=l9 (X6 C.1) λx=>l7 (H5 x) (some (2,0)) (l9 (gy A.1 0 B) λx=>l9 (zW x C.1) λx=>l7 x (some (7,0)) (l7 (C9 (A7 C.2) 0) (some (5,0)) (l7 (I5 16 (A7 C.2)) (some (4,116)) (l9 (V4 (λ(x:Int)=>l7 (I5 x (A7 C.2)) (l9 (P5 C.2 x) λb=>l9 (X6 b) λc=>l7 (H5 c) (some (.rt (2,G5 .i64 100 x))) (l9 (gy C.2 0 x) λd=>l9 (kK d b) λf=>l7 f (some (.rt (7,G5 .i64 100 x))) (some (.nx (G5 .i64 x 1))))) (some (.ex ()))) 0) λo=>Z8 o (λy=>some (0,0)) λr=>some r))))
def q53:FQ:=⟨[tD y27,P7,tD y0],⟨[(.tmp 6,P7),(.tmp 7,P7)],[]⟩,mE 55 [(55,s55),(56,s56),(93,s93)],sN 2 (dW (sN 1 (lM (lpR [(6,10),(36,55)] ⟨[(36,P7)],[]⟩ 1 sgN J9))) J9)⟩
def s53:FSpec:=bM q53 λx=>CU x.1 x.2.1 x.2.2
def AA(A:Z9):Option fP:=l7 (I5 8 (A7 A.1)) (some (4,1,8,0)) (l9 (V4 (λ(x:fP×Int)=>l7 (I5 x.2 (A7 A.1)) (l9 (P5 A.1 x.2) λc=>l9 (CU A x.2 c) λb=>l7 (H5 (C9 b.1 0)) (some (.rt (b.1,1,x.2,b.2))) (some (.nx (x.1,G5 .i64 x.2 1)))) (some (.ex x.1))) ((0,0,0,0),0)) λo=>Z8 o (λ(y:fP)=>some (0,0,0,0)) λr=>some r)
def q26:FQ:=⟨[tD y27],cR 2 78 (tD y46),mE 35 [(53,s53)],sN 2 (dW (sN 1 (lM (lpR [(2,7),(15,34),(4000128,4000129)] ⟨[(2,(false,(.box (dT y46)))),(15,P7)],[]⟩ 0 ⟨[(2,(false,(.box (dT y46))))],[]⟩ J9))) J9)⟩
def s26:FSpec:=bM q26 λx=>AA x
def dw(A:H6)(B:List bK):c6J:=l9 (l7 (C9 A.1 1) (some (C9 A.1 1)) (l7 (C9 A.1 2) (some (C9 A.1 2)) (l7 (C9 A.1 3) (some (C9 A.1 3)) (l7 (C9 A.1 4) (some (C9 A.1 4)) (some (C9 A.1 5)))))) λx=>l7 x (some (C9 A.2 0)) (l7 (C9 A.1 6) (l7 (U7 0 A.2) (some (I5 A.2 (A7 B))) (some false)) (some false))
def q94:FQ:=⟨[tD y2,uD y1],tR 4 fF,mE 28 [],sN 1 (dW (sN 1 (lM (dW (.join [(7,13)] ⟨[(7,fF)],[]⟩ J9) J9))) J9)⟩
def s94:FSpec:=bM q94 λx=>dw x.1 x.2
def jo(A:H6)(B:List bK):Option H6:=l9 (dw A B) λx=>l7 (H5 x) (some (0,-1)) (l7 (C9 A.1 1) (some (0,1)) (l7 (C9 A.1 2) (some (-1000000000000,1000000000000)) (l7 (C9 A.1 3) (some (-1000000000000000,1000000000000000)) (l7 (C9 A.1 4) (some (-1000000000,1000000000)) (l7 (C9 A.1 5) (some (0,109572)) (l9 (P5 B A.2) λx=>some (0,N9 .i64 (A7 x.2) 1)))))))
def q74:FQ:=⟨[tD y2,uD y1],⟨[(.tmp 4,P7),(.tmp 5,P7)],[]⟩,mE 30 [(94,s94)],J9⟩
def s74:FSpec:=bM q74 λx=>jo x.1 x.2
def su(A:H6):c6J:=l7 (U7 0 A.1) (l7 (U7 A.1 A.2) (some (U7 A.2 109573)) (some false)) (some false)
def q95:FQ:=⟨[tD y2],tR 2 fF,mE 18 [],J9⟩
def s95:FSpec:=bM q95 λx=>su x
def wW(A:H6):c6J:=l9 (su A) λx=>l7 x (some (I5 A.1 A.2)) (some false)
def b9O:FQ:=⟨[tD y2],tR 2 fF,mE 12 [(95,s95)],J9⟩
def c2Z:FSpec:=bM b9O λx=>wW x
def uq(A:H6)(B:H6):Option (H6×Bool):=l9 (wW A) λx=>l7 (H5 x) (some ((0,0),false)) (l9 (wW B) λx=>l7 (H5 x) (some ((0,0),false)) (l7 (U7 (Dj A.2 B.2) (wL A.1 B.1)) (some ((0,0),false)) (some ((wL A.1 B.1,Dj A.2 B.2),true))))
def b9e:FQ:=⟨[tD y2,tD y2],⟨[(.cell 4 72,tD y2),(.tmp 5,fF)],[]⟩,mE 34 [(196,c2Z)],J9⟩
def c2x:FSpec:=bM b9e λx=>uq x.1 x.2
def Bo(A:OM)(B:OM):c6J:=l9 (uq A.1 B.1) λx=>l7 x.2 (some (I5 (wL A.2.1 B.2.1) (Dj A.2.2.1 B.2.2.1))) (some false)
def q98:FQ:=⟨[tD y4,tD y4],tR 4 fF,mE 29 [(139,c2x)],J9⟩
def s98:FSpec:=bM q98 λx=>Bo x.1 x.2
def uQ(A:OM)(B:OM):c6J:=l9 (Bo A B) λx=>some x
def b3u:FQ:=⟨[tD y4,(false,(.rp y4))],tR 3 fF,mE 7 [(98,s98)],J9⟩
def a9G:FSpec:=bM b3u λx=>uQ x.1 x.2
def uw(A:List OM)(B:OM):Option (Int×Bool):=l9 (V4 (λ(x:Int)=>l7 (I5 x (A7 A)) (l9 (P5 A x) λb=>l9 (uQ b B) λc=>l7 c (some (.rt (x,true))) (some (.nx (G5 .i64 x 1)))) (some (.ex ()))) 0) λo=>Z8 o (λy=>some (0,false)) λr=>some r
def b3s:FQ:=⟨[uD y5,(false,(.fn 97 [y4]))],⟨[(.tmp 4,P7),(.tmp 5,fF)],[]⟩,mE 20 [(97,a9G)],sN 1 (dW (sN 1 (lM (lpR [(4,8),(10,20)] ⟨[(10,P7)],[]⟩ 0 sgN J9))) J9)⟩
def b3z:FSpec:=bM b3s λx=>uw x.1 x.2
def Bl(A:eP)(B:List bK):Option H6:=l7 (I5 64 (A7 A.2.2.2)) (some (64,4)) (l9 (l9 (dw A.2.1 B) λx=>l7 (H5 x) (some (.inr (-1,8))) (l9 (dw A.2.2.1 B) λx=>l7 (H5 x) (some (.inr (-1,8))) (some (.inl ())))) λo=>Z8 o (λx=>l9 (jo A.2.1 B) λx=>l9 (jo A.2.2.1 B) λd=>l9 (V4 (λ(b:Int)=>l7 (I5 b (A7 A.2.2.2)) (l9 (P5 A.2.2.2 b) λc=>l9 (l9 (su c.1) λx=>l7 (H5 x) (some (.inr (b,3))) (l7 (C9 c.1.1 c.1.2) (some (.inr (b,3))) (l7 (U7 c.2.2.1 c.2.1) (some (.inr (b,3))) (some (.inl ()))))) λo=>Z8 o (λf=>l9 (l7 (I5 c.2.1 x.1) (some (.inr (b,3))) (l7 (I5 x.2 c.2.1) (some (.inr (b,3))) (l7 (I5 (N9 .i64 c.2.2.1 1) x.1) (some (.inr (b,3))) (l7 (I5 x.2 (N9 .i64 c.2.2.1 1)) (some (.inr (b,3))) (some (.inl ())))))) λo=>Z8 o (λx=>l7 (I5 c.2.2.2 d.1) (some (.rt (b,3))) (l7 (I5 d.2 c.2.2.2) (some (.rt (b,3))) (l9 (gy A.2.2.2 0 b) λx=>l9 (uw x c) λx=>l7 x.2 (some (.rt (b,11))) (some (.nx (G5 .i64 b 1)))))) λr=>some (.rt r)) λr=>some (.rt r)) (some (.ex ()))) 0) λo=>Z8 o (λy=>some (0,0)) λr=>some r) λr=>some r)
def q54:FQ:=⟨[tD y8,uD y1],⟨[(.tmp 4,P7),(.tmp 5,P7)],[]⟩,mE 121 [(94,s94),(74,s74),(95,s95),(97,a9G),(96,b3z)],sN 2 (dW (jnR [(4,6),(18,30)] sgN J9) (sN 2 (dW (sN 1 (lM (lpR [(4,6),(10,14),(47,121)] ⟨[(47,P7)],[]⟩ 0 sgN (sN 2 (dW (lM (sN 1 (dW (jnR [(4,6),(52,73)] sgN J9) (dW (jnR [(4,6),(73,98)] sgN J9) J9)))) J9))))) J9)))⟩
def s54:FSpec:=bM q54 λx=>Bl x.1 x.2
def EQ(A:eP)(B:c6F):c6J:=some (seq A.1 B)
def a8t:FQ:=⟨[tD y8,(false,(.rp .str))],tR 3 fF,mE 8 [],J9⟩
def a2Q:FSpec:=bM a8t λx=>EQ x.1 x.2
def kE(A:List eP)(B:c6F):c6K:=l9 (V4 (λ(x:Int)=>l7 (I5 x (A7 A)) (l9 (P5 A x) λb=>l9 (EQ b B) λc=>l7 c (some (.rt x)) (some (.nx (G5 .i64 x 1)))) (some (.ex ()))) 0) λo=>Z8 o (λy=>some (-1)) λr=>some r
def a8A:FQ:=⟨[uD y9,(false,(.fn 105 [.str]))],tR 4 P7,mE 19 [(105,a2Q)],sN 1 (dW (sN 1 (lM (lpR [(4,6),(8,19)] ⟨[(8,P7)],[]⟩ 0 sgN J9))) J9)⟩
def a9r:FSpec:=bM a8A λx=>kE x.1 x.2
def jq(A:List eP)(B:c6F):c6J:=l9 (kE A B) λx=>some (U7 0 x)
def a8s:FQ:=⟨[uD y9,(false,(.fn 105 [.str]))],tR 4 fF,mE 9 [(142,a9r)],J9⟩
def a9k:FSpec:=bM a8s λx=>jq x.1 x.2
def AC(A:List eP)(B:c6F):c6J:=l9 (jq A B) λx=>some x
def q57:FQ:=⟨[uD y9,(uD .str)],tR 4 fF,mE 8 [(105,a2Q),(104,a9k)],J9⟩
def s57:FSpec:=bM q57 λx=>AC x.1 x.2
def zt(A:Z9):Option fP:=l7 (I5 8 (A7 A.2.1)) (some (4,2,8,0)) (l9 (V4 (λ(x:fP×Int)=>l7 (I5 x.2 (A7 A.2.1)) (l9 (P5 A.2.1 x.2) λc=>l9 (Bl c A.1) λb=>l9 (l9 (X6 c.1) λd=>l7 (H5 d) (some (2,2,x.2,0)) (l9 (zW A.1 c.1) λf=>l7 f (some (7,2,x.2,0)) (l9 (gy A.2.1 0 x.2) λg=>l9 (AC g c.1) λi=>l7 i (some (7,2,x.2,0)) (l7 (H5 (C9 b.2 0)) (l7 (H5 (C9 b.1 (-1))) (some (b.2,2,x.2,G5 .i64 100 b.1)) (some (b.2,2,x.2,0))) (some (0,2,x.2,0)))))) λd=>l7 (H5 (C9 d.1 0)) (some (.rt d)) (some (.nx (x.1,G5 .i64 x.2 1)))) (some (.ex x.1))) ((0,0,0,0),0)) λo=>Z8 o (λ(y:fP)=>some (0,0,0,0)) λr=>some r)
def q27:FQ:=⟨[tD y27],cR 2 78 (tD y46),mE 68 [(54,s54),(55,s55),(56,s56),(57,s57)],sN 2 (dW (sN 1 (lM (lpR [(2,8),(16,67),(4000128,4000129)] ⟨[(2,(false,(.box (dT y46)))),(16,P7)],[]⟩ 0 ⟨[(2,(false,(.box (dT y46))))],[]⟩ (sN 2 (dW (lM (sN 3 (dW (.join [(5,6),(30,62),(37000320,37000321)] ⟨[(5,(false,(.box (dT y46))))],[]⟩ J9) J9))) J9))))) J9)⟩
def s27:FSpec:=bM q27 λx=>zt x
def BV(A:au)(B:au):c6J:=some (seq A.1 B.1)
def a8v:FQ:=⟨[tD y24,(false,(.rp y24))],tR 3 fF,mE 9 [],J9⟩
def a2R:FSpec:=bM a8v λx=>BV x.1 x.2
def kD(A:List au)(B:au):c6K:=l9 (V4 (λ(x:Int)=>l7 (I5 x (A7 A)) (l9 (P5 A x) λb=>l9 (BV b B) λc=>l7 c (some (.rt x)) (some (.nx (G5 .i64 x 1)))) (some (.ex ()))) 0) λo=>Z8 o (λy=>some (-1)) λr=>some r
def a8B:FQ:=⟨[uD y25,(false,(.fn 107 [y24]))],tR 4 P7,mE 19 [(107,a2R)],sN 1 (dW (sN 1 (lM (lpR [(4,6),(8,19)] ⟨[(8,P7)],[]⟩ 0 sgN J9))) J9)⟩
def a9s:FSpec:=bM a8B λx=>kD x.1 x.2
def fO(A:List au)(B:au):c6J:=l9 (kD A B) λx=>some (U7 0 x)
def a8u:FQ:=⟨[uD y25,(false,(.fn 107 [y24]))],tR 4 fF,mE 9 [(143,a9s)],J9⟩
def a9l:FSpec:=bM a8u λx=>fO x.1 x.2
def BU(A:mW)(B:mW):c6J:=some (seq A.1 B.1)
def a8C:FQ:=⟨[tD y10,(false,(.rp y10))],tR 3 fF,mE 9 [],J9⟩
def a2T:FSpec:=bM a8C λx=>BU x.1 x.2
def kC(A:List mW)(B:mW):c6K:=l9 (V4 (λ(x:Int)=>l7 (I5 x (A7 A)) (l9 (P5 A x) λb=>l9 (BU b B) λc=>l7 c (some (.rt x)) (some (.nx (G5 .i64 x 1)))) (some (.ex ()))) 0) λo=>Z8 o (λy=>some (-1)) λr=>some r
def a8K:FQ:=⟨[uD y11,(false,(.fn 144 [y10]))],tR 4 P7,mE 19 [(144,a2T)],sN 1 (dW (sN 1 (lM (lpR [(4,6),(8,19)] ⟨[(8,P7)],[]⟩ 0 sgN J9))) J9)⟩
def a9A:FSpec:=bM a8K λx=>kC x.1 x.2
def dI(A:List mW)(B:mW):c6J:=l9 (kC A B) λx=>some (U7 0 x)
def a8D:FQ:=⟨[uD y11,(false,(.fn 144 [y10]))],tR 4 fF,mE 9 [(197,a9A)],J9⟩
def a9t:FSpec:=bM a8D λx=>dI x.1 x.2
def xG(A:Z9)(B:mW)(C:List mW)(D:List mW):c6K:=l9 (X6 B.1) λx=>l7 (H5 x) (some 2) (l9 (dI C B) λx=>l7 x (some 7) (l9 (dI D B) λx=>l7 x (some 7) (l9 (dw B.2 A.1) λx=>l7 (H5 x) (some 8) (some 0))))
def b8H:FQ:=⟨[tD y27,tD y10,uD y11,uD y11],tR 8 P7,mE 32 [(144,a2T),(55,s55),(145,a9t),(94,s94)],J9⟩
def c2h:FSpec:=bM b8H λx=>xG x.1 x.2.1 x.2.2.1 x.2.2.2
def uI(A:List mW):Option (List H6):=l9 (fA (λ(x:List H6×Int)=>l7 (I5 x.2 (A7 A)) (l9 (P5 A x.2) λb=>l9 (eG x.1 [b.2]) λc=>some (.inl (c,G5 .i64 x.2 1))) (some (.inr x.1))) ([],0)) λy=>some y
def b9g:FQ:=⟨[uD y11],tR 2 (uO y2),mE 19 [],sN 2 (dW (sN 1 (lM (.loop [(3,4),(5,6),(8,18)] ⟨[(3,(uO y2)),(8,P7)],[]⟩ 0 ⟨[(3,(uO y2))],[]⟩ J9))) J9)⟩
def c2y:FSpec:=bM b9g λx=>uI x
def ut(A:Z9)(B:Int):Option Y0:=l9 (P5 A.2.2 B) λx=>l9 (uI x.2.2.1) λb=>l9 (uI x.2.2.2.1) λc=>l7 (U7 0 x.2.1) (l7 (I5 x.2.1 (A7 A.2.2)) (l9 (P5 A.2.2 x.2.1) λx=>l9 (uI x.2.2.2.1) λx=>some (A.1,A.2.1,b,c,x,true)) (some (A.1,A.2.1,b,c,[],false))) (some (A.1,A.2.1,b,c,[],false))
def b8I:FQ:=⟨[tD y27,P7],cR 4 200 (tD y69),mE 45 [(146,c2y)],J9⟩
def c2i:FSpec:=bM b8I λx=>ut x.1 x.2
def Dz(A:kF)(B:kF):c6J:=some (seq A.1 B.1)
def a8F:FQ:=⟨[tD y19,(false,(.rp y19))],tR 3 fF,mE 9 [],J9⟩
def a2U:FSpec:=bM a8F λx=>Dz x.1 x.2
def lh(A:List kF)(B:kF):c6K:=l9 (V4 (λ(x:Int)=>l7 (I5 x (A7 A)) (l9 (P5 A x) λb=>l9 (Dz b B) λc=>l7 c (some (.rt x)) (some (.nx (G5 .i64 x 1)))) (some (.ex ()))) 0) λo=>Z8 o (λy=>some (-1)) λr=>some r
def a8L:FQ:=⟨[uD y20,(false,(.fn 148 [y19]))],tR 4 P7,mE 19 [(148,a2U)],sN 1 (dW (sN 1 (lM (lpR [(4,6),(8,19)] ⟨[(8,P7)],[]⟩ 0 sgN J9))) J9)⟩
def a9B:FSpec:=bM a8L λx=>lh x.1 x.2
def gU(A:List kF)(B:kF):c6J:=l9 (lh A B) λx=>some (U7 0 x)
def a8E:FQ:=⟨[uD y20,(false,(.fn 148 [y19]))],tR 4 fF,mE 9 [(198,a9B)],J9⟩
def a9u:FSpec:=bM a8E λx=>gU x.1 x.2
def b8o:List MG:=[(false,(.dat .str)),(false,(.dat .str))]
def c3a:FSpec:=⟨b8o,[fF],[],λx=>yO x.1 x.2⟩
def zu(A:c6F):c6J:=l7 (I5 64 (A7 A)) (some false) (l9 (yO A [34]) λx=>l7 x (some false) (l9 (V4 (λ(x:Int)=>l7 (I5 x (A7 A)) (l9 (sat A x) λb=>l7 (I5 b 32) (some (.rt false)) (l9 (sat A x) λc=>l7 (I5 126 c) (some (.rt false)) (some (.nx (G5 .i64 x 1))))) (some (.ex ()))) 0) λo=>Z8 o (λy=>some true) λr=>some r))
def b9h:FQ:=⟨[uD .str],tR 2 fF,mE 27 [(199,c3a)],sN 2 (dW (sN 1 (lM (lpR [(2,4),(13,27)] ⟨[(13,P7)],[]⟩ 0 sgN J9))) J9)⟩
def c2z:FSpec:=bM b9h λx=>zu x
def jB(A:Int):c6K:=l9 (l7 (C9 A 1) (some (C9 A 1)) (l7 (C9 A 2) (some (C9 A 2)) (l7 (C9 A 3) (some (C9 A 3)) (l7 (C9 A 4) (some (C9 A 4)) (l7 (C9 A 5) (some (C9 A 5)) (l7 (C9 A 6) (some (C9 A 6)) (l7 (C9 A 7) (some (C9 A 7)) (l7 (C9 A 8) (some (C9 A 8)) (l7 (C9 A 9) (some (C9 A 9)) (l7 (C9 A 35) (some (C9 A 35)) (l7 (C9 A 36) (some (C9 A 36)) (l7 (C9 A 37) (some (C9 A 37)) (l7 (C9 A 38) (some (C9 A 38)) (some (C9 A 39))))))))))))))) λx=>l7 x (some 0) (l9 (l7 (C9 A 10) (some (C9 A 10)) (l7 (C9 A 25) (some (C9 A 25)) (l7 (C9 A 31) (some (C9 A 31)) (l7 (C9 A 32) (some (C9 A 32)) (l7 (C9 A 33) (some (C9 A 33)) (some (C9 A 34))))))) λx=>l7 x (some 1) (l9 (l7 (C9 A 11) (some (C9 A 11)) (l7 (C9 A 12) (some (C9 A 12)) (l7 (C9 A 13) (some (C9 A 13)) (l7 (C9 A 14) (some (C9 A 14)) (l7 (C9 A 15) (some (C9 A 15)) (l7 (C9 A 16) (some (C9 A 16)) (l7 (C9 A 17) (some (C9 A 17)) (l7 (C9 A 18) (some (C9 A 18)) (l7 (C9 A 19) (some (C9 A 19)) (l7 (C9 A 20) (some (C9 A 20)) (l7 (C9 A 21) (some (C9 A 21)) (l7 (C9 A 22) (some (C9 A 22)) (l7 (C9 A 23) (some (C9 A 23)) (l7 (C9 A 24) (some (C9 A 24)) (l7 (C9 A 27) (some (C9 A 27)) (l7 (C9 A 28) (some (C9 A 28)) (l7 (C9 A 29) (some (C9 A 29)) (some (C9 A 30))))))))))))))))))) λx=>l7 x (some 2) (l7 (C9 A 26) (some 3) (some (-1)))))
def b8U:FQ:=⟨[P7],tR 2 P7,mE 47 [],sN 1 (dW (sN 1 (lM (dW (.join [(4,19)] ⟨[(4,fF)],[]⟩ J9) (.cond J9 (dW (.join [(19,26)] ⟨[(19,fF)],[]⟩ J9) (.cond J9 (dW (.join [(26,45)] ⟨[(26,fF)],[]⟩ J9) J9))))))) J9)⟩
def a2S:FSpec:=bM b8U λx=>jB x
def xy(A:List H6):Option (c6G×H6):=l7 (I5 48 (A7 A)) (some ([],0,4)) (l7 (C9 (A7 A) 0) (some ([],0,5)) (l9 (BD (A7 A) 0) λx=>l9 (V4 (λ(x:c6G×c6G×Int)=>l7 (I5 x.2.2 (A7 A)) (l9 (P5 A x.2.2) λg=>l9 (jB g.1) λb=>l7 (I5 b 0) (some (.rt ([],x.2.2,2))) (l7 (I5 (A7 x.2.1) b) (some (.rt ([],x.2.2,5))) (l9 (P5 x.1 x.2.2) λk=>l9 (aN x.1 (Z7 x.2.2)) λn=>l7 (I5 0 b) (l9 (P5 x.2.1 (N9 .i64 (A7 x.2.1) b)) λj=>l9 (aN x.2.1 (Z7 (N9 .i64 (A7 x.2.1) b))) λc=>l9 (P5 (fD x.1 (Z7 x.2.2) x.2.2) x.2.2) λd=>l9 (aN (fD x.1 (Z7 x.2.2) x.2.2) (Z7 x.2.2)) λp=>l7 (mi 0 (N9 .i64 (A7 x.2.1) b) (A7 x.2.1)) (l9 (P5 (fD (fD x.1 (Z7 x.2.2) x.2.2) (Z7 x.2.2) c) x.2.2) λq=>l9 (aN (fD (fD x.1 (Z7 x.2.2) x.2.2) (Z7 x.2.2) c) (Z7 x.2.2)) λi=>l9 (eG (kH x.2.1 (Z7 0) (Z7 (N9 .i64 (A7 x.2.1) b))) [i]) λf=>l7 (I5 12 (A7 f)) (some (.rt ([],x.2.2,16))) (some (.nx (fD (fD x.1 (Z7 x.2.2) x.2.2) (Z7 x.2.2) c,f,G5 .i64 x.2.2 1)))) none) (l7 (mi 0 (N9 .i64 (A7 x.2.1) b) (A7 x.2.1)) (l9 (P5 (fD x.1 (Z7 x.2.2) x.2.2) x.2.2) λj=>l9 (aN (fD x.1 (Z7 x.2.2) x.2.2) (Z7 x.2.2)) λc=>l9 (eG (kH x.2.1 (Z7 0) (Z7 (N9 .i64 (A7 x.2.1) b))) [c]) λd=>l7 (I5 12 (A7 d)) (some (.rt ([],x.2.2,16))) (some (.nx (fD x.1 (Z7 x.2.2) x.2.2,d,G5 .i64 x.2.2 1)))) none)))) (some (.ex (x.1,x.2.1)))) (x,[],0)) λo=>Z8 o (λ(y:c6G×c6G)=>l7 (I5 1 (A7 y.2)) (some ([],A7 A,4)) (some (y.1,0,0))) λr=>some r))
def b9t:FQ:=⟨[uD y12],⟨[(.tmp 2,uoM),(.tmp 3,P7),(.tmp 4,P7)],[]⟩,mE 76 [(125,a2S)],sN 5 (dW (sN 1 (lM (lpR [(2,10),(21,70),(27001152,27001153)] ⟨[(5,uoM),(6,uoM),(21,P7)],[]⟩ 0 ⟨[(5,uoM),(6,uoM)],[]⟩ J9))) J9)⟩
def b4T:FSpec:=bM b9t λx=>xy x
def bI(A:Int):c6J:=l7 (C9 A 1) (l7 (C9 A 1) (some true) (some false)) (l7 (C9 A 2) (l7 (C9 A 2) (some true) (some false)) (l7 (C9 A 3) (l7 (C9 A 3) (some true) (some false)) (l7 (C9 A 4) (l7 (C9 A 4) (some true) (some false)) (l7 (C9 A 5) (l7 (C9 A 5) (some true) (some false)) (l7 (C9 A 6) (l7 (C9 A 6) (some true) (some false)) (l7 (C9 A 7) (l7 (C9 A 7) (some true) (some false)) (l7 (C9 A 8) (l7 (C9 A 8) (some true) (some false)) (l7 (C9 A 14) (l7 (C9 A 14) (some true) (some false)) (l7 (C9 A 15) (l7 (C9 A 15) (some true) (some false)) (l7 (C9 A 16) (l7 (C9 A 16) (some true) (some false)) (l7 (C9 A 33) (l7 (C9 A 33) (some true) (some false)) (l7 (C9 A 34) (l7 (C9 A 34) (some true) (some false)) (l7 (C9 A 36) (l7 (C9 A 36) (some true) (some false)) (l7 (C9 A 37) (l7 (C9 A 37) (some true) (some false)) (l7 (C9 A 38) (l7 (C9 A 38) (some true) (some false)) (l7 (C9 A 39) (some true) (some false)))))))))))))))))
def b8T:FQ:=⟨[P7],tR 2 fF,mE 22 [],J9⟩
def b2D:FSpec:=bM b8T λx=>bI x
def lq(A:Int)(B:Int)(C:Y0):Option (H6×Int):=l9 (jo (B,0) C.1) λx=>l7 (I5 A x.1) (some ((0,0),3)) (l7 (I5 x.2 A) (some ((0,0),3)) (some ((B,0),0)))
def c0G:FQ:=⟨[P7,P7,tD y69],⟨[(.cell 6 40,tD y2),(.tmp 7,P7)],[]⟩,mE 30 [(74,s74)],J9⟩
def c3H:FSpec:=bM c0G λx=>lq x.1 x.2.1 x.2.2
def CS(A:Int)(B:Y0):Option (H6×Int):=l7 (I5 A 0) (some ((0,0),3)) (l7 (U7 (A7 B.1) (aO .i64 A 16)) (some ((0,0),6)) (l9 (P5 B.1 (aO .i64 A 16)) λx=>l7 (U7 (A7 x.2) (fE A 16)) (some ((0,0),6)) (some ((6,aO .i64 A 16),0))))
def c0H:FQ:=⟨[P7,tD y69],⟨[(.cell 4 40,tD y2),(.tmp 5,P7)],[]⟩,mE 34 [],J9⟩
def c3I:FSpec:=bM c0H λx=>CS x.1 x.2
def kV(A:Int)(B:List H6)(C:Y0):Option (H6×Int):=l7 (I5 A 0) (some ((0,0),6)) (l7 (U7 (A7 B) A) (some ((0,0),6)) (l9 (P5 B A) λx=>l9 (dw x C.1) λx=>l7 (H5 x) (some ((0,0),8)) (l9 (P5 B A) λx=>some (x,0))))
def c0I:FQ:=⟨[P7,uD y12,tD y69],⟨[(.cell 6 40,tD y2),(.tmp 7,P7)],[]⟩,mE 30 [(94,s94)],J9⟩
def b5e:FSpec:=bM c0I λx=>kV x.1 x.2.1 x.2.2
def oG(A:Int):c6J:=l7 (U7 0 A) (some (U7 A 5)) (some false)
def c0L:FQ:=⟨[P7],tR 2 fF,mE 9 [],J9⟩
def b5f:FSpec:=bM c0L λx=>oG x
def uA(A:H6)(B:H6)(C:Y0):Option (H6×Int):=l9 (l7 (C9 A.1 34) (l7 (I5 A.2 0) (some (.inr ((0,0),3))) (l9 (oG (fE A.2 8)) λx=>l7 (H5 x) (some (.inr ((0,0),3))) (some (.inl ((0,0),aO .i64 A.2 8))))) (some (.inl ((0,0),A.2)))) λo=>Z8 o (λ(x:H6×Int)=>l9 (l7 (I5 x.2 0) (some (.inr ((0,0),6))) (l7 (U7 (A7 C.2.1) x.2) (some (.inr ((0,0),6))) (some (.inl x.1)))) λo=>Z8 o (λ(d:H6)=>l9 (P5 C.2.1 x.2) λb=>l9 (P5 C.2.1 x.2) λx=>l9 (l9 (dw b.2.1 C.1) λc=>l7 (H5 c) (some (.inr ((0,0),8))) (l9 (dw x.2.2.1 C.1) λx=>l7 (H5 x) (some (.inr ((0,0),8))) (l7 (H5 (iV (C9 B.1 b.2.1.1) (C9 B.2 b.2.1.2))) (some (.inr ((0,0),8))) (some (.inl d))))) λo=>Z8 o (λ(c:H6)=>l7 (C9 A.1 34) (l7 (H5 (C9 b.2.1.1 3)) (some ((0,0),8)) (l7 (H5 (C9 x.2.2.1.1 4)) (some ((0,0),8)) (some (b.2.1,0)))) (some (x.2.2.1,0))) λr=>some r) λr=>some r) λr=>some r
def c0J:FQ:=⟨[tD y2,tD y2,tD y69],⟨[(.cell 6 40,tD y2),(.tmp 7,P7)],[]⟩,mE 84 [(265,b5f),(94,s94)],sN 2 (dW (jnR [(6,9),(13,30),(4000384,4000385)] ⟨[(6,(false,(.box (dT y2)))),(8,P7)],[]⟩ J9) (dW (jnR [(6,8),(30,40),(9000000,9000001)] ⟨[(6,(false,(.box (dT y2))))],[]⟩ J9) (sN 1 (dW (jnR [(6,8),(52,70),(27000000,27000001)] ⟨[(6,(false,(.box (dT y2))))],[]⟩ J9) J9))))⟩
def c3J:FSpec:=bM c0J λx=>uA x.1 x.2.1 x.2.2
def nY(A:Int):c6J:=l7 (C9 A 2) (some true) (l7 (C9 A 3) (some true) (some (C9 A 4)))
def c1b:FQ:=⟨[P7],tR 2 fF,mE 13 [],J9⟩
def b5j:FSpec:=bM c1b λx=>nY x
def sD(A:H6)(B:Y0):Option (H6×Int):=l7 (H5 B.2.2.2.2.2) (some ((0,0),6)) (l7 (C9 A.1 35) (some ((2,0),0)) (l9 (kV A.2 B.2.2.2.2.1 B) λx=>l7 (H5 (C9 x.2 0)) (some ((0,0),x.2)) (l9 (l7 (C9 A.1 36) (l7 (C9 x.1.1 2) (some true) (some (C9 x.1.1 3))) (l7 (C9 A.1 37) (l7 (C9 A.1 37) (some (C9 x.1.1 1)) (l7 (C9 A.1 39) (l9 (nY x.1.1) λb=>l7 b (some true) (some (C9 x.1.1 5))) (some false))) (l7 (C9 A.1 38) (some (C9 x.1.1 1)) (l7 (C9 A.1 39) (l9 (nY x.1.1) λb=>l7 b (some true) (some (C9 x.1.1 5))) (some false))))) λb=>l7 (H5 b) (some ((0,0),8)) (some (x.1,0)))))
def c0K:FQ:=⟨[tD y2,tD y69],⟨[(.cell 4 40,tD y2),(.tmp 5,P7)],[]⟩,mE 62 [(262,b5e),(297,b5j)],sN 6 (dW (.join [(8,9),(30,58)] ⟨[(8,fF)],[]⟩ J9) J9)⟩
def c3K:FSpec:=bM c0K λx=>sD x.1 x.2
def Ie(A:Int)(B:Int)(C:Int):Option (H6×Bool):=l7 (C9 A 14) (l7 (C9 C 4) (l7 (C9 B 3) (some ((B,0),true)) (some ((B,0),C9 B 4))) (some ((B,0),false))) (l7 (C9 C 2) (l7 (C9 B 2) (some ((B,0),true)) (some ((B,0),C9 B 3))) (l7 (C9 A 15) (l7 (C9 B 3) (l7 (C9 C 3) (some ((4,0),true)) (some ((0,0),false))) (some ((0,0),false))) (some ((0,0),false))))
def c1c:FQ:=⟨[P7,P7,P7],⟨[(.cell 6 40,tD y2),(.tmp 7,fF)],[]⟩,mE 47 [],J9⟩
def c3X:FSpec:=bM c1c λx=>Ie x.1 x.2.1 x.2.2
def pY(A:Int)(B:List H6):Option (H6×Bool):=l9 (l7 (C9 A 10) (l9 (P5 B 0) λx=>l9 (P5 B 0) λb=>l9 (nY b.1) λc=>some (.inr (x,c))) (l7 (C9 A 25) (l9 (P5 B 0) λx=>some (.inr ((1,0),C9 x.1 1))) (l9 (l7 (C9 A 11) (some (C9 A 11)) (some (C9 A 12))) λx=>l7 x (l9 (P5 B 0) λx=>l9 (P5 B 0) λb=>l9 (P5 B 1) λc=>l7 (iV (C9 b.1 c.1) (C9 b.2 c.2)) (l9 (P5 B 0) λd=>l9 (nY d.1) λf=>some (.inr (x,f))) (some (.inr (x,false)))) (l9 (l7 (C9 A 13) (some (C9 A 13)) (l7 (C9 A 14) (some (C9 A 14)) (some (C9 A 15)))) λx=>l7 x (l9 (P5 B 0) λx=>l9 (P5 B 1) λb=>l9 (Ie A x.1 b.1) λx=>some (.inr x)) (l7 (C9 A 16) (l9 (P5 B 0) λx=>l9 (P5 B 0) λb=>l7 (C9 b.1 3) (l9 (P5 B 1) λc=>some (.inr (x,C9 c.1 3))) (some (.inr (x,false)))) (l9 (l7 (C9 A 17) (some (C9 A 17)) (some (C9 A 18))) λx=>l7 x (l9 (P5 B 0) λx=>l9 (P5 B 0) λb=>l9 (P5 B 1) λc=>l7 (iV (C9 b.1 c.1) (C9 b.2 c.2)) (l9 (P5 B 0) λd=>l9 (nY d.1) λf=>l7 f (some (.inr (x,true))) (l9 (P5 B 0) λg=>some (.inr (x,C9 g.1 5)))) (some (.inr (x,false)))) (l9 (l7 (C9 A 19) (some (C9 A 19)) (some (C9 A 20))) λx=>l7 x (l9 (P5 B 0) λx=>l9 (P5 B 1) λb=>some (.inr ((1,0),iV (C9 x.1 b.1) (C9 x.2 b.2)))) (l9 (l7 (C9 A 21) (some (C9 A 21)) (some (C9 A 22))) λx=>l7 x (l9 (P5 B 0) λx=>l9 (P5 B 1) λb=>l7 (iV (C9 x.1 b.1) (C9 x.2 b.2)) (l9 (P5 B 0) λx=>l9 (nY x.1) λx=>l7 x (some (.inr ((1,0),true))) (l9 (P5 B 0) λx=>some (.inr ((1,0),C9 x.1 5)))) (some (.inr ((1,0),false)))) (l9 (l7 (C9 A 23) (some (C9 A 23)) (some (C9 A 24))) λx=>l7 x (l9 (P5 B 0) λx=>l7 (C9 x.1 1) (l9 (P5 B 1) λx=>some (.inr ((1,0),C9 x.1 1))) (some (.inr ((1,0),false)))) (l7 (C9 A 26) (l9 (P5 B 1) λx=>l9 (P5 B 0) λb=>l7 (C9 b.1 1) (l9 (P5 B 1) λc=>l9 (P5 B 2) λd=>some (.inr (x,iV (C9 c.1 d.1) (C9 c.2 d.2)))) (some (.inr (x,false)))) (l9 (l7 (C9 A 27) (some (C9 A 27)) (some (C9 A 28))) λx=>l7 x (l9 (P5 B 0) λx=>l9 (P5 B 0) λb=>l7 (C9 b.1 5) (l9 (P5 B 1) λc=>some (.inr (x,C9 c.1 2))) (some (.inr (x,false)))) (l7 (C9 A 29) (l7 (C9 A 29) (l9 (P5 B 0) λx=>l7 (C9 x.1 5) (l9 (P5 B 1) λx=>some (.inr ((2,0),C9 x.1 5))) (some (.inr ((2,0),false)))) (l7 (C9 A 31) (l7 (C9 A 31) (l9 (P5 B 0) λx=>some (.inr ((2,0),C9 x.1 5))) (some (.inl (0,0)))) (l7 (C9 A 32) (l9 (P5 B 0) λx=>some (.inr ((2,0),C9 x.1 5))) (some (.inl (0,0)))))) (l7 (C9 A 30) (l9 (P5 B 0) λx=>l7 (C9 x.1 5) (l9 (P5 B 1) λx=>some (.inr ((2,0),C9 x.1 5))) (some (.inr ((2,0),false)))) (l7 (C9 A 31) (l7 (C9 A 31) (l9 (P5 B 0) λx=>some (.inr ((2,0),C9 x.1 5))) (some (.inl (0,0)))) (l7 (C9 A 32) (l9 (P5 B 0) λx=>some (.inr ((2,0),C9 x.1 5))) (some (.inl (0,0)))))))))))))))))) λo=>Z8 o (λ(x:H6)=>some ((0,0),false)) λr=>some r
def c0M:FQ:=⟨[P7,uD y12],⟨[(.cell 4 40,tD y2),(.tmp 5,fF)],[]⟩,mE 222 [(297,b5j),(298,c3X)],sN 2 (dW (jnR [(4,6),(8,221),(4000256,4000257)] ⟨[(4,(false,(.box (dT y2))))],[]⟩ (sN 1 (lM (sN 1 (.cond J9 (sN 1 (.cond J9 (dW (.join [(27,30)] ⟨[(27,fF)],[]⟩ J9) (.cond J9 (dW (.join [(47,51)] ⟨[(47,fF)],[]⟩ J9) (.cond J9 (sN 1 (.cond J9 (dW (.join [(80,83)] ⟨[(80,fF)],[]⟩ J9) (.cond J9 (dW (.join [(107,110)] ⟨[(107,fF)],[]⟩ J9) (.cond J9 (dW (.join [(118,121)] ⟨[(118,fF)],[]⟩ J9) (.cond J9 (dW (.join [(143,146)] ⟨[(143,fF)],[]⟩ J9) (.cond J9 (sN 1 (.cond J9 (dW (.join [(178,181)] ⟨[(178,fF)],[]⟩ J9) J9)))))))))))))))))))))))) J9)⟩
def c3M:FSpec:=bM c0M λx=>pY x.1 x.2
def dB(A:H6)(B:List H6)(C:Y0):Option (H6×Int):=l9 (l7 (C9 A.1 1) (l9 (lq A.2 1 C) λx=>some (.inr x)) (l7 (C9 A.1 2) (l9 (lq A.2 2 C) λx=>some (.inr x)) (l7 (C9 A.1 3) (l9 (lq A.2 3 C) λx=>some (.inr x)) (l7 (C9 A.1 4) (l9 (lq A.2 4 C) λx=>some (.inr x)) (l7 (C9 A.1 5) (l9 (lq A.2 5 C) λx=>some (.inr x)) (l7 (C9 A.1 6) (l9 (CS A.2 C) λx=>some (.inr x)) (l7 (C9 A.1 7) (l9 (kV A.2 C.2.2.1 C) λx=>some (.inr x)) (l7 (C9 A.1 8) (l9 (kV A.2 C.2.2.2.1 C) λx=>some (.inr x)) (l7 (C9 A.1 9) (some (.inr ((5,0),0))) (l9 (l7 (C9 A.1 33) (some (C9 A.1 33)) (some (C9 A.1 34))) λx=>l7 x (l9 (P5 B 0) λx=>l9 (uA A x C) λx=>some (.inr x)) (l9 (l7 (C9 A.1 35) (some (C9 A.1 35)) (l7 (C9 A.1 36) (some (C9 A.1 36)) (l7 (C9 A.1 37) (some (C9 A.1 37)) (l7 (C9 A.1 38) (some (C9 A.1 38)) (some (C9 A.1 39)))))) λx=>l7 x (l9 (sD A C) λx=>some (.inr x)) (l7 (C9 A.1 14) (l7 (C9 A.1 14) (l9 (oG A.2) λx=>l7 (H5 x) (some (.inr ((0,0),3))) (some (.inl (0,0)))) (some (.inl (0,0)))) (l7 (C9 A.1 15) (l7 (C9 A.1 15) (l9 (oG A.2) λx=>l7 (H5 x) (some (.inr ((0,0),3))) (some (.inl (0,0)))) (some (.inl (0,0)))) (l7 (C9 A.1 16) (l9 (oG A.2) λx=>l7 (H5 x) (some (.inr ((0,0),3))) (some (.inl (0,0)))) (some (.inl (0,0))))))))))))))))) λo=>Z8 o (λ(x:H6)=>l9 (pY A.1 B) λx=>l7 (H5 x.2) (some ((0,0),8)) (some (x.1,0))) λr=>some r
def c0k:FQ:=⟨[tD y2,uD y12,tD y69],⟨[(.cell 6 40,tD y2),(.tmp 7,P7)],[]⟩,mE 125 [(260,c3H),(261,c3I),(262,b5e),(263,c3J),(264,c3K),(265,b5f),(266,c3M)],sN 1 (dW (jnR [(6,8),(10,114),(4000384,4000385)] ⟨[(6,(false,(.box (dT y2))))],[]⟩ (sN 1 (lM (sN 1 (.cond J9 (sN 1 (.cond J9 (sN 1 (.cond J9 (sN 1 (.cond J9 (sN 1 (.cond J9 (sN 1 (.cond J9 (sN 1 (.cond J9 (sN 1 (.cond J9 (sN 1 (.cond J9 (dW (.join [(83,86)] ⟨[(83,fF)],[]⟩ J9) (.cond J9 (dW (.join [(94,100)] ⟨[(94,fF)],[]⟩ J9) J9)))))))))))))))))))))))) J9)⟩
def c3p:FSpec:=bM c0k λx=>dB x.1 x.2.1 x.2.2
def FW(A:List H6)(B:Y0):Option (H6×H6):=l9 (xy A) λx=>l7 (H5 (C9 x.2.2 0)) (some ((0,0),x.2)) (l9 (V4 (λ(x:H6×List H6×Int)=>l7 (I5 x.2.2 (A7 A)) (l9 (P5 A x.2.2) λc=>l7 (H5 (C9 c.2 0)) (l9 (bI c.1) λd=>l7 (H5 d) (some (.rt ((0,0),x.2.2,2))) (l9 (jB c.1) λb=>l7 (mi (N9 .i64 (A7 x.2.1) b) (A7 x.2.1) (A7 x.2.1)) (l9 (dB c (kH x.2.1 (Z7 (N9 .i64 (A7 x.2.1) b)) (Z7 (A7 x.2.1))) B) λf=>l7 (H5 (C9 f.2 0)) (some (.rt ((0,0),x.2.2,f.2))) (l7 (mi 0 (N9 .i64 (A7 x.2.1) b) (A7 x.2.1)) (l9 (eG (kH x.2.1 (Z7 0) (Z7 (N9 .i64 (A7 x.2.1) b))) [f.1]) λg=>some (.nx (x.1,g,G5 .i64 x.2.2 1))) none)) none)) (l9 (jB c.1) λd=>l7 (mi (N9 .i64 (A7 x.2.1) d) (A7 x.2.1) (A7 x.2.1)) (l9 (dB c (kH x.2.1 (Z7 (N9 .i64 (A7 x.2.1) d)) (Z7 (A7 x.2.1))) B) λb=>l7 (H5 (C9 b.2 0)) (some (.rt ((0,0),x.2.2,b.2))) (l7 (mi 0 (N9 .i64 (A7 x.2.1) d) (A7 x.2.1)) (l9 (eG (kH x.2.1 (Z7 0) (Z7 (N9 .i64 (A7 x.2.1) d))) [b.1]) λf=>some (.nx (x.1,f,G5 .i64 x.2.2 1))) none)) none)) (some (.ex (x.1,x.2.1)))) ((0,0),[],0)) λo=>Z8 o (λ(y:H6×List H6)=>l9 (P5 y.2 0) λx=>l9 (aN y.2 (Z7 0)) λx=>some (x,0,0)) λr=>some r)
def b9P:FQ:=⟨[uD y12,tD y69],⟨[(.cell 4 40,tD y2),(.tmp 5,P7),(.tmp 6,P7)],[]⟩,mE 75 [(168,b4T),(124,b2D),(125,a2S),(231,c3p)],sN 4 (dW (sN 1 (lM (lpR [(4,7),(10,16),(29,72),(4000256,4000257)] ⟨[(4,(false,(.box (dT y2)))),(10,(uO y2)),(29,P7)],[]⟩ 0 ⟨[(4,(false,(.box (dT y2)))),(10,(uO y2))],[]⟩ J9))) J9)⟩
def c3b:FSpec:=bM b9P λx=>FW x.1 x.2
def wG(A:List H6)(B:Y0)(C:H6):c6K:=l9 (FW A B) λx=>l7 (H5 (C9 x.2.2 0)) (some x.2.2) (l7 (H5 (iV (C9 x.1.1 C.1) (C9 x.1.2 C.2))) (some 8) (some 0))
def b9i:FQ:=⟨[uD y12,tD y69,tD y2],tR 6 P7,mE 23 [(200,c3b)],J9⟩
def c2A:FSpec:=bM b9i λx=>wG x.1 x.2.1 x.2.2
def CV(A:au)(B:Int)(C:Y0):c6K:=l9 (P5 A.2.2.2.2 B) λx=>l9 (gy A.2.2.2.2 0 B) λf=>l9 (fA (λ(b:H6)=>l7 (I5 b.2 (A7 f)) (l9 (P5 f b.2) λc=>l7 (C9 c.2.1 x.2.1) (some (.inl (G5 .i64 b.1 1,G5 .i64 b.2 1))) (some (.inl (b.1,G5 .i64 b.2 1)))) (some (.inr b.1))) (0,0)) λy=>l9 (l9 (X6 x.1) λb=>l7 (H5 b) (some (.inr 2)) (l9 (gy A.2.2.2.2 0 B) λc=>l9 (gU c x) λg=>l7 g (some (.inr 7)) (l9 (l7 (I5 x.2.1 0) (some true) (some (U7 (A7 A.2.2.2.1) x.2.1))) λi=>l7 i (some (.inr 6)) (l9 (l7 (H5 (C9 x.2.2.1 (-1))) (l7 (I5 x.2.2.1 0) (some true) (l7 (U7 B x.2.2.1) (some true) (l9 (P5 A.2.2.2.2 x.2.2.1) λd=>some (H5 (C9 d.2.1 x.2.1))))) (some false)) λd=>l7 d (some (.inr 9)) (l9 (l7 (I5 x.2.2.2.1 0) (some true) (some (I5 9 x.2.2.2.1))) λj=>l7 j (some (.inr 3)) (l7 (I5 x.2.2.2.2.1.1 0) (some (.inr 3)) (l7 (U7 x.2.2.2.2.1.2 x.2.2.2.2.1.1) (some (.inr 3)) (l7 (I5 109573 x.2.2.2.2.1.2) (some (.inr 3)) (l7 (U7 8 y) (some (.inr 4)) (l9 (zu x.2.2.2.2.2.2.2) λk=>l7 (H5 k) (some (.inr 2)) (some (.inl x)))))))))))) λo=>Z8 o (λ(x:kF)=>l7 (I5 0 (A7 x.2.2.2.2.2.1)) (l9 (wG x.2.2.2.2.2.1 C (1,0)) λb=>l7 (H5 (C9 b 0)) (some b) (l9 (P5 A.2.2.2.1 x.2.1) λc=>l9 (wG x.2.2.2.2.2.2.1 C c.2) λx=>some x)) (l9 (P5 A.2.2.2.1 x.2.1) λb=>l9 (wG x.2.2.2.2.2.2.1 C b.2) λx=>some x)) λr=>some r
def b8J:FQ:=⟨[tD y24,P7,tD y69],tR 6 P7,mE 145 [(55,s55),(148,a2U),(147,a9u),(149,c2z),(150,c2A)],sN 3 (dW (sN 1 (lM (.loop [(8,9),(10,11),(22,34)] ⟨[(8,P7),(22,P7)],[]⟩ 0 ⟨[(8,P7)],[]⟩ J9))) (dW (jnR [(6,8),(34,122),(7000448,7000449)] ⟨[(7,(false,(.rp y19)))],[]⟩ (lM (sN 1 (.cond J9 (sN 1 (.cond J9 (dW (.join [(46,58)] ⟨[(46,fF)],[]⟩ J9) (.cond J9 (dW (.join [(58,85)] ⟨[(58,fF)],[]⟩ J9) (.cond J9 (dW (.join [(85,94)] ⟨[(85,fF)],[]⟩ J9) J9))))))))))) J9))⟩
def c2j:FSpec:=bM b8J λx=>CV x.1 x.2.1 x.2.2
def b8r:List MG:=[(false,(.ownb (.int .i64)))]
def b5a:FSpec:=⟨b8r,[],[uoM],λx=>Eo x⟩
def b8s:List MG:=[uoM]
def b5b:FSpec:=⟨b8s,[uoM],[],λx=>sO x⟩
def wC(A:c6G):Option c6G:=l9 (Eo A) λx=>l9 (sO x) λx=>some x
def c0t:FQ:=⟨[uoM],tR 2 uoM,mE 7 [(221,b5a),(222,b5b)],J9⟩
def c3w:FSpec:=bM c0t λx=>wC x
def vW(A:List H6):Option uy:=l9 (fA (λ(x:c6G×c6G×c6G×Int)=>l7 (I5 x.2.2.2 (A7 A)) (l9 (P5 A x.2.2.2) λb=>l7 (C9 b.1 7) (l9 (eG x.1 [b.2]) λc=>some (.inl (c,x.2.1,x.2.2.1,G5 .i64 x.2.2.2 1))) (l7 (C9 b.1 8) (l9 (eG x.2.1 [b.2]) λc=>some (.inl (x.1,c,x.2.2.1,G5 .i64 x.2.2.2 1))) (l7 (C9 b.1 36) (l7 (C9 b.1 36) (l9 (eG x.2.2.1 [b.2]) λc=>some (.inl (x.1,x.2.1,c,G5 .i64 x.2.2.2 1))) (some (.inl (x.1,x.2.1,x.2.2.1,G5 .i64 x.2.2.2 1)))) (l7 (C9 b.1 37) (l7 (C9 b.1 37) (l9 (eG x.2.2.1 [b.2]) λc=>some (.inl (x.1,x.2.1,c,G5 .i64 x.2.2.2 1))) (some (.inl (x.1,x.2.1,x.2.2.1,G5 .i64 x.2.2.2 1)))) (l7 (C9 b.1 38) (l7 (C9 b.1 38) (l9 (eG x.2.2.1 [b.2]) λc=>some (.inl (x.1,x.2.1,c,G5 .i64 x.2.2.2 1))) (some (.inl (x.1,x.2.1,x.2.2.1,G5 .i64 x.2.2.2 1)))) (l7 (C9 b.1 39) (l9 (eG x.2.2.1 [b.2]) λc=>some (.inl (x.1,x.2.1,c,G5 .i64 x.2.2.2 1))) (some (.inl (x.1,x.2.1,x.2.2.1,G5 .i64 x.2.2.2 1))))))))) (some (.inr (x.1,x.2.1,x.2.2.1)))) ([],[],[],0)) λy=>l9 (wC y.1) λx=>l9 (wC y.2.1) λb=>l9 (wC y.2.2) λc=>some (x,b,c)
def c0c:FQ:=⟨[uD y12],⟨[(.tmp 2,uoM),(.tmp 3,uoM),(.tmp 4,uoM)],[]⟩,mE 49 [(246,c3w)],sN 2 (dW (sN 1 (lM (.loop [(5,8),(9,10),(12,43)] ⟨[(5,uoM),(6,uoM),(7,uoM),(12,P7)],[]⟩ 0 ⟨[(5,uoM),(6,uoM),(7,uoM)],[]⟩ J9))) J9)⟩
def c3h:FSpec:=bM c0c λx=>vW x
def vF(A:kF)(B:Int):Option c6G:=l9 (vW A.2.2.2.2.2.1) λx=>l9 (vW A.2.2.2.2.2.2.1) λd=>l9 (fA (λ(b:c6G×Int)=>l7 (I5 b.2 (A7 x.2.1)) (l9 (P5 x.2.1 b.2) λc=>l9 (aN x.2.1 (Z7 b.2)) λx=>l7 (U7 0 x) (l7 (I5 x B) (l9 (eG b.1 [x]) λx=>some (.inl (x,G5 .i64 b.2 1))) (some (.inl (b.1,G5 .i64 b.2 1)))) (some (.inl (b.1,G5 .i64 b.2 1)))) (some (.inr b.1))) ([],0)) λy=>l9 (fA (λ(x:c6G×Int)=>l7 (I5 x.2 (A7 d.2.1)) (l9 (P5 d.2.1 x.2) λb=>l9 (aN d.2.1 (Z7 x.2)) λc=>l7 (U7 0 c) (l7 (I5 c B) (l9 (eG x.1 [c]) λf=>some (.inl (f,G5 .i64 x.2 1))) (some (.inl (x.1,G5 .i64 x.2 1)))) (some (.inl (x.1,G5 .i64 x.2 1)))) (some (.inr x.1))) (y,0)) λy=>some y
def b9G:FQ:=⟨[tD y19,P7],tR 4 uoM,mE 67 [(220,c3h)],sN 4 (dW (sN 1 (lM (.loop [(5,6),(13,14),(32,48)] ⟨[(5,uoM),(32,P7)],[]⟩ 0 ⟨[(5,uoM)],[]⟩ J9))) (dW (sN 1 (lM (.loop [(5,6),(15,16),(50,66),(21000000,21000001)] ⟨[(5,uoM),(50,P7)],[]⟩ 2 ⟨[(5,uoM)],[]⟩ J9))) J9))⟩
def c2S:FSpec:=bM b9G λx=>vF x.1 x.2
def ED(A:c6G):Option c6G:=l9 (Eo A) λx=>l9 (sO x) λx=>some x
def b9H:FQ:=⟨[uoM],tR 2 uoM,mE 7 [(221,b5a),(222,b5b)],J9⟩
def c2T:FSpec:=bM b9H λx=>ED x
def xx(A:au):Option (List c6G):=l9 (BD (A7 A.2.2.2.1) []) λx=>l9 (fA (λ(x:List c6G×Int)=>l7 (I5 x.2 (A7 A.2.2.2.2)) (l9 (P5 A.2.2.2.2 x.2) λb=>l7 (U7 0 b.2.1) (l7 (I5 b.2.1 (A7 x.1)) (l7 (inb b.2.1 (A7 x.1)) (l9 (aN x.1 (Z7 b.2.1)) λc=>l9 (vF b (A7 x.1)) λd=>l9 (eG c d) λf=>l7 (inb b.2.1 (A7 x.1)) (l7 (JO (Z7 b.2.1) (Z7 b.2.1)) (l9 (aN x.1 (Z7 b.2.1)) λg=>some (.inl (fD x.1 (Z7 b.2.1) f,G5 .i64 x.2 1))) none) none) none) (some (.inl (x.1,G5 .i64 x.2 1)))) (some (.inl (x.1,G5 .i64 x.2 1)))) (some (.inr x.1))) (x,0)) λy=>l9 (fA (λ(x:List c6G×Int)=>l7 (I5 x.2 (A7 y)) (l7 (inb x.2 (A7 x.1)) (l9 (aN x.1 (Z7 x.2)) λb=>l9 (ED b) λc=>l7 (inb x.2 (A7 x.1)) (l7 (JO (Z7 x.2) (Z7 x.2)) (l9 (aN x.1 (Z7 x.2)) λd=>some (.inl (fD x.1 (Z7 x.2) c,G5 .i64 x.2 1))) none) none) none) (some (.inr x.1))) (y,0)) λy=>some y
def b8Z:FQ:=⟨[tD y24],tR 2 (uD y73),⟨58,eqs,tt,gl,[(183,c2S),(184,c2T)],[(223,oiM)],[7,36,50,53],[],[],[],[]⟩,sN 2 (dW (sN 1 (lM (.loop [(3,4),(5,6),(15,44),(7000704,7000705)] ⟨[(3,(false,(.owns oiM))),(15,P7)],[]⟩ 0 ⟨[(3,(false,(.owns oiM)))],[]⟩ J9))) (dW (sN 1 (lM (.loop [(3,4),(6,8),(44,45),(46,57),(15000000,15000001)] ⟨[(3,(false,(.owns oiM))),(46,P7)],[(44,3,none)]⟩ 2 ⟨[(3,(false,(.owns oiM)))],[]⟩ J9))) J9))⟩
def b4P:FSpec:=bM b8Z λx=>xx x
def DL(A:List c6G)(B:Int):Option c6G:=l9 (BD (A7 A) false) λx=>l9 (fA (λ(x:List Bool×c6G)=>l7 (I5 0 (A7 x.2)) (l9 (P5 x.2 0) λf=>l9 (aN x.2 (Z7 0)) λd=>l7 (mi 1 (A7 x.2) (A7 x.2)) (l9 (P5 A d) λc=>l9 (fA (λ(x:List Bool×c6G×Int)=>l7 (I5 x.2.2 (A7 c)) (l9 (P5 c x.2.2) λb=>l9 (P5 x.1 b) λj=>l9 (aN x.1 (Z7 b)) λg=>l7 (H5 g) (l9 (P5 x.1 b) λk=>l9 (aN x.1 (Z7 b)) λn=>l9 (eG x.2.1 [b]) λi=>some (.inl (fD x.1 (Z7 b) true,i,G5 .i64 x.2.2 1))) (some (.inl (x.1,x.2.1,G5 .i64 x.2.2 1)))) (some (.inr (x.1,x.2.1)))) (x.1,kH x.2 (Z7 1) (Z7 (A7 x.2)),0)) λy=>some (.inl y)) none) (some (.inr x.1))) (x,[B])) λy=>l9 (fA (λ(x:c6G×Int)=>l7 (I5 x.2 (A7 y)) (l9 (P5 y x.2) λf=>l9 (aN y (Z7 x.2)) λd=>l7 d (l9 (eG x.1 [x.2]) λc=>some (.inl (c,G5 .i64 x.2 1))) (some (.inl (x.1,G5 .i64 x.2 1)))) (some (.inr x.1))) ([],0)) λy=>some y
def b9k:FQ:=⟨[uD y73,P7],tR 4 uoM,mE 62 [],sN 3 (dW (lM (.loop [(5,8),(9,10),(18,48),(7000960,7000961),(10001088,10001089)] ⟨[(5,(uO .bool)),(6,uoM)],[]⟩ 0 ⟨[(5,(uO .bool))],[]⟩ (sN 1 (lM (sN 3 (lM (.loop [(5,7),(9,10),(31,48),(14000000,14000002)] ⟨[(5,(uO .bool)),(6,uoM),(31,P7)],[]⟩ 2 ⟨[(5,(uO .bool)),(6,uoM)],[]⟩ J9))))))) (sN 1 (dW (sN 1 (lM (.loop [(10,13),(50,61)] ⟨[(10,uoM),(50,P7)],[]⟩ 4 ⟨[(10,uoM)],[]⟩ J9))) J9)))⟩
def c2C:FSpec:=bM b9k λx=>DL x.1 x.2
def zk(A:au)(B:Int):Option c6G:=l7 (I5 B 0) (some []) (l7 (U7 (A7 A.2.2.2.1) B) (some []) (l9 (xx A) λx=>l9 (DL x B) λx=>some x))
def b8L:FQ:=⟨[tD y24,P7],tR 4 uoM,mE 18 [(131,b4P),(152,c2C)],J9⟩
def c2l:FSpec:=bM b8L λx=>zk x.1 x.2
def xR(A:c6G)(B:Int):c6K:=l9 (V4 (λ(x:Int)=>l7 (I5 x (A7 A)) (l9 (P5 A x) λb=>l7 (C9 B b) (some (.rt x)) (some (.nx (G5 .i64 x 1)))) (some (.ex ()))) 0) λo=>Z8 o (λy=>some (-1)) λr=>some r
def b9j:FQ:=⟨[uD y41,P7],tR 4 P7,mE 19 [],sN 1 (dW (sN 1 (lM (lpR [(4,6),(8,19)] ⟨[(8,P7)],[]⟩ 0 sgN J9))) J9)⟩
def c2B:FSpec:=bM b9j λx=>xR x.1 x.2
def pO(A:c6G)(B:Int):c6J:=l9 (xR A B) λx=>some (U7 0 x)
def b8K:FQ:=⟨[uD y41,P7],tR 4 fF,mE 9 [(151,c2B)],J9⟩
def c2k:FSpec:=bM b8K λx=>pO x.1 x.2
def AB(A:Z9)(B:Int):Option H6:=l9 (P5 A.2.2 B) λx=>l9 (gy A.2.2 0 B) λf=>l9 (l9 (zW A.1 x.1) λd=>l7 d (some (x,true)) (l9 (AC A.2.1 x.1) λb=>l7 b (some (x,true)) (l9 (fO f x) λc=>some (x,c)))) λx=>l9 (l9 (X6 x.1.1) λd=>l7 (H5 d) (some (.inr (2,0))) (l7 x.2 (some (.inr (7,0))) (l9 (l7 (H5 (C9 x.1.2.1 (-1))) (l7 (I5 x.1.2.1 0) (some true) (l7 (U7 B x.1.2.1) (some true) (l9 (P5 f x.1.2.1) λx=>some (H5 (C9 x.2.1 (-1)))))) (some false)) λb=>l7 b (some (.inr (6,0))) (l7 (I5 12 (A7 x.1.2.2.1)) (some (.inr (4,112))) (l7 (I5 12 (A7 x.1.2.2.2.1)) (some (.inr (4,212))) (some (.inl ()))))))) λo=>Z8 o (λd=>l9 (V4 (λ(b:Int)=>l7 (I5 b (A7 x.1.2.2.1)) (l9 (P5 x.1.2.2.1 b) λc=>l9 (gy x.1.2.2.1 0 b) λx=>l9 (xG A c x []) λx=>l7 (H5 (C9 x 0)) (some (.rt (x,G5 .i64 100 b))) (some (.nx (G5 .i64 b 1)))) (some (.ex ()))) 0) λo=>Z8 o (λy=>l9 (V4 (λ(b:Int)=>l7 (I5 b (A7 x.1.2.2.2.1)) (l9 (P5 x.1.2.2.2.1 b) λc=>l9 (gy x.1.2.2.2.1 0 b) λg=>l9 (xG A c x.1.2.2.1 g) λx=>l7 (H5 (C9 x 0)) (some (.rt (x,G5 .i64 200 b))) (some (.nx (G5 .i64 b 1)))) (some (.ex ()))) 0) λo=>Z8 o (λy=>l9 (ut A B) λb=>l9 (V4 (λ(c:Int)=>l7 (I5 c (A7 x.1.2.2.2.2)) (l9 (CV x.1 c b) λx=>l7 (H5 (C9 x 0)) (some (.rt (x,G5 .i64 300 c))) (some (.nx (G5 .i64 c 1)))) (some (.ex ()))) 0) λo=>Z8 o (λy=>l9 (V4 (λ(c:Int)=>l7 (I5 c (A7 x.1.2.2.2.1)) (l9 (zk x.1 c) λx=>l9 (pO x c) λx=>l7 x (some (.rt (9,G5 .i64 200 c))) (some (.nx (G5 .i64 c 1)))) (some (.ex ()))) 0) λo=>Z8 o (λy=>some (0,0)) λr=>some r) λr=>some r) λr=>some r) λr=>some r) λr=>some r
def q58:FQ:=⟨[tD y27,P7],⟨[(.tmp 4,P7),(.tmp 5,P7)],[]⟩,mE 163 [(56,s56),(57,s57),(107,a2R),(106,a9l),(55,s55),(108,c2h),(109,c2i),(110,c2j),(112,c2l),(111,c2k)],sN 3 (dW (.join [(6,7),(8,9),(28,45),(7000384,7000385)] ⟨[(6,(false,(.rp y24))),(8,fF)],[]⟩ J9) (dW (jnR [(4,6),(45,86)] sgN (lM (sN 1 (.cond J9 (sN 1 (.cond J9 (dW (.join [(52,76)] ⟨[(52,fF)],[]⟩ J9) J9))))))) (dW (sN 1 (lM (lpR [(4,6),(9,12),(89,107)] ⟨[(89,P7)],[]⟩ 1 sgN J9))) (dW (sN 1 (lM (lpR [(4,6),(12,15),(110,130)] ⟨[(110,P7)],[]⟩ 3 sgN J9))) (sN 1 (dW (sN 1 (lM (lpR [(4,6),(16,18),(136,149)] ⟨[(136,P7)],[]⟩ 5 sgN J9))) (dW (sN 1 (lM (lpR [(4,6),(18,19),(152,163)] ⟨[(152,P7)],[]⟩ 7 sgN J9))) J9)))))))⟩
def s58:FSpec:=bM q58 λx=>AB x.1 x.2
def zq(A:Z9):Option fP:=l7 (I5 4 (A7 A.2.2)) (some (4,3,4,0)) (l9 (V4 (λ(x:fP×Int)=>l7 (I5 x.2 (A7 A.2.2)) (l9 (AB A x.2) λb=>l7 (H5 (C9 b.1 0)) (some (.rt (b.1,3,x.2,b.2))) (some (.nx (x.1,G5 .i64 x.2 1)))) (some (.ex x.1))) ((0,0,0,0),0)) λo=>Z8 o (λ(y:fP)=>some (0,0,0,0)) λr=>some r)
def q28:FQ:=⟨[tD y27],cR 2 78 (tD y46),mE 31 [(58,s58)],sN 2 (dW (sN 1 (lM (lpR [(2,6),(14,30),(4000128,4000129)] ⟨[(2,(false,(.box (dT y46)))),(14,P7)],[]⟩ 0 ⟨[(2,(false,(.box (dT y46))))],[]⟩ J9))) J9)⟩
def s28:FSpec:=bM q28 λx=>zq x
def qE(A:Z9):Option fP:=l9 (AA A) λx=>l7 (H5 (C9 x.1 0)) (some x) (l9 (zt A) λx=>l7 (H5 (C9 x.1 0)) (some x) (l9 (zq A) λx=>some x))
def q13:FQ:=⟨[tD y27],cR 2 78 (tD y46),mE 19 [(26,s26),(27,s27),(28,s28)],J9⟩
def s13:FSpec:=bM q13 λx=>qE x
def zB(A:au):c6J:=l9 (l7 (I5 80 (A7 A.1)) (some (.inr false)) (l7 (I5 14 (A7 A.2.2.1)) (some (.inr false)) (l7 (I5 14 (A7 A.2.2.2.1)) (some (.inr false)) (l7 (I5 60 (A7 A.2.2.2.2)) (some (.inr false)) (some (.inl ())))))) λo=>Z8 o (λx=>l9 (V4 (λ(x:Int)=>l7 (I5 x (A7 A.2.2.1)) (l9 (P5 A.2.2.1 x) λb=>l7 (I5 80 (A7 b.1)) (some (.rt false)) (some (.nx (G5 .i64 x 1)))) (some (.ex ()))) 0) λo=>Z8 o (λy=>l9 (V4 (λ(x:Int)=>l7 (I5 x (A7 A.2.2.2.1)) (l9 (P5 A.2.2.2.1 x) λb=>l7 (I5 80 (A7 b.1)) (some (.rt false)) (some (.nx (G5 .i64 x 1)))) (some (.ex ()))) 0) λo=>Z8 o (λy=>l9 (V4 (λ(x:Int)=>l7 (I5 x (A7 A.2.2.2.2)) (l9 (P5 A.2.2.2.2 x) λb=>l7 (I5 80 (A7 b.1)) (some (.rt false)) (l7 (I5 80 (A7 b.2.2.2.2.2.2.2)) (some (.rt false)) (l7 (I5 50 (A7 b.2.2.2.2.2.1)) (some (.rt false)) (l7 (I5 50 (A7 b.2.2.2.2.2.2.1)) (some (.rt false)) (some (.nx (G5 .i64 x 1))))))) (some (.ex ()))) 0) λo=>Z8 o (λy=>some true) λr=>some r) λr=>some r) λr=>some r) λr=>some r
def q8:FQ:=⟨[tD y24],tR 2 fF,mE 93 [],sN 1 (dW (jnR [(2,3),(7,29)] sgN J9) (dW (sN 1 (lM (lpR [(2,4),(29,44)] ⟨[(3,P7)],[]⟩ 0 sgN J9))) (dW (sN 1 (lM (lpR [(2,3),(4,5),(44,59)] ⟨[(4,P7)],[]⟩ 2 sgN J9))) (dW (sN 1 (lM (lpR [(2,3),(5,7),(59,93)] ⟨[(5,P7)],[]⟩ 4 sgN J9))) J9))))⟩
def s8:FSpec:=bM q8 λx=>zB x
def CW(A:Z9):c6J:=l9 (l7 (I5 9 (A7 A.1)) (some (.inr false)) (l7 (I5 9 (A7 A.2.1)) (some (.inr false)) (l7 (I5 5 (A7 A.2.2)) (some (.inr false)) (some (.inl ()))))) λo=>Z8 o (λx=>l9 (V4 (λ(x:Int)=>l7 (I5 x (A7 A.1)) (l9 (P5 A.1 x) λb=>l7 (I5 80 (A7 b.1)) (some (.rt false)) (l9 (P5 A.1 x) λc=>l7 (I5 20 (A7 c.2)) (some (.rt false)) (l9 (V4 (λ(d:Int)=>l9 (P5 A.1 x) λf=>l7 (I5 d (A7 f.2)) (l9 (P5 A.1 x) λx=>l9 (P5 x.2 d) λx=>l7 (I5 80 (A7 x)) (some (.rt false)) (some (.nx (G5 .i64 d 1)))) (some (.ex ()))) 0) λo=>Z8 o (λy=>some (.nx (G5 .i64 x 1))) λr=>some (.rt r)))) (some (.ex ()))) 0) λo=>Z8 o (λy=>l9 (V4 (λ(x:H6)=>l7 (I5 x.2 (A7 A.2.1)) (l9 (P5 A.2.1 x.2) λb=>l9 (P5 A.2.1 x.2) λc=>l7 (I5 80 (A7 c.1)) (some (.rt false)) (l7 (I5 150 (G5 .i64 x.1 (A7 b.2.2.2))) (some (.rt false)) (some (.nx (G5 .i64 x.1 (A7 b.2.2.2),G5 .i64 x.2 1))))) (some (.ex ()))) (0,0)) λo=>Z8 o (λy=>l9 (V4 (λ(x:H6)=>l7 (I5 x.2 (A7 A.2.2)) (l9 (P5 A.2.2 x.2) λb=>l7 (I5 60 (G5 .i64 x.1 (A7 b.2.2.2.2))) (some (.rt false)) (l9 (P5 A.2.2 x.2) λc=>l9 (zB c) λd=>l7 (H5 d) (some (.rt false)) (some (.nx (G5 .i64 x.1 (A7 b.2.2.2.2),G5 .i64 x.2 1))))) (some (.ex ()))) (0,0)) λo=>Z8 o (λy=>some true) λr=>some r) λr=>some r) λr=>some r) λr=>some r
def q4:FQ:=⟨[tD y27],tR 2 fF,mE 127 [(8,s8)],sN 1 (dW (jnR [(2,3),(9,25)] sgN J9) (sN 2 (dW (sN 1 (lM (lpR [(2,3),(5,7),(25,72)] ⟨[(5,P7)],[]⟩ 0 sgN (sN 1 (dW (lM (sN 2 (lM (lpR [(2,3),(6,7),(50,72)] ⟨[(6,P7)],[]⟩ 2 sgN J9)))) J9))))) (dW (sN 1 (lM (lpR [(2,4),(7,8),(72,100)] ⟨[(3,P7),(7,P7)],[]⟩ 4 sgN J9))) (dW (sN 1 (lM (lpR [(2,3),(4,5),(8,9),(100,127)] ⟨[(4,P7),(8,P7)],[]⟩ 6 sgN J9))) J9)))))⟩
def s4:FSpec:=bM q4 λx=>CW x
def Qe(A:List H6):Option Z9:=some ([],[],[([104,111,117,115,101],-1,[([97],3,0)],[([100],3,0)],[([98,97,115,101],0,-1,0,(0,109573),[],A,[])])])
def q9:FQ:=⟨[uD y12],⟨[(.cell 2 26,(true,(pA (dT y1) (pA (dT y9) (.owns (pA (dT .str) (pA O7 (pA (dT y11) (pA (dT y11) (oW y19))))))))))],[]⟩,⟨22,eqs,tt,gl,[],[(24,(pA (dT .str) (pA O7 (pA (dT y11) (pA (dT y11) (oW y19))))))],[],[],[],[],[]⟩,J9⟩
def s9:FSpec:=bM q9 λx=>Qe x
def vJ(A:c6F):Option (List c6F×Int):=l7 (I5 65536 (A7 A)) (some ([],4)) (l7 (seq A []) (some ([],0)) (l9 (V4 (λ(x:List c6F×Int×c6F×Int)=>l7 (I5 x.2.2.2 (A7 x.2.2.1)) (l7 (C9 (nG x.2.2.1 x.2.2.2) 10) (l9 (gy A x.2.1 x.2.2.2) λb=>l9 (eG x.1 [b]) λc=>some (.nx (c,G5 .i64 x.2.2.2 1,x.2.2.1,xU x.2.2.1 x.2.2.2))) (l7 (C9 (nG x.2.2.1 x.2.2.2) 9) (some (.nx (x.1,x.2.1,x.2.2.1,xU x.2.2.1 x.2.2.2))) (l7 (U7 32 (nG x.2.2.1 x.2.2.2)) (l7 (U7 (nG x.2.2.1 x.2.2.2) 126) (some (.nx (x.1,x.2.1,x.2.2.1,xU x.2.2.1 x.2.2.2))) (some (.rt ([],2)))) (some (.rt ([],2)))))) (some (.ex (x.1,x.2.1)))) ([],0,A,0)) λo=>Z8 o (λ(y:List c6F×Int)=>l7 (H5 (C9 y.2 (A7 A))) (some ([],2)) (some (y.1,0))) λr=>some r))
def q14:FQ:=⟨[uD .str],⟨[(.tmp 2,(uO .str)),(.tmp 3,P7)],[]⟩,mE 47 [],sN 5 (dW (sN 1 (lM (lpR [(2,8),(14,42),(34000896,34000897)] ⟨[(4,(uO .str)),(5,P7),(14,(false,.sit))],[]⟩ 0 ⟨[(4,(uO .str)),(5,P7)],[]⟩ J9))) J9)⟩
def s14:FSpec:=bM q14 λx=>vJ x
def c6m:List MG:=[(false,(.dat .str)),(false,(.dat .str))]
def s30:FSpec:=⟨c6m,[P7],[],λx=>En x.1 x.2⟩
def c6q:List MG:=[(false,(.box (.dat y60))),P7]
def s65:FSpec:=⟨c6q,[P7],[(true,(.dat y60))],λx=>qM x.1 x.2⟩
def b8w:List MG:=[(false,(.box (.dat y60))),fF]
def c1W:Ret:=⟨[],[(0,(true,(.dat y60)))]⟩
def e33:Env:=⟨8,eqs,tt,gl,[(1000000065,s65)],[],[],[],[0],[],[]⟩
def c5E:Ann:=.leaf
def P6(A:D9)(B:Bool):Option (Int×D9):=l7 (H5 B) (l9 (qM A 2) λx=>l7 (C9 x.1 0) (some (0,x.2)) (some (x.1,([],[],[]),[],false))) (some (0,A))
def s33:FSpec:=mkP b8w c1W λx=>P6 x.1 x.2
def c6p:List MG:=[(false,(.dat .str)),(false,(.dat .str))]
def s62:FSpec:=⟨c6p,[(false,(.dat .str)),(false,(.dat .str)),fF],[],λx=>zf x.1 x.2⟩
def b8u:List MG:=[(false,(.box (.dat y60)))]
def c1T:Ret:=⟨[(.tmp 2,(false,(.dat .str)))],[(0,(true,(.dat y60)))]⟩
def e31:Env:=⟨36,eqs,tt,gl,[(1000000033,s33),(62,s62)],[],[],[],[0],[],[]⟩
def c5B:Ann:=.leaf
def ai(A:D9):Option (Int×c6F×D9):=l9 (P6 A (H5 A.2.2)) λx=>l7 (C9 x.1 0) (l9 (zf x.2.2.1 [32]) λb=>l9 (P6 (x.2.1,b.2.1,H5 b.2.2) (H5 (seq b.1 []))) λx=>l7 (C9 x.1 0) (some (0,b.1,x.2)) (some (x.1,[],([],[],[]),[],false))) (some (x.1,[],([],[],[]),[],false))
def s31:FSpec:=mkP b8u c1T λx=>ai x
def b8z:List MG:=[(false,(.box (.dat y60)))]
def c1Z:Ret:=⟨[(.tmp 2,(false,(.dat .str)))],[(0,(true,(.dat y60)))]⟩
def e63:Env:=⟨11,eqs,tt,gl,[(1000000031,s31),(55,s55),(1000000033,s33)],[],[],[],[0],[],[]⟩
def c5H:Ann:=.leaf
def iG(A:D9):Option (Int×c6F×D9):=l9 (ai A) λx=>l7 (C9 x.1 0) (l9 (X6 x.2.1) λc=>l9 (P6 x.2.2 c) λb=>l7 (C9 b.1 0) (some (0,x.2.1,b.2)) (some (b.1,[],([],[],[]),[],false))) (some (x.1,[],([],[],[]),[],false))
def s63:FSpec:=mkP b8z c1Z λx=>iG x
def nM(A:Z9)(B:c6F):c6K:=l9 (V4 (λ(x:Int)=>l7 (I5 x (A7 A.2.2)) (l9 (P5 A.2.2 x) λb=>l7 (seq b.1 B) (some (.rt x)) (some (.nx (G5 .i64 x 1)))) (some (.ex ()))) 0) λo=>Z8 o (λy=>some (-1)) λr=>some r
def q64:FQ:=⟨[tD y27,(uD .str)],tR 4 P7,mE 21 [],sN 1 (dW (sN 1 (lM (lpR [(4,7),(10,21)] ⟨[(10,P7)],[]⟩ 0 sgN J9))) J9)⟩
def s64:FSpec:=bM q64 λx=>nM x.1 x.2
def c6s:List MG:=[(false,(.dat (.sl .str)))]
def s83:FSpec:=⟨c6s,[(false,(.own .str))],[],λx=>oP x⟩
def uG(A:List bK):Option (List bK):=l9 (fA (λ(x:List bK×Int)=>l7 (I5 x.2 (A7 A)) (l9 (P5 A x.2) λb=>l9 (oP b.2) λc=>l9 (eG x.1 [(b.1,c)]) λd=>some (.inl (d,G5 .i64 x.2 1))) (some (.inr x.1))) ([],0)) λy=>some y
def q43:FQ:=⟨[uD y1],⟨[(.tmp 2,(false,(.owns (pA (dT .str) (oW .str)))))],[]⟩,⟨23,eqs,tt,gl,[(83,s83)],[(22,(pA (dT .str) (oW .str)))],[3,12,20],[],[],[],[]⟩,sN 2 (dW (sN 1 (lM (.loop [(3,4),(5,6),(8,22)] ⟨[(3,(false,(.owns (pA (dT .str) (oW .str))))),(8,P7)],[]⟩ 0 ⟨[(3,(false,(.owns (pA (dT .str) (oW .str)))))],[]⟩ J9))) J9)⟩
def s43:FSpec:=bM q43 λx=>uG x
def uH(A:List mW):Option (List c6F):=l9 (fA (λ(x:List c6F×Int)=>l7 (I5 x.2 (A7 A)) (l9 (P5 A x.2) λb=>l9 (eG x.1 [b.1]) λc=>some (.inl (c,G5 .i64 x.2 1))) (some (.inr x.1))) ([],0)) λy=>some y
def b8M:FQ:=⟨[uD y11],tR 2 (uO .str),mE 19 [],sN 2 (dW (sN 1 (lM (.loop [(3,4),(5,6),(8,18)] ⟨[(3,(uO .str)),(8,P7)],[]⟩ 0 ⟨[(3,(uO .str))],[]⟩ J9))) J9)⟩
def c2n:FSpec:=bM b8M λx=>uH x
def sF(A:Z9)(B:Int):Option E9:=l9 (l7 (I5 B 0) (some (.inr ([],[],[],[],[]))) (l7 (U7 (A7 A.2.2) B) (some (.inr ([],[],[],[],[]))) (some (.inl ([],[],[],[],[]))))) λo=>Z8 o (λ(x:E9)=>l9 (P5 A.2.2 B) λx=>l9 (uG A.1) λb=>l9 (uH x.2.2.1) λc=>l9 (uH x.2.2.2.1) λd=>l9 (fA (λ(x:E9×Int)=>l7 (I5 x.2 (A7 A.2.1)) (l9 (P5 A.2.1 x.2) λf=>l9 (eG x.1.2.1 [f.1]) λg=>some (.inl ((x.1.1,g,x.1.2.2),G5 .i64 x.2 1))) (some (.inr x.1))) ((b,[],c,d,[]),0)) λy=>l7 (U7 0 x.2.1) (l7 (I5 x.2.1 (A7 A.2.2)) (l9 (P5 A.2.2 x.2.1) λx=>l9 (uH x.2.2.2.1) λx=>some (y.1,y.2.1,y.2.2.1,y.2.2.2.1,x)) (some y)) (some y)) λr=>some r
def q66:FQ:=⟨[tD y27,P7],⟨[(.cell 4 154,(true,(pA (.owns (pA (dT .str) (oW .str))) (pA (oW .str) (pA (oW .str) (pA (oW .str) (oW .str)))))))],[]⟩,⟨70,eqs,tt,gl,[(43,s43),(115,c2n)],[(22,(pA (dT .str) (oW .str)))],[42],[],[],[],[]⟩,sN 1 (dW (jnR [(4,5),(9,19),(4000256,4000257)] ⟨[(4,(false,(.box (dT nI))))],[]⟩ J9) (sN 2 (dW (sN 1 (lM (.loop [(6,7),(8,9),(37,49),(20000384,20000385),(20001664,20001665),(20001856,20001857),(20002048,20002049)] ⟨[(6,(false,(.box (pA (.owns (pA (dT .str) (oW .str))) (pA (oW .str) (pA (oW .str) (pA (oW .str) (oW .str)))))))),(37,P7)],[]⟩ 0 ⟨[(6,(false,(.box (pA (.owns (pA (dT .str) (oW .str))) (pA (oW .str) (pA (oW .str) (pA (oW .str) (oW .str))))))))],[]⟩ J9))) J9)))⟩
def s66:FSpec:=bM q66 λx=>sF x.1 x.2
def b8q:List MG:=[(false,(.dat .str)),(false,(.dat .str))]
def b4Y:FSpec:=⟨b8q,[fF],[],λx=>yP x.1 x.2⟩
def uC(A:c6F)(B:c6F):Option (c6F×Bool):=l9 (yP A B) λx=>l7 (H5 x) (some (A,false)) (l9 (gy A (A7 B) (A7 A)) λx=>some (x,true))
def c0l:FQ:=⟨[uD .str,(uD .str)],⟨[(.tmp 4,(uD .str)),(.tmp 5,fF)],[]⟩,mE 15 [(217,b4Y)],J9⟩
def c3q:FSpec:=bM c0l λx=>uC x.1 x.2
def xe(A:c6F)(B:c6F):Option (c6F×Bool):=l9 (uC A B) λx=>some x
def b9Q:FQ:=⟨[uD .str,(uD .str)],⟨[(.tmp 4,(uD .str)),(.tmp 5,fF)],[]⟩,mE 11 [(232,c3q)],J9⟩
def c3c:FSpec:=bM b9Q λx=>xe x.1 x.2
def mV(A:Int):c6J:=l7 (U7 48 A) (some (U7 A 57)) (some false)
def b9R:FQ:=⟨[(false,(dT (.int .i32)))],tR 2 fF,mE 9 [],J9⟩
def c3d:FSpec:=bM b9R λx=>mV x
def ou(A:c6F)(B:Int):Option H6:=l9 (xe A [45]) λx=>l9 (l7 (I5 0 B) (some (N9 .i64 (A7 x.1) (G5 .i64 B 1))) (some (A7 x.1))) λb=>l9 (l7 (I5 b 1) (some (.inr (0,2))) (l7 (I5 1 b) (l9 (sat x.1 0) λx=>l7 (C9 x 48) (some (.inr (0,2))) (some (.inl ()))) (some (.inl ())))) λo=>Z8 o (λd=>l9 (V4 (λ(x:Int×Bool×c6F×Int)=>l7 (I5 x.2.2.2 (A7 x.2.2.1)) (l7 (C9 x.2.2.2 b) (l7 (H5 (C9 (nG x.2.2.1 x.2.2.2) 46)) (some (.rt (0,2))) (some (.nx (x.1,x.2.1,x.2.2.1,xU x.2.2.1 x.2.2.2)))) (l9 (mV (nG x.2.2.1 x.2.2.2)) λc=>l7 (H5 c) (some (.rt (0,2))) (l7 x.2.1 (some (.nx (x.1,true,x.2.2.1,xU x.2.2.1 x.2.2.2))) (l7 (I5 461168601842738790 x.1) (some (.nx (x.1,true,x.2.2.1,xU x.2.2.1 x.2.2.2))) (some (.nx (G5 .i64 (mY .i64 x.1 10) (wrap .i64 (N9 .i32 (nG x.2.2.1 x.2.2.2) 48)),I5 4611686018427387904 (G5 .i64 (mY .i64 x.1 10) (wrap .i64 (N9 .i32 (nG x.2.2.1 x.2.2.2) 48))),x.2.2.1,xU x.2.2.1 x.2.2.2))))))) (some (.ex (x.1,x.2.1)))) (0,false,x.1,0)) λo=>Z8 o (λ(y:Int×Bool)=>l7 x.2 (l7 (C9 y.1 0) (l7 (H5 y.2) (some (0,2)) (l7 y.2 (some (0,3)) (l7 x.2 (some (N9 .i64 0 y.1,0)) (some (y.1,0))))) (l7 y.2 (some (0,3)) (l7 x.2 (some (N9 .i64 0 y.1,0)) (some (y.1,0))))) (l7 y.2 (some (0,3)) (l7 x.2 (some (N9 .i64 0 y.1,0)) (some (y.1,0))))) λr=>some r) λr=>some r
def b9l:FQ:=⟨[uD .str,P7],⟨[(.tmp 4,P7),(.tmp 5,P7)],[]⟩,mE 78 [(203,c3c),(204,c3d)],sN 3 (dW (.join [(8,9),(20,26)] ⟨[(8,P7)],[]⟩ J9) (dW (jnR [(4,6),(26,37)] sgN J9) (sN 1 (dW (sN 1 (lM (lpR [(4,6),(9,13),(38,64),(35002432,35002433)] ⟨[(9,P7),(10,fF),(38,(false,.sit))],[]⟩ 0 ⟨[(9,P7),(10,fF)],[]⟩ J9))) J9))))⟩
def b4Q:FSpec:=bM b9l λx=>ou x.1 x.2
def jU(A:c6F):Option H6:=l9 (ou A 0) λx=>some x
def b8N:FQ:=⟨[uD .str],⟨[(.tmp 2,P7),(.tmp 3,P7)],[]⟩,mE 8 [(157,b4Q)],J9⟩
def b2A:FSpec:=bM b8N λx=>jU x
def b8A:List MG:=[(false,(.box (.dat y60)))]
def c2a:Ret:=⟨[(.tmp 2,P7)],[(0,(true,(.dat y60)))]⟩
def e67:Env:=⟨23,eqs,tt,gl,[(1000000031,s31),(116,b2A),(1000000065,s65),(1000000033,s33)],[],[],[],[0],[],[]⟩
def c5I:Ann:=.leaf
def rF(A:D9):Option (Int×Int×D9):=l9 (ai A) λx=>l7 (C9 x.1 0) (l9 (jU x.2.1) λb=>l9 (qM x.2.2 b.2) λx=>l7 (C9 x.1 0) (l7 (U7 1 b.1) (l9 (P6 x.2 (U7 b.1 9)) λx=>l7 (C9 x.1 0) (some (0,b.1,x.2)) (some (x.1,0,([],[],[]),[],false))) (l9 (P6 x.2 false) λx=>l7 (C9 x.1 0) (some (0,b.1,x.2)) (some (x.1,0,([],[],[]),[],false)))) (some (x.1,0,([],[],[]),[],false))) (some (x.1,0,([],[],[]),[],false))
def s67:FSpec:=mkP b8A c2a λx=>rF x
def uU(A:c6F):Option (Int×Bool):=l9 (V4 (λ(x:Int×c6F×Int)=>l7 (I5 x.2.2 (A7 x.2.1)) (l7 (I5 (nG x.2.1 x.2.2) 48) (some (.rt (0,false))) (l7 (I5 57 (nG x.2.1 x.2.2)) (some (.rt (0,false))) (some (.nx (G5 .i64 (mY .i64 x.1 10) (wrap .i64 (N9 .i32 (nG x.2.1 x.2.2) 48)),x.2.1,xU x.2.1 x.2.2))))) (some (.ex x.1))) (0,A,0)) λo=>Z8 o (λy=>some (y,true)) λr=>some r
def b9m:FQ:=⟨[uD .str],⟨[(.tmp 2,P7),(.tmp 3,fF)],[]⟩,mE 25 [],sN 2 (dW (sN 1 (lM (lpR [(2,5),(6,7),(8,24),(11000512,11000513)] ⟨[(4,P7),(8,(false,.sit))],[]⟩ 0 ⟨[(4,P7)],[]⟩ J9))) J9)⟩
def c2F:FSpec:=bM b9m λx=>uU x
def FM(A:Int):c6J:=l7 (C9 (fE A 4) 0) (l7 (H5 (C9 (fE A 100) 0)) (some true) (some (C9 (fE A 400) 0))) (some false)
def b9D:FQ:=⟨[P7],tR 2 fF,mE 16 [],J9⟩
def c2Q:FSpec:=bM b9D λx=>FM x
def jQ(A:Int)(B:Int):c6K:=l7 (I5 B 1) (some 0) (l7 (I5 12 B) (some 0) (l7 (C9 B 2) (l9 (FM A) λx=>l7 x (some 29) (l9 (P5 [31,28,31,30,31,30,31,31,30,31,30,31] (N9 .i64 B 1)) λx=>some x)) (l9 (P5 [31,28,31,30,31,30,31,31,30,31,30,31] (N9 .i64 B 1)) λx=>some x)))
def b8X:FQ:=⟨[P7,P7],tR 4 P7,mE 21 [(178,c2Q)],J9⟩
def b2E:FSpec:=bM b8X λx=>jQ x.1 x.2
def xu(A:Int):c6K:=some (G5 .i64 (N9 .i64 (aO .i64 A 4) (aO .i64 A 100)) (aO .i64 A 400))
def b9C:FQ:=⟨[P7],tR 2 P7,mE 11 [],J9⟩
def c2P:FSpec:=bM b9C λx=>xu x
def qP(A:Int):c6K:=l9 (xu (N9 .i64 A 1)) λx=>l9 (xu 1899) λb=>some (N9 .i64 (G5 .i64 (mY .i64 (N9 .i64 A 1900) 365) x) b)
def b8W:FQ:=⟨[P7],tR 2 P7,mE 12 [(177,c2P)],J9⟩
def b4M:FSpec:=bM b8W λx=>qP x
def iL(A:Int)(B:Int)(C:Int):Option H6:=l9 (l7 (I5 A 1900) (some (.inr (0,3))) (l7 (I5 2199 A) (some (.inr (0,3))) (l7 (I5 B 1) (some (.inr (0,3))) (l7 (I5 12 B) (some (.inr (0,3))) (l7 (I5 C 1) (some (.inr (0,3))) (l9 (jQ A B) λx=>l7 (I5 x C) (some (.inr (0,3))) (some (.inl ())))))))) λo=>Z8 o (λx=>l9 (qP A) λx=>l9 (fA (λ(x:H6)=>l7 (I5 x.2 (N9 .i64 B 1)) (l9 (jQ A (G5 .i64 x.2 1)) λb=>some (.inl (G5 .i64 x.1 b,G5 .i64 x.2 1))) (some (.inr x.1))) (x,0)) λy=>some (N9 .i64 (G5 .i64 y C) 1,0)) λr=>some r
def b9n:FQ:=⟨[P7,P7,P7],⟨[(.tmp 6,P7),(.tmp 7,P7)],[]⟩,mE 53 [(128,b2E),(127,b4M)],sN 1 (dW (jnR [(6,8),(10,35)] sgN J9) (sN 1 (dW (sN 1 (lM (.loop [(8,10),(39,49)] ⟨[(8,P7),(39,P7)],[]⟩ 0 ⟨[(8,P7)],[]⟩ J9))) J9)))⟩
def b4R:FSpec:=bM b9n λx=>iL x.1 x.2.1 x.2.2
def xn(A:c6F):Option H6:=l9 (l7 (H5 (C9 (A7 A) 10)) (some (.inr (0,2))) (l9 (sat A 4) λx=>l7 (H5 (C9 x 45)) (some (.inr (0,2))) (l9 (sat A 7) λx=>l7 (H5 (C9 x 45)) (some (.inr (0,2))) (some (.inl ()))))) λo=>Z8 o (λx=>l9 (gy A 0 4) λx=>l9 (uU x) λx=>l9 (gy A 5 7) λd=>l9 (uU d) λb=>l9 (gy A 8 (A7 A)) λf=>l9 (uU f) λc=>l7 (H5 x.2) (some (0,2)) (l7 (H5 b.2) (some (0,2)) (l7 (H5 c.2) (some (0,2)) (l9 (iL x.1 b.1 c.1) λx=>some x)))) λr=>some r
def b8O:FQ:=⟨[uD .str],⟨[(.tmp 2,P7),(.tmp 3,P7)],[]⟩,mE 57 [(158,c2F),(159,b4R)],sN 1 (dW (jnR [(2,4),(10,23)] sgN J9) J9)⟩
def b2B:FSpec:=bM b8O λx=>xn x
def b8B:List MG:=[(false,(.box (.dat y60)))]
def c2b:Ret:=⟨[(.tmp 2,P7)],[(0,(true,(.dat y60)))]⟩
def e68:Env:=⟨15,eqs,tt,gl,[(1000000031,s31),(117,b2B),(1000000065,s65)],[],[],[],[0],[],[]⟩
def c5J:Ann:=.leaf
def oQ(A:D9):Option (Int×Int×D9):=l9 (ai A) λx=>l7 (C9 x.1 0) (l9 (xn x.2.1) λb=>l9 (qM x.2.2 b.2) λx=>l7 (C9 x.1 0) (some (0,b.1,x.2)) (some (x.1,0,([],[],[]),[],false))) (some (x.1,0,([],[],[]),[],false))
def s68:FSpec:=mkP b8B c2b λx=>oQ x
def BX(A:c6F)(B:Int):c6K:=l9 (V4 (λ(x:Int×Bool)=>l7 (I5 x.1 (A7 A)) (l9 (sat A x.1) λb=>l7 x.2 (l7 (C9 b 10) (some (.rt x.1)) (some (.nx (G5 .i64 x.1 1,x.2)))) (l7 (C9 b 35) (some (.nx (G5 .i64 x.1 1,true))) (l7 (H5 (C9 b 32)) (l7 (H5 (C9 b 9)) (some (.rt x.1)) (some (.nx (G5 .i64 x.1 1,x.2)))) (some (.nx (G5 .i64 x.1 1,x.2)))))) (some (.ex x.1))) (B,false)) λo=>Z8 o (λy=>some y) λr=>some r
def b9S:FQ:=⟨[uD .str,P7],tR 4 P7,mE 33 [],sN 2 (dW (lM (lpR [(1,2),(4,32)] ⟨[(1,P7),(5,fF)],[]⟩ 0 ⟨[(1,P7)],[]⟩ J9)) J9)⟩
def c3e:FSpec:=bM b9S λx=>BX x.1 x.2
def b8n:List MG:=[(false,(.dat .str)),(false,(.dat (.int .u8)))]
def c2E:FSpec:=⟨b8n,[P7],[],λx=>Gy x.1 x.2⟩
def Bj(A:c6F)(B:Int):c6K:=l9 (Gy A B) λx=>some x
def c0q:FQ:=⟨[uD .str,(false,(dT (.int .u8)))],tR 4 P7,mE 8 [(153,c2E)],J9⟩
def c3u:FSpec:=bM c0q λx=>Bj x.1 x.2
def AP(A:c6F):Option (dF×H6):=l9 (nS A) λx=>l7 (I5 16 x) (some ((0,[],0,0),0,4)) (l9 (gy A 0 x) λb=>some ((1,b,0,0),x,0))
def c0n:FQ:=⟨[uD .str],⟨[(.cell 2 304,tD y76),(.tmp 3,P7),(.tmp 4,P7)],[]⟩,mE 16 [(100,b4K)],J9⟩
def c3r:FSpec:=bM c0n λx=>AP x
def iY(A:c6F)(B:Int):c6K:=l9 (fA (λ(x:Int)=>l7 (I5 x (A7 A)) (l9 (sat A x) λb=>l9 (fJ b) λc=>l7 c (some (.inl (G5 .i64 x 1))) (some (.inr x))) (some (.inr x))) B) λy=>some (N9 .i64 y B)
def c0O:FQ:=⟨[uD .str,P7],tR 4 P7,mE 22 [(140,a9o)],sN 2 (dW (lM (.loop [(5,6),(7,19)] ⟨[(5,P7)],[]⟩ 0 ⟨[(5,P7)],[]⟩ J9)) J9)⟩
def b2K:FSpec:=bM c0O λx=>iY x.1 x.2
def yw(A:c6F):c6J:=l9 (iY A 0) λx=>l7 (C9 x 4) (l9 (iY A 5) λx=>l7 (C9 x 2) (l9 (iY A 8) λx=>l7 (U7 2 x) (l9 (sat A 4) λx=>l7 (C9 x 45) (l9 (sat A 7) λx=>some (C9 x 45)) (some false)) (some false)) (some false)) (some false)
def c0N:FQ:=⟨[uD .str],tR 2 fF,mE 26 [(268,b2K)],J9⟩
def c3N:FSpec:=bM c0N λx=>yw x
def jm(A:c6F)(B:c6F):c6J:=l9 (yP A B) λx=>some x
def b9E:FQ:=⟨[uD .str,(uD .str)],tR 4 fF,mE 8 [(217,b4Y)],J9⟩
def b2I:FSpec:=bM b9E λx=>jm x.1 x.2
def lX(A:c6F)(B:Int):c6J:=l9 (jm A [46]) λx=>l7 x (l9 (iY A 1) λx=>some (C9 x B)) (some false)
def c0P:FQ:=⟨[uD .str,P7],tR 4 fF,mE 13 [(180,b2I),(268,b2K)],J9⟩
def c3O:FSpec:=bM c0P λx=>lX x.1 x.2
def fK(A:Int):c6K:=some (wL 0 (Dj A 9))
def b9Z:FQ:=⟨[P7],tR 2 P7,mE 6 [],J9⟩
def b4Z:FSpec:=bM b9Z λx=>fK x
def dV(A:c6F)(B:Int):Option H6:=l9 (fK B) λx=>l9 (ou A x) λx=>some x
def b9Y:FQ:=⟨[uD .str,P7],⟨[(.tmp 4,P7),(.tmp 5,P7)],[]⟩,mE 12 [(219,b4Z),(157,b4Q)],J9⟩
def b4X:FSpec:=bM b9Y λx=>dV x.1 x.2
def AL(A:Int)(B:c6F):Option H6:=l7 (C9 A 5) (l9 (xn B) λx=>l7 (C9 x.2 0) (l7 (I5 109572 x.1) (some (x.1,3)) (some x)) (some x)) (l7 (C9 A 3) (l9 (dV B 2) λx=>l7 (C9 x.2 0) (l7 (I5 1000000000000000 x.1) (some (x.1,3)) (some x)) (some x)) (l7 (C9 A 4) (l9 (gy B 0 (N9 .i64 (A7 B) 1)) λx=>l9 (dV x 4) λx=>l7 (C9 x.2 0) (l7 (I5 1000000000 x.1) (some (x.1,3)) (some x)) (some x)) (l9 (jU B) λx=>l7 (C9 x.2 0) (l7 (I5 1000000000000 x.1) (some (x.1,3)) (some x)) (some x))))
def c0Q:FQ:=⟨[P7,(uD .str)],⟨[(.tmp 4,P7),(.tmp 5,P7)],[]⟩,mE 49 [(117,b2B),(213,b4X),(116,b2A)],J9⟩
def c3P:FSpec:=bM c0Q λx=>AL x.1 x.2
def yx(A:c6F):Option (dF×H6):=l9 (l9 (yw A) λx=>l7 (H5 x) (l9 (iY A 0) λx=>l9 (l9 (gy A x (A7 A)) λb=>l9 (lX b 2) λd=>l7 d (some (3,G5 .i64 x 3)) (l9 (gy A x (A7 A)) λc=>l9 (lX c 4) λf=>l7 f (l9 (gy A (G5 .i64 x 5) (A7 A)) λg=>l9 (jm g [37]) λi=>l7 i (some (4,G5 .i64 x 6)) (some (2,x))) (some (2,x)))) λb=>l7 (I5 1 x) (l9 (sat A 0) λx=>l7 (C9 x 48) (some (.inr ((0,[],0,0),0,2))) (some (.inl ((0,[],0,0),b)))) (some (.inl ((0,[],0,0),b)))) (some (.inl ((0,[],0,0),5,10)))) λo=>Z8 o (λ(x:dF×H6)=>l9 (l7 (I5 x.2.2 (A7 A)) (l9 (sat A x.2.2) λb=>l9 (kS b) λd=>l7 d (some (.inr ((0,[],0,0),0,2))) (l7 (U7 65 b) (l7 (U7 b 90) (some (.inr ((0,[],0,0),0,2))) (l9 (fJ b) λc=>l7 c (some (.inr ((0,[],0,0),0,2))) (l7 (C9 b 95) (some (.inr ((0,[],0,0),0,2))) (l7 (C9 b 46) (some (.inr ((0,[],0,0),0,2))) (some (.inl x.1)))))) (l9 (fJ b) λc=>l7 c (some (.inr ((0,[],0,0),0,2))) (l7 (C9 b 95) (some (.inr ((0,[],0,0),0,2))) (l7 (C9 b 46) (some (.inr ((0,[],0,0),0,2))) (some (.inl x.1))))))) (some (.inl x.1))) λo=>Z8 o (λ(b:dF)=>l9 (gy A 0 x.2.2) λd=>l9 (AL x.2.1 d) λc=>l7 (H5 (C9 c.2 0)) (some ((0,[],0,0),0,3)) (l9 (gy A 0 x.2.2) λf=>some ((x.2.1,f,c.1,0),x.2.2,0))) λr=>some r) λr=>some r
def c0o:FQ:=⟨[uD .str],⟨[(.cell 2 304,tD y76),(.tmp 3,P7),(.tmp 4,P7)],[]⟩,mE 94 [(267,c3N),(268,b2K),(269,c3O),(180,b2I),(99,s99),(140,a9o),(270,c3P)],sN 2 (dW (jnR [(2,8),(11,46),(4000128,4000129)] ⟨[(2,(false,(.box (dT y76)))),(5,P7),(6,P7)],[]⟩ (sN 1 (.cond (sN 1 (dW (.join [(5,7),(16,38)] ⟨[(5,P7),(6,P7)],[]⟩ J9) J9)) J9))) (dW (jnR [(2,5),(8,9),(46,76),(9000000,9000001)] ⟨[(2,(false,(.box (dT y76))))],[]⟩ J9) J9))⟩
def c3s:FSpec:=bM c0o λx=>yx x
def b8t:List MG:=[(false,(.dat .str)),(false,(.dat .str))]
def c3Q:FSpec:=⟨b8t,[P7],[],λx=>xX x.1 x.2⟩
def yz(A:c6F):Option (dF×H6):=l9 (gy A 1 (A7 A)) λx=>l9 (xX x [34,10]) λx=>l7 (I5 x 0) (some ((0,[],0,0),0,5)) (l9 (sat A (G5 .i64 1 x)) λc=>l7 (C9 c 10) (some ((0,[],0,0),0,5)) (l9 (gy A 1 (G5 .i64 1 x)) λb=>l9 (V4 (λ(x:dF×Int)=>l7 (I5 x.2 (A7 b)) (l9 (sat b x.2) λd=>l7 (I5 d 32) (some (.rt ((0,[],0,0),0,2))) (l9 (sat b x.2) λf=>l7 (I5 126 f) (some (.rt ((0,[],0,0),0,2))) (some (.nx (x.1,G5 .i64 x.2 1))))) (some (.ex x.1))) ((0,[],0,0),0)) λo=>Z8 o (λ(y:dF)=>l7 (I5 64 x) (some ((0,[],0,0),0,4)) (some ((6,b,0,0),G5 .i64 x 2,0))) λr=>some r))
def c0p:FQ:=⟨[uD .str],⟨[(.cell 2 304,tD y76),(.tmp 3,P7),(.tmp 4,P7)],[]⟩,mE 49 [(271,c3Q)],sN 4 (dW (sN 1 (lM (lpR [(2,5),(7,8),(27,42),(4000128,4000129)] ⟨[(2,(false,(.box (dT y76)))),(27,P7)],[]⟩ 0 ⟨[(2,(false,(.box (dT y76))))],[]⟩ J9))) J9)⟩
def c3t:FSpec:=bM c0p λx=>yz x
def ES(A:c6F):Option (dF×H6):=l9 (sat A 0) λx=>l7 (C9 x 10) (l9 (gy A 0 1) λx=>some ((8,x,0,0),1,0)) (l9 (kS x) λd=>l7 d (l9 (AP A) λx=>some x) (l9 (fJ x) λf=>l7 f (l9 (yx A) λx=>some x) (l7 (C9 x 34) (l9 (yz A) λx=>some x) (l7 (C9 x 60) (l9 (gy A 1 (A7 A)) λb=>l9 (jm b [61]) λc=>l7 c (l9 (gy A 0 2) λx=>some ((7,x,0,0),2,0)) (l7 (C9 x 33) (some ((0,[],0,0),0,2)) (l9 (gy A 0 1) λx=>some ((7,x,0,0),1,0)))) (l7 (C9 x 61) (l9 (gy A 1 (A7 A)) λb=>l9 (jm b [61]) λc=>l7 c (l9 (gy A 0 2) λx=>some ((7,x,0,0),2,0)) (l7 (C9 x 33) (some ((0,[],0,0),0,2)) (l9 (gy A 0 1) λx=>some ((7,x,0,0),1,0)))) (l7 (C9 x 33) (l9 (gy A 1 (A7 A)) λb=>l9 (jm b [61]) λc=>l7 c (l9 (gy A 0 2) λx=>some ((7,x,0,0),2,0)) (l7 (C9 x 33) (some ((0,[],0,0),0,2)) (l9 (gy A 0 1) λx=>some ((7,x,0,0),1,0)))) (l9 (Bj [40,41,44,58,43,45,42] x) λx=>l7 (U7 0 x) (l9 (gy A 0 1) λx=>some ((7,x,0,0),1,0)) (some ((0,[],0,0),0,2)))))))))
def b9T:FQ:=⟨[uD .str],⟨[(.cell 2 304,tD y76),(.tmp 3,P7),(.tmp 4,P7)],[]⟩,mE 66 [(99,s99),(140,a9o),(236,c3u),(233,c3r),(234,c3s),(235,c3t),(180,b2I)],J9⟩
def c3f:FSpec:=bM b9T λx=>ES x
def xH(A:c6F):Option (List dF×H6):=l7 (I5 65536 (A7 A)) (some ([],0,4)) (l9 (BX A 0) λx=>l9 (V4 (λ(x:List dF×Int)=>l7 (I5 x.2 (A7 A)) (l9 (gy A x.2 (A7 A)) λc=>l9 (ES c) λb=>l7 (H5 (C9 b.2.2 0)) (some (.rt ([],x.2,b.2.2))) (l9 (eG x.1 [(b.1.1,b.1.2.1,b.1.2.2.1,x.2)]) λd=>l9 (BX A (G5 .i64 x.2 b.2.1)) λx=>some (.nx (d,x)))) (some (.ex x.1))) ([],x)) λo=>Z8 o (λ(y:List dF)=>some (y,0,0)) λr=>some r)
def b9o:FQ:=⟨[uD .str],⟨[(.tmp 2,uO y76),(.tmp 3,P7),(.tmp 4,P7)],[]⟩,mE 43 [(205,c3e),(206,c3f)],sN 4 (dW (lM (lpR [(2,10),(15,42)] ⟨[(5,(uO y76)),(6,P7)],[]⟩ 0 ⟨[(5,(uO y76))],[]⟩ J9)) J9)⟩
def c2G:FSpec:=bM b9o λx=>xH x
def az(A:A8)(B:Int):Option (dF×A8):=l7 (I5 (G5 .i64 A.2.1 B) (A7 A.1)) (l9 (P5 A.1 (G5 .i64 A.2.1 B)) λx=>some (x,A)) (some ((0,[],0,0),A))
def c0r:FQ:=⟨[(false,(.box (pA (dT pW) (pA O7 (pA O7 (pA (dT nI) (pA (oW y2) (pA O7 O7)))))))),P7],⟨[(.cell 4 304,tD y76)],[(0,(true,(pA (dT pW) (pA O7 (pA O7 (pA (dT nI) (pA (oW y2) (pA O7 O7))))))))]⟩,⟨30,eqs,tt,gl,[],[],[],[],[0],[],[]⟩,J9⟩
def a0T:FSpec:=bM c0r λx=>az x.1 x.2
def jC(A:A8)(B:Int)(C:c6F):Option (Bool×A8):=l9 (az A 0) λx=>l7 (C9 x.1.1 B) (some (seq x.1.2.1 C,x.2)) (some (false,x.2))
def b9U:FQ:=⟨[(false,(.box (pA (dT pW) (pA O7 (pA O7 (pA (dT nI) (pA (oW y2) (pA O7 O7)))))))),P7,(uD .str)],⟨[(.tmp 6,fF)],[(0,(true,(pA (dT pW) (pA O7 (pA O7 (pA (dT nI) (pA (oW y2) (pA O7 O7))))))))]⟩,⟨20,eqs,tt,gl,[(237,a0T)],[],[],[],[0],[],[]⟩,J9⟩
def a9C:FSpec:=bM b9U λx=>jC x.1 x.2.1 x.2.2
def kW(A:dF):c6K:=l7 (C9 A.1 2) (some 2) (l7 (C9 A.1 3) (some 3) (l7 (C9 A.1 4) (some 4) (some 0)))
def c0R:FQ:=⟨[tD y76],tR 2 P7,mE 11 [],J9⟩
def b5g:FSpec:=bM c0R λx=>kW x
def I4(A:A8)(B:Int)(C:Int):Option (Bool×A8):=l9 (eG A.2.2.2.2.1 [(B,C)]) λx=>some (true,A.1,A.2.1,A.2.2.1,A.2.2.2.1,x,A.2.2.2.2.2)
def b9W:FQ:=⟨[(false,(.box (pA (dT pW) (pA O7 (pA O7 (pA (dT nI) (pA (oW y2) (pA O7 O7)))))))),P7,P7],⟨[(.tmp 6,fF)],[(0,(true,(pA (dT pW) (pA O7 (pA O7 (pA (dT nI) (pA (oW y2) (pA O7 O7))))))))]⟩,⟨19,eqs,tt,gl,[],[],[],[],[0],[],[]⟩,J9⟩
def a2X:FSpec:=bM b9W λx=>I4 x.1 x.2.1 x.2.2
def ae(A:A8)(B:Int):Option (Bool×A8):=l7 (I5 A.2.1 (A7 A.1)) (l9 (P5 A.1 A.2.1) λx=>some (false,A.1,A.2.1,A.2.2.1,A.2.2.2.1,A.2.2.2.2.1,x.2.2.2,B)) (some (false,A.1,A.2.1,A.2.2.1,A.2.2.2.1,A.2.2.2.2.1,A.2.2.1,B))
def b9p:FQ:=⟨[(false,(.box (pA (dT pW) (pA O7 (pA O7 (pA (dT nI) (pA (oW y2) (pA O7 O7)))))))),P7],⟨[(.tmp 4,fF)],[(0,(true,(pA (dT pW) (pA O7 (pA O7 (pA (dT nI) (pA (oW y2) (pA O7 O7))))))))]⟩,⟨40,eqs,tt,gl,[],[],[],[],[0],[],[]⟩,J9⟩
def a2V:FSpec:=bM b9p λx=>ae x.1 x.2
def fZ(A:A8)(B:Int)(C:c6F):Option (Bool×A8):=l9 (jC A B C) λx=>l7 (H5 x.1) (l9 (ae x.2 2) λx=>some x) (some (true,x.2.1,G5 .i64 x.2.2.1 1,x.2.2.2))
def b9V:FQ:=⟨[(false,(.box (pA (dT pW) (pA O7 (pA O7 (pA (dT nI) (pA (oW y2) (pA O7 O7)))))))),P7,(uD .str)],⟨[(.tmp 6,fF)],[(0,(true,(pA (dT pW) (pA O7 (pA O7 (pA (dT nI) (pA (oW y2) (pA O7 O7))))))))]⟩,⟨21,eqs,tt,gl,[(207,a9C),(162,a2V)],[],[],[],[0],[],[]⟩,J9⟩
def b4W:FSpec:=bM b9V λx=>fZ x.1 x.2.1 x.2.2
def U9(A:A8)(B:c6F):Option (Bool×A8):=l9 (fZ A 7 B) λx=>some x
def c1d:FQ:=⟨[(false,(.box (pA (dT pW) (pA O7 (pA O7 (pA (dT nI) (pA (oW y2) (pA O7 O7)))))))),(uD .str)],⟨[(.tmp 4,fF)],[(0,(true,(pA (dT pW) (pA O7 (pA O7 (pA (dT nI) (pA (oW y2) (pA O7 O7))))))))]⟩,⟨8,eqs,tt,gl,[(209,b4W)],[],[],[],[0],[],[]⟩,J9⟩
def b5k:FSpec:=bM c1d λx=>U9 x.1 x.2
def iH(A:Int):Option c6F:=l7 (C9 A 14) (some [115,104,97,114,101]) (l7 (C9 A 15) (some [100,105,118]) (l7 (C9 A 16) (some [114,111,117,110,100]) (l7 (C9 A 17) (some [109,105,110]) (l7 (C9 A 18) (some [109,97,120]) (l7 (C9 A 27) (some [112,108,117,115]) (l7 (C9 A 28) (some [109,111,110,116,104,115]) (l7 (C9 A 29) (some [100,97,121,115]) (l7 (C9 A 30) (some [121,101,97,114,115]) (l7 (C9 A 31) (some [121,101,97,114]) (l7 (C9 A 32) (some [109,111,110,116,104]) (l7 (C9 A 33) (some [116,97,98]) (l7 (C9 A 34) (some [98,97,110,100]) (l7 (C9 A 35) (some [99,111,117,110,116]) (l7 (C9 A 36) (some [115,117,109]) (l7 (C9 A 37) (some [97,108,108]) (l7 (C9 A 38) (some [97,110,121]) (l7 (C9 A 39) (some [109,111,115,116]) (some []))))))))))))))))))
def b9y:FQ:=⟨[P7],tR 2 (uD .str),mE 40 [],J9⟩
def a9w:FSpec:=bM b9y λx=>iH x
def vX(A:c6F):c6K:=l9 (V4 (λ(x:Int)=>l7 (U7 x 39) (l7 (H5 (seq A [])) (l9 (iH x) λb=>l7 (seq b A) (some (.rt x)) (some (.nx (G5 .i64 x 1)))) (some (.nx (G5 .i64 x 1)))) (some (.ex ()))) 10) λo=>Z8 o (λy=>some 0) λr=>some r
def c1f:FQ:=⟨[uD .str],tR 2 P7,mE 17 [(173,a9w)],sN 1 (dW (sN 1 (lM (lpR [(2,17)] ⟨[(3,P7)],[]⟩ 0 sgN J9))) J9)⟩
def c3Y:FSpec:=bM c1f λx=>vX x
def gm(A:A8)(B:List c6F):Option (Int×Bool×A8):=l9 (az A 0) λx=>l7 (H5 (C9 x.1.1 1)) (l9 (ae x.2 2) λx=>some (0,x)) (l9 (X6 x.1.2.1) λc=>l7 (H5 c) (l9 (ae x.2 2) λx=>some (0,x)) (l9 (cu B x.1.2.1) λb=>l7 (I5 b 0) (l9 (ae x.2 6) λx=>some (0,x)) (some (b,true,x.2.1,G5 .i64 x.2.2.1 1,x.2.2.2))))
def c1o:FQ:=⟨[(false,(.box (pA (dT pW) (pA O7 (pA O7 (pA (dT nI) (pA (oW y2) (pA O7 O7)))))))),(uD (.sl .str))],⟨[(.tmp 4,P7),(.tmp 5,fF)],[(0,(true,(pA (dT pW) (pA O7 (pA O7 (pA (dT nI) (pA (oW y2) (pA O7 O7))))))))]⟩,⟨37,eqs,tt,gl,[(237,a0T),(55,s55),(162,a2V),(138,b2G)],[],[],[],[0],[],[]⟩,J9⟩
def b5l:FSpec:=bM c1o λx=>gm x.1 x.2
def eY(A:Int):Option c6F:=l7 (C9 A 0) (some [100,111,119,110]) (l7 (C9 A 1) (some [117,112]) (l7 (C9 A 2) (some [122,101,114,111]) (l7 (C9 A 3) (some [97,119,97,121]) (l7 (C9 A 4) (some [104,97,108,102]) (l7 (C9 A 5) (some [101,118,101,110]) (some []))))))
def b9z:FQ:=⟨[P7],tR 2 (uD .str),mE 16 [],J9⟩
def b2H:FSpec:=bM b9z λx=>eY x
def zn(A:c6F):c6K:=l9 (V4 (λ(x:Int)=>l7 (U7 x 5) (l9 (eY x) λb=>l7 (seq b A) (some (.rt x)) (some (.nx (G5 .i64 x 1)))) (some (.ex ()))) 0) λo=>Z8 o (λy=>some (-1)) λr=>some r
def c1B:FQ:=⟨[uD .str],tR 2 P7,mE 13 [(174,b2H)],sN 1 (dW (sN 1 (lM (lpR [(2,13)] ⟨[(3,P7)],[]⟩ 0 sgN J9))) J9)⟩
def c4j:FSpec:=bM c1B λx=>zn x
def bz(A:A8):Option (Int×Bool×A8):=l9 (az A 0) λx=>l9 (zn x.1.2.1) λb=>l7 (H5 (C9 x.1.1 1)) (l9 (ae x.2 2) λx=>some (0,x)) (l7 (I5 b 0) (l9 (ae x.2 2) λx=>some (0,x)) (some (b,true,x.2.1,G5 .i64 x.2.2.1 1,x.2.2.2)))
def c1p:FQ:=⟨[(false,(.box (pA (dT pW) (pA O7 (pA O7 (pA (dT nI) (pA (oW y2) (pA O7 O7))))))))],⟨[(.tmp 2,P7),(.tmp 3,fF)],[(0,(true,(pA (dT pW) (pA O7 (pA O7 (pA (dT nI) (pA (oW y2) (pA O7 O7))))))))]⟩,⟨28,eqs,tt,gl,[(237,a0T),(337,c4j),(162,a2V)],[],[],[],[0],[],[]⟩,J9⟩
def c4f:FSpec:=bM c1p λx=>bz x
def vG(A:bK)(B:dF):c6J:=some (seq A.1 B.2.1)
def a8N:FQ:=⟨[tD y0,(false,(.rp y76))],tR 3 fF,mE 9 [],J9⟩
def a3a:FSpec:=bM a8N λx=>vG x.1 x.2
def gV(A:List bK)(B:dF):c6K:=l9 (V4 (λ(x:Int)=>l7 (I5 x (A7 A)) (l9 (P5 A x) λb=>l9 (vG b B) λc=>l7 c (some (.rt x)) (some (.nx (G5 .i64 x 1)))) (some (.ex ()))) 0) λo=>Z8 o (λy=>some (-1)) λr=>some r
def a8z:FQ:=⟨[uD y1,(false,(.fn 325 [y76]))],tR 4 P7,mE 19 [(325,a3a)],sN 1 (dW (sN 1 (lM (lpR [(4,6),(8,19)] ⟨[(8,P7)],[]⟩ 0 sgN J9))) J9)⟩
def a9q:FSpec:=bM a8z λx=>gV x.1 x.2
def sZ(A:A8):Option (Bool×A8):=l9 (az A 0) λx=>l9 (az x.2 1) λb=>l9 (X6 x.1.2.1) λd=>l7 (H5 d) (l9 (ae b.2 2) λx=>some x) (l9 (l7 (C9 b.1.1 7) (some (seq b.1.2.1 [58])) (some false)) λf=>l7 f (l9 (gV b.2.2.2.2.1.1 x.1) λx=>l7 (I5 x 0) (l9 (ae b.2 6) λx=>some x) (l9 (P5 b.2.2.2.2.1.1 x) λg=>l9 (gm (b.2.1,G5 .i64 b.2.2.1 2,b.2.2.2) g.2) λc=>l7 c.2.1 (l9 (I4 c.2.2 6 (G5 .i64 (mY .i64 16 x) c.1)) λx=>some x) (some (false,c.2.2)))) (l9 (cu b.2.2.2.2.1.2.2.1 x.1.2.1) λx=>l7 (U7 0 x) (l9 (I4 (b.2.1,G5 .i64 b.2.2.1 1,b.2.2.2) 7 x) λx=>some x) (l9 (gm b.2 b.2.2.2.2.1.2.2.2.1) λx=>l7 x.2.1 (l9 (I4 x.2.2 8 x.1) λx=>some x) (some (false,x.2.2)))))
def c1g:FQ:=⟨[(false,(.box (pA (dT pW) (pA O7 (pA O7 (pA (dT nI) (pA (oW y2) (pA O7 O7))))))))],⟨[(.tmp 2,fF)],[(0,(true,(pA (dT pW) (pA O7 (pA O7 (pA (dT nI) (pA (oW y2) (pA O7 O7))))))))]⟩,⟨106,eqs,tt,gl,[(237,a0T),(55,s55),(162,a2V),(325,a3a),(141,a9q),(323,b5l),(210,a2X),(138,b2G)],[],[],[],[0],[],[]⟩,sN 3 (dW (dW (.join [(21,29)] ⟨[(28,fF)],[]⟩ J9) J9) J9)⟩
def c3Z:FSpec:=bM c1g λx=>sZ x
def gY(A:Int):Option (c6F×Int):=l7 (C9 A 24) (some ([111,114],1)) (l7 (C9 A 23) (some ([97,110,100],2)) (l7 (C9 A 19) (some ([61,61],3)) (l7 (C9 A 20) (some ([33,61],3)) (l7 (C9 A 21) (some ([60],3)) (l7 (C9 A 22) (some ([60,61],3)) (l7 (C9 A 11) (some ([43],4)) (l7 (C9 A 12) (some ([45],4)) (l7 (C9 A 13) (some ([42],5)) (some ([],0))))))))))
def b9B:FQ:=⟨[P7],⟨[(.tmp 2,(uD .str)),(.tmp 3,P7)],[]⟩,mE 23 [],J9⟩
def b4U:FSpec:=bM b9B λx=>gY x
def ku(A:dF):Option H6:=l7 (H5 (C9 A.1 7)) (l7 (H5 (C9 A.1 1)) (some (0,0)) (l9 (V4 (λ(x:Int)=>l7 (U7 x 24) (l9 (gY x) λb=>l7 (H5 (seq b.1 [])) (l7 (seq b.1 A.2.1) (some (.rt (x,b.2))) (some (.nx (G5 .i64 x 1)))) (some (.nx (G5 .i64 x 1)))) (some (.ex ()))) 11) λo=>Z8 o (λy=>some (0,0)) λr=>some r)) (l9 (V4 (λ(x:Int)=>l7 (U7 x 24) (l9 (gY x) λb=>l7 (H5 (seq b.1 [])) (l7 (seq b.1 A.2.1) (some (.rt (x,b.2))) (some (.nx (G5 .i64 x 1)))) (some (.nx (G5 .i64 x 1)))) (some (.ex ()))) 11) λo=>Z8 o (λy=>some (0,0)) λr=>some r)
def c0s:FQ:=⟨[tD y76],⟨[(.tmp 2,P7),(.tmp 3,P7)],[]⟩,mE 34 [(176,b4U)],sN 2 (dW (sN 1 (lM (lpR [(2,7),(15,34)] ⟨[(4,P7)],[]⟩ 0 sgN J9))) J9)⟩
def c3v:FSpec:=bM c0s λx=>ku x
def Yb:List MG:=[(false,(.box (.pair (.dat pW) (.pair O7 (.pair O7 (.pair (.dat nI) (.pair (.own y2) (.pair O7 O7))))))))]
def a4M:List MG:=[(false,(.box (.pair (.dat pW) (.pair O7 (.pair O7 (.pair (.dat nI) (.pair (.own y2) (.pair O7 O7)))))))),P7]
def a4N:List MG:=[(false,(.box (.pair (.dat pW) (.pair O7 (.pair O7 (.pair (.dat nI) (.pair (.own y2) (.pair O7 O7))))))))]
def a8o:List MG:=[(false,(.box (.pair (.dat pW) (.pair O7 (.pair O7 (.pair (.dat nI) (.pair (.own y2) (.pair O7 O7))))))))]
def a8p:List MG:=[(false,(.box (.pair (.dat pW) (.pair O7 (.pair O7 (.pair (.dat nI) (.pair (.own y2) (.pair O7 O7)))))))),P7]
def b3y:Ret:=⟨[(.tmp 2,fF)],[(0,(true,(.pair (.dat pW) (.pair O7 (.pair O7 (.pair (.dat nI) (.pair (.own y2) (.pair O7 O7))))))))]⟩
def c5S (r161:M.den (.box (.pair (.dat pW) (.pair O7 (.pair O7 (.pair (.dat nI) (.pair (.own y2) (.pair O7 O7)))))))->Option (U0 ([fF]++[(true,(.pair (.dat pW) (.pair O7 (.pair O7 (.pair (.dat nI) (.pair (.own y2) (.pair O7 O7)))))))]))) (r208:M.den (.box (.pair (.dat pW) (.pair O7 (.pair O7 (.pair (.dat nI) (.pair (.own y2) (.pair O7 O7)))))))->M.den O7->Option (U0 ([fF]++[(true,(.pair (.dat pW) (.pair O7 (.pair O7 (.pair (.dat nI) (.pair (.own y2) (.pair O7 O7)))))))]))) (r238:M.den (.box (.pair (.dat pW) (.pair O7 (.pair O7 (.pair (.dat nI) (.pair (.own y2) (.pair O7 O7)))))))->Option (U0 ([fF]++[(true,(.pair (.dat pW) (.pair O7 (.pair O7 (.pair (.dat nI) (.pair (.own y2) (.pair O7 O7)))))))]))) (r273:M.den (.box (.pair (.dat pW) (.pair O7 (.pair O7 (.pair (.dat nI) (.pair (.own y2) (.pair O7 O7)))))))->Option (U0 ([fF]++[(true,(.pair (.dat pW) (.pair O7 (.pair O7 (.pair (.dat nI) (.pair (.own y2) (.pair O7 O7)))))))]))) (r305:M.den (.box (.pair (.dat pW) (.pair O7 (.pair O7 (.pair (.dat nI) (.pair (.own y2) (.pair O7 O7)))))))->M.den O7->Option (U0 ([fF]++[(true,(.pair (.dat pW) (.pair O7 (.pair O7 (.pair (.dat nI) (.pair (.own y2) (.pair O7 O7)))))))]))):Env:=⟨37,eqs,tt,gl,[(207,a9C),(208,⟨a4M,[fF],[(true,(.pair (.dat pW) (.pair O7 (.pair O7 (.pair (.dat nI) (.pair (.own y2) (.pair O7 O7)))))))],λx=>r208 x.1 x.2⟩),(161,⟨Yb,[fF],[(true,(.pair (.dat pW) (.pair O7 (.pair O7 (.pair (.dat nI) (.pair (.own y2) (.pair O7 O7)))))))],λx=>r161 x⟩),(209,b4W),(210,a2X)],[],[],[],[0],[],[]⟩
def b7A:Ann:=.leaf
def mX(r161:A8->Option (Bool×A8))(r208:A8->Int->Option (Bool×A8))(r238:A8->Option (Bool×A8))(r273:A8->Option (Bool×A8))(r305:A8->Int->Option (Bool×A8))(A:A8):Option (Bool×A8):=l9 (jC A 1 [105,102]) λx=>l7 (H5 x.1) (l9 (r208 x.2 1) λx=>some x) (l9 (r161 (x.2.1,G5 .i64 x.2.2.1 1,x.2.2.2)) λx=>l7 x.1 (l9 (fZ x.2 1 [116,104,101,110]) λx=>l7 x.1 (l9 (r161 x.2) λx=>l7 x.1 (l9 (fZ x.2 1 [101,108,115,101]) λx=>l7 x.1 (l9 (r161 x.2) λx=>l7 x.1 (l9 (I4 x.2 26 0) λx=>some x) (some (false,x.2))) (some (false,x.2))) (some (false,x.2))) (some (false,x.2))) (some (false,x.2)))
def c1O:Ret:=⟨[(.tmp 4,fF)],[(0,(true,(.pair (.dat pW) (.pair O7 (.pair O7 (.pair (.dat nI) (.pair (.own y2) (.pair O7 O7))))))))]⟩
def c5V (r161:M.den (.box (.pair (.dat pW) (.pair O7 (.pair O7 (.pair (.dat nI) (.pair (.own y2) (.pair O7 O7)))))))->Option (U0 ([fF]++[(true,(.pair (.dat pW) (.pair O7 (.pair O7 (.pair (.dat nI) (.pair (.own y2) (.pair O7 O7)))))))]))) (r208:M.den (.box (.pair (.dat pW) (.pair O7 (.pair O7 (.pair (.dat nI) (.pair (.own y2) (.pair O7 O7)))))))->M.den O7->Option (U0 ([fF]++[(true,(.pair (.dat pW) (.pair O7 (.pair O7 (.pair (.dat nI) (.pair (.own y2) (.pair O7 O7)))))))]))) (r238:M.den (.box (.pair (.dat pW) (.pair O7 (.pair O7 (.pair (.dat nI) (.pair (.own y2) (.pair O7 O7)))))))->Option (U0 ([fF]++[(true,(.pair (.dat pW) (.pair O7 (.pair O7 (.pair (.dat nI) (.pair (.own y2) (.pair O7 O7)))))))]))) (r273:M.den (.box (.pair (.dat pW) (.pair O7 (.pair O7 (.pair (.dat nI) (.pair (.own y2) (.pair O7 O7)))))))->Option (U0 ([fF]++[(true,(.pair (.dat pW) (.pair O7 (.pair O7 (.pair (.dat nI) (.pair (.own y2) (.pair O7 O7)))))))]))) (r305:M.den (.box (.pair (.dat pW) (.pair O7 (.pair O7 (.pair (.dat nI) (.pair (.own y2) (.pair O7 O7)))))))->M.den O7->Option (U0 ([fF]++[(true,(.pair (.dat pW) (.pair O7 (.pair O7 (.pair (.dat nI) (.pair (.own y2) (.pair O7 O7)))))))]))):Env:=⟨49,eqs,tt,gl,[(238,⟨a4N,[fF],[(true,(.pair (.dat pW) (.pair O7 (.pair O7 (.pair (.dat nI) (.pair (.own y2) (.pair O7 O7)))))))],λx=>r238 x⟩),(237,a0T),(239,c3v),(208,⟨a4M,[fF],[(true,(.pair (.dat pW) (.pair O7 (.pair O7 (.pair (.dat nI) (.pair (.own y2) (.pair O7 O7)))))))],λx=>r208 x.1 x.2⟩),(210,a2X)],[],[],[],[0],[],[]⟩
def b7C:Ann:=.seq J9 (.seq J9 (.seq J9 (.blk (.loopR [(0,1),(4,8),(11,49),(1000000,1000001),(8000576,8000577)] ⟨[(0,(false,(.box (.pair (.dat pW) (.pair O7 (.pair O7 (.pair (.dat nI) (.pair (.own y2) (.pair O7 O7))))))))),(5,P7)],[]⟩ 999999 ⟨[],[]⟩ (.blk (.seq J9 (.seq (.joinR [(4,5),(17,29)] ⟨[],[]⟩ J9) J9)))))))
def DT(r161:A8->Option (Bool×A8))(r208:A8->Int->Option (Bool×A8))(r238:A8->Option (Bool×A8))(r273:A8->Option (Bool×A8))(r305:A8->Int->Option (Bool×A8))(A:A8)(B:Int):Option (Bool×A8):=l9 (r238 A) λx=>l7 (H5 x.1) (some (false,x.2)) (l9 (V4 (λ(x:A8×Int)=>l9 (az x.1 0) λc=>l9 (ku c.1) λb=>l9 (l7 (C9 b.1 0) (some (.inr (true,c.2))) (l7 (I5 b.2 B) (some (.inr (true,c.2))) (l7 (I5 x.2 b.2) (some (.inr (true,c.2))) (some (.inl ()))))) λo=>Z8 o (λx=>l9 (r208 (c.2.1,G5 .i64 c.2.2.1 1,c.2.2.2) (G5 .i64 b.2 1)) λx=>l7 (H5 x.1) (some (.rt (false,x.2))) (l9 (I4 x.2 b.1 0) λx=>l7 (C9 b.2 3) (some (.nx (x.2,N9 .i64 b.2 1))) (some (.nx (x.2,b.2))))) λr=>some (.rt r)) (x.2,5)) λo=>Z8 o (λ(y:PUnit)=>none) λr=>some r)
def c1Q:Ret:=⟨[(.tmp 2,fF)],[(0,(true,(.pair (.dat pW) (.pair O7 (.pair O7 (.pair (.dat nI) (.pair (.own y2) (.pair O7 O7))))))))]⟩
def c5X (r161:M.den (.box (.pair (.dat pW) (.pair O7 (.pair O7 (.pair (.dat nI) (.pair (.own y2) (.pair O7 O7)))))))->Option (U0 ([fF]++[(true,(.pair (.dat pW) (.pair O7 (.pair O7 (.pair (.dat nI) (.pair (.own y2) (.pair O7 O7)))))))]))) (r208:M.den (.box (.pair (.dat pW) (.pair O7 (.pair O7 (.pair (.dat nI) (.pair (.own y2) (.pair O7 O7)))))))->M.den O7->Option (U0 ([fF]++[(true,(.pair (.dat pW) (.pair O7 (.pair O7 (.pair (.dat nI) (.pair (.own y2) (.pair O7 O7)))))))]))) (r238:M.den (.box (.pair (.dat pW) (.pair O7 (.pair O7 (.pair (.dat nI) (.pair (.own y2) (.pair O7 O7)))))))->Option (U0 ([fF]++[(true,(.pair (.dat pW) (.pair O7 (.pair O7 (.pair (.dat nI) (.pair (.own y2) (.pair O7 O7)))))))]))) (r273:M.den (.box (.pair (.dat pW) (.pair O7 (.pair O7 (.pair (.dat nI) (.pair (.own y2) (.pair O7 O7)))))))->Option (U0 ([fF]++[(true,(.pair (.dat pW) (.pair O7 (.pair O7 (.pair (.dat nI) (.pair (.own y2) (.pair O7 O7)))))))]))) (r305:M.den (.box (.pair (.dat pW) (.pair O7 (.pair O7 (.pair (.dat nI) (.pair (.own y2) (.pair O7 O7)))))))->M.den O7->Option (U0 ([fF]++[(true,(.pair (.dat pW) (.pair O7 (.pair O7 (.pair (.dat nI) (.pair (.own y2) (.pair O7 O7)))))))]))):Env:=⟨57,eqs,tt,gl,[(207,a9C),(237,a0T),(272,b5g),(210,a2X),(238,⟨a4N,[fF],[(true,(.pair (.dat pW) (.pair O7 (.pair O7 (.pair (.dat nI) (.pair (.own y2) (.pair O7 O7)))))))],λx=>r238 x⟩),(273,⟨a8o,[fF],[(true,(.pair (.dat pW) (.pair O7 (.pair O7 (.pair (.dat nI) (.pair (.own y2) (.pair O7 O7)))))))],λx=>r273 x⟩)],[],[],[],[0],[],[]⟩
def b7E:Ann:=.leaf
def qU(r161:A8->Option (Bool×A8))(r208:A8->Int->Option (Bool×A8))(r238:A8->Option (Bool×A8))(r273:A8->Option (Bool×A8))(r305:A8->Int->Option (Bool×A8))(A:A8):Option (Bool×A8):=l9 (jC A 7 [45]) λx=>l7 x.1 (l9 (az x.2 1) λx=>l9 (kW x.1) λb=>l7 (H5 (C9 b 0)) (l9 (kW x.1) λc=>l9 (I4 (x.2.1,G5 .i64 x.2.2.1 2,x.2.2.2) c (N9 .i64 0 x.1.2.2.1)) λx=>some x) (l9 (r238 (x.2.1,G5 .i64 x.2.2.1 1,x.2.2.2)) λx=>l7 x.1 (l9 (I4 x.2 10 0) λx=>some x) (some (false,x.2)))) (l9 (jC x.2 1 [110,111,116]) λx=>l7 x.1 (l9 (r238 (x.2.1,G5 .i64 x.2.2.1 1,x.2.2.2)) λx=>l7 x.1 (l9 (I4 x.2 25 0) λx=>some x) (some (false,x.2))) (l9 (r273 x.2) λx=>some x))
def c1R:Ret:=⟨[(.tmp 2,fF)],[(0,(true,(.pair (.dat pW) (.pair O7 (.pair O7 (.pair (.dat nI) (.pair (.own y2) (.pair O7 O7))))))))]⟩
def c5Y (r161:M.den (.box (.pair (.dat pW) (.pair O7 (.pair O7 (.pair (.dat nI) (.pair (.own y2) (.pair O7 O7)))))))->Option (U0 ([fF]++[(true,(.pair (.dat pW) (.pair O7 (.pair O7 (.pair (.dat nI) (.pair (.own y2) (.pair O7 O7)))))))]))) (r208:M.den (.box (.pair (.dat pW) (.pair O7 (.pair O7 (.pair (.dat nI) (.pair (.own y2) (.pair O7 O7)))))))->M.den O7->Option (U0 ([fF]++[(true,(.pair (.dat pW) (.pair O7 (.pair O7 (.pair (.dat nI) (.pair (.own y2) (.pair O7 O7)))))))]))) (r238:M.den (.box (.pair (.dat pW) (.pair O7 (.pair O7 (.pair (.dat nI) (.pair (.own y2) (.pair O7 O7)))))))->Option (U0 ([fF]++[(true,(.pair (.dat pW) (.pair O7 (.pair O7 (.pair (.dat nI) (.pair (.own y2) (.pair O7 O7)))))))]))) (r273:M.den (.box (.pair (.dat pW) (.pair O7 (.pair O7 (.pair (.dat nI) (.pair (.own y2) (.pair O7 O7)))))))->Option (U0 ([fF]++[(true,(.pair (.dat pW) (.pair O7 (.pair O7 (.pair (.dat nI) (.pair (.own y2) (.pair O7 O7)))))))]))) (r305:M.den (.box (.pair (.dat pW) (.pair O7 (.pair O7 (.pair (.dat nI) (.pair (.own y2) (.pair O7 O7)))))))->M.den O7->Option (U0 ([fF]++[(true,(.pair (.dat pW) (.pair O7 (.pair O7 (.pair (.dat nI) (.pair (.own y2) (.pair O7 O7)))))))]))):Env:=⟨126,eqs,tt,gl,[(237,a0T),(272,b5g),(210,a2X),(207,a9C),(161,⟨Yb,[fF],[(true,(.pair (.dat pW) (.pair O7 (.pair O7 (.pair (.dat nI) (.pair (.own y2) (.pair O7 O7)))))))],λx=>r161 x⟩),(303,b5k),(162,a2V),(304,c3Y),(305,⟨a8p,[fF],[(true,(.pair (.dat pW) (.pair O7 (.pair O7 (.pair (.dat nI) (.pair (.own y2) (.pair O7 O7)))))))],λx=>r305 x.1 x.2⟩),(306,c3Z)],[],[],[],[0],[],[]⟩
def b7F:Ann:=.leaf
def rO(r161:A8->Option (Bool×A8))(r208:A8->Int->Option (Bool×A8))(r238:A8->Option (Bool×A8))(r273:A8->Option (Bool×A8))(r305:A8->Int->Option (Bool×A8))(A:A8):Option (Bool×A8):=l9 (az A 0) λx=>l9 (kW x.1) λd=>l7 (H5 (C9 d 0)) (l9 (kW x.1) λb=>l9 (I4 (x.2.1,G5 .i64 x.2.2.1 1,x.2.2.2) b x.1.2.2.1) λx=>some x) (l7 (C9 x.1.1 5) (l9 (I4 (x.2.1,G5 .i64 x.2.2.1 1,x.2.2.2) 5 x.1.2.2.1) λx=>some x) (l9 (jC x.2 7 [40]) λb=>l7 b.1 (l9 (r161 (b.2.1,G5 .i64 b.2.2.1 1,b.2.2.2)) λx=>l7 x.1 (l9 (U9 x.2 [41]) λx=>some x) (some (false,x.2))) (l7 (H5 (C9 x.1.1 1)) (l9 (ae b.2 2) λx=>some x) (l7 (seq x.1.2.1 [116,114,117,101]) (l9 (I4 (b.2.1,G5 .i64 b.2.2.1 1,b.2.2.2) 1 1) λx=>some x) (l7 (seq x.1.2.1 [102,97,108,115,101]) (l9 (I4 (b.2.1,G5 .i64 b.2.2.1 1,b.2.2.2) 1 0) λx=>some x) (l7 (seq x.1.2.1 [116,111,100,97,121]) (l9 (I4 (b.2.1,G5 .i64 b.2.2.1 1,b.2.2.2) 9 0) λx=>some x) (l9 (vX x.1.2.1) λf=>l7 (H5 (C9 f 0)) (l9 (U9 (b.2.1,G5 .i64 b.2.2.1 1,b.2.2.2) [40]) λc=>l7 c.1 (l9 (vX x.1.2.1) λx=>l9 (r305 c.2 x) λx=>l7 x.1 (l9 (U9 x.2 [41]) λx=>some x) (some (false,x.2))) (some (false,c.2))) (l9 (sZ b.2) λx=>some x))))))))
def c1S:Ret:=⟨[(.tmp 4,fF)],[(0,(true,(.pair (.dat pW) (.pair O7 (.pair O7 (.pair (.dat nI) (.pair (.own y2) (.pair O7 O7))))))))]⟩
def c5Z (r161:M.den (.box (.pair (.dat pW) (.pair O7 (.pair O7 (.pair (.dat nI) (.pair (.own y2) (.pair O7 O7)))))))->Option (U0 ([fF]++[(true,(.pair (.dat pW) (.pair O7 (.pair O7 (.pair (.dat nI) (.pair (.own y2) (.pair O7 O7)))))))]))) (r208:M.den (.box (.pair (.dat pW) (.pair O7 (.pair O7 (.pair (.dat nI) (.pair (.own y2) (.pair O7 O7)))))))->M.den O7->Option (U0 ([fF]++[(true,(.pair (.dat pW) (.pair O7 (.pair O7 (.pair (.dat nI) (.pair (.own y2) (.pair O7 O7)))))))]))) (r238:M.den (.box (.pair (.dat pW) (.pair O7 (.pair O7 (.pair (.dat nI) (.pair (.own y2) (.pair O7 O7)))))))->Option (U0 ([fF]++[(true,(.pair (.dat pW) (.pair O7 (.pair O7 (.pair (.dat nI) (.pair (.own y2) (.pair O7 O7)))))))]))) (r273:M.den (.box (.pair (.dat pW) (.pair O7 (.pair O7 (.pair (.dat nI) (.pair (.own y2) (.pair O7 O7)))))))->Option (U0 ([fF]++[(true,(.pair (.dat pW) (.pair O7 (.pair O7 (.pair (.dat nI) (.pair (.own y2) (.pair O7 O7)))))))]))) (r305:M.den (.box (.pair (.dat pW) (.pair O7 (.pair O7 (.pair (.dat nI) (.pair (.own y2) (.pair O7 O7)))))))->M.den O7->Option (U0 ([fF]++[(true,(.pair (.dat pW) (.pair O7 (.pair O7 (.pair (.dat nI) (.pair (.own y2) (.pair O7 O7)))))))]))):Env:=⟨130,eqs,tt,gl,[(210,a2X),(323,b5l),(303,b5k),(161,⟨Yb,[fF],[(true,(.pair (.dat pW) (.pair O7 (.pair O7 (.pair (.dat nI) (.pair (.own y2) (.pair O7 O7)))))))],λx=>r161 x⟩),(324,c4f)],[],[],[],[0],[],[]⟩
def b7G:Ann:=.seq J9 (.seq (.joinR [(0,1),(4,10),(12,89),(1000000,1000002)] ⟨[(0,(false,(.box (.pair (.dat pW) (.pair O7 (.pair O7 (.pair (.dat nI) (.pair (.own y2) (.pair O7 O7)))))))))],[]⟩ (.seq J9 (.blk (.seq J9 (.cond J9 (.seq (.join [(18,23)] ⟨[(18,fF)],[]⟩ J9) (.cond J9 (.seq (.join [(40,43)] ⟨[(40,fF)],[]⟩ J9) J9)))))))) J9)
def rP(r161:A8->Option (Bool×A8))(r208:A8->Int->Option (Bool×A8))(r238:A8->Option (Bool×A8))(r273:A8->Option (Bool×A8))(r305:A8->Int->Option (Bool×A8))(A:A8)(B:Int):Option (Bool×A8):=l9 (l7 (C9 B 35) (l9 (I4 A B 0) λx=>some (.inr x)) (l9 (l7 (C9 B 36) (some (C9 B 36)) (l7 (C9 B 37) (some (C9 B 37)) (l7 (C9 B 38) (some (C9 B 38)) (some (C9 B 39))))) λx=>l7 x (l9 (gm A A.2.2.2.1.2.2.2.2) λx=>l7 x.2.1 (l9 (I4 x.2.2 B x.1) λx=>some (.inr x)) (some (.inr (false,x.2.2)))) (l9 (l7 (C9 B 33) (some (C9 B 33)) (some (C9 B 34))) λx=>l7 x (l9 (gm A A.2.2.2.1.2.1) λx=>l7 (H5 x.2.1) (some (.inr (false,x.2.2))) (l9 (U9 x.2.2 [44]) λd=>l7 (H5 d.1) (some (.inr (false,d.2))) (l9 (r161 d.2) λb=>l7 (H5 b.1) (some (.inr (false,b.2))) (l7 (C9 B 33) (l9 (I4 b.2 B x.1) λx=>some (.inr x)) (l9 (U9 b.2 [44]) λf=>l7 (H5 f.1) (some (.inr (false,f.2))) (l9 (bz f.2) λc=>l7 c.2.1 (l9 (I4 c.2.2 B (G5 .i64 (mY .i64 8 x.1) c.1)) λx=>some (.inr x)) (some (.inr (false,c.2.2))))))))) (some (.inl A))))) λo=>Z8 o (λ(x:A8)=>l9 (r161 x) λx=>l7 (H5 x.1) (some (false,x.2)) (l7 (C9 B 31) (l7 (C9 B 31) (l9 (I4 x.2 B 0) λx=>some x) (l9 (U9 x.2 [44]) λx=>l7 (H5 x.1) (some (false,x.2)) (l9 (r161 x.2) λx=>l7 (H5 x.1) (some (false,x.2)) (l7 (C9 B 14) (l7 (C9 B 14) (l9 (U9 x.2 [44]) λx=>l7 (H5 x.1) (some (false,x.2)) (l9 (bz x.2) λx=>l7 x.2.1 (l9 (I4 x.2.2 B x.1) λx=>some x) (some (false,x.2.2)))) (l9 (I4 x.2 B 0) λx=>some x)) (l7 (C9 B 15) (l7 (C9 B 15) (l9 (U9 x.2 [44]) λx=>l7 (H5 x.1) (some (false,x.2)) (l9 (bz x.2) λx=>l7 x.2.1 (l9 (I4 x.2.2 B x.1) λx=>some x) (some (false,x.2.2)))) (l9 (I4 x.2 B 0) λx=>some x)) (l7 (C9 B 16) (l9 (U9 x.2 [44]) λx=>l7 (H5 x.1) (some (false,x.2)) (l9 (bz x.2) λx=>l7 x.2.1 (l9 (I4 x.2.2 B x.1) λx=>some x) (some (false,x.2.2)))) (l9 (I4 x.2 B 0) λx=>some x))))))) (l7 (C9 B 32) (l9 (I4 x.2 B 0) λx=>some x) (l9 (U9 x.2 [44]) λx=>l7 (H5 x.1) (some (false,x.2)) (l9 (r161 x.2) λx=>l7 (H5 x.1) (some (false,x.2)) (l7 (C9 B 14) (l7 (C9 B 14) (l9 (U9 x.2 [44]) λx=>l7 (H5 x.1) (some (false,x.2)) (l9 (bz x.2) λx=>l7 x.2.1 (l9 (I4 x.2.2 B x.1) λx=>some x) (some (false,x.2.2)))) (l9 (I4 x.2 B 0) λx=>some x)) (l7 (C9 B 15) (l7 (C9 B 15) (l9 (U9 x.2 [44]) λx=>l7 (H5 x.1) (some (false,x.2)) (l9 (bz x.2) λx=>l7 x.2.1 (l9 (I4 x.2.2 B x.1) λx=>some x) (some (false,x.2.2)))) (l9 (I4 x.2 B 0) λx=>some x)) (l7 (C9 B 16) (l9 (U9 x.2 [44]) λx=>l7 (H5 x.1) (some (false,x.2)) (l9 (bz x.2) λx=>l7 x.2.1 (l9 (I4 x.2.2 B x.1) λx=>some x) (some (false,x.2.2)))) (l9 (I4 x.2 B 0) λx=>some x))))))))) λr=>some r
def o8:Nat->(M.den (.box (.pair (.dat pW) (.pair O7 (.pair O7 (.pair (.dat nI) (.pair (.own y2) (.pair O7 O7)))))))->Option (U0 ([fF]++[(true,(.pair (.dat pW) (.pair O7 (.pair O7 (.pair (.dat nI) (.pair (.own y2) (.pair O7 O7)))))))])))×(M.den (.box (.pair (.dat pW) (.pair O7 (.pair O7 (.pair (.dat nI) (.pair (.own y2) (.pair O7 O7)))))))->M.den O7->Option (U0 ([fF]++[(true,(.pair (.dat pW) (.pair O7 (.pair O7 (.pair (.dat nI) (.pair (.own y2) (.pair O7 O7)))))))])))×(M.den (.box (.pair (.dat pW) (.pair O7 (.pair O7 (.pair (.dat nI) (.pair (.own y2) (.pair O7 O7)))))))->Option (U0 ([fF]++[(true,(.pair (.dat pW) (.pair O7 (.pair O7 (.pair (.dat nI) (.pair (.own y2) (.pair O7 O7)))))))])))×(M.den (.box (.pair (.dat pW) (.pair O7 (.pair O7 (.pair (.dat nI) (.pair (.own y2) (.pair O7 O7)))))))->Option (U0 ([fF]++[(true,(.pair (.dat pW) (.pair O7 (.pair O7 (.pair (.dat nI) (.pair (.own y2) (.pair O7 O7)))))))])))×(M.den (.box (.pair (.dat pW) (.pair O7 (.pair O7 (.pair (.dat nI) (.pair (.own y2) (.pair O7 O7)))))))->M.den O7->Option (U0 ([fF]++[(true,(.pair (.dat pW) (.pair O7 (.pair O7 (.pair (.dat nI) (.pair (.own y2) (.pair O7 O7)))))))])))|0=>(λa0=>none,λa0 a1=>none,λa0=>none,λa0=>none,λa0 a1=>none)|n+1=>(λa0=>mX (o8 n).1 (o8 n).2.1 (o8 n).2.2.1 (o8 n).2.2.2.1 (o8 n).2.2.2.2 a0,λa0 a1=>DT (o8 n).1 (o8 n).2.1 (o8 n).2.2.1 (o8 n).2.2.2.1 (o8 n).2.2.2.2 a0 a1,λa0=>qU (o8 n).1 (o8 n).2.1 (o8 n).2.2.1 (o8 n).2.2.2.1 (o8 n).2.2.2.2 a0,λa0=>rO (o8 n).1 (o8 n).2.1 (o8 n).2.2.1 (o8 n).2.2.2.1 (o8 n).2.2.2.2 a0,λa0 a1=>rP (o8 n).1 (o8 n).2.1 (o8 n).2.2.1 (o8 n).2.2.2.1 (o8 n).2.2.2.2 a0 a1)
def qR:M.den (.box (.pair (.dat pW) (.pair O7 (.pair O7 (.pair (.dat nI) (.pair (.own y2) (.pair O7 O7)))))))->Option (U0 ([fF]++[(true,(.pair (.dat pW) (.pair O7 (.pair O7 (.pair (.dat nI) (.pair (.own y2) (.pair O7 O7)))))))])):=λa0=>(o8 dZ).1 a0
def c2H:FSpec:=mkS Yb b3y λx=>qR x
def sW(A:List H6):Option (c6G×Int):=l9 (xy A) λx=>some (x.1,x.2.2)
def b8S:FQ:=⟨[uD y12],⟨[(.tmp 2,uoM),(.tmp 3,P7)],[]⟩,mE 15 [(168,b4T)],J9⟩
def b2C:FSpec:=bM b8S λx=>sW x
def iU(A:Int)(B:H6)(C:List bK):c6J:=l9 (jo B C) λx=>l7 (U7 x.1 A) (some (U7 A x.2)) (some false)
def b9s:FQ:=⟨[P7,tD y2,uD y1],tR 6 fF,mE 23 [(74,s74)],J9⟩
def b4S:FSpec:=bM b9s λx=>iU x.1 x.2.1 x.2.2
def b8l:List MG:=[P7]
def c2r:FSpec:=⟨b8l,[(false,(.dat .str))],[],λx=>Hm x⟩
def lY(A:Int):Option c6F:=l9 (Hm A) λx=>some x
def q76:FQ:=⟨[P7],tR 2 (uD .str),mE 5 [(122,c2r)],J9⟩
def s76:FSpec:=bM q76 λx=>lY x
def b8m:List MG:=[(false,(.dat .str)),P7]
def b4N:FSpec:=⟨b8m,[(false,(.dat .str))],[],λx=>uX x.1 x.2⟩
def cZ(A:Int)(B:Int):Option c6F:=l9 (fK B) λx=>l9 (lY A) λc=>l7 (C9 x 0) (some c) (l7 (I5 A 0) (l9 (gy c 1 (A7 c)) λb=>l7 (U7 (A7 b) x) (l9 (uX [48] (N9 .i64 (G5 .i64 x 1) (A7 b))) λd=>l9 (N8 d b) λf=>l9 (gy f 0 (N9 .i64 (A7 f) x)) λg=>l9 (N8 [45] g) λi=>l9 (N8 i [46]) λj=>l9 (gy f (N9 .i64 (A7 f) x) (A7 f)) λx=>l9 (N8 j x) λx=>some x) (l9 (gy b 0 (N9 .i64 (A7 b) x)) λd=>l9 (N8 [45] d) λf=>l9 (N8 f [46]) λg=>l9 (gy b (N9 .i64 (A7 b) x) (A7 b)) λx=>l9 (N8 g x) λx=>some x)) (l7 (U7 (A7 c) x) (l9 (uX [48] (N9 .i64 (G5 .i64 x 1) (A7 c))) λb=>l9 (N8 b c) λd=>l9 (gy d 0 (N9 .i64 (A7 d) x)) λf=>l9 (N8 [] f) λg=>l9 (N8 g [46]) λi=>l9 (gy d (N9 .i64 (A7 d) x) (A7 d)) λx=>l9 (N8 i x) λx=>some x) (l9 (gy c 0 (N9 .i64 (A7 c) x)) λb=>l9 (N8 [] b) λd=>l9 (N8 d [46]) λf=>l9 (gy c (N9 .i64 (A7 c) x) (A7 c)) λx=>l9 (N8 f x) λx=>some x)))
def b9F:FQ:=⟨[P7,P7],tR 4 (uD .str),mE 45 [(219,b4Z),(76,s76),(129,b4N)],J9⟩
def c2R:FSpec:=bM b9F λx=>cZ x.1 x.2
def xw(A:Int):c6J:=l7 (U7 0 A) (some (U7 A 109572)) (some false)
def q78:FQ:=⟨[P7],tR 2 fF,mE 9 [],J9⟩
def s78:FSpec:=bM q78 λx=>xw x
def xq(A:Int):Option aI:=l9 (xw A) λx=>l7 (H5 x) (some (0,0,0)) (l9 (fA (λ(x:Int)=>l9 (qP (G5 .i64 x 1)) λb=>l7 (U7 b A) (some (.inl (G5 .i64 x 1))) (some (.inr x))) (G5 .i64 1900 (aO .i64 A 366))) λy=>l9 (qP y) λx=>l9 (V4 (λ(x:H6)=>l7 (I5 x.2 12) (l9 (jQ y (G5 .i64 x.2 1)) λb=>l7 (I5 x.1 b) (some (.rt (y,G5 .i64 x.2 1,G5 .i64 x.1 1))) (some (.nx (N9 .i64 x.1 b,G5 .i64 x.2 1)))) (some (.ex ()))) (N9 .i64 A x,0)) λo=>Z8 o (λy=>some (0,0,0)) λr=>some r)
def q79:FQ:=⟨[P7],⟨[(.tmp 2,P7),(.tmp 3,P7),(.tmp 4,P7)],[]⟩,mE 45 [(78,s78),(127,b4M),(128,b2E)],sN 3 (dW (lM (.loop [(5,6),(15,22)] ⟨[(5,P7)],[]⟩ 0 ⟨[(5,P7)],[]⟩ J9)) (sN 1 (dW (sN 1 (lM (lpR [(2,5),(6,9),(26,45)] ⟨[(6,P7),(26,P7)],[]⟩ 2 sgN J9))) J9)))⟩
def s79:FSpec:=bM q79 λx=>xq x
def EC(A:Int)(B:Int):Option c6F:=l9 (lY A) λx=>l9 (uX [48] (wL 0 (N9 .i64 B (A7 x)))) λb=>l9 (N8 b x) λx=>some x
def q80:FQ:=⟨[P7,P7],tR 4 (uD .str),mE 16 [(76,s76),(129,b4N)],J9⟩
def s80:FSpec:=bM q80 λx=>EC x.1 x.2
def sU(A:Int):Option c6F:=l9 (xw A) λx=>l7 (H5 x) (some []) (l9 (xq A) λx=>l9 (EC x.1 4) λb=>l9 (N8 b [45]) λc=>l9 (EC x.2.1 2) λd=>l9 (N8 c d) λf=>l9 (N8 f [45]) λg=>l9 (EC x.2.2 2) λx=>l9 (N8 g x) λx=>some x)
def q40:FQ:=⟨[P7],tR 2 (uD .str),mE 25 [(78,s78),(79,s79),(80,s80)],J9⟩
def s40:FSpec:=bM q40 λx=>sU x
def iR(A:aI)(B:List bK):Option (c6F×Int):=l9 (dw (A.1,A.2.1) B) λx=>l7 (H5 x) (some ([],8)) (l9 (iU A.2.2 (A.1,A.2.1) B) λx=>l7 (H5 x) (some ([],3)) (l7 (C9 A.1 1) (l7 (C9 A.2.2 0) (some ([102,97,108,115,101],0)) (some ([116,114,117,101],0))) (l7 (C9 A.1 2) (l9 (lY A.2.2) λx=>some (x,0)) (l7 (C9 A.1 3) (l9 (cZ A.2.2 2) λx=>some (x,0)) (l7 (C9 A.1 4) (l9 (cZ A.2.2 4) λx=>l9 (N8 x [37]) λx=>some (x,0)) (l7 (C9 A.1 5) (l9 (sU A.2.2) λx=>some (x,0)) (l9 (P5 B A.2.1) λx=>l9 (P5 x.2 A.2.2) λx=>some (x,0))))))))
def b8Y:FQ:=⟨[tD y3,uD y1],⟨[(.tmp 4,(uD .str)),(.tmp 5,P7)],[]⟩,mE 60 [(94,s94),(166,b4S),(76,s76),(182,c2R),(40,s40)],J9⟩
def b4O:FSpec:=bM b8Y λx=>iR x.1 x.2
def V9(A:c6F):Option H8:=some (A,7,false)
def b9x:FQ:=⟨[uD .str],cR 2 217 (tD y71),mE 5 [],J9⟩
def a9v:FSpec:=bM b9x λx=>V9 x
def qp(A:H6):Option (H8×Int):=l9 (iR (A.1,0,A.2) []) λx=>l7 (H5 (C9 x.2 0)) (some (([],0,false),3)) (l9 (V9 x.1) λx=>l7 (C9 A.1 2) (l7 (I5 A.2 0) (some ((x.1,6,true),0)) (some ((x.1,x.2.1,true),0))) (l7 (C9 A.1 3) (l7 (I5 A.2 0) (some ((x.1,6,true),0)) (some ((x.1,x.2.1,true),0))) (l7 (C9 A.1 4) (l7 (I5 A.2 0) (some ((x.1,6,C9 A.1 4),0)) (some ((x.1,x.2.1,C9 A.1 4),0))) (some ((x.1,x.2.1,C9 A.1 4),0)))))
def b9u:FQ:=⟨[tD y2],⟨[(.cell 2 217,tD y71),(.tmp 3,P7)],[]⟩,mE 44 [(130,b4O),(172,a9v)],J9⟩
def c2K:FSpec:=bM b9u λx=>qp x
def ay(A:H6)(B:E9):Option (H8×Int):=l9 (l7 (C9 A.1 6) (l7 (I5 A.2 0) (some (.inr (([],0,false),6))) (l7 (U7 (A7 B.1) (aO .i64 A.2 16)) (some (.inr (([],0,false),6))) (l9 (P5 B.1 (aO .i64 A.2 16)) λx=>l9 (N8 x.1 [58]) λb=>some (.inl (([],0,false),x.2,fE A.2 16,b,[]))))) (l7 (C9 A.1 7) (some (.inl (([],0,false),B.2.2.1,A.2,[],[]))) (l7 (C9 A.1 8) (some (.inl (([],0,false),B.2.2.2.1,A.2,[],[]))) (l9 (iH A.1) λx=>l9 (N8 x [40]) λx=>some (.inl (([],0,false),B.2.2.2.2,A.2,x,[41])))))) λo=>Z8 o (λ(x:H8×List c6F×Int×c6F×c6F)=>l7 (I5 x.2.2.1 0) (some (([],0,false),6)) (l7 (U7 (A7 x.2.1) x.2.2.1) (some (([],0,false),6)) (l9 (P5 x.2.1 x.2.2.1) λb=>l9 (N8 x.2.2.2.1 b) λc=>l9 (N8 c x.2.2.2.2) λx=>l9 (V9 x) λx=>some (x,0)))) λr=>some r
def b9v:FQ:=⟨[tD y2,tD nI],⟨[(.cell 4 217,tD y71),(.tmp 5,P7)],[]⟩,mE 77 [(173,a9w),(172,a9v)],sN 2 (dW (jnR [(4,11),(15,59),(4000256,4000257)] ⟨[(4,(false,(.box (dT y71)))),(6,(uD (.sl .str))),(7,P7),(8,(uD .str)),(9,(uD .str))],[]⟩ J9) J9)⟩
def c2M:FSpec:=bM b9v λx=>ay x.1 x.2
def aT(A:H6)(B:H8)(C:E9):Option (H8×Int):=l9 (l7 (C9 A.1 34) (l7 (I5 0 A.2) (some (aO .i64 A.2 8)) (some A.2)) (some A.2)) λx=>l9 (l7 (I5 x 0) (some (.inr (([],0,false),6))) (l7 (U7 (A7 C.2.1) x) (some (.inr (([],0,false),6))) (some (.inl ([],0,false))))) λo=>Z8 o (λ(g:H8)=>l9 (iH A.1) λc=>l9 (N8 c [40]) λd=>l9 (P5 C.2.1 x) λx=>l9 (N8 d x) λx=>l9 (N8 x [44,32]) λx=>l9 (N8 x B.1) λx=>l7 (C9 A.1 34) (l9 (eY (fE A.2 8)) λb=>l7 (seq b []) (some (([],0,false),3)) (l9 (N8 [44,32] b) λf=>l9 (N8 x f) λx=>l9 (N8 x [41]) λx=>l9 (V9 x) λx=>some (x,0))) (l9 (N8 x [41]) λx=>l9 (V9 x) λx=>some (x,0))) λr=>some r
def b9w:FQ:=⟨[tD y2,tD y71,tD nI],⟨[(.cell 6 217,tD y71),(.tmp 7,P7)],[]⟩,mE 63 [(173,a9w),(174,b2H),(172,a9v)],sN 2 (dW (.join [(8,9),(13,22)] ⟨[(8,P7)],[]⟩ J9) (dW (jnR [(6,8),(22,32),(4000384,4000385)] ⟨[(6,(false,(.box (dT y71))))],[]⟩ J9) J9))⟩
def c2N:FSpec:=bM b9w λx=>aT x.1 x.2.1 x.2.2
def fU(A:H8)(B:Int):Option c6F:=l7 (I5 A.2.1 B) (l9 (N8 [40] A.1) λx=>l9 (N8 x [41]) λx=>some x) (some A.1)
def b9A:FQ:=⟨[tD y71,P7],tR 4 (uD .str),mE 15 [],J9⟩
def c2O:FSpec:=bM b9A λx=>fU x.1 x.2
def U4(A:H6)(B:List H8)(C:E9):Option (H8×Int):=l9 (l9 (l7 (C9 A.1 1) (some (C9 A.1 1)) (l7 (C9 A.1 2) (some (C9 A.1 2)) (l7 (C9 A.1 3) (some (C9 A.1 3)) (l7 (C9 A.1 4) (some (C9 A.1 4)) (some (C9 A.1 5)))))) λx=>l7 x (l9 (qp A) λx=>some (.inr x)) (l9 (l7 (C9 A.1 6) (some (C9 A.1 6)) (l7 (C9 A.1 7) (some (C9 A.1 7)) (l7 (C9 A.1 8) (some (C9 A.1 8)) (l7 (C9 A.1 36) (some (C9 A.1 36)) (l7 (C9 A.1 37) (some (C9 A.1 37)) (l7 (C9 A.1 38) (some (C9 A.1 38)) (some (C9 A.1 39)))))))) λx=>l7 x (l9 (ay A C) λx=>some (.inr x)) (l9 (l7 (C9 A.1 33) (some (C9 A.1 33)) (some (C9 A.1 34))) λx=>l7 x (l9 (P5 B 0) λx=>l9 (aT A x C) λx=>some (.inr x)) (l7 (C9 A.1 9) (l9 (V9 [116,111,100,97,121]) λx=>some (.inr (x,0))) (l7 (C9 A.1 35) (l9 (V9 [99,111,117,110,116,40,41]) λx=>some (.inr (x,0))) (l9 (l7 (C9 A.1 31) (some (C9 A.1 31)) (some (C9 A.1 32))) λx=>l7 x (l9 (iH A.1) λx=>l9 (N8 x [40]) λx=>l9 (P5 B 0) λb=>l9 (N8 x b.1) λx=>l9 (N8 x [41]) λx=>l9 (V9 x) λx=>some (.inr (x,0))) (l9 (l7 (C9 A.1 17) (some (C9 A.1 17)) (l7 (C9 A.1 18) (some (C9 A.1 18)) (l7 (C9 A.1 27) (some (C9 A.1 27)) (l7 (C9 A.1 28) (some (C9 A.1 28)) (l7 (C9 A.1 29) (some (C9 A.1 29)) (some (C9 A.1 30))))))) λx=>l7 x (l9 (iH A.1) λx=>l9 (N8 x [40]) λx=>l9 (P5 B 0) λb=>l9 (N8 x b.1) λx=>l9 (N8 x [44,32]) λx=>l9 (P5 B 1) λc=>l9 (N8 x c.1) λx=>l9 (N8 x [41]) λx=>l9 (V9 x) λx=>some (.inr (x,0))) (l9 (l7 (C9 A.1 14) (some (C9 A.1 14)) (l7 (C9 A.1 15) (some (C9 A.1 15)) (some (C9 A.1 16)))) λx=>l7 x (l9 (eY A.2) λx=>l7 (seq x []) (some (.inr (([],0,false),3))) (l9 (iH A.1) λb=>l9 (N8 b [40]) λc=>l9 (P5 B 0) λd=>l9 (N8 c d.1) λf=>l9 (N8 f [44,32]) λg=>l9 (P5 B 1) λi=>l9 (N8 g i.1) λj=>l9 (N8 j [44,32]) λk=>l9 (N8 k x) λx=>l9 (N8 x [41]) λx=>l9 (V9 x) λx=>some (.inr (x,0)))) (l7 (C9 A.1 26) (l9 (P5 B 0) λx=>l9 (N8 [105,102,32] x.1) λx=>l9 (N8 x [32,116,104,101,110,32]) λx=>l9 (P5 B 1) λb=>l9 (N8 x b.1) λx=>l9 (N8 x [32,101,108,115,101,32]) λx=>l9 (P5 B 2) λc=>l9 (N8 x c.1) λx=>some (.inr ((x,0,false),0))) (l7 (C9 A.1 25) (l9 (P5 B 0) λx=>l9 (fU x 6) λx=>l9 (N8 [110,111,116,32] x) λx=>some (.inr ((x,6,false),0))) (l7 (C9 A.1 10) (l9 (P5 B 0) λx=>l9 (fU x 6) λx=>l9 (P5 B 0) λb=>l7 b.2.2 (l9 (P5 B 0) λx=>l9 (N8 [40] x.1) λx=>l9 (N8 x [41]) λx=>l9 (N8 [45] x) λx=>some (.inr ((x,6,false),0))) (l9 (N8 [45] x) λx=>some (.inr ((x,6,false),0)))) (some (.inl ([],0,false)))))))))))))) λo=>Z8 o (λ(x:H8)=>l9 (gY A.1) λx=>l7 (C9 x.2 3) (l9 (P5 B 0) λb=>l9 (fU b 4) λc=>l9 (N8 c [32]) λd=>l9 (N8 d x.1) λf=>l9 (N8 f [32]) λg=>l9 (P5 B 1) λi=>l9 (fU i (G5 .i64 x.2 1)) λj=>l9 (N8 g j) λk=>some ((k,x.2,false),0)) (l9 (P5 B 0) λb=>l9 (fU b x.2) λc=>l9 (N8 c [32]) λd=>l9 (N8 d x.1) λf=>l9 (N8 f [32]) λg=>l9 (P5 B 1) λi=>l9 (fU i (G5 .i64 x.2 1)) λj=>l9 (N8 g j) λk=>some ((k,x.2,false),0))) λr=>some r
def b8V:FQ:=⟨[tD y2,uD y72,tD nI],⟨[(.cell 6 217,tD y71),(.tmp 7,P7)],[]⟩,mE 203 [(169,c2K),(170,c2M),(171,c2N),(172,a9v),(173,a9w),(174,b2H),(175,c2O),(176,b4U)],sN 1 (dW (jnR [(6,11),(16,174),(4000384,4000385)] ⟨[(6,(false,(.box (dT y71))))],[]⟩ (sN 1 (lM (dW (.join [(18,24)] ⟨[(18,fF)],[]⟩ J9) (.cond J9 (dW (.join [(28,36)] ⟨[(28,fF)],[]⟩ J9) (.cond J9 (dW (.join [(41,44)] ⟨[(41,fF)],[]⟩ J9) (.cond J9 (sN 1 (.cond J9 (sN 1 (.cond J9 (dW (.join [(58,61)] ⟨[(58,fF)],[]⟩ J9) (.cond J9 (dW (.join [(72,79)] ⟨[(72,fF)],[]⟩ J9) (.cond J9 (dW (.join [(96,100)] ⟨[(96,fF)],[]⟩ J9) J9)))))))))))))))))) J9)⟩
def c2s:FSpec:=bM b8V λx=>U4 x.1 x.2.1 x.2.2
def iq(A:List H6)(B:E9):Option (c6F×Int):=l9 (sW A) λx=>l7 (H5 (C9 x.2 0)) (some ([],x.2)) (l9 (V4 (λ(x:List H8×Int)=>l7 (I5 x.2 (A7 A)) (l9 (P5 A x.2) λc=>l7 (H5 (C9 c.2 0)) (l9 (bI c.1) λd=>l7 (H5 d) (some (.rt ([],2))) (l9 (jB c.1) λb=>l7 (mi (N9 .i64 (A7 x.1) b) (A7 x.1) (A7 x.1)) (l9 (U4 c (kH x.1 (Z7 (N9 .i64 (A7 x.1) b)) (Z7 (A7 x.1))) B) λf=>l7 (H5 (C9 f.2 0)) (some (.rt ([],f.2))) (l7 (mi 0 (N9 .i64 (A7 x.1) b) (A7 x.1)) (l9 (eG (kH x.1 (Z7 0) (Z7 (N9 .i64 (A7 x.1) b))) [f.1]) λg=>some (.nx (g,G5 .i64 x.2 1))) none)) none)) (l9 (jB c.1) λd=>l7 (mi (N9 .i64 (A7 x.1) d) (A7 x.1) (A7 x.1)) (l9 (U4 c (kH x.1 (Z7 (N9 .i64 (A7 x.1) d)) (Z7 (A7 x.1))) B) λb=>l7 (H5 (C9 b.2 0)) (some (.rt ([],b.2))) (l7 (mi 0 (N9 .i64 (A7 x.1) d) (A7 x.1)) (l9 (eG (kH x.1 (Z7 0) (Z7 (N9 .i64 (A7 x.1) d))) [b.1]) λf=>some (.nx (f,G5 .i64 x.2 1))) none)) none)) (some (.ex x.1))) ([],0)) λo=>Z8 o (λ(y:List H8)=>l9 (P5 y 0) λx=>l9 (aN y (Z7 0)) λx=>some (x.1,0)) λr=>some r)
def q77:FQ:=⟨[uD y12,tD nI],⟨[(.tmp 4,(uD .str)),(.tmp 5,P7)],[]⟩,mE 66 [(123,b2C),(124,b2D),(125,a2S),(126,c2s)],sN 3 (dW (sN 1 (lM (lpR [(4,6),(8,9),(10,14),(24,62)] ⟨[(8,(uO y71)),(24,P7)],[]⟩ 0 ⟨[(8,(uO y71))],[]⟩ J9))) J9)⟩
def s77:FSpec:=bM q77 λx=>iq x.1 x.2
def qQ(A:c6F)(B:E9):Option (List H6×H6):=l9 (xH A) λx=>l7 (H5 (C9 x.2.2 0)) (some ([],x.2)) (l9 (l9 (qR (x.1,0,A7 A,B,[],0,0)) λb=>l7 b.1 (l7 (I5 b.2.2.1 (A7 x.1)) (l9 (ae b.2 2) λx=>some x.2) (some b.2)) (some b.2)) λx=>l7 (H5 (C9 x.2.2.2.2.2.2 0)) (some ([],x.2.2.2.2.2)) (l9 (sW x.2.2.2.2.1) λb=>l7 (H5 (C9 b.2 0)) (some ([],0,b.2)) (l9 (iq x.2.2.2.2.1 B) λc=>l7 (H5 (C9 c.2 0)) (some ([],0,2)) (l7 (H5 (seq c.1 A)) (some ([],0,2)) (some (x.2.2.2.2.1,0,0))))))
def b8P:FQ:=⟨[uD .str,tD nI],⟨[(.tmp 4,uO y2),(.tmp 5,P7),(.tmp 6,P7)],[]⟩,mE 71 [(160,c2G),(161,c2H),(162,a2V),(123,b2C),(77,s77)],sN 4 (dW (.join [(10,11),(30,39),(7001088,7001089),(20000640,20000641)] ⟨[(10,(false,(.box (pA (dT pW) (pA O7 (pA O7 (pA (dT nI) (pA (oW y2) (pA O7 O7)))))))))],[]⟩ J9) J9)⟩
def c2o:FSpec:=bM b8P λx=>qQ x.1 x.2
def b8C:List MG:=[(false,(.box (.dat y60))),(false,(.dat .str)),(true,(.dat nI))]
def c2c:Ret:=⟨[(.tmp 6,(false,(.dat y12)))],[(0,(true,(.dat y60)))]⟩
def e69:Env:=⟨21,eqs,tt,gl,[(118,c2o),(1000000065,s65)],[],[],[],[0],[],[]⟩
def c5K:Ann:=.leaf
def sQ(A:D9)(B:c6F)(C:E9):Option (Int×List H6×D9):=l9 (qQ B C) λx=>l9 (qM A x.2.2) λb=>l7 (C9 b.1 0) (some (0,x.1,b.2)) (some (b.1,[],([],[],[]),[],false))
def s69:FSpec:=mkP b8C c2c λx=>sQ x.1 x.2.1 x.2.2
def lw(A:c6F)(B:c6F):c6J:=l7 (U7 (A7 B) (A7 A)) (l9 (gy A (N9 .i64 (A7 A) (A7 B)) (A7 A)) λx=>some (seq x B)) (some false)
def b9X:FQ:=⟨[uD .str,(uD .str)],tR 4 fF,mE 21 [],J9⟩
def c3g:FSpec:=bM b9X λx=>lw x.1 x.2
def lu(A:c6F)(B:c6F):Option (c6F×Bool):=l9 (lw A B) λx=>l7 (H5 x) (some (A,false)) (l9 (gy A 0 (N9 .i64 (A7 A) (A7 B))) λx=>some (x,true))
def b9q:FQ:=⟨[uD .str,(uD .str)],⟨[(.tmp 4,(uD .str)),(.tmp 5,fF)],[]⟩,mE 18 [(211,c3g)],J9⟩
def c2I:FSpec:=bM b9q λx=>lu x.1 x.2
def kL(A:c6F)(B:c6F):Option (c6F×Bool):=l9 (lu A B) λx=>some x
def b8Q:FQ:=⟨[uD .str,(uD .str)],⟨[(.tmp 4,(uD .str)),(.tmp 5,fF)],[]⟩,mE 11 [(163,c2I)],J9⟩
def b4L:FSpec:=bM b8Q λx=>kL x.1 x.2
def uz(A:c6F):c6J:=l7 (I5 64 (A7 A)) (some false) (l9 (V4 (λ(x:Int)=>l7 (I5 x (A7 A)) (l9 (sat A x) λb=>l7 (I5 b 32) (some (.rt false)) (l9 (sat A x) λc=>l7 (I5 126 c) (some (.rt false)) (l9 (sat A x) λd=>l7 (C9 d 34) (some (.rt false)) (some (.nx (G5 .i64 x 1)))))) (some (.ex ()))) 0) λo=>Z8 o (λy=>some true) λr=>some r)
def q75:FQ:=⟨[uD .str],tR 2 fF,mE 29 [],sN 2 (dW (sN 1 (lM (lpR [(2,4),(9,29)] ⟨[(9,P7)],[]⟩ 0 sgN J9))) J9)⟩
def s75:FSpec:=bM q75 λx=>uz x
def b8D:List MG:=[(false,(.box (.dat y60))),(false,(.dat .str))]
def c2d:Ret:=⟨[(.tmp 4,(false,(.dat .str)))],[(0,(true,(.dat y60)))]⟩
def e70:Env:=⟨24,eqs,tt,gl,[(119,b4L),(75,s75),(1000000033,s33)],[],[],[],[0],[],[]⟩
def c5M:Ann:=.leaf
def uo(A:D9)(B:c6F):Option (Int×c6F×D9):=l9 (kL B [34]) λx=>l7 x.2 (l7 (H5 (seq x.1 [])) (l9 (uz x.1) λb=>l9 (P6 A b) λc=>l7 (C9 c.1 0) (some (0,x.1,c.2)) (some (c.1,[],([],[],[]),[],false))) (l9 (P6 A false) λb=>l7 (C9 b.1 0) (some (0,x.1,b.2)) (some (b.1,[],([],[],[]),[],false)))) (l9 (P6 A false) λb=>l7 (C9 b.1 0) (some (0,x.1,b.2)) (some (b.1,[],([],[],[]),[],false)))
def s70:FSpec:=mkP b8D c2d λx=>uo x.1 x.2
def b8v:List MG:=[(false,(.box (.dat y60)))]
def c1V:Ret:=⟨[(.cell 2 76,(true,(.dat y38)))],[(0,(true,(.dat y60)))]⟩
def e32:Env:=⟨131,eqs,tt,gl,[(1000000063,s63),(64,s64),(1000000065,s65),(66,s66),(1000000031,s31),(1000000033,s33),(1000000067,s67),(1000000068,s68),(62,s62),(1000000069,s69),(1000000070,s70)],[],[],[],[0],[],[]⟩
def c5C:Ann:=.seq J9 (.seq J9 (.seq J9 (.seq J9 (.seq (.joinR [(0,1),(24,28),(1000000,1000001)] ⟨[(0,(false,(.box (.dat y60))))],[]⟩ J9) (.seq J9 (.seq J9 (.seq J9 (.seq J9 (.seq J9 (.seq (.joinR [(0,1),(3,4),(6,7),(47,54),(7000192,7000193),(15000000,15000001)] ⟨[(0,(false,(.box (.dat y60)))),(3,(false,(.box (.dat y38)))),(6,(false,(.dat .str)))],[]⟩ J9) (.seq (.joinR [(0,1),(3,4),(6,7),(54,61),(38000000,38000002)] ⟨[(0,(false,(.box (.dat y60)))),(3,(false,(.box (.dat y38)))),(6,(false,(.dat .str)))],[]⟩ J9) (.seq J9 (.seq J9 (.seq J9 (.seq (.joinR [(0,1),(3,4),(5,6),(7,10),(70,111),(24000320,24000321),(24002112,24002117),(49000000,49000002)] ⟨[(0,(false,(.box (.dat y60)))),(3,(false,(.box (.dat y38)))),(5,(false,(.box (.dat nI))))],[]⟩ J9) J9)))))))))))))))
def um(A:D9):Option (Int×F8×D9):=l9 (iG A) λx=>l7 (C9 x.1 0) (l9 (nM x.2.2.1 x.2.1) λv=>l9 (l7 (I5 v 0) (l9 (qM x.2.2 6) λx=>l7 (C9 x.1 0) (some (.inl x.2)) (some (.inr (x.1,(0,0,[],[],[],[],0,[],[],[],[],(0,0),0,0,0),([],[],[]),[],false)))) (some (.inl x.2.2))) λ(o:D9⊕Int×F8×D9)=>Z8 o (λ(w:D9)=>l9 (sF w.1 v) λq=>l9 (iG w) λn=>l7 (C9 n.1 0) (l9 (ai n.2.2) λt=>l7 (C9 t.1 0) (l9 (P6 t.2.2 (seq t.2.1 [111,102])) λu=>l7 (C9 u.1 0) (l9 (iG u.2) λp=>l7 (C9 p.1 0) (l9 (ai p.2.2) λj=>l7 (C9 j.1 0) (l9 (l7 (seq j.2.1 [111,118,101,114]) (l9 (iG j.2.2) λd=>l7 (C9 d.1 0) (l9 (ai d.2.2) λb=>l7 (C9 b.1 0) (some (.inl (b.2.2,(1,0,x.2.1,n.2.1,p.2.1,d.2.1,0,[],[],[],[],(0,0),0,0,0),b.2.1))) (some (.inr (b.1,(0,0,[],[],[],[],0,[],[],[],[],(0,0),0,0,0),([],[],[]),[],false)))) (some (.inr (d.1,(0,0,[],[],[],[],0,[],[],[],[],(0,0),0,0,0),([],[],[]),[],false)))) (some (.inl (j.2.2,(1,0,x.2.1,n.2.1,p.2.1,[],0,[],[],[],[],(0,0),0,0,0),j.2.1)))) λ(o:D9×F8×c6F⊕Int×F8×D9)=>Z8 o (λ(x:D9×F8×c6F)=>l9 (l7 (seq x.2.2 [112,114,105,111]) (l9 (rF x.1) λd=>l7 (C9 d.1 0) (l9 (ai d.2.2) λb=>l7 (C9 b.1 0) (some (.inl (b.2.2,(x.2.1.1,x.2.1.2.1,x.2.1.2.2.1,x.2.1.2.2.2.1,x.2.1.2.2.2.2.1,x.2.1.2.2.2.2.2.1,d.2.1,x.2.1.2.2.2.2.2.2.2),b.2.1))) (some (.inr (b.1,(0,0,[],[],[],[],0,[],[],[],[],(0,0),0,0,0),([],[],[]),[],false)))) (some (.inr (d.1,(0,0,[],[],[],[],0,[],[],[],[],(0,0),0,0,0),([],[],[]),[],false)))) (some (.inl x))) λ(o:D9×F8×c6F⊕Int×F8×D9)=>Z8 o (λ(x:D9×F8×c6F)=>l9 (P6 x.1 (seq x.2.2 [102,114,111,109])) λd=>l7 (C9 d.1 0) (l9 (oQ d.2) λb=>l7 (C9 b.1 0) (l9 (ai b.2.2) λg=>l7 (C9 g.1 0) (l9 (l7 (seq g.2.1 [119,104,101,110]) (l9 (P6 g.2.2 (H5 g.2.2.2.2)) λc=>l7 (C9 c.1 0) (l9 (zf c.2.2.1 [32,105,115,32]) λf=>l9 (P6 c.2 f.2.2) λi=>l7 (C9 i.1 0) (l9 (sQ i.2 f.1 q) λk=>l7 (C9 k.1 0) (some (.inl ((k.2.2.1,f.2.1,k.2.2.2.2),(x.2.1.1,b.2.1,x.2.1.2.2.1,x.2.1.2.2.2.1,x.2.1.2.2.2.2.1,x.2.1.2.2.2.2.2.1,x.2.1.2.2.2.2.2.2.1,k.2.1,x.2.1.2.2.2.2.2.2.2.2),q))) (some (.inr (k.1,(0,0,[],[],[],[],0,[],[],[],[],(0,0),0,0,0),([],[],[]),[],false)))) (some (.inr (i.1,(0,0,[],[],[],[],0,[],[],[],[],(0,0),0,0,0),([],[],[]),[],false)))) (some (.inr (c.1,(0,0,[],[],[],[],0,[],[],[],[],(0,0),0,0,0),([],[],[]),[],false)))) (l7 (seq g.2.1 [105,115]) (l9 (P6 g.2.2 (H5 g.2.2.2.2)) λc=>l7 (C9 c.1 0) (some (.inl (c.2,(x.2.1.1,b.2.1,x.2.1.2.2),q))) (some (.inr (c.1,(0,0,[],[],[],[],0,[],[],[],[],(0,0),0,0,0),([],[],[]),[],false)))) (l9 (P6 g.2.2 false) λc=>l7 (C9 c.1 0) (some (.inl (c.2,(x.2.1.1,b.2.1,x.2.1.2.2),q))) (some (.inr (c.1,(0,0,[],[],[],[],0,[],[],[],[],(0,0),0,0,0),([],[],[]),[],false)))))) λ(o:D9×F8×E9⊕Int×F8×D9)=>Z8 o (λ(x:D9×F8×E9)=>l9 (zf x.1.2.1 [32,115,114,99,32,34]) λc=>l9 (sQ x.1 c.1 x.2.2) λf=>l7 (C9 f.1 0) (l7 c.2.2 (l9 (uo f.2.2 c.2.1) λi=>l7 (C9 i.1 0) (some (0,(x.2.1.1,x.2.1.2.1,x.2.1.2.2.1,x.2.1.2.2.2.1,x.2.1.2.2.2.2.1,x.2.1.2.2.2.2.2.1,x.2.1.2.2.2.2.2.2.1,x.2.1.2.2.2.2.2.2.2.1,f.2.1,i.2.1,x.2.1.2.2.2.2.2.2.2.2.2.2),i.2.2)) (some (i.1,(0,0,[],[],[],[],0,[],[],[],[],(0,0),0,0,0),([],[],[]),[],false))) (some (0,(x.2.1.1,x.2.1.2.1,x.2.1.2.2.1,x.2.1.2.2.2.1,x.2.1.2.2.2.2.1,x.2.1.2.2.2.2.2.1,x.2.1.2.2.2.2.2.2.1,x.2.1.2.2.2.2.2.2.2.1,f.2.1,x.2.1.2.2.2.2.2.2.2.2.2),f.2.2))) (some (f.1,(0,0,[],[],[],[],0,[],[],[],[],(0,0),0,0,0),([],[],[]),[],false))) λ(r:Int×F8×D9)=>some r) (some (g.1,(0,0,[],[],[],[],0,[],[],[],[],(0,0),0,0,0),([],[],[]),[],false))) (some (b.1,(0,0,[],[],[],[],0,[],[],[],[],(0,0),0,0,0),([],[],[]),[],false))) (some (d.1,(0,0,[],[],[],[],0,[],[],[],[],(0,0),0,0,0),([],[],[]),[],false))) λ(r:Int×F8×D9)=>some r) λ(r:Int×F8×D9)=>some r) (some (j.1,(0,0,[],[],[],[],0,[],[],[],[],(0,0),0,0,0),([],[],[]),[],false))) (some (p.1,(0,0,[],[],[],[],0,[],[],[],[],(0,0),0,0,0),([],[],[]),[],false))) (some (u.1,(0,0,[],[],[],[],0,[],[],[],[],(0,0),0,0,0),([],[],[]),[],false))) (some (t.1,(0,0,[],[],[],[],0,[],[],[],[],(0,0),0,0,0),([],[],[]),[],false))) (some (n.1,(0,0,[],[],[],[],0,[],[],[],[],(0,0),0,0,0),([],[],[]),[],false))) λ(r:Int×F8×D9)=>some r) (some (x.1,(0,0,[],[],[],[],0,[],[],[],[],(0,0),0,0,0),([],[],[]),[],false))
def s32:FSpec:=mkP b8v c1V λx=>um x
def c6r:List MG:=[(false,(.dat .str)),(false,(.dat .str))]
def s71:FSpec:=⟨c6r,[(false,(.own .str))],[],λx=>BK x.1 x.2⟩
def lT(A:c6F)(B:Int):c6J:=l9 (BK A [32]) λx=>l7 (I5 B (A7 x)) (l9 (P5 x B) λb=>l9 (aN x (Z7 B)) λx=>some (seq x [102,114,111,109])) (some false)
def q34:FQ:=⟨[uD .str,P7],tR 4 fF,mE 19 [(71,s71)],J9⟩
def s34:FSpec:=bM q34 λx=>lT x.1 x.2
def b8x:List MG:=[(false,(.box (.dat y60)))]
def c1X:Ret:=⟨[(.cell 2 76,(true,(.dat y38)))],[(0,(true,(.dat y60)))]⟩
def e35:Env:=⟨17,eqs,tt,gl,[(1000000063,s63),(1000000031,s31),(1000000068,s68)],[],[],[],[0],[],[]⟩
def c5F:Ann:=.leaf
def ql(A:D9):Option (Int×F8×D9):=l9 (iG A) λx=>l7 (C9 x.1 0) (l9 (iG x.2.2) λb=>l7 (C9 b.1 0) (l9 (ai b.2.2) λd=>l7 (C9 d.1 0) (l9 (oQ d.2.2) λc=>l7 (C9 c.1 0) (some (0,(2,c.2.1,x.2.1,b.2.1,[],[],0,[],[],[],[],(0,0),0,0,0),c.2.2)) (some (c.1,(0,0,[],[],[],[],0,[],[],[],[],(0,0),0,0,0),([],[],[]),[],false))) (some (d.1,(0,0,[],[],[],[],0,[],[],[],[],(0,0),0,0,0),([],[],[]),[],false))) (some (b.1,(0,0,[],[],[],[],0,[],[],[],[],(0,0),0,0,0),([],[],[]),[],false))) (some (x.1,(0,0,[],[],[],[],0,[],[],[],[],(0,0),0,0,0),([],[],[]),[],false))
def s35:FSpec:=mkP b8x c1X λx=>ql x
def nN(A:Z9)(B:c6F):c6K:=l9 (V4 (λ(x:Int)=>l7 (I5 x (A7 A.2.1)) (l9 (P5 A.2.1 x) λb=>l7 (seq b.1 B) (some (.rt x)) (some (.nx (G5 .i64 x 1)))) (some (.ex ()))) 0) λo=>Z8 o (λy=>some (-1)) λr=>some r
def q72:FQ:=⟨[tD y27,(uD .str)],tR 4 P7,mE 21 [],sN 1 (dW (sN 1 (lM (lpR [(4,7),(10,21)] ⟨[(10,P7)],[]⟩ 0 sgN J9))) J9)⟩
def s72:FSpec:=bM q72 λx=>nN x.1 x.2
def pU(A:c6F)(B:H6)(C:List bK):Option H6:=l7 (C9 B.1 1) (l7 (seq A [102,97,108,115,101]) (some (0,0)) (l7 (seq A [116,114,117,101]) (some (1,0)) (some (0,2)))) (l7 (C9 B.1 2) (l9 (jU A) λx=>some x) (l7 (C9 B.1 3) (l9 (dV A 2) λx=>some x) (l7 (C9 B.1 4) (l9 (kL A [37]) λx=>l7 (H5 x.2) (some (0,2)) (l9 (dV x.1 4) λx=>some x)) (l7 (C9 B.1 5) (l9 (xn A) λx=>some x) (l9 (P5 C B.2) λx=>l9 (V4 (λ(b:Int)=>l7 (I5 b (A7 x.2)) (l9 (P5 x.2 b) λx=>l7 (seq x A) (some (.rt (b,0))) (some (.nx (G5 .i64 b 1)))) (some (.ex ()))) 0) λo=>Z8 o (λy=>some (0,6)) λr=>some r)))))
def b9r:FQ:=⟨[uD .str,tD y2,uD y1],⟨[(.tmp 6,P7),(.tmp 7,P7)],[]⟩,mE 69 [(116,b2A),(213,b4X),(119,b4L),(117,b2B)],sN 2 (dW (sN 1 (lM (lpR [(6,8),(10,12),(59,69)] ⟨[(59,P7)],[]⟩ 2 sgN J9))) J9)⟩
def c2J:FSpec:=bM b9r λx=>pU x.1 x.2.1 x.2.2
def Ah(A:c6F)(B:H6)(C:List bK):Option (aI×Int):=l9 (dw B C) λx=>l7 (H5 x) (some ((0,0,0),8)) (l9 (pU A B C) λx=>l7 (H5 (C9 x.2 0)) (some ((0,0,0),x.2)) (l9 (iU x.1 B C) λb=>l7 (H5 b) (some ((0,0,0),3)) (some ((B.1,B.2,x.1),0))))
def b8R:FQ:=⟨[uD .str,tD y2,uD y1],⟨[(.cell 6 65,tD y3),(.tmp 7,P7)],[]⟩,mE 38 [(94,s94),(165,c2J),(166,b4S)],J9⟩
def c2p:FSpec:=bM b8R λx=>Ah x.1 x.2.1 x.2.2
def b8E:List MG:=[(false,(.box (.dat y60))),(false,(.dat .str)),(true,(.dat y2))]
def c2f:Ret:=⟨[(.tmp 6,P7)],[(0,(true,(.dat y60)))]⟩
def e73:Env:=⟨25,eqs,tt,gl,[(121,c2p),(1000000065,s65)],[],[],[],[0],[],[]⟩
def c5N:Ann:=.leaf
def jw(A:D9)(B:c6F)(C:H6):Option (Int×Int×D9):=l9 (Ah B C A.1.1) λx=>l9 (qM A x.2) λb=>l7 (C9 b.1 0) (some (0,x.1.2.2,b.2)) (some (b.1,0,([],[],[]),[],false))
def s73:FSpec:=mkP b8E c2f λx=>jw x.1 x.2.1 x.2.2
def b8y:List MG:=[(false,(.box (.dat y60))),P7]
def c1Y:Ret:=⟨[(.cell 4 76,(true,(.dat y38)))],[(0,(true,(.dat y60)))]⟩
def e36:Env:=⟨85,eqs,tt,gl,[(1000000063,s63),(72,s72),(1000000065,s65),(1000000031,s31),(1000000068,s68),(1000000073,s73),(74,s74)],[],[],[],[0],[],[]⟩
def c5G:Ann:=.seq J9 (.seq J9 (.seq J9 (.seq J9 (.seq (.joinR [(0,1),(23,27),(1000000,1000001)] ⟨[(0,(false,(.box (.dat y60))))],[]⟩ J9) J9))))
def nK(A:D9)(B:Int):Option (Int×F8×D9):=l9 (iG A) λx=>l7 (C9 x.1 0) (l9 (nN x.2.2.1 x.2.1) λp=>l9 (l7 (I5 p 0) (l9 (qM x.2.2 6) λx=>l7 (C9 x.1 0) (some (.inl x.2)) (some (.inr (x.1,(0,0,[],[],[],[],0,[],[],[],[],(0,0),0,0,0),([],[],[]),[],false)))) (some (.inl x.2.2))) λ(o:D9⊕Int×F8×D9)=>Z8 o (λ(q:D9)=>l9 (P5 q.1.2.1 p) λj=>l9 (ai q) λn=>l7 (C9 n.1 0) (l9 (oQ n.2.2) λg=>l7 (C9 g.1 0) (l9 (ai g.2.2) λk=>l7 (C9 k.1 0) (l9 (jw k.2.2 k.2.1 j.2.1) λi=>l7 (C9 i.1 0) (l9 (ai i.2.2) λf=>l7 (C9 f.1 0) (l7 (seq f.2.1 [101,110,100]) (l9 (jo j.2.1 f.2.2.1.1) λd=>l7 (C9 B 3) (l9 (ai f.2.2) λb=>l7 (C9 b.1 0) (l9 (jw b.2.2 b.2.1 j.2.2.1) λc=>l7 (C9 c.1 0) (some (0,(B,g.2.1,[],[],[],[],0,[],[],[],x.2.1,(0,0),i.2.1,G5 .i64 d.2 1,c.2.1),c.2.2)) (some (c.1,(0,0,[],[],[],[],0,[],[],[],[],(0,0),0,0,0),([],[],[]),[],false))) (some (b.1,(0,0,[],[],[],[],0,[],[],[],[],(0,0),0,0,0),([],[],[]),[],false))) (some (0,(B,g.2.1,[],[],[],[],0,[],[],[],x.2.1,(0,0),i.2.1,G5 .i64 d.2 1,0),f.2.2))) (l9 (jw f.2.2 f.2.1 j.2.1) λd=>l7 (C9 d.1 0) (l7 (C9 B 3) (l9 (ai d.2.2) λb=>l7 (C9 b.1 0) (l9 (jw b.2.2 b.2.1 j.2.2.1) λc=>l7 (C9 c.1 0) (some (0,(B,g.2.1,[],[],[],[],0,[],[],[],x.2.1,(0,0),i.2.1,d.2.1,c.2.1),c.2.2)) (some (c.1,(0,0,[],[],[],[],0,[],[],[],[],(0,0),0,0,0),([],[],[]),[],false))) (some (b.1,(0,0,[],[],[],[],0,[],[],[],[],(0,0),0,0,0),([],[],[]),[],false))) (some (0,(B,g.2.1,[],[],[],[],0,[],[],[],x.2.1,(0,0),i.2.1,d.2.1,0),d.2.2))) (some (d.1,(0,0,[],[],[],[],0,[],[],[],[],(0,0),0,0,0),([],[],[]),[],false)))) (some (f.1,(0,0,[],[],[],[],0,[],[],[],[],(0,0),0,0,0),([],[],[]),[],false))) (some (i.1,(0,0,[],[],[],[],0,[],[],[],[],(0,0),0,0,0),([],[],[]),[],false))) (some (k.1,(0,0,[],[],[],[],0,[],[],[],[],(0,0),0,0,0),([],[],[]),[],false))) (some (g.1,(0,0,[],[],[],[],0,[],[],[],[],(0,0),0,0,0),([],[],[]),[],false))) (some (n.1,(0,0,[],[],[],[],0,[],[],[],[],(0,0),0,0,0),([],[],[]),[],false))) λ(r:Int×F8×D9)=>some r) (some (x.1,(0,0,[],[],[],[],0,[],[],[],[],(0,0),0,0,0),([],[],[]),[],false))
def s36:FSpec:=mkP b8y c1Y λx=>nK x.1 x.2
def c6h:List MG:=[(true,(.dat y27)),(false,(.dat .str))]
def a9h:Ret:=⟨[(.cell 4 76,(true,(.dat y38))),(.cell 5 30,P7)],[]⟩
def e15:Env:=⟨59,eqs,tt,gl,[(30,s30),(1000000031,s31),(1000000032,s32),(34,s34),(1000000033,s33),(1000000035,s35),(1000000036,s36)],[],[],[],[],[],[]⟩
def b7z:Ann:=.leaf
def b7S:Env:={ e15 with kp:=[4,5] }
def b3w:Int->a9h.den:=λc=>(Ty.zero y38,c)
def rX(A:Z9)(B:c6F):Option (F8×Int):=l9 (En B [32]) λx=>l9 (ai (A,B,false)) λb=>l7 (C9 b.1 0) (l7 (seq b.2.1 [105,110,115,101,114,116]) (l9 (um b.2.2) λ(x:Int×F8×D9)=>l7 (C9 x.1 0) (some (x.2.1,0)) (some ((0,0,[],[],[],[],0,[],[],[],[],(0,0),0,0,0),x.1))) (l7 (seq b.2.1 [114,101,112,101,97,108]) (l7 (C9 (G5 .i64 x 1) 5) (l9 (lT B 3) λx=>l9 (P6 b.2.2 x) λx=>l7 (C9 x.1 0) (l9 (ql x.2) λ(x:Int×F8×D9)=>l7 (C9 x.1 0) (some (x.2.1,0)) (some ((0,0,[],[],[],[],0,[],[],[],[],(0,0),0,0,0),x.1))) (some ((0,0,[],[],[],[],0,[],[],[],[],(0,0),0,0,0),x.1))) (l9 (P6 b.2.2 false) λx=>l7 (C9 x.1 0) (l9 (ql x.2) λ(x:Int×F8×D9)=>l7 (C9 x.1 0) (some (x.2.1,0)) (some ((0,0,[],[],[],[],0,[],[],[],[],(0,0),0,0,0),x.1))) (some ((0,0,[],[],[],[],0,[],[],[],[],(0,0),0,0,0),x.1)))) (l7 (seq b.2.1 [105,110,115,101,114,116,114,111,119]) (l7 (C9 (G5 .i64 x 1) 7) (l9 (lT B 2) λx=>l9 (P6 b.2.2 x) λx=>l7 (C9 x.1 0) (l9 (nK x.2 3) λ(x:Int×F8×D9)=>l7 (C9 x.1 0) (some (x.2.1,0)) (some ((0,0,[],[],[],[],0,[],[],[],[],(0,0),0,0,0),x.1))) (some ((0,0,[],[],[],[],0,[],[],[],[],(0,0),0,0,0),x.1))) (l9 (P6 b.2.2 false) λx=>l7 (C9 x.1 0) (l9 (nK x.2 3) λ(x:Int×F8×D9)=>l7 (C9 x.1 0) (some (x.2.1,0)) (some ((0,0,[],[],[],[],0,[],[],[],[],(0,0),0,0,0),x.1))) (some ((0,0,[],[],[],[],0,[],[],[],[],(0,0),0,0,0),x.1)))) (l7 (seq b.2.1 [114,101,112,101,97,108,114,111,119]) (l7 (C9 (G5 .i64 x 1) 6) (l9 (lT B 2) λx=>l9 (P6 b.2.2 x) λx=>l7 (C9 x.1 0) (l9 (nK x.2 4) λ(x:Int×F8×D9)=>l7 (C9 x.1 0) (some (x.2.1,0)) (some ((0,0,[],[],[],[],0,[],[],[],[],(0,0),0,0,0),x.1))) (some ((0,0,[],[],[],[],0,[],[],[],[],(0,0),0,0,0),x.1))) (l9 (P6 b.2.2 false) λx=>l7 (C9 x.1 0) (l9 (nK x.2 4) λ(x:Int×F8×D9)=>l7 (C9 x.1 0) (some (x.2.1,0)) (some ((0,0,[],[],[],[],0,[],[],[],[],(0,0),0,0,0),x.1))) (some ((0,0,[],[],[],[],0,[],[],[],[],(0,0),0,0,0),x.1)))) (some ((0,0,[],[],[],[],0,[],[],[],[],(0,0),0,0,0),2)))))) (some ((0,0,[],[],[],[],0,[],[],[],[],(0,0),0,0,0),b.1))
def s15:FSpec:=mkS c6h a9h λx=>rX x.1 x.2
def zO(A:Z9)(B:c6F):Option (List F8×H6):=l9 (qE A) λx=>l7 (H5 (iV (C9 x.1 0) (iV (C9 x.2.1 0) (iV (C9 x.2.2.1 0) (C9 x.2.2.2 0))))) (some ([],0,1)) (l9 (vJ B) λx=>l7 (H5 (C9 x.2 0)) (some ([],0,x.2)) (l9 (V4 (λ(b:List F8×Int)=>l7 (I5 b.2 (A7 x.1)) (l9 (P5 x.1 b.2) λc=>l9 (aN x.1 (Z7 b.2)) λx=>l9 (rX A x) λ(x:F8×Int)=>l7 (H5 (C9 x.2 0)) (some (.rt ([],b.2,x.2))) (l9 (eG b.1 [x.1]) λx=>some (.nx (x,G5 .i64 b.2 1)))) (some (.ex b.1))) ([],0)) λ(o:List F8⊕List F8×H6)=>Z8 o (λ(y:List F8)=>some (y,0,0)) λ(r:List F8×H6)=>some r))
def q6:FQ:=⟨[tD y27,(uD .str)],⟨[(.tmp 4,uO y38),(.tmp 5,P7),(.tmp 6,P7)],[]⟩,mE 49 [(13,s13),(14,s14),(15,s15)],sN 5 (dW (sN 1 (lM (lpR [(4,7),(9,14),(28,48)] ⟨[(9,(uO y38)),(28,P7)],[]⟩ 0 ⟨[(9,(uO y38))],[]⟩ J9))) J9)⟩
def s6:FSpec:=bM q6 λx=>zO x.1 x.2
def c6t:List MG:=[(false,(.dat y5))]
def s84:FSpec:=⟨c6t,[(false,(.own y4))],[],λx=>oP x⟩
end
end Gt
open Go Go.GP
namespace Gt
set_option maxRecDepth 100000
noncomputable section
def JF(A:List eP):Option (List eP):=l9 (fA (λ(x:List eP×Int)=>l7 (I5 x.2 (A7 A)) (l9 (P5 A x.2) λb=>l9 (oP b.2.2.2) λc=>l9 (eG x.1 [(b.1,b.2.1,b.2.2.1,c)]) λd=>some (.inl (d,G5 .i64 x.2 1))) (some (.inr x.1))) ([],0)) λy=>some y
def q44:FQ:=⟨[uD y9],⟨[(.tmp 2,(false,(.owns (pA (dT .str) (pA (dT y2) (pA (dT y2) (oW y4)))))))],[]⟩,⟨22,eqs,tt,gl,[(84,s84)],[(23,(pA (dT .str) (pA (dT y2) (pA (dT y2) (oW y4))))),(24,(pA (dT .str) (pA O7 (pA (dT y11) (pA (dT y11) (oW y19))))))],[3,16,19],[],[],[],[]⟩,sN 2 (dW (sN 1 (lM (.loop [(3,4),(5,6),(8,21)] ⟨[(3,(false,(.owns (pA (dT .str) (pA (dT y2) (pA (dT y2) (oW y4))))))),(8,P7)],[]⟩ 0 ⟨[(3,(false,(.owns (pA (dT .str) (pA (dT y2) (pA (dT y2) (oW y4)))))))],[]⟩ J9))) J9)⟩
def s44:FSpec:=bM q44 λx=>JF x
def c6n:List MG:=[(false,(.dat y11))]
def s45:FSpec:=⟨c6n,[(false,(.own y10))],[],λx=>oP x⟩
def c6o:List MG:=[(false,(.dat y12))]
def s46:FSpec:=⟨c6o,[(false,(.own y2))],[],λx=>oP x⟩
def QL(A:Z9):Option Z9:=l9 (uG A.1) λx=>l9 (JF A.2.1) λd=>l9 (fA (λ(x:Z9×Int)=>l7 (I5 x.2 (A7 A.2.2)) (l9 (P5 A.2.2 x.2) λc=>l9 (oP c.2.2.1) λf=>l9 (oP c.2.2.2.1) λg=>l9 (fA (λ(x:au×Int)=>l7 (I5 x.2 (A7 c.2.2.2.2)) (l9 (P5 c.2.2.2.2 x.2) λb=>l9 (oP b.2.2.2.2.2.1) λi=>l9 (oP b.2.2.2.2.2.2.1) λj=>l9 (eG x.1.2.2.2.2 [(b.1,b.2.1,b.2.2.1,b.2.2.2.1,b.2.2.2.2.1,i,j,b.2.2.2.2.2.2.2)]) λk=>some (.inl ((x.1.1,x.1.2.1,x.1.2.2.1,x.1.2.2.2.1,k),G5 .i64 x.2 1))) (some (.inr x.1))) ((c.1,c.2.1,f,g,[]),0)) λy=>l9 (eG x.1.2.2 [y]) λb=>some (.inl ((x.1.1,x.1.2.1,b),G5 .i64 x.2 1))) (some (.inr x.1))) ((x,d,[]),0)) λy=>some y
def q21:FQ:=⟨[tD y27],⟨[(.cell 2 26,(true,(pA (dT y1) (pA (.owns (pA (dT .str) (pA (dT y2) (pA (dT y2) (oW y4))))) (.owns (pA (dT .str) (pA O7 (pA (dT y11) (pA (dT y11) (oW y19))))))))))],[]⟩,⟨63,eqs,tt,gl,[(43,s43),(44,s44),(45,s45),(46,s46)],[(23,(pA (dT .str) (pA (dT y2) (pA (dT y2) (oW y4))))),(24,(pA (dT .str) (pA O7 (pA (dT y11) (pA (dT y11) (oW y19))))))],[49,56],[],[],[],[]⟩,sN 2 (dW (sN 1 (lM (.loop [(3,4),(5,7),(8,9),(19,62),(7000192,7000193),(7000704,7000705),(7000896,7000897)] ⟨[(3,(false,(.box (pA (.owns (pA (dT .str) (oW .str))) (pA (.owns (pA (dT .str) (pA (dT y2) (pA (dT y2) (oW y4))))) (.owns (pA (dT .str) (pA O7 (pA (dT y11) (pA (dT y11) (oW y19))))))))))),(19,P7)],[]⟩ 0 ⟨[(3,(false,(.box (pA (.owns (pA (dT .str) (oW .str))) (pA (.owns (pA (dT .str) (pA (dT y2) (pA (dT y2) (oW y4))))) (.owns (pA (dT .str) (pA O7 (pA (dT y11) (pA (dT y11) (oW y19)))))))))))],[]⟩ (sN 2 (dW (lM (sN 5 (dW (sN 1 (lM (.loop [(6,7),(8,9),(36,55),(30000384,30000385),(33001664,33001665),(36001920,36001921)] ⟨[(6,(false,(.box (pA (dT .str) (pA O7 (pA (oW y10) (pA (oW y10) (oW y19)))))))),(36,P7)],[]⟩ 2 ⟨[(6,(false,(.box (pA (dT .str) (pA O7 (pA (oW y10) (pA (oW y10) (oW y19))))))))],[]⟩ J9))) J9))) J9))))) J9)⟩
def s21:FSpec:=bM q21 λx=>QL x
def Hq(A:List mW)(B:c6F):c6K:=l9 (V4 (λ(x:Int)=>l7 (I5 x (A7 A)) (l9 (P5 A x) λb=>l7 (seq b.1 B) (some (.rt x)) (some (.nx (G5 .i64 x 1)))) (some (.ex ()))) 0) λo=>Z8 o (λy=>some (-1)) λr=>some r
def q90:FQ:=⟨[uD y11,(uD .str)],tR 4 P7,mE 20 [],sN 1 (dW (sN 1 (lM (lpR [(4,7),(9,20)] ⟨[(9,P7)],[]⟩ 0 sgN J9))) J9)⟩
def s90:FSpec:=bM q90 λx=>Hq x.1 x.2
def Dw(A:List kF)(B:c6F):c6K:=l9 (V4 (λ(x:Int)=>l7 (I5 x (A7 A)) (l9 (P5 A x) λb=>l7 (seq b.1 B) (some (.rt x)) (some (.nx (G5 .i64 x 1)))) (some (.ex ()))) 0) λo=>Z8 o (λy=>some (-1)) λr=>some r
def q91:FQ:=⟨[uD y20,(uD .str)],tR 4 P7,mE 20 [],sN 1 (dW (sN 1 (lM (lpR [(4,7),(9,20)] ⟨[(9,P7)],[]⟩ 0 sgN J9))) J9)⟩
def s91:FSpec:=bM q91 λx=>Dw x.1 x.2
def Hr(A:Z9)(B:F8):Option (Int×Z9):=l9 (nM A B.2.2.1) λx=>l7 (I5 x 0) (some (6,A)) (l7 (inb x (A7 A.2.2)) (l9 (aN A.2.2 (Z7 x)) λk=>l9 (Hq k.2.2.2.1 B.2.2.2.2.1) λj=>l7 (H5 (seq B.2.2.2.2.2.1 [])) (l9 (aN A.2.2 (Z7 x)) λd=>l9 (Dw d.2.2.2.2 B.2.2.2.2.2.1) λg=>l7 (I5 j 0) (l9 (aN A.2.2 (Z7 x)) λb=>some (6,A.1,A.2.1,fD A.2.2 (Z7 x) (b.1,b.2.1,b.2.2.1,b.2.2.2.1,d.2.2.2.2))) (l7 (H5 (seq B.2.2.2.2.2.1 [])) (l7 (I5 g 0) (l9 (aN A.2.2 (Z7 x)) λb=>some (6,A.1,A.2.1,fD A.2.2 (Z7 x) (b.1,b.2.1,b.2.2.1,b.2.2.2.1,d.2.2.2.2))) (l7 (JO (Z7 x) (Z7 x)) (l9 (eG [] B.2.2.2.2.2.2.2.1) λb=>l9 (eG [] B.2.2.2.2.2.2.2.2.1) λi=>l9 (eG d.2.2.2.2 [(B.2.2.2.1,j,g,B.2.2.2.2.2.2.1,(B.2.1,109573),b,i,B.2.2.2.2.2.2.2.2.2.1)]) λc=>l7 (JO (Z7 x) (Z7 x)) (l9 (aN A.2.2 (Z7 x)) λf=>some (0,A.1,A.2.1,fD A.2.2 (Z7 x) (f.1,f.2.1,f.2.2.1,f.2.2.2.1,c))) none) none)) (l7 (JO (Z7 x) (Z7 x)) (l9 (eG [] B.2.2.2.2.2.2.2.1) λb=>l9 (eG [] B.2.2.2.2.2.2.2.2.1) λi=>l9 (eG d.2.2.2.2 [(B.2.2.2.1,j,g,B.2.2.2.2.2.2.1,(B.2.1,109573),b,i,B.2.2.2.2.2.2.2.2.2.1)]) λc=>l7 (JO (Z7 x) (Z7 x)) (l9 (aN A.2.2 (Z7 x)) λf=>some (0,A.1,A.2.1,fD A.2.2 (Z7 x) (f.1,f.2.1,f.2.2.1,f.2.2.2.1,c))) none) none))) (l7 (I5 j 0) (some (6,A)) (l7 (H5 (seq B.2.2.2.2.2.1 [])) (l7 (I5 (-1) 0) (some (6,A)) (l9 (aN A.2.2 (Z7 x)) λd=>l9 (eG [] B.2.2.2.2.2.2.2.1) λg=>l9 (eG [] B.2.2.2.2.2.2.2.2.1) λb=>l9 (eG d.2.2.2.2 [(B.2.2.2.1,j,-1,B.2.2.2.2.2.2.1,(B.2.1,109573),g,b,B.2.2.2.2.2.2.2.2.2.1)]) λi=>l7 (JO (Z7 x) (Z7 x)) (l9 (aN A.2.2 (Z7 x)) λc=>some (0,A.1,A.2.1,fD A.2.2 (Z7 x) (c.1,c.2.1,c.2.2.1,c.2.2.2.1,i))) none)) (l9 (aN A.2.2 (Z7 x)) λd=>l9 (eG [] B.2.2.2.2.2.2.2.1) λg=>l9 (eG [] B.2.2.2.2.2.2.2.2.1) λb=>l9 (eG d.2.2.2.2 [(B.2.2.2.1,j,-1,B.2.2.2.2.2.2.1,(B.2.1,109573),g,b,B.2.2.2.2.2.2.2.2.2.1)]) λi=>l7 (JO (Z7 x) (Z7 x)) (l9 (aN A.2.2 (Z7 x)) λc=>some (0,A.1,A.2.1,fD A.2.2 (Z7 x) (c.1,c.2.1,c.2.2.1,c.2.2.2.1,i))) none)))) none)
def q49:FQ:=⟨[(false,(.box (pA (dT y1) (pA (.owns (pA (dT .str) (pA (dT y2) (pA (dT y2) (oW y4))))) (.owns (pA (dT .str) (pA O7 (pA (dT y11) (pA (dT y11) (oW y19)))))))))),tD y38],⟨[(.tmp 4,P7)],[(0,(true,(pA (dT y1) (pA (.owns (pA (dT .str) (pA (dT y2) (pA (dT y2) (oW y4))))) (.owns (pA (dT .str) (pA O7 (pA (dT y11) (pA (dT y11) (oW y19))))))))))]⟩,⟨78,eqs,tt,gl,[(64,s64),(90,s90),(91,s91)],[(23,(pA (dT .str) (pA (dT y2) (pA (dT y2) (oW y4))))),(24,(pA (dT .str) (pA O7 (pA (dT y11) (pA (dT y11) (oW y19))))))],[20,26,36,55,66,69],[],[0],[],[]⟩,J9⟩
def s49:FSpec:=bM q49 λx=>Hr x.1 x.2
def IG(A:H6)(B:Int):c6J:=l7 (I5 A.1 B) (some (I5 B A.2)) (some false)
def q92:FQ:=⟨[tD y2,P7],tR 4 fF,mE 15 [],J9⟩
def s92:FSpec:=bM q92 λx=>IG x.1 x.2
def Ht(A:Z9)(B:F8):Option (Int×Z9):=l9 (nM A B.2.2.1) λx=>l7 (I5 x 0) (some (6,A)) (l7 (inb x (A7 A.2.2)) (l9 (aN A.2.2 (Z7 x)) λb=>l9 (Dw b.2.2.2.2 B.2.2.2.1) λc=>l7 (I5 c 0) (l9 (aN A.2.2 (Z7 x)) λf=>some (6,A.1,A.2.1,fD A.2.2 (Z7 x) (f.1,f.2.1,f.2.2.1,f.2.2.2.1,b.2.2.2.2))) (l9 (P5 b.2.2.2.2 c) λf=>l9 (aN b.2.2.2.2 (Z7 c)) λj=>l9 (IG j.2.2.2.2.1 B.2.1) λk=>l7 (H5 k) (l9 (aN A.2.2 (Z7 x)) λg=>some (3,A.1,A.2.1,fD A.2.2 (Z7 x) (g.1,g.2.1,g.2.2.1,g.2.2.2.1,b.2.2.2.2))) (l9 (P5 b.2.2.2.2 c) λg=>l9 (aN b.2.2.2.2 (Z7 c)) λd=>l9 (aN A.2.2 (Z7 x)) λi=>some (0,A.1,A.2.1,fD A.2.2 (Z7 x) (i.1,i.2.1,i.2.2.1,i.2.2.2.1,fD b.2.2.2.2 (Z7 c) (d.1,d.2.1,d.2.2.1,d.2.2.2.1,(d.2.2.2.2.1.1,B.2.1),d.2.2.2.2.2)))))) none)
def q50:FQ:=⟨[(false,(.box (pA (dT y1) (pA (.owns (pA (dT .str) (pA (dT y2) (pA (dT y2) (oW y4))))) (.owns (pA (dT .str) (pA O7 (pA (dT y11) (pA (dT y11) (oW y19)))))))))),tD y38],⟨[(.tmp 4,P7)],[(0,(true,(pA (dT y1) (pA (.owns (pA (dT .str) (pA (dT y2) (pA (dT y2) (oW y4))))) (.owns (pA (dT .str) (pA O7 (pA (dT y11) (pA (dT y11) (oW y19))))))))))]⟩,⟨46,eqs,tt,gl,[(64,s64),(91,s91),(92,s92)],[(23,(pA (dT .str) (pA (dT y2) (pA (dT y2) (oW y4))))),(24,(pA (dT .str) (pA O7 (pA (dT y11) (pA (dT y11) (oW y19))))))],[19,23],[],[0],[],[]⟩,J9⟩
def s50:FSpec:=bM q50 λx=>Ht x.1 x.2
def Jv(A:Z9)(B:F8):Option (Int×Z9):=l9 (nN A B.2.2.2.2.2.2.2.2.2.2.1) λx=>l7 (I5 x 0) (some (6,A)) (l7 (inb x (A7 A.2.1)) (l9 (aN A.2.1 (Z7 x)) λc=>l9 (eG c.2.2.2 [((B.2.1,109573),B.2.2.2.2.2.2.2.2.2.2.2.2)]) λd=>l7 (inb x (A7 A.2.1)) (l7 (JO (Z7 x) (Z7 x)) (l9 (aN A.2.1 (Z7 x)) λb=>some (0,A.1,fD A.2.1 (Z7 x) (b.1,b.2.1,b.2.2.1,d),A.2.2)) none) none) none)
def q51:FQ:=⟨[(false,(.box (pA (dT y1) (pA (.owns (pA (dT .str) (pA (dT y2) (pA (dT y2) (oW y4))))) (.owns (pA (dT .str) (pA O7 (pA (dT y11) (pA (dT y11) (oW y19)))))))))),tD y38],⟨[(.tmp 4,P7)],[(0,(true,(pA (dT y1) (pA (.owns (pA (dT .str) (pA (dT y2) (pA (dT y2) (oW y4))))) (.owns (pA (dT .str) (pA O7 (pA (dT y11) (pA (dT y11) (oW y19))))))))))]⟩,⟨44,eqs,tt,gl,[(72,s72)],[(23,(pA (dT .str) (pA (dT y2) (pA (dT y2) (oW y4))))),(24,(pA (dT .str) (pA O7 (pA (dT y11) (pA (dT y11) (oW y19))))))],[17,22,26],[],[0],[],[]⟩,J9⟩
def s51:FSpec:=bM q51 λx=>Jv x.1 x.2
def Jw(A:Z9)(B:F8):Option (Int×Z9):=l9 (nN A B.2.2.2.2.2.2.2.2.2.2.1) λx=>l7 (I5 x 0) (some (6,A)) (l7 (inb x (A7 A.2.1)) (l9 (aN A.2.1 (Z7 x)) λc=>l9 (V4 (λ(b:Int)=>l7 (I5 b (A7 c.2.2.2)) (l9 (P5 c.2.2.2 b) λj=>l9 (aN c.2.2.2 (Z7 b)) λd=>l7 (C9 d.2.1 B.2.2.2.2.2.2.2.2.2.2.2.2.1) (l7 (C9 d.2.2.1 B.2.2.2.2.2.2.2.2.2.2.2.2.2.1) (l9 (IG d.1 B.2.1) λi=>l7 i (l9 (P5 c.2.2.2 b) λk=>l9 (aN c.2.2.2 (Z7 b)) λg=>l9 (aN A.2.1 (Z7 x)) λf=>some (.rt (0,A.1,fD A.2.1 (Z7 x) (f.1,f.2.1,f.2.2.1,fD c.2.2.2 (Z7 b) ((g.1.1,B.2.1),g.2)),A.2.2))) (some (.nx (G5 .i64 b 1)))) (some (.nx (G5 .i64 b 1)))) (some (.nx (G5 .i64 b 1)))) (some (.ex ()))) 0) λo=>Z8 o (λy=>l9 (aN A.2.1 (Z7 x)) λb=>some (6,A.1,fD A.2.1 (Z7 x) (b.1,b.2.1,b.2.2.1,c.2.2.2),A.2.2)) λr=>some r) none)
def q52:FQ:=⟨[(false,(.box (pA (dT y1) (pA (.owns (pA (dT .str) (pA (dT y2) (pA (dT y2) (oW y4))))) (.owns (pA (dT .str) (pA O7 (pA (dT y11) (pA (dT y11) (oW y19)))))))))),tD y38],⟨[(.tmp 4,P7)],[(0,(true,(pA (dT y1) (pA (.owns (pA (dT .str) (pA (dT y2) (pA (dT y2) (oW y4))))) (.owns (pA (dT .str) (pA O7 (pA (dT y11) (pA (dT y11) (oW y19))))))))))]⟩,⟨61,eqs,tt,gl,[(72,s72),(92,s92)],[(23,(pA (dT .str) (pA (dT y2) (pA (dT y2) (oW y4))))),(24,(pA (dT .str) (pA O7 (pA (dT y11) (pA (dT y11) (oW y19))))))],[20,24],[],[0],[],[]⟩,sN 4 (dW (sN 1 (lM (lpR [(4,5),(7,9),(27,61)] ⟨[(27,P7)],[]⟩ 0 sgN J9))) J9)⟩
def s52:FSpec:=bM q52 λx=>Jw x.1 x.2
def Ho(A:Z9)(B:F8):Option (Z9×Int):=l9 (l7 (I5 B.1 1) (some (.inr (([],[],[]),1))) (l7 (I5 4 B.1) (some (.inr (([],[],[]),1))) (some (.inl ([],[],[]))))) λo=>Z8 o (λ(x:Z9)=>l9 (l7 (I5 B.2.1 0) (some (.inr (([],[],[]),3))) (l7 (I5 109572 B.2.1) (some (.inr (([],[],[]),3))) (some (.inl x)))) λo=>Z8 o (λ(x:Z9)=>l9 (QL A) λx=>l9 (l7 (C9 B.1 1) (l9 (Hr x B) λx=>some (x.2,x.1)) (l7 (C9 B.1 2) (l9 (Ht x B) λx=>some (x.2,x.1)) (l7 (C9 B.1 3) (l9 (Jv x B) λx=>some (x.2,x.1)) (l7 (C9 B.1 4) (l9 (Jw x B) λx=>some (x.2,x.1)) (some (x,0)))))) λx=>l7 (C9 x.2 0) (l9 (qE x.1) λb=>l7 (H5 (C9 b.1 0)) (some (([],[],[]),b.1)) (some (x.1,0))) (l7 (H5 (C9 x.2 0)) (some (([],[],[]),x.2)) (some (x.1,0)))) λr=>some r) λr=>some r
def q25:FQ:=⟨[tD y27,tD y38],⟨[(.cell 4 26,tD y27),(.tmp 5,P7)],[]⟩,⟨56,eqs,tt,gl,[(21,s21),(49,s49),(50,s50),(51,s51),(52,s52),(13,s13)],[(23,(pA (dT .str) (pA (dT y2) (pA (dT y2) (oW y4))))),(24,(pA (dT .str) (pA O7 (pA (dT y11) (pA (dT y11) (oW y19))))))],[],[],[],[],[]⟩,sN 1 (dW (jnR [(4,6),(8,17),(4000256,4000257)] ⟨[(4,(false,(.box (dT y27))))],[]⟩ J9) (dW (jnR [(4,6),(17,26),(6000000,6000001)] ⟨[(4,(false,(.box (dT y27))))],[]⟩ J9) (sN 2 (dW (.join [(6,8),(28,46),(27000384,27000385),(27001728,27001730)] ⟨[(6,(false,(.box (pA (dT y1) (pA (.owns (pA (dT .str) (pA (dT y2) (pA (dT y2) (oW y4))))) (.owns (pA (dT .str) (pA O7 (pA (dT y11) (pA (dT y11) (oW y19))))))))))),(7,P7)],[]⟩ J9) J9))))⟩
def s25:FSpec:=bM q25 λx=>Ho x.1 x.2
def JU(A:Z9)(B:F8):Option (Z9×Int):=l9 (qE A) λx=>l7 (H5 (iV (C9 x.1 0) (iV (C9 x.2.1 0) (iV (C9 x.2.2.1 0) (C9 x.2.2.2 0))))) (some (([],[],[]),1)) (l9 (Ho A B) λx=>some x)
def q12:FQ:=⟨[tD y27,tD y38],⟨[(.cell 4 26,tD y27),(.tmp 5,P7)],[]⟩,mE 16 [(13,s13),(25,s25)],J9⟩
def s12:FSpec:=bM q12 λx=>JU x.1 x.2
def JV(A:Z9)(B:List F8):Option (Z9×H6):=l9 (QL A) λx=>l9 (V4 (λ(x:Z9×Z9×Int)=>l7 (I5 x.2.2 (A7 B)) (l9 (P5 B x.2.2) λc=>l9 (JU x.2.1 c) λb=>l7 (H5 (C9 b.2 0)) (some (.rt (([],[],[]),x.2.2,b.2))) (some (.nx (x.1,b.1,G5 .i64 x.2.2 1)))) (some (.ex (x.1,x.2.1)))) (([],[],[]),x,0)) λo=>Z8 o (λ(y:Z9×Z9)=>some (y.2,-1,0)) λr=>some r
def q10:FQ:=⟨[tD y27,uD y39],⟨[(.cell 4 26,tD y27),(.tmp 5,P7),(.tmp 6,P7)],[]⟩,mE 35 [(21,s21),(12,s12)],sN 2 (dW (sN 1 (lM (lpR [(4,12),(16,34),(4000256,4000257),(7000448,7000449),(7000832,7000834)] ⟨[(4,(false,(.box (dT y27)))),(7,(false,(.box (dT y27)))),(16,P7)],[]⟩ 0 ⟨[(4,(false,(.box (dT y27)))),(7,(false,(.box (dT y27))))],[]⟩ J9))) J9)⟩
def s10:FSpec:=bM q10 λx=>JV x.1 x.2
def zh(A:F8):c6J:=l9 (l7 (H5 (seq A.2.2.2.2.1 [])) (some true) (l7 (H5 (seq A.2.2.2.2.2.1 [])) (some true) (l7 (H5 (C9 A.2.2.2.2.2.2.1 0)) (some true) (l7 (I5 0 (A7 A.2.2.2.2.2.2.2.1)) (some true) (l7 (I5 0 (A7 A.2.2.2.2.2.2.2.2.1)) (some true) (some (H5 (seq A.2.2.2.2.2.2.2.2.2.1 [])))))))) λx=>l9 (l7 (H5 (seq A.2.2.1 [])) (some true) (some (H5 (seq A.2.2.2.1 [])))) λb=>l9 (l7 (H5 (seq A.2.2.2.2.2.2.2.2.2.2.1 [])) (some true) (some (H5 (iV (C9 A.2.2.2.2.2.2.2.2.2.2.2.1.1 0) (iV (C9 A.2.2.2.2.2.2.2.2.2.2.2.1.2 0) (iV (C9 A.2.2.2.2.2.2.2.2.2.2.2.2.1 0) (iV (C9 A.2.2.2.2.2.2.2.2.2.2.2.2.2.1 0) (C9 A.2.2.2.2.2.2.2.2.2.2.2.2.2.2 0)))))))) λc=>l7 (C9 A.1 1) (some c) (l7 (C9 A.1 2) (l7 x (some true) (some c)) (l7 (C9 A.1 3) (l7 x (some true) (l7 b (some true) (some (H5 (iV (C9 A.2.2.2.2.2.2.2.2.2.2.2.1.1 0) (C9 A.2.2.2.2.2.2.2.2.2.2.2.1.2 0)))))) (l7 x (some true) (l7 b (some true) (l7 (H5 (iV (C9 A.2.2.2.2.2.2.2.2.2.2.2.1.1 0) (C9 A.2.2.2.2.2.2.2.2.2.2.2.1.2 0))) (some true) (some (H5 (C9 A.2.2.2.2.2.2.2.2.2.2.2.2.2.2 0))))))))
def q37:FQ:=⟨[tD y38],tR 2 fF,mE 94 [],sN 1 (dW (.join [(3,4),(6,36)] ⟨[(3,fF)],[]⟩ J9) (dW (.join [(4,5),(36,44)] ⟨[(4,fF)],[]⟩ J9) (dW (.join [(5,6),(44,53)] ⟨[(5,fF)],[]⟩ J9) J9)))⟩
def s37:FSpec:=bM q37 λx=>zh x
def zi(A:F8):c6J:=l7 (C9 A.1 1) (l9 (X6 A.2.2.1) λx=>l7 x (l9 (X6 A.2.2.2.1) λx=>l7 x (l9 (X6 A.2.2.2.2.1) λx=>l7 x (l7 (seq A.2.2.2.2.2.1 []) (l9 (uz A.2.2.2.2.2.2.2.2.2.1) λx=>some x) (l9 (X6 A.2.2.2.2.2.1) λx=>l7 x (l9 (uz A.2.2.2.2.2.2.2.2.2.1) λx=>some x) (some false))) (some false)) (some false)) (some false)) (l7 (C9 A.1 2) (l9 (X6 A.2.2.1) λx=>l7 x (l9 (X6 A.2.2.2.1) λx=>some x) (some false)) (l9 (X6 A.2.2.2.2.2.2.2.2.2.2.1) λx=>some x))
def q38:FQ:=⟨[tD y38],tR 2 fF,mE 48 [(55,s55),(75,s75)],J9⟩
def s38:FSpec:=bM q38 λx=>zi x
def uZ(A:Z9)(B:F8):Option (c6F×Int):=l9 (nM A B.2.2.1) λx=>l7 (I5 x 0) (some ([],6)) (l9 (sF A x) λx=>l9 (N8 [105,110,115,101,114,116,32] B.2.2.1) λi=>l9 (N8 i [32]) λp=>l9 (N8 p B.2.2.2.1) λq=>l9 (N8 q [32,111,102,32]) λt=>l9 (N8 t B.2.2.2.2.1) λf=>l9 (l7 (H5 (seq B.2.2.2.2.2.1 [])) (l9 (N8 [32,111,118,101,114,32] B.2.2.2.2.2.1) λx=>l9 (N8 f x) λx=>some x) (some f)) λg=>l9 (l7 (H5 (C9 B.2.2.2.2.2.2.1 0)) (l9 (lY B.2.2.2.2.2.2.1) λx=>l9 (N8 [32,112,114,105,111,32] x) λx=>l9 (N8 g x) λx=>some x) (some g)) λu=>l9 (sU B.2.1) λv=>l9 (N8 [32,102,114,111,109,32] v) λw=>l9 (N8 u w) λd=>l7 (I5 0 (A7 B.2.2.2.2.2.2.2.1)) (l9 (iq B.2.2.2.2.2.2.2.1 x) λb=>l7 (H5 (C9 b.2 0)) (some ([],b.2)) (l9 (N8 [32,119,104,101,110,32] b.1) λc=>l9 (N8 d c) λj=>l9 (iq B.2.2.2.2.2.2.2.2.1 x) λx=>l7 (H5 (C9 x.2 0)) (some ([],x.2)) (l9 (N8 [32,105,115,32] x.1) λx=>l9 (N8 j x) λx=>l7 (H5 (seq B.2.2.2.2.2.2.2.2.2.1 [])) (l9 (N8 [32,115,114,99,32,34] B.2.2.2.2.2.2.2.2.2.1) λk=>l9 (N8 k [34]) λn=>l9 (N8 x n) λx=>some (x,0)) (some (x,0))))) (l9 (iq B.2.2.2.2.2.2.2.2.1 x) λx=>l7 (H5 (C9 x.2 0)) (some ([],x.2)) (l9 (N8 [32,105,115,32] x.1) λx=>l9 (N8 d x) λx=>l7 (H5 (seq B.2.2.2.2.2.2.2.2.2.1 [])) (l9 (N8 [32,115,114,99,32,34] B.2.2.2.2.2.2.2.2.2.1) λb=>l9 (N8 b [34]) λc=>l9 (N8 x c) λx=>some (x,0)) (some (x,0)))))
def q39:FQ:=⟨[tD y27,tD y38],⟨[(.tmp 4,(uD .str)),(.tmp 5,P7)],[]⟩,mE 98 [(64,s64),(66,s66),(76,s76),(40,s40),(77,s77)],sN 5 (dW (.join [(8,9),(33,41)] ⟨[(8,(uD .str))],[]⟩ J9) (dW (.join [(8,9),(41,50)] ⟨[(8,(uD .str))],[]⟩ J9) J9))⟩
def s39:FSpec:=bM q39 λx=>uZ x.1 x.2
def rY(A:Z9)(B:H6)(C:Int):Option (c6F×Int):=l9 (iR (B.1,B.2,C) A.1) λx=>some x
def q81:FQ:=⟨[tD y27,tD y2,P7],⟨[(.tmp 6,(uD .str)),(.tmp 7,P7)],[]⟩,mE 19 [(130,b4O)],J9⟩
def s81:FSpec:=bM q81 λx=>rY x.1 x.2.1 x.2.2
def zg(A:Z9)(B:F8):Option (c6F×Int):=l9 (nN A B.2.2.2.2.2.2.2.2.2.2.1) λx=>l7 (I5 x 0) (some ([],6)) (l9 (P5 A.2.1 x) λx=>l9 (rY A x.2.1 B.2.2.2.2.2.2.2.2.2.2.2.2.1) λb=>l7 (H5 (C9 b.2 0)) (some ([],b.2)) (l9 (l9 (jo x.2.1 A.1) λc=>l7 (H5 (C9 B.2.2.2.2.2.2.2.2.2.2.2.2.2.1 (G5 .i64 c.2 1))) (l9 (rY A x.2.1 B.2.2.2.2.2.2.2.2.2.2.2.2.2.1) λx=>l7 (H5 (C9 x.2 0)) (some (.inr ([],x.2))) (some (.inl x.1))) (some (.inl [101,110,100]))) λo=>Z8 o (λ(c:c6F)=>l9 (N8 B.2.2.2.2.2.2.2.2.2.2.1 [32,102,114,111,109,32]) λi=>l9 (sU B.2.1) λj=>l9 (N8 i j) λk=>l9 (N8 k [32]) λn=>l9 (N8 n b.1) λp=>l9 (N8 p [32]) λq=>l9 (N8 q c) λd=>l7 (C9 B.1 4) (l9 (N8 [114,101,112,101,97,108,114,111,119,32] d) λx=>some (x,0)) (l9 (rY A x.2.2.1 B.2.2.2.2.2.2.2.2.2.2.2.2.2.2) λx=>l7 (H5 (C9 x.2 0)) (some ([],x.2)) (l9 (N8 [105,110,115,101,114,116,114,111,119,32] d) λf=>l9 (N8 f [32]) λg=>l9 (N8 g x.1) λx=>some (x,0)))) λr=>some r))
def q41:FQ:=⟨[tD y27,tD y38],⟨[(.tmp 4,(uD .str)),(.tmp 5,P7)],[]⟩,mE 102 [(72,s72),(81,s81),(74,s74),(40,s40)],sN 7 (dW (jnR [(4,6),(9,13),(39,66)] ⟨[(10,(uD .str))],[]⟩ J9) J9)⟩
def s41:FSpec:=bM q41 λx=>zg x.1 x.2
def xZ(A:Z9)(B:F8):Option (c6F×Int):=l9 (l7 (I5 B.1 1) (some (.inr ([],1))) (l7 (I5 4 B.1) (some (.inr ([],1))) (some (.inl ())))) λo=>Z8 o (λx=>l9 (l9 (zh B) λx=>l7 x (some (.inr ([],2))) (l9 (zi B) λx=>l7 (H5 x) (some (.inr ([],2))) (some (.inl ())))) λo=>Z8 o (λx=>l9 (l7 (I5 B.2.1 0) (some (.inr ([],3))) (l7 (I5 109572 B.2.1) (some (.inr ([],3))) (l7 (I5 B.2.2.2.2.2.2.1 0) (some (.inr ([],3))) (l7 (I5 9 B.2.2.2.2.2.2.1) (some (.inr ([],3))) (some (.inl ())))))) λo=>Z8 o (λx=>l7 (C9 B.1 1) (l9 (uZ A B) λx=>some x) (l7 (C9 B.1 2) (l9 (N8 [114,101,112,101,97,108,32] B.2.2.1) λx=>l9 (N8 x [32]) λx=>l9 (N8 x B.2.2.2.1) λx=>l9 (N8 x [32,102,114,111,109,32]) λx=>l9 (sU B.2.1) λb=>l9 (N8 x b) λx=>some (x,0)) (l9 (zg A B) λx=>some x))) λr=>some r) λr=>some r) λr=>some r
def q16:FQ:=⟨[tD y27,tD y38],⟨[(.tmp 4,(uD .str)),(.tmp 5,P7)],[]⟩,mE 67 [(37,s37),(38,s38),(39,s39),(40,s40),(41,s41)],sN 1 (dW (jnR [(4,14)] sgN J9) (dW (jnR [(4,6),(14,21)] sgN J9) (dW (jnR [(4,6),(21,39)] sgN J9) J9)))⟩
def s16:FSpec:=bM q16 λx=>xZ x.1 x.2
def c6i:List MG:=[(false,(.sbx 87 5))]
def s17:FSpec:=⟨c6i,[P7],[(false,(.sbx 87 5))],λx=>Hl x⟩
def c6j:List MG:=[(false,(.sbx 87 5)),(false,(.dat .str))]
def s18:FSpec:=⟨c6j,[P7,(false,(.cell none))],[(false,(.sbx 87 5))],λx=>zD x.1 x.2⟩
def c6k:List MG:=[(false,(.sbx 87 5)),(false,(.dat (.int .u8)))]
def s19:FSpec:=⟨c6k,[(false,(.cell none))],[(false,(.sbx 87 5))],λx=>BJ x.1 x.2⟩
def c6l:List MG:=[(false,(.sbx 87 5))]
def s20:FSpec:=⟨c6l,[(false,(.dat .str))],[(false,(.sbx 87 5))],λx=>xf x⟩
def Aj(A:Z9)(B:List F8):Option (c6F×Int):=l9 (qE A) λx=>l7 (H5 (iV (C9 x.1 0) (iV (C9 x.2.1 0) (iV (C9 x.2.2.1 0) (C9 x.2.2.2 0))))) (some ([],1)) (l9 (V4 (λ(x:c6F×Int)=>l7 (I5 x.2 (A7 B)) (l9 (P5 B x.2) λd=>l9 (xZ A d) λb=>l7 (H5 (C9 b.2 0)) (some (.rt ([],b.2))) (l9 (Hl x.1) λc=>l7 (U7 c.1 65536) (l9 (zD c.2 b.1) λf=>l9 (BJ f.2.2 10) λg=>some (.nx (g.2,G5 .i64 x.2 1))) (some (.nx (c.2,G5 .i64 x.2 1))))) (some (.ex x.1))) ([],0)) λo=>Z8 o (λ(y:c6F)=>l9 (Hl y) λx=>l7 (I5 65536 x.1) (some ([],4)) (l9 (xf x.2) λx=>some (x.1,0))) λr=>some r)
def q7:FQ:=⟨[tD y27,uD y39],⟨[(.tmp 4,(uD .str)),(.tmp 5,P7)],[]⟩,mE 39 [(13,s13),(16,s16),(17,s17),(18,s18),(19,s19),(20,s20)],sN 3 (dW (sN 1 (lM (lpR [(4,7),(8,11),(17,36),(17000384,17000385)] ⟨[(6,(false,(.sbx 87 5))),(17,P7)],[]⟩ 0 ⟨[(6,(false,(.sbx 87 5)))],[]⟩ J9))) J9)⟩
def s7:FSpec:=bM q7 λx=>Aj x.1 x.2
def xk(A:Z9)(B:List aI)(C:List mW):Option H6:=l7 (I5 (A7 B) (A7 C)) (some (A7 B,5)) (l7 (I5 (A7 C) (A7 B)) (some (A7 C,4)) (l9 (V4 (λ(x:Int)=>l7 (I5 x (A7 B)) (l9 (P5 B x) λb=>l9 (P5 C x) λc=>l7 (H5 (C9 b.1 c.2.1)) (some (.rt (x,8))) (l7 (H5 (C9 b.2.1 c.2.2)) (some (.rt (x,8))) (l9 (jo c.2 A.1) λd=>l7 (I5 b.2.2 d.1) (some (.rt (x,3))) (l7 (I5 d.2 b.2.2) (some (.rt (x,3))) (some (.nx (G5 .i64 x 1))))))) (some (.ex ()))) 0) λo=>Z8 o (λy=>some (0,0)) λr=>some r))
def q85:FQ:=⟨[tD y27,uD y40,uD y11],⟨[(.tmp 6,P7),(.tmp 7,P7)],[]⟩,mE 71 [(74,s74)],sN 3 (dW (sN 1 (lM (lpR [(6,13),(29,71)] ⟨[(29,P7)],[]⟩ 0 sgN J9))) J9)⟩
def s85:FSpec:=bM q85 λx=>xk x.1 x.2.1 x.2.2
def BG(A:Z9)(B:Int):Option (List mW×Int):=l9 (P5 A.2.2 B) λx=>l7 (I5 x.2.1 0) (some ([],0)) (l7 (U7 (A7 A.2.2) x.2.1) (some ([],0)) (l9 (P5 A.2.2 x.2.1) λx=>some (x.2.2.1,8)))
def q86:FQ:=⟨[tD y27,P7],⟨[(.tmp 4,uD y11),(.tmp 5,P7)],[]⟩,mE 28 [],J9⟩
def s86:FSpec:=bM q86 λx=>BG x.1 x.2
def FB(A:Z9)(B:Int)(C:a3P):Option aI:=l9 (l7 (I5 B 0) (some (.inr (-1,-1,6))) (l7 (U7 (A7 A.2.2) B) (some (.inr (-1,-1,6))) (some (.inl ())))) λo=>Z8 o (λx=>l9 (l7 (I5 C.1 0) (some (.inr (-1,-1,3))) (l7 (I5 109572 C.1) (some (.inr (-1,-1,3))) (some (.inl ())))) λo=>Z8 o (λx=>l9 (P5 A.2.2 B) λx=>l9 (xk A C.2.1 x.2.2.1) λx=>l7 (H5 (C9 x.2 0)) (some (-1,x)) (l9 (BG A B) λx=>l7 (I5 x.2 (A7 C.2.2)) (some (x.2,-1,4)) (l9 (V4 (λ(b:Int)=>l7 (I5 b (A7 C.2.2)) (l9 (P5 C.2.2 b) λc=>l9 (xk A c x.1) λx=>l7 (H5 (C9 x.2 0)) (some (.rt (b,x))) (some (.nx (G5 .i64 b 1)))) (some (.ex ()))) 0) λo=>Z8 o (λy=>some (0,0,0)) λr=>some r))) λr=>some r) λr=>some r
def q47:FQ:=⟨[tD y27,P7,tD y49],⟨[(.tmp 6,P7),(.tmp 7,P7),(.tmp 8,P7)],[]⟩,mE 84 [(85,s85),(86,s86)],sN 1 (dW (jnR [(6,9),(17,26)] sgN J9) (dW (jnR [(6,9),(26,34)] sgN J9) (sN 3 (dW (sN 1 (lM (lpR [(6,9),(13,17),(66,84)] ⟨[(66,P7)],[]⟩ 0 sgN J9))) J9))))⟩
def s47:FSpec:=bM q47 λx=>FB x.1 x.2.1 x.2.2
def BH(A:Z9)(B:Int)(C:a3P)(D:Bool)(E:Int):Option fP:=l9 (qE A) λx=>l7 (H5 (C9 x.1 0)) (some (1,-1,-1,-1)) (l9 (l7 (I5 B 0) (some (.inr (6,-1,-1,-1))) (l7 (U7 (A7 A.2.2) B) (some (.inr (6,-1,-1,-1))) (l7 D (l7 (I5 E 0) (some (.inr (6,-1,-1,-1))) (l9 (P5 A.2.2 B) λx=>l7 (U7 (A7 x.2.2.2.1) E) (some (.inr (6,-1,-1,-1))) (some (.inl (0,0,0,0))))) (some (.inl (0,0,0,0)))))) λo=>Z8 o (λ(x:fP)=>l9 (FB A B C) λx=>l7 (H5 (C9 x.2.2 0)) (some (x.2.2,x.1,-1,-1)) (some (0,0,0,0))) λr=>some r)
def q22:FQ:=⟨[tD y27,P7,tD y49,fF,P7],cR 10 61 (tD y46),mE 63 [(13,s13),(47,s47)],sN 2 (dW (jnR [(10,11),(21,49),(4000640,4000641)] ⟨[(10,(false,(.box (dT y46))))],[]⟩ J9) J9)⟩
def s22:FSpec:=bM q22 λx=>BH x.1 x.2.1 x.2.2.1 x.2.2.2.1 x.2.2.2.2
def JD(A:Z9)(B:Int):Option yQ:=l9 (P5 A.2.2 B) λx=>l9 (BD (A7 x.2.2.2.1) false) λb=>l7 (U7 0 x.2.1) (l9 (P5 A.2.2 x.2.1) λc=>l9 (BD (A7 c.2.2.2.1) false) λd=>some (x,c,b,d)) (some (x,([],0,[],[],[]),b,[]))
def q23:FQ:=⟨[tD y27,P7],⟨[(.tmp 4,(false,(.box (pA (dT y24) (pA (dT y24) (pA (oW .bool) (oW .bool)))))))],[]⟩,mE 52 [],J9⟩
def s23:FSpec:=bM q23 λx=>JD x.1 x.2
def FP(A:c6G)(B:Int):Option c6G:=l9 (eG A [B]) λx=>some x
def a8O:FQ:=⟨[(false,(.box oiM)),(false,(.ifc 3 O7))],⟨[],[(0,(true,oiM))]⟩,⟨20,eqs,tt,gl,[],[],[],[],[0],[],[]⟩,J9⟩
def a9F:FSpec:=bM a8O λx=>FP x.1 x.2
def yh(A:c6G):c6K:=some (A7 A)
def b9a:FQ:=⟨[uD y41],tR 2 P7,mE 5 [],J9⟩
def b2F:FSpec:=bM b9a λx=>yh x
def oV(A:c6G)(B:Int)(C:Int):c6J:=l9 (P5 A B) λx=>l9 (P5 A C) λb=>some (I5 x b)
def c1C:FQ:=⟨[uD y41,P7,P7],tR 6 fF,mE 16 [],J9⟩
def b5r:FSpec:=bM c1C λx=>oV x.1 x.2.1 x.2.2
def oZ(A:c6G)(B:Int)(C:Int):Option c6G:=l9 (P5 A C) λx=>l9 (aN A (Z7 C)) λx=>l9 (P5 A B) λc=>l9 (aN A (Z7 B)) λb=>l9 (P5 A B) λd=>l9 (aN A (Z7 B)) λf=>l9 (P5 (fD A (Z7 B) x) C) λg=>l9 (aN (fD A (Z7 B) x) (Z7 C)) λi=>some (fD (fD A (Z7 B) x) (Z7 C) b)
def c1F:FQ:=⟨[(false,(.ownb (.int .i64))),P7,P7],⟨[],[(0,uoM)]⟩,⟨20,eqs,tt,gl,[],[],[],[],[0],[],[]⟩,J9⟩
def b2P:FSpec:=bM c1F λx=>oZ x.1 x.2.1 x.2.2
def FK(A:c6G)(B:Int):Option c6G:=l9 (fA (λ(x:c6G×Int)=>l7 (C9 (aO .i64 (N9 .i64 x.2 1) 2) x.2) (some (.inr x.1)) (l9 (oV x.1 x.2 (aO .i64 (N9 .i64 x.2 1) 2)) λb=>l7 (H5 b) (some (.inr x.1)) (l9 (oZ x.1 (aO .i64 (N9 .i64 x.2 1) 2) x.2) λc=>some (.inl (c,aO .i64 (N9 .i64 x.2 1) 2))))) (A,B)) λy=>some y
def a8G:FQ:=⟨[(false,(.ifc 225 (.box oiM))),P7],⟨[],[(0,(true,oiM))]⟩,⟨23,eqs,tt,gl,[(356,b5r),(359,b2P)],[],[],[((225,"Less"),356,some 226),((225,"Swap"),359,some 226)],[0],[],[]⟩,lM (.loop [(0,2),(4,23),(1000000,1000002)] ⟨[(0,(false,(.ifc 225 (.box oiM)))),(1,P7)],[]⟩ 0 ⟨[(0,(false,(.ifc 225 (.box oiM))))],[]⟩ J9)⟩
def a9x:FSpec:=bM a8G λx=>FK x.1 x.2
def yM(A:c6G)(B:Int):Option c6G:=l9 (FP A B) λx=>l9 (yh x) λb=>l9 (FK x (N9 .i64 b 1)) λx=>some x
def a8w:FQ:=⟨[(false,(.ifc 225 (.box oiM))),(false,(.ifc 3 O7))],⟨[],[(0,(true,oiM))]⟩,⟨12,eqs,tt,gl,[(358,a9F),(133,b2F),(185,a9x)],[],[],[((225,"Len"),133,some 226),((225,"Push"),358,none)],[0],[],[]⟩,J9⟩
def a9m:FSpec:=bM a8w λx=>yM x.1 x.2
def DF(A:c6G)(B:Int)(C:Int):Option (Bool×c6G):=l9 (fA (λ(x:c6G×Int)=>l7 (U7 C (G5 .i64 (mY .i64 2 x.2) 1)) (some (.inr x)) (l7 (I5 (G5 .i64 (mY .i64 2 x.2) 1) 0) (some (.inr x)) (l7 (I5 (G5 .i64 (G5 .i64 (mY .i64 2 x.2) 1) 1) C) (l9 (oV x.1 (G5 .i64 (G5 .i64 (mY .i64 2 x.2) 1) 1) (G5 .i64 (mY .i64 2 x.2) 1)) λc=>l7 c (l9 (oV x.1 (G5 .i64 (G5 .i64 (mY .i64 2 x.2) 1) 1) x.2) λb=>l7 (H5 b) (some (.inr x)) (l9 (oZ x.1 x.2 (G5 .i64 (G5 .i64 (mY .i64 2 x.2) 1) 1)) λd=>some (.inl (d,G5 .i64 (G5 .i64 (mY .i64 2 x.2) 1) 1)))) (l9 (oV x.1 (G5 .i64 (mY .i64 2 x.2) 1) x.2) λb=>l7 (H5 b) (some (.inr x)) (l9 (oZ x.1 x.2 (G5 .i64 (mY .i64 2 x.2) 1)) λd=>some (.inl (d,G5 .i64 (mY .i64 2 x.2) 1))))) (l9 (oV x.1 (G5 .i64 (mY .i64 2 x.2) 1) x.2) λc=>l7 (H5 c) (some (.inr x)) (l9 (oZ x.1 x.2 (G5 .i64 (mY .i64 2 x.2) 1)) λb=>some (.inl (b,G5 .i64 (mY .i64 2 x.2) 1))))))) (A,B)) λy=>some (I5 B y.2,y.1)
def a8H:FQ:=⟨[(false,(.ifc 225 (.box oiM))),P7,P7],⟨[(.tmp 6,fF)],[(0,(true,oiM))]⟩,⟨48,eqs,tt,gl,[(356,b5r),(359,b2P)],[],[],[((225,"Less"),356,some 226),((225,"Swap"),359,some 226)],[0],[],[]⟩,sN 2 (dW (lM (.loop [(0,1),(7,11),(12,45),(1000000,1000002)] ⟨[(0,(false,(.ifc 225 (.box oiM)))),(7,P7)],[]⟩ 0 ⟨[(0,(false,(.ifc 225 (.box oiM)))),(7,P7)],[]⟩ J9)) J9)⟩
def a9y:FSpec:=bM a8H λx=>DF x.1 x.2.1 x.2.2
def HY(A:c6G):Option (Int×c6G):=l9 (P5 A (N9 .i64 (A7 A) 1)) λx=>l9 (aN A (Z7 (N9 .i64 (A7 A) 1))) λx=>l7 (mi 0 (N9 .i64 (A7 A) 1) (A7 A)) (some (x,kH A (Z7 0) (Z7 (N9 .i64 (A7 A) 1)))) none
def c1E:FQ:=⟨[(false,(.box oiM))],⟨[(.tmp 2,(false,(.ifc 3 O7)))],[(0,(true,oiM))]⟩,⟨23,eqs,tt,gl,[],[],[],[],[0],[],[]⟩,J9⟩
def c4k:FSpec:=bM c1E λx=>HY x
def Ey(A:c6G):Option (Int×c6G):=l9 (yh A) λx=>l9 (oZ A 0 (N9 .i64 x 1)) λb=>l9 (DF b 0 (N9 .i64 x 1)) λx=>l9 (HY x.2) λx=>some x
def a8x:FQ:=⟨[(false,(.ifc 225 (.box oiM)))],⟨[(.tmp 2,(false,(.ifc 3 O7)))],[(0,(true,oiM))]⟩,⟨15,eqs,tt,gl,[(133,b2F),(359,b2P),(186,a9y),(357,c4k)],[],[],[((225,"Len"),133,some 226),((225,"Pop"),357,none),((225,"Swap"),359,some 226)],[0],[],[]⟩,J9⟩
def a9n:FSpec:=bM a8x λx=>Ey x
def Dc(A:au):Option (c6G×Int):=l9 (xx A) λx=>l9 (BD (A7 x) []) λk=>l9 (BD (A7 x) 0) λq=>l9 (fA (λ(b:List c6G×c6G×c6G×Int)=>l7 (I5 b.2.2.2 (A7 x)) (l9 (P5 x b.2.2.2) λx=>l9 (P5 b.2.1 b.2.2.2) λg=>l9 (aN b.2.1 (Z7 b.2.2.2)) λi=>l9 (fA (λ(c:List c6G×Int)=>l7 (I5 c.2 (A7 x)) (l9 (P5 x c.2) λx=>l7 (inb x (A7 c.1)) (l9 (aN c.1 (Z7 x)) λd=>l9 (eG d [b.2.2.2]) λj=>l7 (inb x (A7 c.1)) (l7 (JO (Z7 x) (Z7 x)) (l9 (aN c.1 (Z7 x)) λf=>some (.inl (fD c.1 (Z7 x) j,G5 .i64 c.2 1))) none) none) none) (some (.inr c.1))) (b.1,0)) λy=>l7 (C9 (A7 x) 0) (l9 (yM b.2.2.1 b.2.2.2) λc=>some (.inl (y,fD b.2.1 (Z7 b.2.2.2) (A7 x),c,G5 .i64 b.2.2.2 1))) (some (.inl (y,fD b.2.1 (Z7 b.2.2.2) (A7 x),b.2.2.1,G5 .i64 b.2.2.2 1)))) (some (.inr (b.1,b.2.1,b.2.2.1)))) (k,q,[],0)) λy=>l9 (fA (λ(x:List c6G×uy)=>l9 (yh x.2.2.1) λb=>l7 (I5 0 b) (l9 (Ey x.2.2.1) λg=>l9 (eG x.2.2.2 [g.1]) λi=>l9 (P5 x.1 g.1) λc=>l9 (fA (λ(x:c6G×c6G×Int)=>l7 (I5 x.2.2 (A7 c)) (l9 (P5 c x.2.2) λd=>l9 (P5 x.1 d) λj=>l9 (aN x.1 (Z7 d)) λf=>l9 (P5 x.1 d) λt=>l9 (aN x.1 (Z7 d)) λu=>l9 (P5 (fD x.1 (Z7 d) (N9 .i64 f 1)) d) λv=>l9 (aN (fD x.1 (Z7 d) (N9 .i64 f 1)) (Z7 d)) λn=>l7 (C9 n 0) (l9 (yM x.2.1 d) λp=>some (.inl (fD x.1 (Z7 d) (N9 .i64 f 1),p,G5 .i64 x.2.2 1))) (some (.inl (fD x.1 (Z7 d) (N9 .i64 f 1),x.2.1,G5 .i64 x.2.2 1)))) (some (.inr (x.1,x.2.1)))) (x.2.1,g.2,0)) λy=>some (.inl (x.1,y.1,y.2,i))) (some (.inr x.2.2.2))) (y.1,y.2.1,y.2.2,[])) λy=>l7 (I5 (A7 y) (A7 x)) (some ([],9)) (some (y,0))
def q87:FQ:=⟨[tD y24],⟨[(.tmp 2,uoM),(.tmp 3,P7)],[]⟩,⟨113,eqs,tt,gl,[(131,b4P),(132,a9m),(133,b2F),(134,a9n)],[(223,oiM)],[12,50,77,80],[],[],[],[]⟩,sN 5 (dW (sN 1 (lM (.loop [(5,10),(11,12),(29,65),(10001344,10001345),(13001536,13001537),(16001600,16001601),(16001664,16001665)] ⟨[(5,(false,(.owns oiM))),(6,uoM),(7,(false,(.box oiM))),(29,P7)],[]⟩ 0 ⟨[(5,(false,(.owns oiM))),(6,uoM),(7,(false,(.box oiM)))],[]⟩ (sN 2 (dW (lM (sN 2 (dW (sN 1 (lM (.loop [(5,6),(11,12),(41,56),(23000000,23000001)] ⟨[(5,(false,(.owns oiM))),(41,P7)],[]⟩ 2 ⟨[(5,(false,(.owns oiM)))],[]⟩ J9))) J9))) J9))))) (sN 1 (dW (lM (.loop [(5,8),(12,15),(16,17),(65,107),(24000000,24000004)] ⟨[(5,(uD y73)),(6,uoM),(7,(false,(.box oiM))),(12,uoM)],[]⟩ 4 ⟨[(12,uoM)],[]⟩ (sN 1 (lM (sN 3 (lM (.loop [(6,8),(16,17),(86,107),(79000000,79000002),(91004672,91004673)] ⟨[(6,uoM),(7,(false,(.box oiM))),(86,P7)],[]⟩ 6 ⟨[(6,uoM),(7,(false,(.box oiM)))],[]⟩ J9))))))) J9)))⟩
def s87:FSpec:=bM q87 λx=>Dc x
def vC(A:H6)(B:Int):c6J:=l9 (su A) λx=>l7 x (l7 (U7 A.1 B) (some (I5 B A.2)) (some false)) (some false)
def b9I:FQ:=⟨[tD y2,P7],tR 4 fF,mE 19 [(95,s95)],J9⟩
def b2J:FSpec:=bM b9I λx=>vC x.1 x.2
def EF(A:kF)(B:Int)(C:Int):c6J:=l7 (C9 A.2.1 B) (l9 (vC A.2.2.2.2.1 C) λx=>some x) (some false)
def a8J:FQ:=⟨[tD y19,(false,(.rp (.int .i64))),(false,(.rp (.int .i64)))],tR 4 fF,mE 15 [(189,b2J)],J9⟩
def a2W:FSpec:=bM a8J λx=>EF x.1 x.2.1 x.2.2
def DI(A:List kF)(B:H6):Option (c6G×c6G):=l9 (BD (A7 A) 0) λx=>l9 (fA (λ(x:c6G×c6G×c6G×Int)=>l7 (I5 x.2.2.2 (A7 A)) (l9 (P5 A x.2.2.2) λc=>l9 (l7 (U7 0 c.2.2.1) (l7 (I5 c.2.2.1 x.2.2.2) (l9 (P5 x.2.2.1 c.2.2.1) λb=>l9 (aN x.2.2.1 (Z7 c.2.2.1)) λx=>some x) (some (-1))) (some (-1))) λb=>l9 (P5 x.2.2.1 x.2.2.2) λi=>l9 (aN x.2.2.1 (Z7 x.2.2.2)) λj=>l9 (EF c B.1 B.2) λd=>l7 d (l9 (P5 (fD x.2.2.1 (Z7 x.2.2.2) b) x.2.2.2) λk=>l9 (aN (fD x.2.2.1 (Z7 x.2.2.2) b) (Z7 x.2.2.2)) λn=>l9 (eG x.1 [x.2.2.2]) λf=>l9 (eG x.2.1 [b]) λg=>some (.inl (f,g,fD (fD x.2.2.1 (Z7 x.2.2.2) b) (Z7 x.2.2.2) (A7 x.1),G5 .i64 x.2.2.2 1))) (some (.inl (x.1,x.2.1,fD x.2.2.1 (Z7 x.2.2.2) b,G5 .i64 x.2.2.2 1)))) (some (.inr (x.1,x.2.1)))) ([],[],x,0)) λy=>some y
def a8I:FQ:=⟨[uD y20,(false,(.fn 188 [(.int .i64),(.int .i64)]))],⟨[(.tmp 4,uoM),(.tmp 5,uoM)],[]⟩,mE 59 [(188,a2W)],sN 3 (dW (sN 1 (lM (.loop [(6,12),(17,57),(10000896,10000897)] ⟨[(6,uoM),(7,uoM),(8,uoM),(17,P7)],[]⟩ 0 ⟨[(6,uoM),(7,uoM)],[]⟩ (sN 2 (dW (lM (sN 2 (dW (.join [(11,12),(22,36)] ⟨[(11,P7)],[]⟩ J9) J9))) J9))))) J9)⟩
def a9z:FSpec:=bM a8I λx=>DI x.1 x.2
def Ia(A:au)(B:Int)(C:Int):Option uy:=l9 (DI A.2.2.2.2 (B,C)) λx=>l9 (fA (λ(b:c6G×Int)=>l7 (I5 b.2 (A7 x.1)) (l9 (P5 x.1 b.2) λc=>l9 (aN x.1 (Z7 b.2)) λx=>l9 (P5 A.2.2.2.2 x) λx=>l9 (eG b.1 [x.2.2.2.1]) λx=>some (.inl (x,G5 .i64 b.2 1))) (some (.inr b.1))) ([],0)) λy=>some (x.1,x.2,y)
def b9b:FQ:=⟨[tD y24,P7,P7],⟨[(.tmp 6,uoM),(.tmp 7,uoM),(.tmp 8,uoM)],[]⟩,mE 40 [(188,a2W),(187,a9z)],sN 3 (dW (sN 1 (lM (.loop [(11,12),(13,14),(23,37)] ⟨[(11,uoM),(23,P7)],[]⟩ 0 ⟨[(11,uoM)],[]⟩ J9))) J9)⟩
def c2t:FSpec:=bM b9b λx=>Ia x.1 x.2.1 x.2.2
def zT(A:fQ)(B:Int):Option c6G:=l9 (P5 A.1 B) λx=>l9 (jB x.1) λx=>l9 (BD x 0) λx=>l9 (fA (λ(x:c6G×H6)=>l7 (U7 0 x.2.2) (l9 (P5 x.1 x.2.2) λc=>l9 (aN x.1 (Z7 x.2.2)) λd=>l9 (P5 A.2.1 x.2.1) λb=>some (.inl (fD x.1 (Z7 x.2.2) x.2.1,N9 .i64 b 1,N9 .i64 x.2.2 1))) (some (.inr x.1))) (x,N9 .i64 B 1,N9 .i64 (A7 x) 1)) λy=>some y
def b9M:FQ:=⟨[tD y75,P7],tR 4 uoM,mE 36 [(125,a2S)],sN 3 (dW (sN 1 (lM (.loop [(5,8),(21,35),(7000960,7000961)] ⟨[(5,uoM),(6,P7),(7,P7)],[]⟩ 0 ⟨[(5,uoM)],[]⟩ J9))) J9)⟩
def c2X:FSpec:=bM b9M λx=>zT x.1 x.2
def oD(A:aI):c6J:=l9 (l7 (H5 (C9 A.1 6)) (l7 (H5 (C9 A.2.1 0)) (some (.inr false)) (some (.inl ()))) (some (.inl ()))) λo=>Z8 o (λx=>l7 (C9 A.1 1) (l7 (C9 A.2.2 0) (some true) (some (C9 A.2.2 1))) (l7 (C9 A.1 2) (l7 (U7 (-1000000000000) A.2.2) (some (U7 A.2.2 1000000000000)) (some false)) (l7 (C9 A.1 3) (l7 (U7 (-1000000000000000) A.2.2) (some (U7 A.2.2 1000000000000000)) (some false)) (l7 (C9 A.1 4) (l7 (U7 (-1000000000) A.2.2) (some (U7 A.2.2 1000000000)) (some false)) (l7 (C9 A.1 5) (l7 (U7 0 A.2.2) (some (U7 A.2.2 109572)) (some false)) (l7 (C9 A.1 6) (l7 (U7 0 A.2.1) (l7 (I5 A.2.1 8) (l7 (U7 0 A.2.2) (some (I5 A.2.2 16)) (some false)) (some false)) (some false)) (some false))))))) λr=>some r
def c0j:FQ:=⟨[tD y3],tR 2 fF,mE 83 [],sN 1 (dW (jnR [(2,11)] sgN J9) J9)⟩
def a2Y:FSpec:=bM c0j λx=>oD x
def Jz(A:H6):c6J:=l9 (l9 (jB A.1) λx=>l7 (I5 x 0) (some (.inr false)) (l7 (H5 (C9 A.2 0)) (l9 (bI A.1) λx=>l7 (H5 x) (some (.inr false)) (some (.inl ()))) (some (.inl ())))) λo=>Z8 o (λx=>l9 (l7 (C9 A.1 14) (some (C9 A.1 14)) (l7 (C9 A.1 15) (some (C9 A.1 15)) (some (C9 A.1 16)))) λx=>l7 x (l7 (U7 0 A.2) (some (U7 A.2 5)) (some false)) (l7 (C9 A.1 34) (l7 (U7 0 A.2) (some (U7 (fE A.2 8) 5)) (some false)) (l7 (C9 A.1 6) (some (U7 0 A.2)) (some true)))) λr=>some r
def c0e:FQ:=⟨[tD y2],tR 2 fF,mE 48 [(125,a2S),(124,b2D)],sN 1 (dW (jnR [(2,18)] sgN J9) (dW (sN 1 (lM (dW (.join [(20,24)] ⟨[(20,fF)],[]⟩ J9) J9))) J9))⟩
def c3j:FSpec:=bM c0e λx=>Jz x
def RP(A:H6)(B:OL):c6J:=l7 (C9 A.1 7) (l7 (U7 0 A.2) (some (I5 A.2 (A7 B.2.1))) (some false)) (l7 (C9 A.1 8) (l7 (U7 0 A.2) (l7 (I5 A.2 (A7 B.2.2.1)) (l9 (P5 B.2.2.1 A.2) λx=>some (H5 (C9 x.1 0))) (some false)) (some false)) (l7 (C9 A.1 33) (l7 (U7 0 A.2) (some (I5 A.2 (A7 B.2.2.2.2.2))) (some false)) (l7 (C9 A.1 34) (some (I5 (aO .i64 A.2 8) (A7 B.2.2.2.2.2))) (l9 (l7 (C9 A.1 36) (some (C9 A.1 36)) (l7 (C9 A.1 37) (some (C9 A.1 37)) (l7 (C9 A.1 38) (some (C9 A.1 38)) (some (C9 A.1 39))))) λx=>l7 x (l7 (U7 0 A.2) (some (I5 A.2 (A7 B.2.2.2.2.1))) (some false)) (some true)))))
def c0f:FQ:=⟨[tD y2,tD y58],tR 4 fF,mE 81 [],sN 1 (dW (sN 1 (lM (sN 1 (.cond J9 (sN 1 (.cond J9 (sN 1 (.cond J9 (sN 1 (.cond J9 (dW (.join [(65,70)] ⟨[(65,fF)],[]⟩ J9) J9))))))))))) J9)⟩
def c3k:FSpec:=bM c0f λx=>RP x.1 x.2
def FU(A:List aI):c6J:=l9 (V4 (λ(x:Int)=>l7 (I5 x (A7 A)) (l9 (P5 A x) λb=>l9 (oD b) λc=>l7 (H5 c) (some (.rt false)) (some (.nx (G5 .i64 x 1)))) (some (.ex ()))) 0) λo=>Z8 o (λy=>some true) λr=>some r
def c0g:FQ:=⟨[uD y40],tR 2 fF,mE 15 [(230,a2Y)],sN 1 (dW (sN 1 (lM (lpR [(2,3),(4,5),(7,15)] ⟨[(7,P7)],[]⟩ 0 sgN J9))) J9)⟩
def c3l:FSpec:=bM c0g λx=>FU x
def IV(A:aI)(B:H6):c6J:=l9 (oD A) λx=>l7 x (l7 (C9 A.1 B.1) (some (C9 A.2.1 B.2)) (some false)) (some false)
def c0w:FQ:=⟨[tD y3,tD y2],tR 4 fF,mE 21 [(230,a2Y)],J9⟩
def b5c:FSpec:=bM c0w λx=>IV x.1 x.2
def yR(A:Int):c6J:=l7 (C9 A 2) (some true) (l7 (C9 A 3) (some true) (some (C9 A 4)))
def c0T:FQ:=⟨[P7],tR 2 fF,mE 13 [],J9⟩
def b2L:FSpec:=bM c0T λx=>yR x
def EK(A:Int)(B:H6):c6J:=l7 (H5 (C9 B.2 0)) (some false) (l7 (C9 A 36) (l7 (C9 B.1 2) (some true) (some (C9 B.1 3))) (l7 (C9 A 39) (l9 (yR B.1) λx=>l7 x (some true) (some (C9 B.1 5))) (some (C9 B.1 1))))
def c0x:FQ:=⟨[P7,tD y2],tR 4 fF,mE 32 [(289,b2L)],J9⟩
def c3y:FSpec:=bM c0x λx=>EK x.1 x.2
def FV(A:Int)(B:Int):c6J:=l7 (C9 A 10) (l9 (yR B) λx=>some x) (l7 (C9 A 25) (some (C9 B 1)) (some (C9 B 5)))
def c0y:FQ:=⟨[P7,P7],tR 4 fF,mE 16 [(289,b2L)],J9⟩
def c3z:FSpec:=bM c0y λx=>FV x.1 x.2
def yS(A:aI)(B:aI):c6J:=l7 (C9 A.1 B.1) (some (C9 A.2.1 B.2.1)) (some false)
def c0A:FQ:=⟨[tD y3,tD y3],tR 4 fF,mE 17 [],J9⟩
def b5d:FSpec:=bM c0A λx=>yS x.1 x.2
def EJ(A:Int)(B:aI)(C:aI):c6J:=l9 (l9 (l7 (C9 A 11) (some (C9 A 11)) (some (C9 A 12))) λx=>l7 x (l9 (yS B C) λx=>l7 x (l9 (yR B.1) λx=>some (.inr x)) (some (.inr false))) (l7 (C9 A 13) (l7 (C9 C.1 2) (l7 (C9 B.1 2) (some (.inr true)) (some (.inr (C9 B.1 3)))) (some (.inr false))) (l7 (C9 A 14) (l7 (C9 C.1 4) (l7 (C9 B.1 3) (some (.inr true)) (some (.inr (C9 B.1 4)))) (some (.inr false))) (l7 (C9 A 15) (l7 (C9 C.1 2) (l7 (C9 B.1 2) (some (.inr true)) (some (.inr (C9 B.1 3)))) (l7 (C9 B.1 3) (some (.inr (C9 C.1 3))) (some (.inr false)))) (l7 (C9 A 16) (l7 (C9 B.1 3) (some (.inr (C9 C.1 3))) (some (.inr false))) (l9 (l7 (C9 A 17) (some (C9 A 17)) (l7 (C9 A 18) (some (C9 A 18)) (l7 (C9 A 21) (some (C9 A 21)) (some (C9 A 22))))) λx=>l7 x (l9 (yS B C) λx=>l7 x (l9 (yR B.1) λx=>l7 x (some (.inr true)) (some (.inr (C9 B.1 5)))) (some (.inr false))) (l9 (l7 (C9 A 19) (some (C9 A 19)) (some (C9 A 20))) λx=>l7 x (l9 (yS B C) λx=>some (.inr x)) (l7 (C9 A 23) (l7 (C9 A 23) (l7 (C9 B.1 1) (some (.inr (C9 C.1 1))) (some (.inr false))) (l7 (C9 A 27) (l7 (C9 A 27) (l7 (C9 B.1 5) (some (.inr (C9 C.1 2))) (some (.inr false))) (some (.inl ()))) (l7 (C9 A 28) (l7 (C9 B.1 5) (some (.inr (C9 C.1 2))) (some (.inr false))) (some (.inl ()))))) (l7 (C9 A 24) (l7 (C9 B.1 1) (some (.inr (C9 C.1 1))) (some (.inr false))) (l7 (C9 A 27) (l7 (C9 A 27) (l7 (C9 B.1 5) (some (.inr (C9 C.1 2))) (some (.inr false))) (some (.inl ()))) (l7 (C9 A 28) (l7 (C9 B.1 5) (some (.inr (C9 C.1 2))) (some (.inr false))) (some (.inl ()))))))))))))) λo=>Z8 o (λx=>l7 (C9 B.1 5) (some (C9 C.1 5)) (some false)) λr=>some r
def c0z:FQ:=⟨[P7,tD y3,tD y3],tR 6 fF,mE 134 [(254,b5d),(289,b2L)],sN 1 (dW (jnR [(6,126)] sgN (sN 1 (lM (dW (.join [(8,11)] ⟨[(8,fF)],[]⟩ J9) (.cond J9 (sN 1 (.cond J9 (sN 1 (.cond J9 (sN 1 (.cond J9 (sN 1 (.cond J9 (dW (.join [(80,85)] ⟨[(80,fF)],[]⟩ J9) (.cond J9 (dW (.join [(98,101)] ⟨[(98,fF)],[]⟩ J9) J9)))))))))))))))) J9)⟩
def c3A:FSpec:=bM c0z λx=>EJ x.1 x.2.1 x.2.2
def Pg(A:H6)(B:List aI)(C:OL):c6J:=l9 (l7 (C9 A.1 7) (l9 (P5 C.2.1 A.2) λx=>l9 (oD x) λx=>some (.inr x)) (l7 (C9 A.1 8) (l9 (P5 C.2.2.1 A.2) λx=>l9 (oD x) λx=>some (.inr x)) (l7 (C9 A.1 33) (l9 (P5 C.2.2.2.2.2 A.2) λx=>l9 (P5 B 0) λb=>l9 (IV b x.2.1) λc=>l7 c (l7 (U7 1 x.2.2.1.1) (some (.inr (U7 x.2.2.1.1 6))) (some (.inr false))) (some (.inr false))) (l7 (C9 A.1 34) (l9 (P5 C.2.2.2.2.2 (aO .i64 A.2 8)) λx=>l9 (P5 B 0) λb=>l7 (C9 b.1 3) (l7 (iV (C9 x.2.1.1 3) (C9 x.2.1.2 0)) (some (.inr (iV (C9 x.2.2.1.1 4) (C9 x.2.2.1.2 0)))) (some (.inr false))) (some (.inr false))) (l9 (l7 (C9 A.1 36) (some (C9 A.1 36)) (l7 (C9 A.1 37) (some (C9 A.1 37)) (l7 (C9 A.1 38) (some (C9 A.1 38)) (some (C9 A.1 39))))) λx=>l7 x (l9 (P5 C.2.2.2.2.1 A.2) λx=>l9 (EK A.1 x) λx=>some (.inr x)) (some (.inl ()))))))) λo=>Z8 o (λx=>l7 (C9 (A7 B) 1) (l9 (P5 B 0) λx=>l9 (FV A.1 x.1) λx=>some x) (l7 (C9 (A7 B) 2) (l9 (P5 B 0) λx=>l9 (P5 B 1) λb=>l9 (EJ A.1 x b) λx=>some x) (l7 (C9 (A7 B) 3) (l9 (P5 B 0) λx=>l7 (C9 x.1 1) (l9 (P5 B 1) λx=>l9 (P5 B 2) λb=>l9 (yS x b) λx=>some x) (some false)) (some true)))) λr=>some r
def c0h:FQ:=⟨[tD y2,uD y40,tD y58],tR 6 fF,mE 133 [(230,a2Y),(250,b5c),(251,c3y),(252,c3z),(253,c3A),(254,b5d)],sN 1 (dW (jnR [(6,95)] sgN (sN 1 (lM (sN 1 (.cond J9 (sN 1 (.cond J9 (sN 1 (.cond J9 (sN 1 (.cond J9 (dW (.join [(81,86)] ⟨[(81,fF)],[]⟩ J9) J9)))))))))))) J9)⟩
def c3n:FSpec:=bM c0h λx=>Pg x.1 x.2.1 x.2.2
def Ic(A:H6)(B:OL):Option (aI×Int):=l9 (P5 B.2.2.2.2.1 A.2) λx=>l9 (l7 (C9 A.1 37) (some (x.1,x.2,1)) (some (x.1,x.2,0))) λg=>l9 (l7 (C9 A.1 39) (l7 (C9 (A7 B.2.2.2.1) 0) (some (.inr ((0,0,0),6))) (some (.inl (0,0,0)))) (some (.inl (0,0,0)))) λo=>Z8 o (λ(i:aI)=>l9 (V4 (λ(b:aI×aI×Int)=>l7 (I5 b.2.2 (A7 B.2.2.2.1)) (l9 (P5 B.2.2.2.1 b.2.2) λf=>l9 (l7 (U7 (A7 f) A.2) (some (.inr ((0,0,0),6))) (l9 (P5 f A.2) λx=>l7 (C9 x.1 0) (some (.inr ((0,0,0),6))) (some (.inl b.1)))) λo=>Z8 o (λ(d:aI)=>l9 (P5 f A.2) λc=>l9 (IV c x) λx=>l7 (H5 x) (some (.rt ((0,0,0),8))) (l7 (C9 A.1 36) (l9 (oD (b.2.1.1,b.2.1.2.1,G5 .i64 b.2.1.2.2 c.2.2)) λx=>l7 (H5 x) (some (.rt ((0,0,0),3))) (some (.nx (d,(b.2.1.1,b.2.1.2.1,G5 .i64 b.2.1.2.2 c.2.2),G5 .i64 b.2.2 1)))) (l7 (C9 A.1 37) (some (.nx (d,(b.2.1.1,b.2.1.2.1,Dj b.2.1.2.2 c.2.2),G5 .i64 b.2.2 1))) (l7 (C9 A.1 38) (some (.nx (d,(b.2.1.1,b.2.1.2.1,wL b.2.1.2.2 c.2.2),G5 .i64 b.2.2 1))) (l7 (C9 A.1 39) (l7 (C9 b.2.2 0) (some (.nx (d,c,G5 .i64 b.2.2 1))) (l7 (I5 b.2.1.2.2 c.2.2) (some (.nx (d,c,G5 .i64 b.2.2 1))) (some (.nx (d,b.2.1,G5 .i64 b.2.2 1))))) (some (.nx (d,b.2.1,G5 .i64 b.2.2 1)))))))) λr=>some (.rt r)) (some (.ex (b.1,b.2.1)))) (i,g,0)) λo=>Z8 o (λ(y:aI×aI)=>some (y.2,0)) λr=>some r) λr=>some r
def c0B:FQ:=⟨[tD y2,tD y58],⟨[(.cell 4 65,tD y3),(.tmp 5,P7)],[]⟩,mE 113 [(250,b5c),(230,a2Y)],sN 3 (dW (.join [(7,8),(22,26),(10000448,10000449)] ⟨[(7,(false,(.box (dT y3))))],[]⟩ J9) (dW (jnR [(4,6),(26,36),(4000256,4000257)] ⟨[(4,(false,(.box (dT y3))))],[]⟩ J9) (dW (sN 1 (lM (lpR [(4,6),(7,11),(39,112),(12000000,12000001),(20000000,20000001)] ⟨[(4,(false,(.box (dT y3)))),(7,(false,(.box (dT y3)))),(39,P7)],[]⟩ 0 ⟨[(4,(false,(.box (dT y3)))),(7,(false,(.box (dT y3))))],[]⟩ (sN 2 (dW (lM (sN 1 (dW (jnR [(4,6),(44,59),(35000000,35000001)] ⟨[(4,(false,(.box (dT y3))))],[]⟩ J9) J9))) J9))))) J9)))⟩
def c3B:FSpec:=bM c0B λx=>Ic x.1 x.2
def LD(A:OM)(B:Int)(C:Int):c6J:=l9 (vC A.1 B) λx=>l7 x (l7 (U7 A.2.1 C) (some (I5 C A.2.2.1)) (some false)) (some false)
def a8M:FQ:=⟨[tD y4,(false,(.rp (.int .i64))),(false,(.rp (.int .i64)))],tR 4 fF,mE 21 [(189,b2J)],J9⟩
def a2Z:FSpec:=bM a8M λx=>LD x.1 x.2.1 x.2.2
def Bq(A:List OM)(B:H6):Option (Int×Bool):=l9 (V4 (λ(x:Int)=>l7 (I5 x (A7 A)) (l9 (P5 A x) λb=>l9 (LD b B.1 B.2) λc=>l7 c (some (.rt (x,true))) (some (.nx (G5 .i64 x 1)))) (some (.ex ()))) 0) λo=>Z8 o (λy=>some (0,false)) λr=>some r
def b3t:FQ:=⟨[uD y5,(false,(.fn 290 [(.int .i64),(.int .i64)]))],⟨[(.tmp 4,P7),(.tmp 5,fF)],[]⟩,mE 20 [(290,a2Z)],sN 1 (dW (sN 1 (lM (lpR [(4,8),(10,20)] ⟨[(10,P7)],[]⟩ 0 sgN J9))) J9)⟩
def b3A:FSpec:=bM b3t λx=>Bq x.1 x.2
def Qi(A:eP)(B:Int)(C:Int):Option (Int×Bool):=l9 (Bq A.2.2.2 (B,C)) λx=>some x
def c0C:FQ:=⟨[tD y8,P7,P7],⟨[(.tmp 6,P7),(.tmp 7,fF)],[]⟩,mE 14 [(290,a2Z),(96,b3A)],J9⟩
def c3C:FSpec:=bM c0C λx=>Qi x.1 x.2.1 x.2.2
def b8p:List MG:=[(false,(.dat (.int .u64))),(false,(.dat (.int .u64)))]
def a9D:FSpec:=⟨b8p,[(false,(.dat (.int .u64))),(false,(.dat (.int .u64)))],[],λx=>zN x.1 x.2⟩
def JG(A:Int):c6K:=l7 (U7 4294967296 A) (l7 (U7 65536 (wM .u64 A 32)) (l7 (U7 256 (wM .u64 (wM .u64 A 32) 16)) (l9 (sat Lu (wrap .u8 (wM .u64 (wM .u64 (wM .u64 A 32) 16) 8))) λx=>some (G5 .i64 (G5 .i64 (G5 .i64 32 16) 8) (wrap .i64 x))) (l9 (sat Lu (wrap .u8 (wM .u64 (wM .u64 A 32) 16))) λx=>some (G5 .i64 (G5 .i64 32 16) (wrap .i64 x)))) (l7 (U7 256 (wM .u64 A 32)) (l9 (sat Lu (wrap .u8 (wM .u64 (wM .u64 A 32) 8))) λx=>some (G5 .i64 (G5 .i64 32 8) (wrap .i64 x))) (l9 (sat Lu (wrap .u8 (wM .u64 A 32))) λx=>some (G5 .i64 32 (wrap .i64 x))))) (l7 (U7 65536 A) (l7 (U7 256 (wM .u64 A 16)) (l9 (sat Lu (wrap .u8 (wM .u64 (wM .u64 A 16) 8))) λx=>some (G5 .i64 (G5 .i64 (G5 .i64 0 16) 8) (wrap .i64 x))) (l9 (sat Lu (wrap .u8 (wM .u64 A 16))) λx=>some (G5 .i64 (G5 .i64 0 16) (wrap .i64 x)))) (l7 (U7 256 A) (l9 (sat Lu (wrap .u8 (wM .u64 A 8))) λx=>some (G5 .i64 (G5 .i64 0 8) (wrap .i64 x))) (l9 (sat Lu (wrap .u8 A)) λx=>some (G5 .i64 0 (wrap .i64 x)))))
def c0S:FQ:=⟨[(false,(dT (.int .u64)))],tR 2 P7,mE 25 [],J9⟩
def c3R:FSpec:=bM c0S λx=>JG x
def yV(A:Int):c6K:=l9 (JG A) λx=>some (N9 .i64 64 x)
def c1q:FQ:=⟨[(false,(dT (.int .u64)))],tR 2 P7,mE 6 [(275,c3R)],J9⟩
def c4g:FSpec:=bM c1q λx=>yV x
def wu(A:Int)(B:Int)(C:Int):Option H6:=l9 (l7 (C9 C 0) none (some ())) λx=>l9 (l7 (U7 C A) none (some ())) λx=>l7 (C9 A 0) (l9 (XK .u64 B C) λx=>l9 (a4u B C) λb=>some (x,b)) (l9 (yV C) λx=>l9 (X_ .u64 C (wrap .u64 x)) λb=>l9 (X_ .u64 A (wrap .u64 x)) λd=>l9 (a4v .u64 B (N9 .u64 64 (wrap .u64 x))) λf=>l9 (X_ .u64 B (wrap .u64 x)) λc=>l9 (XK .u64 (ior .u64 d f) (wM .u64 b 32)) λg=>l9 (fA (λ(x:H6)=>l7 (U7 4294967296 x.1) (l7 (U7 4294967296 (G5 .u64 x.2 (wM .u64 b 32))) (some (.inr (N9 .u64 x.1 1))) (some (.inl (N9 .u64 x.1 1,G5 .u64 x.2 (wM .u64 b 32))))) (l7 (I5 (G5 .u64 (mY .u64 4294967296 x.2) (wM .u64 c 32)) (mY .u64 x.1 (a5Q .u64 b 4294967295))) (l7 (U7 4294967296 (G5 .u64 x.2 (wM .u64 b 32))) (some (.inr (N9 .u64 x.1 1))) (some (.inl (N9 .u64 x.1 1,G5 .u64 x.2 (wM .u64 b 32))))) (some (.inr x.1)))) (g,N9 .u64 (ior .u64 d f) (mY .u64 g (wM .u64 b 32)))) λy=>l9 (XK .u64 (N9 .u64 (G5 .u64 (mY .u64 (ior .u64 d f) 4294967296) (wM .u64 c 32)) (mY .u64 y b)) (wM .u64 b 32)) λi=>l9 (fA (λ(x:H6)=>l7 (U7 4294967296 x.2) (l7 (U7 4294967296 (G5 .u64 x.1 (wM .u64 b 32))) (some (.inr (N9 .u64 x.2 1))) (some (.inl (G5 .u64 x.1 (wM .u64 b 32),N9 .u64 x.2 1)))) (l7 (I5 (G5 .u64 (mY .u64 4294967296 x.1) (a5Q .u64 c 4294967295)) (mY .u64 x.2 (a5Q .u64 b 4294967295))) (l7 (U7 4294967296 (G5 .u64 x.1 (wM .u64 b 32))) (some (.inr (N9 .u64 x.2 1))) (some (.inl (G5 .u64 x.1 (wM .u64 b 32),N9 .u64 x.2 1)))) (some (.inr x.2)))) (N9 .u64 (N9 .u64 (G5 .u64 (mY .u64 (ior .u64 d f) 4294967296) (wM .u64 c 32)) (mY .u64 y b)) (mY .u64 i (wM .u64 b 32)),i)) λy_1=>l9 (a4v .u64 (N9 .u64 (G5 .u64 (mY .u64 (N9 .u64 (G5 .u64 (mY .u64 (ior .u64 d f) 4294967296) (wM .u64 c 32)) (mY .u64 y b)) 4294967296) (a5Q .u64 c 4294967295)) (mY .u64 y_1 b)) (wrap .u64 x)) λx=>some (G5 .u64 (mY .u64 y 4294967296) y_1,x))
def c1h:FQ:=⟨[(false,(dT (.int .u64))),(false,(dT (.int .u64))),(false,(dT (.int .u64)))],⟨[(.tmp 6,(false,(dT (.int .u64)))),(.tmp 7,(false,(dT (.int .u64))))],[]⟩,mE 135 [(327,c4g)],sN 1 (dW (.join [(19,22)] sgN J9) (dW (.join [(22,26)] sgN J9) (sN 11 (dW (lM (.loop [(15,17),(67,86)] ⟨[(15,(false,(dT (.int .u64)))),(16,(false,(dT (.int .u64))))],[]⟩ 0 ⟨[(15,(false,(dT (.int .u64))))],[]⟩ J9)) (sN 3 (dW (lM (.loop [(16,17),(18,19),(102,121)] ⟨[(16,(false,(dT (.int .u64)))),(18,(false,(dT (.int .u64))))],[]⟩ 2 ⟨[(18,(false,(dT (.int .u64))))],[]⟩ J9)) J9))))))⟩
def b2M:FSpec:=bM c1h λx=>wu x.1 x.2.1 x.2.2
def Fv(A:Int)(B:Int):Option (Int×Int×Bool):=l7 (I5 B 0) (l9 (zN (wrap .u64 A) (N9 .u64 0 (wrap .u64 B))) λx=>l7 (U7 1000000 x.1) (some (0,0,false)) (l9 (wu x.1 x.2 1000000) λx=>l7 (I5 1000000000000000 x.1) (some (0,0,false)) (l7 (I5 B 0) (some (N9 .i64 0 (wrap .i64 x.1),N9 .i64 0 (wrap .i64 x.2),true)) (some (wrap .i64 x.1,wrap .i64 x.2,true))))) (l9 (zN (wrap .u64 A) (wrap .u64 B)) λx=>l7 (U7 1000000 x.1) (some (0,0,false)) (l9 (wu x.1 x.2 1000000) λx=>l7 (I5 1000000000000000 x.1) (some (0,0,false)) (l7 (I5 B 0) (some (N9 .i64 0 (wrap .i64 x.1),N9 .i64 0 (wrap .i64 x.2),true)) (some (wrap .i64 x.1,wrap .i64 x.2,true)))))
def c0U:FQ:=⟨[P7,P7],⟨[(.tmp 4,P7),(.tmp 5,P7),(.tmp 6,fF)],[]⟩,mE 47 [(216,a9D),(315,b2M)],J9⟩
def c3S:FSpec:=bM c0U λx=>Fv x.1 x.2
def zx(A:Int):c6J:=l7 (U7 0 A) (some (U7 A 5)) (some false)
def c1r:FQ:=⟨[P7],tR 2 fF,mE 9 [],J9⟩
def b2N:FSpec:=bM c1r λx=>zx x
def tC(A:Int)(B:Int):c6J:=l7 (I5 B A) (some true) (some (I5 A (N9 .i64 0 B)))
def c1s:FQ:=⟨[P7,P7],tR 4 fF,mE 14 [],J9⟩
def b2O:FSpec:=bM c1s λx=>tC x.1 x.2
def sH(A:Int):c6K:=l7 (I5 A 0) (some (N9 .u64 0 (wrap .u64 A))) (some (wrap .u64 A))
def c1t:FQ:=⟨[P7],tR 2 (false,(dT (.int .u64))),mE 10 [],J9⟩
def b5m:FSpec:=bM c1t λx=>sH x
def xJ(A:Int)(B:Int)(C:Int)(D:Bool)(E:Int):c6K:=l7 (C9 B 0) (some A) (l7 (C9 E 0) (l7 D (some (G5 .u64 A 1)) (some A)) (l7 (C9 E 1) (l7 (H5 D) (some (G5 .u64 A 1)) (some A)) (l7 (C9 E 3) (some (G5 .u64 A 1)) (l7 (C9 E 4) (l7 (U7 (N9 .u64 C B) B) (some (G5 .u64 A 1)) (some A)) (l7 (C9 E 5) (l7 (I5 (N9 .u64 C B) B) (some (G5 .u64 A 1)) (l7 (C9 B (N9 .u64 C B)) (l7 (C9 (fE A 2) 1) (some (G5 .u64 A 1)) (some A)) (some A))) (some A))))))
def c1u:FQ:=⟨[(false,(dT (.int .u64))),(false,(dT (.int .u64))),(false,(dT (.int .u64))),fF,P7],tR 10 (false,(dT (.int .u64))),mE 55 [],J9⟩
def b5n:FSpec:=bM c1u λx=>xJ x.1 x.2.1 x.2.2.1 x.2.2.2.1 x.2.2.2.2
def Jd(A:Int)(B:Bool):c6K:=l7 B (some (N9 .i64 0 (wrap .i64 A))) (some (wrap .i64 A))
def c1w:FQ:=⟨[(false,(dT (.int .u64))),fF],tR 4 P7,mE 11 [],J9⟩
def b5o:FSpec:=bM c1w λx=>Jd x.1 x.2
def rD(A:Int)(B:Int)(C:Int):Option H6:=l9 (zx C) λx=>l7 (H5 x) (some (0,1)) (l7 (C9 B 0) (some (0,12)) (l9 (tC A 4611686018427387904) λx=>l7 x (some (0,3)) (l9 (tC B 4611686018427387904) λx=>l7 x (some (0,3)) (l9 (sH A) λx=>l9 (sH B) λb=>l9 (XK .u64 x b) λc=>l9 (a4u x b) λx=>l9 (xJ c x b (H5 (Gz (I5 A 0) (I5 B 0))) C) λx=>l9 (Jd x (H5 (Gz (I5 A 0) (I5 B 0)))) λx=>some (x,0)))))
def c1i:FQ:=⟨[P7,P7,P7],⟨[(.tmp 6,P7),(.tmp 7,P7)],[]⟩,mE 45 [(328,b2N),(329,b2O),(330,b5m),(331,b5n),(332,b5o)],J9⟩
def a9E:FSpec:=bM c1i λx=>rD x.1 x.2.1 x.2.2
def LG(A:Int)(B:Int)(C:Int):Option H6:=l7 (I5 (G5 .i64 A (aO .i64 B 1000000)) (-2000000000000000)) (some (0,3)) (l7 (I5 2000000000000000 (G5 .i64 A (aO .i64 B 1000000))) (some (0,3)) (l7 (I5 1 (G5 .i64 A (aO .i64 B 1000000))) (l9 (rD (G5 .i64 (mY .i64 (G5 .i64 (fE (G5 .i64 A (aO .i64 B 1000000)) 2) 2) 1000000) (fE B 1000000)) 1000000 C) λx=>l7 (H5 (C9 x.2 0)) (some (0,x.2)) (l7 (I5 (G5 .i64 (N9 .i64 (G5 .i64 A (aO .i64 B 1000000)) (G5 .i64 (fE (G5 .i64 A (aO .i64 B 1000000)) 2) 2)) x.1) (-1000000000000000)) (some (0,3)) (l7 (I5 1000000000000000 (G5 .i64 (N9 .i64 (G5 .i64 A (aO .i64 B 1000000)) (G5 .i64 (fE (G5 .i64 A (aO .i64 B 1000000)) 2) 2)) x.1)) (some (0,3)) (some (G5 .i64 (N9 .i64 (G5 .i64 A (aO .i64 B 1000000)) (G5 .i64 (fE (G5 .i64 A (aO .i64 B 1000000)) 2) 2)) x.1,0))))) (l7 (I5 (G5 .i64 A (aO .i64 B 1000000)) (-1)) (l9 (rD (G5 .i64 (mY .i64 (N9 .i64 (fE (G5 .i64 A (aO .i64 B 1000000)) 2) 2) 1000000) (fE B 1000000)) 1000000 C) λx=>l7 (H5 (C9 x.2 0)) (some (0,x.2)) (l7 (I5 (G5 .i64 (N9 .i64 (G5 .i64 A (aO .i64 B 1000000)) (N9 .i64 (fE (G5 .i64 A (aO .i64 B 1000000)) 2) 2)) x.1) (-1000000000000000)) (some (0,3)) (l7 (I5 1000000000000000 (G5 .i64 (N9 .i64 (G5 .i64 A (aO .i64 B 1000000)) (N9 .i64 (fE (G5 .i64 A (aO .i64 B 1000000)) 2) 2)) x.1)) (some (0,3)) (some (G5 .i64 (N9 .i64 (G5 .i64 A (aO .i64 B 1000000)) (N9 .i64 (fE (G5 .i64 A (aO .i64 B 1000000)) 2) 2)) x.1,0))))) (l9 (rD (G5 .i64 (mY .i64 (fE (G5 .i64 A (aO .i64 B 1000000)) 2) 1000000) (fE B 1000000)) 1000000 C) λx=>l7 (H5 (C9 x.2 0)) (some (0,x.2)) (l7 (I5 (G5 .i64 (N9 .i64 (G5 .i64 A (aO .i64 B 1000000)) (fE (G5 .i64 A (aO .i64 B 1000000)) 2)) x.1) (-1000000000000000)) (some (0,3)) (l7 (I5 1000000000000000 (G5 .i64 (N9 .i64 (G5 .i64 A (aO .i64 B 1000000)) (fE (G5 .i64 A (aO .i64 B 1000000)) 2)) x.1)) (some (0,3)) (some (G5 .i64 (N9 .i64 (G5 .i64 A (aO .i64 B 1000000)) (fE (G5 .i64 A (aO .i64 B 1000000)) 2)) x.1,0))))))))
def c0V:FQ:=⟨[P7,P7,P7],⟨[(.tmp 6,P7),(.tmp 7,P7)],[]⟩,mE 60 [(316,a9E)],J9⟩
def c3T:FSpec:=bM c0V λx=>LG x.1 x.2.1 x.2.2
def LC(A:eP)(B:Int)(C:Int)(D:Int):Option H6:=l9 (l7 (I5 D 0) (some (.inr (0,1))) (l7 (I5 5 D) (some (.inr (0,1))) (some (.inl ())))) λo=>Z8 o (λx=>l9 (l7 (H5 (iV (C9 A.2.1.1 3) (C9 A.2.1.2 0))) (some (.inr (0,8))) (l7 (H5 (iV (C9 A.2.2.1.1 4) (C9 A.2.2.1.2 0))) (some (.inr (0,8))) (some (.inl ())))) λo=>Z8 o (λx=>l9 (l7 (I5 C (-1000000000000000)) (some (.inr (0,3))) (l7 (I5 1000000000000000 C) (some (.inr (0,3))) (some (.inl ())))) λo=>Z8 o (λx=>l9 (V4 (λ(x:aI)=>l7 (I5 x.2.2 (A7 A.2.2.2)) (l9 (P5 A.2.2.2 x.2.2) λb=>l9 (vC b.1 B) λd=>l7 (H5 d) (some (.nx (x.1,x.2.1,G5 .i64 x.2.2 1))) (l7 (U7 (Dj b.2.2.1 C) (wL b.2.1 0)) (some (.nx (x.1,x.2.1,G5 .i64 x.2.2 1))) (l9 (Fv (N9 .i64 (Dj b.2.2.1 C) (wL b.2.1 0)) b.2.2.2) λc=>l7 (H5 c.2.2) (some (.rt (0,3))) (some (.nx (G5 .i64 x.1 c.1,G5 .i64 x.2.1 c.2.1,G5 .i64 x.2.2 1)))))) (some (.ex (x.1,x.2.1)))) (0,0,0)) λo=>Z8 o (λ(y:H6)=>l9 (LG y.1 y.2 D) λx=>some x) λr=>some r) λr=>some r) λr=>some r) λr=>some r
def c0D:FQ:=⟨[tD y8,P7,P7,P7],⟨[(.tmp 8,P7),(.tmp 9,P7)],[]⟩,mE 90 [(189,b2J),(291,c3S),(292,c3T)],sN 1 (dW (jnR [(8,10),(19,25)] sgN J9) (dW (jnR [(8,10),(25,35)] sgN J9) (dW (jnR [(8,10),(35,41)] sgN J9) (sN 1 (dW (sN 1 (lM (lpR [(8,12),(13,19),(44,84)] ⟨[(10,P7),(11,P7),(44,P7)],[]⟩ 0 ⟨[(10,P7),(11,P7)],[]⟩ J9))) J9)))))⟩
def c3E:FSpec:=bM c0D λx=>LC x.1 x.2.1 x.2.2.1 x.2.2.2
def uf(A:Bool):Option aI:=l7 A (some (1,0,1)) (some (1,0,0))
def c0W:FQ:=⟨[fF],cR 2 65 (tD y3),mE 6 [],J9⟩
def b5h:FSpec:=bM c0W λx=>uf x
def UW(A:Int)(B:aI):Option aI:=l7 (C9 A 10) (some (B.1,0,N9 .i64 0 B.2.2)) (l7 (C9 A 25) (l9 (uf (C9 B.2.2 0)) λx=>some x) (l9 (xq B.2.2) λx=>l7 (C9 A 31) (some (2,0,x.1)) (some (2,0,x.2.1))))
def c0E:FQ:=⟨[P7,tD y3],cR 4 65 (tD y3),mE 36 [(293,b5h),(79,s79)],J9⟩
def c3F:FSpec:=bM c0E λx=>UW x.1 x.2
def Pi(A:Int)(B:Int):Option H6:=l9 (zN (wrap .u64 (wL A (N9 .i64 0 A))) (wrap .u64 (wL B (N9 .i64 0 B)))) λx=>l7 (H5 (C9 x.1 0)) (some (0,3)) (l7 (I5 1000000000000000 x.2) (some (0,3)) (l7 (H5 (Gz (I5 A 0) (I5 B 0))) (some (N9 .i64 0 (wrap .i64 x.2),0)) (some (wrap .i64 x.2,0))))
def c1j:FQ:=⟨[P7,P7],⟨[(.tmp 4,P7),(.tmp 5,P7)],[]⟩,mE 38 [(216,a9D)],J9⟩
def c4a:FSpec:=bM c1j λx=>Pi x.1 x.2
def Pz(A:Int)(B:Int)(C:Int)(D:Int):Option H6:=l9 (zx D) λx=>l7 (H5 x) (some (0,1)) (l7 (C9 C 0) (some (0,12)) (l9 (l9 (tC A 1000000000000000) λx=>l7 x (some (.inr (0,3))) (l9 (tC B 1000000000) λx=>l7 x (some (.inr (0,3))) (l9 (tC C 1000000000) λx=>l7 x (some (.inr (0,3))) (some (.inl ()))))) λo=>Z8 o (λx=>l9 (sH A) λx=>l9 (sH B) λc=>l9 (zN x c) λx=>l9 (sH C) λb=>l7 (U7 b x.1) (some (0,3)) (l9 (wu x.1 x.2 b) λx=>l7 (I5 1000000000000000 x.1) (some (0,3)) (l9 (xJ x.1 x.2 b (H5 (Gz (H5 (Gz (I5 A 0) (I5 B 0))) (I5 C 0))) D) λx=>l7 (I5 1000000000000000 x) (some (0,3)) (l9 (Jd x (H5 (Gz (H5 (Gz (I5 A 0) (I5 B 0))) (I5 C 0)))) λx=>some (x,0))))) λr=>some r))
def c1x:FQ:=⟨[P7,P7,P7,P7],⟨[(.tmp 8,P7),(.tmp 9,P7)],[]⟩,mE 72 [(328,b2N),(329,b2O),(330,b5m),(216,a9D),(315,b2M),(331,b5n),(332,b5o)],sN 3 (dW (jnR [(8,10),(21,31)] sgN J9) J9)⟩
def c4h:FSpec:=bM c1x λx=>Pz x.1 x.2.1 x.2.2.1 x.2.2.2
def VL(A:Int)(B:Int)(C:Int):Option H6:=l9 (Pz A B 1000000 C) λx=>some x
def c1k:FQ:=⟨[P7,P7,P7],⟨[(.tmp 6,P7),(.tmp 7,P7)],[]⟩,mE 14 [(333,c4h)],J9⟩
def c4b:FSpec:=bM c1k λx=>VL x.1 x.2.1 x.2.2
def Fb(A:Int):c6J:=l7 (U7 0 A) (some (U7 A 5)) (some false)
def c1y:FQ:=⟨[P7],tR 2 fF,mE 9 [],J9⟩
def b5p:FSpec:=bM c1y λx=>Fb x
def Ac(A:Int)(B:Int):c6J:=l7 (I5 B A) (some true) (some (I5 A (N9 .i64 0 B)))
def c1z:FQ:=⟨[P7,P7],tR 4 fF,mE 14 [],J9⟩
def b5q:FSpec:=bM c1z λx=>Ac x.1 x.2
def a0A(A:Int)(B:Int)(C:Int):Option H6:=l9 (Fb C) λx=>l7 (H5 x) (some (0,1)) (l9 (Ac A 1000000000) λx=>l7 x (some (0,3)) (l9 (Ac B 1000000000) λx=>l7 x (some (0,3)) (l9 (rD (mY .i64 A B) 1000000 C) λx=>l7 (H5 (C9 x.2 0)) (some (0,x.2)) (l9 (Ac x.1 1000000000) λb=>l7 b (some (0,3)) (some (x.1,0))))))
def c1l:FQ:=⟨[P7,P7,P7],⟨[(.tmp 6,P7),(.tmp 7,P7)],[]⟩,mE 33 [(334,b5p),(335,b5q),(316,a9E)],J9⟩
def c4c:FSpec:=bM c1l λx=>a0A x.1 x.2.1 x.2.2
def Nq(A:Int)(B:Int)(C:Int):Option H6:=l9 (zx C) λx=>l7 (H5 x) (some (0,1)) (l7 (I5 B 1) (some (0,12)) (l9 (tC A 1000000000000000) λx=>l7 x (some (0,3)) (l7 (I5 1000000000000000 B) (some (0,3)) (l9 (rD A B C) λx=>l7 (H5 (C9 x.2 0)) (some (0,x.2)) (l9 (tC (mY .i64 x.1 B) 1000000000000000) λb=>l7 b (some (0,3)) (some (mY .i64 x.1 B,0)))))))
def c1m:FQ:=⟨[P7,P7,P7],⟨[(.tmp 6,P7),(.tmp 7,P7)],[]⟩,mE 38 [(328,b2N),(329,b2O),(316,a9E)],J9⟩
def c4d:FSpec:=bM c1m λx=>Nq x.1 x.2.1 x.2.2
def NC(A:Int)(B:Int)(C:Int)(D:Bool)(E:Int):c6J:=l7 (C9 B 0) (some false) (l7 (C9 E 0) (some D) (l7 (C9 E 1) (some (H5 D)) (l7 (C9 E 3) (some true) (l7 (C9 E 4) (some (U7 (N9 .u64 C B) B)) (l7 (C9 E 5) (l7 (I5 (N9 .u64 C B) B) (some true) (l7 (C9 B (N9 .u64 C B)) (some (C9 (fE A 2) 1)) (some false))) (some false))))))
def c1A:FQ:=⟨[(false,(dT (.int .u64))),(false,(dT (.int .u64))),(false,(dT (.int .u64))),fF,P7],tR 10 fF,mE 49 [],J9⟩
def c4i:FSpec:=bM c1A λx=>NC x.1 x.2.1 x.2.2.1 x.2.2.2.1 x.2.2.2.2
def KR(A:Int)(B:Int)(C:Int):Option H6:=l9 (Fb C) λx=>l7 (H5 x) (some (0,1)) (l7 (C9 B 0) (some (0,12)) (l9 (Ac A 1000000000000000) λx=>l7 x (some (0,3)) (l9 (Ac B 1000000000000000) λx=>l7 x (some (0,3)) (l9 (zN (wrap .u64 (wL A (N9 .i64 0 A))) 1000000) λx=>l7 (U7 (wrap .u64 (wL B (N9 .i64 0 B))) x.1) (some (0,3)) (l9 (wu x.1 x.2 (wrap .u64 (wL B (N9 .i64 0 B)))) λx=>l7 (I5 1000000000 x.1) (some (0,3)) (l9 (NC x.1 x.2 (wrap .u64 (wL B (N9 .i64 0 B))) (H5 (Gz (I5 A 0) (I5 B 0))) C) λb=>l7 b (l7 (I5 1000000000 (G5 .i64 (wrap .i64 x.1) 1)) (some (0,3)) (l7 (H5 (Gz (I5 A 0) (I5 B 0))) (some (N9 .i64 0 (G5 .i64 (wrap .i64 x.1) 1),0)) (some (G5 .i64 (wrap .i64 x.1) 1,0)))) (l7 (I5 1000000000 (wrap .i64 x.1)) (some (0,3)) (l7 (H5 (Gz (I5 A 0) (I5 B 0))) (some (N9 .i64 0 (wrap .i64 x.1),0)) (some (wrap .i64 x.1,0))))))))))
def c1n:FQ:=⟨[P7,P7,P7],⟨[(.tmp 6,P7),(.tmp 7,P7)],[]⟩,mE 73 [(334,b5p),(335,b5q),(216,a9D),(315,b2M),(336,c4i)],J9⟩
def c4e:FSpec:=bM c1n λx=>KR x.1 x.2.1 x.2.2
def RQ(A:H6)(B:aI)(C:aI):Option (aI×Int):=l7 (C9 A.1 13) (l9 (Pi B.2.2 C.2.2) λx=>some ((B.1,0,x.1),x.2)) (l9 (l7 (C9 A.1 14) (some (C9 B.1 3)) (some false)) λx=>l7 x (l9 (VL B.2.2 C.2.2 A.2) λx=>some ((B.1,0,x.1),x.2)) (l7 (C9 A.1 14) (l9 (a0A B.2.2 C.2.2 A.2) λx=>some ((B.1,0,x.1),x.2)) (l7 (C9 A.1 16) (l9 (Nq B.2.2 C.2.2 A.2) λx=>some ((B.1,0,x.1),x.2)) (l7 (C9 C.1 2) (l9 (rD B.2.2 C.2.2 A.2) λx=>some ((B.1,0,x.1),x.2)) (l9 (KR B.2.2 C.2.2 A.2) λx=>some ((4,0,x.1),x.2))))))
def c0X:FQ:=⟨[tD y2,tD y3,tD y3],⟨[(.cell 6 65,tD y3),(.tmp 7,P7)],[]⟩,mE 105 [(317,c4a),(318,c4b),(319,c4c),(320,c4d),(316,a9E),(321,c4e)],sN 2 (dW (lM (sN 1 (.cond J9 (dW (.join [(38,47)] ⟨[(38,fF)],[]⟩ J9) J9)))) J9)⟩
def c3V:FSpec:=bM c0X λx=>RQ x.1 x.2.1 x.2.2
def Ez(A:Int)(B:Int):Option H6:=l9 (l9 (xw A) λx=>l7 (H5 x) (some (.inr (0,3))) (l7 (I5 B (-3600)) (some (.inr (0,3))) (l7 (I5 3600 B) (some (.inr (0,3))) (some (.inl ()))))) λo=>Z8 o (λx=>l9 (xq A) λx=>l7 (I5 (G5 .i64 (N9 .i64 (G5 .i64 (mY .i64 (N9 .i64 x.1 1900) 12) x.2.1) 1) B) 0) (some (0,3)) (l7 (I5 3599 (G5 .i64 (N9 .i64 (G5 .i64 (mY .i64 (N9 .i64 x.1 1900) 12) x.2.1) 1) B)) (some (0,3)) (l9 (jQ (G5 .i64 1900 (aO .i64 (G5 .i64 (N9 .i64 (G5 .i64 (mY .i64 (N9 .i64 x.1 1900) 12) x.2.1) 1) B) 12)) (G5 .i64 (fE (G5 .i64 (N9 .i64 (G5 .i64 (mY .i64 (N9 .i64 x.1 1900) 12) x.2.1) 1) B) 12) 1)) λb=>l9 (iL (G5 .i64 1900 (aO .i64 (G5 .i64 (N9 .i64 (G5 .i64 (mY .i64 (N9 .i64 x.1 1900) 12) x.2.1) 1) B) 12)) (G5 .i64 (fE (G5 .i64 (N9 .i64 (G5 .i64 (mY .i64 (N9 .i64 x.1 1900) 12) x.2.1) 1) B) 12) 1) (Dj x.2.2 b)) λx=>some x))) λr=>some r
def c0Y:FQ:=⟨[P7,P7],⟨[(.tmp 4,P7),(.tmp 5,P7)],[]⟩,mE 57 [(78,s78),(79,s79),(128,b2E),(159,b4R)],sN 1 (dW (jnR [(4,6),(10,21)] sgN J9) J9)⟩
def b5i:FSpec:=bM c0Y λx=>Ez x.1 x.2
def FN(A:Int)(B:Int):c6K:=l9 (xw A) λx=>l7 (H5 x) (some 0) (l9 (xw B) λx=>l7 (H5 x) (some 0) (l7 (I5 B A) (some 0) (l9 (xq A) λx=>l9 (xq B) λb=>l9 (Ez A (mY .i64 12 (N9 .i64 b.1 x.1))) λc=>l7 (H5 (C9 c.2 0)) (some (wL (N9 .i64 (N9 .i64 b.1 x.1) 1) 0)) (l7 (I5 B c.1) (some (wL (N9 .i64 (N9 .i64 b.1 x.1) 1) 0)) (some (wL (N9 .i64 b.1 x.1) 0))))))
def c0Z:FQ:=⟨[P7,P7],tR 4 P7,mE 60 [(78,s78),(79,s79),(295,b5i)],J9⟩
def c3W:FSpec:=bM c0Z λx=>FN x.1 x.2
def RN(A:H6)(B:aI)(C:aI):Option (aI×Int):=l9 (l9 (l7 (C9 A.1 11) (some (C9 A.1 11)) (some (C9 A.1 27))) λx=>l7 x (some (.inr ((B.1,0,G5 .i64 B.2.2 C.2.2),0))) (l7 (C9 A.1 12) (some (.inr ((B.1,0,N9 .i64 B.2.2 C.2.2),0))) (l9 (l7 (C9 A.1 13) (some (C9 A.1 13)) (l7 (C9 A.1 14) (some (C9 A.1 14)) (l7 (C9 A.1 15) (some (C9 A.1 15)) (some (C9 A.1 16))))) λx=>l7 x (l9 (RQ A B C) λx=>some (.inr x)) (l9 (l7 (C9 A.1 17) (some (C9 A.1 17)) (some (C9 A.1 18))) λx=>l7 x (l7 (Gz (C9 A.1 17) (I5 C.2.2 B.2.2)) (some (.inr (C,0))) (some (.inr (B,0)))) (l7 (C9 A.1 19) (l9 (uf (C9 B.2.2 C.2.2)) λx=>some (.inr (x,0))) (l7 (C9 A.1 20) (l9 (uf (H5 (C9 B.2.2 C.2.2))) λx=>some (.inr (x,0))) (l7 (C9 A.1 21) (l9 (uf (I5 B.2.2 C.2.2)) λx=>some (.inr (x,0))) (l7 (C9 A.1 22) (l9 (uf (U7 B.2.2 C.2.2)) λx=>some (.inr (x,0))) (l7 (C9 A.1 23) (l7 (C9 B.2.2 1) (l9 (uf (C9 C.2.2 1)) λx=>some (.inr (x,0))) (l9 (uf false) λx=>some (.inr (x,0)))) (l7 (C9 A.1 24) (l7 (C9 B.2.2 1) (l9 (uf true) λx=>some (.inr (x,0))) (l9 (uf (C9 C.2.2 1)) λx=>some (.inr (x,0)))) (l7 (C9 A.1 28) (l9 (Ez B.2.2 C.2.2) λx=>some (.inr ((5,0,x.1),x.2))) (l7 (C9 A.1 29) (some (.inr ((2,0,N9 .i64 C.2.2 B.2.2),0))) (some (.inl (0,0,0))))))))))))))) λo=>Z8 o (λ(x:aI)=>l9 (FN B.2.2 C.2.2) λx=>some ((2,0,x),0)) λr=>some r
def c0F:FQ:=⟨[tD y2,tD y3,tD y3],⟨[(.cell 6 65,tD y3),(.tmp 7,P7)],[]⟩,mE 139 [(294,c3V),(293,b5h),(295,b5i),(296,c3W)],sN 1 (dW (jnR [(6,133),(4000384,4000385)] ⟨[(6,(false,(.box (dT y3))))],[]⟩ (sN 1 (lM (dW (.join [(12,15)] ⟨[(12,fF)],[]⟩ J9) (.cond J9 (sN 1 (.cond J9 (dW (.join [(33,38)] ⟨[(33,fF)],[]⟩ J9) (.cond J9 (dW (.join [(44,47)] ⟨[(44,fF)],[]⟩ J9) J9)))))))))) J9)⟩
def c3G:FSpec:=bM c0F λx=>RN x.1 x.2.1 x.2.2
def Ph(A:H6)(B:List aI)(C:OL):Option (aI×Int):=l9 (l9 (l7 (C9 A.1 1) (some (C9 A.1 1)) (l7 (C9 A.1 2) (some (C9 A.1 2)) (l7 (C9 A.1 3) (some (C9 A.1 3)) (l7 (C9 A.1 4) (some (C9 A.1 4)) (some (C9 A.1 5)))))) λx=>l7 x (some (.inr ((A.1,0,A.2),0))) (l7 (C9 A.1 6) (some (.inr ((6,aO .i64 A.2 16,fE A.2 16),0))) (l7 (C9 A.1 7) (l9 (P5 C.2.1 A.2) λx=>some (.inr (x,0))) (l7 (C9 A.1 8) (l9 (P5 C.2.2.1 A.2) λx=>some (.inr (x,0))) (l7 (C9 A.1 9) (some (.inr ((5,0,C.1),0))) (l7 (C9 A.1 35) (some (.inr ((2,0,A7 C.2.2.2.1),0))) (l9 (l7 (C9 A.1 36) (some (C9 A.1 36)) (l7 (C9 A.1 37) (some (C9 A.1 37)) (l7 (C9 A.1 38) (some (C9 A.1 38)) (some (C9 A.1 39))))) λx=>l7 x (l9 (Ic A C) λx=>some (.inr x)) (l7 (C9 A.1 33) (l9 (P5 C.2.2.2.2.2 A.2) λx=>l9 (P5 B 0) λb=>l9 (Qi x C.1 b.2.2) λc=>l7 (H5 c.2) (some (.inr ((0,0,0),6))) (l9 (P5 x.2.2.2 c.1) λd=>some (.inr ((x.2.2.1.1,x.2.2.1.2,d.2.2.2),0)))) (l7 (C9 A.1 34) (l9 (P5 C.2.2.2.2.2 (aO .i64 A.2 8)) λx=>l9 (P5 B 0) λb=>l9 (LC x C.1 b.2.2 (fE A.2 8)) λx=>some (.inr ((3,0,x.1),x.2))) (some (.inl (0,0,0)))))))))))) λo=>Z8 o (λ(x:aI)=>l7 (C9 (A7 B) 1) (l9 (P5 B 0) λx=>l9 (UW A.1 x) λx=>some (x,0)) (l7 (C9 (A7 B) 2) (l9 (P5 B 0) λx=>l9 (P5 B 1) λb=>l9 (RN A x b) λx=>some x) (l9 (P5 B 0) λx=>l7 (C9 x.2.2 1) (l9 (P5 B 1) λx=>some (x,0)) (l9 (P5 B 2) λx=>some (x,0))))) λr=>some r
def c0i:FQ:=⟨[tD y2,uD y40,tD y58],⟨[(.cell 6 65,tD y3),(.tmp 7,P7)],[]⟩,mE 165 [(255,c3B),(256,c3C),(257,c3E),(258,c3F),(259,c3G)],sN 1 (dW (jnR [(6,132),(4000384,4000385)] ⟨[(6,(false,(.box (dT y3))))],[]⟩ (sN 1 (lM (dW (.join [(15,21)] ⟨[(15,fF)],[]⟩ J9) (.cond J9 (sN 1 (.cond J9 (sN 1 (.cond J9 (sN 1 (.cond J9 (sN 1 (.cond J9 (sN 1 (.cond J9 (dW (.join [(62,67)] ⟨[(62,fF)],[]⟩ J9) J9)))))))))))))))) J9)⟩
def c3o:FSpec:=bM c0i λx=>Ph x.1 x.2.1 x.2.2
def UV(A:H6)(B:List aI)(C:OL):Option (aI×Int):=l9 (l9 (Jz A) λx=>l7 (H5 x) (some (.inr ((0,0,0),2))) (l9 (jB A.1) λx=>l7 (H5 (C9 (A7 B) x)) (some (.inr ((0,0,0),2))) (some (.inl (0,0,0))))) λo=>Z8 o (λ(x:aI)=>l9 (RP A C) λx=>l7 (H5 x) (some ((0,0,0),6)) (l9 (FU B) λx=>l7 (H5 x) (some ((0,0,0),8)) (l9 (Pg A B C) λx=>l7 (H5 x) (some ((0,0,0),8)) (l9 (Ph A B C) λx=>l7 (H5 (C9 x.2 0)) (some ((0,0,0),x.2)) (l9 (oD x.1) λb=>l7 (H5 b) (some ((0,0,0),3)) (some (x.1,0))))))) λr=>some r
def b9N:FQ:=⟨[tD y2,uD y40,tD y58],⟨[(.cell 6 65,tD y3),(.tmp 7,P7)],[]⟩,mE 54 [(225,c3j),(125,a2S),(226,c3k),(227,c3l),(228,c3n),(229,c3o),(230,a2Y)],sN 1 (dW (jnR [(6,8),(10,22),(4000384,4000385)] ⟨[(6,(false,(.box (dT y3))))],[]⟩ J9) J9)⟩
def c2Y:FSpec:=bM b9N λx=>UV x.1 x.2.1 x.2.2
def a8n:List MG:=[(true,(.dat y75)),P7]
def Ya:List MG:=[(true,(.dat y75)),P7]
def a8m:List MG:=[(true,(.dat y75)),(true,(.dat y2)),(false,(.dat y41))]
def c1P:Ret:=⟨[(.cell 4 65,(true,(.dat y3))),(.tmp 5,P7)],[]⟩
def c5W (r224:M.den (.dat y75)->M.den O7->Option (U0 ([(true,(.dat y3)),P7]++[]))) (r137:M.den (.dat y75)->M.den O7->Option (U0 ([(true,(.dat y3)),P7]++[]))) (r194:M.den (.dat y75)->M.den (.dat y2)->M.den (.dat y41)->Option (U0 ([(true,(.dat y3)),P7]++[]))):Env:=⟨28,eqs,tt,gl,[(137,⟨Ya,[(true,(.dat y3)),P7],[],λx=>r137 x.1 x.2⟩),(230,a2Y)],[],[],[],[],[],[]⟩
def b7D:Ann:=.leaf
def DR(r224:fQ->Int->Option (aI×Int))(r137:fQ->Int->Option (aI×Int))(r194:fQ->H6->c6G->Option (aI×Int))(A:fQ)(B:Int):Option (aI×Int):=l9 (r137 A B) λx=>l7 (H5 (C9 x.2 0)) (some ((0,0,0),x.2)) (l7 (H5 (C9 x.1.1 1)) (some ((0,0,0),8)) (l9 (oD x.1) λb=>l7 (H5 b) (some ((0,0,0),8)) (some (x.1,0))))
def b3x:Ret:=⟨[(.cell 4 65,(true,(.dat y3))),(.tmp 5,P7)],[]⟩
def c5R (r224:M.den (.dat y75)->M.den O7->Option (U0 ([(true,(.dat y3)),P7]++[]))) (r137:M.den (.dat y75)->M.den O7->Option (U0 ([(true,(.dat y3)),P7]++[]))) (r194:M.den (.dat y75)->M.den (.dat y2)->M.den (.dat y41)->Option (U0 ([(true,(.dat y3)),P7]++[]))):Env:=⟨65,eqs,tt,gl,[(193,c2X),(194,⟨a8m,[(true,(.dat y3)),P7],[],λx=>r194 x.1 x.2.1 x.2.2⟩),(137,⟨Ya,[(true,(.dat y3)),P7],[],λx=>r137 x.1 x.2⟩),(195,c2Y)],[],[],[],[],[],[]⟩
def b7y:Ann:=.seq J9 (.seq J9 (.seq J9 (.seq (.joinR [(4,6),(21,33),(4000256,4000257)] ⟨[(4,(false,(.box (.dat y3))))],[]⟩ J9) (.seq J9 (.seq (.seq J9 (.blk (.loopR [(4,6),(8,13),(38,58),(12000000,12000001),(37002240,37002241)] ⟨[(4,(false,(.box (.dat y3)))),(8,(false,(.own y3))),(38,P7)],[]⟩ 1 ⟨[(4,(false,(.box (.dat y3)))),(8,(false,(.own y3)))],[]⟩ J9))) J9)))))
def GL(r224:fQ->Int->Option (aI×Int))(r137:fQ->Int->Option (aI×Int))(r194:fQ->H6->c6G->Option (aI×Int))(A:fQ)(B:Int):Option (aI×Int):=l9 (P5 A.1 B) λx=>l9 (zT A B) λb=>l9 (l7 (C9 x.1 23) (l7 (C9 x.1 23) (l9 (r194 A x b) λx=>some (.inr x)) (some (.inl (0,0,0)))) (l7 (C9 x.1 24) (l7 (C9 x.1 24) (l9 (r194 A x b) λx=>some (.inr x)) (some (.inl (0,0,0)))) (l7 (C9 x.1 26) (l9 (r194 A x b) λx=>some (.inr x)) (some (.inl (0,0,0)))))) λo=>Z8 o (λ(d:aI)=>l9 (BD (A7 b) (0,0,0)) λf=>l9 (V4 (λ(x:aI×List aI×Int)=>l7 (I5 x.2.2 (A7 b)) (l9 (P5 b x.2.2) λi=>l9 (aN b (Z7 x.2.2)) λg=>l9 (r137 A g) λc=>l7 (H5 (C9 c.2 0)) (some (.rt ((0,0,0),c.2))) (l9 (P5 x.2.1 x.2.2) λj=>l9 (aN x.2.1 (Z7 x.2.2)) λk=>some (.nx (x.1,fD x.2.1 (Z7 x.2.2) c.1,G5 .i64 x.2.2 1)))) (some (.ex (x.1,x.2.1)))) (d,f,0)) λo=>Z8 o (λ(y:aI×List aI)=>l9 (UV x y.2 A.2.2) λx=>some x) λr=>some r) λr=>some r
def c1N:Ret:=⟨[(.cell 6 65,(true,(.dat y3))),(.tmp 7,P7)],[]⟩
def c5T (r224:M.den (.dat y75)->M.den O7->Option (U0 ([(true,(.dat y3)),P7]++[]))) (r137:M.den (.dat y75)->M.den O7->Option (U0 ([(true,(.dat y3)),P7]++[]))) (r194:M.den (.dat y75)->M.den (.dat y2)->M.den (.dat y41)->Option (U0 ([(true,(.dat y3)),P7]++[]))):Env:=⟨69,eqs,tt,gl,[(224,⟨a8n,[(true,(.dat y3)),P7],[],λx=>r224 x.1 x.2⟩),(137,⟨Ya,[(true,(.dat y3)),P7],[],λx=>r137 x.1 x.2⟩)],[],[],[],[],[],[]⟩
def b7B:Ann:=.seq J9 (.seq J9 (.seq J9 (.seq J9 (.seq (.blk (.seq (.join [(26,35)] ⟨[(26,fF)],[]⟩ J9) J9)) J9))))
def GK(r224:fQ->Int->Option (aI×Int))(r137:fQ->Int->Option (aI×Int))(r194:fQ->H6->c6G->Option (aI×Int))(A:fQ)(B:H6)(C:c6G):Option (aI×Int):=l7 (H5 (C9 B.2 0)) (some ((0,0,0),2)) (l9 (P5 C 0) λx=>l9 (r224 A x) λx=>l7 (H5 (C9 x.2 0)) (some ((0,0,0),x.2)) (l9 (l7 (C9 B.1 26) (some (C9 x.1.2.2 1)) (some false)) λb=>l7 b (l9 (P5 C 1) λx=>l9 (r137 A x) λx=>some x) (l7 (C9 B.1 26) (l9 (P5 C 2) λx=>l9 (r137 A x) λx=>some x) (l7 (Gz (C9 B.1 23) (C9 x.1.2.2 0)) (some (x.1,0)) (l9 (P5 C 1) λx=>l9 (r224 A x) λx=>some x)))))
def L9:Nat->(M.den (.dat y75)->M.den O7->Option (U0 ([(true,(.dat y3)),P7]++[])))×(M.den (.dat y75)->M.den O7->Option (U0 ([(true,(.dat y3)),P7]++[])))×(M.den (.dat y75)->M.den (.dat y2)->M.den (.dat y41)->Option (U0 ([(true,(.dat y3)),P7]++[])))|0=>(λa0 a1=>none,λa0 a1=>none,λa0 a1 a2=>none)|n+1=>(λa0 a1=>DR (L9 n).1 (L9 n).2.1 (L9 n).2.2 a0 a1,λa0 a1=>GL (L9 n).1 (L9 n).2.1 (L9 n).2.2 a0 a1,λa0 a1 a2=>GK (L9 n).1 (L9 n).2.1 (L9 n).2.2 a0 a1 a2)
def DJ:M.den (.dat y75)->M.den O7->Option (U0 ([(true,(.dat y3)),P7]++[])):=λa0 a1=>(L9 dZ).2.1 a0 a1
def c2w:FSpec:=mkS Ya b3x λx=>DJ x.1 x.2
def QD(A:List H6)(B:OL):Option (aI×Int):=l9 (sW A) λx=>l7 (H5 (C9 x.2 0)) (some ((0,0,0),x.2)) (l9 (DJ (A,x.1,B) (N9 .i64 (A7 A) 1)) λx=>some x)
def q89:FQ:=⟨[uD y12,tD y58],⟨[(.cell 4 65,tD y3),(.tmp 5,P7)],[]⟩,mE 27 [(123,b2C),(137,c2w)],J9⟩
def s89:FSpec:=bM q89 λx=>QD x.1 x.2
def Gq(A:c6G)(B:c6G):c6K:=l7 (H5 (C9 (A7 A) (A7 B))) (some 2) (l7 (I5 8 (A7 A)) (some 4) (l9 (V4 (λ(x:Int)=>l7 (I5 x (A7 A)) (l9 (P5 A x) λb=>l7 (I5 b (-1)) (some (.rt 9)) (l7 (U7 x b) (some (.rt 9)) (l9 (P5 B x) λc=>l7 (I5 c 0) (some (.rt 3)) (l9 (P5 B x) λd=>l7 (I5 9 d) (some (.rt 3)) (some (.nx (G5 .i64 x 1))))))) (some (.ex ()))) 0) λo=>Z8 o (λy=>some 0) λr=>some r))
def b9J:FQ:=⟨[uD y41,uD y41],tR 4 P7,mE 42 [],sN 3 (dW (sN 1 (lM (lpR [(4,7),(17,42)] ⟨[(17,P7)],[]⟩ 0 sgN J9))) J9)⟩
def c2V:FSpec:=bM b9J λx=>Gq x.1 x.2
def Gp(A:c6G)(B:Int):Option c6G:=l9 (fA (λ(x:c6G×Int)=>l7 (I5 x.2 (A7 A)) (l9 (P5 A x.2) λb=>l7 (C9 b B) (l9 (eG x.1 [x.2]) λc=>some (.inl (c,G5 .i64 x.2 1))) (some (.inl (x.1,G5 .i64 x.2 1)))) (some (.inr x.1))) ([],0)) λy=>some y
def c0u:FQ:=⟨[uD y41,P7],tR 4 uoM,mE 24 [],sN 2 (dW (sN 1 (lM (.loop [(5,8),(10,23)] ⟨[(5,uoM),(10,P7)],[]⟩ 0 ⟨[(5,uoM)],[]⟩ J9))) J9)⟩
def c3x:FSpec:=bM c0u λx=>Gp x.1 x.2
def Fh(A:uy)(B:Int):Option c6G:=l9 (Gp A.1 B) λx=>l9 (fA (λ(b:c6G×Int)=>l7 (I5 b.2 (A7 x)) (l9 (P5 x b.2) λk=>l9 (aN x (Z7 b.2)) λx=>l9 (P5 A.2.2 x) λg=>l7 (C9 g (-1)) (some (.inl (b.1,G5 .i64 b.2 1))) (l9 (l7 (I5 0 (A7 b.1)) (l9 (P5 A.2.1 x) λx=>l9 (P5 b.1 0) λc=>l9 (aN b.1 (Z7 0)) λd=>l9 (P5 A.2.1 d) λf=>l7 (I5 f x) (l7 (mi 0 0 (A7 b.1)) (some (kH b.1 (Z7 0) (Z7 0))) none) (some b.1)) (some b.1)) λc=>l7 (C9 (A7 c) 0) (l9 (eG c [x]) λx=>some (.inl (x,G5 .i64 b.2 1))) (l9 (P5 A.2.1 x) λd=>l9 (P5 c 0) λf=>l9 (aN c (Z7 0)) λi=>l9 (P5 A.2.1 i) λj=>l7 (C9 d j) (l9 (eG c [x]) λx=>some (.inl (x,G5 .i64 b.2 1))) (some (.inl (c,G5 .i64 b.2 1)))))) (some (.inr b.1))) ([],0)) λy=>some y
def c0d:FQ:=⟨[tD y84,P7],tR 4 uoM,mE 67 [(249,c3x)],sN 2 (dW (sN 1 (lM (.loop [(5,6),(7,8),(13,66)] ⟨[(5,uoM),(13,P7)],[]⟩ 0 ⟨[(5,uoM)],[]⟩ (sN 2 (dW (lM (sN 2 (dW (.join [(5,6),(23,43),(14000000,14000001)] ⟨[(5,uoM)],[]⟩ J9) J9))) J9))))) J9)⟩
def c3i:FSpec:=bM c0d λx=>Fh x.1 x.2
def ui(A:uy)(B:Int):c6K:=l9 (Fh A B) λx=>l7 (C9 (A7 x) 0) (some (-1)) (l7 (C9 (A7 x) 1) (l9 (P5 x 0) λb=>l9 (aN x (Z7 0)) λx=>l9 (P5 A.2.2 x) λx=>some x) (some (-2)))
def b9L:FQ:=⟨[tD y84,P7],tR 4 P7,mE 22 [(223,c3i)],J9⟩
def b4V:FSpec:=bM b9L λx=>ui x.1 x.2
def Gs(A:c6G)(B:c6G)(C:List Bool):Option c6G:=l9 (BD (A7 A) 0) λx=>l9 (fA (λ(x:uy×Int)=>l7 (U7 0 x.2) (l9 (ui x.1 x.2) λb=>l9 (P5 x.1.2.2 x.2) λf=>l9 (aN x.1.2.2 (Z7 x.2)) λg=>l9 (P5 (fD x.1.2.2 (Z7 x.2) b) x.2) λi=>l9 (aN (fD x.1.2.2 (Z7 x.2) b) (Z7 x.2)) λc=>l7 (C9 c (-1)) (l9 (P5 C x.2) λd=>l7 d (l9 (P5 (fD x.1.2.2 (Z7 x.2) b) x.2) λj=>l9 (aN (fD x.1.2.2 (Z7 x.2) b) (Z7 x.2)) λk=>some (.inl ((x.1.1,x.1.2.1,fD (fD x.1.2.2 (Z7 x.2) b) (Z7 x.2) x.2),N9 .i64 x.2 1))) (some (.inl ((x.1.1,x.1.2.1,fD x.1.2.2 (Z7 x.2) b),N9 .i64 x.2 1)))) (some (.inl ((x.1.1,x.1.2.1,fD x.1.2.2 (Z7 x.2) b),N9 .i64 x.2 1)))) (some (.inr x.1))) ((A,B,x),N9 .i64 (A7 A) 1)) λy=>some y.2.2
def b9K:FQ:=⟨[uD y41,uD y41,(uD (.sl .bool))],tR 6 uoM,mE 48 [(192,b4V)],sN 2 (dW (sN 1 (lM (.loop [(7,9),(18,46),(7000448,7000449),(7000832,7000833)] ⟨[(7,(false,(.box (pA (dT y41) (pA (dT y41) oiM))))),(8,P7)],[]⟩ 0 ⟨[(7,(false,(.box (pA (dT y41) (pA (dT y41) oiM)))))],[]⟩ J9))) J9)⟩
def c2W:FSpec:=bM b9K λx=>Gs x.1 x.2.1 x.2.2
def JK(A:c6G)(B:c6G)(C:List Bool):c6K:=l9 (Gq A B) λx=>l7 (H5 (C9 x 0)) (some (-1)) (l7 (H5 (C9 (A7 C) (A7 A))) (some (-1)) (l9 (Gs A B C) λx=>l9 (ui (A,B,x) (-1)) λx=>some x))
def b9c:FQ:=⟨[uD y41,uD y41,(uD (.sl .bool))],tR 6 P7,mE 26 [(190,c2V),(191,c2W),(192,b4V)],J9⟩
def c2u:FSpec:=bM b9c λx=>JK x.1 x.2.1 x.2.2
def JE(A:au)(B:OL)(C:Int)(D:Int):Option (Int×fP):=l9 (Ia A D B.1) λx=>l9 (BD (A7 x.1) false) λd=>l9 (V4 (λ(b:fP×List Bool×Int)=>l7 (I5 b.2.2 (A7 x.1)) (l9 (P5 x.1 b.2.2) λf=>l9 (aN x.1 (Z7 b.2.2)) λx=>l9 (P5 A.2.2.2.2 x) λg=>l7 (C9 (A7 g.2.2.2.2.2.1) 0) (l9 (P5 b.2.1 b.2.2) λx=>l9 (aN b.2.1 (Z7 b.2.2)) λx=>some (.nx (b.1,fD b.2.1 (Z7 b.2.2) true,G5 .i64 b.2.2 1))) (l9 (P5 A.2.2.2.2 x) λi=>l9 (QD i.2.2.2.2.2.1 B) λc=>l7 (H5 (C9 c.2 0)) (some (.rt (0,c.2,C,D,x))) (l9 (P5 b.2.1 b.2.2) λx=>l9 (aN b.2.1 (Z7 b.2.2)) λx=>some (.nx (b.1,fD b.2.1 (Z7 b.2.2) (C9 c.1.2.2 1),G5 .i64 b.2.2 1))))) (some (.ex (b.1,b.2.1)))) ((0,0,0,0),d,0)) λo=>Z8 o (λ(y:fP×List Bool)=>l9 (JK x.2.1 x.2.2 y.2) λb=>l7 (I5 b 0) (some (b,0,0,0,0)) (l9 (P5 x.1 b) λf=>l9 (aN x.1 (Z7 b)) λx=>some (x,0,0,0,0))) λr=>some r
def q88:FQ:=⟨[tD y24,tD y58,P7,P7],⟨[(.tmp 8,P7),(.cell 9 61,tD y46)],[]⟩,mE 87 [(135,c2t),(89,s89),(136,c2u)],sN 3 (dW (sN 1 (lM (lpR [(8,10),(13,18),(33,74),(4000576,4000577),(10001920,10001921)] ⟨[(9,(false,(.box (dT y46)))),(13,(uO .bool)),(33,P7)],[]⟩ 0 ⟨[(9,(false,(.box (dT y46)))),(13,(uO .bool))],[]⟩ J9))) J9)⟩
def s88:FSpec:=bM q88 λx=>JE x.1 x.2.1 x.2.2.1 x.2.2.2
def xB(A:au)(B:OL)(C:Int)(D:List Bool):Option (c6G×fP×OL):=l9 (BD (A7 A.2.2.2.1) (0,0,0)) λx=>l9 (BD (A7 A.2.2.2.1) 0) λg=>l9 (Dc A) λd=>l9 (V4 (λ(x:OL×fP×c6G×Int)=>l7 (I5 x.2.2.2 (A7 d.1)) (l9 (P5 d.1 x.2.2.2) λq=>l9 (aN d.1 (Z7 x.2.2.2)) λb=>l9 (P5 D b) λi=>l7 (H5 i) (some (.nx (x.1,x.2.1,x.2.2.1,G5 .i64 x.2.2.2 1))) (l9 (JE A x.1 C b) λc=>l7 (H5 (C9 c.2.1 0)) (some (.rt ([],c.2,x.1))) (l7 (C9 c.1 (-1)) (some (.rt ([],(10,C,b,-1),x.1))) (l7 (C9 c.1 (-2)) (some (.rt ([],(11,C,b,-1),x.1))) (l9 (P5 A.2.2.2.2 c.1) λj=>l9 (QD j.2.2.2.2.2.2.1 x.1) λf=>l7 (H5 (C9 f.2 0)) (some (.rt ([],(f.2,C,b,c.1),x.1))) (l9 (P5 x.1.2.2.1 b) λt=>l9 (aN x.1.2.2.1 (Z7 b)) λk=>l9 (P5 x.2.2.1 b) λn=>l9 (aN x.2.2.1 (Z7 b)) λp=>some (.nx ((x.1.1,x.1.2.1,fD x.1.2.2.1 (Z7 b) f.1,x.1.2.2.2),x.2.1,fD x.2.2.1 (Z7 b) c.1,G5 .i64 x.2.2.2 1)))))))) (some (.ex (x.1,x.2.1,x.2.2.1)))) ((B.1,B.2.1,x,B.2.2.2),(0,0,0,0),g,0)) λo=>Z8 o (λ(y:OL×fP×c6G)=>some (y.2.2,(0,0,0,0),y.1)) λr=>some r
def q48:FQ:=⟨[tD y24,(false,(.box (pA O7 (pA (dT y40) (pA (oW y3) (pA (dT y47) (pA (dT y12) (dT y9)))))))),P7,(uD (.sl .bool))],⟨[(.tmp 8,uoM),(.cell 9 61,tD y46)],[(1,(true,(pA O7 (pA (dT y40) (pA (oW y3) (pA (dT y47) (pA (dT y12) (dT y9))))))))]⟩,⟨105,eqs,tt,gl,[(87,s87),(88,s88),(89,s89)],[],[],[],[1],[],[]⟩,sN 4 (dW (sN 1 (lM (lpR [(1,2),(8,11),(14,19),(37,103),(1000000,1000001),(4000576,4000577),(7001472,7001473),(10001856,10001857)] ⟨[(1,(false,(.box (pA O7 (pA (dT y40) (pA (oW y3) (pA (dT y47) (pA (dT y12) (dT y9))))))))),(9,(false,(.box (dT y46)))),(10,uoM),(37,P7)],[]⟩ 0 ⟨[(1,(false,(.box (pA O7 (pA (dT y40) (pA (oW y3) (pA (dT y47) (pA (dT y12) (dT y9))))))))),(9,(false,(.box (dT y46)))),(10,uoM)],[]⟩ J9))) J9)⟩
def s48:FSpec:=bM q48 λx=>xB x.1 x.2.1 x.2.2.1 x.2.2.2
def JC(A:Z9)(B:Int)(C:a3P)(D:yQ):Option (LP×OL×fP×yQ):=l9 (fA (λ(x:(Int×List aI×PUnit×PUnit×List H6×List eP)×Int)=>l7 (I5 x.2 (A7 D.2.1.2.2.2.1)) (l9 (P5 D.2.1.2.2.2.1 x.2) λc=>l9 (eG x.1.2.2.2.2.1 [c.2]) λb=>some (.inl ((x.1.1,x.1.2.1,(),(),b,x.1.2.2.2.2.2),G5 .i64 x.2 1))) (some (.inr (x.1.1,x.1.2.1,(),(),x.1.2.2.2.2)))) ((C.1,C.2.1,(),(),[],A.2.1),0)) λy=>l9 (V4 (λ(x:LP×OL×fP×(Int×List aI×PUnit×List (List aI)×List H6×List eP)×LP×Int)=>l7 (I5 x.2.2.2.2.2 (A7 C.2.2)) (l9 (P5 C.2.2 x.2.2.2.2.2) λc=>l9 (xB D.2.1 (C.1,c,[],[],[],A.2.1) x.2.2.2.2.2 D.2.2.2) λb=>l7 (H5 (C9 b.2.1.1 0)) (some (.rt (([],[],[]),(0,[],[],[],[],[]),b.2.1,D))) (l9 (eG x.2.2.2.1.2.2.2.1 [b.2.2.2.2.1]) λd=>l9 (eG x.2.2.2.2.1.2.2 [(b.2.2.2.2.1,b.1)]) λf=>some (.nx (x.1,x.2.1,x.2.2.1,(x.2.2.2.1.1,x.2.2.2.1.2.1,(),d,x.2.2.2.1.2.2.2.2),(x.2.2.2.2.1.1,x.2.2.2.2.1.2.1,f),G5 .i64 x.2.2.2.2.2 1)))) (some (.ex (x.1,x.2.1,x.2.2.1,(x.2.2.2.1.1,x.2.2.2.1.2.1,(),x.2.2.2.1.2.2.2),x.2.2.2.2.1)))) (([],[],[]),(0,[],[],[],[],[]),(0,0,0,0),(y.1,y.2.1,(),[],y.2.2.2.2),([],[],[]),0)) λo=>Z8 o (λ(y:LP×OL×fP×(Int×List aI×PUnit×List (List aI)×List H6×List eP)×LP)=>l9 (xB D.1 (y.2.2.2.1.1,y.2.2.2.1.2.1,[],y.2.2.2.1.2.2.2) (-1) D.2.2.1) λx=>l7 (H5 (C9 x.2.1.1 0)) (some (([],[],[]),(0,[],[],[],[],[]),x.2.1,D)) (some ((x.2.2.2.2.1,x.1,y.2.2.2.2.2.2),x.2.2,(0,0,0,0),D))) λr=>some r
def q24:FQ:=⟨[tD y27,P7,tD y49,(false,(.box (pA (dT y24) (pA (dT y24) (pA (oW .bool) (oW .bool))))))],⟨[(.cell 8 59,tD y45),(.cell 9 109,tD y58),(.cell 10 61,tD y46)],[(3,(true,(pA (dT y24) (pA (dT y24) (pA (oW .bool) (oW .bool))))))]⟩,⟨123,eqs,tt,gl,[(48,s48)],[],[],[],[3],[],[]⟩,sN 3 (dW (sN 1 (lM (.loop [(11,12),(14,15),(35,47),(7000704,7000705)] ⟨[(11,(false,(.box (pA O7 (pA (dT y40) (pA (.cell (some none)) (pA (.cell (some none)) (pA (oW y2) (dT y9))))))))),(35,P7)],[]⟩ 0 ⟨[(11,(false,(.box (pA O7 (pA (dT y40) (pA (.cell (some none)) (pA (.cell (some none)) (pA (oW y2) (dT y9)))))))))],[]⟩ J9))) (dW (sN 1 (lM (lpR [(8,13),(15,20),(50,97),(4000512,4000513),(4000576,4000577),(4000640,4000641),(10000768,10000769),(18000000,18000002)] ⟨[(8,(false,(.box (dT y45)))),(9,(false,(.box (dT y58)))),(10,(false,(.box (dT y46)))),(11,(false,(.box (pA O7 (pA (dT y40) (pA (.cell (some none)) (pA (oW y40) (pA (oW y2) (dT y9))))))))),(12,(false,(.box (pA (dT y40) (pA (dT y41) (oW y42)))))),(50,P7)],[]⟩ 2 ⟨[(8,(false,(.box (dT y45)))),(9,(false,(.box (dT y58)))),(10,(false,(.box (dT y46)))),(11,(false,(.box (pA O7 (pA (dT y40) (pA (.cell (some none)) (pA (oW y40) (pA (oW y2) (dT y9))))))))),(12,(false,(.box (pA (dT y40) (pA (dT y41) (oW y42))))))],[]⟩ J9))) J9))⟩
def s24:FSpec:=bM q24 λx=>JC x.1 x.2.1 x.2.2.1 x.2.2.2
def Oa(A:Z9)(B:Int)(C:a3P):Option (LP×fP):=l9 (BH A B C false 0) λx=>l7 (H5 (C9 x.1 0)) (some (([],[],[]),x)) (l9 (JD A B) λx=>l9 (fA (λ(b:yQ×Int)=>l7 (I5 b.2 (A7 x.2.2.1)) (l9 (P5 b.1.2.2.1 b.2) λx=>l9 (aN b.1.2.2.1 (Z7 b.2)) λx=>some (.inl ((b.1.1,b.1.2.1,fD b.1.2.2.1 (Z7 b.2) true,b.1.2.2.2),G5 .i64 b.2 1))) (some (.inr b.1))) (x,0)) λy=>l9 (fA (λ(x:yQ×Int)=>l7 (I5 x.2 (A7 y.2.2.2)) (l9 (P5 x.1.2.2.2 x.2) λb=>l9 (aN x.1.2.2.2 (Z7 x.2)) λc=>some (.inl ((x.1.1,x.1.2.1,x.1.2.2.1,fD x.1.2.2.2 (Z7 x.2) true),G5 .i64 x.2 1))) (some (.inr x.1))) (y,0)) λy=>l9 (JC A B C y) λx=>some (x.1,x.2.2.1))
def q11:FQ:=⟨[tD y27,P7,tD y49],⟨[(.cell 6 59,tD y45),(.cell 7 61,tD y46)],[]⟩,mE 68 [(22,s22),(23,s23),(24,s24)],sN 3 (dW (sN 1 (lM (.loop [(9,11),(32,42),(20001664,20001667)] ⟨[(9,(false,(.box (pA (dT y24) (pA (dT y24) (pA (oW .bool) (oW .bool))))))),(32,P7)],[]⟩ 0 ⟨[(9,(false,(.box (pA (dT y24) (pA (dT y24) (pA (oW .bool) (oW .bool)))))))],[]⟩ J9))) (dW (sN 1 (lM (.loop [(9,10),(11,12),(47,57),(28000000,28000003)] ⟨[(9,(false,(.box (pA (dT y24) (pA (dT y24) (pA (oW .bool) (oW .bool))))))),(47,P7)],[]⟩ 2 ⟨[(9,(false,(.box (pA (dT y24) (pA (dT y24) (pA (oW .bool) (oW .bool)))))))],[]⟩ J9))) J9))⟩
def s11:FSpec:=bM q11 λx=>Oa x.1 x.2.1 x.2.2
def zU:c6J:=l9 (Qe [(3,500)]) λx=>l9 (zO x [114,101,112,101,97,108,32,104,111,117,115,101,32,98,97,115,101,32,102,114,111,109,32,49,57,53,48,45,48,49,45,48,49,10,105,110,115,101,114,116,32,104,111,117,115,101,32,109,111,114,101,32,111,102,32,100,32,102,114,111,109,32,49,57,53,48,45,48,49,45,48,49,32,105,115,32,54,46,48,48,32,115,114,99,32,34,97,99,116,32,50,34,10]) λ(d:List F8×H6)=>l9 (JV x d.1) λf=>l9 (Aj x d.1) λg=>l9 (Oa f.1 0 (100,[(3,0,0)],[])) λb=>l9 (Oa f.1 0 (40000,[(3,0,0)],[])) λc=>l9 (JU x (2,100,[104,111,117,115,101],[110,111,110,101],[],[],0,[],[],[],[],(0,0),0,0,0)) λx=>l9 (l7 (H5 (C9 d.2.1 0)) (some (.inr false)) (l7 (H5 (C9 d.2.2 0)) (some (.inr false)) (l7 (H5 (C9 f.2.1 (-1))) (some (.inr false)) (l7 (H5 (C9 f.2.2 0)) (some (.inr false)) (l7 (H5 (C9 g.2 0)) (some (.inr false)) (l7 (H5 (C9 (A7 d.1) 2)) (some (.inr false)) (l7 (H5 (C9 (A7 b.1.1) 1)) (some (.inr false)) (l7 (H5 (C9 (A7 c.1.1) 1)) (some (.inr false)) (some (.inl ())))))))))) λo=>Z8 o (λk=>l7 (seq g.1 [114,101,112,101,97,108,32,104,111,117,115,101,32,98,97,115,101,32,102,114,111,109,32,49,57,53,48,45,48,49,45,48,49,10,105,110,115,101,114,116,32,104,111,117,115,101,32,109,111,114,101,32,111,102,32,100,32,102,114,111,109,32,49,57,53,48,45,48,49,45,48,49,32,105,115,32,54,46,48,48,32,115,114,99,32,34,97,99,116,32,50,34,10]) (l7 (iV (C9 b.2.1 0) (iV (C9 b.2.2.1 0) (iV (C9 b.2.2.2.1 0) (C9 b.2.2.2.2 0)))) (l7 (iV (C9 c.2.1 0) (iV (C9 c.2.2.1 0) (iV (C9 c.2.2.2.1 0) (C9 c.2.2.2.2 0)))) (l9 (P5 b.1.1 0) λi=>l7 (C9 i.2.2 500) (l9 (P5 c.1.1 0) λj=>l7 (C9 j.2.2 600) (some (C9 x.2 6)) (some false)) (some false)) (some false)) (some false)) (some false)) λr=>some r
def q5:FQ:=⟨[],tR 0 fF,mE 127 [(9,s9),(6,s6),(10,s10),(7,s7),(11,s11),(12,s12)],sN 8 (dW (jnR [(0,1),(60,95)] sgN J9) J9)⟩
def s5:FSpec:=bM q5 λx=>zU
def ps3:List MG:=[(true,(.dat y27)),(false,(.dat .str))]
def xF(A:Z9)(B:c6F):c6J:=l9 (CW A) λx=>l7 (H5 x) (l9 zU λx=>some x) (l7 (I5 5000 (A7 B)) (l9 zU λx=>some x) (l9 (zO A B) λ(x:List F8×H6)=>l7 (H5 (C9 x.2.2 0)) (l7 (C9 (A7 x.1) 0) (l9 zU λx=>some x) (some false)) (l9 (Aj A x.1) λx=>l7 (seq B x.1) (l7 (C9 x.2 0) (l9 zU λx=>some x) (some false)) (some false))))
def q3:FQ:=⟨ps3,tR 4 fF,mE 50 [(4,s4),(5,s5),(6,s6),(7,s7)],J9⟩
def s3:FSpec:=bM q3 λx=>xF x.1 x.2
abbrev c6E:Ty:=y27
end
end Gt
