import Derived.Test.YtpkmnnphdanlpaaGreatDoorT2
set_option linter.all false
open Go Go.GP
namespace Gt
set_option maxRecDepth 100000
noncomputable section
def Pv(f:Func):Code:=match f.body with|some c=>c|none=> .skip
abbrev mkS(ps:List MG)(rt:Ret)(F:aW ps->Option rt.den):FSpec:=⟨ps,rt.rs.map (·.2),rt.outs.map (·.2),F⟩
structure FQ where
 (ps:List MG)
 (rt:Ret)
 (E:Env)
 (an:Ann)
abbrev iq(q:FQ)(F:aW q.ps->Option q.rt.den):FSpec:=mkS q.ps q.rt F
abbrev jnR:=Ann.joinR
abbrev lpR:=Ann.loopR
abbrev jB:=Ann.seq
abbrev blA:=Ann.blk
abbrev sgN:Sig:=⟨[],[]⟩
def sN:Nat->Ann->Ann
 |0,a=>a|n+1,a=> .seq .leaf (sN n a)
abbrev uO(t:Ty):MG:=(false,.own t)
abbrev uD(t:Ty):MG:=(false,.dat t)
abbrev tD(t:Ty):MG:=(true,.dat t)
abbrev pA:=M.pair
abbrev oW:=M.own
abbrev dT:=M.dat
abbrev U1:Ann:=.leaf
abbrev N9:M:=.dat (.int .i64)
abbrev oiM:M:=.own (.int .i64)
abbrev dbM:M:=.dat .bool
abbrev aC:MG:=(false,N9)
abbrev jh:MG:=(false,dbM)
abbrev uoM:MG:=(false,oiM)
abbrev y0:Ty:=.prod .str (.sl .str)
abbrev y1:Ty:=.sl y0
abbrev y2:Ty:=.prod (.int .i64) (.int .i64)
abbrev y3:Ty:=.prod (.int .i64) y2
abbrev y4:Ty:=.prod y2 y3
abbrev y5:Ty:=.sl y4
abbrev y6:Ty:=.prod y2 y5
abbrev y7:Ty:=.prod y2 y6
abbrev y8:Ty:=.prod .str y7
abbrev y9:Ty:=.sl y8
abbrev y10:Ty:=.prod .str y2
abbrev y11:Ty:=.sl y10
abbrev y12:Ty:=.sl y2
abbrev y13:Ty:=.prod y12 .str
abbrev y14:Ty:=.prod y12 y13
abbrev y15:Ty:=.prod y2 y14
abbrev y16:Ty:=.prod (.int .i64) y15
abbrev y17:Ty:=.prod (.int .i64) y16
abbrev y18:Ty:=.prod (.int .i64) y17
abbrev y19:Ty:=.prod .str y18
abbrev y20:Ty:=.sl y19
abbrev y21:Ty:=.prod y11 y20
abbrev y22:Ty:=.prod y11 y21
abbrev y23:Ty:=.prod (.int .i64) y22
abbrev y24:Ty:=.prod .str y23
abbrev y25:Ty:=.sl y24
abbrev y26:Ty:=.prod y9 y25
abbrev y27:Ty:=.prod y1 y26
abbrev y28:Ty:=.sl y12
abbrev y29:Ty:=.sl (.int .i64)
abbrev y30:Ty:=.prod y2 (.int .i64)
abbrev y31:Ty:=.sl y30
abbrev y32:Ty:=.prod y29 y31
abbrev y33:Ty:=.prod y28 y32
abbrev y34:Ty:=.prod (.int .i64) y33
abbrev y35:Ty:=.prod (.int .i64) y3
abbrev y36:Ty:=.sl (.int .u8)
abbrev y37:Ty:=.prod (.sl .str) (.sl .str)
abbrev y38:Ty:=.prod (.sl .str) y37
abbrev y39:Ty:=.prod (.sl .str) y38
abbrev kR:Ty:=.prod y1 y39
abbrev y41:Ty:=.prod kR y34
abbrev y42:Ty:=.prod y24 y41
abbrev y43:Ty:=.prod (.int .i64) .bool
abbrev y44:Ty:=.prod .str y43
abbrev y45:Ty:=.sl y44
abbrev y46:Ty:=.prod y12 .bool
abbrev y47:Ty:=.prod y12 y46
abbrev y48:Ty:=.prod y12 y47
abbrev y49:Ty:=.prod y9 y48
abbrev y50:Ty:=.prod y1 y49
abbrev y51:Ty:=.prod (.int .i64) y10
abbrev nP:Ty:=.sl y51
abbrev y53:Ty:=.prod y12 y2
abbrev y54:Ty:=.prod kR y53
abbrev y55:Ty:=.prod (.int .i64) y54
abbrev y56:Ty:=.prod (.int .i64) y55
abbrev y57:Ty:=.prod nP y56
abbrev y58:Ty:=.sl y29
def tt:List (Nat×TI):=[(3,⟨1,8,(.int .i64),some (.int .i64),[.i .i64 0]⟩),(4,⟨1,1,.bool,some .bool,[.b false]⟩),(5,⟨1,1,(.int .u8),some (.int .u8),[.i .u8 0]⟩),(9,⟨1,16,.str,some .str,[.s []]⟩),(21,⟨1,4,(.int .i32),some (.int .i32),[.i .i32 0]⟩),(22,⟨1,24,(.sl 44),some y1,[.nl]⟩),(23,⟨1,24,(.sl 49),some y9,[.nl]⟩),(24,⟨1,24,(.sl 53),some y25,[.nl]⟩),(26,⟨3,72,(.struct [(22,0),(23,1),(24,2)]),some y27,[.nl,.nl,.nl]⟩),(27,⟨1,24,(.sl 55),some y28,[.nl]⟩),(28,⟨1,24,(.sl 3),some y29,[.nl]⟩),(29,⟨1,24,(.sl 62),some y31,[.nl]⟩),(31,⟨4,80,(.struct [(3,0),(27,1),(28,2),(29,3)]),some y34,[.i .i64 0,.nl,.nl,.nl]⟩),(35,⟨1,8,(.int .i64),some (.int .i64),[.i .i64 0]⟩),(42,⟨1,24,(.sl 9),some (.sl .str),[.nl]⟩),(44,⟨2,40,(.struct [(9,0),(42,1)]),some y0,[.s [],.nl]⟩),(46,⟨2,16,(.struct [(3,0),(3,1)]),some y2,[.i .i64 0,.i .i64 0]⟩),(47,⟨1,24,(.sl 148),some y5,[.nl]⟩),(49,⟨6,72,(.struct [(9,0),(46,1),(46,3),(47,5)]),some y8,[.s [],.i .i64 0,.i .i64 0,.i .i64 0,.i .i64 0,.nl]⟩),(50,⟨1,24,(.sl 75),some y11,[.nl]⟩),(51,⟨1,24,(.sl 83),some y20,[.nl]⟩),(53,⟨5,96,(.struct [(9,0),(3,1),(50,2),(50,3),(51,4)]),some y24,[.s [],.i .i64 0,.nl,.nl,.nl]⟩),(55,⟨1,24,(.sl 58),some y12,[.nl]⟩),(58,⟨2,16,(.struct [(3,0),(3,1)]),some y2,[.i .i64 0,.i .i64 0]⟩),(60,⟨2,16,(.struct [(3,0),(3,1)]),some y2,[.i .i64 0,.i .i64 0]⟩),(62,⟨3,24,(.struct [(60,0),(3,2)]),some y30,[.i .i64 0,.i .i64 0,.i .i64 0]⟩),(64,⟨4,32,(.struct [(35,0),(3,1),(3,2),(3,3)]),some y35,[.i .i64 0,.i .i64 0,.i .i64 0,.i .i64 0]⟩),(66,⟨1,8,(.ptr 69),none,[]⟩),(67,⟨1,24,(.sl 5),some y36,[.nl]⟩),(69,⟨2,32,(.struct [(66,0),(67,1)]),none,[.npt,.nl]⟩),(75,⟨3,32,(.struct [(9,0),(46,1)]),some y10,[.s [],.i .i64 0,.i .i64 0]⟩),(77,⟨5,120,(.struct [(22,0),(42,1),(42,2),(42,3),(42,4)]),some kR,[.nl,.nl,.nl,.nl,.nl]⟩),(81,⟨2,16,(.struct [(3,0),(3,1)]),some y2,[.i .i64 0,.i .i64 0]⟩),(83,⟨9,120,(.struct [(9,0),(3,1),(3,2),(3,3),(81,4),(55,6),(55,7),(9,8)]),some y19,[.s [],.i .i64 0,.i .i64 0,.i .i64 0,.i .i64 0,.i .i64 0,.nl,.nl,.s []]⟩),(90,⟨14,296,(.struct [(53,0),(77,5),(31,10)]),some y42,[.s [],.i .i64 0,.nl,.nl,.nl,.nl,.nl,.nl,.nl,.nl,.i .i64 0,.nl,.nl,.nl]⟩),(99,⟨1,24,(.sl 103),some y45,[.nl]⟩),(103,⟨3,32,(.struct [(9,0),(3,1),(4,2)]),some y44,[.s [],.i .i64 0,.b false]⟩),(148,⟨5,40,(.struct [(81,0),(3,2),(3,3),(3,4)]),some y4,[.i .i64 0,.i .i64 0,.i .i64 0,.i .i64 0,.i .i64 0]⟩),(161,⟨1,24,(.sl 46),some y12,[.nl]⟩),(163,⟨6,128,(.struct [(22,0),(23,1),(161,2),(161,3),(161,4),(4,5)]),some y50,[.nl,.nl,.nl,.nl,.nl,.b false]⟩),(170,⟨3,24,(.struct [(3,0),(3,1),(3,2)]),some y3,[.i .i64 0,.i .i64 0,.i .i64 0]⟩),(172,⟨1,24,(.sl 199),some nP,[.nl]⟩),(176,⟨11,200,(.struct [(172,0),(3,1),(3,2),(77,3),(55,8),(3,9),(35,10)]),some y57,[.nl,.i .i64 0,.i .i64 0,.nl,.nl,.nl,.nl,.nl,.nl,.i .i64 0,.i .i64 0]⟩),(193,⟨1,24,(.sl 28),some y58,[.nl]⟩),(199,⟨4,40,(.struct [(3,0),(9,1),(3,2),(3,3)]),some y51,[.i .i64 0,.s [],.i .i64 0,.i .i64 0]⟩),(209,⟨1,24,(.sl 4),some (.sl .bool),[.nl]⟩),(247,⟨12,96,(.arr 12 3),none,[.i .i64 0,.i .i64 0,.i .i64 0,.i .i64 0,.i .i64 0,.i .i64 0,.i .i64 0,.i .i64 0,.i .i64 0,.i .i64 0,.i .i64 0,.i .i64 0]⟩)]
def eqs:List (Nat×List Ty):=[(46,[(.int .i64),(.int .i64)]),(58,[(.int .i64),(.int .i64)]),(62,[(.int .i64),(.int .i64),(.int .i64)]),(64,[(.int .i64),(.int .i64),(.int .i64),(.int .i64)])]
def gl:List (Nat×(t:Ty)×List t.den):=[(1,⟨.int .i64,[31,28,31,30,31,30,31,31,30,31,30,31]⟩),(2,⟨.int .u64,[1,10,100,1000,10000,100000,1000000,10000000,100000000,1000000000,10000000000,100000000000,1000000000000,10000000000000,100000000000000,1000000000000000,10000000000000000,100000000000000000,1000000000000000000,10000000000000000000]⟩)]
abbrev mE(n:Nat)(fs:List (Nat×FSpec)):Env:=⟨n,eqs,tt,gl,fs,[],[],[],[],[]⟩
abbrev tR(n:Nat)(m:MG):Ret:=⟨[(.tmp n,m)],[]⟩
abbrev cR(n k:Nat)(m:MG):Ret:=⟨[(.cell n k,m)],[]⟩
abbrev H5:Type:=Ty.den y2
abbrev dU:Type:=Ty.den y0
abbrev L6:Type:=Ty.den y30
abbrev jq:Type:=Ty.den y10
abbrev H8:Type:=Ty.den y44
abbrev BP:Type:=Ty.den y3
abbrev tC:Type:=Ty.den y35
abbrev Ob:Type:=Ty.den y4
abbrev U7:Type:=Ty.den y51
abbrev D7:Type:=Ty.den kR
abbrev O9:Type:=Ty.den y34
abbrev nR:Type:=Ty.den y8
abbrev kV:Type:=Ty.den y19
abbrev x8:Type:=Ty.den y57
abbrev X5:Type:=Ty.den y50
abbrev O0:Type:=Ty.den y24
abbrev J5:Type:=Ty.den y42
abbrev gV:Type:=Ty.den y27
def wE(A:O0):Option Bool:=o6 (l9 (I8 80 (x9 A.1)) (some (.inr false)) (l9 (I8 14 (x9 A.2.2.1)) (some (.inr false)) (l9 (I8 14 (x9 A.2.2.2.1)) (some (.inr false)) (l9 (I8 60 (x9 A.2.2.2.2)) (some (.inr false)) (some (.inl ())))))) λo=>bP o (λx=>o6 (P8 (λ(x:Int)=>l9 (I8 x (x9 A.2.2.1)) (o6 (X0 A.2.2.1 x) λb=>l9 (I8 80 (x9 b.1)) (some (.rt false)) (some (.nx (I5 .i64 x 1)))) (some (.ex ()))) 0) λo=>bP o (λy=>o6 (P8 (λ(x:Int)=>l9 (I8 x (x9 A.2.2.2.1)) (o6 (X0 A.2.2.2.1 x) λb=>l9 (I8 80 (x9 b.1)) (some (.rt false)) (some (.nx (I5 .i64 x 1)))) (some (.ex ()))) 0) λo=>bP o (λy=>o6 (P8 (λ(x:Int)=>l9 (I8 x (x9 A.2.2.2.2)) (o6 (X0 A.2.2.2.2 x) λb=>l9 (I8 80 (x9 b.1)) (some (.rt false)) (l9 (I8 80 (x9 b.2.2.2.2.2.2.2)) (some (.rt false)) (l9 (I8 50 (x9 b.2.2.2.2.2.1)) (some (.rt false)) (l9 (I8 50 (x9 b.2.2.2.2.2.2.1)) (some (.rt false)) (some (.nx (I5 .i64 x 1))))))) (some (.ex ()))) 0) λo=>bP o (λy=>some true) λr=>some r) λr=>some r) λr=>some r) λr=>some r
def q10:FQ:=⟨[tD y24],tR 2 jh,mE 93 [],sN 1 (jB (jnR [(2,3),(7,29)] sgN U1) (jB (sN 1 (blA (lpR [(2,4),(29,44)] ⟨[(3,aC)],[]⟩ 0 sgN U1))) (jB (sN 1 (blA (lpR [(2,3),(4,5),(44,59)] ⟨[(4,aC)],[]⟩ 2 sgN U1))) (jB (sN 1 (blA (lpR [(2,3),(5,7),(59,93)] ⟨[(5,aC)],[]⟩ 4 sgN U1))) U1))))⟩
def s10:FSpec:=iq q10 λx=>wE x
def yM(A:gV):Option Bool:=o6 (l9 (I8 9 (x9 A.1)) (some (.inr false)) (l9 (I8 9 (x9 A.2.1)) (some (.inr false)) (l9 (I8 5 (x9 A.2.2)) (some (.inr false)) (some (.inl ()))))) λo=>bP o (λx=>o6 (P8 (λ(x:Int)=>l9 (I8 x (x9 A.1)) (o6 (X0 A.1 x) λb=>l9 (I8 80 (x9 b.1)) (some (.rt false)) (o6 (X0 A.1 x) λc=>l9 (I8 20 (x9 c.2)) (some (.rt false)) (o6 (P8 (λ(d:Int)=>o6 (X0 A.1 x) λf=>l9 (I8 d (x9 f.2)) (o6 (X0 A.1 x) λx=>o6 (X0 x.2 d) λx=>l9 (I8 80 (x9 x)) (some (.rt false)) (some (.nx (I5 .i64 d 1)))) (some (.ex ()))) 0) λo=>bP o (λy=>some (.nx (I5 .i64 x 1))) λr=>some (.rt r)))) (some (.ex ()))) 0) λo=>bP o (λy=>o6 (P8 (λ(x:H5)=>l9 (I8 x.2 (x9 A.2.1)) (o6 (X0 A.2.1 x.2) λb=>o6 (X0 A.2.1 x.2) λc=>l9 (I8 80 (x9 c.1)) (some (.rt false)) (l9 (I8 150 (I5 .i64 x.1 (x9 b.2.2.2))) (some (.rt false)) (some (.nx (I5 .i64 x.1 (x9 b.2.2.2),I5 .i64 x.2 1))))) (some (.ex ()))) (0,0)) λo=>bP o (λy=>o6 (P8 (λ(x:H5)=>l9 (I8 x.2 (x9 A.2.2)) (o6 (X0 A.2.2 x.2) λb=>l9 (I8 60 (I5 .i64 x.1 (x9 b.2.2.2.2))) (some (.rt false)) (o6 (X0 A.2.2 x.2) λc=>o6 (wE c) λd=>l9 (H9 d) (some (.rt false)) (some (.nx (I5 .i64 x.1 (x9 b.2.2.2.2),I5 .i64 x.2 1))))) (some (.ex ()))) (0,0)) λo=>bP o (λy=>some true) λr=>some r) λr=>some r) λr=>some r) λr=>some r
def q4:FQ:=⟨[tD y27],tR 2 jh,mE 127 [(10,s10)],sN 1 (jB (jnR [(2,3),(9,25)] sgN U1) (sN 2 (jB (sN 1 (blA (lpR [(2,3),(5,7),(25,72)] ⟨[(5,aC)],[]⟩ 0 sgN (sN 1 (jB (blA (sN 2 (blA (lpR [(2,3),(6,7),(50,72)] ⟨[(6,aC)],[]⟩ 2 sgN U1)))) U1))))) (jB (sN 1 (blA (lpR [(2,4),(7,8),(72,100)] ⟨[(3,aC),(7,aC)],[]⟩ 4 sgN U1))) (jB (sN 1 (blA (lpR [(2,3),(4,5),(8,9),(100,127)] ⟨[(4,aC),(8,aC)],[]⟩ 6 sgN U1))) U1)))))⟩
def s4:FSpec:=iq q4 λx=>yM x
def BB(A:O9):Option Bool:=o6 (l9 (I8 10 (x9 A.2.1)) (some (.inr false)) (l9 (I8 20 (x9 A.2.2.1)) (some (.inr false)) (l9 (I8 60 (x9 A.2.2.2)) (some (.inr false)) (some (.inl ()))))) λo=>bP o (λx=>o6 (P8 (λ(x:Int)=>l9 (I8 x (x9 A.2.1)) (o6 (X0 A.2.1 x) λb=>l9 (I8 60 (x9 b)) (some (.rt false)) (some (.nx (I5 .i64 x 1)))) (some (.ex ()))) 0) λo=>bP o (λy=>some true) λr=>some r) λr=>some r
def q5:FQ:=⟨[tD y34],tR 2 jh,mE 34 [],sN 1 (jB (jnR [(2,3),(4,20)] sgN U1) (jB (sN 1 (blA (lpR [(2,4),(20,34)] ⟨[(3,aC)],[]⟩ 0 sgN U1))) U1))⟩
def s5:FSpec:=iq q5 λx=>BB x
def KQ(A:List H5):Option gV:=some ([],[],[([104,111,117,115,101],-1,[([97],3,0)],[([100],3,0)],[([98,97,115,101],0,-1,0,(0,109573),[],A,[])])])
def q11:FQ:=⟨[uD y12],⟨[(.cell 2 26,(true,(pA (dT y1) (pA (dT y9) (.owns (pA (dT .str) (pA N9 (pA (dT y11) (pA (dT y11) (oW y19))))))))))],[]⟩,⟨22,eqs,tt,gl,[],[(24,(pA (dT .str) (pA N9 (pA (dT y11) (pA (dT y11) (oW y19))))))],[],[],[],[]⟩,U1⟩
def s11:FSpec:=iq q11 λx=>KQ x
def jo(A:Int):Option Bool:=l9 (V6 97 A) (some (V6 A 122)) (some false)
def q72:FQ:=⟨[(false,(dT (.int .u8)))],tR 2 jh,mE 9 [],U1⟩
def s72:FSpec:=iq q72 λx=>jo x
def dG(A:Int):Option Bool:=l9 (V6 48 A) (some (V6 A 57)) (some false)
def q95:FQ:=⟨[(false,(dT (.int .u8)))],tR 2 jh,mE 9 [],U1⟩
def s95:FSpec:=iq q95 λx=>dG x
def mf(A:List UInt8):Option Int:=o6 (lT (λ(x:Int)=>l9 (I8 x (x9 A)) (o6 (sat A x) λb=>o6 (jo b) λc=>l9 c (some (.inl (I5 .i64 x 1))) (o6 (sat A x) λd=>o6 (dG d) λf=>l9 f (some (.inl (I5 .i64 x 1))) (o6 (sat A x) λg=>l9 (D5 g 95) (some (.inl (I5 .i64 x 1))) (some (.inr x))))) (some (.inr x))) 0) λy=>some y
def q73:FQ:=⟨[uD .str],tR 2 aC,mE 29 [(72,s72),(95,s95)],sN 2 (jB (blA (.loop [(3,28)] ⟨[(3,aC)],[]⟩ 0 ⟨[(3,aC)],[]⟩ U1)) U1)⟩
def s73:FSpec:=iq q73 λx=>mf x
def xB(A:List UInt8):Option Bool:=o6 (l9 (seq A [105,102]) (some (seq A [105,102])) (l9 (seq A [116,104,101,110]) (some (seq A [116,104,101,110])) (l9 (seq A [101,108,115,101]) (some (seq A [101,108,115,101])) (l9 (seq A [111,114]) (some (seq A [111,114])) (l9 (seq A [97,110,100]) (some (seq A [97,110,100])) (l9 (seq A [110,111,116]) (some (seq A [110,111,116])) (l9 (seq A [116,114,117,101]) (some (seq A [116,114,117,101])) (l9 (seq A [102,97,108,115,101]) (some (seq A [102,97,108,115,101])) (l9 (seq A [116,111,100,97,121]) (some (seq A [116,111,100,97,121])) (l9 (seq A [115,104,97,114,101]) (some (seq A [115,104,97,114,101])) (l9 (seq A [100,105,118]) (some (seq A [100,105,118])) (l9 (seq A [114,111,117,110,100]) (some (seq A [114,111,117,110,100])) (l9 (seq A [109,105,110]) (some (seq A [109,105,110])) (l9 (seq A [109,97,120]) (some (seq A [109,97,120])) (l9 (seq A [112,108,117,115]) (some (seq A [112,108,117,115])) (l9 (seq A [109,111,110,116,104,115]) (some (seq A [109,111,110,116,104,115])) (l9 (seq A [100,97,121,115]) (some (seq A [100,97,121,115])) (l9 (seq A [121,101,97,114,115]) (some (seq A [121,101,97,114,115])) (l9 (seq A [121,101,97,114]) (some (seq A [121,101,97,114])) (l9 (seq A [109,111,110,116,104]) (some (seq A [109,111,110,116,104])) (l9 (seq A [116,97,98]) (some (seq A [116,97,98])) (l9 (seq A [98,97,110,100]) (some (seq A [98,97,110,100])) (l9 (seq A [99,111,117,110,116]) (some (seq A [99,111,117,110,116])) (l9 (seq A [115,117,109]) (some (seq A [115,117,109])) (l9 (seq A [97,108,108]) (some (seq A [97,108,108])) (l9 (seq A [97,110,121]) (some (seq A [97,110,121])) (l9 (seq A [109,111,115,116]) (some (seq A [109,111,115,116])) (l9 (seq A [101,110,117,109]) (some (seq A [101,110,117,109])) (l9 (seq A [116,97,98,108,101]) (some (seq A [116,97,98,108,101])) (l9 (seq A [114,111,119]) (some (seq A [114,111,119])) (l9 (seq A [115,99,111,112,101]) (some (seq A [115,99,111,112,101])) (l9 (seq A [109,101,109,98,101,114,115]) (some (seq A [109,101,109,98,101,114,115])) (l9 (seq A [105,110,112,117,116]) (some (seq A [105,110,112,117,116])) (l9 (seq A [100,101,102]) (some (seq A [100,101,102])) (l9 (seq A [114,117,108,101]) (some (seq A [114,117,108,101])) (l9 (seq A [111,102]) (some (seq A [111,102])) (l9 (seq A [111,118,101,114]) (some (seq A [111,118,101,114])) (l9 (seq A [112,114,105,111]) (some (seq A [112,114,105,111])) (l9 (seq A [102,114,111,109]) (some (seq A [102,114,111,109])) (l9 (seq A [116,111]) (some (seq A [116,111])) (l9 (seq A [101,110,100]) (some (seq A [101,110,100])) (l9 (seq A [119,104,101,110]) (some (seq A [119,104,101,110])) (l9 (seq A [105,115]) (some (seq A [105,115])) (l9 (seq A [115,114,99]) (some (seq A [115,114,99])) (l9 (seq A [98,111,111,108]) (some (seq A [98,111,111,108])) (l9 (seq A [105,110,116]) (some (seq A [105,110,116])) (l9 (seq A [109,111,110,101,121]) (some (seq A [109,111,110,101,121])) (l9 (seq A [114,97,116,101]) (some (seq A [114,97,116,101])) (l9 (seq A [100,97,116,101]) (some (seq A [100,97,116,101])) (l9 (seq A [100,111,119,110]) (some (seq A [100,111,119,110])) (l9 (seq A [117,112]) (some (seq A [117,112])) (l9 (seq A [122,101,114,111]) (some (seq A [122,101,114,111])) (l9 (seq A [97,119,97,121]) (some (seq A [97,119,97,121])) (l9 (seq A [104,97,108,102]) (some (seq A [104,97,108,102])) (some (seq A [101,118,101,110])))))))))))))))))))))))))))))))))))))))))))))))))))))))) λx=>l9 x (some true) (some false)
def q74:FQ:=⟨[uD .str],tR 2 jh,mE 60 [],sN 1 (jB (sN 1 (blA (jB (.join [(4,60)] ⟨[(4,jh)],[]⟩ U1) U1))) U1)⟩
def s74:FSpec:=iq q74 λx=>xB x
def cO(A:List UInt8):Option Bool:=l9 (H9 (seq A [])) (o6 (sat A 0) λx=>o6 (jo x) λx=>l9 x (o6 (mf A) λx=>l9 (D5 x (x9 A)) (l9 (V6 (x9 A) 16) (o6 (xB A) λx=>some (H9 x)) (some false)) (some false)) (some false)) (some false)
def q43:FQ:=⟨[uD .str],tR 2 jh,mE 27 [(72,s72),(73,s73),(74,s74)],U1⟩
def s43:FSpec:=iq q43 λx=>cO x
def Ce(A:dU)(B:List UInt8):Option Bool:=some (seq A.1 B)
def a8x:FQ:=⟨[tD y0,(false,(.rp .str))],tR 3 jh,mE 8 [],U1⟩
def a4P:FSpec:=iq a8x λx=>Ce x.1 x.2
def kD(A:List dU)(B:List UInt8):Option Int:=o6 (P8 (λ(x:Int)=>l9 (I8 x (x9 A)) (o6 (X0 A x) λb=>o6 (Ce b B) λc=>l9 c (some (.rt x)) (some (.nx (I5 .i64 x 1)))) (some (.ex ()))) 0) λo=>bP o (λy=>some (-1)) λr=>some r
def a8C:FQ:=⟨[uD y1,(false,(.fn 76 [.str]))],tR 4 aC,mE 19 [(76,a4P)],sN 1 (jB (sN 1 (blA (lpR [(4,6),(8,19)] ⟨[(8,aC)],[]⟩ 0 sgN U1))) U1)⟩
def a8L:FSpec:=iq a8C λx=>kD x.1 x.2
def jw(A:List dU)(B:List UInt8):Option Bool:=o6 (kD A B) λx=>some (V6 0 x)
def a8w:FQ:=⟨[uD y1,(false,(.fn 76 [.str]))],tR 4 jh,mE 9 [(96,a8L)],U1⟩
def a8I:FSpec:=iq a8w λx=>jw x.1 x.2
def wP(A:List dU)(B:List UInt8):Option Bool:=o6 (jw A B) λx=>some x
def q44:FQ:=⟨[uD y1,(uD .str)],tR 4 jh,mE 8 [(76,a4P),(75,a8I)],U1⟩
def s44:FSpec:=iq q44 λx=>wP x.1 x.2
def aV(A:List (List UInt8))(B:List UInt8):Option Int:=o6 (P8 (λ(x:Int)=>l9 (I8 x (x9 A)) (o6 (X0 A x) λb=>l9 (seq B b) (some (.rt x)) (some (.nx (I5 .i64 x 1)))) (some (.ex ()))) 0) λo=>bP o (λy=>some (-1)) λr=>some r
def q93:FQ:=⟨[uD (.sl .str),(uD .str)],tR 4 aC,mE 19 [],sN 1 (jB (sN 1 (blA (lpR [(4,6),(8,19)] ⟨[(8,aC)],[]⟩ 0 sgN U1))) U1)⟩
def s93:FSpec:=iq q93 λx=>aV x.1 x.2
def jM(A:List (List UInt8))(B:List UInt8):Option Bool:=o6 (aV A B) λx=>some (V6 0 x)
def q65:FQ:=⟨[uD (.sl .str),(uD .str)],tR 4 jh,mE 9 [(93,s93)],U1⟩
def s65:FSpec:=iq q65 λx=>jM x.1 x.2
def yK(A:gV)(B:Int)(C:dU):Option H5:=o6 (cO C.1) λx=>l9 (H9 x) (some (2,0)) (o6 (bQ A.1 0 B) λx=>o6 (wP x C.1) λx=>l9 x (some (7,0)) (l9 (D5 (x9 C.2) 0) (some (5,0)) (l9 (I8 16 (x9 C.2)) (some (4,116)) (o6 (P8 (λ(x:Int)=>l9 (I8 x (x9 C.2)) (o6 (X0 C.2 x) λb=>o6 (cO b) λc=>l9 (H9 c) (some (.rt (2,I5 .i64 100 x))) (o6 (bQ C.2 0 x) λd=>o6 (jM d b) λf=>l9 f (some (.rt (7,I5 .i64 100 x))) (some (.nx (I5 .i64 x 1))))) (some (.ex ()))) 0) λo=>bP o (λy=>some (0,0)) λr=>some r))))
def q41:FQ:=⟨[tD y27,aC,tD y0],⟨[(.tmp 6,aC),(.tmp 7,aC)],[]⟩,mE 55 [(43,s43),(44,s44),(65,s65)],sN 2 (jB (sN 1 (blA (lpR [(6,10),(36,55)] ⟨[(36,aC)],[]⟩ 1 sgN U1))) U1)⟩
def s41:FSpec:=iq q41 λx=>yK x.1 x.2.1 x.2.2
def xx(A:gV):Option tC:=l9 (I8 8 (x9 A.1)) (some (4,1,8,0)) (o6 (P8 (λ(x:tC×Int)=>l9 (I8 x.2 (x9 A.1)) (o6 (X0 A.1 x.2) λc=>o6 (yK A x.2 c) λb=>l9 (H9 (D5 b.1 0)) (some (.rt (b.1,1,x.2,b.2))) (some (.nx (x.1,I5 .i64 x.2 1)))) (some (.ex x.1))) ((0,0,0,0),0)) λo=>bP o (λ(y:tC)=>some (0,0,0,0)) λr=>some r)
def q24:FQ:=⟨[tD y27],cR 2 64 (tD y35),mE 35 [(41,s41)],sN 2 (jB (sN 1 (blA (lpR [(2,7),(15,34),(4000128,4000129)] ⟨[(2,(false,(.box (dT y35)))),(15,aC)],[]⟩ 0 ⟨[(2,(false,(.box (dT y35))))],[]⟩ U1))) U1)⟩
def s24:FSpec:=iq q24 λx=>xx x
def bM(A:H5)(B:List dU):Option Bool:=o6 (l9 (D5 A.1 1) (some (D5 A.1 1)) (l9 (D5 A.1 2) (some (D5 A.1 2)) (l9 (D5 A.1 3) (some (D5 A.1 3)) (l9 (D5 A.1 4) (some (D5 A.1 4)) (some (D5 A.1 5)))))) λx=>l9 x (some (D5 A.2 0)) (l9 (D5 A.1 6) (l9 (V6 0 A.2) (some (I8 A.2 (x9 B))) (some false)) (some false))
def q66:FQ:=⟨[tD y2,uD y1],tR 4 jh,mE 28 [],sN 1 (jB (sN 1 (blA (jB (.join [(7,13)] ⟨[(7,jh)],[]⟩ U1) U1))) U1)⟩
def s66:FSpec:=iq q66 λx=>bM x.1 x.2
def lC(A:H5)(B:List dU):Option H5:=o6 (bM A B) λx=>l9 (H9 x) (some (0,-1)) (l9 (D5 A.1 1) (some (0,1)) (l9 (D5 A.1 2) (some (-1000000000000,1000000000000)) (l9 (D5 A.1 3) (some (-1000000000000000,1000000000000000)) (l9 (D5 A.1 4) (some (-1000000000,1000000000)) (l9 (D5 A.1 5) (some (0,109572)) (o6 (X0 B A.2) λx=>some (0,ae .i64 (x9 x.2) 1)))))))
def q67:FQ:=⟨[tD y2,uD y1],⟨[(.tmp 4,aC),(.tmp 5,aC)],[]⟩,mE 30 [(66,s66)],U1⟩
def s67:FSpec:=iq q67 λx=>lC x.1 x.2
def sS(A:H5):Option Bool:=l9 (V6 0 A.1) (l9 (V6 A.1 A.2) (some (V6 A.2 109573)) (some false)) (some false)
def q68:FQ:=⟨[tD y2],tR 2 jh,mE 18 [],U1⟩
def s68:FSpec:=iq q68 λx=>sS x
def uj(A:H5):Option Bool:=o6 (sS A) λx=>l9 x (some (I8 A.1 A.2)) (some false)
def b2z:FQ:=⟨[tD y2],tR 2 jh,mE 12 [(68,s68)],U1⟩
def b3Q:FSpec:=iq b2z λx=>uj x
def qU(A:H5)(B:H5):Option (H5×Bool):=o6 (uj A) λx=>l9 (H9 x) (some ((0,0),false)) (o6 (uj B) λx=>l9 (H9 x) (some ((0,0),false)) (l9 (V6 (zk A.2 B.2) (zi A.1 B.1)) (some ((0,0),false)) (some ((zi A.1 B.1,zk A.2 B.2),true))))
def q94:FQ:=⟨[tD y2,tD y2],⟨[(.cell 4 81,tD y2),(.tmp 5,jh)],[]⟩,mE 34 [(120,b3Q)],U1⟩
def s94:FSpec:=iq q94 λx=>qU x.1 x.2
def xU(A:Ob)(B:Ob):Option Bool:=o6 (qU A.1 B.1) λx=>l9 x.2 (some (I8 (zi A.2.1 B.2.1) (zk A.2.2.1 B.2.2.1))) (some false)
def q71:FQ:=⟨[tD y4,tD y4],tR 4 jh,mE 29 [(94,s94)],U1⟩
def s71:FSpec:=iq q71 λx=>xU x.1 x.2
def rJ(A:Ob)(B:Ob):Option Bool:=o6 (xU A B) λx=>some x
def a8v:FQ:=⟨[tD y4,(false,(.rp y4))],tR 3 jh,mE 7 [(71,s71)],U1⟩
def a4O:FSpec:=iq a8v λx=>rJ x.1 x.2
def qW(A:List Ob)(B:Ob):Option (Int×Bool):=o6 (P8 (λ(x:Int)=>l9 (I8 x (x9 A)) (o6 (X0 A x) λb=>o6 (rJ b B) λc=>l9 c (some (.rt (x,true))) (some (.nx (I5 .i64 x 1)))) (some (.ex ()))) 0) λo=>bP o (λy=>some (0,false)) λr=>some r
def a8u:FQ:=⟨[uD y5,(false,(.fn 70 [y4]))],⟨[(.tmp 4,aC),(.tmp 5,jh)],[]⟩,mE 20 [(70,a4O)],sN 1 (jB (sN 1 (blA (lpR [(4,8),(10,20)] ⟨[(10,aC)],[]⟩ 0 sgN U1))) U1)⟩
def a8H:FSpec:=iq a8u λx=>qW x.1 x.2
def xR(A:nR)(B:List dU):Option H5:=l9 (I8 64 (x9 A.2.2.2)) (some (64,4)) (o6 (o6 (bM A.2.1 B) λx=>l9 (H9 x) (some (.inr (-1,8))) (o6 (bM A.2.2.1 B) λx=>l9 (H9 x) (some (.inr (-1,8))) (some (.inl ())))) λo=>bP o (λx=>o6 (lC A.2.1 B) λx=>o6 (lC A.2.2.1 B) λd=>o6 (P8 (λ(b:Int)=>l9 (I8 b (x9 A.2.2.2)) (o6 (X0 A.2.2.2 b) λc=>o6 (o6 (sS c.1) λx=>l9 (H9 x) (some (.inr (b,3))) (l9 (D5 c.1.1 c.1.2) (some (.inr (b,3))) (l9 (V6 c.2.2.1 c.2.1) (some (.inr (b,3))) (some (.inl ()))))) λo=>bP o (λf=>o6 (l9 (I8 c.2.1 x.1) (some (.inr (b,3))) (l9 (I8 x.2 c.2.1) (some (.inr (b,3))) (l9 (I8 (ae .i64 c.2.2.1 1) x.1) (some (.inr (b,3))) (l9 (I8 x.2 (ae .i64 c.2.2.1 1)) (some (.inr (b,3))) (some (.inl ())))))) λo=>bP o (λx=>l9 (I8 c.2.2.2 d.1) (some (.rt (b,3))) (l9 (I8 d.2 c.2.2.2) (some (.rt (b,3))) (o6 (bQ A.2.2.2 0 b) λx=>o6 (qW x c) λx=>l9 x.2 (some (.rt (b,11))) (some (.nx (I5 .i64 b 1)))))) λr=>some (.rt r)) λr=>some (.rt r)) (some (.ex ()))) 0) λo=>bP o (λy=>some (0,0)) λr=>some r) λr=>some r)
def q42:FQ:=⟨[tD y8,uD y1],⟨[(.tmp 4,aC),(.tmp 5,aC)],[]⟩,mE 121 [(66,s66),(67,s67),(68,s68),(70,a4O),(69,a8H)],sN 2 (jB (jnR [(4,6),(18,30)] sgN U1) (sN 2 (jB (sN 1 (blA (lpR [(4,6),(10,14),(47,121)] ⟨[(47,aC)],[]⟩ 0 sgN (sN 2 (jB (blA (sN 1 (jB (jnR [(4,6),(52,73)] sgN U1) (jB (jnR [(4,6),(73,98)] sgN U1) U1)))) U1))))) U1)))⟩
def s42:FSpec:=iq q42 λx=>xR x.1 x.2
def Aj(A:nR)(B:List UInt8):Option Bool:=some (seq A.1 B)
def a8z:FQ:=⟨[tD y8,(false,(.rp .str))],tR 3 jh,mE 8 [],U1⟩
def a4Q:FSpec:=iq a8z λx=>Aj x.1 x.2
def jI(A:List nR)(B:List UInt8):Option Int:=o6 (P8 (λ(x:Int)=>l9 (I8 x (x9 A)) (o6 (X0 A x) λb=>o6 (Aj b B) λc=>l9 c (some (.rt x)) (some (.nx (I5 .i64 x 1)))) (some (.ex ()))) 0) λo=>bP o (λy=>some (-1)) λr=>some r
def a8E:FQ:=⟨[uD y9,(false,(.fn 78 [.str]))],tR 4 aC,mE 19 [(78,a4Q)],sN 1 (jB (sN 1 (blA (lpR [(4,6),(8,19)] ⟨[(8,aC)],[]⟩ 0 sgN U1))) U1)⟩
def a8N:FSpec:=iq a8E λx=>jI x.1 x.2
def iL(A:List nR)(B:List UInt8):Option Bool:=o6 (jI A B) λx=>some (V6 0 x)
def a8y:FQ:=⟨[uD y9,(false,(.fn 78 [.str]))],tR 4 jh,mE 9 [(97,a8N)],U1⟩
def a8J:FSpec:=iq a8y λx=>iL x.1 x.2
def xA(A:List nR)(B:List UInt8):Option Bool:=o6 (iL A B) λx=>some x
def q45:FQ:=⟨[uD y9,(uD .str)],tR 4 jh,mE 8 [(78,a4Q),(77,a8J)],U1⟩
def s45:FSpec:=iq q45 λx=>xA x.1 x.2
def ww(A:gV):Option tC:=l9 (I8 8 (x9 A.2.1)) (some (4,2,8,0)) (o6 (P8 (λ(x:tC×Int)=>l9 (I8 x.2 (x9 A.2.1)) (o6 (X0 A.2.1 x.2) λc=>o6 (xR c A.1) λb=>o6 (o6 (cO c.1) λd=>l9 (H9 d) (some (2,2,x.2,0)) (o6 (wP A.1 c.1) λf=>l9 f (some (7,2,x.2,0)) (o6 (bQ A.2.1 0 x.2) λg=>o6 (xA g c.1) λi=>l9 i (some (7,2,x.2,0)) (l9 (H9 (D5 b.2 0)) (l9 (H9 (D5 b.1 (-1))) (some (b.2,2,x.2,I5 .i64 100 b.1)) (some (b.2,2,x.2,0))) (some (0,2,x.2,0)))))) λd=>l9 (H9 (D5 d.1 0)) (some (.rt d)) (some (.nx (x.1,I5 .i64 x.2 1)))) (some (.ex x.1))) ((0,0,0,0),0)) λo=>bP o (λ(y:tC)=>some (0,0,0,0)) λr=>some r)
def q25:FQ:=⟨[tD y27],cR 2 64 (tD y35),mE 68 [(42,s42),(43,s43),(44,s44),(45,s45)],sN 2 (jB (sN 1 (blA (lpR [(2,8),(16,67),(4000128,4000129)] ⟨[(2,(false,(.box (dT y35)))),(16,aC)],[]⟩ 0 ⟨[(2,(false,(.box (dT y35))))],[]⟩ (sN 2 (jB (blA (sN 3 (jB (.join [(5,6),(30,62),(37000320,37000321)] ⟨[(5,(false,(.box (dT y35))))],[]⟩ U1) U1))) U1))))) U1)⟩
def s25:FSpec:=iq q25 λx=>ww x
def yz(A:O0)(B:O0):Option Bool:=some (seq A.1 B.1)
def a8B:FQ:=⟨[tD y24,(false,(.rp y24))],tR 3 jh,mE 9 [],U1⟩
def a4R:FSpec:=iq a8B λx=>yz x.1 x.2
def jH(A:List O0)(B:O0):Option Int:=o6 (P8 (λ(x:Int)=>l9 (I8 x (x9 A)) (o6 (X0 A x) λb=>o6 (yz b B) λc=>l9 c (some (.rt x)) (some (.nx (I5 .i64 x 1)))) (some (.ex ()))) 0) λo=>bP o (λy=>some (-1)) λr=>some r
def a8F:FQ:=⟨[uD y25,(false,(.fn 80 [y24]))],tR 4 aC,mE 19 [(80,a4R)],sN 1 (jB (sN 1 (blA (lpR [(4,6),(8,19)] ⟨[(8,aC)],[]⟩ 0 sgN U1))) U1)⟩
def a8O:FSpec:=iq a8F λx=>jH x.1 x.2
def eP(A:List O0)(B:O0):Option Bool:=o6 (jH A B) λx=>some (V6 0 x)
def a8A:FQ:=⟨[uD y25,(false,(.fn 80 [y24]))],tR 4 jh,mE 9 [(98,a8O)],U1⟩
def a8K:FSpec:=iq a8A λx=>eP x.1 x.2
def yx(A:jq)(B:jq):Option Bool:=some (seq A.1 B.1)
def a8G:FQ:=⟨[tD y10,(false,(.rp y10))],tR 3 jh,mE 9 [],U1⟩
def a4S:FSpec:=iq a8G λx=>yx x.1 x.2
def jG(A:List jq)(B:jq):Option Int:=o6 (P8 (λ(x:Int)=>l9 (I8 x (x9 A)) (o6 (X0 A x) λb=>o6 (yx b B) λc=>l9 c (some (.rt x)) (some (.nx (I5 .i64 x 1)))) (some (.ex ()))) 0) λo=>bP o (λy=>some (-1)) λr=>some r
def a4v:FQ:=⟨[uD y11,(false,(.fn 99 [y10]))],tR 4 aC,mE 19 [(99,a4S)],sN 1 (jB (sN 1 (blA (lpR [(4,6),(8,19)] ⟨[(8,aC)],[]⟩ 0 sgN U1))) U1)⟩
def a4M:FSpec:=iq a4v λx=>jG x.1 x.2
def bK(A:List jq)(B:jq):Option Bool:=o6 (jG A B) λx=>some (V6 0 x)
def a4s:FQ:=⟨[uD y11,(false,(.fn 99 [y10]))],tR 4 jh,mE 9 [(121,a4M)],U1⟩
def a4J:FSpec:=iq a4s λx=>bK x.1 x.2
def uI(A:gV)(B:jq)(C:List jq)(D:List jq):Option Int:=o6 (cO B.1) λx=>l9 (H9 x) (some 2) (o6 (bK C B) λx=>l9 x (some 7) (o6 (bK D B) λx=>l9 x (some 7) (o6 (bM B.2 A.1) λx=>l9 (H9 x) (some 8) (some 0))))
def q81:FQ:=⟨[tD y27,tD y10,uD y11,uD y11],tR 8 aC,mE 32 [(99,a4S),(43,s43),(100,a4J),(66,s66)],U1⟩
def s81:FSpec:=iq q81 λx=>uI x.1 x.2.1 x.2.2.1 x.2.2.2
def ru(A:List jq):Option (List H5):=o6 (lT (λ(x:List H5×Int)=>l9 (I8 x.2 (x9 A)) (o6 (X0 A x.2) λb=>o6 (jV x.1 [b.2]) λc=>some (.inl (c,I5 .i64 x.2 1))) (some (.inr x.1))) ([],0)) λy=>some y
def b2k:FQ:=⟨[uD y11],tR 2 (uO y2),mE 19 [],sN 2 (jB (sN 1 (blA (.loop [(3,4),(5,6),(8,18)] ⟨[(3,(uO y2)),(8,aC)],[]⟩ 0 ⟨[(3,(uO y2))],[]⟩ U1))) U1)⟩
def b3E:FSpec:=iq b2k λx=>ru x
def qV(A:gV)(B:Int):Option X5:=o6 (X0 A.2.2 B) λx=>o6 (ru x.2.2.1) λb=>o6 (ru x.2.2.2.1) λc=>l9 (V6 0 x.2.1) (l9 (I8 x.2.1 (x9 A.2.2)) (o6 (X0 A.2.2 x.2.1) λx=>o6 (ru x.2.2.2.1) λx=>some (A.1,A.2.1,b,c,x,true)) (some (A.1,A.2.1,b,c,[],false))) (some (A.1,A.2.1,b,c,[],false))
def q82:FQ:=⟨[tD y27,aC],cR 4 163 (tD y50),mE 45 [(101,b3E)],U1⟩
def s82:FSpec:=iq q82 λx=>qV x.1 x.2
def zl(A:kV)(B:kV):Option Bool:=some (seq A.1 B.1)
def a4u:FQ:=⟨[tD y19,(false,(.rp y19))],tR 3 jh,mE 9 [],U1⟩
def ZN:FSpec:=iq a4u λx=>zl x.1 x.2
def kE(A:List kV)(B:kV):Option Int:=o6 (P8 (λ(x:Int)=>l9 (I8 x (x9 A)) (o6 (X0 A x) λb=>o6 (zl b B) λc=>l9 c (some (.rt x)) (some (.nx (I5 .i64 x 1)))) (some (.ex ()))) 0) λo=>bP o (λy=>some (-1)) λr=>some r
def a4w:FQ:=⟨[uD y20,(false,(.fn 103 [y19]))],tR 4 aC,mE 19 [(103,ZN)],sN 1 (jB (sN 1 (blA (lpR [(4,6),(8,19)] ⟨[(8,aC)],[]⟩ 0 sgN U1))) U1)⟩
def a4N:FSpec:=iq a4w λx=>kE x.1 x.2
def fU(A:List kV)(B:kV):Option Bool:=o6 (kE A B) λx=>some (V6 0 x)
def a4t:FQ:=⟨[uD y20,(false,(.fn 103 [y19]))],tR 4 jh,mE 9 [(122,a4N)],U1⟩
def a4K:FSpec:=iq a4t λx=>fU x.1 x.2
def b5Z:List MG:=[(false,(.dat .str)),(false,(.dat .str))]
def s60:FSpec:=⟨b5Z,[jh],[],λx=>qI x.1 x.2⟩
def wz(A:List UInt8):Option Bool:=l9 (I8 64 (x9 A)) (some false) (o6 (qI A [34]) λx=>l9 x (some false) (o6 (P8 (λ(x:Int)=>l9 (I8 x (x9 A)) (o6 (sat A x) λb=>l9 (I8 b 32) (some (.rt false)) (o6 (sat A x) λc=>l9 (I8 126 c) (some (.rt false)) (some (.nx (I5 .i64 x 1))))) (some (.ex ()))) 0) λo=>bP o (λy=>some true) λr=>some r))
def b2l:FQ:=⟨[uD .str],tR 2 jh,mE 27 [(60,s60)],sN 2 (jB (sN 1 (blA (lpR [(2,4),(13,27)] ⟨[(13,aC)],[]⟩ 0 sgN U1))) U1)⟩
def b3F:FSpec:=iq b2l λx=>wz x
def kW(A:Int):Option Int:=o6 (l9 (D5 A 1) (some (D5 A 1)) (l9 (D5 A 2) (some (D5 A 2)) (l9 (D5 A 3) (some (D5 A 3)) (l9 (D5 A 4) (some (D5 A 4)) (l9 (D5 A 5) (some (D5 A 5)) (l9 (D5 A 6) (some (D5 A 6)) (l9 (D5 A 7) (some (D5 A 7)) (l9 (D5 A 8) (some (D5 A 8)) (l9 (D5 A 9) (some (D5 A 9)) (l9 (D5 A 35) (some (D5 A 35)) (l9 (D5 A 36) (some (D5 A 36)) (l9 (D5 A 37) (some (D5 A 37)) (l9 (D5 A 38) (some (D5 A 38)) (some (D5 A 39))))))))))))))) λx=>l9 x (some 0) (o6 (l9 (D5 A 10) (some (D5 A 10)) (l9 (D5 A 25) (some (D5 A 25)) (l9 (D5 A 31) (some (D5 A 31)) (l9 (D5 A 32) (some (D5 A 32)) (l9 (D5 A 33) (some (D5 A 33)) (some (D5 A 34))))))) λx=>l9 x (some 1) (o6 (l9 (D5 A 11) (some (D5 A 11)) (l9 (D5 A 12) (some (D5 A 12)) (l9 (D5 A 13) (some (D5 A 13)) (l9 (D5 A 14) (some (D5 A 14)) (l9 (D5 A 15) (some (D5 A 15)) (l9 (D5 A 16) (some (D5 A 16)) (l9 (D5 A 17) (some (D5 A 17)) (l9 (D5 A 18) (some (D5 A 18)) (l9 (D5 A 19) (some (D5 A 19)) (l9 (D5 A 20) (some (D5 A 20)) (l9 (D5 A 21) (some (D5 A 21)) (l9 (D5 A 22) (some (D5 A 22)) (l9 (D5 A 23) (some (D5 A 23)) (l9 (D5 A 24) (some (D5 A 24)) (l9 (D5 A 27) (some (D5 A 27)) (l9 (D5 A 28) (some (D5 A 28)) (l9 (D5 A 29) (some (D5 A 29)) (some (D5 A 30))))))))))))))))))) λx=>l9 x (some 2) (l9 (D5 A 26) (some 3) (some (-1)))))
def q32:FQ:=⟨[aC],tR 2 aC,mE 47 [],sN 1 (jB (sN 1 (blA (jB (.join [(4,19)] ⟨[(4,jh)],[]⟩ U1) (.cond U1 (jB (.join [(19,26)] ⟨[(19,jh)],[]⟩ U1) (.cond U1 (jB (.join [(26,45)] ⟨[(26,jh)],[]⟩ U1) U1))))))) U1)⟩
def s32:FSpec:=iq q32 λx=>kW x
def uA(A:List H5):Option (List Int×H5):=l9 (I8 48 (x9 A)) (some ([],0,4)) (l9 (D5 (x9 A) 0) (some ([],0,5)) (o6 (Ja (x9 A) 0) λx=>o6 (P8 (λ(x:List Int×List Int×Int)=>l9 (I8 x.2.2 (x9 A)) (o6 (X0 A x.2.2) λg=>o6 (kW g.1) λb=>l9 (I8 b 0) (some (.rt ([],x.2.2,2))) (l9 (I8 (x9 x.2.1) b) (some (.rt ([],x.2.2,5))) (o6 (X0 x.1 x.2.2) λk=>o6 (qN x.1 (jC x.2.2)) λn=>l9 (I8 0 b) (o6 (X0 x.2.1 (ae .i64 (x9 x.2.1) b)) λj=>o6 (qN x.2.1 (jC (ae .i64 (x9 x.2.1) b))) λc=>o6 (X0 (wI x.1 (jC x.2.2) x.2.2) x.2.2) λd=>o6 (qN (wI x.1 (jC x.2.2) x.2.2) (jC x.2.2)) λp=>l9 (mJ 0 (ae .i64 (x9 x.2.1) b) (x9 x.2.1)) (o6 (X0 (wI (wI x.1 (jC x.2.2) x.2.2) (jC x.2.2) c) x.2.2) λq=>o6 (qN (wI (wI x.1 (jC x.2.2) x.2.2) (jC x.2.2) c) (jC x.2.2)) λi=>o6 (jV (kN x.2.1 (jC 0) (jC (ae .i64 (x9 x.2.1) b))) [i]) λf=>l9 (I8 12 (x9 f)) (some (.rt ([],x.2.2,16))) (some (.nx (wI (wI x.1 (jC x.2.2) x.2.2) (jC x.2.2) c,f,I5 .i64 x.2.2 1)))) none) (l9 (mJ 0 (ae .i64 (x9 x.2.1) b) (x9 x.2.1)) (o6 (X0 (wI x.1 (jC x.2.2) x.2.2) x.2.2) λj=>o6 (qN (wI x.1 (jC x.2.2) x.2.2) (jC x.2.2)) λc=>o6 (jV (kN x.2.1 (jC 0) (jC (ae .i64 (x9 x.2.1) b))) [c]) λd=>l9 (I8 12 (x9 d)) (some (.rt ([],x.2.2,16))) (some (.nx (wI x.1 (jC x.2.2) x.2.2,d,I5 .i64 x.2.2 1)))) none)))) (some (.ex (x.1,x.2.1)))) (x,[],0)) λo=>bP o (λ(y:List Int×List Int)=>l9 (I8 1 (x9 y.2)) (some ([],x9 A,4)) (some (y.1,0,0))) λr=>some r))
def q49:FQ:=⟨[uD y12],⟨[(.tmp 2,uoM),(.tmp 3,aC),(.tmp 4,aC)],[]⟩,mE 76 [(32,s32)],sN 5 (jB (sN 1 (blA (lpR [(2,10),(21,70),(27001152,27001153)] ⟨[(5,uoM),(6,uoM),(21,aC)],[]⟩ 0 ⟨[(5,uoM),(6,uoM)],[]⟩ U1))) U1)⟩
def s49:FSpec:=iq q49 λx=>uA x
def cu(A:Int):Option Bool:=l9 (D5 A 1) (l9 (D5 A 1) (some true) (some false)) (l9 (D5 A 2) (l9 (D5 A 2) (some true) (some false)) (l9 (D5 A 3) (l9 (D5 A 3) (some true) (some false)) (l9 (D5 A 4) (l9 (D5 A 4) (some true) (some false)) (l9 (D5 A 5) (l9 (D5 A 5) (some true) (some false)) (l9 (D5 A 6) (l9 (D5 A 6) (some true) (some false)) (l9 (D5 A 7) (l9 (D5 A 7) (some true) (some false)) (l9 (D5 A 8) (l9 (D5 A 8) (some true) (some false)) (l9 (D5 A 14) (l9 (D5 A 14) (some true) (some false)) (l9 (D5 A 15) (l9 (D5 A 15) (some true) (some false)) (l9 (D5 A 16) (l9 (D5 A 16) (some true) (some false)) (l9 (D5 A 33) (l9 (D5 A 33) (some true) (some false)) (l9 (D5 A 34) (l9 (D5 A 34) (some true) (some false)) (l9 (D5 A 36) (l9 (D5 A 36) (some true) (some false)) (l9 (D5 A 37) (l9 (D5 A 37) (some true) (some false)) (l9 (D5 A 38) (l9 (D5 A 38) (some true) (some false)) (l9 (D5 A 39) (some true) (some false)))))))))))))))))
def q31:FQ:=⟨[aC],tR 2 jh,mE 22 [],U1⟩
def s31:FSpec:=iq q31 λx=>cu x
def kH(A:Int)(B:Int)(C:X5):Option L6:=o6 (lC (B,0) C.1) λx=>l9 (I8 A x.1) (some ((0,0),3)) (l9 (I8 x.2 A) (some ((0,0),3)) (some ((B,0),0)))
def b2X:FQ:=⟨[aC,aC,tD y50],⟨[(.cell 6 46,tD y2),(.tmp 7,aC)],[]⟩,mE 30 [(67,s67)],U1⟩
def b4j:FSpec:=iq b2X λx=>kH x.1 x.2.1 x.2.2
def yJ(A:Int)(B:X5):Option L6:=l9 (I8 A 0) (some ((0,0),3)) (l9 (V6 (x9 B.1) (dX .i64 A 16)) (some ((0,0),6)) (o6 (X0 B.1 (dX .i64 A 16)) λx=>l9 (V6 (x9 x.2) (iY A 16)) (some ((0,0),6)) (some ((6,dX .i64 A 16),0))))
def b2Y:FQ:=⟨[aC,tD y50],⟨[(.cell 4 46,tD y2),(.tmp 5,aC)],[]⟩,mE 34 [],U1⟩
def b4k:FSpec:=iq b2Y λx=>yJ x.1 x.2
def jZ(A:Int)(B:List H5)(C:X5):Option L6:=l9 (I8 A 0) (some ((0,0),6)) (l9 (V6 (x9 B) A) (some ((0,0),6)) (o6 (X0 B A) λx=>o6 (bM x C.1) λx=>l9 (H9 x) (some ((0,0),8)) (o6 (X0 B A) λx=>some (x,0))))
def b2Z:FQ:=⟨[aC,uD y12,tD y50],⟨[(.cell 6 46,tD y2),(.tmp 7,aC)],[]⟩,mE 30 [(66,s66)],U1⟩
def b0g:FSpec:=iq b2Z λx=>jZ x.1 x.2.1 x.2.2
def mY(A:Int):Option Bool:=l9 (V6 0 A) (some (V6 A 5)) (some false)
def b3c:FQ:=⟨[aC],tR 2 jh,mE 9 [],U1⟩
def b0h:FSpec:=iq b3c λx=>mY x
def qZ(A:H5)(B:H5)(C:X5):Option L6:=o6 (l9 (D5 A.1 34) (l9 (I8 A.2 0) (some (.inr ((0,0),3))) (o6 (mY (iY A.2 8)) λx=>l9 (H9 x) (some (.inr ((0,0),3))) (some (.inl ((0,0),dX .i64 A.2 8))))) (some (.inl ((0,0),A.2)))) λo=>bP o (λ(x:L6)=>o6 (l9 (I8 x.2 0) (some (.inr ((0,0),6))) (l9 (V6 (x9 C.2.1) x.2) (some (.inr ((0,0),6))) (some (.inl x.1)))) λo=>bP o (λ(d:H5)=>o6 (X0 C.2.1 x.2) λb=>o6 (X0 C.2.1 x.2) λx=>o6 (o6 (bM b.2.1 C.1) λc=>l9 (H9 c) (some (.inr ((0,0),8))) (o6 (bM x.2.2.1 C.1) λx=>l9 (H9 x) (some (.inr ((0,0),8))) (l9 (H9 (oP (D5 B.1 b.2.1.1) (D5 B.2 b.2.1.2))) (some (.inr ((0,0),8))) (some (.inl d))))) λo=>bP o (λ(c:H5)=>l9 (D5 A.1 34) (l9 (H9 (D5 b.2.1.1 3)) (some ((0,0),8)) (l9 (H9 (D5 x.2.2.1.1 4)) (some ((0,0),8)) (some (b.2.1,0)))) (some (x.2.2.1,0))) λr=>some r) λr=>some r) λr=>some r
def b3a:FQ:=⟨[tD y2,tD y2,tD y50],⟨[(.cell 6 46,tD y2),(.tmp 7,aC)],[]⟩,mE 84 [(167,b0h),(66,s66)],sN 2 (jB (jnR [(6,9),(13,30),(4000384,4000385)] ⟨[(6,(false,(.box (dT y2)))),(8,aC)],[]⟩ U1) (jB (jnR [(6,8),(30,40),(9000000,9000001)] ⟨[(6,(false,(.box (dT y2))))],[]⟩ U1) (sN 1 (jB (jnR [(6,8),(52,70),(27000000,27000001)] ⟨[(6,(false,(.box (dT y2))))],[]⟩ U1) U1))))⟩
def b4l:FSpec:=iq b3a λx=>qZ x.1 x.2.1 x.2.2
def mP(A:Int):Option Bool:=l9 (D5 A 2) (some true) (l9 (D5 A 3) (some true) (some (D5 A 4)))
def b3n:FQ:=⟨[aC],tR 2 jh,mE 13 [],U1⟩
def b0j:FSpec:=iq b3n λx=>mP x
def qc(A:H5)(B:X5):Option L6:=l9 (H9 B.2.2.2.2.2) (some ((0,0),6)) (l9 (D5 A.1 35) (some ((2,0),0)) (o6 (jZ A.2 B.2.2.2.2.1 B) λx=>l9 (H9 (D5 x.2 0)) (some ((0,0),x.2)) (o6 (l9 (D5 A.1 36) (l9 (D5 x.1.1 2) (some true) (some (D5 x.1.1 3))) (l9 (D5 A.1 37) (l9 (D5 A.1 37) (some (D5 x.1.1 1)) (l9 (D5 A.1 39) (o6 (mP x.1.1) λb=>l9 b (some true) (some (D5 x.1.1 5))) (some false))) (l9 (D5 A.1 38) (some (D5 x.1.1 1)) (l9 (D5 A.1 39) (o6 (mP x.1.1) λb=>l9 b (some true) (some (D5 x.1.1 5))) (some false))))) λb=>l9 (H9 b) (some ((0,0),8)) (some (x.1,0)))))
def b3b:FQ:=⟨[tD y2,tD y50],⟨[(.cell 4 46,tD y2),(.tmp 5,aC)],[]⟩,mE 62 [(164,b0g),(189,b0j)],sN 6 (jB (.join [(8,9),(30,58)] ⟨[(8,jh)],[]⟩ U1) U1)⟩
def b4m:FSpec:=iq b3b λx=>qc x.1 x.2
def CO(A:Int)(B:Int)(C:Int):Option (H5×Bool):=l9 (D5 A 14) (l9 (D5 C 4) (l9 (D5 B 3) (some ((B,0),true)) (some ((B,0),D5 B 4))) (some ((B,0),false))) (l9 (D5 C 2) (l9 (D5 B 2) (some ((B,0),true)) (some ((B,0),D5 B 3))) (l9 (D5 A 15) (l9 (D5 B 3) (l9 (D5 C 3) (some ((4,0),true)) (some ((0,0),false))) (some ((0,0),false))) (some ((0,0),false))))
def b3o:FQ:=⟨[aC,aC,aC],⟨[(.cell 6 46,tD y2),(.tmp 7,jh)],[]⟩,mE 47 [],U1⟩
def b4w:FSpec:=iq b3o λx=>CO x.1 x.2.1 x.2.2
def nT(A:Int)(B:List H5):Option (H5×Bool):=o6 (l9 (D5 A 10) (o6 (X0 B 0) λx=>o6 (X0 B 0) λb=>o6 (mP b.1) λc=>some (.inr (x,c))) (l9 (D5 A 25) (o6 (X0 B 0) λx=>some (.inr ((1,0),D5 x.1 1))) (o6 (l9 (D5 A 11) (some (D5 A 11)) (some (D5 A 12))) λx=>l9 x (o6 (X0 B 0) λx=>o6 (X0 B 0) λb=>o6 (X0 B 1) λc=>l9 (oP (D5 b.1 c.1) (D5 b.2 c.2)) (o6 (X0 B 0) λd=>o6 (mP d.1) λf=>some (.inr (x,f))) (some (.inr (x,false)))) (o6 (l9 (D5 A 13) (some (D5 A 13)) (l9 (D5 A 14) (some (D5 A 14)) (some (D5 A 15)))) λx=>l9 x (o6 (X0 B 0) λx=>o6 (X0 B 1) λb=>o6 (CO A x.1 b.1) λx=>some (.inr x)) (l9 (D5 A 16) (o6 (X0 B 0) λx=>o6 (X0 B 0) λb=>l9 (D5 b.1 3) (o6 (X0 B 1) λc=>some (.inr (x,D5 c.1 3))) (some (.inr (x,false)))) (o6 (l9 (D5 A 17) (some (D5 A 17)) (some (D5 A 18))) λx=>l9 x (o6 (X0 B 0) λx=>o6 (X0 B 0) λb=>o6 (X0 B 1) λc=>l9 (oP (D5 b.1 c.1) (D5 b.2 c.2)) (o6 (X0 B 0) λd=>o6 (mP d.1) λf=>l9 f (some (.inr (x,true))) (o6 (X0 B 0) λg=>some (.inr (x,D5 g.1 5)))) (some (.inr (x,false)))) (o6 (l9 (D5 A 19) (some (D5 A 19)) (some (D5 A 20))) λx=>l9 x (o6 (X0 B 0) λx=>o6 (X0 B 1) λb=>some (.inr ((1,0),oP (D5 x.1 b.1) (D5 x.2 b.2)))) (o6 (l9 (D5 A 21) (some (D5 A 21)) (some (D5 A 22))) λx=>l9 x (o6 (X0 B 0) λx=>o6 (X0 B 1) λb=>l9 (oP (D5 x.1 b.1) (D5 x.2 b.2)) (o6 (X0 B 0) λx=>o6 (mP x.1) λx=>l9 x (some (.inr ((1,0),true))) (o6 (X0 B 0) λx=>some (.inr ((1,0),D5 x.1 5)))) (some (.inr ((1,0),false)))) (o6 (l9 (D5 A 23) (some (D5 A 23)) (some (D5 A 24))) λx=>l9 x (o6 (X0 B 0) λx=>l9 (D5 x.1 1) (o6 (X0 B 1) λx=>some (.inr ((1,0),D5 x.1 1))) (some (.inr ((1,0),false)))) (l9 (D5 A 26) (o6 (X0 B 1) λx=>o6 (X0 B 0) λb=>l9 (D5 b.1 1) (o6 (X0 B 1) λc=>o6 (X0 B 2) λd=>some (.inr (x,oP (D5 c.1 d.1) (D5 c.2 d.2)))) (some (.inr (x,false)))) (o6 (l9 (D5 A 27) (some (D5 A 27)) (some (D5 A 28))) λx=>l9 x (o6 (X0 B 0) λx=>o6 (X0 B 0) λb=>l9 (D5 b.1 5) (o6 (X0 B 1) λc=>some (.inr (x,D5 c.1 2))) (some (.inr (x,false)))) (l9 (D5 A 29) (l9 (D5 A 29) (o6 (X0 B 0) λx=>l9 (D5 x.1 5) (o6 (X0 B 1) λx=>some (.inr ((2,0),D5 x.1 5))) (some (.inr ((2,0),false)))) (l9 (D5 A 31) (l9 (D5 A 31) (o6 (X0 B 0) λx=>some (.inr ((2,0),D5 x.1 5))) (some (.inl (0,0)))) (l9 (D5 A 32) (o6 (X0 B 0) λx=>some (.inr ((2,0),D5 x.1 5))) (some (.inl (0,0)))))) (l9 (D5 A 30) (o6 (X0 B 0) λx=>l9 (D5 x.1 5) (o6 (X0 B 1) λx=>some (.inr ((2,0),D5 x.1 5))) (some (.inr ((2,0),false)))) (l9 (D5 A 31) (l9 (D5 A 31) (o6 (X0 B 0) λx=>some (.inr ((2,0),D5 x.1 5))) (some (.inl (0,0)))) (l9 (D5 A 32) (o6 (X0 B 0) λx=>some (.inr ((2,0),D5 x.1 5))) (some (.inl (0,0)))))))))))))))))) λo=>bP o (λ(x:H5)=>some ((0,0),false)) λr=>some r
def b3d:FQ:=⟨[aC,uD y12],⟨[(.cell 4 46,tD y2),(.tmp 5,jh)],[]⟩,mE 222 [(189,b0j),(190,b4w)],sN 2 (jB (jnR [(4,6),(8,221),(4000256,4000257)] ⟨[(4,(false,(.box (dT y2))))],[]⟩ (sN 1 (blA (sN 1 (.cond U1 (sN 1 (.cond U1 (jB (.join [(27,30)] ⟨[(27,jh)],[]⟩ U1) (.cond U1 (jB (.join [(47,51)] ⟨[(47,jh)],[]⟩ U1) (.cond U1 (sN 1 (.cond U1 (jB (.join [(80,83)] ⟨[(80,jh)],[]⟩ U1) (.cond U1 (jB (.join [(107,110)] ⟨[(107,jh)],[]⟩ U1) (.cond U1 (jB (.join [(118,121)] ⟨[(118,jh)],[]⟩ U1) (.cond U1 (jB (.join [(143,146)] ⟨[(143,jh)],[]⟩ U1) (.cond U1 (sN 1 (.cond U1 (jB (.join [(178,181)] ⟨[(178,jh)],[]⟩ U1) U1)))))))))))))))))))))))) U1)⟩
def b4n:FSpec:=iq b3d λx=>nT x.1 x.2
def bn(A:H5)(B:List H5)(C:X5):Option L6:=o6 (l9 (D5 A.1 1) (o6 (kH A.2 1 C) λx=>some (.inr x)) (l9 (D5 A.1 2) (o6 (kH A.2 2 C) λx=>some (.inr x)) (l9 (D5 A.1 3) (o6 (kH A.2 3 C) λx=>some (.inr x)) (l9 (D5 A.1 4) (o6 (kH A.2 4 C) λx=>some (.inr x)) (l9 (D5 A.1 5) (o6 (kH A.2 5 C) λx=>some (.inr x)) (l9 (D5 A.1 6) (o6 (yJ A.2 C) λx=>some (.inr x)) (l9 (D5 A.1 7) (o6 (jZ A.2 C.2.2.1 C) λx=>some (.inr x)) (l9 (D5 A.1 8) (o6 (jZ A.2 C.2.2.2.1 C) λx=>some (.inr x)) (l9 (D5 A.1 9) (some (.inr ((5,0),0))) (o6 (l9 (D5 A.1 33) (some (D5 A.1 33)) (some (D5 A.1 34))) λx=>l9 x (o6 (X0 B 0) λx=>o6 (qZ A x C) λx=>some (.inr x)) (o6 (l9 (D5 A.1 35) (some (D5 A.1 35)) (l9 (D5 A.1 36) (some (D5 A.1 36)) (l9 (D5 A.1 37) (some (D5 A.1 37)) (l9 (D5 A.1 38) (some (D5 A.1 38)) (some (D5 A.1 39)))))) λx=>l9 x (o6 (qc A C) λx=>some (.inr x)) (l9 (D5 A.1 14) (l9 (D5 A.1 14) (o6 (mY A.2) λx=>l9 (H9 x) (some (.inr ((0,0),3))) (some (.inl (0,0)))) (some (.inl (0,0)))) (l9 (D5 A.1 15) (l9 (D5 A.1 15) (o6 (mY A.2) λx=>l9 (H9 x) (some (.inr ((0,0),3))) (some (.inl (0,0)))) (some (.inl (0,0)))) (l9 (D5 A.1 16) (o6 (mY A.2) λx=>l9 (H9 x) (some (.inr ((0,0),3))) (some (.inl (0,0)))) (some (.inl (0,0))))))))))))))))) λo=>bP o (λ(x:H5)=>o6 (nT A.1 B) λx=>l9 (H9 x.2) (some ((0,0),8)) (some (x.1,0))) λr=>some r
def b2O:FQ:=⟨[tD y2,uD y12,tD y50],⟨[(.cell 6 46,tD y2),(.tmp 7,aC)],[]⟩,mE 125 [(162,b4j),(163,b4k),(164,b0g),(165,b4l),(166,b4m),(167,b0h),(168,b4n)],sN 1 (jB (jnR [(6,8),(10,114),(4000384,4000385)] ⟨[(6,(false,(.box (dT y2))))],[]⟩ (sN 1 (blA (sN 1 (.cond U1 (sN 1 (.cond U1 (sN 1 (.cond U1 (sN 1 (.cond U1 (sN 1 (.cond U1 (sN 1 (.cond U1 (sN 1 (.cond U1 (sN 1 (.cond U1 (sN 1 (.cond U1 (jB (.join [(83,86)] ⟨[(83,jh)],[]⟩ U1) (.cond U1 (jB (.join [(94,100)] ⟨[(94,jh)],[]⟩ U1) U1)))))))))))))))))))))))) U1)⟩
def b4d:FSpec:=iq b2O λx=>bn x.1 x.2.1 x.2.2
def Bh(A:List H5)(B:X5):Option (H5×H5):=o6 (uA A) λx=>l9 (H9 (D5 x.2.2 0)) (some ((0,0),x.2)) (o6 (P8 (λ(x:H5×List H5×Int)=>l9 (I8 x.2.2 (x9 A)) (o6 (X0 A x.2.2) λc=>l9 (H9 (D5 c.2 0)) (o6 (cu c.1) λd=>l9 (H9 d) (some (.rt ((0,0),x.2.2,2))) (o6 (kW c.1) λb=>l9 (mJ (ae .i64 (x9 x.2.1) b) (x9 x.2.1) (x9 x.2.1)) (o6 (bn c (kN x.2.1 (jC (ae .i64 (x9 x.2.1) b)) (jC (x9 x.2.1))) B) λf=>l9 (H9 (D5 f.2 0)) (some (.rt ((0,0),x.2.2,f.2))) (l9 (mJ 0 (ae .i64 (x9 x.2.1) b) (x9 x.2.1)) (o6 (jV (kN x.2.1 (jC 0) (jC (ae .i64 (x9 x.2.1) b))) [f.1]) λg=>some (.nx (x.1,g,I5 .i64 x.2.2 1))) none)) none)) (o6 (kW c.1) λd=>l9 (mJ (ae .i64 (x9 x.2.1) d) (x9 x.2.1) (x9 x.2.1)) (o6 (bn c (kN x.2.1 (jC (ae .i64 (x9 x.2.1) d)) (jC (x9 x.2.1))) B) λb=>l9 (H9 (D5 b.2 0)) (some (.rt ((0,0),x.2.2,b.2))) (l9 (mJ 0 (ae .i64 (x9 x.2.1) d) (x9 x.2.1)) (o6 (jV (kN x.2.1 (jC 0) (jC (ae .i64 (x9 x.2.1) d))) [b.1]) λf=>some (.nx (x.1,f,I5 .i64 x.2.2 1))) none)) none)) (some (.ex (x.1,x.2.1)))) ((0,0),[],0)) λo=>bP o (λ(y:H5×List H5)=>o6 (X0 y.2 0) λx=>o6 (qN y.2 (jC 0)) λx=>some (x,0,0)) λr=>some r)
def b2A:FQ:=⟨[uD y12,tD y50],⟨[(.cell 4 46,tD y2),(.tmp 5,aC),(.tmp 6,aC)],[]⟩,mE 75 [(49,s49),(31,s31),(32,s32),(144,b4d)],sN 4 (jB (sN 1 (blA (lpR [(4,7),(10,16),(29,72),(4000256,4000257)] ⟨[(4,(false,(.box (dT y2)))),(10,(uO y2)),(29,aC)],[]⟩ 0 ⟨[(4,(false,(.box (dT y2)))),(10,(uO y2))],[]⟩ U1))) U1)⟩
def b3R:FSpec:=iq b2A λx=>Bh x.1 x.2
def tJ(A:List H5)(B:X5)(C:H5):Option Int:=o6 (Bh A B) λx=>l9 (H9 (D5 x.2.2 0)) (some x.2.2) (l9 (H9 (oP (D5 x.1.1 C.1) (D5 x.1.2 C.2))) (some 8) (some 0))
def b2m:FQ:=⟨[uD y12,tD y50,tD y2],tR 6 aC,mE 23 [(123,b3R)],U1⟩
def b3G:FSpec:=iq b2m λx=>tJ x.1 x.2.1 x.2.2
def yL(A:O0)(B:Int)(C:X5):Option Int:=o6 (X0 A.2.2.2.2 B) λx=>o6 (bQ A.2.2.2.2 0 B) λf=>o6 (lT (λ(b:H5)=>l9 (I8 b.2 (x9 f)) (o6 (X0 f b.2) λc=>l9 (D5 c.2.1 x.2.1) (some (.inl (I5 .i64 b.1 1,I5 .i64 b.2 1))) (some (.inl (b.1,I5 .i64 b.2 1)))) (some (.inr b.1))) (0,0)) λy=>o6 (o6 (cO x.1) λb=>l9 (H9 b) (some (.inr 2)) (o6 (bQ A.2.2.2.2 0 B) λc=>o6 (fU c x) λg=>l9 g (some (.inr 7)) (o6 (l9 (I8 x.2.1 0) (some true) (some (V6 (x9 A.2.2.2.1) x.2.1))) λi=>l9 i (some (.inr 6)) (o6 (l9 (H9 (D5 x.2.2.1 (-1))) (l9 (I8 x.2.2.1 0) (some true) (l9 (V6 B x.2.2.1) (some true) (o6 (X0 A.2.2.2.2 x.2.2.1) λd=>some (H9 (D5 d.2.1 x.2.1))))) (some false)) λd=>l9 d (some (.inr 9)) (o6 (l9 (I8 x.2.2.2.1 0) (some true) (some (I8 9 x.2.2.2.1))) λj=>l9 j (some (.inr 3)) (l9 (I8 x.2.2.2.2.1.1 0) (some (.inr 3)) (l9 (V6 x.2.2.2.2.1.2 x.2.2.2.2.1.1) (some (.inr 3)) (l9 (I8 109573 x.2.2.2.2.1.2) (some (.inr 3)) (l9 (V6 8 y) (some (.inr 4)) (o6 (wz x.2.2.2.2.2.2.2) λk=>l9 (H9 k) (some (.inr 2)) (some (.inl x)))))))))))) λo=>bP o (λ(x:kV)=>l9 (I8 0 (x9 x.2.2.2.2.2.1)) (o6 (tJ x.2.2.2.2.2.1 C (1,0)) λb=>l9 (H9 (D5 b 0)) (some b) (o6 (X0 A.2.2.2.1 x.2.1) λc=>o6 (tJ x.2.2.2.2.2.2.1 C c.2) λx=>some x)) (o6 (X0 A.2.2.2.1 x.2.1) λb=>o6 (tJ x.2.2.2.2.2.2.1 C b.2) λx=>some x)) λr=>some r
def q83:FQ:=⟨[tD y24,aC,tD y50],tR 6 aC,mE 145 [(43,s43),(103,ZN),(102,a4K),(104,b3F),(105,b3G)],sN 3 (jB (sN 1 (blA (.loop [(8,9),(10,11),(22,34)] ⟨[(8,aC),(22,aC)],[]⟩ 0 ⟨[(8,aC)],[]⟩ U1))) (jB (jnR [(6,8),(34,122),(7000448,7000449)] ⟨[(7,(false,(.rp y19)))],[]⟩ (blA (sN 1 (.cond U1 (sN 1 (.cond U1 (jB (.join [(46,58)] ⟨[(46,jh)],[]⟩ U1) (.cond U1 (jB (.join [(58,85)] ⟨[(58,jh)],[]⟩ U1) (.cond U1 (jB (.join [(85,94)] ⟨[(85,jh)],[]⟩ U1) U1))))))))))) U1))⟩
def s83:FSpec:=iq q83 λx=>yL x.1 x.2.1 x.2.2
def b2h:List MG:=[(false,(.ownb (.int .i64)))]
def b0b:FSpec:=⟨b2h,[],[uoM],λx=>zW x⟩
def b2i:List MG:=[uoM]
def b0c:FSpec:=⟨b2i,[uoM],[],λx=>ql x⟩
def tH(A:List Int):Option (List Int):=o6 (zW A) λx=>o6 (ql x) λx=>some x
def b3e:FQ:=⟨[uoM],tR 2 uoM,mE 7 [(146,b0b),(147,b0c)],U1⟩
def b4o:FSpec:=iq b3e λx=>tH x
def sU(A:List H5):Option (List Int×List Int×List Int):=o6 (lT (λ(x:List Int×List Int×List Int×Int)=>l9 (I8 x.2.2.2 (x9 A)) (o6 (X0 A x.2.2.2) λb=>l9 (D5 b.1 7) (o6 (jV x.1 [b.2]) λc=>some (.inl (c,x.2.1,x.2.2.1,I5 .i64 x.2.2.2 1))) (l9 (D5 b.1 8) (o6 (jV x.2.1 [b.2]) λc=>some (.inl (x.1,c,x.2.2.1,I5 .i64 x.2.2.2 1))) (l9 (D5 b.1 36) (l9 (D5 b.1 36) (o6 (jV x.2.2.1 [b.2]) λc=>some (.inl (x.1,x.2.1,c,I5 .i64 x.2.2.2 1))) (some (.inl (x.1,x.2.1,x.2.2.1,I5 .i64 x.2.2.2 1)))) (l9 (D5 b.1 37) (l9 (D5 b.1 37) (o6 (jV x.2.2.1 [b.2]) λc=>some (.inl (x.1,x.2.1,c,I5 .i64 x.2.2.2 1))) (some (.inl (x.1,x.2.1,x.2.2.1,I5 .i64 x.2.2.2 1)))) (l9 (D5 b.1 38) (l9 (D5 b.1 38) (o6 (jV x.2.2.1 [b.2]) λc=>some (.inl (x.1,x.2.1,c,I5 .i64 x.2.2.2 1))) (some (.inl (x.1,x.2.1,x.2.2.1,I5 .i64 x.2.2.2 1)))) (l9 (D5 b.1 39) (o6 (jV x.2.2.1 [b.2]) λc=>some (.inl (x.1,x.2.1,c,I5 .i64 x.2.2.2 1))) (some (.inl (x.1,x.2.1,x.2.2.1,I5 .i64 x.2.2.2 1))))))))) (some (.inr (x.1,x.2.1,x.2.2.1)))) ([],[],[],0)) λy=>o6 (tH y.1) λx=>o6 (tH y.2.1) λb=>o6 (tH y.2.2) λc=>some (x,b,c)
def b2P:FQ:=⟨[uD y12],⟨[(.tmp 2,uoM),(.tmp 3,uoM),(.tmp 4,uoM)],[]⟩,mE 49 [(169,b4o)],sN 2 (jB (sN 1 (blA (.loop [(5,8),(9,10),(12,43)] ⟨[(5,uoM),(6,uoM),(7,uoM),(12,aC)],[]⟩ 0 ⟨[(5,uoM),(6,uoM),(7,uoM)],[]⟩ U1))) U1)⟩
def b4e:FSpec:=iq b2P λx=>sU x
def rX(A:kV)(B:Int):Option (List Int):=o6 (sU A.2.2.2.2.2.1) λx=>o6 (sU A.2.2.2.2.2.2.1) λd=>o6 (lT (λ(b:List Int×Int)=>l9 (I8 b.2 (x9 x.2.1)) (o6 (X0 x.2.1 b.2) λc=>o6 (qN x.2.1 (jC b.2)) λx=>l9 (V6 0 x) (l9 (I8 x B) (o6 (jV b.1 [x]) λx=>some (.inl (x,I5 .i64 b.2 1))) (some (.inl (b.1,I5 .i64 b.2 1)))) (some (.inl (b.1,I5 .i64 b.2 1)))) (some (.inr b.1))) ([],0)) λy=>o6 (lT (λ(x:List Int×Int)=>l9 (I8 x.2 (x9 d.2.1)) (o6 (X0 d.2.1 x.2) λb=>o6 (qN d.2.1 (jC x.2)) λc=>l9 (V6 0 c) (l9 (I8 c B) (o6 (jV x.1 [c]) λf=>some (.inl (f,I5 .i64 x.2 1))) (some (.inl (x.1,I5 .i64 x.2 1)))) (some (.inl (x.1,I5 .i64 x.2 1)))) (some (.inr x.1))) (y,0)) λy=>some y
def b2B:FQ:=⟨[tD y19,aC],tR 4 uoM,mE 67 [(145,b4e)],sN 4 (jB (sN 1 (blA (.loop [(5,6),(13,14),(32,48)] ⟨[(5,uoM),(32,aC)],[]⟩ 0 ⟨[(5,uoM)],[]⟩ U1))) (jB (sN 1 (blA (.loop [(5,6),(15,16),(50,66),(21000000,21000001)] ⟨[(5,uoM),(50,aC)],[]⟩ 2 ⟨[(5,uoM)],[]⟩ U1))) U1))⟩
def b3S:FSpec:=iq b2B λx=>rX x.1 x.2
def Ad(A:List Int):Option (List Int):=o6 (zW A) λx=>o6 (ql x) λx=>some x
def b2C:FQ:=⟨[uoM],tR 2 uoM,mE 7 [(146,b0b),(147,b0c)],U1⟩
def b3T:FSpec:=iq b2C λx=>Ad x
def xf(A:O0):Option (List (List Int)):=o6 (Ja (x9 A.2.2.2.1) []) λx=>o6 (lT (λ(x:List (List Int)×Int)=>l9 (I8 x.2 (x9 A.2.2.2.2)) (o6 (X0 A.2.2.2.2 x.2) λb=>l9 (V6 0 b.2.1) (l9 (I8 b.2.1 (x9 x.1)) (l9 (inb b.2.1 (x9 x.1)) (o6 (qN x.1 (jC b.2.1)) λc=>o6 (rX b (x9 x.1)) λd=>o6 (jV c d) λf=>l9 (inb b.2.1 (x9 x.1)) (l9 (Zm (jC b.2.1) (jC b.2.1)) (o6 (qN x.1 (jC b.2.1)) λg=>some (.inl (wI x.1 (jC b.2.1) f,I5 .i64 x.2 1))) none) none) none) (some (.inl (x.1,I5 .i64 x.2 1)))) (some (.inl (x.1,I5 .i64 x.2 1)))) (some (.inr x.1))) (x,0)) λy=>o6 (lT (λ(x:List (List Int)×Int)=>l9 (I8 x.2 (x9 y)) (l9 (inb x.2 (x9 x.1)) (o6 (qN x.1 (jC x.2)) λb=>o6 (Ad b) λc=>l9 (inb x.2 (x9 x.1)) (l9 (Zm (jC x.2) (jC x.2)) (o6 (qN x.1 (jC x.2)) λd=>some (.inl (wI x.1 (jC x.2) c,I5 .i64 x.2 1))) none) none) none) (some (.inr x.1))) (y,0)) λy=>some y
def b2p:FQ:=⟨[tD y24],tR 2 (uD y58),⟨58,eqs,tt,gl,[(124,b3S),(125,b3T)],[(193,oiM)],[7,36,50,53],[],[],[]⟩,sN 2 (jB (sN 1 (blA (.loop [(3,4),(5,6),(15,44),(7000704,7000705)] ⟨[(3,(false,(.owns oiM))),(15,aC)],[]⟩ 0 ⟨[(3,(false,(.owns oiM)))],[]⟩ U1))) (jB (sN 1 (blA (.loop [(3,4),(6,8),(44,45),(46,57),(15000000,15000001)] ⟨[(3,(false,(.owns oiM))),(46,aC)],[(44,3)]⟩ 2 ⟨[(3,(false,(.owns oiM)))],[]⟩ U1))) U1))⟩
def b3J:FSpec:=iq b2p λx=>xf x
def zu(A:List (List Int))(B:Int):Option (List Int):=o6 (Ja (x9 A) false) λx=>o6 (lT (λ(x:List Bool×List Int)=>l9 (I8 0 (x9 x.2)) (o6 (X0 x.2 0) λf=>o6 (qN x.2 (jC 0)) λd=>l9 (mJ 1 (x9 x.2) (x9 x.2)) (o6 (X0 A d) λc=>o6 (lT (λ(x:List Bool×List Int×Int)=>l9 (I8 x.2.2 (x9 c)) (o6 (X0 c x.2.2) λb=>o6 (X0 x.1 b) λj=>o6 (qN x.1 (jC b)) λg=>l9 (H9 g) (o6 (X0 x.1 b) λk=>o6 (qN x.1 (jC b)) λn=>o6 (jV x.2.1 [b]) λi=>some (.inl (wI x.1 (jC b) true,i,I5 .i64 x.2.2 1))) (some (.inl (x.1,x.2.1,I5 .i64 x.2.2 1)))) (some (.inr (x.1,x.2.1)))) (x.1,kN x.2 (jC 1) (jC (x9 x.2)),0)) λy=>some (.inl y)) none) (some (.inr x.1))) (x,[B])) λy=>o6 (lT (λ(x:List Int×Int)=>l9 (I8 x.2 (x9 y)) (o6 (X0 y x.2) λf=>o6 (qN y (jC x.2)) λd=>l9 d (o6 (jV x.1 [x.2]) λc=>some (.inl (c,I5 .i64 x.2 1))) (some (.inl (x.1,I5 .i64 x.2 1)))) (some (.inr x.1))) ([],0)) λy=>some y
def b2o:FQ:=⟨[uD y58,aC],tR 4 uoM,mE 62 [],sN 3 (jB (blA (.loop [(5,8),(9,10),(18,48),(7000960,7000961),(10001088,10001089)] ⟨[(5,(uO .bool)),(6,uoM)],[]⟩ 0 ⟨[(5,(uO .bool))],[]⟩ (sN 1 (blA (sN 3 (blA (.loop [(5,7),(9,10),(31,48),(14000000,14000002)] ⟨[(5,(uO .bool)),(6,uoM),(31,aC)],[]⟩ 2 ⟨[(5,(uO .bool)),(6,uoM)],[]⟩ U1))))))) (sN 1 (jB (sN 1 (blA (.loop [(10,13),(50,61)] ⟨[(10,uoM),(50,aC)],[]⟩ 4 ⟨[(10,uoM)],[]⟩ U1))) U1)))⟩
def b3I:FSpec:=iq b2o λx=>zu x.1 x.2
def vY(A:O0)(B:Int):Option (List Int):=l9 (I8 B 0) (some []) (l9 (V6 (x9 A.2.2.2.1) B) (some []) (o6 (xf A) λx=>o6 (zu x B) λx=>some x))
def q85:FQ:=⟨[tD y24,aC],tR 4 uoM,mE 18 [(108,b3J),(107,b3I)],U1⟩
def s85:FSpec:=iq q85 λx=>vY x.1 x.2
def uT(A:List Int)(B:Int):Option Int:=o6 (P8 (λ(x:Int)=>l9 (I8 x (x9 A)) (o6 (X0 A x) λb=>l9 (D5 B b) (some (.rt x)) (some (.nx (I5 .i64 x 1)))) (some (.ex ()))) 0) λo=>bP o (λy=>some (-1)) λr=>some r
def b2n:FQ:=⟨[uD y29,aC],tR 4 aC,mE 19 [],sN 1 (jB (sN 1 (blA (lpR [(4,6),(8,19)] ⟨[(8,aC)],[]⟩ 0 sgN U1))) U1)⟩
def b3H:FSpec:=iq b2n λx=>uT x.1 x.2
def nN(A:List Int)(B:Int):Option Bool:=o6 (uT A B) λx=>some (V6 0 x)
def q84:FQ:=⟨[uD y29,aC],tR 4 jh,mE 9 [(106,b3H)],U1⟩
def s84:FSpec:=iq q84 λx=>nN x.1 x.2
def xy(A:gV)(B:Int):Option H5:=o6 (X0 A.2.2 B) λx=>o6 (bQ A.2.2 0 B) λf=>o6 (o6 (wP A.1 x.1) λd=>l9 d (some (x,true)) (o6 (xA A.2.1 x.1) λb=>l9 b (some (x,true)) (o6 (eP f x) λc=>some (x,c)))) λx=>o6 (o6 (cO x.1.1) λd=>l9 (H9 d) (some (.inr (2,0))) (l9 x.2 (some (.inr (7,0))) (o6 (l9 (H9 (D5 x.1.2.1 (-1))) (l9 (I8 x.1.2.1 0) (some true) (l9 (V6 B x.1.2.1) (some true) (o6 (X0 f x.1.2.1) λx=>some (H9 (D5 x.2.1 (-1)))))) (some false)) λb=>l9 b (some (.inr (6,0))) (l9 (I8 12 (x9 x.1.2.2.1)) (some (.inr (4,112))) (l9 (I8 12 (x9 x.1.2.2.2.1)) (some (.inr (4,212))) (some (.inl ()))))))) λo=>bP o (λd=>o6 (P8 (λ(b:Int)=>l9 (I8 b (x9 x.1.2.2.1)) (o6 (X0 x.1.2.2.1 b) λc=>o6 (bQ x.1.2.2.1 0 b) λx=>o6 (uI A c x []) λx=>l9 (H9 (D5 x 0)) (some (.rt (x,I5 .i64 100 b))) (some (.nx (I5 .i64 b 1)))) (some (.ex ()))) 0) λo=>bP o (λy=>o6 (P8 (λ(b:Int)=>l9 (I8 b (x9 x.1.2.2.2.1)) (o6 (X0 x.1.2.2.2.1 b) λc=>o6 (bQ x.1.2.2.2.1 0 b) λg=>o6 (uI A c x.1.2.2.1 g) λx=>l9 (H9 (D5 x 0)) (some (.rt (x,I5 .i64 200 b))) (some (.nx (I5 .i64 b 1)))) (some (.ex ()))) 0) λo=>bP o (λy=>o6 (qV A B) λb=>o6 (P8 (λ(c:Int)=>l9 (I8 c (x9 x.1.2.2.2.2)) (o6 (yL x.1 c b) λx=>l9 (H9 (D5 x 0)) (some (.rt (x,I5 .i64 300 c))) (some (.nx (I5 .i64 c 1)))) (some (.ex ()))) 0) λo=>bP o (λy=>o6 (P8 (λ(c:Int)=>l9 (I8 c (x9 x.1.2.2.2.1)) (o6 (vY x.1 c) λx=>o6 (nN x c) λx=>l9 x (some (.rt (9,I5 .i64 200 c))) (some (.nx (I5 .i64 c 1)))) (some (.ex ()))) 0) λo=>bP o (λy=>some (0,0)) λr=>some r) λr=>some r) λr=>some r) λr=>some r) λr=>some r
def q46:FQ:=⟨[tD y27,aC],⟨[(.tmp 4,aC),(.tmp 5,aC)],[]⟩,mE 163 [(44,s44),(45,s45),(80,a4R),(79,a8K),(43,s43),(81,s81),(82,s82),(83,s83),(85,s85),(84,s84)],sN 3 (jB (.join [(6,7),(8,9),(28,45),(7000384,7000385)] ⟨[(6,(false,(.rp y24))),(8,jh)],[]⟩ U1) (jB (jnR [(4,6),(45,86)] sgN (blA (sN 1 (.cond U1 (sN 1 (.cond U1 (jB (.join [(52,76)] ⟨[(52,jh)],[]⟩ U1) U1))))))) (jB (sN 1 (blA (lpR [(4,6),(9,12),(89,107)] ⟨[(89,aC)],[]⟩ 1 sgN U1))) (jB (sN 1 (blA (lpR [(4,6),(12,15),(110,130)] ⟨[(110,aC)],[]⟩ 3 sgN U1))) (sN 1 (jB (sN 1 (blA (lpR [(4,6),(16,18),(136,149)] ⟨[(136,aC)],[]⟩ 5 sgN U1))) (jB (sN 1 (blA (lpR [(4,6),(18,19),(152,163)] ⟨[(152,aC)],[]⟩ 7 sgN U1))) U1)))))))⟩
def s46:FSpec:=iq q46 λx=>xy x.1 x.2
def wu(A:gV):Option tC:=l9 (I8 4 (x9 A.2.2)) (some (4,3,4,0)) (o6 (P8 (λ(x:tC×Int)=>l9 (I8 x.2 (x9 A.2.2)) (o6 (xy A x.2) λb=>l9 (H9 (D5 b.1 0)) (some (.rt (b.1,3,x.2,b.2))) (some (.nx (x.1,I5 .i64 x.2 1)))) (some (.ex x.1))) ((0,0,0,0),0)) λo=>bP o (λ(y:tC)=>some (0,0,0,0)) λr=>some r)
def q26:FQ:=⟨[tD y27],cR 2 64 (tD y35),mE 31 [(46,s46)],sN 2 (jB (sN 1 (blA (lpR [(2,6),(14,30),(4000128,4000129)] ⟨[(2,(false,(.box (dT y35)))),(14,aC)],[]⟩ 0 ⟨[(2,(false,(.box (dT y35))))],[]⟩ U1))) U1)⟩
def s26:FSpec:=iq q26 λx=>wu x
def xw(A:gV):Option tC:=o6 (xx A) λx=>l9 (H9 (D5 x.1 0)) (some x) (o6 (ww A) λx=>l9 (H9 (D5 x.1 0)) (some x) (o6 (wu A) λx=>some x))
def q12:FQ:=⟨[tD y27],cR 2 64 (tD y35),mE 19 [(24,s24),(25,s25),(26,s26)],U1⟩
def s12:FSpec:=iq q12 λx=>xw x
def b5V:List MG:=[(false,(.sbx 69 5)),(false,(.dat .str))]
def s13:FSpec:=⟨b5V,[aC,(false,(.cell none))],[(false,(.sbx 69 5))],λx=>lV x.1 x.2⟩
def b5Y:List MG:=[(false,(.dat (.sl .str)))]
def s48:FSpec:=⟨b5Y,[(false,(.own .str))],[],λx=>zJ x⟩
def uJ(A:List dU):Option (List dU):=o6 (lT (λ(x:List dU×Int)=>l9 (I8 x.2 (x9 A)) (o6 (X0 A x.2) λb=>o6 (zJ b.2) λc=>o6 (jV x.1 [(b.1,c)]) λd=>some (.inl (d,I5 .i64 x.2 1))) (some (.inr x.1))) ([],0)) λy=>some y
def q28:FQ:=⟨[uD y1],tR 2 (uO y0),mE 23 [(48,s48)],sN 2 (jB (sN 1 (blA (.loop [(3,4),(5,6),(8,22)] ⟨[(3,(uO y0)),(8,aC)],[]⟩ 0 ⟨[(3,(uO y0))],[]⟩ U1))) U1)⟩
def s28:FSpec:=iq q28 λx=>uJ x
def rq(A:List jq):Option (List (List UInt8)):=o6 (lT (λ(x:List (List UInt8)×Int)=>l9 (I8 x.2 (x9 A)) (o6 (X0 A x.2) λb=>o6 (jV x.1 [b.1]) λc=>some (.inl (c,I5 .i64 x.2 1))) (some (.inr x.1))) ([],0)) λy=>some y
def q29:FQ:=⟨[uD y11],tR 2 (uO .str),mE 19 [],sN 2 (jB (sN 1 (blA (.loop [(3,4),(5,6),(8,18)] ⟨[(3,(uO .str)),(8,aC)],[]⟩ 0 ⟨[(3,(uO .str))],[]⟩ U1))) U1)⟩
def s29:FSpec:=iq q29 λx=>rq x
def qg(A:gV)(B:Int):Option D7:=o6 (l9 (I8 B 0) (some (.inr ([],[],[],[],[]))) (l9 (V6 (x9 A.2.2) B) (some (.inr ([],[],[],[],[]))) (some (.inl ([],[],[],[],[]))))) λo=>bP o (λ(x:D7)=>o6 (X0 A.2.2 B) λx=>o6 (uJ A.1) λb=>o6 (rq x.2.2.1) λc=>o6 (rq x.2.2.2.1) λd=>o6 (lT (λ(x:D7×Int)=>l9 (I8 x.2 (x9 A.2.1)) (o6 (X0 A.2.1 x.2) λf=>o6 (jV x.1.2.1 [f.1]) λg=>some (.inl ((x.1.1,g,x.1.2.2),I5 .i64 x.2 1))) (some (.inr x.1))) ((b,[],c,d,[]),0)) λy=>l9 (V6 0 x.2.1) (l9 (I8 x.2.1 (x9 A.2.2)) (o6 (X0 A.2.2 x.2.1) λx=>o6 (rq x.2.2.2.1) λx=>some (y.1,y.2.1,y.2.2.1,y.2.2.2.1,x)) (some y)) (some y)) λr=>some r
def q14:FQ:=⟨[tD y27,aC],cR 4 77 (tD kR),mE 70 [(28,s28),(29,s29)],sN 1 (jB (jnR [(4,5),(9,19),(4000256,4000257)] ⟨[(4,(false,(.box (dT kR))))],[]⟩ U1) (sN 2 (jB (sN 1 (blA (.loop [(6,7),(8,9),(37,49),(20000384,20000385),(20001664,20001665),(20001856,20001857),(20002048,20002049)] ⟨[(6,(false,(.box (pA (oW y0) (pA (oW .str) (pA (oW .str) (pA (oW .str) (dT (.sl .str))))))))),(37,aC)],[]⟩ 0 ⟨[(6,(false,(.box (pA (oW y0) (pA (oW .str) (pA (oW .str) (pA (oW .str) (dT (.sl .str)))))))))],[]⟩ U1))) U1)))⟩
def s14:FSpec:=iq q14 λx=>qg x.1 x.2
def rQ(A:List H5):Option (List Int×Int):=o6 (uA A) λx=>some (x.1,x.2.2)
def q30:FQ:=⟨[uD y12],⟨[(.tmp 2,uoM),(.tmp 3,aC)],[]⟩,mE 15 [(49,s49)],U1⟩
def s30:FSpec:=iq q30 λx=>rQ x
def qH(A:Int)(B:H5)(C:List dU):Option Bool:=o6 (lC B C) λx=>l9 (V6 x.1 A) (some (V6 A x.2)) (some false)
def b2q:FQ:=⟨[aC,tD y2,uD y1],tR 6 jh,mE 23 [(67,s67)],U1⟩
def b3K:FSpec:=iq b2q λx=>qH x.1 x.2.1 x.2.2
def b2e:List MG:=[aC]
def b3U:FSpec:=⟨b2e,[(false,(.dat .str))],[],λx=>Cj x⟩
def nK(A:Int):Option (List UInt8):=o6 (Cj A) λx=>some x
def b2r:FQ:=⟨[aC],tR 2 (uD .str),mE 5 [(126,b3U)],U1⟩
def a7s:FSpec:=iq b2r λx=>nK x
def iG(A:Int):Option Int:=some (zi 0 (zk A 9))
def b2D:FQ:=⟨[aC],tR 2 aC,mE 6 [],U1⟩
def a9Y:FSpec:=iq b2D λx=>iG x
def b2f:List MG:=[(false,(.dat .str)),aC]
def a9Z:FSpec:=⟨b2f,[(false,(.dat .str))],[],λx=>rU x.1 x.2⟩
def dA(A:Int)(B:Int):Option (List UInt8):=o6 (iG B) λx=>o6 (nK A) λc=>l9 (D5 x 0) (some c) (l9 (I8 A 0) (o6 (bQ c 1 (x9 c)) λb=>l9 (V6 (x9 b) x) (o6 (rU [48] (ae .i64 (I5 .i64 x 1) (x9 b))) λd=>o6 (Z7 d b) λf=>o6 (bQ f 0 (ae .i64 (x9 f) x)) λg=>o6 (Z7 [45] g) λi=>o6 (Z7 i [46]) λj=>o6 (bQ f (ae .i64 (x9 f) x) (x9 f)) λx=>o6 (Z7 j x) λx=>some x) (o6 (bQ b 0 (ae .i64 (x9 b) x)) λd=>o6 (Z7 [45] d) λf=>o6 (Z7 f [46]) λg=>o6 (bQ b (ae .i64 (x9 b) x) (x9 b)) λx=>o6 (Z7 g x) λx=>some x)) (l9 (V6 (x9 c) x) (o6 (rU [48] (ae .i64 (I5 .i64 x 1) (x9 c))) λb=>o6 (Z7 b c) λd=>o6 (bQ d 0 (ae .i64 (x9 d) x)) λf=>o6 (Z7 [] f) λg=>o6 (Z7 g [46]) λi=>o6 (bQ d (ae .i64 (x9 d) x) (x9 d)) λx=>o6 (Z7 i x) λx=>some x) (o6 (bQ c 0 (ae .i64 (x9 c) x)) λb=>o6 (Z7 [] b) λd=>o6 (Z7 d [46]) λf=>o6 (bQ c (ae .i64 (x9 c) x) (x9 c)) λx=>o6 (Z7 f x) λx=>some x)))
def b2s:FQ:=⟨[aC,aC],tR 4 (uD .str),mE 45 [(127,a9Y),(110,a7s),(128,a9Z)],U1⟩
def b3L:FSpec:=iq b2s λx=>dA x.1 x.2
def Ac(A:Int):Option Bool:=l9 (V6 0 A) (some (V6 A 109572)) (some false)
def b2E:FQ:=⟨[aC],tR 2 jh,mE 9 [],U1⟩
def b0a:FSpec:=iq b2E λx=>Ac x
def uy(A:Int):Option Int:=some (I5 .i64 (ae .i64 (dX .i64 A 4) (dX .i64 A 100)) (dX .i64 A 400))
def b3f:FQ:=⟨[aC],tR 2 aC,mE 11 [],U1⟩
def b4p:FSpec:=iq b3f λx=>uy x
def pg(A:Int):Option Int:=o6 (uy (ae .i64 A 1)) λx=>o6 (uy 1899) λb=>some (ae .i64 (I5 .i64 (JK .i64 (ae .i64 A 1900) 365) x) b)
def b2Q:FQ:=⟨[aC],tR 2 aC,mE 12 [(176,b4p)],U1⟩
def b0d:FSpec:=iq b2Q λx=>pg x
def Be(A:Int):Option Bool:=l9 (D5 (iY A 4) 0) (l9 (H9 (D5 (iY A 100) 0)) (some true) (some (D5 (iY A 400) 0))) (some false)
def b3g:FQ:=⟨[aC],tR 2 jh,mE 16 [],U1⟩
def b4q:FSpec:=iq b3g λx=>Be x
def kF(A:Int)(B:Int):Option Int:=l9 (I8 B 1) (some 0) (l9 (I8 12 B) (some 0) (l9 (D5 B 2) (o6 (Be A) λx=>l9 x (some 29) (o6 (X0 [31,28,31,30,31,30,31,31,30,31,30,31] (ae .i64 B 1)) λx=>some x)) (o6 (X0 [31,28,31,30,31,30,31,31,30,31,30,31] (ae .i64 B 1)) λx=>some x)))
def b2R:FQ:=⟨[aC,aC],tR 4 aC,mE 21 [(177,b4q)],U1⟩
def b0e:FSpec:=iq b2R λx=>kF x.1 x.2
def Dn(A:Int):Option BP:=o6 (Ac A) λx=>l9 (H9 x) (some (0,0,0)) (o6 (lT (λ(x:Int)=>o6 (pg (I5 .i64 x 1)) λb=>l9 (V6 b A) (some (.inl (I5 .i64 x 1))) (some (.inr x))) (I5 .i64 1900 (dX .i64 A 366))) λy=>o6 (pg y) λx=>o6 (P8 (λ(x:H5)=>l9 (I8 x.2 12) (o6 (kF y (I5 .i64 x.2 1)) λb=>l9 (I8 x.1 b) (some (.rt (y,I5 .i64 x.2 1,I5 .i64 x.1 1))) (some (.nx (ae .i64 x.1 b,I5 .i64 x.2 1)))) (some (.ex ()))) (ae .i64 A x,0)) λo=>bP o (λy=>some (0,0,0)) λr=>some r)
def b2F:FQ:=⟨[aC],⟨[(.tmp 2,aC),(.tmp 3,aC),(.tmp 4,aC)],[]⟩,mE 45 [(129,b0a),(151,b0d),(152,b0e)],sN 3 (jB (blA (.loop [(5,6),(15,22)] ⟨[(5,aC)],[]⟩ 0 ⟨[(5,aC)],[]⟩ U1)) (sN 1 (jB (sN 1 (blA (lpR [(2,5),(6,9),(26,45)] ⟨[(6,aC),(26,aC)],[]⟩ 2 sgN U1))) U1)))⟩
def b3V:FSpec:=iq b2F λx=>Dn x
def Aa(A:Int)(B:Int):Option (List UInt8):=o6 (nK A) λx=>o6 (rU [48] (zi 0 (ae .i64 B (x9 x)))) λb=>o6 (Z7 b x) λx=>some x
def b2G:FQ:=⟨[aC,aC],tR 4 (uD .str),mE 16 [(110,a7s),(128,a9Z)],U1⟩
def b3W:FSpec:=iq b2G λx=>Aa x.1 x.2
def Bd(A:Int):Option (List UInt8):=o6 (Ac A) λx=>l9 (H9 x) (some []) (o6 (Dn A) λx=>o6 (Aa x.1 4) λb=>o6 (Z7 b [45]) λc=>o6 (Aa x.2.1 2) λd=>o6 (Z7 c d) λf=>o6 (Z7 f [45]) λg=>o6 (Aa x.2.2 2) λx=>o6 (Z7 g x) λx=>some x)
def b2t:FQ:=⟨[aC],tR 2 (uD .str),mE 25 [(129,b0a),(130,b3V),(131,b3W)],U1⟩
def b3M:FSpec:=iq b2t λx=>Bd x
def lD(A:BP)(B:List dU):Option (List UInt8×Int):=o6 (bM (A.1,A.2.1) B) λx=>l9 (H9 x) (some ([],8)) (o6 (qH A.2.2 (A.1,A.2.1) B) λx=>l9 (H9 x) (some ([],3)) (l9 (D5 A.1 1) (l9 (D5 A.2.2 0) (some ([102,97,108,115,101],0)) (some ([116,114,117,101],0))) (l9 (D5 A.1 2) (o6 (nK A.2.2) λx=>some (x,0)) (l9 (D5 A.1 3) (o6 (dA A.2.2 2) λx=>some (x,0)) (l9 (D5 A.1 4) (o6 (dA A.2.2 4) λx=>o6 (Z7 x [37]) λx=>some (x,0)) (l9 (D5 A.1 5) (o6 (Bd A.2.2) λx=>some (x,0)) (o6 (X0 B A.2.1) λx=>o6 (X0 x.2 A.2.2) λx=>some (x,0))))))))
def q86:FQ:=⟨[tD y3,uD y1],⟨[(.tmp 4,(uD .str)),(.tmp 5,aC)],[]⟩,mE 60 [(66,s66),(109,b3K),(110,a7s),(111,b3L),(112,b3M)],U1⟩
def s86:FSpec:=iq q86 λx=>lD x.1 x.2
def aJ(A:List UInt8):Option H8:=some (A,7,false)
def q53:FQ:=⟨[uD .str],cR 2 103 (tD y44),mE 5 [],U1⟩
def s53:FSpec:=iq q53 λx=>aJ x
def oC(A:H5):Option (H8×Int):=o6 (lD (A.1,0,A.2) []) λx=>l9 (H9 (D5 x.2 0)) (some (([],0,false),3)) (o6 (aJ x.1) λx=>l9 (D5 A.1 2) (l9 (I8 A.2 0) (some ((x.1,6,true),0)) (some ((x.1,x.2.1,true),0))) (l9 (D5 A.1 3) (l9 (I8 A.2 0) (some ((x.1,6,true),0)) (some ((x.1,x.2.1,true),0))) (l9 (D5 A.1 4) (l9 (I8 A.2 0) (some ((x.1,6,D5 A.1 4),0)) (some ((x.1,x.2.1,D5 A.1 4),0))) (some ((x.1,x.2.1,D5 A.1 4),0)))))
def q50:FQ:=⟨[tD y2],⟨[(.cell 2 103,tD y44),(.tmp 3,aC)],[]⟩,mE 44 [(86,s86),(53,s53)],U1⟩
def s50:FSpec:=iq q50 λx=>oC x
def gK(A:Int):Option (List UInt8):=l9 (D5 A 14) (some [115,104,97,114,101]) (l9 (D5 A 15) (some [100,105,118]) (l9 (D5 A 16) (some [114,111,117,110,100]) (l9 (D5 A 17) (some [109,105,110]) (l9 (D5 A 18) (some [109,97,120]) (l9 (D5 A 27) (some [112,108,117,115]) (l9 (D5 A 28) (some [109,111,110,116,104,115]) (l9 (D5 A 29) (some [100,97,121,115]) (l9 (D5 A 30) (some [121,101,97,114,115]) (l9 (D5 A 31) (some [121,101,97,114]) (l9 (D5 A 32) (some [109,111,110,116,104]) (l9 (D5 A 33) (some [116,97,98]) (l9 (D5 A 34) (some [98,97,110,100]) (l9 (D5 A 35) (some [99,111,117,110,116]) (l9 (D5 A 36) (some [115,117,109]) (l9 (D5 A 37) (some [97,108,108]) (l9 (D5 A 38) (some [97,110,121]) (l9 (D5 A 39) (some [109,111,115,116]) (some []))))))))))))))))))
def q54:FQ:=⟨[aC],tR 2 (uD .str),mE 40 [],U1⟩
def s54:FSpec:=iq q54 λx=>gK x
def dZ(A:H5)(B:D7):Option (H8×Int):=o6 (l9 (D5 A.1 6) (l9 (I8 A.2 0) (some (.inr (([],0,false),6))) (l9 (V6 (x9 B.1) (dX .i64 A.2 16)) (some (.inr (([],0,false),6))) (o6 (X0 B.1 (dX .i64 A.2 16)) λx=>o6 (Z7 x.1 [58]) λb=>some (.inl (([],0,false),x.2,iY A.2 16,b,[]))))) (l9 (D5 A.1 7) (some (.inl (([],0,false),B.2.2.1,A.2,[],[]))) (l9 (D5 A.1 8) (some (.inl (([],0,false),B.2.2.2.1,A.2,[],[]))) (o6 (gK A.1) λx=>o6 (Z7 x [40]) λx=>some (.inl (([],0,false),B.2.2.2.2,A.2,x,[41])))))) λo=>bP o (λ(x:H8×List (List UInt8)×Int×List UInt8×List UInt8)=>l9 (I8 x.2.2.1 0) (some (([],0,false),6)) (l9 (V6 (x9 x.2.1) x.2.2.1) (some (([],0,false),6)) (o6 (X0 x.2.1 x.2.2.1) λb=>o6 (Z7 x.2.2.2.1 b) λc=>o6 (Z7 c x.2.2.2.2) λx=>o6 (aJ x) λx=>some (x,0)))) λr=>some r
def q51:FQ:=⟨[tD y2,tD kR],⟨[(.cell 4 103,tD y44),(.tmp 5,aC)],[]⟩,mE 77 [(54,s54),(53,s53)],sN 2 (jB (jnR [(4,11),(15,59),(4000256,4000257)] ⟨[(4,(false,(.box (dT y44)))),(6,(uD (.sl .str))),(7,aC),(8,(uD .str)),(9,(uD .str))],[]⟩ U1) U1)⟩
def s51:FSpec:=iq q51 λx=>dZ x.1 x.2
def dJ(A:Int):Option (List UInt8):=l9 (D5 A 0) (some [100,111,119,110]) (l9 (D5 A 1) (some [117,112]) (l9 (D5 A 2) (some [122,101,114,111]) (l9 (D5 A 3) (some [97,119,97,121]) (l9 (D5 A 4) (some [104,97,108,102]) (l9 (D5 A 5) (some [101,118,101,110]) (some []))))))
def q55:FQ:=⟨[aC],tR 2 (uD .str),mE 16 [],U1⟩
def s55:FSpec:=iq q55 λx=>dJ x
def gW(A:H5)(B:H8)(C:D7):Option (H8×Int):=o6 (l9 (D5 A.1 34) (l9 (I8 0 A.2) (some (dX .i64 A.2 8)) (some A.2)) (some A.2)) λx=>o6 (l9 (I8 x 0) (some (.inr (([],0,false),6))) (l9 (V6 (x9 C.2.1) x) (some (.inr (([],0,false),6))) (some (.inl ([],0,false))))) λo=>bP o (λ(g:H8)=>o6 (gK A.1) λc=>o6 (Z7 c [40]) λd=>o6 (X0 C.2.1 x) λx=>o6 (Z7 d x) λx=>o6 (Z7 x [44,32]) λx=>o6 (Z7 x B.1) λx=>l9 (D5 A.1 34) (o6 (dJ (iY A.2 8)) λb=>l9 (seq b []) (some (([],0,false),3)) (o6 (Z7 [44,32] b) λf=>o6 (Z7 x f) λx=>o6 (Z7 x [41]) λx=>o6 (aJ x) λx=>some (x,0))) (o6 (Z7 x [41]) λx=>o6 (aJ x) λx=>some (x,0))) λr=>some r
def q52:FQ:=⟨[tD y2,tD y44,tD kR],⟨[(.cell 6 103,tD y44),(.tmp 7,aC)],[]⟩,mE 63 [(54,s54),(55,s55),(53,s53)],sN 2 (jB (.join [(8,9),(13,22)] ⟨[(8,aC)],[]⟩ U1) (jB (jnR [(6,8),(22,32),(4000384,4000385)] ⟨[(6,(false,(.box (dT y44))))],[]⟩ U1) U1))⟩
def s52:FSpec:=iq q52 λx=>gW x.1 x.2.1 x.2.2
def eX(A:H8)(B:Int):Option (List UInt8):=l9 (I8 A.2.1 B) (o6 (Z7 [40] A.1) λx=>o6 (Z7 x [41]) λx=>some x) (some A.1)
def q56:FQ:=⟨[tD y44,aC],tR 4 (uD .str),mE 15 [],U1⟩
def s56:FSpec:=iq q56 λx=>eX x.1 x.2
def gm(A:Int):Option (List UInt8×Int):=l9 (D5 A 24) (some ([111,114],1)) (l9 (D5 A 23) (some ([97,110,100],2)) (l9 (D5 A 19) (some ([61,61],3)) (l9 (D5 A 20) (some ([33,61],3)) (l9 (D5 A 21) (some ([60],3)) (l9 (D5 A 22) (some ([60,61],3)) (l9 (D5 A 11) (some ([43],4)) (l9 (D5 A 12) (some ([45],4)) (l9 (D5 A 13) (some ([42],5)) (some ([],0))))))))))
def q57:FQ:=⟨[aC],⟨[(.tmp 2,(uD .str)),(.tmp 3,aC)],[]⟩,mE 23 [],U1⟩
def s57:FSpec:=iq q57 λx=>gm x
def W9(A:H5)(B:List H8)(C:D7):Option (H8×Int):=o6 (o6 (l9 (D5 A.1 1) (some (D5 A.1 1)) (l9 (D5 A.1 2) (some (D5 A.1 2)) (l9 (D5 A.1 3) (some (D5 A.1 3)) (l9 (D5 A.1 4) (some (D5 A.1 4)) (some (D5 A.1 5)))))) λx=>l9 x (o6 (oC A) λx=>some (.inr x)) (o6 (l9 (D5 A.1 6) (some (D5 A.1 6)) (l9 (D5 A.1 7) (some (D5 A.1 7)) (l9 (D5 A.1 8) (some (D5 A.1 8)) (l9 (D5 A.1 36) (some (D5 A.1 36)) (l9 (D5 A.1 37) (some (D5 A.1 37)) (l9 (D5 A.1 38) (some (D5 A.1 38)) (some (D5 A.1 39)))))))) λx=>l9 x (o6 (dZ A C) λx=>some (.inr x)) (o6 (l9 (D5 A.1 33) (some (D5 A.1 33)) (some (D5 A.1 34))) λx=>l9 x (o6 (X0 B 0) λx=>o6 (gW A x C) λx=>some (.inr x)) (l9 (D5 A.1 9) (o6 (aJ [116,111,100,97,121]) λx=>some (.inr (x,0))) (l9 (D5 A.1 35) (o6 (aJ [99,111,117,110,116,40,41]) λx=>some (.inr (x,0))) (o6 (l9 (D5 A.1 31) (some (D5 A.1 31)) (some (D5 A.1 32))) λx=>l9 x (o6 (gK A.1) λx=>o6 (Z7 x [40]) λx=>o6 (X0 B 0) λb=>o6 (Z7 x b.1) λx=>o6 (Z7 x [41]) λx=>o6 (aJ x) λx=>some (.inr (x,0))) (o6 (l9 (D5 A.1 17) (some (D5 A.1 17)) (l9 (D5 A.1 18) (some (D5 A.1 18)) (l9 (D5 A.1 27) (some (D5 A.1 27)) (l9 (D5 A.1 28) (some (D5 A.1 28)) (l9 (D5 A.1 29) (some (D5 A.1 29)) (some (D5 A.1 30))))))) λx=>l9 x (o6 (gK A.1) λx=>o6 (Z7 x [40]) λx=>o6 (X0 B 0) λb=>o6 (Z7 x b.1) λx=>o6 (Z7 x [44,32]) λx=>o6 (X0 B 1) λc=>o6 (Z7 x c.1) λx=>o6 (Z7 x [41]) λx=>o6 (aJ x) λx=>some (.inr (x,0))) (o6 (l9 (D5 A.1 14) (some (D5 A.1 14)) (l9 (D5 A.1 15) (some (D5 A.1 15)) (some (D5 A.1 16)))) λx=>l9 x (o6 (dJ A.2) λx=>l9 (seq x []) (some (.inr (([],0,false),3))) (o6 (gK A.1) λb=>o6 (Z7 b [40]) λc=>o6 (X0 B 0) λd=>o6 (Z7 c d.1) λf=>o6 (Z7 f [44,32]) λg=>o6 (X0 B 1) λi=>o6 (Z7 g i.1) λj=>o6 (Z7 j [44,32]) λk=>o6 (Z7 k x) λx=>o6 (Z7 x [41]) λx=>o6 (aJ x) λx=>some (.inr (x,0)))) (l9 (D5 A.1 26) (o6 (X0 B 0) λx=>o6 (Z7 [105,102,32] x.1) λx=>o6 (Z7 x [32,116,104,101,110,32]) λx=>o6 (X0 B 1) λb=>o6 (Z7 x b.1) λx=>o6 (Z7 x [32,101,108,115,101,32]) λx=>o6 (X0 B 2) λc=>o6 (Z7 x c.1) λx=>some (.inr ((x,0,false),0))) (l9 (D5 A.1 25) (o6 (X0 B 0) λx=>o6 (eX x 6) λx=>o6 (Z7 [110,111,116,32] x) λx=>some (.inr ((x,6,false),0))) (l9 (D5 A.1 10) (o6 (X0 B 0) λx=>o6 (eX x 6) λx=>o6 (X0 B 0) λb=>l9 b.2.2 (o6 (X0 B 0) λx=>o6 (Z7 [40] x.1) λx=>o6 (Z7 x [41]) λx=>o6 (Z7 [45] x) λx=>some (.inr ((x,6,false),0))) (o6 (Z7 [45] x) λx=>some (.inr ((x,6,false),0)))) (some (.inl ([],0,false)))))))))))))) λo=>bP o (λ(x:H8)=>o6 (gm A.1) λx=>l9 (D5 x.2 3) (o6 (X0 B 0) λb=>o6 (eX b 4) λc=>o6 (Z7 c [32]) λd=>o6 (Z7 d x.1) λf=>o6 (Z7 f [32]) λg=>o6 (X0 B 1) λi=>o6 (eX i (I5 .i64 x.2 1)) λj=>o6 (Z7 g j) λk=>some ((k,x.2,false),0)) (o6 (X0 B 0) λb=>o6 (eX b x.2) λc=>o6 (Z7 c [32]) λd=>o6 (Z7 d x.1) λf=>o6 (Z7 f [32]) λg=>o6 (X0 B 1) λi=>o6 (eX i (I5 .i64 x.2 1)) λj=>o6 (Z7 g j) λk=>some ((k,x.2,false),0))) λr=>some r
def q33:FQ:=⟨[tD y2,uD y45,tD kR],⟨[(.cell 6 103,tD y44),(.tmp 7,aC)],[]⟩,mE 203 [(50,s50),(51,s51),(52,s52),(53,s53),(54,s54),(55,s55),(56,s56),(57,s57)],sN 1 (jB (jnR [(6,11),(16,174),(4000384,4000385)] ⟨[(6,(false,(.box (dT y44))))],[]⟩ (sN 1 (blA (jB (.join [(18,24)] ⟨[(18,jh)],[]⟩ U1) (.cond U1 (jB (.join [(28,36)] ⟨[(28,jh)],[]⟩ U1) (.cond U1 (jB (.join [(41,44)] ⟨[(41,jh)],[]⟩ U1) (.cond U1 (sN 1 (.cond U1 (sN 1 (.cond U1 (jB (.join [(58,61)] ⟨[(58,jh)],[]⟩ U1) (.cond U1 (jB (.join [(72,79)] ⟨[(72,jh)],[]⟩ U1) (.cond U1 (jB (.join [(96,100)] ⟨[(96,jh)],[]⟩ U1) U1)))))))))))))))))) U1)⟩
def s33:FSpec:=iq q33 λx=>W9 x.1 x.2.1 x.2.2
def jl(A:List H5)(B:D7):Option (List UInt8×Int):=o6 (rQ A) λx=>l9 (H9 (D5 x.2 0)) (some ([],x.2)) (o6 (P8 (λ(x:List H8×Int)=>l9 (I8 x.2 (x9 A)) (o6 (X0 A x.2) λc=>l9 (H9 (D5 c.2 0)) (o6 (cu c.1) λd=>l9 (H9 d) (some (.rt ([],2))) (o6 (kW c.1) λb=>l9 (mJ (ae .i64 (x9 x.1) b) (x9 x.1) (x9 x.1)) (o6 (W9 c (kN x.1 (jC (ae .i64 (x9 x.1) b)) (jC (x9 x.1))) B) λf=>l9 (H9 (D5 f.2 0)) (some (.rt ([],f.2))) (l9 (mJ 0 (ae .i64 (x9 x.1) b) (x9 x.1)) (o6 (jV (kN x.1 (jC 0) (jC (ae .i64 (x9 x.1) b))) [f.1]) λg=>some (.nx (g,I5 .i64 x.2 1))) none)) none)) (o6 (kW c.1) λd=>l9 (mJ (ae .i64 (x9 x.1) d) (x9 x.1) (x9 x.1)) (o6 (W9 c (kN x.1 (jC (ae .i64 (x9 x.1) d)) (jC (x9 x.1))) B) λb=>l9 (H9 (D5 b.2 0)) (some (.rt ([],b.2))) (l9 (mJ 0 (ae .i64 (x9 x.1) d) (x9 x.1)) (o6 (jV (kN x.1 (jC 0) (jC (ae .i64 (x9 x.1) d))) [b.1]) λf=>some (.nx (f,I5 .i64 x.2 1))) none)) none)) (some (.ex x.1))) ([],0)) λo=>bP o (λ(y:List H8)=>o6 (X0 y 0) λx=>o6 (qN y (jC 0)) λx=>some (x.1,0)) λr=>some r)
def q15:FQ:=⟨[uD y12,tD kR],⟨[(.tmp 4,(uD .str)),(.tmp 5,aC)],[]⟩,mE 66 [(30,s30),(31,s31),(32,s32),(33,s33)],sN 3 (jB (sN 1 (blA (lpR [(4,6),(8,9),(10,14),(24,62)] ⟨[(8,(uO y44)),(24,aC)],[]⟩ 0 ⟨[(8,(uO y44))],[]⟩ U1))) U1)⟩
def s15:FSpec:=iq q15 λx=>jl x.1 x.2
def qG(A:Int):Option Int:=some (zk (zi A 0) 8)
def q58:FQ:=⟨[aC],tR 2 aC,mE 6 [],U1⟩
def s58:FSpec:=iq q58 λx=>qG x
def yO(A:H5)(B:Int):Option Bool:=l9 (V6 0 A.1) (o6 (qG B) λx=>o6 (a0l .i64 1 x) λx=>l9 (I8 A.1 x) (l9 (V6 0 A.2) (some (D5 (tZ .i64 A.2 A.1) A.2)) (some false)) (some false)) (some false)
def q34:FQ:=⟨[tD y2,aC],tR 4 jh,mE 31 [(58,s58)],U1⟩
def s34:FSpec:=iq q34 λx=>yO x.1 x.2
def uX(A:H5)(B:Int):Option (List UInt8):=o6 (qG B) λx=>o6 (lT (λ(x:List Int×Int)=>l9 (V6 0 x.2) (o6 (Ii .i64 A.1 x.2) λd=>l9 (D5 (tZ .i64 d 1) 0) (o6 (jV x.1 [45]) λb=>some (.inl (b,ae .i64 x.2 1))) (o6 (Ii .i64 A.2 x.2) λb=>l9 (D5 (tZ .i64 b 1) 1) (o6 (jV x.1 [49]) λc=>some (.inl (c,ae .i64 x.2 1))) (o6 (jV x.1 [48]) λc=>some (.inl (c,ae .i64 x.2 1))))) (some (.inr x.1))) ([],ae .i64 x 1)) λy=>some (BR y)
def q35:FQ:=⟨[tD y2,aC],tR 4 (uD .str),mE 39 [(58,s58)],sN 2 (jB (sN 1 (blA (.loop [(5,7),(10,37)] ⟨[(5,(false,(oW (.int .u8)))),(6,aC)],[]⟩ 0 ⟨[(5,(false,(oW (.int .u8))))],[]⟩ U1))) U1)⟩
def s35:FSpec:=iq q35 λx=>uX x.1 x.2
def mX(A:O0)(B:L6)(C:Int):Option (List UInt8×Int):=o6 (yO B.1 C) λx=>l9 (H9 x) (some ([],3)) (o6 (l9 (I8 0 C) (o6 (uX B.1 C) λx=>some x) (some [46])) λx=>l9 (D5 B.2 (-1)) (o6 (Z7 [114,111,119,32] x) λx=>o6 (Z7 x [32,110,111,110,101,10]) λx=>some (x,0)) (l9 (D5 B.2 (-2)) (o6 (Z7 [114,111,119,32] x) λx=>o6 (Z7 x [32,99,111,110,102,108,105,99,116,10]) λx=>some (x,0)) (l9 (V6 0 B.2) (l9 (I8 B.2 (x9 A.2.2.2.2)) (o6 (Z7 [114,111,119,32] x) λx=>o6 (Z7 x [32,114,117,108,101,32]) λx=>o6 (X0 A.2.2.2.2 B.2) λb=>o6 (Z7 x b.1) λx=>o6 (Z7 x [10]) λx=>some (x,0)) (some ([],6))) (some ([],6)))))
def q16:FQ:=⟨[tD y24,tD y30,aC],⟨[(.tmp 6,(uD .str)),(.tmp 7,aC)],[]⟩,mE 58 [(34,s34),(35,s35)],sN 3 (jB (.join [(8,9),(14,20)] ⟨[(8,(uD .str))],[]⟩ U1) U1)⟩
def s16:FSpec:=iq q16 λx=>mX x.1 x.2.1 x.2.2
def b5W:List MG:=[(false,(.sbx 69 5))]
def s17:FSpec:=⟨b5W,[aC],[(false,(.sbx 69 5))],λx=>zU x⟩
def b5X:List MG:=[(false,(.sbx 69 5))]
def s18:FSpec:=⟨b5X,[(false,(.dat .str))],[(false,(.sbx 69 5))],λx=>wL x⟩
def dY(A:gV)(B:Int)(C:O9):Option (List UInt8×Int):=o6 (xw A) λx=>l9 (H9 (oP (D5 x.1 0) (oP (D5 x.2.1 0) (oP (D5 x.2.2.1 0) (D5 x.2.2.2 0))))) (some ([],1)) (o6 (l9 (I8 B 0) (some (.inr ([],6))) (l9 (V6 (x9 A.2.2) B) (some (.inr ([],6))) (some (.inl ())))) λo=>bP o (λx=>o6 (X0 A.2.2 B) λx=>o6 (l9 (I8 C.1 0) (some (.inr ([],6))) (l9 (V6 (x9 x.2.2.2.1) C.1) (some (.inr ([],6))) (some (.inl ())))) λo=>bP o (λp=>l9 (I8 8 (x9 C.2.1)) (some ([],4)) (l9 (H9 (D5 (x9 C.2.2.1) (x9 C.2.1))) (some ([],2)) (o6 (X0 x.2.2.2.1 C.1) λg=>o6 (Z7 [100,101,99,105,115,105,111,110,32] g.1) λi=>o6 (Z7 i [10]) λj=>o6 (lV [] j) λk=>o6 (qg A B) λn=>o6 (P8 (λ(b:List UInt8×Int)=>l9 (I8 b.2 (x9 C.2.1)) (o6 (X0 C.2.1 b.2) λf=>o6 (X0 C.2.2.1 b.2) λc=>l9 (I8 c 0) (some (.rt ([],6))) (l9 (V6 (x9 x.2.2.2.2) c) (some (.rt ([],6))) (o6 (jl f n) λd=>l9 (H9 (D5 d.2 0)) (some (.rt ([],d.2))) (o6 (X0 x.2.2.2.2 c) λx=>o6 (Z7 [119,104,101,110,32] x.1) λx=>o6 (Z7 x [32]) λx=>o6 (Z7 x d.1) λx=>o6 (Z7 x [10]) λx=>o6 (lV b.1 x) λx=>some (.nx (x.2.2,I5 .i64 b.2 1)))))) (some (.ex b.1))) (k.2.2,0)) λo=>bP o (λ(y:List UInt8)=>o6 (P8 (λ(b:List UInt8×Int)=>l9 (I8 b.2 (x9 C.2.2.2)) (o6 (X0 C.2.2.2 b.2) λf=>o6 (mX x f (x9 C.2.1)) λx=>l9 (H9 (D5 x.2 0)) (some (.rt ([],x.2))) (o6 (zU b.1) λc=>l9 (V6 c.1 65536) (o6 (lV c.2 x.1) λx=>some (.nx (x.2.2,I5 .i64 b.2 1))) (some (.nx (c.2,I5 .i64 b.2 1))))) (some (.ex b.1))) (y,0)) λo=>bP o (λ(y:List UInt8)=>o6 (zU y) λx=>l9 (I8 65536 x.1) (some ([],4)) (o6 (wL x.2) λx=>some (x.1,0))) λr=>some r) λr=>some r))) λr=>some r) λr=>some r)
def q7:FQ:=⟨[tD y27,aC,tD y34],⟨[(.tmp 6,(uD .str)),(.tmp 7,aC)],[]⟩,mE 144 [(12,s12),(13,s13),(14,s14),(15,s15),(16,s16),(17,s17),(18,s18)],sN 2 (jB (jnR [(6,8),(24,33)] sgN U1) (sN 1 (jB (jnR [(6,8),(38,49)] sgN U1) (sN 5 (jB (sN 1 (blA (lpR [(6,8),(9,10),(11,16),(76,117),(60000576,60000577),(63004417,63004418)] ⟨[(9,(false,(.sbx 69 5))),(76,aC)],[]⟩ 0 ⟨[(9,(false,(.sbx 69 5)))],[]⟩ U1))) (jB (sN 1 (blA (lpR [(6,8),(9,10),(17,20),(120,141),(74000000,74000002)] ⟨[(9,(false,(.sbx 69 5))),(120,aC)],[]⟩ 2 ⟨[(9,(false,(.sbx 69 5)))],[]⟩ U1))) U1))))))⟩
def s7:FSpec:=iq q7 λx=>dY x.1 x.2.1 x.2.2
def mi(A:List UInt8):Option (List (List UInt8)×Int):=l9 (I8 65536 (x9 A)) (some ([],4)) (l9 (seq A []) (some ([],0)) (o6 (P8 (λ(x:List (List UInt8)×Int×List UInt8×Int)=>l9 (I8 x.2.2.2 (x9 x.2.2.1)) (l9 (D5 (ou x.2.2.1 x.2.2.2) 10) (o6 (bQ A x.2.1 x.2.2.2) λb=>o6 (jV x.1 [b]) λc=>some (.nx (c,I5 .i64 x.2.2.2 1,x.2.2.1,uU x.2.2.1 x.2.2.2))) (l9 (D5 (ou x.2.2.1 x.2.2.2) 9) (some (.nx (x.1,x.2.1,x.2.2.1,uU x.2.2.1 x.2.2.2))) (l9 (V6 32 (ou x.2.2.1 x.2.2.2)) (l9 (V6 (ou x.2.2.1 x.2.2.2) 126) (some (.nx (x.1,x.2.1,x.2.2.1,uU x.2.2.1 x.2.2.2))) (some (.rt ([],2)))) (some (.rt ([],2)))))) (some (.ex (x.1,x.2.1)))) ([],0,A,0)) λo=>bP o (λ(y:List (List UInt8)×Int)=>l9 (H9 (D5 y.2 (x9 A))) (some ([],2)) (some (y.1,0))) λr=>some r))
def q19:FQ:=⟨[uD .str],⟨[(.tmp 2,(uO .str)),(.tmp 3,aC)],[]⟩,mE 47 [],sN 5 (jB (sN 1 (blA (lpR [(2,8),(14,42),(34000896,34000897)] ⟨[(4,(uO .str)),(5,aC),(14,(false,.sit))],[]⟩ 0 ⟨[(4,(uO .str)),(5,aC)],[]⟩ U1))) U1)⟩
def s19:FSpec:=iq q19 λx=>mi x
def b6a:List MG:=[(false,(.dat .str)),(false,(.dat .str))]
def s87:FSpec:=⟨b6a,[jh],[],λx=>iC x.1 x.2⟩
def iM(A:List UInt8)(B:List UInt8):Option (List UInt8×Bool):=o6 (iC A B) λx=>l9 (H9 x) (some (A,false)) (o6 (bQ A (x9 B) (x9 A)) λx=>some (x,true))
def q59:FQ:=⟨[uD .str,(uD .str)],⟨[(.tmp 4,(uD .str)),(.tmp 5,jh)],[]⟩,mE 15 [(87,s87)],U1⟩
def s59:FSpec:=iq q59 λx=>iM x.1 x.2
def bH(A:List UInt8)(B:List UInt8):Option (List UInt8×Bool):=o6 (iM A B) λx=>some x
def q36:FQ:=⟨[uD .str,(uD .str)],⟨[(.tmp 4,(uD .str)),(.tmp 5,jh)],[]⟩,mE 11 [(59,s59)],U1⟩
def s36:FSpec:=iq q36 λx=>bH x.1 x.2
def jE(A:List UInt8):Option Bool:=l9 (H9 (seq A [])) (o6 (qI A [32]) λx=>some (H9 x)) (some false)
def q37:FQ:=⟨[uD .str],tR 2 jh,mE 10 [(60,s60)],U1⟩
def s37:FSpec:=iq q37 λx=>jE x
def b2d:List MG:=[(false,(.dat .str)),(false,(.dat .str))]
def b3N:FSpec:=⟨b2d,[aC],[],λx=>xZ x.1 x.2⟩
def uk(A:List UInt8)(B:List UInt8):Option (List UInt8×List UInt8×Bool):=o6 (xZ A B) λx=>l9 (V6 0 x) (o6 (bQ A 0 x) λb=>o6 (bQ A (I5 .i64 x (x9 B)) (x9 A)) λx=>some (b,x,true)) (some (A,[],false))
def q89:FQ:=⟨[uD .str,(uD .str)],⟨[(.tmp 4,(uD .str)),(.tmp 5,(uD .str)),(.tmp 6,jh)],[]⟩,mE 23 [(113,b3N)],U1⟩
def s89:FSpec:=iq q89 λx=>uk x.1 x.2
def uV(A:List UInt8)(B:List UInt8):Option (List UInt8×List UInt8×Bool):=o6 (uk A B) λx=>some x
def q61:FQ:=⟨[uD .str,(uD .str)],⟨[(.tmp 4,(uD .str)),(.tmp 5,(uD .str)),(.tmp 6,jh)],[]⟩,mE 13 [(89,s89)],U1⟩
def s61:FSpec:=iq q61 λx=>uV x.1 x.2
def V5(A:J5)(B:List UInt8):Option (Int×J5):=o6 (P8 (λ(x:Int)=>l9 (I8 x (x9 A.1.2.2.2.2)) (o6 (X0 A.1.2.2.2.2 x) λb=>l9 (seq b.1 B) (some (.rt (x,A))) (some (.nx (I5 .i64 x 1)))) (some (.ex ()))) 0) λo=>bP o (λy=>some (-1,A)) λr=>some r
def q62:FQ:=⟨[(false,(.box (pA (dT y24) (pA (dT kR) (pA N9 (pA (oW y12) (pA oiM (oW y30)))))))),(uD .str)],⟨[(.tmp 4,aC)],[(0,(true,(pA (dT y24) (pA (dT kR) (pA N9 (pA (oW y12) (pA oiM (oW y30))))))))]⟩,⟨24,eqs,tt,gl,[],[],[],[],[0],[]⟩,sN 1 (jB (sN 1 (blA (lpR [(4,7),(13,24)] ⟨[(13,aC)],[]⟩ 0 sgN U1))) U1)⟩
def s62:FSpec:=iq q62 λx=>V5 x.1 x.2
def nX(A:List UInt8)(B:Int):Option Int:=o6 (P8 (λ(x:Int×Bool)=>l9 (I8 x.1 (x9 A)) (o6 (sat A x.1) λb=>l9 x.2 (l9 (D5 b 10) (some (.rt x.1)) (some (.nx (I5 .i64 x.1 1,x.2)))) (l9 (D5 b 35) (some (.nx (I5 .i64 x.1 1,true))) (l9 (H9 (D5 b 32)) (l9 (H9 (D5 b 9)) (some (.rt x.1)) (some (.nx (I5 .i64 x.1 1,x.2)))) (some (.nx (I5 .i64 x.1 1,x.2)))))) (some (.ex x.1))) (B,false)) λo=>bP o (λy=>some y) λr=>some r
def b2u:FQ:=⟨[uD .str,aC],tR 4 aC,mE 33 [],sN 2 (jB (blA (lpR [(1,2),(4,32)] ⟨[(1,aC),(5,jh)],[]⟩ 0 ⟨[(1,aC)],[]⟩ U1)) U1)⟩
def b3O:FSpec:=iq b2u λx=>nX x.1 x.2
def b2g:List MG:=[(false,(.dat .str)),(false,(.dat (.int .u8)))]
def b3X:FSpec:=⟨b2g,[aC],[],λx=>BN x.1 x.2⟩
def xP(A:List UInt8)(B:Int):Option Int:=o6 (BN A B) λx=>some x
def b2L:FQ:=⟨[uD .str,(false,(dT (.int .u8)))],tR 4 aC,mE 8 [(132,b3X)],U1⟩
def b4b:FSpec:=iq b2L λx=>xP x.1 x.2
def uK(A:List UInt8):Option (U7×H5):=o6 (mf A) λx=>l9 (I8 16 x) (some ((0,[],0,0),0,4)) (o6 (bQ A 0 x) λb=>some ((1,b,0,0),x,0))
def b2H:FQ:=⟨[uD .str],⟨[(.cell 2 199,tD y51),(.tmp 3,aC),(.tmp 4,aC)],[]⟩,mE 16 [(73,s73)],U1⟩
def b3Y:FSpec:=iq b2H λx=>uK x
def fF(A:List UInt8)(B:Int):Option Int:=o6 (lT (λ(x:Int)=>l9 (I8 x (x9 A)) (o6 (sat A x) λb=>o6 (dG b) λc=>l9 c (some (.inl (I5 .i64 x 1))) (some (.inr x))) (some (.inr x))) B) λy=>some (ae .i64 y B)
def b2T:FQ:=⟨[uD .str,aC],tR 4 aC,mE 22 [(95,s95)],sN 2 (jB (blA (.loop [(5,6),(7,19)] ⟨[(5,aC)],[]⟩ 0 ⟨[(5,aC)],[]⟩ U1)) U1)⟩
def a7u:FSpec:=iq b2T λx=>fF x.1 x.2
def kM(A:List UInt8):Option Bool:=o6 (fF A 0) λx=>l9 (D5 x 4) (o6 (fF A 5) λx=>l9 (D5 x 2) (o6 (fF A 8) λx=>l9 (V6 2 x) (o6 (sat A 4) λx=>l9 (D5 x 45) (o6 (sat A 7) λx=>some (D5 x 45)) (some false)) (some false)) (some false)) (some false)
def b2S:FQ:=⟨[uD .str],tR 2 jh,mE 26 [(156,a7u)],U1⟩
def b4f:FSpec:=iq b2S λx=>kM x
def Y6(A:List UInt8)(B:List UInt8):Option Bool:=o6 (iC A B) λx=>some x
def b2K:FQ:=⟨[uD .str,(uD .str)],tR 4 jh,mE 8 [(87,s87)],U1⟩
def a7t:FSpec:=iq b2K λx=>Y6 x.1 x.2
def fG(A:List UInt8)(B:Int):Option Bool:=o6 (Y6 A [46]) λx=>l9 x (o6 (fF A 1) λx=>some (D5 x B)) (some false)
def b2U:FQ:=⟨[uD .str,aC],tR 4 jh,mE 13 [(139,a7t),(156,a7u)],U1⟩
def b4g:FSpec:=iq b2U λx=>fG x.1 x.2
def rP(A:List UInt8):Option (Int×Bool):=o6 (P8 (λ(x:Int×List UInt8×Int)=>l9 (I8 x.2.2 (x9 x.2.1)) (l9 (I8 (ou x.2.1 x.2.2) 48) (some (.rt (0,false))) (l9 (I8 57 (ou x.2.1 x.2.2)) (some (.rt (0,false))) (some (.nx (I5 .i64 (JK .i64 x.1 10) (wrap .i64 (ae .i32 (ou x.2.1 x.2.2) 48)),x.2.1,uU x.2.1 x.2.2))))) (some (.ex x.1))) (0,A,0)) λo=>bP o (λy=>some (y,true)) λr=>some r
def b3p:FQ:=⟨[uD .str],⟨[(.tmp 2,aC),(.tmp 3,jh)],[]⟩,mE 25 [],sN 2 (jB (sN 1 (blA (lpR [(2,5),(6,7),(8,24),(11000512,11000513)] ⟨[(4,aC),(8,(false,.sit))],[]⟩ 0 ⟨[(4,aC)],[]⟩ U1))) U1)⟩
def b4x:FSpec:=iq b3p λx=>rP x
def mO(A:Int)(B:Int)(C:Int):Option H5:=o6 (l9 (I8 A 1900) (some (.inr (0,3))) (l9 (I8 2199 A) (some (.inr (0,3))) (l9 (I8 B 1) (some (.inr (0,3))) (l9 (I8 12 B) (some (.inr (0,3))) (l9 (I8 C 1) (some (.inr (0,3))) (o6 (kF A B) λx=>l9 (I8 x C) (some (.inr (0,3))) (some (.inl ())))))))) λo=>bP o (λx=>o6 (pg A) λx=>o6 (lT (λ(x:H5)=>l9 (I8 x.2 (ae .i64 B 1)) (o6 (kF A (I5 .i64 x.2 1)) λb=>some (.inl (I5 .i64 x.1 b,I5 .i64 x.2 1))) (some (.inr x.1))) (x,0)) λy=>some (ae .i64 (I5 .i64 y C) 1,0)) λr=>some r
def b3q:FQ:=⟨[aC,aC,aC],⟨[(.tmp 6,aC),(.tmp 7,aC)],[]⟩,mE 53 [(152,b0e),(151,b0d)],sN 1 (jB (jnR [(6,8),(10,35)] sgN U1) (sN 1 (jB (sN 1 (blA (.loop [(8,10),(39,49)] ⟨[(8,aC),(39,aC)],[]⟩ 0 ⟨[(8,aC)],[]⟩ U1))) U1)))⟩
def b4y:FSpec:=iq b3q λx=>mO x.1 x.2.1 x.2.2
def yh(A:List UInt8):Option H5:=o6 (l9 (H9 (D5 (x9 A) 10)) (some (.inr (0,2))) (o6 (sat A 4) λx=>l9 (H9 (D5 x 45)) (some (.inr (0,2))) (o6 (sat A 7) λx=>l9 (H9 (D5 x 45)) (some (.inr (0,2))) (some (.inl ()))))) λo=>bP o (λx=>o6 (bQ A 0 4) λx=>o6 (rP x) λx=>o6 (bQ A 5 7) λd=>o6 (rP d) λb=>o6 (bQ A 8 (x9 A)) λf=>o6 (rP f) λc=>l9 (H9 x.2) (some (0,2)) (l9 (H9 b.2) (some (0,2)) (l9 (H9 c.2) (some (0,2)) (o6 (mO x.1 b.1 c.1) λx=>some x)))) λr=>some r
def b3h:FQ:=⟨[uD .str],⟨[(.tmp 2,aC),(.tmp 3,aC)],[]⟩,mE 57 [(207,b4x),(208,b4y)],sN 1 (jB (jnR [(2,4),(10,23)] sgN U1) U1)⟩
def b4r:FSpec:=iq b3h λx=>yh x
def nY(A:Int):Option Bool:=l9 (V6 48 A) (some (V6 A 57)) (some false)
def b3u:FQ:=⟨[(false,(dT (.int .i32)))],tR 2 jh,mE 9 [],U1⟩
def b4A:FSpec:=iq b3u λx=>nY x
def mQ(A:List UInt8)(B:Int):Option H5:=o6 (bH A [45]) λx=>o6 (l9 (I8 0 B) (some (ae .i64 (x9 x.1) (I5 .i64 B 1))) (some (x9 x.1))) λb=>o6 (l9 (I8 b 1) (some (.inr (0,2))) (l9 (I8 1 b) (o6 (sat x.1 0) λx=>l9 (D5 x 48) (some (.inr (0,2))) (some (.inl ()))) (some (.inl ())))) λo=>bP o (λd=>o6 (P8 (λ(x:Int×Bool×List UInt8×Int)=>l9 (I8 x.2.2.2 (x9 x.2.2.1)) (l9 (D5 x.2.2.2 b) (l9 (H9 (D5 (ou x.2.2.1 x.2.2.2) 46)) (some (.rt (0,2))) (some (.nx (x.1,x.2.1,x.2.2.1,uU x.2.2.1 x.2.2.2)))) (o6 (nY (ou x.2.2.1 x.2.2.2)) λc=>l9 (H9 c) (some (.rt (0,2))) (l9 x.2.1 (some (.nx (x.1,true,x.2.2.1,uU x.2.2.1 x.2.2.2))) (l9 (I8 461168601842738790 x.1) (some (.nx (x.1,true,x.2.2.1,uU x.2.2.1 x.2.2.2))) (some (.nx (I5 .i64 (JK .i64 x.1 10) (wrap .i64 (ae .i32 (ou x.2.2.1 x.2.2.2) 48)),I8 4611686018427387904 (I5 .i64 (JK .i64 x.1 10) (wrap .i64 (ae .i32 (ou x.2.2.1 x.2.2.2) 48))),x.2.2.1,uU x.2.2.1 x.2.2.2))))))) (some (.ex (x.1,x.2.1)))) (0,false,x.1,0)) λo=>bP o (λ(y:Int×Bool)=>l9 x.2 (l9 (D5 y.1 0) (l9 (H9 y.2) (some (0,2)) (l9 y.2 (some (0,3)) (l9 x.2 (some (ae .i64 0 y.1,0)) (some (y.1,0))))) (l9 y.2 (some (0,3)) (l9 x.2 (some (ae .i64 0 y.1,0)) (some (y.1,0))))) (l9 y.2 (some (0,3)) (l9 x.2 (some (ae .i64 0 y.1,0)) (some (y.1,0))))) λr=>some r) λr=>some r
def b3r:FQ:=⟨[uD .str,aC],⟨[(.tmp 4,aC),(.tmp 5,aC)],[]⟩,mE 78 [(36,s36),(224,b4A)],sN 3 (jB (.join [(8,9),(20,26)] ⟨[(8,aC)],[]⟩ U1) (jB (jnR [(4,6),(26,37)] sgN U1) (sN 1 (jB (sN 1 (blA (lpR [(4,6),(9,13),(38,64),(35002432,35002433)] ⟨[(9,aC),(10,jh),(38,(false,.sit))],[]⟩ 0 ⟨[(9,aC),(10,jh)],[]⟩ U1))) U1))))⟩
def b0k:FSpec:=iq b3r λx=>mQ x.1 x.2
def mg(A:List UInt8)(B:Int):Option H5:=o6 (iG B) λx=>o6 (mQ A x) λx=>some x
def b3i:FQ:=⟨[uD .str,aC],⟨[(.tmp 4,aC),(.tmp 5,aC)],[]⟩,mE 12 [(127,a9Y),(209,b0k)],U1⟩
def b4s:FSpec:=iq b3i λx=>mg x.1 x.2
def vF(A:List UInt8):Option H5:=o6 (mQ A 0) λx=>some x
def b3j:FQ:=⟨[uD .str],⟨[(.tmp 2,aC),(.tmp 3,aC)],[]⟩,mE 8 [(209,b0k)],U1⟩
def b4t:FSpec:=iq b3j λx=>vF x
def gu(A:Int)(B:List UInt8):Option H5:=l9 (D5 A 5) (o6 (yh B) λx=>l9 (D5 x.2 0) (l9 (I8 109572 x.1) (some (x.1,3)) (some x)) (some x)) (l9 (D5 A 3) (o6 (mg B 2) λx=>l9 (D5 x.2 0) (l9 (I8 1000000000000000 x.1) (some (x.1,3)) (some x)) (some x)) (l9 (D5 A 4) (o6 (bQ B 0 (ae .i64 (x9 B) 1)) λx=>o6 (mg x 4) λx=>l9 (D5 x.2 0) (l9 (I8 1000000000 x.1) (some (x.1,3)) (some x)) (some x)) (o6 (vF B) λx=>l9 (D5 x.2 0) (l9 (I8 1000000000000 x.1) (some (x.1,3)) (some x)) (some x))))
def b2V:FQ:=⟨[aC,(uD .str)],⟨[(.tmp 4,aC),(.tmp 5,aC)],[]⟩,mE 49 [(178,b4r),(179,b4s),(180,b4t)],U1⟩
def b4h:FSpec:=iq b2V λx=>gu x.1 x.2
def jr(A:List UInt8):Option (U7×H5):=o6 (o6 (kM A) λx=>l9 (H9 x) (o6 (fF A 0) λx=>o6 (o6 (bQ A x (x9 A)) λb=>o6 (fG b 2) λd=>l9 d (some (3,I5 .i64 x 3)) (o6 (bQ A x (x9 A)) λc=>o6 (fG c 4) λf=>l9 f (o6 (bQ A (I5 .i64 x 5) (x9 A)) λg=>o6 (Y6 g [37]) λi=>l9 i (some (4,I5 .i64 x 6)) (some (2,x))) (some (2,x)))) λb=>l9 (I8 1 x) (o6 (sat A 0) λx=>l9 (D5 x 48) (some (.inr ((0,[],0,0),0,2))) (some (.inl ((0,[],0,0),b)))) (some (.inl ((0,[],0,0),b)))) (some (.inl ((0,[],0,0),5,10)))) λo=>bP o (λ(x:U7×H5)=>o6 (l9 (I8 x.2.2 (x9 A)) (o6 (sat A x.2.2) λb=>o6 (jo b) λd=>l9 d (some (.inr ((0,[],0,0),0,2))) (l9 (V6 65 b) (l9 (V6 b 90) (some (.inr ((0,[],0,0),0,2))) (o6 (dG b) λc=>l9 c (some (.inr ((0,[],0,0),0,2))) (l9 (D5 b 95) (some (.inr ((0,[],0,0),0,2))) (l9 (D5 b 46) (some (.inr ((0,[],0,0),0,2))) (some (.inl x.1)))))) (o6 (dG b) λc=>l9 c (some (.inr ((0,[],0,0),0,2))) (l9 (D5 b 95) (some (.inr ((0,[],0,0),0,2))) (l9 (D5 b 46) (some (.inr ((0,[],0,0),0,2))) (some (.inl x.1))))))) (some (.inl x.1))) λo=>bP o (λ(b:U7)=>o6 (bQ A 0 x.2.2) λd=>o6 (gu x.2.1 d) λc=>l9 (H9 (D5 c.2 0)) (some ((0,[],0,0),0,3)) (o6 (bQ A 0 x.2.2) λf=>some ((x.2.1,f,c.1,0),x.2.2,0))) λr=>some r) λr=>some r
def b2I:FQ:=⟨[uD .str],⟨[(.cell 2 199,tD y51),(.tmp 3,aC),(.tmp 4,aC)],[]⟩,mE 94 [(155,b4f),(156,a7u),(157,b4g),(139,a7t),(72,s72),(95,s95),(158,b4h)],sN 2 (jB (jnR [(2,8),(11,46),(4000128,4000129)] ⟨[(2,(false,(.box (dT y51)))),(5,aC),(6,aC)],[]⟩ (sN 1 (.cond (sN 1 (jB (.join [(5,7),(16,38)] ⟨[(5,aC),(6,aC)],[]⟩ U1) U1)) U1))) (jB (jnR [(2,5),(8,9),(46,76),(9000000,9000001)] ⟨[(2,(false,(.box (dT y51))))],[]⟩ U1) U1))⟩
def b3Z:FSpec:=iq b2I λx=>jr x
def b2j:List MG:=[(false,(.dat .str)),(false,(.dat .str))]
def b4i:FSpec:=⟨b2j,[aC],[],λx=>vg x.1 x.2⟩
def vC(A:List UInt8):Option (U7×H5):=o6 (bQ A 1 (x9 A)) λx=>o6 (vg x [34,10]) λx=>l9 (I8 x 0) (some ((0,[],0,0),0,5)) (o6 (sat A (I5 .i64 1 x)) λc=>l9 (D5 c 10) (some ((0,[],0,0),0,5)) (o6 (bQ A 1 (I5 .i64 1 x)) λb=>o6 (P8 (λ(x:U7×Int)=>l9 (I8 x.2 (x9 b)) (o6 (sat b x.2) λd=>l9 (I8 d 32) (some (.rt ((0,[],0,0),0,2))) (o6 (sat b x.2) λf=>l9 (I8 126 f) (some (.rt ((0,[],0,0),0,2))) (some (.nx (x.1,I5 .i64 x.2 1))))) (some (.ex x.1))) ((0,[],0,0),0)) λo=>bP o (λ(y:U7)=>l9 (I8 64 x) (some ((0,[],0,0),0,4)) (some ((6,b,0,0),I5 .i64 x 2,0))) λr=>some r))
def b2J:FQ:=⟨[uD .str],⟨[(.cell 2 199,tD y51),(.tmp 3,aC),(.tmp 4,aC)],[]⟩,mE 49 [(159,b4i)],sN 4 (jB (sN 1 (blA (lpR [(2,5),(7,8),(27,42),(4000128,4000129)] ⟨[(2,(false,(.box (dT y51)))),(27,aC)],[]⟩ 0 ⟨[(2,(false,(.box (dT y51))))],[]⟩ U1))) U1)⟩
def b4a:FSpec:=iq b2J λx=>vC x
def nV(A:List UInt8):Option (U7×H5):=o6 (sat A 0) λx=>l9 (D5 x 10) (o6 (bQ A 0 1) λx=>some ((8,x,0,0),1,0)) (o6 (jo x) λd=>l9 d (o6 (uK A) λx=>some x) (o6 (dG x) λf=>l9 f (o6 (jr A) λx=>some x) (l9 (D5 x 34) (o6 (vC A) λx=>some x) (l9 (D5 x 60) (o6 (bQ A 1 (x9 A)) λb=>o6 (Y6 b [61]) λc=>l9 c (o6 (bQ A 0 2) λx=>some ((7,x,0,0),2,0)) (l9 (D5 x 33) (some ((0,[],0,0),0,2)) (o6 (bQ A 0 1) λx=>some ((7,x,0,0),1,0)))) (l9 (D5 x 61) (o6 (bQ A 1 (x9 A)) λb=>o6 (Y6 b [61]) λc=>l9 c (o6 (bQ A 0 2) λx=>some ((7,x,0,0),2,0)) (l9 (D5 x 33) (some ((0,[],0,0),0,2)) (o6 (bQ A 0 1) λx=>some ((7,x,0,0),1,0)))) (l9 (D5 x 33) (o6 (bQ A 1 (x9 A)) λb=>o6 (Y6 b [61]) λc=>l9 c (o6 (bQ A 0 2) λx=>some ((7,x,0,0),2,0)) (l9 (D5 x 33) (some ((0,[],0,0),0,2)) (o6 (bQ A 0 1) λx=>some ((7,x,0,0),1,0)))) (o6 (xP [40,41,44,58,43,45,42] x) λx=>l9 (V6 0 x) (o6 (bQ A 0 1) λx=>some ((7,x,0,0),1,0)) (some ((0,[],0,0),0,2)))))))))
def b2v:FQ:=⟨[uD .str],⟨[(.cell 2 199,tD y51),(.tmp 3,aC),(.tmp 4,aC)],[]⟩,mE 66 [(72,s72),(95,s95),(140,b4b),(136,b3Y),(137,b3Z),(138,b4a),(139,a7t)],U1⟩
def b3P:FSpec:=iq b2v λx=>nV x
def pJ(A:List UInt8):Option (List U7×H5):=l9 (I8 65536 (x9 A)) (some ([],0,4)) (o6 (nX A 0) λx=>o6 (P8 (λ(x:List U7×Int)=>l9 (I8 x.2 (x9 A)) (o6 (bQ A x.2 (x9 A)) λc=>o6 (nV c) λb=>l9 (H9 (D5 b.2.2 0)) (some (.rt ([],x.2,b.2.2))) (o6 (jV x.1 [(b.1.1,b.1.2.1,b.1.2.2.1,x.2)]) λd=>o6 (nX A (I5 .i64 x.2 b.2.1)) λx=>some (.nx (d,x)))) (some (.ex x.1))) ([],x)) λo=>bP o (λ(y:List U7)=>some (y,0,0)) λr=>some r)
def q90:FQ:=⟨[uD .str],⟨[(.tmp 2,uO y51),(.tmp 3,aC),(.tmp 4,aC)],[]⟩,mE 43 [(114,b3O),(115,b3P)],sN 4 (jB (blA (lpR [(2,10),(15,42)] ⟨[(5,(uO y51)),(6,aC)],[]⟩ 0 ⟨[(5,(uO y51))],[]⟩ U1)) U1)⟩
def s90:FSpec:=iq q90 λx=>pJ x
def O5(A:x8)(B:Int):Option (U7×x8):=l9 (I8 (I5 .i64 A.2.1 B) (x9 A.1)) (o6 (X0 A.1 (I5 .i64 A.2.1 B)) λx=>some (x,A)) (some ((0,[],0,0),A))
def b2M:FQ:=⟨[(false,(.box (pA (dT nP) (pA N9 (pA N9 (pA (dT kR) (pA (oW y2) (pA N9 N9)))))))),aC],⟨[(.cell 4 199,tD y51)],[(0,(true,(pA (dT nP) (pA N9 (pA N9 (pA (dT kR) (pA (oW y2) (pA N9 N9))))))))]⟩,⟨30,eqs,tt,gl,[],[],[],[],[0],[]⟩,U1⟩
def XW:FSpec:=iq b2M λx=>O5 x.1 x.2
def fK(A:x8)(B:Int)(C:List UInt8):Option (Bool×x8):=o6 (O5 A 0) λx=>l9 (D5 x.1.1 B) (some (seq x.1.2.1 C,x.2)) (some (false,x.2))
def b2w:FQ:=⟨[(false,(.box (pA (dT nP) (pA N9 (pA N9 (pA (dT kR) (pA (oW y2) (pA N9 N9)))))))),aC,(uD .str)],⟨[(.tmp 6,jh)],[(0,(true,(pA (dT nP) (pA N9 (pA N9 (pA (dT kR) (pA (oW y2) (pA N9 N9))))))))]⟩,⟨20,eqs,tt,gl,[(141,XW)],[],[],[],[0],[]⟩,U1⟩
def a4L:FSpec:=iq b2w λx=>fK x.1 x.2.1 x.2.2
def kw(A:U7):Option Int:=l9 (D5 A.1 2) (some 2) (l9 (D5 A.1 3) (some 3) (l9 (D5 A.1 4) (some 4) (some 0)))
def b2W:FQ:=⟨[tD y51],tR 2 aC,mE 11 [],U1⟩
def b0f:FSpec:=iq b2W λx=>kw x
def F8(A:x8)(B:Int)(C:Int):Option (Bool×x8):=o6 (jV A.2.2.2.2.1 [(B,C)]) λx=>some (true,A.1,A.2.1,A.2.2.1,A.2.2.2.1,x,A.2.2.2.2.2)
def b2y:FQ:=⟨[(false,(.box (pA (dT nP) (pA N9 (pA N9 (pA (dT kR) (pA (oW y2) (pA N9 N9)))))))),aC,aC],⟨[(.tmp 6,jh)],[(0,(true,(pA (dT nP) (pA N9 (pA N9 (pA (dT kR) (pA (oW y2) (pA N9 N9))))))))]⟩,⟨19,eqs,tt,gl,[],[],[],[],[0],[]⟩,U1⟩
def ZO:FSpec:=iq b2y λx=>F8 x.1 x.2.1 x.2.2
def X3(A:x8)(B:Int):Option (Bool×x8):=l9 (I8 A.2.1 (x9 A.1)) (o6 (X0 A.1 A.2.1) λx=>some (false,A.1,A.2.1,A.2.2.1,A.2.2.2.1,A.2.2.2.2.1,x.2.2.2,B)) (some (false,A.1,A.2.1,A.2.2.1,A.2.2.2.1,A.2.2.2.2.1,A.2.2.1,B))
def q92:FQ:=⟨[(false,(.box (pA (dT nP) (pA N9 (pA N9 (pA (dT kR) (pA (oW y2) (pA N9 N9)))))))),aC],⟨[(.tmp 4,jh)],[(0,(true,(pA (dT nP) (pA N9 (pA N9 (pA (dT kR) (pA (oW y2) (pA N9 N9))))))))]⟩,⟨40,eqs,tt,gl,[],[],[],[],[0],[]⟩,U1⟩
def s92:FSpec:=iq q92 λx=>X3 x.1 x.2
def Y7(A:x8)(B:Int)(C:List UInt8):Option (Bool×x8):=o6 (fK A B C) λx=>l9 (H9 x.1) (o6 (X3 x.2 2) λx=>some x) (some (true,x.2.1,I5 .i64 x.2.2.1 1,x.2.2.2))
def b2x:FQ:=⟨[(false,(.box (pA (dT nP) (pA N9 (pA N9 (pA (dT kR) (pA (oW y2) (pA N9 N9)))))))),aC,(uD .str)],⟨[(.tmp 6,jh)],[(0,(true,(pA (dT nP) (pA N9 (pA N9 (pA (dT kR) (pA (oW y2) (pA N9 N9))))))))]⟩,⟨21,eqs,tt,gl,[(116,a4L),(92,s92)],[],[],[],[0],[]⟩,U1⟩
def a9X:FSpec:=iq b2x λx=>Y7 x.1 x.2.1 x.2.2
def J8(A:x8)(B:List UInt8):Option (Bool×x8):=o6 (Y7 A 7 B) λx=>some x
def b3k:FQ:=⟨[(false,(.box (pA (dT nP) (pA N9 (pA N9 (pA (dT kR) (pA (oW y2) (pA N9 N9)))))))),(uD .str)],⟨[(.tmp 4,jh)],[(0,(true,(pA (dT nP) (pA N9 (pA N9 (pA (dT kR) (pA (oW y2) (pA N9 N9))))))))]⟩,⟨8,eqs,tt,gl,[(118,a9X)],[],[],[],[0],[]⟩,U1⟩
def b0i:FSpec:=iq b3k λx=>J8 x.1 x.2
def jm(A:List UInt8):Option Int:=o6 (P8 (λ(x:Int)=>l9 (V6 x 39) (l9 (H9 (seq A [])) (o6 (gK x) λb=>l9 (seq b A) (some (.rt x)) (some (.nx (I5 .i64 x 1)))) (some (.nx (I5 .i64 x 1)))) (some (.ex ()))) 10) λo=>bP o (λy=>some 0) λr=>some r
def b3l:FQ:=⟨[uD .str],tR 2 aC,mE 17 [(54,s54)],sN 1 (jB (sN 1 (blA (lpR [(2,17)] ⟨[(3,aC)],[]⟩ 0 sgN U1))) U1)⟩
def b4u:FSpec:=iq b3l λx=>jm x
def aN(A:x8)(B:List (List UInt8)):Option (Int×Bool×x8):=o6 (O5 A 0) λx=>l9 (H9 (D5 x.1.1 1)) (o6 (X3 x.2 2) λx=>some (0,x)) (o6 (cO x.1.2.1) λc=>l9 (H9 c) (o6 (X3 x.2 2) λx=>some (0,x)) (o6 (aV B x.1.2.1) λb=>l9 (I8 b 0) (o6 (X3 x.2 6) λx=>some (0,x)) (some (b,true,x.2.1,I5 .i64 x.2.2.1 1,x.2.2.2))))
def b3s:FQ:=⟨[(false,(.box (pA (dT nP) (pA N9 (pA N9 (pA (dT kR) (pA (oW y2) (pA N9 N9)))))))),(uD (.sl .str))],⟨[(.tmp 4,aC),(.tmp 5,jh)],[(0,(true,(pA (dT nP) (pA N9 (pA N9 (pA (dT kR) (pA (oW y2) (pA N9 N9))))))))]⟩,⟨37,eqs,tt,gl,[(141,XW),(43,s43),(92,s92),(93,s93)],[],[],[],[0],[]⟩,U1⟩
def b0l:FSpec:=iq b3s λx=>aN x.1 x.2
def qf(A:List UInt8):Option Int:=o6 (P8 (λ(x:Int)=>l9 (V6 x 5) (o6 (dJ x) λb=>l9 (seq b A) (some (.rt x)) (some (.nx (I5 .i64 x 1)))) (some (.ex ()))) 0) λo=>bP o (λy=>some (-1)) λr=>some r
def b3v:FQ:=⟨[uD .str],tR 2 aC,mE 13 [(55,s55)],sN 1 (jB (sN 1 (blA (lpR [(2,13)] ⟨[(3,aC)],[]⟩ 0 sgN U1))) U1)⟩
def b4B:FSpec:=iq b3v λx=>qf x
def Y1(A:x8):Option (Int×Bool×x8):=o6 (O5 A 0) λx=>o6 (qf x.1.2.1) λb=>l9 (H9 (D5 x.1.1 1)) (o6 (X3 x.2 2) λx=>some (0,x)) (l9 (I8 b 0) (o6 (X3 x.2 2) λx=>some (0,x)) (some (b,true,x.2.1,I5 .i64 x.2.2.1 1,x.2.2.2)))
def b3t:FQ:=⟨[(false,(.box (pA (dT nP) (pA N9 (pA N9 (pA (dT kR) (pA (oW y2) (pA N9 N9))))))))],⟨[(.tmp 2,aC),(.tmp 3,jh)],[(0,(true,(pA (dT nP) (pA N9 (pA N9 (pA (dT kR) (pA (oW y2) (pA N9 N9))))))))]⟩,⟨28,eqs,tt,gl,[(141,XW),(225,b4B),(92,s92)],[],[],[],[0],[]⟩,U1⟩
def b4z:FSpec:=iq b3t λx=>Y1 x
def oz(A:dU)(B:U7):Option Bool:=some (seq A.1 B.2.1)
def a4x:FQ:=⟨[tD y0,(false,(.rp y51))],tR 3 jh,mE 9 [],U1⟩
def ZP:FSpec:=iq a4x λx=>oz x.1 x.2
def aT(A:List dU)(B:U7):Option Int:=o6 (P8 (λ(x:Int)=>l9 (I8 x (x9 A)) (o6 (X0 A x) λb=>o6 (oz b B) λc=>l9 c (some (.rt x)) (some (.nx (I5 .i64 x 1)))) (some (.ex ()))) 0) λo=>bP o (λy=>some (-1)) λr=>some r
def a8D:FQ:=⟨[uD y1,(false,(.fn 213 [y51]))],tR 4 aC,mE 19 [(213,ZP)],sN 1 (jB (sN 1 (blA (lpR [(4,6),(8,19)] ⟨[(8,aC)],[]⟩ 0 sgN U1))) U1)⟩
def a8M:FSpec:=iq a8D λx=>aT x.1 x.2
def aZ(A:x8):Option (Bool×x8):=o6 (O5 A 0) λx=>o6 (O5 x.2 1) λb=>o6 (cO x.1.2.1) λd=>l9 (H9 d) (o6 (X3 b.2 2) λx=>some x) (o6 (l9 (D5 b.1.1 7) (some (seq b.1.2.1 [58])) (some false)) λf=>l9 f (o6 (aT b.2.2.2.2.1.1 x.1) λx=>l9 (I8 x 0) (o6 (X3 b.2 6) λx=>some x) (o6 (X0 b.2.2.2.2.1.1 x) λg=>o6 (aN (b.2.1,I5 .i64 b.2.2.1 2,b.2.2.2) g.2) λc=>l9 c.2.1 (o6 (F8 c.2.2 6 (I5 .i64 (JK .i64 16 x) c.1)) λx=>some x) (some (false,c.2.2)))) (o6 (aV b.2.2.2.2.1.2.2.1 x.1.2.1) λx=>l9 (V6 0 x) (o6 (F8 (b.2.1,I5 .i64 b.2.2.1 1,b.2.2.2) 7 x) λx=>some x) (o6 (aN b.2 b.2.2.2.2.1.2.2.2.1) λx=>l9 x.2.1 (o6 (F8 x.2.2 8 x.1) λx=>some x) (some (false,x.2.2)))))
def b3m:FQ:=⟨[(false,(.box (pA (dT nP) (pA N9 (pA N9 (pA (dT kR) (pA (oW y2) (pA N9 N9))))))))],⟨[(.tmp 2,jh)],[(0,(true,(pA (dT nP) (pA N9 (pA N9 (pA (dT kR) (pA (oW y2) (pA N9 N9))))))))]⟩,⟨106,eqs,tt,gl,[(141,XW),(43,s43),(92,s92),(213,ZP),(96,a8M),(211,b0l),(119,ZO),(93,s93)],[],[],[],[0],[]⟩,sN 3 (jB (jB (.join [(21,29)] ⟨[(28,jh)],[]⟩ U1) U1) U1)⟩
def b4v:FSpec:=iq b3m λx=>aZ x
def iF(A:U7):Option H5:=l9 (H9 (D5 A.1 7)) (l9 (H9 (D5 A.1 1)) (some (0,0)) (o6 (P8 (λ(x:Int)=>l9 (V6 x 24) (o6 (gm x) λb=>l9 (H9 (seq b.1 [])) (l9 (seq b.1 A.2.1) (some (.rt (x,b.2))) (some (.nx (I5 .i64 x 1)))) (some (.nx (I5 .i64 x 1)))) (some (.ex ()))) 11) λo=>bP o (λy=>some (0,0)) λr=>some r)) (o6 (P8 (λ(x:Int)=>l9 (V6 x 24) (o6 (gm x) λb=>l9 (H9 (seq b.1 [])) (l9 (seq b.1 A.2.1) (some (.rt (x,b.2))) (some (.nx (I5 .i64 x 1)))) (some (.nx (I5 .i64 x 1)))) (some (.ex ()))) 11) λo=>bP o (λy=>some (0,0)) λr=>some r)
def b2N:FQ:=⟨[tD y51],⟨[(.tmp 2,aC),(.tmp 3,aC)],[]⟩,mE 34 [(57,s57)],sN 2 (jB (sN 1 (blA (lpR [(2,7),(15,34)] ⟨[(4,aC)],[]⟩ 0 sgN U1))) U1)⟩
def b4c:FSpec:=iq b2N λx=>iF x
def a2h:List MG:=[(false,(.box (.pair (.dat nP) (.pair N9 (.pair N9 (.pair (.dat kR) (.pair (.own y2) (.pair N9 N9))))))))]
def a0E:List MG:=[(false,(.box (.pair (.dat nP) (.pair N9 (.pair N9 (.pair (.dat kR) (.pair (.own y2) (.pair N9 N9)))))))),aC]
def a0F:List MG:=[(false,(.box (.pair (.dat nP) (.pair N9 (.pair N9 (.pair (.dat kR) (.pair (.own y2) (.pair N9 N9))))))))]
def a4q:List MG:=[(false,(.box (.pair (.dat nP) (.pair N9 (.pair N9 (.pair (.dat kR) (.pair (.own y2) (.pair N9 N9))))))))]
def a4r:List MG:=[(false,(.box (.pair (.dat nP) (.pair N9 (.pair N9 (.pair (.dat kR) (.pair (.own y2) (.pair N9 N9)))))))),aC]
def b3C:Ret:=⟨[(.tmp 2,jh)],[(0,(true,(.pair (.dat nP) (.pair N9 (.pair N9 (.pair (.dat kR) (.pair (.own y2) (.pair N9 N9))))))))]⟩
def e91 (r91:M.den (.box (.pair (.dat nP) (.pair N9 (.pair N9 (.pair (.dat kR) (.pair (.own y2) (.pair N9 N9)))))))->Option (aW ([jh]++[(true,(.pair (.dat nP) (.pair N9 (.pair N9 (.pair (.dat kR) (.pair (.own y2) (.pair N9 N9)))))))]))) (r117:M.den (.box (.pair (.dat nP) (.pair N9 (.pair N9 (.pair (.dat kR) (.pair (.own y2) (.pair N9 N9)))))))->M.den N9->Option (aW ([jh]++[(true,(.pair (.dat nP) (.pair N9 (.pair N9 (.pair (.dat kR) (.pair (.own y2) (.pair N9 N9)))))))]))) (r142:M.den (.box (.pair (.dat nP) (.pair N9 (.pair N9 (.pair (.dat kR) (.pair (.own y2) (.pair N9 N9)))))))->Option (aW ([jh]++[(true,(.pair (.dat nP) (.pair N9 (.pair N9 (.pair (.dat kR) (.pair (.own y2) (.pair N9 N9)))))))]))) (r161:M.den (.box (.pair (.dat nP) (.pair N9 (.pair N9 (.pair (.dat kR) (.pair (.own y2) (.pair N9 N9)))))))->Option (aW ([jh]++[(true,(.pair (.dat nP) (.pair N9 (.pair N9 (.pair (.dat kR) (.pair (.own y2) (.pair N9 N9)))))))]))) (r187:M.den (.box (.pair (.dat nP) (.pair N9 (.pair N9 (.pair (.dat kR) (.pair (.own y2) (.pair N9 N9)))))))->M.den N9->Option (aW ([jh]++[(true,(.pair (.dat nP) (.pair N9 (.pair N9 (.pair (.dat kR) (.pair (.own y2) (.pair N9 N9)))))))]))):Env:=⟨37,eqs,tt,gl,[(116,a4L),(117,⟨a0E,[jh],[(true,(.pair (.dat nP) (.pair N9 (.pair N9 (.pair (.dat kR) (.pair (.own y2) (.pair N9 N9)))))))],λx=>r117 x.1 x.2⟩),(91,⟨a2h,[jh],[(true,(.pair (.dat nP) (.pair N9 (.pair N9 (.pair (.dat kR) (.pair (.own y2) (.pair N9 N9)))))))],λx=>r91 x⟩),(118,a9X),(119,ZO)],[],[],[],[0],[]⟩
def b5N:Ann:=.leaf
def fV(r91:x8->Option (Bool×x8))(r117:x8->Int->Option (Bool×x8))(r142:x8->Option (Bool×x8))(r161:x8->Option (Bool×x8))(r187:x8->Int->Option (Bool×x8))(A:x8):Option (Bool×x8):=o6 (fK A 1 [105,102]) λx=>l9 (H9 x.1) (o6 (r117 x.2 1) λx=>some x) (o6 (r91 (x.2.1,I5 .i64 x.2.2.1 1,x.2.2.2)) λx=>l9 x.1 (o6 (Y7 x.2 1 [116,104,101,110]) λx=>l9 x.1 (o6 (r91 x.2) λx=>l9 x.1 (o6 (Y7 x.2 1 [101,108,115,101]) λx=>l9 x.1 (o6 (r91 x.2) λx=>l9 x.1 (o6 (F8 x.2 26 0) λx=>some x) (some (false,x.2))) (some (false,x.2))) (some (false,x.2))) (some (false,x.2))) (some (false,x.2)))
def b3y:Ret:=⟨[(.tmp 4,jh)],[(0,(true,(.pair (.dat nP) (.pair N9 (.pair N9 (.pair (.dat kR) (.pair (.own y2) (.pair N9 N9))))))))]⟩
def b5P (r91:M.den (.box (.pair (.dat nP) (.pair N9 (.pair N9 (.pair (.dat kR) (.pair (.own y2) (.pair N9 N9)))))))->Option (aW ([jh]++[(true,(.pair (.dat nP) (.pair N9 (.pair N9 (.pair (.dat kR) (.pair (.own y2) (.pair N9 N9)))))))]))) (r117:M.den (.box (.pair (.dat nP) (.pair N9 (.pair N9 (.pair (.dat kR) (.pair (.own y2) (.pair N9 N9)))))))->M.den N9->Option (aW ([jh]++[(true,(.pair (.dat nP) (.pair N9 (.pair N9 (.pair (.dat kR) (.pair (.own y2) (.pair N9 N9)))))))]))) (r142:M.den (.box (.pair (.dat nP) (.pair N9 (.pair N9 (.pair (.dat kR) (.pair (.own y2) (.pair N9 N9)))))))->Option (aW ([jh]++[(true,(.pair (.dat nP) (.pair N9 (.pair N9 (.pair (.dat kR) (.pair (.own y2) (.pair N9 N9)))))))]))) (r161:M.den (.box (.pair (.dat nP) (.pair N9 (.pair N9 (.pair (.dat kR) (.pair (.own y2) (.pair N9 N9)))))))->Option (aW ([jh]++[(true,(.pair (.dat nP) (.pair N9 (.pair N9 (.pair (.dat kR) (.pair (.own y2) (.pair N9 N9)))))))]))) (r187:M.den (.box (.pair (.dat nP) (.pair N9 (.pair N9 (.pair (.dat kR) (.pair (.own y2) (.pair N9 N9)))))))->M.den N9->Option (aW ([jh]++[(true,(.pair (.dat nP) (.pair N9 (.pair N9 (.pair (.dat kR) (.pair (.own y2) (.pair N9 N9)))))))]))):Env:=⟨49,eqs,tt,gl,[(142,⟨a0F,[jh],[(true,(.pair (.dat nP) (.pair N9 (.pair N9 (.pair (.dat kR) (.pair (.own y2) (.pair N9 N9)))))))],λx=>r142 x⟩),(141,XW),(143,b4c),(117,⟨a0E,[jh],[(true,(.pair (.dat nP) (.pair N9 (.pair N9 (.pair (.dat kR) (.pair (.own y2) (.pair N9 N9)))))))],λx=>r117 x.1 x.2⟩),(119,ZO)],[],[],[],[0],[]⟩
def b1G:Ann:=.seq U1 (.seq U1 (.seq U1 (.blk (.loopR [(0,1),(4,8),(11,49),(1000000,1000001),(8000576,8000577)] ⟨[(0,(false,(.box (.pair (.dat nP) (.pair N9 (.pair N9 (.pair (.dat kR) (.pair (.own y2) (.pair N9 N9))))))))),(5,aC)],[]⟩ 999999 ⟨[],[]⟩ (.blk (.seq U1 (.seq (.joinR [(4,5),(17,29)] ⟨[],[]⟩ U1) U1)))))))
def zy(r91:x8->Option (Bool×x8))(r117:x8->Int->Option (Bool×x8))(r142:x8->Option (Bool×x8))(r161:x8->Option (Bool×x8))(r187:x8->Int->Option (Bool×x8))(A:x8)(B:Int):Option (Bool×x8):=o6 (r142 A) λx=>l9 (H9 x.1) (some (false,x.2)) (o6 (P8 (λ(x:x8×Int)=>o6 (O5 x.1 0) λc=>o6 (iF c.1) λb=>o6 (l9 (D5 b.1 0) (some (.inr (true,c.2))) (l9 (I8 b.2 B) (some (.inr (true,c.2))) (l9 (I8 x.2 b.2) (some (.inr (true,c.2))) (some (.inl ()))))) λo=>bP o (λx=>o6 (r117 (c.2.1,I5 .i64 c.2.2.1 1,c.2.2.2) (I5 .i64 b.2 1)) λx=>l9 (H9 x.1) (some (.rt (false,x.2))) (o6 (F8 x.2 b.1 0) λx=>l9 (D5 b.2 3) (some (.nx (x.2,ae .i64 b.2 1))) (some (.nx (x.2,b.2))))) λr=>some (.rt r)) (x.2,5)) λo=>bP o (λ(y:PUnit)=>none) λr=>some r)
def b3z:Ret:=⟨[(.tmp 2,jh)],[(0,(true,(.pair (.dat nP) (.pair N9 (.pair N9 (.pair (.dat kR) (.pair (.own y2) (.pair N9 N9))))))))]⟩
def b5Q (r91:M.den (.box (.pair (.dat nP) (.pair N9 (.pair N9 (.pair (.dat kR) (.pair (.own y2) (.pair N9 N9)))))))->Option (aW ([jh]++[(true,(.pair (.dat nP) (.pair N9 (.pair N9 (.pair (.dat kR) (.pair (.own y2) (.pair N9 N9)))))))]))) (r117:M.den (.box (.pair (.dat nP) (.pair N9 (.pair N9 (.pair (.dat kR) (.pair (.own y2) (.pair N9 N9)))))))->M.den N9->Option (aW ([jh]++[(true,(.pair (.dat nP) (.pair N9 (.pair N9 (.pair (.dat kR) (.pair (.own y2) (.pair N9 N9)))))))]))) (r142:M.den (.box (.pair (.dat nP) (.pair N9 (.pair N9 (.pair (.dat kR) (.pair (.own y2) (.pair N9 N9)))))))->Option (aW ([jh]++[(true,(.pair (.dat nP) (.pair N9 (.pair N9 (.pair (.dat kR) (.pair (.own y2) (.pair N9 N9)))))))]))) (r161:M.den (.box (.pair (.dat nP) (.pair N9 (.pair N9 (.pair (.dat kR) (.pair (.own y2) (.pair N9 N9)))))))->Option (aW ([jh]++[(true,(.pair (.dat nP) (.pair N9 (.pair N9 (.pair (.dat kR) (.pair (.own y2) (.pair N9 N9)))))))]))) (r187:M.den (.box (.pair (.dat nP) (.pair N9 (.pair N9 (.pair (.dat kR) (.pair (.own y2) (.pair N9 N9)))))))->M.den N9->Option (aW ([jh]++[(true,(.pair (.dat nP) (.pair N9 (.pair N9 (.pair (.dat kR) (.pair (.own y2) (.pair N9 N9)))))))]))):Env:=⟨57,eqs,tt,gl,[(116,a4L),(141,XW),(160,b0f),(119,ZO),(142,⟨a0F,[jh],[(true,(.pair (.dat nP) (.pair N9 (.pair N9 (.pair (.dat kR) (.pair (.own y2) (.pair N9 N9)))))))],λx=>r142 x⟩),(161,⟨a4q,[jh],[(true,(.pair (.dat nP) (.pair N9 (.pair N9 (.pair (.dat kR) (.pair (.own y2) (.pair N9 N9)))))))],λx=>r161 x⟩)],[],[],[],[0],[]⟩
def b1H:Ann:=.leaf
def dK(r91:x8->Option (Bool×x8))(r117:x8->Int->Option (Bool×x8))(r142:x8->Option (Bool×x8))(r161:x8->Option (Bool×x8))(r187:x8->Int->Option (Bool×x8))(A:x8):Option (Bool×x8):=o6 (fK A 7 [45]) λx=>l9 x.1 (o6 (O5 x.2 1) λx=>o6 (kw x.1) λb=>l9 (H9 (D5 b 0)) (o6 (kw x.1) λc=>o6 (F8 (x.2.1,I5 .i64 x.2.2.1 2,x.2.2.2) c (ae .i64 0 x.1.2.2.1)) λx=>some x) (o6 (r142 (x.2.1,I5 .i64 x.2.2.1 1,x.2.2.2)) λx=>l9 x.1 (o6 (F8 x.2 10 0) λx=>some x) (some (false,x.2)))) (o6 (fK x.2 1 [110,111,116]) λx=>l9 x.1 (o6 (r142 (x.2.1,I5 .i64 x.2.2.1 1,x.2.2.2)) λx=>l9 x.1 (o6 (F8 x.2 25 0) λx=>some x) (some (false,x.2))) (o6 (r161 x.2) λx=>some x))
def b3A:Ret:=⟨[(.tmp 2,jh)],[(0,(true,(.pair (.dat nP) (.pair N9 (.pair N9 (.pair (.dat kR) (.pair (.own y2) (.pair N9 N9))))))))]⟩
def b5R (r91:M.den (.box (.pair (.dat nP) (.pair N9 (.pair N9 (.pair (.dat kR) (.pair (.own y2) (.pair N9 N9)))))))->Option (aW ([jh]++[(true,(.pair (.dat nP) (.pair N9 (.pair N9 (.pair (.dat kR) (.pair (.own y2) (.pair N9 N9)))))))]))) (r117:M.den (.box (.pair (.dat nP) (.pair N9 (.pair N9 (.pair (.dat kR) (.pair (.own y2) (.pair N9 N9)))))))->M.den N9->Option (aW ([jh]++[(true,(.pair (.dat nP) (.pair N9 (.pair N9 (.pair (.dat kR) (.pair (.own y2) (.pair N9 N9)))))))]))) (r142:M.den (.box (.pair (.dat nP) (.pair N9 (.pair N9 (.pair (.dat kR) (.pair (.own y2) (.pair N9 N9)))))))->Option (aW ([jh]++[(true,(.pair (.dat nP) (.pair N9 (.pair N9 (.pair (.dat kR) (.pair (.own y2) (.pair N9 N9)))))))]))) (r161:M.den (.box (.pair (.dat nP) (.pair N9 (.pair N9 (.pair (.dat kR) (.pair (.own y2) (.pair N9 N9)))))))->Option (aW ([jh]++[(true,(.pair (.dat nP) (.pair N9 (.pair N9 (.pair (.dat kR) (.pair (.own y2) (.pair N9 N9)))))))]))) (r187:M.den (.box (.pair (.dat nP) (.pair N9 (.pair N9 (.pair (.dat kR) (.pair (.own y2) (.pair N9 N9)))))))->M.den N9->Option (aW ([jh]++[(true,(.pair (.dat nP) (.pair N9 (.pair N9 (.pair (.dat kR) (.pair (.own y2) (.pair N9 N9)))))))]))):Env:=⟨126,eqs,tt,gl,[(141,XW),(160,b0f),(119,ZO),(116,a4L),(91,⟨a2h,[jh],[(true,(.pair (.dat nP) (.pair N9 (.pair N9 (.pair (.dat kR) (.pair (.own y2) (.pair N9 N9)))))))],λx=>r91 x⟩),(185,b0i),(92,s92),(186,b4u),(187,⟨a4r,[jh],[(true,(.pair (.dat nP) (.pair N9 (.pair N9 (.pair (.dat kR) (.pair (.own y2) (.pair N9 N9)))))))],λx=>r187 x.1 x.2⟩),(188,b4v)],[],[],[],[0],[]⟩
def b1I:Ann:=.leaf
def eU(r91:x8->Option (Bool×x8))(r117:x8->Int->Option (Bool×x8))(r142:x8->Option (Bool×x8))(r161:x8->Option (Bool×x8))(r187:x8->Int->Option (Bool×x8))(A:x8):Option (Bool×x8):=o6 (O5 A 0) λx=>o6 (kw x.1) λd=>l9 (H9 (D5 d 0)) (o6 (kw x.1) λb=>o6 (F8 (x.2.1,I5 .i64 x.2.2.1 1,x.2.2.2) b x.1.2.2.1) λx=>some x) (l9 (D5 x.1.1 5) (o6 (F8 (x.2.1,I5 .i64 x.2.2.1 1,x.2.2.2) 5 x.1.2.2.1) λx=>some x) (o6 (fK x.2 7 [40]) λb=>l9 b.1 (o6 (r91 (b.2.1,I5 .i64 b.2.2.1 1,b.2.2.2)) λx=>l9 x.1 (o6 (J8 x.2 [41]) λx=>some x) (some (false,x.2))) (l9 (H9 (D5 x.1.1 1)) (o6 (X3 b.2 2) λx=>some x) (l9 (seq x.1.2.1 [116,114,117,101]) (o6 (F8 (b.2.1,I5 .i64 b.2.2.1 1,b.2.2.2) 1 1) λx=>some x) (l9 (seq x.1.2.1 [102,97,108,115,101]) (o6 (F8 (b.2.1,I5 .i64 b.2.2.1 1,b.2.2.2) 1 0) λx=>some x) (l9 (seq x.1.2.1 [116,111,100,97,121]) (o6 (F8 (b.2.1,I5 .i64 b.2.2.1 1,b.2.2.2) 9 0) λx=>some x) (o6 (jm x.1.2.1) λf=>l9 (H9 (D5 f 0)) (o6 (J8 (b.2.1,I5 .i64 b.2.2.1 1,b.2.2.2) [40]) λc=>l9 c.1 (o6 (jm x.1.2.1) λx=>o6 (r187 c.2 x) λx=>l9 x.1 (o6 (J8 x.2 [41]) λx=>some x) (some (false,x.2))) (some (false,c.2))) (o6 (aZ b.2) λx=>some x))))))))
def b3B:Ret:=⟨[(.tmp 4,jh)],[(0,(true,(.pair (.dat nP) (.pair N9 (.pair N9 (.pair (.dat kR) (.pair (.own y2) (.pair N9 N9))))))))]⟩
def b5S (r91:M.den (.box (.pair (.dat nP) (.pair N9 (.pair N9 (.pair (.dat kR) (.pair (.own y2) (.pair N9 N9)))))))->Option (aW ([jh]++[(true,(.pair (.dat nP) (.pair N9 (.pair N9 (.pair (.dat kR) (.pair (.own y2) (.pair N9 N9)))))))]))) (r117:M.den (.box (.pair (.dat nP) (.pair N9 (.pair N9 (.pair (.dat kR) (.pair (.own y2) (.pair N9 N9)))))))->M.den N9->Option (aW ([jh]++[(true,(.pair (.dat nP) (.pair N9 (.pair N9 (.pair (.dat kR) (.pair (.own y2) (.pair N9 N9)))))))]))) (r142:M.den (.box (.pair (.dat nP) (.pair N9 (.pair N9 (.pair (.dat kR) (.pair (.own y2) (.pair N9 N9)))))))->Option (aW ([jh]++[(true,(.pair (.dat nP) (.pair N9 (.pair N9 (.pair (.dat kR) (.pair (.own y2) (.pair N9 N9)))))))]))) (r161:M.den (.box (.pair (.dat nP) (.pair N9 (.pair N9 (.pair (.dat kR) (.pair (.own y2) (.pair N9 N9)))))))->Option (aW ([jh]++[(true,(.pair (.dat nP) (.pair N9 (.pair N9 (.pair (.dat kR) (.pair (.own y2) (.pair N9 N9)))))))]))) (r187:M.den (.box (.pair (.dat nP) (.pair N9 (.pair N9 (.pair (.dat kR) (.pair (.own y2) (.pair N9 N9)))))))->M.den N9->Option (aW ([jh]++[(true,(.pair (.dat nP) (.pair N9 (.pair N9 (.pair (.dat kR) (.pair (.own y2) (.pair N9 N9)))))))]))):Env:=⟨130,eqs,tt,gl,[(119,ZO),(211,b0l),(185,b0i),(91,⟨a2h,[jh],[(true,(.pair (.dat nP) (.pair N9 (.pair N9 (.pair (.dat kR) (.pair (.own y2) (.pair N9 N9)))))))],λx=>r91 x⟩),(212,b4z)],[],[],[],[0],[]⟩
def b1J:Ann:=.seq U1 (.seq (.joinR [(0,1),(4,10),(12,89),(1000000,1000002)] ⟨[(0,(false,(.box (.pair (.dat nP) (.pair N9 (.pair N9 (.pair (.dat kR) (.pair (.own y2) (.pair N9 N9)))))))))],[]⟩ (.seq U1 (.blk (.seq U1 (.cond U1 (.seq (.join [(18,23)] ⟨[(18,jh)],[]⟩ U1) (.cond U1 (.seq (.join [(40,43)] ⟨[(40,jh)],[]⟩ U1) U1)))))))) U1)
def aK(r91:x8->Option (Bool×x8))(r117:x8->Int->Option (Bool×x8))(r142:x8->Option (Bool×x8))(r161:x8->Option (Bool×x8))(r187:x8->Int->Option (Bool×x8))(A:x8)(B:Int):Option (Bool×x8):=o6 (l9 (D5 B 35) (o6 (F8 A B 0) λx=>some (.inr x)) (o6 (l9 (D5 B 36) (some (D5 B 36)) (l9 (D5 B 37) (some (D5 B 37)) (l9 (D5 B 38) (some (D5 B 38)) (some (D5 B 39))))) λx=>l9 x (o6 (aN A A.2.2.2.1.2.2.2.2) λx=>l9 x.2.1 (o6 (F8 x.2.2 B x.1) λx=>some (.inr x)) (some (.inr (false,x.2.2)))) (o6 (l9 (D5 B 33) (some (D5 B 33)) (some (D5 B 34))) λx=>l9 x (o6 (aN A A.2.2.2.1.2.1) λx=>l9 (H9 x.2.1) (some (.inr (false,x.2.2))) (o6 (J8 x.2.2 [44]) λd=>l9 (H9 d.1) (some (.inr (false,d.2))) (o6 (r91 d.2) λb=>l9 (H9 b.1) (some (.inr (false,b.2))) (l9 (D5 B 33) (o6 (F8 b.2 B x.1) λx=>some (.inr x)) (o6 (J8 b.2 [44]) λf=>l9 (H9 f.1) (some (.inr (false,f.2))) (o6 (Y1 f.2) λc=>l9 c.2.1 (o6 (F8 c.2.2 B (I5 .i64 (JK .i64 8 x.1) c.1)) λx=>some (.inr x)) (some (.inr (false,c.2.2))))))))) (some (.inl A))))) λo=>bP o (λ(x:x8)=>o6 (r91 x) λx=>l9 (H9 x.1) (some (false,x.2)) (l9 (D5 B 31) (l9 (D5 B 31) (o6 (F8 x.2 B 0) λx=>some x) (o6 (J8 x.2 [44]) λx=>l9 (H9 x.1) (some (false,x.2)) (o6 (r91 x.2) λx=>l9 (H9 x.1) (some (false,x.2)) (l9 (D5 B 14) (l9 (D5 B 14) (o6 (J8 x.2 [44]) λx=>l9 (H9 x.1) (some (false,x.2)) (o6 (Y1 x.2) λx=>l9 x.2.1 (o6 (F8 x.2.2 B x.1) λx=>some x) (some (false,x.2.2)))) (o6 (F8 x.2 B 0) λx=>some x)) (l9 (D5 B 15) (l9 (D5 B 15) (o6 (J8 x.2 [44]) λx=>l9 (H9 x.1) (some (false,x.2)) (o6 (Y1 x.2) λx=>l9 x.2.1 (o6 (F8 x.2.2 B x.1) λx=>some x) (some (false,x.2.2)))) (o6 (F8 x.2 B 0) λx=>some x)) (l9 (D5 B 16) (o6 (J8 x.2 [44]) λx=>l9 (H9 x.1) (some (false,x.2)) (o6 (Y1 x.2) λx=>l9 x.2.1 (o6 (F8 x.2.2 B x.1) λx=>some x) (some (false,x.2.2)))) (o6 (F8 x.2 B 0) λx=>some x))))))) (l9 (D5 B 32) (o6 (F8 x.2 B 0) λx=>some x) (o6 (J8 x.2 [44]) λx=>l9 (H9 x.1) (some (false,x.2)) (o6 (r91 x.2) λx=>l9 (H9 x.1) (some (false,x.2)) (l9 (D5 B 14) (l9 (D5 B 14) (o6 (J8 x.2 [44]) λx=>l9 (H9 x.1) (some (false,x.2)) (o6 (Y1 x.2) λx=>l9 x.2.1 (o6 (F8 x.2.2 B x.1) λx=>some x) (some (false,x.2.2)))) (o6 (F8 x.2 B 0) λx=>some x)) (l9 (D5 B 15) (l9 (D5 B 15) (o6 (J8 x.2 [44]) λx=>l9 (H9 x.1) (some (false,x.2)) (o6 (Y1 x.2) λx=>l9 x.2.1 (o6 (F8 x.2.2 B x.1) λx=>some x) (some (false,x.2.2)))) (o6 (F8 x.2 B 0) λx=>some x)) (l9 (D5 B 16) (o6 (J8 x.2 [44]) λx=>l9 (H9 x.1) (some (false,x.2)) (o6 (Y1 x.2) λx=>l9 x.2.1 (o6 (F8 x.2.2 B x.1) λx=>some x) (some (false,x.2.2)))) (o6 (F8 x.2 B 0) λx=>some x))))))))) λr=>some r
def o8:Nat->(M.den (.box (.pair (.dat nP) (.pair N9 (.pair N9 (.pair (.dat kR) (.pair (.own y2) (.pair N9 N9)))))))->Option (aW ([jh]++[(true,(.pair (.dat nP) (.pair N9 (.pair N9 (.pair (.dat kR) (.pair (.own y2) (.pair N9 N9)))))))])))×(M.den (.box (.pair (.dat nP) (.pair N9 (.pair N9 (.pair (.dat kR) (.pair (.own y2) (.pair N9 N9)))))))->M.den N9->Option (aW ([jh]++[(true,(.pair (.dat nP) (.pair N9 (.pair N9 (.pair (.dat kR) (.pair (.own y2) (.pair N9 N9)))))))])))×(M.den (.box (.pair (.dat nP) (.pair N9 (.pair N9 (.pair (.dat kR) (.pair (.own y2) (.pair N9 N9)))))))->Option (aW ([jh]++[(true,(.pair (.dat nP) (.pair N9 (.pair N9 (.pair (.dat kR) (.pair (.own y2) (.pair N9 N9)))))))])))×(M.den (.box (.pair (.dat nP) (.pair N9 (.pair N9 (.pair (.dat kR) (.pair (.own y2) (.pair N9 N9)))))))->Option (aW ([jh]++[(true,(.pair (.dat nP) (.pair N9 (.pair N9 (.pair (.dat kR) (.pair (.own y2) (.pair N9 N9)))))))])))×(M.den (.box (.pair (.dat nP) (.pair N9 (.pair N9 (.pair (.dat kR) (.pair (.own y2) (.pair N9 N9)))))))->M.den N9->Option (aW ([jh]++[(true,(.pair (.dat nP) (.pair N9 (.pair N9 (.pair (.dat kR) (.pair (.own y2) (.pair N9 N9)))))))])))|0=>(λa0=>none,λa0 a1=>none,λa0=>none,λa0=>none,λa0 a1=>none)|n+1=>(λa0=>fV (o8 n).1 (o8 n).2.1 (o8 n).2.2.1 (o8 n).2.2.2.1 (o8 n).2.2.2.2 a0,λa0 a1=>zy (o8 n).1 (o8 n).2.1 (o8 n).2.2.1 (o8 n).2.2.2.1 (o8 n).2.2.2.2 a0 a1,λa0=>dK (o8 n).1 (o8 n).2.1 (o8 n).2.2.1 (o8 n).2.2.2.1 (o8 n).2.2.2.2 a0,λa0=>eU (o8 n).1 (o8 n).2.1 (o8 n).2.2.1 (o8 n).2.2.2.1 (o8 n).2.2.2.2 a0,λa0 a1=>aK (o8 n).1 (o8 n).2.1 (o8 n).2.2.1 (o8 n).2.2.2.1 (o8 n).2.2.2.2 a0 a1)
def kX:M.den (.box (.pair (.dat nP) (.pair N9 (.pair N9 (.pair (.dat kR) (.pair (.own y2) (.pair N9 N9)))))))->Option (aW ([jh]++[(true,(.pair (.dat nP) (.pair N9 (.pair N9 (.pair (.dat kR) (.pair (.own y2) (.pair N9 N9)))))))])):=λa0=>(o8 au).1 a0
def s91:FSpec:=mkS a2h b3C λx=>kX x
def iW(A:List UInt8)(B:D7):Option (List H5×H5):=o6 (pJ A) λx=>l9 (H9 (D5 x.2.2 0)) (some ([],x.2)) (o6 (o6 (kX (x.1,0,x9 A,B,[],0,0)) λb=>l9 b.1 (l9 (I8 b.2.2.1 (x9 x.1)) (o6 (X3 b.2 2) λx=>some x.2) (some b.2)) (some b.2)) λx=>l9 (H9 (D5 x.2.2.2.2.2.2 0)) (some ([],x.2.2.2.2.2)) (o6 (rQ x.2.2.2.2.1) λb=>l9 (H9 (D5 b.2 0)) (some ([],0,b.2)) (o6 (jl x.2.2.2.2.1 B) λc=>l9 (H9 (D5 c.2 0)) (some ([],0,2)) (l9 (H9 (seq c.1 A)) (some ([],0,2)) (some (x.2.2.2.2.1,0,0))))))
def q63:FQ:=⟨[uD .str,tD kR],⟨[(.tmp 4,uO y2),(.tmp 5,aC),(.tmp 6,aC)],[]⟩,mE 71 [(90,s90),(91,s91),(92,s92),(30,s30),(15,s15)],sN 4 (jB (.join [(10,11),(30,39),(7001088,7001089),(20000640,20000641)] ⟨[(10,(false,(.box (pA (dT nP) (pA N9 (pA N9 (pA (dT kR) (pA (oW y2) (pA N9 N9)))))))))],[]⟩ U1) U1)⟩
def s63:FSpec:=iq q63 λx=>iW x.1 x.2
def jR(A:J5)(B:List UInt8):Option (Int×J5):=o6 (uV B [32]) λx=>o6 (l9 (H9 x.2.2) (some (.inr (2,A))) (l9 (seq x.1 []) (some (.inr (2,A))) (l9 (seq x.2.1 []) (some (.inr (2,A))) (l9 (I8 0 (x9 A.2.2.2.2.2)) (some (.inr (2,A))) (some (.inl ())))))) λo=>bP o (λd=>l9 (V6 8 (x9 A.2.2.2.1)) (some (4,A)) (o6 (V5 A x.1) λb=>l9 (I8 b.1 0) (some (6,b.2)) (o6 (iW x.2.1 b.2.2.1) λx=>l9 (H9 (D5 x.2.2 0)) (some (x.2.2,b.2)) (o6 (jV b.2.2.2.2.1 [x.1]) λx=>o6 (jV b.2.2.2.2.2.1 [b.1]) λc=>some (0,b.2.1,b.2.2.1,b.2.2.2.1,x,c,b.2.2.2.2.2.2))))) λr=>some r
def q38:FQ:=⟨[(false,(.box (pA (dT y24) (pA (dT kR) (pA N9 (pA (oW y12) (pA oiM (oW y30)))))))),(uD .str)],⟨[(.tmp 4,aC)],[(0,(true,(pA (dT y24) (pA (dT kR) (pA N9 (pA (oW y12) (pA oiM (oW y30))))))))]⟩,⟨86,eqs,tt,gl,[(61,s61),(62,s62),(63,s63)],[],[],[],[0],[]⟩,sN 2 (jB (jnR [(4,5),(18,37)] sgN U1) U1)⟩
def s38:FSpec:=iq q38 λx=>jR x.1 x.2
def iE(A:List UInt8):Option (H5×H5):=l9 (I8 8 (x9 A)) (some ((0,0),0,4)) (o6 (P8 (λ(x:H5×L6)=>l9 (I8 x.2.2 (x9 A)) (o6 (sat A x.2.2) λb=>l9 (D5 b 48) (some (.nx (x.1,(ior .i64 (CV .i64 x.2.1.1 1) 1,CV .i64 x.2.1.2 1),I5 .i64 x.2.2 1))) (l9 (D5 b 49) (some (.nx (x.1,(ior .i64 (CV .i64 x.2.1.1 1) 1,ior .i64 (CV .i64 x.2.1.2 1) 1),I5 .i64 x.2.2 1))) (l9 (D5 b 45) (some (.nx (x.1,(CV .i64 x.2.1.1 1,CV .i64 x.2.1.2 1),I5 .i64 x.2.2 1))) (some (.rt ((0,0),0,2)))))) (some (.ex (x.1,x.2.1)))) ((0,0),(0,0),0)) λo=>bP o (λ(y:H5×H5)=>some (y.2,x9 A,0)) λr=>some r)
def q64:FQ:=⟨[uD .str],⟨[(.cell 2 60,tD y2),(.tmp 3,aC),(.tmp 4,aC)],[]⟩,mE 50 [],sN 3 (jB (sN 1 (blA (lpR [(2,7),(13,47),(4000128,4000129),(17000320,17000321)] ⟨[(2,(false,(.box (dT y2)))),(5,(false,(.box (dT y2)))),(13,aC)],[]⟩ 0 ⟨[(2,(false,(.box (dT y2)))),(5,(false,(.box (dT y2))))],[]⟩ U1))) U1)⟩
def s64:FSpec:=iq q64 λx=>iE x
def kG(A:J5)(B:List UInt8):Option (Int×J5):=o6 (uV B [32]) λx=>o6 (l9 (H9 x.2.2) (some (.inr (2,A))) (l9 (seq x.1 []) (some (.inr (2,A))) (some (.inl ())))) λo=>bP o (λg=>o6 (bH x.2.1 [114,117,108,101,32]) λb=>o6 (l9 b.2 (o6 (jE b.1) λf=>l9 (H9 f) (some (.inr (2,A))) (l9 (H9 b.2) (l9 (H9 (seq x.2.1 [110,111,110,101])) (l9 (H9 (seq x.2.1 [99,111,110,102,108,105,99,116])) (some (.inr (2,A))) (some (.inl ()))) (some (.inl ()))) (some (.inl ())))) (l9 (H9 b.2) (l9 (H9 (seq x.2.1 [110,111,110,101])) (l9 (H9 (seq x.2.1 [99,111,110,102,108,105,99,116])) (some (.inr (2,A))) (some (.inl ()))) (some (.inl ()))) (some (.inl ())))) λo=>bP o (λf=>o6 (l9 (I8 0 (x9 A.2.2.2.1)) (o6 (iE x.1) λx=>l9 (H9 (D5 x.2.2 0)) (some (.inr (2,A))) (l9 (H9 (D5 x.2.1 (x9 A.2.2.2.1))) (some (.inr (2,A))) (l9 (D5 (x9 A.2.2.2.1) 0) (some (.inr (2,A))) (some (.inl (x.1,-1)))))) (l9 (H9 (seq x.1 [46])) (o6 (iE x.1) λx=>l9 (H9 (D5 x.2.2 0)) (some (.inr (2,A))) (l9 (H9 (D5 x.2.1 (x9 A.2.2.2.1))) (some (.inr (2,A))) (l9 (D5 (x9 A.2.2.2.1) 0) (some (.inr (2,A))) (some (.inl (x.1,-1)))))) (some (.inl ((0,0),-1))))) λo=>bP o (λ(c:L6)=>l9 (seq x.2.1 [99,111,110,102,108,105,99,116]) (l9 b.2 (o6 (V5 A b.1) λx=>l9 (I8 x.1 0) (some (6,x.2)) (o6 (jV x.2.2.2.2.2.2 [(c.1,x.1)]) λd=>some (0,x.2.1,x.2.2.1,x.2.2.2.1,x.2.2.2.2.1,x.2.2.2.2.2.1,d))) (o6 (jV A.2.2.2.2.2 [(c.1,-2)]) λx=>some (0,A.1,A.2.1,A.2.2.1,A.2.2.2.1,A.2.2.2.2.1,x))) (l9 b.2 (o6 (V5 A b.1) λx=>l9 (I8 x.1 0) (some (6,x.2)) (o6 (jV x.2.2.2.2.2.2 [(c.1,x.1)]) λd=>some (0,x.2.1,x.2.2.1,x.2.2.2.1,x.2.2.2.2.1,x.2.2.2.2.2.1,d))) (o6 (jV A.2.2.2.2.2 [c]) λx=>some (0,A.1,A.2.1,A.2.2.1,A.2.2.2.1,A.2.2.2.2.1,x)))) λr=>some r) λr=>some r) λr=>some r
def q39:FQ:=⟨[(false,(.box (pA (dT y24) (pA (dT kR) (pA N9 (pA (oW y12) (pA oiM (oW y30)))))))),(uD .str)],⟨[(.tmp 4,aC)],[(0,(true,(pA (dT y24) (pA (dT kR) (pA N9 (pA (oW y12) (pA oiM (oW y30))))))))]⟩,⟨105,eqs,tt,gl,[(61,s61),(36,s36),(37,s37),(64,s64),(62,s62)],[],[],[],[0],[]⟩,sN 2 (jB (jnR [(4,5),(21,27)] sgN U1) (sN 1 (jB (jnR [(4,5),(32,50)] sgN U1) (sN 1 (jB (jnR [(4,5),(10,15),(51,82),(33000640,33000641)] ⟨[(10,(false,(.box (dT y30))))],[]⟩ U1) U1)))))⟩
def s39:FSpec:=iq q39 λx=>kG x.1 x.2
def U0(A:J5)(B:Int)(C:List UInt8):Option (Int×J5):=l9 (D5 B 0) (o6 (bH C [100,101,99,105,115,105,111,110,32]) λx=>l9 (H9 x.2) (some (2,A)) (o6 (jE x.1) λc=>l9 (H9 c) (some (2,A)) (o6 (P8 (λ(b:J5×Int)=>l9 (I8 b.2 (x9 A.1.2.2.2.1)) (o6 (X0 A.1.2.2.2.1 b.2) λd=>l9 (seq d.1 x.1) (some (.rt (0,b.1.1,b.1.2.1,b.2,b.1.2.2.2))) (some (.nx (b.1,I5 .i64 b.2 1)))) (some (.ex b.1))) (A,0)) λo=>bP o (λ(y:J5)=>some (6,y)) λr=>some r))) (o6 (bH C [119,104,101,110,32]) λx=>l9 x.2 (o6 (jR A x.1) λx=>some x) (o6 (bH C [114,111,119,32]) λx=>l9 x.2 (o6 (kG A x.1) λx=>some x) (some (2,A))))
def q20:FQ:=⟨[(false,(.box (pA (dT y24) (pA (dT kR) (pA N9 (pA (oW y12) (pA oiM (oW y30)))))))),aC,(uD .str)],⟨[(.tmp 6,aC)],[(0,(true,(pA (dT y24) (pA (dT kR) (pA N9 (pA (oW y12) (pA oiM (oW y30))))))))]⟩,⟨68,eqs,tt,gl,[(36,s36),(37,s37),(38,s38),(39,s39)],[],[],[],[0],[]⟩,sN 1 (jB (sN 1 (.cond (sN 2 (jB (sN 1 (blA (lpR [(0,1),(6,7),(9,11),(35,50),(1000000,1000004)] ⟨[(0,(false,(.box (pA (dT y24) (pA (dT kR) (pA N9 (pA (oW y12) (pA oiM (oW y30))))))))),(35,aC)],[]⟩ 0 ⟨[(0,(false,(.box (pA (dT y24) (pA (dT kR) (pA N9 (pA (oW y12) (pA oiM (oW y30)))))))))],[]⟩ U1))) U1)) U1)) U1)⟩
def s20:FSpec:=iq q20 λx=>U0 x.1 x.2.1 x.2.2
def bZ(A:gV)(B:Int)(C:List UInt8):Option (O9×H5):=o6 (xw A) λx=>l9 (H9 (oP (D5 x.1 0) (oP (D5 x.2.1 0) (oP (D5 x.2.2.1 0) (D5 x.2.2.2 0))))) (some ((0,[],[],[]),0,1)) (o6 (l9 (I8 B 0) (some (.inr ((0,[],[],[]),0,6))) (l9 (V6 (x9 A.2.2) B) (some (.inr ((0,[],[],[]),0,6))) (some (.inl (0,[],[],[]))))) λo=>bP o (λ(x:O9)=>o6 (mi C) λb=>l9 (H9 (D5 b.2 0)) (some ((0,[],[],[]),0,b.2)) (l9 (D5 (x9 b.1) 0) (some ((0,[],[],[]),0,5)) (o6 (X0 A.2.2 B) λd=>o6 (qg A B) λf=>o6 (P8 (λ(x:O9×J5×Int)=>l9 (I8 x.2.2 (x9 b.1)) (o6 (X0 b.1 x.2.2) λi=>o6 (qN b.1 (jC x.2.2)) λg=>o6 (U0 x.2.1 x.2.2 g) λc=>l9 (H9 (D5 c.1 0)) (some (.rt ((0,[],[],[]),x.2.2,c.1))) (some (.nx (x.1,c.2,I5 .i64 x.2.2 1)))) (some (.ex (x.1,x.2.1)))) (x,(d,f,0,[],[],[]),0)) λo=>bP o (λ(y:O9×J5)=>some (y.2.2.2,0,0)) λr=>some r))) λr=>some r)
def q8:FQ:=⟨[tD y27,aC,(uD .str)],⟨[(.cell 6 31,tD y34),(.tmp 7,aC),(.tmp 8,aC)],[]⟩,mE 70 [(12,s12),(19,s19),(14,s14),(20,s20)],sN 2 (jB (jnR [(6,9),(20,30),(4000384,4000385)] ⟨[(6,(false,(.box (dT y34))))],[]⟩ U1) (sN 4 (jB (sN 1 (blA (lpR [(6,9),(11,15),(54,68),(16000000,16000001),(50000704,50000705)] ⟨[(6,(false,(.box (dT y34)))),(11,(false,(.box (pA (dT y24) (pA (dT kR) (pA N9 (pA (oW y12) (pA oiM (oW y30))))))))),(54,aC)],[]⟩ 0 ⟨[(6,(false,(.box (dT y34)))),(11,(false,(.box (pA (dT y24) (pA (dT kR) (pA N9 (pA (oW y12) (pA oiM (oW y30)))))))))],[]⟩ U1))) U1)))⟩
def s8:FSpec:=iq q8 λx=>bZ x.1 x.2.1 x.2.2
def DY(A:List H5)(B:List H5):Option Bool:=l9 (H9 (D5 (x9 A) (x9 B))) (some false) (o6 (P8 (λ(x:Int)=>l9 (I8 x (x9 A)) (l9 (I8 x (x9 B)) (o6 (X0 A x) λb=>o6 (X0 B x) λc=>l9 (H9 (oP (D5 b.1 c.1) (D5 b.2 c.2))) (some (.rt false)) (some (.nx (I5 .i64 x 1)))) (some (.ex ()))) (some (.ex ()))) 0) λo=>bP o (λy=>some true) λr=>some r)
def q40:FQ:=⟨[uD y12,uD y12],tR 4 jh,mE 32 [],sN 2 (jB (sN 1 (blA (lpR [(4,6),(11,32)] ⟨[(5,aC)],[]⟩ 0 sgN U1))) U1)⟩
def s40:FSpec:=iq q40 λx=>DY x.1 x.2
def DX(A:List (List H5))(B:List (List H5)):Option Bool:=l9 (H9 (D5 (x9 A) (x9 B))) (some false) (o6 (P8 (λ(x:Int)=>l9 (I8 x (x9 A)) (l9 (I8 x (x9 B)) (o6 (X0 A x) λb=>o6 (X0 B x) λc=>o6 (DY b c) λd=>l9 (H9 d) (some (.rt false)) (some (.nx (I5 .i64 x 1)))) (some (.ex ()))) (some (.ex ()))) 0) λo=>bP o (λy=>some true) λr=>some r)
def q21:FQ:=⟨[uD y28,uD y28],tR 4 jh,mE 33 [(40,s40)],sN 2 (jB (sN 1 (blA (lpR [(4,6),(11,33)] ⟨[(5,aC)],[]⟩ 0 sgN U1))) U1)⟩
def s21:FSpec:=iq q21 λx=>DX x.1 x.2
def Hl(A:List Int)(B:List Int):Option Bool:=l9 (H9 (D5 (x9 A) (x9 B))) (some false) (o6 (P8 (λ(x:Int)=>l9 (I8 x (x9 A)) (l9 (I8 x (x9 B)) (o6 (X0 A x) λb=>o6 (X0 B x) λc=>l9 (H9 (D5 b c)) (some (.rt false)) (some (.nx (I5 .i64 x 1)))) (some (.ex ()))) (some (.ex ()))) 0) λo=>bP o (λy=>some true) λr=>some r)
def q22:FQ:=⟨[uD y29,uD y29],tR 4 jh,mE 32 [],sN 2 (jB (sN 1 (blA (lpR [(4,6),(11,32)] ⟨[(5,aC)],[]⟩ 0 sgN U1))) U1)⟩
def s22:FSpec:=iq q22 λx=>Hl x.1 x.2
def uq(A:List L6)(B:List L6):Option Bool:=l9 (H9 (D5 (x9 A) (x9 B))) (some false) (o6 (P8 (λ(x:Int)=>l9 (I8 x (x9 A)) (l9 (I8 x (x9 B)) (o6 (X0 A x) λb=>o6 (X0 B x) λc=>l9 (H9 (oP (D5 b.1.1 c.1.1) (oP (D5 b.1.2 c.1.2) (D5 b.2 c.2)))) (some (.rt false)) (some (.nx (I5 .i64 x 1)))) (some (.ex ()))) (some (.ex ()))) 0) λo=>bP o (λy=>some true) λr=>some r)
def q23:FQ:=⟨[uD y31,uD y31],tR 4 jh,mE 32 [],sN 2 (jB (sN 1 (blA (lpR [(4,6),(11,32)] ⟨[(5,aC)],[]⟩ 0 sgN U1))) U1)⟩
def s23:FSpec:=iq q23 λx=>uq x.1 x.2
def pU(A:O9)(B:O9):Option Bool:=l9 (D5 A.1 B.1) (o6 (DX A.2.1 B.2.1) λx=>l9 x (o6 (Hl A.2.2.1 B.2.2.1) λx=>l9 x (o6 (uq A.2.2.2 B.2.2.2) λx=>some x) (some false)) (some false)) (some false)
def q9:FQ:=⟨[tD y34,tD y34],tR 4 jh,mE 31 [(21,s21),(22,s22),(23,s23)],U1⟩
def s9:FSpec:=iq q9 λx=>pU x.1 x.2
def uH:Option Bool:=o6 (KQ [(7,0)]) λx=>o6 (dY x 0 (0,[],[],[((0,0),0)])) λc=>o6 (bZ x 0 [100,101,99,105,115,105,111,110,32,100,10,114,111,119,32,46,32,114,117,108,101,32,98,97,115,101,10]) λb=>o6 (bZ x 0 []) λx=>l9 (seq c.1 [100,101,99,105,115,105,111,110,32,100,10,114,111,119,32,46,32,114,117,108,101,32,98,97,115,101,10]) (l9 (D5 c.2 0) (l9 (D5 b.2.1 0) (l9 (D5 b.2.2 0) (o6 (pU (0,[],[],[((0,0),0)]) b.1) λd=>l9 d (some (D5 x.2.2 5)) (some false)) (some false)) (some false)) (some false)) (some false)
def q6:FQ:=⟨[],tR 0 jh,mE 58 [(11,s11),(7,s7),(8,s8),(9,s9)],U1⟩
def s6:FSpec:=iq q6 λx=>uH
def ps3:List MG:=[(true,(.dat y27)),aC,(true,(.dat y34)),(false,(.dat .str))]
def oH(A:gV)(B:Int)(C:O9)(D:List UInt8):Option Bool:=o6 (o6 (yM A) λx=>l9 (H9 x) (o6 uH λx=>some (.inr x)) (o6 (BB C) λx=>l9 (H9 x) (o6 uH λx=>some (.inr x)) (l9 (I8 4000 (x9 D)) (o6 uH λx=>some (.inr x)) (some (.inl ()))))) λo=>bP o (λx=>o6 (dY A B C) λx=>o6 (l9 (D5 x.2 0) (o6 (bZ A B x.1) λx=>l9 (H9 (D5 x.2.2 0)) (some (.inr false)) (l9 (H9 (D5 x.2.1 0)) (some (.inr false)) (o6 (pU C x.1) λx=>l9 (H9 x) (some (.inr false)) (some (.inl ()))))) (some (.inl ()))) λo=>bP o (λx=>o6 (bZ A B D) λx=>l9 (H9 (D5 x.2.2 0)) (o6 uH λx=>some x) (o6 (dY A B x.1) λx=>l9 (D5 x.2 0) (l9 (seq x.1 D) (o6 uH λx=>some x) (some false)) (some false))) λr=>some r) λr=>some r
def q3:FQ:=⟨ps3,tR 8 jh,mE 90 [(4,s4),(5,s5),(6,s6),(7,s7),(8,s8),(9,s9)],sN 1 (jB (jnR [(8,9),(19,33)] sgN U1) (sN 1 (jB (jnR [(8,9),(11,14),(40,62)] sgN U1) U1)))⟩
def s3:FSpec:=iq q3 λx=>oH x.1 x.2.1 x.2.2.1 x.2.2.2
abbrev b6j:Ty:=y27
end
end Gt
