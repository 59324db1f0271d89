import Derived.Test.YtojgelgdjaaopaaGreatDoorT2
set_option linter.all false
open Go Go.GP
namespace Gt
set_option maxRecDepth 100000
noncomputable section
def NY(f:Func):Code:=match f.body with|some c=>c|none=> .skip
abbrev mkS(ps:List MG)(rt:Ret)(F:V7 ps->Option rt.den):FSpec:=⟨ps,rt.rs.map (·.2),rt.outs.map (·.2),F⟩
structure FQ where
 (ps:List MG)
 (rt:Ret)
 (E:Env)
 (an:Ann)
abbrev ai(q:FQ)(F:V7 q.ps->Option q.rt.den):FSpec:=mkS q.ps q.rt F
abbrev jnR:=Ann.joinR
abbrev lpR:=Ann.loopR
abbrev aT:=Ann.seq
abbrev iZ:=Ann.blk
abbrev sgN:Sig:=⟨[],[]⟩
def sN:Nat->Ann->Ann
 |0,a=>a|n+1,a=> .seq .leaf (sN n a)
abbrev uO(t:Ty):MG:=(false,.own t)
abbrev uD(t:Ty):MG:=(false,.dat t)
abbrev tD(t:Ty):MG:=(true,.dat t)
abbrev pA:=M.pair
abbrev oW:=M.own
abbrev dT:=M.dat
abbrev H8:Ann:=.leaf
abbrev J6:M:=.dat (.int .i64)
abbrev oiM:M:=.own (.int .i64)
abbrev dbM:M:=.dat .bool
abbrev L6:MG:=(false,J6)
abbrev bQ:MG:=(false,dbM)
abbrev uoM:MG:=(false,oiM)
abbrev y0:Ty:=.prod .str (.sl .str)
abbrev y1:Ty:=.sl y0
abbrev y2:Ty:=.prod (.int .i64) (.int .i64)
abbrev y3:Ty:=.prod (.int .i64) y2
abbrev y4:Ty:=.prod y2 y3
abbrev y5:Ty:=.sl y4
abbrev y6:Ty:=.prod y2 y5
abbrev y7:Ty:=.prod y2 y6
abbrev y8:Ty:=.prod .str y7
abbrev y9:Ty:=.sl y8
abbrev y10:Ty:=.prod .str y2
abbrev y11:Ty:=.sl y10
abbrev y12:Ty:=.sl y2
abbrev y13:Ty:=.prod y12 .str
abbrev y14:Ty:=.prod y12 y13
abbrev y15:Ty:=.prod y2 y14
abbrev y16:Ty:=.prod (.int .i64) y15
abbrev y17:Ty:=.prod (.int .i64) y16
abbrev y18:Ty:=.prod (.int .i64) y17
abbrev y19:Ty:=.prod .str y18
abbrev y20:Ty:=.sl y19
abbrev y21:Ty:=.prod y11 y20
abbrev y22:Ty:=.prod y11 y21
abbrev y23:Ty:=.prod (.int .i64) y22
abbrev y24:Ty:=.prod .str y23
abbrev y25:Ty:=.sl y24
abbrev y26:Ty:=.prod y9 y25
abbrev y27:Ty:=.prod y1 y26
abbrev y28:Ty:=.sl y12
abbrev y29:Ty:=.sl (.int .i64)
abbrev y30:Ty:=.prod y2 (.int .i64)
abbrev y31:Ty:=.sl y30
abbrev y32:Ty:=.prod y29 y31
abbrev y33:Ty:=.prod y28 y32
abbrev y34:Ty:=.prod (.int .i64) y33
abbrev y35:Ty:=.prod (.int .i64) y3
abbrev y36:Ty:=.sl (.int .u8)
abbrev y37:Ty:=.prod (.sl .str) (.sl .str)
abbrev y38:Ty:=.prod (.sl .str) y37
abbrev y39:Ty:=.prod (.sl .str) y38
abbrev iP:Ty:=.prod y1 y39
abbrev y41:Ty:=.prod iP y34
abbrev y42:Ty:=.prod y24 y41
abbrev y43:Ty:=.prod (.int .i64) .bool
abbrev y44:Ty:=.prod .str y43
abbrev y45:Ty:=.sl y44
abbrev y46:Ty:=.prod y12 iP
abbrev y47:Ty:=.prod y12 .bool
abbrev y48:Ty:=.prod y12 y47
abbrev y49:Ty:=.prod y12 y48
abbrev y50:Ty:=.prod y9 y49
abbrev y51:Ty:=.prod y1 y50
abbrev y52:Ty:=.prod (.int .i64) y10
abbrev kY:Ty:=.sl y52
abbrev y54:Ty:=.prod y12 y2
abbrev y55:Ty:=.prod iP y54
abbrev y56:Ty:=.prod (.int .i64) y55
abbrev y57:Ty:=.prod (.int .i64) y56
abbrev y58:Ty:=.prod kY y57
abbrev y59:Ty:=.sl y29
def tt:List (Nat×TI):=[(3,⟨1,8,(.int .i64),some (.int .i64),[.i .i64 0]⟩),(4,⟨1,1,.bool,some .bool,[.b false]⟩),(5,⟨1,1,(.int .u8),some (.int .u8),[.i .u8 0]⟩),(9,⟨1,16,.str,some .str,[.s []]⟩),(21,⟨1,4,(.int .i32),some (.int .i32),[.i .i32 0]⟩),(22,⟨1,24,(.sl 41),some y1,[.nl]⟩),(23,⟨1,24,(.sl 46),some y9,[.nl]⟩),(24,⟨1,24,(.sl 50),some y25,[.nl]⟩),(26,⟨3,72,(.struct [(22,0),(23,1),(24,2)]),some y27,[.nl,.nl,.nl]⟩),(27,⟨1,24,(.sl 52),some y28,[.nl]⟩),(28,⟨1,24,(.sl 3),some y29,[.nl]⟩),(29,⟨1,24,(.sl 59),some y31,[.nl]⟩),(31,⟨4,80,(.struct [(3,0),(27,1),(28,2),(29,3)]),some y34,[.i .i64 0,.nl,.nl,.nl]⟩),(35,⟨1,8,(.int .i64),some (.int .i64),[.i .i64 0]⟩),(39,⟨1,24,(.sl 9),some (.sl .str),[.nl]⟩),(41,⟨2,40,(.struct [(9,0),(39,1)]),some y0,[.s [],.nl]⟩),(43,⟨2,16,(.struct [(3,0),(3,1)]),some y2,[.i .i64 0,.i .i64 0]⟩),(44,⟨1,24,(.sl 166),some y5,[.nl]⟩),(46,⟨6,72,(.struct [(9,0),(43,1),(43,3),(44,5)]),some y8,[.s [],.i .i64 0,.i .i64 0,.i .i64 0,.i .i64 0,.nl]⟩),(47,⟨1,24,(.sl 75),some y11,[.nl]⟩),(48,⟨1,24,(.sl 83),some y20,[.nl]⟩),(50,⟨5,96,(.struct [(9,0),(3,1),(47,2),(47,3),(48,4)]),some y24,[.s [],.i .i64 0,.nl,.nl,.nl]⟩),(52,⟨1,24,(.sl 55),some y12,[.nl]⟩),(55,⟨2,16,(.struct [(3,0),(3,1)]),some y2,[.i .i64 0,.i .i64 0]⟩),(57,⟨2,16,(.struct [(3,0),(3,1)]),some y2,[.i .i64 0,.i .i64 0]⟩),(59,⟨3,24,(.struct [(57,0),(3,2)]),some y30,[.i .i64 0,.i .i64 0,.i .i64 0]⟩),(64,⟨4,32,(.struct [(35,0),(3,1),(3,2),(3,3)]),some y35,[.i .i64 0,.i .i64 0,.i .i64 0,.i .i64 0]⟩),(66,⟨1,8,(.ptr 69),none,[]⟩),(67,⟨1,24,(.sl 5),some y36,[.nl]⟩),(69,⟨2,32,(.struct [(66,0),(67,1)]),none,[.npt,.nl]⟩),(75,⟨3,32,(.struct [(9,0),(43,1)]),some y10,[.s [],.i .i64 0,.i .i64 0]⟩),(77,⟨5,120,(.struct [(22,0),(39,1),(39,2),(39,3),(39,4)]),some iP,[.nl,.nl,.nl,.nl,.nl]⟩),(81,⟨2,16,(.struct [(3,0),(3,1)]),some y2,[.i .i64 0,.i .i64 0]⟩),(83,⟨9,120,(.struct [(9,0),(3,1),(3,2),(3,3),(81,4),(52,6),(52,7),(9,8)]),some y19,[.s [],.i .i64 0,.i .i64 0,.i .i64 0,.i .i64 0,.i .i64 0,.nl,.nl,.s []]⟩),(96,⟨14,296,(.struct [(50,0),(77,5),(31,10)]),some y42,[.s [],.i .i64 0,.nl,.nl,.nl,.nl,.nl,.nl,.nl,.nl,.i .i64 0,.nl,.nl,.nl]⟩),(105,⟨1,24,(.sl 109),some y45,[.nl]⟩),(109,⟨3,32,(.struct [(9,0),(3,1),(4,2)]),some y44,[.s [],.i .i64 0,.b false]⟩),(116,⟨6,144,(.struct [(52,0),(77,1)]),some y46,[.nl,.nl,.nl,.nl,.nl,.nl]⟩),(145,⟨3,24,(.struct [(3,0),(3,1),(3,2)]),some y3,[.i .i64 0,.i .i64 0,.i .i64 0]⟩),(166,⟨5,40,(.struct [(81,0),(3,2),(3,3),(3,4)]),some y4,[.i .i64 0,.i .i64 0,.i .i64 0,.i .i64 0,.i .i64 0]⟩),(179,⟨1,24,(.sl 43),some y12,[.nl]⟩),(181,⟨6,128,(.struct [(22,0),(23,1),(179,2),(179,3),(179,4),(4,5)]),some y51,[.nl,.nl,.nl,.nl,.nl,.b false]⟩),(191,⟨1,24,(.sl 226),some kY,[.nl]⟩),(195,⟨11,200,(.struct [(191,0),(3,1),(3,2),(77,3),(52,8),(3,9),(35,10)]),some y58,[.nl,.i .i64 0,.i .i64 0,.nl,.nl,.nl,.nl,.nl,.nl,.i .i64 0,.i .i64 0]⟩),(212,⟨1,24,(.sl 28),some y59,[.nl]⟩),(220,⟨1,8,(.int .u64),some (.int .u64),[.i .u64 0]⟩),(226,⟨4,40,(.struct [(3,0),(9,1),(3,2),(3,3)]),some y52,[.i .i64 0,.s [],.i .i64 0,.i .i64 0]⟩),(236,⟨1,24,(.sl 4),some (.sl .bool),[.nl]⟩),(271,⟨12,96,(.arr 12 3),none,[.i .i64 0,.i .i64 0,.i .i64 0,.i .i64 0,.i .i64 0,.i .i64 0,.i .i64 0,.i .i64 0,.i .i64 0,.i .i64 0,.i .i64 0,.i .i64 0]⟩)]
def eqs:List (Nat×List Ty):=[(43,[(.int .i64),(.int .i64)]),(55,[(.int .i64),(.int .i64)]),(59,[(.int .i64),(.int .i64),(.int .i64)]),(64,[(.int .i64),(.int .i64),(.int .i64),(.int .i64)])]
def gl:List (Nat×(t:Ty)×List t.den):=[(1,⟨.int .i64,[31,28,31,30,31,30,31,31,30,31,30,31]⟩),(2,⟨.int .u64,[1,10,100,1000,10000,100000,1000000,10000000,100000000,1000000000,10000000000,100000000000,1000000000000,10000000000000,100000000000000,1000000000000000,10000000000000000,100000000000000000,1000000000000000000,10000000000000000000]⟩)]
abbrev mE(n:Nat)(fs:List (Nat×FSpec)):Env:=⟨n,eqs,tt,gl,fs,[],[],[],[],[]⟩
abbrev tR(n:Nat)(m:MG):Ret:=⟨[(.tmp n,m)],[]⟩
abbrev cR(n k:Nat)(m:MG):Ret:=⟨[(.cell n k,m)],[]⟩
abbrev I9:Type:=Ty.den y2
abbrev dL:Type:=Ty.den y0
abbrev az:Type:=Ty.den y30
abbrev jh:Type:=Ty.den y10
abbrev G8:Type:=Ty.den y44
abbrev Ep:Type:=Ty.den y3
abbrev W9:Type:=Ty.den y35
abbrev Eg:Type:=Ty.den y4
abbrev tJ:Type:=Ty.den y52
abbrev D9:Type:=Ty.den iP
abbrev X5:Type:=Ty.den y34
abbrev G6:Type:=Ty.den y46
abbrev kF:Type:=Ty.den y8
abbrev iw:Type:=Ty.den y19
abbrev D5:Type:=Ty.den y58
abbrev P6:Type:=Ty.den y51
abbrev P5:Type:=Ty.den y24
abbrev af:Type:=Ty.den y42
abbrev dJ:Type:=Ty.den y27
def uB(A:P5):Option Bool:=l9 (l7 (H6 80 (o9 A.1)) (some (.inr false)) (l7 (H6 14 (o9 A.2.2.1)) (some (.inr false)) (l7 (H6 14 (o9 A.2.2.2.1)) (some (.inr false)) (l7 (H6 60 (o9 A.2.2.2.2)) (some (.inr false)) (some (.inl ())))))) λo=>Y0 o (λx=>l9 (U0 (λ(x:Int)=>l7 (H6 x (o9 A.2.2.1)) (l9 (J9 A.2.2.1 x) λb=>l7 (H6 80 (o9 b.1)) (some (.rt false)) (some (.nx (F6 .i64 x 1)))) (some (.ex ()))) 0) λo=>Y0 o (λy=>l9 (U0 (λ(x:Int)=>l7 (H6 x (o9 A.2.2.2.1)) (l9 (J9 A.2.2.2.1 x) λb=>l7 (H6 80 (o9 b.1)) (some (.rt false)) (some (.nx (F6 .i64 x 1)))) (some (.ex ()))) 0) λo=>Y0 o (λy=>l9 (U0 (λ(x:Int)=>l7 (H6 x (o9 A.2.2.2.2)) (l9 (J9 A.2.2.2.2 x) λb=>l7 (H6 80 (o9 b.1)) (some (.rt false)) (l7 (H6 80 (o9 b.2.2.2.2.2.2.2)) (some (.rt false)) (l7 (H6 50 (o9 b.2.2.2.2.2.1)) (some (.rt false)) (l7 (H6 50 (o9 b.2.2.2.2.2.2.1)) (some (.rt false)) (some (.nx (F6 .i64 x 1))))))) (some (.ex ()))) 0) λo=>Y0 o (λy=>some true) λr=>some r) λr=>some r) λr=>some r) λr=>some r
def q9:FQ:=⟨[tD y24],tR 2 bQ,mE 93 [],sN 1 (aT (jnR [(2,3),(7,29)] sgN H8) (aT (sN 1 (iZ (lpR [(2,4),(29,44)] ⟨[(3,L6)],[]⟩ 0 sgN H8))) (aT (sN 1 (iZ (lpR [(2,3),(4,5),(44,59)] ⟨[(4,L6)],[]⟩ 2 sgN H8))) (aT (sN 1 (iZ (lpR [(2,3),(5,7),(59,93)] ⟨[(5,L6)],[]⟩ 4 sgN H8))) H8))))⟩
def s9:FSpec:=ai q9 λx=>uB x
def xH(A:dJ):Option Bool:=l9 (l7 (H6 9 (o9 A.1)) (some (.inr false)) (l7 (H6 9 (o9 A.2.1)) (some (.inr false)) (l7 (H6 5 (o9 A.2.2)) (some (.inr false)) (some (.inl ()))))) λo=>Y0 o (λx=>l9 (U0 (λ(x:Int)=>l7 (H6 x (o9 A.1)) (l9 (J9 A.1 x) λb=>l7 (H6 80 (o9 b.1)) (some (.rt false)) (l9 (J9 A.1 x) λc=>l7 (H6 20 (o9 c.2)) (some (.rt false)) (l9 (U0 (λ(d:Int)=>l9 (J9 A.1 x) λf=>l7 (H6 d (o9 f.2)) (l9 (J9 A.1 x) λx=>l9 (J9 x.2 d) λx=>l7 (H6 80 (o9 x)) (some (.rt false)) (some (.nx (F6 .i64 d 1)))) (some (.ex ()))) 0) λo=>Y0 o (λy=>some (.nx (F6 .i64 x 1))) λr=>some (.rt r)))) (some (.ex ()))) 0) λo=>Y0 o (λy=>l9 (U0 (λ(x:I9)=>l7 (H6 x.2 (o9 A.2.1)) (l9 (J9 A.2.1 x.2) λb=>l9 (J9 A.2.1 x.2) λc=>l7 (H6 80 (o9 c.1)) (some (.rt false)) (l7 (H6 150 (F6 .i64 x.1 (o9 b.2.2.2))) (some (.rt false)) (some (.nx (F6 .i64 x.1 (o9 b.2.2.2),F6 .i64 x.2 1))))) (some (.ex ()))) (0,0)) λo=>Y0 o (λy=>l9 (U0 (λ(x:I9)=>l7 (H6 x.2 (o9 A.2.2)) (l9 (J9 A.2.2 x.2) λb=>l7 (H6 60 (F6 .i64 x.1 (o9 b.2.2.2.2))) (some (.rt false)) (l9 (J9 A.2.2 x.2) λc=>l9 (uB c) λd=>l7 (G7 d) (some (.rt false)) (some (.nx (F6 .i64 x.1 (o9 b.2.2.2.2),F6 .i64 x.2 1))))) (some (.ex ()))) (0,0)) λo=>Y0 o (λy=>some true) λr=>some r) λr=>some r) λr=>some r) λr=>some r
def q4:FQ:=⟨[tD y27],tR 2 bQ,mE 127 [(9,s9)],sN 1 (aT (jnR [(2,3),(9,25)] sgN H8) (sN 2 (aT (sN 1 (iZ (lpR [(2,3),(5,7),(25,72)] ⟨[(5,L6)],[]⟩ 0 sgN (sN 1 (aT (iZ (sN 2 (iZ (lpR [(2,3),(6,7),(50,72)] ⟨[(6,L6)],[]⟩ 2 sgN H8)))) H8))))) (aT (sN 1 (iZ (lpR [(2,4),(7,8),(72,100)] ⟨[(3,L6),(7,L6)],[]⟩ 4 sgN H8))) (aT (sN 1 (iZ (lpR [(2,3),(4,5),(8,9),(100,127)] ⟨[(4,L6),(8,L6)],[]⟩ 6 sgN H8))) H8)))))⟩
def s4:FSpec:=ai q4 λx=>xH x
def AV(A:X5):Option Bool:=l9 (l7 (H6 10 (o9 A.2.1)) (some (.inr false)) (l7 (H6 20 (o9 A.2.2.1)) (some (.inr false)) (l7 (H6 60 (o9 A.2.2.2)) (some (.inr false)) (some (.inl ()))))) λo=>Y0 o (λx=>l9 (U0 (λ(x:Int)=>l7 (H6 x (o9 A.2.1)) (l9 (J9 A.2.1 x) λb=>l7 (H6 60 (o9 b)) (some (.rt false)) (some (.nx (F6 .i64 x 1)))) (some (.ex ()))) 0) λo=>Y0 o (λy=>some true) λr=>some r) λr=>some r
def q5:FQ:=⟨[tD y34],tR 2 bQ,mE 34 [],sN 1 (aT (jnR [(2,3),(4,20)] sgN H8) (aT (sN 1 (iZ (lpR [(2,4),(20,34)] ⟨[(3,L6)],[]⟩ 0 sgN H8))) H8))⟩
def s5:FSpec:=ai q5 λx=>AV x
def JH(A:List I9):Option dJ:=some ([],[],[([104,111,117,115,101],-1,[([97],3,0)],[([100],3,0)],[([98,97,115,101],0,-1,0,(0,109573),[],A,[])])])
def q10:FQ:=⟨[uD y12],⟨[(.cell 2 26,(true,(pA (dT y1) (pA (dT y9) (.owns (pA (dT .str) (pA J6 (pA (dT y11) (pA (dT y11) (oW y19))))))))))],[]⟩,⟨22,eqs,tt,gl,[],[(24,(pA (dT .str) (pA J6 (pA (dT y11) (pA (dT y11) (oW y19))))))],[],[],[],[]⟩,H8⟩
def s10:FSpec:=ai q10 λx=>JH x
def mg(A:Int):Option Bool:=l7 (O9 97 A) (some (O9 A 122)) (some false)
def a9O:FQ:=⟨[(false,(dT (.int .u8)))],tR 2 bQ,mE 9 [],H8⟩
def a2n:FSpec:=ai a9O λx=>mg x
def kD(A:Int):Option Bool:=l7 (O9 48 A) (some (O9 A 57)) (some false)
def b0p:FQ:=⟨[(false,(dT (.int .u8)))],tR 2 bQ,mE 9 [],H8⟩
def a2r:FSpec:=ai b0p λx=>kD x
def pF(A:List UInt8):Option Int:=l9 (dK (λ(x:Int)=>l7 (H6 x (o9 A)) (l9 (sat A x) λb=>l9 (mg b) λc=>l7 c (some (.inl (F6 .i64 x 1))) (l9 (sat A x) λd=>l9 (kD d) λf=>l7 f (some (.inl (F6 .i64 x 1))) (l9 (sat A x) λg=>l7 (C9 g 95) (some (.inl (F6 .i64 x 1))) (some (.inr x))))) (some (.inr x))) 0) λy=>some y
def a9P:FQ:=⟨[uD .str],tR 2 L6,mE 29 [(101,a2n),(138,a2r)],sN 2 (aT (iZ (.loop [(3,28)] ⟨[(3,L6)],[]⟩ 0 ⟨[(3,L6)],[]⟩ H8)) H8)⟩
def a6M:FSpec:=ai a9P λx=>pF x
def vX(A:List UInt8):Option Bool:=l9 (l7 (seq A [105,102]) (some (seq A [105,102])) (l7 (seq A [116,104,101,110]) (some (seq A [116,104,101,110])) (l7 (seq A [101,108,115,101]) (some (seq A [101,108,115,101])) (l7 (seq A [111,114]) (some (seq A [111,114])) (l7 (seq A [97,110,100]) (some (seq A [97,110,100])) (l7 (seq A [110,111,116]) (some (seq A [110,111,116])) (l7 (seq A [116,114,117,101]) (some (seq A [116,114,117,101])) (l7 (seq A [102,97,108,115,101]) (some (seq A [102,97,108,115,101])) (l7 (seq A [116,111,100,97,121]) (some (seq A [116,111,100,97,121])) (l7 (seq A [115,104,97,114,101]) (some (seq A [115,104,97,114,101])) (l7 (seq A [100,105,118]) (some (seq A [100,105,118])) (l7 (seq A [114,111,117,110,100]) (some (seq A [114,111,117,110,100])) (l7 (seq A [109,105,110]) (some (seq A [109,105,110])) (l7 (seq A [109,97,120]) (some (seq A [109,97,120])) (l7 (seq A [112,108,117,115]) (some (seq A [112,108,117,115])) (l7 (seq A [109,111,110,116,104,115]) (some (seq A [109,111,110,116,104,115])) (l7 (seq A [100,97,121,115]) (some (seq A [100,97,121,115])) (l7 (seq A [121,101,97,114,115]) (some (seq A [121,101,97,114,115])) (l7 (seq A [121,101,97,114]) (some (seq A [121,101,97,114])) (l7 (seq A [109,111,110,116,104]) (some (seq A [109,111,110,116,104])) (l7 (seq A [116,97,98]) (some (seq A [116,97,98])) (l7 (seq A [98,97,110,100]) (some (seq A [98,97,110,100])) (l7 (seq A [99,111,117,110,116]) (some (seq A [99,111,117,110,116])) (l7 (seq A [115,117,109]) (some (seq A [115,117,109])) (l7 (seq A [97,108,108]) (some (seq A [97,108,108])) (l7 (seq A [97,110,121]) (some (seq A [97,110,121])) (l7 (seq A [109,111,115,116]) (some (seq A [109,111,115,116])) (l7 (seq A [101,110,117,109]) (some (seq A [101,110,117,109])) (l7 (seq A [116,97,98,108,101]) (some (seq A [116,97,98,108,101])) (l7 (seq A [114,111,119]) (some (seq A [114,111,119])) (l7 (seq A [115,99,111,112,101]) (some (seq A [115,99,111,112,101])) (l7 (seq A [109,101,109,98,101,114,115]) (some (seq A [109,101,109,98,101,114,115])) (l7 (seq A [105,110,112,117,116]) (some (seq A [105,110,112,117,116])) (l7 (seq A [100,101,102]) (some (seq A [100,101,102])) (l7 (seq A [114,117,108,101]) (some (seq A [114,117,108,101])) (l7 (seq A [111,102]) (some (seq A [111,102])) (l7 (seq A [111,118,101,114]) (some (seq A [111,118,101,114])) (l7 (seq A [112,114,105,111]) (some (seq A [112,114,105,111])) (l7 (seq A [102,114,111,109]) (some (seq A [102,114,111,109])) (l7 (seq A [116,111]) (some (seq A [116,111])) (l7 (seq A [101,110,100]) (some (seq A [101,110,100])) (l7 (seq A [119,104,101,110]) (some (seq A [119,104,101,110])) (l7 (seq A [105,115]) (some (seq A [105,115])) (l7 (seq A [115,114,99]) (some (seq A [115,114,99])) (l7 (seq A [98,111,111,108]) (some (seq A [98,111,111,108])) (l7 (seq A [105,110,116]) (some (seq A [105,110,116])) (l7 (seq A [109,111,110,101,121]) (some (seq A [109,111,110,101,121])) (l7 (seq A [114,97,116,101]) (some (seq A [114,97,116,101])) (l7 (seq A [100,97,116,101]) (some (seq A [100,97,116,101])) (l7 (seq A [100,111,119,110]) (some (seq A [100,111,119,110])) (l7 (seq A [117,112]) (some (seq A [117,112])) (l7 (seq A [122,101,114,111]) (some (seq A [122,101,114,111])) (l7 (seq A [97,119,97,121]) (some (seq A [97,119,97,121])) (l7 (seq A [104,97,108,102]) (some (seq A [104,97,108,102])) (some (seq A [101,118,101,110])))))))))))))))))))))))))))))))))))))))))))))))))))))))) λx=>l7 x (some true) (some false)
def a9Q:FQ:=⟨[uD .str],tR 2 bQ,mE 60 [],sN 1 (aT (sN 1 (iZ (aT (.join [(4,60)] ⟨[(4,bQ)],[]⟩ H8) H8))) H8)⟩
def b2w:FSpec:=ai a9Q λx=>vX x
def bK(A:List UInt8):Option Bool:=l7 (G7 (seq A [])) (l9 (sat A 0) λx=>l9 (mg x) λx=>l7 x (l9 (pF A) λx=>l7 (C9 x (o9 A)) (l7 (O9 (o9 A) 16) (l9 (vX A) λx=>some (G7 x)) (some false)) (some false)) (some false)) (some false)
def q59:FQ:=⟨[uD .str],tR 2 bQ,mE 27 [(101,a2n),(102,a6M),(103,b2w)],H8⟩
def s59:FSpec:=ai q59 λx=>bK x
def BB(A:dL)(B:List UInt8):Option Bool:=some (seq A.1 B)
def a1H:FQ:=⟨[tD y0,(false,(.rp .str))],tR 3 bQ,mE 8 [],H8⟩
def Yh:FSpec:=ai a1H λx=>BB x.1 x.2
def iW(A:List dL)(B:List UInt8):Option Int:=l9 (U0 (λ(x:Int)=>l7 (H6 x (o9 A)) (l9 (J9 A x) λb=>l9 (BB b B) λc=>l7 c (some (.rt x)) (some (.nx (F6 .i64 x 1)))) (some (.ex ()))) 0) λo=>Y0 o (λy=>some (-1)) λr=>some r
def a1M:FQ:=⟨[uD y1,(false,(.fn 105 [.str]))],tR 4 L6,mE 19 [(105,Yh)],sN 1 (aT (sN 1 (iZ (lpR [(4,6),(8,19)] ⟨[(8,L6)],[]⟩ 0 sgN H8))) H8)⟩
def a2s:FSpec:=ai a1M λx=>iW x.1 x.2
def gY(A:List dL)(B:List UInt8):Option Bool:=l9 (iW A B) λx=>some (O9 0 x)
def a1G:FQ:=⟨[uD y1,(false,(.fn 105 [.str]))],tR 4 bQ,mE 9 [(139,a2s)],H8⟩
def a2o:FSpec:=ai a1G λx=>gY x.1 x.2
def uY(A:List dL)(B:List UInt8):Option Bool:=l9 (gY A B) λx=>some x
def q60:FQ:=⟨[uD y1,(uD .str)],tR 4 bQ,mE 8 [(105,Yh),(104,a2o)],H8⟩
def s60:FSpec:=ai q60 λx=>uY x.1 x.2
def gG(A:List (List UInt8))(B:List UInt8):Option Int:=l9 (U0 (λ(x:Int)=>l7 (H6 x (o9 A)) (l9 (J9 A x) λb=>l7 (seq B b) (some (.rt x)) (some (.nx (F6 .i64 x 1)))) (some (.ex ()))) 0) λo=>Y0 o (λy=>some (-1)) λr=>some r
def b0n:FQ:=⟨[uD (.sl .str),(uD .str)],tR 4 L6,mE 19 [],sN 1 (aT (sN 1 (iZ (lpR [(4,6),(8,19)] ⟨[(8,L6)],[]⟩ 0 sgN H8))) H8)⟩
def a4P:FSpec:=ai b0n λx=>gG x.1 x.2
def iG(A:List (List UInt8))(B:List UInt8):Option Bool:=l9 (gG A B) λx=>some (O9 0 x)
def q94:FQ:=⟨[uD (.sl .str),(uD .str)],tR 4 bQ,mE 9 [(136,a4P)],H8⟩
def s94:FSpec:=ai q94 λx=>iG x.1 x.2
def xF(A:dJ)(B:Int)(C:dL):Option I9:=l9 (bK C.1) λx=>l7 (G7 x) (some (2,0)) (l9 (gW A.1 0 B) λx=>l9 (uY x C.1) λx=>l7 x (some (7,0)) (l7 (C9 (o9 C.2) 0) (some (5,0)) (l7 (H6 16 (o9 C.2)) (some (4,116)) (l9 (U0 (λ(x:Int)=>l7 (H6 x (o9 C.2)) (l9 (J9 C.2 x) λb=>l9 (bK b) λc=>l7 (G7 c) (some (.rt (2,F6 .i64 100 x))) (l9 (gW C.2 0 x) λd=>l9 (iG d b) λf=>l7 f (some (.rt (7,F6 .i64 100 x))) (some (.nx (F6 .i64 x 1))))) (some (.ex ()))) 0) λo=>Y0 o (λy=>some (0,0)) λr=>some r))))
def q57:FQ:=⟨[tD y27,L6,tD y0],⟨[(.tmp 6,L6),(.tmp 7,L6)],[]⟩,mE 55 [(59,s59),(60,s60),(94,s94)],sN 2 (aT (sN 1 (iZ (lpR [(6,10),(36,55)] ⟨[(36,L6)],[]⟩ 1 sgN H8))) H8)⟩
def s57:FSpec:=ai q57 λx=>xF x.1 x.2.1 x.2.2
def vT(A:dJ):Option W9:=l7 (H6 8 (o9 A.1)) (some (4,1,8,0)) (l9 (U0 (λ(x:W9×Int)=>l7 (H6 x.2 (o9 A.1)) (l9 (J9 A.1 x.2) λc=>l9 (xF A x.2 c) λb=>l7 (G7 (C9 b.1 0)) (some (.rt (b.1,1,x.2,b.2))) (some (.nx (x.1,F6 .i64 x.2 1)))) (some (.ex x.1))) ((0,0,0,0),0)) λo=>Y0 o (λ(y:W9)=>some (0,0,0,0)) λr=>some r)
def q32:FQ:=⟨[tD y27],cR 2 64 (tD y35),mE 35 [(57,s57)],sN 2 (aT (sN 1 (iZ (lpR [(2,7),(15,34),(4000128,4000129)] ⟨[(2,(false,(.box (dT y35)))),(15,L6)],[]⟩ 0 ⟨[(2,(false,(.box (dT y35))))],[]⟩ H8))) H8)⟩
def s32:FSpec:=ai q32 λx=>vT x
def aG(A:I9)(B:List dL):Option Bool:=l9 (l7 (C9 A.1 1) (some (C9 A.1 1)) (l7 (C9 A.1 2) (some (C9 A.1 2)) (l7 (C9 A.1 3) (some (C9 A.1 3)) (l7 (C9 A.1 4) (some (C9 A.1 4)) (some (C9 A.1 5)))))) λx=>l7 x (some (C9 A.2 0)) (l7 (C9 A.1 6) (l7 (O9 0 A.2) (some (H6 A.2 (o9 B))) (some false)) (some false))
def q95:FQ:=⟨[tD y2,uD y1],tR 4 bQ,mE 28 [],sN 1 (aT (sN 1 (iZ (aT (.join [(7,13)] ⟨[(7,bQ)],[]⟩ H8) H8))) H8)⟩
def s95:FSpec:=ai q95 λx=>aG x.1 x.2
def jE(A:I9)(B:List dL):Option I9:=l9 (aG A B) λx=>l7 (G7 x) (some (0,-1)) (l7 (C9 A.1 1) (some (0,1)) (l7 (C9 A.1 2) (some (-1000000000000,1000000000000)) (l7 (C9 A.1 3) (some (-1000000000000000,1000000000000000)) (l7 (C9 A.1 4) (some (-1000000000,1000000000)) (l7 (C9 A.1 5) (some (0,109572)) (l9 (J9 B A.2) λx=>some (0,X9 .i64 (o9 x.2) 1)))))))
def q96:FQ:=⟨[tD y2,uD y1],⟨[(.tmp 4,L6),(.tmp 5,L6)],[]⟩,mE 30 [(95,s95)],H8⟩
def s96:FSpec:=ai q96 λx=>jE x.1 x.2
def qw(A:I9):Option Bool:=l7 (O9 0 A.1) (l7 (O9 A.1 A.2) (some (O9 A.2 109573)) (some false)) (some false)
def q97:FQ:=⟨[tD y2],tR 2 bQ,mE 18 [],H8⟩
def s97:FSpec:=ai q97 λx=>qw x
def qL(A:I9):Option Bool:=l9 (qw A) λx=>l7 x (some (H6 A.1 A.2)) (some false)
def b0W:FQ:=⟨[tD y2],tR 2 bQ,mE 12 [(97,s97)],H8⟩
def b3p:FSpec:=ai b0W λx=>qL x
def oL(A:I9)(B:I9):Option (I9×Bool):=l9 (qL A) λx=>l7 (G7 x) (some ((0,0),false)) (l9 (qL B) λx=>l7 (G7 x) (some ((0,0),false)) (l7 (O9 (vP A.2 B.2) (vO A.1 B.1)) (some ((0,0),false)) (some ((vO A.1 B.1,vP A.2 B.2),true))))
def b0o:FQ:=⟨[tD y2,tD y2],⟨[(.cell 4 81,tD y2),(.tmp 5,bQ)],[]⟩,mE 34 [(183,b3p)],H8⟩
def b2N:FSpec:=ai b0o λx=>oL x.1 x.2
def wI(A:Eg)(B:Eg):Option Bool:=l9 (oL A.1 B.1) λx=>l7 x.2 (some (H6 (vO A.2.1 B.2.1) (vP A.2.2.1 B.2.2.1))) (some false)
def a9N:FQ:=⟨[tD y4,tD y4],tR 4 bQ,mE 29 [(137,b2N)],H8⟩
def b2v:FSpec:=ai a9N λx=>wI x.1 x.2
def pU(A:Eg)(B:Eg):Option Bool:=l9 (wI A B) λx=>some x
def a5H:FQ:=⟨[tD y4,(false,(.rp y4))],tR 3 bQ,mE 7 [(100,b2v)],H8⟩
def a2B:FSpec:=ai a5H λx=>pU x.1 x.2
def oN(A:List Eg)(B:Eg):Option (Int×Bool):=l9 (U0 (λ(x:Int)=>l7 (H6 x (o9 A)) (l9 (J9 A x) λb=>l9 (pU b B) λc=>l7 c (some (.rt (x,true))) (some (.nx (F6 .i64 x 1)))) (some (.ex ()))) 0) λo=>Y0 o (λy=>some (0,false)) λr=>some r
def a5G:FQ:=⟨[uD y5,(false,(.fn 99 [y4]))],⟨[(.tmp 4,L6),(.tmp 5,bQ)],[]⟩,mE 20 [(99,a2B)],sN 1 (aT (sN 1 (iZ (lpR [(4,8),(10,20)] ⟨[(10,L6)],[]⟩ 0 sgN H8))) H8)⟩
def a5Q:FSpec:=ai a5G λx=>oN x.1 x.2
def wH(A:kF)(B:List dL):Option I9:=l7 (H6 64 (o9 A.2.2.2)) (some (64,4)) (l9 (l9 (aG A.2.1 B) λx=>l7 (G7 x) (some (.inr (-1,8))) (l9 (aG A.2.2.1 B) λx=>l7 (G7 x) (some (.inr (-1,8))) (some (.inl ())))) λo=>Y0 o (λx=>l9 (jE A.2.1 B) λx=>l9 (jE A.2.2.1 B) λd=>l9 (U0 (λ(b:Int)=>l7 (H6 b (o9 A.2.2.2)) (l9 (J9 A.2.2.2 b) λc=>l9 (l9 (qw c.1) λx=>l7 (G7 x) (some (.inr (b,3))) (l7 (C9 c.1.1 c.1.2) (some (.inr (b,3))) (l7 (O9 c.2.2.1 c.2.1) (some (.inr (b,3))) (some (.inl ()))))) λo=>Y0 o (λf=>l9 (l7 (H6 c.2.1 x.1) (some (.inr (b,3))) (l7 (H6 x.2 c.2.1) (some (.inr (b,3))) (l7 (H6 (X9 .i64 c.2.2.1 1) x.1) (some (.inr (b,3))) (l7 (H6 x.2 (X9 .i64 c.2.2.1 1)) (some (.inr (b,3))) (some (.inl ())))))) λo=>Y0 o (λx=>l7 (H6 c.2.2.2 d.1) (some (.rt (b,3))) (l7 (H6 d.2 c.2.2.2) (some (.rt (b,3))) (l9 (gW A.2.2.2 0 b) λx=>l9 (oN x c) λx=>l7 x.2 (some (.rt (b,11))) (some (.nx (F6 .i64 b 1)))))) λr=>some (.rt r)) λr=>some (.rt r)) (some (.ex ()))) 0) λo=>Y0 o (λy=>some (0,0)) λr=>some r) λr=>some r)
def q58:FQ:=⟨[tD y8,uD y1],⟨[(.tmp 4,L6),(.tmp 5,L6)],[]⟩,mE 121 [(95,s95),(96,s96),(97,s97),(99,a2B),(98,a5Q)],sN 2 (aT (jnR [(4,6),(18,30)] sgN H8) (sN 2 (aT (sN 1 (iZ (lpR [(4,6),(10,14),(47,121)] ⟨[(47,L6)],[]⟩ 0 sgN (sN 2 (aT (iZ (sN 1 (aT (jnR [(4,6),(52,73)] sgN H8) (aT (jnR [(4,6),(73,98)] sgN H8) H8)))) H8))))) H8)))⟩
def s58:FSpec:=ai q58 λx=>wH x.1 x.2
def zA(A:kF)(B:List UInt8):Option Bool:=some (seq A.1 B)
def a1J:FQ:=⟨[tD y8,(false,(.rp .str))],tR 3 bQ,mE 8 [],H8⟩
def Yi:FSpec:=ai a1J λx=>zA x.1 x.2
def iq(A:List kF)(B:List UInt8):Option Int:=l9 (U0 (λ(x:Int)=>l7 (H6 x (o9 A)) (l9 (J9 A x) λb=>l9 (zA b B) λc=>l7 c (some (.rt x)) (some (.nx (F6 .i64 x 1)))) (some (.ex ()))) 0) λo=>Y0 o (λy=>some (-1)) λr=>some r
def a1O:FQ:=⟨[uD y9,(false,(.fn 107 [.str]))],tR 4 L6,mE 19 [(107,Yi)],sN 1 (aT (sN 1 (iZ (lpR [(4,6),(8,19)] ⟨[(8,L6)],[]⟩ 0 sgN H8))) H8)⟩
def a2u:FSpec:=ai a1O λx=>iq x.1 x.2
def fM(A:List kF)(B:List UInt8):Option Bool:=l9 (iq A B) λx=>some (O9 0 x)
def a1I:FQ:=⟨[uD y9,(false,(.fn 107 [.str]))],tR 4 bQ,mE 9 [(140,a2u)],H8⟩
def a2p:FSpec:=ai a1I λx=>fM x.1 x.2
def vV(A:List kF)(B:List UInt8):Option Bool:=l9 (fM A B) λx=>some x
def q61:FQ:=⟨[uD y9,(uD .str)],tR 4 bQ,mE 8 [(107,Yi),(106,a2p)],H8⟩
def s61:FSpec:=ai q61 λx=>vV x.1 x.2
def uq(A:dJ):Option W9:=l7 (H6 8 (o9 A.2.1)) (some (4,2,8,0)) (l9 (U0 (λ(x:W9×Int)=>l7 (H6 x.2 (o9 A.2.1)) (l9 (J9 A.2.1 x.2) λc=>l9 (wH c A.1) λb=>l9 (l9 (bK c.1) λd=>l7 (G7 d) (some (2,2,x.2,0)) (l9 (uY A.1 c.1) λf=>l7 f (some (7,2,x.2,0)) (l9 (gW A.2.1 0 x.2) λg=>l9 (vV g c.1) λi=>l7 i (some (7,2,x.2,0)) (l7 (G7 (C9 b.2 0)) (l7 (G7 (C9 b.1 (-1))) (some (b.2,2,x.2,F6 .i64 100 b.1)) (some (b.2,2,x.2,0))) (some (0,2,x.2,0)))))) λd=>l7 (G7 (C9 d.1 0)) (some (.rt d)) (some (.nx (x.1,F6 .i64 x.2 1)))) (some (.ex x.1))) ((0,0,0,0),0)) λo=>Y0 o (λ(y:W9)=>some (0,0,0,0)) λr=>some r)
def q33:FQ:=⟨[tD y27],cR 2 64 (tD y35),mE 68 [(58,s58),(59,s59),(60,s60),(61,s61)],sN 2 (aT (sN 1 (iZ (lpR [(2,8),(16,67),(4000128,4000129)] ⟨[(2,(false,(.box (dT y35)))),(16,L6)],[]⟩ 0 ⟨[(2,(false,(.box (dT y35))))],[]⟩ (sN 2 (aT (iZ (sN 3 (aT (.join [(5,6),(30,62),(37000320,37000321)] ⟨[(5,(false,(.box (dT y35))))],[]⟩ H8) H8))) H8))))) H8)⟩
def s33:FSpec:=ai q33 λx=>uq x
def xf(A:P5)(B:P5):Option Bool:=some (seq A.1 B.1)
def a1L:FQ:=⟨[tD y24,(false,(.rp y24))],tR 3 bQ,mE 9 [],H8⟩
def Yj:FSpec:=ai a1L λx=>xf x.1 x.2
def ik(A:List P5)(B:P5):Option Int:=l9 (U0 (λ(x:Int)=>l7 (H6 x (o9 A)) (l9 (J9 A x) λb=>l9 (xf b B) λc=>l7 c (some (.rt x)) (some (.nx (F6 .i64 x 1)))) (some (.ex ()))) 0) λo=>Y0 o (λy=>some (-1)) λr=>some r
def a1P:FQ:=⟨[uD y25,(false,(.fn 109 [y24]))],tR 4 L6,mE 19 [(109,Yj)],sN 1 (aT (sN 1 (iZ (lpR [(4,6),(8,19)] ⟨[(8,L6)],[]⟩ 0 sgN H8))) H8)⟩
def a2v:FSpec:=ai a1P λx=>ik x.1 x.2
def cO(A:List P5)(B:P5):Option Bool:=l9 (ik A B) λx=>some (O9 0 x)
def a1K:FQ:=⟨[uD y25,(false,(.fn 109 [y24]))],tR 4 bQ,mE 9 [(141,a2v)],H8⟩
def a2q:FSpec:=ai a1K λx=>cO x.1 x.2
def xe(A:jh)(B:jh):Option Bool:=some (seq A.1 B.1)
def a1Q:FQ:=⟨[tD y10,(false,(.rp y10))],tR 3 bQ,mE 9 [],H8⟩
def Yl:FSpec:=ai a1Q λx=>xe x.1 x.2
def ig(A:List jh)(B:jh):Option Int:=l9 (U0 (λ(x:Int)=>l7 (H6 x (o9 A)) (l9 (J9 A x) λb=>l9 (xe b B) λc=>l7 c (some (.rt x)) (some (.nx (F6 .i64 x 1)))) (some (.ex ()))) 0) λo=>Y0 o (λy=>some (-1)) λr=>some r
def a1U:FQ:=⟨[uD y11,(false,(.fn 142 [y10]))],tR 4 L6,mE 19 [(142,Yl)],sN 1 (aT (sN 1 (iZ (lpR [(4,6),(8,19)] ⟨[(8,L6)],[]⟩ 0 sgN H8))) H8)⟩
def a2z:FSpec:=ai a1U λx=>ig x.1 x.2
def aF(A:List jh)(B:jh):Option Bool:=l9 (ig A B) λx=>some (O9 0 x)
def a1R:FQ:=⟨[uD y11,(false,(.fn 142 [y10]))],tR 4 bQ,mE 9 [(184,a2z)],H8⟩
def a2w:FSpec:=ai a1R λx=>aF x.1 x.2
def rC(A:dJ)(B:jh)(C:List jh)(D:List jh):Option Int:=l9 (bK B.1) λx=>l7 (G7 x) (some 2) (l9 (aF C B) λx=>l7 x (some 7) (l9 (aF D B) λx=>l7 x (some 7) (l9 (aG B.2 A.1) λx=>l7 (G7 x) (some 8) (some 0))))
def a9R:FQ:=⟨[tD y27,tD y10,uD y11,uD y11],tR 8 L6,mE 32 [(142,Yl),(59,s59),(143,a2w),(95,s95)],H8⟩
def b2x:FSpec:=ai a9R λx=>rC x.1 x.2.1 x.2.2.1 x.2.2.2
def pq(A:List jh):Option (List I9):=l9 (dK (λ(x:List I9×Int)=>l7 (H6 x.2 (o9 A)) (l9 (J9 A x.2) λb=>l9 (bH x.1 [b.2]) λc=>some (.inl (c,F6 .i64 x.2 1))) (some (.inr x.1))) ([],0)) λy=>some y
def b0q:FQ:=⟨[uD y11],tR 2 (uO y2),mE 19 [],sN 2 (aT (sN 1 (iZ (.loop [(3,4),(5,6),(8,18)] ⟨[(3,(uO y2)),(8,L6)],[]⟩ 0 ⟨[(3,(uO y2))],[]⟩ H8))) H8)⟩
def b2O:FSpec:=ai b0q λx=>pq x
def lH(A:dJ)(B:Int):Option P6:=l9 (J9 A.2.2 B) λx=>l9 (pq x.2.2.1) λb=>l9 (pq x.2.2.2.1) λc=>l7 (O9 0 x.2.1) (l7 (H6 x.2.1 (o9 A.2.2)) (l9 (J9 A.2.2 x.2.1) λx=>l9 (pq x.2.2.2.1) λx=>some (A.1,A.2.1,b,c,x,true)) (some (A.1,A.2.1,b,c,[],false))) (some (A.1,A.2.1,b,c,[],false))
def a9S:FQ:=⟨[tD y27,L6],cR 4 181 (tD y51),mE 45 [(144,b2O)],H8⟩
def b2y:FSpec:=ai a9S λx=>lH x.1 x.2
def yg(A:iw)(B:iw):Option Bool:=some (seq A.1 B.1)
def a1T:FQ:=⟨[tD y19,(false,(.rp y19))],tR 3 bQ,mE 9 [],H8⟩
def Ym:FSpec:=ai a1T λx=>yg x.1 x.2
def iY(A:List iw)(B:iw):Option Int:=l9 (U0 (λ(x:Int)=>l7 (H6 x (o9 A)) (l9 (J9 A x) λb=>l9 (yg b B) λc=>l7 c (some (.rt x)) (some (.nx (F6 .i64 x 1)))) (some (.ex ()))) 0) λo=>Y0 o (λy=>some (-1)) λr=>some r
def a1V:FQ:=⟨[uD y20,(false,(.fn 146 [y19]))],tR 4 L6,mE 19 [(146,Ym)],sN 1 (aT (sN 1 (iZ (lpR [(4,6),(8,19)] ⟨[(8,L6)],[]⟩ 0 sgN H8))) H8)⟩
def a2A:FSpec:=ai a1V λx=>iY x.1 x.2
def dI(A:List iw)(B:iw):Option Bool:=l9 (iY A B) λx=>some (O9 0 x)
def a1S:FQ:=⟨[uD y20,(false,(.fn 146 [y19]))],tR 4 bQ,mE 9 [(185,a2A)],H8⟩
def a2x:FSpec:=ai a1S λx=>dI x.1 x.2
def b5X:List MG:=[(false,(.dat .str)),(false,(.dat .str))]
def s89:FSpec:=⟨b5X,[bQ],[],λx=>qC x.1 x.2⟩
def ut(A:List UInt8):Option Bool:=l7 (H6 64 (o9 A)) (some false) (l9 (qC A [34]) λx=>l7 x (some false) (l9 (U0 (λ(x:Int)=>l7 (H6 x (o9 A)) (l9 (sat A x) λb=>l7 (H6 b 32) (some (.rt false)) (l9 (sat A x) λc=>l7 (H6 126 c) (some (.rt false)) (some (.nx (F6 .i64 x 1))))) (some (.ex ()))) 0) λo=>Y0 o (λy=>some true) λr=>some r))
def b0r:FQ:=⟨[uD .str],tR 2 bQ,mE 27 [(89,s89)],sN 2 (aT (sN 1 (iZ (lpR [(2,4),(13,27)] ⟨[(13,L6)],[]⟩ 0 sgN H8))) H8)⟩
def b2P:FSpec:=ai b0r λx=>ut x
def jl(A:Int):Option Int:=l9 (l7 (C9 A 1) (some (C9 A 1)) (l7 (C9 A 2) (some (C9 A 2)) (l7 (C9 A 3) (some (C9 A 3)) (l7 (C9 A 4) (some (C9 A 4)) (l7 (C9 A 5) (some (C9 A 5)) (l7 (C9 A 6) (some (C9 A 6)) (l7 (C9 A 7) (some (C9 A 7)) (l7 (C9 A 8) (some (C9 A 8)) (l7 (C9 A 9) (some (C9 A 9)) (l7 (C9 A 35) (some (C9 A 35)) (l7 (C9 A 36) (some (C9 A 36)) (l7 (C9 A 37) (some (C9 A 37)) (l7 (C9 A 38) (some (C9 A 38)) (some (C9 A 39))))))))))))))) λx=>l7 x (some 0) (l9 (l7 (C9 A 10) (some (C9 A 10)) (l7 (C9 A 25) (some (C9 A 25)) (l7 (C9 A 31) (some (C9 A 31)) (l7 (C9 A 32) (some (C9 A 32)) (l7 (C9 A 33) (some (C9 A 33)) (some (C9 A 34))))))) λx=>l7 x (some 1) (l9 (l7 (C9 A 11) (some (C9 A 11)) (l7 (C9 A 12) (some (C9 A 12)) (l7 (C9 A 13) (some (C9 A 13)) (l7 (C9 A 14) (some (C9 A 14)) (l7 (C9 A 15) (some (C9 A 15)) (l7 (C9 A 16) (some (C9 A 16)) (l7 (C9 A 17) (some (C9 A 17)) (l7 (C9 A 18) (some (C9 A 18)) (l7 (C9 A 19) (some (C9 A 19)) (l7 (C9 A 20) (some (C9 A 20)) (l7 (C9 A 21) (some (C9 A 21)) (l7 (C9 A 22) (some (C9 A 22)) (l7 (C9 A 23) (some (C9 A 23)) (l7 (C9 A 24) (some (C9 A 24)) (l7 (C9 A 27) (some (C9 A 27)) (l7 (C9 A 28) (some (C9 A 28)) (l7 (C9 A 29) (some (C9 A 29)) (some (C9 A 30))))))))))))))))))) λx=>l7 x (some 2) (l7 (C9 A 26) (some 3) (some (-1)))))
def q40:FQ:=⟨[L6],tR 2 L6,mE 47 [],sN 1 (aT (sN 1 (iZ (aT (.join [(4,19)] ⟨[(4,bQ)],[]⟩ H8) (.cond H8 (aT (.join [(19,26)] ⟨[(19,bQ)],[]⟩ H8) (.cond H8 (aT (.join [(26,45)] ⟨[(26,bQ)],[]⟩ H8) H8))))))) H8)⟩
def s40:FSpec:=ai q40 λx=>jl x
def qY(A:List I9):Option (List Int×I9):=l7 (H6 48 (o9 A)) (some ([],0,4)) (l7 (C9 (o9 A) 0) (some ([],0,5)) (l9 (ER (o9 A) 0) λx=>l9 (U0 (λ(x:List Int×List Int×Int)=>l7 (H6 x.2.2 (o9 A)) (l9 (J9 A x.2.2) λg=>l9 (jl g.1) λb=>l7 (H6 b 0) (some (.rt ([],x.2.2,2))) (l7 (H6 (o9 x.2.1) b) (some (.rt ([],x.2.2,5))) (l9 (J9 x.1 x.2.2) λk=>l9 (dW x.1 (df x.2.2)) λn=>l7 (H6 0 b) (l9 (J9 x.2.1 (X9 .i64 (o9 x.2.1) b)) λj=>l9 (dW x.2.1 (df (X9 .i64 (o9 x.2.1) b))) λc=>l9 (J9 (tX x.1 (df x.2.2) x.2.2) x.2.2) λd=>l9 (dW (tX x.1 (df x.2.2) x.2.2) (df x.2.2)) λp=>l7 (jC 0 (X9 .i64 (o9 x.2.1) b) (o9 x.2.1)) (l9 (J9 (tX (tX x.1 (df x.2.2) x.2.2) (df x.2.2) c) x.2.2) λq=>l9 (dW (tX (tX x.1 (df x.2.2) x.2.2) (df x.2.2) c) (df x.2.2)) λi=>l9 (bH (iF x.2.1 (df 0) (df (X9 .i64 (o9 x.2.1) b))) [i]) λf=>l7 (H6 12 (o9 f)) (some (.rt ([],x.2.2,16))) (some (.nx (tX (tX x.1 (df x.2.2) x.2.2) (df x.2.2) c,f,F6 .i64 x.2.2 1)))) none) (l7 (jC 0 (X9 .i64 (o9 x.2.1) b) (o9 x.2.1)) (l9 (J9 (tX x.1 (df x.2.2) x.2.2) x.2.2) λj=>l9 (dW (tX x.1 (df x.2.2) x.2.2) (df x.2.2)) λc=>l9 (bH (iF x.2.1 (df 0) (df (X9 .i64 (o9 x.2.1) b))) [c]) λd=>l7 (H6 12 (o9 d)) (some (.rt ([],x.2.2,16))) (some (.nx (tX x.1 (df x.2.2) x.2.2,d,F6 .i64 x.2.2 1)))) none)))) (some (.ex (x.1,x.2.1)))) (x,[],0)) λo=>Y0 o (λ(y:List Int×List Int)=>l7 (H6 1 (o9 y.2)) (some ([],o9 A,4)) (some (y.1,0,0))) λr=>some r))
def q65:FQ:=⟨[uD y12],⟨[(.tmp 2,uoM),(.tmp 3,L6),(.tmp 4,L6)],[]⟩,mE 76 [(40,s40)],sN 5 (aT (sN 1 (iZ (lpR [(2,10),(21,70),(27001152,27001153)] ⟨[(5,uoM),(6,uoM),(21,L6)],[]⟩ 0 ⟨[(5,uoM),(6,uoM)],[]⟩ H8))) H8)⟩
def s65:FSpec:=ai q65 λx=>qY x
def aI(A:Int):Option Bool:=l7 (C9 A 1) (l7 (C9 A 1) (some true) (some false)) (l7 (C9 A 2) (l7 (C9 A 2) (some true) (some false)) (l7 (C9 A 3) (l7 (C9 A 3) (some true) (some false)) (l7 (C9 A 4) (l7 (C9 A 4) (some true) (some false)) (l7 (C9 A 5) (l7 (C9 A 5) (some true) (some false)) (l7 (C9 A 6) (l7 (C9 A 6) (some true) (some false)) (l7 (C9 A 7) (l7 (C9 A 7) (some true) (some false)) (l7 (C9 A 8) (l7 (C9 A 8) (some true) (some false)) (l7 (C9 A 14) (l7 (C9 A 14) (some true) (some false)) (l7 (C9 A 15) (l7 (C9 A 15) (some true) (some false)) (l7 (C9 A 16) (l7 (C9 A 16) (some true) (some false)) (l7 (C9 A 33) (l7 (C9 A 33) (some true) (some false)) (l7 (C9 A 34) (l7 (C9 A 34) (some true) (some false)) (l7 (C9 A 36) (l7 (C9 A 36) (some true) (some false)) (l7 (C9 A 37) (l7 (C9 A 37) (some true) (some false)) (l7 (C9 A 38) (l7 (C9 A 38) (some true) (some false)) (l7 (C9 A 39) (some true) (some false)))))))))))))))))
def q39:FQ:=⟨[L6],tR 2 bQ,mE 22 [],H8⟩
def s39:FSpec:=ai q39 λx=>aI x
def ja(A:Int)(B:Int)(C:P6):Option az:=l9 (jE (B,0) C.1) λx=>l7 (H6 A x.1) (some ((0,0),3)) (l7 (H6 x.2 A) (some ((0,0),3)) (some ((B,0),0)))
def b1C:FQ:=⟨[L6,L6,tD y51],⟨[(.cell 6 43,tD y2),(.tmp 7,L6)],[]⟩,mE 30 [(96,s96)],H8⟩
def b3S:FSpec:=ai b1C λx=>ja x.1 x.2.1 x.2.2
def xE(A:Int)(B:P6):Option az:=l7 (H6 A 0) (some ((0,0),3)) (l7 (O9 (o9 B.1) (dZ .i64 A 16)) (some ((0,0),6)) (l9 (J9 B.1 (dZ .i64 A 16)) λx=>l7 (O9 (o9 x.2) (jG A 16)) (some ((0,0),6)) (some ((6,dZ .i64 A 16),0))))
def b1D:FQ:=⟨[L6,tD y51],⟨[(.cell 4 43,tD y2),(.tmp 5,L6)],[]⟩,mE 34 [],H8⟩
def b3T:FSpec:=ai b1D λx=>xE x.1 x.2
def iQ(A:Int)(B:List I9)(C:P6):Option az:=l7 (H6 A 0) (some ((0,0),6)) (l7 (O9 (o9 B) A) (some ((0,0),6)) (l9 (J9 B A) λx=>l9 (aG x C.1) λx=>l7 (G7 x) (some ((0,0),8)) (l9 (J9 B A) λx=>some (x,0))))
def b1E:FQ:=⟨[L6,uD y12,tD y51],⟨[(.cell 6 43,tD y2),(.tmp 7,L6)],[]⟩,mE 30 [(95,s95)],H8⟩
def a7e:FSpec:=ai b1E λx=>iQ x.1 x.2.1 x.2.2
def kH(A:Int):Option Bool:=l7 (O9 0 A) (some (O9 A 5)) (some false)
def b1H:FQ:=⟨[L6],tR 2 bQ,mE 9 [],H8⟩
def a7f:FSpec:=ai b1H λx=>kH x
def oQ(A:I9)(B:I9)(C:P6):Option az:=l9 (l7 (C9 A.1 34) (l7 (H6 A.2 0) (some (.inr ((0,0),3))) (l9 (kH (jG A.2 8)) λx=>l7 (G7 x) (some (.inr ((0,0),3))) (some (.inl ((0,0),dZ .i64 A.2 8))))) (some (.inl ((0,0),A.2)))) λo=>Y0 o (λ(x:az)=>l9 (l7 (H6 x.2 0) (some (.inr ((0,0),6))) (l7 (O9 (o9 C.2.1) x.2) (some (.inr ((0,0),6))) (some (.inl x.1)))) λo=>Y0 o (λ(d:I9)=>l9 (J9 C.2.1 x.2) λb=>l9 (J9 C.2.1 x.2) λx=>l9 (l9 (aG b.2.1 C.1) λc=>l7 (G7 c) (some (.inr ((0,0),8))) (l9 (aG x.2.2.1 C.1) λx=>l7 (G7 x) (some (.inr ((0,0),8))) (l7 (G7 (nH (C9 B.1 b.2.1.1) (C9 B.2 b.2.1.2))) (some (.inr ((0,0),8))) (some (.inl d))))) λo=>Y0 o (λ(c:I9)=>l7 (C9 A.1 34) (l7 (G7 (C9 b.2.1.1 3)) (some ((0,0),8)) (l7 (G7 (C9 x.2.2.1.1 4)) (some ((0,0),8)) (some (b.2.1,0)))) (some (x.2.2.1,0))) λr=>some r) λr=>some r) λr=>some r
def b1F:FQ:=⟨[tD y2,tD y2,tD y51],⟨[(.cell 6 43,tD y2),(.tmp 7,L6)],[]⟩,mE 84 [(241,a7f),(95,s95)],sN 2 (aT (jnR [(6,9),(13,30),(4000384,4000385)] ⟨[(6,(false,(.box (dT y2)))),(8,L6)],[]⟩ H8) (aT (jnR [(6,8),(30,40),(9000000,9000001)] ⟨[(6,(false,(.box (dT y2))))],[]⟩ H8) (sN 1 (aT (jnR [(6,8),(52,70),(27000000,27000001)] ⟨[(6,(false,(.box (dT y2))))],[]⟩ H8) H8))))⟩
def b3U:FSpec:=ai b1F λx=>oQ x.1 x.2.1 x.2.2
def kC(A:Int):Option Bool:=l7 (C9 A 2) (some true) (l7 (C9 A 3) (some true) (some (C9 A 4)))
def b1Y:FQ:=⟨[L6],tR 2 bQ,mE 13 [],H8⟩
def a7h:FSpec:=ai b1Y λx=>kC x
def nN(A:I9)(B:P6):Option az:=l7 (G7 B.2.2.2.2.2) (some ((0,0),6)) (l7 (C9 A.1 35) (some ((2,0),0)) (l9 (iQ A.2 B.2.2.2.2.1 B) λx=>l7 (G7 (C9 x.2 0)) (some ((0,0),x.2)) (l9 (l7 (C9 A.1 36) (l7 (C9 x.1.1 2) (some true) (some (C9 x.1.1 3))) (l7 (C9 A.1 37) (l7 (C9 A.1 37) (some (C9 x.1.1 1)) (l7 (C9 A.1 39) (l9 (kC x.1.1) λb=>l7 b (some true) (some (C9 x.1.1 5))) (some false))) (l7 (C9 A.1 38) (some (C9 x.1.1 1)) (l7 (C9 A.1 39) (l9 (kC x.1.1) λb=>l7 b (some true) (some (C9 x.1.1 5))) (some false))))) λb=>l7 (G7 b) (some ((0,0),8)) (some (x.1,0)))))
def b1G:FQ:=⟨[tD y2,tD y51],⟨[(.cell 4 43,tD y2),(.tmp 5,L6)],[]⟩,mE 62 [(238,a7e),(269,a7h)],sN 6 (aT (.join [(8,9),(30,58)] ⟨[(8,bQ)],[]⟩ H8) H8)⟩
def b3V:FSpec:=ai b1G λx=>nN x.1 x.2
def BP(A:Int)(B:Int)(C:Int):Option (I9×Bool):=l7 (C9 A 14) (l7 (C9 C 4) (l7 (C9 B 3) (some ((B,0),true)) (some ((B,0),C9 B 4))) (some ((B,0),false))) (l7 (C9 C 2) (l7 (C9 B 2) (some ((B,0),true)) (some ((B,0),C9 B 3))) (l7 (C9 A 15) (l7 (C9 B 3) (l7 (C9 C 3) (some ((4,0),true)) (some ((0,0),false))) (some ((0,0),false))) (some ((0,0),false))))
def b1Z:FQ:=⟨[L6,L6,L6],⟨[(.cell 6 43,tD y2),(.tmp 7,bQ)],[]⟩,mE 47 [],H8⟩
def b4l:FSpec:=ai b1Z λx=>BP x.1 x.2.1 x.2.2
def lh(A:Int)(B:List I9):Option (I9×Bool):=l9 (l7 (C9 A 10) (l9 (J9 B 0) λx=>l9 (J9 B 0) λb=>l9 (kC b.1) λc=>some (.inr (x,c))) (l7 (C9 A 25) (l9 (J9 B 0) λx=>some (.inr ((1,0),C9 x.1 1))) (l9 (l7 (C9 A 11) (some (C9 A 11)) (some (C9 A 12))) λx=>l7 x (l9 (J9 B 0) λx=>l9 (J9 B 0) λb=>l9 (J9 B 1) λc=>l7 (nH (C9 b.1 c.1) (C9 b.2 c.2)) (l9 (J9 B 0) λd=>l9 (kC d.1) λf=>some (.inr (x,f))) (some (.inr (x,false)))) (l9 (l7 (C9 A 13) (some (C9 A 13)) (l7 (C9 A 14) (some (C9 A 14)) (some (C9 A 15)))) λx=>l7 x (l9 (J9 B 0) λx=>l9 (J9 B 1) λb=>l9 (BP A x.1 b.1) λx=>some (.inr x)) (l7 (C9 A 16) (l9 (J9 B 0) λx=>l9 (J9 B 0) λb=>l7 (C9 b.1 3) (l9 (J9 B 1) λc=>some (.inr (x,C9 c.1 3))) (some (.inr (x,false)))) (l9 (l7 (C9 A 17) (some (C9 A 17)) (some (C9 A 18))) λx=>l7 x (l9 (J9 B 0) λx=>l9 (J9 B 0) λb=>l9 (J9 B 1) λc=>l7 (nH (C9 b.1 c.1) (C9 b.2 c.2)) (l9 (J9 B 0) λd=>l9 (kC d.1) λf=>l7 f (some (.inr (x,true))) (l9 (J9 B 0) λg=>some (.inr (x,C9 g.1 5)))) (some (.inr (x,false)))) (l9 (l7 (C9 A 19) (some (C9 A 19)) (some (C9 A 20))) λx=>l7 x (l9 (J9 B 0) λx=>l9 (J9 B 1) λb=>some (.inr ((1,0),nH (C9 x.1 b.1) (C9 x.2 b.2)))) (l9 (l7 (C9 A 21) (some (C9 A 21)) (some (C9 A 22))) λx=>l7 x (l9 (J9 B 0) λx=>l9 (J9 B 1) λb=>l7 (nH (C9 x.1 b.1) (C9 x.2 b.2)) (l9 (J9 B 0) λx=>l9 (kC x.1) λx=>l7 x (some (.inr ((1,0),true))) (l9 (J9 B 0) λx=>some (.inr ((1,0),C9 x.1 5)))) (some (.inr ((1,0),false)))) (l9 (l7 (C9 A 23) (some (C9 A 23)) (some (C9 A 24))) λx=>l7 x (l9 (J9 B 0) λx=>l7 (C9 x.1 1) (l9 (J9 B 1) λx=>some (.inr ((1,0),C9 x.1 1))) (some (.inr ((1,0),false)))) (l7 (C9 A 26) (l9 (J9 B 1) λx=>l9 (J9 B 0) λb=>l7 (C9 b.1 1) (l9 (J9 B 1) λc=>l9 (J9 B 2) λd=>some (.inr (x,nH (C9 c.1 d.1) (C9 c.2 d.2)))) (some (.inr (x,false)))) (l9 (l7 (C9 A 27) (some (C9 A 27)) (some (C9 A 28))) λx=>l7 x (l9 (J9 B 0) λx=>l9 (J9 B 0) λb=>l7 (C9 b.1 5) (l9 (J9 B 1) λc=>some (.inr (x,C9 c.1 2))) (some (.inr (x,false)))) (l7 (C9 A 29) (l7 (C9 A 29) (l9 (J9 B 0) λx=>l7 (C9 x.1 5) (l9 (J9 B 1) λx=>some (.inr ((2,0),C9 x.1 5))) (some (.inr ((2,0),false)))) (l7 (C9 A 31) (l7 (C9 A 31) (l9 (J9 B 0) λx=>some (.inr ((2,0),C9 x.1 5))) (some (.inl (0,0)))) (l7 (C9 A 32) (l9 (J9 B 0) λx=>some (.inr ((2,0),C9 x.1 5))) (some (.inl (0,0)))))) (l7 (C9 A 30) (l9 (J9 B 0) λx=>l7 (C9 x.1 5) (l9 (J9 B 1) λx=>some (.inr ((2,0),C9 x.1 5))) (some (.inr ((2,0),false)))) (l7 (C9 A 31) (l7 (C9 A 31) (l9 (J9 B 0) λx=>some (.inr ((2,0),C9 x.1 5))) (some (.inl (0,0)))) (l7 (C9 A 32) (l9 (J9 B 0) λx=>some (.inr ((2,0),C9 x.1 5))) (some (.inl (0,0)))))))))))))))))) λo=>Y0 o (λ(x:I9)=>some ((0,0),false)) λr=>some r
def b1I:FQ:=⟨[L6,uD y12],⟨[(.cell 4 43,tD y2),(.tmp 5,bQ)],[]⟩,mE 222 [(269,a7h),(270,b4l)],sN 2 (aT (jnR [(4,6),(8,221),(4000256,4000257)] ⟨[(4,(false,(.box (dT y2))))],[]⟩ (sN 1 (iZ (sN 1 (.cond H8 (sN 1 (.cond H8 (aT (.join [(27,30)] ⟨[(27,bQ)],[]⟩ H8) (.cond H8 (aT (.join [(47,51)] ⟨[(47,bQ)],[]⟩ H8) (.cond H8 (sN 1 (.cond H8 (aT (.join [(80,83)] ⟨[(80,bQ)],[]⟩ H8) (.cond H8 (aT (.join [(107,110)] ⟨[(107,bQ)],[]⟩ H8) (.cond H8 (aT (.join [(118,121)] ⟨[(118,bQ)],[]⟩ H8) (.cond H8 (aT (.join [(143,146)] ⟨[(143,bQ)],[]⟩ H8) (.cond H8 (sN 1 (.cond H8 (aT (.join [(178,181)] ⟨[(178,bQ)],[]⟩ H8) H8)))))))))))))))))))))))) H8)⟩
def b3W:FSpec:=ai b1I λx=>lh x.1 x.2
def ak(A:I9)(B:List I9)(C:P6):Option az:=l9 (l7 (C9 A.1 1) (l9 (ja A.2 1 C) λx=>some (.inr x)) (l7 (C9 A.1 2) (l9 (ja A.2 2 C) λx=>some (.inr x)) (l7 (C9 A.1 3) (l9 (ja A.2 3 C) λx=>some (.inr x)) (l7 (C9 A.1 4) (l9 (ja A.2 4 C) λx=>some (.inr x)) (l7 (C9 A.1 5) (l9 (ja A.2 5 C) λx=>some (.inr x)) (l7 (C9 A.1 6) (l9 (xE A.2 C) λx=>some (.inr x)) (l7 (C9 A.1 7) (l9 (iQ A.2 C.2.2.1 C) λx=>some (.inr x)) (l7 (C9 A.1 8) (l9 (iQ A.2 C.2.2.2.1 C) λx=>some (.inr x)) (l7 (C9 A.1 9) (some (.inr ((5,0),0))) (l9 (l7 (C9 A.1 33) (some (C9 A.1 33)) (some (C9 A.1 34))) λx=>l7 x (l9 (J9 B 0) λx=>l9 (oQ A x C) λx=>some (.inr x)) (l9 (l7 (C9 A.1 35) (some (C9 A.1 35)) (l7 (C9 A.1 36) (some (C9 A.1 36)) (l7 (C9 A.1 37) (some (C9 A.1 37)) (l7 (C9 A.1 38) (some (C9 A.1 38)) (some (C9 A.1 39)))))) λx=>l7 x (l9 (nN A C) λx=>some (.inr x)) (l7 (C9 A.1 14) (l7 (C9 A.1 14) (l9 (kH A.2) λx=>l7 (G7 x) (some (.inr ((0,0),3))) (some (.inl (0,0)))) (some (.inl (0,0)))) (l7 (C9 A.1 15) (l7 (C9 A.1 15) (l9 (kH A.2) λx=>l7 (G7 x) (some (.inr ((0,0),3))) (some (.inl (0,0)))) (some (.inl (0,0)))) (l7 (C9 A.1 16) (l9 (kH A.2) λx=>l7 (G7 x) (some (.inr ((0,0),3))) (some (.inl (0,0)))) (some (.inl (0,0))))))))))))))))) λo=>Y0 o (λ(x:I9)=>l9 (lh A.1 B) λx=>l7 (G7 x.2) (some ((0,0),8)) (some (x.1,0))) λr=>some r
def b1r:FQ:=⟨[tD y2,uD y12,tD y51],⟨[(.cell 6 43,tD y2),(.tmp 7,L6)],[]⟩,mE 125 [(236,b3S),(237,b3T),(238,a7e),(239,b3U),(240,b3V),(241,a7f),(242,b3W)],sN 1 (aT (jnR [(6,8),(10,114),(4000384,4000385)] ⟨[(6,(false,(.box (dT y2))))],[]⟩ (sN 1 (iZ (sN 1 (.cond H8 (sN 1 (.cond H8 (sN 1 (.cond H8 (sN 1 (.cond H8 (sN 1 (.cond H8 (sN 1 (.cond H8 (sN 1 (.cond H8 (sN 1 (.cond H8 (sN 1 (.cond H8 (aT (.join [(83,86)] ⟨[(83,bQ)],[]⟩ H8) (.cond H8 (aT (.join [(94,100)] ⟨[(94,bQ)],[]⟩ H8) H8)))))))))))))))))))))))) H8)⟩
def b3K:FSpec:=ai b1r λx=>ak x.1 x.2.1 x.2.2
def Aw(A:List I9)(B:P6):Option (I9×I9):=l9 (qY A) λx=>l7 (G7 (C9 x.2.2 0)) (some ((0,0),x.2)) (l9 (U0 (λ(x:I9×List I9×Int)=>l7 (H6 x.2.2 (o9 A)) (l9 (J9 A x.2.2) λc=>l7 (G7 (C9 c.2 0)) (l9 (aI c.1) λd=>l7 (G7 d) (some (.rt ((0,0),x.2.2,2))) (l9 (jl c.1) λb=>l7 (jC (X9 .i64 (o9 x.2.1) b) (o9 x.2.1) (o9 x.2.1)) (l9 (ak c (iF x.2.1 (df (X9 .i64 (o9 x.2.1) b)) (df (o9 x.2.1))) B) λf=>l7 (G7 (C9 f.2 0)) (some (.rt ((0,0),x.2.2,f.2))) (l7 (jC 0 (X9 .i64 (o9 x.2.1) b) (o9 x.2.1)) (l9 (bH (iF x.2.1 (df 0) (df (X9 .i64 (o9 x.2.1) b))) [f.1]) λg=>some (.nx (x.1,g,F6 .i64 x.2.2 1))) none)) none)) (l9 (jl c.1) λd=>l7 (jC (X9 .i64 (o9 x.2.1) d) (o9 x.2.1) (o9 x.2.1)) (l9 (ak c (iF x.2.1 (df (X9 .i64 (o9 x.2.1) d)) (df (o9 x.2.1))) B) λb=>l7 (G7 (C9 b.2 0)) (some (.rt ((0,0),x.2.2,b.2))) (l7 (jC 0 (X9 .i64 (o9 x.2.1) d) (o9 x.2.1)) (l9 (bH (iF x.2.1 (df 0) (df (X9 .i64 (o9 x.2.1) d))) [b.1]) λf=>some (.nx (x.1,f,F6 .i64 x.2.2 1))) none)) none)) (some (.ex (x.1,x.2.1)))) ((0,0),[],0)) λo=>Y0 o (λ(y:I9×List I9)=>l9 (J9 y.2 0) λx=>l9 (dW y.2 (df 0)) λx=>some (x,0,0)) λr=>some r)
def b0X:FQ:=⟨[uD y12,tD y51],⟨[(.cell 4 43,tD y2),(.tmp 5,L6),(.tmp 6,L6)],[]⟩,mE 75 [(65,s65),(39,s39),(40,s40),(215,b3K)],sN 4 (aT (sN 1 (iZ (lpR [(4,7),(10,16),(29,72),(4000256,4000257)] ⟨[(4,(false,(.box (dT y2)))),(10,(uO y2)),(29,L6)],[]⟩ 0 ⟨[(4,(false,(.box (dT y2)))),(10,(uO y2))],[]⟩ H8))) H8)⟩
def b3q:FSpec:=ai b0X λx=>Aw x.1 x.2
def qF(A:List I9)(B:P6)(C:I9):Option Int:=l9 (Aw A B) λx=>l7 (G7 (C9 x.2.2 0)) (some x.2.2) (l7 (G7 (nH (C9 x.1.1 C.1) (C9 x.1.2 C.2))) (some 8) (some 0))
def b0s:FQ:=⟨[uD y12,tD y51,tD y2],tR 6 L6,mE 23 [(186,b3q)],H8⟩
def b2Q:FSpec:=ai b0s λx=>qF x.1 x.2.1 x.2.2
def xG(A:P5)(B:Int)(C:P6):Option Int:=l9 (J9 A.2.2.2.2 B) λx=>l9 (gW A.2.2.2.2 0 B) λf=>l9 (dK (λ(b:I9)=>l7 (H6 b.2 (o9 f)) (l9 (J9 f b.2) λc=>l7 (C9 c.2.1 x.2.1) (some (.inl (F6 .i64 b.1 1,F6 .i64 b.2 1))) (some (.inl (b.1,F6 .i64 b.2 1)))) (some (.inr b.1))) (0,0)) λy=>l9 (l9 (bK x.1) λb=>l7 (G7 b) (some (.inr 2)) (l9 (gW A.2.2.2.2 0 B) λc=>l9 (dI c x) λg=>l7 g (some (.inr 7)) (l9 (l7 (H6 x.2.1 0) (some true) (some (O9 (o9 A.2.2.2.1) x.2.1))) λi=>l7 i (some (.inr 6)) (l9 (l7 (G7 (C9 x.2.2.1 (-1))) (l7 (H6 x.2.2.1 0) (some true) (l7 (O9 B x.2.2.1) (some true) (l9 (J9 A.2.2.2.2 x.2.2.1) λd=>some (G7 (C9 d.2.1 x.2.1))))) (some false)) λd=>l7 d (some (.inr 9)) (l9 (l7 (H6 x.2.2.2.1 0) (some true) (some (H6 9 x.2.2.2.1))) λj=>l7 j (some (.inr 3)) (l7 (H6 x.2.2.2.2.1.1 0) (some (.inr 3)) (l7 (O9 x.2.2.2.2.1.2 x.2.2.2.2.1.1) (some (.inr 3)) (l7 (H6 109573 x.2.2.2.2.1.2) (some (.inr 3)) (l7 (O9 8 y) (some (.inr 4)) (l9 (ut x.2.2.2.2.2.2.2) λk=>l7 (G7 k) (some (.inr 2)) (some (.inl x)))))))))))) λo=>Y0 o (λ(x:iw)=>l7 (H6 0 (o9 x.2.2.2.2.2.1)) (l9 (qF x.2.2.2.2.2.1 C (1,0)) λb=>l7 (G7 (C9 b 0)) (some b) (l9 (J9 A.2.2.2.1 x.2.1) λc=>l9 (qF x.2.2.2.2.2.2.1 C c.2) λx=>some x)) (l9 (J9 A.2.2.2.1 x.2.1) λb=>l9 (qF x.2.2.2.2.2.2.1 C b.2) λx=>some x)) λr=>some r
def a9T:FQ:=⟨[tD y24,L6,tD y51],tR 6 L6,mE 145 [(59,s59),(146,Ym),(145,a2x),(147,b2P),(148,b2Q)],sN 3 (aT (sN 1 (iZ (.loop [(8,9),(10,11),(22,34)] ⟨[(8,L6),(22,L6)],[]⟩ 0 ⟨[(8,L6)],[]⟩ H8))) (aT (jnR [(6,8),(34,122),(7000448,7000449)] ⟨[(7,(false,(.rp y19)))],[]⟩ (iZ (sN 1 (.cond H8 (sN 1 (.cond H8 (aT (.join [(46,58)] ⟨[(46,bQ)],[]⟩ H8) (.cond H8 (aT (.join [(58,85)] ⟨[(58,bQ)],[]⟩ H8) (.cond H8 (aT (.join [(85,94)] ⟨[(85,bQ)],[]⟩ H8) H8))))))))))) H8))⟩
def b2z:FSpec:=ai a9T λx=>xG x.1 x.2.1 x.2.2
def a9K:List MG:=[(false,(.ownb (.int .i64)))]
def a6Y:FSpec:=⟨a9K,[],[uoM],λx=>zh x⟩
def a9L:List MG:=[uoM]
def a6Z:FSpec:=⟨a9L,[uoM],[],λx=>nU x⟩
def qE(A:List Int):Option (List Int):=l9 (zh A) λx=>l9 (nU x) λx=>some x
def b1J:FQ:=⟨[uoM],tR 2 uoM,mE 7 [(217,a6Y),(218,a6Z)],H8⟩
def b3X:FSpec:=ai b1J λx=>qE x
def qx(A:List I9):Option (List Int×List Int×List Int):=l9 (dK (λ(x:List Int×List Int×List Int×Int)=>l7 (H6 x.2.2.2 (o9 A)) (l9 (J9 A x.2.2.2) λb=>l7 (C9 b.1 7) (l9 (bH x.1 [b.2]) λc=>some (.inl (c,x.2.1,x.2.2.1,F6 .i64 x.2.2.2 1))) (l7 (C9 b.1 8) (l9 (bH x.2.1 [b.2]) λc=>some (.inl (x.1,c,x.2.2.1,F6 .i64 x.2.2.2 1))) (l7 (C9 b.1 36) (l7 (C9 b.1 36) (l9 (bH x.2.2.1 [b.2]) λc=>some (.inl (x.1,x.2.1,c,F6 .i64 x.2.2.2 1))) (some (.inl (x.1,x.2.1,x.2.2.1,F6 .i64 x.2.2.2 1)))) (l7 (C9 b.1 37) (l7 (C9 b.1 37) (l9 (bH x.2.2.1 [b.2]) λc=>some (.inl (x.1,x.2.1,c,F6 .i64 x.2.2.2 1))) (some (.inl (x.1,x.2.1,x.2.2.1,F6 .i64 x.2.2.2 1)))) (l7 (C9 b.1 38) (l7 (C9 b.1 38) (l9 (bH x.2.2.1 [b.2]) λc=>some (.inl (x.1,x.2.1,c,F6 .i64 x.2.2.2 1))) (some (.inl (x.1,x.2.1,x.2.2.1,F6 .i64 x.2.2.2 1)))) (l7 (C9 b.1 39) (l9 (bH x.2.2.1 [b.2]) λc=>some (.inl (x.1,x.2.1,c,F6 .i64 x.2.2.2 1))) (some (.inl (x.1,x.2.1,x.2.2.1,F6 .i64 x.2.2.2 1))))))))) (some (.inr (x.1,x.2.1,x.2.2.1)))) ([],[],[],0)) λy=>l9 (qE y.1) λx=>l9 (qE y.2.1) λb=>l9 (qE y.2.2) λc=>some (x,b,c)
def b1s:FQ:=⟨[uD y12],⟨[(.tmp 2,uoM),(.tmp 3,uoM),(.tmp 4,uoM)],[]⟩,mE 49 [(243,b3X)],sN 2 (aT (sN 1 (iZ (.loop [(5,8),(9,10),(12,43)] ⟨[(5,uoM),(6,uoM),(7,uoM),(12,L6)],[]⟩ 0 ⟨[(5,uoM),(6,uoM),(7,uoM)],[]⟩ H8))) H8)⟩
def b3L:FSpec:=ai b1s λx=>qx x
def pY(A:iw)(B:Int):Option (List Int):=l9 (qx A.2.2.2.2.2.1) λx=>l9 (qx A.2.2.2.2.2.2.1) λd=>l9 (dK (λ(b:List Int×Int)=>l7 (H6 b.2 (o9 x.2.1)) (l9 (J9 x.2.1 b.2) λc=>l9 (dW x.2.1 (df b.2)) λx=>l7 (O9 0 x) (l7 (H6 x B) (l9 (bH b.1 [x]) λx=>some (.inl (x,F6 .i64 b.2 1))) (some (.inl (b.1,F6 .i64 b.2 1)))) (some (.inl (b.1,F6 .i64 b.2 1)))) (some (.inr b.1))) ([],0)) λy=>l9 (dK (λ(x:List Int×Int)=>l7 (H6 x.2 (o9 d.2.1)) (l9 (J9 d.2.1 x.2) λb=>l9 (dW d.2.1 (df x.2)) λc=>l7 (O9 0 c) (l7 (H6 c B) (l9 (bH x.1 [c]) λf=>some (.inl (f,F6 .i64 x.2 1))) (some (.inl (x.1,F6 .i64 x.2 1)))) (some (.inl (x.1,F6 .i64 x.2 1)))) (some (.inr x.1))) (y,0)) λy=>some y
def b0Y:FQ:=⟨[tD y19,L6],tR 4 uoM,mE 67 [(216,b3L)],sN 4 (aT (sN 1 (iZ (.loop [(5,6),(13,14),(32,48)] ⟨[(5,uoM),(32,L6)],[]⟩ 0 ⟨[(5,uoM)],[]⟩ H8))) (aT (sN 1 (iZ (.loop [(5,6),(15,16),(50,66),(21000000,21000001)] ⟨[(5,uoM),(50,L6)],[]⟩ 2 ⟨[(5,uoM)],[]⟩ H8))) H8))⟩
def b3r:FSpec:=ai b0Y λx=>pY x.1 x.2
def zq(A:List Int):Option (List Int):=l9 (zh A) λx=>l9 (nU x) λx=>some x
def b0Z:FQ:=⟨[uoM],tR 2 uoM,mE 7 [(217,a6Y),(218,a6Z)],H8⟩
def b3s:FSpec:=ai b0Z λx=>zq x
def vI(A:P5):Option (List (List Int)):=l9 (ER (o9 A.2.2.2.1) []) λx=>l9 (dK (λ(x:List (List Int)×Int)=>l7 (H6 x.2 (o9 A.2.2.2.2)) (l9 (J9 A.2.2.2.2 x.2) λb=>l7 (O9 0 b.2.1) (l7 (H6 b.2.1 (o9 x.1)) (l7 (inb b.2.1 (o9 x.1)) (l9 (dW x.1 (df b.2.1)) λc=>l9 (pY b (o9 x.1)) λd=>l9 (bH c d) λf=>l7 (inb b.2.1 (o9 x.1)) (l7 (XH (df b.2.1) (df b.2.1)) (l9 (dW x.1 (df b.2.1)) λg=>some (.inl (tX x.1 (df b.2.1) f,F6 .i64 x.2 1))) none) none) none) (some (.inl (x.1,F6 .i64 x.2 1)))) (some (.inl (x.1,F6 .i64 x.2 1)))) (some (.inr x.1))) (x,0)) λy=>l9 (dK (λ(x:List (List Int)×Int)=>l7 (H6 x.2 (o9 y)) (l7 (inb x.2 (o9 x.1)) (l9 (dW x.1 (df x.2)) λb=>l9 (zq b) λc=>l7 (inb x.2 (o9 x.1)) (l7 (XH (df x.2) (df x.2)) (l9 (dW x.1 (df x.2)) λd=>some (.inl (tX x.1 (df x.2) c,F6 .i64 x.2 1))) none) none) none) (some (.inr x.1))) (y,0)) λy=>some y
def b0v:FQ:=⟨[tD y24],tR 2 (uD y59),⟨58,eqs,tt,gl,[(187,b3r),(188,b3s)],[(212,oiM)],[7,36,50,53],[],[],[]⟩,sN 2 (aT (sN 1 (iZ (.loop [(3,4),(5,6),(15,44),(7000704,7000705)] ⟨[(3,(false,(.owns oiM))),(15,L6)],[]⟩ 0 ⟨[(3,(false,(.owns oiM)))],[]⟩ H8))) (aT (sN 1 (iZ (.loop [(3,4),(6,8),(44,45),(46,57),(15000000,15000001)] ⟨[(3,(false,(.owns oiM))),(46,L6)],[(44,3)]⟩ 2 ⟨[(3,(false,(.owns oiM)))],[]⟩ H8))) H8))⟩
def b2T:FSpec:=ai b0v λx=>vI x
def yC(A:List (List Int))(B:Int):Option (List Int):=l9 (ER (o9 A) false) λx=>l9 (dK (λ(x:List Bool×List Int)=>l7 (H6 0 (o9 x.2)) (l9 (J9 x.2 0) λf=>l9 (dW x.2 (df 0)) λd=>l7 (jC 1 (o9 x.2) (o9 x.2)) (l9 (J9 A d) λc=>l9 (dK (λ(x:List Bool×List Int×Int)=>l7 (H6 x.2.2 (o9 c)) (l9 (J9 c x.2.2) λb=>l9 (J9 x.1 b) λj=>l9 (dW x.1 (df b)) λg=>l7 (G7 g) (l9 (J9 x.1 b) λk=>l9 (dW x.1 (df b)) λn=>l9 (bH x.2.1 [b]) λi=>some (.inl (tX x.1 (df b) true,i,F6 .i64 x.2.2 1))) (some (.inl (x.1,x.2.1,F6 .i64 x.2.2 1)))) (some (.inr (x.1,x.2.1)))) (x.1,iF x.2 (df 1) (df (o9 x.2)),0)) λy=>some (.inl y)) none) (some (.inr x.1))) (x,[B])) λy=>l9 (dK (λ(x:List Int×Int)=>l7 (H6 x.2 (o9 y)) (l9 (J9 y x.2) λf=>l9 (dW y (df x.2)) λd=>l7 d (l9 (bH x.1 [x.2]) λc=>some (.inl (c,F6 .i64 x.2 1))) (some (.inl (x.1,F6 .i64 x.2 1)))) (some (.inr x.1))) ([],0)) λy=>some y
def b0u:FQ:=⟨[uD y59,L6],tR 4 uoM,mE 62 [],sN 3 (aT (iZ (.loop [(5,8),(9,10),(18,48),(7000960,7000961),(10001088,10001089)] ⟨[(5,(uO .bool)),(6,uoM)],[]⟩ 0 ⟨[(5,(uO .bool))],[]⟩ (sN 1 (iZ (sN 3 (iZ (.loop [(5,7),(9,10),(31,48),(14000000,14000002)] ⟨[(5,(uO .bool)),(6,uoM),(31,L6)],[]⟩ 2 ⟨[(5,(uO .bool)),(6,uoM)],[]⟩ H8))))))) (sN 1 (aT (sN 1 (iZ (.loop [(10,13),(50,61)] ⟨[(10,uoM),(50,L6)],[]⟩ 4 ⟨[(10,uoM)],[]⟩ H8))) H8)))⟩
def b2S:FSpec:=ai b0u λx=>yC x.1 x.2
def ul(A:P5)(B:Int):Option (List Int):=l7 (H6 B 0) (some []) (l7 (O9 (o9 A.2.2.2.1) B) (some []) (l9 (vI A) λx=>l9 (yC x B) λx=>some x))
def a9V:FQ:=⟨[tD y24,L6],tR 4 uoM,mE 18 [(151,b2T),(150,b2S)],H8⟩
def b2B:FSpec:=ai a9V λx=>ul x.1 x.2
def rU(A:List Int)(B:Int):Option Int:=l9 (U0 (λ(x:Int)=>l7 (H6 x (o9 A)) (l9 (J9 A x) λb=>l7 (C9 B b) (some (.rt x)) (some (.nx (F6 .i64 x 1)))) (some (.ex ()))) 0) λo=>Y0 o (λy=>some (-1)) λr=>some r
def b0t:FQ:=⟨[uD y29,L6],tR 4 L6,mE 19 [],sN 1 (aT (sN 1 (iZ (lpR [(4,6),(8,19)] ⟨[(8,L6)],[]⟩ 0 sgN H8))) H8)⟩
def b2R:FSpec:=ai b0t λx=>rU x.1 x.2
def kT(A:List Int)(B:Int):Option Bool:=l9 (rU A B) λx=>some (O9 0 x)
def a9U:FQ:=⟨[uD y29,L6],tR 4 bQ,mE 9 [(149,b2R)],H8⟩
def b2A:FSpec:=ai a9U λx=>kT x.1 x.2
def vU(A:dJ)(B:Int):Option I9:=l9 (J9 A.2.2 B) λx=>l9 (gW A.2.2 0 B) λf=>l9 (l9 (uY A.1 x.1) λd=>l7 d (some (x,true)) (l9 (vV A.2.1 x.1) λb=>l7 b (some (x,true)) (l9 (cO f x) λc=>some (x,c)))) λx=>l9 (l9 (bK x.1.1) λd=>l7 (G7 d) (some (.inr (2,0))) (l7 x.2 (some (.inr (7,0))) (l9 (l7 (G7 (C9 x.1.2.1 (-1))) (l7 (H6 x.1.2.1 0) (some true) (l7 (O9 B x.1.2.1) (some true) (l9 (J9 f x.1.2.1) λx=>some (G7 (C9 x.2.1 (-1)))))) (some false)) λb=>l7 b (some (.inr (6,0))) (l7 (H6 12 (o9 x.1.2.2.1)) (some (.inr (4,112))) (l7 (H6 12 (o9 x.1.2.2.2.1)) (some (.inr (4,212))) (some (.inl ()))))))) λo=>Y0 o (λd=>l9 (U0 (λ(b:Int)=>l7 (H6 b (o9 x.1.2.2.1)) (l9 (J9 x.1.2.2.1 b) λc=>l9 (gW x.1.2.2.1 0 b) λx=>l9 (rC A c x []) λx=>l7 (G7 (C9 x 0)) (some (.rt (x,F6 .i64 100 b))) (some (.nx (F6 .i64 b 1)))) (some (.ex ()))) 0) λo=>Y0 o (λy=>l9 (U0 (λ(b:Int)=>l7 (H6 b (o9 x.1.2.2.2.1)) (l9 (J9 x.1.2.2.2.1 b) λc=>l9 (gW x.1.2.2.2.1 0 b) λg=>l9 (rC A c x.1.2.2.1 g) λx=>l7 (G7 (C9 x 0)) (some (.rt (x,F6 .i64 200 b))) (some (.nx (F6 .i64 b 1)))) (some (.ex ()))) 0) λo=>Y0 o (λy=>l9 (lH A B) λb=>l9 (U0 (λ(c:Int)=>l7 (H6 c (o9 x.1.2.2.2.2)) (l9 (xG x.1 c b) λx=>l7 (G7 (C9 x 0)) (some (.rt (x,F6 .i64 300 c))) (some (.nx (F6 .i64 c 1)))) (some (.ex ()))) 0) λo=>Y0 o (λy=>l9 (U0 (λ(c:Int)=>l7 (H6 c (o9 x.1.2.2.2.1)) (l9 (ul x.1 c) λx=>l9 (kT x c) λx=>l7 x (some (.rt (9,F6 .i64 200 c))) (some (.nx (F6 .i64 c 1)))) (some (.ex ()))) 0) λo=>Y0 o (λy=>some (0,0)) λr=>some r) λr=>some r) λr=>some r) λr=>some r) λr=>some r
def q62:FQ:=⟨[tD y27,L6],⟨[(.tmp 4,L6),(.tmp 5,L6)],[]⟩,mE 163 [(60,s60),(61,s61),(109,Yj),(108,a2q),(59,s59),(110,b2x),(111,b2y),(112,b2z),(114,b2B),(113,b2A)],sN 3 (aT (.join [(6,7),(8,9),(28,45),(7000384,7000385)] ⟨[(6,(false,(.rp y24))),(8,bQ)],[]⟩ H8) (aT (jnR [(4,6),(45,86)] sgN (iZ (sN 1 (.cond H8 (sN 1 (.cond H8 (aT (.join [(52,76)] ⟨[(52,bQ)],[]⟩ H8) H8))))))) (aT (sN 1 (iZ (lpR [(4,6),(9,12),(89,107)] ⟨[(89,L6)],[]⟩ 1 sgN H8))) (aT (sN 1 (iZ (lpR [(4,6),(12,15),(110,130)] ⟨[(110,L6)],[]⟩ 3 sgN H8))) (sN 1 (aT (sN 1 (iZ (lpR [(4,6),(16,18),(136,149)] ⟨[(136,L6)],[]⟩ 5 sgN H8))) (aT (sN 1 (iZ (lpR [(4,6),(18,19),(152,163)] ⟨[(152,L6)],[]⟩ 7 sgN H8))) H8)))))))⟩
def s62:FSpec:=ai q62 λx=>vU x.1 x.2
def uo(A:dJ):Option W9:=l7 (H6 4 (o9 A.2.2)) (some (4,3,4,0)) (l9 (U0 (λ(x:W9×Int)=>l7 (H6 x.2 (o9 A.2.2)) (l9 (vU A x.2) λb=>l7 (G7 (C9 b.1 0)) (some (.rt (b.1,3,x.2,b.2))) (some (.nx (x.1,F6 .i64 x.2 1)))) (some (.ex x.1))) ((0,0,0,0),0)) λo=>Y0 o (λ(y:W9)=>some (0,0,0,0)) λr=>some r)
def q34:FQ:=⟨[tD y27],cR 2 64 (tD y35),mE 31 [(62,s62)],sN 2 (aT (sN 1 (iZ (lpR [(2,6),(14,30),(4000128,4000129)] ⟨[(2,(false,(.box (dT y35)))),(14,L6)],[]⟩ 0 ⟨[(2,(false,(.box (dT y35))))],[]⟩ H8))) H8)⟩
def s34:FSpec:=ai q34 λx=>uo x
def vS(A:dJ):Option W9:=l9 (vT A) λx=>l7 (G7 (C9 x.1 0)) (some x) (l9 (uq A) λx=>l7 (G7 (C9 x.1 0)) (some x) (l9 (uo A) λx=>some x))
def q13:FQ:=⟨[tD y27],cR 2 64 (tD y35),mE 19 [(32,s32),(33,s33),(34,s34)],H8⟩
def s13:FSpec:=ai q13 λx=>vS x
def b5T:List MG:=[(false,(.sbx 69 5)),(false,(.dat .str))]
def s14:FSpec:=⟨b5T,[L6,(false,(.cell none))],[(false,(.sbx 69 5))],λx=>jQ x.1 x.2⟩
def b5W:List MG:=[(false,(.dat (.sl .str)))]
def s64:FSpec:=⟨b5W,[(false,(.own .str))],[],λx=>yR x⟩
def rD(A:List dL):Option (List dL):=l9 (dK (λ(x:List dL×Int)=>l7 (H6 x.2 (o9 A)) (l9 (J9 A x.2) λb=>l9 (yR b.2) λc=>l9 (bH x.1 [(b.1,c)]) λd=>some (.inl (d,F6 .i64 x.2 1))) (some (.inr x.1))) ([],0)) λy=>some y
def q36:FQ:=⟨[uD y1],tR 2 (uO y0),mE 23 [(64,s64)],sN 2 (aT (sN 1 (iZ (.loop [(3,4),(5,6),(8,22)] ⟨[(3,(uO y0)),(8,L6)],[]⟩ 0 ⟨[(3,(uO y0))],[]⟩ H8))) H8)⟩
def s36:FSpec:=ai q36 λx=>rD x
def pg(A:List jh):Option (List (List UInt8)):=l9 (dK (λ(x:List (List UInt8)×Int)=>l7 (H6 x.2 (o9 A)) (l9 (J9 A x.2) λb=>l9 (bH x.1 [b.1]) λc=>some (.inl (c,F6 .i64 x.2 1))) (some (.inr x.1))) ([],0)) λy=>some y
def q37:FQ:=⟨[uD y11],tR 2 (uO .str),mE 19 [],sN 2 (aT (sN 1 (iZ (.loop [(3,4),(5,6),(8,18)] ⟨[(3,(uO .str)),(8,L6)],[]⟩ 0 ⟨[(3,(uO .str))],[]⟩ H8))) H8)⟩
def s37:FSpec:=ai q37 λx=>pg x
def nO(A:dJ)(B:Int):Option D9:=l9 (l7 (H6 B 0) (some (.inr ([],[],[],[],[]))) (l7 (O9 (o9 A.2.2) B) (some (.inr ([],[],[],[],[]))) (some (.inl ([],[],[],[],[]))))) λo=>Y0 o (λ(x:D9)=>l9 (J9 A.2.2 B) λx=>l9 (rD A.1) λb=>l9 (pg x.2.2.1) λc=>l9 (pg x.2.2.2.1) λd=>l9 (dK (λ(x:D9×Int)=>l7 (H6 x.2 (o9 A.2.1)) (l9 (J9 A.2.1 x.2) λf=>l9 (bH x.1.2.1 [f.1]) λg=>some (.inl ((x.1.1,g,x.1.2.2),F6 .i64 x.2 1))) (some (.inr x.1))) ((b,[],c,d,[]),0)) λy=>l7 (O9 0 x.2.1) (l7 (H6 x.2.1 (o9 A.2.2)) (l9 (J9 A.2.2 x.2.1) λx=>l9 (pg x.2.2.2.1) λx=>some (y.1,y.2.1,y.2.2.1,y.2.2.2.1,x)) (some y)) (some y)) λr=>some r
def q15:FQ:=⟨[tD y27,L6],cR 4 77 (tD iP),mE 70 [(36,s36),(37,s37)],sN 1 (aT (jnR [(4,5),(9,19),(4000256,4000257)] ⟨[(4,(false,(.box (dT iP))))],[]⟩ H8) (sN 2 (aT (sN 1 (iZ (.loop [(6,7),(8,9),(37,49),(20000384,20000385),(20001664,20001665),(20001856,20001857),(20002048,20002049)] ⟨[(6,(false,(.box (pA (oW y0) (pA (oW .str) (pA (oW .str) (pA (oW .str) (dT (.sl .str))))))))),(37,L6)],[]⟩ 0 ⟨[(6,(false,(.box (pA (oW y0) (pA (oW .str) (pA (oW .str) (pA (oW .str) (dT (.sl .str)))))))))],[]⟩ H8))) H8)))⟩
def s15:FSpec:=ai q15 λx=>nO x.1 x.2
def Au(A:List I9):Option (List Int×Int):=l9 (qY A) λx=>some (x.1,x.2.2)
def q38:FQ:=⟨[uD y12],⟨[(.tmp 2,uoM),(.tmp 3,L6)],[]⟩,mE 15 [(65,s65)],H8⟩
def s38:FSpec:=ai q38 λx=>Au x
def oC(A:Int)(B:I9)(C:List dL):Option Bool:=l9 (jE B C) λx=>l7 (O9 x.1 A) (some (O9 A x.2)) (some false)
def b0w:FQ:=⟨[L6,tD y2,uD y1],tR 6 bQ,mE 23 [(96,s96)],H8⟩
def b2U:FSpec:=ai b0w λx=>oC x.1 x.2.1 x.2.2
def a9H:List MG:=[L6]
def b3t:FSpec:=⟨a9H,[(false,(.dat .str))],[],λx=>BI x⟩
def kS(A:Int):Option (List UInt8):=l9 (BI A) λx=>some x
def b0x:FQ:=⟨[L6],tR 2 (uD .str),mE 5 [(189,b3t)],H8⟩
def a4Q:FSpec:=ai b0x λx=>kS x
def oM(A:Int):Option Int:=some (vO 0 (vP A 9))
def b1a:FQ:=⟨[L6],tR 2 L6,mE 6 [],H8⟩
def a6V:FSpec:=ai b1a λx=>oM x
def a9I:List MG:=[(false,(.dat .str)),L6]
def a6W:FSpec:=⟨a9I,[(false,(.dat .str))],[],λx=>pW x.1 x.2⟩
def bf(A:Int)(B:Int):Option (List UInt8):=l9 (oM B) λx=>l9 (kS A) λc=>l7 (C9 x 0) (some c) (l7 (H6 A 0) (l9 (gW c 1 (o9 c)) λb=>l7 (O9 (o9 b) x) (l9 (pW [48] (X9 .i64 (F6 .i64 x 1) (o9 b))) λd=>l9 (J3 d b) λf=>l9 (gW f 0 (X9 .i64 (o9 f) x)) λg=>l9 (J3 [45] g) λi=>l9 (J3 i [46]) λj=>l9 (gW f (X9 .i64 (o9 f) x) (o9 f)) λx=>l9 (J3 j x) λx=>some x) (l9 (gW b 0 (X9 .i64 (o9 b) x)) λd=>l9 (J3 [45] d) λf=>l9 (J3 f [46]) λg=>l9 (gW b (X9 .i64 (o9 b) x) (o9 b)) λx=>l9 (J3 g x) λx=>some x)) (l7 (O9 (o9 c) x) (l9 (pW [48] (X9 .i64 (F6 .i64 x 1) (o9 c))) λb=>l9 (J3 b c) λd=>l9 (gW d 0 (X9 .i64 (o9 d) x)) λf=>l9 (J3 [] f) λg=>l9 (J3 g [46]) λi=>l9 (gW d (X9 .i64 (o9 d) x) (o9 d)) λx=>l9 (J3 i x) λx=>some x) (l9 (gW c 0 (X9 .i64 (o9 c) x)) λb=>l9 (J3 [] b) λd=>l9 (J3 d [46]) λf=>l9 (gW c (X9 .i64 (o9 c) x) (o9 c)) λx=>l9 (J3 f x) λx=>some x)))
def b0y:FQ:=⟨[L6,L6],tR 4 (uD .str),mE 45 [(190,a6V),(153,a4Q),(191,a6W)],H8⟩
def b2V:FSpec:=ai b0y λx=>bf x.1 x.2
def zo(A:Int):Option Bool:=l7 (O9 0 A) (some (O9 A 109572)) (some false)
def b1b:FQ:=⟨[L6],tR 2 bQ,mE 9 [],H8⟩
def a6X:FSpec:=ai b1b λx=>zo x
def qW(A:Int):Option Int:=some (F6 .i64 (X9 .i64 (dZ .i64 A 4) (dZ .i64 A 100)) (dZ .i64 A 400))
def b1K:FQ:=⟨[L6],tR 2 L6,mE 11 [],H8⟩
def b3Y:FSpec:=ai b1K λx=>qW x
def mO(A:Int):Option Int:=l9 (qW (X9 .i64 A 1)) λx=>l9 (qW 1899) λb=>some (X9 .i64 (F6 .i64 (Dk .i64 (X9 .i64 A 1900) 365) x) b)
def b1t:FQ:=⟨[L6],tR 2 L6,mE 12 [(250,b3Y)],H8⟩
def a7a:FSpec:=ai b1t λx=>mO x
def Ak(A:Int):Option Bool:=l7 (C9 (jG A 4) 0) (l7 (G7 (C9 (jG A 100) 0)) (some true) (some (C9 (jG A 400) 0))) (some false)
def b1L:FQ:=⟨[L6],tR 2 bQ,mE 16 [],H8⟩
def b3Z:FSpec:=ai b1L λx=>Ak x
def jS(A:Int)(B:Int):Option Int:=l7 (H6 B 1) (some 0) (l7 (H6 12 B) (some 0) (l7 (C9 B 2) (l9 (Ak A) λx=>l7 x (some 29) (l9 (J9 [31,28,31,30,31,30,31,31,30,31,30,31] (X9 .i64 B 1)) λx=>some x)) (l9 (J9 [31,28,31,30,31,30,31,31,30,31,30,31] (X9 .i64 B 1)) λx=>some x)))
def b1u:FQ:=⟨[L6,L6],tR 4 L6,mE 21 [(251,b3Z)],H8⟩
def a7b:FSpec:=ai b1u λx=>jS x.1 x.2
def CV(A:Int):Option Ep:=l9 (zo A) λx=>l7 (G7 x) (some (0,0,0)) (l9 (dK (λ(x:Int)=>l9 (mO (F6 .i64 x 1)) λb=>l7 (O9 b A) (some (.inl (F6 .i64 x 1))) (some (.inr x))) (F6 .i64 1900 (dZ .i64 A 366))) λy=>l9 (mO y) λx=>l9 (U0 (λ(x:I9)=>l7 (H6 x.2 12) (l9 (jS y (F6 .i64 x.2 1)) λb=>l7 (H6 x.1 b) (some (.rt (y,F6 .i64 x.2 1,F6 .i64 x.1 1))) (some (.nx (X9 .i64 x.1 b,F6 .i64 x.2 1)))) (some (.ex ()))) (X9 .i64 A x,0)) λo=>Y0 o (λy=>some (0,0,0)) λr=>some r)
def b1c:FQ:=⟨[L6],⟨[(.tmp 2,L6),(.tmp 3,L6),(.tmp 4,L6)],[]⟩,mE 45 [(192,a6X),(222,a7a),(223,a7b)],sN 3 (aT (iZ (.loop [(5,6),(15,22)] ⟨[(5,L6)],[]⟩ 0 ⟨[(5,L6)],[]⟩ H8)) (sN 1 (aT (sN 1 (iZ (lpR [(2,5),(6,9),(26,45)] ⟨[(6,L6),(26,L6)],[]⟩ 2 sgN H8))) H8)))⟩
def b3u:FSpec:=ai b1c λx=>CV x
def zn(A:Int)(B:Int):Option (List UInt8):=l9 (kS A) λx=>l9 (pW [48] (vO 0 (X9 .i64 B (o9 x)))) λb=>l9 (J3 b x) λx=>some x
def b1d:FQ:=⟨[L6,L6],tR 4 (uD .str),mE 16 [(153,a4Q),(191,a6W)],H8⟩
def b3v:FSpec:=ai b1d λx=>zn x.1 x.2
def Aj(A:Int):Option (List UInt8):=l9 (zo A) λx=>l7 (G7 x) (some []) (l9 (CV A) λx=>l9 (zn x.1 4) λb=>l9 (J3 b [45]) λc=>l9 (zn x.2.1 2) λd=>l9 (J3 c d) λf=>l9 (J3 f [45]) λg=>l9 (zn x.2.2 2) λx=>l9 (J3 g x) λx=>some x)
def b0z:FQ:=⟨[L6],tR 2 (uD .str),mE 25 [(192,a6X),(193,b3u),(194,b3v)],H8⟩
def b2W:FSpec:=ai b0z λx=>Aj x
def lY(A:Ep)(B:List dL):Option (List UInt8×Int):=l9 (aG (A.1,A.2.1) B) λx=>l7 (G7 x) (some ([],8)) (l9 (oC A.2.2 (A.1,A.2.1) B) λx=>l7 (G7 x) (some ([],3)) (l7 (C9 A.1 1) (l7 (C9 A.2.2 0) (some ([102,97,108,115,101],0)) (some ([116,114,117,101],0))) (l7 (C9 A.1 2) (l9 (kS A.2.2) λx=>some (x,0)) (l7 (C9 A.1 3) (l9 (bf A.2.2 2) λx=>some (x,0)) (l7 (C9 A.1 4) (l9 (bf A.2.2 4) λx=>l9 (J3 x [37]) λx=>some (x,0)) (l7 (C9 A.1 5) (l9 (Aj A.2.2) λx=>some (x,0)) (l9 (J9 B A.2.1) λx=>l9 (J9 x.2 A.2.2) λx=>some (x,0))))))))
def a9W:FQ:=⟨[tD y3,uD y1],⟨[(.tmp 4,(uD .str)),(.tmp 5,L6)],[]⟩,mE 60 [(95,s95),(152,b2U),(153,a4Q),(154,b2V),(155,b2W)],H8⟩
def b2C:FSpec:=ai a9W λx=>lY x.1 x.2
def Y9(A:List UInt8):Option G8:=some (A,7,false)
def q69:FQ:=⟨[uD .str],cR 2 109 (tD y44),mE 5 [],H8⟩
def s69:FSpec:=ai q69 λx=>Y9 x
def lQ(A:I9):Option (G8×Int):=l9 (lY (A.1,0,A.2) []) λx=>l7 (G7 (C9 x.2 0)) (some (([],0,false),3)) (l9 (Y9 x.1) λx=>l7 (C9 A.1 2) (l7 (H6 A.2 0) (some ((x.1,6,true),0)) (some ((x.1,x.2.1,true),0))) (l7 (C9 A.1 3) (l7 (H6 A.2 0) (some ((x.1,6,true),0)) (some ((x.1,x.2.1,true),0))) (l7 (C9 A.1 4) (l7 (H6 A.2 0) (some ((x.1,6,C9 A.1 4),0)) (some ((x.1,x.2.1,C9 A.1 4),0))) (some ((x.1,x.2.1,C9 A.1 4),0)))))
def q66:FQ:=⟨[tD y2],⟨[(.cell 2 109,tD y44),(.tmp 3,L6)],[]⟩,mE 44 [(115,b2C),(69,s69)],H8⟩
def s66:FSpec:=ai q66 λx=>lQ x
def fE(A:Int):Option (List UInt8):=l7 (C9 A 14) (some [115,104,97,114,101]) (l7 (C9 A 15) (some [100,105,118]) (l7 (C9 A 16) (some [114,111,117,110,100]) (l7 (C9 A 17) (some [109,105,110]) (l7 (C9 A 18) (some [109,97,120]) (l7 (C9 A 27) (some [112,108,117,115]) (l7 (C9 A 28) (some [109,111,110,116,104,115]) (l7 (C9 A 29) (some [100,97,121,115]) (l7 (C9 A 30) (some [121,101,97,114,115]) (l7 (C9 A 31) (some [121,101,97,114]) (l7 (C9 A 32) (some [109,111,110,116,104]) (l7 (C9 A 33) (some [116,97,98]) (l7 (C9 A 34) (some [98,97,110,100]) (l7 (C9 A 35) (some [99,111,117,110,116]) (l7 (C9 A 36) (some [115,117,109]) (l7 (C9 A 37) (some [97,108,108]) (l7 (C9 A 38) (some [97,110,121]) (l7 (C9 A 39) (some [109,111,115,116]) (some []))))))))))))))))))
def q70:FQ:=⟨[L6],tR 2 (uD .str),mE 40 [],H8⟩
def s70:FSpec:=ai q70 λx=>fE x
def cu(A:I9)(B:D9):Option (G8×Int):=l9 (l7 (C9 A.1 6) (l7 (H6 A.2 0) (some (.inr (([],0,false),6))) (l7 (O9 (o9 B.1) (dZ .i64 A.2 16)) (some (.inr (([],0,false),6))) (l9 (J9 B.1 (dZ .i64 A.2 16)) λx=>l9 (J3 x.1 [58]) λb=>some (.inl (([],0,false),x.2,jG A.2 16,b,[]))))) (l7 (C9 A.1 7) (some (.inl (([],0,false),B.2.2.1,A.2,[],[]))) (l7 (C9 A.1 8) (some (.inl (([],0,false),B.2.2.2.1,A.2,[],[]))) (l9 (fE A.1) λx=>l9 (J3 x [40]) λx=>some (.inl (([],0,false),B.2.2.2.2,A.2,x,[41])))))) λo=>Y0 o (λ(x:G8×List (List UInt8)×Int×List UInt8×List UInt8)=>l7 (H6 x.2.2.1 0) (some (([],0,false),6)) (l7 (O9 (o9 x.2.1) x.2.2.1) (some (([],0,false),6)) (l9 (J9 x.2.1 x.2.2.1) λb=>l9 (J3 x.2.2.2.1 b) λc=>l9 (J3 c x.2.2.2.2) λx=>l9 (Y9 x) λx=>some (x,0)))) λr=>some r
def q67:FQ:=⟨[tD y2,tD iP],⟨[(.cell 4 109,tD y44),(.tmp 5,L6)],[]⟩,mE 77 [(70,s70),(69,s69)],sN 2 (aT (jnR [(4,11),(15,59),(4000256,4000257)] ⟨[(4,(false,(.box (dT y44)))),(6,(uD (.sl .str))),(7,L6),(8,(uD .str)),(9,(uD .str))],[]⟩ H8) H8)⟩
def s67:FSpec:=ai q67 λx=>cu x.1 x.2
def di(A:Int):Option (List UInt8):=l7 (C9 A 0) (some [100,111,119,110]) (l7 (C9 A 1) (some [117,112]) (l7 (C9 A 2) (some [122,101,114,111]) (l7 (C9 A 3) (some [97,119,97,121]) (l7 (C9 A 4) (some [104,97,108,102]) (l7 (C9 A 5) (some [101,118,101,110]) (some []))))))
def q71:FQ:=⟨[L6],tR 2 (uD .str),mE 16 [],H8⟩
def s71:FSpec:=ai q71 λx=>di x
def dY(A:I9)(B:G8)(C:D9):Option (G8×Int):=l9 (l7 (C9 A.1 34) (l7 (H6 0 A.2) (some (dZ .i64 A.2 8)) (some A.2)) (some A.2)) λx=>l9 (l7 (H6 x 0) (some (.inr (([],0,false),6))) (l7 (O9 (o9 C.2.1) x) (some (.inr (([],0,false),6))) (some (.inl ([],0,false))))) λo=>Y0 o (λ(g:G8)=>l9 (fE A.1) λc=>l9 (J3 c [40]) λd=>l9 (J9 C.2.1 x) λx=>l9 (J3 d x) λx=>l9 (J3 x [44,32]) λx=>l9 (J3 x B.1) λx=>l7 (C9 A.1 34) (l9 (di (jG A.2 8)) λb=>l7 (seq b []) (some (([],0,false),3)) (l9 (J3 [44,32] b) λf=>l9 (J3 x f) λx=>l9 (J3 x [41]) λx=>l9 (Y9 x) λx=>some (x,0))) (l9 (J3 x [41]) λx=>l9 (Y9 x) λx=>some (x,0))) λr=>some r
def q68:FQ:=⟨[tD y2,tD y44,tD iP],⟨[(.cell 6 109,tD y44),(.tmp 7,L6)],[]⟩,mE 63 [(70,s70),(71,s71),(69,s69)],sN 2 (aT (.join [(8,9),(13,22)] ⟨[(8,L6)],[]⟩ H8) (aT (jnR [(6,8),(22,32),(4000384,4000385)] ⟨[(6,(false,(.box (dT y44))))],[]⟩ H8) H8))⟩
def s68:FSpec:=ai q68 λx=>dY x.1 x.2.1 x.2.2
def dh(A:G8)(B:Int):Option (List UInt8):=l7 (H6 A.2.1 B) (l9 (J3 [40] A.1) λx=>l9 (J3 x [41]) λx=>some x) (some A.1)
def q72:FQ:=⟨[tD y44,L6],tR 4 (uD .str),mE 15 [],H8⟩
def s72:FSpec:=ai q72 λx=>dh x.1 x.2
def fD(A:Int):Option (List UInt8×Int):=l7 (C9 A 24) (some ([111,114],1)) (l7 (C9 A 23) (some ([97,110,100],2)) (l7 (C9 A 19) (some ([61,61],3)) (l7 (C9 A 20) (some ([33,61],3)) (l7 (C9 A 21) (some ([60],3)) (l7 (C9 A 22) (some ([60,61],3)) (l7 (C9 A 11) (some ([43],4)) (l7 (C9 A 12) (some ([45],4)) (l7 (C9 A 13) (some ([42],5)) (some ([],0))))))))))
def q73:FQ:=⟨[L6],⟨[(.tmp 2,(uD .str)),(.tmp 3,L6)],[]⟩,mE 23 [],H8⟩
def s73:FSpec:=ai q73 λx=>fD x
def U7(A:I9)(B:List G8)(C:D9):Option (G8×Int):=l9 (l9 (l7 (C9 A.1 1) (some (C9 A.1 1)) (l7 (C9 A.1 2) (some (C9 A.1 2)) (l7 (C9 A.1 3) (some (C9 A.1 3)) (l7 (C9 A.1 4) (some (C9 A.1 4)) (some (C9 A.1 5)))))) λx=>l7 x (l9 (lQ A) λx=>some (.inr x)) (l9 (l7 (C9 A.1 6) (some (C9 A.1 6)) (l7 (C9 A.1 7) (some (C9 A.1 7)) (l7 (C9 A.1 8) (some (C9 A.1 8)) (l7 (C9 A.1 36) (some (C9 A.1 36)) (l7 (C9 A.1 37) (some (C9 A.1 37)) (l7 (C9 A.1 38) (some (C9 A.1 38)) (some (C9 A.1 39)))))))) λx=>l7 x (l9 (cu A C) λx=>some (.inr x)) (l9 (l7 (C9 A.1 33) (some (C9 A.1 33)) (some (C9 A.1 34))) λx=>l7 x (l9 (J9 B 0) λx=>l9 (dY A x C) λx=>some (.inr x)) (l7 (C9 A.1 9) (l9 (Y9 [116,111,100,97,121]) λx=>some (.inr (x,0))) (l7 (C9 A.1 35) (l9 (Y9 [99,111,117,110,116,40,41]) λx=>some (.inr (x,0))) (l9 (l7 (C9 A.1 31) (some (C9 A.1 31)) (some (C9 A.1 32))) λx=>l7 x (l9 (fE A.1) λx=>l9 (J3 x [40]) λx=>l9 (J9 B 0) λb=>l9 (J3 x b.1) λx=>l9 (J3 x [41]) λx=>l9 (Y9 x) λx=>some (.inr (x,0))) (l9 (l7 (C9 A.1 17) (some (C9 A.1 17)) (l7 (C9 A.1 18) (some (C9 A.1 18)) (l7 (C9 A.1 27) (some (C9 A.1 27)) (l7 (C9 A.1 28) (some (C9 A.1 28)) (l7 (C9 A.1 29) (some (C9 A.1 29)) (some (C9 A.1 30))))))) λx=>l7 x (l9 (fE A.1) λx=>l9 (J3 x [40]) λx=>l9 (J9 B 0) λb=>l9 (J3 x b.1) λx=>l9 (J3 x [44,32]) λx=>l9 (J9 B 1) λc=>l9 (J3 x c.1) λx=>l9 (J3 x [41]) λx=>l9 (Y9 x) λx=>some (.inr (x,0))) (l9 (l7 (C9 A.1 14) (some (C9 A.1 14)) (l7 (C9 A.1 15) (some (C9 A.1 15)) (some (C9 A.1 16)))) λx=>l7 x (l9 (di A.2) λx=>l7 (seq x []) (some (.inr (([],0,false),3))) (l9 (fE A.1) λb=>l9 (J3 b [40]) λc=>l9 (J9 B 0) λd=>l9 (J3 c d.1) λf=>l9 (J3 f [44,32]) λg=>l9 (J9 B 1) λi=>l9 (J3 g i.1) λj=>l9 (J3 j [44,32]) λk=>l9 (J3 k x) λx=>l9 (J3 x [41]) λx=>l9 (Y9 x) λx=>some (.inr (x,0)))) (l7 (C9 A.1 26) (l9 (J9 B 0) λx=>l9 (J3 [105,102,32] x.1) λx=>l9 (J3 x [32,116,104,101,110,32]) λx=>l9 (J9 B 1) λb=>l9 (J3 x b.1) λx=>l9 (J3 x [32,101,108,115,101,32]) λx=>l9 (J9 B 2) λc=>l9 (J3 x c.1) λx=>some (.inr ((x,0,false),0))) (l7 (C9 A.1 25) (l9 (J9 B 0) λx=>l9 (dh x 6) λx=>l9 (J3 [110,111,116,32] x) λx=>some (.inr ((x,6,false),0))) (l7 (C9 A.1 10) (l9 (J9 B 0) λx=>l9 (dh x 6) λx=>l9 (J9 B 0) λb=>l7 b.2.2 (l9 (J9 B 0) λx=>l9 (J3 [40] x.1) λx=>l9 (J3 x [41]) λx=>l9 (J3 [45] x) λx=>some (.inr ((x,6,false),0))) (l9 (J3 [45] x) λx=>some (.inr ((x,6,false),0)))) (some (.inl ([],0,false)))))))))))))) λo=>Y0 o (λ(x:G8)=>l9 (fD A.1) λx=>l7 (C9 x.2 3) (l9 (J9 B 0) λb=>l9 (dh b 4) λc=>l9 (J3 c [32]) λd=>l9 (J3 d x.1) λf=>l9 (J3 f [32]) λg=>l9 (J9 B 1) λi=>l9 (dh i (F6 .i64 x.2 1)) λj=>l9 (J3 g j) λk=>some ((k,x.2,false),0)) (l9 (J9 B 0) λb=>l9 (dh b x.2) λc=>l9 (J3 c [32]) λd=>l9 (J3 d x.1) λf=>l9 (J3 f [32]) λg=>l9 (J9 B 1) λi=>l9 (dh i (F6 .i64 x.2 1)) λj=>l9 (J3 g j) λk=>some ((k,x.2,false),0))) λr=>some r
def q41:FQ:=⟨[tD y2,uD y45,tD iP],⟨[(.cell 6 109,tD y44),(.tmp 7,L6)],[]⟩,mE 203 [(66,s66),(67,s67),(68,s68),(69,s69),(70,s70),(71,s71),(72,s72),(73,s73)],sN 1 (aT (jnR [(6,11),(16,174),(4000384,4000385)] ⟨[(6,(false,(.box (dT y44))))],[]⟩ (sN 1 (iZ (aT (.join [(18,24)] ⟨[(18,bQ)],[]⟩ H8) (.cond H8 (aT (.join [(28,36)] ⟨[(28,bQ)],[]⟩ H8) (.cond H8 (aT (.join [(41,44)] ⟨[(41,bQ)],[]⟩ H8) (.cond H8 (sN 1 (.cond H8 (sN 1 (.cond H8 (aT (.join [(58,61)] ⟨[(58,bQ)],[]⟩ H8) (.cond H8 (aT (.join [(72,79)] ⟨[(72,bQ)],[]⟩ H8) (.cond H8 (aT (.join [(96,100)] ⟨[(96,bQ)],[]⟩ H8) H8)))))))))))))))))) H8)⟩
def s41:FSpec:=ai q41 λx=>U7 x.1 x.2.1 x.2.2
def lm(A:List I9)(B:D9):Option (List UInt8×Int):=l9 (Au A) λx=>l7 (G7 (C9 x.2 0)) (some ([],x.2)) (l9 (U0 (λ(x:List G8×Int)=>l7 (H6 x.2 (o9 A)) (l9 (J9 A x.2) λc=>l7 (G7 (C9 c.2 0)) (l9 (aI c.1) λd=>l7 (G7 d) (some (.rt ([],2))) (l9 (jl c.1) λb=>l7 (jC (X9 .i64 (o9 x.1) b) (o9 x.1) (o9 x.1)) (l9 (U7 c (iF x.1 (df (X9 .i64 (o9 x.1) b)) (df (o9 x.1))) B) λf=>l7 (G7 (C9 f.2 0)) (some (.rt ([],f.2))) (l7 (jC 0 (X9 .i64 (o9 x.1) b) (o9 x.1)) (l9 (bH (iF x.1 (df 0) (df (X9 .i64 (o9 x.1) b))) [f.1]) λg=>some (.nx (g,F6 .i64 x.2 1))) none)) none)) (l9 (jl c.1) λd=>l7 (jC (X9 .i64 (o9 x.1) d) (o9 x.1) (o9 x.1)) (l9 (U7 c (iF x.1 (df (X9 .i64 (o9 x.1) d)) (df (o9 x.1))) B) λb=>l7 (G7 (C9 b.2 0)) (some (.rt ([],b.2))) (l7 (jC 0 (X9 .i64 (o9 x.1) d) (o9 x.1)) (l9 (bH (iF x.1 (df 0) (df (X9 .i64 (o9 x.1) d))) [b.1]) λf=>some (.nx (f,F6 .i64 x.2 1))) none)) none)) (some (.ex x.1))) ([],0)) λo=>Y0 o (λ(y:List G8)=>l9 (J9 y 0) λx=>l9 (dW y (df 0)) λx=>some (x.1,0)) λr=>some r)
def q16:FQ:=⟨[uD y12,tD iP],⟨[(.tmp 4,(uD .str)),(.tmp 5,L6)],[]⟩,mE 66 [(38,s38),(39,s39),(40,s40),(41,s41)],sN 3 (aT (sN 1 (iZ (lpR [(4,6),(8,9),(10,14),(24,62)] ⟨[(8,(uO y44)),(24,L6)],[]⟩ 0 ⟨[(8,(uO y44))],[]⟩ H8))) H8)⟩
def s16:FSpec:=ai q16 λx=>lm x.1 x.2
def oz(A:Int):Option Int:=some (vP (vO A 0) 8)
def q74:FQ:=⟨[L6],tR 2 L6,mE 6 [],H8⟩
def s74:FSpec:=ai q74 λx=>oz x
def qH(A:I9)(B:Int):Option Bool:=l7 (O9 0 A.1) (l9 (oz B) λx=>l9 (Zk .i64 1 x) λx=>l7 (H6 A.1 x) (l7 (O9 0 A.2) (some (C9 (wX .i64 A.2 A.1) A.2)) (some false)) (some false)) (some false)
def q42:FQ:=⟨[tD y2,L6],tR 4 bQ,mE 31 [(74,s74)],H8⟩
def s42:FSpec:=ai q42 λx=>qH x.1 x.2
def rW(A:I9)(B:Int):Option (List UInt8):=l9 (oz B) λx=>l9 (dK (λ(x:List Int×Int)=>l7 (O9 0 x.2) (l9 (GX .i64 A.1 x.2) λd=>l7 (C9 (wX .i64 d 1) 0) (l9 (bH x.1 [45]) λb=>some (.inl (b,X9 .i64 x.2 1))) (l9 (GX .i64 A.2 x.2) λb=>l7 (C9 (wX .i64 b 1) 1) (l9 (bH x.1 [49]) λc=>some (.inl (c,X9 .i64 x.2 1))) (l9 (bH x.1 [48]) λc=>some (.inl (c,X9 .i64 x.2 1))))) (some (.inr x.1))) ([],X9 .i64 x 1)) λy=>some (Eh y)
def q43:FQ:=⟨[tD y2,L6],tR 4 (uD .str),mE 39 [(74,s74)],sN 2 (aT (sN 1 (iZ (.loop [(5,7),(10,37)] ⟨[(5,(false,(oW (.int .u8)))),(6,L6)],[]⟩ 0 ⟨[(5,(false,(oW (.int .u8))))],[]⟩ H8))) H8)⟩
def s43:FSpec:=ai q43 λx=>rW x.1 x.2
def kG(A:P5)(B:az)(C:Int):Option (List UInt8×Int):=l9 (qH B.1 C) λx=>l7 (G7 x) (some ([],3)) (l9 (l7 (H6 0 C) (l9 (rW B.1 C) λx=>some x) (some [46])) λx=>l7 (C9 B.2 (-1)) (l9 (J3 [114,111,119,32] x) λx=>l9 (J3 x [32,110,111,110,101,10]) λx=>some (x,0)) (l7 (C9 B.2 (-2)) (l9 (J3 [114,111,119,32] x) λx=>l9 (J3 x [32,99,111,110,102,108,105,99,116,10]) λx=>some (x,0)) (l7 (O9 0 B.2) (l7 (H6 B.2 (o9 A.2.2.2.2)) (l9 (J3 [114,111,119,32] x) λx=>l9 (J3 x [32,114,117,108,101,32]) λx=>l9 (J9 A.2.2.2.2 B.2) λb=>l9 (J3 x b.1) λx=>l9 (J3 x [10]) λx=>some (x,0)) (some ([],6))) (some ([],6)))))
def q17:FQ:=⟨[tD y24,tD y30,L6],⟨[(.tmp 6,(uD .str)),(.tmp 7,L6)],[]⟩,mE 58 [(42,s42),(43,s43)],sN 3 (aT (.join [(8,9),(14,20)] ⟨[(8,(uD .str))],[]⟩ H8) H8)⟩
def s17:FSpec:=ai q17 λx=>kG x.1 x.2.1 x.2.2
def b5U:List MG:=[(false,(.sbx 69 5))]
def s18:FSpec:=⟨b5U,[L6],[(false,(.sbx 69 5))],λx=>zg x⟩
def b5V:List MG:=[(false,(.sbx 69 5))]
def s19:FSpec:=⟨b5V,[(false,(.dat .str))],[(false,(.sbx 69 5))],λx=>uS x⟩
def lC(A:dJ)(B:Int)(C:X5):Option (List UInt8×Int):=l9 (vS A) λx=>l7 (G7 (nH (C9 x.1 0) (nH (C9 x.2.1 0) (nH (C9 x.2.2.1 0) (C9 x.2.2.2 0))))) (some ([],1)) (l9 (l7 (H6 B 0) (some (.inr ([],6))) (l7 (O9 (o9 A.2.2) B) (some (.inr ([],6))) (some (.inl ())))) λo=>Y0 o (λx=>l9 (J9 A.2.2 B) λx=>l9 (l7 (H6 C.1 0) (some (.inr ([],6))) (l7 (O9 (o9 x.2.2.2.1) C.1) (some (.inr ([],6))) (some (.inl ())))) λo=>Y0 o (λp=>l7 (H6 8 (o9 C.2.1)) (some ([],4)) (l7 (G7 (C9 (o9 C.2.2.1) (o9 C.2.1))) (some ([],2)) (l9 (J9 x.2.2.2.1 C.1) λg=>l9 (J3 [100,101,99,105,115,105,111,110,32] g.1) λi=>l9 (J3 i [10]) λj=>l9 (jQ [] j) λk=>l9 (nO A B) λn=>l9 (U0 (λ(b:List UInt8×Int)=>l7 (H6 b.2 (o9 C.2.1)) (l9 (J9 C.2.1 b.2) λf=>l9 (J9 C.2.2.1 b.2) λc=>l7 (H6 c 0) (some (.rt ([],6))) (l7 (O9 (o9 x.2.2.2.2) c) (some (.rt ([],6))) (l9 (lm f n) λd=>l7 (G7 (C9 d.2 0)) (some (.rt ([],d.2))) (l9 (J9 x.2.2.2.2 c) λx=>l9 (J3 [119,104,101,110,32] x.1) λx=>l9 (J3 x [32]) λx=>l9 (J3 x d.1) λx=>l9 (J3 x [10]) λx=>l9 (jQ b.1 x) λx=>some (.nx (x.2.2,F6 .i64 b.2 1)))))) (some (.ex b.1))) (k.2.2,0)) λo=>Y0 o (λ(y:List UInt8)=>l9 (U0 (λ(b:List UInt8×Int)=>l7 (H6 b.2 (o9 C.2.2.2)) (l9 (J9 C.2.2.2 b.2) λf=>l9 (kG x f (o9 C.2.1)) λx=>l7 (G7 (C9 x.2 0)) (some (.rt ([],x.2))) (l9 (zg b.1) λc=>l7 (O9 c.1 65536) (l9 (jQ c.2 x.1) λx=>some (.nx (x.2.2,F6 .i64 b.2 1))) (some (.nx (c.2,F6 .i64 b.2 1))))) (some (.ex b.1))) (y,0)) λo=>Y0 o (λ(y:List UInt8)=>l9 (zg y) λx=>l7 (H6 65536 x.1) (some ([],4)) (l9 (uS x.2) λx=>some (x.1,0))) λr=>some r) λr=>some r))) λr=>some r) λr=>some r)
def q7:FQ:=⟨[tD y27,L6,tD y34],⟨[(.tmp 6,(uD .str)),(.tmp 7,L6)],[]⟩,mE 144 [(13,s13),(14,s14),(15,s15),(16,s16),(17,s17),(18,s18),(19,s19)],sN 2 (aT (jnR [(6,8),(24,33)] sgN H8) (sN 1 (aT (jnR [(6,8),(38,49)] sgN H8) (sN 5 (aT (sN 1 (iZ (lpR [(6,8),(9,10),(11,16),(76,117),(60000576,60000577),(63004417,63004418)] ⟨[(9,(false,(.sbx 69 5))),(76,L6)],[]⟩ 0 ⟨[(9,(false,(.sbx 69 5)))],[]⟩ H8))) (aT (sN 1 (iZ (lpR [(6,8),(9,10),(17,20),(120,141),(74000000,74000002)] ⟨[(9,(false,(.sbx 69 5))),(120,L6)],[]⟩ 2 ⟨[(9,(false,(.sbx 69 5)))],[]⟩ H8))) H8))))))⟩
def s7:FSpec:=ai q7 λx=>lC x.1 x.2.1 x.2.2
def zG(A:List UInt8):Option (List (List UInt8)×Int):=l7 (H6 65536 (o9 A)) (some ([],4)) (l7 (seq A []) (some ([],0)) (l9 (U0 (λ(x:List (List UInt8)×Int×List UInt8×Int)=>l7 (H6 x.2.2.2 (o9 x.2.2.1)) (l7 (C9 (CG x.2.2.1 x.2.2.2) 10) (l9 (gW A x.2.1 x.2.2.2) λb=>l9 (bH x.1 [b]) λc=>some (.nx (c,F6 .i64 x.2.2.2 1,x.2.2.1,FB x.2.2.1 x.2.2.2))) (l7 (C9 (CG x.2.2.1 x.2.2.2) 9) (some (.nx (x.1,x.2.1,x.2.2.1,FB x.2.2.1 x.2.2.2))) (l7 (O9 32 (CG x.2.2.1 x.2.2.2)) (l7 (O9 (CG x.2.2.1 x.2.2.2) 126) (some (.nx (x.1,x.2.1,x.2.2.1,FB x.2.2.1 x.2.2.2))) (some (.rt ([],2)))) (some (.rt ([],2)))))) (some (.ex (x.1,x.2.1)))) ([],0,A,0)) λo=>Y0 o (λ(y:List (List UInt8)×Int)=>l7 (G7 (C9 y.2 (o9 A))) (some ([],2)) (some (y.1,0))) λr=>some r))
def q27:FQ:=⟨[uD .str],⟨[(.tmp 2,(uO .str)),(.tmp 3,L6)],[]⟩,mE 47 [],sN 5 (aT (sN 1 (iZ (lpR [(2,8),(14,42),(34000896,34000897)] ⟨[(4,(uO .str)),(5,L6),(14,(false,.sit))],[]⟩ 0 ⟨[(4,(uO .str)),(5,L6)],[]⟩ H8))) H8)⟩
def s27:FSpec:=ai q27 λx=>zG x
def a9F:List MG:=[(false,(.dat .str)),(false,(.dat .str))]
def a6P:FSpec:=⟨a9F,[bQ],[],λx=>xB x.1 x.2⟩
def uV(A:List UInt8)(B:List UInt8):Option (List UInt8×Bool):=l9 (xB A B) λx=>l7 (G7 x) (some (A,false)) (l9 (gW A (o9 B) (o9 A)) λx=>some (x,true))
def q88:FQ:=⟨[uD .str,(uD .str)],⟨[(.tmp 4,(uD .str)),(.tmp 5,bQ)],[]⟩,mE 15 [(130,a6P)],H8⟩
def s88:FSpec:=ai q88 λx=>uV x.1 x.2
def kW(A:List UInt8)(B:List UInt8):Option (List UInt8×Bool):=l9 (uV A B) λx=>some x
def q52:FQ:=⟨[uD .str,(uD .str)],⟨[(.tmp 4,(uD .str)),(.tmp 5,bQ)],[]⟩,mE 11 [(88,s88)],H8⟩
def s52:FSpec:=ai q52 λx=>kW x.1 x.2
def tK(A:List UInt8):Option Bool:=l7 (G7 (seq A [])) (l9 (qC A [32]) λx=>some (G7 x)) (some false)
def q53:FQ:=⟨[uD .str],tR 2 bQ,mE 10 [(89,s89)],H8⟩
def s53:FSpec:=ai q53 λx=>tK x
def a9G:List MG:=[(false,(.dat .str)),(false,(.dat .str))]
def b3m:FSpec:=⟨a9G,[L6],[],λx=>CP x.1 x.2⟩
def AA(A:List UInt8)(B:List UInt8):Option (List UInt8×List UInt8×Bool):=l9 (CP A B) λx=>l7 (O9 0 x) (l9 (gW A 0 x) λb=>l9 (gW A (F6 .i64 x (o9 B)) (o9 A)) λx=>some (b,x,true)) (some (A,[],false))
def b0k:FQ:=⟨[uD .str,(uD .str)],⟨[(.tmp 4,(uD .str)),(.tmp 5,(uD .str)),(.tmp 6,bQ)],[]⟩,mE 23 [(176,b3m)],H8⟩
def b2K:FSpec:=ai b0k λx=>AA x.1 x.2
def FC(A:List UInt8)(B:List UInt8):Option (List UInt8×List UInt8×Bool):=l9 (AA A B) λx=>some x
def q90:FQ:=⟨[uD .str,(uD .str)],⟨[(.tmp 4,(uD .str)),(.tmp 5,(uD .str)),(.tmp 6,bQ)],[]⟩,mE 13 [(132,b2K)],H8⟩
def s90:FSpec:=ai q90 λx=>FC x.1 x.2
def iy(A:af)(B:List UInt8):Option (Int×af):=l9 (U0 (λ(x:Int)=>l7 (H6 x (o9 A.1.2.2.2.2)) (l9 (J9 A.1.2.2.2.2 x) λb=>l7 (seq b.1 B) (some (.rt (x,A))) (some (.nx (F6 .i64 x 1)))) (some (.ex ()))) 0) λo=>Y0 o (λy=>some (-1,A)) λr=>some r
def q91:FQ:=⟨[(false,(.box (pA (dT y24) (pA (dT iP) (pA J6 (pA (oW y12) (pA oiM (oW y30)))))))),(uD .str)],⟨[(.tmp 4,L6)],[(0,(true,(pA (dT y24) (pA (dT iP) (pA J6 (pA (oW y12) (pA oiM (oW y30))))))))]⟩,⟨24,eqs,tt,gl,[],[],[],[],[0],[]⟩,sN 1 (aT (sN 1 (iZ (lpR [(4,7),(13,24)] ⟨[(13,L6)],[]⟩ 0 sgN H8))) H8)⟩
def s91:FSpec:=ai q91 λx=>iy x.1 x.2
def Ij(A:List UInt8)(B:Int):Option Int:=l9 (U0 (λ(x:Int×Bool)=>l7 (H6 x.1 (o9 A)) (l9 (sat A x.1) λb=>l7 x.2 (l7 (C9 b 10) (some (.rt x.1)) (some (.nx (F6 .i64 x.1 1,x.2)))) (l7 (C9 b 35) (some (.nx (F6 .i64 x.1 1,true))) (l7 (G7 (C9 b 32)) (l7 (G7 (C9 b 9)) (some (.rt x.1)) (some (.nx (F6 .i64 x.1 1,x.2)))) (some (.nx (F6 .i64 x.1 1,x.2)))))) (some (.ex x.1))) (B,false)) λo=>Y0 o (λy=>some y) λr=>some r
def b0R:FQ:=⟨[uD .str,L6],tR 4 L6,mE 33 [],sN 2 (aT (iZ (lpR [(1,2),(4,32)] ⟨[(1,L6),(5,bQ)],[]⟩ 0 ⟨[(1,L6)],[]⟩ H8)) H8)⟩
def b3n:FSpec:=ai b0R λx=>Ij x.1 x.2
def a9J:List MG:=[(false,(.dat .str)),(false,(.dat (.int .u8)))]
def b3E:FSpec:=⟨a9J,[L6],[],λx=>Bh x.1 x.2⟩
def Bc(A:List UInt8)(B:Int):Option Int:=l9 (Bh A B) λx=>some x
def b1o:FQ:=⟨[uD .str,(false,(dT (.int .u8)))],tR 4 L6,mE 8 [(203,b3E)],H8⟩
def b3I:FSpec:=ai b1o λx=>Bc x.1 x.2
def EP(A:List UInt8):Option (tJ×I9):=l9 (pF A) λx=>l7 (H6 16 x) (some ((0,[],0,0),0,4)) (l9 (gW A 0 x) λb=>some ((1,b,0,0),x,0))
def b1k:FQ:=⟨[uD .str],⟨[(.cell 2 226,tD y52),(.tmp 3,L6),(.tmp 4,L6)],[]⟩,mE 16 [(102,a6M)],H8⟩
def b3F:FSpec:=ai b1k λx=>EP x
def pz(A:List UInt8)(B:Int):Option Int:=l9 (dK (λ(x:Int)=>l7 (H6 x (o9 A)) (l9 (sat A x) λb=>l9 (kD b) λc=>l7 c (some (.inl (F6 .i64 x 1))) (some (.inr x))) (some (.inr x))) B) λy=>some (X9 .i64 y B)
def b1y:FQ:=⟨[uD .str,L6],tR 4 L6,mE 22 [(138,a2r)],sN 2 (aT (iZ (.loop [(5,6),(7,19)] ⟨[(5,L6)],[]⟩ 0 ⟨[(5,L6)],[]⟩ H8)) H8)⟩
def a4T:FSpec:=ai b1y λx=>pz x.1 x.2
def BX(A:List UInt8):Option Bool:=l9 (pz A 0) λx=>l7 (C9 x 4) (l9 (pz A 5) λx=>l7 (C9 x 2) (l9 (pz A 8) λx=>l7 (O9 2 x) (l9 (sat A 4) λx=>l7 (C9 x 45) (l9 (sat A 7) λx=>some (C9 x 45)) (some false)) (some false)) (some false)) (some false)
def b1x:FQ:=⟨[uD .str],tR 2 bQ,mE 26 [(230,a4T)],H8⟩
def b3O:FSpec:=ai b1x λx=>BX x
def kX(A:List UInt8)(B:List UInt8):Option Bool:=l9 (xB A B) λx=>some x
def b1n:FQ:=⟨[uD .str,(uD .str)],tR 4 bQ,mE 8 [(130,a6P)],H8⟩
def a4S:FSpec:=ai b1n λx=>kX x.1 x.2
def vW(A:List UInt8)(B:Int):Option Bool:=l9 (kX A [46]) λx=>l7 x (l9 (pz A 1) λx=>some (C9 x B)) (some false)
def b1z:FQ:=⟨[uD .str,L6],tR 4 bQ,mE 13 [(210,a4S),(230,a4T)],H8⟩
def b3P:FSpec:=ai b1z λx=>vW x.1 x.2
def Am(A:List UInt8):Option (Int×Bool):=l9 (U0 (λ(x:Int×List UInt8×Int)=>l7 (H6 x.2.2 (o9 x.2.1)) (l7 (H6 (CG x.2.1 x.2.2) 48) (some (.rt (0,false))) (l7 (H6 57 (CG x.2.1 x.2.2)) (some (.rt (0,false))) (some (.nx (F6 .i64 (Dk .i64 x.1 10) (wrap .i64 (X9 .i32 (CG x.2.1 x.2.2) 48)),x.2.1,FB x.2.1 x.2.2))))) (some (.ex x.1))) (0,A,0)) λo=>Y0 o (λy=>some (y,true)) λr=>some r
def b2e:FQ:=⟨[uD .str],⟨[(.tmp 2,L6),(.tmp 3,bQ)],[]⟩,mE 25 [],sN 2 (aT (sN 1 (iZ (lpR [(2,5),(6,7),(8,24),(11000512,11000513)] ⟨[(4,L6),(8,(false,.sit))],[]⟩ 0 ⟨[(4,L6)],[]⟩ H8))) H8)⟩
def b4n:FSpec:=ai b2e λx=>Am x
def IU(A:Int)(B:Int)(C:Int):Option I9:=l9 (l7 (H6 A 1900) (some (.inr (0,3))) (l7 (H6 2199 A) (some (.inr (0,3))) (l7 (H6 B 1) (some (.inr (0,3))) (l7 (H6 12 B) (some (.inr (0,3))) (l7 (H6 C 1) (some (.inr (0,3))) (l9 (jS A B) λx=>l7 (H6 x C) (some (.inr (0,3))) (some (.inl ())))))))) λo=>Y0 o (λx=>l9 (mO A) λx=>l9 (dK (λ(x:I9)=>l7 (H6 x.2 (X9 .i64 B 1)) (l9 (jS A (F6 .i64 x.2 1)) λb=>some (.inl (F6 .i64 x.1 b,F6 .i64 x.2 1))) (some (.inr x.1))) (x,0)) λy=>some (X9 .i64 (F6 .i64 y C) 1,0)) λr=>some r
def b2f:FQ:=⟨[L6,L6,L6],⟨[(.tmp 6,L6),(.tmp 7,L6)],[]⟩,mE 53 [(223,a7b),(222,a7a)],sN 1 (aT (jnR [(6,8),(10,35)] sgN H8) (sN 1 (aT (sN 1 (iZ (.loop [(8,10),(39,49)] ⟨[(8,L6),(39,L6)],[]⟩ 0 ⟨[(8,L6)],[]⟩ H8))) H8)))⟩
def b4o:FSpec:=ai b2f λx=>IU x.1 x.2.1 x.2.2
def Oo(A:List UInt8):Option I9:=l9 (l7 (G7 (C9 (o9 A) 10)) (some (.inr (0,2))) (l9 (sat A 4) λx=>l7 (G7 (C9 x 45)) (some (.inr (0,2))) (l9 (sat A 7) λx=>l7 (G7 (C9 x 45)) (some (.inr (0,2))) (some (.inl ()))))) λo=>Y0 o (λx=>l9 (gW A 0 4) λx=>l9 (Am x) λx=>l9 (gW A 5 7) λd=>l9 (Am d) λb=>l9 (gW A 8 (o9 A)) λf=>l9 (Am f) λc=>l7 (G7 x.2) (some (0,2)) (l7 (G7 b.2) (some (0,2)) (l7 (G7 c.2) (some (0,2)) (l9 (IU x.1 b.1 c.1) λx=>some x)))) λr=>some r
def b1S:FQ:=⟨[uD .str],⟨[(.tmp 2,L6),(.tmp 3,L6)],[]⟩,mE 57 [(291,b4n),(292,b4o)],sN 1 (aT (jnR [(2,4),(10,23)] sgN H8) H8)⟩
def b4g:FSpec:=ai b1S λx=>Oo x
def DZ(A:Int):Option Bool:=l7 (O9 48 A) (some (O9 A 57)) (some false)
def b2j:FQ:=⟨[(false,(dT (.int .i32)))],tR 2 bQ,mE 9 [],H8⟩
def b4q:FSpec:=ai b2j λx=>DZ x
def BC(A:List UInt8)(B:Int):Option I9:=l9 (kW A [45]) λx=>l9 (l7 (H6 0 B) (some (X9 .i64 (o9 x.1) (F6 .i64 B 1))) (some (o9 x.1))) λb=>l9 (l7 (H6 b 1) (some (.inr (0,2))) (l7 (H6 1 b) (l9 (sat x.1 0) λx=>l7 (C9 x 48) (some (.inr (0,2))) (some (.inl ()))) (some (.inl ())))) λo=>Y0 o (λd=>l9 (U0 (λ(x:Int×Bool×List UInt8×Int)=>l7 (H6 x.2.2.2 (o9 x.2.2.1)) (l7 (C9 x.2.2.2 b) (l7 (G7 (C9 (CG x.2.2.1 x.2.2.2) 46)) (some (.rt (0,2))) (some (.nx (x.1,x.2.1,x.2.2.1,FB x.2.2.1 x.2.2.2)))) (l9 (DZ (CG x.2.2.1 x.2.2.2)) λc=>l7 (G7 c) (some (.rt (0,2))) (l7 x.2.1 (some (.nx (x.1,true,x.2.2.1,FB x.2.2.1 x.2.2.2))) (l7 (H6 461168601842738790 x.1) (some (.nx (x.1,true,x.2.2.1,FB x.2.2.1 x.2.2.2))) (some (.nx (F6 .i64 (Dk .i64 x.1 10) (wrap .i64 (X9 .i32 (CG x.2.2.1 x.2.2.2) 48)),H6 4611686018427387904 (F6 .i64 (Dk .i64 x.1 10) (wrap .i64 (X9 .i32 (CG x.2.2.1 x.2.2.2) 48))),x.2.2.1,FB x.2.2.1 x.2.2.2))))))) (some (.ex (x.1,x.2.1)))) (0,false,x.1,0)) λo=>Y0 o (λ(y:Int×Bool)=>l7 x.2 (l7 (C9 y.1 0) (l7 (G7 y.2) (some (0,2)) (l7 y.2 (some (0,3)) (l7 x.2 (some (X9 .i64 0 y.1,0)) (some (y.1,0))))) (l7 y.2 (some (0,3)) (l7 x.2 (some (X9 .i64 0 y.1,0)) (some (y.1,0))))) (l7 y.2 (some (0,3)) (l7 x.2 (some (X9 .i64 0 y.1,0)) (some (y.1,0))))) λr=>some r) λr=>some r
def b2g:FQ:=⟨[uD .str,L6],⟨[(.tmp 4,L6),(.tmp 5,L6)],[]⟩,mE 78 [(52,s52),(308,b4q)],sN 3 (aT (.join [(8,9),(20,26)] ⟨[(8,L6)],[]⟩ H8) (aT (jnR [(4,6),(26,37)] sgN H8) (sN 1 (aT (sN 1 (iZ (lpR [(4,6),(9,13),(38,64),(35002432,35002433)] ⟨[(9,L6),(10,bQ),(38,(false,.sit))],[]⟩ 0 ⟨[(9,L6),(10,bQ)],[]⟩ H8))) H8))))⟩
def a7j:FSpec:=ai b2g λx=>BC x.1 x.2
def uK(A:List UInt8)(B:Int):Option I9:=l9 (oM B) λx=>l9 (BC A x) λx=>some x
def b1T:FQ:=⟨[uD .str,L6],⟨[(.tmp 4,L6),(.tmp 5,L6)],[]⟩,mE 12 [(190,a6V),(293,a7j)],H8⟩
def b4h:FSpec:=ai b1T λx=>uK x.1 x.2
def Ci(A:List UInt8):Option I9:=l9 (BC A 0) λx=>some x
def b1U:FQ:=⟨[uD .str],⟨[(.tmp 2,L6),(.tmp 3,L6)],[]⟩,mE 8 [(293,a7j)],H8⟩
def b4i:FSpec:=ai b1U λx=>Ci x
def Jg(A:Int)(B:List UInt8):Option I9:=l7 (C9 A 5) (l9 (Oo B) λx=>l7 (C9 x.2 0) (l7 (H6 109572 x.1) (some (x.1,3)) (some x)) (some x)) (l7 (C9 A 3) (l9 (uK B 2) λx=>l7 (C9 x.2 0) (l7 (H6 1000000000000000 x.1) (some (x.1,3)) (some x)) (some x)) (l7 (C9 A 4) (l9 (gW B 0 (X9 .i64 (o9 B) 1)) λx=>l9 (uK x 4) λx=>l7 (C9 x.2 0) (l7 (H6 1000000000 x.1) (some (x.1,3)) (some x)) (some x)) (l9 (Ci B) λx=>l7 (C9 x.2 0) (l7 (H6 1000000000000 x.1) (some (x.1,3)) (some x)) (some x))))
def b1A:FQ:=⟨[L6,(uD .str)],⟨[(.tmp 4,L6),(.tmp 5,L6)],[]⟩,mE 49 [(258,b4g),(259,b4h),(260,b4i)],H8⟩
def b3Q:FSpec:=ai b1A λx=>Jg x.1 x.2
def BZ(A:List UInt8):Option (tJ×I9):=l9 (l9 (BX A) λx=>l7 (G7 x) (l9 (pz A 0) λx=>l9 (l9 (gW A x (o9 A)) λb=>l9 (vW b 2) λd=>l7 d (some (3,F6 .i64 x 3)) (l9 (gW A x (o9 A)) λc=>l9 (vW c 4) λf=>l7 f (l9 (gW A (F6 .i64 x 5) (o9 A)) λg=>l9 (kX g [37]) λi=>l7 i (some (4,F6 .i64 x 6)) (some (2,x))) (some (2,x)))) λb=>l7 (H6 1 x) (l9 (sat A 0) λx=>l7 (C9 x 48) (some (.inr ((0,[],0,0),0,2))) (some (.inl ((0,[],0,0),b)))) (some (.inl ((0,[],0,0),b)))) (some (.inl ((0,[],0,0),5,10)))) λo=>Y0 o (λ(x:tJ×I9)=>l9 (l7 (H6 x.2.2 (o9 A)) (l9 (sat A x.2.2) λb=>l9 (mg b) λd=>l7 d (some (.inr ((0,[],0,0),0,2))) (l7 (O9 65 b) (l7 (O9 b 90) (some (.inr ((0,[],0,0),0,2))) (l9 (kD b) λc=>l7 c (some (.inr ((0,[],0,0),0,2))) (l7 (C9 b 95) (some (.inr ((0,[],0,0),0,2))) (l7 (C9 b 46) (some (.inr ((0,[],0,0),0,2))) (some (.inl x.1)))))) (l9 (kD b) λc=>l7 c (some (.inr ((0,[],0,0),0,2))) (l7 (C9 b 95) (some (.inr ((0,[],0,0),0,2))) (l7 (C9 b 46) (some (.inr ((0,[],0,0),0,2))) (some (.inl x.1))))))) (some (.inl x.1))) λo=>Y0 o (λ(b:tJ)=>l9 (gW A 0 x.2.2) λd=>l9 (Jg x.2.1 d) λc=>l7 (G7 (C9 c.2 0)) (some ((0,[],0,0),0,3)) (l9 (gW A 0 x.2.2) λf=>some ((x.2.1,f,c.1,0),x.2.2,0))) λr=>some r) λr=>some r
def b1l:FQ:=⟨[uD .str],⟨[(.cell 2 226,tD y52),(.tmp 3,L6),(.tmp 4,L6)],[]⟩,mE 94 [(229,b3O),(230,a4T),(231,b3P),(210,a4S),(101,a2n),(138,a2r),(232,b3Q)],sN 2 (aT (jnR [(2,8),(11,46),(4000128,4000129)] ⟨[(2,(false,(.box (dT y52)))),(5,L6),(6,L6)],[]⟩ (sN 1 (.cond (sN 1 (aT (.join [(5,7),(16,38)] ⟨[(5,L6),(6,L6)],[]⟩ H8) H8)) H8))) (aT (jnR [(2,5),(8,9),(46,76),(9000000,9000001)] ⟨[(2,(false,(.box (dT y52))))],[]⟩ H8) H8))⟩
def b3G:FSpec:=ai b1l λx=>BZ x
def a9M:List MG:=[(false,(.dat .str)),(false,(.dat .str))]
def b3R:FSpec:=⟨a9M,[L6],[],λx=>yA x.1 x.2⟩
def Cb(A:List UInt8):Option (tJ×I9):=l9 (gW A 1 (o9 A)) λx=>l9 (yA x [34,10]) λx=>l7 (H6 x 0) (some ((0,[],0,0),0,5)) (l9 (sat A (F6 .i64 1 x)) λc=>l7 (C9 c 10) (some ((0,[],0,0),0,5)) (l9 (gW A 1 (F6 .i64 1 x)) λb=>l9 (U0 (λ(x:tJ×Int)=>l7 (H6 x.2 (o9 b)) (l9 (sat b x.2) λd=>l7 (H6 d 32) (some (.rt ((0,[],0,0),0,2))) (l9 (sat b x.2) λf=>l7 (H6 126 f) (some (.rt ((0,[],0,0),0,2))) (some (.nx (x.1,F6 .i64 x.2 1))))) (some (.ex x.1))) ((0,[],0,0),0)) λo=>Y0 o (λ(y:tJ)=>l7 (H6 64 x) (some ((0,[],0,0),0,4)) (some ((6,b,0,0),F6 .i64 x 2,0))) λr=>some r))
def b1m:FQ:=⟨[uD .str],⟨[(.cell 2 226,tD y52),(.tmp 3,L6),(.tmp 4,L6)],[]⟩,mE 49 [(233,b3R)],sN 4 (aT (sN 1 (iZ (lpR [(2,5),(7,8),(27,42),(4000128,4000129)] ⟨[(2,(false,(.box (dT y52)))),(27,L6)],[]⟩ 0 ⟨[(2,(false,(.box (dT y52))))],[]⟩ H8))) H8)⟩
def b3H:FSpec:=ai b1m λx=>Cb x
def OZ(A:List UInt8):Option (tJ×I9):=l9 (sat A 0) λx=>l7 (C9 x 10) (l9 (gW A 0 1) λx=>some ((8,x,0,0),1,0)) (l9 (mg x) λd=>l7 d (l9 (EP A) λx=>some x) (l9 (kD x) λf=>l7 f (l9 (BZ A) λx=>some x) (l7 (C9 x 34) (l9 (Cb A) λx=>some x) (l7 (C9 x 60) (l9 (gW A 1 (o9 A)) λb=>l9 (kX b [61]) λc=>l7 c (l9 (gW A 0 2) λx=>some ((7,x,0,0),2,0)) (l7 (C9 x 33) (some ((0,[],0,0),0,2)) (l9 (gW A 0 1) λx=>some ((7,x,0,0),1,0)))) (l7 (C9 x 61) (l9 (gW A 1 (o9 A)) λb=>l9 (kX b [61]) λc=>l7 c (l9 (gW A 0 2) λx=>some ((7,x,0,0),2,0)) (l7 (C9 x 33) (some ((0,[],0,0),0,2)) (l9 (gW A 0 1) λx=>some ((7,x,0,0),1,0)))) (l7 (C9 x 33) (l9 (gW A 1 (o9 A)) λb=>l9 (kX b [61]) λc=>l7 c (l9 (gW A 0 2) λx=>some ((7,x,0,0),2,0)) (l7 (C9 x 33) (some ((0,[],0,0),0,2)) (l9 (gW A 0 1) λx=>some ((7,x,0,0),1,0)))) (l9 (Bc [40,41,44,58,43,45,42] x) λx=>l7 (O9 0 x) (l9 (gW A 0 1) λx=>some ((7,x,0,0),1,0)) (some ((0,[],0,0),0,2)))))))))
def b0S:FQ:=⟨[uD .str],⟨[(.cell 2 226,tD y52),(.tmp 3,L6),(.tmp 4,L6)],[]⟩,mE 66 [(101,a2n),(138,a2r),(211,b3I),(207,b3F),(208,b3G),(209,b3H),(210,a4S)],H8⟩
def b3o:FSpec:=ai b0S λx=>OZ x
def EO(A:List UInt8):Option (List tJ×I9):=l7 (H6 65536 (o9 A)) (some ([],0,4)) (l9 (Ij A 0) λx=>l9 (U0 (λ(x:List tJ×Int)=>l7 (H6 x.2 (o9 A)) (l9 (gW A x.2 (o9 A)) λc=>l9 (OZ c) λb=>l7 (G7 (C9 b.2.2 0)) (some (.rt ([],x.2,b.2.2))) (l9 (bH x.1 [(b.1.1,b.1.2.1,b.1.2.2.1,x.2)]) λd=>l9 (Ij A (F6 .i64 x.2 b.2.1)) λx=>some (.nx (d,x)))) (some (.ex x.1))) ([],x)) λo=>Y0 o (λ(y:List tJ)=>some (y,0,0)) λr=>some r)
def b0l:FQ:=⟨[uD .str],⟨[(.tmp 2,uO y52),(.tmp 3,L6),(.tmp 4,L6)],[]⟩,mE 43 [(177,b3n),(178,b3o)],sN 4 (aT (iZ (lpR [(2,10),(15,42)] ⟨[(5,(uO y52)),(6,L6)],[]⟩ 0 ⟨[(5,(uO y52))],[]⟩ H8)) H8)⟩
def b2L:FSpec:=ai b0l λx=>EO x
def dm(A:D5)(B:Int):Option (tJ×D5):=l7 (H6 (F6 .i64 A.2.1 B) (o9 A.1)) (l9 (J9 A.1 (F6 .i64 A.2.1 B)) λx=>some (x,A)) (some ((0,[],0,0),A))
def b1p:FQ:=⟨[(false,(.box (pA (dT kY) (pA J6 (pA J6 (pA (dT iP) (pA (oW y2) (pA J6 J6)))))))),L6],⟨[(.cell 4 226,tD y52)],[(0,(true,(pA (dT kY) (pA J6 (pA J6 (pA (dT iP) (pA (oW y2) (pA J6 J6))))))))]⟩,⟨30,eqs,tt,gl,[],[],[],[],[0],[]⟩,H8⟩
def Wn:FSpec:=ai b1p λx=>dm x.1 x.2
def jT(A:D5)(B:Int)(C:List UInt8):Option (Bool×D5):=l9 (dm A 0) λx=>l7 (C9 x.1.1 B) (some (seq x.1.2.1 C,x.2)) (some (false,x.2))
def b0T:FQ:=⟨[(false,(.box (pA (dT kY) (pA J6 (pA J6 (pA (dT iP) (pA (oW y2) (pA J6 J6)))))))),L6,(uD .str)],⟨[(.tmp 6,bQ)],[(0,(true,(pA (dT kY) (pA J6 (pA J6 (pA (dT iP) (pA (oW y2) (pA J6 J6))))))))]⟩,⟨20,eqs,tt,gl,[(212,Wn)],[],[],[],[0],[]⟩,H8⟩
def a2y:FSpec:=ai b0T λx=>jT x.1 x.2.1 x.2.2
def mP(A:tJ):Option Int:=l7 (C9 A.1 2) (some 2) (l7 (C9 A.1 3) (some 3) (l7 (C9 A.1 4) (some 4) (some 0)))
def b1B:FQ:=⟨[tD y52],tR 2 L6,mE 11 [],H8⟩
def a7d:FSpec:=ai b1B λx=>mP x
def H7(A:D5)(B:Int)(C:Int):Option (Bool×D5):=l9 (bH A.2.2.2.2.1 [(B,C)]) λx=>some (true,A.1,A.2.1,A.2.2.1,A.2.2.2.1,x,A.2.2.2.2.2)
def b0V:FQ:=⟨[(false,(.box (pA (dT kY) (pA J6 (pA J6 (pA (dT iP) (pA (oW y2) (pA J6 J6)))))))),L6,L6],⟨[(.tmp 6,bQ)],[(0,(true,(pA (dT kY) (pA J6 (pA J6 (pA (dT iP) (pA (oW y2) (pA J6 J6))))))))]⟩,⟨19,eqs,tt,gl,[],[],[],[],[0],[]⟩,H8⟩
def Yn:FSpec:=ai b0V λx=>H7 x.1 x.2.1 x.2.2
def aJ(A:D5)(B:Int):Option (Bool×D5):=l7 (H6 A.2.1 (o9 A.1)) (l9 (J9 A.1 A.2.1) λx=>some (false,A.1,A.2.1,A.2.2.1,A.2.2.2.1,A.2.2.2.2.1,x.2.2.2,B)) (some (false,A.1,A.2.1,A.2.2.1,A.2.2.2.1,A.2.2.2.2.1,A.2.2.1,B))
def b0m:FQ:=⟨[(false,(.box (pA (dT kY) (pA J6 (pA J6 (pA (dT iP) (pA (oW y2) (pA J6 J6)))))))),L6],⟨[(.tmp 4,bQ)],[(0,(true,(pA (dT kY) (pA J6 (pA J6 (pA (dT iP) (pA (oW y2) (pA J6 J6))))))))]⟩,⟨40,eqs,tt,gl,[],[],[],[],[0],[]⟩,H8⟩
def Yk:FSpec:=ai b0m λx=>aJ x.1 x.2
def lN(A:D5)(B:Int)(C:List UInt8):Option (Bool×D5):=l9 (jT A B C) λx=>l7 (G7 x.1) (l9 (aJ x.2 2) λx=>some x) (some (true,x.2.1,F6 .i64 x.2.2.1 1,x.2.2.2))
def b0U:FQ:=⟨[(false,(.box (pA (dT kY) (pA J6 (pA J6 (pA (dT iP) (pA (oW y2) (pA J6 J6)))))))),L6,(uD .str)],⟨[(.tmp 6,bQ)],[(0,(true,(pA (dT kY) (pA J6 (pA J6 (pA (dT iP) (pA (oW y2) (pA J6 J6))))))))]⟩,⟨21,eqs,tt,gl,[(179,a2y),(135,Yk)],[],[],[],[0],[]⟩,H8⟩
def a6U:FSpec:=ai b0U λx=>lN x.1 x.2.1 x.2.2
def V5(A:D5)(B:List UInt8):Option (Bool×D5):=l9 (lN A 7 B) λx=>some x
def b1V:FQ:=⟨[(false,(.box (pA (dT kY) (pA J6 (pA J6 (pA (dT iP) (pA (oW y2) (pA J6 J6)))))))),(uD .str)],⟨[(.tmp 4,bQ)],[(0,(true,(pA (dT kY) (pA J6 (pA J6 (pA (dT iP) (pA (oW y2) (pA J6 J6))))))))]⟩,⟨8,eqs,tt,gl,[(181,a6U)],[],[],[],[0],[]⟩,H8⟩
def a7g:FSpec:=ai b1V λx=>V5 x.1 x.2
def yf(A:List UInt8):Option Int:=l9 (U0 (λ(x:Int)=>l7 (O9 x 39) (l7 (G7 (seq A [])) (l9 (fE x) λb=>l7 (seq b A) (some (.rt x)) (some (.nx (F6 .i64 x 1)))) (some (.nx (F6 .i64 x 1)))) (some (.ex ()))) 10) λo=>Y0 o (λy=>some 0) λr=>some r
def b1W:FQ:=⟨[uD .str],tR 2 L6,mE 17 [(70,s70)],sN 1 (aT (sN 1 (iZ (lpR [(2,17)] ⟨[(3,L6)],[]⟩ 0 sgN H8))) H8)⟩
def b4j:FSpec:=ai b1W λx=>yf x
def kJ(A:D5)(B:List (List UInt8)):Option (Int×Bool×D5):=l9 (dm A 0) λx=>l7 (G7 (C9 x.1.1 1)) (l9 (aJ x.2 2) λx=>some (0,x)) (l9 (bK x.1.2.1) λc=>l7 (G7 c) (l9 (aJ x.2 2) λx=>some (0,x)) (l9 (gG B x.1.2.1) λb=>l7 (H6 b 0) (l9 (aJ x.2 6) λx=>some (0,x)) (some (b,true,x.2.1,F6 .i64 x.2.2.1 1,x.2.2.2))))
def b2h:FQ:=⟨[(false,(.box (pA (dT kY) (pA J6 (pA J6 (pA (dT iP) (pA (oW y2) (pA J6 J6)))))))),(uD (.sl .str))],⟨[(.tmp 4,L6),(.tmp 5,bQ)],[(0,(true,(pA (dT kY) (pA J6 (pA J6 (pA (dT iP) (pA (oW y2) (pA J6 J6))))))))]⟩,⟨37,eqs,tt,gl,[(212,Wn),(59,s59),(135,Yk),(136,a4P)],[],[],[],[0],[]⟩,H8⟩
def a7k:FSpec:=ai b2h λx=>kJ x.1 x.2
def DW(A:List UInt8):Option Int:=l9 (U0 (λ(x:Int)=>l7 (O9 x 5) (l9 (di x) λb=>l7 (seq b A) (some (.rt x)) (some (.nx (F6 .i64 x 1)))) (some (.ex ()))) 0) λo=>Y0 o (λy=>some (-1)) λr=>some r
def b2k:FQ:=⟨[uD .str],tR 2 L6,mE 13 [(71,s71)],sN 1 (aT (sN 1 (iZ (lpR [(2,13)] ⟨[(3,L6)],[]⟩ 0 sgN H8))) H8)⟩
def b4r:FSpec:=ai b2k λx=>DW x
def dX(A:D5):Option (Int×Bool×D5):=l9 (dm A 0) λx=>l9 (DW x.1.2.1) λb=>l7 (G7 (C9 x.1.1 1)) (l9 (aJ x.2 2) λx=>some (0,x)) (l7 (H6 b 0) (l9 (aJ x.2 2) λx=>some (0,x)) (some (b,true,x.2.1,F6 .i64 x.2.2.1 1,x.2.2.2)))
def b2i:FQ:=⟨[(false,(.box (pA (dT kY) (pA J6 (pA J6 (pA (dT iP) (pA (oW y2) (pA J6 J6))))))))],⟨[(.tmp 2,L6),(.tmp 3,bQ)],[(0,(true,(pA (dT kY) (pA J6 (pA J6 (pA (dT iP) (pA (oW y2) (pA J6 J6))))))))]⟩,⟨28,eqs,tt,gl,[(212,Wn),(309,b4r),(135,Yk)],[],[],[],[0],[]⟩,H8⟩
def b4p:FSpec:=ai b2i λx=>dX x
def vM(A:dL)(B:tJ):Option Bool:=some (seq A.1 B.2.1)
def a1W:FQ:=⟨[tD y0,(false,(.rp y52))],tR 3 bQ,mE 9 [],H8⟩
def Yo:FSpec:=ai a1W λx=>vM x.1 x.2
def kU(A:List dL)(B:tJ):Option Int:=l9 (U0 (λ(x:Int)=>l7 (H6 x (o9 A)) (l9 (J9 A x) λb=>l9 (vM b B) λc=>l7 c (some (.rt x)) (some (.nx (F6 .i64 x 1)))) (some (.ex ()))) 0) λo=>Y0 o (λy=>some (-1)) λr=>some r
def a1N:FQ:=⟨[uD y1,(false,(.fn 297 [y52]))],tR 4 L6,mE 19 [(297,Yo)],sN 1 (aT (sN 1 (iZ (lpR [(4,6),(8,19)] ⟨[(8,L6)],[]⟩ 0 sgN H8))) H8)⟩
def a2t:FSpec:=ai a1N λx=>kU x.1 x.2
def xK(A:D5):Option (Bool×D5):=l9 (dm A 0) λx=>l9 (dm x.2 1) λb=>l9 (bK x.1.2.1) λd=>l7 (G7 d) (l9 (aJ b.2 2) λx=>some x) (l9 (l7 (C9 b.1.1 7) (some (seq b.1.2.1 [58])) (some false)) λf=>l7 f (l9 (kU b.2.2.2.2.1.1 x.1) λx=>l7 (H6 x 0) (l9 (aJ b.2 6) λx=>some x) (l9 (J9 b.2.2.2.2.1.1 x) λg=>l9 (kJ (b.2.1,F6 .i64 b.2.2.1 2,b.2.2.2) g.2) λc=>l7 c.2.1 (l9 (H7 c.2.2 6 (F6 .i64 (Dk .i64 16 x) c.1)) λx=>some x) (some (false,c.2.2)))) (l9 (gG b.2.2.2.2.1.2.2.1 x.1.2.1) λx=>l7 (O9 0 x) (l9 (H7 (b.2.1,F6 .i64 b.2.2.1 1,b.2.2.2) 7 x) λx=>some x) (l9 (kJ b.2 b.2.2.2.2.1.2.2.2.1) λx=>l7 x.2.1 (l9 (H7 x.2.2 8 x.1) λx=>some x) (some (false,x.2.2)))))
def b1X:FQ:=⟨[(false,(.box (pA (dT kY) (pA J6 (pA J6 (pA (dT iP) (pA (oW y2) (pA J6 J6))))))))],⟨[(.tmp 2,bQ)],[(0,(true,(pA (dT kY) (pA J6 (pA J6 (pA (dT iP) (pA (oW y2) (pA J6 J6))))))))]⟩,⟨106,eqs,tt,gl,[(212,Wn),(59,s59),(135,Yk),(297,Yo),(139,a2t),(295,a7k),(182,Yn),(136,a4P)],[],[],[],[0],[]⟩,sN 3 (aT (aT (.join [(21,29)] ⟨[(28,bQ)],[]⟩ H8) H8) H8)⟩
def b4k:FSpec:=ai b1X λx=>xK x
def yx(A:tJ):Option I9:=l7 (G7 (C9 A.1 7)) (l7 (G7 (C9 A.1 1)) (some (0,0)) (l9 (U0 (λ(x:Int)=>l7 (O9 x 24) (l9 (fD x) λb=>l7 (G7 (seq b.1 [])) (l7 (seq b.1 A.2.1) (some (.rt (x,b.2))) (some (.nx (F6 .i64 x 1)))) (some (.nx (F6 .i64 x 1)))) (some (.ex ()))) 11) λo=>Y0 o (λy=>some (0,0)) λr=>some r)) (l9 (U0 (λ(x:Int)=>l7 (O9 x 24) (l9 (fD x) λb=>l7 (G7 (seq b.1 [])) (l7 (seq b.1 A.2.1) (some (.rt (x,b.2))) (some (.nx (F6 .i64 x 1)))) (some (.nx (F6 .i64 x 1)))) (some (.ex ()))) 11) λo=>Y0 o (λy=>some (0,0)) λr=>some r)
def b1q:FQ:=⟨[tD y52],⟨[(.tmp 2,L6),(.tmp 3,L6)],[]⟩,mE 34 [(73,s73)],sN 2 (aT (sN 1 (iZ (lpR [(2,7),(15,34)] ⟨[(4,L6)],[]⟩ 0 sgN H8))) H8)⟩
def b3J:FSpec:=ai b1q λx=>yx x
def SG:List MG:=[(false,(.box (.pair (.dat kY) (.pair J6 (.pair J6 (.pair (.dat iP) (.pair (.own y2) (.pair J6 J6))))))))]
def ZF:List MG:=[(false,(.box (.pair (.dat kY) (.pair J6 (.pair J6 (.pair (.dat iP) (.pair (.own y2) (.pair J6 J6)))))))),L6]
def ZG:List MG:=[(false,(.box (.pair (.dat kY) (.pair J6 (.pair J6 (.pair (.dat iP) (.pair (.own y2) (.pair J6 J6))))))))]
def a1D:List MG:=[(false,(.box (.pair (.dat kY) (.pair J6 (.pair J6 (.pair (.dat iP) (.pair (.own y2) (.pair J6 J6))))))))]
def a1E:List MG:=[(false,(.box (.pair (.dat kY) (.pair J6 (.pair J6 (.pair (.dat iP) (.pair (.own y2) (.pair J6 J6)))))))),L6]
def a5I:Ret:=⟨[(.tmp 2,bQ)],[(0,(true,(.pair (.dat kY) (.pair J6 (.pair J6 (.pair (.dat iP) (.pair (.own y2) (.pair J6 J6))))))))]⟩
def b5H (r134:M.den (.box (.pair (.dat kY) (.pair J6 (.pair J6 (.pair (.dat iP) (.pair (.own y2) (.pair J6 J6)))))))->Option (V7 ([bQ]++[(true,(.pair (.dat kY) (.pair J6 (.pair J6 (.pair (.dat iP) (.pair (.own y2) (.pair J6 J6)))))))]))) (r180:M.den (.box (.pair (.dat kY) (.pair J6 (.pair J6 (.pair (.dat iP) (.pair (.own y2) (.pair J6 J6)))))))->M.den J6->Option (V7 ([bQ]++[(true,(.pair (.dat kY) (.pair J6 (.pair J6 (.pair (.dat iP) (.pair (.own y2) (.pair J6 J6)))))))]))) (r213:M.den (.box (.pair (.dat kY) (.pair J6 (.pair J6 (.pair (.dat iP) (.pair (.own y2) (.pair J6 J6)))))))->Option (V7 ([bQ]++[(true,(.pair (.dat kY) (.pair J6 (.pair J6 (.pair (.dat iP) (.pair (.own y2) (.pair J6 J6)))))))]))) (r235:M.den (.box (.pair (.dat kY) (.pair J6 (.pair J6 (.pair (.dat iP) (.pair (.own y2) (.pair J6 J6)))))))->Option (V7 ([bQ]++[(true,(.pair (.dat kY) (.pair J6 (.pair J6 (.pair (.dat iP) (.pair (.own y2) (.pair J6 J6)))))))]))) (r267:M.den (.box (.pair (.dat kY) (.pair J6 (.pair J6 (.pair (.dat iP) (.pair (.own y2) (.pair J6 J6)))))))->M.den J6->Option (V7 ([bQ]++[(true,(.pair (.dat kY) (.pair J6 (.pair J6 (.pair (.dat iP) (.pair (.own y2) (.pair J6 J6)))))))]))):Env:=⟨37,eqs,tt,gl,[(179,a2y),(180,⟨ZF,[bQ],[(true,(.pair (.dat kY) (.pair J6 (.pair J6 (.pair (.dat iP) (.pair (.own y2) (.pair J6 J6)))))))],λx=>r180 x.1 x.2⟩),(134,⟨SG,[bQ],[(true,(.pair (.dat kY) (.pair J6 (.pair J6 (.pair (.dat iP) (.pair (.own y2) (.pair J6 J6)))))))],λx=>r134 x⟩),(181,a6U),(182,Yn)],[],[],[],[0],[]⟩
def a9o:Ann:=.leaf
def wM(r134:D5->Option (Bool×D5))(r180:D5->Int->Option (Bool×D5))(r213:D5->Option (Bool×D5))(r235:D5->Option (Bool×D5))(r267:D5->Int->Option (Bool×D5))(A:D5):Option (Bool×D5):=l9 (jT A 1 [105,102]) λx=>l7 (G7 x.1) (l9 (r180 x.2 1) λx=>some x) (l9 (r134 (x.2.1,F6 .i64 x.2.2.1 1,x.2.2.2)) λx=>l7 x.1 (l9 (lN x.2 1 [116,104,101,110]) λx=>l7 x.1 (l9 (r134 x.2) λx=>l7 x.1 (l9 (lN x.2 1 [101,108,115,101]) λx=>l7 x.1 (l9 (r134 x.2) λx=>l7 x.1 (l9 (H7 x.2 26 0) λx=>some x) (some (false,x.2))) (some (false,x.2))) (some (false,x.2))) (some (false,x.2))) (some (false,x.2)))
def b2q:Ret:=⟨[(.tmp 4,bQ)],[(0,(true,(.pair (.dat kY) (.pair J6 (.pair J6 (.pair (.dat iP) (.pair (.own y2) (.pair J6 J6))))))))]⟩
def b5L (r134:M.den (.box (.pair (.dat kY) (.pair J6 (.pair J6 (.pair (.dat iP) (.pair (.own y2) (.pair J6 J6)))))))->Option (V7 ([bQ]++[(true,(.pair (.dat kY) (.pair J6 (.pair J6 (.pair (.dat iP) (.pair (.own y2) (.pair J6 J6)))))))]))) (r180:M.den (.box (.pair (.dat kY) (.pair J6 (.pair J6 (.pair (.dat iP) (.pair (.own y2) (.pair J6 J6)))))))->M.den J6->Option (V7 ([bQ]++[(true,(.pair (.dat kY) (.pair J6 (.pair J6 (.pair (.dat iP) (.pair (.own y2) (.pair J6 J6)))))))]))) (r213:M.den (.box (.pair (.dat kY) (.pair J6 (.pair J6 (.pair (.dat iP) (.pair (.own y2) (.pair J6 J6)))))))->Option (V7 ([bQ]++[(true,(.pair (.dat kY) (.pair J6 (.pair J6 (.pair (.dat iP) (.pair (.own y2) (.pair J6 J6)))))))]))) (r235:M.den (.box (.pair (.dat kY) (.pair J6 (.pair J6 (.pair (.dat iP) (.pair (.own y2) (.pair J6 J6)))))))->Option (V7 ([bQ]++[(true,(.pair (.dat kY) (.pair J6 (.pair J6 (.pair (.dat iP) (.pair (.own y2) (.pair J6 J6)))))))]))) (r267:M.den (.box (.pair (.dat kY) (.pair J6 (.pair J6 (.pair (.dat iP) (.pair (.own y2) (.pair J6 J6)))))))->M.den J6->Option (V7 ([bQ]++[(true,(.pair (.dat kY) (.pair J6 (.pair J6 (.pair (.dat iP) (.pair (.own y2) (.pair J6 J6)))))))]))):Env:=⟨49,eqs,tt,gl,[(213,⟨ZG,[bQ],[(true,(.pair (.dat kY) (.pair J6 (.pair J6 (.pair (.dat iP) (.pair (.own y2) (.pair J6 J6)))))))],λx=>r213 x⟩),(212,Wn),(214,b3J),(180,⟨ZF,[bQ],[(true,(.pair (.dat kY) (.pair J6 (.pair J6 (.pair (.dat iP) (.pair (.own y2) (.pair J6 J6)))))))],λx=>r180 x.1 x.2⟩),(182,Yn)],[],[],[],[0],[]⟩
def a9s:Ann:=.seq H8 (.seq H8 (.seq H8 (.blk (.loopR [(0,1),(4,8),(11,49),(1000000,1000001),(8000576,8000577)] ⟨[(0,(false,(.box (.pair (.dat kY) (.pair J6 (.pair J6 (.pair (.dat iP) (.pair (.own y2) (.pair J6 J6))))))))),(5,L6)],[]⟩ 999999 ⟨[],[]⟩ (.blk (.seq H8 (.seq (.joinR [(4,5),(17,29)] ⟨[],[]⟩ H8) H8)))))))
def yD(r134:D5->Option (Bool×D5))(r180:D5->Int->Option (Bool×D5))(r213:D5->Option (Bool×D5))(r235:D5->Option (Bool×D5))(r267:D5->Int->Option (Bool×D5))(A:D5)(B:Int):Option (Bool×D5):=l9 (r213 A) λx=>l7 (G7 x.1) (some (false,x.2)) (l9 (U0 (λ(x:D5×Int)=>l9 (dm x.1 0) λc=>l9 (yx c.1) λb=>l9 (l7 (C9 b.1 0) (some (.inr (true,c.2))) (l7 (H6 b.2 B) (some (.inr (true,c.2))) (l7 (H6 x.2 b.2) (some (.inr (true,c.2))) (some (.inl ()))))) λo=>Y0 o (λx=>l9 (r180 (c.2.1,F6 .i64 c.2.2.1 1,c.2.2.2) (F6 .i64 b.2 1)) λx=>l7 (G7 x.1) (some (.rt (false,x.2))) (l9 (H7 x.2 b.1 0) λx=>l7 (C9 b.2 3) (some (.nx (x.2,X9 .i64 b.2 1))) (some (.nx (x.2,b.2))))) λr=>some (.rt r)) (x.2,5)) λo=>Y0 o (λ(y:PUnit)=>none) λr=>some r)
def b2r:Ret:=⟨[(.tmp 2,bQ)],[(0,(true,(.pair (.dat kY) (.pair J6 (.pair J6 (.pair (.dat iP) (.pair (.own y2) (.pair J6 J6))))))))]⟩
def b5O (r134:M.den (.box (.pair (.dat kY) (.pair J6 (.pair J6 (.pair (.dat iP) (.pair (.own y2) (.pair J6 J6)))))))->Option (V7 ([bQ]++[(true,(.pair (.dat kY) (.pair J6 (.pair J6 (.pair (.dat iP) (.pair (.own y2) (.pair J6 J6)))))))]))) (r180:M.den (.box (.pair (.dat kY) (.pair J6 (.pair J6 (.pair (.dat iP) (.pair (.own y2) (.pair J6 J6)))))))->M.den J6->Option (V7 ([bQ]++[(true,(.pair (.dat kY) (.pair J6 (.pair J6 (.pair (.dat iP) (.pair (.own y2) (.pair J6 J6)))))))]))) (r213:M.den (.box (.pair (.dat kY) (.pair J6 (.pair J6 (.pair (.dat iP) (.pair (.own y2) (.pair J6 J6)))))))->Option (V7 ([bQ]++[(true,(.pair (.dat kY) (.pair J6 (.pair J6 (.pair (.dat iP) (.pair (.own y2) (.pair J6 J6)))))))]))) (r235:M.den (.box (.pair (.dat kY) (.pair J6 (.pair J6 (.pair (.dat iP) (.pair (.own y2) (.pair J6 J6)))))))->Option (V7 ([bQ]++[(true,(.pair (.dat kY) (.pair J6 (.pair J6 (.pair (.dat iP) (.pair (.own y2) (.pair J6 J6)))))))]))) (r267:M.den (.box (.pair (.dat kY) (.pair J6 (.pair J6 (.pair (.dat iP) (.pair (.own y2) (.pair J6 J6)))))))->M.den J6->Option (V7 ([bQ]++[(true,(.pair (.dat kY) (.pair J6 (.pair J6 (.pair (.dat iP) (.pair (.own y2) (.pair J6 J6)))))))]))):Env:=⟨57,eqs,tt,gl,[(179,a2y),(212,Wn),(234,a7d),(182,Yn),(213,⟨ZG,[bQ],[(true,(.pair (.dat kY) (.pair J6 (.pair J6 (.pair (.dat iP) (.pair (.own y2) (.pair J6 J6)))))))],λx=>r213 x⟩),(235,⟨a1D,[bQ],[(true,(.pair (.dat kY) (.pair J6 (.pair J6 (.pair (.dat iP) (.pair (.own y2) (.pair J6 J6)))))))],λx=>r235 x⟩)],[],[],[],[0],[]⟩
def a9v:Ann:=.leaf
def zx(r134:D5->Option (Bool×D5))(r180:D5->Int->Option (Bool×D5))(r213:D5->Option (Bool×D5))(r235:D5->Option (Bool×D5))(r267:D5->Int->Option (Bool×D5))(A:D5):Option (Bool×D5):=l9 (jT A 7 [45]) λx=>l7 x.1 (l9 (dm x.2 1) λx=>l9 (mP x.1) λb=>l7 (G7 (C9 b 0)) (l9 (mP x.1) λc=>l9 (H7 (x.2.1,F6 .i64 x.2.2.1 2,x.2.2.2) c (X9 .i64 0 x.1.2.2.1)) λx=>some x) (l9 (r213 (x.2.1,F6 .i64 x.2.2.1 1,x.2.2.2)) λx=>l7 x.1 (l9 (H7 x.2 10 0) λx=>some x) (some (false,x.2)))) (l9 (jT x.2 1 [110,111,116]) λx=>l7 x.1 (l9 (r213 (x.2.1,F6 .i64 x.2.2.1 1,x.2.2.2)) λx=>l7 x.1 (l9 (H7 x.2 25 0) λx=>some x) (some (false,x.2))) (l9 (r235 x.2) λx=>some x))
def b2s:Ret:=⟨[(.tmp 2,bQ)],[(0,(true,(.pair (.dat kY) (.pair J6 (.pair J6 (.pair (.dat iP) (.pair (.own y2) (.pair J6 J6))))))))]⟩
def b5Q (r134:M.den (.box (.pair (.dat kY) (.pair J6 (.pair J6 (.pair (.dat iP) (.pair (.own y2) (.pair J6 J6)))))))->Option (V7 ([bQ]++[(true,(.pair (.dat kY) (.pair J6 (.pair J6 (.pair (.dat iP) (.pair (.own y2) (.pair J6 J6)))))))]))) (r180:M.den (.box (.pair (.dat kY) (.pair J6 (.pair J6 (.pair (.dat iP) (.pair (.own y2) (.pair J6 J6)))))))->M.den J6->Option (V7 ([bQ]++[(true,(.pair (.dat kY) (.pair J6 (.pair J6 (.pair (.dat iP) (.pair (.own y2) (.pair J6 J6)))))))]))) (r213:M.den (.box (.pair (.dat kY) (.pair J6 (.pair J6 (.pair (.dat iP) (.pair (.own y2) (.pair J6 J6)))))))->Option (V7 ([bQ]++[(true,(.pair (.dat kY) (.pair J6 (.pair J6 (.pair (.dat iP) (.pair (.own y2) (.pair J6 J6)))))))]))) (r235:M.den (.box (.pair (.dat kY) (.pair J6 (.pair J6 (.pair (.dat iP) (.pair (.own y2) (.pair J6 J6)))))))->Option (V7 ([bQ]++[(true,(.pair (.dat kY) (.pair J6 (.pair J6 (.pair (.dat iP) (.pair (.own y2) (.pair J6 J6)))))))]))) (r267:M.den (.box (.pair (.dat kY) (.pair J6 (.pair J6 (.pair (.dat iP) (.pair (.own y2) (.pair J6 J6)))))))->M.den J6->Option (V7 ([bQ]++[(true,(.pair (.dat kY) (.pair J6 (.pair J6 (.pair (.dat iP) (.pair (.own y2) (.pair J6 J6)))))))]))):Env:=⟨126,eqs,tt,gl,[(212,Wn),(234,a7d),(182,Yn),(179,a2y),(134,⟨SG,[bQ],[(true,(.pair (.dat kY) (.pair J6 (.pair J6 (.pair (.dat iP) (.pair (.own y2) (.pair J6 J6)))))))],λx=>r134 x⟩),(265,a7g),(135,Yk),(266,b4j),(267,⟨a1E,[bQ],[(true,(.pair (.dat kY) (.pair J6 (.pair J6 (.pair (.dat iP) (.pair (.own y2) (.pair J6 J6)))))))],λx=>r267 x.1 x.2⟩),(268,b4k)],[],[],[],[0],[]⟩
def a9x:Ann:=.leaf
def Ac(r134:D5->Option (Bool×D5))(r180:D5->Int->Option (Bool×D5))(r213:D5->Option (Bool×D5))(r235:D5->Option (Bool×D5))(r267:D5->Int->Option (Bool×D5))(A:D5):Option (Bool×D5):=l9 (dm A 0) λx=>l9 (mP x.1) λd=>l7 (G7 (C9 d 0)) (l9 (mP x.1) λb=>l9 (H7 (x.2.1,F6 .i64 x.2.2.1 1,x.2.2.2) b x.1.2.2.1) λx=>some x) (l7 (C9 x.1.1 5) (l9 (H7 (x.2.1,F6 .i64 x.2.2.1 1,x.2.2.2) 5 x.1.2.2.1) λx=>some x) (l9 (jT x.2 7 [40]) λb=>l7 b.1 (l9 (r134 (b.2.1,F6 .i64 b.2.2.1 1,b.2.2.2)) λx=>l7 x.1 (l9 (V5 x.2 [41]) λx=>some x) (some (false,x.2))) (l7 (G7 (C9 x.1.1 1)) (l9 (aJ b.2 2) λx=>some x) (l7 (seq x.1.2.1 [116,114,117,101]) (l9 (H7 (b.2.1,F6 .i64 b.2.2.1 1,b.2.2.2) 1 1) λx=>some x) (l7 (seq x.1.2.1 [102,97,108,115,101]) (l9 (H7 (b.2.1,F6 .i64 b.2.2.1 1,b.2.2.2) 1 0) λx=>some x) (l7 (seq x.1.2.1 [116,111,100,97,121]) (l9 (H7 (b.2.1,F6 .i64 b.2.2.1 1,b.2.2.2) 9 0) λx=>some x) (l9 (yf x.1.2.1) λf=>l7 (G7 (C9 f 0)) (l9 (V5 (b.2.1,F6 .i64 b.2.2.1 1,b.2.2.2) [40]) λc=>l7 c.1 (l9 (yf x.1.2.1) λx=>l9 (r267 c.2 x) λx=>l7 x.1 (l9 (V5 x.2 [41]) λx=>some x) (some (false,x.2))) (some (false,c.2))) (l9 (xK b.2) λx=>some x))))))))
def b2t:Ret:=⟨[(.tmp 4,bQ)],[(0,(true,(.pair (.dat kY) (.pair J6 (.pair J6 (.pair (.dat iP) (.pair (.own y2) (.pair J6 J6))))))))]⟩
def b5R (r134:M.den (.box (.pair (.dat kY) (.pair J6 (.pair J6 (.pair (.dat iP) (.pair (.own y2) (.pair J6 J6)))))))->Option (V7 ([bQ]++[(true,(.pair (.dat kY) (.pair J6 (.pair J6 (.pair (.dat iP) (.pair (.own y2) (.pair J6 J6)))))))]))) (r180:M.den (.box (.pair (.dat kY) (.pair J6 (.pair J6 (.pair (.dat iP) (.pair (.own y2) (.pair J6 J6)))))))->M.den J6->Option (V7 ([bQ]++[(true,(.pair (.dat kY) (.pair J6 (.pair J6 (.pair (.dat iP) (.pair (.own y2) (.pair J6 J6)))))))]))) (r213:M.den (.box (.pair (.dat kY) (.pair J6 (.pair J6 (.pair (.dat iP) (.pair (.own y2) (.pair J6 J6)))))))->Option (V7 ([bQ]++[(true,(.pair (.dat kY) (.pair J6 (.pair J6 (.pair (.dat iP) (.pair (.own y2) (.pair J6 J6)))))))]))) (r235:M.den (.box (.pair (.dat kY) (.pair J6 (.pair J6 (.pair (.dat iP) (.pair (.own y2) (.pair J6 J6)))))))->Option (V7 ([bQ]++[(true,(.pair (.dat kY) (.pair J6 (.pair J6 (.pair (.dat iP) (.pair (.own y2) (.pair J6 J6)))))))]))) (r267:M.den (.box (.pair (.dat kY) (.pair J6 (.pair J6 (.pair (.dat iP) (.pair (.own y2) (.pair J6 J6)))))))->M.den J6->Option (V7 ([bQ]++[(true,(.pair (.dat kY) (.pair J6 (.pair J6 (.pair (.dat iP) (.pair (.own y2) (.pair J6 J6)))))))]))):Env:=⟨130,eqs,tt,gl,[(182,Yn),(295,a7k),(265,a7g),(134,⟨SG,[bQ],[(true,(.pair (.dat kY) (.pair J6 (.pair J6 (.pair (.dat iP) (.pair (.own y2) (.pair J6 J6)))))))],λx=>r134 x⟩),(296,b4p)],[],[],[],[0],[]⟩
def a9y:Ann:=.seq H8 (.seq (.joinR [(0,1),(4,10),(12,89),(1000000,1000002)] ⟨[(0,(false,(.box (.pair (.dat kY) (.pair J6 (.pair J6 (.pair (.dat iP) (.pair (.own y2) (.pair J6 J6)))))))))],[]⟩ (.seq H8 (.blk (.seq H8 (.cond H8 (.seq (.join [(18,23)] ⟨[(18,bQ)],[]⟩ H8) (.cond H8 (.seq (.join [(40,43)] ⟨[(40,bQ)],[]⟩ H8) H8)))))))) H8)
def Ad(r134:D5->Option (Bool×D5))(r180:D5->Int->Option (Bool×D5))(r213:D5->Option (Bool×D5))(r235:D5->Option (Bool×D5))(r267:D5->Int->Option (Bool×D5))(A:D5)(B:Int):Option (Bool×D5):=l9 (l7 (C9 B 35) (l9 (H7 A B 0) λx=>some (.inr x)) (l9 (l7 (C9 B 36) (some (C9 B 36)) (l7 (C9 B 37) (some (C9 B 37)) (l7 (C9 B 38) (some (C9 B 38)) (some (C9 B 39))))) λx=>l7 x (l9 (kJ A A.2.2.2.1.2.2.2.2) λx=>l7 x.2.1 (l9 (H7 x.2.2 B x.1) λx=>some (.inr x)) (some (.inr (false,x.2.2)))) (l9 (l7 (C9 B 33) (some (C9 B 33)) (some (C9 B 34))) λx=>l7 x (l9 (kJ A A.2.2.2.1.2.1) λx=>l7 (G7 x.2.1) (some (.inr (false,x.2.2))) (l9 (V5 x.2.2 [44]) λd=>l7 (G7 d.1) (some (.inr (false,d.2))) (l9 (r134 d.2) λb=>l7 (G7 b.1) (some (.inr (false,b.2))) (l7 (C9 B 33) (l9 (H7 b.2 B x.1) λx=>some (.inr x)) (l9 (V5 b.2 [44]) λf=>l7 (G7 f.1) (some (.inr (false,f.2))) (l9 (dX f.2) λc=>l7 c.2.1 (l9 (H7 c.2.2 B (F6 .i64 (Dk .i64 8 x.1) c.1)) λx=>some (.inr x)) (some (.inr (false,c.2.2))))))))) (some (.inl A))))) λo=>Y0 o (λ(x:D5)=>l9 (r134 x) λx=>l7 (G7 x.1) (some (false,x.2)) (l7 (C9 B 31) (l7 (C9 B 31) (l9 (H7 x.2 B 0) λx=>some x) (l9 (V5 x.2 [44]) λx=>l7 (G7 x.1) (some (false,x.2)) (l9 (r134 x.2) λx=>l7 (G7 x.1) (some (false,x.2)) (l7 (C9 B 14) (l7 (C9 B 14) (l9 (V5 x.2 [44]) λx=>l7 (G7 x.1) (some (false,x.2)) (l9 (dX x.2) λx=>l7 x.2.1 (l9 (H7 x.2.2 B x.1) λx=>some x) (some (false,x.2.2)))) (l9 (H7 x.2 B 0) λx=>some x)) (l7 (C9 B 15) (l7 (C9 B 15) (l9 (V5 x.2 [44]) λx=>l7 (G7 x.1) (some (false,x.2)) (l9 (dX x.2) λx=>l7 x.2.1 (l9 (H7 x.2.2 B x.1) λx=>some x) (some (false,x.2.2)))) (l9 (H7 x.2 B 0) λx=>some x)) (l7 (C9 B 16) (l9 (V5 x.2 [44]) λx=>l7 (G7 x.1) (some (false,x.2)) (l9 (dX x.2) λx=>l7 x.2.1 (l9 (H7 x.2.2 B x.1) λx=>some x) (some (false,x.2.2)))) (l9 (H7 x.2 B 0) λx=>some x))))))) (l7 (C9 B 32) (l9 (H7 x.2 B 0) λx=>some x) (l9 (V5 x.2 [44]) λx=>l7 (G7 x.1) (some (false,x.2)) (l9 (r134 x.2) λx=>l7 (G7 x.1) (some (false,x.2)) (l7 (C9 B 14) (l7 (C9 B 14) (l9 (V5 x.2 [44]) λx=>l7 (G7 x.1) (some (false,x.2)) (l9 (dX x.2) λx=>l7 x.2.1 (l9 (H7 x.2.2 B x.1) λx=>some x) (some (false,x.2.2)))) (l9 (H7 x.2 B 0) λx=>some x)) (l7 (C9 B 15) (l7 (C9 B 15) (l9 (V5 x.2 [44]) λx=>l7 (G7 x.1) (some (false,x.2)) (l9 (dX x.2) λx=>l7 x.2.1 (l9 (H7 x.2.2 B x.1) λx=>some x) (some (false,x.2.2)))) (l9 (H7 x.2 B 0) λx=>some x)) (l7 (C9 B 16) (l9 (V5 x.2 [44]) λx=>l7 (G7 x.1) (some (false,x.2)) (l9 (dX x.2) λx=>l7 x.2.1 (l9 (H7 x.2.2 B x.1) λx=>some x) (some (false,x.2.2)))) (l9 (H7 x.2 B 0) λx=>some x))))))))) λr=>some r
def x8:Nat->(M.den (.box (.pair (.dat kY) (.pair J6 (.pair J6 (.pair (.dat iP) (.pair (.own y2) (.pair J6 J6)))))))->Option (V7 ([bQ]++[(true,(.pair (.dat kY) (.pair J6 (.pair J6 (.pair (.dat iP) (.pair (.own y2) (.pair J6 J6)))))))])))×(M.den (.box (.pair (.dat kY) (.pair J6 (.pair J6 (.pair (.dat iP) (.pair (.own y2) (.pair J6 J6)))))))->M.den J6->Option (V7 ([bQ]++[(true,(.pair (.dat kY) (.pair J6 (.pair J6 (.pair (.dat iP) (.pair (.own y2) (.pair J6 J6)))))))])))×(M.den (.box (.pair (.dat kY) (.pair J6 (.pair J6 (.pair (.dat iP) (.pair (.own y2) (.pair J6 J6)))))))->Option (V7 ([bQ]++[(true,(.pair (.dat kY) (.pair J6 (.pair J6 (.pair (.dat iP) (.pair (.own y2) (.pair J6 J6)))))))])))×(M.den (.box (.pair (.dat kY) (.pair J6 (.pair J6 (.pair (.dat iP) (.pair (.own y2) (.pair J6 J6)))))))->Option (V7 ([bQ]++[(true,(.pair (.dat kY) (.pair J6 (.pair J6 (.pair (.dat iP) (.pair (.own y2) (.pair J6 J6)))))))])))×(M.den (.box (.pair (.dat kY) (.pair J6 (.pair J6 (.pair (.dat iP) (.pair (.own y2) (.pair J6 J6)))))))->M.den J6->Option (V7 ([bQ]++[(true,(.pair (.dat kY) (.pair J6 (.pair J6 (.pair (.dat iP) (.pair (.own y2) (.pair J6 J6)))))))])))|0=>(λa0=>none,λa0 a1=>none,λa0=>none,λa0=>none,λa0 a1=>none)|n+1=>(λa0=>wM (x8 n).1 (x8 n).2.1 (x8 n).2.2.1 (x8 n).2.2.2.1 (x8 n).2.2.2.2 a0,λa0 a1=>yD (x8 n).1 (x8 n).2.1 (x8 n).2.2.1 (x8 n).2.2.2.1 (x8 n).2.2.2.2 a0 a1,λa0=>zx (x8 n).1 (x8 n).2.1 (x8 n).2.2.1 (x8 n).2.2.2.1 (x8 n).2.2.2.2 a0,λa0=>Ac (x8 n).1 (x8 n).2.1 (x8 n).2.2.1 (x8 n).2.2.2.1 (x8 n).2.2.2.2 a0,λa0 a1=>Ad (x8 n).1 (x8 n).2.1 (x8 n).2.2.1 (x8 n).2.2.2.1 (x8 n).2.2.2.2 a0 a1)
def qZ:M.den (.box (.pair (.dat kY) (.pair J6 (.pair J6 (.pair (.dat iP) (.pair (.own y2) (.pair J6 J6)))))))->Option (V7 ([bQ]++[(true,(.pair (.dat kY) (.pair J6 (.pair J6 (.pair (.dat iP) (.pair (.own y2) (.pair J6 J6)))))))])):=λa0=>(x8 fQ).1 a0
def b2M:FSpec:=mkS SG a5I λx=>qZ x
def EF(A:List UInt8)(B:D9):Option (List I9×I9):=l9 (EO A) λx=>l7 (G7 (C9 x.2.2 0)) (some ([],x.2)) (l9 (l9 (qZ (x.1,0,o9 A,B,[],0,0)) λb=>l7 b.1 (l7 (H6 b.2.2.1 (o9 x.1)) (l9 (aJ b.2 2) λx=>some x.2) (some b.2)) (some b.2)) λx=>l7 (G7 (C9 x.2.2.2.2.2.2 0)) (some ([],x.2.2.2.2.2)) (l9 (Au x.2.2.2.2.1) λb=>l7 (G7 (C9 b.2 0)) (some ([],0,b.2)) (l9 (lm x.2.2.2.2.1 B) λc=>l7 (G7 (C9 c.2 0)) (some ([],0,2)) (l7 (G7 (seq c.1 A)) (some ([],0,2)) (some (x.2.2.2.2.1,0,0))))))
def q92:FQ:=⟨[uD .str,tD iP],⟨[(.tmp 4,uO y2),(.tmp 5,L6),(.tmp 6,L6)],[]⟩,mE 71 [(133,b2L),(134,b2M),(135,Yk),(38,s38),(16,s16)],sN 4 (aT (.join [(10,11),(30,39),(7001088,7001089),(20000640,20000641)] ⟨[(10,(false,(.box (pA (dT kY) (pA J6 (pA J6 (pA (dT iP) (pA (oW y2) (pA J6 J6)))))))))],[]⟩ H8) H8)⟩
def s92:FSpec:=ai q92 λx=>EF x.1 x.2
def ug(A:af)(B:List UInt8):Option (Int×af):=l9 (FC B [32]) λx=>l9 (l7 (G7 x.2.2) (some (.inr (2,A))) (l7 (seq x.1 []) (some (.inr (2,A))) (l7 (seq x.2.1 []) (some (.inr (2,A))) (l7 (H6 0 (o9 A.2.2.2.2.2)) (some (.inr (2,A))) (some (.inl ())))))) λo=>Y0 o (λd=>l7 (O9 8 (o9 A.2.2.2.1)) (some (4,A)) (l9 (iy A x.1) λb=>l7 (H6 b.1 0) (some (6,b.2)) (l9 (EF x.2.1 b.2.2.1) λx=>l7 (G7 (C9 x.2.2 0)) (some (x.2.2,b.2)) (l9 (bH b.2.2.2.2.1 [x.1]) λx=>l9 (bH b.2.2.2.2.2.1 [b.1]) λc=>some (0,b.2.1,b.2.2.1,b.2.2.2.1,x,c,b.2.2.2.2.2.2))))) λr=>some r
def q54:FQ:=⟨[(false,(.box (pA (dT y24) (pA (dT iP) (pA J6 (pA (oW y12) (pA oiM (oW y30)))))))),(uD .str)],⟨[(.tmp 4,L6)],[(0,(true,(pA (dT y24) (pA (dT iP) (pA J6 (pA (oW y12) (pA oiM (oW y30))))))))]⟩,⟨86,eqs,tt,gl,[(90,s90),(91,s91),(92,s92)],[],[],[],[0],[]⟩,sN 2 (aT (jnR [(4,5),(18,37)] sgN H8) H8)⟩
def s54:FSpec:=ai q54 λx=>ug x.1 x.2
def BG(A:List UInt8):Option (I9×I9):=l7 (H6 8 (o9 A)) (some ((0,0),0,4)) (l9 (U0 (λ(x:I9×az)=>l7 (H6 x.2.2 (o9 A)) (l9 (sat A x.2.2) λb=>l7 (C9 b 48) (some (.nx (x.1,(ior .i64 (QR .i64 x.2.1.1 1) 1,QR .i64 x.2.1.2 1),F6 .i64 x.2.2 1))) (l7 (C9 b 49) (some (.nx (x.1,(ior .i64 (QR .i64 x.2.1.1 1) 1,ior .i64 (QR .i64 x.2.1.2 1) 1),F6 .i64 x.2.2 1))) (l7 (C9 b 45) (some (.nx (x.1,(QR .i64 x.2.1.1 1,QR .i64 x.2.1.2 1),F6 .i64 x.2.2 1))) (some (.rt ((0,0),0,2)))))) (some (.ex (x.1,x.2.1)))) ((0,0),(0,0),0)) λo=>Y0 o (λ(y:I9×I9)=>some (y.2,o9 A,0)) λr=>some r)
def q93:FQ:=⟨[uD .str],⟨[(.cell 2 57,tD y2),(.tmp 3,L6),(.tmp 4,L6)],[]⟩,mE 50 [],sN 3 (aT (sN 1 (iZ (lpR [(2,7),(13,47),(4000128,4000129),(17000320,17000321)] ⟨[(2,(false,(.box (dT y2)))),(5,(false,(.box (dT y2)))),(13,L6)],[]⟩ 0 ⟨[(2,(false,(.box (dT y2)))),(5,(false,(.box (dT y2))))],[]⟩ H8))) H8)⟩
def s93:FSpec:=ai q93 λx=>BG x
def uT(A:af)(B:List UInt8):Option (Int×af):=l9 (FC B [32]) λx=>l9 (l7 (G7 x.2.2) (some (.inr (2,A))) (l7 (seq x.1 []) (some (.inr (2,A))) (some (.inl ())))) λo=>Y0 o (λg=>l9 (kW x.2.1 [114,117,108,101,32]) λb=>l9 (l7 b.2 (l9 (tK b.1) λf=>l7 (G7 f) (some (.inr (2,A))) (l7 (G7 b.2) (l7 (G7 (seq x.2.1 [110,111,110,101])) (l7 (G7 (seq x.2.1 [99,111,110,102,108,105,99,116])) (some (.inr (2,A))) (some (.inl ()))) (some (.inl ()))) (some (.inl ())))) (l7 (G7 b.2) (l7 (G7 (seq x.2.1 [110,111,110,101])) (l7 (G7 (seq x.2.1 [99,111,110,102,108,105,99,116])) (some (.inr (2,A))) (some (.inl ()))) (some (.inl ()))) (some (.inl ())))) λo=>Y0 o (λf=>l9 (l7 (H6 0 (o9 A.2.2.2.1)) (l9 (BG x.1) λx=>l7 (G7 (C9 x.2.2 0)) (some (.inr (2,A))) (l7 (G7 (C9 x.2.1 (o9 A.2.2.2.1))) (some (.inr (2,A))) (l7 (C9 (o9 A.2.2.2.1) 0) (some (.inr (2,A))) (some (.inl (x.1,-1)))))) (l7 (G7 (seq x.1 [46])) (l9 (BG x.1) λx=>l7 (G7 (C9 x.2.2 0)) (some (.inr (2,A))) (l7 (G7 (C9 x.2.1 (o9 A.2.2.2.1))) (some (.inr (2,A))) (l7 (C9 (o9 A.2.2.2.1) 0) (some (.inr (2,A))) (some (.inl (x.1,-1)))))) (some (.inl ((0,0),-1))))) λo=>Y0 o (λ(c:az)=>l7 (seq x.2.1 [99,111,110,102,108,105,99,116]) (l7 b.2 (l9 (iy A b.1) λx=>l7 (H6 x.1 0) (some (6,x.2)) (l9 (bH x.2.2.2.2.2.2 [(c.1,x.1)]) λd=>some (0,x.2.1,x.2.2.1,x.2.2.2.1,x.2.2.2.2.1,x.2.2.2.2.2.1,d))) (l9 (bH A.2.2.2.2.2 [(c.1,-2)]) λx=>some (0,A.1,A.2.1,A.2.2.1,A.2.2.2.1,A.2.2.2.2.1,x))) (l7 b.2 (l9 (iy A b.1) λx=>l7 (H6 x.1 0) (some (6,x.2)) (l9 (bH x.2.2.2.2.2.2 [(c.1,x.1)]) λd=>some (0,x.2.1,x.2.2.1,x.2.2.2.1,x.2.2.2.2.1,x.2.2.2.2.2.1,d))) (l9 (bH A.2.2.2.2.2 [c]) λx=>some (0,A.1,A.2.1,A.2.2.1,A.2.2.2.1,A.2.2.2.2.1,x)))) λr=>some r) λr=>some r) λr=>some r
def q55:FQ:=⟨[(false,(.box (pA (dT y24) (pA (dT iP) (pA J6 (pA (oW y12) (pA oiM (oW y30)))))))),(uD .str)],⟨[(.tmp 4,L6)],[(0,(true,(pA (dT y24) (pA (dT iP) (pA J6 (pA (oW y12) (pA oiM (oW y30))))))))]⟩,⟨105,eqs,tt,gl,[(90,s90),(52,s52),(53,s53),(93,s93),(91,s91)],[],[],[],[0],[]⟩,sN 2 (aT (jnR [(4,5),(21,27)] sgN H8) (sN 1 (aT (jnR [(4,5),(32,50)] sgN H8) (sN 1 (aT (jnR [(4,5),(10,15),(51,82),(33000640,33000641)] ⟨[(10,(false,(.box (dT y30))))],[]⟩ H8) H8)))))⟩
def s55:FSpec:=ai q55 λx=>uT x.1 x.2
def uf(A:af)(B:Int)(C:List UInt8):Option (Int×af):=l7 (C9 B 0) (l9 (kW C [100,101,99,105,115,105,111,110,32]) λx=>l7 (G7 x.2) (some (2,A)) (l9 (tK x.1) λc=>l7 (G7 c) (some (2,A)) (l9 (U0 (λ(b:af×Int)=>l7 (H6 b.2 (o9 A.1.2.2.2.1)) (l9 (J9 A.1.2.2.2.1 b.2) λd=>l7 (seq d.1 x.1) (some (.rt (0,b.1.1,b.1.2.1,b.2,b.1.2.2.2))) (some (.nx (b.1,F6 .i64 b.2 1)))) (some (.ex b.1))) (A,0)) λo=>Y0 o (λ(y:af)=>some (6,y)) λr=>some r))) (l9 (kW C [119,104,101,110,32]) λx=>l7 x.2 (l9 (ug A x.1) λx=>some x) (l9 (kW C [114,111,119,32]) λx=>l7 x.2 (l9 (uT A x.1) λx=>some x) (some (2,A))))
def q28:FQ:=⟨[(false,(.box (pA (dT y24) (pA (dT iP) (pA J6 (pA (oW y12) (pA oiM (oW y30)))))))),L6,(uD .str)],⟨[(.tmp 6,L6)],[(0,(true,(pA (dT y24) (pA (dT iP) (pA J6 (pA (oW y12) (pA oiM (oW y30))))))))]⟩,⟨68,eqs,tt,gl,[(52,s52),(53,s53),(54,s54),(55,s55)],[],[],[],[0],[]⟩,sN 1 (aT (sN 1 (.cond (sN 2 (aT (sN 1 (iZ (lpR [(0,1),(6,7),(9,11),(35,50),(1000000,1000004)] ⟨[(0,(false,(.box (pA (dT y24) (pA (dT iP) (pA J6 (pA (oW y12) (pA oiM (oW y30))))))))),(35,L6)],[]⟩ 0 ⟨[(0,(false,(.box (pA (dT y24) (pA (dT iP) (pA J6 (pA (oW y12) (pA oiM (oW y30)))))))))],[]⟩ H8))) H8)) H8)) H8)⟩
def s28:FSpec:=ai q28 λx=>uf x.1 x.2.1 x.2.2
def uF(A:dJ)(B:Int)(C:List UInt8):Option (X5×I9):=l9 (vS A) λx=>l7 (G7 (nH (C9 x.1 0) (nH (C9 x.2.1 0) (nH (C9 x.2.2.1 0) (C9 x.2.2.2 0))))) (some ((0,[],[],[]),0,1)) (l9 (l7 (H6 B 0) (some (.inr ((0,[],[],[]),0,6))) (l7 (O9 (o9 A.2.2) B) (some (.inr ((0,[],[],[]),0,6))) (some (.inl (0,[],[],[]))))) λo=>Y0 o (λ(x:X5)=>l9 (zG C) λb=>l7 (G7 (C9 b.2 0)) (some ((0,[],[],[]),0,b.2)) (l7 (C9 (o9 b.1) 0) (some ((0,[],[],[]),0,5)) (l9 (J9 A.2.2 B) λd=>l9 (nO A B) λf=>l9 (U0 (λ(x:X5×af×Int)=>l7 (H6 x.2.2 (o9 b.1)) (l9 (J9 b.1 x.2.2) λi=>l9 (dW b.1 (df x.2.2)) λg=>l9 (uf x.2.1 x.2.2 g) λc=>l7 (G7 (C9 c.1 0)) (some (.rt ((0,[],[],[]),x.2.2,c.1))) (some (.nx (x.1,c.2,F6 .i64 x.2.2 1)))) (some (.ex (x.1,x.2.1)))) (x,(d,f,0,[],[],[]),0)) λo=>Y0 o (λ(y:X5×af)=>some (y.2.2.2,0,0)) λr=>some r))) λr=>some r)
def q11:FQ:=⟨[tD y27,L6,(uD .str)],⟨[(.cell 6 31,tD y34),(.tmp 7,L6),(.tmp 8,L6)],[]⟩,mE 70 [(13,s13),(27,s27),(15,s15),(28,s28)],sN 2 (aT (jnR [(6,9),(20,30),(4000384,4000385)] ⟨[(6,(false,(.box (dT y34))))],[]⟩ H8) (sN 4 (aT (sN 1 (iZ (lpR [(6,9),(11,15),(54,68),(16000000,16000001),(50000704,50000705)] ⟨[(6,(false,(.box (dT y34)))),(11,(false,(.box (pA (dT y24) (pA (dT iP) (pA J6 (pA (oW y12) (pA oiM (oW y30))))))))),(54,L6)],[]⟩ 0 ⟨[(6,(false,(.box (dT y34)))),(11,(false,(.box (pA (dT y24) (pA (dT iP) (pA J6 (pA (oW y12) (pA oiM (oW y30)))))))))],[]⟩ H8))) H8)))⟩
def s11:FSpec:=ai q11 λx=>uF x.1 x.2.1 x.2.2
def Qk(A:List I9)(B:List I9):Option Bool:=l7 (G7 (C9 (o9 A) (o9 B))) (some false) (l9 (U0 (λ(x:Int)=>l7 (H6 x (o9 A)) (l7 (H6 x (o9 B)) (l9 (J9 A x) λb=>l9 (J9 B x) λc=>l7 (G7 (nH (C9 b.1 c.1) (C9 b.2 c.2))) (some (.rt false)) (some (.nx (F6 .i64 x 1)))) (some (.ex ()))) (some (.ex ()))) 0) λo=>Y0 o (λy=>some true) λr=>some r)
def q56:FQ:=⟨[uD y12,uD y12],tR 4 bQ,mE 32 [],sN 2 (aT (sN 1 (iZ (lpR [(4,6),(11,32)] ⟨[(5,L6)],[]⟩ 0 sgN H8))) H8)⟩
def s56:FSpec:=ai q56 λx=>Qk x.1 x.2
def Qj(A:List (List I9))(B:List (List I9)):Option Bool:=l7 (G7 (C9 (o9 A) (o9 B))) (some false) (l9 (U0 (λ(x:Int)=>l7 (H6 x (o9 A)) (l7 (H6 x (o9 B)) (l9 (J9 A x) λb=>l9 (J9 B x) λc=>l9 (Qk b c) λd=>l7 (G7 d) (some (.rt false)) (some (.nx (F6 .i64 x 1)))) (some (.ex ()))) (some (.ex ()))) 0) λo=>Y0 o (λy=>some true) λr=>some r)
def q29:FQ:=⟨[uD y28,uD y28],tR 4 bQ,mE 33 [(56,s56)],sN 2 (aT (sN 1 (iZ (lpR [(4,6),(11,33)] ⟨[(5,L6)],[]⟩ 0 sgN H8))) H8)⟩
def s29:FSpec:=ai q29 λx=>Qj x.1 x.2
def Tc(A:List Int)(B:List Int):Option Bool:=l7 (G7 (C9 (o9 A) (o9 B))) (some false) (l9 (U0 (λ(x:Int)=>l7 (H6 x (o9 A)) (l7 (H6 x (o9 B)) (l9 (J9 A x) λb=>l9 (J9 B x) λc=>l7 (G7 (C9 b c)) (some (.rt false)) (some (.nx (F6 .i64 x 1)))) (some (.ex ()))) (some (.ex ()))) 0) λo=>Y0 o (λy=>some true) λr=>some r)
def q30:FQ:=⟨[uD y29,uD y29],tR 4 bQ,mE 32 [],sN 2 (aT (sN 1 (iZ (lpR [(4,6),(11,32)] ⟨[(5,L6)],[]⟩ 0 sgN H8))) H8)⟩
def s30:FSpec:=ai q30 λx=>Tc x.1 x.2
def AZ(A:List az)(B:List az):Option Bool:=l7 (G7 (C9 (o9 A) (o9 B))) (some false) (l9 (U0 (λ(x:Int)=>l7 (H6 x (o9 A)) (l7 (H6 x (o9 B)) (l9 (J9 A x) λb=>l9 (J9 B x) λc=>l7 (G7 (nH (C9 b.1.1 c.1.1) (nH (C9 b.1.2 c.1.2) (C9 b.2 c.2)))) (some (.rt false)) (some (.nx (F6 .i64 x 1)))) (some (.ex ()))) (some (.ex ()))) 0) λo=>Y0 o (λy=>some true) λr=>some r)
def q31:FQ:=⟨[uD y31,uD y31],tR 4 bQ,mE 32 [],sN 2 (aT (sN 1 (iZ (lpR [(4,6),(11,32)] ⟨[(5,L6)],[]⟩ 0 sgN H8))) H8)⟩
def s31:FSpec:=ai q31 λx=>AZ x.1 x.2
def zW(A:X5)(B:X5):Option Bool:=l7 (C9 A.1 B.1) (l9 (Qj A.2.1 B.2.1) λx=>l7 x (l9 (Tc A.2.2.1 B.2.2.1) λx=>l7 x (l9 (AZ A.2.2.2 B.2.2.2) λx=>some x) (some false)) (some false)) (some false)
def q12:FQ:=⟨[tD y34,tD y34],tR 4 bQ,mE 31 [(29,s29),(30,s30),(31,s31)],H8⟩
def s12:FSpec:=ai q12 λx=>zW x.1 x.2
def xM:Option Bool:=l9 (JH [(7,0)]) λx=>l9 (lC x 0 (0,[],[],[((0,0),0)])) λc=>l9 (uF x 0 [100,101,99,105,115,105,111,110,32,100,10,114,111,119,32,46,32,114,117,108,101,32,98,97,115,101,10]) λb=>l9 (uF x 0 []) λx=>l7 (seq c.1 [100,101,99,105,115,105,111,110,32,100,10,114,111,119,32,46,32,114,117,108,101,32,98,97,115,101,10]) (l7 (C9 c.2 0) (l7 (C9 b.2.1 0) (l7 (C9 b.2.2 0) (l9 (zW (0,[],[],[((0,0),0)]) b.1) λd=>l7 d (some (C9 x.2.2 5)) (some false)) (some false)) (some false)) (some false)) (some false)
def q6:FQ:=⟨[],tR 0 bQ,mE 58 [(10,s10),(7,s7),(11,s11),(12,s12)],H8⟩
def s6:FSpec:=ai q6 λx=>xM
def AP(A:Int):Option Bool:=l7 (O9 97 A) (some (O9 A 122)) (some false)
def b0A:FQ:=⟨[(false,(dT (.int .u8)))],tR 2 bQ,mE 9 [],H8⟩
def a6Q:FSpec:=ai b0A λx=>AP x
def Fa(A:Int):Option Bool:=l7 (O9 48 A) (some (O9 A 57)) (some false)
def b1e:FQ:=⟨[(false,(dT (.int .u8)))],tR 2 bQ,mE 9 [],H8⟩
def b3w:FSpec:=ai b1e λx=>Fa x
def Dz(A:Int):Option Bool:=l9 (AP A) λx=>l7 x (some true) (l9 (Fa A) λx=>l7 x (some true) (some (C9 A 95)))
def b0B:FQ:=⟨[(false,(dT (.int .u8)))],tR 2 bQ,mE 13 [(156,a6Q),(195,b3w)],H8⟩
def b2X:FSpec:=ai b0B λx=>Dz x
def pJ:Option (List (List UInt8)):=some [[105,102],[116,104,101,110],[101,108,115,101],[111,114],[97,110,100],[110,111,116],[116,114,117,101],[102,97,108,115,101],[116,111,100,97,121],[115,104,97,114,101],[100,105,118],[114,111,117,110,100],[109,105,110],[109,97,120],[112,108,117,115],[109,111,110,116,104,115],[100,97,121,115],[121,101,97,114,115],[121,101,97,114],[109,111,110,116,104],[116,97,98],[98,97,110,100],[99,111,117,110,116],[115,117,109],[97,108,108],[97,110,121],[109,111,115,116],[101,110,117,109],[116,97,98,108,101],[114,111,119],[115,99,111,112,101],[109,101,109,98,101,114,115],[105,110,112,117,116],[100,101,102],[114,117,108,101],[111,102],[111,118,101,114],[112,114,105,111],[102,114,111,109],[116,111],[101,110,100],[119,104,101,110],[105,115],[115,114,99],[98,111,111,108],[105,110,116],[109,111,110,101,121],[114,97,116,101],[100,97,116,101],[100,111,119,110],[117,112],[122,101,114,111],[97,119,97,121],[104,97,108,102],[101,118,101,110]]
def b0C:FQ:=⟨[],tR 0 (uO .str),mE 2 [],H8⟩
def b2Y:FSpec:=ai b0C λx=>pJ
def bM(A:List UInt8):Option Bool:=l9 (l7 (C9 (o9 A) 0) (some (.inr false)) (l7 (H6 16 (o9 A)) (some (.inr false)) (l9 (sat A 0) λx=>l9 (AP x) λx=>l7 (G7 x) (some (.inr false)) (some (.inl ()))))) λo=>Y0 o (λx=>l9 (U0 (λ(x:Int)=>l7 (H6 x (o9 A)) (l9 (sat A x) λb=>l9 (Dz b) λc=>l7 (G7 c) (some (.rt false)) (some (.nx (F6 .i64 x 1)))) (some (.ex ()))) 0) λo=>Y0 o (λy=>l9 pJ λx=>l9 (U0 (λ(b:Int)=>l7 (H6 b (o9 x)) (l9 (J9 x b) λc=>l9 (dW x (df b)) λx=>l7 (seq x A) (some (.rt false)) (some (.nx (F6 .i64 b 1)))) (some (.ex ()))) 0) λo=>Y0 o (λy=>some true) λr=>some r) λr=>some r) λr=>some r
def a9X:FQ:=⟨[uD .str],tR 2 bQ,mE 44 [(156,a6Q),(157,b2X),(158,b2Y)],sN 1 (aT (jnR [(2,3),(6,20)] sgN H8) (aT (sN 1 (iZ (lpR [(2,4),(20,31)] ⟨[(3,L6)],[]⟩ 0 sgN H8))) (sN 1 (aT (sN 1 (iZ (lpR [(2,3),(5,6),(32,44)] ⟨[(5,L6)],[]⟩ 2 sgN H8))) H8))))⟩
def a0e:FSpec:=ai a9X λx=>bM x
def gQ(A:dJ)(B:Int)(C:Int)(D:List UInt8):Option Bool:=l9 (U0 (λ(x:Int)=>l7 (H6 x (o9 A.1)) (l7 (H6 1 B) (l9 (J9 A.1 x) λb=>l7 (seq b.1 D) (some (.rt true)) (some (.nx (F6 .i64 x 1)))) (l7 (H6 x C) (l9 (J9 A.1 x) λb=>l7 (seq b.1 D) (some (.rt true)) (some (.nx (F6 .i64 x 1)))) (some (.nx (F6 .i64 x 1))))) (some (.ex ()))) 0) λo=>Y0 o (λy=>l9 (U0 (λ(x:Int)=>l7 (H6 x (o9 A.2.1)) (l7 (H6 2 B) (l9 (J9 A.2.1 x) λb=>l7 (seq b.1 D) (some (.rt true)) (some (.nx (F6 .i64 x 1)))) (l7 (C9 B 2) (l7 (H6 x C) (l9 (J9 A.2.1 x) λb=>l7 (seq b.1 D) (some (.rt true)) (some (.nx (F6 .i64 x 1)))) (some (.nx (F6 .i64 x 1)))) (some (.nx (F6 .i64 x 1))))) (some (.ex ()))) 0) λo=>Y0 o (λy=>l9 (U0 (λ(x:Int)=>l7 (H6 x (o9 A.2.2)) (l7 (C9 B 3) (l7 (H6 x C) (l9 (J9 A.2.2 x) λb=>l7 (seq b.1 D) (some (.rt true)) (some (.nx (F6 .i64 x 1)))) (some (.nx (F6 .i64 x 1)))) (some (.nx (F6 .i64 x 1)))) (some (.ex ()))) 0) λo=>Y0 o (λy=>some false) λr=>some r) λr=>some r) λr=>some r
def a9Y:FQ:=⟨[tD y27,L6,L6,(uD .str)],tR 8 bQ,mE 88 [],sN 1 (aT (sN 1 (iZ (lpR [(8,10),(12,36)] ⟨[(9,L6)],[]⟩ 0 sgN H8))) (aT (sN 1 (iZ (lpR [(8,9),(10,11),(36,64)] ⟨[(10,L6)],[]⟩ 2 sgN H8))) (aT (sN 1 (iZ (lpR [(8,9),(11,12),(64,88)] ⟨[(11,L6)],[]⟩ 4 sgN H8))) H8)))⟩
def a4M:FSpec:=ai a9Y λx=>gQ x.1 x.2.1 x.2.2.1 x.2.2.2
def uy(A:dJ)(B:Int):Option W9:=l9 (J9 A.1 B) λx=>l9 (bM x.1) λd=>l7 (G7 d) (some (2,1,B,0)) (l9 (gQ A 1 B x.1) λf=>l7 f (some (7,1,B,0)) (l7 (C9 (o9 x.2) 0) (some (5,1,B,0)) (l7 (H6 16 (o9 x.2)) (some (4,1,B,116)) (l9 (U0 (λ(b:W9×W9×Int)=>l7 (H6 b.2.2 (o9 x.2)) (l9 (J9 x.2 b.2.2) λg=>l9 (bM g) λi=>l7 (G7 i) (some (.rt (2,b.2.1.2.1,b.2.1.2.2.1,F6 .i64 100 b.2.2))) (l9 (U0 (λ(c:W9×W9×Int)=>l7 (H6 c.2.2 b.2.2) (l9 (J9 x.2 c.2.2) λj=>l9 (J9 x.2 b.2.2) λx=>l7 (seq j x) (some (.rt (7,c.2.1.2))) (some (.nx (c.1,c.2.1,F6 .i64 c.2.2 1)))) (some (.ex (c.1,c.2.1)))) (b.1,(b.2.1.1,b.2.1.2.1,b.2.1.2.2.1,F6 .i64 100 b.2.2),0)) λo=>Y0 o (λ(y:W9×W9)=>some (.nx (y.1,y.2,F6 .i64 b.2.2 1))) λr=>some (.rt r))) (some (.ex b.1))) ((0,0,0,0),(0,1,B,0),0)) λo=>Y0 o (λ(y:W9)=>some (0,0,0,0)) λr=>some r))))
def q75:FQ:=⟨[tD y27,L6],cR 4 64 (tD y35),mE 80 [(116,a0e),(117,a4M)],sN 7 (aT (sN 1 (iZ (lpR [(4,5),(6,9),(42,79),(4000256,4000257),(10000384,10000385)] ⟨[(4,(false,(.box (dT y35)))),(6,(false,(.box (dT y35)))),(7,L6)],[]⟩ 0 ⟨[(4,(false,(.box (dT y35))))],[]⟩ (sN 1 (aT (iZ (sN 3 (iZ (lpR [(4,5),(6,7),(8,9),(61,79),(72000000,72000002)] ⟨[(4,(false,(.box (dT y35)))),(6,(false,(.box (dT y35)))),(8,L6)],[]⟩ 2 ⟨[(4,(false,(.box (dT y35)))),(6,(false,(.box (dT y35))))],[]⟩ H8)))) H8))))) H8)⟩
def s75:FSpec:=ai q75 λx=>uy x.1 x.2
def V8(A:I9)(B:List dL):Option Bool:=l7 (C9 A.1 6) (l7 (O9 0 A.2) (some (H6 A.2 (o9 B))) (some false)) (l7 (O9 1 A.1) (l7 (O9 A.1 5) (some (C9 A.2 0)) (some false)) (some false))
def b0d:FQ:=⟨[tD y2,uD y1],tR 4 bQ,mE 31 [],H8⟩
def Wl:FSpec:=ai b0d λx=>V8 x.1 x.2
def vC(A:I9):Option Bool:=l7 (O9 0 A.1) (l7 (O9 A.1 A.2) (some (O9 A.2 109573)) (some false)) (some false)
def b0G:FQ:=⟨[tD y2],tR 2 bQ,mE 18 [],H8⟩
def a4R:FSpec:=ai b0G λx=>vC x
def dC(A:I9)(B:List dL):Option I9:=l9 (V8 A B) λx=>l7 (G7 x) (some (0,-1)) (l7 (C9 A.1 1) (some (0,1)) (l7 (C9 A.1 2) (some (-1000000000000,1000000000000)) (l7 (C9 A.1 3) (some (-1000000000000000,1000000000000000)) (l7 (C9 A.1 4) (some (-1000000000,1000000000)) (l7 (C9 A.1 5) (some (0,109572)) (l9 (J9 B A.2) λx=>some (0,X9 .i64 (o9 x.2) 1)))))))
def q80:FQ:=⟨[tD y2,uD y1],⟨[(.tmp 4,L6),(.tmp 5,L6)],[]⟩,mE 30 [(123,Wl)],H8⟩
def s80:FSpec:=ai q80 λx=>dC x.1 x.2
def wu(A:Int)(B:I9)(C:List dL):Option Bool:=l9 (dC B C) λx=>l7 (O9 x.1 A) (some (O9 A x.2)) (some false)
def b0K:FQ:=⟨[L6,tD y2,uD y1],tR 6 bQ,mE 23 [(80,s80)],H8⟩
def a6S:FSpec:=ai b0K λx=>wu x.1 x.2.1 x.2.2
def AU(A:Eg)(B:kF)(C:List dL):Option Bool:=l9 (l9 (vC A.1) λx=>l7 (G7 x) (some (.inr true)) (l7 (C9 A.1.1 A.1.2) (some (.inr true)) (l7 (O9 A.2.2.1 A.2.1) (some (.inr true)) (some (.inl ()))))) λo=>Y0 o (λx=>l9 (wu A.2.1 B.2.1 C) λx=>l7 (G7 x) (some true) (l9 (wu (X9 .i64 A.2.2.1 1) B.2.1 C) λx=>l7 (G7 x) (some true) (l9 (wu A.2.2.2 B.2.2.1 C) λx=>some (G7 x)))) λr=>some r
def b0D:FQ:=⟨[tD y4,tD y8,uD y1],tR 6 bQ,mE 53 [(162,a4R),(168,a6S)],sN 1 (aT (jnR [(6,27)] sgN H8) H8)⟩
def b2Z:FSpec:=ai b0D λx=>AU x.1 x.2.1 x.2.2
def uu(A:I9)(B:I9):Option (I9×Bool):=l9 (vC A) λx=>l7 (G7 x) (some ((0,0),false)) (l9 (vC B) λx=>l7 (G7 x) (some ((0,0),false)) (l7 (O9 (vP A.2 B.2) (vO A.1 B.1)) (some ((0,0),false)) (some ((vO A.1 B.1,vP A.2 B.2),true))))
def b1f:FQ:=⟨[tD y2,tD y2],⟨[(.cell 4 81,tD y2),(.tmp 5,bQ)],[]⟩,mE 34 [(162,a4R)],H8⟩
def b3x:FSpec:=ai b1f λx=>uu x.1 x.2
def wz(A:Eg)(B:Eg):Option Bool:=l9 (uu A.1 B.1) λx=>l7 x.2 (some (H6 (vO A.2.1 B.2.1) (vP A.2.2.1 B.2.2.1))) (some false)
def b0E:FQ:=⟨[tD y4,tD y4],tR 4 bQ,mE 29 [(196,b3x)],H8⟩
def b3a:FSpec:=ai b0E λx=>wz x.1 x.2
def ww(A:kF)(B:List dL):Option I9:=l7 (H6 64 (o9 A.2.2.2)) (some (64,4)) (l9 (l9 (V8 A.2.1 B) λx=>l7 (G7 x) (some (.inr (-1,8))) (l9 (V8 A.2.2.1 B) λx=>l7 (G7 x) (some (.inr (-1,8))) (some (.inl ())))) λo=>Y0 o (λx=>l9 (U0 (λ(x:Int)=>l7 (H6 x (o9 A.2.2.2)) (l9 (J9 A.2.2.2 x) λc=>l9 (AU c A B) λd=>l7 d (some (.rt (x,3))) (l9 (U0 (λ(b:Int)=>l7 (H6 b x) (l9 (J9 A.2.2.2 b) λf=>l9 (J9 A.2.2.2 x) λg=>l9 (wz f g) λi=>l7 i (some (.rt (x,11))) (some (.nx (F6 .i64 b 1)))) (some (.ex ()))) 0) λo=>Y0 o (λy=>some (.nx (F6 .i64 x 1))) λr=>some (.rt r))) (some (.ex ()))) 0) λo=>Y0 o (λy=>some (0,0)) λr=>some r) λr=>some r)
def a9Z:FQ:=⟨[tD y8,uD y1],⟨[(.tmp 4,L6),(.tmp 5,L6)],[]⟩,mE 57 [(123,Wl),(159,b2Z),(160,b3a)],sN 2 (aT (jnR [(4,6),(12,24)] sgN H8) (aT (sN 1 (iZ (lpR [(4,8),(24,57)] ⟨[(6,L6)],[]⟩ 0 sgN (sN 1 (aT (iZ (sN 2 (iZ (lpR [(4,6),(7,8),(40,57)] ⟨[(7,L6)],[]⟩ 2 sgN H8)))) H8))))) H8))⟩
def b2D:FSpec:=ai a9Z λx=>ww x.1 x.2
def sU(A:dJ)(B:Int):Option W9:=l9 (J9 A.2.1 B) λx=>l9 (bM x.1) λb=>l7 (G7 b) (some (2,2,B,0)) (l9 (gQ A 2 B x.1) λc=>l7 c (some (7,2,B,0)) (l9 (ww x A.1) λx=>l7 (C9 x.2 0) (some (0,0,0,0)) (l7 (O9 0 x.1) (some (x.2,2,B,F6 .i64 100 x.1)) (some (x.2,2,B,0)))))
def q76:FQ:=⟨[tD y27,L6],cR 4 64 (tD y35),mE 47 [(116,a0e),(117,a4M),(118,b2D)],H8⟩
def s76:FSpec:=ai q76 λx=>sU x.1 x.2
def pM(A:List jh)(B:Int)(C:List UInt8):Option Bool:=l9 (U0 (λ(x:Int)=>l7 (H6 x B) (l7 (H6 x (o9 A)) (l9 (J9 A x) λb=>l7 (seq b.1 C) (some (.rt true)) (some (.nx (F6 .i64 x 1)))) (some (.ex ()))) (some (.ex ()))) 0) λo=>Y0 o (λy=>some false) λr=>some r
def b0F:FQ:=⟨[uD y11,L6,(uD .str)],tR 6 bQ,mE 26 [],sN 1 (aT (sN 1 (iZ (lpR [(6,26)] ⟨[(7,L6)],[]⟩ 0 sgN H8))) H8)⟩
def b3b:FSpec:=ai b0F λx=>pM x.1 x.2.1 x.2.2
def sO(A:dJ)(B:Int):Option W9:=l9 (J9 A.2.2 B) λx=>l9 (U0 (λ(b:W9×Int)=>l7 (H6 b.2 (o9 x.2.2.1)) (l9 (J9 x.2.2.1 b.2) λc=>l9 (bM c.1) λd=>l7 (G7 d) (l7 (G7 (C9 2 0)) (some (.rt (2,3,B,F6 .i64 100 b.2))) (some (.nx (b.1,F6 .i64 b.2 1)))) (l9 (J9 x.2.2.1 b.2) λf=>l9 (pM x.2.2.1 b.2 f.1) λg=>l7 g (l7 (G7 (C9 7 0)) (some (.rt (7,3,B,F6 .i64 100 b.2))) (some (.nx (b.1,F6 .i64 b.2 1)))) (l9 (J9 x.2.2.1 b.2) λx=>l9 (V8 x.2 A.1) λx=>l7 (G7 x) (l7 (G7 (C9 8 0)) (some (.rt (8,3,B,F6 .i64 100 b.2))) (some (.nx (b.1,F6 .i64 b.2 1)))) (l7 (G7 (C9 0 0)) (some (.rt (0,3,B,F6 .i64 100 b.2))) (some (.nx (b.1,F6 .i64 b.2 1))))))) (some (.ex b.1))) ((0,0,0,0),0)) λo=>Y0 o (λ(y:W9)=>l9 (U0 (λ(b:W9×Int)=>l7 (H6 b.2 (o9 x.2.2.2.1)) (l9 (l9 (J9 x.2.2.2.1 b.2) λc=>l9 (bM c.1) λd=>l7 (G7 d) (some (2,3,B,F6 .i64 200 b.2)) (l9 (J9 x.2.2.2.1 b.2) λf=>l9 (pM x.2.2.1 (o9 x.2.2.1) f.1) λg=>l7 g (some (7,3,B,F6 .i64 200 b.2)) (l9 (J9 x.2.2.2.1 b.2) λi=>l9 (pM x.2.2.2.1 b.2 i.1) λj=>l7 j (some (7,3,B,F6 .i64 200 b.2)) (l9 (J9 x.2.2.2.1 b.2) λx=>l9 (V8 x.2 A.1) λx=>l7 (G7 x) (some (8,3,B,F6 .i64 200 b.2)) (some (0,3,B,F6 .i64 200 b.2)))))) λx=>l7 (G7 (C9 x.1 0)) (some (.rt x)) (some (.nx (b.1,F6 .i64 b.2 1)))) (some (.ex b.1))) (y,0)) λo=>Y0 o (λ(y:W9)=>some (0,0,0,0)) λr=>some r) λr=>some r
def b0a:FQ:=⟨[tD y27,L6],cR 4 64 (tD y35),mE 122 [(116,a0e),(161,b3b),(123,Wl)],sN 2 (aT (sN 1 (iZ (lpR [(4,5),(6,8),(15,61),(4000256,4000257)] ⟨[(4,(false,(.box (dT y35)))),(6,L6)],[]⟩ 0 ⟨[(4,(false,(.box (dT y35))))],[]⟩ H8))) (aT (sN 1 (iZ (lpR [(4,5),(8,10),(61,121),(15000000,15000001)] ⟨[(4,(false,(.box (dT y35)))),(8,L6)],[]⟩ 2 ⟨[(4,(false,(.box (dT y35))))],[]⟩ (sN 1 (aT (iZ (sN 1 (aT (.join [(9,10),(72,117),(78000576,78000577)] ⟨[(9,(false,(.box (dT y35))))],[]⟩ H8) H8))) H8))))) H8))⟩
def b2E:FSpec:=ai b0a λx=>sO x.1 x.2
def uz(A:List UInt8):Option Bool:=l9 (U0 (λ(x:Int)=>l7 (H6 x (o9 A)) (l9 (sat A x) λb=>l7 (H6 b 32) (some (.rt false)) (l9 (sat A x) λc=>l7 (H6 126 c) (some (.rt false)) (l9 (sat A x) λd=>l7 (C9 d 34) (some (.rt false)) (some (.nx (F6 .i64 x 1)))))) (some (.ex ()))) 0) λo=>Y0 o (λy=>some (O9 (o9 A) 64)) λr=>some r
def b0H:FQ:=⟨[uD .str],tR 2 bQ,mE 29 [],sN 1 (aT (sN 1 (iZ (lpR [(2,26)] ⟨[(3,L6)],[]⟩ 0 sgN H8))) H8)⟩
def b3c:FSpec:=ai b0H λx=>uz x
def sQ(A:List jh):Option (List I9):=l9 (dK (λ(x:List I9×Int)=>l7 (H6 x.2 (o9 A)) (l9 (J9 A x.2) λb=>l9 (bH x.1 [b.2]) λc=>some (.inl (c,F6 .i64 x.2 1))) (some (.inr x.1))) ([],0)) λy=>some y
def b1g:FQ:=⟨[uD y11],tR 2 (uO y2),mE 20 [],sN 2 (aT (sN 1 (iZ (.loop [(3,19)] ⟨[(3,(uO y2)),(4,L6)],[]⟩ 0 ⟨[(3,(uO y2))],[]⟩ H8))) H8)⟩
def b3y:FSpec:=ai b1g λx=>sQ x
def uw(A:dJ)(B:Int):Option P6:=l9 (l7 (H6 B 0) (some (.inr ([],[],[],[],[],false))) (l7 (O9 (o9 A.2.2) B) (some (.inr ([],[],[],[],[],false))) (some (.inl ([],[],[],[],[],false))))) λo=>Y0 o (λ(x:P6)=>l9 (J9 A.2.2 B) λx=>l9 (sQ x.2.2.1) λb=>l9 (sQ x.2.2.2.1) λc=>l7 (O9 0 x.2.1) (l7 (H6 x.2.1 (o9 A.2.2)) (l9 (J9 A.2.2 x.2.1) λx=>l9 (sQ x.2.2.2.1) λx=>some (A.1,A.2.1,b,c,x,true)) (some (A.1,A.2.1,b,c,[],false))) (some (A.1,A.2.1,b,c,[],false))) λr=>some r
def b0I:FQ:=⟨[tD y27,L6],cR 4 181 (tD y51),mE 55 [(197,b3y)],sN 1 (aT (jnR [(4,5),(7,17),(4000256,4000257)] ⟨[(4,(false,(.box (dT y51))))],[]⟩ H8) H8)⟩
def b3d:FSpec:=ai b0I λx=>uw x.1 x.2
def gy(A:Int):Option Int:=l9 (l7 (O9 1 A) (l7 (O9 A 9) (some (.inr 0)) (l7 (O9 35 A) (l7 (O9 A 39) (some (.inr 0)) (some (.inl ()))) (some (.inl ())))) (l7 (O9 35 A) (l7 (O9 A 39) (some (.inr 0)) (some (.inl ()))) (some (.inl ())))) λo=>Y0 o (λx=>l7 (C9 A 10) (l7 (C9 A 10) (some 1) (l7 (C9 A 26) (some 3) (l7 (O9 11 A) (l7 (O9 A 30) (some 2) (some (-1))) (some (-1))))) (l7 (C9 A 25) (l7 (C9 A 25) (some 1) (l7 (C9 A 26) (some 3) (l7 (O9 11 A) (l7 (O9 A 30) (some 2) (some (-1))) (some (-1))))) (l7 (C9 A 31) (l7 (C9 A 31) (some 1) (l7 (C9 A 26) (some 3) (l7 (O9 11 A) (l7 (O9 A 30) (some 2) (some (-1))) (some (-1))))) (l7 (C9 A 32) (l7 (C9 A 32) (some 1) (l7 (C9 A 26) (some 3) (l7 (O9 11 A) (l7 (O9 A 30) (some 2) (some (-1))) (some (-1))))) (l7 (C9 A 33) (l7 (C9 A 33) (some 1) (l7 (C9 A 26) (some 3) (l7 (O9 11 A) (l7 (O9 A 30) (some 2) (some (-1))) (some (-1))))) (l7 (C9 A 34) (some 1) (l7 (C9 A 26) (some 3) (l7 (O9 11 A) (l7 (O9 A 30) (some 2) (some (-1))) (some (-1)))))))))) λr=>some r
def b0c:FQ:=⟨[L6],tR 2 L6,mE 33 [],sN 1 (aT (jnR [(2,17)] sgN H8) H8)⟩
def a4N:FSpec:=ai b0c λx=>gy x
def nR(A:List I9):Option (List Int×I9):=l7 (H6 48 (o9 A)) (some ([],0,4)) (l7 (C9 (o9 A) 0) (some ([],0,5)) (l9 (U0 (λ(x:List Int×List Int×Int)=>l7 (H6 x.2.2 (o9 A)) (l9 (J9 A x.2.2) λg=>l9 (gy g.1) λb=>l7 (H6 b 0) (some (.rt ([],x.2.2,2))) (l7 (H6 (o9 x.2.1) b) (some (.rt ([],x.2.2,5))) (l7 (H6 0 b) (l9 (J9 x.2.1 (X9 .i64 (o9 x.2.1) b)) λd=>l9 (dW x.2.1 (df (X9 .i64 (o9 x.2.1) b))) λc=>l7 (jC 0 (X9 .i64 (o9 x.2.1) b) (o9 x.2.1)) (l9 (bH (iF x.2.1 (df 0) (df (X9 .i64 (o9 x.2.1) b))) [c]) λf=>l9 (bH x.1 [c]) λi=>l7 (H6 12 (o9 f)) (some (.rt ([],x.2.2,16))) (some (.nx (i,f,F6 .i64 x.2.2 1)))) none) (l9 (bH x.2.1 [x.2.2]) λd=>l9 (bH x.1 [x.2.2]) λc=>l7 (H6 12 (o9 d)) (some (.rt ([],x.2.2,16))) (some (.nx (c,d,F6 .i64 x.2.2 1))))))) (some (.ex (x.1,x.2.1)))) ([],[],0)) λo=>Y0 o (λ(y:List Int×List Int)=>l7 (H6 1 (o9 y.2)) (some ([],o9 A,4)) (some (y.1,0,0))) λr=>some r))
def q78:FQ:=⟨[uD y12],⟨[(.tmp 2,uoM),(.tmp 3,L6),(.tmp 4,L6)],[]⟩,mE 70 [(122,a4N)],sN 4 (aT (sN 1 (iZ (lpR [(2,10),(16,64)] ⟨[(5,uoM),(6,uoM),(7,L6)],[]⟩ 0 ⟨[(5,uoM),(6,uoM)],[]⟩ H8))) H8)⟩
def s78:FSpec:=ai q78 λx=>nR x
def gK(A:Int):Option Bool:=l9 (l7 (O9 1 A) (l7 (O9 A 8) (some (.inr true)) (l7 (O9 36 A) (l7 (O9 A 39) (some (.inr true)) (some (.inl ()))) (some (.inl ())))) (l7 (O9 36 A) (l7 (O9 A 39) (some (.inr true)) (some (.inl ()))) (some (.inl ())))) λo=>Y0 o (λx=>l7 (C9 A 14) (some true) (l7 (C9 A 15) (some true) (l7 (C9 A 16) (some true) (l7 (C9 A 33) (some true) (some (C9 A 34)))))) λr=>some r
def b1M:FQ:=⟨[L6],tR 2 bQ,mE 35 [],sN 1 (aT (jnR [(2,17)] sgN H8) H8)⟩
def b4a:FSpec:=ai b1M λx=>gK x
def gz(A:Int):Option I9:=some (A,0)
def b2a:FQ:=⟨[L6],cR 2 43 (tD y2),mE 5 [],H8⟩
def a0f:FSpec:=ai b2a λx=>gz x
def qh(A:I9)(B:P6):Option Bool:=l9 (l7 (C9 A.1 1) (some (C9 A.1 1)) (l7 (C9 A.1 2) (some (C9 A.1 2)) (l7 (C9 A.1 3) (some (C9 A.1 3)) (l7 (C9 A.1 4) (some (C9 A.1 4)) (some (C9 A.1 5)))))) λx=>l7 x (l9 (gz A.1) λx=>l9 (dC x B.1) λx=>l7 (O9 x.1 A.2) (some (O9 A.2 x.2)) (some false)) (l9 (l7 (C9 A.1 14) (some (C9 A.1 14)) (l7 (C9 A.1 15) (some (C9 A.1 15)) (some (C9 A.1 16)))) λx=>l7 x (l7 (O9 0 A.2) (some (O9 A.2 5)) (some false)) (l7 (C9 A.1 34) (l7 (O9 0 A.2) (some (O9 (jG A.2 8) 5)) (some false)) (l7 (C9 A.1 6) (some (O9 0 A.2)) (some true))))
def b1N:FQ:=⟨[tD y2,tD y51],tR 4 bQ,mE 62 [(287,a0f),(80,s80)],sN 1 (aT (sN 1 (iZ (aT (.join [(9,15)] ⟨[(9,bQ)],[]⟩ H8) (.cond H8 (aT (.join [(34,38)] ⟨[(34,bQ)],[]⟩ H8) H8))))) H8)⟩
def b4b:FSpec:=ai b1N λx=>qh x.1 x.2
def rF(A:I9)(B:P6):Option Bool:=l7 (C9 A.1 6) (l7 (H6 (dZ .i64 A.2 16) (o9 B.1)) (l9 (J9 B.1 (dZ .i64 A.2 16)) λx=>some (H6 (jG A.2 16) (o9 x.2))) (some false)) (l7 (C9 A.1 7) (l7 (O9 0 A.2) (some (H6 A.2 (o9 B.2.2.1))) (some false)) (l7 (C9 A.1 8) (l7 (O9 0 A.2) (some (H6 A.2 (o9 B.2.2.2.1))) (some false)) (l7 (C9 A.1 33) (l7 (O9 0 A.2) (some (H6 A.2 (o9 B.2.1))) (some false)) (l7 (C9 A.1 34) (some (H6 (dZ .i64 A.2 8) (o9 B.2.1))) (l7 (C9 A.1 35) (some B.2.2.2.2.2) (l9 (l7 (C9 A.1 36) (some (C9 A.1 36)) (l7 (C9 A.1 37) (some (C9 A.1 37)) (l7 (C9 A.1 38) (some (C9 A.1 38)) (some (C9 A.1 39))))) λx=>l7 x (l7 B.2.2.2.2.2 (l7 (O9 0 A.2) (some (H6 A.2 (o9 B.2.2.2.2.1))) (some false)) (some false)) (some true)))))))
def b1O:FQ:=⟨[tD y2,tD y51],tR 4 bQ,mE 103 [],sN 1 (aT (sN 1 (iZ (sN 1 (.cond H8 (sN 1 (.cond H8 (sN 1 (.cond H8 (sN 1 (.cond H8 (sN 1 (.cond H8 (sN 1 (.cond H8 (aT (.join [(83,88)] ⟨[(83,bQ)],[]⟩ H8) H8))))))))))))))) H8)⟩
def b4c:FSpec:=ai b1O λx=>rF x.1 x.2
def sJ(A:Int):Option Bool:=l7 (C9 A 2) (some true) (l7 (C9 A 3) (some true) (some (C9 A 4)))
def b2c:FQ:=⟨[L6],tR 2 bQ,mE 13 [],H8⟩
def a4U:FSpec:=ai b2c λx=>sJ x
def oJ(A:Int):Option Bool:=l9 (sJ A) λx=>l7 x (some true) (some (C9 A 5))
def b2b:FQ:=⟨[L6],tR 2 bQ,mE 9 [(289,a4U)],H8⟩
def a7i:FSpec:=ai b2b λx=>oJ x
def jZ(A:I9)(B:P6):Option (I9×Bool):=l9 (l7 (C9 A.1 6) (some (6,dZ .i64 A.2 16)) (l7 (C9 A.1 7) (l9 (J9 B.2.2.1 A.2) λx=>some x) (l7 (C9 A.1 8) (l9 (J9 B.2.2.2.1 A.2) λx=>some x) (l7 (C9 A.1 9) (l9 (gz 5) λx=>some x) (l7 (C9 A.1 35) (l9 (gz 2) λx=>some x) (l9 (l7 (C9 A.1 36) (some (C9 A.1 36)) (l7 (C9 A.1 37) (some (C9 A.1 37)) (l7 (C9 A.1 38) (some (C9 A.1 38)) (some (C9 A.1 39))))) λx=>l7 x (l9 (J9 B.2.2.2.2.1 A.2) λx=>some x) (l9 (gz A.1) λx=>some x))))))) λx=>l9 (V8 x B.1) λb=>l7 (C9 A.1 36) (l7 b (l7 (C9 x.1 2) (some (x,true)) (some (x,C9 x.1 3))) (some (x,false))) (l7 (C9 A.1 37) (l7 (C9 A.1 37) (l7 b (some (x,C9 x.1 1)) (some (x,false))) (l7 (C9 A.1 39) (l7 b (l9 (oJ x.1) λc=>some (x,c)) (some (x,false))) (some (x,b)))) (l7 (C9 A.1 38) (l7 b (some (x,C9 x.1 1)) (some (x,false))) (l7 (C9 A.1 39) (l7 b (l9 (oJ x.1) λc=>some (x,c)) (some (x,false))) (some (x,b)))))
def b1P:FQ:=⟨[tD y2,tD y51],⟨[(.cell 4 43,tD y2),(.tmp 5,bQ)],[]⟩,mE 91 [(287,a0f),(123,Wl),(288,a7i)],sN 2 (aT (.join [(6,7),(9,53),(7000384,7000385)] ⟨[(6,(false,(.box (dT y2))))],[]⟩ (sN 1 (iZ (sN 1 (.cond H8 (sN 1 (.cond H8 (sN 1 (.cond H8 (sN 1 (.cond H8 (sN 1 (.cond H8 (aT (.join [(42,47)] ⟨[(42,bQ)],[]⟩ H8) H8)))))))))))))) H8)⟩
def b4d:FSpec:=ai b1P λx=>jZ x.1 x.2
def qi(A:I9)(B:I9)(C:P6):Option (I9×Bool):=l7 (C9 A.1 10) (l9 (sJ B.1) λx=>some (B,x)) (l7 (C9 A.1 25) (some (B,C9 B.1 1)) (l9 (l7 (C9 A.1 31) (some (C9 A.1 31)) (some (C9 A.1 32))) λx=>l7 x (l9 (gz 2) λx=>some (x,C9 B.1 5)) (l7 (C9 A.1 33) (l9 (J9 C.2.1 A.2) λx=>l9 (V8 x.2.1 C.1) λb=>l7 b (l9 (V8 x.2.2.1 C.1) λc=>l7 c (some (x.2.2.1,nH (C9 B.1 x.2.1.1) (C9 B.2 x.2.1.2))) (some (x.2.2.1,false))) (some (x.2.2.1,false))) (l9 (J9 C.2.1 (dZ .i64 A.2 8)) λx=>l7 (C9 B.1 3) (l9 (gz 3) λb=>l7 (nH (C9 x.2.1.1 b.1) (C9 x.2.1.2 b.2)) (l9 (gz 4) λc=>some (B,nH (C9 x.2.2.1.1 c.1) (C9 x.2.2.1.2 c.2))) (some (B,false))) (some (B,false))))))
def b1Q:FQ:=⟨[tD y2,tD y2,tD y51],⟨[(.cell 6 43,tD y2),(.tmp 7,bQ)],[]⟩,mE 82 [(289,a4U),(287,a0f),(123,Wl)],sN 1 (aT (sN 1 (iZ (sN 1 (.cond H8 (sN 1 (.cond H8 (aT (.join [(24,27)] ⟨[(24,bQ)],[]⟩ H8) H8))))))) H8)⟩
def b4e:FSpec:=ai b1Q λx=>qi x.1 x.2.1 x.2.2
def Jw(A:Int)(B:Int)(C:Int):Option (I9×Bool):=l7 (C9 A 13) (l9 (gz B) λx=>l7 (C9 C 2) (l7 (C9 B 2) (some (x,true)) (some (x,C9 B 3))) (some (x,false))) (l7 (C9 A 14) (l9 (gz B) λx=>l7 (C9 C 4) (l7 (C9 B 3) (some (x,true)) (some (x,C9 B 4))) (some (x,false))) (l7 (C9 B 3) (l7 (C9 C 3) (l9 (gz 4) λx=>some (x,true)) (l9 (gz B) λx=>l7 (C9 C 2) (l7 (C9 B 2) (some (x,true)) (some (x,C9 B 3))) (some (x,false)))) (l9 (gz B) λx=>l7 (C9 C 2) (l7 (C9 B 2) (some (x,true)) (some (x,C9 B 3))) (some (x,false)))))
def b2d:FQ:=⟨[L6,L6,L6],⟨[(.cell 6 43,tD y2),(.tmp 7,bQ)],[]⟩,mE 56 [(287,a0f)],H8⟩
def b4m:FSpec:=ai b2d λx=>Jw x.1 x.2.1 x.2.2
def sH(A:Int)(B:I9)(C:I9):Option (I9×Bool):=l9 (l9 (l7 (C9 A 11) (some (C9 A 11)) (some (C9 A 12))) λx=>l7 x (l7 (nH (C9 B.1 C.1) (C9 B.2 C.2)) (l9 (sJ B.1) λx=>some (.inr (B,x))) (some (.inr (B,false)))) (l9 (l7 (C9 A 13) (some (C9 A 13)) (l7 (C9 A 14) (some (C9 A 14)) (some (C9 A 15)))) λx=>l7 x (l9 (Jw A B.1 C.1) λx=>some (.inr x)) (l7 (C9 A 16) (l7 (C9 B.1 3) (some (.inr (B,C9 C.1 3))) (some (.inr (B,false)))) (l9 (l7 (C9 A 17) (some (C9 A 17)) (some (C9 A 18))) λx=>l7 x (l7 (nH (C9 B.1 C.1) (C9 B.2 C.2)) (l9 (oJ B.1) λx=>some (.inr (B,x))) (some (.inr (B,false)))) (l9 (l7 (C9 A 19) (some (C9 A 19)) (some (C9 A 20))) λx=>l7 x (l9 (gz 1) λx=>some (.inr (x,nH (C9 B.1 C.1) (C9 B.2 C.2)))) (l9 (l7 (C9 A 21) (some (C9 A 21)) (some (C9 A 22))) λx=>l7 x (l9 (gz 1) λx=>l7 (nH (C9 B.1 C.1) (C9 B.2 C.2)) (l9 (oJ B.1) λb=>some (.inr (x,b))) (some (.inr (x,false)))) (l7 (C9 A 23) (l7 (C9 A 23) (l7 (C9 B.1 1) (some (.inr (B,C9 C.1 1))) (some (.inr (B,false)))) (l7 (C9 A 27) (l7 (C9 A 27) (l7 (C9 B.1 5) (some (.inr (B,C9 C.1 2))) (some (.inr (B,false)))) (some (.inl (0,0)))) (l7 (C9 A 28) (l7 (C9 B.1 5) (some (.inr (B,C9 C.1 2))) (some (.inr (B,false)))) (some (.inl (0,0)))))) (l7 (C9 A 24) (l7 (C9 B.1 1) (some (.inr (B,C9 C.1 1))) (some (.inr (B,false)))) (l7 (C9 A 27) (l7 (C9 A 27) (l7 (C9 B.1 5) (some (.inr (B,C9 C.1 2))) (some (.inr (B,false)))) (some (.inl (0,0)))) (l7 (C9 A 28) (l7 (C9 B.1 5) (some (.inr (B,C9 C.1 2))) (some (.inr (B,false)))) (some (.inl (0,0))))))))))))) λo=>Y0 o (λ(x:I9)=>l9 (gz 2) λx=>l7 (C9 B.1 5) (some (x,C9 C.1 5)) (some (x,false))) λr=>some r
def b1R:FQ:=⟨[L6,tD y2,tD y2],⟨[(.cell 6 43,tD y2),(.tmp 7,bQ)],[]⟩,mE 108 [(289,a4U),(290,b4m),(288,a7i),(287,a0f)],sN 1 (aT (jnR [(6,99),(4000384,4000385)] ⟨[(6,(false,(.box (dT y2))))],[]⟩ (sN 1 (iZ (aT (.join [(9,12)] ⟨[(9,bQ)],[]⟩ H8) (.cond H8 (aT (.join [(21,25)] ⟨[(21,bQ)],[]⟩ H8) (.cond H8 (sN 1 (.cond H8 (aT (.join [(44,47)] ⟨[(44,bQ)],[]⟩ H8) (.cond H8 (aT (.join [(56,59)] ⟨[(56,bQ)],[]⟩ H8) (.cond H8 (aT (.join [(63,66)] ⟨[(63,bQ)],[]⟩ H8) H8)))))))))))))) H8)⟩
def b4f:FSpec:=ai b1R λx=>sH x.1 x.2.1 x.2.2
def sF(A:I9)(B:List I9)(C:P6):Option az:=l9 (l7 (G7 (C9 A.2 0)) (l9 (gK A.1) λx=>l7 (G7 x) (some (.inr ((0,0),2))) (some (.inl (0,0)))) (some (.inl (0,0)))) λo=>Y0 o (λ(x:I9)=>l9 (qh A C) λx=>l7 (G7 x) (some ((0,0),3)) (l9 (rF A C) λx=>l7 (G7 x) (some ((0,0),6)) (l7 (C9 (o9 B) 0) (l9 (jZ A C) λx=>l7 (G7 x.2) (some ((0,0),8)) (some (x.1,0))) (l7 (C9 (o9 B) 1) (l9 (J9 B 0) λx=>l9 (qi A x C) λx=>l7 (G7 x.2) (some ((0,0),8)) (some (x.1,0))) (l7 (C9 (o9 B) 2) (l9 (J9 B 0) λx=>l9 (J9 B 1) λb=>l9 (sH A.1 x b) λx=>l7 (G7 x.2) (some ((0,0),8)) (some (x.1,0))) (l9 (J9 B 1) λx=>l9 (J9 B 0) λb=>l7 (C9 b.1 1) (l9 (J9 B 1) λc=>l9 (J9 B 2) λd=>l7 (G7 (nH (C9 c.1 d.1) (C9 c.2 d.2))) (some ((0,0),8)) (some (x,0))) (l7 (G7 false) (some ((0,0),8)) (some (x,0))))))))) λr=>some r
def b1v:FQ:=⟨[tD y2,uD y12,tD y51],⟨[(.cell 6 43,tD y2),(.tmp 7,L6)],[]⟩,mE 87 [(252,b4a),(253,b4b),(254,b4c),(255,b4d),(256,b4e),(257,b4f)],sN 1 (aT (jnR [(6,8),(10,20),(4000384,4000385)] ⟨[(6,(false,(.box (dT y2))))],[]⟩ H8) H8)⟩
def b3M:FSpec:=ai b1v λx=>sF x.1 x.2.1 x.2.2
def yK(A:List I9)(B:P6):Option (I9×I9):=l9 (nR A) λx=>l7 (G7 (C9 x.2.2 0)) (some ((0,0),x.2)) (l9 (U0 (λ(x:I9×List I9×Int)=>l7 (H6 x.2.2 (o9 A)) (l9 (J9 A x.2.2) λd=>l9 (gy d.1) λb=>l9 (J9 A x.2.2) λf=>l7 (jC (X9 .i64 (o9 x.2.1) b) (o9 x.2.1) (o9 x.2.1)) (l9 (sF f (iF x.2.1 (df (X9 .i64 (o9 x.2.1) b)) (df (o9 x.2.1))) B) λc=>l7 (G7 (C9 c.2 0)) (some (.rt ((0,0),x.2.2,c.2))) (l7 (jC 0 (X9 .i64 (o9 x.2.1) b) (o9 x.2.1)) (l9 (bH (iF x.2.1 (df 0) (df (X9 .i64 (o9 x.2.1) b))) [c.1]) λg=>some (.nx (x.1,g,F6 .i64 x.2.2 1))) none)) none) (some (.ex (x.1,x.2.1)))) ((0,0),[],0)) λo=>Y0 o (λ(y:I9×List I9)=>l9 (J9 y.2 0) λx=>l9 (dW y.2 (df 0)) λx=>some (x,0,0)) λr=>some r)
def b1h:FQ:=⟨[uD y12,tD y51],⟨[(.cell 4 43,tD y2),(.tmp 5,L6),(.tmp 6,L6)],[]⟩,mE 67 [(78,s78),(122,a4N),(224,b3M)],sN 4 (aT (sN 1 (iZ (lpR [(4,7),(10,15),(26,64),(4000256,4000257)] ⟨[(4,(false,(.box (dT y2)))),(10,(uO y2)),(11,L6)],[]⟩ 0 ⟨[(4,(false,(.box (dT y2)))),(10,(uO y2))],[]⟩ H8))) H8)⟩
def b3z:FSpec:=ai b1h λx=>yK x.1 x.2
def nS(A:List I9)(B:P6)(C:I9):Option Int:=l9 (yK A B) λx=>l7 (G7 (C9 x.2.2 0)) (some x.2.2) (l7 (G7 (nH (C9 x.1.1 C.1) (C9 x.1.2 C.2))) (some 8) (some 0))
def b0J:FQ:=⟨[uD y12,tD y51,tD y2],tR 6 L6,mE 23 [(198,b3z)],H8⟩
def b3e:FSpec:=ai b0J λx=>nS x.1 x.2.1 x.2.2
def uA(A:dJ)(B:Int)(C:Int):Option Int:=l9 (J9 A.2.2 B) λx=>l9 (J9 x.2.2.2.2 C) λb=>l9 (bM b.1) λi=>l7 (G7 i) (some 2) (l9 (U0 (λ(c:I9)=>l7 (H6 c.2 C) (l9 (J9 x.2.2.2.2 c.2) λf=>l7 (seq f.1 b.1) (some (.rt 7)) (l9 (J9 x.2.2.2.2 c.2) λx=>l7 (C9 x.2.1 b.2.1) (some (.nx (F6 .i64 c.1 1,F6 .i64 c.2 1))) (some (.nx (c.1,F6 .i64 c.2 1))))) (some (.ex c.1))) (0,0)) λo=>Y0 o (λy=>l9 (l7 (H6 b.2.1 0) (some (.inr 6)) (l7 (O9 (o9 x.2.2.2.1) b.2.1) (some (.inr 6)) (some (.inl ())))) λo=>Y0 o (λc=>l9 (l7 (G7 (C9 b.2.2.1 (-1))) (l7 (H6 b.2.2.1 0) (some (.inr 9)) (l7 (O9 C b.2.2.1) (some (.inr 9)) (l9 (J9 x.2.2.2.2 b.2.2.1) λx=>l7 (G7 (C9 x.2.1 b.2.1)) (some (.inr 9)) (some (.inl ()))))) (some (.inl ()))) λo=>Y0 o (λf=>l9 (l7 (H6 b.2.2.2.1 0) (some (.inr 3)) (l7 (H6 9 b.2.2.2.1) (some (.inr 3)) (l9 (vC b.2.2.2.2.1) λx=>l7 (G7 x) (some (.inr 3)) (l7 (C9 b.2.2.2.2.1.1 b.2.2.2.2.1.2) (some (.inr 3)) (some (.inl ())))))) λo=>Y0 o (λk=>l7 (O9 8 y) (some 4) (l9 (uz b.2.2.2.2.2.2.2) λj=>l7 (G7 j) (some 2) (l9 (uw A B) λd=>l7 (H6 0 (o9 b.2.2.2.2.2.1)) (l9 (nS b.2.2.2.2.2.1 d (1,0)) λg=>l7 (G7 (C9 g 0)) (some g) (l9 (J9 x.2.2.2.1 b.2.1) λx=>l9 (nS b.2.2.2.2.2.2.1 d x.2) λx=>some x)) (l9 (J9 x.2.2.2.1 b.2.1) λx=>l9 (nS b.2.2.2.2.2.2.1 d x.2) λx=>some x)))) λr=>some r) λr=>some r) λr=>some r) λr=>some r)
def b0b:FQ:=⟨[tD y27,L6,L6],tR 6 L6,mE 144 [(116,a0e),(162,a4R),(163,b3c),(164,b3d),(165,b3e)],sN 5 (aT (sN 1 (iZ (lpR [(6,7),(9,11),(27,52)] ⟨[(9,L6),(10,L6)],[]⟩ 0 ⟨[(9,L6)],[]⟩ H8))) (aT (jnR [(6,7),(52,63)] sgN H8) (aT (jnR [(6,7),(63,89)] sgN H8) (aT (jnR [(6,7),(89,112)] sgN H8) H8))))⟩
def b2F:FSpec:=ai b0b λx=>uA x.1 x.2.1 x.2.2
def zM(A:P5)(B:Int):Option Bool:=l7 (O9 0 B) (some (H6 B (o9 A.2.2.2.1))) (some false)
def b6s:FQ:=⟨[tD y24,L6],tR 4 bQ,mE 14 [],H8⟩
def b3A:FSpec:=ai b6s λx=>zM x.1 x.2
def lW(A:List Int)(B:Int):Option (List Int):=l9 (dK (λ(x:List Int×Bool×Int)=>l7 (H6 x.2.2 (o9 A)) (l7 (G7 x.2.1) (l9 (J9 A x.2.2) λd=>l7 (O9 B d) (l9 (J9 A x.2.2) λb=>l7 (H6 B b) (l9 (bH x.1 [B]) λc=>l9 (J9 A x.2.2) λf=>l9 (bH c [f]) λg=>some (.inl (g,true,F6 .i64 x.2.2 1))) (l9 (J9 A x.2.2) λc=>l9 (bH x.1 [c]) λf=>some (.inl (f,true,F6 .i64 x.2.2 1)))) (l9 (J9 A x.2.2) λb=>l9 (bH x.1 [b]) λc=>some (.inl (c,x.2.1,F6 .i64 x.2.2 1)))) (l9 (J9 A x.2.2) λd=>l9 (bH x.1 [d]) λb=>some (.inl (b,x.2.1,F6 .i64 x.2.2 1)))) (some (.inr (x.1,x.2.1)))) ([],false,0)) λy=>l7 (G7 y.2) (l9 (bH y.1 [B]) λx=>some x) (some y.1)
def b6u:FQ:=⟨[uD y29,L6],tR 4 uoM,mE 48 [],sN 3 (aT (sN 1 (iZ (.loop [(5,41)] ⟨[(5,uoM),(6,bQ),(7,L6)],[]⟩ 0 ⟨[(5,uoM),(6,bQ)],[]⟩ H8))) H8)⟩
def b3N:FSpec:=ai b6u λx=>lW x.1 x.2
def pK(A:List I9):Option (List Int×List Int×List Int):=l9 (dK (λ(x:List Int×List Int×List Int×Int)=>l7 (H6 x.2.2.2 (o9 A)) (l9 (J9 A x.2.2.2) λc=>l7 (C9 c.1 7) (l9 (J9 A x.2.2.2) λf=>l9 (lW x.1 f.2) λb=>l7 (C9 c.1 8) (l9 (J9 A x.2.2.2) λg=>l9 (lW x.2.1 g.2) λd=>l7 (O9 36 c.1) (l7 (O9 c.1 39) (l9 (J9 A x.2.2.2) λi=>l9 (lW x.2.2.1 i.2) λj=>some (.inl (b,d,j,F6 .i64 x.2.2.2 1))) (some (.inl (b,d,x.2.2.1,F6 .i64 x.2.2.2 1)))) (some (.inl (b,d,x.2.2.1,F6 .i64 x.2.2.2 1)))) (l7 (O9 36 c.1) (l7 (O9 c.1 39) (l9 (J9 A x.2.2.2) λg=>l9 (lW x.2.2.1 g.2) λd=>some (.inl (b,x.2.1,d,F6 .i64 x.2.2.2 1))) (some (.inl (b,x.2.1,x.2.2.1,F6 .i64 x.2.2.2 1)))) (some (.inl (b,x.2.1,x.2.2.1,F6 .i64 x.2.2.2 1))))) (l7 (C9 c.1 8) (l9 (J9 A x.2.2.2) λf=>l9 (lW x.2.1 f.2) λb=>l7 (O9 36 c.1) (l7 (O9 c.1 39) (l9 (J9 A x.2.2.2) λg=>l9 (lW x.2.2.1 g.2) λd=>some (.inl (x.1,b,d,F6 .i64 x.2.2.2 1))) (some (.inl (x.1,b,x.2.2.1,F6 .i64 x.2.2.2 1)))) (some (.inl (x.1,b,x.2.2.1,F6 .i64 x.2.2.2 1)))) (l7 (O9 36 c.1) (l7 (O9 c.1 39) (l9 (J9 A x.2.2.2) λf=>l9 (lW x.2.2.1 f.2) λb=>some (.inl (x.1,x.2.1,b,F6 .i64 x.2.2.2 1))) (some (.inl (x.1,x.2.1,x.2.2.1,F6 .i64 x.2.2.2 1)))) (some (.inl (x.1,x.2.1,x.2.2.1,F6 .i64 x.2.2.2 1)))))) (some (.inr (x.1,x.2.1,x.2.2.1)))) ([],[],[],0)) λy=>some y
def b6t:FQ:=⟨[uD y12],⟨[(.tmp 2,uoM),(.tmp 3,uoM),(.tmp 4,uoM)],[]⟩,mE 55 [(225,b3N)],sN 2 (aT (sN 1 (iZ (.loop [(5,52)] ⟨[(5,uoM),(6,uoM),(7,uoM),(8,L6)],[]⟩ 0 ⟨[(5,uoM),(6,uoM),(7,uoM)],[]⟩ H8))) H8)⟩
def b3B:FSpec:=ai b6t λx=>pK x
def oq(A:List Int)(B:Int):Option (List Int):=l9 (dK (λ(x:List Int×Bool×Int)=>l7 (H6 x.2.2 (o9 A)) (l7 (G7 x.2.1) (l9 (J9 A x.2.2) λd=>l7 (O9 B d) (l9 (J9 A x.2.2) λb=>l7 (H6 B b) (l9 (bH x.1 [B]) λc=>l9 (J9 A x.2.2) λf=>l9 (bH c [f]) λg=>some (.inl (g,true,F6 .i64 x.2.2 1))) (l9 (J9 A x.2.2) λc=>l9 (bH x.1 [c]) λf=>some (.inl (f,true,F6 .i64 x.2.2 1)))) (l9 (J9 A x.2.2) λb=>l9 (bH x.1 [b]) λc=>some (.inl (c,x.2.1,F6 .i64 x.2.2 1)))) (l9 (J9 A x.2.2) λd=>l9 (bH x.1 [d]) λb=>some (.inl (b,x.2.1,F6 .i64 x.2.2 1)))) (some (.inr (x.1,x.2.1)))) ([],false,0)) λy=>l7 (G7 y.2) (l9 (bH y.1 [B]) λx=>some x) (some y.1)
def b6r:FQ:=⟨[uD y29,L6],tR 4 uoM,mE 48 [],sN 3 (aT (sN 1 (iZ (.loop [(5,41)] ⟨[(5,uoM),(6,bQ),(7,L6)],[]⟩ 0 ⟨[(5,uoM),(6,bQ)],[]⟩ H8))) H8)⟩
def a6R:FSpec:=ai b6r λx=>oq x.1 x.2
def wB(A:P5)(B:Int):Option (List Int):=l9 (zM A B) λx=>l7 (G7 x) (some []) (l9 (dK (λ(x:List Int×Int)=>l7 (H6 x.2 (o9 A.2.2.2.2)) (l9 (J9 A.2.2.2.2 x.2) λj=>l7 (G7 (C9 j.2.1 B)) (some (.inl (x.1,F6 .i64 x.2 1))) (l9 (J9 A.2.2.2.2 x.2) λk=>l9 (pK k.2.2.2.2.2.1) λb=>l9 (J9 A.2.2.2.2 x.2) λn=>l9 (pK n.2.2.2.2.2.2.1) λc=>l9 (dK (λ(x:List Int×Int)=>l7 (H6 x.2 (o9 b.2.1)) (l9 (J9 b.2.1 x.2) λp=>l9 (dW b.2.1 (df x.2)) λg=>l9 (zM A g) λi=>l7 i (l9 (J9 b.2.1 x.2) λq=>l9 (dW b.2.1 (df x.2)) λd=>l9 (oq x.1 d) λf=>some (.inl (f,F6 .i64 x.2 1))) (some (.inl (x.1,F6 .i64 x.2 1)))) (some (.inr x.1))) (x.1,0)) λy=>l9 (dK (λ(x:List Int×Int)=>l7 (H6 x.2 (o9 c.2.1)) (l9 (J9 c.2.1 x.2) λp=>l9 (dW c.2.1 (df x.2)) λg=>l9 (zM A g) λi=>l7 i (l9 (J9 c.2.1 x.2) λq=>l9 (dW c.2.1 (df x.2)) λd=>l9 (oq x.1 d) λf=>some (.inl (f,F6 .i64 x.2 1))) (some (.inl (x.1,F6 .i64 x.2 1)))) (some (.inr x.1))) (y,0)) λy=>some (.inl (y,F6 .i64 x.2 1)))) (some (.inr x.1))) ([],0)) λy=>some y)
def b6q:FQ:=⟨[tD y24,L6],tR 4 uoM,mE 93 [(199,b3A),(200,b3B),(167,a6R)],sN 3 (aT (sN 1 (iZ (.loop [(5,15),(19,92)] ⟨[(5,uoM),(6,L6)],[]⟩ 0 ⟨[(5,uoM)],[]⟩ (sN 1 (aT (iZ (sN 3 (aT (sN 1 (iZ (.loop [(5,6),(13,14),(56,74),(24000000,24000001)] ⟨[(5,uoM),(13,L6)],[]⟩ 2 ⟨[(5,uoM)],[]⟩ H8))) (sN 1 (iZ (.loop [(5,6),(14,15),(74,92),(55000000,55000001)] ⟨[(5,uoM),(14,L6)],[]⟩ 4 ⟨[(5,uoM)],[]⟩ H8)))))) H8))))) H8)⟩
def b3f:FSpec:=ai b6q λx=>wB x.1 x.2
def sK(A:P5)(B:Int):Option (List Int):=l9 (wB A B) λx=>l9 (dK (λ(x:List Int×Int)=>l7 (H6 x.2 (o9 A.2.2.2.1)) (l9 (dK (λ(c:List Int×Int)=>l7 (H6 c.2 (o9 x.1)) (l9 (J9 x.1 c.2) λx=>l9 (wB A x) λx=>l9 (dK (λ(b:List Int×Int)=>l7 (H6 b.2 (o9 x)) (l9 (J9 x b.2) λd=>l9 (dW x (df b.2)) λx=>l9 (oq b.1 x) λx=>some (.inl (x,F6 .i64 b.2 1))) (some (.inr b.1))) (c.1,0)) λy=>some (.inl (y,F6 .i64 c.2 1))) (some (.inr c.1))) (x.1,0)) λy=>some (.inl (y,F6 .i64 x.2 1))) (some (.inr x.1))) (x,0)) λy=>some y
def b6p:FQ:=⟨[tD y24,L6],tR 4 (uD y29),mE 47 [(166,b3f),(167,a6R)],sN 2 (aT (sN 1 (iZ (.loop [(5,11),(14,46),(7000832,7000833)] ⟨[(5,(uD y29)),(6,L6)],[]⟩ 0 ⟨[(5,(uD y29))],[]⟩ (sN 1 (aT (iZ (sN 2 (iZ (.loop [(5,6),(8,11),(22,46)] ⟨[(5,(uD y29)),(8,L6)],[]⟩ 2 ⟨[(5,(uD y29))],[]⟩ (sN 1 (aT (iZ (sN 2 (iZ (.loop [(5,6),(10,11),(34,46)] ⟨[(5,(uD y29)),(10,L6)],[]⟩ 4 ⟨[(5,(uD y29))],[]⟩ H8)))) H8)))))) H8))))) H8)⟩
def a6N:FSpec:=ai b6p λx=>sK x.1 x.2
def sS(A:dJ)(B:Int):Option W9:=l9 (J9 A.2.2 B) λx=>l9 (bM x.1) λg=>l7 (G7 g) (some (2,3,B,0)) (l9 (gQ A 3 B x.1) λi=>l7 i (some (7,3,B,0)) (l9 (l7 (G7 (C9 x.2.1 (-1))) (l7 (H6 x.2.1 0) (some (.inr (6,3,B,0))) (l7 (O9 B x.2.1) (some (.inr (6,3,B,0))) (l9 (J9 A.2.2 x.2.1) λx=>l7 (G7 (C9 x.2.1 (-1))) (some (.inr (6,3,B,0))) (some (.inl ((0,0,0,0),0,3,B,0)))))) (some (.inl ((0,0,0,0),0,3,B,0)))) λo=>Y0 o (λ(c:W9×W9)=>l7 (H6 12 (o9 x.2.2.1)) (some (4,c.2.2.1,c.2.2.2.1,112)) (l7 (H6 12 (o9 x.2.2.2.1)) (some (4,c.2.2.1,c.2.2.2.1,212)) (l9 (sO A B) λf=>l7 (G7 (C9 f.1 0)) (some f) (l9 (U0 (λ(b:W9×Int)=>l7 (H6 b.2 (o9 x.2.2.2.2)) (l9 (uA A B b.2) λx=>l7 (G7 (C9 x 0)) (some (.rt (x,3,B,F6 .i64 300 b.2))) (some (.nx (b.1,F6 .i64 b.2 1)))) (some (.ex b.1))) (c.1,0)) λo=>Y0 o (λ(y:W9)=>l9 (U0 (λ(b:W9×Int)=>l7 (H6 b.2 (o9 x.2.2.2.1)) (l9 (sK x b.2) λx=>l9 (U0 (λ(d:W9×Int)=>l7 (H6 d.2 (o9 x)) (l9 (J9 x d.2) λx=>l7 (C9 x b.2) (some (.rt (9,3,B,F6 .i64 200 b.2))) (some (.nx (d.1,F6 .i64 d.2 1)))) (some (.ex d.1))) (b.1,0)) λo=>Y0 o (λ(y:W9)=>some (.nx (y,F6 .i64 b.2 1))) λr=>some (.rt r)) (some (.ex b.1))) (y,0)) λo=>Y0 o (λ(y:W9)=>some (0,0,0,0)) λr=>some r) λr=>some r)))) λr=>some r))
def q77:FQ:=⟨[tD y27,L6],cR 4 64 (tD y35),mE 125 [(116,a0e),(117,a4M),(119,b2E),(120,b2F),(121,a6N)],sN 5 (aT (jnR [(4,5),(6,7),(33,59),(4000256,4000257),(10000384,10000385)] ⟨[(4,(false,(.box (dT y35)))),(6,(false,(.box (dT y35))))],[]⟩ H8) (sN 4 (aT (sN 1 (iZ (lpR [(4,5),(8,10),(80,98),(38000000,38000001)] ⟨[(4,(false,(.box (dT y35)))),(8,L6)],[]⟩ 0 ⟨[(4,(false,(.box (dT y35))))],[]⟩ H8))) (aT (sN 1 (iZ (lpR [(4,5),(10,13),(98,124),(102000000,102000001)] ⟨[(4,(false,(.box (dT y35)))),(10,L6)],[]⟩ 2 ⟨[(4,(false,(.box (dT y35))))],[]⟩ (sN 1 (aT (iZ (sN 2 (iZ (lpR [(4,5),(12,13),(108,124),(132000000,132000001)] ⟨[(4,(false,(.box (dT y35)))),(12,L6)],[]⟩ 4 ⟨[(4,(false,(.box (dT y35))))],[]⟩ H8)))) H8))))) H8))))⟩
def s77:FSpec:=ai q77 λx=>sS x.1 x.2
def wC(A:dJ):Option W9:=l7 (H6 8 (o9 A.1)) (some (4,1,8,0)) (l9 (U0 (λ(x:W9×Int)=>l7 (H6 x.2 (o9 A.1)) (l9 (uy A x.2) λb=>l7 (G7 (C9 b.1 0)) (some (.rt b)) (some (.nx (x.1,F6 .i64 x.2 1)))) (some (.ex x.1))) ((0,0,0,0),0)) λo=>Y0 o (λ(y:W9)=>l7 (H6 8 (o9 A.2.1)) (some (4,2,8,0)) (l9 (U0 (λ(x:W9×Int)=>l7 (H6 x.2 (o9 A.2.1)) (l9 (sU A x.2) λb=>l7 (G7 (C9 b.1 0)) (some (.rt b)) (some (.nx (x.1,F6 .i64 x.2 1)))) (some (.ex x.1))) (y,0)) λo=>Y0 o (λ(y:W9)=>l7 (H6 4 (o9 A.2.2)) (some (4,3,4,0)) (l9 (U0 (λ(x:W9×Int)=>l7 (H6 x.2 (o9 A.2.2)) (l9 (sS A x.2) λb=>l7 (G7 (C9 b.1 0)) (some (.rt b)) (some (.nx (x.1,F6 .i64 x.2 1)))) (some (.ex x.1))) (y,0)) λo=>Y0 o (λ(y:W9)=>some (0,0,0,0)) λr=>some r)) λr=>some r)) λr=>some r)
def q44:FQ:=⟨[tD y27],cR 2 64 (tD y35),mE 67 [(75,s75),(76,s76),(77,s77)],sN 2 (aT (sN 1 (iZ (lpR [(2,5),(14,28),(4000128,4000129)] ⟨[(2,(false,(.box (dT y35)))),(3,L6)],[]⟩ 0 ⟨[(2,(false,(.box (dT y35))))],[]⟩ H8))) (sN 1 (aT (sN 1 (iZ (lpR [(2,3),(5,7),(33,47),(22000000,22000001)] ⟨[(2,(false,(.box (dT y35)))),(5,L6)],[]⟩ 2 ⟨[(2,(false,(.box (dT y35))))],[]⟩ H8))) (sN 1 (aT (sN 1 (iZ (lpR [(2,3),(7,9),(52,66),(63000000,63000001)] ⟨[(2,(false,(.box (dT y35)))),(7,L6)],[]⟩ 4 ⟨[(2,(false,(.box (dT y35))))],[]⟩ H8))) H8)))))⟩
def s44:FSpec:=ai q44 λx=>wC x
def DD(A:dJ)(B:Int):Option (P5×Int):=l9 (wC A) λx=>l7 (G7 (C9 x.1 0)) (some (([],0,[],[],[]),1)) (l7 (H6 B 0) (some (([],0,[],[],[]),6)) (l7 (O9 (o9 A.2.2) B) (some (([],0,[],[],[]),6)) (l9 (J9 A.2.2 B) λx=>some (x,0))))
def q20:FQ:=⟨[tD y27,L6],⟨[(.cell 4 50,tD y24),(.tmp 5,L6)],[]⟩,mE 26 [(44,s44)],H8⟩
def s20:FSpec:=ai q20 λx=>DD x.1 x.2
def rH(A:P5)(B:Int):Option Bool:=l7 (O9 0 B) (some (H6 B (o9 A.2.2.2.2))) (some false)
def q21:FQ:=⟨[tD y24,L6],tR 4 bQ,mE 14 [],H8⟩
def s21:FSpec:=ai q21 λx=>rH x.1 x.2
def je(A:List jh):Option (List (List UInt8)):=l9 (dK (λ(x:List (List UInt8)×Int)=>l7 (H6 x.2 (o9 A)) (l9 (J9 A x.2) λb=>l9 (bH x.1 [b.1]) λc=>some (.inl (c,F6 .i64 x.2 1))) (some (.inr x.1))) ([],0)) λy=>some y
def q48:FQ:=⟨[uD y11],tR 2 (uO .str),mE 20 [],sN 2 (aT (sN 1 (iZ (.loop [(3,19)] ⟨[(3,(uO .str)),(4,L6)],[]⟩ 0 ⟨[(3,(uO .str))],[]⟩ H8))) H8)⟩
def s48:FSpec:=ai q48 λx=>je x
def jB(A:dJ)(B:Int):Option D9:=l9 (l7 (H6 B 0) (some (.inr ([],[],[],[],[]))) (l7 (O9 (o9 A.2.2) B) (some (.inr ([],[],[],[],[]))) (some (.inl ([],[],[],[],[]))))) λo=>Y0 o (λ(x:D9)=>l9 (J9 A.2.2 B) λx=>l9 (je x.2.2.1) λb=>l9 (je x.2.2.2.1) λc=>l9 (dK (λ(x:D9×Int)=>l7 (H6 x.2 (o9 A.2.1)) (l9 (J9 A.2.1 x.2) λd=>l9 (bH x.1.2.1 [d.1]) λf=>some (.inl ((x.1.1,f,x.1.2.2),F6 .i64 x.2 1))) (some (.inr x.1))) ((A.1,[],b,c,[]),0)) λy=>l7 (O9 0 x.2.1) (l7 (H6 x.2.1 (o9 A.2.2)) (l9 (J9 A.2.2 x.2.1) λx=>l9 (je x.2.2.2.1) λx=>some (y.1,y.2.1,y.2.2.1,y.2.2.2.1,x)) (some y)) (some y)) λr=>some r
def q23:FQ:=⟨[tD y27,L6],cR 4 77 (tD iP),mE 71 [(48,s48)],sN 1 (aT (jnR [(4,5),(8,18),(4000256,4000257)] ⟨[(4,(false,(.box (dT iP))))],[]⟩ H8) (sN 2 (aT (sN 1 (iZ (.loop [(6,8),(32,50),(20000384,20000385),(20001728,20001729),(20001920,20001921)] ⟨[(6,(false,(.box (pA (dT y1) (pA (oW .str) (pA (oW .str) (pA (oW .str) (dT (.sl .str))))))))),(7,L6)],[]⟩ 0 ⟨[(6,(false,(.box (pA (dT y1) (pA (oW .str) (pA (oW .str) (pA (oW .str) (dT (.sl .str)))))))))],[]⟩ H8))) H8)))⟩
def s23:FSpec:=ai q23 λx=>jB x.1 x.2
def DC(A:List I9):Option (List Int×Int):=l9 (nR A) λx=>some (x.1,x.2.2)
def q45:FQ:=⟨[uD y12],⟨[(.tmp 2,uoM),(.tmp 3,L6)],[]⟩,mE 15 [(78,s78)],H8⟩
def s45:FSpec:=ai q45 λx=>DC x
def bD(A:I9):Option (Ep×Bool):=l7 (O9 1 A.1) (l7 (O9 A.1 5) (some ((A.1,0,A.2),true)) (some ((0,0,0),false))) (some ((0,0,0),false))
def q79:FQ:=⟨[tD y2],⟨[(.cell 2 145,tD y3),(.tmp 3,bQ)],[]⟩,mE 18 [],H8⟩
def s79:FSpec:=ai q79 λx=>bD x
def mi(A:I9)(B:D9):Option (List (List UInt8)):=l7 (C9 A.1 7) (some B.2.2.1) (l7 (C9 A.1 8) (some B.2.2.2.1) (l7 (C9 A.1 33) (some B.2.1) (some B.2.2.2.2)))
def q81:FQ:=⟨[tD y2,tD iP],tR 4 (uD (.sl .str)),mE 21 [],H8⟩
def s81:FSpec:=ai q81 λx=>mi x.1 x.2
def U9(A:I9)(B:D9):Option Int:=l9 (bD A) λx=>l7 x.2 (l9 (dC (x.1.1,0) []) λb=>l7 (H6 x.1.2.2 b.1) (some 3) (l7 (H6 b.2 x.1.2.2) (some 3) (some 0))) (l7 (C9 A.1 6) (l7 (H6 A.2 0) (some 6) (l7 (O9 (o9 B.1) (dZ .i64 A.2 16)) (some 6) (l9 (J9 B.1 (dZ .i64 A.2 16)) λx=>l7 (O9 (o9 x.2) (jG A.2 16)) (some 6) (some 0)))) (l9 (l7 (C9 A.1 7) (some true) (l7 (C9 A.1 8) (some true) (l7 (C9 A.1 33) (some true) (l7 (O9 36 A.1) (some (O9 A.1 39)) (some false))))) λx=>l7 x (l7 (H6 A.2 0) (some 6) (l9 (mi A B) λx=>l7 (O9 (o9 x) A.2) (some 6) (some 0))) (l7 (C9 A.1 34) (l7 (H6 A.2 0) (some 6) (l7 (O9 (o9 B.2.1) (dZ .i64 A.2 8)) (some 6) (l7 (H6 5 (jG A.2 8)) (some 3) (some 0)))) (l9 (l7 (C9 A.1 14) (some true) (l7 (C9 A.1 15) (some true) (some (C9 A.1 16)))) λx=>l7 x (l7 (H6 A.2 0) (some 3) (l7 (H6 5 A.2) (some 3) (some 0))) (l7 (G7 (C9 A.2 0)) (some 2) (some 0))))))
def q46:FQ:=⟨[tD y2,tD iP],tR 4 L6,mE 146 [(79,s79),(80,s80),(81,s81)],sN 2 (aT (iZ (sN 1 (.cond H8 (sN 1 (.cond H8 (aT (.join [(64,88)] ⟨[(64,bQ)],[]⟩ H8) (.cond H8 (sN 1 (.cond H8 (aT (.join [(120,134)] ⟨[(120,bQ)],[]⟩ H8) H8)))))))))) H8)⟩
def s46:FSpec:=ai q46 λx=>U9 x.1 x.2
def rE(A:List I9)(B:Int):Option (List Int):=l9 (nR A) λx=>l9 (l7 (G7 (C9 x.2.2 0)) (some (.inr [])) (l7 (H6 B 0) (some (.inr [])) (l7 (O9 (o9 A) B) (some (.inr [])) (some (.inl ()))))) λo=>Y0 o (λg=>l9 (J9 A B) λd=>l9 (gy d.1) λc=>l9 (ER c 0) λf=>l9 (dK (λ(b:List Int×I9)=>l7 (O9 0 b.2.2) (l9 (J9 b.1 b.2.2) λi=>l9 (dW b.1 (df b.2.2)) λj=>l9 (J9 x.1 b.2.1) λk=>l9 (dW x.1 (df b.2.1)) λx=>some (.inl (tX b.1 (df b.2.2) b.2.1,X9 .i64 x 1,X9 .i64 b.2.2 1))) (some (.inr b.1))) (f,X9 .i64 B 1,X9 .i64 c 1)) λy=>some y) λr=>some r
def q82:FQ:=⟨[uD y12,L6],tR 4 uoM,mE 56 [(78,s78),(122,a4N)],sN 2 (aT (jnR [(4,5),(18,30)] sgN H8) (sN 3 (aT (sN 1 (iZ (.loop [(9,12),(42,55),(23002368,23002369)] ⟨[(9,uoM),(10,L6),(11,L6)],[]⟩ 0 ⟨[(9,uoM)],[]⟩ H8))) H8)))⟩
def s82:FSpec:=ai q82 λx=>rE x.1 x.2
def xx(A:Ep):Option I9:=some (A.1,A.2.1)
def b0e:FQ:=⟨[tD y3],cR 2 43 (tD y2),mE 8 [],H8⟩
def a6O:FSpec:=ai b0e λx=>xx x
def AQ(A:Ep)(B:List dL):Option Bool:=l9 (xx A) λx=>l9 (V8 x B) λx=>l7 x (l9 (xx A) λx=>l9 (wu A.2.2 x B) λx=>some x) (some false)
def b0f:FQ:=⟨[tD y3,uD y1],tR 4 bQ,mE 17 [(124,a6O),(123,Wl),(168,a6S)],H8⟩
def b2G:FSpec:=ai b0f λx=>AQ x.1 x.2
def ZE:List MG:=[(false,(.dat (.int .u64)))]
def a5L:Ret:=⟨[(.tmp 2,(false,(.dat .str)))],[]⟩
def b5K (r169:M.den (.dat (.int .u64))->Option (V7 ([(false,(.dat .str))]++[]))):Env:=⟨20,eqs,tt,gl,[(169,⟨ZE,[(false,(.dat .str))],[],λx=>r169 x⟩)],[],[],[],[],[]⟩
def a9r:Ann:=.leaf
def wo(r169:Int->Option (List UInt8))(A:Int):Option (List UInt8):=l7 (H6 A 10) (some (Eh [wrap .u8 (F6 .u64 48 A)])) (l9 (r169 (dZ .u64 A 10)) λx=>l9 (J3 x (Eh [wrap .u8 (F6 .u64 48 (jG A 10))])) λx=>some x)
def mF:Nat->(M.den (.dat (.int .u64))->Option (V7 ([(false,(.dat .str))]++[])))|0=>λa0=>none|n+1=>λa0=>wo (mF n) a0
def yH:M.den (.dat (.int .u64))->Option (V7 ([(false,(.dat .str))]++[])):=λa0=>(mF fQ) a0
def b3g:FSpec:=mkS ZE a5L λx=>yH x
def lq(A:Int):Option (List UInt8):=l7 (H6 A 0) (l9 (yH (F6 .u64 (wrap .u64 (X9 .i64 0 (F6 .i64 A 1))) 1)) λx=>l9 (J3 [45] x) λx=>some x) (l9 (yH (wrap .u64 A)) λx=>some x)
def b0g:FQ:=⟨[L6],tR 2 (uD .str),mE 15 [(169,b3g)],H8⟩
def a4O:FSpec:=ai b0g λx=>lq x
def EY(A:Int):Option Int:=some (vP (vO A 0) 9)
def b0L:FQ:=⟨[L6],tR 2 L6,mE 6 [],H8⟩
def b3h:FSpec:=ai b0L λx=>EY x
def xu(A:List UInt8):Option (List UInt8×Bool):=l7 (H6 0 (o9 A)) (l9 (sat A 0) λx=>l7 (C9 x 45) (l9 (gW A 1 (o9 A)) λx=>some (x,true)) (some (A,false))) (some (A,false))
def b0M:FQ:=⟨[uD .str],⟨[(.tmp 2,(uD .str)),(.tmp 3,bQ)],[]⟩,mE 15 [],H8⟩
def b3i:FSpec:=ai b0M λx=>xu x
def jy(A:Int)(B:Int):Option (List UInt8):=l9 (EY B) λx=>l7 (C9 x 0) (l9 (lq A) λx=>some x) (l9 (lq A) λd=>l9 (xu d) λc=>l9 (dK (λ(b:List UInt8)=>l7 (O9 (o9 b) x) (l9 (J3 [48] b) λx=>some (.inl x)) (some (.inr b))) c.1) λy=>l9 (gW y 0 (X9 .i64 (o9 y) x)) λb=>l9 (J3 b [46]) λf=>l9 (gW y (X9 .i64 (o9 y) x) (o9 y)) λx=>l9 (J3 f x) λx=>l7 c.2 (l9 (J3 [45] x) λx=>some x) (some x))
def b0h:FQ:=⟨[L6,L6],tR 4 (uD .str),mE 44 [(170,b3h),(126,a4O),(171,b3i)],sN 4 (aT (iZ (.loop [(6,7),(20,26)] ⟨[(6,(uD .str))],[]⟩ 0 ⟨[(6,(uD .str))],[]⟩ H8)) H8)⟩
def b2H:FSpec:=ai b0h λx=>jy x.1 x.2
def xP(A:Int):Option Bool:=l7 (O9 0 A) (some (O9 A 109572)) (some false)
def b0N:FQ:=⟨[L6],tR 2 bQ,mE 9 [],H8⟩
def a6T:FSpec:=ai b0N λx=>xP x
def yJ(A:Int):Option Bool:=l7 (C9 (jG A 4) 0) (l7 (G7 (C9 (jG A 100) 0)) (some true) (some (C9 (jG A 400) 0))) (some false)
def b1w:FQ:=⟨[L6],tR 2 bQ,mE 16 [],H8⟩
def a7c:FSpec:=ai b1w λx=>yJ x
def jY(A:Int):Option Int:=l9 (yJ A) λx=>l7 x (some 366) (some 365)
def b1i:FQ:=⟨[L6],tR 2 L6,mE 5 [(226,a7c)],H8⟩
def b3C:FSpec:=ai b1i λx=>jY x
def jA(A:Int)(B:Int):Option Int:=l7 (C9 B 2) (l9 (yJ A) λx=>l7 x (some 29) (some 28)) (l9 (l7 (C9 B 4) (some (C9 B 4)) (l7 (C9 B 6) (some (C9 B 6)) (l7 (C9 B 9) (some (C9 B 9)) (some (C9 B 11))))) λx=>l7 x (some 30) (l7 (C9 B 1) (l7 (C9 B 1) (some 31) (some 0)) (l7 (C9 B 3) (l7 (C9 B 3) (some 31) (some 0)) (l7 (C9 B 5) (l7 (C9 B 5) (some 31) (some 0)) (l7 (C9 B 7) (l7 (C9 B 7) (some 31) (some 0)) (l7 (C9 B 8) (l7 (C9 B 8) (some 31) (some 0)) (l7 (C9 B 10) (l7 (C9 B 10) (some 31) (some 0)) (l7 (C9 B 12) (some 31) (some 0)))))))))
def b1j:FQ:=⟨[L6,L6],tR 4 L6,mE 23 [(226,a7c)],sN 1 (aT (sN 1 (iZ (sN 1 (.cond H8 (aT (.join [(10,15)] ⟨[(10,bQ)],[]⟩ H8) H8))))) H8)⟩
def b3D:FSpec:=ai b1j λx=>jA x.1 x.2
def AO(A:Int):Option Ep:=l9 (xP A) λx=>l7 (G7 x) (some (0,0,0)) (l9 (dK (λ(x:I9)=>l9 (jY x.2) λb=>l7 (O9 b x.1) (l9 (jY x.2) λc=>some (.inl (X9 .i64 x.1 c,F6 .i64 x.2 1))) (some (.inr x))) (A,1900)) λy=>l9 (dK (λ(x:I9)=>l9 (jA y.2 x.2) λb=>l7 (O9 b x.1) (l9 (jA y.2 x.2) λc=>some (.inl (X9 .i64 x.1 c,F6 .i64 x.2 1))) (some (.inr x))) (y.1,1)) λy_1=>some (y.2,y_1.2,F6 .i64 y_1.1 1))
def b0O:FQ:=⟨[L6],⟨[(.tmp 2,L6),(.tmp 3,L6),(.tmp 4,L6)],[]⟩,mE 36 [(172,a6T),(201,b3C),(202,b3D)],sN 3 (aT (iZ (.loop [(0,1),(5,6),(10,20)] ⟨[(0,L6),(5,L6)],[]⟩ 0 ⟨[(0,L6),(5,L6)],[]⟩ H8)) (aT (iZ (.loop [(0,1),(6,7),(20,32)] ⟨[(0,L6),(6,L6)],[]⟩ 2 ⟨[(0,L6),(6,L6)],[]⟩ H8)) H8))⟩
def b3j:FSpec:=ai b0O λx=>AO x
def xw(A:Int)(B:Int):Option (List UInt8):=l9 (lq A) λx=>l9 (dK (λ(x:List UInt8)=>l7 (H6 (o9 x) B) (l9 (J3 [48] x) λx=>some (.inl x)) (some (.inr x))) x) λy=>some y
def b0P:FQ:=⟨[L6,L6],tR 4 (uD .str),mE 15 [(126,a4O)],sN 2 (aT (iZ (.loop [(5,6),(8,14)] ⟨[(5,(uD .str))],[]⟩ 0 ⟨[(5,(uD .str))],[]⟩ H8)) H8)⟩
def b3k:FSpec:=ai b0P λx=>xw x.1 x.2
def yI(A:Int):Option (List UInt8):=l9 (xP A) λx=>l7 (G7 x) (some []) (l9 (AO A) λx=>l9 (xw x.1 4) λb=>l9 (J3 b [45]) λc=>l9 (xw x.2.1 2) λd=>l9 (J3 c d) λf=>l9 (J3 f [45]) λg=>l9 (xw x.2.2 2) λx=>l9 (J3 g x) λx=>some x)
def b0i:FQ:=⟨[L6],tR 2 (uD .str),mE 25 [(172,a6T),(173,b3j),(174,b3k)],H8⟩
def b2I:FSpec:=ai b0i λx=>yI x
def sD(A:Ep)(B:List dL):Option (List UInt8×Int):=l9 (xx A) λx=>l9 (V8 x B) λx=>l7 (G7 x) (some ([],8)) (l9 (AQ A B) λx=>l7 (G7 x) (some ([],3)) (l7 (C9 A.1 1) (l7 (C9 A.2.2 0) (some ([102,97,108,115,101],0)) (some ([116,114,117,101],0))) (l7 (C9 A.1 2) (l9 (lq A.2.2) λx=>some (x,0)) (l7 (C9 A.1 3) (l9 (jy A.2.2 2) λx=>some (x,0)) (l7 (C9 A.1 4) (l9 (jy A.2.2 4) λx=>l9 (J3 x [37]) λx=>some (x,0)) (l7 (C9 A.1 5) (l9 (yI A.2.2) λx=>some (x,0)) (l9 (J9 B A.2.1) λx=>l9 (J9 x.2 A.2.2) λx=>some (x,0))))))))
def q83:FQ:=⟨[tD y3,uD y1],⟨[(.tmp 4,(uD .str)),(.tmp 5,L6)],[]⟩,mE 53 [(124,a6O),(123,Wl),(125,b2G),(126,a4O),(127,b2H),(128,b2I)],H8⟩
def s83:FSpec:=ai q83 λx=>sD x.1 x.2
def dD(A:Int):Option (List UInt8×Int):=l7 (C9 A 24) (some ([111,114],1)) (l7 (C9 A 23) (some ([97,110,100],2)) (l7 (C9 A 19) (some ([61,61],3)) (l7 (C9 A 20) (some ([33,61],3)) (l7 (C9 A 21) (some ([60],3)) (l7 (C9 A 22) (some ([60,61],3)) (l7 (C9 A 11) (some ([43],4)) (l7 (C9 A 12) (some ([45],4)) (l7 (C9 A 13) (some ([42],5)) (some ([],0))))))))))
def q84:FQ:=⟨[L6],⟨[(.tmp 2,(uD .str)),(.tmp 3,L6)],[]⟩,mE 23 [],H8⟩
def s84:FSpec:=ai q84 λx=>dD x
def uP(A:Int):Option (List UInt8):=l7 (C9 A 14) (some [115,104,97,114,101]) (l7 (C9 A 15) (some [100,105,118]) (l7 (C9 A 16) (some [114,111,117,110,100]) (l7 (C9 A 17) (some [109,105,110]) (l7 (C9 A 18) (some [109,97,120]) (l7 (C9 A 27) (some [112,108,117,115]) (l7 (C9 A 28) (some [109,111,110,116,104,115]) (l7 (C9 A 29) (some [100,97,121,115]) (l7 (C9 A 30) (some [121,101,97,114,115]) (l7 (C9 A 31) (some [121,101,97,114]) (l7 (C9 A 32) (some [109,111,110,116,104]) (l7 (C9 A 33) (some [116,97,98]) (l7 (C9 A 34) (some [98,97,110,100]) (l7 (C9 A 35) (some [99,111,117,110,116]) (l7 (C9 A 36) (some [115,117,109]) (l7 (C9 A 37) (some [97,108,108]) (l7 (C9 A 38) (some [97,110,121]) (l7 (C9 A 39) (some [109,111,115,116]) (some []))))))))))))))))))
def q86:FQ:=⟨[L6],tR 2 (uD .str),mE 40 [],H8⟩
def s86:FSpec:=ai q86 λx=>uP x
def MI:Option (List (List UInt8)):=some [[100,111,119,110],[117,112],[122,101,114,111],[97,119,97,121],[104,97,108,102],[101,118,101,110]]
def b0Q:FQ:=⟨[],tR 0 (uO .str),mE 2 [],H8⟩
def b3l:FSpec:=ai b0Q λx=>MI
def qj(A:Int):Option (List UInt8):=l9 MI λx=>l9 (J9 x A) λb=>l9 (dW x (df A)) λx=>some x
def b0j:FQ:=⟨[L6],tR 2 (uD .str),mE 7 [(175,b3l)],H8⟩
def b2J:FSpec:=ai b0j λx=>qj x
def a1F:List MG:=[(false,(.box (.dat y46))),L6]
def a4A:List MG:=[(false,(.box (.dat y46))),L6,L6]
def a6J:List MG:=[(false,(.box (.dat y46))),(true,(.dat y2)),(false,(.dat y29))]
def b2u:Ret:=⟨[(.tmp 4,(false,(.dat .str))),(.tmp 5,L6)],[(0,(true,(.dat y46)))]⟩
def e47 (r47:M.den (.box (.dat y46))->M.den J6->Option (V7 ([(false,(.dat .str)),L6]++[(true,(.dat y46))]))) (r85:M.den (.box (.dat y46))->M.den J6->M.den J6->Option (V7 ([(false,(.dat .str))]++[(true,(.dat y46))]))) (r87:M.den (.box (.dat y46))->M.den (.dat y2)->M.den (.dat y29)->Option (V7 ([(false,(.dat .str))]++[(true,(.dat y46))]))):Env:=⟨206,eqs,tt,gl,[(82,s82),(79,s79),(83,s83),(84,s84),(85,⟨a4A,[(false,(.dat .str))],[(true,(.dat y46))],λx=>r85 x.1 x.2.1 x.2.2⟩),(81,s81),(47,⟨a1F,[(false,(.dat .str)),L6],[(true,(.dat y46))],λx=>r47 x.1 x.2⟩),(86,s86),(87,⟨a6J,[(false,(.dat .str))],[(true,(.dat y46))],λx=>r87 x.1 x.2.1 x.2.2⟩)],[],[],[],[0],[]⟩
def b5C:Ann:=.seq H8 (.seq H8 (.seq H8 (.seq H8 (.seq H8 (.seq H8 (.seq H8 (.seq (.seq H8 (.blk (.seq H8 (.cond H8 (.seq (.join [(112,115)] ⟨[(112,bQ)],[]⟩ H8) H8))))) H8)))))))
def X7(r47:G6->Int->Option (List UInt8×Int×G6))(r85:G6->Int->Int->Option (List UInt8×G6))(r87:G6->I9->List Int->Option (List UInt8×G6))(A:G6)(B:Int):Option (List UInt8×Int×G6):=l9 (J9 A.1 B) λx=>l9 (rE A.1 B) λb=>l9 (bD x) λn=>l7 n.2 (l9 (sD n.1 []) λx=>l7 (H6 n.1.2.2 0) (some (x.1,6,A)) (some (x.1,7,A))) (l9 (dD x.1) λf=>l7 (G7 (seq f.1 [])) (l7 (C9 f.2 3) (l9 (J9 b 0) λx=>l9 (dW b (df 0)) λx=>l9 (r85 A x 4) λx=>l9 (J3 x.1 [32]) λg=>l9 (J3 g f.1) λc=>l9 (J3 c [32]) λd=>l9 (J9 b 1) λk=>l9 (dW b (df 1)) λi=>l9 (r85 x.2 i (F6 .i64 f.2 1)) λx=>l9 (J3 d x.1) λj=>some (j,f.2,x.2)) (l9 (J9 b 0) λx=>l9 (dW b (df 0)) λx=>l9 (r85 A x f.2) λx=>l9 (J3 x.1 [32]) λg=>l9 (J3 g f.1) λc=>l9 (J3 c [32]) λd=>l9 (J9 b 1) λk=>l9 (dW b (df 1)) λi=>l9 (r85 x.2 i (F6 .i64 f.2 1)) λx=>l9 (J3 d x.1) λj=>some (j,f.2,x.2))) (l7 (C9 x.1 6) (l9 (J9 A.2.1 (dZ .i64 x.2 16)) λg=>l9 (J3 g.1 [58]) λc=>l9 (J9 A.2.1 (dZ .i64 x.2 16)) λd=>l9 (J9 d.2 (jG x.2 16)) λx=>l9 (J3 c x) λx=>some (x,7,A)) (l9 (l7 (C9 x.1 7) (some (C9 x.1 7)) (some (C9 x.1 8))) λg=>l7 g (l9 (mi x A.2) λc=>l9 (J9 c x.2) λx=>some (x,7,A)) (l7 (C9 x.1 9) (some ([116,111,100,97,121],7,A)) (l7 (C9 x.1 10) (l9 (J9 b 0) λx=>l9 (dW b (df 0)) λx=>l9 (J9 A.1 x) λx=>l7 (C9 x.1 2) (l9 (J9 b 0) λx=>l9 (dW b (df 0)) λx=>l9 (r47 A x) λx=>l9 (J3 [45,40] x.1) λc=>l9 (J3 c [41]) λd=>some (d,6,x.2.2)) (l7 (C9 x.1 3) (l9 (J9 b 0) λx=>l9 (dW b (df 0)) λx=>l9 (r47 A x) λx=>l9 (J3 [45,40] x.1) λc=>l9 (J3 c [41]) λd=>some (d,6,x.2.2)) (l7 (C9 x.1 4) (l9 (J9 b 0) λx=>l9 (dW b (df 0)) λx=>l9 (r47 A x) λx=>l9 (J3 [45,40] x.1) λc=>l9 (J3 c [41]) λd=>some (d,6,x.2.2)) (l9 (J9 b 0) λx=>l9 (dW b (df 0)) λx=>l9 (r85 A x 6) λx=>l9 (J3 [45] x.1) λc=>some (c,6,x.2))))) (l7 (C9 x.1 25) (l9 (J9 b 0) λx=>l9 (dW b (df 0)) λx=>l9 (r85 A x 6) λx=>l9 (J3 [110,111,116,32] x.1) λc=>some (c,6,x.2)) (l7 (C9 x.1 26) (l9 (J9 b 0) λx=>l9 (dW b (df 0)) λx=>l9 (r85 A x 0) λx=>l9 (J3 [105,102,32] x.1) λc=>l9 (J3 c [32,116,104,101,110,32]) λd=>l9 (J9 b 1) λk=>l9 (dW b (df 1)) λi=>l9 (r85 x.2 i 0) λx=>l9 (J3 d x.1) λj=>l9 (J3 j [32,101,108,115,101,32]) λp=>l9 (J9 b 2) λu=>l9 (dW b (df 2)) λq=>l9 (r85 x.2 q 0) λx=>l9 (J3 p x.1) λt=>some (t,0,x.2)) (l9 (uP x.1) λc=>l9 (J3 c [40]) λd=>l9 (r87 A x b) λx=>l9 (J3 d x.1) λk=>l9 (J3 k [41]) λi=>some (i,7,x.2)))))))))
def b5Y:Ret:=⟨[(.tmp 6,(false,(.dat .str)))],[(0,(true,(.dat y46)))]⟩
def e85 (r47:M.den (.box (.dat y46))->M.den J6->Option (V7 ([(false,(.dat .str)),L6]++[(true,(.dat y46))]))) (r85:M.den (.box (.dat y46))->M.den J6->M.den J6->Option (V7 ([(false,(.dat .str))]++[(true,(.dat y46))]))) (r87:M.den (.box (.dat y46))->M.den (.dat y2)->M.den (.dat y29)->Option (V7 ([(false,(.dat .str))]++[(true,(.dat y46))]))):Env:=⟨22,eqs,tt,gl,[(47,⟨a1F,[(false,(.dat .str)),L6],[(true,(.dat y46))],λx=>r47 x.1 x.2⟩)],[],[],[],[0],[]⟩
def b5D:Ann:=.leaf
def nK(r47:G6->Int->Option (List UInt8×Int×G6))(r85:G6->Int->Int->Option (List UInt8×G6))(r87:G6->I9->List Int->Option (List UInt8×G6))(A:G6)(B:Int)(C:Int):Option (List UInt8×G6):=l9 (r47 A B) λx=>l7 (H6 x.2.1 C) (l9 (J3 [40] x.1) λb=>l9 (J3 b [41]) λc=>some (c,x.2.2)) (some (x.1,x.2.2))
def b5Z:Ret:=⟨[(.tmp 6,(false,(.dat .str)))],[(0,(true,(.dat y46)))]⟩
def e87 (r47:M.den (.box (.dat y46))->M.den J6->Option (V7 ([(false,(.dat .str)),L6]++[(true,(.dat y46))]))) (r85:M.den (.box (.dat y46))->M.den J6->M.den J6->Option (V7 ([(false,(.dat .str))]++[(true,(.dat y46))]))) (r87:M.den (.box (.dat y46))->M.den (.dat y2)->M.den (.dat y29)->Option (V7 ([(false,(.dat .str))]++[(true,(.dat y46))]))):Env:=⟨110,eqs,tt,gl,[(81,s81),(85,⟨a4A,[(false,(.dat .str))],[(true,(.dat y46))],λx=>r85 x.1 x.2.1 x.2.2⟩),(129,b2J)],[],[],[],[0],[]⟩
def b5E:Ann:=.seq H8 (.seq H8 (.seq (.join [(7,8),(12,28),(7000704,7000705)] ⟨[(7,(false,(.own .str)))],[]⟩ H8) (.seq (.join [(7,8),(28,49),(9000000,9000001)] ⟨[(7,(false,(.own .str)))],[]⟩ H8) (.seq (.seq H8 (.blk (.loop [(0,1),(7,9),(49,64),(1000000,1000001),(17000000,17000001)] ⟨[(0,(false,(.box (.dat y46)))),(7,(false,(.own .str))),(8,L6)],[]⟩ 0 ⟨[(0,(false,(.box (.dat y46)))),(7,(false,(.own .str)))],[]⟩ H8))) (.seq (.join [(7,8),(64,83),(31000001,31000002)] ⟨[(7,(false,(.own .str)))],[]⟩ H8) (.seq H8 (.seq H8 (.seq (.seq H8 (.blk (.loop [(9,11),(93,109)] ⟨[(9,(false,(.dat .str))),(10,L6)],[]⟩ 2 ⟨[(9,(false,(.dat .str)))],[]⟩ H8))) H8))))))))
def lu(r47:G6->Int->Option (List UInt8×Int×G6))(r85:G6->Int->Int->Option (List UInt8×G6))(r87:G6->I9->List Int->Option (List UInt8×G6))(A:G6)(B:I9)(C:List Int):Option (List UInt8×G6):=l9 (l7 (C9 B.1 34) (l9 (J9 A.2.2.1 (dZ .i64 B.2 8)) λx=>l9 (bH [] [x]) λx=>some x) (some [])) λx=>l9 (l7 (C9 B.1 33) (l9 (mi B A.2) λc=>l9 (J9 c B.2) λb=>l9 (bH x [b]) λx=>some x) (l7 (O9 36 B.1) (l9 (mi B A.2) λc=>l9 (J9 c B.2) λb=>l9 (bH x [b]) λx=>some x) (some x))) λx=>l9 (dK (λ(x:G6×List (List UInt8)×Int)=>l7 (H6 x.2.2 (o9 C)) (l9 (J9 C x.2.2) λc=>l9 (r85 x.1 c 0) λb=>l9 (bH x.2.1 [b.1]) λd=>some (.inl (b.2,d,F6 .i64 x.2.2 1))) (some (.inr (x.1,x.2.1)))) (A,x,0)) λy=>l9 (l7 (C9 B.1 14) (l9 (qj B.2) λx=>l9 (bH y.2 [x]) λx=>some x) (l7 (C9 B.1 15) (l9 (qj B.2) λx=>l9 (bH y.2 [x]) λx=>some x) (l7 (C9 B.1 16) (l9 (qj B.2) λx=>l9 (bH y.2 [x]) λx=>some x) (some y.2)))) λx=>l7 (C9 B.1 34) (l9 (qj (jG B.2 8)) λc=>l9 (bH x [c]) λx=>l9 (dK (λ(b:List UInt8×Int)=>l7 (H6 b.2 (o9 x)) (l7 (H6 0 b.2) (l9 (J3 b.1 [44,32]) λd=>l9 (J9 x b.2) λf=>l9 (dW x (df b.2)) λx=>l9 (J3 d x) λx=>some (.inl (x,F6 .i64 b.2 1))) (l9 (J9 x b.2) λd=>l9 (dW x (df b.2)) λx=>l9 (J3 b.1 x) λx=>some (.inl (x,F6 .i64 b.2 1)))) (some (.inr b.1))) ([],0)) λy_1=>some (y_1,y.1)) (l9 (dK (λ(c:List UInt8×Int)=>l7 (H6 c.2 (o9 x)) (l7 (H6 0 c.2) (l9 (J3 c.1 [44,32]) λb=>l9 (J9 x c.2) λd=>l9 (dW x (df c.2)) λx=>l9 (J3 b x) λx=>some (.inl (x,F6 .i64 c.2 1))) (l9 (J9 x c.2) λb=>l9 (dW x (df c.2)) λx=>l9 (J3 c.1 x) λx=>some (.inl (x,F6 .i64 c.2 1)))) (some (.inr c.1))) ([],0)) λy_1=>some (y_1,y.1))
def A7:Nat->(M.den (.box (.dat y46))->M.den J6->Option (V7 ([(false,(.dat .str)),L6]++[(true,(.dat y46))])))×(M.den (.box (.dat y46))->M.den J6->M.den J6->Option (V7 ([(false,(.dat .str))]++[(true,(.dat y46))])))×(M.den (.box (.dat y46))->M.den (.dat y2)->M.den (.dat y29)->Option (V7 ([(false,(.dat .str))]++[(true,(.dat y46))])))|0=>(λa0 a1=>none,λa0 a1 a2=>none,λa0 a1 a2=>none)|n+1=>(λa0 a1=>X7 (A7 n).1 (A7 n).2.1 (A7 n).2.2 a0 a1,λa0 a1 a2=>nK (A7 n).1 (A7 n).2.1 (A7 n).2.2 a0 a1 a2,λa0 a1 a2=>lu (A7 n).1 (A7 n).2.1 (A7 n).2.2 a0 a1 a2)
def uN:M.den (.box (.dat y46))->M.den J6->Option (V7 ([(false,(.dat .str)),L6]++[(true,(.dat y46))])):=λa0 a1=>(A7 fQ).1 a0 a1
def s47:FSpec:=mkS a1F b2u λx=>uN x.1 x.2
def oh(A:List I9)(B:D9):Option (List UInt8×Int):=l9 (DC A) λx=>l7 (G7 (C9 x.2 0)) (some ([],x.2)) (l9 (U0 (λ(x:Int)=>l7 (H6 x (o9 A)) (l9 (J9 A x) λc=>l9 (U9 c B) λb=>l7 (G7 (C9 b 0)) (some (.rt ([],b))) (some (.nx (F6 .i64 x 1)))) (some (.ex ()))) 0) λo=>Y0 o (λy=>l9 (uN (A,B) (X9 .i64 (o9 A) 1)) λx=>some (x.1,0)) λr=>some r)
def q22:FQ:=⟨[uD y12,tD iP],⟨[(.tmp 4,(uD .str)),(.tmp 5,L6)],[]⟩,mE 48 [(45,s45),(46,s46),(47,s47)],sN 3 (aT (sN 1 (iZ (lpR [(4,6),(7,9),(20,35)] ⟨[(8,L6)],[]⟩ 0 sgN H8))) H8)⟩
def s22:FSpec:=ai q22 λx=>oh x.1 x.2
def xR(A:Int):Option Int:=l7 (H6 A 0) (some 0) (l7 (H6 8 A) (some 8) (some A))
def q50:FQ:=⟨[L6],tR 2 L6,mE 8 [],H8⟩
def s50:FSpec:=ai q50 λx=>xR x
def Iw(A:Int):Option Int:=l9 (dK (λ(x:I9)=>l7 (H6 x.2 A) (some (.inl (Dk .i64 x.1 2,F6 .i64 x.2 1))) (some (.inr x.1))) (1,0)) λy=>some y
def q49:FQ:=⟨[L6],tR 2 L6,mE 13 [],sN 2 (aT (sN 1 (iZ (.loop [(3,12)] ⟨[(3,L6),(4,L6)],[]⟩ 0 ⟨[(3,L6)],[]⟩ H8))) H8)⟩
def s49:FSpec:=ai q49 λx=>Iw x
def xQ(A:I9)(B:Int):Option Bool:=l7 (O9 0 A.1) (l9 (xR B) λx=>l9 (Iw x) λx=>l7 (H6 A.1 x) (l7 (O9 0 A.2) (some (C9 (wX .i64 A.2 A.1) A.2)) (some false)) (some false)) (some false)
def q24:FQ:=⟨[tD y2,L6],tR 4 bQ,mE 31 [(50,s50),(49,s49)],H8⟩
def s24:FSpec:=ai q24 λx=>xQ x.1 x.2
def yL(A:I9)(B:Int):Option (List UInt8):=l9 (dK (λ(x:jh)=>l9 (xR B) λc=>l7 (H6 x.2.2 c) (l7 (G7 (C9 (wX .i64 A.1 x.2.1) 0)) (l7 (G7 (C9 (wX .i64 A.2 x.2.1) 0)) (l9 (J3 [49] x.1) λb=>some (.inl (b,Dk .i64 x.2.1 2,F6 .i64 x.2.2 1))) (l9 (J3 [48] x.1) λb=>some (.inl (b,Dk .i64 x.2.1 2,F6 .i64 x.2.2 1)))) (l9 (J3 [45] x.1) λb=>some (.inl (b,Dk .i64 x.2.1 2,F6 .i64 x.2.2 1)))) (some (.inr x.1))) ([],1,0)) λy=>some y
def q51:FQ:=⟨[tD y2,L6],tR 4 (uD .str),mE 31 [(50,s50)],sN 3 (aT (sN 1 (iZ (.loop [(5,30)] ⟨[(5,(uD .str)),(6,L6),(7,L6)],[]⟩ 0 ⟨[(5,(uD .str))],[]⟩ H8))) H8)⟩
def s51:FSpec:=ai q51 λx=>yL x.1 x.2
def kE(A:I9)(B:Int):Option (List UInt8):=l7 (C9 B 0) (some [46]) (l9 (yL A B) λx=>some x)
def q25:FQ:=⟨[tD y2,L6],tR 4 (uD .str),mE 10 [(51,s51)],H8⟩
def s25:FSpec:=ai q25 λx=>kE x.1 x.2
def fA(A:P5)(B:Int):Option (List UInt8):=l7 (C9 B (-1)) (some [110,111,110,101]) (l7 (C9 B (-2)) (some [99,111,110,102,108,105,99,116]) (l9 (J9 A.2.2.2.2 B) λx=>l9 (J3 [114,117,108,101,32] x.1) λx=>some x))
def q26:FQ:=⟨[tD y24,L6],tR 4 (uD .str),mE 16 [],H8⟩
def s26:FSpec:=ai q26 λx=>fA x.1 x.2
def yM(A:dJ)(B:Int)(C:X5):Option (List UInt8×Int):=l9 (DD A B) λx=>l7 (G7 (C9 x.2 0)) (some ([],x.2)) (l9 (l7 (H6 C.1 0) (some (.inr ([],6))) (l7 (O9 (o9 x.1.2.2.2.1) C.1) (some (.inr ([],6))) (some (.inl ())))) λo=>Y0 o (λt=>l7 (H6 8 (o9 C.2.1)) (some ([],4)) (l7 (G7 (C9 (o9 C.2.2.1) (o9 C.2.1))) (some ([],2)) (l9 (J9 x.1.2.2.2.1 C.1) λn=>l9 (J3 [100,101,99,105,115,105,111,110,32] n.1) λp=>l9 (J3 p [10]) λq=>l9 (U0 (λ(b:List UInt8×Int)=>l7 (H6 b.2 (o9 C.2.1)) (l9 (J9 C.2.2.1 b.2) λc=>l9 (rH x.1 c) λk=>l7 (G7 k) (some (.rt ([],6))) (l9 (J9 C.2.1 b.2) λg=>l9 (jB A B) λi=>l9 (oh g i) λd=>l7 (G7 (C9 d.2 0)) (some (.rt ([],d.2))) (l9 (J3 b.1 [119,104,101,110,32]) λf=>l9 (J9 C.2.2.1 b.2) λj=>l9 (J9 x.1.2.2.2.2 j) λx=>l9 (J3 f x.1) λx=>l9 (J3 x [32]) λx=>l9 (J3 x d.1) λx=>l9 (J3 x [10]) λx=>some (.nx (x,F6 .i64 b.2 1))))) (some (.ex b.1))) (q,0)) λo=>Y0 o (λ(y:List UInt8)=>l9 (U0 (λ(b:List UInt8×Int)=>l7 (H6 b.2 (o9 C.2.2.2)) (l9 (J9 C.2.2.2 b.2) λc=>l9 (xQ c.1 (o9 C.2.1)) λk=>l7 (G7 k) (some (.rt ([],3))) (l7 (G7 (C9 c.2 (-1))) (l7 (G7 (C9 c.2 (-2))) (l9 (rH x.1 c.2) λg=>l7 (G7 g) (some (.rt ([],6))) (l9 (J3 b.1 [114,111,119,32]) λi=>l9 (kE c.1 (o9 C.2.1)) λd=>l9 (J3 i d) λf=>l9 (J3 f [32]) λj=>l9 (fA x.1 c.2) λx=>l9 (J3 j x) λx=>l9 (J3 x [10]) λx=>some (.nx (x,F6 .i64 b.2 1)))) (l9 (J3 b.1 [114,111,119,32]) λg=>l9 (kE c.1 (o9 C.2.1)) λi=>l9 (J3 g i) λd=>l9 (J3 d [32]) λf=>l9 (fA x.1 c.2) λx=>l9 (J3 f x) λx=>l9 (J3 x [10]) λx=>some (.nx (x,F6 .i64 b.2 1)))) (l9 (J3 b.1 [114,111,119,32]) λg=>l9 (kE c.1 (o9 C.2.1)) λi=>l9 (J3 g i) λd=>l9 (J3 d [32]) λf=>l9 (fA x.1 c.2) λx=>l9 (J3 f x) λx=>l9 (J3 x [10]) λx=>some (.nx (x,F6 .i64 b.2 1))))) (some (.ex b.1))) (y,0)) λo=>Y0 o (λ(y:List UInt8)=>l7 (H6 65536 (o9 y)) (some ([],4)) (some (y,0))) λr=>some r) λr=>some r))) λr=>some r)
def q8:FQ:=⟨[tD y27,L6,tD y34],⟨[(.tmp 6,(uD .str)),(.tmp 7,L6)],[]⟩,mE 151 [(20,s20),(21,s21),(23,s23),(22,s22),(24,s24),(25,s25),(26,s26)],sN 4 (aT (jnR [(6,8),(29,40)] sgN H8) (sN 3 (aT (sN 1 (iZ (lpR [(6,8),(11,15),(56,101)] ⟨[(11,(uD .str)),(12,L6)],[]⟩ 0 ⟨[(11,(uD .str))],[]⟩ H8))) (aT (sN 1 (iZ (lpR [(6,8),(11,12),(15,17),(101,147)] ⟨[(11,(uD .str)),(15,L6)],[]⟩ 2 ⟨[(11,(uD .str))],[]⟩ H8))) H8))))⟩
def s8:FSpec:=ai q8 λx=>yM x.1 x.2.1 x.2.2
def ps3:List MG:=[(true,(.dat y27)),L6,(true,(.dat y34))]
def oH(A:dJ)(B:Int)(C:X5):Option Bool:=l9 (xH A) λx=>l7 (G7 x) (l9 xM λx=>some x) (l9 (AV C) λx=>l7 (G7 x) (l9 xM λx=>some x) (l9 (lC A B C) λx=>l9 (yM A B C) λb=>l7 (seq x.1 b.1) (l7 (C9 x.2 b.2) (l9 xM λx=>some x) (some false)) (some false)))
def q3:FQ:=⟨ps3,tR 6 bQ,mE 45 [(4,s4),(5,s5),(6,s6),(7,s7),(8,s8)],H8⟩
def s3:FSpec:=ai q3 λx=>oH x.1 x.2.1 x.2.2
abbrev b6i:Ty:=y27
end
end Gt
