import Derived.Test.YtojgelgdjaaopaaGreatDoorT1
set_option linter.all false
open Go Go.GP
namespace Gt
set_option maxRecDepth 100000
noncomputable section
def OU(f:Func):Code:=match f.body with|some c=>c|none=> .skip
abbrev mkS(ps:List MG)(rt:Ret)(F:V8 ps->Option rt.den):FSpec:=⟨ps,rt.rs.map (·.2),rt.outs.map (·.2),F⟩
structure FQ where
 (ps:List MG)
 (rt:Ret)
 (E:Env)
 (an:Ann)
abbrev ae(q:FQ)(F:V8 q.ps->Option q.rt.den):FSpec:=mkS q.ps q.rt F
abbrev jnR:=Ann.joinR
abbrev lpR:=Ann.loopR
abbrev aO:=Ann.seq
abbrev iR:=Ann.blk
abbrev sgN:Sig:=⟨[],[]⟩
def sN:Nat->Ann->Ann
 |0,a=>a|n+1,a=> .seq .leaf (sN n a)
abbrev uO(t:Ty):MG:=(false,.own t)
abbrev uD(t:Ty):MG:=(false,.dat t)
abbrev tD(t:Ty):MG:=(true,.dat t)
abbrev pA:=M.pair
abbrev oW:=M.own
abbrev dT:=M.dat
abbrev H9:Ann:=.leaf
abbrev J8:M:=.dat (.int .i64)
abbrev oiM:M:=.own (.int .i64)
abbrev dbM:M:=.dat .bool
abbrev N7:MG:=(false,J8)
abbrev bW:MG:=(false,dbM)
abbrev uoM:MG:=(false,oiM)
abbrev y0:Ty:=.prod .str (.sl .str)
abbrev y1:Ty:=.sl y0
abbrev y2:Ty:=.prod (.int .i64) (.int .i64)
abbrev y3:Ty:=.prod (.int .i64) y2
abbrev y4:Ty:=.prod y2 y3
abbrev y5:Ty:=.sl y4
abbrev y6:Ty:=.prod y2 y5
abbrev y7:Ty:=.prod y2 y6
abbrev y8:Ty:=.prod .str y7
abbrev y9:Ty:=.sl y8
abbrev y10:Ty:=.prod .str y2
abbrev y11:Ty:=.sl y10
abbrev y12:Ty:=.sl y2
abbrev y13:Ty:=.prod y12 .str
abbrev y14:Ty:=.prod y12 y13
abbrev y15:Ty:=.prod y2 y14
abbrev y16:Ty:=.prod (.int .i64) y15
abbrev y17:Ty:=.prod (.int .i64) y16
abbrev y18:Ty:=.prod (.int .i64) y17
abbrev y19:Ty:=.prod .str y18
abbrev y20:Ty:=.sl y19
abbrev y21:Ty:=.prod y11 y20
abbrev y22:Ty:=.prod y11 y21
abbrev y23:Ty:=.prod (.int .i64) y22
abbrev y24:Ty:=.prod .str y23
abbrev y25:Ty:=.sl y24
abbrev y26:Ty:=.prod y9 y25
abbrev y27:Ty:=.prod y1 y26
abbrev y28:Ty:=.sl y12
abbrev y29:Ty:=.sl (.int .i64)
abbrev y30:Ty:=.prod y2 (.int .i64)
abbrev y31:Ty:=.sl y30
abbrev y32:Ty:=.prod y29 y31
abbrev y33:Ty:=.prod y28 y32
abbrev y34:Ty:=.prod (.int .i64) y33
abbrev y35:Ty:=.prod (.int .i64) y3
abbrev y36:Ty:=.sl (.int .u8)
abbrev y37:Ty:=.prod (.sl .str) (.sl .str)
abbrev y38:Ty:=.prod (.sl .str) y37
abbrev y39:Ty:=.prod (.sl .str) y38
abbrev ja:Ty:=.prod y1 y39
abbrev y41:Ty:=.prod ja y34
abbrev y42:Ty:=.prod y24 y41
abbrev y43:Ty:=.prod (.int .i64) .bool
abbrev y44:Ty:=.prod .str y43
abbrev y45:Ty:=.sl y44
abbrev y46:Ty:=.prod y12 ja
abbrev y47:Ty:=.prod y12 .bool
abbrev y48:Ty:=.prod y12 y47
abbrev y49:Ty:=.prod y12 y48
abbrev y50:Ty:=.prod y9 y49
abbrev y51:Ty:=.prod y1 y50
abbrev y52:Ty:=.prod (.int .i64) y10
abbrev lF:Ty:=.sl y52
abbrev y54:Ty:=.prod y12 y2
abbrev y55:Ty:=.prod ja y54
abbrev y56:Ty:=.prod (.int .i64) y55
abbrev y57:Ty:=.prod (.int .i64) y56
abbrev y58:Ty:=.prod lF y57
abbrev y59:Ty:=.sl y29
def tt:List (Nat×TI):=[(3,⟨1,8,(.int .i64),some (.int .i64),[.i .i64 0]⟩),(4,⟨1,1,.bool,some .bool,[.b false]⟩),(5,⟨1,1,(.int .u8),some (.int .u8),[.i .u8 0]⟩),(9,⟨1,16,.str,some .str,[.s []]⟩),(21,⟨1,4,(.int .i32),some (.int .i32),[.i .i32 0]⟩),(22,⟨1,24,(.sl 41),some y1,[.nl]⟩),(23,⟨1,24,(.sl 46),some y9,[.nl]⟩),(24,⟨1,24,(.sl 50),some y25,[.nl]⟩),(26,⟨3,72,(.struct [(22,0),(23,1),(24,2)]),some y27,[.nl,.nl,.nl]⟩),(27,⟨1,24,(.sl 52),some y28,[.nl]⟩),(28,⟨1,24,(.sl 3),some y29,[.nl]⟩),(29,⟨1,24,(.sl 59),some y31,[.nl]⟩),(31,⟨4,80,(.struct [(3,0),(27,1),(28,2),(29,3)]),some y34,[.i .i64 0,.nl,.nl,.nl]⟩),(35,⟨1,8,(.int .i64),some (.int .i64),[.i .i64 0]⟩),(39,⟨1,24,(.sl 9),some (.sl .str),[.nl]⟩),(41,⟨2,40,(.struct [(9,0),(39,1)]),some y0,[.s [],.nl]⟩),(43,⟨2,16,(.struct [(3,0),(3,1)]),some y2,[.i .i64 0,.i .i64 0]⟩),(44,⟨1,24,(.sl 166),some y5,[.nl]⟩),(46,⟨6,72,(.struct [(9,0),(43,1),(43,3),(44,5)]),some y8,[.s [],.i .i64 0,.i .i64 0,.i .i64 0,.i .i64 0,.nl]⟩),(47,⟨1,24,(.sl 75),some y11,[.nl]⟩),(48,⟨1,24,(.sl 83),some y20,[.nl]⟩),(50,⟨5,96,(.struct [(9,0),(3,1),(47,2),(47,3),(48,4)]),some y24,[.s [],.i .i64 0,.nl,.nl,.nl]⟩),(52,⟨1,24,(.sl 55),some y12,[.nl]⟩),(55,⟨2,16,(.struct [(3,0),(3,1)]),some y2,[.i .i64 0,.i .i64 0]⟩),(57,⟨2,16,(.struct [(3,0),(3,1)]),some y2,[.i .i64 0,.i .i64 0]⟩),(59,⟨3,24,(.struct [(57,0),(3,2)]),some y30,[.i .i64 0,.i .i64 0,.i .i64 0]⟩),(64,⟨4,32,(.struct [(35,0),(3,1),(3,2),(3,3)]),some y35,[.i .i64 0,.i .i64 0,.i .i64 0,.i .i64 0]⟩),(66,⟨1,8,(.ptr 69),none,[]⟩),(67,⟨1,24,(.sl 5),some y36,[.nl]⟩),(69,⟨2,32,(.struct [(66,0),(67,1)]),none,[.npt,.nl]⟩),(75,⟨3,32,(.struct [(9,0),(43,1)]),some y10,[.s [],.i .i64 0,.i .i64 0]⟩),(77,⟨5,120,(.struct [(22,0),(39,1),(39,2),(39,3),(39,4)]),some ja,[.nl,.nl,.nl,.nl,.nl]⟩),(81,⟨2,16,(.struct [(3,0),(3,1)]),some y2,[.i .i64 0,.i .i64 0]⟩),(83,⟨9,120,(.struct [(9,0),(3,1),(3,2),(3,3),(81,4),(52,6),(52,7),(9,8)]),some y19,[.s [],.i .i64 0,.i .i64 0,.i .i64 0,.i .i64 0,.i .i64 0,.nl,.nl,.s []]⟩),(96,⟨14,296,(.struct [(50,0),(77,5),(31,10)]),some y42,[.s [],.i .i64 0,.nl,.nl,.nl,.nl,.nl,.nl,.nl,.nl,.i .i64 0,.nl,.nl,.nl]⟩),(105,⟨1,24,(.sl 109),some y45,[.nl]⟩),(109,⟨3,32,(.struct [(9,0),(3,1),(4,2)]),some y44,[.s [],.i .i64 0,.b false]⟩),(116,⟨6,144,(.struct [(52,0),(77,1)]),some y46,[.nl,.nl,.nl,.nl,.nl,.nl]⟩),(145,⟨3,24,(.struct [(3,0),(3,1),(3,2)]),some y3,[.i .i64 0,.i .i64 0,.i .i64 0]⟩),(166,⟨5,40,(.struct [(81,0),(3,2),(3,3),(3,4)]),some y4,[.i .i64 0,.i .i64 0,.i .i64 0,.i .i64 0,.i .i64 0]⟩),(179,⟨1,24,(.sl 43),some y12,[.nl]⟩),(181,⟨6,128,(.struct [(22,0),(23,1),(179,2),(179,3),(179,4),(4,5)]),some y51,[.nl,.nl,.nl,.nl,.nl,.b false]⟩),(191,⟨1,24,(.sl 226),some lF,[.nl]⟩),(195,⟨11,200,(.struct [(191,0),(3,1),(3,2),(77,3),(52,8),(3,9),(35,10)]),some y58,[.nl,.i .i64 0,.i .i64 0,.nl,.nl,.nl,.nl,.nl,.nl,.i .i64 0,.i .i64 0]⟩),(212,⟨1,24,(.sl 28),some y59,[.nl]⟩),(220,⟨1,8,(.int .u64),some (.int .u64),[.i .u64 0]⟩),(226,⟨4,40,(.struct [(3,0),(9,1),(3,2),(3,3)]),some y52,[.i .i64 0,.s [],.i .i64 0,.i .i64 0]⟩),(236,⟨1,24,(.sl 4),some (.sl .bool),[.nl]⟩),(271,⟨12,96,(.arr 12 3),none,[.i .i64 0,.i .i64 0,.i .i64 0,.i .i64 0,.i .i64 0,.i .i64 0,.i .i64 0,.i .i64 0,.i .i64 0,.i .i64 0,.i .i64 0,.i .i64 0]⟩)]
def eqs:List (Nat×List Ty):=[(43,[(.int .i64),(.int .i64)]),(55,[(.int .i64),(.int .i64)]),(59,[(.int .i64),(.int .i64),(.int .i64)]),(64,[(.int .i64),(.int .i64),(.int .i64),(.int .i64)])]
def gl:List (Nat×(t:Ty)×List t.den):=[(1,⟨.int .i64,[31,28,31,30,31,30,31,31,30,31,30,31]⟩),(2,⟨.int .u64,[1,10,100,1000,10000,100000,1000000,10000000,100000000,1000000000,10000000000,100000000000,1000000000000,10000000000000,100000000000000,1000000000000000,10000000000000000,100000000000000000,1000000000000000000,10000000000000000000]⟩)]
abbrev mE(n:Nat)(fs:List (Nat×FSpec)):Env:=⟨n,eqs,tt,gl,fs,[],[],[],[],[]⟩
abbrev tR(n:Nat)(m:MG):Ret:=⟨[(.tmp n,m)],[]⟩
abbrev cR(n k:Nat)(m:MG):Ret:=⟨[(.cell n k,m)],[]⟩
abbrev J4:Type:=Ty.den y2
abbrev dM:Type:=Ty.den y0
abbrev aA:Type:=Ty.den y30
abbrev jw:Type:=Ty.den y10
abbrev H5:Type:=Ty.den y44
abbrev ES:Type:=Ty.den y3
abbrev X0:Type:=Ty.den y35
abbrev EL:Type:=Ty.den y4
abbrev ui:Type:=Ty.den y52
abbrev D9:Type:=Ty.den ja
abbrev X6:Type:=Ty.den y34
abbrev G6:Type:=Ty.den y46
abbrev kQ:Type:=Ty.den y8
abbrev gp:Type:=Ty.den y19
abbrev D5:Type:=Ty.den y58
abbrev O0:Type:=Ty.den y51
abbrev J3:Type:=Ty.den y24
abbrev ah:Type:=Ty.den y42
abbrev dL:Type:=Ty.den y27
def uQ(A:J3):Option Bool:=l9 (l7 (H6 80 (o9 A.1)) (some (.inr false)) (l7 (H6 14 (o9 A.2.2.1)) (some (.inr false)) (l7 (H6 14 (o9 A.2.2.2.1)) (some (.inr false)) (l7 (H6 60 (o9 A.2.2.2.2)) (some (.inr false)) (some (.inl ())))))) λo=>X9 o (λx=>l9 (U2 (λ(x:Int)=>l7 (H6 x (o9 A.2.2.1)) (l9 (L6 A.2.2.1 x) λb=>l7 (H6 80 (o9 b.1)) (some (.rt false)) (some (.nx (F6 .i64 x 1)))) (some (.ex ()))) 0) λo=>X9 o (λy=>l9 (U2 (λ(x:Int)=>l7 (H6 x (o9 A.2.2.2.1)) (l9 (L6 A.2.2.2.1 x) λb=>l7 (H6 80 (o9 b.1)) (some (.rt false)) (some (.nx (F6 .i64 x 1)))) (some (.ex ()))) 0) λo=>X9 o (λy=>l9 (U2 (λ(x:Int)=>l7 (H6 x (o9 A.2.2.2.2)) (l9 (L6 A.2.2.2.2 x) λb=>l7 (H6 80 (o9 b.1)) (some (.rt false)) (l7 (H6 80 (o9 b.2.2.2.2.2.2.2)) (some (.rt false)) (l7 (H6 50 (o9 b.2.2.2.2.2.1)) (some (.rt false)) (l7 (H6 50 (o9 b.2.2.2.2.2.2.1)) (some (.rt false)) (some (.nx (F6 .i64 x 1))))))) (some (.ex ()))) 0) λo=>X9 o (λy=>some true) λr=>some r) λr=>some r) λr=>some r) λr=>some r
def q9:FQ:=⟨[tD y24],tR 2 bW,mE 93 [],sN 1 (aO (jnR [(2,3),(7,29)] sgN H9) (aO (sN 1 (iR (lpR [(2,4),(29,44)] ⟨[(3,N7)],[]⟩ 0 sgN H9))) (aO (sN 1 (iR (lpR [(2,3),(4,5),(44,59)] ⟨[(4,N7)],[]⟩ 2 sgN H9))) (aO (sN 1 (iR (lpR [(2,3),(5,7),(59,93)] ⟨[(5,N7)],[]⟩ 4 sgN H9))) H9))))⟩
def s9:FSpec:=ae q9 λx=>uQ x
def xY(A:dL):Option Bool:=l9 (l7 (H6 9 (o9 A.1)) (some (.inr false)) (l7 (H6 9 (o9 A.2.1)) (some (.inr false)) (l7 (H6 5 (o9 A.2.2)) (some (.inr false)) (some (.inl ()))))) λo=>X9 o (λx=>l9 (U2 (λ(x:Int)=>l7 (H6 x (o9 A.1)) (l9 (L6 A.1 x) λb=>l7 (H6 80 (o9 b.1)) (some (.rt false)) (l9 (L6 A.1 x) λc=>l7 (H6 20 (o9 c.2)) (some (.rt false)) (l9 (U2 (λ(d:Int)=>l9 (L6 A.1 x) λf=>l7 (H6 d (o9 f.2)) (l9 (L6 A.1 x) λx=>l9 (L6 x.2 d) λx=>l7 (H6 80 (o9 x)) (some (.rt false)) (some (.nx (F6 .i64 d 1)))) (some (.ex ()))) 0) λo=>X9 o (λy=>some (.nx (F6 .i64 x 1))) λr=>some (.rt r)))) (some (.ex ()))) 0) λo=>X9 o (λy=>l9 (U2 (λ(x:J4)=>l7 (H6 x.2 (o9 A.2.1)) (l9 (L6 A.2.1 x.2) λb=>l9 (L6 A.2.1 x.2) λc=>l7 (H6 80 (o9 c.1)) (some (.rt false)) (l7 (H6 150 (F6 .i64 x.1 (o9 b.2.2.2))) (some (.rt false)) (some (.nx (F6 .i64 x.1 (o9 b.2.2.2),F6 .i64 x.2 1))))) (some (.ex ()))) (0,0)) λo=>X9 o (λy=>l9 (U2 (λ(x:J4)=>l7 (H6 x.2 (o9 A.2.2)) (l9 (L6 A.2.2 x.2) λb=>l7 (H6 60 (F6 .i64 x.1 (o9 b.2.2.2.2))) (some (.rt false)) (l9 (L6 A.2.2 x.2) λc=>l9 (uQ c) λd=>l7 (G8 d) (some (.rt false)) (some (.nx (F6 .i64 x.1 (o9 b.2.2.2.2),F6 .i64 x.2 1))))) (some (.ex ()))) (0,0)) λo=>X9 o (λy=>some true) λr=>some r) λr=>some r) λr=>some r) λr=>some r
def q4:FQ:=⟨[tD y27],tR 2 bW,mE 127 [(9,s9)],sN 1 (aO (jnR [(2,3),(9,25)] sgN H9) (sN 2 (aO (sN 1 (iR (lpR [(2,3),(5,7),(25,72)] ⟨[(5,N7)],[]⟩ 0 sgN (sN 1 (aO (iR (sN 2 (iR (lpR [(2,3),(6,7),(50,72)] ⟨[(6,N7)],[]⟩ 2 sgN H9)))) H9))))) (aO (sN 1 (iR (lpR [(2,4),(7,8),(72,100)] ⟨[(3,N7),(7,N7)],[]⟩ 4 sgN H9))) (aO (sN 1 (iR (lpR [(2,3),(4,5),(8,9),(100,127)] ⟨[(4,N7),(8,N7)],[]⟩ 6 sgN H9))) H9)))))⟩
def s4:FSpec:=ae q4 λx=>xY x
def BC(A:X6):Option Bool:=l9 (l7 (H6 10 (o9 A.2.1)) (some (.inr false)) (l7 (H6 20 (o9 A.2.2.1)) (some (.inr false)) (l7 (H6 60 (o9 A.2.2.2)) (some (.inr false)) (some (.inl ()))))) λo=>X9 o (λx=>l9 (U2 (λ(x:Int)=>l7 (H6 x (o9 A.2.1)) (l9 (L6 A.2.1 x) λb=>l7 (H6 60 (o9 b)) (some (.rt false)) (some (.nx (F6 .i64 x 1)))) (some (.ex ()))) 0) λo=>X9 o (λy=>some true) λr=>some r) λr=>some r
def q5:FQ:=⟨[tD y34],tR 2 bW,mE 34 [],sN 1 (aO (jnR [(2,3),(4,20)] sgN H9) (aO (sN 1 (iR (lpR [(2,4),(20,34)] ⟨[(3,N7)],[]⟩ 0 sgN H9))) H9))⟩
def s5:FSpec:=ae q5 λx=>BC x
def KE(A:List J4):Option dL:=some ([],[],[([104,111,117,115,101],-1,[([97],3,0)],[([100],3,0)],[([98,97,115,101],0,-1,0,(0,109573),[],A,[])])])
def q10:FQ:=⟨[uD y12],⟨[(.cell 2 26,(true,(pA (dT y1) (pA (dT y9) (.owns (pA (dT .str) (pA J8 (pA (dT y11) (pA (dT y11) (oW y19))))))))))],[]⟩,⟨22,eqs,tt,gl,[],[(24,(pA (dT .str) (pA J8 (pA (dT y11) (pA (dT y11) (oW y19))))))],[],[],[],[]⟩,H9⟩
def s10:FSpec:=ae q10 λx=>KE x
def mV(A:Int):Option Bool:=l7 (P7 97 A) (some (P7 A 122)) (some false)
def b0C:FQ:=⟨[(false,(dT (.int .u8)))],tR 2 bW,mE 9 [],H9⟩
def a3c:FSpec:=ae b0C λx=>mV x
def kN(A:Int):Option Bool:=l7 (P7 48 A) (some (P7 A 57)) (some false)
def b1d:FQ:=⟨[(false,(dT (.int .u8)))],tR 2 bW,mE 9 [],H9⟩
def a3g:FSpec:=ae b1d λx=>kN x
def pW(A:List UInt8):Option Int:=l9 (dV (λ(x:Int)=>l7 (H6 x (o9 A)) (l9 (sat A x) λb=>l9 (mV b) λc=>l7 c (some (.inl (F6 .i64 x 1))) (l9 (sat A x) λd=>l9 (kN d) λf=>l7 f (some (.inl (F6 .i64 x 1))) (l9 (sat A x) λg=>l7 (C9 g 95) (some (.inl (F6 .i64 x 1))) (some (.inr x))))) (some (.inr x))) 0) λy=>some y
def b0D:FQ:=⟨[uD .str],tR 2 N7,mE 29 [(101,a3c),(138,a3g)],sN 2 (aO (iR (.loop [(3,28)] ⟨[(3,N7)],[]⟩ 0 ⟨[(3,N7)],[]⟩ H9)) H9)⟩
def a7t:FSpec:=ae b0D λx=>pW x
def wI(A:List UInt8):Option Bool:=l9 (l7 (seq A [105,102]) (some (seq A [105,102])) (l7 (seq A [116,104,101,110]) (some (seq A [116,104,101,110])) (l7 (seq A [101,108,115,101]) (some (seq A [101,108,115,101])) (l7 (seq A [111,114]) (some (seq A [111,114])) (l7 (seq A [97,110,100]) (some (seq A [97,110,100])) (l7 (seq A [110,111,116]) (some (seq A [110,111,116])) (l7 (seq A [116,114,117,101]) (some (seq A [116,114,117,101])) (l7 (seq A [102,97,108,115,101]) (some (seq A [102,97,108,115,101])) (l7 (seq A [116,111,100,97,121]) (some (seq A [116,111,100,97,121])) (l7 (seq A [115,104,97,114,101]) (some (seq A [115,104,97,114,101])) (l7 (seq A [100,105,118]) (some (seq A [100,105,118])) (l7 (seq A [114,111,117,110,100]) (some (seq A [114,111,117,110,100])) (l7 (seq A [109,105,110]) (some (seq A [109,105,110])) (l7 (seq A [109,97,120]) (some (seq A [109,97,120])) (l7 (seq A [112,108,117,115]) (some (seq A [112,108,117,115])) (l7 (seq A [109,111,110,116,104,115]) (some (seq A [109,111,110,116,104,115])) (l7 (seq A [100,97,121,115]) (some (seq A [100,97,121,115])) (l7 (seq A [121,101,97,114,115]) (some (seq A [121,101,97,114,115])) (l7 (seq A [121,101,97,114]) (some (seq A [121,101,97,114])) (l7 (seq A [109,111,110,116,104]) (some (seq A [109,111,110,116,104])) (l7 (seq A [116,97,98]) (some (seq A [116,97,98])) (l7 (seq A [98,97,110,100]) (some (seq A [98,97,110,100])) (l7 (seq A [99,111,117,110,116]) (some (seq A [99,111,117,110,116])) (l7 (seq A [115,117,109]) (some (seq A [115,117,109])) (l7 (seq A [97,108,108]) (some (seq A [97,108,108])) (l7 (seq A [97,110,121]) (some (seq A [97,110,121])) (l7 (seq A [109,111,115,116]) (some (seq A [109,111,115,116])) (l7 (seq A [101,110,117,109]) (some (seq A [101,110,117,109])) (l7 (seq A [116,97,98,108,101]) (some (seq A [116,97,98,108,101])) (l7 (seq A [114,111,119]) (some (seq A [114,111,119])) (l7 (seq A [115,99,111,112,101]) (some (seq A [115,99,111,112,101])) (l7 (seq A [109,101,109,98,101,114,115]) (some (seq A [109,101,109,98,101,114,115])) (l7 (seq A [105,110,112,117,116]) (some (seq A [105,110,112,117,116])) (l7 (seq A [100,101,102]) (some (seq A [100,101,102])) (l7 (seq A [114,117,108,101]) (some (seq A [114,117,108,101])) (l7 (seq A [111,102]) (some (seq A [111,102])) (l7 (seq A [111,118,101,114]) (some (seq A [111,118,101,114])) (l7 (seq A [112,114,105,111]) (some (seq A [112,114,105,111])) (l7 (seq A [102,114,111,109]) (some (seq A [102,114,111,109])) (l7 (seq A [116,111]) (some (seq A [116,111])) (l7 (seq A [101,110,100]) (some (seq A [101,110,100])) (l7 (seq A [119,104,101,110]) (some (seq A [119,104,101,110])) (l7 (seq A [105,115]) (some (seq A [105,115])) (l7 (seq A [115,114,99]) (some (seq A [115,114,99])) (l7 (seq A [98,111,111,108]) (some (seq A [98,111,111,108])) (l7 (seq A [105,110,116]) (some (seq A [105,110,116])) (l7 (seq A [109,111,110,101,121]) (some (seq A [109,111,110,101,121])) (l7 (seq A [114,97,116,101]) (some (seq A [114,97,116,101])) (l7 (seq A [100,97,116,101]) (some (seq A [100,97,116,101])) (l7 (seq A [100,111,119,110]) (some (seq A [100,111,119,110])) (l7 (seq A [117,112]) (some (seq A [117,112])) (l7 (seq A [122,101,114,111]) (some (seq A [122,101,114,111])) (l7 (seq A [97,119,97,121]) (some (seq A [97,119,97,121])) (l7 (seq A [104,97,108,102]) (some (seq A [104,97,108,102])) (some (seq A [101,118,101,110])))))))))))))))))))))))))))))))))))))))))))))))))))))))) λx=>l7 x (some true) (some false)
def b0E:FQ:=⟨[uD .str],tR 2 bW,mE 60 [],sN 1 (aO (sN 1 (iR (aO (.join [(4,60)] ⟨[(4,bW)],[]⟩ H9) H9))) H9)⟩
def b3o:FSpec:=ae b0E λx=>wI x
def bT(A:List UInt8):Option Bool:=l7 (G8 (seq A [])) (l9 (sat A 0) λx=>l9 (mV x) λx=>l7 x (l9 (pW A) λx=>l7 (C9 x (o9 A)) (l7 (P7 (o9 A) 16) (l9 (wI A) λx=>some (G8 x)) (some false)) (some false)) (some false)) (some false)
def q59:FQ:=⟨[uD .str],tR 2 bW,mE 27 [(101,a3c),(102,a7t),(103,b3o)],H9⟩
def s59:FSpec:=ae q59 λx=>bT x
def Cb(A:dM)(B:List UInt8):Option Bool:=some (seq A.1 B)
def a2v:FQ:=⟨[tD y0,(false,(.rp .str))],tR 3 bW,mE 8 [],H9⟩
def YQ:FSpec:=ae a2v λx=>Cb x.1 x.2
def jf(A:List dM)(B:List UInt8):Option Int:=l9 (U2 (λ(x:Int)=>l7 (H6 x (o9 A)) (l9 (L6 A x) λb=>l9 (Cb b B) λc=>l7 c (some (.rt x)) (some (.nx (F6 .i64 x 1)))) (some (.ex ()))) 0) λo=>X9 o (λy=>some (-1)) λr=>some r
def a2A:FQ:=⟨[uD y1,(false,(.fn 105 [.str]))],tR 4 N7,mE 19 [(105,YQ)],sN 1 (aO (sN 1 (iR (lpR [(4,6),(8,19)] ⟨[(8,N7)],[]⟩ 0 sgN H9))) H9)⟩
def a3h:FSpec:=ae a2A λx=>jf x.1 x.2
def iF(A:List dM)(B:List UInt8):Option Bool:=l9 (jf A B) λx=>some (P7 0 x)
def a2u:FQ:=⟨[uD y1,(false,(.fn 105 [.str]))],tR 4 bW,mE 9 [(139,a3h)],H9⟩
def a3d:FSpec:=ae a2u λx=>iF x.1 x.2
def vK(A:List dM)(B:List UInt8):Option Bool:=l9 (iF A B) λx=>some x
def q60:FQ:=⟨[uD y1,(uD .str)],tR 4 bW,mE 8 [(105,YQ),(104,a3d)],H9⟩
def s60:FSpec:=ae q60 λx=>vK x.1 x.2
def gZ(A:List (List UInt8))(B:List UInt8):Option Int:=l9 (U2 (λ(x:Int)=>l7 (H6 x (o9 A)) (l9 (L6 A x) λb=>l7 (seq B b) (some (.rt x)) (some (.nx (F6 .i64 x 1)))) (some (.ex ()))) 0) λo=>X9 o (λy=>some (-1)) λr=>some r
def b1b:FQ:=⟨[uD (.sl .str),(uD .str)],tR 4 N7,mE 19 [],sN 1 (aO (sN 1 (iR (lpR [(4,6),(8,19)] ⟨[(8,N7)],[]⟩ 0 sgN H9))) H9)⟩
def a5H:FSpec:=ae b1b λx=>gZ x.1 x.2
def iQ(A:List (List UInt8))(B:List UInt8):Option Bool:=l9 (gZ A B) λx=>some (P7 0 x)
def q94:FQ:=⟨[uD (.sl .str),(uD .str)],tR 4 bW,mE 9 [(136,a5H)],H9⟩
def s94:FSpec:=ae q94 λx=>iQ x.1 x.2
def xW(A:dL)(B:Int)(C:dM):Option J4:=l9 (bT C.1) λx=>l7 (G8 x) (some (2,0)) (l9 (iD A.1 0 B) λx=>l9 (vK x C.1) λx=>l7 x (some (7,0)) (l7 (C9 (o9 C.2) 0) (some (5,0)) (l7 (H6 16 (o9 C.2)) (some (4,116)) (l9 (U2 (λ(x:Int)=>l7 (H6 x (o9 C.2)) (l9 (L6 C.2 x) λb=>l9 (bT b) λc=>l7 (G8 c) (some (.rt (2,F6 .i64 100 x))) (l9 (iD C.2 0 x) λd=>l9 (iQ d b) λf=>l7 f (some (.rt (7,F6 .i64 100 x))) (some (.nx (F6 .i64 x 1))))) (some (.ex ()))) 0) λo=>X9 o (λy=>some (0,0)) λr=>some r))))
def q57:FQ:=⟨[tD y27,N7,tD y0],⟨[(.tmp 6,N7),(.tmp 7,N7)],[]⟩,mE 55 [(59,s59),(60,s60),(94,s94)],sN 2 (aO (sN 1 (iR (lpR [(6,10),(36,55)] ⟨[(36,N7)],[]⟩ 1 sgN H9))) H9)⟩
def s57:FSpec:=ae q57 λx=>xW x.1 x.2.1 x.2.2
def wE(A:dL):Option X0:=l7 (H6 8 (o9 A.1)) (some (4,1,8,0)) (l9 (U2 (λ(x:X0×Int)=>l7 (H6 x.2 (o9 A.1)) (l9 (L6 A.1 x.2) λc=>l9 (xW A x.2 c) λb=>l7 (G8 (C9 b.1 0)) (some (.rt (b.1,1,x.2,b.2))) (some (.nx (x.1,F6 .i64 x.2 1)))) (some (.ex x.1))) ((0,0,0,0),0)) λo=>X9 o (λ(y:X0)=>some (0,0,0,0)) λr=>some r)
def q32:FQ:=⟨[tD y27],cR 2 64 (tD y35),mE 35 [(57,s57)],sN 2 (aO (sN 1 (iR (lpR [(2,7),(15,34),(4000128,4000129)] ⟨[(2,(false,(.box (dT y35)))),(15,N7)],[]⟩ 0 ⟨[(2,(false,(.box (dT y35))))],[]⟩ H9))) H9)⟩
def s32:FSpec:=ae q32 λx=>wE x
def aH(A:J4)(B:List dM):Option Bool:=l9 (l7 (C9 A.1 1) (some (C9 A.1 1)) (l7 (C9 A.1 2) (some (C9 A.1 2)) (l7 (C9 A.1 3) (some (C9 A.1 3)) (l7 (C9 A.1 4) (some (C9 A.1 4)) (some (C9 A.1 5)))))) λx=>l7 x (some (C9 A.2 0)) (l7 (C9 A.1 6) (l7 (P7 0 A.2) (some (H6 A.2 (o9 B))) (some false)) (some false))
def q95:FQ:=⟨[tD y2,uD y1],tR 4 bW,mE 28 [],sN 1 (aO (sN 1 (iR (aO (.join [(7,13)] ⟨[(7,bW)],[]⟩ H9) H9))) H9)⟩
def s95:FSpec:=ae q95 λx=>aH x.1 x.2
def jM(A:J4)(B:List dM):Option J4:=l9 (aH A B) λx=>l7 (G8 x) (some (0,-1)) (l7 (C9 A.1 1) (some (0,1)) (l7 (C9 A.1 2) (some (-1000000000000,1000000000000)) (l7 (C9 A.1 3) (some (-1000000000000000,1000000000000000)) (l7 (C9 A.1 4) (some (-1000000000,1000000000)) (l7 (C9 A.1 5) (some (0,109572)) (l9 (L6 B A.2) λx=>some (0,Y1 .i64 (o9 x.2) 1)))))))
def q96:FQ:=⟨[tD y2,uD y1],⟨[(.tmp 4,N7),(.tmp 5,N7)],[]⟩,mE 30 [(95,s95)],H9⟩
def s96:FSpec:=ae q96 λx=>jM x.1 x.2
def qI(A:J4):Option Bool:=l7 (P7 0 A.1) (l7 (P7 A.1 A.2) (some (P7 A.2 109573)) (some false)) (some false)
def q97:FQ:=⟨[tD y2],tR 2 bW,mE 18 [],H9⟩
def s97:FSpec:=ae q97 λx=>qI x
def qW(A:J4):Option Bool:=l9 (qI A) λx=>l7 x (some (H6 A.1 A.2)) (some false)
def b1M:FQ:=⟨[tD y2],tR 2 bW,mE 12 [(97,s97)],H9⟩
def b4i:FSpec:=ae b1M λx=>qW x
def pq(A:J4)(B:J4):Option (J4×Bool):=l9 (qW A) λx=>l7 (G8 x) (some ((0,0),false)) (l9 (qW B) λx=>l7 (G8 x) (some ((0,0),false)) (l7 (P7 (wz A.2 B.2) (ww A.1 B.1)) (some ((0,0),false)) (some ((ww A.1 B.1,wz A.2 B.2),true))))
def b1c:FQ:=⟨[tD y2,tD y2],⟨[(.cell 4 81,tD y2),(.tmp 5,bW)],[]⟩,mE 34 [(183,b4i)],H9⟩
def b3G:FSpec:=ae b1c λx=>pq x.1 x.2
def wX(A:EL)(B:EL):Option Bool:=l9 (pq A.1 B.1) λx=>l7 x.2 (some (H6 (ww A.2.1 B.2.1) (wz A.2.2.1 B.2.2.1))) (some false)
def b0B:FQ:=⟨[tD y4,tD y4],tR 4 bW,mE 29 [(137,b3G)],H9⟩
def b3n:FSpec:=ae b0B λx=>wX x.1 x.2
def qj(A:EL)(B:EL):Option Bool:=l9 (wX A B) λx=>some x
def a6q:FQ:=⟨[tD y4,(false,(.rp y4))],tR 3 bW,mE 7 [(100,b3n)],H9⟩
def a3q:FSpec:=ae a6q λx=>qj x.1 x.2
def pF(A:List EL)(B:EL):Option (Int×Bool):=l9 (U2 (λ(x:Int)=>l7 (H6 x (o9 A)) (l9 (L6 A x) λb=>l9 (qj b B) λc=>l7 c (some (.rt (x,true))) (some (.nx (F6 .i64 x 1)))) (some (.ex ()))) 0) λo=>X9 o (λy=>some (0,false)) λr=>some r
def a6p:FQ:=⟨[uD y5,(false,(.fn 99 [y4]))],⟨[(.tmp 4,N7),(.tmp 5,bW)],[]⟩,mE 20 [(99,a3q)],sN 1 (aO (sN 1 (iR (lpR [(4,8),(10,20)] ⟨[(10,N7)],[]⟩ 0 sgN H9))) H9)⟩
def a6u:FSpec:=ae a6p λx=>pF x.1 x.2
def wW(A:kQ)(B:List dM):Option J4:=l7 (H6 64 (o9 A.2.2.2)) (some (64,4)) (l9 (l9 (aH A.2.1 B) λx=>l7 (G8 x) (some (.inr (-1,8))) (l9 (aH A.2.2.1 B) λx=>l7 (G8 x) (some (.inr (-1,8))) (some (.inl ())))) λo=>X9 o (λx=>l9 (jM A.2.1 B) λx=>l9 (jM A.2.2.1 B) λd=>l9 (U2 (λ(b:Int)=>l7 (H6 b (o9 A.2.2.2)) (l9 (L6 A.2.2.2 b) λc=>l9 (l9 (qI c.1) λx=>l7 (G8 x) (some (.inr (b,3))) (l7 (C9 c.1.1 c.1.2) (some (.inr (b,3))) (l7 (P7 c.2.2.1 c.2.1) (some (.inr (b,3))) (some (.inl ()))))) λo=>X9 o (λf=>l9 (l7 (H6 c.2.1 x.1) (some (.inr (b,3))) (l7 (H6 x.2 c.2.1) (some (.inr (b,3))) (l7 (H6 (Y1 .i64 c.2.2.1 1) x.1) (some (.inr (b,3))) (l7 (H6 x.2 (Y1 .i64 c.2.2.1 1)) (some (.inr (b,3))) (some (.inl ())))))) λo=>X9 o (λx=>l7 (H6 c.2.2.2 d.1) (some (.rt (b,3))) (l7 (H6 d.2 c.2.2.2) (some (.rt (b,3))) (l9 (iD A.2.2.2 0 b) λx=>l9 (pF x c) λx=>l7 x.2 (some (.rt (b,11))) (some (.nx (F6 .i64 b 1)))))) λr=>some (.rt r)) λr=>some (.rt r)) (some (.ex ()))) 0) λo=>X9 o (λy=>some (0,0)) λr=>some r) λr=>some r)
def q58:FQ:=⟨[tD y8,uD y1],⟨[(.tmp 4,N7),(.tmp 5,N7)],[]⟩,mE 121 [(95,s95),(96,s96),(97,s97),(99,a3q),(98,a6u)],sN 2 (aO (jnR [(4,6),(18,30)] sgN H9) (sN 2 (aO (sN 1 (iR (lpR [(4,6),(10,14),(47,121)] ⟨[(47,N7)],[]⟩ 0 sgN (sN 2 (aO (iR (sN 1 (aO (jnR [(4,6),(52,73)] sgN H9) (aO (jnR [(4,6),(73,98)] sgN H9) H9)))) H9))))) H9)))⟩
def s58:FSpec:=ae q58 λx=>wW x.1 x.2
def zY(A:kQ)(B:List UInt8):Option Bool:=some (seq A.1 B)
def a2x:FQ:=⟨[tD y8,(false,(.rp .str))],tR 3 bW,mE 8 [],H9⟩
def YR:FSpec:=ae a2x λx=>zY x.1 x.2
def iK(A:List kQ)(B:List UInt8):Option Int:=l9 (U2 (λ(x:Int)=>l7 (H6 x (o9 A)) (l9 (L6 A x) λb=>l9 (zY b B) λc=>l7 c (some (.rt x)) (some (.nx (F6 .i64 x 1)))) (some (.ex ()))) 0) λo=>X9 o (λy=>some (-1)) λr=>some r
def a2C:FQ:=⟨[uD y9,(false,(.fn 107 [.str]))],tR 4 N7,mE 19 [(107,YR)],sN 1 (aO (sN 1 (iR (lpR [(4,6),(8,19)] ⟨[(8,N7)],[]⟩ 0 sgN H9))) H9)⟩
def a3j:FSpec:=ae a2C λx=>iK x.1 x.2
def gm(A:List kQ)(B:List UInt8):Option Bool:=l9 (iK A B) λx=>some (P7 0 x)
def a2w:FQ:=⟨[uD y9,(false,(.fn 107 [.str]))],tR 4 bW,mE 9 [(140,a3j)],H9⟩
def a3e:FSpec:=ae a2w λx=>gm x.1 x.2
def wG(A:List kQ)(B:List UInt8):Option Bool:=l9 (gm A B) λx=>some x
def q61:FQ:=⟨[uD y9,(uD .str)],tR 4 bW,mE 8 [(107,YR),(106,a3e)],H9⟩
def s61:FSpec:=ae q61 λx=>wG x.1 x.2
def uH(A:dL):Option X0:=l7 (H6 8 (o9 A.2.1)) (some (4,2,8,0)) (l9 (U2 (λ(x:X0×Int)=>l7 (H6 x.2 (o9 A.2.1)) (l9 (L6 A.2.1 x.2) λc=>l9 (wW c A.1) λb=>l9 (l9 (bT c.1) λd=>l7 (G8 d) (some (2,2,x.2,0)) (l9 (vK A.1 c.1) λf=>l7 f (some (7,2,x.2,0)) (l9 (iD A.2.1 0 x.2) λg=>l9 (wG g c.1) λi=>l7 i (some (7,2,x.2,0)) (l7 (G8 (C9 b.2 0)) (l7 (G8 (C9 b.1 (-1))) (some (b.2,2,x.2,F6 .i64 100 b.1)) (some (b.2,2,x.2,0))) (some (0,2,x.2,0)))))) λd=>l7 (G8 (C9 d.1 0)) (some (.rt d)) (some (.nx (x.1,F6 .i64 x.2 1)))) (some (.ex x.1))) ((0,0,0,0),0)) λo=>X9 o (λ(y:X0)=>some (0,0,0,0)) λr=>some r)
def q33:FQ:=⟨[tD y27],cR 2 64 (tD y35),mE 68 [(58,s58),(59,s59),(60,s60),(61,s61)],sN 2 (aO (sN 1 (iR (lpR [(2,8),(16,67),(4000128,4000129)] ⟨[(2,(false,(.box (dT y35)))),(16,N7)],[]⟩ 0 ⟨[(2,(false,(.box (dT y35))))],[]⟩ (sN 2 (aO (iR (sN 3 (aO (.join [(5,6),(30,62),(37000320,37000321)] ⟨[(5,(false,(.box (dT y35))))],[]⟩ H9) H9))) H9))))) H9)⟩
def s33:FSpec:=ae q33 λx=>uH x
def xC(A:J3)(B:J3):Option Bool:=some (seq A.1 B.1)
def a2z:FQ:=⟨[tD y24,(false,(.rp y24))],tR 3 bW,mE 9 [],H9⟩
def YS:FSpec:=ae a2z λx=>xC x.1 x.2
def iJ(A:List J3)(B:J3):Option Int:=l9 (U2 (λ(x:Int)=>l7 (H6 x (o9 A)) (l9 (L6 A x) λb=>l9 (xC b B) λc=>l7 c (some (.rt x)) (some (.nx (F6 .i64 x 1)))) (some (.ex ()))) 0) λo=>X9 o (λy=>some (-1)) λr=>some r
def a2D:FQ:=⟨[uD y25,(false,(.fn 109 [y24]))],tR 4 N7,mE 19 [(109,YS)],sN 1 (aO (sN 1 (iR (lpR [(4,6),(8,19)] ⟨[(8,N7)],[]⟩ 0 sgN H9))) H9)⟩
def a3k:FSpec:=ae a2D λx=>iJ x.1 x.2
def dn(A:List J3)(B:J3):Option Bool:=l9 (iJ A B) λx=>some (P7 0 x)
def a2y:FQ:=⟨[uD y25,(false,(.fn 109 [y24]))],tR 4 bW,mE 9 [(141,a3k)],H9⟩
def a3f:FSpec:=ae a2y λx=>dn x.1 x.2
def xB(A:jw)(B:jw):Option Bool:=some (seq A.1 B.1)
def a2E:FQ:=⟨[tD y10,(false,(.rp y10))],tR 3 bW,mE 9 [],H9⟩
def YU:FSpec:=ae a2E λx=>xB x.1 x.2
def iI(A:List jw)(B:jw):Option Int:=l9 (U2 (λ(x:Int)=>l7 (H6 x (o9 A)) (l9 (L6 A x) λb=>l9 (xB b B) λc=>l7 c (some (.rt x)) (some (.nx (F6 .i64 x 1)))) (some (.ex ()))) 0) λo=>X9 o (λy=>some (-1)) λr=>some r
def a2I:FQ:=⟨[uD y11,(false,(.fn 142 [y10]))],tR 4 N7,mE 19 [(142,YU)],sN 1 (aO (sN 1 (iR (lpR [(4,6),(8,19)] ⟨[(8,N7)],[]⟩ 0 sgN H9))) H9)⟩
def a3o:FSpec:=ae a2I λx=>iI x.1 x.2
def aG(A:List jw)(B:jw):Option Bool:=l9 (iI A B) λx=>some (P7 0 x)
def a2F:FQ:=⟨[uD y11,(false,(.fn 142 [y10]))],tR 4 bW,mE 9 [(184,a3o)],H9⟩
def a3l:FSpec:=ae a2F λx=>aG x.1 x.2
def rU(A:dL)(B:jw)(C:List jw)(D:List jw):Option Int:=l9 (bT B.1) λx=>l7 (G8 x) (some 2) (l9 (aG C B) λx=>l7 x (some 7) (l9 (aG D B) λx=>l7 x (some 7) (l9 (aH B.2 A.1) λx=>l7 (G8 x) (some 8) (some 0))))
def b0F:FQ:=⟨[tD y27,tD y10,uD y11,uD y11],tR 8 N7,mE 32 [(142,YU),(59,s59),(143,a3l),(95,s95)],H9⟩
def b3p:FSpec:=ae b0F λx=>rU x.1 x.2.1 x.2.2.1 x.2.2.2
def pU(A:List jw):Option (List J4):=l9 (dV (λ(x:List J4×Int)=>l7 (H6 x.2 (o9 A)) (l9 (L6 A x.2) λb=>l9 (bK x.1 [b.2]) λc=>some (.inl (c,F6 .i64 x.2 1))) (some (.inr x.1))) ([],0)) λy=>some y
def b1e:FQ:=⟨[uD y11],tR 2 (uO y2),mE 19 [],sN 2 (aO (sN 1 (iR (.loop [(3,4),(5,6),(8,18)] ⟨[(3,(uO y2)),(8,N7)],[]⟩ 0 ⟨[(3,(uO y2))],[]⟩ H9))) H9)⟩
def b3H:FSpec:=ae b1e λx=>pU x
def lU(A:dL)(B:Int):Option O0:=l9 (L6 A.2.2 B) λx=>l9 (pU x.2.2.1) λb=>l9 (pU x.2.2.2.1) λc=>l7 (P7 0 x.2.1) (l7 (H6 x.2.1 (o9 A.2.2)) (l9 (L6 A.2.2 x.2.1) λx=>l9 (pU x.2.2.2.1) λx=>some (A.1,A.2.1,b,c,x,true)) (some (A.1,A.2.1,b,c,[],false))) (some (A.1,A.2.1,b,c,[],false))
def b0G:FQ:=⟨[tD y27,N7],cR 4 181 (tD y51),mE 45 [(144,b3H)],H9⟩
def b3q:FSpec:=ae b0G λx=>lU x.1 x.2
def yI(A:gp)(B:gp):Option Bool:=some (seq A.1 B.1)
def a2H:FQ:=⟨[tD y19,(false,(.rp y19))],tR 3 bW,mE 9 [],H9⟩
def YV:FSpec:=ae a2H λx=>yI x.1 x.2
def jg(A:List gp)(B:gp):Option Int:=l9 (U2 (λ(x:Int)=>l7 (H6 x (o9 A)) (l9 (L6 A x) λb=>l9 (yI b B) λc=>l7 c (some (.rt x)) (some (.nx (F6 .i64 x 1)))) (some (.ex ()))) 0) λo=>X9 o (λy=>some (-1)) λr=>some r
def a2J:FQ:=⟨[uD y20,(false,(.fn 146 [y19]))],tR 4 N7,mE 19 [(146,YV)],sN 1 (aO (sN 1 (iR (lpR [(4,6),(8,19)] ⟨[(8,N7)],[]⟩ 0 sgN H9))) H9)⟩
def a3p:FSpec:=ae a2J λx=>jg x.1 x.2
def dU(A:List gp)(B:gp):Option Bool:=l9 (jg A B) λx=>some (P7 0 x)
def a2G:FQ:=⟨[uD y20,(false,(.fn 146 [y19]))],tR 4 bW,mE 9 [(185,a3p)],H9⟩
def a3m:FSpec:=ae a2G λx=>dU x.1 x.2
def b6O:List MG:=[(false,(.dat .str)),(false,(.dat .str))]
def s89:FSpec:=⟨b6O,[bW],[],λx=>qN x.1 x.2⟩
def uI(A:List UInt8):Option Bool:=l7 (H6 64 (o9 A)) (some false) (l9 (qN A [34]) λx=>l7 x (some false) (l9 (U2 (λ(x:Int)=>l7 (H6 x (o9 A)) (l9 (sat A x) λb=>l7 (H6 b 32) (some (.rt false)) (l9 (sat A x) λc=>l7 (H6 126 c) (some (.rt false)) (some (.nx (F6 .i64 x 1))))) (some (.ex ()))) 0) λo=>X9 o (λy=>some true) λr=>some r))
def b1f:FQ:=⟨[uD .str],tR 2 bW,mE 27 [(89,s89)],sN 2 (aO (sN 1 (iR (lpR [(2,4),(13,27)] ⟨[(13,N7)],[]⟩ 0 sgN H9))) H9)⟩
def b3I:FSpec:=ae b1f λx=>uI x
def jB(A:Int):Option Int:=l9 (l7 (C9 A 1) (some (C9 A 1)) (l7 (C9 A 2) (some (C9 A 2)) (l7 (C9 A 3) (some (C9 A 3)) (l7 (C9 A 4) (some (C9 A 4)) (l7 (C9 A 5) (some (C9 A 5)) (l7 (C9 A 6) (some (C9 A 6)) (l7 (C9 A 7) (some (C9 A 7)) (l7 (C9 A 8) (some (C9 A 8)) (l7 (C9 A 9) (some (C9 A 9)) (l7 (C9 A 35) (some (C9 A 35)) (l7 (C9 A 36) (some (C9 A 36)) (l7 (C9 A 37) (some (C9 A 37)) (l7 (C9 A 38) (some (C9 A 38)) (some (C9 A 39))))))))))))))) λx=>l7 x (some 0) (l9 (l7 (C9 A 10) (some (C9 A 10)) (l7 (C9 A 25) (some (C9 A 25)) (l7 (C9 A 31) (some (C9 A 31)) (l7 (C9 A 32) (some (C9 A 32)) (l7 (C9 A 33) (some (C9 A 33)) (some (C9 A 34))))))) λx=>l7 x (some 1) (l9 (l7 (C9 A 11) (some (C9 A 11)) (l7 (C9 A 12) (some (C9 A 12)) (l7 (C9 A 13) (some (C9 A 13)) (l7 (C9 A 14) (some (C9 A 14)) (l7 (C9 A 15) (some (C9 A 15)) (l7 (C9 A 16) (some (C9 A 16)) (l7 (C9 A 17) (some (C9 A 17)) (l7 (C9 A 18) (some (C9 A 18)) (l7 (C9 A 19) (some (C9 A 19)) (l7 (C9 A 20) (some (C9 A 20)) (l7 (C9 A 21) (some (C9 A 21)) (l7 (C9 A 22) (some (C9 A 22)) (l7 (C9 A 23) (some (C9 A 23)) (l7 (C9 A 24) (some (C9 A 24)) (l7 (C9 A 27) (some (C9 A 27)) (l7 (C9 A 28) (some (C9 A 28)) (l7 (C9 A 29) (some (C9 A 29)) (some (C9 A 30))))))))))))))))))) λx=>l7 x (some 2) (l7 (C9 A 26) (some 3) (some (-1)))))
def q40:FQ:=⟨[N7],tR 2 N7,mE 47 [],sN 1 (aO (sN 1 (iR (aO (.join [(4,19)] ⟨[(4,bW)],[]⟩ H9) (.cond H9 (aO (.join [(19,26)] ⟨[(19,bW)],[]⟩ H9) (.cond H9 (aO (.join [(26,45)] ⟨[(26,bW)],[]⟩ H9) H9))))))) H9)⟩
def s40:FSpec:=ae q40 λx=>jB x
def rM(A:List J4):Option (List Int×J4):=l7 (H6 48 (o9 A)) (some ([],0,4)) (l7 (C9 (o9 A) 0) (some ([],0,5)) (l9 (FM (o9 A) 0) λx=>l9 (U2 (λ(x:List Int×List Int×Int)=>l7 (H6 x.2.2 (o9 A)) (l9 (L6 A x.2.2) λg=>l9 (jB g.1) λb=>l7 (H6 b 0) (some (.rt ([],x.2.2,2))) (l7 (H6 (o9 x.2.1) b) (some (.rt ([],x.2.2,5))) (l9 (L6 x.1 x.2.2) λk=>l9 (eH x.1 (dB x.2.2)) λn=>l7 (H6 0 b) (l9 (L6 x.2.1 (Y1 .i64 (o9 x.2.1) b)) λj=>l9 (eH x.2.1 (dB (Y1 .i64 (o9 x.2.1) b))) λc=>l9 (L6 (um x.1 (dB x.2.2) x.2.2) x.2.2) λd=>l9 (eH (um x.1 (dB x.2.2) x.2.2) (dB x.2.2)) λp=>l7 (jK 0 (Y1 .i64 (o9 x.2.1) b) (o9 x.2.1)) (l9 (L6 (um (um x.1 (dB x.2.2) x.2.2) (dB x.2.2) c) x.2.2) λq=>l9 (eH (um (um x.1 (dB x.2.2) x.2.2) (dB x.2.2) c) (dB x.2.2)) λi=>l9 (bK (iP x.2.1 (dB 0) (dB (Y1 .i64 (o9 x.2.1) b))) [i]) λf=>l7 (H6 12 (o9 f)) (some (.rt ([],x.2.2,16))) (some (.nx (um (um x.1 (dB x.2.2) x.2.2) (dB x.2.2) c,f,F6 .i64 x.2.2 1)))) none) (l7 (jK 0 (Y1 .i64 (o9 x.2.1) b) (o9 x.2.1)) (l9 (L6 (um x.1 (dB x.2.2) x.2.2) x.2.2) λj=>l9 (eH (um x.1 (dB x.2.2) x.2.2) (dB x.2.2)) λc=>l9 (bK (iP x.2.1 (dB 0) (dB (Y1 .i64 (o9 x.2.1) b))) [c]) λd=>l7 (H6 12 (o9 d)) (some (.rt ([],x.2.2,16))) (some (.nx (um x.1 (dB x.2.2) x.2.2,d,F6 .i64 x.2.2 1)))) none)))) (some (.ex (x.1,x.2.1)))) (x,[],0)) λo=>X9 o (λ(y:List Int×List Int)=>l7 (H6 1 (o9 y.2)) (some ([],o9 A,4)) (some (y.1,0,0))) λr=>some r))
def q65:FQ:=⟨[uD y12],⟨[(.tmp 2,uoM),(.tmp 3,N7),(.tmp 4,N7)],[]⟩,mE 76 [(40,s40)],sN 5 (aO (sN 1 (iR (lpR [(2,10),(21,70),(27001152,27001153)] ⟨[(5,uoM),(6,uoM),(21,N7)],[]⟩ 0 ⟨[(5,uoM),(6,uoM)],[]⟩ H9))) H9)⟩
def s65:FSpec:=ae q65 λx=>rM x
def aJ(A:Int):Option Bool:=l7 (C9 A 1) (l7 (C9 A 1) (some true) (some false)) (l7 (C9 A 2) (l7 (C9 A 2) (some true) (some false)) (l7 (C9 A 3) (l7 (C9 A 3) (some true) (some false)) (l7 (C9 A 4) (l7 (C9 A 4) (some true) (some false)) (l7 (C9 A 5) (l7 (C9 A 5) (some true) (some false)) (l7 (C9 A 6) (l7 (C9 A 6) (some true) (some false)) (l7 (C9 A 7) (l7 (C9 A 7) (some true) (some false)) (l7 (C9 A 8) (l7 (C9 A 8) (some true) (some false)) (l7 (C9 A 14) (l7 (C9 A 14) (some true) (some false)) (l7 (C9 A 15) (l7 (C9 A 15) (some true) (some false)) (l7 (C9 A 16) (l7 (C9 A 16) (some true) (some false)) (l7 (C9 A 33) (l7 (C9 A 33) (some true) (some false)) (l7 (C9 A 34) (l7 (C9 A 34) (some true) (some false)) (l7 (C9 A 36) (l7 (C9 A 36) (some true) (some false)) (l7 (C9 A 37) (l7 (C9 A 37) (some true) (some false)) (l7 (C9 A 38) (l7 (C9 A 38) (some true) (some false)) (l7 (C9 A 39) (some true) (some false)))))))))))))))))
def q39:FQ:=⟨[N7],tR 2 bW,mE 22 [],H9⟩
def s39:FSpec:=ae q39 λx=>aJ x
def jh(A:Int)(B:Int)(C:O0):Option aA:=l9 (jM (B,0) C.1) λx=>l7 (H6 A x.1) (some ((0,0),3)) (l7 (H6 x.2 A) (some ((0,0),3)) (some ((B,0),0)))
def b2v:FQ:=⟨[N7,N7,tD y51],⟨[(.cell 6 43,tD y2),(.tmp 7,N7)],[]⟩,mE 30 [(96,s96)],H9⟩
def b4L:FSpec:=ae b2v λx=>jh x.1 x.2.1 x.2.2
def xU(A:Int)(B:O0):Option aA:=l7 (H6 A 0) (some ((0,0),3)) (l7 (P7 (o9 B.1) (eU .i64 A 16)) (some ((0,0),6)) (l9 (L6 B.1 (eU .i64 A 16)) λx=>l7 (P7 (o9 x.2) (jP A 16)) (some ((0,0),6)) (some ((6,eU .i64 A 16),0))))
def b2w:FQ:=⟨[N7,tD y51],⟨[(.cell 4 43,tD y2),(.tmp 5,N7)],[]⟩,mE 34 [],H9⟩
def b4M:FSpec:=ae b2w λx=>xU x.1 x.2
def jb(A:Int)(B:List J4)(C:O0):Option aA:=l7 (H6 A 0) (some ((0,0),6)) (l7 (P7 (o9 B) A) (some ((0,0),6)) (l9 (L6 B A) λx=>l9 (aH x C.1) λx=>l7 (G8 x) (some ((0,0),8)) (l9 (L6 B A) λx=>some (x,0))))
def b2x:FQ:=⟨[N7,uD y12,tD y51],⟨[(.cell 6 43,tD y2),(.tmp 7,N7)],[]⟩,mE 30 [(95,s95)],H9⟩
def a7K:FSpec:=ae b2x λx=>jb x.1 x.2.1 x.2.2
def kS(A:Int):Option Bool:=l7 (P7 0 A) (some (P7 A 5)) (some false)
def b2A:FQ:=⟨[N7],tR 2 bW,mE 9 [],H9⟩
def a7L:FSpec:=ae b2A λx=>kS x
def pJ(A:J4)(B:J4)(C:O0):Option aA:=l9 (l7 (C9 A.1 34) (l7 (H6 A.2 0) (some (.inr ((0,0),3))) (l9 (kS (jP A.2 8)) λx=>l7 (G8 x) (some (.inr ((0,0),3))) (some (.inl ((0,0),eU .i64 A.2 8))))) (some (.inl ((0,0),A.2)))) λo=>X9 o (λ(x:aA)=>l9 (l7 (H6 x.2 0) (some (.inr ((0,0),6))) (l7 (P7 (o9 C.2.1) x.2) (some (.inr ((0,0),6))) (some (.inl x.1)))) λo=>X9 o (λ(d:J4)=>l9 (L6 C.2.1 x.2) λb=>l9 (L6 C.2.1 x.2) λx=>l9 (l9 (aH b.2.1 C.1) λc=>l7 (G8 c) (some (.inr ((0,0),8))) (l9 (aH x.2.2.1 C.1) λx=>l7 (G8 x) (some (.inr ((0,0),8))) (l7 (G8 (nP (C9 B.1 b.2.1.1) (C9 B.2 b.2.1.2))) (some (.inr ((0,0),8))) (some (.inl d))))) λo=>X9 o (λ(c:J4)=>l7 (C9 A.1 34) (l7 (G8 (C9 b.2.1.1 3)) (some ((0,0),8)) (l7 (G8 (C9 x.2.2.1.1 4)) (some ((0,0),8)) (some (b.2.1,0)))) (some (x.2.2.1,0))) λr=>some r) λr=>some r) λr=>some r
def b2y:FQ:=⟨[tD y2,tD y2,tD y51],⟨[(.cell 6 43,tD y2),(.tmp 7,N7)],[]⟩,mE 84 [(241,a7L),(95,s95)],sN 2 (aO (jnR [(6,9),(13,30),(4000384,4000385)] ⟨[(6,(false,(.box (dT y2)))),(8,N7)],[]⟩ H9) (aO (jnR [(6,8),(30,40),(9000000,9000001)] ⟨[(6,(false,(.box (dT y2))))],[]⟩ H9) (sN 1 (aO (jnR [(6,8),(52,70),(27000000,27000001)] ⟨[(6,(false,(.box (dT y2))))],[]⟩ H9) H9))))⟩
def b4N:FSpec:=ae b2y λx=>pJ x.1 x.2.1 x.2.2
def kM(A:Int):Option Bool:=l7 (C9 A 2) (some true) (l7 (C9 A 3) (some true) (some (C9 A 4)))
def b2R:FQ:=⟨[N7],tR 2 bW,mE 13 [],H9⟩
def a7N:FSpec:=ae b2R λx=>kM x
def nV(A:J4)(B:O0):Option aA:=l7 (G8 B.2.2.2.2.2) (some ((0,0),6)) (l7 (C9 A.1 35) (some ((2,0),0)) (l9 (jb A.2 B.2.2.2.2.1 B) λx=>l7 (G8 (C9 x.2 0)) (some ((0,0),x.2)) (l9 (l7 (C9 A.1 36) (l7 (C9 x.1.1 2) (some true) (some (C9 x.1.1 3))) (l7 (C9 A.1 37) (l7 (C9 A.1 37) (some (C9 x.1.1 1)) (l7 (C9 A.1 39) (l9 (kM x.1.1) λb=>l7 b (some true) (some (C9 x.1.1 5))) (some false))) (l7 (C9 A.1 38) (some (C9 x.1.1 1)) (l7 (C9 A.1 39) (l9 (kM x.1.1) λb=>l7 b (some true) (some (C9 x.1.1 5))) (some false))))) λb=>l7 (G8 b) (some ((0,0),8)) (some (x.1,0)))))
def b2z:FQ:=⟨[tD y2,tD y51],⟨[(.cell 4 43,tD y2),(.tmp 5,N7)],[]⟩,mE 62 [(238,a7K),(269,a7N)],sN 6 (aO (.join [(8,9),(30,58)] ⟨[(8,bW)],[]⟩ H9) H9)⟩
def b4O:FSpec:=ae b2z λx=>nV x.1 x.2
def CS(A:Int)(B:Int)(C:Int):Option (J4×Bool):=l7 (C9 A 14) (l7 (C9 C 4) (l7 (C9 B 3) (some ((B,0),true)) (some ((B,0),C9 B 4))) (some ((B,0),false))) (l7 (C9 C 2) (l7 (C9 B 2) (some ((B,0),true)) (some ((B,0),C9 B 3))) (l7 (C9 A 15) (l7 (C9 B 3) (l7 (C9 C 3) (some ((4,0),true)) (some ((0,0),false))) (some ((0,0),false))) (some ((0,0),false))))
def b2S:FQ:=⟨[N7,N7,N7],⟨[(.cell 6 43,tD y2),(.tmp 7,bW)],[]⟩,mE 47 [],H9⟩
def b5e:FSpec:=ae b2S λx=>CS x.1 x.2.1 x.2.2
def lI(A:Int)(B:List J4):Option (J4×Bool):=l9 (l7 (C9 A 10) (l9 (L6 B 0) λx=>l9 (L6 B 0) λb=>l9 (kM b.1) λc=>some (.inr (x,c))) (l7 (C9 A 25) (l9 (L6 B 0) λx=>some (.inr ((1,0),C9 x.1 1))) (l9 (l7 (C9 A 11) (some (C9 A 11)) (some (C9 A 12))) λx=>l7 x (l9 (L6 B 0) λx=>l9 (L6 B 0) λb=>l9 (L6 B 1) λc=>l7 (nP (C9 b.1 c.1) (C9 b.2 c.2)) (l9 (L6 B 0) λd=>l9 (kM d.1) λf=>some (.inr (x,f))) (some (.inr (x,false)))) (l9 (l7 (C9 A 13) (some (C9 A 13)) (l7 (C9 A 14) (some (C9 A 14)) (some (C9 A 15)))) λx=>l7 x (l9 (L6 B 0) λx=>l9 (L6 B 1) λb=>l9 (CS A x.1 b.1) λx=>some (.inr x)) (l7 (C9 A 16) (l9 (L6 B 0) λx=>l9 (L6 B 0) λb=>l7 (C9 b.1 3) (l9 (L6 B 1) λc=>some (.inr (x,C9 c.1 3))) (some (.inr (x,false)))) (l9 (l7 (C9 A 17) (some (C9 A 17)) (some (C9 A 18))) λx=>l7 x (l9 (L6 B 0) λx=>l9 (L6 B 0) λb=>l9 (L6 B 1) λc=>l7 (nP (C9 b.1 c.1) (C9 b.2 c.2)) (l9 (L6 B 0) λd=>l9 (kM d.1) λf=>l7 f (some (.inr (x,true))) (l9 (L6 B 0) λg=>some (.inr (x,C9 g.1 5)))) (some (.inr (x,false)))) (l9 (l7 (C9 A 19) (some (C9 A 19)) (some (C9 A 20))) λx=>l7 x (l9 (L6 B 0) λx=>l9 (L6 B 1) λb=>some (.inr ((1,0),nP (C9 x.1 b.1) (C9 x.2 b.2)))) (l9 (l7 (C9 A 21) (some (C9 A 21)) (some (C9 A 22))) λx=>l7 x (l9 (L6 B 0) λx=>l9 (L6 B 1) λb=>l7 (nP (C9 x.1 b.1) (C9 x.2 b.2)) (l9 (L6 B 0) λx=>l9 (kM x.1) λx=>l7 x (some (.inr ((1,0),true))) (l9 (L6 B 0) λx=>some (.inr ((1,0),C9 x.1 5)))) (some (.inr ((1,0),false)))) (l9 (l7 (C9 A 23) (some (C9 A 23)) (some (C9 A 24))) λx=>l7 x (l9 (L6 B 0) λx=>l7 (C9 x.1 1) (l9 (L6 B 1) λx=>some (.inr ((1,0),C9 x.1 1))) (some (.inr ((1,0),false)))) (l7 (C9 A 26) (l9 (L6 B 1) λx=>l9 (L6 B 0) λb=>l7 (C9 b.1 1) (l9 (L6 B 1) λc=>l9 (L6 B 2) λd=>some (.inr (x,nP (C9 c.1 d.1) (C9 c.2 d.2)))) (some (.inr (x,false)))) (l9 (l7 (C9 A 27) (some (C9 A 27)) (some (C9 A 28))) λx=>l7 x (l9 (L6 B 0) λx=>l9 (L6 B 0) λb=>l7 (C9 b.1 5) (l9 (L6 B 1) λc=>some (.inr (x,C9 c.1 2))) (some (.inr (x,false)))) (l7 (C9 A 29) (l7 (C9 A 29) (l9 (L6 B 0) λx=>l7 (C9 x.1 5) (l9 (L6 B 1) λx=>some (.inr ((2,0),C9 x.1 5))) (some (.inr ((2,0),false)))) (l7 (C9 A 31) (l7 (C9 A 31) (l9 (L6 B 0) λx=>some (.inr ((2,0),C9 x.1 5))) (some (.inl (0,0)))) (l7 (C9 A 32) (l9 (L6 B 0) λx=>some (.inr ((2,0),C9 x.1 5))) (some (.inl (0,0)))))) (l7 (C9 A 30) (l9 (L6 B 0) λx=>l7 (C9 x.1 5) (l9 (L6 B 1) λx=>some (.inr ((2,0),C9 x.1 5))) (some (.inr ((2,0),false)))) (l7 (C9 A 31) (l7 (C9 A 31) (l9 (L6 B 0) λx=>some (.inr ((2,0),C9 x.1 5))) (some (.inl (0,0)))) (l7 (C9 A 32) (l9 (L6 B 0) λx=>some (.inr ((2,0),C9 x.1 5))) (some (.inl (0,0)))))))))))))))))) λo=>X9 o (λ(x:J4)=>some ((0,0),false)) λr=>some r
def b2B:FQ:=⟨[N7,uD y12],⟨[(.cell 4 43,tD y2),(.tmp 5,bW)],[]⟩,mE 222 [(269,a7N),(270,b5e)],sN 2 (aO (jnR [(4,6),(8,221),(4000256,4000257)] ⟨[(4,(false,(.box (dT y2))))],[]⟩ (sN 1 (iR (sN 1 (.cond H9 (sN 1 (.cond H9 (aO (.join [(27,30)] ⟨[(27,bW)],[]⟩ H9) (.cond H9 (aO (.join [(47,51)] ⟨[(47,bW)],[]⟩ H9) (.cond H9 (sN 1 (.cond H9 (aO (.join [(80,83)] ⟨[(80,bW)],[]⟩ H9) (.cond H9 (aO (.join [(107,110)] ⟨[(107,bW)],[]⟩ H9) (.cond H9 (aO (.join [(118,121)] ⟨[(118,bW)],[]⟩ H9) (.cond H9 (aO (.join [(143,146)] ⟨[(143,bW)],[]⟩ H9) (.cond H9 (sN 1 (.cond H9 (aO (.join [(178,181)] ⟨[(178,bW)],[]⟩ H9) H9)))))))))))))))))))))))) H9)⟩
def b4P:FSpec:=ae b2B λx=>lI x.1 x.2
def ak(A:J4)(B:List J4)(C:O0):Option aA:=l9 (l7 (C9 A.1 1) (l9 (jh A.2 1 C) λx=>some (.inr x)) (l7 (C9 A.1 2) (l9 (jh A.2 2 C) λx=>some (.inr x)) (l7 (C9 A.1 3) (l9 (jh A.2 3 C) λx=>some (.inr x)) (l7 (C9 A.1 4) (l9 (jh A.2 4 C) λx=>some (.inr x)) (l7 (C9 A.1 5) (l9 (jh A.2 5 C) λx=>some (.inr x)) (l7 (C9 A.1 6) (l9 (xU A.2 C) λx=>some (.inr x)) (l7 (C9 A.1 7) (l9 (jb A.2 C.2.2.1 C) λx=>some (.inr x)) (l7 (C9 A.1 8) (l9 (jb A.2 C.2.2.2.1 C) λx=>some (.inr x)) (l7 (C9 A.1 9) (some (.inr ((5,0),0))) (l9 (l7 (C9 A.1 33) (some (C9 A.1 33)) (some (C9 A.1 34))) λx=>l7 x (l9 (L6 B 0) λx=>l9 (pJ A x C) λx=>some (.inr x)) (l9 (l7 (C9 A.1 35) (some (C9 A.1 35)) (l7 (C9 A.1 36) (some (C9 A.1 36)) (l7 (C9 A.1 37) (some (C9 A.1 37)) (l7 (C9 A.1 38) (some (C9 A.1 38)) (some (C9 A.1 39)))))) λx=>l7 x (l9 (nV A C) λx=>some (.inr x)) (l7 (C9 A.1 14) (l7 (C9 A.1 14) (l9 (kS A.2) λx=>l7 (G8 x) (some (.inr ((0,0),3))) (some (.inl (0,0)))) (some (.inl (0,0)))) (l7 (C9 A.1 15) (l7 (C9 A.1 15) (l9 (kS A.2) λx=>l7 (G8 x) (some (.inr ((0,0),3))) (some (.inl (0,0)))) (some (.inl (0,0)))) (l7 (C9 A.1 16) (l9 (kS A.2) λx=>l7 (G8 x) (some (.inr ((0,0),3))) (some (.inl (0,0)))) (some (.inl (0,0))))))))))))))))) λo=>X9 o (λ(x:J4)=>l9 (lI A.1 B) λx=>l7 (G8 x.2) (some ((0,0),8)) (some (x.1,0))) λr=>some r
def b2j:FQ:=⟨[tD y2,uD y12,tD y51],⟨[(.cell 6 43,tD y2),(.tmp 7,N7)],[]⟩,mE 125 [(236,b4L),(237,b4M),(238,a7K),(239,b4N),(240,b4O),(241,a7L),(242,b4P)],sN 1 (aO (jnR [(6,8),(10,114),(4000384,4000385)] ⟨[(6,(false,(.box (dT y2))))],[]⟩ (sN 1 (iR (sN 1 (.cond H9 (sN 1 (.cond H9 (sN 1 (.cond H9 (sN 1 (.cond H9 (sN 1 (.cond H9 (sN 1 (.cond H9 (sN 1 (.cond H9 (sN 1 (.cond H9 (sN 1 (.cond H9 (aO (.join [(83,86)] ⟨[(83,bW)],[]⟩ H9) (.cond H9 (aO (.join [(94,100)] ⟨[(94,bW)],[]⟩ H9) H9)))))))))))))))))))))))) H9)⟩
def b4D:FSpec:=ae b2j λx=>ak x.1 x.2.1 x.2.2
def Bg(A:List J4)(B:O0):Option (J4×J4):=l9 (rM A) λx=>l7 (G8 (C9 x.2.2 0)) (some ((0,0),x.2)) (l9 (U2 (λ(x:J4×List J4×Int)=>l7 (H6 x.2.2 (o9 A)) (l9 (L6 A x.2.2) λc=>l7 (G8 (C9 c.2 0)) (l9 (aJ c.1) λd=>l7 (G8 d) (some (.rt ((0,0),x.2.2,2))) (l9 (jB c.1) λb=>l7 (jK (Y1 .i64 (o9 x.2.1) b) (o9 x.2.1) (o9 x.2.1)) (l9 (ak c (iP x.2.1 (dB (Y1 .i64 (o9 x.2.1) b)) (dB (o9 x.2.1))) B) λf=>l7 (G8 (C9 f.2 0)) (some (.rt ((0,0),x.2.2,f.2))) (l7 (jK 0 (Y1 .i64 (o9 x.2.1) b) (o9 x.2.1)) (l9 (bK (iP x.2.1 (dB 0) (dB (Y1 .i64 (o9 x.2.1) b))) [f.1]) λg=>some (.nx (x.1,g,F6 .i64 x.2.2 1))) none)) none)) (l9 (jB c.1) λd=>l7 (jK (Y1 .i64 (o9 x.2.1) d) (o9 x.2.1) (o9 x.2.1)) (l9 (ak c (iP x.2.1 (dB (Y1 .i64 (o9 x.2.1) d)) (dB (o9 x.2.1))) B) λb=>l7 (G8 (C9 b.2 0)) (some (.rt ((0,0),x.2.2,b.2))) (l7 (jK 0 (Y1 .i64 (o9 x.2.1) d) (o9 x.2.1)) (l9 (bK (iP x.2.1 (dB 0) (dB (Y1 .i64 (o9 x.2.1) d))) [b.1]) λf=>some (.nx (x.1,f,F6 .i64 x.2.2 1))) none)) none)) (some (.ex (x.1,x.2.1)))) ((0,0),[],0)) λo=>X9 o (λ(y:J4×List J4)=>l9 (L6 y.2 0) λx=>l9 (eH y.2 (dB 0)) λx=>some (x,0,0)) λr=>some r)
def b1N:FQ:=⟨[uD y12,tD y51],⟨[(.cell 4 43,tD y2),(.tmp 5,N7),(.tmp 6,N7)],[]⟩,mE 75 [(65,s65),(39,s39),(40,s40),(215,b4D)],sN 4 (aO (sN 1 (iR (lpR [(4,7),(10,16),(29,72),(4000256,4000257)] ⟨[(4,(false,(.box (dT y2)))),(10,(uO y2)),(29,N7)],[]⟩ 0 ⟨[(4,(false,(.box (dT y2)))),(10,(uO y2))],[]⟩ H9))) H9)⟩
def b4j:FSpec:=ae b1N λx=>Bg x.1 x.2
def qP(A:List J4)(B:O0)(C:J4):Option Int:=l9 (Bg A B) λx=>l7 (G8 (C9 x.2.2 0)) (some x.2.2) (l7 (G8 (nP (C9 x.1.1 C.1) (C9 x.1.2 C.2))) (some 8) (some 0))
def b1g:FQ:=⟨[uD y12,tD y51,tD y2],tR 6 N7,mE 23 [(186,b4j)],H9⟩
def b3J:FSpec:=ae b1g λx=>qP x.1 x.2.1 x.2.2
def xX(A:J3)(B:Int)(C:O0):Option Int:=l9 (L6 A.2.2.2.2 B) λx=>l9 (iD A.2.2.2.2 0 B) λf=>l9 (dV (λ(b:J4)=>l7 (H6 b.2 (o9 f)) (l9 (L6 f b.2) λc=>l7 (C9 c.2.1 x.2.1) (some (.inl (F6 .i64 b.1 1,F6 .i64 b.2 1))) (some (.inl (b.1,F6 .i64 b.2 1)))) (some (.inr b.1))) (0,0)) λy=>l9 (l9 (bT x.1) λb=>l7 (G8 b) (some (.inr 2)) (l9 (iD A.2.2.2.2 0 B) λc=>l9 (dU c x) λg=>l7 g (some (.inr 7)) (l9 (l7 (H6 x.2.1 0) (some true) (some (P7 (o9 A.2.2.2.1) x.2.1))) λi=>l7 i (some (.inr 6)) (l9 (l7 (G8 (C9 x.2.2.1 (-1))) (l7 (H6 x.2.2.1 0) (some true) (l7 (P7 B x.2.2.1) (some true) (l9 (L6 A.2.2.2.2 x.2.2.1) λd=>some (G8 (C9 d.2.1 x.2.1))))) (some false)) λd=>l7 d (some (.inr 9)) (l9 (l7 (H6 x.2.2.2.1 0) (some true) (some (H6 9 x.2.2.2.1))) λj=>l7 j (some (.inr 3)) (l7 (H6 x.2.2.2.2.1.1 0) (some (.inr 3)) (l7 (P7 x.2.2.2.2.1.2 x.2.2.2.2.1.1) (some (.inr 3)) (l7 (H6 109573 x.2.2.2.2.1.2) (some (.inr 3)) (l7 (P7 8 y) (some (.inr 4)) (l9 (uI x.2.2.2.2.2.2.2) λk=>l7 (G8 k) (some (.inr 2)) (some (.inl x)))))))))))) λo=>X9 o (λ(x:gp)=>l7 (H6 0 (o9 x.2.2.2.2.2.1)) (l9 (qP x.2.2.2.2.2.1 C (1,0)) λb=>l7 (G8 (C9 b 0)) (some b) (l9 (L6 A.2.2.2.1 x.2.1) λc=>l9 (qP x.2.2.2.2.2.2.1 C c.2) λx=>some x)) (l9 (L6 A.2.2.2.1 x.2.1) λb=>l9 (qP x.2.2.2.2.2.2.1 C b.2) λx=>some x)) λr=>some r
def b0H:FQ:=⟨[tD y24,N7,tD y51],tR 6 N7,mE 145 [(59,s59),(146,YV),(145,a3m),(147,b3I),(148,b3J)],sN 3 (aO (sN 1 (iR (.loop [(8,9),(10,11),(22,34)] ⟨[(8,N7),(22,N7)],[]⟩ 0 ⟨[(8,N7)],[]⟩ H9))) (aO (jnR [(6,8),(34,122),(7000448,7000449)] ⟨[(7,(false,(.rp y19)))],[]⟩ (iR (sN 1 (.cond H9 (sN 1 (.cond H9 (aO (.join [(46,58)] ⟨[(46,bW)],[]⟩ H9) (.cond H9 (aO (.join [(58,85)] ⟨[(58,bW)],[]⟩ H9) (.cond H9 (aO (.join [(85,94)] ⟨[(85,bW)],[]⟩ H9) H9))))))))))) H9))⟩
def b3r:FSpec:=ae b0H λx=>xX x.1 x.2.1 x.2.2
def b0y:List MG:=[(false,(.ownb (.int .i64)))]
def a7E:FSpec:=⟨b0y,[],[uoM],λx=>zH x⟩
def b0z:List MG:=[uoM]
def a7F:FSpec:=⟨b0z,[uoM],[],λx=>oq x⟩
def qO(A:List Int):Option (List Int):=l9 (zH A) λx=>l9 (oq x) λx=>some x
def b2C:FQ:=⟨[uoM],tR 2 uoM,mE 7 [(217,a7E),(218,a7F)],H9⟩
def b4Q:FSpec:=ae b2C λx=>qO x
def qJ(A:List J4):Option (List Int×List Int×List Int):=l9 (dV (λ(x:List Int×List Int×List Int×Int)=>l7 (H6 x.2.2.2 (o9 A)) (l9 (L6 A x.2.2.2) λb=>l7 (C9 b.1 7) (l9 (bK x.1 [b.2]) λc=>some (.inl (c,x.2.1,x.2.2.1,F6 .i64 x.2.2.2 1))) (l7 (C9 b.1 8) (l9 (bK x.2.1 [b.2]) λc=>some (.inl (x.1,c,x.2.2.1,F6 .i64 x.2.2.2 1))) (l7 (C9 b.1 36) (l7 (C9 b.1 36) (l9 (bK x.2.2.1 [b.2]) λc=>some (.inl (x.1,x.2.1,c,F6 .i64 x.2.2.2 1))) (some (.inl (x.1,x.2.1,x.2.2.1,F6 .i64 x.2.2.2 1)))) (l7 (C9 b.1 37) (l7 (C9 b.1 37) (l9 (bK x.2.2.1 [b.2]) λc=>some (.inl (x.1,x.2.1,c,F6 .i64 x.2.2.2 1))) (some (.inl (x.1,x.2.1,x.2.2.1,F6 .i64 x.2.2.2 1)))) (l7 (C9 b.1 38) (l7 (C9 b.1 38) (l9 (bK x.2.2.1 [b.2]) λc=>some (.inl (x.1,x.2.1,c,F6 .i64 x.2.2.2 1))) (some (.inl (x.1,x.2.1,x.2.2.1,F6 .i64 x.2.2.2 1)))) (l7 (C9 b.1 39) (l9 (bK x.2.2.1 [b.2]) λc=>some (.inl (x.1,x.2.1,c,F6 .i64 x.2.2.2 1))) (some (.inl (x.1,x.2.1,x.2.2.1,F6 .i64 x.2.2.2 1))))))))) (some (.inr (x.1,x.2.1,x.2.2.1)))) ([],[],[],0)) λy=>l9 (qO y.1) λx=>l9 (qO y.2.1) λb=>l9 (qO y.2.2) λc=>some (x,b,c)
def b2k:FQ:=⟨[uD y12],⟨[(.tmp 2,uoM),(.tmp 3,uoM),(.tmp 4,uoM)],[]⟩,mE 49 [(243,b4Q)],sN 2 (aO (sN 1 (iR (.loop [(5,8),(9,10),(12,43)] ⟨[(5,uoM),(6,uoM),(7,uoM),(12,N7)],[]⟩ 0 ⟨[(5,uoM),(6,uoM),(7,uoM)],[]⟩ H9))) H9)⟩
def b4E:FSpec:=ae b2k λx=>qJ x
def qp(A:gp)(B:Int):Option (List Int):=l9 (qJ A.2.2.2.2.2.1) λx=>l9 (qJ A.2.2.2.2.2.2.1) λd=>l9 (dV (λ(b:List Int×Int)=>l7 (H6 b.2 (o9 x.2.1)) (l9 (L6 x.2.1 b.2) λc=>l9 (eH x.2.1 (dB b.2)) λx=>l7 (P7 0 x) (l7 (H6 x B) (l9 (bK b.1 [x]) λx=>some (.inl (x,F6 .i64 b.2 1))) (some (.inl (b.1,F6 .i64 b.2 1)))) (some (.inl (b.1,F6 .i64 b.2 1)))) (some (.inr b.1))) ([],0)) λy=>l9 (dV (λ(x:List Int×Int)=>l7 (H6 x.2 (o9 d.2.1)) (l9 (L6 d.2.1 x.2) λb=>l9 (eH d.2.1 (dB x.2)) λc=>l7 (P7 0 c) (l7 (H6 c B) (l9 (bK x.1 [c]) λf=>some (.inl (f,F6 .i64 x.2 1))) (some (.inl (x.1,F6 .i64 x.2 1)))) (some (.inl (x.1,F6 .i64 x.2 1)))) (some (.inr x.1))) (y,0)) λy=>some y
def b1O:FQ:=⟨[tD y19,N7],tR 4 uoM,mE 67 [(216,b4E)],sN 4 (aO (sN 1 (iR (.loop [(5,6),(13,14),(32,48)] ⟨[(5,uoM),(32,N7)],[]⟩ 0 ⟨[(5,uoM)],[]⟩ H9))) (aO (sN 1 (iR (.loop [(5,6),(15,16),(50,66),(21000000,21000001)] ⟨[(5,uoM),(50,N7)],[]⟩ 2 ⟨[(5,uoM)],[]⟩ H9))) H9))⟩
def b4k:FSpec:=ae b1O λx=>qp x.1 x.2
def zO(A:List Int):Option (List Int):=l9 (zH A) λx=>l9 (oq x) λx=>some x
def b1P:FQ:=⟨[uoM],tR 2 uoM,mE 7 [(217,a7E),(218,a7F)],H9⟩
def b4l:FSpec:=ae b1P λx=>zO x
def vX(A:J3):Option (List (List Int)):=l9 (FM (o9 A.2.2.2.1) []) λx=>l9 (dV (λ(x:List (List Int)×Int)=>l7 (H6 x.2 (o9 A.2.2.2.2)) (l9 (L6 A.2.2.2.2 x.2) λb=>l7 (P7 0 b.2.1) (l7 (H6 b.2.1 (o9 x.1)) (l7 (inb b.2.1 (o9 x.1)) (l9 (eH x.1 (dB b.2.1)) λc=>l9 (qp b (o9 x.1)) λd=>l9 (bK c d) λf=>l7 (inb b.2.1 (o9 x.1)) (l7 (Yr (dB b.2.1) (dB b.2.1)) (l9 (eH x.1 (dB b.2.1)) λg=>some (.inl (um x.1 (dB b.2.1) f,F6 .i64 x.2 1))) none) none) none) (some (.inl (x.1,F6 .i64 x.2 1)))) (some (.inl (x.1,F6 .i64 x.2 1)))) (some (.inr x.1))) (x,0)) λy=>l9 (dV (λ(x:List (List Int)×Int)=>l7 (H6 x.2 (o9 y)) (l7 (inb x.2 (o9 x.1)) (l9 (eH x.1 (dB x.2)) λb=>l9 (zO b) λc=>l7 (inb x.2 (o9 x.1)) (l7 (Yr (dB x.2) (dB x.2)) (l9 (eH x.1 (dB x.2)) λd=>some (.inl (um x.1 (dB x.2) c,F6 .i64 x.2 1))) none) none) none) (some (.inr x.1))) (y,0)) λy=>some y
def b1j:FQ:=⟨[tD y24],tR 2 (uD y59),⟨58,eqs,tt,gl,[(187,b4k),(188,b4l)],[(212,oiM)],[7,36,50,53],[],[],[]⟩,sN 2 (aO (sN 1 (iR (.loop [(3,4),(5,6),(15,44),(7000704,7000705)] ⟨[(3,(false,(.owns oiM))),(15,N7)],[]⟩ 0 ⟨[(3,(false,(.owns oiM)))],[]⟩ H9))) (aO (sN 1 (iR (.loop [(3,4),(6,8),(44,45),(46,57),(15000000,15000001)] ⟨[(3,(false,(.owns oiM))),(46,N7)],[(44,3)]⟩ 2 ⟨[(3,(false,(.owns oiM)))],[]⟩ H9))) H9))⟩
def b3M:FSpec:=ae b1j λx=>vX x
def yS(A:List (List Int))(B:Int):Option (List Int):=l9 (FM (o9 A) false) λx=>l9 (dV (λ(x:List Bool×List Int)=>l7 (H6 0 (o9 x.2)) (l9 (L6 x.2 0) λf=>l9 (eH x.2 (dB 0)) λd=>l7 (jK 1 (o9 x.2) (o9 x.2)) (l9 (L6 A d) λc=>l9 (dV (λ(x:List Bool×List Int×Int)=>l7 (H6 x.2.2 (o9 c)) (l9 (L6 c x.2.2) λb=>l9 (L6 x.1 b) λj=>l9 (eH x.1 (dB b)) λg=>l7 (G8 g) (l9 (L6 x.1 b) λk=>l9 (eH x.1 (dB b)) λn=>l9 (bK x.2.1 [b]) λi=>some (.inl (um x.1 (dB b) true,i,F6 .i64 x.2.2 1))) (some (.inl (x.1,x.2.1,F6 .i64 x.2.2 1)))) (some (.inr (x.1,x.2.1)))) (x.1,iP x.2 (dB 1) (dB (o9 x.2)),0)) λy=>some (.inl y)) none) (some (.inr x.1))) (x,[B])) λy=>l9 (dV (λ(x:List Int×Int)=>l7 (H6 x.2 (o9 y)) (l9 (L6 y x.2) λf=>l9 (eH y (dB x.2)) λd=>l7 d (l9 (bK x.1 [x.2]) λc=>some (.inl (c,F6 .i64 x.2 1))) (some (.inl (x.1,F6 .i64 x.2 1)))) (some (.inr x.1))) ([],0)) λy=>some y
def b1i:FQ:=⟨[uD y59,N7],tR 4 uoM,mE 62 [],sN 3 (aO (iR (.loop [(5,8),(9,10),(18,48),(7000960,7000961),(10001088,10001089)] ⟨[(5,(uO .bool)),(6,uoM)],[]⟩ 0 ⟨[(5,(uO .bool))],[]⟩ (sN 1 (iR (sN 3 (iR (.loop [(5,7),(9,10),(31,48),(14000000,14000002)] ⟨[(5,(uO .bool)),(6,uoM),(31,N7)],[]⟩ 2 ⟨[(5,(uO .bool)),(6,uoM)],[]⟩ H9))))))) (sN 1 (aO (sN 1 (iR (.loop [(10,13),(50,61)] ⟨[(10,uoM),(50,N7)],[]⟩ 4 ⟨[(10,uoM)],[]⟩ H9))) H9)))⟩
def b3L:FSpec:=ae b1i λx=>yS x.1 x.2
def uC(A:J3)(B:Int):Option (List Int):=l7 (H6 B 0) (some []) (l7 (P7 (o9 A.2.2.2.1) B) (some []) (l9 (vX A) λx=>l9 (yS x B) λx=>some x))
def b0J:FQ:=⟨[tD y24,N7],tR 4 uoM,mE 18 [(151,b3M),(150,b3L)],H9⟩
def b3t:FSpec:=ae b0J λx=>uC x.1 x.2
def sJ(A:List Int)(B:Int):Option Int:=l9 (U2 (λ(x:Int)=>l7 (H6 x (o9 A)) (l9 (L6 A x) λb=>l7 (C9 B b) (some (.rt x)) (some (.nx (F6 .i64 x 1)))) (some (.ex ()))) 0) λo=>X9 o (λy=>some (-1)) λr=>some r
def b1h:FQ:=⟨[uD y29,N7],tR 4 N7,mE 19 [],sN 1 (aO (sN 1 (iR (lpR [(4,6),(8,19)] ⟨[(8,N7)],[]⟩ 0 sgN H9))) H9)⟩
def b3K:FSpec:=ae b1h λx=>sJ x.1 x.2
def lm(A:List Int)(B:Int):Option Bool:=l9 (sJ A B) λx=>some (P7 0 x)
def b0I:FQ:=⟨[uD y29,N7],tR 4 bW,mE 9 [(149,b3K)],H9⟩
def b3s:FSpec:=ae b0I λx=>lm x.1 x.2
def wF(A:dL)(B:Int):Option J4:=l9 (L6 A.2.2 B) λx=>l9 (iD A.2.2 0 B) λf=>l9 (l9 (vK A.1 x.1) λd=>l7 d (some (x,true)) (l9 (wG A.2.1 x.1) λb=>l7 b (some (x,true)) (l9 (dn f x) λc=>some (x,c)))) λx=>l9 (l9 (bT x.1.1) λd=>l7 (G8 d) (some (.inr (2,0))) (l7 x.2 (some (.inr (7,0))) (l9 (l7 (G8 (C9 x.1.2.1 (-1))) (l7 (H6 x.1.2.1 0) (some true) (l7 (P7 B x.1.2.1) (some true) (l9 (L6 f x.1.2.1) λx=>some (G8 (C9 x.2.1 (-1)))))) (some false)) λb=>l7 b (some (.inr (6,0))) (l7 (H6 12 (o9 x.1.2.2.1)) (some (.inr (4,112))) (l7 (H6 12 (o9 x.1.2.2.2.1)) (some (.inr (4,212))) (some (.inl ()))))))) λo=>X9 o (λd=>l9 (U2 (λ(b:Int)=>l7 (H6 b (o9 x.1.2.2.1)) (l9 (L6 x.1.2.2.1 b) λc=>l9 (iD x.1.2.2.1 0 b) λx=>l9 (rU A c x []) λx=>l7 (G8 (C9 x 0)) (some (.rt (x,F6 .i64 100 b))) (some (.nx (F6 .i64 b 1)))) (some (.ex ()))) 0) λo=>X9 o (λy=>l9 (U2 (λ(b:Int)=>l7 (H6 b (o9 x.1.2.2.2.1)) (l9 (L6 x.1.2.2.2.1 b) λc=>l9 (iD x.1.2.2.2.1 0 b) λg=>l9 (rU A c x.1.2.2.1 g) λx=>l7 (G8 (C9 x 0)) (some (.rt (x,F6 .i64 200 b))) (some (.nx (F6 .i64 b 1)))) (some (.ex ()))) 0) λo=>X9 o (λy=>l9 (lU A B) λb=>l9 (U2 (λ(c:Int)=>l7 (H6 c (o9 x.1.2.2.2.2)) (l9 (xX x.1 c b) λx=>l7 (G8 (C9 x 0)) (some (.rt (x,F6 .i64 300 c))) (some (.nx (F6 .i64 c 1)))) (some (.ex ()))) 0) λo=>X9 o (λy=>l9 (U2 (λ(c:Int)=>l7 (H6 c (o9 x.1.2.2.2.1)) (l9 (uC x.1 c) λx=>l9 (lm x c) λx=>l7 x (some (.rt (9,F6 .i64 200 c))) (some (.nx (F6 .i64 c 1)))) (some (.ex ()))) 0) λo=>X9 o (λy=>some (0,0)) λr=>some r) λr=>some r) λr=>some r) λr=>some r) λr=>some r
def q62:FQ:=⟨[tD y27,N7],⟨[(.tmp 4,N7),(.tmp 5,N7)],[]⟩,mE 163 [(60,s60),(61,s61),(109,YS),(108,a3f),(59,s59),(110,b3p),(111,b3q),(112,b3r),(114,b3t),(113,b3s)],sN 3 (aO (.join [(6,7),(8,9),(28,45),(7000384,7000385)] ⟨[(6,(false,(.rp y24))),(8,bW)],[]⟩ H9) (aO (jnR [(4,6),(45,86)] sgN (iR (sN 1 (.cond H9 (sN 1 (.cond H9 (aO (.join [(52,76)] ⟨[(52,bW)],[]⟩ H9) H9))))))) (aO (sN 1 (iR (lpR [(4,6),(9,12),(89,107)] ⟨[(89,N7)],[]⟩ 1 sgN H9))) (aO (sN 1 (iR (lpR [(4,6),(12,15),(110,130)] ⟨[(110,N7)],[]⟩ 3 sgN H9))) (sN 1 (aO (sN 1 (iR (lpR [(4,6),(16,18),(136,149)] ⟨[(136,N7)],[]⟩ 5 sgN H9))) (aO (sN 1 (iR (lpR [(4,6),(18,19),(152,163)] ⟨[(152,N7)],[]⟩ 7 sgN H9))) H9)))))))⟩
def s62:FSpec:=ae q62 λx=>wF x.1 x.2
def uG(A:dL):Option X0:=l7 (H6 4 (o9 A.2.2)) (some (4,3,4,0)) (l9 (U2 (λ(x:X0×Int)=>l7 (H6 x.2 (o9 A.2.2)) (l9 (wF A x.2) λb=>l7 (G8 (C9 b.1 0)) (some (.rt (b.1,3,x.2,b.2))) (some (.nx (x.1,F6 .i64 x.2 1)))) (some (.ex x.1))) ((0,0,0,0),0)) λo=>X9 o (λ(y:X0)=>some (0,0,0,0)) λr=>some r)
def q34:FQ:=⟨[tD y27],cR 2 64 (tD y35),mE 31 [(62,s62)],sN 2 (aO (sN 1 (iR (lpR [(2,6),(14,30),(4000128,4000129)] ⟨[(2,(false,(.box (dT y35)))),(14,N7)],[]⟩ 0 ⟨[(2,(false,(.box (dT y35))))],[]⟩ H9))) H9)⟩
def s34:FSpec:=ae q34 λx=>uG x
def wC(A:dL):Option X0:=l9 (wE A) λx=>l7 (G8 (C9 x.1 0)) (some x) (l9 (uH A) λx=>l7 (G8 (C9 x.1 0)) (some x) (l9 (uG A) λx=>some x))
def q13:FQ:=⟨[tD y27],cR 2 64 (tD y35),mE 19 [(32,s32),(33,s33),(34,s34)],H9⟩
def s13:FSpec:=ae q13 λx=>wC x
def b6K:List MG:=[(false,(.sbx 69 5)),(false,(.dat .str))]
def s14:FSpec:=⟨b6K,[N7,(false,(.cell none))],[(false,(.sbx 69 5))],λx=>jZ x.1 x.2⟩
def b6N:List MG:=[(false,(.dat (.sl .str)))]
def s64:FSpec:=⟨b6N,[(false,(.own .str))],[],λx=>zq x⟩
def rV(A:List dM):Option (List dM):=l9 (dV (λ(x:List dM×Int)=>l7 (H6 x.2 (o9 A)) (l9 (L6 A x.2) λb=>l9 (zq b.2) λc=>l9 (bK x.1 [(b.1,c)]) λd=>some (.inl (d,F6 .i64 x.2 1))) (some (.inr x.1))) ([],0)) λy=>some y
def q36:FQ:=⟨[uD y1],tR 2 (uO y0),mE 23 [(64,s64)],sN 2 (aO (sN 1 (iR (.loop [(3,4),(5,6),(8,22)] ⟨[(3,(uO y0)),(8,N7)],[]⟩ 0 ⟨[(3,(uO y0))],[]⟩ H9))) H9)⟩
def s36:FSpec:=ae q36 λx=>rV x
def pR(A:List jw):Option (List (List UInt8)):=l9 (dV (λ(x:List (List UInt8)×Int)=>l7 (H6 x.2 (o9 A)) (l9 (L6 A x.2) λb=>l9 (bK x.1 [b.1]) λc=>some (.inl (c,F6 .i64 x.2 1))) (some (.inr x.1))) ([],0)) λy=>some y
def q37:FQ:=⟨[uD y11],tR 2 (uO .str),mE 19 [],sN 2 (aO (sN 1 (iR (.loop [(3,4),(5,6),(8,18)] ⟨[(3,(uO .str)),(8,N7)],[]⟩ 0 ⟨[(3,(uO .str))],[]⟩ H9))) H9)⟩
def s37:FSpec:=ae q37 λx=>pR x
def nX(A:dL)(B:Int):Option D9:=l9 (l7 (H6 B 0) (some (.inr ([],[],[],[],[]))) (l7 (P7 (o9 A.2.2) B) (some (.inr ([],[],[],[],[]))) (some (.inl ([],[],[],[],[]))))) λo=>X9 o (λ(x:D9)=>l9 (L6 A.2.2 B) λx=>l9 (rV A.1) λb=>l9 (pR x.2.2.1) λc=>l9 (pR x.2.2.2.1) λd=>l9 (dV (λ(x:D9×Int)=>l7 (H6 x.2 (o9 A.2.1)) (l9 (L6 A.2.1 x.2) λf=>l9 (bK x.1.2.1 [f.1]) λg=>some (.inl ((x.1.1,g,x.1.2.2),F6 .i64 x.2 1))) (some (.inr x.1))) ((b,[],c,d,[]),0)) λy=>l7 (P7 0 x.2.1) (l7 (H6 x.2.1 (o9 A.2.2)) (l9 (L6 A.2.2 x.2.1) λx=>l9 (pR x.2.2.2.1) λx=>some (y.1,y.2.1,y.2.2.1,y.2.2.2.1,x)) (some y)) (some y)) λr=>some r
def q15:FQ:=⟨[tD y27,N7],cR 4 77 (tD ja),mE 70 [(36,s36),(37,s37)],sN 1 (aO (jnR [(4,5),(9,19),(4000256,4000257)] ⟨[(4,(false,(.box (dT ja))))],[]⟩ H9) (sN 2 (aO (sN 1 (iR (.loop [(6,7),(8,9),(37,49),(20000384,20000385),(20001664,20001665),(20001856,20001857),(20002048,20002049)] ⟨[(6,(false,(.box (pA (oW y0) (pA (oW .str) (pA (oW .str) (pA (oW .str) (dT (.sl .str))))))))),(37,N7)],[]⟩ 0 ⟨[(6,(false,(.box (pA (oW y0) (pA (oW .str) (pA (oW .str) (pA (oW .str) (dT (.sl .str)))))))))],[]⟩ H9))) H9)))⟩
def s15:FSpec:=ae q15 λx=>nX x.1 x.2
def Bf(A:List J4):Option (List Int×Int):=l9 (rM A) λx=>some (x.1,x.2.2)
def q38:FQ:=⟨[uD y12],⟨[(.tmp 2,uoM),(.tmp 3,N7)],[]⟩,mE 15 [(65,s65)],H9⟩
def s38:FSpec:=ae q38 λx=>Bf x
def oL(A:Int)(B:J4)(C:List dM):Option Bool:=l9 (jM B C) λx=>l7 (P7 x.1 A) (some (P7 A x.2)) (some false)
def b1k:FQ:=⟨[N7,tD y2,uD y1],tR 6 bW,mE 23 [(96,s96)],H9⟩
def b3N:FSpec:=ae b1k λx=>oL x.1 x.2.1 x.2.2
def b0v:List MG:=[N7]
def b4m:FSpec:=⟨b0v,[(false,(.dat .str))],[],λx=>Cm x⟩
def lh(A:Int):Option (List UInt8):=l9 (Cm A) λx=>some x
def b1l:FQ:=⟨[N7],tR 2 (uD .str),mE 5 [(189,b4m)],H9⟩
def a5I:FSpec:=ae b1l λx=>lh x
def pz(A:Int):Option Int:=some (ww 0 (wz A 9))
def b1Q:FQ:=⟨[N7],tR 2 N7,mE 6 [],H9⟩
def a7B:FSpec:=ae b1Q λx=>pz x
def b0w:List MG:=[(false,(.dat .str)),N7]
def a7C:FSpec:=⟨b0w,[(false,(.dat .str))],[],λx=>qm x.1 x.2⟩
def bi(A:Int)(B:Int):Option (List UInt8):=l9 (pz B) λx=>l9 (lh A) λc=>l7 (C9 x 0) (some c) (l7 (H6 A 0) (l9 (iD c 1 (o9 c)) λb=>l7 (P7 (o9 b) x) (l9 (qm [48] (Y1 .i64 (F6 .i64 x 1) (o9 b))) λd=>l9 (J5 d b) λf=>l9 (iD f 0 (Y1 .i64 (o9 f) x)) λg=>l9 (J5 [45] g) λi=>l9 (J5 i [46]) λj=>l9 (iD f (Y1 .i64 (o9 f) x) (o9 f)) λx=>l9 (J5 j x) λx=>some x) (l9 (iD b 0 (Y1 .i64 (o9 b) x)) λd=>l9 (J5 [45] d) λf=>l9 (J5 f [46]) λg=>l9 (iD b (Y1 .i64 (o9 b) x) (o9 b)) λx=>l9 (J5 g x) λx=>some x)) (l7 (P7 (o9 c) x) (l9 (qm [48] (Y1 .i64 (F6 .i64 x 1) (o9 c))) λb=>l9 (J5 b c) λd=>l9 (iD d 0 (Y1 .i64 (o9 d) x)) λf=>l9 (J5 [] f) λg=>l9 (J5 g [46]) λi=>l9 (iD d (Y1 .i64 (o9 d) x) (o9 d)) λx=>l9 (J5 i x) λx=>some x) (l9 (iD c 0 (Y1 .i64 (o9 c) x)) λb=>l9 (J5 [] b) λd=>l9 (J5 d [46]) λf=>l9 (iD c (Y1 .i64 (o9 c) x) (o9 c)) λx=>l9 (J5 f x) λx=>some x)))
def b1m:FQ:=⟨[N7,N7],tR 4 (uD .str),mE 45 [(190,a7B),(153,a5I),(191,a7C)],H9⟩
def b3O:FSpec:=ae b1m λx=>bi x.1 x.2
def zN(A:Int):Option Bool:=l7 (P7 0 A) (some (P7 A 109572)) (some false)
def b1R:FQ:=⟨[N7],tR 2 bW,mE 9 [],H9⟩
def a7D:FSpec:=ae b1R λx=>zN x
def rH(A:Int):Option Int:=some (F6 .i64 (Y1 .i64 (eU .i64 A 4) (eU .i64 A 100)) (eU .i64 A 400))
def b2D:FQ:=⟨[N7],tR 2 N7,mE 11 [],H9⟩
def b4R:FSpec:=ae b2D λx=>rH x
def ny(A:Int):Option Int:=l9 (rH (Y1 .i64 A 1)) λx=>l9 (rH 1899) λb=>some (Y1 .i64 (F6 .i64 (DU .i64 (Y1 .i64 A 1900) 365) x) b)
def b2l:FQ:=⟨[N7],tR 2 N7,mE 12 [(250,b4R)],H9⟩
def a7G:FSpec:=ae b2l λx=>ny x
def AZ(A:Int):Option Bool:=l7 (C9 (jP A 4) 0) (l7 (G8 (C9 (jP A 100) 0)) (some true) (some (C9 (jP A 400) 0))) (some false)
def b2E:FQ:=⟨[N7],tR 2 bW,mE 16 [],H9⟩
def b4S:FSpec:=ae b2E λx=>AZ x
def kw(A:Int)(B:Int):Option Int:=l7 (H6 B 1) (some 0) (l7 (H6 12 B) (some 0) (l7 (C9 B 2) (l9 (AZ A) λx=>l7 x (some 29) (l9 (L6 [31,28,31,30,31,30,31,31,30,31,30,31] (Y1 .i64 B 1)) λx=>some x)) (l9 (L6 [31,28,31,30,31,30,31,31,30,31,30,31] (Y1 .i64 B 1)) λx=>some x)))
def b2m:FQ:=⟨[N7,N7],tR 4 N7,mE 21 [(251,b4S)],H9⟩
def a7H:FSpec:=ae b2m λx=>kw x.1 x.2
def DC(A:Int):Option ES:=l9 (zN A) λx=>l7 (G8 x) (some (0,0,0)) (l9 (dV (λ(x:Int)=>l9 (ny (F6 .i64 x 1)) λb=>l7 (P7 b A) (some (.inl (F6 .i64 x 1))) (some (.inr x))) (F6 .i64 1900 (eU .i64 A 366))) λy=>l9 (ny y) λx=>l9 (U2 (λ(x:J4)=>l7 (H6 x.2 12) (l9 (kw y (F6 .i64 x.2 1)) λb=>l7 (H6 x.1 b) (some (.rt (y,F6 .i64 x.2 1,F6 .i64 x.1 1))) (some (.nx (Y1 .i64 x.1 b,F6 .i64 x.2 1)))) (some (.ex ()))) (Y1 .i64 A x,0)) λo=>X9 o (λy=>some (0,0,0)) λr=>some r)
def b1S:FQ:=⟨[N7],⟨[(.tmp 2,N7),(.tmp 3,N7),(.tmp 4,N7)],[]⟩,mE 45 [(192,a7D),(222,a7G),(223,a7H)],sN 3 (aO (iR (.loop [(5,6),(15,22)] ⟨[(5,N7)],[]⟩ 0 ⟨[(5,N7)],[]⟩ H9)) (sN 1 (aO (sN 1 (iR (lpR [(2,5),(6,9),(26,45)] ⟨[(6,N7),(26,N7)],[]⟩ 2 sgN H9))) H9)))⟩
def b4n:FSpec:=ae b1S λx=>DC x
def zM(A:Int)(B:Int):Option (List UInt8):=l9 (lh A) λx=>l9 (qm [48] (ww 0 (Y1 .i64 B (o9 x)))) λb=>l9 (J5 b x) λx=>some x
def b1T:FQ:=⟨[N7,N7],tR 4 (uD .str),mE 16 [(153,a5I),(191,a7C)],H9⟩
def b4o:FSpec:=ae b1T λx=>zM x.1 x.2
def AY(A:Int):Option (List UInt8):=l9 (zN A) λx=>l7 (G8 x) (some []) (l9 (DC A) λx=>l9 (zM x.1 4) λb=>l9 (J5 b [45]) λc=>l9 (zM x.2.1 2) λd=>l9 (J5 c d) λf=>l9 (J5 f [45]) λg=>l9 (zM x.2.2 2) λx=>l9 (J5 g x) λx=>some x)
def b1n:FQ:=⟨[N7],tR 2 (uD .str),mE 25 [(192,a7D),(193,b4n),(194,b4o)],H9⟩
def b3P:FSpec:=ae b1n λx=>AY x
def mO(A:ES)(B:List dM):Option (List UInt8×Int):=l9 (aH (A.1,A.2.1) B) λx=>l7 (G8 x) (some ([],8)) (l9 (oL A.2.2 (A.1,A.2.1) B) λx=>l7 (G8 x) (some ([],3)) (l7 (C9 A.1 1) (l7 (C9 A.2.2 0) (some ([102,97,108,115,101],0)) (some ([116,114,117,101],0))) (l7 (C9 A.1 2) (l9 (lh A.2.2) λx=>some (x,0)) (l7 (C9 A.1 3) (l9 (bi A.2.2 2) λx=>some (x,0)) (l7 (C9 A.1 4) (l9 (bi A.2.2 4) λx=>l9 (J5 x [37]) λx=>some (x,0)) (l7 (C9 A.1 5) (l9 (AY A.2.2) λx=>some (x,0)) (l9 (L6 B A.2.1) λx=>l9 (L6 x.2 A.2.2) λx=>some (x,0))))))))
def b0K:FQ:=⟨[tD y3,uD y1],⟨[(.tmp 4,(uD .str)),(.tmp 5,N7)],[]⟩,mE 60 [(95,s95),(152,b3N),(153,a5I),(154,b3O),(155,b3P)],H9⟩
def b3u:FSpec:=ae b0K λx=>mO x.1 x.2
def Y9(A:List UInt8):Option H5:=some (A,7,false)
def q69:FQ:=⟨[uD .str],cR 2 109 (tD y44),mE 5 [],H9⟩
def s69:FSpec:=ae q69 λx=>Y9 x
def lZ(A:J4):Option (H5×Int):=l9 (mO (A.1,0,A.2) []) λx=>l7 (G8 (C9 x.2 0)) (some (([],0,false),3)) (l9 (Y9 x.1) λx=>l7 (C9 A.1 2) (l7 (H6 A.2 0) (some ((x.1,6,true),0)) (some ((x.1,x.2.1,true),0))) (l7 (C9 A.1 3) (l7 (H6 A.2 0) (some ((x.1,6,true),0)) (some ((x.1,x.2.1,true),0))) (l7 (C9 A.1 4) (l7 (H6 A.2 0) (some ((x.1,6,C9 A.1 4),0)) (some ((x.1,x.2.1,C9 A.1 4),0))) (some ((x.1,x.2.1,C9 A.1 4),0)))))
def q66:FQ:=⟨[tD y2],⟨[(.cell 2 109,tD y44),(.tmp 3,N7)],[]⟩,mE 44 [(115,b3u),(69,s69)],H9⟩
def s66:FSpec:=ae q66 λx=>lZ x
def fM(A:Int):Option (List UInt8):=l7 (C9 A 14) (some [115,104,97,114,101]) (l7 (C9 A 15) (some [100,105,118]) (l7 (C9 A 16) (some [114,111,117,110,100]) (l7 (C9 A 17) (some [109,105,110]) (l7 (C9 A 18) (some [109,97,120]) (l7 (C9 A 27) (some [112,108,117,115]) (l7 (C9 A 28) (some [109,111,110,116,104,115]) (l7 (C9 A 29) (some [100,97,121,115]) (l7 (C9 A 30) (some [121,101,97,114,115]) (l7 (C9 A 31) (some [121,101,97,114]) (l7 (C9 A 32) (some [109,111,110,116,104]) (l7 (C9 A 33) (some [116,97,98]) (l7 (C9 A 34) (some [98,97,110,100]) (l7 (C9 A 35) (some [99,111,117,110,116]) (l7 (C9 A 36) (some [115,117,109]) (l7 (C9 A 37) (some [97,108,108]) (l7 (C9 A 38) (some [97,110,121]) (l7 (C9 A 39) (some [109,111,115,116]) (some []))))))))))))))))))
def q70:FQ:=⟨[N7],tR 2 (uD .str),mE 40 [],H9⟩
def s70:FSpec:=ae q70 λx=>fM x
def dh(A:J4)(B:D9):Option (H5×Int):=l9 (l7 (C9 A.1 6) (l7 (H6 A.2 0) (some (.inr (([],0,false),6))) (l7 (P7 (o9 B.1) (eU .i64 A.2 16)) (some (.inr (([],0,false),6))) (l9 (L6 B.1 (eU .i64 A.2 16)) λx=>l9 (J5 x.1 [58]) λb=>some (.inl (([],0,false),x.2,jP A.2 16,b,[]))))) (l7 (C9 A.1 7) (some (.inl (([],0,false),B.2.2.1,A.2,[],[]))) (l7 (C9 A.1 8) (some (.inl (([],0,false),B.2.2.2.1,A.2,[],[]))) (l9 (fM A.1) λx=>l9 (J5 x [40]) λx=>some (.inl (([],0,false),B.2.2.2.2,A.2,x,[41])))))) λo=>X9 o (λ(x:H5×List (List UInt8)×Int×List UInt8×List UInt8)=>l7 (H6 x.2.2.1 0) (some (([],0,false),6)) (l7 (P7 (o9 x.2.1) x.2.2.1) (some (([],0,false),6)) (l9 (L6 x.2.1 x.2.2.1) λb=>l9 (J5 x.2.2.2.1 b) λc=>l9 (J5 c x.2.2.2.2) λx=>l9 (Y9 x) λx=>some (x,0)))) λr=>some r
def q67:FQ:=⟨[tD y2,tD ja],⟨[(.cell 4 109,tD y44),(.tmp 5,N7)],[]⟩,mE 77 [(70,s70),(69,s69)],sN 2 (aO (jnR [(4,11),(15,59),(4000256,4000257)] ⟨[(4,(false,(.box (dT y44)))),(6,(uD (.sl .str))),(7,N7),(8,(uD .str)),(9,(uD .str))],[]⟩ H9) H9)⟩
def s67:FSpec:=ae q67 λx=>dh x.1 x.2
def dD(A:Int):Option (List UInt8):=l7 (C9 A 0) (some [100,111,119,110]) (l7 (C9 A 1) (some [117,112]) (l7 (C9 A 2) (some [122,101,114,111]) (l7 (C9 A 3) (some [97,119,97,121]) (l7 (C9 A 4) (some [104,97,108,102]) (l7 (C9 A 5) (some [101,118,101,110]) (some []))))))
def q71:FQ:=⟨[N7],tR 2 (uD .str),mE 16 [],H9⟩
def s71:FSpec:=ae q71 λx=>dD x
def eQ(A:J4)(B:H5)(C:D9):Option (H5×Int):=l9 (l7 (C9 A.1 34) (l7 (H6 0 A.2) (some (eU .i64 A.2 8)) (some A.2)) (some A.2)) λx=>l9 (l7 (H6 x 0) (some (.inr (([],0,false),6))) (l7 (P7 (o9 C.2.1) x) (some (.inr (([],0,false),6))) (some (.inl ([],0,false))))) λo=>X9 o (λ(g:H5)=>l9 (fM A.1) λc=>l9 (J5 c [40]) λd=>l9 (L6 C.2.1 x) λx=>l9 (J5 d x) λx=>l9 (J5 x [44,32]) λx=>l9 (J5 x B.1) λx=>l7 (C9 A.1 34) (l9 (dD (jP A.2 8)) λb=>l7 (seq b []) (some (([],0,false),3)) (l9 (J5 [44,32] b) λf=>l9 (J5 x f) λx=>l9 (J5 x [41]) λx=>l9 (Y9 x) λx=>some (x,0))) (l9 (J5 x [41]) λx=>l9 (Y9 x) λx=>some (x,0))) λr=>some r
def q68:FQ:=⟨[tD y2,tD y44,tD ja],⟨[(.cell 6 109,tD y44),(.tmp 7,N7)],[]⟩,mE 63 [(70,s70),(71,s71),(69,s69)],sN 2 (aO (.join [(8,9),(13,22)] ⟨[(8,N7)],[]⟩ H9) (aO (jnR [(6,8),(22,32),(4000384,4000385)] ⟨[(6,(false,(.box (dT y44))))],[]⟩ H9) H9))⟩
def s68:FSpec:=ae q68 λx=>eQ x.1 x.2.1 x.2.2
def dC(A:H5)(B:Int):Option (List UInt8):=l7 (H6 A.2.1 B) (l9 (J5 [40] A.1) λx=>l9 (J5 x [41]) λx=>some x) (some A.1)
def q72:FQ:=⟨[tD y44,N7],tR 4 (uD .str),mE 15 [],H9⟩
def s72:FSpec:=ae q72 λx=>dC x.1 x.2
def fJ(A:Int):Option (List UInt8×Int):=l7 (C9 A 24) (some ([111,114],1)) (l7 (C9 A 23) (some ([97,110,100],2)) (l7 (C9 A 19) (some ([61,61],3)) (l7 (C9 A 20) (some ([33,61],3)) (l7 (C9 A 21) (some ([60],3)) (l7 (C9 A 22) (some ([60,61],3)) (l7 (C9 A 11) (some ([43],4)) (l7 (C9 A 12) (some ([45],4)) (l7 (C9 A 13) (some ([42],5)) (some ([],0))))))))))
def q73:FQ:=⟨[N7],⟨[(.tmp 2,(uD .str)),(.tmp 3,N7)],[]⟩,mE 23 [],H9⟩
def s73:FSpec:=ae q73 λx=>fJ x
def U8(A:J4)(B:List H5)(C:D9):Option (H5×Int):=l9 (l9 (l7 (C9 A.1 1) (some (C9 A.1 1)) (l7 (C9 A.1 2) (some (C9 A.1 2)) (l7 (C9 A.1 3) (some (C9 A.1 3)) (l7 (C9 A.1 4) (some (C9 A.1 4)) (some (C9 A.1 5)))))) λx=>l7 x (l9 (lZ A) λx=>some (.inr x)) (l9 (l7 (C9 A.1 6) (some (C9 A.1 6)) (l7 (C9 A.1 7) (some (C9 A.1 7)) (l7 (C9 A.1 8) (some (C9 A.1 8)) (l7 (C9 A.1 36) (some (C9 A.1 36)) (l7 (C9 A.1 37) (some (C9 A.1 37)) (l7 (C9 A.1 38) (some (C9 A.1 38)) (some (C9 A.1 39)))))))) λx=>l7 x (l9 (dh A C) λx=>some (.inr x)) (l9 (l7 (C9 A.1 33) (some (C9 A.1 33)) (some (C9 A.1 34))) λx=>l7 x (l9 (L6 B 0) λx=>l9 (eQ A x C) λx=>some (.inr x)) (l7 (C9 A.1 9) (l9 (Y9 [116,111,100,97,121]) λx=>some (.inr (x,0))) (l7 (C9 A.1 35) (l9 (Y9 [99,111,117,110,116,40,41]) λx=>some (.inr (x,0))) (l9 (l7 (C9 A.1 31) (some (C9 A.1 31)) (some (C9 A.1 32))) λx=>l7 x (l9 (fM A.1) λx=>l9 (J5 x [40]) λx=>l9 (L6 B 0) λb=>l9 (J5 x b.1) λx=>l9 (J5 x [41]) λx=>l9 (Y9 x) λx=>some (.inr (x,0))) (l9 (l7 (C9 A.1 17) (some (C9 A.1 17)) (l7 (C9 A.1 18) (some (C9 A.1 18)) (l7 (C9 A.1 27) (some (C9 A.1 27)) (l7 (C9 A.1 28) (some (C9 A.1 28)) (l7 (C9 A.1 29) (some (C9 A.1 29)) (some (C9 A.1 30))))))) λx=>l7 x (l9 (fM A.1) λx=>l9 (J5 x [40]) λx=>l9 (L6 B 0) λb=>l9 (J5 x b.1) λx=>l9 (J5 x [44,32]) λx=>l9 (L6 B 1) λc=>l9 (J5 x c.1) λx=>l9 (J5 x [41]) λx=>l9 (Y9 x) λx=>some (.inr (x,0))) (l9 (l7 (C9 A.1 14) (some (C9 A.1 14)) (l7 (C9 A.1 15) (some (C9 A.1 15)) (some (C9 A.1 16)))) λx=>l7 x (l9 (dD A.2) λx=>l7 (seq x []) (some (.inr (([],0,false),3))) (l9 (fM A.1) λb=>l9 (J5 b [40]) λc=>l9 (L6 B 0) λd=>l9 (J5 c d.1) λf=>l9 (J5 f [44,32]) λg=>l9 (L6 B 1) λi=>l9 (J5 g i.1) λj=>l9 (J5 j [44,32]) λk=>l9 (J5 k x) λx=>l9 (J5 x [41]) λx=>l9 (Y9 x) λx=>some (.inr (x,0)))) (l7 (C9 A.1 26) (l9 (L6 B 0) λx=>l9 (J5 [105,102,32] x.1) λx=>l9 (J5 x [32,116,104,101,110,32]) λx=>l9 (L6 B 1) λb=>l9 (J5 x b.1) λx=>l9 (J5 x [32,101,108,115,101,32]) λx=>l9 (L6 B 2) λc=>l9 (J5 x c.1) λx=>some (.inr ((x,0,false),0))) (l7 (C9 A.1 25) (l9 (L6 B 0) λx=>l9 (dC x 6) λx=>l9 (J5 [110,111,116,32] x) λx=>some (.inr ((x,6,false),0))) (l7 (C9 A.1 10) (l9 (L6 B 0) λx=>l9 (dC x 6) λx=>l9 (L6 B 0) λb=>l7 b.2.2 (l9 (L6 B 0) λx=>l9 (J5 [40] x.1) λx=>l9 (J5 x [41]) λx=>l9 (J5 [45] x) λx=>some (.inr ((x,6,false),0))) (l9 (J5 [45] x) λx=>some (.inr ((x,6,false),0)))) (some (.inl ([],0,false)))))))))))))) λo=>X9 o (λ(x:H5)=>l9 (fJ A.1) λx=>l7 (C9 x.2 3) (l9 (L6 B 0) λb=>l9 (dC b 4) λc=>l9 (J5 c [32]) λd=>l9 (J5 d x.1) λf=>l9 (J5 f [32]) λg=>l9 (L6 B 1) λi=>l9 (dC i (F6 .i64 x.2 1)) λj=>l9 (J5 g j) λk=>some ((k,x.2,false),0)) (l9 (L6 B 0) λb=>l9 (dC b x.2) λc=>l9 (J5 c [32]) λd=>l9 (J5 d x.1) λf=>l9 (J5 f [32]) λg=>l9 (L6 B 1) λi=>l9 (dC i (F6 .i64 x.2 1)) λj=>l9 (J5 g j) λk=>some ((k,x.2,false),0))) λr=>some r
def q41:FQ:=⟨[tD y2,uD y45,tD ja],⟨[(.cell 6 109,tD y44),(.tmp 7,N7)],[]⟩,mE 203 [(66,s66),(67,s67),(68,s68),(69,s69),(70,s70),(71,s71),(72,s72),(73,s73)],sN 1 (aO (jnR [(6,11),(16,174),(4000384,4000385)] ⟨[(6,(false,(.box (dT y44))))],[]⟩ (sN 1 (iR (aO (.join [(18,24)] ⟨[(18,bW)],[]⟩ H9) (.cond H9 (aO (.join [(28,36)] ⟨[(28,bW)],[]⟩ H9) (.cond H9 (aO (.join [(41,44)] ⟨[(41,bW)],[]⟩ H9) (.cond H9 (sN 1 (.cond H9 (sN 1 (.cond H9 (aO (.join [(58,61)] ⟨[(58,bW)],[]⟩ H9) (.cond H9 (aO (.join [(72,79)] ⟨[(72,bW)],[]⟩ H9) (.cond H9 (aO (.join [(96,100)] ⟨[(96,bW)],[]⟩ H9) H9)))))))))))))))))) H9)⟩
def s41:FSpec:=ae q41 λx=>U8 x.1 x.2.1 x.2.2
def lJ(A:List J4)(B:D9):Option (List UInt8×Int):=l9 (Bf A) λx=>l7 (G8 (C9 x.2 0)) (some ([],x.2)) (l9 (U2 (λ(x:List H5×Int)=>l7 (H6 x.2 (o9 A)) (l9 (L6 A x.2) λc=>l7 (G8 (C9 c.2 0)) (l9 (aJ c.1) λd=>l7 (G8 d) (some (.rt ([],2))) (l9 (jB c.1) λb=>l7 (jK (Y1 .i64 (o9 x.1) b) (o9 x.1) (o9 x.1)) (l9 (U8 c (iP x.1 (dB (Y1 .i64 (o9 x.1) b)) (dB (o9 x.1))) B) λf=>l7 (G8 (C9 f.2 0)) (some (.rt ([],f.2))) (l7 (jK 0 (Y1 .i64 (o9 x.1) b) (o9 x.1)) (l9 (bK (iP x.1 (dB 0) (dB (Y1 .i64 (o9 x.1) b))) [f.1]) λg=>some (.nx (g,F6 .i64 x.2 1))) none)) none)) (l9 (jB c.1) λd=>l7 (jK (Y1 .i64 (o9 x.1) d) (o9 x.1) (o9 x.1)) (l9 (U8 c (iP x.1 (dB (Y1 .i64 (o9 x.1) d)) (dB (o9 x.1))) B) λb=>l7 (G8 (C9 b.2 0)) (some (.rt ([],b.2))) (l7 (jK 0 (Y1 .i64 (o9 x.1) d) (o9 x.1)) (l9 (bK (iP x.1 (dB 0) (dB (Y1 .i64 (o9 x.1) d))) [b.1]) λf=>some (.nx (f,F6 .i64 x.2 1))) none)) none)) (some (.ex x.1))) ([],0)) λo=>X9 o (λ(y:List H5)=>l9 (L6 y 0) λx=>l9 (eH y (dB 0)) λx=>some (x.1,0)) λr=>some r)
def q16:FQ:=⟨[uD y12,tD ja],⟨[(.tmp 4,(uD .str)),(.tmp 5,N7)],[]⟩,mE 66 [(38,s38),(39,s39),(40,s40),(41,s41)],sN 3 (aO (sN 1 (iR (lpR [(4,6),(8,9),(10,14),(24,62)] ⟨[(8,(uO y44)),(24,N7)],[]⟩ 0 ⟨[(8,(uO y44))],[]⟩ H9))) H9)⟩
def s16:FSpec:=ae q16 λx=>lJ x.1 x.2
def oK(A:Int):Option Int:=some (wz (ww A 0) 8)
def q74:FQ:=⟨[N7],tR 2 N7,mE 6 [],H9⟩
def s74:FSpec:=ae q74 λx=>oK x
def qR(A:J4)(B:Int):Option Bool:=l7 (P7 0 A.1) (l9 (oK B) λx=>l9 (ZU .i64 1 x) λx=>l7 (H6 A.1 x) (l7 (P7 0 A.2) (some (C9 (xx .i64 A.2 A.1) A.2)) (some false)) (some false)) (some false)
def q42:FQ:=⟨[tD y2,N7],tR 4 bW,mE 31 [(74,s74)],H9⟩
def s42:FSpec:=ae q42 λx=>qR x.1 x.2
def sO(A:J4)(B:Int):Option (List UInt8):=l9 (oK B) λx=>l9 (dV (λ(x:List Int×Int)=>l7 (P7 0 x.2) (l9 (Ik .i64 A.1 x.2) λd=>l7 (C9 (xx .i64 d 1) 0) (l9 (bK x.1 [45]) λb=>some (.inl (b,Y1 .i64 x.2 1))) (l9 (Ik .i64 A.2 x.2) λb=>l7 (C9 (xx .i64 b 1) 1) (l9 (bK x.1 [49]) λc=>some (.inl (c,Y1 .i64 x.2 1))) (l9 (bK x.1 [48]) λc=>some (.inl (c,Y1 .i64 x.2 1))))) (some (.inr x.1))) ([],Y1 .i64 x 1)) λy=>some (EM y)
def q43:FQ:=⟨[tD y2,N7],tR 4 (uD .str),mE 39 [(74,s74)],sN 2 (aO (sN 1 (iR (.loop [(5,7),(10,37)] ⟨[(5,(false,(oW (.int .u8)))),(6,N7)],[]⟩ 0 ⟨[(5,(false,(oW (.int .u8))))],[]⟩ H9))) H9)⟩
def s43:FSpec:=ae q43 λx=>sO x.1 x.2
def kR(A:J3)(B:aA)(C:Int):Option (List UInt8×Int):=l9 (qR B.1 C) λx=>l7 (G8 x) (some ([],3)) (l9 (l7 (H6 0 C) (l9 (sO B.1 C) λx=>some x) (some [46])) λx=>l7 (C9 B.2 (-1)) (l9 (J5 [114,111,119,32] x) λx=>l9 (J5 x [32,110,111,110,101,10]) λx=>some (x,0)) (l7 (C9 B.2 (-2)) (l9 (J5 [114,111,119,32] x) λx=>l9 (J5 x [32,99,111,110,102,108,105,99,116,10]) λx=>some (x,0)) (l7 (P7 0 B.2) (l7 (H6 B.2 (o9 A.2.2.2.2)) (l9 (J5 [114,111,119,32] x) λx=>l9 (J5 x [32,114,117,108,101,32]) λx=>l9 (L6 A.2.2.2.2 B.2) λb=>l9 (J5 x b.1) λx=>l9 (J5 x [10]) λx=>some (x,0)) (some ([],6))) (some ([],6)))))
def q17:FQ:=⟨[tD y24,tD y30,N7],⟨[(.tmp 6,(uD .str)),(.tmp 7,N7)],[]⟩,mE 58 [(42,s42),(43,s43)],sN 3 (aO (.join [(8,9),(14,20)] ⟨[(8,(uD .str))],[]⟩ H9) H9)⟩
def s17:FSpec:=ae q17 λx=>kR x.1 x.2.1 x.2.2
def b6L:List MG:=[(false,(.sbx 69 5))]
def s18:FSpec:=⟨b6L,[N7],[(false,(.sbx 69 5))],λx=>zG x⟩
def b6M:List MG:=[(false,(.sbx 69 5))]
def s19:FSpec:=⟨b6M,[(false,(.dat .str))],[(false,(.sbx 69 5))],λx=>vF x⟩
def lN(A:dL)(B:Int)(C:X6):Option (List UInt8×Int):=l9 (wC A) λx=>l7 (G8 (nP (C9 x.1 0) (nP (C9 x.2.1 0) (nP (C9 x.2.2.1 0) (C9 x.2.2.2 0))))) (some ([],1)) (l9 (l7 (H6 B 0) (some (.inr ([],6))) (l7 (P7 (o9 A.2.2) B) (some (.inr ([],6))) (some (.inl ())))) λo=>X9 o (λx=>l9 (L6 A.2.2 B) λx=>l9 (l7 (H6 C.1 0) (some (.inr ([],6))) (l7 (P7 (o9 x.2.2.2.1) C.1) (some (.inr ([],6))) (some (.inl ())))) λo=>X9 o (λp=>l7 (H6 8 (o9 C.2.1)) (some ([],4)) (l7 (G8 (C9 (o9 C.2.2.1) (o9 C.2.1))) (some ([],2)) (l9 (L6 x.2.2.2.1 C.1) λg=>l9 (J5 [100,101,99,105,115,105,111,110,32] g.1) λi=>l9 (J5 i [10]) λj=>l9 (jZ [] j) λk=>l9 (nX A B) λn=>l9 (U2 (λ(b:List UInt8×Int)=>l7 (H6 b.2 (o9 C.2.1)) (l9 (L6 C.2.1 b.2) λf=>l9 (L6 C.2.2.1 b.2) λc=>l7 (H6 c 0) (some (.rt ([],6))) (l7 (P7 (o9 x.2.2.2.2) c) (some (.rt ([],6))) (l9 (lJ f n) λd=>l7 (G8 (C9 d.2 0)) (some (.rt ([],d.2))) (l9 (L6 x.2.2.2.2 c) λx=>l9 (J5 [119,104,101,110,32] x.1) λx=>l9 (J5 x [32]) λx=>l9 (J5 x d.1) λx=>l9 (J5 x [10]) λx=>l9 (jZ b.1 x) λx=>some (.nx (x.2.2,F6 .i64 b.2 1)))))) (some (.ex b.1))) (k.2.2,0)) λo=>X9 o (λ(y:List UInt8)=>l9 (U2 (λ(b:List UInt8×Int)=>l7 (H6 b.2 (o9 C.2.2.2)) (l9 (L6 C.2.2.2 b.2) λf=>l9 (kR x f (o9 C.2.1)) λx=>l7 (G8 (C9 x.2 0)) (some (.rt ([],x.2))) (l9 (zG b.1) λc=>l7 (P7 c.1 65536) (l9 (jZ c.2 x.1) λx=>some (.nx (x.2.2,F6 .i64 b.2 1))) (some (.nx (c.2,F6 .i64 b.2 1))))) (some (.ex b.1))) (y,0)) λo=>X9 o (λ(y:List UInt8)=>l9 (zG y) λx=>l7 (H6 65536 x.1) (some ([],4)) (l9 (vF x.2) λx=>some (x.1,0))) λr=>some r) λr=>some r))) λr=>some r) λr=>some r)
def q7:FQ:=⟨[tD y27,N7,tD y34],⟨[(.tmp 6,(uD .str)),(.tmp 7,N7)],[]⟩,mE 144 [(13,s13),(14,s14),(15,s15),(16,s16),(17,s17),(18,s18),(19,s19)],sN 2 (aO (jnR [(6,8),(24,33)] sgN H9) (sN 1 (aO (jnR [(6,8),(38,49)] sgN H9) (sN 5 (aO (sN 1 (iR (lpR [(6,8),(9,10),(11,16),(76,117),(60000576,60000577),(63004417,63004418)] ⟨[(9,(false,(.sbx 69 5))),(76,N7)],[]⟩ 0 ⟨[(9,(false,(.sbx 69 5)))],[]⟩ H9))) (aO (sN 1 (iR (lpR [(6,8),(9,10),(17,20),(120,141),(74000000,74000002)] ⟨[(9,(false,(.sbx 69 5))),(120,N7)],[]⟩ 2 ⟨[(9,(false,(.sbx 69 5)))],[]⟩ H9))) H9))))))⟩
def s7:FSpec:=ae q7 λx=>lN x.1 x.2.1 x.2.2
def Ae(A:List UInt8):Option (List (List UInt8)×Int):=l7 (H6 65536 (o9 A)) (some ([],4)) (l7 (seq A []) (some ([],0)) (l9 (U2 (λ(x:List (List UInt8)×Int×List UInt8×Int)=>l7 (H6 x.2.2.2 (o9 x.2.2.1)) (l7 (C9 (Dt x.2.2.1 x.2.2.2) 10) (l9 (iD A x.2.1 x.2.2.2) λb=>l9 (bK x.1 [b]) λc=>some (.nx (c,F6 .i64 x.2.2.2 1,x.2.2.1,Gp x.2.2.1 x.2.2.2))) (l7 (C9 (Dt x.2.2.1 x.2.2.2) 9) (some (.nx (x.1,x.2.1,x.2.2.1,Gp x.2.2.1 x.2.2.2))) (l7 (P7 32 (Dt x.2.2.1 x.2.2.2)) (l7 (P7 (Dt x.2.2.1 x.2.2.2) 126) (some (.nx (x.1,x.2.1,x.2.2.1,Gp x.2.2.1 x.2.2.2))) (some (.rt ([],2)))) (some (.rt ([],2)))))) (some (.ex (x.1,x.2.1)))) ([],0,A,0)) λo=>X9 o (λ(y:List (List UInt8)×Int)=>l7 (G8 (C9 y.2 (o9 A))) (some ([],2)) (some (y.1,0))) λr=>some r))
def q27:FQ:=⟨[uD .str],⟨[(.tmp 2,(uO .str)),(.tmp 3,N7)],[]⟩,mE 47 [],sN 5 (aO (sN 1 (iR (lpR [(2,8),(14,42),(34000896,34000897)] ⟨[(4,(uO .str)),(5,N7),(14,(false,.sit))],[]⟩ 0 ⟨[(4,(uO .str)),(5,N7)],[]⟩ H9))) H9)⟩
def s27:FSpec:=ae q27 λx=>Ae x
def b0t:List MG:=[(false,(.dat .str)),(false,(.dat .str))]
def a7v:FSpec:=⟨b0t,[bW],[],λx=>xQ x.1 x.2⟩
def vI(A:List UInt8)(B:List UInt8):Option (List UInt8×Bool):=l9 (xQ A B) λx=>l7 (G8 x) (some (A,false)) (l9 (iD A (o9 B) (o9 A)) λx=>some (x,true))
def q88:FQ:=⟨[uD .str,(uD .str)],⟨[(.tmp 4,(uD .str)),(.tmp 5,bW)],[]⟩,mE 15 [(130,a7v)],H9⟩
def s88:FSpec:=ae q88 λx=>vI x.1 x.2
def lw(A:List UInt8)(B:List UInt8):Option (List UInt8×Bool):=l9 (vI A B) λx=>some x
def q52:FQ:=⟨[uD .str,(uD .str)],⟨[(.tmp 4,(uD .str)),(.tmp 5,bW)],[]⟩,mE 11 [(88,s88)],H9⟩
def s52:FSpec:=ae q52 λx=>lw x.1 x.2
def uj(A:List UInt8):Option Bool:=l7 (G8 (seq A [])) (l9 (qN A [32]) λx=>some (G8 x)) (some false)
def q53:FQ:=⟨[uD .str],tR 2 bW,mE 10 [(89,s89)],H9⟩
def s53:FSpec:=ae q53 λx=>uj x
def b0u:List MG:=[(false,(.dat .str)),(false,(.dat .str))]
def b4f:FSpec:=⟨b0u,[N7],[],λx=>Dw x.1 x.2⟩
def Bi(A:List UInt8)(B:List UInt8):Option (List UInt8×List UInt8×Bool):=l9 (Dw A B) λx=>l7 (P7 0 x) (l9 (iD A 0 x) λb=>l9 (iD A (F6 .i64 x (o9 B)) (o9 A)) λx=>some (b,x,true)) (some (A,[],false))
def b0Y:FQ:=⟨[uD .str,(uD .str)],⟨[(.tmp 4,(uD .str)),(.tmp 5,(uD .str)),(.tmp 6,bW)],[]⟩,mE 23 [(176,b4f)],H9⟩
def b3D:FSpec:=ae b0Y λx=>Bi x.1 x.2
def Gq(A:List UInt8)(B:List UInt8):Option (List UInt8×List UInt8×Bool):=l9 (Bi A B) λx=>some x
def q90:FQ:=⟨[uD .str,(uD .str)],⟨[(.tmp 4,(uD .str)),(.tmp 5,(uD .str)),(.tmp 6,bW)],[]⟩,mE 13 [(132,b3D)],H9⟩
def s90:FSpec:=ae q90 λx=>Gq x.1 x.2
def iL(A:ah)(B:List UInt8):Option (Int×ah):=l9 (U2 (λ(x:Int)=>l7 (H6 x (o9 A.1.2.2.2.2)) (l9 (L6 A.1.2.2.2.2 x) λb=>l7 (seq b.1 B) (some (.rt (x,A))) (some (.nx (F6 .i64 x 1)))) (some (.ex ()))) 0) λo=>X9 o (λy=>some (-1,A)) λr=>some r
def q91:FQ:=⟨[(false,(.box (pA (dT y24) (pA (dT ja) (pA J8 (pA (oW y12) (pA oiM (oW y30)))))))),(uD .str)],⟨[(.tmp 4,N7)],[(0,(true,(pA (dT y24) (pA (dT ja) (pA J8 (pA (oW y12) (pA oiM (oW y30))))))))]⟩,⟨24,eqs,tt,gl,[],[],[],[],[0],[]⟩,sN 1 (aO (sN 1 (iR (lpR [(4,7),(13,24)] ⟨[(13,N7)],[]⟩ 0 sgN H9))) H9)⟩
def s91:FSpec:=ae q91 λx=>iL x.1 x.2
def IW(A:List UInt8)(B:Int):Option Int:=l9 (U2 (λ(x:Int×Bool)=>l7 (H6 x.1 (o9 A)) (l9 (sat A x.1) λb=>l7 x.2 (l7 (C9 b 10) (some (.rt x.1)) (some (.nx (F6 .i64 x.1 1,x.2)))) (l7 (C9 b 35) (some (.nx (F6 .i64 x.1 1,true))) (l7 (G8 (C9 b 32)) (l7 (G8 (C9 b 9)) (some (.rt x.1)) (some (.nx (F6 .i64 x.1 1,x.2)))) (some (.nx (F6 .i64 x.1 1,x.2)))))) (some (.ex x.1))) (B,false)) λo=>X9 o (λy=>some y) λr=>some r
def b1H:FQ:=⟨[uD .str,N7],tR 4 N7,mE 33 [],sN 2 (aO (iR (lpR [(1,2),(4,32)] ⟨[(1,N7),(5,bW)],[]⟩ 0 ⟨[(1,N7)],[]⟩ H9)) H9)⟩
def b4g:FSpec:=ae b1H λx=>IW x.1 x.2
def b0x:List MG:=[(false,(.dat .str)),(false,(.dat (.int .u8)))]
def b4x:FSpec:=⟨b0x,[N7],[],λx=>BN x.1 x.2⟩
def BI(A:List UInt8)(B:Int):Option Int:=l9 (BN A B) λx=>some x
def b2g:FQ:=⟨[uD .str,(false,(dT (.int .u8)))],tR 4 N7,mE 8 [(203,b4x)],H9⟩
def b4B:FSpec:=ae b2g λx=>BI x.1 x.2
def FI(A:List UInt8):Option (ui×J4):=l9 (pW A) λx=>l7 (H6 16 x) (some ((0,[],0,0),0,4)) (l9 (iD A 0 x) λb=>some ((1,b,0,0),x,0))
def b2c:FQ:=⟨[uD .str],⟨[(.cell 2 226,tD y52),(.tmp 3,N7),(.tmp 4,N7)],[]⟩,mE 16 [(102,a7t)],H9⟩
def b4y:FSpec:=ae b2c λx=>FI x
def pV(A:List UInt8)(B:Int):Option Int:=l9 (dV (λ(x:Int)=>l7 (H6 x (o9 A)) (l9 (sat A x) λb=>l9 (kN b) λc=>l7 c (some (.inl (F6 .i64 x 1))) (some (.inr x))) (some (.inr x))) B) λy=>some (Y1 .i64 y B)
def b2r:FQ:=⟨[uD .str,N7],tR 4 N7,mE 22 [(138,a3g)],sN 2 (aO (iR (.loop [(5,6),(7,19)] ⟨[(5,N7)],[]⟩ 0 ⟨[(5,N7)],[]⟩ H9)) H9)⟩
def a5L:FSpec:=ae b2r λx=>pV x.1 x.2
def Dc(A:List UInt8):Option Bool:=l9 (pV A 0) λx=>l7 (C9 x 4) (l9 (pV A 5) λx=>l7 (C9 x 2) (l9 (pV A 8) λx=>l7 (P7 2 x) (l9 (sat A 4) λx=>l7 (C9 x 45) (l9 (sat A 7) λx=>some (C9 x 45)) (some false)) (some false)) (some false)) (some false)
def b2q:FQ:=⟨[uD .str],tR 2 bW,mE 26 [(230,a5L)],H9⟩
def b4H:FSpec:=ae b2q λx=>Dc x
def lC(A:List UInt8)(B:List UInt8):Option Bool:=l9 (xQ A B) λx=>some x
def b2f:FQ:=⟨[uD .str,(uD .str)],tR 4 bW,mE 8 [(130,a7v)],H9⟩
def a5K:FSpec:=ae b2f λx=>lC x.1 x.2
def wH(A:List UInt8)(B:Int):Option Bool:=l9 (lC A [46]) λx=>l7 x (l9 (pV A 1) λx=>some (C9 x B)) (some false)
def b2s:FQ:=⟨[uD .str,N7],tR 4 bW,mE 13 [(210,a5K),(230,a5L)],H9⟩
def b4I:FSpec:=ae b2s λx=>wH x.1 x.2
def Ba(A:List UInt8):Option (Int×Bool):=l9 (U2 (λ(x:Int×List UInt8×Int)=>l7 (H6 x.2.2 (o9 x.2.1)) (l7 (H6 (Dt x.2.1 x.2.2) 48) (some (.rt (0,false))) (l7 (H6 57 (Dt x.2.1 x.2.2)) (some (.rt (0,false))) (some (.nx (F6 .i64 (DU .i64 x.1 10) (wrap .i64 (Y1 .i32 (Dt x.2.1 x.2.2) 48)),x.2.1,Gp x.2.1 x.2.2))))) (some (.ex x.1))) (0,A,0)) λo=>X9 o (λy=>some (y,true)) λr=>some r
def b2X:FQ:=⟨[uD .str],⟨[(.tmp 2,N7),(.tmp 3,bW)],[]⟩,mE 25 [],sN 2 (aO (sN 1 (iR (lpR [(2,5),(6,7),(8,24),(11000512,11000513)] ⟨[(4,N7),(8,(false,.sit))],[]⟩ 0 ⟨[(4,N7)],[]⟩ H9))) H9)⟩
def b5g:FSpec:=ae b2X λx=>Ba x
def Jw(A:Int)(B:Int)(C:Int):Option J4:=l9 (l7 (H6 A 1900) (some (.inr (0,3))) (l7 (H6 2199 A) (some (.inr (0,3))) (l7 (H6 B 1) (some (.inr (0,3))) (l7 (H6 12 B) (some (.inr (0,3))) (l7 (H6 C 1) (some (.inr (0,3))) (l9 (kw A B) λx=>l7 (H6 x C) (some (.inr (0,3))) (some (.inl ())))))))) λo=>X9 o (λx=>l9 (ny A) λx=>l9 (dV (λ(x:J4)=>l7 (H6 x.2 (Y1 .i64 B 1)) (l9 (kw A (F6 .i64 x.2 1)) λb=>some (.inl (F6 .i64 x.1 b,F6 .i64 x.2 1))) (some (.inr x.1))) (x,0)) λy=>some (Y1 .i64 (F6 .i64 y C) 1,0)) λr=>some r
def b2Y:FQ:=⟨[N7,N7,N7],⟨[(.tmp 6,N7),(.tmp 7,N7)],[]⟩,mE 53 [(223,a7H),(222,a7G)],sN 1 (aO (jnR [(6,8),(10,35)] sgN H9) (sN 1 (aO (sN 1 (iR (.loop [(8,10),(39,49)] ⟨[(8,N7),(39,N7)],[]⟩ 0 ⟨[(8,N7)],[]⟩ H9))) H9)))⟩
def b5h:FSpec:=ae b2Y λx=>Jw x.1 x.2.1 x.2.2
def Pn(A:List UInt8):Option J4:=l9 (l7 (G8 (C9 (o9 A) 10)) (some (.inr (0,2))) (l9 (sat A 4) λx=>l7 (G8 (C9 x 45)) (some (.inr (0,2))) (l9 (sat A 7) λx=>l7 (G8 (C9 x 45)) (some (.inr (0,2))) (some (.inl ()))))) λo=>X9 o (λx=>l9 (iD A 0 4) λx=>l9 (Ba x) λx=>l9 (iD A 5 7) λd=>l9 (Ba d) λb=>l9 (iD A 8 (o9 A)) λf=>l9 (Ba f) λc=>l7 (G8 x.2) (some (0,2)) (l7 (G8 b.2) (some (0,2)) (l7 (G8 c.2) (some (0,2)) (l9 (Jw x.1 b.1 c.1) λx=>some x)))) λr=>some r
def b2L:FQ:=⟨[uD .str],⟨[(.tmp 2,N7),(.tmp 3,N7)],[]⟩,mE 57 [(291,b5g),(292,b5h)],sN 1 (aO (jnR [(2,4),(10,23)] sgN H9) H9)⟩
def b4Z:FSpec:=ae b2L λx=>Pn x
def EE(A:Int):Option Bool:=l7 (P7 48 A) (some (P7 A 57)) (some false)
def b3c:FQ:=⟨[(false,(dT (.int .i32)))],tR 2 bW,mE 9 [],H9⟩
def b5j:FSpec:=ae b3c λx=>EE x
def Cc(A:List UInt8)(B:Int):Option J4:=l9 (lw A [45]) λx=>l9 (l7 (H6 0 B) (some (Y1 .i64 (o9 x.1) (F6 .i64 B 1))) (some (o9 x.1))) λb=>l9 (l7 (H6 b 1) (some (.inr (0,2))) (l7 (H6 1 b) (l9 (sat x.1 0) λx=>l7 (C9 x 48) (some (.inr (0,2))) (some (.inl ()))) (some (.inl ())))) λo=>X9 o (λd=>l9 (U2 (λ(x:Int×Bool×List UInt8×Int)=>l7 (H6 x.2.2.2 (o9 x.2.2.1)) (l7 (C9 x.2.2.2 b) (l7 (G8 (C9 (Dt x.2.2.1 x.2.2.2) 46)) (some (.rt (0,2))) (some (.nx (x.1,x.2.1,x.2.2.1,Gp x.2.2.1 x.2.2.2)))) (l9 (EE (Dt x.2.2.1 x.2.2.2)) λc=>l7 (G8 c) (some (.rt (0,2))) (l7 x.2.1 (some (.nx (x.1,true,x.2.2.1,Gp x.2.2.1 x.2.2.2))) (l7 (H6 461168601842738790 x.1) (some (.nx (x.1,true,x.2.2.1,Gp x.2.2.1 x.2.2.2))) (some (.nx (F6 .i64 (DU .i64 x.1 10) (wrap .i64 (Y1 .i32 (Dt x.2.2.1 x.2.2.2) 48)),H6 4611686018427387904 (F6 .i64 (DU .i64 x.1 10) (wrap .i64 (Y1 .i32 (Dt x.2.2.1 x.2.2.2) 48))),x.2.2.1,Gp x.2.2.1 x.2.2.2))))))) (some (.ex (x.1,x.2.1)))) (0,false,x.1,0)) λo=>X9 o (λ(y:Int×Bool)=>l7 x.2 (l7 (C9 y.1 0) (l7 (G8 y.2) (some (0,2)) (l7 y.2 (some (0,3)) (l7 x.2 (some (Y1 .i64 0 y.1,0)) (some (y.1,0))))) (l7 y.2 (some (0,3)) (l7 x.2 (some (Y1 .i64 0 y.1,0)) (some (y.1,0))))) (l7 y.2 (some (0,3)) (l7 x.2 (some (Y1 .i64 0 y.1,0)) (some (y.1,0))))) λr=>some r) λr=>some r
def b2Z:FQ:=⟨[uD .str,N7],⟨[(.tmp 4,N7),(.tmp 5,N7)],[]⟩,mE 78 [(52,s52),(308,b5j)],sN 3 (aO (.join [(8,9),(20,26)] ⟨[(8,N7)],[]⟩ H9) (aO (jnR [(4,6),(26,37)] sgN H9) (sN 1 (aO (sN 1 (iR (lpR [(4,6),(9,13),(38,64),(35002432,35002433)] ⟨[(9,N7),(10,bW),(38,(false,.sit))],[]⟩ 0 ⟨[(9,N7),(10,bW)],[]⟩ H9))) H9))))⟩
def a7P:FSpec:=ae b2Z λx=>Cc x.1 x.2
def uZ(A:List UInt8)(B:Int):Option J4:=l9 (pz B) λx=>l9 (Cc A x) λx=>some x
def b2M:FQ:=⟨[uD .str,N7],⟨[(.tmp 4,N7),(.tmp 5,N7)],[]⟩,mE 12 [(190,a7B),(293,a7P)],H9⟩
def b5a:FSpec:=ae b2M λx=>uZ x.1 x.2
def Dl(A:List UInt8):Option J4:=l9 (Cc A 0) λx=>some x
def b2N:FQ:=⟨[uD .str],⟨[(.tmp 2,N7),(.tmp 3,N7)],[]⟩,mE 8 [(293,a7P)],H9⟩
def b5b:FSpec:=ae b2N λx=>Dl x
def JJ(A:Int)(B:List UInt8):Option J4:=l7 (C9 A 5) (l9 (Pn B) λx=>l7 (C9 x.2 0) (l7 (H6 109572 x.1) (some (x.1,3)) (some x)) (some x)) (l7 (C9 A 3) (l9 (uZ B 2) λx=>l7 (C9 x.2 0) (l7 (H6 1000000000000000 x.1) (some (x.1,3)) (some x)) (some x)) (l7 (C9 A 4) (l9 (iD B 0 (Y1 .i64 (o9 B) 1)) λx=>l9 (uZ x 4) λx=>l7 (C9 x.2 0) (l7 (H6 1000000000 x.1) (some (x.1,3)) (some x)) (some x)) (l9 (Dl B) λx=>l7 (C9 x.2 0) (l7 (H6 1000000000000 x.1) (some (x.1,3)) (some x)) (some x))))
def b2t:FQ:=⟨[N7,(uD .str)],⟨[(.tmp 4,N7),(.tmp 5,N7)],[]⟩,mE 49 [(258,b4Z),(259,b5a),(260,b5b)],H9⟩
def b4J:FSpec:=ae b2t λx=>JJ x.1 x.2
def Df(A:List UInt8):Option (ui×J4):=l9 (l9 (Dc A) λx=>l7 (G8 x) (l9 (pV A 0) λx=>l9 (l9 (iD A x (o9 A)) λb=>l9 (wH b 2) λd=>l7 d (some (3,F6 .i64 x 3)) (l9 (iD A x (o9 A)) λc=>l9 (wH c 4) λf=>l7 f (l9 (iD A (F6 .i64 x 5) (o9 A)) λg=>l9 (lC g [37]) λi=>l7 i (some (4,F6 .i64 x 6)) (some (2,x))) (some (2,x)))) λb=>l7 (H6 1 x) (l9 (sat A 0) λx=>l7 (C9 x 48) (some (.inr ((0,[],0,0),0,2))) (some (.inl ((0,[],0,0),b)))) (some (.inl ((0,[],0,0),b)))) (some (.inl ((0,[],0,0),5,10)))) λo=>X9 o (λ(x:ui×J4)=>l9 (l7 (H6 x.2.2 (o9 A)) (l9 (sat A x.2.2) λb=>l9 (mV b) λd=>l7 d (some (.inr ((0,[],0,0),0,2))) (l7 (P7 65 b) (l7 (P7 b 90) (some (.inr ((0,[],0,0),0,2))) (l9 (kN b) λc=>l7 c (some (.inr ((0,[],0,0),0,2))) (l7 (C9 b 95) (some (.inr ((0,[],0,0),0,2))) (l7 (C9 b 46) (some (.inr ((0,[],0,0),0,2))) (some (.inl x.1)))))) (l9 (kN b) λc=>l7 c (some (.inr ((0,[],0,0),0,2))) (l7 (C9 b 95) (some (.inr ((0,[],0,0),0,2))) (l7 (C9 b 46) (some (.inr ((0,[],0,0),0,2))) (some (.inl x.1))))))) (some (.inl x.1))) λo=>X9 o (λ(b:ui)=>l9 (iD A 0 x.2.2) λd=>l9 (JJ x.2.1 d) λc=>l7 (G8 (C9 c.2 0)) (some ((0,[],0,0),0,3)) (l9 (iD A 0 x.2.2) λf=>some ((x.2.1,f,c.1,0),x.2.2,0))) λr=>some r) λr=>some r
def b2d:FQ:=⟨[uD .str],⟨[(.cell 2 226,tD y52),(.tmp 3,N7),(.tmp 4,N7)],[]⟩,mE 94 [(229,b4H),(230,a5L),(231,b4I),(210,a5K),(101,a3c),(138,a3g),(232,b4J)],sN 2 (aO (jnR [(2,8),(11,46),(4000128,4000129)] ⟨[(2,(false,(.box (dT y52)))),(5,N7),(6,N7)],[]⟩ (sN 1 (.cond (sN 1 (aO (.join [(5,7),(16,38)] ⟨[(5,N7),(6,N7)],[]⟩ H9) H9)) H9))) (aO (jnR [(2,5),(8,9),(46,76),(9000000,9000001)] ⟨[(2,(false,(.box (dT y52))))],[]⟩ H9) H9))⟩
def b4z:FSpec:=ae b2d λx=>Df x
def b0A:List MG:=[(false,(.dat .str)),(false,(.dat .str))]
def b4K:FSpec:=⟨b0A,[N7],[],λx=>yQ x.1 x.2⟩
def Dh(A:List UInt8):Option (ui×J4):=l9 (iD A 1 (o9 A)) λx=>l9 (yQ x [34,10]) λx=>l7 (H6 x 0) (some ((0,[],0,0),0,5)) (l9 (sat A (F6 .i64 1 x)) λc=>l7 (C9 c 10) (some ((0,[],0,0),0,5)) (l9 (iD A 1 (F6 .i64 1 x)) λb=>l9 (U2 (λ(x:ui×Int)=>l7 (H6 x.2 (o9 b)) (l9 (sat b x.2) λd=>l7 (H6 d 32) (some (.rt ((0,[],0,0),0,2))) (l9 (sat b x.2) λf=>l7 (H6 126 f) (some (.rt ((0,[],0,0),0,2))) (some (.nx (x.1,F6 .i64 x.2 1))))) (some (.ex x.1))) ((0,[],0,0),0)) λo=>X9 o (λ(y:ui)=>l7 (H6 64 x) (some ((0,[],0,0),0,4)) (some ((6,b,0,0),F6 .i64 x 2,0))) λr=>some r))
def b2e:FQ:=⟨[uD .str],⟨[(.cell 2 226,tD y52),(.tmp 3,N7),(.tmp 4,N7)],[]⟩,mE 49 [(233,b4K)],sN 4 (aO (sN 1 (iR (lpR [(2,5),(7,8),(27,42),(4000128,4000129)] ⟨[(2,(false,(.box (dT y52)))),(27,N7)],[]⟩ 0 ⟨[(2,(false,(.box (dT y52))))],[]⟩ H9))) H9)⟩
def b4A:FSpec:=ae b2e λx=>Dh x
def PX(A:List UInt8):Option (ui×J4):=l9 (sat A 0) λx=>l7 (C9 x 10) (l9 (iD A 0 1) λx=>some ((8,x,0,0),1,0)) (l9 (mV x) λd=>l7 d (l9 (FI A) λx=>some x) (l9 (kN x) λf=>l7 f (l9 (Df A) λx=>some x) (l7 (C9 x 34) (l9 (Dh A) λx=>some x) (l7 (C9 x 60) (l9 (iD A 1 (o9 A)) λb=>l9 (lC b [61]) λc=>l7 c (l9 (iD A 0 2) λx=>some ((7,x,0,0),2,0)) (l7 (C9 x 33) (some ((0,[],0,0),0,2)) (l9 (iD A 0 1) λx=>some ((7,x,0,0),1,0)))) (l7 (C9 x 61) (l9 (iD A 1 (o9 A)) λb=>l9 (lC b [61]) λc=>l7 c (l9 (iD A 0 2) λx=>some ((7,x,0,0),2,0)) (l7 (C9 x 33) (some ((0,[],0,0),0,2)) (l9 (iD A 0 1) λx=>some ((7,x,0,0),1,0)))) (l7 (C9 x 33) (l9 (iD A 1 (o9 A)) λb=>l9 (lC b [61]) λc=>l7 c (l9 (iD A 0 2) λx=>some ((7,x,0,0),2,0)) (l7 (C9 x 33) (some ((0,[],0,0),0,2)) (l9 (iD A 0 1) λx=>some ((7,x,0,0),1,0)))) (l9 (BI [40,41,44,58,43,45,42] x) λx=>l7 (P7 0 x) (l9 (iD A 0 1) λx=>some ((7,x,0,0),1,0)) (some ((0,[],0,0),0,2)))))))))
def b1I:FQ:=⟨[uD .str],⟨[(.cell 2 226,tD y52),(.tmp 3,N7),(.tmp 4,N7)],[]⟩,mE 66 [(101,a3c),(138,a3g),(211,b4B),(207,b4y),(208,b4z),(209,b4A),(210,a5K)],H9⟩
def b4h:FSpec:=ae b1I λx=>PX x
def FH(A:List UInt8):Option (List ui×J4):=l7 (H6 65536 (o9 A)) (some ([],0,4)) (l9 (IW A 0) λx=>l9 (U2 (λ(x:List ui×Int)=>l7 (H6 x.2 (o9 A)) (l9 (iD A x.2 (o9 A)) λc=>l9 (PX c) λb=>l7 (G8 (C9 b.2.2 0)) (some (.rt ([],x.2,b.2.2))) (l9 (bK x.1 [(b.1.1,b.1.2.1,b.1.2.2.1,x.2)]) λd=>l9 (IW A (F6 .i64 x.2 b.2.1)) λx=>some (.nx (d,x)))) (some (.ex x.1))) ([],x)) λo=>X9 o (λ(y:List ui)=>some (y,0,0)) λr=>some r)
def b0Z:FQ:=⟨[uD .str],⟨[(.tmp 2,uO y52),(.tmp 3,N7),(.tmp 4,N7)],[]⟩,mE 43 [(177,b4g),(178,b4h)],sN 4 (aO (iR (lpR [(2,10),(15,42)] ⟨[(5,(uO y52)),(6,N7)],[]⟩ 0 ⟨[(5,(uO y52))],[]⟩ H9)) H9)⟩
def b3E:FSpec:=ae b0Z λx=>FH x
def dE(A:D5)(B:Int):Option (ui×D5):=l7 (H6 (F6 .i64 A.2.1 B) (o9 A.1)) (l9 (L6 A.1 (F6 .i64 A.2.1 B)) λx=>some (x,A)) (some ((0,[],0,0),A))
def b2h:FQ:=⟨[(false,(.box (pA (dT lF) (pA J8 (pA J8 (pA (dT ja) (pA (oW y2) (pA J8 J8)))))))),N7],⟨[(.cell 4 226,tD y52)],[(0,(true,(pA (dT lF) (pA J8 (pA J8 (pA (dT ja) (pA (oW y2) (pA J8 J8))))))))]⟩,⟨30,eqs,tt,gl,[],[],[],[],[0],[]⟩,H9⟩
def Xd:FSpec:=ae b2h λx=>dE x.1 x.2
def kz(A:D5)(B:Int)(C:List UInt8):Option (Bool×D5):=l9 (dE A 0) λx=>l7 (C9 x.1.1 B) (some (seq x.1.2.1 C,x.2)) (some (false,x.2))
def b1J:FQ:=⟨[(false,(.box (pA (dT lF) (pA J8 (pA J8 (pA (dT ja) (pA (oW y2) (pA J8 J8)))))))),N7,(uD .str)],⟨[(.tmp 6,bW)],[(0,(true,(pA (dT lF) (pA J8 (pA J8 (pA (dT ja) (pA (oW y2) (pA J8 J8))))))))]⟩,⟨20,eqs,tt,gl,[(212,Xd)],[],[],[],[0],[]⟩,H9⟩
def a3n:FSpec:=ae b1J λx=>kz x.1 x.2.1 x.2.2
def nz(A:ui):Option Int:=l7 (C9 A.1 2) (some 2) (l7 (C9 A.1 3) (some 3) (l7 (C9 A.1 4) (some 4) (some 0)))
def b2u:FQ:=⟨[tD y52],tR 2 N7,mE 11 [],H9⟩
def a7J:FSpec:=ae b2u λx=>nz x
def H7(A:D5)(B:Int)(C:Int):Option (Bool×D5):=l9 (bK A.2.2.2.2.1 [(B,C)]) λx=>some (true,A.1,A.2.1,A.2.2.1,A.2.2.2.1,x,A.2.2.2.2.2)
def b1L:FQ:=⟨[(false,(.box (pA (dT lF) (pA J8 (pA J8 (pA (dT ja) (pA (oW y2) (pA J8 J8)))))))),N7,N7],⟨[(.tmp 6,bW)],[(0,(true,(pA (dT lF) (pA J8 (pA J8 (pA (dT ja) (pA (oW y2) (pA J8 J8))))))))]⟩,⟨19,eqs,tt,gl,[],[],[],[],[0],[]⟩,H9⟩
def YW:FSpec:=ae b1L λx=>H7 x.1 x.2.1 x.2.2
def aK(A:D5)(B:Int):Option (Bool×D5):=l7 (H6 A.2.1 (o9 A.1)) (l9 (L6 A.1 A.2.1) λx=>some (false,A.1,A.2.1,A.2.2.1,A.2.2.2.1,A.2.2.2.2.1,x.2.2.2,B)) (some (false,A.1,A.2.1,A.2.2.1,A.2.2.2.1,A.2.2.2.2.1,A.2.2.1,B))
def b1a:FQ:=⟨[(false,(.box (pA (dT lF) (pA J8 (pA J8 (pA (dT ja) (pA (oW y2) (pA J8 J8)))))))),N7],⟨[(.tmp 4,bW)],[(0,(true,(pA (dT lF) (pA J8 (pA J8 (pA (dT ja) (pA (oW y2) (pA J8 J8))))))))]⟩,⟨40,eqs,tt,gl,[],[],[],[],[0],[]⟩,H9⟩
def YT:FSpec:=ae b1a λx=>aK x.1 x.2
def lY(A:D5)(B:Int)(C:List UInt8):Option (Bool×D5):=l9 (kz A B C) λx=>l7 (G8 x.1) (l9 (aK x.2 2) λx=>some x) (some (true,x.2.1,F6 .i64 x.2.2.1 1,x.2.2.2))
def b1K:FQ:=⟨[(false,(.box (pA (dT lF) (pA J8 (pA J8 (pA (dT ja) (pA (oW y2) (pA J8 J8)))))))),N7,(uD .str)],⟨[(.tmp 6,bW)],[(0,(true,(pA (dT lF) (pA J8 (pA J8 (pA (dT ja) (pA (oW y2) (pA J8 J8))))))))]⟩,⟨21,eqs,tt,gl,[(179,a3n),(135,YT)],[],[],[],[0],[]⟩,H9⟩
def a7A:FSpec:=ae b1K λx=>lY x.1 x.2.1 x.2.2
def V6(A:D5)(B:List UInt8):Option (Bool×D5):=l9 (lY A 7 B) λx=>some x
def b2O:FQ:=⟨[(false,(.box (pA (dT lF) (pA J8 (pA J8 (pA (dT ja) (pA (oW y2) (pA J8 J8)))))))),(uD .str)],⟨[(.tmp 4,bW)],[(0,(true,(pA (dT lF) (pA J8 (pA J8 (pA (dT ja) (pA (oW y2) (pA J8 J8))))))))]⟩,⟨8,eqs,tt,gl,[(181,a7A)],[],[],[],[0],[]⟩,H9⟩
def a7M:FSpec:=ae b2O λx=>V6 x.1 x.2
def yG(A:List UInt8):Option Int:=l9 (U2 (λ(x:Int)=>l7 (P7 x 39) (l7 (G8 (seq A [])) (l9 (fM x) λb=>l7 (seq b A) (some (.rt x)) (some (.nx (F6 .i64 x 1)))) (some (.nx (F6 .i64 x 1)))) (some (.ex ()))) 10) λo=>X9 o (λy=>some 0) λr=>some r
def b2P:FQ:=⟨[uD .str],tR 2 N7,mE 17 [(70,s70)],sN 1 (aO (sN 1 (iR (lpR [(2,17)] ⟨[(3,N7)],[]⟩ 0 sgN H9))) H9)⟩
def b5c:FSpec:=ae b2P λx=>yG x
def kT(A:D5)(B:List (List UInt8)):Option (Int×Bool×D5):=l9 (dE A 0) λx=>l7 (G8 (C9 x.1.1 1)) (l9 (aK x.2 2) λx=>some (0,x)) (l9 (bT x.1.2.1) λc=>l7 (G8 c) (l9 (aK x.2 2) λx=>some (0,x)) (l9 (gZ B x.1.2.1) λb=>l7 (H6 b 0) (l9 (aK x.2 6) λx=>some (0,x)) (some (b,true,x.2.1,F6 .i64 x.2.2.1 1,x.2.2.2))))
def b3a:FQ:=⟨[(false,(.box (pA (dT lF) (pA J8 (pA J8 (pA (dT ja) (pA (oW y2) (pA J8 J8)))))))),(uD (.sl .str))],⟨[(.tmp 4,N7),(.tmp 5,bW)],[(0,(true,(pA (dT lF) (pA J8 (pA J8 (pA (dT ja) (pA (oW y2) (pA J8 J8))))))))]⟩,⟨37,eqs,tt,gl,[(212,Xd),(59,s59),(135,YT),(136,a5H)],[],[],[],[0],[]⟩,H9⟩
def a7Q:FSpec:=ae b3a λx=>kT x.1 x.2
def Ez(A:List UInt8):Option Int:=l9 (U2 (λ(x:Int)=>l7 (P7 x 5) (l9 (dD x) λb=>l7 (seq b A) (some (.rt x)) (some (.nx (F6 .i64 x 1)))) (some (.ex ()))) 0) λo=>X9 o (λy=>some (-1)) λr=>some r
def b3d:FQ:=⟨[uD .str],tR 2 N7,mE 13 [(71,s71)],sN 1 (aO (sN 1 (iR (lpR [(2,13)] ⟨[(3,N7)],[]⟩ 0 sgN H9))) H9)⟩
def b5k:FSpec:=ae b3d λx=>Ez x
def eP(A:D5):Option (Int×Bool×D5):=l9 (dE A 0) λx=>l9 (Ez x.1.2.1) λb=>l7 (G8 (C9 x.1.1 1)) (l9 (aK x.2 2) λx=>some (0,x)) (l7 (H6 b 0) (l9 (aK x.2 2) λx=>some (0,x)) (some (b,true,x.2.1,F6 .i64 x.2.2.1 1,x.2.2.2)))
def b3b:FQ:=⟨[(false,(.box (pA (dT lF) (pA J8 (pA J8 (pA (dT ja) (pA (oW y2) (pA J8 J8))))))))],⟨[(.tmp 2,N7),(.tmp 3,bW)],[(0,(true,(pA (dT lF) (pA J8 (pA J8 (pA (dT ja) (pA (oW y2) (pA J8 J8))))))))]⟩,⟨28,eqs,tt,gl,[(212,Xd),(309,b5k),(135,YT)],[],[],[],[0],[]⟩,H9⟩
def b5i:FSpec:=ae b3b λx=>eP x
def wo(A:dM)(B:ui):Option Bool:=some (seq A.1 B.2.1)
def a2K:FQ:=⟨[tD y0,(false,(.rp y52))],tR 3 bW,mE 9 [],H9⟩
def YX:FSpec:=ae a2K λx=>wo x.1 x.2
def lq(A:List dM)(B:ui):Option Int:=l9 (U2 (λ(x:Int)=>l7 (H6 x (o9 A)) (l9 (L6 A x) λb=>l9 (wo b B) λc=>l7 c (some (.rt x)) (some (.nx (F6 .i64 x 1)))) (some (.ex ()))) 0) λo=>X9 o (λy=>some (-1)) λr=>some r
def a2B:FQ:=⟨[uD y1,(false,(.fn 297 [y52]))],tR 4 N7,mE 19 [(297,YX)],sN 1 (aO (sN 1 (iR (lpR [(4,6),(8,19)] ⟨[(8,N7)],[]⟩ 0 sgN H9))) H9)⟩
def a3i:FSpec:=ae a2B λx=>lq x.1 x.2
def yg(A:D5):Option (Bool×D5):=l9 (dE A 0) λx=>l9 (dE x.2 1) λb=>l9 (bT x.1.2.1) λd=>l7 (G8 d) (l9 (aK b.2 2) λx=>some x) (l9 (l7 (C9 b.1.1 7) (some (seq b.1.2.1 [58])) (some false)) λf=>l7 f (l9 (lq b.2.2.2.2.1.1 x.1) λx=>l7 (H6 x 0) (l9 (aK b.2 6) λx=>some x) (l9 (L6 b.2.2.2.2.1.1 x) λg=>l9 (kT (b.2.1,F6 .i64 b.2.2.1 2,b.2.2.2) g.2) λc=>l7 c.2.1 (l9 (H7 c.2.2 6 (F6 .i64 (DU .i64 16 x) c.1)) λx=>some x) (some (false,c.2.2)))) (l9 (gZ b.2.2.2.2.1.2.2.1 x.1.2.1) λx=>l7 (P7 0 x) (l9 (H7 (b.2.1,F6 .i64 b.2.2.1 1,b.2.2.2) 7 x) λx=>some x) (l9 (kT b.2 b.2.2.2.2.1.2.2.2.1) λx=>l7 x.2.1 (l9 (H7 x.2.2 8 x.1) λx=>some x) (some (false,x.2.2)))))
def b2Q:FQ:=⟨[(false,(.box (pA (dT lF) (pA J8 (pA J8 (pA (dT ja) (pA (oW y2) (pA J8 J8))))))))],⟨[(.tmp 2,bW)],[(0,(true,(pA (dT lF) (pA J8 (pA J8 (pA (dT ja) (pA (oW y2) (pA J8 J8))))))))]⟩,⟨106,eqs,tt,gl,[(212,Xd),(59,s59),(135,YT),(297,YX),(139,a3i),(295,a7Q),(182,YW),(136,a5H)],[],[],[],[0],[]⟩,sN 3 (aO (aO (.join [(21,29)] ⟨[(28,bW)],[]⟩ H9) H9) H9)⟩
def b5d:FSpec:=ae b2Q λx=>yg x
def yO(A:ui):Option J4:=l7 (G8 (C9 A.1 7)) (l7 (G8 (C9 A.1 1)) (some (0,0)) (l9 (U2 (λ(x:Int)=>l7 (P7 x 24) (l9 (fJ x) λb=>l7 (G8 (seq b.1 [])) (l7 (seq b.1 A.2.1) (some (.rt (x,b.2))) (some (.nx (F6 .i64 x 1)))) (some (.nx (F6 .i64 x 1)))) (some (.ex ()))) 11) λo=>X9 o (λy=>some (0,0)) λr=>some r)) (l9 (U2 (λ(x:Int)=>l7 (P7 x 24) (l9 (fJ x) λb=>l7 (G8 (seq b.1 [])) (l7 (seq b.1 A.2.1) (some (.rt (x,b.2))) (some (.nx (F6 .i64 x 1)))) (some (.nx (F6 .i64 x 1)))) (some (.ex ()))) 11) λo=>X9 o (λy=>some (0,0)) λr=>some r)
def b2i:FQ:=⟨[tD y52],⟨[(.tmp 2,N7),(.tmp 3,N7)],[]⟩,mE 34 [(73,s73)],sN 2 (aO (sN 1 (iR (lpR [(2,7),(15,34)] ⟨[(4,N7)],[]⟩ 0 sgN H9))) H9)⟩
def b4C:FSpec:=ae b2i λx=>yO x
def TN:List MG:=[(false,(.box (.pair (.dat lF) (.pair J8 (.pair J8 (.pair (.dat ja) (.pair (.own y2) (.pair J8 J8))))))))]
def u_:List MG:=[(false,(.box (.pair (.dat lF) (.pair J8 (.pair J8 (.pair (.dat ja) (.pair (.own y2) (.pair J8 J8)))))))),N7]
def v_:List MG:=[(false,(.box (.pair (.dat lF) (.pair J8 (.pair J8 (.pair (.dat ja) (.pair (.own y2) (.pair J8 J8))))))))]
def a2r:List MG:=[(false,(.box (.pair (.dat lF) (.pair J8 (.pair J8 (.pair (.dat ja) (.pair (.own y2) (.pair J8 J8))))))))]
def a2s:List MG:=[(false,(.box (.pair (.dat lF) (.pair J8 (.pair J8 (.pair (.dat ja) (.pair (.own y2) (.pair J8 J8)))))))),N7]
def a6r:Ret:=⟨[(.tmp 2,bW)],[(0,(true,(.pair (.dat lF) (.pair J8 (.pair J8 (.pair (.dat ja) (.pair (.own y2) (.pair J8 J8))))))))]⟩
def b6D (r134:M.den (.box (.pair (.dat lF) (.pair J8 (.pair J8 (.pair (.dat ja) (.pair (.own y2) (.pair J8 J8)))))))->Option (V8 ([bW]++[(true,(.pair (.dat lF) (.pair J8 (.pair J8 (.pair (.dat ja) (.pair (.own y2) (.pair J8 J8)))))))]))) (r180:M.den (.box (.pair (.dat lF) (.pair J8 (.pair J8 (.pair (.dat ja) (.pair (.own y2) (.pair J8 J8)))))))->M.den J8->Option (V8 ([bW]++[(true,(.pair (.dat lF) (.pair J8 (.pair J8 (.pair (.dat ja) (.pair (.own y2) (.pair J8 J8)))))))]))) (r213:M.den (.box (.pair (.dat lF) (.pair J8 (.pair J8 (.pair (.dat ja) (.pair (.own y2) (.pair J8 J8)))))))->Option (V8 ([bW]++[(true,(.pair (.dat lF) (.pair J8 (.pair J8 (.pair (.dat ja) (.pair (.own y2) (.pair J8 J8)))))))]))) (r235:M.den (.box (.pair (.dat lF) (.pair J8 (.pair J8 (.pair (.dat ja) (.pair (.own y2) (.pair J8 J8)))))))->Option (V8 ([bW]++[(true,(.pair (.dat lF) (.pair J8 (.pair J8 (.pair (.dat ja) (.pair (.own y2) (.pair J8 J8)))))))]))) (r267:M.den (.box (.pair (.dat lF) (.pair J8 (.pair J8 (.pair (.dat ja) (.pair (.own y2) (.pair J8 J8)))))))->M.den J8->Option (V8 ([bW]++[(true,(.pair (.dat lF) (.pair J8 (.pair J8 (.pair (.dat ja) (.pair (.own y2) (.pair J8 J8)))))))]))):Env:=⟨37,eqs,tt,gl,[(179,a3n),(180,⟨u_,[bW],[(true,(.pair (.dat lF) (.pair J8 (.pair J8 (.pair (.dat ja) (.pair (.own y2) (.pair J8 J8)))))))],λx=>r180 x.1 x.2⟩),(134,⟨TN,[bW],[(true,(.pair (.dat lF) (.pair J8 (.pair J8 (.pair (.dat ja) (.pair (.own y2) (.pair J8 J8)))))))],λx=>r134 x⟩),(181,a7A),(182,YW)],[],[],[],[0],[]⟩
def b0b:Ann:=.leaf
def xf(r134:D5->Option (Bool×D5))(r180:D5->Int->Option (Bool×D5))(r213:D5->Option (Bool×D5))(r235:D5->Option (Bool×D5))(r267:D5->Int->Option (Bool×D5))(A:D5):Option (Bool×D5):=l9 (kz A 1 [105,102]) λx=>l7 (G8 x.1) (l9 (r180 x.2 1) λx=>some x) (l9 (r134 (x.2.1,F6 .i64 x.2.2.1 1,x.2.2.2)) λx=>l7 x.1 (l9 (lY x.2 1 [116,104,101,110]) λx=>l7 x.1 (l9 (r134 x.2) λx=>l7 x.1 (l9 (lY x.2 1 [101,108,115,101]) λx=>l7 x.1 (l9 (r134 x.2) λx=>l7 x.1 (l9 (H7 x.2 26 0) λx=>some x) (some (false,x.2))) (some (false,x.2))) (some (false,x.2))) (some (false,x.2))) (some (false,x.2)))
def b3i:Ret:=⟨[(.tmp 4,bW)],[(0,(true,(.pair (.dat lF) (.pair J8 (.pair J8 (.pair (.dat ja) (.pair (.own y2) (.pair J8 J8))))))))]⟩
def b6F (r134:M.den (.box (.pair (.dat lF) (.pair J8 (.pair J8 (.pair (.dat ja) (.pair (.own y2) (.pair J8 J8)))))))->Option (V8 ([bW]++[(true,(.pair (.dat lF) (.pair J8 (.pair J8 (.pair (.dat ja) (.pair (.own y2) (.pair J8 J8)))))))]))) (r180:M.den (.box (.pair (.dat lF) (.pair J8 (.pair J8 (.pair (.dat ja) (.pair (.own y2) (.pair J8 J8)))))))->M.den J8->Option (V8 ([bW]++[(true,(.pair (.dat lF) (.pair J8 (.pair J8 (.pair (.dat ja) (.pair (.own y2) (.pair J8 J8)))))))]))) (r213:M.den (.box (.pair (.dat lF) (.pair J8 (.pair J8 (.pair (.dat ja) (.pair (.own y2) (.pair J8 J8)))))))->Option (V8 ([bW]++[(true,(.pair (.dat lF) (.pair J8 (.pair J8 (.pair (.dat ja) (.pair (.own y2) (.pair J8 J8)))))))]))) (r235:M.den (.box (.pair (.dat lF) (.pair J8 (.pair J8 (.pair (.dat ja) (.pair (.own y2) (.pair J8 J8)))))))->Option (V8 ([bW]++[(true,(.pair (.dat lF) (.pair J8 (.pair J8 (.pair (.dat ja) (.pair (.own y2) (.pair J8 J8)))))))]))) (r267:M.den (.box (.pair (.dat lF) (.pair J8 (.pair J8 (.pair (.dat ja) (.pair (.own y2) (.pair J8 J8)))))))->M.den J8->Option (V8 ([bW]++[(true,(.pair (.dat lF) (.pair J8 (.pair J8 (.pair (.dat ja) (.pair (.own y2) (.pair J8 J8)))))))]))):Env:=⟨49,eqs,tt,gl,[(213,⟨v_,[bW],[(true,(.pair (.dat lF) (.pair J8 (.pair J8 (.pair (.dat ja) (.pair (.own y2) (.pair J8 J8)))))))],λx=>r213 x⟩),(212,Xd),(214,b4C),(180,⟨u_,[bW],[(true,(.pair (.dat lF) (.pair J8 (.pair J8 (.pair (.dat ja) (.pair (.own y2) (.pair J8 J8)))))))],λx=>r180 x.1 x.2⟩),(182,YW)],[],[],[],[0],[]⟩
def b0d:Ann:=.seq H9 (.seq H9 (.seq H9 (.blk (.loopR [(0,1),(4,8),(11,49),(1000000,1000001),(8000576,8000577)] ⟨[(0,(false,(.box (.pair (.dat lF) (.pair J8 (.pair J8 (.pair (.dat ja) (.pair (.own y2) (.pair J8 J8))))))))),(5,N7)],[]⟩ 999999 ⟨[],[]⟩ (.blk (.seq H9 (.seq (.joinR [(4,5),(17,29)] ⟨[],[]⟩ H9) H9)))))))
def yT(r134:D5->Option (Bool×D5))(r180:D5->Int->Option (Bool×D5))(r213:D5->Option (Bool×D5))(r235:D5->Option (Bool×D5))(r267:D5->Int->Option (Bool×D5))(A:D5)(B:Int):Option (Bool×D5):=l9 (r213 A) λx=>l7 (G8 x.1) (some (false,x.2)) (l9 (U2 (λ(x:D5×Int)=>l9 (dE x.1 0) λc=>l9 (yO c.1) λb=>l9 (l7 (C9 b.1 0) (some (.inr (true,c.2))) (l7 (H6 b.2 B) (some (.inr (true,c.2))) (l7 (H6 x.2 b.2) (some (.inr (true,c.2))) (some (.inl ()))))) λo=>X9 o (λx=>l9 (r180 (c.2.1,F6 .i64 c.2.2.1 1,c.2.2.2) (F6 .i64 b.2 1)) λx=>l7 (G8 x.1) (some (.rt (false,x.2))) (l9 (H7 x.2 b.1 0) λx=>l7 (C9 b.2 3) (some (.nx (x.2,Y1 .i64 b.2 1))) (some (.nx (x.2,b.2))))) λr=>some (.rt r)) (x.2,5)) λo=>X9 o (λ(y:PUnit)=>none) λr=>some r)
def b3j:Ret:=⟨[(.tmp 2,bW)],[(0,(true,(.pair (.dat lF) (.pair J8 (.pair J8 (.pair (.dat ja) (.pair (.own y2) (.pair J8 J8))))))))]⟩
def b6G (r134:M.den (.box (.pair (.dat lF) (.pair J8 (.pair J8 (.pair (.dat ja) (.pair (.own y2) (.pair J8 J8)))))))->Option (V8 ([bW]++[(true,(.pair (.dat lF) (.pair J8 (.pair J8 (.pair (.dat ja) (.pair (.own y2) (.pair J8 J8)))))))]))) (r180:M.den (.box (.pair (.dat lF) (.pair J8 (.pair J8 (.pair (.dat ja) (.pair (.own y2) (.pair J8 J8)))))))->M.den J8->Option (V8 ([bW]++[(true,(.pair (.dat lF) (.pair J8 (.pair J8 (.pair (.dat ja) (.pair (.own y2) (.pair J8 J8)))))))]))) (r213:M.den (.box (.pair (.dat lF) (.pair J8 (.pair J8 (.pair (.dat ja) (.pair (.own y2) (.pair J8 J8)))))))->Option (V8 ([bW]++[(true,(.pair (.dat lF) (.pair J8 (.pair J8 (.pair (.dat ja) (.pair (.own y2) (.pair J8 J8)))))))]))) (r235:M.den (.box (.pair (.dat lF) (.pair J8 (.pair J8 (.pair (.dat ja) (.pair (.own y2) (.pair J8 J8)))))))->Option (V8 ([bW]++[(true,(.pair (.dat lF) (.pair J8 (.pair J8 (.pair (.dat ja) (.pair (.own y2) (.pair J8 J8)))))))]))) (r267:M.den (.box (.pair (.dat lF) (.pair J8 (.pair J8 (.pair (.dat ja) (.pair (.own y2) (.pair J8 J8)))))))->M.den J8->Option (V8 ([bW]++[(true,(.pair (.dat lF) (.pair J8 (.pair J8 (.pair (.dat ja) (.pair (.own y2) (.pair J8 J8)))))))]))):Env:=⟨57,eqs,tt,gl,[(179,a3n),(212,Xd),(234,a7J),(182,YW),(213,⟨v_,[bW],[(true,(.pair (.dat lF) (.pair J8 (.pair J8 (.pair (.dat ja) (.pair (.own y2) (.pair J8 J8)))))))],λx=>r213 x⟩),(235,⟨a2r,[bW],[(true,(.pair (.dat lF) (.pair J8 (.pair J8 (.pair (.dat ja) (.pair (.own y2) (.pair J8 J8)))))))],λx=>r235 x⟩)],[],[],[],[0],[]⟩
def b0e:Ann:=.leaf
def zT(r134:D5->Option (Bool×D5))(r180:D5->Int->Option (Bool×D5))(r213:D5->Option (Bool×D5))(r235:D5->Option (Bool×D5))(r267:D5->Int->Option (Bool×D5))(A:D5):Option (Bool×D5):=l9 (kz A 7 [45]) λx=>l7 x.1 (l9 (dE x.2 1) λx=>l9 (nz x.1) λb=>l7 (G8 (C9 b 0)) (l9 (nz x.1) λc=>l9 (H7 (x.2.1,F6 .i64 x.2.2.1 2,x.2.2.2) c (Y1 .i64 0 x.1.2.2.1)) λx=>some x) (l9 (r213 (x.2.1,F6 .i64 x.2.2.1 1,x.2.2.2)) λx=>l7 x.1 (l9 (H7 x.2 10 0) λx=>some x) (some (false,x.2)))) (l9 (kz x.2 1 [110,111,116]) λx=>l7 x.1 (l9 (r213 (x.2.1,F6 .i64 x.2.2.1 1,x.2.2.2)) λx=>l7 x.1 (l9 (H7 x.2 25 0) λx=>some x) (some (false,x.2))) (l9 (r235 x.2) λx=>some x))
def b3k:Ret:=⟨[(.tmp 2,bW)],[(0,(true,(.pair (.dat lF) (.pair J8 (.pair J8 (.pair (.dat ja) (.pair (.own y2) (.pair J8 J8))))))))]⟩
def b6H (r134:M.den (.box (.pair (.dat lF) (.pair J8 (.pair J8 (.pair (.dat ja) (.pair (.own y2) (.pair J8 J8)))))))->Option (V8 ([bW]++[(true,(.pair (.dat lF) (.pair J8 (.pair J8 (.pair (.dat ja) (.pair (.own y2) (.pair J8 J8)))))))]))) (r180:M.den (.box (.pair (.dat lF) (.pair J8 (.pair J8 (.pair (.dat ja) (.pair (.own y2) (.pair J8 J8)))))))->M.den J8->Option (V8 ([bW]++[(true,(.pair (.dat lF) (.pair J8 (.pair J8 (.pair (.dat ja) (.pair (.own y2) (.pair J8 J8)))))))]))) (r213:M.den (.box (.pair (.dat lF) (.pair J8 (.pair J8 (.pair (.dat ja) (.pair (.own y2) (.pair J8 J8)))))))->Option (V8 ([bW]++[(true,(.pair (.dat lF) (.pair J8 (.pair J8 (.pair (.dat ja) (.pair (.own y2) (.pair J8 J8)))))))]))) (r235:M.den (.box (.pair (.dat lF) (.pair J8 (.pair J8 (.pair (.dat ja) (.pair (.own y2) (.pair J8 J8)))))))->Option (V8 ([bW]++[(true,(.pair (.dat lF) (.pair J8 (.pair J8 (.pair (.dat ja) (.pair (.own y2) (.pair J8 J8)))))))]))) (r267:M.den (.box (.pair (.dat lF) (.pair J8 (.pair J8 (.pair (.dat ja) (.pair (.own y2) (.pair J8 J8)))))))->M.den J8->Option (V8 ([bW]++[(true,(.pair (.dat lF) (.pair J8 (.pair J8 (.pair (.dat ja) (.pair (.own y2) (.pair J8 J8)))))))]))):Env:=⟨126,eqs,tt,gl,[(212,Xd),(234,a7J),(182,YW),(179,a3n),(134,⟨TN,[bW],[(true,(.pair (.dat lF) (.pair J8 (.pair J8 (.pair (.dat ja) (.pair (.own y2) (.pair J8 J8)))))))],λx=>r134 x⟩),(265,a7M),(135,YT),(266,b5c),(267,⟨a2s,[bW],[(true,(.pair (.dat lF) (.pair J8 (.pair J8 (.pair (.dat ja) (.pair (.own y2) (.pair J8 J8)))))))],λx=>r267 x.1 x.2⟩),(268,b5d)],[],[],[],[0],[]⟩
def b0f:Ann:=.leaf
def AO(r134:D5->Option (Bool×D5))(r180:D5->Int->Option (Bool×D5))(r213:D5->Option (Bool×D5))(r235:D5->Option (Bool×D5))(r267:D5->Int->Option (Bool×D5))(A:D5):Option (Bool×D5):=l9 (dE A 0) λx=>l9 (nz x.1) λd=>l7 (G8 (C9 d 0)) (l9 (nz x.1) λb=>l9 (H7 (x.2.1,F6 .i64 x.2.2.1 1,x.2.2.2) b x.1.2.2.1) λx=>some x) (l7 (C9 x.1.1 5) (l9 (H7 (x.2.1,F6 .i64 x.2.2.1 1,x.2.2.2) 5 x.1.2.2.1) λx=>some x) (l9 (kz x.2 7 [40]) λb=>l7 b.1 (l9 (r134 (b.2.1,F6 .i64 b.2.2.1 1,b.2.2.2)) λx=>l7 x.1 (l9 (V6 x.2 [41]) λx=>some x) (some (false,x.2))) (l7 (G8 (C9 x.1.1 1)) (l9 (aK b.2 2) λx=>some x) (l7 (seq x.1.2.1 [116,114,117,101]) (l9 (H7 (b.2.1,F6 .i64 b.2.2.1 1,b.2.2.2) 1 1) λx=>some x) (l7 (seq x.1.2.1 [102,97,108,115,101]) (l9 (H7 (b.2.1,F6 .i64 b.2.2.1 1,b.2.2.2) 1 0) λx=>some x) (l7 (seq x.1.2.1 [116,111,100,97,121]) (l9 (H7 (b.2.1,F6 .i64 b.2.2.1 1,b.2.2.2) 9 0) λx=>some x) (l9 (yG x.1.2.1) λf=>l7 (G8 (C9 f 0)) (l9 (V6 (b.2.1,F6 .i64 b.2.2.1 1,b.2.2.2) [40]) λc=>l7 c.1 (l9 (yG x.1.2.1) λx=>l9 (r267 c.2 x) λx=>l7 x.1 (l9 (V6 x.2 [41]) λx=>some x) (some (false,x.2))) (some (false,c.2))) (l9 (yg b.2) λx=>some x))))))))
def b3l:Ret:=⟨[(.tmp 4,bW)],[(0,(true,(.pair (.dat lF) (.pair J8 (.pair J8 (.pair (.dat ja) (.pair (.own y2) (.pair J8 J8))))))))]⟩
def b6I (r134:M.den (.box (.pair (.dat lF) (.pair J8 (.pair J8 (.pair (.dat ja) (.pair (.own y2) (.pair J8 J8)))))))->Option (V8 ([bW]++[(true,(.pair (.dat lF) (.pair J8 (.pair J8 (.pair (.dat ja) (.pair (.own y2) (.pair J8 J8)))))))]))) (r180:M.den (.box (.pair (.dat lF) (.pair J8 (.pair J8 (.pair (.dat ja) (.pair (.own y2) (.pair J8 J8)))))))->M.den J8->Option (V8 ([bW]++[(true,(.pair (.dat lF) (.pair J8 (.pair J8 (.pair (.dat ja) (.pair (.own y2) (.pair J8 J8)))))))]))) (r213:M.den (.box (.pair (.dat lF) (.pair J8 (.pair J8 (.pair (.dat ja) (.pair (.own y2) (.pair J8 J8)))))))->Option (V8 ([bW]++[(true,(.pair (.dat lF) (.pair J8 (.pair J8 (.pair (.dat ja) (.pair (.own y2) (.pair J8 J8)))))))]))) (r235:M.den (.box (.pair (.dat lF) (.pair J8 (.pair J8 (.pair (.dat ja) (.pair (.own y2) (.pair J8 J8)))))))->Option (V8 ([bW]++[(true,(.pair (.dat lF) (.pair J8 (.pair J8 (.pair (.dat ja) (.pair (.own y2) (.pair J8 J8)))))))]))) (r267:M.den (.box (.pair (.dat lF) (.pair J8 (.pair J8 (.pair (.dat ja) (.pair (.own y2) (.pair J8 J8)))))))->M.den J8->Option (V8 ([bW]++[(true,(.pair (.dat lF) (.pair J8 (.pair J8 (.pair (.dat ja) (.pair (.own y2) (.pair J8 J8)))))))]))):Env:=⟨130,eqs,tt,gl,[(182,YW),(295,a7Q),(265,a7M),(134,⟨TN,[bW],[(true,(.pair (.dat lF) (.pair J8 (.pair J8 (.pair (.dat ja) (.pair (.own y2) (.pair J8 J8)))))))],λx=>r134 x⟩),(296,b5i)],[],[],[],[0],[]⟩
def b0g:Ann:=.seq H9 (.seq (.joinR [(0,1),(4,10),(12,89),(1000000,1000002)] ⟨[(0,(false,(.box (.pair (.dat lF) (.pair J8 (.pair J8 (.pair (.dat ja) (.pair (.own y2) (.pair J8 J8)))))))))],[]⟩ (.seq H9 (.blk (.seq H9 (.cond H9 (.seq (.join [(18,23)] ⟨[(18,bW)],[]⟩ H9) (.cond H9 (.seq (.join [(40,43)] ⟨[(40,bW)],[]⟩ H9) H9)))))))) H9)
def AP(r134:D5->Option (Bool×D5))(r180:D5->Int->Option (Bool×D5))(r213:D5->Option (Bool×D5))(r235:D5->Option (Bool×D5))(r267:D5->Int->Option (Bool×D5))(A:D5)(B:Int):Option (Bool×D5):=l9 (l7 (C9 B 35) (l9 (H7 A B 0) λx=>some (.inr x)) (l9 (l7 (C9 B 36) (some (C9 B 36)) (l7 (C9 B 37) (some (C9 B 37)) (l7 (C9 B 38) (some (C9 B 38)) (some (C9 B 39))))) λx=>l7 x (l9 (kT A A.2.2.2.1.2.2.2.2) λx=>l7 x.2.1 (l9 (H7 x.2.2 B x.1) λx=>some (.inr x)) (some (.inr (false,x.2.2)))) (l9 (l7 (C9 B 33) (some (C9 B 33)) (some (C9 B 34))) λx=>l7 x (l9 (kT A A.2.2.2.1.2.1) λx=>l7 (G8 x.2.1) (some (.inr (false,x.2.2))) (l9 (V6 x.2.2 [44]) λd=>l7 (G8 d.1) (some (.inr (false,d.2))) (l9 (r134 d.2) λb=>l7 (G8 b.1) (some (.inr (false,b.2))) (l7 (C9 B 33) (l9 (H7 b.2 B x.1) λx=>some (.inr x)) (l9 (V6 b.2 [44]) λf=>l7 (G8 f.1) (some (.inr (false,f.2))) (l9 (eP f.2) λc=>l7 c.2.1 (l9 (H7 c.2.2 B (F6 .i64 (DU .i64 8 x.1) c.1)) λx=>some (.inr x)) (some (.inr (false,c.2.2))))))))) (some (.inl A))))) λo=>X9 o (λ(x:D5)=>l9 (r134 x) λx=>l7 (G8 x.1) (some (false,x.2)) (l7 (C9 B 31) (l7 (C9 B 31) (l9 (H7 x.2 B 0) λx=>some x) (l9 (V6 x.2 [44]) λx=>l7 (G8 x.1) (some (false,x.2)) (l9 (r134 x.2) λx=>l7 (G8 x.1) (some (false,x.2)) (l7 (C9 B 14) (l7 (C9 B 14) (l9 (V6 x.2 [44]) λx=>l7 (G8 x.1) (some (false,x.2)) (l9 (eP x.2) λx=>l7 x.2.1 (l9 (H7 x.2.2 B x.1) λx=>some x) (some (false,x.2.2)))) (l9 (H7 x.2 B 0) λx=>some x)) (l7 (C9 B 15) (l7 (C9 B 15) (l9 (V6 x.2 [44]) λx=>l7 (G8 x.1) (some (false,x.2)) (l9 (eP x.2) λx=>l7 x.2.1 (l9 (H7 x.2.2 B x.1) λx=>some x) (some (false,x.2.2)))) (l9 (H7 x.2 B 0) λx=>some x)) (l7 (C9 B 16) (l9 (V6 x.2 [44]) λx=>l7 (G8 x.1) (some (false,x.2)) (l9 (eP x.2) λx=>l7 x.2.1 (l9 (H7 x.2.2 B x.1) λx=>some x) (some (false,x.2.2)))) (l9 (H7 x.2 B 0) λx=>some x))))))) (l7 (C9 B 32) (l9 (H7 x.2 B 0) λx=>some x) (l9 (V6 x.2 [44]) λx=>l7 (G8 x.1) (some (false,x.2)) (l9 (r134 x.2) λx=>l7 (G8 x.1) (some (false,x.2)) (l7 (C9 B 14) (l7 (C9 B 14) (l9 (V6 x.2 [44]) λx=>l7 (G8 x.1) (some (false,x.2)) (l9 (eP x.2) λx=>l7 x.2.1 (l9 (H7 x.2.2 B x.1) λx=>some x) (some (false,x.2.2)))) (l9 (H7 x.2 B 0) λx=>some x)) (l7 (C9 B 15) (l7 (C9 B 15) (l9 (V6 x.2 [44]) λx=>l7 (G8 x.1) (some (false,x.2)) (l9 (eP x.2) λx=>l7 x.2.1 (l9 (H7 x.2.2 B x.1) λx=>some x) (some (false,x.2.2)))) (l9 (H7 x.2 B 0) λx=>some x)) (l7 (C9 B 16) (l9 (V6 x.2 [44]) λx=>l7 (G8 x.1) (some (false,x.2)) (l9 (eP x.2) λx=>l7 x.2.1 (l9 (H7 x.2.2 B x.1) λx=>some x) (some (false,x.2.2)))) (l9 (H7 x.2 B 0) λx=>some x))))))))) λr=>some r
def x8:Nat->(M.den (.box (.pair (.dat lF) (.pair J8 (.pair J8 (.pair (.dat ja) (.pair (.own y2) (.pair J8 J8)))))))->Option (V8 ([bW]++[(true,(.pair (.dat lF) (.pair J8 (.pair J8 (.pair (.dat ja) (.pair (.own y2) (.pair J8 J8)))))))])))×(M.den (.box (.pair (.dat lF) (.pair J8 (.pair J8 (.pair (.dat ja) (.pair (.own y2) (.pair J8 J8)))))))->M.den J8->Option (V8 ([bW]++[(true,(.pair (.dat lF) (.pair J8 (.pair J8 (.pair (.dat ja) (.pair (.own y2) (.pair J8 J8)))))))])))×(M.den (.box (.pair (.dat lF) (.pair J8 (.pair J8 (.pair (.dat ja) (.pair (.own y2) (.pair J8 J8)))))))->Option (V8 ([bW]++[(true,(.pair (.dat lF) (.pair J8 (.pair J8 (.pair (.dat ja) (.pair (.own y2) (.pair J8 J8)))))))])))×(M.den (.box (.pair (.dat lF) (.pair J8 (.pair J8 (.pair (.dat ja) (.pair (.own y2) (.pair J8 J8)))))))->Option (V8 ([bW]++[(true,(.pair (.dat lF) (.pair J8 (.pair J8 (.pair (.dat ja) (.pair (.own y2) (.pair J8 J8)))))))])))×(M.den (.box (.pair (.dat lF) (.pair J8 (.pair J8 (.pair (.dat ja) (.pair (.own y2) (.pair J8 J8)))))))->M.den J8->Option (V8 ([bW]++[(true,(.pair (.dat lF) (.pair J8 (.pair J8 (.pair (.dat ja) (.pair (.own y2) (.pair J8 J8)))))))])))|0=>(λa0=>none,λa0 a1=>none,λa0=>none,λa0=>none,λa0 a1=>none)|n+1=>(λa0=>xf (x8 n).1 (x8 n).2.1 (x8 n).2.2.1 (x8 n).2.2.2.1 (x8 n).2.2.2.2 a0,λa0 a1=>yT (x8 n).1 (x8 n).2.1 (x8 n).2.2.1 (x8 n).2.2.2.1 (x8 n).2.2.2.2 a0 a1,λa0=>zT (x8 n).1 (x8 n).2.1 (x8 n).2.2.1 (x8 n).2.2.2.1 (x8 n).2.2.2.2 a0,λa0=>AO (x8 n).1 (x8 n).2.1 (x8 n).2.2.1 (x8 n).2.2.2.1 (x8 n).2.2.2.2 a0,λa0 a1=>AP (x8 n).1 (x8 n).2.1 (x8 n).2.2.1 (x8 n).2.2.2.1 (x8 n).2.2.2.2 a0 a1)
def rO:M.den (.box (.pair (.dat lF) (.pair J8 (.pair J8 (.pair (.dat ja) (.pair (.own y2) (.pair J8 J8)))))))->Option (V8 ([bW]++[(true,(.pair (.dat lF) (.pair J8 (.pair J8 (.pair (.dat ja) (.pair (.own y2) (.pair J8 J8)))))))])):=λa0=>(x8 gy).1 a0
def b3F:FSpec:=mkS TN a6r λx=>rO x
def Ff(A:List UInt8)(B:D9):Option (List J4×J4):=l9 (FH A) λx=>l7 (G8 (C9 x.2.2 0)) (some ([],x.2)) (l9 (l9 (rO (x.1,0,o9 A,B,[],0,0)) λb=>l7 b.1 (l7 (H6 b.2.2.1 (o9 x.1)) (l9 (aK b.2 2) λx=>some x.2) (some b.2)) (some b.2)) λx=>l7 (G8 (C9 x.2.2.2.2.2.2 0)) (some ([],x.2.2.2.2.2)) (l9 (Bf x.2.2.2.2.1) λb=>l7 (G8 (C9 b.2 0)) (some ([],0,b.2)) (l9 (lJ x.2.2.2.2.1 B) λc=>l7 (G8 (C9 c.2 0)) (some ([],0,2)) (l7 (G8 (seq c.1 A)) (some ([],0,2)) (some (x.2.2.2.2.1,0,0))))))
def q92:FQ:=⟨[uD .str,tD ja],⟨[(.tmp 4,uO y2),(.tmp 5,N7),(.tmp 6,N7)],[]⟩,mE 71 [(133,b3E),(134,b3F),(135,YT),(38,s38),(16,s16)],sN 4 (aO (.join [(10,11),(30,39),(7001088,7001089),(20000640,20000641)] ⟨[(10,(false,(.box (pA (dT lF) (pA J8 (pA J8 (pA (dT ja) (pA (oW y2) (pA J8 J8)))))))))],[]⟩ H9) H9)⟩
def s92:FSpec:=ae q92 λx=>Ff x.1 x.2
def uu(A:ah)(B:List UInt8):Option (Int×ah):=l9 (Gq B [32]) λx=>l9 (l7 (G8 x.2.2) (some (.inr (2,A))) (l7 (seq x.1 []) (some (.inr (2,A))) (l7 (seq x.2.1 []) (some (.inr (2,A))) (l7 (H6 0 (o9 A.2.2.2.2.2)) (some (.inr (2,A))) (some (.inl ())))))) λo=>X9 o (λd=>l7 (P7 8 (o9 A.2.2.2.1)) (some (4,A)) (l9 (iL A x.1) λb=>l7 (H6 b.1 0) (some (6,b.2)) (l9 (Ff x.2.1 b.2.2.1) λx=>l7 (G8 (C9 x.2.2 0)) (some (x.2.2,b.2)) (l9 (bK b.2.2.2.2.1 [x.1]) λx=>l9 (bK b.2.2.2.2.2.1 [b.1]) λc=>some (0,b.2.1,b.2.2.1,b.2.2.2.1,x,c,b.2.2.2.2.2.2))))) λr=>some r
def q54:FQ:=⟨[(false,(.box (pA (dT y24) (pA (dT ja) (pA J8 (pA (oW y12) (pA oiM (oW y30)))))))),(uD .str)],⟨[(.tmp 4,N7)],[(0,(true,(pA (dT y24) (pA (dT ja) (pA J8 (pA (oW y12) (pA oiM (oW y30))))))))]⟩,⟨86,eqs,tt,gl,[(90,s90),(91,s91),(92,s92)],[],[],[],[0],[]⟩,sN 2 (aO (jnR [(4,5),(18,37)] sgN H9) H9)⟩
def s54:FSpec:=ae q54 λx=>uu x.1 x.2
def Ci(A:List UInt8):Option (J4×J4):=l7 (H6 8 (o9 A)) (some ((0,0),0,4)) (l9 (U2 (λ(x:J4×aA)=>l7 (H6 x.2.2 (o9 A)) (l9 (sat A x.2.2) λb=>l7 (C9 b 48) (some (.nx (x.1,(ior .i64 (RQ .i64 x.2.1.1 1) 1,RQ .i64 x.2.1.2 1),F6 .i64 x.2.2 1))) (l7 (C9 b 49) (some (.nx (x.1,(ior .i64 (RQ .i64 x.2.1.1 1) 1,ior .i64 (RQ .i64 x.2.1.2 1) 1),F6 .i64 x.2.2 1))) (l7 (C9 b 45) (some (.nx (x.1,(RQ .i64 x.2.1.1 1,RQ .i64 x.2.1.2 1),F6 .i64 x.2.2 1))) (some (.rt ((0,0),0,2)))))) (some (.ex (x.1,x.2.1)))) ((0,0),(0,0),0)) λo=>X9 o (λ(y:J4×J4)=>some (y.2,o9 A,0)) λr=>some r)
def q93:FQ:=⟨[uD .str],⟨[(.cell 2 57,tD y2),(.tmp 3,N7),(.tmp 4,N7)],[]⟩,mE 50 [],sN 3 (aO (sN 1 (iR (lpR [(2,7),(13,47),(4000128,4000129),(17000320,17000321)] ⟨[(2,(false,(.box (dT y2)))),(5,(false,(.box (dT y2)))),(13,N7)],[]⟩ 0 ⟨[(2,(false,(.box (dT y2)))),(5,(false,(.box (dT y2))))],[]⟩ H9))) H9)⟩
def s93:FSpec:=ae q93 λx=>Ci x
def vG(A:ah)(B:List UInt8):Option (Int×ah):=l9 (Gq B [32]) λx=>l9 (l7 (G8 x.2.2) (some (.inr (2,A))) (l7 (seq x.1 []) (some (.inr (2,A))) (some (.inl ())))) λo=>X9 o (λg=>l9 (lw x.2.1 [114,117,108,101,32]) λb=>l9 (l7 b.2 (l9 (uj b.1) λf=>l7 (G8 f) (some (.inr (2,A))) (l7 (G8 b.2) (l7 (G8 (seq x.2.1 [110,111,110,101])) (l7 (G8 (seq x.2.1 [99,111,110,102,108,105,99,116])) (some (.inr (2,A))) (some (.inl ()))) (some (.inl ()))) (some (.inl ())))) (l7 (G8 b.2) (l7 (G8 (seq x.2.1 [110,111,110,101])) (l7 (G8 (seq x.2.1 [99,111,110,102,108,105,99,116])) (some (.inr (2,A))) (some (.inl ()))) (some (.inl ()))) (some (.inl ())))) λo=>X9 o (λf=>l9 (l7 (H6 0 (o9 A.2.2.2.1)) (l9 (Ci x.1) λx=>l7 (G8 (C9 x.2.2 0)) (some (.inr (2,A))) (l7 (G8 (C9 x.2.1 (o9 A.2.2.2.1))) (some (.inr (2,A))) (l7 (C9 (o9 A.2.2.2.1) 0) (some (.inr (2,A))) (some (.inl (x.1,-1)))))) (l7 (G8 (seq x.1 [46])) (l9 (Ci x.1) λx=>l7 (G8 (C9 x.2.2 0)) (some (.inr (2,A))) (l7 (G8 (C9 x.2.1 (o9 A.2.2.2.1))) (some (.inr (2,A))) (l7 (C9 (o9 A.2.2.2.1) 0) (some (.inr (2,A))) (some (.inl (x.1,-1)))))) (some (.inl ((0,0),-1))))) λo=>X9 o (λ(c:aA)=>l7 (seq x.2.1 [99,111,110,102,108,105,99,116]) (l7 b.2 (l9 (iL A b.1) λx=>l7 (H6 x.1 0) (some (6,x.2)) (l9 (bK x.2.2.2.2.2.2 [(c.1,x.1)]) λd=>some (0,x.2.1,x.2.2.1,x.2.2.2.1,x.2.2.2.2.1,x.2.2.2.2.2.1,d))) (l9 (bK A.2.2.2.2.2 [(c.1,-2)]) λx=>some (0,A.1,A.2.1,A.2.2.1,A.2.2.2.1,A.2.2.2.2.1,x))) (l7 b.2 (l9 (iL A b.1) λx=>l7 (H6 x.1 0) (some (6,x.2)) (l9 (bK x.2.2.2.2.2.2 [(c.1,x.1)]) λd=>some (0,x.2.1,x.2.2.1,x.2.2.2.1,x.2.2.2.2.1,x.2.2.2.2.2.1,d))) (l9 (bK A.2.2.2.2.2 [c]) λx=>some (0,A.1,A.2.1,A.2.2.1,A.2.2.2.1,A.2.2.2.2.1,x)))) λr=>some r) λr=>some r) λr=>some r
def q55:FQ:=⟨[(false,(.box (pA (dT y24) (pA (dT ja) (pA J8 (pA (oW y12) (pA oiM (oW y30)))))))),(uD .str)],⟨[(.tmp 4,N7)],[(0,(true,(pA (dT y24) (pA (dT ja) (pA J8 (pA (oW y12) (pA oiM (oW y30))))))))]⟩,⟨105,eqs,tt,gl,[(90,s90),(52,s52),(53,s53),(93,s93),(91,s91)],[],[],[],[0],[]⟩,sN 2 (aO (jnR [(4,5),(21,27)] sgN H9) (sN 1 (aO (jnR [(4,5),(32,50)] sgN H9) (sN 1 (aO (jnR [(4,5),(10,15),(51,82),(33000640,33000641)] ⟨[(10,(false,(.box (dT y30))))],[]⟩ H9) H9)))))⟩
def s55:FSpec:=ae q55 λx=>vG x.1 x.2
def ut(A:ah)(B:Int)(C:List UInt8):Option (Int×ah):=l7 (C9 B 0) (l9 (lw C [100,101,99,105,115,105,111,110,32]) λx=>l7 (G8 x.2) (some (2,A)) (l9 (uj x.1) λc=>l7 (G8 c) (some (2,A)) (l9 (U2 (λ(b:ah×Int)=>l7 (H6 b.2 (o9 A.1.2.2.2.1)) (l9 (L6 A.1.2.2.2.1 b.2) λd=>l7 (seq d.1 x.1) (some (.rt (0,b.1.1,b.1.2.1,b.2,b.1.2.2.2))) (some (.nx (b.1,F6 .i64 b.2 1)))) (some (.ex b.1))) (A,0)) λo=>X9 o (λ(y:ah)=>some (6,y)) λr=>some r))) (l9 (lw C [119,104,101,110,32]) λx=>l7 x.2 (l9 (uu A x.1) λx=>some x) (l9 (lw C [114,111,119,32]) λx=>l7 x.2 (l9 (vG A x.1) λx=>some x) (some (2,A))))
def q28:FQ:=⟨[(false,(.box (pA (dT y24) (pA (dT ja) (pA J8 (pA (oW y12) (pA oiM (oW y30)))))))),N7,(uD .str)],⟨[(.tmp 6,N7)],[(0,(true,(pA (dT y24) (pA (dT ja) (pA J8 (pA (oW y12) (pA oiM (oW y30))))))))]⟩,⟨68,eqs,tt,gl,[(52,s52),(53,s53),(54,s54),(55,s55)],[],[],[],[0],[]⟩,sN 1 (aO (sN 1 (.cond (sN 2 (aO (sN 1 (iR (lpR [(0,1),(6,7),(9,11),(35,50),(1000000,1000004)] ⟨[(0,(false,(.box (pA (dT y24) (pA (dT ja) (pA J8 (pA (oW y12) (pA oiM (oW y30))))))))),(35,N7)],[]⟩ 0 ⟨[(0,(false,(.box (pA (dT y24) (pA (dT ja) (pA J8 (pA (oW y12) (pA oiM (oW y30)))))))))],[]⟩ H9))) H9)) H9)) H9)⟩
def s28:FSpec:=ae q28 λx=>ut x.1 x.2.1 x.2.2
def uT(A:dL)(B:Int)(C:List UInt8):Option (X6×J4):=l9 (wC A) λx=>l7 (G8 (nP (C9 x.1 0) (nP (C9 x.2.1 0) (nP (C9 x.2.2.1 0) (C9 x.2.2.2 0))))) (some ((0,[],[],[]),0,1)) (l9 (l7 (H6 B 0) (some (.inr ((0,[],[],[]),0,6))) (l7 (P7 (o9 A.2.2) B) (some (.inr ((0,[],[],[]),0,6))) (some (.inl (0,[],[],[]))))) λo=>X9 o (λ(x:X6)=>l9 (Ae C) λb=>l7 (G8 (C9 b.2 0)) (some ((0,[],[],[]),0,b.2)) (l7 (C9 (o9 b.1) 0) (some ((0,[],[],[]),0,5)) (l9 (L6 A.2.2 B) λd=>l9 (nX A B) λf=>l9 (U2 (λ(x:X6×ah×Int)=>l7 (H6 x.2.2 (o9 b.1)) (l9 (L6 b.1 x.2.2) λi=>l9 (eH b.1 (dB x.2.2)) λg=>l9 (ut x.2.1 x.2.2 g) λc=>l7 (G8 (C9 c.1 0)) (some (.rt ((0,[],[],[]),x.2.2,c.1))) (some (.nx (x.1,c.2,F6 .i64 x.2.2 1)))) (some (.ex (x.1,x.2.1)))) (x,(d,f,0,[],[],[]),0)) λo=>X9 o (λ(y:X6×ah)=>some (y.2.2.2,0,0)) λr=>some r))) λr=>some r)
def q11:FQ:=⟨[tD y27,N7,(uD .str)],⟨[(.cell 6 31,tD y34),(.tmp 7,N7),(.tmp 8,N7)],[]⟩,mE 70 [(13,s13),(27,s27),(15,s15),(28,s28)],sN 2 (aO (jnR [(6,9),(20,30),(4000384,4000385)] ⟨[(6,(false,(.box (dT y34))))],[]⟩ H9) (sN 4 (aO (sN 1 (iR (lpR [(6,9),(11,15),(54,68),(16000000,16000001),(50000704,50000705)] ⟨[(6,(false,(.box (dT y34)))),(11,(false,(.box (pA (dT y24) (pA (dT ja) (pA J8 (pA (oW y12) (pA oiM (oW y30))))))))),(54,N7)],[]⟩ 0 ⟨[(6,(false,(.box (dT y34)))),(11,(false,(.box (pA (dT y24) (pA (dT ja) (pA J8 (pA (oW y12) (pA oiM (oW y30)))))))))],[]⟩ H9))) H9)))⟩
def s11:FSpec:=ae q11 λx=>uT x.1 x.2.1 x.2.2
def QQ(A:List J4)(B:List J4):Option Bool:=l7 (G8 (C9 (o9 A) (o9 B))) (some false) (l9 (U2 (λ(x:Int)=>l7 (H6 x (o9 A)) (l7 (H6 x (o9 B)) (l9 (L6 A x) λb=>l9 (L6 B x) λc=>l7 (G8 (nP (C9 b.1 c.1) (C9 b.2 c.2))) (some (.rt false)) (some (.nx (F6 .i64 x 1)))) (some (.ex ()))) (some (.ex ()))) 0) λo=>X9 o (λy=>some true) λr=>some r)
def q56:FQ:=⟨[uD y12,uD y12],tR 4 bW,mE 32 [],sN 2 (aO (sN 1 (iR (lpR [(4,6),(11,32)] ⟨[(5,N7)],[]⟩ 0 sgN H9))) H9)⟩
def s56:FSpec:=ae q56 λx=>QQ x.1 x.2
def QP(A:List (List J4))(B:List (List J4)):Option Bool:=l7 (G8 (C9 (o9 A) (o9 B))) (some false) (l9 (U2 (λ(x:Int)=>l7 (H6 x (o9 A)) (l7 (H6 x (o9 B)) (l9 (L6 A x) λb=>l9 (L6 B x) λc=>l9 (QQ b c) λd=>l7 (G8 d) (some (.rt false)) (some (.nx (F6 .i64 x 1)))) (some (.ex ()))) (some (.ex ()))) 0) λo=>X9 o (λy=>some true) λr=>some r)
def q29:FQ:=⟨[uD y28,uD y28],tR 4 bW,mE 33 [(56,s56)],sN 2 (aO (sN 1 (iR (lpR [(4,6),(11,33)] ⟨[(5,N7)],[]⟩ 0 sgN H9))) H9)⟩
def s29:FSpec:=ae q29 λx=>QP x.1 x.2
def TZ(A:List Int)(B:List Int):Option Bool:=l7 (G8 (C9 (o9 A) (o9 B))) (some false) (l9 (U2 (λ(x:Int)=>l7 (H6 x (o9 A)) (l7 (H6 x (o9 B)) (l9 (L6 A x) λb=>l9 (L6 B x) λc=>l7 (G8 (C9 b c)) (some (.rt false)) (some (.nx (F6 .i64 x 1)))) (some (.ex ()))) (some (.ex ()))) 0) λo=>X9 o (λy=>some true) λr=>some r)
def q30:FQ:=⟨[uD y29,uD y29],tR 4 bW,mE 32 [],sN 2 (aO (sN 1 (iR (lpR [(4,6),(11,32)] ⟨[(5,N7)],[]⟩ 0 sgN H9))) H9)⟩
def s30:FSpec:=ae q30 λx=>TZ x.1 x.2
def BG(A:List aA)(B:List aA):Option Bool:=l7 (G8 (C9 (o9 A) (o9 B))) (some false) (l9 (U2 (λ(x:Int)=>l7 (H6 x (o9 A)) (l7 (H6 x (o9 B)) (l9 (L6 A x) λb=>l9 (L6 B x) λc=>l7 (G8 (nP (C9 b.1.1 c.1.1) (nP (C9 b.1.2 c.1.2) (C9 b.2 c.2)))) (some (.rt false)) (some (.nx (F6 .i64 x 1)))) (some (.ex ()))) (some (.ex ()))) 0) λo=>X9 o (λy=>some true) λr=>some r)
def q31:FQ:=⟨[uD y31,uD y31],tR 4 bW,mE 32 [],sN 2 (aO (sN 1 (iR (lpR [(4,6),(11,32)] ⟨[(5,N7)],[]⟩ 0 sgN H9))) H9)⟩
def s31:FSpec:=ae q31 λx=>BG x.1 x.2
def Az(A:X6)(B:X6):Option Bool:=l7 (C9 A.1 B.1) (l9 (QP A.2.1 B.2.1) λx=>l7 x (l9 (TZ A.2.2.1 B.2.2.1) λx=>l7 x (l9 (BG A.2.2.2 B.2.2.2) λx=>some x) (some false)) (some false)) (some false)
def q12:FQ:=⟨[tD y34,tD y34],tR 4 bW,mE 31 [(29,s29),(30,s30),(31,s31)],H9⟩
def s12:FSpec:=ae q12 λx=>Az x.1 x.2
def yl:Option Bool:=l9 (KE [(7,0)]) λx=>l9 (lN x 0 (0,[],[],[((0,0),0)])) λc=>l9 (uT x 0 [100,101,99,105,115,105,111,110,32,100,10,114,111,119,32,46,32,114,117,108,101,32,98,97,115,101,10]) λb=>l9 (uT x 0 []) λx=>l7 (seq c.1 [100,101,99,105,115,105,111,110,32,100,10,114,111,119,32,46,32,114,117,108,101,32,98,97,115,101,10]) (l7 (C9 c.2 0) (l7 (C9 b.2.1 0) (l7 (C9 b.2.2 0) (l9 (Az (0,[],[],[((0,0),0)]) b.1) λd=>l7 d (some (C9 x.2.2 5)) (some false)) (some false)) (some false)) (some false)) (some false)
def q6:FQ:=⟨[],tR 0 bW,mE 58 [(10,s10),(7,s7),(11,s11),(12,s12)],H9⟩
def s6:FSpec:=ae q6 λx=>yl
def Bv(A:Int):Option Bool:=l7 (P7 97 A) (some (P7 A 122)) (some false)
def b1o:FQ:=⟨[(false,(dT (.int .u8)))],tR 2 bW,mE 9 [],H9⟩
def a7w:FSpec:=ae b1o λx=>Bv x
def FX(A:Int):Option Bool:=l7 (P7 48 A) (some (P7 A 57)) (some false)
def b1U:FQ:=⟨[(false,(dT (.int .u8)))],tR 2 bW,mE 9 [],H9⟩
def b4p:FSpec:=ae b1U λx=>FX x
def Eg(A:Int):Option Bool:=l9 (Bv A) λx=>l7 x (some true) (l9 (FX A) λx=>l7 x (some true) (some (C9 A 95)))
def b1p:FQ:=⟨[(false,(dT (.int .u8)))],tR 2 bW,mE 13 [(156,a7w),(195,b4p)],H9⟩
def b3Q:FSpec:=ae b1p λx=>Eg x
def qc:Option (List (List UInt8)):=some [[105,102],[116,104,101,110],[101,108,115,101],[111,114],[97,110,100],[110,111,116],[116,114,117,101],[102,97,108,115,101],[116,111,100,97,121],[115,104,97,114,101],[100,105,118],[114,111,117,110,100],[109,105,110],[109,97,120],[112,108,117,115],[109,111,110,116,104,115],[100,97,121,115],[121,101,97,114,115],[121,101,97,114],[109,111,110,116,104],[116,97,98],[98,97,110,100],[99,111,117,110,116],[115,117,109],[97,108,108],[97,110,121],[109,111,115,116],[101,110,117,109],[116,97,98,108,101],[114,111,119],[115,99,111,112,101],[109,101,109,98,101,114,115],[105,110,112,117,116],[100,101,102],[114,117,108,101],[111,102],[111,118,101,114],[112,114,105,111],[102,114,111,109],[116,111],[101,110,100],[119,104,101,110],[105,115],[115,114,99],[98,111,111,108],[105,110,116],[109,111,110,101,121],[114,97,116,101],[100,97,116,101],[100,111,119,110],[117,112],[122,101,114,111],[97,119,97,121],[104,97,108,102],[101,118,101,110]]
def b1q:FQ:=⟨[],tR 0 (uO .str),mE 2 [],H9⟩
def b3R:FSpec:=ae b1q λx=>qc
def bU(A:List UInt8):Option Bool:=l9 (l7 (C9 (o9 A) 0) (some (.inr false)) (l7 (H6 16 (o9 A)) (some (.inr false)) (l9 (sat A 0) λx=>l9 (Bv x) λx=>l7 (G8 x) (some (.inr false)) (some (.inl ()))))) λo=>X9 o (λx=>l9 (U2 (λ(x:Int)=>l7 (H6 x (o9 A)) (l9 (sat A x) λb=>l9 (Eg b) λc=>l7 (G8 c) (some (.rt false)) (some (.nx (F6 .i64 x 1)))) (some (.ex ()))) 0) λo=>X9 o (λy=>l9 qc λx=>l9 (U2 (λ(b:Int)=>l7 (H6 b (o9 x)) (l9 (L6 x b) λc=>l9 (eH x (dB b)) λx=>l7 (seq x A) (some (.rt false)) (some (.nx (F6 .i64 b 1)))) (some (.ex ()))) 0) λo=>X9 o (λy=>some true) λr=>some r) λr=>some r) λr=>some r
def b0L:FQ:=⟨[uD .str],tR 2 bW,mE 44 [(156,a7w),(157,b3Q),(158,b3R)],sN 1 (aO (jnR [(2,3),(6,20)] sgN H9) (aO (sN 1 (iR (lpR [(2,4),(20,31)] ⟨[(3,N7)],[]⟩ 0 sgN H9))) (sN 1 (aO (sN 1 (iR (lpR [(2,3),(5,6),(32,44)] ⟨[(5,N7)],[]⟩ 2 sgN H9))) H9))))⟩
def a0N:FSpec:=ae b0L λx=>bU x
def iw(A:dL)(B:Int)(C:Int)(D:List UInt8):Option Bool:=l9 (U2 (λ(x:Int)=>l7 (H6 x (o9 A.1)) (l7 (H6 1 B) (l9 (L6 A.1 x) λb=>l7 (seq b.1 D) (some (.rt true)) (some (.nx (F6 .i64 x 1)))) (l7 (H6 x C) (l9 (L6 A.1 x) λb=>l7 (seq b.1 D) (some (.rt true)) (some (.nx (F6 .i64 x 1)))) (some (.nx (F6 .i64 x 1))))) (some (.ex ()))) 0) λo=>X9 o (λy=>l9 (U2 (λ(x:Int)=>l7 (H6 x (o9 A.2.1)) (l7 (H6 2 B) (l9 (L6 A.2.1 x) λb=>l7 (seq b.1 D) (some (.rt true)) (some (.nx (F6 .i64 x 1)))) (l7 (C9 B 2) (l7 (H6 x C) (l9 (L6 A.2.1 x) λb=>l7 (seq b.1 D) (some (.rt true)) (some (.nx (F6 .i64 x 1)))) (some (.nx (F6 .i64 x 1)))) (some (.nx (F6 .i64 x 1))))) (some (.ex ()))) 0) λo=>X9 o (λy=>l9 (U2 (λ(x:Int)=>l7 (H6 x (o9 A.2.2)) (l7 (C9 B 3) (l7 (H6 x C) (l9 (L6 A.2.2 x) λb=>l7 (seq b.1 D) (some (.rt true)) (some (.nx (F6 .i64 x 1)))) (some (.nx (F6 .i64 x 1)))) (some (.nx (F6 .i64 x 1)))) (some (.ex ()))) 0) λo=>X9 o (λy=>some false) λr=>some r) λr=>some r) λr=>some r
def b0M:FQ:=⟨[tD y27,N7,N7,(uD .str)],tR 8 bW,mE 88 [],sN 1 (aO (sN 1 (iR (lpR [(8,10),(12,36)] ⟨[(9,N7)],[]⟩ 0 sgN H9))) (aO (sN 1 (iR (lpR [(8,9),(10,11),(36,64)] ⟨[(10,N7)],[]⟩ 2 sgN H9))) (aO (sN 1 (iR (lpR [(8,9),(11,12),(64,88)] ⟨[(11,N7)],[]⟩ 4 sgN H9))) H9)))⟩
def a5E:FSpec:=ae b0M λx=>iw x.1 x.2.1 x.2.2.1 x.2.2.2
def uM(A:dL)(B:Int):Option X0:=l9 (L6 A.1 B) λx=>l9 (bU x.1) λd=>l7 (G8 d) (some (2,1,B,0)) (l9 (iw A 1 B x.1) λf=>l7 f (some (7,1,B,0)) (l7 (C9 (o9 x.2) 0) (some (5,1,B,0)) (l7 (H6 16 (o9 x.2)) (some (4,1,B,116)) (l9 (U2 (λ(b:X0×X0×Int)=>l7 (H6 b.2.2 (o9 x.2)) (l9 (L6 x.2 b.2.2) λg=>l9 (bU g) λi=>l7 (G8 i) (some (.rt (2,b.2.1.2.1,b.2.1.2.2.1,F6 .i64 100 b.2.2))) (l9 (U2 (λ(c:X0×X0×Int)=>l7 (H6 c.2.2 b.2.2) (l9 (L6 x.2 c.2.2) λj=>l9 (L6 x.2 b.2.2) λx=>l7 (seq j x) (some (.rt (7,c.2.1.2))) (some (.nx (c.1,c.2.1,F6 .i64 c.2.2 1)))) (some (.ex (c.1,c.2.1)))) (b.1,(b.2.1.1,b.2.1.2.1,b.2.1.2.2.1,F6 .i64 100 b.2.2),0)) λo=>X9 o (λ(y:X0×X0)=>some (.nx (y.1,y.2,F6 .i64 b.2.2 1))) λr=>some (.rt r))) (some (.ex b.1))) ((0,0,0,0),(0,1,B,0),0)) λo=>X9 o (λ(y:X0)=>some (0,0,0,0)) λr=>some r))))
def q75:FQ:=⟨[tD y27,N7],cR 4 64 (tD y35),mE 80 [(116,a0N),(117,a5E)],sN 7 (aO (sN 1 (iR (lpR [(4,5),(6,9),(42,79),(4000256,4000257),(10000384,10000385)] ⟨[(4,(false,(.box (dT y35)))),(6,(false,(.box (dT y35)))),(7,N7)],[]⟩ 0 ⟨[(4,(false,(.box (dT y35))))],[]⟩ (sN 1 (aO (iR (sN 3 (iR (lpR [(4,5),(6,7),(8,9),(61,79),(72000000,72000002)] ⟨[(4,(false,(.box (dT y35)))),(6,(false,(.box (dT y35)))),(8,N7)],[]⟩ 2 ⟨[(4,(false,(.box (dT y35)))),(6,(false,(.box (dT y35))))],[]⟩ H9)))) H9))))) H9)⟩
def s75:FSpec:=ae q75 λx=>uM x.1 x.2
def V9(A:J4)(B:List dM):Option Bool:=l7 (C9 A.1 6) (l7 (P7 0 A.2) (some (H6 A.2 (o9 B))) (some false)) (l7 (P7 1 A.1) (l7 (P7 A.1 5) (some (C9 A.2 0)) (some false)) (some false))
def b0R:FQ:=⟨[tD y2,uD y1],tR 4 bW,mE 31 [],H9⟩
def Xc:FSpec:=ae b0R λx=>V9 x.1 x.2
def vS(A:J4):Option Bool:=l7 (P7 0 A.1) (l7 (P7 A.1 A.2) (some (P7 A.2 109573)) (some false)) (some false)
def b1u:FQ:=⟨[tD y2],tR 2 bW,mE 18 [],H9⟩
def a5J:FSpec:=ae b1u λx=>vS x
def dJ(A:J4)(B:List dM):Option J4:=l9 (V9 A B) λx=>l7 (G8 x) (some (0,-1)) (l7 (C9 A.1 1) (some (0,1)) (l7 (C9 A.1 2) (some (-1000000000000,1000000000000)) (l7 (C9 A.1 3) (some (-1000000000000000,1000000000000000)) (l7 (C9 A.1 4) (some (-1000000000,1000000000)) (l7 (C9 A.1 5) (some (0,109572)) (l9 (L6 B A.2) λx=>some (0,Y1 .i64 (o9 x.2) 1)))))))
def q80:FQ:=⟨[tD y2,uD y1],⟨[(.tmp 4,N7),(.tmp 5,N7)],[]⟩,mE 30 [(123,Xc)],H9⟩
def s80:FSpec:=ae q80 λx=>dJ x.1 x.2
def wM(A:Int)(B:J4)(C:List dM):Option Bool:=l9 (dJ B C) λx=>l7 (P7 x.1 A) (some (P7 A x.2)) (some false)
def b1A:FQ:=⟨[N7,tD y2,uD y1],tR 6 bW,mE 23 [(80,s80)],H9⟩
def a7y:FSpec:=ae b1A λx=>wM x.1 x.2.1 x.2.2
def BA(A:EL)(B:kQ)(C:List dM):Option Bool:=l9 (l9 (vS A.1) λx=>l7 (G8 x) (some (.inr true)) (l7 (C9 A.1.1 A.1.2) (some (.inr true)) (l7 (P7 A.2.2.1 A.2.1) (some (.inr true)) (some (.inl ()))))) λo=>X9 o (λx=>l9 (wM A.2.1 B.2.1 C) λx=>l7 (G8 x) (some true) (l9 (wM (Y1 .i64 A.2.2.1 1) B.2.1 C) λx=>l7 (G8 x) (some true) (l9 (wM A.2.2.2 B.2.2.1 C) λx=>some (G8 x)))) λr=>some r
def b1r:FQ:=⟨[tD y4,tD y8,uD y1],tR 6 bW,mE 53 [(162,a5J),(168,a7y)],sN 1 (aO (jnR [(6,27)] sgN H9) H9)⟩
def b3S:FSpec:=ae b1r λx=>BA x.1 x.2.1 x.2.2
def uJ(A:J4)(B:J4):Option (J4×Bool):=l9 (vS A) λx=>l7 (G8 x) (some ((0,0),false)) (l9 (vS B) λx=>l7 (G8 x) (some ((0,0),false)) (l7 (P7 (wz A.2 B.2) (ww A.1 B.1)) (some ((0,0),false)) (some ((ww A.1 B.1,wz A.2 B.2),true))))
def b1V:FQ:=⟨[tD y2,tD y2],⟨[(.cell 4 81,tD y2),(.tmp 5,bW)],[]⟩,mE 34 [(162,a5J)],H9⟩
def b4q:FSpec:=ae b1V λx=>uJ x.1 x.2
def wP(A:EL)(B:EL):Option Bool:=l9 (uJ A.1 B.1) λx=>l7 x.2 (some (H6 (ww A.2.1 B.2.1) (wz A.2.2.1 B.2.2.1))) (some false)
def b1s:FQ:=⟨[tD y4,tD y4],tR 4 bW,mE 29 [(196,b4q)],H9⟩
def b3T:FSpec:=ae b1s λx=>wP x.1 x.2
def wO(A:kQ)(B:List dM):Option J4:=l7 (H6 64 (o9 A.2.2.2)) (some (64,4)) (l9 (l9 (V9 A.2.1 B) λx=>l7 (G8 x) (some (.inr (-1,8))) (l9 (V9 A.2.2.1 B) λx=>l7 (G8 x) (some (.inr (-1,8))) (some (.inl ())))) λo=>X9 o (λx=>l9 (U2 (λ(x:Int)=>l7 (H6 x (o9 A.2.2.2)) (l9 (L6 A.2.2.2 x) λc=>l9 (BA c A B) λd=>l7 d (some (.rt (x,3))) (l9 (U2 (λ(b:Int)=>l7 (H6 b x) (l9 (L6 A.2.2.2 b) λf=>l9 (L6 A.2.2.2 x) λg=>l9 (wP f g) λi=>l7 i (some (.rt (x,11))) (some (.nx (F6 .i64 b 1)))) (some (.ex ()))) 0) λo=>X9 o (λy=>some (.nx (F6 .i64 x 1))) λr=>some (.rt r))) (some (.ex ()))) 0) λo=>X9 o (λy=>some (0,0)) λr=>some r) λr=>some r)
def b0N:FQ:=⟨[tD y8,uD y1],⟨[(.tmp 4,N7),(.tmp 5,N7)],[]⟩,mE 57 [(123,Xc),(159,b3S),(160,b3T)],sN 2 (aO (jnR [(4,6),(12,24)] sgN H9) (aO (sN 1 (iR (lpR [(4,8),(24,57)] ⟨[(6,N7)],[]⟩ 0 sgN (sN 1 (aO (iR (sN 2 (iR (lpR [(4,6),(7,8),(40,57)] ⟨[(7,N7)],[]⟩ 2 sgN H9)))) H9))))) H9))⟩
def b3v:FSpec:=ae b0N λx=>wO x.1 x.2
def tN(A:dL)(B:Int):Option X0:=l9 (L6 A.2.1 B) λx=>l9 (bU x.1) λb=>l7 (G8 b) (some (2,2,B,0)) (l9 (iw A 2 B x.1) λc=>l7 c (some (7,2,B,0)) (l9 (wO x A.1) λx=>l7 (C9 x.2 0) (some (0,0,0,0)) (l7 (P7 0 x.1) (some (x.2,2,B,F6 .i64 100 x.1)) (some (x.2,2,B,0)))))
def q76:FQ:=⟨[tD y27,N7],cR 4 64 (tD y35),mE 47 [(116,a0N),(117,a5E),(118,b3v)],H9⟩
def s76:FSpec:=ae q76 λx=>tN x.1 x.2
def qg(A:List jw)(B:Int)(C:List UInt8):Option Bool:=l9 (U2 (λ(x:Int)=>l7 (H6 x B) (l7 (H6 x (o9 A)) (l9 (L6 A x) λb=>l7 (seq b.1 C) (some (.rt true)) (some (.nx (F6 .i64 x 1)))) (some (.ex ()))) (some (.ex ()))) 0) λo=>X9 o (λy=>some false) λr=>some r
def b1t:FQ:=⟨[uD y11,N7,(uD .str)],tR 6 bW,mE 26 [],sN 1 (aO (sN 1 (iR (lpR [(6,26)] ⟨[(7,N7)],[]⟩ 0 sgN H9))) H9)⟩
def b3U:FSpec:=ae b1t λx=>qg x.1 x.2.1 x.2.2
def tH(A:dL)(B:Int):Option X0:=l9 (L6 A.2.2 B) λx=>l9 (U2 (λ(b:X0×Int)=>l7 (H6 b.2 (o9 x.2.2.1)) (l9 (L6 x.2.2.1 b.2) λc=>l9 (bU c.1) λd=>l7 (G8 d) (l7 (G8 (C9 2 0)) (some (.rt (2,3,B,F6 .i64 100 b.2))) (some (.nx (b.1,F6 .i64 b.2 1)))) (l9 (L6 x.2.2.1 b.2) λf=>l9 (qg x.2.2.1 b.2 f.1) λg=>l7 g (l7 (G8 (C9 7 0)) (some (.rt (7,3,B,F6 .i64 100 b.2))) (some (.nx (b.1,F6 .i64 b.2 1)))) (l9 (L6 x.2.2.1 b.2) λx=>l9 (V9 x.2 A.1) λx=>l7 (G8 x) (l7 (G8 (C9 8 0)) (some (.rt (8,3,B,F6 .i64 100 b.2))) (some (.nx (b.1,F6 .i64 b.2 1)))) (l7 (G8 (C9 0 0)) (some (.rt (0,3,B,F6 .i64 100 b.2))) (some (.nx (b.1,F6 .i64 b.2 1))))))) (some (.ex b.1))) ((0,0,0,0),0)) λo=>X9 o (λ(y:X0)=>l9 (U2 (λ(b:X0×Int)=>l7 (H6 b.2 (o9 x.2.2.2.1)) (l9 (l9 (L6 x.2.2.2.1 b.2) λc=>l9 (bU c.1) λd=>l7 (G8 d) (some (2,3,B,F6 .i64 200 b.2)) (l9 (L6 x.2.2.2.1 b.2) λf=>l9 (qg x.2.2.1 (o9 x.2.2.1) f.1) λg=>l7 g (some (7,3,B,F6 .i64 200 b.2)) (l9 (L6 x.2.2.2.1 b.2) λi=>l9 (qg x.2.2.2.1 b.2 i.1) λj=>l7 j (some (7,3,B,F6 .i64 200 b.2)) (l9 (L6 x.2.2.2.1 b.2) λx=>l9 (V9 x.2 A.1) λx=>l7 (G8 x) (some (8,3,B,F6 .i64 200 b.2)) (some (0,3,B,F6 .i64 200 b.2)))))) λx=>l7 (G8 (C9 x.1 0)) (some (.rt x)) (some (.nx (b.1,F6 .i64 b.2 1)))) (some (.ex b.1))) (y,0)) λo=>X9 o (λ(y:X0)=>some (0,0,0,0)) λr=>some r) λr=>some r
def b0O:FQ:=⟨[tD y27,N7],cR 4 64 (tD y35),mE 122 [(116,a0N),(161,b3U),(123,Xc)],sN 2 (aO (sN 1 (iR (lpR [(4,5),(6,8),(15,61),(4000256,4000257)] ⟨[(4,(false,(.box (dT y35)))),(6,N7)],[]⟩ 0 ⟨[(4,(false,(.box (dT y35))))],[]⟩ H9))) (aO (sN 1 (iR (lpR [(4,5),(8,10),(61,121),(15000000,15000001)] ⟨[(4,(false,(.box (dT y35)))),(8,N7)],[]⟩ 2 ⟨[(4,(false,(.box (dT y35))))],[]⟩ (sN 1 (aO (iR (sN 1 (aO (.join [(9,10),(72,117),(78000576,78000577)] ⟨[(9,(false,(.box (dT y35))))],[]⟩ H9) H9))) H9))))) H9))⟩
def b3w:FSpec:=ae b0O λx=>tH x.1 x.2
def uN(A:List UInt8):Option Bool:=l9 (U2 (λ(x:Int)=>l7 (H6 x (o9 A)) (l9 (sat A x) λb=>l7 (H6 b 32) (some (.rt false)) (l9 (sat A x) λc=>l7 (H6 126 c) (some (.rt false)) (l9 (sat A x) λd=>l7 (C9 d 34) (some (.rt false)) (some (.nx (F6 .i64 x 1)))))) (some (.ex ()))) 0) λo=>X9 o (λy=>some (P7 (o9 A) 64)) λr=>some r
def b1v:FQ:=⟨[uD .str],tR 2 bW,mE 29 [],sN 1 (aO (sN 1 (iR (lpR [(2,26)] ⟨[(3,N7)],[]⟩ 0 sgN H9))) H9)⟩
def b3V:FSpec:=ae b1v λx=>uN x
def tJ(A:List jw):Option (List J4):=l9 (dV (λ(x:List J4×Int)=>l7 (H6 x.2 (o9 A)) (l9 (L6 A x.2) λb=>l9 (bK x.1 [b.2]) λc=>some (.inl (c,F6 .i64 x.2 1))) (some (.inr x.1))) ([],0)) λy=>some y
def b1W:FQ:=⟨[uD y11],tR 2 (uO y2),mE 20 [],sN 2 (aO (sN 1 (iR (.loop [(3,19)] ⟨[(3,(uO y2)),(4,N7)],[]⟩ 0 ⟨[(3,(uO y2))],[]⟩ H9))) H9)⟩
def b4r:FSpec:=ae b1W λx=>tJ x
def uK(A:dL)(B:Int):Option O0:=l9 (l7 (H6 B 0) (some (.inr ([],[],[],[],[],false))) (l7 (P7 (o9 A.2.2) B) (some (.inr ([],[],[],[],[],false))) (some (.inl ([],[],[],[],[],false))))) λo=>X9 o (λ(x:O0)=>l9 (L6 A.2.2 B) λx=>l9 (tJ x.2.2.1) λb=>l9 (tJ x.2.2.2.1) λc=>l7 (P7 0 x.2.1) (l7 (H6 x.2.1 (o9 A.2.2)) (l9 (L6 A.2.2 x.2.1) λx=>l9 (tJ x.2.2.2.1) λx=>some (A.1,A.2.1,b,c,x,true)) (some (A.1,A.2.1,b,c,[],false))) (some (A.1,A.2.1,b,c,[],false))) λr=>some r
def b1w:FQ:=⟨[tD y27,N7],cR 4 181 (tD y51),mE 55 [(197,b4r)],sN 1 (aO (jnR [(4,5),(7,17),(4000256,4000257)] ⟨[(4,(false,(.box (dT y51))))],[]⟩ H9) H9)⟩
def b3W:FSpec:=ae b1w λx=>uK x.1 x.2
def gW(A:Int):Option Int:=l9 (l7 (P7 1 A) (l7 (P7 A 9) (some (.inr 0)) (l7 (P7 35 A) (l7 (P7 A 39) (some (.inr 0)) (some (.inl ()))) (some (.inl ())))) (l7 (P7 35 A) (l7 (P7 A 39) (some (.inr 0)) (some (.inl ()))) (some (.inl ())))) λo=>X9 o (λx=>l7 (C9 A 10) (l7 (C9 A 10) (some 1) (l7 (C9 A 26) (some 3) (l7 (P7 11 A) (l7 (P7 A 30) (some 2) (some (-1))) (some (-1))))) (l7 (C9 A 25) (l7 (C9 A 25) (some 1) (l7 (C9 A 26) (some 3) (l7 (P7 11 A) (l7 (P7 A 30) (some 2) (some (-1))) (some (-1))))) (l7 (C9 A 31) (l7 (C9 A 31) (some 1) (l7 (C9 A 26) (some 3) (l7 (P7 11 A) (l7 (P7 A 30) (some 2) (some (-1))) (some (-1))))) (l7 (C9 A 32) (l7 (C9 A 32) (some 1) (l7 (C9 A 26) (some 3) (l7 (P7 11 A) (l7 (P7 A 30) (some 2) (some (-1))) (some (-1))))) (l7 (C9 A 33) (l7 (C9 A 33) (some 1) (l7 (C9 A 26) (some 3) (l7 (P7 11 A) (l7 (P7 A 30) (some 2) (some (-1))) (some (-1))))) (l7 (C9 A 34) (some 1) (l7 (C9 A 26) (some 3) (l7 (P7 11 A) (l7 (P7 A 30) (some 2) (some (-1))) (some (-1)))))))))) λr=>some r
def b0Q:FQ:=⟨[N7],tR 2 N7,mE 33 [],sN 1 (aO (jnR [(2,17)] sgN H9) H9)⟩
def a5F:FSpec:=ae b0Q λx=>gW x
def nZ(A:List J4):Option (List Int×J4):=l7 (H6 48 (o9 A)) (some ([],0,4)) (l7 (C9 (o9 A) 0) (some ([],0,5)) (l9 (U2 (λ(x:List Int×List Int×Int)=>l7 (H6 x.2.2 (o9 A)) (l9 (L6 A x.2.2) λg=>l9 (gW g.1) λb=>l7 (H6 b 0) (some (.rt ([],x.2.2,2))) (l7 (H6 (o9 x.2.1) b) (some (.rt ([],x.2.2,5))) (l7 (H6 0 b) (l9 (L6 x.2.1 (Y1 .i64 (o9 x.2.1) b)) λd=>l9 (eH x.2.1 (dB (Y1 .i64 (o9 x.2.1) b))) λc=>l7 (jK 0 (Y1 .i64 (o9 x.2.1) b) (o9 x.2.1)) (l9 (bK (iP x.2.1 (dB 0) (dB (Y1 .i64 (o9 x.2.1) b))) [c]) λf=>l9 (bK x.1 [c]) λi=>l7 (H6 12 (o9 f)) (some (.rt ([],x.2.2,16))) (some (.nx (i,f,F6 .i64 x.2.2 1)))) none) (l9 (bK x.2.1 [x.2.2]) λd=>l9 (bK x.1 [x.2.2]) λc=>l7 (H6 12 (o9 d)) (some (.rt ([],x.2.2,16))) (some (.nx (c,d,F6 .i64 x.2.2 1))))))) (some (.ex (x.1,x.2.1)))) ([],[],0)) λo=>X9 o (λ(y:List Int×List Int)=>l7 (H6 1 (o9 y.2)) (some ([],o9 A,4)) (some (y.1,0,0))) λr=>some r))
def q78:FQ:=⟨[uD y12],⟨[(.tmp 2,uoM),(.tmp 3,N7),(.tmp 4,N7)],[]⟩,mE 70 [(122,a5F)],sN 4 (aO (sN 1 (iR (lpR [(2,10),(16,64)] ⟨[(5,uoM),(6,uoM),(7,N7)],[]⟩ 0 ⟨[(5,uoM),(6,uoM)],[]⟩ H9))) H9)⟩
def s78:FSpec:=ae q78 λx=>nZ x
def iq(A:Int):Option Bool:=l9 (l7 (P7 1 A) (l7 (P7 A 8) (some (.inr true)) (l7 (P7 36 A) (l7 (P7 A 39) (some (.inr true)) (some (.inl ()))) (some (.inl ())))) (l7 (P7 36 A) (l7 (P7 A 39) (some (.inr true)) (some (.inl ()))) (some (.inl ())))) λo=>X9 o (λx=>l7 (C9 A 14) (some true) (l7 (C9 A 15) (some true) (l7 (C9 A 16) (some true) (l7 (C9 A 33) (some true) (some (C9 A 34)))))) λr=>some r
def b2F:FQ:=⟨[N7],tR 2 bW,mE 35 [],sN 1 (aO (jnR [(2,17)] sgN H9) H9)⟩
def b4T:FSpec:=ae b2F λx=>iq x
def gX(A:Int):Option J4:=some (A,0)
def b2T:FQ:=⟨[N7],cR 2 43 (tD y2),mE 5 [],H9⟩
def a0O:FSpec:=ae b2T λx=>gX x
def qA(A:J4)(B:O0):Option Bool:=l9 (l7 (C9 A.1 1) (some (C9 A.1 1)) (l7 (C9 A.1 2) (some (C9 A.1 2)) (l7 (C9 A.1 3) (some (C9 A.1 3)) (l7 (C9 A.1 4) (some (C9 A.1 4)) (some (C9 A.1 5)))))) λx=>l7 x (l9 (gX A.1) λx=>l9 (dJ x B.1) λx=>l7 (P7 x.1 A.2) (some (P7 A.2 x.2)) (some false)) (l9 (l7 (C9 A.1 14) (some (C9 A.1 14)) (l7 (C9 A.1 15) (some (C9 A.1 15)) (some (C9 A.1 16)))) λx=>l7 x (l7 (P7 0 A.2) (some (P7 A.2 5)) (some false)) (l7 (C9 A.1 34) (l7 (P7 0 A.2) (some (P7 (jP A.2 8) 5)) (some false)) (l7 (C9 A.1 6) (some (P7 0 A.2)) (some true))))
def b2G:FQ:=⟨[tD y2,tD y51],tR 4 bW,mE 62 [(287,a0O),(80,s80)],sN 1 (aO (sN 1 (iR (aO (.join [(9,15)] ⟨[(9,bW)],[]⟩ H9) (.cond H9 (aO (.join [(34,38)] ⟨[(34,bW)],[]⟩ H9) H9))))) H9)⟩
def b4U:FSpec:=ae b2G λx=>qA x.1 x.2
def rX(A:J4)(B:O0):Option Bool:=l7 (C9 A.1 6) (l7 (H6 (eU .i64 A.2 16) (o9 B.1)) (l9 (L6 B.1 (eU .i64 A.2 16)) λx=>some (H6 (jP A.2 16) (o9 x.2))) (some false)) (l7 (C9 A.1 7) (l7 (P7 0 A.2) (some (H6 A.2 (o9 B.2.2.1))) (some false)) (l7 (C9 A.1 8) (l7 (P7 0 A.2) (some (H6 A.2 (o9 B.2.2.2.1))) (some false)) (l7 (C9 A.1 33) (l7 (P7 0 A.2) (some (H6 A.2 (o9 B.2.1))) (some false)) (l7 (C9 A.1 34) (some (H6 (eU .i64 A.2 8) (o9 B.2.1))) (l7 (C9 A.1 35) (some B.2.2.2.2.2) (l9 (l7 (C9 A.1 36) (some (C9 A.1 36)) (l7 (C9 A.1 37) (some (C9 A.1 37)) (l7 (C9 A.1 38) (some (C9 A.1 38)) (some (C9 A.1 39))))) λx=>l7 x (l7 B.2.2.2.2.2 (l7 (P7 0 A.2) (some (H6 A.2 (o9 B.2.2.2.2.1))) (some false)) (some false)) (some true)))))))
def b2H:FQ:=⟨[tD y2,tD y51],tR 4 bW,mE 103 [],sN 1 (aO (sN 1 (iR (sN 1 (.cond H9 (sN 1 (.cond H9 (sN 1 (.cond H9 (sN 1 (.cond H9 (sN 1 (.cond H9 (sN 1 (.cond H9 (aO (.join [(83,88)] ⟨[(83,bW)],[]⟩ H9) H9))))))))))))))) H9)⟩
def b4V:FSpec:=ae b2H λx=>rX x.1 x.2
def tu(A:Int):Option Bool:=l7 (C9 A 2) (some true) (l7 (C9 A 3) (some true) (some (C9 A 4)))
def b2V:FQ:=⟨[N7],tR 2 bW,mE 13 [],H9⟩
def a5M:FSpec:=ae b2V λx=>tu x
def oV(A:Int):Option Bool:=l9 (tu A) λx=>l7 x (some true) (some (C9 A 5))
def b2U:FQ:=⟨[N7],tR 2 bW,mE 9 [(289,a5M)],H9⟩
def a7O:FSpec:=ae b2U λx=>oV x
def kH(A:J4)(B:O0):Option (J4×Bool):=l9 (l7 (C9 A.1 6) (some (6,eU .i64 A.2 16)) (l7 (C9 A.1 7) (l9 (L6 B.2.2.1 A.2) λx=>some x) (l7 (C9 A.1 8) (l9 (L6 B.2.2.2.1 A.2) λx=>some x) (l7 (C9 A.1 9) (l9 (gX 5) λx=>some x) (l7 (C9 A.1 35) (l9 (gX 2) λx=>some x) (l9 (l7 (C9 A.1 36) (some (C9 A.1 36)) (l7 (C9 A.1 37) (some (C9 A.1 37)) (l7 (C9 A.1 38) (some (C9 A.1 38)) (some (C9 A.1 39))))) λx=>l7 x (l9 (L6 B.2.2.2.2.1 A.2) λx=>some x) (l9 (gX A.1) λx=>some x))))))) λx=>l9 (V9 x B.1) λb=>l7 (C9 A.1 36) (l7 b (l7 (C9 x.1 2) (some (x,true)) (some (x,C9 x.1 3))) (some (x,false))) (l7 (C9 A.1 37) (l7 (C9 A.1 37) (l7 b (some (x,C9 x.1 1)) (some (x,false))) (l7 (C9 A.1 39) (l7 b (l9 (oV x.1) λc=>some (x,c)) (some (x,false))) (some (x,b)))) (l7 (C9 A.1 38) (l7 b (some (x,C9 x.1 1)) (some (x,false))) (l7 (C9 A.1 39) (l7 b (l9 (oV x.1) λc=>some (x,c)) (some (x,false))) (some (x,b)))))
def b2I:FQ:=⟨[tD y2,tD y51],⟨[(.cell 4 43,tD y2),(.tmp 5,bW)],[]⟩,mE 91 [(287,a0O),(123,Xc),(288,a7O)],sN 2 (aO (.join [(6,7),(9,53),(7000384,7000385)] ⟨[(6,(false,(.box (dT y2))))],[]⟩ (sN 1 (iR (sN 1 (.cond H9 (sN 1 (.cond H9 (sN 1 (.cond H9 (sN 1 (.cond H9 (sN 1 (.cond H9 (aO (.join [(42,47)] ⟨[(42,bW)],[]⟩ H9) H9)))))))))))))) H9)⟩
def b4W:FSpec:=ae b2I λx=>kH x.1 x.2
def qB(A:J4)(B:J4)(C:O0):Option (J4×Bool):=l7 (C9 A.1 10) (l9 (tu B.1) λx=>some (B,x)) (l7 (C9 A.1 25) (some (B,C9 B.1 1)) (l9 (l7 (C9 A.1 31) (some (C9 A.1 31)) (some (C9 A.1 32))) λx=>l7 x (l9 (gX 2) λx=>some (x,C9 B.1 5)) (l7 (C9 A.1 33) (l9 (L6 C.2.1 A.2) λx=>l9 (V9 x.2.1 C.1) λb=>l7 b (l9 (V9 x.2.2.1 C.1) λc=>l7 c (some (x.2.2.1,nP (C9 B.1 x.2.1.1) (C9 B.2 x.2.1.2))) (some (x.2.2.1,false))) (some (x.2.2.1,false))) (l9 (L6 C.2.1 (eU .i64 A.2 8)) λx=>l7 (C9 B.1 3) (l9 (gX 3) λb=>l7 (nP (C9 x.2.1.1 b.1) (C9 x.2.1.2 b.2)) (l9 (gX 4) λc=>some (B,nP (C9 x.2.2.1.1 c.1) (C9 x.2.2.1.2 c.2))) (some (B,false))) (some (B,false))))))
def b2J:FQ:=⟨[tD y2,tD y2,tD y51],⟨[(.cell 6 43,tD y2),(.tmp 7,bW)],[]⟩,mE 82 [(289,a5M),(287,a0O),(123,Xc)],sN 1 (aO (sN 1 (iR (sN 1 (.cond H9 (sN 1 (.cond H9 (aO (.join [(24,27)] ⟨[(24,bW)],[]⟩ H9) H9))))))) H9)⟩
def b4X:FSpec:=ae b2J λx=>qB x.1 x.2.1 x.2.2
def Kq(A:Int)(B:Int)(C:Int):Option (J4×Bool):=l7 (C9 A 13) (l9 (gX B) λx=>l7 (C9 C 2) (l7 (C9 B 2) (some (x,true)) (some (x,C9 B 3))) (some (x,false))) (l7 (C9 A 14) (l9 (gX B) λx=>l7 (C9 C 4) (l7 (C9 B 3) (some (x,true)) (some (x,C9 B 4))) (some (x,false))) (l7 (C9 B 3) (l7 (C9 C 3) (l9 (gX 4) λx=>some (x,true)) (l9 (gX B) λx=>l7 (C9 C 2) (l7 (C9 B 2) (some (x,true)) (some (x,C9 B 3))) (some (x,false)))) (l9 (gX B) λx=>l7 (C9 C 2) (l7 (C9 B 2) (some (x,true)) (some (x,C9 B 3))) (some (x,false)))))
def b2W:FQ:=⟨[N7,N7,N7],⟨[(.cell 6 43,tD y2),(.tmp 7,bW)],[]⟩,mE 56 [(287,a0O)],H9⟩
def b5f:FSpec:=ae b2W λx=>Kq x.1 x.2.1 x.2.2
def tq(A:Int)(B:J4)(C:J4):Option (J4×Bool):=l9 (l9 (l7 (C9 A 11) (some (C9 A 11)) (some (C9 A 12))) λx=>l7 x (l7 (nP (C9 B.1 C.1) (C9 B.2 C.2)) (l9 (tu B.1) λx=>some (.inr (B,x))) (some (.inr (B,false)))) (l9 (l7 (C9 A 13) (some (C9 A 13)) (l7 (C9 A 14) (some (C9 A 14)) (some (C9 A 15)))) λx=>l7 x (l9 (Kq A B.1 C.1) λx=>some (.inr x)) (l7 (C9 A 16) (l7 (C9 B.1 3) (some (.inr (B,C9 C.1 3))) (some (.inr (B,false)))) (l9 (l7 (C9 A 17) (some (C9 A 17)) (some (C9 A 18))) λx=>l7 x (l7 (nP (C9 B.1 C.1) (C9 B.2 C.2)) (l9 (oV B.1) λx=>some (.inr (B,x))) (some (.inr (B,false)))) (l9 (l7 (C9 A 19) (some (C9 A 19)) (some (C9 A 20))) λx=>l7 x (l9 (gX 1) λx=>some (.inr (x,nP (C9 B.1 C.1) (C9 B.2 C.2)))) (l9 (l7 (C9 A 21) (some (C9 A 21)) (some (C9 A 22))) λx=>l7 x (l9 (gX 1) λx=>l7 (nP (C9 B.1 C.1) (C9 B.2 C.2)) (l9 (oV B.1) λb=>some (.inr (x,b))) (some (.inr (x,false)))) (l7 (C9 A 23) (l7 (C9 A 23) (l7 (C9 B.1 1) (some (.inr (B,C9 C.1 1))) (some (.inr (B,false)))) (l7 (C9 A 27) (l7 (C9 A 27) (l7 (C9 B.1 5) (some (.inr (B,C9 C.1 2))) (some (.inr (B,false)))) (some (.inl (0,0)))) (l7 (C9 A 28) (l7 (C9 B.1 5) (some (.inr (B,C9 C.1 2))) (some (.inr (B,false)))) (some (.inl (0,0)))))) (l7 (C9 A 24) (l7 (C9 B.1 1) (some (.inr (B,C9 C.1 1))) (some (.inr (B,false)))) (l7 (C9 A 27) (l7 (C9 A 27) (l7 (C9 B.1 5) (some (.inr (B,C9 C.1 2))) (some (.inr (B,false)))) (some (.inl (0,0)))) (l7 (C9 A 28) (l7 (C9 B.1 5) (some (.inr (B,C9 C.1 2))) (some (.inr (B,false)))) (some (.inl (0,0))))))))))))) λo=>X9 o (λ(x:J4)=>l9 (gX 2) λx=>l7 (C9 B.1 5) (some (x,C9 C.1 5)) (some (x,false))) λr=>some r
def b2K:FQ:=⟨[N7,tD y2,tD y2],⟨[(.cell 6 43,tD y2),(.tmp 7,bW)],[]⟩,mE 108 [(289,a5M),(290,b5f),(288,a7O),(287,a0O)],sN 1 (aO (jnR [(6,99),(4000384,4000385)] ⟨[(6,(false,(.box (dT y2))))],[]⟩ (sN 1 (iR (aO (.join [(9,12)] ⟨[(9,bW)],[]⟩ H9) (.cond H9 (aO (.join [(21,25)] ⟨[(21,bW)],[]⟩ H9) (.cond H9 (sN 1 (.cond H9 (aO (.join [(44,47)] ⟨[(44,bW)],[]⟩ H9) (.cond H9 (aO (.join [(56,59)] ⟨[(56,bW)],[]⟩ H9) (.cond H9 (aO (.join [(63,66)] ⟨[(63,bW)],[]⟩ H9) H9)))))))))))))) H9)⟩
def b4Y:FSpec:=ae b2K λx=>tq x.1 x.2.1 x.2.2
def sZ(A:J4)(B:List J4)(C:O0):Option aA:=l9 (l7 (G8 (C9 A.2 0)) (l9 (iq A.1) λx=>l7 (G8 x) (some (.inr ((0,0),2))) (some (.inl (0,0)))) (some (.inl (0,0)))) λo=>X9 o (λ(x:J4)=>l9 (qA A C) λx=>l7 (G8 x) (some ((0,0),3)) (l9 (rX A C) λx=>l7 (G8 x) (some ((0,0),6)) (l7 (C9 (o9 B) 0) (l9 (kH A C) λx=>l7 (G8 x.2) (some ((0,0),8)) (some (x.1,0))) (l7 (C9 (o9 B) 1) (l9 (L6 B 0) λx=>l9 (qB A x C) λx=>l7 (G8 x.2) (some ((0,0),8)) (some (x.1,0))) (l7 (C9 (o9 B) 2) (l9 (L6 B 0) λx=>l9 (L6 B 1) λb=>l9 (tq A.1 x b) λx=>l7 (G8 x.2) (some ((0,0),8)) (some (x.1,0))) (l9 (L6 B 1) λx=>l9 (L6 B 0) λb=>l7 (C9 b.1 1) (l9 (L6 B 1) λc=>l9 (L6 B 2) λd=>l7 (G8 (nP (C9 c.1 d.1) (C9 c.2 d.2))) (some ((0,0),8)) (some (x,0))) (l7 (G8 false) (some ((0,0),8)) (some (x,0))))))))) λr=>some r
def b2n:FQ:=⟨[tD y2,uD y12,tD y51],⟨[(.cell 6 43,tD y2),(.tmp 7,N7)],[]⟩,mE 87 [(252,b4T),(253,b4U),(254,b4V),(255,b4W),(256,b4X),(257,b4Y)],sN 1 (aO (jnR [(6,8),(10,20),(4000384,4000385)] ⟨[(6,(false,(.box (dT y2))))],[]⟩ H9) H9)⟩
def b4F:FSpec:=ae b2n λx=>sZ x.1 x.2.1 x.2.2
def zg(A:List J4)(B:O0):Option (J4×J4):=l9 (nZ A) λx=>l7 (G8 (C9 x.2.2 0)) (some ((0,0),x.2)) (l9 (U2 (λ(x:J4×List J4×Int)=>l7 (H6 x.2.2 (o9 A)) (l9 (L6 A x.2.2) λd=>l9 (gW d.1) λb=>l9 (L6 A x.2.2) λf=>l7 (jK (Y1 .i64 (o9 x.2.1) b) (o9 x.2.1) (o9 x.2.1)) (l9 (sZ f (iP x.2.1 (dB (Y1 .i64 (o9 x.2.1) b)) (dB (o9 x.2.1))) B) λc=>l7 (G8 (C9 c.2 0)) (some (.rt ((0,0),x.2.2,c.2))) (l7 (jK 0 (Y1 .i64 (o9 x.2.1) b) (o9 x.2.1)) (l9 (bK (iP x.2.1 (dB 0) (dB (Y1 .i64 (o9 x.2.1) b))) [c.1]) λg=>some (.nx (x.1,g,F6 .i64 x.2.2 1))) none)) none) (some (.ex (x.1,x.2.1)))) ((0,0),[],0)) λo=>X9 o (λ(y:J4×List J4)=>l9 (L6 y.2 0) λx=>l9 (eH y.2 (dB 0)) λx=>some (x,0,0)) λr=>some r)
def b1X:FQ:=⟨[uD y12,tD y51],⟨[(.cell 4 43,tD y2),(.tmp 5,N7),(.tmp 6,N7)],[]⟩,mE 67 [(78,s78),(122,a5F),(224,b4F)],sN 4 (aO (sN 1 (iR (lpR [(4,7),(10,15),(26,64),(4000256,4000257)] ⟨[(4,(false,(.box (dT y2)))),(10,(uO y2)),(11,N7)],[]⟩ 0 ⟨[(4,(false,(.box (dT y2)))),(10,(uO y2))],[]⟩ H9))) H9)⟩
def b4s:FSpec:=ae b1X λx=>zg x.1 x.2
def og(A:List J4)(B:O0)(C:J4):Option Int:=l9 (zg A B) λx=>l7 (G8 (C9 x.2.2 0)) (some x.2.2) (l7 (G8 (nP (C9 x.1.1 C.1) (C9 x.1.2 C.2))) (some 8) (some 0))
def b1x:FQ:=⟨[uD y12,tD y51,tD y2],tR 6 N7,mE 23 [(198,b4s)],H9⟩
def b3X:FSpec:=ae b1x λx=>og x.1 x.2.1 x.2.2
def uP(A:dL)(B:Int)(C:Int):Option Int:=l9 (L6 A.2.2 B) λx=>l9 (L6 x.2.2.2.2 C) λb=>l9 (bU b.1) λi=>l7 (G8 i) (some 2) (l9 (U2 (λ(c:J4)=>l7 (H6 c.2 C) (l9 (L6 x.2.2.2.2 c.2) λf=>l7 (seq f.1 b.1) (some (.rt 7)) (l9 (L6 x.2.2.2.2 c.2) λx=>l7 (C9 x.2.1 b.2.1) (some (.nx (F6 .i64 c.1 1,F6 .i64 c.2 1))) (some (.nx (c.1,F6 .i64 c.2 1))))) (some (.ex c.1))) (0,0)) λo=>X9 o (λy=>l9 (l7 (H6 b.2.1 0) (some (.inr 6)) (l7 (P7 (o9 x.2.2.2.1) b.2.1) (some (.inr 6)) (some (.inl ())))) λo=>X9 o (λc=>l9 (l7 (G8 (C9 b.2.2.1 (-1))) (l7 (H6 b.2.2.1 0) (some (.inr 9)) (l7 (P7 C b.2.2.1) (some (.inr 9)) (l9 (L6 x.2.2.2.2 b.2.2.1) λx=>l7 (G8 (C9 x.2.1 b.2.1)) (some (.inr 9)) (some (.inl ()))))) (some (.inl ()))) λo=>X9 o (λf=>l9 (l7 (H6 b.2.2.2.1 0) (some (.inr 3)) (l7 (H6 9 b.2.2.2.1) (some (.inr 3)) (l9 (vS b.2.2.2.2.1) λx=>l7 (G8 x) (some (.inr 3)) (l7 (C9 b.2.2.2.2.1.1 b.2.2.2.2.1.2) (some (.inr 3)) (some (.inl ())))))) λo=>X9 o (λk=>l7 (P7 8 y) (some 4) (l9 (uN b.2.2.2.2.2.2.2) λj=>l7 (G8 j) (some 2) (l9 (uK A B) λd=>l7 (H6 0 (o9 b.2.2.2.2.2.1)) (l9 (og b.2.2.2.2.2.1 d (1,0)) λg=>l7 (G8 (C9 g 0)) (some g) (l9 (L6 x.2.2.2.1 b.2.1) λx=>l9 (og b.2.2.2.2.2.2.1 d x.2) λx=>some x)) (l9 (L6 x.2.2.2.1 b.2.1) λx=>l9 (og b.2.2.2.2.2.2.1 d x.2) λx=>some x)))) λr=>some r) λr=>some r) λr=>some r) λr=>some r)
def b0P:FQ:=⟨[tD y27,N7,N7],tR 6 N7,mE 144 [(116,a0N),(162,a5J),(163,b3V),(164,b3W),(165,b3X)],sN 5 (aO (sN 1 (iR (lpR [(6,7),(9,11),(27,52)] ⟨[(9,N7),(10,N7)],[]⟩ 0 ⟨[(9,N7)],[]⟩ H9))) (aO (jnR [(6,7),(52,63)] sgN H9) (aO (jnR [(6,7),(63,89)] sgN H9) (aO (jnR [(6,7),(89,112)] sgN H9) H9))))⟩
def b3x:FSpec:=ae b0P λx=>uP x.1 x.2.1 x.2.2
def Ak(A:J3)(B:Int):Option Bool:=l7 (P7 0 B) (some (H6 B (o9 A.2.2.2.1))) (some false)
def b1Y:FQ:=⟨[tD y24,N7],tR 4 bW,mE 14 [],H9⟩
def b4t:FSpec:=ae b1Y λx=>Ak x.1 x.2
def mJ(A:List Int)(B:Int):Option (List Int):=l9 (dV (λ(x:List Int×Bool×Int)=>l7 (H6 x.2.2 (o9 A)) (l7 (G8 x.2.1) (l9 (L6 A x.2.2) λd=>l7 (P7 B d) (l9 (L6 A x.2.2) λb=>l7 (H6 B b) (l9 (bK x.1 [B]) λc=>l9 (L6 A x.2.2) λf=>l9 (bK c [f]) λg=>some (.inl (g,true,F6 .i64 x.2.2 1))) (l9 (L6 A x.2.2) λc=>l9 (bK x.1 [c]) λf=>some (.inl (f,true,F6 .i64 x.2.2 1)))) (l9 (L6 A x.2.2) λb=>l9 (bK x.1 [b]) λc=>some (.inl (c,x.2.1,F6 .i64 x.2.2 1)))) (l9 (L6 A x.2.2) λd=>l9 (bK x.1 [d]) λb=>some (.inl (b,x.2.1,F6 .i64 x.2.2 1)))) (some (.inr (x.1,x.2.1)))) ([],false,0)) λy=>l7 (G8 y.2) (l9 (bK y.1 [B]) λx=>some x) (some y.1)
def b2o:FQ:=⟨[uD y29,N7],tR 4 uoM,mE 48 [],sN 3 (aO (sN 1 (iR (.loop [(5,41)] ⟨[(5,uoM),(6,bW),(7,N7)],[]⟩ 0 ⟨[(5,uoM),(6,bW)],[]⟩ H9))) H9)⟩
def b4G:FSpec:=ae b2o λx=>mJ x.1 x.2
def qf(A:List J4):Option (List Int×List Int×List Int):=l9 (dV (λ(x:List Int×List Int×List Int×Int)=>l7 (H6 x.2.2.2 (o9 A)) (l9 (L6 A x.2.2.2) λc=>l7 (C9 c.1 7) (l9 (L6 A x.2.2.2) λf=>l9 (mJ x.1 f.2) λb=>l7 (C9 c.1 8) (l9 (L6 A x.2.2.2) λg=>l9 (mJ x.2.1 g.2) λd=>l7 (P7 36 c.1) (l7 (P7 c.1 39) (l9 (L6 A x.2.2.2) λi=>l9 (mJ x.2.2.1 i.2) λj=>some (.inl (b,d,j,F6 .i64 x.2.2.2 1))) (some (.inl (b,d,x.2.2.1,F6 .i64 x.2.2.2 1)))) (some (.inl (b,d,x.2.2.1,F6 .i64 x.2.2.2 1)))) (l7 (P7 36 c.1) (l7 (P7 c.1 39) (l9 (L6 A x.2.2.2) λg=>l9 (mJ x.2.2.1 g.2) λd=>some (.inl (b,x.2.1,d,F6 .i64 x.2.2.2 1))) (some (.inl (b,x.2.1,x.2.2.1,F6 .i64 x.2.2.2 1)))) (some (.inl (b,x.2.1,x.2.2.1,F6 .i64 x.2.2.2 1))))) (l7 (C9 c.1 8) (l9 (L6 A x.2.2.2) λf=>l9 (mJ x.2.1 f.2) λb=>l7 (P7 36 c.1) (l7 (P7 c.1 39) (l9 (L6 A x.2.2.2) λg=>l9 (mJ x.2.2.1 g.2) λd=>some (.inl (x.1,b,d,F6 .i64 x.2.2.2 1))) (some (.inl (x.1,b,x.2.2.1,F6 .i64 x.2.2.2 1)))) (some (.inl (x.1,b,x.2.2.1,F6 .i64 x.2.2.2 1)))) (l7 (P7 36 c.1) (l7 (P7 c.1 39) (l9 (L6 A x.2.2.2) λf=>l9 (mJ x.2.2.1 f.2) λb=>some (.inl (x.1,x.2.1,b,F6 .i64 x.2.2.2 1))) (some (.inl (x.1,x.2.1,x.2.2.1,F6 .i64 x.2.2.2 1)))) (some (.inl (x.1,x.2.1,x.2.2.1,F6 .i64 x.2.2.2 1)))))) (some (.inr (x.1,x.2.1,x.2.2.1)))) ([],[],[],0)) λy=>some y
def b1Z:FQ:=⟨[uD y12],⟨[(.tmp 2,uoM),(.tmp 3,uoM),(.tmp 4,uoM)],[]⟩,mE 55 [(225,b4G)],sN 2 (aO (sN 1 (iR (.loop [(5,52)] ⟨[(5,uoM),(6,uoM),(7,uoM),(8,N7)],[]⟩ 0 ⟨[(5,uoM),(6,uoM),(7,uoM)],[]⟩ H9))) H9)⟩
def b4u:FSpec:=ae b1Z λx=>qf x
def oI(A:List Int)(B:Int):Option (List Int):=l9 (dV (λ(x:List Int×Bool×Int)=>l7 (H6 x.2.2 (o9 A)) (l7 (G8 x.2.1) (l9 (L6 A x.2.2) λd=>l7 (P7 B d) (l9 (L6 A x.2.2) λb=>l7 (H6 B b) (l9 (bK x.1 [B]) λc=>l9 (L6 A x.2.2) λf=>l9 (bK c [f]) λg=>some (.inl (g,true,F6 .i64 x.2.2 1))) (l9 (L6 A x.2.2) λc=>l9 (bK x.1 [c]) λf=>some (.inl (f,true,F6 .i64 x.2.2 1)))) (l9 (L6 A x.2.2) λb=>l9 (bK x.1 [b]) λc=>some (.inl (c,x.2.1,F6 .i64 x.2.2 1)))) (l9 (L6 A x.2.2) λd=>l9 (bK x.1 [d]) λb=>some (.inl (b,x.2.1,F6 .i64 x.2.2 1)))) (some (.inr (x.1,x.2.1)))) ([],false,0)) λy=>l7 (G8 y.2) (l9 (bK y.1 [B]) λx=>some x) (some y.1)
def b1z:FQ:=⟨[uD y29,N7],tR 4 uoM,mE 48 [],sN 3 (aO (sN 1 (iR (.loop [(5,41)] ⟨[(5,uoM),(6,bW),(7,N7)],[]⟩ 0 ⟨[(5,uoM),(6,bW)],[]⟩ H9))) H9)⟩
def a7x:FSpec:=ae b1z λx=>oI x.1 x.2
def wQ(A:J3)(B:Int):Option (List Int):=l9 (Ak A B) λx=>l7 (G8 x) (some []) (l9 (dV (λ(x:List Int×Int)=>l7 (H6 x.2 (o9 A.2.2.2.2)) (l9 (L6 A.2.2.2.2 x.2) λj=>l7 (G8 (C9 j.2.1 B)) (some (.inl (x.1,F6 .i64 x.2 1))) (l9 (L6 A.2.2.2.2 x.2) λk=>l9 (qf k.2.2.2.2.2.1) λb=>l9 (L6 A.2.2.2.2 x.2) λn=>l9 (qf n.2.2.2.2.2.2.1) λc=>l9 (dV (λ(x:List Int×Int)=>l7 (H6 x.2 (o9 b.2.1)) (l9 (L6 b.2.1 x.2) λp=>l9 (eH b.2.1 (dB x.2)) λg=>l9 (Ak A g) λi=>l7 i (l9 (L6 b.2.1 x.2) λq=>l9 (eH b.2.1 (dB x.2)) λd=>l9 (oI x.1 d) λf=>some (.inl (f,F6 .i64 x.2 1))) (some (.inl (x.1,F6 .i64 x.2 1)))) (some (.inr x.1))) (x.1,0)) λy=>l9 (dV (λ(x:List Int×Int)=>l7 (H6 x.2 (o9 c.2.1)) (l9 (L6 c.2.1 x.2) λp=>l9 (eH c.2.1 (dB x.2)) λg=>l9 (Ak A g) λi=>l7 i (l9 (L6 c.2.1 x.2) λq=>l9 (eH c.2.1 (dB x.2)) λd=>l9 (oI x.1 d) λf=>some (.inl (f,F6 .i64 x.2 1))) (some (.inl (x.1,F6 .i64 x.2 1)))) (some (.inr x.1))) (y,0)) λy=>some (.inl (y,F6 .i64 x.2 1)))) (some (.inr x.1))) ([],0)) λy=>some y)
def b1y:FQ:=⟨[tD y24,N7],tR 4 uoM,mE 93 [(199,b4t),(200,b4u),(167,a7x)],sN 3 (aO (sN 1 (iR (.loop [(5,15),(19,92)] ⟨[(5,uoM),(6,N7)],[]⟩ 0 ⟨[(5,uoM)],[]⟩ (sN 1 (aO (iR (sN 3 (aO (sN 1 (iR (.loop [(5,6),(13,14),(56,74),(24000000,24000001)] ⟨[(5,uoM),(13,N7)],[]⟩ 2 ⟨[(5,uoM)],[]⟩ H9))) (sN 1 (iR (.loop [(5,6),(14,15),(74,92),(55000000,55000001)] ⟨[(5,uoM),(14,N7)],[]⟩ 4 ⟨[(5,uoM)],[]⟩ H9)))))) H9))))) H9)⟩
def b3Y:FSpec:=ae b1y λx=>wQ x.1 x.2
def a6o:List MG:=[(true,(.dat y24)),N7]
def b3h:Ret:=⟨[(.tmp 4,(false,(.fr (.int .i64))))],[]⟩
def b6C:Env:=⟨47,eqs,tt,gl,[(166,b3Y),(167,a7x)],[],[],[],[],[]⟩
def b0a:Ann:=.seq H9 (.seq H9 (.seq (.seq H9 (.blk (.loop [(5,11),(14,46),(7000832,7000833)] ⟨[(5,(false,(.fr (.int .i64)))),(6,N7)],[]⟩ 0 ⟨[(5,(false,(.fr (.int .i64))))],[]⟩ (.seq H9 (.seq (.blk (.seq H9 (.seq H9 (.blk (.loop [(5,6),(8,11),(22,46)] ⟨[(5,(false,(.fr (.int .i64)))),(8,N7)],[]⟩ 2 ⟨[(5,(false,(.fr (.int .i64))))],[]⟩ (.seq H9 (.seq (.blk (.seq H9 (.seq H9 (.blk (.loop [(5,6),(10,11),(34,46)] ⟨[(5,(false,(.fr (.int .i64)))),(10,N7)],[]⟩ 4 ⟨[(5,(false,(.fr (.int .i64))))],[]⟩ H9))))) H9))))))) H9))))) H9))
def tC(A:J3)(B:Int):Option (List Int):=l9 (wQ A B) λx=>l9 (dV (λ(x:List Int×Int)=>l7 (H6 x.2 (o9 A.2.2.2.1)) (l9 (dV (λ(c:List Int×Int)=>l7 (H6 c.2 (o9 x.1)) (l9 (L6 x.1 c.2) λx=>l9 (wQ A x) λx=>l9 (dV (λ(b:List Int×Int)=>l7 (H6 b.2 (o9 x)) (l9 (L6 x b.2) λd=>l9 (eH x (dB b.2)) λx=>l9 (oI b.1 x) λx=>some (.inl (x,F6 .i64 b.2 1))) (some (.inr b.1))) (c.1,0)) λy=>some (.inl (y,F6 .i64 c.2 1))) (some (.inr c.1))) (x.1,0)) λy=>some (.inl (y,F6 .i64 x.2 1))) (some (.inr x.1))) (x,0)) λy=>some y
def b3y:FSpec:=⟨a6o,[uoM],[],λx=>tC x.1 x.2⟩
def tK(A:dL)(B:Int):Option X0:=l9 (L6 A.2.2 B) λx=>l9 (bU x.1) λg=>l7 (G8 g) (some (2,3,B,0)) (l9 (iw A 3 B x.1) λi=>l7 i (some (7,3,B,0)) (l9 (l7 (G8 (C9 x.2.1 (-1))) (l7 (H6 x.2.1 0) (some (.inr (6,3,B,0))) (l7 (P7 B x.2.1) (some (.inr (6,3,B,0))) (l9 (L6 A.2.2 x.2.1) λx=>l7 (G8 (C9 x.2.1 (-1))) (some (.inr (6,3,B,0))) (some (.inl ((0,0,0,0),0,3,B,0)))))) (some (.inl ((0,0,0,0),0,3,B,0)))) λo=>X9 o (λ(d:X0×X0)=>l7 (H6 12 (o9 x.2.2.1)) (some (4,d.2.2.1,d.2.2.2.1,112)) (l7 (H6 12 (o9 x.2.2.2.1)) (some (4,d.2.2.1,d.2.2.2.1,212)) (l9 (tH A B) λf=>l7 (G8 (C9 f.1 0)) (some f) (l9 (U2 (λ(b:X0×Int)=>l7 (H6 b.2 (o9 x.2.2.2.2)) (l9 (uP A B b.2) λx=>l7 (G8 (C9 x 0)) (some (.rt (x,3,B,F6 .i64 300 b.2))) (some (.nx (b.1,F6 .i64 b.2 1)))) (some (.ex b.1))) (d.1,0)) λo=>X9 o (λ(y:X0)=>l9 (U2 (λ(b:X0×Int)=>l7 (H6 b.2 (o9 x.2.2.2.1)) (l9 (tC x b.2) λx=>l9 (U2 (λ(c:X0×Int)=>l7 (H6 c.2 (o9 x)) (l9 (L6 x c.2) λj=>l9 (eH x (dB c.2)) λx=>l7 (C9 x b.2) (some (.rt (9,3,B,F6 .i64 200 b.2))) (some (.nx (c.1,F6 .i64 c.2 1)))) (some (.ex c.1))) (b.1,0)) λo=>X9 o (λ(y:X0)=>some (.nx (y,F6 .i64 b.2 1))) λr=>some (.rt r)) (some (.ex b.1))) (y,0)) λo=>X9 o (λ(y:X0)=>some (0,0,0,0)) λr=>some r) λr=>some r)))) λr=>some r))
def q77:FQ:=⟨[tD y27,N7],cR 4 64 (tD y35),mE 125 [(116,a0N),(117,a5E),(119,b3w),(120,b3x),(121,b3y)],sN 5 (aO (jnR [(4,5),(6,7),(33,59),(4000256,4000257),(10000384,10000385)] ⟨[(4,(false,(.box (dT y35)))),(6,(false,(.box (dT y35))))],[]⟩ H9) (sN 4 (aO (sN 1 (iR (lpR [(4,5),(8,10),(80,98),(38000000,38000001)] ⟨[(4,(false,(.box (dT y35)))),(8,N7)],[]⟩ 0 ⟨[(4,(false,(.box (dT y35))))],[]⟩ H9))) (aO (sN 1 (iR (lpR [(4,5),(10,13),(98,124),(102000000,102000001)] ⟨[(4,(false,(.box (dT y35)))),(10,N7)],[]⟩ 2 ⟨[(4,(false,(.box (dT y35))))],[]⟩ (sN 1 (aO (iR (sN 2 (iR (lpR [(4,5),(12,13),(108,124),(132000000,132000001)] ⟨[(4,(false,(.box (dT y35)))),(12,N7)],[]⟩ 4 ⟨[(4,(false,(.box (dT y35))))],[]⟩ H9)))) H9))))) H9))))⟩
def s77:FSpec:=ae q77 λx=>tK x.1 x.2
def wR(A:dL):Option X0:=l7 (H6 8 (o9 A.1)) (some (4,1,8,0)) (l9 (U2 (λ(x:X0×Int)=>l7 (H6 x.2 (o9 A.1)) (l9 (uM A x.2) λb=>l7 (G8 (C9 b.1 0)) (some (.rt b)) (some (.nx (x.1,F6 .i64 x.2 1)))) (some (.ex x.1))) ((0,0,0,0),0)) λo=>X9 o (λ(y:X0)=>l7 (H6 8 (o9 A.2.1)) (some (4,2,8,0)) (l9 (U2 (λ(x:X0×Int)=>l7 (H6 x.2 (o9 A.2.1)) (l9 (tN A x.2) λb=>l7 (G8 (C9 b.1 0)) (some (.rt b)) (some (.nx (x.1,F6 .i64 x.2 1)))) (some (.ex x.1))) (y,0)) λo=>X9 o (λ(y:X0)=>l7 (H6 4 (o9 A.2.2)) (some (4,3,4,0)) (l9 (U2 (λ(x:X0×Int)=>l7 (H6 x.2 (o9 A.2.2)) (l9 (tK A x.2) λb=>l7 (G8 (C9 b.1 0)) (some (.rt b)) (some (.nx (x.1,F6 .i64 x.2 1)))) (some (.ex x.1))) (y,0)) λo=>X9 o (λ(y:X0)=>some (0,0,0,0)) λr=>some r)) λr=>some r)) λr=>some r)
def q44:FQ:=⟨[tD y27],cR 2 64 (tD y35),mE 67 [(75,s75),(76,s76),(77,s77)],sN 2 (aO (sN 1 (iR (lpR [(2,5),(14,28),(4000128,4000129)] ⟨[(2,(false,(.box (dT y35)))),(3,N7)],[]⟩ 0 ⟨[(2,(false,(.box (dT y35))))],[]⟩ H9))) (sN 1 (aO (sN 1 (iR (lpR [(2,3),(5,7),(33,47),(22000000,22000001)] ⟨[(2,(false,(.box (dT y35)))),(5,N7)],[]⟩ 2 ⟨[(2,(false,(.box (dT y35))))],[]⟩ H9))) (sN 1 (aO (sN 1 (iR (lpR [(2,3),(7,9),(52,66),(63000000,63000001)] ⟨[(2,(false,(.box (dT y35)))),(7,N7)],[]⟩ 4 ⟨[(2,(false,(.box (dT y35))))],[]⟩ H9))) H9)))))⟩
def s44:FSpec:=ae q44 λx=>wR x
def Ei(A:dL)(B:Int):Option (J3×Int):=l9 (wR A) λx=>l7 (G8 (C9 x.1 0)) (some (([],0,[],[],[]),1)) (l7 (H6 B 0) (some (([],0,[],[],[]),6)) (l7 (P7 (o9 A.2.2) B) (some (([],0,[],[],[]),6)) (l9 (L6 A.2.2 B) λx=>some (x,0))))
def q20:FQ:=⟨[tD y27,N7],⟨[(.cell 4 50,tD y24),(.tmp 5,N7)],[]⟩,mE 26 [(44,s44)],H9⟩
def s20:FSpec:=ae q20 λx=>Ei x.1 x.2
def rY(A:J3)(B:Int):Option Bool:=l7 (P7 0 B) (some (H6 B (o9 A.2.2.2.2))) (some false)
def q21:FQ:=⟨[tD y24,N7],tR 4 bW,mE 14 [],H9⟩
def s21:FSpec:=ae q21 λx=>rY x.1 x.2
def jo(A:List jw):Option (List (List UInt8)):=l9 (dV (λ(x:List (List UInt8)×Int)=>l7 (H6 x.2 (o9 A)) (l9 (L6 A x.2) λb=>l9 (bK x.1 [b.1]) λc=>some (.inl (c,F6 .i64 x.2 1))) (some (.inr x.1))) ([],0)) λy=>some y
def q48:FQ:=⟨[uD y11],tR 2 (uO .str),mE 20 [],sN 2 (aO (sN 1 (iR (.loop [(3,19)] ⟨[(3,(uO .str)),(4,N7)],[]⟩ 0 ⟨[(3,(uO .str))],[]⟩ H9))) H9)⟩
def s48:FSpec:=ae q48 λx=>jo x
def jJ(A:dL)(B:Int):Option D9:=l9 (l7 (H6 B 0) (some (.inr ([],[],[],[],[]))) (l7 (P7 (o9 A.2.2) B) (some (.inr ([],[],[],[],[]))) (some (.inl ([],[],[],[],[]))))) λo=>X9 o (λ(x:D9)=>l9 (L6 A.2.2 B) λx=>l9 (jo x.2.2.1) λb=>l9 (jo x.2.2.2.1) λc=>l9 (dV (λ(x:D9×Int)=>l7 (H6 x.2 (o9 A.2.1)) (l9 (L6 A.2.1 x.2) λd=>l9 (bK x.1.2.1 [d.1]) λf=>some (.inl ((x.1.1,f,x.1.2.2),F6 .i64 x.2 1))) (some (.inr x.1))) ((A.1,[],b,c,[]),0)) λy=>l7 (P7 0 x.2.1) (l7 (H6 x.2.1 (o9 A.2.2)) (l9 (L6 A.2.2 x.2.1) λx=>l9 (jo x.2.2.2.1) λx=>some (y.1,y.2.1,y.2.2.1,y.2.2.2.1,x)) (some y)) (some y)) λr=>some r
def q23:FQ:=⟨[tD y27,N7],cR 4 77 (tD ja),mE 71 [(48,s48)],sN 1 (aO (jnR [(4,5),(8,18),(4000256,4000257)] ⟨[(4,(false,(.box (dT ja))))],[]⟩ H9) (sN 2 (aO (sN 1 (iR (.loop [(6,8),(32,50),(20000384,20000385),(20001728,20001729),(20001920,20001921)] ⟨[(6,(false,(.box (pA (dT y1) (pA (oW .str) (pA (oW .str) (pA (oW .str) (dT (.sl .str))))))))),(7,N7)],[]⟩ 0 ⟨[(6,(false,(.box (pA (dT y1) (pA (oW .str) (pA (oW .str) (pA (oW .str) (dT (.sl .str)))))))))],[]⟩ H9))) H9)))⟩
def s23:FSpec:=ae q23 λx=>jJ x.1 x.2
def Eh(A:List J4):Option (List Int×Int):=l9 (nZ A) λx=>some (x.1,x.2.2)
def q45:FQ:=⟨[uD y12],⟨[(.tmp 2,uoM),(.tmp 3,N7)],[]⟩,mE 15 [(78,s78)],H9⟩
def s45:FSpec:=ae q45 λx=>Eh x
def bH(A:J4):Option (ES×Bool):=l7 (P7 1 A.1) (l7 (P7 A.1 5) (some ((A.1,0,A.2),true)) (some ((0,0,0),false))) (some ((0,0,0),false))
def q79:FQ:=⟨[tD y2],⟨[(.cell 2 145,tD y3),(.tmp 3,bW)],[]⟩,mE 18 [],H9⟩
def s79:FSpec:=ae q79 λx=>bH x
def mW(A:J4)(B:D9):Option (List (List UInt8)):=l7 (C9 A.1 7) (some B.2.2.1) (l7 (C9 A.1 8) (some B.2.2.2.1) (l7 (C9 A.1 33) (some B.2.1) (some B.2.2.2.2)))
def q81:FQ:=⟨[tD y2,tD ja],tR 4 (uD (.sl .str)),mE 21 [],H9⟩
def s81:FSpec:=ae q81 λx=>mW x.1 x.2
def V4(A:J4)(B:D9):Option Int:=l9 (bH A) λx=>l7 x.2 (l9 (dJ (x.1.1,0) []) λb=>l7 (H6 x.1.2.2 b.1) (some 3) (l7 (H6 b.2 x.1.2.2) (some 3) (some 0))) (l7 (C9 A.1 6) (l7 (H6 A.2 0) (some 6) (l7 (P7 (o9 B.1) (eU .i64 A.2 16)) (some 6) (l9 (L6 B.1 (eU .i64 A.2 16)) λx=>l7 (P7 (o9 x.2) (jP A.2 16)) (some 6) (some 0)))) (l9 (l7 (C9 A.1 7) (some true) (l7 (C9 A.1 8) (some true) (l7 (C9 A.1 33) (some true) (l7 (P7 36 A.1) (some (P7 A.1 39)) (some false))))) λx=>l7 x (l7 (H6 A.2 0) (some 6) (l9 (mW A B) λx=>l7 (P7 (o9 x) A.2) (some 6) (some 0))) (l7 (C9 A.1 34) (l7 (H6 A.2 0) (some 6) (l7 (P7 (o9 B.2.1) (eU .i64 A.2 8)) (some 6) (l7 (H6 5 (jP A.2 8)) (some 3) (some 0)))) (l9 (l7 (C9 A.1 14) (some true) (l7 (C9 A.1 15) (some true) (some (C9 A.1 16)))) λx=>l7 x (l7 (H6 A.2 0) (some 3) (l7 (H6 5 A.2) (some 3) (some 0))) (l7 (G8 (C9 A.2 0)) (some 2) (some 0))))))
def q46:FQ:=⟨[tD y2,tD ja],tR 4 N7,mE 146 [(79,s79),(80,s80),(81,s81)],sN 2 (aO (iR (sN 1 (.cond H9 (sN 1 (.cond H9 (aO (.join [(64,88)] ⟨[(64,bW)],[]⟩ H9) (.cond H9 (sN 1 (.cond H9 (aO (.join [(120,134)] ⟨[(120,bW)],[]⟩ H9) H9)))))))))) H9)⟩
def s46:FSpec:=ae q46 λx=>V4 x.1 x.2
def rW(A:List J4)(B:Int):Option (List Int):=l9 (nZ A) λx=>l9 (l7 (G8 (C9 x.2.2 0)) (some (.inr [])) (l7 (H6 B 0) (some (.inr [])) (l7 (P7 (o9 A) B) (some (.inr [])) (some (.inl ()))))) λo=>X9 o (λg=>l9 (L6 A B) λd=>l9 (gW d.1) λc=>l9 (FM c 0) λf=>l9 (dV (λ(b:List Int×J4)=>l7 (P7 0 b.2.2) (l9 (L6 b.1 b.2.2) λi=>l9 (eH b.1 (dB b.2.2)) λj=>l9 (L6 x.1 b.2.1) λk=>l9 (eH x.1 (dB b.2.1)) λx=>some (.inl (um b.1 (dB b.2.2) b.2.1,Y1 .i64 x 1,Y1 .i64 b.2.2 1))) (some (.inr b.1))) (f,Y1 .i64 B 1,Y1 .i64 c 1)) λy=>some y) λr=>some r
def q82:FQ:=⟨[uD y12,N7],tR 4 uoM,mE 56 [(78,s78),(122,a5F)],sN 2 (aO (jnR [(4,5),(18,30)] sgN H9) (sN 3 (aO (sN 1 (iR (.loop [(9,12),(42,55),(23002368,23002369)] ⟨[(9,uoM),(10,N7),(11,N7)],[]⟩ 0 ⟨[(9,uoM)],[]⟩ H9))) H9)))⟩
def s82:FSpec:=ae q82 λx=>rW x.1 x.2
def xN(A:ES):Option J4:=some (A.1,A.2.1)
def b0S:FQ:=⟨[tD y3],cR 2 43 (tD y2),mE 8 [],H9⟩
def a7u:FSpec:=ae b0S λx=>xN x
def Bz(A:ES)(B:List dM):Option Bool:=l9 (xN A) λx=>l9 (V9 x B) λx=>l7 x (l9 (xN A) λx=>l9 (wM A.2.2 x B) λx=>some x) (some false)
def b0T:FQ:=⟨[tD y3,uD y1],tR 4 bW,mE 17 [(124,a7u),(123,Xc),(168,a7y)],H9⟩
def b3z:FSpec:=ae b0T λx=>Bz x.1 x.2
def t_:List MG:=[(false,(.dat (.int .u64)))]
def a6s:Ret:=⟨[(.tmp 2,(false,(.dat .str)))],[]⟩
def b6E (r169:M.den (.dat (.int .u64))->Option (V8 ([(false,(.dat .str))]++[]))):Env:=⟨20,eqs,tt,gl,[(169,⟨t_,[(false,(.dat .str))],[],λx=>r169 x⟩)],[],[],[],[],[]⟩
def b0c:Ann:=.leaf
def wL(r169:Int->Option (List UInt8))(A:Int):Option (List UInt8):=l7 (H6 A 10) (some (EM [wrap .u8 (F6 .u64 48 A)])) (l9 (r169 (eU .u64 A 10)) λx=>l9 (J5 x (EM [wrap .u8 (F6 .u64 48 (jP A 10))])) λx=>some x)
def mX:Nat->(M.den (.dat (.int .u64))->Option (V8 ([(false,(.dat .str))]++[])))|0=>λa0=>none|n+1=>λa0=>wL (mX n) a0
def yY:M.den (.dat (.int .u64))->Option (V8 ([(false,(.dat .str))]++[])):=λa0=>(mX gy) a0
def b3Z:FSpec:=mkS t_ a6s λx=>yY x
def lK(A:Int):Option (List UInt8):=l7 (H6 A 0) (l9 (yY (F6 .u64 (wrap .u64 (Y1 .i64 0 (F6 .i64 A 1))) 1)) λx=>l9 (J5 [45] x) λx=>some x) (l9 (yY (wrap .u64 A)) λx=>some x)
def b0U:FQ:=⟨[N7],tR 2 (uD .str),mE 15 [(169,b3Z)],H9⟩
def a5G:FSpec:=ae b0U λx=>lK x
def FV(A:Int):Option Int:=some (wz (ww A 0) 9)
def b1B:FQ:=⟨[N7],tR 2 N7,mE 6 [],H9⟩
def b4a:FSpec:=ae b1B λx=>FV x
def xK(A:List UInt8):Option (List UInt8×Bool):=l7 (H6 0 (o9 A)) (l9 (sat A 0) λx=>l7 (C9 x 45) (l9 (iD A 1 (o9 A)) λx=>some (x,true)) (some (A,false))) (some (A,false))
def b1C:FQ:=⟨[uD .str],⟨[(.tmp 2,(uD .str)),(.tmp 3,bW)],[]⟩,mE 15 [],H9⟩
def b4b:FSpec:=ae b1C λx=>xK x
def jH(A:Int)(B:Int):Option (List UInt8):=l9 (FV B) λx=>l7 (C9 x 0) (l9 (lK A) λx=>some x) (l9 (lK A) λd=>l9 (xK d) λc=>l9 (dV (λ(b:List UInt8)=>l7 (P7 (o9 b) x) (l9 (J5 [48] b) λx=>some (.inl x)) (some (.inr b))) c.1) λy=>l9 (iD y 0 (Y1 .i64 (o9 y) x)) λb=>l9 (J5 b [46]) λf=>l9 (iD y (Y1 .i64 (o9 y) x) (o9 y)) λx=>l9 (J5 f x) λx=>l7 c.2 (l9 (J5 [45] x) λx=>some x) (some x))
def b0V:FQ:=⟨[N7,N7],tR 4 (uD .str),mE 44 [(170,b4a),(126,a5G),(171,b4b)],sN 4 (aO (iR (.loop [(6,7),(20,26)] ⟨[(6,(uD .str))],[]⟩ 0 ⟨[(6,(uD .str))],[]⟩ H9)) H9)⟩
def b3A:FSpec:=ae b0V λx=>jH x.1 x.2
def yx(A:Int):Option Bool:=l7 (P7 0 A) (some (P7 A 109572)) (some false)
def b1D:FQ:=⟨[N7],tR 2 bW,mE 9 [],H9⟩
def a7z:FSpec:=ae b1D λx=>yx x
def zf(A:Int):Option Bool:=l7 (C9 (jP A 4) 0) (l7 (G8 (C9 (jP A 100) 0)) (some true) (some (C9 (jP A 400) 0))) (some false)
def b2p:FQ:=⟨[N7],tR 2 bW,mE 16 [],H9⟩
def a7I:FSpec:=ae b2p λx=>zf x
def kG(A:Int):Option Int:=l9 (zf A) λx=>l7 x (some 366) (some 365)
def b2a:FQ:=⟨[N7],tR 2 N7,mE 5 [(226,a7I)],H9⟩
def b4v:FSpec:=ae b2a λx=>kG x
def jI(A:Int)(B:Int):Option Int:=l7 (C9 B 2) (l9 (zf A) λx=>l7 x (some 29) (some 28)) (l9 (l7 (C9 B 4) (some (C9 B 4)) (l7 (C9 B 6) (some (C9 B 6)) (l7 (C9 B 9) (some (C9 B 9)) (some (C9 B 11))))) λx=>l7 x (some 30) (l7 (C9 B 1) (l7 (C9 B 1) (some 31) (some 0)) (l7 (C9 B 3) (l7 (C9 B 3) (some 31) (some 0)) (l7 (C9 B 5) (l7 (C9 B 5) (some 31) (some 0)) (l7 (C9 B 7) (l7 (C9 B 7) (some 31) (some 0)) (l7 (C9 B 8) (l7 (C9 B 8) (some 31) (some 0)) (l7 (C9 B 10) (l7 (C9 B 10) (some 31) (some 0)) (l7 (C9 B 12) (some 31) (some 0)))))))))
def b2b:FQ:=⟨[N7,N7],tR 4 N7,mE 23 [(226,a7I)],sN 1 (aO (sN 1 (iR (sN 1 (.cond H9 (aO (.join [(10,15)] ⟨[(10,bW)],[]⟩ H9) H9))))) H9)⟩
def b4w:FSpec:=ae b2b λx=>jI x.1 x.2
def Bq(A:Int):Option ES:=l9 (yx A) λx=>l7 (G8 x) (some (0,0,0)) (l9 (dV (λ(x:J4)=>l9 (kG x.2) λb=>l7 (P7 b x.1) (l9 (kG x.2) λc=>some (.inl (Y1 .i64 x.1 c,F6 .i64 x.2 1))) (some (.inr x))) (A,1900)) λy=>l9 (dV (λ(x:J4)=>l9 (jI y.2 x.2) λb=>l7 (P7 b x.1) (l9 (jI y.2 x.2) λc=>some (.inl (Y1 .i64 x.1 c,F6 .i64 x.2 1))) (some (.inr x))) (y.1,1)) λy_1=>some (y.2,y_1.2,F6 .i64 y_1.1 1))
def b1E:FQ:=⟨[N7],⟨[(.tmp 2,N7),(.tmp 3,N7),(.tmp 4,N7)],[]⟩,mE 36 [(172,a7z),(201,b4v),(202,b4w)],sN 3 (aO (iR (.loop [(0,1),(5,6),(10,20)] ⟨[(0,N7),(5,N7)],[]⟩ 0 ⟨[(0,N7),(5,N7)],[]⟩ H9)) (aO (iR (.loop [(0,1),(6,7),(20,32)] ⟨[(0,N7),(6,N7)],[]⟩ 2 ⟨[(0,N7),(6,N7)],[]⟩ H9)) H9))⟩
def b4c:FSpec:=ae b1E λx=>Bq x
def xM(A:Int)(B:Int):Option (List UInt8):=l9 (lK A) λx=>l9 (dV (λ(x:List UInt8)=>l7 (H6 (o9 x) B) (l9 (J5 [48] x) λx=>some (.inl x)) (some (.inr x))) x) λy=>some y
def b1F:FQ:=⟨[N7,N7],tR 4 (uD .str),mE 15 [(126,a5G)],sN 2 (aO (iR (.loop [(5,6),(8,14)] ⟨[(5,(uD .str))],[]⟩ 0 ⟨[(5,(uD .str))],[]⟩ H9)) H9)⟩
def b4d:FSpec:=ae b1F λx=>xM x.1 x.2
def yZ(A:Int):Option (List UInt8):=l9 (yx A) λx=>l7 (G8 x) (some []) (l9 (Bq A) λx=>l9 (xM x.1 4) λb=>l9 (J5 b [45]) λc=>l9 (xM x.2.1 2) λd=>l9 (J5 c d) λf=>l9 (J5 f [45]) λg=>l9 (xM x.2.2 2) λx=>l9 (J5 g x) λx=>some x)
def b0W:FQ:=⟨[N7],tR 2 (uD .str),mE 25 [(172,a7z),(173,b4c),(174,b4d)],H9⟩
def b3B:FSpec:=ae b0W λx=>yZ x
def sW(A:ES)(B:List dM):Option (List UInt8×Int):=l9 (xN A) λx=>l9 (V9 x B) λx=>l7 (G8 x) (some ([],8)) (l9 (Bz A B) λx=>l7 (G8 x) (some ([],3)) (l7 (C9 A.1 1) (l7 (C9 A.2.2 0) (some ([102,97,108,115,101],0)) (some ([116,114,117,101],0))) (l7 (C9 A.1 2) (l9 (lK A.2.2) λx=>some (x,0)) (l7 (C9 A.1 3) (l9 (jH A.2.2 2) λx=>some (x,0)) (l7 (C9 A.1 4) (l9 (jH A.2.2 4) λx=>l9 (J5 x [37]) λx=>some (x,0)) (l7 (C9 A.1 5) (l9 (yZ A.2.2) λx=>some (x,0)) (l9 (L6 B A.2.1) λx=>l9 (L6 x.2 A.2.2) λx=>some (x,0))))))))
def q83:FQ:=⟨[tD y3,uD y1],⟨[(.tmp 4,(uD .str)),(.tmp 5,N7)],[]⟩,mE 53 [(124,a7u),(123,Xc),(125,b3z),(126,a5G),(127,b3A),(128,b3B)],H9⟩
def s83:FSpec:=ae q83 λx=>sW x.1 x.2
def dK(A:Int):Option (List UInt8×Int):=l7 (C9 A 24) (some ([111,114],1)) (l7 (C9 A 23) (some ([97,110,100],2)) (l7 (C9 A 19) (some ([61,61],3)) (l7 (C9 A 20) (some ([33,61],3)) (l7 (C9 A 21) (some ([60],3)) (l7 (C9 A 22) (some ([60,61],3)) (l7 (C9 A 11) (some ([43],4)) (l7 (C9 A 12) (some ([45],4)) (l7 (C9 A 13) (some ([42],5)) (some ([],0))))))))))
def q84:FQ:=⟨[N7],⟨[(.tmp 2,(uD .str)),(.tmp 3,N7)],[]⟩,mE 23 [],H9⟩
def s84:FSpec:=ae q84 λx=>dK x
def vz(A:Int):Option (List UInt8):=l7 (C9 A 14) (some [115,104,97,114,101]) (l7 (C9 A 15) (some [100,105,118]) (l7 (C9 A 16) (some [114,111,117,110,100]) (l7 (C9 A 17) (some [109,105,110]) (l7 (C9 A 18) (some [109,97,120]) (l7 (C9 A 27) (some [112,108,117,115]) (l7 (C9 A 28) (some [109,111,110,116,104,115]) (l7 (C9 A 29) (some [100,97,121,115]) (l7 (C9 A 30) (some [121,101,97,114,115]) (l7 (C9 A 31) (some [121,101,97,114]) (l7 (C9 A 32) (some [109,111,110,116,104]) (l7 (C9 A 33) (some [116,97,98]) (l7 (C9 A 34) (some [98,97,110,100]) (l7 (C9 A 35) (some [99,111,117,110,116]) (l7 (C9 A 36) (some [115,117,109]) (l7 (C9 A 37) (some [97,108,108]) (l7 (C9 A 38) (some [97,110,121]) (l7 (C9 A 39) (some [109,111,115,116]) (some []))))))))))))))))))
def q86:FQ:=⟨[N7],tR 2 (uD .str),mE 40 [],H9⟩
def s86:FSpec:=ae q86 λx=>vz x
def NE:Option (List (List UInt8)):=some [[100,111,119,110],[117,112],[122,101,114,111],[97,119,97,121],[104,97,108,102],[101,118,101,110]]
def b1G:FQ:=⟨[],tR 0 (uO .str),mE 2 [],H9⟩
def b4e:FSpec:=ae b1G λx=>NE
def qC(A:Int):Option (List UInt8):=l9 NE λx=>l9 (L6 x A) λb=>l9 (eH x (dB A)) λx=>some x
def b0X:FQ:=⟨[N7],tR 2 (uD .str),mE 7 [(175,b4e)],H9⟩
def b3C:FSpec:=ae b0X λx=>qC x
def a2t:List MG:=[(false,(.box (.dat y46))),N7]
def a5s:List MG:=[(false,(.box (.dat y46))),N7,N7]
def a7q:List MG:=[(false,(.box (.dat y46))),(true,(.dat y2)),(false,(.dat y29))]
def b3m:Ret:=⟨[(.tmp 4,(false,(.dat .str))),(.tmp 5,N7)],[(0,(true,(.dat y46)))]⟩
def e47 (r47:M.den (.box (.dat y46))->M.den J8->Option (V8 ([(false,(.dat .str)),N7]++[(true,(.dat y46))]))) (r85:M.den (.box (.dat y46))->M.den J8->M.den J8->Option (V8 ([(false,(.dat .str))]++[(true,(.dat y46))]))) (r87:M.den (.box (.dat y46))->M.den (.dat y2)->M.den (.dat y29)->Option (V8 ([(false,(.dat .str))]++[(true,(.dat y46))]))):Env:=⟨206,eqs,tt,gl,[(82,s82),(79,s79),(83,s83),(84,s84),(85,⟨a5s,[(false,(.dat .str))],[(true,(.dat y46))],λx=>r85 x.1 x.2.1 x.2.2⟩),(81,s81),(47,⟨a2t,[(false,(.dat .str)),N7],[(true,(.dat y46))],λx=>r47 x.1 x.2⟩),(86,s86),(87,⟨a7q,[(false,(.dat .str))],[(true,(.dat y46))],λx=>r87 x.1 x.2.1 x.2.2⟩)],[],[],[],[0],[]⟩
def b6x:Ann:=.seq H9 (.seq H9 (.seq H9 (.seq H9 (.seq H9 (.seq H9 (.seq H9 (.seq (.seq H9 (.blk (.seq H9 (.cond H9 (.seq (.join [(112,115)] ⟨[(112,bW)],[]⟩ H9) H9))))) H9)))))))
def X8(r47:G6->Int->Option (List UInt8×Int×G6))(r85:G6->Int->Int->Option (List UInt8×G6))(r87:G6->J4->List Int->Option (List UInt8×G6))(A:G6)(B:Int):Option (List UInt8×Int×G6):=l9 (L6 A.1 B) λx=>l9 (rW A.1 B) λb=>l9 (bH x) λn=>l7 n.2 (l9 (sW n.1 []) λx=>l7 (H6 n.1.2.2 0) (some (x.1,6,A)) (some (x.1,7,A))) (l9 (dK x.1) λf=>l7 (G8 (seq f.1 [])) (l7 (C9 f.2 3) (l9 (L6 b 0) λx=>l9 (eH b (dB 0)) λx=>l9 (r85 A x 4) λx=>l9 (J5 x.1 [32]) λg=>l9 (J5 g f.1) λc=>l9 (J5 c [32]) λd=>l9 (L6 b 1) λk=>l9 (eH b (dB 1)) λi=>l9 (r85 x.2 i (F6 .i64 f.2 1)) λx=>l9 (J5 d x.1) λj=>some (j,f.2,x.2)) (l9 (L6 b 0) λx=>l9 (eH b (dB 0)) λx=>l9 (r85 A x f.2) λx=>l9 (J5 x.1 [32]) λg=>l9 (J5 g f.1) λc=>l9 (J5 c [32]) λd=>l9 (L6 b 1) λk=>l9 (eH b (dB 1)) λi=>l9 (r85 x.2 i (F6 .i64 f.2 1)) λx=>l9 (J5 d x.1) λj=>some (j,f.2,x.2))) (l7 (C9 x.1 6) (l9 (L6 A.2.1 (eU .i64 x.2 16)) λg=>l9 (J5 g.1 [58]) λc=>l9 (L6 A.2.1 (eU .i64 x.2 16)) λd=>l9 (L6 d.2 (jP x.2 16)) λx=>l9 (J5 c x) λx=>some (x,7,A)) (l9 (l7 (C9 x.1 7) (some (C9 x.1 7)) (some (C9 x.1 8))) λg=>l7 g (l9 (mW x A.2) λc=>l9 (L6 c x.2) λx=>some (x,7,A)) (l7 (C9 x.1 9) (some ([116,111,100,97,121],7,A)) (l7 (C9 x.1 10) (l9 (L6 b 0) λx=>l9 (eH b (dB 0)) λx=>l9 (L6 A.1 x) λx=>l7 (C9 x.1 2) (l9 (L6 b 0) λx=>l9 (eH b (dB 0)) λx=>l9 (r47 A x) λx=>l9 (J5 [45,40] x.1) λc=>l9 (J5 c [41]) λd=>some (d,6,x.2.2)) (l7 (C9 x.1 3) (l9 (L6 b 0) λx=>l9 (eH b (dB 0)) λx=>l9 (r47 A x) λx=>l9 (J5 [45,40] x.1) λc=>l9 (J5 c [41]) λd=>some (d,6,x.2.2)) (l7 (C9 x.1 4) (l9 (L6 b 0) λx=>l9 (eH b (dB 0)) λx=>l9 (r47 A x) λx=>l9 (J5 [45,40] x.1) λc=>l9 (J5 c [41]) λd=>some (d,6,x.2.2)) (l9 (L6 b 0) λx=>l9 (eH b (dB 0)) λx=>l9 (r85 A x 6) λx=>l9 (J5 [45] x.1) λc=>some (c,6,x.2))))) (l7 (C9 x.1 25) (l9 (L6 b 0) λx=>l9 (eH b (dB 0)) λx=>l9 (r85 A x 6) λx=>l9 (J5 [110,111,116,32] x.1) λc=>some (c,6,x.2)) (l7 (C9 x.1 26) (l9 (L6 b 0) λx=>l9 (eH b (dB 0)) λx=>l9 (r85 A x 0) λx=>l9 (J5 [105,102,32] x.1) λc=>l9 (J5 c [32,116,104,101,110,32]) λd=>l9 (L6 b 1) λk=>l9 (eH b (dB 1)) λi=>l9 (r85 x.2 i 0) λx=>l9 (J5 d x.1) λj=>l9 (J5 j [32,101,108,115,101,32]) λp=>l9 (L6 b 2) λu=>l9 (eH b (dB 2)) λq=>l9 (r85 x.2 q 0) λx=>l9 (J5 p x.1) λt=>some (t,0,x.2)) (l9 (vz x.1) λc=>l9 (J5 c [40]) λd=>l9 (r87 A x b) λx=>l9 (J5 d x.1) λk=>l9 (J5 k [41]) λi=>some (i,7,x.2)))))))))
def b6P:Ret:=⟨[(.tmp 6,(false,(.dat .str)))],[(0,(true,(.dat y46)))]⟩
def e85 (r47:M.den (.box (.dat y46))->M.den J8->Option (V8 ([(false,(.dat .str)),N7]++[(true,(.dat y46))]))) (r85:M.den (.box (.dat y46))->M.den J8->M.den J8->Option (V8 ([(false,(.dat .str))]++[(true,(.dat y46))]))) (r87:M.den (.box (.dat y46))->M.den (.dat y2)->M.den (.dat y29)->Option (V8 ([(false,(.dat .str))]++[(true,(.dat y46))]))):Env:=⟨22,eqs,tt,gl,[(47,⟨a2t,[(false,(.dat .str)),N7],[(true,(.dat y46))],λx=>r47 x.1 x.2⟩)],[],[],[],[0],[]⟩
def b6y:Ann:=.leaf
def nT(r47:G6->Int->Option (List UInt8×Int×G6))(r85:G6->Int->Int->Option (List UInt8×G6))(r87:G6->J4->List Int->Option (List UInt8×G6))(A:G6)(B:Int)(C:Int):Option (List UInt8×G6):=l9 (r47 A B) λx=>l7 (H6 x.2.1 C) (l9 (J5 [40] x.1) λb=>l9 (J5 b [41]) λc=>some (c,x.2.2)) (some (x.1,x.2.2))
def b6Q:Ret:=⟨[(.tmp 6,(false,(.dat .str)))],[(0,(true,(.dat y46)))]⟩
def e87 (r47:M.den (.box (.dat y46))->M.den J8->Option (V8 ([(false,(.dat .str)),N7]++[(true,(.dat y46))]))) (r85:M.den (.box (.dat y46))->M.den J8->M.den J8->Option (V8 ([(false,(.dat .str))]++[(true,(.dat y46))]))) (r87:M.den (.box (.dat y46))->M.den (.dat y2)->M.den (.dat y29)->Option (V8 ([(false,(.dat .str))]++[(true,(.dat y46))]))):Env:=⟨110,eqs,tt,gl,[(81,s81),(85,⟨a5s,[(false,(.dat .str))],[(true,(.dat y46))],λx=>r85 x.1 x.2.1 x.2.2⟩),(129,b3C)],[],[],[],[0],[]⟩
def b6z:Ann:=.seq H9 (.seq H9 (.seq (.join [(7,8),(12,28),(7000704,7000705)] ⟨[(7,(false,(.own .str)))],[]⟩ H9) (.seq (.join [(7,8),(28,49),(9000000,9000001)] ⟨[(7,(false,(.own .str)))],[]⟩ H9) (.seq (.seq H9 (.blk (.loop [(0,1),(7,9),(49,64),(1000000,1000001),(17000000,17000001)] ⟨[(0,(false,(.box (.dat y46)))),(7,(false,(.own .str))),(8,N7)],[]⟩ 0 ⟨[(0,(false,(.box (.dat y46)))),(7,(false,(.own .str)))],[]⟩ H9))) (.seq (.join [(7,8),(64,83),(31000001,31000002)] ⟨[(7,(false,(.own .str)))],[]⟩ H9) (.seq H9 (.seq H9 (.seq (.seq H9 (.blk (.loop [(9,11),(93,109)] ⟨[(9,(false,(.dat .str))),(10,N7)],[]⟩ 2 ⟨[(9,(false,(.dat .str)))],[]⟩ H9))) H9))))))))
def lL(r47:G6->Int->Option (List UInt8×Int×G6))(r85:G6->Int->Int->Option (List UInt8×G6))(r87:G6->J4->List Int->Option (List UInt8×G6))(A:G6)(B:J4)(C:List Int):Option (List UInt8×G6):=l9 (l7 (C9 B.1 34) (l9 (L6 A.2.2.1 (eU .i64 B.2 8)) λx=>l9 (bK [] [x]) λx=>some x) (some [])) λx=>l9 (l7 (C9 B.1 33) (l9 (mW B A.2) λc=>l9 (L6 c B.2) λb=>l9 (bK x [b]) λx=>some x) (l7 (P7 36 B.1) (l9 (mW B A.2) λc=>l9 (L6 c B.2) λb=>l9 (bK x [b]) λx=>some x) (some x))) λx=>l9 (dV (λ(x:G6×List (List UInt8)×Int)=>l7 (H6 x.2.2 (o9 C)) (l9 (L6 C x.2.2) λc=>l9 (r85 x.1 c 0) λb=>l9 (bK x.2.1 [b.1]) λd=>some (.inl (b.2,d,F6 .i64 x.2.2 1))) (some (.inr (x.1,x.2.1)))) (A,x,0)) λy=>l9 (l7 (C9 B.1 14) (l9 (qC B.2) λx=>l9 (bK y.2 [x]) λx=>some x) (l7 (C9 B.1 15) (l9 (qC B.2) λx=>l9 (bK y.2 [x]) λx=>some x) (l7 (C9 B.1 16) (l9 (qC B.2) λx=>l9 (bK y.2 [x]) λx=>some x) (some y.2)))) λx=>l7 (C9 B.1 34) (l9 (qC (jP B.2 8)) λc=>l9 (bK x [c]) λx=>l9 (dV (λ(b:List UInt8×Int)=>l7 (H6 b.2 (o9 x)) (l7 (H6 0 b.2) (l9 (J5 b.1 [44,32]) λd=>l9 (L6 x b.2) λf=>l9 (eH x (dB b.2)) λx=>l9 (J5 d x) λx=>some (.inl (x,F6 .i64 b.2 1))) (l9 (L6 x b.2) λd=>l9 (eH x (dB b.2)) λx=>l9 (J5 b.1 x) λx=>some (.inl (x,F6 .i64 b.2 1)))) (some (.inr b.1))) ([],0)) λy_1=>some (y_1,y.1)) (l9 (dV (λ(c:List UInt8×Int)=>l7 (H6 c.2 (o9 x)) (l7 (H6 0 c.2) (l9 (J5 c.1 [44,32]) λb=>l9 (L6 x c.2) λd=>l9 (eH x (dB c.2)) λx=>l9 (J5 b x) λx=>some (.inl (x,F6 .i64 c.2 1))) (l9 (L6 x c.2) λb=>l9 (eH x (dB c.2)) λx=>l9 (J5 c.1 x) λx=>some (.inl (x,F6 .i64 c.2 1)))) (some (.inr c.1))) ([],0)) λy_1=>some (y_1,y.1))
def A7:Nat->(M.den (.box (.dat y46))->M.den J8->Option (V8 ([(false,(.dat .str)),N7]++[(true,(.dat y46))])))×(M.den (.box (.dat y46))->M.den J8->M.den J8->Option (V8 ([(false,(.dat .str))]++[(true,(.dat y46))])))×(M.den (.box (.dat y46))->M.den (.dat y2)->M.den (.dat y29)->Option (V8 ([(false,(.dat .str))]++[(true,(.dat y46))])))|0=>(λa0 a1=>none,λa0 a1 a2=>none,λa0 a1 a2=>none)|n+1=>(λa0 a1=>X8 (A7 n).1 (A7 n).2.1 (A7 n).2.2 a0 a1,λa0 a1 a2=>nT (A7 n).1 (A7 n).2.1 (A7 n).2.2 a0 a1 a2,λa0 a1 a2=>lL (A7 n).1 (A7 n).2.1 (A7 n).2.2 a0 a1 a2)
def vk:M.den (.box (.dat y46))->M.den J8->Option (V8 ([(false,(.dat .str)),N7]++[(true,(.dat y46))])):=λa0 a1=>(A7 gy).1 a0 a1
def s47:FSpec:=mkS a2t b3m λx=>vk x.1 x.2
def oH(A:List J4)(B:D9):Option (List UInt8×Int):=l9 (Eh A) λx=>l7 (G8 (C9 x.2 0)) (some ([],x.2)) (l9 (U2 (λ(x:Int)=>l7 (H6 x (o9 A)) (l9 (L6 A x) λc=>l9 (V4 c B) λb=>l7 (G8 (C9 b 0)) (some (.rt ([],b))) (some (.nx (F6 .i64 x 1)))) (some (.ex ()))) 0) λo=>X9 o (λy=>l9 (vk (A,B) (Y1 .i64 (o9 A) 1)) λx=>some (x.1,0)) λr=>some r)
def q22:FQ:=⟨[uD y12,tD ja],⟨[(.tmp 4,(uD .str)),(.tmp 5,N7)],[]⟩,mE 48 [(45,s45),(46,s46),(47,s47)],sN 3 (aO (sN 1 (iR (lpR [(4,6),(7,9),(20,35)] ⟨[(8,N7)],[]⟩ 0 sgN H9))) H9)⟩
def s22:FSpec:=ae q22 λx=>oH x.1 x.2
def yA(A:Int):Option Int:=l7 (H6 A 0) (some 0) (l7 (H6 8 A) (some 8) (some A))
def q50:FQ:=⟨[N7],tR 2 N7,mE 8 [],H9⟩
def s50:FSpec:=ae q50 λx=>yA x
def Je(A:Int):Option Int:=l9 (dV (λ(x:J4)=>l7 (H6 x.2 A) (some (.inl (DU .i64 x.1 2,F6 .i64 x.2 1))) (some (.inr x.1))) (1,0)) λy=>some y
def q49:FQ:=⟨[N7],tR 2 N7,mE 13 [],sN 2 (aO (sN 1 (iR (.loop [(3,12)] ⟨[(3,N7),(4,N7)],[]⟩ 0 ⟨[(3,N7)],[]⟩ H9))) H9)⟩
def s49:FSpec:=ae q49 λx=>Je x
def yz(A:J4)(B:Int):Option Bool:=l7 (P7 0 A.1) (l9 (yA B) λx=>l9 (Je x) λx=>l7 (H6 A.1 x) (l7 (P7 0 A.2) (some (C9 (xx .i64 A.2 A.1) A.2)) (some false)) (some false)) (some false)
def q24:FQ:=⟨[tD y2,N7],tR 4 bW,mE 31 [(50,s50),(49,s49)],H9⟩
def s24:FSpec:=ae q24 λx=>yz x.1 x.2
def zh(A:J4)(B:Int):Option (List UInt8):=l9 (dV (λ(x:jw)=>l9 (yA B) λc=>l7 (H6 x.2.2 c) (l7 (G8 (C9 (xx .i64 A.1 x.2.1) 0)) (l7 (G8 (C9 (xx .i64 A.2 x.2.1) 0)) (l9 (J5 [49] x.1) λb=>some (.inl (b,DU .i64 x.2.1 2,F6 .i64 x.2.2 1))) (l9 (J5 [48] x.1) λb=>some (.inl (b,DU .i64 x.2.1 2,F6 .i64 x.2.2 1)))) (l9 (J5 [45] x.1) λb=>some (.inl (b,DU .i64 x.2.1 2,F6 .i64 x.2.2 1)))) (some (.inr x.1))) ([],1,0)) λy=>some y
def q51:FQ:=⟨[tD y2,N7],tR 4 (uD .str),mE 31 [(50,s50)],sN 3 (aO (sN 1 (iR (.loop [(5,30)] ⟨[(5,(uD .str)),(6,N7),(7,N7)],[]⟩ 0 ⟨[(5,(uD .str))],[]⟩ H9))) H9)⟩
def s51:FSpec:=ae q51 λx=>zh x.1 x.2
def kP(A:J4)(B:Int):Option (List UInt8):=l7 (C9 B 0) (some [46]) (l9 (zh A B) λx=>some x)
def q25:FQ:=⟨[tD y2,N7],tR 4 (uD .str),mE 10 [(51,s51)],H9⟩
def s25:FSpec:=ae q25 λx=>kP x.1 x.2
def fG(A:J3)(B:Int):Option (List UInt8):=l7 (C9 B (-1)) (some [110,111,110,101]) (l7 (C9 B (-2)) (some [99,111,110,102,108,105,99,116]) (l9 (L6 A.2.2.2.2 B) λx=>l9 (J5 [114,117,108,101,32] x.1) λx=>some x))
def q26:FQ:=⟨[tD y24,N7],tR 4 (uD .str),mE 16 [],H9⟩
def s26:FSpec:=ae q26 λx=>fG x.1 x.2
def zi(A:dL)(B:Int)(C:X6):Option (List UInt8×Int):=l9 (Ei A B) λx=>l7 (G8 (C9 x.2 0)) (some ([],x.2)) (l9 (l7 (H6 C.1 0) (some (.inr ([],6))) (l7 (P7 (o9 x.1.2.2.2.1) C.1) (some (.inr ([],6))) (some (.inl ())))) λo=>X9 o (λt=>l7 (H6 8 (o9 C.2.1)) (some ([],4)) (l7 (G8 (C9 (o9 C.2.2.1) (o9 C.2.1))) (some ([],2)) (l9 (L6 x.1.2.2.2.1 C.1) λn=>l9 (J5 [100,101,99,105,115,105,111,110,32] n.1) λp=>l9 (J5 p [10]) λq=>l9 (U2 (λ(b:List UInt8×Int)=>l7 (H6 b.2 (o9 C.2.1)) (l9 (L6 C.2.2.1 b.2) λc=>l9 (rY x.1 c) λk=>l7 (G8 k) (some (.rt ([],6))) (l9 (L6 C.2.1 b.2) λg=>l9 (jJ A B) λi=>l9 (oH g i) λd=>l7 (G8 (C9 d.2 0)) (some (.rt ([],d.2))) (l9 (J5 b.1 [119,104,101,110,32]) λf=>l9 (L6 C.2.2.1 b.2) λj=>l9 (L6 x.1.2.2.2.2 j) λx=>l9 (J5 f x.1) λx=>l9 (J5 x [32]) λx=>l9 (J5 x d.1) λx=>l9 (J5 x [10]) λx=>some (.nx (x,F6 .i64 b.2 1))))) (some (.ex b.1))) (q,0)) λo=>X9 o (λ(y:List UInt8)=>l9 (U2 (λ(b:List UInt8×Int)=>l7 (H6 b.2 (o9 C.2.2.2)) (l9 (L6 C.2.2.2 b.2) λc=>l9 (yz c.1 (o9 C.2.1)) λk=>l7 (G8 k) (some (.rt ([],3))) (l7 (G8 (C9 c.2 (-1))) (l7 (G8 (C9 c.2 (-2))) (l9 (rY x.1 c.2) λg=>l7 (G8 g) (some (.rt ([],6))) (l9 (J5 b.1 [114,111,119,32]) λi=>l9 (kP c.1 (o9 C.2.1)) λd=>l9 (J5 i d) λf=>l9 (J5 f [32]) λj=>l9 (fG x.1 c.2) λx=>l9 (J5 j x) λx=>l9 (J5 x [10]) λx=>some (.nx (x,F6 .i64 b.2 1)))) (l9 (J5 b.1 [114,111,119,32]) λg=>l9 (kP c.1 (o9 C.2.1)) λi=>l9 (J5 g i) λd=>l9 (J5 d [32]) λf=>l9 (fG x.1 c.2) λx=>l9 (J5 f x) λx=>l9 (J5 x [10]) λx=>some (.nx (x,F6 .i64 b.2 1)))) (l9 (J5 b.1 [114,111,119,32]) λg=>l9 (kP c.1 (o9 C.2.1)) λi=>l9 (J5 g i) λd=>l9 (J5 d [32]) λf=>l9 (fG x.1 c.2) λx=>l9 (J5 f x) λx=>l9 (J5 x [10]) λx=>some (.nx (x,F6 .i64 b.2 1))))) (some (.ex b.1))) (y,0)) λo=>X9 o (λ(y:List UInt8)=>l7 (H6 65536 (o9 y)) (some ([],4)) (some (y,0))) λr=>some r) λr=>some r))) λr=>some r)
def q8:FQ:=⟨[tD y27,N7,tD y34],⟨[(.tmp 6,(uD .str)),(.tmp 7,N7)],[]⟩,mE 151 [(20,s20),(21,s21),(23,s23),(22,s22),(24,s24),(25,s25),(26,s26)],sN 4 (aO (jnR [(6,8),(29,40)] sgN H9) (sN 3 (aO (sN 1 (iR (lpR [(6,8),(11,15),(56,101)] ⟨[(11,(uD .str)),(12,N7)],[]⟩ 0 ⟨[(11,(uD .str))],[]⟩ H9))) (aO (sN 1 (iR (lpR [(6,8),(11,12),(15,17),(101,147)] ⟨[(11,(uD .str)),(15,N7)],[]⟩ 2 ⟨[(11,(uD .str))],[]⟩ H9))) H9))))⟩
def s8:FSpec:=ae q8 λx=>zi x.1 x.2.1 x.2.2
def ps3:List MG:=[(true,(.dat y27)),N7,(true,(.dat y34))]
def oQ(A:dL)(B:Int)(C:X6):Option Bool:=l9 (xY A) λx=>l7 (G8 x) (l9 yl λx=>some x) (l9 (BC C) λx=>l7 (G8 x) (l9 yl λx=>some x) (l9 (lN A B C) λx=>l9 (zi A B C) λb=>l7 (seq x.1 b.1) (l7 (C9 x.2 b.2) (l9 yl λx=>some x) (some false)) (some false)))
def q3:FQ:=⟨ps3,tR 6 bW,mE 45 [(4,s4),(5,s5),(6,s6),(7,s7),(8,s8)],H9⟩
def s3:FSpec:=ae q3 λx=>oQ x.1 x.2.1 x.2.2
abbrev b6Y:Ty:=y27
end
end Gt
