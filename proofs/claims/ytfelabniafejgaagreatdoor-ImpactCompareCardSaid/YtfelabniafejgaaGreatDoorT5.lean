import Derived.Test.YtfelabniafejgaaGreatDoorT4
set_option linter.all false
namespace Go.GP
open Gt
set_option maxRecDepth 100000
section
def Y6(n:Int):Int:=if n<0 then -n else n
def upS(q r d:Int)(neg:Bool)(mode:Int):Bool:=l7 (x8 r 0) false (l7 (x8 mode 0) neg (l7 (x8 mode 1) (D7 neg) (l7 (x8 mode 3) true (l7 (x8 mode 4) (J5 (d -r) r) (l7 (x8 mode 5) (l7 (D9 (d -r) r) true (l7 (x8 r (d -r)) (x8 (dM q 2) 1) false)) false)))))
def q1(q:Int)(u:Bool):Int:=l7 u (q+1) q
def sg(q:Int)(neg:Bool):Int:=l7 neg (-q) q
def oG(m:Int):Bool:=l7 (J5 0 m) (J5 m 5) false
theorem Dl(m:Int):rQ m=some (oG m):=by unfold rQ oG;cases J5 0 m<;>rfl
theorem SC(m:Int):DW m=some (oG m):=Dl m
theorem VC(m:Int):CE m=some (oG m):=Dl m
def kN(n m:Int):Bool:=l7 (D9 m n) true (D9 n (-m))
variable {m:Int}
theorem wK(n:Int)(h0:0<=m)(h:m<=9000000000000000000):nU n m=some (kN n m):=by unfold nU kN;rw[P8 O5,show(0:Int) -m=-m by omega];cases D9 m n<;>rfl
theorem ui(n:Int)(h0:0<=m)(h:m<=9000000000000000000):jb n m=some (kN n m):=wK n h0 h
theorem zK(n:Int)(h0:0<=m)(h:m<=9000000000000000000):xX n m=some (kN n m):=wK n h0 h
theorem xR(n:Int)(h0:0<=m)(h:m<=9000000000000000000):jK n m=some (kN n m):=wK n h0 h
variable {n:Int}
theorem pX(h:kN n m=false):-m<=n/\n<=m:=by
 unfold kN at h;cases h1:D9 m n<;>rw[h1]at h
 .rw[iI]at h1;simp only[o6]at h;rw[iI]at h;omega
 .cases h
theorem a4g(h:kN n m=true):n< -m\/m<n:=by
 unfold kN at h;cases h1:D9 m n<;>rw[h1]at h
 .simp only[o6]at h;rw[kz]at h;omega
 .rw[kz]at h1;omega
theorem QX :kN n m=true↔n< -m\/m<n:=by
 constructor
 .exact a4g
 .intro h;cases hq:kN n m
  .have:=pX hq;omega
  .rfl
theorem OH(h:-m<=n/\n<=m):kN n m=false:=by
 cases hq:kN n m
 .rfl
 .have:=a4g hq;omega
theorem Ce(h:-9000000000000000000<=n)(h2:n<=9000000000000000000):mM n=some (Y6 n):=by
 unfold mM Y6;by_cases h0:n<0
 .rw[S9 h0,if_pos h0,o7];congr 1;show IntKind.wrap .u64 (0 -IntKind.wrap .u64 n)=_;rw[zZ,zZ];omega
 .rw[J9 l9,if_neg h0,o6,show wrap .u64 n=n from EZ l9 l9]
theorem Pm(h:-9000000000000000000<=n)(h2:n<=9000000000000000000):yO n=some (Y6 n):=by
 unfold yO Y6;by_cases h0:n<0
 .rw[S9 h0,if_pos h0,P8 O5];simp
 .rw[J9 l9,if_neg h0];rfl
variable {q:Int}
theorem X_(neg:Bool)(h0:0<=q)(h:q<=9000000000000000000):Ci q neg=some (sg q neg):=by unfold Ci sg;rw[show wrap .i64 q=q from mi O5,P8 O5,show(0:Int) -q=-q by omega];cases neg<;>rfl
theorem VI{q r d:Int}(neg:Bool)(mode:Int)(hq:0<=q)(hq2:q<=9000000000000000000)(hr:0<=r)(hrd:r<d)(hd:d<=9000000000000000000):oH q r d neg mode=some (q1 q (upS q r d neg mode)):=by
 unfold oH upS q1;rw[show x9 .u64 q 1=q+1 from EZ l9 l9,show I7 .u64 d r=d -r from EZ l9 l9];cases x8 r 0
 case true=>rfl
 cases x8 mode 0
 case true=>cases neg<;>rfl
 cases x8 mode 1
 case true=>cases neg<;>rfl
 cases x8 mode 3
 case true=>rfl
 cases x8 mode 4
 case true=>cases J5 (d -r) r<;>rfl
 cases x8 mode 5
 .rfl
 cases D9 (d -r) r
 case true=>rfl
 cases x8 r (d -r)
 .rfl
 cases x8 (dM q 2) 1<;>rfl
theorem a3u{q r d:Int}(neg:Bool)(mode:Int)(hr:0<=r)(hrd:r<d)(hd:d<=9000000000000000000):Eh q r d neg mode=some (upS q r d neg mode):=by
 unfold Eh upS;rw[show I7 .u64 d r=d -r from EZ l9 l9];cases x8 r 0
 case true=>rfl
 cases x8 mode 0
 case true=>rfl
 cases x8 mode 1
 case true=>rfl
 cases x8 mode 3
 case true=>rfl
 cases x8 mode 4
 case true=>rfl
 cases x8 mode 5
 .rfl
 cases D9 (d -r) r
 case true=>rfl
 cases x8 r (d -r)<;>rfl
theorem EF{q r d:Int}(neg:Bool)(mode:Int)(hq:0<=q)(hq2:q<=9000000000000000000)(hr:0<=r)(hrd:r<d)(hd:d<=9000000000000000000):lN q r d neg mode=some (sg (q1 q (upS q r d neg mode)) neg):=by
 unfold lN upS q1 sg;rw[X4 (show kL (q+1) by unfold kL;omega),P8 (show kL (d -r) by unfold kL;omega),P8 (show kL (0 -(q+1)) by unfold kL;omega),P8 (show kL (0 -q) by unfold kL;omega),show(0:Int) -(q+1)=-(q+1) by omega,show(0:Int) -q=-q by omega];by_cases hz:r=0
 .rw[O8 hz,J9 (show r<=0 by omega),Y4 (show r<d -r by omega),J9 (show r<=d -r by omega),J6 (show r≠d -r by omega)];cases x8 mode 0<;>cases x8 mode 1<;>cases x8 mode 3<;>cases x8 mode 4<;>cases x8 mode 5<;>cases neg<;>rfl
 .rw[J6 hz,S9 (show 0<r by omega)];cases x8 mode 0
  case true=>cases neg<;>rfl
  cases x8 mode 1
  case true=>cases neg<;>rfl
  cases x8 mode 3
  case true=>cases neg<;>rfl
  cases x8 mode 4
  case true=>cases J5 (d -r) r<;>cases neg<;>rfl
  cases x8 mode 5
  .cases neg<;>rfl
  cases D9 (d -r) r
  case true=>cases neg<;>rfl
  cases x8 r (d -r)
  .cases neg<;>rfl
  cases x8 (dM q 2) 1<;>cases neg<;>rfl
theorem lD(n:Int):0<=Y6 n:=by unfold Y6;split<;>omega
theorem yH(h:-m<=n/\n<=m):Y6 n<=m:=by unfold Y6;split<;>omega
theorem Nr(h:n≠0):0<Y6 n:=by unfold Y6;split<;>omega
def rnd(n d mode:Int):Int:=sg (q1 (Y6 n / Y6 d) (upS (Y6 n / Y6 d) (Y6 n % Y6 d) (Y6 d) (D7 (jl (D9 n 0) (D9 d 0))) mode)) (D7 (jl (D9 n 0) (D9 d 0)))
def a4o(n d mode:Int):Int×Int:=l7 (oG mode) (l7 (x8 d 0) (0,12) (l7 (kN n 4611686018427387904) (0,3) (l7 (kN d 4611686018427387904) (0,3) (rnd n d mode,0)))) (0,1)
theorem Yp(q:Int)(u:Bool):q<=q1 q u/\q1 q u<=q+1:=by unfold q1;cases u<;>simp only[o7,o6]<;>omega
theorem Iy(n d mode:Int):jA n d mode=some (a4o n d mode):=by
 unfold jA a4o;rw[Dl,o8];cases oG mode
 .rfl
 simp only[D8,o6,o7];cases hd:x8 d 0
 case true=>rfl
 rw[BP]at hd;simp only[o6];rw[wK n l9 l9,o8];cases h1:kN n 4611686018427387904
 case true=>rfl
 simp only[o6];rw[wK d l9 l9,o8];cases h2:kN d 4611686018427387904
 case true=>rfl
 have b1:=pX h1;have b2:=pX h2;have a1:=lD n;have a2:=yH b1;have a3:=Nr hd;have a4:=yH b2;have e0:=V5 a1 (show 0<=Y6 d by omega);have e1:=dI (Y6 d) a1;have e2:=O9 (Y6 n) (show Y6 d≠0 by omega);have e3:=L6 (Y6 n) a3;have q:=Yp (Y6 n / Y6 d) (upS (Y6 n / Y6 d) (Y6 n % Y6 d) (Y6 d) (D7 (jl (D9 n 0) (D9 d 0))) mode);simp only[o6];rw[Ce l9 l9,o8,Ce l9 l9,o8,OW a1 l9 a3,o8,Bj a1 a3,o8,VI _ _ e0 l9 e2 e3 l9,o8,X_ _ l9 l9];rfl
variable {a:Int}{b:Int}
theorem wO(ha:0<=a)(ha' :a<=9000000000000000000)(hb:0<b):pO .i64 a b=some (a / b):=by unfold pO;rw[if_neg l9,jQ ha];have h1:=V5 ha (show 0<=b by omega);have h2:=dI b ha;rw[mi O5]
theorem a0V(n d mode:Int):xY n d mode=some (a4o n d mode):=by
 unfold xY a4o;rw[SC,o8];cases oG mode
 .rfl
 simp only[D8,o6,o7];cases hd:x8 d 0
 case true=>rfl
 rw[BP]at hd;simp only[o6];rw[ui n l9 l9,o8];cases h1:kN n 4611686018427387904
 case true=>rfl
 simp only[o6];rw[ui d l9 l9,o8];cases h2:kN d 4611686018427387904
 case true=>rfl
 have b1:=pX h1;have b2:=pX h2;have a1:=lD n;have a2:=yH b1;have a3:=Nr hd;have a4:=yH b2;have e0:=V5 a1 (show 0<=Y6 d by omega);have e1:=dI (Y6 d) a1;have e2:=O9 (Y6 n) (show Y6 d≠0 by omega);have e3:=L6 (Y6 n) a3;simp only[o6];rw[Pm l9 l9,o8,Pm l9 l9,o8,wO a1 l9 a3,o8,Bj a1 a3,o8,EF _ _ e0 l9 e2 e3 l9];rfl
def toS(c u mode:Int):Int×Int:=l7 (oG mode) (l7 (D9 u 1) (0,12) (l7 (kN c 1000000000000000) (0,3) (l7 (D9 1000000000000000 u) (0,3) (l7 (kN (X9 .i64 (rnd c u mode) u) 1000000000000000) (0,3) (X9 .i64 (rnd c u mode) u,0))))) (0,1)
theorem a5n(c u mode:Int):zJ c u mode=some (toS c u mode):=by
 unfold zJ toS;rw[Dl,o8];cases hm:oG mode
 .rfl
 simp only[D8,o6,o7];cases hu:D9 u 1
 case true=>rfl
 rw[iI]at hu;simp only[o6];rw[wK c l9 l9,o8];cases h1:kN c 1000000000000000
 case true=>rfl
 have b1:=pX h1;simp only[o6];cases h2:D9 1000000000000000 u
 case true=>rfl
 rw[iI]at h2;simp only[o6];have n1:kN c 4611686018427387904=false:=OH l9;have n2:kN u 4611686018427387904=false:=OH l9;rw[Iy,o8];unfold a4o;rw[hm,J6 (show u≠0 by omega),n1,n2];simp only[o7,o6,O8 (rfl:(0:Int)=0),D8];rw[wK _ l9 l9,o8];cases kN (X9 .i64 (rnd c u mode) u) 1000000000000000<;>rfl
theorem a3j(c u mode:Int):zM c u mode=some (toS c u mode):=by
 unfold zM toS;rw[SC,o8];cases hm:oG mode
 .rfl
 simp only[D8,o6,o7];cases hu:D9 u 1
 case true=>rfl
 rw[iI]at hu;simp only[o6];rw[ui c l9 l9,o8];cases h1:kN c 1000000000000000
 case true=>rfl
 have b1:=pX h1;simp only[o6];cases h2:D9 1000000000000000 u
 case true=>rfl
 rw[iI]at h2;simp only[o6];have a1:=lD c;have a2:=yH b1;have hu' :Y6 u=u:=by unfold Y6;rw[if_neg l9]
 have e0:=V5 a1 (show 0<=u by omega);have e1:=dI u a1;have e2:=O9 (Y6 c) (show u≠0 by omega);have e3:=L6 (Y6 c) (show 0<u by omega);rw[Pm l9 l9,o8,wO a1 l9 l9,o8,Bj a1 l9,o8,EF _ _ e0 l9 e2 e3 l9,o8];have hr:sg (q1 (Y6 c / u) (upS (Y6 c / u) (Y6 c % u) u (D9 c 0) mode)) (D9 c 0)=rnd c u mode:=by unfold rnd;rw[hu',show D7 (jl (D9 c 0) (D9 u 0))=D9 c 0 by rw[J9 (show(0:Int)<=u by omega)];cases D9 c 0<;>rfl]
 rw[hr,ui _ l9 l9,o8];cases kN (X9 .i64 (rnd c u mode) u) 1000000000000000<;>rfl
def mdS(c num den mode:Int):Int×Int:=l7 (oG mode) (l7 (x8 den 0) (0,12) (l7 (kN c 1000000000000000) (0,3) (l7 (kN num 1000000000) (0,3) (l7 (kN den 1000000000) (0,3)
 (l7 (D9 1000000000000000 (q1 (Y6 c*Y6 num / Y6 den) (upS (Y6 c*Y6 num / Y6 den) (Y6 c*Y6 num % Y6 den) (Y6 den) (D7 (jl (D7 (jl (D9 c 0) (D9 num 0))) (D9 den 0))) mode))) (0,3)
  (sg (q1 (Y6 c*Y6 num / Y6 den) (upS (Y6 c*Y6 num / Y6 den) (Y6 c*Y6 num % Y6 den) (Y6 den) (D7 (jl (D7 (jl (D9 c 0) (D9 num 0))) (D9 den 0))) mode)) (D7 (jl (D7 (jl (D9 c 0) (D9 num 0))) (D9 den 0))),0)))))) (0,1)
theorem RX(a0:0<=a)(a1:a<18446744073709551616)(b0:0<=b)(b1:b<18446744073709551616):uA a b=some (a*b / 18446744073709551616,a*b % 18446744073709551616):=by unfold uA;rw[if_pos ⟨a0,a1,b0,b1⟩]
theorem a8s(c num den mode:Int):FD c num den mode=some (mdS c num den mode):=by
 unfold FD mdS;rw[Dl,o8];cases oG mode
 .rfl
 simp only[D8,o6,o7];cases hd:x8 den 0
 case true=>rfl
 rw[BP]at hd;simp only[o6];rw[wK c l9 l9,o8];cases h1:kN c 1000000000000000
 case true=>rfl
 rw[wK num l9 l9];cases h2:kN num 1000000000
 case true=>rfl
 rw[wK den l9 l9];cases h3:kN den 1000000000
 case true=>rfl
 have b1:=pX h1;have b2:=pX h2;have b3:=pX h3;have a1:=lD c;have a2:=yH b1;have x1:=lD num;have x2:=yH b2;have d1:=Nr hd;have d2:=yH b3;simp only[o6,o8,J7];rw[Ce l9 l9,o8,Ce l9 l9,o8,RX a1 l9 x1 l9,o8,Ce l9 l9,o8];have hA:0<=Y6 c*Y6 num:=P6 a1 x1;generalize Y6 c*Y6 num=A at*;generalize Y6 den=b at*;have hre:A / 18446744073709551616*18446744073709551616+A % 18446744073709551616=A:=l9;have q:=Yp (A / b) (upS (A / b) (A % b) b (D7 (jl (D7 (jl (D9 c 0) (D9 num 0))) (D9 den 0))) mode);have hdm:=U4 A b;have e2:=O9 A (show b≠0 by omega);have e3:=L6 A d1;have e0:=V5 hA (show 0<=b by omega);by_cases hh:b<=A / 18446744073709551616
 .have hge:18446744073709551616<=A / b:=qH d1 l9;rw[X5 hh,S9 (show(1000000000000000:Int)<q1 (A / b) (upS (A / b) (A % b) b (D7 (jl (D7 (jl (D9 c 0) (D9 num 0))) (D9 den 0))) mode) by omega)];rfl
 .rw[Y4 l9,o6,Xm l9 l9 l9 l9 l9,o8,hre];simp only;by_cases hM:1000000000000000<A / b
  .rw[S9 hM,S9 (show(1000000000000000:Int)<q1 (A / b) (upS (A / b) (A % b) b (D7 (jl (D7 (jl (D9 c 0) (D9 num 0))) (D9 den 0))) mode) by omega)];rfl
  .rw[J9 l9,o6,VI _ _ e0 l9 e2 e3 l9,o8];cases hq:D9 1000000000000000 (q1 (A / b) (upS (A / b) (A % b) b (D7 (jl (D7 (jl (D9 c 0) (D9 num 0))) (D9 den 0))) mode))
   .rw[iI]at hq;rw[o6,X_ _ l9 l9];rfl
   .rfl
theorem a9T(h:0<=q)(neg:Bool)(hm:0<=m):kN (sg q neg) m=D9 m q:=by rw[fV,QX,kz];unfold sg;cases neg<;>simp only[o7,o6]<;>omega
theorem a5f(c num den mode:Int):FK c num den mode=some (mdS c num den mode):=by
 unfold FK mdS;rw[SC,o8];cases oG mode
 .rfl
 simp only[D8,o6,o7];cases hd:x8 den 0
 case true=>rfl
 rw[BP]at hd;simp only[o6];rw[ui c l9 l9,o8];cases h1:kN c 1000000000000000
 case true=>rfl
 rw[ui num l9 l9];cases h2:kN num 1000000000
 case true=>rfl
 rw[ui den l9 l9];cases h3:kN den 1000000000
 case true=>rfl
 have b1:=pX h1;have b2:=pX h2;have b3:=pX h3;have a1:=lD c;have a2:=yH b1;have x1:=lD num;have x2:=yH b2;have d1:=Nr hd;have d2:=yH b3;simp only[o6,o8,J7];rw[Pm l9 l9,o8,Pm l9 l9,o8,Pm l9 l9,o8];generalize D7 (jl (D7 (jl (D9 c 0) (D9 num 0))) (D9 den 0))=neg;generalize Y6 c=a at*;generalize Y6 num=x at*;generalize Y6 den=b at*;have hdm:=U4 a b;have f0:=V5 a1 (show 0<=b by omega);have f1:=O9 a (show b≠0 by omega);have f2:=L6 a d1;have m1:0<=a % b*x:=P6 f1 x1;have m2:a % b*x<=1000000000*1000000000:=jV l9 x2 x1 l9;have m3:0<=a / b*x:=P6 f0 x1;have hA:a*x=a / b*x*b+a % b*x:=by
  calc a*x=(a / b*b+a % b)*x:=by rw[hdm]
   _=_:=by rw[gU,je]
 have hQ:a*x / b=a / b*x+a % b*x / b:=by rw[hA,Int.add_comm,ai _ _ l9,Int.add_comm]
 have hR:a*x % b=a % b*x % b:=by rw[hA,Int.add_comm,aX]
 have g0:=V5 m1 (show 0<=b by omega);have g1:=dI b m1;have g2:=O9 (a % b*x) (show b≠0 by omega);have g3:=L6 (a % b*x) d1;have tail:a / b*x<=1000000000000000->(o5 (zn a b) λ(x_5:Int)=>o5 (some (a / b)) λ(x_8:Int)=>o5 (pO .i64 (X9 .i64 x_5 x) b) λ(x_6:Int)=>o5 (zn (X9 .i64 x_5 x) b) λ(x_7:Int)=>
   o5 (lN (x9 .i64 (X9 .i64 x_8 x) x_6) x_7 b neg mode) λ(x_9:Int)=>o5 (jb x_9 1000000000000000) λ(x_8:Bool)=>l7 x_8 (some ((0:Int),(3:Int))) (some (x_9,0)))=
   some (l7 (D9 1000000000000000 (q1 (a*x / b) (upS (a*x / b) (a*x % b) b neg mode))) (0,3) (sg (q1 (a*x / b) (upS (a*x / b) (a*x % b) b neg mode)) neg,0)):=by
  intro hle;have q:=Yp (a / b*x+a % b*x / b) (upS (a / b*x+a % b*x / b) (a % b*x % b) b neg mode);rw[Bj a1 d1,o8,o8,lQ (show kL (a % b*x) by unfold kL;omega),wO m1 l9 d1,o8,Bj m1 d1,o8,lQ (show kL (a / b*x) by unfold kL;omega),X4 (show kL (a / b*x+a % b*x / b) by unfold kL;omega),
   EF _ _ l9 l9 g2 g3 l9,o8,ui _ l9 l9,o8,a9T l9 _ l9,hQ,hR]
  cases D9 1000000000000000 (q1 (a / b*x+a % b*x / b) (upS (a / b*x+a % b*x / b) (a % b*x % b) b neg mode))<;>rfl
 by_cases hx:0<x
 .rw[S9 hx,o7,wO a1 l9 d1,o8,wO l9 l9 hx,o8];have hMx:=U4 1000000000000000 x;have hMr:=L6 1000000000000000 hx;have hMr0:=O9 1000000000000000 (show x≠0 by omega);by_cases hc:1000000000000000 / x<a / b
  .have:=N9 (show 1000000000000000 / x+1<=a / b by omega) x1;rw[gU,eH]at this;have q:=Yp (a*x / b) (upS (a*x / b) (a*x % b) b neg mode);rw[S9 hc,S9 (show(1000000000000000:Int)<q1 (a*x / b) (upS (a*x / b) (a*x % b) b neg mode) by omega)];rfl
  .have:=N9 (show a / b<=1000000000000000 / x by omega) x1;rw[J9 l9,o6];exact tail l9
 .have:x=0:=l9;rw[J9 l9,o6,wO a1 l9 d1];exact tail (by subst this;simp)
theorem a9M(c r mode:Int):Hl c r mode=some (mdS c r 1000000 mode):=by unfold Hl;rw[a8s];rfl
theorem a8P(c r mode:Int):EG c r mode=some (mdS c r 1000000 mode):=by unfold EG;rw[a5f];rfl
variable {d:Int}
theorem a2m(h1:-9000000000000000000<=n)(h2:n<=9000000000000000000)(hd:0<d)(hd2:d<=9000000000000000000):xZ n d=some (n / d,n % d):=by
 unfold xZ pO zn;rw[if_neg l9,if_neg l9,o8,o8];by_cases h0:0<=n
 .have e0:=V5 h0 (show 0<=d by omega);have e1:=dI d h0;have e2:=O9 n (show d≠0 by omega);rw[jQ h0,dX h0,mi O5,J9 e2];rfl
 .obtain⟨m,hm⟩:∃m,m=-n:=⟨_,rfl⟩;have hn:n=-m:=l9;subst hn;have e0:=V5 (show 0<=m by omega) (show 0<=d by omega);have e1:=dI d (show 0<=m by omega);have e2:=O9 m (show d≠0 by omega);have e3:=L6 m hd;have hdm:=U4 m d;rw[Int.neg_tdiv,Int.neg_tmod,jQ l9,dX l9,mi O5];by_cases hz:m % d=0
  .rw[hz,show -(0:Int)=0 from rfl,J9 l9,o6];have hme:-m=0+(-(m / d))*d:=by rw[jI];omega
   have q1:-m / d=-(m / d):=by rw[hme,ai _ _ l9];simp
   have q2:-m % d=0:=by rw[hme,aX];simp
   rw[q1,q2]
  .rw[S9 l9,o7,P8 O5,X4 O5];have hme:-m=(d -m % d)+(-(m / d) -1)*d:=by rw[lF,jI,eH];omega
   have q1:-m / d=-(m / d) -1:=by rw[hme,ai _ _ l9,lL l9 l9];omega
   have q2:-m % d=d -m % d:=by rw[hme,aX,Int.emod_eq_of_lt l9 l9]
   rw[q1,q2,show -(m % d)+d=d -m % d by omega]
theorem IL(h:oG m=true):m=0\/m=1\/m=2\/m=3\/m=4\/m=5:=by
 unfold oG at h;cases h0:J5 0 m<;>rw[h0]at h
 .cases h
 .simp only[o7]at h;rw[qc]at h0 h;omega
variable {mode:Int}
theorem IY(h1:-9000000000000000000<=n / d)(h2:n / d<=9000000000000000000)(hd:0<d)(hd2:d<=9000000000000000000)(hm:oG mode=true):bH (n / d) (n % d) d mode=some (rnd n d mode):=by
 have hdm:=U4 n d;have f0:=O9 n (show d≠0 by omega);have f1:=L6 n hd;have hid:Y6 d=d:=by unfold Y6;rw[if_neg l9]
 have hneg:D7 (jl (D9 n 0) (D9 d 0))=D9 n 0:=by rw[J9 (show(0:Int)<=d by omega)];cases D9 n 0<;>rfl
 unfold rnd;rw[hid,hneg];have R0:∀F R:Int,bH F R d 0=l7 (x8 R 0) (some F) (some F):=λF R=>rfl;have R1:∀F R:Int,bH F R d 1=l7 (x8 R 0) (some F) (some (x9 .i64 F 1)):=λF R=>rfl;have R2:∀F R:Int,bH F R d 2=l7 (x8 R 0) (some F) (o5 (l7 (D9 F 0) (some true) (some false)) λx=>l7 x (some (x9 .i64 F 1)) (some F)):=λF R=>rfl;have R3:∀F R:Int,bH F R d 3=l7 (x8 R 0) (some F) (o5 (some (J5 0 F)) λx=>l7 x (some (x9 .i64 F 1)) (some F)):=λF R=>rfl;have R4:∀F R:Int,bH F R d 4=l7 (x8 R 0) (some F) (l7 (x8 R (I7 .i64 d R)) (l7 (J5 0 F) (some (x9 .i64 F 1)) (some F)) (l7 (D9 (I7 .i64 d R) R) (some (x9 .i64 F 1)) (some F))):=λF R=>rfl;have R5:∀F R:Int,bH F R d 5=l7 (x8 R 0) (some F) (l7 (x8 R (I7 .i64 d R)) (l7 (D7 (x8 (dM F 2) 0)) (some (x9 .i64 F 1)) (some F)) (l7 (D9 (I7 .i64 d R) R) (some (x9 .i64 F 1)) (some F))):=λF R=>rfl;have u0:∀q r:Int,∀b,upS q r d b 0=l7 (x8 r 0) false b:=λq r b=>rfl;have u1:∀q r:Int,∀b,upS q r d b 1=l7 (x8 r 0) false (D7 b):=λq r b=>rfl;have u2:∀q r:Int,∀b,upS q r d b 2=l7 (x8 r 0) false false:=λq r b=>rfl;have u3:∀q r:Int,∀b,upS q r d b 3=l7 (x8 r 0) false true:=λq r b=>rfl;have u4:∀q r:Int,∀b,upS q r d b 4=l7 (x8 r 0) false (J5 (d -r) r):=λq r b=>rfl;have u5:∀q r:Int,∀b,upS q r d b 5=l7 (x8 r 0) false (l7 (D9 (d -r) r) true (l7 (x8 r (d -r)) (x8 (dM q 2) 1) false)):=λq r b=>rfl;by_cases h0:0<=n
 .have e0:=V5 h0 (show 0<=d by omega);have e1:=dI d h0;rw[show Y6 n=n by unfold Y6;rw[if_neg l9],J9 h0];have hi:x9 .i64 (n / d) 1=n / d+1:=X4 O5;have hs:I7 .i64 d (n % d)=d -n % d:=P8 O5;have hir:dM (n / d) 2=(n / d) % 2:=zG e0;generalize n / d=F at*;generalize n % d=R at*;rcases IL hm with rfl|rfl|rfl|rfl|rfl|rfl
  .rw[R0,u0];cases x8 R 0<;>rfl
  .rw[R1,u1,hi];cases x8 R 0<;>rfl
  .rw[R2,u2,hi,J9 e0];cases x8 R 0<;>rfl
  .rw[R3,u3,hi,X5 e0];cases x8 R 0<;>rfl
  .rw[R4,u4,hi,hs,X5 e0];cases x8 R 0
   case true=>rfl
   by_cases ht:R=d -R
   .rw[O8 ht,X5 (show d -R<=R by omega)];rfl
   .rw[J6 ht];by_cases hl:d -R<R
    .rw[S9 hl,X5 (show d -R<=R by omega)];rfl
    .rw[J9 (show R<=d -R by omega),Y4 (show R<d -R by omega)];rfl
  .rw[R5,u5,hi,hs,hir];cases x8 R 0
   case true=>rfl
   by_cases ht:R=d -R
   .rw[O8 ht,J9 (show R<=d -R by omega)];by_cases hp:F % 2=0
    .rw[O8 hp,J6 (show F % 2≠1 by omega)];rfl
    .rw[J6 hp,O8 (show F % 2=1 by omega)];rfl
   .rw[J6 ht];by_cases hl:d -R<R
    .rw[S9 hl];rfl
    .rw[J9 (show R<=d -R by omega)];rfl
 .obtain⟨m,hmm⟩:∃m,m=-n:=⟨_,rfl⟩;have e0:=V5 (show 0<=m by omega) (show 0<=d by omega);have e1:=dI d (show 0<=m by omega);have e2:=O9 m (show d≠0 by omega);have e3:=L6 m hd;have hdm2:=U4 m d;rw[show Y6 n=m by unfold Y6;rw[if_pos l9];omega,S9 l9];by_cases hz:m % d=0
  .have hne:n=0+(-(m / d))*d:=by rw[jI];omega
   have q1:n / d=-(m / d):=by rw[hne,ai _ _ l9];simp
   have q2:n % d=0:=by rw[hne,aX];simp
   rw[q1,q2,hz];rcases IL hm with rfl|rfl|rfl|rfl|rfl|rfl<;>rfl
  .have hne:n=(d -m % d)+(-(m / d) -1)*d:=by rw[lF,jI,eH];omega
   have q1:n / d=-(m / d) -1:=by rw[hne,ai _ _ l9,lL l9 l9];omega
   have q2:n % d=d -m % d:=by rw[hne,aX,Int.emod_eq_of_lt l9 l9]
   rw[q1]at h1 h2;rw[q1,q2];generalize m / d=q at*;generalize m % d=r at*;have hi:x9 .i64 (-q -1) 1=-q:=by rw[X4 O5];omega
   have hs:I7 .i64 d (d -r)=r:=by rw[P8 O5];omega
   have hF:∀k:Int,Go.GP.q1 q false=q/\Go.GP.q1 q true=q+1:=λk=>⟨rfl,rfl⟩;have sg1:sg (Go.GP.q1 q true) true=-q -1:=by show -(q+1)=-q -1;omega
   have sg0:sg (Go.GP.q1 q false) true=-q:=rfl;have hr0:x8 (d -r) 0=false:=J6 l9;have hr1:x8 r 0=false:=J6 hz;rcases IL hm with rfl|rfl|rfl|rfl|rfl|rfl
   .rw[R0,u0,hr0,hr1,o6,o6,sg1]
   .rw[R1,u1,hi,hr0,hr1,o6,o6,D8,sg0]
   .rw[R2,u2,hi,hr0,hr1,o6,o6,sg0,S9 l9];rfl
   .rw[R3,u3,hi,hr0,hr1,o6,o6,sg1,Y4 l9];rfl
   .rw[R4,u4,hi,hs,hr0,hr1,o6,o6,Y4 (show -q -1<0 by omega)];by_cases ht:d -r=r
    .rw[O8 ht,X5 (show d -r<=r by omega),sg1];rfl
    .rw[J6 ht];by_cases hl:r<d -r
     .rw[S9 hl,Y4 hl,sg0];rfl
     .rw[J9 (show d -r<=r by omega),X5 (show d -r<=r by omega),sg1];rfl
   .rw[R5,u5,hi,hs,hr0,hr1,o6,o6];by_cases ht:d -r=r
    .rw[O8 ht,J9 (show r<=d -r by omega),O8 ht.symm];have hodd:dM (-q -1) 2=-((q+1) % 2):=by
      unfold dM;rw[show -q -1=-(q+1) by omega,Int.neg_tmod,dX l9]
     have hir:dM q 2=q % 2:=zG e0;rw[hodd,hir];simp only[o7,o6];by_cases hp:q % 2=1
     .rw[O8 (show -((q+1) % 2)=0 by omega),O8 hp,sg1];rfl
     .rw[J6 (show -((q+1) % 2)≠0 by omega),J6 hp,sg0];rfl
    .rw[J6 ht,J6 (show r≠d -r by omega)];by_cases hl:r<d -r
     .rw[S9 hl,J9 (show r<=d -r by omega)];simp only[o7,o6];rw[sg0]
     .rw[J9 (show d -r<=r by omega),S9 (show d -r<r by omega)];simp only[o7,o6];rw[sg1]
def a7u(a b mode:Int):Int×Int:=l7 (oG mode) (l7 (kN a 1000000000) (0,3) (l7 (kN b 1000000000) (0,3) (l7 (kN (rnd (a*b) 1000000 mode) 1000000000) (0,3) (rnd (a*b) 1000000 mode,0)))) (0,1)
theorem a7m{a b A B:Int}(h1:-A<=a/\a<=A)(h2:-B<=b/\b<=B):-(A*B)<=a*b/\a*b<=A*B:=by
 have hA:0<=A:=l9;have hB:0<=B:=l9;have k1:a*b<=A*B/\-(A*B)<=a*b:=by
  rcases PM a 0 with ha|ha
  .have e:a*b=-((-a)*b):=by rw[jI];omega
   rcases PM b 0 with hb|hb
   .have e2:a*b=(-a)*(-b):=by rw[Int.neg_mul_neg]
    have:=jV (show -a<=A by omega) (show -b<=B by omega) l9 hA;have:=P6 (show 0<=-a by omega) (show 0<=-b by omega);have:=P6 hA hB;omega
   .have:=jV (show -a<=A by omega) h2.2 hb hA;have:=P6 (show 0<=-a by omega) hb;have:=P6 hA hB;omega
  .rcases PM b 0 with hb|hb
   .have e:a*b=-(a*(-b)):=by rw[Int.mul_neg];omega
    have:=jV h1.2 (show -b<=B by omega) l9 hA;have:=P6 ha (show 0<=-b by omega);have:=P6 hA hB;omega
   .have:=jV h1.2 h2.2 hb hA;have:=P6 ha hb;have:=P6 hA hB;omega
 exact⟨k1.2,k1.1⟩
theorem b5t(a b mode:Int):NP a b mode=some (a7u a b mode):=by
 unfold NP a7u;rw[VC,o8];cases hm:oG mode
 .rfl
 simp only[D8,o6,o7];rw[zK a l9 l9,o8];cases h1:kN a 1000000000
 case true=>rfl
 simp only[o6];rw[zK b l9 l9,o8];cases h2:kN b 1000000000
 case true=>rfl
 simp only[o6];have pb:=a7m (pX h1) (pX h2);rw[lQ O5,Iy,o8];unfold a4o;rw[hm,J6 (show(1000000:Int)≠0 by decide),OH l9,OH l9];simp only[o7,o6,O8 (rfl:(0:Int)=0),D8];rw[zK _ l9 l9,o8];cases kN (rnd (a*b) 1000000 mode) 1000000000<;>rfl
theorem a2I{A B:Option (PUnit⊕(Int×Int))} :l7 (D9 m 0) A (l7 (D9 5 m) A B)=l7 (oG m) B A:=by unfold oG;rw[nP m 0,nP 5 m];cases J5 0 m<;>cases J5 m 5<;>rfl
theorem b2d(a b mode:Int):JZ a b mode=some (a7u a b mode):=by
 unfold JZ a7u;have hmode:∀A B:Option (Int×Int),l7 (D9 mode 0) A (l7 (D9 5 mode) A B)=l7 (oG mode) B A:=λA B=>by unfold oG;rw[nP mode 0,nP 5 mode];cases J5 0 mode<;>cases J5 mode 5<;>rfl
 rw[hmode];cases hm:oG mode
 .rfl
 simp only[o7];rw[xR a l9 l9,o8];cases h1:kN a 1000000000
 case true=>rfl
 simp only[o6];rw[xR b l9 l9,o8];cases h2:kN b 1000000000
 case true=>rfl
 simp only[o6];have pb:=a7m (pX h1) (pX h2);rw[lQ O5,a2m l9 l9 l9 l9,o8];simp only;rw[IY l9 l9 l9 l9 hm,o8,xR _ l9 l9,o8];cases kN (rnd (a*b) 1000000 mode) 1000000000<;>rfl
theorem a5m(mode:Int)(hd:0<d):n / d<=rnd n d mode/\rnd n d mode<=n / d+1:=by
 have hid:Y6 d=d:=by unfold Y6;rw[if_neg l9]
 have hneg:D7 (jl (D9 n 0) (D9 d 0))=D9 n 0:=by rw[J9 (show(0:Int)<=d by omega)];cases D9 n 0<;>rfl
 unfold rnd;rw[hid,hneg];by_cases h0:0<=n
 .rw[show Y6 n=n by unfold Y6;rw[if_neg l9],J9 h0];exact Yp _ _
 .obtain⟨m,hmm⟩:∃m,m=-n:=⟨_,rfl⟩;have e2:=O9 m (show d≠0 by omega);have e3:=L6 m hd;have hdm2:=U4 m d;rw[show Y6 n=m by unfold Y6;rw[if_pos l9];omega,S9 l9];have hq:=Yp (m / d) (upS (m / d) (m % d) d true mode);by_cases hz:m % d=0
  .have hne:n=0+(-(m / d))*d:=by rw[jI];omega
   have q1:n / d=-(m / d):=by rw[hne,ai _ _ l9];simp
   have hu:upS (m / d) (m % d) d true mode=false:=by unfold upS;rw[O8 hz];rfl
   rw[q1,hu];show -(m / d)<=-(m / d)/\-(m / d)<=-(m / d)+1;omega
  .have hne:n=(d -m % d)+(-(m / d) -1)*d:=by rw[lF,jI,eH];omega
   have q1:n / d=-(m / d) -1:=by rw[hne,ai _ _ l9,lL l9 l9];omega
   rw[q1];show -(m / d) -1<=-(Go.GP.q1 _ _)/\-(Go.GP.q1 _ _)<=_;omega
theorem b5u(n d mode:Int)(hd:d<0):rnd n d mode=rnd (-n) (-d) mode:=by
 have e1:Y6 (-n)=Y6 n:=by unfold Y6;split<;>split<;>omega
 have e2:Y6 (-d)=Y6 d:=by unfold Y6;rw[if_neg l9,if_pos hd]
 unfold rnd;rw[e1,e2,S9 hd,J9 (show 0<=-d by omega)];by_cases h0:n=0
 .subst h0;have hz:Y6 0=0:=rfl;rw[hz,Int.zero_ediv,Int.zero_emod];have hu:∀b,upS 0 0 (Y6 d) b mode=false:=λb=>rfl;rw[hu,hu];rfl
 .by_cases h1:n<0
  .rw[S9 h1,J9 (show 0<=-n by omega)];rfl
  .rw[J9 l9,S9 (show -n<0 by omega)];rfl
def b5k(num den mode:Int):Int×Int:=l7 (oG mode) (l7 (x8 den 0) (0,12) (l7 (kN num 1000000000000000) (0,3) (l7 (kN den 1000000000000000) (0,3) (l7 (kN (rnd (num*1000000) den mode) 1000000000) (0,3) (rnd (num*1000000) den mode,0))))) (0,1)
theorem Ry(h:-9000000000000000000<=n)(h2:n<=9000000000000000000):wrap .u64 (nR n (I7 .i64 0 n))=Y6 n:=by
 rw[P8 O5];unfold nR Y6;by_cases h0:n<0
 .rw[if_pos l9,if_pos h0,show(0:Int) -n=-n by omega];exact EZ l9 l9
 .rw[if_neg h0];by_cases hz:n=0
  .subst hz;rfl
  .rw[if_neg l9];exact EZ l9 l9
theorem a0v(num den mode:Int):xW num den mode=some (b5k num den mode):=by
 unfold xW b5k;rw[VC,o8];cases hm:oG mode
 .rfl
 simp only[D8,o6,o7];cases hd:x8 den 0
 case true=>rfl
 rw[BP]at hd;simp only[o6];rw[zK num l9 l9,o8];cases h1:kN num 1000000000000000
 case true=>rfl
 simp only[o6];rw[zK den l9 l9,o8];cases h2:kN den 1000000000000000
 case true=>rfl
 simp only[o6];have b1:=pX h1;have b2:=pX h2;have a1:=lD num;have a2:=yH b1;have d1:=Nr hd;have d2:=yH b2;rw[Ry l9 l9,Ry l9 l9,RX a1 l9 l9 l9,o8];have hN:Y6 (num*1000000)=Y6 num*1000000:=by unfold Y6;split<;>split<;>omega
 have hsgn:D9 (num*1000000) 0=D9 num 0:=by
  by_cases h:num<0
  .rw[S9 h,S9 l9]
  .rw[J9 l9,J9 l9]
 have hA:0<=Y6 num*1000000:=l9;have hrn:rnd (num*1000000) den mode=sg (q1 (Y6 num*1000000 / Y6 den) (upS (Y6 num*1000000 / Y6 den) (Y6 num*1000000 % Y6 den) (Y6 den) (D7 (jl (D9 num 0) (D9 den 0))) mode)) (D7 (jl (D9 num 0) (D9 den 0))):=by unfold rnd;rw[hN,hsgn]
 rw[hrn];have hA2:Y6 num*1000000<18446744073709551616*1000:=l9;generalize Y6 num*1000000=A at*;generalize Y6 den=b at*;generalize D7 (jl (D9 num 0) (D9 den 0))=neg at*;have hre:A / 18446744073709551616*18446744073709551616+A % 18446744073709551616=A:=l9;have q:=Yp (A / b) (upS (A / b) (A % b) b neg mode);have e0:=V5 hA (show 0<=b by omega);have e2:=O9 A (show b≠0 by omega);have e3:=L6 A d1;rw[a9T l9 _ l9];by_cases hh:b<=A / 18446744073709551616
 .have hge:18446744073709551616<=A / b:=qH d1 l9;rw[X5 hh,S9 (show(1000000000:Int)<q1 (A / b) (upS (A / b) (A % b) b neg mode) by omega)];rfl
 .rw[Y4 l9,o6,Xm l9 l9 l9 l9 l9,o8,hre];simp only;by_cases hM:1000000000<A / b
  .rw[S9 hM,S9 (show(1000000000:Int)<q1 (A / b) (upS (A / b) (A % b) b neg mode) by omega)];rfl
  .have w1:wrap .i64 (A / b)=A / b:=mi O5;have w2:x9 .i64 (A / b) 1=A / b+1:=X4 O5;have w3:I7 .i64 0 (A / b+1)=-(A / b+1):=by rw[P8 O5];omega
   have w4:I7 .i64 0 (A / b)=-(A / b):=by rw[P8 O5];omega
   rw[J9 l9,o6,a3u _ _ e2 e3 l9,o8,w1,w2,w3,w4];unfold Go.GP.q1 sg;cases upS (A / b) (A % b) b neg mode
   .simp only[o6];cases D9 1000000000 (A / b)<;>cases neg<;>rfl
   .simp only[o7];cases D9 1000000000 (A / b+1)<;>cases neg<;>rfl
theorem Yw(h1:-1000000000000000<=n)(h2:n<=1000000000000000)(hd:0<d)(hd2:d<=1000000000000000)(hm:oG mode=true):
  (o5 (xZ n d) λ(x:Int×Int)=>o5 (jK x.1 1001) λ(x_1:Bool)=>l7 x_1 (some ((0:Int),(3:Int))) (o5 (pO .i64 (X9 .i64 x.2 1000) d) λ(x_2:Int)=>o5 (zn (X9 .i64 x.2 1000) d) λ(x_3:Int)=>
   o5 (pO .i64 (X9 .i64 x_3 1000) d) λ(x_4:Int)=>o5 (zn (X9 .i64 x_3 1000) d) λ(x_5:Int)=>o5 (bH (x9 .i64 (x9 .i64 (X9 .i64 x.1 1000000) (X9 .i64 x_2 1000)) x_4) x_5 d mode) λ(x:Int)=>
    o5 (jK x 1000000000) λ(x_6:Bool)=>l7 x_6 (some (0,3)) (some (x,0))))=some (l7 (kN (rnd (n*1000000) d mode) 1000000000) (0,3) (rnd (n*1000000) d mode,0)):=by
 have hdm:=U4 n d;have r0:=O9 n (show d≠0 by omega);have r1:=L6 n hd;have hrb:=a5m (n:=n*1000000) mode hd;rw[a2m l9 l9 hd l9,o8];simp only;rw[xR _ l9 l9,o8];have hN:n*1000000=n % d*1000000+(n / d*1000000)*d:=by rw[je];omega
 have hF:n*1000000 / d=n % d*1000000 / d+n / d*1000000:=by rw[hN,ai _ _ l9]
 have hR:n*1000000 % d=n % d*1000000 % d:=by rw[hN,aX]
 have s0:0<=n % d*1000000 / d:=V5 l9 l9;have s1:n % d*1000000 / d<1000000:=lS hd l9;cases hb:kN (n / d) 1001
 case true=>have hbb:=a4g hb;have:kN (rnd (n*1000000) d mode) 1000000000=true:=QX.2 l9;rw[this];rfl
 have bb:=pX hb;simp only[o6];generalize n % d=r at*;generalize n / d=q at*;have t1:X9 .i64 r 1000=r*1000:=lQ O5;have e1:=U4 (r*1000) d;have e2:=O9 (r*1000) (show d≠0 by omega);have e3:=L6 (r*1000) hd;have e4:=V5 (show 0<=r*1000 by omega) (show 0<=d by omega);have e5:r*1000 / d<1000:=lS hd l9;rw[t1,wO l9 l9 hd,o8,Bj l9 hd,o8];generalize hr1:r*1000 % d=r1 at*;generalize ha:r*1000 / d=a at*;have t2:X9 .i64 r1 1000=r1*1000:=lQ O5;have f1:=U4 (r1*1000) d;have f2:=O9 (r1*1000) (show d≠0 by omega);have f3:=L6 (r1*1000) hd;have f4:=V5 (show 0<=r1*1000 by omega) (show 0<=d by omega);have f5:r1*1000 / d<1000:=lS hd l9;rw[t2,wO l9 l9 hd,o8,Bj l9 hd,o8];have hr6:r*1000000=r1*1000+(a*1000)*d:=by rw[je];omega
 have hF2:r*1000000 / d=r1*1000 / d+a*1000:=by rw[hr6,ai _ _ l9]
 have hR2:r*1000000 % d=r1*1000 % d:=by rw[hr6,aX]
 rw[lQ (show kL (q*1000000) by unfold kL;omega),lQ (show kL (a*1000) by unfold kL;omega),X4 (show kL (q*1000000+a*1000) by unfold kL;omega),X4 (show kL (q*1000000+a*1000+r1*1000 / d) by unfold kL;omega)];rw[show q*1000000+a*1000+r1*1000 / d=n*1000000 / d by rw[hF,hF2];omega,show r1*1000 % d=n*1000000 % d by rw[hR,hR2]];rw[IY (by rw[hF];omega) (by rw[hF];omega) hd l9 hm,o8,xR _ l9 l9,o8];cases kN (rnd (n*1000000) d mode) 1000000000<;>rfl
theorem ZA(num den mode:Int):wI num den mode=some (b5k num den mode):=by
 unfold wI b5k;rw[a2I];cases hm:oG mode
 .rfl
 simp only[o7,o8,J7];cases hd:x8 den 0
 case true=>rfl
 rw[BP]at hd;simp only[o6];rw[xR num l9 l9,o8];cases h1:kN num 1000000000000000
 case true=>rfl
 simp only[o6];rw[xR den l9 l9,o8];cases h2:kN den 1000000000000000
 case true=>rfl
 simp only[o6];have b1:=pX h1;have b2:=pX h2;by_cases hn:den<0
 .rw[S9 hn,o7,P8 (show kL (0 -num) by unfold kL;omega),P8 (show kL (0 -den) by unfold kL;omega),show(0:Int) -num=-num by omega,show(0:Int) -den=-den by omega,b5u _ _ _ hn,show -(num*1000000)=-num*1000000 by rw[jI]];exact Yw l9 l9 l9 l9 hm
 .rw[J9 l9,o6];exact Yw l9 l9 l9 l9 hm
def Ew(len n:Int):Int×Int×Bool:=l7 (D9 1000000000000000 (len*Y6 n / 1000000)) (0,0,false) (l7 (D9 n 0) (-(len*Y6 n / 1000000),-(len*Y6 n % 1000000),true) (len*Y6 n / 1000000,len*Y6 n % 1000000,true))
variable {len:Int}
theorem b4J(h1:1<=len)(h2:len<=1000000000000000)(hn:kL n):vZ len n=some (Ew len n):=by
 unfold kL at hn;have key:∀m:Int,m=Y6 n->(o5 (uA (wrap .u64 len) m) λ(x:Int×Int)=>l7 (J5 1000000 x.1) (some ((0:Int),(0:Int),false)) (o5 (mJ x.1 x.2 1000000) λ(x:Int×Int)=>l7 (D9 1000000000000000 x.1) (some (0,0,false))
   (l7 (D9 n 0) (some (I7 .i64 0 (wrap .i64 x.1),I7 .i64 0 (wrap .i64 x.2),true)) (some (wrap .i64 x.1,wrap .i64 x.2,true)))))=some (Ew len n):=by
  intro m hm;have m0:=lD n;have m1:m<=9223372036854775808:=by rw[hm];unfold Y6;split<;>omega
  rw[←hm]at m0;rw[show wrap .u64 len=len from EZ l9 l9,RX l9 l9 m0 l9,o8];unfold Ew;rw[←hm];have hA:0<=len*m:=P6 l9 m0;generalize len*m=A at*;have hre:A / 18446744073709551616*18446744073709551616+A % 18446744073709551616=A:=l9;simp only;by_cases hh:1000000<=A / 18446744073709551616
  .rw[X5 hh,S9 (show(1000000000000000:Int)<A / 1000000 by omega)];rfl
  .rw[Y4 l9,o6,Xm l9 l9 l9 l9 l9,o8,hre];simp only;by_cases hM:1000000000000000<A / 1000000
   .rw[S9 hM];rfl
   .rw[J9 l9,o6,o6,show wrap .i64 (A / 1000000)=A / 1000000 from mi O5,show wrap .i64 (A % 1000000)=A % 1000000 from mi O5,P8 O5,P8 O5,
     show(0:Int) -A / 1000000=-(A / 1000000) by omega,show(0:Int) -A % 1000000=-(A % 1000000) by omega]
    cases D9 n 0<;>rfl
 unfold vZ;by_cases h0:n<0
 .have hk:=key (I7 .u64 0 (wrap .u64 n)) (by
   show IntKind.wrap .u64 (0 -IntKind.wrap .u64 n)=_;unfold Y6;rw[if_pos h0,zZ,zZ];omega)
  rw[S9 h0]at hk ⊢;exact hk
 .have hk:=key (wrap .u64 n) (by
   show IntKind.wrap .u64 n=_;unfold Y6;rw[if_neg h0,zZ];omega)
  rw[J9 l9]at hk ⊢;exact hk
theorem b2a(h1:1<=len)(h2:len<=1000000000000000)(hn:kL n):vU len n=some (Ew len n):=by
 unfold kL at hn;have hm:(l7 (D9 n 0) (some (x9 .u64 (wrap .u64 (I7 .i64 0 (x9 .i64 n 1))) 1)) (some (wrap .u64 n)))=some (Y6 n):=by
  by_cases h0:n<0
  .rw[S9 h0,o7,X4 O5,P8 O5,show wrap .u64 (0 -(n+1))=-n -1 from(EZ l9 l9).trans l9,show x9 .u64 (-n -1) 1=-n from(EZ l9 l9).trans l9];unfold Y6;rw[if_pos h0]
  .rw[J9 l9,o6,show wrap .u64 n=n from EZ l9 l9];unfold Y6;rw[if_neg h0]
 have m0:=lD n;have m1:Y6 n<=9223372036854775808:=by unfold Y6;split<;>omega
 unfold vU Ew;rw[hm,o8];generalize Y6 n=m at*;have c1:dD .u64 m 1000000=m / 1000000:=by unfold dD;rw[jQ m0,EZ l9 l9]
 have c2:dM m 1000000=m % 1000000:=zG m0;have c3:wrap .i64 (m / 1000000)=m / 1000000:=mi O5;have c4:wrap .i64 (m % 1000000)=m % 1000000:=mi O5;have c5:dD .i64 len 1000000=len / 1000000:=by rw[BR (by rw[jQ l9];unfold kL;omega),jQ l9]
 have c6:dM len 1000000=len % 1000000:=zG l9;rw[c1,c2,c3,c4,c5,c6];have hmd:m=m / 1000000*1000000+m % 1000000:=l9;have b0:0<=m % 1000000:=l9;have b1:m % 1000000<1000000:=l9;have a0:0<=m / 1000000:=l9;have a1:m / 1000000<=9223372036855:=l9;have hA:len*m=(len*(m / 1000000)+len / 1000000*(m % 1000000))*1000000+len % 1000000*(m % 1000000):=by
  have e1:len*m=len*(m / 1000000)*1000000+len*(m % 1000000):=by
   calc len*m=len*(m / 1000000*1000000+m % 1000000):=by rw[←hmd]
    _=_:=by rw[Int.mul_add,Int.mul_assoc]
  have e2:len*(m % 1000000)=len / 1000000*(m % 1000000)*1000000+len % 1000000*(m % 1000000):=by
   calc len*(m % 1000000)=(len / 1000000*1000000+len % 1000000)*(m % 1000000):=by rw[show len / 1000000*1000000+len % 1000000=len by omega]
    _=_:=by rw[gU,je]
  rw[e1,e2];omega
 have l0:0<=len % 1000000*(m % 1000000):=P6 l9 b0;have l1:len % 1000000*(m % 1000000)<=1000000*1000000:=jV l9 l9 b0 l9;have p0:0<=len / 1000000*(m % 1000000):=P6 l9 b0;have p1:len / 1000000*(m % 1000000)<=1000000000*1000000:=jV l9 l9 b0 l9;have k0:0<=len*(m / 1000000):=P6 l9 a0;have c7:X9 .i64 (len % 1000000) (m % 1000000)=len % 1000000*(m % 1000000):=lQ O5;have c8:X9 .i64 (len / 1000000) (m % 1000000)=len / 1000000*(m % 1000000):=lQ O5;rw[c7,c8];have hdiv:len*m / 1000000=len*(m / 1000000)+len / 1000000*(m % 1000000)+len % 1000000*(m % 1000000) / 1000000:=by rw[hA];omega
 have hmod:len*m % 1000000=len % 1000000*(m % 1000000) % 1000000:=by rw[hA];omega
 rw[hdiv,hmod];have c9:dD .i64 (len % 1000000*(m % 1000000)) 1000000=len % 1000000*(m % 1000000) / 1000000:=by rw[BR (by rw[jQ l0];unfold kL;omega),jQ l0]
 have c10:dM (len % 1000000*(m % 1000000)) 1000000=len % 1000000*(m % 1000000) % 1000000:=zG l0;rw[c9,c10];have tail:len*(m / 1000000)<=1000000000000000->l7 (D9 1000000000000000 (x9 .i64 (x9 .i64 (X9 .i64 len (m / 1000000)) (len / 1000000*(m % 1000000))) (len % 1000000*(m % 1000000) / 1000000))) (some ((0:Int),(0:Int),false))
   (l7 (D9 n 0) (some (I7 .i64 0 (x9 .i64 (x9 .i64 (X9 .i64 len (m / 1000000)) (len / 1000000*(m % 1000000))) (len % 1000000*(m % 1000000) / 1000000)),I7 .i64 0 (len % 1000000*(m % 1000000) % 1000000),true)) (some (x9 .i64 (x9 .i64 (X9 .i64 len (m / 1000000)) (len / 1000000*(m % 1000000))) (len % 1000000*(m % 1000000) / 1000000),len % 1000000*(m % 1000000) % 1000000,true)))=
   some (l7 (D9 1000000000000000 (len*(m / 1000000)+len / 1000000*(m % 1000000)+len % 1000000*(m % 1000000) / 1000000)) (0,0,false) (l7 (D9 n 0) (-(len*(m / 1000000)+len / 1000000*(m % 1000000)+len % 1000000*(m % 1000000) / 1000000),-(len % 1000000*(m % 1000000) % 1000000),true) (len*(m / 1000000)+len / 1000000*(m % 1000000)+len % 1000000*(m % 1000000) / 1000000,len % 1000000*(m % 1000000) % 1000000,true))):=by
  intro hle;rw[lQ (show kL (len*(m / 1000000)) by unfold kL;omega)];generalize len*(m / 1000000)=K at*;generalize len / 1000000*(m % 1000000)=P at*;generalize len % 1000000*(m % 1000000)=L at*;rw[X4 (show kL (K+P) by unfold kL;omega),X4 (show kL (K+P+L / 1000000) by unfold kL;omega),P8 (show kL (0 -(K+P+L / 1000000)) by unfold kL;omega),P8 (show kL (0 -L % 1000000) by unfold kL;omega),show(0:Int) -(K+P+L / 1000000)=-(K+P+L / 1000000) by omega,show(0:Int) -L % 1000000=-(L % 1000000) by omega];cases D9 1000000000000000 (K+P+L / 1000000)<;>cases D9 n 0<;>rfl
 by_cases ha:0<m / 1000000
 .rw[S9 ha,o7,wO l9 l9 ha,o8];have hMx:=U4 1000000000000000 (m / 1000000);have hMr:=L6 1000000000000000 ha;have hMr0:=O9 1000000000000000 (show m / 1000000≠0 by omega);by_cases hc:1000000000000000 / (m / 1000000)<len
  .have:=N9 (show 1000000000000000 / (m / 1000000)+1<=len by omega) a0;rw[gU,eH]at this;rw[S9 hc,S9 (show(1000000000000000:Int)<len*(m / 1000000)+len / 1000000*(m % 1000000)+len % 1000000*(m % 1000000) / 1000000 by omega)];rfl
  .have:=N9 (show len<=1000000000000000 / (m / 1000000) by omega) a0;rw[J9 l9,o6];exact tail l9
 .have:m / 1000000=0:=l9;rw[J9 l9,o6];exact tail (by rw[this];simp)
theorem YF{F R j:Int}(hm:oG mode=true)(h1:-4000000000000000000<=F)(h2:F<=4000000000000000000)(h3:-2000000000000000000<=j)(h4:j<=2000000000000000000)(hR:0<=R)(hR2:R<1000000)(hs:0<=F↔0<=F+2*j):
  bH (F+2*j) R 1000000 mode=(bH F R 1000000 mode).map λv=>v+2*j:=by
 have R0:∀F R:Int,bH F R 1000000 0=l7 (x8 R 0) (some F) (some F):=λF R=>rfl;have R1:∀F R:Int,bH F R 1000000 1=l7 (x8 R 0) (some F) (some (x9 .i64 F 1)):=λF R=>rfl;have R2:∀F R:Int,bH F R 1000000 2=l7 (x8 R 0) (some F) (o5 (l7 (D9 F 0) (some true) (some false)) λx=>l7 x (some (x9 .i64 F 1)) (some F)):=λF R=>rfl;have R3:∀F R:Int,bH F R 1000000 3=l7 (x8 R 0) (some F) (o5 (some (J5 0 F)) λx=>l7 x (some (x9 .i64 F 1)) (some F)):=λF R=>rfl;have R4:∀F R:Int,bH F R 1000000 4=l7 (x8 R 0) (some F) (l7 (x8 R (I7 .i64 1000000 R)) (l7 (J5 0 F) (some (x9 .i64 F 1)) (some F)) (l7 (D9 (I7 .i64 1000000 R) R) (some (x9 .i64 F 1)) (some F))):=λF R=>rfl;have R5:∀F R:Int,bH F R 1000000 5=l7 (x8 R 0) (some F) (l7 (x8 R (I7 .i64 1000000 R)) (l7 (D7 (x8 (dM F 2) 0)) (some (x9 .i64 F 1)) (some F)) (l7 (D9 (I7 .i64 1000000 R) R) (some (x9 .i64 F 1)) (some F))):=λF R=>rfl;have hi:x9 .i64 F 1=F+1:=X4 O5;have hi2:x9 .i64 (F+2*j) 1=F+1+2*j:=by rw[X4 O5];omega
 have hlt:D9 (F+2*j) 0=D9 F 0:=by
  by_cases h:0<=F
  .rw[J9 h,J9 (hs.1 h)]
  .rw[S9 l9,S9 (by have:=λh' =>h (hs.2 h');omega)]
 have hle:J5 0 (F+2*j)=J5 0 F:=by rw[Af,Af,hlt]
 have hpar:x8 (dM (F+2*j) 2) 0=x8 (dM F 2) 0:=by
  unfold dM x8;congr 1;have e1:∀x:Int,x.tmod 2=0↔x % 2=0:=λx=>by rw[←Int.dvd_iff_tmod_eq_zero,Int.dvd_iff_emod_eq_zero]
  simp only[e1];congr 1;omega
 rcases IL hm with rfl|rfl|rfl|rfl|rfl|rfl
 .rw[R0,R0];cases x8 R 0<;>rfl
 .rw[R1,R1,hi,hi2];cases x8 R 0<;>rfl
 .rw[R2,R2,hi,hi2,hlt];cases x8 R 0<;>cases D9 F 0<;>rfl
 .rw[R3,R3,hi,hi2,hle];cases x8 R 0<;>cases J5 0 F<;>rfl
 .rw[R4,R4,hi,hi2,hle];cases x8 R 0<;>cases x8 R (I7 .i64 1000000 R)<;>cases J5 0 F<;>cases D9 (I7 .i64 1000000 R) R<;>rfl
 .rw[R5,R5,hi,hi2,hpar];cases x8 R 0<;>cases x8 R (I7 .i64 1000000 R)<;>cases x8 (dM F 2) 0<;>cases D9 (I7 .i64 1000000 R) R<;>rfl
variable {j:Int}
theorem a9e(hm:oG mode=true)(h1:-4000000000000000000<=n)(h2:n<=4000000000000000000)(h3:-2000000000000000<=j)(h4:j<=2000000000000000)(hs:0<=n↔0<=n+2*j*1000000):rnd (n+2*j*1000000) 1000000 mode=rnd n 1000000 mode+2*j:=by
 have a1:=IY (n:=n) (d:=1000000) (mode:=mode) l9 l9 l9 l9 hm;have a2:=IY (n:=n+2*j*1000000) (d:=1000000) (mode:=mode) l9 l9 l9 l9 hm;rw[show(n+2*j*1000000) / 1000000=n / 1000000+2*j by omega,show(n+2*j*1000000) % 1000000=n % 1000000 by omega,
  YF hm l9 l9 l9 l9 l9 l9 l9,a1]at a2
 exact(aP a2).symm
def ZI(W L mode:Int):Int×Int:=l7 (kN (rnd (W*1000000+L) 1000000 mode) 1000000000000000) (0,3) (rnd (W*1000000+L) 1000000 mode,0)
theorem YT{V p L j mode:Int}(hm:oG mode=true)(hV:-2000000000000000<=V)(hV2:V<=2000000000000000)(hp:-3<=p)(hp2:p<=3)(hL:-1000000<L)(hL2:L<1000000)(hj:V -p=2*j)(hs:0<=p*1000000+L↔0<=V*1000000+L):
  (o5 (jA (x9 .i64 (X9 .i64 p 1000000) L) 1000000 mode) λ(x:Int×Int)=>l7 (D7 (x8 x.2 0)) (some ((0:Int),x.2)) (l7 (D9 (x9 .i64 (I7 .i64 V p) x.1) (-1000000000000000)) (some (0,3)) (l7 (D9 1000000000000000 (x9 .i64 (I7 .i64 V p) x.1)) (some (0,3)) (some (x9 .i64 (I7 .i64 V p) x.1,0)))))=
  some (ZI V L mode):=by
 rw[lQ (show kL (p*1000000) by unfold kL;omega),X4 (show kL (p*1000000+L) by unfold kL;omega),P8 (show kL (V -p) by unfold kL;omega),Iy,o8];unfold a4o;rw[hm,J6 (show(1000000:Int)≠0 by decide),OH l9,OH l9];have hb:=a5m (n:=p*1000000+L) (d:=1000000) mode l9;have hsh:=a9e (n:=p*1000000+L) (j:=j) hm l9 l9 l9 l9 (by rw[show p*1000000+L+2*j*1000000=V*1000000+L by omega];exact hs);rw[show p*1000000+L+2*j*1000000=V*1000000+L by omega]at hsh;simp only[o7,o6,O8 (rfl:(0:Int)=0),D8];unfold ZI kN;rw[hsh,hj,X4 (show kL (2*j+rnd (p*1000000+L) 1000000 mode) by unfold kL;omega),show rnd (p*1000000+L) 1000000 mode+2*j=2*j+rnd (p*1000000+L) 1000000 mode by omega];cases D9 (2*j+rnd (p*1000000+L) 1000000 mode) (-1000000000000000)<;>cases D9 1000000000000000 (2*j+rnd (p*1000000+L) 1000000 mode)<;>rfl
theorem a7C(hd:0<d):(0<=n->0<=n.tmod d/\n.tmod d<d)/\(n<=0->-d<n.tmod d/\n.tmod d<=0):=by
 refine⟨λh=>?_,λh=>?_⟩
 .rw[dX h];exact⟨O9 n l9,L6 n hd⟩
 .obtain⟨m,hm⟩:∃m,n=-m:=⟨-n,l9⟩;subst hm;rw[Int.neg_tmod,dX l9];have:=O9 m (show d≠0 by omega);have:=L6 m hd;omega
theorem a3t{W L mode:Int}(hm:oG mode=true)(hW:-1000000000000000000<=W)(hW2:W<=1000000000000000000)(hL:-1000000000<=L)(hL2:L<=1000000000):Dj W L mode=some (ZI W L mode):=by
 unfold Dj;have hd:=Int.tdiv_mul_add_tmod L 1000000;have htm:=a7C (n:=L) (d:=1000000) l9;have t1:dD .i64 L 1000000=L.tdiv 1000000:=BR O5;have t2:dM L 1000000=L.tmod 1000000:=rfl;have hr1:-1000000<L.tmod 1000000:=l9;have hr2:L.tmod 1000000<1000000:=l9;rw[t1,t2,X4 (show kL (W+L.tdiv 1000000) by unfold kL;omega)];have hT:W*1000000+L=(W+L.tdiv 1000000)*1000000+L.tmod 1000000:=l9;have hsum:ZI W L mode=ZI (W+L.tdiv 1000000) (L.tmod 1000000) mode:=by unfold ZI;rw[hT]
 rw[hsum];have hVb:-2000000000000000000<=W+L.tdiv 1000000/\W+L.tdiv 1000000<=2000000000000000000:=l9;generalize W+L.tdiv 1000000=V at*;generalize L.tmod 1000000=M at*;have hb:=a5m (n:=V*1000000+M) (d:=1000000) mode l9;by_cases c1:V< -2000000000000000
 .rw[S9 c1,o7];unfold ZI;rw[QX.2 l9];rfl
 by_cases c2:2000000000000000<V
 .rw[J9 l9,o6,S9 c2,o7];unfold ZI;rw[QX.2 l9];rfl
 rw[J9 l9,o6,J9 l9,o6];have t3:dM V 2=V.tmod 2:=rfl;rw[t3];have hv2:=Int.tdiv_mul_add_tmod V 2;have htv:=a7C (n:=V) (d:=2) l9;by_cases c3:1<V
 .rw[S9 c3,o7,X4 (show kL (V.tmod 2+2) by unfold kL;omega)];exact YT (j:=V.tdiv 2 -1) hm l9 l9 l9 l9 hr1 hr2 l9 l9
 rw[J9 l9,o6];by_cases c4:V< -1
 .rw[S9 c4,o7,P8 (show kL (V.tmod 2 -2) by unfold kL;omega)];exact YT (j:=V.tdiv 2+1) hm l9 l9 l9 l9 hr1 hr2 l9 l9
 rw[J9 l9,o6];exact YT (j:=V.tdiv 2) hm l9 l9 l9 l9 hr1 hr2 l9 l9
theorem ZB{W L mode:Int}(hm:oG mode=true)(hW:-1000000000000000000<=W)(hW2:W<=1000000000000000000)(hL:-1000000000<=L)(hL2:L<=1000000000):Ei W L mode=some (rnd (W*1000000+L) 1000000 mode):=by
 unfold Ei;obtain⟨e,k1,k2⟩:=gy (f:=λ(x:Int×Int)=>l7 (D9 x.2 0) (some (.inl (I7 .i64 x.1 1,x9 .i64 x.2 1000000))) (some (.inr x)))
  (s:=(W,L)) (λx=>x.1*1000000+x.2=W*1000000+L/\-1000000000<=x.2/\x.2<=1000000000/\-2000000000000000000<=x.1/\x.1<=2000000000000000000) (λx=>x.1*1000000+x.2=W*1000000+L/\0<=x.2/\x.2<=1000000000/\-2000000000000000000<=x.1/\x.1<=2000000000000000000) (λx=>(1000000000 -x.2).toNat) ⟨by rfl,hL,hL2,l9,l9⟩ l9 (by
  rintro⟨a,b⟩ ⟨h1,h2,h3,h4,h5⟩;simp only at h1 h2 h3 h4 h5 ⊢;by_cases hb:b<0
  .left;rw[S9 hb,o7,P8 (show kL (a -1) by unfold kL;omega),X4 (show kL (b+1000000) by unfold kL;omega)];exact⟨_,rfl,⟨by simp only;omega,by simp only;omega,by simp only;omega,by simp only;omega,by simp only;omega⟩,by simp only;omega⟩
  .right;rw[J9 l9];exact⟨(a,b),rfl,h1,l9,h3,h4,h5⟩)
 refine(kR k1 _).trans ?_;obtain⟨a,b⟩:=e;simp only at k2;obtain⟨e,l1,l2⟩:=gy (f:=λ(x:Int×Int)=>l7 (J5 1000000 x.2) (some (.inl (x9 .i64 x.1 1,I7 .i64 x.2 1000000))) (some (.inr x)))
  (s:=(a,b)) (λx=>x.1*1000000+x.2=W*1000000+L/\0<=x.2/\x.2<=1000000000/\-2000000000000000000<=x.1/\x.1<=2000000000000000000) (λx=>x.1=(W*1000000+L) / 1000000/\x.2=(W*1000000+L) % 1000000) (λx=>x.2.toNat) k2 (by simp only;omega) (by
  rintro⟨a,b⟩ ⟨h1,h2,h3,h4,h5⟩;simp only at h1 h2 h3 h4 h5 ⊢;by_cases hb:1000000<=b
  .left;rw[X5 hb,o7,X4 (show kL (a+1) by unfold kL;omega),P8 (show kL (b -1000000) by unfold kL;omega)];exact⟨_,rfl,⟨by simp only;omega,by simp only;omega,by simp only;omega,by simp only;omega,by simp only;omega⟩,by simp only;omega⟩
  .right;rw[Y4 l9];exact⟨(a,b),rfl,by simp only;omega,by simp only;omega⟩)
 refine(kR l1 _).trans ?_;obtain⟨F,R⟩:=e;simp only at l2 ⊢;obtain⟨rfl,rfl⟩:=l2;generalize hT:W*1000000+L=T at*;have hid:Y6 1000000=1000000:=rfl;have hneg:D7 (jl (D9 T 0) (D9 1000000 0))=D9 T 0:=by rw[J9 (show(0:Int)<=1000000 by omega)];cases D9 T 0<;>rfl
 by_cases h0:0<=T
 .rw[X5 (show 0<=T / 1000000 by omega),o7,EF _ _ l9 l9 l9 l9 l9,o8];unfold rnd;rw[hid,hneg,J9 h0,show Y6 T=T by unfold Y6;rw[if_neg l9]]
 .rw[Y4 (show T / 1000000<0 by omega),o6];unfold rnd;rw[hid,hneg,S9 l9,show Y6 T=-T by unfold Y6;rw[if_pos l9]];by_cases hz:T % 1000000=0
  .rw[O8 hz,o7];have hu:upS (-T / 1000000) (-T % 1000000) 1000000 true mode=false:=by unfold upS;rw[O8 (show -T % 1000000=0 by omega)];rfl
   rw[hu];show some (T / 1000000)=some (-(-T / 1000000));congr 1;omega
  .rw[J6 hz,o6,P8 (show kL (0 -T / 1000000) by unfold kL;omega),P8 (show kL (0 -T / 1000000 -1) by unfold kL;omega),P8 (show kL (1000000 -T % 1000000) by unfold kL;omega),EF _ _ l9 l9 l9 l9 l9,o8];rw[show 0 -T / 1000000 -1=-T / 1000000 by omega,show 1000000 -T % 1000000=-T % 1000000 by omega]
def a6m(r:ww):Prop:=kL r.2.1/\kL r.2.2.1/\kL r.2.2.2
def xB(t:bJ):Prop:=t.2.2.2.length<=200/\∀r∈t.2.2.2,a6m r
theorem a0o(h:(Ew len n).2.2=true)(hl:0<=len):-1000000000000000<=(Ew len n).1/\(Ew len n).1<=1000000000000000/\-1000000<=(Ew len n).2.1/\(Ew len n).2.1<=1000000:=by
 have hA:0<=len*Y6 n:=P6 hl (lD n);unfold Ew at*;generalize len*Y6 n=A at*;cases h1:D9 1000000000000000 (A / 1000000)<;>rw[h1]at h
 .rw[iI]at h1;cases D9 n 0
  .simp only[o6];omega
  .simp only[o6,o7];omega
 .cases h
def brG(date c:Int)(b:Int×Int)(r:ww):(Int×Int)⊕(Int×Int):=l7 (Qq r.1 date) (l7 (J5 (pM r.2.2.1 c) (nR r.2.1 0)) (.inl b)
 (l7 (Ew (pM r.2.2.1 c -nR r.2.1 0) r.2.2.2).2.2 (.inl (b.1+(Ew (pM r.2.2.1 c -nR r.2.1 0) r.2.2.2).1,b.2+(Ew (pM r.2.2.1 c -nR r.2.1 0) r.2.2.2).2.1)) (.inr (0,3)))) (.inl b)
def b4H(t:bJ)(date c mode:Int):Int×Int:=l7 (oG mode) (l7 (aj (x8 t.2.1.1 3) (x8 t.2.1.2 0)) (l7 (aj (x8 t.2.2.1.1 4) (x8 t.2.2.1.2 0)) (l7 (kN c 1000000000000000) (0,3)
 (match ik (brG date c) t.2.2.2 (0,0)with| .inl b=>ZI b.1 b.2 mode| .inr r=>r)) (0,8)) (0,8)) (0,1)
def WJ(i:Nat)(b:Int×Int):Prop:=-(1000000000000000*(i:Int))<=b.1/\b.1<=1000000000000000*(i:Int)/\-(1000000*(i:Int))<=b.2/\b.2<=1000000*(i:Int)
theorem WW{r:ww}{c:Int}(hr:a6m r)(hc:-1000000000000000<=c)(hc2:c<=1000000000000000)(h:J5 (pM r.2.2.1 c) (nR r.2.1 0)=false):I7 .i64 (pM r.2.2.1 c) (nR r.2.1 0)=pM r.2.2.1 c -nR r.2.1 0/\1<=pM r.2.2.1 c -nR r.2.1 0/\pM r.2.2.1 c -nR r.2.1 0<=1000000000000000:=by
 obtain⟨h1,h2,h3⟩:=hr;obtain⟨lo,hlo⟩:∃lo:Int,r.2.1=lo:=⟨_,rfl⟩;obtain⟨hi,hhi⟩:∃hi:Int,r.2.2.1=hi:=⟨_,rfl⟩;rw[hlo]at h h1 ⊢;rw[hhi]at h h2 ⊢;rw[GL]at h;have a1:0<=nR lo 0:=by unfold nR;split<;>omega
 have a2:pM hi c<=c:=by unfold pM;split<;>omega
 refine⟨P8 O5,l9,l9⟩
variable {i:Nat}
theorem a9W{date c:Int}{r:ww}{b:Int×Int}(hr:a6m r)(hc:-1000000000000000<=c)(hc2:c<=1000000000000000)(hi:i<=200)(hb:WJ i b):∀b',brG date c b r= .inl b' ->WJ (i+1) b' :=by
 intro b' h;unfold WJ at*;unfold brG at h;cases h1:Qq r.1 date<;>rw[h1]at h
 .cases h;omega
 simp only[o7]at h;cases h2:J5 (pM r.2.2.1 c) (nR r.2.1 0)<;>rw[h2]at h
 .obtain⟨_,g1,g2⟩:=WW hr hc hc2 h2;simp only[o6]at h;cases h3:(Ew (pM r.2.2.1 c -nR r.2.1 0) r.2.2.2).2.2<;>rw[h3]at h
  .cases h
  .have hbd:=a0o h3 l9;cases h;simp only;omega
 .cases h;omega
theorem a1T{t:bJ}(date c mode:Int)(ht:xB t):Df t date c mode=some (b4H t date c mode):=by
 unfold Df b4H;rw[a2I];cases hm:oG mode
 .rfl
 simp only[o7,o8,J7];cases aj (x8 t.2.1.1 3) (x8 t.2.1.2 0)
 .rfl
 cases aj (x8 t.2.2.1.1 4) (x8 t.2.2.1.2 0)
 .rfl
 simp only[D8,o6,o7,o8,J7];have hbey:∀A B:Option (PUnit⊕(Int×Int)),l7 (D9 c (-1000000000000000)) A (l7 (D9 1000000000000000 c) A B)=l7 (kN c 1000000000000000) A B:=λA B=>by unfold kN;cases D9 c (-1000000000000000)<;>cases D9 1000000000000000 c<;>rfl
 rw[hbey];cases hb:kN c 1000000000000000
 case true=>rfl
 have bb:=pX hb;simp only[o6,o8,J7];refine lV t.2.2.2 (brG date c) (λb i=>(b.1,b.2,i)) (λb=>b) WJ ((0,0):Int×Int) (by have:=ht.1;omega) (by unfold WJ;simp) (λi r b hr hi hI=>?_) (λb hI=>?_) (λhI=>?_)
 .have hro:=ht.2 r (iO hr);have hlt:=(X6.1 hr).1;have h200:=ht.1;refine⟨?_,a9W hro bb.1 bb.2 l9 hI⟩;simp only[H6 hr,o7,E5,hr,o8,Iq];rw[Y1 l9];unfold brG;cases Qq r.1 date
  .rfl
  simp only[D8,o6,o7];cases h2:J5 (pM r.2.2.1 c) (nR r.2.1 0)
  case true=>rfl
  obtain⟨g0,g1,g2⟩:=WW hro bb.1 bb.2 h2;rw[g0,b4J g1 g2 hro.2.2];simp only[o6,o8];cases h3:(Ew (pM r.2.2.1 c -nR r.2.1 0) r.2.2.2).2.2
  .rfl
  .have hbd:=a0o h3 l9;unfold WJ at hI;rw[X4 O5,X4 O5];rfl
 .simp only[G6];rfl
 .cases hf:ik (brG date c) t.2.2.2 (0,0)with
  |inr r=>rfl|inl b=>have:=hI b hf;unfold WJ at this;have h200:=ht.1;simp only[J7];rw[a3t hm l9 l9 l9 l9];rfl
theorem a0T{t:bJ}(date c mode:Int)(ht:xB t):CG t date c mode=some (b4H t date c mode):=by
 unfold CG b4H;rw[SC,o8];cases hm:oG mode
 .rfl
 simp only[D8,o6,o7];cases aj (x8 t.2.1.1 3) (x8 t.2.1.2 0)
 .rfl
 cases aj (x8 t.2.2.1.1 4) (x8 t.2.2.1.2 0)
 .rfl
 simp only[D8,o6,o7,o8,J7];rw[ui c l9 l9,o8];cases hb:kN c 1000000000000000
 case true=>rfl
 have bb:=pX hb;simp only[o6];refine lV t.2.2.2 (brG date c) (λb i=>(b.1,b.2,i)) (λb=>b) WJ ((0,0):Int×Int) (by have:=ht.1;omega) (by unfold WJ;simp) (λi r b hr hi hI=>?_) (λb hI=>?_) (λhI=>?_)
 .have hro:=ht.2 r (iO hr);have hlt:=(X6.1 hr).1;have h200:=ht.1;refine⟨?_,a9W hro bb.1 bb.2 l9 hI⟩;simp only[H6 hr,o7,E5,hr,o8,La];rw[Y1 l9];unfold brG;cases h2:J5 (pM r.2.2.1 c) (nR r.2.1 0)
  case true=>cases Qq r.1 date<;>rfl
  simp only[o6];cases Qq r.1 date
  .rfl
  obtain⟨g0,g1,g2⟩:=WW hro bb.1 bb.2 h2;rw[g0,b2a g1 g2 hro.2.2];simp only[D8,o6,o7,o8];cases h3:(Ew (pM r.2.2.1 c -nR r.2.1 0) r.2.2.2).2.2
  .rfl
  .have hbd:=a0o h3 l9;unfold WJ at hI;rw[X4 O5,X4 O5];rfl
 .simp only[G6];rfl
 .cases hf:ik (brG date c) t.2.2.2 (0,0)with
  |inr r=>rfl|inl b=>have:=hI b hf;unfold WJ at this;have h200:=ht.1;simp only[J7];rw[ZB hm l9 l9 l9 l9,o8,ui _ l9 l9,o8];unfold ZI;cases kN (rnd (b.1*1000000+b.2) 1000000 mode) 1000000000000000<;>rfl
def b4W(r:ww)(date key:Int):Bool:=l7 (Qq r.1 date) (l7 (J5 r.2.1 key) (D9 key r.2.2.1) false) false
def Vk(rows:List ww)(date key:Int)(i:Nat):Option (Int×Bool):=match rows[i]? with|some r=>l7 (b4W r date key) (some ((i:Int),true)) none|none=>none
def XO(rows:List ww)(date key:Int):Int×Bool:=match Z4 rows.length (Vk rows date key)with|some x=>x|none=>(0,false)
theorem a8m{t:bJ}(date key:Int)(ht:t.2.2.2.length<=1000000):Gh t date key=some (XO t.2.2.2 date key):=by
 unfold Gh wo XO;rw[fJ];refine U8 (qp (p:=Vk t.2.2.2 date key) t.2.2.2.length ht PUnit.unit (λi hi=>?_) ?_) ?_
 rotate_left 2
 .cases Z4 t.2.2.2.length (Vk t.2.2.2 date key)<;>rfl
 .have e:=eG hi;simp only[H6 e,o7,E5,e,o8,Ic,Iq,Vk,b4W];cases Qq t.2.2.2[i].1 date
  .rfl
  cases J5 t.2.2.2[i].2.1 key
  .rfl
  cases D9 key t.2.2.2[i].2.2.1<;>rfl
 .simp only[G6];rfl
theorem a5e{t:bJ}(date key:Int)(ht:t.2.2.2.length<=1000000):FO t date key=some (XO t.2.2.2 date key):=by
 unfold FO XO;refine U8 (qp (p:=Vk t.2.2.2 date key) t.2.2.2.length ht PUnit.unit (λi hi=>?_) ?_) ?_
 rotate_left 2
 .cases Z4 t.2.2.2.length (Vk t.2.2.2 date key)<;>rfl
 .have e:=eG hi;simp only[H6 e,o7,E5,e,o8,Jv,La,Vk,b4W];cases Qq t.2.2.2[i].1 date
  .rfl
  cases J5 t.2.2.2[i].2.1 key
  .rfl
  cases D9 key t.2.2.2[i].2.2.1<;>rfl
 .simp only[G6];rfl
theorem b0L{rows:List ww}{date key i:Int}(h:XO rows date key=(i,true)):0<=i/\i<o9 rows:=by
 unfold XO at h;split at h
 .rename_i x hx;subst h;obtain⟨k,hk,hp⟩:=ja hx;unfold Vk at hp;split at hp
  .rename_i r hr;cases hmb:b4W r date key<;>rw[hmb]at hp
   .cases hp
   .cases hp;simp only[o9];omega
  .cases hp
 .cases h
abbrev V3:Type:=Int×Int×Int
def Gz(k:Int):Int×Int:=l7 (x8 k 1) (0,1) (l7 (x8 k 2) (-1000000000000,1000000000000) (l7 (x8 k 3) (-1000000000000000,1000000000000000) (l7 (x8 k 4) (-1000000000,1000000000) (l7 (x8 k 5) (0,109572) (l7 (x8 k 6) (0,15) (0,-1))))))
theorem a6z(k:Int):yS k=some (Gz k):=by unfold yS Gz;cases x8 k 1<;>cases x8 k 2<;>cases x8 k 3<;>cases x8 k 4<;>cases x8 k 5<;>cases x8 k 6<;>rfl
def plB(v:V3):Bool:=l7 (J5 (Gz v.1).1 v.2.2) (l7 (J5 v.2.2 (Gz v.1).2) (l7 (x8 v.1 6) (l7 (J5 0 v.2.1) (D9 v.2.1 8) false) (x8 v.2.1 0)) false) false
theorem wR(v:V3):fQ v=some (plB v):=by
 unfold fQ plB;rw[a6z,o8,nP,nP];cases J5 (Gz v.1).1 v.2.2
 .rfl
 cases J5 v.2.2 (Gz v.1).2
 .rfl
 cases x8 v.1 6
 .rfl
 cases J5 0 v.2.1<;>rfl
theorem yN(v:V3):gQ v=some (plB v):=by
 obtain⟨k,e,n⟩:=v;unfold gQ plB;simp only;by_cases h6:k=6
 .subst h6;rw[show Gz 6=(0,15)from rfl,O8 (rfl:(6:Int)=6)];simp only[D8,o6,o8,J7,J6 (show(6:Int)≠1 by decide),J6 (show(6:Int)≠2 by decide),J6 (show(6:Int)≠3 by decide),J6 (show(6:Int)≠4 by decide),J6 (show(6:Int)≠5 by decide),o7];rw[show D9 n 16=J5 n 15 by unfold D9 J5;congr 1;simp;omega];cases J5 0 e<;>cases D9 e 8<;>cases J5 0 n<;>cases J5 n 15<;>rfl
 rw[J6 h6];simp only[aB,o7,o6];by_cases he:e=0
 case neg=>rw[J6 he];simp only[aB,o7,o8,vC];cases J5 (Gz k).1 n<;>cases J5 n (Gz k).2<;>rfl
 rw[O8 he];simp only[D8,o6,o8,J7];by_cases h1:k=1
 .subst h1;rw[show Gz 1=(0,1)from rfl];simp only[O8 (rfl:(1:Int)=1),o7];by_cases n0:n=0
  .subst n0;rfl
  by_cases n1:n=1
  .subst n1;rfl
  rw[J6 n0,J6 n1];by_cases g:0<=n
  .rw[X5 g,Y4 l9];rfl
  .rw[Y4 l9];rfl
 rw[J6 h1,o6];by_cases h2:k=2
 .subst h2;rw[show Gz 2=(-1000000000000,1000000000000)from rfl,O8 (rfl:(2:Int)=2)];simp only[o7];cases J5 (-1000000000000) n<;>cases J5 n 1000000000000<;>rfl
 rw[J6 h2,o6];by_cases h3:k=3
 .subst h3;rw[show Gz 3=(-1000000000000000,1000000000000000)from rfl,O8 (rfl:(3:Int)=3)];simp only[o7];cases J5 (-1000000000000000) n<;>cases J5 n 1000000000000000<;>rfl
 rw[J6 h3,o6];by_cases h4:k=4
 .subst h4;rw[show Gz 4=(-1000000000,1000000000)from rfl,O8 (rfl:(4:Int)=4)];simp only[o7];cases J5 (-1000000000) n<;>cases J5 n 1000000000<;>rfl
 rw[J6 h4,o6];by_cases h5:k=5
 .subst h5;rw[show Gz 5=(0,109572)from rfl,O8 (rfl:(5:Int)=5)];simp only[o7];cases J5 0 n<;>cases J5 n 109572<;>rfl
 rw[J6 h5,o6,show Gz k=(0,-1) by unfold Gz;rw[J6 h1,J6 h2,J6 h3,J6 h4,J6 h5,J6 h6];rfl];simp only[o6];by_cases g:0<=n
 .rw[X5 g,Y4 (show(-1:Int)<n by omega)];rfl
 .rw[Y4 (show n<0 by omega)];rfl
def PV(v:V3):Prop:=(∃n,v=(1,0,n)/\(n=0\/n=1))\/(∃n,v=(2,0,n)/\-1000000000000<=n/\n<=1000000000000)\/(∃n,v=(3,0,n)/\-1000000000000000<=n/\n<=1000000000000000)\/(∃n,v=(4,0,n)/\-1000000000<=n/\n<=1000000000)\/(∃n,v=(5,0,n)/\0<=n/\n<=109572)\/(∃e n,v=(6,e,n)/\0<=n/\n<=15)
theorem a5a{v:V3}(h:plB v=true):PV v:=by
 obtain⟨k,e,n⟩:=v;unfold plB at h;simp only at h;cases h1:J5 (Gz k).1 n<;>rw[h1]at h
 .cases h
 cases h2:J5 n (Gz k).2<;>rw[h2]at h
 .cases h
 simp only[o7]at h;rw[qc]at h1 h2;unfold PV;by_cases k6:k=6
 .subst k6;rw[show Gz 6=(0,15)from rfl]at h1 h2;exact .inr (.inr (.inr (.inr (.inr ⟨e,n,rfl,h1,h2⟩))))
 rw[J6 k6,o6,Y5]at h;subst h;by_cases k1:k=1
 .subst k1;rw[show Gz 1=(0,1)from rfl]at h1 h2;exact .inl ⟨n,rfl,by simp only at h1 h2;omega⟩
 by_cases k2:k=2
 .subst k2;exact .inr (.inl ⟨n,rfl,h1,h2⟩)
 by_cases k3:k=3
 .subst k3;exact .inr (.inr (.inl ⟨n,rfl,h1,h2⟩))
 by_cases k4:k=4
 .subst k4;exact .inr (.inr (.inr (.inl ⟨n,rfl,h1,h2⟩)))
 by_cases k5:k=5
 .subst k5;exact .inr (.inr (.inr (.inr (.inl ⟨n,rfl,h1,h2⟩))))
 .rw[show Gz k=(0,-1) by unfold Gz;rw[J6 k1,J6 k2,J6 k3,J6 k4,J6 k5,J6 k6];rfl]at h1 h2;simp only at h1 h2;omega
def Ij(v:V3):V3×Int:=l7 (plB v) (v,0) ((0,0,0),3)
def Zf(v:V3)(c:Int):V3×Int:=l7 (x8 c 0) (Ij v) ((0,0,0),c)
theorem RI(k n:Int):bY k n=some (Ij (k,0,n)):=by unfold bY Ij;rw[wR,o8];cases plB (k,0,n)<;>rfl
theorem b6c(k n c:Int):qO k n c=some (Zf (k,0,n) c):=by
 unfold qO Zf;cases x8 c 0
 .rfl
 simp only[D8,o6,o7];rw[RI];rfl
def d0s(b:Bool):V3×Int:=((1,0,l7 b 1 0),0)
theorem a8W(b:Bool):qo b=some (d0s b):=by cases b<;>rfl
theorem b4u(b:Bool):qE b=some (1,0,l7 b 1 0):=by cases b<;>rfl
theorem b4t(b:Bool):Ij (1,0,l7 b 1 0)=d0s b:=by cases b<;>rfl
def a7Z(c:Option (V3×Int)):Option (V3×Int):=o5 c λ(x:V3×Int)=>l7 (D7 (x8 x.2 0)) (some ((0,0,0),x.2)) (o5 (gQ x.1) λ(x_1:Bool)=>l7 (D7 x_1) (some ((0,0,0),3)) (some (x.1,0)))
theorem DC(v:V3)(c:Int):a7Z (some (v,c))=some (Zf v c):=by
 unfold a7Z Zf Ij;simp only[o8];cases x8 c 0
 .rfl
 simp only[D8,o6,o7];rw[yN,o8];cases plB v<;>rfl
theorem Oz(v:V3):Zf v 0=Ij v:=rfl
def EP(n:Int×Int)(args:List V3)(env:bn):Option (V3×Int):=o5 (Z9 n args env) λ(x:Bool)=>l7 (D7 x) (some ((0,0,0),8)) (a7Z (ae n args env))
def RP(a0:Int×Int)(a1:List V3)(a2:bn):Option (V3×Int):=
 l7 (x8 (o9 a1) 0) (l7 (J5 36 a0.1) (l7 (J5 a0.1 39) (o5 (zN a0 a2) λ(x:V3×Int)=>some x) (o5 (kS a0 a2) λ(x:V3×Int)=>some x)) (o5 (kS a0 a2) λ(x:V3×Int)=>some x))
  (l7 (x8 (o9 a1) 1) (o5 (F9 a1 0) λ(x:V3)=>o5 (tq a0 x a2) λ(x:V3×Int)=>some x)
  (l7 (x8 (o9 a1) 2) (o5 (F9 a1 0) λ(x:V3)=>o5 (F9 a1 1) λ(x_1:V3)=>o5 (iL a0 x x_1) λ(x:V3×Int)=>some x)
  (o5 (F9 a1 0) λ(x:V3)=>o5 (F9 a1 1) λ(x_1:V3)=>o5 (F9 a1 2) λ(x_2:V3)=>l7 (D7 (x8 x.1 1)) (some ((0,0,0),8)) (l7 (D7 (x8 x_1.1 x_2.1)) (some ((0,0,0),8)) (l7 (D7 (x8 x_1.2.1 x_2.2.1)) (some ((0,0,0),8)) (l7 (x8 x.2.2 1) (some (x_1,0)) (some (x_2,0))))))))
def jd(n:Int×Int)(args:List V3)(env:bn):Prop:=∃r:V3×Int,RP n args env=some r/\EP n args env=some r
theorem ll0:o9 ([]:List V3)=0:=rfl
theorem ll1(a:V3):o9 [a]=1:=rfl
theorem ll2(a b:V3):o9 [a,b]=2:=rfl
theorem ll3(a b c:V3):o9 [a,b,c]=3:=rfl
theorem la0(a:V3)(l:List V3):F9 (a::l) 0=some a:=rfl
theorem la1(a b:V3)(l:List V3):F9 (a::b::l) 1=some b:=rfl
theorem la2(a b c:V3)(l:List V3):F9 (a::b::c::l) 2=some c:=rfl
def bu:=And.intro @O8 (And.intro @J6 (And.intro @X5 (And.intro @Y4 (And.intro @S9 (And.intro @J9 (And.intro @o7 (And.intro @o6 (And.intro @o8 (And.intro @J7 (And.intro @vC (And.intro @D8 (And.intro @aB (And.intro @ll0 (And.intro @ll1 (And.intro @ll2 (And.intro @ll3 (And.intro @la0 (And.intro @la1 (And.intro @la2 (And.intro @RI (And.intro @b6c (And.intro @wR (And.intro @yN (And.intro @DC (And.intro @Oz (And.intro @a8W (And.intro @b4u (@b4t))))))))))))))))))))))))))))
theorem QV(k N:Int)(env:bn)(hk:k=1\/k=2\/k=3\/k=4\/k=5):jd (k,N) [] env:=by
 rcases hk with rfl|rfl|rfl|rfl|rfl <;>
 .unfold jd RP kS EP Z9 ae;simp (disch:=decide) only[bu];exact⟨_,rfl,rfl⟩
theorem c1x(N:Int)(env:bn):jd (6,N) [] env:=by unfold jd RP kS EP Z9 ae;simp (disch:=decide) only[bu];unfold Ij;cases plB (6,dD IntKind.i64 N 16,dM N 16)<;>exact⟨_,rfl,rfl⟩
theorem c1A(N:Int)(env:bn):jd (9,N) [] env:=by unfold jd RP kS EP Z9 ae;simp (disch:=decide) only[bu];exact⟨_,rfl,rfl⟩
theorem b7k(N:Int)(env:bn):jd (35,N) [] env:=by unfold jd RP kS EP Z9 ae;simp (disch:=decide) only[bu];exact⟨_,rfl,rfl⟩
theorem c1y(N:Int)(env:bn)(h:jm (7,N) env=some true):jd (7,N) [] env:=by
 unfold jm at h;simp (disch:=decide) only[O8,J6,o7,o6]at h;by_cases g:0<=N
 case neg=>rw[Y4 l9]at h;cases h
 rw[X5 g,o7]at h;have h2:=kz.1 (aP h);obtain⟨x,hx,hm⟩:=mV g h2;unfold jd RP kS EP Z9 ae;simp (disch:=decide) only[bu];rw[hx];simp (disch:=decide) only[bu];unfold Ij;cases plB x<;>exact⟨_,rfl,rfl⟩
theorem c1z(N:Int)(env:bn)(h:jm (8,N) env=some true):jd (8,N) [] env:=by
 unfold jm at h;simp (disch:=decide) only[O8,J6,o7,o6]at h;by_cases g:0<=N
 case neg=>rw[Y4 l9]at h;cases h
 rw[X5 g,o7]at h;by_cases h2:N<o9 env.2.2.1
 case neg=>rw[J9 l9]at h;cases h
 obtain⟨x,hx,hm⟩:=mV g h2;unfold jd RP kS EP Z9 ae;simp (disch:=decide) only[bu];rw[hx];simp (disch:=decide) only[bu];unfold Ij;cases plB x<;>exact⟨_,rfl,rfl⟩
def Qz(k:Int)(t:Int×Int):Bool:=l7 (x8 t.2 0) (l7 (x8 k 36) (l7 (x8 t.1 2) true (x8 t.1 3)) (l7 (x8 k 39) (l7 (J5 2 t.1) (J5 t.1 5) false) (x8 t.1 1))) false
theorem a0S(k:Int)(t:Int×Int):Ej k t=some (Qz k t):=by unfold Ej Qz;cases x8 t.2 0<;>cases x8 k 36<;>cases x8 k 39<;>cases x8 t.1 2<;>cases J5 2 t.1<;>rfl
theorem DT(t:Int):tY t=some (l7 (J5 2 t) (J5 t 4) false):=by
 unfold tY;by_cases h2:t=2
 .subst h2;rfl
 by_cases h3:t=3
 .subst h3;rfl
 by_cases h4:t=4
 .subst h4;rfl
 rw[J6 h2,J6 h3,J6 h4];by_cases g:2<=t
 .rw[X5 g,Y4 l9];rfl
 .rw[Y4 l9];rfl
theorem Hg(t:Int):CQ t=some (l7 (J5 2 t) (J5 t 4) false):=DT t
theorem Zr(k:Int)(t:Int×Int):vN k t=some (Qz k t):=by
 unfold vN Qz;cases x8 t.2 0
 .rfl
 cases x8 k 36
 .cases x8 k 39
  .rfl
  .rw[DT];simp only[D8,o6,o7,o8];by_cases g:2<=t.1
   .rw[X5 g];simp only[o7];by_cases g4:t.1<=4
    .rw[X5 g4,X5 (show t.1<=5 by omega)];rfl
    .rw[Y4 l9];by_cases g5:t.1=5
     .rw[O8 g5,X5 l9];rfl
     .rw[J6 g5,Y4 l9];rfl
   .rw[Y4 l9,J6 l9];rfl
 .cases x8 t.1 2<;>rfl
def We(v:V3)(t:Int×Int):Bool:=l7 (plB v) (l7 (x8 v.1 t.1) (x8 v.2.1 t.2) false) false
theorem XD(v:V3)(t:Int×Int):BN v t=some (We v t):=by unfold BN We;rw[yN,o8];cases plB v<;>cases x8 v.1 t.1<;>rfl
theorem b2c(v:V3)(t:Int×Int):Pn v t=some (We v t):=by unfold Pn We;rw[wR,o8];cases plB v<;>cases x8 v.1 t.1<;>rfl
def JL(k a b:Int)(first:Bool):Int:=l7 (x8 k 36) (x9 .i64 a b) (l7 (x8 k 37) (X9 .i64 a b) (l7 (x8 k 38) (l7 (D9 a b) b a) (l7 first b (l7 (D9 a b) b a))))
theorem b2b(k a b:Int)(f:Bool):Ll k a b f=some (JL k a b f):=by unfold Ll JL;cases x8 k 36<;>cases x8 k 37<;>cases x8 k 38<;>cases f<;>cases D9 a b<;>rfl
def a0F(m:List V3)(N:Int)(t:Int×Int):V3⊕Int:=
 match F9 m N with
 |none=> .inr 6|some x=>l7 (x8 x.1 0) (.inr 6) (l7 (We x t) (.inl x) (.inr 8))
def Jr(k N:Int)(t:Int×Int)(b:Int×Bool)(m:List V3):(Int×Bool)⊕(V3×Int):=
 match a0F m N t with
 | .inr c=> .inr ((0,0,0),c)| .inl x=>l7 (plB (t.1,0,JL k b.1 x.2.2 b.2)) (.inl (JL k b.1 x.2.2 b.2,false)) (.inr ((0,0,0),3))
def a6X(k N:Int)(t:Int×Int)(ms:List (List V3)):V3×Int:=
 l7 (Qz k t) (match ik (Jr k N t) ms (l7 (x8 k 37) 1 0,true)with
  | .inr c=>c
  | .inl a=>l7 (x8 k 39) (l7 (x8 (o9 ms) 0) ((0,0,0),6) (Ij (t.1,0,a.1))) (Ij (t.1,0,a.1))) ((0,0,0),8)
theorem a3g(k N:Int)(env:bn)(t:Int×Int)(ht:F9 env.2.2.2.2.1 N=some t)(h0:0<=N)(hl:env.2.2.2.1.length<=1000000):zN (k,N) env=some (a6X k N t env.2.2.2.1):=by
 unfold zN a6X;simp only[ht,o8,a0S];cases Qz k t
 .rfl
 simp only[D8,o6,o7];rw[show l7 (x8 k 37) (some (1:Int)) (some 0)=some (l7 (x8 k 37) 1 0) by cases x8 k 37<;>rfl,o8];apply lV env.2.2.2.1 (Jr k N t) (λb i=>(((0,0,0),b.1,i):V3×Int×Int)) (λb=>(((0,0,0),b.1):V3×Int)) (λi b=>b.2=decide (i=0)) (l7 (x8 k 37) 1 0,true) hl rfl
 .intro i m b hi hi' hb;have hm:=E5 env.2.2.2.1 i;rw[hi]at hm;have hlt:(i:Int)<o9 env.2.2.2.1:=by
   have:=X6.1 hi;obtain⟨h,_⟩:=this;unfold o9;omega
  simp only[S9 hlt,o7,hm,o8];refine⟨?_,?_⟩
  .unfold Jr a0F;by_cases g:o9 m<=N
   .rw[X5 g,jO (.inr (J9 g))];rfl
   .rw[Y4 l9];obtain⟨x,hx,_⟩:=mV h0 (show N<o9 m by omega);simp only[o6,hx,o8];cases x8 x.1 0
    case true=>rfl
    simp only[o6,o8,J7,b2c];cases We x t
    .rfl
    simp only[D8,o6,o7,b2b,o8,RI];have hz:x8 (i:Int) 0=b.2:=by rw[hb];unfold x8;congr 1;simp
    rw[hz];unfold Ij;cases plB (t.1,0,JL k b.1 x.2.2 b.2)
    .rfl
    .rw[Y1 l9];rfl
  .intro b' hb';unfold Jr at hb';cases hf:a0F m N t with
   |inr c=>rw[hf]at hb';cases hb'|inl x=>rw[hf]at hb';simp only at hb';cases hp:plB (t.1,0,JL k b.1 x.2.2 b.2)<;>rw[hp]at hb'<;>cases hb';simp
 .intro b hb;rw[J9 (show o9 env.2.2.2.1<=(env.2.2.2.1.length:Int)from gV _)];rfl
 .intro _;cases ik (Jr k N t) env.2.2.2.1 (l7 (x8 k 37) 1 0,true)with
  |inr c=>rfl|inl a=>simp only[J7,RI,o8];cases x8 k 39<;>cases x8 (o9 env.2.2.2.1) 0<;>rfl
theorem a4D{x:V3}{t:Int×Int}(h:We x t=true):plB x=true/\x.1=t.1/\x.2.1=t.2:=by
 unfold We at h;cases h1:plB x<;>rw[h1]at h
 .cases h
 cases h2:x8 x.1 t.1<;>rw[h2]at h
 .cases h
 simp only[o7]at h;exact⟨rfl,Y5.1 h2,Y5.1 h⟩
variable {k:Int}
theorem Pg(hk:k=1)(h:plB (k,0,n)=true):n=0\/n=1:=by subst hk;rcases a5a h with⟨m,h,g⟩|⟨m,h,g⟩|⟨m,h,g⟩|⟨m,h,g⟩|⟨m,h,g⟩|⟨e',m,h,g⟩<;>cases h;exact g
theorem Uf{t:Int×Int}(h:Qz k t=true):t.2=0:=by
 unfold Qz at h;cases g:x8 t.2 0<;>rw[g]at h
 .cases h
 exact Y5.1 g
theorem a6W{t:Int×Int}(h:Qz 37 t=true):t.1=1:=by have:=Uf h;unfold Qz at h;rw[O8 this]at h;exact Y5.1 h
theorem a8I(k N:Int)(t:Int×Int)(hk:k=36\/k=37\/k=38\/k=39)(ha:Qz k t=true)(b:Int×Bool)(x:V3)(hx:We x t=true)(i:Nat)(hi:i<=1000000)(hb:b.2=decide (i=0))(hp:k=36\/b.2=true/\k=39\/plB (t.1,0,b.1)=true)(v:V3)(hv:v=(0,0,0)):
  (l7 (x8 k 36) (o5 (gQ (t.1,t.2,x9 .i64 b.1 x.2.2)) λ(q:Bool)=>l7 (D7 q) (some (Out.rt (((0,0,0),3):V3×Int))) (some (Out.nx ((v,(t.1,t.2,x9 .i64 b.1 x.2.2),x9 .i64 (i:Int) 1):V3×V3×Int))))
   (l7 (x8 k 37) (some (Out.nx (v,(t.1,t.2,pM b.1 x.2.2),x9 .i64 (i:Int) 1)))
    (l7 (x8 k 38) (some (Out.nx (v,(t.1,t.2,nR b.1 x.2.2),x9 .i64 (i:Int) 1)))
     (l7 (x8 k 39) (l7 (x8 (i:Int) 0) (some (Out.nx (v,x,x9 .i64 (i:Int) 1))) (l7 (D9 b.1 x.2.2) (some (Out.nx (v,x,x9 .i64 (i:Int) 1))) (some (Out.nx (v,(t.1,t.2,b.1),x9 .i64 (i:Int) 1)))))
      (some (Out.nx (v,(t.1,t.2,b.1),x9 .i64 (i:Int) 1)))))):Option (Out (V3×V3×Int) (V3×V3) (V3×Int)))=
  some (match(l7 (plB (t.1,0,JL k b.1 x.2.2 b.2)) (.inl (JL k b.1 x.2.2 b.2,false)) (.inr ((0,0,0),3)):(Int×Bool)⊕(V3×Int))with| .inl b' => .nx ((0,0,0),(t.1,t.2,b'.1),((i+1:Nat):Int))| .inr r=> .rt r)/\
  (k≠36->plB (t.1,0,JL k b.1 x.2.2 b.2)=true):=by
 subst hv;have hz:=Uf ha;obtain⟨hx1,hx2,hx3⟩:=a4D hx;have hxe:x=(t.1,t.2,x.2.2):=by rw[←hx2,←hx3]
 have hxp:plB (t.1,0,x.2.2)=true:=by rw[←hz,←hxe];exact hx1
 obtain⟨acc,fi⟩:=b;simp only at hb hp ⊢;rw[Y1 l9];rcases hk with rfl|rfl|rfl|rfl
 .refine⟨?_,λh=>absurd rfl h⟩;simp (disch:=decide) only[O8,o7,yN,o8];rw[hz,show JL 36 acc x.2.2 fi=x9 .i64 acc x.2.2 from rfl];cases plB (t.1,0,x9 .i64 acc x.2.2)<;>rfl
 .have ht1:=a6W ha;have hp' :plB (t.1,0,acc)=true:=by
   rcases hp with h|h|h
   .exact absurd h J8
   .exact absurd h.2 J8
   .exact h
  have e1:=Pg ht1 hp';have e2:=Pg ht1 hxp;have e3:JL 37 acc x.2.2 fi=pM acc x.2.2/\plB (t.1,0,JL 37 acc x.2.2 fi)=true:=by rw[ht1];generalize x.2.2=q at e2 ⊢;rcases e1 with rfl|rfl<;>rcases e2 with rfl|rfl<;>exact⟨rfl,rfl⟩
  refine⟨?_,λ_=>e3.2⟩;simp (disch:=decide) only[O8,J6,o7,o6];rw[e3.2,e3.1,o7]
 .have ht1:t.1=1:=by
   unfold Qz at ha;rw[O8 hz]at ha;exact Y5.1 ha
  have hp' :plB (t.1,0,acc)=true:=by
   rcases hp with h|h|h
   .exact absurd h J8
   .exact absurd h.2 J8
   .exact h
  have e1:=Pg ht1 hp';have e2:=Pg ht1 hxp;have e3:JL 38 acc x.2.2 fi=nR acc x.2.2/\plB (t.1,0,JL 38 acc x.2.2 fi)=true:=by rw[ht1];generalize x.2.2=q at e2 ⊢;rcases e1 with rfl|rfl<;>rcases e2 with rfl|rfl<;>exact⟨rfl,rfl⟩
  refine⟨?_,λ_=>e3.2⟩;simp (disch:=decide) only[O8,J6,o7,o6];rw[e3.2,e3.1,o7]
 .have hf:JL 39 acc x.2.2 fi=l7 fi x.2.2 (l7 (D9 acc x.2.2) x.2.2 acc):=rfl;simp (disch:=decide) only[O8,J6,o7,o6];rw[hf];have hz' :x8 (i:Int) 0=fi:=by rw[hb];unfold x8;congr 1;simp
  rw[hz'];cases fi
  case true=>simp only[o7,hxp];exact⟨by rw[←hxe],λ_=>trivial⟩
  case false=>
   have hp' :plB (t.1,0,acc)=true:=by
    rcases hp with h|h|h
    .exact absurd h J8
    .exact absurd h.1 A7
    .exact h
   simp only[o6];cases D9 acc x.2.2
   .simp only[o6,hp',o7];exact⟨trivial,λ_=>trivial⟩
   .simp only[o7,hxp];exact⟨by rw[←hxe],λ_=>trivial⟩
theorem a8a{γ:Type}(c:Option γ)(K:γ->Option (V3×Int)):a7Z (o5 c K)=o5 c λo=>a7Z (K o):=by cases c<;>rfl
theorem Bi{α β ρ:Type}(G:β->α->β⊕ρ)(P:ρ->Prop)(hG:∀b a r,G b a= .inr r->P r):∀(l:List α) (b:β) (r:ρ),ik G l b= .inr r->P r
 |[],b,r,h=>by cases h|a::l,b,r,h=>by
  unfold ik at h;cases hg:G b a with
  |inr r' =>rw[hg]at h;simp only at h;cases h;exact hG _ _ _ hg|inl b' =>rw[hg]at h;exact Bi G P hG l b' r h
theorem b0R(k N:Int)(t:Int×Int)(b:Int×Bool)(m:List V3)(r:V3×Int)(h:Jr k N t b m= .inr r):r=((0,0,0),6)\/r=((0,0,0),8)\/r=((0,0,0),3):=by
 unfold Jr at h;cases hf:a0F m N t with
 |inr c=>
  rw[hf]at h;simp only at h;cases h;unfold a0F at hf;cases hm:F9 m N with
  |none=>rw[hm]at hf;cases hf;exact .inl rfl|some x=>
   rw[hm]at hf;simp only at hf;cases h1:x8 x.1 0<;>rw[h1]at hf
   .cases h2:We x t<;>rw[h2]at hf<;>cases hf;exact .inr (.inl rfl)
   .cases hf;exact .inl rfl
 |inl x=>rw[hf]at h;simp only at h;cases h1:plB (t.1,0,JL k b.1 x.2.2 b.2)<;>rw[h1]at h<;>cases h;exact .inr (.inr rfl)
theorem Wq(k N:Int)(env:bn)(hk:k=36\/k=37\/k=38\/k=39)(he:jm (k,N) env=some true)(hl:env.2.2.2.1.length<=1000000):jd (k,N) [] env:=by
 have hN:0<=N/\N<o9 env.2.2.2.2.1:=by
  unfold jm at he;rcases hk with rfl|rfl|rfl|rfl <;>
  .simp (disch:=decide) only[O8,J6,o7,o6,o8]at he;by_cases g:0<=N
   case neg=>rw[Y4 l9]at he;cases he
   rw[X5 g,o7]at he;exact⟨g,kz.1 (aP he)⟩
 obtain⟨t,ht,_⟩:=mV hN.1 hN.2;refine⟨a6X k N t env.2.2.2.1,?_,?_⟩
 .unfold RP;rw[ll0,show J5 36 k=true from X5 l9,show J5 k 39=true from X5 l9,a3g k N env t ht hN.1 hl];rfl
 have hA:Z9 (k,N) [] env=some (Qz k t):=by
  unfold Z9;rcases hk with rfl|rfl|rfl|rfl <;>
  .simp (disch:=decide) only[O8,J6,o7,o6,o8,ht,Zr,vC]
 have hC:ae (k,N) [] env=uG (k,N) env:=by
  unfold ae;rcases hk with rfl|rfl|rfl|rfl <;>
  .simp (disch:=decide) only[O8,J6,o7,o6,o8];generalize uG _ env=o;cases o<;>rfl
 unfold EP;rw[hA,o8,hC];unfold a6X;cases ha:Qz k t
 .rfl
 simp only[D8,o6,o7];have hz:=Uf ha;unfold uG;simp only[ht,o8];rw[show l7 (x8 k 37) (some (t.1,t.2,(1:Int))) (some (t.1,t.2,0))=some (t.1,t.2,l7 (x8 k 37) 1 0) by cases x8 k 37<;>rfl,o8];have hinit:k=36\/(true=true/\k=39)\/plB (t.1,0,l7 (x8 k 37) 1 0)=true:=by
  rcases hk with rfl|rfl|rfl|rfl
  .exact .inl rfl
  .right;right;rw[a6W ha];rfl
  .right;right;have ht1:t.1=1:=by
    unfold Qz at ha;rw[O8 hz]at ha;exact Y5.1 ha
   rw[ht1];rfl
  .exact .inr (.inl ⟨rfl,rfl⟩)
 by_cases hz0:k=39/\o9 env.2.2.2.1=0
 .rw[O8 hz0.1,O8 hz0.2];have:env.2.2.2.1=[]:=by have:=hz0.2;unfold o9 at this;exact O7.1 l9
  rw[this];rfl
 rw[show(l7 (x8 k 39) (l7 (x8 (o9 env.2.2.2.1) 0) (some (Sum.inr (((0,0,0),6):V3×Int))) (some (Sum.inl ((0,0,0):V3)))) (some (Sum.inl (0,0,0))))=some (.inl (0,0,0)) by
  by_cases h1:k=39
  .rw[O8 h1,J6 (λh=>hz0 ⟨h1,h⟩)];rfl
  .rw[J6 h1];rfl]
 simp only[o8,J7];have hend:(match ik (Jr k N t) env.2.2.2.1 (l7 (x8 k 37) 1 0,true)with
  | .inr c=>c
  | .inl a=>l7 (x8 k 39) (l7 (x8 (o9 env.2.2.2.1) 0) ((0,0,0),6) (Ij (t.1,0,a.1))) (Ij (t.1,0,a.1)))=(match ik (Jr k N t) env.2.2.2.1 (l7 (x8 k 37) 1 0,true)with
  | .inr c=>c
  | .inl a=>Ij (t.1,0,a.1)):=by
  cases ik (Jr k N t) env.2.2.2.1 (l7 (x8 k 37) 1 0,true)with
  |inr c=>rfl|inl a=>
   by_cases h1:k=39
   .rw[O8 h1,J6 (λh=>hz0 ⟨h1,h⟩)];rfl
   .rw[J6 h1];rfl
 refine Eq.trans ?_ (congrArg some hend.symm);rw[a8a];apply lV env.2.2.2.1 (Jr k N t) (λb i=>(((0,0,0),(t.1,t.2,b.1),i):V3×V3×Int)) (λb=>(((0,0,0),(t.1,t.2,b.1)):V3×V3)) (λi b=>b.2=decide (i=0)/\(k=36\/(b.2=true/\k=39)\/plB (t.1,0,b.1)=true)) (l7 (x8 k 37) 1 0,true) hl ⟨rfl,hinit⟩
 .intro i m b hi hi' hb;have hm:=E5 env.2.2.2.1 i;rw[hi]at hm;have hlt:(i:Int)<o9 env.2.2.2.1:=by
   have:=X6.1 hi;obtain⟨h,_⟩:=this;unfold o9;omega
  simp only[S9 hlt,o7,hm,o8];by_cases g:o9 m<=N
  .have e:Jr k N t b m= .inr ((0,0,0),6):=by unfold Jr a0F;rw[jO (.inr (J9 g))]
   rw[e];refine⟨?_,λ_ h=>by cases h⟩;rw[X5 g];rfl
  rw[Y4 l9];obtain⟨x,hx,_⟩:=mV hN.1 (show N<o9 m by omega);simp only[o6,hx,o8];cases h0:x8 x.1 0
  case true=>
   have e:Jr k N t b m= .inr ((0,0,0),6):=by unfold Jr a0F;rw[hx];simp only[h0];rfl
   rw[e];exact⟨rfl,λ_ h=>by cases h⟩
  simp only[o6,o8,J7,XD];cases hh:We x t
  .have e:Jr k N t b m= .inr ((0,0,0),8):=by unfold Jr a0F;rw[hx];simp only[h0,hh];rfl
   rw[e];exact⟨rfl,λ_ h=>by cases h⟩
  have e:Jr k N t b m=l7 (plB (t.1,0,JL k b.1 x.2.2 b.2)) (.inl (JL k b.1 x.2.2 b.2,false)) (.inr ((0,0,0),3)):=by unfold Jr a0F;rw[hx];simp only[h0,hh,o7,o6]
  obtain⟨s1,s2⟩:=a8I k N t hk ha b x hh i hi' hb.1 hb.2 (0,0,0) rfl;refine⟨?_,?_⟩
  .rw[e,D8,o6];refine Eq.trans (Eq.trans ?_ s1) ?_
   .rfl
   .cases plB (t.1,0,JL k b.1 x.2.2 b.2)<;>rfl
  .intro b' hb';rw[e]at hb';cases hp:plB (t.1,0,JL k b.1 x.2.2 b.2)<;>rw[hp]at hb'<;>cases hb';exact⟨A7,.inr (.inr hp)⟩
 .intro b hb;rw[J9 (show o9 env.2.2.2.1<=(env.2.2.2.1.length:Int)from gV _)];rfl
 .intro hf;cases hq:ik (Jr k N t) env.2.2.2.1 (l7 (x8 k 37) 1 0,true)with
  |inr c=>rcases Bi (Jr k N t) (λr=>r=((0,0,0),6)\/r=((0,0,0),8)\/r=((0,0,0),3)) (b0R k N t) _ _ _ hq with rfl|rfl|rfl<;>rfl
  |inl a=>simp only[J7,DC,Oz,hz]
theorem a7k{k e n:Int}(hk:k=5)(h:plB (k,e,n)=true):0<=n/\n<=109572:=by subst hk;rcases a5a h with⟨m,h,g⟩|⟨m,h,g⟩|⟨m,h,g⟩|⟨m,h,g⟩|⟨m,h,g⟩|⟨e',m,h,g⟩<;>cases h;exact g
theorem b6Y(N:Int)(x:V3)(env:bn):jd (10,N) [x] env:=by
 unfold jd RP EP tq Z9 ae GI sD;simp (disch:=decide) only[bu];simp only[Hg,DT,o8];cases l7 (J5 2 x.1) (J5 x.1 4) false
 .exact⟨_,rfl,rfl⟩
 .simp (disch:=decide) only[bu];exact⟨_,rfl,rfl⟩
theorem b7d(N:Int)(x:V3)(env:bn):jd (25,N) [x] env:=by
 unfold jd RP EP tq Z9 ae GI sD;simp (disch:=decide) only[bu];cases x8 x.1 1
 .exact⟨_,rfl,rfl⟩
 .simp (disch:=decide) only[bu];exact⟨_,rfl,rfl⟩
theorem a6u(k N:Int)(x:V3)(env:bn)(hk:k=31\/k=32)(hx:plB x=true):jd (k,N) [x] env:=by
 have hAB:∃q:Int×Int×Int,x.1=5->xH x.2.2=some q/\Bz x.2.2=some q:=⟨_,λh=>⟨Ec (a7k h hx).1 (a7k h hx).2,NQ (a7k h hx).1 (a7k h hx).2⟩⟩;obtain⟨q,hAB⟩:=hAB;rcases hk with rfl|rfl
 all_goals
  unfold jd RP EP tq Z9 ae GI sD;simp (disch:=decide) only[bu];cases h5:x8 x.1 5
  .simp only[aB,o7,o8,vC];exact⟨_,rfl,rfl⟩
  rw[(hAB (Y5.1 h5)).1,(hAB (Y5.1 h5)).2];simp (disch:=decide) only[bu];exact⟨_,rfl,rfl⟩
theorem b7i(N:Int)(x:V3)(env:bn)(hx:plB x=true)(he:jm (33,N) env=some true)(ht:∀t∈env.2.2.2.2.2,xB t):jd (33,N) [x] env:=by
 unfold jm at he;simp (disch:=decide) only[O8,J6,o7,o6,o8]at he;by_cases g:0<=N
 case neg=>rw[Y4 l9]at he;cases he
 rw[X5 g,o7]at he;obtain⟨t,hq,hm⟩:=mV g (kz.1 (aP he));have hr:=ht t hm;unfold jd RP EP tq Z9 ae Lm;simp (disch:=decide) only[bu];simp only[hq,o8,XD,We,hx,o7];by_cases h1:x.1=t.2.1.1
 case neg=>rw[J6 h1];exact⟨_,rfl,rfl⟩
 rw[O8 h1];by_cases h2:x.2.1=t.2.1.2
 case neg=>rw[J6 h2];exact⟨_,rfl,rfl⟩
 rw[O8 h2];by_cases h3:1<=t.2.2.1.1
 case neg=>rw[Y4 (kV.1 h3),S9 (kV.1 h3)];exact⟨_,rfl,rfl⟩
 rw[X5 h3,J9 h3];by_cases h4:t.2.2.1.1<=6
 case neg=>rw[Y4 (kV.1 h4),S9 (kV.1 h4)];exact⟨_,rfl,rfl⟩
 rw[X5 h4,J9 h4];simp (disch:=decide) only[bu];rw[a8m _ _ (by have:=hr.1;omega),a5e _ _ (by have:=hr.1;omega)];simp (disch:=decide) only[bu];cases hl:XO t.2.2.2 env.1 x.2.2 with
 |mk i b=>
  cases b
  .exact⟨_,rfl,rfl⟩
  .obtain⟨l1,l2⟩:=b0L hl;obtain⟨row,hrow,_⟩:=mV l1 l2;simp (disch:=decide) only[bu];rw[hrow];simp (disch:=decide) only[bu];unfold Ij;cases plB (t.2.2.1.1,t.2.2.1.2,row.2.2.2)<;>exact⟨_,rfl,rfl⟩
theorem b7j(N:Int)(x:V3)(env:bn)(h0:0<=N)(hI:N<=9223372036854775807)(he:jm (34,N) env=some true)(ht:∀t∈env.2.2.2.2.2,xB t):jd (34,N) [x] env:=by
 unfold jm at he;simp (disch:=decide) only[O8,J6,o7,o6,o8]at he;have hq0:0<=dD .i64 N 8:=by
  rw[show dD .i64 N 8=N / 8 by unfold dD;rw[Int.tdiv_eq_ediv_of_nonneg h0];exact mi O5]
  omega
 obtain⟨t,hq,hm⟩:=mV hq0 (kz.1 (aP he));have hr:=ht t hm;unfold jd RP EP tq Z9 ae;simp (disch:=decide) only[bu];simp only[hq,o8];cases x8 x.1 3
 .exact⟨_,rfl,rfl⟩
 cases x8 t.2.1.1 3
 .exact⟨_,rfl,rfl⟩
 cases x8 t.2.1.2 0
 .exact⟨_,rfl,rfl⟩
 cases x8 t.2.2.1.1 4
 .exact⟨_,rfl,rfl⟩
 cases x8 t.2.2.1.2 0
 .exact⟨_,rfl,rfl⟩
 simp (disch:=decide) only[bu];rw[show aj true true=true from rfl];simp (disch:=decide) only[bu];rw[a1T _ _ _ hr,a0T _ _ _ hr];simp (disch:=decide) only[bu];exact⟨_,rfl,rfl⟩
theorem WE(x y:V3):tZ x y=some (l7 (x8 x.1 y.1) (x8 x.2.1 y.2.1) false):=by unfold tZ;cases x8 x.1 y.1<;>rfl
theorem a6r(k N:Int)(x y:V3)(env:bn)(hk:k=11\/k=12):jd (k,N) [x,y] env:=by
 rcases hk with rfl|rfl
 all_goals
  (unfold jd RP EP Z9 ae kw aV iL;simp (disch:=decide) only[bu])
  unfold qN;simp (disch:=decide) only[bu];simp only[WE,DT,Hg,o8];cases x8 x.1 y.1
  .exact⟨_,rfl,rfl⟩
  cases x8 x.2.1 y.2.1
  .exact⟨_,rfl,rfl⟩
  cases l7 (J5 2 x.1) (J5 x.1 4) false
  .exact⟨_,rfl,rfl⟩
  simp (disch:=decide) only[bu];exact⟨_,rfl,rfl⟩
theorem a9L(k N:Int)(x y:V3)(env:bn)(hk:k=19\/k=20):jd (k,N) [x,y] env:=by
 rcases hk with rfl|rfl
 all_goals
  (unfold jd RP EP Z9 ae kw aV iL;simp (disch:=decide) only[bu])
  unfold qN;simp (disch:=decide) only[bu];simp only[WE,DT,Hg,o8];cases x8 x.1 y.1
  .exact⟨_,rfl,rfl⟩
  cases x8 x.2.1 y.2.1
  .exact⟨_,rfl,rfl⟩
  simp (disch:=decide) only[bu];exact⟨_,rfl,rfl⟩
theorem a6t(k N:Int)(x y:V3)(env:bn)(hk:k=21\/k=22):jd (k,N) [x,y] env:=by
 rcases hk with rfl|rfl
 all_goals
  (unfold jd RP EP Z9 ae kw aV iL;simp (disch:=decide) only[bu])
  unfold qN;simp (disch:=decide) only[bu];simp only[WE,DT,Hg,o8];cases x8 x.1 y.1
  .exact⟨_,rfl,rfl⟩
  cases x8 x.2.1 y.2.1
  .exact⟨_,rfl,rfl⟩
  simp (disch:=decide) only[bu];cases l7 (J5 2 x.1) (J5 x.1 4) false
  .simp (disch:=decide) only[bu];cases x8 x.1 5
   .exact⟨_,rfl,rfl⟩
   simp (disch:=decide) only[bu];exact⟨_,rfl,rfl⟩
  simp (disch:=decide) only[bu];exact⟨_,rfl,rfl⟩
theorem WR(k N:Int)(x y:V3)(env:bn)(hk:k=17\/k=18)(hx:plB x=true)(hy:plB y=true):jd (k,N) [x,y] env:=by
 have mx:Ij x=(x,0):=by unfold Ij;rw[hx];rfl
 have my:Ij y=(y,0):=by unfold Ij;rw[hy];rfl
 have hE:x.1=y.1->x.2.1=y.2.1->x.2.2=y.2.2->x=y:=λh1 h2 h3=>by rw[show x=(x.1,x.2.1,x.2.2)from rfl,h1,h2,h3]
 have fin:x.1=y.1->x.2.1=y.2.1->∀b:Bool,(∃r:V3×Int,l7 (jl b (D9 x.2.2 y.2.2)) (some (x,0)) (some (y,0))=some r/\a7Z (l7 (jl b (D9 y.2.2 x.2.2)) (some (y,0)) (some (x,0)))=some r):=by
  intro h1 h2 b;by_cases g:x.2.2<y.2.2
  .rw[S9 g,J9 (Int.le_of_lt g)];cases b
   .exact⟨(y,0),rfl,by rw[show l7 (jl false false) (some (y,(0:Int))) (some (x,0))=some (y,0)from rfl,DC,Oz,my]⟩
   .exact⟨(x,0),rfl,by rw[show l7 (jl true false) (some (y,(0:Int))) (some (x,0))=some (x,0)from rfl,DC,Oz,mx]⟩
  by_cases g' :y.2.2<x.2.2
  .rw[S9 g',J9 (Int.le_of_lt g')];cases b
   .exact⟨(x,0),rfl,by rw[show l7 (jl false true) (some (y,(0:Int))) (some (x,0))=some (x,0)from rfl,DC,Oz,mx]⟩
   .exact⟨(y,0),rfl,by rw[show l7 (jl true true) (some (y,(0:Int))) (some (x,0))=some (y,0)from rfl,DC,Oz,my]⟩
  have e:=hE h1 h2 (Int.le_antisymm (iP.1 g') (iP.1 g));refine⟨(x,0),?_,?_⟩
  .rw[e];cases jl b (D9 y.2.2 y.2.2)<;>rfl
  .rw[←e];rw[show l7 (jl b (D9 x.2.2 x.2.2)) (some (x,(0:Int))) (some (x,0))=some (x,0) by cases jl b (D9 x.2.2 x.2.2)<;>rfl,DC,Oz,mx]
 have osum:∀(c:Bool),(o5 (l7 c (some (Sum.inr (y,(0:Int)):V3⊕(V3×Int))) (some (.inr (x,0)))) λo=>U6 o (λ_=>o5 (oO x.2.2 y.2.2) λ(q:Int)=>some ((2,0,q),(0:Int))) λr=>some r)=l7 c (some (y,0)) (some (x,0)):=λc=>by cases c<;>rfl
 rcases hk with rfl|rfl
 all_goals
  (unfold jd RP EP Z9 ae kw aV iL;simp (disch:=decide) only[bu])
  unfold qN;simp (disch:=decide) only[bu];simp only[WE,DT,Hg,o8];cases g1:x8 x.1 y.1
  .exact⟨_,rfl,rfl⟩
  cases g2:x8 x.2.1 y.2.1
  .exact⟨_,rfl,rfl⟩
  simp (disch:=decide) only[bu];have F:=fin (Y5.1 g1) (Y5.1 g2);rw[osum];cases l7 (J5 2 x.1) (J5 x.1 4) false
  .simp (disch:=decide) only[bu];cases x8 x.1 5
   .exact⟨_,rfl,rfl⟩
   simp (disch:=decide) only[bu];simp only[fJ];first|exact F true|exact F false
  simp (disch:=decide) only[bu];simp only[fJ];first|exact F true|exact F false
theorem b7e(N:Int)(x y:V3)(env:bn):jd (27,N) [x,y] env:=by
 (unfold jd RP EP Z9 ae kw aV iL;simp (disch:=decide) only[bu])
 unfold yh;simp (disch:=decide) only[bu];cases g1:x8 x.1 5
 .exact⟨_,rfl,rfl⟩
 cases x8 y.1 2
 .exact⟨_,rfl,rfl⟩
 simp (disch:=decide) only[bu];rw[Y5.1 g1];exact⟨_,rfl,rfl⟩
theorem b7f(N:Int)(x y:V3)(env:bn):jd (28,N) [x,y] env:=by
 have hA:∃q,uC x.2.2 y.2.2=some q/\mO x.2.2 y.2.2=some q:=⟨_,QU _ _,Qd _ _⟩;obtain⟨q,h1,h2⟩:=hA
 (unfold jd RP EP Z9 ae kw aV iL;simp (disch:=decide) only[bu])
 unfold yh;simp (disch:=decide) only[bu];cases g1:x8 x.1 5
 .exact⟨_,rfl,rfl⟩
 cases x8 y.1 2
 .exact⟨_,rfl,rfl⟩
 simp (disch:=decide) only[bu];rw[h1,h2];simp (disch:=decide) only[bu];exact⟨_,rfl,rfl⟩
theorem b7g(N:Int)(x y:V3)(env:bn):jd (29,N) [x,y] env:=by
 (unfold jd RP EP Z9 ae kw aV iL;simp (disch:=decide) only[bu])
 unfold yh;simp (disch:=decide) only[bu];cases g1:x8 x.1 5
 .exact⟨_,rfl,rfl⟩
 cases x8 y.1 5
 .exact⟨_,rfl,rfl⟩
 simp (disch:=decide) only[bu];exact⟨_,rfl,rfl⟩
theorem b7h(N:Int)(x y:V3)(env:bn):jd (30,N) [x,y] env:=by
 have hA:∃q,oO x.2.2 y.2.2=some q/\qM x.2.2 y.2.2=some q:=⟨_,Wn _ _,Ur _ _⟩;obtain⟨q,h1,h2⟩:=hA
 (unfold jd RP EP Z9 ae kw aV iL;simp (disch:=decide) only[bu])
 unfold yh;simp (disch:=decide) only[bu];cases g1:x8 x.1 5
 .exact⟨_,rfl,rfl⟩
 cases x8 y.1 5
 .exact⟨_,rfl,rfl⟩
 simp (disch:=decide) only[bu];rw[h1,h2];simp (disch:=decide) only[bu];exact⟨_,rfl,rfl⟩
theorem b7a(N:Int)(x y:V3)(env:bn):jd (14,N) [x,y] env:=by
 have hA:∃q,Hl x.2.2 y.2.2 N=some q/\EG x.2.2 y.2.2 N=some q:=⟨_,a9M _ _ _,a8P _ _ _⟩;have hB:∃q,NP x.2.2 y.2.2 N=some q/\JZ x.2.2 y.2.2 N=some q:=⟨_,b5t _ _ _,b2d _ _ _⟩;obtain⟨q,h1,h2⟩:=hA;obtain⟨q',h3,h4⟩:=hB
 (unfold jd RP EP Z9 ae kw aV iL;simp (disch:=decide) only[bu])
 unfold yT Bh;simp (disch:=decide) only[bu];rw[h1,h2,h3,h4];cases x8 y.1 4
 .exact⟨_,rfl,rfl⟩
 by_cases g3:x.1=3
 .rw[O8 g3];simp (disch:=decide) only[bu];exact⟨_,rfl,rfl⟩
 rw[J6 g3];simp (disch:=decide) only[bu];cases x8 x.1 4
 .exact⟨_,rfl,rfl⟩
 simp (disch:=decide) only[bu];exact⟨_,rfl,rfl⟩
theorem b7c(N:Int)(x y:V3)(env:bn):jd (16,N) [x,y] env:=by
 have hA:∃q,zJ x.2.2 y.2.2 N=some q/\zM x.2.2 y.2.2 N=some q:=⟨_,a5n _ _ _,a3j _ _ _⟩;obtain⟨q,h1,h2⟩:=hA
 (unfold jd RP EP Z9 ae kw aV iL;simp (disch:=decide) only[bu])
 unfold yT Bh;simp (disch:=decide) only[bu];rw[h1,h2];cases x8 x.1 3
 .exact⟨_,rfl,rfl⟩
 cases x8 y.1 3
 .exact⟨_,rfl,rfl⟩
 simp (disch:=decide) only[bu];exact⟨_,rfl,rfl⟩
theorem b7b(N:Int)(x y:V3)(env:bn):jd (15,N) [x,y] env:=by
 have hA:∃q,jA x.2.2 y.2.2 N=some q/\xY x.2.2 y.2.2 N=some q:=⟨_,Iy _ _ _,a0V _ _ _⟩;have hB:∃q,xW x.2.2 y.2.2 N=some q/\wI x.2.2 y.2.2 N=some q:=⟨_,a0v _ _ _,ZA _ _ _⟩;obtain⟨q,h1,h2⟩:=hA;obtain⟨q',h3,h4⟩:=hB
 (unfold jd RP EP Z9 ae kw aV iL;simp (disch:=decide) only[bu])
 unfold yT Bh;simp (disch:=decide) only[bu];rw[h1,h2,h3,h4];by_cases g2:y.1=2
 .rw[O8 g2,J6 (show y.1≠3 by rw[g2];decide)];simp (disch:=decide) only[bu];by_cases g3:x.1=3
  .rw[O8 g3,J6 (show x.1≠2 by rw[g3];decide)];simp (disch:=decide) only[bu];exact⟨_,rfl,rfl⟩
  rw[J6 g3];cases x8 x.1 2
  .exact⟨_,rfl,rfl⟩
  simp (disch:=decide) only[bu];exact⟨_,rfl,rfl⟩
 rw[J6 g2];simp (disch:=decide) only[bu];cases x8 x.1 3
 .exact⟨_,rfl,rfl⟩
 simp (disch:=decide) only[bu];cases x8 y.1 3
 .exact⟨_,rfl,rfl⟩
 simp (disch:=decide) only[bu];exact⟨_,rfl,rfl⟩
theorem Be(n:Int):(n<0/\Y6 n=-n)\/(0<=n/\Y6 n=n):=by
 unfold Y6;by_cases h:n<0
 .left;exact⟨h,if_pos h⟩
 .right;exact⟨l9,if_neg h⟩
theorem a6o(a b:Int):(l7 (D7 (jl (D9 a 0) (D9 b 0))) (-(Y6 a*Y6 b)) (Y6 a*Y6 b))=a*b:=by
 rcases Be a with⟨h1,e1⟩|⟨h1,e1⟩<;>rcases Be b with⟨h2,e2⟩|⟨h2,e2⟩<;>rw[e1,e2]
 .rw[S9 h1,S9 h2];show -a*-b=a*b;rw[Int.neg_mul_neg]
 .rw[S9 h1,J9 h2];show -(-a*b)=a*b;rw[jI,Int.neg_neg]
 .rw[J9 h1,S9 h2];show -(a*-b)=a*b;rw[Int.mul_neg,Int.neg_neg]
 .rw[J9 h1,J9 h2];rfl
theorem a5b(ha:-1000000000000000<=a/\a<=1000000000000000)(hb:-1000000000000<=b/\b<=1000000000000):yF a b=some (l7 (D9 1000000000000000 (Y6 a*Y6 b)) (0,3) (a*b,0)):=by
 unfold yF;rw[Ry l9 l9,Ry l9 l9];have A0:0<=Y6 a/\Y6 a<=1000000000000000:=by rcases Be a with⟨h1,e1⟩|⟨h1,e1⟩<;>omega
 have B0:0<=Y6 b/\Y6 b<=1000000000000:=by rcases Be b with⟨h1,e1⟩|⟨h1,e1⟩<;>omega
 rw[RX A0.1 l9 B0.1 l9,o8];have hm:=a6o a b;have hp:0<=Y6 a*Y6 b:=P6 A0.1 B0.1;generalize Y6 a*Y6 b=p at hm hp ⊢;simp only;by_cases g:p / 18446744073709551616=0
 case neg=>rw[J6 g,S9 (show(1000000000000000:Int)<p by omega)];rfl
 rw[O8 g,show p % 18446744073709551616=p by omega];by_cases g2:1000000000000000<p
 .rw[S9 g2];rfl
 rw[J9 l9];simp only[D8,o6];rw[show wrap .i64 p=p from mi O5,P8 O5,show(0:Int) -p=-p by omega];rw[←hm];cases D7 (jl (D9 a 0) (D9 b 0))<;>rfl
theorem Ls{x y M:Int}(W:V3×Int)(hy:0<=y)(hM:0<=M)(hM2:M<=1000000000000000):l7 (D7 (x8 y 0)) (o5 (pO .i64 M y) λ(q:Int)=>l7 (D9 q x) (some ((0,0,0),3)) (some W)) (some W)=some (l7 (D9 M (x*y)) ((0,0,0),3) W):=by
 by_cases h:y=0
 .subst h;rw[O8 rfl,Int.mul_zero,J9 hM];rfl
 rw[J6 h];simp only[aB,o7];rw[wO hM l9 l9,o8];have e:M / y<x↔M<x*y:=Int.ediv_lt_iff_lt_mul l9;by_cases g:M / y<x
 .rw[S9 g,S9 (e.1 g)];rfl
 .rw[J9 (iP.1 g),J9 (iP.1 λh=>g (e.2 h))];rfl
variable {M:Int}
theorem a3i(hM:yS k=some (-M,M))(hM0:0<=M)(hM2:M<=1000000000000000)(ha:-1000000000000000<=a/\a<=1000000000000000)(hb:-1000000000000<=b/\b<=1000000000000):wU k a b=some (l7 (D9 M (Y6 a*Y6 b)) ((0,0,0),3) (Ij (k,0,X9 .i64 a b))):=by
 unfold wU;rw[hM,o8];simp only[RI,o8];have sa:I7 .i64 0 a=-a:=by rw[P8 O5];omega
 have sb:I7 .i64 0 b=-b:=by rw[P8 O5];omega
 rw[sa,sb];rcases Be a with⟨h1,e1⟩|⟨h1,e1⟩<;>rcases Be b with⟨h2,e2⟩|⟨h2,e2⟩<;>rw[e1,e2]
 .rw[S9 h1,S9 h2];exact Ls _ l9 hM0 hM2
 .rw[S9 h1,J9 h2];exact Ls _ l9 hM0 hM2
 .rw[J9 h1,S9 h2];exact Ls _ l9 hM0 hM2
 .rw[J9 h1,J9 h2];exact Ls _ l9 hM0 hM2
theorem Yo(hk:Gz k=(-M,M))(hM0:0<=M)(hM2:M<=1000000000000000)(ha:-1000000000000000<=a/\a<=1000000000000000)(hb:-1000000000000<=b/\b<=1000000000000):∃r:V3×Int,wU k a b=some r/\∃q:Int×Int,yF a b=some q/\Zf (k,0,q.1) q.2=r:=by
 refine⟨_,a3i (by rw[a6z,hk]) hM0 hM2 ha hb,_,a5b ha hb,?_⟩;have hm:=a6o a b;have hmd:Y6 a*Y6 b=Y6 (a*b):=by rcases Be (a*b)with⟨h,e⟩|⟨h,e⟩<;>(have hn:=P6 (lD a) (lD b);cases hq:D7 (jl (D9 a 0) (D9 b 0))<;>rw[hq]at hm<;>simp only[o7,o6]at hm<;>omega)
 rw[hmd];have habs:=Be (a*b);have hI:Y6 (a*b)<=1000000000000000->X9 .i64 a b=a*b:=λh=>lQ O5;have hpl:M<Y6 (a*b)->plB (k,0,a*b)=false:=by
  intro h;unfold plB;rw[hk];simp only;by_cases g:-M<=a*b
  .rw[X5 g,Y4 (show M<a*b by omega)];rfl
  .rw[Y4 l9];rfl
 generalize a*b=p at*;by_cases g:1000000000000000<Y6 p
 .rw[S9 g,S9 l9];rfl
 rw[J9 l9,hI l9];simp only[o6,Oz];by_cases g2:M<Y6 p
 .rw[S9 g2];unfold Ij;rw[hpl g2];rfl
 .rw[J9 l9];rfl
theorem a7l{k e n:Int}(h:plB (k,e,n)=true):(k=2->-1000000000000<=n/\n<=1000000000000)/\(k=3->-1000000000000000<=n/\n<=1000000000000000):=by rcases a5a h with⟨m,h,g⟩|⟨m,h,g⟩|⟨m,h,g⟩|⟨m,h,g⟩|⟨m,h,g⟩|⟨e',m,h,g⟩<;>cases h<;>exact⟨λh=>by first|exact g|exact absurd h J8,λh=>by first|exact g|exact absurd h J8⟩
theorem b6Z(N:Int)(x y:V3)(env:bn)(hx:plB x=true)(hy:plB y=true):jd (13,N) [x,y] env:=by
 have hX:=a7l (k:=x.1) (e:=x.2.1) (n:=x.2.2) hx;have hY:=a7l (k:=y.1) (e:=y.2.1) (n:=y.2.2) hy;have key:y.1=2->x.1=2\/x.1=3->∃r:V3×Int,wU x.1 x.2.2 y.2.2=some r/\∃q:Int×Int,yF x.2.2 y.2.2=some q/\Zf (x.1,0,q.1) q.2=r:=by
  intro h2 h;have hb:=hY.1 h2;rcases h with h|h
  .have ha:=hX.1 h;exact Yo (M:=1000000000000) (by rw[h];rfl) J8 J8 ⟨Int.le_trans J8 ha.1,Int.le_trans ha.2 J8⟩ hb
  .have ha:=hX.2 h;exact Yo (M:=1000000000000000) (by rw[h];rfl) J8 J8 ha hb
 (unfold jd RP EP Z9 ae kw aV iL;simp (disch:=decide) only[bu])
 unfold yT Bh;simp (disch:=decide) only[bu];cases g2:x8 y.1 2
 .exact⟨_,rfl,rfl⟩
 by_cases g3:x.1=3
 .obtain⟨r,e1,q,e2,e3⟩:=key (Y5.1 g2) (.inr g3);rw[O8 g3,J6 (show x.1≠2 by rw[g3];decide)];simp (disch:=decide) only[bu];rw[e1,e2];simp (disch:=decide) only[bu];exact⟨_,rfl,congrArg some e3⟩
 rw[J6 g3];cases g4:x8 x.1 2
 .exact⟨_,rfl,rfl⟩
 obtain⟨r,e1,q,e2,e3⟩:=key (Y5.1 g2) (.inl (Y5.1 g4));simp (disch:=decide) only[bu];rw[e1,e2];simp (disch:=decide) only[bu];exact⟨_,rfl,congrArg some e3⟩
theorem a9w:∀i:Fin 40,kZ ((i.1:Nat):Int)=ul ((i.1:Nat):Int):=by decide+kernel
theorem a9N:∀i:Fin 40,(arF ((i.1:Nat):Int)=0->i.1∈[1,2,3,4,5,6,7,8,9,35,36,37,38,39])/\(arF ((i.1:Nat):Int)=1->i.1∈[10,25,31,32,33,34])/\(arF ((i.1:Nat):Int)=2->i.1∈[11,12,13,14,15,16,17,18,19,20,21,22,23,24,27,28,29,30])/\(arF ((i.1:Nat):Int)=3->i.1=26):=by decide+kernel
theorem c1B(h:k<1\/39<k):arF k=-1:=by
 unfold arF iY;rw[J6 (show k≠10 by omega),J6 (show k≠25 by omega),J6 (show k≠31 by omega),J6 (show k≠32 by omega),J6 (show k≠33 by omega),J6 (show k≠34 by omega),J6 (show k≠26 by omega)];rcases h with h|h
 .rw[Y4 (show k<1 by omega),Y4 (show k<35 by omega),Y4 (show k<11 by omega)];rfl
 .rw[X5 (show 1<=k by omega),Y4 (show 9<k by omega),X5 (show 35<=k by omega),Y4 (show 39<k by omega),X5 (show 11<=k by omega),Y4 (show 30<k by omega)];rfl
theorem b7l(h:arF k≠-1):∃i:Fin 40,k=((i.1:Nat):Int):=by
 by_cases g:1<=k/\k<=39
 .exact⟨⟨k.toNat,l9⟩,by simp;omega⟩
 .exact absurd (c1B l9) h
theorem b4v(h:arF k≠-1):kZ k=ul k:=by obtain⟨i,rfl⟩:=b7l h;exact a9w i
theorem C_(k:Int):∃b,ul k=some b:=by unfold ul;cases J5 1 k<;>cases J5 k 8<;>cases J5 36 k<;>cases J5 k 39<;>cases x8 k 14<;>cases x8 k 15<;>cases x8 k 16<;>cases x8 k 33<;>exact⟨_,rfl⟩
def a8d(k N:Int):Bool:=l7 (l7 (x8 k 14) true (l7 (x8 k 15) true (x8 k 16))) (l7 (J5 0 N) (J5 N 5) false) (l7 (x8 k 34) (l7 (J5 0 N) (J5 (dM N 8) 5) false) (l7 (x8 k 6) (J5 0 N) true))
theorem a2n(k N:Int):(o5 (l7 (x8 k 14) (some (x8 k 14)) (l7 (x8 k 15) (some (x8 k 15)) (some (x8 k 16)))) λ(x:Bool)=>l7 x (l7 (J5 0 N) (some (J5 N 5)) (some false)) (l7 (x8 k 34) (l7 (J5 0 N) (some (J5 (dM N 8) 5)) (some false)) (l7 (x8 k 6) (some (J5 0 N)) (some true))))=some (a8d k N):=by unfold a8d;cases x8 k 14<;>cases x8 k 15<;>cases x8 k 16<;>cases J5 0 N<;>cases x8 k 34<;>cases x8 k 6<;>rfl
def a4z(k N:Int):Bool:=l7 (x8 N 0) (a8d k N) (l7 ((ul k).getD false) (a8d k N) false)
theorem a8c{k N c:Int}(h:arF k=c):CP (k,N) c=some (a4z k N):=by unfold CP a4z;rw[Yv,o8,O8 h];simp only[D8,o6,a2n];obtain⟨b,hb⟩:=C_ k;rw[hb];cases x8 N 0<;>cases b<;>rfl
variable {N:Int}
theorem a3Y(h:arF k≠-1):rO (k,N)=some (a4z k N):=by unfold rO a4z;rw[WT,o8,J9 (show 0<=arF k by have:=(JC k).2.2;omega)];simp only[o6,a2n];rw[b4v h];obtain⟨b,hb⟩:=C_ k;rw[hb];cases x8 N 0<;>cases b<;>rfl
theorem a6i(k N:Int):∃b,rO (k,N)=some b:=by
 by_cases h:arF k=-1
 .refine⟨false,?_⟩;unfold rO;rw[WT,o8,h];rfl
 .exact⟨_,a3Y h⟩
theorem a2j(n:Int×Int)(env:bn):∃b,jm n env=some b:=by
 unfold jm;by_cases h7:n.1=7
 .rw[O8 h7,o7];cases J5 0 n.2<;>exact⟨_,rfl⟩
 rw[J6 h7,o6];by_cases h8:n.1=8
 .rw[O8 h8,o7];by_cases g:0<=n.2
  case neg=>rw[Y4 (kV.1 g)];exact⟨_,rfl⟩
  by_cases g2:n.2<o9 env.2.2.1
  case neg=>rw[X5 g,J9 (iP.1 g2)];exact⟨_,rfl⟩
  obtain⟨x,hx,_⟩:=mV g g2;rw[X5 g,S9 g2,hx];exact⟨_,rfl⟩
 rw[J6 h8,o6];cases x8 n.1 33
 .cases x8 n.1 34
  .cases x8 n.1 36<;>cases x8 n.1 37<;>cases x8 n.1 38<;>cases x8 n.1 39<;>cases J5 0 n.2<;>exact⟨_,rfl⟩
  .exact⟨_,rfl⟩
 .cases J5 0 n.2<;>exact⟨_,rfl⟩
variable {α:Type}
theorem b4E(l:List α)(p:α->Bool):l.all p= !l.any λv=> !p v:=by
 induction l with
 |nil=>rfl|cons a l ih=>rw[List.all_cons,lh,Bool.not_or,Bool.not_not,ih]
theorem a9K(l:List V3)(hl:l.length<=1000000):xh l=some (l.all plB):=by
 unfold xh;have e:=wZ l (λv=> !plB v) false PUnit.unit (f:=λ(x:Int)=>l7 (D9 x (o9 l)) (o5 (F9 l x) λ(x_1:V3)=>o5 (gQ x_1) λ(x_2:Bool)=>l7 (D7 x_2) (some (Out.rt false)) (some (Out.nx (x9 IntKind.i64 x 1)))) (some (Out.ex PUnit.unit))) hl
  (λi a hi=>by
   have hlt:(i:Int)<o9 l:=by have:=X6.1 hi;obtain⟨h,_⟩:=this;unfold o9;omega
   have hm:=E5 l i;rw[hi]at hm;simp only[S9 hlt,o7,hm,o8,yN];cases plB a<;>rfl) (by rw[J9 (show o9 l<=(l.length:Int)from gV _)];rfl)
 rw[show U1 _ _=_ from e];rw[b4E l plB];cases l.any λv=> !plB v<;>rfl
theorem a8O(l:List V3)(hl:l.length<=1000000){γ:Type}{K:V3⊕(V3×Int)->Option γ} :(o5 (U1
      (λ(x:V3×Int)=>
       l7 (D9 x.2 (o9 l))
        (o5 (F9 l x.2) λ(x_1:V3)=>
         o5 (fQ x_1) λ(x_2:Bool)=>
          l7 (D7 x_2) (some (Out.rt (((0,0,0),8):V3×Int))) (some (Out.nx (x.1,x9 IntKind.i64 x.2 1))))
        (some (Out.ex x.1)))
      ((0,0,0),0)) K)=K (l7 (l.all plB) (.inl (0,0,0)) (.inr ((0,0,0),8))):=by
 have hf:∀(l:List V3) (u:V3),ik (λ(_:V3) (v:V3)=>(l7 (plB v) (.inl ((0,0,0):V3)) (.inr (((0,0,0),8):V3×Int)):V3⊕(V3×Int))) l (0,0,0)=l7 (l.all plB) (.inl (0,0,0)) (.inr ((0,0,0),8)):=by
  intro l u;induction l with
  |nil=>rfl|cons a l ih=>
   unfold ik;rw[List.all_cons];cases plB a
   .rfl
   .exact ih
 apply lV l (λ(_:V3) (v:V3)=>(l7 (plB v) (.inl ((0,0,0):V3)) (.inr (((0,0,0),8):V3×Int)):V3⊕(V3×Int))) (λb i=>((b,i):V3×Int)) (λb=>b) (λi b=>b=(0,0,0)) (0,0,0) hl rfl
 .intro i a b hi hi' hb;subst hb;have hlt:(i:Int)<o9 l:=by
   have:=X6.1 hi;obtain⟨h,_⟩:=this;unfold o9;omega
  have hm:=E5 l i;rw[hi]at hm;simp only[S9 hlt,o7,hm,o8,wR];cases plB a
  .exact⟨rfl,λ_ h=>by cases h⟩
  .exact⟨by rw[Y1 l9];rfl,λ_ h=>by cases h;rfl⟩
 .intro b hb;simp only[J9 (show o9 l<=(l.length:Int)from gV _),o6]
 .intro _;rw[hf l (0,0,0)];cases l.all plB<;>rfl
structure EvOk (env:bn):Prop where
 ms:env.2.2.2.1.length<=1000000
 tb:∀t∈env.2.2.2.2.2,xB t
theorem b6X(k N:Int)(args:List V3)(env:bn)(hE:EvOk env)(hN:-9223372036854775808<=N/\N<=9223372036854775807)(hk:k≠23/\k≠24/\k≠26)(ha:arF k=o9 args)(hf:a4z k N=true)(he:jm (k,N) env=some true)(hp:args.all plB=true):jd (k,N) args env:=by
 have hne:arF k≠-1:=by rw[ha];unfold o9;omega
 have hN34:k=34->0<=N:=by
  rintro rfl;unfold a4z at hf;have:a8d 34 N=true:=by
   cases g:x8 N 0<;>rw[g]at hf
   .exact hf
   .exact hf
  unfold a8d at this;by_cases g:0<=N
  .exact g
  .rw[Y4 l9]at this;cases this
 obtain⟨i,hi⟩:=b7l hne;obtain⟨a0,a1,a2,a3⟩:=a9N i;rw[←hi,ha]at a0 a1 a2 a3;match args,ha,hp with
 |[],ha,hp=>
  have:=a0 rfl;simp only[D5,qZ,or_false]at this;rcases this with h|h|h|h|h|h|h|h|h|h|h|h|h|h<;>rw[h]at hi<;>subst hi
  .exact QV _ _ _ J8
  .exact QV _ _ _ J8
  .exact QV _ _ _ J8
  .exact QV _ _ _ J8
  .exact QV _ _ _ J8
  .exact c1x _ _
  .exact c1y _ _ he
  .exact c1z _ _ he
  .exact c1A _ _
  .exact b7k _ _
  .exact Wq _ _ _ J8 he hE.ms
  .exact Wq _ _ _ J8 he hE.ms
  .exact Wq _ _ _ J8 he hE.ms
  .exact Wq _ _ _ J8 he hE.ms
 |[x],ha,hp=>
  have hx:plB x=true:=by simpa using hp
  have:=a1 rfl;simp only[D5,qZ,or_false]at this;rcases this with h|h|h|h|h|h<;>rw[h]at hi<;>subst hi
  .exact b6Y _ _ _
  .exact b7d _ _ _
  .exact a6u _ _ _ _ J8 hx
  .exact a6u _ _ _ _ J8 hx
  .exact b7i _ _ _ hx he hE.tb
  .exact b7j _ _ _ (hN34 rfl) hN.2 he hE.tb
 |[x,y],ha,hp=>
  have hxy:plB x=true/\plB y=true:=by simpa using hp
  have:=a2 rfl;simp only[D5,qZ,or_false]at this;rcases this with h|h|h|h|h|h|h|h|h|h|h|h|h|h|h|h|h|h<;>rw[h]at hi<;>subst hi
  .exact a6r _ _ _ _ _ J8
  .exact a6r _ _ _ _ _ J8
  .exact b6Z _ _ _ _ hxy.1 hxy.2
  .exact b7a _ _ _ _
  .exact b7b _ _ _ _
  .exact b7c _ _ _ _
  .exact WR _ _ _ _ _ J8 hxy.1 hxy.2
  .exact WR _ _ _ _ _ J8 hxy.1 hxy.2
  .exact a9L _ _ _ _ _ J8
  .exact a9L _ _ _ _ _ J8
  .exact a6t _ _ _ _ _ J8
  .exact a6t _ _ _ _ _ J8
  .exact absurd rfl hk.1
  .exact absurd rfl hk.2.1
  .exact b7e _ _ _ _
  .exact b7f _ _ _ _
  .exact b7g _ _ _ _
  .exact b7h _ _ _ _
 |[x,y,z],ha,hp=>have h:=a3 rfl;rw[h]at hi;exact absurd hi hk.2.2|x::y::z::w::l,ha,hp=>
  have h1:=(JC k).2.2;have:o9 (x::y::z::w::l)=(l.length:Int)+4:=by unfold o9;simp<;>omega
  rw[this]at ha;omega
theorem a1M(k N:Int)(args:List V3)(env:bn)(hE:EvOk env)(hN:-9223372036854775808<=N/\N<=9223372036854775807)(hk:k≠23/\k≠24/\k≠26)(hl:args.length<=1000000):∃r:V3×Int,sZ (k,N) args env=some r/\AU (k,N) args env=some r:=by
 by_cases ha:arF k=o9 args
 case neg=>
  refine⟨((0,0,0),2),?_,?_⟩
  .unfold sZ CP;rw[Yv,o8,J6 ha];rfl
  .unfold AU;obtain⟨b,hb⟩:=a6i k N;rw[hb,o8];cases b
   .rfl
   .rw[WT,o8,J6 (λh=>ha h.symm)];rfl
 have hne:arF k≠-1:=by rw[ha];unfold o9;omega
 unfold sZ AU;rw[a8c ha,a3Y hne,WT];simp only[o8,O8 ha.symm];cases hf:a4z k N
 .exact⟨_,rfl,rfl⟩
 simp only[D8,o6,o8,J7];obtain⟨b,hb⟩:=a2j (k,N) env;rw[show NS (k,N) env=some b from hb,hb];cases b
 .exact⟨_,rfl,rfl⟩
 simp only[o8,D8,o6];rw[a8O args hl,a9K args hl,o8];cases hp:args.all plB
 .exact⟨_,rfl,rfl⟩
 exact b6X k N args env hE hN hk ha hf hb hp
def XT.node:XT->Int×Int
 | .l0 n=>n| .l1 n _=>n| .l2 n _ _=>n| .l3 n _ _ _=>n
def rtI(t:XT)(o:Nat):Nat:=o+t.size -1
def At(e:List (Int×Int))(S:d1v)(t:XT)(o:Nat):Prop:=∃pre suf S1 S2,e=pre++t.post++suf/\S=S1++t.sts o++S2/\pre.length=o/\S1.length=o
variable {e:List (Int×Int)}{S:d1v}{o:Nat}
theorem a9Q{n:Int×Int}{a:XT}(h:At e S (.l1 n a) o):At e S a o:=by obtain⟨p,s,S1,S2,h1,h2,h3,h4⟩:=h;exact⟨p,[n]++s,S1,[(o:Int)]++S2,by rw[h1];simp[XT.post],by rw[h2];simp[XT.sts],h3,h4⟩
theorem PS{n:Int×Int}{a b:XT}(h:At e S (.l2 n a b) o):At e S a o/\At e S b (o+a.size):=by
 obtain⟨p,s,S1,S2,h1,h2,h3,h4⟩:=h;exact⟨⟨p,b.post++[n]++s,S1,b.sts (o+a.size)++[(o:Int)]++S2,by rw[h1];simp[XT.post],by rw[h2];simp[XT.sts],h3,h4⟩,
  ⟨p++a.post,[n]++s,S1++a.sts o,[(o:Int)]++S2,by rw[h1];simp[XT.post],by rw[h2];simp[XT.sts],by simp[XT.post_len,h3],by simp[XT.sts_len,h4]⟩⟩
theorem QW{n:Int×Int}{a b c:XT}(h:At e S (.l3 n a b c) o):At e S a o/\At e S b (o+a.size)/\At e S c (o+a.size+b.size):=by
 obtain⟨p,s,S1,S2,h1,h2,h3,h4⟩:=h;exact⟨⟨p,b.post++c.post++[n]++s,S1,b.sts (o+a.size)++c.sts (o+a.size+b.size)++[(o:Int)]++S2,by rw[h1];simp[XT.post],by rw[h2];simp[XT.sts],h3,h4⟩,
  ⟨p++a.post,c.post++[n]++s,S1++a.sts o,c.sts (o+a.size+b.size)++[(o:Int)]++S2,by rw[h1];simp[XT.post],by rw[h2];simp[XT.sts],by simp[XT.post_len,h3],by simp[XT.sts_len,h4]⟩,
  ⟨p++a.post++b.post,[n]++s,S1++a.sts o++b.sts (o+a.size),[(o:Int)]++S2,by rw[h1];simp[XT.post],by rw[h2];simp[XT.sts],by simp[XT.post_len,h3];try omega,by simp[XT.sts_len,h4];try omega⟩⟩
theorem a8M(t:XT):∃p,t.post=p++[t.node]/\p.length+1=t.size:=by
 have hl:=t.post_len;cases t with
 |l0 n=>exact⟨[],rfl,rfl⟩|l1 n a=>refine⟨a.post,rfl,?_⟩;simp only[XT.post,E8,dA]at hl;exact hl|l2 n a b=>refine⟨a.post++b.post,rfl,?_⟩;simp only[XT.post,E8,dA]at hl ⊢;exact hl|l3 n a b c=>refine⟨a.post++b.post++c.post,rfl,?_⟩;simp only[XT.post,E8,dA]at hl ⊢;exact hl
theorem b4j(t:XT)(o:Nat):∃p,t.sts o=p++[(o:Int)]/\p.length+1=t.size:=by
 have hl:=t.sts_len o;cases t with
 |l0 n=>exact⟨[],rfl,rfl⟩|l1 n a=>refine⟨a.sts o,rfl,?_⟩;simp only[XT.sts,E8,dA]at hl;exact hl|l2 n a b=>refine⟨a.sts o++b.sts (o+a.size),rfl,?_⟩;simp only[XT.sts,E8,dA]at hl ⊢;exact hl|l3 n a b c=>refine⟨a.sts o++b.sts (o+a.size)++c.sts (o+a.size+b.size),rfl,?_⟩;simp only[XT.sts,E8,dA]at hl ⊢;exact hl
variable {t:XT}
theorem rY(h:At e S t o):e[rtI t o]? =some t.node/\S[rtI t o]? =some (o:Int)/\rtI t o<e.length:=by
 obtain⟨p,s,S1,S2,h1,h2,h3,h4⟩:=h;obtain⟨q,e1,e2⟩:=a8M t;obtain⟨q',e1',e2'⟩:=b4j t o;have hp:=t.size_pos;have a1:e[rtI t o]? =some t.node:=by rw[h1,e1,F8,F8,←F8 p,I4 (by simp[rtI];omega)];rw[show rtI t o -(p++q).length=0 by simp[rtI];omega];rfl
 refine⟨a1,?_,(X6.1 a1).1⟩;rw[h2,e1',F8,F8,←F8 S1,I4 (by simp[rtI];omega)];rw[show rtI t o -(S1++q').length=0 by simp[rtI];omega];rfl
def KW:XT->Nat->d1v
 | .l0 _,_=>[]| .l1 _ a,o=>[(rtI a o:Int)]| .l2 _ a b,o=>[(rtI a o:Int),(rtI b (o+a.size):Int)]| .l3 _ a b c,o=>[(rtI a o:Int),(rtI b (o+a.size):Int),(rtI c (o+a.size+b.size):Int)]
structure OStep (S:d1v) (f:d1v×Int×Int->Option ((d1v×Int×Int)⊕d1v)):Prop where
 step:∀(l:d1v) (c:Nat) (j:Nat) (x:Nat),j<l.length->l.length<=3->S[c]? =some ((x:Nat):Int)->x<=100->f (l,(c:Int),(j:Int))=some (.inl (l.set j (c:Int),(x:Int) -1,(j:Int) -1))
 stop:∀(l:d1v) (c:Int),f (l,c,-1)=some (.inr l)
variable {σ:Type}{ε:Type}{f:σ->Option (σ⊕ε)}
theorem DN{s s' :σ}{n:Nat}(h:f s=some (.inl s')):uh f (n+1) s=uh f n s' :=by rw[uh,h]
theorem JU{s:σ}{e:ε}{n:Nat}(h:f s=some (.inr e)):uh f (n+1) s=some e:=by rw[uh,h]
theorem a2V{f:d1v×Int×Int->Option ((d1v×Int×Int)⊕d1v)}(hs:OStep S f)(h:At e S t o)(he:e.length<=48)(hw:t.wf):
  Y9 f (List.replicate (arF t.node.1).toNat 0,(rtI t o:Int) -1,arF t.node.1 -1)=some (KW t o):=by
 obtain⟨k,hk⟩:∃k,jU=k+1+1+1+1:=⟨jU -4,by unfold jU;omega⟩;unfold Y9;rw[hk];have hr:=rY h;cases t with
 |l0 n=>rw[show arF (XT.l0 n).node.1=0 from hw];exact JU (hs.stop _ _)|l1 n a=>rw[show arF (XT.l1 n a).node.1=1 from hw.1];have ha:=rY (a9Q h);have p1:=a.size_pos;rw[show((rtI (.l1 n a) o:Nat):Int) -1=((rtI a o:Nat):Int) by simp only[rtI,XT.size];omega];rw[show((1:Int) -1)=((0:Nat):Int)from rfl,DN (hs.step _ _ 0 o A7 A7 ha.2.1 (by unfold rtI at hr;omega))];rw[show(((0:Nat):Int) -1)=-1 from rfl,JU (hs.stop _ _)];rfl|l2 n a b=>rw[show arF (XT.l2 n a b).node.1=2 from hw.1];have ha:=rY (PS h).1;have hb:=rY (PS h).2;have p1:=a.size_pos;have p2:=b.size_pos;rw[show((rtI (.l2 n a b) o:Nat):Int) -1=((rtI b (o+a.size):Nat):Int) by simp only[rtI,XT.size];omega];rw[show((2:Int) -1)=((1:Nat):Int)from rfl,DN (hs.step _ _ 1 (o+a.size) A7 A7 hb.2.1 (by unfold rtI at hb;omega))];rw[show((o+a.size:Nat):Int) -1=((rtI a o:Nat):Int) by unfold rtI;omega,show(((1:Nat):Int) -1)=((0:Nat):Int)from rfl];rw[DN (hs.step _ _ 0 o A7 A7 ha.2.1 (by unfold rtI at hr;omega))];rw[show(((0:Nat):Int) -1)=-1 from rfl,JU (hs.stop _ _)];rfl|l3 n a b c=>rw[show arF (XT.l3 n a b c).node.1=3 from hw.1];have ha:=rY (QW h).1;have hb:=rY (QW h).2.1;have hc:=rY (QW h).2.2;have p1:=a.size_pos;have p2:=b.size_pos;have p3:=c.size_pos;rw[show((rtI (.l3 n a b c) o:Nat):Int) -1=((rtI c (o+a.size+b.size):Nat):Int) by simp only[rtI,XT.size];omega];rw[show((3:Int) -1)=((2:Nat):Int)from rfl,DN (hs.step _ _ 2 (o+a.size+b.size) A7 A7 hc.2.1 (by unfold rtI at hc;omega))];rw[show((o+a.size+b.size:Nat):Int) -1=((rtI b (o+a.size):Nat):Int) by unfold rtI;omega,show(((2:Nat):Int) -1)=((1:Nat):Int)from rfl];rw[DN (hs.step _ _ 1 (o+a.size) A7 A7 hb.2.1 (by unfold rtI at hb;omega))];rw[show((o+a.size:Nat):Int) -1=((rtI a o:Nat):Int) by unfold rtI;omega,show(((1:Nat):Int) -1)=((0:Nat):Int)from rfl];rw[DN (hs.step _ _ 0 o A7 A7 ha.2.1 (by unfold rtI at hr;omega))];rw[show(((0:Nat):Int) -1)=-1 from rfl,JU (hs.stop _ _)];rfl
theorem b6S(h:t.wf):0<=arF t.node.1/\arF t.node.1<=3:=by
 cases t with
 |l0 n=>rw[show arF (XT.l0 n).node.1=0 from h];decide|l1 n a=>rw[show arF (XT.l1 n a).node.1=1 from h.1];decide|l2 n a b=>rw[show arF (XT.l2 n a b).node.1=2 from h.1];decide|l3 n a b c=>rw[show arF (XT.l3 n a b c).node.1=3 from h.1];decide
theorem JV(h:0<=k)(h2:k<=1000000)(x:α):qL k x=some (List.replicate k.toNat x):=if_pos ⟨h,l9⟩
theorem IM(env:bn)(h:At e S t o)(he:e.length<=48)(hw:t.wf):lw (e,S,env) (rtI t o:Int)=some (KW t o):=by
 have hr:=rY h;have ha:=b6S hw;unfold lw;simp only[E5,hr.1,o8,WT];rw[JV ha.1 l9,o8,fJ];rw[show I7 .i64 ((rtI t o:Nat):Int) 1=(rtI t o:Int) -1 from P8 O5];rw[show I7 .i64 (o9 (List.replicate (arF t.node.1).toNat (0:Int))) 1=arF t.node.1 -1 by rw[show o9 (List.replicate (arF t.node.1).toNat (0:Int))=arF t.node.1 by unfold o9;rw[qI];omega];exact P8 O5]
 refine a2V ⟨λl c j x hj hl hx hx2=>?_,λl c=>?_⟩ h he hw
 .have hjl:l[j]? =some l[j]:=eG hj;simp only[X5 (show(0:Int)<=(j:Int) by omega),o7,E5,hjl,o8,hx,U0,U9,U2,bi];rw[P8 O5,P8 O5]
 .rfl
theorem FI{T t:XT}(hT:mX e= .inr T)(h:At e (T.sts 0) t o)(hw:t.wf):yg e (rtI t o:Int)=some (KW t o):=by
 obtain⟨hp,he⟩:=Jc hT;have hr:=rY h;have ha:=b6S hw;unfold yg;rw[Ju,o8];unfold xA;rw[hT];simp only[E5,hr.1,o8,Yv,O8 (rfl:(0:Int)=0),D8,o6];rw[J9 (show(0:Int)<=((rtI t o:Nat):Int) by omega),Y4 (show((rtI t o:Nat):Int)<o9 e by unfold o9;omega)];simp only[o6,o8,J7];rw[JV ha.1 l9,o8,fJ];rw[show I7 .i64 ((rtI t o:Nat):Int) 1=(rtI t o:Int) -1 from P8 O5];rw[show I7 .i64 (arF t.node.1) 1=arF t.node.1 -1 from P8 O5];refine a2V ⟨λl c j x hj hl hx hx2=>?_,λl c=>?_⟩ h he hw
 .have hjl:l[j]? =some l[j]:=eG hj;simp only[X5 (show(0:Int)<=(j:Int) by omega),o7,E5,hjl,o8,hx,U0,U9,U2,bi];rw[P8 O5,P8 O5]
 .rfl
def Gy(n:Int×Int)(args:List V3)(env:bn):V3×Int:=(sZ n args env).getD ((0,0,0),0)
variable {env:bn}
theorem Gi{n:Int×Int}(args:List V3)(hE:EvOk env)(hI:kL n.2)(hk:n.1≠23/\n.1≠24/\n.1≠26)(hl:args.length<=3):sZ n args env=some (Gy n args env)/\AU n args env=some (Gy n args env):=by
 obtain⟨r,h1,h2⟩:=a1M n.1 n.2 args env hE (by unfold kL at hI;omega) hk l9;have e:Gy n args env=r:=by unfold Gy;rw[show sZ n args env=some r from h1];rfl
 rw[e];exact⟨h1,h2⟩
def lzB(k:Int):Bool:=l7 (x8 k 23) true (l7 (x8 k 24) true (x8 k 26))
theorem b6p(h:lzB k=false):k≠23/\k≠24/\k≠26:=by refine⟨?_,?_,?_⟩<;>(rintro rfl;revert h;decide)
def BG(r:V3×Int):V3×Int:=l7 (x8 r.2 0) (l7 (x8 r.1.1 1) (l7 (plB r.1) (r.1,0) ((0,0,0),8)) ((0,0,0),8)) ((0,0,0),r.2)
def XL(n:Int×Int)(ra rb:V3×Int):V3×Int:=l7 (x8 n.2 0) (l7 (x8 (BG ra).2 0) (l7 (jl (x8 n.1 23) (x8 (BG ra).1.2.2 0)) ((BG ra).1,0) (BG rb)) ((0,0,0),(BG ra).2)) ((0,0,0),2)
def a2A(n:Int×Int)(ra rb rc:V3×Int):V3×Int:=l7 (x8 n.2 0) (l7 (x8 (BG ra).2 0) (l7 (x8 (BG ra).1.2.2 1) rb rc) ((0,0,0),(BG ra).2)) ((0,0,0),2)
def evT(env:bn):XT->V3×Int
 | .l0 n=>Gy n [] env| .l1 n a=>l7 (x8 (evT env a).2 0) (Gy n [(evT env a).1] env) ((0,0,0),(evT env a).2)| .l2 n a b=>l7 (lzB n.1) (XL n (evT env a) (evT env b)) (l7 (x8 (evT env a).2 0) (l7 (x8 (evT env b).2 0) (Gy n [(evT env a).1,(evT env b).1] env) ((0,0,0),(evT env b).2)) ((0,0,0),(evT env a).2))| .l3 n a b c=>a2A n (evT env a) (evT env b) (evT env c)
abbrev VSt:Type:=V3×List V3×Int
structure VStep (ops:d1v) (ev:Int->Option (V3×Int)) (pad:List V3->List V3) (f:VSt->Option (Out VSt (V3×List V3) (V3×Int))):Prop where
 step:∀(l:List V3) (c:Int) (r:V3×Int),ops[l.length]? =some c->ev c=some r->f ((0,0,0),pad l,(l.length:Int))=some (l7 (x8 r.2 0) (.nx ((0,0,0),pad (l++[r.1]),((l.length+1:Nat):Int))) (.rt ((0,0,0),r.2)))
 stop:∀(l:List V3),l.length=ops.length->f ((0,0,0),pad l,(l.length:Int))=some (.ex ((0,0,0),l))
section
variable {ev:Int->Option (V3×Int)} {pad:List V3->List V3} {f:VSt->Option (Out VSt (V3×List V3) (V3×Int))}
theorem v0(h:VStep [] ev pad f):U1 f ((0,0,0),pad [],0)=some (.inl ((0,0,0),[])):=by obtain⟨k,hk⟩:∃k,jU=k+1:=⟨jU -1,by unfold jU;omega⟩;unfold U1;rw[hk,pW,show f ((0,0,0),pad [],0)=some (.ex ((0,0,0),[]))from h.stop [] rfl]
theorem v1{c:Int}{r:V3×Int}(h:VStep [c] ev pad f)(h1:ev c=some r):U1 f ((0,0,0),pad [],0)=some (l7 (x8 r.2 0) (.inl ((0,0,0),[r.1])) (.inr ((0,0,0),r.2))):=by
 obtain⟨k,hk⟩:∃k,jU=k+1+1:=⟨jU -2,by unfold jU;omega⟩;unfold U1;rw[hk,pW,show f ((0,0,0),pad [],0)=_ from h.step [] c r rfl h1];cases x8 r.2 0
 .rfl
 .simp only[o7];rw[pW,show f ((0,0,0),pad ([]++[r.1]),(([].length+1:Nat):Int))=_ from h.stop [r.1] rfl]
theorem v2{c d:Int}{r q:V3×Int}(h:VStep [c,d] ev pad f)(h1:ev c=some r)(h2:ev d=some q):U1 f ((0,0,0),pad [],0)=some (l7 (x8 r.2 0) (l7 (x8 q.2 0) (.inl ((0,0,0),[r.1,q.1])) (.inr ((0,0,0),q.2))) (.inr ((0,0,0),r.2))):=by
 obtain⟨k,hk⟩:∃k,jU=k+1+1+1:=⟨jU -3,by unfold jU;omega⟩;unfold U1;rw[hk,pW,show f ((0,0,0),pad [],0)=_ from h.step [] c r rfl h1];cases x8 r.2 0
 .rfl
 .simp only[o7];rw[pW,show f ((0,0,0),pad ([]++[r.1]),(([].length+1:Nat):Int))=_ from h.step [r.1] d q rfl h2];cases x8 q.2 0
  .rfl
  .simp only[o7];rw[pW,show f ((0,0,0),pad ([r.1]++[q.1]),(([r.1].length+1:Nat):Int))=_ from h.stop [r.1,q.1] rfl]
end
theorem a0i(h:arF k=0\/arF k=1):k≠23/\k≠24/\k≠26:=by refine⟨?_,?_,?_⟩<;>(rintro rfl;revert h;decide)
theorem a9O(h:arF k=2):k≠26:=by rintro rfl;revert h;decide
theorem a9P(h:arF k=3):k=26:=by obtain⟨i,rfl⟩:=b7l (by rw[h];decide);rw[(a9N i).2.2.2 h];rfl
theorem c9c(n:Nat)(E:au)(i:Int):(C9 (n+1)).1 E i=pY (C9 n).1 (C9 n).2.1 (C9 n).2.2 E i:=rfl
theorem c9d(n:Nat)(E:au)(i:Int):(C9 (n+1)).2.1 E i=tX (C9 n).1 (C9 n).2.1 (C9 n).2.2 E i:=rfl
theorem b6B(n:Nat)(E:au)(x:Int×Int)(l:d1v):(C9 (n+1)).2.2 E x l=nN (C9 n).1 (C9 n).2.1 (C9 n).2.2 E x l:=rfl
variable {E:au}
theorem Qo{n:Nat}{i:Int}{r:V3×Int}(h:(C9 n).2.1 E i=some r):(C9 (n+1)).1 E i=some (BG r):=by
 rw[c9c];unfold pY BG;rw[h,o8];cases x8 r.2 0
 .rfl
 cases x8 r.1.1 1
 .rfl
 simp only[D8,o6,o7];rw[yN,o8];cases plB r.1<;>rfl
variable {x:Int×Int}{ra:V3×Int}{rb:V3×Int}
theorem b0E{n:Nat}{i j:Int}(hx:x.1≠26)(h1:(C9 n).2.1 E i=some ra)(h2:(C9 n).2.1 E j=some rb):(C9 (n+2)).2.2 E x [i,j]=some (XL x ra rb):=by
 rw[show n+2=(n+1)+1 from rfl,b6B];unfold nN XL;rw[show F9 [i,j] 0=some i from rfl,show F9 [i,j] 1=some j from rfl];simp only[o8];rw[Qo h1,Qo h2,J6 hx];cases x8 x.2 0
 .rfl
 simp only[o8,D8,o6,o7];cases x8 (BG ra).2 0
 .rfl
 simp only[D8,o6,o7];cases jl (x8 x.1 23) (x8 (BG ra).1.2.2 0)<;>rfl
theorem b0F{n:Nat}{i j l:Int}{ra rb rc:V3×Int}(hx:x.1=26)(h1:(C9 n).2.1 E i=some ra)(h2:(C9 (n+1)).2.1 E j=some rb)(h3:(C9 (n+1)).2.1 E l=some rc):(C9 (n+2)).2.2 E x [i,j,l]=some (a2A x ra rb rc):=by
 rw[show n+2=(n+1)+1 from rfl,b6B];unfold nN a2A;rw[show F9 [i,j,l] 0=some i from rfl,show F9 [i,j,l] 1=some j from rfl,show F9 [i,j,l] 2=some l from rfl];simp only[o8];rw[Qo h1,h2,h3,O8 hx];cases x8 x.2 0
 .rfl
 simp only[o8,D8,o6,o7];cases x8 (BG ra).2 0
 .rfl
 simp only[D8,o6,o7];cases x8 (BG ra).1.2.2 1<;>rfl
def Zy(m:Nat)(l:List V3):List V3:=l++List.replicate (m -l.length) (0,0,0)
theorem b1q{m:Nat}{l:List V3}(h:l.length<m):(Zy m l)[l.length]? =some (0,0,0):=by unfold Zy;rw[I4 (F5 _),bT,kW,if_pos l9]
theorem b1r{m:Nat}{l:List V3}(v:V3)(h:l.length<m):(Zy m l).set l.length v=Zy m (l++[v]):=by unfold Zy;obtain⟨k,hk⟩:∃k,m -l.length=k+1:=⟨m -l.length -1,l9⟩;rw[jy _ _ (F5 _),bT,hk,kQ,uM];rw[show m -(l++[v]).length=k by simp;omega];simp
theorem a8K{m:Nat}{l:List V3}(h:l.length=m):Zy m l=l:=by unfold Zy;rw[h,bT];simp
def a7f(ev:Int->Option (V3×Int))(ops:d1v)(x:VSt):Option (Out VSt (V3×List V3) (V3×Int)):=
 l7 (D9 x.2.2 (o9 ops))
  (o5 (F9 ops x.2.2) λ(x_4:Int)=>
   o5 (U0 ops (U9 x.2.2)) λ(x_5:Int)=>
    o5 (ev x_5) λ(x_6:V3×Int)=>
     l7 (D7 (x8 x_6.2 0)) (some (Out.rt ((0,0,0),x_6.2)))
      (o5 (F9 x.2.1 x.2.2) λ(x_7:V3)=>
       o5 (U0 x.2.1 (U9 x.2.2)) λ(x_8:V3)=>
        some (Out.nx (x.1,bi x.2.1 (U9 x.2.2) x_6.1,x9 IntKind.i64 x.2.2 1))))
  (some (Out.ex (x.1,x.2.1)))
theorem QG(ev:Int->Option (V3×Int))(ops:d1v)(ho:ops.length<=3):VStep ops ev (Zy ops.length) (a7f ev ops):=by
 refine⟨λl c r h1 h2=>?_,λl h=>?_⟩
 .have hl:=(X6.1 h1).1;unfold a7f;simp only[H6 h1,o7,E5,h1,o8,U0,U9,U2,h2,b1q hl,bi,b1r _ hl];cases x8 r.2 0
  .rfl
  .simp only[D8,o6,o7];rw[Y1 l9]
 .unfold a7f;rw[a8K h,h,G6];rfl
theorem Wx(n:Nat)(E:au)(i:Int)(x:Int×Int)(ops:d1v)(h1:F9 E.1 i=some x)(h2:lw E i=some ops)(ho:ops.length<=3):
  (C9 (n+1)).2.1 E i=l7 (lzB x.1) ((C9 n).2.2 E x ops)
   (o5 (U1 (a7f ((C9 n).2.1 E) ops) ((0,0,0),Zy ops.length [],0)) λ(o:V3×List V3⊕V3×Int)=>U6 o (λ(y:V3×List V3)=>AU x y.2 E.2.2) λ(r:V3×Int)=>some r):=by
 rw[c9d];unfold tX lzB;simp only[h1,h2,o8,fJ];rw[show o9 ops=(ops.length:Int)from rfl];have hp:qL (ops.length:Int) (((0,0,0):Int×Int×Int))=some (Zy ops.length []):=by rw[JV l9 l9];rfl
 cases g1:x8 x.1 23
 .cases g2:x8 x.1 24
  .cases g3:x8 x.1 26
   .simp only[o6,o8,J7];rw[show qL (ops.length:Int) _=_ from hp,o8];rfl
   .simp only[o6,o7];generalize (C9 n).2.2 E x ops=q;cases q<;>rfl
  .simp only[o6,o7];generalize (C9 n).2.2 E x ops=q;cases q<;>rfl
 .simp only[o7];generalize (C9 n).2.2 E x ops=q;cases q<;>rfl
theorem Sz(t:XT)(o:Nat):(KW t o).length<=3:=by cases t<;>simp[KW]
theorem a2g(hE:EvOk env)(he:e.length<=48)(hI:∀n∈e,kL n.2):∀(t:XT) (o k:Nat),At e S t o->t.wf->3*t.size<=k->(C9 k).2.1 (e,S,env) (rtI t o:Int)=some (evT env t):=by
 intro t;induction t with
 |l0 n=>intro o k h hw hk;have hr:=rY h;obtain⟨k,rfl⟩:∃m,k=m+3:=⟨k -3,by simp only[XT.size]at hk;omega⟩;have hz:=a0i (.inl (show arF n.1=0 from hw));rw[show k+3=(k+2)+1 from rfl,Wx _ _ _ n (KW (.l0 n) o) (by rw[E5];exact hr.1) (IM env h he hw) (Sz _ _)];rw[show lzB n.1=false by unfold lzB;rw[J6 hz.1,J6 hz.2.1,J6 hz.2.2];rfl,o6];rw[show KW (.l0 n) o=[]from rfl,v0 (QG _ _ A7),o8,J7];exact(Gi [] hE (hI n (iO hr.1)) hz A7).2
 |l1 n a iha=>
  intro o k h hw hk;have hr:=rY h;simp only[XT.size]at hk;obtain⟨k,rfl⟩:∃m,k=m+3:=⟨k -3,l9⟩;have hz:=a0i (.inr (show arF n.1=1 from hw.1));rw[show k+3=(k+2)+1 from rfl,Wx _ _ _ n (KW (.l1 n a) o) (by rw[E5];exact hr.1) (IM env h he hw) (Sz _ _)];rw[show lzB n.1=false by unfold lzB;rw[J6 hz.1,J6 hz.2.1,J6 hz.2.2];rfl,o6];rw[show KW (.l1 n a) o=[(rtI a o:Int)]from rfl,v1 (QG _ _ A7) (iha o (k+2) (a9Q h) hw.2 l9),o8];rw[show evT env (.l1 n a)=l7 (x8 (evT env a).2 0) (Gy n [(evT env a).1] env) ((0,0,0),(evT env a).2)from rfl];cases x8 (evT env a).2 0
  .rfl
  exact(Gi [(evT env a).1] hE (hI n (iO hr.1)) hz A7).2
 |l2 n a b iha ihb=>
  intro o k h hw hk;have hr:=rY h;simp only[XT.size]at hk;obtain⟨k,rfl⟩:∃m,k=m+3:=⟨k -3,l9⟩;have hz:=a9O (show arF n.1=2 from hw.1);rw[show k+3=(k+2)+1 from rfl,Wx _ _ _ n (KW (.l2 n a b) o) (by rw[E5];exact hr.1) (IM env h he hw) (Sz _ _)];rw[show KW (.l2 n a b) o=[(rtI a o:Int),(rtI b (o+a.size):Int)]from rfl];rw[show evT env (.l2 n a b)=l7 (lzB n.1) (XL n (evT env a) (evT env b)) (l7 (x8 (evT env a).2 0) (l7 (x8 (evT env b).2 0) (Gy n [(evT env a).1,(evT env b).1] env) ((0,0,0),(evT env b).2)) ((0,0,0),(evT env a).2))from rfl];cases hl:lzB n.1
  .have hz:=b6p hl;simp only[o6];rw[v2 (QG _ _ A7) (iha o (k+2) (PS h).1 hw.2.1 l9) (ihb (o+a.size) (k+2) (PS h).2 hw.2.2 l9),o8];cases x8 (evT env a).2 0
   .rfl
   cases x8 (evT env b).2 0
   .rfl
   exact(Gi [(evT env a).1,(evT env b).1] hE (hI n (iO hr.1)) hz A7).2
  .simp only[o7];exact b0E hz (iha o k (PS h).1 hw.2.1 l9) (ihb (o+a.size) k (PS h).2 hw.2.2 l9)
 |l3 n a b c iha ihb ihc=>intro o k h hw hk;have hr:=rY h;simp only[XT.size]at hk;obtain⟨k,rfl⟩:∃m,k=m+3:=⟨k -3,l9⟩;have hz:=a9P (show arF n.1=3 from hw.1);rw[show k+3=(k+2)+1 from rfl,Wx _ _ _ n (KW (.l3 n a b c) o) (by rw[E5];exact hr.1) (IM env h he hw) (Sz _ _)];rw[show lzB n.1=true by rw[hz];decide,o7];exact b0F hz (iha o k (QW h).1 hw.2.1 l9) (ihb (o+a.size) (k+1) (QW h).2.1 hw.2.2.1 l9) (ihc (o+a.size+b.size) (k+1) (QW h).2.2 hw.2.2.2 l9)
theorem b7E(n:Nat)(e:List (Int×Int))(i:Int)(env:bn):(P9 (n+1)).1 e i env=DX (P9 n).1 (P9 n).2 e i env:=rfl
theorem b2p(n:Nat)(e:List (Int×Int))(i:Int)(l:d1v)(env:bn):(P9 (n+1)).2 e i l env=Au (P9 n).1 (P9 n).2 e i l env:=rfl
def a1j(ev:Int->Option (V3×Int))(ops:d1v)(x:VSt):Option (Out VSt (V3×List V3) (V3×Int)):=
 l7 (D9 x.2.2 (o9 ops))
  (o5 (F9 ops x.2.2) λ(x_4:Int)=>
   o5 (U0 ops (U9 x.2.2)) λ(x_5:Int)=>
    o5 (ev x_5) λ(x_6:V3×Int)=>
     l7 (D7 (x8 x_6.2 0)) (some (Out.rt ((0,0,0),x_6.2)))
      (o5 (dG x.2.1 [x_6.1]) λ(y:List V3)=>some (Out.nx (x.1,y,x9 IntKind.i64 x.2.2 1))))
  (some (Out.ex (x.1,x.2.1)))
theorem Oa(ev:Int->Option (V3×Int))(ops:d1v)(ho:ops.length<=3):VStep ops ev (λl=>l) (a1j ev ops):=by
 refine⟨λl c r h1 h2=>?_,λl h=>?_⟩
 .have hl:=(X6.1 h1).1;unfold a1j;simp only[H6 h1,o7,E5,h1,o8,U0,U9,U2,h2];cases x8 r.2 0
  .rfl
  .simp only[D8,o6,o7];rw[iR _ l9,o8,Y1 l9]
 .unfold a1j;rw[h,G6];rfl
theorem Tc(n:Nat)(e:List (Int×Int))(env:bn)(i:Int)(x:Int×Int)(ops:d1v)(h1:F9 e i=some x)(h2:yg e i=some ops):
  (P9 (n+1)).1 e i env=l7 (lzB x.1) ((P9 n).2 e i ops env)
   (o5 (U1 (a1j (λc=>(P9 n).1 e c env) ops) ((0,0,0),[],0)) λ(o:V3×List V3⊕V3×Int)=>U6 o (λ(y:V3×List V3)=>sZ x y.2 env) λ(r:V3×Int)=>some r):=by
 rw[b7E];unfold DX lzB;simp only[h1,h2,o8,fJ];cases g1:x8 x.1 23
 .cases g2:x8 x.1 24
  .cases g3:x8 x.1 26
   .rfl
   .simp only[o6,o7];generalize (P9 n).2 e i ops env=q;cases q<;>rfl
  .simp only[o6,o7];generalize (P9 n).2 e i ops env=q;cases q<;>rfl
 .simp only[o7];generalize (P9 n).2 e i ops env=q;cases q<;>rfl
theorem MR(r:V3×Int):(x8 r.2 0=false/\(BG r)=((0,0,0),r.2))\/(x8 r.2 0=true/\x8 r.1.1 1=false/\BG r=((0,0,0),8))\/(x8 r.2 0=true/\x8 r.1.1 1=true/\plB r.1=false/\BG r=((0,0,0),8))\/(x8 r.2 0=true/\x8 r.1.1 1=true/\plB r.1=true/\BG r=(r.1,0)):=by
 unfold BG;cases x8 r.2 0
 .exact .inl ⟨rfl,rfl⟩
 cases x8 r.1.1 1
 .exact .inr (.inl ⟨rfl,rfl,rfl⟩)
 cases plB r.1
 .exact .inr (.inr (.inl ⟨rfl,rfl,rfl,rfl⟩))
 .exact .inr (.inr (.inr ⟨rfl,rfl,rfl,rfl⟩))
theorem a9c{n:Nat}{c:Int}{i j:Int}(hc:F9 e c=some x)(hx:x.1≠26)(h1:(P9 n).1 e i env=some ra)(h2:(P9 n).1 e j env=some rb):(P9 (n+1)).2 e c [i,j] env=some (XL x ra rb):=by
 rw[b2p];unfold Au XL;rw[show F9 [i,j] 0=some i from rfl,show F9 [i,j] 1=some j from rfl];simp only[hc,o8,h1,h2,wR,J6 hx];cases x8 x.2 0
 .rfl
 rcases MR ra with⟨g1,g2⟩|⟨g1,g2,g3⟩|⟨g1,g2,g3,g4⟩|⟨g1,g2,g3,g4⟩
 .rw[g2,g1];rfl
 .rw[g1,g2,g3];rfl
 .rw[g1,g2,g3,g4];rfl
 .rw[g1,g2,g3,g4];simp only[D8,o6,o7,o8,J7,O8 (rfl:(0:Int)=0)];cases jl (x8 x.1 23) (x8 ra.1.2.2 0)
  .rcases MR rb with⟨g1,g2⟩|⟨g1,g2,g3⟩|⟨g1,g2,g3,g4⟩|⟨g1,g2,g3,g4⟩
   .rw[g2,g1];rfl
   .rw[g1,g2,g3];rfl
   .rw[g1,g2,g3,g4];rfl
   .rw[g1,g2,g3,g4];rfl
  .rfl
theorem a9d{n:Nat}{c:Int}{i j l:Int}{ra rb rc:V3×Int}(hc:F9 e c=some x)(hx:x.1=26)(h1:(P9 n).1 e i env=some ra)(h2:(P9 n).1 e j env=some rb)(h3:(P9 n).1 e l env=some rc):(P9 (n+1)).2 e c [i,j,l] env=some (a2A x ra rb rc):=by
 rw[b2p];unfold Au a2A;rw[show F9 [i,j,l] 0=some i from rfl,show F9 [i,j,l] 1=some j from rfl,show F9 [i,j,l] 2=some l from rfl];simp only[hc,o8,h1,h2,h3,wR,O8 hx];cases x8 x.2 0
 .rfl
 rcases MR ra with⟨g1,g2⟩|⟨g1,g2,g3⟩|⟨g1,g2,g3,g4⟩|⟨g1,g2,g3,g4⟩
 .rw[g2,g1];rfl
 .rw[g1,g2,g3];rfl
 .rw[g1,g2,g3,g4];rfl
 .rw[g1,g2,g3,g4];simp only[D8,o6,o7,o8,J7,O8 (rfl:(0:Int)=0)];cases x8 ra.1.2.2 1<;>rfl
theorem a0W{T:XT}(hE:EvOk env)(hT:mX e= .inr T)(hI:∀n∈e,kL n.2):∀(t:XT) (o k:Nat),At e (T.sts 0) t o->t.wf->3*t.size<=k->(P9 k).1 e (rtI t o:Int) env=some (evT env t):=by
 intro t;induction t with
 |l0 n=>intro o k h hw hk;have hr:=rY h;obtain⟨k,rfl⟩:∃m,k=m+3:=⟨k -3,by simp only[XT.size]at hk;omega⟩;have hz:=a0i (.inl (show arF n.1=0 from hw));rw[show k+3=(k+2)+1 from rfl,Tc _ _ _ _ n (KW (.l0 n) o) (by rw[E5];exact hr.1) (FI hT h hw)];rw[show lzB n.1=false by unfold lzB;rw[J6 hz.1,J6 hz.2.1,J6 hz.2.2];rfl,o6];rw[show KW (.l0 n) o=[]from rfl,v0 (Oa _ _ A7),o8,J7];exact(Gi [] hE (hI n (iO hr.1)) hz A7).1
 |l1 n a iha=>
  intro o k h hw hk;have hr:=rY h;simp only[XT.size]at hk;obtain⟨k,rfl⟩:∃m,k=m+3:=⟨k -3,l9⟩;have hz:=a0i (.inr (show arF n.1=1 from hw.1));rw[show k+3=(k+2)+1 from rfl,Tc _ _ _ _ n (KW (.l1 n a) o) (by rw[E5];exact hr.1) (FI hT h hw)];rw[show lzB n.1=false by unfold lzB;rw[J6 hz.1,J6 hz.2.1,J6 hz.2.2];rfl,o6];rw[show KW (.l1 n a) o=[(rtI a o:Int)]from rfl,v1 (Oa _ _ A7) (iha o (k+2) (a9Q h) hw.2 l9),o8];rw[show evT env (.l1 n a)=l7 (x8 (evT env a).2 0) (Gy n [(evT env a).1] env) ((0,0,0),(evT env a).2)from rfl];cases x8 (evT env a).2 0
  .rfl
  exact(Gi [(evT env a).1] hE (hI n (iO hr.1)) hz A7).1
 |l2 n a b iha ihb=>
  intro o k h hw hk;have hr:=rY h;simp only[XT.size]at hk;obtain⟨k,rfl⟩:∃m,k=m+3:=⟨k -3,l9⟩;have hz:=a9O (show arF n.1=2 from hw.1);rw[show k+3=(k+2)+1 from rfl,Tc _ _ _ _ n (KW (.l2 n a b) o) (by rw[E5];exact hr.1) (FI hT h hw)];rw[show KW (.l2 n a b) o=[(rtI a o:Int),(rtI b (o+a.size):Int)]from rfl];rw[show evT env (.l2 n a b)=l7 (lzB n.1) (XL n (evT env a) (evT env b)) (l7 (x8 (evT env a).2 0) (l7 (x8 (evT env b).2 0) (Gy n [(evT env a).1,(evT env b).1] env) ((0,0,0),(evT env b).2)) ((0,0,0),(evT env a).2))from rfl];cases hl:lzB n.1
  .have hz:=b6p hl;simp only[o6];rw[v2 (Oa _ _ A7) (iha o (k+2) (PS h).1 hw.2.1 l9) (ihb (o+a.size) (k+2) (PS h).2 hw.2.2 l9),o8];cases x8 (evT env a).2 0
   .rfl
   cases x8 (evT env b).2 0
   .rfl
   exact(Gi [(evT env a).1,(evT env b).1] hE (hI n (iO hr.1)) hz A7).1
  .simp only[o7];exact a9c (by rw[E5];exact hr.1) hz (iha o (k+1) (PS h).1 hw.2.1 l9) (ihb (o+a.size) (k+1) (PS h).2 hw.2.2 l9)
 |l3 n a b c iha ihb ihc=>intro o k h hw hk;have hr:=rY h;simp only[XT.size]at hk;obtain⟨k,rfl⟩:∃m,k=m+3:=⟨k -3,l9⟩;have hz:=a9P (show arF n.1=3 from hw.1);rw[show k+3=(k+2)+1 from rfl,Tc _ _ _ _ n (KW (.l3 n a b c) o) (by rw[E5];exact hr.1) (FI hT h hw)];rw[show lzB n.1=true by rw[hz];decide,o7];exact a9d (by rw[E5];exact hr.1) hz (iha o (k+1) (QW h).1 hw.2.1 l9) (ihb (o+a.size) (k+1) (QW h).2.1 hw.2.2.1 l9) (ihc (o+a.size+b.size) (k+1) (QW h).2.2 hw.2.2.2 l9)
def Fb(e:List (Int×Int))(env:bn):V3×Int:=match mX e with
 | .inl x=>((0,0,0),x.2)| .inr t=>evT env t
theorem a1R(h:mX e= .inr t):At e (t.sts 0) t 0/\e.length<=48/\e.length=t.size/\I7 .i64 (o9 e) 1=(rtI t 0:Int):=by
 obtain⟨hp,h48⟩:=Jc h;have hsz:e.length=t.size:=by rw[hp,XT.post_len]
 have hpos:=t.size_pos;refine⟨⟨[],[],[],[],by simp[←hp],A7,rfl,rfl⟩,h48,hsz,?_⟩;rw[P8 (by unfold kL o9;omega)];unfold o9 rtI;omega
theorem a6G(hE:EvOk env)(hI:∀n∈e,kL n.2):JJ e env=some (Fb e env):=by
 unfold JJ Nh Fb;rw[Tm];unfold xA;cases h:mX e with
 |inl x=>simp only[o8,J6 (EK h)];rfl|inr t=>obtain⟨h1,h2,h3,h4⟩:=a1R h;simp only[o8,O8 (rfl:(0:Int)=0),D8,o6,fJ];rw[h4,show zo (e,t.sts 0,env) ((rtI t 0:Nat):Int)=some (evT env t)from a2g hE h2 hI t 0 jU h1 (PH h) (by unfold jU;omega)]<;>rfl
theorem a3e(hE:EvOk env)(hI:∀n∈e,kL n.2):Ho e env=some (Fb e env):=by
 unfold Ho Lj Fb;rw[Ju];unfold xA;cases h:mX e with
 |inl x=>simp only[o8,J6 (EK h)];rfl|inr t=>obtain⟨h1,h2,h3,h4⟩:=a1R h;simp only[o8,O8 (rfl:(0:Int)=0),D8,o6,fJ];rw[h4,show NT e ((rtI t 0:Nat):Int) env=some (evT env t)from a0W hE h hI t 0 jU h1 (PH h) (by unfold jU;omega)]<;>rfl
abbrev E4:Type:=Int×Int×Int×Int
def XC(s:D6)(env:bn)(m d:Int)(ap:d1z)(i:Int):d1z⊕(Int×E4):=
 match F9 s.2.2.2.2 i with
 |none=> .inl ap|some r=>l7 (x8 (o9 r.2.2.2.2.2.1) 0) (.inl (ap++[true])) (l7 (x8 (Fb r.2.2.2.2.2.1 env).2 0) (.inl (ap++[x8 (Fb r.2.2.2.2.2.1 env).1.2.2 1])) (.inr (0,(Fb r.2.2.2.2.2.1 env).2,m,d,i)))
def ku(s:D6)(env:bn)(m d:Int):Int×E4:=
 match ik (XC s env m d) (iC s d env.1).1 []with
 | .inr e=>e| .inl ap=>l7 (D9 (Kq (iC s d env.1).2.1 (iC s d env.1).2.2 ap) 0) (Kq (iC s d env.1).2.1 (iC s d env.1).2.2 ap,0,0,0,0) (((iC s d env.1).1.getD (Kq (iC s d env.1).2.1 (iC s d env.1).2.2 ap).toNat 0),0,0,0,0)
variable {s:D6}
theorem YX{d t i:Int}(h:i∈(iC s d t).1):∃r,F9 s.2.2.2.2 i=some r/\r∈s.2.2.2.2:=by have h:i∈castL (pG s d t):=h;obtain⟨k,hk,rfl⟩:=bQ.1 h;have:=(UE hk).1;exact mV l9 (by unfold o9;omega)
theorem Tq(s:D6)(d t:Int):(iC s d t).1.length<=s.2.2.2.2.length/\(iC s d t).2.1.length=(iC s d t).1.length:=by
 refine⟨?_,?_⟩
 .show(castL (pG s d t)).length<=_;rw[OJ];exact Eg _ _
 .show((pG s d t).map _).length=(castL (pG s d t)).length;rw[OJ,V9]
theorem a9Z{oc pr:Int->Int}{l:d1v}(hn:0<=n)(h:∀x∈l,oc x<n):chF oc pr l<n:=by
 unfold chF;cases hb:Io oc pr l with
 |nil=>show(-1:Int)<n;omega|cons b r=>
  cases r with
  |nil=>exact h b (JD (oc:=oc) (pr:=pr) (by rw[hb];simp))|cons c r=>show(-2:Int)<n;omega
theorem b1b(par prio:d1v)(ap:d1z):∀(k:Nat) (i:Int),i<par.length->ocF par prio ap k i<par.length
 |0,i,h=>by show(-1:Int)<_;omega|k+1,i,h=>by
  unfold ocF;have hb:chF (ocF par prio ap k) (prF prio) (castL (AX par i))<(par.length:Int):=a9Z l9 λx hx=>by unfold castL at hx;obtain⟨j,hj,rfl⟩:=bQ.1 hx;have:=(a0B hj).1;exact b1b par prio ap k _ l9
  cases x8 (chF (ocF par prio ap k) (prF prio) (castL (AX par i))) (-1)
  .exact hb
  .cases apF ap i
   .show(-1:Int)<_;omega
   .exact h
theorem a7x(par prio:d1v)(ap:d1z):Kq par prio ap<par.length:=by
 unfold Kq;cases x8 (Jh par prio) 0
 .show(-1:Int)<_;omega
 cases x8 (o9 ap) (o9 par)
 .show(-1:Int)<_;omega
 show chS par prio ap (-1)<_;unfold chS;refine a9Z l9 λx hx=>?_;unfold castL at hx;obtain⟨j,hj,rfl⟩:=bQ.1 hx;have:=(a0B hj).1;unfold OC;exact b1b par prio ap _ _ l9
def a0N(m:Nat)(l:d1z):d1z:=l++List.replicate (m -l.length) false
theorem b1o{m:Nat}{l:d1z}(h:l.length<m):(a0N m l)[l.length]? =some false:=by unfold a0N;rw[I4 (F5 _),bT,kW,if_pos l9]
theorem b1p{m:Nat}{l:d1z}(v:Bool)(h:l.length<m):(a0N m l).set l.length v=a0N m (l++[v]):=by unfold a0N;obtain⟨k,hk⟩:∃k,m -l.length=k+1:=⟨m -l.length -1,l9⟩;rw[jy _ _ (F5 _),bT,hk,kQ,uM];rw[show m -(l++[v]).length=k by simp;omega];simp
theorem a8J{m:Nat}{l:d1z}(h:l.length=m):a0N m l=l:=by unfold a0N;rw[h,bT];simp
theorem Xf(s:D6)(env:bn)(m d:Int)(ap:d1z):
  l7 (D9 (Kq (iC s d env.1).2.1 (iC s d env.1).2.2 ap) 0) (some ((Kq (iC s d env.1).2.1 (iC s d env.1).2.2 ap,0,0,0,0):Int×E4))
   (o5 (F9 (iC s d env.1).1 (Kq (iC s d env.1).2.1 (iC s d env.1).2.2 ap)) λ(x_3:Int)=>o5 (U0 (iC s d env.1).1 (U9 (Kq (iC s d env.1).2.1 (iC s d env.1).2.2 ap))) λ(x:Int)=>some (x,0,0,0,0))=
  some (l7 (D9 (Kq (iC s d env.1).2.1 (iC s d env.1).2.2 ap) 0) (Kq (iC s d env.1).2.1 (iC s d env.1).2.2 ap,0,0,0,0) (((iC s d env.1).1.getD (Kq (iC s d env.1).2.1 (iC s d env.1).2.2 ap).toNat 0),0,0,0,0)):=by
 have hb:=a7x (iC s d env.1).2.1 (iC s d env.1).2.2 ap;have hl:=(Tq s d env.1).2;generalize Kq (iC s d env.1).2.1 (iC s d env.1).2.2 ap=q at*;generalize (iC s d env.1).1=L at*;by_cases g:q<0
 .rw[S9 g];rfl
 rw[J9 (iP.1 g)];obtain⟨i,rfl⟩:∃i:Nat,q=(i:Int):=⟨q.toNat,l9⟩;have hi:i<L.length:=l9;have e:=eG hi;simp only[o6,E5,e,o8,U0,U9,U2,zH,bK]
theorem a3E(hs:SmS s)(hE:EvOk env)(m d:Int):Aj s env m d=some (ku s env m d):=by
 have hnr:=hs.nr;have hlen:=(Tq s d env.1).1;unfold Aj;rw[a9t l9,o8];rw[show qL (o9 (iC s d env.1).1) false=some (a0N (iC s d env.1).1.length []) by rw[show o9 (iC s d env.1).1=((iC s d env.1).1.length:Int)from rfl,JV l9 l9];rfl,o8];unfold ku;apply lV (iC s d env.1).1 (XC s env m d) (λb i=>(((0,0,0,0),a0N (iC s d env.1).1.length b,i):E4×d1z×Int)) (λb=>(((0,0,0,0),b):E4×d1z)) (λi b=>b.length=i) [] l9 rfl
 .intro i a b hi hi' hb;obtain⟨r,hr,hm⟩:=YX (iO hi);have hlt:=(X6.1 hi).1;have hI:=(hs.ro r hm).1.2.2;subst hb;simp only[H6 hi,o7,E5,hi,o8,U0,U9,U2,hr,b1o hlt,bi,b1p _ hlt];unfold XC;rw[hr];simp only;cases x8 (o9 r.2.2.2.2.2.1) 0
  .simp only[o6];rw[a6G hE hI.1,o8];cases x8 (Fb r.2.2.2.2.2.1 env).2 0
   .exact⟨rfl,λ_ h=>by cases h⟩
   .simp only[D8,o6,o7];rw[Y1 l9];exact⟨rfl,λ_ h=>by cases h;simp⟩
  .simp only[o7];rw[Y1 l9];exact⟨rfl,λ_ h=>by cases h;simp⟩
 .intro b hb;rw[G6,a8J hb];rfl
 .intro _;cases ik (XC s env m d) (iC s d env.1).1 []with
  |inr e=>rfl|inl ap=>simp only[J7,a9m,o8];exact Xf s env m d ap
theorem a7T(hs:SmS s)(hE:EvOk env)(m d:Int):FV s env m d=some (ku s env m d):=by
 have hnr:=hs.nr;have hlen:=(Tq s d env.1).1;unfold FV;rw[a5j l9,o8];unfold ku;apply lV (iC s d env.1).1 (XC s env m d) (λb i=>(((0,0,0,0),b,i):E4×d1z×Int)) (λb=>(((0,0,0,0),b):E4×d1z)) (λi b=>b.length=i) [] l9 rfl
 .intro i a b hi hi' hb;obtain⟨r,hr,hm⟩:=YX (iO hi);have hlt:=(X6.1 hi).1;have hI:=(hs.ro r hm).1.2.2;subst hb;simp only[H6 hi,o7,E5,hi,o8,U0,U9,U2,hr];unfold XC;rw[hr];simp only;cases x8 (o9 r.2.2.2.2.2.1) 0
  .simp only[o6];rw[a3e hE hI.1,o8];cases x8 (Fb r.2.2.2.2.2.1 env).2 0
   .exact⟨rfl,λ_ h=>by cases h⟩
   .simp only[D8,o6,o7];rw[iR _ l9,o8,Y1 l9];exact⟨rfl,λ_ h=>by cases h;simp⟩
  .simp only[o7];rw[iR _ l9,o8,Y1 l9];exact⟨rfl,λ_ h=>by cases h;simp⟩
 .intro b hb;rw[G6];rfl
 .intro _;cases ik (XC s env m d) (iC s d env.1).1 []with
  |inr e=>rfl|inl ap=>simp only[J7,a5i,o8];exact Xf s env m d ap
theorem b0a{oc pr:Int->Int}{l:d1v}(h:∀x∈l,-2<=oc x):-2<=chF oc pr l:=by
 unfold chF;cases hb:Io oc pr l with
 |nil=>show -2<=(-1:Int);omega|cons b r=>
  cases r with
  |nil=>exact h b (JD (oc:=oc) (pr:=pr) (by rw[hb];simp))|cons c r=>show -2<=(-2:Int);omega
theorem b1c(par prio:d1v)(ap:d1z):∀(k:Nat) (i:Int),0<=i->-2<=ocF par prio ap k i
 |0,i,h=>by show -2<=(-1:Int);omega|k+1,i,h=>by
  unfold ocF;have hb:-2<=chF (ocF par prio ap k) (prF prio) (castL (AX par i)):=b0a λx hx=>by unfold castL at hx;obtain⟨j,hj,rfl⟩:=bQ.1 hx;exact b1c par prio ap k _ l9
  cases x8 (chF (ocF par prio ap k) (prF prio) (castL (AX par i))) (-1)
  .exact hb
  .cases apF ap i
   .show -2<=(-1:Int);omega
   .show -2<=i;omega
theorem b5R(par prio:d1v)(ap:d1z):-2<=Kq par prio ap:=by
 unfold Kq;cases x8 (Jh par prio) 0
 .show -2<=(-1:Int);omega
 cases x8 (o9 ap) (o9 par)
 .show -2<=(-1:Int);omega
 show -2<=chS par prio ap (-1);unfold chS;refine b0a λx hx=>?_;unfold castL at hx;obtain⟨j,hj,rfl⟩:=bQ.1 hx;unfold OC;exact b1c par prio ap _ _ l9
theorem b0v(b:d1z)(i:Int)(r:Int×E4)(h:XC s env m d b i= .inr r):r.2.1≠0:=by
 unfold XC at h;cases hl:F9 s.2.2.2.2 i with
 |none=>rw[hl]at h;cases h|some q=>
  rw[hl]at h;simp only at h;cases h1:x8 (o9 q.2.2.2.2.2.1) 0<;>rw[h1]at h
  .cases h2:x8 (Fb q.2.2.2.2.2.1 env).2 0<;>rw[h2]at h<;>cases h;simp only;intro h3;rw[O8 h3]at h2;cases h2
  .cases h
theorem UU(h0:(ku s env m d).2.1=0)(h1:(ku s env m d).1≠-1)(h2:(ku s env m d).1≠-2):∃r,F9 s.2.2.2.2 (ku s env m d).1=some r/\r∈s.2.2.2.2:=by
 unfold ku at*;cases hf:ik (XC s env m d) (iC s d env.1).1 []with
 |inr e=>rw[hf]at h0;exact absurd h0 (Bi (XC s env m d) (λr=>r.2.1≠0) b0v _ _ _ hf)|inl ap=>
  rw[hf]at h0 h1 h2;simp only at*;have hb:=a7x (iC s d env.1).2.1 (iC s d env.1).2.2 ap;have hlo:=b5R (iC s d env.1).2.1 (iC s d env.1).2.2 ap;have hl:=(Tq s d env.1).2;generalize Kq (iC s d env.1).2.1 (iC s d env.1).2.2 ap=q at*;by_cases g:q<0
  .rw[S9 g]at h1 h2;simp only[o7]at h1 h2;omega
  rw[J9 (iP.1 g)];have hi:q.toNat<(iC s d env.1).1.length:=l9;simp only[o6,zH,eG hi,bK];exact YX (N7 hi)
def a0q(s:D6)(env:bn)(m d:Int):(V3×Int)⊕E4:=
 l7 (x8 (ku s env m d).2.1 0) (l7 (x8 (ku s env m d).1 (-1)) (.inr (10,m,d,-1)) (l7 (x8 (ku s env m d).1 (-2)) (.inr (11,m,d,-1))
  (match F9 s.2.2.2.2 (ku s env m d).1 with
  |none=> .inr (1,0,0,0)
  |some r=>l7 (x8 (Fb r.2.2.2.2.2.2.1 env).2 0) (.inl ((Fb r.2.2.2.2.2.2.1 env).1,(ku s env m d).1)) (.inr ((Fb r.2.2.2.2.2.2.1 env).2,m,d,(ku s env m d).1))))) (.inr (ku s env m d).2)
theorem a1Z{e:E4}(h:a0q s env m d= .inr e):e.1≠0:=by
 unfold a0q at h;cases h0:x8 (ku s env m d).2.1 0<;>rw[h0]at h
 .cases h;intro h3;rw[O8 h3]at h0;cases h0
 cases h1:x8 (ku s env m d).1 (-1)<;>rw[h1]at h
 case true=>cases h;show(10:Int)≠0;decide
 cases h2:x8 (ku s env m d).1 (-2)<;>rw[h2]at h
 case true=>cases h;show(11:Int)≠0;decide
 simp only[o7,o6]at h;cases hl:F9 s.2.2.2.2 (ku s env m d).1 with
 |none=>rw[hl]at h;cases h;show(1:Int)≠0;decide|some r=>rw[hl]at h;simp only at h;cases h4:x8 (Fb r.2.2.2.2.2.2.1 env).2 0<;>rw[h4]at h<;>cases h;simp only;intro h3;rw[O8 h3]at h4;cases h4
theorem a7V(hs:SmS s)(hE:EvOk env)(m d:Int):FW s env m d=some (match a0q s env m d with| .inl v=>(v.1,v.2,0,0,0,0)| .inr e=>((0,0,0),0,e)):=by
 unfold FW a0q;rw[a7T hs hE,o8];cases h0:x8 (ku s env m d).2.1 0
 .rfl
 cases h1:x8 (ku s env m d).1 (-1)
 case true=>rfl
 cases h2:x8 (ku s env m d).1 (-2)
 case true=>rfl
 obtain⟨r,hr,hm⟩:=UU (Y5.1 h0) (λh=>by rw[O8 h]at h1;cases h1) (λh=>by rw[O8 h]at h2;cases h2);simp only[D8,o6,o7,hr,o8];rw[a3e hE (hs.ro r hm).1.2.2.2,o8];cases x8 (Fb r.2.2.2.2.2.2.1 env).2 0<;>rfl
theorem K_{s:D6} :∀(k:Nat) (O:d1v),(∀d∈O,0<=d/\d<nD s)->match Wi s k O with| .inl O' =>(∀d∈O',0<=d/\d<nD s)/\O'.length<=O.length+k| .inr x=>x.1=[]
 |0,O,h=>⟨h,l9⟩|k+1,O,h=>by
  unfold Wi;by_cases hc:O.length<s.2.2.2.1.length
  .rw[if_pos hc];cases hn:NH s O with
   |none=>rfl|some d=>
    have hd:=(a4O hn).1;have:=K_ k (O++[(d:Int)]) (λx hx=>by
     rcases F7.1 hx with hx|hx
     .exact h x hx
     .rw[dE]at hx;subst hx;unfold nD o9;omega)
    simp only;cases ho:Wi s k (O++[(d:Int)])with
    |inl O' =>rw[ho]at this;exact⟨this.1,by have:=this.2;simp at this;omega⟩|inr x=>rw[ho]at this;exact this
  .rw[if_neg hc];exact⟨h,l9⟩
theorem Vw(s:D6):(∀d∈(wX s).1,0<=d/\d<nD s)/\(wX s).1.length<=100:=by
 have:=K_ (s:=s) 100 [] A7;unfold wX;cases ho:Wi s 100 []with
 |inl O=>rw[ho]at this;exact⟨this.1,by have:=this.2;simp at this;exact this⟩|inr x=>rw[ho]at this;simp only at this ⊢;rw[this];simp
abbrev DB:Type:=List V3×d1v
def JH(env:bn)(ds:List V3):bn:=(env.1,env.2.1,ds,env.2.2.2)
theorem a0r(h:EvOk env)(ds:List V3):EvOk (JH env ds):=⟨h.ms,h.tb⟩
def scG(s:D6)(env:bn)(m:Int)(need:d1z)(b:DB)(d:Int):DB⊕(E4×List V3):=
 l7 ((F9 need d).getD false) (match a0q s (JH env b.1) m d with
  | .inl v=> .inl (b.1.set d.toNat v.1,b.2.set d.toNat v.2)
  | .inr e=> .inr (e,b.1)) (.inl b)
def scS(s:D6)(env:bn)(m:Int)(need:d1z):DB⊕(E4×List V3):=ik (scG s env m need) (wX s).1 (List.replicate s.2.2.2.1.length (0,0,0),List.replicate s.2.2.2.1.length 0)
variable {need:d1z}
theorem b5P(b:DB)(d:Int)(r:E4×List V3)(h:scG s env m need b d= .inr r):r.1.1≠0:=by
 unfold scG at h;cases hb:(F9 need d).getD false<;>rw[hb]at h
 .cases h
 simp only[o7]at h;cases hd:a0q s (JH env b.1) m d with
 |inl v=>rw[hd]at h;cases h|inr e=>rw[hd]at h;cases h;exact a1Z hd
theorem PD{r:E4×List V3}(h:scS s env m need= .inr r):r.1.1≠0:=Bi (scG s env m need) (λr=>r.1.1≠0) b5P _ _ _ h
def Uc{β ρ ρ' :Type}(h:ρ->ρ'):β⊕ρ->β⊕ρ'| .inl b=> .inl b| .inr r=> .inr (h r)
theorem JM{α β ρ ρ' :Type}(G:β->α->β⊕ρ)(G' :β->α->β⊕ρ')(h:ρ->ρ')(hG:∀b a,G' b a=Uc h (G b a)):∀(l:List α) (b:β),ik G' l b=Uc h (ik G l b)
 |[],b=>rfl|a::l,b=>by
  unfold ik;rw[hG b a];cases G b a with
  |inl b' =>exact JM G G' h hG l b'|inr r=>rfl
theorem CW(s:D6)(hs:SmS s)(x:α):qL (o9 s.2.2.2.1) x=some (List.replicate s.2.2.2.1.length x):=by have:=hs.nd;rw[show o9 s.2.2.2.1=(s.2.2.2.1.length:Int)from rfl,JV l9 l9];rfl
def scP(env:bn):E4×List V3->d1v×E4×bn:=λr=>([],r.1,JH env r.2)
theorem Rj(hs:SmS s)(hE:EvOk env)(m:Int)(hn:need.length=s.2.2.2.1.length):jo s env m need=some (match scS s env m need with| .inl b=>(b.2,(0,0,0,0),JH env b.1)| .inr r=>([],r.1,JH env r.2)):=by
 obtain⟨o1,o2⟩:=Vw s;unfold jo;rw[CW s hs,o8,CW s hs,o8,b1m hs,o8];have hfold:=JM (scG s env m need) (λb d=>Uc (scP env) (scG s env m need b d)) (scP env) (λ_ _=>rfl) (wX s).1 (List.replicate s.2.2.2.1.length (0,0,0),List.replicate s.2.2.2.1.length 0);unfold scS;apply lV (wX s).1 (λb d=>Uc (scP env) (scG s env m need b d)) (λb i=>((JH env b.1,(0,0,0,0),b.2,i):bn×E4×d1v×Int)) (λb=>((JH env b.1,(0,0,0,0),b.2):bn×E4×d1v)) (λi b=>b.1.length=s.2.2.2.1.length/\b.2.length=s.2.2.2.1.length) (List.replicate s.2.2.2.1.length (0,0,0),List.replicate s.2.2.2.1.length 0) l9 ⟨A7,A7⟩
 .intro i d b hi hi' hb;have hr:=o1 d (iO hi);have hnd:nD s=(s.2.2.2.1.length:Int):=rfl;obtain⟨k,rfl⟩:∃k:Nat,d=(k:Int):=⟨d.toNat,l9⟩;have hk:k<s.2.2.2.1.length:=l9;have e1:=eG (show k<need.length by omega);have e2:=eG (show k<b.1.length by omega);have e3:=eG (show k<b.2.length by omega);unfold scG;simp only[H6 hi,o7,E5,hi,o8,U0,U9,U2,e1,bK];cases need[k]
  .simp only[aB,o7,o6];rw[Y1 l9];exact⟨rfl,λ_ h=>by cases h;exact hb⟩
  simp only[D8,o7,o6];rw[a3E hs (a0r hE b.1),o8];unfold a0q;cases h0:x8 (ku s (JH env b.1) m (k:Int)).2.1 0
  .exact⟨rfl,λ_ h=>by cases h⟩
  cases h1:x8 (ku s (JH env b.1) m (k:Int)).1 (-1)
  case true=>exact⟨rfl,λ_ h=>by cases h⟩
  cases h2:x8 (ku s (JH env b.1) m (k:Int)).1 (-2)
  case true=>exact⟨rfl,λ_ h=>by cases h⟩
  obtain⟨r,hr,hm⟩:=UU (Y5.1 h0) (λh=>by rw[O8 h]at h1;cases h1) (λh=>by rw[O8 h]at h2;cases h2);simp only[D8,o6,o7,hr,o8];rw[a6G (a0r hE b.1) (hs.ro r hm).1.2.2.2,o8];cases h3:x8 (Fb r.2.2.2.2.2.2.1 (JH env b.1)).2 0
  .exact⟨rfl,λ_ h=>by cases h⟩
  .simp only[D8,o6,o7];refine⟨?_,λ_ h=>by cases h;exact⟨by simp[hb.1],by simp[hb.2]⟩⟩;rw[Y1 l9];have e2' :(JH env b.1).2.2.1[k]? =some (b.1[k]'l9):=e2;simp only[e2',e3,o8];rfl
 .intro b hb;rw[G6];rfl
 .intro _;rw[hfold];cases ik (scG s env m need) (wX s).1 (List.replicate s.2.2.2.1.length (0,0,0),List.replicate s.2.2.2.1.length 0)<;>rfl
theorem UX(hs:SmS s)(hE:EvOk env)(m:Int)(hn:need.length=s.2.2.2.1.length):uZ s env m need=some (match scS s env m need with| .inl b=>(b.1,b.2,0,0,0,0)| .inr r=>([],[],r.1)):=by
 obtain⟨o1,o2⟩:=Vw s;unfold uZ;rw[CW s hs,o8,CW s hs,o8,a8T hs,o8];have hfold:=JM (scG s env m need) (λb d=>Uc (λr=>(([],[],r.1):List V3×d1v×E4)) (scG s env m need b d)) (λr=>(([],[],r.1):List V3×d1v×E4)) (λ_ _=>rfl) (wX s).1 (List.replicate s.2.2.2.1.length (0,0,0),List.replicate s.2.2.2.1.length 0);unfold scS;apply lV (wX s).1 (λb d=>Uc (λr=>(([],[],r.1):List V3×d1v×E4)) (scG s env m need b d)) (λb i=>(((env.1,env.2.1,PUnit.unit,env.2.2.2),(0,0,0,0),b.1,b.2,i):(Int×List V3×PUnit×List (List V3)×List zC×List bJ)×E4×List V3×d1v×Int)) (λb=>(((0,0,0,0),b.1,b.2):E4×List V3×d1v)) (λi b=>b.1.length=s.2.2.2.1.length/\b.2.length=s.2.2.2.1.length) (List.replicate s.2.2.2.1.length (0,0,0),List.replicate s.2.2.2.1.length 0) l9 ⟨A7,A7⟩
 .intro i d b hi hi' hb;have hr:=o1 d (iO hi);have hnd:nD s=(s.2.2.2.1.length:Int):=rfl;obtain⟨k,rfl⟩:∃k:Nat,d=(k:Int):=⟨d.toNat,l9⟩;have hk:k<s.2.2.2.1.length:=l9;have e1:=eG (show k<need.length by omega);have e2:=eG (show k<b.1.length by omega);have e3:=eG (show k<b.2.length by omega);have hd:=a7V hs (a0r hE b.1) m (k:Int);unfold JH at hd;unfold scG;simp only[H6 hi,o7,E5,hi,o8,U0,U9,U2,e1,bK];cases need[k]
  .simp only[aB,o7,o6];rw[Y1 l9];exact⟨rfl,λ_ h=>by cases h;exact hb⟩
  simp only[D8,o7,o6];rw[hd,o8];unfold JH;cases hq:a0q s (env.1,env.2.1,b.1,env.2.2.2) m (k:Int)with
  |inr e=>simp only[J6 (a1Z hq)];exact⟨rfl,λ_ h=>by cases h⟩|inl v=>refine⟨?_,λ_ h=>by cases h;exact⟨by simp[hb.1],by simp[hb.2]⟩⟩;simp only[e2,e3,o8,O8 (rfl:(0:Int)=0),D8,o6];rw[Y1 l9];rfl
 .intro b hb;rw[G6];rfl
 .intro _;rw[hfold];cases ik (scG s env m need) (wX s).1 (List.replicate s.2.2.2.1.length (0,0,0),List.replicate s.2.2.2.1.length 0)<;>rfl
def PL(l:U5)(k:Int)(c:ig)(ex:Bool)(d:Int):E4:=
 l7 (x8 (iM l).1 0) (match F9 l.2.2 k with
  |none=>(6,-1,-1,-1)
  |some s=>l7 (l7 ex (l7 (D9 d 0) true (J5 (o9 s.2.2.2.1) d)) false) (6,-1,-1,-1) (l7 (x8 (MW l k c).2.2 0) (0,0,0,0) ((MW l k c).2.2,(MW l k c).1,-1,-1))) (1,-1,-1,-1)
theorem a2z(l:List D6)(k:Int):(D9 k 0=true/\F9 l k=none)\/(D9 k 0=false/\J5 (o9 l) k=true/\F9 l k=none)\/(D9 k 0=false/\J5 (o9 l) k=false/\∃s,F9 l k=some s/\s∈l):=by
 by_cases h:k<0
 .exact .inl ⟨S9 h,jO (.inl (Y4 h))⟩
 by_cases h2:o9 l<=k
 .exact .inr (.inl ⟨J9 l9,X5 h2,jO (.inr (J9 h2))⟩)
 .exact .inr (.inr ⟨J9 l9,Y4 l9,mV l9 l9⟩)
variable {l:U5}{c:ig}
theorem b4G(hL:SmL l)(k:Int)(hc:SmC c)(ex:Bool)(d:Int):qX l k c ex d=some (PL l k c ex d):=by
 unfold qX PL;rw[Ot hL,o8,b4I l k hc];cases x8 (iM l).1 0
 .rfl
 simp only[D8,o6,o7];rcases a2z l.2.2 k with⟨h1,h2⟩|⟨h1,h2,h3⟩|⟨h1,h2,s,h3,_⟩
 .rw[h1,h2];rfl
 .rw[h1,h2,h3];rfl
 .rw[h1,h2,h3];simp only[o6,o8];cases ex
  .simp only[o6,o8,J7];cases x8 (MW l k c).2.2 0<;>rfl
  .simp only[o7];cases D9 d 0
   .cases J5 (o9 s.2.2.2.1) d
    .simp only[o6,o8,J7];cases x8 (MW l k c).2.2 0<;>rfl
    .rfl
   .rfl
theorem b1Y(hL:SmL l)(k:Int)(hc:SmC c)(ex:Bool)(d:Int):CV l k c d ex=some (PL l k c ex d):=by
 unfold CV PL Jw;rw[Ld hL,o8,o8,b1Z l k hc];cases x8 (iM l).1 0
 .rfl
 simp only[D8,o6,o7];rcases a2z l.2.2 k with⟨h1,h2⟩|⟨h1,h2,h3⟩|⟨h1,h2,s,h3,_⟩
 .rw[h1,h2];rfl
 .rw[h1,h2,h3];rfl
 .rw[h1,h2,h3];simp only[o6,o8];cases ex
  .simp only[o6,o8,J7];cases x8 (MW l k c).2.2 0<;>rfl
  .simp only[o7];cases D9 d 0
   .cases J5 (o9 s.2.2.2.1) d
    .simp only[o6,o8,J7];cases x8 (MW l k c).2.2 0<;>rfl
    .rfl
   .rfl
def Cj:D6:=([],0,[],[],[])
def bf(l:U5)(s:D6):D6:=l7 (J5 0 s.2.1) ((F9 l.2.2 s.2.1).getD Cj) Cj
def Dz(n:Nat):d1z:=List.replicate n false
theorem ZP{ex:Bool}(h:(PL l k c ex d).1=0):(iM l).1=0/\∃s,F9 l.2.2 k=some s:=by
 unfold PL at h;cases h0:x8 (iM l).1 0<;>rw[h0]at h
 .exact absurd (show(1:Int)=0 from h) J8
 refine⟨Y5.1 h0,?_⟩;cases h1:F9 l.2.2 k with
 |none=>rw[h1]at h;exact absurd (show(6:Int)=0 from h) J8|some s=>exact⟨s,rfl⟩
theorem b4x(h:(iM l).1=0)(hs:l.2.2[i]? =some s):(EX l i s).1=0:=by
 unfold iM at h;cases h1:x8 (Jk l).1 0<;>rw[h1]at h
 .simp only[o6]at h;rw[O8 h]at h1;cases h1
 cases h2:x8 (Jd l).1 0<;>rw[h2]at h
 .simp only[o7,o6]at h;rw[O8 h]at h2;cases h2
 simp only[o7]at h;unfold PE at h;cases h3:D9 4 (o9 l.2.2)<;>rw[h3]at h
 case true=>exact absurd (show(4:Int)=0 from h) J8
 simp only[o6]at h;have hi:=(X6.1 hs).1;cases hf:Z4 l.2.2.length (Ia l)with
 |some r=>
  rw[hf]at h;simp only at h;obtain⟨j,hj,hp⟩:=ja hf;unfold Ia at hp;cases hq:l.2.2[j]? with
  |none=>rw[hq]at hp;cases hp|some q=>
   rw[hq]at hp;simp only at hp;unfold Qu at hp;exact absurd h (by cases he:x8 (EX l j q).1 0<;>rw[he]at hp<;>cases hp;simp only;intro h4;rw[O8 h4]at he;cases he)
 |none=>
  have hn:=Fq hf i hi;unfold Ia at hn;rw[hs]at hn;simp only at hn;unfold Qu at hn;cases he:x8 (EX l i s).1 0<;>rw[he]at hn
  .cases hn
  exact Y5.1 he
theorem a0a(h:(iM l).1=0)(hs:l.2.2[i]? =some s):GU l i s.2.1=false/\(Yk l s).1=0:=by
 have he:=b4x h hs;unfold EX at he;cases g1:ED s.1<;>rw[g1]at he
 .exact absurd (show(2:Int)=0 from he) J8
 cases g2:EL l 3 i s.1<;>rw[g2]at he
 case true=>exact absurd (show(7:Int)=0 from he) J8
 cases g3:GU l i s.2.1<;>rw[g3]at he
 case true=>exact absurd (show(6:Int)=0 from he) J8
 cases g4:D9 12 (o9 s.2.2.1)<;>rw[g4]at he
 case true=>exact absurd (show(4:Int)=0 from he) J8
 cases g5:D9 12 (o9 s.2.2.2.1)<;>rw[g5]at he
 case true=>exact absurd (show(4:Int)=0 from he) J8
 exact⟨rfl,he⟩
theorem a9x(h:(iM l).1=0)(hs:l.2.2[i]? =some s):GU l i s.2.1=false:=(a0a h hs).1
theorem EM(h:(iM l).1=0)(hs:F9 l.2.2 k=some s):(J5 0 s.2.1=false/\D9 s.2.1 0=true/\bf l s=Cj)\/(J5 0 s.2.1=true/\D9 s.2.1 0=false/\J5 (o9 l.2.2) s.2.1=false/\F9 l.2.2 s.2.1=some (bf l s)/\bf l s∈l.2.2):=by
 obtain⟨k0,k1,k2,k3⟩:=qw hs;have hm:=a9x h k3;unfold GU at hm;by_cases g:0<=s.2.1
 .right;rw[J6 (show s.2.1≠-1 by intro e;rw[e]at g;exact absurd g J8),J9 g]at hm;simp only[o6]at hm;cases g2:J5 ((k.toNat:Nat):Int) s.2.1<;>rw[g2]at hm
  case true=>cases hm
  rw[GL]at g2;have hlt:s.2.1<o9 l.2.2:=by have:((k.toNat:Nat):Int)=k:=aC k0;rw[this]at g2;exact Int.lt_trans g2 k1
  obtain⟨q,hq,hqm⟩:=mV g hlt;have e:bf l s=q:=by unfold bf;rw[X5 g,hq];rfl
  rw[e];exact⟨X5 g,J9 g,Y4 hlt,hq,hqm⟩
 .left;have g' :=kV.1 g;refine⟨Y4 g',S9 g',?_⟩;unfold bf;rw[Y4 g'];rfl
theorem a1L{σ ε α β:Type}{f:σ->Option (σ⊕ε)}{mk:List β->Int->σ}{fin:List β->ε}{l:List α}{g:α->β}
  (hs:∀(i:Nat) (a:α) (b:List β),l[i]? =some a->b.length=i->f (mk b (i:Int))=some (.inl (mk (b++[g a]) ((i+1:Nat):Int))))
  (he:∀b,f (mk b (l.length:Int))=some (.inr (fin b))):∀(l2 l1:List α) (k:Nat),l=l1++l2->uh f (k+1+l2.length) (mk (l1.map g) (l1.length:Int))=some (fin (l.map g))
 |[],l1,k,h=>by
  have:l=l1:=by simpa using h
  subst this;exact JU (he _)
 |a::l2,l1,k,h=>by rw[show k+1+(a::l2).length=(k+1+l2.length)+1 by simp;omega,DN (hs l1.length a (l1.map g) (by rw[h];simp) A7)];have:=a1L hs he l2 (l1++[a]) k (by rw[h];simp);simpa using this
theorem a6s{σ ε α β:Type}{f:σ->Option (σ⊕ε)}(mk:List β->Int->σ)(fin:List β->ε)(l:List α)(g:α->β)(hn:l.length<=1000000)
  (hs:∀(i:Nat) (a:α) (b:List β),l[i]? =some a->b.length=i->f (mk b (i:Int))=some (.inl (mk (b++[g a]) ((i+1:Nat):Int))))
  (he:∀b,f (mk b (l.length:Int))=some (.inr (fin b))):Y9 f (mk [] 0)=some (fin (l.map g)):=by
 unfold Y9;rw[show jU=(jU -l.length -1)+1+l.length by unfold jU;omega];exact a1L hs he l [] _ rfl
theorem Cf(h:(iM l).1=0)(hs:F9 l.2.2 k=some s):lY l k=some (bf l s):=by
 unfold lY;rw[hs,o8];rcases EM h hs with⟨g1,g2,g3⟩|⟨g1,g2,g3,g4,g5⟩
 .rw[g2,g3];rfl
 .rw[g2,g3,g4];rfl
theorem a2M(hL:SmL l)(h:(iM l).1=0)(hs:F9 l.2.2 k=some s):Ai l k=some (s,bf l s,Dz s.2.2.2.1.length,Dz (bf l s).2.2.2.1.length):=by
 have hm:=(qw hs).2.2.1;have hnd:=(hL.sc s hm).nd;unfold Ai;rw[hs,o8,show qL (o9 s.2.2.2.1) false=some (Dz s.2.2.2.1.length)from CW s (hL.sc s hm) false,o8];rcases EM h hs with⟨g1,g2,g3⟩|⟨g1,g2,g3,g4,g5⟩
 .rw[g1,g3];rfl
 .rw[g1,g4];simp only[o7,o8];rw[show qL (o9 (bf l s).2.2.2.1) false=some (Dz (bf l s).2.2.2.1.length)from CW _ (hL.sc _ g5) false,o8]
theorem a4P:SmS Cj:=⟨by simp[Cj],by simp[Cj],by simp[Cj],by simp[Cj],⟨by simp[Cj],by simp[Cj]⟩,by simp[Cj]⟩
def a4J(l:U5)(c:ig)(v:List V3):bn:=(c.1,v,[],[],[],l.2.1)
def mG(l:U5)(c:ig)(ms:D6)(need:d1z)(b:List DB)(a:List V3×Nat):List DB⊕E4:=
 match scS ms (a4J l c a.1) (a.2:Int) need with
 | .inl x=> .inl (b++[x])| .inr e=> .inr e.1
def mS(l:U5)(c:ig)(ms:D6)(need:d1z):List DB⊕E4:=ik (mG l c ms need) c.2.2.zipIdx []
theorem b0M{ms:D6}(b:List DB)(a:List V3×Nat)(r:E4)(h:mG l c ms need b a= .inr r):r.1≠0:=by
 unfold mG at h;cases hs:scS ms (a4J l c a.1) (a.2:Int) need with
 |inl x=>rw[hs]at h;cases h|inr e=>rw[hs]at h;cases h;exact PD hs
theorem a7H{l:List (List V3)}{a:List V3×Nat}(h:l.zipIdx[i]? =some a):l[i]? =some a.1/\a.2=i:=by
 rw[rE]at h;cases hl:l[i]? with
 |none=>rw[hl]at h;cases h|some v=>rw[hl]at h;cases h;exact⟨rfl,A7⟩
theorem a6U(hT:∀t∈l.2.1,xB t)(c:ig)(v:List V3):EvOk (a4J l c v):=⟨by simp[a4J],hT⟩
theorem Xt(h:(iM l).1=0)(hs:F9 l.2.2 k=some s)(hc:c.2.2.length<=1000)(hM:SmS (bf l s))(hT:∀t∈l.2.1,xB t)(hn:need.length=(bf l s).2.2.2.1.length):
  ru l k c need=some (match mS l c (bf l s) need with| .inl b=>(b.map (·.1),b.map (·.2),0,0,0,0)| .inr e=>([],[],e)):=by
 unfold ru;rw[Cf h hs,o8];have hfold:=JM (mG l c (bf l s) need) (λb a=>Uc (λe=>(([],[],e):List (List V3)×List d1v×E4)) (mG l c (bf l s) need b a)) (λe=>(([],[],e):List (List V3)×List d1v×E4)) (λ_ _=>rfl) c.2.2.zipIdx [];unfold mS;have hzl:c.2.2.zipIdx.length=c.2.2.length:=A7;apply lV c.2.2.zipIdx (λb a=>Uc (λe=>(([],[],e):List (List V3)×List d1v×E4)) (mG l c (bf l s) need b a)) (λb i=>(((0,0,0,0),b.map (·.1),b.map (·.2),i):E4×List (List V3)×List d1v×Int)) (λb=>(((0,0,0,0),b.map (·.1),b.map (·.2)):E4×List (List V3)×List d1v)) (λi b=>b.length=i) [] l9 rfl
 .intro i a b hi hi' hb;obtain⟨z1,z2⟩:=a7H hi;unfold ET mG;simp only[H6 z1,o7,E5,z1,o8];rw[show uZ (bf l s) (c.1,a.1,[],[],[],l.2.1) (i:Int) need=_ from UX hM (a6U hT c a.1) (i:Int) hn,o8,z2];unfold a4J;cases hq:scS (bf l s) (c.1,a.1,[],[],[],l.2.1) (i:Int) need with
  |inr e=>simp only[J6 (PD hq)];exact⟨rfl,λ_ h=>by cases h⟩|inl x=>simp only[O8 (rfl:(0:Int)=0),D8,o6];rw[iR _ V6,o8,iR _ V6,o8,Y1 l9];exact⟨by simp[Uc],λ_ h=>by cases h;simp[hb]⟩
 .intro b hb;rw[hzl,G6];rfl
 .intro _;rw[hfold];cases ik (mG l c (bf l s) need) c.2.2.zipIdx []<;>rfl
def Qe(l:U5)(s:D6)(c:ig)(b:List DB):bn:=(c.1,c.2.1,[],b.map (·.1),(bf l s).2.2.2.1.map (·.2),l.2.1)
theorem a2G(hL:SmL l)(h:(iM l).1=0)(hs:F9 l.2.2 k=some s):SmS (bf l s):=by
 rcases EM h hs with⟨_,_,g3⟩|⟨_,_,_,_,g5⟩
 .rw[g3];exact a4P
 .exact hL.sc _ g5
theorem b0N{ms:D6}{b:List DB}(h:mS l c ms need= .inl b):b.length=c.2.2.length:=by
 have key:∀(L:List (List V3×Nat)) (b0 b:List DB),ik (mG l c ms need) L b0= .inl b->b.length=b0.length+L.length:=by
  intro L;induction L with
  |nil=>intro b0 b h;cases h;simp|cons a L ih=>
   intro b0 b h;unfold ik at h;cases hg:mG l c ms need b0 a with
   |inr e=>rw[hg]at h;cases h|inl b1=>
    rw[hg]at h;have:=ih b1 b h;have h1:b1.length=b0.length+1:=by
     unfold mG at hg;cases hs:scS ms (a4J l c a.1) (a.2:Int) need with
     |inr e=>rw[hs]at hg;cases hg|inl x=>rw[hs]at hg;cases hg;simp
    simp only[H5];omega
 have:=key _ _ _ h;simpa using this
theorem a3d(hT:∀t∈l.2.1,xB t)(s:D6)(c:ig){b:List DB}(hb:b.length<=1000):EvOk (Qe l s c b):=⟨by simp[Qe];omega,hT⟩
theorem b5j(c:ig)(b:List DB)(h:(iM l).1=0)(hs:F9 l.2.2 k=some s)(hM:SmS (bf l s)):Po l k c (b.map (·.1))=some (Qe l s c b):=by
 have hnd:=hM.nd;unfold Po;rw[Cf h hs,o8,fJ];refine a6s (λL i=>(((c.1,c.2.1,[],b.map (·.1),L,l.2.1),i):bn×Int)) (λL=>((c.1,c.2.1,[],b.map (·.1),L,l.2.1):bn)) (bf l s).2.2.2.1 (λf=>f.2) l9 (λi a L hi hL=>?_) (λL=>?_)
 .have:=(X6.1 hi).1;simp only[H6 hi,o7,E5,hi,o8];rw[iR _ l9,o8,Y1 l9]
 .rw[G6];rfl
abbrev ZT:Type:=Int×List V3×PUnit×List (List V3)×List (Int×Int)×List bJ
def Zm(l:U5)(s:D6)(c:ig)(nS nM:d1z):DB×List DB⊕E4:=
 match mS l c (bf l s) nM with
 | .inr e=> .inr e
 | .inl b=>match scS s (Qe l s c b) (-1) nS with
  | .inl x=> .inl (x,b)| .inr r=> .inr r.1
variable {nS:d1z}{nM:d1z}
theorem a0t(hS:SmS s)(hM:SmS (bf l s))(hC:SmC c)(hT:∀t∈l.2.1,xB t)(h1:nS.length=s.2.2.2.1.length)(h2:nM.length=(bf l s).2.2.2.1.length):
  Ah l k c (s,bf l s,nS,nM)=some (match Zm l s c nS nM with
   | .inl x=>((x.1.1,x.1.2,x.2),JH (Qe l s c x.2) x.1.1,(0,0,0,0),(s,bf l s,nS,nM))
   | .inr e=>(([],[],[]),(0,[],[],[],[],[]),e,(s,bf l s,nS,nM))):=by
 have hnd:=hM.nd;have hnm:=hC.nm;unfold Ah;rw[show(Y9 _ _)=some (((c.1,c.2.1,PUnit.unit,PUnit.unit,(bf l s).2.2.2.1.map (λf=>f.2),l.2.1)):Int×List V3×PUnit×PUnit×List (Int×Int)×List bJ)from ?_,o8]
 rotate_left
 .refine a6s (λL i=>(((c.1,c.2.1,PUnit.unit,PUnit.unit,L,l.2.1),i):(Int×List V3×PUnit×PUnit×List (Int×Int)×List bJ)×Int)) (λL=>((c.1,c.2.1,PUnit.unit,PUnit.unit,L,l.2.1):Int×List V3×PUnit×PUnit×List (Int×Int)×List bJ)) (bf l s).2.2.2.1 (λf=>f.2) l9 (λi a L hi hL=>?_) (λL=>?_)
  .have:=(X6.1 hi).1;simp only[H6 hi,o7,E5,hi,o8];rw[iR _ l9,o8,Y1 l9]
  .rw[G6];rfl
 have hfold:=JM (mG l c (bf l s) nM) (λb a=>Uc (λe=>((([],[],[]),(0,[],[],[],[],[]),e,(s,bf l s,nS,nM)):Ac×bn×E4×bC)) (mG l c (bf l s) nM b a)) (λe=>((([],[],[]),(0,[],[],[],[],[]),e,(s,bf l s,nS,nM)):Ac×bn×E4×bC)) (λ_ _=>rfl) c.2.2.zipIdx [];have hzl:c.2.2.zipIdx.length=c.2.2.length:=A7;unfold Zm mS;apply lV c.2.2.zipIdx (λb a=>Uc (λe=>((([],[],[]),(0,[],[],[],[],[]),e,(s,bf l s,nS,nM)):Ac×bn×E4×bC)) (mG l c (bf l s) nM b a))
  (λb i=>((([],[],[]),(0,[],[],[],[],[]),(0,0,0,0),(c.1,c.2.1,PUnit.unit,b.map (·.1),(bf l s).2.2.2.1.map (λf=>f.2),l.2.1),([],[],b),i):Ac×bn×E4×ZT×Ac×Int))
  (λb=>((([],[],[]),(0,[],[],[],[],[]),(0,0,0,0),(c.1,c.2.1,PUnit.unit,b.map (·.1),(bf l s).2.2.2.1.map (λf=>f.2),l.2.1),([],[],b)):Ac×bn×E4×ZT×Ac))
  (λi b=>b.length=i) [] l9 rfl
 .intro i a b hi hi' hb;obtain⟨z1,z2⟩:=a7H hi;have hil:=(X6.1 z1).1;unfold mG;simp only[H6 z1,o7,E5,z1,o8];rw[show jo (bf l s) (c.1,a.1,[],[],[],l.2.1) (i:Int) nM=_ from Rj hM (a6U hT c a.1) (i:Int) h2,o8,z2];unfold a4J;cases hq:scS (bf l s) (c.1,a.1,[],[],[],l.2.1) (i:Int) nM with
  |inr e=>simp only[J6 (PD hq)];exact⟨rfl,λ_ h=>by cases h⟩|inl x=>simp only[O8 (rfl:(0:Int)=0),D8,o6];rw[iR _ V6,o8,iR _ l9,o8,Y1 l9];exact⟨by simp[Uc,JH],λ_ h=>by cases h;simp[hb]⟩
 .intro b hb;rw[hzl,G6];rfl
 .intro _;rw[hfold];cases hq:ik (mG l c (bf l s) nM) c.2.2.zipIdx []with
  |inr e=>rfl|inl b=>
   have hbl:b.length=c.2.2.length:=b0N (ms:=bf l s) (need:=nM) hq;have hsc:=Rj (need:=nS) hS (a3d hT s c (b:=b) l9) (-1) h1;unfold Qe at hsc;simp only[Uc,J7];rw[show jo s (c.1,c.2.1,[],b.map (·.1),(bf l s).2.2.2.1.map (λf=>f.2),l.2.1) (-1) nS=_ from hsc,o8];unfold Qe;cases hr:scS s (c.1,c.2.1,[],b.map (·.1),(bf l s).2.2.2.1.map (λf=>f.2),l.2.1) (-1) nS with
   |inr e=>simp only[J6 (PD hr)];rfl|inl x=>rfl
theorem jH{n:Nat}{l:List α}(h:D9 (n:Int) (o9 l)=false):l.length<=n:=by rw[iI]at h;unfold o9 at h;omega
def XN(r:ak):Bool:=l7 (D9 80 (o9 r.1)) true (l7 (D9 80 (o9 r.2.2.2.2.2.2.2)) true (l7 (D9 50 (o9 r.2.2.2.2.2.1)) true (D9 50 (o9 r.2.2.2.2.2.2.1))))
def smS(s:D6):Bool:=l7 (D9 80 (o9 s.1)) false (l7 (D9 14 (o9 s.2.2.1)) false (l7 (D9 14 (o9 s.2.2.2.1)) false (l7 (D9 60 (o9 s.2.2.2.2)) false
 (l7 (s.2.2.1.any λf=>D9 80 (o9 f.1)) false (l7 (s.2.2.2.1.any λf=>D9 80 (o9 f.1)) false (D7 (s.2.2.2.2.any XN)))))))
theorem Xv{fs:List fF}(h:fs.length<=1000000):U1 (λ(x:Int)=>l7 (D9 x (o9 fs)) (o5 (F9 fs x) λ(x_1:fF)=>l7 (D9 80 (o9 x_1.1)) (some (Out.rt false)) (some (Out.nx (x9 IntKind.i64 x 1)))) (some (Out.ex PUnit.unit))) 0=some (bif fs.any (λf=>D9 80 (o9 f.1))then .inr false else .inl PUnit.unit):=by
 refine wZ fs (λf=>D9 80 (o9 f.1)) false PUnit.unit h (λi a ha=>?_) ?_
 .simp only[H6 ha,o7,E5,ha,o8];cases D9 80 (o9 a.1)<;>rfl
 .rw[G6];rfl
theorem ZG(s:D6):AL s=some (smS s):=by
 unfold AL smS;cases h1:D9 80 (o9 s.1)
 case true=>rfl
 cases h2:D9 14 (o9 s.2.2.1)
 case true=>rfl
 cases h3:D9 14 (o9 s.2.2.2.1)
 case true=>rfl
 cases h4:D9 60 (o9 s.2.2.2.2)
 case true=>rfl
 have l2:=jH (n:=14) h2;have l3:=jH (n:=14) h3;have l4:=jH (n:=60) h4;simp only[o6,o8,J7];rw[Xv l9,Xv l9,o8];cases s.2.2.1.any λf=>D9 80 (o9 f.1)
 case true=>rfl
 simp only[cond_false,J7,o6,o8];cases s.2.2.2.1.any λf=>D9 80 (o9 f.1)
 case true=>rfl
 simp only[cond_false,J7,o6];refine U8 (wZ s.2.2.2.2 XN false PUnit.unit l9 (λi a ha=>?_) ?_) ?_
 rotate_left 2
 .cases s.2.2.2.2.any XN<;>rfl
 .simp only[H6 ha,o7,E5,ha,o8];unfold XN;cases D9 80 (o9 a.1)<;>cases D9 80 (o9 a.2.2.2.2.2.2.2)<;>cases D9 50 (o9 a.2.2.2.2.2.1)<;>cases D9 50 (o9 a.2.2.2.2.2.2.1)<;>rfl
 .rw[G6];rfl
def ScI(s:D6):Prop:=∀r∈s.2.2.2.2,(∀n∈r.2.2.2.2.2.1,kL n.2)/\∀n∈r.2.2.2.2.2.2.1,kL n.2
theorem VU{a b:Bool}(h:l7 a false b=true):a=false/\b=true:=by cases a<;>cases b<;>first|exact⟨rfl,rfl⟩|cases h
theorem ZO{l:List α}{p:α->Bool}(h:l.any p=false):∀a∈l,p a=false:=by
 intro a ha;rw[jJ]at h;have:=h a ha;cases hp:p a
 .rfl
 .exact absurd hp this
theorem b8r(h:smS s=true)(hI:ScI s):SmS s:=by
 unfold smS at h;obtain⟨h1,h⟩:=VU h;obtain⟨h2,h⟩:=VU h;obtain⟨h3,h⟩:=VU h;obtain⟨h4,h⟩:=VU h;obtain⟨h5,h⟩:=VU h;obtain⟨h6,h⟩:=VU h;have h7:s.2.2.2.2.any XN=false:=by cases hq:s.2.2.2.2.any XN<;>rw[hq]at h<;>first|rfl|cases h
 refine⟨by have:=jH (n:=80) h1;omega,jH (n:=14) h2,jH (n:=14) h3,jH (n:=60) h4,⟨λf hf=>?_,λf hf=>?_⟩,λr hr=>?_⟩
 .have:=jH (n:=80) (ZO h5 f hf);omega
 .have:=jH (n:=80) (ZO h6 f hf);omega
 .have hl:=ZO h7 r hr;unfold XN at hl;cases g1:D9 80 (o9 r.1)<;>rw[g1]at hl
  case true=>cases hl
  cases g2:D9 80 (o9 r.2.2.2.2.2.2.2)<;>rw[g2]at hl
  case true=>cases hl
  cases g3:D9 50 (o9 r.2.2.2.2.2.1)<;>rw[g3]at hl
  case true=>cases hl
  have k1:=jH (n:=80) g1;have k2:=jH (n:=80) g2;exact⟨⟨l9,l9,(hI r hr).1,(hI r hr).2⟩,jH (n:=50) g3,jH (n:=50) hl⟩
def smC(c:ig):Bool:=l7 (D9 14 (o9 c.2.1)) false (l7 (D9 10 (o9 c.2.2)) false (D7 (c.2.2.any λv=>D9 14 (o9 v))))
theorem a1o(c:ig):CZ c=some (smC c):=by
 unfold CZ smC;cases h1:D9 14 (o9 c.2.1)
 case true=>rfl
 cases h2:D9 10 (o9 c.2.2)
 case true=>rfl
 have l2:=jH (n:=10) h2;simp only[o6];refine U8 (wZ c.2.2 (λv=>D9 14 (o9 v)) false PUnit.unit l9 (λi a ha=>?_) ?_) ?_
 rotate_left 2
 .cases c.2.2.any λv=>D9 14 (o9 v)<;>rfl
 .simp only[H6 ha,o7,E5,ha,o8];cases D9 14 (o9 a)<;>rfl
 .rw[G6];rfl
theorem b8q(h:smC c=true):SmC c:=by
 unfold smC at h;obtain⟨h1,h⟩:=VU h;obtain⟨h2,h⟩:=VU h;have h3:(c.2.2.any λv=>D9 14 (o9 v))=false:=by cases hq:c.2.2.any λv=>D9 14 (o9 v)<;>rw[hq]at h<;>first|rfl|cases h
 exact⟨by have:=jH (n:=14) h1;omega,by have:=jH (n:=10) h2;omega,λv hv=>by have:=jH (n:=14) (ZO h3 v hv);omega⟩
theorem f_{α β ρ:Type}(G:β->α->β⊕ρ)(Inv:β->Prop)(hG:∀b a b',Inv b->G b a= .inl b' ->Inv b'):∀(l:List α) (b b' :β),Inv b->ik G l b= .inl b' ->Inv b'
 |[],b,b',hi,h=>by cases h;exact hi|a::l,b,b',hi,h=>by
  unfold ik at h;cases hg:G b a with
  |inr r=>rw[hg]at h;cases h|inl b1=>rw[hg]at h;exact f_ G Inv hG l b1 b' (hG b a b1 hi hg) h
theorem a7w{b:DB}(h:scS s env m need= .inl b):b.1.length=s.2.2.2.1.length/\b.2.length=s.2.2.2.1.length:=by
 refine f_ (scG s env m need) (λb=>b.1.length=s.2.2.2.1.length/\b.2.length=s.2.2.2.1.length) (λb a b' hi h=>?_) _ _ _ ⟨A7,A7⟩ h;unfold scG at h;cases hb:(F9 need a).getD false<;>rw[hb]at h
 .cases h;exact hi
 simp only[o7]at h;cases hd:a0q s (JH env b.1) m a with
 |inr e=>rw[hd]at h;cases h|inl v=>rw[hd]at h;cases h;exact⟨by simp[hi.1],by simp[hi.2]⟩
def a2C(e:gI):Bool:=l7 (D9 80 (o9 e.1)) true (l7 (D9 20 (o9 e.2)) true (e.2.any λm=>D9 80 (o9 m)))
def tG(b:Int)(t:bJ):Int⊕Bool:=l7 (D9 80 (o9 t.1)) (.inr false) (l7 (D9 150 (x9 .i64 b (o9 t.2.2.2))) (.inr false) (.inl (x9 .i64 b (o9 t.2.2.2))))
def sG(b:Int)(s:D6):Int⊕Bool:=l7 (D9 60 (x9 .i64 b (o9 s.2.2.2.2))) (.inr false) (l7 (smS s) (.inl (x9 .i64 b (o9 s.2.2.2.2))) (.inr false))
def smL(l:U5):Bool:=l7 (D9 9 (o9 l.1)) false (l7 (D9 9 (o9 l.2.1)) false (l7 (D9 5 (o9 l.2.2)) false (l7 (l.1.any a2C) false
 (match ik tG l.2.1 0 with| .inr _=>false| .inl _=>match ik sG l.2.2 0 with| .inr _=>false| .inl _=>true))))
theorem c1l:∀(b:Int) (t:bJ) (r:Bool),tG b t= .inr r->r=false:=by intro b t r h;unfold tG at h;cases g0:D9 80 (o9 t.1)<;>cases g:D9 150 (x9 .i64 b (o9 t.2.2.2))<;>simp only[g0,g,o7,o6]at h<;>cases h<;>rfl
theorem b8p:∀(b:Int) (s:D6) (r:Bool),sG b s= .inr r->r=false:=by intro b s r h;unfold sG at h;cases g:D9 60 (x9 .i64 b (o9 s.2.2.2.2))<;>cases g2:smS s<;>simp only[g,g2,o7,o6]at h<;>cases h<;>rfl
theorem VN(l:U5):zX l=some (smL l):=by
 unfold zX smL;cases h1:D9 9 (o9 l.1)
 case true=>rfl
 cases h2:D9 9 (o9 l.2.1)
 case true=>rfl
 cases h3:D9 5 (o9 l.2.2)
 case true=>rfl
 have l1:=jH (n:=9) h1;have l2:=jH (n:=9) h2;have l3:=jH (n:=5) h3;simp only[o6,o8,J7];refine U8 (wZ l.1 a2C false PUnit.unit l9 (λi a ha=>?_) ?_) ?_
 .simp only[H6 ha,o7,E5,ha,o8];unfold a2C;cases D9 80 (o9 a.1)
  case true=>rfl
  cases h5:D9 20 (o9 a.2)
  case true=>rfl
  have l5:=jH (n:=20) h5;simp only[o6];refine U8 (wZ a.2 (λm=>D9 80 (o9 m)) false PUnit.unit l9 (λj m hm=>?_) ?_) ?_
  .simp only[H6 hm,o7,E5,hm,o8];cases D9 80 (o9 m)<;>rfl
  .rw[G6];rfl
  .cases a.2.any λm=>D9 80 (o9 m)<;>rfl
 .rw[G6];rfl
 cases l.1.any a2C
 case true=>rfl
 simp only[cond_false,J7,o6];apply lV l.2.1 tG (λb i=>((b,i):Int×Int)) (λ_=>PUnit.unit) (λ_ _=>True) 0 l9 trivial
 .intro i t b hi hi' _;refine⟨?_,λ_ _=>trivial⟩;simp only[H6 hi,o7,E5,hi,o8];unfold tG;rw[Y1 l9];cases D9 80 (o9 t.1)<;>cases D9 150 (x9 .i64 b (o9 t.2.2.2))<;>rfl
 .intro b _;rw[G6];rfl
 .intro _;cases ht:ik tG l.2.1 0 with
  |inr r=>rw[Bi tG (λr=>r=false) c1l _ _ _ ht];rfl|inl b=>
   simp only[J7];apply lV l.2.2 sG (λb i=>((b,i):Int×Int)) (λ_=>PUnit.unit) (λ_ _=>True) 0 l9 trivial
   .intro i s b hi hi' _;refine⟨?_,λ_ _=>trivial⟩;simp only[H6 hi,o7,E5,hi,o8,ZG];unfold sG;rw[Y1 l9];cases D9 60 (x9 .i64 b (o9 s.2.2.2.2))<;>cases smS s<;>rfl
   .intro b _;rw[G6];rfl
   .intro _;cases hs:ik sG l.2.2 0 with
    |inr r=>rw[Bi sG (λr=>r=false) b8p _ _ _ hs];rfl|inl b=>rfl
structure WfL (l:U5):Prop where
 rl:∀t∈l.2.1,t.2.2.2.length<=4611686018427387904
 ri:∀t∈l.2.1,∀r∈t.2.2.2,a6m r
 sl:∀s∈l.2.2,s.2.2.2.2.length<=4611686018427387904
 si:∀s∈l.2.2,ScI s
theorem b4l:∀(L:List bJ) (b b' :Int),0<=b->b<=150->(∀t∈L,t.2.2.2.length<=4611686018427387904)->ik tG L b= .inl b' ->∀t∈L,t.1.length<=80/\t.2.2.2.length<=150
 |[],_,_,_,_,_,_=>by simp|t::L,b,b',h0,h1,hw,h=>by
  have hwt:=hw t A7;have ha:x9 .i64 b (o9 t.2.2.2)=b+o9 t.2.2.2:=X4 (by unfold kL o9;omega);unfold ik tG at h;rw[ha]at h;cases g0:D9 80 (o9 t.1)<;>rw[g0]at h
  case true=>cases h
  cases g1:D9 150 (b+o9 t.2.2.2)<;>rw[g1]at h
  case true=>cases h
  rw[iI]at g1;intro x hx;rcases D5.1 hx with rfl|hx
  .exact⟨jH (n:=80) g0,by unfold o9 at g1;omega⟩
  .exact b4l L (b+o9 t.2.2.2) b' (by unfold o9;omega) g1 (λq hq=>hw q (by simp[hq])) h x hx
theorem b2R:∀(L:List D6) (b b' :Int),0<=b->b<=60->(∀s∈L,s.2.2.2.2.length<=4611686018427387904)->ik sG L b= .inl b' ->∀s∈L,smS s=true
 |[],_,_,_,_,_,_=>by simp|s::L,b,b',h0,h1,hw,h=>by
  have hwt:=hw s A7;have ha:x9 .i64 b (o9 s.2.2.2.2)=b+o9 s.2.2.2.2:=X4 (by unfold kL o9;omega);unfold ik sG at h;rw[ha]at h;cases g1:D9 60 (b+o9 s.2.2.2.2)<;>rw[g1]at h
  case true=>cases h
  cases g2:smS s<;>rw[g2]at h
  case false=>cases h
  rw[iI]at g1;intro x hx;rcases D5.1 hx with rfl|hx
  .exact g2
  .exact b2R L (b+o9 s.2.2.2.2) b' (by unfold o9;omega) g1 (λq hq=>hw q (by simp[hq])) h x hx
theorem b3a(h:smL l=true)(hW:WfL l):SmL l/\∀t∈l.2.1,xB t:=by
 unfold smL at h;obtain⟨h1,h⟩:=VU h;obtain⟨h2,h⟩:=VU h;obtain⟨h3,h⟩:=VU h;obtain⟨h4,h⟩:=VU h;have l1:=jH (n:=9) h1;have l2:=jH (n:=9) h2;have l3:=jH (n:=5) h3;cases ht:ik tG l.2.1 0 with
 |inr r=>rw[ht]at h;cases h|inl b=>
  rw[ht]at h;simp only at h;cases hs:ik sG l.2.2 0 with
  |inr r=>rw[hs]at h;cases h|inl b' =>
   have T:=b4l l.2.1 0 b l9 l9 hW.rl ht;have S:=b2R l.2.2 0 b' l9 l9 hW.sl hs;refine⟨⟨⟨l9,l9,l9⟩,λe he=>?_,λt ht=>by have:=(T t ht).1;omega,λs hs=>b8r (S s hs) (hW.si s hs)⟩,λt ht=>⟨by have:=(T t ht).2;omega,hW.ri t ht⟩⟩;have hl:=ZO h4 e he;unfold a2C at hl;cases g1:D9 80 (o9 e.1)<;>rw[g1]at hl
   case true=>cases hl
   cases g2:D9 20 (o9 e.2)<;>rw[g2]at hl
   case true=>cases hl
   have k1:=jH (n:=80) g1;exact⟨l9,λm hm=>by have:=jH (n:=80) (ZO hl m hm);omega⟩
theorem a3m:reachBytes<=4611686018427387904:=by decide
theorem b6R(h:wf d0R l):WfL l:=by
 refine⟨λt ht=>?_,λt ht r hr=>?_,λs hs=>?_,λs hs r hr=>⟨λn hn=>?_,λn hn=>?_⟩⟩
 .have:=(h.2.1.2 t ht).2.2.2.1;exact iw this a3m
 .have:=(h.2.1.2 t ht).2.2.2.2 r hr;exact⟨Ze this.2.1,Ze this.2.2.1,Ze this.2.2.2⟩
 .have:=(h.2.2.2 s hs).2.2.2.2.1;exact iw this a3m
 .have:=(h.2.2.2 s hs).2.2.2.2.2 r hr;exact Ze (this.2.2.2.2.2.1.2 n hn).2
 .have:=(h.2.2.2 s hs).2.2.2.2.2 r hr;exact Ze (this.2.2.2.2.2.2.1.2 n hn).2
def Wl(w:d1z)(L:d1v):d1z:=L.foldl (λw x=>w.set x.toNat true) w
theorem YL:∀(L:d1v) (w:d1z),(Wl w L).length=w.length
 |[],w=>rfl|x::L,w=>(YL L (w.set x.toNat true)).trans A7
def PN(s:D6)(w:d1z)(d:Int):d1z:=Wl (w.set d.toNat true) (bz s d)
theorem NY(s:D6)(w:d1z)(d:Int):(PN s w d).length=w.length:=by unfold PN;rw[YL];simp
variable {w:d1z}
theorem Fj{n:Nat}(hw:w.length=n){x:Int}(h0:0<=x)(h1:x<(n:Int)):∃b,F9 w x=some b/\U0 w (U9 x)=some b:=by have h:x.toNat<w.length:=l9;exact⟨w[x.toNat],by unfold F9;rw[if_pos h0];exact eG h,eG h⟩
theorem wW(h:SmS s)(d:Int):(bz s d).length<=14:=DJ h (Ku s d).1 (λx hx=>Dk hx)
theorem YE(h:SmS s)(hw:w.length=s.2.2.2.1.length)(h0:0<=d)(h1:d<nD s):zQ s w d=some (PN s w d):=by
 have hn:nD s=((s.2.2.2.1.length:Nat):Int):=rfl;have hl:=wW h d;obtain⟨b,e1,e2⟩:=Fj hw h0 l9;unfold zQ;rw[e1,o8,e2,o8,xU h,o8,fJ];refine(lU (bz s d) (λ(w:d1z) (x:Int)=>w.set x.toNat true) (λw i=>(w,i)) (λw=>w) (λ_ w=>w.length=s.2.2.2.1.length) (b:=w.set d.toNat true) l9 (by simp[hw]) (λi x v hx hi hv=>?_) (λv hv=>?_)).1
 .have hr:=Dk (iO hx);obtain⟨b,e1,e2⟩:=Fj hv hr.1 l9;simp only[H6 hx,o7,E5,hx,o8];rw[e1,o8,e2,o8,Y1 l9];exact⟨rfl,by simp[hv]⟩
 .simp only[G6];rfl
theorem a0h{s m:D6}(h:SmS m){u w:d1z}(hw:w.length=m.2.2.2.1.length)(h0:0<=d)(h1:d<nD m):mW (s,m,u,w) d=some (s,m,u,PN m w d):=by
 have hn:nD m=((m.2.2.2.1.length:Nat):Int):=rfl;have hl:=wW h d;obtain⟨b,e1,e2⟩:=Fj hw h0 l9;unfold mW;simp only;rw[e1,o8,e2,o8,zY h h0 h1,o8,fJ];refine(lU (bz m d) (λ(w:d1z) (x:Int)=>w.set x.toNat true) (λw i=>(((s,m,u,w),i):bC×Int)) (λw=>((s,m,u,w):bC)) (λ_ w=>w.length=m.2.2.2.1.length) (b:=w.set d.toNat true) l9 (by simp[hw]) (λi x v hx hi hv=>?_) (λv hv=>?_)).1
 .have hr:=Dk (iO hx);obtain⟨b,e1,e2⟩:=Fj hv hr.1 l9;simp only[H6 hx,o7,E5,hx,o8];rw[show U0 (bz m d) (U9 (i:Int))=some x from hx,o8,e1,o8,e2,o8,Y1 l9];exact⟨rfl,by simp[hv]⟩
 .simp only[G6];rfl
def Fe(r:ak):d1v:=(rC r.2.2.2.2.2.1).2.2++(rC r.2.2.2.2.2.2.1).2.2
def mdl(rs:List ak)(C:d1v):d1v:=rs.flatMap λr=>l7 (pK C r.2.1) (Fe r) []
def mbS(s:D6)(d:Int):d1v:=l7 (inD (nD s) d) (MK (mdl s.2.2.2.2 (ins d (bz s d)))) []
variable {r:ak}
theorem Ue(h:SmS s)(hr:r∈s.2.2.2.2):(Fe r).length<=100:=by obtain⟨_,h1,h2⟩:=h.ro r hr;have a1:=Gp r.2.2.2.2.2.1;have a2:=Gp r.2.2.2.2.2.2.1;unfold Fe;rw[E8];omega
theorem a0E{s:D6}(h:SmS s)(C:d1v):∀(rs:List ak),(∀r∈rs,r∈s.2.2.2.2)->(mdl rs C).length<=100*rs.length
 |[],_=>by simp[mdl]|r::rs,hr=>by
  have h1:=a0E h C rs (λx hx=>hr x (by simp[hx]));have h2:=Ue h (hr r A7);have:mdl (r::rs) C=l7 (pK C r.2.1) (Fe r) []++mdl rs C:=rfl;rw[this,E8,H5];cases pK C r.2.1
  .simp only[o6,eF];omega
  .simp only[o7];omega
theorem b4Y{rs:List ak}{C:d1v}{x:Int} :x∈mdl rs C↔∃r∈rs,pK C r.2.1=true/\x∈Fe r:=by
 unfold mdl;rw[Dt];constructor
 .rintro⟨r,h1,h2⟩;cases h:pK C r.2.1<;>rw[h]at h2
  .simp at h2
  .exact⟨r,h1,h,h2⟩
 .rintro⟨r,h1,h2,h3⟩;exact⟨r,h1,by rw[h2];exact h3⟩
theorem a6O{f:d1v×Int->Option ((d1v×Int)⊕d1v)}(l b:d1v)(hl:l.length<=1000)(hb:b.length<=100000)
  (hin:∀(i:Nat) (a:Int) (acc:d1v),l[i]? =some a->i<=1000000->f (acc,(i:Int))=o5 (kX acc a) λx=>some (.inl (x,x9 .i64 (i:Int) 1)))
  (hend:∀acc,f (acc,(l.length:Int))=some (.inr acc)):Y9 f (b,0)=some (EC l b):=by
 refine(lU l (λ(acc:d1v) x=>ins x acc) (λb i=>(b,i)) (λb=>b) (λi acc=>acc.length<=100000+i) (f:=f) (b:=b) l9 l9 (λi a acc ha hi hI=>?_) (λacc hI=>hend acc)).1;have hlt:=(X6.1 ha).1;have h2:=vO a acc;rw[hin i a acc ha hi,Y1 l9,Ba _ l9];exact⟨rfl,by show(ins a acc).length<=_;omega⟩
theorem NM(h:SmS s)(d:Int):uV s d=some (mbS s d):=by
 have hnr:=h.nr;have hl:=wW h d;have hli:=vO d (bz s d);unfold uV mbS;rw[a5d,o8];change l7 (D7 (inD (nD s) d)) _ _=_;cases inD (nD s) d
 .rfl
 simp only[D8,o6,o7];rw[xU h,o8,Ba _ l9,o8];generalize hC:ins d (bz s d)=C at*;refine aZ s.2.2.2.2 (λ(acc:d1v) r=>l7 (pK C r.2.1) (EC (Fe r) acc) acc) (λb i=>(b,i)) (λb=>b) (λi acc=>acc.length<=100*i) [] l9 A7 (λi r acc ha hi hI=>?_) (λacc hI=>?_) (λh2=>?_)
 .have hlt:=(X6.1 ha).1;obtain⟨_,h1,h2⟩:=h.ro r (iO ha);have a1:=Gp r.2.2.2.2.2.1;have a2:=Gp r.2.2.2.2.2.2.1;have hlen:=Bo (Fe r) acc;have hrl:=Ue h (iO ha);simp only[H6 ha,o7,E5,ha,o8];rw[Y1 l9,a0X l9,o8];cases pK C r.2.1
  .exact⟨rfl,by show acc.length<=_;omega⟩
  simp only[D8,o6,o7,Cm (show r.2.2.2.2.2.1.length<=500000 by omega),Cm (show r.2.2.2.2.2.2.1.length<=500000 by omega),o8];refine⟨?_,by show(EC (Fe r) acc).length<=_;omega⟩;refine U8 (a6O (rC r.2.2.2.2.2.1).2.2 acc l9 l9 (λi a acc ha hi=>?_) (λacc=>?_)) ?_
  rotate_left 2
  .rw[o8];have hl2:=Bo (rC r.2.2.2.2.2.1).2.2 acc;refine U8 (a6O (rC r.2.2.2.2.2.2.1).2.2 _ l9 l9 (λi a acc ha hi=>?_) (λacc=>?_)) ?_
   rotate_left 2
   .rw[o8];unfold Fe;rw[IC]
   .simp only[H6 ha,o7,E5,ha,o8];rw[show U0 (rC r.2.2.2.2.2.2.1).2.2 (U9 (i:Int))=some a from ha];rfl
   .simp only[G6];rfl
  .simp only[H6 ha,o7,E5,ha,o8];rw[show U0 (rC r.2.2.2.2.2.1).2.2 (U9 (i:Int))=some a from ha];rfl
  .simp only[G6];rfl
 .simp only[G6];rfl
 .have hf:∀(l:List ak) (b:d1v),l.foldl (λ(acc:d1v) r=>l7 (pK C r.2.1) (EC (Fe r) acc) acc) b=EC (mdl l C) b:=by
   intro l;induction l with
   |nil=>intro b;rfl|cons a l ih=>intro b;rw[P5,ih,show mdl (a::l) C=l7 (pK C a.2.1) (Fe a) []++mdl l C from rfl,IC];cases pK C a.2.1<;>rfl
  rw[hf];rfl
theorem a7a:∀(L:d1v) (w:d1z),(∀x∈L,0<=x/\x<o9 w)->∀x,mk (Wl w L) x=true↔mk w x=true\/x∈L
 |[],w,_,x=>by simp[Wl]|y::L,w,h,x=>by
  have hy:=h y A7;have ih:=a7a L (w.set y.toNat true) (λz hz=>by have:=h z (by simp[hz]);simp only[o9,sO]at this ⊢;exact this) x;rw[show Wl w (y::L)=Wl (w.set y.toNat true) L from rfl,ih,a0G hy.1 hy.2];cases hq:x8 x y
  .have:x≠y:=λe=>by rw[O8 e]at hq;cases hq
   simp[this]
  .rw[Y5]at hq;simp[hq]
theorem a8q(n:Nat)(x:Int):mk (List.replicate n false) x=false:=by
 unfold mk;split
 .rw[zH,kW];split<;>rfl
 .rfl
theorem Qa(h:SmS s)(h0:0<=d)(h1:d<nD s):wE s d=some (mbS s d):=by
 have hn:nD s=((s.2.2.2.1.length:Nat):Int):=rfl;have hnr:=h.nr;have hnd:=h.nd;have hl:=wW h d;have hr:yB ((List.range s.2.2.2.1.length).map λ(d:Nat)=>P7 s (d:Int)) d=some (bz s d):=by obtain⟨L,k1,k2⟩:=Yx (D:=P7 s) h.nd (Bf s) (λx y hy=>yC hy) h0 (show d<((s.2.2.2.1.length:Nat):Int) by omega);rw[k1,Rch.unique k2 (Ku s d)]
 obtain⟨b,e1,e2⟩:=Fj (w:=List.replicate s.2.2.2.1.length false) A7 h0 (show d<((s.2.2.2.1.length:Nat):Int) by omega);unfold wE mbS;rw[show inD (nD s) d=true by unfold inD;rw[X5 h0,S9 h1];rfl,o7];change o5 (l7 (D9 d 0) _ (l7 (J5 (nD s) d) _ _)) _=_;rw[J9 h0,o6,Y4 h1,o6,o8];simp only[J7];rw[CW s h false,o8,e1,o8,e2,o8,Kw h,o8,hr,o8];refine U8 (o' :=some (Wl ((List.replicate s.2.2.2.1.length false).set d.toNat true) (bz s d))) ?_ ?_
 .refine(lU (bz s d) (λ(w:d1z) (x:Int)=>w.set x.toNat true) (λw i=>(w,i)) (λw=>w) (λ_ w=>w.length=s.2.2.2.1.length) (b:=(List.replicate s.2.2.2.1.length false).set d.toNat true) l9 A7 (λi x v hx hi hv=>?_) (λv hv=>?_)).1
  .have hr:=Dk (iO hx);obtain⟨b,e1,e2⟩:=Fj hv hr.1 l9;simp only[H6 hx,o7,E5,hx,o8];rw[show U0 (bz s d) (U9 (i:Int))=some x from hx,o8,e1,o8,e2,o8,Y1 l9];exact⟨rfl,by simp[hv]⟩
  .simp only[G6];rfl
 rw[o8];have hW:∀x,0<=x->x<nD s->mk (Wl ((List.replicate s.2.2.2.1.length false).set d.toNat true) (bz s d)) x=pK (ins d (bz s d)) x:=λx x0 x1=>by
  have hm:=a7a (bz s d) ((List.replicate s.2.2.2.1.length false).set d.toNat true) (λy hy=>by have:=Dk hy;simp only[o9,sO,qI];omega) x;have hd:=a0G (S:=List.replicate s.2.2.2.1.length false) (e:=d) h0 (by simp only[o9,qI];omega) x;have hh:pK (ins d (bz s d)) x=true↔x=d\/x∈bz s d:=by rw[Ez,RQ]
  have key:mk (Wl ((List.replicate s.2.2.2.1.length false).set d.toNat true) (bz s d)) x=true↔pK (ins d (bz s d)) x=true:=by
   rw[hm,hh,hd,a8q];cases hq:x8 x d
   .have:x≠d:=λe=>by rw[O8 e]at hq;cases hq
    simp[this]
   .rw[Y5]at hq;simp[hq]
  rcases Bool.eq_false_or_eq_true (pK (ins d (bz s d)) x)with hb|hb
  .rw[hb];exact key.2 hb
  .rw[hb];cases hc:mk (Wl ((List.replicate s.2.2.2.1.length false).set d.toNat true) (bz s d)) x
   .rfl
   .rw[key.1 hc]at hb;cases hb
 have hWl:(Wl ((List.replicate s.2.2.2.1.length false).set d.toNat true) (bz s d)).length=s.2.2.2.1.length:=by rw[YL];simp
 have hCin:∀x∈ins d (bz s d),0<=x/\x<nD s:=λx hx=>by
  rcases(RQ d x _).1 hx with rfl|hx
  .exact⟨h0,h1⟩
  .exact Dk hx
 generalize Wl ((List.replicate s.2.2.2.1.length false).set d.toNat true) (bz s d)=W at*;generalize ins d (bz s d)=C at*;refine aZ s.2.2.2.2 (λ(acc:d1v) r=>l7 (pK C r.2.1) (acc++Fe r) acc) (λb i=>(b,i)) (λb=>b) (λi acc=>acc.length<=100*i) [] l9 A7 (λi r acc ha hi hI=>?_) (λacc hI=>?_) (λh2=>?_)
 .have hlt:=(X6.1 ha).1;obtain⟨_,h1,h2⟩:=h.ro r (iO ha);have a1:=Gp r.2.2.2.2.2.1;have a2:=Gp r.2.2.2.2.2.2.1;have hrl:=Ue h (iO ha);simp only[H6 ha,o7,E5,ha,o8];rw[Y1 l9];obtain⟨e,he⟩:∃e:Int,r.2.1=e:=⟨_,rfl⟩;rw[he];change l7 (D9 e 0) _ (l7 (J5 (nD s) e) _ _)=_/\_;by_cases q0:0<=e
  case neg=>
   have:pK C e=false:=by
    cases hq:pK C e
    .rfl
    .exact absurd (hCin _ (Ez.1 hq)).1 q0
   rw[S9 (show e<0 by omega),this];exact⟨rfl,by show acc.length<=_;omega⟩
  by_cases q1:e<nD s
  case neg=>
   have:pK C e=false:=by
    cases hq:pK C e
    .rfl
    .exact absurd (hCin _ (Ez.1 hq)).2 q1
   rw[J9 q0,X5 (show nD s<=e by omega),this];exact⟨rfl,by show acc.length<=_;omega⟩
  obtain⟨b,f1,f2⟩:=Fj hWl q0 (show e<((s.2.2.2.1.length:Nat):Int) by omega);have hb:b=pK C e:=by have:=a4M (S:=W) q0 (by simp only[o9];omega);rw[←hW _ q0 q1];have e3:W[e.toNat]? =some b:=f2;rw[this]at e3;exact(aP e3).symm
  rw[J9 q0,o6,Y4 q1,o6,f1,o8,f2,o8,hb];cases pK C e
  .exact⟨rfl,by show acc.length<=_;omega⟩
  simp only[D8,o6,o7,Es (show r.2.2.2.2.2.1.length<=1000000 by omega),Es (show r.2.2.2.2.2.2.1.length<=1000000 by omega),o8];rw[KR l9,o8,KR (by rw[E8];omega),o8];refine⟨by unfold Fe;rw[F8],by show(acc++Fe r).length<=_;rw[E8];omega⟩
 .simp only[G6];rfl
 .have hf:∀(l:List ak) (b:d1v),l.foldl (λ(acc:d1v) r=>l7 (pK C r.2.1) (acc++Fe r) acc) b=b++mdl l C:=by
   intro l;induction l with
   |nil=>intro b;simp[mdl]|cons a l ih=>intro b;rw[P5,ih,show mdl (a::l) C=l7 (pK C a.2.1) (Fe a) []++mdl l C from rfl];cases pK C a.2.1<;>simp
  rw[hf,H8];have hml:=a0E h C s.2.2.2.2 (λ_ h=>h);rw[Tj l9];rfl
def QA(m:D6)(w:d1z)(L:d1v):d1z:=L.foldl (PN m) w
theorem QB(m:D6):∀(L:d1v) (w:d1z),(QA m w L).length=w.length
 |[],w=>rfl|x::L,w=>(QB m L (PN m w x)).trans (NY m w x)
theorem RN(h:SmS s)(d:Int):(mbS s d).length<=6000:=by
 unfold mbS;cases inD (nD s) d
 .simp
 .have h1:=Nw (mdl s.2.2.2.2 (ins d (bz s d)));have h2:=a0E h (ins d (bz s d)) s.2.2.2.2 (λ_ h=>h);have:=h.nr;simp only[o7];omega
theorem a7K{s m:D6}(h:SmS s)(hm:SmS m){u w:d1z}(hu:u.length=s.2.2.2.1.length)(hw:w.length=m.2.2.2.1.length)(h0:0<=d)(h1:d<nD s)(hr:∀x∈mbS s d,0<=x/\x<nD m):
  uw (s,m,u,w) d=some (s,m,PN s u d,QA m w (mbS s d)):=by
 have hn:nD s=((s.2.2.2.1.length:Nat):Int):=rfl;have hl:=wW h d;have hml:=RN h d;obtain⟨b,e1,e2⟩:=Fj hu h0 l9;unfold uw;simp only;rw[e1,o8,e2,o8,zY h h0 h1,o8];refine U8 (o' :=some ((s,m,PN s u d,w):bC)) ?_ ?_
 .refine(lU (bz s d) (λ(v:d1z) (x:Int)=>v.set x.toNat true) (λv i=>(((s,m,v,w),i):bC×Int)) (λv=>((s,m,v,w):bC)) (λ_ v=>v.length=s.2.2.2.1.length) (b:=u.set d.toNat true) l9 (by simp[hu]) (λi x v hx hi hv=>?_) (λv hv=>?_)).1
  .have hr:=Dk (iO hx);obtain⟨b,e1,e2⟩:=Fj hv hr.1 l9;simp only[H6 hx,o7,E5,hx,o8];rw[show U0 (bz s d) (U9 (i:Int))=some x from hx,o8,e1,o8,e2,o8,Y1 l9];exact⟨rfl,by simp[hv]⟩
  .simp only[G6];rfl
 rw[o8];simp only;rw[Qa h h0 h1,o8,fJ];refine(lU (mbS s d) (PN m) (λv i=>(((s,m,PN s u d,v),i):bC×Int)) (λv=>((s,m,PN s u d,v):bC)) (λ_ v=>v.length=m.2.2.2.1.length) (b:=w) l9 hw (λi x v hx hi hv=>?_) (λv hv=>?_)).1
 .have hq:=hr x (iO hx);simp only[H6 hx,o7,E5,hx,o8];rw[show U0 (mbS s d) (U9 (i:Int))=some x from hx,o8,a0h hm hv hq.1 hq.2,o8,Y1 l9];exact⟨rfl,(NY m v x).trans hv⟩
 .simp only[G6];rfl
theorem SY(hv:(iM l).1=0)(hs:F9 l.2.2 k=some s)(h:SmS s)(hm:SmS (bf l s))(hw:w.length=(bf l s).2.2.2.1.length)(d:Int)(hr:∀x∈mbS s d,0<=x/\x<nD (bf l s)):
  tu l k w d=some (QA (bf l s) w (mbS s d)):=by
 have hml:=RN h d;unfold tu;rw[hs,o8,NM h,o8,fJ];refine(lU (mbS s d) (PN (bf l s)) (λv i=>(v,i)) (λv=>v) (λ_ v=>v.length=(bf l s).2.2.2.1.length) (b:=w) l9 hw (λi x v hx hi hq=>?_) (λv hv=>?_)).1
 .have hx2:=hr x (iO hx);simp only[H6 hx,o7,E5,hx,o8];rw[Cf hv hs,o8,show U0 (mbS s d) (U9 (i:Int))=some x from hx,o8,YE hm hq hx2.1 hx2.2,o8,Y1 l9];exact⟨rfl,(NY _ v x).trans hq⟩
 .simp only[G6];rfl
variable {sg:L8}
theorem b6t(hk:iy k=some true)(h:(UD (k,N) [] sg).2=0):((RR (k,N) [] sg).getD ((0,0),0)).2=0:=by
 unfold UD at h;rw[b6T]at h;revert h;cases D7 (x8 N 0)
 .exact id
 .rw[show iy (k,N).1=some true from hk];exact id
theorem b5p(h:(UD (8,N) [] sg).2=0):0<=N/\N<o9 sg.2.2.2.1:=by
 have h:=b6t rfl h;have hf:vH (8,N) sg=l7 (J5 0 N) (some (D9 N (o9 sg.2.2.2.1))) (some false):=rfl;unfold RR at h;rw[hf,show sW (8,N) sg=some true from rfl]at h;cases h1:J5 0 N<;>rw[h1]at h
 .exact absurd (show(6:Int)=0 from h) J8
 cases h2:D9 N (o9 sg.2.2.2.1)<;>rw[h2]at h
 .exact absurd (show(6:Int)=0 from h) J8
 exact⟨qc.1 h1,kz.1 h2⟩
theorem b5q(hk:k=36\/k=37\/k=38\/k=39)(h:(UD (k,N) [] sg).2=0):0<=N/\N<o9 sg.2.2.2.2.1/\sg.2.2.2.2.2=true:=by
 have h:=b6t (by rcases hk with rfl|rfl|rfl|rfl<;>rfl) h;have hr:RR (k,N) [] sg=o5 (l7 sg.2.2.2.2.2 (l7 (J5 0 N) (some (D9 N (o9 sg.2.2.2.2.1))) (some false)) (some false)) λ(x:Bool)=>l7 (D7 x) (some ((0,0),6))
   (o5 (lX (k,N) sg) λ(x:zC×Bool)=>l7 (D7 x.2) (some ((0,0),8)) (some (x.1,0))):=by rcases hk with rfl|rfl|rfl|rfl<;>rfl
 rw[hr]at h;cases h0:sg.2.2.2.2.2<;>rw[h0]at h
 .exact absurd (show(6:Int)=0 from h) J8
 cases h1:J5 0 N<;>rw[h1]at h
 .exact absurd (show(6:Int)=0 from h) J8
 cases h2:D9 N (o9 sg.2.2.2.2.1)<;>rw[h2]at h
 .exact absurd (show(6:Int)=0 from h) J8
 exact⟨qc.1 h1,kz.1 h2,rfl⟩
def WM(sg:L8)(n:Int×Int):Prop:=(x8 n.1 8=true->0<=n.2/\n.2<o9 sg.2.2.2.1)/\(isM n.1=true->0<=n.2/\n.2<o9 sg.2.2.2.2.1/\sg.2.2.2.2.2=true)
theorem v_(h:isM k=true):k=36\/k=37\/k=38\/k=39:=by
 unfold isM at h;cases h1:J5 36 k<;>rw[h1]at h
 .cases h
 have h2:=qc.1 h1;have h3:=qc.1 (show J5 k 39=true from h);omega
theorem b0Y{n:Int×Int}{t:Int×Int}(h:GZ sg n [] i= .inr t):WM sg n:=by
 unfold GZ at h;split at h
 .rename_i h0;obtain⟨k,N⟩:=n;refine⟨λhk=>?_,λhk=>b5q (v_ hk) h0⟩;have hk:k=8:=Y5.1 hk;subst hk;exact b5p h0
 .cases h
theorem Yf{n:Int×Int}(h:arF n.1≠0):WM sg n:=by
 refine⟨λhk=>absurd ?_ h,λhk=>absurd ?_ h⟩
 .rw[Y5.1 hk];rfl
 .rcases v_ hk with e|e|e|e<;>rw[e]<;>rfl
theorem LQ{sg:L8} :∀(t:XT) (o:Nat) {r:Int×Int},t.wf->lK sg t o= .inr r->∀n∈t.post,WM sg n
 | .l0 n,o,r,hw,h,x,hx=>by unfold XT.post at hx;rw[dE.1 hx];unfold lK at h;exact b0Y h| .l1 n a,o,r,hw,h,x,hx=>by
  unfold XT.wf at hw;unfold XT.post at hx;unfold lK at h;cases ha:lK sg a o with
  |inl e=>rw[ha]at h;cases h|inr ta=>
   rcases F7.1 hx with hx|hx
   .exact LQ a o hw.2 ha x hx
   .rw[dE.1 hx];exact Yf (by rw[hw.1];decide)
 | .l2 n a b,o,r,hw,h,x,hx=>by
  unfold XT.wf at hw;unfold XT.post at hx;unfold lK at h;cases ha:lK sg a o with
  |inl e=>rw[ha]at h;cases h|inr ta=>
   rw[ha]at h;simp only at h;cases hb:lK sg b (o+a.size)with
   |inl e=>rw[hb]at h;cases h|inr tb=>
    rcases F7.1 hx with hx|hx
    .rcases F7.1 hx with hx|hx
     .exact LQ a o hw.2.1 ha x hx
     .exact LQ b _ hw.2.2 hb x hx
    .rw[dE.1 hx];exact Yf (by rw[hw.1];decide)
 | .l3 n a b c,o,r,hw,h,x,hx=>by
  unfold XT.wf at hw;unfold XT.post at hx;unfold lK at h;cases ha:lK sg a o with
  |inl e=>rw[ha]at h;cases h|inr ta=>
   rw[ha]at h;simp only at h;cases hb:lK sg b (o+a.size)with
   |inl e=>rw[hb]at h;cases h|inr tb=>
    rw[hb]at h;simp only at h;cases hc:lK sg c (o+a.size+b.size)with
    |inl e=>rw[hc]at h;cases h|inr tc=>
     rcases F7.1 hx with hx|hx
     .rcases F7.1 hx with hx|hx
      .rcases F7.1 hx with hx|hx
       .exact LQ a o hw.2.1 ha x hx
       .exact LQ b _ hw.2.2.1 hb x hx
      .exact LQ c _ hw.2.2.2 hc x hx
     .rw[dE.1 hx];exact Yf (by rw[hw.1];decide)
theorem KU{n:Int×Int}{ops:List (Int×Int)}(h:GZ sg n ops i= .inl x):x.2≠0:=by
 unfold GZ at h;split at h
 .cases h
 .rename_i h0;cases h;exact h0
theorem Ea{sg:L8} :∀(t:XT) (o:Nat) {x:Int×Int},lK sg t o= .inl x->x.2≠0
 | .l0 n,o,x,h=>KU h| .l1 n a,o,x,h=>by
  unfold lK at h;cases ha:lK sg a o with
  |inl e=>rw[ha]at h;cases h;exact Ea a o ha|inr ta=>rw[ha]at h;exact KU h
 | .l2 n a b,o,x,h=>by
  unfold lK at h;cases ha:lK sg a o with
  |inl e=>rw[ha]at h;cases h;exact Ea a o ha|inr ta=>
   rw[ha]at h;simp only at h;cases hb:lK sg b (o+a.size)with
   |inl e=>rw[hb]at h;cases h;exact Ea b _ hb|inr tb=>rw[hb]at h;exact KU h
 | .l3 n a b c,o,x,h=>by
  unfold lK at h;cases ha:lK sg a o with
  |inl e=>rw[ha]at h;cases h;exact Ea a o ha|inr ta=>
   rw[ha]at h;simp only at h;cases hb:lK sg b (o+a.size)with
   |inl e=>rw[hb]at h;cases h;exact Ea b _ hb|inr tb=>
    rw[hb]at h;simp only at h;cases hc:lK sg c (o+a.size+b.size)with
    |inl e=>rw[hc]at h;cases h;exact Ea c _ hc|inr tc=>rw[hc]at h;exact KU h
theorem Z_(h:(nY e sg).2.2=0):∀n∈e,WM sg n:=by
 unfold nY at h;cases hs:mX e with
 |inl x=>rw[hs]at h;exact absurd h (EK hs)|inr t=>
  rw[hs]at h;simp only at h;cases ht:lK sg t 0 with
  |inl x=>rw[ht]at h;exact absurd h (Ea t 0 ht)|inr r=>intro n hn;rw[(Jc hs).1]at hn;exact LQ t 0 (PH hs) ht n hn
theorem a0c{t:Int×Int}(h:Ie e sg t=0):nY e sg=(t,(nY e sg).2.1,0):=by
 unfold Ie at h;cases h1:x8 (nY e sg).2.2 0<;>rw[h1]at h
 .simp only[o6]at h;rw[O8 h]at h1;cases h1
 cases h2:x8 (nY e sg).1.1 t.1<;>rw[h2]at h
 .exact absurd (show(8:Int)=0 from h) J8
 cases h3:x8 (nY e sg).1.2 t.2<;>rw[h3]at h
 .exact absurd (show(8:Int)=0 from h) J8
 rw[Y5]at h1 h2 h3;exact aK (aK h2 h3) (aK rfl h1)
theorem a6h(h:(iM l).1=0)(hs:l.2.2[i]? =some s){k:Nat}(hr:s.2.2.2.2[k]? =some r):Ko s (Jy l s) k r=0:=by
 have hp:=(a0a h hs).2;unfold Yk at hp;cases h1:IA l s with
 |some q=>rw[h1]at hp;exact absurd hp (UZ h1)|none=>
  rw[h1]at hp;simp only at hp;cases h2:Z4 s.2.2.2.2.length (Ob l s)with
  |some q=>
   rw[h2]at hp;obtain⟨j,hj,hq⟩:=ja h2;unfold Ob at hq;cases h3:s.2.2.2.2[j]? with
   |none=>rw[h3]at hq;cases hq|some q2=>rw[h3]at hq;exact absurd hp (OT hq)
  |none=>
   have hn:=Fq h2 k (X6.1 hr).1;unfold Ob at hn;rw[hr]at hn;simp only at hn;unfold VZ at hn;cases he:x8 (Ko s (Jy l s) k r) 0<;>rw[he]at hn
   .cases hn
   .exact Y5.1 he
theorem a5p{k:Nat}(h:Ko s sg k r=0):∃d,F9 s.2.2.2.1 r.2.1=some d/\TU r sg d.2=0:=by
 unfold Ko at h;cases g1:ED r.1<;>rw[g1]at h
 .exact absurd (show(2:Int)=0 from h) J8
 cases g2:(s.2.2.2.2.take k).any λx=>seq x.1 r.1<;>rw[g2]at h
 case true=>exact absurd (show(7:Int)=0 from h) J8
 cases g3:F9 s.2.2.2.1 r.2.1 with
 |none=>rw[g3]at h;exact absurd (show(6:Int)=0 from h) J8|some d=>
  rw[g3]at h;refine⟨d,rfl,?_⟩;simp only[o7,o6]at h;revert h;generalize l7 (x8 r.2.2.1 (-1)) false (l7 (D9 r.2.2.1 0) true (l7 (J5 k r.2.2.1) true (match F9 s.2.2.2.2 r.2.2.1 with|some q=>D7 (x8 q.2.1 r.2.1)|none=>true)))=b1;generalize D9 r.2.2.2.1 0=b2;generalize D9 9 r.2.2.2.1=b3;generalize Ig r.2.2.2.2.1=b4;generalize x8 r.2.2.2.2.1.1 r.2.2.2.2.1.2=b5;generalize J5 8 (TM (s.2.2.2.2.take k) r.2.1)=b6;generalize a1x r.2.2.2.2.2.2.2=b7;intro h;cases b1
  case true=>exact absurd (show(9:Int)=0 from h) J8
  cases b2
  case true=>exact absurd (show(3:Int)=0 from h) J8
  cases b3
  case true=>exact absurd (show(3:Int)=0 from h) J8
  cases b4
  case false=>exact absurd (show(3:Int)=0 from h) J8
  cases b5
  case true=>exact absurd (show(3:Int)=0 from h) J8
  cases b6
  case true=>exact absurd (show(4:Int)=0 from h) J8
  cases b7
  case false=>exact absurd (show(2:Int)=0 from h) J8
  exact h
theorem a3X(h:(iM l).1=0)(hs:l.2.2[i]? =some s)(hr:r∈s.2.2.2.2):
  (r.2.2.2.2.2.1=[]\/Ie r.2.2.2.2.2.1 (Jy l s) (1,0)=0)/\∃d,F9 s.2.2.2.1 r.2.1=some d/\Ie r.2.2.2.2.2.2.1 (Jy l s) d.2=0:=by
 obtain⟨k,hk,e⟩:=Y7 hr;obtain⟨d,h1,h2⟩:=a5p (a6h h hs (r:=r) (k:=k) (by rw[eG hk,e]));unfold TU at h2;cases h3:D9 0 (o9 r.2.2.2.2.2.1)<;>rw[h3]at h2
 .refine⟨.inl ?_,d,h1,h2⟩;rw[iI]at h3;exact O7.1 (by simp only[o9]at h3;omega)
 .simp only[o7]at h2;cases h4:x8 (Ie r.2.2.2.2.2.1 (Jy l s) (1,0)) 0<;>rw[h4]at h2
  .simp only[o6]at h2;rw[O8 h2]at h4;cases h4
  .exact⟨.inr (Y5.1 h4),d,h1,h2⟩
theorem b2Z(l:U5)(s:D6):(Jy l s).2.2.2.1=s.2.2.2.1.map (·.2):=by unfold Jy;split<;>rfl
theorem b5S(h:(Jy l s).2.2.2.2.2=true):(Jy l s).2.2.2.2.1=(bf l s).2.2.2.1.map (·.2):=by
 unfold Jy at h ⊢;unfold bf F9
 by_cases g:0<=s.2.1
 .rw[if_pos g]at h ⊢;rw[X5 g];cases hq:l.2.2[s.2.1.toNat]? with
  |none=>rw[hq]at h;cases h|some q=>rfl
 .rw[if_neg g]at h;cases h
theorem T_(h:(iM l).1=0)(hs:l.2.2[i]? =some s)(hr:r∈s.2.2.2.2)(he:e=r.2.2.2.2.2.1\/e=r.2.2.2.2.2.2.1):
  (∀x∈(rC e).2.1,0<=x/\x<nD s)/\∀x∈(rC e).2.2,0<=x/\x<nD (bf l s):=by
 obtain⟨h1,d,h2,h3⟩:=a3X h hs hr;have hn:∀n∈e,WM (Jy l s) n:=by
  rcases he with rfl|rfl
  .rcases h1 with h1|h1
   .rw[h1];simp
   .exact Z_ (by rw[a0c h1])
  .exact Z_ (by rw[a0c h3])
 constructor
 .intro x hx;have hx:=(NE x _).1 (show x∈MK (RZ (λo=>x8 o 8) e)from hx);obtain⟨n,hn1,rfl⟩:=bQ.1 hx;obtain⟨hn2,hn3⟩:=iG.1 hn1;have:=(hn n hn2).1 hn3;rw[b2Z]at this;simpa[o9,nD]using this
 .intro x hx;have hx:=(NE x _).1 (show x∈MK (RZ isM e)from hx);obtain⟨n,hn1,rfl⟩:=bQ.1 hx;obtain⟨hn2,hn3⟩:=iG.1 hn1;have:=(hn n hn2).2 hn3;rw[b5S this.2.2]at this;refine⟨this.1,?_⟩;have h2:=this.2.1;simpa[o9,nD]using h2
theorem a4L(h:(iM l).1=0)(hs:l.2.2[i]? =some s)(d:Int):∀x∈mbS s d,0<=x/\x<nD (bf l s):=by
 intro x hx;unfold mbS at hx;cases hq:inD (nD s) d<;>rw[hq]at hx
 .simp at hx
 .obtain⟨r,hr,_,h3⟩:=b4Y.1 ((NE x _).1 hx);rcases F7.1 h3 with h3|h3
  .exact(T_ h hs hr (.inl rfl)).2 x h3
  .exact(T_ h hs hr (.inr rfl)).2 x h3
theorem b0m{e:E4}(h:Zm l s c nS nM= .inr e):e.1≠0:=by
 unfold Zm at h;cases hm:mS l c (bf l s) nM with
 |inr e=>rw[hm]at h;cases h;exact Bi _ (λr=>r.1≠0) b0M _ _ _ hm|inl b=>
  rw[hm]at h;simp only at h;cases hs:scS s (Qe l s c b) (-1) nS with
  |inr r=>rw[hs]at h;cases h;exact PD hs|inl x=>rw[hs]at h;cases h
theorem b0n{x:DB×List DB}(h:Zm l s c nS nM= .inl x):x.1.1.length=s.2.2.2.1.length/\x.1.2.length=s.2.2.2.1.length:=by
 unfold Zm at h;cases hm:mS l c (bf l s) nM with
 |inr e=>rw[hm]at h;cases h|inl b=>
  rw[hm]at h;simp only at h;cases hs:scS s (Qe l s c b) (-1) nS with
  |inr r=>rw[hs]at h;cases h|inl y=>rw[hs]at h;cases h;exact a7w hs
theorem a1N(h:(PL l k c true d).1=0)(hs:F9 l.2.2 k=some s):0<=d/\d<nD s:=by
 unfold PL at h;cases h0:x8 (iM l).1 0<;>rw[h0]at h
 .exact absurd (show(1:Int)=0 from h) J8
 rw[hs]at h;simp only[o7]at h;cases h1:D9 d 0<;>rw[h1]at h
 case true=>exact absurd (show(6:Int)=0 from h) J8
 cases h2:J5 (o9 s.2.2.2.1) d<;>rw[h2]at h
 case true=>exact absurd (show(6:Int)=0 from h) J8
 rw[iI]at h1;rw[GL]at h2;exact⟨h1,h2⟩
theorem RF{l:List α}(a:α)(h0:0<=d)(h1:d<(l.length:Int)):F9 l d=some (l.getD d.toNat a)/\U0 l (U9 d)=some (l.getD d.toNat a):=by
 have h:d.toNat<l.length:=l9;have e:l[d.toNat]? =some (l.getD d.toNat a):=by rw[zH,eG h];rfl
 exact⟨by unfold F9;rw[if_pos h0];exact e,e⟩
def d0I(d:Int)(r:DB×List DB⊕E4):V3×Int×E4:=match r with
 | .inr e=>((0,0,0),0,e)| .inl x=>(x.1.1.getD d.toNat (0,0,0),x.1.2.getD d.toNat 0,0,0,0,0)
def a7Y(l:U5)(s:D6)(c:ig)(d:Int):V3×Int×E4:=
 d0I d (Zm l s c (PN s (Dz s.2.2.2.1.length) d) (QA (bf l s) (Dz (bf l s).2.2.2.1.length) (mbS s d)))
theorem KO(n:Nat):(Dz n).length=n:=by simp[Dz]
theorem a4w(hL:SmL l)(hC:SmC c)(hT:∀t∈l.2.1,xB t):
  BQ l k c d=some (if(PL l k c true d).1=0 then(match F9 l.2.2 k with|some s=>a7Y l s c d|none=>((0,0,0),0,0,0,0,0))else((0,0,0),0,PL l k c true d)):=by
 unfold BQ;rw[b4G hL k hC,o8];by_cases hA:(PL l k c true d).1=0
 case neg=>rw[if_neg hA,J6 hA];rfl
 rw[if_pos hA,O8 hA];obtain⟨h,s,hs⟩:=ZP hA;obtain⟨h0,h1⟩:=a1N hA hs;have hM:=a2G hL h hs;have hS:=hL.sc s (qw hs).2.2.1;have hn:nD s=((s.2.2.2.1.length:Nat):Int):=rfl;rw[hs];simp only[D8,o6];rw[a2M hL h hs,o8,a7K hS hM (KO _) (KO _) h0 h1 (a4L h (qw hs).2.2.2 d),o8,a0t hS hM hC hT (by rw[NY,KO]) (by rw[QB,KO]),o8];unfold a7Y;cases hq:Zm l s c (PN s (Dz s.2.2.2.1.length) d) (QA (bf l s) (Dz (bf l s).2.2.2.1.length) (mbS s d))with
 |inr e=>simp only[J6 (b0m hq)];rfl|inl x=>obtain⟨g1,g2⟩:=b0n hq;simp only[O8 (rfl:(0:Int)=0),D8,o6];rw[(RF (0,0,0) h0 l9).1,o8,(RF 0 h0 l9).1];rfl
theorem VB(hL:SmL l)(hC:SmC c)(hT:∀t∈l.2.1,xB t):
  zO l k c d=some (if(PL l k c true d).1=0 then(match F9 l.2.2 k with|some s=>a7Y l s c d|none=>((0,0,0),0,0,0,0,0))else((0,0,0),0,PL l k c true d)):=by
 unfold zO;rw[b1Y hL k hC,o8];by_cases hA:(PL l k c true d).1=0
 case neg=>rw[if_neg hA,J6 hA];rfl
 rw[if_pos hA,O8 hA];obtain⟨h,s,hs⟩:=ZP hA;obtain⟨h0,h1⟩:=a1N hA hs;have hM:=a2G hL h hs;have hS:=hL.sc s (qw hs).2.2.1;have hn:nD s=((s.2.2.2.1.length:Nat):Int):=rfl;have hcm:=hC.nm;simp only[D8,o6];rw[fJ];unfold Bd;rw[hs,o8,CW s hS false,o8,YE hS A7 h0 h1,o8,Cf h hs,o8,CW (bf l s) hM false,o8,SY h hs hS hM A7 d (a4L h (qw hs).2.2.2 d),o8,Xt h hs hC.nm hM hT (by rw[QB];simp),o8];dsimp only;unfold a7Y Zm Dz;cases hq:mS l c (bf l s) (QA (bf l s) (List.replicate (bf l s).2.2.2.1.length false) (mbS s d))with
 |inr e=>simp only[J6 (Bi _ (λr=>r.1≠0) b0M _ _ _ hq)];rfl|inl b=>
  have hbl:=b0N hq;simp only[O8 (rfl:(0:Int)=0),D8,o6];rw[b5j c b h hs hM,o8,UX hS (a3d hT s c l9) (-1) (by rw[NY];simp),o8];cases hr:scS s (Qe l s c b) (-1) (PN s (List.replicate s.2.2.2.1.length false) d)with
  |inr e=>simp only[J6 (PD hr)];rfl|inl x=>obtain⟨g1,g2⟩:=a7w hr;have k1:=RF (l:=x.1) (0,0,0) h0 l9;have k2:=RF (l:=x.2) 0 h0 l9;simp only[O8 (rfl:(0:Int)=0),D8,o6];rw[k1.1,o8,k1.2,o8,k2.1,o8,k2.2];rfl
abbrev BB:Type:=d1z×d1z
def BOk(s m:D6)(b:BB):Prop:=b.1.length=s.2.2.2.1.length/\b.2.length=m.2.2.2.1.length
structure Sim (P Q:Int->Prop) (a b:bn):Prop where
 e1:a.1=b.1
 e2:a.2.1=b.2.1
 e3:a.2.2.2.2=b.2.2.2.2
 dl:a.2.2.1.length=b.2.2.1.length
 d:∀x,P x->F9 a.2.2.1 x=F9 b.2.2.1 x
 ml:a.2.2.2.1.length=b.2.2.2.1.length
 m:∀x,Q x->a.2.2.2.1.map (λv=>F9 v x)=b.2.2.2.1.map (λv=>F9 v x)
def b6U(s:D6)(P Q:Int->Prop)(d:Int):Prop:=∀r∈s.2.2.2.2,r.2.1=d->∀e,e=r.2.2.2.2.2.1\/e=r.2.2.2.2.2.2.1->(∀x∈(rC e).2.1,P x)/\∀x∈(rC e).2.2,Q x
def c1m(s:D6)(O:d1v):Prop:=O.Nodup/\(∀d∈O,0<=d/\d<nD s)/\∀(pre:d1v) (d:Int) (suf:d1v),O=pre++d::suf->∀x∈P7 s d,x∈pre
structure SimE (Q:Int->Prop) (a b:bn):Prop where
 e1:a.1=b.1
 e2:a.2.1=b.2.1
 e3:a.2.2.2.2=b.2.2.2.2
 ml:a.2.2.2.1.length=b.2.2.2.1.length
 m:∀x,Q x->a.2.2.2.1.map (λv=>F9 v x)=b.2.2.2.1.map (λv=>F9 v x)
theorem SimE.at{P Q:Int->Prop}{a b:bn}(h:SimE Q a b){D D' :List V3}(hl:D.length=D'.length)(hd:∀x,P x->F9 D x=F9 D' x):Sim P Q (JH a D) (JH b D'):=⟨h.e1,h.e2,h.e3,hl,hd,h.ml,h.m⟩
abbrev ND(w:d1z)(x:Int):Prop:=(F9 w x).getD false=true
structure DInv (n:Nat) (need:d1z) (B B' :DB):Prop where
 l1:B.1.length=n/\B.2.length=n
 l2:B'.1.length=n/\B'.2.length=n
 eq:∀x,ND need x->F9 B.1 x=F9 B'.1 x/\F9 B.2 x=F9 B'.2 x
structure MInv (need:d1z) (b b' :List DB):Prop where
 l:b.length=b'.length
 eq:∀x,ND need x->b.map (λv=>F9 v.1 x)=b'.map (λv=>F9 v.1 x)
def a9C(s:D6)(w:d1z):Prop:=∀d,mk w d=true->∀x∈P7 s d,mk w x=true
structure NI (l:U5) (s:D6) (B:BB):Prop where
 ok:BOk s (bf l s) B
 c1:a9C s B.1
 c2:a9C (bf l s) B.2
 hr:∀e,mk B.1 e=true->b6U s (λx=>x∈P7 s e) (λx=>mk B.2 x=true) e
structure Grows (B C:BB):Prop where
 g1:∀x,mk B.1 x=true->mk C.1 x=true
 g2:∀x,mk B.2 x=true->mk C.2 x=true
theorem Grows.refl(B:BB):Grows B B:=⟨λ_ h=>h,λ_ h=>h⟩
theorem Grows.trans{A B C:BB}(h:Grows A B)(k:Grows B C):Grows A C:=⟨λx hx=>k.g1 x (h.g1 x hx),λx hx=>k.g2 x (h.g2 x hx)⟩
end
section
section
variable {en:List gI} {t:Int×Int}
end
end
section
def PVW(en:List gI)(t:Int×Int)(v:V3):Prop:=v.1=t.1/\v.2.1=t.2/\(v.1=6->inB v.2.2 (bnd t en)=true)
structure TOk (sg:L8) (env:bn):Prop where
 inp:∀i t v,F9 sg.2.2.1 i=some t->F9 env.2.1 i=some v->PVW sg.1 t v
 dfs:∀i t v,F9 sg.2.2.2.1 i=some t->F9 env.2.2.1 i=some v->v.1≠0->PVW sg.1 t v
 mty:∀i t u,F9 sg.2.2.2.2.1 i=some t->F9 env.2.2.2.2.1 i=some u->u=t
 tbs:env.2.2.2.2.2=sg.2.1
 row:∀t∈sg.2.1,∀r∈t.2.2.2,inB r.2.2.2 (bnd t.2.2.1 sg.1)=true
end
section
section
variable {sg:L8} {env:bn}
end
end
section
theorem a4y{ρ:Type}{n:Nat}{p:Nat->Option ρ}(h:∀r,Z4 n p≠some r):∀i,i<n->p i=none:=by
 cases hf:Z4 n p with
 |some r=>exact absurd hf (h r)|none=>exact Fq hf
theorem a7X{k i:Int}{r:Int×Int}(h:Qu k i r=none):r.1=0:=by
 unfold Qu at h;cases he:x8 r.1 0<;>rw[he]at h
 .cases h
 .exact Y5.1 he
theorem Zc{l:U5}(h:(iM l).1=0):∀e∈l.1,e.2.length<=16:=by
 intro e he;unfold iM at h;cases h1:x8 (Jk l).1 0<;>rw[h1]at h
 .simp only[o6]at h;rw[O8 h]at h1;cases h1
 have h1:=Y5.1 h1;unfold Jk at h1;cases h2:D9 8 (o9 l.1)<;>rw[h2]at h1
 case true=>exact absurd (show(4:Int)=0 from h1) J8
 simp only[o6]at h1;obtain⟨i,hi,e1⟩:=Y7 he;have hn:=a4y (n:=l.1.length) (p:=Nc l) (λr hf=>by
  rw[hf]at h1;obtain⟨j,_,hj⟩:=ja hf;unfold Nc at hj;split at hj
  .exact OU hj h1
  .cases hj) i hi
 unfold Nc at hn;rw[eG hi,e1]at hn;have hz:=a7X hn;unfold UW at hz;cases g1:ED e.1<;>rw[g1]at hz
 .exact absurd (show(2:Int)=0 from hz) J8
 cases g2:EL l 1 i e.1<;>rw[g2]at hz
 case true=>exact absurd (show(7:Int)=0 from hz) J8
 cases g3:x8 (o9 e.2) 0<;>rw[g3]at hz
 case true=>exact absurd (show(5:Int)=0 from hz) J8
 cases g4:D9 16 (o9 e.2)<;>rw[g4]at hz
 case true=>exact absurd (show(4:Int)=0 from hz) J8
 rw[iI]at g4;unfold o9 at g4;omega
abbrev c1n:Int×Int:=(0,109573)
def onA(s:D6)(T:Int)(i:Nat):Bool:=match s.2.2.2.2[i]? with|some r=>Qq r.2.2.2.2.1 T|none=>false
def c1G(s:D6)(T:Int):d1w:=onL (onA s T) s.2.2.2.2.length
def rOn(s:D6)(T:Int)(i:Nat):ak:=match s.2.2.2.2[i]? with
 |some r=>(r.1,r.2.1,anc (onA s T) (Jt s) i,r.2.2.2.1,c1n,r.2.2.2.2.2.1,r.2.2.2.2.2.2.1,r.2.2.2.2.2.2.2)|none=>([],0,0,0,c1n,[],[],[])
def sOn(T:Int)(s:D6):D6:=(s.1,s.2.1,s.2.2.1,s.2.2.2.1,(c1G s T).map (rOn s T))
end
section
section
variable {A R R' :Nat->Bool} {par par' :Nat->Int} {n:Nat} (hRA:∀i,i<n->R i=true->A i=true) (hR:∀i,i<n->A i=true->R' (MZ A i)=R i) (hp:∀i,i<n->A i=true->par' (MZ A i)=anc A par i)
include hRA hR
omit hR in
omit hR in
include hp
end
end
section
section
variable {s:D6} {T:Int} (h0:0<=T) (h1:T<=109572)
include h0 h1
omit h0 h1 in
omit h0 h1 in
end
end
section
structure OnOk (s:D6) (T:Int):Prop where
 h0:0<=T
 h1:T<=109572
 t1:c1m s (wX s).1
 f1:∀d,0<=d->d<nD s->d∈(wX s).1
 t2:c1m (sOn T s) (wX (sOn T s)).1
 f2:∀d,0<=d->d<nD s->d∈(wX (sOn T s)).1
 r1:∀d,b6U s (λx=>x∈P7 s d) (λ_=>True) d
 r2:∀d,b6U (sOn T s) (λx=>x∈P7 (sOn T s) d) (λ_=>True) d
def a9S(s:D6)(k:Nat)(r:ak):Bool:=l7 (x8 r.2.2.1 (-1)) false (l7 (D9 r.2.2.1 0) true (l7 (J5 k r.2.2.1) true (match F9 s.2.2.2.2 r.2.2.1 with|some q=>D7 (x8 q.2.1 r.2.1)|none=>true)))
structure RuleV (s:D6) (sg:L8) (k:Nat) (r:ak):Prop where
 id:ED r.1=true
 nm:((s.2.2.2.2.take k).any λx=>seq x.1 r.1)=false
 df:∃d,F9 s.2.2.2.1 r.2.1=some d/\TU r sg d.2=0
 pa:a9S s k r=false
 p0:D9 r.2.2.2.1 0=false
 p9:D9 9 r.2.2.2.1=false
 dv:Ig r.2.2.2.2.1=true
 ne:x8 r.2.2.2.2.1.1 r.2.2.2.2.1.2=false
 ct:J5 8 (TM (s.2.2.2.2.take k) r.2.1)=false
 sr:a1x r.2.2.2.2.2.2.2=true
variable {s:D6}
theorem RuleV.zero{sg:L8}{k:Nat}{r:ak}(h:RuleV s sg k r):Ko s sg k r=0:=by obtain⟨d,h1,h2⟩:=h.df;unfold Ko;rw[h.id,h.nm,h1];simp only[o7,o6];change l7 (a9S s k r) (9:Int) _=0;rw[h.pa,h.p0,h.p9,h.dv,h.ne,h.ct,h.sr,h2];rfl
variable {α:Type}{β:Type}
def JA(eq:α->α->Bool)(l:List (α×β))(f:α->Option β):Prop:=∀k,RU eq l k=(f k).isSome/\∀z,AY eq l k z=(f k).getD z
theorem A_(eq:α->α->Bool):JA eq ([]:List (α×β)) (λ_=>none):=λ_=>⟨rfl,λ_=>rfl⟩
theorem Ug{α β:Type}{eq:α->α->Bool}(hE:∀a b,eq a b=true↔a=b)(k:α)(x:β)(k' :α):∀(l:List (α×β)),NF eq (NG eq l k x) k' =(l7 (eq k' k) true (NF eq l k'))/\∀z,IK eq (NG eq l k x) k' z=l7 (eq k' k) x (IK eq l k' z)
 |[]=>by unfold NG;simp only[NF,IK];cases eq k' k<;>exact⟨rfl,λ_=>rfl⟩|p::r=>by
  have ih:=Ug hE k x k' r;unfold NG;cases hp:eq k p.1
  .simp only[cond_false,NF,IK];cases hq:eq k' p.1
   .simp only[cond_false];exact ih
   .simp only[cond_true];cases hk:eq k' k
    .exact⟨rfl,λ_=>rfl⟩
    .exfalso;have h1:=(hE _ _).1 hq;have h2:=(hE _ _).1 hk;rw[←h2,h1]at hp;rw[(hE p.1 p.1).2 rfl]at hp;cases hp
  .have hp' :=(hE _ _).1 hp;subst hp';simp only[cond_true,NF,IK];cases eq k' p.1<;>exact⟨rfl,λ_=>rfl⟩
variable {eq:α->α->Bool}{f:α->Option β}
theorem B_(hE:∀a b,eq a b=true↔a=b){l:List (α×β)}(h:JA eq l f)(k:α)(x:β):
  JA eq (GX eq l k x) (λk' =>l7 (eq k' k) (some x) (f k')):=λk' =>by
 obtain⟨h1,h2⟩:=Ug hE k x k' l;obtain⟨g1,g2⟩:=h k';refine⟨?_,λz=>?_⟩
 .show NF eq (NG eq l k x) k' =_;rw[h1,show NF eq l k' =_ from g1];show _=(l7 (eq k' k) (some x) (f k')).isSome;cases eq k' k<;>rfl
 .show IK eq (NG eq l k x) k' z=_;rw[h2 z,show IK eq l k' z=_ from g2 z];show _=(l7 (eq k' k) (some x) (f k')).getD z;cases eq k' k<;>rfl
theorem JA.has{l:List (α×β)}(h:JA eq l f)(k:α):RU eq l k=(f k).isSome:=(h k).1
theorem JA.get{l:List (α×β)}(h:JA eq l f)(k:α)(z:β):AY eq l k z=(f k).getD z:=(h k).2 z
theorem JA.congr{l:List (α×β)}{f g:α->Option β}(h:JA eq l f)(e:∀k,f k=g k):JA eq l g:=λk=>by rw[←e k];exact h k
theorem b2U(a b:d1x×d1x):aj (seq a.1 b.1) (seq a.2 b.2)=true↔a=b:=by unfold aj;rw[A8,fK,fK];exact⟨λh=>aK h.1 h.2,λh=>by subst h;exact⟨rfl,rfl⟩⟩
abbrev noS:D6:=([],0,[],[],[])
def rD{α:Type}(p:α->Bool):List α->Nat->Option (α×Int)
 |[],_=>none|a::r,i=>l7 (p a) (some (a,(i:Int))) (rD p r (i+1))
theorem Nl{α:Type}(p:α->Bool)(a:α):∀(l:List α) (i:Nat),rD p (l++[a]) i=(match rD p l i with|some x=>some x|none=>l7 (p a) (some (a,((i+l.length:Nat):Int))) none)
 |[],i=>by simp only[H8,rD,eF,aY]|b::r,i=>by
  simp only[Z5,rD];cases p b
  .simp only[o6];rw[Nl p a r (i+1),H5,show i+1+r.length=i+(r.length+1) by omega]
  .rfl
def Lt(s:D6)(n:d1x):Option (ak×Int):=rD (λr=>seq n r.1) s.2.2.2.2 0
def AO(l:U5)(n:d1x):Option (D6×Int):=rD (λs=>seq n s.1) l.2.2 0
def cpS(l:U5)(sn rn:d1x):D6×Int×Bool:=match AO l sn with
 |none=>(noS,0,false)
 |some x=>match Lt x.1 rn with
  |none=>(noS,0,false)|some y=>(x.1,y.2,true)
def a9E(l:U5)(X:List (d1x×iV)):Prop:=
 ∃f:d1x->Option iV,JA (λ(a b:d1x)=>seq a b) X f/\∀n,match f n with
  |none=>AO l n=none|some x=>∃i,AO l n=some (x.1,i)/\JA (λ(a b:d1x)=>seq a b) x.2 (λrn=>(Lt x.1 rn).map (·.2))
theorem b4C{l:List α}{i:Nat}{x:α×Nat}(h:l.zipIdx[i]? =some x):l[i]? =some x.1/\x.2=i:=by
 rw[rE]at h;cases hl:l[i]? with
 |none=>rw[hl]at h;cases h|some a=>rw[hl]at h;simp only[ax,H7]at h;subst h;exact⟨rfl,A7⟩
def a8j(X:List (d1x×Int))(x:ak×Nat):List (d1x×Int):=l7 (RU (λ(a b:d1x)=>seq a b) X x.1.1) X (GX (λ(a b:d1x)=>seq a b) X x.1.1 (x.2:Int))
theorem p_(rs:List ak):∀(i:Nat),i<=rs.length->JA (λ(a b:d1x)=>seq a b) ((rs.zipIdx.take i).foldl a8j []) (λrn=>(rD (λr:ak=>seq rn r.1) (rs.take i) 0).map (·.2))
 |0,_=>by simpa[rD]using A_ _|i+1,h=>by
  have ih:=p_ rs i l9;have hl:i<rs.length:=l9;have e1:rs.zipIdx.take (i+1)=rs.zipIdx.take i++[(rs[i],i)]:=by rw[List.take_add_one];congr 1;rw[rE,eG hl];simp
  have e2:rs.take (i+1)=rs.take i++[rs[i]]:=by rw[List.take_add_one,eG hl];rfl
  rw[e1,List.foldl_append,e2];simp only[P5,List.foldl_nil,Nl,bU,ah,aN (Nat.le_of_lt hl)];generalize (rs.zipIdx.take i).foldl a8j []=X at*;unfold a8j;simp only[ih.has];cases hf:rD (λr:ak=>seq rs[i].1 r.1) (rs.take i) 0 with
  |some x=>
   simp only[ax,Option.isSome_some,o7];refine ih.congr λk=>?_;cases hk:rD (λr:ak=>seq k r.1) (rs.take i) 0 with
   |some y=>rfl|none=>
    cases hq:seq k rs[i].1
    .rfl
    .have:=fK.1 hq;subst this;rw[hk]at hf;cases hf
  |none=>
   simp only[Option.map_none,Option.isSome_none,o6];refine(B_ (λa b=>fK) ih _ _).congr λk=>?_;cases hq:seq k rs[i].1
   .simp only[o6];cases rD (λr:ak=>seq k r.1) (rs.take i) 0<;>rfl
   .have:=fK.1 hq;subst this;rw[hf];rfl
def o_(X:List (d1x×iV))(s:D6):List (d1x×iV):=
 l7 (RU (λ(a b:d1x)=>seq a b) X s.1) X (GX (λ(a b:d1x)=>seq a b) X s.1 (s,s.2.2.2.2.zipIdx.foldl a8j []))
theorem r_(l:U5):∀(i:Nat),i<=l.2.2.length->a9E (l.1,l.2.1,l.2.2.take i) ((l.2.2.take i).foldl o_ [])
 |0,_=>⟨λ_=>none,A_ _,λn=>rfl⟩|i+1,h=>by
  obtain⟨f,h1,h2⟩:=r_ l i l9;have hl:i<l.2.2.length:=l9;have e2:l.2.2.take (i+1)=l.2.2.take i++[l.2.2[i]]:=by rw[List.take_add_one,eG hl];rfl
  rw[e2,List.foldl_append];simp only[P5,List.foldl_nil];have hA:∀n,AO (l.1,l.2.1,l.2.2.take i++[l.2.2[i]]) n=(match AO (l.1,l.2.1,l.2.2.take i) n with|some x=>some x|none=>l7 (seq n l.2.2[i].1) (some (l.2.2[i],(i:Int))) none):=λn=>by unfold AO;simp only[Nl,bU,ah,aN (Nat.le_of_lt hl)];cases rD (λs:D6=>seq n s.1) (l.2.2.take i) 0<;>rfl
  generalize (l.2.2.take i).foldl o_ []=X at*;unfold o_;simp only[h1.has];cases hf:f l.2.2[i].1 with
  |some x=>
   simp only[Option.isSome_some,o7];refine⟨f,h1,λn=>?_⟩;have h3:=h2 n;rw[hA n];cases hn:f n with
   |some y=>rw[hn]at h3;obtain⟨j,h4,h5⟩:=h3;rw[h4];exact⟨j,rfl,h5⟩
   |none=>
    rw[hn]at h3;simp only at h3 ⊢;rw[h3];cases hq:seq n l.2.2[i].1
    .rfl
    .have:=fK.1 hq;subst this;rw[hn]at hf;cases hf
  |none=>
   simp only[Option.isSome_none,o6];refine⟨_,B_ (λa b=>fK) h1 _ _,λn=>?_⟩;have h3:=h2 n;rw[hA n];cases hq:seq n l.2.2[i].1
   .simp only[o6];cases hn:f n with
    |some y=>rw[hn]at h3;obtain⟨j,h4,h5⟩:=h3;rw[h4];exact⟨j,rfl,h5⟩
    |none=>rw[hn]at h3;simp only at h3 ⊢;rw[h3]
   .have:=fK.1 hq;subst this;rw[hf]at h3;simp only at h3;rw[h3];simp only[o7];refine⟨_,rfl,?_⟩;have:=p_ l.2.2[i].2.2.2.2 l.2.2[i].2.2.2.2.length (F5 _);rw[show l.2.2[i].2.2.2.2.zipIdx.take l.2.2[i].2.2.2.2.length=l.2.2[i].2.2.2.2.zipIdx from V4 A7,aA]at this;exact this
variable {l:U5}
theorem Vo(hL:SmL l):∃X,uP l=some X/\a9E l X:=by
 have hf:=hL.few.2.2;refine⟨l.2.2.foldl o_ [],?_,?_⟩
 .unfold uP;refine aZ l.2.2 o_ (λb i=>(b,i)) (λb=>b) (λ_ _=>True) [] l9 trivial (λi s b hs hi _=>⟨?_,trivial⟩) (λb _=>?_) (λ_=>rfl)
  .have hS:=hL.sc s (iO hs);simp only[H6 hs,o7,E5,hs,o8];unfold o_;cases RU (λ(a b:d1x)=>seq a b) b s.1
   .simp only[o6];refine aZ s.2.2.2.2.zipIdx a8j (λb i=>(b,i)) (λb=>b) (λ_ _=>True) [] (by have:=hS.nr;simp;omega) trivial (λj x c hx hj _=>⟨?_,trivial⟩) (λc _=>?_) (λ_=>?_)
    .obtain⟨hr,hj2⟩:=b4C hx;simp only[H6 hr,o7,E5,hr,o8];unfold a8j;rw[hj2];cases RU (λ(a b:d1x)=>seq a b) c x.1.1<;>simp only[D8,aB,o7,o6,Y1 (show j<=9000000000000000000 by omega)]
    .simp only[List.length_zipIdx,G6];rfl
    .simp only[Y1 (show i<=9000000000000000000 by omega)]
   .simp only[o7,Y1 (show i<=9000000000000000000 by omega)]
  .simp only[G6];rfl
 .have:=r_ l l.2.2.length (F5 _);rwa[aA]at this
theorem Na{X:List (d1x×iV)}(h:a9E l X)(sn rn:d1x):jP X sn rn=some (cpS l sn rn):=by
 obtain⟨f,h1,h2⟩:=h;unfold jP cpS;rw[h1.has,h1.get];have h3:=h2 sn;cases hf:f sn with
 |none=>rw[hf]at h3;simp only at h3;rw[h3];rfl|some x=>rw[hf]at h3;obtain⟨i,h4,h5⟩:=h3;rw[h4];simp only[Option.isSome_some,D8,o6,bK,h5.has,h5.get];cases Lt x.1 rn<;>rfl
noncomputable def eqB {α:Type} (a b:α):Bool:=@decide (a=b) (Classical.propDecidable _)
theorem Ad{a b:α} :eqB a b=true↔a=b:=by unfold eqB;exact @decide_eq_true_iff _ (Classical.propDecidable _)
theorem Ey{a b:α}(h:a=b):eqB a b=true:=Ad.2 h
theorem wF{a b:α}(h:a≠b):eqB a b=false:=by
 cases he:eqB a b
 .rfl
 .exact absurd (Ad.1 he) h
theorem JI{a b:α}{c d:β}(h:a=b↔c=d):eqB a b=eqB c d:=by rw[fV,Ad,Ad];exact h
theorem yE(a b:List α):eqB (a.map λx=>x) (b.map λx=>x)=eqB a b:=A7
theorem b4D{α β:Type} :∀{a:List α} {b:List β} {i:Nat} {p:α×β},(a.zip b)[i]? =some p->a[i]? =some p.1/\b[i]? =some p.2
 |[],_,i,p,h=>by simp at h|_::_,[],i,p,h=>by simp at h|x::a,y::b,0,p,h=>by simp only[fD,iQ,H7]at h;subst h;exact⟨rfl,rfl⟩|x::a,y::b,i+1,p,h=>by simp only[fD,List.getElem?_cons_succ]at h ⊢;exact b4D h
noncomputable def eqG {α β:Type} (g:α->β) (_:Unit) (p:α×α):Unit⊕Bool:=l7 (eqB (g p.1) (g p.2)) (.inl ()) (.inr false)
theorem a6I{α β:Type}(g:α->β):∀{a b:List α},a.length=b.length->ik (eqG g) (a.zip b) ()=l7 (eqB (a.map g) (b.map g)) (.inl ()) (.inr false)
 |[],[],_=>by rw[Ey rfl];rfl|[],_::_,h=>by cases h|_::_,[],h=>by cases h|x::a,y::b,h=>by
  have ih:=a6I g (a:=a) (b:=b) (by simpa using h);simp only[fD,jr];unfold ik;by_cases e:g x=g y
  .rw[show eqG g () (x,y)= .inl ()from by unfold eqG;rw[Ey e];rfl];rw[JI (show(g x::a.map g=g y::b.map g)↔a.map g=b.map g by rw[e];simp)];exact ih
  .rw[show eqG g () (x,y)= .inr false from by unfold eqG;rw[wF e];rfl];rw[wF (λh=>e (Z7 h).1)];rfl
theorem KI(g:α->β)(q:α->α->Bool)(hq:∀x y,q x y=true↔g x=g y){a b:List α}(hl:a.length<=1000000){f:Int->Option (Out Int PUnit Bool)}
  (hin:∀(i:Nat) x y,a[i]? =some x->b[i]? =some y->f (i:Int)=l7 (D7 (q x y)) (some (.rt false)) (some (.nx (x9 .i64 (i:Int) 1)))) (hend:f (a.length:Int)=some (.ex PUnit.unit)):
  (l7 (D7 (x8 (o9 a) (o9 b))) (some false) (o5 (U1 f 0) λo=>U6 o (λ_=>some true) λr=>some r))=some (eqB (a.map g) (b.map g)):=by
 by_cases hab:a.length=b.length
 .rw[show x8 (o9 a) (o9 b)=true from O8 (by simp[o9,hab]),D8,o6];have hz:(a.zip b).length=a.length:=by simp[hab]
  refine lV (a.zip b) (eqG g) (λ_ i=>i) (λ_=>PUnit.unit) (λ_ _=>True) () l9 trivial (λi p _ hp hi _=>⟨?_,λ_ _=>trivial⟩) (λ_ _=>?_) (λ_=>?_)
  .obtain⟨h1,h2⟩:=b4D hp;rw[hin i _ _ h1 h2];unfold eqG;cases hqp:q p.1 p.2
   .have:¬g p.1=g p.2:=λe=>by rw[(hq _ _).2 e]at hqp;cases hqp
    rw[wF this];rfl
   .have:=(hq _ _).1 hqp;rw[Ey this,D8,o6,Y1 (show i<=9000000000000000000 by omega)];rfl
  .rw[hz];exact hend
  .rw[a6I g hab];cases eqB (a.map g) (b.map g)<;>rfl
 .rw[show x8 (o9 a) (o9 b)=false from J6 (by simp only[o9];omega),aB,o7];rw[wF (λe=>hab (by simpa using congrArg List.length e))]
theorem wz{a b:Bool} :aj a b=true↔a=true/\b=true:=by simp[aj]
theorem b0k{a:List d1x}(b:List d1x)(h:a.length<=1000000):mf a b=some (eqB a b):=by
 unfold mf;rw[←yE];refine KI (λx=>x) (λx y=>seq x y) (λx y=>fK) h (λi x y hx hy=>?_) ?_
 .simp only[H6 hx,o7,E5,hx,hy,o8]
 .simp only[G6];rfl
theorem b0j{a:List ww}(b:List ww)(h:a.length<=1000000):kY a b=some (eqB a b):=by
 unfold kY;rw[←yE];refine KI (λx=>x) (λ(x y:ww)=>aj (x8 x.1.1 y.1.1) (aj (x8 x.1.2 y.1.2) (aj (x8 x.2.1 y.2.1) (aj (x8 x.2.2.1 y.2.2.1) (x8 x.2.2.2 y.2.2.2)))))
  (λx y=>by simp only[wz,Y5,kC,and_assoc]) h (λi x y hx hy=>?_) ?_
 .simp only[H6 hx,o7,E5,hx,hy,o8]
 .simp only[G6];rfl
theorem Xr{a:List fF}(b:List fF)(h:a.length<=1000000):gq a b=some (eqB a b):=by
 unfold gq;rw[←yE];refine KI (λx=>x) (λ(x y:fF)=>aj (seq x.1 y.1) (aj (x8 x.2.1 y.2.1) (x8 x.2.2 y.2.2)))
  (λx y=>by simp only[wz,Y5,fK,kC]) h (λi x y hx hy=>?_) ?_
 .simp only[H6 hx,o7,E5,hx,hy,o8]
 .simp only[G6];rfl
theorem ZY{a:List I9}(b:List I9)(h:a.length<=1000000):gZ a b=some (eqB a b):=by
 unfold gZ;rw[←yE];refine KI (λx=>x) (λ(x y:I9)=>aj (x8 x.1 y.1) (x8 x.2 y.2))
  (λx y=>by simp only[wz,Y5,kC]) h (λi x y hx hy=>?_) ?_
 .simp only[H6 hx,o7,E5,hx,hy,o8]
 .simp only[G6];rfl
theorem a3A{x:gI}(y:gI)(h:x.2.length<=1000000):yJ x y=some (eqB x y):=by
 unfold yJ;rw[b0k y.2 h,o8];by_cases e:x.1=y.1
 .rw[fK.2 e,o7];congr 1;exact JI ⟨λh=>aK e h,λh=>by rw[h]⟩
 .rw[LH.2 e,o6,wF (λh=>e (by rw[h]))]
theorem a1m{x:bJ}(y:bJ)(h:x.2.2.2.length<=1000000):xu x y=some (eqB x y):=by
 unfold xu;rw[b0j y.2.2.2 h,o8];by_cases e:x=y
 .subst e;rw[fK.2 rfl,O8 rfl,O8 rfl,O8 rfl,O8 rfl,Ey rfl,Ey rfl];rfl
 .rw[wF e];by_cases e1:x.1=y.1
  case neg=>rw[LH.2 e1];rfl
  rw[fK.2 e1,o7];cases h2:aj (x8 x.2.1.1 y.2.1.1) (x8 x.2.1.2 y.2.1.2)
  .rfl
  cases h3:aj (x8 x.2.2.1.1 y.2.2.1.1) (x8 x.2.2.1.2 y.2.2.1.2)
  .rfl
  simp only[wz,Y5]at h2 h3;rw[o7,o7,wF];intro h4;exact e (aK e1 (aK (aK h2.1 h2.2) (aK (aK h3.1 h3.2) h4)))
def Ih(s:D6):d1x×Int×List fF×List fF:=(s.1,s.2.1,s.2.2.1,s.2.2.2.1)
theorem a1l{x:D6}(y:D6)(h1:x.2.2.1.length<=1000000)(h2:x.2.2.2.1.length<=1000000):xq x y=some (eqB (Ih x) (Ih y)):=by
 unfold xq;rw[Xr y.2.2.1 h1,o8,Xr y.2.2.2.1 h2,o8];have key:Ih x=Ih y↔(x.1=y.1/\x.2.1=y.2.1/\x.2.2.1=y.2.2.1/\x.2.2.2.1=y.2.2.2.1):=by unfold Ih;simp only[dN]
 by_cases e1:x.1=y.1
 case neg=>rw[LH.2 e1,o6,wF (λh=>e1 (key.1 h).1)]
 by_cases e2:x.2.1=y.2.1
 case neg=>rw[fK.2 e1,o7,J6 e2,o6,wF (λh=>e2 (key.1 h).2.1)]
 by_cases e3:x.2.2.1=y.2.2.1
 case neg=>rw[fK.2 e1,o7,O8 e2,o7,wF e3,o6,wF (λh=>e3 (key.1 h).2.2.1)]
 rw[fK.2 e1,o7,O8 e2,o7,Ey e3,o7];congr 1;exact JI ⟨λh=>key.2 ⟨e1,e2,e3,h⟩,λh=>(key.1 h).2.2.2⟩
noncomputable def siS (a b:U5):Bool:=eqB a.1 b.1&&(eqB a.2.1 b.2.1&&eqB (a.2.2.map Ih) (b.2.2.map Ih))
variable {a:U5}
theorem UF(b:U5)(hA:SmL a)(hT:∀t∈a.2.1,xB t)(hv:(iM a).1=0):rf a b=some (siS a b):=by
 have hf:=hA.few;unfold rf;have h1:aT a.1 b.1 ()=some (eqB a.1 b.1):=by
  unfold aT;rw[←yE];refine KI (λx=>x) (λ(x y:gI)=>eqB x y) (λx y=>Ad) (by have:=hf.1;omega) (λi x y hx hy=>?_) ?_
  .have:=Zc hv x (iO hx);simp only[H6 hx,o7,E5,hx,hy,o8,a3A y (show x.2.length<=1000000 by omega)]
  .simp only[G6];rfl
 have h2:az a.2.1 b.2.1 ()=some (eqB a.2.1 b.2.1):=by
  unfold az;rw[←yE];refine KI (λx=>x) (λ(x y:bJ)=>eqB x y) (λx y=>Ad) (by have:=hf.2.1;omega) (λi x y hx hy=>?_) ?_
  .have:=(hT x (iO hx)).1;simp only[H6 hx,o7,E5,hx,hy,o8,a1m y (show x.2.2.2.length<=1000000 by omega)]
  .simp only[G6];rfl
 have h3:ay a.2.2 b.2.2 ()=some (eqB (a.2.2.map Ih) (b.2.2.map Ih)):=by
  unfold ay;refine KI Ih (λ(x y:D6)=>eqB (Ih x) (Ih y)) (λx y=>Ad) (by have:=hf.2.2;omega) (λi x y hx hy=>?_) ?_
  .have hS:=hA.sc x (iO hx);have hni:=hS.ni;have hnd:=hS.nd;simp only[H6 hx,o7,E5,hx,hy,o8,a1l y (show x.2.2.1.length<=1000000 by omega) (show x.2.2.2.1.length<=1000000 by omega)]
  .simp only[G6];rfl
 rw[h1,o8,h2,o8,h3,o8];unfold siS;cases eqB a.1 b.1<;>cases eqB a.2.1 b.2.1<;>rfl
def a0p(s:D6)(d:Int):d1x:=match F9 s.2.2.2.1 d with|some f=>f.1|none=>[]
def a2X(s:D6)(d:Int):d1x:=match F9 s.2.2.2.2 d with|some f=>f.1|none=>[]
def prS(s:D6)(r:ak):pJ:=(a0p s r.2.1,a2X s r.2.2.1,r.2.2.2.1,r.2.2.2.2.1,r.2.2.2.2.2.2.2)
variable {d:Int}
theorem XK{l:List α}(h0:J5 0 d=true)(h1:D9 d (o9 l)=true):∃x,F9 l d=some x:=by
 rw[qc]at h0;rw[kz]at h1;simp only[o9]at h1;refine⟨l[d.toNat]'l9,?_⟩;unfold F9
 rw[if_pos h0,eG]
theorem Me(s:D6)(r:ak):oC s r=some (prS s r):=by
 unfold oC;have h1:(l7 (J5 0 r.2.1) (l7 (D9 r.2.1 (o9 s.2.2.2.1)) (o5 (F9 s.2.2.2.1 r.2.1) λ(x:fF)=>some ((x.1,[],r.2.2.2.1,r.2.2.2.2.1,r.2.2.2.2.2.2.2):pJ))
   (some ([],[],r.2.2.2.1,r.2.2.2.2.1,r.2.2.2.2.2.2.2))) (some ([],[],r.2.2.2.1,r.2.2.2.2.1,r.2.2.2.2.2.2.2)))=some ((a0p s r.2.1,[],r.2.2.2.1,r.2.2.2.2.1,r.2.2.2.2.2.2.2):pJ):=by
  unfold a0p;cases h0:J5 0 r.2.1
  .rw[jO (.inl h0)];rfl
  cases h1:D9 r.2.1 (o9 s.2.2.2.1)
  .rw[jO (.inr h1)];rfl
  obtain⟨x,hx⟩:=XK h0 h1;rw[hx];rfl
 rw[h1,o8];unfold prS a2X;cases h0:J5 0 r.2.2.1
 .rw[jO (.inl h0)];rfl
 cases h1:D9 r.2.2.1 (o9 s.2.2.2.2)
 .rw[jO (.inr h1)];rfl
 obtain⟨x,hx⟩:=XK h0 h1;rw[hx];rfl
abbrev trS(s:D6)(p:ak):pJ×List I9×List I9:=(prS s p,p.2.2.2.2.2.1,p.2.2.2.2.2.2.1)
noncomputable def srS (s:D6) (p:ak) (t:D6) (q:ak):Bool:=eqB (trS s p) (trS t q)
theorem a3B{s t:D6}{i j:Int}{p q:ak}(hp:F9 s.2.2.2.2 i=some p)(hq:F9 t.2.2.2.2 j=some q)(h1:p.2.2.2.2.2.1.length<=1000000)(h2:p.2.2.2.2.2.2.1.length<=1000000):
  yK s i t j=some (srS s p t q):=by
 unfold yK;rw[hp,o8,hq,o8,Me,o8,Me,o8,ZY q.2.2.2.2.2.1 h1,o8,ZY q.2.2.2.2.2.2.1 h2,o8];unfold srS trS;generalize prS s p=x;generalize prS t q=y;have hb:aj (seq x.1 y.1) (aj (seq x.2.1 y.2.1) (aj (x8 x.2.2.1 y.2.2.1) (aj (x8 x.2.2.2.1.1 y.2.2.2.1.1) (aj (x8 x.2.2.2.1.2 y.2.2.2.1.2) (seq x.2.2.2.2 y.2.2.2.2)))))=eqB x y:=by rw[fV];simp only[wz,Y5,fK,Ad,kC,and_assoc]
 rw[hb];have key:(x,p.2.2.2.2.2.1,p.2.2.2.2.2.2.1)=(y,q.2.2.2.2.2.1,q.2.2.2.2.2.2.1)↔(x=y/\p.2.2.2.2.2.1=q.2.2.2.2.2.1/\p.2.2.2.2.2.2.1=q.2.2.2.2.2.2.1):=by simp only[dN]
 by_cases e:x=y
 case neg=>rw[wF e,o6,wF (λh=>e (key.1 h).1)]
 by_cases e2:p.2.2.2.2.2.1=q.2.2.2.2.2.1
 case neg=>rw[Ey e,o7,wF e2,o6,wF (λh=>e2 (key.1 h).2.1)]
 rw[Ey e,o7,Ey e2,o7];congr 1;exact JI ⟨λh=>key.2 ⟨e,e2,h⟩,λh=>(key.1 h).2.2⟩
theorem DD{α:Type}{p:α->Bool} :∀{l:List α} {k:Nat} {a:α} {i:Int},rD p l k=some (a,i)->∃j:Nat,l[j]? =some a/\i=((k+j:Nat):Int)/\p a=true/\∀j' b,j' <j->l[j']? =some b->p b=false
 |[],_,_,_,h=>by cases h|b::r,k,a,i,h=>by
  unfold rD at h;cases hp:p b<;>rw[hp]at h
  .simp only[o6]at h;obtain⟨j,h1,h2,h3,h4⟩:=DD h;refine⟨j+1,by simpa using h1,by rw[h2];congr 1;omega,h3,λj' c hj hc=>?_⟩;cases j' with
   |zero=>simp at hc;subst hc;exact hp|succ j' =>exact h4 j' c l9 (by simpa using hc)
  .simp only[o7,H7,dN]at h;obtain⟨rfl,rfl⟩:=h;exact⟨0,rfl,rfl,hp,λj' c hj=>by omega⟩
theorem Va{α:Type}{p:α->Bool} :∀{l:List α} {k:Nat},rD p l k=none->∀a∈l,p a=false
 |[],_,_,_,h=>by cases h|b::r,k,h,a,ha=>by
  unfold rD at h;cases hp:p b<;>rw[hp]at h
  .rcases D5.1 ha with rfl|ha
   .exact hp
   .exact Va (show rD p r (k+1)=none from h) a ha
  .cases h
variable {i:Int}
theorem a5o{n:d1x}{r:ak}(h:Lt s n=some (r,i)):F9 s.2.2.2.2 i=some r/\r.1=n/\r∈s.2.2.2.2:=by obtain⟨j,h1,h2,h3,_⟩:=DD h;refine⟨by rw[h2,bU,E5];exact h1,(fK.1 h3).symm,iO h1⟩
theorem a3C{n:d1x}(h:AO l n=some (s,i)):s.1=n/\s∈l.2.2:=by obtain⟨j,h1,h2,h3,_⟩:=DD h;exact⟨(fK.1 h3).symm,iO h1⟩
def cpR(l:U5)(sn rn:d1x):Option (D6×ak):=match AO l sn with
 |none=>none
 |some x=>(Lt x.1 rn).map λy=>(x.1,y.1)
theorem OL(l:U5)(sn rn:d1x):(cpR l sn rn=none/\(cpS l sn rn).2.2=false)\/∃t q j,cpR l sn rn=some (t,q)/\cpS l sn rn=(t,j,true)/\F9 t.2.2.2.2 j=some q/\t∈l.2.2/\t.1=sn/\q∈t.2.2.2.2/\q.1=rn:=by
 unfold cpR cpS;cases hs:AO l sn with
 |none=>exact .inl ⟨rfl,rfl⟩|some x=>
  obtain⟨t,i⟩:=x;obtain⟨h1,h2⟩:=a3C hs;simp only;cases hr:Lt t rn with
  |none=>exact .inl ⟨rfl,rfl⟩|some y=>obtain⟨q,j⟩:=y;obtain⟨h3,h4,h5⟩:=a5o hr;exact .inr ⟨t,q,j,rfl,rfl,h3,h2,h1,h5,h4⟩
noncomputable def EU (b:U5) (s:D6) (r:ak):List iZ:=match cpR b s.1 r.1 with
 |none=>[(s.1,r.1,1)]|some x=>l7 (srS s r x.1 x.2) [] [(s.1,r.1,3)]
def Kv(a:U5)(s:D6)(r:ak):List iZ:=match cpR a s.1 r.1 with
 |none=>[(s.1,r.1,2)]|some _=>[]
noncomputable def VW (a b:U5):List iZ:=(a.2.2.flatMap λs=>s.2.2.2.2.flatMap (EU b s))++b.2.2.flatMap λs=>s.2.2.2.2.flatMap (Kv a s)
theorem wM{α β:Type}(g:α->List β):∀(l:List α) (b:List β),l.foldl (λacc x=>acc++g x) b=b++l.flatMap g
 |[],b=>by simp|a::l,b=>by rw[P5,wM g l,List.flatMap_cons,F8]
theorem Hw(b:U5)(s:D6)(r:ak):(EU b s r).length<=1:=by
 unfold EU;split
 .exact F5 _
 .cases srS s r _ _<;>simp[l7]
theorem MO(b:U5)(s:D6)(r:ak):(Kv b s r).length<=1:=by unfold Kv;split<;>simp
theorem sF{α β:Type}(g:α->List β)(m:Nat):∀{l:List α},(∀a∈l,(g a).length<=m)->(l.flatMap g).length<=m*l.length
 |[],_=>by simp
 |a::l,h=>by have h1:=sF g m (l:=l) λx hx=>h x (by simp[hx]);have h2:=h a A7;rw[List.flatMap_cons,E8,H5,Nat.mul_add];omega
theorem IE{xs ys:List α}(h:xs.length+ys.length<=1073741824):dG xs ys=some (xs++ys):=by unfold dG;rw[if_pos h]
variable {b:U5}
theorem VV(hA:SmL a)(hB:SmL b):sQ a b=some (VW a b):=by
 obtain⟨XA,hXA,iA⟩:=Vo hA;obtain⟨XB,hXB,iB⟩:=Vo hB;have fA:=hA.few.2.2;have fB:=hB.few.2.2;unfold sQ VW;rw[hXA,o8,hXB,o8];have e0:=wM (λs:D6=>s.2.2.2.2.flatMap (EU b s)) a.2.2 [];rw[H8]at e0;have hlen:(a.2.2.flatMap λs=>s.2.2.2.2.flatMap (EU b s)).length<=60*a.2.2.length:=sF _ 60 λs hs=>by have:=sF (EU b s) 1 (l:=s.2.2.2.2) (λr _=>Hw b s r);have h2:=(hA.sc s hs).nr;omega
 refine aZ a.2.2 (λ(acc:List iZ) s=>acc++s.2.2.2.2.flatMap (EU b s)) (λb i=>(b,i)) (λb=>b) (λi acc=>acc.length<=60*i) [] l9 A7 (λi s acc hs hi hI=>?_) (λacc hI=>?_) (λ_=>?_)
 .have hS:=hA.sc s (iO hs);have hlt:=(X6.1 hs).1;have hn:=hS.nr;have hl1:=sF (EU b s) 1 (l:=s.2.2.2.2) (λr _=>Hw b s r);refine⟨?_,by rw[E8];omega⟩;simp only[H6 hs,o7,E5,hs,o8];have e1:=wM (EU b s) s.2.2.2.2 acc;refine aZ s.2.2.2.2 (λ(acc:List iZ) r=>acc++EU b s r) (λb i=>(b,i)) (λb=>b) (λj c=>c.length<=60*i+j) acc l9 l9 (λj r c hr hj hJ=>?_) (λc hJ=>?_) (λ_=>?_)
  .have hjl:=(X6.1 hr).1;obtain⟨_,g1,g2⟩:=hS.ro r (iO hr);have hrl:=Hw b s r;refine⟨?_,by rw[E8];omega⟩;simp only[H6 hr,o7,E5,hr,o8,Na iB];have e2:=Y1 (show j<=9000000000000000000 by omega);rcases OL b s.1 r.1 with⟨q1,q2⟩|⟨t,q,k,q1,q2,q3,q4,q5,q6,q7⟩
   .rw[q2];unfold EU;rw[q1];simp only[aB,o7];rw[IE V6,o8,e2]
   .rw[q2];have hsr:=a3B (s:=s) (t:=t) (i:=(j:Int)) (j:=k) (p:=r) (q:=q) (by rw[E5];exact hr) q3 l9 l9;simp only[D8,o6,hsr,o8];unfold EU;rw[q1];simp only;cases srS s r t q
    .simp only[aB,o7,o6];rw[IE V6,o8,e2]
    .simp only[D8,o7,o6,G9,e2]
  .simp only[G6];rfl
  .rw[e1];simp only[Y1 (show i<=9000000000000000000 by omega)]
 .simp only[G6];rfl
 rw[e0];generalize (a.2.2.flatMap λs=>s.2.2.2.2.flatMap (EU b s))=base at*;have e3:=wM (λs:D6=>s.2.2.2.2.flatMap (Kv a s)) b.2.2 base;refine aZ b.2.2 (λ(acc:List iZ) s=>acc++s.2.2.2.2.flatMap (Kv a s)) (λb i=>(b,i)) (λb=>b) (λi acc=>acc.length<=60000+60*i) base l9 l9 (λi s acc hs hi hI=>?_) (λacc hI=>?_) (λ_=>by rw[e3])
 .have hS:=hB.sc s (iO hs);have hlt:=(X6.1 hs).1;have hn:=hS.nr;have hl1:=sF (Kv a s) 1 (l:=s.2.2.2.2) (λr _=>MO a s r);refine⟨?_,by rw[E8];omega⟩;simp only[H6 hs,o7,E5,hs,o8];have e1:=wM (Kv a s) s.2.2.2.2 acc;refine aZ s.2.2.2.2 (λ(acc:List iZ) r=>acc++Kv a s r) (λb i=>(b,i)) (λb=>b) (λj c=>c.length<=60000+60*i+j) acc l9 l9 (λj r c hr hj hJ=>?_) (λc hJ=>?_) (λ_=>?_)
  .have hjl:=(X6.1 hr).1;have hrl:=MO a s r;refine⟨?_,by rw[E8];omega⟩;simp only[H6 hr,o7,E5,hr,o8,Na iA];have e2:=Y1 (show j<=9000000000000000000 by omega);rcases OL a s.1 r.1 with⟨q1,q2⟩|⟨t,q,k,q1,q2,q3,q4,q5,q6,q7⟩
   .rw[q2];unfold Kv;rw[q1];simp only[aB,o7];rw[IE V6,o8,e2]
   .rw[q2];unfold Kv;rw[q1];simp only[D8,o6,G9,e2]
  .simp only[G6];rfl
  .rw[e1];simp only[Y1 (show i<=9000000000000000000 by omega)]
 .simp only[G6];rfl
abbrev eqN:bW->bW->Bool:=λa b=>aj (seq a.1 b.1) (seq a.2 b.2)
abbrev a1I:=List (bW×Bool)
def edS(l:U5)(k:Int)(c:ig)(d:Int):V3×Int×E4:=if(PL l k c true d).1=0 then(match F9 l.2.2 k with|some s=>a7Y l s c d|none=>((0,0,0),0,0,0,0,0))else((0,0,0),0,PL l k c true d)
variable {k:Int}{c:ig}
theorem b4O(h:(edS l k c d).2.2.1≠0):(edS l k c d).1=(0,0,0):=by
 unfold edS at h ⊢;split
 .rename_i hA;rw[if_pos hA]at h;cases hs:F9 l.2.2 k with
  |none=>rfl|some s=>
   rw[hs]at h;simp only at h ⊢;unfold a7Y at h ⊢;revert h;generalize Zm l s c (PN s (Dz s.2.2.2.1.length) d) (QA (bf l s) (Dz (bf l s).2.2.2.1.length) (mbS s d))=z;intro h;cases z with
   |inl x=>exact absurd (show(0:Int)=0 from rfl) h|inr e=>rfl
 .rfl
def evS(l:U5)(k:Int)(c:ig)(d:Int):V3×Int:=l7 (D7 (x8 (edS l k c d).2.2.1 0)) ((0,0,0),(edS l k c d).2.2.1) ((edS l k c d).1,0)
theorem b0l(l:U5)(k:Int)(c:ig)(d:Int):evS l k c d=((edS l k c d).1,(edS l k c d).2.2.1):=by
 unfold evS;by_cases h:(edS l k c d).2.2.1=0
 .rw[O8 h,h];rfl
 .rw[J6 h,b4O h];rfl
theorem Rk(hL:SmL l)(hC:SmC c)(hT:∀t∈l.2.1,xB t):wG l k c d=some (evS l k c d):=by unfold wG evS;rw[a4w hL hC hT,o8];show l7 (D7 (x8 (edS l k c d).2.2.1 0)) (some ((0,0,0),(edS l k c d).2.2.1)) (some ((edS l k c d).1,0))=_;cases D7 (x8 (edS l k c d).2.2.1 0)<;>rfl
def b4B(e:Int×Int×Int×Int):Bool:=aj (x8 e.1 0) (aj (x8 e.2.1 0) (aj (x8 e.2.2.1 0) (x8 e.2.2.2 0)))
theorem a2l{n:Nat}{p:Nat->Option (Int×Int×Int×Int)}(hp:∀i r,p i=some r->r.1≠0):(match Z4 n p with|some r=>r|none=>((0,0,0,0):Int×Int×Int×Int)).1=0->(match Z4 n p with|some r=>r|none=>((0,0,0,0):Int×Int×Int×Int))=(0,0,0,0):=by
 cases h:Z4 n p with
 |none=>exact λ_=>rfl
 |some r=>obtain⟨i,_,hi⟩:=ja h;exact λe=>absurd e (hp i r hi)
theorem VQ(l:U5):b4B (iM l)=x8 (iM l).1 0:=by
 have key:(iM l).1=0->iM l=(0,0,0,0):=by
  unfold iM;cases h1:x8 (Jk l).1 0
  .simp only[o6];exact λh=>absurd h (BP.1 h1)
  simp only[o7];cases h2:x8 (Jd l).1 0
  .simp only[o6];exact λh=>absurd h (BP.1 h2)
  simp only[o7];unfold PE;cases D9 4 (o9 l.2.2)
  .simp only[o6];refine a2l λi r h=>?_;unfold Ia at h;split at h
   .exact OU h
   .cases h
  .simp only[o7];exact λh=>absurd h J8
 by_cases h:(iM l).1=0
 .rw[key h];rfl
 .unfold b4B;rw[J6 h];rfl
def b5v(a:U5)(k d:Int):Bool:=l7 (D9 k 0) false (l7 (J5 (o9 a.2.2) k) false (l7 (D9 d 0) false (match F9 a.2.2 k with|some s=>D7 (J5 (o9 s.2.2.2.1) d)|none=>false)))
theorem Rt{α:Type}(p:α->Bool):∀(l b:List α),l.foldl (λacc x=>l7 (p x) (acc++[x]) acc) b=b++l.filter p
 |[],b=>by simp|a::l,b=>by rw[P5,Rt p l,dJ];cases p a<;>simp[l7]
theorem b0b(hA:SmL a)(hB:SmL b):(VW a b).length<=120000:=by
 unfold VW;have h1:(a.2.2.flatMap λs=>s.2.2.2.2.flatMap (EU b s)).length<=60*a.2.2.length:=sF _ 60 λs hs=>by have:=sF (EU b s) 1 (l:=s.2.2.2.2) (λr _=>Hw b s r);have h2:=(hA.sc s hs).nr;omega
 have h2:(b.2.2.flatMap λs=>s.2.2.2.2.flatMap (Kv a s)).length<=60*b.2.2.length:=sF _ 60 λs hs=>by have:=sF (Kv a s) 1 (l:=s.2.2.2.2) (λr _=>MO a s r);have h2:=(hB.sc s hs).nr;omega
 have fA:=hA.few.2.2;have fB:=hB.few.2.2;rw[E8];omega
theorem b2m(h:b5v a k d=true):∃s,F9 a.2.2 k=some s/\0<=d/\d<nD s:=by
 unfold b5v at h;cases h1:D9 k 0<;>rw[h1]at h
 case true=>cases h
 cases h2:J5 (o9 a.2.2) k<;>rw[h2]at h
 case true=>cases h
 cases h3:D9 d 0<;>rw[h3]at h
 case true=>cases h
 simp only[o6]at h;cases hs:F9 a.2.2 k with
 |none=>rw[hs]at h;cases h|some s=>
  rw[hs]at h;simp only at h;refine⟨s,rfl,iI.1 h3,?_⟩;cases h4:J5 (o9 s.2.2.2.1) d<;>rw[h4]at h
  .exact GL.1 h4
  .cases h
theorem b2Y(h:siS a b=true)(hs:F9 a.2.2 k=some s):∃t,F9 b.2.2 k=some t/\Ih s=Ih t:=by
 unfold siS at h;simp only[A8,Ad]at h;have h3:=h.2.2;obtain⟨h0,h1,_,h2⟩:=qw hs;have e:=congrArg (λl=>l[k.toNat]?) h3;simp only[ed,h2,ax]at e;cases ht:b.2.2[k.toNat]? with
 |none=>rw[ht]at e;cases e|some t=>
  rw[ht]at e;simp only[ax,H7]at e;refine⟨t,?_,e⟩;unfold F9
  rw[if_pos h0,ht]
theorem a8i:IG=some true:=by decide+kernel
theorem a5C(a b:U5)(c:ig):II (a,b) c=some (smL a&&(smL b&&smC c)):=by unfold II;rw[VN,o8,VN,o8,a1o];cases smL a<;>cases smL b<;>cases smC c<;>rfl
theorem KJ(g:α->β)(q:α->α->Bool)(hq:∀x y,q x y=true↔g x=g y){a b:List α}(hl:a.length<=1000000){f:Int->Option (Out Int PUnit Bool)}
  (hin:∀(i:Nat) x y,a[i]? =some x->b[i]? =some y->f (i:Int)=l7 (D9 (i:Int) (o9 a)) (l7 (D9 (i:Int) (o9 b)) (l7 (D7 (q x y)) (some (.rt false)) (some (.nx (x9 .i64 (i:Int) 1)))) (some (.ex PUnit.unit))) (some (.ex PUnit.unit))) (hend:f (a.length:Int)=some (.ex PUnit.unit)):
  (l7 (D7 (x8 (o9 a) (o9 b))) (some false) (o5 (U1 f 0) λo=>U6 o (λ_=>some true) λr=>some r))=some (eqB (a.map g) (b.map g)):=
 KI g q hq hl (λi x y hx hy=>by rw[hin i x y hx hy,H6 hx,o7,H6 hy,o7]) hend
theorem a3z{a:List d1x}(b:List d1x)(h:a.length<=1000000):Gf a b=some (eqB a b):=by
 unfold Gf;rw[←yE];refine KJ (λx=>x) (λx y=>seq x y) (λx y=>fK) h (λi x y hx hy=>?_) ?_
 .simp only[E5,hx,hy,o8]
 .simp only[G6];rfl
theorem b2S{a:List ww}(b:List ww)(h:a.length<=1000000):Pz a b=some (eqB a b):=by
 unfold Pz;rw[←yE];refine KJ (λx=>x) (λ(x y:ww)=>aj (x8 x.1.1 y.1.1) (aj (x8 x.1.2 y.1.2) (aj (x8 x.2.1 y.2.1) (aj (x8 x.2.2.1 y.2.2.1) (x8 x.2.2.2 y.2.2.2)))))
  (λx y=>by simp only[wz,Y5,kC,and_assoc]) h (λi x y hx hy=>?_) ?_
 .simp only[E5,hx,hy,o8]
 .simp only[G6];rfl
theorem YI{a:List fF}(b:List fF)(h:a.length<=1000000):yx a b=some (eqB a b):=by
 unfold yx;rw[←yE];refine KJ (λx=>x) (λ(x y:fF)=>aj (seq x.1 y.1) (aj (x8 x.2.1 y.2.1) (x8 x.2.2 y.2.2)))
  (λx y=>by simp only[wz,Y5,fK,kC]) h (λi x y hx hy=>?_) ?_
 .simp only[E5,hx,hy,o8]
 .simp only[G6];rfl
theorem U_{a:List I9}(b:List I9)(h:a.length<=1000000):HY a b=some (eqB a b):=by
 unfold HY;rw[←yE];refine KJ (λx=>x) (λ(x y:I9)=>aj (x8 x.1 y.1) (x8 x.2 y.2))
  (λx y=>by simp only[wz,Y5,kC]) h (λi x y hx hy=>?_) ?_
 .simp only[E5,hx,hy,o8]
 .simp only[G6];rfl
theorem b2Q{x:gI}(y:gI)(h:x.2.length<=1000000):Py x y=some (eqB x y):=by
 unfold Py;rw[a3z y.2 h,o8];by_cases e:x.1=y.1
 .rw[fK.2 e,o7];congr 1;exact JI ⟨λh=>aK e h,λh=>by rw[h]⟩
 .rw[LH.2 e,o6,wF (λh=>e (by rw[h]))]
theorem a9l{x:bJ}(y:bJ)(h:x.2.2.2.length<=1000000):LD x y=some (eqB x y):=by
 unfold LD;rw[b2S y.2.2.2 h,o8];by_cases e:x=y
 .subst e;rw[fK.2 rfl,O8 rfl,O8 rfl,O8 rfl,O8 rfl,Ey rfl,Ey rfl];rfl
 .rw[wF e];by_cases e1:x.1=y.1
  case neg=>rw[LH.2 e1];rfl
  rw[fK.2 e1,o7];cases h2:aj (x8 x.2.1.1 y.2.1.1) (x8 x.2.1.2 y.2.1.2)
  .rfl
  cases h3:aj (x8 x.2.2.1.1 y.2.2.1.1) (x8 x.2.2.1.2 y.2.2.1.2)
  .rfl
  simp only[wz,Y5]at h2 h3;rw[o7,o7,wF];intro h4;exact e (aK e1 (aK (aK h2.1 h2.2) (aK (aK h3.1 h3.2) h4)))
theorem SG(b:U5)(hA:SmL a)(hT:∀t∈a.2.1,xB t)(hv:(iM a).1=0):uy a b=some (siS a b):=by
 have hf:=hA.few;have h1:LC a.1 b.1=some (eqB a.1 b.1):=by
  unfold LC;rw[←yE];refine KJ (λx=>x) (λ(x y:gI)=>eqB x y) (λx y=>Ad) (by have:=hf.1;omega) (λi x y hx hy=>?_) ?_
  .have:=Zc hv x (iO hx);simp only[E5,hx,hy,o8,b2Q y (show x.2.length<=1000000 by omega)]
  .simp only[G6];rfl
 have h2:Ja a.2.1 b.2.1=some (eqB a.2.1 b.2.1):=by
  unfold Ja;rw[←yE];refine KJ (λx=>x) (λ(x y:bJ)=>eqB x y) (λx y=>Ad) (by have:=hf.2.1;omega) (λi x y hx hy=>?_) ?_
  .have:=(hT x (iO hx)).1;simp only[E5,hx,hy,o8,a9l y (show x.2.2.2.length<=1000000 by omega)]
  .simp only[G6];rfl
 have h3:=KI (f:=λ(x:Int)=>
      l7 (D9 x (o9 a.2.2))
       (o5 (F9 a.2.2 x) λ(x_1:D6)=>
        o5 (F9 b.2.2 x) λ(x_2:D6)=>
         l7 (D7 (seq x_1.1 x_2.1)) (some (Out.rt false))
          (l7 (D7 (x8 x_1.2.1 x_2.2.1)) (some (Out.rt false))
           (o5 (yx x_1.2.2.1 x_2.2.2.1) λ(x_3:Bool)=>
            l7 (D7 x_3) (some (Out.rt false))
             (o5 (yx x_1.2.2.2.1 x_2.2.2.2.1) λ(x_4:Bool)=>
              l7 (D7 x_4) (some (Out.rt false)) (some (Out.nx (x9 IntKind.i64 x 1)))))))
       (some (Out.ex PUnit.unit))) (a:=a.2.2) (b:=b.2.2) Ih (λ(x y:D6)=>eqB (Ih x) (Ih y)) (λx y=>Ad) (by have:=hf.2.2;omega) (λi x y hx hy=>by
  have hS:=hA.sc x (iO hx);have hni:=hS.ni;have hnd:=hS.nd;simp only[H6 hx,o7,E5,hx,hy,o8,YI y.2.2.1 (show x.2.2.1.length<=1000000 by omega),YI y.2.2.2.1 (show x.2.2.2.1.length<=1000000 by omega)];have key:Ih x=Ih y↔(x.1=y.1/\x.2.1=y.2.1/\x.2.2.1=y.2.2.1/\x.2.2.2.1=y.2.2.2.1):=by unfold Ih;simp only[dN]
  by_cases e1:x.1=y.1
  case neg=>rw[LH.2 e1,wF (λh=>e1 (key.1 h).1)];rfl
  by_cases e2:x.2.1=y.2.1
  case neg=>rw[fK.2 e1,J6 e2,wF (λh=>e2 (key.1 h).2.1)];rfl
  by_cases e3:x.2.2.1=y.2.2.1
  case neg=>rw[fK.2 e1,O8 e2,wF e3,wF (λh=>e3 (key.1 h).2.2.1)];rfl
  rw[fK.2 e1,O8 e2,Ey e3,JI (show x.2.2.2.1=y.2.2.2.1↔Ih x=Ih y from⟨λh=>key.2 ⟨e1,e2,e3,h⟩,λh=>(key.1 h).2.2.2⟩)];rfl) (by simp only[G6];rfl)
 unfold uy siS;rw[h1,o8,h2,o8];cases eqB a.1 b.1
 .rfl
 cases eqB a.2.1 b.2.1
 .rfl
 simp only[D8,o6,gu];cases hl:x8 (o9 a.2.2) (o9 b.2.2)
 .rw[hl]at h3;simp only[aB,o7]at h3;simp only[aB,o7,o8,vC];exact h3
 .rw[hl]at h3;simp only[D8,o6]at h3;simp only[D8,o6,o8,J7];exact h3
def a8L(o:Option (α×Int)):Int:=match o with|some x=>x.2|none=>-1
theorem a6H{l:List α}(hl:l.length<=1000000)(p:α->Bool){f:Int->Option (Out Int PUnit Int)} (hin:∀(i:Nat) x,l[i]? =some x->f (i:Int)=l7 (p x) (some (.rt (i:Int))) (some (.nx (x9 .i64 (i:Int) 1)))) (hend:f (l.length:Int)=some (.ex PUnit.unit)):
  (o5 (U1 f 0) λ(o:PUnit⊕Int)=>U6 o (λ(_:PUnit)=>some (-1)) λ(r:Int)=>some r)=some (a8L (rD p l 0)):=by
 have key:=qp (p:=λi=>match l[i]? with|some x=>l7 (p x) (some (i:Int)) none|none=>none) l.length hl PUnit.unit (f:=f) (λi hi=>by have hx:=eG hi;rw[hin i _ hx,hx];simp only;cases p l[i]<;>rfl) hend
 rw[key];cases hf:rD p l 0 with
 |some x=>
  obtain⟨j,h1,h2,h3,h4⟩:=DD (a:=x.1) (i:=x.2) hf;have hj:=(X6.1 h1).1;have:Z4 l.length (λi=>match l[i]? with|some x=>l7 (p x) (some (i:Int)) none|none=>none)=some (j:Int):=by
   unfold Z4;rw[List.findSome?_eq_some_iff];refine⟨List.range j,j,(List.range (l.length -j -1)).map (λi=>j+1+i),?_,by rw[h1];simp only[h3,o7],λi hi=>?_⟩
   .apply kH
    .simp;omega
    .intro n g1 g2;simp only[List.getElem_range];rcases Nat.lt_trichotomy n j with h|h|h
     .rw[oz (by simpa using h)];simp
     .subst h;rw[List.getElem_append_right A7];simp
     .rw[List.getElem_append_right V6,List.getElem_cons];simp only[fZ];rw[dif_neg l9];simp;omega
   .have hij:i<j:=by simpa using hi
    have hx:=eG (show i<l.length by omega);rw[hx];simp only[h4 i _ hij hx,o6]
  rw[this];simp only[o8,vC,a8L];rw[h2];congr 1;omega
 |none=>
  have hn:=Va hf;have:Z4 l.length (λi=>match l[i]? with|some x=>l7 (p x) (some (i:Int)) none|none=>none)=none:=by unfold Z4;rw[ji];intro i hi;have hx:=eG (show i<l.length by simpa using hi);rw[hx];simp only[hn _ (N7 _),o6]
  rw[this];rfl
theorem Ro{p q:α->Bool}(h:∀a,p a=q a)(l:List α)(k:Nat):rD p l k=rD q l k:=by rw[show p=q from funext h]
theorem a3l(hl:l.2.2.length<=1000000)(n:d1x):Eo l n=some (a8L (AO l n)):=by
 unfold Eo AO;rw[Ro (α:=D6) (λs=>Oj n s.1)];refine a6H hl (λ(s:D6)=>seq s.1 n) (λi x hx=>?_) ?_
 .simp only[H6 hx,o7,E5,hx,o8]
 .simp only[G6];rfl
theorem a5h(hl:s.2.2.2.2.length<=1000000)(n:d1x):FX s n=some (a8L (Lt s n)):=by
 unfold FX Lt;rw[Ro (α:=ak) (λr=>Oj n r.1)];refine a6H hl (λ(r:ak)=>seq r.1 n) (λi x hx=>?_) ?_
 .simp only[H6 hx,o7,E5,hx,o8]
 .simp only[G6];rfl
theorem MB(hL:SmL l)(sn rn:d1x):tC l sn rn=some (cpS l sn rn):=by
 have hf:=hL.few.2.2;unfold tC cpS;rw[a3l l9,o8];cases hs:AO l sn with
 |none=>rfl|some x=>
  obtain⟨s,i⟩:=x;obtain⟨j,h1,h2,h3,_⟩:=DD hs;have h2:i=(j:Int):=by rw[h2];congr 1;omega
  subst h2;have hS:=hL.sc s (iO h1);have hn:=hS.nr;simp only[a8L];rw[J9 (show(0:Int)<=(j:Int) by omega),o6,E5,h1,o8,a5h l9,o8];cases hr:Lt s rn with
  |none=>rfl|some y=>
   obtain⟨r,k⟩:=y;obtain⟨m,_,g2,_,_⟩:=DD hr;have g2:k=(m:Int):=by rw[g2];congr 1;omega
   subst g2;simp only[a8L];rw[J9 (show(0:Int)<=(m:Int) by omega),o6,o8]
theorem a3c(s:D6)(d:Int):zS s d=some (a0p s d):=by
 unfold zS a0p;rw[nP d 0,Af (o9 s.2.2.2.1) d];cases h0:J5 0 d
 .rw[jO (.inl h0)];rfl
 cases h1:D9 d (o9 s.2.2.2.1)
 .rw[jO (.inr h1)];rfl
 obtain⟨x,hx⟩:=XK h0 h1;rw[hx];rfl
theorem a3h(s:D6)(d:Int):vg s d=some (a2X s d):=by
 unfold vg a2X;rw[nP d 0,Af (o9 s.2.2.2.2) d];cases h0:J5 0 d
 .rw[jO (.inl h0)];rfl
 cases h1:D9 d (o9 s.2.2.2.2)
 .rw[jO (.inr h1)];rfl
 obtain⟨x,hx⟩:=XK h0 h1;rw[hx];rfl
theorem a8Q{s t:D6}{i j:Int}{p q:ak}(hp:F9 s.2.2.2.2 i=some p)(hq:F9 t.2.2.2.2 j=some q)(h1:p.2.2.2.2.2.1.length<=1000000)(h2:p.2.2.2.2.2.2.1.length<=1000000):
  IU s i t j=some (srS s p t q):=by
 unfold IU srS;rw[hp,o8,hq,o8];simp only[a3c,a3h,o8,U_ q.2.2.2.2.2.1 h1,U_ q.2.2.2.2.2.2.1 h2];have key:trS s p=trS t q↔(a0p s p.2.1=a0p t q.2.1/\a2X s p.2.2.1=a2X t q.2.2.1/\p.2.2.2.1=q.2.2.2.1/\p.2.2.2.2.1=q.2.2.2.2.1/\p.2.2.2.2.2.1=q.2.2.2.2.2.1/\p.2.2.2.2.2.2.1=q.2.2.2.2.2.2.1/\p.2.2.2.2.2.2.2=q.2.2.2.2.2.2.2):=by unfold trS prS;simp only[dN];exact⟨λ⟨⟨a1,a2,a3,a4,a5⟩,a6,a7⟩=>⟨a1,a2,a3,a4,a6,a7,a5⟩,λ⟨a1,a2,a3,a4,a6,a7,a5⟩=>⟨⟨a1,a2,a3,a4,a5⟩,a6,a7⟩⟩
 have hF:¬trS s p=trS t q->eqB (trS s p) (trS t q)=false:=wF;by_cases e1:a0p s p.2.1=a0p t q.2.1
 case neg=>rw[LH.2 e1,hF (λh=>e1 (key.1 h).1)];rfl
 by_cases e2:a2X s p.2.2.1=a2X t q.2.2.1
 case neg=>rw[fK.2 e1,LH.2 e2,hF (λh=>e2 (key.1 h).2.1)];rfl
 by_cases e3:p.2.2.2.1=q.2.2.2.1
 case neg=>rw[fK.2 e1,fK.2 e2,J6 e3,hF (λh=>e3 (key.1 h).2.2.1)];rfl
 rw[fK.2 e1,fK.2 e2,O8 e3];simp only[o7];cases h4:aj (x8 p.2.2.2.2.1.1 q.2.2.2.2.1.1) (x8 p.2.2.2.2.1.2 q.2.2.2.2.1.2)
 .rw[hF (λh=>by
   have e4:=(key.1 h).2.2.2.1;rw[show aj (x8 p.2.2.2.2.1.1 q.2.2.2.2.1.1) (x8 p.2.2.2.2.1.2 q.2.2.2.2.1.2)=true from wz.2 ⟨O8 (by rw[e4]),O8 (by rw[e4])⟩]at h4;cases h4)]
  rfl
 simp only[wz,Y5]at h4;have e4:p.2.2.2.2.1=q.2.2.2.2.1:=aK h4.1 h4.2;simp only[o7];by_cases e5:p.2.2.2.2.2.1=q.2.2.2.2.2.1
 case neg=>rw[wF e5,hF (λh=>e5 (key.1 h).2.2.2.2.1)];rfl
 by_cases e6:p.2.2.2.2.2.2.1=q.2.2.2.2.2.2.1
 case neg=>rw[Ey e5,wF e6,hF (λh=>e6 (key.1 h).2.2.2.2.2.1)];rfl
 rw[Ey e5,Ey e6];simp only[o7];congr 1;by_cases e7:p.2.2.2.2.2.2.2=q.2.2.2.2.2.2.2
 .rw[fK.2 e7,Ey (key.2 ⟨e1,e2,e3,e4,e5,e6,e7⟩)]
 .rw[LH.2 e7,hF (λh=>e7 (key.1 h).2.2.2.2.2.2)]
theorem Uo(hA:SmL a)(hB:SmL b):vV a b=some (VW a b):=by
 have fA:=hA.few.2.2;have fB:=hB.few.2.2;unfold vV VW;have e0:=wM (λs:D6=>s.2.2.2.2.flatMap (EU b s)) a.2.2 [];rw[H8]at e0;have hlen:(a.2.2.flatMap λs=>s.2.2.2.2.flatMap (EU b s)).length<=60*a.2.2.length:=sF _ 60 λs hs=>by have:=sF (EU b s) 1 (l:=s.2.2.2.2) (λr _=>Hw b s r);have h2:=(hA.sc s hs).nr;omega
 refine aZ a.2.2 (λ(acc:List iZ) s=>acc++s.2.2.2.2.flatMap (EU b s)) (λb i=>(b,i)) (λb=>b) (λi acc=>acc.length<=60*i) [] l9 A7 (λi s acc hs hi hI=>?_) (λacc hI=>?_) (λ_=>?_)
 .have hS:=hA.sc s (iO hs);have hlt:=(X6.1 hs).1;have hn:=hS.nr;have hl1:=sF (EU b s) 1 (l:=s.2.2.2.2) (λr _=>Hw b s r);refine⟨?_,by rw[E8];omega⟩;simp only[H6 hs,o7,E5,hs,o8];have e1:=wM (EU b s) s.2.2.2.2 acc;refine aZ s.2.2.2.2 (λ(acc:List iZ) r=>acc++EU b s r) (λb i=>(b,i)) (λb=>b) (λj c=>c.length<=60*i+j) acc l9 l9 (λj r c hr hj hJ=>?_) (λc hJ=>?_) (λ_=>?_)
  .have hjl:=(X6.1 hr).1;obtain⟨_,g1,g2⟩:=hS.ro r (iO hr);have hrl:=Hw b s r;refine⟨?_,by rw[E8];omega⟩;simp only[H6 hr,o7,E5,hr,o8,MB hB];have e2:=Y1 (show j<=9000000000000000000 by omega);rcases OL b s.1 r.1 with⟨q1,q2⟩|⟨t,q,k,q1,q2,q3,q4,q5,q6,q7⟩
   .rw[q2];unfold EU;rw[q1];simp only[aB,o7];rw[IE V6,o8,e2]
   .rw[q2];have hsr:=a8Q (s:=s) (t:=t) (i:=(j:Int)) (j:=k) (p:=r) (q:=q) (by rw[E5];exact hr) q3 l9 l9;simp only[D8,o6,hsr,o8];unfold EU;rw[q1];simp only;cases srS s r t q
    .simp only[aB,o7,o6];rw[IE V6,o8,e2]
    .simp only[D8,o7,o6,G9,e2]
  .simp only[G6];rfl
  .rw[e1];simp only[Y1 (show i<=9000000000000000000 by omega)]
 .simp only[G6];rfl
 rw[e0];generalize (a.2.2.flatMap λs=>s.2.2.2.2.flatMap (EU b s))=base at*;have e3:=wM (λs:D6=>s.2.2.2.2.flatMap (Kv a s)) b.2.2 base;refine aZ b.2.2 (λ(acc:List iZ) s=>acc++s.2.2.2.2.flatMap (Kv a s)) (λb i=>(b,i)) (λb=>b) (λi acc=>acc.length<=60000+60*i) base l9 l9 (λi s acc hs hi hI=>?_) (λacc hI=>?_) (λ_=>by rw[e3])
 .have hS:=hB.sc s (iO hs);have hlt:=(X6.1 hs).1;have hn:=hS.nr;have hl1:=sF (Kv a s) 1 (l:=s.2.2.2.2) (λr _=>MO a s r);refine⟨?_,by rw[E8];omega⟩;simp only[H6 hs,o7,E5,hs,o8];have e1:=wM (Kv a s) s.2.2.2.2 acc;refine aZ s.2.2.2.2 (λ(acc:List iZ) r=>acc++Kv a s r) (λb i=>(b,i)) (λb=>b) (λj c=>c.length<=60000+60*i+j) acc l9 l9 (λj r c hr hj hJ=>?_) (λc hJ=>?_) (λ_=>?_)
  .have hjl:=(X6.1 hr).1;have hrl:=MO a s r;refine⟨?_,by rw[E8];omega⟩;simp only[H6 hr,o7,E5,hr,o8,MB hA];have e2:=Y1 (show j<=9000000000000000000 by omega);rcases OL a s.1 r.1 with⟨q1,q2⟩|⟨t,q,k,q1,q2,q3,q4,q5,q6,q7⟩
   .rw[q2];unfold Kv;rw[q1];simp only[aB,o7];rw[IE V6,o8,e2]
   .rw[q2];unfold Kv;rw[q1];simp only[D8,o6,G9,e2]
  .simp only[G6];rfl
  .rw[e1];simp only[Y1 (show i<=9000000000000000000 by omega)]
 .simp only[G6];rfl
def a0A(D:d1v)(x:Int):Bool:=D.any λd=>x8 d x
def dfS(s:D6)(D:d1v)(n:d1x):Bool:=s.2.2.2.2.any λr=>seq r.1 n&&a0A D r.2.1
theorem a2J(hE:∀a b,eq a b=true↔a=b)(l:List (α×Bool))(k k' :α):AY eq (GX eq l k true) k' false=(eq k' k || AY eq l k' false):=by have:=(Ug hE k true k' l).2 false;show IK eq (NG eq l k true) k' false=_;rw[this];show l7 (eq k' k) true (IK eq l k' false)=(eq k' k || IK eq l k' false);cases eq k' k<;>rfl
theorem b0A(a b:Int):x8 a b=x8 b a:=by
 by_cases h:a=b
 .rw[h]
 .rw[J6 h,J6 (λe=>h e.symm)]
theorem b4P(a b:Int):(λ(a b:Int)=>x8 a b) a b=true↔a=b:=Y5
theorem b4Q(a b:bW):eqN a b=true↔a=b:=b2U a b
theorem b2j:∀(D:d1v) (acc:List (Int×Bool)) (x:Int),AY (λ(a b:Int)=>x8 a b) (D.foldl (λ(acc:List (Int×Bool)) d=>GX (λ(a b:Int)=>x8 a b) acc d true) acc) x false=(a0A D x || AY (λ(a b:Int)=>x8 a b) acc x false)
 |[],acc,x=>rfl|d::D,acc,x=>by rw[P5,b2j D,a2J b4P];unfold a0A;rw[lh,b0A x d];cases x8 d x<;>cases D.any (λd=>x8 d x)<;>rfl
theorem a2L(sn:d1x)(p:ak->Bool)(q n:d1x):∀(rs:List ak) (acc:a1I),AY eqN (rs.foldl (λ(acc:a1I) r=>l7 (p r) (GX eqN acc (sn,r.1) true) acc) acc) (q,n) false=(AY eqN acc (q,n) false || (seq sn q&&rs.any λr=>seq r.1 n&&p r))
 |[],acc=>by simp|r::rs,acc=>by
  rw[P5,a2L sn p q n rs,lh];cases hp:p r
  .simp
  .rw[o7,a2J b4Q];show((aj (seq q sn) (seq n r.1) || AY eqN acc (q,n) false) || _)=_;rw[Oj q sn,Oj n r.1];unfold aj;cases seq sn q<;>cases seq r.1 n<;>cases AY eqN acc (q,n) false<;>simp
variable {D:d1v}
theorem Xg(hS:SmS s)(L:a1I)(hD:D.length<=1000000):∃L',xP L s D=some L' /\∀q n,AY eqN L' (q,n) false=(AY eqN L (q,n) false || (seq s.1 q&&dfS s D n)):=by
 have hn:=hS.nr;refine⟨s.2.2.2.2.foldl (λ(acc:a1I) r=>l7 (AY (λ(a b:Int)=>x8 a b) (D.foldl (λ(acc:List (Int×Bool)) d=>GX (λ(a b:Int)=>x8 a b) acc d true) []) r.2.1 false) (GX eqN acc (s.1,r.1) true) acc) L,?_,λq n=>?_⟩
 .unfold xP;refine aZ D (λ(acc:List (Int×Bool)) d=>GX (λ(a b:Int)=>x8 a b) acc d true) (λb i=>(b,i)) (λb=>b) (λ_ _=>True) [] hD trivial (λi d acc hd hi _=>⟨?_,trivial⟩) (λacc _=>?_) (λ_=>?_)
  .simp only[H6 hd,o7,E5,hd,o8,Y1 (show i<=9000000000000000000 by omega)]
  .simp only[G6];rfl
  refine aZ s.2.2.2.2 (λ(acc:a1I) r=>l7 (AY (λ(a b:Int)=>x8 a b) (D.foldl (λ(acc:List (Int×Bool)) d=>GX (λ(a b:Int)=>x8 a b) acc d true) []) r.2.1 false) (GX (λ(a b:bW)=>aj (seq a.1 b.1) (seq a.2 b.2)) acc (s.1,r.1) true) acc) (λb i=>(b,i)) (λb=>b) (λ_ _=>True) L l9 trivial (λi r acc hr hi _=>⟨?_,trivial⟩) (λacc _=>?_) (λ_=>rfl)
  .simp only[H6 hr,o7,E5,hr,o8,Y1 (show i<=9000000000000000000 by omega)];cases AY (λ(a b:Int)=>x8 a b) (D.foldl (λ(acc:List (Int×Bool)) d=>GX (λ(a b:Int)=>x8 a b) acc d true) []) r.2.1 false<;>rfl
  .simp only[G6];rfl
 .rw[a2L s.1 (λr=>AY (λ(a b:Int)=>x8 a b) (D.foldl (λ(acc:List (Int×Bool)) d=>GX (λ(a b:Int)=>x8 a b) acc d true) []) r.2.1 false) q n];unfold dfS;congr 3;funext r;rw[b2j];show(seq r.1 n&&(a0A D r.2.1 || false))=_;rw[Bool.or_false]
def b4X(s m:D6)(d:Int):d1v:=(mbS s d).flatMap λx=>[x]++bz m x
def rlS(l:U5)(s:D6)(d:Int)(q n:d1x):Bool:=
 (seq s.1 q&&dfS s (bz s d++[d]) n) || (J5 0 s.2.1&&(seq (bf l s).1 q&&dfS (bf l s) (b4X s (bf l s) d) n))
theorem a6V(s m:D6)(d:Int):(mbS s d).foldl (λ(acc:d1v) x=>acc++[x]++bz m x) []=b4X s m d:=by rw[show(λ(acc:d1v) x=>acc++[x]++bz m x)=(λ(acc:d1v) x=>acc++([x]++bz m x)) by funext acc x;rw[F8]];rw[wM,H8];rfl
theorem b0Q{s m:D6}(hS:SmS s)(hM:SmS m)(d:Int):(b4X s m d).length<=100000:=by have hml:=RN hS d;have:=sF (λx=>[x]++bz m x) 15 (l:=mbS s d) (λx _=>by have:=wW hM x;rw[E8];simp;omega);unfold b4X;omega
theorem VH(hL:SmL l)(hv:(iM l).1=0)(hs:F9 l.2.2 k=some s)(h0:0<=d)(h1:d<nD s):∃L,wH l k d=some L/\∀q n,AY eqN L (q,n) false=rlS l s d q n:=by
 have hk:=qw hs;have hS:=hL.sc s hk.2.2.1;have ht:=wW hS d;obtain⟨L1,hL1,a1⟩:=Xg hS [] (D:=bz s d++[d]) (by rw[E8];simp;omega);unfold wH rlS;rw[hs,o8,zY hS h0 h1,o8,IE V6,o8,hL1,o8];rcases EM hv hs with⟨g1,g2,g3⟩|⟨g1,g2,g3,g4,g5⟩
 .rw[g2];refine⟨L1,rfl,λq n=>?_⟩;rw[a1,g1];show(false || _)=_;simp
 .rw[g2,g3];simp only[o6,o8,J7];have hM:=hL.sc _ g5;have hml:=RN hS d;rw[g4,o8,Qa hS h0 h1,o8];have hfl:=a6V s (bf l s) d;have hdl:=b0Q hS hM d;obtain⟨L2,hL2,b1⟩:=Xg hM L1 (D:=(mbS s d).foldl (λ(acc:d1v) x=>acc++[x]++bz (bf l s) x) []) (by rw[hfl];omega);refine⟨L2,?_,λq n=>?_⟩
  .refine aZ (mbS s d) (λ(acc:d1v) x=>acc++[x]++bz (bf l s) x) (λb i=>(b,i)) (λb=>b) (λi acc=>acc.length<=15*i) [] l9 A7 (λi x acc hx hi hI=>?_) (λacc _=>?_) (λ_=>?_)
   .have hlt:=(X6.1 hx).1;have hin:=a4L hv hk.2.2.2 d x (iO hx);have htm:=wW hM x;have hg:U0 (mbS s d) (U9 (i:Int))=some x:=by unfold U0 U9;simpa using hx
    refine⟨?_,by simp only[E8,dA];omega⟩;simp only[H6 hx,o7,E5,hx,o8,hg];rw[IE V6,o8,zY hM hin.1 hin.2,o8,IE V6,o8,Y1 (show i<=9000000000000000000 by omega)]
   .simp only[G6];rfl
   .rw[hL2];rfl
  .rw[b1,a1,hfl,g1];show((false || _) || _)=_;simp
theorem a8R(hD:D.length<=1000000)(x:Int):Pq D x=some (a0A D x):=by
 unfold Pq a0A;refine U8 (wZ D (λd=>x8 d x) true PUnit.unit hD (λi a ha=>?_) ?_) ?_
 .simp only[H6 ha,o7,E5,ha,o8];cases x8 a x<;>rfl
 .rw[G6];rfl
 .cases D.any (λd=>x8 d x)<;>rfl
theorem VA(hS:SmS s)(hD:D.length<=1000000)(n:d1x):zT s D n=some (dfS s D n):=by
 have hn:=hS.nr;unfold zT dfS;refine U8 (wZ s.2.2.2.2 (λr=>seq r.1 n&&a0A D r.2.1) true PUnit.unit l9 (λi a ha=>?_) ?_) ?_
 .simp only[H6 ha,o7,E5,ha,o8,a8R hD];cases seq a.1 n<;>cases a0A D a.2.1<;>rfl
 .rw[G6];rfl
 .cases s.2.2.2.2.any (λr=>seq r.1 n&&a0A D r.2.1)<;>rfl
theorem SE(hL:SmL l)(hv:(iM l).1=0)(hs:F9 l.2.2 k=some s)(q n:d1x):vk l k d q n=some (rlS l s d q n):=by
 have hk:=qw hs;have hS:=hL.sc s hk.2.2.1;have ht:=wW hS d;unfold vk rlS;rw[hs,o8,xU hS,o8,IE V6,o8];simp only[VA hS (D:=bz s d++[d]) (by rw[E8];simp;omega),o8];cases h1:(seq s.1 q&&dfS s (bz s d++[d]) n)
 case true=>rw[A8]at h1;rw[h1.1,h1.2];rfl
 have key:∀(A:Unit),l7 (seq s.1 q) (l7 (dfS s (bz s d++[d]) n) (some (Sum.inr true)) (some (Sum.inl PUnit.unit))) (some (Sum.inl PUnit.unit))=(some (Sum.inl PUnit.unit):Option (PUnit.{1}⊕Bool)):=λ_=>by
  cases h2:seq s.1 q
  .rfl
  .rw[h2,gu]at h1;rw[h1];rfl
 rw[key ()];simp only[o8,J7,lg];rcases EM hv hs with⟨g1,g2,g3⟩|⟨g1,g2,g3,g4,g5⟩
 .rw[g2,g1];rfl
 .rw[g2,g1];have hM:=hL.sc _ g5;have hml:=RN hS d;have hdl:=b0Q hS hM d;simp only[o6,gu];rw[g4,o8,NM hS,o8];have hfl:=a6V s (bf l s) d;refine aZ (mbS s d) (λ(acc:d1v) x=>acc++[x]++bz (bf l s) x) (λb i=>(b,i)) (λb=>b) (λi acc=>acc.length<=15*i) [] l9 A7 (λi x acc hx hi hI=>?_) (λacc _=>?_) (λ_=>?_)
  .have hlt:=(X6.1 hx).1;have htm:=wW hM x;have hg:U0 (mbS s d) (U9 (i:Int))=some x:=by unfold U0 U9;simpa using hx
   refine⟨?_,by simp only[E8,dA];omega⟩;simp only[H6 hx,o7,E5,hx,o8,hg];rw[IE V6,o8,xU hM,o8,IE V6,o8,Y1 (show i<=9000000000000000000 by omega)]
  .simp only[G6];rfl
  .rw[hfl,VA hM l9,o8];cases seq (bf l s).1 q<;>rfl
def rvR(a:U5)(s:D6)(b:U5)(t:D6)(d:Int)(x:iZ):Bool:=
 l7 (D7 (x8 x.2.2 2)) (l7 (rlS a s d x.1 x.2.1) true (l7 (D7 (x8 x.2.2 1)) (rlS b t d x.1 x.2.1) false)) (l7 (D7 (x8 x.2.2 1)) (rlS b t d x.1 x.2.1) false)
theorem a4k(hA:SmL a)(hB:SmL b)(hC:SmC c)(tA:∀t∈a.2.1,xB t)(tB:∀t∈b.2.1,xB t)(k d:Int):
  ∃r,xO a b k c d=some r/\Ep a b k c d=some r/\r.1.2.2.2.2.length<=120000:=by
 unfold xO Ep;rw[Ot hA,o8,Ot hB,o8,Ld hA,o8,Ld hB,o8];have zA:=VQ a;have zB:=VQ b;unfold b4B at zA zB;rw[zA,zB];cases vA:x8 (iM a).1 0
 .exact⟨_,rfl,rfl,dF _⟩
 cases vB:x8 (iM b).1 0
 .exact⟨_,rfl,rfl,dF _⟩
 simp only[D8,o6,o8,J7];have hvA:=Y5.1 vA;have hvB:=Y5.1 vB;cases hr:b5v a k d
 .unfold b5v at hr;cases h1:D9 k 0
  case true=>exact⟨_,rfl,rfl,dF _⟩
  rw[h1]at hr;cases h2:J5 (o9 a.2.2) k
  case true=>exact⟨_,rfl,rfl,dF _⟩
  rw[h2]at hr;cases h3:D9 d 0
  case true=>exact⟨_,rfl,rfl,dF _⟩
  rw[h3]at hr;simp only[o6]at hr ⊢;obtain⟨s,hs⟩:∃s,F9 a.2.2 k=some s:=XK (qc.2 (iI.1 h1)) (kz.2 (GL.1 h2));rw[hs]at hr ⊢;simp only[o8]at hr ⊢;cases h4:J5 (o9 s.2.2.2.1) d<;>rw[h4]at hr
  .cases hr
  .exact⟨_,rfl,rfl,dF _⟩
 obtain⟨s,hs,h0,h1⟩:=b2m hr;obtain⟨k0,k1,_,_⟩:=qw hs;rw[J9 k0,Y4 k1,J9 h0,hs];simp only[o6,o8];rw[Y4 (show d<o9 s.2.2.2.1 from h1)];simp only[o6,o8,J7];rw[UF b hA tA hvA,o8,SG b hA tA hvA,o8];cases hsi:siS a b
 .exact⟨_,rfl,rfl,dF _⟩
 simp only[D8,o6];obtain⟨t,ht,e⟩:=b2Y hsi hs;have e4:s.2.2.2.1=t.2.2.2.1:=congrArg (·.2.2.2) e;obtain⟨LA,hLA,eA⟩:=VH hA hvA hs h0 h1;obtain⟨LB,hLB,eB⟩:=VH hB hvB ht h0 (by unfold nD at h1 ⊢;rw[←e4];exact h1);have hcl:=b0b hA hB;have e0:=Rt (rvR a s b t d) (VW a b) [];rw[H8]at e0;refine⟨(((evS a k c d).1,(evS b k c d).1,(evS a k c d).2,(evS b k c d).2,(VW a b).filter (rvR a s b t d)),0),?_,?_,iw (aF _ _) hcl⟩
 .rw[Rk hA hC tA,o8,Rk hB hC tB,o8,hLA,o8,hLB,o8,VV hA hB,o8];refine aZ (VW a b) (λ(acc:List iZ) x=>l7 (rvR a s b t d x) (acc++[x]) acc) (λacc i=>(((evS a k c d).1,(evS b k c d).1,(evS a k c d).2,(evS b k c d).2,acc),i)) (λacc=>((evS a k c d).1,(evS b k c d).1,(evS a k c d).2,(evS b k c d).2,acc)) (λi acc=>acc.length<=i) [] l9 A7 (λi x acc hx hi hI=>?_) (λacc _=>?_) (λ_=>by rw[e0])
  .have hg:U0 (VW a b) (U9 (i:Int))=some x:=by unfold U0 U9;simpa using hx
   refine⟨?_,by cases rvR a s b t d x<;>simp[l7]<;>omega⟩;simp only[H6 hx,o7,E5,hx,o8,hg,IE (show acc.length+[x].length<=1073741824 by simp;omega),Y1 (show i<=9000000000000000000 by omega)];rw[show AY (λ(a b:bW)=>aj (seq a.1 b.1) (seq a.2 b.2)) LA (x.1,x.2.1) false=rlS a s d x.1 x.2.1 from eA _ _,show AY (λ(a b:bW)=>aj (seq a.1 b.1) (seq a.2 b.2)) LB (x.1,x.2.1) false=rlS b t d x.1 x.2.1 from eB _ _];unfold rvR;cases x8 x.2.2 2<;>cases x8 x.2.2 1<;>cases rlS a s d x.1 x.2.1<;>cases rlS b t d x.1 x.2.1<;>rfl
  .simp only[G6];rfl
 .rw[VB hA hC tA,o8,VB hB hC tB,o8,Uo hA hB,o8];have vA2:=b0l a k c d;have vB2:=b0l b k c d;rw[vA2,vB2];refine aZ (VW a b) (λ(acc:List iZ) x=>l7 (rvR a s b t d x) (acc++[x]) acc) (λacc i=>(((edS a k c d).1,(edS b k c d).1,(edS a k c d).2.2.1,(edS b k c d).2.2.1,acc),i)) (λacc=>((edS a k c d).1,(edS b k c d).1,(edS a k c d).2.2.1,(edS b k c d).2.2.1,acc)) (λi acc=>acc.length<=i) [] l9 A7 (λi x acc hx hi hI=>?_) (λacc _=>?_) (λ_=>by rw[e0])
  .have hg:U0 (VW a b) (U9 (i:Int))=some x:=by unfold U0 U9;simpa using hx
   refine⟨?_,by cases rvR a s b t d x<;>simp[l7]<;>omega⟩;simp only[H6 hx,o7,E5,hx,o8,hg,IE (show acc.length+[x].length<=1073741824 by simp;omega),Y1 (show i<=9000000000000000000 by omega),SE hA hvA hs,SE hB hvB ht];unfold rvR;cases x8 x.2.2 2<;>cases x8 x.2.2 1<;>cases rlS a s d x.1 x.2.1<;>cases rlS b t d x.1 x.2.1<;>rfl
  .simp only[G6];rfl
theorem a3y{a:List iZ}(b:List iZ)(h:a.length<=1000000):CY a b=some (eqB a b):=by
 unfold CY;rw[←yE];refine KJ (λx=>x) (λ(x y:iZ)=>aj (seq x.1 y.1) (aj (seq x.2.1 y.2.1) (x8 x.2.2 y.2.2)))
  (λx y=>by simp only[wz,Y5,fK,kC]) h (λi x y hx hy=>?_) ?_
 .simp only[E5,hx,hy,o8]
 .simp only[G6];rfl
theorem a1k{x:Aa}(h:x.2.2.2.2.length<=1000000):IZ x x=some true:=by unfold IZ;rw[a3y _ h,Ey rfl];simp only[O8 (rfl:x.1.1=x.1.1),O8 (rfl:x.1.2.1=x.1.2.1),O8 (rfl:x.1.2.2=x.1.2.2),O8 (rfl:x.2.1.1=x.2.1.1),O8 (rfl:x.2.1.2.1=x.2.1.2.1),O8 (rfl:x.2.1.2.2=x.2.1.2.2),O8 (rfl:x.2.2.1=x.2.2.1),O8 (rfl:x.2.2.2.1=x.2.2.2.1)];rfl
theorem a1V(wA:WfL a)(wB:WfL b)(k:Int)(c:ig)(d:Int):zq (a,b) k c d=some true:=by
 unfold zq;rw[a5C,o8,a8i];cases ha:smL a
 .rfl
 cases hb:smL b
 .rfl
 cases hc:smC c
 .rfl
 obtain⟨hA,tA⟩:=b3a ha wA;obtain⟨hB,tB⟩:=b3a hb wB;have hC:=b8q hc;simp only[gu,D8,o6];obtain⟨r,h1,h2,h3⟩:=a4k hA hB hC tA tB k d;rw[h1,o8,h2,o8,a1k l9,o8,o7,O8 rfl];rfl
end
end Go.GP
namespace Go.GP
open Gt
theorem QI:∀x,a3Z Gt.ps3 x->(Gt.s3.fn x:d1A)=some true:=λx h=>a1V (b6R h.1.1) (b6R h.1.2) x.2.1 x.2.2.1 x.2.2.2
end Go.GP
