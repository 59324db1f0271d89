import Derived.Test.YtejkgoefeafhnaaGreatDoorT4
set_option linter.all false
namespace Go.GP
open Gt
set_option maxRecDepth 100000
section
def aN(n:Int):Int:=if n<0 then -n else n
def upS(q r d:Int)(neg:Bool)(mode:Int):Bool:=l9 (x8 r 0) false (l9 (x8 mode 0) neg (l9 (x8 mode 1) (F8 neg) (l9 (x8 mode 3) true (l9 (x8 mode 4) (L8 (d -r) r) (l9 (x8 mode 5) (l9 (E8 (d -r) r) true (l9 (x8 r (d -r)) (x8 (fC q 2) 1) false)) false)))))
def q1(q:Int)(u:Bool):Int:=l9 u (q+1) q
def sg(q:Int)(neg:Bool):Int:=l9 neg (-q) q
def qp(m:Int):Bool:=l9 (L8 0 m) (L8 m 5) false
theorem Fq(m:Int):uT m=some (qp m):=by unfold uT qp;cases L8 0 m<;>rfl
theorem Vw(m:Int):JJ m=some (qp m):=Fq m
theorem Yj(m:Int):EH m=some (qp m):=Fq m
def lN(n m:Int):Bool:=l9 (E8 m n) true (E8 n (-m))
variable {m:Int}
theorem yD(n:Int)(h0:0<=m)(h:m<=9000000000000000000):qc n m=some (lN n m):=by unfold qc lN;rw[X4 U7,show(0:Int) -m=-m by omega];cases E8 m n<;>rfl
theorem wC(n:Int)(h0:0<=m)(h:m<=9000000000000000000):kV n m=some (lN n m):=yD n h0 h
theorem BI(n:Int)(h0:0<=m)(h:m<=9000000000000000000):zK n m=some (lN n m):=yD n h0 h
theorem zI(n:Int)(h0:0<=m)(h:m<=9000000000000000000):mf n m=some (lN n m):=yD n h0 h
variable {n:Int}
theorem rO(h:lN n m=false):-m<=n/\n<=m:=by
 unfold lN at h;cases h1:E8 m n<;>rw[h1]at h
 .rw[iE]at h1;simp only[o6]at h;rw[iE]at h;omega
 .cases h
theorem a7j(h:lN n m=true):n< -m\/m<n:=by
 unfold lN at h;cases h1:E8 m n<;>rw[h1]at h
 .simp only[o6]at h;rw[jF]at h;omega
 .rw[jF]at h1;omega
theorem Uz :lN n m=true↔n< -m\/m<n:=by
 constructor
 .exact a7j
 .intro h;cases hq:lN n m
  .have:=rO hq;omega
  .rfl
theorem QW(h:-m<=n/\n<=m):lN n m=false:=by
 cases hq:lN n m
 .rfl
 .have:=a7j hq;omega
theorem Ey(h:-9000000000000000000<=n)(h2:n<=9000000000000000000):oK n=some (aN n):=by
 unfold oK aN;by_cases h0:n<0
 .rw[U8 h0,if_pos h0,o7];congr 1;show IntKind.wrap .u64 (0 -IntKind.wrap .u64 n)=_;rw[BQ,BQ];omega
 .rw[N7 l7,if_neg h0,o6,show wrap .u64 n=n from HY l7 l7]
theorem RI(h:-9000000000000000000<=n)(h2:n<=9000000000000000000):DJ n=some (aN n):=by
 unfold DJ aN;by_cases h0:n<0
 .rw[U8 h0,if_pos h0,X4 U7];simp
 .rw[N7 l7,if_neg h0];rfl
variable {q:Int}
theorem a2L(neg:Bool)(h0:0<=q)(h:q<=9000000000000000000):Ez q neg=some (sg q neg):=by unfold Ez sg;rw[show wrap .i64 q=q from nK U7,X4 U7,show(0:Int) -q=-q by omega];cases neg<;>rfl
theorem Yo{q r d:Int}(neg:Bool)(mode:Int)(hq:0<=q)(hq2:q<=9000000000000000000)(hr:0<=r)(hrd:r<d)(hd:d<=9000000000000000000):qw q r d neg mode=some (q1 q (upS q r d neg mode)):=by
 unfold qw upS q1;rw[show D5 .u64 q 1=q+1 from HY l7 l7,show L6 .u64 d r=d -r from HY l7 l7];cases x8 r 0
 case true=>rfl
 cases x8 mode 0
 case true=>cases neg<;>rfl
 cases x8 mode 1
 case true=>cases neg<;>rfl
 cases x8 mode 3
 case true=>rfl
 cases x8 mode 4
 case true=>cases L8 (d -r) r<;>rfl
 cases x8 mode 5
 .rfl
 cases E8 (d -r) r
 case true=>rfl
 cases x8 r (d -r)
 .rfl
 cases x8 (fC q 2) 1<;>rfl
theorem a6u{q r d:Int}(neg:Bool)(mode:Int)(hr:0<=r)(hrd:r<d)(hd:d<=9000000000000000000):Gy q r d neg mode=some (upS q r d neg mode):=by
 unfold Gy upS;rw[show L6 .u64 d r=d -r from HY l7 l7];cases x8 r 0
 case true=>rfl
 cases x8 mode 0
 case true=>rfl
 cases x8 mode 1
 case true=>rfl
 cases x8 mode 3
 case true=>rfl
 cases x8 mode 4
 case true=>rfl
 cases x8 mode 5
 .rfl
 cases E8 (d -r) r
 case true=>rfl
 cases x8 r (d -r)<;>rfl
theorem GZ{q r d:Int}(neg:Bool)(mode:Int)(hq:0<=q)(hq2:q<=9000000000000000000)(hr:0<=r)(hrd:r<d)(hd:d<=9000000000000000000):qf q r d neg mode=some (sg (q1 q (upS q r d neg mode)) neg):=by
 unfold qf upS q1 sg;rw[ai (show kP (q+1) by unfold kP;omega),X4 (show kP (d -r) by unfold kP;omega),X4 (show kP (0 -(q+1)) by unfold kP;omega),X4 (show kP (0 -q) by unfold kP;omega),show(0:Int) -(q+1)=-(q+1) by omega,show(0:Int) -q=-q by omega];by_cases hz:r=0
 .rw[N9 hz,N7 (show r<=0 by omega),Y9 (show r<d -r by omega),N7 (show r<=d -r by omega),O9 (show r≠d -r by omega)];cases x8 mode 0<;>cases x8 mode 1<;>cases x8 mode 3<;>cases x8 mode 4<;>cases x8 mode 5<;>cases neg<;>rfl
 .rw[O9 hz,U8 (show 0<r by omega)];cases x8 mode 0
  case true=>cases neg<;>rfl
  cases x8 mode 1
  case true=>cases neg<;>rfl
  cases x8 mode 3
  case true=>cases neg<;>rfl
  cases x8 mode 4
  case true=>cases L8 (d -r) r<;>cases neg<;>rfl
  cases x8 mode 5
  .cases neg<;>rfl
  cases E8 (d -r) r
  case true=>cases neg<;>rfl
  cases x8 r (d -r)
  .cases neg<;>rfl
  cases x8 (fC q 2) 1<;>cases neg<;>rfl
theorem mZ(n:Int):0<=aN n:=by unfold aN;split<;>omega
theorem Ak(h:-m<=n/\n<=m):aN n<=m:=by unfold aN;split<;>omega
theorem Qa(h:n≠0):0<aN n:=by unfold aN;split<;>omega
def rnd(n d mode:Int):Int:=sg (q1 (aN n / aN d) (upS (aN n / aN d) (aN n % aN d) (aN d) (F8 (jY (E8 n 0) (E8 d 0))) mode)) (F8 (jY (E8 n 0) (E8 d 0)))
def a7s(n d mode:Int):Int×Int:=l9 (qp mode) (l9 (x8 d 0) (0,12) (l9 (lN n 4611686018427387904) (0,3) (l9 (lN d 4611686018427387904) (0,3) (rnd n d mode,0)))) (0,1)
theorem a0d(q:Int)(u:Bool):q<=q1 q u/\q1 q u<=q+1:=by unfold q1;cases u<;>simp only[o7,o6]<;>omega
theorem KN(n d mode:Int):kH n d mode=some (a7s n d mode):=by
 unfold kH a7s;rw[Fq,o8];cases qp mode
 .rfl
 simp only[E5,o6,o7];cases hd:x8 d 0
 case true=>rfl
 rw[yO]at hd;simp only[o6];rw[yD n l7 l7,o8];cases h1:lN n 4611686018427387904
 case true=>rfl
 simp only[o6];rw[yD d l7 l7,o8];cases h2:lN d 4611686018427387904
 case true=>rfl
 have b1:=rO h1;have b2:=rO h2;have a1:=mZ n;have a2:=Ak b1;have a3:=Qa hd;have a4:=Ak b2;have e0:=Z8 a1 (show 0<=aN d by omega);have e1:=fF (aN d) a1;have e2:=W9 (aN n) (show aN d≠0 by omega);have e3:=U4 (aN n) a3;have q:=a0d (aN n / aN d) (upS (aN n / aN d) (aN n % aN d) (aN d) (F8 (jY (E8 n 0) (E8 d 0))) mode);simp only[o6];rw[Ey l7 l7,o8,Ey l7 l7,o8,Rj a1 l7 a3,o8,Dy a1 a3,o8,Yo _ _ e0 l7 e2 e3 l7,o8,a2L _ l7 l7];rfl
theorem yF{a b:Int}(ha:0<=a)(ha' :a<=9000000000000000000)(hb:0<b):rC .i64 a b=some (a / b):=by unfold rC;rw[if_neg l7,kL ha];have h1:=Z8 ha (show 0<=b by omega);have h2:=fF b ha;rw[nK U7]
theorem a3N(n d mode:Int):EI n d mode=some (a7s n d mode):=by
 unfold EI a7s;rw[Vw,o8];cases qp mode
 .rfl
 simp only[E5,o6,o7];cases hd:x8 d 0
 case true=>rfl
 rw[yO]at hd;simp only[o6];rw[wC n l7 l7,o8];cases h1:lN n 4611686018427387904
 case true=>rfl
 simp only[o6];rw[wC d l7 l7,o8];cases h2:lN d 4611686018427387904
 case true=>rfl
 have b1:=rO h1;have b2:=rO h2;have a1:=mZ n;have a2:=Ak b1;have a3:=Qa hd;have a4:=Ak b2;have e0:=Z8 a1 (show 0<=aN d by omega);have e1:=fF (aN d) a1;have e2:=W9 (aN n) (show aN d≠0 by omega);have e3:=U4 (aN n) a3;simp only[o6];rw[RI l7 l7,o8,RI l7 l7,o8,yF a1 l7 a3,o8,Dy a1 a3,o8,GZ _ _ e0 l7 e2 e3 l7];rfl
def toS(c u mode:Int):Int×Int:=l9 (qp mode) (l9 (E8 u 1) (0,12) (l9 (lN c 1000000000000000) (0,3) (l9 (E8 1000000000000000 u) (0,3) (l9 (lN (az .i64 (rnd c u mode) u) 1000000000000000) (0,3) (az .i64 (rnd c u mode) u,0))))) (0,1)
theorem a8v(c u mode:Int):BH c u mode=some (toS c u mode):=by
 unfold BH toS;rw[Fq,o8];cases hm:qp mode
 .rfl
 simp only[E5,o6,o7];cases hu:E8 u 1
 case true=>rfl
 rw[iE]at hu;simp only[o6];rw[yD c l7 l7,o8];cases h1:lN c 1000000000000000
 case true=>rfl
 have b1:=rO h1;simp only[o6];cases h2:E8 1000000000000000 u
 case true=>rfl
 rw[iE]at h2;simp only[o6];have n1:lN c 4611686018427387904=false:=QW l7;have n2:lN u 4611686018427387904=false:=QW l7;rw[KN,o8];unfold a7s;rw[hm,O9 (show u≠0 by omega),n1,n2];simp only[o7,o6,N9 (rfl:(0:Int)=0),E5];rw[yD _ l7 l7,o8];cases lN (az .i64 (rnd c u mode) u) 1000000000000000<;>rfl
theorem a6e(c u mode:Int):Gz c u mode=some (toS c u mode):=by
 unfold Gz toS;rw[Vw,o8];cases hm:qp mode
 .rfl
 simp only[E5,o6,o7];cases hu:E8 u 1
 case true=>rfl
 rw[iE]at hu;simp only[o6];rw[wC c l7 l7,o8];cases h1:lN c 1000000000000000
 case true=>rfl
 have b1:=rO h1;simp only[o6];cases h2:E8 1000000000000000 u
 case true=>rfl
 rw[iE]at h2;simp only[o6];have a1:=mZ c;have a2:=Ak b1;have hu' :aN u=u:=by unfold aN;rw[if_neg l7]
 have e0:=Z8 a1 (show 0<=u by omega);have e1:=fF u a1;have e2:=W9 (aN c) (show u≠0 by omega);have e3:=U4 (aN c) (show 0<u by omega);rw[RI l7 l7,o8,yF a1 l7 l7,o8,Dy a1 l7,o8,GZ _ _ e0 l7 e2 e3 l7,o8];have hr:sg (q1 (aN c / u) (upS (aN c / u) (aN c % u) u (E8 c 0) mode)) (E8 c 0)=rnd c u mode:=by unfold rnd;rw[hu',show F8 (jY (E8 c 0) (E8 u 0))=E8 c 0 by rw[N7 (show(0:Int)<=u by omega)];cases E8 c 0<;>rfl]
 rw[hr,wC _ l7 l7,o8];cases lN (az .i64 (rnd c u mode) u) 1000000000000000<;>rfl
def mdS(c num den mode:Int):Int×Int:=l9 (qp mode) (l9 (x8 den 0) (0,12) (l9 (lN c 1000000000000000) (0,3) (l9 (lN num 1000000000) (0,3) (l9 (lN den 1000000000) (0,3)
 (l9 (E8 1000000000000000 (q1 (aN c*aN num / aN den) (upS (aN c*aN num / aN den) (aN c*aN num % aN den) (aN den) (F8 (jY (F8 (jY (E8 c 0) (E8 num 0))) (E8 den 0))) mode))) (0,3)
  (sg (q1 (aN c*aN num / aN den) (upS (aN c*aN num / aN den) (aN c*aN num % aN den) (aN den) (F8 (jY (F8 (jY (E8 c 0) (E8 num 0))) (E8 den 0))) mode)) (F8 (jY (F8 (jY (E8 c 0) (E8 num 0))) (E8 den 0))),0)))))) (0,1)
theorem Vf{a b:Int}(a0:0<=a)(a1:a<18446744073709551616)(b0:0<=b)(b1:b<18446744073709551616):wV a b=some (a*b / 18446744073709551616,a*b % 18446744073709551616):=by unfold wV;rw[if_pos ⟨a0,a1,b0,b1⟩]
theorem b1E(c num den mode:Int):Ir c num den mode=some (mdS c num den mode):=by
 unfold Ir mdS;rw[Fq,o8];cases qp mode
 .rfl
 simp only[E5,o6,o7];cases hd:x8 den 0
 case true=>rfl
 rw[yO]at hd;simp only[o6];rw[yD c l7 l7,o8];cases h1:lN c 1000000000000000
 case true=>rfl
 rw[yD num l7 l7];cases h2:lN num 1000000000
 case true=>rfl
 rw[yD den l7 l7];cases h3:lN den 1000000000
 case true=>rfl
 have b1:=rO h1;have b2:=rO h2;have b3:=rO h3;have a1:=mZ c;have a2:=Ak b1;have x1:=mZ num;have x2:=Ak b2;have d1:=Qa hd;have d2:=Ak b3;simp only[o6,o8,U1];rw[Ey l7 l7,o8,Ey l7 l7,o8,Vf a1 l7 x1 l7,o8,Ey l7 l7,o8];have hA:0<=aN c*aN num:=X5 a1 x1;generalize aN c*aN num=A at*;generalize aN den=b at*;have hre:A / 18446744073709551616*18446744073709551616+A % 18446744073709551616=A:=l7;have q:=a0d (A / b) (upS (A / b) (A % b) b (F8 (jY (F8 (jY (E8 c 0) (E8 num 0))) (E8 den 0))) mode);have hdm:=Y5 A b;have e2:=W9 A (show b≠0 by omega);have e3:=U4 A d1;have e0:=Z8 hA (show 0<=b by omega);by_cases hh:b<=A / 18446744073709551616
 .have hge:18446744073709551616<=A / b:=tJ d1 l7;rw[Y3 hh,U8 (show(1000000000000000:Int)<q1 (A / b) (upS (A / b) (A % b) b (F8 (jY (F8 (jY (E8 c 0) (E8 num 0))) (E8 den 0))) mode) by omega)];rfl
 .rw[Y9 l7,o6,ZQ l7 l7 l7 l7 l7,o8,hre];simp only;by_cases hM:1000000000000000<A / b
  .rw[U8 hM,U8 (show(1000000000000000:Int)<q1 (A / b) (upS (A / b) (A % b) b (F8 (jY (F8 (jY (E8 c 0) (E8 num 0))) (E8 den 0))) mode) by omega)];rfl
  .rw[N7 l7,o6,Yo _ _ e0 l7 e2 e3 l7,o8];cases hq:E8 1000000000000000 (q1 (A / b) (upS (A / b) (A % b) b (F8 (jY (F8 (jY (E8 c 0) (E8 num 0))) (E8 den 0))) mode))
   .rw[iE]at hq;rw[o6,a2L _ l7 l7];rfl
   .rfl
theorem b3m(h:0<=q)(neg:Bool)(hm:0<=m):lN (sg q neg) m=E8 m q:=by rw[fV,Uz,jF];unfold sg;cases neg<;>simp only[o7,o6]<;>omega
theorem a8m(c num den mode:Int):Ou c num den mode=some (mdS c num den mode):=by
 unfold Ou mdS;rw[Vw,o8];cases qp mode
 .rfl
 simp only[E5,o6,o7];cases hd:x8 den 0
 case true=>rfl
 rw[yO]at hd;simp only[o6];rw[wC c l7 l7,o8];cases h1:lN c 1000000000000000
 case true=>rfl
 rw[wC num l7 l7];cases h2:lN num 1000000000
 case true=>rfl
 rw[wC den l7 l7];cases h3:lN den 1000000000
 case true=>rfl
 have b1:=rO h1;have b2:=rO h2;have b3:=rO h3;have a1:=mZ c;have a2:=Ak b1;have x1:=mZ num;have x2:=Ak b2;have d1:=Qa hd;have d2:=Ak b3;simp only[o6,o8,U1];rw[RI l7 l7,o8,RI l7 l7,o8,RI l7 l7,o8];generalize F8 (jY (F8 (jY (E8 c 0) (E8 num 0))) (E8 den 0))=neg;generalize aN c=a at*;generalize aN num=x at*;generalize aN den=b at*;have hdm:=Y5 a b;have f0:=Z8 a1 (show 0<=b by omega);have f1:=W9 a (show b≠0 by omega);have f2:=U4 a d1;have m1:0<=a % b*x:=X5 f1 x1;have m2:a % b*x<=1000000000*1000000000:=lg l7 x2 x1 l7;have m3:0<=a / b*x:=X5 f0 x1;have hA:a*x=a / b*x*b+a % b*x:=by
  calc a*x=(a / b*b+a % b)*x:=by rw[hdm]
   _=_:=by rw[iY,jR]
 have hQ:a*x / b=a / b*x+a % b*x / b:=by rw[hA,Int.add_comm,bH _ _ l7,Int.add_comm]
 have hR:a*x % b=a % b*x % b:=by rw[hA,Int.add_comm,dD]
 have g0:=Z8 m1 (show 0<=b by omega);have g1:=fF b m1;have g2:=W9 (a % b*x) (show b≠0 by omega);have g3:=U4 (a % b*x) d1;have tail:a / b*x<=1000000000000000->(o5 (Bc a b) λ(x_5:Int)=>o5 (some (a / b)) λ(x_8:Int)=>o5 (rC .i64 (az .i64 x_5 x) b) λ(x_6:Int)=>o5 (Bc (az .i64 x_5 x) b) λ(x_7:Int)=>
   o5 (qf (D5 .i64 (az .i64 x_8 x) x_6) x_7 b neg mode) λ(x_9:Int)=>o5 (kV x_9 1000000000000000) λ(x_8:Bool)=>l9 x_8 (some ((0:Int),(3:Int))) (some (x_9,0)))=
   some (l9 (E8 1000000000000000 (q1 (a*x / b) (upS (a*x / b) (a*x % b) b neg mode))) (0,3) (sg (q1 (a*x / b) (upS (a*x / b) (a*x % b) b neg mode)) neg,0)):=by
  intro hle;have q:=a0d (a / b*x+a % b*x / b) (upS (a / b*x+a % b*x / b) (a % b*x % b) b neg mode);rw[Dy a1 d1,o8,o8,og (show kP (a % b*x) by unfold kP;omega),yF m1 l7 d1,o8,Dy m1 d1,o8,og (show kP (a / b*x) by unfold kP;omega),ai (show kP (a / b*x+a % b*x / b) by unfold kP;omega),
   GZ _ _ l7 l7 g2 g3 l7,o8,wC _ l7 l7,o8,b3m l7 _ l7,hQ,hR]
  cases E8 1000000000000000 (q1 (a / b*x+a % b*x / b) (upS (a / b*x+a % b*x / b) (a % b*x % b) b neg mode))<;>rfl
 by_cases hx:0<x
 .rw[U8 hx,o7,yF a1 l7 d1,o8,yF l7 l7 hx,o8];have hMx:=Y5 1000000000000000 x;have hMr:=U4 1000000000000000 hx;have hMr0:=W9 1000000000000000 (show x≠0 by omega);by_cases hc:1000000000000000 / x<a / b
  .have:=U9 (show 1000000000000000 / x+1<=a / b by omega) x1;rw[iY,gm]at this;have q:=a0d (a*x / b) (upS (a*x / b) (a*x % b) b neg mode);rw[U8 hc,U8 (show(1000000000000000:Int)<q1 (a*x / b) (upS (a*x / b) (a*x % b) b neg mode) by omega)];rfl
  .have:=U9 (show a / b<=1000000000000000 / x by omega) x1;rw[N7 l7,o6];exact tail l7
 .have:x=0:=l7;rw[N7 l7,o6,yF a1 l7 d1];exact tail (by subst this;simp)
theorem b3e(c r mode:Int):JI c r mode=some (mdS c r 1000000 mode):=by unfold JI;rw[b1E];rfl
theorem b1Z(c r mode:Int):Lc c r mode=some (mdS c r 1000000 mode):=by unfold Lc;rw[a8m];rfl
variable {d:Int}
theorem a5h(h1:-9000000000000000000<=n)(h2:n<=9000000000000000000)(hd:0<d)(hd2:d<=9000000000000000000):DK n d=some (n / d,n % d):=by
 unfold DK rC Bc;rw[if_neg l7,if_neg l7,o8,o8];by_cases h0:0<=n
 .have e0:=Z8 h0 (show 0<=d by omega);have e1:=fF d h0;have e2:=W9 n (show d≠0 by omega);rw[kL h0,fU h0,nK U7,N7 e2];rfl
 .obtain⟨m,hm⟩:∃m,m=-n:=⟨_,rfl⟩;have hn:n=-m:=l7;subst hn;have e0:=Z8 (show 0<=m by omega) (show 0<=d by omega);have e1:=fF d (show 0<=m by omega);have e2:=W9 m (show d≠0 by omega);have e3:=U4 m hd;have hdm:=Y5 m d;rw[Int.neg_tdiv,Int.neg_tmod,kL l7,fU l7,nK U7];by_cases hz:m % d=0
  .rw[hz,show -(0:Int)=0 from rfl,N7 l7,o6];have hme:-m=0+(-(m / d))*d:=by rw[kU];omega
   have q1:-m / d=-(m / d):=by rw[hme,bH _ _ l7];simp
   have q2:-m % d=0:=by rw[hme,dD];simp
   rw[q1,q2]
  .rw[U8 l7,o7,X4 U7,ai U7];have hme:-m=(d -m % d)+(-(m / d) -1)*d:=by rw[ng,kU,gm];omega
   have q1:-m / d=-(m / d) -1:=by rw[hme,bH _ _ l7,nO l7 l7];omega
   have q2:-m % d=d -m % d:=by rw[hme,dD,Int.emod_eq_of_lt l7 l7]
   rw[q1,q2,show -(m % d)+d=d -m % d by omega]
theorem KY(h:qp m=true):m=0\/m=1\/m=2\/m=3\/m=4\/m=5:=by
 unfold qp at h;cases h0:L8 0 m<;>rw[h0]at h
 .cases h
 .simp only[o7]at h;rw[iQ]at h0 h;omega
variable {mode:Int}
theorem Lr(h1:-9000000000000000000<=n / d)(h2:n / d<=9000000000000000000)(hd:0<d)(hd2:d<=9000000000000000000)(hm:qp mode=true):eU (n / d) (n % d) d mode=some (rnd n d mode):=by
 have hdm:=Y5 n d;have f0:=W9 n (show d≠0 by omega);have f1:=U4 n hd;have hid:aN d=d:=by unfold aN;rw[if_neg l7]
 have hneg:F8 (jY (E8 n 0) (E8 d 0))=E8 n 0:=by rw[N7 (show(0:Int)<=d by omega)];cases E8 n 0<;>rfl
 unfold rnd;rw[hid,hneg];have R0:∀F R:Int,eU F R d 0=l9 (x8 R 0) (some F) (some F):=λF R=>rfl;have R1:∀F R:Int,eU F R d 1=l9 (x8 R 0) (some F) (some (D5 .i64 F 1)):=λF R=>rfl;have R2:∀F R:Int,eU F R d 2=l9 (x8 R 0) (some F) (o5 (l9 (E8 F 0) (some true) (some false)) λx=>l9 x (some (D5 .i64 F 1)) (some F)):=λF R=>rfl;have R3:∀F R:Int,eU F R d 3=l9 (x8 R 0) (some F) (o5 (some (L8 0 F)) λx=>l9 x (some (D5 .i64 F 1)) (some F)):=λF R=>rfl;have R4:∀F R:Int,eU F R d 4=l9 (x8 R 0) (some F) (l9 (x8 R (L6 .i64 d R)) (l9 (L8 0 F) (some (D5 .i64 F 1)) (some F)) (l9 (E8 (L6 .i64 d R) R) (some (D5 .i64 F 1)) (some F))):=λF R=>rfl;have R5:∀F R:Int,eU F R d 5=l9 (x8 R 0) (some F) (l9 (x8 R (L6 .i64 d R)) (l9 (F8 (x8 (fC F 2) 0)) (some (D5 .i64 F 1)) (some F)) (l9 (E8 (L6 .i64 d R) R) (some (D5 .i64 F 1)) (some F))):=λF R=>rfl;have u0:∀q r:Int,∀b,upS q r d b 0=l9 (x8 r 0) false b:=λq r b=>rfl;have u1:∀q r:Int,∀b,upS q r d b 1=l9 (x8 r 0) false (F8 b):=λq r b=>rfl;have u2:∀q r:Int,∀b,upS q r d b 2=l9 (x8 r 0) false false:=λq r b=>rfl;have u3:∀q r:Int,∀b,upS q r d b 3=l9 (x8 r 0) false true:=λq r b=>rfl;have u4:∀q r:Int,∀b,upS q r d b 4=l9 (x8 r 0) false (L8 (d -r) r):=λq r b=>rfl;have u5:∀q r:Int,∀b,upS q r d b 5=l9 (x8 r 0) false (l9 (E8 (d -r) r) true (l9 (x8 r (d -r)) (x8 (fC q 2) 1) false)):=λq r b=>rfl;by_cases h0:0<=n
 .have e0:=Z8 h0 (show 0<=d by omega);have e1:=fF d h0;rw[show aN n=n by unfold aN;rw[if_neg l7],N7 h0];have hi:D5 .i64 (n / d) 1=n / d+1:=ai U7;have hs:L6 .i64 d (n % d)=d -n % d:=X4 U7;have hir:fC (n / d) 2=(n / d) % 2:=zD e0;generalize n / d=F at*;generalize n % d=R at*;rcases KY hm with rfl|rfl|rfl|rfl|rfl|rfl
  .rw[R0,u0];cases x8 R 0<;>rfl
  .rw[R1,u1,hi];cases x8 R 0<;>rfl
  .rw[R2,u2,hi,N7 e0];cases x8 R 0<;>rfl
  .rw[R3,u3,hi,Y3 e0];cases x8 R 0<;>rfl
  .rw[R4,u4,hi,hs,Y3 e0];cases x8 R 0
   case true=>rfl
   by_cases ht:R=d -R
   .rw[N9 ht,Y3 (show d -R<=R by omega)];rfl
   .rw[O9 ht];by_cases hl:d -R<R
    .rw[U8 hl,Y3 (show d -R<=R by omega)];rfl
    .rw[N7 (show R<=d -R by omega),Y9 (show R<d -R by omega)];rfl
  .rw[R5,u5,hi,hs,hir];cases x8 R 0
   case true=>rfl
   by_cases ht:R=d -R
   .rw[N9 ht,N7 (show R<=d -R by omega)];by_cases hp:F % 2=0
    .rw[N9 hp,O9 (show F % 2≠1 by omega)];rfl
    .rw[O9 hp,N9 (show F % 2=1 by omega)];rfl
   .rw[O9 ht];by_cases hl:d -R<R
    .rw[U8 hl];rfl
    .rw[N7 (show R<=d -R by omega)];rfl
 .obtain⟨m,hmm⟩:∃m,m=-n:=⟨_,rfl⟩;have e0:=Z8 (show 0<=m by omega) (show 0<=d by omega);have e1:=fF d (show 0<=m by omega);have e2:=W9 m (show d≠0 by omega);have e3:=U4 m hd;have hdm2:=Y5 m d;rw[show aN n=m by unfold aN;rw[if_pos l7];omega,U8 l7];by_cases hz:m % d=0
  .have hne:n=0+(-(m / d))*d:=by rw[kU];omega
   have q1:n / d=-(m / d):=by rw[hne,bH _ _ l7];simp
   have q2:n % d=0:=by rw[hne,dD];simp
   rw[q1,q2,hz];rcases KY hm with rfl|rfl|rfl|rfl|rfl|rfl<;>rfl
  .have hne:n=(d -m % d)+(-(m / d) -1)*d:=by rw[ng,kU,gm];omega
   have q1:n / d=-(m / d) -1:=by rw[hne,bH _ _ l7,nO l7 l7];omega
   have q2:n % d=d -m % d:=by rw[hne,dD,Int.emod_eq_of_lt l7 l7]
   rw[q1]at h1 h2;rw[q1,q2];generalize m / d=q at*;generalize m % d=r at*;have hi:D5 .i64 (-q -1) 1=-q:=by rw[ai U7];omega
   have hs:L6 .i64 d (d -r)=r:=by rw[X4 U7];omega
   have hF:∀k:Int,Go.GP.q1 q false=q/\Go.GP.q1 q true=q+1:=λk=>⟨rfl,rfl⟩;have sg1:sg (Go.GP.q1 q true) true=-q -1:=by show -(q+1)=-q -1;omega
   have sg0:sg (Go.GP.q1 q false) true=-q:=rfl;have hr0:x8 (d -r) 0=false:=O9 l7;have hr1:x8 r 0=false:=O9 hz;rcases KY hm with rfl|rfl|rfl|rfl|rfl|rfl
   .rw[R0,u0,hr0,hr1,o6,o6,sg1]
   .rw[R1,u1,hi,hr0,hr1,o6,o6,E5,sg0]
   .rw[R2,u2,hi,hr0,hr1,o6,o6,sg0,U8 l7];rfl
   .rw[R3,u3,hi,hr0,hr1,o6,o6,sg1,Y9 l7];rfl
   .rw[R4,u4,hi,hs,hr0,hr1,o6,o6,Y9 (show -q -1<0 by omega)];by_cases ht:d -r=r
    .rw[N9 ht,Y3 (show d -r<=r by omega),sg1];rfl
    .rw[O9 ht];by_cases hl:r<d -r
     .rw[U8 hl,Y9 hl,sg0];rfl
     .rw[N7 (show d -r<=r by omega),Y3 (show d -r<=r by omega),sg1];rfl
   .rw[R5,u5,hi,hs,hr0,hr1,o6,o6];by_cases ht:d -r=r
    .rw[N9 ht,N7 (show r<=d -r by omega),N9 ht.symm];have hodd:fC (-q -1) 2=-((q+1) % 2):=by
      unfold fC;rw[show -q -1=-(q+1) by omega,Int.neg_tmod,fU l7]
     have hir:fC q 2=q % 2:=zD e0;rw[hodd,hir];simp only[o7,o6];by_cases hp:q % 2=1
     .rw[N9 (show -((q+1) % 2)=0 by omega),N9 hp,sg1];rfl
     .rw[O9 (show -((q+1) % 2)≠0 by omega),O9 hp,sg0];rfl
    .rw[O9 ht,O9 (show r≠d -r by omega)];by_cases hl:r<d -r
     .rw[U8 hl,N7 (show r<=d -r by omega)];simp only[o7,o6];rw[sg0]
     .rw[N7 (show d -r<=r by omega),U8 (show d -r<r by omega)];simp only[o7,o6];rw[sg1]
def b0y(a b mode:Int):Int×Int:=l9 (qp mode) (l9 (lN a 1000000000) (0,3) (l9 (lN b 1000000000) (0,3) (l9 (lN (rnd (a*b) 1000000 mode) 1000000000) (0,3) (rnd (a*b) 1000000 mode,0)))) (0,1)
theorem b0p{a b A B:Int}(h1:-A<=a/\a<=A)(h2:-B<=b/\b<=B):-(A*B)<=a*b/\a*b<=A*B:=by
 have hA:0<=A:=l7;have hB:0<=B:=l7;have k1:a*b<=A*B/\-(A*B)<=a*b:=by
  rcases Sz a 0 with ha|ha
  .have e:a*b=-((-a)*b):=by rw[kU];omega
   rcases Sz b 0 with hb|hb
   .have e2:a*b=(-a)*(-b):=by rw[Int.neg_mul_neg]
    have:=lg (show -a<=A by omega) (show -b<=B by omega) l7 hA;have:=X5 (show 0<=-a by omega) (show 0<=-b by omega);have:=X5 hA hB;omega
   .have:=lg (show -a<=A by omega) h2.2 hb hA;have:=X5 (show 0<=-a by omega) hb;have:=X5 hA hB;omega
  .rcases Sz b 0 with hb|hb
   .have e:a*b=-(a*(-b)):=by rw[Int.mul_neg];omega
    have:=lg h1.2 (show -b<=B by omega) l7 hA;have:=X5 ha (show 0<=-b by omega);have:=X5 hA hB;omega
   .have:=lg h1.2 h2.2 hb hA;have:=X5 ha hb;have:=X5 hA hB;omega
 exact⟨k1.2,k1.1⟩
theorem b8O(a b mode:Int):Qq a b mode=some (b0y a b mode):=by
 unfold Qq b0y;rw[Yj,o8];cases hm:qp mode
 .rfl
 simp only[E5,o6,o7];rw[BI a l7 l7,o8];cases h1:lN a 1000000000
 case true=>rfl
 simp only[o6];rw[BI b l7 l7,o8];cases h2:lN b 1000000000
 case true=>rfl
 simp only[o6];have pb:=b0p (rO h1) (rO h2);rw[og U7,KN,o8];unfold a7s;rw[hm,O9 (show(1000000:Int)≠0 by decide),QW l7,QW l7];simp only[o7,o6,N9 (rfl:(0:Int)=0),E5];rw[BI _ l7 l7,o8];cases lN (rnd (a*b) 1000000 mode) 1000000000<;>rfl
theorem a5J{A B:Option (PUnit⊕(Int×Int))} :l9 (E8 m 0) A (l9 (E8 5 m) A B)=l9 (qp m) B A:=by unfold qp;rw[rX m 0,rX 5 m];cases L8 0 m<;>cases L8 m 5<;>rfl
theorem b5D(a b mode:Int):RN a b mode=some (b0y a b mode):=by
 unfold RN b0y;have hmode:∀A B:Option (Int×Int),l9 (E8 mode 0) A (l9 (E8 5 mode) A B)=l9 (qp mode) B A:=λA B=>by unfold qp;rw[rX mode 0,rX 5 mode];cases L8 0 mode<;>cases L8 mode 5<;>rfl
 rw[hmode];cases hm:qp mode
 .rfl
 simp only[o7];rw[zI a l7 l7,o8];cases h1:lN a 1000000000
 case true=>rfl
 simp only[o6];rw[zI b l7 l7,o8];cases h2:lN b 1000000000
 case true=>rfl
 simp only[o6];have pb:=b0p (rO h1) (rO h2);rw[og U7,a5h l7 l7 l7 l7,o8];simp only;rw[Lr l7 l7 l7 l7 hm,o8,zI _ l7 l7,o8];cases lN (rnd (a*b) 1000000 mode) 1000000000<;>rfl
theorem a8u(mode:Int)(hd:0<d):n / d<=rnd n d mode/\rnd n d mode<=n / d+1:=by
 have hid:aN d=d:=by unfold aN;rw[if_neg l7]
 have hneg:F8 (jY (E8 n 0) (E8 d 0))=E8 n 0:=by rw[N7 (show(0:Int)<=d by omega)];cases E8 n 0<;>rfl
 unfold rnd;rw[hid,hneg];by_cases h0:0<=n
 .rw[show aN n=n by unfold aN;rw[if_neg l7],N7 h0];exact a0d _ _
 .obtain⟨m,hmm⟩:∃m,m=-n:=⟨_,rfl⟩;have e2:=W9 m (show d≠0 by omega);have e3:=U4 m hd;have hdm2:=Y5 m d;rw[show aN n=m by unfold aN;rw[if_pos l7];omega,U8 l7];have hq:=a0d (m / d) (upS (m / d) (m % d) d true mode);by_cases hz:m % d=0
  .have hne:n=0+(-(m / d))*d:=by rw[kU];omega
   have q1:n / d=-(m / d):=by rw[hne,bH _ _ l7];simp
   have hu:upS (m / d) (m % d) d true mode=false:=by unfold upS;rw[N9 hz];rfl
   rw[q1,hu];show -(m / d)<=-(m / d)/\-(m / d)<=-(m / d)+1;omega
  .have hne:n=(d -m % d)+(-(m / d) -1)*d:=by rw[ng,kU,gm];omega
   have q1:n / d=-(m / d) -1:=by rw[hne,bH _ _ l7,nO l7 l7];omega
   rw[q1];show -(m / d) -1<=-(Go.GP.q1 _ _)/\-(Go.GP.q1 _ _)<=_;omega
theorem b8P(n d mode:Int)(hd:d<0):rnd n d mode=rnd (-n) (-d) mode:=by
 have e1:aN (-n)=aN n:=by unfold aN;split<;>split<;>omega
 have e2:aN (-d)=aN d:=by unfold aN;rw[if_neg l7,if_pos hd]
 unfold rnd;rw[e1,e2,U8 hd,N7 (show 0<=-d by omega)];by_cases h0:n=0
 .subst h0;have hz:aN 0=0:=rfl;rw[hz,Int.zero_ediv,Int.zero_emod];have hu:∀b,upS 0 0 (aN d) b mode=false:=λb=>rfl;rw[hu,hu];rfl
 .by_cases h1:n<0
  .rw[U8 h1,N7 (show 0<=-n by omega)];rfl
  .rw[N7 l7,U8 (show -n<0 by omega)];rfl
def b8C(num den mode:Int):Int×Int:=l9 (qp mode) (l9 (x8 den 0) (0,12) (l9 (lN num 1000000000000000) (0,3) (l9 (lN den 1000000000000000) (0,3) (l9 (lN (rnd (num*1000000) den mode) 1000000000) (0,3) (rnd (num*1000000) den mode,0))))) (0,1)
theorem UO(h:-9000000000000000000<=n)(h2:n<=9000000000000000000):wrap .u64 (pW n (L6 .i64 0 n))=aN n:=by
 rw[X4 U7];unfold pW aN;by_cases h0:n<0
 .rw[if_pos l7,if_pos h0,show(0:Int) -n=-n by omega];exact HY l7 l7
 .rw[if_neg h0];by_cases hz:n=0
  .subst hz;rfl
  .rw[if_neg l7];exact HY l7 l7
theorem a3i(num den mode:Int):zJ num den mode=some (b8C num den mode):=by
 unfold zJ b8C;rw[Yj,o8];cases hm:qp mode
 .rfl
 simp only[E5,o6,o7];cases hd:x8 den 0
 case true=>rfl
 rw[yO]at hd;simp only[o6];rw[BI num l7 l7,o8];cases h1:lN num 1000000000000000
 case true=>rfl
 simp only[o6];rw[BI den l7 l7,o8];cases h2:lN den 1000000000000000
 case true=>rfl
 simp only[o6];have b1:=rO h1;have b2:=rO h2;have a1:=mZ num;have a2:=Ak b1;have d1:=Qa hd;have d2:=Ak b2;rw[UO l7 l7,UO l7 l7,Vf a1 l7 l7 l7,o8];have hN:aN (num*1000000)=aN num*1000000:=by unfold aN;split<;>split<;>omega
 have hsgn:E8 (num*1000000) 0=E8 num 0:=by
  by_cases h:num<0
  .rw[U8 h,U8 l7]
  .rw[N7 l7,N7 l7]
 have hA:0<=aN num*1000000:=l7;have hrn:rnd (num*1000000) den mode=sg (q1 (aN num*1000000 / aN den) (upS (aN num*1000000 / aN den) (aN num*1000000 % aN den) (aN den) (F8 (jY (E8 num 0) (E8 den 0))) mode)) (F8 (jY (E8 num 0) (E8 den 0))):=by unfold rnd;rw[hN,hsgn]
 rw[hrn];have hA2:aN num*1000000<18446744073709551616*1000:=l7;generalize aN num*1000000=A at*;generalize aN den=b at*;generalize F8 (jY (E8 num 0) (E8 den 0))=neg at*;have hre:A / 18446744073709551616*18446744073709551616+A % 18446744073709551616=A:=l7;have q:=a0d (A / b) (upS (A / b) (A % b) b neg mode);have e0:=Z8 hA (show 0<=b by omega);have e2:=W9 A (show b≠0 by omega);have e3:=U4 A d1;rw[b3m l7 _ l7];by_cases hh:b<=A / 18446744073709551616
 .have hge:18446744073709551616<=A / b:=tJ d1 l7;rw[Y3 hh,U8 (show(1000000000:Int)<q1 (A / b) (upS (A / b) (A % b) b neg mode) by omega)];rfl
 .rw[Y9 l7,o6,ZQ l7 l7 l7 l7 l7,o8,hre];simp only;by_cases hM:1000000000<A / b
  .rw[U8 hM,U8 (show(1000000000:Int)<q1 (A / b) (upS (A / b) (A % b) b neg mode) by omega)];rfl
  .have w1:wrap .i64 (A / b)=A / b:=nK U7;have w2:D5 .i64 (A / b) 1=A / b+1:=ai U7;have w3:L6 .i64 0 (A / b+1)=-(A / b+1):=by rw[X4 U7];omega
   have w4:L6 .i64 0 (A / b)=-(A / b):=by rw[X4 U7];omega
   rw[N7 l7,o6,a6u _ _ e2 e3 l7,o8,w1,w2,w3,w4];unfold Go.GP.q1 sg;cases upS (A / b) (A % b) b neg mode
   .simp only[o6];cases E8 1000000000 (A / b)<;>cases neg<;>rfl
   .simp only[o7];cases E8 1000000000 (A / b+1)<;>cases neg<;>rfl
theorem a0k(h1:-1000000000000000<=n)(h2:n<=1000000000000000)(hd:0<d)(hd2:d<=1000000000000000)(hm:qp mode=true):
  (o5 (DK n d) λ(x:Int×Int)=>o5 (mf x.1 1001) λ(x_1:Bool)=>l9 x_1 (some ((0:Int),(3:Int))) (o5 (rC .i64 (az .i64 x.2 1000) d) λ(x_2:Int)=>o5 (Bc (az .i64 x.2 1000) d) λ(x_3:Int)=>
   o5 (rC .i64 (az .i64 x_3 1000) d) λ(x_4:Int)=>o5 (Bc (az .i64 x_3 1000) d) λ(x_5:Int)=>o5 (eU (D5 .i64 (D5 .i64 (az .i64 x.1 1000000) (az .i64 x_2 1000)) x_4) x_5 d mode) λ(x:Int)=>
    o5 (mf x 1000000000) λ(x_6:Bool)=>l9 x_6 (some (0,3)) (some (x,0))))=some (l9 (lN (rnd (n*1000000) d mode) 1000000000) (0,3) (rnd (n*1000000) d mode,0)):=by
 have hdm:=Y5 n d;have r0:=W9 n (show d≠0 by omega);have r1:=U4 n hd;have hrb:=a8u (n:=n*1000000) mode hd;rw[a5h l7 l7 hd l7,o8];simp only;rw[zI _ l7 l7,o8];have hN:n*1000000=n % d*1000000+(n / d*1000000)*d:=by rw[jR];omega
 have hF:n*1000000 / d=n % d*1000000 / d+n / d*1000000:=by rw[hN,bH _ _ l7]
 have hR:n*1000000 % d=n % d*1000000 % d:=by rw[hN,dD]
 have s0:0<=n % d*1000000 / d:=Z8 l7 l7;have s1:n % d*1000000 / d<1000000:=oh hd l7;cases hb:lN (n / d) 1001
 case true=>have hbb:=a7j hb;have:lN (rnd (n*1000000) d mode) 1000000000=true:=Uz.2 l7;rw[this];rfl
 have bb:=rO hb;simp only[o6];generalize n % d=r at*;generalize n / d=q at*;have t1:az .i64 r 1000=r*1000:=og U7;have e1:=Y5 (r*1000) d;have e2:=W9 (r*1000) (show d≠0 by omega);have e3:=U4 (r*1000) hd;have e4:=Z8 (show 0<=r*1000 by omega) (show 0<=d by omega);have e5:r*1000 / d<1000:=oh hd l7;rw[t1,yF l7 l7 hd,o8,Dy l7 hd,o8];generalize hr1:r*1000 % d=r1 at*;generalize ha:r*1000 / d=a at*;have t2:az .i64 r1 1000=r1*1000:=og U7;have f1:=Y5 (r1*1000) d;have f2:=W9 (r1*1000) (show d≠0 by omega);have f3:=U4 (r1*1000) hd;have f4:=Z8 (show 0<=r1*1000 by omega) (show 0<=d by omega);have f5:r1*1000 / d<1000:=oh hd l7;rw[t2,yF l7 l7 hd,o8,Dy l7 hd,o8];have hr6:r*1000000=r1*1000+(a*1000)*d:=by rw[jR];omega
 have hF2:r*1000000 / d=r1*1000 / d+a*1000:=by rw[hr6,bH _ _ l7]
 have hR2:r*1000000 % d=r1*1000 % d:=by rw[hr6,dD]
 rw[og (show kP (q*1000000) by unfold kP;omega),og (show kP (a*1000) by unfold kP;omega),ai (show kP (q*1000000+a*1000) by unfold kP;omega),ai (show kP (q*1000000+a*1000+r1*1000 / d) by unfold kP;omega)];rw[show q*1000000+a*1000+r1*1000 / d=n*1000000 / d by rw[hF,hF2];omega,show r1*1000 % d=n*1000000 % d by rw[hR,hR2]];rw[Lr (by rw[hF];omega) (by rw[hF];omega) hd l7 hm,o8,zI _ l7 l7,o8];cases lN (rnd (n*1000000) d mode) 1000000000<;>rfl
theorem a1t(num den mode:Int):CG num den mode=some (b8C num den mode):=by
 unfold CG b8C;rw[a5J];cases hm:qp mode
 .rfl
 simp only[o7,o8,U1];cases hd:x8 den 0
 case true=>rfl
 rw[yO]at hd;simp only[o6];rw[zI num l7 l7,o8];cases h1:lN num 1000000000000000
 case true=>rfl
 simp only[o6];rw[zI den l7 l7,o8];cases h2:lN den 1000000000000000
 case true=>rfl
 simp only[o6];have b1:=rO h1;have b2:=rO h2;by_cases hn:den<0
 .rw[U8 hn,o7,X4 (show kP (0 -num) by unfold kP;omega),X4 (show kP (0 -den) by unfold kP;omega),show(0:Int) -num=-num by omega,show(0:Int) -den=-den by omega,b8P _ _ _ hn,show -(num*1000000)=-num*1000000 by rw[kU]];exact a0k l7 l7 l7 l7 hm
 .rw[N7 l7,o6];exact a0k l7 l7 l7 l7 hm
def GR(len n:Int):Int×Int×Bool:=l9 (E8 1000000000000000 (len*aN n / 1000000)) (0,0,false) (l9 (E8 n 0) (-(len*aN n / 1000000),-(len*aN n % 1000000),true) (len*aN n / 1000000,len*aN n % 1000000,true))
variable {len:Int}
theorem b8d(h1:1<=len)(h2:len<=1000000000000000)(hn:kP n):yu len n=some (GR len n):=by
 unfold kP at hn;have key:∀m:Int,m=aN n->(o5 (wV (wrap .u64 len) m) λ(x:Int×Int)=>l9 (L8 1000000 x.1) (some ((0:Int),(0:Int),false)) (o5 (oJ x.1 x.2 1000000) λ(x:Int×Int)=>l9 (E8 1000000000000000 x.1) (some (0,0,false))
   (l9 (E8 n 0) (some (L6 .i64 0 (wrap .i64 x.1),L6 .i64 0 (wrap .i64 x.2),true)) (some (wrap .i64 x.1,wrap .i64 x.2,true)))))=some (GR len n):=by
  intro m hm;have m0:=mZ n;have m1:m<=9223372036854775808:=by rw[hm];unfold aN;split<;>omega
  rw[←hm]at m0;rw[show wrap .u64 len=len from HY l7 l7,Vf l7 l7 m0 l7,o8];unfold GR;rw[←hm];have hA:0<=len*m:=X5 l7 m0;generalize len*m=A at*;have hre:A / 18446744073709551616*18446744073709551616+A % 18446744073709551616=A:=l7;simp only;by_cases hh:1000000<=A / 18446744073709551616
  .rw[Y3 hh,U8 (show(1000000000000000:Int)<A / 1000000 by omega)];rfl
  .rw[Y9 l7,o6,ZQ l7 l7 l7 l7 l7,o8,hre];simp only;by_cases hM:1000000000000000<A / 1000000
   .rw[U8 hM];rfl
   .rw[N7 l7,o6,o6,show wrap .i64 (A / 1000000)=A / 1000000 from nK U7,show wrap .i64 (A % 1000000)=A % 1000000 from nK U7,X4 U7,X4 U7,
     show(0:Int) -A / 1000000=-(A / 1000000) by omega,show(0:Int) -A % 1000000=-(A % 1000000) by omega]
    cases E8 n 0<;>rfl
 unfold yu;by_cases h0:n<0
 .have hk:=key (L6 .u64 0 (wrap .u64 n)) (by
   show IntKind.wrap .u64 (0 -IntKind.wrap .u64 n)=_;unfold aN;rw[if_pos h0,BQ,BQ];omega)
  rw[U8 h0]at hk ⊢;exact hk
 .have hk:=key (wrap .u64 n) (by
   show IntKind.wrap .u64 n=_;unfold aN;rw[if_neg h0,BQ];omega)
  rw[N7 l7]at hk ⊢;exact hk
theorem b5z(h1:1<=len)(h2:len<=1000000000000000)(hn:kP n):Dp len n=some (GR len n):=by
 unfold kP at hn;have hm:(l9 (E8 n 0) (some (D5 .u64 (wrap .u64 (L6 .i64 0 (D5 .i64 n 1))) 1)) (some (wrap .u64 n)))=some (aN n):=by
  by_cases h0:n<0
  .rw[U8 h0,o7,ai U7,X4 U7,show wrap .u64 (0 -(n+1))=-n -1 from(HY l7 l7).trans l7,show D5 .u64 (-n -1) 1=-n from(HY l7 l7).trans l7];unfold aN;rw[if_pos h0]
  .rw[N7 l7,o6,show wrap .u64 n=n from HY l7 l7];unfold aN;rw[if_neg h0]
 have m0:=mZ n;have m1:aN n<=9223372036854775808:=by unfold aN;split<;>omega
 unfold Dp GR;rw[hm,o8];generalize aN n=m at*;have c1:dM .u64 m 1000000=m / 1000000:=by unfold dM;rw[kL m0,HY l7 l7]
 have c2:fC m 1000000=m % 1000000:=zD m0;have c3:wrap .i64 (m / 1000000)=m / 1000000:=nK U7;have c4:wrap .i64 (m % 1000000)=m % 1000000:=nK U7;have c5:dM .i64 len 1000000=len / 1000000:=by rw[zC (by rw[kL l7];unfold kP;omega),kL l7]
 have c6:fC len 1000000=len % 1000000:=zD l7;rw[c1,c2,c3,c4,c5,c6];have hmd:m=m / 1000000*1000000+m % 1000000:=l7;have b0:0<=m % 1000000:=l7;have b1:m % 1000000<1000000:=l7;have a0:0<=m / 1000000:=l7;have a1:m / 1000000<=9223372036855:=l7;have hA:len*m=(len*(m / 1000000)+len / 1000000*(m % 1000000))*1000000+len % 1000000*(m % 1000000):=by
  have e1:len*m=len*(m / 1000000)*1000000+len*(m % 1000000):=by
   calc len*m=len*(m / 1000000*1000000+m % 1000000):=by rw[←hmd]
    _=_:=by rw[Int.mul_add,Int.mul_assoc]
  have e2:len*(m % 1000000)=len / 1000000*(m % 1000000)*1000000+len % 1000000*(m % 1000000):=by
   calc len*(m % 1000000)=(len / 1000000*1000000+len % 1000000)*(m % 1000000):=by rw[show len / 1000000*1000000+len % 1000000=len by omega]
    _=_:=by rw[iY,jR]
  rw[e1,e2];omega
 have l0:0<=len % 1000000*(m % 1000000):=X5 l7 b0;have l1:len % 1000000*(m % 1000000)<=1000000*1000000:=lg l7 l7 b0 l7;have p0:0<=len / 1000000*(m % 1000000):=X5 l7 b0;have p1:len / 1000000*(m % 1000000)<=1000000000*1000000:=lg l7 l7 b0 l7;have k0:0<=len*(m / 1000000):=X5 l7 a0;have c7:az .i64 (len % 1000000) (m % 1000000)=len % 1000000*(m % 1000000):=og U7;have c8:az .i64 (len / 1000000) (m % 1000000)=len / 1000000*(m % 1000000):=og U7;rw[c7,c8];have hdiv:len*m / 1000000=len*(m / 1000000)+len / 1000000*(m % 1000000)+len % 1000000*(m % 1000000) / 1000000:=by rw[hA];omega
 have hmod:len*m % 1000000=len % 1000000*(m % 1000000) % 1000000:=by rw[hA];omega
 rw[hdiv,hmod];have c9:dM .i64 (len % 1000000*(m % 1000000)) 1000000=len % 1000000*(m % 1000000) / 1000000:=by rw[zC (by rw[kL l0];unfold kP;omega),kL l0]
 have c10:fC (len % 1000000*(m % 1000000)) 1000000=len % 1000000*(m % 1000000) % 1000000:=zD l0;rw[c9,c10];have tail:len*(m / 1000000)<=1000000000000000->l9 (E8 1000000000000000 (D5 .i64 (D5 .i64 (az .i64 len (m / 1000000)) (len / 1000000*(m % 1000000))) (len % 1000000*(m % 1000000) / 1000000))) (some ((0:Int),(0:Int),false))
   (l9 (E8 n 0) (some (L6 .i64 0 (D5 .i64 (D5 .i64 (az .i64 len (m / 1000000)) (len / 1000000*(m % 1000000))) (len % 1000000*(m % 1000000) / 1000000)),L6 .i64 0 (len % 1000000*(m % 1000000) % 1000000),true)) (some (D5 .i64 (D5 .i64 (az .i64 len (m / 1000000)) (len / 1000000*(m % 1000000))) (len % 1000000*(m % 1000000) / 1000000),len % 1000000*(m % 1000000) % 1000000,true)))=
   some (l9 (E8 1000000000000000 (len*(m / 1000000)+len / 1000000*(m % 1000000)+len % 1000000*(m % 1000000) / 1000000)) (0,0,false) (l9 (E8 n 0) (-(len*(m / 1000000)+len / 1000000*(m % 1000000)+len % 1000000*(m % 1000000) / 1000000),-(len % 1000000*(m % 1000000) % 1000000),true) (len*(m / 1000000)+len / 1000000*(m % 1000000)+len % 1000000*(m % 1000000) / 1000000,len % 1000000*(m % 1000000) % 1000000,true))):=by
  intro hle;rw[og (show kP (len*(m / 1000000)) by unfold kP;omega)];generalize len*(m / 1000000)=K at*;generalize len / 1000000*(m % 1000000)=P at*;generalize len % 1000000*(m % 1000000)=L at*;rw[ai (show kP (K+P) by unfold kP;omega),ai (show kP (K+P+L / 1000000) by unfold kP;omega),X4 (show kP (0 -(K+P+L / 1000000)) by unfold kP;omega),X4 (show kP (0 -L % 1000000) by unfold kP;omega),show(0:Int) -(K+P+L / 1000000)=-(K+P+L / 1000000) by omega,show(0:Int) -L % 1000000=-(L % 1000000) by omega];cases E8 1000000000000000 (K+P+L / 1000000)<;>cases E8 n 0<;>rfl
 by_cases ha:0<m / 1000000
 .rw[U8 ha,o7,yF l7 l7 ha,o8];have hMx:=Y5 1000000000000000 (m / 1000000);have hMr:=U4 1000000000000000 ha;have hMr0:=W9 1000000000000000 (show m / 1000000≠0 by omega);by_cases hc:1000000000000000 / (m / 1000000)<len
  .have:=U9 (show 1000000000000000 / (m / 1000000)+1<=len by omega) a0;rw[iY,gm]at this;rw[U8 hc,U8 (show(1000000000000000:Int)<len*(m / 1000000)+len / 1000000*(m % 1000000)+len % 1000000*(m % 1000000) / 1000000 by omega)];rfl
  .have:=U9 (show len<=1000000000000000 / (m / 1000000) by omega) a0;rw[N7 l7,o6];exact tail l7
 .have:m / 1000000=0:=l7;rw[N7 l7,o6];exact tail (by rw[this];simp)
theorem a0u{F R j:Int}(hm:qp mode=true)(h1:-4000000000000000000<=F)(h2:F<=4000000000000000000)(h3:-2000000000000000000<=j)(h4:j<=2000000000000000000)(hR:0<=R)(hR2:R<1000000)(hs:0<=F↔0<=F+2*j):
  eU (F+2*j) R 1000000 mode=(eU F R 1000000 mode).map λv=>v+2*j:=by
 have R0:∀F R:Int,eU F R 1000000 0=l9 (x8 R 0) (some F) (some F):=λF R=>rfl;have R1:∀F R:Int,eU F R 1000000 1=l9 (x8 R 0) (some F) (some (D5 .i64 F 1)):=λF R=>rfl;have R2:∀F R:Int,eU F R 1000000 2=l9 (x8 R 0) (some F) (o5 (l9 (E8 F 0) (some true) (some false)) λx=>l9 x (some (D5 .i64 F 1)) (some F)):=λF R=>rfl;have R3:∀F R:Int,eU F R 1000000 3=l9 (x8 R 0) (some F) (o5 (some (L8 0 F)) λx=>l9 x (some (D5 .i64 F 1)) (some F)):=λF R=>rfl;have R4:∀F R:Int,eU F R 1000000 4=l9 (x8 R 0) (some F) (l9 (x8 R (L6 .i64 1000000 R)) (l9 (L8 0 F) (some (D5 .i64 F 1)) (some F)) (l9 (E8 (L6 .i64 1000000 R) R) (some (D5 .i64 F 1)) (some F))):=λF R=>rfl;have R5:∀F R:Int,eU F R 1000000 5=l9 (x8 R 0) (some F) (l9 (x8 R (L6 .i64 1000000 R)) (l9 (F8 (x8 (fC F 2) 0)) (some (D5 .i64 F 1)) (some F)) (l9 (E8 (L6 .i64 1000000 R) R) (some (D5 .i64 F 1)) (some F))):=λF R=>rfl;have hi:D5 .i64 F 1=F+1:=ai U7;have hi2:D5 .i64 (F+2*j) 1=F+1+2*j:=by rw[ai U7];omega
 have hlt:E8 (F+2*j) 0=E8 F 0:=by
  by_cases h:0<=F
  .rw[N7 h,N7 (hs.1 h)]
  .rw[U8 l7,U8 (by have:=λh' =>h (hs.2 h');omega)]
 have hle:L8 0 (F+2*j)=L8 0 F:=by rw[Gv,Gv,hlt]
 have hpar:x8 (fC (F+2*j) 2) 0=x8 (fC F 2) 0:=by
  unfold fC x8;congr 1;have e1:∀x:Int,x.tmod 2=0↔x % 2=0:=λx=>by rw[←Int.dvd_iff_tmod_eq_zero,Int.dvd_iff_emod_eq_zero]
  simp only[e1];congr 1;omega
 rcases KY hm with rfl|rfl|rfl|rfl|rfl|rfl
 .rw[R0,R0];cases x8 R 0<;>rfl
 .rw[R1,R1,hi,hi2];cases x8 R 0<;>rfl
 .rw[R2,R2,hi,hi2,hlt];cases x8 R 0<;>cases E8 F 0<;>rfl
 .rw[R3,R3,hi,hi2,hle];cases x8 R 0<;>cases L8 0 F<;>rfl
 .rw[R4,R4,hi,hi2,hle];cases x8 R 0<;>cases x8 R (L6 .i64 1000000 R)<;>cases L8 0 F<;>cases E8 (L6 .i64 1000000 R) R<;>rfl
 .rw[R5,R5,hi,hi2,hpar];cases x8 R 0<;>cases x8 R (L6 .i64 1000000 R)<;>cases x8 (fC F 2) 0<;>cases E8 (L6 .i64 1000000 R) R<;>rfl
variable {j:Int}
theorem b2s(hm:qp mode=true)(h1:-4000000000000000000<=n)(h2:n<=4000000000000000000)(h3:-2000000000000000<=j)(h4:j<=2000000000000000)(hs:0<=n↔0<=n+2*j*1000000):rnd (n+2*j*1000000) 1000000 mode=rnd n 1000000 mode+2*j:=by
 have a1:=Lr (n:=n) (d:=1000000) (mode:=mode) l7 l7 l7 l7 hm;have a2:=Lr (n:=n+2*j*1000000) (d:=1000000) (mode:=mode) l7 l7 l7 l7 hm;rw[show(n+2*j*1000000) / 1000000=n / 1000000+2*j by omega,show(n+2*j*1000000) % 1000000=n % 1000000 by omega,
  a0u hm l7 l7 l7 l7 l7 l7 l7,a1]at a2
 exact(I9 a2).symm
def a1C(W L mode:Int):Int×Int:=l9 (lN (rnd (W*1000000+L) 1000000 mode) 1000000000000000) (0,3) (rnd (W*1000000+L) 1000000 mode,0)
theorem a0K{V p L j mode:Int}(hm:qp mode=true)(hV:-2000000000000000<=V)(hV2:V<=2000000000000000)(hp:-3<=p)(hp2:p<=3)(hL:-1000000<L)(hL2:L<1000000)(hj:V -p=2*j)(hs:0<=p*1000000+L↔0<=V*1000000+L):
  (o5 (kH (D5 .i64 (az .i64 p 1000000) L) 1000000 mode) λ(x:Int×Int)=>l9 (F8 (x8 x.2 0)) (some ((0:Int),x.2)) (l9 (E8 (D5 .i64 (L6 .i64 V p) x.1) (-1000000000000000)) (some (0,3)) (l9 (E8 1000000000000000 (D5 .i64 (L6 .i64 V p) x.1)) (some (0,3)) (some (D5 .i64 (L6 .i64 V p) x.1,0)))))=
  some (a1C V L mode):=by
 rw[og (show kP (p*1000000) by unfold kP;omega),ai (show kP (p*1000000+L) by unfold kP;omega),X4 (show kP (V -p) by unfold kP;omega),KN,o8];unfold a7s;rw[hm,O9 (show(1000000:Int)≠0 by decide),QW l7,QW l7];have hb:=a8u (n:=p*1000000+L) (d:=1000000) mode l7;have hsh:=b2s (n:=p*1000000+L) (j:=j) hm l7 l7 l7 l7 (by rw[show p*1000000+L+2*j*1000000=V*1000000+L by omega];exact hs);rw[show p*1000000+L+2*j*1000000=V*1000000+L by omega]at hsh;simp only[o7,o6,N9 (rfl:(0:Int)=0),E5];unfold a1C lN;rw[hsh,hj,ai (show kP (2*j+rnd (p*1000000+L) 1000000 mode) by unfold kP;omega),show rnd (p*1000000+L) 1000000 mode+2*j=2*j+rnd (p*1000000+L) 1000000 mode by omega];cases E8 (2*j+rnd (p*1000000+L) 1000000 mode) (-1000000000000000)<;>cases E8 1000000000000000 (2*j+rnd (p*1000000+L) 1000000 mode)<;>rfl
theorem b0G(hd:0<d):(0<=n->0<=n.tmod d/\n.tmod d<d)/\(n<=0->-d<n.tmod d/\n.tmod d<=0):=by
 refine⟨λh=>?_,λh=>?_⟩
 .rw[fU h];exact⟨W9 n l7,U4 n hd⟩
 .obtain⟨m,hm⟩:∃m,n=-m:=⟨-n,l7⟩;subst hm;rw[Int.neg_tmod,fU l7];have:=W9 m (show d≠0 by omega);have:=U4 m hd;omega
theorem a6t{W L mode:Int}(hm:qp mode=true)(hW:-1000000000000000000<=W)(hW2:W<=1000000000000000000)(hL:-1000000000<=L)(hL2:L<=1000000000):Fj W L mode=some (a1C W L mode):=by
 unfold Fj;have hd:=Int.tdiv_mul_add_tmod L 1000000;have htm:=b0G (n:=L) (d:=1000000) l7;have t1:dM .i64 L 1000000=L.tdiv 1000000:=zC U7;have t2:fC L 1000000=L.tmod 1000000:=rfl;have hr1:-1000000<L.tmod 1000000:=l7;have hr2:L.tmod 1000000<1000000:=l7;rw[t1,t2,ai (show kP (W+L.tdiv 1000000) by unfold kP;omega)];have hT:W*1000000+L=(W+L.tdiv 1000000)*1000000+L.tmod 1000000:=l7;have hsum:a1C W L mode=a1C (W+L.tdiv 1000000) (L.tmod 1000000) mode:=by unfold a1C;rw[hT]
 rw[hsum];have hVb:-2000000000000000000<=W+L.tdiv 1000000/\W+L.tdiv 1000000<=2000000000000000000:=l7;generalize W+L.tdiv 1000000=V at*;generalize L.tmod 1000000=M at*;have hb:=a8u (n:=V*1000000+M) (d:=1000000) mode l7;by_cases c1:V< -2000000000000000
 .rw[U8 c1,o7];unfold a1C;rw[Uz.2 l7];rfl
 by_cases c2:2000000000000000<V
 .rw[N7 l7,o6,U8 c2,o7];unfold a1C;rw[Uz.2 l7];rfl
 rw[N7 l7,o6,N7 l7,o6];have t3:fC V 2=V.tmod 2:=rfl;rw[t3];have hv2:=Int.tdiv_mul_add_tmod V 2;have htv:=b0G (n:=V) (d:=2) l7;by_cases c3:1<V
 .rw[U8 c3,o7,ai (show kP (V.tmod 2+2) by unfold kP;omega)];exact a0K (j:=V.tdiv 2 -1) hm l7 l7 l7 l7 hr1 hr2 l7 l7
 rw[N7 l7,o6];by_cases c4:V< -1
 .rw[U8 c4,o7,X4 (show kP (V.tmod 2 -2) by unfold kP;omega)];exact a0K (j:=V.tdiv 2+1) hm l7 l7 l7 l7 hr1 hr2 l7 l7
 rw[N7 l7,o6];exact a0K (j:=V.tdiv 2) hm l7 l7 l7 l7 hr1 hr2 l7 l7
theorem a1u{W L mode:Int}(hm:qp mode=true)(hW:-1000000000000000000<=W)(hW2:W<=1000000000000000000)(hL:-1000000000<=L)(hL2:L<=1000000000):LX W L mode=some (rnd (W*1000000+L) 1000000 mode):=by
 unfold LX;obtain⟨e,k1,k2⟩:=iJ (f:=λ(x:Int×Int)=>l9 (E8 x.2 0) (some (.inl (L6 .i64 x.1 1,D5 .i64 x.2 1000000))) (some (.inr x)))
  (s:=(W,L)) (λx=>x.1*1000000+x.2=W*1000000+L/\-1000000000<=x.2/\x.2<=1000000000/\-2000000000000000000<=x.1/\x.1<=2000000000000000000) (λx=>x.1*1000000+x.2=W*1000000+L/\0<=x.2/\x.2<=1000000000/\-2000000000000000000<=x.1/\x.1<=2000000000000000000) (λx=>(1000000000 -x.2).toNat) ⟨by rfl,hL,hL2,l7,l7⟩ l7 (by
  rintro⟨a,b⟩ ⟨h1,h2,h3,h4,h5⟩;simp only at h1 h2 h3 h4 h5 ⊢;by_cases hb:b<0
  .left;rw[U8 hb,o7,X4 (show kP (a -1) by unfold kP;omega),ai (show kP (b+1000000) by unfold kP;omega)];exact⟨_,rfl,⟨by simp only;omega,by simp only;omega,by simp only;omega,by simp only;omega,by simp only;omega⟩,by simp only;omega⟩
  .right;rw[N7 l7];exact⟨(a,b),rfl,h1,l7,h3,h4,h5⟩)
 refine(lV k1 _).trans ?_;obtain⟨a,b⟩:=e;simp only at k2;obtain⟨e,l1,l2⟩:=iJ (f:=λ(x:Int×Int)=>l9 (L8 1000000 x.2) (some (.inl (D5 .i64 x.1 1,L6 .i64 x.2 1000000))) (some (.inr x)))
  (s:=(a,b)) (λx=>x.1*1000000+x.2=W*1000000+L/\0<=x.2/\x.2<=1000000000/\-2000000000000000000<=x.1/\x.1<=2000000000000000000) (λx=>x.1=(W*1000000+L) / 1000000/\x.2=(W*1000000+L) % 1000000) (λx=>x.2.toNat) k2 (by simp only;omega) (by
  rintro⟨a,b⟩ ⟨h1,h2,h3,h4,h5⟩;simp only at h1 h2 h3 h4 h5 ⊢;by_cases hb:1000000<=b
  .left;rw[Y3 hb,o7,ai (show kP (a+1) by unfold kP;omega),X4 (show kP (b -1000000) by unfold kP;omega)];exact⟨_,rfl,⟨by simp only;omega,by simp only;omega,by simp only;omega,by simp only;omega,by simp only;omega⟩,by simp only;omega⟩
  .right;rw[Y9 l7];exact⟨(a,b),rfl,by simp only;omega,by simp only;omega⟩)
 refine(lV l1 _).trans ?_;obtain⟨F,R⟩:=e;simp only at l2 ⊢;obtain⟨rfl,rfl⟩:=l2;generalize hT:W*1000000+L=T at*;have hid:aN 1000000=1000000:=rfl;have hneg:F8 (jY (E8 T 0) (E8 1000000 0))=E8 T 0:=by rw[N7 (show(0:Int)<=1000000 by omega)];cases E8 T 0<;>rfl
 by_cases h0:0<=T
 .rw[Y3 (show 0<=T / 1000000 by omega),o7,GZ _ _ l7 l7 l7 l7 l7,o8];unfold rnd;rw[hid,hneg,N7 h0,show aN T=T by unfold aN;rw[if_neg l7]]
 .rw[Y9 (show T / 1000000<0 by omega),o6];unfold rnd;rw[hid,hneg,U8 l7,show aN T=-T by unfold aN;rw[if_pos l7]];by_cases hz:T % 1000000=0
  .rw[N9 hz,o7];have hu:upS (-T / 1000000) (-T % 1000000) 1000000 true mode=false:=by unfold upS;rw[N9 (show -T % 1000000=0 by omega)];rfl
   rw[hu];show some (T / 1000000)=some (-(-T / 1000000));congr 1;omega
  .rw[O9 hz,o6,X4 (show kP (0 -T / 1000000) by unfold kP;omega),X4 (show kP (0 -T / 1000000 -1) by unfold kP;omega),X4 (show kP (1000000 -T % 1000000) by unfold kP;omega),GZ _ _ l7 l7 l7 l7 l7,o8];rw[show 0 -T / 1000000 -1=-T / 1000000 by omega,show 1000000 -T % 1000000=-T % 1000000 by omega]
def a9o(r:FB):Prop:=kP r.2.1/\kP r.2.2.1/\kP r.2.2.2
def qO(t:gz):Prop:=t.2.2.2.length<=200/\∀r∈t.2.2.2,a9o r
theorem a3d(h:(GR len n).2.2=true)(hl:0<=len):-1000000000000000<=(GR len n).1/\(GR len n).1<=1000000000000000/\-1000000<=(GR len n).2.1/\(GR len n).2.1<=1000000:=by
 have hA:0<=len*aN n:=X5 hl (mZ n);unfold GR at*;generalize len*aN n=A at*;cases h1:E8 1000000000000000 (A / 1000000)<;>rw[h1]at h
 .rw[iE]at h1;cases E8 n 0
  .simp only[o6];omega
  .simp only[o6,o7];omega
 .cases h
def brG(date c:Int)(b:Int×Int)(r:FB):(Int×Int)⊕(Int×Int):=l9 (TC r.1 date) (l9 (L8 (ru r.2.2.1 c) (pW r.2.1 0)) (.inl b)
 (l9 (GR (ru r.2.2.1 c -pW r.2.1 0) r.2.2.2).2.2 (.inl (b.1+(GR (ru r.2.2.1 c -pW r.2.1 0) r.2.2.2).1,b.2+(GR (ru r.2.2.1 c -pW r.2.1 0) r.2.2.2).2.1)) (.inr (0,3)))) (.inl b)
def b7Z(t:gz)(date c mode:Int):Int×Int:=l9 (qp mode) (l9 (iV (x8 t.2.1.1 3) (x8 t.2.1.2 0)) (l9 (iV (x8 t.2.2.1.1 4) (x8 t.2.2.1.2 0)) (l9 (lN c 1000000000000000) (0,3)
 (match bD (brG date c) t.2.2.2 (0,0)with| .inl b=>a1C b.1 b.2 mode| .inr r=>r)) (0,8)) (0,8)) (0,1)
def Ze(i:Nat)(b:Int×Int):Prop:=-(1000000000000000*(i:Int))<=b.1/\b.1<=1000000000000000*(i:Int)/\-(1000000*(i:Int))<=b.2/\b.2<=1000000*(i:Int)
theorem Zx{r:FB}{c:Int}(hr:a9o r)(hc:-1000000000000000<=c)(hc2:c<=1000000000000000)(h:L8 (ru r.2.2.1 c) (pW r.2.1 0)=false):L6 .i64 (ru r.2.2.1 c) (pW r.2.1 0)=ru r.2.2.1 c -pW r.2.1 0/\1<=ru r.2.2.1 c -pW r.2.1 0/\ru r.2.2.1 c -pW r.2.1 0<=1000000000000000:=by
 obtain⟨h1,h2,h3⟩:=hr;obtain⟨lo,hlo⟩:∃lo:Int,r.2.1=lo:=⟨_,rfl⟩;obtain⟨hi,hhi⟩:∃hi:Int,r.2.2.1=hi:=⟨_,rfl⟩;rw[hlo]at h h1 ⊢;rw[hhi]at h h2 ⊢;rw[Bl]at h;have a1:0<=pW lo 0:=by unfold pW;split<;>omega
 have a2:ru hi c<=c:=by unfold ru;split<;>omega
 refine⟨X4 U7,l7,l7⟩
variable {i:Nat}
theorem b3p{date c:Int}{r:FB}{b:Int×Int}(hr:a9o r)(hc:-1000000000000000<=c)(hc2:c<=1000000000000000)(hi:i<=200)(hb:Ze i b):∀b',brG date c b r= .inl b' ->Ze (i+1) b' :=by
 intro b' h;unfold Ze at*;unfold brG at h;cases h1:TC r.1 date<;>rw[h1]at h
 .cases h;omega
 simp only[o7]at h;cases h2:L8 (ru r.2.2.1 c) (pW r.2.1 0)<;>rw[h2]at h
 .obtain⟨_,g1,g2⟩:=Zx hr hc hc2 h2;simp only[o6]at h;cases h3:(GR (ru r.2.2.1 c -pW r.2.1 0) r.2.2.2).2.2<;>rw[h3]at h
  .cases h
  .have hbd:=a3d h3 l7;cases h;simp only;omega
 .cases h;omega
theorem a4K{t:gz}(date c mode:Int)(ht:qO t):Ff t date c mode=some (b7Z t date c mode):=by
 unfold Ff b7Z;rw[a5J];cases hm:qp mode
 .rfl
 simp only[o7,o8,U1];cases iV (x8 t.2.1.1 3) (x8 t.2.1.2 0)
 .rfl
 cases iV (x8 t.2.2.1.1 4) (x8 t.2.2.1.2 0)
 .rfl
 simp only[E5,o6,o7,o8,U1];have hbey:∀A B:Option (PUnit⊕(Int×Int)),l9 (E8 c (-1000000000000000)) A (l9 (E8 1000000000000000 c) A B)=l9 (lN c 1000000000000000) A B:=λA B=>by unfold lN;cases E8 c (-1000000000000000)<;>cases E8 1000000000000000 c<;>rfl
 rw[hbey];cases hb:lN c 1000000000000000
 case true=>rfl
 have bb:=rO hb;simp only[o6,o8,U1];refine pJ t.2.2.2 (brG date c) (λb i=>(b.1,b.2,i)) (λb=>b) Ze ((0,0):Int×Int) (by have:=ht.1;omega) (by unfold Ze;simp) (λi r b hr hi hI=>?_) (λb hI=>?_) (λhI=>?_)
 .have hro:=ht.2 r (kw hr);have hlt:=(X6.1 hr).1;have h200:=ht.1;refine⟨?_,b3p hro bb.1 bb.2 l7 hI⟩;simp only[J7 hr,o7,F7,hr,o8,KG];rw[Y4 l7];unfold brG;cases TC r.1 date
  .rfl
  simp only[E5,o6,o7];cases h2:L8 (ru r.2.2.1 c) (pW r.2.1 0)
  case true=>rfl
  obtain⟨g0,g1,g2⟩:=Zx hro bb.1 bb.2 h2;rw[g0,b8d g1 g2 hro.2.2];simp only[o6,o8];cases h3:(GR (ru r.2.2.1 c -pW r.2.1 0) r.2.2.2).2.2
  .rfl
  .have hbd:=a3d h3 l7;unfold Ze at hI;rw[ai U7,ai U7];rfl
 .simp only[J6];rfl
 .cases hf:bD (brG date c) t.2.2.2 (0,0)with
  |inr r=>rfl|inl b=>have:=hI b hf;unfold Ze at this;have h200:=ht.1;simp only[U1];rw[a6t hm l7 l7 l7 l7];rfl
theorem a3L{t:gz}(date c mode:Int)(ht:qO t):JL t date c mode=some (b7Z t date c mode):=by
 unfold JL b7Z;rw[Vw,o8];cases hm:qp mode
 .rfl
 simp only[E5,o6,o7];cases iV (x8 t.2.1.1 3) (x8 t.2.1.2 0)
 .rfl
 cases iV (x8 t.2.2.1.1 4) (x8 t.2.2.1.2 0)
 .rfl
 simp only[E5,o6,o7,o8,U1];rw[wC c l7 l7,o8];cases hb:lN c 1000000000000000
 case true=>rfl
 have bb:=rO hb;simp only[o6];refine pJ t.2.2.2 (brG date c) (λb i=>(b.1,b.2,i)) (λb=>b) Ze ((0,0):Int×Int) (by have:=ht.1;omega) (by unfold Ze;simp) (λi r b hr hi hI=>?_) (λb hI=>?_) (λhI=>?_)
 .have hro:=ht.2 r (kw hr);have hlt:=(X6.1 hr).1;have h200:=ht.1;refine⟨?_,b3p hro bb.1 bb.2 l7 hI⟩;simp only[J7 hr,o7,F7,hr,o8,Om];rw[Y4 l7];unfold brG;cases h2:L8 (ru r.2.2.1 c) (pW r.2.1 0)
  case true=>cases TC r.1 date<;>rfl
  simp only[o6];cases TC r.1 date
  .rfl
  obtain⟨g0,g1,g2⟩:=Zx hro bb.1 bb.2 h2;rw[g0,b5z g1 g2 hro.2.2];simp only[E5,o6,o7,o8];cases h3:(GR (ru r.2.2.1 c -pW r.2.1 0) r.2.2.2).2.2
  .rfl
  .have hbd:=a3d h3 l7;unfold Ze at hI;rw[ai U7,ai U7];rfl
 .simp only[J6];rfl
 .cases hf:bD (brG date c) t.2.2.2 (0,0)with
  |inr r=>rfl|inl b=>have:=hI b hf;unfold Ze at this;have h200:=ht.1;simp only[U1];rw[a1u hm l7 l7 l7 l7,o8,wC _ l7 l7,o8];unfold a1C;cases lN (rnd (b.1*1000000+b.2) 1000000 mode) 1000000000000000<;>rfl
def b8p(r:FB)(date key:Int):Bool:=l9 (TC r.1 date) (l9 (L8 r.2.1 key) (E8 key r.2.2.1) false) false
def XU(rows:List FB)(date key:Int)(i:Nat):Option (Int×Bool):=match rows[i]? with|some r=>l9 (b8p r date key) (some ((i:Int),true)) none|none=>none
def B_(rows:List FB)(date key:Int):Int×Bool:=match ay rows.length (XU rows date key)with|some x=>x|none=>(0,false)
theorem b1v{t:gz}(date key:Int)(ht:t.2.2.2.length<=1000000):IR t date key=some (B_ t.2.2.2 date key):=by
 unfold IR yw B_;rw[ig];refine X9 (uP (p:=XU t.2.2.2 date key) t.2.2.2.length ht PUnit.unit (λi hi=>?_) ?_) ?_
 rotate_left 2
 .cases ay t.2.2.2.length (XU t.2.2.2 date key)<;>rfl
 .have e:=bn hi;simp only[J7 e,o7,F7,e,o8,Ko,KG,XU,b8p];cases TC t.2.2.2[i].1 date
  .rfl
  cases L8 t.2.2.2[i].2.1 key
  .rfl
  cases E8 key t.2.2.2[i].2.2.1<;>rfl
 .simp only[J6];rfl
theorem a8l{t:gz}(date key:Int)(ht:t.2.2.2.length<=1000000):OB t date key=some (B_ t.2.2.2 date key):=by
 unfold OB B_;refine X9 (uP (p:=XU t.2.2.2 date key) t.2.2.2.length ht PUnit.unit (λi hi=>?_) ?_) ?_
 rotate_left 2
 .cases ay t.2.2.2.length (XU t.2.2.2 date key)<;>rfl
 .have e:=bn hi;simp only[J7 e,o7,F7,e,o8,Tf,Om,XU,b8p];cases TC t.2.2.2[i].1 date
  .rfl
  cases L8 t.2.2.2[i].2.1 key
  .rfl
  cases E8 key t.2.2.2[i].2.2.1<;>rfl
 .simp only[J6];rfl
theorem b4f{rows:List FB}{date key i:Int}(h:B_ rows date key=(i,true)):0<=i/\i<o9 rows:=by
 unfold B_ at h;split at h
 .rename_i x hx;subst h;obtain⟨k,hk,hp⟩:=iP hx;unfold XU at hp;split at hp
  .rename_i r hr;cases hmb:b8p r date key<;>rw[hmb]at hp
   .cases hp
   .cases hp;simp only[o9];omega
  .cases hp
 .cases h
abbrev V3:Type:=Int×Int×Int
def Jj(k:Int):Int×Int:=l9 (x8 k 1) (0,1) (l9 (x8 k 2) (-1000000000000,1000000000000) (l9 (x8 k 3) (-1000000000000000,1000000000000000) (l9 (x8 k 4) (-1000000000,1000000000) (l9 (x8 k 5) (0,109572) (l9 (x8 k 6) (0,15) (0,-1))))))
theorem a9D(k:Int):EO k=some (Jj k):=by unfold EO Jj;cases x8 k 1<;>cases x8 k 2<;>cases x8 k 3<;>cases x8 k 4<;>cases x8 k 5<;>cases x8 k 6<;>rfl
def plB(v:V3):Bool:=l9 (L8 (Jj v.1).1 v.2.2) (l9 (L8 v.2.2 (Jj v.1).2) (l9 (x8 v.1 6) (l9 (L8 0 v.2.1) (E8 v.2.1 8) false) (x8 v.2.1 0)) false) false
theorem yK(v:V3):iU v=some (plB v):=by
 unfold iU plB;rw[a9D,o8,rX,rX];cases L8 (Jj v.1).1 v.2.2
 .rfl
 cases L8 v.2.2 (Jj v.1).2
 .rfl
 cases x8 v.1 6
 .rfl
 cases L8 0 v.2.1<;>rfl
theorem Ar(v:V3):iW v=some (plB v):=by
 obtain⟨k,e,n⟩:=v;unfold iW plB;simp only;by_cases h6:k=6
 .subst h6;rw[show Jj 6=(0,15)from rfl,N9 (rfl:(6:Int)=6)];simp only[E5,o6,o8,U1,O9 (show(6:Int)≠1 by decide),O9 (show(6:Int)≠2 by decide),O9 (show(6:Int)≠3 by decide),O9 (show(6:Int)≠4 by decide),O9 (show(6:Int)≠5 by decide),o7];rw[show E8 n 16=L8 n 15 by unfold E8 L8;congr 1;simp;omega];cases L8 0 e<;>cases E8 e 8<;>cases L8 0 n<;>cases L8 n 15<;>rfl
 rw[O9 h6];simp only[aW,o7,o6];by_cases he:e=0
 case neg=>rw[O9 he];simp only[aW,o7,o8,uo];cases L8 (Jj k).1 n<;>cases L8 n (Jj k).2<;>rfl
 rw[N9 he];simp only[E5,o6,o8,U1];by_cases h1:k=1
 .subst h1;rw[show Jj 1=(0,1)from rfl];simp only[N9 (rfl:(1:Int)=1),o7];by_cases n0:n=0
  .subst n0;rfl
  by_cases n1:n=1
  .subst n1;rfl
  rw[O9 n0,O9 n1];by_cases g:0<=n
  .rw[Y3 g,Y9 l7];rfl
  .rw[Y9 l7];rfl
 rw[O9 h1,o6];by_cases h2:k=2
 .subst h2;rw[show Jj 2=(-1000000000000,1000000000000)from rfl,N9 (rfl:(2:Int)=2)];simp only[o7];cases L8 (-1000000000000) n<;>cases L8 n 1000000000000<;>rfl
 rw[O9 h2,o6];by_cases h3:k=3
 .subst h3;rw[show Jj 3=(-1000000000000000,1000000000000000)from rfl,N9 (rfl:(3:Int)=3)];simp only[o7];cases L8 (-1000000000000000) n<;>cases L8 n 1000000000000000<;>rfl
 rw[O9 h3,o6];by_cases h4:k=4
 .subst h4;rw[show Jj 4=(-1000000000,1000000000)from rfl,N9 (rfl:(4:Int)=4)];simp only[o7];cases L8 (-1000000000) n<;>cases L8 n 1000000000<;>rfl
 rw[O9 h4,o6];by_cases h5:k=5
 .subst h5;rw[show Jj 5=(0,109572)from rfl,N9 (rfl:(5:Int)=5)];simp only[o7];cases L8 0 n<;>cases L8 n 109572<;>rfl
 rw[O9 h5,o6,show Jj k=(0,-1) by unfold Jj;rw[O9 h1,O9 h2,O9 h3,O9 h4,O9 h5,O9 h6];rfl];simp only[o6];by_cases g:0<=n
 .rw[Y3 g,Y9 (show(-1:Int)<n by omega)];rfl
 .rw[Y9 (show n<0 by omega)];rfl
def PV(v:V3):Prop:=(∃n,v=(1,0,n)/\(n=0\/n=1))\/(∃n,v=(2,0,n)/\-1000000000000<=n/\n<=1000000000000)\/(∃n,v=(3,0,n)/\-1000000000000000<=n/\n<=1000000000000000)\/(∃n,v=(4,0,n)/\-1000000000<=n/\n<=1000000000)\/(∃n,v=(5,0,n)/\0<=n/\n<=109572)\/(∃e n,v=(6,e,n)/\0<=n/\n<=15)
theorem a8h{v:V3}(h:plB v=true):PV v:=by
 obtain⟨k,e,n⟩:=v;unfold plB at h;simp only at h;cases h1:L8 (Jj k).1 n<;>rw[h1]at h
 .cases h
 cases h2:L8 n (Jj k).2<;>rw[h2]at h
 .cases h
 simp only[o7]at h;rw[iQ]at h1 h2;unfold PV;by_cases k6:k=6
 .subst k6;rw[show Jj 6=(0,15)from rfl]at h1 h2;exact .inr (.inr (.inr (.inr (.inr ⟨e,n,rfl,h1,h2⟩))))
 rw[O9 k6,o6,O5]at h;subst h;by_cases k1:k=1
 .subst k1;rw[show Jj 1=(0,1)from rfl]at h1 h2;exact .inl ⟨n,rfl,by simp only at h1 h2;omega⟩
 by_cases k2:k=2
 .subst k2;exact .inr (.inl ⟨n,rfl,h1,h2⟩)
 by_cases k3:k=3
 .subst k3;exact .inr (.inr (.inl ⟨n,rfl,h1,h2⟩))
 by_cases k4:k=4
 .subst k4;exact .inr (.inr (.inr (.inl ⟨n,rfl,h1,h2⟩)))
 by_cases k5:k=5
 .subst k5;exact .inr (.inr (.inr (.inr (.inl ⟨n,rfl,h1,h2⟩))))
 .rw[show Jj k=(0,-1) by unfold Jj;rw[O9 k1,O9 k2,O9 k3,O9 k4,O9 k5,O9 k6];rfl]at h1 h2;simp only at h1 h2;omega
def Ky(v:V3):V3×Int:=l9 (plB v) (v,0) ((0,0,0),3)
def a0X(v:V3)(c:Int):V3×Int:=l9 (x8 c 0) (Ky v) ((0,0,0),c)
theorem UY(k n:Int):fA k n=some (Ky (k,0,n)):=by unfold fA Ky;rw[yK,o8];cases plB (k,0,n)<;>rfl
theorem b9q(k n c:Int):wH k n c=some (a0X (k,0,n) c):=by
 unfold wH a0X;cases x8 c 0
 .rfl
 simp only[E5,o6,o7];rw[UY];rfl
def c8K(b:Bool):V3×Int:=((1,0,l9 b 1 0),0)
theorem b2e(b:Bool):vU b=some (c8K b):=by cases b<;>rfl
theorem b7K(b:Bool):tq b=some (1,0,l9 b 1 0):=by cases b<;>rfl
theorem b7J(b:Bool):Ky (1,0,l9 b 1 0)=c8K b:=by cases b<;>rfl
def b1h(c:Option (V3×Int)):Option (V3×Int):=o5 c λ(x:V3×Int)=>l9 (F8 (x8 x.2 0)) (some ((0,0,0),x.2)) (o5 (iW x.1) λ(x_1:Bool)=>l9 (F8 x_1) (some ((0,0,0),3)) (some (x.1,0)))
theorem FU(v:V3)(c:Int):b1h (some (v,c))=some (a0X v c):=by
 unfold b1h a0X Ky;simp only[o8];cases x8 c 0
 .rfl
 simp only[E5,o6,o7];rw[Ar,o8];cases plB v<;>rfl
theorem QP(v:V3):a0X v 0=Ky v:=rfl
def EP(n:Int×Int)(args:List V3)(env:aS):Option (V3×Int):=o5 (aZ n args env) λ(x:Bool)=>l9 (F8 x) (some ((0,0,0),8)) (b1h (bf n args env))
def RP(a0:Int×Int)(a1:List V3)(a2:aS):Option (V3×Int):=
 l9 (x8 (o9 a1) 0) (l9 (L8 36 a0.1) (l9 (L8 a0.1 39) (o5 (wG a0 a2) λ(x:V3×Int)=>some x) (o5 (jG a0 a2) λ(x:V3×Int)=>some x)) (o5 (jG a0 a2) λ(x:V3×Int)=>some x))
  (l9 (x8 (o9 a1) 1) (o5 (F9 a1 0) λ(x:V3)=>o5 (sF a0 x a2) λ(x:V3×Int)=>some x)
  (l9 (x8 (o9 a1) 2) (o5 (F9 a1 0) λ(x:V3)=>o5 (F9 a1 1) λ(x_1:V3)=>o5 (jO a0 x x_1) λ(x:V3×Int)=>some x)
  (o5 (F9 a1 0) λ(x:V3)=>o5 (F9 a1 1) λ(x_1:V3)=>o5 (F9 a1 2) λ(x_2:V3)=>l9 (F8 (x8 x.1 1)) (some ((0,0,0),8)) (l9 (F8 (x8 x_1.1 x_2.1)) (some ((0,0,0),8)) (l9 (F8 (x8 x_1.2.1 x_2.2.1)) (some ((0,0,0),8)) (l9 (x8 x.2.2 1) (some (x_1,0)) (some (x_2,0))))))))
def jQ(n:Int×Int)(args:List V3)(env:aS):Prop:=∃r:V3×Int,RP n args env=some r/\EP n args env=some r
theorem ll0:o9 ([]:List V3)=0:=rfl
theorem ll1(a:V3):o9 [a]=1:=rfl
theorem ll2(a b:V3):o9 [a,b]=2:=rfl
theorem ll3(a b c:V3):o9 [a,b,c]=3:=rfl
theorem la0(a:V3)(l:List V3):F9 (a::l) 0=some a:=rfl
theorem la1(a b:V3)(l:List V3):F9 (a::b::l) 1=some b:=rfl
theorem la2(a b c:V3)(l:List V3):F9 (a::b::c::l) 2=some c:=rfl
def dF:=And.intro @N9 (And.intro @O9 (And.intro @Y3 (And.intro @Y9 (And.intro @U8 (And.intro @N7 (And.intro @o7 (And.intro @o6 (And.intro @o8 (And.intro @U1 (And.intro @uo (And.intro @E5 (And.intro @aW (And.intro @ll0 (And.intro @ll1 (And.intro @ll2 (And.intro @ll3 (And.intro @la0 (And.intro @la1 (And.intro @la2 (And.intro @UY (And.intro @b9q (And.intro @yK (And.intro @Ar (And.intro @FU (And.intro @QP (And.intro @b2e (And.intro @b7K (@b7J))))))))))))))))))))))))))))
theorem Uu(k N:Int)(env:aS)(hk:k=1\/k=2\/k=3\/k=4\/k=5):jQ (k,N) [] env:=by
 rcases hk with rfl|rfl|rfl|rfl|rfl <;>
 .unfold jQ RP jG EP aZ bf;simp (disch:=decide) only[dF];exact⟨_,rfl,rfl⟩
theorem c3v(N:Int)(env:aS):jQ (6,N) [] env:=by unfold jQ RP jG EP aZ bf;simp (disch:=decide) only[dF];unfold Ky;cases plB (6,dM IntKind.i64 N 16,fC N 16)<;>exact⟨_,rfl,rfl⟩
theorem c3y(N:Int)(env:aS):jQ (9,N) [] env:=by unfold jQ RP jG EP aZ bf;simp (disch:=decide) only[dF];exact⟨_,rfl,rfl⟩
theorem c0x(N:Int)(env:aS):jQ (35,N) [] env:=by unfold jQ RP jG EP aZ bf;simp (disch:=decide) only[dF];exact⟨_,rfl,rfl⟩
theorem c3w(N:Int)(env:aS)(h:jZ (7,N) env=some true):jQ (7,N) [] env:=by
 unfold jZ at h;simp (disch:=decide) only[N9,O9,o7,o6]at h;by_cases g:0<=N
 case neg=>rw[Y9 l7]at h;cases h
 rw[Y3 g,o7]at h;have h2:=jF.1 (I9 h);obtain⟨x,hx,hm⟩:=mO g h2;unfold jQ RP jG EP aZ bf;simp (disch:=decide) only[dF];rw[hx];simp (disch:=decide) only[dF];unfold Ky;cases plB x<;>exact⟨_,rfl,rfl⟩
theorem c3x(N:Int)(env:aS)(h:jZ (8,N) env=some true):jQ (8,N) [] env:=by
 unfold jZ at h;simp (disch:=decide) only[N9,O9,o7,o6]at h;by_cases g:0<=N
 case neg=>rw[Y9 l7]at h;cases h
 rw[Y3 g,o7]at h;by_cases h2:N<o9 env.2.2.1
 case neg=>rw[N7 l7]at h;cases h
 obtain⟨x,hx,hm⟩:=mO g h2;unfold jQ RP jG EP aZ bf;simp (disch:=decide) only[dF];rw[hx];simp (disch:=decide) only[dF];unfold Ky;cases plB x<;>exact⟨_,rfl,rfl⟩
def TQ(k:Int)(t:Int×Int):Bool:=l9 (x8 t.2 0) (l9 (x8 k 36) (l9 (x8 t.1 2) true (x8 t.1 3)) (l9 (x8 k 39) (l9 (L8 2 t.1) (L8 t.1 5) false) (x8 t.1 1))) false
theorem a3K(k:Int)(t:Int×Int):LY k t=some (TQ k t):=by unfold LY TQ;cases x8 t.2 0<;>cases x8 k 36<;>cases x8 k 39<;>cases x8 t.1 2<;>cases L8 2 t.1<;>rfl
theorem Gg(t:Int):ww t=some (l9 (L8 2 t) (L8 t 4) false):=by
 unfold ww;by_cases h2:t=2
 .subst h2;rfl
 by_cases h3:t=3
 .subst h3;rfl
 by_cases h4:t=4
 .subst h4;rfl
 rw[O9 h2,O9 h3,O9 h4];by_cases g:2<=t
 .rw[Y3 g,Y9 l7];rfl
 .rw[Y9 l7];rfl
theorem JG(t:Int):IA t=some (l9 (L8 2 t) (L8 t 4) false):=Gg t
theorem a1j(k:Int)(t:Int×Int):xN k t=some (TQ k t):=by
 unfold xN TQ;cases x8 t.2 0
 .rfl
 cases x8 k 36
 .cases x8 k 39
  .rfl
  .rw[Gg];simp only[E5,o6,o7,o8];by_cases g:2<=t.1
   .rw[Y3 g];simp only[o7];by_cases g4:t.1<=4
    .rw[Y3 g4,Y3 (show t.1<=5 by omega)];rfl
    .rw[Y9 l7];by_cases g5:t.1=5
     .rw[N9 g5,Y3 l7];rfl
     .rw[O9 g5,Y9 l7];rfl
   .rw[Y9 l7,O9 l7];rfl
 .cases x8 t.1 2<;>rfl
def WI(v:V3)(t:Int×Int):Bool:=l9 (plB v) (l9 (x8 v.1 t.1) (x8 v.2.1 t.2) false) false
theorem n_(v:V3)(t:Int×Int):Ei v t=some (WI v t):=by unfold Ei WI;rw[Ar,o8];cases plB v<;>cases x8 v.1 t.1<;>rfl
theorem b5B(v:V3)(t:Int×Int):Xh v t=some (WI v t):=by unfold Xh WI;rw[yK,o8];cases plB v<;>cases x8 v.1 t.1<;>rfl
def Ku(k a b:Int)(first:Bool):Int:=l9 (x8 k 36) (D5 .i64 a b) (l9 (x8 k 37) (az .i64 a b) (l9 (x8 k 38) (l9 (E8 a b) b a) (l9 first b (l9 (E8 a b) b a))))
theorem b5A(k a b:Int)(f:Bool):Uf k a b f=some (Ku k a b f):=by unfold Uf Ku;cases x8 k 36<;>cases x8 k 37<;>cases x8 k 38<;>cases f<;>cases E8 a b<;>rfl
def a3v(m:List V3)(N:Int)(t:Int×Int):V3⊕Int:=
 match F9 m N with
 |none=> .inr 6|some x=>l9 (x8 x.1 0) (.inr 6) (l9 (WI x t) (.inl x) (.inr 8))
def Kz(k N:Int)(t:Int×Int)(b:Int×Bool)(m:List V3):(Int×Bool)⊕(V3×Int):=
 match a3v m N t with
 | .inr c=> .inr ((0,0,0),c)| .inl x=>l9 (plB (t.1,0,Ku k b.1 x.2.2 b.2)) (.inl (Ku k b.1 x.2.2 b.2,false)) (.inr ((0,0,0),3))
def a5F(k N:Int)(t:Int×Int)(ms:List (List V3)):V3×Int:=
 l9 (TQ k t) (match bD (Kz k N t) ms (l9 (x8 k 37) 1 0,true)with
  | .inr c=>c
  | .inl a=>l9 (x8 k 39) (l9 (x8 (o9 ms) 0) ((0,0,0),6) (Ky (t.1,0,a.1))) (Ky (t.1,0,a.1))) ((0,0,0),8)
theorem Qp(k N:Int)(env:aS)(t:Int×Int)(ht:F9 env.2.2.2.2.1 N=some t)(h0:0<=N)(hl:env.2.2.2.1.length<=1000000):wG (k,N) env=some (a5F k N t env.2.2.2.1):=by
 unfold wG a5F;simp only[ht,o8,a3K];cases TQ k t
 .rfl
 simp only[E5,o6,o7];rw[show l9 (x8 k 37) (some (1:Int)) (some 0)=some (l9 (x8 k 37) 1 0) by cases x8 k 37<;>rfl,o8];apply pJ env.2.2.2.1 (Kz k N t) (λb i=>(((0,0,0),b.1,i):V3×Int×Int)) (λb=>(((0,0,0),b.1):V3×Int)) (λi b=>b.2=decide (i=0)) (l9 (x8 k 37) 1 0,true) hl rfl
 .intro i m b hi hi' hb;have hm:=F7 env.2.2.2.1 i;rw[hi]at hm;have hlt:(i:Int)<o9 env.2.2.2.1:=by
   have:=X6.1 hi;obtain⟨h,_⟩:=this;unfold o9;omega
  simp only[U8 hlt,o7,hm,o8];refine⟨?_,?_⟩
  .unfold Kz a3v;by_cases g:o9 m<=N
   .rw[Y3 g,tY (.inr (N7 g))];rfl
   .rw[Y9 l7];obtain⟨x,hx,_⟩:=mO h0 (show N<o9 m by omega);simp only[o6,hx,o8];cases x8 x.1 0
    case true=>rfl
    simp only[o6,o8,U1,b5B];cases WI x t
    .rfl
    simp only[E5,o6,o7,b5A,o8,UY];have hz:x8 (i:Int) 0=b.2:=by rw[hb];unfold x8;congr 1;simp
    rw[hz];unfold Ky;cases plB (t.1,0,Ku k b.1 x.2.2 b.2)
    .rfl
    .rw[Y4 l7];rfl
  .intro b' hb';unfold Kz at hb';cases hf:a3v m N t with
   |inr c=>rw[hf]at hb';cases hb'|inl x=>rw[hf]at hb';simp only at hb';cases hp:plB (t.1,0,Ku k b.1 x.2.2 b.2)<;>rw[hp]at hb'<;>cases hb';simp
 .intro b hb;rw[N7 (show o9 env.2.2.2.1<=(env.2.2.2.1.length:Int)from aX _)];rfl
 .intro _;cases bD (Kz k N t) env.2.2.2.1 (l9 (x8 k 37) 1 0,true)with
  |inr c=>rfl|inl a=>simp only[U1,UY,o8];cases x8 k 39<;>cases x8 (o9 env.2.2.2.1) 0<;>rfl
theorem a7I{x:V3}{t:Int×Int}(h:WI x t=true):plB x=true/\x.1=t.1/\x.2.1=t.2:=by
 unfold WI at h;cases h1:plB x<;>rw[h1]at h
 .cases h
 cases h2:x8 x.1 t.1<;>rw[h2]at h
 .cases h
 simp only[o7]at h;exact⟨rfl,O5.1 h2,O5.1 h⟩
variable {k:Int}
theorem RD(hk:k=1)(h:plB (k,0,n)=true):n=0\/n=1:=by subst hk;rcases a8h h with⟨m,h,g⟩|⟨m,h,g⟩|⟨m,h,g⟩|⟨m,h,g⟩|⟨m,h,g⟩|⟨e',m,h,g⟩<;>cases h;exact g
theorem WT{t:Int×Int}(h:TQ k t=true):t.2=0:=by
 unfold TQ at h;cases g:x8 t.2 0<;>rw[g]at h
 .cases h
 exact O5.1 g
theorem b0b{t:Int×Int}(h:TQ 37 t=true):t.1=1:=by have:=WT h;unfold TQ at h;rw[N9 this]at h;exact O5.1 h
theorem b1T(k N:Int)(t:Int×Int)(hk:k=36\/k=37\/k=38\/k=39)(ha:TQ k t=true)(b:Int×Bool)(x:V3)(hx:WI x t=true)(i:Nat)(hi:i<=1000000)(hb:b.2=decide (i=0))(hp:k=36\/b.2=true/\k=39\/plB (t.1,0,b.1)=true)(v:V3)(hv:v=(0,0,0)):
  (l9 (x8 k 36) (o5 (iW (t.1,t.2,D5 .i64 b.1 x.2.2)) λ(q:Bool)=>l9 (F8 q) (some (Out.rt (((0,0,0),3):V3×Int))) (some (Out.nx ((v,(t.1,t.2,D5 .i64 b.1 x.2.2),D5 .i64 (i:Int) 1):V3×V3×Int))))
   (l9 (x8 k 37) (some (Out.nx (v,(t.1,t.2,ru b.1 x.2.2),D5 .i64 (i:Int) 1)))
    (l9 (x8 k 38) (some (Out.nx (v,(t.1,t.2,pW b.1 x.2.2),D5 .i64 (i:Int) 1)))
     (l9 (x8 k 39) (l9 (x8 (i:Int) 0) (some (Out.nx (v,x,D5 .i64 (i:Int) 1))) (l9 (E8 b.1 x.2.2) (some (Out.nx (v,x,D5 .i64 (i:Int) 1))) (some (Out.nx (v,(t.1,t.2,b.1),D5 .i64 (i:Int) 1)))))
      (some (Out.nx (v,(t.1,t.2,b.1),D5 .i64 (i:Int) 1)))))):Option (Out (V3×V3×Int) (V3×V3) (V3×Int)))=
  some (match(l9 (plB (t.1,0,Ku k b.1 x.2.2 b.2)) (.inl (Ku k b.1 x.2.2 b.2,false)) (.inr ((0,0,0),3)):(Int×Bool)⊕(V3×Int))with| .inl b' => .nx ((0,0,0),(t.1,t.2,b'.1),((i+1:Nat):Int))| .inr r=> .rt r)/\
  (k≠36->plB (t.1,0,Ku k b.1 x.2.2 b.2)=true):=by
 subst hv;have hz:=WT ha;obtain⟨hx1,hx2,hx3⟩:=a7I hx;have hxe:x=(t.1,t.2,x.2.2):=by rw[←hx2,←hx3]
 have hxp:plB (t.1,0,x.2.2)=true:=by rw[←hz,←hxe];exact hx1
 obtain⟨acc,fi⟩:=b;simp only at hb hp ⊢;rw[Y4 l7];rcases hk with rfl|rfl|rfl|rfl
 .refine⟨?_,λh=>absurd rfl h⟩;simp (disch:=decide) only[N9,o7,Ar,o8];rw[hz,show Ku 36 acc x.2.2 fi=D5 .i64 acc x.2.2 from rfl];cases plB (t.1,0,D5 .i64 acc x.2.2)<;>rfl
 .have ht1:=b0b ha;have hp' :plB (t.1,0,acc)=true:=by
   rcases hp with h|h|h
   .exact absurd h G7
   .exact absurd h.2 G7
   .exact h
  have e1:=RD ht1 hp';have e2:=RD ht1 hxp;have e3:Ku 37 acc x.2.2 fi=ru acc x.2.2/\plB (t.1,0,Ku 37 acc x.2.2 fi)=true:=by rw[ht1];generalize x.2.2=q at e2 ⊢;rcases e1 with rfl|rfl<;>rcases e2 with rfl|rfl<;>exact⟨rfl,rfl⟩
  refine⟨?_,λ_=>e3.2⟩;simp (disch:=decide) only[N9,O9,o7,o6];rw[e3.2,e3.1,o7]
 .have ht1:t.1=1:=by
   unfold TQ at ha;rw[N9 hz]at ha;exact O5.1 ha
  have hp' :plB (t.1,0,acc)=true:=by
   rcases hp with h|h|h
   .exact absurd h G7
   .exact absurd h.2 G7
   .exact h
  have e1:=RD ht1 hp';have e2:=RD ht1 hxp;have e3:Ku 38 acc x.2.2 fi=pW acc x.2.2/\plB (t.1,0,Ku 38 acc x.2.2 fi)=true:=by rw[ht1];generalize x.2.2=q at e2 ⊢;rcases e1 with rfl|rfl<;>rcases e2 with rfl|rfl<;>exact⟨rfl,rfl⟩
  refine⟨?_,λ_=>e3.2⟩;simp (disch:=decide) only[N9,O9,o7,o6];rw[e3.2,e3.1,o7]
 .have hf:Ku 39 acc x.2.2 fi=l9 fi x.2.2 (l9 (E8 acc x.2.2) x.2.2 acc):=rfl;simp (disch:=decide) only[N9,O9,o7,o6];rw[hf];have hz' :x8 (i:Int) 0=fi:=by rw[hb];unfold x8;congr 1;simp
  rw[hz'];cases fi
  case true=>simp only[o7,hxp];exact⟨by rw[←hxe],λ_=>trivial⟩
  case false=>
   have hp' :plB (t.1,0,acc)=true:=by
    rcases hp with h|h|h
    .exact absurd h G7
    .exact absurd h.1 x9
    .exact h
   simp only[o6];cases E8 acc x.2.2
   .simp only[o6,hp',o7];exact⟨trivial,λ_=>trivial⟩
   .simp only[o7,hxp];exact⟨by rw[←hxe],λ_=>trivial⟩
theorem b1i{γ:Type}(c:Option γ)(K:γ->Option (V3×Int)):b1h (o5 c K)=o5 c λo=>b1h (K o):=by cases c<;>rfl
theorem uQ{α β ρ:Type}(G:β->α->β⊕ρ)(P:ρ->Prop)(hG:∀b a r,G b a= .inr r->P r):∀(l:List α) (b:β) (r:ρ),bD G l b= .inr r->P r
 |[],b,r,h=>by cases h|a::l,b,r,h=>by
  unfold bD at h;cases hg:G b a with
  |inr r' =>rw[hg]at h;simp only at h;cases h;exact hG _ _ _ hg|inl b' =>rw[hg]at h;exact uQ G P hG l b' r h
theorem b4k(k N:Int)(t:Int×Int)(b:Int×Bool)(m:List V3)(r:V3×Int)(h:Kz k N t b m= .inr r):r=((0,0,0),6)\/r=((0,0,0),8)\/r=((0,0,0),3):=by
 unfold Kz at h;cases hf:a3v m N t with
 |inr c=>
  rw[hf]at h;simp only at h;cases h;unfold a3v at hf;cases hm:F9 m N with
  |none=>rw[hm]at hf;cases hf;exact .inl rfl|some x=>
   rw[hm]at hf;simp only at hf;cases h1:x8 x.1 0<;>rw[h1]at hf
   .cases h2:WI x t<;>rw[h2]at hf<;>cases hf;exact .inr (.inl rfl)
   .cases hf;exact .inl rfl
 |inl x=>rw[hf]at h;simp only at h;cases h1:plB (t.1,0,Ku k b.1 x.2.2 b.2)<;>rw[h1]at h<;>cases h;exact .inr (.inr rfl)
theorem YO(k N:Int)(env:aS)(hk:k=36\/k=37\/k=38\/k=39)(he:jZ (k,N) env=some true)(hl:env.2.2.2.1.length<=1000000):jQ (k,N) [] env:=by
 have hN:0<=N/\N<o9 env.2.2.2.2.1:=by
  unfold jZ at he;rcases hk with rfl|rfl|rfl|rfl <;>
  .simp (disch:=decide) only[N9,O9,o7,o6,o8]at he;by_cases g:0<=N
   case neg=>rw[Y9 l7]at he;cases he
   rw[Y3 g,o7]at he;exact⟨g,jF.1 (I9 he)⟩
 obtain⟨t,ht,_⟩:=mO hN.1 hN.2;refine⟨a5F k N t env.2.2.2.1,?_,?_⟩
 .unfold RP;rw[ll0,show L8 36 k=true from Y3 l7,show L8 k 39=true from Y3 l7,Qp k N env t ht hN.1 hl];rfl
 have hA:aZ (k,N) [] env=some (TQ k t):=by
  unfold aZ;rcases hk with rfl|rfl|rfl|rfl <;>
  .simp (disch:=decide) only[N9,O9,o7,o6,o8,ht,a1j,uo]
 have hC:bf (k,N) [] env=wZ (k,N) env:=by
  unfold bf;rcases hk with rfl|rfl|rfl|rfl <;>
  .simp (disch:=decide) only[N9,O9,o7,o6,o8];generalize wZ _ env=o;cases o<;>rfl
 unfold EP;rw[hA,o8,hC];unfold a5F;cases ha:TQ k t
 .rfl
 simp only[E5,o6,o7];have hz:=WT ha;unfold wZ;simp only[ht,o8];rw[show l9 (x8 k 37) (some (t.1,t.2,(1:Int))) (some (t.1,t.2,0))=some (t.1,t.2,l9 (x8 k 37) 1 0) by cases x8 k 37<;>rfl,o8];have hinit:k=36\/(true=true/\k=39)\/plB (t.1,0,l9 (x8 k 37) 1 0)=true:=by
  rcases hk with rfl|rfl|rfl|rfl
  .exact .inl rfl
  .right;right;rw[b0b ha];rfl
  .right;right;have ht1:t.1=1:=by
    unfold TQ at ha;rw[N9 hz]at ha;exact O5.1 ha
   rw[ht1];rfl
  .exact .inr (.inl ⟨rfl,rfl⟩)
 by_cases hz0:k=39/\o9 env.2.2.2.1=0
 .rw[N9 hz0.1,N9 hz0.2];have:env.2.2.2.1=[]:=by have:=hz0.2;unfold o9 at this;exact U2.1 l7
  rw[this];rfl
 rw[show(l9 (x8 k 39) (l9 (x8 (o9 env.2.2.2.1) 0) (some (Sum.inr (((0,0,0),6):V3×Int))) (some (Sum.inl ((0,0,0):V3)))) (some (Sum.inl (0,0,0))))=some (.inl (0,0,0)) by
  by_cases h1:k=39
  .rw[N9 h1,O9 (λh=>hz0 ⟨h1,h⟩)];rfl
  .rw[O9 h1];rfl]
 simp only[o8,U1];have hend:(match bD (Kz k N t) env.2.2.2.1 (l9 (x8 k 37) 1 0,true)with
  | .inr c=>c
  | .inl a=>l9 (x8 k 39) (l9 (x8 (o9 env.2.2.2.1) 0) ((0,0,0),6) (Ky (t.1,0,a.1))) (Ky (t.1,0,a.1)))=(match bD (Kz k N t) env.2.2.2.1 (l9 (x8 k 37) 1 0,true)with
  | .inr c=>c
  | .inl a=>Ky (t.1,0,a.1)):=by
  cases bD (Kz k N t) env.2.2.2.1 (l9 (x8 k 37) 1 0,true)with
  |inr c=>rfl|inl a=>
   by_cases h1:k=39
   .rw[N9 h1,O9 (λh=>hz0 ⟨h1,h⟩)];rfl
   .rw[O9 h1];rfl
 refine Eq.trans ?_ (congrArg some hend.symm);rw[b1i];apply pJ env.2.2.2.1 (Kz k N t) (λb i=>(((0,0,0),(t.1,t.2,b.1),i):V3×V3×Int)) (λb=>(((0,0,0),(t.1,t.2,b.1)):V3×V3)) (λi b=>b.2=decide (i=0)/\(k=36\/(b.2=true/\k=39)\/plB (t.1,0,b.1)=true)) (l9 (x8 k 37) 1 0,true) hl ⟨rfl,hinit⟩
 .intro i m b hi hi' hb;have hm:=F7 env.2.2.2.1 i;rw[hi]at hm;have hlt:(i:Int)<o9 env.2.2.2.1:=by
   have:=X6.1 hi;obtain⟨h,_⟩:=this;unfold o9;omega
  simp only[U8 hlt,o7,hm,o8];by_cases g:o9 m<=N
  .have e:Kz k N t b m= .inr ((0,0,0),6):=by unfold Kz a3v;rw[tY (.inr (N7 g))]
   rw[e];refine⟨?_,λ_ h=>by cases h⟩;rw[Y3 g];rfl
  rw[Y9 l7];obtain⟨x,hx,_⟩:=mO hN.1 (show N<o9 m by omega);simp only[o6,hx,o8];cases h0:x8 x.1 0
  case true=>
   have e:Kz k N t b m= .inr ((0,0,0),6):=by unfold Kz a3v;rw[hx];simp only[h0];rfl
   rw[e];exact⟨rfl,λ_ h=>by cases h⟩
  simp only[o6,o8,U1,n_];cases hh:WI x t
  .have e:Kz k N t b m= .inr ((0,0,0),8):=by unfold Kz a3v;rw[hx];simp only[h0,hh];rfl
   rw[e];exact⟨rfl,λ_ h=>by cases h⟩
  have e:Kz k N t b m=l9 (plB (t.1,0,Ku k b.1 x.2.2 b.2)) (.inl (Ku k b.1 x.2.2 b.2,false)) (.inr ((0,0,0),3)):=by unfold Kz a3v;rw[hx];simp only[h0,hh,o7,o6]
  obtain⟨s1,s2⟩:=b1T k N t hk ha b x hh i hi' hb.1 hb.2 (0,0,0) rfl;refine⟨?_,?_⟩
  .rw[e,E5,o6];refine Eq.trans (Eq.trans ?_ s1) ?_
   .rfl
   .cases plB (t.1,0,Ku k b.1 x.2.2 b.2)<;>rfl
  .intro b' hb';rw[e]at hb';cases hp:plB (t.1,0,Ku k b.1 x.2.2 b.2)<;>rw[hp]at hb'<;>cases hb';exact⟨x9,.inr (.inr hp)⟩
 .intro b hb;rw[N7 (show o9 env.2.2.2.1<=(env.2.2.2.1.length:Int)from aX _)];rfl
 .intro hf;cases hq:bD (Kz k N t) env.2.2.2.1 (l9 (x8 k 37) 1 0,true)with
  |inr c=>rcases uQ (Kz k N t) (λr=>r=((0,0,0),6)\/r=((0,0,0),8)\/r=((0,0,0),3)) (b4k k N t) _ _ _ hq with rfl|rfl|rfl<;>rfl
  |inl a=>simp only[U1,FU,QP,hz]
theorem b0n{k e n:Int}(hk:k=5)(h:plB (k,e,n)=true):0<=n/\n<=109572:=by subst hk;rcases a8h h with⟨m,h,g⟩|⟨m,h,g⟩|⟨m,h,g⟩|⟨m,h,g⟩|⟨m,h,g⟩|⟨e',m,h,g⟩<;>cases h;exact g
theorem c0j(N:Int)(x:V3)(env:aS):jQ (10,N) [x] env:=by
 unfold jQ RP EP sF aZ bf Jp vC;simp (disch:=decide) only[dF];simp only[JG,Gg,o8];cases l9 (L8 2 x.1) (L8 x.1 4) false
 .exact⟨_,rfl,rfl⟩
 .simp (disch:=decide) only[dF];exact⟨_,rfl,rfl⟩
theorem c0p(N:Int)(x:V3)(env:aS):jQ (25,N) [x] env:=by
 unfold jQ RP EP sF aZ bf Jp vC;simp (disch:=decide) only[dF];cases x8 x.1 1
 .exact⟨_,rfl,rfl⟩
 .simp (disch:=decide) only[dF];exact⟨_,rfl,rfl⟩
theorem a9y(k N:Int)(x:V3)(env:aS)(hk:k=31\/k=32)(hx:plB x=true):jQ (k,N) [x] env:=by
 have hAB:∃q:Int×Int×Int,x.1=5->zq x.2.2=some q/\Ha x.2.2=some q:=⟨_,λh=>⟨Gs (b0n h hx).1 (b0n h hx).2,Qs (b0n h hx).1 (b0n h hx).2⟩⟩;obtain⟨q,hAB⟩:=hAB;rcases hk with rfl|rfl
 all_goals
  unfold jQ RP EP sF aZ bf Jp vC;simp (disch:=decide) only[dF];cases h5:x8 x.1 5
  .simp only[aW,o7,o8,uo];exact⟨_,rfl,rfl⟩
  rw[(hAB (O5.1 h5)).1,(hAB (O5.1 h5)).2];simp (disch:=decide) only[dF];exact⟨_,rfl,rfl⟩
theorem c0u(N:Int)(x:V3)(env:aS)(hx:plB x=true)(he:jZ (33,N) env=some true)(ht:∀t∈env.2.2.2.2.2,qO t):jQ (33,N) [x] env:=by
 unfold jZ at he;simp (disch:=decide) only[N9,O9,o7,o6,o8]at he;by_cases g:0<=N
 case neg=>rw[Y9 l7]at he;cases he
 rw[Y3 g,o7]at he;obtain⟨t,hq,hm⟩:=mO g (jF.1 (I9 he));have hr:=ht t hm;unfold jQ RP EP sF aZ bf Vy;simp (disch:=decide) only[dF];simp only[hq,o8,n_,WI,hx,o7];by_cases h1:x.1=t.2.1.1
 case neg=>rw[O9 h1];exact⟨_,rfl,rfl⟩
 rw[N9 h1];by_cases h2:x.2.1=t.2.1.2
 case neg=>rw[O9 h2];exact⟨_,rfl,rfl⟩
 rw[N9 h2];by_cases h3:1<=t.2.2.1.1
 case neg=>rw[Y9 (lY.1 h3),U8 (lY.1 h3)];exact⟨_,rfl,rfl⟩
 rw[Y3 h3,N7 h3];by_cases h4:t.2.2.1.1<=6
 case neg=>rw[Y9 (lY.1 h4),U8 (lY.1 h4)];exact⟨_,rfl,rfl⟩
 rw[Y3 h4,N7 h4];simp (disch:=decide) only[dF];rw[b1v _ _ (by have:=hr.1;omega),a8l _ _ (by have:=hr.1;omega)];simp (disch:=decide) only[dF];cases hl:B_ t.2.2.2 env.1 x.2.2 with
 |mk i b=>
  cases b
  .exact⟨_,rfl,rfl⟩
  .obtain⟨l1,l2⟩:=b4f hl;obtain⟨row,hrow,_⟩:=mO l1 l2;simp (disch:=decide) only[dF];rw[hrow];simp (disch:=decide) only[dF];unfold Ky;cases plB (t.2.2.1.1,t.2.2.1.2,row.2.2.2)<;>exact⟨_,rfl,rfl⟩
theorem c0w(N:Int)(x:V3)(env:aS)(h0:0<=N)(hI:N<=9223372036854775807)(he:jZ (34,N) env=some true)(ht:∀t∈env.2.2.2.2.2,qO t):jQ (34,N) [x] env:=by
 unfold jZ at he;simp (disch:=decide) only[N9,O9,o7,o6,o8]at he;have hq0:0<=dM .i64 N 8:=by
  rw[show dM .i64 N 8=N / 8 by unfold dM;rw[Int.tdiv_eq_ediv_of_nonneg h0];exact nK U7]
  omega
 obtain⟨t,hq,hm⟩:=mO hq0 (jF.1 (I9 he));have hr:=ht t hm;unfold jQ RP EP sF aZ bf;simp (disch:=decide) only[dF];simp only[hq,o8];cases x8 x.1 3
 .exact⟨_,rfl,rfl⟩
 cases x8 t.2.1.1 3
 .exact⟨_,rfl,rfl⟩
 cases x8 t.2.1.2 0
 .exact⟨_,rfl,rfl⟩
 cases x8 t.2.2.1.1 4
 .exact⟨_,rfl,rfl⟩
 cases x8 t.2.2.1.2 0
 .exact⟨_,rfl,rfl⟩
 simp (disch:=decide) only[dF];rw[show iV true true=true from rfl];simp (disch:=decide) only[dF];rw[a4K _ _ _ hr,a3L _ _ _ hr];simp (disch:=decide) only[dF];exact⟨_,rfl,rfl⟩
theorem YY(x y:V3):wz x y=some (l9 (x8 x.1 y.1) (x8 x.2.1 y.2.1) false):=by unfold wz;cases x8 x.1 y.1<;>rfl
theorem a9v(k N:Int)(x y:V3)(env:aS)(hk:k=11\/k=12):jQ (k,N) [x,y] env:=by
 rcases hk with rfl|rfl
 all_goals
  (unfold jQ RP EP aZ bf lD dB jO;simp (disch:=decide) only[dF])
  unfold xA;simp (disch:=decide) only[dF];simp only[YY,Gg,JG,o8];cases x8 x.1 y.1
  .exact⟨_,rfl,rfl⟩
  cases x8 x.2.1 y.2.1
  .exact⟨_,rfl,rfl⟩
  cases l9 (L8 2 x.1) (L8 x.1 4) false
  .exact⟨_,rfl,rfl⟩
  simp (disch:=decide) only[dF];exact⟨_,rfl,rfl⟩
theorem b3d(k N:Int)(x y:V3)(env:aS)(hk:k=19\/k=20):jQ (k,N) [x,y] env:=by
 rcases hk with rfl|rfl
 all_goals
  (unfold jQ RP EP aZ bf lD dB jO;simp (disch:=decide) only[dF])
  unfold xA;simp (disch:=decide) only[dF];simp only[YY,Gg,JG,o8];cases x8 x.1 y.1
  .exact⟨_,rfl,rfl⟩
  cases x8 x.2.1 y.2.1
  .exact⟨_,rfl,rfl⟩
  simp (disch:=decide) only[dF];exact⟨_,rfl,rfl⟩
theorem a9x(k N:Int)(x y:V3)(env:aS)(hk:k=21\/k=22):jQ (k,N) [x,y] env:=by
 rcases hk with rfl|rfl
 all_goals
  (unfold jQ RP EP aZ bf lD dB jO;simp (disch:=decide) only[dF])
  unfold xA;simp (disch:=decide) only[dF];simp only[YY,Gg,JG,o8];cases x8 x.1 y.1
  .exact⟨_,rfl,rfl⟩
  cases x8 x.2.1 y.2.1
  .exact⟨_,rfl,rfl⟩
  simp (disch:=decide) only[dF];cases l9 (L8 2 x.1) (L8 x.1 4) false
  .simp (disch:=decide) only[dF];cases x8 x.1 5
   .exact⟨_,rfl,rfl⟩
   simp (disch:=decide) only[dF];exact⟨_,rfl,rfl⟩
  simp (disch:=decide) only[dF];exact⟨_,rfl,rfl⟩
theorem Zq(k N:Int)(x y:V3)(env:aS)(hk:k=17\/k=18)(hx:plB x=true)(hy:plB y=true):jQ (k,N) [x,y] env:=by
 have mx:Ky x=(x,0):=by unfold Ky;rw[hx];rfl
 have my:Ky y=(y,0):=by unfold Ky;rw[hy];rfl
 have hE:x.1=y.1->x.2.1=y.2.1->x.2.2=y.2.2->x=y:=λh1 h2 h3=>by rw[show x=(x.1,x.2.1,x.2.2)from rfl,h1,h2,h3]
 have fin:x.1=y.1->x.2.1=y.2.1->∀b:Bool,(∃r:V3×Int,l9 (jY b (E8 x.2.2 y.2.2)) (some (x,0)) (some (y,0))=some r/\b1h (l9 (jY b (E8 y.2.2 x.2.2)) (some (y,0)) (some (x,0)))=some r):=by
  intro h1 h2 b;by_cases g:x.2.2<y.2.2
  .rw[U8 g,N7 (Int.le_of_lt g)];cases b
   .exact⟨(y,0),rfl,by rw[show l9 (jY false false) (some (y,(0:Int))) (some (x,0))=some (y,0)from rfl,FU,QP,my]⟩
   .exact⟨(x,0),rfl,by rw[show l9 (jY true false) (some (y,(0:Int))) (some (x,0))=some (x,0)from rfl,FU,QP,mx]⟩
  by_cases g' :y.2.2<x.2.2
  .rw[U8 g',N7 (Int.le_of_lt g')];cases b
   .exact⟨(x,0),rfl,by rw[show l9 (jY false true) (some (y,(0:Int))) (some (x,0))=some (x,0)from rfl,FU,QP,mx]⟩
   .exact⟨(y,0),rfl,by rw[show l9 (jY true true) (some (y,(0:Int))) (some (x,0))=some (y,0)from rfl,FU,QP,my]⟩
  have e:=hE h1 h2 (Int.le_antisymm (iT.1 g') (iT.1 g));refine⟨(x,0),?_,?_⟩
  .rw[e];cases jY b (E8 y.2.2 y.2.2)<;>rfl
  .rw[←e];rw[show l9 (jY b (E8 x.2.2 x.2.2)) (some (x,(0:Int))) (some (x,0))=some (x,0) by cases jY b (E8 x.2.2 x.2.2)<;>rfl,FU,QP,mx]
 have osum:∀(c:Bool),(o5 (l9 c (some (Sum.inr (y,(0:Int)):V3⊕(V3×Int))) (some (.inr (x,0)))) λo=>aj o (λ_=>o5 (qJ x.2.2 y.2.2) λ(q:Int)=>some ((2,0,q),(0:Int))) λr=>some r)=l9 c (some (y,0)) (some (x,0)):=λc=>by cases c<;>rfl
 rcases hk with rfl|rfl
 all_goals
  (unfold jQ RP EP aZ bf lD dB jO;simp (disch:=decide) only[dF])
  unfold xA;simp (disch:=decide) only[dF];simp only[YY,Gg,JG,o8];cases g1:x8 x.1 y.1
  .exact⟨_,rfl,rfl⟩
  cases g2:x8 x.2.1 y.2.1
  .exact⟨_,rfl,rfl⟩
  simp (disch:=decide) only[dF];have F:=fin (O5.1 g1) (O5.1 g2);rw[osum];cases l9 (L8 2 x.1) (L8 x.1 4) false
  .simp (disch:=decide) only[dF];cases x8 x.1 5
   .exact⟨_,rfl,rfl⟩
   simp (disch:=decide) only[dF];simp only[ig];first|exact F true|exact F false
  simp (disch:=decide) only[dF];simp only[ig];first|exact F true|exact F false
theorem c0q(N:Int)(x y:V3)(env:aS):jQ (27,N) [x,y] env:=by
 (unfold jQ RP EP aZ bf lD dB jO;simp (disch:=decide) only[dF])
 unfold DL;simp (disch:=decide) only[dF];cases g1:x8 x.1 5
 .exact⟨_,rfl,rfl⟩
 cases x8 y.1 2
 .exact⟨_,rfl,rfl⟩
 simp (disch:=decide) only[dF];rw[O5.1 g1];exact⟨_,rfl,rfl⟩
theorem c0r(N:Int)(x y:V3)(env:aS):jQ (28,N) [x,y] env:=by
 have hA:∃q,wX x.2.2 y.2.2=some q/\qZ x.2.2 y.2.2=some q:=⟨_,Ut _ _,Td _ _⟩;obtain⟨q,h1,h2⟩:=hA
 (unfold jQ RP EP aZ bf lD dB jO;simp (disch:=decide) only[dF])
 unfold DL;simp (disch:=decide) only[dF];cases g1:x8 x.1 5
 .exact⟨_,rfl,rfl⟩
 cases x8 y.1 2
 .exact⟨_,rfl,rfl⟩
 simp (disch:=decide) only[dF];rw[h1,h2];simp (disch:=decide) only[dF];exact⟨_,rfl,rfl⟩
theorem c0s(N:Int)(x y:V3)(env:aS):jQ (29,N) [x,y] env:=by
 (unfold jQ RP EP aZ bf lD dB jO;simp (disch:=decide) only[dF])
 unfold DL;simp (disch:=decide) only[dF];cases g1:x8 x.1 5
 .exact⟨_,rfl,rfl⟩
 cases x8 y.1 5
 .exact⟨_,rfl,rfl⟩
 simp (disch:=decide) only[dF];exact⟨_,rfl,rfl⟩
theorem c0t(N:Int)(x y:V3)(env:aS):jQ (30,N) [x,y] env:=by
 have hA:∃q,qJ x.2.2 y.2.2=some q/\xU x.2.2 y.2.2=some q:=⟨_,YL _ _,Xe _ _⟩;obtain⟨q,h1,h2⟩:=hA
 (unfold jQ RP EP aZ bf lD dB jO;simp (disch:=decide) only[dF])
 unfold DL;simp (disch:=decide) only[dF];cases g1:x8 x.1 5
 .exact⟨_,rfl,rfl⟩
 cases x8 y.1 5
 .exact⟨_,rfl,rfl⟩
 simp (disch:=decide) only[dF];rw[h1,h2];simp (disch:=decide) only[dF];exact⟨_,rfl,rfl⟩
theorem c0l(N:Int)(x y:V3)(env:aS):jQ (14,N) [x,y] env:=by
 have hA:∃q,JI x.2.2 y.2.2 N=some q/\Lc x.2.2 y.2.2 N=some q:=⟨_,b3e _ _ _,b1Z _ _ _⟩;have hB:∃q,Qq x.2.2 y.2.2 N=some q/\RN x.2.2 y.2.2 N=some q:=⟨_,b8O _ _ _,b5D _ _ _⟩;obtain⟨q,h1,h2⟩:=hA;obtain⟨q',h3,h4⟩:=hB
 (unfold jQ RP EP aZ bf lD dB jO;simp (disch:=decide) only[dF])
 unfold EQ Dx;simp (disch:=decide) only[dF];rw[h1,h2,h3,h4];cases x8 y.1 4
 .exact⟨_,rfl,rfl⟩
 by_cases g3:x.1=3
 .rw[N9 g3];simp (disch:=decide) only[dF];exact⟨_,rfl,rfl⟩
 rw[O9 g3];simp (disch:=decide) only[dF];cases x8 x.1 4
 .exact⟨_,rfl,rfl⟩
 simp (disch:=decide) only[dF];exact⟨_,rfl,rfl⟩
theorem c0o(N:Int)(x y:V3)(env:aS):jQ (16,N) [x,y] env:=by
 have hA:∃q,BH x.2.2 y.2.2 N=some q/\Gz x.2.2 y.2.2 N=some q:=⟨_,a8v _ _ _,a6e _ _ _⟩;obtain⟨q,h1,h2⟩:=hA
 (unfold jQ RP EP aZ bf lD dB jO;simp (disch:=decide) only[dF])
 unfold EQ Dx;simp (disch:=decide) only[dF];rw[h1,h2];cases x8 x.1 3
 .exact⟨_,rfl,rfl⟩
 cases x8 y.1 3
 .exact⟨_,rfl,rfl⟩
 simp (disch:=decide) only[dF];exact⟨_,rfl,rfl⟩
theorem c0n(N:Int)(x y:V3)(env:aS):jQ (15,N) [x,y] env:=by
 have hA:∃q,kH x.2.2 y.2.2 N=some q/\EI x.2.2 y.2.2 N=some q:=⟨_,KN _ _ _,a3N _ _ _⟩;have hB:∃q,zJ x.2.2 y.2.2 N=some q/\CG x.2.2 y.2.2 N=some q:=⟨_,a3i _ _ _,a1t _ _ _⟩;obtain⟨q,h1,h2⟩:=hA;obtain⟨q',h3,h4⟩:=hB
 (unfold jQ RP EP aZ bf lD dB jO;simp (disch:=decide) only[dF])
 unfold EQ Dx;simp (disch:=decide) only[dF];rw[h1,h2,h3,h4];by_cases g2:y.1=2
 .rw[N9 g2,O9 (show y.1≠3 by rw[g2];decide)];simp (disch:=decide) only[dF];by_cases g3:x.1=3
  .rw[N9 g3,O9 (show x.1≠2 by rw[g3];decide)];simp (disch:=decide) only[dF];exact⟨_,rfl,rfl⟩
  rw[O9 g3];cases x8 x.1 2
  .exact⟨_,rfl,rfl⟩
  simp (disch:=decide) only[dF];exact⟨_,rfl,rfl⟩
 rw[O9 g2];simp (disch:=decide) only[dF];cases x8 x.1 3
 .exact⟨_,rfl,rfl⟩
 simp (disch:=decide) only[dF];cases x8 y.1 3
 .exact⟨_,rfl,rfl⟩
 simp (disch:=decide) only[dF];exact⟨_,rfl,rfl⟩
theorem Du(n:Int):(n<0/\aN n=-n)\/(0<=n/\aN n=n):=by
 unfold aN;by_cases h:n<0
 .left;exact⟨h,if_pos h⟩
 .right;exact⟨l7,if_neg h⟩
theorem a9q(a b:Int):(l9 (F8 (jY (E8 a 0) (E8 b 0))) (-(aN a*aN b)) (aN a*aN b))=a*b:=by
 rcases Du a with⟨h1,e1⟩|⟨h1,e1⟩<;>rcases Du b with⟨h2,e2⟩|⟨h2,e2⟩<;>rw[e1,e2]
 .rw[U8 h1,U8 h2];show -a*-b=a*b;rw[Int.neg_mul_neg]
 .rw[U8 h1,N7 h2];show -(-a*b)=a*b;rw[kU,Int.neg_neg]
 .rw[N7 h1,U8 h2];show -(a*-b)=a*b;rw[Int.mul_neg,Int.neg_neg]
 .rw[N7 h1,N7 h2];rfl
theorem a8i{a b:Int}(ha:-1000000000000000<=a/\a<=1000000000000000)(hb:-1000000000000<=b/\b<=1000000000000):Ai a b=some (l9 (E8 1000000000000000 (aN a*aN b)) (0,3) (a*b,0)):=by
 unfold Ai;rw[UO l7 l7,UO l7 l7];have A0:0<=aN a/\aN a<=1000000000000000:=by rcases Du a with⟨h1,e1⟩|⟨h1,e1⟩<;>omega
 have B0:0<=aN b/\aN b<=1000000000000:=by rcases Du b with⟨h1,e1⟩|⟨h1,e1⟩<;>omega
 rw[Vf A0.1 l7 B0.1 l7,o8];have hm:=a9q a b;have hp:0<=aN a*aN b:=X5 A0.1 B0.1;generalize aN a*aN b=p at hm hp ⊢;simp only;by_cases g:p / 18446744073709551616=0
 case neg=>rw[O9 g,U8 (show(1000000000000000:Int)<p by omega)];rfl
 rw[N9 g,show p % 18446744073709551616=p by omega];by_cases g2:1000000000000000<p
 .rw[U8 g2];rfl
 rw[N7 l7];simp only[E5,o6];rw[show wrap .i64 p=p from nK U7,X4 U7,show(0:Int) -p=-p by omega];rw[←hm];cases F8 (jY (E8 a 0) (E8 b 0))<;>rfl
theorem OG{x y M:Int}(W:V3×Int)(hy:0<=y)(hM:0<=M)(hM2:M<=1000000000000000):l9 (F8 (x8 y 0)) (o5 (rC .i64 M y) λ(q:Int)=>l9 (E8 q x) (some ((0,0,0),3)) (some W)) (some W)=some (l9 (E8 M (x*y)) ((0,0,0),3) W):=by
 by_cases h:y=0
 .subst h;rw[N9 rfl,Int.mul_zero,N7 hM];rfl
 rw[O9 h];simp only[aW,o7];rw[yF hM l7 l7,o8];have e:M / y<x↔M<x*y:=Int.ediv_lt_iff_lt_mul l7;by_cases g:M / y<x
 .rw[U8 g,U8 (e.1 g)];rfl
 .rw[N7 (iT.1 g),N7 (iT.1 λh=>g (e.2 h))];rfl
theorem a6d{k a b M:Int}(hM:EO k=some (-M,M))(hM0:0<=M)(hM2:M<=1000000000000000)(ha:-1000000000000000<=a/\a<=1000000000000000)(hb:-1000000000000<=b/\b<=1000000000000):BK k a b=some (l9 (E8 M (aN a*aN b)) ((0,0,0),3) (Ky (k,0,az .i64 a b))):=by
 unfold BK;rw[hM,o8];simp only[UY,o8];have sa:L6 .i64 0 a=-a:=by rw[X4 U7];omega
 have sb:L6 .i64 0 b=-b:=by rw[X4 U7];omega
 rw[sa,sb];rcases Du a with⟨h1,e1⟩|⟨h1,e1⟩<;>rcases Du b with⟨h2,e2⟩|⟨h2,e2⟩<;>rw[e1,e2]
 .rw[U8 h1,U8 h2];exact OG _ l7 hM0 hM2
 .rw[U8 h1,N7 h2];exact OG _ l7 hM0 hM2
 .rw[N7 h1,U8 h2];exact OG _ l7 hM0 hM2
 .rw[N7 h1,N7 h2];exact OG _ l7 hM0 hM2
theorem a0c{k a b M:Int}(hk:Jj k=(-M,M))(hM0:0<=M)(hM2:M<=1000000000000000)(ha:-1000000000000000<=a/\a<=1000000000000000)(hb:-1000000000000<=b/\b<=1000000000000):∃r:V3×Int,BK k a b=some r/\∃q:Int×Int,Ai a b=some q/\a0X (k,0,q.1) q.2=r:=by
 refine⟨_,a6d (by rw[a9D,hk]) hM0 hM2 ha hb,_,a8i ha hb,?_⟩;have hm:=a9q a b;have hmd:aN a*aN b=aN (a*b):=by rcases Du (a*b)with⟨h,e⟩|⟨h,e⟩<;>(have hn:=X5 (mZ a) (mZ b);cases hq:F8 (jY (E8 a 0) (E8 b 0))<;>rw[hq]at hm<;>simp only[o7,o6]at hm<;>omega)
 rw[hmd];have habs:=Du (a*b);have hI:aN (a*b)<=1000000000000000->az .i64 a b=a*b:=λh=>og U7;have hpl:M<aN (a*b)->plB (k,0,a*b)=false:=by
  intro h;unfold plB;rw[hk];simp only;by_cases g:-M<=a*b
  .rw[Y3 g,Y9 (show M<a*b by omega)];rfl
  .rw[Y9 l7];rfl
 generalize a*b=p at*;by_cases g:1000000000000000<aN p
 .rw[U8 g,U8 l7];rfl
 rw[N7 l7,hI l7];simp only[o6,QP];by_cases g2:M<aN p
 .rw[U8 g2];unfold Ky;rw[hpl g2];rfl
 .rw[N7 l7];rfl
theorem b0o{k e n:Int}(h:plB (k,e,n)=true):(k=2->-1000000000000<=n/\n<=1000000000000)/\(k=3->-1000000000000000<=n/\n<=1000000000000000):=by rcases a8h h with⟨m,h,g⟩|⟨m,h,g⟩|⟨m,h,g⟩|⟨m,h,g⟩|⟨m,h,g⟩|⟨e',m,h,g⟩<;>cases h<;>exact⟨λh=>by first|exact g|exact absurd h G7,λh=>by first|exact g|exact absurd h G7⟩
theorem c0k(N:Int)(x y:V3)(env:aS)(hx:plB x=true)(hy:plB y=true):jQ (13,N) [x,y] env:=by
 have hX:=b0o (k:=x.1) (e:=x.2.1) (n:=x.2.2) hx;have hY:=b0o (k:=y.1) (e:=y.2.1) (n:=y.2.2) hy;have key:y.1=2->x.1=2\/x.1=3->∃r:V3×Int,BK x.1 x.2.2 y.2.2=some r/\∃q:Int×Int,Ai x.2.2 y.2.2=some q/\a0X (x.1,0,q.1) q.2=r:=by
  intro h2 h;have hb:=hY.1 h2;rcases h with h|h
  .have ha:=hX.1 h;exact a0c (M:=1000000000000) (by rw[h];rfl) G7 G7 ⟨Int.le_trans G7 ha.1,Int.le_trans ha.2 G7⟩ hb
  .have ha:=hX.2 h;exact a0c (M:=1000000000000000) (by rw[h];rfl) G7 G7 ha hb
 (unfold jQ RP EP aZ bf lD dB jO;simp (disch:=decide) only[dF])
 unfold EQ Dx;simp (disch:=decide) only[dF];cases g2:x8 y.1 2
 .exact⟨_,rfl,rfl⟩
 by_cases g3:x.1=3
 .obtain⟨r,e1,q,e2,e3⟩:=key (O5.1 g2) (.inr g3);rw[N9 g3,O9 (show x.1≠2 by rw[g3];decide)];simp (disch:=decide) only[dF];rw[e1,e2];simp (disch:=decide) only[dF];exact⟨_,rfl,congrArg some e3⟩
 rw[O9 g3];cases g4:x8 x.1 2
 .exact⟨_,rfl,rfl⟩
 obtain⟨r,e1,q,e2,e3⟩:=key (O5.1 g2) (.inl (O5.1 g4));simp (disch:=decide) only[dF];rw[e1,e2];simp (disch:=decide) only[dF];exact⟨_,rfl,congrArg some e3⟩
theorem b2K:∀i:Fin 40,mJ ((i.1:Nat):Int)=yL ((i.1:Nat):Int):=by decide+kernel
theorem b3f:∀i:Fin 40,(arF ((i.1:Nat):Int)=0->i.1∈[1,2,3,4,5,6,7,8,9,35,36,37,38,39])/\(arF ((i.1:Nat):Int)=1->i.1∈[10,25,31,32,33,34])/\(arF ((i.1:Nat):Int)=2->i.1∈[11,12,13,14,15,16,17,18,19,20,21,22,23,24,27,28,29,30])/\(arF ((i.1:Nat):Int)=3->i.1=26):=by decide+kernel
theorem c3z(h:k<1\/39<k):arF k=-1:=by
 unfold arF jL;rw[O9 (show k≠10 by omega),O9 (show k≠25 by omega),O9 (show k≠31 by omega),O9 (show k≠32 by omega),O9 (show k≠33 by omega),O9 (show k≠34 by omega),O9 (show k≠26 by omega)];rcases h with h|h
 .rw[Y9 (show k<1 by omega),Y9 (show k<35 by omega),Y9 (show k<11 by omega)];rfl
 .rw[Y3 (show 1<=k by omega),Y9 (show 9<k by omega),Y3 (show 35<=k by omega),Y9 (show 39<k by omega),Y3 (show 11<=k by omega),Y9 (show 30<k by omega)];rfl
theorem c0y(h:arF k≠-1):∃i:Fin 40,k=((i.1:Nat):Int):=by
 by_cases g:1<=k/\k<=39
 .exact⟨⟨k.toNat,l7⟩,by simp;omega⟩
 .exact absurd (c3z l7) h
theorem b7M(h:arF k≠-1):mJ k=yL k:=by obtain⟨i,rfl⟩:=c0y h;exact b2K i
theorem a2n(k:Int):∃b,yL k=some b:=by unfold yL;cases L8 1 k<;>cases L8 k 8<;>cases L8 36 k<;>cases L8 k 39<;>cases x8 k 14<;>cases x8 k 15<;>cases x8 k 16<;>cases x8 k 33<;>exact⟨_,rfl⟩
def b1m(k N:Int):Bool:=l9 (l9 (x8 k 14) true (l9 (x8 k 15) true (x8 k 16))) (l9 (L8 0 N) (L8 N 5) false) (l9 (x8 k 34) (l9 (L8 0 N) (L8 (fC N 8) 5) false) (l9 (x8 k 6) (L8 0 N) true))
theorem a5i(k N:Int):(o5 (l9 (x8 k 14) (some (x8 k 14)) (l9 (x8 k 15) (some (x8 k 15)) (some (x8 k 16)))) λ(x:Bool)=>l9 x (l9 (L8 0 N) (some (L8 N 5)) (some false)) (l9 (x8 k 34) (l9 (L8 0 N) (some (L8 (fC N 8) 5)) (some false)) (l9 (x8 k 6) (some (L8 0 N)) (some true))))=some (b1m k N):=by unfold b1m;cases x8 k 14<;>cases x8 k 15<;>cases x8 k 16<;>cases L8 0 N<;>cases x8 k 34<;>cases x8 k 6<;>rfl
def a7E(k N:Int):Bool:=l9 (x8 N 0) (b1m k N) (l9 ((yL k).getD false) (b1m k N) false)
theorem b1k{k N c:Int}(h:arF k=c):Iz (k,N) c=some (a7E k N):=by unfold Iz a7E;rw[a0j,o8,N9 h];simp only[E5,o6,a5i];obtain⟨b,hb⟩:=a2n k;rw[hb];cases x8 N 0<;>cases b<;>rfl
variable {N:Int}
theorem a7c(h:arF k≠-1):uM (k,N)=some (a7E k N):=by unfold uM a7E;rw[Zt,o8,N7 (show 0<=arF k by have:=(MB k).2.2;omega)];simp only[o6,a5i];rw[b7M h];obtain⟨b,hb⟩:=a2n k;rw[hb];cases x8 N 0<;>cases b<;>rfl
theorem a9k(k N:Int):∃b,uM (k,N)=some b:=by
 by_cases h:arF k=-1
 .refine⟨false,?_⟩;unfold uM;rw[Zt,o8,h];rfl
 .exact⟨_,a7c h⟩
theorem a5e(n:Int×Int)(env:aS):∃b,jZ n env=some b:=by
 unfold jZ;by_cases h7:n.1=7
 .rw[N9 h7,o7];cases L8 0 n.2<;>exact⟨_,rfl⟩
 rw[O9 h7,o6];by_cases h8:n.1=8
 .rw[N9 h8,o7];by_cases g:0<=n.2
  case neg=>rw[Y9 (lY.1 g)];exact⟨_,rfl⟩
  by_cases g2:n.2<o9 env.2.2.1
  case neg=>rw[Y3 g,N7 (iT.1 g2)];exact⟨_,rfl⟩
  obtain⟨x,hx,_⟩:=mO g g2;rw[Y3 g,U8 g2,hx];exact⟨_,rfl⟩
 rw[O9 h8,o6];cases x8 n.1 33
 .cases x8 n.1 34
  .cases x8 n.1 36<;>cases x8 n.1 37<;>cases x8 n.1 38<;>cases x8 n.1 39<;>cases L8 0 n.2<;>exact⟨_,rfl⟩
  .exact⟨_,rfl⟩
 .cases L8 0 n.2<;>exact⟨_,rfl⟩
variable {α:Type}
theorem b7U(l:List α)(p:α->Bool):l.all p= !l.any λv=> !p v:=by
 induction l with
 |nil=>rfl|cons a l ih=>rw[List.all_cons,kE,Bool.not_or,Bool.not_not,ih]
theorem b3b(l:List V3)(hl:l.length<=1000000):yV l=some (l.all plB):=by
 unfold yV;have e:=xH l (λv=> !plB v) false PUnit.unit (f:=λ(x:Int)=>l9 (E8 x (o9 l)) (o5 (F9 l x) λ(x_1:V3)=>o5 (iW x_1) λ(x_2:Bool)=>l9 (F8 x_2) (some (Out.rt false)) (some (Out.nx (D5 IntKind.i64 x 1)))) (some (Out.ex PUnit.unit))) hl
  (λi a hi=>by
   have hlt:(i:Int)<o9 l:=by have:=X6.1 hi;obtain⟨h,_⟩:=this;unfold o9;omega
   have hm:=F7 l i;rw[hi]at hm;simp only[U8 hlt,o7,hm,o8,Ar];cases plB a<;>rfl) (by rw[N7 (show o9 l<=(l.length:Int)from aX _)];rfl)
 rw[show ah _ _=_ from e];rw[b7U l plB];cases l.any λv=> !plB v<;>rfl
theorem b1Y(l:List V3)(hl:l.length<=1000000){γ:Type}{K:V3⊕(V3×Int)->Option γ} :(o5 (ah
      (λ(x:V3×Int)=>
       l9 (E8 x.2 (o9 l))
        (o5 (F9 l x.2) λ(x_1:V3)=>
         o5 (iU x_1) λ(x_2:Bool)=>
          l9 (F8 x_2) (some (Out.rt (((0,0,0),8):V3×Int))) (some (Out.nx (x.1,D5 IntKind.i64 x.2 1))))
        (some (Out.ex x.1)))
      ((0,0,0),0)) K)=K (l9 (l.all plB) (.inl (0,0,0)) (.inr ((0,0,0),8))):=by
 have hf:∀(l:List V3) (u:V3),bD (λ(_:V3) (v:V3)=>(l9 (plB v) (.inl ((0,0,0):V3)) (.inr (((0,0,0),8):V3×Int)):V3⊕(V3×Int))) l (0,0,0)=l9 (l.all plB) (.inl (0,0,0)) (.inr ((0,0,0),8)):=by
  intro l u;induction l with
  |nil=>rfl|cons a l ih=>
   unfold bD;rw[List.all_cons];cases plB a
   .rfl
   .exact ih
 apply pJ l (λ(_:V3) (v:V3)=>(l9 (plB v) (.inl ((0,0,0):V3)) (.inr (((0,0,0),8):V3×Int)):V3⊕(V3×Int))) (λb i=>((b,i):V3×Int)) (λb=>b) (λi b=>b=(0,0,0)) (0,0,0) hl rfl
 .intro i a b hi hi' hb;subst hb;have hlt:(i:Int)<o9 l:=by
   have:=X6.1 hi;obtain⟨h,_⟩:=this;unfold o9;omega
  have hm:=F7 l i;rw[hi]at hm;simp only[U8 hlt,o7,hm,o8,yK];cases plB a
  .exact⟨rfl,λ_ h=>by cases h⟩
  .exact⟨by rw[Y4 l7];rfl,λ_ h=>by cases h;rfl⟩
 .intro b hb;simp only[N7 (show o9 l<=(l.length:Int)from aX _),o6]
 .intro _;rw[hf l (0,0,0)];cases l.all plB<;>rfl
structure EvOk (env:aS):Prop where
 ms:env.2.2.2.1.length<=1000000
 tb:∀t∈env.2.2.2.2.2,qO t
theorem c0i(k N:Int)(args:List V3)(env:aS)(hE:EvOk env)(hN:-9223372036854775808<=N/\N<=9223372036854775807)(hk:k≠23/\k≠24/\k≠26)(ha:arF k=o9 args)(hf:a7E k N=true)(he:jZ (k,N) env=some true)(hp:args.all plB=true):jQ (k,N) args env:=by
 have hne:arF k≠-1:=by rw[ha];unfold o9;omega
 have hN34:k=34->0<=N:=by
  rintro rfl;unfold a7E at hf;have:b1m 34 N=true:=by
   cases g:x8 N 0<;>rw[g]at hf
   .exact hf
   .exact hf
  unfold b1m at this;by_cases g:0<=N
  .exact g
  .rw[Y9 l7]at this;cases this
 obtain⟨i,hi⟩:=c0y hne;obtain⟨a0,a1,a2,a3⟩:=b3f i;rw[←hi,ha]at a0 a1 a2 a3;match args,ha,hp with
 |[],ha,hp=>
  have:=a0 rfl;simp only[D6,uw,or_false]at this;rcases this with h|h|h|h|h|h|h|h|h|h|h|h|h|h<;>rw[h]at hi<;>subst hi
  .exact Uu _ _ _ G7
  .exact Uu _ _ _ G7
  .exact Uu _ _ _ G7
  .exact Uu _ _ _ G7
  .exact Uu _ _ _ G7
  .exact c3v _ _
  .exact c3w _ _ he
  .exact c3x _ _ he
  .exact c3y _ _
  .exact c0x _ _
  .exact YO _ _ _ G7 he hE.ms
  .exact YO _ _ _ G7 he hE.ms
  .exact YO _ _ _ G7 he hE.ms
  .exact YO _ _ _ G7 he hE.ms
 |[x],ha,hp=>
  have hx:plB x=true:=by simpa using hp
  have:=a1 rfl;simp only[D6,uw,or_false]at this;rcases this with h|h|h|h|h|h<;>rw[h]at hi<;>subst hi
  .exact c0j _ _ _
  .exact c0p _ _ _
  .exact a9y _ _ _ _ G7 hx
  .exact a9y _ _ _ _ G7 hx
  .exact c0u _ _ _ hx he hE.tb
  .exact c0w _ _ _ (hN34 rfl) hN.2 he hE.tb
 |[x,y],ha,hp=>
  have hxy:plB x=true/\plB y=true:=by simpa using hp
  have:=a2 rfl;simp only[D6,uw,or_false]at this;rcases this with h|h|h|h|h|h|h|h|h|h|h|h|h|h|h|h|h|h<;>rw[h]at hi<;>subst hi
  .exact a9v _ _ _ _ _ G7
  .exact a9v _ _ _ _ _ G7
  .exact c0k _ _ _ _ hxy.1 hxy.2
  .exact c0l _ _ _ _
  .exact c0n _ _ _ _
  .exact c0o _ _ _ _
  .exact Zq _ _ _ _ _ G7 hxy.1 hxy.2
  .exact Zq _ _ _ _ _ G7 hxy.1 hxy.2
  .exact b3d _ _ _ _ _ G7
  .exact b3d _ _ _ _ _ G7
  .exact a9x _ _ _ _ _ G7
  .exact a9x _ _ _ _ _ G7
  .exact absurd rfl hk.1
  .exact absurd rfl hk.2.1
  .exact c0q _ _ _ _
  .exact c0r _ _ _ _
  .exact c0s _ _ _ _
  .exact c0t _ _ _ _
 |[x,y,z],ha,hp=>have h:=a3 rfl;rw[h]at hi;exact absurd hi hk.2.2|x::y::z::w::l,ha,hp=>
  have h1:=(MB k).2.2;have:o9 (x::y::z::w::l)=(l.length:Int)+4:=by unfold o9;simp<;>omega
  rw[this]at ha;omega
theorem a4C(k N:Int)(args:List V3)(env:aS)(hE:EvOk env)(hN:-9223372036854775808<=N/\N<=9223372036854775807)(hk:k≠23/\k≠24/\k≠26)(hl:args.length<=1000000):∃r:V3×Int,vT (k,N) args env=some r/\Dh (k,N) args env=some r:=by
 by_cases ha:arF k=o9 args
 case neg=>
  refine⟨((0,0,0),2),?_,?_⟩
  .unfold vT Iz;rw[a0j,o8,O9 ha];rfl
  .unfold Dh;obtain⟨b,hb⟩:=a9k k N;rw[hb,o8];cases b
   .rfl
   .rw[Zt,o8,O9 (λh=>ha h.symm)];rfl
 have hne:arF k≠-1:=by rw[ha];unfold o9;omega
 unfold vT Dh;rw[b1k ha,a7c hne,Zt];simp only[o8,N9 ha.symm];cases hf:a7E k N
 .exact⟨_,rfl,rfl⟩
 simp only[E5,o6,o8,U1];obtain⟨b,hb⟩:=a5e (k,N) env;rw[show He (k,N) env=some b from hb,hb];cases b
 .exact⟨_,rfl,rfl⟩
 simp only[o8,E5,o6];rw[b1Y args hl,b3b args hl,o8];cases hp:args.all plB
 .exact⟨_,rfl,rfl⟩
 exact c0i k N args env hE hN hk ha hf hb hp
def XT.node:XT->Int×Int
 | .l0 n=>n| .l1 n _=>n| .l2 n _ _=>n| .l3 n _ _ _=>n
def rtI(t:XT)(o:Nat):Nat:=o+t.size -1
def At(e:List (Int×Int))(S:d1A)(t:XT)(o:Nat):Prop:=∃pre suf S1 S2,e=pre++t.post++suf/\S=S1++t.sts o++S2/\pre.length=o/\S1.length=o
variable {e:List (Int×Int)}{S:d1A}{o:Nat}
theorem b3i{n:Int×Int}{a:XT}(h:At e S (.l1 n a) o):At e S a o:=by obtain⟨p,s,S1,S2,h1,h2,h3,h4⟩:=h;exact⟨p,[n]++s,S1,[(o:Int)]++S2,by rw[h1];simp[XT.post],by rw[h2];simp[XT.sts],h3,h4⟩
theorem SG{n:Int×Int}{a b:XT}(h:At e S (.l2 n a b) o):At e S a o/\At e S b (o+a.size):=by
 obtain⟨p,s,S1,S2,h1,h2,h3,h4⟩:=h;exact⟨⟨p,b.post++[n]++s,S1,b.sts (o+a.size)++[(o:Int)]++S2,by rw[h1];simp[XT.post],by rw[h2];simp[XT.sts],h3,h4⟩,
  ⟨p++a.post,[n]++s,S1++a.sts o,[(o:Int)]++S2,by rw[h1];simp[XT.post],by rw[h2];simp[XT.sts],by simp[XT.post_len,h3],by simp[XT.sts_len,h4]⟩⟩
theorem Uy{n:Int×Int}{a b c:XT}(h:At e S (.l3 n a b c) o):At e S a o/\At e S b (o+a.size)/\At e S c (o+a.size+b.size):=by
 obtain⟨p,s,S1,S2,h1,h2,h3,h4⟩:=h;exact⟨⟨p,b.post++c.post++[n]++s,S1,b.sts (o+a.size)++c.sts (o+a.size+b.size)++[(o:Int)]++S2,by rw[h1];simp[XT.post],by rw[h2];simp[XT.sts],h3,h4⟩,
  ⟨p++a.post,c.post++[n]++s,S1++a.sts o,c.sts (o+a.size+b.size)++[(o:Int)]++S2,by rw[h1];simp[XT.post],by rw[h2];simp[XT.sts],by simp[XT.post_len,h3],by simp[XT.sts_len,h4]⟩,
  ⟨p++a.post++b.post,[n]++s,S1++a.sts o++b.sts (o+a.size),[(o:Int)]++S2,by rw[h1];simp[XT.post],by rw[h2];simp[XT.sts],by simp[XT.post_len,h3];try omega,by simp[XT.sts_len,h4];try omega⟩⟩
theorem b1W(t:XT):∃p,t.post=p++[t.node]/\p.length+1=t.size:=by
 have hl:=t.post_len;cases t with
 |l0 n=>exact⟨[],rfl,rfl⟩|l1 n a=>refine⟨a.post,rfl,?_⟩;simp only[XT.post,F5,au]at hl;exact hl|l2 n a b=>refine⟨a.post++b.post,rfl,?_⟩;simp only[XT.post,F5,au]at hl ⊢;exact hl|l3 n a b c=>refine⟨a.post++b.post++c.post,rfl,?_⟩;simp only[XT.post,F5,au]at hl ⊢;exact hl
theorem b7y(t:XT)(o:Nat):∃p,t.sts o=p++[(o:Int)]/\p.length+1=t.size:=by
 have hl:=t.sts_len o;cases t with
 |l0 n=>exact⟨[],rfl,rfl⟩|l1 n a=>refine⟨a.sts o,rfl,?_⟩;simp only[XT.sts,F5,au]at hl;exact hl|l2 n a b=>refine⟨a.sts o++b.sts (o+a.size),rfl,?_⟩;simp only[XT.sts,F5,au]at hl ⊢;exact hl|l3 n a b c=>refine⟨a.sts o++b.sts (o+a.size)++c.sts (o+a.size+b.size),rfl,?_⟩;simp only[XT.sts,F5,au]at hl ⊢;exact hl
variable {t:XT}
theorem uZ(h:At e S t o):e[rtI t o]? =some t.node/\S[rtI t o]? =some (o:Int)/\rtI t o<e.length:=by
 obtain⟨p,s,S1,S2,h1,h2,h3,h4⟩:=h;obtain⟨q,e1,e2⟩:=b1W t;obtain⟨q',e1',e2'⟩:=b7y t o;have hp:=t.size_pos;have a1:e[rtI t o]? =some t.node:=by rw[h1,e1,G5,G5,←G5 p,J4 (by simp[rtI];omega)];rw[show rtI t o -(p++q).length=0 by simp[rtI];omega];rfl
 refine⟨a1,?_,(X6.1 a1).1⟩;rw[h2,e1',G5,G5,←G5 S1,J4 (by simp[rtI];omega)];rw[show rtI t o -(S1++q').length=0 by simp[rtI];omega];rfl
def Og:XT->Nat->d1A
 | .l0 _,_=>[]| .l1 _ a,o=>[(rtI a o:Int)]| .l2 _ a b,o=>[(rtI a o:Int),(rtI b (o+a.size):Int)]| .l3 _ a b c,o=>[(rtI a o:Int),(rtI b (o+a.size):Int),(rtI c (o+a.size+b.size):Int)]
structure OStep (S:d1A) (f:d1A×Int×Int->Option ((d1A×Int×Int)⊕d1A)):Prop where
 step:∀(l:d1A) (c:Nat) (j:Nat) (x:Nat),j<l.length->l.length<=3->S[c]? =some ((x:Nat):Int)->x<=100->f (l,(c:Int),(j:Int))=some (.inl (l.set j (c:Int),(x:Int) -1,(j:Int) -1))
 stop:∀(l:d1A) (c:Int),f (l,c,-1)=some (.inr l)
variable {σ:Type}{ε:Type}{f:σ->Option (σ⊕ε)}
theorem FY{s s' :σ}{n:Nat}(h:f s=some (.inl s')):lU f (n+1) s=lU f n s' :=by rw[lU,h]
theorem Nc{s:σ}{e:ε}{n:Nat}(h:f s=some (.inr e)):lU f (n+1) s=some e:=by rw[lU,h]
theorem a5U{f:d1A×Int×Int->Option ((d1A×Int×Int)⊕d1A)}(hs:OStep S f)(h:At e S t o)(he:e.length<=48)(hw:t.wf):
  aB f (List.replicate (arF t.node.1).toNat 0,(rtI t o:Int) -1,arF t.node.1 -1)=some (Og t o):=by
 obtain⟨k,hk⟩:∃k,jb=k+1+1+1+1:=⟨jb -4,by unfold jb;omega⟩;unfold aB;rw[hk];have hr:=uZ h;cases t with
 |l0 n=>rw[show arF (XT.l0 n).node.1=0 from hw];exact Nc (hs.stop _ _)|l1 n a=>rw[show arF (XT.l1 n a).node.1=1 from hw.1];have ha:=uZ (b3i h);have p1:=a.size_pos;rw[show((rtI (.l1 n a) o:Nat):Int) -1=((rtI a o:Nat):Int) by simp only[rtI,XT.size];omega];rw[show((1:Int) -1)=((0:Nat):Int)from rfl,FY (hs.step _ _ 0 o x9 x9 ha.2.1 (by unfold rtI at hr;omega))];rw[show(((0:Nat):Int) -1)=-1 from rfl,Nc (hs.stop _ _)];rfl|l2 n a b=>rw[show arF (XT.l2 n a b).node.1=2 from hw.1];have ha:=uZ (SG h).1;have hb:=uZ (SG h).2;have p1:=a.size_pos;have p2:=b.size_pos;rw[show((rtI (.l2 n a b) o:Nat):Int) -1=((rtI b (o+a.size):Nat):Int) by simp only[rtI,XT.size];omega];rw[show((2:Int) -1)=((1:Nat):Int)from rfl,FY (hs.step _ _ 1 (o+a.size) x9 x9 hb.2.1 (by unfold rtI at hb;omega))];rw[show((o+a.size:Nat):Int) -1=((rtI a o:Nat):Int) by unfold rtI;omega,show(((1:Nat):Int) -1)=((0:Nat):Int)from rfl];rw[FY (hs.step _ _ 0 o x9 x9 ha.2.1 (by unfold rtI at hr;omega))];rw[show(((0:Nat):Int) -1)=-1 from rfl,Nc (hs.stop _ _)];rfl|l3 n a b c=>rw[show arF (XT.l3 n a b c).node.1=3 from hw.1];have ha:=uZ (Uy h).1;have hb:=uZ (Uy h).2.1;have hc:=uZ (Uy h).2.2;have p1:=a.size_pos;have p2:=b.size_pos;have p3:=c.size_pos;rw[show((rtI (.l3 n a b c) o:Nat):Int) -1=((rtI c (o+a.size+b.size):Nat):Int) by simp only[rtI,XT.size];omega];rw[show((3:Int) -1)=((2:Nat):Int)from rfl,FY (hs.step _ _ 2 (o+a.size+b.size) x9 x9 hc.2.1 (by unfold rtI at hc;omega))];rw[show((o+a.size+b.size:Nat):Int) -1=((rtI b (o+a.size):Nat):Int) by unfold rtI;omega,show(((2:Nat):Int) -1)=((1:Nat):Int)from rfl];rw[FY (hs.step _ _ 1 (o+a.size) x9 x9 hb.2.1 (by unfold rtI at hb;omega))];rw[show((o+a.size:Nat):Int) -1=((rtI a o:Nat):Int) by unfold rtI;omega,show(((1:Nat):Int) -1)=((0:Nat):Int)from rfl];rw[FY (hs.step _ _ 0 o x9 x9 ha.2.1 (by unfold rtI at hr;omega))];rw[show(((0:Nat):Int) -1)=-1 from rfl,Nc (hs.stop _ _)];rfl
theorem c0e(h:t.wf):0<=arF t.node.1/\arF t.node.1<=3:=by
 cases t with
 |l0 n=>rw[show arF (XT.l0 n).node.1=0 from h];decide|l1 n a=>rw[show arF (XT.l1 n a).node.1=1 from h.1];decide|l2 n a b=>rw[show arF (XT.l2 n a b).node.1=2 from h.1];decide|l3 n a b c=>rw[show arF (XT.l3 n a b c).node.1=3 from h.1];decide
theorem DD(h:0<=k)(h2:k<=1000000)(x:α):pX k x=some (List.replicate k.toNat x):=if_pos ⟨h,l7⟩
theorem KZ(env:aS)(h:At e S t o)(he:e.length<=48)(hw:t.wf):mX (e,S,env) (rtI t o:Int)=some (Og t o):=by
 have hr:=uZ h;have ha:=c0e hw;unfold mX;simp only[F7,hr.1,o8,Zt];rw[DD ha.1 l7,o8,ig];rw[show L6 .i64 ((rtI t o:Nat):Int) 1=(rtI t o:Int) -1 from X4 U7];rw[show L6 .i64 (o9 (List.replicate (arF t.node.1).toNat (0:Int))) 1=arF t.node.1 -1 by rw[show o9 (List.replicate (arF t.node.1).toNat (0:Int))=arF t.node.1 by unfold o9;rw[tN];omega];exact X4 U7]
 refine a5U ⟨λl c j x hj hl hx hx2=>?_,λl c=>?_⟩ h he hw
 .have hjl:l[j]? =some l[j]:=bn hj;simp only[Y3 (show(0:Int)<=(j:Int) by omega),o7,F7,hjl,o8,hx,V6,V9,D8,aU];rw[X4 U7,X4 U7]
 .rfl
theorem Iw{T t:XT}(hT:mF e= .inr T)(h:At e (T.sts 0) t o)(hw:t.wf):EJ e (rtI t o:Int)=some (Og t o):=by
 obtain⟨hp,he⟩:=DW hT;have hr:=uZ h;have ha:=c0e hw;unfold EJ;rw[LW,o8];unfold zg;rw[hT];simp only[F7,hr.1,o8,a0j,N9 (rfl:(0:Int)=0),E5,o6];rw[N7 (show(0:Int)<=((rtI t o:Nat):Int) by omega),Y9 (show((rtI t o:Nat):Int)<o9 e by unfold o9;omega)];simp only[o6,o8,U1];rw[DD ha.1 l7,o8,ig];rw[show L6 .i64 ((rtI t o:Nat):Int) 1=(rtI t o:Int) -1 from X4 U7];rw[show L6 .i64 (arF t.node.1) 1=arF t.node.1 -1 from X4 U7];refine a5U ⟨λl c j x hj hl hx hx2=>?_,λl c=>?_⟩ h he hw
 .have hjl:l[j]? =some l[j]:=bn hj;simp only[Y3 (show(0:Int)<=(j:Int) by omega),o7,F7,hjl,o8,hx,V6,V9,D8,aU];rw[X4 U7,X4 U7]
 .rfl
def Ea(n:Int×Int)(args:List V3)(env:aS):V3×Int:=(vT n args env).getD ((0,0,0),0)
variable {env:aS}
theorem IU{n:Int×Int}(args:List V3)(hE:EvOk env)(hI:kP n.2)(hk:n.1≠23/\n.1≠24/\n.1≠26)(hl:args.length<=3):vT n args env=some (Ea n args env)/\Dh n args env=some (Ea n args env):=by
 obtain⟨r,h1,h2⟩:=a4C n.1 n.2 args env hE (by unfold kP at hI;omega) hk l7;have e:Ea n args env=r:=by unfold Ea;rw[show vT n args env=some r from h1];rfl
 rw[e];exact⟨h1,h2⟩
def lzB(k:Int):Bool:=l9 (x8 k 23) true (l9 (x8 k 24) true (x8 k 26))
theorem b9G(h:lzB k=false):k≠23/\k≠24/\k≠26:=by refine⟨?_,?_,?_⟩<;>(rintro rfl;revert h;decide)
def Eb(r:V3×Int):V3×Int:=l9 (x8 r.2 0) (l9 (x8 r.1.1 1) (l9 (plB r.1) (r.1,0) ((0,0,0),8)) ((0,0,0),8)) ((0,0,0),r.2)
def y_(n:Int×Int)(ra rb:V3×Int):V3×Int:=l9 (x8 n.2 0) (l9 (x8 (Eb ra).2 0) (l9 (jY (x8 n.1 23) (x8 (Eb ra).1.2.2 0)) ((Eb ra).1,0) (Eb rb)) ((0,0,0),(Eb ra).2)) ((0,0,0),2)
def a5y(n:Int×Int)(ra rb rc:V3×Int):V3×Int:=l9 (x8 n.2 0) (l9 (x8 (Eb ra).2 0) (l9 (x8 (Eb ra).1.2.2 1) rb rc) ((0,0,0),(Eb ra).2)) ((0,0,0),2)
def evT(env:aS):XT->V3×Int
 | .l0 n=>Ea n [] env| .l1 n a=>l9 (x8 (evT env a).2 0) (Ea n [(evT env a).1] env) ((0,0,0),(evT env a).2)| .l2 n a b=>l9 (lzB n.1) (y_ n (evT env a) (evT env b)) (l9 (x8 (evT env a).2 0) (l9 (x8 (evT env b).2 0) (Ea n [(evT env a).1,(evT env b).1] env) ((0,0,0),(evT env b).2)) ((0,0,0),(evT env a).2))| .l3 n a b c=>a5y n (evT env a) (evT env b) (evT env c)
abbrev VSt:Type:=V3×List V3×Int
structure VStep (ops:d1A) (ev:Int->Option (V3×Int)) (pad:List V3->List V3) (f:VSt->Option (Out VSt (V3×List V3) (V3×Int))):Prop where
 step:∀(l:List V3) (c:Int) (r:V3×Int),ops[l.length]? =some c->ev c=some r->f ((0,0,0),pad l,(l.length:Int))=some (l9 (x8 r.2 0) (.nx ((0,0,0),pad (l++[r.1]),((l.length+1:Nat):Int))) (.rt ((0,0,0),r.2)))
 stop:∀(l:List V3),l.length=ops.length->f ((0,0,0),pad l,(l.length:Int))=some (.ex ((0,0,0),l))
section
variable {ev:Int->Option (V3×Int)} {pad:List V3->List V3} {f:VSt->Option (Out VSt (V3×List V3) (V3×Int))}
theorem v0(h:VStep [] ev pad f):ah f ((0,0,0),pad [],0)=some (.inl ((0,0,0),[])):=by obtain⟨k,hk⟩:∃k,jb=k+1:=⟨jb -1,by unfold jb;omega⟩;unfold ah;rw[hk,rH,show f ((0,0,0),pad [],0)=some (.ex ((0,0,0),[]))from h.stop [] rfl]
theorem v1{c:Int}{r:V3×Int}(h:VStep [c] ev pad f)(h1:ev c=some r):ah f ((0,0,0),pad [],0)=some (l9 (x8 r.2 0) (.inl ((0,0,0),[r.1])) (.inr ((0,0,0),r.2))):=by
 obtain⟨k,hk⟩:∃k,jb=k+1+1:=⟨jb -2,by unfold jb;omega⟩;unfold ah;rw[hk,rH,show f ((0,0,0),pad [],0)=_ from h.step [] c r rfl h1];cases x8 r.2 0
 .rfl
 .simp only[o7];rw[rH,show f ((0,0,0),pad ([]++[r.1]),(([].length+1:Nat):Int))=_ from h.stop [r.1] rfl]
theorem v2{c d:Int}{r q:V3×Int}(h:VStep [c,d] ev pad f)(h1:ev c=some r)(h2:ev d=some q):ah f ((0,0,0),pad [],0)=some (l9 (x8 r.2 0) (l9 (x8 q.2 0) (.inl ((0,0,0),[r.1,q.1])) (.inr ((0,0,0),q.2))) (.inr ((0,0,0),r.2))):=by
 obtain⟨k,hk⟩:∃k,jb=k+1+1+1:=⟨jb -3,by unfold jb;omega⟩;unfold ah;rw[hk,rH,show f ((0,0,0),pad [],0)=_ from h.step [] c r rfl h1];cases x8 r.2 0
 .rfl
 .simp only[o7];rw[rH,show f ((0,0,0),pad ([]++[r.1]),(([].length+1:Nat):Int))=_ from h.step [r.1] d q rfl h2];cases x8 q.2 0
  .rfl
  .simp only[o7];rw[rH,show f ((0,0,0),pad ([r.1]++[q.1]),(([r.1].length+1:Nat):Int))=_ from h.stop [r.1,q.1] rfl]
end
theorem a2X(h:arF k=0\/arF k=1):k≠23/\k≠24/\k≠26:=by refine⟨?_,?_,?_⟩<;>(rintro rfl;revert h;decide)
theorem b3g(h:arF k=2):k≠26:=by rintro rfl;revert h;decide
theorem b3h(h:arF k=3):k=26:=by obtain⟨i,rfl⟩:=c0y (by rw[h];decide);rw[(b3f i).2.2.2 h];rfl
theorem c7T(n:Nat)(E:bI)(i:Int):(D7 (n+1)).1 E i=rU (D7 n).1 (D7 n).2.1 (D7 n).2.2 E i:=rfl
theorem c7U(n:Nat)(E:bI)(i:Int):(D7 (n+1)).2.1 E i=wu (D7 n).1 (D7 n).2.1 (D7 n).2.2 E i:=rfl
theorem b9R(n:Nat)(E:bI)(x:Int×Int)(l:d1A):(D7 (n+1)).2.2 E x l=pU (D7 n).1 (D7 n).2.1 (D7 n).2.2 E x l:=rfl
variable {E:bI}
theorem TA{n:Nat}{i:Int}{r:V3×Int}(h:(D7 n).2.1 E i=some r):(D7 (n+1)).1 E i=some (Eb r):=by
 rw[c7T];unfold rU Eb;rw[h,o8];cases x8 r.2 0
 .rfl
 cases x8 r.1.1 1
 .rfl
 simp only[E5,o6,o7];rw[Ar,o8];cases plB r.1<;>rfl
variable {ra:V3×Int}{rb:V3×Int}
theorem b3W{n:Nat}{x:Int×Int}{i j:Int}(hx:x.1≠26)(h1:(D7 n).2.1 E i=some ra)(h2:(D7 n).2.1 E j=some rb):(D7 (n+2)).2.2 E x [i,j]=some (y_ x ra rb):=by
 rw[show n+2=(n+1)+1 from rfl,b9R];unfold pU y_;rw[show F9 [i,j] 0=some i from rfl,show F9 [i,j] 1=some j from rfl];simp only[o8];rw[TA h1,TA h2,O9 hx];cases x8 x.2 0
 .rfl
 simp only[o8,E5,o6,o7];cases x8 (Eb ra).2 0
 .rfl
 simp only[E5,o6,o7];cases jY (x8 x.1 23) (x8 (Eb ra).1.2.2 0)<;>rfl
theorem b3X{n:Nat}{x:Int×Int}{i j l:Int}{ra rb rc:V3×Int}(hx:x.1=26)(h1:(D7 n).2.1 E i=some ra)(h2:(D7 (n+1)).2.1 E j=some rb)(h3:(D7 (n+1)).2.1 E l=some rc):(D7 (n+2)).2.2 E x [i,j,l]=some (a5y x ra rb rc):=by
 rw[show n+2=(n+1)+1 from rfl,b9R];unfold pU a5y;rw[show F9 [i,j,l] 0=some i from rfl,show F9 [i,j,l] 1=some j from rfl,show F9 [i,j,l] 2=some l from rfl];simp only[o8];rw[TA h1,h2,h3,N9 hx];cases x8 x.2 0
 .rfl
 simp only[o8,E5,o6,o7];cases x8 (Eb ra).2 0
 .rfl
 simp only[E5,o6,o7];cases x8 (Eb ra).1.2.2 1<;>rfl
def a1r(m:Nat)(l:List V3):List V3:=l++List.replicate (m -l.length) (0,0,0)
theorem b4Q{m:Nat}{l:List V3}(h:l.length<m):(a1r m l)[l.length]? =some (0,0,0):=by unfold a1r;rw[J4 (E9 _),dX,jC,if_pos l7]
theorem b4R{m:Nat}{l:List V3}(v:V3)(h:l.length<m):(a1r m l).set l.length v=a1r m (l++[v]):=by unfold a1r;obtain⟨k,hk⟩:∃k,m -l.length=k+1:=⟨m -l.length -1,l7⟩;rw[kF _ _ (E9 _),dX,hk,lT,xk];rw[show m -(l++[v]).length=k by simp;omega];simp
theorem b1V{m:Nat}{l:List V3}(h:l.length=m):a1r m l=l:=by unfold a1r;rw[h,dX];simp
def b0j(ev:Int->Option (V3×Int))(ops:d1A)(x:VSt):Option (Out VSt (V3×List V3) (V3×Int)):=
 l9 (E8 x.2.2 (o9 ops))
  (o5 (F9 ops x.2.2) λ(x_4:Int)=>
   o5 (V6 ops (V9 x.2.2)) λ(x_5:Int)=>
    o5 (ev x_5) λ(x_6:V3×Int)=>
     l9 (F8 (x8 x_6.2 0)) (some (Out.rt ((0,0,0),x_6.2)))
      (o5 (F9 x.2.1 x.2.2) λ(x_7:V3)=>
       o5 (V6 x.2.1 (V9 x.2.2)) λ(x_8:V3)=>
        some (Out.nx (x.1,aU x.2.1 (V9 x.2.2) x_6.1,D5 IntKind.i64 x.2.2 1))))
  (some (Out.ex (x.1,x.2.1)))
theorem TV(ev:Int->Option (V3×Int))(ops:d1A)(ho:ops.length<=3):VStep ops ev (a1r ops.length) (b0j ev ops):=by
 refine⟨λl c r h1 h2=>?_,λl h=>?_⟩
 .have hl:=(X6.1 h1).1;unfold b0j;simp only[J7 h1,o7,F7,h1,o8,V6,V9,D8,h2,b4Q hl,aU,b4R _ hl];cases x8 r.2 0
  .rfl
  .simp only[E5,o6,o7];rw[Y4 l7]
 .unfold b0j;rw[b1V h,h,J6];rfl
theorem YT(n:Nat)(E:bI)(i:Int)(x:Int×Int)(ops:d1A)(h1:F9 E.1 i=some x)(h2:mX E i=some ops)(ho:ops.length<=3):
  (D7 (n+1)).2.1 E i=l9 (lzB x.1) ((D7 n).2.2 E x ops)
   (o5 (ah (b0j ((D7 n).2.1 E) ops) ((0,0,0),a1r ops.length [],0)) λ(o:V3×List V3⊕V3×Int)=>aj o (λ(y:V3×List V3)=>Dh x y.2 E.2.2) λ(r:V3×Int)=>some r):=by
 rw[c7U];unfold wu lzB;simp only[h1,h2,o8,ig];rw[show o9 ops=(ops.length:Int)from rfl];have hp:pX (ops.length:Int) (((0,0,0):Int×Int×Int))=some (a1r ops.length []):=by rw[DD l7 l7];rfl
 cases g1:x8 x.1 23
 .cases g2:x8 x.1 24
  .cases g3:x8 x.1 26
   .simp only[o6,o8,U1];rw[show pX (ops.length:Int) _=_ from hp,o8];rfl
   .simp only[o6,o7];generalize (D7 n).2.2 E x ops=q;cases q<;>rfl
  .simp only[o6,o7];generalize (D7 n).2.2 E x ops=q;cases q<;>rfl
 .simp only[o7];generalize (D7 n).2.2 E x ops=q;cases q<;>rfl
theorem Vp(t:XT)(o:Nat):(Og t o).length<=3:=by cases t<;>simp[Og]
theorem a5b(hE:EvOk env)(he:e.length<=48)(hI:∀n∈e,kP n.2):∀(t:XT) (o k:Nat),At e S t o->t.wf->3*t.size<=k->(D7 k).2.1 (e,S,env) (rtI t o:Int)=some (evT env t):=by
 intro t;induction t with
 |l0 n=>intro o k h hw hk;have hr:=uZ h;obtain⟨k,rfl⟩:∃m,k=m+3:=⟨k -3,by simp only[XT.size]at hk;omega⟩;have hz:=a2X (.inl (show arF n.1=0 from hw));rw[show k+3=(k+2)+1 from rfl,YT _ _ _ n (Og (.l0 n) o) (by rw[F7];exact hr.1) (KZ env h he hw) (Vp _ _)];rw[show lzB n.1=false by unfold lzB;rw[O9 hz.1,O9 hz.2.1,O9 hz.2.2];rfl,o6];rw[show Og (.l0 n) o=[]from rfl,v0 (TV _ _ x9),o8,U1];exact(IU [] hE (hI n (kw hr.1)) hz x9).2
 |l1 n a iha=>
  intro o k h hw hk;have hr:=uZ h;simp only[XT.size]at hk;obtain⟨k,rfl⟩:∃m,k=m+3:=⟨k -3,l7⟩;have hz:=a2X (.inr (show arF n.1=1 from hw.1));rw[show k+3=(k+2)+1 from rfl,YT _ _ _ n (Og (.l1 n a) o) (by rw[F7];exact hr.1) (KZ env h he hw) (Vp _ _)];rw[show lzB n.1=false by unfold lzB;rw[O9 hz.1,O9 hz.2.1,O9 hz.2.2];rfl,o6];rw[show Og (.l1 n a) o=[(rtI a o:Int)]from rfl,v1 (TV _ _ x9) (iha o (k+2) (b3i h) hw.2 l7),o8];rw[show evT env (.l1 n a)=l9 (x8 (evT env a).2 0) (Ea n [(evT env a).1] env) ((0,0,0),(evT env a).2)from rfl];cases x8 (evT env a).2 0
  .rfl
  exact(IU [(evT env a).1] hE (hI n (kw hr.1)) hz x9).2
 |l2 n a b iha ihb=>
  intro o k h hw hk;have hr:=uZ h;simp only[XT.size]at hk;obtain⟨k,rfl⟩:∃m,k=m+3:=⟨k -3,l7⟩;have hz:=b3g (show arF n.1=2 from hw.1);rw[show k+3=(k+2)+1 from rfl,YT _ _ _ n (Og (.l2 n a b) o) (by rw[F7];exact hr.1) (KZ env h he hw) (Vp _ _)];rw[show Og (.l2 n a b) o=[(rtI a o:Int),(rtI b (o+a.size):Int)]from rfl];rw[show evT env (.l2 n a b)=l9 (lzB n.1) (y_ n (evT env a) (evT env b)) (l9 (x8 (evT env a).2 0) (l9 (x8 (evT env b).2 0) (Ea n [(evT env a).1,(evT env b).1] env) ((0,0,0),(evT env b).2)) ((0,0,0),(evT env a).2))from rfl];cases hl:lzB n.1
  .have hz:=b9G hl;simp only[o6];rw[v2 (TV _ _ x9) (iha o (k+2) (SG h).1 hw.2.1 l7) (ihb (o+a.size) (k+2) (SG h).2 hw.2.2 l7),o8];cases x8 (evT env a).2 0
   .rfl
   cases x8 (evT env b).2 0
   .rfl
   exact(IU [(evT env a).1,(evT env b).1] hE (hI n (kw hr.1)) hz x9).2
  .simp only[o7];exact b3W hz (iha o k (SG h).1 hw.2.1 l7) (ihb (o+a.size) k (SG h).2 hw.2.2 l7)
 |l3 n a b c iha ihb ihc=>intro o k h hw hk;have hr:=uZ h;simp only[XT.size]at hk;obtain⟨k,rfl⟩:∃m,k=m+3:=⟨k -3,l7⟩;have hz:=b3h (show arF n.1=3 from hw.1);rw[show k+3=(k+2)+1 from rfl,YT _ _ _ n (Og (.l3 n a b c) o) (by rw[F7];exact hr.1) (KZ env h he hw) (Vp _ _)];rw[show lzB n.1=true by rw[hz];decide,o7];exact b3X hz (iha o k (Uy h).1 hw.2.1 l7) (ihb (o+a.size) (k+1) (Uy h).2.1 hw.2.2.1 l7) (ihc (o+a.size+b.size) (k+1) (Uy h).2.2 hw.2.2.2 l7)
theorem c0X(n:Nat)(e:List (Int×Int))(i:Int)(env:aS):(ak (n+1)).1 e i env=Gj (ak n).1 (ak n).2 e i env:=rfl
theorem b5U(n:Nat)(e:List (Int×Int))(i:Int)(l:d1A)(env:aS):(ak (n+1)).2 e i l env=CO (ak n).1 (ak n).2 e i l env:=rfl
def a4f(ev:Int->Option (V3×Int))(ops:d1A)(x:VSt):Option (Out VSt (V3×List V3) (V3×Int)):=
 l9 (E8 x.2.2 (o9 ops))
  (o5 (F9 ops x.2.2) λ(x_4:Int)=>
   o5 (V6 ops (V9 x.2.2)) λ(x_5:Int)=>
    o5 (ev x_5) λ(x_6:V3×Int)=>
     l9 (F8 (x8 x_6.2 0)) (some (Out.rt ((0,0,0),x_6.2)))
      (o5 (cu x.2.1 [x_6.1]) λ(y:List V3)=>some (Out.nx (x.1,y,D5 IntKind.i64 x.2.2 1))))
  (some (Out.ex (x.1,x.2.1)))
theorem QB(ev:Int->Option (V3×Int))(ops:d1A)(ho:ops.length<=3):VStep ops ev (λl=>l) (a4f ev ops):=by
 refine⟨λl c r h1 h2=>?_,λl h=>?_⟩
 .have hl:=(X6.1 h1).1;unfold a4f;simp only[J7 h1,o7,F7,h1,o8,V6,V9,D8,h2];cases x8 r.2 0
  .rfl
  .simp only[E5,o6,o7];rw[fQ _ l7,o8,Y4 l7]
 .unfold a4f;rw[h,J6];rfl
theorem VH(n:Nat)(e:List (Int×Int))(env:aS)(i:Int)(x:Int×Int)(ops:d1A)(h1:F9 e i=some x)(h2:EJ e i=some ops):
  (ak (n+1)).1 e i env=l9 (lzB x.1) ((ak n).2 e i ops env)
   (o5 (ah (a4f (λc=>(ak n).1 e c env) ops) ((0,0,0),[],0)) λ(o:V3×List V3⊕V3×Int)=>aj o (λ(y:V3×List V3)=>vT x y.2 env) λ(r:V3×Int)=>some r):=by
 rw[c0X];unfold Gj lzB;simp only[h1,h2,o8,ig];cases g1:x8 x.1 23
 .cases g2:x8 x.1 24
  .cases g3:x8 x.1 26
   .rfl
   .simp only[o6,o7];generalize (ak n).2 e i ops env=q;cases q<;>rfl
  .simp only[o6,o7];generalize (ak n).2 e i ops env=q;cases q<;>rfl
 .simp only[o7];generalize (ak n).2 e i ops env=q;cases q<;>rfl
theorem PK(r:V3×Int):(x8 r.2 0=false/\(Eb r)=((0,0,0),r.2))\/(x8 r.2 0=true/\x8 r.1.1 1=false/\Eb r=((0,0,0),8))\/(x8 r.2 0=true/\x8 r.1.1 1=true/\plB r.1=false/\Eb r=((0,0,0),8))\/(x8 r.2 0=true/\x8 r.1.1 1=true/\plB r.1=true/\Eb r=(r.1,0)):=by
 unfold Eb;cases x8 r.2 0
 .exact .inl ⟨rfl,rfl⟩
 cases x8 r.1.1 1
 .exact .inr (.inl ⟨rfl,rfl,rfl⟩)
 cases plB r.1
 .exact .inr (.inr (.inl ⟨rfl,rfl,rfl,rfl⟩))
 .exact .inr (.inr (.inr ⟨rfl,rfl,rfl,rfl⟩))
theorem b2q{n:Nat}{c:Int}{x:Int×Int}{i j:Int}(hc:F9 e c=some x)(hx:x.1≠26)(h1:(ak n).1 e i env=some ra)(h2:(ak n).1 e j env=some rb):(ak (n+1)).2 e c [i,j] env=some (y_ x ra rb):=by
 rw[b5U];unfold CO y_;rw[show F9 [i,j] 0=some i from rfl,show F9 [i,j] 1=some j from rfl];simp only[hc,o8,h1,h2,yK,O9 hx];cases x8 x.2 0
 .rfl
 rcases PK ra with⟨g1,g2⟩|⟨g1,g2,g3⟩|⟨g1,g2,g3,g4⟩|⟨g1,g2,g3,g4⟩
 .rw[g2,g1];rfl
 .rw[g1,g2,g3];rfl
 .rw[g1,g2,g3,g4];rfl
 .rw[g1,g2,g3,g4];simp only[E5,o6,o7,o8,U1,N9 (rfl:(0:Int)=0)];cases jY (x8 x.1 23) (x8 ra.1.2.2 0)
  .rcases PK rb with⟨g1,g2⟩|⟨g1,g2,g3⟩|⟨g1,g2,g3,g4⟩|⟨g1,g2,g3,g4⟩
   .rw[g2,g1];rfl
   .rw[g1,g2,g3];rfl
   .rw[g1,g2,g3,g4];rfl
   .rw[g1,g2,g3,g4];rfl
  .rfl
theorem b2r{n:Nat}{c:Int}{x:Int×Int}{i j l:Int}{ra rb rc:V3×Int}(hc:F9 e c=some x)(hx:x.1=26)(h1:(ak n).1 e i env=some ra)(h2:(ak n).1 e j env=some rb)(h3:(ak n).1 e l env=some rc):(ak (n+1)).2 e c [i,j,l] env=some (a5y x ra rb rc):=by
 rw[b5U];unfold CO a5y;rw[show F9 [i,j,l] 0=some i from rfl,show F9 [i,j,l] 1=some j from rfl,show F9 [i,j,l] 2=some l from rfl];simp only[hc,o8,h1,h2,h3,yK,N9 hx];cases x8 x.2 0
 .rfl
 rcases PK ra with⟨g1,g2⟩|⟨g1,g2,g3⟩|⟨g1,g2,g3,g4⟩|⟨g1,g2,g3,g4⟩
 .rw[g2,g1];rfl
 .rw[g1,g2,g3];rfl
 .rw[g1,g2,g3,g4];rfl
 .rw[g1,g2,g3,g4];simp only[E5,o6,o7,o8,U1,N9 (rfl:(0:Int)=0)];cases x8 ra.1.2.2 1<;>rfl
theorem a3O{T:XT}(hE:EvOk env)(hT:mF e= .inr T)(hI:∀n∈e,kP n.2):∀(t:XT) (o k:Nat),At e (T.sts 0) t o->t.wf->3*t.size<=k->(ak k).1 e (rtI t o:Int) env=some (evT env t):=by
 intro t;induction t with
 |l0 n=>intro o k h hw hk;have hr:=uZ h;obtain⟨k,rfl⟩:∃m,k=m+3:=⟨k -3,by simp only[XT.size]at hk;omega⟩;have hz:=a2X (.inl (show arF n.1=0 from hw));rw[show k+3=(k+2)+1 from rfl,VH _ _ _ _ n (Og (.l0 n) o) (by rw[F7];exact hr.1) (Iw hT h hw)];rw[show lzB n.1=false by unfold lzB;rw[O9 hz.1,O9 hz.2.1,O9 hz.2.2];rfl,o6];rw[show Og (.l0 n) o=[]from rfl,v0 (QB _ _ x9),o8,U1];exact(IU [] hE (hI n (kw hr.1)) hz x9).1
 |l1 n a iha=>
  intro o k h hw hk;have hr:=uZ h;simp only[XT.size]at hk;obtain⟨k,rfl⟩:∃m,k=m+3:=⟨k -3,l7⟩;have hz:=a2X (.inr (show arF n.1=1 from hw.1));rw[show k+3=(k+2)+1 from rfl,VH _ _ _ _ n (Og (.l1 n a) o) (by rw[F7];exact hr.1) (Iw hT h hw)];rw[show lzB n.1=false by unfold lzB;rw[O9 hz.1,O9 hz.2.1,O9 hz.2.2];rfl,o6];rw[show Og (.l1 n a) o=[(rtI a o:Int)]from rfl,v1 (QB _ _ x9) (iha o (k+2) (b3i h) hw.2 l7),o8];rw[show evT env (.l1 n a)=l9 (x8 (evT env a).2 0) (Ea n [(evT env a).1] env) ((0,0,0),(evT env a).2)from rfl];cases x8 (evT env a).2 0
  .rfl
  exact(IU [(evT env a).1] hE (hI n (kw hr.1)) hz x9).1
 |l2 n a b iha ihb=>
  intro o k h hw hk;have hr:=uZ h;simp only[XT.size]at hk;obtain⟨k,rfl⟩:∃m,k=m+3:=⟨k -3,l7⟩;have hz:=b3g (show arF n.1=2 from hw.1);rw[show k+3=(k+2)+1 from rfl,VH _ _ _ _ n (Og (.l2 n a b) o) (by rw[F7];exact hr.1) (Iw hT h hw)];rw[show Og (.l2 n a b) o=[(rtI a o:Int),(rtI b (o+a.size):Int)]from rfl];rw[show evT env (.l2 n a b)=l9 (lzB n.1) (y_ n (evT env a) (evT env b)) (l9 (x8 (evT env a).2 0) (l9 (x8 (evT env b).2 0) (Ea n [(evT env a).1,(evT env b).1] env) ((0,0,0),(evT env b).2)) ((0,0,0),(evT env a).2))from rfl];cases hl:lzB n.1
  .have hz:=b9G hl;simp only[o6];rw[v2 (QB _ _ x9) (iha o (k+2) (SG h).1 hw.2.1 l7) (ihb (o+a.size) (k+2) (SG h).2 hw.2.2 l7),o8];cases x8 (evT env a).2 0
   .rfl
   cases x8 (evT env b).2 0
   .rfl
   exact(IU [(evT env a).1,(evT env b).1] hE (hI n (kw hr.1)) hz x9).1
  .simp only[o7];exact b2q (by rw[F7];exact hr.1) hz (iha o (k+1) (SG h).1 hw.2.1 l7) (ihb (o+a.size) (k+1) (SG h).2 hw.2.2 l7)
 |l3 n a b c iha ihb ihc=>intro o k h hw hk;have hr:=uZ h;simp only[XT.size]at hk;obtain⟨k,rfl⟩:∃m,k=m+3:=⟨k -3,l7⟩;have hz:=b3h (show arF n.1=3 from hw.1);rw[show k+3=(k+2)+1 from rfl,VH _ _ _ _ n (Og (.l3 n a b c) o) (by rw[F7];exact hr.1) (Iw hT h hw)];rw[show lzB n.1=true by rw[hz];decide,o7];exact b2r (by rw[F7];exact hr.1) hz (iha o (k+1) (Uy h).1 hw.2.1 l7) (ihb (o+a.size) (k+1) (Uy h).2.1 hw.2.2.1 l7) (ihc (o+a.size+b.size) (k+1) (Uy h).2.2 hw.2.2.2 l7)
def uB(e:List (Int×Int))(env:aS):V3×Int:=match mF e with
 | .inl x=>((0,0,0),x.2)| .inr t=>evT env t
theorem a4H(h:mF e= .inr t):At e (t.sts 0) t 0/\e.length<=48/\e.length=t.size/\L6 .i64 (o9 e) 1=(rtI t 0:Int):=by
 obtain⟨hp,h48⟩:=DW h;have hsz:e.length=t.size:=by rw[hp,XT.post_len]
 have hpos:=t.size_pos;refine⟨⟨[],[],[],[],by simp[←hp],x9,rfl,rfl⟩,h48,hsz,?_⟩;rw[X4 (by unfold kP o9;omega)];unfold o9 rtI;omega
theorem a9N(hE:EvOk env)(hI:∀n∈e,kP n.2):MN e env=some (uB e env):=by
 unfold MN PU uB;rw[VO];unfold zg;cases h:mF e with
 |inl x=>simp only[o8,O9 (DV h)];rfl|inr t=>obtain⟨h1,h2,h3,h4⟩:=a4H h;simp only[o8,N9 (rfl:(0:Int)=0),E5,o6,ig];rw[h4,show Bj (e,t.sts 0,env) ((rtI t 0:Nat):Int)=some (evT env t)from a5b hE h2 hI t 0 jb h1 (RZ h) (by unfold jb;omega)]<;>rfl
theorem a6a(hE:EvOk env)(hI:∀n∈e,kP n.2):JM e env=some (uB e env):=by
 unfold JM OA uB;rw[LW];unfold zg;cases h:mF e with
 |inl x=>simp only[o8,O9 (DV h)];rfl|inr t=>obtain⟨h1,h2,h3,h4⟩:=a4H h;simp only[o8,N9 (rfl:(0:Int)=0),E5,o6,ig];rw[h4,show Qv e ((rtI t 0:Nat):Int) env=some (evT env t)from a3O hE h hI t 0 jb h1 (RZ h) (by unfold jb;omega)]<;>rfl
abbrev E4:Type:=Int×Int×Int×Int
def FC(s:A7)(env:aS)(m d:Int)(ap:d1E)(i:Int):d1E⊕(Int×E4):=
 match F9 s.2.2.2.2 i with
 |none=> .inl ap|some r=>l9 (x8 (o9 r.2.2.2.2.2.1) 0) (.inl (ap++[true])) (l9 (x8 (uB r.2.2.2.2.2.1 env).2 0) (.inl (ap++[x8 (uB r.2.2.2.2.2.1 env).1.2.2 1])) (.inr (0,(uB r.2.2.2.2.2.1 env).2,m,d,i)))
def Z4(s:A7)(env:aS)(m d:Int):Int×E4:=
 match bD (FC s env m d) (aV s d env.1).1 []with
 | .inr e=>e| .inl ap=>l9 (E8 (AX (aV s d env.1).2.1 (aV s d env.1).2.2 ap) 0) (AX (aV s d env.1).2.1 (aV s d env.1).2.2 ap,0,0,0,0) (((aV s d env.1).1.getD (AX (aV s d env.1).2.1 (aV s d env.1).2.2 ap).toNat 0),0,0,0,0)
variable {s:A7}
theorem a0O{d t i:Int}(h:i∈(aV s d t).1):∃r,F9 s.2.2.2.2 i=some r/\r∈s.2.2.2.2:=by have h:i∈castL (V5 s d t):=h;obtain⟨k,hk,rfl⟩:=U0.1 h;have:=(jH hk).1;exact mO l7 (by unfold o9;omega)
theorem QL(s:A7)(d t:Int):(aV s d t).1.length<=s.2.2.2.2.length/\(aV s d t).2.1.length=(aV s d t).1.length:=by
 refine⟨?_,?_⟩
 .show(castL (V5 s d t)).length<=_;rw[MI];exact ED _ _
 .show((V5 s d t).map _).length=(castL (V5 s d t)).length;rw[MI,H7]
theorem b3s{oc pr:Int->Int}{l:d1A}(hn:0<=n)(h:∀x∈l,oc x<n):chF oc pr l<n:=by
 unfold chF;cases hb:rq oc pr l with
 |nil=>show(-1:Int)<n;omega|cons b r=>
  cases r with
  |nil=>exact h b (MC (oc:=oc) (pr:=pr) (by rw[hb];simp))|cons c r=>show(-2:Int)<n;omega
theorem b4w(par prio:d1A)(ap:d1E):∀(k:Nat) (i:Int),i<par.length->ocF par prio ap k i<par.length
 |0,i,h=>by show(-1:Int)<_;omega|k+1,i,h=>by
  unfold ocF;have hb:chF (ocF par prio ap k) (prF prio) (castL (kids par i))<(par.length:Int):=b3s l7 λx hx=>by unfold castL at hx;obtain⟨j,hj,rfl⟩:=U0.1 hx;have:=(YR hj).1;exact b4w par prio ap k _ l7
  cases x8 (chF (ocF par prio ap k) (prF prio) (castL (kids par i))) (-1)
  .exact hb
  .cases apF ap i
   .show(-1:Int)<_;omega
   .exact h
theorem Za(par prio:d1A)(ap:d1E):AX par prio ap<par.length:=by
 unfold AX;cases x8 (Aa par prio) 0
 .show(-1:Int)<_;omega
 cases x8 (o9 ap) (o9 par)
 .show(-1:Int)<_;omega
 show chS par prio ap (-1)<_;unfold chS;refine b3s l7 λx hx=>?_;unfold castL at hx;obtain⟨j,hj,rfl⟩:=U0.1 hx;have:=(YR hj).1;unfold OC;exact b4w par prio ap _ _ l7
def a3F(m:Nat)(l:d1E):d1E:=l++List.replicate (m -l.length) false
theorem b4O{m:Nat}{l:d1E}(h:l.length<m):(a3F m l)[l.length]? =some false:=by unfold a3F;rw[J4 (E9 _),dX,jC,if_pos l7]
theorem b4P{m:Nat}{l:d1E}(v:Bool)(h:l.length<m):(a3F m l).set l.length v=a3F m (l++[v]):=by unfold a3F;obtain⟨k,hk⟩:∃k,m -l.length=k+1:=⟨m -l.length -1,l7⟩;rw[kF _ _ (E9 _),dX,hk,lT,xk];rw[show m -(l++[v]).length=k by simp;omega];simp
theorem b1U{m:Nat}{l:d1E}(h:l.length=m):a3F m l=l:=by unfold a3F;rw[h,dX];simp
theorem ZJ(s:A7)(env:aS)(m d:Int)(ap:d1E):
  l9 (E8 (AX (aV s d env.1).2.1 (aV s d env.1).2.2 ap) 0) (some ((AX (aV s d env.1).2.1 (aV s d env.1).2.2 ap,0,0,0,0):Int×E4))
   (o5 (F9 (aV s d env.1).1 (AX (aV s d env.1).2.1 (aV s d env.1).2.2 ap)) λ(x_3:Int)=>o5 (V6 (aV s d env.1).1 (V9 (AX (aV s d env.1).2.1 (aV s d env.1).2.2 ap))) λ(x:Int)=>some (x,0,0,0,0))=
  some (l9 (E8 (AX (aV s d env.1).2.1 (aV s d env.1).2.2 ap) 0) (AX (aV s d env.1).2.1 (aV s d env.1).2.2 ap,0,0,0,0) (((aV s d env.1).1.getD (AX (aV s d env.1).2.1 (aV s d env.1).2.2 ap).toNat 0),0,0,0,0)):=by
 have hb:=Za (aV s d env.1).2.1 (aV s d env.1).2.2 ap;have hl:=(QL s d env.1).2;generalize AX (aV s d env.1).2.1 (aV s d env.1).2.2 ap=q at*;generalize (aV s d env.1).1=L at*;by_cases g:q<0
 .rw[U8 g];rfl
 rw[N7 (iT.1 g)];obtain⟨i,rfl⟩:∃i:Nat,q=(i:Int):=⟨q.toNat,l7⟩;have hi:i<L.length:=l7;have e:=bn hi;simp only[o6,F7,e,o8,V6,V9,D8,qY,dP]
theorem a6A(hs:SmS s)(hE:EvOk env)(m d:Int):Cc s env m d=some (Z4 s env m d):=by
 have hnr:=hs.nr;have hlen:=(QL s d env.1).1;unfold Cc;rw[b2H l7,o8];rw[show pX (o9 (aV s d env.1).1) false=some (a3F (aV s d env.1).1.length []) by rw[show o9 (aV s d env.1).1=((aV s d env.1).1.length:Int)from rfl,DD l7 l7];rfl,o8];unfold Z4;apply pJ (aV s d env.1).1 (FC s env m d) (λb i=>(((0,0,0,0),a3F (aV s d env.1).1.length b,i):E4×d1E×Int)) (λb=>(((0,0,0,0),b):E4×d1E)) (λi b=>b.length=i) [] l7 rfl
 .intro i a b hi hi' hb;obtain⟨r,hr,hm⟩:=a0O (kw hi);have hlt:=(X6.1 hi).1;have hI:=(hs.ro r hm).1.2.2;subst hb;simp only[J7 hi,o7,F7,hi,o8,V6,V9,D8,hr,b4O hlt,aU,b4P _ hlt];unfold FC;rw[hr];simp only;cases x8 (o9 r.2.2.2.2.2.1) 0
  .simp only[o6];rw[a9N hE hI.1,o8];cases x8 (uB r.2.2.2.2.2.1 env).2 0
   .exact⟨rfl,λ_ h=>by cases h⟩
   .simp only[E5,o6,o7];rw[Y4 l7];exact⟨rfl,λ_ h=>by cases h;simp⟩
  .simp only[o7];rw[Y4 l7];exact⟨rfl,λ_ h=>by cases h;simp⟩
 .intro b hb;rw[J6,b1U hb];rfl
 .intro _;cases bD (FC s env m d) (aV s d env.1).1 []with
  |inr e=>rfl|inl ap=>simp only[U1,b2y,o8];exact ZJ s env m d ap
theorem b0Y(hs:SmS s)(hE:EvOk env)(m d:Int):IG s env m d=some (Z4 s env m d):=by
 have hnr:=hs.nr;have hlen:=(QL s d env.1).1;unfold IG;rw[a8p l7,o8];unfold Z4;apply pJ (aV s d env.1).1 (FC s env m d) (λb i=>(((0,0,0,0),b,i):E4×d1E×Int)) (λb=>(((0,0,0,0),b):E4×d1E)) (λi b=>b.length=i) [] l7 rfl
 .intro i a b hi hi' hb;obtain⟨r,hr,hm⟩:=a0O (kw hi);have hlt:=(X6.1 hi).1;have hI:=(hs.ro r hm).1.2.2;subst hb;simp only[J7 hi,o7,F7,hi,o8,V6,V9,D8,hr];unfold FC;rw[hr];simp only;cases x8 (o9 r.2.2.2.2.2.1) 0
  .simp only[o6];rw[a6a hE hI.1,o8];cases x8 (uB r.2.2.2.2.2.1 env).2 0
   .exact⟨rfl,λ_ h=>by cases h⟩
   .simp only[E5,o6,o7];rw[fQ _ l7,o8,Y4 l7];exact⟨rfl,λ_ h=>by cases h;simp⟩
  .simp only[o7];rw[fQ _ l7,o8,Y4 l7];exact⟨rfl,λ_ h=>by cases h;simp⟩
 .intro b hb;rw[J6];rfl
 .intro _;cases bD (FC s env m d) (aV s d env.1).1 []with
  |inr e=>rfl|inl ap=>simp only[U1,a8o,o8];exact ZJ s env m d ap
theorem b3t{oc pr:Int->Int}{l:d1A}(h:∀x∈l,-2<=oc x):-2<=chF oc pr l:=by
 unfold chF;cases hb:rq oc pr l with
 |nil=>show -2<=(-1:Int);omega|cons b r=>
  cases r with
  |nil=>exact h b (MC (oc:=oc) (pr:=pr) (by rw[hb];simp))|cons c r=>show -2<=(-2:Int);omega
theorem b4x(par prio:d1A)(ap:d1E):∀(k:Nat) (i:Int),0<=i->-2<=ocF par prio ap k i
 |0,i,h=>by show -2<=(-1:Int);omega|k+1,i,h=>by
  unfold ocF;have hb:-2<=chF (ocF par prio ap k) (prF prio) (castL (kids par i)):=b3t λx hx=>by unfold castL at hx;obtain⟨j,hj,rfl⟩:=U0.1 hx;exact b4x par prio ap k _ l7
  cases x8 (chF (ocF par prio ap k) (prF prio) (castL (kids par i))) (-1)
  .exact hb
  .cases apF ap i
   .show -2<=(-1:Int);omega
   .show -2<=i;omega
theorem b0A(par prio:d1A)(ap:d1E):-2<=AX par prio ap:=by
 unfold AX;cases x8 (Aa par prio) 0
 .show -2<=(-1:Int);omega
 cases x8 (o9 ap) (o9 par)
 .show -2<=(-1:Int);omega
 show -2<=chS par prio ap (-1);unfold chS;refine b3t λx hx=>?_;unfold castL at hx;obtain⟨j,hj,rfl⟩:=U0.1 hx;unfold OC;exact b4x par prio ap _ _ l7
theorem UK(b:d1E)(i:Int)(r:Int×E4)(h:FC s env m d b i= .inr r):r.2.1≠0:=by
 unfold FC at h;cases hl:F9 s.2.2.2.2 i with
 |none=>rw[hl]at h;cases h|some q=>
  rw[hl]at h;simp only at h;cases h1:x8 (o9 q.2.2.2.2.2.1) 0<;>rw[h1]at h
  .cases h2:x8 (uB q.2.2.2.2.2.1 env).2 0<;>rw[h2]at h<;>cases h;simp only;intro h3;rw[N9 h3]at h2;cases h2
  .cases h
theorem XI(h0:(Z4 s env m d).2.1=0)(h1:(Z4 s env m d).1≠-1)(h2:(Z4 s env m d).1≠-2):∃r,F9 s.2.2.2.2 (Z4 s env m d).1=some r/\r∈s.2.2.2.2:=by
 unfold Z4 at*;cases hf:bD (FC s env m d) (aV s d env.1).1 []with
 |inr e=>rw[hf]at h0;exact absurd h0 (uQ (FC s env m d) (λr=>r.2.1≠0) UK _ _ _ hf)|inl ap=>
  rw[hf]at h0 h1 h2;simp only at*;have hb:=Za (aV s d env.1).2.1 (aV s d env.1).2.2 ap;have hlo:=b0A (aV s d env.1).2.1 (aV s d env.1).2.2 ap;have hl:=(QL s d env.1).2;generalize AX (aV s d env.1).2.1 (aV s d env.1).2.2 ap=q at*;by_cases g:q<0
  .rw[U8 g]at h1 h2;simp only[o7]at h1 h2;omega
  rw[N7 (iT.1 g)];have hi:q.toNat<(aV s d env.1).1.length:=l7;simp only[o6,qY,bn hi,dP];exact a0O (G8 hi)
def xI(s:A7)(env:aS)(m d:Int):(V3×Int)⊕E4:=
 l9 (x8 (Z4 s env m d).2.1 0) (l9 (x8 (Z4 s env m d).1 (-1)) (.inr (10,m,d,-1)) (l9 (x8 (Z4 s env m d).1 (-2)) (.inr (11,m,d,-1))
  (match F9 s.2.2.2.2 (Z4 s env m d).1 with
  |none=> .inr (1,0,0,0)
  |some r=>l9 (x8 (uB r.2.2.2.2.2.2.1 env).2 0) (.inl ((uB r.2.2.2.2.2.2.1 env).1,(Z4 s env m d).1)) (.inr ((uB r.2.2.2.2.2.2.1 env).2,m,d,(Z4 s env m d).1))))) (.inr (Z4 s env m d).2)
theorem a4R{e:E4}(h:xI s env m d= .inr e):e.1≠0:=by
 unfold xI at h;cases h0:x8 (Z4 s env m d).2.1 0<;>rw[h0]at h
 .cases h;intro h3;rw[N9 h3]at h0;cases h0
 cases h1:x8 (Z4 s env m d).1 (-1)<;>rw[h1]at h
 case true=>cases h;show(10:Int)≠0;decide
 cases h2:x8 (Z4 s env m d).1 (-2)<;>rw[h2]at h
 case true=>cases h;show(11:Int)≠0;decide
 simp only[o7,o6]at h;cases hl:F9 s.2.2.2.2 (Z4 s env m d).1 with
 |none=>rw[hl]at h;cases h;show(1:Int)≠0;decide|some r=>rw[hl]at h;simp only at h;cases h4:x8 (uB r.2.2.2.2.2.2.1 env).2 0<;>rw[h4]at h<;>cases h;simp only;intro h3;rw[N9 h3]at h4;cases h4
theorem b1b(hs:SmS s)(hE:EvOk env)(m d:Int):II s env m d=some (match xI s env m d with| .inl v=>(v.1,v.2,0,0,0,0)| .inr e=>((0,0,0),0,e)):=by
 unfold II xI;rw[b0Y hs hE,o8];cases h0:x8 (Z4 s env m d).2.1 0
 .rfl
 cases h1:x8 (Z4 s env m d).1 (-1)
 case true=>rfl
 cases h2:x8 (Z4 s env m d).1 (-2)
 case true=>rfl
 obtain⟨r,hr,hm⟩:=XI (O5.1 h0) (λh=>by rw[N9 h]at h1;cases h1) (λh=>by rw[N9 h]at h2;cases h2);simp only[E5,o6,o7,hr,o8];rw[a6a hE (hs.ro r hm).1.2.2.2,o8];cases x8 (uB r.2.2.2.2.2.2.1 env).2 0<;>rfl
theorem a2y{s:A7} :∀(k:Nat) (O:d1A),(∀d∈O,0<=d/\d<nD s)->match Vq s k O with| .inl O' =>(∀d∈O',0<=d/\d<nD s)/\O'.length<=O.length+k| .inr x=>x.1=[]
 |0,O,h=>⟨h,l7⟩|k+1,O,h=>by
  unfold Vq;by_cases hc:O.length<s.2.2.2.1.length
  .rw[if_pos hc];cases hn:Ph s O with
   |none=>rfl|some d=>
    have hd:=(R_ hn).1;have:=a2y k (O++[(d:Int)]) (λx hx=>by
     rcases C9.1 hx with hx|hx
     .exact h x hx
     .rw[D9]at hx;subst hx;unfold nD o9;omega)
    simp only;cases ho:Vq s k (O++[(d:Int)])with
    |inl O' =>rw[ho]at this;exact⟨this.1,by have:=this.2;simp at this;omega⟩|inr x=>rw[ho]at this;exact this
  .rw[if_neg hc];exact⟨h,l7⟩
theorem Ye(s:A7):(∀d∈(je s).1,0<=d/\d<nD s)/\(je s).1.length<=100:=by
 have:=a2y (s:=s) 100 [] x9;unfold je;cases ho:Vq s 100 []with
 |inl O=>rw[ho]at this;exact⟨this.1,by have:=this.2;simp at this;exact this⟩|inr x=>rw[ho]at this;simp only at this ⊢;rw[this];simp
abbrev DB:Type:=List V3×d1A
def zh(env:aS)(ds:List V3):aS:=(env.1,env.2.1,ds,env.2.2.2)
theorem Ah(h:EvOk env)(ds:List V3):EvOk (zh env ds):=⟨h.ms,h.tb⟩
def scG(s:A7)(env:aS)(m:Int)(need:d1E)(b:DB)(d:Int):DB⊕(E4×List V3):=
 l9 ((F9 need d).getD false) (match xI s (zh env b.1) m d with
  | .inl v=> .inl (b.1.set d.toNat v.1,b.2.set d.toNat v.2)
  | .inr e=> .inr (e,b.1)) (.inl b)
def scS(s:A7)(env:aS)(m:Int)(need:d1E):DB⊕(E4×List V3):=bD (scG s env m need) (je s).1 (List.replicate s.2.2.2.1.length (0,0,0),List.replicate s.2.2.2.1.length 0)
variable {need:d1E}
theorem b9e(b:DB)(d:Int)(r:E4×List V3)(h:scG s env m need b d= .inr r):r.1.1≠0:=by
 unfold scG at h;cases hb:(F9 need d).getD false<;>rw[hb]at h
 .cases h
 simp only[o7]at h;cases hd:xI s (zh env b.1) m d with
 |inl v=>rw[hd]at h;cases h|inr e=>rw[hd]at h;cases h;exact a4R hd
theorem OI{r:E4×List V3}(h:scS s env m need= .inr r):r.1.1≠0:=uQ (scG s env m need) (λr=>r.1.1≠0) b9e _ _ _ h
def WO{β ρ ρ' :Type}(h:ρ->ρ'):β⊕ρ->β⊕ρ'| .inl b=> .inl b| .inr r=> .inr (h r)
theorem MP{α β ρ ρ' :Type}(G:β->α->β⊕ρ)(G' :β->α->β⊕ρ')(h:ρ->ρ')(hG:∀b a,G' b a=WO h (G b a)):∀(l:List α) (b:β),bD G' l b=WO h (bD G l b)
 |[],b=>rfl|a::l,b=>by
  unfold bD;rw[hG b a];cases G b a with
  |inl b' =>exact MP G G' h hG l b'|inr r=>rfl
theorem zT(s:A7)(hs:SmS s)(x:α):pX (o9 s.2.2.2.1) x=some (List.replicate s.2.2.2.1.length x):=by have:=hs.nd;rw[show o9 s.2.2.2.1=(s.2.2.2.1.length:Int)from rfl,DD l7 l7];rfl
def scP(env:aS):E4×List V3->d1A×E4×aS:=λr=>([],r.1,zh env r.2)
theorem UH(hs:SmS s)(hE:EvOk env)(m:Int)(hn:need.length=s.2.2.2.1.length):ku s env m need=some (match scS s env m need with| .inl b=>(b.2,(0,0,0,0),zh env b.1)| .inr r=>([],r.1,zh env r.2)):=by
 obtain⟨o1,o2⟩:=Ye s;unfold ku;rw[zT s hs,o8,zT s hs,o8,b4L hs,o8];have hfold:=MP (scG s env m need) (λb d=>WO (scP env) (scG s env m need b d)) (scP env) (λ_ _=>rfl) (je s).1 (List.replicate s.2.2.2.1.length (0,0,0),List.replicate s.2.2.2.1.length 0);unfold scS;apply pJ (je s).1 (λb d=>WO (scP env) (scG s env m need b d)) (λb i=>((zh env b.1,(0,0,0,0),b.2,i):aS×E4×d1A×Int)) (λb=>((zh env b.1,(0,0,0,0),b.2):aS×E4×d1A)) (λi b=>b.1.length=s.2.2.2.1.length/\b.2.length=s.2.2.2.1.length) (List.replicate s.2.2.2.1.length (0,0,0),List.replicate s.2.2.2.1.length 0) l7 ⟨x9,x9⟩
 .intro i d b hi hi' hb;have hr:=o1 d (kw hi);have hnd:nD s=(s.2.2.2.1.length:Int):=rfl;obtain⟨k,rfl⟩:∃k:Nat,d=(k:Int):=⟨d.toNat,l7⟩;have hk:k<s.2.2.2.1.length:=l7;have e1:=bn (show k<need.length by omega);have e2:=bn (show k<b.1.length by omega);have e3:=bn (show k<b.2.length by omega);unfold scG;simp only[J7 hi,o7,F7,hi,o8,V6,V9,D8,e1,dP];cases need[k]
  .simp only[aW,o7,o6];rw[Y4 l7];exact⟨rfl,λ_ h=>by cases h;exact hb⟩
  simp only[E5,o7,o6];rw[a6A hs (Ah hE b.1),o8];unfold xI;cases h0:x8 (Z4 s (zh env b.1) m (k:Int)).2.1 0
  .exact⟨rfl,λ_ h=>by cases h⟩
  cases h1:x8 (Z4 s (zh env b.1) m (k:Int)).1 (-1)
  case true=>exact⟨rfl,λ_ h=>by cases h⟩
  cases h2:x8 (Z4 s (zh env b.1) m (k:Int)).1 (-2)
  case true=>exact⟨rfl,λ_ h=>by cases h⟩
  obtain⟨r,hr,hm⟩:=XI (O5.1 h0) (λh=>by rw[N9 h]at h1;cases h1) (λh=>by rw[N9 h]at h2;cases h2);simp only[E5,o6,o7,hr,o8];rw[a9N (Ah hE b.1) (hs.ro r hm).1.2.2.2,o8];cases h3:x8 (uB r.2.2.2.2.2.2.1 (zh env b.1)).2 0
  .exact⟨rfl,λ_ h=>by cases h⟩
  .simp only[E5,o6,o7];refine⟨?_,λ_ h=>by cases h;exact⟨by simp[hb.1],by simp[hb.2]⟩⟩;rw[Y4 l7];have e2' :(zh env b.1).2.2.1[k]? =some (b.1[k]'l7):=e2;simp only[e2',e3,o8];rfl
 .intro b hb;rw[J6];rfl
 .intro _;rw[hfold];cases bD (scG s env m need) (je s).1 (List.replicate s.2.2.2.1.length (0,0,0),List.replicate s.2.2.2.1.length 0)<;>rfl
theorem PT(hs:SmS s)(hE:EvOk env)(m:Int)(hn:need.length=s.2.2.2.1.length):xC s env m need=some (match scS s env m need with| .inl b=>(b.1,b.2,0,0,0,0)| .inr r=>([],[],r.1)):=by
 obtain⟨o1,o2⟩:=Ye s;unfold xC;rw[zT s hs,o8,zT s hs,o8,b2b hs,o8];have hfold:=MP (scG s env m need) (λb d=>WO (λr=>(([],[],r.1):List V3×d1A×E4)) (scG s env m need b d)) (λr=>(([],[],r.1):List V3×d1A×E4)) (λ_ _=>rfl) (je s).1 (List.replicate s.2.2.2.1.length (0,0,0),List.replicate s.2.2.2.1.length 0);unfold scS;apply pJ (je s).1 (λb d=>WO (λr=>(([],[],r.1):List V3×d1A×E4)) (scG s env m need b d)) (λb i=>(((env.1,env.2.1,PUnit.unit,env.2.2.2),(0,0,0,0),b.1,b.2,i):(Int×List V3×PUnit×List (List V3)×List F6×List gz)×E4×List V3×d1A×Int)) (λb=>(((0,0,0,0),b.1,b.2):E4×List V3×d1A)) (λi b=>b.1.length=s.2.2.2.1.length/\b.2.length=s.2.2.2.1.length) (List.replicate s.2.2.2.1.length (0,0,0),List.replicate s.2.2.2.1.length 0) l7 ⟨x9,x9⟩
 .intro i d b hi hi' hb;have hr:=o1 d (kw hi);have hnd:nD s=(s.2.2.2.1.length:Int):=rfl;obtain⟨k,rfl⟩:∃k:Nat,d=(k:Int):=⟨d.toNat,l7⟩;have hk:k<s.2.2.2.1.length:=l7;have e1:=bn (show k<need.length by omega);have e2:=bn (show k<b.1.length by omega);have e3:=bn (show k<b.2.length by omega);have hd:=b1b hs (Ah hE b.1) m (k:Int);unfold zh at hd;unfold scG;simp only[J7 hi,o7,F7,hi,o8,V6,V9,D8,e1,dP];cases need[k]
  .simp only[aW,o7,o6];rw[Y4 l7];exact⟨rfl,λ_ h=>by cases h;exact hb⟩
  simp only[E5,o7,o6];rw[hd,o8];unfold zh;cases hq:xI s (env.1,env.2.1,b.1,env.2.2.2) m (k:Int)with
  |inr e=>simp only[O9 (a4R hq)];exact⟨rfl,λ_ h=>by cases h⟩|inl v=>refine⟨?_,λ_ h=>by cases h;exact⟨by simp[hb.1],by simp[hb.2]⟩⟩;simp only[e2,e3,o8,N9 (rfl:(0:Int)=0),E5,o6];rw[Y4 l7];rfl
 .intro b hb;rw[J6];rfl
 .intro _;rw[hfold];cases bD (scG s env m need) (je s).1 (List.replicate s.2.2.2.1.length (0,0,0),List.replicate s.2.2.2.1.length 0)<;>rfl
def Bi(l:U6)(k:Int)(c:aF)(ex:Bool)(d:Int):E4:=
 l9 (x8 (fB l).1 0) (match F9 l.2.2 k with
  |none=>(6,-1,-1,-1)
  |some s=>l9 (l9 ex (l9 (E8 d 0) true (L8 (o9 s.2.2.2.1) d)) false) (6,-1,-1,-1) (l9 (x8 (Ba l k c).2.2 0) (0,0,0,0) ((Ba l k c).2.2,(Ba l k c).1,-1,-1))) (1,-1,-1,-1)
theorem a5w(l:List A7)(k:Int):(E8 k 0=true/\F9 l k=none)\/(E8 k 0=false/\L8 (o9 l) k=true/\F9 l k=none)\/(E8 k 0=false/\L8 (o9 l) k=false/\∃s,F9 l k=some s/\s∈l):=by
 by_cases h:k<0
 .exact .inl ⟨U8 h,tY (.inl (Y9 h))⟩
 by_cases h2:o9 l<=k
 .exact .inr (.inl ⟨N7 l7,Y3 h2,tY (.inr (N7 h2))⟩)
 .exact .inr (.inr ⟨N7 l7,Y9 l7,mO l7 l7⟩)
variable {l:U6}{c:aF}
theorem b7X(hL:SmL l)(k:Int)(hc:SmC c)(ex:Bool)(d:Int):ut l k c ex d=some (Bi l k c ex d):=by
 unfold ut Bi;rw[a6Z hL,o8,b8b l k hc];cases x8 (fB l).1 0
 .rfl
 simp only[E5,o6,o7];rcases a5w l.2.2 k with⟨h1,h2⟩|⟨h1,h2,h3⟩|⟨h1,h2,s,h3,_⟩
 .rw[h1,h2];rfl
 .rw[h1,h2,h3];rfl
 .rw[h1,h2,h3];simp only[o6,o8];cases ex
  .simp only[o6,o8,U1];cases x8 (Ba l k c).2.2 0<;>rfl
  .simp only[o7];cases E8 d 0
   .cases L8 (o9 s.2.2.2.1) d
    .simp only[o6,o8,U1];cases x8 (Ba l k c).2.2 0<;>rfl
    .rfl
   .rfl
theorem b5x(hL:SmL l)(k:Int)(hc:SmC c)(ex:Bool)(d:Int):EU l k c d ex=some (Bi l k c ex d):=by
 unfold EU Bi LZ;rw[a3U hL,o8,o8,b5y l k hc];cases x8 (fB l).1 0
 .rfl
 simp only[E5,o6,o7];rcases a5w l.2.2 k with⟨h1,h2⟩|⟨h1,h2,h3⟩|⟨h1,h2,s,h3,_⟩
 .rw[h1,h2];rfl
 .rw[h1,h2,h3];rfl
 .rw[h1,h2,h3];simp only[o6,o8];cases ex
  .simp only[o6,o8,U1];cases x8 (Ba l k c).2.2 0<;>rfl
  .simp only[o7];cases E8 d 0
   .cases L8 (o9 s.2.2.2.1) d
    .simp only[o6,o8,U1];cases x8 (Ba l k c).2.2 0<;>rfl
    .rfl
   .rfl
def wR:A7:=([],0,[],[],[])
def L9(l:U6)(s:A7):A7:=l9 (L8 0 s.2.1) ((F9 l.2.2 s.2.1).getD wR) wR
def uC(n:Nat):d1E:=List.replicate n false
theorem QV{ex:Bool}(h:(Bi l k c ex d).1=0):(fB l).1=0/\∃s,F9 l.2.2 k=some s:=by
 unfold Bi at h;cases h0:x8 (fB l).1 0<;>rw[h0]at h
 .exact absurd (show(1:Int)=0 from h) G7
 refine⟨O5.1 h0,?_⟩;cases h1:F9 l.2.2 k with
 |none=>rw[h1]at h;exact absurd (show(6:Int)=0 from h) G7|some s=>exact⟨s,rfl⟩
theorem a6Y(h:(fB l).1=0)(hs:l.2.2[i]? =some s):(Fb l i s).1=0:=by
 unfold fB at h;cases h1:x8 (zy l).1 0<;>rw[h1]at h
 .simp only[o6]at h;rw[N9 h]at h1;cases h1
 cases h2:x8 (Fp l).1 0<;>rw[h2]at h
 .simp only[o7,o6]at h;rw[N9 h]at h2;cases h2
 simp only[o7]at h;unfold OJ at h;cases h3:E8 4 (o9 l.2.2)<;>rw[h3]at h
 case true=>exact absurd (show(4:Int)=0 from h) G7
 simp only[o6]at h;have hi:=(X6.1 hs).1;cases hf:ay l.2.2.length (Hy l)with
 |some r=>
  rw[hf]at h;simp only at h;obtain⟨j,hj,hp⟩:=iP hf;unfold Hy at hp;cases hq:l.2.2[j]? with
  |none=>rw[hq]at hp;cases hp|some q=>
   rw[hq]at hp;simp only at hp;unfold Su at hp;exact absurd h (by cases he:x8 (Fb l j q).1 0<;>rw[he]at hp<;>cases hp;simp only;intro h4;rw[N9 h4]at he;cases he)
 |none=>
  have hn:=vF hf i hi;unfold Hy at hn;rw[hs]at hn;simp only at hn;unfold Su at hn;cases he:x8 (Fb l i s).1 0<;>rw[he]at hn
  .cases hn
  exact O5.1 he
theorem Jh(h:(fB l).1=0)(hs:l.2.2[i]? =some s):xQ l i s.2.1=false/\(Ht l s).1=0:=by
 have he:=a6Y h hs;unfold Fb at he;cases g1:DY s.1<;>rw[g1]at he
 .exact absurd (show(2:Int)=0 from he) G7
 cases g2:Bh l 3 i s.1<;>rw[g2]at he
 case true=>exact absurd (show(7:Int)=0 from he) G7
 cases g3:xQ l i s.2.1<;>rw[g3]at he
 case true=>exact absurd (show(6:Int)=0 from he) G7
 cases g4:E8 12 (o9 s.2.2.1)<;>rw[g4]at he
 case true=>exact absurd (show(4:Int)=0 from he) G7
 cases g5:E8 12 (o9 s.2.2.2.1)<;>rw[g5]at he
 case true=>exact absurd (show(4:Int)=0 from he) G7
 exact⟨rfl,he⟩
theorem XD(h:(fB l).1=0)(hs:l.2.2[i]? =some s):xQ l i s.2.1=false:=(Jh h hs).1
theorem Ac(h:(fB l).1=0)(hs:F9 l.2.2 k=some s):(L8 0 s.2.1=false/\E8 s.2.1 0=true/\L9 l s=wR)\/(L8 0 s.2.1=true/\E8 s.2.1 0=false/\L8 (o9 l.2.2) s.2.1=false/\F9 l.2.2 s.2.1=some (L9 l s)/\L9 l s∈l.2.2):=by
 obtain⟨k0,k1,k2,k3⟩:=bg hs;have hm:=XD h k3;unfold xQ at hm;by_cases g:0<=s.2.1
 .right;rw[O9 (show s.2.1≠-1 by intro e;rw[e]at g;exact absurd g G7),N7 g]at hm;simp only[o6]at hm;cases g2:L8 ((k.toNat:Nat):Int) s.2.1<;>rw[g2]at hm
  case true=>cases hm
  rw[Bl]at g2;have hlt:s.2.1<o9 l.2.2:=by have:((k.toNat:Nat):Int)=k:=aA k0;rw[this]at g2;exact Int.lt_trans g2 k1
  obtain⟨q,hq,hqm⟩:=mO g hlt;have e:L9 l s=q:=by unfold L9;rw[Y3 g,hq];rfl
  rw[e];exact⟨Y3 g,N7 g,Y9 hlt,hq,hqm⟩
 .left;have g' :=lY.1 g;refine⟨Y9 g',U8 g',?_⟩;unfold L9;rw[Y9 g'];rfl
theorem a4B{σ ε α β:Type}{f:σ->Option (σ⊕ε)}{mk:List β->Int->σ}{fin:List β->ε}{l:List α}{g:α->β}
  (hs:∀(i:Nat) (a:α) (b:List β),l[i]? =some a->b.length=i->f (mk b (i:Int))=some (.inl (mk (b++[g a]) ((i+1:Nat):Int))))
  (he:∀b,f (mk b (l.length:Int))=some (.inr (fin b))):∀(l2 l1:List α) (k:Nat),l=l1++l2->lU f (k+1+l2.length) (mk (l1.map g) (l1.length:Int))=some (fin (l.map g))
 |[],l1,k,h=>by
  have:l=l1:=by simpa using h
  subst this;exact Nc (he _)
 |a::l2,l1,k,h=>by rw[show k+1+(a::l2).length=(k+1+l2.length)+1 by simp;omega,FY (hs l1.length a (l1.map g) (by rw[h];simp) x9)];have:=a4B hs he l2 (l1++[a]) k (by rw[h];simp);simpa using this
variable {β:Type}
theorem a9w(mk:List β->Int->σ)(fin:List β->ε)(l:List α)(g:α->β)(hn:l.length<=1000000)
  (hs:∀(i:Nat) (a:α) (b:List β),l[i]? =some a->b.length=i->f (mk b (i:Int))=some (.inl (mk (b++[g a]) ((i+1:Nat):Int))))
  (he:∀b,f (mk b (l.length:Int))=some (.inr (fin b))):aB f (mk [] 0)=some (fin (l.map g)):=by
 unfold aB;rw[show jb=(jb -l.length -1)+1+l.length by unfold jb;omega];exact a4B hs he l [] _ rfl
theorem zG(h:(fB l).1=0)(hs:F9 l.2.2 k=some s):oC l k=some (L9 l s):=by
 unfold oC;rw[hs,o8];rcases Ac h hs with⟨g1,g2,g3⟩|⟨g1,g2,g3,g4,g5⟩
 .rw[g2,g3];rfl
 .rw[g2,g3,g4];rfl
theorem a5L(hL:SmL l)(h:(fB l).1=0)(hs:F9 l.2.2 k=some s):Cb l k=some (s,L9 l s,uC s.2.2.2.1.length,uC (L9 l s).2.2.2.1.length):=by
 have hm:=(bg hs).2.2.1;have hnd:=(hL.sc s hm).nd;unfold Cb;rw[hs,o8,show pX (o9 s.2.2.2.1) false=some (uC s.2.2.2.1.length)from zT s (hL.sc s hm) false,o8];rcases Ac h hs with⟨g1,g2,g3⟩|⟨g1,g2,g3,g4,g5⟩
 .rw[g1,g3];rfl
 .rw[g1,g4];simp only[o7,o8];rw[show pX (o9 (L9 l s).2.2.2.1) false=some (uC (L9 l s).2.2.2.1.length)from zT _ (hL.sc _ g5) false,o8]
theorem a7W:SmS wR:=⟨by simp[wR],by simp[wR],by simp[wR],by simp[wR],⟨by simp[wR],by simp[wR]⟩,by simp[wR]⟩
def DZ(l:U6)(c:aF)(v:List V3):aS:=(c.1,v,[],[],[],l.2.1)
def mG(l:U6)(c:aF)(ms:A7)(need:d1E)(b:List DB)(a:List V3×Nat):List DB⊕E4:=
 match scS ms (DZ l c a.1) (a.2:Int) need with
 | .inl x=> .inl (b++[x])| .inr e=> .inr e.1
def mS(l:U6)(c:aF)(ms:A7)(need:d1E):List DB⊕E4:=bD (mG l c ms need) c.2.2.zipIdx []
theorem a7R{ms:A7}(b:List DB)(a:List V3×Nat)(r:E4)(h:mG l c ms need b a= .inr r):r.1≠0:=by
 unfold mG at h;cases hs:scS ms (DZ l c a.1) (a.2:Int) need with
 |inl x=>rw[hs]at h;cases h|inr e=>rw[hs]at h;cases h;exact OI hs
theorem a4v{l:List (List V3)}{a:List V3×Nat}(h:l.zipIdx[i]? =some a):l[i]? =some a.1/\a.2=i:=by
 rw[Be]at h;cases hl:l[i]? with
 |none=>rw[hl]at h;cases h|some v=>rw[hl]at h;cases h;exact⟨rfl,x9⟩
theorem KX(hT:∀t∈l.2.1,qO t)(c:aF)(v:List V3):EvOk (DZ l c v):=⟨by simp[DZ],hT⟩
theorem PS(h:(fB l).1=0)(hs:F9 l.2.2 k=some s)(hc:c.2.2.length<=1000)(hM:SmS (L9 l s))(hT:∀t∈l.2.1,qO t)(hn:need.length=(L9 l s).2.2.2.1.length):
  uA l k c need=some (match mS l c (L9 l s) need with| .inl b=>(b.map (·.1),b.map (·.2),0,0,0,0)| .inr e=>([],[],e)):=by
 unfold uA;rw[zG h hs,o8];have hfold:=MP (mG l c (L9 l s) need) (λb a=>WO (λe=>(([],[],e):List (List V3)×List d1A×E4)) (mG l c (L9 l s) need b a)) (λe=>(([],[],e):List (List V3)×List d1A×E4)) (λ_ _=>rfl) c.2.2.zipIdx [];unfold mS;have hzl:c.2.2.zipIdx.length=c.2.2.length:=x9;apply pJ c.2.2.zipIdx (λb a=>WO (λe=>(([],[],e):List (List V3)×List d1A×E4)) (mG l c (L9 l s) need b a)) (λb i=>(((0,0,0,0),b.map (·.1),b.map (·.2),i):E4×List (List V3)×List d1A×Int)) (λb=>(((0,0,0,0),b.map (·.1),b.map (·.2)):E4×List (List V3)×List d1A)) (λi b=>b.length=i) [] l7 rfl
 .intro i a b hi hi' hb;obtain⟨z1,z2⟩:=a4v hi;unfold Hw mG;simp only[J7 z1,o7,F7,z1,o8];rw[show xC (L9 l s) (c.1,a.1,[],[],[],l.2.1) (i:Int) need=_ from PT hM (KX hT c a.1) (i:Int) hn,o8,z2];unfold DZ;cases hq:scS (L9 l s) (c.1,a.1,[],[],[],l.2.1) (i:Int) need with
  |inr e=>simp only[O9 (OI hq)];exact⟨rfl,λ_ h=>by cases h⟩|inl x=>simp only[N9 (rfl:(0:Int)=0),E5,o6];rw[fQ _ Z5,o8,fQ _ Z5,o8,Y4 l7];exact⟨by simp[WO],λ_ h=>by cases h;simp[hb]⟩
 .intro b hb;rw[hzl,J6];rfl
 .intro _;rw[hfold];cases bD (mG l c (L9 l s) need) c.2.2.zipIdx []<;>rfl
def uf(l:U6)(s:A7)(c:aF)(b:List DB):aS:=(c.1,c.2.1,[],b.map (·.1),(L9 l s).2.2.2.1.map (·.2),l.2.1)
theorem Qg(hL:SmL l)(h:(fB l).1=0)(hs:F9 l.2.2 k=some s):SmS (L9 l s):=by
 rcases Ac h hs with⟨_,_,g3⟩|⟨_,_,_,_,g5⟩
 .rw[g3];exact a7W
 .exact hL.sc _ g5
theorem a3t{ms:A7}{b:List DB}(h:mS l c ms need= .inl b):b.length=c.2.2.length:=by
 have key:∀(L:List (List V3×Nat)) (b0 b:List DB),bD (mG l c ms need) L b0= .inl b->b.length=b0.length+L.length:=by
  intro L;induction L with
  |nil=>intro b0 b h;cases h;simp|cons a L ih=>
   intro b0 b h;unfold bD at h;cases hg:mG l c ms need b0 a with
   |inr e=>rw[hg]at h;cases h|inl b1=>
    rw[hg]at h;have:=ih b1 b h;have h1:b1.length=b0.length+1:=by
     unfold mG at hg;cases hs:scS ms (DZ l c a.1) (a.2:Int) need with
     |inr e=>rw[hs]at hg;cases hg|inl x=>rw[hs]at hg;cases hg;simp
    simp only[H9];omega
 have:=key _ _ _ h;simpa using this
theorem Np(hT:∀t∈l.2.1,qO t)(s:A7)(c:aF){b:List DB}(hb:b.length<=1000):EvOk (uf l s c b):=⟨by simp[uf];omega,hT⟩
theorem b0q(c:aF)(b:List DB)(h:(fB l).1=0)(hs:F9 l.2.2 k=some s)(hM:SmS (L9 l s)):RQ l k c (b.map (·.1))=some (uf l s c b):=by
 have hnd:=hM.nd;unfold RQ;rw[zG h hs,o8,ig];refine a9w (λL i=>(((c.1,c.2.1,[],b.map (·.1),L,l.2.1),i):aS×Int)) (λL=>((c.1,c.2.1,[],b.map (·.1),L,l.2.1):aS)) (L9 l s).2.2.2.1 (λf=>f.2) l7 (λi a L hi hL=>?_) (λL=>?_)
 .have:=(X6.1 hi).1;simp only[J7 hi,o7,F7,hi,o8];rw[fQ _ l7,o8,Y4 l7]
 .rw[J6];rfl
abbrev ZT:Type:=Int×List V3×PUnit×List (List V3)×List (Int×Int)×List gz
def PR(l:U6)(s:A7)(c:aF)(nS nM:d1E):DB×List DB⊕E4:=
 match mS l c (L9 l s) nM with
 | .inr e=> .inr e
 | .inl b=>match scS s (uf l s c b) (-1) nS with
  | .inl x=> .inl (x,b)| .inr r=> .inr r.1
variable {nS:d1E}{nM:d1E}
theorem a3g(hS:SmS s)(hM:SmS (L9 l s))(hC:SmC c)(hT:∀t∈l.2.1,qO t)(h1:nS.length=s.2.2.2.1.length)(h2:nM.length=(L9 l s).2.2.2.1.length):
  BZ l k c (s,L9 l s,nS,nM)=some (match PR l s c nS nM with
   | .inl x=>((x.1.1,x.1.2,x.2),zh (uf l s c x.2) x.1.1,(0,0,0,0),(s,L9 l s,nS,nM))
   | .inr e=>(([],[],[]),(0,[],[],[],[],[]),e,(s,L9 l s,nS,nM))):=by
 have hnd:=hM.nd;have hnm:=hC.nm;unfold BZ;rw[show(aB _ _)=some (((c.1,c.2.1,PUnit.unit,PUnit.unit,(L9 l s).2.2.2.1.map (λf=>f.2),l.2.1)):Int×List V3×PUnit×PUnit×List (Int×Int)×List gz)from ?_,o8]
 rotate_left
 .refine a9w (λL i=>(((c.1,c.2.1,PUnit.unit,PUnit.unit,L,l.2.1),i):(Int×List V3×PUnit×PUnit×List (Int×Int)×List gz)×Int)) (λL=>((c.1,c.2.1,PUnit.unit,PUnit.unit,L,l.2.1):Int×List V3×PUnit×PUnit×List (Int×Int)×List gz)) (L9 l s).2.2.2.1 (λf=>f.2) l7 (λi a L hi hL=>?_) (λL=>?_)
  .have:=(X6.1 hi).1;simp only[J7 hi,o7,F7,hi,o8];rw[fQ _ l7,o8,Y4 l7]
  .rw[J6];rfl
 have hfold:=MP (mG l c (L9 l s) nM) (λb a=>WO (λe=>((([],[],[]),(0,[],[],[],[],[]),e,(s,L9 l s,nS,nM)):BR×aS×E4×dJ)) (mG l c (L9 l s) nM b a)) (λe=>((([],[],[]),(0,[],[],[],[],[]),e,(s,L9 l s,nS,nM)):BR×aS×E4×dJ)) (λ_ _=>rfl) c.2.2.zipIdx [];have hzl:c.2.2.zipIdx.length=c.2.2.length:=x9;unfold PR mS;apply pJ c.2.2.zipIdx (λb a=>WO (λe=>((([],[],[]),(0,[],[],[],[],[]),e,(s,L9 l s,nS,nM)):BR×aS×E4×dJ)) (mG l c (L9 l s) nM b a))
  (λb i=>((([],[],[]),(0,[],[],[],[],[]),(0,0,0,0),(c.1,c.2.1,PUnit.unit,b.map (·.1),(L9 l s).2.2.2.1.map (λf=>f.2),l.2.1),([],[],b),i):BR×aS×E4×ZT×BR×Int))
  (λb=>((([],[],[]),(0,[],[],[],[],[]),(0,0,0,0),(c.1,c.2.1,PUnit.unit,b.map (·.1),(L9 l s).2.2.2.1.map (λf=>f.2),l.2.1),([],[],b)):BR×aS×E4×ZT×BR))
  (λi b=>b.length=i) [] l7 rfl
 .intro i a b hi hi' hb;obtain⟨z1,z2⟩:=a4v hi;have hil:=(X6.1 z1).1;unfold mG;simp only[J7 z1,o7,F7,z1,o8];rw[show ku (L9 l s) (c.1,a.1,[],[],[],l.2.1) (i:Int) nM=_ from UH hM (KX hT c a.1) (i:Int) h2,o8,z2];unfold DZ;cases hq:scS (L9 l s) (c.1,a.1,[],[],[],l.2.1) (i:Int) nM with
  |inr e=>simp only[O9 (OI hq)];exact⟨rfl,λ_ h=>by cases h⟩|inl x=>simp only[N9 (rfl:(0:Int)=0),E5,o6];rw[fQ _ Z5,o8,fQ _ l7,o8,Y4 l7];exact⟨by simp[WO,zh],λ_ h=>by cases h;simp[hb]⟩
 .intro b hb;rw[hzl,J6];rfl
 .intro _;rw[hfold];cases hq:bD (mG l c (L9 l s) nM) c.2.2.zipIdx []with
  |inr e=>rfl|inl b=>
   have hbl:b.length=c.2.2.length:=a3t (ms:=L9 l s) (need:=nM) hq;have hsc:=UH (need:=nS) hS (Np hT s c (b:=b) l7) (-1) h1;unfold uf at hsc;simp only[WO,U1];rw[show ku s (c.1,c.2.1,[],b.map (·.1),(L9 l s).2.2.2.1.map (λf=>f.2),l.2.1) (-1) nS=_ from hsc,o8];unfold uf;cases hr:scS s (c.1,c.2.1,[],b.map (·.1),(L9 l s).2.2.2.1.map (λf=>f.2),l.2.1) (-1) nS with
   |inr e=>simp only[O9 (OI hr)];rfl|inl x=>rfl
theorem jW{n:Nat}{l:List α}(h:E8 (n:Int) (o9 l)=false):l.length<=n:=by rw[iE]at h;unfold o9 at h;omega
def A_(r:Z7):Bool:=l9 (E8 80 (o9 r.1)) true (l9 (E8 80 (o9 r.2.2.2.2.2.2.2)) true (l9 (E8 50 (o9 r.2.2.2.2.2.1)) true (E8 50 (o9 r.2.2.2.2.2.2.1))))
def smS(s:A7):Bool:=l9 (E8 80 (o9 s.1)) false (l9 (E8 14 (o9 s.2.2.1)) false (l9 (E8 14 (o9 s.2.2.2.1)) false (l9 (E8 60 (o9 s.2.2.2.2)) false
 (l9 (s.2.2.1.any λf=>E8 80 (o9 f.1)) false (l9 (s.2.2.2.1.any λf=>E8 80 (o9 f.1)) false (F8 (s.2.2.2.2.any A_)))))))
theorem b_{fs:List jB}(h:fs.length<=1000000):ah (λ(x:Int)=>l9 (E8 x (o9 fs)) (o5 (F9 fs x) λ(x_1:jB)=>l9 (E8 80 (o9 x_1.1)) (some (Out.rt false)) (some (Out.nx (D5 IntKind.i64 x 1)))) (some (Out.ex PUnit.unit))) 0=some (bif fs.any (λf=>E8 80 (o9 f.1))then .inr false else .inl PUnit.unit):=by
 refine xH fs (λf=>E8 80 (o9 f.1)) false PUnit.unit h (λi a ha=>?_) ?_
 .simp only[J7 ha,o7,F7,ha,o8];cases E8 80 (o9 a.1)<;>rfl
 .rw[J6];rfl
theorem a1z(s:A7):CZ s=some (smS s):=by
 unfold CZ smS;cases h1:E8 80 (o9 s.1)
 case true=>rfl
 cases h2:E8 14 (o9 s.2.2.1)
 case true=>rfl
 cases h3:E8 14 (o9 s.2.2.2.1)
 case true=>rfl
 cases h4:E8 60 (o9 s.2.2.2.2)
 case true=>rfl
 have l2:=jW (n:=14) h2;have l3:=jW (n:=14) h3;have l4:=jW (n:=60) h4;simp only[o6,o8,U1];rw[b_ l7,b_ l7,o8];cases s.2.2.1.any λf=>E8 80 (o9 f.1)
 case true=>rfl
 simp only[cond_false,U1,o6,o8];cases s.2.2.2.1.any λf=>E8 80 (o9 f.1)
 case true=>rfl
 simp only[cond_false,U1,o6];refine X9 (xH s.2.2.2.2 A_ false PUnit.unit l7 (λi a ha=>?_) ?_) ?_
 rotate_left 2
 .cases s.2.2.2.2.any A_<;>rfl
 .simp only[J7 ha,o7,F7,ha,o8];unfold A_;cases E8 80 (o9 a.1)<;>cases E8 80 (o9 a.2.2.2.2.2.2.2)<;>cases E8 50 (o9 a.2.2.2.2.2.1)<;>cases E8 50 (o9 a.2.2.2.2.2.2.1)<;>rfl
 .rw[J6];rfl
def ScI(s:A7):Prop:=∀r∈s.2.2.2.2,(∀n∈r.2.2.2.2.2.1,kP n.2)/\∀n∈r.2.2.2.2.2.2.1,kP n.2
theorem YB{a b:Bool}(h:l9 a false b=true):a=false/\b=true:=by cases a<;>cases b<;>first|exact⟨rfl,rfl⟩|cases h
theorem a1J{l:List α}{p:α->Bool}(h:l.any p=false):∀a∈l,p a=false:=by
 intro a ha;rw[eP]at h;have:=h a ha;cases hp:p a
 .rfl
 .exact absurd hp this
theorem c1F(h:smS s=true)(hI:ScI s):SmS s:=by
 unfold smS at h;obtain⟨h1,h⟩:=YB h;obtain⟨h2,h⟩:=YB h;obtain⟨h3,h⟩:=YB h;obtain⟨h4,h⟩:=YB h;obtain⟨h5,h⟩:=YB h;obtain⟨h6,h⟩:=YB h;have h7:s.2.2.2.2.any A_=false:=by cases hq:s.2.2.2.2.any A_<;>rw[hq]at h<;>first|rfl|cases h
 refine⟨by have:=jW (n:=80) h1;omega,jW (n:=14) h2,jW (n:=14) h3,jW (n:=60) h4,⟨λf hf=>?_,λf hf=>?_⟩,λr hr=>?_⟩
 .have:=jW (n:=80) (a1J h5 f hf);omega
 .have:=jW (n:=80) (a1J h6 f hf);omega
 .have hl:=a1J h7 r hr;unfold A_ at hl;cases g1:E8 80 (o9 r.1)<;>rw[g1]at hl
  case true=>cases hl
  cases g2:E8 80 (o9 r.2.2.2.2.2.2.2)<;>rw[g2]at hl
  case true=>cases hl
  cases g3:E8 50 (o9 r.2.2.2.2.2.1)<;>rw[g3]at hl
  case true=>cases hl
  have k1:=jW (n:=80) g1;have k2:=jW (n:=80) g2;exact⟨⟨l7,l7,(hI r hr).1,(hI r hr).2⟩,jW (n:=50) g3,jW (n:=50) hl⟩
def smC(c:aF):Bool:=l9 (E8 14 (o9 c.2.1)) false (l9 (E8 10 (o9 c.2.2)) false (F8 (c.2.2.any λv=>E8 14 (o9 v))))
theorem a4k(c:aF):zX c=some (smC c):=by
 unfold zX smC;cases h1:E8 14 (o9 c.2.1)
 case true=>rfl
 cases h2:E8 10 (o9 c.2.2)
 case true=>rfl
 have l2:=jW (n:=10) h2;simp only[o6];refine X9 (xH c.2.2 (λv=>E8 14 (o9 v)) false PUnit.unit l7 (λi a ha=>?_) ?_) ?_
 rotate_left 2
 .cases c.2.2.any λv=>E8 14 (o9 v)<;>rfl
 .simp only[J7 ha,o7,F7,ha,o8];cases E8 14 (o9 a)<;>rfl
 .rw[J6];rfl
theorem c1C(h:smC c=true):SmC c:=by
 unfold smC at h;obtain⟨h1,h⟩:=YB h;obtain⟨h2,h⟩:=YB h;have h3:(c.2.2.any λv=>E8 14 (o9 v))=false:=by cases hq:c.2.2.any λv=>E8 14 (o9 v)<;>rw[hq]at h<;>first|rfl|cases h
 exact⟨by have:=jW (n:=14) h1;omega,by have:=jW (n:=10) h2;omega,λv hv=>by have:=jW (n:=14) (a1J h3 v hv);omega⟩
theorem WG{α β ρ:Type}(G:β->α->β⊕ρ)(Inv:β->Prop)(hG:∀b a b',Inv b->G b a= .inl b' ->Inv b'):∀(l:List α) (b b' :β),Inv b->bD G l b= .inl b' ->Inv b'
 |[],b,b',hi,h=>by cases h;exact hi|a::l,b,b',hi,h=>by
  unfold bD at h;cases hg:G b a with
  |inr r=>rw[hg]at h;cases h|inl b1=>rw[hg]at h;exact WG G Inv hG l b1 b' (hG b a b1 hi hg) h
theorem Fa{b:DB}(h:scS s env m need= .inl b):b.1.length=s.2.2.2.1.length/\b.2.length=s.2.2.2.1.length:=by
 refine WG (scG s env m need) (λb=>b.1.length=s.2.2.2.1.length/\b.2.length=s.2.2.2.1.length) (λb a b' hi h=>?_) _ _ _ ⟨x9,x9⟩ h;unfold scG at h;cases hb:(F9 need a).getD false<;>rw[hb]at h
 .cases h;exact hi
 simp only[o7]at h;cases hd:xI s (zh env b.1) m a with
 |inr e=>rw[hd]at h;cases h|inl v=>rw[hd]at h;cases h;exact⟨by simp[hi.1],by simp[hi.2]⟩
def a5B(e:jA):Bool:=l9 (E8 80 (o9 e.1)) true (l9 (E8 20 (o9 e.2)) true (e.2.any λm=>E8 80 (o9 m)))
def tG(b:Int)(t:gz):Int⊕Bool:=l9 (E8 80 (o9 t.1)) (.inr false) (l9 (E8 150 (D5 .i64 b (o9 t.2.2.2))) (.inr false) (.inl (D5 .i64 b (o9 t.2.2.2))))
def sG(b:Int)(s:A7):Int⊕Bool:=l9 (E8 60 (D5 .i64 b (o9 s.2.2.2.2))) (.inr false) (l9 (smS s) (.inl (D5 .i64 b (o9 s.2.2.2.2))) (.inr false))
def smL(l:U6):Bool:=l9 (E8 9 (o9 l.1)) false (l9 (E8 9 (o9 l.2.1)) false (l9 (E8 5 (o9 l.2.2)) false (l9 (l.1.any a5B) false
 (match bD tG l.2.1 0 with| .inr _=>false| .inl _=>match bD sG l.2.2 0 with| .inr _=>false| .inl _=>true))))
theorem c3k:∀(b:Int) (t:gz) (r:Bool),tG b t= .inr r->r=false:=by intro b t r h;unfold tG at h;cases g0:E8 80 (o9 t.1)<;>cases g:E8 150 (D5 .i64 b (o9 t.2.2.2))<;>simp only[g0,g,o7,o6]at h<;>cases h<;>rfl
theorem c1z:∀(b:Int) (s:A7) (r:Bool),sG b s= .inr r->r=false:=by intro b s r h;unfold sG at h;cases g:E8 60 (D5 .i64 b (o9 s.2.2.2.2))<;>cases g2:smS s<;>simp only[g,g2,o7,o6]at h<;>cases h<;>rfl
theorem a6B(l:U6):BN l=some (smL l):=by
 unfold BN smL;cases h1:E8 9 (o9 l.1)
 case true=>rfl
 cases h2:E8 9 (o9 l.2.1)
 case true=>rfl
 cases h3:E8 5 (o9 l.2.2)
 case true=>rfl
 have l1:=jW (n:=9) h1;have l2:=jW (n:=9) h2;have l3:=jW (n:=5) h3;simp only[o6,o8,U1];refine X9 (xH l.1 a5B false PUnit.unit l7 (λi a ha=>?_) ?_) ?_
 .simp only[J7 ha,o7,F7,ha,o8];unfold a5B;cases E8 80 (o9 a.1)
  case true=>rfl
  cases h5:E8 20 (o9 a.2)
  case true=>rfl
  have l5:=jW (n:=20) h5;simp only[o6];refine X9 (xH a.2 (λm=>E8 80 (o9 m)) false PUnit.unit l7 (λj m hm=>?_) ?_) ?_
  .simp only[J7 hm,o7,F7,hm,o8];cases E8 80 (o9 m)<;>rfl
  .rw[J6];rfl
  .cases a.2.any λm=>E8 80 (o9 m)<;>rfl
 .rw[J6];rfl
 cases l.1.any a5B
 case true=>rfl
 simp only[cond_false,U1,o6];apply pJ l.2.1 tG (λb i=>((b,i):Int×Int)) (λ_=>PUnit.unit) (λ_ _=>True) 0 l7 trivial
 .intro i t b hi hi' _;refine⟨?_,λ_ _=>trivial⟩;simp only[J7 hi,o7,F7,hi,o8];unfold tG;rw[Y4 l7];cases E8 80 (o9 t.1)<;>cases E8 150 (D5 .i64 b (o9 t.2.2.2))<;>rfl
 .intro b _;rw[J6];rfl
 .intro _;cases ht:bD tG l.2.1 0 with
  |inr r=>rw[uQ tG (λr=>r=false) c3k _ _ _ ht];rfl|inl b=>
   simp only[U1];apply pJ l.2.2 sG (λb i=>((b,i):Int×Int)) (λ_=>PUnit.unit) (λ_ _=>True) 0 l7 trivial
   .intro i s b hi hi' _;refine⟨?_,λ_ _=>trivial⟩;simp only[J7 hi,o7,F7,hi,o8,a1z];unfold sG;rw[Y4 l7];cases E8 60 (D5 .i64 b (o9 s.2.2.2.2))<;>cases smS s<;>rfl
   .intro b _;rw[J6];rfl
   .intro _;cases hs:bD sG l.2.2 0 with
    |inr r=>rw[uQ sG (λr=>r=false) c1z _ _ _ hs];rfl|inl b=>rfl
structure WfL (l:U6):Prop where
 rl:∀t∈l.2.1,t.2.2.2.length<=4611686018427387904
 ri:∀t∈l.2.1,∀r∈t.2.2.2,a9o r
 sl:∀s∈l.2.2,s.2.2.2.2.length<=4611686018427387904
 si:∀s∈l.2.2,ScI s
theorem b7A:∀(L:List gz) (b b' :Int),0<=b->b<=150->(∀t∈L,t.2.2.2.length<=4611686018427387904)->bD tG L b= .inl b' ->∀t∈L,t.1.length<=80/\t.2.2.2.length<=150
 |[],_,_,_,_,_,_=>by simp|t::L,b,b',h0,h1,hw,h=>by
  have hwt:=hw t x9;have ha:D5 .i64 b (o9 t.2.2.2)=b+o9 t.2.2.2:=ai (by unfold kP o9;omega);unfold bD tG at h;rw[ha]at h;cases g0:E8 80 (o9 t.1)<;>rw[g0]at h
  case true=>cases h
  cases g1:E8 150 (b+o9 t.2.2.2)<;>rw[g1]at h
  case true=>cases h
  rw[iE]at g1;intro x hx;rcases D6.1 hx with rfl|hx
  .exact⟨jW (n:=80) g0,by unfold o9 at g1;omega⟩
  .exact b7A L (b+o9 t.2.2.2) b' (by unfold o9;omega) g1 (λq hq=>hw q (by simp[hq])) h x hx
theorem b6y:∀(L:List A7) (b b' :Int),0<=b->b<=60->(∀s∈L,s.2.2.2.2.length<=4611686018427387904)->bD sG L b= .inl b' ->∀s∈L,smS s=true
 |[],_,_,_,_,_,_=>by simp|s::L,b,b',h0,h1,hw,h=>by
  have hwt:=hw s x9;have ha:D5 .i64 b (o9 s.2.2.2.2)=b+o9 s.2.2.2.2:=ai (by unfold kP o9;omega);unfold bD sG at h;rw[ha]at h;cases g1:E8 60 (b+o9 s.2.2.2.2)<;>rw[g1]at h
  case true=>cases h
  cases g2:smS s<;>rw[g2]at h
  case false=>cases h
  rw[iE]at g1;intro x hx;rcases D6.1 hx with rfl|hx
  .exact g2
  .exact b6y L (b+o9 s.2.2.2.2) b' (by unfold o9;omega) g1 (λq hq=>hw q (by simp[hq])) h x hx
theorem c1E(h:smL l=true)(hW:WfL l):SmL l/\∀t∈l.2.1,qO t:=by
 unfold smL at h;obtain⟨h1,h⟩:=YB h;obtain⟨h2,h⟩:=YB h;obtain⟨h3,h⟩:=YB h;obtain⟨h4,h⟩:=YB h;have l1:=jW (n:=9) h1;have l2:=jW (n:=9) h2;have l3:=jW (n:=5) h3;cases ht:bD tG l.2.1 0 with
 |inr r=>rw[ht]at h;cases h|inl b=>
  rw[ht]at h;simp only at h;cases hs:bD sG l.2.2 0 with
  |inr r=>rw[hs]at h;cases h|inl b' =>
   have T:=b7A l.2.1 0 b l7 l7 hW.rl ht;have S:=b6y l.2.2 0 b' l7 l7 hW.sl hs;refine⟨⟨⟨l7,l7,l7⟩,λe he=>?_,λt ht=>by have:=(T t ht).1;omega,λs hs=>c1F (S s hs) (hW.si s hs)⟩,λt ht=>⟨by have:=(T t ht).2;omega,hW.ri t ht⟩⟩;have hl:=a1J h4 e he;unfold a5B at hl;cases g1:E8 80 (o9 e.1)<;>rw[g1]at hl
   case true=>cases hl
   cases g2:E8 20 (o9 e.2)<;>rw[g2]at hl
   case true=>cases hl
   have k1:=jW (n:=80) g1;exact⟨l7,λm hm=>by have:=jW (n:=80) (a1J hl m hm);omega⟩
theorem a6g:reachBytes<=4611686018427387904:=by decide
theorem c8P(h:wf d1z l):WfL l:=by
 refine⟨λt ht=>?_,λt ht r hr=>?_,λs hs=>?_,λs hs r hr=>⟨λn hn=>?_,λn hn=>?_⟩⟩
 .have:=(h.2.1.2 t ht).2.2.2.1;exact bJ this a6g
 .have:=(h.2.1.2 t ht).2.2.2.2 r hr;exact⟨a0W this.2.1,a0W this.2.2.1,a0W this.2.2.2⟩
 .have:=(h.2.2.2 s hs).2.2.2.2.1;exact bJ this a6g
 .have:=(h.2.2.2 s hs).2.2.2.2.2 r hr;exact a0W (this.2.2.2.2.2.1.2 n hn).2
 .have:=(h.2.2.2 s hs).2.2.2.2.2 r hr;exact a0W (this.2.2.2.2.2.2.1.2 n hn).2
def YK(w:d1E)(L:d1A):d1E:=L.foldl (λw x=>w.set x.toNat true) w
theorem a0D:∀(L:d1A) (w:d1E),(YK w L).length=w.length
 |[],w=>rfl|x::L,w=>(a0D L (w.set x.toNat true)).trans x9
def JS(s:A7)(w:d1E)(d:Int):d1E:=YK (w.set d.toNat true) (bC s d)
theorem JU(s:A7)(w:d1E)(d:Int):(JS s w d).length=w.length:=by unfold JS;rw[a0D];simp
variable {w:d1E}{x:Int}
theorem Ie{n:Nat}(hw:w.length=n)(h0:0<=x)(h1:x<(n:Int)):∃b,F9 w x=some b/\V6 w (V9 x)=some b:=by have h:x.toNat<w.length:=l7;exact⟨w[x.toNat],by unfold F9;rw[if_pos h0];exact bn h,bn h⟩
theorem Gn(h:SmS s)(d:Int):(bC s d).length<=14:=FV h (pR s d).1 (λx hx=>zZ hx)
theorem Uh(h:SmS s)(hw:w.length=s.2.2.2.1.length)(h0:0<=d)(h1:d<nD s):BL s w d=some (JS s w d):=by
 have hn:nD s=((s.2.2.2.1.length:Nat):Int):=rfl;have hl:=Gn h d;obtain⟨b,e1,e2⟩:=Ie hw h0 l7;unfold BL;rw[e1,o8,e2,o8,JH h,o8,ig];refine(ou (bC s d) (λ(w:d1E) (x:Int)=>w.set x.toNat true) (λw i=>(w,i)) (λw=>w) (λ_ w=>w.length=s.2.2.2.1.length) (b:=w.set d.toNat true) l7 (by simp[hw]) (λi x v hx hi hv=>?_) (λv hv=>?_)).1
 .have hr:=zZ (kw hx);obtain⟨b,e1,e2⟩:=Ie hv hr.1 l7;simp only[J7 hx,o7,F7,hx,o8];rw[e1,o8,e2,o8,Y4 l7];exact⟨rfl,by simp[hv]⟩
 .simp only[J6];rfl
theorem a2W{s m:A7}(h:SmS m){u w:d1E}(hw:w.length=m.2.2.2.1.length)(h0:0<=d)(h1:d<nD m):oO (s,m,u,w) d=some (s,m,u,JS m w d):=by
 have hn:nD m=((m.2.2.2.1.length:Nat):Int):=rfl;have hl:=Gn h d;obtain⟨b,e1,e2⟩:=Ie hw h0 l7;unfold oO;simp only;rw[e1,o8,e2,o8,Mc h h0 h1,o8,ig];refine(ou (bC m d) (λ(w:d1E) (x:Int)=>w.set x.toNat true) (λw i=>(((s,m,u,w),i):dJ×Int)) (λw=>((s,m,u,w):dJ)) (λ_ w=>w.length=m.2.2.2.1.length) (b:=w.set d.toNat true) l7 (by simp[hw]) (λi x v hx hi hv=>?_) (λv hv=>?_)).1
 .have hr:=zZ (kw hx);obtain⟨b,e1,e2⟩:=Ie hv hr.1 l7;simp only[J7 hx,o7,F7,hx,o8];rw[show V6 (bC m d) (V9 (i:Int))=some x from hx,o8,e1,o8,e2,o8,Y4 l7];exact⟨rfl,by simp[hv]⟩
 .simp only[J6];rfl
def Bf(r:Z7):d1A:=(jD r.2.2.2.2.2.1).2.2++(jD r.2.2.2.2.2.2.1).2.2
def mdl(rs:List Z7)(C:d1A):d1A:=rs.flatMap λr=>l9 (qX C r.2.1) (Bf r) []
def mbS(s:A7)(d:Int):d1A:=l9 (inD (nD s) d) (ja (mdl s.2.2.2.2 (ins d (bC s d)))) []
variable {r:Z7}
theorem WS(h:SmS s)(hr:r∈s.2.2.2.2):(Bf r).length<=100:=by obtain⟨_,h1,h2⟩:=h.ro r hr;have a1:=Jd r.2.2.2.2.2.1;have a2:=Jd r.2.2.2.2.2.2.1;unfold Bf;rw[F5];omega
theorem a3u{s:A7}(h:SmS s)(C:d1A):∀(rs:List Z7),(∀r∈rs,r∈s.2.2.2.2)->(mdl rs C).length<=100*rs.length
 |[],_=>by simp[mdl]|r::rs,hr=>by
  have h1:=a3u h C rs (λx hx=>hr x (by simp[hx]));have h2:=WS h (hr r x9);have:mdl (r::rs) C=l9 (qX C r.2.1) (Bf r) []++mdl rs C:=rfl;rw[this,F5,H9];cases qX C r.2.1
  .simp only[o6,dG];omega
  .simp only[o7];omega
theorem b0d{rs:List Z7}{C:d1A} :x∈mdl rs C↔∃r∈rs,qX C r.2.1=true/\x∈Bf r:=by
 unfold mdl;rw[List.mem_flatMap];constructor
 .rintro⟨r,h1,h2⟩;cases h:qX C r.2.1<;>rw[h]at h2
  .simp at h2
  .exact⟨r,h1,h,h2⟩
 .rintro⟨r,h1,h2,h3⟩;exact⟨r,h1,by rw[h2];exact h3⟩
theorem a9S{f:d1A×Int->Option ((d1A×Int)⊕d1A)}(l b:d1A)(hl:l.length<=1000)(hb:b.length<=100000)
  (hin:∀(i:Nat) (a:Int) (acc:d1A),l[i]? =some a->i<=1000000->f (acc,(i:Int))=o5 (mi acc a) λx=>some (.inl (x,D5 .i64 (i:Int) 1)))
  (hend:∀acc,f (acc,(l.length:Int))=some (.inr acc)):aB f (b,0)=some (Em l b):=by
 refine(ou l (λ(acc:d1A) x=>ins x acc) (λb i=>(b,i)) (λb=>b) (λi acc=>acc.length<=100000+i) (f:=f) (b:=b) l7 l7 (λi a acc ha hi hI=>?_) (λacc hI=>hend acc)).1;have hlt:=(X6.1 ha).1;have h2:=tZ a acc;rw[hin i a acc ha hi,Y4 l7,Dn _ l7];exact⟨rfl,by show(ins a acc).length<=_;omega⟩
theorem a0g(h:SmS s)(d:Int):AB s d=some (mbS s d):=by
 have hnr:=h.nr;have hl:=Gn h d;have hli:=tZ d (bC s d);unfold AB mbS;rw[a8k,o8];change l9 (F8 (inD (nD s) d)) _ _=_;cases inD (nD s) d
 .rfl
 simp only[E5,o6,o7];rw[JH h,o8,Dn _ l7,o8];generalize hC:ins d (bC s d)=C at*;refine dI s.2.2.2.2 (λ(acc:d1A) r=>l9 (qX C r.2.1) (Em (Bf r) acc) acc) (λb i=>(b,i)) (λb=>b) (λi acc=>acc.length<=100*i) [] l7 x9 (λi r acc ha hi hI=>?_) (λacc hI=>?_) (λh2=>?_)
 .have hlt:=(X6.1 ha).1;obtain⟨_,h1,h2⟩:=h.ro r (kw ha);have a1:=Jd r.2.2.2.2.2.1;have a2:=Jd r.2.2.2.2.2.2.1;have hlen:=DC (Bf r) acc;have hrl:=WS h (kw ha);simp only[J7 ha,o7,F7,ha,o8];rw[Y4 l7,a3P l7,o8];cases qX C r.2.1
  .exact⟨rfl,by show acc.length<=_;omega⟩
  simp only[E5,o6,o7,EG (show r.2.2.2.2.2.1.length<=500000 by omega),EG (show r.2.2.2.2.2.2.1.length<=500000 by omega),o8];refine⟨?_,by show(Em (Bf r) acc).length<=_;omega⟩;refine X9 (a9S (jD r.2.2.2.2.2.1).2.2 acc l7 l7 (λi a acc ha hi=>?_) (λacc=>?_)) ?_
  rotate_left 2
  .rw[o8];have hl2:=DC (jD r.2.2.2.2.2.1).2.2 acc;refine X9 (a9S (jD r.2.2.2.2.2.2.1).2.2 _ l7 l7 (λi a acc ha hi=>?_) (λacc=>?_)) ?_
   rotate_left 2
   .rw[o8];unfold Bf;rw[KQ]
   .simp only[J7 ha,o7,F7,ha,o8];rw[show V6 (jD r.2.2.2.2.2.2.1).2.2 (V9 (i:Int))=some a from ha];rfl
   .simp only[J6];rfl
  .simp only[J7 ha,o7,F7,ha,o8];rw[show V6 (jD r.2.2.2.2.2.1).2.2 (V9 (i:Int))=some a from ha];rfl
  .simp only[J6];rfl
 .simp only[J6];rfl
 .have hf:∀(l:List Z7) (b:d1A),l.foldl (λ(acc:d1A) r=>l9 (qX C r.2.1) (Em (Bf r) acc) acc) b=Em (mdl l C) b:=by
   intro l;induction l with
   |nil=>intro b;rfl|cons a l ih=>intro b;rw[P6,ih,show mdl (a::l) C=l9 (qX C a.2.1) (Bf a) []++mdl l C from rfl,KQ];cases qX C a.2.1<;>rfl
  rw[hf];rfl
theorem a3x:∀(L:d1A) (w:d1E),(∀x∈L,0<=x/\x<o9 w)->∀x,mk (YK w L) x=true↔mk w x=true\/x∈L
 |[],w,_,x=>by simp[YK]|y::L,w,h,x=>by
  have hy:=h y x9;have ih:=a3x L (w.set y.toNat true) (λz hz=>by have:=h z (by simp[hz]);simp only[o9,ji]at this ⊢;exact this) x;rw[show YK w (y::L)=YK (w.set y.toNat true) L from rfl,ih,M_ hy.1 hy.2];cases hq:x8 x y
  .have:x≠y:=λe=>by rw[N9 e]at hq;cases hq
   simp[this]
  .rw[O5]at hq;simp[hq]
theorem WV(n:Nat)(x:Int):mk (List.replicate n false) x=false:=by
 unfold mk;split
 .rw[qY,jC];split<;>rfl
 .rfl
theorem a1l(h:SmS s)(h0:0<=d)(h1:d<nD s):BU s d=some (mbS s d):=by
 have hn:nD s=((s.2.2.2.1.length:Nat):Int):=rfl;have hnr:=h.nr;have hnd:=h.nd;have hl:=Gn h d;have hr:Ae ((List.range s.2.2.2.1.length).map λ(d:Nat)=>O6 s (d:Int)) d=some (bC s d):=by obtain⟨L,k1,k2⟩:=a0l (D:=O6 s) h.nd (Dv s) (λx y hy=>uK hy) h0 (show d<((s.2.2.2.1.length:Nat):Int) by omega);rw[k1,Rch.unique k2 (pR s d)]
 obtain⟨b,e1,e2⟩:=Ie (w:=List.replicate s.2.2.2.1.length false) x9 h0 (show d<((s.2.2.2.1.length:Nat):Int) by omega);unfold BU mbS;rw[show inD (nD s) d=true by unfold inD;rw[Y3 h0,U8 h1];rfl,o7];change o5 (l9 (E8 d 0) _ (l9 (L8 (nD s) d) _ _)) _=_;rw[N7 h0,o6,Y9 h1,o6,o8];simp only[U1];rw[zT s h false,o8,e1,o8,e2,o8,Nz h,o8,hr,o8];refine X9 (o' :=some (YK ((List.replicate s.2.2.2.1.length false).set d.toNat true) (bC s d))) ?_ ?_
 .refine(ou (bC s d) (λ(w:d1E) (x:Int)=>w.set x.toNat true) (λw i=>(w,i)) (λw=>w) (λ_ w=>w.length=s.2.2.2.1.length) (b:=(List.replicate s.2.2.2.1.length false).set d.toNat true) l7 x9 (λi x v hx hi hv=>?_) (λv hv=>?_)).1
  .have hr:=zZ (kw hx);obtain⟨b,e1,e2⟩:=Ie hv hr.1 l7;simp only[J7 hx,o7,F7,hx,o8];rw[show V6 (bC s d) (V9 (i:Int))=some x from hx,o8,e1,o8,e2,o8,Y4 l7];exact⟨rfl,by simp[hv]⟩
  .simp only[J6];rfl
 rw[o8];have hW:∀x,0<=x->x<nD s->mk (YK ((List.replicate s.2.2.2.1.length false).set d.toNat true) (bC s d)) x=qX (ins d (bC s d)) x:=λx x0 x1=>by
  have hm:=a3x (bC s d) ((List.replicate s.2.2.2.1.length false).set d.toNat true) (λy hy=>by have:=zZ hy;simp only[o9,ji,tN];omega) x;have hd:=M_ (S:=List.replicate s.2.2.2.1.length false) (e:=d) h0 (by simp only[o9,tN];omega) x;have hh:qX (ins d (bC s d)) x=true↔x=d\/x∈bC s d:=by rw[yA,Ob]
  have key:mk (YK ((List.replicate s.2.2.2.1.length false).set d.toNat true) (bC s d)) x=true↔qX (ins d (bC s d)) x=true:=by
   rw[hm,hh,hd,WV];cases hq:x8 x d
   .have:x≠d:=λe=>by rw[N9 e]at hq;cases hq
    simp[this]
   .rw[O5]at hq;simp[hq]
  rcases Bool.eq_false_or_eq_true (qX (ins d (bC s d)) x)with hb|hb
  .rw[hb];exact key.2 hb
  .rw[hb];cases hc:mk (YK ((List.replicate s.2.2.2.1.length false).set d.toNat true) (bC s d)) x
   .rfl
   .rw[key.1 hc]at hb;cases hb
 have hWl:(YK ((List.replicate s.2.2.2.1.length false).set d.toNat true) (bC s d)).length=s.2.2.2.1.length:=by rw[a0D];simp
 have hCin:∀x∈ins d (bC s d),0<=x/\x<nD s:=λx hx=>by
  rcases(Ob d x _).1 hx with rfl|hx
  .exact⟨h0,h1⟩
  .exact zZ hx
 generalize YK ((List.replicate s.2.2.2.1.length false).set d.toNat true) (bC s d)=W at*;generalize ins d (bC s d)=C at*;refine dI s.2.2.2.2 (λ(acc:d1A) r=>l9 (qX C r.2.1) (acc++Bf r) acc) (λb i=>(b,i)) (λb=>b) (λi acc=>acc.length<=100*i) [] l7 x9 (λi r acc ha hi hI=>?_) (λacc hI=>?_) (λh2=>?_)
 .have hlt:=(X6.1 ha).1;obtain⟨_,h1,h2⟩:=h.ro r (kw ha);have a1:=Jd r.2.2.2.2.2.1;have a2:=Jd r.2.2.2.2.2.2.1;have hrl:=WS h (kw ha);simp only[J7 ha,o7,F7,ha,o8];rw[Y4 l7];obtain⟨e,he⟩:∃e:Int,r.2.1=e:=⟨_,rfl⟩;rw[he];change l9 (E8 e 0) _ (l9 (L8 (nD s) e) _ _)=_/\_;by_cases q0:0<=e
  case neg=>
   have:qX C e=false:=by
    cases hq:qX C e
    .rfl
    .exact absurd (hCin _ (yA.1 hq)).1 q0
   rw[U8 (show e<0 by omega),this];exact⟨rfl,by show acc.length<=_;omega⟩
  by_cases q1:e<nD s
  case neg=>
   have:qX C e=false:=by
    cases hq:qX C e
    .rfl
    .exact absurd (hCin _ (yA.1 hq)).2 q1
   rw[N7 q0,Y3 (show nD s<=e by omega),this];exact⟨rfl,by show acc.length<=_;omega⟩
  obtain⟨b,f1,f2⟩:=Ie hWl q0 (show e<((s.2.2.2.1.length:Nat):Int) by omega);have hb:b=qX C e:=by have:=a7U (S:=W) q0 (by simp only[o9];omega);rw[←hW _ q0 q1];have e3:W[e.toNat]? =some b:=f2;rw[this]at e3;exact(I9 e3).symm
  rw[N7 q0,o6,Y9 q1,o6,f1,o8,f2,o8,hb];cases qX C e
  .exact⟨rfl,by show acc.length<=_;omega⟩
  simp only[E5,o6,o7,GL (show r.2.2.2.2.2.1.length<=1000000 by omega),GL (show r.2.2.2.2.2.2.1.length<=1000000 by omega),o8];rw[uy l7,o8,uy (by rw[F5];omega),o8];refine⟨by unfold Bf;rw[G5],by show(acc++Bf r).length<=_;rw[F5];omega⟩
 .simp only[J6];rfl
 .have hf:∀(l:List Z7) (b:d1A),l.foldl (λ(acc:d1A) r=>l9 (qX C r.2.1) (acc++Bf r) acc) b=b++mdl l C:=by
   intro l;induction l with
   |nil=>intro b;simp[mdl]|cons a l ih=>intro b;rw[P6,ih,show mdl (a::l) C=l9 (qX C a.2.1) (Bf a) []++mdl l C from rfl];cases qX C a.2.1<;>simp
  rw[hf,G6];have hml:=a3u h C s.2.2.2.2 (λ_ h=>h);rw[VN l7];rfl
def Dk(m:A7)(w:d1E)(L:d1A):d1E:=L.foldl (JS m) w
theorem Oa(m:A7):∀(L:d1A) (w:d1E),(Dk m w L).length=w.length
 |[],w=>rfl|x::L,w=>(Oa m L (JS m w x)).trans (JU m w x)
theorem b0a(h:SmS s)(d:Int):(mbS s d).length<=6000:=by
 unfold mbS;cases inD (nD s) d
 .simp
 .have h1:=KU (mdl s.2.2.2.2 (ins d (bC s d)));have h2:=a3u h (ins d (bC s d)) s.2.2.2.2 (λ_ h=>h);have:=h.nr;simp only[o7];omega
theorem b0N{s m:A7}(h:SmS s)(hm:SmS m){u w:d1E}(hu:u.length=s.2.2.2.1.length)(hw:w.length=m.2.2.2.1.length)(h0:0<=d)(h1:d<nD s)(hr:∀x∈mbS s d,0<=x/\x<nD m):
  wQ (s,m,u,w) d=some (s,m,JS s u d,Dk m w (mbS s d)):=by
 have hn:nD s=((s.2.2.2.1.length:Nat):Int):=rfl;have hl:=Gn h d;have hml:=b0a h d;obtain⟨b,e1,e2⟩:=Ie hu h0 l7;unfold wQ;simp only;rw[e1,o8,e2,o8,Mc h h0 h1,o8];refine X9 (o' :=some ((s,m,JS s u d,w):dJ)) ?_ ?_
 .refine(ou (bC s d) (λ(v:d1E) (x:Int)=>v.set x.toNat true) (λv i=>(((s,m,v,w),i):dJ×Int)) (λv=>((s,m,v,w):dJ)) (λ_ v=>v.length=s.2.2.2.1.length) (b:=u.set d.toNat true) l7 (by simp[hu]) (λi x v hx hi hv=>?_) (λv hv=>?_)).1
  .have hr:=zZ (kw hx);obtain⟨b,e1,e2⟩:=Ie hv hr.1 l7;simp only[J7 hx,o7,F7,hx,o8];rw[show V6 (bC s d) (V9 (i:Int))=some x from hx,o8,e1,o8,e2,o8,Y4 l7];exact⟨rfl,by simp[hv]⟩
  .simp only[J6];rfl
 rw[o8];simp only;rw[a1l h h0 h1,o8,ig];refine(ou (mbS s d) (JS m) (λv i=>(((s,m,JS s u d,v),i):dJ×Int)) (λv=>((s,m,JS s u d,v):dJ)) (λ_ v=>v.length=m.2.2.2.1.length) (b:=w) l7 hw (λi x v hx hi hv=>?_) (λv hv=>?_)).1
 .have hq:=hr x (kw hx);simp only[J7 hx,o7,F7,hx,o8];rw[show V6 (mbS s d) (V9 (i:Int))=some x from hx,o8,a2W hm hv hq.1 hq.2,o8,Y4 l7];exact⟨rfl,(JU m v x).trans hv⟩
 .simp only[J6];rfl
theorem Lm(hv:(fB l).1=0)(hs:F9 l.2.2 k=some s)(h:SmS s)(hm:SmS (L9 l s))(hw:w.length=(L9 l s).2.2.2.1.length)(d:Int)(hr:∀x∈mbS s d,0<=x/\x<nD (L9 l s)):
  vV l k w d=some (Dk (L9 l s) w (mbS s d)):=by
 have hml:=b0a h d;unfold vV;rw[hs,o8,a0g h,o8,ig];refine(ou (mbS s d) (JS (L9 l s)) (λv i=>(v,i)) (λv=>v) (λ_ v=>v.length=(L9 l s).2.2.2.1.length) (b:=w) l7 hw (λi x v hx hi hq=>?_) (λv hv=>?_)).1
 .have hx2:=hr x (kw hx);simp only[J7 hx,o7,F7,hx,o8];rw[zG hv hs,o8,show V6 (mbS s d) (V9 (i:Int))=some x from hx,o8,Uh hm hq hx2.1 hx2.2,o8,Y4 l7];exact⟨rfl,(JU _ v x).trans hq⟩
 .simp only[J6];rfl
variable {sg:N8}
theorem b9M(hk:fZ k=some true)(h:(IL (k,N) [] sg).2=0):((RR (k,N) [] sg).getD ((0,0),0)).2=0:=by
 unfold IL at h;rw[b2U]at h;revert h;cases F8 (x8 N 0)
 .exact id
 .rw[show fZ (k,N).1=some true from hk];exact id
theorem b8I(h:(IL (8,N) [] sg).2=0):0<=N/\N<o9 sg.2.2.2.1:=by
 have h:=b9M rfl h;have hf:qy (8,N) sg=l9 (L8 0 N) (some (E8 N (o9 sg.2.2.2.1))) (some false):=rfl;unfold RR at h;rw[hf,show mg (8,N) sg=some true from rfl]at h;cases h1:L8 0 N<;>rw[h1]at h
 .exact absurd (show(6:Int)=0 from h) G7
 cases h2:E8 N (o9 sg.2.2.2.1)<;>rw[h2]at h
 .exact absurd (show(6:Int)=0 from h) G7
 exact⟨iQ.1 h1,jF.1 h2⟩
theorem b8K(hk:k=36\/k=37\/k=38\/k=39)(h:(IL (k,N) [] sg).2=0):0<=N/\N<o9 sg.2.2.2.2.1/\sg.2.2.2.2.2=true:=by
 have h:=b9M (by rcases hk with rfl|rfl|rfl|rfl<;>rfl) h;have hr:RR (k,N) [] sg=o5 (l9 sg.2.2.2.2.2 (l9 (L8 0 N) (some (E8 N (o9 sg.2.2.2.2.1))) (some false)) (some false)) λ(x:Bool)=>l9 (F8 x) (some ((0,0),6))
   (o5 (mP (k,N) sg) λ(x:F6×Bool)=>l9 (F8 x.2) (some ((0,0),8)) (some (x.1,0))):=by rcases hk with rfl|rfl|rfl|rfl<;>rfl
 rw[hr]at h;cases h0:sg.2.2.2.2.2<;>rw[h0]at h
 .exact absurd (show(6:Int)=0 from h) G7
 cases h1:L8 0 N<;>rw[h1]at h
 .exact absurd (show(6:Int)=0 from h) G7
 cases h2:E8 N (o9 sg.2.2.2.2.1)<;>rw[h2]at h
 .exact absurd (show(6:Int)=0 from h) G7
 exact⟨iQ.1 h1,jF.1 h2,rfl⟩
def Zg(sg:N8)(n:Int×Int):Prop:=(x8 n.1 8=true->0<=n.2/\n.2<o9 sg.2.2.2.1)/\(isM n.1=true->0<=n.2/\n.2<o9 sg.2.2.2.2.1/\sg.2.2.2.2.2=true)
theorem WJ(h:isM k=true):k=36\/k=37\/k=38\/k=39:=by
 unfold isM at h;cases h1:L8 36 k<;>rw[h1]at h
 .cases h
 have h2:=iQ.1 h1;have h3:=iQ.1 (show L8 k 39=true from h);omega
theorem b4t{n:Int×Int}{t:Int×Int}(h:EC sg n [] i= .inr t):Zg sg n:=by
 unfold EC at h;split at h
 .rename_i h0;obtain⟨k,N⟩:=n;refine⟨λhk=>?_,λhk=>b8K (WJ hk) h0⟩;have hk:k=8:=O5.1 hk;subst hk;exact b8I h0
 .cases h
theorem T_{n:Int×Int}(h:arF n.1≠0):Zg sg n:=by
 refine⟨λhk=>absurd ?_ h,λhk=>absurd ?_ h⟩
 .rw[O5.1 hk];rfl
 .rcases WJ hk with e|e|e|e<;>rw[e]<;>rfl
theorem OT{sg:N8} :∀(t:XT) (o:Nat) {r:Int×Int},t.wf->jo sg t o= .inr r->∀n∈t.post,Zg sg n
 | .l0 n,o,r,hw,h,x,hx=>by unfold XT.post at hx;rw[D9.1 hx];unfold jo at h;exact b4t h| .l1 n a,o,r,hw,h,x,hx=>by
  unfold XT.wf at hw;unfold XT.post at hx;unfold jo at h;cases ha:jo sg a o with
  |inl e=>rw[ha]at h;cases h|inr ta=>
   rcases C9.1 hx with hx|hx
   .exact OT a o hw.2 ha x hx
   .rw[D9.1 hx];exact T_ (by rw[hw.1];decide)
 | .l2 n a b,o,r,hw,h,x,hx=>by
  unfold XT.wf at hw;unfold XT.post at hx;unfold jo at h;cases ha:jo sg a o with
  |inl e=>rw[ha]at h;cases h|inr ta=>
   rw[ha]at h;simp only at h;cases hb:jo sg b (o+a.size)with
   |inl e=>rw[hb]at h;cases h|inr tb=>
    rcases C9.1 hx with hx|hx
    .rcases C9.1 hx with hx|hx
     .exact OT a o hw.2.1 ha x hx
     .exact OT b _ hw.2.2 hb x hx
    .rw[D9.1 hx];exact T_ (by rw[hw.1];decide)
 | .l3 n a b c,o,r,hw,h,x,hx=>by
  unfold XT.wf at hw;unfold XT.post at hx;unfold jo at h;cases ha:jo sg a o with
  |inl e=>rw[ha]at h;cases h|inr ta=>
   rw[ha]at h;simp only at h;cases hb:jo sg b (o+a.size)with
   |inl e=>rw[hb]at h;cases h|inr tb=>
    rw[hb]at h;simp only at h;cases hc:jo sg c (o+a.size+b.size)with
    |inl e=>rw[hc]at h;cases h|inr tc=>
     rcases C9.1 hx with hx|hx
     .rcases C9.1 hx with hx|hx
      .rcases C9.1 hx with hx|hx
       .exact OT a o hw.2.1 ha x hx
       .exact OT b _ hw.2.2.1 hb x hx
      .exact OT c _ hw.2.2.2 hc x hx
     .rw[D9.1 hx];exact T_ (by rw[hw.1];decide)
theorem Oe{n:Int×Int}{ops:List (Int×Int)}{x:Int×Int}(h:EC sg n ops i= .inl x):x.2≠0:=by
 unfold EC at h;split at h
 .cases h
 .rename_i h0;cases h;exact h0
theorem DX{sg:N8} :∀(t:XT) (o:Nat) {x:Int×Int},jo sg t o= .inl x->x.2≠0
 | .l0 n,o,x,h=>Oe h| .l1 n a,o,x,h=>by
  unfold jo at h;cases ha:jo sg a o with
  |inl e=>rw[ha]at h;cases h;exact DX a o ha|inr ta=>rw[ha]at h;exact Oe h
 | .l2 n a b,o,x,h=>by
  unfold jo at h;cases ha:jo sg a o with
  |inl e=>rw[ha]at h;cases h;exact DX a o ha|inr ta=>
   rw[ha]at h;simp only at h;cases hb:jo sg b (o+a.size)with
   |inl e=>rw[hb]at h;cases h;exact DX b _ hb|inr tb=>rw[hb]at h;exact Oe h
 | .l3 n a b c,o,x,h=>by
  unfold jo at h;cases ha:jo sg a o with
  |inl e=>rw[ha]at h;cases h;exact DX a o ha|inr ta=>
   rw[ha]at h;simp only at h;cases hb:jo sg b (o+a.size)with
   |inl e=>rw[hb]at h;cases h;exact DX b _ hb|inr tb=>
    rw[hb]at h;simp only at h;cases hc:jo sg c (o+a.size+b.size)with
    |inl e=>rw[hc]at h;cases h;exact DX c _ hc|inr tc=>rw[hc]at h;exact Oe h
theorem a2N(h:(kY e sg).2.2=0):∀n∈e,Zg sg n:=by
 unfold kY at h;cases hs:mF e with
 |inl x=>rw[hs]at h;exact absurd h (DV hs)|inr t=>
  rw[hs]at h;simp only at h;cases ht:jo sg t 0 with
  |inl x=>rw[ht]at h;exact absurd h (DX t 0 ht)|inr r=>intro n hn;rw[(DW hs).1]at hn;exact OT t 0 (RZ hs) ht n hn
theorem Sj{t:Int×Int}(h:Fv e sg t=0):kY e sg=(t,(kY e sg).2.1,0):=by
 unfold Fv at h;cases h1:x8 (kY e sg).2.2 0<;>rw[h1]at h
 .simp only[o6]at h;rw[N9 h]at h1;cases h1
 cases h2:x8 (kY e sg).1.1 t.1<;>rw[h2]at h
 .exact absurd (show(8:Int)=0 from h) G7
 cases h3:x8 (kY e sg).1.2 t.2<;>rw[h3]at h
 .exact absurd (show(8:Int)=0 from h) G7
 rw[O5]at h1 h2 h3;exact fH (fH h2 h3) (fH rfl h1)
theorem Kt(h:(fB l).1=0)(hs:l.2.2[i]? =some s){k:Nat}(hr:s.2.2.2.2[k]? =some r):JV s (BO l s) k r=0:=by
 have hp:=(Jh h hs).2;unfold Ht at hp;cases h1:wP l s with
 |some q=>rw[h1]at hp;exact absurd hp (GV h1)|none=>
  rw[h1]at hp;simp only at hp;cases h2:ay s.2.2.2.2.length (FI l s)with
  |some q=>
   rw[h2]at hp;obtain⟨j,hj,hq⟩:=iP h2;unfold FI at hq;cases h3:s.2.2.2.2[j]? with
   |none=>rw[h3]at hq;cases hq|some q2=>rw[h3]at hq;exact absurd hp (MM hq)
  |none=>
   have hn:=vF h2 k (X6.1 hr).1;unfold FI at hn;rw[hr]at hn;simp only at hn;unfold WC at hn;cases he:x8 (JV s (BO l s) k r) 0<;>rw[he]at hn
   .cases hn
   .exact O5.1 he
theorem a0x{k:Nat}(h:JV s sg k r=0):∃d,F9 s.2.2.2.1 r.2.1=some d/\PW r sg d.2=0:=by
 unfold JV at h;cases g1:DY r.1<;>rw[g1]at h
 .exact absurd (show(2:Int)=0 from h) G7
 cases g2:(s.2.2.2.2.take k).any λx=>seq x.1 r.1<;>rw[g2]at h
 case true=>exact absurd (show(7:Int)=0 from h) G7
 cases g3:F9 s.2.2.2.1 r.2.1 with
 |none=>rw[g3]at h;exact absurd (show(6:Int)=0 from h) G7|some d=>
  rw[g3]at h;refine⟨d,rfl,?_⟩;simp only[o7,o6]at h;revert h;generalize l9 (x8 r.2.2.1 (-1)) false (l9 (E8 r.2.2.1 0) true (l9 (L8 k r.2.2.1) true (match F9 s.2.2.2.2 r.2.2.1 with|some q=>F8 (x8 q.2.1 r.2.1)|none=>true)))=b1;generalize E8 r.2.2.2.1 0=b2;generalize E8 9 r.2.2.2.1=b3;generalize Jn r.2.2.2.2.1=b4;generalize x8 r.2.2.2.2.1.1 r.2.2.2.2.1.2=b5;generalize L8 8 (Ig (s.2.2.2.2.take k) r.2.1)=b6;generalize a1A r.2.2.2.2.2.2.2=b7;intro h;cases b1
  case true=>exact absurd (show(9:Int)=0 from h) G7
  cases b2
  case true=>exact absurd (show(3:Int)=0 from h) G7
  cases b3
  case true=>exact absurd (show(3:Int)=0 from h) G7
  cases b4
  case false=>exact absurd (show(3:Int)=0 from h) G7
  cases b5
  case true=>exact absurd (show(3:Int)=0 from h) G7
  cases b6
  case true=>exact absurd (show(4:Int)=0 from h) G7
  cases b7
  case false=>exact absurd (show(2:Int)=0 from h) G7
  exact h
theorem QM(h:(fB l).1=0)(hs:l.2.2[i]? =some s)(hr:r∈s.2.2.2.2):
  (r.2.2.2.2.2.1=[]\/Fv r.2.2.2.2.2.1 (BO l s) (1,0)=0)/\∃d,F9 s.2.2.2.1 r.2.1=some d/\Fv r.2.2.2.2.2.2.1 (BO l s) d.2=0:=by
 obtain⟨k,hk,e⟩:=X7 hr;obtain⟨d,h1,h2⟩:=a0x (Kt h hs (r:=r) (k:=k) (by rw[bn hk,e]));unfold PW at h2;cases h3:E8 0 (o9 r.2.2.2.2.2.1)<;>rw[h3]at h2
 .refine⟨.inl ?_,d,h1,h2⟩;rw[iE]at h3;exact U2.1 (by simp only[o9]at h3;omega)
 .simp only[o7]at h2;cases h4:x8 (Fv r.2.2.2.2.2.1 (BO l s) (1,0)) 0<;>rw[h4]at h2
  .simp only[o6]at h2;rw[N9 h2]at h4;cases h4
  .exact⟨.inr (O5.1 h4),d,h1,h2⟩
theorem b6G(l:U6)(s:A7):(BO l s).2.2.2.1=s.2.2.2.1.map (·.2):=by unfold BO;split<;>rfl
theorem b9h(h:(BO l s).2.2.2.2.2=true):(BO l s).2.2.2.2.1=(L9 l s).2.2.2.1.map (·.2):=by
 unfold BO at h ⊢;unfold L9 F9
 by_cases g:0<=s.2.1
 .rw[if_pos g]at h ⊢;rw[Y3 g];cases hq:l.2.2[s.2.1.toNat]? with
  |none=>rw[hq]at h;cases h|some q=>rfl
 .rw[if_neg g]at h;cases h
theorem Xq(h:(fB l).1=0)(hs:l.2.2[i]? =some s)(hr:r∈s.2.2.2.2)(he:e=r.2.2.2.2.2.1\/e=r.2.2.2.2.2.2.1):
  (∀x∈(jD e).2.1,0<=x/\x<nD s)/\∀x∈(jD e).2.2,0<=x/\x<nD (L9 l s):=by
 obtain⟨h1,d,h2,h3⟩:=QM h hs hr;have hn:∀n∈e,Zg (BO l s) n:=by
  rcases he with rfl|rfl
  .rcases h1 with h1|h1
   .rw[h1];simp
   .exact a2N (by rw[Sj h1])
  .exact a2N (by rw[Sj h3])
 constructor
 .intro x hx;have hx:=(jk x _).1 (show x∈ja (Nk (λo=>x8 o 8) e)from hx);obtain⟨n,hn1,rfl⟩:=U0.1 hx;obtain⟨hn2,hn3⟩:=I7.1 hn1;have:=(hn n hn2).1 hn3;rw[b6G]at this;simpa[o9,nD]using this
 .intro x hx;have hx:=(jk x _).1 (show x∈ja (Nk isM e)from hx);obtain⟨n,hn1,rfl⟩:=U0.1 hx;obtain⟨hn2,hn3⟩:=I7.1 hn1;have:=(hn n hn2).2 hn3;rw[b9h this.2.2]at this;refine⟨this.1,?_⟩;have h2:=this.2.1;simpa[o9,nD]using h2
theorem WQ(h:(fB l).1=0)(hs:l.2.2[i]? =some s)(d:Int):∀x∈mbS s d,0<=x/\x<nD (L9 l s):=by
 intro x hx;unfold mbS at hx;cases hq:inD (nD s) d<;>rw[hq]at hx
 .simp at hx
 .obtain⟨r,hr,_,h3⟩:=b0d.1 ((jk x _).1 hx);rcases C9.1 h3 with h3|h3
  .exact(Xq h hs hr (.inl rfl)).2 x h3
  .exact(Xq h hs hr (.inr rfl)).2 x h3
theorem a5a{e:E4}(h:PR l s c nS nM= .inr e):e.1≠0:=by
 unfold PR at h;cases hm:mS l c (L9 l s) nM with
 |inr e=>rw[hm]at h;cases h;exact uQ _ (λr=>r.1≠0) a7R _ _ _ hm|inl b=>
  rw[hm]at h;simp only at h;cases hs:scS s (uf l s c b) (-1) nS with
  |inr r=>rw[hs]at h;cases h;exact OI hs|inl x=>rw[hs]at h;cases h
theorem b3E{x:DB×List DB}(h:PR l s c nS nM= .inl x):x.1.1.length=s.2.2.2.1.length/\x.1.2.length=s.2.2.2.1.length:=by
 unfold PR at h;cases hm:mS l c (L9 l s) nM with
 |inr e=>rw[hm]at h;cases h|inl b=>
  rw[hm]at h;simp only at h;cases hs:scS s (uf l s c b) (-1) nS with
  |inr r=>rw[hs]at h;cases h|inl y=>rw[hs]at h;cases h;exact Fa hs
theorem Zu(h:(Bi l k c true d).1=0)(hs:F9 l.2.2 k=some s):0<=d/\d<nD s:=by
 unfold Bi at h;cases h0:x8 (fB l).1 0<;>rw[h0]at h
 .exact absurd (show(1:Int)=0 from h) G7
 rw[hs]at h;simp only[o7]at h;cases h1:E8 d 0<;>rw[h1]at h
 case true=>exact absurd (show(6:Int)=0 from h) G7
 cases h2:L8 (o9 s.2.2.2.1) d<;>rw[h2]at h
 case true=>exact absurd (show(6:Int)=0 from h) G7
 rw[iE]at h1;rw[Bl]at h2;exact⟨h1,h2⟩
theorem Nb{l:List α}(a:α)(h0:0<=d)(h1:d<(l.length:Int)):F9 l d=some (l.getD d.toNat a)/\V6 l (V9 d)=some (l.getD d.toNat a):=by
 have h:d.toNat<l.length:=l7;have e:l[d.toNat]? =some (l.getD d.toNat a):=by rw[qY,bn h];rfl
 exact⟨by unfold F9;rw[if_pos h0];exact e,e⟩
def c3O(d:Int)(r:DB×List DB⊕E4):V3×Int×E4:=match r with
 | .inr e=>((0,0,0),0,e)| .inl x=>(x.1.1.getD d.toNat (0,0,0),x.1.2.getD d.toNat 0,0,0,0,0)
def TG(l:U6)(s:A7)(c:aF)(d:Int):V3×Int×E4:=
 c3O d (PR l s c (JS s (uC s.2.2.2.1.length) d) (Dk (L9 l s) (uC (L9 l s).2.2.2.1.length) (mbS s d)))
theorem FT(n:Nat):(uC n).length=n:=by simp[uC]
theorem a7A(hL:SmL l)(hC:SmC c)(hT:∀t∈l.2.1,qO t):
  lQ l k c d=some (if(Bi l k c true d).1=0 then(match F9 l.2.2 k with|some s=>TG l s c d|none=>((0,0,0),0,0,0,0,0))else((0,0,0),0,Bi l k c true d)):=by
 unfold lQ;rw[b7X hL k hC,o8];by_cases hA:(Bi l k c true d).1=0
 case neg=>rw[if_neg hA,O9 hA];rfl
 rw[if_pos hA,N9 hA];obtain⟨h,s,hs⟩:=QV hA;obtain⟨h0,h1⟩:=Zu hA hs;have hM:=Qg hL h hs;have hS:=hL.sc s (bg hs).2.2.1;have hn:nD s=((s.2.2.2.1.length:Nat):Int):=rfl;rw[hs];simp only[E5,o6];rw[a5L hL h hs,o8,b0N hS hM (FT _) (FT _) h0 h1 (WQ h (bg hs).2.2.2 d),o8,a3g hS hM hC hT (by rw[JU,FT]) (by rw[Oa,FT]),o8];unfold TG;cases hq:PR l s c (JS s (uC s.2.2.2.1.length) d) (Dk (L9 l s) (uC (L9 l s).2.2.2.1.length) (mbS s d))with
 |inr e=>simp only[O9 (a5a hq)];rfl|inl x=>obtain⟨g1,g2⟩:=b3E hq;simp only[N9 (rfl:(0:Int)=0),E5,o6];rw[(Nb (0,0,0) h0 l7).1,o8,(Nb 0 h0 l7).1];rfl
theorem a5Z(hL:SmL l)(hC:SmC c)(hT:∀t∈l.2.1,qO t):
  yM l k c d=some (if(Bi l k c true d).1=0 then(match F9 l.2.2 k with|some s=>TG l s c d|none=>((0,0,0),0,0,0,0,0))else((0,0,0),0,Bi l k c true d)):=by
 unfold yM;rw[b5x hL k hC,o8];by_cases hA:(Bi l k c true d).1=0
 case neg=>rw[if_neg hA,O9 hA];rfl
 rw[if_pos hA,N9 hA];obtain⟨h,s,hs⟩:=QV hA;obtain⟨h0,h1⟩:=Zu hA hs;have hM:=Qg hL h hs;have hS:=hL.sc s (bg hs).2.2.1;have hn:nD s=((s.2.2.2.1.length:Nat):Int):=rfl;have hcm:=hC.nm;simp only[E5,o6];rw[ig];unfold gK;rw[hs,o8,zT s hS false,o8,Uh hS x9 h0 h1,o8,zG h hs,o8,zT (L9 l s) hM false,o8,Lm h hs hS hM x9 d (WQ h (bg hs).2.2.2 d),o8,PS h hs hC.nm hM hT (by rw[Oa];simp),o8];dsimp only;unfold TG PR uC;cases hq:mS l c (L9 l s) (Dk (L9 l s) (List.replicate (L9 l s).2.2.2.1.length false) (mbS s d))with
 |inr e=>simp only[O9 (uQ _ (λr=>r.1≠0) a7R _ _ _ hq)];rfl|inl b=>
  have hbl:=a3t hq;simp only[N9 (rfl:(0:Int)=0),E5,o6];rw[b0q c b h hs hM,o8,PT hS (Np hT s c l7) (-1) (by rw[JU];simp),o8];cases hr:scS s (uf l s c b) (-1) (JS s (List.replicate s.2.2.2.1.length false) d)with
  |inr e=>simp only[O9 (OI hr)];rfl|inl x=>obtain⟨g1,g2⟩:=Fa hr;have k1:=Nb (l:=x.1) (0,0,0) h0 l7;have k2:=Nb (l:=x.2) 0 h0 l7;simp only[N9 (rfl:(0:Int)=0),E5,o6];rw[k1.1,o8,k1.2,o8,k2.1,o8,k2.2];rfl
abbrev BB:Type:=d1E×d1E
def BOk(s m:A7)(b:BB):Prop:=b.1.length=s.2.2.2.1.length/\b.2.length=m.2.2.2.1.length
theorem a4L(s:A7)(env:aS)(m d:Int):((Z4 s env m d).2.1=0/\Z4 s env m d=((Z4 s env m d).1,0,0,0,0))\/((Z4 s env m d).2.1≠0/\Z4 s env m d=(0,(Z4 s env m d).2)):=by
 unfold Z4;cases hf:bD (FC s env m d) (aV s d env.1).1 []with
 |inr e=>
  right;have:=uQ (FC s env m d) (λr=>r.1=0/\r.2.1≠0) (λb i r h=>?_) _ _ _ hf
  .exact⟨this.2,fH this.1 rfl⟩
  .refine⟨?_,UK b i r h⟩;unfold FC at h;split at h
   .cases h
   .rename_i q _;cases h1:x8 (o9 q.2.2.2.2.2.1) 0<;>rw[h1]at h
    case true=>cases h
    cases h2:x8 (uB q.2.2.2.2.2.1 env).2 0<;>rw[h2]at h<;>cases h;rfl
 |inl ap=>left;simp only;cases E8 (AX (aV s d env.1).2.1 (aV s d env.1).2.2 ap) 0<;>exact⟨rfl,rfl⟩
structure Sim (P Q:Int->Prop) (a b:aS):Prop where
 e1:a.1=b.1
 e2:a.2.1=b.2.1
 e3:a.2.2.2.2=b.2.2.2.2
 dl:a.2.2.1.length=b.2.2.1.length
 d:∀x,P x->F9 a.2.2.1 x=F9 b.2.2.1 x
 ml:a.2.2.2.1.length=b.2.2.2.1.length
 m:∀x,Q x->a.2.2.2.1.map (λv=>F9 v x)=b.2.2.2.1.map (λv=>F9 v x)
def a4z(P Q:Int->Prop)(n:Int×Int):Prop:=(n.1=8->P n.2)/\(isM n.1=true->Q n.2)
theorem a3s{a:List α}{b:List β}(h:a.length=b.length):o9 a=o9 b:=congrArg (λ(n:Nat)=>(n:Int)) h
variable {Q:Int->Prop}{P:Int->Prop}{a:aS}{b:aS}
theorem b1l{n:Int×Int}(h:Sim P Q a b)(hn:a4z P Q n):He n a=He n b:=by
 obtain⟨d,i,D,M,T,B⟩:=a;obtain⟨d',i',D',M',T',B'⟩:=b;obtain⟨e1,e2,e3,dl,hd,ml,hm⟩:=h;cases e1;cases e2;cases e3;have hD:=a3s dl;unfold He;simp only at hD hd ⊢;rw[hD];cases hk:x8 n.1 8
 .rfl
 .rw[hd _ (hn.1 (O5.1 hk))]
theorem a5z{n:Int×Int}(h:Sim P Q a b)(hn:a4z P Q n):jG n a=jG n b:=by
 obtain⟨d,i,D,M,T,B⟩:=a;obtain⟨d',i',D',M',T',B'⟩:=b;obtain⟨e1,e2,e3,dl,hd,ml,hm⟩:=h;cases e1;cases e2;cases e3;have hM:=a3s ml;unfold jG;simp only at hM hd ⊢;rw[hM];cases hk:x8 n.1 8
 .rfl
 .rw[hd _ (hn.1 (O5.1 hk))]
theorem j_{α γ β ρ:Type}(f:α->γ)(g:β->γ->β⊕ρ):∀(l:List α) (b:β),bD (λb a=>g b (f a)) l b=bD g (l.map f) b
 |[],b=>rfl|a::l,b=>by
  rw[jv];unfold bD;cases g b (f a)with
  |inl b' =>exact j_ f g l b'|inr r=>rfl
def c3J(k:Int)(t:Int×Int)(b:Int×Bool)(o:Option V3):(Int×Bool)⊕(V3×Int):=
 match(match o with|none=>(.inr 6:V3⊕Int)|some x=>l9 (x8 x.1 0) (.inr 6) (l9 (WI x t) (.inl x) (.inr 8)))with
 | .inr c=> .inr ((0,0,0),c)| .inl x=>l9 (plB (t.1,0,Ku k b.1 x.2.2 b.2)) (.inl (Ku k b.1 x.2.2 b.2,false)) (.inr ((0,0,0),3))
theorem b0c(k N:Int)(t:Int×Int)(ms:List (List V3))(b:Int×Bool):bD (Kz k N t) ms b=bD (c3J k t) (ms.map λv=>F9 v N) b:=j_ (λv=>F9 v N) (c3J k t) ms b
theorem a5G{n:Int×Int}(h:Sim P Q a b)(hn:Q n.2)(ha:EvOk a)(hb:EvOk b):wG n a=wG n b:=by
 obtain⟨k,N⟩:=n;have h3:a.2.2.2.2.1=b.2.2.2.2.1:=by rw[h.e3]
 cases hl:F9 a.2.2.2.2.1 N with
 |none=>
  have hl2:F9 b.2.2.2.2.1 N=none:=by rw[←h3];exact hl
  unfold wG;simp only;rw[hl,hl2];rfl
 |some t=>
  have hl2:F9 b.2.2.2.2.1 N=some t:=by rw[←h3];exact hl
  have h0:=(bg hl).1;rw[Qp k N a t hl h0 ha.ms,Qp k N b t hl2 h0 hb.ms];unfold a5F;rw[b0c,b0c,h.m N hn,a3s h.ml]
theorem a8H(h:Sim P Q a b)(n:Int×Int)(x:V3):sF n x a=sF n x b:=by obtain⟨d,i,D,M,T,B⟩:=a;obtain⟨d',i',D',M',T',B'⟩:=b;obtain⟨e1,e2,e3,dl,hd,ml,hm⟩:=h;cases e1;cases e2;cases e3;rfl
theorem Wj{n:Int×Int}(h:Sim P Q a b)(hn:a4z P Q n)(ha:EvOk a)(hb:EvOk b)(args:List V3):Ea n args a=Ea n args b:=by
 unfold Ea vT;simp only[b1l h hn,a5z h hn,a8H h];cases h1:L8 36 n.1
 .rfl
 cases h2:L8 n.1 39
 .rfl
 rw[a5G h (hn.2 (by unfold isM;rw[h1];exact h2)) ha hb]
theorem NS{P Q:Int->Prop}{a b:aS}(h:Sim P Q a b)(ha:EvOk a)(hb:EvOk b):∀(t:XT),(∀n∈t.post,a4z P Q n)->evT a t=evT b t
 | .l0 n,hn=>Wj h (hn n (by simp[XT.post])) ha hb []| .l1 n x,hn=>by unfold evT;rw[NS h ha hb x (λm hm=>hn m (by simp[XT.post,hm])),Wj h (hn n (by simp[XT.post])) ha hb]| .l2 n x y,hn=>by unfold evT;rw[NS h ha hb x (λm hm=>hn m (by simp[XT.post,hm])),NS h ha hb y (λm hm=>hn m (by simp[XT.post,hm])),Wj h (hn n (by simp[XT.post])) ha hb]| .l3 n x y z,hn=>by unfold evT;rw[NS h ha hb x (λm hm=>hn m (by simp[XT.post,hm])),NS h ha hb y (λm hm=>hn m (by simp[XT.post,hm])),NS h ha hb z (λm hm=>hn m (by simp[XT.post,hm]))]
theorem b2j(h1:∀x∈(jD e).2.1,P x)(h2:∀x∈(jD e).2.2,Q x):∀n∈e,a4z P Q n:=λn hn=>by
 refine⟨λhk=>h1 _ ?_,λhk=>h2 _ ?_⟩
 .exact(jk _ _).2 (U0.2 ⟨n,I7.2 ⟨hn,by simp[hk,x8]⟩,rfl⟩)
 .exact(jk _ _).2 (U0.2 ⟨n,I7.2 ⟨hn,hk⟩,rfl⟩)
theorem a1T(h:Sim P Q a b)(ha:EvOk a)(hb:EvOk b)(h1:∀x∈(jD e).2.1,P x)(h2:∀x∈(jD e).2.2,Q x):uB e a=uB e b:=by
 unfold uB;cases hs:mF e with
 |inl x=>rfl|inr t=>simp only;exact NS h ha hb t (λn hn=>b2j h1 h2 n (by rw[(DW hs).1];exact hn))
def Un(s:A7)(P Q:Int->Prop)(d:Int):Prop:=∀r∈s.2.2.2.2,r.2.1=d->∀e,e=r.2.2.2.2.2.1\/e=r.2.2.2.2.2.2.1->(∀x∈(jD e).2.1,P x)/\∀x∈(jD e).2.2,Q x
theorem Si{d t i:Int}(h:i∈(aV s d t).1):∃r,F9 s.2.2.2.2 i=some r/\r∈s.2.2.2.2/\r.2.1=d:=by
 have h:i∈castL (V5 s d t):=h;obtain⟨k,hk,rfl⟩:=U0.1 h;obtain⟨h1,h2⟩:=jH hk;obtain⟨r,hr,hm⟩:=mO (l:=s.2.2.2.2) (i:=(k:Int)) l7 (by unfold o9;omega);refine⟨r,hr,hm,?_⟩;unfold onR at h2;rw[F7]at hr;rw[hr]at h2;simp only at h2;cases h3:x8 r.2.1 d<;>rw[h3]at h2
 .cases h2
 .exact O5.1 h3
theorem XL{α β ρ:Type}{G H:β->α->β⊕ρ} :∀(l:List α) (b:β),(∀a∈l,∀b,G b a=H b a)->bD G l b=bD H l b
 |[],b,h=>rfl|a::l,b,h=>by
  unfold bD;rw[h a x9];cases H b a with
  |inl b' =>exact XL l b' (λx hx=>h x (by simp[hx]))|inr r=>rfl
theorem a4N(h:Sim P Q a b)(ha:EvOk a)(hb:EvOk b)(hr:∀i∈(aV s d b.1).1,∀r,F9 s.2.2.2.2 i=some r->(∀x∈(jD r.2.2.2.2.2.1).2.1,P x)/\∀x∈(jD r.2.2.2.2.2.1).2.2,Q x)(m:Int):Z4 s a m d=Z4 s b m d:=by unfold Z4;rw[h.e1,XL (G:=FC s a m d) (H:=FC s b m d) (aV s d b.1).1 [] (λi hi ap=>?_)];obtain⟨r,h1,h2,h3⟩:=Si hi;obtain⟨p1,p2⟩:=hr i hi r h1;unfold FC;rw[h1];simp only;rw[a1T h ha hb p1 p2]
theorem a7l(h:Sim P Q a b)(ha:EvOk a)(hb:EvOk b)(hr:Un s P Q d)(m:Int):Z4 s a m d=Z4 s b m d:=
 a4N h ha hb (λi hi r hl=>by obtain⟨q,h1,h2,h3⟩:=Si hi;rw[h1]at hl;cases hl;exact hr r h2 h3 _ (.inl rfl)) m
theorem a1P(h0:(Z4 s env m d).2.1=0)(h1:(Z4 s env m d).1≠-1)(h2:(Z4 s env m d).1≠-2):(Z4 s env m d).1∈(aV s d env.1).1:=by
 unfold Z4 at h0 h1 h2 ⊢;cases hf:bD (FC s env m d) (aV s d env.1).1 []with
 |inr e=>rw[hf]at h0;exact absurd h0 (uQ (FC s env m d) (λr=>r.2.1≠0) (λb i r h=>UK b i r h) _ _ _ hf)|inl ap=>
  rw[hf]at h1 h2;simp only at h1 h2 ⊢;have hb:=Za (aV s d env.1).2.1 (aV s d env.1).2.2 ap;have hlo:=b0A (aV s d env.1).2.1 (aV s d env.1).2.2 ap;have hl:=(QL s d env.1).2;generalize AX (aV s d env.1).2.1 (aV s d env.1).2.2 ap=q at h1 h2 hb hlo ⊢;by_cases g:q<0
  .rw[U8 g]at h1 h2;simp only[o7]at h1 h2;omega
  rw[N7 (iT.1 g)];have hi:q.toNat<(aV s d env.1).1.length:=l7;simp only[o6,qY,bn hi,dP];exact G8 hi
theorem PP(h:Sim P Q a b)(ha:EvOk a)(hb:EvOk b)(hr:Un s P Q d)(m:Int):xI s a m d=xI s b m d:=by
 unfold xI;rw[a7l h ha hb hr m];cases h0:x8 (Z4 s b m d).2.1 0
 .simp only[o6]
 cases h1:x8 (Z4 s b m d).1 (-1)
 case true=>simp only[o7]
 cases h2:x8 (Z4 s b m d).1 (-2)
 case true=>simp only[o7,o6]
 have hin:=a1P (O5.1 h0) (λe=>by rw[N9 e]at h1;cases h1) (λe=>by rw[N9 e]at h2;cases h2);obtain⟨r,r1,r2,r3⟩:=Si hin;obtain⟨p1,p2⟩:=hr r r2 r3 _ (.inr rfl);rw[r1];simp only;rw[a1T h ha hb p1 p2]
def Us(s:A7)(O:d1A):Prop:=O.Nodup/\(∀d∈O,0<=d/\d<nD s)/\∀(pre:d1A) (d:Int) (suf:d1A),O=pre++d::suf->∀x∈O6 s d,x∈pre
theorem a8W{O pre suf:d1A}{d e:Int}(h:O++[e]=pre++d::suf):(suf=[]/\pre=O/\d=e)\/∃suf',suf=suf' ++[e]/\O=pre++d::suf' :=by
 rcases List.eq_nil_or_concat suf with rfl|⟨suf',z,rfl⟩
 .have h:O++[e]=pre++[d]:=h;obtain⟨h1,h2⟩:=List.append_inj' h rfl;cases h2;exact .inl ⟨rfl,h1.symm,rfl⟩
 .rw[List.concat_eq_append,←aG,←G5]at h;obtain⟨h1,h2⟩:=List.append_inj' h rfl;cases h2;exact .inr ⟨suf',x9,h1⟩
variable {O:d1A}
theorem b2F{d:Nat}(h:Us s O)(hd:d<s.2.2.2.1.length)(ho:okN s O d=true):Us s (O++[(d:Int)]):=by
 obtain⟨h1,h2⟩:=a7Z.1 ho;refine⟨?_,λx hx=>?_,λpre e suf he x hx=>?_⟩
 .exact O7.2 ⟨h.1,x9,λa ha b hb hab=>by simp at hb;subst hb;exact h1 (hab▸ha)⟩
 .rcases C9.1 hx with hx|hx
  .exact h.2.1 x hx
  .simp at hx;subst hx;unfold nD o9;omega
 .rcases a8W he with⟨_,rfl,rfl⟩|⟨suf',_,e2⟩
  .cases hq:qX pre x
   .have:x∈UW s pre (d:Int):=I7.2 ⟨hx,by simp[hq]⟩;rw[h2]at this;cases this
   .exact yA.1 hq
  .exact h.2.2 pre e suf' e2 x hx
theorem a6T(hx:x∈O6 s d)(hn:x∉bC s x):(bC s x).length<(bC s d).length:=by
 obtain⟨a1,a2,a3,a4⟩:=pR s d;obtain⟨b1,b2,b3,b4⟩:=pR s x;have hxd:=a2 x hx;rcases VP b1 a1 (λy hy=>b4 (λz=>z∈bC s d) (a3 x hxd) (λz hz=>a3 z hz) y hy)with h|h
 .rw[←h]at hxd;exact absurd hxd hn
 .exact h
theorem b5F(hac:∀d,0<=d->d<nD s->d∉bC s d)(O:d1A):∀(n:Nat) (d:Int),0<=d->d<nD s->d∉O->(bC s d).length<=n->∃e,0<=e/\e<nD s/\e∉O/\∀x∈O6 s e,x∈O:=by
 intro n;induction n with
 |zero=>intro d h0 h1 h2 hl;refine⟨d,h0,h1,h2,λx hx=>?_⟩;have:=(pR s d).2.1 x hx;rw[U2.1 (Nat.le_zero.1 hl)]at this;cases this|succ n ih=>
  intro d h0 h1 h2 hl;by_cases hq:∀x∈O6 s d,x∈O
  .exact⟨d,h0,h1,h2,hq⟩
  .obtain⟨x,hx⟩:=Classical.not_forall.1 hq;obtain⟨hx,hxO⟩:=Classical.not_imp.1 hx;obtain⟨q0,q1⟩:=uK hx;have:=a6T hx (hac x q0 q1);exact ih x q0 q1 hxO l7
theorem c0T(hl:O.length<s.2.2.2.1.length):∃d:Int,0<=d/\d<nD s/\d∉O:=by
 refine bW λhq=>?_;have h1:∀x∈castL (List.range s.2.2.2.1.length),x∈ja O:=λx hx=>by obtain⟨j,hj,rfl⟩:=U0.1 hx;have:=P8.1 hj;exact(jk _ _).2 (bW λhn=>hq ⟨(j:Int),l7,by unfold nD o9;omega,hn⟩)
 have h2:=KU O;have h3:(castL (List.range s.2.2.2.1.length)).length=s.2.2.2.1.length:=by rw[MI,bz]
 rcases VP (ZB su) (VM O) h1 with h|h
 .rw[←h]at h2;omega
 .omega
theorem a2x{s:A7}(hac:∀d,0<=d->d<nD s->d∉bC s d):∀(k:Nat) (O:d1A),Us s O->O.length<=s.2.2.2.1.length->s.2.2.2.1.length -O.length<=k->∃O',Vq s k O= .inl O' /\Us s O' /\O'.length=s.2.2.2.1.length
 |0,O,h,hl,hk=>⟨O,rfl,h,l7⟩|k+1,O,h,hl,hk=>by
  unfold Vq;by_cases hq:O.length<s.2.2.2.1.length
  .rw[if_pos hq];cases hn:Ph s O with
   |none=>
    obtain⟨d,d0,d1,d2⟩:=c0T hq;obtain⟨e,e0,e1,e2,e3⟩:=b5F hac O _ d d0 d1 d2 (E9 _);have hlt:e.toNat<s.2.2.2.1.length:=by unfold nD o9 at e1;omega
    have:=vF hn e.toNat hlt;have hok:okN s O e.toNat=true:=a7Z.2 (by rw[aA e0];refine⟨e2,nP.2 λx hx=>by simp[yA.2 (e3 x hx)]⟩)
    unfold XY at this;rw[hok]at this;cases this
   |some d=>obtain⟨n1,n2⟩:=R_ hn;exact a2x hac k (O++[(d:Int)]) (b2F h n1 n2) Z5 Z5
  .rw[if_neg hq];exact⟨O,rfl,h,l7⟩
theorem Oh(hs:SmS s)(hac:∀d,0<=d->d<nD s->d∉bC s d):Us s (je s).1/\∀d,0<=d->d<nD s->d∈(je s).1:=by
 have hnd:=hs.nd;obtain⟨O,h1,h2,h3⟩:=a2x hac 100 [] ⟨x9,x9,λpre d suf h=>by simp at h⟩ x9 Z5;have e:(je s).1=O:=by unfold je;rw[h1]
 rw[e];refine⟨h2,λd d0 d1=>?_⟩;refine bW λhn=>?_;have:=Rx (l:=d::O) (n:=s.2.2.2.1.length) (iF.2 ⟨hn,h2.1⟩) (λx hx=>by
  rcases D6.1 hx with rfl|hx
  .exact⟨d0,d1⟩
  .exact h2.2.1 x hx)
 simp at this;omega
theorem Kr(h:(fB l).1=0)(hs:l.2.2[i]? =some s):∀d,0<=d->d<nD s->d∉bC s d:=by
 intro d d0 d1 hd;have hp:=(Jh h hs).2;unfold Ht at hp;cases h1:wP l s with
 |some q=>rw[h1]at hp;exact absurd hp (GV h1)|none=>
  rw[h1]at hp;simp only at hp;cases h2:ay s.2.2.2.2.length (FI l s)with
  |some q=>
   rw[h2]at hp;obtain⟨j,hj,hq⟩:=iP h2;unfold FI at hq;cases h3:s.2.2.2.2[j]? with
   |none=>rw[h3]at hq;cases hq|some q2=>rw[h3]at hq;exact absurd hp (MM hq)
  |none=>
   rw[h2]at hp;simp only at hp;have key:UE s d.toNat=some (9,((200+d.toNat:Nat):Int)):=by unfold UE;rw[show((bC s d.toNat).any λx=>x8 (d.toNat:Int) x)=true from ?_];rfl;rw[aA d0];exact Y6.2 ⟨d,hd,N9 rfl⟩
   cases h3:ay s.2.2.2.1.length (UE s)with
   |none=>have:=vF h3 d.toNat (by unfold nD o9 at d1;omega);rw[key]at this;cases this|some q=>
    rw[h3]at hp;obtain⟨j,hj,hq⟩:=iP h3;unfold UE at hq;cases h4:(bC s (j:Int)).any λx=>x8 (j:Int) x<;>rw[h4]at hq
    .cases hq
    .cases hq;exact absurd (show(9:Int)=0 from hp) G7
theorem a5E(h:(fB l).1=0)(hs:F9 l.2.2 k=some s):∀d,0<=d->d<nD (L9 l s)->d∉bC (L9 l s) d:=by
 rcases Ac h hs with⟨_,_,g⟩|⟨_,_,_,g,_⟩
 .rw[g];intro d d0 d1;exact absurd d1 (by show ¬d<(0:Int);omega)
 .exact Kr h (bg g).2.2.2
theorem a1Y{α β ρ:Type}(G:β->α->β⊕ρ):∀(l m:List α) (b:β),bD G (l++m) b=match bD G l b with| .inl b' =>bD G m b'| .inr r=> .inr r
 |[],m,b=>rfl|a::l,m,b=>by
  rw[aG];simp only[bD];cases G b a with
  |inl b' =>exact a1Y G l m b'|inr r=>rfl
theorem Ju{l:List α}(v:α)(h0:0<=d)(h:x≠d):F9 (l.set d.toNat v) x=F9 l x:=by
 unfold F9
 split
 .rw[jq l7]
 .rfl
theorem TL{l:List α}(v:α)(h0:0<=d)(h:d<o9 l):F9 (l.set d.toNat v) d=some v:=by
 unfold F9
 rw[if_pos h0,cZ (by unfold o9 at h;omega)]
theorem a0B{s:A7}{env:aS}{m:Int}{need:d1E}{x:Int} :∀(L:d1A) {B X:DB},(∀d∈L,0<=d)->x∉L->bD (scG s env m need) L B= .inl X->F9 X.1 x=F9 B.1 x/\F9 X.2 x=F9 B.2 x
 |[],B,X,_,_,h=>by cases h;exact⟨rfl,rfl⟩|d::L,B,X,hL,hx,h=>by
  unfold bD at h;cases hg:scG s env m need B d with
  |inr e=>rw[hg]at h;cases h|inl B' =>
   rw[hg]at h;obtain⟨k1,k2⟩:=a0B L (λy hy=>hL y (by simp[hy])) (λhm:x∈L=>hx (V4 _ hm)) h;have hd:x≠d:=λe=>hx (by simp[e]);unfold scG at hg;cases h1:(F9 need d).getD false<;>rw[h1]at hg
   .cases hg;exact⟨k1,k2⟩
   simp only[o7]at hg;cases h2:xI s (zh env B.1) m d with
   |inr e=>rw[h2]at hg;cases hg|inl v=>rw[h2]at hg;cases hg;rw[k1,k2,Ju _ (hL d x9) hd,Ju _ (hL d x9) hd];exact⟨rfl,rfl⟩
theorem b9f{n:Nat}(L:d1A){B X:DB}(hB:B.1.length=n/\B.2.length=n)(h:bD (scG s env m need) L B= .inl X):X.1.length=n/\X.2.length=n:=by
 refine WG (scG s env m need) (λx=>x.1.length=n/\x.2.length=n) (λb d b' hb hg=>?_) _ _ _ hB h;unfold scG at hg;cases h1:(F9 need d).getD false<;>rw[h1]at hg
 .cases hg;exact hb
 simp only[o7]at hg;cases hd:xI s (zh env b.1) m d with
 |inr e=>rw[hd]at hg;cases hg|inl v=>rw[hd]at hg;cases hg;simp[hb]
theorem Jm(h:(fB l).1=0)(hs:l.2.2[i]? =some s)(d:Int):Un s (λx=>x∈O6 s d) (λx=>0<=x/\x<nD (L9 l s)) d:=by
 intro r hr hd e he;obtain⟨p1,p2⟩:=Xq h hs hr he;refine⟨λx hx=>?_,p2⟩;obtain⟨q,hq,_⟩:=(QM h hs hr).2;obtain⟨q0,q1,_⟩:=bg hq;have hin:inD (nD s) d=true:=by rw[←hd];unfold inD;rw[Y3 q0];exact U8 q1
 unfold O6;rw[hin];refine(jk _ _).2 (WU.2 ⟨r,hr,hd,?_⟩);obtain⟨x0,x1⟩:=p1 x hx;have hxi:inD (nD s) x=true:=by unfold inD;rw[Y3 x0];exact U8 x1
 unfold zM;rcases he with rfl|rfl
 .exact C9.2 (.inl (I7.2 ⟨hx,hxi⟩))
 .exact C9.2 (.inr (I7.2 ⟨hx,hxi⟩))
theorem a2q(l:U6)(s:A7)(h:(L9 l s).2.1=-1):L9 l (L9 l s)=wR:=by unfold L9 at h ⊢;rw[h];rfl
theorem vk(h:(fB l).1=0)(hs:F9 l.2.2 k=some s)(d:Int):Un (L9 l s) (λx=>x∈O6 (L9 l s) d) (λx=>False) d:=by
 rcases Ac h hs with⟨_,_,g⟩|⟨g1,g2,g3,g,_⟩
 .rw[g];intro r hr;cases hr
 .intro r hr hd e he;have h2:=Jm h (bg g).2.2.2 d r hr hd e he;refine⟨h2.1,λx hx=>?_⟩;have hm:=XD h (bg hs).2.2.2;unfold xQ at hm;have hne:x8 s.2.1 (-1)=false:=O9 (by rw[iQ]at g1;omega);rw[hne,g2,g]at hm;simp only[o6]at hm;have hm1:(L9 l s).2.1=-1:=by
   cases hq:L8 (((k.toNat:Nat)):Int) s.2.1<;>rw[hq]at hm
   case true=>cases hm
   cases hq2:x8 (L9 l s).2.1 (-1)<;>rw[hq2]at hm
   .cases hm
   .exact O5.1 hq2
  have:=h2.2 x hx;rw[a2q l s hm1]at this;exact absurd this.2 (by show ¬x<(0:Int);omega)
theorem h_{X:DB}(hE:EvOk env)(ht:Us s (je s).1)(hX:scS s env m need= .inl X)(hd:d∈(je s).1)(hn:(F9 need d).getD false=true)(hr:Un s (λx=>x∈O6 s d) Q d):
  ∃v r,F9 X.1 d=some v/\F9 X.2 d=some r/\xI s (zh env X.1) m d= .inl (v,r):=by
 obtain⟨pre,suf,he⟩:=List.append_of_mem hd;have hlen:=Fa hX;unfold scS at hX;rw[he,a1Y]at hX;cases hB:bD (scG s env m need) pre (List.replicate s.2.2.2.1.length (0,0,0),List.replicate s.2.2.2.1.length 0)with
 |inr r=>rw[hB]at hX;cases hX|inl B=>
  rw[hB]at hX;simp only at hX;have hBl:=b9f (n:=s.2.2.2.1.length) pre x9 hB;unfold bD at hX;cases hg:scG s env m need B d with
  |inr r=>rw[hg]at hX;cases hX|inl B' =>
   rw[hg]at hX;simp only at hX;obtain⟨d0,d1⟩:=ht.2.1 d hd;have hnd:=ht.1;rw[he]at hnd;obtain⟨n1,n2,n3⟩:=O7.1 hnd;obtain⟨n4,n5⟩:=iF.1 n2;have hpos:∀y∈suf,0<=y:=λy hy=>(ht.2.1 y (by rw[he];simp[hy])).1;unfold scG at hg;rw[hn]at hg;simp only[o7]at hg;cases hv:xI s (zh env B.1) m d with
   |inr e=>rw[hv]at hg;cases hg
   |inl v=>rw[hv]at hg;cases hg;obtain⟨k1,k2⟩:=a0B (x:=d) suf hpos n4 hX;rw[TL _ d0 (by unfold nD at d1;unfold o9 at d1 ⊢;omega)]at k1 k2;refine⟨v.1,v.2,k1,k2,?_⟩;rw[←hv];refine PP (a:=zh env X.1) (b:=zh env B.1) (P:=λx=>x∈O6 s d) (Q:=Q) ⟨rfl,rfl,rfl,by show X.1.length=B.1.length;omega,λx hx=>?_,rfl,λ_ _=>rfl⟩ (Ah hE _) (Ah hE _) hr m;have hxp:=ht.2.2 pre d suf he x hx;have hxs:x∉suf:=λhy=>n3 x hxp x (by simp[hy]) rfl;have hxd:x≠d:=λhy=>n3 x hxp d x9 hy;have:=(a0B (x:=x) suf hpos hxs hX).1;rw[Ju _ d0 hxd]at this;exact this
structure SimE (Q:Int->Prop) (a b:aS):Prop where
 e1:a.1=b.1
 e2:a.2.1=b.2.1
 e3:a.2.2.2.2=b.2.2.2.2
 ml:a.2.2.2.1.length=b.2.2.2.1.length
 m:∀x,Q x->a.2.2.2.1.map (λv=>F9 v x)=b.2.2.2.1.map (λv=>F9 v x)
theorem SimE.at(h:SimE Q a b){D D' :List V3}(hl:D.length=D'.length)(hd:∀x,P x->F9 D x=F9 D' x):Sim P Q (zh a D) (zh b D'):=⟨h.e1,h.e2,h.e3,hl,hd,h.ml,h.m⟩
abbrev ND(w:d1E)(x:Int):Prop:=(F9 w x).getD false=true
structure DInv (n:Nat) (need:d1E) (B B' :DB):Prop where
 l1:B.1.length=n/\B.2.length=n
 l2:B'.1.length=n/\B'.2.length=n
 eq:∀x,ND need x->F9 B.1 x=F9 B'.1 x/\F9 B.2 x=F9 B'.2 x
structure MInv (need:d1E) (b b' :List DB):Prop where
 l:b.length=b'.length
 eq:∀x,ND need x->b.map (λv=>F9 v.1 x)=b'.map (λv=>F9 v.1 x)
theorem b9H(w:d1E)(x:Int):ND w x↔mk w x=true:=by
 unfold ND mk F9
 split
 .rw[qY]
 .simp
theorem b4m(hw:w.length=s.2.2.2.1.length)(h0:0<=d)(h1:d<nD s)(x:Int):mk (JS s w d) x=true↔mk w x=true\/x=d\/x∈bC s d:=by
 unfold JS;rw[a3x _ _ (λy hy=>by have:=zZ hy;unfold nD at this;simp only[o9,ji]at this ⊢;omega),M_ h0 (by unfold nD at h1;unfold o9 at h1 ⊢;omega)];cases hq:x8 x d
 .have:x≠d:=λe=>by rw[N9 e]at hq;cases hq
  simp[this]
 .rw[O5]at hq;simp[hq]
theorem b4l{m:A7} :∀(L:d1A) {w:d1E},w.length=m.2.2.2.1.length->(∀x∈L,0<=x/\x<nD m)->∀x,mk (Dk m w L) x=true↔mk w x=true\/∃z∈L,x=z\/x∈bC m z
 |[],w,hw,h,x=>by simp[Dk]|z::L,w,hw,h,x=>by
  obtain⟨z0,z1⟩:=h z x9;rw[show Dk m w (z::L)=Dk m (JS m w z) L from rfl,b4l L ((JU m w z).trans hw) (λy hy=>h y (by simp[hy])) x,b4m hw z0 z1];constructor
  .rintro((h1|h1)|⟨y,hy,h1⟩)
   .exact .inl h1
   .exact .inr ⟨z,x9,h1⟩
   .exact .inr ⟨y,by simp[hy],h1⟩
  .rintro(h1|⟨y,hy,h1⟩)
   .exact .inl (.inl h1)
   .rcases D6.1 hy with rfl|hy
    .exact .inl (.inr h1)
    .exact .inr ⟨y,hy,h1⟩
def b2Q(s:A7)(w:d1E):Prop:=∀d,mk w d=true->∀x∈O6 s d,mk w x=true
structure NI (l:U6) (s:A7) (B:BB):Prop where
 ok:BOk s (L9 l s) B
 c1:b2Q s B.1
 c2:b2Q (L9 l s) B.2
 hr:∀e,mk B.1 e=true->Un s (λx=>x∈O6 s e) (λx=>mk B.2 x=true) e
structure Grows (B C:BB):Prop where
 g1:∀x,mk B.1 x=true->mk C.1 x=true
 g2:∀x,mk B.2 x=true->mk C.2 x=true
theorem Grows.refl(B:BB):Grows B B:=⟨λ_ h=>h,λ_ h=>h⟩
theorem Grows.trans{A B C:BB}(h:Grows A B)(k:Grows B C):Grows A C:=⟨λx hx=>k.g1 x (h.g1 x hx),λx hx=>k.g2 x (h.g2 x hx)⟩
theorem a4S{v:V3}{r:Int}(h:xI s env m d= .inl (v,r)):Z4 s env m d=(r,0,0,0,0)/\r∈(aV s d env.1).1/\∃q,F9 s.2.2.2.2 r=some q/\uB q.2.2.2.2.2.2.1 env=(v,0):=by
 unfold xI at h;cases h0:x8 (Z4 s env m d).2.1 0<;>rw[h0]at h
 .cases h
 cases h1:x8 (Z4 s env m d).1 (-1)<;>rw[h1]at h
 case true=>cases h
 cases h2:x8 (Z4 s env m d).1 (-2)<;>rw[h2]at h
 case true=>cases h
 simp only[o7,o6]at h;cases hl:F9 s.2.2.2.2 (Z4 s env m d).1 with
 |none=>rw[hl]at h;cases h|some q=>
  rw[hl]at h;simp only at h;cases h4:x8 (uB q.2.2.2.2.2.2.1 env).2 0<;>rw[h4]at h
  .cases h
  cases h;have hin:=a1P (O5.1 h0) (λe=>by rw[N9 e]at h1;cases h1) (λe=>by rw[N9 e]at h2;cases h2);refine⟨?_,hin,q,hl,fH rfl (O5.1 h4)⟩;rcases a4L s env m d with⟨g1,g2⟩|⟨g1,g2⟩
  .exact g2
  .exact absurd (O5.1 h0) g1
theorem b0W(h:(Bi l k c false 0).1=0)(hs:F9 l.2.2 k=some s)(hm:s.2.1<0):c.2.2=[]:=by
 unfold Bi at h;cases h0:x8 (fB l).1 0<;>rw[h0]at h
 .exact absurd (show(1:Int)=0 from h) G7
 rw[hs]at h;simp only[o7,o6]at h;cases h1:x8 (Ba l k c).2.2 0<;>rw[h1]at h
 .simp only[o6]at h;rw[N9 h]at h1;cases h1
 have h1:=O5.1 h1;unfold Ba at h1;rw[hs]at h1;simp only at h1;cases g1:E8 c.1 0<;>rw[g1]at h1
 case true=>exact absurd (show(3:Int)=0 from h1) G7
 cases g2:E8 109572 c.1<;>rw[g2]at h1
 case true=>exact absurd (show(3:Int)=0 from h1) G7
 cases g3:x8 (BP l.1 s.2.2.1 c.2.1).2 0<;>rw[g3]at h1
 .simp only[o6]at h1;rw[N9 h1]at g3;cases g3
 cases g4:E8 (nV l s).2 (o9 c.2.2)<;>rw[g4]at h1
 case true=>exact absurd (show(4:Int)=0 from h1) G7
 have hz:(nV l s).2=0:=by unfold nV;rw[tY (.inl (Y9 hm))]
 rw[hz,iE]at g4;exact U2.1 (by unfold o9 at g4;omega)
theorem c3H{l:U6}{c:aF}{ms:A7}{need:d1E} :∀(L:List (List V3×Nat)) (b X:List DB),bD (mG l c ms need) L b= .inl X->∃Y,X=b++Y/\Y.length=L.length/\∀(i:Nat) (a:List V3×Nat),L[i]? =some a->∃x,Y[i]? =some x/\scS ms (DZ l c a.1) (a.2:Int) need= .inl x
 |[],b,X,h=>by cases h;exact⟨[],x9,rfl,λi a ha=>by simp at ha⟩|a::L,b,X,h=>by
  unfold bD at h;cases hg:mG l c ms need b a with
  |inr e=>rw[hg]at h;cases h|inl b1=>
   rw[hg]at h;simp only at h;obtain⟨Y,e1,e2,e3⟩:=c3H L b1 X h;unfold mG at hg;cases hs:scS ms (DZ l c a.1) (a.2:Int) need with
   |inr e=>rw[hs]at hg;cases hg|inl x=>
    rw[hs]at hg;cases hg;refine⟨x::Y,by rw[e1];simp,by simp[e2],λi q hq=>?_⟩;cases i with
    |zero=>simp at hq;subst hq;exact⟨x,rfl,hs⟩|succ i=>exact e3 i q (by simpa using hq)
theorem b0R(h:(Bi l k c false 0).1=0)(hs:F9 l.2.2 k=some s)(d0:0<=d)(d1:d<nD s):(Bi l k c true d).1=0:=by
 unfold Bi at h ⊢;cases h0:x8 (fB l).1 0<;>rw[h0]at h
 .exact absurd (show(1:Int)=0 from h) G7
 rw[hs]at h ⊢;simp only[o7,o6]at h ⊢;rw[N7 d0,show L8 (o9 s.2.2.2.1) d=false from Y9 d1];exact h
end
section
section
variable {en:List jA} {t:Int×Int}
end
end
section
def PVW(en:List jA)(t:Int×Int)(v:V3):Prop:=v.1=t.1/\v.2.1=t.2/\(v.1=6->inB v.2.2 (bnd t en)=true)
structure TOk (sg:N8) (env:aS):Prop where
 inp:∀i t v,F9 sg.2.2.1 i=some t->F9 env.2.1 i=some v->PVW sg.1 t v
 dfs:∀i t v,F9 sg.2.2.2.1 i=some t->F9 env.2.2.1 i=some v->v.1≠0->PVW sg.1 t v
 mty:∀i t u,F9 sg.2.2.2.2.1 i=some t->F9 env.2.2.2.2.1 i=some u->u=t
 tbs:env.2.2.2.2.2=sg.2.1
 row:∀t∈sg.2.1,∀r∈t.2.2.2,inB r.2.2.2 (bnd t.2.2.1 sg.1)=true
end
section
section
variable {sg:N8} {env:aS}
end
end
section
theorem g_{ρ:Type}{n:Nat}{p:Nat->Option ρ}(h:∀r,ay n p≠some r):∀i,i<n->p i=none:=by
 cases hf:ay n p with
 |some r=>exact absurd hf (h r)|none=>exact vF hf
theorem a1S{k i:Int}{r:Int×Int}(h:Su k i r=none):r.1=0:=by
 unfold Su at h;cases he:x8 r.1 0<;>rw[he]at h
 .cases h
 .exact O5.1 he
theorem a9i{l:U6}(h:(fB l).1=0):∀e∈l.1,e.2.length<=16:=by
 intro e he;unfold fB at h;cases h1:x8 (zy l).1 0<;>rw[h1]at h
 .simp only[o6]at h;rw[N9 h]at h1;cases h1
 have h1:=O5.1 h1;unfold zy at h1;cases h2:E8 8 (o9 l.1)<;>rw[h2]at h1
 case true=>exact absurd (show(4:Int)=0 from h1) G7
 simp only[o6]at h1;obtain⟨i,hi,e1⟩:=X7 he;have hn:=g_ (n:=l.1.length) (p:=GU l) (λr hf=>by
  rw[hf]at h1;obtain⟨j,_,hj⟩:=iP hf;unfold GU at hj;split at hj
  .exact Rh hj h1
  .cases hj) i hi
 unfold GU at hn;rw[bn hi,e1]at hn;have hz:=a1S hn;unfold SN at hz;cases g1:DY e.1<;>rw[g1]at hz
 .exact absurd (show(2:Int)=0 from hz) G7
 cases g2:Bh l 1 i e.1<;>rw[g2]at hz
 case true=>exact absurd (show(7:Int)=0 from hz) G7
 cases g3:x8 (o9 e.2) 0<;>rw[g3]at hz
 case true=>exact absurd (show(5:Int)=0 from hz) G7
 cases g4:E8 16 (o9 e.2)<;>rw[g4]at hz
 case true=>exact absurd (show(4:Int)=0 from hz) G7
 rw[iE]at g4;unfold o9 at g4;omega
theorem Yx{l:U6}(h:(fB l).1=0){i:Nat}{s:A7}(hs:l.2.2[i]? =some s){j:Nat}{f:jB}(hf:s.2.2.2.1[j]? =some f):vty f.2 l.1=true:=by
 have hp:=(Jh h hs).2;unfold Ht at hp;cases h1:wP l s with
 |some q=>rw[h1]at hp;exact absurd hp (GV h1)|none=>
  unfold wP at h1;cases h2:ay s.2.2.1.length (inP l s)with
  |some q=>rw[h2]at h1;cases h1|none=>
   rw[h2]at h1;have hn:=vF h1 j (X6.1 hf).1;unfold YD at hn;rw[hf]at hn;simp only at hn;unfold WC at hn;cases he:x8 (LJ l.1 f s.2.2.1 (s.2.2.2.1.take j)) 0<;>rw[he]at hn
   .cases hn
   have he:=O5.1 he;unfold LJ at he;cases g1:DY f.1<;>rw[g1]at he
   .exact absurd (show(2:Int)=0 from he) G7
   cases g2:s.2.2.1.any λx=>seq x.1 f.1<;>rw[g2]at he
   case true=>exact absurd (show(7:Int)=0 from he) G7
   cases g3:(s.2.2.2.1.take j).any λx=>seq x.1 f.1<;>rw[g3]at he
   case true=>exact absurd (show(7:Int)=0 from he) G7
   cases g4:vty f.2 l.1<;>rw[g4]at he
   .exact absurd (show(8:Int)=0 from he) G7
theorem b0B(l:U6)(s:A7):(BO l s).1=l.1/\(BO l s).2.1=l.2.1/\(BO l s).2.2.1=s.2.2.1.map (·.2):=by unfold BO;split<;>exact⟨rfl,rfl,rfl⟩
abbrev c3q:Int×Int:=(0,109573)
def onA(s:A7)(T:Int)(i:Nat):Bool:=match s.2.2.2.2[i]? with|some r=>TC r.2.2.2.2.1 T|none=>false
def c3E(s:A7)(T:Int):d1B:=onL (onA s T) s.2.2.2.2.length
def rOn(s:A7)(T:Int)(i:Nat):Z7:=match s.2.2.2.2[i]? with
 |some r=>(r.1,r.2.1,anc (onA s T) (dA s) i,r.2.2.2.1,c3q,r.2.2.2.2.2.1,r.2.2.2.2.2.2.1,r.2.2.2.2.2.2.2)|none=>([],0,0,0,c3q,[],[],[])
def sOn(T:Int)(s:A7):A7:=(s.1,s.2.1,s.2.2.1,s.2.2.2.1,(c3E s T).map (rOn s T))
theorem a5x{α β:Type}(f:α->β)(l:List α)(i:Int):F9 (l.map f) i=(F9 l i).map f:=by
 unfold F9
 split
 .rw[I8]
 .rfl
end
section
theorem Jl(on:Nat->Bool)(i:Nat):dE on (i+1)=dE on i+(if on i=true then 1 else 0):=by unfold dE;rw[X3,ny,F5];cases h:on i<;>simp[h]
theorem ZL(on:Nat->Bool){i j:Nat}(h:i<=j):dE on i<=dE on j:=by
 induction j with
 |zero=>have:i=0:=l7;subst this;omega|succ j ih=>
  rw[Jl];by_cases e:i=j+1
  .subst e;rw[Jl];omega
  .have:=ih l7;omega
theorem a7m{on:Nat->Bool}{a i:Nat}(h:a<i)(ha:on a=true):dE on a<dE on i:=by have h1:=Jl on a;rw[if_pos ha]at h1;have h2:=ZL on (show a+1<=i from h);omega
section
variable {A R R' :Nat->Bool} {par par' :Nat->Int} {n:Nat} (hRA:∀i,i<n->R i=true->A i=true) (hR:∀i,i<n->A i=true->R' (dE A i)=R i) (hp:∀i,i<n->A i=true->par' (dE A i)=anc A par i)
include hRA hR
omit hR in
omit hR in
include hp
end
end
section
section
variable {s:A7} {T:Int} (h0:0<=T) (h1:T<=109572)
include h0 h1
omit h0 h1 in
omit h0 h1 in
end
end
section
structure OnOk (s:A7) (T:Int):Prop where
 h0:0<=T
 h1:T<=109572
 t1:Us s (je s).1
 f1:∀d,0<=d->d<nD s->d∈(je s).1
 t2:Us (sOn T s) (je (sOn T s)).1
 f2:∀d,0<=d->d<nD s->d∈(je (sOn T s)).1
 r1:∀d,Un s (λx=>x∈O6 s d) (λ_=>True) d
 r2:∀d,Un (sOn T s) (λx=>x∈O6 (sOn T s) d) (λ_=>True) d
def NG(s:A7)(k:Nat)(r:Z7):Bool:=l9 (x8 r.2.2.1 (-1)) false (l9 (E8 r.2.2.1 0) true (l9 (L8 k r.2.2.1) true (match F9 s.2.2.2.2 r.2.2.1 with|some q=>F8 (x8 q.2.1 r.2.1)|none=>true)))
structure RuleV (s:A7) (sg:N8) (k:Nat) (r:Z7):Prop where
 id:DY r.1=true
 nm:((s.2.2.2.2.take k).any λx=>seq x.1 r.1)=false
 df:∃d,F9 s.2.2.2.1 r.2.1=some d/\PW r sg d.2=0
 pa:NG s k r=false
 p0:E8 r.2.2.2.1 0=false
 p9:E8 9 r.2.2.2.1=false
 dv:Jn r.2.2.2.2.1=true
 ne:x8 r.2.2.2.2.1.1 r.2.2.2.2.1.2=false
 ct:L8 8 (Ig (s.2.2.2.2.take k) r.2.1)=false
 sr:a1A r.2.2.2.2.2.2.2=true
variable {s:A7}{r:Z7}{sg:N8}{k:Nat}
theorem RuleV.zero(h:RuleV s sg k r):JV s sg k r=0:=by obtain⟨d,h1,h2⟩:=h.df;unfold JV;rw[h.id,h.nm,h1];simp only[o7,o6];change l9 (NG s k r) (9:Int) _=0;rw[h.pa,h.p0,h.p9,h.dv,h.ne,h.ct,h.sr,h2];rfl
theorem a4g(h:JV s sg k r=0):RuleV s sg k r:=by
 obtain⟨d,hd,hx⟩:=a0x h;unfold JV at h;cases g1:DY r.1<;>rw[g1]at h
 .exact absurd (show(2:Int)=0 from h) G7
 cases g2:(s.2.2.2.2.take k).any λx=>seq x.1 r.1<;>rw[g2]at h
 case true=>exact absurd (show(7:Int)=0 from h) G7
 rw[hd]at h;simp only[o7,o6]at h;change l9 (NG s k r) (9:Int) _=0 at h;cases b1:NG s k r<;>rw[b1]at h
 case true=>exact absurd (show(9:Int)=0 from h) G7
 cases b2:E8 r.2.2.2.1 0<;>rw[b2]at h
 case true=>exact absurd (show(3:Int)=0 from h) G7
 cases b3:E8 9 r.2.2.2.1<;>rw[b3]at h
 case true=>exact absurd (show(3:Int)=0 from h) G7
 cases b4:Jn r.2.2.2.2.1<;>rw[b4]at h
 case false=>exact absurd (show(3:Int)=0 from h) G7
 cases b5:x8 r.2.2.2.2.1.1 r.2.2.2.2.1.2<;>rw[b5]at h
 case true=>exact absurd (show(3:Int)=0 from h) G7
 cases b6:L8 8 (Ig (s.2.2.2.2.take k) r.2.1)<;>rw[b6]at h
 case true=>exact absurd (show(4:Int)=0 from h) G7
 cases b7:a1A r.2.2.2.2.2.2.2<;>rw[b7]at h
 case false=>exact absurd (show(2:Int)=0 from h) G7
 exact⟨g1,g2,⟨d,hd,hx⟩,b1,b2,b3,b4,b5,b6,b7⟩
variable {i:Nat}{n:Nat}
theorem b4A(on:Nat->Bool)(hi:i<=n):(onL on n).take (dE on i)=onL on i:=by
 induction n with
 |zero=>have e:i=0:=l7;subst e;unfold onL dE;simp|succ n ih=>
  by_cases e:i=n+1
  .subst e;rw[Y8 (by unfold onL dE;omega)]
  .rw[EE,aH (by have:=ZL on (show i<=n by omega);exact this)];exact ih l7
variable {l:U6}{d:Int}
theorem Nq{k:Int}{c:aF}(hL:SmL l)(hC:SmC c)(hT:∀t∈l.2.1,qO t)(h:(fB l).1=0)(hs:F9 l.2.2 k=some s)(h0:0<=d)(h1:d<nD s):
  gK l k c d=some (TG l s c d):=by
 have hM:=Qg hL h hs;have hS:=hL.sc s (bg hs).2.2.1;have hn:nD s=((s.2.2.2.1.length:Nat):Int):=rfl;have hcm:=hC.nm;unfold gK;rw[hs,o8,zT s hS false,o8,Uh hS x9 h0 h1,o8,zG h hs,o8,zT (L9 l s) hM false,o8,Lm h hs hS hM x9 d (WQ h (bg hs).2.2.2 d),o8,PS h hs hC.nm hM hT (by rw[Oa];simp),o8];unfold TG PR uC;cases hq:mS l c (L9 l s) (Dk (L9 l s) (List.replicate (L9 l s).2.2.2.1.length false) (mbS s d))with
 |inr e=>simp only[O9 (uQ _ (λr=>r.1≠0) a7R _ _ _ hq)];rfl|inl b=>
  have hbl:=a3t hq;simp only[N9 (rfl:(0:Int)=0),E5,o6];rw[b0q c b h hs hM,o8,PT hS (Np hT s c l7) (-1) (by rw[JU];simp),o8];cases hr:scS s (uf l s c b) (-1) (JS s (List.replicate s.2.2.2.1.length false) d)with
  |inr e=>simp only[O9 (OI hr)];rfl|inl x=>obtain⟨g1,g2⟩:=Fa hr;have k1:=Nb (l:=x.1) (0,0,0) h0 l7;have k2:=Nb (l:=x.2) 0 h0 l7;simp only[N9 (rfl:(0:Int)=0),E5,o6];rw[k1.1,o8,k1.2,o8,k2.1,o8,k2.2];rfl
structure Grid (lo hi step:Int):Prop where
 l1:-1000000000000001<=lo
 h1:hi<=1000000000000001
 l2:lo<=1000000000000001
 h2:-1000000000000001<=hi
 s1:1<=step
 s2:step<=1000000000000000
def gx(lo step:Int)(i:Nat):Int:=lo+i*step
variable {α:Type}
def arr(n:Nat)(f:Nat->α):List α:=(List.range n).map f
section
variable {α:Type} {n:Nat}
theorem Uw(f:Nat->α):(arr n f).length=n:=by simp[arr]
theorem a4E(f:Nat->α):o9 (arr n f)=(n:Int):=by unfold o9;rw[Uw]
theorem NE{f:Nat->α}(h:i<n):(arr n f)[i]? =some (f i):=by unfold arr;rw[I8,di h];rfl
theorem NF{f:Nat->α}(h:i<n):F9 (arr n f) (i:Int)=some (f i):=by rw[F7];exact NE h
theorem BA{f:Nat->α}(h:i<n):V6 (arr n f) (V9 (i:Int))=some (f i):=by show(arr n f)[((i:Int)).toNat]? =_;rw[D8];exact NE h
theorem KC{f g:Nat->α}(h:∀i,i<n->f i=g i):arr n f=arr n g:=by unfold arr;exact dn λi hi=>h i (P8.1 hi)
theorem Ux{f:Nat->α}(x:α):aU (arr n f) (V9 (i:Int)) x=arr n (λj=>if j=i then x else f j):=by
 show(arr n f).set ((i:Int)).toNat x=_;rw[D8];apply bu;intro j;rw[Z9];by_cases hj:j<n
 .rw[NE hj,NE hj,Uw];by_cases e:i=j
  .subst e;rw[if_pos rfl,if_pos hj,if_pos rfl]
  .rw[if_neg e,if_neg (λh:j=i=>e h.symm)]
 .have e1:(arr n f)[j]? =none:=bQ (by rw[Uw];omega);have e2:(arr n λj=>if j=i then x else f j)[j]? =none:=bQ (by rw[Uw];omega);rw[e1,e2,Uw];by_cases e:i=j
  .subst e;rw[if_pos rfl,if_neg hj]
  .rw[if_neg e]
theorem a2Y(x:α):List.replicate n x=arr n λ_=>x:=by
 unfold arr;apply bu;intro j;rw[I8,jC];by_cases hj:j<n
 .rw[if_pos hj,di hj];rfl
 .rw[if_neg hj,bQ Z5];rfl
end
def upP(s:A7)(i:Nat):Option Nat:=if 0<=dA s i/\dA s i<(i:Int)then some (dA s i).toNat else none
theorem XB{i p:Nat}(h:upP s i=some p):p<i:=by
 unfold upP at h;split at h
 .cases h;omega
 .cases h
def upI(s:A7)(i:Nat):Int:=match upP s i with|some p=>(p:Int)|none=>-1
def ups(s:A7)(i:Nat):d1B:=i::(if h:0<=dA s i/\dA s i<(i:Int)then ups s (dA s i).toNat else[])
termination_by i
decreasing_by omega
theorem a4s(s:A7)(i:Nat):ups s i=i::(match upP s i with|some p=>ups s p|none=>[]):=by
 rw[ups];unfold upP;by_cases h:0<=dA s i/\dA s i<(i:Int)
 .rw[dif_pos h,if_pos h]
 .rw[dif_neg h,if_neg h]
theorem VS(s:A7)(i:Nat):i∈ups s i:=by rw[a4s];simp
theorem b7L(s:A7):∀i,∀j∈ups s i,∀p,upP s j=some p->p∈ups s i:=by
 intro i;induction i using Nat.strongRecOn with
 |ind i ih=>
  intro j hj p hp;rw[a4s]at hj ⊢;rcases D6.1 hj with rfl|hj
  .rw[hp];exact V4 _ (VS s p)
  .cases hq:upP s i with
   |none=>rw[hq]at hj;cases hj|some q=>rw[hq]at hj;exact V4 _ (ih q (XB hq) j hj p hp)
def Clo(s:A7)(f:Nat->Bool)(m:Nat):Prop:=∀j,j<=m->f j=true->∀p,upP s j=some p->f p=true
theorem b8c{f:Nat->Bool} :∀i,Clo s f i->f i=true->∀j∈ups s i,f j=true:=by
 intro i;induction i using Nat.strongRecOn with
 |ind i ih=>
  intro hc hf j hj;rw[a4s]at hj;rcases D6.1 hj with rfl|hj
  .exact hf
  .cases hp:upP s i with
   |none=>rw[hp]at hj;cases hj|some p=>rw[hp]at hj;have hlt:=XB hp;exact ih p hlt (λk hk=>hc k l7) (hc i (E9 _) hf p hp) j hj
def YG(s:A7)(r j:Nat):Bool:=(ups s r).contains j
theorem GX{r j:Nat} :YG s r j=true↔j∈ups s r:=by unfold YG;simp
def TW(s:A7)(f:Nat->Bool)(a:Nat):Nat->Bool:=λj=>f j || YG s a j
theorem b4K{f:Nat->Bool}{m:Nat}(h:Clo s f m)(a:Nat):Clo s (TW s f a) m:=by
 intro j hj hf p hp;unfold TW at hf ⊢;rw[kD]at hf ⊢;rcases hf with hf|hf
 .exact .inl (h j hj hf p hp)
 .exact .inr (GX.2 (b7L s a j (GX.1 hf) p hp))
theorem Ry{f:Nat->Bool}{a j:Nat} :TW s f a j=((if j=a then true else f j) || (match upP s a with|some p=>YG s p j|none=>false)):=by
 unfold TW YG;rw[a4s,List.contains_cons];by_cases e:j=a
 .subst e;simp
 .rw[if_neg e];have:(j==a)=false:=by simp[e]
  rw[this];cases upP s a<;>simp
theorem Yg(h:i<s.2.2.2.2.length):zH s (i:Int)=some (upI s i):=by
 have e:=bn h;have hp:dA s i=s.2.2.2.2[i].2.2.1:=by unfold dA;rw[e]
 unfold zH upI upP;rw[F7,e,o8,←hp];by_cases h1:dA s i<0
 .rw[U8 h1,o7,if_neg l7]
 .rw[N7 l7,o6];by_cases h2:(i:Int)<=dA s i
  .rw[Y3 h2,o7,if_neg l7]
  .rw[Y9 l7,o6,if_pos ⟨l7,l7⟩];show some (dA s i)=some (((dA s i).toNat:Nat):Int);rw[aA l7]
theorem c8N{f:d1E×Int->Option ((d1E×Int)⊕d1E)}
  (hin:∀(g:Nat->Bool) (a:Nat),a<n->f (arr n g,(a:Int))=l9 (F8 (g a)) (some (.inl (arr n (λj=>if j=a then true else g j),upI s a))) (some (.inr (arr n g))))
  (hend:∀g:Nat->Bool,f (arr n g,-1)=some (.inr (arr n g))):∀(a:Nat) (g:Nat->Bool) (N:Nat),a<n->a+2<=N->Clo s g a->lU f N (arr n g,(a:Int))=some (arr n (TW s g a)):=by
 intro a;induction a using Nat.strongRecOn with
 |ind a ih=>
  intro g N ha hN hc;obtain⟨M,rfl⟩:∃M,N=M+1:=⟨N -1,l7⟩;unfold lU;rw[hin g a ha];cases hg:g a
  .rw[aW,o7];show lU f M (arr n (λj=>if j=a then true else g j),upI s a)=_;unfold upI;cases hp:upP s a with
   |none=>obtain⟨M2,rfl⟩:∃M2,M=M2+1:=⟨M -1,l7⟩;show lU f (M2+1) (arr n (λj=>if j=a then true else g j),-1)=_;unfold lU;rw[hend];show some _=some _;refine congrArg some (KC λj _=>?_);rw[Ry,hp,tH]
   |some p=>
    have hlt:=XB hp;show lU f M (arr n (λj=>if j=a then true else g j),(p:Int))=_;rw[ih p hlt _ M l7 l7 (λj hj hf q hq=>by
     have:=XB hq;have hf:g j=true:=by rwa[if_neg l7]at hf
     show(if q=a then true else g q)=true;rw[if_neg l7];exact hc j l7 hf q hq)]
    refine congrArg some (KC λj _=>?_);rw[Ry (a:=a),hp];rfl
  .rw[E5,o6];show some _=some _;refine congrArg some (KC λj _=>?_);unfold TW;cases hj:YG s a j
   .rw[tH]
   .rw[b8c a hc hg j (GX.1 hj)];rfl
theorem c8O{f:d1E×Int->Option ((d1E×Int)⊕d1E)}
  (hin:∀(g:Nat->Bool) (a:Nat),a<n->f (arr n g,(a:Int))=match upP s a with|some p=>some (.inl (arr n (λj=>if j=p then true else g j),(p:Int)))|none=>some (.inr (arr n g))):
  ∀(a:Nat) (g:Nat->Bool) (N:Nat),a<n->a+1<=N->g a=true->lU f N (arr n g,(a:Int))=some (arr n (TW s g a)):=by
 intro a;induction a using Nat.strongRecOn with
 |ind a ih=>
  intro g N ha hN hg;obtain⟨M,rfl⟩:∃M,N=M+1:=⟨N -1,l7⟩;unfold lU;rw[hin g a ha];have hgg:∀j,(if j=a then true else g j)=g j:=λj=>by
   by_cases e:j=a
   .subst e;rw[if_pos rfl,hg]
   .rw[if_neg e]
  cases hp:upP s a with
  |none=>show some _=some _;refine congrArg some (KC λj _=>?_);rw[Ry,hp,hgg,tH]|some p=>
   have hlt:=XB hp;show lU f M (arr n (λj=>if j=p then true else g j),(p:Int))=_;rw[ih p hlt _ M l7 l7 (by rw[if_pos rfl])];refine congrArg some (KC λj _=>?_);rw[Ry (a:=a),hp,hgg];unfold TW;show((if j=p then true else g j) || YG s p j)=(g j || YG s p j);by_cases e:j=p
   .subst e;rw[GX.2 (VS s j)];simp
   .rw[if_neg e]
abbrev nR(s:A7):Nat:=s.2.2.2.2.length
def inN(n:Nat)(r:Int):Bool:=decide (0<=r)&&decide (r<(n:Int))
def gG(s:A7)(ks:d1A)(j:Nat):Bool:=ks.any λr=>inN (nR s) r&&YG s r.toNat j
def a2l(s:A7)(ks:d1A)(j:Nat):Bool:=ks.any λr=>inN (nR s) r&&decide (r.toNat=j)
abbrev KB:=(Nat->Bool)×(Nat->Bool)
def kG(s:A7)(b:KB)(r:Int):KB:=if inN (nR s) r=true then(TW s b.1 r.toNat,λj=>if j=r.toNat then true else b.2 j)else b
theorem a9V(s:A7):∀(ks:d1A) (b:KB),((ks.foldl (kG s) b).1=λj=>b.1 j || gG s ks j)/\((ks.foldl (kG s) b).2=λj=>b.2 j || a2l s ks j)
 |[],b=>by simp[gG,a2l]|r::ks,b=>by
  obtain⟨h1,h2⟩:=a9V s ks (kG s b r);rw[P6,h1,h2];unfold kG gG a2l;cases hr:inN (nR s) r
  .rw[if_neg x9];refine⟨?_,?_⟩<;>funext j<;>simp[hr]
  .rw[if_pos rfl];refine⟨?_,?_⟩<;>funext j
   .simp only[kE,hr,fK];unfold TW;rw[Bool.or_assoc]
   .simp only[kE,hr,fK];by_cases e:j=r.toNat
    .subst e;simp
    .rw[if_neg e];have:decide (r.toNat=j)=false:=decide_eq_false λh=>e h.symm;rw[this];simp
theorem a5j(h:n<=1000000):n<=jb:=by unfold jb;omega
variable {ks:d1A}
theorem a3o(hn:nR s<=1000)(hk:ks.length<=1000):yB s ks=some (arr (nR s) (gG s ks),arr (nR s) (a2l s ks)):=by
 unfold yB;have hL:o9 s.2.2.2.2=(nR s:Int):=rfl;rw[show pX (o9 s.2.2.2.2) false=some (arr (nR s) λ_=>false) by rw[hL,DD l7 l7,←a2Y,D8]];simp only[o8];refine dI ks (kG s) (λ(b:KB) i=>(arr (nR s) b.1,arr (nR s) b.2,i)) (λb=>(arr (nR s) b.1,arr (nR s) b.2)) (λ_ b=>Clo s b.1 (nR s)) (λ_=>false,λ_=>false) l7 (λj _ h=>by cases h) (λi r b hr hi hc=>?_) (λb hb=>?_) (λhb=>?_)
 .have hci:Clo s (kG s b r).1 (nR s):=by
   unfold kG;split
   .exact b4K hc _
   .exact hc
  refine⟨?_,hci⟩;simp only[J7 hr,o7,F7,hr,o8];unfold kG inN;by_cases h1:r<0
  .rw[U8 h1,o7,if_neg Z5,Y4 l7]
  .rw[N7 l7,o6];by_cases h2:(nR s:Int)<=r
   .rw[show L8 (o9 s.2.2.2.2) r=true from Y3 h2,o7,if_neg Z5,Y4 l7]
   .rw[show L8 (o9 s.2.2.2.2) r=false from Y9 (by have hL:o9 s.2.2.2.2=(nR s:Int):=rfl;rw[hL];omega),o6,if_pos Z5];obtain⟨a,ha⟩:∃a:Nat,r=(a:Int):=⟨r.toNat,l7⟩;subst ha;have hlt:a<nR s:=l7;rw[NF hlt,o8,BA hlt,o8];refine X9 (c8N (s:=s) (n:=nR s) (λg a ha=>?_) (λg=>?_) a b.1 jb hlt (a5j l7) (λj hj=>hc j l7)) ?_
    .simp only[Y3 (show(0:Int)<=(a:Int) by omega),o7,NF ha,o8,BA ha];cases g a
     .rw[Yg ha,o8,Ux]
     .rfl
    .rfl
    .rw[o8,Ux,Y4 l7,D8]
 .simp only[J6,o6]
 .obtain⟨h1,h2⟩:=a9V s ks (λ_=>false,λ_=>false);rw[h1,h2];simp only[kz]
theorem b3N(hk:ks.length<=1000)(k:Int):Nr ks k=some (ks.any λr=>x8 r k):=by
 unfold Nr;refine X9 (xH ks (λr=>x8 r k) true PUnit.unit l7 (λi a ha=>?_) ?_) ?_
 .simp only[J7 ha,o7,F7,ha,o8];cases x8 a k<;>rfl
 .rw[J6];rfl
 .cases ks.any λr=>x8 r k<;>rfl
def rkG(s:A7)(ks:d1A)(b:Nat->Bool)(i:Nat):Nat->Bool:=if(ks.any λr=>x8 r (i:Int))=true then TW s b i else b
theorem a6p(s:A7)(ks:d1A):∀(l:d1B) (b:Nat->Bool),l.foldl (rkG s ks) b=λj=>b j || l.any λi=>(ks.any λr=>x8 r (i:Int))&&YG s i j
 |[],b=>by simp|i::l,b=>by
  rw[P6,a6p s ks l];funext j;unfold rkG;rw[kE];cases hr:ks.any λr=>x8 r (i:Int)
  .rw[if_neg x9];simp
  .rw[if_pos rfl];unfold TW;rw[fK,Bool.or_assoc]
theorem b2f(s:A7)(ks:d1A)(j:Nat):((List.range (nR s)).any λi=>(ks.any λr=>x8 r (i:Int))&&YG s i j)=gG s ks j:=by
 rw[fV];unfold gG inN;simp only[Y6,P8,A8,decide_eq_true_eq];constructor
 .rintro⟨i,hi,⟨r,hr,he⟩,hu⟩;have:=O5.1 he;subst this;exact⟨_,hr,⟨l7,l7⟩,by rw[D8];exact hu⟩
 .rintro⟨r,hr,⟨h0,h1⟩,hu⟩;exact⟨r.toNat,l7,⟨r,hr,O5.2 l7⟩,hu⟩
theorem a6q(hn:nR s<=1000)(hk:ks.length<=1000):JP s ks=some (arr (nR s) (gG s ks)):=by
 unfold JP;have hL:o9 s.2.2.2.2=(nR s:Int):=rfl;rw[show pX (o9 s.2.2.2.2) false=some (arr (nR s) λ_=>false) by rw[hL,DD l7 l7,←a2Y,D8],o8];have hll:(List.range (nR s)).length=nR s:=bz;refine dI (List.range (nR s)) (rkG s ks) (λ(b:Nat->Bool) i=>(arr (nR s) b,i)) (λb=>arr (nR s) b) (λ_ _=>True) (λ_=>false) l7 trivial (λi a b ha hi _=>⟨?_,trivial⟩) (λb hb=>?_) (λhb=>?_)
 .have hlt:i<nR s:=by have:=(X6.1 ha).1;omega
  have ea:a=i:=by rw[di hlt]at ha;exact(I9 ha).symm
  subst ea;have hl2:E8 (a:Int) (o9 s.2.2.2.2)=true:=U8 (by rw[hL];omega);simp only[hl2,o7,b3N hk,o8];unfold rkG;cases hr:ks.any λr=>x8 r (a:Int)
  .rw[aW,o7,if_neg x9,Y4 l7]
  .rw[E5,o6,if_pos rfl,NF hlt,o8,BA hlt,o8,Ux];refine X9 (c8O (s:=s) (n:=nR s) (λg a ha=>?_) a _ jb hlt (a5j l7) (by rw[if_pos rfl])) ?_
   .have e:=bn ha;have hp:dA s a=s.2.2.2.2[a].2.2.1:=by unfold dA;rw[e]
    simp only[F7,e,o8];rw[←hp];unfold upP;by_cases h1:0<=dA s a
    .rw[Y3 h1,o7];by_cases h2:dA s a<(a:Int)
     .rw[U8 h2,o7,if_pos ⟨h1,h2⟩];obtain⟨p,hpp⟩:∃p:Nat,dA s a=(p:Int):=⟨(dA s a).toNat,l7⟩;rw[hpp,NF l7,o8,BA l7,o8,Ux,D8]
     .rw[N7 l7,o6,if_neg l7]
    .rw[Y9 l7,o6,if_neg l7]
   .rw[o8,Y4 l7];have:arr (nR s) (TW s (λj=>if j=a then true else b j) a)=arr (nR s) (TW s b a):=KC λj _=>by
     unfold TW;by_cases e:j=a
     .subst e;rw[GX.2 (VS s j)];simp
     .show((if j=a then true else b j) || _)=_;rw[if_neg e]
    rw[this]
 .rw[hll];have hl2:E8 (nR s:Int) (o9 s.2.2.2.2)=false:=N7 (by rw[hL];omega);simp only[hl2,o6]
 .rw[a6p];simp only[kz];have:(λj=>(List.range (nR s)).any λi=>(ks.any λr=>x8 r (i:Int))&&YG s i j)=gG s ks:=funext λj=>b2f s ks j;rw[this]
def a3y(f:Nat->Bool)(i:Nat):Int:=if f i=true then(dE f i:Int)else -1
abbrev NB:=(Nat->Int)×Int
def nG(f:Nat->Bool)(b:NB)(i:Nat):NB:=if f i=true then(λj=>if j=i then b.2 else b.1 j,b.2+1)else(λj=>if j=i then -1 else b.1 j,b.2)
theorem a4O(f:Nat->Bool)(i:Nat):dE f i<=i:=by unfold dE;have:=aJ f (List.range i);simpa using this
theorem a1n(hn:n<=1000)(f:Nat->Bool):xw (arr n f)=some (arr n (a3y f)):=by
 unfold xw;rw[a4E];rw[show pX (n:Int) (0:Int)=some (arr n λ_=>(0:Int)) by rw[DD l7 l7,←a2Y];rw[D8],o8];have hll:(List.range n).length=n:=bz;refine dI (List.range n) (nG f) (λ(b:NB) i=>(arr n b.1,b.2,i)) (λb=>arr n b.1) (λi b=>b.2=(dE f i:Int)/\∀j,j<i->b.1 j=a3y f j) (λ_=>0,0) l7 ⟨rfl,λj h=>by omega⟩ (λi a b ha hi hb=>?_) (λb hb=>?_) (λhb=>?_)
 .have hlt:i<n:=by have:=(X6.1 ha).1;omega
  have ea:a=i:=by rw[di hlt]at ha;exact(I9 ha).symm
  subst ea;have hl2:E8 (a:Int) (n:Int)=true:=U8 l7;have hc:=a4O f a;simp only[hl2,o7,NF hlt,o8,BA hlt,Ux];obtain⟨hb1,hb2⟩:=hb;unfold nG;cases hf:f a
  .rw[o6,if_neg x9];refine⟨by rw[Y4 l7],?_,λj hj=>?_⟩
   .rw[hb1,Jl,hf];simp
   .show(if j=a then -1 else b.1 j)=_;by_cases e:j=a
    .subst e;unfold a3y;rw[if_pos rfl,hf];rfl
    .rw[if_neg e];exact hb2 j l7
  .rw[o7,if_pos rfl];have e1:arr n (λj=>if j=a then b.2 else if j=a then -1 else b.1 j)=arr n (λj=>if j=a then b.2 else b.1 j):=KC λj _=>by
    by_cases e:j=a
    .rw[if_pos e,if_pos e]
    .rw[if_neg e,if_neg e,if_neg e]
   refine⟨by rw[e1,Y4 l7,hb1,Y4 l7];rfl,?_,λj hj=>?_⟩
   .show b.2+1=_;rw[hb1,Jl,hf];simp
   .show(if j=a then b.2 else b.1 j)=_;by_cases e:j=a
    .subst e;unfold a3y;rw[if_pos rfl,hf,hb1];rfl
    .rw[if_neg e];exact hb2 j l7
 .rw[hll];have hl2:E8 (n:Int) (n:Int)=false:=N7 l7;simp only[hl2,o6]
 .rw[hll]at hb;rw[KC λj hj=>hb.2 j hj]
def a3z(s:A7)(ks:d1A)(k:Int):Int:=if 0<=k/\k<(nR s:Int)then a3y (gG s ks) k.toNat else -1
theorem a3S(hn:nR s<=1000)(hk:ks.length<=1000)(k:Int):ug s ks k=some (a3z s ks k):=by
 unfold ug a3z;rw[a6q hn hk,o8,a4E];by_cases h1:k<0
 .rw[U8 h1,o7,if_neg l7]
 .rw[N7 l7,o6];by_cases h2:(nR s:Int)<=k
  .rw[Y3 h2,o7,if_neg l7]
  .rw[Y9 l7,o6,if_pos l7];obtain⟨a,rfl⟩:∃a:Nat,k=(a:Int):=⟨k.toNat,l7⟩;have ha:a<nR s:=l7;rw[NF ha,o8,BA ha,o8,D8];unfold a3y;cases hf:gG s ks a
   .rfl
   .rw[E5,o6,if_pos rfl];have hll:(List.range a).length=a:=bz;refine dI (List.range a) (λ(b:Int) i=>if gG s ks i=true then b+1 else b) (λ(b:Int) i=>(b,i)) (λb=>b) (λi b=>b=(dE (gG s ks) i:Int)) 0 l7 rfl (λi x b hx hi hb=>?_) (λb hb=>?_) (λhb=>?_)
    .have hlt:i<a:=by have:=(X6.1 hx).1;omega
     have ea:x=i:=by rw[di hlt]at hx;exact(I9 hx).symm
     subst ea;have hl2:E8 (x:Int) (a:Int)=true:=U8 l7;have hc:=a4O (gG s ks) x;simp only[hl2,o7,NF (show x<nR s by omega),o8,BA (show x<nR s by omega)];cases hf:gG s ks x
     .rw[o6,if_neg x9,Y4 l7];exact⟨rfl,by rw[hb,Jl,hf];simp⟩
     .rw[o7,if_pos rfl,hb,Y4 l7,Y4 l7];exact⟨rfl,by rw[Jl,hf];simp⟩
    .rw[hll];have hl2:E8 (a:Int) (a:Int)=false:=N7 l7;simp only[hl2,o6]
    .rw[hll]at hb;rw[hb]
structure LenL (l:U6):Prop where
 e:l.1.length<=1000000/\∀e∈l.1,e.2.length<=1000000
 t:l.2.1.length<=1000000/\∀t∈l.2.1,t.2.2.2.length<=1000000
 s:l.2.2.length<=1000000/\∀s∈l.2.2,s.2.2.1.length<=1000000/\s.2.2.2.1.length<=1000000/\s.2.2.2.2.length<=1000000/\∀r∈s.2.2.2.2,r.2.2.2.2.2.1.length<=1000000/\r.2.2.2.2.2.2.1.length<=1000000
theorem UM(a:Int):x8 a a=true:=N9 rfl
theorem Jr{α:Type} :∀(l p:List α),l.foldl (λb a=>b++[a]) p=p++l
 |[],p=>by simp|a::l,p=>by rw[P6,Jr l];simp
theorem MJ{l:List α}(h:l.length<=1000000):qH l=some l:=by unfold qH;rw[uy Z5,G6]
theorem a1d{a:List jA}(h:a.length<=1000000)(h2:∀e∈a,e.2.length<=1000000):Es a=some a:=by
 unfold Es;refine dI a (λ(b:List jA) x=>b++[x]) (λb i=>(b,i)) (λb=>b) (λi b=>b.length=i) [] h rfl (λi x b hx hi hb=>⟨?_,by simp[hb]⟩) (λb hb=>?_) (λhb=>?_)
 .simp only[J7 hx,o7,F7,hx,o8];rw[MJ (h2 x (kw hx)),o8,fQ _ l7,o8,Y4 l7]
 .simp only[J6,o6]
 .rw[Jr,G6]
theorem ZK{a:List gz}(h:a.length<=1000000)(h2:∀e∈a,e.2.2.2.length<=1000000):Ci a=some a:=by
 unfold Ci;refine dI a (λ(b:List gz) x=>b++[x]) (λb i=>(b,i)) (λb=>b) (λi b=>b.length=i) [] h rfl (λi x b hx hi hb=>⟨?_,by simp[hb]⟩) (λb hb=>?_) (λhb=>?_)
 .simp only[J7 hx,o7,F7,hx,o8];rw[MJ (h2 x (kw hx)),o8,fQ _ l7,o8,Y4 l7]
 .simp only[J6,o6]
 .rw[Jr,G6]
theorem b0Z(h:LenL l):Rk l=some l:=by
 unfold Rk;rw[a1d h.e.1 h.e.2,o8,ZK h.t.1 h.t.2,o8];refine dI l.2.2 (λ(b:List A7) x=>b++[x]) (λb i=>((l.1,l.2.1,b),i)) (λb=>(l.1,l.2.1,b)) (λi b=>b.length=i) [] h.s.1 rfl (λi x b hx hi hb=>⟨?_,by simp[hb]⟩) (λb hb=>?_) (λhb=>?_)
 .obtain⟨g1,g2,g3,g4⟩:=h.s.2 x (kw hx);simp only[J7 hx,o7,F7,hx,o8];rw[MJ g1,o8,MJ g2,o8];refine dI x.2.2.2.2 (λ(b:List Z7) x=>b++[x]) (λb i=>((x.1,x.2.1,x.2.2.1,x.2.2.2.1,b),i)) (λb=>(x.1,x.2.1,x.2.2.1,x.2.2.2.1,b)) (λi b=>b.length=i) [] g3 rfl (λi y b hy hi hb=>⟨?_,by simp[hb]⟩) (λb hb=>?_) (λhb=>?_)
  .obtain⟨k1,k2⟩:=g4 y (kw hy);simp only[J7 hy,o7,F7,hy,o8];rw[MJ k1,o8,MJ k2,o8,fQ _ l7,o8,Y4 l7]
  .simp only[J6,o6]
  .rw[Jr,G6,fQ _ l7,o8,Y4 l7]
 .simp only[J6,o6]
 .rw[Jr,G6]
def a4Q(r:Z7):Int:=r.2.1
def UU(d:jB):Int:=d.2.1
def Iq(s:A7):Int:=s.2.1
structure RedOk (s:A7):Prop where
 par:∀(i:Nat),i<nR s->dA s i<(i:Int)
 df:∀(i:Nat) (r:Z7),s.2.2.2.2[i]? =some r->∃d,F9 s.2.2.2.1 (a4Q r)=some d/\1<=UU d/\UU d<=6
def Jw(t:Int×Int):Int×Int:=l9 (x8 t.1 6) (6,D5 .i64 (az .i64 16 t.2) 0) (t.1,0)
def Py(s:A7)(d:Int):Int×Int:=match F9 s.2.2.2.1 d with|some d=>d.2|none=>(0,0)
def Kv(ks:d1A)(i:Nat):Bool:=ks.any λr=>x8 r (i:Int)
def rP(s:A7)(ks:d1A)(p:Int):Int:=if 0<=p then a3z s ks p else p
def rK(s:A7)(ks:d1A)(i:Nat):Z7:=match s.2.2.2.2[i]? with
 |some r=>if Kv ks i=true then(r.1,r.2.1,rP s ks (dA s i),r.2.2.2)else(r.1,r.2.1,rP s ks (dA s i),r.2.2.2.1,r.2.2.2.2.1,[(1,0)],[Jw (Py s r.2.1)],r.2.2.2.2.2.2.2)|none=>([],0,0,0,(0,0),[],[],[])
def Uc(s:A7)(ks:d1A):List Z7:=(onL (gG s ks) (nR s)).map (rK s ks)
theorem b5G(s:A7)(ks:d1A):(Uc s ks).length<=nR s:=by unfold Uc;rw[H7];exact ED _ _
def dkG(s:A7)(ks:d1A)(b:List Z7)(i:Nat):List Z7:=if gG s ks i=true then b++[rK s ks i]else b
theorem ZR(s:A7)(ks:d1A):∀n,(List.range n).foldl (dkG s ks) []=(onL (gG s ks) n).map (rK s ks)
 |0=>rfl|n+1=>by
  rw[X3,Y1,ZR s ks n,EE,bY];show dkG s ks _ n=_;unfold dkG;cases gG s ks n
  .simp
  .simp
theorem b4c(h:i<nR s):a2l s ks i=Kv ks i:=by
 rw[fV];unfold a2l Kv inN;simp only[Y6,A8,decide_eq_true_eq];constructor
 .rintro⟨r,hr,⟨h0,h1⟩,h2⟩;exact⟨r,hr,O5.2 l7⟩
 .rintro⟨r,hr,h2⟩;have:=O5.1 h2;exact⟨r,hr,⟨l7,l7⟩,l7⟩
theorem b3V{l:List α}{i:Int}{x:α}(h:F9 l i=some x):0<=i/\i<o9 l:=by
 unfold F9 at h;by_cases e:0<=i
 .rw[if_pos e]at h;have:=(X6.1 h).1;exact⟨e,by unfold o9;omega⟩
 .rw[if_neg e]at h;cases h
theorem c0K(h:RedOk s)(hr:s.2.2.2.2[i]? =some r):yJ s r.2.1=some [Jw (Py s r.2.1)]:=by obtain⟨d,h1,h2,h3⟩:=h.df i r hr;obtain⟨hge,hlt⟩:=b3V h1;show yJ s (a4Q r)=some [Jw (Py s (a4Q r))];generalize a4Q r=q at*;unfold yJ Py Jw Ul;rw[N7 hge,o6,Y9 hlt,o6,o8,U1,h1];simp only[o8];have hc:UU d=1\/UU d=2\/UU d=3\/UU d=4\/UU d=5\/UU d=6:=l7;unfold UU at hc;rcases hc with e|e|e|e|e|e<;>rw[e]<;>rfl
theorem b8N(h:RedOk s)(hr:s.2.2.2.2[i]? =some r):∃d,F9 s.2.2.2.1 r.2.1=some d/\GK d.2=some (Jw (Py s r.2.1)):=by obtain⟨d,h1,h2,h3⟩:=h.df i r hr;refine⟨d,h1,?_⟩;show _=some (Jw (Py s (a4Q r)));unfold GK Ue Jw Py;rw[h1,o8];simp only;cases x8 d.2.1 6<;>rfl
theorem c3n(h:RedOk s)(hi:i<nR s):(0<=dA s i/\upI s i=dA s i/\∃p:Nat,dA s i=(p:Int)/\p<i)\/(dA s i<0/\upI s i=-1):=by
 have hp:=h.par i hi;unfold upI upP;by_cases h0:0<=dA s i
 .rw[if_pos ⟨h0,hp⟩];exact .inl ⟨h0,by show(((dA s i).toNat:Nat):Int)=_;omega,(dA s i).toNat,l7,l7⟩
 .rw[if_neg l7];exact .inr ⟨l7,rfl⟩
theorem a2E(hn:nR s<=1000)(hk:ks.length<=1000)(h:RedOk s):EF s ks=some (Uc s ks):=by
 unfold EF;rw[a3o hn hk,o8,a1n hn,o8];have hll:(List.range (nR s)).length=nR s:=bz;refine dI (List.range (nR s)) (dkG s ks) (λb i=>(b,i)) (λb=>b) (λi b=>b.length<=i) [] l7 (E9 _) (λi x b hx hi hb=>?_) (λb hb=>?_) (λhb=>?_)
 .have hlt:i<nR s:=by have:=(X6.1 hx).1;omega
  have ea:x=i:=by rw[di hlt]at hx;exact(I9 hx).symm
  subst ea;have hr:s.2.2.2.2[x]? =some s.2.2.2.2[x]:=bn hlt;have hl2:E8 (x:Int) (o9 s.2.2.2.2)=true:=U8 (by show _<((nR s:Nat):Int);omega);refine⟨?_,?_⟩
  rotate_left
  .unfold dkG;split
   .rw[F5];show _+1<=_;omega
   .omega
  simp only[hl2,o7,F7,hr,o8,NE hlt,BA hlt];unfold dkG;cases hf:gG s ks x
  .rw[aW,o7,if_neg x9,Y4 l7]
  .rw[E5,o6,if_pos rfl,Yg hlt,o8];have hrk:rK s ks x=if Kv ks x=true then((s.2.2.2.2[x]).1,(s.2.2.2.2[x]).2.1,rP s ks (dA s x),(s.2.2.2.2[x]).2.2.2)else((s.2.2.2.2[x]).1,(s.2.2.2.2[x]).2.1,rP s ks (dA s x),(s.2.2.2.2[x]).2.2.2.1,(s.2.2.2.2[x]).2.2.2.2.1,[(1,0)],[Jw (Py s (s.2.2.2.2[x]).2.1)],(s.2.2.2.2[x]).2.2.2.2.2.2.2):=by unfold rK;rw[hr]
   rw[b4c hlt,c0K h hr,hrk];have hpe:dA s x=(s.2.2.2.2[x]).2.2.1:=by unfold dA;rw[hr]
   generalize hrr:s.2.2.2.2[x]=r at*;have hpp:rP s ks (dA s x)=if 0<=dA s x then a3z s ks (dA s x)else dA s x:=rfl;rcases c3n h hlt with⟨h0,h1,p,h2,h3⟩|⟨h0,h1⟩
   .rw[h1,Y3 h0,o7];have hnew:a3z s ks (dA s x)=a3y (gG s ks) p:=by
     unfold a3z;rw[if_pos ⟨h0,l7⟩,h2,D8]
    rw[if_pos h0,hnew]at hpp;have hpn:p<nR s:=l7;rw[hpp,h2];simp only[F7,NE hpn,BA hpn,o8];cases Kv ks x
    .rw[aW,o7,if_neg x9];rw[fQ _ l7,o8,Y4 l7]
    .rw[E5,o6,if_pos rfl,fQ _ l7,o8,Y4 l7]
   .rw[h1,Y9 l7,o6];rw[if_neg l7]at hpp;rw[hpp,hpe];cases Kv ks x
    .rw[aW,o7,if_neg x9];simp only[o8];rw[fQ _ l7,o8,Y4 l7]
    .rw[E5,o6,if_pos rfl,fQ _ l7,o8,Y4 l7]
 .rw[hll];have hl2:E8 (nR s:Int) (o9 s.2.2.2.2)=false:=N7 (by show((nR s:Nat):Int)<=_;omega);simp only[hl2,o6]
 .rw[ZR];rfl
theorem a0w(hn:nR s<=1000)(hk:ks.length<=1000)(h:RedOk s):EX s ks=some (s.1,s.2.1,s.2.2.1,s.2.2.2.1,Uc s ks):=by
 unfold EX;rw[a6q hn hk,o8];have hll:(List.range (nR s)).length=nR s:=bz;refine dI (List.range (nR s)) (dkG s ks) (λb i=>((s.1,s.2.1,s.2.2.1,s.2.2.2.1,b),i)) (λb=>(s.1,s.2.1,s.2.2.1,s.2.2.2.1,b)) (λi b=>b.length<=i) [] l7 (E9 _) (λi x b hx hi hb=>?_) (λb hb=>?_) (λhb=>?_)
 .have hlt:i<nR s:=by have:=(X6.1 hx).1;omega
  have ea:x=i:=by rw[di hlt]at hx;exact(I9 hx).symm
  subst ea;have hr:s.2.2.2.2[x]? =some s.2.2.2.2[x]:=bn hlt;have hl2:E8 (x:Int) (o9 s.2.2.2.2)=true:=U8 (by show _<((nR s:Nat):Int);omega);refine⟨?_,?_⟩
  rotate_left
  .unfold dkG;split
   .rw[F5];show _+1<=_;omega
   .omega
  simp only[hl2,o7,F7,hr,o8,NE hlt,BA hlt];unfold dkG;cases hf:gG s ks x
  .rw[aW,o7,if_neg x9,Y4 l7]
  .rw[E5,o6,if_pos rfl];have hrk:rK s ks x=if Kv ks x=true then((s.2.2.2.2[x]).1,(s.2.2.2.2[x]).2.1,rP s ks (dA s x),(s.2.2.2.2[x]).2.2.2)else((s.2.2.2.2[x]).1,(s.2.2.2.2[x]).2.1,rP s ks (dA s x),(s.2.2.2.2[x]).2.2.2.1,(s.2.2.2.2[x]).2.2.2.2.1,[(1,0)],[Jw (Py s (s.2.2.2.2[x]).2.1)],(s.2.2.2.2[x]).2.2.2.2.2.2.2):=by unfold rK;rw[hr]
   obtain⟨d,hd1,hd2⟩:=b8N h hr;rw[hrk];have hpe:dA s x=(s.2.2.2.2[x]).2.2.1:=by unfold dA;rw[hr]
   generalize hrr:s.2.2.2.2[x]=r at*;have hq:o5 (l9 (L8 0 r.2.2.1) (o5 (ug s ks r.2.2.1) λ(x_3:Int)=>some (r.1,r.2.1,x_3,r.2.2.2)) (some r)) (λx=>some x)=some ((r.1,r.2.1,rP s ks (dA s x),r.2.2.2):Z7):=by
    rw[←hpe];unfold rP;by_cases h0:0<=dA s x
    .rw[Y3 h0,o7,a3S hn hk,o8,o8,if_pos h0]
    .rw[Y9 l7,o6,o8,if_neg h0,hpe]
   have hq2:l9 (L8 0 r.2.2.1) (o5 (ug s ks r.2.2.1) λ(x_3:Int)=>some (r.1,r.2.1,x_3,r.2.2.2)) (some r)=some ((r.1,r.2.1,rP s ks (dA s x),r.2.2.2):Z7):=by
    revert hq;cases l9 (L8 0 r.2.2.1) (o5 (ug s ks r.2.2.1) λ(x_3:Int)=>some (r.1,r.2.1,x_3,r.2.2.2)) (some r)with
    |none=>intro h;cases h|some z=>intro h;exact h
   refine X9 hq2 ?_;rw[o8];rw[b3N hk,o8];show l9 (F8 (Kv ks x)) _ _=_;cases Kv ks x
   .rw[aW,o7,if_neg x9];simp only;rw[hd1,o8,hd2,o8,fQ _ l7,o8,Y4 l7]
   .rw[E5,o6,if_pos rfl,fQ _ l7,o8,Y4 l7]
 .rw[hll];have hl2:E8 (nR s:Int) (o9 s.2.2.2.2)=false:=N7 (by show((nR s:Nat):Int)<=_;omega);simp only[hl2,o6]
 .rw[ZR];rfl
def sK(ks:d1A)(s:A7):A7:=(s.1,s.2.1,s.2.2.1,s.2.2.2.1,Uc s ks)
def KR(l:U6)(k:Int)(own mem:d1A):U6:=
 if 0<=k/\k<o9 l.2.2 then(match l.2.2[k.toNat]? with
  |some s=>(l.1,l.2.1,if 0<=Iq s/\Iq s<o9 l.2.2 then(match l.2.2[(Iq s).toNat]? with|some t=>(l.2.2.set k.toNat (sK own s)).set (Iq s).toNat (sK mem t)|none=>l.2.2.set k.toNat (sK own s))else l.2.2.set k.toNat (sK own s))
  |none=>l)else l
structure KeepOk (l:U6):Prop where
 len:LenL l
 nr:∀s∈l.2.2,nR s<=1000
 red:∀s∈l.2.2,RedOk s
 mem:∀(i:Nat) (s:A7),l.2.2[i]? =some s->Iq s<(i:Int)
theorem b8l(h:KeepOk l)(k:Int){own mem:d1A}(ho:own.length<=1000)(hm:mem.length<=1000):uU l k own mem=some (KR l k own mem):=by
 unfold uU KR;rw[b0Z h.len,o8];by_cases h1:k<0
 .rw[U8 h1,o7,o8,uo,if_neg l7]
 rw[N7 l7,o6];by_cases h2:o9 l.2.2<=k
 .rw[Y3 h2,o7,o8,uo,if_neg l7]
 rw[Y9 l7,o6,o8,U1,if_pos l7];obtain⟨a,rfl⟩:∃a:Nat,k=(a:Int):=⟨k.toNat,l7⟩;have ha:a<l.2.2.length:=by unfold o9 at h2;omega
 have hs:l.2.2[a]? =some l.2.2[a]:=bn ha;have hmem:l.2.2[a]∈l.2.2:=G8 ha;have hlt:=h.mem a _ hs;have hn:=h.nr _ hmem;have hrd:=h.red _ hmem;rw[D8,F7,hs];generalize l.2.2[a]=s at*;have hg:∀{α:Type} (L:List α) (i:Nat),V6 L (V9 (i:Int))=L[i]?:=λL i=>by show L[((i:Int)).toNat]? =_;rw[D8]
 have hst:∀{α:Type} (L:List α) (i:Nat) (x:α),aU L (V9 (i:Int)) x=L.set i x:=λL i x=>by show L.set ((i:Int)).toNat x=_;rw[D8]
 simp only[o8,hg,hs,a2E hn ho hrd,hst,F7];have hset:(l.2.2.set a (s.1,s.2.1,s.2.2.1,s.2.2.2.1,Uc s own))[a]? =some (sK own s):=by rw[cZ ha];rfl
 rw[hset,o8,o8];show l9 (L8 0 (Iq s)) _ _=_;by_cases h3:0<=Iq s
 .rw[Y3 h3,o7];have h4:Iq s<o9 (l.2.2.set a (s.1,s.2.1,s.2.2.1,s.2.2.2.1,Uc s own)):=by unfold o9;rw[ji];omega
  have h5:Iq s<o9 l.2.2:=by unfold o9;omega
  rw[show E8 (sK own s).2.1 (o9 (l.2.2.set a (s.1,s.2.1,s.2.2.1,s.2.2.2.1,Uc s own)))=true from U8 h4,o7,if_pos ⟨h3,h5⟩];rw[show x8 (sK own s).2.1 (a:Int)=false from O9 (show Iq s≠(a:Int) by omega),aW,o7];obtain⟨b,hb⟩:∃b:Nat,Iq s=(b:Int):=⟨(Iq s).toNat,l7⟩;have hbn:b<l.2.2.length:=l7;have ht:l.2.2[b]? =some l.2.2[b]:=bn hbn;have htm:l.2.2[b]∈l.2.2:=G8 hbn;have htn:=h.nr _ htm;have htr:=h.red _ htm;have hset2:(l.2.2.set a (s.1,s.2.1,s.2.2.1,s.2.2.2.1,Uc s own))[b]? =some l.2.2[b]:=by rw[jq l7];exact ht
  rw[show(sK own s).2.1=(b:Int)from hb];simp only[F7,hset2,o8,hg,a2E htn hm htr,hst];rw[hb,D8,ht];rfl
 .rw[Y9 l7,o6,if_neg l7];rfl
theorem b5P(h:KeepOk l)(k:Int){own mem:d1A}(ho:own.length<=1000)(hm:mem.length<=1000):CW l k own mem=some (KR l k own mem):=by
 unfold CW KR;by_cases h1:k<0
 .rw[U8 h1,o7,o8,uo,if_neg l7]
 rw[N7 l7,o6];by_cases h2:o9 l.2.2<=k
 .rw[Y3 h2,o7,o8,uo,if_neg l7]
 rw[Y9 l7,o6,o8,U1,if_pos l7];obtain⟨a,rfl⟩:∃a:Nat,k=(a:Int):=⟨k.toNat,l7⟩;have ha:a<l.2.2.length:=by unfold o9 at h2;omega
 have hs:l.2.2[a]? =some l.2.2[a]:=bn ha;have hmem:l.2.2[a]∈l.2.2:=G8 ha;have hlt:=h.mem a _ hs;have hn:=h.nr _ hmem;have hrd:=h.red _ hmem;have hll:=h.len.s.1;rw[uy Z5,G6,o8];rw[D8,F7,hs];generalize l.2.2[a]=s at*;have hg:∀{α:Type} (L:List α) (i:Nat),V6 L (V9 (i:Int))=L[i]?:=λL i=>by show L[((i:Int)).toNat]? =_;rw[D8]
 have hst:∀{α:Type} (L:List α) (i:Nat) (x:α),aU L (V9 (i:Int)) x=L.set i x:=λL i x=>by show L.set ((i:Int)).toNat x=_;rw[D8]
 simp only[o8,hg,hs,a0w hn ho hrd,hst,F7];show l9 (L8 0 (Iq s)) _ _=_;by_cases h3:0<=Iq s
 .have h5:Iq s<o9 l.2.2:=by unfold o9;omega
  rw[Y3 h3,o7,show E8 s.2.1 (o9 l.2.2)=true from U8 h5,o7,if_pos ⟨h3,h5⟩];obtain⟨b,hb⟩:∃b:Nat,Iq s=(b:Int):=⟨(Iq s).toNat,l7⟩;have hbn:b<l.2.2.length:=l7;have ht:l.2.2[b]? =some l.2.2[b]:=bn hbn;have htm:l.2.2[b]∈l.2.2:=G8 hbn;have htn:=h.nr _ htm;have htr:=h.red _ htm;have hset2:(l.2.2.set a (sK own s))[b]? =some l.2.2[b]:=by rw[jq l7];exact ht
  rw[show((s.1,s.2.1,s.2.2.1,s.2.2.2.1,Uc s own):A7)=sK own s from rfl];rw[show s.2.1=(b:Int)from hb,hb];simp only[F7,ht,o8,hg,a0w htn hm htr,hst,hset2,D8];rfl
 .rw[Y9 l7,o6,if_neg l7];rfl
theorem b7Y:vM=some true:=by decide+kernel
variable {t:Int×Int}
theorem a7b{en:List jA}(h:vty t en=true):1<=t.1/\t.1<=6:=by
 unfold vty at h;cases h1:x8 t.1 6<;>rw[h1]at h
 .rw[o6]at h;cases h2:L8 1 t.1<;>rw[h2]at h
  .cases h
  rw[o7]at h;cases h3:L8 t.1 5<;>rw[h3]at h
  .cases h
  have:=iQ.1 h2;have:=iQ.1 h3;omega
 .have:=O5.1 h1;omega
theorem b0S(hr:s.2.2.2.2[k]? =some r)(h:NG s k r=false):dA s k<(k:Int):=by
 have e:dA s k=r.2.2.1:=by unfold dA;rw[hr]
 unfold NG at h;rw[←e]at h;cases h1:x8 (dA s k) (-1)<;>rw[h1]at h
 .rw[o6]at h;cases h2:E8 (dA s k) 0<;>rw[h2]at h
  .rw[o6]at h;cases h3:L8 (k:Int) (dA s k)<;>rw[h3]at h
   .exact Bl.1 h3
   .cases h
  .cases h
 .have:=O5.1 h1;omega
theorem b1A{m:Int}(h:xQ l i m=false):m<(i:Int):=by
 unfold xQ at h;cases h1:x8 m (-1)<;>rw[h1]at h
 .rw[o6]at h;cases h2:E8 m 0<;>rw[h2]at h
  .rw[o6]at h;cases h3:L8 (i:Int) m<;>rw[h3]at h
   .exact Bl.1 h3
   .cases h
  .cases h
 .have:=O5.1 h1;omega
theorem RJ(h:(fB l).1=0)(hs:l.2.2[i]? =some s):RedOk s:=by
 refine⟨λk hk=>?_,λk r hr=>?_⟩
 .have hr:s.2.2.2.2[k]? =some s.2.2.2.2[k]:=bn hk;exact b0S hr (a4g (Kt h hs hr)).pa
 .obtain⟨d,hd,_⟩:=(a4g (Kt h hs hr)).df;refine⟨d,hd,?_⟩;obtain⟨h0,_⟩:=b3V (i:=a4Q r) hd;have hj:s.2.2.2.1[(a4Q r).toNat]? =some d:=by
   have h1:F9 s.2.2.2.1 (a4Q r)=some d:=hd;unfold F9 at h1;rw[if_pos h0]at h1;exact h1
  exact a7b (Yx h hs hj)
theorem a7P(h:(fB l).1=0)(hL:SmL l)(hT:∀t∈l.2.1,qO t):LenL l:=by refine⟨⟨by have:=hL.few.1;omega,λe he=>by have:=a9i h e he;omega⟩,⟨by have:=hL.few.2.1;omega,λt ht=>by have:=(hT t ht).1;omega⟩,by have:=hL.few.2.2;omega,λs hs=>?_⟩;have hm:=hL.sc s hs;have h1:=hm.ni;have h2:=hm.nd;have h3:=hm.nr;exact⟨l7,l7,l7,λr hr=>by have:=hm.ro r hr;exact⟨l7,l7⟩⟩
theorem a3n(h:(fB l).1=0)(hL:SmL l)(hT:∀t∈l.2.1,qO t):KeepOk l:=by
 refine⟨a7P h hL hT,λs hs=>?_,λs hs=>?_,λi s hs=>b1A (Jh h hs).1⟩
 .have:=(hL.sc s hs).nr;unfold nR;omega
 .obtain⟨i,hi,rfl⟩:=X7 hs;exact RJ h (bn hi)
theorem b1u(l:U6)(k:Int)(own mem:d1A):(KR l k own mem).1=l.1/\(KR l k own mem).2.1=l.2.1/\(KR l k own mem).2.2.length=l.2.2.length:=by
 unfold KR;split
 .split
  .refine⟨rfl,rfl,?_⟩;simp only;split
   .split<;>simp
   .simp
  .exact⟨rfl,rfl,rfl⟩
 .exact⟨rfl,rfl,rfl⟩
variable {β:Type}
def OW(eq:α->α->Bool)(l:List (α×β))(f:α->Option β):Prop:=∀k,a3w eq l k=(f k).isSome/\∀z,a5I eq l k z=(f k).getD z
theorem b1x(eq:α->α->Bool):OW eq ([]:List (α×β)) (λ_=>none):=λ_=>⟨rfl,λ_=>rfl⟩
theorem a2r{α β:Type}{eq:α->α->Bool}(hE:∀a b,eq a b=true↔a=b)(k:α)(x:β)(k' :α):∀(l:List (α×β)),Qj eq (SX eq l k x) k' =(l9 (eq k' k) true (Qj eq l k'))/\∀z,Qi eq (SX eq l k x) k' z=l9 (eq k' k) x (Qi eq l k' z)
 |[]=>by unfold SX;simp only[Qj,Qi];cases eq k' k<;>exact⟨rfl,λ_=>rfl⟩|p::r=>by
  have ih:=a2r hE k x k' r;unfold SX;cases hp:eq k p.1
  .simp only[cond_false,Qj,Qi];cases hq:eq k' p.1
   .simp only[cond_false];exact ih
   .simp only[cond_true];cases hk:eq k' k
    .exact⟨rfl,λ_=>rfl⟩
    .exfalso;have h1:=(hE _ _).1 hq;have h2:=(hE _ _).1 hk;rw[←h2,h1]at hp;rw[(hE p.1 p.1).2 rfl]at hp;cases hp
  .have hp' :=(hE _ _).1 hp;subst hp';simp only[cond_true,Qj,Qi];cases eq k' p.1<;>exact⟨rfl,λ_=>rfl⟩
variable {eq:α->α->Bool}
theorem b1y(hE:∀a b,eq a b=true↔a=b){l:List (α×β)}{f:α->Option β}(h:OW eq l f)(k:α)(x:β):
  OW eq (N_ eq l k x) (λk' =>l9 (eq k' k) (some x) (f k')):=λk' =>by
 obtain⟨h1,h2⟩:=a2r hE k x k' l;obtain⟨g1,g2⟩:=h k';refine⟨?_,λz=>?_⟩
 .show Qj eq (SX eq l k x) k' =_;rw[h1,show Qj eq l k' =_ from g1];show _=(l9 (eq k' k) (some x) (f k')).isSome;cases eq k' k<;>rfl
 .show Qi eq (SX eq l k x) k' z=_;rw[h2 z,show Qi eq l k' z=_ from g2 z];show _=(l9 (eq k' k) (some x) (f k')).getD z;cases eq k' k<;>rfl
theorem OW.has{l:List (α×β)}{f:α->Option β}(h:OW eq l f)(k:α):a3w eq l k=(f k).isSome:=(h k).1
theorem OW.get{l:List (α×β)}{f:α->Option β}(h:OW eq l f)(k:α)(z:β):a5I eq l k z=(f k).getD z:=(h k).2 z
theorem OW.congr{l:List (α×β)}{f g:α->Option β}(h:OW eq l f)(e:∀k,f k=g k):OW eq l g:=λk=>by rw[←e k];exact h k
def eK(x:Y0):Int:=x.1
def eD(x:Y0):Int:=x.2.1
def eM(x:Y0):Int:=x.2.2.1
def eI(x:Y0):Int:=x.2.2.2.1
def eR(x:Y0):Int:=x.2.2.2.2.1
def W_(x:Y0):Bool:=x8 (eK x) 1&&x8 (eM x) (-1)
def F_(x:Y0):Bool:=x8 (eK x) 1&&L8 0 (eM x)
def vO(a:List Y0):d1A:=(a.filter W_).map eR
def yQ(a:List Y0):d1A:=(a.filter F_).map eR
def usG(b:d1A×d1A)(x:Y0):d1A×d1A:=(bif W_ x then b.1++[eR x]else b.1,bif F_ x then b.2++[eR x]else b.2)
theorem a6W:∀(a:List Y0) (b:d1A×d1A),a.foldl usG b=(b.1++vO a,b.2++yQ a)
 |[],b=>by simp[vO,yQ]|x::a,b=>by rw[P6,a6W a];unfold usG vO yQ;cases h1:W_ x<;>cases h2:F_ x<;>simp[h1,h2]
def snG(b:d1A×d1A)(x:Y0):d1A×d1A:=(bif W_ x then ins (eR x) b.1 else b.1,bif F_ x then ins (eR x) b.2 else b.2)
theorem a6C:∀(a:List Y0) (b:d1A×d1A),a.foldl snG b=(Em (vO a) b.1,Em (yQ a) b.2)
 |[],b=>rfl|x::a,b=>by rw[P6,a6C a];unfold snG vO yQ;cases h1:W_ x<;>cases h2:F_ x<;>simp[h1,h2,Em]
theorem a6M{l:d1A}(h:l.length<=1000000):∃x,zi l=some x/\oH x=some (ja l):=by
 have e:=b0F h;cases hs:zi l with
 |none=>rw[hs]at e;cases e|some x=>rw[hs]at e;exact⟨x,rfl,e⟩
theorem b4M(a:List Y0):(vO a).length<=a.length/\(yQ a).length<=a.length:=by unfold vO yQ;rw[H7,H7];exact⟨aJ _ _,aJ _ _⟩
theorem b9o(b:d1A×d1A)(x:Y0)(h:b.1.length<=i/\b.2.length<=i):(usG b x).1.length<=i+1/\(usG b x).2.length<=i+1:=by
 unfold usG;obtain⟨h1,h2⟩:=h;constructor
 .cases W_ x
  .show b.1.length<=_;omega
  .show(b.1++[eR x]).length<=_;rw[F5];show _+1<=_;omega
 .cases F_ x
  .show b.2.length<=_;omega
  .show(b.2++[eR x]).length<=_;rw[F5];show _+1<=_;omega
theorem b9j(b:d1A×d1A)(x:Y0)(h:b.1.length<=i/\b.2.length<=i):(snG b x).1.length<=i+1/\(snG b x).2.length<=i+1:=by
 unfold snG;obtain⟨h1,h2⟩:=h;constructor
 .cases W_ x
  .show b.1.length<=_;omega
  .show(ins (eR x) b.1).length<=_;have:=tZ (eR x) b.1;omega
 .cases F_ x
  .show b.2.length<=_;omega
  .show(ins (eR x) b.2).length<=_;have:=tZ (eR x) b.2;omega
theorem a4h{a:List Y0}(h:a.length<=400000):yX a=some (ja (vO a),ja (yQ a)):=by
 unfold yX;refine dI a usG (λ(b:d1A×d1A) i=>(b.1,b.2,i)) (λb=>b) (λi b=>b.1.length<=i/\b.2.length<=i) ([],[]) l7 ⟨E9 _,E9 _⟩ (λi x b hx hi hb=>⟨?_,b9o b x hb⟩) (λb hb=>?_) (λhb=>?_)
 .simp only[J7 hx,o7,F7,hx,o8];unfold usG W_ F_;show l9 (F8 (x8 (eK x) 1)) _ (l9 (x8 (eM x) (-1)) _ (l9 (L8 0 (eM x)) _ _))=_;cases h1:x8 (eK x) 1
  .rw[aW,o7,Y4 l7];rfl
  .rw[E5,o6];cases h2:x8 (eM x) (-1)
   .rw[o6];cases h3:L8 0 (eM x)
    .rw[o6,Y4 l7];rfl
    .rw[o7,fQ _ l7,o8,Y4 l7];rfl
   .have h3:L8 0 (eM x)=false:=Y9 (by have:=O5.1 h2;omega);rw[o7,h3,fQ _ l7,o8,Y4 l7];rfl
 .simp only[J6,o6]
 .rw[a6W];obtain⟨g1,g2⟩:=b4M a;obtain⟨x,x1,x2⟩:=a6M (l:=vO a) l7;obtain⟨y,y1,y2⟩:=a6M (l:=yQ a) l7;simp only[G6];rw[x1,o8,y1,o8,x2,o8,y2,o8]
theorem Vt{l:d1A}(n:Int)(hl:l.length<=1000000):yf l n=some (ins n l):=by
 unfold yf;refine dI l (NY n) (λb i=>(b.1,b.2,i)) (λb=>b) (λi b=>b.1.length<=i+1/\(b.2=false->b.1.length<=i)) (([],false):d1A×Bool) hl x9 (λi a b ha hi hI=>?_) (λb hI=>?_) (λh2=>?_)
 .obtain⟨o,d⟩:=b;simp only at hI;simp only[J7 ha,o7,F7,ha,o8];rw[Y4 l7];cases d
  .simp only[aW,o7,NY,o6];have:=hI.2 rfl;cases L8 n a
   .rw[o6,fQ a (show o.length<=1000000 by omega)];exact⟨rfl,by simp<;>omega,by simp<;>omega⟩
   .rw[o7];cases E8 n a
    .rw[o6,fQ a (show o.length<=1000000 by omega)];exact⟨rfl,by simp<;>omega,x9⟩
    .rw[o7,fQ n (show o.length<=1000000 by omega),o8,uy Z5];exact⟨rfl,by simp<;>omega,x9⟩
  .simp only[E5,o6,NY,o7];rw[uy Z5];exact⟨rfl,by simp<;>omega,x9⟩
 .simp only[J6];rfl
 .have hf:=a7L n l [];generalize l.foldl (NY n) ([],false)=b at*;obtain⟨o,d⟩:=b;cases d
  .simp only[o6,G6]at hf;simp only[aW,o7];rw[fQ _ (by simp at h2;omega),hf];rfl
  .simp only[o7,G6]at hf;simp only[E5,o6,hf]
theorem a1w{a:List Y0}(h:a.length<=400000):CV a=some (ja (vO a),ja (yQ a)):=by
 unfold CV;refine dI a snG (λ(b:d1A×d1A) i=>(b.1,b.2,i)) (λb=>b) (λi b=>b.1.length<=i/\b.2.length<=i) ([],[]) l7 ⟨E9 _,E9 _⟩ (λi x b hx hi hb=>⟨?_,b9j b x hb⟩) (λb hb=>?_) (λhb=>?_)
 .simp only[J7 hx,o7,F7,hx,o8];unfold snG W_ F_;show o5 (l9 (x8 (eK x) 1) (l9 (x8 (eM x) (-1)) (o5 (yf b.1 (eR x)) _) _) _) (λ(x_2:d1A)=>l9 (x8 (eK x) 1) (l9 (L8 0 (eM x)) (o5 (yf b.2 (eR x)) _) _) _)=_;rw[Vt (eR x) (show b.1.length<=1000000 by omega),Vt (eR x) (show b.2.length<=1000000 by omega)];simp only[o8];rw[Y4 (show i<=9000000000000000000 by omega)];cases x8 (eK x) 1<;>cases x8 (eM x) (-1)<;>cases L8 0 (eM x)<;>rfl
 .simp only[J6,o6]
 .rw[a6C];rfl
def kq(a b:F6):Bool:=iV (x8 a.1 b.1) (x8 a.2 b.2)
theorem TK(a b:F6):kq a b=true↔a=b:=by unfold kq iV;rw[A8,O5,O5];exact⟨λh=>fH h.1 h.2,λh=>by subst h;exact⟨rfl,rfl⟩⟩
def c3o(a b:V8):Bool:=iV (x8 a.1 b.1) (iV (x8 a.2.1 b.2.1) (x8 a.2.2 b.2.2))
theorem b7O(a b:V8):c3o a b=true↔a=b:=by unfold c3o iV;rw[A8,A8,O5,O5,O5];exact⟨λh=>fH h.1 (fH h.2.1 h.2.2),λh=>by subst h;exact⟨rfl,rfl,rfl⟩⟩
abbrev a4X(x:Y0):F6:=(x.2.2.1,x.2.2.2.1)
abbrev YF(x:Y0):V8:=x.2.2.2.2.2
def b3k(x:Y0):Bool:=!(E8 x.1 1)&&!(E8 5 x.1)&&!(E8 x.2.2.2.1 0)&&!(E8 x.2.2.1 (-1))
abbrev EM:=List (F6×V8)
def Yq(pre:List Y0)(x:Y0)(same:Bool):Bool:=pre.any λy=>x8 y.1 1&&x8 y.2.2.1 x.2.2.1&&x8 y.2.2.2.1 x.2.2.2.1&&(!same || c3o (YF y) (YF x))
def c0E(q x:Y0):Bool:=!(E8 x.2.1 1)&&(bif E8 q.2.1 x.2.1 then x8 (L6 .i64 x.2.1 1) q.2.1&&x8 q.1 1 else true)
def okR(pre:List Y0)(x:Y0):Bool:=b3k x&&(bif x8 x.1 1 then !(E8 x.2.2.2.2.1 0)&&!(Yq pre x false)else x8 x.2.2.2.2.1 (-1))&&(bif x8 x.1 5 then Yq pre x true else true)&&
 (match pre.getLast? with|none=>x8 x.2.1 0&&x8 x.1 1|some q=>c0E q x)
def wfR:List Y0->List Y0->Bool
 |_,[]=>true|pre,x::l=>okR pre x&&wfR (pre++[x]) l
structure MInvE (pre:List Y0) (m:EM):Prop where
 ex:∃f:F6->Option V8,OW kq m f/\∀k v,f k=some v↔∃y∈pre,eK y=1/\a4X y=k/\YF y=v
theorem b6B{pre:List Y0}{x:Y0}{same:Bool} :Yq pre x same=true↔∃y∈pre,eK y=1/\a4X y=a4X x/\(same=true->YF y=YF x):=by
 unfold Yq;simp only[Y6,A8,kD,b7O];constructor
 .rintro⟨y,hy,⟨⟨h1,h2⟩,h3⟩,h4⟩;refine⟨y,hy,O5.1 h1,fH (O5.1 h2) (O5.1 h3),λhs=>?_⟩;rcases h4 with h4|h4
  .rw[hs]at h4;cases h4
  .exact h4
 .rintro⟨y,hy,h1,h2,h3⟩;refine⟨y,hy,⟨⟨O5.2 h1,O5.2 (Prod.mk.inj h2).1⟩,O5.2 (Prod.mk.inj h2).2⟩,?_⟩;cases same
  .exact .inl rfl
  .exact .inr (h3 rfl)
theorem a6X(h:(fB l).1=0):∀e∈l.1,e.2.length≠0:=by
 intro e he;unfold fB at h;cases h1:x8 (zy l).1 0<;>rw[h1]at h
 .simp only[o6]at h;rw[N9 h]at h1;cases h1
 have h1:=O5.1 h1;unfold zy at h1;cases h2:E8 8 (o9 l.1)<;>rw[h2]at h1
 case true=>exact absurd (show(4:Int)=0 from h1) G7
 simp only[o6]at h1;obtain⟨i,hi,e1⟩:=X7 he;have hn:=g_ (n:=l.1.length) (p:=GU l) (λr hf=>by
  rw[hf]at h1;obtain⟨j,_,hj⟩:=iP hf;unfold GU at hj;split at hj
  .exact Rh hj h1
  .cases hj) i hi
 unfold GU at hn;rw[bn hi,e1]at hn;have hz:=a1S hn;unfold SN at hz;cases g1:DY e.1<;>rw[g1]at hz
 .exact absurd (show(2:Int)=0 from hz) G7
 cases g2:Bh l 1 i e.1<;>rw[g2]at hz
 case true=>exact absurd (show(7:Int)=0 from hz) G7
 cases g3:x8 (o9 e.2) 0<;>rw[g3]at hz
 case true=>exact absurd (show(5:Int)=0 from hz) G7
 have:=yO.1 g3;unfold o9 at this;omega
theorem b1e(h:(fB l).1=0):l.1.length<=8:=by
 unfold fB at h;cases h1:x8 (zy l).1 0<;>rw[h1]at h
 .simp only[o6]at h;rw[N9 h]at h1;cases h1
 have h1:=O5.1 h1;unfold zy at h1;cases h2:E8 8 (o9 l.1)<;>rw[h2]at h1
 case true=>exact absurd (show(4:Int)=0 from h1) G7
 exact jW (n:=8) h2
theorem b1r{a b:Int}(h:kP (a*b)):az .i64 a b=a*b:=nK h
theorem b8J(hv:vty t sg.1=true)(he:∀e∈sg.1,e.2.length≠0)(hn:sg.1.length<=8):xW (Jw t) [] sg=some (t,0):=by
 obtain⟨k,e⟩:=t;unfold vty at hv;unfold Jw;cases h6:x8 k 6
 .simp only[h6]at hv ⊢;simp only[o6]at hv ⊢;cases h1:L8 1 k<;>rw[h1]at hv
  .cases hv
  cases h5:L8 k 5<;>rw[h5]at hv
  .cases hv
  have e0:e=0:=O5.1 hv;subst e0;have g1:=iQ.1 h1;have g2:=iQ.1 h5;have hc:k=1\/k=2\/k=3\/k=4\/k=5:=l7;rcases hc with rfl|rfl|rfl|rfl|rfl<;>rfl
 .have ek:=O5.1 h6;subst ek;simp only[h6]at hv ⊢;simp only[o7]at hv ⊢;cases h1:L8 0 e<;>rw[h1]at hv
  .cases hv
  have g1:=iQ.1 h1;have g2:e<o9 sg.1:=jF.1 hv;have hl:e<(sg.1.length:Int):=g2;rw[b1r U7,ai U7,Int.add_zero];have hq:dM .i64 (16*e) 16=e:=by rw[zC (by rw[Int.mul_tdiv_cancel_left _ G7];unfold kP;omega),Int.mul_tdiv_cancel_left _ G7]
  have hr:fC (16*e) 16=0:=by rw[zD l7];omega
  have h0:L8 0 (16*e)=true:=Y3 l7;obtain⟨x,hx⟩:∃x,F9 sg.1 e=some x:=⟨sg.1[e.toNat]'l7,by unfold F9;rw[if_pos g1];exact bn _⟩;have hxm:x∈sg.1:=by unfold F9 at hx;rw[if_pos g1]at hx;exact kw hx
  have hxl:=he x hxm;have hrr:RR (6,16*e) [] sg=some ((6,e),0):=by
   have a1:mg (6,16*e) sg=some (L8 0 (16*e)):=rfl;have a2:qy (6,16*e) sg=l9 (E8 (dM .i64 (16*e) 16) (o9 sg.1)) (o5 (F9 sg.1 (dM .i64 (16*e) 16)) λ(x:jA)=>some (E8 (fC (16*e) 16) (o9 x.2))) (some false):=rfl;have a3:mP (6,16*e) sg=o5 (eF (6,dM .i64 (16*e) 16) sg.1) λ(b:Bool)=>some ((6,dM .i64 (16*e) 16),b):=rfl;unfold RR;rw[a1,h0,o8,E5,o6,a2,hq,U8 g2,o7,hx,o8,hr,U8 (show(0:Int)<o9 x.2 by unfold o9;omega),o8,E5,o6];rw[show x8 (o9 ([]:List (Int×Int))) 0=true from rfl,o7,a3,hq,jJ,o8,o8];have hv2:vty (6,e) sg.1=true:=by unfold vty;show l9 (L8 0 e) (E8 e (o9 sg.1)) false=true;rw[h1,o7,U8 g2]
   rw[hv2];rfl
  rw[b2U];cases x8 (16*e) 0
  .rw[aW,o7,show fZ 6=some true from rfl,o8,o7];exact hrr
  .rw[E5,o6];exact hrr
theorem a0J{n:Int×Int}(h:1<=n.1/\n.1<=6):mF [n]= .inr (.l0 n):=by obtain⟨k,e⟩:=n;obtain⟨h1,h2⟩:=h;have h1:1<=k:=h1;have h2:k<=6:=h2;have hc:k=1\/k=2\/k=3\/k=4\/k=5\/k=6:=l7;rcases hc with rfl|rfl|rfl|rfl|rfl|rfl<;>rfl
theorem Ro(h:1<=t.1/\t.1<=6):1<=(Jw t).1/\(Jw t).1<=6:=by
 unfold Jw;cases x8 t.1 6
 .exact h
 .exact⟨by show(1:Int)<=6;decide,by show(6:Int)<=6;decide⟩
theorem b7Q(hv:vty t sg.1=true)(he:∀e∈sg.1,e.2.length≠0)(hn:sg.1.length<=8):Fv [Jw t] sg t=0:=by
 have h:kY [Jw t] sg=(t,0,0):=by
  unfold kY;rw[a0J (Ro (a7b hv))];have hres:IL (Jw t) [] sg=(t,0):=by unfold IL;rw[b8J hv he hn];rfl
  show(match EC sg (Jw t) [] 0 with| .inl x=>((0,0),x)| .inr r=>(r,0,0))=_;unfold EC;rw[hres];rfl
 unfold Fv;rw[h];show l9 (x8 0 0) (l9 (iV (x8 t.1 t.1) (x8 t.2 t.2)) 0 8) 0=0;rw[N9 rfl,N9 rfl,N9 rfl];rfl
theorem a9j :Fv [(1,0)] sg (1,0)=0:=by
 have h:kY [(1,0)] sg=((1,0),0,0):=by unfold kY;rw[a0J ⟨G7,G7⟩];rfl
 unfold Fv;rw[h];rfl
theorem a9W{i p:Nat}(hi:gG s ks i=true)(hp:upP s i=some p):gG s ks p=true:=by unfold gG at hi ⊢;obtain⟨r,hr,h1⟩:=Y6.1 hi;rw[A8]at h1;exact Y6.2 ⟨r,hr,by rw[A8];exact⟨h1.1,GX.2 (b7L s _ i (GX.1 h1.2) p hp)⟩⟩
theorem Vu(hr:s.2.2.2.2[i]? =some r):(rK s ks i).1=r.1/\(rK s ks i).2.1=r.2.1/\(rK s ks i).2.2.1=rP s ks (dA s i)/\(rK s ks i).2.2.2.1=r.2.2.2.1/\(rK s ks i).2.2.2.2.1=r.2.2.2.2.1/\(rK s ks i).2.2.2.2.2.2.2=r.2.2.2.2.2.2.2:=by unfold rK;rw[hr];simp only;split<;>exact⟨rfl,rfl,rfl,rfl,rfl,rfl⟩
theorem b5C(hr:s.2.2.2.2[i]? =some r):((rK s ks i).2.2.2.2.2.1=r.2.2.2.2.2.1/\(rK s ks i).2.2.2.2.2.2.1=r.2.2.2.2.2.2.1)\/((rK s ks i).2.2.2.2.2.1=[(1,0)]/\(rK s ks i).2.2.2.2.2.2.1=[Jw (Py s r.2.1)]):=by
 unfold rK;rw[hr];simp only;split
 .exact .inl ⟨rfl,rfl⟩
 .exact .inr ⟨rfl,rfl⟩
theorem a3X(hi:i<nR s)(hk:gG s ks i=true):(Uc s ks)[dE (gG s ks) i]? =some (rK s ks i):=by unfold Uc;rw[I8,CE _ hi hk];rfl
theorem a9I(s:A7)(ks:d1A)(d:Int):∀i,i<=nR s->Ig ((onL (gG s ks) i).map (rK s ks)) d<=Ig (s.2.2.2.2.take i) d
 |0,_=>by simp[onL,Ig]|i+1,hi=>by
  have ih:=a9I s ks d i l7;have hlt:i<s.2.2.2.2.length:=by show i<nR s;omega
  have hr:s.2.2.2.2[i]? =some s.2.2.2.2[i]:=bn hlt;rw[EE,bY,U3 hlt];unfold Ig at ih ⊢;rw[qK,qK];cases gG s ks i
  .simp only[cond_false,vK,List.countP_nil];omega
  .simp only[cond_true,jv,vK];have e:List.countP (λ(o:Z7)=>x8 o.2.1 d) [rK s ks i]=List.countP (λ(o:Z7)=>x8 o.2.1 d) [s.2.2.2.2[i]]:=by
    simp only[yP,List.countP_nil,(Vu (ks:=ks) hr).2.1]
   rw[e];omega
theorem a8w(hV:∀(j:Nat) (r:Z7),s.2.2.2.2[j]? =some r->RuleV s sg j r)(hd:∀d,d∈s.2.2.2.1->vty d.2 sg.1=true)(he:∀e∈sg.1,e.2.length≠0)(hn:sg.1.length<=8)
  {i:Nat} (hi:i<nR s) (hk:gG s ks i=true):RuleV (sK ks s) sg (dE (gG s ks) i) (rK s ks i):=by
 have hr:s.2.2.2.2[i]? =some s.2.2.2.2[i]:=bn hi;have h:=hV i _ hr;generalize hrr:s.2.2.2.2[i]=r at*;obtain⟨e1,e2,e3,e4,e5,e6⟩:=Vu (ks:=ks) hr;have htake:(sK ks s).2.2.2.2.take (dE (gG s ks) i)=(onL (gG s ks) i).map (rK s ks):=by show((onL (gG s ks) (nR s)).map (rK s ks)).take _=_;rw[←Dj,b4A _ l7]
 obtain⟨d,d1,d2⟩:=h.df;refine⟨by rw[e1];exact h.id,?_,⟨d,by rw[e2];exact d1,?_⟩,?_,by rw[e4];exact h.p0,by rw[e4];exact h.p9,by rw[e5];exact h.dv,by rw[e5];exact h.ne,?_,by rw[e6];exact h.sr⟩
 .rw[htake,eP];intro x hx;obtain⟨j,hj,rfl⟩:=U0.1 hx;obtain⟨j1,_⟩:=LV _ hj;have hjl:j<s.2.2.2.2.length:=by show j<nR s;omega
  have hrj:s.2.2.2.2[j]? =some s.2.2.2.2[j]:=bn hjl;have:=eP.1 h.nm s.2.2.2.2[j] (xh.2 ⟨j,l7,rfl⟩);rw[(Vu (ks:=ks) hrj).1,e1];exact this
 .rcases b5C (ks:=ks) hr with⟨x1,x2⟩|⟨x1,x2⟩
  .unfold PW at d2 ⊢;rw[x1,x2];exact d2
  .have ht:Py s r.2.1=d.2:=by unfold Py;rw[d1]
   unfold PW;rw[x1,x2,ht,a9j,b7Q (hd d (by
    have:=d1;unfold F9 at this;split at this
    .exact kw this
    .cases this)) he hn]
   rfl
 .unfold NG;rw[e3];have hpa:=h.pa;unfold NG at hpa;have hpe:dA s i=r.2.2.1:=by unfold dA;rw[hr]
  rw[←hpe]at hpa;unfold rP;cases h1:x8 (dA s i) (-1)<;>rw[h1]at hpa
  .rw[o6]at hpa;cases h2:E8 (dA s i) 0<;>rw[h2]at hpa
   case true=>cases hpa
   rw[o6]at hpa;cases h3:L8 (i:Int) (dA s i)<;>rw[h3]at hpa
   case true=>cases hpa
   rw[o6]at hpa;have g2:=iE.1 h2;have g3:=Bl.1 h3;obtain⟨p,hp⟩:∃p:Nat,dA s i=(p:Int):=⟨(dA s i).toNat,l7⟩;have hup:upP s i=some p:=by unfold upP;rw[if_pos ⟨g2,g3⟩,hp,D8]
   have hpk:=a9W hk hup;have hpi:p<i:=XB hup;have hlt:=a7m hpi hpk;rw[if_pos g2];have hnew:a3z s ks (dA s i)=(dE (gG s ks) p:Int):=by unfold a3z;rw[if_pos ⟨g2,l7⟩,hp,D8];unfold a3y;rw[if_pos hpk]
   rw[hnew,O9 (show((dE (gG s ks) p:Nat):Int)≠-1 by omega),N7 (show(0:Int)<=(dE (gG s ks) p:Nat) by omega),Y9 (show((dE (gG s ks) p:Nat):Int)<((dE (gG s ks) i:Nat):Int) by omega)];simp only[o6];rw[F7,show(sK ks s).2.2.2.2[dE (gG s ks) p]? =some (rK s ks p)from a3X l7 hpk];have hpl:p<s.2.2.2.2.length:=by show p<nR s;omega
   have hrp:s.2.2.2.2[p]? =some s.2.2.2.2[p]:=bn hpl;simp only;rw[(Vu (ks:=ks) hrp).2.1,e2];rw[hp,F7,hrp]at hpa;exact hpa
  .have g1:=O5.1 h1;rw[if_neg l7,g1];rfl
 .rw[htake];have h1:=a9I s ks r.2.1 i l7;have h2:=h.ct;rw[Bl]at h2 ⊢;rw[e2];omega
abbrev THd:=d1C×Int×List jB×List jB
def hdS(s:A7):THd:=(s.1,s.2.1,s.2.2.1,s.2.2.2.1)
structure KL (l l' :U6):Prop where
 en:l'.1=l.1
 tb:l'.2.1=l.2.1
 ln:l'.2.2.length=l.2.2.length
 sc:∀(i:Nat) (s:A7),l.2.2[i]? =some s->∃t,l'.2.2[i]? =some t/\(t=s\/∃ks,t=sK ks s)
variable {l':U6}
theorem KL.hd(h:KL l l'):l'.2.2.map hdS=l.2.2.map hdS:=by
 apply bu;intro i;rw[I8,I8];cases hs:l.2.2[i]? with
 |none=>have h1:=pG.1 hs;rw[bQ (by rw[h.ln];exact h1)]
 |some s=>obtain⟨t,ht,hts⟩:=h.sc i s hs;rw[ht];rcases hts with rfl|⟨ks,rfl⟩<;>rfl
theorem b3c(L:List A7)(n:d1C):(L.any λx=>seq x.1 n)=(L.map hdS).any λx=>seq x.1 n:=by rw[List.any_map];rfl
theorem a0M(h:KL l l')(kind k:Nat)(n:d1C):Bh l' kind k n=Bh l kind k n:=by
 unfold Bh;rw[h.en,h.tb];split
 .rfl
 .rfl
 .rw[b3c,b3c,Dj,Dj,h.hd]
theorem b3U(h:KL l l')(i:Int):(F9 l'.2.2 i).map hdS=(F9 l.2.2 i).map hdS:=by rw[←a5x,←a5x,h.hd]
theorem b1z(h:KL l l')(i:Nat)(m:Int):xQ l' i m=xQ l i m:=by
 have e:=b3U h m;unfold xQ;cases h1:F9 l.2.2 m with
 |none=>
  rw[h1]at e;cases h2:F9 l'.2.2 m with
  |none=>rfl|some q=>rw[h2]at e;cases e
 |some p=>
  rw[h1]at e;cases h2:F9 l'.2.2 m with
  |none=>rw[h2]at e;cases e|some q=>rw[h2]at e;have e:hdS q=hdS p:=I9 e;have e2:q.2.1=p.2.1:=congrArg (λx:THd=>x.2.1) e;simp only;rw[e2]
theorem c1B(h:KL l l'){s t:A7}(hh:hdS t=hdS s):BO l' t=BO l s:=by
 have e1:t.2.1=s.2.1:=congrArg (λx:THd=>x.2.1) hh;have e2:t.2.2.1=s.2.2.1:=congrArg (λx:THd=>x.2.2.1) hh;have e3:t.2.2.2.1=s.2.2.2.1:=congrArg (λx:THd=>x.2.2.2) hh;unfold BO;rw[e1,e2,e3,h.en,h.tb];by_cases hm:0<=s.2.1
 .rw[if_pos hm,if_pos hm];have e:(l'.2.2[s.2.1.toNat]?).map hdS=(l.2.2[s.2.1.toNat]?).map hdS:=by rw[←I8,←I8,h.hd]
  cases h1:l.2.2[s.2.1.toNat]? with
  |none=>
   rw[h1]at e;cases h2:l'.2.2[s.2.1.toNat]? with
   |none=>rfl|some q=>rw[h2]at e;cases e
  |some p=>
   rw[h1]at e;cases h2:l'.2.2[s.2.1.toNat]? with
   |none=>rw[h2]at e;cases e|some q=>rw[h2]at e;have e:hdS q=hdS p:=I9 e;have e4:q.2.2.2.1=p.2.2.2.1:=congrArg (λx:THd=>x.2.2.2) e;simp only;rw[e4]
 .rw[if_neg hm,if_neg hm]
theorem b1g(h:KL l l'){s t:A7}(hh:hdS t=hdS s):wP l' t=wP l s:=by
 have e2:t.2.2.1=s.2.2.1:=congrArg (λx:THd=>x.2.2.1) hh;have e3:t.2.2.2.1=s.2.2.2.1:=congrArg (λx:THd=>x.2.2.2) hh;have a1:inP l' t=inP l s:=by funext i;unfold inP;rw[e2,h.en]
 have a2:YD l' t=YD l s:=by funext i;unfold YD;rw[e2,e3,h.en]
 unfold wP;rw[a1,a2,e2,e3]
theorem VA{n:Int×Int}(h:1<=n.1/\n.1<=6):(jD [n]).2.1=[]:=by unfold jD Nk;have e:x8 n.1 8=false:=O9 l7;simp only[bK,e,vJ];rfl
theorem b2g(hR:RedOk s)(hr:s.2.2.2.2[i]? =some r){n x:Int}(hx:x∈zM n (rK s ks i)):x∈zM n r:=by
 rcases b5C (ks:=ks) hr with⟨x1,x2⟩|⟨x1,x2⟩
 .unfold zM at hx ⊢;rw[x1,x2]at hx;exact hx
 .exfalso;unfold zM at hx;obtain⟨d,d1,d2,d3⟩:=hR.df i r hr;have ht:Py s r.2.1=d.2:=by unfold Py;rw[show F9 s.2.2.2.1 r.2.1=some d from d1]
  rw[x1,x2,VA (n:=(1,0)) ⟨G7,G7⟩,ht,VA (Ro ⟨d2,d3⟩)]at hx;cases hx
theorem b3A(hR:RedOk s) :∀x∈O6 (sK ks s) d,x∈O6 s d:=by
 intro x hx;unfold O6 at hx ⊢;have hn:nD (sK ks s)=nD s:=rfl;rw[hn]at hx;cases hq:inD (nD s) d<;>rw[hq]at hx
 .simp at hx
 .obtain⟨r,hr,h1,h2⟩:=WU.1 ((jk _ _).1 hx);obtain⟨i,hi,rfl⟩:=U0.1 (show r∈(onL (gG s ks) (nR s)).map (rK s ks)from hr);obtain⟨i1,_⟩:=LV _ hi;have hri:s.2.2.2.2[i]? =some s.2.2.2.2[i]:=bn i1;rw[(Vu (ks:=ks) hri).2.1]at h1;exact(jk _ _).2 (WU.2 ⟨s.2.2.2.2[i],G8 i1,h1,b2g hR hri h2⟩)
theorem b2G(hR:RedOk s) :∀x∈bC (sK ks s) d,x∈bC s d:=by obtain⟨_,a2,a3,_⟩:=pR s d;obtain⟨_,_,_,b4⟩:=pR (sK ks s) d;exact λx hx=>b4 (λz=>z∈bC s d) (λy hy=>a2 y (b3A hR y hy)) (λy hy z hz=>a3 y hy z (b3A hR z hz)) x hx
theorem b6A(h:(fB l).1=0)(hk:KL l l'){s t:A7}(hs:l.2.2[i]? =some s)(hts:t=s\/∃ks,t=sK ks s):(Fb l' i t).1=0:=by
 have hz:=a6Y h hs;have hp:=(Jh h hs).2;have hac:=Kr h hs;have hh:hdS t=hdS s:=by rcases hts with rfl|⟨ks,rfl⟩<;>rfl
 have e0:t.1=s.1:=congrArg (λx:THd=>x.1) hh;have e1:t.2.1=s.2.1:=congrArg (λx:THd=>x.2.1) hh;have e2:t.2.2.1=s.2.2.1:=congrArg (λx:THd=>x.2.2.1) hh;have e3:t.2.2.2.1=s.2.2.2.1:=congrArg (λx:THd=>x.2.2.2) hh;have hsg:=c1B hk hh;have hff:=b1g hk hh;unfold Fb at hz ⊢;rw[a0M hk,b1z hk,e0,e1,e2,e3];have hparts:(Ht l s).1=0->(Ht l' t).1=0:=by
  intro hp;have hf:wP l s=none:=by
   unfold Ht at hp;cases h1:wP l s with
   |some q=>rw[h1]at hp;exact absurd hp (GV h1)|none=>rfl
  rcases hts with rfl|⟨ks,rfl⟩
  .have hr:FI l' t=FI l t:=by funext k;unfold FI;rw[hsg]
   unfold Ht at hp ⊢;rw[hff,hr];exact hp
  .have hR:=RJ h hs;have hV:∀(j:Nat) (r:Z7),s.2.2.2.2[j]? =some r->RuleV s (BO l s) j r:=λj r hr=>a4g (Kt h hs hr);have hs1:=(b0B l s).1;unfold Ht;rw[hff,hf];simp only;have hr:ay (sK ks s).2.2.2.2.length (FI l' (sK ks s))=none:=by
    unfold ay;rw[dH];intro j hj;have hj:j<((onL (gG s ks) (nR s)).map (rK s ks)).length:=P8.1 hj;rw[H7]at hj;have hk2:(onL (gG s ks) (nR s))[j]? =some (onL (gG s ks) (nR s))[j]:=bn hj;obtain⟨k1,k2⟩:=LV _ (G8 hj);have hcj:dE (gG s ks) (onL (gG s ks) (nR s))[j]=j:=IZ (Qn _ _) (CE _ k1 k2) hk2;have hv:=a8w (sg:=BO l s) (ks:=ks) hV (λd hd=>by obtain⟨q,hq,rfl⟩:=X7 hd;rw[hs1];exact Yx h hs (bn hq)) (by rw[hs1];exact a6X h) (by rw[hs1];exact b1e h) k1 k2
    rw[hcj]at hv;have hrj:(sK ks s).2.2.2.2[j]? =some (rK s ks (onL (gG s ks) (nR s))[j]):=by have:=a3X (ks:=ks) k1 k2;rw[hcj]at this;exact this
    unfold FI;rw[hrj];simp only;rw[hsg,hv.zero];rfl
   rw[hr];simp only;have hc:ay (sK ks s).2.2.2.1.length (UE (sK ks s))=none:=by
    unfold ay;rw[dH];intro j hj;have hj:j<s.2.2.2.1.length:=P8.1 hj;unfold UE;have e:((bC (sK ks s) (j:Int)).any λx=>x8 (j:Int) x)=false:=by rw[eP];intro x hx hq;have hx2:=b2G hR x hx;rw[←O5.1 hq]at hx2;exact hac (j:Int) l7 (by unfold nD o9;omega) hx2
    rw[e];rfl
   rw[hc]
 cases g1:DY s.1<;>rw[g1]at hz
 .exact absurd (show(2:Int)=0 from hz) G7
 cases g2:Bh l 3 i s.1<;>rw[g2]at hz
 case true=>exact absurd (show(7:Int)=0 from hz) G7
 cases g3:xQ l i s.2.1<;>rw[g3]at hz
 case true=>exact absurd (show(6:Int)=0 from hz) G7
 cases g4:E8 12 (o9 s.2.2.1)<;>rw[g4]at hz
 case true=>exact absurd (show(4:Int)=0 from hz) G7
 cases g5:E8 12 (o9 s.2.2.2.1)<;>rw[g5]at hz
 case true=>exact absurd (show(4:Int)=0 from hz) G7
 simp only[o7,o6];exact hparts hp
theorem b7P(h:(fB l).1=0)(hk:KL l l'):(fB l').1=0:=by
 have h0:=h;unfold fB at h0;cases h1:x8 (zy l).1 0<;>rw[h1]at h0
 .simp only[o6]at h0;rw[N9 h0]at h1;cases h1
 cases h2:x8 (Fp l).1 0<;>rw[h2]at h0
 .simp only[o7,o6]at h0;rw[N9 h0]at h2;cases h2
 simp only[o7]at h0;have ee:zy l' =zy l:=by
  have:GU l' =GU l:=by
   funext i;unfold GU;rw[hk.en];cases l.1[i]? with
   |none=>rfl|some e=>simp only;unfold SN;rw[a0M hk]
  unfold zy;rw[this,hk.en]
 have et:Fp l' =Fp l:=by
  have:JZ l' =JZ l:=by
   funext i;unfold JZ;rw[hk.tb];cases l.2.1[i]? with
   |none=>rfl|some t=>simp only;unfold Xy;rw[a0M hk,hk.en]
  unfold Fp;rw[this,hk.tb]
 have es:(OJ l').1=0:=by
  unfold OJ at h0 ⊢;rw[show o9 l'.2.2=o9 l.2.2 by unfold o9;rw[hk.ln]];cases g:E8 4 (o9 l.2.2)<;>rw[g]at h0
  case true=>exact absurd (show(4:Int)=0 from h0) G7
  simp only[o6];have hn2:ay l'.2.2.length (Hy l')=none:=by
   unfold ay;rw[dH];intro j hj;have hj:j<l.2.2.length:=by rw[←hk.ln];exact P8.1 hj
   have e:=bn hj;obtain⟨t,ht,hts⟩:=hk.sc j _ e;unfold Hy;rw[ht];simp only;unfold Su;rw[N9 (b6A h hk e hts)];rfl
  rw[hn2]
 unfold fB;rw[ee,h1];simp only[o7];rw[et,h2];exact es
theorem b8k(k:Int)(own mem:d1A)(hm:∀(i:Nat) (s:A7),l.2.2[i]? =some s->Iq s<(i:Int)):KL l (KR l k own mem):=by
 obtain⟨e1,e2,e3⟩:=b1u l k own mem;refine⟨e1,e2,e3,λi s hs=>?_⟩;have hi:=(X6.1 hs).1;unfold KR;by_cases h:0<=k/\k<o9 l.2.2
 .rw[if_pos h];obtain⟨a,rfl⟩:∃a:Nat,k=(a:Int):=⟨k.toNat,l7⟩;have ha:a<l.2.2.length:=by have:=h.2;unfold o9 at this;omega
  rw[D8];have hq:l.2.2[a]? =some l.2.2[a]:=bn ha;rw[hq];simp only;have one:∃t,(l.2.2.set a (sK own l.2.2[a]))[i]? =some t/\(t=s\/∃ks,t=sK ks s):=by
   by_cases e:a=i
   .subst e;rw[hs]at hq;cases hq;exact⟨_,cZ ha,.inr ⟨own,rfl⟩⟩
   .exact⟨s,by rw[jq e];exact hs,.inl rfl⟩
  split
  .rename_i h2;split
   .rename_i u hu;have hlt:=hm a _ hq;by_cases e:(Iq l.2.2[a]).toNat=i
    .subst e;rw[hs]at hu;cases hu;exact⟨_,cZ (by rw[ji];exact hi),.inr ⟨mem,rfl⟩⟩
    .rw[jq e];exact one
   .exact one
  .exact one
 .rw[if_neg h];exact⟨s,hs,.inl rfl⟩
theorem b9s(n:Int):kP (IntKind.wrap .i64 n):=by unfold kP IntKind.wrap;simp[IntKind.signed,IntKind.bits];omega
theorem b4e(t:Int×Int):kP (Jw t).2:=by
 unfold Jw;cases x8 t.1 6
 .show kP 0;unfold kP;omega
 .exact b9s _
theorem c7Q(hm:SmS s)(ks:d1A):SmS (sK ks s):=by
 refine⟨hm.nm,hm.ni,hm.nd,by have:=b5G s ks;have:=hm.nr;show(Uc s ks).length<=60;unfold nR at*;omega,hm.fo,λr hr=>?_⟩;obtain⟨i,hi,rfl⟩:=U0.1 (show r∈(onL (gG s ks) (nR s)).map (rK s ks)from hr);obtain⟨i1,_⟩:=LV _ hi;have hri:s.2.2.2.2[i]? =some s.2.2.2.2[i]:=bn i1;obtain⟨⟨a1,a2,a3,a4⟩,a5,a6⟩:=hm.ro _ (kw hri);obtain⟨e1,e2,e3,e4,e5,e6⟩:=Vu (ks:=ks) hri;rcases b5C (ks:=ks) hri with⟨x1,x2⟩|⟨x1,x2⟩
 .unfold Zi;rw[e1,e6,x1,x2];exact⟨⟨a1,a2,a3,a4⟩,a5,a6⟩
 .unfold Zi;rw[e1,e6,x1,x2];refine⟨⟨a1,a2,λn hn=>?_,λn hn=>?_⟩,x9,x9⟩
  .rw[D9.1 hn];show kP 0;unfold kP;omega
  .rw[D9.1 hn];exact b4e _
theorem b9D(hk:KL l l')(hL:SmL l):SmL l' :=by
 refine⟨?_,?_,?_,λt ht=>?_⟩
 .have:=hL.few;unfold Few at*;rw[hk.en,hk.tb,hk.ln];exact this
 .have:=hL.en;unfold a2R at*;rw[hk.en];exact this
 .have:=hL.tb;unfold Zk at*;rw[hk.tb];exact this
 .obtain⟨i,hi,rfl⟩:=X7 ht;have hi2:i<l.2.2.length:=by rw[←hk.ln];exact hi
  have hs:=bn hi2;obtain⟨u,hu,h⟩:=hk.sc i _ hs;rw[bn hi]at hu;have hu:=I9 hu;rw[hu];rcases h with h|⟨ks,h⟩
  .rw[h];exact hL.sc _ (G8 hi2)
  .rw[h];exact c7Q (hL.sc _ (G8 hi2)) ks
end
end Go.GP
