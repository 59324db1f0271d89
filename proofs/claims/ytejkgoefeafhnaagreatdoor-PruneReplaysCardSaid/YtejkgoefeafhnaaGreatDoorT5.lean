import Derived.Test.YtejkgoefeafhnaaGreatDoorT4
set_option linter.all false
namespace Go.GP
open Gt
set_option maxRecDepth 100000
section
def aK(n:Int):Int:=if n<0 then -n else n
def upS(q r d:Int)(neg:Bool)(mode:Int):Bool:=l9 (x8 r 0) false (l9 (x8 mode 0) neg (l9 (x8 mode 1) (F7 neg) (l9 (x8 mode 3) true (l9 (x8 mode 4) (L6 (d -r) r) (l9 (x8 mode 5) (l9 (D9 (d -r) r) true (l9 (x8 r (d -r)) (x8 (eX q 2) 1) false)) false)))))
def q1(q:Int)(u:Bool):Int:=l9 u (q+1) q
def sg(q:Int)(neg:Bool):Int:=l9 neg (-q) q
def ql(m:Int):Bool:=l9 (L6 0 m) (L6 m 5) false
theorem ER(m:Int):uM m=some (ql m):=by unfold uM ql;cases L6 0 m<;>rfl
theorem UU(m:Int):FP m=some (ql m):=ER m
theorem XJ(m:Int):Eo m=some (ql m):=ER m
def lH(n m:Int):Bool:=l9 (D9 m n) true (D9 n (-m))
variable {m:Int}
theorem yg(n:Int)(h0:0<=m)(h:m<=9000000000000000000):pV n m=some (lH n m):=by unfold pV lH;rw[X3 U4,show(0:Int) -m=-m by omega];cases D9 m n<;>rfl
theorem vX(n:Int)(h0:0<=m)(h:m<=9000000000000000000):jC n m=some (lH n m):=yg n h0 h
theorem Bi(n:Int)(h0:0<=m)(h:m<=9000000000000000000):zq n m=some (lH n m):=yg n h0 h
theorem zn(n:Int)(h0:0<=m)(h:m<=9000000000000000000):kP n m=some (lH n m):=yg n h0 h
variable {n:Int}
theorem rC(h:lH n m=false):-m<=n/\n<=m:=by
 unfold lH at h;cases h1:D9 m n<;>rw[h1]at h
 .rw[iM]at h1;simp only[o6]at h;rw[iM]at h;omega
 .cases h
theorem a6Q(h:lH n m=true):n< -m\/m<n:=by
 unfold lH at h;cases h1:D9 m n<;>rw[h1]at h
 .simp only[o6]at h;rw[jK]at h;omega
 .rw[jK]at h1;omega
theorem TW :lH n m=true↔n< -m\/m<n:=by
 constructor
 .exact a6Q
 .intro h;cases hq:lH n m
  .have:=rC hq;omega
  .rfl
theorem QB(h:-m<=n/\n<=m):lH n m=false:=by
 cases hq:lH n m
 .rfl
 .have:=a6Q hq;omega
theorem Eg(h:-9000000000000000000<=n)(h2:n<=9000000000000000000):oD n=some (aK n):=by
 unfold oD aK;by_cases h0:n<0
 .rw[U6 h0,if_pos h0,o7];congr 1;show IntKind.wrap .u64 (0 -IntKind.wrap .u64 n)=_;rw[BA,BA];omega
 .rw[N7 l7,if_neg h0,o6,show wrap .u64 n=n from Hm l7 l7]
theorem QV(h:-9000000000000000000<=n)(h2:n<=9000000000000000000):Ad n=some (aK n):=by
 unfold Ad aK;by_cases h0:n<0
 .rw[U6 h0,if_pos h0,X3 U4];simp
 .rw[N7 l7,if_neg h0];rfl
variable {q:Int}
theorem a2r(neg:Bool)(h0:0<=q)(h:q<=9000000000000000000):Ei q neg=some (sg q neg):=by unfold Ei sg;rw[show wrap .i64 q=q from oh U4,X3 U4,show(0:Int) -q=-q by omega];cases neg<;>rfl
theorem XO{q r d:Int}(neg:Bool)(mode:Int)(hq:0<=q)(hq2:q<=9000000000000000000)(hr:0<=r)(hrd:r<d)(hd:d<=9000000000000000000):qm q r d neg mode=some (q1 q (upS q r d neg mode)):=by
 unfold qm upS q1;rw[show C9 .u64 q 1=q+1 from Hm l7 l7,show J9 .u64 d r=d -r from Hm l7 l7];cases x8 r 0
 case true=>rfl
 cases x8 mode 0
 case true=>cases neg<;>rfl
 cases x8 mode 1
 case true=>cases neg<;>rfl
 cases x8 mode 3
 case true=>rfl
 cases x8 mode 4
 case true=>cases L6 (d -r) r<;>rfl
 cases x8 mode 5
 .rfl
 cases D9 (d -r) r
 case true=>rfl
 cases x8 r (d -r)
 .rfl
 cases x8 (eX q 2) 1<;>rfl
theorem a6d{q r d:Int}(neg:Bool)(mode:Int)(hr:0<=r)(hrd:r<d)(hd:d<=9000000000000000000):Gm q r d neg mode=some (upS q r d neg mode):=by
 unfold Gm upS;rw[show J9 .u64 d r=d -r from Hm l7 l7];cases x8 r 0
 case true=>rfl
 cases x8 mode 0
 case true=>rfl
 cases x8 mode 1
 case true=>rfl
 cases x8 mode 3
 case true=>rfl
 cases x8 mode 4
 case true=>rfl
 cases x8 mode 5
 .rfl
 cases D9 (d -r) r
 case true=>rfl
 cases x8 r (d -r)<;>rfl
theorem GK{q r d:Int}(neg:Bool)(mode:Int)(hq:0<=q)(hq2:q<=9000000000000000000)(hr:0<=r)(hrd:r<d)(hd:d<=9000000000000000000):nz q r d neg mode=some (sg (q1 q (upS q r d neg mode)) neg):=by
 unfold nz upS q1 sg;rw[ai (show kE (q+1) by unfold kE;omega),X3 (show kE (d -r) by unfold kE;omega),X3 (show kE (0 -(q+1)) by unfold kE;omega),X3 (show kE (0 -q) by unfold kE;omega),show(0:Int) -(q+1)=-(q+1) by omega,show(0:Int) -q=-q by omega];by_cases hz:r=0
 .rw[O5 hz,N7 (show r<=0 by omega),Y9 (show r<d -r by omega),N7 (show r<=d -r by omega),O8 (show r≠d -r by omega)];cases x8 mode 0<;>cases x8 mode 1<;>cases x8 mode 3<;>cases x8 mode 4<;>cases x8 mode 5<;>cases neg<;>rfl
 .rw[O8 hz,U6 (show 0<r by omega)];cases x8 mode 0
  case true=>cases neg<;>rfl
  cases x8 mode 1
  case true=>cases neg<;>rfl
  cases x8 mode 3
  case true=>cases neg<;>rfl
  cases x8 mode 4
  case true=>cases L6 (d -r) r<;>cases neg<;>rfl
  cases x8 mode 5
  .cases neg<;>rfl
  cases D9 (d -r) r
  case true=>cases neg<;>rfl
  cases x8 r (d -r)
  .cases neg<;>rfl
  cases x8 (eX q 2) 1<;>cases neg<;>rfl
theorem mJ(n:Int):0<=aK n:=by unfold aK;split<;>omega
theorem zU(h:-m<=n/\n<=m):aK n<=m:=by unfold aK;split<;>omega
theorem Pz(h:n≠0):0<aK n:=by unfold aK;split<;>omega
def rnd(n d mode:Int):Int:=sg (q1 (aK n / aK d) (upS (aK n / aK d) (aK n % aK d) (aK d) (F7 (jO (D9 n 0) (D9 d 0))) mode)) (F7 (jO (D9 n 0) (D9 d 0)))
def a6Y(n d mode:Int):Int×Int:=l9 (ql mode) (l9 (x8 d 0) (0,12) (l9 (lH n 4611686018427387904) (0,3) (l9 (lH d 4611686018427387904) (0,3) (rnd n d mode,0)))) (0,1)
theorem E_(q:Int)(u:Bool):q<=q1 q u/\q1 q u<=q+1:=by unfold q1;cases u<;>simp only[o7,o6]<;>omega
theorem Kt(n d mode:Int):jX n d mode=some (a6Y n d mode):=by
 unfold jX a6Y;rw[ER,o8];cases ql mode
 .rfl
 simp only[E5,o6,o7];cases hd:x8 d 0
 case true=>rfl
 rw[zh]at hd;simp only[o6];rw[yg n l7 l7,o8];cases h1:lH n 4611686018427387904
 case true=>rfl
 simp only[o6];rw[yg d l7 l7,o8];cases h2:lH d 4611686018427387904
 case true=>rfl
 have b1:=rC h1;have b2:=rC h2;have a1:=mJ n;have a2:=zU b1;have a3:=Pz hd;have a4:=zU b2;have e0:=Z4 a1 (show 0<=aK d by omega);have e1:=fA (aK d) a1;have e2:=V9 (aK n) (show aK d≠0 by omega);have e3:=U1 (aK n) a3;have q:=E_ (aK n / aK d) (upS (aK n / aK d) (aK n % aK d) (aK d) (F7 (jO (D9 n 0) (D9 d 0))) mode);simp only[o6];rw[Eg l7 l7,o8,Eg l7 l7,o8,QH a1 l7 a3,o8,CZ a1 a3,o8,XO _ _ e0 l7 e2 e3 l7,o8,a2r _ l7 l7];rfl
theorem yj{a b:Int}(ha:0<=a)(ha' :a<=9000000000000000000)(hb:0<b):qV .i64 a b=some (a / b):=by unfold qV;rw[if_neg l7,ku ha];have h1:=Z4 ha (show 0<=b by omega);have h2:=fA b ha;rw[oh U4]
theorem a3u(n d mode:Int):zt n d mode=some (a6Y n d mode):=by
 unfold zt a6Y;rw[UU,o8];cases ql mode
 .rfl
 simp only[E5,o6,o7];cases hd:x8 d 0
 case true=>rfl
 rw[zh]at hd;simp only[o6];rw[vX n l7 l7,o8];cases h1:lH n 4611686018427387904
 case true=>rfl
 simp only[o6];rw[vX d l7 l7,o8];cases h2:lH d 4611686018427387904
 case true=>rfl
 have b1:=rC h1;have b2:=rC h2;have a1:=mJ n;have a2:=zU b1;have a3:=Pz hd;have a4:=zU b2;have e0:=Z4 a1 (show 0<=aK d by omega);have e1:=fA (aK d) a1;have e2:=V9 (aK n) (show aK d≠0 by omega);have e3:=U1 (aK n) a3;simp only[o6];rw[QV l7 l7,o8,QV l7 l7,o8,yj a1 l7 a3,o8,CZ a1 a3,o8,GK _ _ e0 l7 e2 e3 l7];rfl
def toS(c u mode:Int):Int×Int:=l9 (ql mode) (l9 (D9 u 1) (0,12) (l9 (lH c 1000000000000000) (0,3) (l9 (D9 1000000000000000 u) (0,3) (l9 (lH (az .i64 (rnd c u mode) u) 1000000000000000) (0,3) (az .i64 (rnd c u mode) u,0))))) (0,1)
theorem a8c(c u mode:Int):Bh c u mode=some (toS c u mode):=by
 unfold Bh toS;rw[ER,o8];cases hm:ql mode
 .rfl
 simp only[E5,o6,o7];cases hu:D9 u 1
 case true=>rfl
 rw[iM]at hu;simp only[o6];rw[yg c l7 l7,o8];cases h1:lH c 1000000000000000
 case true=>rfl
 have b1:=rC h1;simp only[o6];cases h2:D9 1000000000000000 u
 case true=>rfl
 rw[iM]at h2;simp only[o6];have n1:lH c 4611686018427387904=false:=QB l7;have n2:lH u 4611686018427387904=false:=QB l7;rw[Kt,o8];unfold a6Y;rw[hm,O8 (show u≠0 by omega),n1,n2];simp only[o7,o6,O5 (rfl:(0:Int)=0),E5];rw[yg _ l7 l7,o8];cases lH (az .i64 (rnd c u mode) u) 1000000000000000<;>rfl
theorem a5O(c u mode:Int):Bj c u mode=some (toS c u mode):=by
 unfold Bj toS;rw[UU,o8];cases hm:ql mode
 .rfl
 simp only[E5,o6,o7];cases hu:D9 u 1
 case true=>rfl
 rw[iM]at hu;simp only[o6];rw[vX c l7 l7,o8];cases h1:lH c 1000000000000000
 case true=>rfl
 have b1:=rC h1;simp only[o6];cases h2:D9 1000000000000000 u
 case true=>rfl
 rw[iM]at h2;simp only[o6];have a1:=mJ c;have a2:=zU b1;have hu' :aK u=u:=by unfold aK;rw[if_neg l7]
 have e0:=Z4 a1 (show 0<=u by omega);have e1:=fA u a1;have e2:=V9 (aK c) (show u≠0 by omega);have e3:=U1 (aK c) (show 0<u by omega);rw[QV l7 l7,o8,yj a1 l7 l7,o8,CZ a1 l7,o8,GK _ _ e0 l7 e2 e3 l7,o8];have hr:sg (q1 (aK c / u) (upS (aK c / u) (aK c % u) u (D9 c 0) mode)) (D9 c 0)=rnd c u mode:=by unfold rnd;rw[hu',show F7 (jO (D9 c 0) (D9 u 0))=D9 c 0 by rw[N7 (show(0:Int)<=u by omega)];cases D9 c 0<;>rfl]
 rw[hr,vX _ l7 l7,o8];cases lH (az .i64 (rnd c u mode) u) 1000000000000000<;>rfl
def mdS(c num den mode:Int):Int×Int:=l9 (ql mode) (l9 (x8 den 0) (0,12) (l9 (lH c 1000000000000000) (0,3) (l9 (lH num 1000000000) (0,3) (l9 (lH den 1000000000) (0,3)
 (l9 (D9 1000000000000000 (q1 (aK c*aK num / aK den) (upS (aK c*aK num / aK den) (aK c*aK num % aK den) (aK den) (F7 (jO (F7 (jO (D9 c 0) (D9 num 0))) (D9 den 0))) mode))) (0,3)
  (sg (q1 (aK c*aK num / aK den) (upS (aK c*aK num / aK den) (aK c*aK num % aK den) (aK den) (F7 (jO (F7 (jO (D9 c 0) (D9 num 0))) (D9 den 0))) mode)) (F7 (jO (F7 (jO (D9 c 0) (D9 num 0))) (D9 den 0))),0)))))) (0,1)
theorem UC{a b:Int}(a0:0<=a)(a1:a<18446744073709551616)(b0:0<=b)(b1:b<18446744073709551616):wG a b=some (a*b / 18446744073709551616,a*b % 18446744073709551616):=by unfold wG;rw[if_pos ⟨a0,a1,b0,b1⟩]
theorem b1v(c num den mode:Int):Ie c num den mode=some (mdS c num den mode):=by
 unfold Ie mdS;rw[ER,o8];cases ql mode
 .rfl
 simp only[E5,o6,o7];cases hd:x8 den 0
 case true=>rfl
 rw[zh]at hd;simp only[o6];rw[yg c l7 l7,o8];cases h1:lH c 1000000000000000
 case true=>rfl
 rw[yg num l7 l7];cases h2:lH num 1000000000
 case true=>rfl
 rw[yg den l7 l7];cases h3:lH den 1000000000
 case true=>rfl
 have b1:=rC h1;have b2:=rC h2;have b3:=rC h3;have a1:=mJ c;have a2:=zU b1;have x1:=mJ num;have x2:=zU b2;have d1:=Pz hd;have d2:=zU b3;simp only[o6,o8,U0];rw[Eg l7 l7,o8,Eg l7 l7,o8,UC a1 l7 x1 l7,o8,Eg l7 l7,o8];have hA:0<=aK c*aK num:=X4 a1 x1;generalize aK c*aK num=A at*;generalize aK den=b at*;have hre:A / 18446744073709551616*18446744073709551616+A % 18446744073709551616=A:=l7;have q:=E_ (A / b) (upS (A / b) (A % b) b (F7 (jO (F7 (jO (D9 c 0) (D9 num 0))) (D9 den 0))) mode);have hdm:=Y4 A b;have e2:=V9 A (show b≠0 by omega);have e3:=U1 A d1;have e0:=Z4 hA (show 0<=b by omega);by_cases hh:b<=A / 18446744073709551616
 .have hge:18446744073709551616<=A / b:=sZ d1 l7;rw[Y5 hh,U6 (show(1000000000000000:Int)<q1 (A / b) (upS (A / b) (A % b) b (F7 (jO (F7 (jO (D9 c 0) (D9 num 0))) (D9 den 0))) mode) by omega)];rfl
 .rw[Y9 l7,o6,Zo l7 l7 l7 l7 l7,o8,hre];simp only;by_cases hM:1000000000000000<A / b
  .rw[U6 hM,U6 (show(1000000000000000:Int)<q1 (A / b) (upS (A / b) (A % b) b (F7 (jO (F7 (jO (D9 c 0) (D9 num 0))) (D9 den 0))) mode) by omega)];rfl
  .rw[N7 l7,o6,XO _ _ e0 l7 e2 e3 l7,o8];cases hq:D9 1000000000000000 (q1 (A / b) (upS (A / b) (A % b) b (F7 (jO (F7 (jO (D9 c 0) (D9 num 0))) (D9 den 0))) mode))
   .rw[iM]at hq;rw[o6,a2r _ l7 l7];rfl
   .rfl
theorem b3c(h:0<=q)(neg:Bool)(hm:0<=m):lH (sg q neg) m=D9 m q:=by rw[fO,TW,jK];unfold sg;cases neg<;>simp only[o7,o6]<;>omega
theorem a7U(c num den mode:Int):Ij c num den mode=some (mdS c num den mode):=by
 unfold Ij mdS;rw[UU,o8];cases ql mode
 .rfl
 simp only[E5,o6,o7];cases hd:x8 den 0
 case true=>rfl
 rw[zh]at hd;simp only[o6];rw[vX c l7 l7,o8];cases h1:lH c 1000000000000000
 case true=>rfl
 rw[vX num l7 l7];cases h2:lH num 1000000000
 case true=>rfl
 rw[vX den l7 l7];cases h3:lH den 1000000000
 case true=>rfl
 have b1:=rC h1;have b2:=rC h2;have b3:=rC h3;have a1:=mJ c;have a2:=zU b1;have x1:=mJ num;have x2:=zU b2;have d1:=Pz hd;have d2:=zU b3;simp only[o6,o8,U0];rw[QV l7 l7,o8,QV l7 l7,o8,QV l7 l7,o8];generalize F7 (jO (F7 (jO (D9 c 0) (D9 num 0))) (D9 den 0))=neg;generalize aK c=a at*;generalize aK num=x at*;generalize aK den=b at*;have hdm:=Y4 a b;have f0:=Z4 a1 (show 0<=b by omega);have f1:=V9 a (show b≠0 by omega);have f2:=U1 a d1;have m1:0<=a % b*x:=X4 f1 x1;have m2:a % b*x<=1000000000*1000000000:=kU l7 x2 x1 l7;have m3:0<=a / b*x:=X4 f0 x1;have hA:a*x=a / b*x*b+a % b*x:=by
  calc a*x=(a / b*b+a % b)*x:=by rw[hdm]
   _=_:=by rw[iT,jG]
 have hQ:a*x / b=a / b*x+a % b*x / b:=by rw[hA,Int.add_comm,bu _ _ l7,Int.add_comm]
 have hR:a*x % b=a % b*x % b:=by rw[hA,Int.add_comm,dh]
 have g0:=Z4 m1 (show 0<=b by omega);have g1:=fA b m1;have g2:=V9 (a % b*x) (show b≠0 by omega);have g3:=U1 (a % b*x) d1;have tail:a / b*x<=1000000000000000->(o5 (AL a b) λ(x_5:Int)=>o5 (some (a / b)) λ(x_8:Int)=>o5 (qV .i64 (az .i64 x_5 x) b) λ(x_6:Int)=>o5 (AL (az .i64 x_5 x) b) λ(x_7:Int)=>
   o5 (nz (C9 .i64 (az .i64 x_8 x) x_6) x_7 b neg mode) λ(x_9:Int)=>o5 (jC x_9 1000000000000000) λ(x_8:Bool)=>l9 x_8 (some ((0:Int),(3:Int))) (some (x_9,0)))=
   some (l9 (D9 1000000000000000 (q1 (a*x / b) (upS (a*x / b) (a*x % b) b neg mode))) (0,3) (sg (q1 (a*x / b) (upS (a*x / b) (a*x % b) b neg mode)) neg,0)):=by
  intro hle;have q:=E_ (a / b*x+a % b*x / b) (upS (a / b*x+a % b*x / b) (a % b*x % b) b neg mode);rw[CZ a1 d1,o8,o8,nI (show kE (a % b*x) by unfold kE;omega),yj m1 l7 d1,o8,CZ m1 d1,o8,nI (show kE (a / b*x) by unfold kE;omega),ai (show kE (a / b*x+a % b*x / b) by unfold kE;omega),
   GK _ _ l7 l7 g2 g3 l7,o8,vX _ l7 l7,o8,b3c l7 _ l7,hQ,hR]
  cases D9 1000000000000000 (q1 (a / b*x+a % b*x / b) (upS (a / b*x+a % b*x / b) (a % b*x % b) b neg mode))<;>rfl
 by_cases hx:0<x
 .rw[U6 hx,o7,yj a1 l7 d1,o8,yj l7 l7 hx,o8];have hMx:=Y4 1000000000000000 x;have hMr:=U1 1000000000000000 hx;have hMr0:=V9 1000000000000000 (show x≠0 by omega);by_cases hc:1000000000000000 / x<a / b
  .have:=U2 (show 1000000000000000 / x+1<=a / b by omega) x1;rw[iT,fP]at this;have q:=E_ (a*x / b) (upS (a*x / b) (a*x % b) b neg mode);rw[U6 hc,U6 (show(1000000000000000:Int)<q1 (a*x / b) (upS (a*x / b) (a*x % b) b neg mode) by omega)];rfl
  .have:=U2 (show a / b<=1000000000000000 / x by omega) x1;rw[N7 l7,o6];exact tail l7
 .have:x=0:=l7;rw[N7 l7,o6,yj a1 l7 d1];exact tail (by subst this;simp)
theorem b2U(c r mode:Int):Ju c r mode=some (mdS c r 1000000 mode):=by unfold Ju;rw[b1v];rfl
theorem b1Q(c r mode:Int):GM c r mode=some (mdS c r 1000000 mode):=by unfold GM;rw[a7U];rfl
variable {d:Int}
theorem a4R(h1:-9000000000000000000<=n)(h2:n<=9000000000000000000)(hd:0<d)(hd2:d<=9000000000000000000):zu n d=some (n / d,n % d):=by
 unfold zu qV AL;rw[if_neg l7,if_neg l7,o8,o8];by_cases h0:0<=n
 .have e0:=Z4 h0 (show 0<=d by omega);have e1:=fA d h0;have e2:=V9 n (show d≠0 by omega);rw[ku h0,fM h0,oh U4,N7 e2];rfl
 .obtain⟨m,hm⟩:∃m,m=-n:=⟨_,rfl⟩;have hn:n=-m:=l7;subst hn;have e0:=Z4 (show 0<=m by omega) (show 0<=d by omega);have e1:=fA d (show 0<=m by omega);have e2:=V9 m (show d≠0 by omega);have e3:=U1 m hd;have hdm:=Y4 m d;rw[Int.neg_tdiv,Int.neg_tmod,ku l7,fM l7,oh U4];by_cases hz:m % d=0
  .rw[hz,show -(0:Int)=0 from rfl,N7 l7,o6];have hme:-m=0+(-(m / d))*d:=by rw[kL];omega
   have q1:-m / d=-(m / d):=by rw[hme,bu _ _ l7];simp
   have q2:-m % d=0:=by rw[hme,dh];simp
   rw[q1,q2]
  .rw[U6 l7,o7,X3 U4,ai U4];have hme:-m=(d -m % d)+(-(m / d) -1)*d:=by rw[mM,kL,fP];omega
   have q1:-m / d=-(m / d) -1:=by rw[hme,bu _ _ l7,mX l7 l7];omega
   have q2:-m % d=d -m % d:=by rw[hme,dh,Int.emod_eq_of_lt l7 l7]
   rw[q1,q2,show -(m % d)+d=d -m % d by omega]
theorem KD(h:ql m=true):m=0\/m=1\/m=2\/m=3\/m=4\/m=5:=by
 unfold ql at h;cases h0:L6 0 m<;>rw[h0]at h
 .cases h
 .simp only[o7]at h;rw[jr]at h0 h;omega
variable {mode:Int}
theorem KP(h1:-9000000000000000000<=n / d)(h2:n / d<=9000000000000000000)(hd:0<d)(hd2:d<=9000000000000000000)(hm:ql mode=true):dH (n / d) (n % d) d mode=some (rnd n d mode):=by
 have hdm:=Y4 n d;have f0:=V9 n (show d≠0 by omega);have f1:=U1 n hd;have hid:aK d=d:=by unfold aK;rw[if_neg l7]
 have hneg:F7 (jO (D9 n 0) (D9 d 0))=D9 n 0:=by rw[N7 (show(0:Int)<=d by omega)];cases D9 n 0<;>rfl
 unfold rnd;rw[hid,hneg];have R0:∀F R:Int,dH F R d 0=l9 (x8 R 0) (some F) (some F):=λF R=>rfl;have R1:∀F R:Int,dH F R d 1=l9 (x8 R 0) (some F) (some (C9 .i64 F 1)):=λF R=>rfl;have R2:∀F R:Int,dH F R d 2=l9 (x8 R 0) (some F) (o5 (l9 (D9 F 0) (some true) (some false)) λx=>l9 x (some (C9 .i64 F 1)) (some F)):=λF R=>rfl;have R3:∀F R:Int,dH F R d 3=l9 (x8 R 0) (some F) (o5 (some (L6 0 F)) λx=>l9 x (some (C9 .i64 F 1)) (some F)):=λF R=>rfl;have R4:∀F R:Int,dH F R d 4=l9 (x8 R 0) (some F) (l9 (x8 R (J9 .i64 d R)) (l9 (L6 0 F) (some (C9 .i64 F 1)) (some F)) (l9 (D9 (J9 .i64 d R) R) (some (C9 .i64 F 1)) (some F))):=λF R=>rfl;have R5:∀F R:Int,dH F R d 5=l9 (x8 R 0) (some F) (l9 (x8 R (J9 .i64 d R)) (l9 (F7 (x8 (eX F 2) 0)) (some (C9 .i64 F 1)) (some F)) (l9 (D9 (J9 .i64 d R) R) (some (C9 .i64 F 1)) (some F))):=λF R=>rfl;have u0:∀q r:Int,∀b,upS q r d b 0=l9 (x8 r 0) false b:=λq r b=>rfl;have u1:∀q r:Int,∀b,upS q r d b 1=l9 (x8 r 0) false (F7 b):=λq r b=>rfl;have u2:∀q r:Int,∀b,upS q r d b 2=l9 (x8 r 0) false false:=λq r b=>rfl;have u3:∀q r:Int,∀b,upS q r d b 3=l9 (x8 r 0) false true:=λq r b=>rfl;have u4:∀q r:Int,∀b,upS q r d b 4=l9 (x8 r 0) false (L6 (d -r) r):=λq r b=>rfl;have u5:∀q r:Int,∀b,upS q r d b 5=l9 (x8 r 0) false (l9 (D9 (d -r) r) true (l9 (x8 r (d -r)) (x8 (eX q 2) 1) false)):=λq r b=>rfl;by_cases h0:0<=n
 .have e0:=Z4 h0 (show 0<=d by omega);have e1:=fA d h0;rw[show aK n=n by unfold aK;rw[if_neg l7],N7 h0];have hi:C9 .i64 (n / d) 1=n / d+1:=ai U4;have hs:J9 .i64 d (n % d)=d -n % d:=X3 U4;have hir:eX (n / d) 2=(n / d) % 2:=Bf e0;generalize n / d=F at*;generalize n % d=R at*;rcases KD hm with rfl|rfl|rfl|rfl|rfl|rfl
  .rw[R0,u0];cases x8 R 0<;>rfl
  .rw[R1,u1,hi];cases x8 R 0<;>rfl
  .rw[R2,u2,hi,N7 e0];cases x8 R 0<;>rfl
  .rw[R3,u3,hi,Y5 e0];cases x8 R 0<;>rfl
  .rw[R4,u4,hi,hs,Y5 e0];cases x8 R 0
   case true=>rfl
   by_cases ht:R=d -R
   .rw[O5 ht,Y5 (show d -R<=R by omega)];rfl
   .rw[O8 ht];by_cases hl:d -R<R
    .rw[U6 hl,Y5 (show d -R<=R by omega)];rfl
    .rw[N7 (show R<=d -R by omega),Y9 (show R<d -R by omega)];rfl
  .rw[R5,u5,hi,hs,hir];cases x8 R 0
   case true=>rfl
   by_cases ht:R=d -R
   .rw[O5 ht,N7 (show R<=d -R by omega)];by_cases hp:F % 2=0
    .rw[O5 hp,O8 (show F % 2≠1 by omega)];rfl
    .rw[O8 hp,O5 (show F % 2=1 by omega)];rfl
   .rw[O8 ht];by_cases hl:d -R<R
    .rw[U6 hl];rfl
    .rw[N7 (show R<=d -R by omega)];rfl
 .obtain⟨m,hmm⟩:∃m,m=-n:=⟨_,rfl⟩;have e0:=Z4 (show 0<=m by omega) (show 0<=d by omega);have e1:=fA d (show 0<=m by omega);have e2:=V9 m (show d≠0 by omega);have e3:=U1 m hd;have hdm2:=Y4 m d;rw[show aK n=m by unfold aK;rw[if_pos l7];omega,U6 l7];by_cases hz:m % d=0
  .have hne:n=0+(-(m / d))*d:=by rw[kL];omega
   have q1:n / d=-(m / d):=by rw[hne,bu _ _ l7];simp
   have q2:n % d=0:=by rw[hne,dh];simp
   rw[q1,q2,hz];rcases KD hm with rfl|rfl|rfl|rfl|rfl|rfl<;>rfl
  .have hne:n=(d -m % d)+(-(m / d) -1)*d:=by rw[mM,kL,fP];omega
   have q1:n / d=-(m / d) -1:=by rw[hne,bu _ _ l7,mX l7 l7];omega
   have q2:n % d=d -m % d:=by rw[hne,dh,Int.emod_eq_of_lt l7 l7]
   rw[q1]at h1 h2;rw[q1,q2];generalize m / d=q at*;generalize m % d=r at*;have hi:C9 .i64 (-q -1) 1=-q:=by rw[ai U4];omega
   have hs:J9 .i64 d (d -r)=r:=by rw[X3 U4];omega
   have hF:∀k:Int,Go.GP.q1 q false=q/\Go.GP.q1 q true=q+1:=λk=>⟨rfl,rfl⟩;have sg1:sg (Go.GP.q1 q true) true=-q -1:=by show -(q+1)=-q -1;omega
   have sg0:sg (Go.GP.q1 q false) true=-q:=rfl;have hr0:x8 (d -r) 0=false:=O8 l7;have hr1:x8 r 0=false:=O8 hz;rcases KD hm with rfl|rfl|rfl|rfl|rfl|rfl
   .rw[R0,u0,hr0,hr1,o6,o6,sg1]
   .rw[R1,u1,hi,hr0,hr1,o6,o6,E5,sg0]
   .rw[R2,u2,hi,hr0,hr1,o6,o6,sg0,U6 l7];rfl
   .rw[R3,u3,hi,hr0,hr1,o6,o6,sg1,Y9 l7];rfl
   .rw[R4,u4,hi,hs,hr0,hr1,o6,o6,Y9 (show -q -1<0 by omega)];by_cases ht:d -r=r
    .rw[O5 ht,Y5 (show d -r<=r by omega),sg1];rfl
    .rw[O8 ht];by_cases hl:r<d -r
     .rw[U6 hl,Y9 hl,sg0];rfl
     .rw[N7 (show d -r<=r by omega),Y5 (show d -r<=r by omega),sg1];rfl
   .rw[R5,u5,hi,hs,hr0,hr1,o6,o6];by_cases ht:d -r=r
    .rw[O5 ht,N7 (show r<=d -r by omega),O5 ht.symm];have hodd:eX (-q -1) 2=-((q+1) % 2):=by
      unfold eX;rw[show -q -1=-(q+1) by omega,Int.neg_tmod,fM l7]
     have hir:eX q 2=q % 2:=Bf e0;rw[hodd,hir];simp only[o7,o6];by_cases hp:q % 2=1
     .rw[O5 (show -((q+1) % 2)=0 by omega),O5 hp,sg1];rfl
     .rw[O8 (show -((q+1) % 2)≠0 by omega),O8 hp,sg0];rfl
    .rw[O8 ht,O8 (show r≠d -r by omega)];by_cases hl:r<d -r
     .rw[U6 hl,N7 (show r<=d -r by omega)];simp only[o7,o6];rw[sg0]
     .rw[N7 (show d -r<=r by omega),U6 (show d -r<r by omega)];simp only[o7,o6];rw[sg1]
def b0s(a b mode:Int):Int×Int:=l9 (ql mode) (l9 (lH a 1000000000) (0,3) (l9 (lH b 1000000000) (0,3) (l9 (lH (rnd (a*b) 1000000 mode) 1000000000) (0,3) (rnd (a*b) 1000000 mode,0)))) (0,1)
theorem b0h{a b A B:Int}(h1:-A<=a/\a<=A)(h2:-B<=b/\b<=B):-(A*B)<=a*b/\a*b<=A*B:=by
 have hA:0<=A:=l7;have hB:0<=B:=l7;have k1:a*b<=A*B/\-(A*B)<=a*b:=by
  rcases Rx a 0 with ha|ha
  .have e:a*b=-((-a)*b):=by rw[kL];omega
   rcases Rx b 0 with hb|hb
   .have e2:a*b=(-a)*(-b):=by rw[Int.neg_mul_neg]
    have:=kU (show -a<=A by omega) (show -b<=B by omega) l7 hA;have:=X4 (show 0<=-a by omega) (show 0<=-b by omega);have:=X4 hA hB;omega
   .have:=kU (show -a<=A by omega) h2.2 hb hA;have:=X4 (show 0<=-a by omega) hb;have:=X4 hA hB;omega
  .rcases Rx b 0 with hb|hb
   .have e:a*b=-(a*(-b)):=by rw[Int.mul_neg];omega
    have:=kU h1.2 (show -b<=B by omega) l7 hA;have:=X4 ha (show 0<=-b by omega);have:=X4 hA hB;omega
   .have:=kU h1.2 h2.2 hb hA;have:=X4 ha hb;have:=X4 hA hB;omega
 exact⟨k1.2,k1.1⟩
theorem b9e(a b mode:Int):PT a b mode=some (b0s a b mode):=by
 unfold PT b0s;rw[XJ,o8];cases hm:ql mode
 .rfl
 simp only[E5,o6,o7];rw[Bi a l7 l7,o8];cases h1:lH a 1000000000
 case true=>rfl
 simp only[o6];rw[Bi b l7 l7,o8];cases h2:lH b 1000000000
 case true=>rfl
 simp only[o6];have pb:=b0h (rC h1) (rC h2);rw[nI U4,Kt,o8];unfold a6Y;rw[hm,O8 (show(1000000:Int)≠0 by decide),QB l7,QB l7];simp only[o7,o6,O5 (rfl:(0:Int)=0),E5];rw[Bi _ l7 l7,o8];cases lH (rnd (a*b) 1000000 mode) 1000000000<;>rfl
theorem a5r{A B:Option (PUnit⊕(Int×Int))} :l9 (D9 m 0) A (l9 (D9 5 m) A B)=l9 (ql m) B A:=by unfold ql;rw[rH m 0,rH 5 m];cases L6 0 m<;>cases L6 m 5<;>rfl
theorem b5u(a b mode:Int):ML a b mode=some (b0s a b mode):=by
 unfold ML b0s;have hmode:∀A B:Option (Int×Int),l9 (D9 mode 0) A (l9 (D9 5 mode) A B)=l9 (ql mode) B A:=λA B=>by unfold ql;rw[rH mode 0,rH 5 mode];cases L6 0 mode<;>cases L6 mode 5<;>rfl
 rw[hmode];cases hm:ql mode
 .rfl
 simp only[o7];rw[zn a l7 l7,o8];cases h1:lH a 1000000000
 case true=>rfl
 simp only[o6];rw[zn b l7 l7,o8];cases h2:lH b 1000000000
 case true=>rfl
 simp only[o6];have pb:=b0h (rC h1) (rC h2);rw[nI U4,a4R l7 l7 l7 l7,o8];simp only;rw[KP l7 l7 l7 l7 hm,o8,zn _ l7 l7,o8];cases lH (rnd (a*b) 1000000 mode) 1000000000<;>rfl
theorem a8b(mode:Int)(hd:0<d):n / d<=rnd n d mode/\rnd n d mode<=n / d+1:=by
 have hid:aK d=d:=by unfold aK;rw[if_neg l7]
 have hneg:F7 (jO (D9 n 0) (D9 d 0))=D9 n 0:=by rw[N7 (show(0:Int)<=d by omega)];cases D9 n 0<;>rfl
 unfold rnd;rw[hid,hneg];by_cases h0:0<=n
 .rw[show aK n=n by unfold aK;rw[if_neg l7],N7 h0];exact E_ _ _
 .obtain⟨m,hmm⟩:∃m,m=-n:=⟨_,rfl⟩;have e2:=V9 m (show d≠0 by omega);have e3:=U1 m hd;have hdm2:=Y4 m d;rw[show aK n=m by unfold aK;rw[if_pos l7];omega,U6 l7];have hq:=E_ (m / d) (upS (m / d) (m % d) d true mode);by_cases hz:m % d=0
  .have hne:n=0+(-(m / d))*d:=by rw[kL];omega
   have q1:n / d=-(m / d):=by rw[hne,bu _ _ l7];simp
   have hu:upS (m / d) (m % d) d true mode=false:=by unfold upS;rw[O5 hz];rfl
   rw[q1,hu];show -(m / d)<=-(m / d)/\-(m / d)<=-(m / d)+1;omega
  .have hne:n=(d -m % d)+(-(m / d) -1)*d:=by rw[mM,kL,fP];omega
   have q1:n / d=-(m / d) -1:=by rw[hne,bu _ _ l7,mX l7 l7];omega
   rw[q1];show -(m / d) -1<=-(Go.GP.q1 _ _)/\-(Go.GP.q1 _ _)<=_;omega
theorem b9f(n d mode:Int)(hd:d<0):rnd n d mode=rnd (-n) (-d) mode:=by
 have e1:aK (-n)=aK n:=by unfold aK;split<;>split<;>omega
 have e2:aK (-d)=aK d:=by unfold aK;rw[if_neg l7,if_pos hd]
 unfold rnd;rw[e1,e2,U6 hd,N7 (show 0<=-d by omega)];by_cases h0:n=0
 .subst h0;have hz:aK 0=0:=rfl;rw[hz,Int.zero_ediv,Int.zero_emod];have hu:∀b,upS 0 0 (aK d) b mode=false:=λb=>rfl;rw[hu,hu];rfl
 .by_cases h1:n<0
  .rw[U6 h1,N7 (show 0<=-n by omega)];rfl
  .rw[N7 l7,U6 (show -n<0 by omega)];rfl
def b8S(num den mode:Int):Int×Int:=l9 (ql mode) (l9 (x8 den 0) (0,12) (l9 (lH num 1000000000000000) (0,3) (l9 (lH den 1000000000000000) (0,3) (l9 (lH (rnd (num*1000000) den mode) 1000000000) (0,3) (rnd (num*1000000) den mode,0))))) (0,1)
theorem Ul(h:-9000000000000000000<=n)(h2:n<=9000000000000000000):wrap .u64 (pO n (J9 .i64 0 n))=aK n:=by
 rw[X3 U4];unfold pO aK;by_cases h0:n<0
 .rw[if_pos l7,if_pos h0,show(0:Int) -n=-n by omega];exact Hm l7 l7
 .rw[if_neg h0];by_cases hz:n=0
  .subst hz;rfl
  .rw[if_neg l7];exact Hm l7 l7
theorem a2R(num den mode:Int):zo num den mode=some (b8S num den mode):=by
 unfold zo b8S;rw[XJ,o8];cases hm:ql mode
 .rfl
 simp only[E5,o6,o7];cases hd:x8 den 0
 case true=>rfl
 rw[zh]at hd;simp only[o6];rw[Bi num l7 l7,o8];cases h1:lH num 1000000000000000
 case true=>rfl
 simp only[o6];rw[Bi den l7 l7,o8];cases h2:lH den 1000000000000000
 case true=>rfl
 simp only[o6];have b1:=rC h1;have b2:=rC h2;have a1:=mJ num;have a2:=zU b1;have d1:=Pz hd;have d2:=zU b2;rw[Ul l7 l7,Ul l7 l7,UC a1 l7 l7 l7,o8];have hN:aK (num*1000000)=aK num*1000000:=by unfold aK;split<;>split<;>omega
 have hsgn:D9 (num*1000000) 0=D9 num 0:=by
  by_cases h:num<0
  .rw[U6 h,U6 l7]
  .rw[N7 l7,N7 l7]
 have hA:0<=aK num*1000000:=l7;have hrn:rnd (num*1000000) den mode=sg (q1 (aK num*1000000 / aK den) (upS (aK num*1000000 / aK den) (aK num*1000000 % aK den) (aK den) (F7 (jO (D9 num 0) (D9 den 0))) mode)) (F7 (jO (D9 num 0) (D9 den 0))):=by unfold rnd;rw[hN,hsgn]
 rw[hrn];have hA2:aK num*1000000<18446744073709551616*1000:=l7;generalize aK num*1000000=A at*;generalize aK den=b at*;generalize F7 (jO (D9 num 0) (D9 den 0))=neg at*;have hre:A / 18446744073709551616*18446744073709551616+A % 18446744073709551616=A:=l7;have q:=E_ (A / b) (upS (A / b) (A % b) b neg mode);have e0:=Z4 hA (show 0<=b by omega);have e2:=V9 A (show b≠0 by omega);have e3:=U1 A d1;rw[b3c l7 _ l7];by_cases hh:b<=A / 18446744073709551616
 .have hge:18446744073709551616<=A / b:=sZ d1 l7;rw[Y5 hh,U6 (show(1000000000:Int)<q1 (A / b) (upS (A / b) (A % b) b neg mode) by omega)];rfl
 .rw[Y9 l7,o6,Zo l7 l7 l7 l7 l7,o8,hre];simp only;by_cases hM:1000000000<A / b
  .rw[U6 hM,U6 (show(1000000000:Int)<q1 (A / b) (upS (A / b) (A % b) b neg mode) by omega)];rfl
  .have w1:wrap .i64 (A / b)=A / b:=oh U4;have w2:C9 .i64 (A / b) 1=A / b+1:=ai U4;have w3:J9 .i64 0 (A / b+1)=-(A / b+1):=by rw[X3 U4];omega
   have w4:J9 .i64 0 (A / b)=-(A / b):=by rw[X3 U4];omega
   rw[N7 l7,o6,a6d _ _ e2 e3 l7,o8,w1,w2,w3,w4];unfold Go.GP.q1 sg;cases upS (A / b) (A % b) b neg mode
   .simp only[o6];cases D9 1000000000 (A / b)<;>cases neg<;>rfl
   .simp only[o7];cases D9 1000000000 (A / b+1)<;>cases neg<;>rfl
theorem L_(h1:-1000000000000000<=n)(h2:n<=1000000000000000)(hd:0<d)(hd2:d<=1000000000000000)(hm:ql mode=true):
  (o5 (zu n d) λ(x:Int×Int)=>o5 (kP x.1 1001) λ(x_1:Bool)=>l9 x_1 (some ((0:Int),(3:Int))) (o5 (qV .i64 (az .i64 x.2 1000) d) λ(x_2:Int)=>o5 (AL (az .i64 x.2 1000) d) λ(x_3:Int)=>
   o5 (qV .i64 (az .i64 x_3 1000) d) λ(x_4:Int)=>o5 (AL (az .i64 x_3 1000) d) λ(x_5:Int)=>o5 (dH (C9 .i64 (C9 .i64 (az .i64 x.1 1000000) (az .i64 x_2 1000)) x_4) x_5 d mode) λ(x:Int)=>
    o5 (kP x 1000000000) λ(x_6:Bool)=>l9 x_6 (some (0,3)) (some (x,0))))=some (l9 (lH (rnd (n*1000000) d mode) 1000000000) (0,3) (rnd (n*1000000) d mode,0)):=by
 have hdm:=Y4 n d;have r0:=V9 n (show d≠0 by omega);have r1:=U1 n hd;have hrb:=a8b (n:=n*1000000) mode hd;rw[a4R l7 l7 hd l7,o8];simp only;rw[zn _ l7 l7,o8];have hN:n*1000000=n % d*1000000+(n / d*1000000)*d:=by rw[jG];omega
 have hF:n*1000000 / d=n % d*1000000 / d+n / d*1000000:=by rw[hN,bu _ _ l7]
 have hR:n*1000000 % d=n % d*1000000 % d:=by rw[hN,dh]
 have s0:0<=n % d*1000000 / d:=Z4 l7 l7;have s1:n % d*1000000 / d<1000000:=nJ hd l7;cases hb:lH (n / d) 1001
 case true=>have hbb:=a6Q hb;have:lH (rnd (n*1000000) d mode) 1000000000=true:=TW.2 l7;rw[this];rfl
 have bb:=rC hb;simp only[o6];generalize n % d=r at*;generalize n / d=q at*;have t1:az .i64 r 1000=r*1000:=nI U4;have e1:=Y4 (r*1000) d;have e2:=V9 (r*1000) (show d≠0 by omega);have e3:=U1 (r*1000) hd;have e4:=Z4 (show 0<=r*1000 by omega) (show 0<=d by omega);have e5:r*1000 / d<1000:=nJ hd l7;rw[t1,yj l7 l7 hd,o8,CZ l7 hd,o8];generalize hr1:r*1000 % d=r1 at*;generalize ha:r*1000 / d=a at*;have t2:az .i64 r1 1000=r1*1000:=nI U4;have f1:=Y4 (r1*1000) d;have f2:=V9 (r1*1000) (show d≠0 by omega);have f3:=U1 (r1*1000) hd;have f4:=Z4 (show 0<=r1*1000 by omega) (show 0<=d by omega);have f5:r1*1000 / d<1000:=nJ hd l7;rw[t2,yj l7 l7 hd,o8,CZ l7 hd,o8];have hr6:r*1000000=r1*1000+(a*1000)*d:=by rw[jG];omega
 have hF2:r*1000000 / d=r1*1000 / d+a*1000:=by rw[hr6,bu _ _ l7]
 have hR2:r*1000000 % d=r1*1000 % d:=by rw[hr6,dh]
 rw[nI (show kE (q*1000000) by unfold kE;omega),nI (show kE (a*1000) by unfold kE;omega),ai (show kE (q*1000000+a*1000) by unfold kE;omega),ai (show kE (q*1000000+a*1000+r1*1000 / d) by unfold kE;omega)];rw[show q*1000000+a*1000+r1*1000 / d=n*1000000 / d by rw[hF,hF2];omega,show r1*1000 % d=n*1000000 % d by rw[hR,hR2]];rw[KP (by rw[hF];omega) (by rw[hF];omega) hd l7 hm,o8,zn _ l7 l7,o8];cases lH (rnd (n*1000000) d mode) 1000000000<;>rfl
theorem a0Z(num den mode:Int):xZ num den mode=some (b8S num den mode):=by
 unfold xZ b8S;rw[a5r];cases hm:ql mode
 .rfl
 simp only[o7,o8,U0];cases hd:x8 den 0
 case true=>rfl
 rw[zh]at hd;simp only[o6];rw[zn num l7 l7,o8];cases h1:lH num 1000000000000000
 case true=>rfl
 simp only[o6];rw[zn den l7 l7,o8];cases h2:lH den 1000000000000000
 case true=>rfl
 simp only[o6];have b1:=rC h1;have b2:=rC h2;by_cases hn:den<0
 .rw[U6 hn,o7,X3 (show kE (0 -num) by unfold kE;omega),X3 (show kE (0 -den) by unfold kE;omega),show(0:Int) -num=-num by omega,show(0:Int) -den=-den by omega,b9f _ _ _ hn,show -(num*1000000)=-num*1000000 by rw[kL]];exact L_ l7 l7 l7 l7 hm
 .rw[N7 l7,o6];exact L_ l7 l7 l7 l7 hm
def Gz(len n:Int):Int×Int×Bool:=l9 (D9 1000000000000000 (len*aK n / 1000000)) (0,0,false) (l9 (D9 n 0) (-(len*aK n / 1000000),-(len*aK n % 1000000),true) (len*aK n / 1000000,len*aK n % 1000000,true))
variable {len:Int}
theorem b8r(h1:1<=len)(h2:len<=1000000000000000)(hn:kE n):xP len n=some (Gz len n):=by
 unfold kE at hn;have key:∀m:Int,m=aK n->(o5 (wG (wrap .u64 len) m) λ(x:Int×Int)=>l9 (L6 1000000 x.1) (some ((0:Int),(0:Int),false)) (o5 (oC x.1 x.2 1000000) λ(x:Int×Int)=>l9 (D9 1000000000000000 x.1) (some (0,0,false))
   (l9 (D9 n 0) (some (J9 .i64 0 (wrap .i64 x.1),J9 .i64 0 (wrap .i64 x.2),true)) (some (wrap .i64 x.1,wrap .i64 x.2,true)))))=some (Gz len n):=by
  intro m hm;have m0:=mJ n;have m1:m<=9223372036854775808:=by rw[hm];unfold aK;split<;>omega
  rw[←hm]at m0;rw[show wrap .u64 len=len from Hm l7 l7,UC l7 l7 m0 l7,o8];unfold Gz;rw[←hm];have hA:0<=len*m:=X4 l7 m0;generalize len*m=A at*;have hre:A / 18446744073709551616*18446744073709551616+A % 18446744073709551616=A:=l7;simp only;by_cases hh:1000000<=A / 18446744073709551616
  .rw[Y5 hh,U6 (show(1000000000000000:Int)<A / 1000000 by omega)];rfl
  .rw[Y9 l7,o6,Zo l7 l7 l7 l7 l7,o8,hre];simp only;by_cases hM:1000000000000000<A / 1000000
   .rw[U6 hM];rfl
   .rw[N7 l7,o6,o6,show wrap .i64 (A / 1000000)=A / 1000000 from oh U4,show wrap .i64 (A % 1000000)=A % 1000000 from oh U4,X3 U4,X3 U4,
     show(0:Int) -A / 1000000=-(A / 1000000) by omega,show(0:Int) -A % 1000000=-(A % 1000000) by omega]
    cases D9 n 0<;>rfl
 unfold xP;by_cases h0:n<0
 .have hk:=key (J9 .u64 0 (wrap .u64 n)) (by
   show IntKind.wrap .u64 (0 -IntKind.wrap .u64 n)=_;unfold aK;rw[if_pos h0,BA,BA];omega)
  rw[U6 h0]at hk ⊢;exact hk
 .have hk:=key (wrap .u64 n) (by
   show IntKind.wrap .u64 n=_;unfold aK;rw[if_neg h0,BA];omega)
  rw[N7 l7]at hk ⊢;exact hk
theorem b5r(h1:1<=len)(h2:len<=1000000000000000)(hn:kE n):xG len n=some (Gz len n):=by
 unfold kE at hn;have hm:(l9 (D9 n 0) (some (C9 .u64 (wrap .u64 (J9 .i64 0 (C9 .i64 n 1))) 1)) (some (wrap .u64 n)))=some (aK n):=by
  by_cases h0:n<0
  .rw[U6 h0,o7,ai U4,X3 U4,show wrap .u64 (0 -(n+1))=-n -1 from(Hm l7 l7).trans l7,show C9 .u64 (-n -1) 1=-n from(Hm l7 l7).trans l7];unfold aK;rw[if_pos h0]
  .rw[N7 l7,o6,show wrap .u64 n=n from Hm l7 l7];unfold aK;rw[if_neg h0]
 have m0:=mJ n;have m1:aK n<=9223372036854775808:=by unfold aK;split<;>omega
 unfold xG Gz;rw[hm,o8];generalize aK n=m at*;have c1:dY .u64 m 1000000=m / 1000000:=by unfold dY;rw[ku m0,Hm l7 l7]
 have c2:eX m 1000000=m % 1000000:=Bf m0;have c3:wrap .i64 (m / 1000000)=m / 1000000:=oh U4;have c4:wrap .i64 (m % 1000000)=m % 1000000:=oh U4;have c5:dY .i64 len 1000000=len / 1000000:=by rw[Be (by rw[ku l7];unfold kE;omega),ku l7]
 have c6:eX len 1000000=len % 1000000:=Bf l7;rw[c1,c2,c3,c4,c5,c6];have hmd:m=m / 1000000*1000000+m % 1000000:=l7;have b0:0<=m % 1000000:=l7;have b1:m % 1000000<1000000:=l7;have a0:0<=m / 1000000:=l7;have a1:m / 1000000<=9223372036855:=l7;have hA:len*m=(len*(m / 1000000)+len / 1000000*(m % 1000000))*1000000+len % 1000000*(m % 1000000):=by
  have e1:len*m=len*(m / 1000000)*1000000+len*(m % 1000000):=by
   calc len*m=len*(m / 1000000*1000000+m % 1000000):=by rw[←hmd]
    _=_:=by rw[Int.mul_add,Int.mul_assoc]
  have e2:len*(m % 1000000)=len / 1000000*(m % 1000000)*1000000+len % 1000000*(m % 1000000):=by
   calc len*(m % 1000000)=(len / 1000000*1000000+len % 1000000)*(m % 1000000):=by rw[show len / 1000000*1000000+len % 1000000=len by omega]
    _=_:=by rw[iT,jG]
  rw[e1,e2];omega
 have l0:0<=len % 1000000*(m % 1000000):=X4 l7 b0;have l1:len % 1000000*(m % 1000000)<=1000000*1000000:=kU l7 l7 b0 l7;have p0:0<=len / 1000000*(m % 1000000):=X4 l7 b0;have p1:len / 1000000*(m % 1000000)<=1000000000*1000000:=kU l7 l7 b0 l7;have k0:0<=len*(m / 1000000):=X4 l7 a0;have c7:az .i64 (len % 1000000) (m % 1000000)=len % 1000000*(m % 1000000):=nI U4;have c8:az .i64 (len / 1000000) (m % 1000000)=len / 1000000*(m % 1000000):=nI U4;rw[c7,c8];have hdiv:len*m / 1000000=len*(m / 1000000)+len / 1000000*(m % 1000000)+len % 1000000*(m % 1000000) / 1000000:=by rw[hA];omega
 have hmod:len*m % 1000000=len % 1000000*(m % 1000000) % 1000000:=by rw[hA];omega
 rw[hdiv,hmod];have c9:dY .i64 (len % 1000000*(m % 1000000)) 1000000=len % 1000000*(m % 1000000) / 1000000:=by rw[Be (by rw[ku l0];unfold kE;omega),ku l0]
 have c10:eX (len % 1000000*(m % 1000000)) 1000000=len % 1000000*(m % 1000000) % 1000000:=Bf l0;rw[c9,c10];have tail:len*(m / 1000000)<=1000000000000000->l9 (D9 1000000000000000 (C9 .i64 (C9 .i64 (az .i64 len (m / 1000000)) (len / 1000000*(m % 1000000))) (len % 1000000*(m % 1000000) / 1000000))) (some ((0:Int),(0:Int),false))
   (l9 (D9 n 0) (some (J9 .i64 0 (C9 .i64 (C9 .i64 (az .i64 len (m / 1000000)) (len / 1000000*(m % 1000000))) (len % 1000000*(m % 1000000) / 1000000)),J9 .i64 0 (len % 1000000*(m % 1000000) % 1000000),true)) (some (C9 .i64 (C9 .i64 (az .i64 len (m / 1000000)) (len / 1000000*(m % 1000000))) (len % 1000000*(m % 1000000) / 1000000),len % 1000000*(m % 1000000) % 1000000,true)))=
   some (l9 (D9 1000000000000000 (len*(m / 1000000)+len / 1000000*(m % 1000000)+len % 1000000*(m % 1000000) / 1000000)) (0,0,false) (l9 (D9 n 0) (-(len*(m / 1000000)+len / 1000000*(m % 1000000)+len % 1000000*(m % 1000000) / 1000000),-(len % 1000000*(m % 1000000) % 1000000),true) (len*(m / 1000000)+len / 1000000*(m % 1000000)+len % 1000000*(m % 1000000) / 1000000,len % 1000000*(m % 1000000) % 1000000,true))):=by
  intro hle;rw[nI (show kE (len*(m / 1000000)) by unfold kE;omega)];generalize len*(m / 1000000)=K at*;generalize len / 1000000*(m % 1000000)=P at*;generalize len % 1000000*(m % 1000000)=L at*;rw[ai (show kE (K+P) by unfold kE;omega),ai (show kE (K+P+L / 1000000) by unfold kE;omega),X3 (show kE (0 -(K+P+L / 1000000)) by unfold kE;omega),X3 (show kE (0 -L % 1000000) by unfold kE;omega),show(0:Int) -(K+P+L / 1000000)=-(K+P+L / 1000000) by omega,show(0:Int) -L % 1000000=-(L % 1000000) by omega];cases D9 1000000000000000 (K+P+L / 1000000)<;>cases D9 n 0<;>rfl
 by_cases ha:0<m / 1000000
 .rw[U6 ha,o7,yj l7 l7 ha,o8];have hMx:=Y4 1000000000000000 (m / 1000000);have hMr:=U1 1000000000000000 ha;have hMr0:=V9 1000000000000000 (show m / 1000000≠0 by omega);by_cases hc:1000000000000000 / (m / 1000000)<len
  .have:=U2 (show 1000000000000000 / (m / 1000000)+1<=len by omega) a0;rw[iT,fP]at this;rw[U6 hc,U6 (show(1000000000000000:Int)<len*(m / 1000000)+len / 1000000*(m % 1000000)+len % 1000000*(m % 1000000) / 1000000 by omega)];rfl
  .have:=U2 (show len<=1000000000000000 / (m / 1000000) by omega) a0;rw[N7 l7,o6];exact tail l7
 .have:m / 1000000=0:=l7;rw[N7 l7,o6];exact tail (by rw[this];simp)
theorem U_{F R j:Int}(hm:ql mode=true)(h1:-4000000000000000000<=F)(h2:F<=4000000000000000000)(h3:-2000000000000000000<=j)(h4:j<=2000000000000000000)(hR:0<=R)(hR2:R<1000000)(hs:0<=F↔0<=F+2*j):
  dH (F+2*j) R 1000000 mode=(dH F R 1000000 mode).map λv=>v+2*j:=by
 have R0:∀F R:Int,dH F R 1000000 0=l9 (x8 R 0) (some F) (some F):=λF R=>rfl;have R1:∀F R:Int,dH F R 1000000 1=l9 (x8 R 0) (some F) (some (C9 .i64 F 1)):=λF R=>rfl;have R2:∀F R:Int,dH F R 1000000 2=l9 (x8 R 0) (some F) (o5 (l9 (D9 F 0) (some true) (some false)) λx=>l9 x (some (C9 .i64 F 1)) (some F)):=λF R=>rfl;have R3:∀F R:Int,dH F R 1000000 3=l9 (x8 R 0) (some F) (o5 (some (L6 0 F)) λx=>l9 x (some (C9 .i64 F 1)) (some F)):=λF R=>rfl;have R4:∀F R:Int,dH F R 1000000 4=l9 (x8 R 0) (some F) (l9 (x8 R (J9 .i64 1000000 R)) (l9 (L6 0 F) (some (C9 .i64 F 1)) (some F)) (l9 (D9 (J9 .i64 1000000 R) R) (some (C9 .i64 F 1)) (some F))):=λF R=>rfl;have R5:∀F R:Int,dH F R 1000000 5=l9 (x8 R 0) (some F) (l9 (x8 R (J9 .i64 1000000 R)) (l9 (F7 (x8 (eX F 2) 0)) (some (C9 .i64 F 1)) (some F)) (l9 (D9 (J9 .i64 1000000 R) R) (some (C9 .i64 F 1)) (some F))):=λF R=>rfl;have hi:C9 .i64 F 1=F+1:=ai U4;have hi2:C9 .i64 (F+2*j) 1=F+1+2*j:=by rw[ai U4];omega
 have hlt:D9 (F+2*j) 0=D9 F 0:=by
  by_cases h:0<=F
  .rw[N7 h,N7 (hs.1 h)]
  .rw[U6 l7,U6 (by have:=λh' =>h (hs.2 h');omega)]
 have hle:L6 0 (F+2*j)=L6 0 F:=by rw[Gi,Gi,hlt]
 have hpar:x8 (eX (F+2*j) 2) 0=x8 (eX F 2) 0:=by
  unfold eX x8;congr 1;have e1:∀x:Int,x.tmod 2=0↔x % 2=0:=λx=>by rw[←Int.dvd_iff_tmod_eq_zero,Int.dvd_iff_emod_eq_zero]
  simp only[e1];congr 1;omega
 rcases KD hm with rfl|rfl|rfl|rfl|rfl|rfl
 .rw[R0,R0];cases x8 R 0<;>rfl
 .rw[R1,R1,hi,hi2];cases x8 R 0<;>rfl
 .rw[R2,R2,hi,hi2,hlt];cases x8 R 0<;>cases D9 F 0<;>rfl
 .rw[R3,R3,hi,hi2,hle];cases x8 R 0<;>cases L6 0 F<;>rfl
 .rw[R4,R4,hi,hi2,hle];cases x8 R 0<;>cases x8 R (J9 .i64 1000000 R)<;>cases L6 0 F<;>cases D9 (J9 .i64 1000000 R) R<;>rfl
 .rw[R5,R5,hi,hi2,hpar];cases x8 R 0<;>cases x8 R (J9 .i64 1000000 R)<;>cases x8 (eX F 2) 0<;>cases D9 (J9 .i64 1000000 R) R<;>rfl
variable {j:Int}
theorem b2j(hm:ql mode=true)(h1:-4000000000000000000<=n)(h2:n<=4000000000000000000)(h3:-2000000000000000<=j)(h4:j<=2000000000000000)(hs:0<=n↔0<=n+2*j*1000000):rnd (n+2*j*1000000) 1000000 mode=rnd n 1000000 mode+2*j:=by
 have a1:=KP (n:=n) (d:=1000000) (mode:=mode) l7 l7 l7 l7 hm;have a2:=KP (n:=n+2*j*1000000) (d:=1000000) (mode:=mode) l7 l7 l7 l7 hm;rw[show(n+2*j*1000000) / 1000000=n / 1000000+2*j by omega,show(n+2*j*1000000) % 1000000=n % 1000000 by omega,
  U_ hm l7 l7 l7 l7 l7 l7 l7,a1]at a2
 exact(P5 a2).symm
def a1i(W L mode:Int):Int×Int:=l9 (lH (rnd (W*1000000+L) 1000000 mode) 1000000000000000) (0,3) (rnd (W*1000000+L) 1000000 mode,0)
theorem a0m{V p L j mode:Int}(hm:ql mode=true)(hV:-2000000000000000<=V)(hV2:V<=2000000000000000)(hp:-3<=p)(hp2:p<=3)(hL:-1000000<L)(hL2:L<1000000)(hj:V -p=2*j)(hs:0<=p*1000000+L↔0<=V*1000000+L):
  (o5 (jX (C9 .i64 (az .i64 p 1000000) L) 1000000 mode) λ(x:Int×Int)=>l9 (F7 (x8 x.2 0)) (some ((0:Int),x.2)) (l9 (D9 (C9 .i64 (J9 .i64 V p) x.1) (-1000000000000000)) (some (0,3)) (l9 (D9 1000000000000000 (C9 .i64 (J9 .i64 V p) x.1)) (some (0,3)) (some (C9 .i64 (J9 .i64 V p) x.1,0)))))=
  some (a1i V L mode):=by
 rw[nI (show kE (p*1000000) by unfold kE;omega),ai (show kE (p*1000000+L) by unfold kE;omega),X3 (show kE (V -p) by unfold kE;omega),Kt,o8];unfold a6Y;rw[hm,O8 (show(1000000:Int)≠0 by decide),QB l7,QB l7];have hb:=a8b (n:=p*1000000+L) (d:=1000000) mode l7;have hsh:=b2j (n:=p*1000000+L) (j:=j) hm l7 l7 l7 l7 (by rw[show p*1000000+L+2*j*1000000=V*1000000+L by omega];exact hs);rw[show p*1000000+L+2*j*1000000=V*1000000+L by omega]at hsh;simp only[o7,o6,O5 (rfl:(0:Int)=0),E5];unfold a1i lH;rw[hsh,hj,ai (show kE (2*j+rnd (p*1000000+L) 1000000 mode) by unfold kE;omega),show rnd (p*1000000+L) 1000000 mode+2*j=2*j+rnd (p*1000000+L) 1000000 mode by omega];cases D9 (2*j+rnd (p*1000000+L) 1000000 mode) (-1000000000000000)<;>cases D9 1000000000000000 (2*j+rnd (p*1000000+L) 1000000 mode)<;>rfl
theorem b0z(hd:0<d):(0<=n->0<=n.tmod d/\n.tmod d<d)/\(n<=0->-d<n.tmod d/\n.tmod d<=0):=by
 refine⟨λh=>?_,λh=>?_⟩
 .rw[fM h];exact⟨V9 n l7,U1 n hd⟩
 .obtain⟨m,hm⟩:∃m,n=-m:=⟨-n,l7⟩;subst hm;rw[Int.neg_tmod,fM l7];have:=V9 m (show d≠0 by omega);have:=U1 m hd;omega
theorem a6c{W L mode:Int}(hm:ql mode=true)(hW:-1000000000000000000<=W)(hW2:W<=1000000000000000000)(hL:-1000000000<=L)(hL2:L<=1000000000):EQ W L mode=some (a1i W L mode):=by
 unfold EQ;have hd:=Int.tdiv_mul_add_tmod L 1000000;have htm:=b0z (n:=L) (d:=1000000) l7;have t1:dY .i64 L 1000000=L.tdiv 1000000:=Be U4;have t2:eX L 1000000=L.tmod 1000000:=rfl;have hr1:-1000000<L.tmod 1000000:=l7;have hr2:L.tmod 1000000<1000000:=l7;rw[t1,t2,ai (show kE (W+L.tdiv 1000000) by unfold kE;omega)];have hT:W*1000000+L=(W+L.tdiv 1000000)*1000000+L.tmod 1000000:=l7;have hsum:a1i W L mode=a1i (W+L.tdiv 1000000) (L.tmod 1000000) mode:=by unfold a1i;rw[hT]
 rw[hsum];have hVb:-2000000000000000000<=W+L.tdiv 1000000/\W+L.tdiv 1000000<=2000000000000000000:=l7;generalize W+L.tdiv 1000000=V at*;generalize L.tmod 1000000=M at*;have hb:=a8b (n:=V*1000000+M) (d:=1000000) mode l7;by_cases c1:V< -2000000000000000
 .rw[U6 c1,o7];unfold a1i;rw[TW.2 l7];rfl
 by_cases c2:2000000000000000<V
 .rw[N7 l7,o6,U6 c2,o7];unfold a1i;rw[TW.2 l7];rfl
 rw[N7 l7,o6,N7 l7,o6];have t3:eX V 2=V.tmod 2:=rfl;rw[t3];have hv2:=Int.tdiv_mul_add_tmod V 2;have htv:=b0z (n:=V) (d:=2) l7;by_cases c3:1<V
 .rw[U6 c3,o7,ai (show kE (V.tmod 2+2) by unfold kE;omega)];exact a0m (j:=V.tdiv 2 -1) hm l7 l7 l7 l7 hr1 hr2 l7 l7
 rw[N7 l7,o6];by_cases c4:V< -1
 .rw[U6 c4,o7,X3 (show kE (V.tmod 2 -2) by unfold kE;omega)];exact a0m (j:=V.tdiv 2+1) hm l7 l7 l7 l7 hr1 hr2 l7 l7
 rw[N7 l7,o6];exact a0m (j:=V.tdiv 2) hm l7 l7 l7 l7 hr1 hr2 l7 l7
theorem a1a{W L mode:Int}(hm:ql mode=true)(hW:-1000000000000000000<=W)(hW2:W<=1000000000000000000)(hL:-1000000000<=L)(hL2:L<=1000000000):Gn W L mode=some (rnd (W*1000000+L) 1000000 mode):=by
 unfold Gn;obtain⟨e,k1,k2⟩:=iG (f:=λ(x:Int×Int)=>l9 (D9 x.2 0) (some (.inl (J9 .i64 x.1 1,C9 .i64 x.2 1000000))) (some (.inr x)))
  (s:=(W,L)) (λx=>x.1*1000000+x.2=W*1000000+L/\-1000000000<=x.2/\x.2<=1000000000/\-2000000000000000000<=x.1/\x.1<=2000000000000000000) (λx=>x.1*1000000+x.2=W*1000000+L/\0<=x.2/\x.2<=1000000000/\-2000000000000000000<=x.1/\x.1<=2000000000000000000) (λx=>(1000000000 -x.2).toNat) ⟨by rfl,hL,hL2,l7,l7⟩ l7 (by
  rintro⟨a,b⟩ ⟨h1,h2,h3,h4,h5⟩;simp only at h1 h2 h3 h4 h5 ⊢;by_cases hb:b<0
  .left;rw[U6 hb,o7,X3 (show kE (a -1) by unfold kE;omega),ai (show kE (b+1000000) by unfold kE;omega)];exact⟨_,rfl,⟨by simp only;omega,by simp only;omega,by simp only;omega,by simp only;omega,by simp only;omega⟩,by simp only;omega⟩
  .right;rw[N7 l7];exact⟨(a,b),rfl,h1,l7,h3,h4,h5⟩)
 refine(lN k1 _).trans ?_;obtain⟨a,b⟩:=e;simp only at k2;obtain⟨e,l1,l2⟩:=iG (f:=λ(x:Int×Int)=>l9 (L6 1000000 x.2) (some (.inl (C9 .i64 x.1 1,J9 .i64 x.2 1000000))) (some (.inr x)))
  (s:=(a,b)) (λx=>x.1*1000000+x.2=W*1000000+L/\0<=x.2/\x.2<=1000000000/\-2000000000000000000<=x.1/\x.1<=2000000000000000000) (λx=>x.1=(W*1000000+L) / 1000000/\x.2=(W*1000000+L) % 1000000) (λx=>x.2.toNat) k2 (by simp only;omega) (by
  rintro⟨a,b⟩ ⟨h1,h2,h3,h4,h5⟩;simp only at h1 h2 h3 h4 h5 ⊢;by_cases hb:1000000<=b
  .left;rw[Y5 hb,o7,ai (show kE (a+1) by unfold kE;omega),X3 (show kE (b -1000000) by unfold kE;omega)];exact⟨_,rfl,⟨by simp only;omega,by simp only;omega,by simp only;omega,by simp only;omega,by simp only;omega⟩,by simp only;omega⟩
  .right;rw[Y9 l7];exact⟨(a,b),rfl,by simp only;omega,by simp only;omega⟩)
 refine(lN l1 _).trans ?_;obtain⟨F,R⟩:=e;simp only at l2 ⊢;obtain⟨rfl,rfl⟩:=l2;generalize hT:W*1000000+L=T at*;have hid:aK 1000000=1000000:=rfl;have hneg:F7 (jO (D9 T 0) (D9 1000000 0))=D9 T 0:=by rw[N7 (show(0:Int)<=1000000 by omega)];cases D9 T 0<;>rfl
 by_cases h0:0<=T
 .rw[Y5 (show 0<=T / 1000000 by omega),o7,GK _ _ l7 l7 l7 l7 l7,o8];unfold rnd;rw[hid,hneg,N7 h0,show aK T=T by unfold aK;rw[if_neg l7]]
 .rw[Y9 (show T / 1000000<0 by omega),o6];unfold rnd;rw[hid,hneg,U6 l7,show aK T=-T by unfold aK;rw[if_pos l7]];by_cases hz:T % 1000000=0
  .rw[O5 hz,o7];have hu:upS (-T / 1000000) (-T % 1000000) 1000000 true mode=false:=by unfold upS;rw[O5 (show -T % 1000000=0 by omega)];rfl
   rw[hu];show some (T / 1000000)=some (-(-T / 1000000));congr 1;omega
  .rw[O8 hz,o6,X3 (show kE (0 -T / 1000000) by unfold kE;omega),X3 (show kE (0 -T / 1000000 -1) by unfold kE;omega),X3 (show kE (1000000 -T % 1000000) by unfold kE;omega),GK _ _ l7 l7 l7 l7 l7,o8];rw[show 0 -T / 1000000 -1=-T / 1000000 by omega,show 1000000 -T % 1000000=-T % 1000000 by omega]
def a9i(r:ET):Prop:=kE r.2.1/\kE r.2.2.1/\kE r.2.2.2
def ru(t:fZ):Prop:=t.2.2.2.length<=200/\∀r∈t.2.2.2,a9i r
theorem a2L(h:(Gz len n).2.2=true)(hl:0<=len):-1000000000000000<=(Gz len n).1/\(Gz len n).1<=1000000000000000/\-1000000<=(Gz len n).2.1/\(Gz len n).2.1<=1000000:=by
 have hA:0<=len*aK n:=X4 hl (mJ n);unfold Gz at*;generalize len*aK n=A at*;cases h1:D9 1000000000000000 (A / 1000000)<;>rw[h1]at h
 .rw[iM]at h1;cases D9 n 0
  .simp only[o6];omega
  .simp only[o6,o7];omega
 .cases h
def brG(date c:Int)(b:Int×Int)(r:ET):(Int×Int)⊕(Int×Int):=l9 (SH r.1 date) (l9 (L6 (qU r.2.2.1 c) (pO r.2.1 0)) (.inl b)
 (l9 (Gz (qU r.2.2.1 c -pO r.2.1 0) r.2.2.2).2.2 (.inl (b.1+(Gz (qU r.2.2.1 c -pO r.2.1 0) r.2.2.2).1,b.2+(Gz (qU r.2.2.1 c -pO r.2.1 0) r.2.2.2).2.1)) (.inr (0,3)))) (.inl b)
def b8o(t:fZ)(date c mode:Int):Int×Int:=l9 (ql mode) (l9 (jl (x8 t.2.1.1 3) (x8 t.2.1.2 0)) (l9 (jl (x8 t.2.2.1.1 4) (x8 t.2.2.1.2 0)) (l9 (lH c 1000000000000000) (0,3)
 (match bF (brG date c) t.2.2.2 (0,0)with| .inl b=>a1i b.1 b.2 mode| .inr r=>r)) (0,8)) (0,8)) (0,1)
def YG(i:Nat)(b:Int×Int):Prop:=-(1000000000000000*(i:Int))<=b.1/\b.1<=1000000000000000*(i:Int)/\-(1000000*(i:Int))<=b.2/\b.2<=1000000*(i:Int)
theorem YX{r:ET}{c:Int}(hr:a9i r)(hc:-1000000000000000<=c)(hc2:c<=1000000000000000)(h:L6 (qU r.2.2.1 c) (pO r.2.1 0)=false):J9 .i64 (qU r.2.2.1 c) (pO r.2.1 0)=qU r.2.2.1 c -pO r.2.1 0/\1<=qU r.2.2.1 c -pO r.2.1 0/\qU r.2.2.1 c -pO r.2.1 0<=1000000000000000:=by
 obtain⟨h1,h2,h3⟩:=hr;obtain⟨lo,hlo⟩:∃lo:Int,r.2.1=lo:=⟨_,rfl⟩;obtain⟨hi,hhi⟩:∃hi:Int,r.2.2.1=hi:=⟨_,rfl⟩;rw[hlo]at h h1 ⊢;rw[hhi]at h h2 ⊢;rw[DX]at h;have a1:0<=pO lo 0:=by unfold pO;split<;>omega
 have a2:qU hi c<=c:=by unfold qU;split<;>omega
 refine⟨X3 U4,l7,l7⟩
variable {i:Nat}
theorem b3f{date c:Int}{r:ET}{b:Int×Int}(hr:a9i r)(hc:-1000000000000000<=c)(hc2:c<=1000000000000000)(hi:i<=200)(hb:YG i b):∀b',brG date c b r= .inl b' ->YG (i+1) b' :=by
 intro b' h;unfold YG at*;unfold brG at h;cases h1:SH r.1 date<;>rw[h1]at h
 .cases h;omega
 simp only[o7]at h;cases h2:L6 (qU r.2.2.1 c) (pO r.2.1 0)<;>rw[h2]at h
 .obtain⟨_,g1,g2⟩:=YX hr hc hc2 h2;simp only[o6]at h;cases h3:(Gz (qU r.2.2.1 c -pO r.2.1 0) r.2.2.2).2.2<;>rw[h3]at h
  .cases h
  .have hbd:=a2L h3 l7;cases h;simp only;omega
 .cases h;omega
theorem a4u{t:fZ}(date c mode:Int)(ht:ru t):EK t date c mode=some (b8o t date c mode):=by
 unfold EK b8o;rw[a5r];cases hm:ql mode
 .rfl
 simp only[o7,o8,U0];cases jl (x8 t.2.1.1 3) (x8 t.2.1.2 0)
 .rfl
 cases jl (x8 t.2.2.1.1 4) (x8 t.2.2.1.2 0)
 .rfl
 simp only[E5,o6,o7,o8,U0];have hbey:∀A B:Option (PUnit⊕(Int×Int)),l9 (D9 c (-1000000000000000)) A (l9 (D9 1000000000000000 c) A B)=l9 (lH c 1000000000000000) A B:=λA B=>by unfold lH;cases D9 c (-1000000000000000)<;>cases D9 1000000000000000 c<;>rfl
 rw[hbey];cases hb:lH c 1000000000000000
 case true=>rfl
 have bb:=rC hb;simp only[o6,o8,U0];refine pz t.2.2.2 (brG date c) (λb i=>(b.1,b.2,i)) (λb=>b) YG ((0,0):Int×Int) (by have:=ht.1;omega) (by unfold YG;simp) (λi r b hr hi hI=>?_) (λb hI=>?_) (λhI=>?_)
 .have hro:=ht.2 r (kK hr);have hlt:=(X7.1 hr).1;have h200:=ht.1;refine⟨?_,b3f hro bb.1 bb.2 l7 hI⟩;simp only[J3 hr,o7,F8,hr,o8,JZ];rw[Y3 l7];unfold brG;cases SH r.1 date
  .rfl
  simp only[E5,o6,o7];cases h2:L6 (qU r.2.2.1 c) (pO r.2.1 0)
  case true=>rfl
  obtain⟨g0,g1,g2⟩:=YX hro bb.1 bb.2 h2;rw[g0,b8r g1 g2 hro.2.2];simp only[o6,o8];cases h3:(Gz (qU r.2.2.1 c -pO r.2.1 0) r.2.2.2).2.2
  .rfl
  .have hbd:=a2L h3 l7;unfold YG at hI;rw[ai U4,ai U4];rfl
 .simp only[I9];rfl
 .cases hf:bF (brG date c) t.2.2.2 (0,0)with
  |inr r=>rfl|inl b=>have:=hI b hf;unfold YG at this;have h200:=ht.1;simp only[U0];rw[a6c hm l7 l7 l7 l7];rfl
theorem a3s{t:fZ}(date c mode:Int)(ht:ru t):Ep t date c mode=some (b8o t date c mode):=by
 unfold Ep b8o;rw[UU,o8];cases hm:ql mode
 .rfl
 simp only[E5,o6,o7];cases jl (x8 t.2.1.1 3) (x8 t.2.1.2 0)
 .rfl
 cases jl (x8 t.2.2.1.1 4) (x8 t.2.2.1.2 0)
 .rfl
 simp only[E5,o6,o7,o8,U0];rw[vX c l7 l7,o8];cases hb:lH c 1000000000000000
 case true=>rfl
 have bb:=rC hb;simp only[o6];refine pz t.2.2.2 (brG date c) (λb i=>(b.1,b.2,i)) (λb=>b) YG ((0,0):Int×Int) (by have:=ht.1;omega) (by unfold YG;simp) (λi r b hr hi hI=>?_) (λb hI=>?_) (λhI=>?_)
 .have hro:=ht.2 r (kK hr);have hlt:=(X7.1 hr).1;have h200:=ht.1;refine⟨?_,b3f hro bb.1 bb.2 l7 hI⟩;simp only[J3 hr,o7,F8,hr,o8,NS];rw[Y3 l7];unfold brG;cases h2:L6 (qU r.2.2.1 c) (pO r.2.1 0)
  case true=>cases SH r.1 date<;>rfl
  simp only[o6];cases SH r.1 date
  .rfl
  obtain⟨g0,g1,g2⟩:=YX hro bb.1 bb.2 h2;rw[g0,b5r g1 g2 hro.2.2];simp only[E5,o6,o7,o8];cases h3:(Gz (qU r.2.2.1 c -pO r.2.1 0) r.2.2.2).2.2
  .rfl
  .have hbd:=a2L h3 l7;unfold YG at hI;rw[ai U4,ai U4];rfl
 .simp only[I9];rfl
 .cases hf:bF (brG date c) t.2.2.2 (0,0)with
  |inr r=>rfl|inl b=>have:=hI b hf;unfold YG at this;have h200:=ht.1;simp only[U0];rw[a1a hm l7 l7 l7 l7,o8,vX _ l7 l7,o8];unfold a1i;cases lH (rnd (b.1*1000000+b.2) 1000000 mode) 1000000000000000<;>rfl
def b8E(r:ET)(date key:Int):Bool:=l9 (SH r.1 date) (l9 (L6 r.2.1 key) (D9 key r.2.2.1) false) false
def Xu(rows:List ET)(date key:Int)(i:Nat):Option (Int×Bool):=match rows[i]? with|some r=>l9 (b8E r date key) (some ((i:Int),true)) none|none=>none
def ZU(rows:List ET)(date key:Int):Int×Bool:=match aO rows.length (Xu rows date key)with|some x=>x|none=>(0,false)
theorem b1n{t:fZ}(date key:Int)(ht:t.2.2.2.length<=1000000):IE t date key=some (ZU t.2.2.2 date key):=by
 unfold IE xQ ZU;rw[gU];refine X8 (uI (p:=Xu t.2.2.2 date key) t.2.2.2.length ht PUnit.unit (λi hi=>?_) ?_) ?_
 rotate_left 2
 .cases aO t.2.2.2.length (Xu t.2.2.2 date key)<;>rfl
 .have e:=bQ hi;simp only[J3 e,o7,F8,e,o8,JI,JZ,Xu,b8E];cases SH t.2.2.2[i].1 date
  .rfl
  cases L6 t.2.2.2[i].2.1 key
  .rfl
  cases D9 key t.2.2.2[i].2.2.1<;>rfl
 .simp only[I9];rfl
theorem a7T{t:fZ}(date key:Int)(ht:t.2.2.2.length<=1000000):Io t date key=some (ZU t.2.2.2 date key):=by
 unfold Io ZU;refine X8 (uI (p:=Xu t.2.2.2 date key) t.2.2.2.length ht PUnit.unit (λi hi=>?_) ?_) ?_
 rotate_left 2
 .cases aO t.2.2.2.length (Xu t.2.2.2 date key)<;>rfl
 .have e:=bQ hi;simp only[J3 e,o7,F8,e,o8,Ll,NS,Xu,b8E];cases SH t.2.2.2[i].1 date
  .rfl
  cases L6 t.2.2.2[i].2.1 key
  .rfl
  cases D9 key t.2.2.2[i].2.2.1<;>rfl
 .simp only[I9];rfl
theorem b3U{rows:List ET}{date key i:Int}(h:ZU rows date key=(i,true)):0<=i/\i<o9 rows:=by
 unfold ZU at h;split at h
 .rename_i x hx;subst h;obtain⟨k,hk,hp⟩:=je hx;unfold Xu at hp;split at hp
  .rename_i r hr;cases hmb:b8E r date key<;>rw[hmb]at hp
   .cases hp
   .cases hp;simp only[o9];omega
  .cases hp
 .cases h
abbrev V3:Type:=Int×Int×Int
def IX(k:Int):Int×Int:=l9 (x8 k 1) (0,1) (l9 (x8 k 2) (-1000000000000,1000000000000) (l9 (x8 k 3) (-1000000000000000,1000000000000000) (l9 (x8 k 4) (-1000000000,1000000000) (l9 (x8 k 5) (0,109572) (l9 (x8 k 6) (0,15) (0,-1))))))
theorem a9x(k:Int):Ai k=some (IX k):=by unfold Ai IX;cases x8 k 1<;>cases x8 k 2<;>cases x8 k 3<;>cases x8 k 4<;>cases x8 k 5<;>cases x8 k 6<;>rfl
def plB(v:V3):Bool:=l9 (L6 (IX v.1).1 v.2.2) (l9 (L6 v.2.2 (IX v.1).2) (l9 (x8 v.1 6) (l9 (L6 0 v.2.1) (D9 v.2.1 8) false) (x8 v.2.1 0)) false) false
theorem yx(v:V3):ik v=some (plB v):=by
 unfold ik plB;rw[a9x,o8,rH,rH];cases L6 (IX v.1).1 v.2.2
 .rfl
 cases L6 v.2.2 (IX v.1).2
 .rfl
 cases x8 v.1 6
 .rfl
 cases L6 0 v.2.1<;>rfl
theorem Aa(v:V3):iR v=some (plB v):=by
 obtain⟨k,e,n⟩:=v;unfold iR plB;simp only;by_cases h6:k=6
 .subst h6;rw[show IX 6=(0,15)from rfl,O5 (rfl:(6:Int)=6)];simp only[E5,o6,o8,U0,O8 (show(6:Int)≠1 by decide),O8 (show(6:Int)≠2 by decide),O8 (show(6:Int)≠3 by decide),O8 (show(6:Int)≠4 by decide),O8 (show(6:Int)≠5 by decide),o7];rw[show D9 n 16=L6 n 15 by unfold D9 L6;congr 1;simp;omega];cases L6 0 e<;>cases D9 e 8<;>cases L6 0 n<;>cases L6 n 15<;>rfl
 rw[O8 h6];simp only[bg,o7,o6];by_cases he:e=0
 case neg=>rw[O8 he];simp only[bg,o7,o8,uj];cases L6 (IX k).1 n<;>cases L6 n (IX k).2<;>rfl
 rw[O5 he];simp only[E5,o6,o8,U0];by_cases h1:k=1
 .subst h1;rw[show IX 1=(0,1)from rfl];simp only[O5 (rfl:(1:Int)=1),o7];by_cases n0:n=0
  .subst n0;rfl
  by_cases n1:n=1
  .subst n1;rfl
  rw[O8 n0,O8 n1];by_cases g:0<=n
  .rw[Y5 g,Y9 l7];rfl
  .rw[Y9 l7];rfl
 rw[O8 h1,o6];by_cases h2:k=2
 .subst h2;rw[show IX 2=(-1000000000000,1000000000000)from rfl,O5 (rfl:(2:Int)=2)];simp only[o7];cases L6 (-1000000000000) n<;>cases L6 n 1000000000000<;>rfl
 rw[O8 h2,o6];by_cases h3:k=3
 .subst h3;rw[show IX 3=(-1000000000000000,1000000000000000)from rfl,O5 (rfl:(3:Int)=3)];simp only[o7];cases L6 (-1000000000000000) n<;>cases L6 n 1000000000000000<;>rfl
 rw[O8 h3,o6];by_cases h4:k=4
 .subst h4;rw[show IX 4=(-1000000000,1000000000)from rfl,O5 (rfl:(4:Int)=4)];simp only[o7];cases L6 (-1000000000) n<;>cases L6 n 1000000000<;>rfl
 rw[O8 h4,o6];by_cases h5:k=5
 .subst h5;rw[show IX 5=(0,109572)from rfl,O5 (rfl:(5:Int)=5)];simp only[o7];cases L6 0 n<;>cases L6 n 109572<;>rfl
 rw[O8 h5,o6,show IX k=(0,-1) by unfold IX;rw[O8 h1,O8 h2,O8 h3,O8 h4,O8 h5,O8 h6];rfl];simp only[o6];by_cases g:0<=n
 .rw[Y5 g,Y9 (show(-1:Int)<n by omega)];rfl
 .rw[Y9 (show n<0 by omega)];rfl
def PV(v:V3):Prop:=(∃n,v=(1,0,n)/\(n=0\/n=1))\/(∃n,v=(2,0,n)/\-1000000000000<=n/\n<=1000000000000)\/(∃n,v=(3,0,n)/\-1000000000000000<=n/\n<=1000000000000000)\/(∃n,v=(4,0,n)/\-1000000000<=n/\n<=1000000000)\/(∃n,v=(5,0,n)/\0<=n/\n<=109572)\/(∃e n,v=(6,e,n)/\0<=n/\n<=15)
theorem a7P{v:V3}(h:plB v=true):PV v:=by
 obtain⟨k,e,n⟩:=v;unfold plB at h;simp only at h;cases h1:L6 (IX k).1 n<;>rw[h1]at h
 .cases h
 cases h2:L6 n (IX k).2<;>rw[h2]at h
 .cases h
 simp only[o7]at h;rw[jr]at h1 h2;unfold PV;by_cases k6:k=6
 .subst k6;rw[show IX 6=(0,15)from rfl]at h1 h2;exact .inr (.inr (.inr (.inr (.inr ⟨e,n,rfl,h1,h2⟩))))
 rw[O8 k6,o6,P7]at h;subst h;by_cases k1:k=1
 .subst k1;rw[show IX 1=(0,1)from rfl]at h1 h2;exact .inl ⟨n,rfl,by simp only at h1 h2;omega⟩
 by_cases k2:k=2
 .subst k2;exact .inr (.inl ⟨n,rfl,h1,h2⟩)
 by_cases k3:k=3
 .subst k3;exact .inr (.inr (.inl ⟨n,rfl,h1,h2⟩))
 by_cases k4:k=4
 .subst k4;exact .inr (.inr (.inr (.inl ⟨n,rfl,h1,h2⟩)))
 by_cases k5:k=5
 .subst k5;exact .inr (.inr (.inr (.inr (.inl ⟨n,rfl,h1,h2⟩))))
 .rw[show IX k=(0,-1) by unfold IX;rw[O8 k1,O8 k2,O8 k3,O8 k4,O8 k5,O8 k6];rfl]at h1 h2;simp only at h1 h2;omega
def JO(v:V3):V3×Int:=l9 (plB v) (v,0) ((0,0,0),3)
def a0D(v:V3)(c:Int):V3×Int:=l9 (x8 c 0) (JO v) ((0,0,0),c)
theorem Uw(k n:Int):dV k n=some (JO (k,0,n)):=by unfold dV JO;rw[yx,o8];cases plB (k,0,n)<;>rfl
theorem b9U(k n c:Int):tX k n c=some (a0D (k,0,n) c):=by
 unfold tX a0D;cases x8 c 0
 .rfl
 simp only[E5,o6,o7];rw[Uw];rfl
def d5g(b:Bool):V3×Int:=((1,0,l9 b 1 0),0)
theorem b1V(b:Bool):sD b=some (d5g b):=by cases b<;>rfl
theorem b7Y(b:Bool):sS b=some (1,0,l9 b 1 0):=by cases b<;>rfl
theorem b7X(b:Bool):JO (1,0,l9 b 1 0)=d5g b:=by cases b<;>rfl
def b1a(c:Option (V3×Int)):Option (V3×Int):=o5 c λ(x:V3×Int)=>l9 (F7 (x8 x.2 0)) (some ((0,0,0),x.2)) (o5 (iR x.1) λ(x_1:Bool)=>l9 (F7 x_1) (some ((0,0,0),3)) (some (x.1,0)))
theorem Fq(v:V3)(c:Int):b1a (some (v,c))=some (a0D v c):=by
 unfold b1a a0D JO;simp only[o8];cases x8 c 0
 .rfl
 simp only[E5,o6,o7];rw[Aa,o8];cases plB v<;>rfl
theorem Qu(v:V3):a0D v 0=JO v:=rfl
def EP(n:Int×Int)(args:List V3)(env:aV):Option (V3×Int):=o5 (aZ n args env) λ(x:Bool)=>l9 (F7 x) (some ((0,0,0),8)) (b1a (bf n args env))
def RP(a0:Int×Int)(a1:List V3)(a2:aV):Option (V3×Int):=
 l9 (x8 (o9 a1) 0) (l9 (L6 36 a0.1) (l9 (L6 a0.1 39) (o5 (su a0 a2) λ(x:V3×Int)=>some x) (o5 (iW a0 a2) λ(x:V3×Int)=>some x)) (o5 (iW a0 a2) λ(x:V3×Int)=>some x))
  (l9 (x8 (o9 a1) 1) (o5 (G6 a1 0) λ(x:V3)=>o5 (pX a0 x a2) λ(x:V3×Int)=>some x)
  (l9 (x8 (o9 a1) 2) (o5 (G6 a1 0) λ(x:V3)=>o5 (G6 a1 1) λ(x_1:V3)=>o5 (jk a0 x x_1) λ(x:V3×Int)=>some x)
  (o5 (G6 a1 0) λ(x:V3)=>o5 (G6 a1 1) λ(x_1:V3)=>o5 (G6 a1 2) λ(x_2:V3)=>l9 (F7 (x8 x.1 1)) (some ((0,0,0),8)) (l9 (F7 (x8 x_1.1 x_2.1)) (some ((0,0,0),8)) (l9 (F7 (x8 x_1.2.1 x_2.2.1)) (some ((0,0,0),8)) (l9 (x8 x.2.2 1) (some (x_1,0)) (some (x_2,0))))))))
def jE(n:Int×Int)(args:List V3)(env:aV):Prop:=∃r:V3×Int,RP n args env=some r/\EP n args env=some r
theorem ll0:o9 ([]:List V3)=0:=rfl
theorem ll1(a:V3):o9 [a]=1:=rfl
theorem ll2(a b:V3):o9 [a,b]=2:=rfl
theorem ll3(a b c:V3):o9 [a,b,c]=3:=rfl
theorem la0(a:V3)(l:List V3):G6 (a::l) 0=some a:=rfl
theorem la1(a b:V3)(l:List V3):G6 (a::b::l) 1=some b:=rfl
theorem la2(a b c:V3)(l:List V3):G6 (a::b::c::l) 2=some c:=rfl
def dA:=And.intro @O5 (And.intro @O8 (And.intro @Y5 (And.intro @Y9 (And.intro @U6 (And.intro @N7 (And.intro @o7 (And.intro @o6 (And.intro @o8 (And.intro @U0 (And.intro @uj (And.intro @E5 (And.intro @bg (And.intro @ll0 (And.intro @ll1 (And.intro @ll2 (And.intro @ll3 (And.intro @la0 (And.intro @la1 (And.intro @la2 (And.intro @Uw (And.intro @b9U (And.intro @yx (And.intro @Aa (And.intro @Fq (And.intro @Qu (And.intro @b1V (And.intro @b7Y (@b7X))))))))))))))))))))))))))))
theorem TS(k N:Int)(env:aV)(hk:k=1\/k=2\/k=3\/k=4\/k=5):jE (k,N) [] env:=by
 rcases hk with rfl|rfl|rfl|rfl|rfl <;>
 .unfold jE RP iW EP aZ bf;simp (disch:=decide) only[dA];exact⟨_,rfl,rfl⟩
theorem c6g(N:Int)(env:aV):jE (6,N) [] env:=by unfold jE RP iW EP aZ bf;simp (disch:=decide) only[dA];unfold JO;cases plB (6,dY IntKind.i64 N 16,eX N 16)<;>exact⟨_,rfl,rfl⟩
theorem c6j(N:Int)(env:aV):jE (9,N) [] env:=by unfold jE RP iW EP aZ bf;simp (disch:=decide) only[dA];exact⟨_,rfl,rfl⟩
theorem c1i(N:Int)(env:aV):jE (35,N) [] env:=by unfold jE RP iW EP aZ bf;simp (disch:=decide) only[dA];exact⟨_,rfl,rfl⟩
theorem c6h(N:Int)(env:aV)(h:jP (7,N) env=some true):jE (7,N) [] env:=by
 unfold jP at h;simp (disch:=decide) only[O5,O8,o7,o6]at h;by_cases g:0<=N
 case neg=>rw[Y9 l7]at h;cases h
 rw[Y5 g,o7]at h;have h2:=jK.1 (P5 h);obtain⟨x,hx,hm⟩:=lZ g h2;unfold jE RP iW EP aZ bf;simp (disch:=decide) only[dA];rw[hx];simp (disch:=decide) only[dA];unfold JO;cases plB x<;>exact⟨_,rfl,rfl⟩
theorem c6i(N:Int)(env:aV)(h:jP (8,N) env=some true):jE (8,N) [] env:=by
 unfold jP at h;simp (disch:=decide) only[O5,O8,o7,o6]at h;by_cases g:0<=N
 case neg=>rw[Y9 l7]at h;cases h
 rw[Y5 g,o7]at h;by_cases h2:N<o9 env.2.2.1
 case neg=>rw[N7 l7]at h;cases h
 obtain⟨x,hx,hm⟩:=lZ g h2;unfold jE RP iW EP aZ bf;simp (disch:=decide) only[dA];rw[hx];simp (disch:=decide) only[dA];unfold JO;cases plB x<;>exact⟨_,rfl,rfl⟩
def SY(k:Int)(t:Int×Int):Bool:=l9 (x8 t.2 0) (l9 (x8 k 36) (l9 (x8 t.1 2) true (x8 t.1 3)) (l9 (x8 k 39) (l9 (L6 2 t.1) (L6 t.1 5) false) (x8 t.1 1))) false
theorem a3r(k:Int)(t:Int×Int):Gp k t=some (SY k t):=by unfold Gp SY;cases x8 t.2 0<;>cases x8 k 36<;>cases x8 k 39<;>cases x8 t.1 2<;>cases L6 2 t.1<;>rfl
theorem FM(t:Int):vU t=some (l9 (L6 2 t) (L6 t 4) false):=by
 unfold vU;by_cases h2:t=2
 .subst h2;rfl
 by_cases h3:t=3
 .subst h3;rfl
 by_cases h4:t=4
 .subst h4;rfl
 rw[O8 h2,O8 h3,O8 h4];by_cases g:2<=t
 .rw[Y5 g,Y9 l7];rfl
 .rw[Y9 l7];rfl
theorem Js(t:Int):Ew t=some (l9 (L6 2 t) (L6 t 4) false):=FM t
theorem a0P(k:Int)(t:Int×Int):xB k t=some (SY k t):=by
 unfold xB SY;cases x8 t.2 0
 .rfl
 cases x8 k 36
 .cases x8 k 39
  .rfl
  .rw[FM];simp only[E5,o6,o7,o8];by_cases g:2<=t.1
   .rw[Y5 g];simp only[o7];by_cases g4:t.1<=4
    .rw[Y5 g4,Y5 (show t.1<=5 by omega)];rfl
    .rw[Y9 l7];by_cases g5:t.1=5
     .rw[O5 g5,Y5 l7];rfl
     .rw[O8 g5,Y9 l7];rfl
   .rw[Y9 l7,O8 l7];rfl
 .cases x8 t.1 2<;>rfl
def VY(v:V3)(t:Int×Int):Bool:=l9 (plB v) (l9 (x8 v.1 t.1) (x8 v.2.1 t.2) false) false
theorem ZF(v:V3)(t:Int×Int):DU v t=some (VY v t):=by unfold DU VY;rw[Aa,o8];cases plB v<;>cases x8 v.1 t.1<;>rfl
theorem b5t(v:V3)(t:Int×Int):QW v t=some (VY v t):=by unfold QW VY;rw[yx,o8];cases plB v<;>cases x8 v.1 t.1<;>rfl
def JL(k a b:Int)(first:Bool):Int:=l9 (x8 k 36) (C9 .i64 a b) (l9 (x8 k 37) (az .i64 a b) (l9 (x8 k 38) (l9 (D9 a b) b a) (l9 first b (l9 (D9 a b) b a))))
theorem b5s(k a b:Int)(f:Bool):NY k a b f=some (JL k a b f):=by unfold NY JL;cases x8 k 36<;>cases x8 k 37<;>cases x8 k 38<;>cases f<;>cases D9 a b<;>rfl
def a3e(m:List V3)(N:Int)(t:Int×Int):V3⊕Int:=
 match G6 m N with
 |none=> .inr 6|some x=>l9 (x8 x.1 0) (.inr 6) (l9 (VY x t) (.inl x) (.inr 8))
def JP(k N:Int)(t:Int×Int)(b:Int×Bool)(m:List V3):(Int×Bool)⊕(V3×Int):=
 match a3e m N t with
 | .inr c=> .inr ((0,0,0),c)| .inl x=>l9 (plB (t.1,0,JL k b.1 x.2.2 b.2)) (.inl (JL k b.1 x.2.2 b.2,false)) (.inr ((0,0,0),3))
def a5n(k N:Int)(t:Int×Int)(ms:List (List V3)):V3×Int:=
 l9 (SY k t) (match bF (JP k N t) ms (l9 (x8 k 37) 1 0,true)with
  | .inr c=>c
  | .inl a=>l9 (x8 k 39) (l9 (x8 (o9 ms) 0) ((0,0,0),6) (JO (t.1,0,a.1))) (JO (t.1,0,a.1))) ((0,0,0),8)
theorem PS(k N:Int)(env:aV)(t:Int×Int)(ht:G6 env.2.2.2.2.1 N=some t)(h0:0<=N)(hl:env.2.2.2.1.length<=1000000):su (k,N) env=some (a5n k N t env.2.2.2.1):=by
 unfold su a5n;simp only[ht,o8,a3r];cases SY k t
 .rfl
 simp only[E5,o6,o7];rw[show l9 (x8 k 37) (some (1:Int)) (some 0)=some (l9 (x8 k 37) 1 0) by cases x8 k 37<;>rfl,o8];apply pz env.2.2.2.1 (JP k N t) (λb i=>(((0,0,0),b.1,i):V3×Int×Int)) (λb=>(((0,0,0),b.1):V3×Int)) (λi b=>b.2=decide (i=0)) (l9 (x8 k 37) 1 0,true) hl rfl
 .intro i m b hi hi' hb;have hm:=F8 env.2.2.2.1 i;rw[hi]at hm;have hlt:(i:Int)<o9 env.2.2.2.1:=by
   have:=X7.1 hi;obtain⟨h,_⟩:=this;unfold o9;omega
  simp only[U6 hlt,o7,hm,o8];refine⟨?_,?_⟩
  .unfold JP a3e;by_cases g:o9 m<=N
   .rw[Y5 g,tJ (.inr (N7 g))];rfl
   .rw[Y9 l7];obtain⟨x,hx,_⟩:=lZ h0 (show N<o9 m by omega);simp only[o6,hx,o8];cases x8 x.1 0
    case true=>rfl
    simp only[o6,o8,U0,b5t];cases VY x t
    .rfl
    simp only[E5,o6,o7,b5s,o8,Uw];have hz:x8 (i:Int) 0=b.2:=by rw[hb];unfold x8;congr 1;simp
    rw[hz];unfold JO;cases plB (t.1,0,JL k b.1 x.2.2 b.2)
    .rfl
    .rw[Y3 l7];rfl
  .intro b' hb';unfold JP at hb';cases hf:a3e m N t with
   |inr c=>rw[hf]at hb';cases hb'|inl x=>rw[hf]at hb';simp only at hb';cases hp:plB (t.1,0,JL k b.1 x.2.2 b.2)<;>rw[hp]at hb'<;>cases hb';simp
 .intro b hb;rw[N7 (show o9 env.2.2.2.1<=(env.2.2.2.1.length:Int)from aX _)];rfl
 .intro _;cases bF (JP k N t) env.2.2.2.1 (l9 (x8 k 37) 1 0,true)with
  |inr c=>rfl|inl a=>simp only[U0,Uw,o8];cases x8 k 39<;>cases x8 (o9 env.2.2.2.1) 0<;>rfl
theorem a7q{x:V3}{t:Int×Int}(h:VY x t=true):plB x=true/\x.1=t.1/\x.2.1=t.2:=by
 unfold VY at h;cases h1:plB x<;>rw[h1]at h
 .cases h
 cases h2:x8 x.1 t.1<;>rw[h2]at h
 .cases h
 simp only[o7]at h;exact⟨rfl,P7.1 h2,P7.1 h⟩
variable {k:Int}
theorem QR(hk:k=1)(h:plB (k,0,n)=true):n=0\/n=1:=by subst hk;rcases a7P h with⟨m,h,g⟩|⟨m,h,g⟩|⟨m,h,g⟩|⟨m,h,g⟩|⟨m,h,g⟩|⟨e',m,h,g⟩<;>cases h;exact g
theorem Wq{t:Int×Int}(h:SY k t=true):t.2=0:=by
 unfold SY at h;cases g:x8 t.2 0<;>rw[g]at h
 .cases h
 exact P7.1 g
theorem a9T{t:Int×Int}(h:SY 37 t=true):t.1=1:=by have:=Wq h;unfold SY at h;rw[O5 this]at h;exact P7.1 h
theorem b1K(k N:Int)(t:Int×Int)(hk:k=36\/k=37\/k=38\/k=39)(ha:SY k t=true)(b:Int×Bool)(x:V3)(hx:VY x t=true)(i:Nat)(hi:i<=1000000)(hb:b.2=decide (i=0))(hp:k=36\/b.2=true/\k=39\/plB (t.1,0,b.1)=true)(v:V3)(hv:v=(0,0,0)):
  (l9 (x8 k 36) (o5 (iR (t.1,t.2,C9 .i64 b.1 x.2.2)) λ(q:Bool)=>l9 (F7 q) (some (Out.rt (((0,0,0),3):V3×Int))) (some (Out.nx ((v,(t.1,t.2,C9 .i64 b.1 x.2.2),C9 .i64 (i:Int) 1):V3×V3×Int))))
   (l9 (x8 k 37) (some (Out.nx (v,(t.1,t.2,qU b.1 x.2.2),C9 .i64 (i:Int) 1)))
    (l9 (x8 k 38) (some (Out.nx (v,(t.1,t.2,pO b.1 x.2.2),C9 .i64 (i:Int) 1)))
     (l9 (x8 k 39) (l9 (x8 (i:Int) 0) (some (Out.nx (v,x,C9 .i64 (i:Int) 1))) (l9 (D9 b.1 x.2.2) (some (Out.nx (v,x,C9 .i64 (i:Int) 1))) (some (Out.nx (v,(t.1,t.2,b.1),C9 .i64 (i:Int) 1)))))
      (some (Out.nx (v,(t.1,t.2,b.1),C9 .i64 (i:Int) 1)))))):Option (Out (V3×V3×Int) (V3×V3) (V3×Int)))=
  some (match(l9 (plB (t.1,0,JL k b.1 x.2.2 b.2)) (.inl (JL k b.1 x.2.2 b.2,false)) (.inr ((0,0,0),3)):(Int×Bool)⊕(V3×Int))with| .inl b' => .nx ((0,0,0),(t.1,t.2,b'.1),((i+1:Nat):Int))| .inr r=> .rt r)/\
  (k≠36->plB (t.1,0,JL k b.1 x.2.2 b.2)=true):=by
 subst hv;have hz:=Wq ha;obtain⟨hx1,hx2,hx3⟩:=a7q hx;have hxe:x=(t.1,t.2,x.2.2):=by rw[←hx2,←hx3]
 have hxp:plB (t.1,0,x.2.2)=true:=by rw[←hz,←hxe];exact hx1
 obtain⟨acc,fi⟩:=b;simp only at hb hp ⊢;rw[Y3 l7];rcases hk with rfl|rfl|rfl|rfl
 .refine⟨?_,λh=>absurd rfl h⟩;simp (disch:=decide) only[O5,o7,Aa,o8];rw[hz,show JL 36 acc x.2.2 fi=C9 .i64 acc x.2.2 from rfl];cases plB (t.1,0,C9 .i64 acc x.2.2)<;>rfl
 .have ht1:=a9T ha;have hp' :plB (t.1,0,acc)=true:=by
   rcases hp with h|h|h
   .exact absurd h H9
   .exact absurd h.2 H9
   .exact h
  have e1:=QR ht1 hp';have e2:=QR ht1 hxp;have e3:JL 37 acc x.2.2 fi=qU acc x.2.2/\plB (t.1,0,JL 37 acc x.2.2 fi)=true:=by rw[ht1];generalize x.2.2=q at e2 ⊢;rcases e1 with rfl|rfl<;>rcases e2 with rfl|rfl<;>exact⟨rfl,rfl⟩
  refine⟨?_,λ_=>e3.2⟩;simp (disch:=decide) only[O5,O8,o7,o6];rw[e3.2,e3.1,o7]
 .have ht1:t.1=1:=by
   unfold SY at ha;rw[O5 hz]at ha;exact P7.1 ha
  have hp' :plB (t.1,0,acc)=true:=by
   rcases hp with h|h|h
   .exact absurd h H9
   .exact absurd h.2 H9
   .exact h
  have e1:=QR ht1 hp';have e2:=QR ht1 hxp;have e3:JL 38 acc x.2.2 fi=pO acc x.2.2/\plB (t.1,0,JL 38 acc x.2.2 fi)=true:=by rw[ht1];generalize x.2.2=q at e2 ⊢;rcases e1 with rfl|rfl<;>rcases e2 with rfl|rfl<;>exact⟨rfl,rfl⟩
  refine⟨?_,λ_=>e3.2⟩;simp (disch:=decide) only[O5,O8,o7,o6];rw[e3.2,e3.1,o7]
 .have hf:JL 39 acc x.2.2 fi=l9 fi x.2.2 (l9 (D9 acc x.2.2) x.2.2 acc):=rfl;simp (disch:=decide) only[O5,O8,o7,o6];rw[hf];have hz' :x8 (i:Int) 0=fi:=by rw[hb];unfold x8;congr 1;simp
  rw[hz'];cases fi
  case true=>simp only[o7,hxp];exact⟨by rw[←hxe],λ_=>trivial⟩
  case false=>
   have hp' :plB (t.1,0,acc)=true:=by
    rcases hp with h|h|h
    .exact absurd h H9
    .exact absurd h.1 x9
    .exact h
   simp only[o6];cases D9 acc x.2.2
   .simp only[o6,hp',o7];exact⟨trivial,λ_=>trivial⟩
   .simp only[o7,hxp];exact⟨by rw[←hxe],λ_=>trivial⟩
theorem b1b{γ:Type}(c:Option γ)(K:γ->Option (V3×Int)):b1a (o5 c K)=o5 c λo=>b1a (K o):=by cases c<;>rfl
theorem uJ{α β ρ:Type}(G:β->α->β⊕ρ)(P:ρ->Prop)(hG:∀b a r,G b a= .inr r->P r):∀(l:List α) (b:β) (r:ρ),bF G l b= .inr r->P r
 |[],b,r,h=>by cases h|a::l,b,r,h=>by
  unfold bF at h;cases hg:G b a with
  |inr r' =>rw[hg]at h;simp only at h;cases h;exact hG _ _ _ hg|inl b' =>rw[hg]at h;exact uJ G P hG l b' r h
theorem b3Z(k N:Int)(t:Int×Int)(b:Int×Bool)(m:List V3)(r:V3×Int)(h:JP k N t b m= .inr r):r=((0,0,0),6)\/r=((0,0,0),8)\/r=((0,0,0),3):=by
 unfold JP at h;cases hf:a3e m N t with
 |inr c=>
  rw[hf]at h;simp only at h;cases h;unfold a3e at hf;cases hm:G6 m N with
  |none=>rw[hm]at hf;cases hf;exact .inl rfl|some x=>
   rw[hm]at hf;simp only at hf;cases h1:x8 x.1 0<;>rw[h1]at hf
   .cases h2:VY x t<;>rw[h2]at hf<;>cases hf;exact .inr (.inl rfl)
   .cases hf;exact .inl rfl
 |inl x=>rw[hf]at h;simp only at h;cases h1:plB (t.1,0,JL k b.1 x.2.2 b.2)<;>rw[h1]at h<;>cases h;exact .inr (.inr rfl)
theorem Yo(k N:Int)(env:aV)(hk:k=36\/k=37\/k=38\/k=39)(he:jP (k,N) env=some true)(hl:env.2.2.2.1.length<=1000000):jE (k,N) [] env:=by
 have hN:0<=N/\N<o9 env.2.2.2.2.1:=by
  unfold jP at he;rcases hk with rfl|rfl|rfl|rfl <;>
  .simp (disch:=decide) only[O5,O8,o7,o6,o8]at he;by_cases g:0<=N
   case neg=>rw[Y9 l7]at he;cases he
   rw[Y5 g,o7]at he;exact⟨g,jK.1 (P5 he)⟩
 obtain⟨t,ht,_⟩:=lZ hN.1 hN.2;refine⟨a5n k N t env.2.2.2.1,?_,?_⟩
 .unfold RP;rw[ll0,show L6 36 k=true from Y5 l7,show L6 k 39=true from Y5 l7,PS k N env t ht hN.1 hl];rfl
 have hA:aZ (k,N) [] env=some (SY k t):=by
  unfold aZ;rcases hk with rfl|rfl|rfl|rfl <;>
  .simp (disch:=decide) only[O5,O8,o7,o6,o8,ht,a0P,uj]
 have hC:bf (k,N) [] env=wK (k,N) env:=by
  unfold bf;rcases hk with rfl|rfl|rfl|rfl <;>
  .simp (disch:=decide) only[O5,O8,o7,o6,o8];generalize wK _ env=o;cases o<;>rfl
 unfold EP;rw[hA,o8,hC];unfold a5n;cases ha:SY k t
 .rfl
 simp only[E5,o6,o7];have hz:=Wq ha;unfold wK;simp only[ht,o8];rw[show l9 (x8 k 37) (some (t.1,t.2,(1:Int))) (some (t.1,t.2,0))=some (t.1,t.2,l9 (x8 k 37) 1 0) by cases x8 k 37<;>rfl,o8];have hinit:k=36\/(true=true/\k=39)\/plB (t.1,0,l9 (x8 k 37) 1 0)=true:=by
  rcases hk with rfl|rfl|rfl|rfl
  .exact .inl rfl
  .right;right;rw[a9T ha];rfl
  .right;right;have ht1:t.1=1:=by
    unfold SY at ha;rw[O5 hz]at ha;exact P7.1 ha
   rw[ht1];rfl
  .exact .inr (.inl ⟨rfl,rfl⟩)
 by_cases hz0:k=39/\o9 env.2.2.2.1=0
 .rw[O5 hz0.1,O5 hz0.2];have:env.2.2.2.1=[]:=by have:=hz0.2;unfold o9 at this;exact S9.1 l7
  rw[this];rfl
 rw[show(l9 (x8 k 39) (l9 (x8 (o9 env.2.2.2.1) 0) (some (Sum.inr (((0,0,0),6):V3×Int))) (some (Sum.inl ((0,0,0):V3)))) (some (Sum.inl (0,0,0))))=some (.inl (0,0,0)) by
  by_cases h1:k=39
  .rw[O5 h1,O8 (λh=>hz0 ⟨h1,h⟩)];rfl
  .rw[O8 h1];rfl]
 simp only[o8,U0];have hend:(match bF (JP k N t) env.2.2.2.1 (l9 (x8 k 37) 1 0,true)with
  | .inr c=>c
  | .inl a=>l9 (x8 k 39) (l9 (x8 (o9 env.2.2.2.1) 0) ((0,0,0),6) (JO (t.1,0,a.1))) (JO (t.1,0,a.1)))=(match bF (JP k N t) env.2.2.2.1 (l9 (x8 k 37) 1 0,true)with
  | .inr c=>c
  | .inl a=>JO (t.1,0,a.1)):=by
  cases bF (JP k N t) env.2.2.2.1 (l9 (x8 k 37) 1 0,true)with
  |inr c=>rfl|inl a=>
   by_cases h1:k=39
   .rw[O5 h1,O8 (λh=>hz0 ⟨h1,h⟩)];rfl
   .rw[O8 h1];rfl
 refine Eq.trans ?_ (congrArg some hend.symm);rw[b1b];apply pz env.2.2.2.1 (JP k N t) (λb i=>(((0,0,0),(t.1,t.2,b.1),i):V3×V3×Int)) (λb=>(((0,0,0),(t.1,t.2,b.1)):V3×V3)) (λi b=>b.2=decide (i=0)/\(k=36\/(b.2=true/\k=39)\/plB (t.1,0,b.1)=true)) (l9 (x8 k 37) 1 0,true) hl ⟨rfl,hinit⟩
 .intro i m b hi hi' hb;have hm:=F8 env.2.2.2.1 i;rw[hi]at hm;have hlt:(i:Int)<o9 env.2.2.2.1:=by
   have:=X7.1 hi;obtain⟨h,_⟩:=this;unfold o9;omega
  simp only[U6 hlt,o7,hm,o8];by_cases g:o9 m<=N
  .have e:JP k N t b m= .inr ((0,0,0),6):=by unfold JP a3e;rw[tJ (.inr (N7 g))]
   rw[e];refine⟨?_,λ_ h=>by cases h⟩;rw[Y5 g];rfl
  rw[Y9 l7];obtain⟨x,hx,_⟩:=lZ hN.1 (show N<o9 m by omega);simp only[o6,hx,o8];cases h0:x8 x.1 0
  case true=>
   have e:JP k N t b m= .inr ((0,0,0),6):=by unfold JP a3e;rw[hx];simp only[h0];rfl
   rw[e];exact⟨rfl,λ_ h=>by cases h⟩
  simp only[o6,o8,U0,ZF];cases hh:VY x t
  .have e:JP k N t b m= .inr ((0,0,0),8):=by unfold JP a3e;rw[hx];simp only[h0,hh];rfl
   rw[e];exact⟨rfl,λ_ h=>by cases h⟩
  have e:JP k N t b m=l9 (plB (t.1,0,JL k b.1 x.2.2 b.2)) (.inl (JL k b.1 x.2.2 b.2,false)) (.inr ((0,0,0),3)):=by unfold JP a3e;rw[hx];simp only[h0,hh,o7,o6]
  obtain⟨s1,s2⟩:=b1K k N t hk ha b x hh i hi' hb.1 hb.2 (0,0,0) rfl;refine⟨?_,?_⟩
  .rw[e,E5,o6];refine Eq.trans (Eq.trans ?_ s1) ?_
   .rfl
   .cases plB (t.1,0,JL k b.1 x.2.2 b.2)<;>rfl
  .intro b' hb';rw[e]at hb';cases hp:plB (t.1,0,JL k b.1 x.2.2 b.2)<;>rw[hp]at hb'<;>cases hb';exact⟨x9,.inr (.inr hp)⟩
 .intro b hb;rw[N7 (show o9 env.2.2.2.1<=(env.2.2.2.1.length:Int)from aX _)];rfl
 .intro hf;cases hq:bF (JP k N t) env.2.2.2.1 (l9 (x8 k 37) 1 0,true)with
  |inr c=>rcases uJ (JP k N t) (λr=>r=((0,0,0),6)\/r=((0,0,0),8)\/r=((0,0,0),3)) (b3Z k N t) _ _ _ hq with rfl|rfl|rfl<;>rfl
  |inl a=>simp only[U0,Fq,Qu,hz]
theorem b0f{k e n:Int}(hk:k=5)(h:plB (k,e,n)=true):0<=n/\n<=109572:=by subst hk;rcases a7P h with⟨m,h,g⟩|⟨m,h,g⟩|⟨m,h,g⟩|⟨m,h,g⟩|⟨m,h,g⟩|⟨e',m,h,g⟩<;>cases h;exact g
theorem c0V(N:Int)(x:V3)(env:aV):jE (10,N) [x] env:=by
 unfold jE RP EP pX aZ bf Jc uX;simp (disch:=decide) only[dA];simp only[Js,FM,o8];cases l9 (L6 2 x.1) (L6 x.1 4) false
 .exact⟨_,rfl,rfl⟩
 .simp (disch:=decide) only[dA];exact⟨_,rfl,rfl⟩
theorem c1b(N:Int)(x:V3)(env:aV):jE (25,N) [x] env:=by
 unfold jE RP EP pX aZ bf Jc uX;simp (disch:=decide) only[dA];cases x8 x.1 1
 .exact⟨_,rfl,rfl⟩
 .simp (disch:=decide) only[dA];exact⟨_,rfl,rfl⟩
theorem a9s(k N:Int)(x:V3)(env:aV)(hk:k=31\/k=32)(hx:plB x=true):jE (k,N) [x] env:=by
 have hAB:∃q:Int×Int×Int,x.1=5->yT x.2.2=some q/\Dp x.2.2=some q:=⟨_,λh=>⟨Gg (b0f h hx).1 (b0f h hx).2,PU (b0f h hx).1 (b0f h hx).2⟩⟩;obtain⟨q,hAB⟩:=hAB;rcases hk with rfl|rfl
 all_goals
  unfold jE RP EP pX aZ bf Jc uX;simp (disch:=decide) only[dA];cases h5:x8 x.1 5
  .simp only[bg,o7,o8,uj];exact⟨_,rfl,rfl⟩
  rw[(hAB (P7.1 h5)).1,(hAB (P7.1 h5)).2];simp (disch:=decide) only[dA];exact⟨_,rfl,rfl⟩
theorem c1g(N:Int)(x:V3)(env:aV)(hx:plB x=true)(he:jP (33,N) env=some true)(ht:∀t∈env.2.2.2.2.2,ru t):jE (33,N) [x] env:=by
 unfold jP at he;simp (disch:=decide) only[O5,O8,o7,o6,o8]at he;by_cases g:0<=N
 case neg=>rw[Y9 l7]at he;cases he
 rw[Y5 g,o7]at he;obtain⟨t,hq,hm⟩:=lZ g (jK.1 (P5 he));have hr:=ht t hm;unfold jE RP EP pX aZ bf NZ;simp (disch:=decide) only[dA];simp only[hq,o8,ZF,VY,hx,o7];by_cases h1:x.1=t.2.1.1
 case neg=>rw[O8 h1];exact⟨_,rfl,rfl⟩
 rw[O5 h1];by_cases h2:x.2.1=t.2.1.2
 case neg=>rw[O8 h2];exact⟨_,rfl,rfl⟩
 rw[O5 h2];by_cases h3:1<=t.2.2.1.1
 case neg=>rw[Y9 (lT.1 h3),U6 (lT.1 h3)];exact⟨_,rfl,rfl⟩
 rw[Y5 h3,N7 h3];by_cases h4:t.2.2.1.1<=6
 case neg=>rw[Y9 (lT.1 h4),U6 (lT.1 h4)];exact⟨_,rfl,rfl⟩
 rw[Y5 h4,N7 h4];simp (disch:=decide) only[dA];rw[b1n _ _ (by have:=hr.1;omega),a7T _ _ (by have:=hr.1;omega)];simp (disch:=decide) only[dA];cases hl:ZU t.2.2.2 env.1 x.2.2 with
 |mk i b=>
  cases b
  .exact⟨_,rfl,rfl⟩
  .obtain⟨l1,l2⟩:=b3U hl;obtain⟨row,hrow,_⟩:=lZ l1 l2;simp (disch:=decide) only[dA];rw[hrow];simp (disch:=decide) only[dA];unfold JO;cases plB (t.2.2.1.1,t.2.2.1.2,row.2.2.2)<;>exact⟨_,rfl,rfl⟩
theorem c1h(N:Int)(x:V3)(env:aV)(h0:0<=N)(hI:N<=9223372036854775807)(he:jP (34,N) env=some true)(ht:∀t∈env.2.2.2.2.2,ru t):jE (34,N) [x] env:=by
 unfold jP at he;simp (disch:=decide) only[O5,O8,o7,o6,o8]at he;have hq0:0<=dY .i64 N 8:=by
  rw[show dY .i64 N 8=N / 8 by unfold dY;rw[Int.tdiv_eq_ediv_of_nonneg h0];exact oh U4]
  omega
 obtain⟨t,hq,hm⟩:=lZ hq0 (jK.1 (P5 he));have hr:=ht t hm;unfold jE RP EP pX aZ bf;simp (disch:=decide) only[dA];simp only[hq,o8];cases x8 x.1 3
 .exact⟨_,rfl,rfl⟩
 cases x8 t.2.1.1 3
 .exact⟨_,rfl,rfl⟩
 cases x8 t.2.1.2 0
 .exact⟨_,rfl,rfl⟩
 cases x8 t.2.2.1.1 4
 .exact⟨_,rfl,rfl⟩
 cases x8 t.2.2.1.2 0
 .exact⟨_,rfl,rfl⟩
 simp (disch:=decide) only[dA];rw[show jl true true=true from rfl];simp (disch:=decide) only[dA];rw[a4u _ _ _ hr,a3s _ _ _ hr];simp (disch:=decide) only[dA];exact⟨_,rfl,rfl⟩
theorem YB(x y:V3):vV x y=some (l9 (x8 x.1 y.1) (x8 x.2.1 y.2.1) false):=by unfold vV;cases x8 x.1 y.1<;>rfl
theorem a9p(k N:Int)(x y:V3)(env:aV)(hk:k=11\/k=12):jE (k,N) [x,y] env:=by
 rcases hk with rfl|rfl
 all_goals
  (unfold jE RP EP aZ bf lg cO jk;simp (disch:=decide) only[dA])
  unfold tV;simp (disch:=decide) only[dA];simp only[YB,FM,Js,o8];cases x8 x.1 y.1
  .exact⟨_,rfl,rfl⟩
  cases x8 x.2.1 y.2.1
  .exact⟨_,rfl,rfl⟩
  cases l9 (L6 2 x.1) (L6 x.1 4) false
  .exact⟨_,rfl,rfl⟩
  simp (disch:=decide) only[dA];exact⟨_,rfl,rfl⟩
theorem b2T(k N:Int)(x y:V3)(env:aV)(hk:k=19\/k=20):jE (k,N) [x,y] env:=by
 rcases hk with rfl|rfl
 all_goals
  (unfold jE RP EP aZ bf lg cO jk;simp (disch:=decide) only[dA])
  unfold tV;simp (disch:=decide) only[dA];simp only[YB,FM,Js,o8];cases x8 x.1 y.1
  .exact⟨_,rfl,rfl⟩
  cases x8 x.2.1 y.2.1
  .exact⟨_,rfl,rfl⟩
  simp (disch:=decide) only[dA];exact⟨_,rfl,rfl⟩
theorem a9r(k N:Int)(x y:V3)(env:aV)(hk:k=21\/k=22):jE (k,N) [x,y] env:=by
 rcases hk with rfl|rfl
 all_goals
  (unfold jE RP EP aZ bf lg cO jk;simp (disch:=decide) only[dA])
  unfold tV;simp (disch:=decide) only[dA];simp only[YB,FM,Js,o8];cases x8 x.1 y.1
  .exact⟨_,rfl,rfl⟩
  cases x8 x.2.1 y.2.1
  .exact⟨_,rfl,rfl⟩
  simp (disch:=decide) only[dA];cases l9 (L6 2 x.1) (L6 x.1 4) false
  .simp (disch:=decide) only[dA];cases x8 x.1 5
   .exact⟨_,rfl,rfl⟩
   simp (disch:=decide) only[dA];exact⟨_,rfl,rfl⟩
  simp (disch:=decide) only[dA];exact⟨_,rfl,rfl⟩
theorem YR(k N:Int)(x y:V3)(env:aV)(hk:k=17\/k=18)(hx:plB x=true)(hy:plB y=true):jE (k,N) [x,y] env:=by
 have mx:JO x=(x,0):=by unfold JO;rw[hx];rfl
 have my:JO y=(y,0):=by unfold JO;rw[hy];rfl
 have hE:x.1=y.1->x.2.1=y.2.1->x.2.2=y.2.2->x=y:=λh1 h2 h3=>by rw[show x=(x.1,x.2.1,x.2.2)from rfl,h1,h2,h3]
 have fin:x.1=y.1->x.2.1=y.2.1->∀b:Bool,(∃r:V3×Int,l9 (jO b (D9 x.2.2 y.2.2)) (some (x,0)) (some (y,0))=some r/\b1a (l9 (jO b (D9 y.2.2 x.2.2)) (some (y,0)) (some (x,0)))=some r):=by
  intro h1 h2 b;by_cases g:x.2.2<y.2.2
  .rw[U6 g,N7 (Int.le_of_lt g)];cases b
   .exact⟨(y,0),rfl,by rw[show l9 (jO false false) (some (y,(0:Int))) (some (x,0))=some (y,0)from rfl,Fq,Qu,my]⟩
   .exact⟨(x,0),rfl,by rw[show l9 (jO true false) (some (y,(0:Int))) (some (x,0))=some (x,0)from rfl,Fq,Qu,mx]⟩
  by_cases g' :y.2.2<x.2.2
  .rw[U6 g',N7 (Int.le_of_lt g')];cases b
   .exact⟨(x,0),rfl,by rw[show l9 (jO false true) (some (y,(0:Int))) (some (x,0))=some (x,0)from rfl,Fq,Qu,mx]⟩
   .exact⟨(y,0),rfl,by rw[show l9 (jO true true) (some (y,(0:Int))) (some (x,0))=some (y,0)from rfl,Fq,Qu,my]⟩
  have e:=hE h1 h2 (Int.le_antisymm (iQ.1 g') (iQ.1 g));refine⟨(x,0),?_,?_⟩
  .rw[e];cases jO b (D9 y.2.2 y.2.2)<;>rfl
  .rw[←e];rw[show l9 (jO b (D9 x.2.2 x.2.2)) (some (x,(0:Int))) (some (x,0))=some (x,0) by cases jO b (D9 x.2.2 x.2.2)<;>rfl,Fq,Qu,mx]
 have osum:∀(c:Bool),(o5 (l9 c (some (Sum.inr (y,(0:Int)):V3⊕(V3×Int))) (some (.inr (x,0)))) λo=>ah o (λ_=>o5 (qF x.2.2 y.2.2) λ(q:Int)=>some ((2,0,q),(0:Int))) λr=>some r)=l9 c (some (y,0)) (some (x,0)):=λc=>by cases c<;>rfl
 rcases hk with rfl|rfl
 all_goals
  (unfold jE RP EP aZ bf lg cO jk;simp (disch:=decide) only[dA])
  unfold tV;simp (disch:=decide) only[dA];simp only[YB,FM,Js,o8];cases g1:x8 x.1 y.1
  .exact⟨_,rfl,rfl⟩
  cases g2:x8 x.2.1 y.2.1
  .exact⟨_,rfl,rfl⟩
  simp (disch:=decide) only[dA];have F:=fin (P7.1 g1) (P7.1 g2);rw[osum];cases l9 (L6 2 x.1) (L6 x.1 4) false
  .simp (disch:=decide) only[dA];cases x8 x.1 5
   .exact⟨_,rfl,rfl⟩
   simp (disch:=decide) only[dA];simp only[gU];first|exact F true|exact F false
  simp (disch:=decide) only[dA];simp only[gU];first|exact F true|exact F false
theorem c1c(N:Int)(x y:V3)(env:aV):jE (27,N) [x,y] env:=by
 (unfold jE RP EP aZ bf lg cO jk;simp (disch:=decide) only[dA])
 unfold zA;simp (disch:=decide) only[dA];cases g1:x8 x.1 5
 .exact⟨_,rfl,rfl⟩
 cases x8 y.1 2
 .exact⟨_,rfl,rfl⟩
 simp (disch:=decide) only[dA];rw[P7.1 g1];exact⟨_,rfl,rfl⟩
theorem c1d(N:Int)(x y:V3)(env:aV):jE (28,N) [x,y] env:=by
 have hA:∃q,wI x.2.2 y.2.2=some q/\oG x.2.2 y.2.2=some q:=⟨_,TR _ _,Si _ _⟩;obtain⟨q,h1,h2⟩:=hA
 (unfold jE RP EP aZ bf lg cO jk;simp (disch:=decide) only[dA])
 unfold zA;simp (disch:=decide) only[dA];cases g1:x8 x.1 5
 .exact⟨_,rfl,rfl⟩
 cases x8 y.1 2
 .exact⟨_,rfl,rfl⟩
 simp (disch:=decide) only[dA];rw[h1,h2];simp (disch:=decide) only[dA];exact⟨_,rfl,rfl⟩
theorem c1e(N:Int)(x y:V3)(env:aV):jE (29,N) [x,y] env:=by
 (unfold jE RP EP aZ bf lg cO jk;simp (disch:=decide) only[dA])
 unfold zA;simp (disch:=decide) only[dA];cases g1:x8 x.1 5
 .exact⟨_,rfl,rfl⟩
 cases x8 y.1 5
 .exact⟨_,rfl,rfl⟩
 simp (disch:=decide) only[dA];exact⟨_,rfl,rfl⟩
theorem c1f(N:Int)(x y:V3)(env:aV):jE (30,N) [x,y] env:=by
 have hA:∃q,qF x.2.2 y.2.2=some q/\tN x.2.2 y.2.2=some q:=⟨_,Yl _ _,WH _ _⟩;obtain⟨q,h1,h2⟩:=hA
 (unfold jE RP EP aZ bf lg cO jk;simp (disch:=decide) only[dA])
 unfold zA;simp (disch:=decide) only[dA];cases g1:x8 x.1 5
 .exact⟨_,rfl,rfl⟩
 cases x8 y.1 5
 .exact⟨_,rfl,rfl⟩
 simp (disch:=decide) only[dA];rw[h1,h2];simp (disch:=decide) only[dA];exact⟨_,rfl,rfl⟩
theorem c0X(N:Int)(x y:V3)(env:aV):jE (14,N) [x,y] env:=by
 have hA:∃q,Ju x.2.2 y.2.2 N=some q/\GM x.2.2 y.2.2 N=some q:=⟨_,b2U _ _ _,b1Q _ _ _⟩;have hB:∃q,PT x.2.2 y.2.2 N=some q/\ML x.2.2 y.2.2 N=some q:=⟨_,b9e _ _ _,b5u _ _ _⟩;obtain⟨q,h1,h2⟩:=hA;obtain⟨q',h3,h4⟩:=hB
 (unfold jE RP EP aZ bf lg cO jk;simp (disch:=decide) only[dA])
 unfold Aj CY;simp (disch:=decide) only[dA];rw[h1,h2,h3,h4];cases x8 y.1 4
 .exact⟨_,rfl,rfl⟩
 by_cases g3:x.1=3
 .rw[O5 g3];simp (disch:=decide) only[dA];exact⟨_,rfl,rfl⟩
 rw[O8 g3];simp (disch:=decide) only[dA];cases x8 x.1 4
 .exact⟨_,rfl,rfl⟩
 simp (disch:=decide) only[dA];exact⟨_,rfl,rfl⟩
theorem c0Z(N:Int)(x y:V3)(env:aV):jE (16,N) [x,y] env:=by
 have hA:∃q,Bh x.2.2 y.2.2 N=some q/\Bj x.2.2 y.2.2 N=some q:=⟨_,a8c _ _ _,a5O _ _ _⟩;obtain⟨q,h1,h2⟩:=hA
 (unfold jE RP EP aZ bf lg cO jk;simp (disch:=decide) only[dA])
 unfold Aj CY;simp (disch:=decide) only[dA];rw[h1,h2];cases x8 x.1 3
 .exact⟨_,rfl,rfl⟩
 cases x8 y.1 3
 .exact⟨_,rfl,rfl⟩
 simp (disch:=decide) only[dA];exact⟨_,rfl,rfl⟩
theorem c0Y(N:Int)(x y:V3)(env:aV):jE (15,N) [x,y] env:=by
 have hA:∃q,jX x.2.2 y.2.2 N=some q/\zt x.2.2 y.2.2 N=some q:=⟨_,Kt _ _ _,a3u _ _ _⟩;have hB:∃q,zo x.2.2 y.2.2 N=some q/\xZ x.2.2 y.2.2 N=some q:=⟨_,a2R _ _ _,a0Z _ _ _⟩;obtain⟨q,h1,h2⟩:=hA;obtain⟨q',h3,h4⟩:=hB
 (unfold jE RP EP aZ bf lg cO jk;simp (disch:=decide) only[dA])
 unfold Aj CY;simp (disch:=decide) only[dA];rw[h1,h2,h3,h4];by_cases g2:y.1=2
 .rw[O5 g2,O8 (show y.1≠3 by rw[g2];decide)];simp (disch:=decide) only[dA];by_cases g3:x.1=3
  .rw[O5 g3,O8 (show x.1≠2 by rw[g3];decide)];simp (disch:=decide) only[dA];exact⟨_,rfl,rfl⟩
  rw[O8 g3];cases x8 x.1 2
  .exact⟨_,rfl,rfl⟩
  simp (disch:=decide) only[dA];exact⟨_,rfl,rfl⟩
 rw[O8 g2];simp (disch:=decide) only[dA];cases x8 x.1 3
 .exact⟨_,rfl,rfl⟩
 simp (disch:=decide) only[dA];cases x8 y.1 3
 .exact⟨_,rfl,rfl⟩
 simp (disch:=decide) only[dA];exact⟨_,rfl,rfl⟩
theorem CV(n:Int):(n<0/\aK n=-n)\/(0<=n/\aK n=n):=by
 unfold aK;by_cases h:n<0
 .left;exact⟨h,if_pos h⟩
 .right;exact⟨l7,if_neg h⟩
theorem a9k(a b:Int):(l9 (F7 (jO (D9 a 0) (D9 b 0))) (-(aK a*aK b)) (aK a*aK b))=a*b:=by
 rcases CV a with⟨h1,e1⟩|⟨h1,e1⟩<;>rcases CV b with⟨h2,e2⟩|⟨h2,e2⟩<;>rw[e1,e2]
 .rw[U6 h1,U6 h2];show -a*-b=a*b;rw[Int.neg_mul_neg]
 .rw[U6 h1,N7 h2];show -(-a*b)=a*b;rw[kL,Int.neg_neg]
 .rw[N7 h1,U6 h2];show -(a*-b)=a*b;rw[Int.mul_neg,Int.neg_neg]
 .rw[N7 h1,N7 h2];rfl
theorem a7Q{a b:Int}(ha:-1000000000000000<=a/\a<=1000000000000000)(hb:-1000000000000<=b/\b<=1000000000000):zS a b=some (l9 (D9 1000000000000000 (aK a*aK b)) (0,3) (a*b,0)):=by
 unfold zS;rw[Ul l7 l7,Ul l7 l7];have A0:0<=aK a/\aK a<=1000000000000000:=by rcases CV a with⟨h1,e1⟩|⟨h1,e1⟩<;>omega
 have B0:0<=aK b/\aK b<=1000000000000:=by rcases CV b with⟨h1,e1⟩|⟨h1,e1⟩<;>omega
 rw[UC A0.1 l7 B0.1 l7,o8];have hm:=a9k a b;have hp:0<=aK a*aK b:=X4 A0.1 B0.1;generalize aK a*aK b=p at hm hp ⊢;simp only;by_cases g:p / 18446744073709551616=0
 case neg=>rw[O8 g,U6 (show(1000000000000000:Int)<p by omega)];rfl
 rw[O5 g,show p % 18446744073709551616=p by omega];by_cases g2:1000000000000000<p
 .rw[U6 g2];rfl
 rw[N7 l7];simp only[E5,o6];rw[show wrap .i64 p=p from oh U4,X3 U4,show(0:Int) -p=-p by omega];rw[←hm];cases F7 (jO (D9 a 0) (D9 b 0))<;>rfl
theorem Oc{x y M:Int}(W:V3×Int)(hy:0<=y)(hM:0<=M)(hM2:M<=1000000000000000):l9 (F7 (x8 y 0)) (o5 (qV .i64 M y) λ(q:Int)=>l9 (D9 q x) (some ((0,0,0),3)) (some W)) (some W)=some (l9 (D9 M (x*y)) ((0,0,0),3) W):=by
 by_cases h:y=0
 .subst h;rw[O5 rfl,Int.mul_zero,N7 hM];rfl
 rw[O8 h];simp only[bg,o7];rw[yj hM l7 l7,o8];have e:M / y<x↔M<x*y:=Int.ediv_lt_iff_lt_mul l7;by_cases g:M / y<x
 .rw[U6 g,U6 (e.1 g)];rfl
 .rw[N7 (iQ.1 g),N7 (iQ.1 λh=>g (e.2 h))];rfl
theorem a5N{k a b M:Int}(hM:Ai k=some (-M,M))(hM0:0<=M)(hM2:M<=1000000000000000)(ha:-1000000000000000<=a/\a<=1000000000000000)(hb:-1000000000000<=b/\b<=1000000000000):yA k a b=some (l9 (D9 M (aK a*aK b)) ((0,0,0),3) (JO (k,0,az .i64 a b))):=by
 unfold yA;rw[hM,o8];simp only[Uw,o8];have sa:J9 .i64 0 a=-a:=by rw[X3 U4];omega
 have sb:J9 .i64 0 b=-b:=by rw[X3 U4];omega
 rw[sa,sb];rcases CV a with⟨h1,e1⟩|⟨h1,e1⟩<;>rcases CV b with⟨h2,e2⟩|⟨h2,e2⟩<;>rw[e1,e2]
 .rw[U6 h1,U6 h2];exact Oc _ l7 hM0 hM2
 .rw[U6 h1,N7 h2];exact Oc _ l7 hM0 hM2
 .rw[N7 h1,U6 h2];exact Oc _ l7 hM0 hM2
 .rw[N7 h1,N7 h2];exact Oc _ l7 hM0 hM2
theorem D_{k a b M:Int}(hk:IX k=(-M,M))(hM0:0<=M)(hM2:M<=1000000000000000)(ha:-1000000000000000<=a/\a<=1000000000000000)(hb:-1000000000000<=b/\b<=1000000000000):∃r:V3×Int,yA k a b=some r/\∃q:Int×Int,zS a b=some q/\a0D (k,0,q.1) q.2=r:=by
 refine⟨_,a5N (by rw[a9x,hk]) hM0 hM2 ha hb,_,a7Q ha hb,?_⟩;have hm:=a9k a b;have hmd:aK a*aK b=aK (a*b):=by rcases CV (a*b)with⟨h,e⟩|⟨h,e⟩<;>(have hn:=X4 (mJ a) (mJ b);cases hq:F7 (jO (D9 a 0) (D9 b 0))<;>rw[hq]at hm<;>simp only[o7,o6]at hm<;>omega)
 rw[hmd];have habs:=CV (a*b);have hI:aK (a*b)<=1000000000000000->az .i64 a b=a*b:=λh=>nI U4;have hpl:M<aK (a*b)->plB (k,0,a*b)=false:=by
  intro h;unfold plB;rw[hk];simp only;by_cases g:-M<=a*b
  .rw[Y5 g,Y9 (show M<a*b by omega)];rfl
  .rw[Y9 l7];rfl
 generalize a*b=p at*;by_cases g:1000000000000000<aK p
 .rw[U6 g,U6 l7];rfl
 rw[N7 l7,hI l7];simp only[o6,Qu];by_cases g2:M<aK p
 .rw[U6 g2];unfold JO;rw[hpl g2];rfl
 .rw[N7 l7];rfl
theorem b0g{k e n:Int}(h:plB (k,e,n)=true):(k=2->-1000000000000<=n/\n<=1000000000000)/\(k=3->-1000000000000000<=n/\n<=1000000000000000):=by rcases a7P h with⟨m,h,g⟩|⟨m,h,g⟩|⟨m,h,g⟩|⟨m,h,g⟩|⟨m,h,g⟩|⟨e',m,h,g⟩<;>cases h<;>exact⟨λh=>by first|exact g|exact absurd h H9,λh=>by first|exact g|exact absurd h H9⟩
theorem c0W(N:Int)(x y:V3)(env:aV)(hx:plB x=true)(hy:plB y=true):jE (13,N) [x,y] env:=by
 have hX:=b0g (k:=x.1) (e:=x.2.1) (n:=x.2.2) hx;have hY:=b0g (k:=y.1) (e:=y.2.1) (n:=y.2.2) hy;have key:y.1=2->x.1=2\/x.1=3->∃r:V3×Int,yA x.1 x.2.2 y.2.2=some r/\∃q:Int×Int,zS x.2.2 y.2.2=some q/\a0D (x.1,0,q.1) q.2=r:=by
  intro h2 h;have hb:=hY.1 h2;rcases h with h|h
  .have ha:=hX.1 h;exact D_ (M:=1000000000000) (by rw[h];rfl) H9 H9 ⟨Int.le_trans H9 ha.1,Int.le_trans ha.2 H9⟩ hb
  .have ha:=hX.2 h;exact D_ (M:=1000000000000000) (by rw[h];rfl) H9 H9 ha hb
 (unfold jE RP EP aZ bf lg cO jk;simp (disch:=decide) only[dA])
 unfold Aj CY;simp (disch:=decide) only[dA];cases g2:x8 y.1 2
 .exact⟨_,rfl,rfl⟩
 by_cases g3:x.1=3
 .obtain⟨r,e1,q,e2,e3⟩:=key (P7.1 g2) (.inr g3);rw[O5 g3,O8 (show x.1≠2 by rw[g3];decide)];simp (disch:=decide) only[dA];rw[e1,e2];simp (disch:=decide) only[dA];exact⟨_,rfl,congrArg some e3⟩
 rw[O8 g3];cases g4:x8 x.1 2
 .exact⟨_,rfl,rfl⟩
 obtain⟨r,e1,q,e2,e3⟩:=key (P7.1 g2) (.inl (P7.1 g4));simp (disch:=decide) only[dA];rw[e1,e2];simp (disch:=decide) only[dA];exact⟨_,rfl,congrArg some e3⟩
theorem b2D:∀i:Fin 40,lX ((i.1:Nat):Int)=wo ((i.1:Nat):Int):=by decide+kernel
theorem b2V:∀i:Fin 40,(arF ((i.1:Nat):Int)=0->i.1∈[1,2,3,4,5,6,7,8,9,35,36,37,38,39])/\(arF ((i.1:Nat):Int)=1->i.1∈[10,25,31,32,33,34])/\(arF ((i.1:Nat):Int)=2->i.1∈[11,12,13,14,15,16,17,18,19,20,21,22,23,24,27,28,29,30])/\(arF ((i.1:Nat):Int)=3->i.1=26):=by decide+kernel
theorem c6k(h:k<1\/39<k):arF k=-1:=by
 unfold arF jA;rw[O8 (show k≠10 by omega),O8 (show k≠25 by omega),O8 (show k≠31 by omega),O8 (show k≠32 by omega),O8 (show k≠33 by omega),O8 (show k≠34 by omega),O8 (show k≠26 by omega)];rcases h with h|h
 .rw[Y9 (show k<1 by omega),Y9 (show k<35 by omega),Y9 (show k<11 by omega)];rfl
 .rw[Y5 (show 1<=k by omega),Y9 (show 9<k by omega),Y5 (show 35<=k by omega),Y9 (show 39<k by omega),Y5 (show 11<=k by omega),Y9 (show 30<k by omega)];rfl
theorem c1j(h:arF k≠-1):∃i:Fin 40,k=((i.1:Nat):Int):=by
 by_cases g:1<=k/\k<=39
 .exact⟨⟨k.toNat,l7⟩,by simp;omega⟩
 .exact absurd (c6k l7) h
theorem b8a(h:arF k≠-1):lX k=wo k:=by obtain⟨i,rfl⟩:=c1j h;exact b2D i
theorem a1V(k:Int):∃b,wo k=some b:=by unfold wo;cases L6 1 k<;>cases L6 k 8<;>cases L6 36 k<;>cases L6 k 39<;>cases x8 k 14<;>cases x8 k 15<;>cases x8 k 16<;>cases x8 k 33<;>exact⟨_,rfl⟩
def b1f(k N:Int):Bool:=l9 (l9 (x8 k 14) true (l9 (x8 k 15) true (x8 k 16))) (l9 (L6 0 N) (L6 N 5) false) (l9 (x8 k 34) (l9 (L6 0 N) (L6 (eX N 8) 5) false) (l9 (x8 k 6) (L6 0 N) true))
theorem a4S(k N:Int):(o5 (l9 (x8 k 14) (some (x8 k 14)) (l9 (x8 k 15) (some (x8 k 15)) (some (x8 k 16)))) λ(x:Bool)=>l9 x (l9 (L6 0 N) (some (L6 N 5)) (some false)) (l9 (x8 k 34) (l9 (L6 0 N) (some (L6 (eX N 8) 5)) (some false)) (l9 (x8 k 6) (some (L6 0 N)) (some true))))=some (b1f k N):=by unfold b1f;cases x8 k 14<;>cases x8 k 15<;>cases x8 k 16<;>cases L6 0 N<;>cases x8 k 34<;>cases x8 k 6<;>rfl
def a7m(k N:Int):Bool:=l9 (x8 N 0) (b1f k N) (l9 ((wo k).getD false) (b1f k N) false)
theorem b1d{k N c:Int}(h:arF k=c):Eu (k,N) c=some (a7m k N):=by unfold Eu a7m;rw[K_,o8,O5 h];simp only[E5,o6,a4S];obtain⟨b,hb⟩:=a1V k;rw[hb];cases x8 N 0<;>cases b<;>rfl
variable {N:Int}
theorem a6J(h:arF k≠-1):uG (k,N)=some (a7m k N):=by unfold uG a7m;rw[YT,o8,N7 (show 0<=arF k by have:=(LC k).2.2;omega)];simp only[o6,a4S];rw[b8a h];obtain⟨b,hb⟩:=a1V k;rw[hb];cases x8 N 0<;>cases b<;>rfl
theorem a9e(k N:Int):∃b,uG (k,N)=some b:=by
 by_cases h:arF k=-1
 .refine⟨false,?_⟩;unfold uG;rw[YT,o8,h];rfl
 .exact⟨_,a6J h⟩
theorem a4O(n:Int×Int)(env:aV):∃b,jP n env=some b:=by
 unfold jP;by_cases h7:n.1=7
 .rw[O5 h7,o7];cases L6 0 n.2<;>exact⟨_,rfl⟩
 rw[O8 h7,o6];by_cases h8:n.1=8
 .rw[O5 h8,o7];by_cases g:0<=n.2
  case neg=>rw[Y9 (lT.1 g)];exact⟨_,rfl⟩
  by_cases g2:n.2<o9 env.2.2.1
  case neg=>rw[Y5 g,N7 (iQ.1 g2)];exact⟨_,rfl⟩
  obtain⟨x,hx,_⟩:=lZ g g2;rw[Y5 g,U6 g2,hx];exact⟨_,rfl⟩
 rw[O8 h8,o6];cases x8 n.1 33
 .cases x8 n.1 34
  .cases x8 n.1 36<;>cases x8 n.1 37<;>cases x8 n.1 38<;>cases x8 n.1 39<;>cases L6 0 n.2<;>exact⟨_,rfl⟩
  .exact⟨_,rfl⟩
 .cases L6 0 n.2<;>exact⟨_,rfl⟩
variable {α:Type}
theorem b8j(l:List α)(p:α->Bool):l.all p= !l.any λv=> !p v:=by
 induction l with
 |nil=>rfl|cons a l ih=>rw[List.all_cons,jT,Bool.not_or,Bool.not_not,ih]
theorem b2S(l:List V3)(hl:l.length<=1000000):yH l=some (l.all plB):=by
 unfold yH;have e:=xw l (λv=> !plB v) false PUnit.unit (f:=λ(x:Int)=>l9 (D9 x (o9 l)) (o5 (G6 l x) λ(x_1:V3)=>o5 (iR x_1) λ(x_2:Bool)=>l9 (F7 x_2) (some (Out.rt false)) (some (Out.nx (C9 IntKind.i64 x 1)))) (some (Out.ex PUnit.unit))) hl
  (λi a hi=>by
   have hlt:(i:Int)<o9 l:=by have:=X7.1 hi;obtain⟨h,_⟩:=this;unfold o9;omega
   have hm:=F8 l i;rw[hi]at hm;simp only[U6 hlt,o7,hm,o8,Aa];cases plB a<;>rfl) (by rw[N7 (show o9 l<=(l.length:Int)from aX _)];rfl)
 rw[show ae _ _=_ from e];rw[b8j l plB];cases l.any λv=> !plB v<;>rfl
theorem b1P(l:List V3)(hl:l.length<=1000000){γ:Type}{K:V3⊕(V3×Int)->Option γ} :(o5 (ae
      (λ(x:V3×Int)=>
       l9 (D9 x.2 (o9 l))
        (o5 (G6 l x.2) λ(x_1:V3)=>
         o5 (ik x_1) λ(x_2:Bool)=>
          l9 (F7 x_2) (some (Out.rt (((0,0,0),8):V3×Int))) (some (Out.nx (x.1,C9 IntKind.i64 x.2 1))))
        (some (Out.ex x.1)))
      ((0,0,0),0)) K)=K (l9 (l.all plB) (.inl (0,0,0)) (.inr ((0,0,0),8))):=by
 have hf:∀(l:List V3) (u:V3),bF (λ(_:V3) (v:V3)=>(l9 (plB v) (.inl ((0,0,0):V3)) (.inr (((0,0,0),8):V3×Int)):V3⊕(V3×Int))) l (0,0,0)=l9 (l.all plB) (.inl (0,0,0)) (.inr ((0,0,0),8)):=by
  intro l u;induction l with
  |nil=>rfl|cons a l ih=>
   unfold bF;rw[List.all_cons];cases plB a
   .rfl
   .exact ih
 apply pz l (λ(_:V3) (v:V3)=>(l9 (plB v) (.inl ((0,0,0):V3)) (.inr (((0,0,0),8):V3×Int)):V3⊕(V3×Int))) (λb i=>((b,i):V3×Int)) (λb=>b) (λi b=>b=(0,0,0)) (0,0,0) hl rfl
 .intro i a b hi hi' hb;subst hb;have hlt:(i:Int)<o9 l:=by
   have:=X7.1 hi;obtain⟨h,_⟩:=this;unfold o9;omega
  have hm:=F8 l i;rw[hi]at hm;simp only[U6 hlt,o7,hm,o8,yx];cases plB a
  .exact⟨rfl,λ_ h=>by cases h⟩
  .exact⟨by rw[Y3 l7];rfl,λ_ h=>by cases h;rfl⟩
 .intro b hb;simp only[N7 (show o9 l<=(l.length:Int)from aX _),o6]
 .intro _;rw[hf l (0,0,0)];cases l.all plB<;>rfl
structure EvOk (env:aV):Prop where
 ms:env.2.2.2.1.length<=1000000
 tb:∀t∈env.2.2.2.2.2,ru t
theorem c0U(k N:Int)(args:List V3)(env:aV)(hE:EvOk env)(hN:-9223372036854775808<=N/\N<=9223372036854775807)(hk:k≠23/\k≠24/\k≠26)(ha:arF k=o9 args)(hf:a7m k N=true)(he:jP (k,N) env=some true)(hp:args.all plB=true):jE (k,N) args env:=by
 have hne:arF k≠-1:=by rw[ha];unfold o9;omega
 have hN34:k=34->0<=N:=by
  rintro rfl;unfold a7m at hf;have:b1f 34 N=true:=by
   cases g:x8 N 0<;>rw[g]at hf
   .exact hf
   .exact hf
  unfold b1f at this;by_cases g:0<=N
  .exact g
  .rw[Y9 l7]at this;cases this
 obtain⟨i,hi⟩:=c1j hne;obtain⟨a0,a1,a2,a3⟩:=b2V i;rw[←hi,ha]at a0 a1 a2 a3;match args,ha,hp with
 |[],ha,hp=>
  have:=a0 rfl;simp only[D6,uo,or_false]at this;rcases this with h|h|h|h|h|h|h|h|h|h|h|h|h|h<;>rw[h]at hi<;>subst hi
  .exact TS _ _ _ H9
  .exact TS _ _ _ H9
  .exact TS _ _ _ H9
  .exact TS _ _ _ H9
  .exact TS _ _ _ H9
  .exact c6g _ _
  .exact c6h _ _ he
  .exact c6i _ _ he
  .exact c6j _ _
  .exact c1i _ _
  .exact Yo _ _ _ H9 he hE.ms
  .exact Yo _ _ _ H9 he hE.ms
  .exact Yo _ _ _ H9 he hE.ms
  .exact Yo _ _ _ H9 he hE.ms
 |[x],ha,hp=>
  have hx:plB x=true:=by simpa using hp
  have:=a1 rfl;simp only[D6,uo,or_false]at this;rcases this with h|h|h|h|h|h<;>rw[h]at hi<;>subst hi
  .exact c0V _ _ _
  .exact c1b _ _ _
  .exact a9s _ _ _ _ H9 hx
  .exact a9s _ _ _ _ H9 hx
  .exact c1g _ _ _ hx he hE.tb
  .exact c1h _ _ _ (hN34 rfl) hN.2 he hE.tb
 |[x,y],ha,hp=>
  have hxy:plB x=true/\plB y=true:=by simpa using hp
  have:=a2 rfl;simp only[D6,uo,or_false]at this;rcases this with h|h|h|h|h|h|h|h|h|h|h|h|h|h|h|h|h|h<;>rw[h]at hi<;>subst hi
  .exact a9p _ _ _ _ _ H9
  .exact a9p _ _ _ _ _ H9
  .exact c0W _ _ _ _ hxy.1 hxy.2
  .exact c0X _ _ _ _
  .exact c0Y _ _ _ _
  .exact c0Z _ _ _ _
  .exact YR _ _ _ _ _ H9 hxy.1 hxy.2
  .exact YR _ _ _ _ _ H9 hxy.1 hxy.2
  .exact b2T _ _ _ _ _ H9
  .exact b2T _ _ _ _ _ H9
  .exact a9r _ _ _ _ _ H9
  .exact a9r _ _ _ _ _ H9
  .exact absurd rfl hk.1
  .exact absurd rfl hk.2.1
  .exact c1c _ _ _ _
  .exact c1d _ _ _ _
  .exact c1e _ _ _ _
  .exact c1f _ _ _ _
 |[x,y,z],ha,hp=>have h:=a3 rfl;rw[h]at hi;exact absurd hi hk.2.2|x::y::z::w::l,ha,hp=>
  have h1:=(LC k).2.2;have:o9 (x::y::z::w::l)=(l.length:Int)+4:=by unfold o9;simp<;>omega
  rw[this]at ha;omega
theorem a4m(k N:Int)(args:List V3)(env:aV)(hE:EvOk env)(hN:-9223372036854775808<=N/\N<=9223372036854775807)(hk:k≠23/\k≠24/\k≠26)(hl:args.length<=1000000):∃r:V3×Int,rZ (k,N) args env=some r/\CE (k,N) args env=some r:=by
 by_cases ha:arF k=o9 args
 case neg=>
  refine⟨((0,0,0),2),?_,?_⟩
  .unfold rZ Eu;rw[K_,o8,O8 ha];rfl
  .unfold CE;obtain⟨b,hb⟩:=a9e k N;rw[hb,o8];cases b
   .rfl
   .rw[YT,o8,O8 (λh=>ha h.symm)];rfl
 have hne:arF k≠-1:=by rw[ha];unfold o9;omega
 unfold rZ CE;rw[b1d ha,a6J hne,YT];simp only[o8,O5 ha.symm];cases hf:a7m k N
 .exact⟨_,rfl,rfl⟩
 simp only[E5,o6,o8,U0];obtain⟨b,hb⟩:=a4O (k,N) env;rw[show Dq (k,N) env=some b from hb,hb];cases b
 .exact⟨_,rfl,rfl⟩
 simp only[o8,E5,o6];rw[b1P args hl,b2S args hl,o8];cases hp:args.all plB
 .exact⟨_,rfl,rfl⟩
 exact c0U k N args env hE hN hk ha hf hb hp
def XT.node:XT->Int×Int
 | .l0 n=>n| .l1 n _=>n| .l2 n _ _=>n| .l3 n _ _ _=>n
def rtI(t:XT)(o:Nat):Nat:=o+t.size -1
def At(e:List (Int×Int))(S:d5R)(t:XT)(o:Nat):Prop:=∃pre suf S1 S2,e=pre++t.post++suf/\S=S1++t.sts o++S2/\pre.length=o/\S1.length=o
variable {e:List (Int×Int)}{S:d5R}{o:Nat}
theorem b2Y{n:Int×Int}{a:XT}(h:At e S (.l1 n a) o):At e S a o:=by obtain⟨p,s,S1,S2,h1,h2,h3,h4⟩:=h;exact⟨p,[n]++s,S1,[(o:Int)]++S2,by rw[h1];simp[XT.post],by rw[h2];simp[XT.sts],h3,h4⟩
theorem RH{n:Int×Int}{a b:XT}(h:At e S (.l2 n a b) o):At e S a o/\At e S b (o+a.size):=by
 obtain⟨p,s,S1,S2,h1,h2,h3,h4⟩:=h;exact⟨⟨p,b.post++[n]++s,S1,b.sts (o+a.size)++[(o:Int)]++S2,by rw[h1];simp[XT.post],by rw[h2];simp[XT.sts],h3,h4⟩,
  ⟨p++a.post,[n]++s,S1++a.sts o,[(o:Int)]++S2,by rw[h1];simp[XT.post],by rw[h2];simp[XT.sts],by simp[XT.post_len,h3],by simp[XT.sts_len,h4]⟩⟩
theorem TV{n:Int×Int}{a b c:XT}(h:At e S (.l3 n a b c) o):At e S a o/\At e S b (o+a.size)/\At e S c (o+a.size+b.size):=by
 obtain⟨p,s,S1,S2,h1,h2,h3,h4⟩:=h;exact⟨⟨p,b.post++c.post++[n]++s,S1,b.sts (o+a.size)++c.sts (o+a.size+b.size)++[(o:Int)]++S2,by rw[h1];simp[XT.post],by rw[h2];simp[XT.sts],h3,h4⟩,
  ⟨p++a.post,c.post++[n]++s,S1++a.sts o,c.sts (o+a.size+b.size)++[(o:Int)]++S2,by rw[h1];simp[XT.post],by rw[h2];simp[XT.sts],by simp[XT.post_len,h3],by simp[XT.sts_len,h4]⟩,
  ⟨p++a.post++b.post,[n]++s,S1++a.sts o++b.sts (o+a.size),[(o:Int)]++S2,by rw[h1];simp[XT.post],by rw[h2];simp[XT.sts],by simp[XT.post_len,h3];try omega,by simp[XT.sts_len,h4];try omega⟩⟩
theorem b1N(t:XT):∃p,t.post=p++[t.node]/\p.length+1=t.size:=by
 have hl:=t.post_len;cases t with
 |l0 n=>exact⟨[],rfl,rfl⟩|l1 n a=>refine⟨a.post,rfl,?_⟩;simp only[XT.post,F5,aJ]at hl;exact hl|l2 n a b=>refine⟨a.post++b.post,rfl,?_⟩;simp only[XT.post,F5,aJ]at hl ⊢;exact hl|l3 n a b c=>refine⟨a.post++b.post++c.post,rfl,?_⟩;simp only[XT.post,F5,aJ]at hl ⊢;exact hl
theorem b7M(t:XT)(o:Nat):∃p,t.sts o=p++[(o:Int)]/\p.length+1=t.size:=by
 have hl:=t.sts_len o;cases t with
 |l0 n=>exact⟨[],rfl,rfl⟩|l1 n a=>refine⟨a.sts o,rfl,?_⟩;simp only[XT.sts,F5,aJ]at hl;exact hl|l2 n a b=>refine⟨a.sts o++b.sts (o+a.size),rfl,?_⟩;simp only[XT.sts,F5,aJ]at hl ⊢;exact hl|l3 n a b c=>refine⟨a.sts o++b.sts (o+a.size)++c.sts (o+a.size+b.size),rfl,?_⟩;simp only[XT.sts,F5,aJ]at hl ⊢;exact hl
variable {t:XT}
theorem uT(h:At e S t o):e[rtI t o]? =some t.node/\S[rtI t o]? =some (o:Int)/\rtI t o<e.length:=by
 obtain⟨p,s,S1,S2,h1,h2,h3,h4⟩:=h;obtain⟨q,e1,e2⟩:=b1N t;obtain⟨q',e1',e2'⟩:=b7M t o;have hp:=t.size_pos;have a1:e[rtI t o]? =some t.node:=by rw[h1,e1,G5,G5,←G5 p,J6 (by simp[rtI];omega)];rw[show rtI t o -(p++q).length=0 by simp[rtI];omega];rfl
 refine⟨a1,?_,(X7.1 a1).1⟩;rw[h2,e1',G5,G5,←G5 S1,J6 (by simp[rtI];omega)];rw[show rtI t o -(S1++q').length=0 by simp[rtI];omega];rfl
def NM:XT->Nat->d5R
 | .l0 _,_=>[]| .l1 _ a,o=>[(rtI a o:Int)]| .l2 _ a b,o=>[(rtI a o:Int),(rtI b (o+a.size):Int)]| .l3 _ a b c,o=>[(rtI a o:Int),(rtI b (o+a.size):Int),(rtI c (o+a.size+b.size):Int)]
structure OStep (S:d5R) (f:d5R×Int×Int->Option ((d5R×Int×Int)⊕d5R)):Prop where
 step:∀(l:d5R) (c:Nat) (j:Nat) (x:Nat),j<l.length->l.length<=3->S[c]? =some ((x:Nat):Int)->x<=100->f (l,(c:Int),(j:Int))=some (.inl (l.set j (c:Int),(x:Int) -1,(j:Int) -1))
 stop:∀(l:d5R) (c:Int),f (l,c,-1)=some (.inr l)
variable {σ:Type}{ε:Type}{f:σ->Option (σ⊕ε)}
theorem FH{s s' :σ}{n:Nat}(h:f s=some (.inl s')):lM f (n+1) s=lM f n s' :=by rw[lM,h]
theorem MF{s:σ}{e:ε}{n:Nat}(h:f s=some (.inr e)):lM f (n+1) s=some e:=by rw[lM,h]
theorem a5D{f:d5R×Int×Int->Option ((d5R×Int×Int)⊕d5R)}(hs:OStep S f)(h:At e S t o)(he:e.length<=48)(hw:t.wf):
  ay f (List.replicate (arF t.node.1).toNat 0,(rtI t o:Int) -1,arF t.node.1 -1)=some (NM t o):=by
 obtain⟨k,hk⟩:∃k,iL=k+1+1+1+1:=⟨iL -4,by unfold iL;omega⟩;unfold ay;rw[hk];have hr:=uT h;cases t with
 |l0 n=>rw[show arF (XT.l0 n).node.1=0 from hw];exact MF (hs.stop _ _)|l1 n a=>rw[show arF (XT.l1 n a).node.1=1 from hw.1];have ha:=uT (b2Y h);have p1:=a.size_pos;rw[show((rtI (.l1 n a) o:Nat):Int) -1=((rtI a o:Nat):Int) by simp only[rtI,XT.size];omega];rw[show((1:Int) -1)=((0:Nat):Int)from rfl,FH (hs.step _ _ 0 o x9 x9 ha.2.1 (by unfold rtI at hr;omega))];rw[show(((0:Nat):Int) -1)=-1 from rfl,MF (hs.stop _ _)];rfl|l2 n a b=>rw[show arF (XT.l2 n a b).node.1=2 from hw.1];have ha:=uT (RH h).1;have hb:=uT (RH h).2;have p1:=a.size_pos;have p2:=b.size_pos;rw[show((rtI (.l2 n a b) o:Nat):Int) -1=((rtI b (o+a.size):Nat):Int) by simp only[rtI,XT.size];omega];rw[show((2:Int) -1)=((1:Nat):Int)from rfl,FH (hs.step _ _ 1 (o+a.size) x9 x9 hb.2.1 (by unfold rtI at hb;omega))];rw[show((o+a.size:Nat):Int) -1=((rtI a o:Nat):Int) by unfold rtI;omega,show(((1:Nat):Int) -1)=((0:Nat):Int)from rfl];rw[FH (hs.step _ _ 0 o x9 x9 ha.2.1 (by unfold rtI at hr;omega))];rw[show(((0:Nat):Int) -1)=-1 from rfl,MF (hs.stop _ _)];rfl|l3 n a b c=>rw[show arF (XT.l3 n a b c).node.1=3 from hw.1];have ha:=uT (TV h).1;have hb:=uT (TV h).2.1;have hc:=uT (TV h).2.2;have p1:=a.size_pos;have p2:=b.size_pos;have p3:=c.size_pos;rw[show((rtI (.l3 n a b c) o:Nat):Int) -1=((rtI c (o+a.size+b.size):Nat):Int) by simp only[rtI,XT.size];omega];rw[show((3:Int) -1)=((2:Nat):Int)from rfl,FH (hs.step _ _ 2 (o+a.size+b.size) x9 x9 hc.2.1 (by unfold rtI at hc;omega))];rw[show((o+a.size+b.size:Nat):Int) -1=((rtI b (o+a.size):Nat):Int) by unfold rtI;omega,show(((2:Nat):Int) -1)=((1:Nat):Int)from rfl];rw[FH (hs.step _ _ 1 (o+a.size) x9 x9 hb.2.1 (by unfold rtI at hb;omega))];rw[show((o+a.size:Nat):Int) -1=((rtI a o:Nat):Int) by unfold rtI;omega,show(((1:Nat):Int) -1)=((0:Nat):Int)from rfl];rw[FH (hs.step _ _ 0 o x9 x9 ha.2.1 (by unfold rtI at hr;omega))];rw[show(((0:Nat):Int) -1)=-1 from rfl,MF (hs.stop _ _)];rfl
theorem c0Q(h:t.wf):0<=arF t.node.1/\arF t.node.1<=3:=by
 cases t with
 |l0 n=>rw[show arF (XT.l0 n).node.1=0 from h];decide|l1 n a=>rw[show arF (XT.l1 n a).node.1=1 from h.1];decide|l2 n a b=>rw[show arF (XT.l2 n a b).node.1=2 from h.1];decide|l3 n a b c=>rw[show arF (XT.l3 n a b c).node.1=3 from h.1];decide
theorem Di(h:0<=k)(h2:k<=1000000)(x:α):pR k x=some (List.replicate k.toNat x):=if_pos ⟨h,l7⟩
theorem KE(env:aV)(h:At e S t o)(he:e.length<=48)(hw:t.wf):mD (e,S,env) (rtI t o:Int)=some (NM t o):=by
 have hr:=uT h;have ha:=c0Q hw;unfold mD;simp only[F8,hr.1,o8,YT];rw[Di ha.1 l7,o8,gU];rw[show J9 .i64 ((rtI t o:Nat):Int) 1=(rtI t o:Int) -1 from X3 U4];rw[show J9 .i64 (o9 (List.replicate (arF t.node.1).toNat (0:Int))) 1=arF t.node.1 -1 by rw[show o9 (List.replicate (arF t.node.1).toNat (0:Int))=arF t.node.1 by unfold o9;rw[tu];omega];exact X3 U4]
 refine a5D ⟨λl c j x hj hl hx hx2=>?_,λl c=>?_⟩ h he hw
 .have hjl:l[j]? =some l[j]:=bQ hj;simp only[Y5 (show(0:Int)<=(j:Int) by omega),o7,F8,hjl,o8,hx,V4,V8,E8,aU];rw[X3 U4,X3 U4]
 .rfl
theorem Ii{T t:XT}(hT:ng e= .inr T)(h:At e (T.sts 0) t o)(hw:t.wf):zy e (rtI t o:Int)=some (NM t o):=by
 obtain⟨hp,he⟩:=Dy hT;have hr:=uT h;have ha:=c0Q hw;unfold zy;rw[Lj,o8];unfold yN;rw[hT];simp only[F8,hr.1,o8,K_,O5 (rfl:(0:Int)=0),E5,o6];rw[N7 (show(0:Int)<=((rtI t o:Nat):Int) by omega),Y9 (show((rtI t o:Nat):Int)<o9 e by unfold o9;omega)];simp only[o6,o8,U0];rw[Di ha.1 l7,o8,gU];rw[show J9 .i64 ((rtI t o:Nat):Int) 1=(rtI t o:Int) -1 from X3 U4];rw[show J9 .i64 (arF t.node.1) 1=arF t.node.1 -1 from X3 U4];refine a5D ⟨λl c j x hj hl hx hx2=>?_,λl c=>?_⟩ h he hw
 .have hjl:l[j]? =some l[j]:=bQ hj;simp only[Y5 (show(0:Int)<=(j:Int) by omega),o7,F8,hjl,o8,hx,V4,V8,E8,aU];rw[X3 U4,X3 U4]
 .rfl
def DC(n:Int×Int)(args:List V3)(env:aV):V3×Int:=(rZ n args env).getD ((0,0,0),0)
variable {env:aV}
theorem IG{n:Int×Int}(args:List V3)(hE:EvOk env)(hI:kE n.2)(hk:n.1≠23/\n.1≠24/\n.1≠26)(hl:args.length<=3):rZ n args env=some (DC n args env)/\CE n args env=some (DC n args env):=by
 obtain⟨r,h1,h2⟩:=a4m n.1 n.2 args env hE (by unfold kE at hI;omega) hk l7;have e:DC n args env=r:=by unfold DC;rw[show rZ n args env=some r from h1];rfl
 rw[e];exact⟨h1,h2⟩
def lzB(k:Int):Bool:=l9 (x8 k 23) true (l9 (x8 k 24) true (x8 k 26))
theorem c0k(h:lzB k=false):k≠23/\k≠24/\k≠26:=by refine⟨?_,?_,?_⟩<;>(rintro rfl;revert h;decide)
def DD(r:V3×Int):V3×Int:=l9 (x8 r.2 0) (l9 (x8 r.1.1 1) (l9 (plB r.1) (r.1,0) ((0,0,0),8)) ((0,0,0),8)) ((0,0,0),r.2)
def ZP(n:Int×Int)(ra rb:V3×Int):V3×Int:=l9 (x8 n.2 0) (l9 (x8 (DD ra).2 0) (l9 (jO (x8 n.1 23) (x8 (DD ra).1.2.2 0)) ((DD ra).1,0) (DD rb)) ((0,0,0),(DD ra).2)) ((0,0,0),2)
def a5g(n:Int×Int)(ra rb rc:V3×Int):V3×Int:=l9 (x8 n.2 0) (l9 (x8 (DD ra).2 0) (l9 (x8 (DD ra).1.2.2 1) rb rc) ((0,0,0),(DD ra).2)) ((0,0,0),2)
def evT(env:aV):XT->V3×Int
 | .l0 n=>DC n [] env| .l1 n a=>l9 (x8 (evT env a).2 0) (DC n [(evT env a).1] env) ((0,0,0),(evT env a).2)| .l2 n a b=>l9 (lzB n.1) (ZP n (evT env a) (evT env b)) (l9 (x8 (evT env a).2 0) (l9 (x8 (evT env b).2 0) (DC n [(evT env a).1,(evT env b).1] env) ((0,0,0),(evT env b).2)) ((0,0,0),(evT env a).2))| .l3 n a b c=>a5g n (evT env a) (evT env b) (evT env c)
abbrev VSt:Type:=V3×List V3×Int
structure VStep (ops:d5R) (ev:Int->Option (V3×Int)) (pad:List V3->List V3) (f:VSt->Option (Out VSt (V3×List V3) (V3×Int))):Prop where
 step:∀(l:List V3) (c:Int) (r:V3×Int),ops[l.length]? =some c->ev c=some r->f ((0,0,0),pad l,(l.length:Int))=some (l9 (x8 r.2 0) (.nx ((0,0,0),pad (l++[r.1]),((l.length+1:Nat):Int))) (.rt ((0,0,0),r.2)))
 stop:∀(l:List V3),l.length=ops.length->f ((0,0,0),pad l,(l.length:Int))=some (.ex ((0,0,0),l))
section
variable {ev:Int->Option (V3×Int)} {pad:List V3->List V3} {f:VSt->Option (Out VSt (V3×List V3) (V3×Int))}
theorem v0(h:VStep [] ev pad f):ae f ((0,0,0),pad [],0)=some (.inl ((0,0,0),[])):=by obtain⟨k,hk⟩:∃k,iL=k+1:=⟨iL -1,by unfold iL;omega⟩;unfold ae;rw[hk,qZ,show f ((0,0,0),pad [],0)=some (.ex ((0,0,0),[]))from h.stop [] rfl]
theorem v1{c:Int}{r:V3×Int}(h:VStep [c] ev pad f)(h1:ev c=some r):ae f ((0,0,0),pad [],0)=some (l9 (x8 r.2 0) (.inl ((0,0,0),[r.1])) (.inr ((0,0,0),r.2))):=by
 obtain⟨k,hk⟩:∃k,iL=k+1+1:=⟨iL -2,by unfold iL;omega⟩;unfold ae;rw[hk,qZ,show f ((0,0,0),pad [],0)=_ from h.step [] c r rfl h1];cases x8 r.2 0
 .rfl
 .simp only[o7];rw[qZ,show f ((0,0,0),pad ([]++[r.1]),(([].length+1:Nat):Int))=_ from h.stop [r.1] rfl]
theorem v2{c d:Int}{r q:V3×Int}(h:VStep [c,d] ev pad f)(h1:ev c=some r)(h2:ev d=some q):ae f ((0,0,0),pad [],0)=some (l9 (x8 r.2 0) (l9 (x8 q.2 0) (.inl ((0,0,0),[r.1,q.1])) (.inr ((0,0,0),q.2))) (.inr ((0,0,0),r.2))):=by
 obtain⟨k,hk⟩:∃k,iL=k+1+1+1:=⟨iL -3,by unfold iL;omega⟩;unfold ae;rw[hk,qZ,show f ((0,0,0),pad [],0)=_ from h.step [] c r rfl h1];cases x8 r.2 0
 .rfl
 .simp only[o7];rw[qZ,show f ((0,0,0),pad ([]++[r.1]),(([].length+1:Nat):Int))=_ from h.step [r.1] d q rfl h2];cases x8 q.2 0
  .rfl
  .simp only[o7];rw[qZ,show f ((0,0,0),pad ([r.1]++[q.1]),(([r.1].length+1:Nat):Int))=_ from h.stop [r.1,q.1] rfl]
end
theorem a2E(h:arF k=0\/arF k=1):k≠23/\k≠24/\k≠26:=by refine⟨?_,?_,?_⟩<;>(rintro rfl;revert h;decide)
theorem b2W(h:arF k=2):k≠26:=by rintro rfl;revert h;decide
theorem b2X(h:arF k=3):k=26:=by obtain⟨i,rfl⟩:=c1j (by rw[h];decide);rw[(b2V i).2.2.2 h];rfl
theorem d3Z(n:Nat)(E:bz)(i:Int):(D7 (n+1)).1 E i=rD (D7 n).1 (D7 n).2.1 (D7 n).2.2 E i:=rfl
theorem d4a(n:Nat)(E:bz)(i:Int):(D7 (n+1)).2.1 E i=vT (D7 n).1 (D7 n).2.1 (D7 n).2.2 E i:=rfl
theorem c0z(n:Nat)(E:bz)(x:Int×Int)(l:d5R):(D7 (n+1)).2.2 E x l=pK (D7 n).1 (D7 n).2.1 (D7 n).2.2 E x l:=rfl
variable {E:bz}
theorem SE{n:Nat}{i:Int}{r:V3×Int}(h:(D7 n).2.1 E i=some r):(D7 (n+1)).1 E i=some (DD r):=by
 rw[d3Z];unfold rD DD;rw[h,o8];cases x8 r.2 0
 .rfl
 cases x8 r.1.1 1
 .rfl
 simp only[E5,o6,o7];rw[Aa,o8];cases plB r.1<;>rfl
variable {ra:V3×Int}{rb:V3×Int}
theorem b3L{n:Nat}{x:Int×Int}{i j:Int}(hx:x.1≠26)(h1:(D7 n).2.1 E i=some ra)(h2:(D7 n).2.1 E j=some rb):(D7 (n+2)).2.2 E x [i,j]=some (ZP x ra rb):=by
 rw[show n+2=(n+1)+1 from rfl,c0z];unfold pK ZP;rw[show G6 [i,j] 0=some i from rfl,show G6 [i,j] 1=some j from rfl];simp only[o8];rw[SE h1,SE h2,O8 hx];cases x8 x.2 0
 .rfl
 simp only[o8,E5,o6,o7];cases x8 (DD ra).2 0
 .rfl
 simp only[E5,o6,o7];cases jO (x8 x.1 23) (x8 (DD ra).1.2.2 0)<;>rfl
theorem b3M{n:Nat}{x:Int×Int}{i j l:Int}{ra rb rc:V3×Int}(hx:x.1=26)(h1:(D7 n).2.1 E i=some ra)(h2:(D7 (n+1)).2.1 E j=some rb)(h3:(D7 (n+1)).2.1 E l=some rc):(D7 (n+2)).2.2 E x [i,j,l]=some (a5g x ra rb rc):=by
 rw[show n+2=(n+1)+1 from rfl,c0z];unfold pK a5g;rw[show G6 [i,j,l] 0=some i from rfl,show G6 [i,j,l] 1=some j from rfl,show G6 [i,j,l] 2=some l from rfl];simp only[o8];rw[SE h1,h2,h3,O5 hx];cases x8 x.2 0
 .rfl
 simp only[o8,E5,o6,o7];cases x8 (DD ra).2 0
 .rfl
 simp only[E5,o6,o7];cases x8 (DD ra).1.2.2 1<;>rfl
def a0X(m:Nat)(l:List V3):List V3:=l++List.replicate (m -l.length) (0,0,0)
theorem b4G{m:Nat}{l:List V3}(h:l.length<m):(a0X m l)[l.length]? =some (0,0,0):=by unfold a0X;rw[J6 (E9 _),dP,jo,if_pos l7]
theorem b4H{m:Nat}{l:List V3}(v:V3)(h:l.length<m):(a0X m l).set l.length v=a0X m (l++[v]):=by unfold a0X;obtain⟨k,hk⟩:∃k,m -l.length=k+1:=⟨m -l.length -1,l7⟩;rw[jW _ _ (E9 _),dP,hk,lL,wR];rw[show m -(l++[v]).length=k by simp;omega];simp
theorem b1M{m:Nat}{l:List V3}(h:l.length=m):a0X m l=l:=by unfold a0X;rw[h,dP];simp
def b0b(ev:Int->Option (V3×Int))(ops:d5R)(x:VSt):Option (Out VSt (V3×List V3) (V3×Int)):=
 l9 (D9 x.2.2 (o9 ops))
  (o5 (G6 ops x.2.2) λ(x_4:Int)=>
   o5 (V4 ops (V8 x.2.2)) λ(x_5:Int)=>
    o5 (ev x_5) λ(x_6:V3×Int)=>
     l9 (F7 (x8 x_6.2 0)) (some (Out.rt ((0,0,0),x_6.2)))
      (o5 (G6 x.2.1 x.2.2) λ(x_7:V3)=>
       o5 (V4 x.2.1 (V8 x.2.2)) λ(x_8:V3)=>
        some (Out.nx (x.1,aU x.2.1 (V8 x.2.2) x_6.1,C9 IntKind.i64 x.2.2 1))))
  (some (Out.ex (x.1,x.2.1)))
theorem Ti(ev:Int->Option (V3×Int))(ops:d5R)(ho:ops.length<=3):VStep ops ev (a0X ops.length) (b0b ev ops):=by
 refine⟨λl c r h1 h2=>?_,λl h=>?_⟩
 .have hl:=(X7.1 h1).1;unfold b0b;simp only[J3 h1,o7,F8,h1,o8,V4,V8,E8,h2,b4G hl,aU,b4H _ hl];cases x8 r.2 0
  .rfl
  .simp only[E5,o6,o7];rw[Y3 l7]
 .unfold b0b;rw[b1M h,h,I9];rfl
theorem Yw(n:Nat)(E:bz)(i:Int)(x:Int×Int)(ops:d5R)(h1:G6 E.1 i=some x)(h2:mD E i=some ops)(ho:ops.length<=3):
  (D7 (n+1)).2.1 E i=l9 (lzB x.1) ((D7 n).2.2 E x ops)
   (o5 (ae (b0b ((D7 n).2.1 E) ops) ((0,0,0),a0X ops.length [],0)) λ(o:V3×List V3⊕V3×Int)=>ah o (λ(y:V3×List V3)=>CE x y.2 E.2.2) λ(r:V3×Int)=>some r):=by
 rw[d4a];unfold vT lzB;simp only[h1,h2,o8,gU];rw[show o9 ops=(ops.length:Int)from rfl];have hp:pR (ops.length:Int) (((0,0,0):Int×Int×Int))=some (a0X ops.length []):=by rw[Di l7 l7];rfl
 cases g1:x8 x.1 23
 .cases g2:x8 x.1 24
  .cases g3:x8 x.1 26
   .simp only[o6,o8,U0];rw[show pR (ops.length:Int) _=_ from hp,o8];rfl
   .simp only[o6,o7];generalize (D7 n).2.2 E x ops=q;cases q<;>rfl
  .simp only[o6,o7];generalize (D7 n).2.2 E x ops=q;cases q<;>rfl
 .simp only[o7];generalize (D7 n).2.2 E x ops=q;cases q<;>rfl
theorem UL(t:XT)(o:Nat):(NM t o).length<=3:=by cases t<;>simp[NM]
theorem a4L(hE:EvOk env)(he:e.length<=48)(hI:∀n∈e,kE n.2):∀(t:XT) (o k:Nat),At e S t o->t.wf->3*t.size<=k->(D7 k).2.1 (e,S,env) (rtI t o:Int)=some (evT env t):=by
 intro t;induction t with
 |l0 n=>intro o k h hw hk;have hr:=uT h;obtain⟨k,rfl⟩:∃m,k=m+3:=⟨k -3,by simp only[XT.size]at hk;omega⟩;have hz:=a2E (.inl (show arF n.1=0 from hw));rw[show k+3=(k+2)+1 from rfl,Yw _ _ _ n (NM (.l0 n) o) (by rw[F8];exact hr.1) (KE env h he hw) (UL _ _)];rw[show lzB n.1=false by unfold lzB;rw[O8 hz.1,O8 hz.2.1,O8 hz.2.2];rfl,o6];rw[show NM (.l0 n) o=[]from rfl,v0 (Ti _ _ x9),o8,U0];exact(IG [] hE (hI n (kK hr.1)) hz x9).2
 |l1 n a iha=>
  intro o k h hw hk;have hr:=uT h;simp only[XT.size]at hk;obtain⟨k,rfl⟩:∃m,k=m+3:=⟨k -3,l7⟩;have hz:=a2E (.inr (show arF n.1=1 from hw.1));rw[show k+3=(k+2)+1 from rfl,Yw _ _ _ n (NM (.l1 n a) o) (by rw[F8];exact hr.1) (KE env h he hw) (UL _ _)];rw[show lzB n.1=false by unfold lzB;rw[O8 hz.1,O8 hz.2.1,O8 hz.2.2];rfl,o6];rw[show NM (.l1 n a) o=[(rtI a o:Int)]from rfl,v1 (Ti _ _ x9) (iha o (k+2) (b2Y h) hw.2 l7),o8];rw[show evT env (.l1 n a)=l9 (x8 (evT env a).2 0) (DC n [(evT env a).1] env) ((0,0,0),(evT env a).2)from rfl];cases x8 (evT env a).2 0
  .rfl
  exact(IG [(evT env a).1] hE (hI n (kK hr.1)) hz x9).2
 |l2 n a b iha ihb=>
  intro o k h hw hk;have hr:=uT h;simp only[XT.size]at hk;obtain⟨k,rfl⟩:∃m,k=m+3:=⟨k -3,l7⟩;have hz:=b2W (show arF n.1=2 from hw.1);rw[show k+3=(k+2)+1 from rfl,Yw _ _ _ n (NM (.l2 n a b) o) (by rw[F8];exact hr.1) (KE env h he hw) (UL _ _)];rw[show NM (.l2 n a b) o=[(rtI a o:Int),(rtI b (o+a.size):Int)]from rfl];rw[show evT env (.l2 n a b)=l9 (lzB n.1) (ZP n (evT env a) (evT env b)) (l9 (x8 (evT env a).2 0) (l9 (x8 (evT env b).2 0) (DC n [(evT env a).1,(evT env b).1] env) ((0,0,0),(evT env b).2)) ((0,0,0),(evT env a).2))from rfl];cases hl:lzB n.1
  .have hz:=c0k hl;simp only[o6];rw[v2 (Ti _ _ x9) (iha o (k+2) (RH h).1 hw.2.1 l7) (ihb (o+a.size) (k+2) (RH h).2 hw.2.2 l7),o8];cases x8 (evT env a).2 0
   .rfl
   cases x8 (evT env b).2 0
   .rfl
   exact(IG [(evT env a).1,(evT env b).1] hE (hI n (kK hr.1)) hz x9).2
  .simp only[o7];exact b3L hz (iha o k (RH h).1 hw.2.1 l7) (ihb (o+a.size) k (RH h).2 hw.2.2 l7)
 |l3 n a b c iha ihb ihc=>intro o k h hw hk;have hr:=uT h;simp only[XT.size]at hk;obtain⟨k,rfl⟩:∃m,k=m+3:=⟨k -3,l7⟩;have hz:=b2X (show arF n.1=3 from hw.1);rw[show k+3=(k+2)+1 from rfl,Yw _ _ _ n (NM (.l3 n a b c) o) (by rw[F8];exact hr.1) (KE env h he hw) (UL _ _)];rw[show lzB n.1=true by rw[hz];decide,o7];exact b3M hz (iha o k (TV h).1 hw.2.1 l7) (ihb (o+a.size) (k+1) (TV h).2.1 hw.2.2.1 l7) (ihc (o+a.size+b.size) (k+1) (TV h).2.2 hw.2.2.2 l7)
theorem c1N(n:Nat)(e:List (Int×Int))(i:Int)(env:aV):(X6 (n+1)).1 e i env=FT (X6 n).1 (X6 n).2 e i env:=rfl
theorem b5M(n:Nat)(e:List (Int×Int))(i:Int)(l:d5R)(env:aV):(X6 (n+1)).2 e i l env=BQ (X6 n).1 (X6 n).2 e i l env:=rfl
def a3L(ev:Int->Option (V3×Int))(ops:d5R)(x:VSt):Option (Out VSt (V3×List V3) (V3×Int)):=
 l9 (D9 x.2.2 (o9 ops))
  (o5 (G6 ops x.2.2) λ(x_4:Int)=>
   o5 (V4 ops (V8 x.2.2)) λ(x_5:Int)=>
    o5 (ev x_5) λ(x_6:V3×Int)=>
     l9 (F7 (x8 x_6.2 0)) (some (Out.rt ((0,0,0),x_6.2)))
      (o5 (bV x.2.1 [x_6.1]) λ(y:List V3)=>some (Out.nx (x.1,y,C9 IntKind.i64 x.2.2 1))))
  (some (Out.ex (x.1,x.2.1)))
theorem Qc(ev:Int->Option (V3×Int))(ops:d5R)(ho:ops.length<=3):VStep ops ev (λl=>l) (a3L ev ops):=by
 refine⟨λl c r h1 h2=>?_,λl h=>?_⟩
 .have hl:=(X7.1 h1).1;unfold a3L;simp only[J3 h1,o7,F8,h1,o8,V4,V8,E8,h2];cases x8 r.2 0
  .rfl
  .simp only[E5,o6,o7];rw[fK _ l7,o8,Y3 l7]
 .unfold a3L;rw[h,I9];rfl
theorem Ve(n:Nat)(e:List (Int×Int))(env:aV)(i:Int)(x:Int×Int)(ops:d5R)(h1:G6 e i=some x)(h2:zy e i=some ops):
  (X6 (n+1)).1 e i env=l9 (lzB x.1) ((X6 n).2 e i ops env)
   (o5 (ae (a3L (λc=>(X6 n).1 e c env) ops) ((0,0,0),[],0)) λ(o:V3×List V3⊕V3×Int)=>ah o (λ(y:V3×List V3)=>rZ x y.2 env) λ(r:V3×Int)=>some r):=by
 rw[c1N];unfold FT lzB;simp only[h1,h2,o8,gU];cases g1:x8 x.1 23
 .cases g2:x8 x.1 24
  .cases g3:x8 x.1 26
   .rfl
   .simp only[o6,o7];generalize (X6 n).2 e i ops env=q;cases q<;>rfl
  .simp only[o6,o7];generalize (X6 n).2 e i ops env=q;cases q<;>rfl
 .simp only[o7];generalize (X6 n).2 e i ops env=q;cases q<;>rfl
theorem OY(r:V3×Int):(x8 r.2 0=false/\(DD r)=((0,0,0),r.2))\/(x8 r.2 0=true/\x8 r.1.1 1=false/\DD r=((0,0,0),8))\/(x8 r.2 0=true/\x8 r.1.1 1=true/\plB r.1=false/\DD r=((0,0,0),8))\/(x8 r.2 0=true/\x8 r.1.1 1=true/\plB r.1=true/\DD r=(r.1,0)):=by
 unfold DD;cases x8 r.2 0
 .exact .inl ⟨rfl,rfl⟩
 cases x8 r.1.1 1
 .exact .inr (.inl ⟨rfl,rfl,rfl⟩)
 cases plB r.1
 .exact .inr (.inr (.inl ⟨rfl,rfl,rfl,rfl⟩))
 .exact .inr (.inr (.inr ⟨rfl,rfl,rfl,rfl⟩))
theorem b2h{n:Nat}{c:Int}{x:Int×Int}{i j:Int}(hc:G6 e c=some x)(hx:x.1≠26)(h1:(X6 n).1 e i env=some ra)(h2:(X6 n).1 e j env=some rb):(X6 (n+1)).2 e c [i,j] env=some (ZP x ra rb):=by
 rw[b5M];unfold BQ ZP;rw[show G6 [i,j] 0=some i from rfl,show G6 [i,j] 1=some j from rfl];simp only[hc,o8,h1,h2,yx,O8 hx];cases x8 x.2 0
 .rfl
 rcases OY ra with⟨g1,g2⟩|⟨g1,g2,g3⟩|⟨g1,g2,g3,g4⟩|⟨g1,g2,g3,g4⟩
 .rw[g2,g1];rfl
 .rw[g1,g2,g3];rfl
 .rw[g1,g2,g3,g4];rfl
 .rw[g1,g2,g3,g4];simp only[E5,o6,o7,o8,U0,O5 (rfl:(0:Int)=0)];cases jO (x8 x.1 23) (x8 ra.1.2.2 0)
  .rcases OY rb with⟨g1,g2⟩|⟨g1,g2,g3⟩|⟨g1,g2,g3,g4⟩|⟨g1,g2,g3,g4⟩
   .rw[g2,g1];rfl
   .rw[g1,g2,g3];rfl
   .rw[g1,g2,g3,g4];rfl
   .rw[g1,g2,g3,g4];rfl
  .rfl
theorem b2i{n:Nat}{c:Int}{x:Int×Int}{i j l:Int}{ra rb rc:V3×Int}(hc:G6 e c=some x)(hx:x.1=26)(h1:(X6 n).1 e i env=some ra)(h2:(X6 n).1 e j env=some rb)(h3:(X6 n).1 e l env=some rc):(X6 (n+1)).2 e c [i,j,l] env=some (a5g x ra rb rc):=by
 rw[b5M];unfold BQ a5g;rw[show G6 [i,j,l] 0=some i from rfl,show G6 [i,j,l] 1=some j from rfl,show G6 [i,j,l] 2=some l from rfl];simp only[hc,o8,h1,h2,h3,yx,O5 hx];cases x8 x.2 0
 .rfl
 rcases OY ra with⟨g1,g2⟩|⟨g1,g2,g3⟩|⟨g1,g2,g3,g4⟩|⟨g1,g2,g3,g4⟩
 .rw[g2,g1];rfl
 .rw[g1,g2,g3];rfl
 .rw[g1,g2,g3,g4];rfl
 .rw[g1,g2,g3,g4];simp only[E5,o6,o7,o8,U0,O5 (rfl:(0:Int)=0)];cases x8 ra.1.2.2 1<;>rfl
theorem a3v{T:XT}(hE:EvOk env)(hT:ng e= .inr T)(hI:∀n∈e,kE n.2):∀(t:XT) (o k:Nat),At e (T.sts 0) t o->t.wf->3*t.size<=k->(X6 k).1 e (rtI t o:Int) env=some (evT env t):=by
 intro t;induction t with
 |l0 n=>intro o k h hw hk;have hr:=uT h;obtain⟨k,rfl⟩:∃m,k=m+3:=⟨k -3,by simp only[XT.size]at hk;omega⟩;have hz:=a2E (.inl (show arF n.1=0 from hw));rw[show k+3=(k+2)+1 from rfl,Ve _ _ _ _ n (NM (.l0 n) o) (by rw[F8];exact hr.1) (Ii hT h hw)];rw[show lzB n.1=false by unfold lzB;rw[O8 hz.1,O8 hz.2.1,O8 hz.2.2];rfl,o6];rw[show NM (.l0 n) o=[]from rfl,v0 (Qc _ _ x9),o8,U0];exact(IG [] hE (hI n (kK hr.1)) hz x9).1
 |l1 n a iha=>
  intro o k h hw hk;have hr:=uT h;simp only[XT.size]at hk;obtain⟨k,rfl⟩:∃m,k=m+3:=⟨k -3,l7⟩;have hz:=a2E (.inr (show arF n.1=1 from hw.1));rw[show k+3=(k+2)+1 from rfl,Ve _ _ _ _ n (NM (.l1 n a) o) (by rw[F8];exact hr.1) (Ii hT h hw)];rw[show lzB n.1=false by unfold lzB;rw[O8 hz.1,O8 hz.2.1,O8 hz.2.2];rfl,o6];rw[show NM (.l1 n a) o=[(rtI a o:Int)]from rfl,v1 (Qc _ _ x9) (iha o (k+2) (b2Y h) hw.2 l7),o8];rw[show evT env (.l1 n a)=l9 (x8 (evT env a).2 0) (DC n [(evT env a).1] env) ((0,0,0),(evT env a).2)from rfl];cases x8 (evT env a).2 0
  .rfl
  exact(IG [(evT env a).1] hE (hI n (kK hr.1)) hz x9).1
 |l2 n a b iha ihb=>
  intro o k h hw hk;have hr:=uT h;simp only[XT.size]at hk;obtain⟨k,rfl⟩:∃m,k=m+3:=⟨k -3,l7⟩;have hz:=b2W (show arF n.1=2 from hw.1);rw[show k+3=(k+2)+1 from rfl,Ve _ _ _ _ n (NM (.l2 n a b) o) (by rw[F8];exact hr.1) (Ii hT h hw)];rw[show NM (.l2 n a b) o=[(rtI a o:Int),(rtI b (o+a.size):Int)]from rfl];rw[show evT env (.l2 n a b)=l9 (lzB n.1) (ZP n (evT env a) (evT env b)) (l9 (x8 (evT env a).2 0) (l9 (x8 (evT env b).2 0) (DC n [(evT env a).1,(evT env b).1] env) ((0,0,0),(evT env b).2)) ((0,0,0),(evT env a).2))from rfl];cases hl:lzB n.1
  .have hz:=c0k hl;simp only[o6];rw[v2 (Qc _ _ x9) (iha o (k+2) (RH h).1 hw.2.1 l7) (ihb (o+a.size) (k+2) (RH h).2 hw.2.2 l7),o8];cases x8 (evT env a).2 0
   .rfl
   cases x8 (evT env b).2 0
   .rfl
   exact(IG [(evT env a).1,(evT env b).1] hE (hI n (kK hr.1)) hz x9).1
  .simp only[o7];exact b2h (by rw[F8];exact hr.1) hz (iha o (k+1) (RH h).1 hw.2.1 l7) (ihb (o+a.size) (k+1) (RH h).2 hw.2.2 l7)
 |l3 n a b c iha ihb ihc=>intro o k h hw hk;have hr:=uT h;simp only[XT.size]at hk;obtain⟨k,rfl⟩:∃m,k=m+3:=⟨k -3,l7⟩;have hz:=b2X (show arF n.1=3 from hw.1);rw[show k+3=(k+2)+1 from rfl,Ve _ _ _ _ n (NM (.l3 n a b c) o) (by rw[F8];exact hr.1) (Ii hT h hw)];rw[show lzB n.1=true by rw[hz];decide,o7];exact b2i (by rw[F8];exact hr.1) hz (iha o (k+1) (TV h).1 hw.2.1 l7) (ihb (o+a.size) (k+1) (TV h).2.1 hw.2.2.1 l7) (ihc (o+a.size+b.size) (k+1) (TV h).2.2 hw.2.2.2 l7)
def uw(e:List (Int×Int))(env:aV):V3×Int:=match ng e with
 | .inl x=>((0,0,0),x.2)| .inr t=>evT env t
theorem a4r(h:ng e= .inr t):At e (t.sts 0) t 0/\e.length<=48/\e.length=t.size/\J9 .i64 (o9 e) 1=(rtI t 0:Int):=by
 obtain⟨hp,h48⟩:=Dy h;have hsz:e.length=t.size:=by rw[hp,XT.post_len]
 have hpos:=t.size_pos;refine⟨⟨[],[],[],[],by simp[←hp],x9,rfl,rfl⟩,h48,hsz,?_⟩;rw[X3 (by unfold kE o9;omega)];unfold o9 rtI;omega
theorem a9G(hE:EvOk env)(hI:∀n∈e,kE n.2):LU e env=some (uw e env):=by
 unfold LU Pq uw;rw[Vo];unfold yN;cases h:ng e with
 |inl x=>simp only[o8,O8 (Dx h)];rfl|inr t=>obtain⟨h1,h2,h3,h4⟩:=a4r h;simp only[o8,O5 (rfl:(0:Int)=0),E5,o6,gU];rw[h4,show AP (e,t.sts 0,env) ((rtI t 0:Nat):Int)=some (evT env t)from a4L hE h2 hI t 0 iL h1 (Ri h) (by unfold iL;omega)]<;>rfl
theorem a5K(hE:EvOk env)(hI:∀n∈e,kE n.2):Jw e env=some (uw e env):=by
 unfold Jw NW uw;rw[Lj];unfold yN;cases h:ng e with
 |inl x=>simp only[o8,O8 (Dx h)];rfl|inr t=>obtain⟨h1,h2,h3,h4⟩:=a4r h;simp only[o8,O5 (rfl:(0:Int)=0),E5,o6,gU];rw[h4,show PX e ((rtI t 0:Nat):Int) env=some (evT env t)from a3v hE h hI t 0 iL h1 (Ri h) (by unfold iL;omega)]<;>rfl
abbrev E4:Type:=Int×Int×Int×Int
def EU(s:A7)(env:aV)(m d:Int)(ap:d5V)(i:Int):d5V⊕(Int×E4):=
 match G6 s.2.2.2.2 i with
 |none=> .inl ap|some r=>l9 (x8 (o9 r.2.2.2.2.2.1) 0) (.inl (ap++[true])) (l9 (x8 (uw r.2.2.2.2.2.1 env).2 0) (.inl (ap++[x8 (uw r.2.2.2.2.2.1 env).1.2.2 1])) (.inr (0,(uw r.2.2.2.2.2.1 env).2,m,d,i)))
def Z9(s:A7)(env:aV)(m d:Int):Int×E4:=
 match bF (EU s env m d) (dn s d env.1).1 []with
 | .inr e=>e| .inl ap=>l9 (D9 (EY (dn s d env.1).2.1 (dn s d env.1).2.2 ap) 0) (EY (dn s d env.1).2.1 (dn s d env.1).2.2 ap,0,0,0,0) (((dn s d env.1).1.getD (EY (dn s d env.1).2.1 (dn s d env.1).2.2 ap).toNat 0),0,0,0,0)
variable {s:A7}
theorem a0q{d t i:Int}(h:i∈(dn s d t).1):∃r,G6 s.2.2.2.2 i=some r/\r∈s.2.2.2.2:=by have h:i∈castL (aB s d t):=h;obtain⟨k,hk,rfl⟩:=X5.1 h;have:=(qG hk).1;exact lZ l7 (by unfold o9;omega)
theorem Qo(s:A7)(d t:Int):(dn s d t).1.length<=s.2.2.2.2.length/\(dn s d t).2.1.length=(dn s d t).1.length:=by
 refine⟨?_,?_⟩
 .show(castL (aB s d t)).length<=_;rw[LH];exact Ej _ _
 .show((aB s d t).map _).length=(castL (aB s d t)).length;rw[LH,L9]
theorem b3i{oc pr:Int->Int}{l:d5R}(hn:0<=n)(h:∀x∈l,oc x<n):chF oc pr l<n:=by
 unfold chF;cases hb:qR oc pr l with
 |nil=>show(-1:Int)<n;omega|cons b r=>
  cases r with
  |nil=>exact h b (LD (oc:=oc) (pr:=pr) (by rw[hb];simp))|cons c r=>show(-2:Int)<n;omega
theorem b4n(par prio:d5R)(ap:d5V):∀(k:Nat) (i:Int),i<par.length->ocF par prio ap k i<par.length
 |0,i,h=>by show(-1:Int)<_;omega|k+1,i,h=>by
  unfold ocF;have hb:chF (ocF par prio ap k) (prF prio) (castL (kids par i))<(par.length:Int):=b3i l7 λx hx=>by unfold castL at hx;obtain⟨j,hj,rfl⟩:=X5.1 hx;have:=(Yt hj).1;exact b4n par prio ap k _ l7
  cases x8 (chF (ocF par prio ap k) (prF prio) (castL (kids par i))) (-1)
  .exact hb
  .cases apF ap i
   .show(-1:Int)<_;omega
   .exact h
theorem a3N(par prio:d5R)(ap:d5V):EY par prio ap<par.length:=by
 unfold EY;cases x8 (Bv par prio) 0
 .show(-1:Int)<_;omega
 cases x8 (o9 ap) (o9 par)
 .show(-1:Int)<_;omega
 show chS par prio ap (-1)<_;unfold chS;refine b3i l7 λx hx=>?_;unfold castL at hx;obtain⟨j,hj,rfl⟩:=X5.1 hx;have:=(Yt hj).1;unfold OC;exact b4n par prio ap _ _ l7
def a3m(m:Nat)(l:d5V):d5V:=l++List.replicate (m -l.length) false
theorem b4E{m:Nat}{l:d5V}(h:l.length<m):(a3m m l)[l.length]? =some false:=by unfold a3m;rw[J6 (E9 _),dP,jo,if_pos l7]
theorem b4F{m:Nat}{l:d5V}(v:Bool)(h:l.length<m):(a3m m l).set l.length v=a3m m (l++[v]):=by unfold a3m;obtain⟨k,hk⟩:∃k,m -l.length=k+1:=⟨m -l.length -1,l7⟩;rw[jW _ _ (E9 _),dP,hk,lL,wR];rw[show m -(l++[v]).length=k by simp;omega];simp
theorem b1L{m:Nat}{l:d5V}(h:l.length=m):a3m m l=l:=by unfold a3m;rw[h,dP];simp
theorem Zi(s:A7)(env:aV)(m d:Int)(ap:d5V):
  l9 (D9 (EY (dn s d env.1).2.1 (dn s d env.1).2.2 ap) 0) (some ((EY (dn s d env.1).2.1 (dn s d env.1).2.2 ap,0,0,0,0):Int×E4))
   (o5 (G6 (dn s d env.1).1 (EY (dn s d env.1).2.1 (dn s d env.1).2.2 ap)) λ(x_3:Int)=>o5 (V4 (dn s d env.1).1 (V8 (EY (dn s d env.1).2.1 (dn s d env.1).2.2 ap))) λ(x:Int)=>some (x,0,0,0,0))=
  some (l9 (D9 (EY (dn s d env.1).2.1 (dn s d env.1).2.2 ap) 0) (EY (dn s d env.1).2.1 (dn s d env.1).2.2 ap,0,0,0,0) (((dn s d env.1).1.getD (EY (dn s d env.1).2.1 (dn s d env.1).2.2 ap).toNat 0),0,0,0,0)):=by
 have hb:=a3N (dn s d env.1).2.1 (dn s d env.1).2.2 ap;have hl:=(Qo s d env.1).2;generalize EY (dn s d env.1).2.1 (dn s d env.1).2.2 ap=q at*;generalize (dn s d env.1).1=L at*;by_cases g:q<0
 .rw[U6 g];rfl
 rw[N7 (iQ.1 g)];obtain⟨i,rfl⟩:∃i:Nat,q=(i:Int):=⟨q.toNat,l7⟩;have hi:i<L.length:=l7;have e:=bQ hi;simp only[o6,F8,e,o8,V4,V8,E8,uZ,dK]
theorem a6j(hs:SmS s)(hE:EvOk env)(m d:Int):BJ s env m d=some (Z9 s env m d):=by
 have hnr:=hs.nr;have hlen:=(Qo s d env.1).1;unfold BJ;rw[b2A l7,o8];rw[show pR (o9 (dn s d env.1).1) false=some (a3m (dn s d env.1).1.length []) by rw[show o9 (dn s d env.1).1=((dn s d env.1).1.length:Int)from rfl,Di l7 l7];rfl,o8];unfold Z9;apply pz (dn s d env.1).1 (EU s env m d) (λb i=>(((0,0,0,0),a3m (dn s d env.1).1.length b,i):E4×d5V×Int)) (λb=>(((0,0,0,0),b):E4×d5V)) (λi b=>b.length=i) [] l7 rfl
 .intro i a b hi hi' hb;obtain⟨r,hr,hm⟩:=a0q (kK hi);have hlt:=(X7.1 hi).1;have hI:=(hs.ro r hm).1.2.2;subst hb;simp only[J3 hi,o7,F8,hi,o8,V4,V8,E8,hr,b4E hlt,aU,b4F _ hlt];unfold EU;rw[hr];simp only;cases x8 (o9 r.2.2.2.2.2.1) 0
  .simp only[o6];rw[a9G hE hI.1,o8];cases x8 (uw r.2.2.2.2.2.1 env).2 0
   .exact⟨rfl,λ_ h=>by cases h⟩
   .simp only[E5,o6,o7];rw[Y3 l7];exact⟨rfl,λ_ h=>by cases h;simp⟩
  .simp only[o7];rw[Y3 l7];exact⟨rfl,λ_ h=>by cases h;simp⟩
 .intro b hb;rw[I9,b1L hb];rfl
 .intro _;cases bF (EU s env m d) (dn s d env.1).1 []with
  |inr e=>rfl|inl ap=>simp only[U0,b2s,o8];exact Zi s env m d ap
theorem b0S(hs:SmS s)(hE:EvOk env)(m d:Int):Iu s env m d=some (Z9 s env m d):=by
 have hnr:=hs.nr;have hlen:=(Qo s d env.1).1;unfold Iu;rw[a7X l7,o8];unfold Z9;apply pz (dn s d env.1).1 (EU s env m d) (λb i=>(((0,0,0,0),b,i):E4×d5V×Int)) (λb=>(((0,0,0,0),b):E4×d5V)) (λi b=>b.length=i) [] l7 rfl
 .intro i a b hi hi' hb;obtain⟨r,hr,hm⟩:=a0q (kK hi);have hlt:=(X7.1 hi).1;have hI:=(hs.ro r hm).1.2.2;subst hb;simp only[J3 hi,o7,F8,hi,o8,V4,V8,E8,hr];unfold EU;rw[hr];simp only;cases x8 (o9 r.2.2.2.2.2.1) 0
  .simp only[o6];rw[a5K hE hI.1,o8];cases x8 (uw r.2.2.2.2.2.1 env).2 0
   .exact⟨rfl,λ_ h=>by cases h⟩
   .simp only[E5,o6,o7];rw[fK _ l7,o8,Y3 l7];exact⟨rfl,λ_ h=>by cases h;simp⟩
  .simp only[o7];rw[fK _ l7,o8,Y3 l7];exact⟨rfl,λ_ h=>by cases h;simp⟩
 .intro b hb;rw[I9];rfl
 .intro _;cases bF (EU s env m d) (dn s d env.1).1 []with
  |inr e=>rfl|inl ap=>simp only[U0,a7W,o8];exact Zi s env m d ap
theorem b3j{oc pr:Int->Int}{l:d5R}(h:∀x∈l,-2<=oc x):-2<=chF oc pr l:=by
 unfold chF;cases hb:qR oc pr l with
 |nil=>show -2<=(-1:Int);omega|cons b r=>
  cases r with
  |nil=>exact h b (LD (oc:=oc) (pr:=pr) (by rw[hb];simp))|cons c r=>show -2<=(-2:Int);omega
theorem b4o(par prio:d5R)(ap:d5V):∀(k:Nat) (i:Int),0<=i->-2<=ocF par prio ap k i
 |0,i,h=>by show -2<=(-1:Int);omega|k+1,i,h=>by
  unfold ocF;have hb:-2<=chF (ocF par prio ap k) (prF prio) (castL (kids par i)):=b3j λx hx=>by unfold castL at hx;obtain⟨j,hj,rfl⟩:=X5.1 hx;exact b4o par prio ap k _ l7
  cases x8 (chF (ocF par prio ap k) (prF prio) (castL (kids par i))) (-1)
  .exact hb
  .cases apF ap i
   .show -2<=(-1:Int);omega
   .show -2<=i;omega
theorem b0u(par prio:d5R)(ap:d5V):-2<=EY par prio ap:=by
 unfold EY;cases x8 (Bv par prio) 0
 .show -2<=(-1:Int);omega
 cases x8 (o9 ap) (o9 par)
 .show -2<=(-1:Int);omega
 show -2<=chS par prio ap (-1);unfold chS;refine b3j λx hx=>?_;unfold castL at hx;obtain⟨j,hj,rfl⟩:=X5.1 hx;unfold OC;exact b4o par prio ap _ _ l7
theorem Uh(b:d5V)(i:Int)(r:Int×E4)(h:EU s env m d b i= .inr r):r.2.1≠0:=by
 unfold EU at h;cases hl:G6 s.2.2.2.2 i with
 |none=>rw[hl]at h;cases h|some q=>
  rw[hl]at h;simp only at h;cases h1:x8 (o9 q.2.2.2.2.2.1) 0<;>rw[h1]at h
  .cases h2:x8 (uw q.2.2.2.2.2.1 env).2 0<;>rw[h2]at h<;>cases h;simp only;intro h3;rw[O5 h3]at h2;cases h2
  .cases h
theorem Xi(h0:(Z9 s env m d).2.1=0)(h1:(Z9 s env m d).1≠-1)(h2:(Z9 s env m d).1≠-2):∃r,G6 s.2.2.2.2 (Z9 s env m d).1=some r/\r∈s.2.2.2.2:=by
 unfold Z9 at*;cases hf:bF (EU s env m d) (dn s d env.1).1 []with
 |inr e=>rw[hf]at h0;exact absurd h0 (uJ (EU s env m d) (λr=>r.2.1≠0) Uh _ _ _ hf)|inl ap=>
  rw[hf]at h0 h1 h2;simp only at*;have hb:=a3N (dn s d env.1).2.1 (dn s d env.1).2.2 ap;have hlo:=b0u (dn s d env.1).2.1 (dn s d env.1).2.2 ap;have hl:=(Qo s d env.1).2;generalize EY (dn s d env.1).2.1 (dn s d env.1).2.2 ap=q at*;by_cases g:q<0
  .rw[U6 g]at h1 h2;simp only[o7]at h1 h2;omega
  rw[N7 (iQ.1 g)];have hi:q.toNat<(dn s d env.1).1.length:=l7;simp only[o6,uZ,bQ hi,dK];exact a0q (I4 hi)
def yX(s:A7)(env:aV)(m d:Int):(V3×Int)⊕E4:=
 l9 (x8 (Z9 s env m d).2.1 0) (l9 (x8 (Z9 s env m d).1 (-1)) (.inr (10,m,d,-1)) (l9 (x8 (Z9 s env m d).1 (-2)) (.inr (11,m,d,-1))
  (match G6 s.2.2.2.2 (Z9 s env m d).1 with
  |none=> .inr (1,0,0,0)
  |some r=>l9 (x8 (uw r.2.2.2.2.2.2.1 env).2 0) (.inl ((uw r.2.2.2.2.2.2.1 env).1,(Z9 s env m d).1)) (.inr ((uw r.2.2.2.2.2.2.1 env).2,m,d,(Z9 s env m d).1))))) (.inr (Z9 s env m d).2)
theorem a4C{e:E4}(h:yX s env m d= .inr e):e.1≠0:=by
 unfold yX at h;cases h0:x8 (Z9 s env m d).2.1 0<;>rw[h0]at h
 .cases h;intro h3;rw[O5 h3]at h0;cases h0
 cases h1:x8 (Z9 s env m d).1 (-1)<;>rw[h1]at h
 case true=>cases h;show(10:Int)≠0;decide
 cases h2:x8 (Z9 s env m d).1 (-2)<;>rw[h2]at h
 case true=>cases h;show(11:Int)≠0;decide
 simp only[o7,o6]at h;cases hl:G6 s.2.2.2.2 (Z9 s env m d).1 with
 |none=>rw[hl]at h;cases h;show(1:Int)≠0;decide|some r=>rw[hl]at h;simp only at h;cases h4:x8 (uw r.2.2.2.2.2.2.1 env).2 0<;>rw[h4]at h<;>cases h;simp only;intro h3;rw[O5 h3]at h4;cases h4
theorem b0V(hs:SmS s)(hE:EvOk env)(m d:Int):Iw s env m d=some (match yX s env m d with| .inl v=>(v.1,v.2,0,0,0,0)| .inr e=>((0,0,0),0,e)):=by
 unfold Iw yX;rw[b0S hs hE,o8];cases h0:x8 (Z9 s env m d).2.1 0
 .rfl
 cases h1:x8 (Z9 s env m d).1 (-1)
 case true=>rfl
 cases h2:x8 (Z9 s env m d).1 (-2)
 case true=>rfl
 obtain⟨r,hr,hm⟩:=Xi (P7.1 h0) (λh=>by rw[O5 h]at h1;cases h1) (λh=>by rw[O5 h]at h2;cases h2);simp only[E5,o6,o7,hr,o8];rw[a5K hE (hs.ro r hm).1.2.2.2,o8];cases x8 (uw r.2.2.2.2.2.2.1 env).2 0<;>rfl
theorem a2f{s:A7} :∀(k:Nat) (O:d5R),(∀d∈O,0<=d/\d<nD s)->match UM s k O with| .inl O' =>(∀d∈O',0<=d/\d<nD s)/\O'.length<=O.length+k| .inr x=>x.1=[]
 |0,O,h=>⟨h,l7⟩|k+1,O,h=>by
  unfold UM;by_cases hc:O.length<s.2.2.2.1.length
  .rw[if_pos hc];cases hn:OD s O with
   |none=>rfl|some d=>
    have hd:=(r_ hn).1;have:=a2f k (O++[(d:Int)]) (λx hx=>by
     rcases D5.1 hx with hx|hx
     .exact h x hx
     .rw[D8]at hx;subst hx;unfold nD o9;omega)
    simp only;cases ho:UM s k (O++[(d:Int)])with
    |inl O' =>rw[ho]at this;exact⟨this.1,by have:=this.2;simp at this;omega⟩|inr x=>rw[ho]at this;exact this
  .rw[if_neg hc];exact⟨h,l7⟩
theorem XE(s:A7):(∀d∈(kN s).1,0<=d/\d<nD s)/\(kN s).1.length<=100:=by
 have:=a2f (s:=s) 100 [] x9;unfold kN;cases ho:UM s 100 []with
 |inl O=>rw[ho]at this;exact⟨this.1,by have:=this.2;simp at this;exact this⟩|inr x=>rw[ho]at this;simp only at this ⊢;rw[this];simp
abbrev DB:Type:=List V3×d5R
def yZ(env:aV)(ds:List V3):aV:=(env.1,env.2.1,ds,env.2.2.2)
theorem DR(h:EvOk env)(ds:List V3):EvOk (yZ env ds):=⟨h.ms,h.tb⟩
def scG(s:A7)(env:aV)(m:Int)(need:d5V)(b:DB)(d:Int):DB⊕(E4×List V3):=
 l9 ((G6 need d).getD false) (match yX s (yZ env b.1) m d with
  | .inl v=> .inl (b.1.set d.toNat v.1,b.2.set d.toNat v.2)
  | .inr e=> .inr (e,b.1)) (.inl b)
def scS(s:A7)(env:aV)(m:Int)(need:d5V):DB⊕(E4×List V3):=bF (scG s env m need) (kN s).1 (List.replicate s.2.2.2.1.length (0,0,0),List.replicate s.2.2.2.1.length 0)
variable {need:d5V}
theorem b9E(b:DB)(d:Int)(r:E4×List V3)(h:scG s env m need b d= .inr r):r.1.1≠0:=by
 unfold scG at h;cases hb:(G6 need d).getD false<;>rw[hb]at h
 .cases h
 simp only[o7]at h;cases hd:yX s (yZ env b.1) m d with
 |inl v=>rw[hd]at h;cases h|inr e=>rw[hd]at h;cases h;exact a4C hd
theorem Og{r:E4×List V3}(h:scS s env m need= .inr r):r.1.1≠0:=uJ (scG s env m need) (λr=>r.1.1≠0) b9E _ _ _ h
def Wj{β ρ ρ' :Type}(h:ρ->ρ'):β⊕ρ->β⊕ρ'| .inl b=> .inl b| .inr r=> .inr (h r)
theorem LW{α β ρ ρ' :Type}(G:β->α->β⊕ρ)(G' :β->α->β⊕ρ')(h:ρ->ρ')(hG:∀b a,G' b a=Wj h (G b a)):∀(l:List α) (b:β),bF G' l b=Wj h (bF G l b)
 |[],b=>rfl|a::l,b=>by
  unfold bF;rw[hG b a];cases G b a with
  |inl b' =>exact LW G G' h hG l b'|inr r=>rfl
theorem zF(s:A7)(hs:SmS s)(x:α):pR (o9 s.2.2.2.1) x=some (List.replicate s.2.2.2.1.length x):=by have:=hs.nd;rw[show o9 s.2.2.2.1=(s.2.2.2.1.length:Int)from rfl,Di l7 l7];rfl
def scP(env:aV):E4×List V3->d5R×E4×aV:=λr=>([],r.1,yZ env r.2)
theorem Ue(hs:SmS s)(hE:EvOk env)(m:Int)(hn:need.length=s.2.2.2.1.length):jQ s env m need=some (match scS s env m need with| .inl b=>(b.2,(0,0,0,0),yZ env b.1)| .inr r=>([],r.1,yZ env r.2)):=by
 obtain⟨o1,o2⟩:=XE s;unfold jQ;rw[zF s hs,o8,zF s hs,o8,b4B hs,o8];have hfold:=LW (scG s env m need) (λb d=>Wj (scP env) (scG s env m need b d)) (scP env) (λ_ _=>rfl) (kN s).1 (List.replicate s.2.2.2.1.length (0,0,0),List.replicate s.2.2.2.1.length 0);unfold scS;apply pz (kN s).1 (λb d=>Wj (scP env) (scG s env m need b d)) (λb i=>((yZ env b.1,(0,0,0,0),b.2,i):aV×E4×d5R×Int)) (λb=>((yZ env b.1,(0,0,0,0),b.2):aV×E4×d5R)) (λi b=>b.1.length=s.2.2.2.1.length/\b.2.length=s.2.2.2.1.length) (List.replicate s.2.2.2.1.length (0,0,0),List.replicate s.2.2.2.1.length 0) l7 ⟨x9,x9⟩
 .intro i d b hi hi' hb;have hr:=o1 d (kK hi);have hnd:nD s=(s.2.2.2.1.length:Int):=rfl;obtain⟨k,rfl⟩:∃k:Nat,d=(k:Int):=⟨d.toNat,l7⟩;have hk:k<s.2.2.2.1.length:=l7;have e1:=bQ (show k<need.length by omega);have e2:=bQ (show k<b.1.length by omega);have e3:=bQ (show k<b.2.length by omega);unfold scG;simp only[J3 hi,o7,F8,hi,o8,V4,V8,E8,e1,dK];cases need[k]
  .simp only[bg,o7,o6];rw[Y3 l7];exact⟨rfl,λ_ h=>by cases h;exact hb⟩
  simp only[E5,o7,o6];rw[a6j hs (DR hE b.1),o8];unfold yX;cases h0:x8 (Z9 s (yZ env b.1) m (k:Int)).2.1 0
  .exact⟨rfl,λ_ h=>by cases h⟩
  cases h1:x8 (Z9 s (yZ env b.1) m (k:Int)).1 (-1)
  case true=>exact⟨rfl,λ_ h=>by cases h⟩
  cases h2:x8 (Z9 s (yZ env b.1) m (k:Int)).1 (-2)
  case true=>exact⟨rfl,λ_ h=>by cases h⟩
  obtain⟨r,hr,hm⟩:=Xi (P7.1 h0) (λh=>by rw[O5 h]at h1;cases h1) (λh=>by rw[O5 h]at h2;cases h2);simp only[E5,o6,o7,hr,o8];rw[a9G (DR hE b.1) (hs.ro r hm).1.2.2.2,o8];cases h3:x8 (uw r.2.2.2.2.2.2.1 (yZ env b.1)).2 0
  .exact⟨rfl,λ_ h=>by cases h⟩
  .simp only[E5,o6,o7];refine⟨?_,λ_ h=>by cases h;exact⟨by simp[hb.1],by simp[hb.2]⟩⟩;rw[Y3 l7];have e2' :(yZ env b.1).2.2.1[k]? =some (b.1[k]'l7):=e2;simp only[e2',e3,o8];rfl
 .intro b hb;rw[I9];rfl
 .intro _;rw[hfold];cases bF (scG s env m need) (kN s).1 (List.replicate s.2.2.2.1.length (0,0,0),List.replicate s.2.2.2.1.length 0)<;>rfl
theorem Po(hs:SmS s)(hE:EvOk env)(m:Int)(hn:need.length=s.2.2.2.1.length):xg s env m need=some (match scS s env m need with| .inl b=>(b.1,b.2,0,0,0,0)| .inr r=>([],[],r.1)):=by
 obtain⟨o1,o2⟩:=XE s;unfold xg;rw[zF s hs,o8,zF s hs,o8,b1S hs,o8];have hfold:=LW (scG s env m need) (λb d=>Wj (λr=>(([],[],r.1):List V3×d5R×E4)) (scG s env m need b d)) (λr=>(([],[],r.1):List V3×d5R×E4)) (λ_ _=>rfl) (kN s).1 (List.replicate s.2.2.2.1.length (0,0,0),List.replicate s.2.2.2.1.length 0);unfold scS;apply pz (kN s).1 (λb d=>Wj (λr=>(([],[],r.1):List V3×d5R×E4)) (scG s env m need b d)) (λb i=>(((env.1,env.2.1,PUnit.unit,env.2.2.2),(0,0,0,0),b.1,b.2,i):(Int×List V3×PUnit×List (List V3)×List F6×List fZ)×E4×List V3×d5R×Int)) (λb=>(((0,0,0,0),b.1,b.2):E4×List V3×d5R)) (λi b=>b.1.length=s.2.2.2.1.length/\b.2.length=s.2.2.2.1.length) (List.replicate s.2.2.2.1.length (0,0,0),List.replicate s.2.2.2.1.length 0) l7 ⟨x9,x9⟩
 .intro i d b hi hi' hb;have hr:=o1 d (kK hi);have hnd:nD s=(s.2.2.2.1.length:Int):=rfl;obtain⟨k,rfl⟩:∃k:Nat,d=(k:Int):=⟨d.toNat,l7⟩;have hk:k<s.2.2.2.1.length:=l7;have e1:=bQ (show k<need.length by omega);have e2:=bQ (show k<b.1.length by omega);have e3:=bQ (show k<b.2.length by omega);have hd:=b0V hs (DR hE b.1) m (k:Int);unfold yZ at hd;unfold scG;simp only[J3 hi,o7,F8,hi,o8,V4,V8,E8,e1,dK];cases need[k]
  .simp only[bg,o7,o6];rw[Y3 l7];exact⟨rfl,λ_ h=>by cases h;exact hb⟩
  simp only[E5,o7,o6];rw[hd,o8];unfold yZ;cases hq:yX s (env.1,env.2.1,b.1,env.2.2.2) m (k:Int)with
  |inr e=>simp only[O8 (a4C hq)];exact⟨rfl,λ_ h=>by cases h⟩|inl v=>refine⟨?_,λ_ h=>by cases h;exact⟨by simp[hb.1],by simp[hb.2]⟩⟩;simp only[e2,e3,o8,O5 (rfl:(0:Int)=0),E5,o6];rw[Y3 l7];rfl
 .intro b hb;rw[I9];rfl
 .intro _;rw[hfold];cases bF (scG s env m need) (kN s).1 (List.replicate s.2.2.2.1.length (0,0,0),List.replicate s.2.2.2.1.length 0)<;>rfl
def Cj(l:U9)(k:Int)(c:aF)(ex:Bool)(d:Int):E4:=
 l9 (x8 (iE l).1 0) (match G6 l.2.2 k with
  |none=>(6,-1,-1,-1)
  |some s=>l9 (l9 ex (l9 (D9 d 0) true (L6 (o9 s.2.2.2.1) d)) false) (6,-1,-1,-1) (l9 (x8 (DI l k c).2.2 0) (0,0,0,0) ((DI l k c).2.2,(DI l k c).1,-1,-1))) (1,-1,-1,-1)
theorem a5f(l:List A7)(k:Int):(D9 k 0=true/\G6 l k=none)\/(D9 k 0=false/\L6 (o9 l) k=true/\G6 l k=none)\/(D9 k 0=false/\L6 (o9 l) k=false/\∃s,G6 l k=some s/\s∈l):=by
 by_cases h:k<0
 .exact .inl ⟨U6 h,tJ (.inl (Y9 h))⟩
 by_cases h2:o9 l<=k
 .exact .inr (.inl ⟨N7 l7,Y5 h2,tJ (.inr (N7 h2))⟩)
 .exact .inr (.inr ⟨N7 l7,Y9 l7,lZ l7 l7⟩)
variable {l:U9}{c:aF}
theorem b8m(hL:SmL l)(k:Int)(hc:SmC c)(ex:Bool)(d:Int):ul l k c ex d=some (Cj l k c ex d):=by
 unfold ul Cj;rw[a6H hL,o8,b8p l k hc];cases x8 (iE l).1 0
 .rfl
 simp only[E5,o6,o7];rcases a5f l.2.2 k with⟨h1,h2⟩|⟨h1,h2,h3⟩|⟨h1,h2,s,h3,_⟩
 .rw[h1,h2];rfl
 .rw[h1,h2,h3];rfl
 .rw[h1,h2,h3];simp only[o6,o8];cases ex
  .simp only[o6,o8,U0];cases x8 (DI l k c).2.2 0<;>rfl
  .simp only[o7];cases D9 d 0
   .cases L6 (o9 s.2.2.2.1) d
    .simp only[o6,o8,U0];cases x8 (DI l k c).2.2 0<;>rfl
    .rfl
   .rfl
theorem b5p(hL:SmL l)(k:Int)(hc:SmC c)(ex:Bool)(d:Int):ED l k c d ex=some (Cj l k c ex d):=by
 unfold ED Cj Lm;rw[a3B hL,o8,o8,b5q l k hc];cases x8 (iE l).1 0
 .rfl
 simp only[E5,o6,o7];rcases a5f l.2.2 k with⟨h1,h2⟩|⟨h1,h2,h3⟩|⟨h1,h2,s,h3,_⟩
 .rw[h1,h2];rfl
 .rw[h1,h2,h3];rfl
 .rw[h1,h2,h3];simp only[o6,o8];cases ex
  .simp only[o6,o8,U0];cases x8 (DI l k c).2.2 0<;>rfl
  .simp only[o7];cases D9 d 0
   .cases L6 (o9 s.2.2.2.1) d
    .simp only[o6,o8,U0];cases x8 (DI l k c).2.2 0<;>rfl
    .rfl
   .rfl
def yJ:A7:=([],0,[],[],[])
def P9(l:U9)(s:A7):A7:=l9 (L6 0 s.2.1) ((G6 l.2.2 s.2.1).getD yJ) yJ
def wP(n:Nat):d5V:=List.replicate n false
theorem QA{ex:Bool}(h:(Cj l k c ex d).1=0):(iE l).1=0/\∃s,G6 l.2.2 k=some s:=by
 unfold Cj at h;cases h0:x8 (iE l).1 0<;>rw[h0]at h
 .exact absurd (show(1:Int)=0 from h) H9
 refine⟨P7.1 h0,?_⟩;cases h1:G6 l.2.2 k with
 |none=>rw[h1]at h;exact absurd (show(6:Int)=0 from h) H9|some s=>exact⟨s,rfl⟩
theorem b8d(h:(iE l).1=0)(hs:l.2.2[i]? =some s):(Hg l i s).1=0:=by
 unfold iE at h;cases h1:x8 (Np l).1 0<;>rw[h1]at h
 .simp only[o6]at h;rw[O5 h]at h1;cases h1
 cases h2:x8 (Ol l).1 0<;>rw[h2]at h
 .simp only[o7,o6]at h;rw[O5 h]at h2;cases h2
 simp only[o7]at h;unfold Vj at h;cases h3:D9 4 (o9 l.2.2)<;>rw[h3]at h
 case true=>exact absurd (show(4:Int)=0 from h) H9
 simp only[o6]at h;have hi:=(X7.1 hs).1;cases hf:aO l.2.2.length (Lp l)with
 |some r=>
  rw[hf]at h;simp only at h;obtain⟨j,hj,hp⟩:=je hf;unfold Lp at hp;cases hq:l.2.2[j]? with
  |none=>rw[hq]at hp;cases hp|some q=>
   rw[hq]at hp;simp only at hp;unfold SN at hp;exact absurd h (by cases he:x8 (Hg l j q).1 0<;>rw[he]at hp<;>cases hp;simp only;intro h4;rw[O5 h4]at he;cases he)
 |none=>
  have hn:=uY hf i hi;unfold Lp at hn;rw[hs]at hn;simp only at hn;unfold SN at hn;cases he:x8 (Hg l i s).1 0<;>rw[he]at hn
  .cases hn
  exact P7.1 he
theorem MQ(h:(iE l).1=0)(hs:l.2.2[i]? =some s):CP l i s.2.1=false/\(Tn l s).1=0:=by
 have he:=b8d h hs;unfold Hg at he;cases g1:EW s.1<;>rw[g1]at he
 .exact absurd (show(2:Int)=0 from he) H9
 cases g2:GX l 3 i s.1<;>rw[g2]at he
 case true=>exact absurd (show(7:Int)=0 from he) H9
 cases g3:CP l i s.2.1<;>rw[g3]at he
 case true=>exact absurd (show(6:Int)=0 from he) H9
 cases g4:D9 12 (o9 s.2.2.1)<;>rw[g4]at he
 case true=>exact absurd (show(4:Int)=0 from he) H9
 cases g5:D9 12 (o9 s.2.2.2.1)<;>rw[g5]at he
 case true=>exact absurd (show(4:Int)=0 from he) H9
 exact⟨rfl,he⟩
theorem Xe(h:(iE l).1=0)(hs:l.2.2[i]? =some s):CP l i s.2.1=false:=(MQ h hs).1
theorem zM(h:(iE l).1=0)(hs:G6 l.2.2 k=some s):(L6 0 s.2.1=false/\D9 s.2.1 0=true/\P9 l s=yJ)\/(L6 0 s.2.1=true/\D9 s.2.1 0=false/\L6 (o9 l.2.2) s.2.1=false/\G6 l.2.2 s.2.1=some (P9 l s)/\P9 l s∈l.2.2):=by
 obtain⟨k0,k1,k2,k3⟩:=dU hs;have hm:=Xe h k3;unfold CP at hm;by_cases g:0<=s.2.1
 .right;rw[O8 (show s.2.1≠-1 by intro e;rw[e]at g;exact absurd g H9),N7 g]at hm;simp only[o6]at hm;cases g2:L6 ((k.toNat:Nat):Int) s.2.1<;>rw[g2]at hm
  case true=>cases hm
  rw[DX]at g2;have hlt:s.2.1<o9 l.2.2:=by have:((k.toNat:Nat):Int)=k:=ax k0;rw[this]at g2;exact Int.lt_trans g2 k1
  obtain⟨q,hq,hqm⟩:=lZ g hlt;have e:P9 l s=q:=by unfold P9;rw[Y5 g,hq];rfl
  rw[e];exact⟨Y5 g,N7 g,Y9 hlt,hq,hqm⟩
 .left;have g' :=lT.1 g;refine⟨Y9 g',U6 g',?_⟩;unfold P9;rw[Y9 g'];rfl
theorem a4l{σ ε α β:Type}{f:σ->Option (σ⊕ε)}{mk:List β->Int->σ}{fin:List β->ε}{l:List α}{g:α->β}
  (hs:∀(i:Nat) (a:α) (b:List β),l[i]? =some a->b.length=i->f (mk b (i:Int))=some (.inl (mk (b++[g a]) ((i+1:Nat):Int))))
  (he:∀b,f (mk b (l.length:Int))=some (.inr (fin b))):∀(l2 l1:List α) (k:Nat),l=l1++l2->lM f (k+1+l2.length) (mk (l1.map g) (l1.length:Int))=some (fin (l.map g))
 |[],l1,k,h=>by
  have:l=l1:=by simpa using h
  subst this;exact MF (he _)
 |a::l2,l1,k,h=>by rw[show k+1+(a::l2).length=(k+1+l2.length)+1 by simp;omega,FH (hs l1.length a (l1.map g) (by rw[h];simp) x9)];have:=a4l hs he l2 (l1++[a]) k (by rw[h];simp);simpa using this
variable {β:Type}
theorem a9q(mk:List β->Int->σ)(fin:List β->ε)(l:List α)(g:α->β)(hn:l.length<=1000000)
  (hs:∀(i:Nat) (a:α) (b:List β),l[i]? =some a->b.length=i->f (mk b (i:Int))=some (.inl (mk (b++[g a]) ((i+1:Nat):Int))))
  (he:∀b,f (mk b (l.length:Int))=some (.inr (fin b))):ay f (mk [] 0)=some (fin (l.map g)):=by
 unfold ay;rw[show iL=(iL -l.length -1)+1+l.length by unfold iL;omega];exact a4l hs he l [] _ rfl
theorem zk(h:(iE l).1=0)(hs:G6 l.2.2 k=some s):nX l k=some (P9 l s):=by
 unfold nX;rw[hs,o8];rcases zM h hs with⟨g1,g2,g3⟩|⟨g1,g2,g3,g4,g5⟩
 .rw[g2,g3];rfl
 .rw[g2,g3,g4];rfl
theorem a5u(hL:SmL l)(h:(iE l).1=0)(hs:G6 l.2.2 k=some s):BI l k=some (s,P9 l s,wP s.2.2.2.1.length,wP (P9 l s).2.2.2.1.length):=by
 have hm:=(dU hs).2.2.1;have hnd:=(hL.sc s hm).nd;unfold BI;rw[hs,o8,show pR (o9 s.2.2.2.1) false=some (wP s.2.2.2.1.length)from zF s (hL.sc s hm) false,o8];rcases zM h hs with⟨g1,g2,g3⟩|⟨g1,g2,g3,g4,g5⟩
 .rw[g1,g3];rfl
 .rw[g1,g4];simp only[o7,o8];rw[show pR (o9 (P9 l s).2.2.2.1) false=some (wP (P9 l s).2.2.2.1.length)from zF _ (hL.sc _ g5) false,o8]
theorem a7E:SmS yJ:=⟨by simp[yJ],by simp[yJ],by simp[yJ],by simp[yJ],⟨by simp[yJ],by simp[yJ]⟩,by simp[yJ]⟩
def Ib(l:U9)(c:aF)(v:List V3):aV:=(c.1,v,[],[],[],l.2.1)
def mG(l:U9)(c:aF)(ms:A7)(need:d5V)(b:List DB)(a:List V3×Nat):List DB⊕E4:=
 match scS ms (Ib l c a.1) (a.2:Int) need with
 | .inl x=> .inl (b++[x])| .inr e=> .inr e.1
def mS(l:U9)(c:aF)(ms:A7)(need:d5V):List DB⊕E4:=bF (mG l c ms need) c.2.2.zipIdx []
theorem a7z{ms:A7}(b:List DB)(a:List V3×Nat)(r:E4)(h:mG l c ms need b a= .inr r):r.1≠0:=by
 unfold mG at h;cases hs:scS ms (Ib l c a.1) (a.2:Int) need with
 |inl x=>rw[hs]at h;cases h|inr e=>rw[hs]at h;cases h;exact Og hs
theorem b0E{l:List (List V3)}{a:List V3×Nat}(h:l.zipIdx[i]? =some a):l[i]? =some a.1/\a.2=i:=by
 rw[AO]at h;cases hl:l[i]? with
 |none=>rw[hl]at h;cases h|some v=>rw[hl]at h;cases h;exact⟨rfl,x9⟩
theorem QJ(hT:∀t∈l.2.1,ru t)(c:aF)(v:List V3):EvOk (Ib l c v):=⟨by simp[Ib],hT⟩
theorem Pn(h:(iE l).1=0)(hs:G6 l.2.2 k=some s)(hc:c.2.2.length<=1000)(hM:SmS (P9 l s))(hT:∀t∈l.2.1,ru t)(hn:need.length=(P9 l s).2.2.2.1.length):
  uu l k c need=some (match mS l c (P9 l s) need with| .inl b=>(b.map (·.1),b.map (·.2),0,0,0,0)| .inr e=>([],[],e)):=by
 unfold uu;rw[zk h hs,o8];have hfold:=LW (mG l c (P9 l s) need) (λb a=>Wj (λe=>(([],[],e):List (List V3)×List d5R×E4)) (mG l c (P9 l s) need b a)) (λe=>(([],[],e):List (List V3)×List d5R×E4)) (λ_ _=>rfl) c.2.2.zipIdx [];unfold mS;have hzl:c.2.2.zipIdx.length=c.2.2.length:=x9;apply pz c.2.2.zipIdx (λb a=>Wj (λe=>(([],[],e):List (List V3)×List d5R×E4)) (mG l c (P9 l s) need b a)) (λb i=>(((0,0,0,0),b.map (·.1),b.map (·.2),i):E4×List (List V3)×List d5R×Int)) (λb=>(((0,0,0,0),b.map (·.1),b.map (·.2)):E4×List (List V3)×List d5R)) (λi b=>b.length=i) [] l7 rfl
 .intro i a b hi hi' hb;obtain⟨z1,z2⟩:=b0E hi;unfold Hf mG;simp only[J3 z1,o7,F8,z1,o8];rw[show xg (P9 l s) (c.1,a.1,[],[],[],l.2.1) (i:Int) need=_ from Po hM (QJ hT c a.1) (i:Int) hn,o8,z2];unfold Ib;cases hq:scS (P9 l s) (c.1,a.1,[],[],[],l.2.1) (i:Int) need with
  |inr e=>simp only[O8 (Og hq)];exact⟨rfl,λ_ h=>by cases h⟩|inl x=>simp only[O5 (rfl:(0:Int)=0),E5,o6];rw[fK _ Y8,o8,fK _ Y8,o8,Y3 l7];exact⟨by simp[Wj],λ_ h=>by cases h;simp[hb]⟩
 .intro b hb;rw[hzl,I9];rfl
 .intro _;rw[hfold];cases bF (mG l c (P9 l s) need) c.2.2.zipIdx []<;>rfl
def xY(l:U9)(s:A7)(c:aF)(b:List DB):aV:=(c.1,c.2.1,[],b.map (·.1),(P9 l s).2.2.2.1.map (·.2),l.2.1)
theorem Uz(hL:SmL l)(h:(iE l).1=0)(hs:G6 l.2.2 k=some s):SmS (P9 l s):=by
 rcases zM h hs with⟨_,_,g3⟩|⟨_,_,_,_,g5⟩
 .rw[g3];exact a7E
 .exact hL.sc _ g5
theorem a3c{ms:A7}{b:List DB}(h:mS l c ms need= .inl b):b.length=c.2.2.length:=by
 have key:∀(L:List (List V3×Nat)) (b0 b:List DB),bF (mG l c ms need) L b0= .inl b->b.length=b0.length+L.length:=by
  intro L;induction L with
  |nil=>intro b0 b h;cases h;simp|cons a L ih=>
   intro b0 b h;unfold bF at h;cases hg:mG l c ms need b0 a with
   |inr e=>rw[hg]at h;cases h|inl b1=>
    rw[hg]at h;have:=ih b1 b h;have h1:b1.length=b0.length+1:=by
     unfold mG at hg;cases hs:scS ms (Ib l c a.1) (a.2:Int) need with
     |inr e=>rw[hs]at hg;cases hg|inl x=>rw[hs]at hg;cases hg;simp
    simp only[I5];omega
 have:=key _ _ _ h;simpa using this
theorem PR(hT:∀t∈l.2.1,ru t)(s:A7)(c:aF){b:List DB}(hb:b.length<=1000):EvOk (xY l s c b):=⟨by simp[xY];omega,hT⟩
theorem b0k(c:aF)(b:List DB)(h:(iE l).1=0)(hs:G6 l.2.2 k=some s)(hM:SmS (P9 l s)):QX l k c (b.map (·.1))=some (xY l s c b):=by
 have hnd:=hM.nd;unfold QX;rw[zk h hs,o8,gU];refine a9q (λL i=>(((c.1,c.2.1,[],b.map (·.1),L,l.2.1),i):aV×Int)) (λL=>((c.1,c.2.1,[],b.map (·.1),L,l.2.1):aV)) (P9 l s).2.2.2.1 (λf=>f.2) l7 (λi a L hi hL=>?_) (λL=>?_)
 .have:=(X7.1 hi).1;simp only[J3 hi,o7,F8,hi,o8];rw[fK _ l7,o8,Y3 l7]
 .rw[I9];rfl
abbrev ZT:Type:=Int×List V3×PUnit×List (List V3)×List (Int×Int)×List fZ
def Ru(l:U9)(s:A7)(c:aF)(nS nM:d5V):DB×List DB⊕E4:=
 match mS l c (P9 l s) nM with
 | .inr e=> .inr e
 | .inl b=>match scS s (xY l s c b) (-1) nS with
  | .inl x=> .inl (x,b)| .inr r=> .inr r.1
variable {nS:d5V}{nM:d5V}
theorem a2P(hS:SmS s)(hM:SmS (P9 l s))(hC:SmC c)(hT:∀t∈l.2.1,ru t)(h1:nS.length=s.2.2.2.1.length)(h2:nM.length=(P9 l s).2.2.2.1.length):
  BH l k c (s,P9 l s,nS,nM)=some (match Ru l s c nS nM with
   | .inl x=>((x.1.1,x.1.2,x.2),yZ (xY l s c x.2) x.1.1,(0,0,0,0),(s,P9 l s,nS,nM))
   | .inr e=>(([],[],[]),(0,[],[],[],[],[]),e,(s,P9 l s,nS,nM))):=by
 have hnd:=hM.nd;have hnm:=hC.nm;unfold BH;rw[show(ay _ _)=some (((c.1,c.2.1,PUnit.unit,PUnit.unit,(P9 l s).2.2.2.1.map (λf=>f.2),l.2.1)):Int×List V3×PUnit×PUnit×List (Int×Int)×List fZ)from ?_,o8]
 rotate_left
 .refine a9q (λL i=>(((c.1,c.2.1,PUnit.unit,PUnit.unit,L,l.2.1),i):(Int×List V3×PUnit×PUnit×List (Int×Int)×List fZ)×Int)) (λL=>((c.1,c.2.1,PUnit.unit,PUnit.unit,L,l.2.1):Int×List V3×PUnit×PUnit×List (Int×Int)×List fZ)) (P9 l s).2.2.2.1 (λf=>f.2) l7 (λi a L hi hL=>?_) (λL=>?_)
  .have:=(X7.1 hi).1;simp only[J3 hi,o7,F8,hi,o8];rw[fK _ l7,o8,Y3 l7]
  .rw[I9];rfl
 have hfold:=LW (mG l c (P9 l s) nM) (λb a=>Wj (λe=>((([],[],[]),(0,[],[],[],[],[]),e,(s,P9 l s,nS,nM)):BC×aV×E4×dE)) (mG l c (P9 l s) nM b a)) (λe=>((([],[],[]),(0,[],[],[],[],[]),e,(s,P9 l s,nS,nM)):BC×aV×E4×dE)) (λ_ _=>rfl) c.2.2.zipIdx [];have hzl:c.2.2.zipIdx.length=c.2.2.length:=x9;unfold Ru mS;apply pz c.2.2.zipIdx (λb a=>Wj (λe=>((([],[],[]),(0,[],[],[],[],[]),e,(s,P9 l s,nS,nM)):BC×aV×E4×dE)) (mG l c (P9 l s) nM b a))
  (λb i=>((([],[],[]),(0,[],[],[],[],[]),(0,0,0,0),(c.1,c.2.1,PUnit.unit,b.map (·.1),(P9 l s).2.2.2.1.map (λf=>f.2),l.2.1),([],[],b),i):BC×aV×E4×ZT×BC×Int))
  (λb=>((([],[],[]),(0,[],[],[],[],[]),(0,0,0,0),(c.1,c.2.1,PUnit.unit,b.map (·.1),(P9 l s).2.2.2.1.map (λf=>f.2),l.2.1),([],[],b)):BC×aV×E4×ZT×BC))
  (λi b=>b.length=i) [] l7 rfl
 .intro i a b hi hi' hb;obtain⟨z1,z2⟩:=b0E hi;have hil:=(X7.1 z1).1;unfold mG;simp only[J3 z1,o7,F8,z1,o8];rw[show jQ (P9 l s) (c.1,a.1,[],[],[],l.2.1) (i:Int) nM=_ from Ue hM (QJ hT c a.1) (i:Int) h2,o8,z2];unfold Ib;cases hq:scS (P9 l s) (c.1,a.1,[],[],[],l.2.1) (i:Int) nM with
  |inr e=>simp only[O8 (Og hq)];exact⟨rfl,λ_ h=>by cases h⟩|inl x=>simp only[O5 (rfl:(0:Int)=0),E5,o6];rw[fK _ Y8,o8,fK _ l7,o8,Y3 l7];exact⟨by simp[Wj,yZ],λ_ h=>by cases h;simp[hb]⟩
 .intro b hb;rw[hzl,I9];rfl
 .intro _;rw[hfold];cases hq:bF (mG l c (P9 l s) nM) c.2.2.zipIdx []with
  |inr e=>rfl|inl b=>
   have hbl:b.length=c.2.2.length:=a3c (ms:=P9 l s) (need:=nM) hq;have hsc:=Ue (need:=nS) hS (PR hT s c (b:=b) l7) (-1) h1;unfold xY at hsc;simp only[Wj,U0];rw[show jQ s (c.1,c.2.1,[],b.map (·.1),(P9 l s).2.2.2.1.map (λf=>f.2),l.2.1) (-1) nS=_ from hsc,o8];unfold xY;cases hr:scS s (c.1,c.2.1,[],b.map (·.1),(P9 l s).2.2.2.1.map (λf=>f.2),l.2.1) (-1) nS with
   |inr e=>simp only[O8 (Og hr)];rfl|inl x=>rfl
theorem kJ{n:Nat}{l:List α}(h:D9 (n:Int) (o9 l)=false):l.length<=n:=by rw[iM]at h;unfold o9 at h;omega
def ZR(r:aj):Bool:=l9 (D9 80 (o9 r.1)) true (l9 (D9 80 (o9 r.2.2.2.2.2.2.2)) true (l9 (D9 50 (o9 r.2.2.2.2.2.1)) true (D9 50 (o9 r.2.2.2.2.2.2.1))))
def smS(s:A7):Bool:=l9 (D9 80 (o9 s.1)) false (l9 (D9 14 (o9 s.2.2.1)) false (l9 (D9 14 (o9 s.2.2.2.1)) false (l9 (D9 60 (o9 s.2.2.2.2)) false
 (l9 (s.2.2.1.any λf=>D9 80 (o9 f.1)) false (l9 (s.2.2.2.1.any λf=>D9 80 (o9 f.1)) false (F7 (s.2.2.2.2.any ZR)))))))
theorem Zx{fs:List jm}(h:fs.length<=1000000):ae (λ(x:Int)=>l9 (D9 x (o9 fs)) (o5 (G6 fs x) λ(x_1:jm)=>l9 (D9 80 (o9 x_1.1)) (some (Out.rt false)) (some (Out.nx (C9 IntKind.i64 x 1)))) (some (Out.ex PUnit.unit))) 0=some (bif fs.any (λf=>D9 80 (o9 f.1))then .inr false else .inl PUnit.unit):=by
 refine xw fs (λf=>D9 80 (o9 f.1)) false PUnit.unit h (λi a ha=>?_) ?_
 .simp only[J3 ha,o7,F8,ha,o8];cases D9 80 (o9 a.1)<;>rfl
 .rw[I9];rfl
theorem a1f(s:A7):Cf s=some (smS s):=by
 unfold Cf smS;cases h1:D9 80 (o9 s.1)
 case true=>rfl
 cases h2:D9 14 (o9 s.2.2.1)
 case true=>rfl
 cases h3:D9 14 (o9 s.2.2.2.1)
 case true=>rfl
 cases h4:D9 60 (o9 s.2.2.2.2)
 case true=>rfl
 have l2:=kJ (n:=14) h2;have l3:=kJ (n:=14) h3;have l4:=kJ (n:=60) h4;simp only[o6,o8,U0];rw[Zx l7,Zx l7,o8];cases s.2.2.1.any λf=>D9 80 (o9 f.1)
 case true=>rfl
 simp only[cond_false,U0,o6,o8];cases s.2.2.2.1.any λf=>D9 80 (o9 f.1)
 case true=>rfl
 simp only[cond_false,U0,o6];refine X8 (xw s.2.2.2.2 ZR false PUnit.unit l7 (λi a ha=>?_) ?_) ?_
 rotate_left 2
 .cases s.2.2.2.2.any ZR<;>rfl
 .simp only[J3 ha,o7,F8,ha,o8];unfold ZR;cases D9 80 (o9 a.1)<;>cases D9 80 (o9 a.2.2.2.2.2.2.2)<;>cases D9 50 (o9 a.2.2.2.2.2.1)<;>cases D9 50 (o9 a.2.2.2.2.2.2.1)<;>rfl
 .rw[I9];rfl
def ScI(s:A7):Prop:=∀r∈s.2.2.2.2,(∀n∈r.2.2.2.2.2.1,kE n.2)/\∀n∈r.2.2.2.2.2.2.1,kE n.2
theorem Yb{a b:Bool}(h:l9 a false b=true):a=false/\b=true:=by cases a<;>cases b<;>first|exact⟨rfl,rfl⟩|cases h
theorem a1q{l:List α}{p:α->Bool}(h:l.any p=false):∀a∈l,p a=false:=by
 intro a ha;rw[jg]at h;have:=h a ha;cases hp:p a
 .rfl
 .exact absurd hp this
theorem c2J(h:smS s=true)(hI:ScI s):SmS s:=by
 unfold smS at h;obtain⟨h1,h⟩:=Yb h;obtain⟨h2,h⟩:=Yb h;obtain⟨h3,h⟩:=Yb h;obtain⟨h4,h⟩:=Yb h;obtain⟨h5,h⟩:=Yb h;obtain⟨h6,h⟩:=Yb h;have h7:s.2.2.2.2.any ZR=false:=by cases hq:s.2.2.2.2.any ZR<;>rw[hq]at h<;>first|rfl|cases h
 refine⟨by have:=kJ (n:=80) h1;omega,kJ (n:=14) h2,kJ (n:=14) h3,kJ (n:=60) h4,⟨λf hf=>?_,λf hf=>?_⟩,λr hr=>?_⟩
 .have:=kJ (n:=80) (a1q h5 f hf);omega
 .have:=kJ (n:=80) (a1q h6 f hf);omega
 .have hl:=a1q h7 r hr;unfold ZR at hl;cases g1:D9 80 (o9 r.1)<;>rw[g1]at hl
  case true=>cases hl
  cases g2:D9 80 (o9 r.2.2.2.2.2.2.2)<;>rw[g2]at hl
  case true=>cases hl
  cases g3:D9 50 (o9 r.2.2.2.2.2.1)<;>rw[g3]at hl
  case true=>cases hl
  have k1:=kJ (n:=80) g1;have k2:=kJ (n:=80) g2;exact⟨⟨l7,l7,(hI r hr).1,(hI r hr).2⟩,kJ (n:=50) g3,kJ (n:=50) hl⟩
def smC(c:aF):Bool:=l9 (D9 14 (o9 c.2.1)) false (l9 (D9 10 (o9 c.2.2)) false (F7 (c.2.2.any λv=>D9 14 (o9 v))))
theorem a3Q(c:aF):zI c=some (smC c):=by
 unfold zI smC;cases h1:D9 14 (o9 c.2.1)
 case true=>rfl
 cases h2:D9 10 (o9 c.2.2)
 case true=>rfl
 have l2:=kJ (n:=10) h2;simp only[o6];refine X8 (xw c.2.2 (λv=>D9 14 (o9 v)) false PUnit.unit l7 (λi a ha=>?_) ?_) ?_
 rotate_left 2
 .cases c.2.2.any λv=>D9 14 (o9 v)<;>rfl
 .simp only[J3 ha,o7,F8,ha,o8];cases D9 14 (o9 a)<;>rfl
 .rw[I9];rfl
theorem c2H(h:smC c=true):SmC c:=by
 unfold smC at h;obtain⟨h1,h⟩:=Yb h;obtain⟨h2,h⟩:=Yb h;have h3:(c.2.2.any λv=>D9 14 (o9 v))=false:=by cases hq:c.2.2.any λv=>D9 14 (o9 v)<;>rw[hq]at h<;>first|rfl|cases h
 exact⟨by have:=kJ (n:=14) h1;omega,by have:=kJ (n:=10) h2;omega,λv hv=>by have:=kJ (n:=14) (a1q h3 v hv);omega⟩
theorem VW{α β ρ:Type}(G:β->α->β⊕ρ)(Inv:β->Prop)(hG:∀b a b',Inv b->G b a= .inl b' ->Inv b'):∀(l:List α) (b b' :β),Inv b->bF G l b= .inl b' ->Inv b'
 |[],b,b',hi,h=>by cases h;exact hi|a::l,b,b',hi,h=>by
  unfold bF at h;cases hg:G b a with
  |inr r=>rw[hg]at h;cases h|inl b1=>rw[hg]at h;exact VW G Inv hG l b1 b' (hG b a b1 hi hg) h
theorem IB{b:DB}(h:scS s env m need= .inl b):b.1.length=s.2.2.2.1.length/\b.2.length=s.2.2.2.1.length:=by
 refine VW (scG s env m need) (λb=>b.1.length=s.2.2.2.1.length/\b.2.length=s.2.2.2.1.length) (λb a b' hi h=>?_) _ _ _ ⟨x9,x9⟩ h;unfold scG at h;cases hb:(G6 need a).getD false<;>rw[hb]at h
 .cases h;exact hi
 simp only[o7]at h;cases hd:yX s (yZ env b.1) m a with
 |inr e=>rw[hd]at h;cases h|inl v=>rw[hd]at h;cases h;exact⟨by simp[hi.1],by simp[hi.2]⟩
def a5j(e:jw):Bool:=l9 (D9 80 (o9 e.1)) true (l9 (D9 20 (o9 e.2)) true (e.2.any λm=>D9 80 (o9 m)))
def tG(b:Int)(t:fZ):Int⊕Bool:=l9 (D9 80 (o9 t.1)) (.inr false) (l9 (D9 150 (C9 .i64 b (o9 t.2.2.2))) (.inr false) (.inl (C9 .i64 b (o9 t.2.2.2))))
def sG(b:Int)(s:A7):Int⊕Bool:=l9 (D9 60 (C9 .i64 b (o9 s.2.2.2.2))) (.inr false) (l9 (smS s) (.inl (C9 .i64 b (o9 s.2.2.2.2))) (.inr false))
def smL(l:U9):Bool:=l9 (D9 9 (o9 l.1)) false (l9 (D9 9 (o9 l.2.1)) false (l9 (D9 5 (o9 l.2.2)) false (l9 (l.1.any a5j) false
 (match bF tG l.2.1 0 with| .inr _=>false| .inl _=>match bF sG l.2.2 0 with| .inr _=>false| .inl _=>true))))
theorem c5S:∀(b:Int) (t:fZ) (r:Bool),tG b t= .inr r->r=false:=by intro b t r h;unfold tG at h;cases g0:D9 80 (o9 t.1)<;>cases g:D9 150 (C9 .i64 b (o9 t.2.2.2))<;>simp only[g0,g,o7,o6]at h<;>cases h<;>rfl
theorem c2G:∀(b:Int) (s:A7) (r:Bool),sG b s= .inr r->r=false:=by intro b s r h;unfold sG at h;cases g:D9 60 (C9 .i64 b (o9 s.2.2.2.2))<;>cases g2:smS s<;>simp only[g,g2,o7,o6]at h<;>cases h<;>rfl
theorem a6k(l:U9):Bq l=some (smL l):=by
 unfold Bq smL;cases h1:D9 9 (o9 l.1)
 case true=>rfl
 cases h2:D9 9 (o9 l.2.1)
 case true=>rfl
 cases h3:D9 5 (o9 l.2.2)
 case true=>rfl
 have l1:=kJ (n:=9) h1;have l2:=kJ (n:=9) h2;have l3:=kJ (n:=5) h3;simp only[o6,o8,U0];refine X8 (xw l.1 a5j false PUnit.unit l7 (λi a ha=>?_) ?_) ?_
 .simp only[J3 ha,o7,F8,ha,o8];unfold a5j;cases D9 80 (o9 a.1)
  case true=>rfl
  cases h5:D9 20 (o9 a.2)
  case true=>rfl
  have l5:=kJ (n:=20) h5;simp only[o6];refine X8 (xw a.2 (λm=>D9 80 (o9 m)) false PUnit.unit l7 (λj m hm=>?_) ?_) ?_
  .simp only[J3 hm,o7,F8,hm,o8];cases D9 80 (o9 m)<;>rfl
  .rw[I9];rfl
  .cases a.2.any λm=>D9 80 (o9 m)<;>rfl
 .rw[I9];rfl
 cases l.1.any a5j
 case true=>rfl
 simp only[cond_false,U0,o6];apply pz l.2.1 tG (λb i=>((b,i):Int×Int)) (λ_=>PUnit.unit) (λ_ _=>True) 0 l7 trivial
 .intro i t b hi hi' _;refine⟨?_,λ_ _=>trivial⟩;simp only[J3 hi,o7,F8,hi,o8];unfold tG;rw[Y3 l7];cases D9 80 (o9 t.1)<;>cases D9 150 (C9 .i64 b (o9 t.2.2.2))<;>rfl
 .intro b _;rw[I9];rfl
 .intro _;cases ht:bF tG l.2.1 0 with
  |inr r=>rw[uJ tG (λr=>r=false) c5S _ _ _ ht];rfl|inl b=>
   simp only[U0];apply pz l.2.2 sG (λb i=>((b,i):Int×Int)) (λ_=>PUnit.unit) (λ_ _=>True) 0 l7 trivial
   .intro i s b hi hi' _;refine⟨?_,λ_ _=>trivial⟩;simp only[J3 hi,o7,F8,hi,o8,a1f];unfold sG;rw[Y3 l7];cases D9 60 (C9 .i64 b (o9 s.2.2.2.2))<;>cases smS s<;>rfl
   .intro b _;rw[I9];rfl
   .intro _;cases hs:bF sG l.2.2 0 with
    |inr r=>rw[uJ sG (λr=>r=false) c2G _ _ _ hs];rfl|inl b=>rfl
structure WfL (l:U9):Prop where
 rl:∀t∈l.2.1,t.2.2.2.length<=4611686018427387904
 ri:∀t∈l.2.1,∀r∈t.2.2.2,a9i r
 sl:∀s∈l.2.2,s.2.2.2.2.length<=4611686018427387904
 si:∀s∈l.2.2,ScI s
theorem b7O:∀(L:List fZ) (b b' :Int),0<=b->b<=150->(∀t∈L,t.2.2.2.length<=4611686018427387904)->bF tG L b= .inl b' ->∀t∈L,t.1.length<=80/\t.2.2.2.length<=150
 |[],_,_,_,_,_,_=>by simp|t::L,b,b',h0,h1,hw,h=>by
  have hwt:=hw t x9;have ha:C9 .i64 b (o9 t.2.2.2)=b+o9 t.2.2.2:=ai (by unfold kE o9;omega);unfold bF tG at h;rw[ha]at h;cases g0:D9 80 (o9 t.1)<;>rw[g0]at h
  case true=>cases h
  cases g1:D9 150 (b+o9 t.2.2.2)<;>rw[g1]at h
  case true=>cases h
  rw[iM]at g1;intro x hx;rcases D6.1 hx with rfl|hx
  .exact⟨kJ (n:=80) g0,by unfold o9 at g1;omega⟩
  .exact b7O L (b+o9 t.2.2.2) b' (by unfold o9;omega) g1 (λq hq=>hw q (by simp[hq])) h x hx
theorem b6s:∀(L:List A7) (b b' :Int),0<=b->b<=60->(∀s∈L,s.2.2.2.2.length<=4611686018427387904)->bF sG L b= .inl b' ->∀s∈L,smS s=true
 |[],_,_,_,_,_,_=>by simp|s::L,b,b',h0,h1,hw,h=>by
  have hwt:=hw s x9;have ha:C9 .i64 b (o9 s.2.2.2.2)=b+o9 s.2.2.2.2:=ai (by unfold kE o9;omega);unfold bF sG at h;rw[ha]at h;cases g1:D9 60 (b+o9 s.2.2.2.2)<;>rw[g1]at h
  case true=>cases h
  cases g2:smS s<;>rw[g2]at h
  case false=>cases h
  rw[iM]at g1;intro x hx;rcases D6.1 hx with rfl|hx
  .exact g2
  .exact b6s L (b+o9 s.2.2.2.2) b' (by unfold o9;omega) g1 (λq hq=>hw q (by simp[hq])) h x hx
theorem c2I(h:smL l=true)(hW:WfL l):SmL l/\∀t∈l.2.1,ru t:=by
 unfold smL at h;obtain⟨h1,h⟩:=Yb h;obtain⟨h2,h⟩:=Yb h;obtain⟨h3,h⟩:=Yb h;obtain⟨h4,h⟩:=Yb h;have l1:=kJ (n:=9) h1;have l2:=kJ (n:=9) h2;have l3:=kJ (n:=5) h3;cases ht:bF tG l.2.1 0 with
 |inr r=>rw[ht]at h;cases h|inl b=>
  rw[ht]at h;simp only at h;cases hs:bF sG l.2.2 0 with
  |inr r=>rw[hs]at h;cases h|inl b' =>
   have T:=b7O l.2.1 0 b l7 l7 hW.rl ht;have S:=b6s l.2.2 0 b' l7 l7 hW.sl hs;refine⟨⟨⟨l7,l7,l7⟩,λe he=>?_,λt ht=>by have:=(T t ht).1;omega,λs hs=>c2J (S s hs) (hW.si s hs)⟩,λt ht=>⟨by have:=(T t ht).2;omega,hW.ri t ht⟩⟩;have hl:=a1q h4 e he;unfold a5j at hl;cases g1:D9 80 (o9 e.1)<;>rw[g1]at hl
   case true=>cases hl
   cases g2:D9 20 (o9 e.2)<;>rw[g2]at hl
   case true=>cases hl
   have k1:=kJ (n:=80) g1;exact⟨l7,λm hm=>by have:=kJ (n:=80) (a1q hl m hm);omega⟩
theorem a5Q:reachBytes<=4611686018427387904:=by decide
theorem d5l(h:wf d5Q l):WfL l:=by
 refine⟨λt ht=>?_,λt ht r hr=>?_,λs hs=>?_,λs hs r hr=>⟨λn hn=>?_,λn hn=>?_⟩⟩
 .have:=(h.2.1.2 t ht).2.2.2.1;exact bC this a5Q
 .have:=(h.2.1.2 t ht).2.2.2.2 r hr;exact⟨a0C this.2.1,a0C this.2.2.1,a0C this.2.2.2⟩
 .have:=(h.2.2.2 s hs).2.2.2.2.1;exact bC this a5Q
 .have:=(h.2.2.2 s hs).2.2.2.2.2 r hr;exact a0C (this.2.2.2.2.2.1.2 n hn).2
 .have:=(h.2.2.2 s hs).2.2.2.2.2 r hr;exact a0C (this.2.2.2.2.2.2.1.2 n hn).2
def Yk(w:d5V)(L:d5R):d5V:=L.foldl (λw x=>w.set x.toNat true) w
theorem a0d:∀(L:d5R) (w:d5V),(Yk w L).length=w.length
 |[],w=>rfl|x::L,w=>(a0d L (w.set x.toNat true)).trans x9
def JR(s:A7)(w:d5V)(d:Int):d5V:=Yk (w.set d.toNat true) (bI s d)
theorem JD(s:A7)(w:d5V)(d:Int):(JR s w d).length=w.length:=by unfold JR;rw[a0d];simp
variable {w:d5V}{x:Int}
theorem Ht{n:Nat}(hw:w.length=n)(h0:0<=x)(h1:x<(n:Int)):∃b,G6 w x=some b/\V4 w (V8 x)=some b:=by have h:x.toNat<w.length:=l7;exact⟨w[x.toNat],by unfold G6;rw[if_pos h0];exact bQ h,bQ h⟩
theorem FY(h:SmS s)(d:Int):(bI s d).length<=14:=Fv h (xm s d).1 (λx hx=>zK hx)
theorem TE(h:SmS s)(hw:w.length=s.2.2.2.1.length)(h0:0<=d)(h1:d<nD s):Bl s w d=some (JR s w d):=by
 have hn:nD s=((s.2.2.2.1.length:Nat):Int):=rfl;have hl:=FY h d;obtain⟨b,e1,e2⟩:=Ht hw h0 l7;unfold Bl;rw[e1,o8,e2,o8,Jt h,o8,gU];refine(nO (bI s d) (λ(w:d5V) (x:Int)=>w.set x.toNat true) (λw i=>(w,i)) (λw=>w) (λ_ w=>w.length=s.2.2.2.1.length) (b:=w.set d.toNat true) l7 (by simp[hw]) (λi x v hx hi hv=>?_) (λv hv=>?_)).1
 .have hr:=zK (kK hx);obtain⟨b,e1,e2⟩:=Ht hv hr.1 l7;simp only[J3 hx,o7,F8,hx,o8];rw[e1,o8,e2,o8,Y3 l7];exact⟨rfl,by simp[hv]⟩
 .simp only[I9];rfl
theorem a2D{s m:A7}(h:SmS m){u w:d5V}(hw:w.length=m.2.2.2.1.length)(h0:0<=d)(h1:d<nD m):oL (s,m,u,w) d=some (s,m,u,JR m w d):=by
 have hn:nD m=((m.2.2.2.1.length:Nat):Int):=rfl;have hl:=FY h d;obtain⟨b,e1,e2⟩:=Ht hw h0 l7;unfold oL;simp only;rw[e1,o8,e2,o8,Ls h h0 h1,o8,gU];refine(nO (bI m d) (λ(w:d5V) (x:Int)=>w.set x.toNat true) (λw i=>(((s,m,u,w),i):dE×Int)) (λw=>((s,m,u,w):dE)) (λ_ w=>w.length=m.2.2.2.1.length) (b:=w.set d.toNat true) l7 (by simp[hw]) (λi x v hx hi hv=>?_) (λv hv=>?_)).1
 .have hr:=zK (kK hx);obtain⟨b,e1,e2⟩:=Ht hv hr.1 l7;simp only[J3 hx,o7,F8,hx,o8];rw[show V4 (bI m d) (V8 (i:Int))=some x from hx,o8,e1,o8,e2,o8,Y3 l7];exact⟨rfl,by simp[hv]⟩
 .simp only[I9];rfl
def Dk(r:aj):d5R:=(oH r.2.2.2.2.2.1).2.2++(oH r.2.2.2.2.2.2.1).2.2
def mdl(rs:List aj)(C:d5R):d5R:=rs.flatMap λr=>l9 (qP C r.2.1) (Dk r) []
def mbS(s:A7)(d:Int):d5R:=l9 (inD (nD s) d) (EZ (mdl s.2.2.2.2 (ins d (bI s d)))) []
variable {r:aj}
theorem Wp(h:SmS s)(hr:r∈s.2.2.2.2):(Dk r).length<=100:=by obtain⟨_,h1,h2⟩:=h.ro r hr;have a1:=IQ r.2.2.2.2.2.1;have a2:=IQ r.2.2.2.2.2.2.1;unfold Dk;rw[F5];omega
theorem a3d{s:A7}(h:SmS s)(C:d5R):∀(rs:List aj),(∀r∈rs,r∈s.2.2.2.2)->(mdl rs C).length<=100*rs.length
 |[],_=>by simp[mdl]|r::rs,hr=>by
  have h1:=a3d h C rs (λx hx=>hr x (by simp[hx]));have h2:=Wp h (hr r x9);have:mdl (r::rs) C=l9 (qP C r.2.1) (Dk r) []++mdl rs C:=rfl;rw[this,F5,I5];cases qP C r.2.1
  .simp only[o6,dB];omega
  .simp only[o7];omega
theorem a9V{rs:List aj}{C:d5R} :x∈mdl rs C↔∃r∈rs,qP C r.2.1=true/\x∈Dk r:=by
 unfold mdl;rw[List.mem_flatMap];constructor
 .rintro⟨r,h1,h2⟩;cases h:qP C r.2.1<;>rw[h]at h2
  .simp at h2
  .exact⟨r,h1,h,h2⟩
 .rintro⟨r,h1,h2,h3⟩;exact⟨r,h1,by rw[h2];exact h3⟩
theorem a9L{f:d5R×Int->Option ((d5R×Int)⊕d5R)}(l b:d5R)(hl:l.length<=1000)(hb:b.length<=100000)
  (hin:∀(i:Nat) (a:Int) (acc:d5R),l[i]? =some a->i<=1000000->f (acc,(i:Int))=o5 (lV acc a) λx=>some (.inl (x,C9 .i64 (i:Int) 1)))
  (hend:∀acc,f (acc,(l.length:Int))=some (.inr acc)):ay f (b,0)=some (DY l b):=by
 refine(nO l (λ(acc:d5R) x=>ins x acc) (λb i=>(b,i)) (λb=>b) (λi acc=>acc.length<=100000+i) (f:=f) (b:=b) l7 l7 (λi a acc ha hi hI=>?_) (λacc hI=>hend acc)).1;have hlt:=(X7.1 ha).1;have h2:=tK a acc;rw[hin i a acc ha hi,Y3 l7,CS _ l7];exact⟨rfl,by show(ins a acc).length<=_;omega⟩
theorem H_(h:SmS s)(d:Int):Am s d=some (mbS s d):=by
 have hnr:=h.nr;have hl:=FY h d;have hli:=tK d (bI s d);unfold Am mbS;rw[a7S,o8];change l9 (F7 (inD (nD s) d)) _ _=_;cases inD (nD s) d
 .rfl
 simp only[E5,o6,o7];rw[Jt h,o8,CS _ l7,o8];generalize hC:ins d (bI s d)=C at*;refine dD s.2.2.2.2 (λ(acc:d5R) r=>l9 (qP C r.2.1) (DY (Dk r) acc) acc) (λb i=>(b,i)) (λb=>b) (λi acc=>acc.length<=100*i) [] l7 x9 (λi r acc ha hi hI=>?_) (λacc hI=>?_) (λh2=>?_)
 .have hlt:=(X7.1 ha).1;obtain⟨_,h1,h2⟩:=h.ro r (kK ha);have a1:=IQ r.2.2.2.2.2.1;have a2:=IQ r.2.2.2.2.2.2.1;have hlen:=Dh (Dk r) acc;have hrl:=Wp h (kK ha);simp only[J3 ha,o7,F8,ha,o8];rw[Y3 l7,a3w l7,o8];cases qP C r.2.1
  .exact⟨rfl,by show acc.length<=_;omega⟩
  simp only[E5,o6,o7,En (show r.2.2.2.2.2.1.length<=500000 by omega),En (show r.2.2.2.2.2.2.1.length<=500000 by omega),o8];refine⟨?_,by show(DY (Dk r) acc).length<=_;omega⟩;refine X8 (a9L (oH r.2.2.2.2.2.1).2.2 acc l7 l7 (λi a acc ha hi=>?_) (λacc=>?_)) ?_
  rotate_left 2
  .rw[o8];have hl2:=Dh (oH r.2.2.2.2.2.1).2.2 acc;refine X8 (a9L (oH r.2.2.2.2.2.2.1).2.2 _ l7 l7 (λi a acc ha hi=>?_) (λacc=>?_)) ?_
   rotate_left 2
   .rw[o8];unfold Dk;rw[Ky]
   .simp only[J3 ha,o7,F8,ha,o8];rw[show V4 (oH r.2.2.2.2.2.2.1).2.2 (V8 (i:Int))=some a from ha];rfl
   .simp only[I9];rfl
  .simp only[J3 ha,o7,F8,ha,o8];rw[show V4 (oH r.2.2.2.2.2.1).2.2 (V8 (i:Int))=some a from ha];rfl
  .simp only[I9];rfl
 .simp only[I9];rfl
 .have hf:∀(l:List aj) (b:d5R),l.foldl (λ(acc:d5R) r=>l9 (qP C r.2.1) (DY (Dk r) acc) acc) b=DY (mdl l C) b:=by
   intro l;induction l with
   |nil=>intro b;rfl|cons a l ih=>intro b;rw[O9,ih,show mdl (a::l) C=l9 (qP C a.2.1) (Dk a) []++mdl l C from rfl,Ky];cases qP C a.2.1<;>rfl
  rw[hf];rfl
theorem a3g:∀(L:d5R) (w:d5V),(∀x∈L,0<=x/\x<o9 w)->∀x,mk (Yk w L) x=true↔mk w x=true\/x∈L
 |[],w,_,x=>by simp[Yk]|y::L,w,h,x=>by
  have hy:=h y x9;have ih:=a3g L (w.set y.toNat true) (λz hz=>by have:=h z (by simp[hz]);simp only[o9,jU]at this ⊢;exact this) x;rw[show Yk w (y::L)=Yk (w.set y.toNat true) L from rfl,ih,l_ hy.1 hy.2];cases hq:x8 x y
  .have:x≠y:=λe=>by rw[O5 e]at hq;cases hq
   simp[this]
  .rw[P7]at hq;simp[hq]
theorem Ws(n:Nat)(x:Int):mk (List.replicate n false) x=false:=by
 unfold mk;split
 .rw[uZ,jo];split<;>rfl
 .rfl
theorem a0R(h:SmS s)(h0:0<=d)(h1:d<nD s):BD s d=some (mbS s d):=by
 have hn:nD s=((s.2.2.2.1.length:Nat):Int):=rfl;have hnr:=h.nr;have hnd:=h.nd;have hl:=FY h d;have hr:zO ((List.range s.2.2.2.1.length).map λ(d:Nat)=>P8 s (d:Int)) d=some (bI s d):=by obtain⟨L,k1,k2⟩:=M_ (D:=P8 s) h.nd (CW s) (λx y hy=>uF hy) h0 (show d<((s.2.2.2.1.length:Nat):Int) by omega);rw[k1,Rch.unique k2 (xm s d)]
 obtain⟨b,e1,e2⟩:=Ht (w:=List.replicate s.2.2.2.1.length false) x9 h0 (show d<((s.2.2.2.1.length:Nat):Int) by omega);unfold BD mbS;rw[show inD (nD s) d=true by unfold inD;rw[Y5 h0,U6 h1];rfl,o7];change o5 (l9 (D9 d 0) _ (l9 (L6 (nD s) d) _ _)) _=_;rw[N7 h0,o6,Y9 h1,o6,o8];simp only[U0];rw[zF s h false,o8,e1,o8,e2,o8,MS h,o8,hr,o8];refine X8 (o' :=some (Yk ((List.replicate s.2.2.2.1.length false).set d.toNat true) (bI s d))) ?_ ?_
 .refine(nO (bI s d) (λ(w:d5V) (x:Int)=>w.set x.toNat true) (λw i=>(w,i)) (λw=>w) (λ_ w=>w.length=s.2.2.2.1.length) (b:=(List.replicate s.2.2.2.1.length false).set d.toNat true) l7 x9 (λi x v hx hi hv=>?_) (λv hv=>?_)).1
  .have hr:=zK (kK hx);obtain⟨b,e1,e2⟩:=Ht hv hr.1 l7;simp only[J3 hx,o7,F8,hx,o8];rw[show V4 (bI s d) (V8 (i:Int))=some x from hx,o8,e1,o8,e2,o8,Y3 l7];exact⟨rfl,by simp[hv]⟩
  .simp only[I9];rfl
 rw[o8];have hW:∀x,0<=x->x<nD s->mk (Yk ((List.replicate s.2.2.2.1.length false).set d.toNat true) (bI s d)) x=qP (ins d (bI s d)) x:=λx x0 x1=>by
  have hm:=a3g (bI s d) ((List.replicate s.2.2.2.1.length false).set d.toNat true) (λy hy=>by have:=zK hy;simp only[o9,jU,tu];omega) x;have hd:=l_ (S:=List.replicate s.2.2.2.1.length false) (e:=d) h0 (by simp only[o9,tu];omega) x;have hh:qP (ins d (bI s d)) x=true↔x=d\/x∈bI s d:=by rw[xW,NK]
  have key:mk (Yk ((List.replicate s.2.2.2.1.length false).set d.toNat true) (bI s d)) x=true↔qP (ins d (bI s d)) x=true:=by
   rw[hm,hh,hd,Ws];cases hq:x8 x d
   .have:x≠d:=λe=>by rw[O5 e]at hq;cases hq
    simp[this]
   .rw[P7]at hq;simp[hq]
  rcases Bool.eq_false_or_eq_true (qP (ins d (bI s d)) x)with hb|hb
  .rw[hb];exact key.2 hb
  .rw[hb];cases hc:mk (Yk ((List.replicate s.2.2.2.1.length false).set d.toNat true) (bI s d)) x
   .rfl
   .rw[key.1 hc]at hb;cases hb
 have hWl:(Yk ((List.replicate s.2.2.2.1.length false).set d.toNat true) (bI s d)).length=s.2.2.2.1.length:=by rw[a0d];simp
 have hCin:∀x∈ins d (bI s d),0<=x/\x<nD s:=λx hx=>by
  rcases(NK d x _).1 hx with rfl|hx
  .exact⟨h0,h1⟩
  .exact zK hx
 generalize Yk ((List.replicate s.2.2.2.1.length false).set d.toNat true) (bI s d)=W at*;generalize ins d (bI s d)=C at*;refine dD s.2.2.2.2 (λ(acc:d5R) r=>l9 (qP C r.2.1) (acc++Dk r) acc) (λb i=>(b,i)) (λb=>b) (λi acc=>acc.length<=100*i) [] l7 x9 (λi r acc ha hi hI=>?_) (λacc hI=>?_) (λh2=>?_)
 .have hlt:=(X7.1 ha).1;obtain⟨_,h1,h2⟩:=h.ro r (kK ha);have a1:=IQ r.2.2.2.2.2.1;have a2:=IQ r.2.2.2.2.2.2.1;have hrl:=Wp h (kK ha);simp only[J3 ha,o7,F8,ha,o8];rw[Y3 l7];obtain⟨e,he⟩:∃e:Int,r.2.1=e:=⟨_,rfl⟩;rw[he];change l9 (D9 e 0) _ (l9 (L6 (nD s) e) _ _)=_/\_;by_cases q0:0<=e
  case neg=>
   have:qP C e=false:=by
    cases hq:qP C e
    .rfl
    .exact absurd (hCin _ (xW.1 hq)).1 q0
   rw[U6 (show e<0 by omega),this];exact⟨rfl,by show acc.length<=_;omega⟩
  by_cases q1:e<nD s
  case neg=>
   have:qP C e=false:=by
    cases hq:qP C e
    .rfl
    .exact absurd (hCin _ (xW.1 hq)).2 q1
   rw[N7 q0,Y5 (show nD s<=e by omega),this];exact⟨rfl,by show acc.length<=_;omega⟩
  obtain⟨b,f1,f2⟩:=Ht hWl q0 (show e<((s.2.2.2.1.length:Nat):Int) by omega);have hb:b=qP C e:=by have:=a7B (S:=W) q0 (by simp only[o9];omega);rw[←hW _ q0 q1];have e3:W[e.toNat]? =some b:=f2;rw[this]at e3;exact(P5 e3).symm
  rw[N7 q0,o6,Y9 q1,o6,f1,o8,f2,o8,hb];cases qP C e
  .exact⟨rfl,by show acc.length<=_;omega⟩
  simp only[E5,o6,o7,Gw (show r.2.2.2.2.2.1.length<=1000000 by omega),Gw (show r.2.2.2.2.2.2.1.length<=1000000 by omega),o8];rw[uq l7,o8,uq (by rw[F5];omega),o8];refine⟨by unfold Dk;rw[G5],by show(acc++Dk r).length<=_;rw[F5];omega⟩
 .simp only[I9];rfl
 .have hf:∀(l:List aj) (b:d5R),l.foldl (λ(acc:d5R) r=>l9 (qP C r.2.1) (acc++Dk r) acc) b=b++mdl l C:=by
   intro l;induction l with
   |nil=>intro b;simp[mdl]|cons a l ih=>intro b;rw[O9,ih,show mdl (a::l) C=l9 (qP C a.2.1) (Dk a) []++mdl l C from rfl];cases qP C a.2.1<;>simp
  rw[hf,G8];have hml:=a3d h C s.2.2.2.2 (λ_ h=>h);rw[Vm l7];rfl
def Eh(m:A7)(w:d5V)(L:d5R):d5V:=L.foldl (JR m) w
theorem NH(m:A7):∀(L:d5R) (w:d5V),(Eh m w L).length=w.length
 |[],w=>rfl|x::L,w=>(NH m L (JR m w x)).trans (JD m w x)
theorem a9S(h:SmS s)(d:Int):(mbS s d).length<=6000:=by
 unfold mbS;cases inD (nD s) d
 .simp
 .have h1:=KA (mdl s.2.2.2.2 (ins d (bI s d)));have h2:=a3d h (ins d (bI s d)) s.2.2.2.2 (λ_ h=>h);have:=h.nr;simp only[o7];omega
theorem b0H{s m:A7}(h:SmS s)(hm:SmS m){u w:d5V}(hu:u.length=s.2.2.2.1.length)(hw:w.length=m.2.2.2.1.length)(h0:0<=d)(h1:d<nD s)(hr:∀x∈mbS s d,0<=x/\x<nD m):
  wE (s,m,u,w) d=some (s,m,JR s u d,Eh m w (mbS s d)):=by
 have hn:nD s=((s.2.2.2.1.length:Nat):Int):=rfl;have hl:=FY h d;have hml:=a9S h d;obtain⟨b,e1,e2⟩:=Ht hu h0 l7;unfold wE;simp only;rw[e1,o8,e2,o8,Ls h h0 h1,o8];refine X8 (o' :=some ((s,m,JR s u d,w):dE)) ?_ ?_
 .refine(nO (bI s d) (λ(v:d5V) (x:Int)=>v.set x.toNat true) (λv i=>(((s,m,v,w),i):dE×Int)) (λv=>((s,m,v,w):dE)) (λ_ v=>v.length=s.2.2.2.1.length) (b:=u.set d.toNat true) l7 (by simp[hu]) (λi x v hx hi hv=>?_) (λv hv=>?_)).1
  .have hr:=zK (kK hx);obtain⟨b,e1,e2⟩:=Ht hv hr.1 l7;simp only[J3 hx,o7,F8,hx,o8];rw[show V4 (bI s d) (V8 (i:Int))=some x from hx,o8,e1,o8,e2,o8,Y3 l7];exact⟨rfl,by simp[hv]⟩
  .simp only[I9];rfl
 rw[o8];simp only;rw[a0R h h0 h1,o8,gU];refine(nO (mbS s d) (JR m) (λv i=>(((s,m,JR s u d,v),i):dE×Int)) (λv=>((s,m,JR s u d,v):dE)) (λ_ v=>v.length=m.2.2.2.1.length) (b:=w) l7 hw (λi x v hx hi hv=>?_) (λv hv=>?_)).1
 .have hq:=hr x (kK hx);simp only[J3 hx,o7,F8,hx,o8];rw[show V4 (mbS s d) (V8 (i:Int))=some x from hx,o8,a2D hm hv hq.1 hq.2,o8,Y3 l7];exact⟨rfl,(JD m v x).trans hv⟩
 .simp only[I9];rfl
theorem KN(hv:(iE l).1=0)(hs:G6 l.2.2 k=some s)(h:SmS s)(hm:SmS (P9 l s))(hw:w.length=(P9 l s).2.2.2.1.length)(d:Int)(hr:∀x∈mbS s d,0<=x/\x<nD (P9 l s)):
  vK l k w d=some (Eh (P9 l s) w (mbS s d)):=by
 have hml:=a9S h d;unfold vK;rw[hs,o8,H_ h,o8,gU];refine(nO (mbS s d) (JR (P9 l s)) (λv i=>(v,i)) (λv=>v) (λ_ v=>v.length=(P9 l s).2.2.2.1.length) (b:=w) l7 hw (λi x v hx hi hq=>?_) (λv hv=>?_)).1
 .have hx2:=hr x (kK hx);simp only[J3 hx,o7,F8,hx,o8];rw[zk hv hs,o8,show V4 (mbS s d) (V8 (i:Int))=some x from hx,o8,TE hm hq hx2.1 hx2.2,o8,Y3 l7];exact⟨rfl,(JD _ v x).trans hq⟩
 .simp only[I9];rfl
variable {sg:O7}
theorem c0r(hk:gK k=some true)(h:(JS (k,N) [] sg).2=0):((RR (k,N) [] sg).getD ((0,0),0)).2=0:=by
 unfold JS at h;rw[b8i]at h;revert h;cases F7 (x8 N 0)
 .exact id
 .rw[show gK (k,N).1=some true from hk];exact id
theorem b8Z(h:(JS (8,N) [] sg).2=0):0<=N/\N<o9 sg.2.2.2.1:=by
 have h:=c0r rfl h;have hf:rY (8,N) sg=l9 (L6 0 N) (some (D9 N (o9 sg.2.2.2.1))) (some false):=rfl;unfold RR at h;rw[hf,show nV (8,N) sg=some true from rfl]at h;cases h1:L6 0 N<;>rw[h1]at h
 .exact absurd (show(6:Int)=0 from h) H9
 cases h2:D9 N (o9 sg.2.2.2.1)<;>rw[h2]at h
 .exact absurd (show(6:Int)=0 from h) H9
 exact⟨jr.1 h1,jK.1 h2⟩
theorem b9a(hk:k=36\/k=37\/k=38\/k=39)(h:(JS (k,N) [] sg).2=0):0<=N/\N<o9 sg.2.2.2.2.1/\sg.2.2.2.2.2=true:=by
 have h:=c0r (by rcases hk with rfl|rfl|rfl|rfl<;>rfl) h;have hr:RR (k,N) [] sg=o5 (l9 sg.2.2.2.2.2 (l9 (L6 0 N) (some (D9 N (o9 sg.2.2.2.2.1))) (some false)) (some false)) λ(x:Bool)=>l9 (F7 x) (some ((0,0),6))
   (o5 (nU (k,N) sg) λ(x:F6×Bool)=>l9 (F7 x.2) (some ((0,0),8)) (some (x.1,0))):=by rcases hk with rfl|rfl|rfl|rfl<;>rfl
 rw[hr]at h;cases h0:sg.2.2.2.2.2<;>rw[h0]at h
 .exact absurd (show(6:Int)=0 from h) H9
 cases h1:L6 0 N<;>rw[h1]at h
 .exact absurd (show(6:Int)=0 from h) H9
 cases h2:D9 N (o9 sg.2.2.2.2.1)<;>rw[h2]at h
 .exact absurd (show(6:Int)=0 from h) H9
 exact⟨jr.1 h1,jK.1 h2,rfl⟩
def YI(sg:O7)(n:Int×Int):Prop:=(x8 n.1 8=true->0<=n.2/\n.2<o9 sg.2.2.2.1)/\(isM n.1=true->0<=n.2/\n.2<o9 sg.2.2.2.2.1/\sg.2.2.2.2.2=true)
theorem a1P(h:isM k=true):k=36\/k=37\/k=38\/k=39:=by
 unfold isM at h;cases h1:L6 36 k<;>rw[h1]at h
 .cases h
 have h2:=jr.1 h1;have h3:=jr.1 (show L6 k 39=true from h);omega
theorem b4k{n:Int×Int}{t:Int×Int}(h:GI sg n [] i= .inr t):YI sg n:=by
 unfold GI at h;split at h
 .rename_i h0;obtain⟨k,N⟩:=n;refine⟨λhk=>?_,λhk=>b9a (a1P hk) h0⟩;have hk:k=8:=P7.1 hk;subst hk;exact b8Z h0
 .cases h
theorem u_{n:Int×Int}(h:arF n.1≠0):YI sg n:=by
 refine⟨λhk=>absurd ?_ h,λhk=>absurd ?_ h⟩
 .rw[P7.1 hk];rfl
 .rcases a1P hk with e|e|e|e<;>rw[e]<;>rfl
theorem Om{sg:O7} :∀(t:XT) (o:Nat) {r:Int×Int},t.wf->jc sg t o= .inr r->∀n∈t.post,YI sg n
 | .l0 n,o,r,hw,h,x,hx=>by unfold XT.post at hx;rw[D8.1 hx];unfold jc at h;exact b4k h| .l1 n a,o,r,hw,h,x,hx=>by
  unfold XT.wf at hw;unfold XT.post at hx;unfold jc at h;cases ha:jc sg a o with
  |inl e=>rw[ha]at h;cases h|inr ta=>
   rcases D5.1 hx with hx|hx
   .exact Om a o hw.2 ha x hx
   .rw[D8.1 hx];exact u_ (by rw[hw.1];decide)
 | .l2 n a b,o,r,hw,h,x,hx=>by
  unfold XT.wf at hw;unfold XT.post at hx;unfold jc at h;cases ha:jc sg a o with
  |inl e=>rw[ha]at h;cases h|inr ta=>
   rw[ha]at h;simp only at h;cases hb:jc sg b (o+a.size)with
   |inl e=>rw[hb]at h;cases h|inr tb=>
    rcases D5.1 hx with hx|hx
    .rcases D5.1 hx with hx|hx
     .exact Om a o hw.2.1 ha x hx
     .exact Om b _ hw.2.2 hb x hx
    .rw[D8.1 hx];exact u_ (by rw[hw.1];decide)
 | .l3 n a b c,o,r,hw,h,x,hx=>by
  unfold XT.wf at hw;unfold XT.post at hx;unfold jc at h;cases ha:jc sg a o with
  |inl e=>rw[ha]at h;cases h|inr ta=>
   rw[ha]at h;simp only at h;cases hb:jc sg b (o+a.size)with
   |inl e=>rw[hb]at h;cases h|inr tb=>
    rw[hb]at h;simp only at h;cases hc:jc sg c (o+a.size+b.size)with
    |inl e=>rw[hc]at h;cases h|inr tc=>
     rcases D5.1 hx with hx|hx
     .rcases D5.1 hx with hx|hx
      .rcases D5.1 hx with hx|hx
       .exact Om a o hw.2.1 ha x hx
       .exact Om b _ hw.2.2.1 hb x hx
      .exact Om c _ hw.2.2.2 hc x hx
     .rw[D8.1 hx];exact u_ (by rw[hw.1];decide)
theorem NL{n:Int×Int}{ops:List (Int×Int)}{x:Int×Int}(h:GI sg n ops i= .inl x):x.2≠0:=by
 unfold GI at h;split at h
 .cases h
 .rename_i h0;cases h;exact h0
theorem Dz{sg:O7} :∀(t:XT) (o:Nat) {x:Int×Int},jc sg t o= .inl x->x.2≠0
 | .l0 n,o,x,h=>NL h| .l1 n a,o,x,h=>by
  unfold jc at h;cases ha:jc sg a o with
  |inl e=>rw[ha]at h;cases h;exact Dz a o ha|inr ta=>rw[ha]at h;exact NL h
 | .l2 n a b,o,x,h=>by
  unfold jc at h;cases ha:jc sg a o with
  |inl e=>rw[ha]at h;cases h;exact Dz a o ha|inr ta=>
   rw[ha]at h;simp only at h;cases hb:jc sg b (o+a.size)with
   |inl e=>rw[hb]at h;cases h;exact Dz b _ hb|inr tb=>rw[hb]at h;exact NL h
 | .l3 n a b c,o,x,h=>by
  unfold jc at h;cases ha:jc sg a o with
  |inl e=>rw[ha]at h;cases h;exact Dz a o ha|inr ta=>
   rw[ha]at h;simp only at h;cases hb:jc sg b (o+a.size)with
   |inl e=>rw[hb]at h;cases h;exact Dz b _ hb|inr tb=>
    rw[hb]at h;simp only at h;cases hc:jc sg c (o+a.size+b.size)with
    |inl e=>rw[hc]at h;cases h;exact Dz c _ hc|inr tc=>rw[hc]at h;exact NL h
theorem a2t(h:(nZ e sg).2.2=0):∀n∈e,YI sg n:=by
 unfold nZ at h;cases hs:ng e with
 |inl x=>rw[hs]at h;exact absurd h (Dx hs)|inr t=>
  rw[hs]at h;simp only at h;cases ht:jc sg t 0 with
  |inl x=>rw[ht]at h;exact absurd h (Dz t 0 ht)|inr r=>intro n hn;rw[(Dy hs).1]at hn;exact Om t 0 (Ri hs) ht n hn
theorem Rk{t:Int×Int}(h:JK e sg t=0):nZ e sg=(t,(nZ e sg).2.1,0):=by
 unfold JK at h;cases h1:x8 (nZ e sg).2.2 0<;>rw[h1]at h
 .simp only[o6]at h;rw[O5 h]at h1;cases h1
 cases h2:x8 (nZ e sg).1.1 t.1<;>rw[h2]at h
 .exact absurd (show(8:Int)=0 from h) H9
 cases h3:x8 (nZ e sg).1.2 t.2<;>rw[h3]at h
 .exact absurd (show(8:Int)=0 from h) H9
 rw[P7]at h1 h2 h3;exact fC (fC h2 h3) (fC rfl h1)
theorem Oq(h:(iE l).1=0)(hs:l.2.2[i]? =some s){k:Nat}(hr:s.2.2.2.2[k]? =some r):JE s (FX l s) k r=0:=by
 have hp:=(MQ h hs).2;unfold Tn at hp;cases h1:DV l s with
 |some q=>rw[h1]at hp;exact absurd hp (Kv h1)|none=>
  rw[h1]at hp;simp only at hp;cases h2:aO s.2.2.2.2.length (MN l s)with
  |some q=>
   rw[h2]at hp;obtain⟨j,hj,hq⟩:=je h2;unfold MN at hq;cases h3:s.2.2.2.2[j]? with
   |none=>rw[h3]at hq;cases hq|some q2=>rw[h3]at hq;exact absurd hp (LQ hq)
  |none=>
   have hn:=uY h2 k (X7.1 hr).1;unfold MN at hn;rw[hr]at hn;simp only at hn;unfold VO at hn;cases he:x8 (JE s (FX l s) k r) 0<;>rw[he]at hn
   .cases hn
   .exact P7.1 he
theorem X_{k:Nat}(h:JE s sg k r=0):∃d,G6 s.2.2.2.1 r.2.1=some d/\VS r sg d.2=0:=by
 unfold JE at h;cases g1:EW r.1<;>rw[g1]at h
 .exact absurd (show(2:Int)=0 from h) H9
 cases g2:(s.2.2.2.2.take k).any λx=>seq x.1 r.1<;>rw[g2]at h
 case true=>exact absurd (show(7:Int)=0 from h) H9
 cases g3:G6 s.2.2.2.1 r.2.1 with
 |none=>rw[g3]at h;exact absurd (show(6:Int)=0 from h) H9|some d=>
  rw[g3]at h;refine⟨d,rfl,?_⟩;simp only[o7,o6]at h;revert h;generalize l9 (x8 r.2.2.1 (-1)) false (l9 (D9 r.2.2.1 0) true (l9 (L6 k r.2.2.1) true (match G6 s.2.2.2.2 r.2.2.1 with|some q=>F7 (x8 q.2.1 r.2.1)|none=>true)))=b1;generalize D9 r.2.2.2.1 0=b2;generalize D9 9 r.2.2.2.1=b3;generalize Ja r.2.2.2.2.1=b4;generalize x8 r.2.2.2.2.1.1 r.2.2.2.2.1.2=b5;generalize L6 8 (LK (s.2.2.2.2.take k) r.2.1)=b6;generalize a1g r.2.2.2.2.2.2.2=b7;intro h;cases b1
  case true=>exact absurd (show(9:Int)=0 from h) H9
  cases b2
  case true=>exact absurd (show(3:Int)=0 from h) H9
  cases b3
  case true=>exact absurd (show(3:Int)=0 from h) H9
  cases b4
  case false=>exact absurd (show(3:Int)=0 from h) H9
  cases b5
  case true=>exact absurd (show(3:Int)=0 from h) H9
  cases b6
  case true=>exact absurd (show(4:Int)=0 from h) H9
  cases b7
  case false=>exact absurd (show(2:Int)=0 from h) H9
  exact h
theorem Qp(h:(iE l).1=0)(hs:l.2.2[i]? =some s)(hr:r∈s.2.2.2.2):
  (r.2.2.2.2.2.1=[]\/JK r.2.2.2.2.2.1 (FX l s) (1,0)=0)/\∃d,G6 s.2.2.2.1 r.2.1=some d/\JK r.2.2.2.2.2.2.1 (FX l s) d.2=0:=by
 obtain⟨k,hk,e⟩:=Y7 hr;obtain⟨d,h1,h2⟩:=X_ (Oq h hs (r:=r) (k:=k) (by rw[bQ hk,e]));unfold VS at h2;cases h3:D9 0 (o9 r.2.2.2.2.2.1)<;>rw[h3]at h2
 .refine⟨.inl ?_,d,h1,h2⟩;rw[iM]at h3;exact S9.1 (by simp only[o9]at h3;omega)
 .simp only[o7]at h2;cases h4:x8 (JK r.2.2.2.2.2.1 (FX l s) (1,0)) 0<;>rw[h4]at h2
  .simp only[o6]at h2;rw[O5 h2]at h4;cases h4
  .exact⟨.inr (P7.1 h4),d,h1,h2⟩
theorem b6z(l:U9)(s:A7):(FX l s).2.2.2.1=s.2.2.2.1.map (·.2):=by unfold FX;split<;>rfl
theorem b9H(h:(FX l s).2.2.2.2.2=true):(FX l s).2.2.2.2.1=(P9 l s).2.2.2.1.map (·.2):=by
 unfold FX at h ⊢;unfold P9 G6
 by_cases g:0<=s.2.1
 .rw[if_pos g]at h ⊢;rw[Y5 g];cases hq:l.2.2[s.2.1.toNat]? with
  |none=>rw[hq]at h;cases h|some q=>rfl
 .rw[if_neg g]at h;cases h
theorem WT(h:(iE l).1=0)(hs:l.2.2[i]? =some s)(hr:r∈s.2.2.2.2)(he:e=r.2.2.2.2.2.1\/e=r.2.2.2.2.2.2.1):
  (∀x∈(oH e).2.1,0<=x/\x<nD s)/\∀x∈(oH e).2.2,0<=x/\x<nD (P9 l s):=by
 obtain⟨h1,d,h2,h3⟩:=Qp h hs hr;have hn:∀n∈e,YI (FX l s) n:=by
  rcases he with rfl|rfl
  .rcases h1 with h1|h1
   .rw[h1];simp
   .exact a2t (by rw[Rk h1])
  .exact a2t (by rw[Rk h3])
 constructor
 .intro x hx;have hx:=(rf x _).1 (show x∈EZ (Ry (λo=>x8 o 8) e)from hx);obtain⟨n,hn1,rfl⟩:=X5.1 hx;obtain⟨hn2,hn3⟩:=O0.1 hn1;have:=(hn n hn2).1 hn3;rw[b6z]at this;simpa[o9,nD]using this
 .intro x hx;have hx:=(rf x _).1 (show x∈EZ (Ry isM e)from hx);obtain⟨n,hn1,rfl⟩:=X5.1 hx;obtain⟨hn2,hn3⟩:=O0.1 hn1;have:=(hn n hn2).2 hn3;rw[b9H this.2.2]at this;refine⟨this.1,?_⟩;have h2:=this.2.1;simpa[o9,nD]using h2
theorem ZY(h:(iE l).1=0)(hs:l.2.2[i]? =some s)(d:Int):∀x∈mbS s d,0<=x/\x<nD (P9 l s):=by
 intro x hx;unfold mbS at hx;cases hq:inD (nD s) d<;>rw[hq]at hx
 .simp at hx
 .obtain⟨r,hr,_,h3⟩:=a9V.1 ((rf x _).1 hx);rcases D5.1 h3 with h3|h3
  .exact(WT h hs hr (.inl rfl)).2 x h3
  .exact(WT h hs hr (.inr rfl)).2 x h3
theorem a4K{e:E4}(h:Ru l s c nS nM= .inr e):e.1≠0:=by
 unfold Ru at h;cases hm:mS l c (P9 l s) nM with
 |inr e=>rw[hm]at h;cases h;exact uJ _ (λr=>r.1≠0) a7z _ _ _ hm|inl b=>
  rw[hm]at h;simp only at h;cases hs:scS s (xY l s c b) (-1) nS with
  |inr r=>rw[hs]at h;cases h;exact Og hs|inl x=>rw[hs]at h;cases h
theorem b3v{x:DB×List DB}(h:Ru l s c nS nM= .inl x):x.1.1.length=s.2.2.2.1.length/\x.1.2.length=s.2.2.2.1.length:=by
 unfold Ru at h;cases hm:mS l c (P9 l s) nM with
 |inr e=>rw[hm]at h;cases h|inl b=>
  rw[hm]at h;simp only at h;cases hs:scS s (xY l s c b) (-1) nS with
  |inr r=>rw[hs]at h;cases h|inl y=>rw[hs]at h;cases h;exact IB hs
theorem YU(h:(Cj l k c true d).1=0)(hs:G6 l.2.2 k=some s):0<=d/\d<nD s:=by
 unfold Cj at h;cases h0:x8 (iE l).1 0<;>rw[h0]at h
 .exact absurd (show(1:Int)=0 from h) H9
 rw[hs]at h;simp only[o7]at h;cases h1:D9 d 0<;>rw[h1]at h
 case true=>exact absurd (show(6:Int)=0 from h) H9
 cases h2:L6 (o9 s.2.2.2.1) d<;>rw[h2]at h
 case true=>exact absurd (show(6:Int)=0 from h) H9
 rw[iM]at h1;rw[DX]at h2;exact⟨h1,h2⟩
theorem MC{l:List α}(a:α)(h0:0<=d)(h1:d<(l.length:Int)):G6 l d=some (l.getD d.toNat a)/\V4 l (V8 d)=some (l.getD d.toNat a):=by
 have h:d.toNat<l.length:=l7;have e:l[d.toNat]? =some (l.getD d.toNat a):=by rw[uZ,bQ h];rfl
 exact⟨by unfold G6;rw[if_pos h0];exact e,e⟩
def c6x(d:Int)(r:DB×List DB⊕E4):V3×Int×E4:=match r with
 | .inr e=>((0,0,0),0,e)| .inl x=>(x.1.1.getD d.toNat (0,0,0),x.1.2.getD d.toNat 0,0,0,0,0)
def VQ(l:U9)(s:A7)(c:aF)(d:Int):V3×Int×E4:=
 c6x d (Ru l s c (JR s (wP s.2.2.2.1.length) d) (Eh (P9 l s) (wP (P9 l s).2.2.2.1.length) (mbS s d)))
theorem Fp(n:Nat):(wP n).length=n:=by simp[wP]
theorem a7h(hL:SmL l)(hC:SmC c)(hT:∀t∈l.2.1,ru t):
  lJ l k c d=some (if(Cj l k c true d).1=0 then(match G6 l.2.2 k with|some s=>VQ l s c d|none=>((0,0,0),0,0,0,0,0))else((0,0,0),0,Cj l k c true d)):=by
 unfold lJ;rw[b8m hL k hC,o8];by_cases hA:(Cj l k c true d).1=0
 case neg=>rw[if_neg hA,O8 hA];rfl
 rw[if_pos hA,O5 hA];obtain⟨h,s,hs⟩:=QA hA;obtain⟨h0,h1⟩:=YU hA hs;have hM:=Uz hL h hs;have hS:=hL.sc s (dU hs).2.2.1;have hn:nD s=((s.2.2.2.1.length:Nat):Int):=rfl;rw[hs];simp only[E5,o6];rw[a5u hL h hs,o8,b0H hS hM (Fp _) (Fp _) h0 h1 (ZY h (dU hs).2.2.2 d),o8,a2P hS hM hC hT (by rw[JD,Fp]) (by rw[NH,Fp]),o8];unfold VQ;cases hq:Ru l s c (JR s (wP s.2.2.2.1.length) d) (Eh (P9 l s) (wP (P9 l s).2.2.2.1.length) (mbS s d))with
 |inr e=>simp only[O8 (a4K hq)];rfl|inl x=>obtain⟨g1,g2⟩:=b3v hq;simp only[O5 (rfl:(0:Int)=0),E5,o6];rw[(MC (0,0,0) h0 l7).1,o8,(MC 0 h0 l7).1];rfl
theorem a5J(hL:SmL l)(hC:SmC c)(hT:∀t∈l.2.1,ru t):
  yB l k c d=some (if(Cj l k c true d).1=0 then(match G6 l.2.2 k with|some s=>VQ l s c d|none=>((0,0,0),0,0,0,0,0))else((0,0,0),0,Cj l k c true d)):=by
 unfold yB;rw[b5p hL k hC,o8];by_cases hA:(Cj l k c true d).1=0
 case neg=>rw[if_neg hA,O8 hA];rfl
 rw[if_pos hA,O5 hA];obtain⟨h,s,hs⟩:=QA hA;obtain⟨h0,h1⟩:=YU hA hs;have hM:=Uz hL h hs;have hS:=hL.sc s (dU hs).2.2.1;have hn:nD s=((s.2.2.2.1.length:Nat):Int):=rfl;have hcm:=hC.nm;simp only[E5,o6];rw[gU];unfold gu;rw[hs,o8,zF s hS false,o8,TE hS x9 h0 h1,o8,zk h hs,o8,zF (P9 l s) hM false,o8,KN h hs hS hM x9 d (ZY h (dU hs).2.2.2 d),o8,Pn h hs hC.nm hM hT (by rw[NH];simp),o8];dsimp only;unfold VQ Ru wP;cases hq:mS l c (P9 l s) (Eh (P9 l s) (List.replicate (P9 l s).2.2.2.1.length false) (mbS s d))with
 |inr e=>simp only[O8 (uJ _ (λr=>r.1≠0) a7z _ _ _ hq)];rfl|inl b=>
  have hbl:=a3c hq;simp only[O5 (rfl:(0:Int)=0),E5,o6];rw[b0k c b h hs hM,o8,Po hS (PR hT s c l7) (-1) (by rw[JD];simp),o8];cases hr:scS s (xY l s c b) (-1) (JR s (List.replicate s.2.2.2.1.length false) d)with
  |inr e=>simp only[O8 (Og hr)];rfl|inl x=>obtain⟨g1,g2⟩:=IB hr;have k1:=MC (l:=x.1) (0,0,0) h0 l7;have k2:=MC (l:=x.2) 0 h0 l7;simp only[O5 (rfl:(0:Int)=0),E5,o6];rw[k1.1,o8,k1.2,o8,k2.1,o8,k2.2];rfl
abbrev BB:Type:=d5V×d5V
def BOk(s m:A7)(b:BB):Prop:=b.1.length=s.2.2.2.1.length/\b.2.length=m.2.2.2.1.length
theorem a4v(s:A7)(env:aV)(m d:Int):((Z9 s env m d).2.1=0/\Z9 s env m d=((Z9 s env m d).1,0,0,0,0))\/((Z9 s env m d).2.1≠0/\Z9 s env m d=(0,(Z9 s env m d).2)):=by
 unfold Z9;cases hf:bF (EU s env m d) (dn s d env.1).1 []with
 |inr e=>
  right;have:=uJ (EU s env m d) (λr=>r.1=0/\r.2.1≠0) (λb i r h=>?_) _ _ _ hf
  .exact⟨this.2,fC this.1 rfl⟩
  .refine⟨?_,Uh b i r h⟩;unfold EU at h;split at h
   .cases h
   .rename_i q _;cases h1:x8 (o9 q.2.2.2.2.2.1) 0<;>rw[h1]at h
    case true=>cases h
    cases h2:x8 (uw q.2.2.2.2.2.1 env).2 0<;>rw[h2]at h<;>cases h;rfl
 |inl ap=>left;simp only;cases D9 (EY (dn s d env.1).2.1 (dn s d env.1).2.2 ap) 0<;>exact⟨rfl,rfl⟩
structure Sim (P Q:Int->Prop) (a b:aV):Prop where
 e1:a.1=b.1
 e2:a.2.1=b.2.1
 e3:a.2.2.2.2=b.2.2.2.2
 dl:a.2.2.1.length=b.2.2.1.length
 d:∀x,P x->G6 a.2.2.1 x=G6 b.2.2.1 x
 ml:a.2.2.2.1.length=b.2.2.2.1.length
 m:∀x,Q x->a.2.2.2.1.map (λv=>G6 v x)=b.2.2.2.1.map (λv=>G6 v x)
def a4j(P Q:Int->Prop)(n:Int×Int):Prop:=(n.1=8->P n.2)/\(isM n.1=true->Q n.2)
theorem a3b{a:List α}{b:List β}(h:a.length=b.length):o9 a=o9 b:=congrArg (λ(n:Nat)=>(n:Int)) h
variable {Q:Int->Prop}{P:Int->Prop}{a:aV}{b:aV}
theorem b1e{n:Int×Int}(h:Sim P Q a b)(hn:a4j P Q n):Dq n a=Dq n b:=by
 obtain⟨d,i,D,M,T,B⟩:=a;obtain⟨d',i',D',M',T',B'⟩:=b;obtain⟨e1,e2,e3,dl,hd,ml,hm⟩:=h;cases e1;cases e2;cases e3;have hD:=a3b dl;unfold Dq;simp only at hD hd ⊢;rw[hD];cases hk:x8 n.1 8
 .rfl
 .rw[hd _ (hn.1 (P7.1 hk))]
theorem a5h{n:Int×Int}(h:Sim P Q a b)(hn:a4j P Q n):iW n a=iW n b:=by
 obtain⟨d,i,D,M,T,B⟩:=a;obtain⟨d',i',D',M',T',B'⟩:=b;obtain⟨e1,e2,e3,dl,hd,ml,hm⟩:=h;cases e1;cases e2;cases e3;have hM:=a3b ml;unfold iW;simp only at hM hd ⊢;rw[hM];cases hk:x8 n.1 8
 .rfl
 .rw[hd _ (hn.1 (P7.1 hk))]
theorem ZB{α γ β ρ:Type}(f:α->γ)(g:β->γ->β⊕ρ):∀(l:List α) (b:β),bF (λb a=>g b (f a)) l b=bF g (l.map f) b
 |[],b=>rfl|a::l,b=>by
  rw[jV];unfold bF;cases g b (f a)with
  |inl b' =>exact ZB f g l b'|inr r=>rfl
def c6u(k:Int)(t:Int×Int)(b:Int×Bool)(o:Option V3):(Int×Bool)⊕(V3×Int):=
 match(match o with|none=>(.inr 6:V3⊕Int)|some x=>l9 (x8 x.1 0) (.inr 6) (l9 (VY x t) (.inl x) (.inr 8)))with
 | .inr c=> .inr ((0,0,0),c)| .inl x=>l9 (plB (t.1,0,JL k b.1 x.2.2 b.2)) (.inl (JL k b.1 x.2.2 b.2,false)) (.inr ((0,0,0),3))
theorem a9U(k N:Int)(t:Int×Int)(ms:List (List V3))(b:Int×Bool):bF (JP k N t) ms b=bF (c6u k t) (ms.map λv=>G6 v N) b:=ZB (λv=>G6 v N) (c6u k t) ms b
theorem a5o{n:Int×Int}(h:Sim P Q a b)(hn:Q n.2)(ha:EvOk a)(hb:EvOk b):su n a=su n b:=by
 obtain⟨k,N⟩:=n;have h3:a.2.2.2.2.1=b.2.2.2.2.1:=by rw[h.e3]
 cases hl:G6 a.2.2.2.2.1 N with
 |none=>
  have hl2:G6 b.2.2.2.2.1 N=none:=by rw[←h3];exact hl
  unfold su;simp only;rw[hl,hl2];rfl
 |some t=>
  have hl2:G6 b.2.2.2.2.1 N=some t:=by rw[←h3];exact hl
  have h0:=(dU hl).1;rw[PS k N a t hl h0 ha.ms,PS k N b t hl2 h0 hb.ms];unfold a5n;rw[a9U,a9U,h.m N hn,a3b h.ml]
theorem a8q(h:Sim P Q a b)(n:Int×Int)(x:V3):pX n x a=pX n x b:=by obtain⟨d,i,D,M,T,B⟩:=a;obtain⟨d',i',D',M',T',B'⟩:=b;obtain⟨e1,e2,e3,dl,hd,ml,hm⟩:=h;cases e1;cases e2;cases e3;rfl
theorem VC{n:Int×Int}(h:Sim P Q a b)(hn:a4j P Q n)(ha:EvOk a)(hb:EvOk b)(args:List V3):DC n args a=DC n args b:=by
 unfold DC rZ;simp only[b1e h hn,a5h h hn,a8q h];cases h1:L6 36 n.1
 .rfl
 cases h2:L6 n.1 39
 .rfl
 rw[a5o h (hn.2 (by unfold isM;rw[h1];exact h2)) ha hb]
theorem Nr{P Q:Int->Prop}{a b:aV}(h:Sim P Q a b)(ha:EvOk a)(hb:EvOk b):∀(t:XT),(∀n∈t.post,a4j P Q n)->evT a t=evT b t
 | .l0 n,hn=>VC h (hn n (by simp[XT.post])) ha hb []| .l1 n x,hn=>by unfold evT;rw[Nr h ha hb x (λm hm=>hn m (by simp[XT.post,hm])),VC h (hn n (by simp[XT.post])) ha hb]| .l2 n x y,hn=>by unfold evT;rw[Nr h ha hb x (λm hm=>hn m (by simp[XT.post,hm])),Nr h ha hb y (λm hm=>hn m (by simp[XT.post,hm])),VC h (hn n (by simp[XT.post])) ha hb]| .l3 n x y z,hn=>by unfold evT;rw[Nr h ha hb x (λm hm=>hn m (by simp[XT.post,hm])),Nr h ha hb y (λm hm=>hn m (by simp[XT.post,hm])),Nr h ha hb z (λm hm=>hn m (by simp[XT.post,hm]))]
theorem b2a(h1:∀x∈(oH e).2.1,P x)(h2:∀x∈(oH e).2.2,Q x):∀n∈e,a4j P Q n:=λn hn=>by
 refine⟨λhk=>h1 _ ?_,λhk=>h2 _ ?_⟩
 .exact(rf _ _).2 (X5.2 ⟨n,O0.2 ⟨hn,by simp[hk,x8]⟩,rfl⟩)
 .exact(rf _ _).2 (X5.2 ⟨n,O0.2 ⟨hn,hk⟩,rfl⟩)
theorem a1A(h:Sim P Q a b)(ha:EvOk a)(hb:EvOk b)(h1:∀x∈(oH e).2.1,P x)(h2:∀x∈(oH e).2.2,Q x):uw e a=uw e b:=by
 unfold uw;cases hs:ng e with
 |inl x=>rfl|inr t=>simp only;exact Nr h ha hb t (λn hn=>b2a h1 h2 n (by rw[(Dy hs).1];exact hn))
def VA(s:A7)(P Q:Int->Prop)(d:Int):Prop:=∀r∈s.2.2.2.2,r.2.1=d->∀e,e=r.2.2.2.2.2.1\/e=r.2.2.2.2.2.2.1->(∀x∈(oH e).2.1,P x)/\∀x∈(oH e).2.2,Q x
theorem Rj{d t i:Int}(h:i∈(dn s d t).1):∃r,G6 s.2.2.2.2 i=some r/\r∈s.2.2.2.2/\r.2.1=d:=by
 have h:i∈castL (aB s d t):=h;obtain⟨k,hk,rfl⟩:=X5.1 h;obtain⟨h1,h2⟩:=qG hk;obtain⟨r,hr,hm⟩:=lZ (l:=s.2.2.2.2) (i:=(k:Int)) l7 (by unfold o9;omega);refine⟨r,hr,hm,?_⟩;unfold onR at h2;rw[F8]at hr;rw[hr]at h2;simp only at h2;cases h3:x8 r.2.1 d<;>rw[h3]at h2
 .cases h2
 .exact P7.1 h3
theorem Xm{α β ρ:Type}{G H:β->α->β⊕ρ} :∀(l:List α) (b:β),(∀a∈l,∀b,G b a=H b a)->bF G l b=bF H l b
 |[],b,h=>rfl|a::l,b,h=>by
  unfold bF;rw[h a x9];cases H b a with
  |inl b' =>exact Xm l b' (λx hx=>h x (by simp[hx]))|inr r=>rfl
theorem a4x(h:Sim P Q a b)(ha:EvOk a)(hb:EvOk b)(hr:∀i∈(dn s d b.1).1,∀r,G6 s.2.2.2.2 i=some r->(∀x∈(oH r.2.2.2.2.2.1).2.1,P x)/\∀x∈(oH r.2.2.2.2.2.1).2.2,Q x)(m:Int):Z9 s a m d=Z9 s b m d:=by unfold Z9;rw[h.e1,Xm (G:=EU s a m d) (H:=EU s b m d) (dn s d b.1).1 [] (λi hi ap=>?_)];obtain⟨r,h1,h2,h3⟩:=Rj hi;obtain⟨p1,p2⟩:=hr i hi r h1;unfold EU;rw[h1];simp only;rw[a1A h ha hb p1 p2]
theorem a6S(h:Sim P Q a b)(ha:EvOk a)(hb:EvOk b)(hr:VA s P Q d)(m:Int):Z9 s a m d=Z9 s b m d:=
 a4x h ha hb (λi hi r hl=>by obtain⟨q,h1,h2,h3⟩:=Rj hi;rw[h1]at hl;cases hl;exact hr r h2 h3 _ (.inl rfl)) m
theorem a1x(h0:(Z9 s env m d).2.1=0)(h1:(Z9 s env m d).1≠-1)(h2:(Z9 s env m d).1≠-2):(Z9 s env m d).1∈(dn s d env.1).1:=by
 unfold Z9 at h0 h1 h2 ⊢;cases hf:bF (EU s env m d) (dn s d env.1).1 []with
 |inr e=>rw[hf]at h0;exact absurd h0 (uJ (EU s env m d) (λr=>r.2.1≠0) (λb i r h=>Uh b i r h) _ _ _ hf)|inl ap=>
  rw[hf]at h1 h2;simp only at h1 h2 ⊢;have hb:=a3N (dn s d env.1).2.1 (dn s d env.1).2.2 ap;have hlo:=b0u (dn s d env.1).2.1 (dn s d env.1).2.2 ap;have hl:=(Qo s d env.1).2;generalize EY (dn s d env.1).2.1 (dn s d env.1).2.2 ap=q at h1 h2 hb hlo ⊢;by_cases g:q<0
  .rw[U6 g]at h1 h2;simp only[o7]at h1 h2;omega
  rw[N7 (iQ.1 g)];have hi:q.toNat<(dn s d env.1).1.length:=l7;simp only[o6,uZ,bQ hi,dK];exact I4 hi
theorem Ub(h:Sim P Q a b)(ha:EvOk a)(hb:EvOk b)(hr:VA s P Q d)(m:Int):yX s a m d=yX s b m d:=by
 unfold yX;rw[a6S h ha hb hr m];cases h0:x8 (Z9 s b m d).2.1 0
 .simp only[o6]
 cases h1:x8 (Z9 s b m d).1 (-1)
 case true=>simp only[o7]
 cases h2:x8 (Z9 s b m d).1 (-2)
 case true=>simp only[o7,o6]
 have hin:=a1x (P7.1 h0) (λe=>by rw[O5 e]at h1;cases h1) (λe=>by rw[O5 e]at h2;cases h2);obtain⟨r,r1,r2,r3⟩:=Rj hin;obtain⟨p1,p2⟩:=hr r r2 r3 _ (.inr rfl);rw[r1];simp only;rw[a1A h ha hb p1 p2]
def Ya(s:A7)(O:d5R):Prop:=O.Nodup/\(∀d∈O,0<=d/\d<nD s)/\∀(pre:d5R) (d:Int) (suf:d5R),O=pre++d::suf->∀x∈P8 s d,x∈pre
theorem a8Q{O pre suf:d5R}{d e:Int}(h:O++[e]=pre++d::suf):(suf=[]/\pre=O/\d=e)\/∃suf',suf=suf' ++[e]/\O=pre++d::suf' :=by
 rcases List.eq_nil_or_concat suf with rfl|⟨suf',z,rfl⟩
 .have h:O++[e]=pre++[d]:=h;obtain⟨h1,h2⟩:=List.append_inj' h rfl;cases h2;exact .inl ⟨rfl,h1.symm,rfl⟩
 .rw[List.concat_eq_append,←aC,←G5]at h;obtain⟨h1,h2⟩:=List.append_inj' h rfl;cases h2;exact .inr ⟨suf',x9,h1⟩
variable {O:d5R}
theorem b2z{d:Nat}(h:Ya s O)(hd:d<s.2.2.2.1.length)(ho:okN s O d=true):Ya s (O++[(d:Int)]):=by
 obtain⟨h1,h2⟩:=a7H.1 ho;refine⟨?_,λx hx=>?_,λpre e suf he x hx=>?_⟩
 .exact N8.2 ⟨h.1,x9,λa ha b hb hab=>by simp at hb;subst hb;exact h1 (hab▸ha)⟩
 .rcases D5.1 hx with hx|hx
  .exact h.2.1 x hx
  .simp at hx;subst hx;unfold nD o9;omega
 .rcases a8Q he with⟨_,rfl,rfl⟩|⟨suf',_,e2⟩
  .cases hq:qP pre x
   .have:x∈Ut s pre (d:Int):=O0.2 ⟨hx,by simp[hq]⟩;rw[h2]at this;cases this
   .exact xW.1 hq
  .exact h.2.2 pre e suf' e2 x hx
theorem a6C(hx:x∈P8 s d)(hn:x∉bI s x):(bI s x).length<(bI s d).length:=by
 obtain⟨a1,a2,a3,a4⟩:=xm s d;obtain⟨b1,b2,b3,b4⟩:=xm s x;have hxd:=a2 x hx;rcases Vp b1 a1 (λy hy=>b4 (λz=>z∈bI s d) (a3 x hxd) (λz hz=>a3 z hz) y hy)with h|h
 .rw[←h]at hxd;exact absurd hxd hn
 .exact h
theorem b5w(hac:∀d,0<=d->d<nD s->d∉bI s d)(O:d5R):∀(n:Nat) (d:Int),0<=d->d<nD s->d∉O->(bI s d).length<=n->∃e,0<=e/\e<nD s/\e∉O/\∀x∈P8 s e,x∈O:=by
 intro n;induction n with
 |zero=>intro d h0 h1 h2 hl;refine⟨d,h0,h1,h2,λx hx=>?_⟩;have:=(xm s d).2.1 x hx;rw[S9.1 (Nat.le_zero.1 hl)]at this;cases this|succ n ih=>
  intro d h0 h1 h2 hl;by_cases hq:∀x∈P8 s d,x∈O
  .exact⟨d,h0,h1,h2,hq⟩
  .obtain⟨x,hx⟩:=Classical.not_forall.1 hq;obtain⟨hx,hxO⟩:=Classical.not_imp.1 hx;obtain⟨q0,q1⟩:=uF hx;have:=a6C hx (hac x q0 q1);exact ih x q0 q1 hxO l7
theorem c1G(hl:O.length<s.2.2.2.1.length):∃d:Int,0<=d/\d<nD s/\d∉O:=by
 refine bT λhq=>?_;have h1:∀x∈castL (List.range s.2.2.2.1.length),x∈EZ O:=λx hx=>by obtain⟨j,hj,rfl⟩:=X5.1 hx;have:=U5.1 hj;exact(rf _ _).2 (bT λhn=>hq ⟨(j:Int),l7,by unfold nD o9;omega,hn⟩)
 have h2:=KA O;have h3:(castL (List.range s.2.2.2.1.length)).length=s.2.2.2.1.length:=by rw[LH,bn]
 rcases Vp (Zb rO) (Vl O) h1 with h|h
 .rw[←h]at h2;omega
 .omega
theorem a2e{s:A7}(hac:∀d,0<=d->d<nD s->d∉bI s d):∀(k:Nat) (O:d5R),Ya s O->O.length<=s.2.2.2.1.length->s.2.2.2.1.length -O.length<=k->∃O',UM s k O= .inl O' /\Ya s O' /\O'.length=s.2.2.2.1.length
 |0,O,h,hl,hk=>⟨O,rfl,h,l7⟩|k+1,O,h,hl,hk=>by
  unfold UM;by_cases hq:O.length<s.2.2.2.1.length
  .rw[if_pos hq];cases hn:OD s O with
   |none=>
    obtain⟨d,d0,d1,d2⟩:=c1G hq;obtain⟨e,e0,e1,e2,e3⟩:=b5w hac O _ d d0 d1 d2 (E9 _);have hlt:e.toNat<s.2.2.2.1.length:=by unfold nD o9 at e1;omega
    have:=uY hn e.toNat hlt;have hok:okN s O e.toNat=true:=a7H.2 (by rw[ax e0];refine⟨e2,mY.2 λx hx=>by simp[xW.2 (e3 x hx)]⟩)
    unfold Xy at this;rw[hok]at this;cases this
   |some d=>obtain⟨n1,n2⟩:=r_ hn;exact a2e hac k (O++[(d:Int)]) (b2z h n1 n2) Y8 Y8
  .rw[if_neg hq];exact⟨O,rfl,h,l7⟩
theorem x_(hs:SmS s)(hac:∀d,0<=d->d<nD s->d∉bI s d):Ya s (kN s).1/\∀d,0<=d->d<nD s->d∈(kN s).1:=by
 have hnd:=hs.nd;obtain⟨O,h1,h2,h3⟩:=a2e hac 100 [] ⟨x9,x9,λpre d suf h=>by simp at h⟩ x9 Y8;have e:(kN s).1=O:=by unfold kN;rw[h1]
 rw[e];refine⟨h2,λd d0 d1=>?_⟩;refine bT λhn=>?_;have:=QO (l:=d::O) (n:=s.2.2.2.1.length) (iw.2 ⟨hn,h2.1⟩) (λx hx=>by
  rcases D6.1 hx with rfl|hx
  .exact⟨d0,d1⟩
  .exact h2.2.1 x hx)
 simp at this;omega
theorem TL(h:(iE l).1=0)(hs:l.2.2[i]? =some s):∀d,0<=d->d<nD s->d∉bI s d:=by
 intro d d0 d1 hd;have hp:=(MQ h hs).2;unfold Tn at hp;cases h1:DV l s with
 |some q=>rw[h1]at hp;exact absurd hp (Kv h1)|none=>
  rw[h1]at hp;simp only at hp;cases h2:aO s.2.2.2.2.length (MN l s)with
  |some q=>
   rw[h2]at hp;obtain⟨j,hj,hq⟩:=je h2;unfold MN at hq;cases h3:s.2.2.2.2[j]? with
   |none=>rw[h3]at hq;cases hq|some q2=>rw[h3]at hq;exact absurd hp (LQ hq)
  |none=>
   rw[h2]at hp;simp only at hp;have key:Yd s d.toNat=some (9,((200+d.toNat:Nat):Int)):=by unfold Yd;rw[show((bI s d.toNat).any λx=>x8 (d.toNat:Int) x)=true from ?_];rfl;rw[ax d0];exact aP.2 ⟨d,hd,O5 rfl⟩
   cases h3:aO s.2.2.2.1.length (Yd s)with
   |none=>have:=uY h3 d.toNat (by unfold nD o9 at d1;omega);rw[key]at this;cases this|some q=>
    rw[h3]at hp;obtain⟨j,hj,hq⟩:=je h3;unfold Yd at hq;cases h4:(bI s (j:Int)).any λx=>x8 (j:Int) x<;>rw[h4]at hq
    .cases hq
    .cases hq;exact absurd (show(9:Int)=0 from hp) H9
theorem b4a(h:(iE l).1=0)(hs:G6 l.2.2 k=some s):∀d,0<=d->d<nD (P9 l s)->d∉bI (P9 l s) d:=by
 rcases zM h hs with⟨_,_,g⟩|⟨_,_,_,g,_⟩
 .rw[g];intro d d0 d1;exact absurd d1 (by show ¬d<(0:Int);omega)
 .exact TL h (dU g).2.2.2
theorem a1F{α β ρ:Type}(G:β->α->β⊕ρ):∀(l m:List α) (b:β),bF G (l++m) b=match bF G l b with| .inl b' =>bF G m b'| .inr r=> .inr r
 |[],m,b=>rfl|a::l,m,b=>by
  rw[aC];simp only[bF];cases G b a with
  |inl b' =>exact a1F G l m b'|inr r=>rfl
theorem NF{l:List α}(v:α)(h0:0<=d)(h:x≠d):G6 (l.set d.toNat v) x=G6 l x:=by
 unfold G6
 split
 .rw[kS l7]
 .rfl
theorem ZO{l:List α}(v:α)(h0:0<=d)(h:d<o9 l):G6 (l.set d.toNat v) d=some v:=by
 unfold G6
 rw[if_pos h0,iJ (by unfold o9 at h;omega)]
theorem a0b{s:A7}{env:aV}{m:Int}{need:d5V}{x:Int} :∀(L:d5R) {B X:DB},(∀d∈L,0<=d)->x∉L->bF (scG s env m need) L B= .inl X->G6 X.1 x=G6 B.1 x/\G6 X.2 x=G6 B.2 x
 |[],B,X,_,_,h=>by cases h;exact⟨rfl,rfl⟩|d::L,B,X,hL,hx,h=>by
  unfold bF at h;cases hg:scG s env m need B d with
  |inr e=>rw[hg]at h;cases h|inl B' =>
   rw[hg]at h;obtain⟨k1,k2⟩:=a0b L (λy hy=>hL y (by simp[hy])) (λhm:x∈L=>hx (U3 _ hm)) h;have hd:x≠d:=λe=>hx (by simp[e]);unfold scG at hg;cases h1:(G6 need d).getD false<;>rw[h1]at hg
   .cases hg;exact⟨k1,k2⟩
   simp only[o7]at hg;cases h2:yX s (yZ env B.1) m d with
   |inr e=>rw[h2]at hg;cases hg|inl v=>rw[h2]at hg;cases hg;rw[k1,k2,NF _ (hL d x9) hd,NF _ (hL d x9) hd];exact⟨rfl,rfl⟩
theorem b9F{n:Nat}(L:d5R){B X:DB}(hB:B.1.length=n/\B.2.length=n)(h:bF (scG s env m need) L B= .inl X):X.1.length=n/\X.2.length=n:=by
 refine VW (scG s env m need) (λx=>x.1.length=n/\x.2.length=n) (λb d b' hb hg=>?_) _ _ _ hB h;unfold scG at hg;cases h1:(G6 need d).getD false<;>rw[h1]at hg
 .cases hg;exact hb
 simp only[o7]at hg;cases hd:yX s (yZ env b.1) m d with
 |inr e=>rw[hd]at hg;cases hg|inl v=>rw[hd]at hg;cases hg;simp[hb]
theorem Nh(h:(iE l).1=0)(hs:l.2.2[i]? =some s)(d:Int):VA s (λx=>x∈P8 s d) (λx=>0<=x/\x<nD (P9 l s)) d:=by
 intro r hr hd e he;obtain⟨p1,p2⟩:=WT h hs hr he;refine⟨λx hx=>?_,p2⟩;obtain⟨q,hq,_⟩:=(Qp h hs hr).2;obtain⟨q0,q1,_⟩:=dU hq;have hin:inD (nD s) d=true:=by rw[←hd];unfold inD;rw[Y5 q0];exact U6 q1
 unfold P8;rw[hin];refine(rf _ _).2 (b4b.2 ⟨r,hr,hd,?_⟩);obtain⟨x0,x1⟩:=p1 x hx;have hxi:inD (nD s) x=true:=by unfold inD;rw[Y5 x0];exact U6 x1
 unfold GL;rcases he with rfl|rfl
 .exact D5.2 (.inl (O0.2 ⟨hx,hxi⟩))
 .exact D5.2 (.inr (O0.2 ⟨hx,hxi⟩))
theorem a1X(l:U9)(s:A7)(h:(P9 l s).2.1=-1):P9 l (P9 l s)=yJ:=by unfold P9 at h ⊢;rw[h];rfl
theorem xn(h:(iE l).1=0)(hs:G6 l.2.2 k=some s)(d:Int):VA (P9 l s) (λx=>x∈P8 (P9 l s) d) (λx=>False) d:=by
 rcases zM h hs with⟨_,_,g⟩|⟨g1,g2,g3,g,_⟩
 .rw[g];intro r hr;cases hr
 .intro r hr hd e he;have h2:=Nh h (dU g).2.2.2 d r hr hd e he;refine⟨h2.1,λx hx=>?_⟩;have hm:=Xe h (dU hs).2.2.2;unfold CP at hm;have hne:x8 s.2.1 (-1)=false:=O8 (by rw[jr]at g1;omega);rw[hne,g2,g]at hm;simp only[o6]at hm;have hm1:(P9 l s).2.1=-1:=by
   cases hq:L6 (((k.toNat:Nat)):Int) s.2.1<;>rw[hq]at hm
   case true=>cases hm
   cases hq2:x8 (P9 l s).2.1 (-1)<;>rw[hq2]at hm
   .cases hm
   .exact P7.1 hq2
  have:=h2.2 x hx;rw[a1X l s hm1]at this;exact absurd this.2 (by show ¬x<(0:Int);omega)
theorem ZA{X:DB}(hE:EvOk env)(ht:Ya s (kN s).1)(hX:scS s env m need= .inl X)(hd:d∈(kN s).1)(hn:(G6 need d).getD false=true)(hr:VA s (λx=>x∈P8 s d) Q d):
  ∃v r,G6 X.1 d=some v/\G6 X.2 d=some r/\yX s (yZ env X.1) m d= .inl (v,r):=by
 obtain⟨pre,suf,he⟩:=List.append_of_mem hd;have hlen:=IB hX;unfold scS at hX;rw[he,a1F]at hX;cases hB:bF (scG s env m need) pre (List.replicate s.2.2.2.1.length (0,0,0),List.replicate s.2.2.2.1.length 0)with
 |inr r=>rw[hB]at hX;cases hX|inl B=>
  rw[hB]at hX;simp only at hX;have hBl:=b9F (n:=s.2.2.2.1.length) pre x9 hB;unfold bF at hX;cases hg:scG s env m need B d with
  |inr r=>rw[hg]at hX;cases hX|inl B' =>
   rw[hg]at hX;simp only at hX;obtain⟨d0,d1⟩:=ht.2.1 d hd;have hnd:=ht.1;rw[he]at hnd;obtain⟨n1,n2,n3⟩:=N8.1 hnd;obtain⟨n4,n5⟩:=iw.1 n2;have hpos:∀y∈suf,0<=y:=λy hy=>(ht.2.1 y (by rw[he];simp[hy])).1;unfold scG at hg;rw[hn]at hg;simp only[o7]at hg;cases hv:yX s (yZ env B.1) m d with
   |inr e=>rw[hv]at hg;cases hg
   |inl v=>rw[hv]at hg;cases hg;obtain⟨k1,k2⟩:=a0b (x:=d) suf hpos n4 hX;rw[ZO _ d0 (by unfold nD at d1;unfold o9 at d1 ⊢;omega)]at k1 k2;refine⟨v.1,v.2,k1,k2,?_⟩;rw[←hv];refine Ub (a:=yZ env X.1) (b:=yZ env B.1) (P:=λx=>x∈P8 s d) (Q:=Q) ⟨rfl,rfl,rfl,by show X.1.length=B.1.length;omega,λx hx=>?_,rfl,λ_ _=>rfl⟩ (DR hE _) (DR hE _) hr m;have hxp:=ht.2.2 pre d suf he x hx;have hxs:x∉suf:=λhy=>n3 x hxp x (by simp[hy]) rfl;have hxd:x≠d:=λhy=>n3 x hxp d x9 hy;have:=(a0b (x:=x) suf hpos hxs hX).1;rw[NF _ d0 hxd]at this;exact this
structure SimE (Q:Int->Prop) (a b:aV):Prop where
 e1:a.1=b.1
 e2:a.2.1=b.2.1
 e3:a.2.2.2.2=b.2.2.2.2
 ml:a.2.2.2.1.length=b.2.2.2.1.length
 m:∀x,Q x->a.2.2.2.1.map (λv=>G6 v x)=b.2.2.2.1.map (λv=>G6 v x)
theorem SimE.at(h:SimE Q a b){D D' :List V3}(hl:D.length=D'.length)(hd:∀x,P x->G6 D x=G6 D' x):Sim P Q (yZ a D) (yZ b D'):=⟨h.e1,h.e2,h.e3,hl,hd,h.ml,h.m⟩
abbrev ND(w:d5V)(x:Int):Prop:=(G6 w x).getD false=true
structure DInv (n:Nat) (need:d5V) (B B' :DB):Prop where
 l1:B.1.length=n/\B.2.length=n
 l2:B'.1.length=n/\B'.2.length=n
 eq:∀x,ND need x->G6 B.1 x=G6 B'.1 x/\G6 B.2 x=G6 B'.2 x
structure MInv (need:d5V) (b b' :List DB):Prop where
 l:b.length=b'.length
 eq:∀x,ND need x->b.map (λv=>G6 v.1 x)=b'.map (λv=>G6 v.1 x)
theorem c0l(w:d5V)(x:Int):ND w x↔mk w x=true:=by
 unfold ND mk G6
 split
 .rw[uZ]
 .simp
theorem b4d(hw:w.length=s.2.2.2.1.length)(h0:0<=d)(h1:d<nD s)(x:Int):mk (JR s w d) x=true↔mk w x=true\/x=d\/x∈bI s d:=by
 unfold JR;rw[a3g _ _ (λy hy=>by have:=zK hy;unfold nD at this;simp only[o9,jU]at this ⊢;omega),l_ h0 (by unfold nD at h1;unfold o9 at h1 ⊢;omega)];cases hq:x8 x d
 .have:x≠d:=λe=>by rw[O5 e]at hq;cases hq
  simp[this]
 .rw[P7]at hq;simp[hq]
theorem b4c{m:A7} :∀(L:d5R) {w:d5V},w.length=m.2.2.2.1.length->(∀x∈L,0<=x/\x<nD m)->∀x,mk (Eh m w L) x=true↔mk w x=true\/∃z∈L,x=z\/x∈bI m z
 |[],w,hw,h,x=>by simp[Eh]|z::L,w,hw,h,x=>by
  obtain⟨z0,z1⟩:=h z x9;rw[show Eh m w (z::L)=Eh m (JR m w z) L from rfl,b4c L ((JD m w z).trans hw) (λy hy=>h y (by simp[hy])) x,b4d hw z0 z1];constructor
  .rintro((h1|h1)|⟨y,hy,h1⟩)
   .exact .inl h1
   .exact .inr ⟨z,x9,h1⟩
   .exact .inr ⟨y,by simp[hy],h1⟩
  .rintro(h1|⟨y,hy,h1⟩)
   .exact .inl (.inl h1)
   .rcases D6.1 hy with rfl|hy
    .exact .inl (.inr h1)
    .exact .inr ⟨y,hy,h1⟩
def b2I(s:A7)(w:d5V):Prop:=∀d,mk w d=true->∀x∈P8 s d,mk w x=true
structure NI (l:U9) (s:A7) (B:BB):Prop where
 ok:BOk s (P9 l s) B
 c1:b2I s B.1
 c2:b2I (P9 l s) B.2
 hr:∀e,mk B.1 e=true->VA s (λx=>x∈P8 s e) (λx=>mk B.2 x=true) e
structure Grows (B C:BB):Prop where
 g1:∀x,mk B.1 x=true->mk C.1 x=true
 g2:∀x,mk B.2 x=true->mk C.2 x=true
theorem Grows.refl(B:BB):Grows B B:=⟨λ_ h=>h,λ_ h=>h⟩
theorem Grows.trans{A B C:BB}(h:Grows A B)(k:Grows B C):Grows A C:=⟨λx hx=>k.g1 x (h.g1 x hx),λx hx=>k.g2 x (h.g2 x hx)⟩
theorem b3p{v:V3}{r:Int}(h:yX s env m d= .inl (v,r)):Z9 s env m d=(r,0,0,0,0)/\r∈(dn s d env.1).1/\∃q,G6 s.2.2.2.2 r=some q/\uw q.2.2.2.2.2.2.1 env=(v,0):=by
 unfold yX at h;cases h0:x8 (Z9 s env m d).2.1 0<;>rw[h0]at h
 .cases h
 cases h1:x8 (Z9 s env m d).1 (-1)<;>rw[h1]at h
 case true=>cases h
 cases h2:x8 (Z9 s env m d).1 (-2)<;>rw[h2]at h
 case true=>cases h
 simp only[o7,o6]at h;cases hl:G6 s.2.2.2.2 (Z9 s env m d).1 with
 |none=>rw[hl]at h;cases h|some q=>
  rw[hl]at h;simp only at h;cases h4:x8 (uw q.2.2.2.2.2.2.1 env).2 0<;>rw[h4]at h
  .cases h
  cases h;have hin:=a1x (P7.1 h0) (λe=>by rw[O5 e]at h1;cases h1) (λe=>by rw[O5 e]at h2;cases h2);refine⟨?_,hin,q,hl,fC rfl (P7.1 h4)⟩;rcases a4v s env m d with⟨g1,g2⟩|⟨g1,g2⟩
  .exact g2
  .exact absurd (P7.1 h0) g1
theorem b0Q(h:(Cj l k c false 0).1=0)(hs:G6 l.2.2 k=some s)(hm:s.2.1<0):c.2.2=[]:=by
 unfold Cj at h;cases h0:x8 (iE l).1 0<;>rw[h0]at h
 .exact absurd (show(1:Int)=0 from h) H9
 rw[hs]at h;simp only[o7,o6]at h;cases h1:x8 (DI l k c).2.2 0<;>rw[h1]at h
 .simp only[o6]at h;rw[O5 h]at h1;cases h1
 have h1:=P7.1 h1;unfold DI at h1;rw[hs]at h1;simp only at h1;cases g1:D9 c.1 0<;>rw[g1]at h1
 case true=>exact absurd (show(3:Int)=0 from h1) H9
 cases g2:D9 109572 c.1<;>rw[g2]at h1
 case true=>exact absurd (show(3:Int)=0 from h1) H9
 cases g3:x8 (Bz l.1 s.2.2.1 c.2.1).2 0<;>rw[g3]at h1
 .simp only[o6]at h1;rw[O5 h1]at g3;cases g3
 cases g4:D9 (pF l s).2 (o9 c.2.2)<;>rw[g4]at h1
 case true=>exact absurd (show(4:Int)=0 from h1) H9
 have hz:(pF l s).2=0:=by unfold pF;rw[tJ (.inl (Y9 hm))]
 rw[hz,iM]at g4;exact S9.1 (by unfold o9 at g4;omega)
theorem c6s{l:U9}{c:aF}{ms:A7}{need:d5V} :∀(L:List (List V3×Nat)) (b X:List DB),bF (mG l c ms need) L b= .inl X->∃Y,X=b++Y/\Y.length=L.length/\∀(i:Nat) (a:List V3×Nat),L[i]? =some a->∃x,Y[i]? =some x/\scS ms (Ib l c a.1) (a.2:Int) need= .inl x
 |[],b,X,h=>by cases h;exact⟨[],x9,rfl,λi a ha=>by simp at ha⟩|a::L,b,X,h=>by
  unfold bF at h;cases hg:mG l c ms need b a with
  |inr e=>rw[hg]at h;cases h|inl b1=>
   rw[hg]at h;simp only at h;obtain⟨Y,e1,e2,e3⟩:=c6s L b1 X h;unfold mG at hg;cases hs:scS ms (Ib l c a.1) (a.2:Int) need with
   |inr e=>rw[hs]at hg;cases hg|inl x=>
    rw[hs]at hg;cases hg;refine⟨x::Y,by rw[e1];simp,by simp[e2],λi q hq=>?_⟩;cases i with
    |zero=>simp at hq;subst hq;exact⟨x,rfl,hs⟩|succ i=>exact e3 i q (by simpa using hq)
theorem b0L(h:(Cj l k c false 0).1=0)(hs:G6 l.2.2 k=some s)(d0:0<=d)(d1:d<nD s):(Cj l k c true d).1=0:=by
 unfold Cj at h ⊢;cases h0:x8 (iE l).1 0<;>rw[h0]at h
 .exact absurd (show(1:Int)=0 from h) H9
 rw[hs]at h ⊢;simp only[o7,o6]at h ⊢;rw[N7 d0,show L6 (o9 s.2.2.2.1) d=false from Y9 d1];exact h
end
section
section
variable {en:List jw} {t:Int×Int}
end
end
section
def PVW(en:List jw)(t:Int×Int)(v:V3):Prop:=v.1=t.1/\v.2.1=t.2/\(v.1=6->inB v.2.2 (bnd t en)=true)
structure TOk (sg:O7) (env:aV):Prop where
 inp:∀i t v,G6 sg.2.2.1 i=some t->G6 env.2.1 i=some v->PVW sg.1 t v
 dfs:∀i t v,G6 sg.2.2.2.1 i=some t->G6 env.2.2.1 i=some v->v.1≠0->PVW sg.1 t v
 mty:∀i t u,G6 sg.2.2.2.2.1 i=some t->G6 env.2.2.2.2.1 i=some u->u=t
 tbs:env.2.2.2.2.2=sg.2.1
 row:∀t∈sg.2.1,∀r∈t.2.2.2,inB r.2.2.2 (bnd t.2.2.1 sg.1)=true
end
section
section
variable {sg:O7} {env:aV}
end
end
section
theorem a7l{ρ:Type}{n:Nat}{p:Nat->Option ρ}(h:∀r,aO n p≠some r):∀i,i<n->p i=none:=by
 cases hf:aO n p with
 |some r=>exact absurd hf (h r)|none=>exact uY hf
theorem b0Z{k i:Int}{r:Int×Int}(h:SN k i r=none):r.1=0:=by
 unfold SN at h;cases he:x8 r.1 0<;>rw[he]at h
 .cases h
 .exact P7.1 he
theorem a9c{l:U9}(h:(iE l).1=0):∀e∈l.1,e.2.length<=16:=by
 intro e he;unfold iE at h;cases h1:x8 (Np l).1 0<;>rw[h1]at h
 .simp only[o6]at h;rw[O5 h]at h1;cases h1
 have h1:=P7.1 h1;unfold Np at h1;cases h2:D9 8 (o9 l.1)<;>rw[h2]at h1
 case true=>exact absurd (show(4:Int)=0 from h1) H9
 simp only[o6]at h1;obtain⟨i,hi,e1⟩:=Y7 he;have hn:=a7l (n:=l.1.length) (p:=Pj l) (λr hf=>by
  rw[hf]at h1;obtain⟨j,_,hj⟩:=je hf;unfold Pj at hj;split at hj
  .exact VP hj h1
  .cases hj) i hi
 unfold Pj at hn;rw[bQ hi,e1]at hn;have hz:=b0Z hn;unfold Xk at hz;cases g1:EW e.1<;>rw[g1]at hz
 .exact absurd (show(2:Int)=0 from hz) H9
 cases g2:GX l 1 i e.1<;>rw[g2]at hz
 case true=>exact absurd (show(7:Int)=0 from hz) H9
 cases g3:x8 (o9 e.2) 0<;>rw[g3]at hz
 case true=>exact absurd (show(5:Int)=0 from hz) H9
 cases g4:D9 16 (o9 e.2)<;>rw[g4]at hz
 case true=>exact absurd (show(4:Int)=0 from hz) H9
 rw[iM]at g4;unfold o9 at g4;omega
theorem a6G{l:U9}(h:(iE l).1=0){i:Nat}{s:A7}(hs:l.2.2[i]? =some s){j:Nat}{f:jm}(hf:s.2.2.2.1[j]? =some f):vty f.2 l.1=true:=by
 have hp:=(MQ h hs).2;unfold Tn at hp;cases h1:DV l s with
 |some q=>rw[h1]at hp;exact absurd hp (Kv h1)|none=>
  unfold DV at h1;cases h2:aO s.2.2.1.length (inP l s)with
  |some q=>rw[h2]at h1;cases h1|none=>
   rw[h2]at h1;have hn:=uY h1 j (X7.1 hf).1;unfold a2M at hn;rw[hf]at hn;simp only at hn;unfold VO at hn;cases he:x8 (KZ l.1 f s.2.2.1 (s.2.2.2.1.take j)) 0<;>rw[he]at hn
   .cases hn
   have he:=P7.1 he;unfold KZ at he;cases g1:EW f.1<;>rw[g1]at he
   .exact absurd (show(2:Int)=0 from he) H9
   cases g2:s.2.2.1.any λx=>seq x.1 f.1<;>rw[g2]at he
   case true=>exact absurd (show(7:Int)=0 from he) H9
   cases g3:(s.2.2.2.1.take j).any λx=>seq x.1 f.1<;>rw[g3]at he
   case true=>exact absurd (show(7:Int)=0 from he) H9
   cases g4:vty f.2 l.1<;>rw[g4]at he
   .exact absurd (show(8:Int)=0 from he) H9
theorem b9I(l:U9)(s:A7):(FX l s).1=l.1/\(FX l s).2.1=l.2.1/\(FX l s).2.2.1=s.2.2.1.map (·.2):=by unfold FX;split<;>exact⟨rfl,rfl,rfl⟩
abbrev c5X:Int×Int:=(0,109573)
def onA(s:A7)(T:Int)(i:Nat):Bool:=match s.2.2.2.2[i]? with|some r=>SH r.2.2.2.2.1 T|none=>false
def c6o(s:A7)(T:Int):d5S:=onL (onA s T) s.2.2.2.2.length
def rOn(s:A7)(T:Int)(i:Nat):aj:=match s.2.2.2.2[i]? with
 |some r=>(r.1,r.2.1,anc (onA s T) (eQ s) i,r.2.2.2.1,c5X,r.2.2.2.2.2.1,r.2.2.2.2.2.2.1,r.2.2.2.2.2.2.2)|none=>([],0,0,0,c5X,[],[],[])
def sOn(T:Int)(s:A7):A7:=(s.1,s.2.1,s.2.2.1,s.2.2.2.1,(c6o s T).map (rOn s T))
end
section
theorem IZ(on:Nat->Bool)(i:Nat):lI on (i+1)=lI on i+(if on i=true then 1 else 0):=by unfold lI;rw[W9,mO,F5];cases h:on i<;>simp[h]
theorem a4z(on:Nat->Bool){i j:Nat}(h:i<=j):lI on i<=lI on j:=by
 induction j with
 |zero=>have:i=0:=l7;subst this;omega|succ j ih=>
  rw[IZ];by_cases e:i=j+1
  .subst e;rw[IZ];omega
  .have:=ih l7;omega
theorem b3l{on:Nat->Bool}{a i:Nat}(h:a<i)(ha:on a=true):lI on a<lI on i:=by have h1:=IZ on a;rw[if_pos ha]at h1;have h2:=a4z on (show a+1<=i from h);omega
section
variable {A R R' :Nat->Bool} {par par' :Nat->Int} {n:Nat} (hRA:∀i,i<n->R i=true->A i=true) (hR:∀i,i<n->A i=true->R' (lI A i)=R i) (hp:∀i,i<n->A i=true->par' (lI A i)=anc A par i)
include hRA hR
omit hR in
omit hR in
include hp
end
end
section
section
variable {s:A7} {T:Int} (h0:0<=T) (h1:T<=109572)
include h0 h1
omit h0 h1 in
omit h0 h1 in
end
end
section
structure OnOk (s:A7) (T:Int):Prop where
 h0:0<=T
 h1:T<=109572
 t1:Ya s (kN s).1
 f1:∀d,0<=d->d<nD s->d∈(kN s).1
 t2:Ya (sOn T s) (kN (sOn T s)).1
 f2:∀d,0<=d->d<nD s->d∈(kN (sOn T s)).1
 r1:∀d,VA s (λx=>x∈P8 s d) (λ_=>True) d
 r2:∀d,VA (sOn T s) (λx=>x∈P8 (sOn T s) d) (λ_=>True) d
def SB(s:A7)(k:Nat)(r:aj):Bool:=l9 (x8 r.2.2.1 (-1)) false (l9 (D9 r.2.2.1 0) true (l9 (L6 k r.2.2.1) true (match G6 s.2.2.2.2 r.2.2.1 with|some q=>F7 (x8 q.2.1 r.2.1)|none=>true)))
structure RuleV (s:A7) (sg:O7) (k:Nat) (r:aj):Prop where
 id:EW r.1=true
 nm:((s.2.2.2.2.take k).any λx=>seq x.1 r.1)=false
 df:∃d,G6 s.2.2.2.1 r.2.1=some d/\VS r sg d.2=0
 pa:SB s k r=false
 p0:D9 r.2.2.2.1 0=false
 p9:D9 9 r.2.2.2.1=false
 dv:Ja r.2.2.2.2.1=true
 ne:x8 r.2.2.2.2.1.1 r.2.2.2.2.1.2=false
 ct:L6 8 (LK (s.2.2.2.2.take k) r.2.1)=false
 sr:a1g r.2.2.2.2.2.2.2=true
variable {s:A7}{r:aj}{k:Nat}
theorem RuleV.zero{sg:O7}(h:RuleV s sg k r):JE s sg k r=0:=by obtain⟨d,h1,h2⟩:=h.df;unfold JE;rw[h.id,h.nm,h1];simp only[o7,o6];change l9 (SB s k r) (9:Int) _=0;rw[h.pa,h.p0,h.p9,h.dv,h.ne,h.ct,h.sr,h2];rfl
theorem a8d{sg:O7}(h:JE s sg k r=0):RuleV s sg k r:=by
 obtain⟨d,hd,hx⟩:=X_ h;unfold JE at h;cases g1:EW r.1<;>rw[g1]at h
 .exact absurd (show(2:Int)=0 from h) H9
 cases g2:(s.2.2.2.2.take k).any λx=>seq x.1 r.1<;>rw[g2]at h
 case true=>exact absurd (show(7:Int)=0 from h) H9
 rw[hd]at h;simp only[o7,o6]at h;change l9 (SB s k r) (9:Int) _=0 at h;cases b1:SB s k r<;>rw[b1]at h
 case true=>exact absurd (show(9:Int)=0 from h) H9
 cases b2:D9 r.2.2.2.1 0<;>rw[b2]at h
 case true=>exact absurd (show(3:Int)=0 from h) H9
 cases b3:D9 9 r.2.2.2.1<;>rw[b3]at h
 case true=>exact absurd (show(3:Int)=0 from h) H9
 cases b4:Ja r.2.2.2.2.1<;>rw[b4]at h
 case false=>exact absurd (show(3:Int)=0 from h) H9
 cases b5:x8 r.2.2.2.2.1.1 r.2.2.2.2.1.2<;>rw[b5]at h
 case true=>exact absurd (show(3:Int)=0 from h) H9
 cases b6:L6 8 (LK (s.2.2.2.2.take k) r.2.1)<;>rw[b6]at h
 case true=>exact absurd (show(4:Int)=0 from h) H9
 cases b7:a1g r.2.2.2.2.2.2.2<;>rw[b7]at h
 case false=>exact absurd (show(2:Int)=0 from h) H9
 exact⟨g1,g2,⟨d,hd,hx⟩,b1,b2,b3,b4,b5,b6,b7⟩
variable {l:U9}
theorem MK{k:Int}{c:aF}{d:Int}(hL:SmL l)(hC:SmC c)(hT:∀t∈l.2.1,ru t)(h:(iE l).1=0)(hs:G6 l.2.2 k=some s)(h0:0<=d)(h1:d<nD s):
  gu l k c d=some (VQ l s c d):=by
 have hM:=Uz hL h hs;have hS:=hL.sc s (dU hs).2.2.1;have hn:nD s=((s.2.2.2.1.length:Nat):Int):=rfl;have hcm:=hC.nm;unfold gu;rw[hs,o8,zF s hS false,o8,TE hS x9 h0 h1,o8,zk h hs,o8,zF (P9 l s) hM false,o8,KN h hs hS hM x9 d (ZY h (dU hs).2.2.2 d),o8,Pn h hs hC.nm hM hT (by rw[NH];simp),o8];unfold VQ Ru wP;cases hq:mS l c (P9 l s) (Eh (P9 l s) (List.replicate (P9 l s).2.2.2.1.length false) (mbS s d))with
 |inr e=>simp only[O8 (uJ _ (λr=>r.1≠0) a7z _ _ _ hq)];rfl|inl b=>
  have hbl:=a3c hq;simp only[O5 (rfl:(0:Int)=0),E5,o6];rw[b0k c b h hs hM,o8,Po hS (PR hT s c l7) (-1) (by rw[JD];simp),o8];cases hr:scS s (xY l s c b) (-1) (JR s (List.replicate s.2.2.2.1.length false) d)with
  |inr e=>simp only[O8 (Og hr)];rfl|inl x=>obtain⟨g1,g2⟩:=IB hr;have k1:=MC (l:=x.1) (0,0,0) h0 l7;have k2:=MC (l:=x.2) 0 h0 l7;simp only[O5 (rfl:(0:Int)=0),E5,o6];rw[k1.1,o8,k1.2,o8,k2.1,o8,k2.2];rfl
structure Grid (lo hi step:Int):Prop where
 l1:-1000000000000001<=lo
 h1:hi<=1000000000000001
 l2:lo<=1000000000000001
 h2:-1000000000000001<=hi
 s1:1<=step
 s2:step<=1000000000000000
def gx(lo step:Int)(i:Nat):Int:=lo+i*step
variable {α:Type}
def arr(n:Nat)(f:Nat->α):List α:=(List.range n).map f
variable {i:Nat}
section
variable {α:Type} {n:Nat}
theorem TT(f:Nat->α):(arr n f).length=n:=by simp[arr]
theorem a4o(f:Nat->α):o9 (arr n f)=(n:Int):=by unfold o9;rw[TT]
theorem MW{f:Nat->α}(h:i<n):(arr n f)[i]? =some (f i):=by unfold arr;rw[V7,bZ h];rfl
theorem MX{f:Nat->α}(h:i<n):G6 (arr n f) (i:Int)=some (f i):=by rw[F8];exact MW h
theorem AY{f:Nat->α}(h:i<n):V4 (arr n f) (V8 (i:Int))=some (f i):=by show(arr n f)[((i:Int)).toNat]? =_;rw[E8];exact MW h
theorem JV{f g:Nat->α}(h:∀i,i<n->f i=g i):arr n f=arr n g:=by unfold arr;exact cu λi hi=>h i (U5.1 hi)
theorem TU{f:Nat->α}(x:α):aU (arr n f) (V8 (i:Int)) x=arr n (λj=>if j=i then x else f j):=by
 show(arr n f).set ((i:Int)).toNat x=_;rw[E8];apply bK;intro j;rw[Z5];by_cases hj:j<n
 .rw[MW hj,MW hj,TT];by_cases e:i=j
  .subst e;rw[if_pos rfl,if_pos hj,if_pos rfl]
  .rw[if_neg e,if_neg (λh:j=i=>e h.symm)]
 .have e1:(arr n f)[j]? =none:=bH (by rw[TT];omega);have e2:(arr n λj=>if j=i then x else f j)[j]? =none:=bH (by rw[TT];omega);rw[e1,e2,TT];by_cases e:i=j
  .subst e;rw[if_pos rfl,if_neg hj]
  .rw[if_neg e]
theorem a2F(x:α):List.replicate n x=arr n λ_=>x:=by
 unfold arr;apply bK;intro j;rw[V7,jo];by_cases hj:j<n
 .rw[if_pos hj,bZ hj];rfl
 .rw[if_neg hj,bH Y8];rfl
end
def upP(s:A7)(i:Nat):Option Nat:=if 0<=eQ s i/\eQ s i<(i:Int)then some (eQ s i).toNat else none
theorem a0x{i p:Nat}(h:upP s i=some p):p<i:=by
 unfold upP at h;split at h
 .cases h;omega
 .cases h
def upI(s:A7)(i:Nat):Int:=match upP s i with|some p=>(p:Int)|none=>-1
def ups(s:A7)(i:Nat):d5S:=i::(if h:0<=eQ s i/\eQ s i<(i:Int)then ups s (eQ s i).toNat else[])
termination_by i
decreasing_by omega
theorem a4d(s:A7)(i:Nat):ups s i=i::(match upP s i with|some p=>ups s p|none=>[]):=by
 rw[ups];unfold upP;by_cases h:0<=eQ s i/\eQ s i<(i:Int)
 .rw[dif_pos h,if_pos h]
 .rw[dif_neg h,if_neg h]
theorem a0y(s:A7)(i:Nat):i∈ups s i:=by rw[a4d];simp
theorem b7Z(s:A7):∀i,∀j∈ups s i,∀p,upP s j=some p->p∈ups s i:=by
 intro i;induction i using Nat.strongRecOn with
 |ind i ih=>
  intro j hj p hp;rw[a4d]at hj ⊢;rcases D6.1 hj with rfl|hj
  .rw[hp];exact U3 _ (a0y s p)
  .cases hq:upP s i with
   |none=>rw[hq]at hj;cases hj|some q=>rw[hq]at hj;exact U3 _ (ih q (a0x hq) j hj p hp)
def Clo(s:A7)(f:Nat->Bool)(m:Nat):Prop:=∀j,j<=m->f j=true->∀p,upP s j=some p->f p=true
theorem b8q{f:Nat->Bool} :∀i,Clo s f i->f i=true->∀j∈ups s i,f j=true:=by
 intro i;induction i using Nat.strongRecOn with
 |ind i ih=>
  intro hc hf j hj;rw[a4d]at hj;rcases D6.1 hj with rfl|hj
  .exact hf
  .cases hp:upP s i with
   |none=>rw[hp]at hj;cases hj|some p=>rw[hp]at hj;have hlt:=a0x hp;exact ih p hlt (λk hk=>hc k l7) (hc i (E9 _) hf p hp) j hj
def Yh(s:A7)(r j:Nat):Bool:=(ups s r).contains j
theorem Jg{r j:Nat} :Yh s r j=true↔j∈ups s r:=by unfold Yh;simp
def Tj(s:A7)(f:Nat->Bool)(a:Nat):Nat->Bool:=λj=>f j || Yh s a j
theorem b4A{f:Nat->Bool}{m:Nat}(h:Clo s f m)(a:Nat):Clo s (Tj s f a) m:=by
 intro j hj hf p hp;unfold Tj at hf ⊢;rw[jS]at hf ⊢;rcases hf with hf|hf
 .exact .inl (h j hj hf p hp)
 .exact .inr (Jg.2 (b7Z s a j (Jg.1 hf) p hp))
theorem QP{f:Nat->Bool}{a j:Nat} :Tj s f a j=((if j=a then true else f j) || (match upP s a with|some p=>Yh s p j|none=>false)):=by
 unfold Tj Yh;rw[a4d,List.contains_cons];by_cases e:j=a
 .subst e;simp
 .rw[if_neg e];have:(j==a)=false:=by simp[e]
  rw[this];cases upP s a<;>simp
theorem XG(h:i<s.2.2.2.2.length):zl s (i:Int)=some (upI s i):=by
 have e:=bQ h;have hp:eQ s i=s.2.2.2.2[i].2.2.1:=by unfold eQ;rw[e]
 unfold zl upI upP;rw[F8,e,o8,←hp];by_cases h1:eQ s i<0
 .rw[U6 h1,o7,if_neg l7]
 .rw[N7 l7,o6];by_cases h2:(i:Int)<=eQ s i
  .rw[Y5 h2,o7,if_neg l7]
  .rw[Y9 l7,o6,if_pos ⟨l7,l7⟩];show some (eQ s i)=some (((eQ s i).toNat:Nat):Int);rw[ax l7]
variable {n:Nat}
theorem d5j{f:d5V×Int->Option ((d5V×Int)⊕d5V)}
  (hin:∀(g:Nat->Bool) (a:Nat),a<n->f (arr n g,(a:Int))=l9 (F7 (g a)) (some (.inl (arr n (λj=>if j=a then true else g j),upI s a))) (some (.inr (arr n g))))
  (hend:∀g:Nat->Bool,f (arr n g,-1)=some (.inr (arr n g))):∀(a:Nat) (g:Nat->Bool) (N:Nat),a<n->a+2<=N->Clo s g a->lM f N (arr n g,(a:Int))=some (arr n (Tj s g a)):=by
 intro a;induction a using Nat.strongRecOn with
 |ind a ih=>
  intro g N ha hN hc;obtain⟨M,rfl⟩:∃M,N=M+1:=⟨N -1,l7⟩;unfold lM;rw[hin g a ha];cases hg:g a
  .rw[bg,o7];show lM f M (arr n (λj=>if j=a then true else g j),upI s a)=_;unfold upI;cases hp:upP s a with
   |none=>obtain⟨M2,rfl⟩:∃M2,M=M2+1:=⟨M -1,l7⟩;show lM f (M2+1) (arr n (λj=>if j=a then true else g j),-1)=_;unfold lM;rw[hend];show some _=some _;refine congrArg some (JV λj _=>?_);rw[QP,hp,sW]
   |some p=>
    have hlt:=a0x hp;show lM f M (arr n (λj=>if j=a then true else g j),(p:Int))=_;rw[ih p hlt _ M l7 l7 (λj hj hf q hq=>by
     have:=a0x hq;have hf:g j=true:=by rwa[if_neg l7]at hf
     show(if q=a then true else g q)=true;rw[if_neg l7];exact hc j l7 hf q hq)]
    refine congrArg some (JV λj _=>?_);rw[QP (a:=a),hp];rfl
  .rw[E5,o6];show some _=some _;refine congrArg some (JV λj _=>?_);unfold Tj;cases hj:Yh s a j
   .rw[sW]
   .rw[b8q a hc hg j (Jg.1 hj)];rfl
theorem d5k{f:d5V×Int->Option ((d5V×Int)⊕d5V)}
  (hin:∀(g:Nat->Bool) (a:Nat),a<n->f (arr n g,(a:Int))=match upP s a with|some p=>some (.inl (arr n (λj=>if j=p then true else g j),(p:Int)))|none=>some (.inr (arr n g))):
  ∀(a:Nat) (g:Nat->Bool) (N:Nat),a<n->a+1<=N->g a=true->lM f N (arr n g,(a:Int))=some (arr n (Tj s g a)):=by
 intro a;induction a using Nat.strongRecOn with
 |ind a ih=>
  intro g N ha hN hg;obtain⟨M,rfl⟩:∃M,N=M+1:=⟨N -1,l7⟩;unfold lM;rw[hin g a ha];have hgg:∀j,(if j=a then true else g j)=g j:=λj=>by
   by_cases e:j=a
   .subst e;rw[if_pos rfl,hg]
   .rw[if_neg e]
  cases hp:upP s a with
  |none=>show some _=some _;refine congrArg some (JV λj _=>?_);rw[QP,hp,hgg,sW]|some p=>
   have hlt:=a0x hp;show lM f M (arr n (λj=>if j=p then true else g j),(p:Int))=_;rw[ih p hlt _ M l7 l7 (by rw[if_pos rfl])];refine congrArg some (JV λj _=>?_);rw[QP (a:=a),hp,hgg];unfold Tj;show((if j=p then true else g j) || Yh s p j)=(g j || Yh s p j);by_cases e:j=p
   .subst e;rw[Jg.2 (a0y s j)];simp
   .rw[if_neg e]
abbrev nR(s:A7):Nat:=s.2.2.2.2.length
def inN(n:Nat)(r:Int):Bool:=decide (0<=r)&&decide (r<(n:Int))
def qi(s:A7)(ks:d5R)(j:Nat):Bool:=ks.any λr=>inN (nR s) r&&Yh s r.toNat j
def a1T(s:A7)(ks:d5R)(j:Nat):Bool:=ks.any λr=>inN (nR s) r&&decide (r.toNat=j)
abbrev KB:=(Nat->Bool)×(Nat->Bool)
def kG(s:A7)(b:KB)(r:Int):KB:=if inN (nR s) r=true then(Tj s b.1 r.toNat,λj=>if j=r.toNat then true else b.2 j)else b
theorem a9O(s:A7):∀(ks:d5R) (b:KB),((ks.foldl (kG s) b).1=λj=>b.1 j || qi s ks j)/\((ks.foldl (kG s) b).2=λj=>b.2 j || a1T s ks j)
 |[],b=>by simp[qi,a1T]|r::ks,b=>by
  obtain⟨h1,h2⟩:=a9O s ks (kG s b r);rw[O9,h1,h2];unfold kG qi a1T;cases hr:inN (nR s) r
  .rw[if_neg x9];refine⟨?_,?_⟩<;>funext j<;>simp[hr]
  .rw[if_pos rfl];refine⟨?_,?_⟩<;>funext j
   .simp only[jT,hr,fE];unfold Tj;rw[Bool.or_assoc]
   .simp only[jT,hr,fE];by_cases e:j=r.toNat
    .subst e;simp
    .rw[if_neg e];have:decide (r.toNat=j)=false:=decide_eq_false λh=>e h.symm;rw[this];simp
theorem a4T(h:n<=1000000):n<=iL:=by unfold iL;omega
variable {ks:d5R}
theorem a2X(hn:nR s<=1000)(hk:ks.length<=1000):xX s ks=some (arr (nR s) (qi s ks),arr (nR s) (a1T s ks)):=by
 unfold xX;have hL:o9 s.2.2.2.2=(nR s:Int):=rfl;rw[show pR (o9 s.2.2.2.2) false=some (arr (nR s) λ_=>false) by rw[hL,Di l7 l7,←a2F,E8]];simp only[o8];refine dD ks (kG s) (λ(b:KB) i=>(arr (nR s) b.1,arr (nR s) b.2,i)) (λb=>(arr (nR s) b.1,arr (nR s) b.2)) (λ_ b=>Clo s b.1 (nR s)) (λ_=>false,λ_=>false) l7 (λj _ h=>by cases h) (λi r b hr hi hc=>?_) (λb hb=>?_) (λhb=>?_)
 .have hci:Clo s (kG s b r).1 (nR s):=by
   unfold kG;split
   .exact b4A hc _
   .exact hc
  refine⟨?_,hci⟩;simp only[J3 hr,o7,F8,hr,o8];unfold kG inN;by_cases h1:r<0
  .rw[U6 h1,o7,if_neg Y8,Y3 l7]
  .rw[N7 l7,o6];by_cases h2:(nR s:Int)<=r
   .rw[show L6 (o9 s.2.2.2.2) r=true from Y5 h2,o7,if_neg Y8,Y3 l7]
   .rw[show L6 (o9 s.2.2.2.2) r=false from Y9 (by have hL:o9 s.2.2.2.2=(nR s:Int):=rfl;rw[hL];omega),o6,if_pos Y8];obtain⟨a,ha⟩:∃a:Nat,r=(a:Int):=⟨r.toNat,l7⟩;subst ha;have hlt:a<nR s:=l7;rw[MX hlt,o8,AY hlt,o8];refine X8 (d5j (s:=s) (n:=nR s) (λg a ha=>?_) (λg=>?_) a b.1 iL hlt (a4T l7) (λj hj=>hc j l7)) ?_
    .simp only[Y5 (show(0:Int)<=(a:Int) by omega),o7,MX ha,o8,AY ha];cases g a
     .rw[XG ha,o8,TU]
     .rfl
    .rfl
    .rw[o8,TU,Y3 l7,E8]
 .simp only[I9,o6]
 .obtain⟨h1,h2⟩:=a9O s ks (λ_=>false,λ_=>false);rw[h1,h2];simp only[jR]
theorem b3D(hk:ks.length<=1000)(k:Int):MM ks k=some (ks.any λr=>x8 r k):=by
 unfold MM;refine X8 (xw ks (λr=>x8 r k) true PUnit.unit l7 (λi a ha=>?_) ?_) ?_
 .simp only[J3 ha,o7,F8,ha,o8];cases x8 a k<;>rfl
 .rw[I9];rfl
 .cases ks.any λr=>x8 r k<;>rfl
def rkG(s:A7)(ks:d5R)(b:Nat->Bool)(i:Nat):Nat->Bool:=if(ks.any λr=>x8 r (i:Int))=true then Tj s b i else b
theorem a5Y(s:A7)(ks:d5R):∀(l:d5S) (b:Nat->Bool),l.foldl (rkG s ks) b=λj=>b j || l.any λi=>(ks.any λr=>x8 r (i:Int))&&Yh s i j
 |[],b=>by simp|i::l,b=>by
  rw[O9,a5Y s ks l];funext j;unfold rkG;rw[jT];cases hr:ks.any λr=>x8 r (i:Int)
  .rw[if_neg x9];simp
  .rw[if_pos rfl];unfold Tj;rw[fE,Bool.or_assoc]
theorem b1W(s:A7)(ks:d5R)(j:Nat):((List.range (nR s)).any λi=>(ks.any λr=>x8 r (i:Int))&&Yh s i j)=qi s ks j:=by
 rw[fO];unfold qi inN;simp only[aP,U5,A8,decide_eq_true_eq];constructor
 .rintro⟨i,hi,⟨r,hr,he⟩,hu⟩;have:=P7.1 he;subst this;exact⟨_,hr,⟨l7,l7⟩,by rw[E8];exact hu⟩
 .rintro⟨r,hr,⟨h0,h1⟩,hu⟩;exact⟨r.toNat,l7,⟨r,hr,P7.2 l7⟩,hu⟩
theorem a5Z(hn:nR s<=1000)(hk:ks.length<=1000):JA s ks=some (arr (nR s) (qi s ks)):=by
 unfold JA;have hL:o9 s.2.2.2.2=(nR s:Int):=rfl;rw[show pR (o9 s.2.2.2.2) false=some (arr (nR s) λ_=>false) by rw[hL,Di l7 l7,←a2F,E8],o8];have hll:(List.range (nR s)).length=nR s:=bn;refine dD (List.range (nR s)) (rkG s ks) (λ(b:Nat->Bool) i=>(arr (nR s) b,i)) (λb=>arr (nR s) b) (λ_ _=>True) (λ_=>false) l7 trivial (λi a b ha hi _=>⟨?_,trivial⟩) (λb hb=>?_) (λhb=>?_)
 .have hlt:i<nR s:=by have:=(X7.1 ha).1;omega
  have ea:a=i:=by rw[bZ hlt]at ha;exact(P5 ha).symm
  subst ea;have hl2:D9 (a:Int) (o9 s.2.2.2.2)=true:=U6 (by rw[hL];omega);simp only[hl2,o7,b3D hk,o8];unfold rkG;cases hr:ks.any λr=>x8 r (a:Int)
  .rw[bg,o7,if_neg x9,Y3 l7]
  .rw[E5,o6,if_pos rfl,MX hlt,o8,AY hlt,o8,TU];refine X8 (d5k (s:=s) (n:=nR s) (λg a ha=>?_) a _ iL hlt (a4T l7) (by rw[if_pos rfl])) ?_
   .have e:=bQ ha;have hp:eQ s a=s.2.2.2.2[a].2.2.1:=by unfold eQ;rw[e]
    simp only[F8,e,o8];rw[←hp];unfold upP;by_cases h1:0<=eQ s a
    .rw[Y5 h1,o7];by_cases h2:eQ s a<(a:Int)
     .rw[U6 h2,o7,if_pos ⟨h1,h2⟩];obtain⟨p,hpp⟩:∃p:Nat,eQ s a=(p:Int):=⟨(eQ s a).toNat,l7⟩;rw[hpp,MX l7,o8,AY l7,o8,TU,E8]
     .rw[N7 l7,o6,if_neg l7]
    .rw[Y9 l7,o6,if_neg l7]
   .rw[o8,Y3 l7];have:arr (nR s) (Tj s (λj=>if j=a then true else b j) a)=arr (nR s) (Tj s b a):=JV λj _=>by
     unfold Tj;by_cases e:j=a
     .subst e;rw[Jg.2 (a0y s j)];simp
     .show((if j=a then true else b j) || _)=_;rw[if_neg e]
    rw[this]
 .rw[hll];have hl2:D9 (nR s:Int) (o9 s.2.2.2.2)=false:=N7 (by rw[hL];omega);simp only[hl2,o6]
 .rw[a5Y];simp only[jR];have:(λj=>(List.range (nR s)).any λi=>(ks.any λr=>x8 r (i:Int))&&Yh s i j)=qi s ks:=funext λj=>b1W s ks j;rw[this]
def a5t(f:Nat->Bool)(i:Nat):Int:=if f i=true then(lI f i:Int)else -1
abbrev NB:=(Nat->Int)×Int
def nG(f:Nat->Bool)(b:NB)(i:Nat):NB:=if f i=true then(λj=>if j=i then b.2 else b.1 j,b.2+1)else(λj=>if j=i then -1 else b.1 j,b.2)
theorem a4y(f:Nat->Bool)(i:Nat):lI f i<=i:=by unfold lI;have:=aI f (List.range i);simpa using this
theorem a0T(hn:n<=1000)(f:Nat->Bool):wY (arr n f)=some (arr n (a5t f)):=by
 unfold wY;rw[a4o];rw[show pR (n:Int) (0:Int)=some (arr n λ_=>(0:Int)) by rw[Di l7 l7,←a2F];rw[E8],o8];have hll:(List.range n).length=n:=bn;refine dD (List.range n) (nG f) (λ(b:NB) i=>(arr n b.1,b.2,i)) (λb=>arr n b.1) (λi b=>b.2=(lI f i:Int)/\∀j,j<i->b.1 j=a5t f j) (λ_=>0,0) l7 ⟨rfl,λj h=>by omega⟩ (λi a b ha hi hb=>?_) (λb hb=>?_) (λhb=>?_)
 .have hlt:i<n:=by have:=(X7.1 ha).1;omega
  have ea:a=i:=by rw[bZ hlt]at ha;exact(P5 ha).symm
  subst ea;have hl2:D9 (a:Int) (n:Int)=true:=U6 l7;have hc:=a4y f a;simp only[hl2,o7,MX hlt,o8,AY hlt,TU];obtain⟨hb1,hb2⟩:=hb;unfold nG;cases hf:f a
  .rw[o6,if_neg x9];refine⟨by rw[Y3 l7],?_,λj hj=>?_⟩
   .rw[hb1,IZ,hf];simp
   .show(if j=a then -1 else b.1 j)=_;by_cases e:j=a
    .subst e;unfold a5t;rw[if_pos rfl,hf];rfl
    .rw[if_neg e];exact hb2 j l7
  .rw[o7,if_pos rfl];have e1:arr n (λj=>if j=a then b.2 else if j=a then -1 else b.1 j)=arr n (λj=>if j=a then b.2 else b.1 j):=JV λj _=>by
    by_cases e:j=a
    .rw[if_pos e,if_pos e]
    .rw[if_neg e,if_neg e,if_neg e]
   refine⟨by rw[e1,Y3 l7,hb1,Y3 l7];rfl,?_,λj hj=>?_⟩
   .show b.2+1=_;rw[hb1,IZ,hf];simp
   .show(if j=a then b.2 else b.1 j)=_;by_cases e:j=a
    .subst e;unfold a5t;rw[if_pos rfl,hf,hb1];rfl
    .rw[if_neg e];exact hb2 j l7
 .rw[hll];have hl2:D9 (n:Int) (n:Int)=false:=N7 l7;simp only[hl2,o6]
 .rw[hll]at hb;rw[JV λj hj=>hb.2 j hj]
def a7C(s:A7)(ks:d5R)(k:Int):Int:=if 0<=k/\k<(nR s:Int)then a5t (qi s ks) k.toNat else -1
theorem a3z(hn:nR s<=1000)(hk:ks.length<=1000)(k:Int):tY s ks k=some (a7C s ks k):=by
 unfold tY a7C;rw[a5Z hn hk,o8,a4o];by_cases h1:k<0
 .rw[U6 h1,o7,if_neg l7]
 .rw[N7 l7,o6];by_cases h2:(nR s:Int)<=k
  .rw[Y5 h2,o7,if_neg l7]
  .rw[Y9 l7,o6,if_pos l7];obtain⟨a,rfl⟩:∃a:Nat,k=(a:Int):=⟨k.toNat,l7⟩;have ha:a<nR s:=l7;rw[MX ha,o8,AY ha,o8,E8];unfold a5t;cases hf:qi s ks a
   .rfl
   .rw[E5,o6,if_pos rfl];have hll:(List.range a).length=a:=bn;refine dD (List.range a) (λ(b:Int) i=>if qi s ks i=true then b+1 else b) (λ(b:Int) i=>(b,i)) (λb=>b) (λi b=>b=(lI (qi s ks) i:Int)) 0 l7 rfl (λi x b hx hi hb=>?_) (λb hb=>?_) (λhb=>?_)
    .have hlt:i<a:=by have:=(X7.1 hx).1;omega
     have ea:x=i:=by rw[bZ hlt]at hx;exact(P5 hx).symm
     subst ea;have hl2:D9 (x:Int) (a:Int)=true:=U6 l7;have hc:=a4y (qi s ks) x;simp only[hl2,o7,MX (show x<nR s by omega),o8,AY (show x<nR s by omega)];cases hf:qi s ks x
     .rw[o6,if_neg x9,Y3 l7];exact⟨rfl,by rw[hb,IZ,hf];simp⟩
     .rw[o7,if_pos rfl,hb,Y3 l7,Y3 l7];exact⟨rfl,by rw[IZ,hf];simp⟩
    .rw[hll];have hl2:D9 (a:Int) (a:Int)=false:=N7 l7;simp only[hl2,o6]
    .rw[hll]at hb;rw[hb]
structure LenL (l:U9):Prop where
 e:l.1.length<=1000000/\∀e∈l.1,e.2.length<=1000000
 t:l.2.1.length<=1000000/\∀t∈l.2.1,t.2.2.2.length<=1000000
 s:l.2.2.length<=1000000/\∀s∈l.2.2,s.2.2.1.length<=1000000/\s.2.2.2.1.length<=1000000/\s.2.2.2.2.length<=1000000/\∀r∈s.2.2.2.2,r.2.2.2.2.2.1.length<=1000000/\r.2.2.2.2.2.2.1.length<=1000000
theorem Jf(a:Int):x8 a a=true:=O5 rfl
theorem Je{α:Type} :∀(l p:List α),l.foldl (λb a=>b++[a]) p=p++l
 |[],p=>by simp|a::l,p=>by rw[O9,Je l];simp
theorem LJ{l:List α}(h:l.length<=1000000):qC l=some l:=by unfold qC;rw[uq Y8,G8]
theorem a0J{a:List jw}(h:a.length<=1000000)(h2:∀e∈a,e.2.length<=1000000):Ec a=some a:=by
 unfold Ec;refine dD a (λ(b:List jw) x=>b++[x]) (λb i=>(b,i)) (λb=>b) (λi b=>b.length=i) [] h rfl (λi x b hx hi hb=>⟨?_,by simp[hb]⟩) (λb hb=>?_) (λhb=>?_)
 .simp only[J3 hx,o7,F8,hx,o8];rw[LJ (h2 x (kK hx)),o8,fK _ l7,o8,Y3 l7]
 .simp only[I9,o6]
 .rw[Je,G8]
theorem Zj{a:List fZ}(h:a.length<=1000000)(h2:∀e∈a,e.2.2.2.length<=1000000):BM a=some a:=by
 unfold BM;refine dD a (λ(b:List fZ) x=>b++[x]) (λb i=>(b,i)) (λb=>b) (λi b=>b.length=i) [] h rfl (λi x b hx hi hb=>⟨?_,by simp[hb]⟩) (λb hb=>?_) (λhb=>?_)
 .simp only[J3 hx,o7,F8,hx,o8];rw[LJ (h2 x (kK hx)),o8,fK _ l7,o8,Y3 l7]
 .simp only[I9,o6]
 .rw[Je,G8]
theorem b0T(h:LenL l):QI l=some l:=by
 unfold QI;rw[a0J h.e.1 h.e.2,o8,Zj h.t.1 h.t.2,o8];refine dD l.2.2 (λ(b:List A7) x=>b++[x]) (λb i=>((l.1,l.2.1,b),i)) (λb=>(l.1,l.2.1,b)) (λi b=>b.length=i) [] h.s.1 rfl (λi x b hx hi hb=>⟨?_,by simp[hb]⟩) (λb hb=>?_) (λhb=>?_)
 .obtain⟨g1,g2,g3,g4⟩:=h.s.2 x (kK hx);simp only[J3 hx,o7,F8,hx,o8];rw[LJ g1,o8,LJ g2,o8];refine dD x.2.2.2.2 (λ(b:List aj) x=>b++[x]) (λb i=>((x.1,x.2.1,x.2.2.1,x.2.2.2.1,b),i)) (λb=>(x.1,x.2.1,x.2.2.1,x.2.2.2.1,b)) (λi b=>b.length=i) [] g3 rfl (λi y b hy hi hb=>⟨?_,by simp[hb]⟩) (λb hb=>?_) (λhb=>?_)
  .obtain⟨k1,k2⟩:=g4 y (kK hy);simp only[J3 hy,o7,F8,hy,o8];rw[LJ k1,o8,LJ k2,o8,fK _ l7,o8,Y3 l7]
  .simp only[I9,o6]
  .rw[Je,G8,fK _ l7,o8,Y3 l7]
 .simp only[I9,o6]
 .rw[Je,G8]
def a4B(r:aj):Int:=r.2.1
def Uo(d:jm):Int:=d.2.1
def NJ(s:A7):Int:=s.2.1
structure RedOk (s:A7):Prop where
 par:∀(i:Nat),i<nR s->eQ s i<(i:Int)
 df:∀(i:Nat) (r:aj),s.2.2.2.2[i]? =some r->∃d,G6 s.2.2.2.1 (a4B r)=some d/\1<=Uo d/\Uo d<=6
def Wh(t:Int×Int):Int×Int:=l9 (x8 t.1 6) (6,C9 .i64 (az .i64 16 t.2) 0) (t.1,0)
def a0t(s:A7)(d:Int):Int×Int:=match G6 s.2.2.2.1 d with|some d=>d.2|none=>(0,0)
def Yg(ks:d5R)(i:Nat):Bool:=ks.any λr=>x8 r (i:Int)
def rP(s:A7)(ks:d5R)(p:Int):Int:=if 0<=p then a7C s ks p else p
def rK(s:A7)(ks:d5R)(i:Nat):aj:=match s.2.2.2.2[i]? with
 |some r=>if Yg ks i=true then(r.1,r.2.1,rP s ks (eQ s i),r.2.2.2)else(r.1,r.2.1,rP s ks (eQ s i),r.2.2.2.1,r.2.2.2.2.1,[(1,0)],[Wh (a0t s r.2.1)],r.2.2.2.2.2.2.2)|none=>([],0,0,0,(0,0),[],[],[])
def Tz(s:A7)(ks:d5R):List aj:=(onL (qi s ks) (nR s)).map (rK s ks)
theorem b5y(s:A7)(ks:d5R):(Tz s ks).length<=nR s:=by unfold Tz;rw[L9];exact Ej _ _
def dkG(s:A7)(ks:d5R)(b:List aj)(i:Nat):List aj:=if qi s ks i=true then b++[rK s ks i]else b
theorem Zp(s:A7)(ks:d5R):∀n,(List.range n).foldl (dkG s ks) []=(onL (qi s ks) n).map (rK s ks)
 |0=>rfl|n+1=>by
  rw[W9,Y0,Zp s ks n,Jo,dC];show dkG s ks _ n=_;unfold dkG;cases qi s ks n
  .simp
  .simp
theorem b3R(h:i<nR s):a1T s ks i=Yg ks i:=by
 rw[fO];unfold a1T Yg inN;simp only[aP,A8,decide_eq_true_eq];constructor
 .rintro⟨r,hr,⟨h0,h1⟩,h2⟩;exact⟨r,hr,P7.2 l7⟩
 .rintro⟨r,hr,h2⟩;have:=P7.1 h2;exact⟨r,hr,⟨l7,l7⟩,l7⟩
theorem b3K{l:List α}{i:Int}{x:α}(h:G6 l i=some x):0<=i/\i<o9 l:=by
 unfold G6 at h;by_cases e:0<=i
 .rw[if_pos e]at h;have:=(X7.1 h).1;exact⟨e,by unfold o9;omega⟩
 .rw[if_neg e]at h;cases h
theorem c1w(h:RedOk s)(hr:s.2.2.2.2[i]? =some r):yw s r.2.1=some [Wh (a0t s r.2.1)]:=by obtain⟨d,h1,h2,h3⟩:=h.df i r hr;obtain⟨hge,hlt⟩:=b3K h1;show yw s (a4B r)=some [Wh (a0t s (a4B r))];generalize a4B r=q at*;unfold yw a0t Wh TM;rw[N7 hge,o6,Y9 hlt,o6,o8,U0,h1];simp only[o8];have hc:Uo d=1\/Uo d=2\/Uo d=3\/Uo d=4\/Uo d=5\/Uo d=6:=l7;unfold Uo at hc;rcases hc with e|e|e|e|e|e<;>rw[e]<;>rfl
theorem b9d(h:RedOk s)(hr:s.2.2.2.2[i]? =some r):∃d,G6 s.2.2.2.1 r.2.1=some d/\Gv d.2=some (Wh (a0t s r.2.1)):=by obtain⟨d,h1,h2,h3⟩:=h.df i r hr;refine⟨d,h1,?_⟩;show _=some (Wh (a0t s (a4B r)));unfold Gv TB Wh a0t;rw[h1,o8];simp only;cases x8 d.2.1 6<;>rfl
theorem c5T(h:RedOk s)(hi:i<nR s):(0<=eQ s i/\upI s i=eQ s i/\∃p:Nat,eQ s i=(p:Int)/\p<i)\/(eQ s i<0/\upI s i=-1):=by
 have hp:=h.par i hi;unfold upI upP;by_cases h0:0<=eQ s i
 .rw[if_pos ⟨h0,hp⟩];exact .inl ⟨h0,by show(((eQ s i).toNat:Nat):Int)=_;omega,(eQ s i).toNat,l7,l7⟩
 .rw[if_neg l7];exact .inr ⟨l7,rfl⟩
theorem a2l(hn:nR s<=1000)(hk:ks.length<=1000)(h:RedOk s):Em s ks=some (Tz s ks):=by
 unfold Em;rw[a2X hn hk,o8,a0T hn,o8];have hll:(List.range (nR s)).length=nR s:=bn;refine dD (List.range (nR s)) (dkG s ks) (λb i=>(b,i)) (λb=>b) (λi b=>b.length<=i) [] l7 (E9 _) (λi x b hx hi hb=>?_) (λb hb=>?_) (λhb=>?_)
 .have hlt:i<nR s:=by have:=(X7.1 hx).1;omega
  have ea:x=i:=by rw[bZ hlt]at hx;exact(P5 hx).symm
  subst ea;have hr:s.2.2.2.2[x]? =some s.2.2.2.2[x]:=bQ hlt;have hl2:D9 (x:Int) (o9 s.2.2.2.2)=true:=U6 (by show _<((nR s:Nat):Int);omega);refine⟨?_,?_⟩
  rotate_left
  .unfold dkG;split
   .rw[F5];show _+1<=_;omega
   .omega
  simp only[hl2,o7,F8,hr,o8,MW hlt,AY hlt];unfold dkG;cases hf:qi s ks x
  .rw[bg,o7,if_neg x9,Y3 l7]
  .rw[E5,o6,if_pos rfl,XG hlt,o8];have hrk:rK s ks x=if Yg ks x=true then((s.2.2.2.2[x]).1,(s.2.2.2.2[x]).2.1,rP s ks (eQ s x),(s.2.2.2.2[x]).2.2.2)else((s.2.2.2.2[x]).1,(s.2.2.2.2[x]).2.1,rP s ks (eQ s x),(s.2.2.2.2[x]).2.2.2.1,(s.2.2.2.2[x]).2.2.2.2.1,[(1,0)],[Wh (a0t s (s.2.2.2.2[x]).2.1)],(s.2.2.2.2[x]).2.2.2.2.2.2.2):=by unfold rK;rw[hr]
   rw[b3R hlt,c1w h hr,hrk];have hpe:eQ s x=(s.2.2.2.2[x]).2.2.1:=by unfold eQ;rw[hr]
   generalize hrr:s.2.2.2.2[x]=r at*;have hpp:rP s ks (eQ s x)=if 0<=eQ s x then a7C s ks (eQ s x)else eQ s x:=rfl;rcases c5T h hlt with⟨h0,h1,p,h2,h3⟩|⟨h0,h1⟩
   .rw[h1,Y5 h0,o7];have hnew:a7C s ks (eQ s x)=a5t (qi s ks) p:=by
     unfold a7C;rw[if_pos ⟨h0,l7⟩,h2,E8]
    rw[if_pos h0,hnew]at hpp;have hpn:p<nR s:=l7;rw[hpp,h2];simp only[F8,MW hpn,AY hpn,o8];cases Yg ks x
    .rw[bg,o7,if_neg x9];rw[fK _ l7,o8,Y3 l7]
    .rw[E5,o6,if_pos rfl,fK _ l7,o8,Y3 l7]
   .rw[h1,Y9 l7,o6];rw[if_neg l7]at hpp;rw[hpp,hpe];cases Yg ks x
    .rw[bg,o7,if_neg x9];simp only[o8];rw[fK _ l7,o8,Y3 l7]
    .rw[E5,o6,if_pos rfl,fK _ l7,o8,Y3 l7]
 .rw[hll];have hl2:D9 (nR s:Int) (o9 s.2.2.2.2)=false:=N7 (by show((nR s:Nat):Int)<=_;omega);simp only[hl2,o6]
 .rw[Zp];rfl
theorem W_(hn:nR s<=1000)(hk:ks.length<=1000)(h:RedOk s):EF s ks=some (s.1,s.2.1,s.2.2.1,s.2.2.2.1,Tz s ks):=by
 unfold EF;rw[a5Z hn hk,o8];have hll:(List.range (nR s)).length=nR s:=bn;refine dD (List.range (nR s)) (dkG s ks) (λb i=>((s.1,s.2.1,s.2.2.1,s.2.2.2.1,b),i)) (λb=>(s.1,s.2.1,s.2.2.1,s.2.2.2.1,b)) (λi b=>b.length<=i) [] l7 (E9 _) (λi x b hx hi hb=>?_) (λb hb=>?_) (λhb=>?_)
 .have hlt:i<nR s:=by have:=(X7.1 hx).1;omega
  have ea:x=i:=by rw[bZ hlt]at hx;exact(P5 hx).symm
  subst ea;have hr:s.2.2.2.2[x]? =some s.2.2.2.2[x]:=bQ hlt;have hl2:D9 (x:Int) (o9 s.2.2.2.2)=true:=U6 (by show _<((nR s:Nat):Int);omega);refine⟨?_,?_⟩
  rotate_left
  .unfold dkG;split
   .rw[F5];show _+1<=_;omega
   .omega
  simp only[hl2,o7,F8,hr,o8,MW hlt,AY hlt];unfold dkG;cases hf:qi s ks x
  .rw[bg,o7,if_neg x9,Y3 l7]
  .rw[E5,o6,if_pos rfl];have hrk:rK s ks x=if Yg ks x=true then((s.2.2.2.2[x]).1,(s.2.2.2.2[x]).2.1,rP s ks (eQ s x),(s.2.2.2.2[x]).2.2.2)else((s.2.2.2.2[x]).1,(s.2.2.2.2[x]).2.1,rP s ks (eQ s x),(s.2.2.2.2[x]).2.2.2.1,(s.2.2.2.2[x]).2.2.2.2.1,[(1,0)],[Wh (a0t s (s.2.2.2.2[x]).2.1)],(s.2.2.2.2[x]).2.2.2.2.2.2.2):=by unfold rK;rw[hr]
   obtain⟨d,hd1,hd2⟩:=b9d h hr;rw[hrk];have hpe:eQ s x=(s.2.2.2.2[x]).2.2.1:=by unfold eQ;rw[hr]
   generalize hrr:s.2.2.2.2[x]=r at*;have hq:o5 (l9 (L6 0 r.2.2.1) (o5 (tY s ks r.2.2.1) λ(x_3:Int)=>some (r.1,r.2.1,x_3,r.2.2.2)) (some r)) (λx=>some x)=some ((r.1,r.2.1,rP s ks (eQ s x),r.2.2.2):aj):=by
    rw[←hpe];unfold rP;by_cases h0:0<=eQ s x
    .rw[Y5 h0,o7,a3z hn hk,o8,o8,if_pos h0]
    .rw[Y9 l7,o6,o8,if_neg h0,hpe]
   have hq2:l9 (L6 0 r.2.2.1) (o5 (tY s ks r.2.2.1) λ(x_3:Int)=>some (r.1,r.2.1,x_3,r.2.2.2)) (some r)=some ((r.1,r.2.1,rP s ks (eQ s x),r.2.2.2):aj):=by
    revert hq;cases l9 (L6 0 r.2.2.1) (o5 (tY s ks r.2.2.1) λ(x_3:Int)=>some (r.1,r.2.1,x_3,r.2.2.2)) (some r)with
    |none=>intro h;cases h|some z=>intro h;exact h
   refine X8 hq2 ?_;rw[o8];rw[b3D hk,o8];show l9 (F7 (Yg ks x)) _ _=_;cases Yg ks x
   .rw[bg,o7,if_neg x9];simp only;rw[hd1,o8,hd2,o8,fK _ l7,o8,Y3 l7]
   .rw[E5,o6,if_pos rfl,fK _ l7,o8,Y3 l7]
 .rw[hll];have hl2:D9 (nR s:Int) (o9 s.2.2.2.2)=false:=N7 (by show((nR s:Nat):Int)<=_;omega);simp only[hl2,o6]
 .rw[Zp];rfl
def sK(ks:d5R)(s:A7):A7:=(s.1,s.2.1,s.2.2.1,s.2.2.2.1,Tz s ks)
def PD(l:U9)(k:Int)(own mem:d5R):U9:=
 if 0<=k/\k<o9 l.2.2 then(match l.2.2[k.toNat]? with
  |some s=>(l.1,l.2.1,if 0<=NJ s/\NJ s<o9 l.2.2 then(match l.2.2[(NJ s).toNat]? with|some t=>(l.2.2.set k.toNat (sK own s)).set (NJ s).toNat (sK mem t)|none=>l.2.2.set k.toNat (sK own s))else l.2.2.set k.toNat (sK own s))
  |none=>l)else l
structure KeepOk (l:U9):Prop where
 len:LenL l
 nr:∀s∈l.2.2,nR s<=1000
 red:∀s∈l.2.2,RedOk s
 mem:∀(i:Nat) (s:A7),l.2.2[i]? =some s->NJ s<(i:Int)
theorem b8z(h:KeepOk l)(k:Int){own mem:d5R}(ho:own.length<=1000)(hm:mem.length<=1000):uN l k own mem=some (PD l k own mem):=by
 unfold uN PD;rw[b0T h.len,o8];by_cases h1:k<0
 .rw[U6 h1,o7,o8,uj,if_neg l7]
 rw[N7 l7,o6];by_cases h2:o9 l.2.2<=k
 .rw[Y5 h2,o7,o8,uj,if_neg l7]
 rw[Y9 l7,o6,o8,U0,if_pos l7];obtain⟨a,rfl⟩:∃a:Nat,k=(a:Int):=⟨k.toNat,l7⟩;have ha:a<l.2.2.length:=by unfold o9 at h2;omega
 have hs:l.2.2[a]? =some l.2.2[a]:=bQ ha;have hmem:l.2.2[a]∈l.2.2:=I4 ha;have hlt:=h.mem a _ hs;have hn:=h.nr _ hmem;have hrd:=h.red _ hmem;rw[E8,F8,hs];generalize l.2.2[a]=s at*;have hg:∀{α:Type} (L:List α) (i:Nat),V4 L (V8 (i:Int))=L[i]?:=λL i=>by show L[((i:Int)).toNat]? =_;rw[E8]
 have hst:∀{α:Type} (L:List α) (i:Nat) (x:α),aU L (V8 (i:Int)) x=L.set i x:=λL i x=>by show L.set ((i:Int)).toNat x=_;rw[E8]
 simp only[o8,hg,hs,a2l hn ho hrd,hst,F8];have hset:(l.2.2.set a (s.1,s.2.1,s.2.2.1,s.2.2.2.1,Tz s own))[a]? =some (sK own s):=by rw[iJ ha];rfl
 rw[hset,o8,o8];show l9 (L6 0 (NJ s)) _ _=_;by_cases h3:0<=NJ s
 .rw[Y5 h3,o7];have h4:NJ s<o9 (l.2.2.set a (s.1,s.2.1,s.2.2.1,s.2.2.2.1,Tz s own)):=by unfold o9;rw[jU];omega
  have h5:NJ s<o9 l.2.2:=by unfold o9;omega
  rw[show D9 (sK own s).2.1 (o9 (l.2.2.set a (s.1,s.2.1,s.2.2.1,s.2.2.2.1,Tz s own)))=true from U6 h4,o7,if_pos ⟨h3,h5⟩];rw[show x8 (sK own s).2.1 (a:Int)=false from O8 (show NJ s≠(a:Int) by omega),bg,o7];obtain⟨b,hb⟩:∃b:Nat,NJ s=(b:Int):=⟨(NJ s).toNat,l7⟩;have hbn:b<l.2.2.length:=l7;have ht:l.2.2[b]? =some l.2.2[b]:=bQ hbn;have htm:l.2.2[b]∈l.2.2:=I4 hbn;have htn:=h.nr _ htm;have htr:=h.red _ htm;have hset2:(l.2.2.set a (s.1,s.2.1,s.2.2.1,s.2.2.2.1,Tz s own))[b]? =some l.2.2[b]:=by rw[kS l7];exact ht
  rw[show(sK own s).2.1=(b:Int)from hb];simp only[F8,hset2,o8,hg,a2l htn hm htr,hst];rw[hb,E8,ht];rfl
 .rw[Y9 l7,o6,if_neg l7];rfl
theorem b5H(h:KeepOk l)(k:Int){own mem:d5R}(ho:own.length<=1000)(hm:mem.length<=1000):Cb l k own mem=some (PD l k own mem):=by
 unfold Cb PD;by_cases h1:k<0
 .rw[U6 h1,o7,o8,uj,if_neg l7]
 rw[N7 l7,o6];by_cases h2:o9 l.2.2<=k
 .rw[Y5 h2,o7,o8,uj,if_neg l7]
 rw[Y9 l7,o6,o8,U0,if_pos l7];obtain⟨a,rfl⟩:∃a:Nat,k=(a:Int):=⟨k.toNat,l7⟩;have ha:a<l.2.2.length:=by unfold o9 at h2;omega
 have hs:l.2.2[a]? =some l.2.2[a]:=bQ ha;have hmem:l.2.2[a]∈l.2.2:=I4 ha;have hlt:=h.mem a _ hs;have hn:=h.nr _ hmem;have hrd:=h.red _ hmem;have hll:=h.len.s.1;rw[uq Y8,G8,o8];rw[E8,F8,hs];generalize l.2.2[a]=s at*;have hg:∀{α:Type} (L:List α) (i:Nat),V4 L (V8 (i:Int))=L[i]?:=λL i=>by show L[((i:Int)).toNat]? =_;rw[E8]
 have hst:∀{α:Type} (L:List α) (i:Nat) (x:α),aU L (V8 (i:Int)) x=L.set i x:=λL i x=>by show L.set ((i:Int)).toNat x=_;rw[E8]
 simp only[o8,hg,hs,W_ hn ho hrd,hst,F8];show l9 (L6 0 (NJ s)) _ _=_;by_cases h3:0<=NJ s
 .have h5:NJ s<o9 l.2.2:=by unfold o9;omega
  rw[Y5 h3,o7,show D9 s.2.1 (o9 l.2.2)=true from U6 h5,o7,if_pos ⟨h3,h5⟩];obtain⟨b,hb⟩:∃b:Nat,NJ s=(b:Int):=⟨(NJ s).toNat,l7⟩;have hbn:b<l.2.2.length:=l7;have ht:l.2.2[b]? =some l.2.2[b]:=bQ hbn;have htm:l.2.2[b]∈l.2.2:=I4 hbn;have htn:=h.nr _ htm;have htr:=h.red _ htm;have hset2:(l.2.2.set a (sK own s))[b]? =some l.2.2[b]:=by rw[kS l7];exact ht
  rw[show((s.1,s.2.1,s.2.2.1,s.2.2.2.1,Tz s own):A7)=sK own s from rfl];rw[show s.2.1=(b:Int)from hb,hb];simp only[F8,ht,o8,hg,W_ htn hm htr,hst,hset2,E8];rfl
 .rw[Y9 l7,o6,if_neg l7];rfl
theorem b8n:vG=some true:=by decide+kernel
theorem b8e{t:Int×Int}{en:List jw}(h:vty t en=true):1<=t.1/\t.1<=6:=by
 unfold vty at h;cases h1:x8 t.1 6<;>rw[h1]at h
 .rw[o6]at h;cases h2:L6 1 t.1<;>rw[h2]at h
  .cases h
  rw[o7]at h;cases h3:L6 t.1 5<;>rw[h3]at h
  .cases h
  have:=jr.1 h2;have:=jr.1 h3;omega
 .have:=P7.1 h1;omega
theorem b0M(hr:s.2.2.2.2[k]? =some r)(h:SB s k r=false):eQ s k<(k:Int):=by
 have e:eQ s k=r.2.2.1:=by unfold eQ;rw[hr]
 unfold SB at h;rw[←e]at h;cases h1:x8 (eQ s k) (-1)<;>rw[h1]at h
 .rw[o6]at h;cases h2:D9 (eQ s k) 0<;>rw[h2]at h
  .rw[o6]at h;cases h3:L6 (k:Int) (eQ s k)<;>rw[h3]at h
   .exact DX.1 h3
   .cases h
  .cases h
 .have:=P7.1 h1;omega
theorem b1r{m:Int}(h:CP l i m=false):m<(i:Int):=by
 unfold CP at h;cases h1:x8 m (-1)<;>rw[h1]at h
 .rw[o6]at h;cases h2:D9 m 0<;>rw[h2]at h
  .rw[o6]at h;cases h3:L6 (i:Int) m<;>rw[h3]at h
   .exact DX.1 h3
   .cases h
  .cases h
 .have:=P7.1 h1;omega
theorem b1Y(h:(iE l).1=0)(hs:l.2.2[i]? =some s):RedOk s:=by
 refine⟨λk hk=>?_,λk r hr=>?_⟩
 .have hr:s.2.2.2.2[k]? =some s.2.2.2.2[k]:=bQ hk;exact b0M hr (a8d (Oq h hs hr)).pa
 .obtain⟨d,hd,_⟩:=(a8d (Oq h hs hr)).df;refine⟨d,hd,?_⟩;obtain⟨h0,_⟩:=b3K (i:=a4B r) hd;have hj:s.2.2.2.1[(a4B r).toNat]? =some d:=by
   have h1:G6 s.2.2.2.1 (a4B r)=some d:=hd;unfold G6 at h1;rw[if_pos h0]at h1;exact h1
  exact b8e (a6G h hs hj)
theorem a7x(h:(iE l).1=0)(hL:SmL l)(hT:∀t∈l.2.1,ru t):LenL l:=by refine⟨⟨by have:=hL.few.1;omega,λe he=>by have:=a9c h e he;omega⟩,⟨by have:=hL.few.2.1;omega,λt ht=>by have:=(hT t ht).1;omega⟩,by have:=hL.few.2.2;omega,λs hs=>?_⟩;have hm:=hL.sc s hs;have h1:=hm.ni;have h2:=hm.nd;have h3:=hm.nr;exact⟨l7,l7,l7,λr hr=>by have:=hm.ro r hr;exact⟨l7,l7⟩⟩
theorem a2W(h:(iE l).1=0)(hL:SmL l)(hT:∀t∈l.2.1,ru t):KeepOk l:=by
 refine⟨a7x h hL hT,λs hs=>?_,λs hs=>?_,λi s hs=>b1r (MQ h hs).1⟩
 .have:=(hL.sc s hs).nr;unfold nR;omega
 .obtain⟨i,hi,rfl⟩:=Y7 hs;exact b1Y h (bQ hi)
theorem b1m(l:U9)(k:Int)(own mem:d5R):(PD l k own mem).1=l.1/\(PD l k own mem).2.1=l.2.1/\(PD l k own mem).2.2.length=l.2.2.length:=by
 unfold PD;split
 .split
  .refine⟨rfl,rfl,?_⟩;simp only;split
   .split<;>simp
   .simp
  .exact⟨rfl,rfl,rfl⟩
 .exact⟨rfl,rfl,rfl⟩
variable {β:Type}
def Ou(eq:α->α->Bool)(l:List (α×β))(f:α->Option β):Prop:=∀k,a3f eq l k=(f k).isSome/\∀z,a5q eq l k z=(f k).getD z
theorem b1p(eq:α->α->Bool):Ou eq ([]:List (α×β)) (λ_=>none):=λ_=>⟨rfl,λ_=>rfl⟩
theorem a1Y{α β:Type}{eq:α->α->Bool}(hE:∀a b,eq a b=true↔a=b)(k:α)(x:β)(k' :α):∀(l:List (α×β)),PM eq (RV eq l k x) k' =(l9 (eq k' k) true (PM eq l k'))/\∀z,PL eq (RV eq l k x) k' z=l9 (eq k' k) x (PL eq l k' z)
 |[]=>by unfold RV;simp only[PM,PL];cases eq k' k<;>exact⟨rfl,λ_=>rfl⟩|p::r=>by
  have ih:=a1Y hE k x k' r;unfold RV;cases hp:eq k p.1
  .simp only[cond_false,PM,PL];cases hq:eq k' p.1
   .simp only[cond_false];exact ih
   .simp only[cond_true];cases hk:eq k' k
    .exact⟨rfl,λ_=>rfl⟩
    .exfalso;have h1:=(hE _ _).1 hq;have h2:=(hE _ _).1 hk;rw[←h2,h1]at hp;rw[(hE p.1 p.1).2 rfl]at hp;cases hp
  .have hp' :=(hE _ _).1 hp;subst hp';simp only[cond_true,PM,PL];cases eq k' p.1<;>exact⟨rfl,λ_=>rfl⟩
variable {eq:α->α->Bool}
theorem b1q(hE:∀a b,eq a b=true↔a=b){l:List (α×β)}{f:α->Option β}(h:Ou eq l f)(k:α)(x:β):
  Ou eq (m_ eq l k x) (λk' =>l9 (eq k' k) (some x) (f k')):=λk' =>by
 obtain⟨h1,h2⟩:=a1Y hE k x k' l;obtain⟨g1,g2⟩:=h k';refine⟨?_,λz=>?_⟩
 .show PM eq (RV eq l k x) k' =_;rw[h1,show PM eq l k' =_ from g1];show _=(l9 (eq k' k) (some x) (f k')).isSome;cases eq k' k<;>rfl
 .show PL eq (RV eq l k x) k' z=_;rw[h2 z,show PL eq l k' z=_ from g2 z];show _=(l9 (eq k' k) (some x) (f k')).getD z;cases eq k' k<;>rfl
theorem Ou.has{l:List (α×β)}{f:α->Option β}(h:Ou eq l f)(k:α):a3f eq l k=(f k).isSome:=(h k).1
theorem Ou.get{l:List (α×β)}{f:α->Option β}(h:Ou eq l f)(k:α)(z:β):a5q eq l k z=(f k).getD z:=(h k).2 z
theorem Ou.congr{l:List (α×β)}{f g:α->Option β}(h:Ou eq l f)(e:∀k,f k=g k):Ou eq l g:=λk=>by rw[←e k];exact h k
def eK(x:X9):Int:=x.1
def eD(x:X9):Int:=x.2.1
def eM(x:X9):Int:=x.2.2.1
def eI(x:X9):Int:=x.2.2.2.1
def eR(x:X9):Int:=x.2.2.2.2.1
def y_(x:X9):Bool:=x8 (eK x) 1&&x8 (eM x) (-1)
def ZZ(x:X9):Bool:=x8 (eK x) 1&&L6 0 (eM x)
def UN(a:List X9):d5R:=(a.filter y_).map eR
def Uy(a:List X9):d5R:=(a.filter ZZ).map eR
def usG(b:d5R×d5R)(x:X9):d5R×d5R:=(bif y_ x then b.1++[eR x]else b.1,bif ZZ x then b.2++[eR x]else b.2)
theorem a6F:∀(a:List X9) (b:d5R×d5R),a.foldl usG b=(b.1++UN a,b.2++Uy a)
 |[],b=>by simp[UN,Uy]|x::a,b=>by rw[O9,a6F a];unfold usG UN Uy;cases h1:y_ x<;>cases h2:ZZ x<;>simp[h1,h2]
def snG(b:d5R×d5R)(x:X9):d5R×d5R:=(bif y_ x then ins (eR x) b.1 else b.1,bif ZZ x then ins (eR x) b.2 else b.2)
theorem a6l:∀(a:List X9) (b:d5R×d5R),a.foldl snG b=(DY (UN a) b.1,DY (Uy a) b.2)
 |[],b=>rfl|x::a,b=>by rw[O9,a6l a];unfold snG UN Uy;cases h1:y_ x<;>cases h2:ZZ x<;>simp[h1,h2,DY]
theorem a6v{l:d5R}(h:l.length<=1000000):∃x,yO l=some x/\ou x=some (EZ l):=by
 have e:=b0y h;cases hs:yO l with
 |none=>rw[hs]at e;cases e|some x=>rw[hs]at e;exact⟨x,rfl,e⟩
theorem b4C(a:List X9):(UN a).length<=a.length/\(Uy a).length<=a.length:=by unfold UN Uy;rw[L9,L9];exact⟨aI _ _,aI _ _⟩
theorem b9R(b:d5R×d5R)(x:X9)(h:b.1.length<=i/\b.2.length<=i):(usG b x).1.length<=i+1/\(usG b x).2.length<=i+1:=by
 unfold usG;obtain⟨h1,h2⟩:=h;constructor
 .cases y_ x
  .show b.1.length<=_;omega
  .show(b.1++[eR x]).length<=_;rw[F5];show _+1<=_;omega
 .cases ZZ x
  .show b.2.length<=_;omega
  .show(b.2++[eR x]).length<=_;rw[F5];show _+1<=_;omega
theorem b9K(b:d5R×d5R)(x:X9)(h:b.1.length<=i/\b.2.length<=i):(snG b x).1.length<=i+1/\(snG b x).2.length<=i+1:=by
 unfold snG;obtain⟨h1,h2⟩:=h;constructor
 .cases y_ x
  .show b.1.length<=_;omega
  .show(ins (eR x) b.1).length<=_;have:=tK (eR x) b.1;omega
 .cases ZZ x
  .show b.2.length<=_;omega
  .show(ins (eR x) b.2).length<=_;have:=tK (eR x) b.2;omega
theorem a3M{a:List X9}(h:a.length<=400000):yI a=some (EZ (UN a),EZ (Uy a)):=by
 unfold yI;refine dD a usG (λ(b:d5R×d5R) i=>(b.1,b.2,i)) (λb=>b) (λi b=>b.1.length<=i/\b.2.length<=i) ([],[]) l7 ⟨E9 _,E9 _⟩ (λi x b hx hi hb=>⟨?_,b9R b x hb⟩) (λb hb=>?_) (λhb=>?_)
 .simp only[J3 hx,o7,F8,hx,o8];unfold usG y_ ZZ;show l9 (F7 (x8 (eK x) 1)) _ (l9 (x8 (eM x) (-1)) _ (l9 (L6 0 (eM x)) _ _))=_;cases h1:x8 (eK x) 1
  .rw[bg,o7,Y3 l7];rfl
  .rw[E5,o6];cases h2:x8 (eM x) (-1)
   .rw[o6];cases h3:L6 0 (eM x)
    .rw[o6,Y3 l7];rfl
    .rw[o7,fK _ l7,o8,Y3 l7];rfl
   .have h3:L6 0 (eM x)=false:=Y9 (by have:=P7.1 h2;omega);rw[o7,h3,fK _ l7,o8,Y3 l7];rfl
 .simp only[I9,o6]
 .rw[a6F];obtain⟨g1,g2⟩:=b4C a;obtain⟨x,x1,x2⟩:=a6v (l:=UN a) l7;obtain⟨y,y1,y2⟩:=a6v (l:=Uy a) l7;simp only[G8];rw[x1,o8,y1,o8,x2,o8,y2,o8]
theorem UT{l:d5R}(n:Int)(hl:l.length<=1000000):xJ l n=some (ins n l):=by
 unfold xJ;refine dD l (NC n) (λb i=>(b.1,b.2,i)) (λb=>b) (λi b=>b.1.length<=i+1/\(b.2=false->b.1.length<=i)) (([],false):d5R×Bool) hl x9 (λi a b ha hi hI=>?_) (λb hI=>?_) (λh2=>?_)
 .obtain⟨o,d⟩:=b;simp only at hI;simp only[J3 ha,o7,F8,ha,o8];rw[Y3 l7];cases d
  .simp only[bg,o7,NC,o6];have:=hI.2 rfl;cases L6 n a
   .rw[o6,fK a (show o.length<=1000000 by omega)];exact⟨rfl,by simp<;>omega,by simp<;>omega⟩
   .rw[o7];cases D9 n a
    .rw[o6,fK a (show o.length<=1000000 by omega)];exact⟨rfl,by simp<;>omega,x9⟩
    .rw[o7,fK n (show o.length<=1000000 by omega),o8,uq Y8];exact⟨rfl,by simp<;>omega,x9⟩
  .simp only[E5,o6,NC,o7];rw[uq Y8];exact⟨rfl,by simp<;>omega,x9⟩
 .simp only[I9];rfl
 .have hf:=a7t n l [];generalize l.foldl (NC n) ([],false)=b at*;obtain⟨o,d⟩:=b;cases d
  .simp only[o6,G8]at hf;simp only[bg,o7];rw[fK _ (by simp at h2;omega),hf];rfl
  .simp only[o7,G8]at hf;simp only[E5,o6,hf]
theorem a1c{a:List X9}(h:a.length<=400000):BZ a=some (EZ (UN a),EZ (Uy a)):=by
 unfold BZ;refine dD a snG (λ(b:d5R×d5R) i=>(b.1,b.2,i)) (λb=>b) (λi b=>b.1.length<=i/\b.2.length<=i) ([],[]) l7 ⟨E9 _,E9 _⟩ (λi x b hx hi hb=>⟨?_,b9K b x hb⟩) (λb hb=>?_) (λhb=>?_)
 .simp only[J3 hx,o7,F8,hx,o8];unfold snG y_ ZZ;show o5 (l9 (x8 (eK x) 1) (l9 (x8 (eM x) (-1)) (o5 (xJ b.1 (eR x)) _) _) _) (λ(x_2:d5R)=>l9 (x8 (eK x) 1) (l9 (L6 0 (eM x)) (o5 (xJ b.2 (eR x)) _) _) _)=_;rw[UT (eR x) (show b.1.length<=1000000 by omega),UT (eR x) (show b.2.length<=1000000 by omega)];simp only[o8];rw[Y3 (show i<=9000000000000000000 by omega)];cases x8 (eK x) 1<;>cases x8 (eM x) (-1)<;>cases L6 0 (eM x)<;>rfl
 .simp only[I9,o6]
 .rw[a6l];rfl
def kq(a b:F6):Bool:=jl (x8 a.1 b.1) (x8 a.2 b.2)
theorem SS(a b:F6):kq a b=true↔a=b:=by unfold kq jl;rw[A8,P7,P7];exact⟨λh=>fC h.1 h.2,λh=>by subst h;exact⟨rfl,rfl⟩⟩
def c5V(a b:V6):Bool:=jl (x8 a.1 b.1) (jl (x8 a.2.1 b.2.1) (x8 a.2.2 b.2.2))
theorem b8c(a b:V6):c5V a b=true↔a=b:=by unfold c5V jl;rw[A8,A8,P7,P7,P7];exact⟨λh=>fC h.1 (fC h.2.1 h.2.2),λh=>by subst h;exact⟨rfl,rfl,rfl⟩⟩
abbrev a4H(x:X9):F6:=(x.2.2.1,x.2.2.2.1)
abbrev Yf(x:X9):V6:=x.2.2.2.2.2
def b3a(x:X9):Bool:=!(D9 x.1 1)&&!(D9 5 x.1)&&!(D9 x.2.2.2.1 0)&&!(D9 x.2.2.1 (-1))
abbrev EM:=List (F6×V6)
def XQ(pre:List X9)(x:X9)(same:Bool):Bool:=pre.any λy=>x8 y.1 1&&x8 y.2.2.1 x.2.2.1&&x8 y.2.2.2.1 x.2.2.2.1&&(!same || c5V (Yf y) (Yf x))
def c1p(q x:X9):Bool:=!(D9 x.2.1 1)&&(bif D9 q.2.1 x.2.1 then x8 (J9 .i64 x.2.1 1) q.2.1&&x8 q.1 1 else true)
def okR(pre:List X9)(x:X9):Bool:=b3a x&&(bif x8 x.1 1 then !(D9 x.2.2.2.2.1 0)&&!(XQ pre x false)else x8 x.2.2.2.2.1 (-1))&&(bif x8 x.1 5 then XQ pre x true else true)&&
 (match pre.getLast? with|none=>x8 x.2.1 0&&x8 x.1 1|some q=>c1p q x)
def wfR:List X9->List X9->Bool
 |_,[]=>true|pre,x::l=>okR pre x&&wfR (pre++[x]) l
structure MInvE (pre:List X9) (m:EM):Prop where
 ex:∃f:F6->Option V6,Ou kq m f/\∀k v,f k=some v↔∃y∈pre,eK y=1/\a4H y=k/\Yf y=v
theorem b6u{pre:List X9}{x:X9}{same:Bool} :XQ pre x same=true↔∃y∈pre,eK y=1/\a4H y=a4H x/\(same=true->Yf y=Yf x):=by
 unfold XQ;simp only[aP,A8,jS,b8c];constructor
 .rintro⟨y,hy,⟨⟨h1,h2⟩,h3⟩,h4⟩;refine⟨y,hy,P7.1 h1,fC (P7.1 h2) (P7.1 h3),λhs=>?_⟩;rcases h4 with h4|h4
  .rw[hs]at h4;cases h4
  .exact h4
 .rintro⟨y,hy,h1,h2,h3⟩;refine⟨y,hy,⟨⟨P7.2 h1,P7.2 (Prod.mk.inj h2).1⟩,P7.2 (Prod.mk.inj h2).2⟩,?_⟩;cases same
  .exact .inl rfl
  .exact .inr (h3 rfl)
theorem b8A{i p:Nat}(hi:qi s ks i=true)(hp:upP s i=some p):qi s ks p=true:=by unfold qi at hi ⊢;obtain⟨r,hr,h1⟩:=aP.1 hi;rw[A8]at h1;exact aP.2 ⟨r,hr,by rw[A8];exact⟨h1.1,Jg.2 (b7Z s _ i (Jg.1 h1.2) p hp)⟩⟩
theorem b0l(hr:s.2.2.2.2[i]? =some r):(rK s ks i).1=r.1/\(rK s ks i).2.1=r.2.1/\(rK s ks i).2.2.1=rP s ks (eQ s i)/\(rK s ks i).2.2.2.1=r.2.2.2.1/\(rK s ks i).2.2.2.2.1=r.2.2.2.2.1/\(rK s ks i).2.2.2.2.2.2.2=r.2.2.2.2.2.2.2:=by unfold rK;rw[hr];simp only;split<;>exact⟨rfl,rfl,rfl,rfl,rfl,rfl⟩
theorem d0S(hr:s.2.2.2.2[i]? =some r):((rK s ks i).2.2.2.2.2.1=r.2.2.2.2.2.1/\(rK s ks i).2.2.2.2.2.2.1=r.2.2.2.2.2.2.1)\/((rK s ks i).2.2.2.2.2.1=[(1,0)]/\(rK s ks i).2.2.2.2.2.2.1=[Wh (a0t s r.2.1)]):=by
 unfold rK;rw[hr];simp only;split
 .exact .inl ⟨rfl,rfl⟩
 .exact .inr ⟨rfl,rfl⟩
theorem b8T(hi:i<nR s)(hk:qi s ks i=true):(Tz s ks)[lI (qi s ks) i]? =some (rK s ks i):=by unfold Tz;rw[V7,Ih _ hi hk];rfl
abbrev THd:=d5T×Int×List jm×List jm
def hdS(s:A7):THd:=(s.1,s.2.1,s.2.2.1,s.2.2.2.1)
structure KL (l l' :U9):Prop where
 en:l'.1=l.1
 tb:l'.2.1=l.2.1
 ln:l'.2.2.length=l.2.2.length
 sc:∀(i:Nat) (s:A7),l.2.2[i]? =some s->∃t,l'.2.2[i]? =some t/\(t=s\/∃ks,t=sK ks s)
theorem KL.hd{l l' :U9}(h:KL l l'):l'.2.2.map hdS=l.2.2.map hdS:=by
 apply bK;intro i;rw[V7,V7];cases hs:l.2.2[i]? with
 |none=>have h1:=Fz.1 hs;rw[bH (by rw[h.ln];exact h1)]
 |some s=>obtain⟨t,ht,hts⟩:=h.sc i s hs;rw[ht];rcases hts with rfl|⟨ks,rfl⟩<;>rfl
theorem b8y(k:Int)(own mem:d5R)(hm:∀(i:Nat) (s:A7),l.2.2[i]? =some s->NJ s<(i:Int)):KL l (PD l k own mem):=by
 obtain⟨e1,e2,e3⟩:=b1m l k own mem;refine⟨e1,e2,e3,λi s hs=>?_⟩;have hi:=(X7.1 hs).1;unfold PD;by_cases h:0<=k/\k<o9 l.2.2
 .rw[if_pos h];obtain⟨a,rfl⟩:∃a:Nat,k=(a:Int):=⟨k.toNat,l7⟩;have ha:a<l.2.2.length:=by have:=h.2;unfold o9 at this;omega
  rw[E8];have hq:l.2.2[a]? =some l.2.2[a]:=bQ ha;rw[hq];simp only;have one:∃t,(l.2.2.set a (sK own l.2.2[a]))[i]? =some t/\(t=s\/∃ks,t=sK ks s):=by
   by_cases e:a=i
   .subst e;rw[hs]at hq;cases hq;exact⟨_,iJ ha,.inr ⟨own,rfl⟩⟩
   .exact⟨s,by rw[kS e];exact hs,.inl rfl⟩
  split
  .rename_i h2;split
   .rename_i u hu;have hlt:=hm a _ hq;by_cases e:(NJ l.2.2[a]).toNat=i
    .subst e;rw[hs]at hu;cases hu;exact⟨_,iJ (by rw[jU];exact hi),.inr ⟨mem,rfl⟩⟩
    .rw[kS e];exact one
   .exact one
  .exact one
 .rw[if_neg h];exact⟨s,hs,.inl rfl⟩
theorem b9W(n:Int):kE (IntKind.wrap .i64 n):=by unfold kE IntKind.wrap;simp[IntKind.signed,IntKind.bits];omega
theorem b3T(t:Int×Int):kE (Wh t).2:=by
 unfold Wh;cases x8 t.1 6
 .show kE 0;unfold kE;omega
 .exact b9W _
theorem d3W(hm:SmS s)(ks:d5R):SmS (sK ks s):=by
 refine⟨hm.nm,hm.ni,hm.nd,by have:=b5y s ks;have:=hm.nr;show(Tz s ks).length<=60;unfold nR at*;omega,hm.fo,λr hr=>?_⟩;obtain⟨i,hi,rfl⟩:=X5.1 (show r∈(onL (qi s ks) (nR s)).map (rK s ks)from hr);obtain⟨i1,_⟩:=Wx _ hi;have hri:s.2.2.2.2[i]? =some s.2.2.2.2[i]:=bQ i1;obtain⟨⟨a1,a2,a3,a4⟩,a5,a6⟩:=hm.ro _ (kK hri);obtain⟨e1,e2,e3,e4,e5,e6⟩:=b0l (ks:=ks) hri;rcases d0S (ks:=ks) hri with⟨x1,x2⟩|⟨x1,x2⟩
 .unfold YJ;rw[e1,e6,x1,x2];exact⟨⟨a1,a2,a3,a4⟩,a5,a6⟩
 .unfold YJ;rw[e1,e6,x1,x2];refine⟨⟨a1,a2,λn hn=>?_,λn hn=>?_⟩,x9,x9⟩
  .rw[D8.1 hn];show kE 0;unfold kE;omega
  .rw[D8.1 hn];exact b3T _
theorem c6p{l l' :U9}(hk:KL l l')(hL:SmL l):SmL l' :=by
 refine⟨?_,?_,?_,λt ht=>?_⟩
 .have:=hL.few;unfold Few at*;rw[hk.en,hk.tb,hk.ln];exact this
 .have:=hL.en;unfold a2y at*;rw[hk.en];exact this
 .have:=hL.tb;unfold YL at*;rw[hk.tb];exact this
 .obtain⟨i,hi,rfl⟩:=Y7 ht;have hi2:i<l.2.2.length:=by rw[←hk.ln];exact hi
  have hs:=bQ hi2;obtain⟨u,hu,h⟩:=hk.sc i _ hs;rw[bQ hi]at hu;have hu:=P5 hu;rw[hu];rcases h with h|⟨ks,h⟩
  .rw[h];exact hL.sc _ (I4 hi2)
  .rw[h];exact d3W (hL.sc _ (I4 hi2)) ks
end
section
def a9f(oc pr:Int->Int)(seen acc:d5R):Prop:=acc.Nodup/\∀x,x∈acc↔x∈seen/\oc x≠-1/\∀y∈seen,oc y≠-1->pr y<=pr x
variable {a:Int}
theorem c1l{oc pr:Int->Int}{seen acc:d5R}(h:a9f oc pr seen acc)(ha:a∉seen):a9f oc pr (seen++[a]) (bG oc pr acc a):=by
 obtain⟨hn,hi⟩:=h;unfold bG;cases h1:x8 (oc a) (-1)
 case true=>
  have e:=P7.1 h1;refine⟨hn,λx=>?_⟩;rw[o7,hi];constructor
  .rintro⟨g1,g2,g3⟩;refine⟨J8 _ g1,g2,λy hy hy2=>?_⟩;rcases D5.1 hy with hy|hy
   .exact g3 y hy hy2
   .rw[D8.1 hy]at hy2;exact absurd e hy2
  .rintro⟨g1,g2,g3⟩;rcases D5.1 g1 with g1|g1
   .exact⟨g1,g2,λy hy=>g3 y (J8 _ hy)⟩
   .rw[D8.1 g1]at g2;exact absurd e g2
 have na:oc a≠-1:=zh.1 h1;rw[o6];have hmax:∀b,b∈acc->∀y∈seen,oc y≠-1->pr y<=pr b:=λb hb=>((hi b).1 hb).2.2;cases acc with
 |nil=>
  have hnone:∀y∈seen,oc y=-1:=by
   refine λy hy=>bT λhne=>?_;have:∀(L:d5R),(∀z∈L,z∈seen)->(∃z∈L,oc z≠-1)->∃z∈L,oc z≠-1/\∀w∈L,oc w≠-1->pr w<=pr z:=by
    intro L;induction L with
    |nil=>rintro _ ⟨z,hz,_⟩;cases hz
    |cons c L ih=>
     intro hL _;by_cases hc:∃z∈L,oc z≠-1
     .obtain⟨z,hz,z1,z2⟩:=ih (λw hw=>hL w (U3 _ hw)) hc;by_cases hcc:oc c≠-1/\pr z<pr c
      .refine⟨c,x9,hcc.1,λw hw w1=>?_⟩;rcases D6.1 hw with rfl|hw
       .exact aX _
       .have:=z2 w hw w1;omega
      .refine⟨z,U3 _ hz,z1,λw hw w1=>?_⟩;rcases D6.1 hw with rfl|hw
       .have:=not_and.1 hcc w1;omega
       .exact z2 w hw w1
     .rename_i hex;obtain⟨z,hz,hz1⟩:=hex;rcases D6.1 hz with rfl|hz
      .refine⟨z,x9,hz1,λw hw w1=>?_⟩;rcases D6.1 hw with rfl|hw
       .exact aX _
       .exact absurd ⟨w,hw,w1⟩ hc
      .exact absurd ⟨z,hz,hz1⟩ hc
   obtain⟨z,hz,z1,z2⟩:=this seen (λ_ h=>h) ⟨y,hy,hne⟩;have:=(hi z).2 ⟨hz,z1,z2⟩;cases this
  refine⟨x9,λx=>?_⟩;simp only[D8];constructor
  .rintro rfl;refine⟨x9,na,λy hy hy2=>?_⟩;rcases D5.1 hy with hy|hy
   .exact absurd (hnone y hy) hy2
   .rw[D8.1 hy];exact aX _
  .rintro⟨g1,g2,g3⟩;rcases D5.1 g1 with g1|g1
   .exact absurd (hnone x g1) g2
   .exact D8.1 g1
 |cons b r=>
  have hb:=(hi b).1 x9;simp only;cases h2:D9 (pr b) (pr a)
  .rw[o6];have g2:=iM.1 h2;cases h3:x8 (pr a) (pr b)
   .rw[o6];have g3:=zh.1 h3;refine⟨hn,λx=>?_⟩;rw[hi];constructor
    .rintro⟨k1,k2,k3⟩;refine⟨J8 _ k1,k2,λy hy hy2=>?_⟩;rcases D5.1 hy with hy|hy
     .exact k3 y hy hy2
     .rw[D8.1 hy];have:=k3 b hb.1 hb.2.1;omega
    .rintro⟨k1,k2,k3⟩;rcases D5.1 k1 with k1|k1
     .exact⟨k1,k2,λy hy=>k3 y (J8 _ hy)⟩
     .rw[D8.1 k1]at k3;have:=k3 b (J8 _ hb.1) hb.2.1;omega
   .rw[o7];have g3:=P7.1 h3;have hna:a∉b::r:=λh=>ha ((hi a).1 h).1;refine⟨N8.2 ⟨hn,x9,λx hx y hy hxy=>by simp at hy;subst hy;exact hna (hxy▸hx)⟩,λx=>?_⟩;constructor
    .intro hx;rcases D5.1 hx with hx|hx
     .obtain⟨k1,k2,k3⟩:=(hi x).1 hx;refine⟨J8 _ k1,k2,λy hy hy2=>?_⟩;rcases D5.1 hy with hy|hy
      .exact k3 y hy hy2
      .rw[D8.1 hy,g3];exact k3 b hb.1 hb.2.1
     .rw[D8.1 hx];refine⟨x9,na,λy hy hy2=>?_⟩;rcases D5.1 hy with hy|hy
      .rw[g3];exact hb.2.2 y hy hy2
      .rw[D8.1 hy];exact aX _
    .rintro⟨k1,k2,k3⟩;rcases D5.1 k1 with k1|k1
     .exact J8 _ ((hi x).2 ⟨k1,k2,λy hy=>k3 y (J8 _ hy)⟩)
     .exact di _ k1
  .rw[o7];have g2:=jK.1 h2;refine⟨x9,λx=>?_⟩;simp only[D8];constructor
   .rintro rfl;refine⟨x9,na,λy hy hy2=>?_⟩;rcases D5.1 hy with hy|hy
    .have:=hb.2.2 y hy hy2;omega
    .rw[D8.1 hy];exact aX _
   .rintro⟨k1,k2,k3⟩;rcases D5.1 k1 with k1|k1
    .have h4:=k3 a x9 na;have h5:=hb.2.2 x k1 k2;omega
    .exact D8.1 k1
theorem a4s{oc pr:Int->Int} :∀(l seen acc:d5R),a9f oc pr seen acc->(seen++l).Nodup->a9f oc pr (seen++l) (l.foldl (bG oc pr) acc)
 |[],seen,acc,h,_=>by rw[H7];exact h|a::l,seen,acc,h,hn=>by
  have hn' :(seen++[a]++l).Nodup:=by rw[G5];exact hn
  have ha:a∉seen:=λhs=>by have:=(N8.1 hn).2.2 a hs a x9;exact this rfl
  have:=a4s l (seen++[a]) (bG oc pr acc a) (c1l h ha) hn';rw[G5]at this;exact this
theorem PK{oc pr:Int->Int}{l:d5R}(hn:l.Nodup):(qR oc pr l).Nodup/\∀x,x∈qR oc pr l↔x∈l/\oc x≠-1/\∀y∈l,oc y≠-1->pr y<=pr x:=
 a4s l [] [] ⟨x9,λx=>by simp⟩ (by simpa using hn)
structure TreeR (nA nB:Nat) (par prio:d5R) (ap:d5V) (par' prio' :d5R) (ap' :d5V) (R:Int->Int->Prop):Prop where
 v:Bv par prio=0
 v' :Bv par' prio' =0
 n:par.length=nA
 n' :par'.length=nB
 rng:∀x y,R x y->(0<=x/\x<(nA:Int))/\0<=y/\y<(nB:Int)
 dom:∀x,0<=x->x<(nA:Int)->∃y,R x y
 cod:∀y,0<=y->y<(nB:Int)->∃x,R x y
 fn:∀x y z,R x y->R x z->y=z
 inj:∀x y z,R x z->R y z->x=y
 pr:∀x y,R x y->prF prio x=prF prio' y
 ap:∀x y,R x y->apF ap x=apF ap' y
 pa:∀(x y:Nat) (p q:Int),R (x:Int) (y:Int)->par[x]? =some p->par'[y]? =some q->(p=-1/\q=-1)\/R p q
def RO(R:Int->Int->Prop)(a b:Int):Prop:=(a=-1/\b=-1)\/R a b
def RX(R:Int->Int->Prop)(a b:Int):Prop:=(a=-1/\b=-1)\/(a=-2/\b=-2)\/R a b
variable {b:Int}
section
variable {n n' :Nat} {par prio par' prio' :d5R} {ap ap' :d5V} {R:Int->Int->Prop}
theorem Kz{par:d5R}{at' x:Int} :x∈castL (kids par at')↔∃i:Nat,x=(i:Int)/\par[i]? =some at' :=by
 unfold castL;constructor
 .intro h;obtain⟨i,hi,rfl⟩:=X5.1 h;exact⟨i,rfl,(Yt hi).2⟩
 .rintro⟨i,rfl,h⟩;refine X5.2 ⟨i,?_,rfl⟩;unfold kids onL;refine O0.2 ⟨U5.2 (X7.1 h).1,?_⟩;unfold a2Y;rw[h];exact O5 rfl
theorem CJ(par:d5R)(at' :Int):(castL (kids par at')).Nodup:=by unfold castL kids onL;refine List.Pairwise.map _ (λa b h=>?_) ((List.nodup_range (n:=par.length)).filter _);omega
theorem TreeR.kid(T:TreeR n n' par prio ap par' prio' ap' R){a b x y:Int}(hab:RO R a b)(hxy:R x y):x∈castL (kids par a)↔y∈castL (kids par' b):=by
 obtain⟨⟨x0,x1⟩,y0,y1⟩:=T.rng x y hxy;obtain⟨i,rfl⟩:∃i:Nat,x=(i:Int):=⟨x.toNat,l7⟩;obtain⟨j,rfl⟩:∃j:Nat,y=(j:Int):=⟨y.toNat,l7⟩;have hi:par[i]? =some (par[i]'(by rw[T.n];omega)):=bQ _;have hj:par'[j]? =some (par'[j]'(by rw[T.n'];omega)):=bQ _;have hp:=T.pa i j _ _ hxy hi hj;rw[Kz,Kz];constructor
 .rintro⟨k,hk,h⟩;have ek:k=i:=l7;subst ek;rw[hi]at h;have h:=P5 h;refine⟨j,rfl,?_⟩;rw[hj];congr 1;rw[h]at hp;rcases hp with⟨p1,p2⟩|hp<;>rcases hab with⟨q1,q2⟩|hab
  .rw[p2,q2]
  .have:=(T.rng _ _ hab).1.1;omega
  .have:=(T.rng _ _ hp).1.1;omega
  .exact T.fn _ _ _ hp hab
 .rintro⟨k,hk,h⟩;have ek:k=j:=l7;subst ek;rw[hj]at h;have h:=P5 h;refine⟨i,rfl,?_⟩;rw[hi];congr 1;rw[h]at hp;rcases hp with⟨p1,p2⟩|hp<;>rcases hab with⟨q1,q2⟩|hab
  .rw[p1,q1]
  .have:=(T.rng _ _ hab).2.1;omega
  .have:=(T.rng _ _ hp).2.1;omega
  .exact T.inj _ _ _ hp hab
theorem RX.neg(T:TreeR n n' par prio ap par' prio' ap' R)(h:RX R a b):a=-1↔b=-1:=by
 rcases h with⟨h1,h2⟩|⟨h1,h2⟩|h
 .omega
 .omega
 .have:=T.rng _ _ h;omega
theorem TreeR.ch(T:TreeR n n' par prio ap par' prio' ap' R){oc oc' :Int->Int}(hab:RO R a b)(ho:∀x y,R x y->x∈castL (kids par a)->RX R (oc x) (oc' y)):
  RX R (chF oc (prF prio) (castL (kids par a))) (chF oc' (prF prio') (castL (kids par' b))):=by
 obtain⟨n1,m1⟩:=PK (oc:=oc) (pr:=prF prio) (CJ par a);obtain⟨n2,m2⟩:=PK (oc:=oc') (pr:=prF prio') (CJ par' b);have rg:∀x,x∈castL (kids par a)->∃y,R x y:=λx hx=>by obtain⟨i,rfl,h⟩:=Kz.1 hx;have:=(X7.1 h).1;rw[T.n]at this;exact T.dom _ l7 l7
 have rg' :∀y,y∈castL (kids par' b)->∃x,R x y:=λy hy=>by obtain⟨i,rfl,h⟩:=Kz.1 hy;have:=(X7.1 h).1;rw[T.n']at this;exact T.cod _ l7 l7
 have key:∀x y,R x y->(x∈qR oc (prF prio) (castL (kids par a))↔y∈qR oc' (prF prio') (castL (kids par' b))):=λx y hxy=>by
  rw[m1,m2];have hk:=T.kid hab hxy;constructor
  .rintro⟨g1,g2,g3⟩;have gy:=hk.1 g1;refine⟨gy,λh=>g2 (((ho x y hxy g1).neg T).2 h),λz hz hz2=>?_⟩;obtain⟨w,hw⟩:=rg' z hz;have gw:=(T.kid hab hw).2 hz;have:=g3 w gw (λh=>hz2 (((ho w z hw gw).neg T).1 h));rw[←T.pr w z hw,←T.pr x y hxy];exact this
  .rintro⟨g1,g2,g3⟩;have gx:=hk.2 g1;refine⟨gx,λh=>g2 (((ho x y hxy gx).neg T).1 h),λw hw hw2=>?_⟩;obtain⟨z,hz⟩:=rg w hw;have:=g3 z ((T.kid hab hz).1 hw) (λh=>hw2 (((ho w z hz hw).neg T).2 h));rw[T.pr w z hz,T.pr x y hxy];exact this
 have sub1:∀x,x∈qR oc (prF prio) (castL (kids par a))->∃y,R x y/\y∈qR oc' (prF prio') (castL (kids par' b)):=λx hx=>by obtain⟨y,hy⟩:=rg x ((m1 x).1 hx).1;exact⟨y,hy,(key x y hy).1 hx⟩
 have sub2:∀y,y∈qR oc' (prF prio') (castL (kids par' b))->∃x,R x y/\x∈qR oc (prF prio) (castL (kids par a)):=λy hy=>by obtain⟨x,hx⟩:=rg' y ((m2 y).1 hy).1;exact⟨x,hx,(key x y hx).2 hy⟩
 have hin:∀x,x∈qR oc (prF prio) (castL (kids par a))->x∈castL (kids par a):=λx hx=>((m1 x).1 hx).1;unfold chF;revert n1 n2 sub1 sub2 hin;generalize qR oc (prF prio) (castL (kids par a))=B;generalize qR oc' (prF prio') (castL (kids par' b))=B';intro n1 n2 sub1 sub2 hin;match B,B' with
 |[],[]=>exact .inl ⟨rfl,rfl⟩|[],y::_=>obtain⟨x,_,hx⟩:=sub2 y x9;cases hx
 |x::_,[]=>obtain⟨y,_,hy⟩:=sub1 x x9;cases hy
 |[x],[y]=>obtain⟨z,hz,hz2⟩:=sub1 x x9;have:=D8.1 hz2;subst this;exact ho x z hz (hin x x9)
 |[x],y::z::r=>obtain⟨w,hw,hw2⟩:=sub2 y x9;obtain⟨u,hu,hu2⟩:=sub2 z x9;have e1:=D8.1 hw2;have e2:=D8.1 hu2;subst e1;subst e2;have e3:=T.fn _ _ _ hw hu;rw[e3]at n2;simp at n2
 |x::z::r,[y]=>obtain⟨w,hw,hw2⟩:=sub1 x x9;obtain⟨u,hu,hu2⟩:=sub1 z x9;have e1:=D8.1 hw2;have e2:=D8.1 hu2;subst e1;subst e2;have e3:=T.inj _ _ _ hw hu;rw[e3]at n1;simp at n1
 |x::z::r,y::w::r' =>exact .inr (.inl ⟨rfl,rfl⟩)
theorem TreeR.oc(T:TreeR n n' par prio ap par' prio' ap' R):∀(k:Nat) (x y:Int),(n:Int) -x<=k->R x y->RX R (OC par prio ap x) (OC par' prio' ap' y):=by
 intro k;induction k with
 |zero=>intro x y hk h;have:=T.rng x y h;omega|succ k ih=>
  intro x y hk h;obtain⟨⟨x0,x1⟩,y0,y1⟩:=T.rng x y h;rw[a1l par prio ap T.v l7 (by rw[T.n];exact x1),a1l par' prio' ap' T.v' l7 (by rw[T.n'];exact y1)];have hc:RX R (chS par prio ap x) (chS par' prio' ap' y):=T.ch (.inr h) λu w hu hm=>ih u w (by have:=NE par prio T.v hm;omega) hu;have hneg:=hc.neg T;cases h1:x8 (chS par prio ap x) (-1)
  .have:x8 (chS par' prio' ap' y) (-1)=false:=O8 λe=>(zh.1 h1) (hneg.2 e);rw[this,o6,o6];exact hc
  .have:x8 (chS par' prio' ap' y) (-1)=true:=O5 (hneg.1 (P7.1 h1));rw[this,o7,o7,T.ap x y h];cases apF ap' y
   .exact .inl ⟨rfl,rfl⟩
   .exact .inr (.inr h)
theorem TreeR.sel(T:TreeR n n' par prio ap par' prio' ap' R)(ha:ap.length=n)(ha' :ap'.length=n'):RX R (EY par prio ap) (EY par' prio' ap'):=by unfold EY;rw[O5 T.v,O5 T.v',O5 (show o9 ap=o9 par by unfold o9;rw[ha,T.n]),O5 (show o9 ap' =o9 par' by unfold o9;rw[ha',T.n'])];rw[o7,o7,o7,o7];exact T.ch (.inl ⟨rfl,rfl⟩) λx y h _=>T.oc ((n:Int) -x).toNat x y l7 h
end
end
end Go.GP
