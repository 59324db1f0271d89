import Derived.Test.YtpdhfchnaibpmabGreatDoorT4
import Derived.Test.YtpdhfchnaibpmabGreatDoorT5
set_option linter.all false
namespace Go.GP
open Gt
set_option maxRecDepth 100000
section
def aH(n:Int):Int:=if n<0 then -n else n
def upS(q r d:Int)(neg:Bool)(mode:Int):Bool:=l7 (x8 r 0) false (l7 (x8 mode 0) neg (l7 (x8 mode 1) (D9 neg) (l7 (x8 mode 3) true (l7 (x8 mode 4) (N7 (d -r) r) (l7 (x8 mode 5) (l7 (E9 (d -r) r) true (l7 (x8 r (d -r)) (x8 (eF q 2) 1) false)) false)))))
def q1(q:Int)(u:Bool):Int:=l7 u (q+1) q
def sg(q:Int)(neg:Bool):Int:=l7 neg (-q) q
def qi(m:Int):Bool:=l7 (N7 0 m) (N7 m 5) false
theorem Eu(m:Int):uz m=some (qi m):=by unfold uz qi;cases N7 0 m<;>rfl
theorem Vx(m:Int):Jk m=some (qi m):=Eu m
theorem Yw(m:Int):DY m=some (qi m):=Eu m
def jM(n m:Int):Bool:=l7 (E9 m n) true (E9 n (-m))
variable {m:Int}
theorem wG(n:Int)(h0:0<=m)(h:m<=9000000000000000000):lS n m=some (jM n m):=by unfold lS jM;rw[U2 U0,show(0:Int) -m=-m by omega];cases E9 m n<;>rfl
theorem vO(n:Int)(h0:0<=m)(h:m<=9000000000000000000):kL n m=some (jM n m):=wG n h0 h
theorem Bf(n:Int)(h0:0<=m)(h:m<=9000000000000000000):zx n m=some (jM n m):=wG n h0 h
theorem zq(n:Int)(h0:0<=m)(h:m<=9000000000000000000):lT n m=some (jM n m):=wG n h0 h
variable {n:Int}
theorem oL(h:jM n m=false):-m<=n/\n<=m:=by
 unfold jM at h;cases h1:E9 m n<;>rw[h1]at h
 .rw[iU]at h1;simp only[o6]at h;rw[iU]at h;omega
 .cases h
theorem a7T(h:jM n m=true):n< -m\/m<n:=by
 unfold jM at h;cases h1:E9 m n<;>rw[h1]at h
 .simp only[o6]at h;rw[iW]at h;omega
 .rw[iW]at h1;omega
theorem Uw :jM n m=true↔n< -m\/m<n:=by
 constructor
 .exact a7T
 .intro h;cases hq:jM n m
  .have:=oL hq;omega
  .rfl
theorem QT(h:-m<=n/\n<=m):jM n m=false:=by
 cases hq:jM n m
 .rfl
 .have:=a7T hq;omega
theorem DT(h:-9000000000000000000<=n)(h2:n<=9000000000000000000):oq n=some (aH n):=by
 unfold oq aH;by_cases h0:n<0
 .rw[V5 h0,if_pos h0,o7];congr 1;show IntKind.wrap .u64 (0 -IntKind.wrap .u64 n)=_;rw[Bj,Bj];omega
 .rw[N9 l9,if_neg h0,o6,show wrap .u64 n=n from Hm l9 l9]
theorem RI(h:-9000000000000000000<=n)(h2:n<=9000000000000000000):CX n=some (aH n):=by
 unfold CX aH;by_cases h0:n<0
 .rw[V5 h0,if_pos h0,U2 U0];simp
 .rw[N9 l9,if_neg h0];rfl
variable {q:Int}
theorem a3e(neg:Bool)(h0:0<=q)(h:q<=9000000000000000000):DW q neg=some (sg q neg):=by unfold DW sg;rw[show wrap .i64 q=q from nY U0,U2 U0,show(0:Int) -q=-q by omega];cases neg<;>rfl
theorem YF{q r d:Int}(neg:Bool)(mode:Int)(hq:0<=q)(hq2:q<=9000000000000000000)(hr:0<=r)(hrd:r<d)(hd:d<=9000000000000000000):qj q r d neg mode=some (q1 q (upS q r d neg mode)):=by
 unfold qj upS q1;rw[show A7 .u64 q 1=q+1 from Hm l9 l9,show J3 .u64 d r=d -r from Hm l9 l9];cases x8 r 0
 case true=>rfl
 cases x8 mode 0
 case true=>cases neg<;>rfl
 cases x8 mode 1
 case true=>cases neg<;>rfl
 cases x8 mode 3
 case true=>rfl
 cases x8 mode 4
 case true=>cases N7 (d -r) r<;>rfl
 cases x8 mode 5
 .rfl
 cases E9 (d -r) r
 case true=>rfl
 cases x8 r (d -r)
 .rfl
 cases x8 (eF q 2) 1<;>rfl
theorem a7a{q r d:Int}(neg:Bool)(mode:Int)(hr:0<=r)(hrd:r<d)(hd:d<=9000000000000000000):FN q r d neg mode=some (upS q r d neg mode):=by
 unfold FN upS;rw[show J3 .u64 d r=d -r from Hm l9 l9];cases x8 r 0
 case true=>rfl
 cases x8 mode 0
 case true=>rfl
 cases x8 mode 1
 case true=>rfl
 cases x8 mode 3
 case true=>rfl
 cases x8 mode 4
 case true=>rfl
 cases x8 mode 5
 .rfl
 cases E9 (d -r) r
 case true=>rfl
 cases x8 r (d -r)<;>rfl
theorem Gp{q r d:Int}(neg:Bool)(mode:Int)(hq:0<=q)(hq2:q<=9000000000000000000)(hr:0<=r)(hrd:r<d)(hd:d<=9000000000000000000):pK q r d neg mode=some (sg (q1 q (upS q r d neg mode)) neg):=by
 unfold pK upS q1 sg;rw[X7 (show jl (q+1) by unfold jl;omega),U2 (show jl (d -r) by unfold jl;omega),U2 (show jl (0 -(q+1)) by unfold jl;omega),U2 (show jl (0 -q) by unfold jl;omega),show(0:Int) -(q+1)=-(q+1) by omega,show(0:Int) -q=-q by omega];by_cases hz:r=0
 .rw[J7 hz,N9 (show r<=0 by omega),ax (show r<d -r by omega),N9 (show r<=d -r by omega),J6 (show r≠d -r by omega)];cases x8 mode 0<;>cases x8 mode 1<;>cases x8 mode 3<;>cases x8 mode 4<;>cases x8 mode 5<;>cases neg<;>rfl
 .rw[J6 hz,V5 (show 0<r by omega)];cases x8 mode 0
  case true=>cases neg<;>rfl
  cases x8 mode 1
  case true=>cases neg<;>rfl
  cases x8 mode 3
  case true=>cases neg<;>rfl
  cases x8 mode 4
  case true=>cases N7 (d -r) r<;>cases neg<;>rfl
  cases x8 mode 5
  .cases neg<;>rfl
  cases E9 (d -r) r
  case true=>cases neg<;>rfl
  cases x8 r (d -r)
  .cases neg<;>rfl
  cases x8 (eF q 2) 1<;>cases neg<;>rfl
theorem mM(n:Int):0<=aH n:=by unfold aH;split<;>omega
theorem Ah(h:-m<=n/\n<=m):aH n<=m:=by unfold aH;split<;>omega
theorem PU(h:n≠0):0<aH n:=by unfold aH;split<;>omega
def rnd(n d mode:Int):Int:=sg (q1 (aH n / aH d) (upS (aH n / aH d) (aH n % aH d) (aH d) (D9 (jT (E9 n 0) (E9 d 0))) mode)) (D9 (jT (E9 n 0) (E9 d 0)))
def a8h(n d mode:Int):Int×Int:=l7 (qi mode) (l7 (x8 d 0) (0,12) (l7 (jM n 4611686018427387904) (0,3) (l7 (jM d 4611686018427387904) (0,3) (rnd n d mode,0)))) (0,1)
theorem a0t(q:Int)(u:Bool):q<=q1 q u/\q1 q u<=q+1:=by unfold q1;cases u<;>simp only[o7,o6]<;>omega
theorem JQ(n d mode:Int):kz n d mode=some (a8h n d mode):=by
 unfold kz a8h;rw[Eu,o8];cases qi mode
 .rfl
 simp only[E5,o6,o7];cases hd:x8 d 0
 case true=>rfl
 rw[yD]at hd;simp only[o6];rw[wG n l9 l9,o8];cases h1:jM n 4611686018427387904
 case true=>rfl
 simp only[o6];rw[wG d l9 l9,o8];cases h2:jM d 4611686018427387904
 case true=>rfl
 have b1:=oL h1;have b2:=oL h2;have a1:=mM n;have a2:=Ah b1;have a3:=PU hd;have a4:=Ah b2;have e0:=Y8 a1 (show 0<=aH d by omega);have e1:=fJ (aH d) a1;have e2:=U3 (aH n) (show aH d≠0 by omega);have e3:=O7 (aH n) a3;have q:=a0t (aH n / aH d) (upS (aH n / aH d) (aH n % aH d) (aH d) (D9 (jT (E9 n 0) (E9 d 0))) mode);simp only[o6];rw[DT l9 l9,o8,DT l9 l9,o8,Rj a1 l9 a3,o8,CP a1 a3,o8,YF _ _ e0 l9 e2 e3 l9,o8,a3e _ l9 l9];rfl
theorem yw{a b:Int}(ha:0<=a)(ha' :a<=9000000000000000000)(hb:0<b):qZ .i64 a b=some (a / b):=by unfold qZ;rw[if_neg l9,kQ ha];have h1:=Y8 ha (show 0<=b by omega);have h2:=fJ b ha;rw[nY U0]
theorem a4m(n d mode:Int):DZ n d mode=some (a8h n d mode):=by
 unfold DZ a8h;rw[Vx,o8];cases qi mode
 .rfl
 simp only[E5,o6,o7];cases hd:x8 d 0
 case true=>rfl
 rw[yD]at hd;simp only[o6];rw[vO n l9 l9,o8];cases h1:jM n 4611686018427387904
 case true=>rfl
 simp only[o6];rw[vO d l9 l9,o8];cases h2:jM d 4611686018427387904
 case true=>rfl
 have b1:=oL h1;have b2:=oL h2;have a1:=mM n;have a2:=Ah b1;have a3:=PU hd;have a4:=Ah b2;have e0:=Y8 a1 (show 0<=aH d by omega);have e1:=fJ (aH d) a1;have e2:=U3 (aH n) (show aH d≠0 by omega);have e3:=O7 (aH n) a3;simp only[o6];rw[RI l9 l9,o8,RI l9 l9,o8,yw a1 l9 a3,o8,CP a1 a3,o8,Gp _ _ e0 l9 e2 e3 l9];rfl
def toS(c u mode:Int):Int×Int:=l7 (qi mode) (l7 (E9 u 1) (0,12) (l7 (jM c 1000000000000000) (0,3) (l7 (E9 1000000000000000 u) (0,3) (l7 (jM (aA .i64 (rnd c u mode) u) 1000000000000000) (0,3) (aA .i64 (rnd c u mode) u,0))))) (0,1)
theorem a9g(c u mode:Int):Be c u mode=some (toS c u mode):=by
 unfold Be toS;rw[Eu,o8];cases hm:qi mode
 .rfl
 simp only[E5,o6,o7];cases hu:E9 u 1
 case true=>rfl
 rw[iU]at hu;simp only[o6];rw[wG c l9 l9,o8];cases h1:jM c 1000000000000000
 case true=>rfl
 have b1:=oL h1;simp only[o6];cases h2:E9 1000000000000000 u
 case true=>rfl
 rw[iU]at h2;simp only[o6];have n1:jM c 4611686018427387904=false:=QT l9;have n2:jM u 4611686018427387904=false:=QT l9;rw[JQ,o8];unfold a8h;rw[hm,J6 (show u≠0 by omega),n1,n2];simp only[o7,o6,J7 (rfl:(0:Int)=0),E5];rw[wG _ l9 l9,o8];cases jM (aA .i64 (rnd c u mode) u) 1000000000000000<;>rfl
theorem a6N(c u mode:Int):FO c u mode=some (toS c u mode):=by
 unfold FO toS;rw[Vx,o8];cases hm:qi mode
 .rfl
 simp only[E5,o6,o7];cases hu:E9 u 1
 case true=>rfl
 rw[iU]at hu;simp only[o6];rw[vO c l9 l9,o8];cases h1:jM c 1000000000000000
 case true=>rfl
 have b1:=oL h1;simp only[o6];cases h2:E9 1000000000000000 u
 case true=>rfl
 rw[iU]at h2;simp only[o6];have a1:=mM c;have a2:=Ah b1;have hu' :aH u=u:=by unfold aH;rw[if_neg l9]
 have e0:=Y8 a1 (show 0<=u by omega);have e1:=fJ u a1;have e2:=U3 (aH c) (show u≠0 by omega);have e3:=O7 (aH c) (show 0<u by omega);rw[RI l9 l9,o8,yw a1 l9 l9,o8,CP a1 l9,o8,Gp _ _ e0 l9 e2 e3 l9,o8];have hr:sg (q1 (aH c / u) (upS (aH c / u) (aH c % u) u (E9 c 0) mode)) (E9 c 0)=rnd c u mode:=by unfold rnd;rw[hu',show D9 (jT (E9 c 0) (E9 u 0))=E9 c 0 by rw[N9 (show(0:Int)<=u by omega)];cases E9 c 0<;>rfl]
 rw[hr,vO _ l9 l9,o8];cases jM (aA .i64 (rnd c u mode) u) 1000000000000000<;>rfl
def mdS(c num den mode:Int):Int×Int:=l7 (qi mode) (l7 (x8 den 0) (0,12) (l7 (jM c 1000000000000000) (0,3) (l7 (jM num 1000000000) (0,3) (l7 (jM den 1000000000) (0,3)
 (l7 (E9 1000000000000000 (q1 (aH c*aH num / aH den) (upS (aH c*aH num / aH den) (aH c*aH num % aH den) (aH den) (D9 (jT (D9 (jT (E9 c 0) (E9 num 0))) (E9 den 0))) mode))) (0,3)
  (sg (q1 (aH c*aH num / aH den) (upS (aH c*aH num / aH den) (aH c*aH num % aH den) (aH den) (D9 (jT (D9 (jT (E9 c 0) (E9 num 0))) (E9 den 0))) mode)) (D9 (jT (D9 (jT (E9 c 0) (E9 num 0))) (E9 den 0))),0)))))) (0,1)
theorem Vd{a b:Int}(a0:0<=a)(a1:a<18446744073709551616)(b0:0<=b)(b1:b<18446744073709551616):wC a b=some (a*b / 18446744073709551616,a*b % 18446744073709551616):=by unfold wC;rw[if_pos ⟨a0,a1,b0,b1⟩]
theorem b2l(c num den mode:Int):Ij c num den mode=some (mdS c num den mode):=by
 unfold Ij mdS;rw[Eu,o8];cases qi mode
 .rfl
 simp only[E5,o6,o7];cases hd:x8 den 0
 case true=>rfl
 rw[yD]at hd;simp only[o6];rw[wG c l9 l9,o8];cases h1:jM c 1000000000000000
 case true=>rfl
 rw[wG num l9 l9];cases h2:jM num 1000000000
 case true=>rfl
 rw[wG den l9 l9];cases h3:jM den 1000000000
 case true=>rfl
 have b1:=oL h1;have b2:=oL h2;have b3:=oL h3;have a1:=mM c;have a2:=Ah b1;have x1:=mM num;have x2:=Ah b2;have d1:=PU hd;have d2:=Ah b3;simp only[o6,o8,L6];rw[DT l9 l9,o8,DT l9 l9,o8,Vd a1 l9 x1 l9,o8,DT l9 l9,o8];have hA:0<=aH c*aH num:=U4 a1 x1;generalize aH c*aH num=A at*;generalize aH den=b at*;have hre:A / 18446744073709551616*18446744073709551616+A % 18446744073709551616=A:=l9;have q:=a0t (A / b) (upS (A / b) (A % b) b (D9 (jT (D9 (jT (E9 c 0) (E9 num 0))) (E9 den 0))) mode);have hdm:=Y1 A b;have e2:=U3 A (show b≠0 by omega);have e3:=O7 A d1;have e0:=Y8 hA (show 0<=b by omega);by_cases hh:b<=A / 18446744073709551616
 .have hge:18446744073709551616<=A / b:=tC d1 l9;rw[Z9 hh,V5 (show(1000000000000000:Int)<q1 (A / b) (upS (A / b) (A % b) b (D9 (jT (D9 (jT (E9 c 0) (E9 num 0))) (E9 den 0))) mode) by omega)];rfl
 .rw[ax l9,o6,h_ l9 l9 l9 l9 l9,o8,hre];simp only;by_cases hM:1000000000000000<A / b
  .rw[V5 hM,V5 (show(1000000000000000:Int)<q1 (A / b) (upS (A / b) (A % b) b (D9 (jT (D9 (jT (E9 c 0) (E9 num 0))) (E9 den 0))) mode) by omega)];rfl
  .rw[N9 l9,o6,YF _ _ e0 l9 e2 e3 l9,o8];cases hq:E9 1000000000000000 (q1 (A / b) (upS (A / b) (A % b) b (D9 (jT (D9 (jT (E9 c 0) (E9 num 0))) (E9 den 0))) mode))
   .rw[iU]at hq;rw[o6,a3e _ l9 l9];rfl
   .rfl
theorem b3Q(h:0<=q)(neg:Bool)(hm:0<=m):jM (sg q neg) m=E9 m q:=by rw[gu,Uw,iW];unfold sg;cases neg<;>simp only[o7,o6]<;>omega
theorem a8W(c num den mode:Int):NS c num den mode=some (mdS c num den mode):=by
 unfold NS mdS;rw[Vx,o8];cases qi mode
 .rfl
 simp only[E5,o6,o7];cases hd:x8 den 0
 case true=>rfl
 rw[yD]at hd;simp only[o6];rw[vO c l9 l9,o8];cases h1:jM c 1000000000000000
 case true=>rfl
 rw[vO num l9 l9];cases h2:jM num 1000000000
 case true=>rfl
 rw[vO den l9 l9];cases h3:jM den 1000000000
 case true=>rfl
 have b1:=oL h1;have b2:=oL h2;have b3:=oL h3;have a1:=mM c;have a2:=Ah b1;have x1:=mM num;have x2:=Ah b2;have d1:=PU hd;have d2:=Ah b3;simp only[o6,o8,L6];rw[RI l9 l9,o8,RI l9 l9,o8,RI l9 l9,o8];generalize D9 (jT (D9 (jT (E9 c 0) (E9 num 0))) (E9 den 0))=neg;generalize aH c=a at*;generalize aH num=x at*;generalize aH den=b at*;have hdm:=Y1 a b;have f0:=Y8 a1 (show 0<=b by omega);have f1:=U3 a (show b≠0 by omega);have f2:=O7 a d1;have m1:0<=a % b*x:=U4 f1 x1;have m2:a % b*x<=1000000000*1000000000:=kT l9 x2 x1 l9;have m3:0<=a / b*x:=U4 f0 x1;have hA:a*x=a / b*x*b+a % b*x:=by
  calc a*x=(a / b*b+a % b)*x:=by rw[hdm]
   _=_:=by rw[jf,jQ]
 have hQ:a*x / b=a / b*x+a % b*x / b:=by rw[hA,Int.add_comm,aY _ _ l9,Int.add_comm]
 have hR:a*x % b=a % b*x % b:=by rw[hA,Int.add_comm,dD]
 have g0:=Y8 m1 (show 0<=b by omega);have g1:=fJ b m1;have g2:=U3 (a % b*x) (show b≠0 by omega);have g3:=O7 (a % b*x) d1;have tail:a / b*x<=1000000000000000->(o5 (AL a b) λ(x_5:Int)=>o5 (some (a / b)) λ(x_8:Int)=>o5 (qZ .i64 (aA .i64 x_5 x) b) λ(x_6:Int)=>o5 (AL (aA .i64 x_5 x) b) λ(x_7:Int)=>
   o5 (pK (A7 .i64 (aA .i64 x_8 x) x_6) x_7 b neg mode) λ(x_9:Int)=>o5 (kL x_9 1000000000000000) λ(x_8:Bool)=>l7 x_8 (some ((0:Int),(3:Int))) (some (x_9,0)))=
   some (l7 (E9 1000000000000000 (q1 (a*x / b) (upS (a*x / b) (a*x % b) b neg mode))) (0,3) (sg (q1 (a*x / b) (upS (a*x / b) (a*x % b) b neg mode)) neg,0)):=by
  intro hle;have q:=a0t (a / b*x+a % b*x / b) (upS (a / b*x+a % b*x / b) (a % b*x % b) b neg mode);rw[CP a1 d1,o8,o8,nH (show jl (a % b*x) by unfold jl;omega),yw m1 l9 d1,o8,CP m1 d1,o8,nH (show jl (a / b*x) by unfold jl;omega),X7 (show jl (a / b*x+a % b*x / b) by unfold jl;omega),
   Gp _ _ l9 l9 g2 g3 l9,o8,vO _ l9 l9,o8,b3Q l9 _ l9,hQ,hR]
  cases E9 1000000000000000 (q1 (a / b*x+a % b*x / b) (upS (a / b*x+a % b*x / b) (a % b*x % b) b neg mode))<;>rfl
 by_cases hx:0<x
 .rw[V5 hx,o7,yw a1 l9 d1,o8,yw l9 l9 hx,o8];have hMx:=Y1 1000000000000000 x;have hMr:=O7 1000000000000000 hx;have hMr0:=U3 1000000000000000 (show x≠0 by omega);by_cases hc:1000000000000000 / x<a / b
  .have:=P7 (show 1000000000000000 / x+1<=a / b by omega) x1;rw[jf,gG]at this;have q:=a0t (a*x / b) (upS (a*x / b) (a*x % b) b neg mode);rw[V5 hc,V5 (show(1000000000000000:Int)<q1 (a*x / b) (upS (a*x / b) (a*x % b) b neg mode) by omega)];rfl
  .have:=P7 (show a / b<=1000000000000000 / x by omega) x1;rw[N9 l9,o6];exact tail l9
 .have:x=0:=l9;rw[N9 l9,o6,yw a1 l9 d1];exact tail (by subst this;simp)
theorem b3I(c r mode:Int):Jj c r mode=some (mdS c r 1000000 mode):=by unfold Jj;rw[b2l];rfl
theorem b2G(c r mode:Int):Kr c r mode=some (mdS c r 1000000 mode):=by unfold Kr;rw[a8W];rfl
variable {d:Int}
theorem a5L(h1:-9000000000000000000<=n)(h2:n<=9000000000000000000)(hd:0<d)(hd2:d<=9000000000000000000):CY n d=some (n / d,n % d):=by
 unfold CY qZ AL;rw[if_neg l9,if_neg l9,o8,o8];by_cases h0:0<=n
 .have e0:=Y8 h0 (show 0<=d by omega);have e1:=fJ d h0;have e2:=U3 n (show d≠0 by omega);rw[kQ h0,fQ h0,nY U0,N9 e2];rfl
 .obtain⟨m,hm⟩:∃m,m=-n:=⟨_,rfl⟩;have hn:n=-m:=l9;subst hn;have e0:=Y8 (show 0<=m by omega) (show 0<=d by omega);have e1:=fJ d (show 0<=m by omega);have e2:=U3 m (show d≠0 by omega);have e3:=O7 m hd;have hdm:=Y1 m d;rw[Int.neg_tdiv,Int.neg_tmod,kQ l9,fQ l9,nY U0];by_cases hz:m % d=0
  .rw[hz,show -(0:Int)=0 from rfl,N9 l9,o6];have hme:-m=0+(-(m / d))*d:=by rw[kJ];omega
   have q1:-m / d=-(m / d):=by rw[hme,aY _ _ l9];simp
   have q2:-m % d=0:=by rw[hme,dD];simp
   rw[q1,q2]
  .rw[V5 l9,o7,U2 U0,X7 U0];have hme:-m=(d -m % d)+(-(m / d) -1)*d:=by rw[mO,kJ,gG];omega
   have q1:-m / d=-(m / d) -1:=by rw[hme,aY _ _ l9,mX l9 l9];omega
   have q2:-m % d=d -m % d:=by rw[hme,dD,Int.emod_eq_of_lt l9 l9]
   rw[q1,q2,show -(m % d)+d=d -m % d by omega]
theorem JY(h:qi m=true):m=0\/m=1\/m=2\/m=3\/m=4\/m=5:=by
 unfold qi at h;cases h0:N7 0 m<;>rw[h0]at h
 .cases h
 .simp only[o7]at h;rw[jJ]at h0 h;omega
variable {mode:Int}
theorem Kv(h1:-9000000000000000000<=n / d)(h2:n / d<=9000000000000000000)(hd:0<d)(hd2:d<=9000000000000000000)(hm:qi mode=true):fE (n / d) (n % d) d mode=some (rnd n d mode):=by
 have hdm:=Y1 n d;have f0:=U3 n (show d≠0 by omega);have f1:=O7 n hd;have hid:aH d=d:=by unfold aH;rw[if_neg l9]
 have hneg:D9 (jT (E9 n 0) (E9 d 0))=E9 n 0:=by rw[N9 (show(0:Int)<=d by omega)];cases E9 n 0<;>rfl
 unfold rnd;rw[hid,hneg];have R0:∀F R:Int,fE F R d 0=l7 (x8 R 0) (some F) (some F):=λF R=>rfl;have R1:∀F R:Int,fE F R d 1=l7 (x8 R 0) (some F) (some (A7 .i64 F 1)):=λF R=>rfl;have R2:∀F R:Int,fE F R d 2=l7 (x8 R 0) (some F) (o5 (l7 (E9 F 0) (some true) (some false)) λx=>l7 x (some (A7 .i64 F 1)) (some F)):=λF R=>rfl;have R3:∀F R:Int,fE F R d 3=l7 (x8 R 0) (some F) (o5 (some (N7 0 F)) λx=>l7 x (some (A7 .i64 F 1)) (some F)):=λF R=>rfl;have R4:∀F R:Int,fE F R d 4=l7 (x8 R 0) (some F) (l7 (x8 R (J3 .i64 d R)) (l7 (N7 0 F) (some (A7 .i64 F 1)) (some F)) (l7 (E9 (J3 .i64 d R) R) (some (A7 .i64 F 1)) (some F))):=λF R=>rfl;have R5:∀F R:Int,fE F R d 5=l7 (x8 R 0) (some F) (l7 (x8 R (J3 .i64 d R)) (l7 (D9 (x8 (eF F 2) 0)) (some (A7 .i64 F 1)) (some F)) (l7 (E9 (J3 .i64 d R) R) (some (A7 .i64 F 1)) (some F))):=λF R=>rfl;have u0:∀q r:Int,∀b,upS q r d b 0=l7 (x8 r 0) false b:=λq r b=>rfl;have u1:∀q r:Int,∀b,upS q r d b 1=l7 (x8 r 0) false (D9 b):=λq r b=>rfl;have u2:∀q r:Int,∀b,upS q r d b 2=l7 (x8 r 0) false false:=λq r b=>rfl;have u3:∀q r:Int,∀b,upS q r d b 3=l7 (x8 r 0) false true:=λq r b=>rfl;have u4:∀q r:Int,∀b,upS q r d b 4=l7 (x8 r 0) false (N7 (d -r) r):=λq r b=>rfl;have u5:∀q r:Int,∀b,upS q r d b 5=l7 (x8 r 0) false (l7 (E9 (d -r) r) true (l7 (x8 r (d -r)) (x8 (eF q 2) 1) false)):=λq r b=>rfl;by_cases h0:0<=n
 .have e0:=Y8 h0 (show 0<=d by omega);have e1:=fJ d h0;rw[show aH n=n by unfold aH;rw[if_neg l9],N9 h0];have hi:A7 .i64 (n / d) 1=n / d+1:=X7 U0;have hs:J3 .i64 d (n % d)=d -n % d:=U2 U0;have hir:eF (n / d) 2=(n / d) % 2:=Ba e0;generalize n / d=F at*;generalize n % d=R at*;rcases JY hm with rfl|rfl|rfl|rfl|rfl|rfl
  .rw[R0,u0];cases x8 R 0<;>rfl
  .rw[R1,u1,hi];cases x8 R 0<;>rfl
  .rw[R2,u2,hi,N9 e0];cases x8 R 0<;>rfl
  .rw[R3,u3,hi,Z9 e0];cases x8 R 0<;>rfl
  .rw[R4,u4,hi,hs,Z9 e0];cases x8 R 0
   case true=>rfl
   by_cases ht:R=d -R
   .rw[J7 ht,Z9 (show d -R<=R by omega)];rfl
   .rw[J6 ht];by_cases hl:d -R<R
    .rw[V5 hl,Z9 (show d -R<=R by omega)];rfl
    .rw[N9 (show R<=d -R by omega),ax (show R<d -R by omega)];rfl
  .rw[R5,u5,hi,hs,hir];cases x8 R 0
   case true=>rfl
   by_cases ht:R=d -R
   .rw[J7 ht,N9 (show R<=d -R by omega)];by_cases hp:F % 2=0
    .rw[J7 hp,J6 (show F % 2≠1 by omega)];rfl
    .rw[J6 hp,J7 (show F % 2=1 by omega)];rfl
   .rw[J6 ht];by_cases hl:d -R<R
    .rw[V5 hl];rfl
    .rw[N9 (show R<=d -R by omega)];rfl
 .obtain⟨m,hmm⟩:∃m,m=-n:=⟨_,rfl⟩;have e0:=Y8 (show 0<=m by omega) (show 0<=d by omega);have e1:=fJ d (show 0<=m by omega);have e2:=U3 m (show d≠0 by omega);have e3:=O7 m hd;have hdm2:=Y1 m d;rw[show aH n=m by unfold aH;rw[if_pos l9];omega,V5 l9];by_cases hz:m % d=0
  .have hne:n=0+(-(m / d))*d:=by rw[kJ];omega
   have q1:n / d=-(m / d):=by rw[hne,aY _ _ l9];simp
   have q2:n % d=0:=by rw[hne,dD];simp
   rw[q1,q2,hz];rcases JY hm with rfl|rfl|rfl|rfl|rfl|rfl<;>rfl
  .have hne:n=(d -m % d)+(-(m / d) -1)*d:=by rw[mO,kJ,gG];omega
   have q1:n / d=-(m / d) -1:=by rw[hne,aY _ _ l9,mX l9 l9];omega
   have q2:n % d=d -m % d:=by rw[hne,dD,Int.emod_eq_of_lt l9 l9]
   rw[q1]at h1 h2;rw[q1,q2];generalize m / d=q at*;generalize m % d=r at*;have hi:A7 .i64 (-q -1) 1=-q:=by rw[X7 U0];omega
   have hs:J3 .i64 d (d -r)=r:=by rw[U2 U0];omega
   have hF:∀k:Int,Go.GP.q1 q false=q/\Go.GP.q1 q true=q+1:=λk=>⟨rfl,rfl⟩;have sg1:sg (Go.GP.q1 q true) true=-q -1:=by show -(q+1)=-q -1;omega
   have sg0:sg (Go.GP.q1 q false) true=-q:=rfl;have hr0:x8 (d -r) 0=false:=J6 l9;have hr1:x8 r 0=false:=J6 hz;rcases JY hm with rfl|rfl|rfl|rfl|rfl|rfl
   .rw[R0,u0,hr0,hr1,o6,o6,sg1]
   .rw[R1,u1,hi,hr0,hr1,o6,o6,E5,sg0]
   .rw[R2,u2,hi,hr0,hr1,o6,o6,sg0,V5 l9];rfl
   .rw[R3,u3,hi,hr0,hr1,o6,o6,sg1,ax l9];rfl
   .rw[R4,u4,hi,hs,hr0,hr1,o6,o6,ax (show -q -1<0 by omega)];by_cases ht:d -r=r
    .rw[J7 ht,Z9 (show d -r<=r by omega),sg1];rfl
    .rw[J6 ht];by_cases hl:r<d -r
     .rw[V5 hl,ax hl,sg0];rfl
     .rw[N9 (show d -r<=r by omega),Z9 (show d -r<=r by omega),sg1];rfl
   .rw[R5,u5,hi,hs,hr0,hr1,o6,o6];by_cases ht:d -r=r
    .rw[J7 ht,N9 (show r<=d -r by omega),J7 ht.symm];have hodd:eF (-q -1) 2=-((q+1) % 2):=by
      unfold eF;rw[show -q -1=-(q+1) by omega,Int.neg_tmod,fQ l9]
     have hir:eF q 2=q % 2:=Ba e0;rw[hodd,hir];simp only[o7,o6];by_cases hp:q % 2=1
     .rw[J7 (show -((q+1) % 2)=0 by omega),J7 hp,sg1];rfl
     .rw[J6 (show -((q+1) % 2)≠0 by omega),J6 hp,sg0];rfl
    .rw[J6 ht,J6 (show r≠d -r by omega)];by_cases hl:r<d -r
     .rw[V5 hl,N9 (show r<=d -r by omega)];simp only[o7,o6];rw[sg0]
     .rw[N9 (show d -r<=r by omega),V5 (show d -r<r by omega)];simp only[o7,o6];rw[sg1]
def b1d(a b mode:Int):Int×Int:=l7 (qi mode) (l7 (jM a 1000000000) (0,3) (l7 (jM b 1000000000) (0,3) (l7 (jM (rnd (a*b) 1000000 mode) 1000000000) (0,3) (rnd (a*b) 1000000 mode,0)))) (0,1)
theorem b0Y{a b A B:Int}(h1:-A<=a/\a<=A)(h2:-B<=b/\b<=B):-(A*B)<=a*b/\a*b<=A*B:=by
 have hA:0<=A:=l9;have hB:0<=B:=l9;have k1:a*b<=A*B/\-(A*B)<=a*b:=by
  rcases Su a 0 with ha|ha
  .have e:a*b=-((-a)*b):=by rw[kJ];omega
   rcases Su b 0 with hb|hb
   .have e2:a*b=(-a)*(-b):=by rw[Int.neg_mul_neg]
    have:=kT (show -a<=A by omega) (show -b<=B by omega) l9 hA;have:=U4 (show 0<=-a by omega) (show 0<=-b by omega);have:=U4 hA hB;omega
   .have:=kT (show -a<=A by omega) h2.2 hb hA;have:=U4 (show 0<=-a by omega) hb;have:=U4 hA hB;omega
  .rcases Su b 0 with hb|hb
   .have e:a*b=-(a*(-b)):=by rw[Int.mul_neg];omega
    have:=kT h1.2 (show -b<=B by omega) l9 hA;have:=U4 ha (show 0<=-b by omega);have:=U4 hA hB;omega
   .have:=kT h1.2 h2.2 hb hA;have:=U4 ha hb;have:=U4 hA hB;omega
 exact⟨k1.2,k1.1⟩
theorem b9n(a b mode:Int):Qk a b mode=some (b1d a b mode):=by
 unfold Qk b1d;rw[Yw,o8];cases hm:qi mode
 .rfl
 simp only[E5,o6,o7];rw[Bf a l9 l9,o8];cases h1:jM a 1000000000
 case true=>rfl
 simp only[o6];rw[Bf b l9 l9,o8];cases h2:jM b 1000000000
 case true=>rfl
 simp only[o6];have pb:=b0Y (oL h1) (oL h2);rw[nH U0,JQ,o8];unfold a8h;rw[hm,J6 (show(1000000:Int)≠0 by decide),QT l9,QT l9];simp only[o7,o6,J7 (rfl:(0:Int)=0),E5];rw[Bf _ l9 l9,o8];cases jM (rnd (a*b) 1000000 mode) 1000000000<;>rfl
theorem a6m{A B:Option (PUnit⊕(Int×Int))} :l7 (E9 m 0) A (l7 (E9 5 m) A B)=l7 (qi m) B A:=by unfold qi;rw[pI m 0,pI 5 m];cases N7 0 m<;>cases N7 m 5<;>rfl
theorem b6h(a b mode:Int):RJ a b mode=some (b1d a b mode):=by
 unfold RJ b1d;have hmode:∀A B:c9p,l7 (E9 mode 0) A (l7 (E9 5 mode) A B)=l7 (qi mode) B A:=λA B=>by unfold qi;rw[pI mode 0,pI 5 mode];cases N7 0 mode<;>cases N7 mode 5<;>rfl
 rw[hmode];cases hm:qi mode
 .rfl
 simp only[o7];rw[zq a l9 l9,o8];cases h1:jM a 1000000000
 case true=>rfl
 simp only[o6];rw[zq b l9 l9,o8];cases h2:jM b 1000000000
 case true=>rfl
 simp only[o6];have pb:=b0Y (oL h1) (oL h2);rw[nH U0,a5L l9 l9 l9 l9,o8];simp only;rw[Kv l9 l9 l9 l9 hm,o8,zq _ l9 l9,o8];cases jM (rnd (a*b) 1000000 mode) 1000000000<;>rfl
theorem a9e(mode:Int)(hd:0<d):n / d<=rnd n d mode/\rnd n d mode<=n / d+1:=by
 have hid:aH d=d:=by unfold aH;rw[if_neg l9]
 have hneg:D9 (jT (E9 n 0) (E9 d 0))=E9 n 0:=by rw[N9 (show(0:Int)<=d by omega)];cases E9 n 0<;>rfl
 unfold rnd;rw[hid,hneg];by_cases h0:0<=n
 .rw[show aH n=n by unfold aH;rw[if_neg l9],N9 h0];exact a0t _ _
 .obtain⟨m,hmm⟩:∃m,m=-n:=⟨_,rfl⟩;have e2:=U3 m (show d≠0 by omega);have e3:=O7 m hd;have hdm2:=Y1 m d;rw[show aH n=m by unfold aH;rw[if_pos l9];omega,V5 l9];have hq:=a0t (m / d) (upS (m / d) (m % d) d true mode);by_cases hz:m % d=0
  .have hne:n=0+(-(m / d))*d:=by rw[kJ];omega
   have q1:n / d=-(m / d):=by rw[hne,aY _ _ l9];simp
   have hu:upS (m / d) (m % d) d true mode=false:=by unfold upS;rw[J7 hz];rfl
   rw[q1,hu];show -(m / d)<=-(m / d)/\-(m / d)<=-(m / d)+1;omega
  .have hne:n=(d -m % d)+(-(m / d) -1)*d:=by rw[mO,kJ,gG];omega
   have q1:n / d=-(m / d) -1:=by rw[hne,aY _ _ l9,mX l9 l9];omega
   rw[q1];show -(m / d) -1<=-(Go.GP.q1 _ _)/\-(Go.GP.q1 _ _)<=_;omega
theorem b9o(n d mode:Int)(hd:d<0):rnd n d mode=rnd (-n) (-d) mode:=by
 have e1:aH (-n)=aH n:=by unfold aH;split<;>split<;>omega
 have e2:aH (-d)=aH d:=by unfold aH;rw[if_neg l9,if_pos hd]
 unfold rnd;rw[e1,e2,V5 hd,N9 (show 0<=-d by omega)];by_cases h0:n=0
 .subst h0;have hz:aH 0=0:=rfl;rw[hz,Int.zero_ediv,Int.zero_emod];have hu:∀b,upS 0 0 (aH d) b mode=false:=λb=>rfl;rw[hu,hu];rfl
 .by_cases h1:n<0
  .rw[V5 h1,N9 (show 0<=-n by omega)];rfl
  .rw[N9 l9,V5 (show -n<0 by omega)];rfl
def b9e(num den mode:Int):Int×Int:=l7 (qi mode) (l7 (x8 den 0) (0,12) (l7 (jM num 1000000000000000) (0,3) (l7 (jM den 1000000000000000) (0,3) (l7 (jM (rnd (num*1000000) den mode) 1000000000) (0,3) (rnd (num*1000000) den mode,0))))) (0,1)
theorem UN(h:-9000000000000000000<=n)(h2:n<=9000000000000000000):wrap .u64 (oD n (J3 .i64 0 n))=aH n:=by
 rw[U2 U0];unfold oD aH;by_cases h0:n<0
 .rw[if_pos l9,if_pos h0,show(0:Int) -n=-n by omega];exact Hm l9 l9
 .rw[if_neg h0];by_cases hz:n=0
  .subst hz;rfl
  .rw[if_neg l9];exact Hm l9 l9
theorem a3G(num den mode:Int):zu num den mode=some (b9e num den mode):=by
 unfold zu b9e;rw[Yw,o8];cases hm:qi mode
 .rfl
 simp only[E5,o6,o7];cases hd:x8 den 0
 case true=>rfl
 rw[yD]at hd;simp only[o6];rw[Bf num l9 l9,o8];cases h1:jM num 1000000000000000
 case true=>rfl
 simp only[o6];rw[Bf den l9 l9,o8];cases h2:jM den 1000000000000000
 case true=>rfl
 simp only[o6];have b1:=oL h1;have b2:=oL h2;have a1:=mM num;have a2:=Ah b1;have d1:=PU hd;have d2:=Ah b2;rw[UN l9 l9,UN l9 l9,Vd a1 l9 l9 l9,o8];have hN:aH (num*1000000)=aH num*1000000:=by unfold aH;split<;>split<;>omega
 have hsgn:E9 (num*1000000) 0=E9 num 0:=by
  by_cases h:num<0
  .rw[V5 h,V5 l9]
  .rw[N9 l9,N9 l9]
 have hA:0<=aH num*1000000:=l9;have hrn:rnd (num*1000000) den mode=sg (q1 (aH num*1000000 / aH den) (upS (aH num*1000000 / aH den) (aH num*1000000 % aH den) (aH den) (D9 (jT (E9 num 0) (E9 den 0))) mode)) (D9 (jT (E9 num 0) (E9 den 0))):=by unfold rnd;rw[hN,hsgn]
 rw[hrn];have hA2:aH num*1000000<18446744073709551616*1000:=l9;generalize aH num*1000000=A at*;generalize aH den=b at*;generalize D9 (jT (E9 num 0) (E9 den 0))=neg at*;have hre:A / 18446744073709551616*18446744073709551616+A % 18446744073709551616=A:=l9;have q:=a0t (A / b) (upS (A / b) (A % b) b neg mode);have e0:=Y8 hA (show 0<=b by omega);have e2:=U3 A (show b≠0 by omega);have e3:=O7 A d1;rw[b3Q l9 _ l9];by_cases hh:b<=A / 18446744073709551616
 .have hge:18446744073709551616<=A / b:=tC d1 l9;rw[Z9 hh,V5 (show(1000000000:Int)<q1 (A / b) (upS (A / b) (A % b) b neg mode) by omega)];rfl
 .rw[ax l9,o6,h_ l9 l9 l9 l9 l9,o8,hre];simp only;by_cases hM:1000000000<A / b
  .rw[V5 hM,V5 (show(1000000000:Int)<q1 (A / b) (upS (A / b) (A % b) b neg mode) by omega)];rfl
  .have w1:wrap .i64 (A / b)=A / b:=nY U0;have w2:A7 .i64 (A / b) 1=A / b+1:=X7 U0;have w3:J3 .i64 0 (A / b+1)=-(A / b+1):=by rw[U2 U0];omega
   have w4:J3 .i64 0 (A / b)=-(A / b):=by rw[U2 U0];omega
   rw[N9 l9,o6,a7a _ _ e2 e3 l9,o8,w1,w2,w3,w4];unfold Go.GP.q1 sg;cases upS (A / b) (A % b) b neg mode
   .simp only[o6];cases E9 1000000000 (A / b)<;>cases neg<;>rfl
   .simp only[o7];cases E9 1000000000 (A / b+1)<;>cases neg<;>rfl
theorem a0A(h1:-1000000000000000<=n)(h2:n<=1000000000000000)(hd:0<d)(hd2:d<=1000000000000000)(hm:qi mode=true):
  (o5 (CY n d) λ(x:Int×Int)=>o5 (lT x.1 1001) λ(x_1:Bool)=>l7 x_1 (some ((0:Int),(3:Int))) (o5 (qZ .i64 (aA .i64 x.2 1000) d) λ(x_2:Int)=>o5 (AL (aA .i64 x.2 1000) d) λ(x_3:Int)=>
   o5 (qZ .i64 (aA .i64 x_3 1000) d) λ(x_4:Int)=>o5 (AL (aA .i64 x_3 1000) d) λ(x_5:Int)=>o5 (fE (A7 .i64 (A7 .i64 (aA .i64 x.1 1000000) (aA .i64 x_2 1000)) x_4) x_5 d mode) λ(x:Int)=>
    o5 (lT x 1000000000) λ(x_6:Bool)=>l7 x_6 (some (0,3)) (some (x,0))))=some (l7 (jM (rnd (n*1000000) d mode) 1000000000) (0,3) (rnd (n*1000000) d mode,0)):=by
 have hdm:=Y1 n d;have r0:=U3 n (show d≠0 by omega);have r1:=O7 n hd;have hrb:=a9e (n:=n*1000000) mode hd;rw[a5L l9 l9 hd l9,o8];simp only;rw[zq _ l9 l9,o8];have hN:n*1000000=n % d*1000000+(n / d*1000000)*d:=by rw[jQ];omega
 have hF:n*1000000 / d=n % d*1000000 / d+n / d*1000000:=by rw[hN,aY _ _ l9]
 have hR:n*1000000 % d=n % d*1000000 % d:=by rw[hN,dD]
 have s0:0<=n % d*1000000 / d:=Y8 l9 l9;have s1:n % d*1000000 / d<1000000:=nI hd l9;cases hb:jM (n / d) 1001
 case true=>have hbb:=a7T hb;have:jM (rnd (n*1000000) d mode) 1000000000=true:=Uw.2 l9;rw[this];rfl
 have bb:=oL hb;simp only[o6];generalize n % d=r at*;generalize n / d=q at*;have t1:aA .i64 r 1000=r*1000:=nH U0;have e1:=Y1 (r*1000) d;have e2:=U3 (r*1000) (show d≠0 by omega);have e3:=O7 (r*1000) hd;have e4:=Y8 (show 0<=r*1000 by omega) (show 0<=d by omega);have e5:r*1000 / d<1000:=nI hd l9;rw[t1,yw l9 l9 hd,o8,CP l9 hd,o8];generalize hr1:r*1000 % d=r1 at*;generalize ha:r*1000 / d=a at*;have t2:aA .i64 r1 1000=r1*1000:=nH U0;have f1:=Y1 (r1*1000) d;have f2:=U3 (r1*1000) (show d≠0 by omega);have f3:=O7 (r1*1000) hd;have f4:=Y8 (show 0<=r1*1000 by omega) (show 0<=d by omega);have f5:r1*1000 / d<1000:=nI hd l9;rw[t2,yw l9 l9 hd,o8,CP l9 hd,o8];have hr6:r*1000000=r1*1000+(a*1000)*d:=by rw[jQ];omega
 have hF2:r*1000000 / d=r1*1000 / d+a*1000:=by rw[hr6,aY _ _ l9]
 have hR2:r*1000000 % d=r1*1000 % d:=by rw[hr6,dD]
 rw[nH (show jl (q*1000000) by unfold jl;omega),nH (show jl (a*1000) by unfold jl;omega),X7 (show jl (q*1000000+a*1000) by unfold jl;omega),X7 (show jl (q*1000000+a*1000+r1*1000 / d) by unfold jl;omega)];rw[show q*1000000+a*1000+r1*1000 / d=n*1000000 / d by rw[hF,hF2];omega,show r1*1000 % d=n*1000000 % d by rw[hR,hR2]];rw[Kv (by rw[hF];omega) (by rw[hF];omega) hd l9 hm,o8,zq _ l9 l9,o8];cases jM (rnd (n*1000000) d mode) 1000000000<;>rfl
theorem a1J(num den mode:Int):BJ num den mode=some (b9e num den mode):=by
 unfold BJ b9e;rw[a6m];cases hm:qi mode
 .rfl
 simp only[o7,o8,L6];cases hd:x8 den 0
 case true=>rfl
 rw[yD]at hd;simp only[o6];rw[zq num l9 l9,o8];cases h1:jM num 1000000000000000
 case true=>rfl
 simp only[o6];rw[zq den l9 l9,o8];cases h2:jM den 1000000000000000
 case true=>rfl
 simp only[o6];have b1:=oL h1;have b2:=oL h2;by_cases hn:den<0
 .rw[V5 hn,o7,U2 (show jl (0 -num) by unfold jl;omega),U2 (show jl (0 -den) by unfold jl;omega),show(0:Int) -num=-num by omega,show(0:Int) -den=-den by omega,b9o _ _ _ hn,show -(num*1000000)=-num*1000000 by rw[kJ]];exact a0A l9 l9 l9 l9 hm
 .rw[N9 l9,o6];exact a0A l9 l9 l9 l9 hm
def Gh(len n:Int):Int×Int×Bool:=l7 (E9 1000000000000000 (len*aH n / 1000000)) (0,0,false) (l7 (E9 n 0) (-(len*aH n / 1000000),-(len*aH n % 1000000),true) (len*aH n / 1000000,len*aH n % 1000000,true))
variable {len:Int}
theorem b8z(h1:1<=len)(h2:len<=1000000000000000)(hn:jl n):xP len n=some (Gh len n):=by
 unfold jl at hn;have key:∀m:Int,m=aH n->(o5 (wC (wrap .u64 len) m) λ(x:Int×Int)=>l7 (N7 1000000 x.1) (some ((0:Int),(0:Int),false)) (o5 (oh x.1 x.2 1000000) λ(x:Int×Int)=>l7 (E9 1000000000000000 x.1) (some (0,0,false))
   (l7 (E9 n 0) (some (J3 .i64 0 (wrap .i64 x.1),J3 .i64 0 (wrap .i64 x.2),true)) (some (wrap .i64 x.1,wrap .i64 x.2,true)))))=some (Gh len n):=by
  intro m hm;have m0:=mM n;have m1:m<=9223372036854775808:=by rw[hm];unfold aH;split<;>omega
  rw[←hm]at m0;rw[show wrap .u64 len=len from Hm l9 l9,Vd l9 l9 m0 l9,o8];unfold Gh;rw[←hm];have hA:0<=len*m:=U4 l9 m0;generalize len*m=A at*;have hre:A / 18446744073709551616*18446744073709551616+A % 18446744073709551616=A:=l9;simp only;by_cases hh:1000000<=A / 18446744073709551616
  .rw[Z9 hh,V5 (show(1000000000000000:Int)<A / 1000000 by omega)];rfl
  .rw[ax l9,o6,h_ l9 l9 l9 l9 l9,o8,hre];simp only;by_cases hM:1000000000000000<A / 1000000
   .rw[V5 hM];rfl
   .rw[N9 l9,o6,o6,show wrap .i64 (A / 1000000)=A / 1000000 from nY U0,show wrap .i64 (A % 1000000)=A % 1000000 from nY U0,U2 U0,U2 U0,
     show(0:Int) -A / 1000000=-(A / 1000000) by omega,show(0:Int) -A % 1000000=-(A % 1000000) by omega]
    cases E9 n 0<;>rfl
 unfold xP;by_cases h0:n<0
 .have hk:=key (J3 .u64 0 (wrap .u64 n)) (by
   show IntKind.wrap .u64 (0 -IntKind.wrap .u64 n)=_;unfold aH;rw[if_pos h0,Bj,Bj];omega)
  rw[V5 h0]at hk ⊢;exact hk
 .have hk:=key (wrap .u64 n) (by
   show IntKind.wrap .u64 n=_;unfold aH;rw[if_neg h0,Bj];omega)
  rw[N9 l9]at hk ⊢;exact hk
theorem b6e(h1:1<=len)(h2:len<=1000000000000000)(hn:jl n):Ce len n=some (Gh len n):=by
 unfold jl at hn;have hm:(l7 (E9 n 0) (some (A7 .u64 (wrap .u64 (J3 .i64 0 (A7 .i64 n 1))) 1)) (some (wrap .u64 n)))=some (aH n):=by
  by_cases h0:n<0
  .rw[V5 h0,o7,X7 U0,U2 U0,show wrap .u64 (0 -(n+1))=-n -1 from(Hm l9 l9).trans l9,show A7 .u64 (-n -1) 1=-n from(Hm l9 l9).trans l9];unfold aH;rw[if_pos h0]
  .rw[N9 l9,o6,show wrap .u64 n=n from Hm l9 l9];unfold aH;rw[if_neg h0]
 have m0:=mM n;have m1:aH n<=9223372036854775808:=by unfold aH;split<;>omega
 unfold Ce Gh;rw[hm,o8];generalize aH n=m at*;have c1:dV .u64 m 1000000=m / 1000000:=by unfold dV;rw[kQ m0,Hm l9 l9]
 have c2:eF m 1000000=m % 1000000:=Ba m0;have c3:wrap .i64 (m / 1000000)=m / 1000000:=nY U0;have c4:wrap .i64 (m % 1000000)=m % 1000000:=nY U0;have c5:dV .i64 len 1000000=len / 1000000:=by rw[DF (by rw[kQ l9];unfold jl;omega),kQ l9]
 have c6:eF len 1000000=len % 1000000:=Ba l9;rw[c1,c2,c3,c4,c5,c6];have hmd:m=m / 1000000*1000000+m % 1000000:=l9;have b0:0<=m % 1000000:=l9;have b1:m % 1000000<1000000:=l9;have a0:0<=m / 1000000:=l9;have a1:m / 1000000<=9223372036855:=l9;have hA:len*m=(len*(m / 1000000)+len / 1000000*(m % 1000000))*1000000+len % 1000000*(m % 1000000):=by
  have e1:len*m=len*(m / 1000000)*1000000+len*(m % 1000000):=by
   calc len*m=len*(m / 1000000*1000000+m % 1000000):=by rw[←hmd]
    _=_:=by rw[Int.mul_add,Int.mul_assoc]
  have e2:len*(m % 1000000)=len / 1000000*(m % 1000000)*1000000+len % 1000000*(m % 1000000):=by
   calc len*(m % 1000000)=(len / 1000000*1000000+len % 1000000)*(m % 1000000):=by rw[show len / 1000000*1000000+len % 1000000=len by omega]
    _=_:=by rw[jf,jQ]
  rw[e1,e2];omega
 have l0:0<=len % 1000000*(m % 1000000):=U4 l9 b0;have l1:len % 1000000*(m % 1000000)<=1000000*1000000:=kT l9 l9 b0 l9;have p0:0<=len / 1000000*(m % 1000000):=U4 l9 b0;have p1:len / 1000000*(m % 1000000)<=1000000000*1000000:=kT l9 l9 b0 l9;have k0:0<=len*(m / 1000000):=U4 l9 a0;have c7:aA .i64 (len % 1000000) (m % 1000000)=len % 1000000*(m % 1000000):=nH U0;have c8:aA .i64 (len / 1000000) (m % 1000000)=len / 1000000*(m % 1000000):=nH U0;rw[c7,c8];have hdiv:len*m / 1000000=len*(m / 1000000)+len / 1000000*(m % 1000000)+len % 1000000*(m % 1000000) / 1000000:=by rw[hA];omega
 have hmod:len*m % 1000000=len % 1000000*(m % 1000000) % 1000000:=by rw[hA];omega
 rw[hdiv,hmod];have c9:dV .i64 (len % 1000000*(m % 1000000)) 1000000=len % 1000000*(m % 1000000) / 1000000:=by rw[DF (by rw[kQ l0];unfold jl;omega),kQ l0]
 have c10:eF (len % 1000000*(m % 1000000)) 1000000=len % 1000000*(m % 1000000) % 1000000:=Ba l0;rw[c9,c10];have tail:len*(m / 1000000)<=1000000000000000->l7 (E9 1000000000000000 (A7 .i64 (A7 .i64 (aA .i64 len (m / 1000000)) (len / 1000000*(m % 1000000))) (len % 1000000*(m % 1000000) / 1000000))) (some ((0:Int),(0:Int),false))
   (l7 (E9 n 0) (some (J3 .i64 0 (A7 .i64 (A7 .i64 (aA .i64 len (m / 1000000)) (len / 1000000*(m % 1000000))) (len % 1000000*(m % 1000000) / 1000000)),J3 .i64 0 (len % 1000000*(m % 1000000) % 1000000),true)) (some (A7 .i64 (A7 .i64 (aA .i64 len (m / 1000000)) (len / 1000000*(m % 1000000))) (len % 1000000*(m % 1000000) / 1000000),len % 1000000*(m % 1000000) % 1000000,true)))=
   some (l7 (E9 1000000000000000 (len*(m / 1000000)+len / 1000000*(m % 1000000)+len % 1000000*(m % 1000000) / 1000000)) (0,0,false) (l7 (E9 n 0) (-(len*(m / 1000000)+len / 1000000*(m % 1000000)+len % 1000000*(m % 1000000) / 1000000),-(len % 1000000*(m % 1000000) % 1000000),true) (len*(m / 1000000)+len / 1000000*(m % 1000000)+len % 1000000*(m % 1000000) / 1000000,len % 1000000*(m % 1000000) % 1000000,true))):=by
  intro hle;rw[nH (show jl (len*(m / 1000000)) by unfold jl;omega)];generalize len*(m / 1000000)=K at*;generalize len / 1000000*(m % 1000000)=P at*;generalize len % 1000000*(m % 1000000)=L at*;rw[X7 (show jl (K+P) by unfold jl;omega),X7 (show jl (K+P+L / 1000000) by unfold jl;omega),U2 (show jl (0 -(K+P+L / 1000000)) by unfold jl;omega),U2 (show jl (0 -L % 1000000) by unfold jl;omega),show(0:Int) -(K+P+L / 1000000)=-(K+P+L / 1000000) by omega,show(0:Int) -L % 1000000=-(L % 1000000) by omega];cases E9 1000000000000000 (K+P+L / 1000000)<;>cases E9 n 0<;>rfl
 by_cases ha:0<m / 1000000
 .rw[V5 ha,o7,yw l9 l9 ha,o8];have hMx:=Y1 1000000000000000 (m / 1000000);have hMr:=O7 1000000000000000 ha;have hMr0:=U3 1000000000000000 (show m / 1000000≠0 by omega);by_cases hc:1000000000000000 / (m / 1000000)<len
  .have:=P7 (show 1000000000000000 / (m / 1000000)+1<=len by omega) a0;rw[jf,gG]at this;rw[V5 hc,V5 (show(1000000000000000:Int)<len*(m / 1000000)+len / 1000000*(m % 1000000)+len % 1000000*(m % 1000000) / 1000000 by omega)];rfl
  .have:=P7 (show len<=1000000000000000 / (m / 1000000) by omega) a0;rw[N9 l9,o6];exact tail l9
 .have:m / 1000000=0:=l9;rw[N9 l9,o6];exact tail (by rw[this];simp)
theorem a0L{F R j:Int}(hm:qi mode=true)(h1:-4000000000000000000<=F)(h2:F<=4000000000000000000)(h3:-2000000000000000000<=j)(h4:j<=2000000000000000000)(hR:0<=R)(hR2:R<1000000)(hs:0<=F↔0<=F+2*j):
  fE (F+2*j) R 1000000 mode=(fE F R 1000000 mode).map λv=>v+2*j:=by
 have R0:∀F R:Int,fE F R 1000000 0=l7 (x8 R 0) (some F) (some F):=λF R=>rfl;have R1:∀F R:Int,fE F R 1000000 1=l7 (x8 R 0) (some F) (some (A7 .i64 F 1)):=λF R=>rfl;have R2:∀F R:Int,fE F R 1000000 2=l7 (x8 R 0) (some F) (o5 (l7 (E9 F 0) (some true) (some false)) λx=>l7 x (some (A7 .i64 F 1)) (some F)):=λF R=>rfl;have R3:∀F R:Int,fE F R 1000000 3=l7 (x8 R 0) (some F) (o5 (some (N7 0 F)) λx=>l7 x (some (A7 .i64 F 1)) (some F)):=λF R=>rfl;have R4:∀F R:Int,fE F R 1000000 4=l7 (x8 R 0) (some F) (l7 (x8 R (J3 .i64 1000000 R)) (l7 (N7 0 F) (some (A7 .i64 F 1)) (some F)) (l7 (E9 (J3 .i64 1000000 R) R) (some (A7 .i64 F 1)) (some F))):=λF R=>rfl;have R5:∀F R:Int,fE F R 1000000 5=l7 (x8 R 0) (some F) (l7 (x8 R (J3 .i64 1000000 R)) (l7 (D9 (x8 (eF F 2) 0)) (some (A7 .i64 F 1)) (some F)) (l7 (E9 (J3 .i64 1000000 R) R) (some (A7 .i64 F 1)) (some F))):=λF R=>rfl;have hi:A7 .i64 F 1=F+1:=X7 U0;have hi2:A7 .i64 (F+2*j) 1=F+1+2*j:=by rw[X7 U0];omega
 have hlt:E9 (F+2*j) 0=E9 F 0:=by
  by_cases h:0<=F
  .rw[N9 h,N9 (hs.1 h)]
  .rw[V5 l9,V5 (by have:=λh' =>h (hs.2 h');omega)]
 have hle:N7 0 (F+2*j)=N7 0 F:=by rw[Bz,Bz,hlt]
 have hpar:x8 (eF (F+2*j) 2) 0=x8 (eF F 2) 0:=by
  unfold eF x8;congr 1;have e1:∀x:Int,x.tmod 2=0↔x % 2=0:=λx=>by rw[←Int.dvd_iff_tmod_eq_zero,Int.dvd_iff_emod_eq_zero]
  simp only[e1];congr 1;omega
 rcases JY hm with rfl|rfl|rfl|rfl|rfl|rfl
 .rw[R0,R0];cases x8 R 0<;>rfl
 .rw[R1,R1,hi,hi2];cases x8 R 0<;>rfl
 .rw[R2,R2,hi,hi2,hlt];cases x8 R 0<;>cases E9 F 0<;>rfl
 .rw[R3,R3,hi,hi2,hle];cases x8 R 0<;>cases N7 0 F<;>rfl
 .rw[R4,R4,hi,hi2,hle];cases x8 R 0<;>cases x8 R (J3 .i64 1000000 R)<;>cases N7 0 F<;>cases E9 (J3 .i64 1000000 R) R<;>rfl
 .rw[R5,R5,hi,hi2,hpar];cases x8 R 0<;>cases x8 R (J3 .i64 1000000 R)<;>cases x8 (eF F 2) 0<;>cases E9 (J3 .i64 1000000 R) R<;>rfl
variable {j:Int}
theorem b2W(hm:qi mode=true)(h1:-4000000000000000000<=n)(h2:n<=4000000000000000000)(h3:-2000000000000000<=j)(h4:j<=2000000000000000)(hs:0<=n↔0<=n+2*j*1000000):rnd (n+2*j*1000000) 1000000 mode=rnd n 1000000 mode+2*j:=by
 have a1:=Kv (n:=n) (d:=1000000) (mode:=mode) l9 l9 l9 l9 hm;have a2:=Kv (n:=n+2*j*1000000) (d:=1000000) (mode:=mode) l9 l9 l9 l9 hm;rw[show(n+2*j*1000000) / 1000000=n / 1000000+2*j by omega,show(n+2*j*1000000) % 1000000=n % 1000000 by omega,
  a0L hm l9 l9 l9 l9 l9 l9 l9,a1]at a2
 exact(I8 a2).symm
def a1Q(W L mode:Int):Int×Int:=l7 (jM (rnd (W*1000000+L) 1000000 mode) 1000000000000000) (0,3) (rnd (W*1000000+L) 1000000 mode,0)
theorem a1d{V p L j mode:Int}(hm:qi mode=true)(hV:-2000000000000000<=V)(hV2:V<=2000000000000000)(hp:-3<=p)(hp2:p<=3)(hL:-1000000<L)(hL2:L<1000000)(hj:V -p=2*j)(hs:0<=p*1000000+L↔0<=V*1000000+L):
  (o5 (kz (A7 .i64 (aA .i64 p 1000000) L) 1000000 mode) λ(x:Int×Int)=>l7 (D9 (x8 x.2 0)) (some ((0:Int),x.2)) (l7 (E9 (A7 .i64 (J3 .i64 V p) x.1) (-1000000000000000)) (some (0,3)) (l7 (E9 1000000000000000 (A7 .i64 (J3 .i64 V p) x.1)) (some (0,3)) (some (A7 .i64 (J3 .i64 V p) x.1,0)))))=
  some (a1Q V L mode):=by
 rw[nH (show jl (p*1000000) by unfold jl;omega),X7 (show jl (p*1000000+L) by unfold jl;omega),U2 (show jl (V -p) by unfold jl;omega),JQ,o8];unfold a8h;rw[hm,J6 (show(1000000:Int)≠0 by decide),QT l9,QT l9];have hb:=a9e (n:=p*1000000+L) (d:=1000000) mode l9;have hsh:=b2W (n:=p*1000000+L) (j:=j) hm l9 l9 l9 l9 (by rw[show p*1000000+L+2*j*1000000=V*1000000+L by omega];exact hs);rw[show p*1000000+L+2*j*1000000=V*1000000+L by omega]at hsh;simp only[o7,o6,J7 (rfl:(0:Int)=0),E5];unfold a1Q jM;rw[hsh,hj,X7 (show jl (2*j+rnd (p*1000000+L) 1000000 mode) by unfold jl;omega),show rnd (p*1000000+L) 1000000 mode+2*j=2*j+rnd (p*1000000+L) 1000000 mode by omega];cases E9 (2*j+rnd (p*1000000+L) 1000000 mode) (-1000000000000000)<;>cases E9 1000000000000000 (2*j+rnd (p*1000000+L) 1000000 mode)<;>rfl
theorem b1s(hd:0<d):(0<=n->0<=n.tmod d/\n.tmod d<d)/\(n<=0->-d<n.tmod d/\n.tmod d<=0):=by
 refine⟨λh=>?_,λh=>?_⟩
 .rw[fQ h];exact⟨U3 n l9,O7 n hd⟩
 .obtain⟨m,hm⟩:∃m,n=-m:=⟨-n,l9⟩;subst hm;rw[Int.neg_tmod,fQ l9];have:=U3 m (show d≠0 by omega);have:=O7 m hd;omega
theorem a6Z{W L mode:Int}(hm:qi mode=true)(hW:-1000000000000000000<=W)(hW2:W<=1000000000000000000)(hL:-1000000000<=L)(hL2:L<=1000000000):Es W L mode=some (a1Q W L mode):=by
 unfold Es;have hd:=Int.tdiv_mul_add_tmod L 1000000;have htm:=b1s (n:=L) (d:=1000000) l9;have t1:dV .i64 L 1000000=L.tdiv 1000000:=DF U0;have t2:eF L 1000000=L.tmod 1000000:=rfl;have hr1:-1000000<L.tmod 1000000:=l9;have hr2:L.tmod 1000000<1000000:=l9;rw[t1,t2,X7 (show jl (W+L.tdiv 1000000) by unfold jl;omega)];have hT:W*1000000+L=(W+L.tdiv 1000000)*1000000+L.tmod 1000000:=l9;have hsum:a1Q W L mode=a1Q (W+L.tdiv 1000000) (L.tmod 1000000) mode:=by unfold a1Q;rw[hT]
 rw[hsum];have hVb:-2000000000000000000<=W+L.tdiv 1000000/\W+L.tdiv 1000000<=2000000000000000000:=l9;generalize W+L.tdiv 1000000=V at*;generalize L.tmod 1000000=M at*;have hb:=a9e (n:=V*1000000+M) (d:=1000000) mode l9;by_cases c1:V< -2000000000000000
 .rw[V5 c1,o7];unfold a1Q;rw[Uw.2 l9];rfl
 by_cases c2:2000000000000000<V
 .rw[N9 l9,o6,V5 c2,o7];unfold a1Q;rw[Uw.2 l9];rfl
 rw[N9 l9,o6,N9 l9,o6];have t3:eF V 2=V.tmod 2:=rfl;rw[t3];have hv2:=Int.tdiv_mul_add_tmod V 2;have htv:=b1s (n:=V) (d:=2) l9;by_cases c3:1<V
 .rw[V5 c3,o7,X7 (show jl (V.tmod 2+2) by unfold jl;omega)];exact a1d (j:=V.tdiv 2 -1) hm l9 l9 l9 l9 hr1 hr2 l9 l9
 rw[N9 l9,o6];by_cases c4:V< -1
 .rw[V5 c4,o7,U2 (show jl (V.tmod 2 -2) by unfold jl;omega)];exact a1d (j:=V.tdiv 2+1) hm l9 l9 l9 l9 hr1 hr2 l9 l9
 rw[N9 l9,o6];exact a1d (j:=V.tdiv 2) hm l9 l9 l9 l9 hr1 hr2 l9 l9
theorem a1K{W L mode:Int}(hm:qi mode=true)(hW:-1000000000000000000<=W)(hW2:W<=1000000000000000000)(hL:-1000000000<=L)(hL2:L<=1000000000):KX W L mode=some (rnd (W*1000000+L) 1000000 mode):=by
 unfold KX;obtain⟨e,k1,k2⟩:=iM (f:=λ(x:Int×Int)=>l7 (E9 x.2 0) (some (.inl (J3 .i64 x.1 1,A7 .i64 x.2 1000000))) (some (.inr x)))
  (s:=(W,L)) (λx=>x.1*1000000+x.2=W*1000000+L/\-1000000000<=x.2/\x.2<=1000000000/\-2000000000000000000<=x.1/\x.1<=2000000000000000000) (λx=>x.1*1000000+x.2=W*1000000+L/\0<=x.2/\x.2<=1000000000/\-2000000000000000000<=x.1/\x.1<=2000000000000000000) (λx=>(1000000000 -x.2).toNat) ⟨by rfl,hL,hL2,l9,l9⟩ l9 (by
  rintro⟨a,b⟩ ⟨h1,h2,h3,h4,h5⟩;simp only at h1 h2 h3 h4 h5 ⊢;by_cases hb:b<0
  .left;rw[V5 hb,o7,U2 (show jl (a -1) by unfold jl;omega),X7 (show jl (b+1000000) by unfold jl;omega)];exact⟨_,rfl,⟨by simp only;omega,by simp only;omega,by simp only;omega,by simp only;omega,by simp only;omega⟩,by simp only;omega⟩
  .right;rw[N9 l9];exact⟨(a,b),rfl,h1,l9,h3,h4,h5⟩)
 refine(lJ k1 _).trans ?_;obtain⟨a,b⟩:=e;simp only at k2;obtain⟨e,l1,l2⟩:=iM (f:=λ(x:Int×Int)=>l7 (N7 1000000 x.2) (some (.inl (A7 .i64 x.1 1,J3 .i64 x.2 1000000))) (some (.inr x)))
  (s:=(a,b)) (λx=>x.1*1000000+x.2=W*1000000+L/\0<=x.2/\x.2<=1000000000/\-2000000000000000000<=x.1/\x.1<=2000000000000000000) (λx=>x.1=(W*1000000+L) / 1000000/\x.2=(W*1000000+L) % 1000000) (λx=>x.2.toNat) k2 (by simp only;omega) (by
  rintro⟨a,b⟩ ⟨h1,h2,h3,h4,h5⟩;simp only at h1 h2 h3 h4 h5 ⊢;by_cases hb:1000000<=b
  .left;rw[Z9 hb,o7,X7 (show jl (a+1) by unfold jl;omega),U2 (show jl (b -1000000) by unfold jl;omega)];exact⟨_,rfl,⟨by simp only;omega,by simp only;omega,by simp only;omega,by simp only;omega,by simp only;omega⟩,by simp only;omega⟩
  .right;rw[ax l9];exact⟨(a,b),rfl,by simp only;omega,by simp only;omega⟩)
 refine(lJ l1 _).trans ?_;obtain⟨F,R⟩:=e;simp only at l2 ⊢;obtain⟨rfl,rfl⟩:=l2;generalize hT:W*1000000+L=T at*;have hid:aH 1000000=1000000:=rfl;have hneg:D9 (jT (E9 T 0) (E9 1000000 0))=E9 T 0:=by rw[N9 (show(0:Int)<=1000000 by omega)];cases E9 T 0<;>rfl
 by_cases h0:0<=T
 .rw[Z9 (show 0<=T / 1000000 by omega),o7,Gp _ _ l9 l9 l9 l9 l9,o8];unfold rnd;rw[hid,hneg,N9 h0,show aH T=T by unfold aH;rw[if_neg l9]]
 .rw[ax (show T / 1000000<0 by omega),o6];unfold rnd;rw[hid,hneg,V5 l9,show aH T=-T by unfold aH;rw[if_pos l9]];by_cases hz:T % 1000000=0
  .rw[J7 hz,o7];have hu:upS (-T / 1000000) (-T % 1000000) 1000000 true mode=false:=by unfold upS;rw[J7 (show -T % 1000000=0 by omega)];rfl
   rw[hu];show some (T / 1000000)=some (-(-T / 1000000));congr 1;omega
  .rw[J6 hz,o6,U2 (show jl (0 -T / 1000000) by unfold jl;omega),U2 (show jl (0 -T / 1000000 -1) by unfold jl;omega),U2 (show jl (1000000 -T % 1000000) by unfold jl;omega),Gp _ _ l9 l9 l9 l9 l9,o8];rw[show 0 -T / 1000000 -1=-T / 1000000 by omega,show 1000000 -T % 1000000=-T % 1000000 by omega]
def a9R(r:rF):Prop:=jl r.2.1/\jl r.2.2.1/\jl r.2.2.2
def kR(t:bn):Prop:=t.2.2.2.length<=200/\∀r∈t.2.2.2,a9R r
theorem a3A(h:(Gh len n).2.2=true)(hl:0<=len):-1000000000000000<=(Gh len n).1/\(Gh len n).1<=1000000000000000/\-1000000<=(Gh len n).2.1/\(Gh len n).2.1<=1000000:=by
 have hA:0<=len*aH n:=U4 hl (mM n);unfold Gh at*;generalize len*aH n=A at*;cases h1:E9 1000000000000000 (A / 1000000)<;>rw[h1]at h
 .rw[iU]at h1;cases E9 n 0
  .simp only[o6];omega
  .simp only[o6,o7];omega
 .cases h
def brG(date c:Int)(b:Int×Int)(r:rF):(Int×Int)⊕(Int×Int):=l7 (UB r.1 date) (l7 (N7 (qR r.2.2.1 c) (oD r.2.1 0)) (.inl b)
 (l7 (Gh (qR r.2.2.1 c -oD r.2.1 0) r.2.2.2).2.2 (.inl (b.1+(Gh (qR r.2.2.1 c -oD r.2.1 0) r.2.2.2).1,b.2+(Gh (qR r.2.2.1 c -oD r.2.1 0) r.2.2.2).2.1)) (.inr (0,3)))) (.inl b)
def b8x(t:bn)(date c mode:Int):Int×Int:=l7 (qi mode) (l7 (V9 (x8 t.2.1.1 3) (x8 t.2.1.2 0)) (l7 (V9 (x8 t.2.2.1.1 4) (x8 t.2.2.1.2 0)) (l7 (jM c 1000000000000000) (0,3)
 (match aP (brG date c) t.2.2.2 (0,0)with| .inl b=>a1Q b.1 b.2 mode| .inr r=>r)) (0,8)) (0,8)) (0,1)
def Zu(i:Nat)(b:Int×Int):Prop:=-(1000000000000000*(i:Int))<=b.1/\b.1<=1000000000000000*(i:Int)/\-(1000000*(i:Int))<=b.2/\b.2<=1000000*(i:Int)
theorem ZJ{r:rF}{c:Int}(hr:a9R r)(hc:-1000000000000000<=c)(hc2:c<=1000000000000000)(h:N7 (qR r.2.2.1 c) (oD r.2.1 0)=false):J3 .i64 (qR r.2.2.1 c) (oD r.2.1 0)=qR r.2.2.1 c -oD r.2.1 0/\1<=qR r.2.2.1 c -oD r.2.1 0/\qR r.2.2.1 c -oD r.2.1 0<=1000000000000000:=by
 obtain⟨h1,h2,h3⟩:=hr;obtain⟨lo,hlo⟩:∃lo:Int,r.2.1=lo:=⟨_,rfl⟩;obtain⟨hi,hhi⟩:∃hi:Int,r.2.2.1=hi:=⟨_,rfl⟩;rw[hlo]at h h1 ⊢;rw[hhi]at h h2 ⊢;rw[BZ]at h;have a1:0<=oD lo 0:=by unfold oD;split<;>omega
 have a2:qR hi c<=c:=by unfold qR;split<;>omega
 refine⟨U2 U0,l9,l9⟩
variable {i:Nat}
theorem b3V{date c:Int}{r:rF}{b:Int×Int}(hr:a9R r)(hc:-1000000000000000<=c)(hc2:c<=1000000000000000)(hi:i<=200)(hb:Zu i b):∀b',brG date c b r= .inl b' ->Zu (i+1) b' :=by
 intro b' h;unfold Zu at*;unfold brG at h;cases h1:UB r.1 date<;>rw[h1]at h
 .cases h;omega
 simp only[o7]at h;cases h2:N7 (qR r.2.2.1 c) (oD r.2.1 0)<;>rw[h2]at h
 .obtain⟨_,g1,g2⟩:=ZJ hr hc hc2 h2;simp only[o6]at h;cases h3:(Gh (qR r.2.2.1 c -oD r.2.1 0) r.2.2.2).2.2<;>rw[h3]at h
  .cases h
  .have hbd:=a3A h3 l9;cases h;simp only;omega
 .cases h;omega
theorem a5p{t:bn}(date c mode:Int)(ht:kR t):En t date c mode=some (b8x t date c mode):=by
 unfold En b8x;rw[a6m];cases hm:qi mode
 .rfl
 simp only[o7,o8,L6];cases V9 (x8 t.2.1.1 3) (x8 t.2.1.2 0)
 .rfl
 cases V9 (x8 t.2.2.1.1 4) (x8 t.2.2.1.2 0)
 .rfl
 simp only[E5,o6,o7,o8,L6];have hbey:∀A B:Option (PUnit⊕(Int×Int)),l7 (E9 c (-1000000000000000)) A (l7 (E9 1000000000000000 c) A B)=l7 (jM c 1000000000000000) A B:=λA B=>by unfold jM;cases E9 c (-1000000000000000)<;>cases E9 1000000000000000 c<;>rfl
 rw[hbey];cases hb:jM c 1000000000000000
 case true=>rfl
 have bb:=oL hb;simp only[o6,o8,L6];refine kU t.2.2.2 (brG date c) (λb i=>(b.1,b.2,i)) (λb=>b) Zu ((0,0):Int×Int) (by have:=ht.1;omega) (by unfold Zu;simp) (λi r b hr hi hI=>?_) (λb hI=>?_) (λhI=>?_)
 .have hro:=ht.2 r (iL hr);have hlt:=(V6.1 hr).1;have h200:=ht.1;refine⟨?_,b3V hro bb.1 bb.2 l9 hI⟩;simp only[H5 hr,o7,F5,hr,o8,JL];rw[Z5 l9];unfold brG;cases UB r.1 date
  .rfl
  simp only[E5,o6,o7];cases h2:N7 (qR r.2.2.1 c) (oD r.2.1 0)
  case true=>rfl
  obtain⟨g0,g1,g2⟩:=ZJ hro bb.1 bb.2 h2;rw[g0,b8z g1 g2 hro.2.2];simp only[o6,o8];cases h3:(Gh (qR r.2.2.1 c -oD r.2.1 0) r.2.2.2).2.2
  .rfl
  .have hbd:=a3A h3 l9;unfold Zu at hI;rw[X7 U0,X7 U0];rfl
 .simp only[G7];rfl
 .cases hf:aP (brG date c) t.2.2.2 (0,0)with
  |inr r=>rfl|inl b=>have:=hI b hf;unfold Zu at this;have h200:=ht.1;simp only[L6];rw[a6Z hm l9 l9 l9 l9];rfl
theorem a4k{t:bn}(date c mode:Int)(ht:kR t):Jl t date c mode=some (b8x t date c mode):=by
 unfold Jl b8x;rw[Vx,o8];cases hm:qi mode
 .rfl
 simp only[E5,o6,o7];cases V9 (x8 t.2.1.1 3) (x8 t.2.1.2 0)
 .rfl
 cases V9 (x8 t.2.2.1.1 4) (x8 t.2.2.1.2 0)
 .rfl
 simp only[E5,o6,o7,o8,L6];rw[vO c l9 l9,o8];cases hb:jM c 1000000000000000
 case true=>rfl
 have bb:=oL hb;simp only[o6];refine kU t.2.2.2 (brG date c) (λb i=>(b.1,b.2,i)) (λb=>b) Zu ((0,0):Int×Int) (by have:=ht.1;omega) (by unfold Zu;simp) (λi r b hr hi hI=>?_) (λb hI=>?_) (λhI=>?_)
 .have hro:=ht.2 r (iL hr);have hlt:=(V6.1 hr).1;have h200:=ht.1;refine⟨?_,b3V hro bb.1 bb.2 l9 hI⟩;simp only[H5 hr,o7,F5,hr,o8,NM];rw[Z5 l9];unfold brG;cases h2:N7 (qR r.2.2.1 c) (oD r.2.1 0)
  case true=>cases UB r.1 date<;>rfl
  simp only[o6];cases UB r.1 date
  .rfl
  obtain⟨g0,g1,g2⟩:=ZJ hro bb.1 bb.2 h2;rw[g0,b6e g1 g2 hro.2.2];simp only[E5,o6,o7,o8];cases h3:(Gh (qR r.2.2.1 c -oD r.2.1 0) r.2.2.2).2.2
  .rfl
  .have hbd:=a3A h3 l9;unfold Zu at hI;rw[X7 U0,X7 U0];rfl
 .simp only[G7];rfl
 .cases hf:aP (brG date c) t.2.2.2 (0,0)with
  |inr r=>rfl|inl b=>have:=hI b hf;unfold Zu at this;have h200:=ht.1;simp only[L6];rw[a1K hm l9 l9 l9 l9,o8,vO _ l9 l9,o8];unfold a1Q;cases jM (rnd (b.1*1000000+b.2) 1000000 mode) 1000000000000000<;>rfl
def b8P(r:rF)(date key:Int):Bool:=l7 (UB r.1 date) (l7 (N7 r.2.1 key) (E9 key r.2.2.1) false) false
def Yg(rows:List rF)(date key:Int)(i:Nat):Option (Int×Bool):=match rows[i]? with|some r=>l7 (b8P r date key) (some ((i:Int),true)) none|none=>none
def UW(rows:List rF)(date key:Int):Int×Bool:=match au rows.length (Yg rows date key)with|some x=>x|none=>(0,false)
theorem b2e{t:bn}(date key:Int)(ht:t.2.2.2.length<=1000000):Iy t date key=some (UW t.2.2.2 date key):=by
 unfold Iy xQ UW;rw[bV];refine X8 (sH (p:=Yg t.2.2.2 date key) t.2.2.2.length ht PUnit.unit (λi hi=>?_) ?_) ?_
 rotate_left 2
 .cases au t.2.2.2.length (Yg t.2.2.2 date key)<;>rfl
 .have e:=dh hi;simp only[H5 e,o7,F5,e,o8,JD,JL,Yg,b8P];cases UB t.2.2.2[i].1 date
  .rfl
  cases N7 t.2.2.2[i].2.1 key
  .rfl
  cases E9 key t.2.2.2[i].2.2.1<;>rfl
 .simp only[G7];rfl
theorem a0w{t:bn}(date key:Int)(ht:t.2.2.2.length<=1000000):NV t date key=some (UW t.2.2.2 date key):=by
 unfold NV UW;refine X8 (sH (p:=Yg t.2.2.2 date key) t.2.2.2.length ht PUnit.unit (λi hi=>?_) ?_) ?_
 rotate_left 2
 .cases au t.2.2.2.length (Yg t.2.2.2 date key)<;>rfl
 .have e:=dh hi;simp only[H5 e,o7,F5,e,o8,Td,NM,Yg,b8P];cases UB t.2.2.2[i].1 date
  .rfl
  cases N7 t.2.2.2[i].2.1 key
  .rfl
  cases E9 key t.2.2.2[i].2.2.1<;>rfl
 .simp only[G7];rfl
theorem b4P{rows:List rF}{date key i:Int}(h:UW rows date key=(i,true)):0<=i/\i<o9 rows:=by
 unfold UW at h;split at h
 .rename_i x hx;subst h;obtain⟨k,hk,hp⟩:=fV hx;unfold Yg at hp;split at hp
  .rename_i r hr;cases hmb:b8P r date key<;>rw[hmb]at hp
   .cases hp
   .cases hp;simp only[o9];omega
  .cases hp
 .cases h
abbrev V3:Type:=Int×Int×Int
def Dq(k:Int):Int×Int:=l7 (x8 k 1) (0,1) (l7 (x8 k 2) (-1000000000000,1000000000000) (l7 (x8 k 3) (-1000000000000000,1000000000000000) (l7 (x8 k 4) (-1000000000,1000000000) (l7 (x8 k 5) (0,109572) (l7 (x8 k 6) (0,15) (0,-1))))))
theorem b0e(k:Int):Ec k=some (Dq k):=by unfold Ec Dq;cases x8 k 1<;>cases x8 k 2<;>cases x8 k 3<;>cases x8 k 4<;>cases x8 k 5<;>cases x8 k 6<;>rfl
def plB(v:V3):Bool:=l7 (N7 (Dq v.1).1 v.2.2) (l7 (N7 v.2.2 (Dq v.1).2) (l7 (x8 v.1 6) (l7 (N7 0 v.2.1) (E9 v.2.1 8) false) (x8 v.2.1 0)) false) false
theorem nz(v:V3):jc v=some (plB v):=by
 unfold jc plB;rw[b0e,o8,pI,pI];cases N7 (Dq v.1).1 v.2.2
 .rfl
 cases N7 v.2.2 (Dq v.1).2
 .rfl
 cases x8 v.1 6
 .rfl
 cases N7 0 v.2.1<;>rfl
theorem Ap(v:V3):je v=some (plB v):=by
 obtain⟨k,e,n⟩:=v;unfold je plB;simp only;by_cases h6:k=6
 .subst h6;rw[show Dq 6=(0,15)from rfl,J7 (rfl:(6:Int)=6)];simp only[E5,o6,o8,L6,J6 (show(6:Int)≠1 by decide),J6 (show(6:Int)≠2 by decide),J6 (show(6:Int)≠3 by decide),J6 (show(6:Int)≠4 by decide),J6 (show(6:Int)≠5 by decide),o7];rw[show E9 n 16=N7 n 15 by unfold E9 N7;congr 1;simp;omega];cases N7 0 e<;>cases E9 e 8<;>cases N7 0 n<;>cases N7 n 15<;>rfl
 rw[J6 h6];simp only[aV,o7,o6];by_cases he:e=0
 case neg=>rw[J6 he];simp only[aV,o7,o8,uh];cases N7 (Dq k).1 n<;>cases N7 n (Dq k).2<;>rfl
 rw[J7 he];simp only[E5,o6,o8,L6];by_cases h1:k=1
 .subst h1;rw[show Dq 1=(0,1)from rfl];simp only[J7 (rfl:(1:Int)=1),o7];by_cases n0:n=0
  .subst n0;rfl
  by_cases n1:n=1
  .subst n1;rfl
  rw[J6 n0,J6 n1];by_cases g:0<=n
  .rw[Z9 g,ax l9];rfl
  .rw[ax l9];rfl
 rw[J6 h1,o6];by_cases h2:k=2
 .subst h2;rw[show Dq 2=(-1000000000000,1000000000000)from rfl,J7 (rfl:(2:Int)=2)];simp only[o7];cases N7 (-1000000000000) n<;>cases N7 n 1000000000000<;>rfl
 rw[J6 h2,o6];by_cases h3:k=3
 .subst h3;rw[show Dq 3=(-1000000000000000,1000000000000000)from rfl,J7 (rfl:(3:Int)=3)];simp only[o7];cases N7 (-1000000000000000) n<;>cases N7 n 1000000000000000<;>rfl
 rw[J6 h3,o6];by_cases h4:k=4
 .subst h4;rw[show Dq 4=(-1000000000,1000000000)from rfl,J7 (rfl:(4:Int)=4)];simp only[o7];cases N7 (-1000000000) n<;>cases N7 n 1000000000<;>rfl
 rw[J6 h4,o6];by_cases h5:k=5
 .subst h5;rw[show Dq 5=(0,109572)from rfl,J7 (rfl:(5:Int)=5)];simp only[o7];cases N7 0 n<;>cases N7 n 109572<;>rfl
 rw[J6 h5,o6,show Dq k=(0,-1) by unfold Dq;rw[J6 h1,J6 h2,J6 h3,J6 h4,J6 h5,J6 h6];rfl];simp only[o6];by_cases g:0<=n
 .rw[Z9 g,ax (show(-1:Int)<n by omega)];rfl
 .rw[ax (show n<0 by omega)];rfl
def PV(v:V3):Prop:=(∃n,v=(1,0,n)/\(n=0\/n=1))\/(∃n,v=(2,0,n)/\-1000000000000<=n/\n<=1000000000000)\/(∃n,v=(3,0,n)/\-1000000000000000<=n/\n<=1000000000000000)\/(∃n,v=(4,0,n)/\-1000000000<=n/\n<=1000000000)\/(∃n,v=(5,0,n)/\0<=n/\n<=109572)\/(∃e n,v=(6,e,n)/\0<=n/\n<=15)
variable {v:V3}
theorem a0q(h:plB v=true):PV v:=by
 obtain⟨k,e,n⟩:=v;unfold plB at h;simp only at h;cases h1:N7 (Dq k).1 n<;>rw[h1]at h
 .cases h
 cases h2:N7 n (Dq k).2<;>rw[h2]at h
 .cases h
 simp only[o7]at h;rw[jJ]at h1 h2;unfold PV;by_cases k6:k=6
 .subst k6;rw[show Dq 6=(0,15)from rfl]at h1 h2;exact .inr (.inr (.inr (.inr (.inr ⟨e,n,rfl,h1,h2⟩))))
 rw[J6 k6,o6,O9]at h;subst h;by_cases k1:k=1
 .subst k1;rw[show Dq 1=(0,1)from rfl]at h1 h2;exact .inl ⟨n,rfl,by simp only at h1 h2;omega⟩
 by_cases k2:k=2
 .subst k2;exact .inr (.inl ⟨n,rfl,h1,h2⟩)
 by_cases k3:k=3
 .subst k3;exact .inr (.inr (.inl ⟨n,rfl,h1,h2⟩))
 by_cases k4:k=4
 .subst k4;exact .inr (.inr (.inr (.inl ⟨n,rfl,h1,h2⟩)))
 by_cases k5:k=5
 .subst k5;exact .inr (.inr (.inr (.inr (.inl ⟨n,rfl,h1,h2⟩))))
 .rw[show Dq k=(0,-1) by unfold Dq;rw[J6 k1,J6 k2,J6 k3,J6 k4,J6 k5,J6 k6];rfl]at h1 h2;simp only at h1 h2;omega
def Ih(v:V3):V3×Int:=l7 (plB v) (v,0) ((0,0,0),3)
def VY(v:V3)(c:Int):V3×Int:=l7 (x8 c 0) (Ih v) ((0,0,0),c)
theorem Ro(k n:Int):cu k n=some (Ih (k,0,n)):=by unfold cu Ih;rw[nz,o8];cases plB (k,0,n)<;>rfl
theorem a4V(k n c:Int):tX k n c=some (VY (k,0,n) c):=by
 unfold tX VY;cases x8 c 0
 .rfl
 simp only[E5,o6,o7];rw[Ro];rfl
def c3M(b:Bool):V3×Int:=((1,0,l7 b 1 0),0)
theorem b2N(b:Bool):uY b=some (c3M b):=by cases b<;>rfl
theorem b8d(b:Bool):sZ b=some (1,0,l7 b 1 0):=by cases b<;>rfl
theorem a7E(b:Bool):Ih (1,0,l7 b 1 0)=c3M b:=by cases b<;>rfl
def b1S(c:Option (V3×Int)):Option (V3×Int):=o5 c λ(x:V3×Int)=>l7 (D9 (x8 x.2 0)) (some ((0,0,0),x.2)) (o5 (je x.1) λ(x_1:Bool)=>l7 (D9 x_1) (some ((0,0,0),3)) (some (x.1,0)))
theorem EM(v:V3)(c:Int):b1S (some (v,c))=some (VY v c):=by
 unfold b1S VY Ih;simp only[o8];cases x8 c 0
 .rfl
 simp only[E5,o6,o7];rw[Ap,o8];cases plB v<;>rfl
theorem QM(v:V3):VY v 0=Ih v:=rfl
def EP(n:Int×Int)(args:List V3)(env:aK):Option (V3×Int):=o5 (aT n args env) λ(x:Bool)=>l7 (D9 x) (some ((0,0,0),8)) (b1S (aU n args env))
def RP(a0:Int×Int)(a1:List V3)(a2:aK):Option (V3×Int):=
 l7 (x8 (o9 a1) 0) (l7 (N7 36 a0.1) (l7 (N7 a0.1 39) (o5 (pO a0 a2) λ(x:V3×Int)=>some x) (o5 (dn a0 a2) λ(x:V3×Int)=>some x)) (o5 (dn a0 a2) λ(x:V3×Int)=>some x))
  (l7 (x8 (o9 a1) 1) (o5 (F9 a1 0) λ(x:V3)=>o5 (iZ a0 x a2) λ(x:V3×Int)=>some x)
  (l7 (x8 (o9 a1) 2) (o5 (F9 a1 0) λ(x:V3)=>o5 (F9 a1 1) λ(x_1:V3)=>o5 (fG a0 x x_1) λ(x:V3×Int)=>some x)
  (o5 (F9 a1 0) λ(x:V3)=>o5 (F9 a1 1) λ(x_1:V3)=>o5 (F9 a1 2) λ(x_2:V3)=>l7 (D9 (x8 x.1 1)) (some ((0,0,0),8)) (l7 (D9 (x8 x_1.1 x_2.1)) (some ((0,0,0),8)) (l7 (D9 (x8 x_1.2.1 x_2.2.1)) (some ((0,0,0),8)) (l7 (x8 x.2.2 1) (some (x_1,0)) (some (x_2,0))))))))
def jP(n:Int×Int)(args:List V3)(env:aK):Prop:=∃r:V3×Int,RP n args env=some r/\EP n args env=some r
theorem ll0:o9 ([]:List V3)=0:=rfl
theorem ll1(a:V3):o9 [a]=1:=rfl
theorem ll2(a b:V3):o9 [a,b]=2:=rfl
theorem ll3(a b c:V3):o9 [a,b,c]=3:=rfl
theorem la0(a:V3)(l:List V3):F9 (a::l) 0=some a:=rfl
theorem la1(a b:V3)(l:List V3):F9 (a::b::l) 1=some b:=rfl
theorem la2(a b c:V3)(l:List V3):F9 (a::b::c::l) 2=some c:=rfl
def bK:=And.intro @J7 (And.intro @J6 (And.intro @Z9 (And.intro @ax (And.intro @V5 (And.intro @N9 (And.intro @o7 (And.intro @o6 (And.intro @o8 (And.intro @L6 (And.intro @uh (And.intro @E5 (And.intro @aV (And.intro @ll0 (And.intro @ll1 (And.intro @ll2 (And.intro @ll3 (And.intro @la0 (And.intro @la1 (And.intro @la2 (And.intro @Ro (And.intro @a4V (And.intro @nz (And.intro @Ap (And.intro @EM (And.intro @QM (And.intro @b2N (And.intro @b8d (@a7E))))))))))))))))))))))))))))
theorem Us(k N:Int)(env:aK)(hk:k=1\/k=2\/k=3\/k=4\/k=5):jP (k,N) [] env:=by
 rcases hk with rfl|rfl|rfl|rfl|rfl <;>
 .unfold jP RP dn EP aT aU;simp (disch:=decide) only[bK];exact⟨_,rfl,rfl⟩
theorem c3R(N:Int)(env:aK):jP (6,N) [] env:=by unfold jP RP dn EP aT aU;simp (disch:=decide) only[bK];unfold Ih;cases plB (6,dV IntKind.i64 N 16,eF N 16)<;>exact⟨_,rfl,rfl⟩
theorem c3V(N:Int)(env:aK):jP (9,N) [] env:=by unfold jP RP dn EP aT aU;simp (disch:=decide) only[bK];exact⟨_,rfl,rfl⟩
theorem c1d(N:Int)(env:aK):jP (35,N) [] env:=by unfold jP RP dn EP aT aU;simp (disch:=decide) only[bK];exact⟨_,rfl,rfl⟩
theorem c3S(N:Int)(env:aK)(h:jW (7,N) env=some true):jP (7,N) [] env:=by
 unfold jW at h;simp (disch:=decide) only[J7,J6,o7,o6]at h;by_cases g:0<=N
 case neg=>rw[ax l9]at h;cases h
 rw[Z9 g,o7]at h;have h2:=iW.1 (I8 h);obtain⟨x,hx,hm⟩:=ng g h2;unfold jP RP dn EP aT aU;simp (disch:=decide) only[bK];rw[hx];simp (disch:=decide) only[bK];unfold Ih;cases plB x<;>exact⟨_,rfl,rfl⟩
theorem c3T(N:Int)(env:aK)(h:jW (8,N) env=some true):jP (8,N) [] env:=by
 unfold jW at h;simp (disch:=decide) only[J7,J6,o7,o6]at h;by_cases g:0<=N
 case neg=>rw[ax l9]at h;cases h
 rw[Z9 g,o7]at h;by_cases h2:N<o9 env.2.2.1
 case neg=>rw[N9 l9]at h;cases h
 obtain⟨x,hx,hm⟩:=ng g h2;unfold jP RP dn EP aT aU;simp (disch:=decide) only[bK];rw[hx];simp (disch:=decide) only[bK];unfold Ih;cases plB x<;>exact⟨_,rfl,rfl⟩
def Pi(k:Int)(t:Int×Int):Bool:=l7 (x8 t.2 0) (l7 (x8 k 36) (l7 (x8 t.1 2) true (x8 t.1 3)) (l7 (x8 k 39) (l7 (N7 2 t.1) (N7 t.1 5) false) (x8 t.1 1))) false
theorem a4j(k:Int)(t:Int×Int):KY k t=some (Pi k t):=by unfold KY Pi;cases x8 t.2 0<;>cases x8 k 36<;>cases x8 k 39<;>cases x8 t.1 2<;>cases N7 2 t.1<;>rfl
theorem EZ(t:Int):vH t=some (l7 (N7 2 t) (N7 t 4) false):=by
 unfold vH;by_cases h2:t=2
 .subst h2;rfl
 by_cases h3:t=3
 .subst h3;rfl
 by_cases h4:t=4
 .subst h4;rfl
 rw[J6 h2,J6 h3,J6 h4];by_cases g:2<=t
 .rw[Z9 g,ax l9];rfl
 .rw[ax l9];rfl
theorem Ji(t:Int):Aq t=some (l7 (N7 2 t) (N7 t 4) false):=EZ t
theorem a1B(k:Int)(t:Int×Int):xC k t=some (Pi k t):=by
 unfold xC Pi;cases x8 t.2 0
 .rfl
 cases x8 k 36
 .cases x8 k 39
  .rfl
  .rw[EZ];simp only[E5,o6,o7,o8];by_cases g:2<=t.1
   .rw[Z9 g];simp only[o7];by_cases g4:t.1<=4
    .rw[Z9 g4,Z9 (show t.1<=5 by omega)];rfl
    .rw[ax l9];by_cases g5:t.1=5
     .rw[J7 g5,Z9 l9];rfl
     .rw[J6 g5,ax l9];rfl
   .rw[ax l9,J6 l9];rfl
 .cases x8 t.1 2<;>rfl
def UK(v:V3)(t:Int×Int):Bool:=l7 (plB v) (l7 (x8 v.1 t.1) (x8 v.2.1 t.2) false) false
theorem A_(v:V3)(t:Int×Int):Dz v t=some (UK v t):=by unfold Dz UK;rw[Ap,o8];cases plB v<;>cases x8 v.1 t.1<;>rfl
theorem b6g(v:V3)(t:Int×Int):Xh v t=some (UK v t):=by unfold Xh UK;rw[nz,o8];cases plB v<;>cases x8 v.1 t.1<;>rfl
def IW(k a b:Int)(first:Bool):Int:=l7 (x8 k 36) (A7 .i64 a b) (l7 (x8 k 37) (aA .i64 a b) (l7 (x8 k 38) (l7 (E9 a b) b a) (l7 first b (l7 (E9 a b) b a))))
theorem b6f(k a b:Int)(f:Bool):Uc k a b f=some (IW k a b f):=by unfold Uc IW;cases x8 k 36<;>cases x8 k 37<;>cases x8 k 38<;>cases f<;>cases E9 a b<;>rfl
def V_(m:List V3)(N:Int)(t:Int×Int):V3⊕Int:=
 match F9 m N with
 |none=> .inr 6|some x=>l7 (x8 x.1 0) (.inr 6) (l7 (UK x t) (.inl x) (.inr 8))
def GK(k N:Int)(t:Int×Int)(b:Int×Bool)(m:List V3):(Int×Bool)⊕(V3×Int):=
 match V_ m N t with
 | .inr c=> .inr ((0,0,0),c)| .inl x=>l7 (plB (t.1,0,IW k b.1 x.2.2 b.2)) (.inl (IW k b.1 x.2.2 b.2,false)) (.inr ((0,0,0),3))
def a2J(k N:Int)(t:Int×Int)(ms:List (List V3)):V3×Int:=
 l7 (Pi k t) (match aP (GK k N t) ms (l7 (x8 k 37) 1 0,true)with
  | .inr c=>c
  | .inl a=>l7 (x8 k 39) (l7 (x8 (o9 ms) 0) ((0,0,0),6) (Ih (t.1,0,a.1))) (Ih (t.1,0,a.1))) ((0,0,0),8)
theorem Kq(k N:Int)(env:aK)(t:Int×Int)(ht:F9 env.2.2.2.2.1 N=some t)(h0:0<=N)(hl:env.2.2.2.1.length<=1000000):pO (k,N) env=some (a2J k N t env.2.2.2.1):=by
 unfold pO a2J;simp only[ht,o8,a4j];cases Pi k t
 .rfl
 simp only[E5,o6,o7];rw[show l7 (x8 k 37) (some (1:Int)) (some 0)=some (l7 (x8 k 37) 1 0) by cases x8 k 37<;>rfl,o8];apply kU env.2.2.2.1 (GK k N t) (λb i=>(((0,0,0),b.1,i):V3×Int×Int)) (λb=>(((0,0,0),b.1):V3×Int)) (λi b=>b.2=decide (i=0)) (l7 (x8 k 37) 1 0,true) hl rfl
 .intro i m b hi hi' hb;have hm:=F5 env.2.2.2.1 i;rw[hi]at hm;have hlt:(i:Int)<o9 env.2.2.2.1:=by
   have:=V6.1 hi;obtain⟨h,_⟩:=this;unfold o9;omega
  simp only[V5 hlt,o7,hm,o8];refine⟨?_,?_⟩
  .unfold GK V_;by_cases g:o9 m<=N
   .rw[Z9 g,kw (.inr (N9 g))];rfl
   .rw[ax l9];obtain⟨x,hx,_⟩:=ng h0 (show N<o9 m by omega);simp only[o6,hx,o8];cases x8 x.1 0
    case true=>rfl
    simp only[o6,o8,L6,b6g];cases UK x t
    .rfl
    simp only[E5,o6,o7,b6f,o8,Ro];have hz:x8 (i:Int) 0=b.2:=by rw[hb];unfold x8;congr 1;simp
    rw[hz];unfold Ih;cases plB (t.1,0,IW k b.1 x.2.2 b.2)
    .rfl
    .rw[Z5 l9];rfl
  .intro b' hb';unfold GK at hb';cases hf:V_ m N t with
   |inr c=>rw[hf]at hb';cases hb'|inl x=>rw[hf]at hb';simp only at hb';cases hp:plB (t.1,0,IW k b.1 x.2.2 b.2)<;>rw[hp]at hb'<;>cases hb';simp
 .intro b hb;rw[N9 (show o9 env.2.2.2.1<=(env.2.2.2.1.length:Int)from aX _)];rfl
 .intro _;cases aP (GK k N t) env.2.2.2.1 (l7 (x8 k 37) 1 0,true)with
  |inr c=>rfl|inl a=>simp only[L6,Ro,o8];cases x8 k 39<;>cases x8 (o9 env.2.2.2.1) 0<;>rfl
variable {t:Int×Int}{x:V3}
theorem a8y(h:UK x t=true):plB x=true/\x.1=t.1/\x.2.1=t.2:=by
 unfold UK at h;cases h1:plB x<;>rw[h1]at h
 .cases h
 cases h2:x8 x.1 t.1<;>rw[h2]at h
 .cases h
 simp only[o7]at h;exact⟨rfl,O9.1 h2,O9.1 h⟩
variable {k:Int}
theorem RD(hk:k=1)(h:plB (k,0,n)=true):n=0\/n=1:=by subst hk;rcases a0q h with⟨m,h,g⟩|⟨m,h,g⟩|⟨m,h,g⟩|⟨m,h,g⟩|⟨m,h,g⟩|⟨e',m,h,g⟩<;>cases h;exact g
theorem WS(h:Pi k t=true):t.2=0:=by
 unfold Pi at h;cases g:x8 t.2 0<;>rw[g]at h
 .cases h
 exact O9.1 g
theorem b0H(h:Pi 37 t=true):t.1=1:=by have:=WS h;unfold Pi at h;rw[J7 this]at h;exact O9.1 h
theorem b2A(k N:Int)(t:Int×Int)(hk:k=36\/k=37\/k=38\/k=39)(ha:Pi k t=true)(b:Int×Bool)(x:V3)(hx:UK x t=true)(i:Nat)(hi:i<=1000000)(hb:b.2=decide (i=0))(hp:k=36\/b.2=true/\k=39\/plB (t.1,0,b.1)=true)(v:V3)(hv:v=(0,0,0)):
  (l7 (x8 k 36) (o5 (je (t.1,t.2,A7 .i64 b.1 x.2.2)) λ(q:Bool)=>l7 (D9 q) (some (Out.rt (((0,0,0),3):V3×Int))) (some (Out.nx ((v,(t.1,t.2,A7 .i64 b.1 x.2.2),A7 .i64 (i:Int) 1):V3×V3×Int))))
   (l7 (x8 k 37) (some (Out.nx (v,(t.1,t.2,qR b.1 x.2.2),A7 .i64 (i:Int) 1)))
    (l7 (x8 k 38) (some (Out.nx (v,(t.1,t.2,oD b.1 x.2.2),A7 .i64 (i:Int) 1)))
     (l7 (x8 k 39) (l7 (x8 (i:Int) 0) (some (Out.nx (v,x,A7 .i64 (i:Int) 1))) (l7 (E9 b.1 x.2.2) (some (Out.nx (v,x,A7 .i64 (i:Int) 1))) (some (Out.nx (v,(t.1,t.2,b.1),A7 .i64 (i:Int) 1)))))
      (some (Out.nx (v,(t.1,t.2,b.1),A7 .i64 (i:Int) 1)))))):Option (Out (V3×V3×Int) (V3×V3) (V3×Int)))=
  some (match(l7 (plB (t.1,0,IW k b.1 x.2.2 b.2)) (.inl (IW k b.1 x.2.2 b.2,false)) (.inr ((0,0,0),3)):(Int×Bool)⊕(V3×Int))with| .inl b' => .nx ((0,0,0),(t.1,t.2,b'.1),((i+1:Nat):Int))| .inr r=> .rt r)/\
  (k≠36->plB (t.1,0,IW k b.1 x.2.2 b.2)=true):=by
 subst hv;have hz:=WS ha;obtain⟨hx1,hx2,hx3⟩:=a8y hx;have hxe:x=(t.1,t.2,x.2.2):=by rw[←hx2,←hx3]
 have hxp:plB (t.1,0,x.2.2)=true:=by rw[←hz,←hxe];exact hx1
 obtain⟨acc,fi⟩:=b;simp only at hb hp ⊢;rw[Z5 l9];rcases hk with rfl|rfl|rfl|rfl
 .refine⟨?_,λh=>absurd rfl h⟩;simp (disch:=decide) only[J7,o7,Ap,o8];rw[hz,show IW 36 acc x.2.2 fi=A7 .i64 acc x.2.2 from rfl];cases plB (t.1,0,A7 .i64 acc x.2.2)<;>rfl
 .have ht1:=b0H ha;have hp' :plB (t.1,0,acc)=true:=by
   rcases hp with h|h|h
   .exact absurd h G6
   .exact absurd h.2 G6
   .exact h
  have e1:=RD ht1 hp';have e2:=RD ht1 hxp;have e3:IW 37 acc x.2.2 fi=qR acc x.2.2/\plB (t.1,0,IW 37 acc x.2.2 fi)=true:=by rw[ht1];generalize x.2.2=q at e2 ⊢;rcases e1 with rfl|rfl<;>rcases e2 with rfl|rfl<;>exact⟨rfl,rfl⟩
  refine⟨?_,λ_=>e3.2⟩;simp (disch:=decide) only[J7,J6,o7,o6];rw[e3.2,e3.1,o7]
 .have ht1:t.1=1:=by
   unfold Pi at ha;rw[J7 hz]at ha;exact O9.1 ha
  have hp' :plB (t.1,0,acc)=true:=by
   rcases hp with h|h|h
   .exact absurd h G6
   .exact absurd h.2 G6
   .exact h
  have e1:=RD ht1 hp';have e2:=RD ht1 hxp;have e3:IW 38 acc x.2.2 fi=oD acc x.2.2/\plB (t.1,0,IW 38 acc x.2.2 fi)=true:=by rw[ht1];generalize x.2.2=q at e2 ⊢;rcases e1 with rfl|rfl<;>rcases e2 with rfl|rfl<;>exact⟨rfl,rfl⟩
  refine⟨?_,λ_=>e3.2⟩;simp (disch:=decide) only[J7,J6,o7,o6];rw[e3.2,e3.1,o7]
 .have hf:IW 39 acc x.2.2 fi=l7 fi x.2.2 (l7 (E9 acc x.2.2) x.2.2 acc):=rfl;simp (disch:=decide) only[J7,J6,o7,o6];rw[hf];have hz' :x8 (i:Int) 0=fi:=by rw[hb];unfold x8;congr 1;simp
  rw[hz'];cases fi
  case true=>simp only[o7,hxp];exact⟨by rw[←hxe],λ_=>trivial⟩
  case false=>
   have hp' :plB (t.1,0,acc)=true:=by
    rcases hp with h|h|h
    .exact absurd h G6
    .exact absurd h.1 x9
    .exact h
   simp only[o6];cases E9 acc x.2.2
   .simp only[o6,hp',o7];exact⟨trivial,λ_=>trivial⟩
   .simp only[o7,hxp];exact⟨by rw[←hxe],λ_=>trivial⟩
variable {γ:Type}
theorem b1T(c:Option γ)(K:γ->Option (V3×Int)):b1S (o5 c K)=o5 c λo=>b1S (K o):=by cases c<;>rfl
theorem wL{α β ρ:Type}(G:β->α->β⊕ρ)(P:ρ->Prop)(hG:∀b a r,G b a= .inr r->P r):∀(l:List α) (b:β) (r:ρ),aP G l b= .inr r->P r
 |[],b,r,h=>by cases h|a::l,b,r,h=>by
  unfold aP at h;cases hg:G b a with
  |inr r' =>rw[hg]at h;simp only at h;cases h;exact hG _ _ _ hg|inl b' =>rw[hg]at h;exact wL G P hG l b' r h
theorem b4V(k N:Int)(t:Int×Int)(b:Int×Bool)(m:List V3)(r:V3×Int)(h:GK k N t b m= .inr r):r=((0,0,0),6)\/r=((0,0,0),8)\/r=((0,0,0),3):=by
 unfold GK at h;cases hf:V_ m N t with
 |inr c=>
  rw[hf]at h;simp only at h;cases h;unfold V_ at hf;cases hm:F9 m N with
  |none=>rw[hm]at hf;cases hf;exact .inl rfl|some x=>
   rw[hm]at hf;simp only at hf;cases h1:x8 x.1 0<;>rw[h1]at hf
   .cases h2:UK x t<;>rw[h2]at hf<;>cases hf;exact .inr (.inl rfl)
   .cases hf;exact .inl rfl
 |inl x=>rw[hf]at h;simp only at h;cases h1:plB (t.1,0,IW k b.1 x.2.2 b.2)<;>rw[h1]at h<;>cases h;exact .inr (.inr rfl)
theorem Za(k N:Int)(env:aK)(hk:k=36\/k=37\/k=38\/k=39)(he:jW (k,N) env=some true)(hl:env.2.2.2.1.length<=1000000):jP (k,N) [] env:=by
 have hN:0<=N/\N<o9 env.2.2.2.2.1:=by
  unfold jW at he;rcases hk with rfl|rfl|rfl|rfl <;>
  .simp (disch:=decide) only[J7,J6,o7,o6,o8]at he;by_cases g:0<=N
   case neg=>rw[ax l9]at he;cases he
   rw[Z9 g,o7]at he;exact⟨g,iW.1 (I8 he)⟩
 obtain⟨t,ht,_⟩:=ng hN.1 hN.2;refine⟨a2J k N t env.2.2.2.1,?_,?_⟩
 .unfold RP;rw[ll0,show N7 36 k=true from Z9 l9,show N7 k 39=true from Z9 l9,Kq k N env t ht hN.1 hl];rfl
 have hA:aT (k,N) [] env=some (Pi k t):=by
  unfold aT;rcases hk with rfl|rfl|rfl|rfl <;>
  .simp (disch:=decide) only[J7,J6,o7,o6,o8,ht,a1B,uh]
 have hC:aU (k,N) [] env=wJ (k,N) env:=by
  unfold aU;rcases hk with rfl|rfl|rfl|rfl <;>
  .simp (disch:=decide) only[J7,J6,o7,o6,o8];generalize wJ _ env=o;cases o<;>rfl
 unfold EP;rw[hA,o8,hC];unfold a2J;cases ha:Pi k t
 .rfl
 simp only[E5,o6,o7];have hz:=WS ha;unfold wJ;simp only[ht,o8];rw[show l7 (x8 k 37) (some (t.1,t.2,(1:Int))) (some (t.1,t.2,0))=some (t.1,t.2,l7 (x8 k 37) 1 0) by cases x8 k 37<;>rfl,o8];have hinit:k=36\/(true=true/\k=39)\/plB (t.1,0,l7 (x8 k 37) 1 0)=true:=by
  rcases hk with rfl|rfl|rfl|rfl
  .exact .inl rfl
  .right;right;rw[b0H ha];rfl
  .right;right;have ht1:t.1=1:=by
    unfold Pi at ha;rw[J7 hz]at ha;exact O9.1 ha
   rw[ht1];rfl
  .exact .inr (.inl ⟨rfl,rfl⟩)
 by_cases hz0:k=39/\o9 env.2.2.2.1=0
 .rw[J7 hz0.1,J7 hz0.2];have:env.2.2.2.1=[]:=by have:=hz0.2;unfold o9 at this;exact P5.1 l9
  rw[this];rfl
 rw[show(l7 (x8 k 39) (l7 (x8 (o9 env.2.2.2.1) 0) (some (Sum.inr (((0,0,0),6):V3×Int))) (some (Sum.inl ((0,0,0):V3)))) (some (Sum.inl (0,0,0))))=some (.inl (0,0,0)) by
  by_cases h1:k=39
  .rw[J7 h1,J6 (λh=>hz0 ⟨h1,h⟩)];rfl
  .rw[J6 h1];rfl]
 simp only[o8,L6];have hend:(match aP (GK k N t) env.2.2.2.1 (l7 (x8 k 37) 1 0,true)with
  | .inr c=>c
  | .inl a=>l7 (x8 k 39) (l7 (x8 (o9 env.2.2.2.1) 0) ((0,0,0),6) (Ih (t.1,0,a.1))) (Ih (t.1,0,a.1)))=(match aP (GK k N t) env.2.2.2.1 (l7 (x8 k 37) 1 0,true)with
  | .inr c=>c
  | .inl a=>Ih (t.1,0,a.1)):=by
  cases aP (GK k N t) env.2.2.2.1 (l7 (x8 k 37) 1 0,true)with
  |inr c=>rfl|inl a=>
   by_cases h1:k=39
   .rw[J7 h1,J6 (λh=>hz0 ⟨h1,h⟩)];rfl
   .rw[J6 h1];rfl
 refine Eq.trans ?_ (congrArg some hend.symm);rw[b1T];apply kU env.2.2.2.1 (GK k N t) (λb i=>(((0,0,0),(t.1,t.2,b.1),i):V3×V3×Int)) (λb=>(((0,0,0),(t.1,t.2,b.1)):V3×V3)) (λi b=>b.2=decide (i=0)/\(k=36\/(b.2=true/\k=39)\/plB (t.1,0,b.1)=true)) (l7 (x8 k 37) 1 0,true) hl ⟨rfl,hinit⟩
 .intro i m b hi hi' hb;have hm:=F5 env.2.2.2.1 i;rw[hi]at hm;have hlt:(i:Int)<o9 env.2.2.2.1:=by
   have:=V6.1 hi;obtain⟨h,_⟩:=this;unfold o9;omega
  simp only[V5 hlt,o7,hm,o8];by_cases g:o9 m<=N
  .have e:GK k N t b m= .inr ((0,0,0),6):=by unfold GK V_;rw[kw (.inr (N9 g))]
   rw[e];refine⟨?_,λ_ h=>by cases h⟩;rw[Z9 g];rfl
  rw[ax l9];obtain⟨x,hx,_⟩:=ng hN.1 (show N<o9 m by omega);simp only[o6,hx,o8];cases h0:x8 x.1 0
  case true=>
   have e:GK k N t b m= .inr ((0,0,0),6):=by unfold GK V_;rw[hx];simp only[h0];rfl
   rw[e];exact⟨rfl,λ_ h=>by cases h⟩
  simp only[o6,o8,L6,A_];cases hh:UK x t
  .have e:GK k N t b m= .inr ((0,0,0),8):=by unfold GK V_;rw[hx];simp only[h0,hh];rfl
   rw[e];exact⟨rfl,λ_ h=>by cases h⟩
  have e:GK k N t b m=l7 (plB (t.1,0,IW k b.1 x.2.2 b.2)) (.inl (IW k b.1 x.2.2 b.2,false)) (.inr ((0,0,0),3)):=by unfold GK V_;rw[hx];simp only[h0,hh,o7,o6]
  obtain⟨s1,s2⟩:=b2A k N t hk ha b x hh i hi' hb.1 hb.2 (0,0,0) rfl;refine⟨?_,?_⟩
  .rw[e,E5,o6];refine Eq.trans (Eq.trans ?_ s1) ?_
   .rfl
   .cases plB (t.1,0,IW k b.1 x.2.2 b.2)<;>rfl
  .intro b' hb';rw[e]at hb';cases hp:plB (t.1,0,IW k b.1 x.2.2 b.2)<;>rw[hp]at hb'<;>cases hb';exact⟨x9,.inr (.inr hp)⟩
 .intro b hb;rw[N9 (show o9 env.2.2.2.1<=(env.2.2.2.1.length:Int)from aX _)];rfl
 .intro hf;cases hq:aP (GK k N t) env.2.2.2.1 (l7 (x8 k 37) 1 0,true)with
  |inr c=>rcases wL (GK k N t) (λr=>r=((0,0,0),6)\/r=((0,0,0),8)\/r=((0,0,0),3)) (b4V k N t) _ _ _ hq with rfl|rfl|rfl<;>rfl
  |inl a=>simp only[L6,EM,QM,hz]
theorem b0W{k e n:Int}(hk:k=5)(h:plB (k,e,n)=true):0<=n/\n<=109572:=by subst hk;rcases a0q h with⟨m,h,g⟩|⟨m,h,g⟩|⟨m,h,g⟩|⟨m,h,g⟩|⟨m,h,g⟩|⟨e',m,h,g⟩<;>cases h;exact g
theorem c0Q(N:Int)(x:V3)(env:aK):jP (10,N) [x] env:=by
 unfold jP RP EP iZ aT aU IU uI;simp (disch:=decide) only[bK];simp only[Ji,EZ,o8];cases l7 (N7 2 x.1) (N7 x.1 4) false
 .exact⟨_,rfl,rfl⟩
 .simp (disch:=decide) only[bK];exact⟨_,rfl,rfl⟩
theorem c0V(N:Int)(x:V3)(env:aK):jP (25,N) [x] env:=by
 unfold jP RP EP iZ aT aU IU uI;simp (disch:=decide) only[bK];cases x8 x.1 1
 .exact⟨_,rfl,rfl⟩
 .simp (disch:=decide) only[bK];exact⟨_,rfl,rfl⟩
theorem a9Z(k N:Int)(x:V3)(env:aK)(hk:k=31\/k=32)(hx:plB x=true):jP (k,N) [x] env:=by
 have hAB:∃q:Int×Int×Int,x.1=5->xw x.2.2=some q/\Gs x.2.2=some q:=⟨_,λh=>⟨FC (b0W h hx).1 (b0W h hx).2,Ql (b0W h hx).1 (b0W h hx).2⟩⟩;obtain⟨q,hAB⟩:=hAB;rcases hk with rfl|rfl
 all_goals
  unfold jP RP EP iZ aT aU IU uI;simp (disch:=decide) only[bK];cases h5:x8 x.1 5
  .simp only[aV,o7,o8,uh];exact⟨_,rfl,rfl⟩
  rw[(hAB (O9.1 h5)).1,(hAB (O9.1 h5)).2];simp (disch:=decide) only[bK];exact⟨_,rfl,rfl⟩
theorem c1b(N:Int)(x:V3)(env:aK)(hx:plB x=true)(he:jW (33,N) env=some true)(ht:∀t∈env.2.2.2.2.2,kR t):jP (33,N) [x] env:=by
 unfold jW at he;simp (disch:=decide) only[J7,J6,o7,o6,o8]at he;by_cases g:0<=N
 case neg=>rw[ax l9]at he;cases he
 rw[Z9 g,o7]at he;obtain⟨t,hq,hm⟩:=ng g (iW.1 (I8 he));have hr:=ht t hm;unfold jP RP EP iZ aT aU NY;simp (disch:=decide) only[bK];simp only[hq,o8,A_,UK,hx,o7];by_cases h1:x.1=t.2.1.1
 case neg=>rw[J6 h1];exact⟨_,rfl,rfl⟩
 rw[J7 h1];by_cases h2:x.2.1=t.2.1.2
 case neg=>rw[J6 h2];exact⟨_,rfl,rfl⟩
 rw[J7 h2];by_cases h3:1<=t.2.2.1.1
 case neg=>rw[ax (lQ.1 h3),V5 (lQ.1 h3)];exact⟨_,rfl,rfl⟩
 rw[Z9 h3,N9 h3];by_cases h4:t.2.2.1.1<=6
 case neg=>rw[ax (lQ.1 h4),V5 (lQ.1 h4)];exact⟨_,rfl,rfl⟩
 rw[Z9 h4,N9 h4];simp (disch:=decide) only[bK];rw[b2e _ _ (by have:=hr.1;omega),a0w _ _ (by have:=hr.1;omega)];simp (disch:=decide) only[bK];cases hl:UW t.2.2.2 env.1 x.2.2 with
 |mk i b=>
  cases b
  .exact⟨_,rfl,rfl⟩
  .obtain⟨l1,l2⟩:=b4P hl;obtain⟨row,hrow,_⟩:=ng l1 l2;simp (disch:=decide) only[bK];rw[hrow];simp (disch:=decide) only[bK];unfold Ih;cases plB (t.2.2.1.1,t.2.2.1.2,row.2.2.2)<;>exact⟨_,rfl,rfl⟩
theorem c1c(N:Int)(x:V3)(env:aK)(h0:0<=N)(hI:N<=9223372036854775807)(he:jW (34,N) env=some true)(ht:∀t∈env.2.2.2.2.2,kR t):jP (34,N) [x] env:=by
 unfold jW at he;simp (disch:=decide) only[J7,J6,o7,o6,o8]at he;have hq0:0<=dV .i64 N 8:=by
  rw[show dV .i64 N 8=N / 8 by unfold dV;rw[Int.tdiv_eq_ediv_of_nonneg h0];exact nY U0]
  omega
 obtain⟨t,hq,hm⟩:=ng hq0 (iW.1 (I8 he));have hr:=ht t hm;unfold jP RP EP iZ aT aU;simp (disch:=decide) only[bK];simp only[hq,o8];cases x8 x.1 3
 .exact⟨_,rfl,rfl⟩
 cases x8 t.2.1.1 3
 .exact⟨_,rfl,rfl⟩
 cases x8 t.2.1.2 0
 .exact⟨_,rfl,rfl⟩
 cases x8 t.2.2.1.1 4
 .exact⟨_,rfl,rfl⟩
 cases x8 t.2.2.1.2 0
 .exact⟨_,rfl,rfl⟩
 simp (disch:=decide) only[bK];rw[show V9 true true=true from rfl];simp (disch:=decide) only[bK];rw[a5p _ _ _ hr,a4k _ _ _ hr];simp (disch:=decide) only[bK];exact⟨_,rfl,rfl⟩
theorem Zn(x y:V3):vI x y=some (l7 (x8 x.1 y.1) (x8 x.2.1 y.2.1) false):=by unfold vI;cases x8 x.1 y.1<;>rfl
theorem a9W(k N:Int)(x y:V3)(env:aK)(hk:k=11\/k=12):jP (k,N) [x,y] env:=by
 rcases hk with rfl|rfl
 all_goals
  (unfold jP RP EP aT aU kY dC fG;simp (disch:=decide) only[bK])
  unfold qo;simp (disch:=decide) only[bK];simp only[Zn,EZ,Ji,o8];cases x8 x.1 y.1
  .exact⟨_,rfl,rfl⟩
  cases x8 x.2.1 y.2.1
  .exact⟨_,rfl,rfl⟩
  cases l7 (N7 2 x.1) (N7 x.1 4) false
  .exact⟨_,rfl,rfl⟩
  simp (disch:=decide) only[bK];exact⟨_,rfl,rfl⟩
theorem b3H(k N:Int)(x y:V3)(env:aK)(hk:k=19\/k=20):jP (k,N) [x,y] env:=by
 rcases hk with rfl|rfl
 all_goals
  (unfold jP RP EP aT aU kY dC fG;simp (disch:=decide) only[bK])
  unfold qo;simp (disch:=decide) only[bK];simp only[Zn,EZ,Ji,o8];cases x8 x.1 y.1
  .exact⟨_,rfl,rfl⟩
  cases x8 x.2.1 y.2.1
  .exact⟨_,rfl,rfl⟩
  simp (disch:=decide) only[bK];exact⟨_,rfl,rfl⟩
theorem a9Y(k N:Int)(x y:V3)(env:aK)(hk:k=21\/k=22):jP (k,N) [x,y] env:=by
 rcases hk with rfl|rfl
 all_goals
  (unfold jP RP EP aT aU kY dC fG;simp (disch:=decide) only[bK])
  unfold qo;simp (disch:=decide) only[bK];simp only[Zn,EZ,Ji,o8];cases x8 x.1 y.1
  .exact⟨_,rfl,rfl⟩
  cases x8 x.2.1 y.2.1
  .exact⟨_,rfl,rfl⟩
  simp (disch:=decide) only[bK];cases l7 (N7 2 x.1) (N7 x.1 4) false
  .simp (disch:=decide) only[bK];cases x8 x.1 5
   .exact⟨_,rfl,rfl⟩
   simp (disch:=decide) only[bK];exact⟨_,rfl,rfl⟩
  simp (disch:=decide) only[bK];exact⟨_,rfl,rfl⟩
theorem ZC(k N:Int)(x y:V3)(env:aK)(hk:k=17\/k=18)(hx:plB x=true)(hy:plB y=true):jP (k,N) [x,y] env:=by
 have mx:Ih x=(x,0):=by unfold Ih;rw[hx];rfl
 have my:Ih y=(y,0):=by unfold Ih;rw[hy];rfl
 have hE:x.1=y.1->x.2.1=y.2.1->x.2.2=y.2.2->x=y:=λh1 h2 h3=>by rw[show x=(x.1,x.2.1,x.2.2)from rfl,h1,h2,h3]
 have fin:x.1=y.1->x.2.1=y.2.1->∀b:Bool,(∃r:V3×Int,l7 (jT b (E9 x.2.2 y.2.2)) (some (x,0)) (some (y,0))=some r/\b1S (l7 (jT b (E9 y.2.2 x.2.2)) (some (y,0)) (some (x,0)))=some r):=by
  intro h1 h2 b;by_cases g:x.2.2<y.2.2
  .rw[V5 g,N9 (Int.le_of_lt g)];cases b
   .exact⟨(y,0),rfl,by rw[show l7 (jT false false) (some (y,(0:Int))) (some (x,0))=some (y,0)from rfl,EM,QM,my]⟩
   .exact⟨(x,0),rfl,by rw[show l7 (jT true false) (some (y,(0:Int))) (some (x,0))=some (x,0)from rfl,EM,QM,mx]⟩
  by_cases g' :y.2.2<x.2.2
  .rw[V5 g',N9 (Int.le_of_lt g')];cases b
   .exact⟨(x,0),rfl,by rw[show l7 (jT false true) (some (y,(0:Int))) (some (x,0))=some (x,0)from rfl,EM,QM,mx]⟩
   .exact⟨(y,0),rfl,by rw[show l7 (jT true true) (some (y,(0:Int))) (some (x,0))=some (y,0)from rfl,EM,QM,my]⟩
  have e:=hE h1 h2 (Int.le_antisymm (jb.1 g') (jb.1 g));refine⟨(x,0),?_,?_⟩
  .rw[e];cases jT b (E9 y.2.2 y.2.2)<;>rfl
  .rw[←e];rw[show l7 (jT b (E9 x.2.2 x.2.2)) (some (x,(0:Int))) (some (x,0))=some (x,0) by cases jT b (E9 x.2.2 x.2.2)<;>rfl,EM,QM,mx]
 have osum:∀(c:Bool),(o5 (l7 c (some (Sum.inr (y,(0:Int)):V3⊕(V3×Int))) (some (.inr (x,0)))) λo=>X9 o (λ_=>o5 (qC x.2.2 y.2.2) λ(q:Int)=>some ((2,0,q),(0:Int))) λr=>some r)=l7 c (some (y,0)) (some (x,0)):=λc=>by cases c<;>rfl
 rcases hk with rfl|rfl
 all_goals
  (unfold jP RP EP aT aU kY dC fG;simp (disch:=decide) only[bK])
  unfold qo;simp (disch:=decide) only[bK];simp only[Zn,EZ,Ji,o8];cases g1:x8 x.1 y.1
  .exact⟨_,rfl,rfl⟩
  cases g2:x8 x.2.1 y.2.1
  .exact⟨_,rfl,rfl⟩
  simp (disch:=decide) only[bK];have F:=fin (O9.1 g1) (O9.1 g2);rw[osum];cases l7 (N7 2 x.1) (N7 x.1 4) false
  .simp (disch:=decide) only[bK];cases x8 x.1 5
   .exact⟨_,rfl,rfl⟩
   simp (disch:=decide) only[bK];simp only[bV];first|exact F true|exact F false
  simp (disch:=decide) only[bK];simp only[bV];first|exact F true|exact F false
theorem c0W(N:Int)(x y:V3)(env:aK):jP (27,N) [x,y] env:=by
 (unfold jP RP EP aT aU kY dC fG;simp (disch:=decide) only[bK])
 unfold zF;simp (disch:=decide) only[bK];cases g1:x8 x.1 5
 .exact⟨_,rfl,rfl⟩
 cases x8 y.1 2
 .exact⟨_,rfl,rfl⟩
 simp (disch:=decide) only[bK];rw[O9.1 g1];exact⟨_,rfl,rfl⟩
theorem c0X(N:Int)(x y:V3)(env:aK):jP (28,N) [x,y] env:=by
 have hA:∃q,wH x.2.2 y.2.2=some q/\qV x.2.2 y.2.2=some q:=⟨_,Ur _ _,Tc _ _⟩;obtain⟨q,h1,h2⟩:=hA
 (unfold jP RP EP aT aU kY dC fG;simp (disch:=decide) only[bK])
 unfold zF;simp (disch:=decide) only[bK];cases g1:x8 x.1 5
 .exact⟨_,rfl,rfl⟩
 cases x8 y.1 2
 .exact⟨_,rfl,rfl⟩
 simp (disch:=decide) only[bK];rw[h1,h2];simp (disch:=decide) only[bK];exact⟨_,rfl,rfl⟩
theorem c0Y(N:Int)(x y:V3)(env:aK):jP (29,N) [x,y] env:=by
 (unfold jP RP EP aT aU kY dC fG;simp (disch:=decide) only[bK])
 unfold zF;simp (disch:=decide) only[bK];cases g1:x8 x.1 5
 .exact⟨_,rfl,rfl⟩
 cases x8 y.1 5
 .exact⟨_,rfl,rfl⟩
 simp (disch:=decide) only[bK];exact⟨_,rfl,rfl⟩
theorem c0Z(N:Int)(x y:V3)(env:aK):jP (30,N) [x,y] env:=by
 have hA:∃q,qC x.2.2 y.2.2=some q/\xJ x.2.2 y.2.2=some q:=⟨_,YY _ _,Xe _ _⟩;obtain⟨q,h1,h2⟩:=hA
 (unfold jP RP EP aT aU kY dC fG;simp (disch:=decide) only[bK])
 unfold zF;simp (disch:=decide) only[bK];cases g1:x8 x.1 5
 .exact⟨_,rfl,rfl⟩
 cases x8 y.1 5
 .exact⟨_,rfl,rfl⟩
 simp (disch:=decide) only[bK];rw[h1,h2];simp (disch:=decide) only[bK];exact⟨_,rfl,rfl⟩
theorem c0S(N:Int)(x y:V3)(env:aK):jP (14,N) [x,y] env:=by
 have hA:∃q,Jj x.2.2 y.2.2 N=some q/\Kr x.2.2 y.2.2 N=some q:=⟨_,b3I _ _ _,b2G _ _ _⟩;have hB:∃q,Qk x.2.2 y.2.2 N=some q/\RJ x.2.2 y.2.2 N=some q:=⟨_,b9n _ _ _,b6h _ _ _⟩;obtain⟨q,h1,h2⟩:=hA;obtain⟨q',h3,h4⟩:=hB
 (unfold jP RP EP aT aU kY dC fG;simp (disch:=decide) only[bK])
 unfold xM CO;simp (disch:=decide) only[bK];rw[h1,h2,h3,h4];cases x8 y.1 4
 .exact⟨_,rfl,rfl⟩
 by_cases g3:x.1=3
 .rw[J7 g3];simp (disch:=decide) only[bK];exact⟨_,rfl,rfl⟩
 rw[J6 g3];simp (disch:=decide) only[bK];cases x8 x.1 4
 .exact⟨_,rfl,rfl⟩
 simp (disch:=decide) only[bK];exact⟨_,rfl,rfl⟩
theorem c0U(N:Int)(x y:V3)(env:aK):jP (16,N) [x,y] env:=by
 have hA:∃q,Be x.2.2 y.2.2 N=some q/\FO x.2.2 y.2.2 N=some q:=⟨_,a9g _ _ _,a6N _ _ _⟩;obtain⟨q,h1,h2⟩:=hA
 (unfold jP RP EP aT aU kY dC fG;simp (disch:=decide) only[bK])
 unfold xM CO;simp (disch:=decide) only[bK];rw[h1,h2];cases x8 x.1 3
 .exact⟨_,rfl,rfl⟩
 cases x8 y.1 3
 .exact⟨_,rfl,rfl⟩
 simp (disch:=decide) only[bK];exact⟨_,rfl,rfl⟩
theorem c0T(N:Int)(x y:V3)(env:aK):jP (15,N) [x,y] env:=by
 have hA:∃q,kz x.2.2 y.2.2 N=some q/\DZ x.2.2 y.2.2 N=some q:=⟨_,JQ _ _ _,a4m _ _ _⟩;have hB:∃q,zu x.2.2 y.2.2 N=some q/\BJ x.2.2 y.2.2 N=some q:=⟨_,a3G _ _ _,a1J _ _ _⟩;obtain⟨q,h1,h2⟩:=hA;obtain⟨q',h3,h4⟩:=hB
 (unfold jP RP EP aT aU kY dC fG;simp (disch:=decide) only[bK])
 unfold xM CO;simp (disch:=decide) only[bK];rw[h1,h2,h3,h4];by_cases g2:y.1=2
 .rw[J7 g2,J6 (show y.1≠3 by rw[g2];decide)];simp (disch:=decide) only[bK];by_cases g3:x.1=3
  .rw[J7 g3,J6 (show x.1≠2 by rw[g3];decide)];simp (disch:=decide) only[bK];exact⟨_,rfl,rfl⟩
  rw[J6 g3];cases x8 x.1 2
  .exact⟨_,rfl,rfl⟩
  simp (disch:=decide) only[bK];exact⟨_,rfl,rfl⟩
 rw[J6 g2];simp (disch:=decide) only[bK];cases x8 x.1 3
 .exact⟨_,rfl,rfl⟩
 simp (disch:=decide) only[bK];cases x8 y.1 3
 .exact⟨_,rfl,rfl⟩
 simp (disch:=decide) only[bK];exact⟨_,rfl,rfl⟩
theorem Cj(n:Int):(n<0/\aH n=-n)\/(0<=n/\aH n=n):=by
 unfold aH;by_cases h:n<0
 .left;exact⟨h,if_pos h⟩
 .right;exact⟨l9,if_neg h⟩
theorem a9T(a b:Int):(l7 (D9 (jT (E9 a 0) (E9 b 0))) (-(aH a*aH b)) (aH a*aH b))=a*b:=by
 rcases Cj a with⟨h1,e1⟩|⟨h1,e1⟩<;>rcases Cj b with⟨h2,e2⟩|⟨h2,e2⟩<;>rw[e1,e2]
 .rw[V5 h1,V5 h2];show -a*-b=a*b;rw[Int.neg_mul_neg]
 .rw[V5 h1,N9 h2];show -(-a*b)=a*b;rw[kJ,Int.neg_neg]
 .rw[N9 h1,V5 h2];show -(a*-b)=a*b;rw[Int.mul_neg,Int.neg_neg]
 .rw[N9 h1,N9 h2];rfl
theorem a8T{a b:Int}(ha:-1000000000000000<=a/\a<=1000000000000000)(hb:-1000000000000<=b/\b<=1000000000000):Ae a b=some (l7 (E9 1000000000000000 (aH a*aH b)) (0,3) (a*b,0)):=by
 unfold Ae;rw[UN l9 l9,UN l9 l9];have A0:0<=aH a/\aH a<=1000000000000000:=by rcases Cj a with⟨h1,e1⟩|⟨h1,e1⟩<;>omega
 have B0:0<=aH b/\aH b<=1000000000000:=by rcases Cj b with⟨h1,e1⟩|⟨h1,e1⟩<;>omega
 rw[Vd A0.1 l9 B0.1 l9,o8];have hm:=a9T a b;have hp:0<=aH a*aH b:=U4 A0.1 B0.1;generalize aH a*aH b=p at hm hp ⊢;simp only;by_cases g:p / 18446744073709551616=0
 case neg=>rw[J6 g,V5 (show(1000000000000000:Int)<p by omega)];rfl
 rw[J7 g,show p % 18446744073709551616=p by omega];by_cases g2:1000000000000000<p
 .rw[V5 g2];rfl
 rw[N9 l9];simp only[E5,o6];rw[show wrap .i64 p=p from nY U0,U2 U0,show(0:Int) -p=-p by omega];rw[←hm];cases D9 (jT (E9 a 0) (E9 b 0))<;>rfl
theorem Oi{x y M:Int}(W:V3×Int)(hy:0<=y)(hM:0<=M)(hM2:M<=1000000000000000):l7 (D9 (x8 y 0)) (o5 (qZ .i64 M y) λ(q:Int)=>l7 (E9 q x) (some ((0,0,0),3)) (some W)) (some W)=some (l7 (E9 M (x*y)) ((0,0,0),3) W):=by
 by_cases h:y=0
 .subst h;rw[J7 rfl,Int.mul_zero,N9 hM];rfl
 rw[J6 h];simp only[aV,o7];rw[yw hM l9 l9,o8];have e:M / y<x↔M<x*y:=Int.ediv_lt_iff_lt_mul l9;by_cases g:M / y<x
 .rw[V5 g,V5 (e.1 g)];rfl
 .rw[N9 (jb.1 g),N9 (jb.1 λh=>g (e.2 h))];rfl
theorem a6M{k a b M:Int}(hM:Ec k=some (-M,M))(hM0:0<=M)(hM2:M<=1000000000000000)(ha:-1000000000000000<=a/\a<=1000000000000000)(hb:-1000000000000<=b/\b<=1000000000000):vS k a b=some (l7 (E9 M (aH a*aH b)) ((0,0,0),3) (Ih (k,0,aA .i64 a b))):=by
 unfold vS;rw[hM,o8];simp only[Ro,o8];have sa:J3 .i64 0 a=-a:=by rw[U2 U0];omega
 have sb:J3 .i64 0 b=-b:=by rw[U2 U0];omega
 rw[sa,sb];rcases Cj a with⟨h1,e1⟩|⟨h1,e1⟩<;>rcases Cj b with⟨h2,e2⟩|⟨h2,e2⟩<;>rw[e1,e2]
 .rw[V5 h1,V5 h2];exact Oi _ l9 hM0 hM2
 .rw[V5 h1,N9 h2];exact Oi _ l9 hM0 hM2
 .rw[N9 h1,V5 h2];exact Oi _ l9 hM0 hM2
 .rw[N9 h1,N9 h2];exact Oi _ l9 hM0 hM2
theorem a0r{k a b M:Int}(hk:Dq k=(-M,M))(hM0:0<=M)(hM2:M<=1000000000000000)(ha:-1000000000000000<=a/\a<=1000000000000000)(hb:-1000000000000<=b/\b<=1000000000000):∃r:V3×Int,vS k a b=some r/\∃q:Int×Int,Ae a b=some q/\VY (k,0,q.1) q.2=r:=by
 refine⟨_,a6M (by rw[b0e,hk]) hM0 hM2 ha hb,_,a8T ha hb,?_⟩;have hm:=a9T a b;have hmd:aH a*aH b=aH (a*b):=by rcases Cj (a*b)with⟨h,e⟩|⟨h,e⟩<;>(have hn:=U4 (mM a) (mM b);cases hq:D9 (jT (E9 a 0) (E9 b 0))<;>rw[hq]at hm<;>simp only[o7,o6]at hm<;>omega)
 rw[hmd];have habs:=Cj (a*b);have hI:aH (a*b)<=1000000000000000->aA .i64 a b=a*b:=λh=>nH U0;have hpl:M<aH (a*b)->plB (k,0,a*b)=false:=by
  intro h;unfold plB;rw[hk];simp only;by_cases g:-M<=a*b
  .rw[Z9 g,ax (show M<a*b by omega)];rfl
  .rw[ax l9];rfl
 generalize a*b=p at*;by_cases g:1000000000000000<aH p
 .rw[V5 g,V5 l9];rfl
 rw[N9 l9,hI l9];simp only[o6,QM];by_cases g2:M<aH p
 .rw[V5 g2];unfold Ih;rw[hpl g2];rfl
 .rw[N9 l9];rfl
theorem b0X{k e n:Int}(h:plB (k,e,n)=true):(k=2->-1000000000000<=n/\n<=1000000000000)/\(k=3->-1000000000000000<=n/\n<=1000000000000000):=by rcases a0q h with⟨m,h,g⟩|⟨m,h,g⟩|⟨m,h,g⟩|⟨m,h,g⟩|⟨m,h,g⟩|⟨e',m,h,g⟩<;>cases h<;>exact⟨λh=>by first|exact g|exact absurd h G6,λh=>by first|exact g|exact absurd h G6⟩
theorem c0R(N:Int)(x y:V3)(env:aK)(hx:plB x=true)(hy:plB y=true):jP (13,N) [x,y] env:=by
 have hX:=b0X (k:=x.1) (e:=x.2.1) (n:=x.2.2) hx;have hY:=b0X (k:=y.1) (e:=y.2.1) (n:=y.2.2) hy;have key:y.1=2->x.1=2\/x.1=3->∃r:V3×Int,vS x.1 x.2.2 y.2.2=some r/\∃q:Int×Int,Ae x.2.2 y.2.2=some q/\VY (x.1,0,q.1) q.2=r:=by
  intro h2 h;have hb:=hY.1 h2;rcases h with h|h
  .have ha:=hX.1 h;exact a0r (M:=1000000000000) (by rw[h];rfl) G6 G6 ⟨Int.le_trans G6 ha.1,Int.le_trans ha.2 G6⟩ hb
  .have ha:=hX.2 h;exact a0r (M:=1000000000000000) (by rw[h];rfl) G6 G6 ha hb
 (unfold jP RP EP aT aU kY dC fG;simp (disch:=decide) only[bK])
 unfold xM CO;simp (disch:=decide) only[bK];cases g2:x8 y.1 2
 .exact⟨_,rfl,rfl⟩
 by_cases g3:x.1=3
 .obtain⟨r,e1,q,e2,e3⟩:=key (O9.1 g2) (.inr g3);rw[J7 g3,J6 (show x.1≠2 by rw[g3];decide)];simp (disch:=decide) only[bK];rw[e1,e2];simp (disch:=decide) only[bK];exact⟨_,rfl,congrArg some e3⟩
 rw[J6 g3];cases g4:x8 x.1 2
 .exact⟨_,rfl,rfl⟩
 obtain⟨r,e1,q,e2,e3⟩:=key (O9.1 g2) (.inl (O9.1 g4));simp (disch:=decide) only[bK];rw[e1,e2];simp (disch:=decide) only[bK];exact⟨_,rfl,congrArg some e3⟩
theorem b3p:∀i:Fin 40,lX ((i.1:Nat):Int)=yA ((i.1:Nat):Int):=by decide+kernel
theorem b3J:∀i:Fin 40,(qY ((i.1:Nat):Int)=0->i.1∈[1,2,3,4,5,6,7,8,9,35,36,37,38,39])/\(qY ((i.1:Nat):Int)=1->i.1∈[10,25,31,32,33,34])/\(qY ((i.1:Nat):Int)=2->i.1∈[11,12,13,14,15,16,17,18,19,20,21,22,23,24,27,28,29,30])/\(qY ((i.1:Nat):Int)=3->i.1=26):=by decide+kernel
theorem c3W(h:k<1\/39<k):qY k=-1:=by
 unfold qY kC;rw[J6 (show k≠10 by omega),J6 (show k≠25 by omega),J6 (show k≠31 by omega),J6 (show k≠32 by omega),J6 (show k≠33 by omega),J6 (show k≠34 by omega),J6 (show k≠26 by omega)];rcases h with h|h
 .rw[ax (show k<1 by omega),ax (show k<35 by omega),ax (show k<11 by omega)];rfl
 .rw[Z9 (show 1<=k by omega),ax (show 9<k by omega),Z9 (show 35<=k by omega),ax (show 39<k by omega),Z9 (show 11<=k by omega),ax (show 30<k by omega)];rfl
theorem c1e(h:qY k≠-1):∃i:Fin 40,k=((i.1:Nat):Int):=by
 by_cases g:1<=k/\k<=39
 .exact⟨⟨k.toNat,l9⟩,by simp;omega⟩
 .exact absurd (c3W l9) h
theorem b8h(h:qY k≠-1):lX k=yA k:=by obtain⟨i,rfl⟩:=c1e h;exact b3p i
theorem a2H(k:Int):∃b,yA k=some b:=by unfold yA;cases N7 1 k<;>cases N7 k 8<;>cases N7 36 k<;>cases N7 k 39<;>cases x8 k 14<;>cases x8 k 15<;>cases x8 k 16<;>cases x8 k 33<;>exact⟨_,rfl⟩
def b1W(k N:Int):Bool:=l7 (l7 (x8 k 14) true (l7 (x8 k 15) true (x8 k 16))) (l7 (N7 0 N) (N7 N 5) false) (l7 (x8 k 34) (l7 (N7 0 N) (N7 (eF N 8) 5) false) (l7 (x8 k 6) (N7 0 N) true))
theorem a5O(k N:Int):(o5 (l7 (x8 k 14) (some (x8 k 14)) (l7 (x8 k 15) (some (x8 k 15)) (some (x8 k 16)))) λ(x:Bool)=>l7 x (l7 (N7 0 N) (some (N7 N 5)) (some false)) (l7 (x8 k 34) (l7 (N7 0 N) (some (N7 (eF N 8) 5)) (some false)) (l7 (x8 k 6) (some (N7 0 N)) (some true))))=some (b1W k N):=by unfold b1W;cases x8 k 14<;>cases x8 k 15<;>cases x8 k 16<;>cases N7 0 N<;>cases x8 k 34<;>cases x8 k 6<;>rfl
def a5N(k N:Int):Bool:=l7 (x8 N 0) (b1W k N) (l7 ((yA k).getD false) (b1W k N) false)
theorem a2r{k N c:Int}(h:qY k=c):Io (k,N) c=some (a5N k N):=by unfold Io a5N;rw[a0z,o8,J7 h];simp only[E5,o6,a5O];obtain⟨b,hb⟩:=a2H k;rw[hb];cases x8 N 0<;>cases b<;>rfl
variable {N:Int}
theorem a7H(h:qY k≠-1):uw (k,N)=some (a5N k N):=by unfold uw a5N;rw[ZF,o8,N9 (show 0<=qY k by have:=(Ll k).2.2;omega)];simp only[o6,a5O];rw[b8h h];obtain⟨b,hb⟩:=a2H k;rw[hb];cases x8 N 0<;>cases b<;>rfl
theorem a9L(k N:Int):∃b,uw (k,N)=some b:=by
 by_cases h:qY k=-1
 .refine⟨false,?_⟩;unfold uw;rw[ZF,o8,h];rfl
 .exact⟨_,a7H h⟩
theorem XW(n:Int×Int)(env:aK):∃b,jW n env=some b:=by
 unfold jW;by_cases h7:n.1=7
 .rw[J7 h7,o7];cases N7 0 n.2<;>exact⟨_,rfl⟩
 rw[J6 h7,o6];by_cases h8:n.1=8
 .rw[J7 h8,o7];by_cases g:0<=n.2
  case neg=>rw[ax (lQ.1 g)];exact⟨_,rfl⟩
  by_cases g2:n.2<o9 env.2.2.1
  case neg=>rw[Z9 g,N9 (jb.1 g2)];exact⟨_,rfl⟩
  obtain⟨x,hx,_⟩:=ng g g2;rw[Z9 g,V5 g2,hx];exact⟨_,rfl⟩
 rw[J6 h8,o6];cases x8 n.1 33
 .cases x8 n.1 34
  .cases x8 n.1 36<;>cases x8 n.1 37<;>cases x8 n.1 38<;>cases x8 n.1 39<;>cases N7 0 n.2<;>exact⟨_,rfl⟩
  .exact⟨_,rfl⟩
 .cases N7 0 n.2<;>exact⟨_,rfl⟩
variable {α:Type}
theorem b8s(l:List α)(p:α->Bool):l.all p= !l.any λv=> !p v:=by
 induction l with
 |nil=>rfl|cons a l ih=>rw[List.all_cons,lZ,Bool.not_or,Bool.not_not,ih]
theorem b3F(l:List V3)(hl:l.length<=1000000):yM l=some (l.all plB):=by
 unfold yM;have e:=vX l (λv=> !plB v) false PUnit.unit (f:=λ(x:Int)=>l7 (E9 x (o9 l)) (o5 (F9 l x) λ(x_1:V3)=>o5 (je x_1) λ(x_2:Bool)=>l7 (D9 x_2) (some (Out.rt false)) (some (Out.nx (A7 IntKind.i64 x 1)))) (some (Out.ex PUnit.unit))) hl
  (λi a hi=>by
   have hlt:(i:Int)<o9 l:=by have:=V6.1 hi;obtain⟨h,_⟩:=this;unfold o9;omega
   have hm:=F5 l i;rw[hi]at hm;simp only[V5 hlt,o7,hm,o8,Ap];cases plB a<;>rfl) (by rw[N9 (show o9 l<=(l.length:Int)from aX _)];rfl)
 rw[show V7 _ _=_ from e];rw[b8s l plB];cases l.any λv=> !plB v<;>rfl
theorem a2W(l:List V3)(hl:l.length<=1000000){K:V3⊕(V3×Int)->Option γ} :(o5 (V7
      (λ(x:V3×Int)=>
       l7 (E9 x.2 (o9 l))
        (o5 (F9 l x.2) λ(x_1:V3)=>
         o5 (jc x_1) λ(x_2:Bool)=>
          l7 (D9 x_2) (some (Out.rt (((0,0,0),8):V3×Int))) (some (Out.nx (x.1,A7 IntKind.i64 x.2 1))))
        (some (Out.ex x.1)))
      ((0,0,0),0)) K)=K (l7 (l.all plB) (.inl (0,0,0)) (.inr ((0,0,0),8))):=by
 have hf:∀(l:List V3) (u:V3),aP (λ(_:V3) (v:V3)=>(l7 (plB v) (.inl ((0,0,0):V3)) (.inr (((0,0,0),8):V3×Int)):V3⊕(V3×Int))) l (0,0,0)=l7 (l.all plB) (.inl (0,0,0)) (.inr ((0,0,0),8)):=by
  intro l u;induction l with
  |nil=>rfl|cons a l ih=>
   unfold aP;rw[List.all_cons];cases plB a
   .rfl
   .exact ih
 apply kU l (λ(_:V3) (v:V3)=>(l7 (plB v) (.inl ((0,0,0):V3)) (.inr (((0,0,0),8):V3×Int)):V3⊕(V3×Int))) (λb i=>((b,i):V3×Int)) (λb=>b) (λi b=>b=(0,0,0)) (0,0,0) hl rfl
 .intro i a b hi hi' hb;subst hb;have hlt:(i:Int)<o9 l:=by
   have:=V6.1 hi;obtain⟨h,_⟩:=this;unfold o9;omega
  have hm:=F5 l i;rw[hi]at hm;simp only[V5 hlt,o7,hm,o8,nz];cases plB a
  .exact⟨rfl,λ_ h=>by cases h⟩
  .exact⟨by rw[Z5 l9];rfl,λ_ h=>by cases h;rfl⟩
 .intro b hb;simp only[N9 (show o9 l<=(l.length:Int)from aX _),o6]
 .intro _;rw[hf l (0,0,0)];cases l.all plB<;>rfl
structure EvOk (env:aK):Prop where
 ms:env.2.2.2.1.length<=1000000
 tb:∀t∈env.2.2.2.2.2,kR t
theorem b3G(k N:Int)(args:List V3)(env:aK)(hE:EvOk env)(hN:-9223372036854775808<=N/\N<=9223372036854775807)(hk:k≠23/\k≠24/\k≠26)(ha:qY k=o9 args)(hf:a5N k N=true)(he:jW (k,N) env=some true)(hp:args.all plB=true):jP (k,N) args env:=by
 have hne:qY k≠-1:=by rw[ha];unfold o9;omega
 have hN34:k=34->0<=N:=by
  rintro rfl;unfold a5N at hf;have:b1W 34 N=true:=by
   cases g:x8 N 0<;>rw[g]at hf
   .exact hf
   .exact hf
  unfold b1W at this;by_cases g:0<=N
  .exact g
  .rw[ax l9]at this;cases this
 obtain⟨i,hi⟩:=c1e hne;obtain⟨a0,a1,a2,a3⟩:=b3J i;rw[←hi,ha]at a0 a1 a2 a3;match args,ha,hp with
 |[],ha,hp=>
  have:=a0 rfl;simp only[D5,lw,or_false]at this;rcases this with h|h|h|h|h|h|h|h|h|h|h|h|h|h<;>rw[h]at hi<;>subst hi
  .exact Us _ _ _ G6
  .exact Us _ _ _ G6
  .exact Us _ _ _ G6
  .exact Us _ _ _ G6
  .exact Us _ _ _ G6
  .exact c3R _ _
  .exact c3S _ _ he
  .exact c3T _ _ he
  .exact c3V _ _
  .exact c1d _ _
  .exact Za _ _ _ G6 he hE.ms
  .exact Za _ _ _ G6 he hE.ms
  .exact Za _ _ _ G6 he hE.ms
  .exact Za _ _ _ G6 he hE.ms
 |[x],ha,hp=>
  have hx:plB x=true:=by simpa using hp
  have:=a1 rfl;simp only[D5,lw,or_false]at this;rcases this with h|h|h|h|h|h<;>rw[h]at hi<;>subst hi
  .exact c0Q _ _ _
  .exact c0V _ _ _
  .exact a9Z _ _ _ _ G6 hx
  .exact a9Z _ _ _ _ G6 hx
  .exact c1b _ _ _ hx he hE.tb
  .exact c1c _ _ _ (hN34 rfl) hN.2 he hE.tb
 |[x,y],ha,hp=>
  have hxy:plB x=true/\plB y=true:=by simpa using hp
  have:=a2 rfl;simp only[D5,lw,or_false]at this;rcases this with h|h|h|h|h|h|h|h|h|h|h|h|h|h|h|h|h|h<;>rw[h]at hi<;>subst hi
  .exact a9W _ _ _ _ _ G6
  .exact a9W _ _ _ _ _ G6
  .exact c0R _ _ _ _ hxy.1 hxy.2
  .exact c0S _ _ _ _
  .exact c0T _ _ _ _
  .exact c0U _ _ _ _
  .exact ZC _ _ _ _ _ G6 hxy.1 hxy.2
  .exact ZC _ _ _ _ _ G6 hxy.1 hxy.2
  .exact b3H _ _ _ _ _ G6
  .exact b3H _ _ _ _ _ G6
  .exact a9Y _ _ _ _ _ G6
  .exact a9Y _ _ _ _ _ G6
  .exact absurd rfl hk.1
  .exact absurd rfl hk.2.1
  .exact c0W _ _ _ _
  .exact c0X _ _ _ _
  .exact c0Y _ _ _ _
  .exact c0Z _ _ _ _
 |[x,y,z],ha,hp=>have h:=a3 rfl;rw[h]at hi;exact absurd hi hk.2.2|x::y::z::w::l,ha,hp=>
  have h1:=(Ll k).2.2;have:o9 (x::y::z::w::l)=(l.length:Int)+4:=by unfold o9;simp<;>omega
  rw[this]at ha;omega
theorem a5h(k N:Int)(args:List V3)(env:aK)(hE:EvOk env)(hN:-9223372036854775808<=N/\N<=9223372036854775807)(hk:k≠23/\k≠24/\k≠26)(hl:args.length<=1000000):∃r:V3×Int,sF (k,N) args env=some r/\BV (k,N) args env=some r:=by
 by_cases ha:qY k=o9 args
 case neg=>
  refine⟨((0,0,0),2),?_,?_⟩
  .unfold sF Io;rw[a0z,o8,J6 ha];rfl
  .unfold BV;obtain⟨b,hb⟩:=a9L k N;rw[hb,o8];cases b
   .rfl
   .rw[ZF,o8,J6 (λh=>ha h.symm)];rfl
 have hne:qY k≠-1:=by rw[ha];unfold o9;omega
 unfold sF BV;rw[a2r ha,a7H hne,ZF];simp only[o8,J7 ha.symm];cases hf:a5N k N
 .exact⟨_,rfl,rfl⟩
 simp only[E5,o6,o8,L6];obtain⟨b,hb⟩:=XW (k,N) env;rw[show xq (k,N) env=some b from hb,hb];cases b
 .exact⟨_,rfl,rfl⟩
 simp only[o8,E5,o6];rw[a2W args hl,b3F args hl,o8];cases hp:args.all plB
 .exact⟨_,rfl,rfl⟩
 exact b3G k N args env hE hN hk ha hf hb hp
def XT.node:XT->Int×Int
 | .l0 n=>n| .l1 n _=>n| .l2 n _ _=>n| .l3 n _ _ _=>n
def rtI(t:XT)(o:Nat):Nat:=o+t.size -1
def At(e:c9k)(S:c9h)(t:XT)(o:Nat):Prop:=∃pre suf S1 S2,e=pre++t.post++suf/\S=S1++t.sts o++S2/\pre.length=o/\S1.length=o
variable {e:c9k}{S:c9h}{o:Nat}
theorem b3N{n:Int×Int}{a:XT}(h:At e S (.l1 n a) o):At e S a o:=by obtain⟨p,s,S1,S2,h1,h2,h3,h4⟩:=h;exact⟨p,[n]++s,S1,[(o:Int)]++S2,by rw[h1];simp[XT.post],by rw[h2];simp[XT.sts],h3,h4⟩
theorem SG{n:Int×Int}{a b:XT}(h:At e S (.l2 n a b) o):At e S a o/\At e S b (o+a.size):=by
 obtain⟨p,s,S1,S2,h1,h2,h3,h4⟩:=h;exact⟨⟨p,b.post++[n]++s,S1,b.sts (o+a.size)++[(o:Int)]++S2,by rw[h1];simp[XT.post],by rw[h2];simp[XT.sts],h3,h4⟩,
  ⟨p++a.post,[n]++s,S1++a.sts o,[(o:Int)]++S2,by rw[h1];simp[XT.post],by rw[h2];simp[XT.sts],by simp[XT.post_len,h3],by simp[XT.sts_len,h4]⟩⟩
theorem Uu{n:Int×Int}{a b c:XT}(h:At e S (.l3 n a b c) o):At e S a o/\At e S b (o+a.size)/\At e S c (o+a.size+b.size):=by
 obtain⟨p,s,S1,S2,h1,h2,h3,h4⟩:=h;exact⟨⟨p,b.post++c.post++[n]++s,S1,b.sts (o+a.size)++c.sts (o+a.size+b.size)++[(o:Int)]++S2,by rw[h1];simp[XT.post],by rw[h2];simp[XT.sts],h3,h4⟩,
  ⟨p++a.post,c.post++[n]++s,S1++a.sts o,c.sts (o+a.size+b.size)++[(o:Int)]++S2,by rw[h1];simp[XT.post],by rw[h2];simp[XT.sts],by simp[XT.post_len,h3],by simp[XT.sts_len,h4]⟩,
  ⟨p++a.post++b.post,[n]++s,S1++a.sts o++b.sts (o+a.size),[(o:Int)]++S2,by rw[h1];simp[XT.post],by rw[h2];simp[XT.sts],by simp[XT.post_len,h3];try omega,by simp[XT.sts_len,h4];try omega⟩⟩
theorem b2E(t:XT):∃p,t.post=p++[t.node]/\p.length+1=t.size:=by
 have hl:=t.post_len;cases t with
 |l0 n=>exact⟨[],rfl,rfl⟩|l1 n a=>refine⟨a.post,rfl,?_⟩;simp only[XT.post,E8,dE]at hl;exact hl|l2 n a b=>refine⟨a.post++b.post,rfl,?_⟩;simp only[XT.post,E8,dE]at hl ⊢;exact hl|l3 n a b c=>refine⟨a.post++b.post++c.post,rfl,?_⟩;simp only[XT.post,E8,dE]at hl ⊢;exact hl
theorem b7P(t:XT)(o:Nat):∃p,t.sts o=p++[(o:Int)]/\p.length+1=t.size:=by
 have hl:=t.sts_len o;cases t with
 |l0 n=>exact⟨[],rfl,rfl⟩|l1 n a=>refine⟨a.sts o,rfl,?_⟩;simp only[XT.sts,E8,dE]at hl;exact hl|l2 n a b=>refine⟨a.sts o++b.sts (o+a.size),rfl,?_⟩;simp only[XT.sts,E8,dE]at hl ⊢;exact hl|l3 n a b c=>refine⟨a.sts o++b.sts (o+a.size)++c.sts (o+a.size+b.size),rfl,?_⟩;simp only[XT.sts,E8,dE]at hl ⊢;exact hl
theorem uC{t:XT}(h:At e S t o):e[rtI t o]? =some t.node/\S[rtI t o]? =some (o:Int)/\rtI t o<e.length:=by
 obtain⟨p,s,S1,S2,h1,h2,h3,h4⟩:=h;obtain⟨q,e1,e2⟩:=b2E t;obtain⟨q',e1',e2'⟩:=b7P t o;have hp:=t.size_pos;have a1:e[rtI t o]? =some t.node:=by rw[h1,e1,F8,F8,←F8 p,H7 (by simp[rtI];omega)];rw[show rtI t o -(p++q).length=0 by simp[rtI];omega];rfl
 refine⟨a1,?_,(V6.1 a1).1⟩;rw[h2,e1',F8,F8,←F8 S1,H7 (by simp[rtI];omega)];rw[show rtI t o -(S1++q').length=0 by simp[rtI];omega];rfl
def NI:XT->Nat->c9h
 | .l0 _,_=>[]| .l1 _ a,o=>[(rtI a o:Int)]| .l2 _ a b,o=>[(rtI a o:Int),(rtI b (o+a.size):Int)]| .l3 _ a b c,o=>[(rtI a o:Int),(rtI b (o+a.size):Int),(rtI c (o+a.size+b.size):Int)]
structure OStep (S:c9h) (f:c9h×Int×Int->Option ((c9h×Int×Int)⊕c9h)):Prop where
 step:∀(l:c9h) (c:Nat) (j:Nat) (x:Nat),j<l.length->l.length<=3->S[c]? =some ((x:Nat):Int)->x<=100->f (l,(c:Int),(j:Int))=some (.inl (l.set j (c:Int),(x:Int) -1,(j:Int) -1))
 stop:∀(l:c9h) (c:Int),f (l,c,-1)=some (.inr l)
variable {σ:Type}{ε:Type}{f:σ->Option (σ⊕ε)}
theorem EW{s s' :σ}{n:Nat}(h:f s=some (.inl s')):vN f (n+1) s=vN f n s' :=by rw[vN,h]
theorem LZ{s:σ}{e:ε}{n:Nat}(h:f s=some (.inr e)):vN f (n+1) s=some e:=by rw[vN,h]
theorem a6B{t:XT}{f:c9h×Int×Int->Option ((c9h×Int×Int)⊕c9h)}(hs:OStep S f)(h:At e S t o)(he:e.length<=48)(hw:t.wf):
  ay f (List.replicate (qY t.node.1).toNat 0,(rtI t o:Int) -1,qY t.node.1 -1)=some (NI t o):=by
 obtain⟨k,hk⟩:∃k,lG=k+1+1+1+1:=⟨lG -4,by unfold lG;omega⟩;unfold ay;rw[hk];have hr:=uC h;cases t with
 |l0 n=>rw[show qY (XT.l0 n).node.1=0 from hw];exact LZ (hs.stop _ _)|l1 n a=>rw[show qY (XT.l1 n a).node.1=1 from hw.1];have ha:=uC (b3N h);have p1:=a.size_pos;rw[show((rtI (.l1 n a) o:Nat):Int) -1=((rtI a o:Nat):Int) by simp only[rtI,XT.size];omega];rw[show((1:Int) -1)=((0:Nat):Int)from rfl,EW (hs.step _ _ 0 o x9 x9 ha.2.1 (by unfold rtI at hr;omega))];rw[show(((0:Nat):Int) -1)=-1 from rfl,LZ (hs.stop _ _)];rfl|l2 n a b=>rw[show qY (XT.l2 n a b).node.1=2 from hw.1];have ha:=uC (SG h).1;have hb:=uC (SG h).2;have p1:=a.size_pos;have p2:=b.size_pos;rw[show((rtI (.l2 n a b) o:Nat):Int) -1=((rtI b (o+a.size):Nat):Int) by simp only[rtI,XT.size];omega];rw[show((2:Int) -1)=((1:Nat):Int)from rfl,EW (hs.step _ _ 1 (o+a.size) x9 x9 hb.2.1 (by unfold rtI at hb;omega))];rw[show((o+a.size:Nat):Int) -1=((rtI a o:Nat):Int) by unfold rtI;omega,show(((1:Nat):Int) -1)=((0:Nat):Int)from rfl];rw[EW (hs.step _ _ 0 o x9 x9 ha.2.1 (by unfold rtI at hr;omega))];rw[show(((0:Nat):Int) -1)=-1 from rfl,LZ (hs.stop _ _)];rfl|l3 n a b c=>rw[show qY (XT.l3 n a b c).node.1=3 from hw.1];have ha:=uC (Uu h).1;have hb:=uC (Uu h).2.1;have hc:=uC (Uu h).2.2;have p1:=a.size_pos;have p2:=b.size_pos;have p3:=c.size_pos;rw[show((rtI (.l3 n a b c) o:Nat):Int) -1=((rtI c (o+a.size+b.size):Nat):Int) by simp only[rtI,XT.size];omega];rw[show((3:Int) -1)=((2:Nat):Int)from rfl,EW (hs.step _ _ 2 (o+a.size+b.size) x9 x9 hc.2.1 (by unfold rtI at hc;omega))];rw[show((o+a.size+b.size:Nat):Int) -1=((rtI b (o+a.size):Nat):Int) by unfold rtI;omega,show(((2:Nat):Int) -1)=((1:Nat):Int)from rfl];rw[EW (hs.step _ _ 1 (o+a.size) x9 x9 hb.2.1 (by unfold rtI at hb;omega))];rw[show((o+a.size:Nat):Int) -1=((rtI a o:Nat):Int) by unfold rtI;omega,show(((1:Nat):Int) -1)=((0:Nat):Int)from rfl];rw[EW (hs.step _ _ 0 o x9 x9 ha.2.1 (by unfold rtI at hr;omega))];rw[show(((0:Nat):Int) -1)=-1 from rfl,LZ (hs.stop _ _)];rfl
theorem c0M{t:XT}(h:t.wf):0<=qY t.node.1/\qY t.node.1<=3:=by
 cases t with
 |l0 n=>rw[show qY (XT.l0 n).node.1=0 from h];decide|l1 n a=>rw[show qY (XT.l1 n a).node.1=1 from h.1];decide|l2 n a b=>rw[show qY (XT.l2 n a b).node.1=2 from h.1];decide|l3 n a b c=>rw[show qY (XT.l3 n a b c).node.1=3 from h.1];decide
theorem Mc(h:0<=k)(h2:k<=1000000)(x:α):qU k x=some (List.replicate k.toNat x):=if_pos ⟨h,l9⟩
theorem JZ{t:XT}(env:aK)(h:At e S t o)(he:e.length<=48)(hw:t.wf):mF (e,S,env) (rtI t o:Int)=some (NI t o):=by
 have hr:=uC h;have ha:=c0M hw;unfold mF;simp only[F5,hr.1,o8,ZF];rw[Mc ha.1 l9,o8,bV];rw[show J3 .i64 ((rtI t o:Nat):Int) 1=(rtI t o:Int) -1 from U2 U0];rw[show J3 .i64 (o9 (List.replicate (qY t.node.1).toNat (0:Int))) 1=qY t.node.1 -1 by rw[show o9 (List.replicate (qY t.node.1).toNat (0:Int))=qY t.node.1 by unfold o9;rw[tK];omega];exact U2 U0]
 refine a6B ⟨λl c j x hj hl hx hx2=>?_,λl c=>?_⟩ h he hw
 .have hjl:l[j]? =some l[j]:=dh hj;simp only[Z9 (show(0:Int)<=(j:Int) by omega),o7,F5,hjl,o8,hx,O8,U6,J9,bu];rw[U2 U0,U2 U0]
 .rfl
theorem Il{T t:XT}(hT:mZ e= .inr T)(h:At e (T.sts 0) t o)(hw:t.wf):Ea e (rtI t o:Int)=some (NI t o):=by
 obtain⟨hp,he⟩:=Dj hT;have hr:=uC h;have ha:=c0M hw;unfold Ea;rw[KW,o8];unfold yX;rw[hT];simp only[F5,hr.1,o8,a0z,J7 (rfl:(0:Int)=0),E5,o6];rw[N9 (show(0:Int)<=((rtI t o:Nat):Int) by omega),ax (show((rtI t o:Nat):Int)<o9 e by unfold o9;omega)];simp only[o6,o8,L6];rw[Mc ha.1 l9,o8,bV];rw[show J3 .i64 ((rtI t o:Nat):Int) 1=(rtI t o:Int) -1 from U2 U0];rw[show J3 .i64 (qY t.node.1) 1=qY t.node.1 -1 from U2 U0];refine a6B ⟨λl c j x hj hl hx hx2=>?_,λl c=>?_⟩ h he hw
 .have hjl:l[j]? =some l[j]:=dh hj;simp only[Z9 (show(0:Int)<=(j:Int) by omega),o7,F5,hjl,o8,hx,O8,U6,J9,bu];rw[U2 U0,U2 U0]
 .rfl
def yC(n:Int×Int)(args:List V3)(env:aK):V3×Int:=(sF n args env).getD ((0,0,0),0)
variable {env:aK}
theorem Iz{n:Int×Int}(args:List V3)(hE:EvOk env)(hI:jl n.2)(hk:n.1≠23/\n.1≠24/\n.1≠26)(hl:args.length<=3):sF n args env=some (yC n args env)/\BV n args env=some (yC n args env):=by
 obtain⟨r,h1,h2⟩:=a5h n.1 n.2 args env hE (by unfold jl at hI;omega) hk l9;have e:yC n args env=r:=by unfold yC;rw[show sF n args env=some r from h1];rfl
 rw[e];exact⟨h1,h2⟩
def lzB(k:Int):Bool:=l7 (x8 k 23) true (l7 (x8 k 24) true (x8 k 26))
theorem b4Q(h:lzB k=false):k≠23/\k≠24/\k≠26:=by refine⟨?_,?_,?_⟩<;>(rintro rfl;revert h;decide)
def yI(r:V3×Int):V3×Int:=l7 (x8 r.2 0) (l7 (x8 r.1.1 1) (l7 (plB r.1) (r.1,0) ((0,0,0),8)) ((0,0,0),8)) ((0,0,0),r.2)
def Ye(n:Int×Int)(ra rb:V3×Int):V3×Int:=l7 (x8 n.2 0) (l7 (x8 (yI ra).2 0) (l7 (jT (x8 n.1 23) (x8 (yI ra).1.2.2 0)) ((yI ra).1,0) (yI rb)) ((0,0,0),(yI ra).2)) ((0,0,0),2)
def a2F(n:Int×Int)(ra rb rc:V3×Int):V3×Int:=l7 (x8 n.2 0) (l7 (x8 (yI ra).2 0) (l7 (x8 (yI ra).1.2.2 1) rb rc) ((0,0,0),(yI ra).2)) ((0,0,0),2)
def evT(env:aK):XT->V3×Int
 | .l0 n=>yC n [] env| .l1 n a=>l7 (x8 (evT env a).2 0) (yC n [(evT env a).1] env) ((0,0,0),(evT env a).2)| .l2 n a b=>l7 (lzB n.1) (Ye n (evT env a) (evT env b)) (l7 (x8 (evT env a).2 0) (l7 (x8 (evT env b).2 0) (yC n [(evT env a).1,(evT env b).1] env) ((0,0,0),(evT env b).2)) ((0,0,0),(evT env a).2))| .l3 n a b c=>a2F n (evT env a) (evT env b) (evT env c)
abbrev VSt:Type:=V3×List V3×Int
structure VStep (ops:c9h) (ev:Int->Option (V3×Int)) (pad:List V3->List V3) (f:VSt->Option (Out VSt (V3×List V3) (V3×Int))):Prop where
 step:∀(l:List V3) (c:Int) (r:V3×Int),ops[l.length]? =some c->ev c=some r->f ((0,0,0),pad l,(l.length:Int))=some (l7 (x8 r.2 0) (.nx ((0,0,0),pad (l++[r.1]),((l.length+1:Nat):Int))) (.rt ((0,0,0),r.2)))
 stop:∀(l:List V3),l.length=ops.length->f ((0,0,0),pad l,(l.length:Int))=some (.ex ((0,0,0),l))
section
variable {ev:Int->Option (V3×Int)} {pad:List V3->List V3} {f:VSt->Option (Out VSt (V3×List V3) (V3×Int))}
theorem v0(h:VStep [] ev pad f):V7 f ((0,0,0),pad [],0)=some (.inl ((0,0,0),[])):=by obtain⟨k,hk⟩:∃k,lG=k+1:=⟨lG -1,by unfold lG;omega⟩;unfold V7;rw[hk,rC,show f ((0,0,0),pad [],0)=some (.ex ((0,0,0),[]))from h.stop [] rfl]
theorem v1{c:Int}{r:V3×Int}(h:VStep [c] ev pad f)(h1:ev c=some r):V7 f ((0,0,0),pad [],0)=some (l7 (x8 r.2 0) (.inl ((0,0,0),[r.1])) (.inr ((0,0,0),r.2))):=by
 obtain⟨k,hk⟩:∃k,lG=k+1+1:=⟨lG -2,by unfold lG;omega⟩;unfold V7;rw[hk,rC,show f ((0,0,0),pad [],0)=_ from h.step [] c r rfl h1];cases x8 r.2 0
 .rfl
 .simp only[o7];rw[rC,show f ((0,0,0),pad ([]++[r.1]),(([].length+1:Nat):Int))=_ from h.stop [r.1] rfl]
theorem v2{c d:Int}{r q:V3×Int}(h:VStep [c,d] ev pad f)(h1:ev c=some r)(h2:ev d=some q):V7 f ((0,0,0),pad [],0)=some (l7 (x8 r.2 0) (l7 (x8 q.2 0) (.inl ((0,0,0),[r.1,q.1])) (.inr ((0,0,0),q.2))) (.inr ((0,0,0),r.2))):=by
 obtain⟨k,hk⟩:∃k,lG=k+1+1+1:=⟨lG -3,by unfold lG;omega⟩;unfold V7;rw[hk,rC,show f ((0,0,0),pad [],0)=_ from h.step [] c r rfl h1];cases x8 r.2 0
 .rfl
 .simp only[o7];rw[rC,show f ((0,0,0),pad ([]++[r.1]),(([].length+1:Nat):Int))=_ from h.step [r.1] d q rfl h2];cases x8 q.2 0
  .rfl
  .simp only[o7];rw[rC,show f ((0,0,0),pad ([r.1]++[q.1]),(([r.1].length+1:Nat):Int))=_ from h.stop [r.1,q.1] rfl]
end
theorem a3r(h:qY k=0\/qY k=1):k≠23/\k≠24/\k≠26:=by refine⟨?_,?_,?_⟩<;>(rintro rfl;revert h;decide)
theorem b3K(h:qY k=2):k≠26:=by rintro rfl;revert h;decide
theorem b3L(h:qY k=3):k=26:=by obtain⟨i,rfl⟩:=c1e (by rw[h];decide);rw[(b3J i).2.2.2 h];rfl
theorem c7K(n:Nat)(E:aZ)(i:Int):(D7 (n+1)).1 E i=rH (D7 n).1 (D7 n).2.1 (D7 n).2.2 E i:=rfl
theorem c7L(n:Nat)(E:aZ)(i:Int):(D7 (n+1)).2.1 E i=vG (D7 n).1 (D7 n).2.1 (D7 n).2.2 E i:=rfl
theorem c0A(n:Nat)(E:aZ)(x:Int×Int)(l:c9h):(D7 (n+1)).2.2 E x l=pq (D7 n).1 (D7 n).2.1 (D7 n).2.2 E x l:=rfl
variable {E:aZ}
theorem Tz{n:Nat}{i:Int}{r:V3×Int}(h:(D7 n).2.1 E i=some r):(D7 (n+1)).1 E i=some (yI r):=by
 rw[c7K];unfold rH yI;rw[h,o8];cases x8 r.2 0
 .rfl
 cases x8 r.1.1 1
 .rfl
 simp only[E5,o6,o7];rw[Ap,o8];cases plB r.1<;>rfl
variable {ra:V3×Int}{rb:V3×Int}
theorem b4H{n:Nat}{x:Int×Int}{i j:Int}(hx:x.1≠26)(h1:(D7 n).2.1 E i=some ra)(h2:(D7 n).2.1 E j=some rb):(D7 (n+2)).2.2 E x [i,j]=some (Ye x ra rb):=by
 rw[show n+2=(n+1)+1 from rfl,c0A];unfold pq Ye;rw[show F9 [i,j] 0=some i from rfl,show F9 [i,j] 1=some j from rfl];simp only[o8];rw[Tz h1,Tz h2,J6 hx];cases x8 x.2 0
 .rfl
 simp only[o8,E5,o6,o7];cases x8 (yI ra).2 0
 .rfl
 simp only[E5,o6,o7];cases jT (x8 x.1 23) (x8 (yI ra).1.2.2 0)<;>rfl
theorem b4I{n:Nat}{x:Int×Int}{i j l:Int}{ra rb rc:V3×Int}(hx:x.1=26)(h1:(D7 n).2.1 E i=some ra)(h2:(D7 (n+1)).2.1 E j=some rb)(h3:(D7 (n+1)).2.1 E l=some rc):(D7 (n+2)).2.2 E x [i,j,l]=some (a2F x ra rb rc):=by
 rw[show n+2=(n+1)+1 from rfl,c0A];unfold pq a2F;rw[show F9 [i,j,l] 0=some i from rfl,show F9 [i,j,l] 1=some j from rfl,show F9 [i,j,l] 2=some l from rfl];simp only[o8];rw[Tz h1,h2,h3,J7 hx];cases x8 x.2 0
 .rfl
 simp only[o8,E5,o6,o7];cases x8 (yI ra).2 0
 .rfl
 simp only[E5,o6,o7];cases x8 (yI ra).1.2.2 1<;>rfl
def a1H(m:Nat)(l:List V3):List V3:=l++List.replicate (m -l.length) (0,0,0)
theorem b5C{m:Nat}{l:List V3}(h:l.length<m):(a1H m l)[l.length]? =some (0,0,0):=by unfold a1H;rw[H7 (F7 _),dY,jA,if_pos l9]
theorem b5D{m:Nat}{l:List V3}(v:V3)(h:l.length<m):(a1H m l).set l.length v=a1H m (l++[v]):=by unfold a1H;obtain⟨k,hk⟩:∃k,m -l.length=k+1:=⟨m -l.length -1,l9⟩;rw[ku _ _ (F7 _),dY,hk,lI,wQ];rw[show m -(l++[v]).length=k by simp;omega];simp
theorem b2C{m:Nat}{l:List V3}(h:l.length=m):a1H m l=l:=by unfold a1H;rw[h,dY];simp
def b0R(ev:Int->Option (V3×Int))(ops:c9h)(x:VSt):Option (Out VSt (V3×List V3) (V3×Int)):=
 l7 (E9 x.2.2 (o9 ops))
  (o5 (F9 ops x.2.2) λ(x_4:Int)=>
   o5 (O8 ops (U6 x.2.2)) λ(x_5:Int)=>
    o5 (ev x_5) λ(x_6:V3×Int)=>
     l7 (D9 (x8 x_6.2 0)) (some (Out.rt ((0,0,0),x_6.2)))
      (o5 (F9 x.2.1 x.2.2) λ(x_7:V3)=>
       o5 (O8 x.2.1 (U6 x.2.2)) λ(x_8:V3)=>
        some (Out.nx (x.1,bu x.2.1 (U6 x.2.2) x_6.1,A7 IntKind.i64 x.2.2 1))))
  (some (Out.ex (x.1,x.2.1)))
theorem TV(ev:Int->Option (V3×Int))(ops:c9h)(ho:ops.length<=3):VStep ops ev (a1H ops.length) (b0R ev ops):=by
 refine⟨λl c r h1 h2=>?_,λl h=>?_⟩
 .have hl:=(V6.1 h1).1;unfold b0R;simp only[H5 h1,o7,F5,h1,o8,O8,U6,J9,h2,b5C hl,bu,b5D _ hl];cases x8 r.2 0
  .rfl
  .simp only[E5,o6,o7];rw[Z5 l9]
 .unfold b0R;rw[b2C h,h,G7];rfl
theorem Zh(n:Nat)(E:aZ)(i:Int)(x:Int×Int)(ops:c9h)(h1:F9 E.1 i=some x)(h2:mF E i=some ops)(ho:ops.length<=3):
  (D7 (n+1)).2.1 E i=l7 (lzB x.1) ((D7 n).2.2 E x ops)
   (o5 (V7 (b0R ((D7 n).2.1 E) ops) ((0,0,0),a1H ops.length [],0)) λ(o:V3×List V3⊕V3×Int)=>X9 o (λ(y:V3×List V3)=>BV x y.2 E.2.2) λ(r:V3×Int)=>some r):=by
 rw[c7L];unfold vG lzB;simp only[h1,h2,o8,bV];rw[show o9 ops=(ops.length:Int)from rfl];have hp:qU (ops.length:Int) (((0,0,0):Int×Int×Int))=some (a1H ops.length []):=by rw[Mc l9 l9];rfl
 cases g1:x8 x.1 23
 .cases g2:x8 x.1 24
  .cases g3:x8 x.1 26
   .simp only[o6,o8,L6];rw[show qU (ops.length:Int) _=_ from hp,o8];rfl
   .simp only[o6,o7];generalize (D7 n).2.2 E x ops=q;cases q<;>rfl
  .simp only[o6,o7];generalize (D7 n).2.2 E x ops=q;cases q<;>rfl
 .simp only[o7];generalize (D7 n).2.2 E x ops=q;cases q<;>rfl
theorem Vq(t:XT)(o:Nat):(NI t o).length<=3:=by cases t<;>simp[NI]
theorem a5G(hE:EvOk env)(he:e.length<=48)(hI:∀n∈e,jl n.2):∀(t:XT) (o k:Nat),At e S t o->t.wf->3*t.size<=k->(D7 k).2.1 (e,S,env) (rtI t o:Int)=some (evT env t):=by
 intro t;induction t with
 |l0 n=>intro o k h hw hk;have hr:=uC h;obtain⟨k,rfl⟩:∃m,k=m+3:=⟨k -3,by simp only[XT.size]at hk;omega⟩;have hz:=a3r (.inl (show qY n.1=0 from hw));rw[show k+3=(k+2)+1 from rfl,Zh _ _ _ n (NI (.l0 n) o) (by rw[F5];exact hr.1) (JZ env h he hw) (Vq _ _)];rw[show lzB n.1=false by unfold lzB;rw[J6 hz.1,J6 hz.2.1,J6 hz.2.2];rfl,o6];rw[show NI (.l0 n) o=[]from rfl,v0 (TV _ _ x9),o8,L6];exact(Iz [] hE (hI n (iL hr.1)) hz x9).2
 |l1 n a iha=>
  intro o k h hw hk;have hr:=uC h;simp only[XT.size]at hk;obtain⟨k,rfl⟩:∃m,k=m+3:=⟨k -3,l9⟩;have hz:=a3r (.inr (show qY n.1=1 from hw.1));rw[show k+3=(k+2)+1 from rfl,Zh _ _ _ n (NI (.l1 n a) o) (by rw[F5];exact hr.1) (JZ env h he hw) (Vq _ _)];rw[show lzB n.1=false by unfold lzB;rw[J6 hz.1,J6 hz.2.1,J6 hz.2.2];rfl,o6];rw[show NI (.l1 n a) o=[(rtI a o:Int)]from rfl,v1 (TV _ _ x9) (iha o (k+2) (b3N h) hw.2 l9),o8];rw[show evT env (.l1 n a)=l7 (x8 (evT env a).2 0) (yC n [(evT env a).1] env) ((0,0,0),(evT env a).2)from rfl];cases x8 (evT env a).2 0
  .rfl
  exact(Iz [(evT env a).1] hE (hI n (iL hr.1)) hz x9).2
 |l2 n a b iha ihb=>
  intro o k h hw hk;have hr:=uC h;simp only[XT.size]at hk;obtain⟨k,rfl⟩:∃m,k=m+3:=⟨k -3,l9⟩;have hz:=b3K (show qY n.1=2 from hw.1);rw[show k+3=(k+2)+1 from rfl,Zh _ _ _ n (NI (.l2 n a b) o) (by rw[F5];exact hr.1) (JZ env h he hw) (Vq _ _)];rw[show NI (.l2 n a b) o=[(rtI a o:Int),(rtI b (o+a.size):Int)]from rfl];rw[show evT env (.l2 n a b)=l7 (lzB n.1) (Ye n (evT env a) (evT env b)) (l7 (x8 (evT env a).2 0) (l7 (x8 (evT env b).2 0) (yC n [(evT env a).1,(evT env b).1] env) ((0,0,0),(evT env b).2)) ((0,0,0),(evT env a).2))from rfl];cases hl:lzB n.1
  .have hz:=b4Q hl;simp only[o6];rw[v2 (TV _ _ x9) (iha o (k+2) (SG h).1 hw.2.1 l9) (ihb (o+a.size) (k+2) (SG h).2 hw.2.2 l9),o8];cases x8 (evT env a).2 0
   .rfl
   cases x8 (evT env b).2 0
   .rfl
   exact(Iz [(evT env a).1,(evT env b).1] hE (hI n (iL hr.1)) hz x9).2
  .simp only[o7];exact b4H hz (iha o k (SG h).1 hw.2.1 l9) (ihb (o+a.size) k (SG h).2 hw.2.2 l9)
 |l3 n a b c iha ihb ihc=>intro o k h hw hk;have hr:=uC h;simp only[XT.size]at hk;obtain⟨k,rfl⟩:∃m,k=m+3:=⟨k -3,l9⟩;have hz:=b3L (show qY n.1=3 from hw.1);rw[show k+3=(k+2)+1 from rfl,Zh _ _ _ n (NI (.l3 n a b c) o) (by rw[F5];exact hr.1) (JZ env h he hw) (Vq _ _)];rw[show lzB n.1=true by rw[hz];decide,o7];exact b4I hz (iha o k (Uu h).1 hw.2.1 l9) (ihb (o+a.size) (k+1) (Uu h).2.1 hw.2.2.1 l9) (ihc (o+a.size+b.size) (k+1) (Uu h).2.2 hw.2.2.2 l9)
theorem c1H(n:Nat)(e:c9k)(i:Int)(env:aK):(ae (n+1)).1 e i env=Ff (ae n).1 (ae n).2 e i env:=rfl
theorem b6v(n:Nat)(e:c9k)(i:Int)(l:c9h)(env:aK):(ae (n+1)).2 e i l env=BK (ae n).1 (ae n).2 e i l env:=rfl
def a4E(ev:Int->Option (V3×Int))(ops:c9h)(x:VSt):Option (Out VSt (V3×List V3) (V3×Int)):=
 l7 (E9 x.2.2 (o9 ops))
  (o5 (F9 ops x.2.2) λ(x_4:Int)=>
   o5 (O8 ops (U6 x.2.2)) λ(x_5:Int)=>
    o5 (ev x_5) λ(x_6:V3×Int)=>
     l7 (D9 (x8 x_6.2 0)) (some (Out.rt ((0,0,0),x_6.2)))
      (o5 (di x.2.1 [x_6.1]) λ(y:List V3)=>some (Out.nx (x.1,y,A7 IntKind.i64 x.2.2 1))))
  (some (Out.ex (x.1,x.2.1)))
theorem Qx(ev:Int->Option (V3×Int))(ops:c9h)(ho:ops.length<=3):VStep ops ev (λl=>l) (a4E ev ops):=by
 refine⟨λl c r h1 h2=>?_,λl h=>?_⟩
 .have hl:=(V6.1 h1).1;unfold a4E;simp only[H5 h1,o7,F5,h1,o8,O8,U6,J9,h2];cases x8 r.2 0
  .rfl
  .simp only[E5,o6,o7];rw[jB _ l9,o8,Z5 l9]
 .unfold a4E;rw[h,G7];rfl
theorem VJ(n:Nat)(e:c9k)(env:aK)(i:Int)(x:Int×Int)(ops:c9h)(h1:F9 e i=some x)(h2:Ea e i=some ops):
  (ae (n+1)).1 e i env=l7 (lzB x.1) ((ae n).2 e i ops env)
   (o5 (V7 (a4E (λc=>(ae n).1 e c env) ops) ((0,0,0),[],0)) λ(o:V3×List V3⊕V3×Int)=>X9 o (λ(y:V3×List V3)=>sF x y.2 env) λ(r:V3×Int)=>some r):=by
 rw[c1H];unfold Ff lzB;simp only[h1,h2,o8,bV];cases g1:x8 x.1 23
 .cases g2:x8 x.1 24
  .cases g3:x8 x.1 26
   .rfl
   .simp only[o6,o7];generalize (ae n).2 e i ops env=q;cases q<;>rfl
  .simp only[o6,o7];generalize (ae n).2 e i ops env=q;cases q<;>rfl
 .simp only[o7];generalize (ae n).2 e i ops env=q;cases q<;>rfl
theorem JJ(r:V3×Int):(x8 r.2 0=false/\(yI r)=((0,0,0),r.2))\/(x8 r.2 0=true/\x8 r.1.1 1=false/\yI r=((0,0,0),8))\/(x8 r.2 0=true/\x8 r.1.1 1=true/\plB r.1=false/\yI r=((0,0,0),8))\/(x8 r.2 0=true/\x8 r.1.1 1=true/\plB r.1=true/\yI r=(r.1,0)):=by
 unfold yI;cases x8 r.2 0
 .exact .inl ⟨rfl,rfl⟩
 cases x8 r.1.1 1
 .exact .inr (.inl ⟨rfl,rfl,rfl⟩)
 cases plB r.1
 .exact .inr (.inr (.inl ⟨rfl,rfl,rfl,rfl⟩))
 .exact .inr (.inr (.inr ⟨rfl,rfl,rfl,rfl⟩))
theorem b2U{n:Nat}{c:Int}{x:Int×Int}{i j:Int}(hc:F9 e c=some x)(hx:x.1≠26)(h1:(ae n).1 e i env=some ra)(h2:(ae n).1 e j env=some rb):(ae (n+1)).2 e c [i,j] env=some (Ye x ra rb):=by
 rw[b6v];unfold BK Ye;rw[show F9 [i,j] 0=some i from rfl,show F9 [i,j] 1=some j from rfl];simp only[hc,o8,h1,h2,nz,J6 hx];cases x8 x.2 0
 .rfl
 rcases JJ ra with⟨g1,g2⟩|⟨g1,g2,g3⟩|⟨g1,g2,g3,g4⟩|⟨g1,g2,g3,g4⟩
 .rw[g2,g1];rfl
 .rw[g1,g2,g3];rfl
 .rw[g1,g2,g3,g4];rfl
 .rw[g1,g2,g3,g4];simp only[E5,o6,o7,o8,L6,J7 (rfl:(0:Int)=0)];cases jT (x8 x.1 23) (x8 ra.1.2.2 0)
  .rcases JJ rb with⟨g1,g2⟩|⟨g1,g2,g3⟩|⟨g1,g2,g3,g4⟩|⟨g1,g2,g3,g4⟩
   .rw[g2,g1];rfl
   .rw[g1,g2,g3];rfl
   .rw[g1,g2,g3,g4];rfl
   .rw[g1,g2,g3,g4];rfl
  .rfl
theorem b2V{n:Nat}{c:Int}{x:Int×Int}{i j l:Int}{ra rb rc:V3×Int}(hc:F9 e c=some x)(hx:x.1=26)(h1:(ae n).1 e i env=some ra)(h2:(ae n).1 e j env=some rb)(h3:(ae n).1 e l env=some rc):(ae (n+1)).2 e c [i,j,l] env=some (a2F x ra rb rc):=by
 rw[b6v];unfold BK a2F;rw[show F9 [i,j,l] 0=some i from rfl,show F9 [i,j,l] 1=some j from rfl,show F9 [i,j,l] 2=some l from rfl];simp only[hc,o8,h1,h2,h3,nz,J7 hx];cases x8 x.2 0
 .rfl
 rcases JJ ra with⟨g1,g2⟩|⟨g1,g2,g3⟩|⟨g1,g2,g3,g4⟩|⟨g1,g2,g3,g4⟩
 .rw[g2,g1];rfl
 .rw[g1,g2,g3];rfl
 .rw[g1,g2,g3,g4];rfl
 .rw[g1,g2,g3,g4];simp only[E5,o6,o7,o8,L6,J7 (rfl:(0:Int)=0)];cases x8 ra.1.2.2 1<;>rfl
theorem a4n{T:XT}(hE:EvOk env)(hT:mZ e= .inr T)(hI:∀n∈e,jl n.2):∀(t:XT) (o k:Nat),At e (T.sts 0) t o->t.wf->3*t.size<=k->(ae k).1 e (rtI t o:Int) env=some (evT env t):=by
 intro t;induction t with
 |l0 n=>intro o k h hw hk;have hr:=uC h;obtain⟨k,rfl⟩:∃m,k=m+3:=⟨k -3,by simp only[XT.size]at hk;omega⟩;have hz:=a3r (.inl (show qY n.1=0 from hw));rw[show k+3=(k+2)+1 from rfl,VJ _ _ _ _ n (NI (.l0 n) o) (by rw[F5];exact hr.1) (Il hT h hw)];rw[show lzB n.1=false by unfold lzB;rw[J6 hz.1,J6 hz.2.1,J6 hz.2.2];rfl,o6];rw[show NI (.l0 n) o=[]from rfl,v0 (Qx _ _ x9),o8,L6];exact(Iz [] hE (hI n (iL hr.1)) hz x9).1
 |l1 n a iha=>
  intro o k h hw hk;have hr:=uC h;simp only[XT.size]at hk;obtain⟨k,rfl⟩:∃m,k=m+3:=⟨k -3,l9⟩;have hz:=a3r (.inr (show qY n.1=1 from hw.1));rw[show k+3=(k+2)+1 from rfl,VJ _ _ _ _ n (NI (.l1 n a) o) (by rw[F5];exact hr.1) (Il hT h hw)];rw[show lzB n.1=false by unfold lzB;rw[J6 hz.1,J6 hz.2.1,J6 hz.2.2];rfl,o6];rw[show NI (.l1 n a) o=[(rtI a o:Int)]from rfl,v1 (Qx _ _ x9) (iha o (k+2) (b3N h) hw.2 l9),o8];rw[show evT env (.l1 n a)=l7 (x8 (evT env a).2 0) (yC n [(evT env a).1] env) ((0,0,0),(evT env a).2)from rfl];cases x8 (evT env a).2 0
  .rfl
  exact(Iz [(evT env a).1] hE (hI n (iL hr.1)) hz x9).1
 |l2 n a b iha ihb=>
  intro o k h hw hk;have hr:=uC h;simp only[XT.size]at hk;obtain⟨k,rfl⟩:∃m,k=m+3:=⟨k -3,l9⟩;have hz:=b3K (show qY n.1=2 from hw.1);rw[show k+3=(k+2)+1 from rfl,VJ _ _ _ _ n (NI (.l2 n a b) o) (by rw[F5];exact hr.1) (Il hT h hw)];rw[show NI (.l2 n a b) o=[(rtI a o:Int),(rtI b (o+a.size):Int)]from rfl];rw[show evT env (.l2 n a b)=l7 (lzB n.1) (Ye n (evT env a) (evT env b)) (l7 (x8 (evT env a).2 0) (l7 (x8 (evT env b).2 0) (yC n [(evT env a).1,(evT env b).1] env) ((0,0,0),(evT env b).2)) ((0,0,0),(evT env a).2))from rfl];cases hl:lzB n.1
  .have hz:=b4Q hl;simp only[o6];rw[v2 (Qx _ _ x9) (iha o (k+2) (SG h).1 hw.2.1 l9) (ihb (o+a.size) (k+2) (SG h).2 hw.2.2 l9),o8];cases x8 (evT env a).2 0
   .rfl
   cases x8 (evT env b).2 0
   .rfl
   exact(Iz [(evT env a).1,(evT env b).1] hE (hI n (iL hr.1)) hz x9).1
  .simp only[o7];exact b2U (by rw[F5];exact hr.1) hz (iha o (k+1) (SG h).1 hw.2.1 l9) (ihb (o+a.size) (k+1) (SG h).2 hw.2.2 l9)
 |l3 n a b c iha ihb ihc=>intro o k h hw hk;have hr:=uC h;simp only[XT.size]at hk;obtain⟨k,rfl⟩:∃m,k=m+3:=⟨k -3,l9⟩;have hz:=b3L (show qY n.1=3 from hw.1);rw[show k+3=(k+2)+1 from rfl,VJ _ _ _ _ n (NI (.l3 n a b c) o) (by rw[F5];exact hr.1) (Il hT h hw)];rw[show lzB n.1=true by rw[hz];decide,o7];exact b2V (by rw[F5];exact hr.1) hz (iha o (k+1) (Uu h).1 hw.2.1 l9) (ihb (o+a.size) (k+1) (Uu h).2.1 hw.2.2.1 l9) (ihc (o+a.size+b.size) (k+1) (Uu h).2.2 hw.2.2.2 l9)
def uH(e:c9k)(env:aK):V3×Int:=match mZ e with
 | .inl x=>((0,0,0),x.2)| .inr t=>evT env t
theorem a5l{t:XT}(h:mZ e= .inr t):At e (t.sts 0) t 0/\e.length<=48/\e.length=t.size/\J3 .i64 (o9 e) 1=(rtI t 0:Int):=by
 obtain⟨hp,h48⟩:=Dj h;have hsz:e.length=t.size:=by rw[hp,XT.post_len]
 have hpos:=t.size_pos;refine⟨⟨[],[],[],[],by simp[←hp],x9,rfl,rfl⟩,h48,hsz,?_⟩;rw[U2 (by unfold jl o9;omega)];unfold o9 rtI;omega
theorem b0o(hE:EvOk env)(hI:∀n∈e,jl n.2):LM e env=some (uH e env):=by
 unfold LM PL uH;rw[VP];unfold yX;cases h:mZ e with
 |inl x=>simp only[o8,J6 (Di h)];rfl|inr t=>obtain⟨h1,h2,h3,h4⟩:=a5l h;simp only[o8,J7 (rfl:(0:Int)=0),E5,o6,bV];rw[h4,show AQ (e,t.sts 0,env) ((rtI t 0:Nat):Int)=some (evT env t)from a5G hE h2 hI t 0 lG h1 (MO h) (by unfold lG;omega)]<;>rfl
theorem a6J(hE:EvOk env)(hI:∀n∈e,jl n.2):NW e env=some (uH e env):=by
 unfold NW VA uH;rw[KW];unfold yX;cases h:mZ e with
 |inl x=>simp only[o8,J6 (Di h)];rfl|inr t=>obtain⟨h1,h2,h3,h4⟩:=a5l h;simp only[o8,J7 (rfl:(0:Int)=0),E5,o6,bV];rw[h4,show Yz e ((rtI t 0:Nat):Int) env=some (evT env t)from a4n hE h hI t 0 lG h1 (MO h) (by unfold lG;omega)]<;>rfl
abbrev E4:Type:=Int×Int×Int×Int
def IX(s:A8)(env:aK)(m d:Int)(ap:c9s)(i:Int):c9s⊕(Int×E4):=
 match F9 s.2.2.2.2 i with
 |none=> .inl ap|some r=>l7 (x8 (o9 r.2.2.2.2.2.1) 0) (.inl (ap++[true])) (l7 (x8 (uH r.2.2.2.2.2.1 env).2 0) (.inl (ap++[x8 (uH r.2.2.2.2.2.1 env).1.2.2 1])) (.inr (0,(uH r.2.2.2.2.2.1 env).2,m,d,i)))
def aC(s:A8)(env:aK)(m d:Int):Int×E4:=
 match aP (IX s env m d) (dJ s d env.1).1 []with
 | .inr e=>e| .inl ap=>l7 (E9 (Hf (dJ s d env.1).2.1 (dJ s d env.1).2.2 ap) 0) (Hf (dJ s d env.1).2.1 (dJ s d env.1).2.2 ap,0,0,0,0) (((dJ s d env.1).1.getD (Hf (dJ s d env.1).2.1 (dJ s d env.1).2.2 ap).toNat 0),0,0,0,0)
variable {s:A8}
theorem a1g{d t i:Int}(h:i∈(dJ s d t).1):∃r,F9 s.2.2.2.2 i=some r/\r∈s.2.2.2.2:=by have h:i∈castL (aG s d t):=h;obtain⟨k,hk,rfl⟩:=aF.1 h;have:=(qI hk).1;exact ng l9 (by unfold o9;omega)
theorem QI(s:A8)(d t:Int):(dJ s d t).1.length<=s.2.2.2.2.length/\(dJ s d t).2.1.length=(dJ s d t).1.length:=by
 refine⟨?_,?_⟩
 .show(castL (aG s d t)).length<=_;rw[Ls];exact FM _ _
 .show((aG s d t).map _).length=(castL (aG s d t)).length;rw[Ls,P6]
theorem b3Y{oc pr:Int->Int}{l:c9h}(hn:0<=n)(h:∀x∈l,oc x<n):chF oc pr l<n:=by
 unfold chF;cases hb:xU oc pr l with
 |nil=>show(-1:Int)<n;omega|cons b r=>
  cases r with
  |nil=>exact h b (Lm (oc:=oc) (pr:=pr) (by rw[hb];simp))|cons c r=>show(-2:Int)<n;omega
theorem b5l(par prio:c9h)(ap:c9s):∀(k:Nat) (i:Int),i<par.length->ocF par prio ap k i<par.length
 |0,i,h=>by show(-1:Int)<_;omega|k+1,i,h=>by
  unfold ocF;have hb:chF (ocF par prio ap k) (prF prio) (castL (qx par i))<(par.length:Int):=b3Y l9 λx hx=>by unfold castL at hx;obtain⟨j,hj,rfl⟩:=aF.1 hx;have:=(Ze hj).1;exact b5l par prio ap k _ l9
  cases x8 (chF (ocF par prio ap k) (prF prio) (castL (qx par i))) (-1)
  .exact hb
  .cases apF ap i
   .show(-1:Int)<_;omega
   .exact h
theorem a4I(par prio:c9h)(ap:c9s):Hf par prio ap<par.length:=by
 unfold Hf;cases x8 (Et par prio) 0
 .show(-1:Int)<_;omega
 cases x8 (o9 ap) (o9 par)
 .show(-1:Int)<_;omega
 show chS par prio ap (-1)<_;unfold chS;refine b3Y l9 λx hx=>?_;unfold castL at hx;obtain⟨j,hj,rfl⟩:=aF.1 hx;have:=(Ze hj).1;unfold OC;exact b5l par prio ap _ _ l9
def a4e(m:Nat)(l:c9s):c9s:=l++List.replicate (m -l.length) false
theorem b5A{m:Nat}{l:c9s}(h:l.length<m):(a4e m l)[l.length]? =some false:=by unfold a4e;rw[H7 (F7 _),dY,jA,if_pos l9]
theorem b5B{m:Nat}{l:c9s}(v:Bool)(h:l.length<m):(a4e m l).set l.length v=a4e m (l++[v]):=by unfold a4e;obtain⟨k,hk⟩:∃k,m -l.length=k+1:=⟨m -l.length -1,l9⟩;rw[ku _ _ (F7 _),dY,hk,lI,wQ];rw[show m -(l++[v]).length=k by simp;omega];simp
theorem b2B{m:Nat}{l:c9s}(h:l.length=m):a4e m l=l:=by unfold a4e;rw[h,dY];simp
theorem ZV(s:A8)(env:aK)(m d:Int)(ap:c9s):
  l7 (E9 (Hf (dJ s d env.1).2.1 (dJ s d env.1).2.2 ap) 0) (some ((Hf (dJ s d env.1).2.1 (dJ s d env.1).2.2 ap,0,0,0,0):Int×E4))
   (o5 (F9 (dJ s d env.1).1 (Hf (dJ s d env.1).2.1 (dJ s d env.1).2.2 ap)) λ(x_3:Int)=>o5 (O8 (dJ s d env.1).1 (U6 (Hf (dJ s d env.1).2.1 (dJ s d env.1).2.2 ap))) λ(x:Int)=>some (x,0,0,0,0))=
  some (l7 (E9 (Hf (dJ s d env.1).2.1 (dJ s d env.1).2.2 ap) 0) (Hf (dJ s d env.1).2.1 (dJ s d env.1).2.2 ap,0,0,0,0) (((dJ s d env.1).1.getD (Hf (dJ s d env.1).2.1 (dJ s d env.1).2.2 ap).toNat 0),0,0,0,0)):=by
 have hb:=a4I (dJ s d env.1).2.1 (dJ s d env.1).2.2 ap;have hl:=(QI s d env.1).2;generalize Hf (dJ s d env.1).2.1 (dJ s d env.1).2.2 ap=q at*;generalize (dJ s d env.1).1=L at*;by_cases g:q<0
 .rw[V5 g];rfl
 rw[N9 (jb.1 g)];obtain⟨i,rfl⟩:∃i:Nat,q=(i:Int):=⟨q.toNat,l9⟩;have hi:i<L.length:=l9;have e:=dh hi;simp only[o6,F5,e,o8,O8,U6,J9,vK,aN]
theorem a7k(hs:SmS s)(hE:EvOk env)(m d:Int):BC s env m d=some (aC s env m d):=by
 have hnr:=hs.nr;have hlen:=(QI s d env.1).1;unfold BC;rw[b3k l9,o8];rw[show qU (o9 (dJ s d env.1).1) false=some (a4e (dJ s d env.1).1.length []) by rw[show o9 (dJ s d env.1).1=((dJ s d env.1).1.length:Int)from rfl,Mc l9 l9];rfl,o8];unfold aC;apply kU (dJ s d env.1).1 (IX s env m d) (λb i=>(((0,0,0,0),a4e (dJ s d env.1).1.length b,i):E4×c9s×Int)) (λb=>(((0,0,0,0),b):E4×c9s)) (λi b=>b.length=i) [] l9 rfl
 .intro i a b hi hi' hb;obtain⟨r,hr,hm⟩:=a1g (iL hi);have hlt:=(V6.1 hi).1;have hI:=(hs.ro r hm).1.2.2;subst hb;simp only[H5 hi,o7,F5,hi,o8,O8,U6,J9,hr,b5A hlt,bu,b5B _ hlt];unfold IX;rw[hr];simp only;cases x8 (o9 r.2.2.2.2.2.1) 0
  .simp only[o6];rw[b0o hE hI.1,o8];cases x8 (uH r.2.2.2.2.2.1 env).2 0
   .exact⟨rfl,λ_ h=>by cases h⟩
   .simp only[E5,o6,o7];rw[Z5 l9];exact⟨rfl,λ_ h=>by cases h;simp⟩
  .simp only[o7];rw[Z5 l9];exact⟨rfl,λ_ h=>by cases h;simp⟩
 .intro b hb;rw[G7,b2B hb];rfl
 .intro _;cases aP (IX s env m d) (dJ s d env.1).1 []with
  |inr e=>rfl|inl ap=>simp only[L6,b3b,o8];exact ZV s env m d ap
theorem b1K(hs:SmS s)(hE:EvOk env)(m d:Int):Oc s env m d=some (aC s env m d):=by
 have hnr:=hs.nr;have hlen:=(QI s d env.1).1;unfold Oc;rw[a9a l9,o8];unfold aC;apply kU (dJ s d env.1).1 (IX s env m d) (λb i=>(((0,0,0,0),b,i):E4×c9s×Int)) (λb=>(((0,0,0,0),b):E4×c9s)) (λi b=>b.length=i) [] l9 rfl
 .intro i a b hi hi' hb;obtain⟨r,hr,hm⟩:=a1g (iL hi);have hlt:=(V6.1 hi).1;have hI:=(hs.ro r hm).1.2.2;subst hb;simp only[H5 hi,o7,F5,hi,o8,O8,U6,J9,hr];unfold IX;rw[hr];simp only;cases x8 (o9 r.2.2.2.2.2.1) 0
  .simp only[o6];rw[a6J hE hI.1,o8];cases x8 (uH r.2.2.2.2.2.1 env).2 0
   .exact⟨rfl,λ_ h=>by cases h⟩
   .simp only[E5,o6,o7];rw[jB _ l9,o8,Z5 l9];exact⟨rfl,λ_ h=>by cases h;simp⟩
  .simp only[o7];rw[jB _ l9,o8,Z5 l9];exact⟨rfl,λ_ h=>by cases h;simp⟩
 .intro b hb;rw[G7];rfl
 .intro _;cases aP (IX s env m d) (dJ s d env.1).1 []with
  |inr e=>rfl|inl ap=>simp only[L6,a8Z,o8];exact ZV s env m d ap
theorem b3Z{oc pr:Int->Int}{l:c9h}(h:∀x∈l,-2<=oc x):-2<=chF oc pr l:=by
 unfold chF;cases hb:xU oc pr l with
 |nil=>show -2<=(-1:Int);omega|cons b r=>
  cases r with
  |nil=>exact h b (Lm (oc:=oc) (pr:=pr) (by rw[hb];simp))|cons c r=>show -2<=(-2:Int);omega
theorem b5m(par prio:c9h)(ap:c9s):∀(k:Nat) (i:Int),0<=i->-2<=ocF par prio ap k i
 |0,i,h=>by show -2<=(-1:Int);omega|k+1,i,h=>by
  unfold ocF;have hb:-2<=chF (ocF par prio ap k) (prF prio) (castL (qx par i)):=b3Z λx hx=>by unfold castL at hx;obtain⟨j,hj,rfl⟩:=aF.1 hx;exact b5m par prio ap k _ l9
  cases x8 (chF (ocF par prio ap k) (prF prio) (castL (qx par i))) (-1)
  .exact hb
  .cases apF ap i
   .show -2<=(-1:Int);omega
   .show -2<=i;omega
theorem b1f(par prio:c9h)(ap:c9s):-2<=Hf par prio ap:=by
 unfold Hf;cases x8 (Et par prio) 0
 .show -2<=(-1:Int);omega
 cases x8 (o9 ap) (o9 par)
 .show -2<=(-1:Int);omega
 show -2<=chS par prio ap (-1);unfold chS;refine b3Z λx hx=>?_;unfold castL at hx;obtain⟨j,hj,rfl⟩:=aF.1 hx;unfold OC;exact b5m par prio ap _ _ l9
theorem z_(b:c9s)(i:Int)(r:Int×E4)(h:IX s env m d b i= .inr r):r.2.1≠0:=by
 unfold IX at h;cases hl:F9 s.2.2.2.2 i with
 |none=>rw[hl]at h;cases h|some q=>
  rw[hl]at h;simp only at h;cases h1:x8 (o9 q.2.2.2.2.2.1) 0<;>rw[h1]at h
  .cases h2:x8 (uH q.2.2.2.2.2.1 env).2 0<;>rw[h2]at h<;>cases h;simp only;intro h3;rw[J7 h3]at h2;cases h2
  .cases h
theorem XN(h0:(aC s env m d).2.1=0)(h1:(aC s env m d).1≠-1)(h2:(aC s env m d).1≠-2):∃r,F9 s.2.2.2.2 (aC s env m d).1=some r/\r∈s.2.2.2.2:=by
 unfold aC at*;cases hf:aP (IX s env m d) (dJ s d env.1).1 []with
 |inr e=>rw[hf]at h0;exact absurd h0 (wL (IX s env m d) (λr=>r.2.1≠0) z_ _ _ _ hf)|inl ap=>
  rw[hf]at h0 h1 h2;simp only at*;have hb:=a4I (dJ s d env.1).2.1 (dJ s d env.1).2.2 ap;have hlo:=b1f (dJ s d env.1).2.1 (dJ s d env.1).2.2 ap;have hl:=(QI s d env.1).2;generalize Hf (dJ s d env.1).2.1 (dJ s d env.1).2.2 ap=q at*;by_cases g:q<0
  .rw[V5 g]at h1 h2;simp only[o7]at h1 h2;omega
  rw[N9 (jb.1 g)];have hi:q.toNat<(dJ s d env.1).1.length:=l9;simp only[o6,vK,dh hi,aN];exact a1g (N8 hi)
def Ey(s:A8)(env:aK)(m d:Int):(V3×Int)⊕E4:=
 l7 (x8 (aC s env m d).2.1 0) (l7 (x8 (aC s env m d).1 (-1)) (.inr (10,m,d,-1)) (l7 (x8 (aC s env m d).1 (-2)) (.inr (11,m,d,-1))
  (match F9 s.2.2.2.2 (aC s env m d).1 with
  |none=> .inr (1,0,0,0)
  |some r=>l7 (x8 (uH r.2.2.2.2.2.2.1 env).2 0) (.inl ((uH r.2.2.2.2.2.2.1 env).1,(aC s env m d).1)) (.inr ((uH r.2.2.2.2.2.2.1 env).2,m,d,(aC s env m d).1))))) (.inr (aC s env m d).2)
theorem a5x{e:E4}(h:Ey s env m d= .inr e):e.1≠0:=by
 unfold Ey at h;cases h0:x8 (aC s env m d).2.1 0<;>rw[h0]at h
 .cases h;intro h3;rw[J7 h3]at h0;cases h0
 cases h1:x8 (aC s env m d).1 (-1)<;>rw[h1]at h
 case true=>cases h;show(10:Int)≠0;decide
 cases h2:x8 (aC s env m d).1 (-2)<;>rw[h2]at h
 case true=>cases h;show(11:Int)≠0;decide
 simp only[o7,o6]at h;cases hl:F9 s.2.2.2.2 (aC s env m d).1 with
 |none=>rw[hl]at h;cases h;show(1:Int)≠0;decide|some r=>rw[hl]at h;simp only at h;cases h4:x8 (uH r.2.2.2.2.2.2.1 env).2 0<;>rw[h4]at h<;>cases h;simp only;intro h3;rw[J7 h3]at h4;cases h4
theorem b1P(hs:SmS s)(hE:EvOk env)(m d:Int):Oe s env m d=some (match Ey s env m d with| .inl v=>(v.1,v.2,0,0,0,0)| .inr e=>((0,0,0),0,e)):=by
 unfold Oe Ey;rw[b1K hs hE,o8];cases h0:x8 (aC s env m d).2.1 0
 .rfl
 cases h1:x8 (aC s env m d).1 (-1)
 case true=>rfl
 cases h2:x8 (aC s env m d).1 (-2)
 case true=>rfl
 obtain⟨r,hr,hm⟩:=XN (O9.1 h0) (λh=>by rw[J7 h]at h1;cases h1) (λh=>by rw[J7 h]at h2;cases h2);simp only[E5,o6,o7,hr,o8];rw[a6J hE (hs.ro r hm).1.2.2.2,o8];cases x8 (uH r.2.2.2.2.2.2.1 env).2 0<;>rfl
theorem a2R{s:A8} :∀(k:Nat) (O:c9h),(∀d∈O,0<=d/\d<nD s)->match Vr s k O with| .inl O' =>(∀d∈O',0<=d/\d<nD s)/\O'.length<=O.length+k| .inr x=>x.1=[]
 |0,O,h=>⟨h,l9⟩|k+1,O,h=>by
  unfold Vr;by_cases hc:O.length<s.2.2.2.1.length
  .rw[if_pos hc];cases hn:OQ s O with
   |none=>rfl|some d=>
    have hd:=(a0f hn).1;have:=a2R k (O++[(d:Int)]) (λx hx=>by
     rcases D6.1 hx with hx|hx
     .exact h x hx
     .rw[G5]at hx;subst hx;unfold nD o9;omega)
    simp only;cases ho:Vr s k (O++[(d:Int)])with
    |inl O' =>rw[ho]at this;exact⟨this.1,by have:=this.2;simp at this;omega⟩|inr x=>rw[ho]at this;exact this
  .rw[if_neg hc];exact⟨h,l9⟩
theorem Qg(s:A8):(∀d∈(mf s).1,0<=d/\d<nD s)/\(mf s).1.length<=100:=by
 have:=a2R (s:=s) 100 [] x9;unfold mf;cases ho:Vr s 100 []with
 |inl O=>rw[ho]at this;exact⟨this.1,by have:=this.2;simp at this;exact this⟩|inr x=>rw[ho]at this;simp only at this ⊢;rw[this];simp
abbrev DB:Type:=List V3×c9h
def AP(env:aK)(ds:List V3):aK:=(env.1,env.2.1,ds,env.2.2.2)
theorem FD(h:EvOk env)(ds:List V3):EvOk (AP env ds):=⟨h.ms,h.tb⟩
def scG(s:A8)(env:aK)(m:Int)(need:c9s)(b:DB)(d:Int):DB⊕(E4×List V3):=
 l7 ((F9 need d).getD false) (match Ey s (AP env b.1) m d with
  | .inl v=> .inl (b.1.set d.toNat v.1,b.2.set d.toNat v.2)
  | .inr e=> .inr (e,b.1)) (.inl b)
def scS(s:A8)(env:aK)(m:Int)(need:c9s):DB⊕(E4×List V3):=aP (scG s env m need) (mf s).1 (List.replicate s.2.2.2.1.length (0,0,0),List.replicate s.2.2.2.1.length 0)
variable {need:c9s}
theorem b9w(b:DB)(d:Int)(r:E4×List V3)(h:scG s env m need b d= .inr r):r.1.1≠0:=by
 unfold scG at h;cases hb:(F9 need d).getD false<;>rw[hb]at h
 .cases h
 simp only[o7]at h;cases hd:Ey s (AP env b.1) m d with
 |inl v=>rw[hd]at h;cases h|inr e=>rw[hd]at h;cases h;exact a5x hd
theorem RS{r:E4×List V3}(h:scS s env m need= .inr r):r.1.1≠0:=wL (scG s env m need) (λr=>r.1.1≠0) b9w _ _ _ h
def WN{β ρ ρ' :Type}(h:ρ->ρ'):β⊕ρ->β⊕ρ'| .inl b=> .inl b| .inr r=> .inr (h r)
theorem LQ{α β ρ ρ' :Type}(G:β->α->β⊕ρ)(G' :β->α->β⊕ρ')(h:ρ->ρ')(hG:∀b a,G' b a=WN h (G b a)):∀(l:List α) (b:β),aP G' l b=WN h (aP G l b)
 |[],b=>rfl|a::l,b=>by
  unfold aP;rw[hG b a];cases G b a with
  |inl b' =>exact LQ G G' h hG l b'|inr r=>rfl
theorem Eg(s:A8)(hs:SmS s)(x:α):qU (o9 s.2.2.2.1) x=some (List.replicate s.2.2.2.1.length x):=by have:=hs.nd;rw[show o9 s.2.2.2.1=(s.2.2.2.1.length:Int)from rfl,Mc l9 l9];rfl
def scP(env:aK):E4×List V3->c9h×E4×aK:=λr=>([],r.1,AP env r.2)
theorem UF(hs:SmS s)(hE:EvOk env)(m:Int)(hn:need.length=s.2.2.2.1.length):jX s env m need=some (match scS s env m need with| .inl b=>(b.2,(0,0,0,0),AP env b.1)| .inr r=>([],r.1,AP env r.2)):=by
 obtain⟨o1,o2⟩:=Qg s;unfold jX;rw[Eg s hs,o8,Eg s hs,o8,b5y hs,o8];have hfold:=LQ (scG s env m need) (λb d=>WN (scP env) (scG s env m need b d)) (scP env) (λ_ _=>rfl) (mf s).1 (List.replicate s.2.2.2.1.length (0,0,0),List.replicate s.2.2.2.1.length 0);unfold scS;apply kU (mf s).1 (λb d=>WN (scP env) (scG s env m need b d)) (λb i=>((AP env b.1,(0,0,0,0),b.2,i):aK×E4×c9h×Int)) (λb=>((AP env b.1,(0,0,0,0),b.2):aK×E4×c9h)) (λi b=>b.1.length=s.2.2.2.1.length/\b.2.length=s.2.2.2.1.length) (List.replicate s.2.2.2.1.length (0,0,0),List.replicate s.2.2.2.1.length 0) l9 ⟨x9,x9⟩
 .intro i d b hi hi' hb;have hr:=o1 d (iL hi);have hnd:nD s=(s.2.2.2.1.length:Int):=rfl;obtain⟨k,rfl⟩:∃k:Nat,d=(k:Int):=⟨d.toNat,l9⟩;have hk:k<s.2.2.2.1.length:=l9;have e1:=dh (show k<need.length by omega);have e2:=dh (show k<b.1.length by omega);have e3:=dh (show k<b.2.length by omega);unfold scG;simp only[H5 hi,o7,F5,hi,o8,O8,U6,J9,e1,aN];cases need[k]
  .simp only[aV,o7,o6];rw[Z5 l9];exact⟨rfl,λ_ h=>by cases h;exact hb⟩
  simp only[E5,o7,o6];rw[a7k hs (FD hE b.1),o8];unfold Ey;cases h0:x8 (aC s (AP env b.1) m (k:Int)).2.1 0
  .exact⟨rfl,λ_ h=>by cases h⟩
  cases h1:x8 (aC s (AP env b.1) m (k:Int)).1 (-1)
  case true=>exact⟨rfl,λ_ h=>by cases h⟩
  cases h2:x8 (aC s (AP env b.1) m (k:Int)).1 (-2)
  case true=>exact⟨rfl,λ_ h=>by cases h⟩
  obtain⟨r,hr,hm⟩:=XN (O9.1 h0) (λh=>by rw[J7 h]at h1;cases h1) (λh=>by rw[J7 h]at h2;cases h2);simp only[E5,o6,o7,hr,o8];rw[b0o (FD hE b.1) (hs.ro r hm).1.2.2.2,o8];cases h3:x8 (uH r.2.2.2.2.2.2.1 (AP env b.1)).2 0
  .exact⟨rfl,λ_ h=>by cases h⟩
  .simp only[E5,o6,o7];refine⟨?_,λ_ h=>by cases h;exact⟨by simp[hb.1],by simp[hb.2]⟩⟩;rw[Z5 l9];have e2' :(AP env b.1).2.2.1[k]? =some (b.1[k]'l9):=e2;simp only[e2',e3,o8];rfl
 .intro b hb;rw[G7];rfl
 .intro _;rw[hfold];cases aP (scG s env m need) (mf s).1 (List.replicate s.2.2.2.1.length (0,0,0),List.replicate s.2.2.2.1.length 0)<;>rfl
theorem XU(hs:SmS s)(hE:EvOk env)(m:Int)(hn:need.length=s.2.2.2.1.length):zJ s env m need=some (match scS s env m need with| .inl b=>(b.1,b.2,0,0,0,0)| .inr r=>([],[],r.1)):=by
 obtain⟨o1,o2⟩:=Qg s;unfold zJ;rw[Eg s hs,o8,Eg s hs,o8,b2K hs,o8];have hfold:=LQ (scG s env m need) (λb d=>WN (λr=>(([],[],r.1):List V3×c9h×E4)) (scG s env m need b d)) (λr=>(([],[],r.1):List V3×c9h×E4)) (λ_ _=>rfl) (mf s).1 (List.replicate s.2.2.2.1.length (0,0,0),List.replicate s.2.2.2.1.length 0);unfold scS;apply kU (mf s).1 (λb d=>WN (λr=>(([],[],r.1):List V3×c9h×E4)) (scG s env m need b d)) (λb i=>(((env.1,env.2.1,PUnit.unit,env.2.2.2),(0,0,0,0),b.1,b.2,i):(Int×List V3×PUnit×List (List V3)×List I7×List bn)×E4×List V3×c9h×Int)) (λb=>(((0,0,0,0),b.1,b.2):E4×List V3×c9h)) (λi b=>b.1.length=s.2.2.2.1.length/\b.2.length=s.2.2.2.1.length) (List.replicate s.2.2.2.1.length (0,0,0),List.replicate s.2.2.2.1.length 0) l9 ⟨x9,x9⟩
 .intro i d b hi hi' hb;have hr:=o1 d (iL hi);have hnd:nD s=(s.2.2.2.1.length:Int):=rfl;obtain⟨k,rfl⟩:∃k:Nat,d=(k:Int):=⟨d.toNat,l9⟩;have hk:k<s.2.2.2.1.length:=l9;have e1:=dh (show k<need.length by omega);have e2:=dh (show k<b.1.length by omega);have e3:=dh (show k<b.2.length by omega);have hd:=b1P hs (FD hE b.1) m (k:Int);unfold AP at hd;unfold scG;simp only[H5 hi,o7,F5,hi,o8,O8,U6,J9,e1,aN];cases need[k]
  .simp only[aV,o7,o6];rw[Z5 l9];exact⟨rfl,λ_ h=>by cases h;exact hb⟩
  simp only[E5,o7,o6];rw[hd,o8];unfold AP;cases hq:Ey s (env.1,env.2.1,b.1,env.2.2.2) m (k:Int)with
  |inr e=>simp only[J6 (a5x hq)];exact⟨rfl,λ_ h=>by cases h⟩|inl v=>refine⟨?_,λ_ h=>by cases h;exact⟨by simp[hb.1],by simp[hb.2]⟩⟩;simp only[e2,e3,o8,J7 (rfl:(0:Int)=0),E5,o6];rw[Z5 l9];rfl
 .intro b hb;rw[G7];rfl
 .intro _;rw[hfold];cases aP (scG s env m need) (mf s).1 (List.replicate s.2.2.2.1.length (0,0,0),List.replicate s.2.2.2.1.length 0)<;>rfl
def Gf(l:S9)(k:Int)(c:dI)(ex:Bool)(d:Int):E4:=
 l7 (x8 (dK l).1 0) (match F9 l.2.2 k with
  |none=>(6,-1,-1,-1)
  |some s=>l7 (l7 ex (l7 (E9 d 0) true (N7 (o9 s.2.2.2.1) d)) false) (6,-1,-1,-1) (l7 (x8 (Lr l k c).2.2 0) (0,0,0,0) ((Lr l k c).2.2,(Lr l k c).1,-1,-1))) (1,-1,-1,-1)
theorem a6b(l:List A8)(k:Int):(E9 k 0=true/\F9 l k=none)\/(E9 k 0=false/\N7 (o9 l) k=true/\F9 l k=none)\/(E9 k 0=false/\N7 (o9 l) k=false/\∃s,F9 l k=some s/\s∈l):=by
 by_cases h:k<0
 .exact .inl ⟨V5 h,kw (.inl (ax h))⟩
 by_cases h2:o9 l<=k
 .exact .inr (.inl ⟨N9 l9,Z9 h2,kw (.inr (N9 h2))⟩)
 .exact .inr (.inr ⟨N9 l9,ax l9,ng l9 l9⟩)
variable {l:S9}{c:dI}
theorem b8v(hL:SmL l)(k:Int)(hc:SmC c)(ex:Bool)(d:Int):uj l k c ex d=some (Gf l k c ex d):=by
 unfold uj Gf;rw[Gy hL,o8,b8y l k hc];cases x8 (dK l).1 0
 .rfl
 simp only[E5,o6,o7];rcases a6b l.2.2 k with⟨h1,h2⟩|⟨h1,h2,h3⟩|⟨h1,h2,s,h3,_⟩
 .rw[h1,h2];rfl
 .rw[h1,h2,h3];rfl
 .rw[h1,h2,h3];simp only[o6,o8];cases ex
  .simp only[o6,o8,L6];cases x8 (Lr l k c).2.2 0<;>rfl
  .simp only[o7];cases E9 d 0
   .cases N7 (o9 s.2.2.2.1) d
    .simp only[o6,o8,L6];cases x8 (Lr l k c).2.2 0<;>rfl
    .rfl
   .rfl
theorem b6c(hL:SmL l)(k:Int)(hc:SmC c)(ex:Bool)(d:Int):Js l k c d ex=some (Gf l k c ex d):=by
 unfold Js Gf Tf;rw[NQ hL,o8,o8,b6d l k hc];cases x8 (dK l).1 0
 .rfl
 simp only[E5,o6,o7];rcases a6b l.2.2 k with⟨h1,h2⟩|⟨h1,h2,h3⟩|⟨h1,h2,s,h3,_⟩
 .rw[h1,h2];rfl
 .rw[h1,h2,h3];rfl
 .rw[h1,h2,h3];simp only[o6,o8];cases ex
  .simp only[o6,o8,L6];cases x8 (Lr l k c).2.2 0<;>rfl
  .simp only[o7];cases E9 d 0
   .cases N7 (o9 s.2.2.2.1) d
    .simp only[o6,o8,L6];cases x8 (Lr l k c).2.2 0<;>rfl
    .rfl
   .rfl
def BI:A8:=([],0,[],[],[])
def Y6(l:S9)(s:A8):A8:=l7 (N7 0 s.2.1) ((F9 l.2.2 s.2.1).getD BI) BI
def xE(n:Nat):c9s:=List.replicate n false
theorem QS{ex:Bool}(h:(Gf l k c ex d).1=0):(dK l).1=0/\∃s,F9 l.2.2 k=some s:=by
 unfold Gf at h;cases h0:x8 (dK l).1 0<;>rw[h0]at h
 .exact absurd (show(1:Int)=0 from h) G6
 refine⟨O9.1 h0,?_⟩;cases h1:F9 l.2.2 k with
 |none=>rw[h1]at h;exact absurd (show(6:Int)=0 from h) G6|some s=>exact⟨s,rfl⟩
theorem b8j(h:(dK l).1=0)(hs:l.2.2[i]? =some s):(He l i s).1=0:=by
 unfold dK at h;cases h1:x8 (IR l).1 0<;>rw[h1]at h
 .simp only[o6]at h;rw[J7 h]at h1;cases h1
 cases h2:x8 (FX l).1 0<;>rw[h2]at h
 .simp only[o7,o6]at h;rw[J7 h]at h2;cases h2
 simp only[o7]at h;unfold RV at h;cases h3:E9 4 (o9 l.2.2)<;>rw[h3]at h
 case true=>exact absurd (show(4:Int)=0 from h) G6
 simp only[o6]at h;have hi:=(V6.1 hs).1;cases hf:au l.2.2.length (JA l)with
 |some r=>
  rw[hf]at h;simp only at h;obtain⟨j,hj,hp⟩:=fV hf;unfold JA at hp;cases hq:l.2.2[j]? with
  |none=>rw[hq]at hp;cases hp|some q=>
   rw[hq]at hp;simp only at hp;unfold TE at hp;exact absurd h (by cases he:x8 (He l j q).1 0<;>rw[he]at hp<;>cases hp;simp only;intro h4;rw[J7 h4]at he;cases he)
 |none=>
  have hn:=Af hf i hi;unfold JA at hn;rw[hs]at hn;simp only at hn;unfold TE at hn;cases he:x8 (He l i s).1 0<;>rw[he]at hn
  .cases hn
  exact O9.1 he
theorem XJ(h:(dK l).1=0)(hs:l.2.2[i]? =some s):GI l i s.2.1=false/\(Xa l s).1=0:=by
 have he:=b8j h hs;unfold He at he;cases g1:Ez s.1<;>rw[g1]at he
 .exact absurd (show(2:Int)=0 from he) G6
 cases g2:EE l 3 i s.1<;>rw[g2]at he
 case true=>exact absurd (show(7:Int)=0 from he) G6
 cases g3:GI l i s.2.1<;>rw[g3]at he
 case true=>exact absurd (show(6:Int)=0 from he) G6
 cases g4:E9 12 (o9 s.2.2.1)<;>rw[g4]at he
 case true=>exact absurd (show(4:Int)=0 from he) G6
 cases g5:E9 12 (o9 s.2.2.2.1)<;>rw[g5]at he
 case true=>exact absurd (show(4:Int)=0 from he) G6
 exact⟨rfl,he⟩
theorem a3k(h:(dK l).1=0)(hs:l.2.2[i]? =some s):GI l i s.2.1=false:=(XJ h hs).1
theorem vk(h:(dK l).1=0)(hs:F9 l.2.2 k=some s):(N7 0 s.2.1=false/\E9 s.2.1 0=true/\Y6 l s=BI)\/(N7 0 s.2.1=true/\E9 s.2.1 0=false/\N7 (o9 l.2.2) s.2.1=false/\F9 l.2.2 s.2.1=some (Y6 l s)/\Y6 l s∈l.2.2):=by
 obtain⟨k0,k1,k2,k3⟩:=cO hs;have hm:=a3k h k3;unfold GI at hm;by_cases g:0<=s.2.1
 .right;rw[J6 (show s.2.1≠-1 by intro e;rw[e]at g;exact absurd g G6),N9 g]at hm;simp only[o6]at hm;cases g2:N7 ((k.toNat:Nat):Int) s.2.1<;>rw[g2]at hm
  case true=>cases hm
  rw[BZ]at g2;have hlt:s.2.1<o9 l.2.2:=by have:((k.toNat:Nat):Int)=k:=ai k0;rw[this]at g2;exact Int.lt_trans g2 k1
  obtain⟨q,hq,hqm⟩:=ng g hlt;have e:Y6 l s=q:=by unfold Y6;rw[Z9 g,hq];rfl
  rw[e];exact⟨Z9 g,N9 g,ax hlt,hq,hqm⟩
 .left;have g' :=lQ.1 g;refine⟨ax g',V5 g',?_⟩;unfold Y6;rw[ax g'];rfl
theorem a5g{σ ε α β:Type}{f:σ->Option (σ⊕ε)}{mk:List β->Int->σ}{fin:List β->ε}{l:List α}{g:α->β}
  (hs:∀(i:Nat) (a:α) (b:List β),l[i]? =some a->b.length=i->f (mk b (i:Int))=some (.inl (mk (b++[g a]) ((i+1:Nat):Int))))
  (he:∀b,f (mk b (l.length:Int))=some (.inr (fin b))):∀(l2 l1:List α) (k:Nat),l=l1++l2->vN f (k+1+l2.length) (mk (l1.map g) (l1.length:Int))=some (fin (l.map g))
 |[],l1,k,h=>by
  have:l=l1:=by simpa using h
  subst this;exact LZ (he _)
 |a::l2,l1,k,h=>by rw[show k+1+(a::l2).length=(k+1+l2.length)+1 by simp;omega,EW (hs l1.length a (l1.map g) (by rw[h];simp) x9)];have:=a5g hs he l2 (l1++[a]) k (by rw[h];simp);simpa using this
variable {β:Type}
theorem a9X(mk:List β->Int->σ)(fin:List β->ε)(l:List α)(g:α->β)(hn:l.length<=1000000)
  (hs:∀(i:Nat) (a:α) (b:List β),l[i]? =some a->b.length=i->f (mk b (i:Int))=some (.inl (mk (b++[g a]) ((i+1:Nat):Int))))
  (he:∀b,f (mk b (l.length:Int))=some (.inr (fin b))):ay f (mk [] 0)=some (fin (l.map g)):=by
 unfold ay;rw[show lG=(lG -l.length -1)+1+l.length by unfold lG;omega];exact a5g hs he l [] _ rfl
theorem DV(h:(dK l).1=0)(hs:F9 l.2.2 k=some s):qH l k=some (Y6 l s):=by
 unfold qH;rw[hs,o8];rcases vk h hs with⟨g1,g2,g3⟩|⟨g1,g2,g3,g4,g5⟩
 .rw[g2,g3];rfl
 .rw[g2,g3,g4];rfl
theorem a6r(hL:SmL l)(h:(dK l).1=0)(hs:F9 l.2.2 k=some s):BB l k=some (s,Y6 l s,xE s.2.2.2.1.length,xE (Y6 l s).2.2.2.1.length):=by
 have hm:=(cO hs).2.2.1;have hnd:=(hL.sc s hm).nd;unfold BB;rw[hs,o8,show qU (o9 s.2.2.2.1) false=some (xE s.2.2.2.1.length)from Eg s (hL.sc s hm) false,o8];rcases vk h hs with⟨g1,g2,g3⟩|⟨g1,g2,g3,g4,g5⟩
 .rw[g1,g3];rfl
 .rw[g1,g4];simp only[o7,o8];rw[show qU (o9 (Y6 l s).2.2.2.1) false=some (xE (Y6 l s).2.2.2.1.length)from Eg _ (hL.sc _ g5) false,o8]
theorem a8I:SmS BI:=⟨by simp[BI],by simp[BI],by simp[BI],by simp[BI],⟨by simp[BI],by simp[BI]⟩,by simp[BI]⟩
def YT(l:S9)(c:dI)(v:List V3):aK:=(c.1,v,[],[],[],l.2.1)
def mG(l:S9)(c:dI)(ms:A8)(need:c9s)(b:List DB)(a:List V3×Nat):List DB⊕E4:=
 match scS ms (YT l c a.1) (a.2:Int) need with
 | .inl x=> .inl (b++[x])| .inr e=> .inr e.1
def mS(l:S9)(c:dI)(ms:A8)(need:c9s):List DB⊕E4:=aP (mG l c ms need) c.2.2.zipIdx []
theorem b4R{ms:A8}(b:List DB)(a:List V3×Nat)(r:E4)(h:mG l c ms need b a= .inr r):r.1≠0:=by
 unfold mG at h;cases hs:scS ms (YT l c a.1) (a.2:Int) need with
 |inl x=>rw[hs]at h;cases h|inr e=>rw[hs]at h;cases h;exact RS hs
theorem b1y{l:List (List V3)}{a:List V3×Nat}(h:l.zipIdx[i]? =some a):l[i]? =some a.1/\a.2=i:=by
 rw[um]at h;cases hl:l[i]? with
 |none=>rw[hl]at h;cases h|some v=>rw[hl]at h;cases h;exact⟨rfl,x9⟩
theorem Zf(hT:∀t∈l.2.1,kR t)(c:dI)(v:List V3):EvOk (YT l c v):=⟨by simp[YT],hT⟩
theorem p_(h:(dK l).1=0)(hs:F9 l.2.2 k=some s)(hc:c.2.2.length<=1000)(hM:SmS (Y6 l s))(hT:∀t∈l.2.1,kR t)(hn:need.length=(Y6 l s).2.2.2.1.length):
  yH l k c need=some (match mS l c (Y6 l s) need with| .inl b=>(b.map (·.1),b.map (·.2),0,0,0,0)| .inr e=>([],[],e)):=by
 unfold yH;rw[DV h hs,o8];have hfold:=LQ (mG l c (Y6 l s) need) (λb a=>WN (λe=>(([],[],e):List (List V3)×List c9h×E4)) (mG l c (Y6 l s) need b a)) (λe=>(([],[],e):List (List V3)×List c9h×E4)) (λ_ _=>rfl) c.2.2.zipIdx [];unfold mS;have hzl:c.2.2.zipIdx.length=c.2.2.length:=x9;apply kU c.2.2.zipIdx (λb a=>WN (λe=>(([],[],e):List (List V3)×List c9h×E4)) (mG l c (Y6 l s) need b a)) (λb i=>(((0,0,0,0),b.map (·.1),b.map (·.2),i):E4×List (List V3)×List c9h×Int)) (λb=>(((0,0,0,0),b.map (·.1),b.map (·.2)):E4×List (List V3)×List c9h)) (λi b=>b.length=i) [] l9 rfl
 .intro i a b hi hi' hb;obtain⟨z1,z2⟩:=b1y hi;unfold OX mG;simp only[H5 z1,o7,F5,z1,o8];rw[show zJ (Y6 l s) (c.1,a.1,[],[],[],l.2.1) (i:Int) need=_ from XU hM (Zf hT c a.1) (i:Int) hn,o8,z2];unfold YT;cases hq:scS (Y6 l s) (c.1,a.1,[],[],[],l.2.1) (i:Int) need with
  |inr e=>simp only[J6 (RS hq)];exact⟨rfl,λ_ h=>by cases h⟩|inl x=>simp only[J7 (rfl:(0:Int)=0),E5,o6];rw[jB _ Y2,o8,jB _ Y2,o8,Z5 l9];exact⟨by simp[WN],λ_ h=>by cases h;simp[hb]⟩
 .intro b hb;rw[hzl,G7];rfl
 .intro _;rw[hfold];cases aP (mG l c (Y6 l s) need) c.2.2.zipIdx []<;>rfl
def wZ(l:S9)(s:A8)(c:dI)(b:List DB):aK:=(c.1,c.2.1,[],b.map (·.1),(Y6 l s).2.2.2.1.map (·.2),l.2.1)
theorem T_(hL:SmL l)(h:(dK l).1=0)(hs:F9 l.2.2 k=some s):SmS (Y6 l s):=by
 rcases vk h hs with⟨_,_,g3⟩|⟨_,_,_,_,g5⟩
 .rw[g3];exact a8I
 .exact hL.sc _ g5
theorem a3T{ms:A8}{b:List DB}(h:mS l c ms need= .inl b):b.length=c.2.2.length:=by
 have key:∀(L:List (List V3×Nat)) (b0 b:List DB),aP (mG l c ms need) L b0= .inl b->b.length=b0.length+L.length:=by
  intro L;induction L with
  |nil=>intro b0 b h;cases h;simp|cons a L ih=>
   intro b0 b h;unfold aP at h;cases hg:mG l c ms need b0 a with
   |inr e=>rw[hg]at h;cases h|inl b1=>
    rw[hg]at h;have:=ih b1 b h;have h1:b1.length=b0.length+1:=by
     unfold mG at hg;cases hs:scS ms (YT l c a.1) (a.2:Int) need with
     |inr e=>rw[hs]at hg;cases hg|inl x=>rw[hs]at hg;cases hg;simp
    simp only[G8];omega
 have:=key _ _ _ h;simpa using this
theorem Qi(hT:∀t∈l.2.1,kR t)(s:A8)(c:dI){b:List DB}(hb:b.length<=1000):EvOk (wZ l s c b):=⟨by simp[wZ];omega,hT⟩
theorem b9d(c:dI)(b:List DB)(h:(dK l).1=0)(hs:F9 l.2.2 k=some s)(hM:SmS (Y6 l s)):Xi l k c (b.map (·.1))=some (wZ l s c b):=by
 have hnd:=hM.nd;unfold Xi;rw[DV h hs,o8,bV];refine a9X (λL i=>(((c.1,c.2.1,[],b.map (·.1),L,l.2.1),i):aK×Int)) (λL=>((c.1,c.2.1,[],b.map (·.1),L,l.2.1):aK)) (Y6 l s).2.2.2.1 (λf=>f.2) l9 (λi a L hi hL=>?_) (λL=>?_)
 .have:=(V6.1 hi).1;simp only[H5 hi,o7,F5,hi,o8];rw[jB _ l9,o8,Z5 l9]
 .rw[G7];rfl
abbrev ZT:Type:=Int×List V3×PUnit×List (List V3)×c9k×List bn
def TF(l:S9)(s:A8)(c:dI)(nS nM:c9s):DB×List DB⊕E4:=
 match mS l c (Y6 l s) nM with
 | .inr e=> .inr e
 | .inl b=>match scS s (wZ l s c b) (-1) nS with
  | .inl x=> .inl (x,b)| .inr r=> .inr r.1
variable {nS:c9s}{nM:c9s}
theorem a3D(hS:SmS s)(hM:SmS (Y6 l s))(hC:SmC c)(hT:∀t∈l.2.1,kR t)(h1:nS.length=s.2.2.2.1.length)(h2:nM.length=(Y6 l s).2.2.2.1.length):
  BA l k c (s,Y6 l s,nS,nM)=some (match TF l s c nS nM with
   | .inl x=>((x.1.1,x.1.2,x.2),AP (wZ l s c x.2) x.1.1,(0,0,0,0),(s,Y6 l s,nS,nM))
   | .inr e=>(([],[],[]),(0,[],[],[],[],[]),e,(s,Y6 l s,nS,nM))):=by
 have hnd:=hM.nd;have hnm:=hC.nm;unfold BA;rw[show(ay _ _)=some (((c.1,c.2.1,PUnit.unit,PUnit.unit,(Y6 l s).2.2.2.1.map (λf=>f.2),l.2.1)):Int×List V3×PUnit×PUnit×c9k×List bn)from ?_,o8]
 rotate_left
 .refine a9X (λL i=>(((c.1,c.2.1,PUnit.unit,PUnit.unit,L,l.2.1),i):(Int×List V3×PUnit×PUnit×c9k×List bn)×Int)) (λL=>((c.1,c.2.1,PUnit.unit,PUnit.unit,L,l.2.1):Int×List V3×PUnit×PUnit×c9k×List bn)) (Y6 l s).2.2.2.1 (λf=>f.2) l9 (λi a L hi hL=>?_) (λL=>?_)
  .have:=(V6.1 hi).1;simp only[H5 hi,o7,F5,hi,o8];rw[jB _ l9,o8,Z5 l9]
  .rw[G7];rfl
 have hfold:=LQ (mG l c (Y6 l s) nM) (λb a=>WN (λe=>((([],[],[]),(0,[],[],[],[],[]),e,(s,Y6 l s,nS,nM)):Bl×aK×E4×dM)) (mG l c (Y6 l s) nM b a)) (λe=>((([],[],[]),(0,[],[],[],[],[]),e,(s,Y6 l s,nS,nM)):Bl×aK×E4×dM)) (λ_ _=>rfl) c.2.2.zipIdx [];have hzl:c.2.2.zipIdx.length=c.2.2.length:=x9;unfold TF mS;apply kU c.2.2.zipIdx (λb a=>WN (λe=>((([],[],[]),(0,[],[],[],[],[]),e,(s,Y6 l s,nS,nM)):Bl×aK×E4×dM)) (mG l c (Y6 l s) nM b a))
  (λb i=>((([],[],[]),(0,[],[],[],[],[]),(0,0,0,0),(c.1,c.2.1,PUnit.unit,b.map (·.1),(Y6 l s).2.2.2.1.map (λf=>f.2),l.2.1),([],[],b),i):Bl×aK×E4×ZT×Bl×Int))
  (λb=>((([],[],[]),(0,[],[],[],[],[]),(0,0,0,0),(c.1,c.2.1,PUnit.unit,b.map (·.1),(Y6 l s).2.2.2.1.map (λf=>f.2),l.2.1),([],[],b)):Bl×aK×E4×ZT×Bl))
  (λi b=>b.length=i) [] l9 rfl
 .intro i a b hi hi' hb;obtain⟨z1,z2⟩:=b1y hi;have hil:=(V6.1 z1).1;unfold mG;simp only[H5 z1,o7,F5,z1,o8];rw[show jX (Y6 l s) (c.1,a.1,[],[],[],l.2.1) (i:Int) nM=_ from UF hM (Zf hT c a.1) (i:Int) h2,o8,z2];unfold YT;cases hq:scS (Y6 l s) (c.1,a.1,[],[],[],l.2.1) (i:Int) nM with
  |inr e=>simp only[J6 (RS hq)];exact⟨rfl,λ_ h=>by cases h⟩|inl x=>simp only[J7 (rfl:(0:Int)=0),E5,o6];rw[jB _ Y2,o8,jB _ l9,o8,Z5 l9];exact⟨by simp[WN,AP],λ_ h=>by cases h;simp[hb]⟩
 .intro b hb;rw[hzl,G7];rfl
 .intro _;rw[hfold];cases hq:aP (mG l c (Y6 l s) nM) c.2.2.zipIdx []with
  |inr e=>rfl|inl b=>
   have hbl:b.length=c.2.2.length:=a3T (ms:=Y6 l s) (need:=nM) hq;have hsc:=UF (need:=nS) hS (Qi hT s c (b:=b) l9) (-1) h1;unfold wZ at hsc;simp only[WN,L6];rw[show jX s (c.1,c.2.1,[],b.map (·.1),(Y6 l s).2.2.2.1.map (λf=>f.2),l.2.1) (-1) nS=_ from hsc,o8];unfold wZ;cases hr:scS s (c.1,c.2.1,[],b.map (·.1),(Y6 l s).2.2.2.1.map (λf=>f.2),l.2.1) (-1) nS with
   |inr e=>simp only[J6 (RS hr)];rfl|inl x=>rfl
theorem kG{n:Nat}{l:List α}(h:E9 (n:Int) (o9 l)=false):l.length<=n:=by rw[iU]at h;unfold o9 at h;omega
def M_(r:V8):Bool:=l7 (E9 80 (o9 r.1)) true (l7 (E9 80 (o9 r.2.2.2.2.2.2.2)) true (l7 (E9 50 (o9 r.2.2.2.2.2.1)) true (E9 50 (o9 r.2.2.2.2.2.2.1))))
def smS(s:A8):Bool:=l7 (E9 80 (o9 s.1)) false (l7 (E9 14 (o9 s.2.2.1)) false (l7 (E9 14 (o9 s.2.2.2.1)) false (l7 (E9 60 (o9 s.2.2.2.2)) false
 (l7 (s.2.2.1.any λf=>E9 80 (o9 f.1)) false (l7 (s.2.2.2.1.any λf=>E9 80 (o9 f.1)) false (D9 (s.2.2.2.2.any M_)))))))
theorem t_{fs:List bH}(h:fs.length<=1000000):V7 (λ(x:Int)=>l7 (E9 x (o9 fs)) (o5 (F9 fs x) λ(x_1:bH)=>l7 (E9 80 (o9 x_1.1)) (some (Out.rt false)) (some (Out.nx (A7 IntKind.i64 x 1)))) (some (Out.ex PUnit.unit))) 0=some (bif fs.any (λf=>E9 80 (o9 f.1))then .inr false else .inl PUnit.unit):=by
 refine vX fs (λf=>E9 80 (o9 f.1)) false PUnit.unit h (λi a ha=>?_) ?_
 .simp only[H5 ha,o7,F5,ha,o8];cases E9 80 (o9 a.1)<;>rfl
 .rw[G7];rfl
theorem a1N(s:A8):BO s=some (smS s):=by
 unfold BO smS;cases h1:E9 80 (o9 s.1)
 case true=>rfl
 cases h2:E9 14 (o9 s.2.2.1)
 case true=>rfl
 cases h3:E9 14 (o9 s.2.2.2.1)
 case true=>rfl
 cases h4:E9 60 (o9 s.2.2.2.2)
 case true=>rfl
 have l2:=kG (n:=14) h2;have l3:=kG (n:=14) h3;have l4:=kG (n:=60) h4;simp only[o6,o8,L6];rw[t_ l9,t_ l9,o8];cases s.2.2.1.any λf=>E9 80 (o9 f.1)
 case true=>rfl
 simp only[cond_false,L6,o6,o8];cases s.2.2.2.1.any λf=>E9 80 (o9 f.1)
 case true=>rfl
 simp only[cond_false,L6,o6];refine X8 (vX s.2.2.2.2 M_ false PUnit.unit l9 (λi a ha=>?_) ?_) ?_
 rotate_left 2
 .cases s.2.2.2.2.any M_<;>rfl
 .simp only[H5 ha,o7,F5,ha,o8];unfold M_;cases E9 80 (o9 a.1)<;>cases E9 80 (o9 a.2.2.2.2.2.2.2)<;>cases E9 50 (o9 a.2.2.2.2.2.1)<;>cases E9 50 (o9 a.2.2.2.2.2.2.1)<;>rfl
 .rw[G7];rfl
def ScI(s:A8):Prop:=∀r∈s.2.2.2.2,(∀n∈r.2.2.2.2.2.1,jl n.2)/\∀n∈r.2.2.2.2.2.2.1,jl n.2
theorem YO{a b:Bool}(h:l7 a false b=true):a=false/\b=true:=by cases a<;>cases b<;>first|exact⟨rfl,rfl⟩|cases h
theorem a1Y{l:List α}{p:α->Bool}(h:l.any p=false):∀a∈l,p a=false:=by
 intro a ha;rw[fZ]at h;have:=h a ha;cases hp:p a
 .rfl
 .exact absurd hp this
theorem c2h(h:smS s=true)(hI:ScI s):SmS s:=by
 unfold smS at h;obtain⟨h1,h⟩:=YO h;obtain⟨h2,h⟩:=YO h;obtain⟨h3,h⟩:=YO h;obtain⟨h4,h⟩:=YO h;obtain⟨h5,h⟩:=YO h;obtain⟨h6,h⟩:=YO h;have h7:s.2.2.2.2.any M_=false:=by cases hq:s.2.2.2.2.any M_<;>rw[hq]at h<;>first|rfl|cases h
 refine⟨by have:=kG (n:=80) h1;omega,kG (n:=14) h2,kG (n:=14) h3,kG (n:=60) h4,⟨λf hf=>?_,λf hf=>?_⟩,λr hr=>?_⟩
 .have:=kG (n:=80) (a1Y h5 f hf);omega
 .have:=kG (n:=80) (a1Y h6 f hf);omega
 .have hl:=a1Y h7 r hr;unfold M_ at hl;cases g1:E9 80 (o9 r.1)<;>rw[g1]at hl
  case true=>cases hl
  cases g2:E9 80 (o9 r.2.2.2.2.2.2.2)<;>rw[g2]at hl
  case true=>cases hl
  cases g3:E9 50 (o9 r.2.2.2.2.2.1)<;>rw[g3]at hl
  case true=>cases hl
  have k1:=kG (n:=80) g1;have k2:=kG (n:=80) g2;exact⟨⟨l9,l9,(hI r hr).1,(hI r hr).2⟩,kG (n:=50) g3,kG (n:=50) hl⟩
def smC(c:dI):Bool:=l7 (E9 14 (o9 c.2.1)) false (l7 (E9 10 (o9 c.2.2)) false (D9 (c.2.2.any λv=>E9 14 (o9 v))))
theorem a4L(c:dI):Ei c=some (smC c):=by
 unfold Ei smC;cases h1:E9 14 (o9 c.2.1)
 case true=>rfl
 cases h2:E9 10 (o9 c.2.2)
 case true=>rfl
 have l2:=kG (n:=10) h2;simp only[o6];refine X8 (vX c.2.2 (λv=>E9 14 (o9 v)) false PUnit.unit l9 (λi a ha=>?_) ?_) ?_
 rotate_left 2
 .cases c.2.2.any λv=>E9 14 (o9 v)<;>rfl
 .simp only[H5 ha,o7,F5,ha,o8];cases E9 14 (o9 a)<;>rfl
 .rw[G7];rfl
theorem c2g(h:smC c=true):SmC c:=by
 unfold smC at h;obtain⟨h1,h⟩:=YO h;obtain⟨h2,h⟩:=YO h;have h3:(c.2.2.any λv=>E9 14 (o9 v))=false:=by cases hq:c.2.2.any λv=>E9 14 (o9 v)<;>rw[hq]at h<;>first|rfl|cases h
 exact⟨by have:=kG (n:=14) h1;omega,by have:=kG (n:=10) h2;omega,λv hv=>by have:=kG (n:=14) (a1Y h3 v hv);omega⟩
theorem WH{α β ρ:Type}(G:β->α->β⊕ρ)(Inv:β->Prop)(hG:∀b a b',Inv b->G b a= .inl b' ->Inv b'):∀(l:List α) (b b' :β),Inv b->aP G l b= .inl b' ->Inv b'
 |[],b,b',hi,h=>by cases h;exact hi|a::l,b,b',hi,h=>by
  unfold aP at h;cases hg:G b a with
  |inr r=>rw[hg]at h;cases h|inl b1=>rw[hg]at h;exact WH G Inv hG l b1 b' (hG b a b1 hi hg) h
theorem RU{b:DB}(h:scS s env m need= .inl b):b.1.length=s.2.2.2.1.length/\b.2.length=s.2.2.2.1.length:=by
 refine WH (scG s env m need) (λb=>b.1.length=s.2.2.2.1.length/\b.2.length=s.2.2.2.1.length) (λb a b' hi h=>?_) _ _ _ ⟨x9,x9⟩ h;unfold scG at h;cases hb:(F9 need a).getD false<;>rw[hb]at h
 .cases h;exact hi
 simp only[o7]at h;cases hd:Ey s (AP env b.1) m a with
 |inr e=>rw[hd]at h;cases h|inl v=>rw[hd]at h;cases h;exact⟨by simp[hi.1],by simp[hi.2]⟩
def a6f(e:dB):Bool:=l7 (E9 80 (o9 e.1)) true (l7 (E9 20 (o9 e.2)) true (e.2.any λm=>E9 80 (o9 m)))
def tG(b:Int)(t:bn):Int⊕Bool:=l7 (E9 80 (o9 t.1)) (.inr false) (l7 (E9 150 (A7 .i64 b (o9 t.2.2.2))) (.inr false) (.inl (A7 .i64 b (o9 t.2.2.2))))
def sG(b:Int)(s:A8):Int⊕Bool:=l7 (E9 60 (A7 .i64 b (o9 s.2.2.2.2))) (.inr false) (l7 (smS s) (.inl (A7 .i64 b (o9 s.2.2.2.2))) (.inr false))
def smL(l:S9):Bool:=l7 (E9 9 (o9 l.1)) false (l7 (E9 9 (o9 l.2.1)) false (l7 (E9 5 (o9 l.2.2)) false (l7 (l.1.any a6f) false
 (match aP tG l.2.1 0 with| .inr _=>false| .inl _=>match aP sG l.2.2 0 with| .inr _=>false| .inl _=>true))))
theorem c3J:∀(b:Int) (t:bn) (r:Bool),tG b t= .inr r->r=false:=by intro b t r h;unfold tG at h;cases g0:E9 80 (o9 t.1)<;>cases g:E9 150 (A7 .i64 b (o9 t.2.2.2))<;>simp only[g0,g,o7,o6]at h<;>cases h<;>rfl
theorem c2f:∀(b:Int) (s:A8) (r:Bool),sG b s= .inr r->r=false:=by intro b s r h;unfold sG at h;cases g:E9 60 (A7 .i64 b (o9 s.2.2.2.2))<;>cases g2:smS s<;>simp only[g,g2,o7,o6]at h<;>cases h<;>rfl
theorem a7m(l:S9):Bi l=some (smL l):=by
 unfold Bi smL;cases h1:E9 9 (o9 l.1)
 case true=>rfl
 cases h2:E9 9 (o9 l.2.1)
 case true=>rfl
 cases h3:E9 5 (o9 l.2.2)
 case true=>rfl
 have l1:=kG (n:=9) h1;have l2:=kG (n:=9) h2;have l3:=kG (n:=5) h3;simp only[o6,o8,L6];refine X8 (vX l.1 a6f false PUnit.unit l9 (λi a ha=>?_) ?_) ?_
 .simp only[H5 ha,o7,F5,ha,o8];unfold a6f;cases E9 80 (o9 a.1)
  case true=>rfl
  cases h5:E9 20 (o9 a.2)
  case true=>rfl
  have l5:=kG (n:=20) h5;simp only[o6];refine X8 (vX a.2 (λm=>E9 80 (o9 m)) false PUnit.unit l9 (λj m hm=>?_) ?_) ?_
  .simp only[H5 hm,o7,F5,hm,o8];cases E9 80 (o9 m)<;>rfl
  .rw[G7];rfl
  .cases a.2.any λm=>E9 80 (o9 m)<;>rfl
 .rw[G7];rfl
 cases l.1.any a6f
 case true=>rfl
 simp only[cond_false,L6,o6];apply kU l.2.1 tG (λb i=>((b,i):Int×Int)) (λ_=>PUnit.unit) (λ_ _=>True) 0 l9 trivial
 .intro i t b hi hi' _;refine⟨?_,λ_ _=>trivial⟩;simp only[H5 hi,o7,F5,hi,o8];unfold tG;rw[Z5 l9];cases E9 80 (o9 t.1)<;>cases E9 150 (A7 .i64 b (o9 t.2.2.2))<;>rfl
 .intro b _;rw[G7];rfl
 .intro _;cases ht:aP tG l.2.1 0 with
  |inr r=>rw[wL tG (λr=>r=false) c3J _ _ _ ht];rfl|inl b=>
   simp only[L6];apply kU l.2.2 sG (λb i=>((b,i):Int×Int)) (λ_=>PUnit.unit) (λ_ _=>True) 0 l9 trivial
   .intro i s b hi hi' _;refine⟨?_,λ_ _=>trivial⟩;simp only[H5 hi,o7,F5,hi,o8,a1N];unfold sG;rw[Z5 l9];cases E9 60 (A7 .i64 b (o9 s.2.2.2.2))<;>cases smS s<;>rfl
   .intro b _;rw[G7];rfl
   .intro _;cases hs:aP sG l.2.2 0 with
    |inr r=>rw[wL sG (λr=>r=false) c2f _ _ _ hs];rfl|inl b=>rfl
structure WfL (l:S9):Prop where
 rl:∀t∈l.2.1,t.2.2.2.length<=4611686018427387904
 ri:∀t∈l.2.1,∀r∈t.2.2.2,a9R r
 sl:∀s∈l.2.2,s.2.2.2.2.length<=4611686018427387904
 si:∀s∈l.2.2,ScI s
theorem b7S:∀(L:List bn) (b b' :Int),0<=b->b<=150->(∀t∈L,t.2.2.2.length<=4611686018427387904)->aP tG L b= .inl b' ->∀t∈L,t.1.length<=80/\t.2.2.2.length<=150
 |[],_,_,_,_,_,_=>by simp|t::L,b,b',h0,h1,hw,h=>by
  have hwt:=hw t x9;have ha:A7 .i64 b (o9 t.2.2.2)=b+o9 t.2.2.2:=X7 (by unfold jl o9;omega);unfold aP tG at h;rw[ha]at h;cases g0:E9 80 (o9 t.1)<;>rw[g0]at h
  case true=>cases h
  cases g1:E9 150 (b+o9 t.2.2.2)<;>rw[g1]at h
  case true=>cases h
  rw[iU]at g1;intro x hx;rcases D5.1 hx with rfl|hx
  .exact⟨kG (n:=80) g0,by unfold o9 at g1;omega⟩
  .exact b7S L (b+o9 t.2.2.2) b' (by unfold o9;omega) g1 (λq hq=>hw q (by simp[hq])) h x hx
theorem b6T:∀(L:List A8) (b b' :Int),0<=b->b<=60->(∀s∈L,s.2.2.2.2.length<=4611686018427387904)->aP sG L b= .inl b' ->∀s∈L,smS s=true
 |[],_,_,_,_,_,_=>by simp|s::L,b,b',h0,h1,hw,h=>by
  have hwt:=hw s x9;have ha:A7 .i64 b (o9 s.2.2.2.2)=b+o9 s.2.2.2.2:=X7 (by unfold jl o9;omega);unfold aP sG at h;rw[ha]at h;cases g1:E9 60 (b+o9 s.2.2.2.2)<;>rw[g1]at h
  case true=>cases h
  cases g2:smS s<;>rw[g2]at h
  case false=>cases h
  rw[iU]at g1;intro x hx;rcases D5.1 hx with rfl|hx
  .exact g2
  .exact b6T L (b+o9 s.2.2.2.2) b' (by unfold o9;omega) g1 (λq hq=>hw q (by simp[hq])) h x hx
theorem b7c(h:smL l=true)(hW:WfL l):SmL l/\∀t∈l.2.1,kR t:=by
 unfold smL at h;obtain⟨h1,h⟩:=YO h;obtain⟨h2,h⟩:=YO h;obtain⟨h3,h⟩:=YO h;obtain⟨h4,h⟩:=YO h;have l1:=kG (n:=9) h1;have l2:=kG (n:=9) h2;have l3:=kG (n:=5) h3;cases ht:aP tG l.2.1 0 with
 |inr r=>rw[ht]at h;cases h|inl b=>
  rw[ht]at h;simp only at h;cases hs:aP sG l.2.2 0 with
  |inr r=>rw[hs]at h;cases h|inl b' =>
   have T:=b7S l.2.1 0 b l9 l9 hW.rl ht;have S:=b6T l.2.2 0 b' l9 l9 hW.sl hs;refine⟨⟨⟨l9,l9,l9⟩,λe he=>?_,λt ht=>by have:=(T t ht).1;omega,λs hs=>c2h (S s hs) (hW.si s hs)⟩,λt ht=>⟨by have:=(T t ht).2;omega,hW.ri t ht⟩⟩;have hl:=a1Y h4 e he;unfold a6f at hl;cases g1:E9 80 (o9 e.1)<;>rw[g1]at hl
   case true=>cases hl
   cases g2:E9 20 (o9 e.2)<;>rw[g2]at hl
   case true=>cases hl
   have k1:=kG (n:=80) g1;exact⟨l9,λm hm=>by have:=kG (n:=80) (a1Y hl m hm);omega⟩
theorem a6Q:reachBytes<=4611686018427387904:=by decide
theorem c0L(h:wf c9g l):WfL l:=by
 refine⟨λt ht=>?_,λt ht r hr=>?_,λs hs=>?_,λs hs r hr=>⟨λn hn=>?_,λn hn=>?_⟩⟩
 .have:=(h.2.1.2 t ht).2.2.2.1;exact iI this a6Q
 .have:=(h.2.1.2 t ht).2.2.2.2 r hr;exact⟨a1q this.2.1,a1q this.2.2.1,a1q this.2.2.2⟩
 .have:=(h.2.2.2 s hs).2.2.2.2.1;exact iI this a6Q
 .have:=(h.2.2.2 s hs).2.2.2.2.2 r hr;exact a1q (this.2.2.2.2.2.1.2 n hn).2
 .have:=(h.2.2.2 s hs).2.2.2.2.2 r hr;exact a1q (this.2.2.2.2.2.2.1.2 n hn).2
def YW(w:c9s)(L:c9h):c9s:=L.foldl (λw x=>w.set x.toNat true) w
theorem a0W:∀(L:c9h) (w:c9s),(YW w L).length=w.length
 |[],w=>rfl|x::L,w=>(a0W L (w.set x.toNat true)).trans x9
def Le(s:A8)(w:c9s)(d:Int):c9s:=YW (w.set d.toNat true) (aB s d)
theorem MI(s:A8)(w:c9s)(d:Int):(Le s w d).length=w.length:=by unfold Le;rw[a0W];simp
variable {w:c9s}
theorem Hy{n:Nat}(hw:w.length=n){x:Int}(h0:0<=x)(h1:x<(n:Int)):∃b,F9 w x=some b/\O8 w (U6 x)=some b:=by have h:x.toNat<w.length:=l9;exact⟨w[x.toNat],by unfold F9;rw[if_pos h0];exact dh h,dh h⟩
theorem sS(h:SmS s)(d:Int):(aB s d).length<=14:=ER h (xh s d).1 (λx hx=>zZ hx)
theorem a0K(h:SmS s)(hw:w.length=s.2.2.2.1.length)(h0:0<=d)(h1:d<nD s):FT s w d=some (Le s w d):=by
 have hn:nD s=((s.2.2.2.1.length:Nat):Int):=rfl;have hl:=sS h d;obtain⟨b,e1,e2⟩:=Hy hw h0 l9;unfold FT;rw[e1,o8,e2,o8,zt h,o8,bV];refine(nK (aB s d) (λ(w:c9s) (x:Int)=>w.set x.toNat true) (λw i=>(w,i)) (λw=>w) (λ_ w=>w.length=s.2.2.2.1.length) (b:=w.set d.toNat true) l9 (by simp[hw]) (λi x v hx hi hv=>?_) (λv hv=>?_)).1
 .have hr:=zZ (iL hx);obtain⟨b,e1,e2⟩:=Hy hv hr.1 l9;simp only[H5 hx,o7,F5,hx,o8];rw[e1,o8,e2,o8,Z5 l9];exact⟨rfl,by simp[hv]⟩
 .simp only[G7];rfl
theorem a3q{s m:A8}(h:SmS m){u w:c9s}(hw:w.length=m.2.2.2.1.length)(h0:0<=d)(h1:d<nD m):oz (s,m,u,w) d=some (s,m,u,Le m w d):=by
 have hn:nD m=((m.2.2.2.1.length:Nat):Int):=rfl;have hl:=sS h d;obtain⟨b,e1,e2⟩:=Hy hw h0 l9;unfold oz;simp only;rw[e1,o8,e2,o8,vV h h0 h1,o8,bV];refine(nK (aB m d) (λ(w:c9s) (x:Int)=>w.set x.toNat true) (λw i=>(((s,m,u,w),i):dM×Int)) (λw=>((s,m,u,w):dM)) (λ_ w=>w.length=m.2.2.2.1.length) (b:=w.set d.toNat true) l9 (by simp[hw]) (λi x v hx hi hv=>?_) (λv hv=>?_)).1
 .have hr:=zZ (iL hx);obtain⟨b,e1,e2⟩:=Hy hv hr.1 l9;simp only[H5 hx,o7,F5,hx,o8];rw[show O8 (aB m d) (U6 (i:Int))=some x from hx,o8,e1,o8,e2,o8,Z5 l9];exact⟨rfl,by simp[hv]⟩
 .simp only[G7];rfl
def DU(r:V8):c9h:=(pg r.2.2.2.2.2.1).2.2++(pg r.2.2.2.2.2.2.1).2.2
def mdl(rs:List V8)(C:c9h):c9h:=rs.flatMap λr=>l7 (qQ C r.2.1) (DU r) []
def mbS(s:A8)(d:Int):c9h:=l7 (inD (nD s) d) (Ov (mdl s.2.2.2.2 (ins d (aB s d)))) []
variable {r:V8}
theorem WR(h:SmS s)(hr:r∈s.2.2.2.2):(DU r).length<=100:=by obtain⟨_,h1,h2⟩:=h.ro r hr;have a1:=IG r.2.2.2.2.2.1;have a2:=IG r.2.2.2.2.2.2.1;unfold DU;rw[E8];omega
theorem a3U{s:A8}(h:SmS s)(C:c9h):∀(rs:List V8),(∀r∈rs,r∈s.2.2.2.2)->(mdl rs C).length<=100*rs.length
 |[],_=>by simp[mdl]|r::rs,hr=>by
  have h1:=a3U h C rs (λx hx=>hr x (by simp[hx]));have h2:=WR h (hr r x9);have:mdl (r::rs) C=l7 (qQ C r.2.1) (DU r) []++mdl rs C:=rfl;rw[this,E8,G8];cases qQ C r.2.1
  .simp only[o6,bT];omega
  .simp only[o7];omega
theorem b0J{rs:List V8}{C:c9h}{x:Int} :x∈mdl rs C↔∃r∈rs,qQ C r.2.1=true/\x∈DU r:=by
 unfold mdl;rw[List.mem_flatMap];constructor
 .rintro⟨r,h1,h2⟩;cases h:qQ C r.2.1<;>rw[h]at h2
  .simp at h2
  .exact⟨r,h1,h,h2⟩
 .rintro⟨r,h1,h2,h3⟩;exact⟨r,h1,by rw[h2];exact h3⟩
theorem b0x{f:c9h×Int->Option ((c9h×Int)⊕c9h)}(l b:c9h)(hl:l.length<=1000)(hb:b.length<=100000)
  (hin:∀(i:Nat) (a:Int) (acc:c9h),l[i]? =some a->i<=1000000->f (acc,(i:Int))=o5 (nR acc a) λx=>some (.inl (x,A7 .i64 (i:Int) 1)))
  (hend:∀acc,f (acc,(l.length:Int))=some (.inr acc)):ay f (b,0)=some (Gi l b):=by
 refine(nK l (λ(acc:c9h) x=>ins x acc) (λb i=>(b,i)) (λb=>b) (λi acc=>acc.length<=100000+i) (f:=f) (b:=b) l9 l9 (λi a acc ha hi hI=>?_) (λacc hI=>hend acc)).1;have hlt:=(V6.1 ha).1;have h2:=xG a acc;rw[hin i a acc ha hi,Z5 l9,Cc _ l9];exact⟨rfl,by show(ins a acc).length<=_;omega⟩
theorem Qj(h:SmS s)(d:Int):Ar s d=some (mbS s d):=by
 have hnr:=h.nr;have hl:=sS h d;have hli:=xG d (aB s d);unfold Ar mbS;rw[a8V,o8];change l7 (D9 (inD (nD s) d)) _ _=_;cases inD (nD s) d
 .rfl
 simp only[E5,o6,o7];rw[zt h,o8,Cc _ l9,o8];generalize hC:ins d (aB s d)=C at*;refine aO s.2.2.2.2 (λ(acc:c9h) r=>l7 (qQ C r.2.1) (Gi (DU r) acc) acc) (λb i=>(b,i)) (λb=>b) (λi acc=>acc.length<=100*i) [] l9 x9 (λi r acc ha hi hI=>?_) (λacc hI=>?_) (λh2=>?_)
 .have hlt:=(V6.1 ha).1;obtain⟨_,h1,h2⟩:=h.ro r (iL ha);have a1:=IG r.2.2.2.2.2.1;have a2:=IG r.2.2.2.2.2.2.1;have hlen:=CU (DU r) acc;have hrl:=WR h (iL ha);simp only[H5 ha,o7,F5,ha,o8];rw[Z5 l9,a4o l9,o8];cases qQ C r.2.1
  .exact⟨rfl,by show acc.length<=_;omega⟩
  simp only[E5,o6,o7,DX (show r.2.2.2.2.2.1.length<=500000 by omega),DX (show r.2.2.2.2.2.2.1.length<=500000 by omega),o8];refine⟨?_,by show(Gi (DU r) acc).length<=_;omega⟩;refine X8 (b0x (pg r.2.2.2.2.2.1).2.2 acc l9 l9 (λi a acc ha hi=>?_) (λacc=>?_)) ?_
  rotate_left 2
  .rw[o8];have hl2:=CU (pg r.2.2.2.2.2.1).2.2 acc;refine X8 (b0x (pg r.2.2.2.2.2.2.1).2.2 _ l9 l9 (λi a acc ha hi=>?_) (λacc=>?_)) ?_
   rotate_left 2
   .rw[o8];unfold DU;rw[JU]
   .simp only[H5 ha,o7,F5,ha,o8];rw[show O8 (pg r.2.2.2.2.2.2.1).2.2 (U6 (i:Int))=some a from ha];rfl
   .simp only[G7];rfl
  .simp only[H5 ha,o7,F5,ha,o8];rw[show O8 (pg r.2.2.2.2.2.1).2.2 (U6 (i:Int))=some a from ha];rfl
  .simp only[G7];rfl
 .simp only[G7];rfl
 .have hf:∀(l:List V8) (b:c9h),l.foldl (λ(acc:c9h) r=>l7 (qQ C r.2.1) (Gi (DU r) acc) acc) b=Gi (mdl l C) b:=by
   intro l;induction l with
   |nil=>intro b;rfl|cons a l ih=>intro b;rw[G9,ih,show mdl (a::l) C=l7 (qQ C a.2.1) (DU a) []++mdl l C from rfl,JU];cases qQ C a.2.1<;>rfl
  rw[hf];rfl
theorem a3X:∀(L:c9h) (w:c9s),(∀x∈L,0<=x/\x<o9 w)->∀x,mk (YW w L) x=true↔mk w x=true\/x∈L
 |[],w,_,x=>by simp[YW]|y::L,w,h,x=>by
  have hy:=h y x9;have ih:=a3X L (w.set y.toNat true) (λz hz=>by have:=h z (by simp[hz]);simp only[o9,mP]at this ⊢;exact this) x;rw[show YW w (y::L)=YW (w.set y.toNat true) L from rfl,ih,a0a hy.1 hy.2];cases hq:x8 x y
  .have:x≠y:=λe=>by rw[J7 e]at hq;cases hq
   simp[this]
  .rw[O9]at hq;simp[hq]
theorem WU(n:Nat)(x:Int):mk (List.replicate n false) x=false:=by
 unfold mk;split
 .rw[vK,jA];split<;>rfl
 .rfl
theorem KU(h:SmS s)(h0:0<=d)(h1:d<nD s):xX s d=some (mbS s d):=by
 have hn:nD s=((s.2.2.2.1.length:Nat):Int):=rfl;have hnr:=h.nr;have hnd:=h.nd;have hl:=sS h d;have hr:Ac ((List.range s.2.2.2.1.length).map λ(d:Nat)=>O6 s (d:Int)) d=some (aB s d):=by obtain⟨L,k1,k2⟩:=a0B (D:=O6 s) h.nd (CG s) (λx y hy=>yl hy) h0 (show d<((s.2.2.2.1.length:Nat):Int) by omega);rw[k1,Rch.unique k2 (xh s d)]
 obtain⟨b,e1,e2⟩:=Hy (w:=List.replicate s.2.2.2.1.length false) x9 h0 (show d<((s.2.2.2.1.length:Nat):Int) by omega);unfold xX mbS;rw[show inD (nD s) d=true by unfold inD;rw[Z9 h0,V5 h1];rfl,o7];change o5 (l7 (E9 d 0) _ (l7 (N7 (nD s) d) _ _)) _=_;rw[N9 h0,o6,ax h1,o6,o8];simp only[L6];rw[Eg s h false,o8,e1,o8,e2,o8,MR h,o8,hr,o8];refine X8 (o' :=some (YW ((List.replicate s.2.2.2.1.length false).set d.toNat true) (aB s d))) ?_ ?_
 .refine(nK (aB s d) (λ(w:c9s) (x:Int)=>w.set x.toNat true) (λw i=>(w,i)) (λw=>w) (λ_ w=>w.length=s.2.2.2.1.length) (b:=(List.replicate s.2.2.2.1.length false).set d.toNat true) l9 x9 (λi x v hx hi hv=>?_) (λv hv=>?_)).1
  .have hr:=zZ (iL hx);obtain⟨b,e1,e2⟩:=Hy hv hr.1 l9;simp only[H5 hx,o7,F5,hx,o8];rw[show O8 (aB s d) (U6 (i:Int))=some x from hx,o8,e1,o8,e2,o8,Z5 l9];exact⟨rfl,by simp[hv]⟩
  .simp only[G7];rfl
 rw[o8];have hW:∀x,0<=x->x<nD s->mk (YW ((List.replicate s.2.2.2.1.length false).set d.toNat true) (aB s d)) x=qQ (ins d (aB s d)) x:=λx x0 x1=>by
  have hm:=a3X (aB s d) ((List.replicate s.2.2.2.1.length false).set d.toNat true) (λy hy=>by have:=zZ hy;simp only[o9,mP,tK];omega) x;have hd:=a0a (S:=List.replicate s.2.2.2.1.length false) (e:=d) h0 (by simp only[o9,tK];omega) x;have hh:qQ (ins d (aB s d)) x=true↔x=d\/x∈aB s d:=by rw[xZ,NC]
  have key:mk (YW ((List.replicate s.2.2.2.1.length false).set d.toNat true) (aB s d)) x=true↔qQ (ins d (aB s d)) x=true:=by
   rw[hm,hh,hd,WU];cases hq:x8 x d
   .have:x≠d:=λe=>by rw[J7 e]at hq;cases hq
    simp[this]
   .rw[O9]at hq;simp[hq]
  rcases Bool.eq_false_or_eq_true (qQ (ins d (aB s d)) x)with hb|hb
  .rw[hb];exact key.2 hb
  .rw[hb];cases hc:mk (YW ((List.replicate s.2.2.2.1.length false).set d.toNat true) (aB s d)) x
   .rfl
   .rw[key.1 hc]at hb;cases hb
 have hWl:(YW ((List.replicate s.2.2.2.1.length false).set d.toNat true) (aB s d)).length=s.2.2.2.1.length:=by rw[a0W];simp
 have hCin:∀x∈ins d (aB s d),0<=x/\x<nD s:=λx hx=>by
  rcases(NC d x _).1 hx with rfl|hx
  .exact⟨h0,h1⟩
  .exact zZ hx
 generalize YW ((List.replicate s.2.2.2.1.length false).set d.toNat true) (aB s d)=W at*;generalize ins d (aB s d)=C at*;refine aO s.2.2.2.2 (λ(acc:c9h) r=>l7 (qQ C r.2.1) (acc++DU r) acc) (λb i=>(b,i)) (λb=>b) (λi acc=>acc.length<=100*i) [] l9 x9 (λi r acc ha hi hI=>?_) (λacc hI=>?_) (λh2=>?_)
 .have hlt:=(V6.1 ha).1;obtain⟨_,h1,h2⟩:=h.ro r (iL ha);have a1:=IG r.2.2.2.2.2.1;have a2:=IG r.2.2.2.2.2.2.1;have hrl:=WR h (iL ha);simp only[H5 ha,o7,F5,ha,o8];rw[Z5 l9];obtain⟨e,he⟩:∃e:Int,r.2.1=e:=⟨_,rfl⟩;rw[he];change l7 (E9 e 0) _ (l7 (N7 (nD s) e) _ _)=_/\_;by_cases q0:0<=e
  case neg=>
   have:qQ C e=false:=by
    cases hq:qQ C e
    .rfl
    .exact absurd (hCin _ (xZ.1 hq)).1 q0
   rw[V5 (show e<0 by omega),this];exact⟨rfl,by show acc.length<=_;omega⟩
  by_cases q1:e<nD s
  case neg=>
   have:qQ C e=false:=by
    cases hq:qQ C e
    .rfl
    .exact absurd (hCin _ (xZ.1 hq)).2 q1
   rw[N9 q0,Z9 (show nD s<=e by omega),this];exact⟨rfl,by show acc.length<=_;omega⟩
  obtain⟨b,f1,f2⟩:=Hy hWl q0 (show e<((s.2.2.2.1.length:Nat):Int) by omega);have hb:b=qQ C e:=by have:=a8G (S:=W) q0 (by simp only[o9];omega);rw[←hW _ q0 q1];have e3:W[e.toNat]? =some b:=f2;rw[this]at e3;exact(I8 e3).symm
  rw[N9 q0,o6,ax q1,o6,f1,o8,f2,o8,hb];cases qQ C e
  .exact⟨rfl,by show acc.length<=_;omega⟩
  simp only[E5,o6,o7,FW (show r.2.2.2.2.2.1.length<=1000000 by omega),FW (show r.2.2.2.2.2.2.1.length<=1000000 by omega),o8];rw[Ny l9,o8,Ny (by rw[E8];omega),o8];refine⟨by unfold DU;rw[F8],by show(acc++DU r).length<=_;rw[E8];omega⟩
 .simp only[G7];rfl
 .have hf:∀(l:List V8) (b:c9h),l.foldl (λ(acc:c9h) r=>l7 (qQ C r.2.1) (acc++DU r) acc) b=b++mdl l C:=by
   intro l;induction l with
   |nil=>intro b;simp[mdl]|cons a l ih=>intro b;rw[G9,ih,show mdl (a::l) C=l7 (qQ C a.2.1) (DU a) []++mdl l C from rfl];cases qQ C a.2.1<;>simp
  rw[hf,H9];have hml:=a3U h C s.2.2.2.2 (λ_ h=>h);rw[VO l9];rfl
def EY(m:A8)(w:c9s)(L:c9h):c9s:=L.foldl (Le m) w
theorem TQ(m:A8):∀(L:c9h) (w:c9s),(EY m w L).length=w.length
 |[],w=>rfl|x::L,w=>(TQ m L (Le m w x)).trans (MI m w x)
theorem Rw(h:SmS s)(d:Int):(mbS s d).length<=6000:=by
 unfold mbS;cases inD (nD s) d
 .simp
 .have h1:=JV (mdl s.2.2.2.2 (ins d (aB s d)));have h2:=a3U h (ins d (aB s d)) s.2.2.2.2 (λ_ h=>h);have:=h.nr;simp only[o7];omega
theorem b1B{s m:A8}(h:SmS s)(hm:SmS m){u w:c9s}(hu:u.length=s.2.2.2.1.length)(hw:w.length=m.2.2.2.1.length)(h0:0<=d)(h1:d<nD s)(hr:∀x∈mbS s d,0<=x/\x<nD m):
  ww (s,m,u,w) d=some (s,m,Le s u d,EY m w (mbS s d)):=by
 have hn:nD s=((s.2.2.2.1.length:Nat):Int):=rfl;have hl:=sS h d;have hml:=Rw h d;obtain⟨b,e1,e2⟩:=Hy hu h0 l9;unfold ww;simp only;rw[e1,o8,e2,o8,vV h h0 h1,o8];refine X8 (o' :=some ((s,m,Le s u d,w):dM)) ?_ ?_
 .refine(nK (aB s d) (λ(v:c9s) (x:Int)=>v.set x.toNat true) (λv i=>(((s,m,v,w),i):dM×Int)) (λv=>((s,m,v,w):dM)) (λ_ v=>v.length=s.2.2.2.1.length) (b:=u.set d.toNat true) l9 (by simp[hu]) (λi x v hx hi hv=>?_) (λv hv=>?_)).1
  .have hr:=zZ (iL hx);obtain⟨b,e1,e2⟩:=Hy hv hr.1 l9;simp only[H5 hx,o7,F5,hx,o8];rw[show O8 (aB s d) (U6 (i:Int))=some x from hx,o8,e1,o8,e2,o8,Z5 l9];exact⟨rfl,by simp[hv]⟩
  .simp only[G7];rfl
 rw[o8];simp only;rw[KU h h0 h1,o8,bV];refine(nK (mbS s d) (Le m) (λv i=>(((s,m,Le s u d,v),i):dM×Int)) (λv=>((s,m,Le s u d,v):dM)) (λ_ v=>v.length=m.2.2.2.1.length) (b:=w) l9 hw (λi x v hx hi hv=>?_) (λv hv=>?_)).1
 .have hq:=hr x (iL hx);simp only[H5 hx,o7,F5,hx,o8];rw[show O8 (mbS s d) (U6 (i:Int))=some x from hx,o8,a3q hm hv hq.1 hq.2,o8,Z5 l9];exact⟨rfl,(MI m v x).trans hv⟩
 .simp only[G7];rfl
theorem VI(hv:(dK l).1=0)(hs:F9 l.2.2 k=some s)(h:SmS s)(hm:SmS (Y6 l s))(hw:w.length=(Y6 l s).2.2.2.1.length)(d:Int)(hr:∀x∈mbS s d,0<=x/\x<nD (Y6 l s)):
  zK l k w d=some (EY (Y6 l s) w (mbS s d)):=by
 have hml:=Rw h d;unfold zK;rw[hs,o8,Qj h,o8,bV];refine(nK (mbS s d) (Le (Y6 l s)) (λv i=>(v,i)) (λv=>v) (λ_ v=>v.length=(Y6 l s).2.2.2.1.length) (b:=w) l9 hw (λi x v hx hi hq=>?_) (λv hv=>?_)).1
 .have hx2:=hr x (iL hx);simp only[H5 hx,o7,F5,hx,o8];rw[DV hv hs,o8,show O8 (mbS s d) (U6 (i:Int))=some x from hx,o8,a0K hm hq hx2.1 hx2.2,o8,Z5 l9];exact⟨rfl,(MI _ v x).trans hq⟩
 .simp only[G7];rfl
variable {sg:J5}
theorem c0p(hk:fF k=some true)(h:(Iq (k,N) [] sg).2=0):((RR (k,N) [] sg).getD ((0,0),0)).2=0:=by
 unfold Iq at h;rw[b3A]at h;revert h;cases D9 (x8 N 0)
 .exact id
 .rw[show fF (k,N).1=some true from hk];exact id
theorem b9j(h:(Iq (8,N) [] sg).2=0):0<=N/\N<o9 sg.2.2.2.1:=by
 have h:=c0p rfl h;have hf:qm (8,N) sg=l7 (N7 0 N) (some (E9 N (o9 sg.2.2.2.1))) (some false):=rfl;unfold RR at h;rw[hf,show rW (8,N) sg=some true from rfl]at h;cases h1:N7 0 N<;>rw[h1]at h
 .exact absurd (show(6:Int)=0 from h) G6
 cases h2:E9 N (o9 sg.2.2.2.1)<;>rw[h2]at h
 .exact absurd (show(6:Int)=0 from h) G6
 exact⟨jJ.1 h1,iW.1 h2⟩
theorem b9k(hk:k=36\/k=37\/k=38\/k=39)(h:(Iq (k,N) [] sg).2=0):0<=N/\N<o9 sg.2.2.2.2.1/\sg.2.2.2.2.2=true:=by
 have h:=c0p (by rcases hk with rfl|rfl|rfl|rfl<;>rfl) h;have hr:RR (k,N) [] sg=o5 (l7 sg.2.2.2.2.2 (l7 (N7 0 N) (some (E9 N (o9 sg.2.2.2.2.1))) (some false)) (some false)) λ(x:Bool)=>l7 (D9 x) (some ((0,0),6))
   (o5 (bZ (k,N) sg) λ(x:I7×Bool)=>l7 (D9 x.2) (some ((0,0),8)) (some (x.1,0))):=by rcases hk with rfl|rfl|rfl|rfl<;>rfl
 rw[hr]at h;cases h0:sg.2.2.2.2.2<;>rw[h0]at h
 .exact absurd (show(6:Int)=0 from h) G6
 cases h1:N7 0 N<;>rw[h1]at h
 .exact absurd (show(6:Int)=0 from h) G6
 cases h2:E9 N (o9 sg.2.2.2.2.1)<;>rw[h2]at h
 .exact absurd (show(6:Int)=0 from h) G6
 exact⟨jJ.1 h1,iW.1 h2,rfl⟩
def Zw(sg:J5)(n:Int×Int):Prop:=(x8 n.1 8=true->0<=n.2/\n.2<o9 sg.2.2.2.1)/\(isM n.1=true->0<=n.2/\n.2<o9 sg.2.2.2.2.1/\sg.2.2.2.2.2=true)
theorem a2B(h:isM k=true):k=36\/k=37\/k=38\/k=39:=by
 unfold isM at h;cases h1:N7 36 k<;>rw[h1]at h
 .cases h
 have h2:=jJ.1 h1;have h3:=jJ.1 (show N7 k 39=true from h);omega
theorem b5i{n:Int×Int}(h:Gm sg n [] i= .inr t):Zw sg n:=by
 unfold Gm at h;split at h
 .rename_i h0;obtain⟨k,N⟩:=n;refine⟨λhk=>?_,λhk=>b9k (a2B hk) h0⟩;have hk:k=8:=O9.1 hk;subst hk;exact b9j h0
 .cases h
theorem a0h{n:Int×Int}(h:qY n.1≠0):Zw sg n:=by
 refine⟨λhk=>absurd ?_ h,λhk=>absurd ?_ h⟩
 .rw[O9.1 hk];rfl
 .rcases a2B hk with e|e|e|e<;>rw[e]<;>rfl
theorem OD{sg:J5} :∀(t:XT) (o:Nat) {r:Int×Int},t.wf->iw sg t o= .inr r->∀n∈t.post,Zw sg n
 | .l0 n,o,r,hw,h,x,hx=>by unfold XT.post at hx;rw[G5.1 hx];unfold iw at h;exact b5i h| .l1 n a,o,r,hw,h,x,hx=>by
  unfold XT.wf at hw;unfold XT.post at hx;unfold iw at h;cases ha:iw sg a o with
  |inl e=>rw[ha]at h;cases h|inr ta=>
   rcases D6.1 hx with hx|hx
   .exact OD a o hw.2 ha x hx
   .rw[G5.1 hx];exact a0h (by rw[hw.1];decide)
 | .l2 n a b,o,r,hw,h,x,hx=>by
  unfold XT.wf at hw;unfold XT.post at hx;unfold iw at h;cases ha:iw sg a o with
  |inl e=>rw[ha]at h;cases h|inr ta=>
   rw[ha]at h;simp only at h;cases hb:iw sg b (o+a.size)with
   |inl e=>rw[hb]at h;cases h|inr tb=>
    rcases D6.1 hx with hx|hx
    .rcases D6.1 hx with hx|hx
     .exact OD a o hw.2.1 ha x hx
     .exact OD b _ hw.2.2 hb x hx
    .rw[G5.1 hx];exact a0h (by rw[hw.1];decide)
 | .l3 n a b c,o,r,hw,h,x,hx=>by
  unfold XT.wf at hw;unfold XT.post at hx;unfold iw at h;cases ha:iw sg a o with
  |inl e=>rw[ha]at h;cases h|inr ta=>
   rw[ha]at h;simp only at h;cases hb:iw sg b (o+a.size)with
   |inl e=>rw[hb]at h;cases h|inr tb=>
    rw[hb]at h;simp only at h;cases hc:iw sg c (o+a.size+b.size)with
    |inl e=>rw[hc]at h;cases h|inr tc=>
     rcases D6.1 hx with hx|hx
     .rcases D6.1 hx with hx|hx
      .rcases D6.1 hx with hx|hx
       .exact OD a o hw.2.1 ha x hx
       .exact OD b _ hw.2.2.1 hb x hx
      .exact OD c _ hw.2.2.2 hc x hx
     .rw[G5.1 hx];exact a0h (by rw[hw.1];decide)
variable {ops:c9k}
theorem NG{n:Int×Int}{x:Int×Int}(h:Gm sg n ops i= .inl x):x.2≠0:=by
 unfold Gm at h;split at h
 .cases h
 .rename_i h0;cases h;exact h0
theorem Dk{sg:J5} :∀(t:XT) (o:Nat) {x:Int×Int},iw sg t o= .inl x->x.2≠0
 | .l0 n,o,x,h=>NG h| .l1 n a,o,x,h=>by
  unfold iw at h;cases ha:iw sg a o with
  |inl e=>rw[ha]at h;cases h;exact Dk a o ha|inr ta=>rw[ha]at h;exact NG h
 | .l2 n a b,o,x,h=>by
  unfold iw at h;cases ha:iw sg a o with
  |inl e=>rw[ha]at h;cases h;exact Dk a o ha|inr ta=>
   rw[ha]at h;simp only at h;cases hb:iw sg b (o+a.size)with
   |inl e=>rw[hb]at h;cases h;exact Dk b _ hb|inr tb=>rw[hb]at h;exact NG h
 | .l3 n a b c,o,x,h=>by
  unfold iw at h;cases ha:iw sg a o with
  |inl e=>rw[ha]at h;cases h;exact Dk a o ha|inr ta=>
   rw[ha]at h;simp only at h;cases hb:iw sg b (o+a.size)with
   |inl e=>rw[hb]at h;cases h;exact Dk b _ hb|inr tb=>
    rw[hb]at h;simp only at h;cases hc:iw sg c (o+a.size+b.size)with
    |inl e=>rw[hc]at h;cases h;exact Dk c _ hc|inr tc=>rw[hc]at h;exact NG h
theorem a3j(h:(oC e sg).2.2=0):∀n∈e,Zw sg n:=by
 unfold oC at h;cases hs:mZ e with
 |inl x=>rw[hs]at h;exact absurd h (Di hs)|inr t=>
  rw[hs]at h;simp only at h;cases ht:iw sg t 0 with
  |inl x=>rw[ht]at h;exact absurd h (Dk t 0 ht)|inr r=>intro n hn;rw[(Dj hs).1]at hn;exact OD t 0 (MO hs) ht n hn
theorem XK(h:Hu e sg t=0):oC e sg=(t,(oC e sg).2.1,0):=by
 unfold Hu at h;cases h1:x8 (oC e sg).2.2 0<;>rw[h1]at h
 .simp only[o6]at h;rw[J7 h]at h1;cases h1
 cases h2:x8 (oC e sg).1.1 t.1<;>rw[h2]at h
 .exact absurd (show(8:Int)=0 from h) G6
 cases h3:x8 (oC e sg).1.2 t.2<;>rw[h3]at h
 .exact absurd (show(8:Int)=0 from h) G6
 rw[O9]at h1 h2 h3;exact Y0 (Y0 h2 h3) (Y0 rfl h1)
theorem a1o(h:(dK l).1=0)(hs:l.2.2[i]? =some s){k:Nat}(hr:s.2.2.2.2[k]? =some r):MK s (Dn l s) k r=0:=by
 have hp:=(XJ h hs).2;unfold Xa at hp;cases h1:Ib l s with
 |some q=>rw[h1]at hp;exact absurd hp (PP h1)|none=>
  rw[h1]at hp;simp only at hp;cases h2:au s.2.2.2.2.length (MJ l s)with
  |some q=>
   rw[h2]at hp;obtain⟨j,hj,hq⟩:=fV h2;unfold MJ at hq;cases h3:s.2.2.2.2[j]? with
   |none=>rw[h3]at hq;cases hq|some q2=>rw[h3]at hq;exact absurd hp (LH hq)
  |none=>
   have hn:=Af h2 k (V6.1 hr).1;unfold MJ at hn;rw[hr]at hn;simp only at hn;unfold YS at hn;cases he:x8 (MK s (Dn l s) k r) 0<;>rw[he]at hn
   .cases hn
   .exact O9.1 he
theorem a0O{k:Nat}(h:MK s sg k r=0):∃d,F9 s.2.2.2.1 r.2.1=some d/\WE r sg d.2=0:=by
 unfold MK at h;cases g1:Ez r.1<;>rw[g1]at h
 .exact absurd (show(2:Int)=0 from h) G6
 cases g2:(s.2.2.2.2.take k).any λx=>seq x.1 r.1<;>rw[g2]at h
 case true=>exact absurd (show(7:Int)=0 from h) G6
 cases g3:F9 s.2.2.2.1 r.2.1 with
 |none=>rw[g3]at h;exact absurd (show(6:Int)=0 from h) G6|some d=>
  rw[g3]at h;refine⟨d,rfl,?_⟩;simp only[o7,o6]at h;revert h;generalize l7 (x8 r.2.2.1 (-1)) false (l7 (E9 r.2.2.1 0) true (l7 (N7 k r.2.2.1) true (match F9 s.2.2.2.2 r.2.2.1 with|some q=>D9 (x8 q.2.1 r.2.1)|none=>true)))=b1;generalize E9 r.2.2.2.1 0=b2;generalize E9 9 r.2.2.2.1=b3;generalize HY r.2.2.2.2.1=b4;generalize x8 r.2.2.2.2.1.1 r.2.2.2.2.1.2=b5;generalize N7 8 (Lt (s.2.2.2.2.take k) r.2.1)=b6;generalize a1O r.2.2.2.2.2.2.2=b7;intro h;cases b1
  case true=>exact absurd (show(9:Int)=0 from h) G6
  cases b2
  case true=>exact absurd (show(3:Int)=0 from h) G6
  cases b3
  case true=>exact absurd (show(3:Int)=0 from h) G6
  cases b4
  case false=>exact absurd (show(3:Int)=0 from h) G6
  cases b5
  case true=>exact absurd (show(3:Int)=0 from h) G6
  cases b6
  case true=>exact absurd (show(4:Int)=0 from h) G6
  cases b7
  case false=>exact absurd (show(2:Int)=0 from h) G6
  exact h
theorem QJ(h:(dK l).1=0)(hs:l.2.2[i]? =some s)(hr:r∈s.2.2.2.2):
  (r.2.2.2.2.2.1=[]\/Hu r.2.2.2.2.2.1 (Dn l s) (1,0)=0)/\∃d,F9 s.2.2.2.1 r.2.1=some d/\Hu r.2.2.2.2.2.2.1 (Dn l s) d.2=0:=by
 obtain⟨k,hk,e⟩:=X3 hr;obtain⟨d,h1,h2⟩:=a0O (a1o h hs (r:=r) (k:=k) (by rw[dh hk,e]));unfold WE at h2;cases h3:E9 0 (o9 r.2.2.2.2.2.1)<;>rw[h3]at h2
 .refine⟨.inl ?_,d,h1,h2⟩;rw[iU]at h3;exact P5.1 (by simp only[o9]at h3;omega)
 .simp only[o7]at h2;cases h4:x8 (Hu r.2.2.2.2.2.1 (Dn l s) (1,0)) 0<;>rw[h4]at h2
  .simp only[o6]at h2;rw[J7 h2]at h4;cases h4
  .exact⟨.inr (O9.1 h4),d,h1,h2⟩
theorem a7l(l:S9)(s:A8):(Dn l s).2.2.2.1=s.2.2.2.1.map (·.2):=by unfold Dn;split<;>rfl
theorem b1g(h:(Dn l s).2.2.2.2.2=true):(Dn l s).2.2.2.2.1=(Y6 l s).2.2.2.1.map (·.2):=by
 unfold Dn at h ⊢;unfold Y6 F9
 by_cases g:0<=s.2.1
 .rw[if_pos g]at h ⊢;rw[Z9 g];cases hq:l.2.2[s.2.1.toNat]? with
  |none=>rw[hq]at h;cases h|some q=>rfl
 .rw[if_neg g]at h;cases h
theorem Xt(h:(dK l).1=0)(hs:l.2.2[i]? =some s)(hr:r∈s.2.2.2.2)(he:e=r.2.2.2.2.2.1\/e=r.2.2.2.2.2.2.1):
  (∀x∈(pg e).2.1,0<=x/\x<nD s)/\∀x∈(pg e).2.2,0<=x/\x<nD (Y6 l s):=by
 obtain⟨h1,d,h2,h3⟩:=QJ h hs hr;have hn:∀n∈e,Zw (Dn l s) n:=by
  rcases he with rfl|rfl
  .rcases h1 with h1|h1
   .rw[h1];simp
   .exact a3j (by rw[XK h1])
  .exact a3j (by rw[XK h3])
 constructor
 .intro x hx;have hx:=(Bd x _).1 (show x∈Ov (Vf (λo=>x8 o 8) e)from hx);obtain⟨n,hn1,rfl⟩:=aF.1 hx;obtain⟨hn2,hn3⟩:=Y4.1 hn1;have:=(hn n hn2).1 hn3;rw[a7l]at this;simpa[o9,nD]using this
 .intro x hx;have hx:=(Bd x _).1 (show x∈Ov (Vf isM e)from hx);obtain⟨n,hn1,rfl⟩:=aF.1 hx;obtain⟨hn2,hn3⟩:=Y4.1 hn1;have:=(hn n hn2).2 hn3;rw[b1g this.2.2]at this;refine⟨this.1,?_⟩;have h2:=this.2.1;simpa[o9,nD]using h2
theorem WQ(h:(dK l).1=0)(hs:l.2.2[i]? =some s)(d:Int):∀x∈mbS s d,0<=x/\x<nD (Y6 l s):=by
 intro x hx;unfold mbS at hx;cases hq:inD (nD s) d<;>rw[hq]at hx
 .simp at hx
 .obtain⟨r,hr,_,h3⟩:=b0J.1 ((Bd x _).1 hx);rcases D6.1 h3 with h3|h3
  .exact(Xt h hs hr (.inl rfl)).2 x h3
  .exact(Xt h hs hr (.inr rfl)).2 x h3
theorem a5F{e:E4}(h:TF l s c nS nM= .inr e):e.1≠0:=by
 unfold TF at h;cases hm:mS l c (Y6 l s) nM with
 |inr e=>rw[hm]at h;cases h;exact wL _ (λr=>r.1≠0) b4R _ _ _ hm|inl b=>
  rw[hm]at h;simp only at h;cases hs:scS s (wZ l s c b) (-1) nS with
  |inr r=>rw[hs]at h;cases h;exact RS hs|inl x=>rw[hs]at h;cases h
theorem b4p{x:DB×List DB}(h:TF l s c nS nM= .inl x):x.1.1.length=s.2.2.2.1.length/\x.1.2.length=s.2.2.2.1.length:=by
 unfold TF at h;cases hm:mS l c (Y6 l s) nM with
 |inr e=>rw[hm]at h;cases h|inl b=>
  rw[hm]at h;simp only at h;cases hs:scS s (wZ l s c b) (-1) nS with
  |inr r=>rw[hs]at h;cases h|inl y=>rw[hs]at h;cases h;exact RU hs
theorem ZG(h:(Gf l k c true d).1=0)(hs:F9 l.2.2 k=some s):0<=d/\d<nD s:=by
 unfold Gf at h;cases h0:x8 (dK l).1 0<;>rw[h0]at h
 .exact absurd (show(1:Int)=0 from h) G6
 rw[hs]at h;simp only[o7]at h;cases h1:E9 d 0<;>rw[h1]at h
 case true=>exact absurd (show(6:Int)=0 from h) G6
 cases h2:N7 (o9 s.2.2.2.1) d<;>rw[h2]at h
 case true=>exact absurd (show(6:Int)=0 from h) G6
 rw[iU]at h1;rw[BZ]at h2;exact⟨h1,h2⟩
theorem UT{l:List α}(a:α)(h0:0<=d)(h1:d<(l.length:Int)):F9 l d=some (l.getD d.toNat a)/\O8 l (U6 d)=some (l.getD d.toNat a):=by
 have h:d.toNat<l.length:=l9;have e:l[d.toNat]? =some (l.getD d.toNat a):=by rw[vK,dh h];rfl
 exact⟨by unfold F9;rw[if_pos h0];exact e,e⟩
def c4j(d:Int)(r:DB×List DB⊕E4):V3×Int×E4:=match r with
 | .inr e=>((0,0,0),0,e)| .inl x=>(x.1.1.getD d.toNat (0,0,0),x.1.2.getD d.toNat 0,0,0,0,0)
def a3E(l:S9)(s:A8)(c:dI)(d:Int):V3×Int×E4:=
 c4j d (TF l s c (Le s (xE s.2.2.2.1.length) d) (EY (Y6 l s) (xE (Y6 l s).2.2.2.1.length) (mbS s d)))
theorem EL(n:Nat):(xE n).length=n:=by simp[xE]
theorem a8q(hL:SmL l)(hC:SmC c)(hT:∀t∈l.2.1,kR t):
  DD l k c d=some (if(Gf l k c true d).1=0 then(match F9 l.2.2 k with|some s=>a3E l s c d|none=>((0,0,0),0,0,0,0,0))else((0,0,0),0,Gf l k c true d)):=by
 unfold DD;rw[b8v hL k hC,o8];by_cases hA:(Gf l k c true d).1=0
 case neg=>rw[if_neg hA,J6 hA];rfl
 rw[if_pos hA,J7 hA];obtain⟨h,s,hs⟩:=QS hA;obtain⟨h0,h1⟩:=ZG hA hs;have hM:=T_ hL h hs;have hS:=hL.sc s (cO hs).2.2.1;have hn:nD s=((s.2.2.2.1.length:Nat):Int):=rfl;rw[hs];simp only[E5,o6];rw[a6r hL h hs,o8,b1B hS hM (EL _) (EL _) h0 h1 (WQ h (cO hs).2.2.2 d),o8,a3D hS hM hC hT (by rw[MI,EL]) (by rw[TQ,EL]),o8];unfold a3E;cases hq:TF l s c (Le s (xE s.2.2.2.1.length) d) (EY (Y6 l s) (xE (Y6 l s).2.2.2.1.length) (mbS s d))with
 |inr e=>simp only[J6 (a5F hq)];rfl|inl x=>obtain⟨g1,g2⟩:=b4p hq;simp only[J7 (rfl:(0:Int)=0),E5,o6];rw[(UT (0,0,0) h0 l9).1,o8,(UT 0 h0 l9).1];rfl
theorem Yv(hL:SmL l)(hC:SmC c)(hT:∀t∈l.2.1,kR t):
  FP l k c d=some (if(Gf l k c true d).1=0 then(match F9 l.2.2 k with|some s=>a3E l s c d|none=>((0,0,0),0,0,0,0,0))else((0,0,0),0,Gf l k c true d)):=by
 unfold FP;rw[b6c hL k hC,o8];by_cases hA:(Gf l k c true d).1=0
 case neg=>rw[if_neg hA,J6 hA];rfl
 rw[if_pos hA,J7 hA];obtain⟨h,s,hs⟩:=QS hA;obtain⟨h0,h1⟩:=ZG hA hs;have hM:=T_ hL h hs;have hS:=hL.sc s (cO hs).2.2.1;have hn:nD s=((s.2.2.2.1.length:Nat):Int):=rfl;have hcm:=hC.nm;simp only[E5,o6];rw[bV];unfold Jr;rw[hs,o8,Eg s hS false,o8,a0K hS x9 h0 h1,o8,DV h hs,o8,Eg (Y6 l s) hM false,o8,VI h hs hS hM x9 d (WQ h (cO hs).2.2.2 d),o8,p_ h hs hC.nm hM hT (by rw[TQ];simp),o8];dsimp only;unfold a3E TF xE;cases hq:mS l c (Y6 l s) (EY (Y6 l s) (List.replicate (Y6 l s).2.2.2.1.length false) (mbS s d))with
 |inr e=>simp only[J6 (wL _ (λr=>r.1≠0) b4R _ _ _ hq)];rfl|inl b=>
  have hbl:=a3T hq;simp only[J7 (rfl:(0:Int)=0),E5,o6];rw[b9d c b h hs hM,o8,XU hS (Qi hT s c l9) (-1) (by rw[MI];simp),o8];cases hr:scS s (wZ l s c b) (-1) (Le s (List.replicate s.2.2.2.1.length false) d)with
  |inr e=>simp only[J6 (RS hr)];rfl|inl x=>obtain⟨g1,g2⟩:=RU hr;have k1:=UT (l:=x.1) (0,0,0) h0 l9;have k2:=UT (l:=x.2) 0 h0 l9;simp only[J7 (rfl:(0:Int)=0),E5,o6];rw[k1.1,o8,k1.2,o8,k2.1,o8,k2.2];rfl
theorem a5r(s:A8)(env:aK)(m d:Int):((aC s env m d).2.1=0/\aC s env m d=((aC s env m d).1,0,0,0,0))\/((aC s env m d).2.1≠0/\aC s env m d=(0,(aC s env m d).2)):=by
 unfold aC;cases hf:aP (IX s env m d) (dJ s d env.1).1 []with
 |inr e=>
  right;have:=wL (IX s env m d) (λr=>r.1=0/\r.2.1≠0) (λb i r h=>?_) _ _ _ hf
  .exact⟨this.2,Y0 this.1 rfl⟩
  .refine⟨?_,z_ b i r h⟩;unfold IX at h;split at h
   .cases h
   .rename_i q _;cases h1:x8 (o9 q.2.2.2.2.2.1) 0<;>rw[h1]at h
    case true=>cases h
    cases h2:x8 (uH q.2.2.2.2.2.1 env).2 0<;>rw[h2]at h<;>cases h;rfl
 |inl ap=>left;simp only;cases E9 (Hf (dJ s d env.1).2.1 (dJ s d env.1).2.2 ap) 0<;>exact⟨rfl,rfl⟩
structure Sim (P Q:Int->Prop) (a b:aK):Prop where
 e1:a.1=b.1
 e2:a.2.1=b.2.1
 e3:a.2.2.2.2=b.2.2.2.2
 dl:a.2.2.1.length=b.2.2.1.length
 d:∀x,P x->F9 a.2.2.1 x=F9 b.2.2.1 x
 ml:a.2.2.2.1.length=b.2.2.2.1.length
 m:∀x,Q x->a.2.2.2.1.map (λv=>F9 v x)=b.2.2.2.1.map (λv=>F9 v x)
def a5c(P Q:Int->Prop)(n:Int×Int):Prop:=(n.1=8->P n.2)/\(isM n.1=true->Q n.2)
theorem a3S{a:List α}{b:List β}(h:a.length=b.length):o9 a=o9 b:=congrArg (λ(n:Nat)=>(n:Int)) h
variable {Q:Int->Prop}{P:Int->Prop}{a:aK}{b:aK}
theorem b1V{n:Int×Int}(h:Sim P Q a b)(hn:a5c P Q n):xq n a=xq n b:=by
 obtain⟨d,i,D,M,T,B⟩:=a;obtain⟨d',i',D',M',T',B'⟩:=b;obtain⟨e1,e2,e3,dl,hd,ml,hm⟩:=h;cases e1;cases e2;cases e3;have hD:=a3S dl;unfold xq;simp only at hD hd ⊢;rw[hD];cases hk:x8 n.1 8
 .rfl
 .rw[hd _ (hn.1 (O9.1 hk))]
theorem a6d{n:Int×Int}(h:Sim P Q a b)(hn:a5c P Q n):dn n a=dn n b:=by
 obtain⟨d,i,D,M,T,B⟩:=a;obtain⟨d',i',D',M',T',B'⟩:=b;obtain⟨e1,e2,e3,dl,hd,ml,hm⟩:=h;cases e1;cases e2;cases e3;have hM:=a3S ml;unfold dn;simp only at hM hd ⊢;rw[hM];cases hk:x8 n.1 8
 .rfl
 .rw[hd _ (hn.1 (O9.1 hk))]
theorem w_{α γ β ρ:Type}(f:α->γ)(g:β->γ->β⊕ρ):∀(l:List α) (b:β),aP (λb a=>g b (f a)) l b=aP g (l.map f) b
 |[],b=>rfl|a::l,b=>by
  rw[gU];unfold aP;cases g b (f a)with
  |inl b' =>exact w_ f g l b'|inr r=>rfl
def c4g(k:Int)(t:Int×Int)(b:Int×Bool)(o:Option V3):(Int×Bool)⊕(V3×Int):=
 match(match o with|none=>(.inr 6:V3⊕Int)|some x=>l7 (x8 x.1 0) (.inr 6) (l7 (UK x t) (.inl x) (.inr 8)))with
 | .inr c=> .inr ((0,0,0),c)| .inl x=>l7 (plB (t.1,0,IW k b.1 x.2.2 b.2)) (.inl (IW k b.1 x.2.2 b.2,false)) (.inr ((0,0,0),3))
theorem b0I(k N:Int)(t:Int×Int)(ms:List (List V3))(b:Int×Bool):aP (GK k N t) ms b=aP (c4g k t) (ms.map λv=>F9 v N) b:=w_ (λv=>F9 v N) (c4g k t) ms b
theorem a6k{n:Int×Int}(h:Sim P Q a b)(hn:Q n.2)(ha:EvOk a)(hb:EvOk b):pO n a=pO n b:=by
 obtain⟨k,N⟩:=n;have h3:a.2.2.2.2.1=b.2.2.2.2.1:=by rw[h.e3]
 cases hl:F9 a.2.2.2.2.1 N with
 |none=>
  have hl2:F9 b.2.2.2.2.1 N=none:=by rw[←h3];exact hl
  unfold pO;simp only;rw[hl,hl2];rfl
 |some t=>
  have hl2:F9 b.2.2.2.2.1 N=some t:=by rw[←h3];exact hl
  have h0:=(cO hl).1;rw[Kq k N a t hl h0 ha.ms,Kq k N b t hl2 h0 hb.ms];unfold a2J;rw[b0I,b0I,h.m N hn,a3S h.ml]
theorem a9q(h:Sim P Q a b)(n:Int×Int)(x:V3):iZ n x a=iZ n x b:=by obtain⟨d,i,D,M,T,B⟩:=a;obtain⟨d',i',D',M',T',B'⟩:=b;obtain⟨e1,e2,e3,dl,hd,ml,hm⟩:=h;cases e1;cases e2;cases e3;rfl
theorem Wl{n:Int×Int}(h:Sim P Q a b)(hn:a5c P Q n)(ha:EvOk a)(hb:EvOk b)(args:List V3):yC n args a=yC n args b:=by
 unfold yC sF;simp only[b1V h hn,a6d h hn,a9q h];cases h1:N7 36 n.1
 .rfl
 cases h2:N7 n.1 39
 .rfl
 rw[a6k h (hn.2 (by unfold isM;rw[h1];exact h2)) ha hb]
theorem Nj{P Q:Int->Prop}{a b:aK}(h:Sim P Q a b)(ha:EvOk a)(hb:EvOk b):∀(t:XT),(∀n∈t.post,a5c P Q n)->evT a t=evT b t
 | .l0 n,hn=>Wl h (hn n (by simp[XT.post])) ha hb []| .l1 n x,hn=>by unfold evT;rw[Nj h ha hb x (λm hm=>hn m (by simp[XT.post,hm])),Wl h (hn n (by simp[XT.post])) ha hb]| .l2 n x y,hn=>by unfold evT;rw[Nj h ha hb x (λm hm=>hn m (by simp[XT.post,hm])),Nj h ha hb y (λm hm=>hn m (by simp[XT.post,hm])),Wl h (hn n (by simp[XT.post])) ha hb]| .l3 n x y z,hn=>by unfold evT;rw[Nj h ha hb x (λm hm=>hn m (by simp[XT.post,hm])),Nj h ha hb y (λm hm=>hn m (by simp[XT.post,hm])),Nj h ha hb z (λm hm=>hn m (by simp[XT.post,hm]))]
theorem b2Q(h1:∀x∈(pg e).2.1,P x)(h2:∀x∈(pg e).2.2,Q x):∀n∈e,a5c P Q n:=λn hn=>by
 refine⟨λhk=>h1 _ ?_,λhk=>h2 _ ?_⟩
 .exact(Bd _ _).2 (aF.2 ⟨n,Y4.2 ⟨hn,by simp[hk,x8]⟩,rfl⟩)
 .exact(Bd _ _).2 (aF.2 ⟨n,Y4.2 ⟨hn,hk⟩,rfl⟩)
theorem a2k(h:Sim P Q a b)(ha:EvOk a)(hb:EvOk b)(h1:∀x∈(pg e).2.1,P x)(h2:∀x∈(pg e).2.2,Q x):uH e a=uH e b:=by
 unfold uH;cases hs:mZ e with
 |inl x=>rfl|inr t=>simp only;exact Nj h ha hb t (λn hn=>b2Q h1 h2 n (by rw[(Dj hs).1];exact hn))
def a1s(s:A8)(P Q:Int->Prop)(d:Int):Prop:=∀r∈s.2.2.2.2,r.2.1=d->∀e,e=r.2.2.2.2.2.1\/e=r.2.2.2.2.2.2.1->(∀x∈(pg e).2.1,P x)/\∀x∈(pg e).2.2,Q x
theorem RZ{d t i:Int}(h:i∈(dJ s d t).1):∃r,F9 s.2.2.2.2 i=some r/\r∈s.2.2.2.2/\r.2.1=d:=by
 have h:i∈castL (aG s d t):=h;obtain⟨k,hk,rfl⟩:=aF.1 h;obtain⟨h1,h2⟩:=qI hk;obtain⟨r,hr,hm⟩:=ng (l:=s.2.2.2.2) (i:=(k:Int)) l9 (by unfold o9;omega);refine⟨r,hr,hm,?_⟩;unfold onR at h2;rw[F5]at hr;rw[hr]at h2;simp only at h2;cases h3:x8 r.2.1 d<;>rw[h3]at h2
 .cases h2
 .exact O9.1 h3
theorem XY{α β ρ:Type}{G H:β->α->β⊕ρ} :∀(l:List α) (b:β),(∀a∈l,∀b,G b a=H b a)->aP G l b=aP H l b
 |[],b,h=>rfl|a::l,b,h=>by
  unfold aP;rw[h a x9];cases H b a with
  |inl b' =>exact XY l b' (λx hx=>h x (by simp[hx]))|inr r=>rfl
theorem a5t(h:Sim P Q a b)(ha:EvOk a)(hb:EvOk b)(hr:∀i∈(dJ s d b.1).1,∀r,F9 s.2.2.2.2 i=some r->(∀x∈(pg r.2.2.2.2.2.1).2.1,P x)/\∀x∈(pg r.2.2.2.2.2.1).2.2,Q x)(m:Int):aC s a m d=aC s b m d:=by unfold aC;rw[h.e1,XY (G:=IX s a m d) (H:=IX s b m d) (dJ s d b.1).1 [] (λi hi ap=>?_)];obtain⟨r,h1,h2,h3⟩:=RZ hi;obtain⟨p1,p2⟩:=hr i hi r h1;unfold IX;rw[h1];simp only;rw[a2k h ha hb p1 p2]
theorem a7Y(h:Sim P Q a b)(ha:EvOk a)(hb:EvOk b)(hr:a1s s P Q d)(m:Int):aC s a m d=aC s b m d:=
 a5t h ha hb (λi hi r hl=>by obtain⟨q,h1,h2,h3⟩:=RZ hi;rw[h1]at hl;cases hl;exact hr r h2 h3 _ (.inl rfl)) m
theorem a2e(h0:(aC s env m d).2.1=0)(h1:(aC s env m d).1≠-1)(h2:(aC s env m d).1≠-2):(aC s env m d).1∈(dJ s d env.1).1:=by
 unfold aC at h0 h1 h2 ⊢;cases hf:aP (IX s env m d) (dJ s d env.1).1 []with
 |inr e=>rw[hf]at h0;exact absurd h0 (wL (IX s env m d) (λr=>r.2.1≠0) (λb i r h=>z_ b i r h) _ _ _ hf)|inl ap=>
  rw[hf]at h1 h2;simp only at h1 h2 ⊢;have hb:=a4I (dJ s d env.1).2.1 (dJ s d env.1).2.2 ap;have hlo:=b1f (dJ s d env.1).2.1 (dJ s d env.1).2.2 ap;have hl:=(QI s d env.1).2;generalize Hf (dJ s d env.1).2.1 (dJ s d env.1).2.2 ap=q at h1 h2 hb hlo ⊢;by_cases g:q<0
  .rw[V5 g]at h1 h2;simp only[o7]at h1 h2;omega
  rw[N9 (jb.1 g)];have hi:q.toNat<(dJ s d env.1).1.length:=l9;simp only[o6,vK,dh hi,aN];exact N8 hi
theorem d_(h:Sim P Q a b)(ha:EvOk a)(hb:EvOk b)(hr:a1s s P Q d)(m:Int):Ey s a m d=Ey s b m d:=by
 unfold Ey;rw[a7Y h ha hb hr m];cases h0:x8 (aC s b m d).2.1 0
 .simp only[o6]
 cases h1:x8 (aC s b m d).1 (-1)
 case true=>simp only[o7]
 cases h2:x8 (aC s b m d).1 (-2)
 case true=>simp only[o7,o6]
 have hin:=a2e (O9.1 h0) (λe=>by rw[J7 e]at h1;cases h1) (λe=>by rw[J7 e]at h2;cases h2);obtain⟨r,r1,r2,r3⟩:=RZ hin;obtain⟨p1,p2⟩:=hr r r2 r3 _ (.inr rfl);rw[r1];simp only;rw[a2k h ha hb p1 p2]
def a1t(s:A8)(O:c9h):Prop:=O.Nodup/\(∀d∈O,0<=d/\d<nD s)/\∀(pre:c9h) (d:Int) (suf:c9h),O=pre++d::suf->∀x∈O6 s d,x∈pre
theorem a9z{O pre suf:c9h}{d e:Int}(h:O++[e]=pre++d::suf):(suf=[]/\pre=O/\d=e)\/∃suf',suf=suf' ++[e]/\O=pre++d::suf' :=by
 rcases List.eq_nil_or_concat suf with rfl|⟨suf',z,rfl⟩
 .have h:O++[e]=pre++[d]:=h;obtain⟨h1,h2⟩:=List.append_inj' h rfl;cases h2;exact .inl ⟨rfl,h1.symm,rfl⟩
 .rw[List.concat_eq_append,←Y7,←F8]at h;obtain⟨h1,h2⟩:=List.append_inj' h rfl;cases h2;exact .inr ⟨suf',x9,h1⟩
variable {O:c9h}
theorem b3j{d:Nat}(h:a1t s O)(hd:d<s.2.2.2.1.length)(ho:okN s O d=true):a1t s (O++[(d:Int)]):=by
 obtain⟨h1,h2⟩:=a8L.1 ho;refine⟨?_,λx hx=>?_,λpre e suf he x hx=>?_⟩
 .exact O5.2 ⟨h.1,x9,λa ha b hb hab=>by simp at hb;subst hb;exact h1 (hab▸ha)⟩
 .rcases D6.1 hx with hx|hx
  .exact h.2.1 x hx
  .simp at hx;subst hx;unfold nD o9;omega
 .rcases a9z he with⟨_,rfl,rfl⟩|⟨suf',_,e2⟩
  .cases hq:qQ pre x
   .have:x∈UU s pre (d:Int):=Y4.2 ⟨hx,by simp[hq]⟩;rw[h2]at this;cases this
   .exact xZ.1 hq
  .exact h.2.2 pre e suf' e2 x hx
theorem b8a{d x:Int}(hx:x∈O6 s d)(hn:x∉aB s x):(aB s x).length<(aB s d).length:=by
 obtain⟨a1,a2,a3,a4⟩:=xh s d;obtain⟨b1,b2,b3,b4⟩:=xh s x;have hxd:=a2 x hx;rcases VQ b1 a1 (λy hy=>b4 (λz=>z∈aB s d) (a3 x hxd) (λz hz=>a3 z hz) y hy)with h|h
 .rw[←h]at hxd;exact absurd hxd hn
 .exact h
theorem b6j(hac:∀d,0<=d->d<nD s->d∉aB s d)(O:c9h):∀(n:Nat) (d:Int),0<=d->d<nD s->d∉O->(aB s d).length<=n->∃e,0<=e/\e<nD s/\e∉O/\∀x∈O6 s e,x∈O:=by
 intro n;induction n with
 |zero=>intro d h0 h1 h2 hl;refine⟨d,h0,h1,h2,λx hx=>?_⟩;have:=(xh s d).2.1 x hx;rw[P5.1 (Nat.le_zero.1 hl)]at this;cases this|succ n ih=>
  intro d h0 h1 h2 hl;by_cases hq:∀x∈O6 s d,x∈O
  .exact⟨d,h0,h1,h2,hq⟩
  .obtain⟨x,hx⟩:=Classical.not_forall.1 hq;obtain⟨hx,hxO⟩:=Classical.not_imp.1 hx;obtain⟨q0,q1⟩:=yl hx;have:=b8a hx (hac x q0 q1);exact ih x q0 q1 hxO l9
theorem c1E(hl:O.length<s.2.2.2.1.length):∃d:Int,0<=d/\d<nD s/\d∉O:=by
 refine af λhq=>?_;have h1:∀x∈castL (List.range s.2.2.2.1.length),x∈Ov O:=λx hx=>by obtain⟨j,hj,rfl⟩:=aF.1 hx;have:=X6.1 hj;exact(Bd _ _).2 (af λhn=>hq ⟨(j:Int),l9,by unfold nD o9;omega,hn⟩)
 have h2:=JV O;have h3:(castL (List.range s.2.2.2.1.length)).length=s.2.2.2.1.length:=by rw[Ls,gp]
 rcases VQ (ZM rU) (a4K O) h1 with h|h
 .rw[←h]at h2;omega
 .omega
theorem a2Q{s:A8}(hac:∀d,0<=d->d<nD s->d∉aB s d):∀(k:Nat) (O:c9h),a1t s O->O.length<=s.2.2.2.1.length->s.2.2.2.1.length -O.length<=k->∃O',Vr s k O= .inl O' /\a1t s O' /\O'.length=s.2.2.2.1.length
 |0,O,h,hl,hk=>⟨O,rfl,h,l9⟩|k+1,O,h,hl,hk=>by
  unfold Vr;by_cases hq:O.length<s.2.2.2.1.length
  .rw[if_pos hq];cases hn:OQ s O with
   |none=>
    obtain⟨d,d0,d1,d2⟩:=c1E hq;obtain⟨e,e0,e1,e2,e3⟩:=b6j hac O _ d d0 d1 d2 (F7 _);have hlt:e.toNat<s.2.2.2.1.length:=by unfold nD o9 at e1;omega
    have:=Af hn e.toNat hlt;have hok:okN s O e.toNat=true:=a8L.2 (by rw[ai e0];refine⟨e2,mY.2 λx hx=>by simp[xZ.2 (e3 x hx)]⟩)
    unfold Yl at this;rw[hok]at this;cases this
   |some d=>obtain⟨n1,n2⟩:=a0f hn;exact a2Q hac k (O++[(d:Int)]) (b3j h n1 n2) Y2 Y2
  .rw[if_neg hq];exact⟨O,rfl,h,l9⟩
theorem a0l(hs:SmS s)(hac:∀d,0<=d->d<nD s->d∉aB s d):a1t s (mf s).1/\∀d,0<=d->d<nD s->d∈(mf s).1:=by
 have hnd:=hs.nd;obtain⟨O,h1,h2,h3⟩:=a2Q hac 100 [] ⟨x9,x9,λpre d suf h=>by simp at h⟩ x9 Y2;have e:(mf s).1=O:=by unfold mf;rw[h1]
 rw[e];refine⟨h2,λd d0 d1=>?_⟩;refine af λhn=>?_;have:=WX (l:=d::O) (n:=s.2.2.2.1.length) (iG.2 ⟨hn,h2.1⟩) (λx hx=>by
  rcases D5.1 hx with rfl|hx
  .exact⟨d0,d1⟩
  .exact h2.2.1 x hx)
 simp at this;omega
theorem a1n(h:(dK l).1=0)(hs:l.2.2[i]? =some s):∀d,0<=d->d<nD s->d∉aB s d:=by
 intro d d0 d1 hd;have hp:=(XJ h hs).2;unfold Xa at hp;cases h1:Ib l s with
 |some q=>rw[h1]at hp;exact absurd hp (PP h1)|none=>
  rw[h1]at hp;simp only at hp;cases h2:au s.2.2.2.2.length (MJ l s)with
  |some q=>
   rw[h2]at hp;obtain⟨j,hj,hq⟩:=fV h2;unfold MJ at hq;cases h3:s.2.2.2.2[j]? with
   |none=>rw[h3]at hq;cases hq|some q2=>rw[h3]at hq;exact absurd hp (LH hq)
  |none=>
   rw[h2]at hp;simp only at hp;have key:YQ s d.toNat=some (9,((200+d.toNat:Nat):Int)):=by unfold YQ;rw[show((aB s d.toNat).any λx=>x8 (d.toNat:Int) x)=true from ?_];rfl;rw[ai d0];exact jH.2 ⟨d,hd,J7 rfl⟩
   cases h3:au s.2.2.2.1.length (YQ s)with
   |none=>have:=Af h3 d.toNat (by unfold nD o9 at d1;omega);rw[key]at this;cases this|some q=>
    rw[h3]at hp;obtain⟨j,hj,hq⟩:=fV h3;unfold YQ at hq;cases h4:(aB s (j:Int)).any λx=>x8 (j:Int) x<;>rw[h4]at hq
    .cases hq
    .cases hq;exact absurd (show(9:Int)=0 from hp) G6
theorem b4W(h:(dK l).1=0)(hs:F9 l.2.2 k=some s):∀d,0<=d->d<nD (Y6 l s)->d∉aB (Y6 l s) d:=by
 rcases vk h hs with⟨_,_,g⟩|⟨_,_,_,g,_⟩
 .rw[g];intro d d0 d1;exact absurd d1 (by show ¬d<(0:Int);omega)
 .exact a1n h (cO g).2.2.2
theorem a2n{α β ρ:Type}(G:β->α->β⊕ρ):∀(l m:List α) (b:β),aP G (l++m) b=match aP G l b with| .inl b' =>aP G m b'| .inr r=> .inr r
 |[],m,b=>rfl|a::l,m,b=>by
  rw[Y7];simp only[aP];cases G b a with
  |inl b' =>exact a2n G l m b'|inr r=>rfl
theorem IZ{l:List α}{d x:Int}(v:α)(h0:0<=d)(h:x≠d):F9 (l.set d.toNat v) x=F9 l x:=by
 unfold F9
 split
 .rw[List.getElem?_set_ne l9]
 .rfl
theorem TM{l:List α}(v:α)(h0:0<=d)(h:d<o9 l):F9 (l.set d.toNat v) d=some v:=by
 unfold F9
 rw[if_pos h0,rP (by unfold o9 at h;omega)]
theorem a0U{s:A8}{env:aK}{m:Int}{need:c9s}{x:Int} :∀(L:c9h) {B X:DB},(∀d∈L,0<=d)->x∉L->aP (scG s env m need) L B= .inl X->F9 X.1 x=F9 B.1 x/\F9 X.2 x=F9 B.2 x
 |[],B,X,_,_,h=>by cases h;exact⟨rfl,rfl⟩|d::L,B,X,hL,hx,h=>by
  unfold aP at h;cases hg:scG s env m need B d with
  |inr e=>rw[hg]at h;cases h|inl B' =>
   rw[hg]at h;obtain⟨k1,k2⟩:=a0U L (λy hy=>hL y (by simp[hy])) (λhm:x∈L=>hx (X5 _ hm)) h;have hd:x≠d:=λe=>hx (by simp[e]);unfold scG at hg;cases h1:(F9 need d).getD false<;>rw[h1]at hg
   .cases hg;exact⟨k1,k2⟩
   simp only[o7]at hg;cases h2:Ey s (AP env B.1) m d with
   |inr e=>rw[h2]at hg;cases hg|inl v=>rw[h2]at hg;cases hg;rw[k1,k2,IZ _ (hL d x9) hd,IZ _ (hL d x9) hd];exact⟨rfl,rfl⟩
theorem b9x{n:Nat}(L:c9h){B X:DB}(hB:B.1.length=n/\B.2.length=n)(h:aP (scG s env m need) L B= .inl X):X.1.length=n/\X.2.length=n:=by
 refine WH (scG s env m need) (λx=>x.1.length=n/\x.2.length=n) (λb d b' hb hg=>?_) _ _ _ hB h;unfold scG at hg;cases h1:(F9 need d).getD false<;>rw[h1]at hg
 .cases hg;exact hb
 simp only[o7]at hg;cases hd:Ey s (AP env b.1) m d with
 |inr e=>rw[hd]at hg;cases hg|inl v=>rw[hd]at hg;cases hg;simp[hb]
theorem TB(h:(dK l).1=0)(hs:l.2.2[i]? =some s)(d:Int):a1s s (λx=>x∈O6 s d) (λx=>0<=x/\x<nD (Y6 l s)) d:=by
 intro r hr hd e he;obtain⟨p1,p2⟩:=Xt h hs hr he;refine⟨λx hx=>?_,p2⟩;obtain⟨q,hq,_⟩:=(QJ h hs hr).2;obtain⟨q0,q1,_⟩:=cO hq;have hin:inD (nD s) d=true:=by rw[←hd];unfold inD;rw[Z9 q0];exact V5 q1
 unfold O6;rw[hin];refine(Bd _ _).2 (b4X.2 ⟨r,hr,hd,?_⟩);obtain⟨x0,x1⟩:=p1 x hx;have hxi:inD (nD s) x=true:=by unfold inD;rw[Z9 x0];exact V5 x1
 unfold Gq;rcases he with rfl|rfl
 .exact D6.2 (.inl (Y4.2 ⟨hx,hxi⟩))
 .exact D6.2 (.inr (Y4.2 ⟨hx,hxi⟩))
theorem b2g(l:S9)(s:A8)(h:(Y6 l s).2.1=-1):Y6 l (Y6 l s)=BI:=by unfold Y6 at h ⊢;rw[h];rfl
theorem XQ(h:(dK l).1=0)(hs:F9 l.2.2 k=some s)(d:Int):a1s (Y6 l s) (λx=>x∈O6 (Y6 l s) d) (λx=>False) d:=by
 rcases vk h hs with⟨_,_,g⟩|⟨g1,g2,g3,g,_⟩
 .rw[g];intro r hr;cases hr
 .intro r hr hd e he;have h2:=TB h (cO g).2.2.2 d r hr hd e he;refine⟨h2.1,λx hx=>?_⟩;have hm:=a3k h (cO hs).2.2.2;unfold GI at hm;have hne:x8 s.2.1 (-1)=false:=J6 (by rw[jJ]at g1;omega);rw[hne,g2,g]at hm;simp only[o6]at hm;have hm1:(Y6 l s).2.1=-1:=by
   cases hq:N7 (((k.toNat:Nat)):Int) s.2.1<;>rw[hq]at hm
   case true=>cases hm
   cases hq2:x8 (Y6 l s).2.1 (-1)<;>rw[hq2]at hm
   .cases hm
   .exact O9.1 hq2
  have:=h2.2 x hx;rw[b2g l s hm1]at this;exact absurd this.2 (by show ¬x<(0:Int);omega)
theorem a8u{X:DB}(hE:EvOk env)(ht:a1t s (mf s).1)(hX:scS s env m need= .inl X)(hd:d∈(mf s).1)(hn:(F9 need d).getD false=true)(hr:a1s s (λx=>x∈O6 s d) Q d):
  ∃v r,F9 X.1 d=some v/\F9 X.2 d=some r/\Ey s (AP env X.1) m d= .inl (v,r):=by
 obtain⟨pre,suf,he⟩:=List.append_of_mem hd;have hlen:=RU hX;unfold scS at hX;rw[he,a2n]at hX;cases hB:aP (scG s env m need) pre (List.replicate s.2.2.2.1.length (0,0,0),List.replicate s.2.2.2.1.length 0)with
 |inr r=>rw[hB]at hX;cases hX|inl B=>
  rw[hB]at hX;simp only at hX;have hBl:=b9x (n:=s.2.2.2.1.length) pre x9 hB;unfold aP at hX;cases hg:scG s env m need B d with
  |inr r=>rw[hg]at hX;cases hX|inl B' =>
   rw[hg]at hX;simp only at hX;obtain⟨d0,d1⟩:=ht.2.1 d hd;have hnd:=ht.1;rw[he]at hnd;obtain⟨n1,n2,n3⟩:=O5.1 hnd;obtain⟨n4,n5⟩:=iG.1 n2;have hpos:∀y∈suf,0<=y:=λy hy=>(ht.2.1 y (by rw[he];simp[hy])).1;unfold scG at hg;rw[hn]at hg;simp only[o7]at hg;cases hv:Ey s (AP env B.1) m d with
   |inr e=>rw[hv]at hg;cases hg
   |inl v=>rw[hv]at hg;cases hg;obtain⟨k1,k2⟩:=a0U (x:=d) suf hpos n4 hX;rw[TM _ d0 (by unfold nD at d1;unfold o9 at d1 ⊢;omega)]at k1 k2;refine⟨v.1,v.2,k1,k2,?_⟩;rw[←hv];refine d_ (a:=AP env X.1) (b:=AP env B.1) (P:=λx=>x∈O6 s d) (Q:=Q) ⟨rfl,rfl,rfl,by show X.1.length=B.1.length;omega,λx hx=>?_,rfl,λ_ _=>rfl⟩ (FD hE _) (FD hE _) hr m;have hxp:=ht.2.2 pre d suf he x hx;have hxs:x∉suf:=λhy=>n3 x hxp x (by simp[hy]) rfl;have hxd:x≠d:=λhy=>n3 x hxp d x9 hy;have:=(a0U (x:=x) suf hpos hxs hX).1;rw[IZ _ d0 hxd]at this;exact this
structure SimE (Q:Int->Prop) (a b:aK):Prop where
 e1:a.1=b.1
 e2:a.2.1=b.2.1
 e3:a.2.2.2.2=b.2.2.2.2
 ml:a.2.2.2.1.length=b.2.2.2.1.length
 m:∀x,Q x->a.2.2.2.1.map (λv=>F9 v x)=b.2.2.2.1.map (λv=>F9 v x)
theorem SimE.at(h:SimE Q a b){D D' :List V3}(hl:D.length=D'.length)(hd:∀x,P x->F9 D x=F9 D' x):Sim P Q (AP a D) (AP b D'):=⟨h.e1,h.e2,h.e3,hl,hd,h.ml,h.m⟩
abbrev ND(w:c9s)(x:Int):Prop:=(F9 w x).getD false=true
theorem c0d(w:c9s)(x:Int):ND w x↔mk w x=true:=by
 unfold ND mk F9
 split
 .rw[vK]
 .simp
theorem b4Z(hw:w.length=s.2.2.2.1.length)(h0:0<=d)(h1:d<nD s)(x:Int):mk (Le s w d) x=true↔mk w x=true\/x=d\/x∈aB s d:=by
 unfold Le;rw[a3X _ _ (λy hy=>by have:=zZ hy;unfold nD at this;simp only[o9,mP]at this ⊢;omega),a0a h0 (by unfold nD at h1;unfold o9 at h1 ⊢;omega)];cases hq:x8 x d
 .have:x≠d:=λe=>by rw[J7 e]at hq;cases hq
  simp[this]
 .rw[O9]at hq;simp[hq]
theorem b4Y{m:A8} :∀(L:c9h) {w:c9s},w.length=m.2.2.2.1.length->(∀x∈L,0<=x/\x<nD m)->∀x,mk (EY m w L) x=true↔mk w x=true\/∃z∈L,x=z\/x∈aB m z
 |[],w,hw,h,x=>by simp[EY]|z::L,w,hw,h,x=>by
  obtain⟨z0,z1⟩:=h z x9;rw[show EY m w (z::L)=EY m (Le m w z) L from rfl,b4Y L ((MI m w z).trans hw) (λy hy=>h y (by simp[hy])) x,b4Z hw z0 z1];constructor
  .rintro((h1|h1)|⟨y,hy,h1⟩)
   .exact .inl h1
   .exact .inr ⟨z,x9,h1⟩
   .exact .inr ⟨y,by simp[hy],h1⟩
  .rintro(h1|⟨y,hy,h1⟩)
   .exact .inl (.inl h1)
   .rcases D5.1 hy with rfl|hy
    .exact .inl (.inr h1)
    .exact .inr ⟨y,hy,h1⟩
theorem b4g{r:Int}(h:Ey s env m d= .inl (v,r)):aC s env m d=(r,0,0,0,0)/\r∈(dJ s d env.1).1/\∃q,F9 s.2.2.2.2 r=some q/\uH q.2.2.2.2.2.2.1 env=(v,0):=by
 unfold Ey at h;cases h0:x8 (aC s env m d).2.1 0<;>rw[h0]at h
 .cases h
 cases h1:x8 (aC s env m d).1 (-1)<;>rw[h1]at h
 case true=>cases h
 cases h2:x8 (aC s env m d).1 (-2)<;>rw[h2]at h
 case true=>cases h
 simp only[o7,o6]at h;cases hl:F9 s.2.2.2.2 (aC s env m d).1 with
 |none=>rw[hl]at h;cases h|some q=>
  rw[hl]at h;simp only at h;cases h4:x8 (uH q.2.2.2.2.2.2.1 env).2 0<;>rw[h4]at h
  .cases h
  cases h;have hin:=a2e (O9.1 h0) (λe=>by rw[J7 e]at h1;cases h1) (λe=>by rw[J7 e]at h2;cases h2);refine⟨?_,hin,q,hl,Y0 rfl (O9.1 h4)⟩;rcases a5r s env m d with⟨g1,g2⟩|⟨g1,g2⟩
  .exact g2
  .exact absurd (O9.1 h0) g1
def PVV(en:List dB)(t:Int×Int)(v:V3):Prop:=v.1=t.1/\v.2.1=t.2/\plB v=true/\(v.1=6->inB v.2.2 (bnd t en)=true)
def MKq(en:List dB)(t:Int×Int)(o:Option (V3×Int)):Prop:=∀v,o=some (v,0)->PVV en t v
section
variable {en:List dB} {t:Int×Int}
theorem GL{z:V3}{c:Int}(h:c≠0):MKq en t (some (z,c)):=λv e=>by cases e;exact absurd rfl h
theorem NE(hk:k≠6):MKq en (k,0) (some (Ih (k,0,n))):=λv e=>by
 unfold Ih at e;cases h:plB (k,0,n)<;>rw[h]at e
 .cases e
 .cases e;exact⟨rfl,rfl,h,λq=>absurd q hk⟩
theorem Va(hk:k≠6):MKq en (k,0) (cu k n):=by rw[Ro];exact NE hk
theorem b0N{k n c:Int}(hk:k≠6):MKq en (k,0) (tX k n c):=by
 rw[a4V];unfold VY;cases h:x8 c 0
 .exact GL (λq=>by rw[J7 q]at h;cases h)
 .exact NE hk
theorem a0b{k n c:Int}(hk:k≠6):MKq en (k,0) (some (VY (k,0,n) c)):=by rw[←a4V];exact b0N hk
theorem a3Y(b:Bool):MKq en (1,0) (some (c3M b)):=by rw[←a7E];exact NE G6
theorem UZ{o:Option α}{f:α->Option (V3×Int)}(h:∀x,o=some x->MKq en t (f x)):MKq en t (o5 o f):=by
 cases o with
 |none=>intro v e;cases e|some x=>exact h x rfl
theorem a2K{o:Option (V3×Int)}(h:MKq en t o):MKq en t (o5 o λx=>some x):=by rw[bV];exact h
theorem b5a(h:PVV en t v):MKq en t (some (v,0)):=λw e=>by cases e;exact h
theorem a3W{b:Bool}{x y:Option (V3×Int)}(h1:b=true->MKq en t x)(h2:b=false->MKq en t y):MKq en t (l7 b x y):=by
 cases b
 .exact h2 rfl
 .exact h1 rfl
theorem Z_{a b c:Int}(hk:a≠6):MKq en (a,0) (vS a b c):=by
 unfold vS
 repeat' first
  |exact GL G6
  |exact Va hk
  |exact a2K (Va hk)
  |(apply UZ;intro x hx)
  |(apply a3W<;>intro hx)
end
theorem a7O{args:List V3}(hE:EvOk env)(hN:jl N)(hk:k≠23/\k≠24/\k≠26)(ha:qY k=o9 args)(hl:args.length<=3)(h:yC (k,N) args env=(v,0)):RP (k,N) args env=some (v,0)/\args.all plB=true/\xq (k,N) env=some true:=by
 unfold yC sF at h;rw[a2r ha]at h;simp only[o8]at h;cases hf:a5N k N<;>rw[hf]at h
 .exact absurd (congrArg Prod.snd h) (by show(2:Int)≠0;decide)
 simp only[E5,o6]at h;obtain⟨b,hb⟩:=XW (k,N) env;rw[show xq (k,N) env=some b from hb]at h ⊢;cases b
 .exact absurd (congrArg Prod.snd h) (by show(6:Int)≠0;decide)
 simp only[o8,E5,o6]at h;rw[a2W args l9]at h;cases hp:args.all plB<;>rw[hp]at h
 .exact absurd (congrArg Prod.snd h) (by show(8:Int)≠0;decide)
 obtain⟨r,hr,_⟩:=b3G k N args env hE (by unfold jl at hN;omega) hk ha hf hb hp;have h:(RP (k,N) args env).getD ((0,0,0),0)=(v,0):=h;rw[hr]at h;exact⟨by rw[hr];exact congrArg some h,rfl,rfl⟩
variable {ty:Int×Int}
theorem b1c(hk:fF k=some false)(h:Iq (k,N) ops sg=(ty,0)):N=0/\(RR (k,0) ops sg).getD ((0,0),0)=(ty,0):=by
 unfold Iq at h;rw[b3A]at h;cases hz:x8 N 0
 .rw[show D9 (x8 (k,N).2 0)=true by rw[show(k,N).2=N from rfl,hz];rfl,show fF (k,N).1=some false from hk]at h;exact absurd (congrArg Prod.snd h) (by show(2:Int)≠0;decide)
 .rw[O9]at hz;subst hz;exact⟨rfl,h⟩
variable {en:List dB}
theorem a6H(h:PVV en t v):v=(t.1,t.2,v.2.2):=Y0 h.1 (Y0 h.2.1 rfl)
theorem lp2(a b:Int×Int):o9 [a,b]=2:=rfl
theorem lq0(a:Int×Int)(l:c9k):F9 (a::l) 0=some a:=rfl
theorem lq1(a b:Int×Int)(l:c9k):F9 (a::b::l) 1=some b:=rfl
theorem b8w(b:Bool):V9 true b=b:=rfl
theorem b8e{a b ty:Int×Int}{x y v:V3}(hk:k=11\/k=12\/k=13\/k=17\/k=18\/k=19\/k=20\/k=21\/k=22\/k=27\/k=28\/k=29\/k=30)(ha:VT a)(hb:VT b)(hx:PVV sg.1 a x)(hy:PVV sg.1 b y)(ht:Iq (k,N) [a,b] sg=(ty,0))(h:RP (k,N) [x,y] env=some (v,0)):PVV sg.1 ty v:=by
 have hm:fF k=some false:=by rcases hk with rfl|rfl|rfl|rfl|rfl|rfl|rfl|rfl|rfl|rfl|rfl|rfl|rfl<;>rfl
 obtain⟨hN,ht2⟩:=b1c hm ht;clear ht;subst hN;have hx' :=a6H hx;have hy' :=a6H hy;generalize x.2.2=n at hx';generalize y.2.2=m at hy';have h:fG (k,0) x y=some (v,0):=by have e:RP (k,0) [x,y] env=o5 (fG (k,0) x y) λx=>some x:=rfl;rw[e,bV]at h;exact h
 subst hx' hy';rcases hk with rfl|rfl|rfl|rfl|rfl|rfl|rfl|rfl|rfl|rfl|rfl|rfl|rfl<;>rcases ha with rfl|rfl|rfl|rfl|rfl|⟨e,rfl⟩<;>rcases hb with rfl|rfl|rfl|rfl|rfl|⟨f,rfl⟩ <;>
  first
  |exact absurd (congrArg Prod.snd ht2) (by show(8:Int)≠0;decide)
  |(
    have e:=congrArg Prod.fst ht2;subst e
    first
    |refine(?_:MKq sg.1 (1,0) _) v h
    |refine(?_:MKq sg.1 (2,0) _) v h
    |refine(?_:MKq sg.1 (3,0) _) v h
    |refine(?_:MKq sg.1 (4,0) _) v h
    |refine(?_:MKq sg.1 (5,0) _) v h
    unfold fG qo xM zF Aq;simp (disch:=decide) only[bK]
    repeat' first
     |exact NE G6
     |exact a0b G6
     |exact a3Y _
     |exact b5a hx
     |exact b5a hy
     |exact GL G6
     |exact a2K (Z_ G6)
     |exact Z_ G6
     |refine a2K ?_
     |rw[BM]
     |(apply UZ;intro z hz)
     |(apply a3W<;>intro hz)
     |simp (disch:=decide) only[bK])
  |(
    cases hq:x8 e f<;>unfold RR uV rW qm xK sD jI at ht2 <;>
    simp (disch:=decide) only[J7,J6,o7,o6,o8,L6,uh,E5,aV,lp2,lq0,lq1,b8w,hq,aN]at ht2 <;>
    first
    |exact absurd (congrArg Prod.snd ht2) (by show(8:Int)≠0;decide)
    |(
      have e:=congrArg Prod.fst ht2;subst e;refine(?_:MKq sg.1 (1,0) _) v h;unfold fG qo;simp (disch:=decide) only[bK];simp only[hq,o7,o6,E5,o8,L6,uh];exact a3Y _))
def PVW(en:List dB)(t:Int×Int)(v:V3):Prop:=v.1=t.1/\v.2.1=t.2/\(v.1=6->inB v.2.2 (bnd t en)=true)
theorem PVW.pl(h:PVW en t v)(hp:plB v=true):PVV en t v:=⟨h.1,h.2.1,hp,h.2.2⟩
structure TOk (sg:J5) (env:aK):Prop where
 inp:∀i t v,F9 sg.2.2.1 i=some t->F9 env.2.1 i=some v->PVW sg.1 t v
 dfs:∀i t v,F9 sg.2.2.2.1 i=some t->F9 env.2.2.1 i=some v->v.1≠0->PVW sg.1 t v
 mty:∀i t u,F9 sg.2.2.2.2.1 i=some t->F9 env.2.2.2.2.1 i=some u->u=t
 tbs:env.2.2.2.2.2=sg.2.1
 row:∀t∈sg.2.1,∀r∈t.2.2.2,inB r.2.2.2 (bnd t.2.2.1 sg.1)=true
theorem a9d(hN:jl N)(hv:∀t∈ops,VT t)(hl:o9 ops=qY k)(h:Iq (k,N) ops sg=(ty,0)):RR (k,N) ops sg=some (ty,0)/\VT ty:=by
 obtain⟨r,h1,h2,h3⟩:=Zi sg (k,N) hN ops hv hl;have e:r=(ty,0):=by unfold Iq at h;rw[h1]at h;exact h
 subst e;refine⟨?_,h3 rfl⟩;rw[b3A]at h1;cases hz:D9 (x8 (k,N).2 0)<;>rw[hz]at h1
 .exact h1
 .cases hm:fF (k,N).1 with
  |none=>rw[hm]at h1;cases h1|some b=>
   rw[hm]at h1;cases b
   .cases h1
   .exact h1
theorem a5d(h:RR (k,N) ops sg=some (ty,0)):qm (k,N) sg=some true/\(ops=[]->bZ (k,N) sg=some (ty,true))/\∀a,ops=[a]->lU (k,N) a sg=some (ty,true):=by
 unfold RR at h;cases h1:rW (k,N) sg with
 |none=>rw[h1]at h;cases h|some b=>
  rw[h1]at h;cases b
  .cases h
  cases h2:qm (k,N) sg with
  |none=>rw[h2]at h;cases h|some b=>
   rw[h2]at h;cases b
   .cases h
   refine⟨rfl,λe=>?_,λa e=>?_⟩
   .subst e;cases h3:bZ (k,N) sg with
    |none=>rw[h3]at h;cases h|some x=>rw[h3]at h;obtain⟨x,b⟩:=x;cases b<;>cases h;rfl
   .subst e;simp (disch:=decide) only[o8,E5,o6,o7,show o9 [a]=1 from rfl,J7,J6,lq0]at h;cases h3:lU (k,N) a sg with
    |none=>rw[h3]at h;cases h|some x=>rw[h3]at h;obtain⟨x,b⟩:=x;cases b<;>cases h;rfl
theorem b0B{l:List α}{i:Int}{b:Bool} (h:(l7 (N7 0 i) (some (E9 i (o9 l))) (some false))=some true):∃x,F9 l i=some x/\0<=i:=by
 cases h1:N7 0 i<;>rw[h1]at h
 .cases h
 .obtain⟨x,hx,_⟩:=ng (l:=l) (jJ.1 h1) (iW.1 (I8 h));exact⟨x,hx,jJ.1 h1⟩
theorem c1s(hk:k=36\/k=37\/k=38\/k=39)(h:Pi k t=true):t.2=0/\t.1≠6:=by
 unfold Pi at h;cases h1:x8 t.2 0<;>rw[h1]at h
 .cases h
 refine⟨O9.1 h1,λe=>?_⟩;rw[e]at h;rcases hk with rfl|rfl|rfl|rfl<;>exact absurd h G6
theorem b8f(hk:k=36\/k=37\/k=38\/k=39)(hE:EvOk env)(hS:TOk sg env)(hf:xq (k,N) env=some true)(hg:qm (k,N) sg=some true)(hl:bZ (k,N) sg=some (ty,true)):MKq sg.1 ty (pO (k,N) env):=by
 have hf:(l7 (N7 0 N) (some (E9 N (o9 env.2.2.2.2.1))) (some false))=some true:=by rcases hk with rfl|rfl|rfl|rfl<;>exact hf
 obtain⟨u,hu,h0⟩:=b0B (b:=true) hf;have hg2:(l7 sg.2.2.2.2.2 (l7 (N7 0 N) (some (E9 N (o9 sg.2.2.2.2.1))) (some false)) (some false))=some true:=by rcases hk with rfl|rfl|rfl|rfl<;>exact hg
 cases hb:sg.2.2.2.2.2<;>rw[hb]at hg2
 .cases hg2
 obtain⟨t,ht,_⟩:=b0B (b:=true) hg2;have e:=hS.mty N t u ht hu;subst e;rw[Kq k N env u hu h0 hE.ms];have hty:ty=u:=by
  unfold bZ at hl;rcases hk with rfl|rfl|rfl|rfl <;>
   (simp (disch:=decide) only[J7,J6,o7,o6,o8,ht,dA,sD,xK]at hl
    revert hl;cases vty u sg.1<;>intro hl<;>first|exact(congrArg Prod.fst (I8 hl)).symm|(revert hl;cases x8 u.1 2<;>cases x8 u.1 3<;>cases x8 u.1 4<;>intro hl<;>exact(congrArg Prod.fst (I8 hl)).symm))
 subst hty;unfold a2J;cases hm:Pi k ty
 .exact GL G6
 obtain⟨m1,m2⟩:=c1s hk hm;have hty2:ty=(ty.1,0):=Y0 rfl m1;simp only[o7];rw[hty2];simp only;cases hq:aP (GK k N (ty.1,0)) env.2.2.2.1 (l7 (x8 k 37) 1 0,true)with
 |inr c=>
  refine λv e=>absurd (congrArg Prod.snd (I8 e)) (wL (GK k N (ty.1,0)) (λ(r:V3×Int)=>r.2≠0) (λb m r h=>?_) _ _ _ hq);unfold GK at h;cases h1:V_ m N (ty.1,0)with
  |inr c=>
   rw[h1]at h;cases h;unfold V_ at h1;cases h2:F9 m N with
   |none=>rw[h2]at h1;cases h1;show(6:Int)≠0;decide|some x=>
    rw[h2]at h1;simp only at h1;cases h3:x8 x.1 0<;>rw[h3]at h1
    .cases h4:UK x (ty.1,0)<;>rw[h4]at h1<;>cases h1;show(8:Int)≠0;decide
    .cases h1;show(6:Int)≠0;decide
  |inl x=>rw[h1]at h;simp only at h;cases h2:plB ((ty.1,0).1,0,IW k b.1 x.2.2 b.2)<;>rw[h2]at h<;>cases h;show(3:Int)≠0;decide
 |inl a=>
  simp only;cases x8 k 39
  .exact NE m2
  .cases x8 (o9 env.2.2.2.1) 0
   .exact NE m2
   .exact GL G6
theorem Ut{k c:Int}(hc:0<=c)(h:qY k=c):1<=k/\k<=39:=by
 refine af λhn=>?_;have:qY k=-1:=by unfold qY;rw[a4s hn];rfl
 omega
theorem b3T{x:dB}(hv:vty (6,q) en=true)(hx:F9 en q=some x):bnd (6,q) en=(0,J3 .i64 (o9 x.2) 1):=by unfold bnd pM;rw[dA,o8,hv];simp (disch:=decide) only[J6,E5,o6,hx,o8,aN]
theorem b4J(hk:k=1\/k=2\/k=3\/k=4\/k=5)(h:bZ (k,N) sg=some (ty,true)):ty=(k,0):=by
 have e:bZ (k,N) sg=some ((k,0),vty (k,0) sg.1):=by unfold bZ;simp only[dA];rcases hk with rfl|rfl|rfl|rfl|rfl<;>rfl
 rw[e]at h;exact(congrArg Prod.fst (I8 h)).symm
theorem b4G(l:List α)(h:l.length<=4611686018427387904):J3 .i64 (o9 l) 1=o9 l -1:=U2 (by unfold jl o9;omega)
theorem b3m(hE:EvOk env)(hN:jl N)(hS:TOk sg env)(hL:∀e∈sg.1,e.2.length<=1000000)(ha:qY k=0)(ht:Iq (k,N) [] sg=(ty,0))(h:yC (k,N) [] env=(v,0)):PVV sg.1 ty v:=by
 obtain⟨hRR,hvt⟩:=a9d hN x9 (by rw[ha];rfl) ht;obtain⟨hg,hl,_⟩:=a5d hRR;have hl:=hl rfl;have hr:=Ut G6 ha;have hk3:k≠23/\k≠24/\k≠26:=by refine⟨?_,?_,?_⟩<;>(rintro rfl;exact absurd ha G6)
 obtain⟨hP,_,hf⟩:=a7O hE hN hk3 (by rw[ha];rfl) x9 h;have hc:k=1\/k=2\/k=3\/k=4\/k=5\/k=6\/k=7\/k=8\/k=9\/k=35\/k=36\/k=37\/k=38\/k=39:=by refine af λhn=>?_;have:k=10\/k=11\/k=12\/k=13\/k=14\/k=15\/k=16\/k=17\/k=18\/k=19\/k=20\/k=21\/k=22\/k=23\/k=24\/k=25\/k=26\/k=27\/k=28\/k=29\/k=30\/k=31\/k=32\/k=33\/k=34:=l9;rcases this with rfl|rfl|rfl|rfl|rfl|rfl|rfl|rfl|rfl|rfl|rfl|rfl|rfl|rfl|rfl|rfl|rfl|rfl|rfl|rfl|rfl|rfl|rfl|rfl|rfl<;>exact absurd ha G6
 have hlit:k<=35->dn (k,N) env=some (v,0):=λhk=>by
  have e:RP (k,N) [] env=o5 (dn (k,N) env) λx=>some x:=by unfold RP;rw[ax (show(k,N).1<36 by show k<36;omega)];rfl
  rw[e,bV]at hP;exact hP
 by_cases hm:36<=k
 .have hk:k=36\/k=37\/k=38\/k=39:=l9;have e:RP (k,N) [] env=o5 (pO (k,N) env) λx=>some x:=by rcases hk with rfl|rfl|rfl|rfl<;>rfl
  rw[e,bV]at hP;exact b8f hk hE hS hf hg hl v hP
 have hP:=hlit l9;by_cases h5:k<=5
 .have hk:k=1\/k=2\/k=3\/k=4\/k=5:=l9;rw[b4J hk hl];refine(?_:MKq sg.1 (k,0) _) v hP;have e:dn (k,N) env=o5 (cu k N) λx=>some x:=by rcases hk with rfl|rfl|rfl|rfl|rfl<;>rfl
  rw[e,bV];exact Va l9
 have hc:k=6\/k=7\/k=8\/k=9\/k=35:=l9;rcases hc with rfl|rfl|rfl|rfl|rfl
 .have e1:bZ (6,N) sg=some ((6,dV .i64 N 16),vty (6,dV .i64 N 16) sg.1):=by
   unfold bZ;simp only[dA];rfl
  rw[e1]at hl;have hv:=congrArg Prod.snd (I8 hl);have hty:=(congrArg Prod.fst (I8 hl)).symm;simp only at hv hty;subst hty;have hg:l7 (E9 (dV .i64 N 16) (o9 sg.1)) (o5 (F9 sg.1 (dV .i64 N 16)) λ(x:dB)=>some (E9 (eF N 16) (o9 x.2))) (some false)=some true:=hg;cases g1:E9 (dV .i64 N 16) (o9 sg.1)<;>rw[g1]at hg
  .cases hg
  cases g2:F9 sg.1 (dV .i64 N 16)with
  |none=>rw[g2]at hg;cases hg|some x=>
   rw[g2]at hg;have hlt:=iW.1 (I8 hg);unfold dn at hP;simp (disch:=decide) only[J7,J6,o7,o6,nz,o8]at hP;cases g3:plB (6,dV .i64 N 16,eF N 16)<;>rw[g3]at hP
   .cases hP
   .cases hP;refine⟨rfl,rfl,g3,λ_=>?_⟩;have hx:=hL x (cO g2).2.2.1;rw[b3T hv g2,b4G x.2 l9];have g4:=a0q g3;have g5:0<=eF N 16:=by
     unfold plB at g3;cases g6:N7 (Dq 6).1 (eF N 16)
     .rw[show(6,dV .i64 N 16,eF N 16).1=(6:Int)from rfl,show(6,dV .i64 N 16,eF N 16).2.2=eF N 16 from rfl,g6]at g3;cases g3
     .exact jJ.1 g6
    unfold inB;rw[Z9 g5,o7];exact Z9 (show eF N 16<=o9 x.2 -1 by omega)
 .have e1:bZ (7,N) sg=o5 (F9 sg.2.2.1 N) λx=>some (x,vty x sg.1):=by
   unfold bZ;simp only[dA];cases F9 sg.2.2.1 N<;>rfl
  rw[e1]at hl;cases g1:F9 sg.2.2.1 N with
  |none=>rw[g1]at hl;cases hl|some x=>
   rw[g1]at hl;have hty:=(congrArg Prod.fst (I8 hl));simp only at hty;subst hty;unfold dn at hP;simp (disch:=decide) only[J7,J6,o7,o6]at hP;cases g2:F9 env.2.1 N with
   |none=>rw[g2]at hP;cases hP|some w=>
    rw[g2]at hP;simp only[o8,nz]at hP;cases g3:plB w<;>rw[g3]at hP
    .cases hP
    .cases hP;exact(hS.inp N _ _ g1 g2).pl g3
 .have e1:bZ (8,N) sg=o5 (F9 sg.2.2.2.1 N) λx=>some (x,vty x sg.1):=by
   unfold bZ;simp only[dA];cases F9 sg.2.2.2.1 N<;>rfl
  rw[e1]at hl;cases g1:F9 sg.2.2.2.1 N with
  |none=>rw[g1]at hl;cases hl|some x=>
   rw[g1]at hl;have hty:=(congrArg Prod.fst (I8 hl));simp only at hty;subst hty;unfold dn at hP;simp (disch:=decide) only[J7,J6,o7,o6]at hP;have hf:l7 (N7 0 N) (l7 (E9 N (o9 env.2.2.1)) (o5 (F9 env.2.2.1 N) λ(x:V3)=>some (D9 (x8 x.1 0))) (some false)) (some false)=some true:=hf;cases g2:F9 env.2.2.1 N with
   |none=>rw[g2]at hP;cases hP|some w=>
    rw[g2]at hP hf;simp only[o8,nz]at hP hf;cases g3:plB w<;>rw[g3]at hP
    .cases hP
    .cases hP;refine(hS.dfs N _ _ g1 g2 (λe=>?_)).pl g3;rw[J7 e]at hf;cases g4:N7 0 N<;>rw[g4]at hf
     .cases hf
     cases g5:E9 N (o9 env.2.2.1)<;>rw[g5]at hf<;>cases hf
 .have e1:bZ (9,N) sg=some ((5,0),vty (5,0) sg.1):=by
   unfold bZ;simp only[dA];rfl
  rw[e1]at hl;have hty:=congrArg Prod.fst (I8 hl);simp only at hty;subst hty;refine(?_:MKq sg.1 (5,0) _) v hP;have e:dn (9,N) env=o5 (cu 5 env.1) λx=>some x:=rfl;rw[e,bV];exact Va G6
 .have e1:bZ (35,N) sg=some ((2,0),vty (2,0) sg.1):=by
   unfold bZ;simp only[dA];rfl
  rw[e1]at hl;have hty:=congrArg Prod.fst (I8 hl);simp only at hty;subst hty;refine(?_:MKq sg.1 (2,0) _) v hP;have e:dn (35,N) env=o5 (cu 2 (o9 env.2.2.2.1)) λx=>some x:=rfl;rw[e,bV];exact Va G6
theorem b0M{o:Option γ}{g:γ->V3×Int}{f:α->Option (V3×Int)}(h:∀x,MKq en t (some (g x))):MKq en t (o5 (o5 o λx=>some (Sum.inr (g x))) (λq=>X9 q f λr=>some r)):=by
 cases o with
 |none=>exact λv e=>by cases e|some x=>exact h x
theorem Zr{a ty:Int×Int}(hk:k=10\/k=25\/k=31\/k=32)(ha:VT a)(hx:PVV sg.1 a x)(ht:Iq (k,N) [a] sg=(ty,0))(h:RP (k,N) [x] env=some (v,0)):PVV sg.1 ty v:=by
 have hm:fF k=some false:=by rcases hk with rfl|rfl|rfl|rfl<;>rfl
 obtain⟨hN,ht2⟩:=b1c hm ht;clear ht;subst hN;have hx' :=a6H hx;generalize x.2.2=n at hx';have h:iZ (k,0) x env=some (v,0):=by have e:RP (k,0) [x] env=o5 (iZ (k,0) x env) λx=>some x:=rfl;rw[e,bV]at h;exact h
 subst hx';rcases hk with rfl|rfl|rfl|rfl<;>rcases ha with rfl|rfl|rfl|rfl|rfl|⟨e,rfl⟩ <;>
  first
  |exact absurd (congrArg Prod.snd ht2) (by show(8:Int)≠0;decide)
  |(
    have e:=congrArg Prod.fst ht2;subst e
    first
    |refine(?_:MKq sg.1 (1,0) _) v h
    |refine(?_:MKq sg.1 (2,0) _) v h
    |refine(?_:MKq sg.1 (3,0) _) v h
    |refine(?_:MKq sg.1 (4,0) _) v h
    unfold iZ Aq;simp (disch:=decide) only[bK]
    repeat' first
     |exact NE G6
     |exact a3Y _
     |exact GL G6
     |refine a2K ?_
     |rw[BM]
     |exact b0M λ_=>NE G6
     |simp (disch:=decide) only[bK])
theorem b3o{a b ty:Int×Int}{x y v:V3}(hk:k=14\/k=15\/k=16)(ha:VT a)(hb:VT b)(hx:PVV sg.1 a x)(hy:PVV sg.1 b y)(ht:RR (k,N) [a,b] sg=some (ty,0))(h:RP (k,N) [x,y] env=some (v,0)):PVV sg.1 ty v:=by
 have hr:RR (k,N) [a,b] sg=o5 (l7 (N7 0 N) (some (N7 N 5)) (some false)) λx=>l7 (D9 x) (some ((0,0),3)) (o5 (uV k a b) λx=>l7 (D9 x.2) (some ((0,0),8)) (some (x.1,0))):=by rcases hk with rfl|rfl|rfl<;>rfl
 rw[hr]at ht;have ht2:((o5 (uV k a b) λx=>l7 (D9 x.2) (some ((0,0),8)) (some (x.1,0))):Option ((Int×Int)×Int)).getD ((0,0),0)=(ty,0):=by
  cases h1:N7 0 N<;>rw[h1]at ht
  .cases ht
  cases h2:N7 N 5<;>rw[h2]at ht
  .cases ht
  simp only[o7,o8,E5,o6]at ht;rw[ht];rfl
 clear ht hr;have hx' :=a6H hx;have hy' :=a6H hy;generalize x.2.2=n at hx';generalize y.2.2=m at hy';have h:fG (k,N) x y=some (v,0):=by have e:RP (k,N) [x,y] env=o5 (fG (k,N) x y) λx=>some x:=rfl;rw[e,bV]at h;exact h
 subst hx' hy';rcases hk with rfl|rfl|rfl<;>rcases ha with rfl|rfl|rfl|rfl|rfl|⟨e,rfl⟩<;>rcases hb with rfl|rfl|rfl|rfl|rfl|⟨f,rfl⟩ <;>
  first
  |exact absurd (congrArg Prod.snd ht2) (by show(8:Int)≠0;decide)
  |(
    have e:=congrArg Prod.fst ht2;subst e
    first
    |refine(?_:MKq sg.1 (2,0) _) v h
    |refine(?_:MKq sg.1 (3,0) _) v h
    |refine(?_:MKq sg.1 (4,0) _) v h
    unfold fG xM;simp (disch:=decide) only[bK]
    repeat' first
     |exact NE G6
     |exact a0b G6
     |exact GL G6
     |refine a2K ?_
     |exact b0M λ_=>a0b G6|rw[BM]|(apply UZ;intro z hz)|(apply a3W<;>intro hz)
     |simp (disch:=decide) only[bK])
theorem a7G{a ty:Int×Int}(hE:EvOk env)(hS:TOk sg env)(ht:lU (33,N) a sg=some (ty,true))(h:RP (33,N) [x] env=some (v,0)):PVV sg.1 ty v:=by
 have hs:lU (33,N) a sg=o5 (F9 sg.2.1 N) λ(x:bn)=>o5 (eU x.2.1 sg.1) λ(x_1:Bool)=>l7 x_1 (o5 (eU x.2.2.1 sg.1) λ(x_2:Bool)=>l7 x_2 (some (x.2.2.1,V9 (x8 a.1 x.2.1.1) (x8 a.2 x.2.1.2))) (some (x.2.2.1,false))) (some (x.2.2.1,false)):=rfl;rw[hs]at ht;cases h1:F9 sg.2.1 N with
 |none=>rw[h1]at ht;cases ht|some tb=>
  rw[h1]at ht;have htb:=(cO h1).2.2.1;have hty:tb.2.2.1=ty:=by
   simp only[o8,dA]at ht;cases h2:vty tb.2.1 sg.1<;>rw[h2]at ht
   .exact congrArg Prod.fst (I8 ht)
   cases h3:vty tb.2.2.1 sg.1<;>simp only[o7,o8,h3]at ht
   .exact congrArg Prod.fst (I8 ht)
   .exact congrArg Prod.fst (I8 ht)
  have hrow:=hE.tb tb (by rw[hS.tbs];exact htb);have e:RP (33,N) [x] env=o5 (iZ (33,N) x env) λx=>some x:=rfl;rw[e,bV]at h;unfold iZ at h;simp (disch:=decide) only[J7,J6,o7,o6,o8]at h;rw[hS.tbs,h1]at h;simp only[o8]at h;rw[BM]at h;unfold NY at h;revert h;cases D9 (x8 x.1 tb.2.1.1)
  case true=>intro h;cases h
  cases D9 (x8 x.2.1 tb.2.1.2)
  case true=>intro h;cases h
  cases E9 tb.2.2.1.1 1
  case true=>intro h;cases h
  cases E9 6 tb.2.2.1.1
  case true=>intro h;cases h
  simp only[o6,o8,L6,a0w env.1 x.2.2 (show tb.2.2.2.length<=1000000 by have:=hrow.1;omega)];cases (UW tb.2.2.2 env.1 x.2.2).2
  case false=>intro h;cases h
  simp only[E5,o6];cases h5:F9 tb.2.2.2 (UW tb.2.2.2 env.1 x.2.2).1 with
  |none=>intro h;cases h|some r=>
   simp only[o8,nz];cases h6:plB (tb.2.2.1.1,tb.2.2.1.2,r.2.2.2)
   .intro h;cases h
   .intro h;cases h;rw[←hty];exact⟨rfl,rfl,h6,λ_=>hS.row tb htb r (cO h5).2.2.1⟩
theorem a1S{a ty:Int×Int}(ha:VT a)(ht:lU (34,N) a sg=some (ty,true))(h:RP (34,N) [x] env=some (v,0)):PVV sg.1 ty v:=by
 have hty:ty=(3,0):=by
  unfold lU at ht;simp (disch:=decide) only[J7,J6,o7,o6,o8]at ht;cases h1:F9 sg.2.1 (dV .i64 N 8)with
  |none=>rw[h1]at ht;cases ht|some tb=>
   rw[h1]at ht;simp only[o8]at ht;cases h2:x8 a.1 3<;>rw[h2]at ht
   .cases ht
   have e3:=O9.1 h2;have hty:a=ty:=by
    simp only[o7,jI,o8]at ht;cases h3:V9 (x8 tb.2.1.1 3) (x8 tb.2.1.2 0)<;>rw[h3]at ht
    .exact congrArg Prod.fst (I8 ht)
    .exact congrArg Prod.fst (I8 ht)
   rw[←hty];rcases ha with rfl|rfl|rfl|rfl|rfl|⟨e,rfl⟩<;>first|rfl|exact absurd e3 (by show ¬(_:Int)=3;decide)|exact absurd (show(6:Int)=3 from e3) G6
 subst hty;have e:RP (34,N) [x] env=o5 (iZ (34,N) x env) λx=>some x:=rfl;rw[e,bV]at h;refine(?_:MKq sg.1 (3,0) _) v h;unfold iZ;simp (disch:=decide) only[J7,J6,o7,o6,o8,L6];apply UZ;intro tb hz;cases D9 (x8 x.1 3)
 case true=>exact GL G6
 cases D9 (x8 tb.2.1.1 3)
 case true=>exact GL G6
 cases D9 (x8 tb.2.1.2 0)
 case true=>exact GL G6
 cases D9 (x8 tb.2.2.1.1 4)
 case true=>exact GL G6
 cases D9 (x8 tb.2.2.1.2 0)
 case true=>exact GL G6
 simp only[o6,o8,L6];apply UZ;intro z hz;exact a2K (b0N G6)
end
section
theorem IC{sg:J5}{n:Int×Int}{ops:c9k}{i:Nat}{t:Int×Int}(h:Gm sg n ops i= .inr t):Iq n ops sg=(t,0):=by
 unfold Gm at h;split at h
 .rename_i h0;cases h;exact Y0 rfl h0
 .cases h
variable {v:V3}
theorem a5o{en:List dB}{r:V3×Int}(h:yI r=(v,0)):PVV en (1,0) v:=by
 rcases JJ r with⟨h1,h2⟩|⟨_,_,h2⟩|⟨_,_,_,h2⟩|⟨h1,h2,h3,h4⟩
 .rw[h2]at h;rw[J7 (congrArg Prod.snd h)]at h1;cases h1
 .rw[h2]at h;exact absurd (congrArg Prod.snd h) (by show(8:Int)≠0;decide)
 .rw[h2]at h;exact absurd (congrArg Prod.snd h) (by show(8:Int)≠0;decide)
 .rw[h4]at h;have e:=congrArg Prod.fst h;simp only at e;subst e;have k1:=O9.1 h2;refine⟨k1,?_,h3,λq=>absurd (k1.symm.trans q) G6⟩;rcases a0q h3 with⟨n,e,_⟩|⟨n,e,_⟩|⟨n,e,_⟩|⟨n,e,_⟩|⟨n,e,_⟩|e
  .rw[e]
  .rw[e]
  .rw[e]
  .rw[e]
  .rw[e]
  .obtain⟨m,n,e,_⟩:=e;rw[e]at k1;exact absurd k1 (by show ¬(6:Int)=1;decide)
variable {k:Int}
theorem c1f(h:qY k=1):k=10\/k=25\/k=31\/k=32\/k=33\/k=34:=by have hr:=Ut G6 h;refine af λhn=>?_;have:k=1\/k=2\/k=3\/k=4\/k=5\/k=6\/k=7\/k=8\/k=9\/k=11\/k=12\/k=13\/k=14\/k=15\/k=16\/k=17\/k=18\/k=19\/k=20\/k=21\/k=22\/k=23\/k=24\/k=26\/k=27\/k=28\/k=29\/k=30\/k=35\/k=36\/k=37\/k=38\/k=39:=l9;rcases this with rfl|rfl|rfl|rfl|rfl|rfl|rfl|rfl|rfl|rfl|rfl|rfl|rfl|rfl|rfl|rfl|rfl|rfl|rfl|rfl|rfl|rfl|rfl|rfl|rfl|rfl|rfl|rfl|rfl|rfl|rfl|rfl|rfl<;>exact absurd h G6
theorem c1h(h:qY k=2):(k=23\/k=24)\/(k=14\/k=15\/k=16)\/(k=11\/k=12\/k=13\/k=17\/k=18\/k=19\/k=20\/k=21\/k=22\/k=27\/k=28\/k=29\/k=30):=by have hr:=Ut G6 h;refine af λhn=>?_;have:k=1\/k=2\/k=3\/k=4\/k=5\/k=6\/k=7\/k=8\/k=9\/k=10\/k=25\/k=26\/k=31\/k=32\/k=33\/k=34\/k=35\/k=36\/k=37\/k=38\/k=39:=l9;rcases this with rfl|rfl|rfl|rfl|rfl|rfl|rfl|rfl|rfl|rfl|rfl|rfl|rfl|rfl|rfl|rfl|rfl|rfl|rfl|rfl|rfl<;>exact absurd h G6
theorem b3M(h:qY k=3):k=26:=by have hr:=Ut G6 h;refine af λhn=>?_;have:k=1\/k=2\/k=3\/k=4\/k=5\/k=6\/k=7\/k=8\/k=9\/k=10\/k=11\/k=12\/k=13\/k=14\/k=15\/k=16\/k=17\/k=18\/k=19\/k=20\/k=21\/k=22\/k=23\/k=24\/k=25\/k=27\/k=28\/k=29\/k=30\/k=31\/k=32\/k=33\/k=34\/k=35\/k=36\/k=37\/k=38\/k=39:=l9;rcases this with rfl|rfl|rfl|rfl|rfl|rfl|rfl|rfl|rfl|rfl|rfl|rfl|rfl|rfl|rfl|rfl|rfl|rfl|rfl|rfl|rfl|rfl|rfl|rfl|rfl|rfl|rfl|rfl|rfl|rfl|rfl|rfl|rfl|rfl|rfl|rfl|rfl|rfl<;>exact absurd h G6
variable {N:Int}{a:Int×Int}{ty:Int×Int}
section
variable {sg:J5} {env:aK}
theorem b8g{x v:V3}(hE:EvOk env)(hN:jl N)(hS:TOk sg env)(hk:qY k=1)(ha:VT a)(hx:PVV sg.1 a x)(ht:Iq (k,N) [a] sg=(ty,0))(h:yC (k,N) [x] env=(v,0)):PVV sg.1 ty v:=by
 have hk3:k≠23/\k≠24/\k≠26:=by refine⟨?_,?_,?_⟩<;>(rintro rfl;exact absurd hk G6)
 obtain⟨hP,_,_⟩:=a7O hE hN hk3 (by rw[hk];rfl) x9 h;have hs:=((a5d (a9d hN (λt h=>by rw[G5.1 h];exact ha) (by rw[hk];rfl) ht).1).2.2 a rfl);rcases c1f hk with rfl|rfl|rfl|rfl|rfl|rfl
 .exact Zr l9 ha hx ht hP
 .exact Zr l9 ha hx ht hP
 .exact Zr l9 ha hx ht hP
 .exact Zr l9 ha hx ht hP
 .exact a7G hE hS hs hP
 .exact a1S ha hs hP
theorem a9G{a b ty:Int×Int}(hk:k=23\/k=24)(ha:VT a)(hb:VT b)(ht:Iq (k,N) [a,b] sg=(ty,0)):ty=(1,0):=by
 have hm:fF k=some false:=by rcases hk with rfl|rfl<;>rfl
 obtain⟨hN,ht2⟩:=b1c hm ht;clear ht;subst hN;rcases hk with rfl|rfl<;>rcases ha with rfl|rfl|rfl|rfl|rfl|⟨e,rfl⟩<;>rcases hb with rfl|rfl|rfl|rfl|rfl|⟨f,rfl⟩ <;>
  first
  |exact absurd (congrArg Prod.snd ht2) (by show(8:Int)≠0;decide)
  |exact(congrArg Prod.fst ht2).symm
theorem b9L{a b c ty:Int×Int}(ht:Iq (26,N) [a,b,c] sg=(ty,0)):ty=b/\b=c:=by
 obtain⟨hN,ht2⟩:=b1c rfl ht;have hr:RR (26,0) [a,b,c] sg=l7 (x8 a.1 1) (l7 (D9 (V9 (x8 b.1 c.1) (x8 b.2 c.2))) (some ((0,0),8)) (some (b,0))) (some ((0,0),8)):=rfl;rw[hr]at ht2;cases h1:x8 a.1 1<;>rw[h1]at ht2
 .exact absurd (congrArg Prod.snd ht2) (by show(8:Int)≠0;decide)
 cases h2:x8 b.1 c.1<;>rw[h2]at ht2
 .exact absurd (congrArg Prod.snd ht2) (by show(8:Int)≠0;decide)
 cases h3:x8 b.2 c.2<;>rw[h3]at ht2
 .exact absurd (congrArg Prod.snd ht2) (by show(8:Int)≠0;decide)
 exact⟨(congrArg Prod.fst ht2).symm,Y0 (O9.1 h2) (O9.1 h3)⟩
theorem UA{c:Int}{x:V3×Int}(h:l7 (x8 c 0) x ((0,0,0),c)=(v,0)):c=0/\x=(v,0):=by
 cases h1:x8 c 0<;>rw[h1]at h
 .rw[J7 (show c=0 from congrArg Prod.snd h)]at h1;cases h1
 .exact⟨O9.1 h1,h⟩
theorem Gx:∀(t:XT) (o:Nat) {ty:Int×Int},t.wf->(∀n∈t.post,jl n.2)->iw sg t o= .inr ty->VT ty
 | .l0 n,o,ty,hw,hI,ht=>by have hw:qY n.1=0:=hw;exact zo (hI n (by simp[XT.post])) x9 (by rw[hw];rfl) ht| .l1 n a,o,ty,hw,hI,ht=>by
  obtain⟨w1,w2⟩:qY n.1=1/\a.wf:=hw;unfold iw at ht;cases h1:iw sg a o with
  |inl e=>rw[h1]at ht;cases ht|inr ta=>rw[h1]at ht;have va:=Gx a o w2 (λm hm=>hI m (by simp[XT.post,hm])) h1;exact zo (hI n (by simp[XT.post])) (λt h=>by rw[G5.1 h];exact va) (by rw[w1];rfl) ht
 | .l2 n a b,o,ty,hw,hI,ht=>by
  obtain⟨w1,w2,w3⟩:qY n.1=2/\a.wf/\b.wf:=hw;unfold iw at ht;cases h1:iw sg a o with
  |inl e=>rw[h1]at ht;cases ht|inr ta=>
   rw[h1]at ht;simp only at ht;cases h2:iw sg b (o+a.size)with
   |inl e=>rw[h2]at ht;cases ht|inr tb=>
    rw[h2]at ht;have va:=Gx a o w2 (λm hm=>hI m (by simp[XT.post,hm])) h1;have vb:=Gx b _ w3 (λm hm=>hI m (by simp[XT.post,hm])) h2;exact zo (hI n (by simp[XT.post])) (λt h=>by
     rcases D5.1 h with rfl|h
     .exact va
     .rw[G5.1 h];exact vb) (by rw[w1];rfl) ht
 | .l3 n a b c,o,ty,hw,hI,ht=>by
  obtain⟨w1,w2,w3,w4⟩:qY n.1=3/\a.wf/\b.wf/\c.wf:=hw;unfold iw at ht;cases h1:iw sg a o with
  |inl e=>rw[h1]at ht;cases ht|inr ta=>
   rw[h1]at ht;simp only at ht;cases h2:iw sg b (o+a.size)with
   |inl e=>rw[h2]at ht;cases ht|inr tb=>
    rw[h2]at ht;simp only at ht;cases h3:iw sg c (o+a.size+b.size)with
    |inl e=>rw[h3]at ht;cases ht|inr tc=>
     rw[h3]at ht;have va:=Gx a o w2 (λm hm=>hI m (by simp[XT.post,hm])) h1;have vb:=Gx b _ w3 (λm hm=>hI m (by simp[XT.post,hm])) h2;have vc:=Gx c _ w4 (λm hm=>hI m (by simp[XT.post,hm])) h3;exact zo (hI n (by simp[XT.post])) (λt h=>by
      rcases D5.1 h with rfl|h
      .exact va
      rcases D5.1 h with rfl|h
      .exact vb
      .rw[G5.1 h];exact vc) (by rw[w1];rfl) ht
theorem LK(hE:EvOk env)(hS:TOk sg env)(hL:∀e∈sg.1,e.2.length<=1000000):∀(t:XT) (o:Nat) {ty:Int×Int} {v:V3},t.wf->(∀n∈t.post,jl n.2)->iw sg t o= .inr ty->evT env t=(v,0)->PVV sg.1 ty v/\VT ty
 | .l0 n,o,ty,v,hw,hI,ht,h=>by have hN:=hI n (by simp[XT.post]);have hw:qY n.1=0:=hw;have hv:VT ty:=zo hN x9 (by rw[hw];rfl) ht;exact⟨b3m (k:=n.1) (N:=n.2) hE hN hS hL hw (IC ht) h,hv⟩| .l1 n a,o,ty,v,hw,hI,ht,h=>by
  have hN:=hI n (by simp[XT.post]);obtain⟨w1,w2⟩:qY n.1=1/\a.wf:=hw;unfold iw at ht;cases h1:iw sg a o with
  |inl e=>rw[h1]at ht;cases ht|inr ta=>rw[h1]at ht;simp only at ht;unfold evT at h;obtain⟨c1,c2⟩:=UA h;obtain⟨p1,p2⟩:=LK hE hS hL a o w2 (λm hm=>hI m (by simp[XT.post,hm])) h1 (Y0 rfl c1);exact⟨b8g (k:=n.1) (N:=n.2) hE hN hS w1 p2 p1 (IC ht) c2,zo hN (λt h=>by rw[G5.1 h];exact p2) (by rw[w1];rfl) ht⟩
 | .l2 n a b,o,ty,v,hw,hI,ht,h=>by
  have hN:=hI n (by simp[XT.post]);obtain⟨w1,w2,w3⟩:qY n.1=2/\a.wf/\b.wf:=hw;unfold iw at ht;cases h1:iw sg a o with
  |inl e=>rw[h1]at ht;cases ht|inr ta=>
   rw[h1]at ht;simp only at ht;cases h2:iw sg b (o+a.size)with
   |inl e=>rw[h2]at ht;cases ht|inr tb=>
    rw[h2]at ht;simp only at ht;have va:=Gx a o w2 (λm hm=>hI m (by simp[XT.post,hm])) h1;have vb:=Gx b _ w3 (λm hm=>hI m (by simp[XT.post,hm])) h2;have hv:VT ty:=zo hN (λt h=>by rcases D5.1 h with rfl|h;exact va;rw[G5.1 h];exact vb) (by rw[w1];rfl) ht;refine⟨?_,hv⟩;unfold evT at h;have hk:=c1h w1;cases hz:lzB n.1<;>rw[hz]at h
    .simp only[o6]at h;obtain⟨c1,c2⟩:=UA h;obtain⟨c3,c4⟩:=UA c2;have p1:=(LK hE hS hL a o w2 (λm hm=>hI m (by simp[XT.post,hm])) h1 (Y0 rfl c1)).1;have p2:=(LK hE hS hL b _ w3 (λm hm=>hI m (by simp[XT.post,hm])) h2 (Y0 rfl c3)).1;have hk3:=b4Q hz;obtain⟨hP,_,_⟩:=a7O (k:=n.1) (N:=n.2) hE hN hk3 (by rw[w1];rfl) x9 c4;rcases hk with hk|hk|hk
     .rcases hk with hk|hk
      .exact absurd hk hk3.1
      .exact absurd hk hk3.2.1
     .exact b3o hk va vb p1 p2 (a9d hN (λt h=>by rcases D5.1 h with rfl|h;exact va;rw[G5.1 h];exact vb) (by rw[w1];rfl) (IC ht)).1 hP
     .exact b8e hk va vb p1 p2 (IC ht) hP
    .have hk2:n.1=23\/n.1=24:=by
      rcases hk with hk|hk|hk
      .exact hk
      .rcases hk with hk|hk|hk<;>rw[hk]at hz<;>exact absurd hz G6
      .rcases hk with hk|hk|hk|hk|hk|hk|hk|hk|hk|hk|hk|hk|hk<;>rw[hk]at hz<;>exact absurd hz G6
     rw[a9G (k:=n.1) (N:=n.2) hk2 va vb (IC ht)];simp only[o7]at h;unfold Ye at h;cases g1:x8 n.2 0<;>rw[g1]at h
     .exact absurd (congrArg Prod.snd h) (by show(2:Int)≠0;decide)
     simp only[o7]at h;obtain⟨c1,c2⟩:=UA h;cases g2:jT (x8 n.1 23) (x8 (yI (evT env a)).1.2.2 0)<;>rw[g2]at c2
     .exact a5o c2
     .have c3:(yI (evT env a)).1=v:=congrArg Prod.fst (show((yI (evT env a)).1,(0:Int))=(v,0)from c2);exact a5o (Y0 c3 c1)
 | .l3 n a b c,o,ty,v,hw,hI,ht,h=>by
  have hN:=hI n (by simp[XT.post]);obtain⟨w1,w2,w3,w4⟩:qY n.1=3/\a.wf/\b.wf/\c.wf:=hw;unfold iw at ht;cases h1:iw sg a o with
  |inl e=>rw[h1]at ht;cases ht|inr ta=>
   rw[h1]at ht;simp only at ht;cases h2:iw sg b (o+a.size)with
   |inl e=>rw[h2]at ht;cases ht|inr tb=>
    rw[h2]at ht;simp only at ht;cases h3:iw sg c (o+a.size+b.size)with
    |inl e=>rw[h3]at ht;cases ht|inr tc=>
     rw[h3]at ht;simp only at ht;have e26:=b3M w1;have hres:=IC ht;rw[show n=(26,n.2)from Y0 e26 rfl]at hres;obtain⟨rfl,rfl⟩:=b9L hres;unfold evT a2F at h;cases g1:x8 n.2 0<;>rw[g1]at h
     .exact absurd (congrArg Prod.snd h) (by show(2:Int)≠0;decide)
     simp only[o7]at h;obtain⟨c1,c2⟩:=UA h;cases g2:x8 (yI (evT env a)).1.2.2 1<;>rw[g2]at c2
     .exact LK hE hS hL c _ w4 (λm hm=>hI m (by simp[XT.post,hm])) h3 c2
     .exact LK hE hS hL b _ w3 (λm hm=>hI m (by simp[XT.post,hm])) h2 c2
theorem a8r(hE:EvOk env)(hS:TOk sg env)(hL:∀e∈sg.1,e.2.length<=1000000){e:c9k}(hI:∀n∈e,jl n.2){t:Int×Int}(ht:Hu e sg t=0)(h:uH e env=(v,0)):PVV sg.1 t v:=by
 have hw:=XK ht;unfold oC at hw;unfold uH at h;cases hs:mZ e with
 |inl x=>rw[hs]at hw;exact absurd (congrArg (λq=>q.2.2) hw) (Di hs)|inr q=>
  rw[hs]at hw h;simp only at hw h;cases hy:iw sg q 0 with
  |inl x=>rw[hy]at hw;exact absurd (congrArg (λq=>q.2.2) hw) (Dk q 0 hy)|inr ty=>rw[hy]at hw;have e1:ty=t:=congrArg Prod.fst hw;subst e1;exact(LK hE hS hL q 0 (MO hs) (λn hn=>hI n (by rw[(Dj hs).1];exact hn)) hy h).1
end
end
section
theorem Np{ρ:Type}{n:Nat}{p:Nat->Option ρ}(h:∀r,au n p≠some r):∀i,i<n->p i=none:=by
 cases hf:au n p with
 |some r=>exact absurd hf (h r)|none=>exact Af hf
theorem a2j{k i:Int}{r:Int×Int}(h:TE k i r=none):r.1=0:=by
 unfold TE at h;cases he:x8 r.1 0<;>rw[he]at h
 .cases h
 .exact O9.1 he
variable {l:S9}
theorem Ui(h:(dK l).1=0):∀e∈l.1,e.2.length<=16:=by
 intro e he;unfold dK at h;cases h1:x8 (IR l).1 0<;>rw[h1]at h
 .simp only[o6]at h;rw[J7 h]at h1;cases h1
 have h1:=O9.1 h1;unfold IR at h1;cases h2:E9 8 (o9 l.1)<;>rw[h2]at h1
 case true=>exact absurd (show(4:Int)=0 from h1) G6
 simp only[o6]at h1;obtain⟨i,hi,e1⟩:=X3 he;have hn:=Np (n:=l.1.length) (p:=PK l) (λr hf=>by
  rw[hf]at h1;obtain⟨j,_,hj⟩:=fV hf;unfold PK at hj;split at hj
  .exact LJ hj h1
  .cases hj) i hi
 unfold PK at hn;rw[dh hi,e1]at hn;have hz:=a2j hn;unfold XR at hz;cases g1:Ez e.1<;>rw[g1]at hz
 .exact absurd (show(2:Int)=0 from hz) G6
 cases g2:EE l 1 i e.1<;>rw[g2]at hz
 case true=>exact absurd (show(7:Int)=0 from hz) G6
 cases g3:x8 (o9 e.2) 0<;>rw[g3]at hz
 case true=>exact absurd (show(5:Int)=0 from hz) G6
 cases g4:E9 16 (o9 e.2)<;>rw[g4]at hz
 case true=>exact absurd (show(4:Int)=0 from hz) G6
 rw[iU]at g4;unfold o9 at g4;omega
theorem b3r(h:(dK l).1=0):∀t∈l.2.1,∀r∈t.2.2.2,inB r.2.2.2 (bnd t.2.2.1 l.1)=true:=by
 intro t ht r hr;unfold dK at h;cases h1:x8 (IR l).1 0<;>rw[h1]at h
 .simp only[o6]at h;rw[J7 h]at h1;cases h1
 cases h2:x8 (FX l).1 0<;>rw[h2]at h
 .simp only[o7,o6]at h;rw[J7 h]at h2;cases h2
 have h2:=O9.1 h2;unfold FX at h2;cases h3:E9 8 (o9 l.2.1)<;>rw[h3]at h2
 case true=>exact absurd (show(4:Int)=0 from h2) G6
 simp only[o6]at h2;obtain⟨i,hi,e1⟩:=X3 ht;have hn:=Np (n:=l.2.1.length) (p:=JC l) (λr hf=>by
  rw[hf]at h2;obtain⟨j,_,hj⟩:=fV hf;unfold JC at hj;split at hj
  .exact LJ hj h2
  .cases hj) i hi
 unfold JC at hn;rw[dh hi,e1]at hn;have hz:=a2j hn;unfold XF at hz;cases g1:Ez t.1<;>rw[g1]at hz
 .exact absurd (show(2:Int)=0 from hz) G6
 cases g2:EE l 2 i t.1<;>rw[g2]at hz
 case true=>exact absurd (show(7:Int)=0 from hz) G6
 cases g3:x8 (Pm t l.1).2 0<;>rw[g3]at hz
 .simp only[o7,o6]at hz;rw[J7 hz]at g3;cases g3
 have hz:=O9.1 g3;unfold Pm at hz;cases g4:E9 64 (o9 t.2.2.2)<;>rw[g4]at hz
 case true=>exact absurd (show(4:Int)=0 from hz) G6
 cases g5:vty t.2.1 l.1<;>rw[g5]at hz
 .exact absurd (show(8:Int)=0 from hz) G6
 cases g6:vty t.2.2.1 l.1<;>rw[g6]at hz
 .exact absurd (show(8:Int)=0 from hz) G6
 simp only[o7,o6]at hz;obtain⟨j,hj,e2⟩:=X3 hr;have hn:=Np (n:=t.2.2.2.length) (p:=VK t l.1) (λq hf=>by
  rw[show(List.range t.2.2.2.length).findSome? (VK t l.1)=some q from hf]at hz;obtain⟨j,_,hj⟩:=fV hf;unfold VK at hj;split at hj
  .rename_i x _;cases k1:OH x (bnd t.2.1 l.1) (bnd t.2.2.1 l.1)<;>rw[k1]at hj
   .revert hj;cases (t.2.2.2.take j).any λy=>AC y x
    .intro hj;cases hj
    .intro hj;cases hj;exact absurd hz (by show ¬(11:Int)=0;decide)
   .cases hj;exact absurd hz (by show ¬(3:Int)=0;decide)
  .cases hj) j hj
 unfold VK at hn;rw[dh hj,e2]at hn;simp only at hn;cases k1:OH r (bnd t.2.1 l.1) (bnd t.2.2.1 l.1)<;>rw[k1]at hn
 case true=>cases hn
 unfold OH at k1;cases d1:HY r.1<;>rw[d1]at k1
 .cases k1
 cases d2:x8 r.1.1 r.1.2<;>rw[d2]at k1
 case true=>cases k1
 cases d3:N7 r.2.2.1 r.2.1<;>rw[d3]at k1
 case true=>cases k1
 cases d4:inB r.2.1 (bnd t.2.1 l.1)<;>rw[d4]at k1
 .cases k1
 cases d5:inB (J3 .i64 r.2.2.1 1) (bnd t.2.1 l.1)<;>rw[d5]at k1
 .cases k1
 cases d6:inB r.2.2.2 (bnd t.2.2.1 l.1)<;>rw[d6]at k1
 .cases k1
variable {k:Int}{s:A8}{c:dI}
theorem a7W(h:(Gf l k c false 0).1=0)(hs:F9 l.2.2 k=some s):∀i t v,F9 (s.2.2.1.map (·.2)) i=some t->F9 c.2.1 i=some v->PVW l.1 t v:=by
 intro i t v ht hv;unfold Gf at h;cases h0:x8 (dK l).1 0<;>rw[h0]at h
 .exact absurd (show(1:Int)=0 from h) G6
 rw[hs]at h;simp only[o7,o6]at h;cases h1:x8 (Lr l k c).2.2 0<;>rw[h1]at h
 .simp only[o6]at h;rw[J7 h]at h1;cases h1
 have h1:=O9.1 h1;unfold Lr at h1;rw[hs]at h1;simp only at h1;cases g1:E9 c.1 0<;>rw[g1]at h1
 case true=>exact absurd (show(3:Int)=0 from h1) G6
 cases g2:E9 109572 c.1<;>rw[g2]at h1
 case true=>exact absurd (show(3:Int)=0 from h1) G6
 cases g3:x8 (KF l.1 s.2.2.1 c.2.1).2 0<;>rw[g3]at h1
 .simp only[o6]at h1;rw[J7 h1]at g3;cases g3
 have g3:=O9.1 g3;unfold KF at g3;cases g4:E9 (o9 c.2.1) (o9 s.2.2.1)<;>rw[g4]at g3
 case true=>exact absurd (show(5:Int)=0 from g3) G6
 cases g5:E9 (o9 s.2.2.1) (o9 c.2.1)<;>rw[g5]at g3
 case true=>exact absurd (show(4:Int)=0 from g3) G6
 simp only[o6]at g3;have hvl:=(cO hv).2.2.2;have htl:=(cO ht).2.2.2;rw[U8]at htl;cases hf:s.2.2.1[i.toNat]? with
 |none=>rw[hf]at htl;cases htl|some f=>
  rw[hf]at htl;have e:f.2=t:=I8 htl;have hn:=Np (n:=c.2.1.length) (p:=a1l l.1 s.2.2.1 c.2.1) (λr hf=>by rw[hf]at g3;obtain⟨j,_,hj⟩:=fV hf;exact b3q hj g3) i.toNat (V6.1 hvl).1
  unfold a1l at hn;rw[hvl,hf]at hn;simp only at hn;cases d1:x8 v.1 f.2.1<;>rw[d1]at hn
  .cases hn
  cases d2:x8 v.2.1 f.2.2<;>rw[d2]at hn
  .cases hn
  cases d3:inB v.2.2 (bnd f.2 l.1)<;>rw[d3]at hn
  .cases hn
  rw[←e];exact⟨O9.1 d1,O9.1 d2,λ_=>d3⟩
theorem b1h(l:S9)(s:A8):(Dn l s).1=l.1/\(Dn l s).2.1=l.2.1/\(Dn l s).2.2.1=s.2.2.1.map (·.2):=by unfold Dn;split<;>exact⟨rfl,rfl,rfl⟩
theorem b7b{i:Int}{t:Int×Int}(h:F9 (Dn l s).2.2.2.2.1 i=some t):F9 ((Y6 l s).2.2.2.1.map (·.2)) i=some t:=by
 cases hq:(Dn l s).2.2.2.2.2
 .unfold Dn at h hq;split at h
  .rename_i q e;rw[e]at hq;cases hq
  .unfold F9 at h;split at h<;>cases h
 .rw[←b1g hq];exact h
theorem b5G{v:V3}(h:plB v=true):inB v.2.2 (Dq v.1)=true:=by
 unfold plB at h;unfold inB;cases h1:N7 (Dq v.1).1 v.2.2<;>rw[h1]at h
 .cases h
 cases h2:N7 v.2.2 (Dq v.1).2<;>rw[h2]at h
 .cases h
 .rfl
def a4Z(l:S9)(s:A8)(ds:List V3):Prop:=∀i t v,F9 (s.2.2.2.1.map (·.2)) i=some t->F9 ds i=some v->v.1≠0->PVW l.1 t v
variable {b:List DB}
theorem c3K{ds:List V3}(hA:(Gf l k c false 0).1=0)(h:(dK l).1=0)(hs:F9 l.2.2 k=some s)(hD:a4Z l s ds):TOk (Dn l s) (AP (wZ l s c b) ds):=by
 obtain⟨g1,g2,g3⟩:=b1h l s;refine⟨λi t v ht hv=>?_,λi t v ht hv h0=>?_,λi t u ht hu=>?_,g2.symm,λt ht r hr=>?_⟩
 .rw[g3]at ht;rw[g1];exact a7W hA hs i t v ht hv
 .rw[a7l]at ht;rw[g1];exact hD i t v ht hv h0
 .have h1:=b7b ht;have h2:F9 ((Y6 l s).2.2.2.1.map (·.2)) i=some u:=hu;rw[h1]at h2;exact(I8 h2).symm
 .rw[g2]at ht;rw[g1];exact b3r h t ht r hr
theorem a5y{ds:List V3}{m d:Int}{v:V3}{r:Int}{t:Int×Int}(hL:SmL l)(hT:∀t∈l.2.1,kR t)(hb:b.length<=1000)(hA:(Gf l k c false 0).1=0)(h:(dK l).1=0)(hs:F9 l.2.2 k=some s)(hD:a4Z l s ds)(hd:Ey s (AP (wZ l s c b) ds) m d= .inl (v,r))(ht:F9 (s.2.2.2.1.map (·.2)) d=some t):PVV l.1 t v:=by
 obtain⟨_,d2,q,q1,q2⟩:=b4g hd;obtain⟨q',e1,e2,e3⟩:=RZ d2;rw[q1]at e1;cases e1;obtain⟨_,f,f1,f2⟩:=QJ h (cO hs).2.2.2 e2;rw[e3]at f1;have ht2:f.2=t:=by
  unfold F9 at ht f1;split at ht
  .rename_i h0;rw[if_pos h0]at f1;rw[U8,f1]at ht;exact I8 ht
  .cases ht
 have g1:=(b1h l s).1;rw[←g1,←ht2];refine a8r (FD (Qi hT s c hb) ds) (c3K hA h hs hD) (λe he=>by rw[g1]at he;have:=Ui h e he;omega) ?_ f2 q2;have hS:=hL.sc s (cO hs).2.2.1;exact(hS.ro q e2).1.2.2.2
theorem b1Q{need:c9s}{X:DB}(hL:SmL l)(hT:∀t∈l.2.1,kR t)(hb:b.length<=1000)(hA:(Gf l k c false 0).1=0)(h:(dK l).1=0)(hs:F9 l.2.2 k=some s)(hX:scS s (wZ l s c b) (-1) need= .inl X):a4Z l s X.1:=by
 have key:∀(L:c9h) (B:DB),(∀d∈L,0<=d)->a4Z l s B.1->aP (scG s (wZ l s c b) (-1) need) L B= .inl X->a4Z l s X.1:=by
  intro L;induction L with
  |nil=>intro B _ hB h;cases h;exact hB|cons d L ih=>
   intro B hL0 hB hf;unfold aP at hf;cases hg:scG s (wZ l s c b) (-1) need B d with
   |inr e=>rw[hg]at hf;cases hf|inl B1=>
    rw[hg]at hf;refine ih B1 (λx hx=>hL0 x (by simp[hx])) ?_ hf;unfold scG at hg;cases h1:(F9 need d).getD false<;>rw[h1]at hg
    .cases hg;exact hB
    simp only[o7]at hg;cases hv:Ey s (AP (wZ l s c b) B.1) (-1) d with
    |inr e=>rw[hv]at hg;cases hg|inl v=>
     rw[hv]at hg;cases hg;intro i t w ht hw h0;by_cases hi:i=d
     .subst hi;have hd0:=hL0 i x9;by_cases hlt:i<o9 B.1
      .rw[TM _ hd0 hlt]at hw;cases hw;have p:=a5y (m:=-1) hL hT hb hA h hs hB (v:=v.1) (r:=v.2) hv ht;exact⟨p.1,p.2.1,p.2.2.2⟩
      .rw[kw (.inr (N9 (by simp only[o9,mP]at hlt ⊢;omega)))]at hw;cases hw
     .rw[IZ _ (hL0 d x9) hi]at hw;exact hB i t w ht hw h0
 refine key (mf s).1 _ (λd hd=>((Qg s).1 d hd).1) (λi t v ht hv h0=>?_) hX;have:=(cO hv).2.2.2;simp only[jA]at this;split at this
 .cases this;exact absurd rfl h0
 .cases this
end
section
theorem ZW(on:Nat->Bool)(i:Nat):pV on (i+1)=pV on i+(if on i=true then 1 else 0):=by unfold pV;rw[dL,qE,E8];cases h:on i<;>simp[h]
theorem a5u(on:Nat->Bool){i j:Nat}(h:i<=j):pV on i<=pV on j:=by
 induction j with
 |zero=>have:i=0:=l9;subst this;omega|succ j ih=>
  rw[ZW];by_cases e:i=j+1
  .subst e;rw[ZW];omega
  .have:=ih l9;omega
theorem c1k{on:Nat->Bool}{a i:Nat}(h:a<i)(ha:on a=true):pV on a<pV on i:=by have h1:=ZW on a;rw[if_pos ha]at h1;have h2:=a5u on (show a+1<=i from h);omega
section
variable {A R R' :Nat->Bool} {par par' :Nat->Int} {n:Nat} (hRA:∀i,i<n->R i=true->A i=true) (hR:∀i,i<n->A i=true->R' (pV A i)=R i) (hp:∀i,i<n->A i=true->par' (pV A i)=anc A par i)
include hRA hR
omit hR in
omit hR in
include hp
end
end
section
section
variable {s:A8} {T:Int} (h0:0<=T) (h1:T<=109572)
include h0 h1
omit h0 h1 in
omit h0 h1 in
end
end
section
def a3s(s:A8)(k:Nat)(r:V8):Bool:=l7 (x8 r.2.2.1 (-1)) false (l7 (E9 r.2.2.1 0) true (l7 (N7 k r.2.2.1) true (match F9 s.2.2.2.2 r.2.2.1 with|some q=>D9 (x8 q.2.1 r.2.1)|none=>true)))
structure RuleV (s:A8) (sg:J5) (k:Nat) (r:V8):Prop where
 id:Ez r.1=true
 nm:((s.2.2.2.2.take k).any λx=>seq x.1 r.1)=false
 df:∃d,F9 s.2.2.2.1 r.2.1=some d/\WE r sg d.2=0
 pa:a3s s k r=false
 p0:E9 r.2.2.2.1 0=false
 p9:E9 9 r.2.2.2.1=false
 dv:HY r.2.2.2.2.1=true
 ne:x8 r.2.2.2.2.1.1 r.2.2.2.2.1.2=false
 ct:N7 8 (Lt (s.2.2.2.2.take k) r.2.1)=false
 sr:a1O r.2.2.2.2.2.2.2=true
variable {s:A8}
theorem c1I{sg:J5}{k:Nat}{r:V8}(h:MK s sg k r=0):RuleV s sg k r:=by
 obtain⟨d,hd,hx⟩:=a0O h;unfold MK at h;cases g1:Ez r.1<;>rw[g1]at h
 .exact absurd (show(2:Int)=0 from h) G6
 cases g2:(s.2.2.2.2.take k).any λx=>seq x.1 r.1<;>rw[g2]at h
 case true=>exact absurd (show(7:Int)=0 from h) G6
 rw[hd]at h;simp only[o7,o6]at h;change l7 (a3s s k r) (9:Int) _=0 at h;cases b1:a3s s k r<;>rw[b1]at h
 case true=>exact absurd (show(9:Int)=0 from h) G6
 cases b2:E9 r.2.2.2.1 0<;>rw[b2]at h
 case true=>exact absurd (show(3:Int)=0 from h) G6
 cases b3:E9 9 r.2.2.2.1<;>rw[b3]at h
 case true=>exact absurd (show(3:Int)=0 from h) G6
 cases b4:HY r.2.2.2.2.1<;>rw[b4]at h
 case false=>exact absurd (show(3:Int)=0 from h) G6
 cases b5:x8 r.2.2.2.2.1.1 r.2.2.2.2.1.2<;>rw[b5]at h
 case true=>exact absurd (show(3:Int)=0 from h) G6
 cases b6:N7 8 (Lt (s.2.2.2.2.take k) r.2.1)<;>rw[b6]at h
 case true=>exact absurd (show(4:Int)=0 from h) G6
 cases b7:a1O r.2.2.2.2.2.2.2<;>rw[b7]at h
 case false=>exact absurd (show(2:Int)=0 from h) G6
 exact⟨g1,g2,⟨d,hd,hx⟩,b1,b2,b3,b4,b5,b6,b7⟩
variable {α:Type}{β:Type}
def FZ(eq:α->α->Bool)(l:List (α×β))(f:α->Option β):Prop:=∀k,Sv eq l k=(f k).isSome/\∀z,oQ eq l k z=(f k).getD z
theorem Rt(eq:α->α->Bool):FZ eq ([]:List (α×β)) (λ_=>none):=λ_=>⟨rfl,λ_=>rfl⟩
theorem WT{α β:Type}{eq:α->α->Bool}(hE:∀a b,eq a b=true↔a=b)(k:α)(x:β)(k' :α):∀(l:List (α×β)),Qb eq (Qc eq l k x) k' =(l7 (eq k' k) true (Qb eq l k'))/\∀z,JX eq (Qc eq l k x) k' z=l7 (eq k' k) x (JX eq l k' z)
 |[]=>by unfold Qc;simp only[Qb,JX];cases eq k' k<;>exact⟨rfl,λ_=>rfl⟩|p::r=>by
  have ih:=WT hE k x k' r;unfold Qc;cases hp:eq k p.1
  .simp only[cond_false,Qb,JX];cases hq:eq k' p.1
   .simp only[cond_false];exact ih
   .simp only[cond_true];cases hk:eq k' k
    .exact⟨rfl,λ_=>rfl⟩
    .exfalso;have h1:=(hE _ _).1 hq;have h2:=(hE _ _).1 hk;rw[←h2,h1]at hp;rw[(hE p.1 p.1).2 rfl]at hp;cases hp
  .have hp' :=(hE _ _).1 hp;subst hp';simp only[cond_true,Qb,JX];cases eq k' p.1<;>exact⟨rfl,λ_=>rfl⟩
variable {eq:α->α->Bool}{l:List (α×β)}{f:α->Option β}
theorem WO(hE:∀a b,eq a b=true↔a=b)(h:FZ eq l f)(k:α)(x:β):
  FZ eq (AU eq l k x) (λk' =>l7 (eq k' k) (some x) (f k')):=λk' =>by
 obtain⟨h1,h2⟩:=WT hE k x k' l;obtain⟨g1,g2⟩:=h k';refine⟨?_,λz=>?_⟩
 .show Qb eq (Qc eq l k x) k' =_;rw[h1,show Qb eq l k' =_ from g1];show _=(l7 (eq k' k) (some x) (f k')).isSome;cases eq k' k<;>rfl
 .show JX eq (Qc eq l k x) k' z=_;rw[h2 z,show JX eq l k' z=_ from g2 z];show _=(l7 (eq k' k) (some x) (f k')).getD z;cases eq k' k<;>rfl
theorem FZ.has(h:FZ eq l f)(k:α):Sv eq l k=(f k).isSome:=(h k).1
theorem FZ.get(h:FZ eq l f)(k:α)(z:β):oQ eq l k z=(f k).getD z:=(h k).2 z
theorem FZ.congr{f g:α->Option β}(h:FZ eq l f)(e:∀k,f k=g k):FZ eq l g:=λk=>by rw[←e k];exact h k
theorem b6X(a b:c9i×c9i):V9 (seq a.1 b.1) (seq a.2 b.2)=true↔a=b:=by unfold V9;rw[C9,ig,ig];exact⟨λh=>Y0 h.1 h.2,λh=>by subst h;exact⟨rfl,rfl⟩⟩
abbrev noS:A8:=([],0,[],[],[])
def ul{α:Type}(p:α->Bool):List α->Nat->Option (α×Int)
 |[],_=>none|a::r,i=>l7 (p a) (some (a,(i:Int))) (ul p r (i+1))
theorem PQ{α:Type}(p:α->Bool)(a:α):∀(l:List α) (i:Nat),ul p (l++[a]) i=(match ul p l i with|some x=>some x|none=>l7 (p a) (some (a,((i+l.length:Nat):Int))) none)
 |[],i=>by simp only[H9,ul,bT,bM]|b::r,i=>by
  simp only[Y7,ul];cases p b
  .simp only[o6];rw[PQ p a r (i+1),G8,show i+1+r.length=i+(r.length+1) by omega]
  .rfl
def Oj(s:A8)(n:c9i):Option (V8×Int):=ul (λr=>seq n r.1) s.2.2.2.2 0
def BP(l:S9)(n:c9i):Option (A8×Int):=ul (λs=>seq n s.1) l.2.2 0
def cpS(l:S9)(sn rn:c9i):A8×Int×Bool:=match BP l sn with
 |none=>(noS,0,false)
 |some x=>match Oj x.1 rn with
  |none=>(noS,0,false)|some y=>(x.1,y.2,true)
def b3y(l:S9)(X:List (c9i×jF)):Prop:=
 ∃f:c9i->Option jF,FZ (λ(a b:c9i)=>seq a b) X f/\∀n,match f n with
  |none=>BP l n=none|some x=>∃i,BP l n=some (x.1,i)/\FZ (λ(a b:c9i)=>seq a b) x.2 (λrn=>(Oj x.1 rn).map (·.2))
theorem b8p{l:List α}{i:Nat}{x:α×Nat}(h:l.zipIdx[i]? =some x):l[i]? =some x.1/\x.2=i:=by
 rw[um]at h;cases hl:l[i]? with
 |none=>rw[hl]at h;cases h|some a=>rw[hl]at h;simp only[aJ,H6]at h;subst h;exact⟨rfl,x9⟩
def b2b(X:List (c9i×Int))(x:V8×Nat):List (c9i×Int):=l7 (Sv (λ(a b:c9i)=>seq a b) X x.1.1) X (AU (λ(a b:c9i)=>seq a b) X x.1.1 (x.2:Int))
theorem a2x(rs:List V8):∀(i:Nat),i<=rs.length->FZ (λ(a b:c9i)=>seq a b) ((rs.zipIdx.take i).foldl b2b []) (λrn=>(ul (λr:V8=>seq rn r.1) (rs.take i) 0).map (·.2))
 |0,_=>by simpa[ul]using Rt _|i+1,h=>by
  have ih:=a2x rs i l9;have hl:i<rs.length:=l9;have e1:rs.zipIdx.take (i+1)=rs.zipIdx.take i++[(rs[i],i)]:=by rw[xF];congr 1;rw[um,dh hl];simp
  have e2:rs.take (i+1)=rs.take i++[rs[i]]:=by rw[xF,dh hl];rfl
  rw[e1,rO,e2];simp only[G9,List.foldl_nil,PQ,dF,az,bU (Nat.le_of_lt hl)];generalize (rs.zipIdx.take i).foldl b2b []=X at*;unfold b2b;simp only[ih.has];cases hf:ul (λr:V8=>seq rs[i].1 r.1) (rs.take i) 0 with
  |some x=>
   simp only[aJ,qG,o7];refine ih.congr λk=>?_;cases hk:ul (λr:V8=>seq k r.1) (rs.take i) 0 with
   |some y=>rfl|none=>
    cases hq:seq k rs[i].1
    .rfl
    .have:=ig.1 hq;subst this;rw[hk]at hf;cases hf
  |none=>
   simp only[uP,qF,o6];refine(WO (λa b=>ig) ih _ _).congr λk=>?_;cases hq:seq k rs[i].1
   .simp only[o6];cases ul (λr:V8=>seq k r.1) (rs.take i) 0<;>rfl
   .have:=ig.1 hq;subst this;rw[hf];rfl
def a2w(X:List (c9i×jF))(s:A8):List (c9i×jF):=
 l7 (Sv (λ(a b:c9i)=>seq a b) X s.1) X (AU (λ(a b:c9i)=>seq a b) X s.1 (s,s.2.2.2.2.zipIdx.foldl b2b []))
theorem a2y(l:S9):∀(i:Nat),i<=l.2.2.length->b3y (l.1,l.2.1,l.2.2.take i) ((l.2.2.take i).foldl a2w [])
 |0,_=>⟨λ_=>none,Rt _,λn=>rfl⟩|i+1,h=>by
  obtain⟨f,h1,h2⟩:=a2y l i l9;have hl:i<l.2.2.length:=l9;have e2:l.2.2.take (i+1)=l.2.2.take i++[l.2.2[i]]:=by rw[xF,dh hl];rfl
  rw[e2,rO];simp only[G9,List.foldl_nil];have hA:∀n,BP (l.1,l.2.1,l.2.2.take i++[l.2.2[i]]) n=(match BP (l.1,l.2.1,l.2.2.take i) n with|some x=>some x|none=>l7 (seq n l.2.2[i].1) (some (l.2.2[i],(i:Int))) none):=λn=>by unfold BP;simp only[PQ,dF,az,bU (Nat.le_of_lt hl)];cases ul (λs:A8=>seq n s.1) (l.2.2.take i) 0<;>rfl
  generalize (l.2.2.take i).foldl a2w []=X at*;unfold a2w;simp only[h1.has];cases hf:f l.2.2[i].1 with
  |some x=>
   simp only[qG,o7];refine⟨f,h1,λn=>?_⟩;have h3:=h2 n;rw[hA n];cases hn:f n with
   |some y=>rw[hn]at h3;obtain⟨j,h4,h5⟩:=h3;rw[h4];exact⟨j,rfl,h5⟩
   |none=>
    rw[hn]at h3;simp only at h3 ⊢;rw[h3];cases hq:seq n l.2.2[i].1
    .rfl
    .have:=ig.1 hq;subst this;rw[hn]at hf;cases hf
  |none=>
   simp only[qF,o6];refine⟨_,WO (λa b=>ig) h1 _ _,λn=>?_⟩;have h3:=h2 n;rw[hA n];cases hq:seq n l.2.2[i].1
   .simp only[o6];cases hn:f n with
    |some y=>rw[hn]at h3;obtain⟨j,h4,h5⟩:=h3;rw[h4];exact⟨j,rfl,h5⟩
    |none=>rw[hn]at h3;simp only at h3 ⊢;rw[h3]
   .have:=ig.1 hq;subst this;rw[hf]at h3;simp only at h3;rw[h3];simp only[o7];refine⟨_,rfl,?_⟩;have:=a2x l.2.2[i].2.2.2.2 l.2.2[i].2.2.2.2.length (F7 _);rw[show l.2.2[i].2.2.2.2.zipIdx.take l.2.2[i].2.2.2.2.length=l.2.2[i].2.2.2.2.zipIdx from U5 x9,bz]at this;exact this
theorem Yj{l:S9}(hL:SmL l):∃X,wV l=some X/\b3y l X:=by
 have hf:=hL.few.2.2;refine⟨l.2.2.foldl a2w [],?_,?_⟩
 .unfold wV;refine aO l.2.2 a2w (λb i=>(b,i)) (λb=>b) (λ_ _=>True) [] l9 trivial (λi s b hs hi _=>⟨?_,trivial⟩) (λb _=>?_) (λ_=>rfl)
  .have hS:=hL.sc s (iL hs);simp only[H5 hs,o7,F5,hs,o8];unfold a2w;cases Sv (λ(a b:c9i)=>seq a b) b s.1
   .simp only[o6];refine aO s.2.2.2.2.zipIdx b2b (λb i=>(b,i)) (λb=>b) (λ_ _=>True) [] (by have:=hS.nr;simp;omega) trivial (λj x c hx hj _=>⟨?_,trivial⟩) (λc _=>?_) (λ_=>?_)
    .obtain⟨hr,hj2⟩:=b8p hx;simp only[H5 hr,o7,F5,hr,o8];unfold b2b;rw[hj2];cases Sv (λ(a b:c9i)=>seq a b) c x.1.1<;>simp only[E5,aV,o7,o6,Z5 (show j<=9000000000000000000 by omega)]
    .simp only[List.length_zipIdx,G7];rfl
    .simp only[Z5 (show i<=9000000000000000000 by omega)]
   .simp only[o7,Z5 (show i<=9000000000000000000 by omega)]
  .simp only[G7];rfl
 .have:=a2y l l.2.2.length (F7 _);rwa[bz]at this
theorem PH{l:S9}{X:List (c9i×jF)}(h:b3y l X)(sn rn:c9i):kN X sn rn=some (cpS l sn rn):=by
 obtain⟨f,h1,h2⟩:=h;unfold kN cpS;rw[h1.has,h1.get];have h3:=h2 sn;cases hf:f sn with
 |none=>rw[hf]at h3;simp only at h3;rw[h3];rfl|some x=>rw[hf]at h3;obtain⟨i,h4,h5⟩:=h3;rw[h4];simp only[qG,E5,o6,aN,h5.has,h5.get];cases Oj x.1 rn<;>rfl
noncomputable def eqB {α:Type} (a b:α):Bool:=@decide (a=b) (Classical.propDecidable _)
variable {a:α}{b:α}
theorem Bo :eqB a b=true↔a=b:=by unfold eqB;exact @decide_eq_true_iff _ (Classical.propDecidable _)
theorem Hq(h:a=b):eqB a b=true:=Bo.2 h
theorem xY(h:a≠b):eqB a b=false:=by
 cases he:eqB a b
 .rfl
 .exact absurd (Bo.1 he) h
theorem LD{c d:β}(h:a=b↔c=d):eqB a b=eqB c d:=by rw[gu,Bo,Bo];exact h
theorem Bq(a b:List α):eqB (a.map λx=>x) (b.map λx=>x)=eqB a b:=x9
theorem b8q{α β:Type} :∀{a:List α} {b:List β} {i:Nat} {p:α×β},(a.zip b)[i]? =some p->a[i]? =some p.1/\b[i]? =some p.2
 |[],_,i,p,h=>by simp at h|_::_,[],i,p,h=>by simp at h|x::a,y::b,0,p,h=>by simp only[dR,iE,H6]at h;subst h;exact⟨rfl,rfl⟩|x::a,y::b,i+1,p,h=>by simp only[dR,List.getElem?_cons_succ]at h ⊢;exact b8q h
noncomputable def eqG {α β:Type} (g:α->β) (_:Unit) (p:α×α):Unit⊕Bool:=l7 (eqB (g p.1) (g p.2)) (.inl ()) (.inr false)
theorem b0r{α β:Type}(g:α->β):∀{a b:List α},a.length=b.length->aP (eqG g) (a.zip b) ()=l7 (eqB (a.map g) (b.map g)) (.inl ()) (.inr false)
 |[],[],_=>by rw[Hq rfl];rfl|[],_::_,h=>by cases h|_::_,[],h=>by cases h|x::a,y::b,h=>by
  have ih:=b0r g (a:=a) (b:=b) (by simpa using h);simp only[dR,gU];unfold aP;by_cases e:g x=g y
  .rw[show eqG g () (x,y)= .inl ()from by unfold eqG;rw[Hq e];rfl];rw[LD (show(g x::a.map g=g y::b.map g)↔a.map g=b.map g by rw[e];simp)];exact ih
  .rw[show eqG g () (x,y)= .inr false from by unfold eqG;rw[xY e];rfl];rw[xY (λh=>e (Z7 h).1)];rfl
theorem Nh(g:α->β)(q:α->α->Bool)(hq:∀x y,q x y=true↔g x=g y){a b:List α}(hl:a.length<=1000000){f:Int->Option (Out Int PUnit Bool)}
  (hin:∀(i:Nat) x y,a[i]? =some x->b[i]? =some y->f (i:Int)=l7 (D9 (q x y)) (some (.rt false)) (some (.nx (A7 .i64 (i:Int) 1)))) (hend:f (a.length:Int)=some (.ex PUnit.unit)):
  (l7 (D9 (x8 (o9 a) (o9 b))) (some false) (o5 (V7 f 0) λo=>X9 o (λ_=>some true) λr=>some r))=some (eqB (a.map g) (b.map g)):=by
 by_cases hab:a.length=b.length
 .rw[show x8 (o9 a) (o9 b)=true from J7 (by simp[o9,hab]),E5,o6];have hz:(a.zip b).length=a.length:=by simp[hab]
  refine kU (a.zip b) (eqG g) (λ_ i=>i) (λ_=>PUnit.unit) (λ_ _=>True) () l9 trivial (λi p _ hp hi _=>⟨?_,λ_ _=>trivial⟩) (λ_ _=>?_) (λ_=>?_)
  .obtain⟨h1,h2⟩:=b8q hp;rw[hin i _ _ h1 h2];unfold eqG;cases hqp:q p.1 p.2
   .have:¬g p.1=g p.2:=λe=>by rw[(hq _ _).2 e]at hqp;cases hqp
    rw[xY this];rfl
   .have:=(hq _ _).1 hqp;rw[Hq this,E5,o6,Z5 (show i<=9000000000000000000 by omega)];rfl
  .rw[hz];exact hend
  .rw[b0r g hab];cases eqB (a.map g) (b.map g)<;>rfl
 .rw[show x8 (o9 a) (o9 b)=false from J6 (by simp only[o9];omega),aV,o7];rw[xY (λe=>hab (by simpa using congrArg List.length e))]
theorem wF{a b:Bool} :V9 a b=true↔a=true/\b=true:=by simp[V9]
theorem b4o{a:List c9i}(b:List c9i)(h:a.length<=1000000):nU a b=some (eqB a b):=by
 unfold nU;rw[←Bq];refine Nh (λx=>x) (λx y=>seq x y) (λx y=>ig) h (λi x y hx hy=>?_) ?_
 .simp only[H5 hx,o7,F5,hx,hy,o8]
 .simp only[G7];rfl
theorem b4n{a:List rF}(b:List rF)(h:a.length<=1000000):lW a b=some (eqB a b):=by
 unfold lW;rw[←Bq];refine Nh (λx=>x) (λ(x y:rF)=>V9 (x8 x.1.1 y.1.1) (V9 (x8 x.1.2 y.1.2) (V9 (x8 x.2.1 y.2.1) (V9 (x8 x.2.2.1 y.2.2.1) (x8 x.2.2.2 y.2.2.2)))))
  (λx y=>by simp only[wF,O9,kZ,and_assoc]) h (λi x y hx hy=>?_) ?_
 .simp only[H5 hx,o7,F5,hx,hy,o8]
 .simp only[G7];rfl
theorem o_{a:List bH}(b:List bH)(h:a.length<=1000000):iK a b=some (eqB a b):=by
 unfold iK;rw[←Bq];refine Nh (λx=>x) (λ(x y:bH)=>V9 (seq x.1 y.1) (V9 (x8 x.2.1 y.2.1) (x8 x.2.2 y.2.2)))
  (λx y=>by simp only[wF,O9,ig,kZ]) h (λi x y hx hy=>?_) ?_
 .simp only[H5 hx,o7,F5,hx,hy,o8]
 .simp only[G7];rfl
theorem a2i{a:List ak}(b:List ak)(h:a.length<=1000000):jk a b=some (eqB a b):=by
 unfold jk;rw[←Bq];refine Nh (λx=>x) (λ(x y:ak)=>V9 (x8 x.1 y.1) (x8 x.2 y.2))
  (λx y=>by simp only[wF,O9,kZ]) h (λi x y hx hy=>?_) ?_
 .simp only[H5 hx,o7,F5,hx,hy,o8]
 .simp only[G7];rfl
theorem a7g{x:dB}(y:dB)(h:x.2.length<=1000000):Aj x y=some (eqB x y):=by
 unfold Aj;rw[b4o y.2 h,o8];by_cases e:x.1=y.1
 .rw[ig.2 e,o7];congr 1;exact LD ⟨λh=>Y0 e h,λh=>by rw[h]⟩
 .rw[Ot.2 e,o6,xY (λh=>e (by rw[h]))]
theorem a4H{x:bn}(y:bn)(h:x.2.2.2.length<=1000000):yQ x y=some (eqB x y):=by
 unfold yQ;rw[b4n y.2.2.2 h,o8];by_cases e:x=y
 .subst e;rw[ig.2 rfl,J7 rfl,J7 rfl,J7 rfl,J7 rfl,Hq rfl,Hq rfl];rfl
 .rw[xY e];by_cases e1:x.1=y.1
  case neg=>rw[Ot.2 e1];rfl
  rw[ig.2 e1,o7];cases h2:V9 (x8 x.2.1.1 y.2.1.1) (x8 x.2.1.2 y.2.1.2)
  .rfl
  cases h3:V9 (x8 x.2.2.1.1 y.2.2.1.1) (x8 x.2.2.1.2 y.2.2.1.2)
  .rfl
  simp only[wF,O9]at h2 h3;rw[o7,o7,xY];intro h4;exact e (Y0 e1 (Y0 (Y0 h2.1 h2.2) (Y0 (Y0 h3.1 h3.2) h4)))
def JE(s:A8):c9i×Int×List bH×List bH:=(s.1,s.2.1,s.2.2.1,s.2.2.2.1)
theorem a4G{x:A8}(y:A8)(h1:x.2.2.1.length<=1000000)(h2:x.2.2.2.1.length<=1000000):yP x y=some (eqB (JE x) (JE y)):=by
 unfold yP;rw[o_ y.2.2.1 h1,o8,o_ y.2.2.2.1 h2,o8];have key:JE x=JE y↔(x.1=y.1/\x.2.1=y.2.1/\x.2.2.1=y.2.2.1/\x.2.2.2.1=y.2.2.2.1):=by unfold JE;simp only[dG]
 by_cases e1:x.1=y.1
 case neg=>rw[Ot.2 e1,o6,xY (λh=>e1 (key.1 h).1)]
 by_cases e2:x.2.1=y.2.1
 case neg=>rw[ig.2 e1,o7,J6 e2,o6,xY (λh=>e2 (key.1 h).2.1)]
 by_cases e3:x.2.2.1=y.2.2.1
 case neg=>rw[ig.2 e1,o7,J7 e2,o7,xY e3,o6,xY (λh=>e3 (key.1 h).2.2.1)]
 rw[ig.2 e1,o7,J7 e2,o7,Hq e3,o7];congr 1;exact LD ⟨λh=>key.2 ⟨e1,e2,e3,h⟩,λh=>(key.1 h).2.2.2⟩
noncomputable def siS (a b:S9):Bool:=eqB a.1 b.1&&(eqB a.2.1 b.2.1&&eqB (a.2.2.map JE) (b.2.2.map JE))
theorem ML{a:S9}(b:S9)(hA:SmL a)(hT:∀t∈a.2.1,kR t)(hv:(dK a).1=0):uk a b=some (siS a b):=by
 have hf:=hA.few;unfold uk;have h1:bW a.1 b.1 ()=some (eqB a.1 b.1):=by
  unfold bW;rw[←Bq];refine Nh (λx=>x) (λ(x y:dB)=>eqB x y) (λx y=>Bo) (by have:=hf.1;omega) (λi x y hx hy=>?_) ?_
  .have:=Ui hv x (iL hx);simp only[H5 hx,o7,F5,hx,hy,o8,a7g y (show x.2.length<=1000000 by omega)]
  .simp only[G7];rfl
 have h2:bi a.2.1 b.2.1 ()=some (eqB a.2.1 b.2.1):=by
  unfold bi;rw[←Bq];refine Nh (λx=>x) (λ(x y:bn)=>eqB x y) (λx y=>Bo) (by have:=hf.2.1;omega) (λi x y hx hy=>?_) ?_
  .have:=(hT x (iL hx)).1;simp only[H5 hx,o7,F5,hx,hy,o8,a4H y (show x.2.2.2.length<=1000000 by omega)]
  .simp only[G7];rfl
 have h3:bg a.2.2 b.2.2 ()=some (eqB (a.2.2.map JE) (b.2.2.map JE)):=by
  unfold bg;refine Nh JE (λ(x y:A8)=>eqB (JE x) (JE y)) (λx y=>Bo) (by have:=hf.2.2;omega) (λi x y hx hy=>?_) ?_
  .have hS:=hA.sc x (iL hx);have hni:=hS.ni;have hnd:=hS.nd;simp only[H5 hx,o7,F5,hx,hy,o8,a4G y (show x.2.2.1.length<=1000000 by omega) (show x.2.2.2.1.length<=1000000 by omega)]
  .simp only[G7];rfl
 rw[h1,o8,h2,o8,h3,o8];unfold siS;cases eqB a.1 b.1<;>cases eqB a.2.1 b.2.1<;>rfl
def a3B(s:A8)(d:Int):c9i:=match F9 s.2.2.2.1 d with|some f=>f.1|none=>[]
def a6D(s:A8)(d:Int):c9i:=match F9 s.2.2.2.2 d with|some f=>f.1|none=>[]
def prS(s:A8)(r:V8):qX:=(a3B s r.2.1,a6D s r.2.2.1,r.2.2.2.1,r.2.2.2.2.1,r.2.2.2.2.2.2.2)
theorem TL{l:List α}{d:Int}(h0:N7 0 d=true)(h1:E9 d (o9 l)=true):∃x,F9 l d=some x:=by
 rw[jJ]at h0;rw[iW]at h1;simp only[o9]at h1;refine⟨l[d.toNat]'l9,?_⟩;unfold F9
 rw[if_pos h0,dh]
theorem OU(s:A8)(r:V8):qg s r=some (prS s r):=by
 unfold qg;have h1:(l7 (N7 0 r.2.1) (l7 (E9 r.2.1 (o9 s.2.2.2.1)) (o5 (F9 s.2.2.2.1 r.2.1) λ(x:bH)=>some ((x.1,[],r.2.2.2.1,r.2.2.2.2.1,r.2.2.2.2.2.2.2):qX))
   (some ([],[],r.2.2.2.1,r.2.2.2.2.1,r.2.2.2.2.2.2.2))) (some ([],[],r.2.2.2.1,r.2.2.2.2.1,r.2.2.2.2.2.2.2)))=some ((a3B s r.2.1,[],r.2.2.2.1,r.2.2.2.2.1,r.2.2.2.2.2.2.2):qX):=by
  unfold a3B;cases h0:N7 0 r.2.1
  .rw[kw (.inl h0)];rfl
  cases h1:E9 r.2.1 (o9 s.2.2.2.1)
  .rw[kw (.inr h1)];rfl
  obtain⟨x,hx⟩:=TL h0 h1;rw[hx];rfl
 rw[h1,o8];unfold prS a6D;cases h0:N7 0 r.2.2.1
 .rw[kw (.inl h0)];rfl
 cases h1:E9 r.2.2.1 (o9 s.2.2.2.2)
 .rw[kw (.inr h1)];rfl
 obtain⟨x,hx⟩:=TL h0 h1;rw[hx];rfl
abbrev trS(s:A8)(p:V8):qX×List ak×List ak:=(prS s p,p.2.2.2.2.2.1,p.2.2.2.2.2.2.1)
noncomputable def srS (s:A8) (p:V8) (t:A8) (q:V8):Bool:=eqB (trS s p) (trS t q)
theorem a7h{s t:A8}{i j:Int}{p q:V8}(hp:F9 s.2.2.2.2 i=some p)(hq:F9 t.2.2.2.2 j=some q)(h1:p.2.2.2.2.2.1.length<=1000000)(h2:p.2.2.2.2.2.2.1.length<=1000000):
  Ak s i t j=some (srS s p t q):=by
 unfold Ak;rw[hp,o8,hq,o8,OU,o8,OU,o8,a2i q.2.2.2.2.2.1 h1,o8,a2i q.2.2.2.2.2.2.1 h2,o8];unfold srS trS;generalize prS s p=x;generalize prS t q=y;have hb:V9 (seq x.1 y.1) (V9 (seq x.2.1 y.2.1) (V9 (x8 x.2.2.1 y.2.2.1) (V9 (x8 x.2.2.2.1.1 y.2.2.2.1.1) (V9 (x8 x.2.2.2.1.2 y.2.2.2.1.2) (seq x.2.2.2.2 y.2.2.2.2)))))=eqB x y:=by rw[gu];simp only[wF,O9,ig,Bo,kZ,and_assoc]
 rw[hb];have key:(x,p.2.2.2.2.2.1,p.2.2.2.2.2.2.1)=(y,q.2.2.2.2.2.1,q.2.2.2.2.2.2.1)↔(x=y/\p.2.2.2.2.2.1=q.2.2.2.2.2.1/\p.2.2.2.2.2.2.1=q.2.2.2.2.2.2.1):=by simp only[dG]
 by_cases e:x=y
 case neg=>rw[xY e,o6,xY (λh=>e (key.1 h).1)]
 by_cases e2:p.2.2.2.2.2.1=q.2.2.2.2.2.1
 case neg=>rw[Hq e,o7,xY e2,o6,xY (λh=>e2 (key.1 h).2.1)]
 rw[Hq e,o7,Hq e2,o7];congr 1;exact LD ⟨λh=>key.2 ⟨e,e2,h⟩,λh=>(key.1 h).2.2⟩
theorem EO{α:Type}{p:α->Bool} :∀{l:List α} {k:Nat} {a:α} {i:Int},ul p l k=some (a,i)->∃j:Nat,l[j]? =some a/\i=((k+j:Nat):Int)/\p a=true/\∀j' b,j' <j->l[j']? =some b->p b=false
 |[],_,_,_,h=>by cases h|b::r,k,a,i,h=>by
  unfold ul at h;cases hp:p b<;>rw[hp]at h
  .simp only[o6]at h;obtain⟨j,h1,h2,h3,h4⟩:=EO h;refine⟨j+1,by simpa using h1,by rw[h2];congr 1;omega,h3,λj' c hj hc=>?_⟩;cases j' with
   |zero=>simp at hc;subst hc;exact hp|succ j' =>exact h4 j' c l9 (by simpa using hc)
  .simp only[o7,H6,dG]at h;obtain⟨rfl,rfl⟩:=h;exact⟨0,rfl,rfl,hp,λj' c hj=>by omega⟩
theorem XX{α:Type}{p:α->Bool} :∀{l:List α} {k:Nat},ul p l k=none->∀a∈l,p a=false
 |[],_,_,_,h=>by cases h|b::r,k,h,a,ha=>by
  unfold ul at h;cases hp:p b<;>rw[hp]at h
  .rcases D5.1 ha with rfl|ha
   .exact hp
   .exact XX (show ul p r (k+1)=none from h) a ha
  .cases h
variable {i:Int}
theorem a9h{n:c9i}{r:V8}(h:Oj s n=some (r,i)):F9 s.2.2.2.2 i=some r/\r.1=n/\r∈s.2.2.2.2:=by obtain⟨j,h1,h2,h3,_⟩:=EO h;refine⟨by rw[h2,dF,F5];exact h1,(ig.1 h3).symm,iL h1⟩
theorem a7i{l:S9}{n:c9i}(h:BP l n=some (s,i)):s.1=n/\s∈l.2.2:=by obtain⟨j,h1,h2,h3,_⟩:=EO h;exact⟨(ig.1 h3).symm,iL h1⟩
def cpR(l:S9)(sn rn:c9i):Option (A8×V8):=match BP l sn with
 |none=>none
 |some x=>(Oj x.1 rn).map λy=>(x.1,y.1)
theorem QV(l:S9)(sn rn:c9i):(cpR l sn rn=none/\(cpS l sn rn).2.2=false)\/∃t q j,cpR l sn rn=some (t,q)/\cpS l sn rn=(t,j,true)/\F9 t.2.2.2.2 j=some q/\t∈l.2.2/\t.1=sn/\q∈t.2.2.2.2/\q.1=rn:=by
 unfold cpR cpS;cases hs:BP l sn with
 |none=>exact .inl ⟨rfl,rfl⟩|some x=>
  obtain⟨t,i⟩:=x;obtain⟨h1,h2⟩:=a7i hs;simp only;cases hr:Oj t rn with
  |none=>exact .inl ⟨rfl,rfl⟩|some y=>obtain⟨q,j⟩:=y;obtain⟨h3,h4,h5⟩:=a9h hr;exact .inr ⟨t,q,j,rfl,rfl,h3,h2,h1,h5,h4⟩
noncomputable def GZ (b:S9) (s:A8) (r:V8):List O0:=match cpR b s.1 r.1 with
 |none=>[(s.1,r.1,1)]|some x=>l7 (srS s r x.1 x.2) [] [(s.1,r.1,3)]
def MQ(a:S9)(s:A8)(r:V8):List O0:=match cpR a s.1 r.1 with
 |none=>[(s.1,r.1,2)]|some _=>[]
noncomputable def Sl (a b:S9):List O0:=(a.2.2.flatMap λs=>s.2.2.2.2.flatMap (GZ b s))++b.2.2.flatMap λs=>s.2.2.2.2.flatMap (MQ a s)
theorem wO{α β:Type}(g:α->List β):∀(l:List α) (b:List β),l.foldl (λacc x=>acc++g x) b=b++l.flatMap g
 |[],b=>by simp|a::l,b=>by rw[G9,wO g l,kK,F8]
theorem Jw(b:S9)(s:A8)(r:V8):(GZ b s r).length<=1:=by
 unfold GZ;split
 .exact F7 _
 .cases srS s r _ _<;>simp[l7]
theorem Pv(b:S9)(s:A8)(r:V8):(MQ b s r).length<=1:=by unfold MQ;split<;>simp
theorem pX{α β:Type}(g:α->List β)(m:Nat):∀{l:List α},(∀a∈l,(g a).length<=m)->(l.flatMap g).length<=m*l.length
 |[],_=>by simp
 |a::l,h=>by have h1:=pX g m (l:=l) λx hx=>h x (by simp[hx]);have h2:=h a x9;rw[kK,E8,G8,Nat.mul_add];omega
theorem yg{xs ys:List α}(h:xs.length+ys.length<=1073741824):di xs ys=some (xs++ys):=by unfold di;rw[if_pos h]
theorem OJ{a b:S9}(hA:SmL a)(hB:SmL b):uQ a b=some (Sl a b):=by
 obtain⟨XA,hXA,iA⟩:=Yj hA;obtain⟨XB,hXB,iB⟩:=Yj hB;have fA:=hA.few.2.2;have fB:=hB.few.2.2;unfold uQ Sl;rw[hXA,o8,hXB,o8];have e0:=wO (λs:A8=>s.2.2.2.2.flatMap (GZ b s)) a.2.2 [];rw[H9]at e0;have hlen:(a.2.2.flatMap λs=>s.2.2.2.2.flatMap (GZ b s)).length<=60*a.2.2.length:=pX _ 60 λs hs=>by have:=pX (GZ b s) 1 (l:=s.2.2.2.2) (λr _=>Jw b s r);have h2:=(hA.sc s hs).nr;omega
 refine aO a.2.2 (λ(acc:List O0) s=>acc++s.2.2.2.2.flatMap (GZ b s)) (λb i=>(b,i)) (λb=>b) (λi acc=>acc.length<=60*i) [] l9 x9 (λi s acc hs hi hI=>?_) (λacc hI=>?_) (λ_=>?_)
 .have hS:=hA.sc s (iL hs);have hlt:=(V6.1 hs).1;have hn:=hS.nr;have hl1:=pX (GZ b s) 1 (l:=s.2.2.2.2) (λr _=>Jw b s r);refine⟨?_,by rw[E8];omega⟩;simp only[H5 hs,o7,F5,hs,o8];have e1:=wO (GZ b s) s.2.2.2.2 acc;refine aO s.2.2.2.2 (λ(acc:List O0) r=>acc++GZ b s r) (λb i=>(b,i)) (λb=>b) (λj c=>c.length<=60*i+j) acc l9 l9 (λj r c hr hj hJ=>?_) (λc hJ=>?_) (λ_=>?_)
  .have hjl:=(V6.1 hr).1;obtain⟨_,g1,g2⟩:=hS.ro r (iL hr);have hrl:=Jw b s r;refine⟨?_,by rw[E8];omega⟩;simp only[H5 hr,o7,F5,hr,o8,PH iB];have e2:=Z5 (show j<=9000000000000000000 by omega);rcases QV b s.1 r.1 with⟨q1,q2⟩|⟨t,q,k,q1,q2,q3,q4,q5,q6,q7⟩
   .rw[q2];unfold GZ;rw[q1];simp only[aV,o7];rw[yg Y2,o8,e2]
   .rw[q2];have hsr:=a7h (s:=s) (t:=t) (i:=(j:Int)) (j:=k) (p:=r) (q:=q) (by rw[F5];exact hr) q3 l9 l9;simp only[E5,o6,hsr,o8];unfold GZ;rw[q1];simp only;cases srS s r t q
    .simp only[aV,o7,o6];rw[yg Y2,o8,e2]
    .simp only[E5,o7,o6,H8,e2]
  .simp only[G7];rfl
  .rw[e1];simp only[Z5 (show i<=9000000000000000000 by omega)]
 .simp only[G7];rfl
 rw[e0];generalize (a.2.2.flatMap λs=>s.2.2.2.2.flatMap (GZ b s))=base at*;have e3:=wO (λs:A8=>s.2.2.2.2.flatMap (MQ a s)) b.2.2 base;refine aO b.2.2 (λ(acc:List O0) s=>acc++s.2.2.2.2.flatMap (MQ a s)) (λb i=>(b,i)) (λb=>b) (λi acc=>acc.length<=60000+60*i) base l9 l9 (λi s acc hs hi hI=>?_) (λacc hI=>?_) (λ_=>by rw[e3])
 .have hS:=hB.sc s (iL hs);have hlt:=(V6.1 hs).1;have hn:=hS.nr;have hl1:=pX (MQ a s) 1 (l:=s.2.2.2.2) (λr _=>Pv a s r);refine⟨?_,by rw[E8];omega⟩;simp only[H5 hs,o7,F5,hs,o8];have e1:=wO (MQ a s) s.2.2.2.2 acc;refine aO s.2.2.2.2 (λ(acc:List O0) r=>acc++MQ a s r) (λb i=>(b,i)) (λb=>b) (λj c=>c.length<=60000+60*i+j) acc l9 l9 (λj r c hr hj hJ=>?_) (λc hJ=>?_) (λ_=>?_)
  .have hjl:=(V6.1 hr).1;have hrl:=Pv a s r;refine⟨?_,by rw[E8];omega⟩;simp only[H5 hr,o7,F5,hr,o8,PH iA];have e2:=Z5 (show j<=9000000000000000000 by omega);rcases QV a s.1 r.1 with⟨q1,q2⟩|⟨t,q,k,q1,q2,q3,q4,q5,q6,q7⟩
   .rw[q2];unfold MQ;rw[q1];simp only[aV,o7];rw[yg Y2,o8,e2]
   .rw[q2];unfold MQ;rw[q1];simp only[E5,o6,H8,e2]
  .simp only[G7];rfl
  .rw[e1];simp only[Z5 (show i<=9000000000000000000 by omega)]
 .simp only[G7];rfl
end
end Go.GP
