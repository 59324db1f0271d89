import Derived.Test.YtljnhmnnahpnaaaGreatDoorT4
import Derived.Lib.ItoaLen
set_option linter.all false
namespace Go.GP
open Gt
set_option maxRecDepth 100000
section
def mdS(c num den mode:Int):Int×Int:=l9 (oQ mode) (l9 (x8 den 0) (0,12) (l9 (kV c 1000000000000000) (0,3) (l9 (kV num 1000000000) (0,3) (l9 (kV den 1000000000) (0,3)
 (l9 (E8 1000000000000000 (q1 (X9 c*X9 num / X9 den) (upS (X9 c*X9 num / X9 den) (X9 c*X9 num % X9 den) (X9 den) (F6 (kU (F6 (kU (E8 c 0) (E8 num 0))) (E8 den 0))) mode))) (0,3)
  (sg (q1 (X9 c*X9 num / X9 den) (upS (X9 c*X9 num / X9 den) (X9 c*X9 num % X9 den) (X9 den) (F6 (kU (F6 (kU (E8 c 0) (E8 num 0))) (E8 den 0))) mode)) (F6 (kU (F6 (kU (E8 c 0) (E8 num 0))) (E8 den 0))),0)))))) (0,1)
theorem Qb{a b:Int}(a0:0<=a)(a1:a<18446744073709551616)(b0:0<=b)(b1:b<18446744073709551616):uP a b=some (a*b / 18446744073709551616,a*b % 18446744073709551616):=by unfold uP;rw[if_pos ⟨a0,a1,b0,b1⟩]
theorem a7y(c num den mode:Int):EC c num den mode=some (mdS c num den mode):=by
 unfold EC mdS;rw[BR,o8];cases oQ mode
 ·rfl
 simp only[E5,o6,o7];cases hd:x8 den 0
 case true=>rfl
 rw[DV]at hd;simp only[o6];rw[wG c l7 l7,o8];cases h1:kV c 1000000000000000
 case true=>rfl
 rw[wG num l7 l7];cases h2:kV num 1000000000
 case true=>rfl
 rw[wG den l7 l7];cases h3:kV den 1000000000
 case true=>rfl
 have b1:=qg h1;have b2:=qg h2;have b3:=qg h3;have a1:=lJ c;have a2:=yu b1;have x1:=lJ num;have x2:=yu b2;have d1:=Lc hd;have d2:=yu b3;simp only[o6,o8,N7];rw[Bl l7 l7,o8,Bl l7 l7,o8,Qb a1 l7 x1 l7,o8,Bl l7 l7,o8];have hA:0<=X9 c*X9 num:=P6 a1 x1;generalize X9 c*X9 num=A at*;generalize X9 den=b at*;have hre:A / 18446744073709551616*18446744073709551616+A % 18446744073709551616=A:=l7;have q:=Xm (A / b) (upS (A / b) (A % b) b (F6 (kU (F6 (kU (E8 c 0) (E8 num 0))) (E8 den 0))) mode);have hdm:=U5 A b;have e2:=P5 A (show b≠0 by omega);have e3:=N9 A d1;have e0:=V7 hA (show 0<=b by omega);by_cases hh:b<=A / 18446744073709551616
 ·have hge:18446744073709551616<=A / b:=qV d1 l7;rw[V5 hh,O0 (show(1000000000000000:Int)<q1 (A / b) (upS (A / b) (A % b) b (F6 (kU (F6 (kU (E8 c 0) (E8 num 0))) (E8 den 0))) mode) by omega)];rfl
 ·rw[V9 l7,o6,VM l7 l7 l7 l7 l7,o8,hre];simp only;by_cases hM:1000000000000000<A / b
  ·rw[O0 hM,O0 (show(1000000000000000:Int)<q1 (A / b) (upS (A / b) (A % b) b (F6 (kU (F6 (kU (E8 c 0) (E8 num 0))) (E8 den 0))) mode) by omega)];rfl
  ·rw[J6 l7,o6,Uj _ _ e0 l7 e2 e3 l7,o8];cases hq:E8 1000000000000000 (q1 (A / b) (upS (A / b) (A % b) b (F6 (kU (F6 (kU (E8 c 0) (E8 num 0))) (E8 den 0))) mode))
   ·rw[jv]at hq;rw[o6,ZY _ l7 l7];rfl
   ·rfl
theorem a8U{q:Int}(h:0<=q)(neg:Bool){m:Int}(hm:0<=m):kV (sg q neg) m=E8 m q:=by rw[jA,OX,jl];unfold sg;cases neg<;>simp only[o7,o6]<;>omega
theorem a4B(c num den mode:Int):c6K c num den mode=some (mdS c num den mode):=by
 unfold c6K mdS;rw[Qp,o8];cases oQ mode
 ·rfl
 simp only[E5,o6,o7];cases hd:x8 den 0
 case true=>rfl
 rw[DV]at hd;simp only[o6];rw[uA c l7 l7,o8];cases h1:kV c 1000000000000000
 case true=>rfl
 rw[uA num l7 l7];cases h2:kV num 1000000000
 case true=>rfl
 rw[uA den l7 l7];cases h3:kV den 1000000000
 case true=>rfl
 have b1:=qg h1;have b2:=qg h2;have b3:=qg h3;have a1:=lJ c;have a2:=yu b1;have x1:=lJ num;have x2:=yu b2;have d1:=Lc hd;have d2:=yu b3;simp only[o6,o8,N7];rw[Nk l7 l7,o8,Nk l7 l7,o8,Nk l7 l7,o8];generalize F6 (kU (F6 (kU (E8 c 0) (E8 num 0))) (E8 den 0))=neg;generalize X9 c=a at*;generalize X9 num=x at*;generalize X9 den=b at*;have hdm:=U5 a b;have f0:=V7 a1 (show 0<=b by omega);have f1:=P5 a (show b≠0 by omega);have f2:=N9 a d1;have m1:0<=a % b*x:=P6 f1 x1;have m2:a % b*x<=1000000000*1000000000:=jX l7 x2 x1 l7;have m3:0<=a / b*x:=P6 f0 x1;have hA:a*x=a / b*x*b+a % b*x:=by
  calc a*x=(a / b*b+a % b)*x:=by rw[hdm]
   _=_:=by rw[gY,jf]
 have hQ:a*x / b=a / b*x+a % b*x / b:=by rw[hA,Int.add_comm,ak _ _ l7,Int.add_comm]
 have hR:a*x % b=a % b*x % b:=by rw[hA,Int.add_comm,bn]
 have g0:=V7 m1 (show 0<=b by omega);have g1:=dN b m1;have g2:=P5 (a % b*x) (show b≠0 by omega);have g3:=N9 (a % b*x) d1;have tail:a / b*x<=1000000000000000->(o5 (Le a b) λ(x_5:Int)=>o5 (some (a / b)) λ(x_8:Int)=>o5 (FI .i64 (dF .i64 x_5 x) b) λ(x_6:Int)=>o5 (Le (dF .i64 x_5 x) b) λ(x_7:Int)=>
   o5 (c6q (D6 .i64 (dF .i64 x_8 x) x_6) x_7 b neg mode) λ(x_9:Int)=>o5 (c6k x_9 1000000000000000) λ(x_8:Bool)=>l9 x_8 (some ((0:Int),(3:Int))) (some (x_9,0)))=
   some (l9 (E8 1000000000000000 (q1 (a*x / b) (upS (a*x / b) (a*x % b) b neg mode))) (0,3) (sg (q1 (a*x / b) (upS (a*x / b) (a*x % b) b neg mode)) neg,0)):=by
  intro hle;have q:=Xm (a / b*x+a % b*x / b) (upS (a / b*x+a % b*x / b) (a % b*x % b) b neg mode);rw[Aj a1 d1,o8,o8,lK (show bQ (a % b*x) by unfold bQ;omega),wI m1 l7 d1,o8,Aj m1 d1,o8,lK (show bQ (a / b*x) by unfold bQ;omega),U7 (show bQ (a / b*x+a % b*x / b) by unfold bQ;omega),
   Dy _ _ l7 l7 g2 g3 l7,o8,uA _ l7 l7,o8,a8U l7 _ l7,hQ,hR]
  cases E8 1000000000000000 (q1 (a / b*x+a % b*x / b) (upS (a / b*x+a % b*x / b) (a % b*x % b) b neg mode))<;>rfl
 by_cases hx:0<x
 ·rw[O0 hx,o7,wI a1 l7 d1,o8,wI l7 l7 hx,o8];have hMx:=U5 1000000000000000 x;have hMr:=N9 1000000000000000 hx;have hMr0:=P5 1000000000000000 (show x≠0 by omega);by_cases hc:1000000000000000 / x<a / b
  ·have:=O6 (show 1000000000000000 / x+1<=a / b by omega) x1;rw[gY,eF]at this;have q:=Xm (a*x / b) (upS (a*x / b) (a*x % b) b neg mode);rw[O0 hc,O0 (show(1000000000000000:Int)<q1 (a*x / b) (upS (a*x / b) (a*x % b) b neg mode) by omega)];rfl
  ·have:=O6 (show a / b<=1000000000000000 / x by omega) x1;rw[J6 l7,o6];exact tail l7
 ·have:x=0:=l7;rw[J6 l7,o6,wI a1 l7 d1];exact tail (by subst this;simp)
theorem a8O(c r mode:Int):FZ c r mode=some (mdS c r 1000000 mode):=by unfold FZ;rw[a7y];rfl
theorem a7S(c r mode:Int):c6I c r mode=some (mdS c r 1000000 mode):=by unfold c6I;rw[a4B];rfl
theorem a1y{n d:Int}(h1:-9000000000000000000<=n)(h2:n<=9000000000000000000)(hd:0<d)(hd2:d<=9000000000000000000):c6J n d=some (n / d,n % d):=by
 unfold c6J FI Le;rw[if_neg l7,if_neg l7,o8,o8];by_cases h0:0<=n
 ·have e0:=V7 h0 (show 0<=d by omega);have e1:=dN d h0;have e2:=P5 n (show d≠0 by omega);rw[jG h0,dU h0,kX L8,J6 e2];rfl
 ·obtain⟨m,hm⟩:∃m,m=-n:=⟨_,rfl⟩;have hn:n=-m:=l7;subst hn;have e0:=V7 (show 0<=m by omega) (show 0<=d by omega);have e1:=dN d (show 0<=m by omega);have e2:=P5 m (show d≠0 by omega);have e3:=N9 m hd;have hdm:=U5 m d;rw[Int.neg_tdiv,Int.neg_tmod,jG l7,dU l7,kX L8];by_cases hz:m % d=0
  ·rw[hz,show -(0:Int)=0 from rfl,J6 l7,o6];have hme:-m=0+(-(m / d))*d:=by rw[jO];omega
   have q1:-m / d=-(m / d):=by rw[hme,ak _ _ l7];simp
   have q2:-m % d=0:=by rw[hme,bn];simp
   rw[q1,q2]
  ·rw[O0 l7,o7,O5 L8,U7 L8];have hme:-m=(d -m % d)+(-(m / d) -1)*d:=by rw[lM,jO,eF];omega
   have q1:-m / d=-(m / d) -1:=by rw[hme,ak _ _ l7,lU l7 l7];omega
   have q2:-m % d=d -m % d:=by rw[hme,bn,Int.emod_eq_of_lt l7 l7]
   rw[q1,q2,show -(m % d)+d=d -m % d by omega]
theorem Ha{m:Int}(h:oQ m=true):m=0\/m=1\/m=2\/m=3\/m=4\/m=5:=by
 unfold oQ at h;cases h0:L9 0 m<;>rw[h0]at h
 ·cases h
 ·simp only[o7]at h;rw[lT]at h0 h;omega
theorem Ht{n d mode:Int}(h1:-9000000000000000000<=n / d)(h2:n / d<=9000000000000000000)(hd:0<d)(hd2:d<=9000000000000000000)(hm:oQ mode=true):c6h (n / d) (n % d) d mode=some (rnd n d mode):=by
 have hdm:=U5 n d;have f0:=P5 n (show d≠0 by omega);have f1:=N9 n hd;have hid:X9 d=d:=by unfold X9;rw[if_neg l7]
 have hneg:F6 (kU (E8 n 0) (E8 d 0))=E8 n 0:=by rw[J6 (show(0:Int)<=d by omega)];cases E8 n 0<;>rfl
 unfold rnd;rw[hid,hneg];have R0:∀F R:Int,c6h F R d 0=l9 (x8 R 0) (some F) (some F):=λF R=>rfl;have R1:∀F R:Int,c6h F R d 1=l9 (x8 R 0) (some F) (some (D6 .i64 F 1)):=λF R=>rfl;have R2:∀F R:Int,c6h F R d 2=l9 (x8 R 0) (some F) (o5 (l9 (E8 F 0) (some true) (some false)) λx=>l9 x (some (D6 .i64 F 1)) (some F)):=λF R=>rfl;have R3:∀F R:Int,c6h F R d 3=l9 (x8 R 0) (some F) (o5 (some (L9 0 F)) λx=>l9 x (some (D6 .i64 F 1)) (some F)):=λF R=>rfl;have R4:∀F R:Int,c6h F R d 4=l9 (x8 R 0) (some F) (l9 (x8 R (H8 .i64 d R)) (l9 (L9 0 F) (some (D6 .i64 F 1)) (some F)) (l9 (E8 (H8 .i64 d R) R) (some (D6 .i64 F 1)) (some F))):=λF R=>rfl;have R5:∀F R:Int,c6h F R d 5=l9 (x8 R 0) (some F) (l9 (x8 R (H8 .i64 d R)) (l9 (F6 (x8 (jk F 2) 0)) (some (D6 .i64 F 1)) (some F)) (l9 (E8 (H8 .i64 d R) R) (some (D6 .i64 F 1)) (some F))):=λF R=>rfl;have u0:∀q r:Int,∀b,upS q r d b 0=l9 (x8 r 0) false b:=λq r b=>rfl;have u1:∀q r:Int,∀b,upS q r d b 1=l9 (x8 r 0) false (F6 b):=λq r b=>rfl;have u2:∀q r:Int,∀b,upS q r d b 2=l9 (x8 r 0) false false:=λq r b=>rfl;have u3:∀q r:Int,∀b,upS q r d b 3=l9 (x8 r 0) false true:=λq r b=>rfl;have u4:∀q r:Int,∀b,upS q r d b 4=l9 (x8 r 0) false (L9 (d -r) r):=λq r b=>rfl;have u5:∀q r:Int,∀b,upS q r d b 5=l9 (x8 r 0) false (l9 (E8 (d -r) r) true (l9 (x8 r (d -r)) (x8 (jk q 2) 1) false)):=λq r b=>rfl;by_cases h0:0<=n
 ·have e0:=V7 h0 (show 0<=d by omega);have e1:=dN d h0;rw[show X9 n=n by unfold X9;rw[if_neg l7],J6 h0];have hi:D6 .i64 (n / d) 1=n / d+1:=U7 L8;have hs:H8 .i64 d (n % d)=d -n % d:=O5 L8;have hir:jk (n / d) 2=(n / d) % 2:=xA e0;generalize n / d=F at*;generalize n % d=R at*;rcases Ha hm with rfl|rfl|rfl|rfl|rfl|rfl
  ·rw[R0,u0];cases x8 R 0<;>rfl
  ·rw[R1,u1,hi];cases x8 R 0<;>rfl
  ·rw[R2,u2,hi,J6 e0];cases x8 R 0<;>rfl
  ·rw[R3,u3,hi,V5 e0];cases x8 R 0<;>rfl
  ·rw[R4,u4,hi,hs,V5 e0];cases x8 R 0
   case true=>rfl
   by_cases ht:R=d -R
   ·rw[O8 ht,V5 (show d -R<=R by omega)];rfl
   ·rw[J3 ht];by_cases hl:d -R<R
    ·rw[O0 hl,V5 (show d -R<=R by omega)];rfl
    ·rw[J6 (show R<=d -R by omega),V9 (show R<d -R by omega)];rfl
  ·rw[R5,u5,hi,hs,hir];cases x8 R 0
   case true=>rfl
   by_cases ht:R=d -R
   ·rw[O8 ht,J6 (show R<=d -R by omega)];by_cases hp:F % 2=0
    ·rw[O8 hp,J3 (show F % 2≠1 by omega)];rfl
    ·rw[J3 hp,O8 (show F % 2=1 by omega)];rfl
   ·rw[J3 ht];by_cases hl:d -R<R
    ·rw[O0 hl];rfl
    ·rw[J6 (show R<=d -R by omega)];rfl
 ·obtain⟨m,hmm⟩:∃m,m=-n:=⟨_,rfl⟩;have e0:=V7 (show 0<=m by omega) (show 0<=d by omega);have e1:=dN d (show 0<=m by omega);have e2:=P5 m (show d≠0 by omega);have e3:=N9 m hd;have hdm2:=U5 m d;rw[show X9 n=m by unfold X9;rw[if_pos l7];omega,O0 l7];by_cases hz:m % d=0
  ·have hne:n=0+(-(m / d))*d:=by rw[jO];omega
   have q1:n / d=-(m / d):=by rw[hne,ak _ _ l7];simp
   have q2:n % d=0:=by rw[hne,bn];simp
   rw[q1,q2,hz];rcases Ha hm with rfl|rfl|rfl|rfl|rfl|rfl<;>rfl
  ·have hne:n=(d -m % d)+(-(m / d) -1)*d:=by rw[lM,jO,eF];omega
   have q1:n / d=-(m / d) -1:=by rw[hne,ak _ _ l7,lU l7 l7];omega
   have q2:n % d=d -m % d:=by rw[hne,bn,Int.emod_eq_of_lt l7 l7]
   rw[q1]at h1 h2;rw[q1,q2];generalize m / d=q at*;generalize m % d=r at*;have hi:D6 .i64 (-q -1) 1=-q:=by rw[U7 L8];omega
   have hs:H8 .i64 d (d -r)=r:=by rw[O5 L8];omega
   have hF:∀k:Int,Go.GP.q1 q false=q/\Go.GP.q1 q true=q+1:=λk=>⟨rfl,rfl⟩;have sg1:sg (Go.GP.q1 q true) true=-q -1:=by show -(q+1)=-q -1;omega
   have sg0:sg (Go.GP.q1 q false) true=-q:=rfl;have hr0:x8 (d -r) 0=false:=J3 l7;have hr1:x8 r 0=false:=J3 hz;rcases Ha hm with rfl|rfl|rfl|rfl|rfl|rfl
   ·rw[R0,u0,hr0,hr1,o6,o6,sg1]
   ·rw[R1,u1,hi,hr0,hr1,o6,o6,E5,sg0]
   ·rw[R2,u2,hi,hr0,hr1,o6,o6,sg0,O0 l7];rfl
   ·rw[R3,u3,hi,hr0,hr1,o6,o6,sg1,V9 l7];rfl
   ·rw[R4,u4,hi,hs,hr0,hr1,o6,o6,V9 (show -q -1<0 by omega)];by_cases ht:d -r=r
    ·rw[O8 ht,V5 (show d -r<=r by omega),sg1];rfl
    ·rw[J3 ht];by_cases hl:r<d -r
     ·rw[O0 hl,V9 hl,sg0];rfl
     ·rw[J6 (show d -r<=r by omega),V5 (show d -r<=r by omega),sg1];rfl
   ·rw[R5,u5,hi,hs,hr0,hr1,o6,o6];by_cases ht:d -r=r
    ·rw[O8 ht,J6 (show r<=d -r by omega),O8 ht.symm];have hodd:jk (-q -1) 2=-((q+1) % 2):=by
      unfold jk;rw[show -q -1=-(q+1) by omega,Int.neg_tmod,dU l7]
     have hir:jk q 2=q % 2:=xA e0;rw[hodd,hir];simp only[o7,o6];by_cases hp:q % 2=1
     ·rw[O8 (show -((q+1) % 2)=0 by omega),O8 hp,sg1];rfl
     ·rw[J3 (show -((q+1) % 2)≠0 by omega),J3 hp,sg0];rfl
    ·rw[J3 ht,J3 (show r≠d -r by omega)];by_cases hl:r<d -r
     ·rw[O0 hl,J6 (show r<=d -r by omega)];simp only[o7,o6];rw[sg0]
     ·rw[J6 (show d -r<=r by omega),O0 (show d -r<r by omega)];simp only[o7,o6];rw[sg1]
def a6z(a b mode:Int):Int×Int:=l9 (oQ mode) (l9 (kV a 1000000000) (0,3) (l9 (kV b 1000000000) (0,3) (l9 (kV (rnd (a*b) 1000000 mode) 1000000000) (0,3) (rnd (a*b) 1000000 mode,0)))) (0,1)
theorem a6t{a b A B:Int}(h1:-A<=a/\a<=A)(h2:-B<=b/\b<=B):-(A*B)<=a*b/\a*b<=A*B:=by
 have hA:0<=A:=l7;have hB:0<=B:=l7;have k1:a*b<=A*B/\-(A*B)<=a*b:=by
  rcases Nw a 0 with ha|ha
  ·have e:a*b=-((-a)*b):=by rw[jO];omega
   rcases Nw b 0 with hb|hb
   ·have e2:a*b=(-a)*(-b):=by rw[Int.neg_mul_neg]
    have:=jX (show -a<=A by omega) (show -b<=B by omega) l7 hA;have:=P6 (show 0<=-a by omega) (show 0<=-b by omega);have:=P6 hA hB;omega
   ·have:=jX (show -a<=A by omega) h2.2 hb hA;have:=P6 (show 0<=-a by omega) hb;have:=P6 hA hB;omega
  ·rcases Nw b 0 with hb|hb
   ·have e:a*b=-(a*(-b)):=by rw[Int.mul_neg];omega
    have:=jX h1.2 (show -b<=B by omega) l7 hA;have:=P6 ha (show 0<=-b by omega);have:=P6 hA hB;omega
   ·have:=jX h1.2 h2.2 hb hA;have:=P6 ha hb;have:=P6 hA hB;omega
 exact⟨k1.2,k1.1⟩
theorem b4y(a b mode:Int):LD a b mode=some (a6z a b mode):=by
 unfold LD a6z;rw[Ue,o8];cases hm:oQ mode
 ·rfl
 simp only[E5,o6,o7];rw[yZ a l7 l7,o8];cases h1:kV a 1000000000
 case true=>rfl
 simp only[o6];rw[yZ b l7 l7,o8];cases h2:kV b 1000000000
 case true=>rfl
 simp only[o6];have pb:=a6t (qg h1) (qg h2);rw[lK L8,GK,o8];unfold a3M;rw[hm,J3 (show(1000000:Int)≠0 by decide),MM l7,MM l7];simp only[o7,o6,O8 (rfl:(0:Int)=0),E5];rw[yZ _ l7 l7,o8];cases kV (rnd (a*b) 1000000 mode) 1000000000<;>rfl
theorem a2c{m:Int}{A B:Option (PUnit⊕(Int×Int))} :l9 (E8 m 0) A (l9 (E8 5 m) A B)=l9 (oQ m) B A:=by unfold oQ;rw[rH m 0,rH 5 m];cases L9 0 m<;>cases L9 m 5<;>rfl
theorem b1o(a b mode:Int):c6P a b mode=some (a6z a b mode):=by
 unfold c6P a6z;have hmode:∀A B:Option (Int×Int),l9 (E8 mode 0) A (l9 (E8 5 mode) A B)=l9 (oQ mode) B A:=λA B=>by unfold oQ;rw[rH mode 0,rH 5 mode];cases L9 0 mode<;>cases L9 mode 5<;>rfl
 rw[hmode];cases hm:oQ mode
 ·rfl
 simp only[o7];rw[xI a l7 l7,o8];cases h1:kV a 1000000000
 case true=>rfl
 simp only[o6];rw[xI b l7 l7,o8];cases h2:kV b 1000000000
 case true=>rfl
 simp only[o6];have pb:=a6t (qg h1) (qg h2);rw[lK L8,a1y l7 l7 l7 l7,o8];simp only;rw[Ht l7 l7 l7 l7 hm,o8,xI _ l7 l7,o8];cases kV (rnd (a*b) 1000000 mode) 1000000000<;>rfl
theorem a4G{n d:Int}(mode:Int)(hd:0<d):n / d<=rnd n d mode/\rnd n d mode<=n / d+1:=by
 have hid:X9 d=d:=by unfold X9;rw[if_neg l7]
 have hneg:F6 (kU (E8 n 0) (E8 d 0))=E8 n 0:=by rw[J6 (show(0:Int)<=d by omega)];cases E8 n 0<;>rfl
 unfold rnd;rw[hid,hneg];by_cases h0:0<=n
 ·rw[show X9 n=n by unfold X9;rw[if_neg l7],J6 h0];exact Xm _ _
 ·obtain⟨m,hmm⟩:∃m,m=-n:=⟨_,rfl⟩;have e2:=P5 m (show d≠0 by omega);have e3:=N9 m hd;have hdm2:=U5 m d;rw[show X9 n=m by unfold X9;rw[if_pos l7];omega,O0 l7];have hq:=Xm (m / d) (upS (m / d) (m % d) d true mode);by_cases hz:m % d=0
  ·have hne:n=0+(-(m / d))*d:=by rw[jO];omega
   have q1:n / d=-(m / d):=by rw[hne,ak _ _ l7];simp
   have hu:upS (m / d) (m % d) d true mode=false:=by unfold upS;rw[O8 hz];rfl
   rw[q1,hu];show -(m / d)<=-(m / d)/\-(m / d)<=-(m / d)+1;omega
  ·have hne:n=(d -m % d)+(-(m / d) -1)*d:=by rw[lM,jO,eF];omega
   have q1:n / d=-(m / d) -1:=by rw[hne,ak _ _ l7,lU l7 l7];omega
   rw[q1];show -(m / d) -1<=-(Go.GP.q1 _ _)/\-(Go.GP.q1 _ _)<=_;omega
theorem b4z(n d mode:Int)(hd:d<0):rnd n d mode=rnd (-n) (-d) mode:=by
 have e1:X9 (-n)=X9 n:=by unfold X9;split<;>split<;>omega
 have e2:X9 (-d)=X9 d:=by unfold X9;rw[if_neg l7,if_pos hd]
 unfold rnd;rw[e1,e2,O0 hd,J6 (show 0<=-d by omega)];by_cases h0:n=0
 ·subst h0;have hz:X9 0=0:=rfl;rw[hz,Int.zero_ediv,Int.zero_emod];have hu:∀b,upS 0 0 (X9 d) b mode=false:=λb=>rfl;rw[hu,hu];rfl
 ·by_cases h1:n<0
  ·rw[O0 h1,J6 (show 0<=-n by omega)];rfl
  ·rw[J6 l7,O0 (show -n<0 by omega)];rfl
def b4n(num den mode:Int):Int×Int:=l9 (oQ mode) (l9 (x8 den 0) (0,12) (l9 (kV num 1000000000000000) (0,3) (l9 (kV den 1000000000000000) (0,3) (l9 (kV (rnd (num*1000000) den mode) 1000000000) (0,3) (rnd (num*1000000) den mode,0))))) (0,1)
theorem PK{n:Int}(h:-9000000000000000000<=n)(h2:n<=9000000000000000000):wrap .u64 (kK n (H8 .i64 0 n))=X9 n:=by
 rw[O5 L8];unfold kK X9;by_cases h0:n<0
 ·rw[if_pos l7,if_pos h0,show(0:Int) -n=-n by omega];exact Ed l7 l7
 ·rw[if_neg h0];by_cases hz:n=0
  ·subst hz;rfl
  ·rw[if_neg l7];exact Ed l7 l7
theorem D_(num den mode:Int):xJ num den mode=some (b4n num den mode):=by
 unfold xJ b4n;rw[Ue,o8];cases hm:oQ mode
 ·rfl
 simp only[E5,o6,o7];cases hd:x8 den 0
 case true=>rfl
 rw[DV]at hd;simp only[o6];rw[yZ num l7 l7,o8];cases h1:kV num 1000000000000000
 case true=>rfl
 simp only[o6];rw[yZ den l7 l7,o8];cases h2:kV den 1000000000000000
 case true=>rfl
 simp only[o6];have b1:=qg h1;have b2:=qg h2;have a1:=lJ num;have a2:=yu b1;have d1:=Lc hd;have d2:=yu b2;rw[PK l7 l7,PK l7 l7,Qb a1 l7 l7 l7,o8];have hN:X9 (num*1000000)=X9 num*1000000:=by unfold X9;split<;>split<;>omega
 have hsgn:E8 (num*1000000) 0=E8 num 0:=by
  by_cases h:num<0
  ·rw[O0 h,O0 l7]
  ·rw[J6 l7,J6 l7]
 have hA:0<=X9 num*1000000:=l7;have hrn:rnd (num*1000000) den mode=sg (q1 (X9 num*1000000 / X9 den) (upS (X9 num*1000000 / X9 den) (X9 num*1000000 % X9 den) (X9 den) (F6 (kU (E8 num 0) (E8 den 0))) mode)) (F6 (kU (E8 num 0) (E8 den 0))):=by unfold rnd;rw[hN,hsgn]
 rw[hrn];have hA2:X9 num*1000000<18446744073709551616*1000:=l7;generalize X9 num*1000000=A at*;generalize X9 den=b at*;generalize F6 (kU (E8 num 0) (E8 den 0))=neg at*;have hre:A / 18446744073709551616*18446744073709551616+A % 18446744073709551616=A:=l7;have q:=Xm (A / b) (upS (A / b) (A % b) b neg mode);have e0:=V7 hA (show 0<=b by omega);have e2:=P5 A (show b≠0 by omega);have e3:=N9 A d1;rw[a8U l7 _ l7];by_cases hh:b<=A / 18446744073709551616
 ·have hge:18446744073709551616<=A / b:=qV d1 l7;rw[V5 hh,O0 (show(1000000000:Int)<q1 (A / b) (upS (A / b) (A % b) b neg mode) by omega)];rfl
 ·rw[V9 l7,o6,VM l7 l7 l7 l7 l7,o8,hre];simp only;by_cases hM:1000000000<A / b
  ·rw[O0 hM,O0 (show(1000000000:Int)<q1 (A / b) (upS (A / b) (A % b) b neg mode) by omega)];rfl
  ·have w1:wrap .i64 (A / b)=A / b:=kX L8;have w2:D6 .i64 (A / b) 1=A / b+1:=U7 L8;have w3:H8 .i64 0 (A / b+1)=-(A / b+1):=by rw[O5 L8];omega
   have w4:H8 .i64 0 (A / b)=-(A / b):=by rw[O5 L8];omega
   rw[J6 l7,o6,a2E _ _ e2 e3 l7,o8,w1,w2,w3,w4];unfold Go.GP.q1 sg;cases upS (A / b) (A % b) b neg mode
   ·simp only[o6];cases E8 1000000000 (A / b)<;>cases neg<;>rfl
   ·simp only[o7];cases E8 1000000000 (A / b+1)<;>cases neg<;>rfl
theorem Xv{n d mode:Int}(h1:-1000000000000000<=n)(h2:n<=1000000000000000)(hd:0<d)(hd2:d<=1000000000000000)(hm:oQ mode=true):
  (o5 (c6J n d) λ(x:Int×Int)=>o5 (c6n x.1 1001) λ(x_1:Bool)=>l9 x_1 (some ((0:Int),(3:Int))) (o5 (FI .i64 (dF .i64 x.2 1000) d) λ(x_2:Int)=>o5 (Le (dF .i64 x.2 1000) d) λ(x_3:Int)=>
   o5 (FI .i64 (dF .i64 x_3 1000) d) λ(x_4:Int)=>o5 (Le (dF .i64 x_3 1000) d) λ(x_5:Int)=>o5 (c6h (D6 .i64 (D6 .i64 (dF .i64 x.1 1000000) (dF .i64 x_2 1000)) x_4) x_5 d mode) λ(x:Int)=>
    o5 (c6n x 1000000000) λ(x_6:Bool)=>l9 x_6 (some (0,3)) (some (x,0))))=some (l9 (kV (rnd (n*1000000) d mode) 1000000000) (0,3) (rnd (n*1000000) d mode,0)):=by
 have hdm:=U5 n d;have r0:=P5 n (show d≠0 by omega);have r1:=N9 n hd;have hrb:=a4G (n:=n*1000000) mode hd;rw[a1y l7 l7 hd l7,o8];simp only;rw[xI _ l7 l7,o8];have hN:n*1000000=n % d*1000000+(n / d*1000000)*d:=by rw[jf];omega
 have hF:n*1000000 / d=n % d*1000000 / d+n / d*1000000:=by rw[hN,ak _ _ l7]
 have hR:n*1000000 % d=n % d*1000000 % d:=by rw[hN,bn]
 have s0:0<=n % d*1000000 / d:=V7 l7 l7;have s1:n % d*1000000 / d<1000000:=lZ hd l7;cases hb:kV (n / d) 1001
 case true=>have hbb:=a3A hb;have:kV (rnd (n*1000000) d mode) 1000000000=true:=OX.2 l7;rw[this];rfl
 have bb:=qg hb;simp only[o6];generalize n % d=r at*;generalize n / d=q at*;have t1:dF .i64 r 1000=r*1000:=lK L8;have e1:=U5 (r*1000) d;have e2:=P5 (r*1000) (show d≠0 by omega);have e3:=N9 (r*1000) hd;have e4:=V7 (show 0<=r*1000 by omega) (show 0<=d by omega);have e5:r*1000 / d<1000:=lZ hd l7;rw[t1,wI l7 l7 hd,o8,Aj l7 hd,o8];generalize hr1:r*1000 % d=r1 at*;generalize ha:r*1000 / d=a at*;have t2:dF .i64 r1 1000=r1*1000:=lK L8;have f1:=U5 (r1*1000) d;have f2:=P5 (r1*1000) (show d≠0 by omega);have f3:=N9 (r1*1000) hd;have f4:=V7 (show 0<=r1*1000 by omega) (show 0<=d by omega);have f5:r1*1000 / d<1000:=lZ hd l7;rw[t2,wI l7 l7 hd,o8,Aj l7 hd,o8];have hr6:r*1000000=r1*1000+(a*1000)*d:=by rw[jf];omega
 have hF2:r*1000000 / d=r1*1000 / d+a*1000:=by rw[hr6,ak _ _ l7]
 have hR2:r*1000000 % d=r1*1000 % d:=by rw[hr6,bn]
 rw[lK (show bQ (q*1000000) by unfold bQ;omega),lK (show bQ (a*1000) by unfold bQ;omega),U7 (show bQ (q*1000000+a*1000) by unfold bQ;omega),U7 (show bQ (q*1000000+a*1000+r1*1000 / d) by unfold bQ;omega)];rw[show q*1000000+a*1000+r1*1000 / d=n*1000000 / d by rw[hF,hF2];omega,show r1*1000 % d=n*1000000 % d by rw[hR,hR2]];rw[Ht (by rw[hF];omega) (by rw[hF];omega) hd l7 hm,o8,xI _ l7 l7,o8];cases kV (rnd (n*1000000) d mode) 1000000000<;>rfl
theorem Yq(num den mode:Int):c6v num den mode=some (b4n num den mode):=by
 unfold c6v b4n;rw[a2c];cases hm:oQ mode
 ·rfl
 simp only[o7,o8,N7];cases hd:x8 den 0
 case true=>rfl
 rw[DV]at hd;simp only[o6];rw[xI num l7 l7,o8];cases h1:kV num 1000000000000000
 case true=>rfl
 simp only[o6];rw[xI den l7 l7,o8];cases h2:kV den 1000000000000000
 case true=>rfl
 simp only[o6];have b1:=qg h1;have b2:=qg h2;by_cases hn:den<0
 ·rw[O0 hn,o7,O5 (show bQ (0 -num) by unfold bQ;omega),O5 (show bQ (0 -den) by unfold bQ;omega),show(0:Int) -num=-num by omega,show(0:Int) -den=-den by omega,b4z _ _ _ hn,show -(num*1000000)=-num*1000000 by rw[jO]];exact Xv l7 l7 l7 l7 hm
 ·rw[J6 l7,o6];exact Xv l7 l7 l7 l7 hm
def Dt(len n:Int):Int×Int×Bool:=l9 (E8 1000000000000000 (len*X9 n / 1000000)) (0,0,false) (l9 (E8 n 0) (-(len*X9 n / 1000000),-(len*X9 n % 1000000),true) (len*X9 n / 1000000,len*X9 n % 1000000,true))
theorem b3Q{len n:Int}(h1:1<=len)(h2:len<=1000000000000000)(hn:bQ n):wz len n=some (Dt len n):=by
 unfold bQ at hn;have key:∀m:Int,m=X9 n->(o5 (uP (wrap .u64 len) m) λ(x:Int×Int)=>l9 (L9 1000000 x.1) (some ((0:Int),(0:Int),false)) (o5 (mV x.1 x.2 1000000) λ(x:Int×Int)=>l9 (E8 1000000000000000 x.1) (some (0,0,false))
   (l9 (E8 n 0) (some (H8 .i64 0 (wrap .i64 x.1),H8 .i64 0 (wrap .i64 x.2),true)) (some (wrap .i64 x.1,wrap .i64 x.2,true)))))=some (Dt len n):=by
  intro m hm;have m0:=lJ n;have m1:m<=9223372036854775808:=by rw[hm];unfold X9;split<;>omega
  rw[←hm]at m0;rw[show wrap .u64 len=len from Ed l7 l7,Qb l7 l7 m0 l7,o8];unfold Dt;rw[←hm];have hA:0<=len*m:=P6 l7 m0;generalize len*m=A at*;have hre:A / 18446744073709551616*18446744073709551616+A % 18446744073709551616=A:=l7;simp only;by_cases hh:1000000<=A / 18446744073709551616
  ·rw[V5 hh,O0 (show(1000000000000000:Int)<A / 1000000 by omega)];rfl
  ·rw[V9 l7,o6,VM l7 l7 l7 l7 l7,o8,hre];simp only;by_cases hM:1000000000000000<A / 1000000
   ·rw[O0 hM];rfl
   ·rw[J6 l7,o6,o6,show wrap .i64 (A / 1000000)=A / 1000000 from kX L8,show wrap .i64 (A % 1000000)=A % 1000000 from kX L8,O5 L8,O5 L8,
     show(0:Int) -A / 1000000=-(A / 1000000) by omega,show(0:Int) -A % 1000000=-(A % 1000000) by omega]
    cases E8 n 0<;>rfl
 unfold wz;by_cases h0:n<0
 ·have hk:=key (H8 .u64 0 (wrap .u64 n)) (by
   show IntKind.wrap .u64 (0 -IntKind.wrap .u64 n)=_;unfold X9;rw[if_pos h0,zk,zk];omega)
  rw[O0 h0]at hk ⊢;exact hk
 ·have hk:=key (wrap .u64 n) (by
   show IntKind.wrap .u64 n=_;unfold X9;rw[if_neg h0,zk];omega)
  rw[J6 l7]at hk ⊢;exact hk
theorem b1k{len n:Int}(h1:1<=len)(h2:len<=1000000000000000)(hn:bQ n):c6G len n=some (Dt len n):=by
 unfold bQ at hn;have hm:(l9 (E8 n 0) (some (D6 .u64 (wrap .u64 (H8 .i64 0 (D6 .i64 n 1))) 1)) (some (wrap .u64 n)))=some (X9 n):=by
  by_cases h0:n<0
  ·rw[O0 h0,o7,U7 L8,O5 L8,show wrap .u64 (0 -(n+1))=-n -1 from(Ed l7 l7).trans l7,show D6 .u64 (-n -1) 1=-n from(Ed l7 l7).trans l7];unfold X9;rw[if_pos h0]
  ·rw[J6 l7,o6,show wrap .u64 n=n from Ed l7 l7];unfold X9;rw[if_neg h0]
 have m0:=lJ n;have m1:X9 n<=9223372036854775808:=by unfold X9;split<;>omega
 unfold c6G Dt;rw[hm,o8];generalize X9 n=m at*;have c1:fQ .u64 m 1000000=m / 1000000:=by unfold fQ;rw[jG m0,Ed l7 l7]
 have c2:jk m 1000000=m % 1000000:=xA m0;have c3:wrap .i64 (m / 1000000)=m / 1000000:=kX L8;have c4:wrap .i64 (m % 1000000)=m % 1000000:=kX L8;have c5:fQ .i64 len 1000000=len / 1000000:=by rw[Bd (by rw[jG l7];unfold bQ;omega),jG l7]
 have c6:jk len 1000000=len % 1000000:=xA l7;rw[c1,c2,c3,c4,c5,c6];have hmd:m=m / 1000000*1000000+m % 1000000:=l7;have b0:0<=m % 1000000:=l7;have b1:m % 1000000<1000000:=l7;have a0:0<=m / 1000000:=l7;have a1:m / 1000000<=9223372036855:=l7;have hA:len*m=(len*(m / 1000000)+len / 1000000*(m % 1000000))*1000000+len % 1000000*(m % 1000000):=by
  have e1:len*m=len*(m / 1000000)*1000000+len*(m % 1000000):=by
   calc len*m=len*(m / 1000000*1000000+m % 1000000):=by rw[←hmd]
    _=_:=by rw[Int.mul_add,Int.mul_assoc]
  have e2:len*(m % 1000000)=len / 1000000*(m % 1000000)*1000000+len % 1000000*(m % 1000000):=by
   calc len*(m % 1000000)=(len / 1000000*1000000+len % 1000000)*(m % 1000000):=by rw[show len / 1000000*1000000+len % 1000000=len by omega]
    _=_:=by rw[gY,jf]
  rw[e1,e2];omega
 have l0:0<=len % 1000000*(m % 1000000):=P6 l7 b0;have l1:len % 1000000*(m % 1000000)<=1000000*1000000:=jX l7 l7 b0 l7;have p0:0<=len / 1000000*(m % 1000000):=P6 l7 b0;have p1:len / 1000000*(m % 1000000)<=1000000000*1000000:=jX l7 l7 b0 l7;have k0:0<=len*(m / 1000000):=P6 l7 a0;have c7:dF .i64 (len % 1000000) (m % 1000000)=len % 1000000*(m % 1000000):=lK L8;have c8:dF .i64 (len / 1000000) (m % 1000000)=len / 1000000*(m % 1000000):=lK L8;rw[c7,c8];have hdiv:len*m / 1000000=len*(m / 1000000)+len / 1000000*(m % 1000000)+len % 1000000*(m % 1000000) / 1000000:=by rw[hA];omega
 have hmod:len*m % 1000000=len % 1000000*(m % 1000000) % 1000000:=by rw[hA];omega
 rw[hdiv,hmod];have c9:fQ .i64 (len % 1000000*(m % 1000000)) 1000000=len % 1000000*(m % 1000000) / 1000000:=by rw[Bd (by rw[jG l0];unfold bQ;omega),jG l0]
 have c10:jk (len % 1000000*(m % 1000000)) 1000000=len % 1000000*(m % 1000000) % 1000000:=xA l0;rw[c9,c10];have tail:len*(m / 1000000)<=1000000000000000->l9 (E8 1000000000000000 (D6 .i64 (D6 .i64 (dF .i64 len (m / 1000000)) (len / 1000000*(m % 1000000))) (len % 1000000*(m % 1000000) / 1000000))) (some ((0:Int),(0:Int),false))
   (l9 (E8 n 0) (some (H8 .i64 0 (D6 .i64 (D6 .i64 (dF .i64 len (m / 1000000)) (len / 1000000*(m % 1000000))) (len % 1000000*(m % 1000000) / 1000000)),H8 .i64 0 (len % 1000000*(m % 1000000) % 1000000),true)) (some (D6 .i64 (D6 .i64 (dF .i64 len (m / 1000000)) (len / 1000000*(m % 1000000))) (len % 1000000*(m % 1000000) / 1000000),len % 1000000*(m % 1000000) % 1000000,true)))=
   some (l9 (E8 1000000000000000 (len*(m / 1000000)+len / 1000000*(m % 1000000)+len % 1000000*(m % 1000000) / 1000000)) (0,0,false) (l9 (E8 n 0) (-(len*(m / 1000000)+len / 1000000*(m % 1000000)+len % 1000000*(m % 1000000) / 1000000),-(len % 1000000*(m % 1000000) % 1000000),true) (len*(m / 1000000)+len / 1000000*(m % 1000000)+len % 1000000*(m % 1000000) / 1000000,len % 1000000*(m % 1000000) % 1000000,true))):=by
  intro hle;rw[lK (show bQ (len*(m / 1000000)) by unfold bQ;omega)];generalize len*(m / 1000000)=K at*;generalize len / 1000000*(m % 1000000)=P at*;generalize len % 1000000*(m % 1000000)=L at*;rw[U7 (show bQ (K+P) by unfold bQ;omega),U7 (show bQ (K+P+L / 1000000) by unfold bQ;omega),O5 (show bQ (0 -(K+P+L / 1000000)) by unfold bQ;omega),O5 (show bQ (0 -L % 1000000) by unfold bQ;omega),show(0:Int) -(K+P+L / 1000000)=-(K+P+L / 1000000) by omega,show(0:Int) -L % 1000000=-(L % 1000000) by omega];cases E8 1000000000000000 (K+P+L / 1000000)<;>cases E8 n 0<;>rfl
 by_cases ha:0<m / 1000000
 ·rw[O0 ha,o7,wI l7 l7 ha,o8];have hMx:=U5 1000000000000000 (m / 1000000);have hMr:=N9 1000000000000000 ha;have hMr0:=P5 1000000000000000 (show m / 1000000≠0 by omega);by_cases hc:1000000000000000 / (m / 1000000)<len
  ·have:=O6 (show 1000000000000000 / (m / 1000000)+1<=len by omega) a0;rw[gY,eF]at this;rw[O0 hc,O0 (show(1000000000000000:Int)<len*(m / 1000000)+len / 1000000*(m % 1000000)+len % 1000000*(m % 1000000) / 1000000 by omega)];rfl
  ·have:=O6 (show len<=1000000000000000 / (m / 1000000) by omega) a0;rw[J6 l7,o6];exact tail l7
 ·have:m / 1000000=0:=l7;rw[J6 l7,o6];exact tail (by rw[this];simp)
theorem XD{F R j:Int}{mode:Int}(hm:oQ mode=true)(h1:-4000000000000000000<=F)(h2:F<=4000000000000000000)(h3:-2000000000000000000<=j)(h4:j<=2000000000000000000)(hR:0<=R)(hR2:R<1000000)(hs:0<=F↔0<=F+2*j):
  c6h (F+2*j) R 1000000 mode=(c6h F R 1000000 mode).map λv=>v+2*j:=by
 have R0:∀F R:Int,c6h F R 1000000 0=l9 (x8 R 0) (some F) (some F):=λF R=>rfl;have R1:∀F R:Int,c6h F R 1000000 1=l9 (x8 R 0) (some F) (some (D6 .i64 F 1)):=λF R=>rfl;have R2:∀F R:Int,c6h F R 1000000 2=l9 (x8 R 0) (some F) (o5 (l9 (E8 F 0) (some true) (some false)) λx=>l9 x (some (D6 .i64 F 1)) (some F)):=λF R=>rfl;have R3:∀F R:Int,c6h F R 1000000 3=l9 (x8 R 0) (some F) (o5 (some (L9 0 F)) λx=>l9 x (some (D6 .i64 F 1)) (some F)):=λF R=>rfl;have R4:∀F R:Int,c6h F R 1000000 4=l9 (x8 R 0) (some F) (l9 (x8 R (H8 .i64 1000000 R)) (l9 (L9 0 F) (some (D6 .i64 F 1)) (some F)) (l9 (E8 (H8 .i64 1000000 R) R) (some (D6 .i64 F 1)) (some F))):=λF R=>rfl;have R5:∀F R:Int,c6h F R 1000000 5=l9 (x8 R 0) (some F) (l9 (x8 R (H8 .i64 1000000 R)) (l9 (F6 (x8 (jk F 2) 0)) (some (D6 .i64 F 1)) (some F)) (l9 (E8 (H8 .i64 1000000 R) R) (some (D6 .i64 F 1)) (some F))):=λF R=>rfl;have hi:D6 .i64 F 1=F+1:=U7 L8;have hi2:D6 .i64 (F+2*j) 1=F+1+2*j:=by rw[U7 L8];omega
 have hlt:E8 (F+2*j) 0=E8 F 0:=by
  by_cases h:0<=F
  ·rw[J6 h,J6 (hs.1 h)]
  ·rw[O0 l7,O0 (by have:=λh' =>h (hs.2 h');omega)]
 have hle:L9 0 (F+2*j)=L9 0 F:=by rw[Et,Et,hlt]
 have hpar:x8 (jk (F+2*j) 2) 0=x8 (jk F 2) 0:=by
  unfold jk x8;congr 1;have e1:∀x:Int,x.tmod 2=0↔x % 2=0:=λx=>by rw[←Int.dvd_iff_tmod_eq_zero,Int.dvd_iff_emod_eq_zero]
  simp only[e1];congr 1;omega
 rcases Ha hm with rfl|rfl|rfl|rfl|rfl|rfl
 ·rw[R0,R0];cases x8 R 0<;>rfl
 ·rw[R1,R1,hi,hi2];cases x8 R 0<;>rfl
 ·rw[R2,R2,hi,hi2,hlt];cases x8 R 0<;>cases E8 F 0<;>rfl
 ·rw[R3,R3,hi,hi2,hle];cases x8 R 0<;>cases L9 0 F<;>rfl
 ·rw[R4,R4,hi,hi2,hle];cases x8 R 0<;>cases x8 R (H8 .i64 1000000 R)<;>cases L9 0 F<;>cases E8 (H8 .i64 1000000 R) R<;>rfl
 ·rw[R5,R5,hi,hi2,hpar];cases x8 R 0<;>cases x8 R (H8 .i64 1000000 R)<;>cases x8 (jk F 2) 0<;>cases E8 (H8 .i64 1000000 R) R<;>rfl
theorem a8b{n j mode:Int}(hm:oQ mode=true)(h1:-4000000000000000000<=n)(h2:n<=4000000000000000000)(h3:-2000000000000000<=j)(h4:j<=2000000000000000)(hs:0<=n↔0<=n+2*j*1000000):rnd (n+2*j*1000000) 1000000 mode=rnd n 1000000 mode+2*j:=by
 have a1:=Ht (n:=n) (d:=1000000) (mode:=mode) l7 l7 l7 l7 hm;have a2:=Ht (n:=n+2*j*1000000) (d:=1000000) (mode:=mode) l7 l7 l7 l7 hm;rw[show(n+2*j*1000000) / 1000000=n / 1000000+2*j by omega,show(n+2*j*1000000) % 1000000=n % 1000000 by omega,
  XD hm l7 l7 l7 l7 l7 l7 l7,a1]at a2
 exact(I4 a2).symm
def YA(W L mode:Int):Int×Int:=l9 (kV (rnd (W*1000000+L) 1000000 mode) 1000000000000000) (0,3) (rnd (W*1000000+L) 1000000 mode,0)
theorem XN{V p L j mode:Int}(hm:oQ mode=true)(hV:-2000000000000000<=V)(hV2:V<=2000000000000000)(hp:-3<=p)(hp2:p<=3)(hL:-1000000<L)(hL2:L<1000000)(hj:V -p=2*j)(hs:0<=p*1000000+L↔0<=V*1000000+L):
  (o5 (jF (D6 .i64 (dF .i64 p 1000000) L) 1000000 mode) λ(x:Int×Int)=>l9 (F6 (x8 x.2 0)) (some ((0:Int),x.2)) (l9 (E8 (D6 .i64 (H8 .i64 V p) x.1) (-1000000000000000)) (some (0,3)) (l9 (E8 1000000000000000 (D6 .i64 (H8 .i64 V p) x.1)) (some (0,3)) (some (D6 .i64 (H8 .i64 V p) x.1,0)))))=
  some (YA V L mode):=by
 rw[lK (show bQ (p*1000000) by unfold bQ;omega),U7 (show bQ (p*1000000+L) by unfold bQ;omega),O5 (show bQ (V -p) by unfold bQ;omega),GK,o8];unfold a3M;rw[hm,J3 (show(1000000:Int)≠0 by decide),MM l7,MM l7];have hb:=a4G (n:=p*1000000+L) (d:=1000000) mode l7;have hsh:=a8b (n:=p*1000000+L) (j:=j) hm l7 l7 l7 l7 (by rw[show p*1000000+L+2*j*1000000=V*1000000+L by omega];exact hs);rw[show p*1000000+L+2*j*1000000=V*1000000+L by omega]at hsh;simp only[o7,o6,O8 (rfl:(0:Int)=0),E5];unfold YA kV;rw[hsh,hj,U7 (show bQ (2*j+rnd (p*1000000+L) 1000000 mode) by unfold bQ;omega),show rnd (p*1000000+L) 1000000 mode+2*j=2*j+rnd (p*1000000+L) 1000000 mode by omega];cases E8 (2*j+rnd (p*1000000+L) 1000000 mode) (-1000000000000000)<;>cases E8 1000000000000000 (2*j+rnd (p*1000000+L) 1000000 mode)<;>rfl
theorem a6I{n d:Int}(hd:0<d):(0<=n->0<=n.tmod d/\n.tmod d<d)/\(n<=0->-d<n.tmod d/\n.tmod d<=0):=by
 refine⟨λh=>?_,λh=>?_⟩
 ·rw[dU h];exact⟨P5 n l7,N9 n hd⟩
 ·obtain⟨m,hm⟩:∃m,n=-m:=⟨-n,l7⟩;subst hm;rw[Int.neg_tmod,dU l7];have:=P5 m (show d≠0 by omega);have:=N9 m hd;omega
theorem a2D{W L mode:Int}(hm:oQ mode=true)(hW:-1000000000000000000<=W)(hW2:W<=1000000000000000000)(hL:-1000000000<=L)(hL2:L<=1000000000):BP W L mode=some (YA W L mode):=by
 unfold BP;have hd:=Int.tdiv_mul_add_tmod L 1000000;have htm:=a6I (n:=L) (d:=1000000) l7;have t1:fQ .i64 L 1000000=L.tdiv 1000000:=Bd L8;have t2:jk L 1000000=L.tmod 1000000:=rfl;have hr1:-1000000<L.tmod 1000000:=l7;have hr2:L.tmod 1000000<1000000:=l7;rw[t1,t2,U7 (show bQ (W+L.tdiv 1000000) by unfold bQ;omega)];have hT:W*1000000+L=(W+L.tdiv 1000000)*1000000+L.tmod 1000000:=l7;have hsum:YA W L mode=YA (W+L.tdiv 1000000) (L.tmod 1000000) mode:=by unfold YA;rw[hT]
 rw[hsum];have hVb:-2000000000000000000<=W+L.tdiv 1000000/\W+L.tdiv 1000000<=2000000000000000000:=l7;generalize W+L.tdiv 1000000=V at*;generalize L.tmod 1000000=M at*;have hb:=a4G (n:=V*1000000+M) (d:=1000000) mode l7;by_cases c1:V< -2000000000000000
 ·rw[O0 c1,o7];unfold YA;rw[OX.2 l7];rfl
 by_cases c2:2000000000000000<V
 ·rw[J6 l7,o6,O0 c2,o7];unfold YA;rw[OX.2 l7];rfl
 rw[J6 l7,o6,J6 l7,o6];have t3:jk V 2=V.tmod 2:=rfl;rw[t3];have hv2:=Int.tdiv_mul_add_tmod V 2;have htv:=a6I (n:=V) (d:=2) l7;by_cases c3:1<V
 ·rw[O0 c3,o7,U7 (show bQ (V.tmod 2+2) by unfold bQ;omega)];exact XN (j:=V.tdiv 2 -1) hm l7 l7 l7 l7 hr1 hr2 l7 l7
 rw[J6 l7,o6];by_cases c4:V< -1
 ·rw[O0 c4,o7,O5 (show bQ (V.tmod 2 -2) by unfold bQ;omega)];exact XN (j:=V.tdiv 2+1) hm l7 l7 l7 l7 hr1 hr2 l7 l7
 rw[J6 l7,o6];exact XN (j:=V.tdiv 2) hm l7 l7 l7 l7 hr1 hr2 l7 l7
theorem Yr{W L mode:Int}(hm:oQ mode=true)(hW:-1000000000000000000<=W)(hW2:W<=1000000000000000000)(hL:-1000000000<=L)(hL2:L<=1000000000):c6T W L mode=some (rnd (W*1000000+L) 1000000 mode):=by
 unfold c6T;obtain⟨e,k1,k2⟩:=fP (f:=λ(x:Int×Int)=>l9 (E8 x.2 0) (some (.inl (H8 .i64 x.1 1,D6 .i64 x.2 1000000))) (some (.inr x)))
  (s:=(W,L)) (λx=>x.1*1000000+x.2=W*1000000+L/\-1000000000<=x.2/\x.2<=1000000000/\-2000000000000000000<=x.1/\x.1<=2000000000000000000) (λx=>x.1*1000000+x.2=W*1000000+L/\0<=x.2/\x.2<=1000000000/\-2000000000000000000<=x.1/\x.1<=2000000000000000000) (λx=>(1000000000 -x.2).toNat) ⟨by rfl,hL,hL2,l7,l7⟩ l7 (by
  rintro⟨a,b⟩ ⟨h1,h2,h3,h4,h5⟩;simp only at h1 h2 h3 h4 h5 ⊢;by_cases hb:b<0
  ·left;rw[O0 hb,o7,O5 (show bQ (a -1) by unfold bQ;omega),U7 (show bQ (b+1000000) by unfold bQ;omega)];exact⟨_,rfl,⟨by simp only;omega,by simp only;omega,by simp only;omega,by simp only;omega,by simp only;omega⟩,by simp only;omega⟩
  ·right;rw[J6 l7];exact⟨(a,b),rfl,h1,l7,h3,h4,h5⟩)
 refine(qf k1 _).trans ?_;obtain⟨a,b⟩:=e;simp only at k2;obtain⟨e,l1,l2⟩:=fP (f:=λ(x:Int×Int)=>l9 (L9 1000000 x.2) (some (.inl (D6 .i64 x.1 1,H8 .i64 x.2 1000000))) (some (.inr x)))
  (s:=(a,b)) (λx=>x.1*1000000+x.2=W*1000000+L/\0<=x.2/\x.2<=1000000000/\-2000000000000000000<=x.1/\x.1<=2000000000000000000) (λx=>x.1=(W*1000000+L) / 1000000/\x.2=(W*1000000+L) % 1000000) (λx=>x.2.toNat) k2 (by simp only;omega) (by
  rintro⟨a,b⟩ ⟨h1,h2,h3,h4,h5⟩;simp only at h1 h2 h3 h4 h5 ⊢;by_cases hb:1000000<=b
  ·left;rw[V5 hb,o7,U7 (show bQ (a+1) by unfold bQ;omega),O5 (show bQ (b -1000000) by unfold bQ;omega)];exact⟨_,rfl,⟨by simp only;omega,by simp only;omega,by simp only;omega,by simp only;omega,by simp only;omega⟩,by simp only;omega⟩
  ·right;rw[V9 l7];exact⟨(a,b),rfl,by simp only;omega,by simp only;omega⟩)
 refine(qf l1 _).trans ?_;obtain⟨F,R⟩:=e;simp only at l2 ⊢;obtain⟨rfl,rfl⟩:=l2;generalize hT:W*1000000+L=T at*;have hid:X9 1000000=1000000:=rfl;have hneg:F6 (kU (E8 T 0) (E8 1000000 0))=E8 T 0:=by rw[J6 (show(0:Int)<=1000000 by omega)];cases E8 T 0<;>rfl
 by_cases h0:0<=T
 ·rw[V5 (show 0<=T / 1000000 by omega),o7,Dy _ _ l7 l7 l7 l7 l7,o8];unfold rnd;rw[hid,hneg,J6 h0,show X9 T=T by unfold X9;rw[if_neg l7]]
 ·rw[V9 (show T / 1000000<0 by omega),o6];unfold rnd;rw[hid,hneg,O0 l7,show X9 T=-T by unfold X9;rw[if_pos l7]];by_cases hz:T % 1000000=0
  ·rw[O8 hz,o7];have hu:upS (-T / 1000000) (-T % 1000000) 1000000 true mode=false:=by unfold upS;rw[O8 (show -T % 1000000=0 by omega)];rfl
   rw[hu];show some (T / 1000000)=some (-(-T / 1000000));congr 1;omega
  ·rw[J3 hz,o6,O5 (show bQ (0 -T / 1000000) by unfold bQ;omega),O5 (show bQ (0 -T / 1000000 -1) by unfold bQ;omega),O5 (show bQ (1000000 -T % 1000000) by unfold bQ;omega),Dy _ _ l7 l7 l7 l7 l7,o8];rw[show 0 -T / 1000000 -1=-T / 1000000 by omega,show 1000000 -T % 1000000=-T % 1000000 by omega]
def a5w(r:BV):Prop:=bQ r.2.1/\bQ r.2.2.1/\bQ r.2.2.2
def AQ(t:iy):Prop:=t.2.2.2.length<=200/\∀r∈t.2.2.2,a5w r
theorem y_{len n:Int}(h:(Dt len n).2.2=true)(hl:0<=len):-1000000000000000<=(Dt len n).1/\(Dt len n).1<=1000000000000000/\-1000000<=(Dt len n).2.1/\(Dt len n).2.1<=1000000:=by
 have hA:0<=len*X9 n:=P6 hl (lJ n);unfold Dt at*;generalize len*X9 n=A at*;cases h1:E8 1000000000000000 (A / 1000000)<;>rw[h1]at h
 ·rw[jv]at h1;cases E8 n 0
  ·simp only[o6];omega
  ·simp only[o6,o7];omega
 ·cases h
def brG(date c:Int)(b:Int×Int)(r:BV):(Int×Int)⊕(Int×Int):=l9 (Rf r.1 date) (l9 (L9 (pF r.2.2.1 c) (kK r.2.1 0)) (.inl b)
 (l9 (Dt (pF r.2.2.1 c -kK r.2.1 0) r.2.2.2).2.2 (.inl (b.1+(Dt (pF r.2.2.1 c -kK r.2.1 0) r.2.2.2).1,b.2+(Dt (pF r.2.2.1 c -kK r.2.1 0) r.2.2.2).2.1)) (.inr (0,3)))) (.inl b)
def b3I(t:iy)(date c mode:Int):Int×Int:=l9 (oQ mode) (l9 (nN (x8 t.2.1.1 3) (x8 t.2.1.2 0)) (l9 (nN (x8 t.2.2.1.1 4) (x8 t.2.2.1.2 0)) (l9 (kV c 1000000000000000) (0,3)
 (match aY (brG date c) t.2.2.2 (0,0)with| .inl b=>YA b.1 b.2 mode| .inr r=>r)) (0,8)) (0,8)) (0,1)
def Vf(i:Nat)(b:Int×Int):Prop:=-(1000000000000000*(i:Int))<=b.1/\b.1<=1000000000000000*(i:Int)/\-(1000000*(i:Int))<=b.2/\b.2<=1000000*(i:Int)
theorem Vt{r:BV}{c:Int}(hr:a5w r)(hc:-1000000000000000<=c)(hc2:c<=1000000000000000)(h:L9 (pF r.2.2.1 c) (kK r.2.1 0)=false):H8 .i64 (pF r.2.2.1 c) (kK r.2.1 0)=pF r.2.2.1 c -kK r.2.1 0/\1<=pF r.2.2.1 c -kK r.2.1 0/\pF r.2.2.1 c -kK r.2.1 0<=1000000000000000:=by
 obtain⟨h1,h2,h3⟩:=hr;obtain⟨lo,hlo⟩:∃lo:Int,r.2.1=lo:=⟨_,rfl⟩;obtain⟨hi,hhi⟩:∃hi:Int,r.2.2.1=hi:=⟨_,rfl⟩;rw[hlo]at h h1 ⊢;rw[hhi]at h h2 ⊢;rw[Ld]at h;have a1:0<=kK lo 0:=by unfold kK;split<;>omega
 have a2:pF hi c<=c:=by unfold pF;split<;>omega
 refine⟨O5 L8,l7,l7⟩
theorem a8Y{date c:Int}{r:BV}{b:Int×Int}{i:Nat}(hr:a5w r)(hc:-1000000000000000<=c)(hc2:c<=1000000000000000)(hi:i<=200)(hb:Vf i b):∀b',brG date c b r= .inl b' ->Vf (i+1) b' :=by
 intro b' h;unfold Vf at*;unfold brG at h;cases h1:Rf r.1 date<;>rw[h1]at h
 ·cases h;omega
 simp only[o7]at h;cases h2:L9 (pF r.2.2.1 c) (kK r.2.1 0)<;>rw[h2]at h
 ·obtain⟨_,g1,g2⟩:=Vt hr hc hc2 h2;simp only[o6]at h;cases h3:(Dt (pF r.2.2.1 c -kK r.2.1 0) r.2.2.2).2.2<;>rw[h3]at h
  ·cases h
  ·have hbd:=y_ h3 l7;cases h;simp only;omega
 ·cases h;omega
theorem a1e{t:iy}(date c mode:Int)(ht:AQ t):BM t date c mode=some (b3I t date c mode):=by
 unfold BM b3I;rw[a2c];cases hm:oQ mode
 ·rfl
 simp only[o7,o8,N7];cases nN (x8 t.2.1.1 3) (x8 t.2.1.2 0)
 ·rfl
 cases nN (x8 t.2.2.1.1 4) (x8 t.2.2.1.2 0)
 ·rfl
 simp only[E5,o6,o7,o8,N7];have hbey:∀A B:Option (PUnit⊕(Int×Int)),l9 (E8 c (-1000000000000000)) A (l9 (E8 1000000000000000 c) A B)=l9 (kV c 1000000000000000) A B:=λA B=>by unfold kV;cases E8 c (-1000000000000000)<;>cases E8 1000000000000000 c<;>rfl
 rw[hbey];cases hb:kV c 1000000000000000
 case true=>rfl
 have bb:=qg hb;simp only[o6,o8,N7];refine uy t.2.2.2 (brG date c) (λb i=>(b.1,b.2,i)) (λb=>b) Vf ((0,0):Int×Int) (by have:=ht.1;omega) (by unfold Vf;simp) (λi r b hr hi hI=>?_) (λb hI=>?_) (λhI=>?_)
 ·have hro:=ht.2 r (rV hr);have hlt:=(Y6.1 hr).1;have h200:=ht.1;refine⟨?_,a8Y hro bb.1 bb.2 l7 hI⟩;simp only[U2 hr,o7,G7,hr,o8,Gz];rw[dH l7];unfold brG;cases Rf r.1 date
  ·rfl
  simp only[E5,o6,o7];cases h2:L9 (pF r.2.2.1 c) (kK r.2.1 0)
  case true=>rfl
  obtain⟨g0,g1,g2⟩:=Vt hro bb.1 bb.2 h2;rw[g0,b3Q g1 g2 hro.2.2];simp only[o6,o8];cases h3:(Dt (pF r.2.2.1 c -kK r.2.1 0) r.2.2.2).2.2
  ·rfl
  ·have hbd:=y_ h3 l7;unfold Vf at hI;rw[U7 L8,U7 L8];rfl
 ·simp only[U1];rfl
 ·cases hf:aY (brG date c) t.2.2.2 (0,0)with
  |inr r=>rfl|inl b=>have:=hI b hf;unfold Vf at this;have h200:=ht.1;simp only[N7];rw[a2D hm l7 l7 l7 l7];rfl
theorem a0d{t:iy}(date c mode:Int)(ht:AQ t):c6E t date c mode=some (b3I t date c mode):=by
 unfold c6E b3I;rw[Qp,o8];cases hm:oQ mode
 ·rfl
 simp only[E5,o6,o7];cases nN (x8 t.2.1.1 3) (x8 t.2.1.2 0)
 ·rfl
 cases nN (x8 t.2.2.1.1 4) (x8 t.2.2.1.2 0)
 ·rfl
 simp only[E5,o6,o7,o8,N7];rw[uA c l7 l7,o8];cases hb:kV c 1000000000000000
 case true=>rfl
 have bb:=qg hb;simp only[o6];refine uy t.2.2.2 (brG date c) (λb i=>(b.1,b.2,i)) (λb=>b) Vf ((0,0):Int×Int) (by have:=ht.1;omega) (by unfold Vf;simp) (λi r b hr hi hI=>?_) (λb hI=>?_) (λhI=>?_)
 ·have hro:=ht.2 r (rV hr);have hlt:=(Y6.1 hr).1;have h200:=ht.1;refine⟨?_,a8Y hro bb.1 bb.2 l7 hI⟩;simp only[U2 hr,o7,G7,hr,o8,Qo];rw[dH l7];unfold brG;cases h2:L9 (pF r.2.2.1 c) (kK r.2.1 0)
  case true=>cases Rf r.1 date<;>rfl
  simp only[o6];cases Rf r.1 date
  ·rfl
  obtain⟨g0,g1,g2⟩:=Vt hro bb.1 bb.2 h2;rw[g0,b1k g1 g2 hro.2.2];simp only[E5,o6,o7,o8];cases h3:(Dt (pF r.2.2.1 c -kK r.2.1 0) r.2.2.2).2.2
  ·rfl
  ·have hbd:=y_ h3 l7;unfold Vf at hI;rw[U7 L8,U7 L8];rfl
 ·simp only[U1];rfl
 ·cases hf:aY (brG date c) t.2.2.2 (0,0)with
  |inr r=>rfl|inl b=>have:=hI b hf;unfold Vf at this;have h200:=ht.1;simp only[N7];rw[Yr hm l7 l7 l7 l7,o8,uA _ l7 l7,o8];unfold YA;cases kV (rnd (b.1*1000000+b.2) 1000000 mode) 1000000000000000<;>rfl
def b4a(r:BV)(date key:Int):Bool:=l9 (Rf r.1 date) (l9 (L9 r.2.1 key) (E8 key r.2.2.1) false) false
def TM(rows:List BV)(date key:Int)(i:Nat):Option (Int×Bool):=match rows[i]? with|some r=>l9 (b4a r date key) (some ((i:Int),true)) none|none=>none
def PP(rows:List BV)(date key:Int):Int×Bool:=match Z8 rows.length (TM rows date key)with|some x=>x|none=>(0,false)
theorem a7r{t:iy}(date key:Int)(ht:t.2.2.2.length<=1000000):EL t date key=some (PP t.2.2.2 date key):=by
 unfold EL wB PP;rw[dZ];refine U9 (yh (p:=TM t.2.2.2 date key) t.2.2.2.length ht PUnit.unit (λi hi=>?_) ?_) ?_
 rotate_left 2
 ·cases Z8 t.2.2.2.length (TM t.2.2.2 date key)<;>rfl
 ·have e:=dX hi;simp only[U2 e,o7,G7,e,o8,Gp,Gz,TM,b4a];cases Rf t.2.2.2[i].1 date
  ·rfl
  cases L9 t.2.2.2[i].2.1 key
  ·rfl
  cases E8 key t.2.2.2[i].2.2.1<;>rfl
 ·simp only[U1];rfl
theorem Xq{t:iy}(date key:Int)(ht:t.2.2.2.length<=1000000):c6V t date key=some (PP t.2.2.2 date key):=by
 unfold c6V PP;refine U9 (yh (p:=TM t.2.2.2 date key) t.2.2.2.length ht PUnit.unit (λi hi=>?_) ?_) ?_
 rotate_left 2
 ·cases Z8 t.2.2.2.length (TM t.2.2.2 date key)<;>rfl
 ·have e:=dX hi;simp only[U2 e,o7,G7,e,o8,c6W,Qo,TM,b4a];cases Rf t.2.2.2[i].1 date
  ·rfl
  cases L9 t.2.2.2[i].2.1 key
  ·rfl
  cases E8 key t.2.2.2[i].2.2.1<;>rfl
 ·simp only[U1];rfl
theorem a9Q{rows:List BV}{date key i:Int}(h:PP rows date key=(i,true)):0<=i/\i<o9 rows:=by
 unfold PP at h;split at h
 ·rename_i x hx;subst h;obtain⟨k,hk,hp⟩:=bW hx;unfold TM at hp;split at hp
  ·rename_i r hr;cases hmb:b4a r date key<;>rw[hmb]at hp
   ·cases hp
   ·cases hp;simp only[o9];omega
  ·cases hp
 ·cases h
abbrev V3:Type:=Int×Int×Int
def BX(k:Int):Int×Int:=l9 (x8 k 1) (0,1) (l9 (x8 k 2) (-1000000000000,1000000000000) (l9 (x8 k 3) (-1000000000000000,1000000000000000) (l9 (x8 k 4) (-1000000000,1000000000) (l9 (x8 k 5) (0,109572) (l9 (x8 k 6) (0,15) (0,-1))))))
theorem a5H(k:Int):c6L k=some (BX k):=by unfold c6L BX;cases x8 k 1<;>cases x8 k 2<;>cases x8 k 3<;>cases x8 k 4<;>cases x8 k 5<;>cases x8 k 6<;>rfl
def plB(v:V3):Bool:=l9 (L9 (BX v.1).1 v.2.2) (l9 (L9 v.2.2 (BX v.1).2) (l9 (x8 v.1 6) (l9 (L9 0 v.2.1) (E8 v.2.1 8) false) (x8 v.2.1 0)) false) false
theorem qI(v:V3):c6j v=some (plB v):=by
 unfold c6j plB;rw[a5H,o8,rH,rH];cases L9 (BX v.1).1 v.2.2
 ·rfl
 cases L9 v.2.2 (BX v.1).2
 ·rfl
 cases x8 v.1 6
 ·rfl
 cases L9 0 v.2.1<;>rfl
theorem yz(v:V3):gX v=some (plB v):=by
 obtain⟨k,e,n⟩:=v;unfold gX plB;simp only;by_cases h6:k=6
 ·subst h6;rw[show BX 6=(0,15)from rfl,O8 (rfl:(6:Int)=6)];simp only[E5,o6,o8,N7,J3 (show(6:Int)≠1 by decide),J3 (show(6:Int)≠2 by decide),J3 (show(6:Int)≠3 by decide),J3 (show(6:Int)≠4 by decide),J3 (show(6:Int)≠5 by decide),o7];rw[show E8 n 16=L9 n 15 by unfold E8 L9;congr 1;simp;omega];cases L9 0 e<;>cases E8 e 8<;>cases L9 0 n<;>cases L9 n 15<;>rfl
 rw[J3 h6];simp only[bH,o7,o6];by_cases he:e=0
 case neg=>rw[J3 he];simp only[bH,o7,o8,vP];cases L9 (BX k).1 n<;>cases L9 n (BX k).2<;>rfl
 rw[O8 he];simp only[E5,o6,o8,N7];by_cases h1:k=1
 ·subst h1;rw[show BX 1=(0,1)from rfl];simp only[O8 (rfl:(1:Int)=1),o7];by_cases n0:n=0
  ·subst n0;rfl
  by_cases n1:n=1
  ·subst n1;rfl
  rw[J3 n0,J3 n1];by_cases g:0<=n
  ·rw[V5 g,V9 l7];rfl
  ·rw[V9 l7];rfl
 rw[J3 h1,o6];by_cases h2:k=2
 ·subst h2;rw[show BX 2=(-1000000000000,1000000000000)from rfl,O8 (rfl:(2:Int)=2)];simp only[o7];cases L9 (-1000000000000) n<;>cases L9 n 1000000000000<;>rfl
 rw[J3 h2,o6];by_cases h3:k=3
 ·subst h3;rw[show BX 3=(-1000000000000000,1000000000000000)from rfl,O8 (rfl:(3:Int)=3)];simp only[o7];cases L9 (-1000000000000000) n<;>cases L9 n 1000000000000000<;>rfl
 rw[J3 h3,o6];by_cases h4:k=4
 ·subst h4;rw[show BX 4=(-1000000000,1000000000)from rfl,O8 (rfl:(4:Int)=4)];simp only[o7];cases L9 (-1000000000) n<;>cases L9 n 1000000000<;>rfl
 rw[J3 h4,o6];by_cases h5:k=5
 ·subst h5;rw[show BX 5=(0,109572)from rfl,O8 (rfl:(5:Int)=5)];simp only[o7];cases L9 0 n<;>cases L9 n 109572<;>rfl
 rw[J3 h5,o6,show BX k=(0,-1) by unfold BX;rw[J3 h1,J3 h2,J3 h3,J3 h4,J3 h5,J3 h6];rfl];simp only[o6];by_cases g:0<=n
 ·rw[V5 g,V9 (show(-1:Int)<n by omega)];rfl
 ·rw[V9 (show n<0 by omega)];rfl
def PV(v:V3):Prop:=(∃n,v=(1,0,n)/\(n=0\/n=1))\/(∃n,v=(2,0,n)/\-1000000000000<=n/\n<=1000000000000)\/(∃n,v=(3,0,n)/\-1000000000000000<=n/\n<=1000000000000000)\/(∃n,v=(4,0,n)/\-1000000000<=n/\n<=1000000000)\/(∃n,v=(5,0,n)/\0<=n/\n<=109572)\/(∃e n,v=(6,e,n)/\0<=n/\n<=15)
theorem Xk{v:V3}(h:plB v=true):PV v:=by
 obtain⟨k,e,n⟩:=v;unfold plB at h;simp only at h;cases h1:L9 (BX k).1 n<;>rw[h1]at h
 ·cases h
 cases h2:L9 n (BX k).2<;>rw[h2]at h
 ·cases h
 simp only[o7]at h;rw[lT]at h1 h2;unfold PV;by_cases k6:k=6
 ·subst k6;rw[show BX 6=(0,15)from rfl]at h1 h2;exact .inr (.inr (.inr (.inr (.inr ⟨e,n,rfl,h1,h2⟩))))
 rw[J3 k6,o6,V6]at h;subst h;by_cases k1:k=1
 ·subst k1;rw[show BX 1=(0,1)from rfl]at h1 h2;exact .inl ⟨n,rfl,by simp only at h1 h2;omega⟩
 by_cases k2:k=2
 ·subst k2;exact .inr (.inl ⟨n,rfl,h1,h2⟩)
 by_cases k3:k=3
 ·subst k3;exact .inr (.inr (.inl ⟨n,rfl,h1,h2⟩))
 by_cases k4:k=4
 ·subst k4;exact .inr (.inr (.inr (.inl ⟨n,rfl,h1,h2⟩)))
 by_cases k5:k=5
 ·subst k5;exact .inr (.inr (.inr (.inr (.inl ⟨n,rfl,h1,h2⟩))))
 ·rw[show BX k=(0,-1) by unfold BX;rw[J3 k1,J3 k2,J3 k3,J3 k4,J3 k5,J3 k6];rfl]at h1 h2;simp only at h1 h2;omega
def Ey(v:V3):V3×Int:=l9 (plB v) (v,0) ((0,0,0),3)
def QQ(v:V3)(c:Int):V3×Int:=l9 (x8 c 0) (Ey v) ((0,0,0),c)
theorem MX(k n:Int):c6f k n=some (Ey (k,0,n)):=by unfold c6f Ey;rw[qI,o8];cases plB (k,0,n)<;>rfl
theorem a0J(k n c:Int):c6p k n c=some (QQ (k,0,n) c):=by
 unfold c6p QQ;cases x8 c 0
 ·rfl
 simp only[E5,o6,o7];rw[MX];rfl
def b9d(b:Bool):V3×Int:=((1,0,l9 b 1 0),0)
theorem a7T(b:Bool):c6t b=some (b9d b):=by cases b<;>rfl
theorem b3p(b:Bool):qQ b=some (1,0,l9 b 1 0):=by cases b<;>rfl
theorem a3g(b:Bool):Ey (1,0,l9 b 1 0)=b9d b:=by cases b<;>rfl
def a7f(c:Option (V3×Int)):Option (V3×Int):=o5 c λ(x:V3×Int)=>l9 (F6 (x8 x.2 0)) (some ((0,0,0),x.2)) (o5 (gX x.1) λ(x_1:Bool)=>l9 (F6 x_1) (some ((0,0,0),3)) (some (x.1,0)))
theorem Cj(v:V3)(c:Int):a7f (some (v,c))=some (QQ v c):=by
 unfold a7f QQ Ey;simp only[o8];cases x8 c 0
 ·rfl
 simp only[E5,o6,o7];rw[yz,o8];cases plB v<;>rfl
theorem MF(v:V3):QQ v 0=Ey v:=rfl
def EP(n:Int×Int)(args:List V3)(env:aT):Option (V3×Int):=o5 (Z5 n args env) λ(x:Bool)=>l9 (F6 x) (some ((0,0,0),8)) (a7f (Z7 n args env))
def RP(a0:Int×Int)(a1:List V3)(a2:aT):Option (V3×Int):=
 l9 (x8 (o9 a1) 0) (l9 (L9 36 a0.1) (l9 (L9 a0.1 39) (o5 (c6m a0 a2) λ(x:V3×Int)=>some x) (o5 (c6e a0 a2) λ(x:V3×Int)=>some x)) (o5 (c6e a0 a2) λ(x:V3×Int)=>some x))
  (l9 (x8 (o9 a1) 1) (o5 (G9 a1 0) λ(x:V3)=>o5 (c6i a0 x a2) λ(x:V3×Int)=>some x)
  (l9 (x8 (o9 a1) 2) (o5 (G9 a1 0) λ(x:V3)=>o5 (G9 a1 1) λ(x_1:V3)=>o5 (c6g a0 x x_1) λ(x:V3×Int)=>some x)
  (o5 (G9 a1 0) λ(x:V3)=>o5 (G9 a1 1) λ(x_1:V3)=>o5 (G9 a1 2) λ(x_2:V3)=>l9 (F6 (x8 x.1 1)) (some ((0,0,0),8)) (l9 (F6 (x8 x_1.1 x_2.1)) (some ((0,0,0),8)) (l9 (F6 (x8 x_1.2.1 x_2.2.1)) (some ((0,0,0),8)) (l9 (x8 x.2.2 1) (some (x_1,0)) (some (x_2,0))))))))
def je(n:Int×Int)(args:List V3)(env:aT):Prop:=∃r:V3×Int,RP n args env=some r/\EP n args env=some r
theorem ll0:o9 ([]:List V3)=0:=rfl
theorem ll1(a:V3):o9 [a]=1:=rfl
theorem ll2(a b:V3):o9 [a,b]=2:=rfl
theorem ll3(a b c:V3):o9 [a,b,c]=3:=rfl
theorem la0(a:V3)(l:List V3):G9 (a::l) 0=some a:=rfl
theorem la1(a b:V3)(l:List V3):G9 (a::b::l) 1=some b:=rfl
theorem la2(a b c:V3)(l:List V3):G9 (a::b::c::l) 2=some c:=rfl
def aK:=And.intro @O8 (And.intro @J3 (And.intro @V5 (And.intro @V9 (And.intro @O0 (And.intro @J6 (And.intro @o7 (And.intro @o6 (And.intro @o8 (And.intro @N7 (And.intro @vP (And.intro @E5 (And.intro @bH (And.intro @ll0 (And.intro @ll1 (And.intro @ll2 (And.intro @ll3 (And.intro @la0 (And.intro @la1 (And.intro @la2 (And.intro @MX (And.intro @a0J (And.intro @qI (And.intro @yz (And.intro @Cj (And.intro @MF (And.intro @a7T (And.intro @b3p (@a3g))))))))))))))))))))))))))))
theorem OU(k N:Int)(env:aT)(hk:k=1\/k=2\/k=3\/k=4\/k=5):je (k,N) [] env:=by
 rcases hk with rfl|rfl|rfl|rfl|rfl <;>
 ·unfold je RP c6e EP Z5 Z7;simp (disch:=decide) only[aK];exact⟨_,rfl,rfl⟩
theorem b9k(N:Int)(env:aT):je (6,N) [] env:=by unfold je RP c6e EP Z5 Z7;simp (disch:=decide) only[aK];unfold Ey;cases plB (6,fQ IntKind.i64 N 16,jk N 16)<;>exact⟨_,rfl,rfl⟩
theorem b9n(N:Int)(env:aT):je (9,N) [] env:=by unfold je RP c6e EP Z5 Z7;simp (disch:=decide) only[aK];exact⟨_,rfl,rfl⟩
theorem b5X(N:Int)(env:aT):je (35,N) [] env:=by unfold je RP c6e EP Z5 Z7;simp (disch:=decide) only[aK];exact⟨_,rfl,rfl⟩
theorem b9l(N:Int)(env:aT)(h:jr (7,N) env=some true):je (7,N) [] env:=by
 unfold jr at h;simp (disch:=decide) only[O8,J3,o7,o6]at h;by_cases g:0<=N
 case neg=>rw[V9 l7]at h;cases h
 rw[V5 g,o7]at h;have h2:=jl.1 (I4 h);obtain⟨x,hx,hm⟩:=jZ g h2;unfold je RP c6e EP Z5 Z7;simp (disch:=decide) only[aK];rw[hx];simp (disch:=decide) only[aK];unfold Ey;cases plB x<;>exact⟨_,rfl,rfl⟩
theorem b9m(N:Int)(env:aT)(h:jr (8,N) env=some true):je (8,N) [] env:=by
 unfold jr at h;simp (disch:=decide) only[O8,J3,o7,o6]at h;by_cases g:0<=N
 case neg=>rw[V9 l7]at h;cases h
 rw[V5 g,o7]at h;by_cases h2:N<o9 env.2.2.1
 case neg=>rw[J6 l7]at h;cases h
 obtain⟨x,hx,hm⟩:=jZ g h2;unfold je RP c6e EP Z5 Z7;simp (disch:=decide) only[aK];rw[hx];simp (disch:=decide) only[aK];unfold Ey;cases plB x<;>exact⟨_,rfl,rfl⟩
def KE(k:Int)(t:Int×Int):Bool:=l9 (x8 t.2 0) (l9 (x8 k 36) (l9 (x8 t.1 2) true (x8 t.1 3)) (l9 (x8 k 39) (l9 (L9 2 t.1) (L9 t.1 5) false) (x8 t.1 1))) false
theorem a0c(k:Int)(t:Int×Int):c6U k t=some (KE k t):=by unfold c6U KE;cases x8 t.2 0<;>cases x8 k 36<;>cases x8 k 39<;>cases x8 t.1 2<;>cases L9 2 t.1<;>rfl
theorem wL(t:Int):uo t=some (l9 (L9 2 t) (L9 t 4) false):=by
 unfold uo;by_cases h2:t=2
 ·subst h2;rfl
 by_cases h3:t=3
 ·subst h3;rfl
 by_cases h4:t=4
 ·subst h4;rfl
 rw[J3 h2,J3 h3,J3 h4];by_cases g:2<=t
 ·rw[V5 g,V9 l7];rfl
 ·rw[V9 l7];rfl
theorem FY(t:Int):c6F t=some (l9 (L9 2 t) (L9 t 4) false):=wL t
theorem Yj(k:Int)(t:Int×Int):vZ k t=some (KE k t):=by
 unfold vZ KE;cases x8 t.2 0
 ·rfl
 cases x8 k 36
 ·cases x8 k 39
  ·rfl
  ·rw[wL];simp only[E5,o6,o7,o8];by_cases g:2<=t.1
   ·rw[V5 g];simp only[o7];by_cases g4:t.1<=4
    ·rw[V5 g4,V5 (show t.1<=5 by omega)];rfl
    ·rw[V9 l7];by_cases g5:t.1=5
     ·rw[O8 g5,V5 l7];rfl
     ·rw[J3 g5,V9 l7];rfl
   ·rw[V9 l7,J3 l7];rfl
 ·cases x8 t.1 2<;>rfl
def PG(v:V3)(t:Int×Int):Bool:=l9 (plB v) (l9 (x8 v.1 t.1) (x8 v.2.1 t.2) false) false
theorem Wj(v:V3)(t:Int×Int):Ba v t=some (PG v t):=by unfold Ba PG;rw[yz,o8];cases plB v<;>cases x8 v.1 t.1<;>rfl
theorem b1m(v:V3)(t:Int×Int):c6Y v t=some (PG v t):=by unfold c6Y PG;rw[qI,o8];cases plB v<;>cases x8 v.1 t.1<;>rfl
def FC(k a b:Int)(first:Bool):Int:=l9 (x8 k 36) (D6 .i64 a b) (l9 (x8 k 37) (dF .i64 a b) (l9 (x8 k 38) (l9 (E8 a b) b a) (l9 first b (l9 (E8 a b) b a))))
theorem b1l(k a b:Int)(f:Bool):c6X k a b f=some (FC k a b f):=by unfold c6X FC;cases x8 k 36<;>cases x8 k 37<;>cases x8 k 38<;>cases f<;>cases E8 a b<;>rfl
def WM(m:List V3)(N:Int)(t:Int×Int):V3⊕Int:=
 match G9 m N with
 |none=> .inr 6|some x=>l9 (x8 x.1 0) (.inr 6) (l9 (PG x t) (.inl x) (.inr 8))
def xF(k N:Int)(t:Int×Int)(b:Int×Bool)(m:List V3):(Int×Bool)⊕(V3×Int):=
 match WM m N t with
 | .inr c=> .inr ((0,0,0),c)| .inl x=>l9 (plB (t.1,0,FC k b.1 x.2.2 b.2)) (.inl (FC k b.1 x.2.2 b.2,false)) (.inr ((0,0,0),3))
def Zz(k N:Int)(t:Int×Int)(ms:List (List V3)):V3×Int:=
 l9 (KE k t) (match aY (xF k N t) ms (l9 (x8 k 37) 1 0,true)with
  | .inr c=>c
  | .inl a=>l9 (x8 k 39) (l9 (x8 (o9 ms) 0) ((0,0,0),6) (Ey (t.1,0,a.1))) (Ey (t.1,0,a.1))) ((0,0,0),8)
theorem Hg(k N:Int)(env:aT)(t:Int×Int)(ht:G9 env.2.2.2.2.1 N=some t)(h0:0<=N)(hl:env.2.2.2.1.length<=1000000):c6m (k,N) env=some (Zz k N t env.2.2.2.1):=by
 unfold c6m Zz;simp only[ht,o8,a0c];cases KE k t
 ·rfl
 simp only[E5,o6,o7];rw[show l9 (x8 k 37) (some (1:Int)) (some 0)=some (l9 (x8 k 37) 1 0) by cases x8 k 37<;>rfl,o8];apply uy env.2.2.2.1 (xF k N t) (λb i=>(((0,0,0),b.1,i):V3×Int×Int)) (λb=>(((0,0,0),b.1):V3×Int)) (λi b=>b.2=decide (i=0)) (l9 (x8 k 37) 1 0,true) hl rfl
 ·intro i m b hi hi' hb;have hm:=G7 env.2.2.2.1 i;rw[hi]at hm;have hlt:(i:Int)<o9 env.2.2.2.1:=by
   have:=Y6.1 hi;obtain⟨h,_⟩:=this;unfold o9;omega
  simp only[O0 hlt,o7,hm,o8];refine⟨?_,?_⟩
  ·unfold xF WM;by_cases g:o9 m<=N
   ·rw[V5 g,tC (.inr (J6 g))];rfl
   ·rw[V9 l7];obtain⟨x,hx,_⟩:=jZ h0 (show N<o9 m by omega);simp only[o6,hx,o8];cases x8 x.1 0
    case true=>rfl
    simp only[o6,o8,N7,b1m];cases PG x t
    ·rfl
    simp only[E5,o6,o7,b1l,o8,MX];have hz:x8 (i:Int) 0=b.2:=by rw[hb];unfold x8;congr 1;simp
    rw[hz];unfold Ey;cases plB (t.1,0,FC k b.1 x.2.2 b.2)
    ·rfl
    ·rw[dH l7];rfl
  ·intro b' hb';unfold xF at hb';cases hf:WM m N t with
   |inr c=>rw[hf]at hb';cases hb'|inl x=>rw[hf]at hb';simp only at hb';cases hp:plB (t.1,0,FC k b.1 x.2.2 b.2)<;>rw[hp]at hb'<;>cases hb';simp
 ·intro b hb;rw[J6 (show o9 env.2.2.2.1<=(env.2.2.2.1.length:Int)from ed _)];rfl
 ·intro _;cases aY (xF k N t) env.2.2.2.1 (l9 (x8 k 37) 1 0,true)with
  |inr c=>rfl|inl a=>simp only[N7,MX,o8];cases x8 k 39<;>cases x8 (o9 env.2.2.2.1) 0<;>rfl
theorem a4a{x:V3}{t:Int×Int}(h:PG x t=true):plB x=true/\x.1=t.1/\x.2.1=t.2:=by
 unfold PG at h;cases h1:plB x<;>rw[h1]at h
 ·cases h
 cases h2:x8 x.1 t.1<;>rw[h2]at h
 ·cases h
 simp only[o7]at h;exact⟨rfl,V6.1 h2,V6.1 h⟩
theorem Nb{k:Int}(hk:k=1){n:Int}(h:plB (k,0,n)=true):n=0\/n=1:=by subst hk;rcases Xk h with⟨m,h,g⟩|⟨m,h,g⟩|⟨m,h,g⟩|⟨m,h,g⟩|⟨m,h,g⟩|⟨e',m,h,g⟩<;>cases h;exact g
theorem RN{k:Int}{t:Int×Int}(h:KE k t=true):t.2=0:=by
 unfold KE at h;cases g:x8 t.2 0<;>rw[g]at h
 ·cases h
 exact V6.1 g
theorem a6b{t:Int×Int}(h:KE 37 t=true):t.1=1:=by have:=RN h;unfold KE at h;rw[O8 this]at h;exact V6.1 h
theorem a7M(k N:Int)(t:Int×Int)(hk:k=36\/k=37\/k=38\/k=39)(ha:KE k t=true)(b:Int×Bool)(x:V3)(hx:PG x t=true)(i:Nat)(hi:i<=1000000)(hb:b.2=decide (i=0))(hp:k=36\/b.2=true/\k=39\/plB (t.1,0,b.1)=true)(v:V3)(hv:v=(0,0,0)):
  (l9 (x8 k 36) (o5 (gX (t.1,t.2,D6 .i64 b.1 x.2.2)) λ(q:Bool)=>l9 (F6 q) (some (Out.rt (((0,0,0),3):V3×Int))) (some (Out.nx ((v,(t.1,t.2,D6 .i64 b.1 x.2.2),D6 .i64 (i:Int) 1):V3×V3×Int))))
   (l9 (x8 k 37) (some (Out.nx (v,(t.1,t.2,pF b.1 x.2.2),D6 .i64 (i:Int) 1)))
    (l9 (x8 k 38) (some (Out.nx (v,(t.1,t.2,kK b.1 x.2.2),D6 .i64 (i:Int) 1)))
     (l9 (x8 k 39) (l9 (x8 (i:Int) 0) (some (Out.nx (v,x,D6 .i64 (i:Int) 1))) (l9 (E8 b.1 x.2.2) (some (Out.nx (v,x,D6 .i64 (i:Int) 1))) (some (Out.nx (v,(t.1,t.2,b.1),D6 .i64 (i:Int) 1)))))
      (some (Out.nx (v,(t.1,t.2,b.1),D6 .i64 (i:Int) 1)))))):Option (Out (V3×V3×Int) (V3×V3) (V3×Int)))=
  some (match(l9 (plB (t.1,0,FC k b.1 x.2.2 b.2)) (.inl (FC k b.1 x.2.2 b.2,false)) (.inr ((0,0,0),3)):(Int×Bool)⊕(V3×Int))with| .inl b' => .nx ((0,0,0),(t.1,t.2,b'.1),((i+1:Nat):Int))| .inr r=> .rt r)/\
  (k≠36->plB (t.1,0,FC k b.1 x.2.2 b.2)=true):=by
 subst hv;have hz:=RN ha;obtain⟨hx1,hx2,hx3⟩:=a4a hx;have hxe:x=(t.1,t.2,x.2.2):=by rw[←hx2,←hx3]
 have hxp:plB (t.1,0,x.2.2)=true:=by rw[←hz,←hxe];exact hx1
 obtain⟨acc,fi⟩:=b;simp only at hb hp ⊢;rw[dH l7];rcases hk with rfl|rfl|rfl|rfl
 ·refine⟨?_,λh=>absurd rfl h⟩;simp (disch:=decide) only[O8,o7,yz,o8];rw[hz,show FC 36 acc x.2.2 fi=D6 .i64 acc x.2.2 from rfl];cases plB (t.1,0,D6 .i64 acc x.2.2)<;>rfl
 ·have ht1:=a6b ha;have hp' :plB (t.1,0,acc)=true:=by
   rcases hp with h|h|h
   ·exact absurd h D7
   ·exact absurd h.2 D7
   ·exact h
  have e1:=Nb ht1 hp';have e2:=Nb ht1 hxp;have e3:FC 37 acc x.2.2 fi=pF acc x.2.2/\plB (t.1,0,FC 37 acc x.2.2 fi)=true:=by rw[ht1];generalize x.2.2=q at e2 ⊢;rcases e1 with rfl|rfl<;>rcases e2 with rfl|rfl<;>exact⟨rfl,rfl⟩
  refine⟨?_,λ_=>e3.2⟩;simp (disch:=decide) only[O8,J3,o7,o6];rw[e3.2,e3.1,o7]
 ·have ht1:t.1=1:=by
   unfold KE at ha;rw[O8 hz]at ha;exact V6.1 ha
  have hp' :plB (t.1,0,acc)=true:=by
   rcases hp with h|h|h
   ·exact absurd h D7
   ·exact absurd h.2 D7
   ·exact h
  have e1:=Nb ht1 hp';have e2:=Nb ht1 hxp;have e3:FC 38 acc x.2.2 fi=kK acc x.2.2/\plB (t.1,0,FC 38 acc x.2.2 fi)=true:=by rw[ht1];generalize x.2.2=q at e2 ⊢;rcases e1 with rfl|rfl<;>rcases e2 with rfl|rfl<;>exact⟨rfl,rfl⟩
  refine⟨?_,λ_=>e3.2⟩;simp (disch:=decide) only[O8,J3,o7,o6];rw[e3.2,e3.1,o7]
 ·have hf:FC 39 acc x.2.2 fi=l9 fi x.2.2 (l9 (E8 acc x.2.2) x.2.2 acc):=rfl;simp (disch:=decide) only[O8,J3,o7,o6];rw[hf];have hz' :x8 (i:Int) 0=fi:=by rw[hb];unfold x8;congr 1;simp
  rw[hz'];cases fi
  case true=>simp only[o7,hxp];exact⟨by rw[←hxe],λ_=>trivial⟩
  case false=>
   have hp' :plB (t.1,0,acc)=true:=by
    rcases hp with h|h|h
    ·exact absurd h D7
    ·exact absurd h.1 A7
    ·exact h
   simp only[o6];cases E8 acc x.2.2
   ·simp only[o6,hp',o7];exact⟨trivial,λ_=>trivial⟩
   ·simp only[o7,hxp];exact⟨by rw[←hxe],λ_=>trivial⟩
theorem a7g{γ:Type}(c:Option γ)(K:γ->Option (V3×Int)):a7f (o5 c K)=o5 c λo=>a7f (K o):=by cases c<;>rfl
theorem qK{α β ρ:Type}(G:β->α->β⊕ρ)(P:ρ->Prop)(hG:∀b a r,G b a= .inr r->P r):∀(l:List α) (b:β) (r:ρ),aY G l b= .inr r->P r
 |[],b,r,h=>by cases h|a::l,b,r,h=>by
  unfold aY at h;cases hg:G b a with
  |inr r' =>rw[hg]at h;simp only at h;cases h;exact hG _ _ _ hg|inl b' =>rw[hg]at h;exact qK G P hG l b' r h
theorem a9U(k N:Int)(t:Int×Int)(b:Int×Bool)(m:List V3)(r:V3×Int)(h:xF k N t b m= .inr r):r=((0,0,0),6)\/r=((0,0,0),8)\/r=((0,0,0),3):=by
 unfold xF at h;cases hf:WM m N t with
 |inr c=>
  rw[hf]at h;simp only at h;cases h;unfold WM at hf;cases hm:G9 m N with
  |none=>rw[hm]at hf;cases hf;exact .inl rfl|some x=>
   rw[hm]at hf;simp only at hf;cases h1:x8 x.1 0<;>rw[h1]at hf
   ·cases h2:PG x t<;>rw[h2]at hf<;>cases hf;exact .inr (.inl rfl)
   ·cases hf;exact .inl rfl
 |inl x=>rw[hf]at h;simp only at h;cases h1:plB (t.1,0,FC k b.1 x.2.2 b.2)<;>rw[h1]at h<;>cases h;exact .inr (.inr rfl)
theorem UL(k N:Int)(env:aT)(hk:k=36\/k=37\/k=38\/k=39)(he:jr (k,N) env=some true)(hl:env.2.2.2.1.length<=1000000):je (k,N) [] env:=by
 have hN:0<=N/\N<o9 env.2.2.2.2.1:=by
  unfold jr at he;rcases hk with rfl|rfl|rfl|rfl <;>
  ·simp (disch:=decide) only[O8,J3,o7,o6,o8]at he;by_cases g:0<=N
   case neg=>rw[V9 l7]at he;cases he
   rw[V5 g,o7]at he;exact⟨g,jl.1 (I4 he)⟩
 obtain⟨t,ht,_⟩:=jZ hN.1 hN.2;refine⟨Zz k N t env.2.2.2.1,?_,?_⟩
 ·unfold RP;rw[ll0,show L9 36 k=true from V5 l7,show L9 k 39=true from V5 l7,Hg k N env t ht hN.1 hl];rfl
 have hA:Z5 (k,N) [] env=some (KE k t):=by
  unfold Z5;rcases hk with rfl|rfl|rfl|rfl <;>
  ·simp (disch:=decide) only[O8,J3,o7,o6,o8,ht,Yj,vP]
 have hC:Z7 (k,N) [] env=uT (k,N) env:=by
  unfold Z7;rcases hk with rfl|rfl|rfl|rfl <;>
  ·simp (disch:=decide) only[O8,J3,o7,o6,o8];generalize uT _ env=o;cases o<;>rfl
 unfold EP;rw[hA,o8,hC];unfold Zz;cases ha:KE k t
 ·rfl
 simp only[E5,o6,o7];have hz:=RN ha;unfold uT;simp only[ht,o8];rw[show l9 (x8 k 37) (some (t.1,t.2,(1:Int))) (some (t.1,t.2,0))=some (t.1,t.2,l9 (x8 k 37) 1 0) by cases x8 k 37<;>rfl,o8];have hinit:k=36\/(true=true/\k=39)\/plB (t.1,0,l9 (x8 k 37) 1 0)=true:=by
  rcases hk with rfl|rfl|rfl|rfl
  ·exact .inl rfl
  ·right;right;rw[a6b ha];rfl
  ·right;right;have ht1:t.1=1:=by
    unfold KE at ha;rw[O8 hz]at ha;exact V6.1 ha
   rw[ht1];rfl
  ·exact .inr (.inl ⟨rfl,rfl⟩)
 by_cases hz0:k=39/\o9 env.2.2.2.1=0
 ·rw[O8 hz0.1,O8 hz0.2];have:env.2.2.2.1=[]:=by have:=hz0.2;unfold o9 at this;exact O9.1 l7
  rw[this];rfl
 rw[show(l9 (x8 k 39) (l9 (x8 (o9 env.2.2.2.1) 0) (some (Sum.inr (((0,0,0),6):V3×Int))) (some (Sum.inl ((0,0,0):V3)))) (some (Sum.inl (0,0,0))))=some (.inl (0,0,0)) by
  by_cases h1:k=39
  ·rw[O8 h1,J3 (λh=>hz0 ⟨h1,h⟩)];rfl
  ·rw[J3 h1];rfl]
 simp only[o8,N7];have hend:(match aY (xF k N t) env.2.2.2.1 (l9 (x8 k 37) 1 0,true)with
  | .inr c=>c
  | .inl a=>l9 (x8 k 39) (l9 (x8 (o9 env.2.2.2.1) 0) ((0,0,0),6) (Ey (t.1,0,a.1))) (Ey (t.1,0,a.1)))=(match aY (xF k N t) env.2.2.2.1 (l9 (x8 k 37) 1 0,true)with
  | .inr c=>c
  | .inl a=>Ey (t.1,0,a.1)):=by
  cases aY (xF k N t) env.2.2.2.1 (l9 (x8 k 37) 1 0,true)with
  |inr c=>rfl|inl a=>
   by_cases h1:k=39
   ·rw[O8 h1,J3 (λh=>hz0 ⟨h1,h⟩)];rfl
   ·rw[J3 h1];rfl
 refine Eq.trans ?_ (congrArg some hend.symm);rw[a7g];apply uy env.2.2.2.1 (xF k N t) (λb i=>(((0,0,0),(t.1,t.2,b.1),i):V3×V3×Int)) (λb=>(((0,0,0),(t.1,t.2,b.1)):V3×V3)) (λi b=>b.2=decide (i=0)/\(k=36\/(b.2=true/\k=39)\/plB (t.1,0,b.1)=true)) (l9 (x8 k 37) 1 0,true) hl ⟨rfl,hinit⟩
 ·intro i m b hi hi' hb;have hm:=G7 env.2.2.2.1 i;rw[hi]at hm;have hlt:(i:Int)<o9 env.2.2.2.1:=by
   have:=Y6.1 hi;obtain⟨h,_⟩:=this;unfold o9;omega
  simp only[O0 hlt,o7,hm,o8];by_cases g:o9 m<=N
  ·have e:xF k N t b m= .inr ((0,0,0),6):=by unfold xF WM;rw[tC (.inr (J6 g))]
   rw[e];refine⟨?_,λ_ h=>by cases h⟩;rw[V5 g];rfl
  rw[V9 l7];obtain⟨x,hx,_⟩:=jZ hN.1 (show N<o9 m by omega);simp only[o6,hx,o8];cases h0:x8 x.1 0
  case true=>
   have e:xF k N t b m= .inr ((0,0,0),6):=by unfold xF WM;rw[hx];simp only[h0];rfl
   rw[e];exact⟨rfl,λ_ h=>by cases h⟩
  simp only[o6,o8,N7,Wj];cases hh:PG x t
  ·have e:xF k N t b m= .inr ((0,0,0),8):=by unfold xF WM;rw[hx];simp only[h0,hh];rfl
   rw[e];exact⟨rfl,λ_ h=>by cases h⟩
  have e:xF k N t b m=l9 (plB (t.1,0,FC k b.1 x.2.2 b.2)) (.inl (FC k b.1 x.2.2 b.2,false)) (.inr ((0,0,0),3)):=by unfold xF WM;rw[hx];simp only[h0,hh,o7,o6]
  obtain⟨s1,s2⟩:=a7M k N t hk ha b x hh i hi' hb.1 hb.2 (0,0,0) rfl;refine⟨?_,?_⟩
  ·rw[e,E5,o6];refine Eq.trans (Eq.trans ?_ s1) ?_
   ·rfl
   ·cases plB (t.1,0,FC k b.1 x.2.2 b.2)<;>rfl
  ·intro b' hb';rw[e]at hb';cases hp:plB (t.1,0,FC k b.1 x.2.2 b.2)<;>rw[hp]at hb'<;>cases hb';exact⟨A7,.inr (.inr hp)⟩
 ·intro b hb;rw[J6 (show o9 env.2.2.2.1<=(env.2.2.2.1.length:Int)from ed _)];rfl
 ·intro hf;cases hq:aY (xF k N t) env.2.2.2.1 (l9 (x8 k 37) 1 0,true)with
  |inr c=>rcases qK (xF k N t) (λr=>r=((0,0,0),6)\/r=((0,0,0),8)\/r=((0,0,0),3)) (a9U k N t) _ _ _ hq with rfl|rfl|rfl<;>rfl
  |inl a=>simp only[N7,Cj,MF,hz]
theorem a6r{k e n:Int}(hk:k=5)(h:plB (k,e,n)=true):0<=n/\n<=109572:=by subst hk;rcases Xk h with⟨m,h,g⟩|⟨m,h,g⟩|⟨m,h,g⟩|⟨m,h,g⟩|⟨m,h,g⟩|⟨e',m,h,g⟩<;>cases h;exact g
theorem b5L(N:Int)(x:V3)(env:aT):je (10,N) [x] env:=by
 unfold je RP EP c6i Z5 Z7 Fv sW;simp (disch:=decide) only[aK];simp only[FY,wL,o8];cases l9 (L9 2 x.1) (L9 x.1 4) false
 ·exact⟨_,rfl,rfl⟩
 ·simp (disch:=decide) only[aK];exact⟨_,rfl,rfl⟩
theorem b5Q(N:Int)(x:V3)(env:aT):je (25,N) [x] env:=by
 unfold je RP EP c6i Z5 Z7 Fv sW;simp (disch:=decide) only[aK];cases x8 x.1 1
 ·exact⟨_,rfl,rfl⟩
 ·simp (disch:=decide) only[aK];exact⟨_,rfl,rfl⟩
theorem a5D(k N:Int)(x:V3)(env:aT)(hk:k=31\/k=32)(hx:plB x=true):je (k,N) [x] env:=by
 have hAB:∃q:Int×Int×Int,x.1=5->vW x.2.2=some q/\c6N x.2.2=some q:=⟨_,λh=>⟨yT (a6r h hx).1 (a6r h hx).2,Gg (a6r h hx).1 (a6r h hx).2⟩⟩;obtain⟨q,hAB⟩:=hAB;rcases hk with rfl|rfl
 all_goals
  unfold je RP EP c6i Z5 Z7 Fv sW;simp (disch:=decide) only[aK];cases h5:x8 x.1 5
  ·simp only[bH,o7,o8,vP];exact⟨_,rfl,rfl⟩
  rw[(hAB (V6.1 h5)).1,(hAB (V6.1 h5)).2];simp (disch:=decide) only[aK];exact⟨_,rfl,rfl⟩
theorem b5V(N:Int)(x:V3)(env:aT)(hx:plB x=true)(he:jr (33,N) env=some true)(ht:∀t∈env.2.2.2.2.2,AQ t):je (33,N) [x] env:=by
 unfold jr at he;simp (disch:=decide) only[O8,J3,o7,o6,o8]at he;by_cases g:0<=N
 case neg=>rw[V9 l7]at he;cases he
 rw[V5 g,o7]at he;obtain⟨t,hq,hm⟩:=jZ g (jl.1 (I4 he));have hr:=ht t hm;unfold je RP EP c6i Z5 Z7 c6M;simp (disch:=decide) only[aK];simp only[hq,o8,Wj,PG,hx,o7];by_cases h1:x.1=t.2.1.1
 case neg=>rw[J3 h1];exact⟨_,rfl,rfl⟩
 rw[O8 h1];by_cases h2:x.2.1=t.2.1.2
 case neg=>rw[J3 h2];exact⟨_,rfl,rfl⟩
 rw[O8 h2];by_cases h3:1<=t.2.2.1.1
 case neg=>rw[V9 (iV.1 h3),O0 (iV.1 h3)];exact⟨_,rfl,rfl⟩
 rw[V5 h3,J6 h3];by_cases h4:t.2.2.1.1<=6
 case neg=>rw[V9 (iV.1 h4),O0 (iV.1 h4)];exact⟨_,rfl,rfl⟩
 rw[V5 h4,J6 h4];simp (disch:=decide) only[aK];rw[a7r _ _ (by have:=hr.1;omega),Xq _ _ (by have:=hr.1;omega)];simp (disch:=decide) only[aK];cases hl:PP t.2.2.2 env.1 x.2.2 with
 |mk i b=>
  cases b
  ·exact⟨_,rfl,rfl⟩
  ·obtain⟨l1,l2⟩:=a9Q hl;obtain⟨row,hrow,_⟩:=jZ l1 l2;simp (disch:=decide) only[aK];rw[hrow];simp (disch:=decide) only[aK];unfold Ey;cases plB (t.2.2.1.1,t.2.2.1.2,row.2.2.2)<;>exact⟨_,rfl,rfl⟩
theorem b5W(N:Int)(x:V3)(env:aT)(h0:0<=N)(hI:N<=9223372036854775807)(he:jr (34,N) env=some true)(ht:∀t∈env.2.2.2.2.2,AQ t):je (34,N) [x] env:=by
 unfold jr at he;simp (disch:=decide) only[O8,J3,o7,o6,o8]at he;have hq0:0<=fQ .i64 N 8:=by
  rw[show fQ .i64 N 8=N / 8 by unfold fQ;rw[Int.tdiv_eq_ediv_of_nonneg h0];exact kX L8]
  omega
 obtain⟨t,hq,hm⟩:=jZ hq0 (jl.1 (I4 he));have hr:=ht t hm;unfold je RP EP c6i Z5 Z7;simp (disch:=decide) only[aK];simp only[hq,o8];cases x8 x.1 3
 ·exact⟨_,rfl,rfl⟩
 cases x8 t.2.1.1 3
 ·exact⟨_,rfl,rfl⟩
 cases x8 t.2.1.2 0
 ·exact⟨_,rfl,rfl⟩
 cases x8 t.2.2.1.1 4
 ·exact⟨_,rfl,rfl⟩
 cases x8 t.2.2.1.2 0
 ·exact⟨_,rfl,rfl⟩
 simp (disch:=decide) only[aK];rw[show nN true true=true from rfl];simp (disch:=decide) only[aK];rw[a1e _ _ _ hr,a0d _ _ _ hr];simp (disch:=decide) only[aK];exact⟨_,rfl,rfl⟩
theorem UY(x y:V3):uq x y=some (l9 (x8 x.1 y.1) (x8 x.2.1 y.2.1) false):=by unfold uq;cases x8 x.1 y.1<;>rfl
theorem a5B(k N:Int)(x y:V3)(env:aT)(hk:k=11\/k=12):je (k,N) [x,y] env:=by
 rcases hk with rfl|rfl
 all_goals
  (unfold je RP EP Z5 Z7 kC bi c6g;simp (disch:=decide) only[aK])
  unfold c6l;simp (disch:=decide) only[aK];simp only[UY,wL,FY,o8];cases x8 x.1 y.1
  ·exact⟨_,rfl,rfl⟩
  cases x8 x.2.1 y.2.1
  ·exact⟨_,rfl,rfl⟩
  cases l9 (L9 2 x.1) (L9 x.1 4) false
  ·exact⟨_,rfl,rfl⟩
  simp (disch:=decide) only[aK];exact⟨_,rfl,rfl⟩
theorem a8N(k N:Int)(x y:V3)(env:aT)(hk:k=19\/k=20):je (k,N) [x,y] env:=by
 rcases hk with rfl|rfl
 all_goals
  (unfold je RP EP Z5 Z7 kC bi c6g;simp (disch:=decide) only[aK])
  unfold c6l;simp (disch:=decide) only[aK];simp only[UY,wL,FY,o8];cases x8 x.1 y.1
  ·exact⟨_,rfl,rfl⟩
  cases x8 x.2.1 y.2.1
  ·exact⟨_,rfl,rfl⟩
  simp (disch:=decide) only[aK];exact⟨_,rfl,rfl⟩
theorem a5C(k N:Int)(x y:V3)(env:aT)(hk:k=21\/k=22):je (k,N) [x,y] env:=by
 rcases hk with rfl|rfl
 all_goals
  (unfold je RP EP Z5 Z7 kC bi c6g;simp (disch:=decide) only[aK])
  unfold c6l;simp (disch:=decide) only[aK];simp only[UY,wL,FY,o8];cases x8 x.1 y.1
  ·exact⟨_,rfl,rfl⟩
  cases x8 x.2.1 y.2.1
  ·exact⟨_,rfl,rfl⟩
  simp (disch:=decide) only[aK];cases l9 (L9 2 x.1) (L9 x.1 4) false
  ·simp (disch:=decide) only[aK];cases x8 x.1 5
   ·exact⟨_,rfl,rfl⟩
   simp (disch:=decide) only[aK];exact⟨_,rfl,rfl⟩
  simp (disch:=decide) only[aK];exact⟨_,rfl,rfl⟩
theorem Vo(k N:Int)(x y:V3)(env:aT)(hk:k=17\/k=18)(hx:plB x=true)(hy:plB y=true):je (k,N) [x,y] env:=by
 have mx:Ey x=(x,0):=by unfold Ey;rw[hx];rfl
 have my:Ey y=(y,0):=by unfold Ey;rw[hy];rfl
 have hE:x.1=y.1->x.2.1=y.2.1->x.2.2=y.2.2->x=y:=λh1 h2 h3=>by rw[show x=(x.1,x.2.1,x.2.2)from rfl,h1,h2,h3]
 have fin:x.1=y.1->x.2.1=y.2.1->∀b:Bool,(∃r:V3×Int,l9 (kU b (E8 x.2.2 y.2.2)) (some (x,0)) (some (y,0))=some r/\a7f (l9 (kU b (E8 y.2.2 x.2.2)) (some (y,0)) (some (x,0)))=some r):=by
  intro h1 h2 b;by_cases g:x.2.2<y.2.2
  ·rw[O0 g,J6 (Int.le_of_lt g)];cases b
   ·exact⟨(y,0),rfl,by rw[show l9 (kU false false) (some (y,(0:Int))) (some (x,0))=some (y,0)from rfl,Cj,MF,my]⟩
   ·exact⟨(x,0),rfl,by rw[show l9 (kU true false) (some (y,(0:Int))) (some (x,0))=some (x,0)from rfl,Cj,MF,mx]⟩
  by_cases g' :y.2.2<x.2.2
  ·rw[O0 g',J6 (Int.le_of_lt g')];cases b
   ·exact⟨(x,0),rfl,by rw[show l9 (kU false true) (some (y,(0:Int))) (some (x,0))=some (x,0)from rfl,Cj,MF,mx]⟩
   ·exact⟨(y,0),rfl,by rw[show l9 (kU true true) (some (y,(0:Int))) (some (x,0))=some (y,0)from rfl,Cj,MF,my]⟩
  have e:=hE h1 h2 (Int.le_antisymm (gW.1 g') (gW.1 g));refine⟨(x,0),?_,?_⟩
  ·rw[e];cases kU b (E8 y.2.2 y.2.2)<;>rfl
  ·rw[←e];rw[show l9 (kU b (E8 x.2.2 x.2.2)) (some (x,(0:Int))) (some (x,0))=some (x,0) by cases kU b (E8 x.2.2 x.2.2)<;>rfl,Cj,MF,mx]
 have osum:∀(c:Bool),(o5 (l9 c (some (Sum.inr (y,(0:Int)):V3⊕(V3×Int))) (some (.inr (x,0)))) λo=>aj o (λ_=>o5 (pJ x.2.2 y.2.2) λ(q:Int)=>some ((2,0,q),(0:Int))) λr=>some r)=l9 c (some (y,0)) (some (x,0)):=λc=>by cases c<;>rfl
 rcases hk with rfl|rfl
 all_goals
  (unfold je RP EP Z5 Z7 kC bi c6g;simp (disch:=decide) only[aK])
  unfold c6l;simp (disch:=decide) only[aK];simp only[UY,wL,FY,o8];cases g1:x8 x.1 y.1
  ·exact⟨_,rfl,rfl⟩
  cases g2:x8 x.2.1 y.2.1
  ·exact⟨_,rfl,rfl⟩
  simp (disch:=decide) only[aK];have F:=fin (V6.1 g1) (V6.1 g2);rw[osum];cases l9 (L9 2 x.1) (L9 x.1 4) false
  ·simp (disch:=decide) only[aK];cases x8 x.1 5
   ·exact⟨_,rfl,rfl⟩
   simp (disch:=decide) only[aK];simp only[dZ];first|exact F true|exact F false
  simp (disch:=decide) only[aK];simp only[dZ];first|exact F true|exact F false
theorem b5R(N:Int)(x y:V3)(env:aT):je (27,N) [x,y] env:=by
 (unfold je RP EP Z5 Z7 kC bi c6g;simp (disch:=decide) only[aK])
 unfold c6w;simp (disch:=decide) only[aK];cases g1:x8 x.1 5
 ·exact⟨_,rfl,rfl⟩
 cases x8 y.1 2
 ·exact⟨_,rfl,rfl⟩
 simp (disch:=decide) only[aK];rw[V6.1 g1];exact⟨_,rfl,rfl⟩
theorem b5S(N:Int)(x y:V3)(env:aT):je (28,N) [x,y] env:=by
 have hA:∃q,uS x.2.2 y.2.2=some q/\c6o x.2.2 y.2.2=some q:=⟨_,OQ _ _,NR _ _⟩;obtain⟨q,h1,h2⟩:=hA
 (unfold je RP EP Z5 Z7 kC bi c6g;simp (disch:=decide) only[aK])
 unfold c6w;simp (disch:=decide) only[aK];cases g1:x8 x.1 5
 ·exact⟨_,rfl,rfl⟩
 cases x8 y.1 2
 ·exact⟨_,rfl,rfl⟩
 simp (disch:=decide) only[aK];rw[h1,h2];simp (disch:=decide) only[aK];exact⟨_,rfl,rfl⟩
theorem b5T(N:Int)(x y:V3)(env:aT):je (29,N) [x,y] env:=by
 (unfold je RP EP Z5 Z7 kC bi c6g;simp (disch:=decide) only[aK])
 unfold c6w;simp (disch:=decide) only[aK];cases g1:x8 x.1 5
 ·exact⟨_,rfl,rfl⟩
 cases x8 y.1 5
 ·exact⟨_,rfl,rfl⟩
 simp (disch:=decide) only[aK];exact⟨_,rfl,rfl⟩
theorem b5U(N:Int)(x y:V3)(env:aT):je (30,N) [x,y] env:=by
 have hA:∃q,pJ x.2.2 y.2.2=some q/\c6B x.2.2 y.2.2=some q:=⟨_,UJ _ _,Sv _ _⟩;obtain⟨q,h1,h2⟩:=hA
 (unfold je RP EP Z5 Z7 kC bi c6g;simp (disch:=decide) only[aK])
 unfold c6w;simp (disch:=decide) only[aK];cases g1:x8 x.1 5
 ·exact⟨_,rfl,rfl⟩
 cases x8 y.1 5
 ·exact⟨_,rfl,rfl⟩
 simp (disch:=decide) only[aK];rw[h1,h2];simp (disch:=decide) only[aK];exact⟨_,rfl,rfl⟩
theorem b5N(N:Int)(x y:V3)(env:aT):je (14,N) [x,y] env:=by
 have hA:∃q,FZ x.2.2 y.2.2 N=some q/\c6I x.2.2 y.2.2 N=some q:=⟨_,a8O _ _ _,a7S _ _ _⟩;have hB:∃q,LD x.2.2 y.2.2 N=some q/\c6P x.2.2 y.2.2 N=some q:=⟨_,b4y _ _ _,b1o _ _ _⟩;obtain⟨q,h1,h2⟩:=hA;obtain⟨q',h3,h4⟩:=hB
 (unfold je RP EP Z5 Z7 kC bi c6g;simp (disch:=decide) only[aK])
 unfold c6u Ai;simp (disch:=decide) only[aK];rw[h1,h2,h3,h4];cases x8 y.1 4
 ·exact⟨_,rfl,rfl⟩
 by_cases g3:x.1=3
 ·rw[O8 g3];simp (disch:=decide) only[aK];exact⟨_,rfl,rfl⟩
 rw[J3 g3];simp (disch:=decide) only[aK];cases x8 x.1 4
 ·exact⟨_,rfl,rfl⟩
 simp (disch:=decide) only[aK];exact⟨_,rfl,rfl⟩
theorem b5P(N:Int)(x y:V3)(env:aT):je (16,N) [x,y] env:=by
 have hA:∃q,yY x.2.2 y.2.2 N=some q/\c6C x.2.2 y.2.2 N=some q:=⟨_,a4H _ _ _,a2u _ _ _⟩;obtain⟨q,h1,h2⟩:=hA
 (unfold je RP EP Z5 Z7 kC bi c6g;simp (disch:=decide) only[aK])
 unfold c6u Ai;simp (disch:=decide) only[aK];rw[h1,h2];cases x8 x.1 3
 ·exact⟨_,rfl,rfl⟩
 cases x8 y.1 3
 ·exact⟨_,rfl,rfl⟩
 simp (disch:=decide) only[aK];exact⟨_,rfl,rfl⟩
theorem b5O(N:Int)(x y:V3)(env:aT):je (15,N) [x,y] env:=by
 have hA:∃q,jF x.2.2 y.2.2 N=some q/\c6y x.2.2 y.2.2 N=some q:=⟨_,GK _ _ _,a0e _ _ _⟩;have hB:∃q,xJ x.2.2 y.2.2 N=some q/\c6v x.2.2 y.2.2 N=some q:=⟨_,D_ _ _ _,Yq _ _ _⟩;obtain⟨q,h1,h2⟩:=hA;obtain⟨q',h3,h4⟩:=hB
 (unfold je RP EP Z5 Z7 kC bi c6g;simp (disch:=decide) only[aK])
 unfold c6u Ai;simp (disch:=decide) only[aK];rw[h1,h2,h3,h4];by_cases g2:y.1=2
 ·rw[O8 g2,J3 (show y.1≠3 by rw[g2];decide)];simp (disch:=decide) only[aK];by_cases g3:x.1=3
  ·rw[O8 g3,J3 (show x.1≠2 by rw[g3];decide)];simp (disch:=decide) only[aK];exact⟨_,rfl,rfl⟩
  rw[J3 g3];cases x8 x.1 2
  ·exact⟨_,rfl,rfl⟩
  simp (disch:=decide) only[aK];exact⟨_,rfl,rfl⟩
 rw[J3 g2];simp (disch:=decide) only[aK];cases x8 x.1 3
 ·exact⟨_,rfl,rfl⟩
 simp (disch:=decide) only[aK];cases x8 y.1 3
 ·exact⟨_,rfl,rfl⟩
 simp (disch:=decide) only[aK];exact⟨_,rfl,rfl⟩
theorem Ae(n:Int):(n<0/\X9 n=-n)\/(0<=n/\X9 n=n):=by
 unfold X9;by_cases h:n<0
 ·left;exact⟨h,if_pos h⟩
 ·right;exact⟨l7,if_neg h⟩
theorem a5y(a b:Int):(l9 (F6 (kU (E8 a 0) (E8 b 0))) (-(X9 a*X9 b)) (X9 a*X9 b))=a*b:=by
 rcases Ae a with⟨h1,e1⟩|⟨h1,e1⟩<;>rcases Ae b with⟨h2,e2⟩|⟨h2,e2⟩<;>rw[e1,e2]
 ·rw[O0 h1,O0 h2];show -a*-b=a*b;rw[Int.neg_mul_neg]
 ·rw[O0 h1,J6 h2];show -(-a*b)=a*b;rw[jO,Int.neg_neg]
 ·rw[J6 h1,O0 h2];show -(a*-b)=a*b;rw[Int.mul_neg,Int.neg_neg]
 ·rw[J6 h1,J6 h2];rfl
theorem a4y{a b:Int}(ha:-1000000000000000<=a/\a<=1000000000000000)(hb:-1000000000000<=b/\b<=1000000000000):yf a b=some (l9 (E8 1000000000000000 (X9 a*X9 b)) (0,3) (a*b,0)):=by
 unfold yf;rw[PK l7 l7,PK l7 l7];have A0:0<=X9 a/\X9 a<=1000000000000000:=by rcases Ae a with⟨h1,e1⟩|⟨h1,e1⟩<;>omega
 have B0:0<=X9 b/\X9 b<=1000000000000:=by rcases Ae b with⟨h1,e1⟩|⟨h1,e1⟩<;>omega
 rw[Qb A0.1 l7 B0.1 l7,o8];have hm:=a5y a b;have hp:0<=X9 a*X9 b:=P6 A0.1 B0.1;generalize X9 a*X9 b=p at hm hp ⊢;simp only;by_cases g:p / 18446744073709551616=0
 case neg=>rw[J3 g,O0 (show(1000000000000000:Int)<p by omega)];rfl
 rw[O8 g,show p % 18446744073709551616=p by omega];by_cases g2:1000000000000000<p
 ·rw[O0 g2];rfl
 rw[J6 l7];simp only[E5,o6];rw[show wrap .i64 p=p from kX L8,O5 L8,show(0:Int) -p=-p by omega];rw[←hm];cases F6 (kU (E8 a 0) (E8 b 0))<;>rfl
theorem JK{x y M:Int}(W:V3×Int)(hy:0<=y)(hM:0<=M)(hM2:M<=1000000000000000):l9 (F6 (x8 y 0)) (o5 (FI .i64 M y) λ(q:Int)=>l9 (E8 q x) (some ((0,0,0),3)) (some W)) (some W)=some (l9 (E8 M (x*y)) ((0,0,0),3) W):=by
 by_cases h:y=0
 ·subst h;rw[O8 rfl,Int.mul_zero,J6 hM];rfl
 rw[J3 h];simp only[bH,o7];rw[wI hM l7 l7,o8];have e:M / y<x↔M<x*y:=Int.ediv_lt_iff_lt_mul l7;by_cases g:M / y<x
 ·rw[O0 g,O0 (e.1 g)];rfl
 ·rw[J6 (gW.1 g),J6 (gW.1 λh=>g (e.2 h))];rfl
theorem a2t{k a b M:Int}(hM:c6L k=some (-M,M))(hM0:0<=M)(hM2:M<=1000000000000000)(ha:-1000000000000000<=a/\a<=1000000000000000)(hb:-1000000000000<=b/\b<=1000000000000):c6r k a b=some (l9 (E8 M (X9 a*X9 b)) ((0,0,0),3) (Ey (k,0,dF .i64 a b))):=by
 unfold c6r;rw[hM,o8];simp only[MX,o8];have sa:H8 .i64 0 a=-a:=by rw[O5 L8];omega
 have sb:H8 .i64 0 b=-b:=by rw[O5 L8];omega
 rw[sa,sb];rcases Ae a with⟨h1,e1⟩|⟨h1,e1⟩<;>rcases Ae b with⟨h2,e2⟩|⟨h2,e2⟩<;>rw[e1,e2]
 ·rw[O0 h1,O0 h2];exact JK _ l7 hM0 hM2
 ·rw[O0 h1,J6 h2];exact JK _ l7 hM0 hM2
 ·rw[J6 h1,O0 h2];exact JK _ l7 hM0 hM2
 ·rw[J6 h1,J6 h2];exact JK _ l7 hM0 hM2
theorem Xl{k a b M:Int}(hk:BX k=(-M,M))(hM0:0<=M)(hM2:M<=1000000000000000)(ha:-1000000000000000<=a/\a<=1000000000000000)(hb:-1000000000000<=b/\b<=1000000000000):∃r:V3×Int,c6r k a b=some r/\∃q:Int×Int,yf a b=some q/\QQ (k,0,q.1) q.2=r:=by
 refine⟨_,a2t (by rw[a5H,hk]) hM0 hM2 ha hb,_,a4y ha hb,?_⟩;have hm:=a5y a b;have hmd:X9 a*X9 b=X9 (a*b):=by rcases Ae (a*b)with⟨h,e⟩|⟨h,e⟩<;>(have hn:=P6 (lJ a) (lJ b);cases hq:F6 (kU (E8 a 0) (E8 b 0))<;>rw[hq]at hm<;>simp only[o7,o6]at hm<;>omega)
 rw[hmd];have habs:=Ae (a*b);have hI:X9 (a*b)<=1000000000000000->dF .i64 a b=a*b:=λh=>lK L8;have hpl:M<X9 (a*b)->plB (k,0,a*b)=false:=by
  intro h;unfold plB;rw[hk];simp only;by_cases g:-M<=a*b
  ·rw[V5 g,V9 (show M<a*b by omega)];rfl
  ·rw[V9 l7];rfl
 generalize a*b=p at*;by_cases g:1000000000000000<X9 p
 ·rw[O0 g,O0 l7];rfl
 rw[J6 l7,hI l7];simp only[o6,MF];by_cases g2:M<X9 p
 ·rw[O0 g2];unfold Ey;rw[hpl g2];rfl
 ·rw[J6 l7];rfl
theorem a6s{k e n:Int}(h:plB (k,e,n)=true):(k=2->-1000000000000<=n/\n<=1000000000000)/\(k=3->-1000000000000000<=n/\n<=1000000000000000):=by rcases Xk h with⟨m,h,g⟩|⟨m,h,g⟩|⟨m,h,g⟩|⟨m,h,g⟩|⟨m,h,g⟩|⟨e',m,h,g⟩<;>cases h<;>exact⟨λh=>by first|exact g|exact absurd h D7,λh=>by first|exact g|exact absurd h D7⟩
theorem b5M(N:Int)(x y:V3)(env:aT)(hx:plB x=true)(hy:plB y=true):je (13,N) [x,y] env:=by
 have hX:=a6s (k:=x.1) (e:=x.2.1) (n:=x.2.2) hx;have hY:=a6s (k:=y.1) (e:=y.2.1) (n:=y.2.2) hy;have key:y.1=2->x.1=2\/x.1=3->∃r:V3×Int,c6r x.1 x.2.2 y.2.2=some r/\∃q:Int×Int,yf x.2.2 y.2.2=some q/\QQ (x.1,0,q.1) q.2=r:=by
  intro h2 h;have hb:=hY.1 h2;rcases h with h|h
  ·have ha:=hX.1 h;exact Xl (M:=1000000000000) (by rw[h];rfl) D7 D7 ⟨Int.le_trans D7 ha.1,Int.le_trans ha.2 D7⟩ hb
  ·have ha:=hX.2 h;exact Xl (M:=1000000000000000) (by rw[h];rfl) D7 D7 ha hb
 (unfold je RP EP Z5 Z7 kC bi c6g;simp (disch:=decide) only[aK])
 unfold c6u Ai;simp (disch:=decide) only[aK];cases g2:x8 y.1 2
 ·exact⟨_,rfl,rfl⟩
 by_cases g3:x.1=3
 ·obtain⟨r,e1,q,e2,e3⟩:=key (V6.1 g2) (.inr g3);rw[O8 g3,J3 (show x.1≠2 by rw[g3];decide)];simp (disch:=decide) only[aK];rw[e1,e2];simp (disch:=decide) only[aK];exact⟨_,rfl,congrArg some e3⟩
 rw[J3 g3];cases g4:x8 x.1 2
 ·exact⟨_,rfl,rfl⟩
 obtain⟨r,e1,q,e2,e3⟩:=key (V6.1 g2) (.inl (V6.1 g4));simp (disch:=decide) only[aK];rw[e1,e2];simp (disch:=decide) only[aK];exact⟨_,rfl,congrArg some e3⟩
theorem a8u:∀i:Fin 40,lu ((i.1:Nat):Int)=c6D ((i.1:Nat):Int):=by decide+kernel
theorem a8P:∀i:Fin 40,(arF ((i.1:Nat):Int)=0->i.1∈[1,2,3,4,5,6,7,8,9,35,36,37,38,39])/\(arF ((i.1:Nat):Int)=1->i.1∈[10,25,31,32,33,34])/\(arF ((i.1:Nat):Int)=2->i.1∈[11,12,13,14,15,16,17,18,19,20,21,22,23,24,27,28,29,30])/\(arF ((i.1:Nat):Int)=3->i.1=26):=by decide+kernel
theorem b9o{k:Int}(h:k<1\/39<k):arF k=-1:=by
 unfold arF kH;rw[J3 (show k≠10 by omega),J3 (show k≠25 by omega),J3 (show k≠31 by omega),J3 (show k≠32 by omega),J3 (show k≠33 by omega),J3 (show k≠34 by omega),J3 (show k≠26 by omega)];rcases h with h|h
 ·rw[V9 (show k<1 by omega),V9 (show k<35 by omega),V9 (show k<11 by omega)];rfl
 ·rw[V5 (show 1<=k by omega),V9 (show 9<k by omega),V5 (show 35<=k by omega),V9 (show 39<k by omega),V5 (show 11<=k by omega),V9 (show 30<k by omega)];rfl
theorem b5Y{k:Int}(h:arF k≠-1):∃i:Fin 40,k=((i.1:Nat):Int):=by
 by_cases g:1<=k/\k<=39
 ·exact⟨⟨k.toNat,l7⟩,by simp;omega⟩
 ·exact absurd (b9o l7) h
theorem b3u{k:Int}(h:arF k≠-1):lu k=c6D k:=by obtain⟨i,rfl⟩:=b5Y h;exact a8u i
theorem Zx(k:Int):∃b,c6D k=some b:=by unfold c6D;cases L9 1 k<;>cases L9 k 8<;>cases L9 36 k<;>cases L9 k 39<;>cases x8 k 14<;>cases x8 k 15<;>cases x8 k 16<;>cases x8 k 33<;>exact⟨_,rfl⟩
def a7j(k N:Int):Bool:=l9 (l9 (x8 k 14) true (l9 (x8 k 15) true (x8 k 16))) (l9 (L9 0 N) (L9 N 5) false) (l9 (x8 k 34) (l9 (L9 0 N) (L9 (jk N 8) 5) false) (l9 (x8 k 6) (L9 0 N) true))
theorem a1B(k N:Int):(o5 (l9 (x8 k 14) (some (x8 k 14)) (l9 (x8 k 15) (some (x8 k 15)) (some (x8 k 16)))) λ(x:Bool)=>l9 x (l9 (L9 0 N) (some (L9 N 5)) (some false)) (l9 (x8 k 34) (l9 (L9 0 N) (some (L9 (jk N 8) 5)) (some false)) (l9 (x8 k 6) (some (L9 0 N)) (some true))))=some (a7j k N):=by unfold a7j;cases x8 k 14<;>cases x8 k 15<;>cases x8 k 16<;>cases L9 0 N<;>cases x8 k 34<;>cases x8 k 6<;>rfl
def a1A(k N:Int):Bool:=l9 (x8 N 0) (a7j k N) (l9 ((c6D k).getD false) (a7j k N) false)
theorem Zh{k N c:Int}(h:arF k=c):c6O (k,N) c=some (a1A k N):=by unfold c6O a1A;rw[a0i,o8,O8 h];simp only[E5,o6,a1B];obtain⟨b,hb⟩:=Zx k;rw[hb];cases x8 N 0<;>cases b<;>rfl
theorem a3n{k N:Int}(h:arF k≠-1):sD (k,N)=some (a1A k N):=by unfold sD a1A;rw[Vq,o8,J6 (show 0<=arF k by have:=(Iy k).2.2;omega)];simp only[o6,a1B];rw[b3u h];obtain⟨b,hb⟩:=Zx k;rw[hb];cases x8 N 0<;>cases b<;>rfl
theorem a5s(k N:Int):∃b,sD (k,N)=some b:=by
 by_cases h:arF k=-1
 ·refine⟨false,?_⟩;unfold sD;rw[Vq,o8,h];rfl
 ·exact⟨_,a3n h⟩
theorem Tz(n:Int×Int)(env:aT):∃b,jr n env=some b:=by
 unfold jr;by_cases h7:n.1=7
 ·rw[O8 h7,o7];cases L9 0 n.2<;>exact⟨_,rfl⟩
 rw[J3 h7,o6];by_cases h8:n.1=8
 ·rw[O8 h8,o7];by_cases g:0<=n.2
  case neg=>rw[V9 (iV.1 g)];exact⟨_,rfl⟩
  by_cases g2:n.2<o9 env.2.2.1
  case neg=>rw[V5 g,J6 (gW.1 g2)];exact⟨_,rfl⟩
  obtain⟨x,hx,_⟩:=jZ g g2;rw[V5 g,O0 g2,hx];exact⟨_,rfl⟩
 rw[J3 h8,o6];cases x8 n.1 33
 ·cases x8 n.1 34
  ·cases x8 n.1 36<;>cases x8 n.1 37<;>cases x8 n.1 38<;>cases x8 n.1 39<;>cases L9 0 n.2<;>exact⟨_,rfl⟩
  ·exact⟨_,rfl⟩
 ·cases L9 0 n.2<;>exact⟨_,rfl⟩
theorem b3D{α:Type}(l:List α)(p:α->Bool):l.all p= !l.any λv=> !p v:=by
 induction l with
 |nil=>rfl|cons a l ih=>rw[List.all_cons,qW,Bool.not_or,Bool.not_not,ih]
theorem a8L(l:List V3)(hl:l.length<=1000000):wV l=some (l.all plB):=by
 unfold wV;have e:=CY l (λv=> !plB v) false PUnit.unit (f:=λ(x:Int)=>l9 (E8 x (o9 l)) (o5 (G9 l x) λ(x_1:V3)=>o5 (gX x_1) λ(x_2:Bool)=>l9 (F6 x_2) (some (Out.rt false)) (some (Out.nx (D6 IntKind.i64 x 1)))) (some (Out.ex PUnit.unit))) hl
  (λi a hi=>by
   have hlt:(i:Int)<o9 l:=by have:=Y6.1 hi;obtain⟨h,_⟩:=this;unfold o9;omega
   have hm:=G7 l i;rw[hi]at hm;simp only[O0 hlt,o7,hm,o8,yz];cases plB a<;>rfl) (by rw[J6 (show o9 l<=(l.length:Int)from ed _)];rfl)
 rw[show X7 _ _=_ from e];rw[b3D l plB];cases l.any λv=> !plB v<;>rfl
theorem ZO(l:List V3)(hl:l.length<=1000000){γ:Type}{K:V3⊕(V3×Int)->Option γ} :(o5 (X7
      (λ(x:V3×Int)=>
       l9 (E8 x.2 (o9 l))
        (o5 (G9 l x.2) λ(x_1:V3)=>
         o5 (c6j x_1) λ(x_2:Bool)=>
          l9 (F6 x_2) (some (Out.rt (((0,0,0),8):V3×Int))) (some (Out.nx (x.1,D6 IntKind.i64 x.2 1))))
        (some (Out.ex x.1)))
      ((0,0,0),0)) K)=K (l9 (l.all plB) (.inl (0,0,0)) (.inr ((0,0,0),8))):=by
 have hf:∀(l:List V3) (u:V3),aY (λ(_:V3) (v:V3)=>(l9 (plB v) (.inl ((0,0,0):V3)) (.inr (((0,0,0),8):V3×Int)):V3⊕(V3×Int))) l (0,0,0)=l9 (l.all plB) (.inl (0,0,0)) (.inr ((0,0,0),8)):=by
  intro l u;induction l with
  |nil=>rfl|cons a l ih=>
   unfold aY;rw[List.all_cons];cases plB a
   ·rfl
   ·exact ih
 apply uy l (λ(_:V3) (v:V3)=>(l9 (plB v) (.inl ((0,0,0):V3)) (.inr (((0,0,0),8):V3×Int)):V3⊕(V3×Int))) (λb i=>((b,i):V3×Int)) (λb=>b) (λi b=>b=(0,0,0)) (0,0,0) hl rfl
 ·intro i a b hi hi' hb;subst hb;have hlt:(i:Int)<o9 l:=by
   have:=Y6.1 hi;obtain⟨h,_⟩:=this;unfold o9;omega
  have hm:=G7 l i;rw[hi]at hm;simp only[O0 hlt,o7,hm,o8,qI];cases plB a
  ·exact⟨rfl,λ_ h=>by cases h⟩
  ·exact⟨by rw[dH l7];rfl,λ_ h=>by cases h;rfl⟩
 ·intro b hb;simp only[J6 (show o9 l<=(l.length:Int)from ed _),o6]
 ·intro _;rw[hf l (0,0,0)];cases l.all plB<;>rfl
structure EvOk (env:aT):Prop where
 ms:env.2.2.2.1.length<=1000000
 tb:∀t∈env.2.2.2.2.2,AQ t
theorem a8M(k N:Int)(args:List V3)(env:aT)(hE:EvOk env)(hN:-9223372036854775808<=N/\N<=9223372036854775807)(hk:k≠23/\k≠24/\k≠26)(ha:arF k=o9 args)(hf:a1A k N=true)(he:jr (k,N) env=some true)(hp:args.all plB=true):je (k,N) args env:=by
 have hne:arF k≠-1:=by rw[ha];unfold o9;omega
 have hN34:k=34->0<=N:=by
  rintro rfl;unfold a1A at hf;have:a7j 34 N=true:=by
   cases g:x8 N 0<;>rw[g]at hf
   ·exact hf
   ·exact hf
  unfold a7j at this;by_cases g:0<=N
  ·exact g
  ·rw[V9 l7]at this;cases this
 obtain⟨i,hi⟩:=b5Y hne;obtain⟨a0,a1,a2,a3⟩:=a8P i;rw[←hi,ha]at a0 a1 a2 a3;match args,ha,hp with
 |[],ha,hp=>
  have:=a0 rfl;simp only[A8,kP,or_false]at this;rcases this with h|h|h|h|h|h|h|h|h|h|h|h|h|h<;>rw[h]at hi<;>subst hi
  ·exact OU _ _ _ D7
  ·exact OU _ _ _ D7
  ·exact OU _ _ _ D7
  ·exact OU _ _ _ D7
  ·exact OU _ _ _ D7
  ·exact b9k _ _
  ·exact b9l _ _ he
  ·exact b9m _ _ he
  ·exact b9n _ _
  ·exact b5X _ _
  ·exact UL _ _ _ D7 he hE.ms
  ·exact UL _ _ _ D7 he hE.ms
  ·exact UL _ _ _ D7 he hE.ms
  ·exact UL _ _ _ D7 he hE.ms
 |[x],ha,hp=>
  have hx:plB x=true:=by simpa using hp
  have:=a1 rfl;simp only[A8,kP,or_false]at this;rcases this with h|h|h|h|h|h<;>rw[h]at hi<;>subst hi
  ·exact b5L _ _ _
  ·exact b5Q _ _ _
  ·exact a5D _ _ _ _ D7 hx
  ·exact a5D _ _ _ _ D7 hx
  ·exact b5V _ _ _ hx he hE.tb
  ·exact b5W _ _ _ (hN34 rfl) hN.2 he hE.tb
 |[x,y],ha,hp=>
  have hxy:plB x=true/\plB y=true:=by simpa using hp
  have:=a2 rfl;simp only[A8,kP,or_false]at this;rcases this with h|h|h|h|h|h|h|h|h|h|h|h|h|h|h|h|h|h<;>rw[h]at hi<;>subst hi
  ·exact a5B _ _ _ _ _ D7
  ·exact a5B _ _ _ _ _ D7
  ·exact b5M _ _ _ _ hxy.1 hxy.2
  ·exact b5N _ _ _ _
  ·exact b5O _ _ _ _
  ·exact b5P _ _ _ _
  ·exact Vo _ _ _ _ _ D7 hxy.1 hxy.2
  ·exact Vo _ _ _ _ _ D7 hxy.1 hxy.2
  ·exact a8N _ _ _ _ _ D7
  ·exact a8N _ _ _ _ _ D7
  ·exact a5C _ _ _ _ _ D7
  ·exact a5C _ _ _ _ _ D7
  ·exact absurd rfl hk.1
  ·exact absurd rfl hk.2.1
  ·exact b5R _ _ _ _
  ·exact b5S _ _ _ _
  ·exact b5T _ _ _ _
  ·exact b5U _ _ _ _
 |[x,y,z],ha,hp=>have h:=a3 rfl;rw[h]at hi;exact absurd hi hk.2.2|x::y::z::w::l,ha,hp=>
  have h1:=(Iy k).2.2;have:o9 (x::y::z::w::l)=(l.length:Int)+4:=by unfold o9;simp<;>omega
  rw[this]at ha;omega
theorem a0X(k N:Int)(args:List V3)(env:aT)(hE:EvOk env)(hN:-9223372036854775808<=N/\N<=9223372036854775807)(hk:k≠23/\k≠24/\k≠26)(hl:args.length<=1000000):∃r:V3×Int,c6s (k,N) args env=some r/\zW (k,N) args env=some r:=by
 by_cases ha:arF k=o9 args
 case neg=>
  refine⟨((0,0,0),2),?_,?_⟩
  ·unfold c6s c6O;rw[a0i,o8,J3 ha];rfl
  ·unfold zW;obtain⟨b,hb⟩:=a5s k N;rw[hb,o8];cases b
   ·rfl
   ·rw[Vq,o8,J3 (λh=>ha h.symm)];rfl
 have hne:arF k≠-1:=by rw[ha];unfold o9;omega
 unfold c6s zW;rw[Zh ha,a3n hne,Vq];simp only[o8,O8 ha.symm];cases hf:a1A k N
 ·exact⟨_,rfl,rfl⟩
 simp only[E5,o6,o8,N7];obtain⟨b,hb⟩:=Tz (k,N) env;rw[show c6A (k,N) env=some b from hb,hb];cases b
 ·exact⟨_,rfl,rfl⟩
 simp only[o8,E5,o6];rw[ZO args hl,a8L args hl,o8];cases hp:args.all plB
 ·exact⟨_,rfl,rfl⟩
 exact a8M k N args env hE hN hk ha hf hb hp
def XT.node:XT->Int×Int
 | .l0 n=>n| .l1 n _=>n| .l2 n _ _=>n| .l3 n _ _ _=>n
def rtI(t:XT)(o:Nat):Nat:=o+t.size -1
def At(e:List (Int×Int))(S:List Int)(t:XT)(o:Nat):Prop:=∃pre suf S1 S2,e=pre++t.post++suf/\S=S1++t.sts o++S2/\pre.length=o/\S1.length=o
theorem b5e{e:List (Int×Int)}{S:List Int}{n:Int×Int}{a:XT}{o:Nat}(h:At e S (.l1 n a) o):At e S a o:=by obtain⟨p,s,S1,S2,h1,h2,h3,h4⟩:=h;exact⟨p,[n]++s,S1,[(o:Int)]++S2,by rw[h1];simp[XT.post],by rw[h2];simp[XT.sts],h3,h4⟩
theorem YO{e:List (Int×Int)}{S:List Int}{n:Int×Int}{a b:XT}{o:Nat}(h:At e S (.l2 n a b) o):At e S a o/\At e S b (o+a.size):=by
 obtain⟨p,s,S1,S2,h1,h2,h3,h4⟩:=h;exact⟨⟨p,b.post++[n]++s,S1,b.sts (o+a.size)++[(o:Int)]++S2,by rw[h1];simp[XT.post],by rw[h2];simp[XT.sts],h3,h4⟩,
  ⟨p++a.post,[n]++s,S1++a.sts o,[(o:Int)]++S2,by rw[h1];simp[XT.post],by rw[h2];simp[XT.sts],by simp[XT.post_len,h3],by simp[XT.sts_len,h4]⟩⟩
theorem YP{e:List (Int×Int)}{S:List Int}{n:Int×Int}{a b c:XT}{o:Nat}(h:At e S (.l3 n a b c) o):At e S a o/\At e S b (o+a.size)/\At e S c (o+a.size+b.size):=by
 obtain⟨p,s,S1,S2,h1,h2,h3,h4⟩:=h;exact⟨⟨p,b.post++c.post++[n]++s,S1,b.sts (o+a.size)++c.sts (o+a.size+b.size)++[(o:Int)]++S2,by rw[h1];simp[XT.post],by rw[h2];simp[XT.sts],h3,h4⟩,
  ⟨p++a.post,c.post++[n]++s,S1++a.sts o,c.sts (o+a.size+b.size)++[(o:Int)]++S2,by rw[h1];simp[XT.post],by rw[h2];simp[XT.sts],by simp[XT.post_len,h3],by simp[XT.sts_len,h4]⟩,
  ⟨p++a.post++b.post,[n]++s,S1++a.sts o++b.sts (o+a.size),[(o:Int)]++S2,by rw[h1];simp[XT.post],by rw[h2];simp[XT.sts],by simp[XT.post_len,h3];try omega,by simp[XT.sts_len,h4];try omega⟩⟩
theorem a7Q(t:XT):∃p,t.post=p++[t.node]/\p.length+1=t.size:=by
 have hl:=t.post_len;cases t with
 |l0 n=>exact⟨[],rfl,rfl⟩|l1 n a=>refine⟨a.post,rfl,?_⟩;simp only[XT.post,F8,dn]at hl;exact hl|l2 n a b=>refine⟨a.post++b.post,rfl,?_⟩;simp only[XT.post,F8,dn]at hl ⊢;exact hl|l3 n a b c=>refine⟨a.post++b.post++c.post,rfl,?_⟩;simp only[XT.post,F8,dn]at hl ⊢;exact hl
theorem b3b(t:XT)(o:Nat):∃p,t.sts o=p++[(o:Int)]/\p.length+1=t.size:=by
 have hl:=t.sts_len o;cases t with
 |l0 n=>exact⟨[],rfl,rfl⟩|l1 n a=>refine⟨a.sts o,rfl,?_⟩;simp only[XT.sts,F8,dn]at hl;exact hl|l2 n a b=>refine⟨a.sts o++b.sts (o+a.size),rfl,?_⟩;simp only[XT.sts,F8,dn]at hl ⊢;exact hl|l3 n a b c=>refine⟨a.sts o++b.sts (o+a.size)++c.sts (o+a.size+b.size),rfl,?_⟩;simp only[XT.sts,F8,dn]at hl ⊢;exact hl
theorem zl{e:List (Int×Int)}{S:List Int}{t:XT}{o:Nat}(h:At e S t o):e[rtI t o]? =some t.node/\S[rtI t o]? =some (o:Int)/\rtI t o<e.length:=by
 obtain⟨p,s,S1,S2,h1,h2,h3,h4⟩:=h;obtain⟨q,e1,e2⟩:=a7Q t;obtain⟨q',e1',e2'⟩:=b3b t o;have hp:=t.size_pos;have a1:e[rtI t o]? =some t.node:=by rw[h1,e1,E9,E9,←E9 p,F7 (by simp[rtI];omega)];rw[show rtI t o -(p++q).length=0 by simp[rtI];omega];rfl
 refine⟨a1,?_,(Y6.1 a1).1⟩;rw[h2,e1',E9,E9,←E9 S1,F7 (by simp[rtI];omega)];rw[show rtI t o -(S1++q').length=0 by simp[rtI];omega];rfl
def Xe:XT->Nat->List Int
 | .l0 _,_=>[]| .l1 _ a,o=>[(rtI a o:Int)]| .l2 _ a b,o=>[(rtI a o:Int),(rtI b (o+a.size):Int)]| .l3 _ a b c,o=>[(rtI a o:Int),(rtI b (o+a.size):Int),(rtI c (o+a.size+b.size):Int)]
structure OStep (S:List Int) (f:List Int×Int×Int->Option ((List Int×Int×Int)⊕List Int)):Prop where
 step:∀(l:List Int) (c:Nat) (j:Nat) (x:Nat),j<l.length->l.length<=3->S[c]? =some ((x:Nat):Int)->x<=100->f (l,(c:Int),(j:Int))=some (.inl (l.set j (c:Int),(x:Int) -1,(j:Int) -1))
 stop:∀(l:List Int) (c:Int),f (l,c,-1)=some (.inr l)
theorem Ap{σ ε:Type}{f:σ->Option (σ⊕ε)}{s s' :σ}{n:Nat}(h:f s=some (.inl s')):nZ f (n+1) s=nZ f n s' :=by rw[nZ,h]
theorem ET{σ ε:Type}{f:σ->Option (σ⊕ε)}{s:σ}{e:ε}{n:Nat}(h:f s=some (.inr e)):nZ f (n+1) s=some e:=by rw[nZ,h]
theorem b0w{e:List (Int×Int)}{S:List Int}{t:XT}{o:Nat}{f:List Int×Int×Int->Option ((List Int×Int×Int)⊕List Int)}(hs:OStep S f)(h:At e S t o)(he:e.length<=48)(hw:t.wf):
  aS f (List.replicate (arF t.node.1).toNat 0,(rtI t o:Int) -1,arF t.node.1 -1)=some (Xe t o):=by
 obtain⟨k,hk⟩:∃k,lg=k+1+1+1+1:=⟨lg -4,by unfold lg;omega⟩;unfold aS;rw[hk];have hr:=zl h;cases t with
 |l0 n=>rw[show arF (XT.l0 n).node.1=0 from hw];exact ET (hs.stop _ _)|l1 n a=>rw[show arF (XT.l1 n a).node.1=1 from hw.1];have ha:=zl (b5e h);have p1:=a.size_pos;rw[show((rtI (.l1 n a) o:Nat):Int) -1=((rtI a o:Nat):Int) by simp only[rtI,XT.size];omega];rw[show((1:Int) -1)=((0:Nat):Int)from rfl,Ap (hs.step _ _ 0 o A7 A7 ha.2.1 (by unfold rtI at hr;omega))];rw[show(((0:Nat):Int) -1)=-1 from rfl,ET (hs.stop _ _)];rfl|l2 n a b=>rw[show arF (XT.l2 n a b).node.1=2 from hw.1];have ha:=zl (YO h).1;have hb:=zl (YO h).2;have p1:=a.size_pos;have p2:=b.size_pos;rw[show((rtI (.l2 n a b) o:Nat):Int) -1=((rtI b (o+a.size):Nat):Int) by simp only[rtI,XT.size];omega];rw[show((2:Int) -1)=((1:Nat):Int)from rfl,Ap (hs.step _ _ 1 (o+a.size) A7 A7 hb.2.1 (by unfold rtI at hb;omega))];rw[show((o+a.size:Nat):Int) -1=((rtI a o:Nat):Int) by unfold rtI;omega,show(((1:Nat):Int) -1)=((0:Nat):Int)from rfl];rw[Ap (hs.step _ _ 0 o A7 A7 ha.2.1 (by unfold rtI at hr;omega))];rw[show(((0:Nat):Int) -1)=-1 from rfl,ET (hs.stop _ _)];rfl|l3 n a b c=>rw[show arF (XT.l3 n a b c).node.1=3 from hw.1];have ha:=zl (YP h).1;have hb:=zl (YP h).2.1;have hc:=zl (YP h).2.2;have p1:=a.size_pos;have p2:=b.size_pos;have p3:=c.size_pos;rw[show((rtI (.l3 n a b c) o:Nat):Int) -1=((rtI c (o+a.size+b.size):Nat):Int) by simp only[rtI,XT.size];omega];rw[show((3:Int) -1)=((2:Nat):Int)from rfl,Ap (hs.step _ _ 2 (o+a.size+b.size) A7 A7 hc.2.1 (by unfold rtI at hc;omega))];rw[show((o+a.size+b.size:Nat):Int) -1=((rtI b (o+a.size):Nat):Int) by unfold rtI;omega,show(((2:Nat):Int) -1)=((1:Nat):Int)from rfl];rw[Ap (hs.step _ _ 1 (o+a.size) A7 A7 hb.2.1 (by unfold rtI at hb;omega))];rw[show((o+a.size:Nat):Int) -1=((rtI a o:Nat):Int) by unfold rtI;omega,show(((1:Nat):Int) -1)=((0:Nat):Int)from rfl];rw[Ap (hs.step _ _ 0 o A7 A7 ha.2.1 (by unfold rtI at hr;omega))];rw[show(((0:Nat):Int) -1)=-1 from rfl,ET (hs.stop _ _)];rfl
theorem c5J{t:XT}(h:t.wf):0<=arF t.node.1/\arF t.node.1<=3:=by
 cases t with
 |l0 n=>rw[show arF (XT.l0 n).node.1=0 from h];decide|l1 n a=>rw[show arF (XT.l1 n a).node.1=1 from h.1];decide|l2 n a b=>rw[show arF (XT.l2 n a b).node.1=2 from h.1];decide|l3 n a b c=>rw[show arF (XT.l3 n a b c).node.1=3 from h.1];decide
theorem MW{α:Type}{k:Int}(h:0<=k)(h2:k<=1000000)(x:α):vk k x=some (List.replicate k.toNat x):=if_pos ⟨h,l7⟩
theorem He{e:List (Int×Int)}{S:List Int}{t:XT}{o:Nat}(env:aT)(h:At e S t o)(he:e.length<=48)(hw:t.wf):lH (e,S,env) (rtI t o:Int)=some (Xe t o):=by
 have hr:=zl h;have ha:=c5J hw;unfold lH;simp only[G7,hr.1,o8,Vq];rw[MW ha.1 l7,o8,dZ];rw[show H8 .i64 ((rtI t o:Nat):Int) 1=(rtI t o:Int) -1 from O5 L8];rw[show H8 .i64 (o9 (List.replicate (arF t.node.1).toNat (0:Int))) 1=arF t.node.1 -1 by rw[show o9 (List.replicate (arF t.node.1).toNat (0:Int))=arF t.node.1 by unfold o9;rw[mg];omega];exact O5 L8]
 refine b0w ⟨λl c j x hj hl hx hx2=>?_,λl c=>?_⟩ h he hw
 ·have hjl:l[j]? =some l[j]:=dX hj;simp only[V5 (show(0:Int)<=(j:Int) by omega),o7,G7,hjl,o8,hx,af,X8,J5,cO];rw[O5 L8,O5 L8]
 ·rfl
def wO(n:Int×Int)(args:List V3)(env:aT):V3×Int:=(c6s n args env).getD ((0,0,0),0)
theorem QV{n:Int×Int}{env:aT}(args:List V3)(hE:EvOk env)(hI:bQ n.2)(hk:n.1≠23/\n.1≠24/\n.1≠26)(hl:args.length<=3):c6s n args env=some (wO n args env)/\zW n args env=some (wO n args env):=by
 obtain⟨r,h1,h2⟩:=a0X n.1 n.2 args env hE (by unfold bQ at hI;omega) hk l7;have e:wO n args env=r:=by unfold wO;rw[show c6s n args env=some r from h1];rfl
 rw[e];exact⟨h1,h2⟩
def lzB(k:Int):Bool:=l9 (x8 k 23) true (l9 (x8 k 24) true (x8 k 26))
theorem b5i{k:Int}(h:lzB k=false):k≠23/\k≠24/\k≠26:=by refine⟨?_,?_,?_⟩<;>(rintro rfl;revert h;decide)
def rQ(r:V3×Int):V3×Int:=l9 (x8 r.2 0) (l9 (x8 r.1.1 1) (l9 (plB r.1) (r.1,0) ((0,0,0),8)) ((0,0,0),8)) ((0,0,0),r.2)
def Zr(n:Int×Int)(ra rb:V3×Int):V3×Int:=l9 (x8 n.2 0) (l9 (x8 (rQ ra).2 0) (l9 (kU (x8 n.1 23) (x8 (rQ ra).1.2.2 0)) ((rQ ra).1,0) (rQ rb)) ((0,0,0),(rQ ra).2)) ((0,0,0),2)
def a1P(n:Int×Int)(ra rb rc:V3×Int):V3×Int:=l9 (x8 n.2 0) (l9 (x8 (rQ ra).2 0) (l9 (x8 (rQ ra).1.2.2 1) rb rc) ((0,0,0),(rQ ra).2)) ((0,0,0),2)
def evT(env:aT):XT->V3×Int
 | .l0 n=>wO n [] env| .l1 n a=>l9 (x8 (evT env a).2 0) (wO n [(evT env a).1] env) ((0,0,0),(evT env a).2)| .l2 n a b=>l9 (lzB n.1) (Zr n (evT env a) (evT env b)) (l9 (x8 (evT env a).2 0) (l9 (x8 (evT env b).2 0) (wO n [(evT env a).1,(evT env b).1] env) ((0,0,0),(evT env b).2)) ((0,0,0),(evT env a).2))| .l3 n a b c=>a1P n (evT env a) (evT env b) (evT env c)
abbrev VSt:Type:=V3×List V3×Int
structure VStep (ops:List Int) (ev:Int->Option (V3×Int)) (pad:List V3->List V3) (f:VSt->Option (Out VSt (V3×List V3) (V3×Int))):Prop where
 step:∀(l:List V3) (c:Int) (r:V3×Int),ops[l.length]? =some c->ev c=some r->f ((0,0,0),pad l,(l.length:Int))=some (l9 (x8 r.2 0) (.nx ((0,0,0),pad (l++[r.1]),((l.length+1:Nat):Int))) (.rt ((0,0,0),r.2)))
 stop:∀(l:List V3),l.length=ops.length->f ((0,0,0),pad l,(l.length:Int))=some (.ex ((0,0,0),l))
section
variable {ev:Int->Option (V3×Int)} {pad:List V3->List V3} {f:VSt->Option (Out VSt (V3×List V3) (V3×Int))}
theorem v0(h:VStep [] ev pad f):X7 f ((0,0,0),pad [],0)=some (.inl ((0,0,0),[])):=by obtain⟨k,hk⟩:∃k,lg=k+1:=⟨lg -1,by unfold lg;omega⟩;unfold X7;rw[hk,ou,show f ((0,0,0),pad [],0)=some (.ex ((0,0,0),[]))from h.stop [] rfl]
theorem v1{c:Int}{r:V3×Int}(h:VStep [c] ev pad f)(h1:ev c=some r):X7 f ((0,0,0),pad [],0)=some (l9 (x8 r.2 0) (.inl ((0,0,0),[r.1])) (.inr ((0,0,0),r.2))):=by
 obtain⟨k,hk⟩:∃k,lg=k+1+1:=⟨lg -2,by unfold lg;omega⟩;unfold X7;rw[hk,ou,show f ((0,0,0),pad [],0)=_ from h.step [] c r rfl h1];cases x8 r.2 0
 ·rfl
 ·simp only[o7];rw[ou,show f ((0,0,0),pad ([]++[r.1]),(([].length+1:Nat):Int))=_ from h.stop [r.1] rfl]
theorem v2{c d:Int}{r q:V3×Int}(h:VStep [c,d] ev pad f)(h1:ev c=some r)(h2:ev d=some q):X7 f ((0,0,0),pad [],0)=some (l9 (x8 r.2 0) (l9 (x8 q.2 0) (.inl ((0,0,0),[r.1,q.1])) (.inr ((0,0,0),q.2))) (.inr ((0,0,0),r.2))):=by
 obtain⟨k,hk⟩:∃k,lg=k+1+1+1:=⟨lg -3,by unfold lg;omega⟩;unfold X7;rw[hk,ou,show f ((0,0,0),pad [],0)=_ from h.step [] c r rfl h1];cases x8 r.2 0
 ·rfl
 ·simp only[o7];rw[ou,show f ((0,0,0),pad ([]++[r.1]),(([].length+1:Nat):Int))=_ from h.step [r.1] d q rfl h2];cases x8 q.2 0
  ·rfl
  ·simp only[o7];rw[ou,show f ((0,0,0),pad ([r.1]++[q.1]),(([r.1].length+1:Nat):Int))=_ from h.stop [r.1,q.1] rfl]
end
theorem a8Q{k:Int}(h:arF k=0\/arF k=1):k≠23/\k≠24/\k≠26:=by refine⟨?_,?_,?_⟩<;>(rintro rfl;revert h;decide)
theorem b5Z{k:Int}(h:arF k=2):k≠26:=by rintro rfl;revert h;decide
theorem b6a{k:Int}(h:arF k=3):k=26:=by obtain⟨i,rfl⟩:=b5Y (by rw[h];decide);rw[(a8P i).2.2.2 h];rfl
theorem c4o(n:Nat)(E:au)(i:Int):(D5 (n+1)).1 E i=qh (D5 n).1 (D5 n).2.1 (D5 n).2.2 E i:=rfl
theorem c4p(n:Nat)(E:au)(i:Int):(D5 (n+1)).2.1 E i=um (D5 n).1 (D5 n).2.1 (D5 n).2.2 E i:=rfl
theorem b5r(n:Nat)(E:au)(x:Int×Int)(l:List Int):(D5 (n+1)).2.2 E x l=oz (D5 n).1 (D5 n).2.1 (D5 n).2.2 E x l:=rfl
theorem Oa{n:Nat}{E:au}{i:Int}{r:V3×Int}(h:(D5 n).2.1 E i=some r):(D5 (n+1)).1 E i=some (rQ r):=by
 rw[c4o];unfold qh rQ;rw[h,o8];cases x8 r.2 0
 ·rfl
 cases x8 r.1.1 1
 ·rfl
 simp only[E5,o6,o7];rw[yz,o8];cases plB r.1<;>rfl
theorem a9J{n:Nat}{E:au}{x:Int×Int}{i j:Int}{ra rb:V3×Int}(hx:x.1≠26)(h1:(D5 n).2.1 E i=some ra)(h2:(D5 n).2.1 E j=some rb):(D5 (n+2)).2.2 E x [i,j]=some (Zr x ra rb):=by
 rw[show n+2=(n+1)+1 from rfl,b5r];unfold oz Zr;rw[show G9 [i,j] 0=some i from rfl,show G9 [i,j] 1=some j from rfl];simp only[o8];rw[Oa h1,Oa h2,J3 hx];cases x8 x.2 0
 ·rfl
 simp only[o8,E5,o6,o7];cases x8 (rQ ra).2 0
 ·rfl
 simp only[E5,o6,o7];cases kU (x8 x.1 23) (x8 (rQ ra).1.2.2 0)<;>rfl
theorem a9K{n:Nat}{E:au}{x:Int×Int}{i j l:Int}{ra rb rc:V3×Int}(hx:x.1=26)(h1:(D5 n).2.1 E i=some ra)(h2:(D5 (n+1)).2.1 E j=some rb)(h3:(D5 (n+1)).2.1 E l=some rc):(D5 (n+2)).2.2 E x [i,j,l]=some (a1P x ra rb rc):=by
 rw[show n+2=(n+1)+1 from rfl,b5r];unfold oz a1P;rw[show G9 [i,j,l] 0=some i from rfl,show G9 [i,j,l] 1=some j from rfl,show G9 [i,j,l] 2=some l from rfl];simp only[o8];rw[Oa h1,h2,h3,O8 hx];cases x8 x.2 0
 ·rfl
 simp only[o8,E5,o6,o7];cases x8 (rQ ra).2 0
 ·rfl
 simp only[E5,o6,o7];cases x8 (rQ ra).1.2.2 1<;>rfl
def Yo(m:Nat)(l:List V3):List V3:=l++List.replicate (m -l.length) (0,0,0)
theorem b0C{m:Nat}{l:List V3}(h:l.length<m):(Yo m l)[l.length]? =some (0,0,0):=by unfold Yo;rw[F7 (F9 _),az,iW,if_pos l7]
theorem b0D{m:Nat}{l:List V3}(v:V3)(h:l.length<m):(Yo m l).set l.length v=Yo m (l++[v]):=by unfold Yo;obtain⟨k,hk⟩:∃k,m -l.length=k+1:=⟨m -l.length -1,l7⟩;rw[ig _ _ (F9 _),az,hk,dY,pK];rw[show m -(l++[v]).length=k by simp;omega];simp
theorem a7O{m:Nat}{l:List V3}(h:l.length=m):Yo m l=l:=by unfold Yo;rw[h,az];simp
def a6n(ev:Int->Option (V3×Int))(ops:List Int)(x:VSt):Option (Out VSt (V3×List V3) (V3×Int)):=
 l9 (E8 x.2.2 (o9 ops))
  (o5 (G9 ops x.2.2) λ(x_4:Int)=>
   o5 (af ops (X8 x.2.2)) λ(x_5:Int)=>
    o5 (ev x_5) λ(x_6:V3×Int)=>
     l9 (F6 (x8 x_6.2 0)) (some (Out.rt ((0,0,0),x_6.2)))
      (o5 (G9 x.2.1 x.2.2) λ(x_7:V3)=>
       o5 (af x.2.1 (X8 x.2.2)) λ(x_8:V3)=>
        some (Out.nx (x.1,cO x.2.1 (X8 x.2.2) x_6.1,D6 IntKind.i64 x.2.2 1))))
  (some (Out.ex (x.1,x.2.1)))
theorem Oz(ev:Int->Option (V3×Int))(ops:List Int)(ho:ops.length<=3):VStep ops ev (Yo ops.length) (a6n ev ops):=by
 refine⟨λl c r h1 h2=>?_,λl h=>?_⟩
 ·have hl:=(Y6.1 h1).1;unfold a6n;simp only[U2 h1,o7,G7,h1,o8,af,X8,J5,h2,b0C hl,cO,b0D _ hl];cases x8 r.2 0
  ·rfl
  ·simp only[E5,o6,o7];rw[dH l7]
 ·unfold a6n;rw[a7O h,h,U1];rfl
theorem UQ(n:Nat)(E:au)(i:Int)(x:Int×Int)(ops:List Int)(h1:G9 E.1 i=some x)(h2:lH E i=some ops)(ho:ops.length<=3):
  (D5 (n+1)).2.1 E i=l9 (lzB x.1) ((D5 n).2.2 E x ops)
   (o5 (X7 (a6n ((D5 n).2.1 E) ops) ((0,0,0),Yo ops.length [],0)) λ(o:V3×List V3⊕V3×Int)=>aj o (λ(y:V3×List V3)=>zW x y.2 E.2.2) λ(r:V3×Int)=>some r):=by
 rw[c4p];unfold um lzB;simp only[h1,h2,o8,dZ];rw[show o9 ops=(ops.length:Int)from rfl];have hp:vk (ops.length:Int) (((0,0,0):Int×Int×Int))=some (Yo ops.length []):=by rw[MW l7 l7];rfl
 cases g1:x8 x.1 23
 ·cases g2:x8 x.1 24
  ·cases g3:x8 x.1 26
   ·simp only[o6,o8,N7];rw[show vk (ops.length:Int) _=_ from hp,o8];rfl
   ·simp only[o6,o7];generalize (D5 n).2.2 E x ops=q;cases q<;>rfl
  ·simp only[o6,o7];generalize (D5 n).2.2 E x ops=q;cases q<;>rfl
 ·simp only[o7];generalize (D5 n).2.2 E x ops=q;cases q<;>rfl
theorem Qk(t:XT)(o:Nat):(Xe t o).length<=3:=by cases t<;>simp[Xe]
theorem a1t{e:List (Int×Int)}{S:List Int}{env:aT}(hE:EvOk env)(he:e.length<=48)(hI:∀n∈e,bQ n.2):∀(t:XT) (o k:Nat),At e S t o->t.wf->3*t.size<=k->(D5 k).2.1 (e,S,env) (rtI t o:Int)=some (evT env t):=by
 intro t;induction t with
 |l0 n=>intro o k h hw hk;have hr:=zl h;obtain⟨k,rfl⟩:∃m,k=m+3:=⟨k -3,by simp only[XT.size]at hk;omega⟩;have hz:=a8Q (.inl (show arF n.1=0 from hw));rw[show k+3=(k+2)+1 from rfl,UQ _ _ _ n (Xe (.l0 n) o) (by rw[G7];exact hr.1) (He env h he hw) (Qk _ _)];rw[show lzB n.1=false by unfold lzB;rw[J3 hz.1,J3 hz.2.1,J3 hz.2.2];rfl,o6];rw[show Xe (.l0 n) o=[]from rfl,v0 (Oz _ _ A7),o8,N7];exact(QV [] hE (hI n (rV hr.1)) hz A7).2
 |l1 n a iha=>
  intro o k h hw hk;have hr:=zl h;simp only[XT.size]at hk;obtain⟨k,rfl⟩:∃m,k=m+3:=⟨k -3,l7⟩;have hz:=a8Q (.inr (show arF n.1=1 from hw.1));rw[show k+3=(k+2)+1 from rfl,UQ _ _ _ n (Xe (.l1 n a) o) (by rw[G7];exact hr.1) (He env h he hw) (Qk _ _)];rw[show lzB n.1=false by unfold lzB;rw[J3 hz.1,J3 hz.2.1,J3 hz.2.2];rfl,o6];rw[show Xe (.l1 n a) o=[(rtI a o:Int)]from rfl,v1 (Oz _ _ A7) (iha o (k+2) (b5e h) hw.2 l7),o8];rw[show evT env (.l1 n a)=l9 (x8 (evT env a).2 0) (wO n [(evT env a).1] env) ((0,0,0),(evT env a).2)from rfl];cases x8 (evT env a).2 0
  ·rfl
  exact(QV [(evT env a).1] hE (hI n (rV hr.1)) hz A7).2
 |l2 n a b iha ihb=>
  intro o k h hw hk;have hr:=zl h;simp only[XT.size]at hk;obtain⟨k,rfl⟩:∃m,k=m+3:=⟨k -3,l7⟩;have hz:=b5Z (show arF n.1=2 from hw.1);rw[show k+3=(k+2)+1 from rfl,UQ _ _ _ n (Xe (.l2 n a b) o) (by rw[G7];exact hr.1) (He env h he hw) (Qk _ _)];rw[show Xe (.l2 n a b) o=[(rtI a o:Int),(rtI b (o+a.size):Int)]from rfl];rw[show evT env (.l2 n a b)=l9 (lzB n.1) (Zr n (evT env a) (evT env b)) (l9 (x8 (evT env a).2 0) (l9 (x8 (evT env b).2 0) (wO n [(evT env a).1,(evT env b).1] env) ((0,0,0),(evT env b).2)) ((0,0,0),(evT env a).2))from rfl];cases hl:lzB n.1
  ·have hz:=b5i hl;simp only[o6];rw[v2 (Oz _ _ A7) (iha o (k+2) (YO h).1 hw.2.1 l7) (ihb (o+a.size) (k+2) (YO h).2 hw.2.2 l7),o8];cases x8 (evT env a).2 0
   ·rfl
   cases x8 (evT env b).2 0
   ·rfl
   exact(QV [(evT env a).1,(evT env b).1] hE (hI n (rV hr.1)) hz A7).2
  ·simp only[o7];exact a9J hz (iha o k (YO h).1 hw.2.1 l7) (ihb (o+a.size) k (YO h).2 hw.2.2 l7)
 |l3 n a b c iha ihb ihc=>intro o k h hw hk;have hr:=zl h;simp only[XT.size]at hk;obtain⟨k,rfl⟩:∃m,k=m+3:=⟨k -3,l7⟩;have hz:=b6a (show arF n.1=3 from hw.1);rw[show k+3=(k+2)+1 from rfl,UQ _ _ _ n (Xe (.l3 n a b c) o) (by rw[G7];exact hr.1) (He env h he hw) (Qk _ _)];rw[show lzB n.1=true by rw[hz];decide,o7];exact a9K hz (iha o k (YP h).1 hw.2.1 l7) (ihb (o+a.size) (k+1) (YP h).2.1 hw.2.2.1 l7) (ihc (o+a.size+b.size) (k+1) (YP h).2.2 hw.2.2.2 l7)
theorem a1c(r:V3×Int):(x8 r.2 0=false/\(rQ r)=((0,0,0),r.2))\/(x8 r.2 0=true/\x8 r.1.1 1=false/\rQ r=((0,0,0),8))\/(x8 r.2 0=true/\x8 r.1.1 1=true/\plB r.1=false/\rQ r=((0,0,0),8))\/(x8 r.2 0=true/\x8 r.1.1 1=true/\plB r.1=true/\rQ r=(r.1,0)):=by
 unfold rQ;cases x8 r.2 0
 ·exact .inl ⟨rfl,rfl⟩
 cases x8 r.1.1 1
 ·exact .inr (.inl ⟨rfl,rfl,rfl⟩)
 cases plB r.1
 ·exact .inr (.inr (.inl ⟨rfl,rfl,rfl,rfl⟩))
 ·exact .inr (.inr (.inr ⟨rfl,rfl,rfl,rfl⟩))
def vT(e:List (Int×Int))(env:aT):V3×Int:=match mM e with
 | .inl x=>((0,0,0),x.2)| .inr t=>evT env t
theorem a8S{e:List (Int×Int)}{t:XT}(h:mM e= .inr t):At e (t.sts 0) t 0/\e.length<=48/\e.length=t.size/\H8 .i64 (o9 e) 1=(rtI t 0:Int):=by
 obtain⟨hp,h48⟩:=DK h;have hsz:e.length=t.size:=by rw[hp,XT.post_len]
 have hpos:=t.size_pos;refine⟨⟨[],[],[],[],by simp[←hp],A7,rfl,rfl⟩,h48,hsz,?_⟩;rw[O5 (by unfold bQ o9;omega)];unfold o9 rtI;omega
theorem a5P{e:List (Int×Int)}{env:aT}(hE:EvOk env)(hI:∀n∈e,bQ n.2):IJ e env=some (vT e env):=by
 unfold IJ KX vT;rw[QH];unfold zS;cases h:mM e with
 |inl x=>simp only[o8,J3 (DJ h)];rfl|inr t=>obtain⟨h1,h2,h3,h4⟩:=a8S h;simp only[o8,O8 (rfl:(0:Int)=0),E5,o6,dZ];rw[h4,show yO (e,t.sts 0,env) ((rtI t 0:Nat):Int)=some (evT env t)from a1t hE h2 hI t 0 lg h1 (Np h) (by unfold lg;omega)]<;>rfl
abbrev E4:Type:=Int×Int×Int×Int
def Ep(s:D9)(env:aT)(m d:Int)(ap:List Bool)(i:Int):List Bool⊕(Int×E4):=
 match G9 s.2.2.2.2 i with
 |none=> .inl ap|some r=>l9 (x8 (o9 r.2.2.2.2.2.1) 0) (.inl (ap++[true])) (l9 (x8 (vT r.2.2.2.2.2.1 env).2 0) (.inl (ap++[x8 (vT r.2.2.2.2.2.1 env).1.2.2 1])) (.inr (0,(vT r.2.2.2.2.2.1 env).2,m,d,i)))
def Y3(s:D9)(env:aT)(m d:Int):Int×E4:=
 match aY (Ep s env m d) (dE s d env.1).1 []with
 | .inr e=>e| .inl ap=>l9 (E8 (Ip (dE s d env.1).2.1 (dE s d env.1).2.2 ap) 0) (Ip (dE s d env.1).2.1 (dE s d env.1).2.2 ap,0,0,0,0) (((dE s d env.1).1.getD (Ip (dE s d env.1).2.1 (dE s d env.1).2.2 ap).toNat 0),0,0,0,0)
theorem a3f{s:D9}{d t i:Int}(h:i∈(dE s d t).1):∃r,G9 s.2.2.2.2 i=some r/\r∈s.2.2.2.2:=by have h:i∈castL (xQ s d t):=h;obtain⟨k,hk,rfl⟩:=ah.1 h;have:=(SN hk).1;exact jZ l7 (by unfold o9;omega)
theorem QK(s:D9)(d t:Int):(dE s d t).1.length<=s.2.2.2.2.length/\(dE s d t).2.1.length=(dE s d t).1.length:=by
 refine⟨?_,?_⟩
 ·show(castL (xQ s d t)).length<=_;rw[IA];exact JA _ _
 ·show((xQ s d t).map _).length=(castL (xQ s d t)).length;rw[IA,X6]
theorem a9c{oc pr:Int->Int}{l:List Int}{n:Int}(hn:0<=n)(h:∀x∈l,oc x<n):chF oc pr l<n:=by
 unfold chF;cases hb:KN oc pr l with
 |nil=>show(-1:Int)<n;omega|cons b r=>
  cases r with
  |nil=>exact h b (ML (oc:=oc) (pr:=pr) (by rw[hb];simp))|cons c r=>show(-2:Int)<n;omega
theorem b0k(par prio:List Int)(ap:List Bool):∀(k:Nat) (i:Int),i<par.length->ocF par prio ap k i<par.length
 |0,i,h=>by show(-1:Int)<_;omega|k+1,i,h=>by
  unfold ocF;have hb:chF (ocF par prio ap k) (prF prio) (castL (DW par i))<(par.length:Int):=a9c l7 λx hx=>by unfold castL at hx;obtain⟨j,hj,rfl⟩:=ah.1 hx;have:=(I_ hj).1;exact b0k par prio ap k _ l7
  cases x8 (chF (ocF par prio ap k) (prF prio) (castL (DW par i))) (-1)
  ·exact hb
  ·cases apF ap i
   ·show(-1:Int)<_;omega
   ·exact h
theorem a0u(par prio:List Int)(ap:List Bool):Ip par prio ap<par.length:=by
 unfold Ip;cases x8 (Me par prio) 0
 ·show(-1:Int)<_;omega
 cases x8 (o9 ap) (o9 par)
 ·show(-1:Int)<_;omega
 show chS par prio ap (-1)<_;unfold chS;refine a9c l7 λx hx=>?_;unfold castL at hx;obtain⟨j,hj,rfl⟩:=ah.1 hx;have:=(I_ hj).1;unfold OC;exact b0k par prio ap _ _ l7
def V_(m:Nat)(l:List Bool):List Bool:=l++List.replicate (m -l.length) false
theorem b0A{m:Nat}{l:List Bool}(h:l.length<m):(V_ m l)[l.length]? =some false:=by unfold V_;rw[F7 (F9 _),az,iW,if_pos l7]
theorem b0B{m:Nat}{l:List Bool}(v:Bool)(h:l.length<m):(V_ m l).set l.length v=V_ m (l++[v]):=by unfold V_;obtain⟨k,hk⟩:∃k,m -l.length=k+1:=⟨m -l.length -1,l7⟩;rw[ig _ _ (F9 _),az,hk,dY,pK];rw[show m -(l++[v]).length=k by simp;omega];simp
theorem a7N{m:Nat}{l:List Bool}(h:l.length=m):V_ m l=l:=by unfold V_;rw[h,az];simp
theorem a3E(s:D9)(env:aT)(m d:Int)(ap:List Bool):
  l9 (E8 (Ip (dE s d env.1).2.1 (dE s d env.1).2.2 ap) 0) (some ((Ip (dE s d env.1).2.1 (dE s d env.1).2.2 ap,0,0,0,0):Int×E4))
   (o5 (G9 (dE s d env.1).1 (Ip (dE s d env.1).2.1 (dE s d env.1).2.2 ap)) λ(x_3:Int)=>o5 (af (dE s d env.1).1 (X8 (Ip (dE s d env.1).2.1 (dE s d env.1).2.2 ap))) λ(x:Int)=>some (x,0,0,0,0))=
  some (l9 (E8 (Ip (dE s d env.1).2.1 (dE s d env.1).2.2 ap) 0) (Ip (dE s d env.1).2.1 (dE s d env.1).2.2 ap,0,0,0,0) (((dE s d env.1).1.getD (Ip (dE s d env.1).2.1 (dE s d env.1).2.2 ap).toNat 0),0,0,0,0)):=by
 have hb:=a0u (dE s d env.1).2.1 (dE s d env.1).2.2 ap;have hl:=(QK s d env.1).2;generalize Ip (dE s d env.1).2.1 (dE s d env.1).2.2 ap=q at*;generalize (dE s d env.1).1=L at*;by_cases g:q<0
 ·rw[O0 g];rfl
 rw[J6 (gW.1 g)];obtain⟨i,rfl⟩:∃i:Nat,q=(i:Int):=⟨q.toNat,l7⟩;have hi:i<L.length:=l7;have e:=dX hi;simp only[o6,G7,e,o8,af,X8,J5,AO,ai]
theorem a2J{s:D9}{env:aT}(hs:SmS s)(hE:EvOk env)(m d:Int):zx s env m d=some (Y3 s env m d):=by
 have hnr:=hs.nr;have hlen:=(QK s d env.1).1;unfold zx;rw[a8p l7,o8];rw[show vk (o9 (dE s d env.1).1) false=some (V_ (dE s d env.1).1.length []) by rw[show o9 (dE s d env.1).1=((dE s d env.1).1.length:Int)from rfl,MW l7 l7];rfl,o8];unfold Y3;apply uy (dE s d env.1).1 (Ep s env m d) (λb i=>(((0,0,0,0),V_ (dE s d env.1).1.length b,i):E4×List Bool×Int)) (λb=>(((0,0,0,0),b):E4×List Bool)) (λi b=>b.length=i) [] l7 rfl
 ·intro i a b hi hi' hb;obtain⟨r,hr,hm⟩:=a3f (rV hi);have hlt:=(Y6.1 hi).1;have hI:=(hs.ro r hm).1.2.2;subst hb;simp only[U2 hi,o7,G7,hi,o8,af,X8,J5,hr,b0A hlt,cO,b0B _ hlt];unfold Ep;rw[hr];simp only;cases x8 (o9 r.2.2.2.2.2.1) 0
  ·simp only[o6];rw[a5P hE hI.1,o8];cases x8 (vT r.2.2.2.2.2.1 env).2 0
   ·exact⟨rfl,λ_ h=>by cases h⟩
   ·simp only[E5,o6,o7];rw[dH l7];exact⟨rfl,λ_ h=>by cases h;simp⟩
  ·simp only[o7];rw[dH l7];exact⟨rfl,λ_ h=>by cases h;simp⟩
 ·intro b hb;rw[U1,a7N hb];rfl
 ·intro _;cases aY (Ep s env m d) (dE s d env.1).1 []with
  |inr e=>rfl|inl ap=>simp only[N7,a8h,o8];exact a3E s env m d ap
theorem a9d{oc pr:Int->Int}{l:List Int}(h:∀x∈l,-2<=oc x):-2<=chF oc pr l:=by
 unfold chF;cases hb:KN oc pr l with
 |nil=>show -2<=(-1:Int);omega|cons b r=>
  cases r with
  |nil=>exact h b (ML (oc:=oc) (pr:=pr) (by rw[hb];simp))|cons c r=>show -2<=(-2:Int);omega
theorem b0l(par prio:List Int)(ap:List Bool):∀(k:Nat) (i:Int),0<=i->-2<=ocF par prio ap k i
 |0,i,h=>by show -2<=(-1:Int);omega|k+1,i,h=>by
  unfold ocF;have hb:-2<=chF (ocF par prio ap k) (prF prio) (castL (DW par i)):=a9d λx hx=>by unfold castL at hx;obtain⟨j,hj,rfl⟩:=ah.1 hx;exact b0l par prio ap k _ l7
  cases x8 (chF (ocF par prio ap k) (prF prio) (castL (DW par i))) (-1)
  ·exact hb
  ·cases apF ap i
   ·show -2<=(-1:Int);omega
   ·show -2<=i;omega
theorem a6D(par prio:List Int)(ap:List Bool):-2<=Ip par prio ap:=by
 unfold Ip;cases x8 (Me par prio) 0
 ·show -2<=(-1:Int);omega
 cases x8 (o9 ap) (o9 par)
 ·show -2<=(-1:Int);omega
 show -2<=chS par prio ap (-1);unfold chS;refine a9d λx hx=>?_;unfold castL at hx;obtain⟨j,hj,rfl⟩:=ah.1 hx;unfold OC;exact b0l par prio ap _ _ l7
theorem PE{s:D9}{env:aT}{m d:Int}(b:List Bool)(i:Int)(r:Int×E4)(h:Ep s env m d b i= .inr r):r.2.1≠0:=by
 unfold Ep at h;cases hl:G9 s.2.2.2.2 i with
 |none=>rw[hl]at h;cases h|some q=>
  rw[hl]at h;simp only at h;cases h1:x8 (o9 q.2.2.2.2.2.1) 0<;>rw[h1]at h
  ·cases h2:x8 (vT q.2.2.2.2.2.1 env).2 0<;>rw[h2]at h<;>cases h;simp only;intro h3;rw[O8 h3]at h2;cases h2
  ·cases h
theorem a1h{s:D9}{env:aT}{m d:Int}(h0:(Y3 s env m d).2.1=0)(h1:(Y3 s env m d).1≠-1)(h2:(Y3 s env m d).1≠-2):∃r,G9 s.2.2.2.2 (Y3 s env m d).1=some r/\r∈s.2.2.2.2:=by
 unfold Y3 at*;cases hf:aY (Ep s env m d) (dE s d env.1).1 []with
 |inr e=>rw[hf]at h0;exact absurd h0 (qK (Ep s env m d) (λr=>r.2.1≠0) PE _ _ _ hf)|inl ap=>
  rw[hf]at h0 h1 h2;simp only at*;have hb:=a0u (dE s d env.1).2.1 (dE s d env.1).2.2 ap;have hlo:=a6D (dE s d env.1).2.1 (dE s d env.1).2.2 ap;have hl:=(QK s d env.1).2;generalize Ip (dE s d env.1).2.1 (dE s d env.1).2.2 ap=q at*;by_cases g:q<0
  ·rw[O0 g]at h1 h2;simp only[o7]at h1 h2;omega
  rw[J6 (gW.1 g)];have hi:q.toNat<(dE s d env.1).1.length:=l7;simp only[o6,AO,dX hi,ai];exact a3f (H7 hi)
def Ej(s:D9)(env:aT)(m d:Int):(V3×Int)⊕E4:=
 l9 (x8 (Y3 s env m d).2.1 0) (l9 (x8 (Y3 s env m d).1 (-1)) (.inr (10,m,d,-1)) (l9 (x8 (Y3 s env m d).1 (-2)) (.inr (11,m,d,-1))
  (match G9 s.2.2.2.2 (Y3 s env m d).1 with
  |none=> .inr (1,0,0,0)
  |some r=>l9 (x8 (vT r.2.2.2.2.2.2.1 env).2 0) (.inl ((vT r.2.2.2.2.2.2.1 env).1,(Y3 s env m d).1)) (.inr ((vT r.2.2.2.2.2.2.1 env).2,m,d,(Y3 s env m d).1))))) (.inr (Y3 s env m d).2)
theorem a9i{s:D9}{env:aT}{m d:Int}{e:E4}(h:Ej s env m d= .inr e):e.1≠0:=by
 unfold Ej at h;cases h0:x8 (Y3 s env m d).2.1 0<;>rw[h0]at h
 ·cases h;intro h3;rw[O8 h3]at h0;cases h0
 cases h1:x8 (Y3 s env m d).1 (-1)<;>rw[h1]at h
 case true=>cases h;show(10:Int)≠0;decide
 cases h2:x8 (Y3 s env m d).1 (-2)<;>rw[h2]at h
 case true=>cases h;show(11:Int)≠0;decide
 simp only[o7,o6]at h;cases hl:G9 s.2.2.2.2 (Y3 s env m d).1 with
 |none=>rw[hl]at h;cases h;show(1:Int)≠0;decide|some r=>rw[hl]at h;simp only at h;cases h4:x8 (vT r.2.2.2.2.2.2.1 env).2 0<;>rw[h4]at h<;>cases h;simp only;intro h3;rw[O8 h3]at h4;cases h4
theorem ZJ{s:D9} :∀(k:Nat) (O:List Int),(∀d∈O,0<=d/\d<nD s)->match Xf s k O with| .inl O' =>(∀d∈O',0<=d/\d<nD s)/\O'.length<=O.length+k| .inr x=>x.1=[]
 |0,O,h=>⟨h,l7⟩|k+1,O,h=>by
  unfold Xf;by_cases hc:O.length<s.2.2.2.1.length
  ·rw[if_pos hc];cases hn:NM s O with
   |none=>rfl|some d=>
    have hd:=(WY hn).1;have:=ZJ k (O++[(d:Int)]) (λx hx=>by
     rcases D8.1 hx with hx|hx
     ·exact h x hx
     ·rw[U3]at hx;subst hx;unfold nD o9;omega)
    simp only;cases ho:Xf s k (O++[(d:Int)])with
    |inl O' =>rw[ho]at this;exact⟨this.1,by have:=this.2;simp at this;omega⟩|inr x=>rw[ho]at this;exact this
  ·rw[if_neg hc];exact⟨h,l7⟩
theorem TY(s:D9):(∀d∈(vF s).1,0<=d/\d<nD s)/\(vF s).1.length<=100:=by
 have:=ZJ (s:=s) 100 [] A7;unfold vF;cases ho:Xf s 100 []with
 |inl O=>rw[ho]at this;exact⟨this.1,by have:=this.2;simp at this;exact this⟩|inr x=>rw[ho]at this;simp only at this ⊢;rw[this];simp
abbrev DB:Type:=List V3×List Int
def AY(env:aT)(ds:List V3):aT:=(env.1,env.2.1,ds,env.2.2.2)
theorem Po{env:aT}(h:EvOk env)(ds:List V3):EvOk (AY env ds):=⟨h.ms,h.tb⟩
def scG(s:D9)(env:aT)(m:Int)(need:List Bool)(b:DB)(d:Int):DB⊕(E4×List V3):=
 l9 ((G9 need d).getD false) (match Ej s (AY env b.1) m d with
  | .inl v=> .inl (b.1.set d.toNat v.1,b.2.set d.toNat v.2)
  | .inr e=> .inr (e,b.1)) (.inl b)
def scS(s:D9)(env:aT)(m:Int)(need:List Bool):DB⊕(E4×List V3):=aY (scG s env m need) (vF s).1 (List.replicate s.2.2.2.1.length (0,0,0),List.replicate s.2.2.2.1.length 0)
theorem b4J{s:D9}{env:aT}{m:Int}{need:List Bool}(b:DB)(d:Int)(r:E4×List V3)(h:scG s env m need b d= .inr r):r.1.1≠0:=by
 unfold scG at h;cases hb:(G9 need d).getD false<;>rw[hb]at h
 ·cases h
 simp only[o7]at h;cases hd:Ej s (AY env b.1) m d with
 |inl v=>rw[hd]at h;cases h|inr e=>rw[hd]at h;cases h;exact a9i hd
theorem UZ{s:D9}{env:aT}{m:Int}{need:List Bool}{r:E4×List V3}(h:scS s env m need= .inr r):r.1.1≠0:=qK (scG s env m need) (λr=>r.1.1≠0) b4J _ _ _ h
def a1X{β ρ ρ' :Type}(h:ρ->ρ'):β⊕ρ->β⊕ρ'| .inl b=> .inl b| .inr r=> .inr (h r)
theorem RD{α β ρ ρ' :Type}(G:β->α->β⊕ρ)(G' :β->α->β⊕ρ')(h:ρ->ρ')(hG:∀b a,G' b a=a1X h (G b a)):∀(l:List α) (b:β),aY G' l b=a1X h (aY G l b)
 |[],b=>rfl|a::l,b=>by
  unfold aY;rw[hG b a];cases G b a with
  |inl b' =>exact RD G G' h hG l b'|inr r=>rfl
theorem QB{α:Type}(s:D9)(hs:SmS s)(x:α):vk (o9 s.2.2.2.1) x=some (List.replicate s.2.2.2.1.length x):=by have:=hs.nd;rw[show o9 s.2.2.2.1=(s.2.2.2.1.length:Int)from rfl,MW l7 l7];rfl
def scP(env:aT):E4×List V3->List Int×E4×aT:=λr=>([],r.1,AY env r.2)
theorem Px{s:D9}{env:aT}{need:List Bool}(hs:SmS s)(hE:EvOk env)(m:Int)(hn:need.length=s.2.2.2.1.length):jw s env m need=some (match scS s env m need with| .inl b=>(b.2,(0,0,0,0),AY env b.1)| .inr r=>([],r.1,AY env r.2)):=by
 obtain⟨o1,o2⟩:=TY s;unfold jw;rw[QB s hs,o8,QB s hs,o8,b0x hs,o8];have hfold:=RD (scG s env m need) (λb d=>a1X (scP env) (scG s env m need b d)) (scP env) (λ_ _=>rfl) (vF s).1 (List.replicate s.2.2.2.1.length (0,0,0),List.replicate s.2.2.2.1.length 0);unfold scS;apply uy (vF s).1 (λb d=>a1X (scP env) (scG s env m need b d)) (λb i=>((AY env b.1,(0,0,0,0),b.2,i):aT×E4×List Int×Int)) (λb=>((AY env b.1,(0,0,0,0),b.2):aT×E4×List Int)) (λi b=>b.1.length=s.2.2.2.1.length/\b.2.length=s.2.2.2.1.length) (List.replicate s.2.2.2.1.length (0,0,0),List.replicate s.2.2.2.1.length 0) l7 ⟨A7,A7⟩
 ·intro i d b hi hi' hb;have hr:=o1 d (rV hi);have hnd:nD s=(s.2.2.2.1.length:Int):=rfl;obtain⟨k,rfl⟩:∃k:Nat,d=(k:Int):=⟨d.toNat,l7⟩;have hk:k<s.2.2.2.1.length:=l7;have e1:=dX (show k<need.length by omega);have e2:=dX (show k<b.1.length by omega);have e3:=dX (show k<b.2.length by omega);unfold scG;simp only[U2 hi,o7,G7,hi,o8,af,X8,J5,e1,ai];cases need[k]
  ·simp only[bH,o7,o6];rw[dH l7];exact⟨rfl,λ_ h=>by cases h;exact hb⟩
  simp only[E5,o7,o6];rw[a2J hs (Po hE b.1),o8];unfold Ej;cases h0:x8 (Y3 s (AY env b.1) m (k:Int)).2.1 0
  ·exact⟨rfl,λ_ h=>by cases h⟩
  cases h1:x8 (Y3 s (AY env b.1) m (k:Int)).1 (-1)
  case true=>exact⟨rfl,λ_ h=>by cases h⟩
  cases h2:x8 (Y3 s (AY env b.1) m (k:Int)).1 (-2)
  case true=>exact⟨rfl,λ_ h=>by cases h⟩
  obtain⟨r,hr,hm⟩:=a1h (V6.1 h0) (λh=>by rw[O8 h]at h1;cases h1) (λh=>by rw[O8 h]at h2;cases h2);simp only[E5,o6,o7,hr,o8];rw[a5P (Po hE b.1) (hs.ro r hm).1.2.2.2,o8];cases h3:x8 (vT r.2.2.2.2.2.2.1 (AY env b.1)).2 0
  ·exact⟨rfl,λ_ h=>by cases h⟩
  ·simp only[E5,o6,o7];refine⟨?_,λ_ h=>by cases h;exact⟨by simp[hb.1],by simp[hb.2]⟩⟩;rw[dH l7];have e2' :(AY env b.1).2.2.1[k]? =some (b.1[k]'l7):=e2;simp only[e2',e3,o8];rfl
 ·intro b hb;rw[U1];rfl
 ·intro _;rw[hfold];cases aY (scG s env m need) (vF s).1 (List.replicate s.2.2.2.1.length (0,0,0),List.replicate s.2.2.2.1.length 0)<;>rfl
def Dp(l:V8)(k:Int)(c:jU)(ex:Bool)(d:Int):E4:=
 l9 (x8 (eG l).1 0) (match G9 l.2.2 k with
  |none=>(6,-1,-1,-1)
  |some s=>l9 (l9 ex (l9 (E8 d 0) true (L9 (o9 s.2.2.2.1) d)) false) (6,-1,-1,-1) (l9 (x8 (yS l k c).2.2 0) (0,0,0,0) ((yS l k c).2.2,(yS l k c).1,-1,-1))) (1,-1,-1,-1)
theorem a9H(l:List D9)(k:Int):(E8 k 0=true/\G9 l k=none)\/(E8 k 0=false/\L9 (o9 l) k=true/\G9 l k=none)\/(E8 k 0=false/\L9 (o9 l) k=false/\∃s,G9 l k=some s/\s∈l):=by
 by_cases h:k<0
 ·exact .inl ⟨O0 h,tC (.inl (V9 h))⟩
 by_cases h2:o9 l<=k
 ·exact .inr (.inl ⟨J6 l7,V5 h2,tC (.inr (J6 h2))⟩)
 ·exact .inr (.inr ⟨J6 l7,V9 l7,jZ l7 l7⟩)
theorem b3G{l:V8}(hL:SmL l)(k:Int){c:jU}(hc:SmC c)(ex:Bool)(d:Int):rJ l k c ex d=some (Dp l k c ex d):=by
 unfold rJ Dp;rw[a3m hL,o8,b3O l k hc];cases x8 (eG l).1 0
 ·rfl
 simp only[E5,o6,o7];rcases a9H l.2.2 k with⟨h1,h2⟩|⟨h1,h2,h3⟩|⟨h1,h2,s,h3,_⟩
 ·rw[h1,h2];rfl
 ·rw[h1,h2,h3];rfl
 ·rw[h1,h2,h3];simp only[o6,o8];cases ex
  ·simp only[o6,o8,N7];cases x8 (yS l k c).2.2 0<;>rfl
  ·simp only[o7];cases E8 d 0
   ·cases L9 (o9 s.2.2.2.1) d
    ·simp only[o6,o8,N7];cases x8 (yS l k c).2.2 0<;>rfl
    ·rfl
   ·rfl
def yx:D9:=([],0,[],[],[])
def ax(l:V8)(s:D9):D9:=l9 (L9 0 s.2.1) ((G9 l.2.2 s.2.1).getD yx) yx
def mY(n:Nat):List Bool:=List.replicate n false
def nK(n:Nat):List Bool:=List.replicate n true
theorem YL{l:V8}{k:Int}{c:jU}{ex:Bool}{d:Int}(h:(Dp l k c ex d).1=0):(eG l).1=0/\∃s,G9 l.2.2 k=some s:=by
 unfold Dp at h;cases h0:x8 (eG l).1 0<;>rw[h0]at h
 ·exact absurd (show(1:Int)=0 from h) D7
 refine⟨V6.1 h0,?_⟩;cases h1:G9 l.2.2 k with
 |none=>rw[h1]at h;exact absurd (show(6:Int)=0 from h) D7|some s=>exact⟨s,rfl⟩
theorem b3y{l:V8}(h:(eG l).1=0){i:Nat}{s:D9}(hs:l.2.2[i]? =some s):(Eb l i s).1=0:=by
 unfold eG at h;cases h1:x8 (DR l).1 0<;>rw[h1]at h
 ·simp only[o6]at h;rw[O8 h]at h1;cases h1
 cases h2:x8 (EM l).1 0<;>rw[h2]at h
 ·simp only[o7,o6]at h;rw[O8 h]at h2;cases h2
 simp only[o7]at h;unfold QF at h;cases h3:E8 4 (o9 l.2.2)<;>rw[h3]at h
 case true=>exact absurd (show(4:Int)=0 from h) D7
 simp only[o6]at h;have hi:=(Y6.1 hs).1;cases hf:Z8 l.2.2.length (Io l)with
 |some r=>
  rw[hf]at h;simp only at h;obtain⟨j,hj,hp⟩:=bW hf;unfold Io at hp;cases hq:l.2.2[j]? with
  |none=>rw[hq]at hp;cases hp|some q=>
   rw[hq]at hp;simp only at hp;unfold Oh at hp;exact absurd h (by cases he:x8 (Eb l j q).1 0<;>rw[he]at hp<;>cases hp;simp only;intro h4;rw[O8 h4]at he;cases he)
 |none=>
  have hn:=qi hf i hi;unfold Io at hn;rw[hs]at hn;simp only at hn;unfold Oh at hn;cases he:x8 (Eb l i s).1 0<;>rw[he]at hn
  ·cases hn
  exact V6.1 he
theorem Je{l:V8}(h:(eG l).1=0){i:Nat}{s:D9}(hs:l.2.2[i]? =some s):DY l i s.2.1=false/\(Lt l s).1=0:=by
 have he:=b3y h hs;unfold Eb at he;cases g1:wP s.1<;>rw[g1]at he
 ·exact absurd (show(2:Int)=0 from he) D7
 cases g2:BQ l 3 i s.1<;>rw[g2]at he
 case true=>exact absurd (show(7:Int)=0 from he) D7
 cases g3:DY l i s.2.1<;>rw[g3]at he
 case true=>exact absurd (show(6:Int)=0 from he) D7
 cases g4:E8 12 (o9 s.2.2.1)<;>rw[g4]at he
 case true=>exact absurd (show(4:Int)=0 from he) D7
 cases g5:E8 12 (o9 s.2.2.2.1)<;>rw[g5]at he
 case true=>exact absurd (show(4:Int)=0 from he) D7
 exact⟨rfl,he⟩
theorem g_{l:V8}(h:(eG l).1=0){i:Nat}{s:D9}(hs:l.2.2[i]? =some s):DY l i s.2.1=false:=(Je h hs).1
theorem HY{l:V8}(h:(eG l).1=0){k:Int}{s:D9}(hs:G9 l.2.2 k=some s):(L9 0 s.2.1=false/\E8 s.2.1 0=true/\ax l s=yx)\/(L9 0 s.2.1=true/\E8 s.2.1 0=false/\L9 (o9 l.2.2) s.2.1=false/\G9 l.2.2 s.2.1=some (ax l s)/\ax l s∈l.2.2):=by
 obtain⟨k0,k1,k2,k3⟩:=dh hs;have hm:=g_ h k3;unfold DY at hm;by_cases g:0<=s.2.1
 ·right;rw[J3 (show s.2.1≠-1 by intro e;rw[e]at g;exact absurd g D7),J6 g]at hm;simp only[o6]at hm;cases g2:L9 ((k.toNat:Nat):Int) s.2.1<;>rw[g2]at hm
  case true=>cases hm
  rw[Ld]at g2;have hlt:s.2.1<o9 l.2.2:=by have:((k.toNat:Nat):Int)=k:=X0 k0;rw[this]at g2;exact Int.lt_trans g2 k1
  obtain⟨q,hq,hqm⟩:=jZ g hlt;have e:ax l s=q:=by unfold ax;rw[V5 g,hq];rfl
  rw[e];exact⟨V5 g,J6 g,V9 hlt,hq,hqm⟩
 ·left;have g' :=iV.1 g;refine⟨V9 g',O0 g',?_⟩;unfold ax;rw[V9 g'];rfl
theorem b3k(i j:Nat):(nK i++mY (j+1)).set i true=nK (i+1)++mY j:=by unfold nK mY;rw[ig _ _ A7,mg,az,dY,pK,nC,E9];rfl
theorem b3j(i j:Nat):(nK i++mY (j+1))[i]? =some false:=by unfold nK mY;rw[F7 A7,mg,az];rfl
theorem YI{σ ε:Type}{f:σ->Option (σ⊕ε)}{mk:List Bool->Int->σ}{fin:List Bool->ε}{n:Nat}
  (hs:∀(i j:Nat),i+j+1=n->f (mk (nK i++mY (j+1)) (i:Int))=some (.inl (mk (nK (i+1)++mY j) ((i+1:Nat):Int))))
  (he:f (mk (nK n) (n:Int))=some (.inr (fin (nK n)))):∀(j i k:Nat),i+j=n->nZ f (k+1+j) (mk (nK i++mY j) (i:Int))=some (fin (nK n))
 |0,i,k,h=>by have:i=n:=l7;subst this;rw[show nK i++mY 0=nK i by unfold mY;simp];exact ET he|j+1,i,k,h=>by rw[show k+1+(j+1)=(k+1+j)+1 by omega,Ap (hs i j l7)];exact YI hs he j (i+1) k l7
theorem a0V{σ ε:Type}{f:σ->Option (σ⊕ε)}{mk:List Bool->Int->σ}{fin:List Bool->ε}{n:Nat}(hn:n<=1000000)
  (hs:∀(i j:Nat),i+j+1=n->f (mk (nK i++mY (j+1)) (i:Int))=some (.inl (mk (nK (i+1)++mY j) ((i+1:Nat):Int))))
  (he:f (mk (nK n) (n:Int))=some (.inr (fin (nK n)))):aS f (mk (mY n) 0)=some (fin (nK n)):=by
 unfold aS;rw[show lg=(lg -n -1)+1+n by unfold lg;omega];exact YI hs he n 0 _ l7
theorem a0W{σ ε α β:Type}{f:σ->Option (σ⊕ε)}{mk:List β->Int->σ}{fin:List β->ε}{l:List α}{g:α->β}
  (hs:∀(i:Nat) (a:α) (b:List β),l[i]? =some a->b.length=i->f (mk b (i:Int))=some (.inl (mk (b++[g a]) ((i+1:Nat):Int))))
  (he:∀b,f (mk b (l.length:Int))=some (.inr (fin b))):∀(l2 l1:List α) (k:Nat),l=l1++l2->nZ f (k+1+l2.length) (mk (l1.map g) (l1.length:Int))=some (fin (l.map g))
 |[],l1,k,h=>by
  have:l=l1:=by simpa using h
  subst this;exact ET (he _)
 |a::l2,l1,k,h=>by rw[show k+1+(a::l2).length=(k+1+l2.length)+1 by simp;omega,Ap (hs l1.length a (l1.map g) (by rw[h];simp) A7)];have:=a0W hs he l2 (l1++[a]) k (by rw[h];simp);simpa using this
theorem b3F{σ ε α β:Type}{f:σ->Option (σ⊕ε)}(mk:List β->Int->σ)(fin:List β->ε)(l:List α)(g:α->β)(hn:l.length<=1000000)
  (hs:∀(i:Nat) (a:α) (b:List β),l[i]? =some a->b.length=i->f (mk b (i:Int))=some (.inl (mk (b++[g a]) ((i+1:Nat):Int))))
  (he:∀b,f (mk b (l.length:Int))=some (.inr (fin b))):aS f (mk [] 0)=some (fin (l.map g)):=by
 unfold aS;rw[show lg=(lg -l.length -1)+1+l.length by unfold lg;omega];exact a0W hs he l [] _ rfl
theorem FP{l:V8}(h:(eG l).1=0){k:Int}{s:D9}(hs:G9 l.2.2 k=some s):c6S l k=some (ax l s):=by
 unfold c6S;rw[hs,o8];rcases HY h hs with⟨g1,g2,g3⟩|⟨g1,g2,g3,g4,g5⟩
 ·rw[g2,g3];rfl
 ·rw[g2,g3,g4];rfl
theorem a2f{l:V8}(hL:SmL l)(h:(eG l).1=0){k:Int}{s:D9}(hs:G9 l.2.2 k=some s):zu l k=some (s,ax l s,mY s.2.2.2.1.length,mY (ax l s).2.2.2.1.length):=by
 have hm:=(dh hs).2.2.1;have hnd:=(hL.sc s hm).nd;unfold zu;rw[hs,o8,show vk (o9 s.2.2.2.1) false=some (mY s.2.2.2.1.length)from QB s (hL.sc s hm) false,o8];rcases HY h hs with⟨g1,g2,g3⟩|⟨g1,g2,g3,g4,g5⟩
 ·rw[g1,g3];rfl
 ·rw[g1,g4];simp only[o7,o8];rw[show vk (o9 (ax l s).2.2.2.1) false=some (mY (ax l s).2.2.2.1.length)from QB _ (hL.sc _ g5) false,o8]
theorem a4k:SmS yx:=⟨by simp[yx],by simp[yx],by simp[yx],by simp[yx],⟨by simp[yx],by simp[yx]⟩,by simp[yx]⟩
def WG(l:V8)(c:jU)(v:List V3):aT:=(c.1,v,[],[],[],l.2.1)
def mG(l:V8)(c:jU)(ms:D9)(need:List Bool)(b:List DB)(a:List V3×Nat):List DB⊕E4:=
 match scS ms (WG l c a.1) (a.2:Int) need with
 | .inl x=> .inl (b++[x])| .inr e=> .inr e.1
def mS(l:V8)(c:jU)(ms:D9)(need:List Bool):List DB⊕E4:=aY (mG l c ms need) c.2.2.zipIdx []
theorem b6s{l:V8}{c:jU}{ms:D9}{need:List Bool}(b:List DB)(a:List V3×Nat)(r:E4)(h:mG l c ms need b a= .inr r):r.1≠0:=by
 unfold mG at h;cases hs:scS ms (WG l c a.1) (a.2:Int) need with
 |inl x=>rw[hs]at h;cases h|inr e=>rw[hs]at h;cases h;exact UZ hs
theorem b4Y{l:List (List V3)}{i:Nat}{a:List V3×Nat}(h:l.zipIdx[i]? =some a):l[i]? =some a.1/\a.2=i:=by
 rw[yL]at h;cases hl:l[i]? with
 |none=>rw[hl]at h;cases h|some v=>rw[hl]at h;cases h;exact⟨rfl,A7⟩
theorem b3Z{l:V8}(hT:∀t∈l.2.1,AQ t)(c:jU)(v:List V3):EvOk (WG l c v):=⟨by simp[WG],hT⟩
def Bv(l:V8)(s:D9)(c:jU)(b:List DB):aT:=(c.1,c.2.1,[],b.map (·.1),(ax l s).2.2.2.1.map (·.2),l.2.1)
def a2G(l:V8)(s:D9)(c:jU):lS×E4:=
 match mS l c (ax l s) (nK (ax l s).2.2.2.1.length)with
 | .inr e=>(([],[],[]),e)
 | .inl b=>match scS s (Bv l s c b) (-1) (nK s.2.2.2.1.length)with
  | .inl x=>((x.1,x.2,b),0,0,0,0)| .inr r=>(([],[],[]),r.1)
theorem a9V{l:V8}(hL:SmL l)(h:(eG l).1=0){k:Int}{s:D9}(hs:G9 l.2.2 k=some s):SmS (ax l s):=by
 rcases HY h hs with⟨_,_,g3⟩|⟨_,_,_,_,g5⟩
 ·rw[g3];exact a4k
 ·exact hL.sc _ g5
theorem a9R{l:V8}{c:jU}{ms:D9}{need:List Bool}{b:List DB}(h:mS l c ms need= .inl b):b.length=c.2.2.length:=by
 have key:∀(L:List (List V3×Nat)) (b0 b:List DB),aY (mG l c ms need) L b0= .inl b->b.length=b0.length+L.length:=by
  intro L;induction L with
  |nil=>intro b0 b h;cases h;simp|cons a L ih=>
   intro b0 b h;unfold aY at h;cases hg:mG l c ms need b0 a with
   |inr e=>rw[hg]at h;cases h|inl b1=>
    rw[hg]at h;have:=ih b1 b h;have h1:b1.length=b0.length+1:=by
     unfold mG at hg;cases hs:scS ms (WG l c a.1) (a.2:Int) need with
     |inr e=>rw[hs]at hg;cases hg|inl x=>rw[hs]at hg;cases hg;simp
    simp only[F5];omega
 have:=key _ _ _ h;simpa using this
theorem Xo{l:V8}(hT:∀t∈l.2.1,AQ t)(s:D9)(c:jU){b:List DB}(hb:b.length<=1000):EvOk (Bv l s c b):=⟨by simp[Bv];omega,hT⟩
abbrev ZT:Type:=Int×List V3×PUnit×List (List V3)×List (Int×Int)×List iy
def b6l(l:V8)(s:D9)(c:jU)(nS nM:List Bool):DB×List DB⊕E4:=
 match mS l c (ax l s) nM with
 | .inr e=> .inr e
 | .inl b=>match scS s (Bv l s c b) (-1) nS with
  | .inl x=> .inl (x,b)| .inr r=> .inr r.1
theorem B_{l:V8}{k:Int}{s:D9}{c:jU}{nS nM:List Bool}(hS:SmS s)(hM:SmS (ax l s))(hC:SmC c)(hT:∀t∈l.2.1,AQ t)(h1:nS.length=s.2.2.2.1.length)(h2:nM.length=(ax l s).2.2.2.1.length):
  zt l k c (s,ax l s,nS,nM)=some (match b6l l s c nS nM with
   | .inl x=>((x.1.1,x.1.2,x.2),AY (Bv l s c x.2) x.1.1,(0,0,0,0),(s,ax l s,nS,nM))
   | .inr e=>(([],[],[]),(0,[],[],[],[],[]),e,(s,ax l s,nS,nM))):=by
 have hnd:=hM.nd;have hnm:=hC.nm;unfold zt;rw[show(aS _ _)=some (((c.1,c.2.1,PUnit.unit,PUnit.unit,(ax l s).2.2.2.1.map (λf=>f.2),l.2.1)):Int×List V3×PUnit×PUnit×List (Int×Int)×List iy)from ?_,o8]
 rotate_left
 ·refine b3F (λL i=>(((c.1,c.2.1,PUnit.unit,PUnit.unit,L,l.2.1),i):(Int×List V3×PUnit×PUnit×List (Int×Int)×List iy)×Int)) (λL=>((c.1,c.2.1,PUnit.unit,PUnit.unit,L,l.2.1):Int×List V3×PUnit×PUnit×List (Int×Int)×List iy)) (ax l s).2.2.2.1 (λf=>f.2) l7 (λi a L hi hL=>?_) (λL=>?_)
  ·have:=(Y6.1 hi).1;simp only[U2 hi,o7,G7,hi,o8];rw[mQ _ l7,o8,dH l7]
  ·rw[U1];rfl
 have hfold:=RD (mG l c (ax l s) nM) (λb a=>a1X (λe=>((([],[],[]),(0,[],[],[],[],[]),e,(s,ax l s,nS,nM)):lS×aT×E4×iw)) (mG l c (ax l s) nM b a)) (λe=>((([],[],[]),(0,[],[],[],[],[]),e,(s,ax l s,nS,nM)):lS×aT×E4×iw)) (λ_ _=>rfl) c.2.2.zipIdx [];have hzl:c.2.2.zipIdx.length=c.2.2.length:=A7;unfold b6l mS;apply uy c.2.2.zipIdx (λb a=>a1X (λe=>((([],[],[]),(0,[],[],[],[],[]),e,(s,ax l s,nS,nM)):lS×aT×E4×iw)) (mG l c (ax l s) nM b a))
  (λb i=>((([],[],[]),(0,[],[],[],[],[]),(0,0,0,0),(c.1,c.2.1,PUnit.unit,b.map (·.1),(ax l s).2.2.2.1.map (λf=>f.2),l.2.1),([],[],b),i):lS×aT×E4×ZT×lS×Int))
  (λb=>((([],[],[]),(0,[],[],[],[],[]),(0,0,0,0),(c.1,c.2.1,PUnit.unit,b.map (·.1),(ax l s).2.2.2.1.map (λf=>f.2),l.2.1),([],[],b)):lS×aT×E4×ZT×lS))
  (λi b=>b.length=i) [] l7 rfl
 ·intro i a b hi hi' hb;obtain⟨z1,z2⟩:=b4Y hi;have hil:=(Y6.1 z1).1;unfold mG;simp only[U2 z1,o7,G7,z1,o8];rw[show jw (ax l s) (c.1,a.1,[],[],[],l.2.1) (i:Int) nM=_ from Px hM (b3Z hT c a.1) (i:Int) h2,o8,z2];unfold WG;cases hq:scS (ax l s) (c.1,a.1,[],[],[],l.2.1) (i:Int) nM with
  |inr e=>simp only[J3 (UZ hq)];exact⟨rfl,λ_ h=>by cases h⟩|inl x=>simp only[O8 (rfl:(0:Int)=0),E5,o6];rw[mQ _ U6,o8,mQ _ l7,o8,dH l7];exact⟨by simp[a1X,AY],λ_ h=>by cases h;simp[hb]⟩
 ·intro b hb;rw[hzl,U1];rfl
 ·intro _;rw[hfold];cases hq:aY (mG l c (ax l s) nM) c.2.2.zipIdx []with
  |inr e=>rfl|inl b=>
   have hbl:b.length=c.2.2.length:=a9R (ms:=ax l s) (need:=nM) hq;have hsc:=Px (need:=nS) hS (Xo hT s c (b:=b) l7) (-1) h1;unfold Bv at hsc;simp only[a1X,N7];rw[show jw s (c.1,c.2.1,[],b.map (·.1),(ax l s).2.2.2.1.map (λf=>f.2),l.2.1) (-1) nS=_ from hsc,o8];unfold Bv;cases hr:scS s (c.1,c.2.1,[],b.map (·.1),(ax l s).2.2.2.1.map (λf=>f.2),l.2.1) (-1) nS with
   |inr e=>simp only[J3 (UZ hr)];rfl|inl x=>rfl
theorem b6K{l:V8}{k:Int}{c:jU}(hL:SmL l)(hC:SmC c)(hT:∀t∈l.2.1,AQ t):Ju l k c=some (if(Dp l k c false 0).1=0 then(match G9 l.2.2 k with|some s=>a2G l s c|none=>(([],[],[]),0,0,0,0))else(([],[],[]),Dp l k c false 0)):=by
 unfold Ju;rw[b3G hL k hC,o8];by_cases hA:(Dp l k c false 0).1=0
 case neg=>rw[if_neg hA,J3 hA];rfl
 rw[if_pos hA,O8 hA];obtain⟨h,s,hs⟩:=YL hA;have hM:=a9V hL h hs;have hS:=hL.sc s (dh hs).2.2.1;have hn1:=hS.nd;have hn2:=hM.nd;rw[hs];simp only[E5,o6];rw[a2f hL h hs,o8];rw[show(aS _ _)=some ((s,ax l s,nK s.2.2.2.1.length,mY (ax l s).2.2.2.1.length):iw)from ?_,o8]
 rotate_left
 ·refine a0V (n:=s.2.2.2.1.length) (mk:=λL i=>(((s,ax l s,L,mY (ax l s).2.2.2.1.length),i):iw×Int)) (fin:=λL=>((s,ax l s,L,mY (ax l s).2.2.2.1.length):iw)) l7 (λi j hij=>?_) ?_
  ·simp only[show o9 (mY s.2.2.2.1.length)=(s.2.2.2.1.length:Int) by unfold o9 mY;simp,O0 (show(i:Int)<(s.2.2.2.1.length:Int) by omega),o7,G7,b3j,o8,af,X8,J5,cO,b3k];rw[dH l7]
  ·simp only[show o9 (mY s.2.2.2.1.length)=(s.2.2.2.1.length:Int) by unfold o9 mY;simp,J6 (ed (s.2.2.2.1.length:Int)),o6]
 rw[show(aS _ _)=some ((s,ax l s,nK s.2.2.2.1.length,nK (ax l s).2.2.2.1.length):iw)from ?_,o8]
 rotate_left
 ·refine a0V (n:=(ax l s).2.2.2.1.length) (mk:=λL i=>(((s,ax l s,nK s.2.2.2.1.length,L),i):iw×Int)) (fin:=λL=>((s,ax l s,nK s.2.2.2.1.length,L):iw)) l7 (λi j hij=>?_) ?_
  ·simp only[show o9 (mY (ax l s).2.2.2.1.length)=((ax l s).2.2.2.1.length:Int) by unfold o9 mY;simp,O0 (show(i:Int)<((ax l s).2.2.2.1.length:Int) by omega),o7,G7,b3j,o8,af,X8,J5,cO,b3k];rw[dH l7]
  ·simp only[show o9 (mY (ax l s).2.2.2.1.length)=((ax l s).2.2.2.1.length:Int) by unfold o9 mY;simp,J6 (ed ((ax l s).2.2.2.1.length:Int)),o6]
 rw[B_ hS hM hC hT (by simp[nK]) (by simp[nK]),o8];unfold b6l a2G;cases mS l c (ax l s) (nK (ax l s).2.2.2.1.length)with
 |inr e=>rfl|inl b=>simp only;cases scS s (Bv l s c b) (-1) (nK s.2.2.2.1.length)<;>rfl
theorem jM{α:Type}{n:Nat}{l:List α}(h:E8 (n:Int) (o9 l)=false):l.length<=n:=by rw[jv]at h;unfold o9 at h;omega
def WB(r:gy):Bool:=l9 (E8 80 (o9 r.1)) true (l9 (E8 80 (o9 r.2.2.2.2.2.2.2)) true (l9 (E8 50 (o9 r.2.2.2.2.2.1)) true (E8 50 (o9 r.2.2.2.2.2.2.1))))
def smS(s:D9):Bool:=l9 (E8 80 (o9 s.1)) false (l9 (E8 14 (o9 s.2.2.1)) false (l9 (E8 14 (o9 s.2.2.2.1)) false (l9 (E8 60 (o9 s.2.2.2.2)) false
 (l9 (s.2.2.1.any λf=>E8 80 (o9 f.1)) false (l9 (s.2.2.2.1.any λf=>E8 80 (o9 f.1)) false (F6 (s.2.2.2.2.any WB)))))))
theorem VV{fs:List jq}(h:fs.length<=1000000):X7 (λ(x:Int)=>l9 (E8 x (o9 fs)) (o5 (G9 fs x) λ(x_1:jq)=>l9 (E8 80 (o9 x_1.1)) (some (Out.rt false)) (some (Out.nx (D6 IntKind.i64 x 1)))) (some (Out.ex PUnit.unit))) 0=some (bif fs.any (λf=>E8 80 (o9 f.1))then .inr false else .inl PUnit.unit):=by
 refine CY fs (λf=>E8 80 (o9 f.1)) false PUnit.unit h (λi a ha=>?_) ?_
 ·simp only[U2 ha,o7,G7,ha,o8];cases E8 80 (o9 a.1)<;>rfl
 ·rw[U1];rfl
theorem Yx(s:D9):zO s=some (smS s):=by
 unfold zO smS;cases h1:E8 80 (o9 s.1)
 case true=>rfl
 cases h2:E8 14 (o9 s.2.2.1)
 case true=>rfl
 cases h3:E8 14 (o9 s.2.2.2.1)
 case true=>rfl
 cases h4:E8 60 (o9 s.2.2.2.2)
 case true=>rfl
 have l2:=jM (n:=14) h2;have l3:=jM (n:=14) h3;have l4:=jM (n:=60) h4;simp only[o6,o8,N7];rw[VV l7,VV l7,o8];cases s.2.2.1.any λf=>E8 80 (o9 f.1)
 case true=>rfl
 simp only[cond_false,N7,o6,o8];cases s.2.2.2.1.any λf=>E8 80 (o9 f.1)
 case true=>rfl
 simp only[cond_false,N7,o6];refine U9 (CY s.2.2.2.2 WB false PUnit.unit l7 (λi a ha=>?_) ?_) ?_
 rotate_left 2
 ·cases s.2.2.2.2.any WB<;>rfl
 ·simp only[U2 ha,o7,G7,ha,o8];unfold WB;cases E8 80 (o9 a.1)<;>cases E8 80 (o9 a.2.2.2.2.2.2.2)<;>cases E8 50 (o9 a.2.2.2.2.2.1)<;>cases E8 50 (o9 a.2.2.2.2.2.2.1)<;>rfl
 ·rw[U1];rfl
def ScI(s:D9):Prop:=∀r∈s.2.2.2.2,(∀n∈r.2.2.2.2.2.1,bQ n.2)/\∀n∈r.2.2.2.2.2.2.1,bQ n.2
theorem Uy{a b:Bool}(h:l9 a false b=true):a=false/\b=true:=by cases a<;>cases b<;>first|exact⟨rfl,rfl⟩|cases h
theorem YK{α:Type}{l:List α}{p:α->Bool}(h:l.any p=false):∀a∈l,p a=false:=by
 intro a ha;rw[iK]at h;have:=h a ha;cases hp:p a
 ·rfl
 ·exact absurd hp this
theorem b7o{s:D9}(h:smS s=true)(hI:ScI s):SmS s:=by
 unfold smS at h;obtain⟨h1,h⟩:=Uy h;obtain⟨h2,h⟩:=Uy h;obtain⟨h3,h⟩:=Uy h;obtain⟨h4,h⟩:=Uy h;obtain⟨h5,h⟩:=Uy h;obtain⟨h6,h⟩:=Uy h;have h7:s.2.2.2.2.any WB=false:=by cases hq:s.2.2.2.2.any WB<;>rw[hq]at h<;>first|rfl|cases h
 refine⟨by have:=jM (n:=80) h1;omega,jM (n:=14) h2,jM (n:=14) h3,jM (n:=60) h4,⟨λf hf=>?_,λf hf=>?_⟩,λr hr=>?_⟩
 ·have:=jM (n:=80) (YK h5 f hf);omega
 ·have:=jM (n:=80) (YK h6 f hf);omega
 ·have hl:=YK h7 r hr;unfold WB at hl;cases g1:E8 80 (o9 r.1)<;>rw[g1]at hl
  case true=>cases hl
  cases g2:E8 80 (o9 r.2.2.2.2.2.2.2)<;>rw[g2]at hl
  case true=>cases hl
  cases g3:E8 50 (o9 r.2.2.2.2.2.1)<;>rw[g3]at hl
  case true=>cases hl
  have k1:=jM (n:=80) g1;have k2:=jM (n:=80) g2;exact⟨⟨l7,l7,(hI r hr).1,(hI r hr).2⟩,jM (n:=50) g3,jM (n:=50) hl⟩
def smC(c:jU):Bool:=l9 (E8 14 (o9 c.2.1)) false (l9 (E8 10 (o9 c.2.2)) false (F6 (c.2.2.any λv=>E8 14 (o9 v))))
theorem a0y(c:jU):BJ c=some (smC c):=by
 unfold BJ smC;cases h1:E8 14 (o9 c.2.1)
 case true=>rfl
 cases h2:E8 10 (o9 c.2.2)
 case true=>rfl
 have l2:=jM (n:=10) h2;simp only[o6];refine U9 (CY c.2.2 (λv=>E8 14 (o9 v)) false PUnit.unit l7 (λi a ha=>?_) ?_) ?_
 rotate_left 2
 ·cases c.2.2.any λv=>E8 14 (o9 v)<;>rfl
 ·simp only[U2 ha,o7,G7,ha,o8];cases E8 14 (o9 a)<;>rfl
 ·rw[U1];rfl
theorem b7m{c:jU}(h:smC c=true):SmC c:=by
 unfold smC at h;obtain⟨h1,h⟩:=Uy h;obtain⟨h2,h⟩:=Uy h;have h3:(c.2.2.any λv=>E8 14 (o9 v))=false:=by cases hq:c.2.2.any λv=>E8 14 (o9 v)<;>rw[hq]at h<;>first|rfl|cases h
 exact⟨by have:=jM (n:=14) h1;omega,by have:=jM (n:=10) h2;omega,λv hv=>by have:=jM (n:=14) (YK h3 v hv);omega⟩
theorem Rz{α β ρ:Type}(G:β->α->β⊕ρ)(Inv:β->Prop)(hG:∀b a b',Inv b->G b a= .inl b' ->Inv b'):∀(l:List α) (b b' :β),Inv b->aY G l b= .inl b' ->Inv b'
 |[],b,b',hi,h=>by cases h;exact hi|a::l,b,b',hi,h=>by
  unfold aY at h;cases hg:G b a with
  |inr r=>rw[hg]at h;cases h|inl b1=>rw[hg]at h;exact Rz G Inv hG l b1 b' (hG b a b1 hi hg) h
theorem a6C{s:D9}{env:aT}{m:Int}{need:List Bool}{b:DB}(h:scS s env m need= .inl b):b.1.length=s.2.2.2.1.length/\b.2.length=s.2.2.2.1.length:=by
 refine Rz (scG s env m need) (λb=>b.1.length=s.2.2.2.1.length/\b.2.length=s.2.2.2.1.length) (λb a b' hi h=>?_) _ _ _ ⟨A7,A7⟩ h;unfold scG at h;cases hb:(G9 need a).getD false<;>rw[hb]at h
 ·cases h;exact hi
 simp only[o7]at h;cases hd:Ej s (AY env b.1) m a with
 |inr e=>rw[hd]at h;cases h|inl v=>rw[hd]at h;cases h;exact⟨by simp[hi.1],by simp[hi.2]⟩
def a1U(e:bT):Bool:=l9 (E8 80 (o9 e.1)) true (l9 (E8 20 (o9 e.2)) true (e.2.any λm=>E8 80 (o9 m)))
def tG(b:Int)(t:iy):Int⊕Bool:=l9 (E8 80 (o9 t.1)) (.inr false) (l9 (E8 150 (D6 .i64 b (o9 t.2.2.2))) (.inr false) (.inl (D6 .i64 b (o9 t.2.2.2))))
def sG(b:Int)(s:D9):Int⊕Bool:=l9 (E8 60 (D6 .i64 b (o9 s.2.2.2.2))) (.inr false) (l9 (smS s) (.inl (D6 .i64 b (o9 s.2.2.2.2))) (.inr false))
def smL(l:V8):Bool:=l9 (E8 9 (o9 l.1)) false (l9 (E8 9 (o9 l.2.1)) false (l9 (E8 5 (o9 l.2.2)) false (l9 (l.1.any a1U) false
 (match aY tG l.2.1 0 with| .inr _=>false| .inl _=>match aY sG l.2.2 0 with| .inr _=>false| .inl _=>true))))
theorem b9b:∀(b:Int) (t:iy) (r:Bool),tG b t= .inr r->r=false:=by intro b t r h;unfold tG at h;cases g0:E8 80 (o9 t.1)<;>cases g:E8 150 (D6 .i64 b (o9 t.2.2.2))<;>simp only[g0,g,o7,o6]at h<;>cases h<;>rfl
theorem b7l:∀(b:Int) (s:D9) (r:Bool),sG b s= .inr r->r=false:=by intro b s r h;unfold sG at h;cases g:E8 60 (D6 .i64 b (o9 s.2.2.2.2))<;>cases g2:smS s<;>simp only[g,g2,o7,o6]at h<;>cases h<;>rfl
theorem a2M(l:V8):Dj l=some (smL l):=by
 unfold Dj smL;cases h1:E8 9 (o9 l.1)
 case true=>rfl
 cases h2:E8 9 (o9 l.2.1)
 case true=>rfl
 cases h3:E8 5 (o9 l.2.2)
 case true=>rfl
 have l1:=jM (n:=9) h1;have l2:=jM (n:=9) h2;have l3:=jM (n:=5) h3;simp only[o6,o8,N7];refine U9 (CY l.1 a1U false PUnit.unit l7 (λi a ha=>?_) ?_) ?_
 ·simp only[U2 ha,o7,G7,ha,o8];unfold a1U;cases E8 80 (o9 a.1)
  case true=>rfl
  cases h5:E8 20 (o9 a.2)
  case true=>rfl
  have l5:=jM (n:=20) h5;simp only[o6];refine U9 (CY a.2 (λm=>E8 80 (o9 m)) false PUnit.unit l7 (λj m hm=>?_) ?_) ?_
  ·simp only[U2 hm,o7,G7,hm,o8];cases E8 80 (o9 m)<;>rfl
  ·rw[U1];rfl
  ·cases a.2.any λm=>E8 80 (o9 m)<;>rfl
 ·rw[U1];rfl
 cases l.1.any a1U
 case true=>rfl
 simp only[cond_false,N7,o6];apply uy l.2.1 tG (λb i=>((b,i):Int×Int)) (λ_=>PUnit.unit) (λ_ _=>True) 0 l7 trivial
 ·intro i t b hi hi' _;refine⟨?_,λ_ _=>trivial⟩;simp only[U2 hi,o7,G7,hi,o8];unfold tG;rw[dH l7];cases E8 80 (o9 t.1)<;>cases E8 150 (D6 .i64 b (o9 t.2.2.2))<;>rfl
 ·intro b _;rw[U1];rfl
 ·intro _;cases ht:aY tG l.2.1 0 with
  |inr r=>rw[qK tG (λr=>r=false) b9b _ _ _ ht];rfl|inl b=>
   simp only[N7];apply uy l.2.2 sG (λb i=>((b,i):Int×Int)) (λ_=>PUnit.unit) (λ_ _=>True) 0 l7 trivial
   ·intro i s b hi hi' _;refine⟨?_,λ_ _=>trivial⟩;simp only[U2 hi,o7,G7,hi,o8,Yx];unfold sG;rw[dH l7];cases E8 60 (D6 .i64 b (o9 s.2.2.2.2))<;>cases smS s<;>rfl
   ·intro b _;rw[U1];rfl
   ·intro _;cases hs:aY sG l.2.2 0 with
    |inr r=>rw[qK sG (λr=>r=false) b7l _ _ _ hs];rfl|inl b=>rfl
structure WfL (l:V8):Prop where
 rl:∀t∈l.2.1,t.2.2.2.length<=4611686018427387904
 ri:∀t∈l.2.1,∀r∈t.2.2.2,a5w r
 sl:∀s∈l.2.2,s.2.2.2.2.length<=4611686018427387904
 si:∀s∈l.2.2,ScI s
theorem b3d:∀(L:List iy) (b b' :Int),0<=b->b<=150->(∀t∈L,t.2.2.2.length<=4611686018427387904)->aY tG L b= .inl b' ->∀t∈L,t.1.length<=80/\t.2.2.2.length<=150
 |[],_,_,_,_,_,_=>by simp|t::L,b,b',h0,h1,hw,h=>by
  have hwt:=hw t A7;have ha:D6 .i64 b (o9 t.2.2.2)=b+o9 t.2.2.2:=U7 (by unfold bQ o9;omega);unfold aY tG at h;rw[ha]at h;cases g0:E8 80 (o9 t.1)<;>rw[g0]at h
  case true=>cases h
  cases g1:E8 150 (b+o9 t.2.2.2)<;>rw[g1]at h
  case true=>cases h
  rw[jv]at g1;intro x hx;rcases A8.1 hx with rfl|hx
  ·exact⟨jM (n:=80) g0,by unfold o9 at g1;omega⟩
  ·exact b3d L (b+o9 t.2.2.2) b' (by unfold o9;omega) g1 (λq hq=>hw q (by simp[hq])) h x hx
theorem b1V:∀(L:List D9) (b b' :Int),0<=b->b<=60->(∀s∈L,s.2.2.2.2.length<=4611686018427387904)->aY sG L b= .inl b' ->∀s∈L,smS s=true
 |[],_,_,_,_,_,_=>by simp|s::L,b,b',h0,h1,hw,h=>by
  have hwt:=hw s A7;have ha:D6 .i64 b (o9 s.2.2.2.2)=b+o9 s.2.2.2.2:=U7 (by unfold bQ o9;omega);unfold aY sG at h;rw[ha]at h;cases g1:E8 60 (b+o9 s.2.2.2.2)<;>rw[g1]at h
  case true=>cases h
  cases g2:smS s<;>rw[g2]at h
  case false=>cases h
  rw[jv]at g1;intro x hx;rcases A8.1 hx with rfl|hx
  ·exact g2
  ·exact b1V L (b+o9 s.2.2.2.2) b' (by unfold o9;omega) g1 (λq hq=>hw q (by simp[hq])) h x hx
theorem b7n{l:V8}(h:smL l=true)(hW:WfL l):SmL l/\∀t∈l.2.1,AQ t:=by
 unfold smL at h;obtain⟨h1,h⟩:=Uy h;obtain⟨h2,h⟩:=Uy h;obtain⟨h3,h⟩:=Uy h;obtain⟨h4,h⟩:=Uy h;have l1:=jM (n:=9) h1;have l2:=jM (n:=9) h2;have l3:=jM (n:=5) h3;cases ht:aY tG l.2.1 0 with
 |inr r=>rw[ht]at h;cases h|inl b=>
  rw[ht]at h;simp only at h;cases hs:aY sG l.2.2 0 with
  |inr r=>rw[hs]at h;cases h|inl b' =>
   have T:=b3d l.2.1 0 b l7 l7 hW.rl ht;have S:=b1V l.2.2 0 b' l7 l7 hW.sl hs;refine⟨⟨⟨l7,l7,l7⟩,λe he=>?_,λt ht=>by have:=(T t ht).1;omega,λs hs=>b7o (S s hs) (hW.si s hs)⟩,λt ht=>⟨by have:=(T t ht).2;omega,hW.ri t ht⟩⟩;have hl:=YK h4 e he;unfold a1U at hl;cases g1:E8 80 (o9 e.1)<;>rw[g1]at hl
   case true=>cases hl
   cases g2:E8 20 (o9 e.2)<;>rw[g2]at hl
   case true=>cases hl
   have k1:=jM (n:=80) g1;exact⟨l7,λm hm=>by have:=jM (n:=80) (YK hl m hm);omega⟩
theorem a2v:reachBytes<=4611686018427387904:=by decide
theorem c5I{l:V8}(h:wf c7a l):WfL l:=by
 refine⟨λt ht=>?_,λt ht r hr=>?_,λs hs=>?_,λs hs r hr=>⟨λn hn=>?_,λn hn=>?_⟩⟩
 ·have:=(h.2.1.2 t ht).2.2.2.1;exact kE this a2v
 ·have:=(h.2.1.2 t ht).2.2.2.2 r hr;exact⟨XY this.2.1,XY this.2.2.1,XY this.2.2.2⟩
 ·have:=(h.2.2.2 s hs).2.2.2.2.1;exact kE this a2v
 ·have:=(h.2.2.2 s hs).2.2.2.2.2 r hr;exact XY (this.2.2.2.2.2.1.2 n hn).2
 ·have:=(h.2.2.2 s hs).2.2.2.2.2 r hr;exact XY (this.2.2.2.2.2.2.1.2 n hn).2
theorem b5l{k N:Int}{sg:I5}(hk:bK k=some true)(h:(EH (k,N) [] sg).2=0):((RR (k,N) [] sg).getD ((0,0),0)).2=0:=by
 unfold EH at h;rw[a8G]at h;revert h;cases F6 (x8 N 0)
 ·exact id
 ·rw[show bK (k,N).1=some true from hk];exact id
theorem b4u{N:Int}{sg:I5}(h:(EH (8,N) [] sg).2=0):0<=N/\N<o9 sg.2.2.2.1:=by
 have h:=b5l rfl h;have hf:mX (8,N) sg=l9 (L9 0 N) (some (E8 N (o9 sg.2.2.2.1))) (some false):=rfl;unfold RR at h;rw[hf,show oJ (8,N) sg=some true from rfl]at h;cases h1:L9 0 N<;>rw[h1]at h
 ·exact absurd (show(6:Int)=0 from h) D7
 cases h2:E8 N (o9 sg.2.2.2.1)<;>rw[h2]at h
 ·exact absurd (show(6:Int)=0 from h) D7
 exact⟨lT.1 h1,jl.1 h2⟩
theorem b4v{k N:Int}{sg:I5}(hk:k=36\/k=37\/k=38\/k=39)(h:(EH (k,N) [] sg).2=0):0<=N/\N<o9 sg.2.2.2.2.1/\sg.2.2.2.2.2=true:=by
 have h:=b5l (by rcases hk with rfl|rfl|rfl|rfl<;>rfl) h;have hr:RR (k,N) [] sg=o5 (l9 sg.2.2.2.2.2 (l9 (L9 0 N) (some (E8 N (o9 sg.2.2.2.2.1))) (some false)) (some false)) λ(x:Bool)=>l9 (F6 x) (some ((0,0),6))
   (o5 (aJ (k,N) sg) λ(x:J8×Bool)=>l9 (F6 x.2) (some ((0,0),8)) (some (x.1,0))):=by rcases hk with rfl|rfl|rfl|rfl<;>rfl
 rw[hr]at h;cases h0:sg.2.2.2.2.2<;>rw[h0]at h
 ·exact absurd (show(6:Int)=0 from h) D7
 cases h1:L9 0 N<;>rw[h1]at h
 ·exact absurd (show(6:Int)=0 from h) D7
 cases h2:E8 N (o9 sg.2.2.2.2.1)<;>rw[h2]at h
 ·exact absurd (show(6:Int)=0 from h) D7
 exact⟨lT.1 h1,jl.1 h2,rfl⟩
def Vh(sg:I5)(n:Int×Int):Prop:=(x8 n.1 8=true->0<=n.2/\n.2<o9 sg.2.2.2.1)/\(isM n.1=true->0<=n.2/\n.2<o9 sg.2.2.2.2.1/\sg.2.2.2.2.2=true)
theorem Zn{k:Int}(h:isM k=true):k=36\/k=37\/k=38\/k=39:=by
 unfold isM at h;cases h1:L9 36 k<;>rw[h1]at h
 ·cases h
 have h2:=lT.1 h1;have h3:=lT.1 (show L9 k 39=true from h);omega
theorem b0g{sg:I5}{n:Int×Int}{i:Nat}{t:Int×Int}(h:Dx sg n [] i= .inr t):Vh sg n:=by
 unfold Dx at h;split at h
 ·rename_i h0;obtain⟨k,N⟩:=n;refine⟨λhk=>?_,λhk=>b4v (Zn hk) h0⟩;have hk:k=8:=V6.1 hk;subst hk;exact b4u h0
 ·cases h
theorem Xa{sg:I5}{n:Int×Int}(h:arF n.1≠0):Vh sg n:=by
 refine⟨λhk=>absurd ?_ h,λhk=>absurd ?_ h⟩
 ·rw[V6.1 hk];rfl
 ·rcases Zn hk with e|e|e|e<;>rw[e]<;>rfl
theorem JS{sg:I5} :∀(t:XT) (o:Nat) {r:Int×Int},t.wf->fJ sg t o= .inr r->∀n∈t.post,Vh sg n
 | .l0 n,o,r,hw,h,x,hx=>by unfold XT.post at hx;rw[U3.1 hx];unfold fJ at h;exact b0g h| .l1 n a,o,r,hw,h,x,hx=>by
  unfold XT.wf at hw;unfold XT.post at hx;unfold fJ at h;cases ha:fJ sg a o with
  |inl e=>rw[ha]at h;cases h|inr ta=>
   rcases D8.1 hx with hx|hx
   ·exact JS a o hw.2 ha x hx
   ·rw[U3.1 hx];exact Xa (by rw[hw.1];decide)
 | .l2 n a b,o,r,hw,h,x,hx=>by
  unfold XT.wf at hw;unfold XT.post at hx;unfold fJ at h;cases ha:fJ sg a o with
  |inl e=>rw[ha]at h;cases h|inr ta=>
   rw[ha]at h;simp only at h;cases hb:fJ sg b (o+a.size)with
   |inl e=>rw[hb]at h;cases h|inr tb=>
    rcases D8.1 hx with hx|hx
    ·rcases D8.1 hx with hx|hx
     ·exact JS a o hw.2.1 ha x hx
     ·exact JS b _ hw.2.2 hb x hx
    ·rw[U3.1 hx];exact Xa (by rw[hw.1];decide)
 | .l3 n a b c,o,r,hw,h,x,hx=>by
  unfold XT.wf at hw;unfold XT.post at hx;unfold fJ at h;cases ha:fJ sg a o with
  |inl e=>rw[ha]at h;cases h|inr ta=>
   rw[ha]at h;simp only at h;cases hb:fJ sg b (o+a.size)with
   |inl e=>rw[hb]at h;cases h|inr tb=>
    rw[hb]at h;simp only at h;cases hc:fJ sg c (o+a.size+b.size)with
    |inl e=>rw[hc]at h;cases h|inr tc=>
     rcases D8.1 hx with hx|hx
     ·rcases D8.1 hx with hx|hx
      ·rcases D8.1 hx with hx|hx
       ·exact JS a o hw.2.1 ha x hx
       ·exact JS b _ hw.2.2.1 hb x hx
      ·exact JS c _ hw.2.2.2 hc x hx
     ·rw[U3.1 hx];exact Xa (by rw[hw.1];decide)
theorem Jz{sg:I5}{n:Int×Int}{ops:List (Int×Int)}{i:Nat}{x:Int×Int}(h:Dx sg n ops i= .inl x):x.2≠0:=by
 unfold Dx at h;split at h
 ·cases h
 ·rename_i h0;cases h;exact h0
theorem AC{sg:I5} :∀(t:XT) (o:Nat) {x:Int×Int},fJ sg t o= .inl x->x.2≠0
 | .l0 n,o,x,h=>Jz h| .l1 n a,o,x,h=>by
  unfold fJ at h;cases ha:fJ sg a o with
  |inl e=>rw[ha]at h;cases h;exact AC a o ha|inr ta=>rw[ha]at h;exact Jz h
 | .l2 n a b,o,x,h=>by
  unfold fJ at h;cases ha:fJ sg a o with
  |inl e=>rw[ha]at h;cases h;exact AC a o ha|inr ta=>
   rw[ha]at h;simp only at h;cases hb:fJ sg b (o+a.size)with
   |inl e=>rw[hb]at h;cases h;exact AC b _ hb|inr tb=>rw[hb]at h;exact Jz h
 | .l3 n a b c,o,x,h=>by
  unfold fJ at h;cases ha:fJ sg a o with
  |inl e=>rw[ha]at h;cases h;exact AC a o ha|inr ta=>
   rw[ha]at h;simp only at h;cases hb:fJ sg b (o+a.size)with
   |inl e=>rw[hb]at h;cases h;exact AC b _ hb|inr tb=>
    rw[hb]at h;simp only at h;cases hc:fJ sg c (o+a.size+b.size)with
    |inl e=>rw[hc]at h;cases h;exact AC c _ hc|inr tc=>rw[hc]at h;exact Jz h
theorem f_{e:List (Int×Int)}{sg:I5}(h:(nG e sg).2.2=0):∀n∈e,Vh sg n:=by
 unfold nG at h;cases hs:mM e with
 |inl x=>rw[hs]at h;exact absurd h (DJ hs)|inr t=>
  rw[hs]at h;simp only at h;cases ht:fJ sg t 0 with
  |inl x=>rw[ht]at h;exact absurd h (AC t 0 ht)|inr r=>intro n hn;rw[(DK hs).1]at hn;exact JS t 0 (Np hs) ht n hn
theorem Tm{e:List (Int×Int)}{sg:I5}{t:Int×Int}(h:Eh e sg t=0):nG e sg=(t,(nG e sg).2.1,0):=by
 unfold Eh at h;cases h1:x8 (nG e sg).2.2 0<;>rw[h1]at h
 ·simp only[o6]at h;rw[O8 h]at h1;cases h1
 cases h2:x8 (nG e sg).1.1 t.1<;>rw[h2]at h
 ·exact absurd (show(8:Int)=0 from h) D7
 cases h3:x8 (nG e sg).1.2 t.2<;>rw[h3]at h
 ·exact absurd (show(8:Int)=0 from h) D7
 rw[V6]at h1 h2 h3;exact aZ (aZ h2 h3) (aZ rfl h1)
theorem XW{l:V8}(h:(eG l).1=0){i:Nat}{s:D9}(hs:l.2.2[i]? =some s){k:Nat}{r:gy}(hr:s.2.2.2.2[k]? =some r):Gl s (BL l s) k r=0:=by
 have hp:=(Je h hs).2;unfold Lt at hp;cases h1:yg l s with
 |some q=>rw[h1]at hp;exact absurd hp (Du h1)|none=>
  rw[h1]at hp;simp only at hp;cases h2:Z8 s.2.2.2.2.length (Ja l s)with
  |some q=>
   rw[h2]at hp;obtain⟨j,hj,hq⟩:=bW h2;unfold Ja at hq;cases h3:s.2.2.2.2[j]? with
   |none=>rw[h3]at hq;cases hq|some q2=>rw[h3]at hq;exact absurd hp (IE hq)
  |none=>
   have hn:=qi h2 k (Y6.1 hr).1;unfold Ja at hn;rw[hr]at hn;simp only at hn;unfold Pv at hn;cases he:x8 (Gl s (BL l s) k r) 0<;>rw[he]at hn
   ·cases hn
   ·exact V6.1 he
theorem XF{s:D9}{sg:I5}{k:Nat}{r:gy}(h:Gl s sg k r=0):∃d,G9 s.2.2.2.1 r.2.1=some d/\Ru r sg d.2=0:=by
 unfold Gl at h;cases g1:wP r.1<;>rw[g1]at h
 ·exact absurd (show(2:Int)=0 from h) D7
 cases g2:(s.2.2.2.2.take k).any λx=>seq x.1 r.1<;>rw[g2]at h
 case true=>exact absurd (show(7:Int)=0 from h) D7
 cases g3:G9 s.2.2.2.1 r.2.1 with
 |none=>rw[g3]at h;exact absurd (show(6:Int)=0 from h) D7|some d=>
  rw[g3]at h;refine⟨d,rfl,?_⟩;simp only[o7,o6]at h;revert h;generalize l9 (x8 r.2.2.1 (-1)) false (l9 (E8 r.2.2.1 0) true (l9 (L9 k r.2.2.1) true (match G9 s.2.2.2.2 r.2.2.1 with|some q=>F6 (x8 q.2.1 r.2.1)|none=>true)))=b1;generalize E8 r.2.2.2.1 0=b2;generalize E8 9 r.2.2.2.1=b3;generalize En r.2.2.2.2.1=b4;generalize x8 r.2.2.2.2.1.1 r.2.2.2.2.1.2=b5;generalize L9 8 (Ph (s.2.2.2.2.take k) r.2.1)=b6;generalize Yy r.2.2.2.2.2.2.2=b7;intro h;cases b1
  case true=>exact absurd (show(9:Int)=0 from h) D7
  cases b2
  case true=>exact absurd (show(3:Int)=0 from h) D7
  cases b3
  case true=>exact absurd (show(3:Int)=0 from h) D7
  cases b4
  case false=>exact absurd (show(3:Int)=0 from h) D7
  cases b5
  case true=>exact absurd (show(3:Int)=0 from h) D7
  cases b6
  case true=>exact absurd (show(4:Int)=0 from h) D7
  cases b7
  case false=>exact absurd (show(2:Int)=0 from h) D7
  exact h
theorem MB{l:V8}(h:(eG l).1=0){i:Nat}{s:D9}(hs:l.2.2[i]? =some s){r:gy}(hr:r∈s.2.2.2.2):
  (r.2.2.2.2.2.1=[]\/Eh r.2.2.2.2.2.1 (BL l s) (1,0)=0)/\∃d,G9 s.2.2.2.1 r.2.1=some d/\Eh r.2.2.2.2.2.2.1 (BL l s) d.2=0:=by
 obtain⟨k,hk,e⟩:=J7 hr;obtain⟨d,h1,h2⟩:=XF (XW h hs (r:=r) (k:=k) (by rw[dX hk,e]));unfold Ru at h2;cases h3:E8 0 (o9 r.2.2.2.2.2.1)<;>rw[h3]at h2
 ·refine⟨.inl ?_,d,h1,h2⟩;rw[jv]at h3;exact O9.1 (by simp only[o9]at h3;omega)
 ·simp only[o7]at h2;cases h4:x8 (Eh r.2.2.2.2.2.1 (BL l s) (1,0)) 0<;>rw[h4]at h2
  ·simp only[o6]at h2;rw[O8 h2]at h4;cases h4
  ·exact⟨.inr (V6.1 h4),d,h1,h2⟩
theorem a2L(l:V8)(s:D9):(BL l s).2.2.2.1=s.2.2.2.1.map (·.2):=by unfold BL;split<;>rfl
theorem a6E{l:V8}{s:D9}(h:(BL l s).2.2.2.2.2=true):(BL l s).2.2.2.2.1=(ax l s).2.2.2.1.map (·.2):=by
 unfold BL at h ⊢;unfold ax G9
 by_cases g:0<=s.2.1
 ·rw[if_pos g]at h ⊢;rw[V5 g];cases hq:l.2.2[s.2.1.toNat]? with
  |none=>rw[hq]at h;cases h|some q=>rfl
 ·rw[if_neg g]at h;cases h
theorem a8d{l:V8}(h:(eG l).1=0){i:Nat}{s:D9}(hs:l.2.2[i]? =some s){r:gy}(hr:r∈s.2.2.2.2){e:List (Int×Int)}(he:e=r.2.2.2.2.2.1\/e=r.2.2.2.2.2.2.1):
  (∀x∈(uH e).2.1,0<=x/\x<nD s)/\∀x∈(uH e).2.2,0<=x/\x<nD (ax l s):=by
 obtain⟨h1,d,h2,h3⟩:=MB h hs hr;have hn:∀n∈e,Vh (BL l s) n:=by
  rcases he with rfl|rfl
  ·rcases h1 with h1|h1
   ·rw[h1];simp
   ·exact f_ (by rw[Tm h1])
  ·exact f_ (by rw[Tm h3])
 constructor
 ·intro x hx;have hx:=(Dw x _).1 (show x∈KG (Qc (λo=>x8 o 8) e)from hx);obtain⟨n,hn1,rfl⟩:=ah.1 hx;obtain⟨hn2,hn3⟩:=aQ.1 hn1;have:=(hn n hn2).1 hn3;rw[a2L]at this;simpa[o9,nD]using this
 ·intro x hx;have hx:=(Dw x _).1 (show x∈KG (Qc isM e)from hx);obtain⟨n,hn1,rfl⟩:=ah.1 hx;obtain⟨hn2,hn3⟩:=aQ.1 hn1;have:=(hn n hn2).2 hn3;rw[a6E this.2.2]at this;refine⟨this.1,?_⟩;have h2:=this.2.1;simpa[o9,nD]using h2
abbrev BB:Type:=List Bool×List Bool
def BOk(s m:D9)(b:BB):Prop:=b.1.length=s.2.2.2.1.length/\b.2.length=m.2.2.2.1.length
theorem a1g(s:D9)(env:aT)(m d:Int):((Y3 s env m d).2.1=0/\Y3 s env m d=((Y3 s env m d).1,0,0,0,0))\/((Y3 s env m d).2.1≠0/\Y3 s env m d=(0,(Y3 s env m d).2)):=by
 unfold Y3;cases hf:aY (Ep s env m d) (dE s d env.1).1 []with
 |inr e=>
  right;have:=qK (Ep s env m d) (λr=>r.1=0/\r.2.1≠0) (λb i r h=>?_) _ _ _ hf
  ·exact⟨this.2,aZ this.1 rfl⟩
  ·refine⟨?_,PE b i r h⟩;unfold Ep at h;split at h
   ·cases h
   ·rename_i q _;cases h1:x8 (o9 q.2.2.2.2.2.1) 0<;>rw[h1]at h
    case true=>cases h
    cases h2:x8 (vT q.2.2.2.2.2.1 env).2 0<;>rw[h2]at h<;>cases h;rfl
 |inl ap=>left;simp only;cases E8 (Ip (dE s d env.1).2.1 (dE s d env.1).2.2 ap) 0<;>exact⟨rfl,rfl⟩
structure Sim (P Q:Int->Prop) (a b:aT):Prop where
 e1:a.1=b.1
 e2:a.2.1=b.2.1
 e3:a.2.2.2.2=b.2.2.2.2
 dl:a.2.2.1.length=b.2.2.1.length
 d:∀x,P x->G9 a.2.2.1 x=G9 b.2.2.1 x
 ml:a.2.2.2.1.length=b.2.2.2.1.length
 m:∀x,Q x->a.2.2.2.1.map (λv=>G9 v x)=b.2.2.2.1.map (λv=>G9 v x)
def a0Q(P Q:Int->Prop)(n:Int×Int):Prop:=(n.1=8->P n.2)/\(isM n.1=true->Q n.2)
theorem L_{α β:Type}{a:List α}{b:List β}(h:a.length=b.length):o9 a=o9 b:=congrArg (λ(n:Nat)=>(n:Int)) h
theorem a7i{P Q:Int->Prop}{n:Int×Int}{a b:aT}(h:Sim P Q a b)(hn:a0Q P Q n):c6A n a=c6A n b:=by
 obtain⟨d,i,D,M,T,B⟩:=a;obtain⟨d',i',D',M',T',B'⟩:=b;obtain⟨e1,e2,e3,dl,hd,ml,hm⟩:=h;cases e1;cases e2;cases e3;have hD:=L_ dl;unfold c6A;simp only at hD hd ⊢;rw[hD];cases hk:x8 n.1 8
 ·rfl
 ·rw[hd _ (hn.1 (V6.1 hk))]
theorem a1S{P Q:Int->Prop}{n:Int×Int}{a b:aT}(h:Sim P Q a b)(hn:a0Q P Q n):c6e n a=c6e n b:=by
 obtain⟨d,i,D,M,T,B⟩:=a;obtain⟨d',i',D',M',T',B'⟩:=b;obtain⟨e1,e2,e3,dl,hd,ml,hm⟩:=h;cases e1;cases e2;cases e3;have hM:=L_ ml;unfold c6e;simp only at hM hd ⊢;rw[hM];cases hk:x8 n.1 8
 ·rfl
 ·rw[hd _ (hn.1 (V6.1 hk))]
theorem We{α γ β ρ:Type}(f:α->γ)(g:β->γ->β⊕ρ):∀(l:List α) (b:β),aY (λb a=>g b (f a)) l b=aY g (l.map f) b
 |[],b=>rfl|a::l,b=>by
  rw[jC];unfold aY;cases g b (f a)with
  |inl b' =>exact We f g l b'|inr r=>rfl
def b9A(k:Int)(t:Int×Int)(b:Int×Bool)(o:Option V3):(Int×Bool)⊕(V3×Int):=
 match(match o with|none=>(.inr 6:V3⊕Int)|some x=>l9 (x8 x.1 0) (.inr 6) (l9 (PG x t) (.inl x) (.inr 8)))with
 | .inr c=> .inr ((0,0,0),c)| .inl x=>l9 (plB (t.1,0,FC k b.1 x.2.2 b.2)) (.inl (FC k b.1 x.2.2 b.2,false)) (.inr ((0,0,0),3))
theorem a6c(k N:Int)(t:Int×Int)(ms:List (List V3))(b:Int×Bool):aY (xF k N t) ms b=aY (b9A k t) (ms.map λv=>G9 v N) b:=We (λv=>G9 v N) (b9A k t) ms b
theorem a2a{P Q:Int->Prop}{n:Int×Int}{a b:aT}(h:Sim P Q a b)(hn:Q n.2)(ha:EvOk a)(hb:EvOk b):c6m n a=c6m n b:=by
 obtain⟨k,N⟩:=n;have h3:a.2.2.2.2.1=b.2.2.2.2.1:=by rw[h.e3]
 cases hl:G9 a.2.2.2.2.1 N with
 |none=>
  have hl2:G9 b.2.2.2.2.1 N=none:=by rw[←h3];exact hl
  unfold c6m;simp only;rw[hl,hl2];rfl
 |some t=>
  have hl2:G9 b.2.2.2.2.1 N=some t:=by rw[←h3];exact hl
  have h0:=(dh hl).1;rw[Hg k N a t hl h0 ha.ms,Hg k N b t hl2 h0 hb.ms];unfold Zz;rw[a6c,a6c,h.m N hn,L_ h.ml]
theorem a4T{P Q:Int->Prop}{a b:aT}(h:Sim P Q a b)(n:Int×Int)(x:V3):c6i n x a=c6i n x b:=by obtain⟨d,i,D,M,T,B⟩:=a;obtain⟨d',i',D',M',T',B'⟩:=b;obtain⟨e1,e2,e3,dl,hd,ml,hm⟩:=h;cases e1;cases e2;cases e3;rfl
theorem QW{P Q:Int->Prop}{n:Int×Int}{a b:aT}(h:Sim P Q a b)(hn:a0Q P Q n)(ha:EvOk a)(hb:EvOk b)(args:List V3):wO n args a=wO n args b:=by
 unfold wO c6s;simp only[a7i h hn,a1S h hn,a4T h];cases h1:L9 36 n.1
 ·rfl
 cases h2:L9 n.1 39
 ·rfl
 rw[a2a h (hn.2 (by unfold isM;rw[h1];exact h2)) ha hb]
theorem Jp{P Q:Int->Prop}{a b:aT}(h:Sim P Q a b)(ha:EvOk a)(hb:EvOk b):∀(t:XT),(∀n∈t.post,a0Q P Q n)->evT a t=evT b t
 | .l0 n,hn=>QW h (hn n (by simp[XT.post])) ha hb []| .l1 n x,hn=>by unfold evT;rw[Jp h ha hb x (λm hm=>hn m (by simp[XT.post,hm])),QW h (hn n (by simp[XT.post])) ha hb]| .l2 n x y,hn=>by unfold evT;rw[Jp h ha hb x (λm hm=>hn m (by simp[XT.post,hm])),Jp h ha hb y (λm hm=>hn m (by simp[XT.post,hm])),QW h (hn n (by simp[XT.post])) ha hb]| .l3 n x y z,hn=>by unfold evT;rw[Jp h ha hb x (λm hm=>hn m (by simp[XT.post,hm])),Jp h ha hb y (λm hm=>hn m (by simp[XT.post,hm])),Jp h ha hb z (λm hm=>hn m (by simp[XT.post,hm]))]
theorem a7W{P Q:Int->Prop}{e:List (Int×Int)}(h1:∀x∈(uH e).2.1,P x)(h2:∀x∈(uH e).2.2,Q x):∀n∈e,a0Q P Q n:=λn hn=>by
 refine⟨λhk=>h1 _ ?_,λhk=>h2 _ ?_⟩
 ·exact(Dw _ _).2 (ah.2 ⟨n,aQ.2 ⟨hn,by simp[hk,x8]⟩,rfl⟩)
 ·exact(Dw _ _).2 (ah.2 ⟨n,aQ.2 ⟨hn,hk⟩,rfl⟩)
theorem YX{P Q:Int->Prop}{a b:aT}(h:Sim P Q a b)(ha:EvOk a)(hb:EvOk b){e:List (Int×Int)}(h1:∀x∈(uH e).2.1,P x)(h2:∀x∈(uH e).2.2,Q x):vT e a=vT e b:=by
 unfold vT;cases hs:mM e with
 |inl x=>rfl|inr t=>simp only;exact Jp h ha hb t (λn hn=>a7W h1 h2 n (by rw[(DK hs).1];exact hn))
def a3q(s:D9)(P Q:Int->Prop)(d:Int):Prop:=∀r∈s.2.2.2.2,r.2.1=d->∀e,e=r.2.2.2.2.2.1\/e=r.2.2.2.2.2.2.1->(∀x∈(uH e).2.1,P x)/\∀x∈(uH e).2.2,Q x
theorem Nq{s:D9}{d t i:Int}(h:i∈(dE s d t).1):∃r,G9 s.2.2.2.2 i=some r/\r∈s.2.2.2.2/\r.2.1=d:=by
 have h:i∈castL (xQ s d t):=h;obtain⟨k,hk,rfl⟩:=ah.1 h;obtain⟨h1,h2⟩:=SN hk;obtain⟨r,hr,hm⟩:=jZ (l:=s.2.2.2.2) (i:=(k:Int)) l7 (by unfold o9;omega);refine⟨r,hr,hm,?_⟩;unfold onR at h2;rw[G7]at hr;rw[hr]at h2;simp only at h2;cases h3:x8 r.2.1 d<;>rw[h3]at h2
 ·cases h2
 ·exact V6.1 h3
theorem TA{α β ρ:Type}{G H:β->α->β⊕ρ} :∀(l:List α) (b:β),(∀a∈l,∀b,G b a=H b a)->aY G l b=aY H l b
 |[],b,h=>rfl|a::l,b,h=>by
  unfold aY;rw[h a A7];cases H b a with
  |inl b' =>exact TA l b' (λx hx=>h x (by simp[hx]))|inr r=>rfl
theorem a1i{s:D9}{P Q:Int->Prop}{a b:aT}(h:Sim P Q a b)(ha:EvOk a)(hb:EvOk b){d:Int}(hr:∀i∈(dE s d b.1).1,∀r,G9 s.2.2.2.2 i=some r->(∀x∈(uH r.2.2.2.2.2.1).2.1,P x)/\∀x∈(uH r.2.2.2.2.2.1).2.2,Q x)(m:Int):Y3 s a m d=Y3 s b m d:=by unfold Y3;rw[h.e1,TA (G:=Ep s a m d) (H:=Ep s b m d) (dE s d b.1).1 [] (λi hi ap=>?_)];obtain⟨r,h1,h2,h3⟩:=Nq hi;obtain⟨p1,p2⟩:=hr i hi r h1;unfold Ep;rw[h1];simp only;rw[YX h ha hb p1 p2]
theorem a3F{s:D9}{P Q:Int->Prop}{a b:aT}(h:Sim P Q a b)(ha:EvOk a)(hb:EvOk b){d:Int}(hr:a3q s P Q d)(m:Int):Y3 s a m d=Y3 s b m d:=
 a1i h ha hb (λi hi r hl=>by obtain⟨q,h1,h2,h3⟩:=Nq hi;rw[h1]at hl;cases hl;exact hr r h2 h3 _ (.inl rfl)) m
theorem YU{s:D9}{env:aT}{m d:Int}(h0:(Y3 s env m d).2.1=0)(h1:(Y3 s env m d).1≠-1)(h2:(Y3 s env m d).1≠-2):(Y3 s env m d).1∈(dE s d env.1).1:=by
 unfold Y3 at h0 h1 h2 ⊢;cases hf:aY (Ep s env m d) (dE s d env.1).1 []with
 |inr e=>rw[hf]at h0;exact absurd h0 (qK (Ep s env m d) (λr=>r.2.1≠0) (λb i r h=>PE b i r h) _ _ _ hf)|inl ap=>
  rw[hf]at h1 h2;simp only at h1 h2 ⊢;have hb:=a0u (dE s d env.1).2.1 (dE s d env.1).2.2 ap;have hlo:=a6D (dE s d env.1).2.1 (dE s d env.1).2.2 ap;have hl:=(QK s d env.1).2;generalize Ip (dE s d env.1).2.1 (dE s d env.1).2.2 ap=q at h1 h2 hb hlo ⊢;by_cases g:q<0
  ·rw[O0 g]at h1 h2;simp only[o7]at h1 h2;omega
  rw[J6 (gW.1 g)];have hi:q.toNat<(dE s d env.1).1.length:=l7;simp only[o6,AO,dX hi,ai];exact H7 hi
theorem a9j{s:D9}{P Q:Int->Prop}{a b:aT}(h:Sim P Q a b)(ha:EvOk a)(hb:EvOk b){d:Int}(hr:a3q s P Q d)(m:Int):Ej s a m d=Ej s b m d:=by
 unfold Ej;rw[a3F h ha hb hr m];cases h0:x8 (Y3 s b m d).2.1 0
 ·simp only[o6]
 cases h1:x8 (Y3 s b m d).1 (-1)
 case true=>simp only[o7]
 cases h2:x8 (Y3 s b m d).1 (-2)
 case true=>simp only[o7,o6]
 have hin:=YU (V6.1 h0) (λe=>by rw[O8 e]at h1;cases h1) (λe=>by rw[O8 e]at h2;cases h2);obtain⟨r,r1,r2,r3⟩:=Nq hin;obtain⟨p1,p2⟩:=hr r r2 r3 _ (.inr rfl);rw[r1];simp only;rw[YX h ha hb p1 p2]
def a0T(s:D9)(O:List Int):Prop:=O.Nodup/\(∀d∈O,0<=d/\d<nD s)/\∀(pre:List Int) (d:Int) (suf:List Int),O=pre++d::suf->∀x∈P7 s d,x∈pre
theorem a5e{O pre suf:List Int}{d e:Int}(h:O++[e]=pre++d::suf):(suf=[]/\pre=O/\d=e)\/∃suf',suf=suf' ++[e]/\O=pre++d::suf' :=by
 rcases List.eq_nil_or_concat suf with rfl|⟨suf',z,rfl⟩
 ·have h:O++[e]=pre++[d]:=h;obtain⟨h1,h2⟩:=List.append_inj' h rfl;cases h2;exact .inl ⟨rfl,h1.symm,rfl⟩
 ·rw[List.concat_eq_append,←S9,←E9]at h;obtain⟨h1,h2⟩:=List.append_inj' h rfl;cases h2;exact .inr ⟨suf',A7,h1⟩
theorem a8o{s:D9}{O:List Int}{d:Nat}(h:a0T s O)(hd:d<s.2.2.2.1.length)(ho:okN s O d=true):a0T s (O++[(d:Int)]):=by
 obtain⟨h1,h2⟩:=a4o.1 ho;refine⟨?_,λx hx=>?_,λpre e suf he x hx=>?_⟩
 ·exact N8.2 ⟨h.1,A7,λa ha b hb hab=>by simp at hb;subst hb;exact h1 (hab▸ha)⟩
 ·rcases D8.1 hx with hx|hx
  ·exact h.2.1 x hx
  ·simp at hx;subst hx;unfold nD o9;omega
 ·rcases a5e he with⟨_,rfl,rfl⟩|⟨suf',_,e2⟩
  ·cases hq:KD pre x
   ·have:x∈PN s pre (d:Int):=aQ.2 ⟨hx,by simp[hq]⟩;rw[h2]at this;cases this
   ·exact FD.1 hq
  ·exact h.2.2 pre e suf' e2 x hx
theorem b3m{s:D9}{d x:Int}(hx:x∈P7 s d)(hn:x∉pq s x):(pq s x).length<(pq s d).length:=by
 obtain⟨a1,a2,a3,a4⟩:=Fb s d;obtain⟨b1,b2,b3,b4⟩:=Fb s x;have hxd:=a2 x hx;rcases QI b1 a1 (λy hy=>b4 (λz=>z∈pq s d) (a3 x hxd) (λz hz=>a3 z hz) y hy)with h|h
 ·rw[←h]at hxd;exact absurd hxd hn
 ·exact h
theorem b1r{s:D9}(hac:∀d,0<=d->d<nD s->d∉pq s d)(O:List Int):∀(n:Nat) (d:Int),0<=d->d<nD s->d∉O->(pq s d).length<=n->∃e,0<=e/\e<nD s/\e∉O/\∀x∈P7 s e,x∈O:=by
 intro n;induction n with
 |zero=>intro d h0 h1 h2 hl;refine⟨d,h0,h1,h2,λx hx=>?_⟩;have:=(Fb s d).2.1 x hx;rw[O9.1 (Nat.le_zero.1 hl)]at this;cases this|succ n ih=>
  intro d h0 h1 h2 hl;by_cases hq:∀x∈P7 s d,x∈O
  ·exact⟨d,h0,h1,h2,hq⟩
  ·obtain⟨x,hx⟩:=Classical.not_forall.1 hq;obtain⟨hx,hxO⟩:=Classical.not_imp.1 hx;obtain⟨q0,q1⟩:=xY hx;have:=b3m hx (hac x q0 q1);exact ih x q0 q1 hxO l7
theorem b6D{s:D9}{O:List Int}(hl:O.length<s.2.2.2.1.length):∃d:Int,0<=d/\d<nD s/\d∉O:=by
 refine Y0 λhq=>?_;have h1:∀x∈castL (List.range s.2.2.2.1.length),x∈KG O:=λx hx=>by obtain⟨j,hj,rfl⟩:=ah.1 hx;have:=ay.1 hj;exact(Dw _ _).2 (Y0 λhn=>hq ⟨(j:Int),l7,by unfold nD o9;omega,hn⟩)
 have h2:=TK O;have h3:(castL (List.range s.2.2.2.1.length)).length=s.2.2.2.1.length:=by rw[IA,gm]
 rcases QI (Vy qo) (a0x O) h1 with h|h
 ·rw[←h]at h2;omega
 ·omega
theorem ZI{s:D9}(hac:∀d,0<=d->d<nD s->d∉pq s d):∀(k:Nat) (O:List Int),a0T s O->O.length<=s.2.2.2.1.length->s.2.2.2.1.length -O.length<=k->∃O',Xf s k O= .inl O' /\a0T s O' /\O'.length=s.2.2.2.1.length
 |0,O,h,hl,hk=>⟨O,rfl,h,l7⟩|k+1,O,h,hl,hk=>by
  unfold Xf;by_cases hq:O.length<s.2.2.2.1.length
  ·rw[if_pos hq];cases hn:NM s O with
   |none=>
    obtain⟨d,d0,d1,d2⟩:=b6D hq;obtain⟨e,e0,e1,e2,e3⟩:=b1r hac O _ d d0 d1 d2 (F9 _);have hlt:e.toNat<s.2.2.2.1.length:=by unfold nD o9 at e1;omega
    have:=qi hn e.toNat hlt;have hok:okN s O e.toNat=true:=a4o.2 (by rw[X0 e0];refine⟨e2,lV.2 λx hx=>by simp[FD.2 (e3 x hx)]⟩)
    unfold TS at this;rw[hok]at this;cases this
   |some d=>obtain⟨n1,n2⟩:=WY hn;exact ZI hac k (O++[(d:Int)]) (a8o h n1 n2) U6 U6
  ·rw[if_neg hq];exact⟨O,rfl,h,l7⟩
theorem a4v{s:D9}(hs:SmS s)(hac:∀d,0<=d->d<nD s->d∉pq s d):a0T s (vF s).1/\∀d,0<=d->d<nD s->d∈(vF s).1:=by
 have hnd:=hs.nd;obtain⟨O,h1,h2,h3⟩:=ZI hac 100 [] ⟨A7,A7,λpre d suf h=>by simp at h⟩ A7 U6;have e:(vF s).1=O:=by unfold vF;rw[h1]
 rw[e];refine⟨h2,λd d0 d1=>?_⟩;refine Y0 λhn=>?_;have:=RX (l:=d::O) (n:=s.2.2.2.1.length) (gp.2 ⟨hn,h2.1⟩) (λx hx=>by
  rcases A8.1 hx with rfl|hx
  ·exact⟨d0,d1⟩
  ·exact h2.2.1 x hx)
 simp at this;omega
theorem a5q{l:V8}(h:(eG l).1=0){i:Nat}{s:D9}(hs:l.2.2[i]? =some s):∀d,0<=d->d<nD s->d∉pq s d:=by
 intro d d0 d1 hd;have hp:=(Je h hs).2;unfold Lt at hp;cases h1:yg l s with
 |some q=>rw[h1]at hp;exact absurd hp (Du h1)|none=>
  rw[h1]at hp;simp only at hp;cases h2:Z8 s.2.2.2.2.length (Ja l s)with
  |some q=>
   rw[h2]at hp;obtain⟨j,hj,hq⟩:=bW h2;unfold Ja at hq;cases h3:s.2.2.2.2[j]? with
   |none=>rw[h3]at hq;cases hq|some q2=>rw[h3]at hq;exact absurd hp (IE hq)
  |none=>
   rw[h2]at hp;simp only at hp;have key:UA s d.toNat=some (9,((200+d.toNat:Nat):Int)):=by unfold UA;rw[show((pq s d.toNat).any λx=>x8 (d.toNat:Int) x)=true from ?_];rfl;rw[X0 d0];exact kN.2 ⟨d,hd,O8 rfl⟩
   cases h3:Z8 s.2.2.2.1.length (UA s)with
   |none=>have:=qi h3 d.toNat (by unfold nD o9 at d1;omega);rw[key]at this;cases this|some q=>
    rw[h3]at hp;obtain⟨j,hj,hq⟩:=bW h3;unfold UA at hq;cases h4:(pq s (j:Int)).any λx=>x8 (j:Int) x<;>rw[h4]at hq
    ·cases hq
    ·cases hq;exact absurd (show(9:Int)=0 from hp) D7
theorem Zd{α β ρ:Type}(G:β->α->β⊕ρ):∀(l m:List α) (b:β),aY G (l++m) b=match aY G l b with| .inl b' =>aY G m b'| .inr r=> .inr r
 |[],m,b=>rfl|a::l,m,b=>by
  rw[S9];simp only[aY];cases G b a with
  |inl b' =>exact Zd G l m b'|inr r=>rfl
theorem Jv{α:Type}{l:List α}{d x:Int}(v:α)(h0:0<=d)(h:x≠d):G9 (l.set d.toNat v) x=G9 l x:=by
 unfold G9
 split
 ·rw[List.getElem?_set_ne l7]
 ·rfl
theorem Wy{α:Type}{l:List α}{d:Int}(v:α)(h0:0<=d)(h:d<o9 l):G9 (l.set d.toNat v) d=some v:=by
 unfold G9
 rw[if_pos h0,ql (by unfold o9 at h;omega)]
theorem XH{s:D9}{env:aT}{m:Int}{need:List Bool}{x:Int} :∀(L:List Int) {B X:DB},(∀d∈L,0<=d)->x∉L->aY (scG s env m need) L B= .inl X->G9 X.1 x=G9 B.1 x/\G9 X.2 x=G9 B.2 x
 |[],B,X,_,_,h=>by cases h;exact⟨rfl,rfl⟩|d::L,B,X,hL,hx,h=>by
  unfold aY at h;cases hg:scG s env m need B d with
  |inr e=>rw[hg]at h;cases h|inl B' =>
   rw[hg]at h;obtain⟨k1,k2⟩:=XH L (λy hy=>hL y (by simp[hy])) (λhm:x∈L=>hx (U4 _ hm)) h;have hd:x≠d:=λe=>hx (by simp[e]);unfold scG at hg;cases h1:(G9 need d).getD false<;>rw[h1]at hg
   ·cases hg;exact⟨k1,k2⟩
   simp only[o7]at hg;cases h2:Ej s (AY env B.1) m d with
   |inr e=>rw[h2]at hg;cases hg|inl v=>rw[h2]at hg;cases hg;rw[k1,k2,Jv _ (hL d A7) hd,Jv _ (hL d A7) hd];exact⟨rfl,rfl⟩
theorem b4K{s:D9}{env:aT}{m:Int}{need:List Bool}{n:Nat}(L:List Int){B X:DB}(hB:B.1.length=n/\B.2.length=n)(h:aY (scG s env m need) L B= .inl X):X.1.length=n/\X.2.length=n:=by
 refine Rz (scG s env m need) (λx=>x.1.length=n/\x.2.length=n) (λb d b' hb hg=>?_) _ _ _ hB h;unfold scG at hg;cases h1:(G9 need d).getD false<;>rw[h1]at hg
 ·cases hg;exact hb
 simp only[o7]at hg;cases hd:Ej s (AY env b.1) m d with
 |inr e=>rw[hd]at hg;cases hg|inl v=>rw[hd]at hg;cases hg;simp[hb]
theorem a3L{l:V8}(h:(eG l).1=0){i:Nat}{s:D9}(hs:l.2.2[i]? =some s)(d:Int):a3q s (λx=>x∈P7 s d) (λx=>0<=x/\x<nD (ax l s)) d:=by
 intro r hr hd e he;obtain⟨p1,p2⟩:=a8d h hs hr he;refine⟨λx hx=>?_,p2⟩;obtain⟨q,hq,_⟩:=(MB h hs hr).2;obtain⟨q0,q1,_⟩:=dh hq;have hin:inD (nD s) d=true:=by rw[←hd];unfold inD;rw[V5 q0];exact O0 q1
 unfold P7;rw[hin];refine(Dw _ _).2 (a9W.2 ⟨r,hr,hd,?_⟩);obtain⟨x0,x1⟩:=p1 x hx;have hxi:inD (nD s) x=true:=by unfold inD;rw[V5 x0];exact O0 x1
 unfold Dz;rcases he with rfl|rfl
 ·exact D8.2 (.inl (aQ.2 ⟨hx,hxi⟩))
 ·exact D8.2 (.inr (aQ.2 ⟨hx,hxi⟩))
theorem a7t(l:V8)(s:D9)(h:(ax l s).2.1=-1):ax l (ax l s)=yx:=by unfold ax at h ⊢;rw[h];rfl
theorem b6m{s:D9}{env:aT}{m:Int}{need:List Bool}{X:DB}{Q:Int->Prop}(hE:EvOk env)(ht:a0T s (vF s).1)(hX:scS s env m need= .inl X){d:Int}(hd:d∈(vF s).1)(hn:(G9 need d).getD false=true)(hr:a3q s (λx=>x∈P7 s d) Q d):
  ∃v r,G9 X.1 d=some v/\G9 X.2 d=some r/\Ej s (AY env X.1) m d= .inl (v,r):=by
 obtain⟨pre,suf,he⟩:=List.append_of_mem hd;have hlen:=a6C hX;unfold scS at hX;rw[he,Zd]at hX;cases hB:aY (scG s env m need) pre (List.replicate s.2.2.2.1.length (0,0,0),List.replicate s.2.2.2.1.length 0)with
 |inr r=>rw[hB]at hX;cases hX|inl B=>
  rw[hB]at hX;simp only at hX;have hBl:=b4K (n:=s.2.2.2.1.length) pre A7 hB;unfold aY at hX;cases hg:scG s env m need B d with
  |inr r=>rw[hg]at hX;cases hX|inl B' =>
   rw[hg]at hX;simp only at hX;obtain⟨d0,d1⟩:=ht.2.1 d hd;have hnd:=ht.1;rw[he]at hnd;obtain⟨n1,n2,n3⟩:=N8.1 hnd;obtain⟨n4,n5⟩:=gp.1 n2;have hpos:∀y∈suf,0<=y:=λy hy=>(ht.2.1 y (by rw[he];simp[hy])).1;unfold scG at hg;rw[hn]at hg;simp only[o7]at hg;cases hv:Ej s (AY env B.1) m d with
   |inr e=>rw[hv]at hg;cases hg
   |inl v=>rw[hv]at hg;cases hg;obtain⟨k1,k2⟩:=XH (x:=d) suf hpos n4 hX;rw[Wy _ d0 (by unfold nD at d1;unfold o9 at d1 ⊢;omega)]at k1 k2;refine⟨v.1,v.2,k1,k2,?_⟩;rw[←hv];refine a9j (a:=AY env X.1) (b:=AY env B.1) (P:=λx=>x∈P7 s d) (Q:=Q) ⟨rfl,rfl,rfl,by show X.1.length=B.1.length;omega,λx hx=>?_,rfl,λ_ _=>rfl⟩ (Po hE _) (Po hE _) hr m;have hxp:=ht.2.2 pre d suf he x hx;have hxs:x∉suf:=λhy=>n3 x hxp x (by simp[hy]) rfl;have hxd:x≠d:=λhy=>n3 x hxp d A7 hy;have:=(XH (x:=x) suf hpos hxs hX).1;rw[Jv _ d0 hxd]at this;exact this
structure SimE (Q:Int->Prop) (a b:aT):Prop where
 e1:a.1=b.1
 e2:a.2.1=b.2.1
 e3:a.2.2.2.2=b.2.2.2.2
 ml:a.2.2.2.1.length=b.2.2.2.1.length
 m:∀x,Q x->a.2.2.2.1.map (λv=>G9 v x)=b.2.2.2.1.map (λv=>G9 v x)
theorem SimE.at{P Q:Int->Prop}{a b:aT}(h:SimE Q a b){D D' :List V3}(hl:D.length=D'.length)(hd:∀x,P x->G9 D x=G9 D' x):Sim P Q (AY a D) (AY b D'):=⟨h.e1,h.e2,h.e3,hl,hd,h.ml,h.m⟩
abbrev ND(w:List Bool)(x:Int):Prop:=(G9 w x).getD false=true
structure DInv (n:Nat) (need:List Bool) (B B' :DB):Prop where
 l1:B.1.length=n/\B.2.length=n
 l2:B'.1.length=n/\B'.2.length=n
 eq:∀x,ND need x->G9 B.1 x=G9 B'.1 x/\G9 B.2 x=G9 B'.2 x
structure MInv (need:List Bool) (b b' :List DB):Prop where
 l:b.length=b'.length
 eq:∀x,ND need x->b.map (λv=>G9 v.1 x)=b'.map (λv=>G9 v.1 x)
def a8D(s:D9)(w:List Bool):Prop:=∀d,mk w d=true->∀x∈P7 s d,mk w x=true
structure NI (l:V8) (s:D9) (B:BB):Prop where
 ok:BOk s (ax l s) B
 c1:a8D s B.1
 c2:a8D (ax l s) B.2
 hr:∀e,mk B.1 e=true->a3q s (λx=>x∈P7 s e) (λx=>mk B.2 x=true) e
structure Grows (B C:BB):Prop where
 g1:∀x,mk B.1 x=true->mk C.1 x=true
 g2:∀x,mk B.2 x=true->mk C.2 x=true
theorem Grows.refl(B:BB):Grows B B:=⟨λ_ h=>h,λ_ h=>h⟩
theorem Grows.trans{A B C:BB}(h:Grows A B)(k:Grows B C):Grows A C:=⟨λx hx=>k.g1 x (h.g1 x hx),λx hx=>k.g2 x (h.g2 x hx)⟩
theorem a1k{s:D9}{env:aT}{m d:Int}{v:V3}{r:Int}(h:Ej s env m d= .inl (v,r)):Y3 s env m d=(r,0,0,0,0)/\r∈(dE s d env.1).1/\∃q,G9 s.2.2.2.2 r=some q/\vT q.2.2.2.2.2.2.1 env=(v,0):=by
 unfold Ej at h;cases h0:x8 (Y3 s env m d).2.1 0<;>rw[h0]at h
 ·cases h
 cases h1:x8 (Y3 s env m d).1 (-1)<;>rw[h1]at h
 case true=>cases h
 cases h2:x8 (Y3 s env m d).1 (-2)<;>rw[h2]at h
 case true=>cases h
 simp only[o7,o6]at h;cases hl:G9 s.2.2.2.2 (Y3 s env m d).1 with
 |none=>rw[hl]at h;cases h|some q=>
  rw[hl]at h;simp only at h;cases h4:x8 (vT q.2.2.2.2.2.2.1 env).2 0<;>rw[h4]at h
  ·cases h
  cases h;have hin:=YU (V6.1 h0) (λe=>by rw[O8 e]at h1;cases h1) (λe=>by rw[O8 e]at h2;cases h2);refine⟨?_,hin,q,hl,aZ rfl (V6.1 h4)⟩;rcases a1g s env m d with⟨g1,g2⟩|⟨g1,g2⟩
  ·exact g2
  ·exact absurd (V6.1 h0) g1
theorem b3o{n:Nat}{d:Int}(d0:0<=d)(d1:d<(n:Int)):(G9 (nK n) d).getD false=true:=by unfold G9 nK;rw[if_pos d0,iW,if_pos l7];rfl
theorem a6W{l:V8}{k:Int}{s:D9}{c:jU}(h:(Dp l k c false 0).1=0)(hs:G9 l.2.2 k=some s)(hm:s.2.1<0):c.2.2=[]:=by
 unfold Dp at h;cases h0:x8 (eG l).1 0<;>rw[h0]at h
 ·exact absurd (show(1:Int)=0 from h) D7
 rw[hs]at h;simp only[o7,o6]at h;cases h1:x8 (yS l k c).2.2 0<;>rw[h1]at h
 ·simp only[o6]at h;rw[O8 h]at h1;cases h1
 have h1:=V6.1 h1;unfold yS at h1;rw[hs]at h1;simp only at h1;cases g1:E8 c.1 0<;>rw[g1]at h1
 case true=>exact absurd (show(3:Int)=0 from h1) D7
 cases g2:E8 109572 c.1<;>rw[g2]at h1
 case true=>exact absurd (show(3:Int)=0 from h1) D7
 cases g3:x8 (zi l.1 s.2.2.1 c.2.1).2 0<;>rw[g3]at h1
 ·simp only[o6]at h1;rw[O8 h1]at g3;cases g3
 cases g4:E8 (mZ l s).2 (o9 c.2.2)<;>rw[g4]at h1
 case true=>exact absurd (show(4:Int)=0 from h1) D7
 have hz:(mZ l s).2=0:=by unfold mZ;rw[tC (.inl (V9 hm))]
 rw[hz,jv]at g4;exact O9.1 (by unfold o9 at g4;omega)
theorem b9z{l:V8}{c:jU}{ms:D9}{need:List Bool} :∀(L:List (List V3×Nat)) (b X:List DB),aY (mG l c ms need) L b= .inl X->∃Y,X=b++Y/\Y.length=L.length/\∀(i:Nat) (a:List V3×Nat),L[i]? =some a->∃x,Y[i]? =some x/\scS ms (WG l c a.1) (a.2:Int) need= .inl x
 |[],b,X,h=>by cases h;exact⟨[],A7,rfl,λi a ha=>by simp at ha⟩|a::L,b,X,h=>by
  unfold aY at h;cases hg:mG l c ms need b a with
  |inr e=>rw[hg]at h;cases h|inl b1=>
   rw[hg]at h;simp only at h;obtain⟨Y,e1,e2,e3⟩:=b9z L b1 X h;unfold mG at hg;cases hs:scS ms (WG l c a.1) (a.2:Int) need with
   |inr e=>rw[hs]at hg;cases hg|inl x=>
    rw[hs]at hg;cases hg;refine⟨x::Y,by rw[e1];simp,by simp[e2],λi q hq=>?_⟩;cases i with
    |zero=>simp at hq;subst hq;exact⟨x,rfl,hs⟩|succ i=>exact e3 i q (by simpa using hq)
def PVV(en:List bT)(t:Int×Int)(v:V3):Prop:=v.1=t.1/\v.2.1=t.2/\plB v=true/\(v.1=6->inB v.2.2 (bnd t en)=true)
def MKq(en:List bT)(t:Int×Int)(o:Option (V3×Int)):Prop:=∀v,o=some (v,0)->PVV en t v
section
variable {en:List bT} {t:Int×Int}
theorem DZ{z:V3}{c:Int}(h:c≠0):MKq en t (some (z,c)):=λv e=>by cases e;exact absurd rfl h
theorem Jy{k n:Int}(hk:k≠6):MKq en (k,0) (some (Ey (k,0,n))):=λv e=>by
 unfold Ey at e;cases h:plB (k,0,n)<;>rw[h]at e
 ·cases e
 ·cases e;exact⟨rfl,rfl,h,λq=>absurd q hk⟩
theorem PY{k n:Int}(hk:k≠6):MKq en (k,0) (c6f k n):=by rw[MX];exact Jy hk
theorem a6i{k n c:Int}(hk:k≠6):MKq en (k,0) (c6p k n c):=by
 rw[a0J];unfold QQ;cases h:x8 c 0
 ·exact DZ (λq=>by rw[O8 q]at h;cases h)
 ·exact Jy hk
theorem WR{k n c:Int}(hk:k≠6):MKq en (k,0) (some (QQ (k,0,n) c)):=by rw[←a0J];exact a6i hk
theorem P_(b:Bool):MKq en (1,0) (some (b9d b)):=by rw[←a3g];exact Jy D7
theorem PX{α:Type}{o:Option α}{f:α->Option (V3×Int)}(h:∀x,o=some x->MKq en t (f x)):MKq en t (o5 o f):=by
 cases o with
 |none=>intro v e;cases e|some x=>exact h x rfl
theorem ZA{o:Option (V3×Int)}(h:MKq en t o):MKq en t (o5 o λx=>some x):=by rw[dZ];exact h
theorem a9Z{v:V3}(h:PVV en t v):MKq en t (some (v,0)):=λw e=>by cases e;exact h
theorem O_{b:Bool}{x y:Option (V3×Int)}(h1:b=true->MKq en t x)(h2:b=false->MKq en t y):MKq en t (l9 b x y):=by
 cases b
 ·exact h2 rfl
 ·exact h1 rfl
theorem WQ{a b c:Int}(hk:a≠6):MKq en (a,0) (c6r a b c):=by
 unfold c6r
 repeat' first
  |exact DZ D7
  |exact PY hk
  |exact ZA (PY hk)
  |(apply PX;intro x hx)
  |(apply O_<;>intro hx)
end
theorem a3v{k N:Int}{args:List V3}{env:aT}{v:V3}(hE:EvOk env)(hN:bQ N)(hk:k≠23/\k≠24/\k≠26)(ha:arF k=o9 args)(hl:args.length<=3)(h:wO (k,N) args env=(v,0)):RP (k,N) args env=some (v,0)/\args.all plB=true/\c6A (k,N) env=some true:=by
 unfold wO c6s at h;rw[Zh ha]at h;simp only[o8]at h;cases hf:a1A k N<;>rw[hf]at h
 ·exact absurd (congrArg Prod.snd h) (by show(2:Int)≠0;decide)
 simp only[E5,o6]at h;obtain⟨b,hb⟩:=Tz (k,N) env;rw[show c6A (k,N) env=some b from hb]at h ⊢;cases b
 ·exact absurd (congrArg Prod.snd h) (by show(6:Int)≠0;decide)
 simp only[o8,E5,o6]at h;rw[ZO args l7]at h;cases hp:args.all plB<;>rw[hp]at h
 ·exact absurd (congrArg Prod.snd h) (by show(8:Int)≠0;decide)
 obtain⟨r,hr,_⟩:=a8M k N args env hE (by unfold bQ at hN;omega) hk ha hf hb hp;have h:(RP (k,N) args env).getD ((0,0,0),0)=(v,0):=h;rw[hr]at h;exact⟨by rw[hr];exact congrArg some h,rfl,rfl⟩
theorem a6y{k N:Int}{ops:List (Int×Int)}{sg:I5}{ty:Int×Int}(hk:bK k=some false)(h:EH (k,N) ops sg=(ty,0)):N=0/\(RR (k,0) ops sg).getD ((0,0),0)=(ty,0):=by
 unfold EH at h;rw[a8G]at h;cases hz:x8 N 0
 ·rw[show F6 (x8 (k,N).2 0)=true by rw[show(k,N).2=N from rfl,hz];rfl,show bK (k,N).1=some false from hk]at h;exact absurd (congrArg Prod.snd h) (by show(2:Int)≠0;decide)
 ·rw[V6]at hz;subst hz;exact⟨rfl,h⟩
theorem a2s{en:List bT}{t:Int×Int}{v:V3}(h:PVV en t v):v=(t.1,t.2,v.2.2):=aZ h.1 (aZ h.2.1 rfl)
theorem lp2(a b:Int×Int):o9 [a,b]=2:=rfl
theorem lq0(a:Int×Int)(l:List (Int×Int)):G9 (a::l) 0=some a:=rfl
theorem lq1(a b:Int×Int)(l:List (Int×Int)):G9 (a::b::l) 1=some b:=rfl
theorem b3H(b:Bool):nN true b=b:=rfl
theorem b3r{k N:Int}{sg:I5}{env:aT}{a b ty:Int×Int}{x y v:V3}(hk:k=11\/k=12\/k=13\/k=17\/k=18\/k=19\/k=20\/k=21\/k=22\/k=27\/k=28\/k=29\/k=30)(ha:VT a)(hb:VT b)(hx:PVV sg.1 a x)(hy:PVV sg.1 b y)(ht:EH (k,N) [a,b] sg=(ty,0))(h:RP (k,N) [x,y] env=some (v,0)):PVV sg.1 ty v:=by
 have hm:bK k=some false:=by rcases hk with rfl|rfl|rfl|rfl|rfl|rfl|rfl|rfl|rfl|rfl|rfl|rfl|rfl<;>rfl
 obtain⟨hN,ht2⟩:=a6y hm ht;clear ht;subst hN;have hx' :=a2s hx;have hy' :=a2s hy;generalize x.2.2=n at hx';generalize y.2.2=m at hy';have h:c6g (k,0) x y=some (v,0):=by have e:RP (k,0) [x,y] env=o5 (c6g (k,0) x y) λx=>some x:=rfl;rw[e,dZ]at h;exact h
 subst hx' hy';rcases hk with rfl|rfl|rfl|rfl|rfl|rfl|rfl|rfl|rfl|rfl|rfl|rfl|rfl<;>rcases ha with rfl|rfl|rfl|rfl|rfl|⟨e,rfl⟩<;>rcases hb with rfl|rfl|rfl|rfl|rfl|⟨f,rfl⟩ <;>
  first
  |exact absurd (congrArg Prod.snd ht2) (by show(8:Int)≠0;decide)
  |(
    have e:=congrArg Prod.fst ht2;subst e
    first
    |refine(?_:MKq sg.1 (1,0) _) v h
    |refine(?_:MKq sg.1 (2,0) _) v h
    |refine(?_:MKq sg.1 (3,0) _) v h
    |refine(?_:MKq sg.1 (4,0) _) v h
    |refine(?_:MKq sg.1 (5,0) _) v h
    unfold c6g c6l c6u c6w c6F;simp (disch:=decide) only[aK]
    repeat' first
     |exact Jy D7
     |exact WR D7
     |exact P_ _
     |exact a9Z hx
     |exact a9Z hy
     |exact DZ D7
     |exact ZA (WQ D7)
     |exact WQ D7
     |refine ZA ?_
     |rw[zM]
     |(apply PX;intro z hz)
     |(apply O_<;>intro hz)
     |simp (disch:=decide) only[aK])
  |(
    cases hq:x8 e f<;>unfold RR qw oJ mX tV oI iO at ht2 <;>
    simp (disch:=decide) only[O8,J3,o7,o6,o8,N7,vP,E5,bH,lp2,lq0,lq1,b3H,hq,ai]at ht2 <;>
    first
    |exact absurd (congrArg Prod.snd ht2) (by show(8:Int)≠0;decide)
    |(
      have e:=congrArg Prod.fst ht2;subst e;refine(?_:MKq sg.1 (1,0) _) v h;unfold c6g c6l;simp (disch:=decide) only[aK];simp only[hq,o7,o6,E5,o8,N7,vP];exact P_ _))
def PVW(en:List bT)(t:Int×Int)(v:V3):Prop:=v.1=t.1/\v.2.1=t.2/\(v.1=6->inB v.2.2 (bnd t en)=true)
theorem PVW.pl{en:List bT}{t:Int×Int}{v:V3}(h:PVW en t v)(hp:plB v=true):PVV en t v:=⟨h.1,h.2.1,hp,h.2.2⟩
structure TOk (sg:I5) (env:aT):Prop where
 inp:∀i t v,G9 sg.2.2.1 i=some t->G9 env.2.1 i=some v->PVW sg.1 t v
 dfs:∀i t v,G9 sg.2.2.2.1 i=some t->G9 env.2.2.1 i=some v->v.1≠0->PVW sg.1 t v
 mty:∀i t u,G9 sg.2.2.2.2.1 i=some t->G9 env.2.2.2.2.1 i=some u->u=t
 tbs:env.2.2.2.2.2=sg.2.1
 row:∀t∈sg.2.1,∀r∈t.2.2.2,inB r.2.2.2 (bnd t.2.2.1 sg.1)=true
theorem a4F{k N:Int}{ops:List (Int×Int)}{sg:I5}{ty:Int×Int}(hN:bQ N)(hv:∀t∈ops,VT t)(hl:o9 ops=arF k)(h:EH (k,N) ops sg=(ty,0)):RR (k,N) ops sg=some (ty,0)/\VT ty:=by
 obtain⟨r,h1,h2,h3⟩:=UR sg (k,N) hN ops hv hl;have e:r=(ty,0):=by unfold EH at h;rw[h1]at h;exact h
 subst e;refine⟨?_,h3 rfl⟩;rw[a8G]at h1;cases hz:F6 (x8 (k,N).2 0)<;>rw[hz]at h1
 ·exact h1
 ·cases hm:bK (k,N).1 with
  |none=>rw[hm]at h1;cases h1|some b=>
   rw[hm]at h1;cases b
   ·cases h1
   ·exact h1
theorem a0R{k N:Int}{ops:List (Int×Int)}{sg:I5}{ty:Int×Int}(h:RR (k,N) ops sg=some (ty,0)):mX (k,N) sg=some true/\(ops=[]->aJ (k,N) sg=some (ty,true))/\∀a,ops=[a]->jS (k,N) a sg=some (ty,true):=by
 unfold RR at h;cases h1:oJ (k,N) sg with
 |none=>rw[h1]at h;cases h|some b=>
  rw[h1]at h;cases b
  ·cases h
  cases h2:mX (k,N) sg with
  |none=>rw[h2]at h;cases h|some b=>
   rw[h2]at h;cases b
   ·cases h
   refine⟨rfl,λe=>?_,λa e=>?_⟩
   ·subst e;cases h3:aJ (k,N) sg with
    |none=>rw[h3]at h;cases h|some x=>rw[h3]at h;obtain⟨x,b⟩:=x;cases b<;>cases h;rfl
   ·subst e;simp (disch:=decide) only[o8,E5,o6,o7,show o9 [a]=1 from rfl,O8,J3,lq0]at h;cases h3:jS (k,N) a sg with
    |none=>rw[h3]at h;cases h|some x=>rw[h3]at h;obtain⟨x,b⟩:=x;cases b<;>cases h;rfl
theorem a5X{α:Type}{l:List α}{i:Int}{b:Bool} (h:(l9 (L9 0 i) (some (E8 i (o9 l))) (some false))=some true):∃x,G9 l i=some x/\0<=i:=by
 cases h1:L9 0 i<;>rw[h1]at h
 ·cases h
 ·obtain⟨x,hx,_⟩:=jZ (l:=l) (lT.1 h1) (jl.1 (I4 h));exact⟨x,hx,lT.1 h1⟩
theorem b6u{k:Int}{t:Int×Int}(hk:k=36\/k=37\/k=38\/k=39)(h:KE k t=true):t.2=0/\t.1≠6:=by
 unfold KE at h;cases h1:x8 t.2 0<;>rw[h1]at h
 ·cases h
 refine⟨V6.1 h1,λe=>?_⟩;rw[e]at h;rcases hk with rfl|rfl|rfl|rfl<;>exact absurd h D7
theorem b3s{k N:Int}{sg:I5}{env:aT}{ty:Int×Int}(hk:k=36\/k=37\/k=38\/k=39)(hE:EvOk env)(hS:TOk sg env)(hf:c6A (k,N) env=some true)(hg:mX (k,N) sg=some true)(hl:aJ (k,N) sg=some (ty,true)):MKq sg.1 ty (c6m (k,N) env):=by
 have hf:(l9 (L9 0 N) (some (E8 N (o9 env.2.2.2.2.1))) (some false))=some true:=by rcases hk with rfl|rfl|rfl|rfl<;>exact hf
 obtain⟨u,hu,h0⟩:=a5X (b:=true) hf;have hg2:(l9 sg.2.2.2.2.2 (l9 (L9 0 N) (some (E8 N (o9 sg.2.2.2.2.1))) (some false)) (some false))=some true:=by rcases hk with rfl|rfl|rfl|rfl<;>exact hg
 cases hb:sg.2.2.2.2.2<;>rw[hb]at hg2
 ·cases hg2
 obtain⟨t,ht,_⟩:=a5X (b:=true) hg2;have e:=hS.mty N t u ht hu;subst e;rw[Hg k N env u hu h0 hE.ms];have hty:ty=u:=by
  unfold aJ at hl;rcases hk with rfl|rfl|rfl|rfl <;>
   (simp (disch:=decide) only[O8,J3,o7,o6,o8,ht,aF,oI,tV]at hl
    revert hl;cases vty u sg.1<;>intro hl<;>first|exact(congrArg Prod.fst (I4 hl)).symm|(revert hl;cases x8 u.1 2<;>cases x8 u.1 3<;>cases x8 u.1 4<;>intro hl<;>exact(congrArg Prod.fst (I4 hl)).symm))
 subst hty;unfold Zz;cases hm:KE k ty
 ·exact DZ D7
 obtain⟨m1,m2⟩:=b6u hk hm;have hty2:ty=(ty.1,0):=aZ rfl m1;simp only[o7];rw[hty2];simp only;cases hq:aY (xF k N (ty.1,0)) env.2.2.2.1 (l9 (x8 k 37) 1 0,true)with
 |inr c=>
  refine λv e=>absurd (congrArg Prod.snd (I4 e)) (qK (xF k N (ty.1,0)) (λ(r:V3×Int)=>r.2≠0) (λb m r h=>?_) _ _ _ hq);unfold xF at h;cases h1:WM m N (ty.1,0)with
  |inr c=>
   rw[h1]at h;cases h;unfold WM at h1;cases h2:G9 m N with
   |none=>rw[h2]at h1;cases h1;show(6:Int)≠0;decide|some x=>
    rw[h2]at h1;simp only at h1;cases h3:x8 x.1 0<;>rw[h3]at h1
    ·cases h4:PG x (ty.1,0)<;>rw[h4]at h1<;>cases h1;show(8:Int)≠0;decide
    ·cases h1;show(6:Int)≠0;decide
  |inl x=>rw[h1]at h;simp only at h;cases h2:plB ((ty.1,0).1,0,FC k b.1 x.2.2 b.2)<;>rw[h2]at h<;>cases h;show(3:Int)≠0;decide
 |inl a=>
  simp only;cases x8 k 39
  ·exact Jy m2
  ·cases x8 (o9 env.2.2.2.1) 0
   ·exact Jy m2
   ·exact DZ D7
theorem OV{k c:Int}(hc:0<=c)(h:arF k=c):1<=k/\k<=39:=by
 refine Y0 λhn=>?_;have:arF k=-1:=by unfold arF;rw[a0j hn];rfl
 omega
theorem a8X{q:Int}{en:List bT}{x:bT}(hv:vty (6,q) en=true)(hx:G9 en q=some x):bnd (6,q) en=(0,H8 .i64 (o9 x.2) 1):=by unfold bnd jb;rw[aF,o8,hv];simp (disch:=decide) only[J3,E5,o6,hx,o8,ai]
theorem a9L{k N:Int}{sg:I5}{ty:Int×Int}(hk:k=1\/k=2\/k=3\/k=4\/k=5)(h:aJ (k,N) sg=some (ty,true)):ty=(k,0):=by
 have e:aJ (k,N) sg=some ((k,0),vty (k,0) sg.1):=by unfold aJ;simp only[aF];rcases hk with rfl|rfl|rfl|rfl|rfl<;>rfl
 rw[e]at h;exact(congrArg Prod.fst (I4 h)).symm
theorem a9G{α:Type}(l:List α)(h:l.length<=4611686018427387904):H8 .i64 (o9 l) 1=o9 l -1:=O5 (by unfold bQ o9;omega)
theorem a8r{k N:Int}{sg:I5}{env:aT}{ty:Int×Int}{v:V3}(hE:EvOk env)(hN:bQ N)(hS:TOk sg env)(hL:∀e∈sg.1,e.2.length<=1000000)(ha:arF k=0)(ht:EH (k,N) [] sg=(ty,0))(h:wO (k,N) [] env=(v,0)):PVV sg.1 ty v:=by
 obtain⟨hRR,hvt⟩:=a4F hN A7 (by rw[ha];rfl) ht;obtain⟨hg,hl,_⟩:=a0R hRR;have hl:=hl rfl;have hr:=OV D7 ha;have hk3:k≠23/\k≠24/\k≠26:=by refine⟨?_,?_,?_⟩<;>(rintro rfl;exact absurd ha D7)
 obtain⟨hP,_,hf⟩:=a3v hE hN hk3 (by rw[ha];rfl) A7 h;have hc:k=1\/k=2\/k=3\/k=4\/k=5\/k=6\/k=7\/k=8\/k=9\/k=35\/k=36\/k=37\/k=38\/k=39:=by refine Y0 λhn=>?_;have:k=10\/k=11\/k=12\/k=13\/k=14\/k=15\/k=16\/k=17\/k=18\/k=19\/k=20\/k=21\/k=22\/k=23\/k=24\/k=25\/k=26\/k=27\/k=28\/k=29\/k=30\/k=31\/k=32\/k=33\/k=34:=l7;rcases this with rfl|rfl|rfl|rfl|rfl|rfl|rfl|rfl|rfl|rfl|rfl|rfl|rfl|rfl|rfl|rfl|rfl|rfl|rfl|rfl|rfl|rfl|rfl|rfl|rfl<;>exact absurd ha D7
 have hlit:k<=35->c6e (k,N) env=some (v,0):=λhk=>by
  have e:RP (k,N) [] env=o5 (c6e (k,N) env) λx=>some x:=by unfold RP;rw[V9 (show(k,N).1<36 by show k<36;omega)];rfl
  rw[e,dZ]at hP;exact hP
 by_cases hm:36<=k
 ·have hk:k=36\/k=37\/k=38\/k=39:=l7;have e:RP (k,N) [] env=o5 (c6m (k,N) env) λx=>some x:=by rcases hk with rfl|rfl|rfl|rfl<;>rfl
  rw[e,dZ]at hP;exact b3s hk hE hS hf hg hl v hP
 have hP:=hlit l7;by_cases h5:k<=5
 ·have hk:k=1\/k=2\/k=3\/k=4\/k=5:=l7;rw[a9L hk hl];refine(?_:MKq sg.1 (k,0) _) v hP;have e:c6e (k,N) env=o5 (c6f k N) λx=>some x:=by rcases hk with rfl|rfl|rfl|rfl|rfl<;>rfl
  rw[e,dZ];exact PY l7
 have hc:k=6\/k=7\/k=8\/k=9\/k=35:=l7;rcases hc with rfl|rfl|rfl|rfl|rfl
 ·have e1:aJ (6,N) sg=some ((6,fQ .i64 N 16),vty (6,fQ .i64 N 16) sg.1):=by
   unfold aJ;simp only[aF];rfl
  rw[e1]at hl;have hv:=congrArg Prod.snd (I4 hl);have hty:=(congrArg Prod.fst (I4 hl)).symm;simp only at hv hty;subst hty;have hg:l9 (E8 (fQ .i64 N 16) (o9 sg.1)) (o5 (G9 sg.1 (fQ .i64 N 16)) λ(x:bT)=>some (E8 (jk N 16) (o9 x.2))) (some false)=some true:=hg;cases g1:E8 (fQ .i64 N 16) (o9 sg.1)<;>rw[g1]at hg
  ·cases hg
  cases g2:G9 sg.1 (fQ .i64 N 16)with
  |none=>rw[g2]at hg;cases hg|some x=>
   rw[g2]at hg;have hlt:=jl.1 (I4 hg);unfold c6e at hP;simp (disch:=decide) only[O8,J3,o7,o6,qI,o8]at hP;cases g3:plB (6,fQ .i64 N 16,jk N 16)<;>rw[g3]at hP
   ·cases hP
   ·cases hP;refine⟨rfl,rfl,g3,λ_=>?_⟩;have hx:=hL x (dh g2).2.2.1;rw[a8X hv g2,a9G x.2 l7];have g4:=Xk g3;have g5:0<=jk N 16:=by
     unfold plB at g3;cases g6:L9 (BX 6).1 (jk N 16)
     ·rw[show(6,fQ .i64 N 16,jk N 16).1=(6:Int)from rfl,show(6,fQ .i64 N 16,jk N 16).2.2=jk N 16 from rfl,g6]at g3;cases g3
     ·exact lT.1 g6
    unfold inB;rw[V5 g5,o7];exact V5 (show jk N 16<=o9 x.2 -1 by omega)
 ·have e1:aJ (7,N) sg=o5 (G9 sg.2.2.1 N) λx=>some (x,vty x sg.1):=by
   unfold aJ;simp only[aF];cases G9 sg.2.2.1 N<;>rfl
  rw[e1]at hl;cases g1:G9 sg.2.2.1 N with
  |none=>rw[g1]at hl;cases hl|some x=>
   rw[g1]at hl;have hty:=(congrArg Prod.fst (I4 hl));simp only at hty;subst hty;unfold c6e at hP;simp (disch:=decide) only[O8,J3,o7,o6]at hP;cases g2:G9 env.2.1 N with
   |none=>rw[g2]at hP;cases hP|some w=>
    rw[g2]at hP;simp only[o8,qI]at hP;cases g3:plB w<;>rw[g3]at hP
    ·cases hP
    ·cases hP;exact(hS.inp N _ _ g1 g2).pl g3
 ·have e1:aJ (8,N) sg=o5 (G9 sg.2.2.2.1 N) λx=>some (x,vty x sg.1):=by
   unfold aJ;simp only[aF];cases G9 sg.2.2.2.1 N<;>rfl
  rw[e1]at hl;cases g1:G9 sg.2.2.2.1 N with
  |none=>rw[g1]at hl;cases hl|some x=>
   rw[g1]at hl;have hty:=(congrArg Prod.fst (I4 hl));simp only at hty;subst hty;unfold c6e at hP;simp (disch:=decide) only[O8,J3,o7,o6]at hP;have hf:l9 (L9 0 N) (l9 (E8 N (o9 env.2.2.1)) (o5 (G9 env.2.2.1 N) λ(x:V3)=>some (F6 (x8 x.1 0))) (some false)) (some false)=some true:=hf;cases g2:G9 env.2.2.1 N with
   |none=>rw[g2]at hP;cases hP|some w=>
    rw[g2]at hP hf;simp only[o8,qI]at hP hf;cases g3:plB w<;>rw[g3]at hP
    ·cases hP
    ·cases hP;refine(hS.dfs N _ _ g1 g2 (λe=>?_)).pl g3;rw[O8 e]at hf;cases g4:L9 0 N<;>rw[g4]at hf
     ·cases hf
     cases g5:E8 N (o9 env.2.2.1)<;>rw[g5]at hf<;>cases hf
 ·have e1:aJ (9,N) sg=some ((5,0),vty (5,0) sg.1):=by
   unfold aJ;simp only[aF];rfl
  rw[e1]at hl;have hty:=congrArg Prod.fst (I4 hl);simp only at hty;subst hty;refine(?_:MKq sg.1 (5,0) _) v hP;have e:c6e (9,N) env=o5 (c6f 5 env.1) λx=>some x:=rfl;rw[e,dZ];exact PY D7
 ·have e1:aJ (35,N) sg=some ((2,0),vty (2,0) sg.1):=by
   unfold aJ;simp only[aF];rfl
  rw[e1]at hl;have hty:=congrArg Prod.fst (I4 hl);simp only at hty;subst hty;refine(?_:MKq sg.1 (2,0) _) v hP;have e:c6e (35,N) env=o5 (c6f 2 (o9 env.2.2.2.1)) λx=>some x:=rfl;rw[e,dZ];exact PY D7
theorem a6h{en:List bT}{t:Int×Int}{α γ:Type}{o:Option γ}{g:γ->V3×Int}{f:α->Option (V3×Int)}(h:∀x,MKq en t (some (g x))):MKq en t (o5 (o5 o λx=>some (Sum.inr (g x))) (λq=>aj q f λr=>some r)):=by
 cases o with
 |none=>exact λv e=>by cases e|some x=>exact h x
theorem Vd{k N:Int}{sg:I5}{env:aT}{a ty:Int×Int}{x v:V3}(hk:k=10\/k=25\/k=31\/k=32)(ha:VT a)(hx:PVV sg.1 a x)(ht:EH (k,N) [a] sg=(ty,0))(h:RP (k,N) [x] env=some (v,0)):PVV sg.1 ty v:=by
 have hm:bK k=some false:=by rcases hk with rfl|rfl|rfl|rfl<;>rfl
 obtain⟨hN,ht2⟩:=a6y hm ht;clear ht;subst hN;have hx' :=a2s hx;generalize x.2.2=n at hx';have h:c6i (k,0) x env=some (v,0):=by have e:RP (k,0) [x] env=o5 (c6i (k,0) x env) λx=>some x:=rfl;rw[e,dZ]at h;exact h
 subst hx';rcases hk with rfl|rfl|rfl|rfl<;>rcases ha with rfl|rfl|rfl|rfl|rfl|⟨e,rfl⟩ <;>
  first
  |exact absurd (congrArg Prod.snd ht2) (by show(8:Int)≠0;decide)
  |(
    have e:=congrArg Prod.fst ht2;subst e
    first
    |refine(?_:MKq sg.1 (1,0) _) v h
    |refine(?_:MKq sg.1 (2,0) _) v h
    |refine(?_:MKq sg.1 (3,0) _) v h
    |refine(?_:MKq sg.1 (4,0) _) v h
    unfold c6i c6F;simp (disch:=decide) only[aK]
    repeat' first
     |exact Jy D7
     |exact P_ _
     |exact DZ D7
     |refine ZA ?_
     |rw[zM]
     |exact a6h λ_=>Jy D7
     |simp (disch:=decide) only[aK])
theorem a8t{k N:Int}{sg:I5}{env:aT}{a b ty:Int×Int}{x y v:V3}(hk:k=14\/k=15\/k=16)(ha:VT a)(hb:VT b)(hx:PVV sg.1 a x)(hy:PVV sg.1 b y)(ht:RR (k,N) [a,b] sg=some (ty,0))(h:RP (k,N) [x,y] env=some (v,0)):PVV sg.1 ty v:=by
 have hr:RR (k,N) [a,b] sg=o5 (l9 (L9 0 N) (some (L9 N 5)) (some false)) λx=>l9 (F6 x) (some ((0,0),3)) (o5 (qw k a b) λx=>l9 (F6 x.2) (some ((0,0),8)) (some (x.1,0))):=by rcases hk with rfl|rfl|rfl<;>rfl
 rw[hr]at ht;have ht2:((o5 (qw k a b) λx=>l9 (F6 x.2) (some ((0,0),8)) (some (x.1,0))):Option ((Int×Int)×Int)).getD ((0,0),0)=(ty,0):=by
  cases h1:L9 0 N<;>rw[h1]at ht
  ·cases ht
  cases h2:L9 N 5<;>rw[h2]at ht
  ·cases ht
  simp only[o7,o8,E5,o6]at ht;rw[ht];rfl
 clear ht hr;have hx' :=a2s hx;have hy' :=a2s hy;generalize x.2.2=n at hx';generalize y.2.2=m at hy';have h:c6g (k,N) x y=some (v,0):=by have e:RP (k,N) [x,y] env=o5 (c6g (k,N) x y) λx=>some x:=rfl;rw[e,dZ]at h;exact h
 subst hx' hy';rcases hk with rfl|rfl|rfl<;>rcases ha with rfl|rfl|rfl|rfl|rfl|⟨e,rfl⟩<;>rcases hb with rfl|rfl|rfl|rfl|rfl|⟨f,rfl⟩ <;>
  first
  |exact absurd (congrArg Prod.snd ht2) (by show(8:Int)≠0;decide)
  |(
    have e:=congrArg Prod.fst ht2;subst e
    first
    |refine(?_:MKq sg.1 (2,0) _) v h
    |refine(?_:MKq sg.1 (3,0) _) v h
    |refine(?_:MKq sg.1 (4,0) _) v h
    unfold c6g c6u;simp (disch:=decide) only[aK]
    repeat' first
     |exact Jy D7
     |exact WR D7
     |exact DZ D7
     |refine ZA ?_
     |exact a6h λ_=>WR D7|rw[zM]|(apply PX;intro z hz)|(apply O_<;>intro hz)
     |simp (disch:=decide) only[aK])
theorem a3i{N:Int}{sg:I5}{env:aT}{a ty:Int×Int}{x v:V3}(hE:EvOk env)(hS:TOk sg env)(ht:jS (33,N) a sg=some (ty,true))(h:RP (33,N) [x] env=some (v,0)):PVV sg.1 ty v:=by
 have hs:jS (33,N) a sg=o5 (G9 sg.2.1 N) λ(x:iy)=>o5 (Y9 x.2.1 sg.1) λ(x_1:Bool)=>l9 x_1 (o5 (Y9 x.2.2.1 sg.1) λ(x_2:Bool)=>l9 x_2 (some (x.2.2.1,nN (x8 a.1 x.2.1.1) (x8 a.2 x.2.1.2))) (some (x.2.2.1,false))) (some (x.2.2.1,false)):=rfl;rw[hs]at ht;cases h1:G9 sg.2.1 N with
 |none=>rw[h1]at ht;cases ht|some tb=>
  rw[h1]at ht;have htb:=(dh h1).2.2.1;have hty:tb.2.2.1=ty:=by
   simp only[o8,aF]at ht;cases h2:vty tb.2.1 sg.1<;>rw[h2]at ht
   ·exact congrArg Prod.fst (I4 ht)
   cases h3:vty tb.2.2.1 sg.1<;>simp only[o7,o8,h3]at ht
   ·exact congrArg Prod.fst (I4 ht)
   ·exact congrArg Prod.fst (I4 ht)
  have hrow:=hE.tb tb (by rw[hS.tbs];exact htb);have e:RP (33,N) [x] env=o5 (c6i (33,N) x env) λx=>some x:=rfl;rw[e,dZ]at h;unfold c6i at h;simp (disch:=decide) only[O8,J3,o7,o6,o8]at h;rw[hS.tbs,h1]at h;simp only[o8]at h;rw[zM]at h;unfold c6M at h;revert h;cases F6 (x8 x.1 tb.2.1.1)
  case true=>intro h;cases h
  cases F6 (x8 x.2.1 tb.2.1.2)
  case true=>intro h;cases h
  cases E8 tb.2.2.1.1 1
  case true=>intro h;cases h
  cases E8 6 tb.2.2.1.1
  case true=>intro h;cases h
  simp only[o6,o8,N7,Xq env.1 x.2.2 (show tb.2.2.2.length<=1000000 by have:=hrow.1;omega)];cases (PP tb.2.2.2 env.1 x.2.2).2
  case false=>intro h;cases h
  simp only[E5,o6];cases h5:G9 tb.2.2.2 (PP tb.2.2.2 env.1 x.2.2).1 with
  |none=>intro h;cases h|some r=>
   simp only[o8,qI];cases h6:plB (tb.2.2.1.1,tb.2.2.1.2,r.2.2.2)
   ·intro h;cases h
   ·intro h;cases h;rw[←hty];exact⟨rfl,rfl,h6,λ_=>hS.row tb htb r (dh h5).2.2.1⟩
theorem YC{N:Int}{sg:I5}{env:aT}{a ty:Int×Int}{x v:V3}(ha:VT a)(ht:jS (34,N) a sg=some (ty,true))(h:RP (34,N) [x] env=some (v,0)):PVV sg.1 ty v:=by
 have hty:ty=(3,0):=by
  unfold jS at ht;simp (disch:=decide) only[O8,J3,o7,o6,o8]at ht;cases h1:G9 sg.2.1 (fQ .i64 N 8)with
  |none=>rw[h1]at ht;cases ht|some tb=>
   rw[h1]at ht;simp only[o8]at ht;cases h2:x8 a.1 3<;>rw[h2]at ht
   ·cases ht
   have e3:=V6.1 h2;have hty:a=ty:=by
    simp only[o7,iO,o8]at ht;cases h3:nN (x8 tb.2.1.1 3) (x8 tb.2.1.2 0)<;>rw[h3]at ht
    ·exact congrArg Prod.fst (I4 ht)
    ·exact congrArg Prod.fst (I4 ht)
   rw[←hty];rcases ha with rfl|rfl|rfl|rfl|rfl|⟨e,rfl⟩<;>first|rfl|exact absurd e3 (by show ¬(_:Int)=3;decide)|exact absurd (show(6:Int)=3 from e3) D7
 subst hty;have e:RP (34,N) [x] env=o5 (c6i (34,N) x env) λx=>some x:=rfl;rw[e,dZ]at h;refine(?_:MKq sg.1 (3,0) _) v h;unfold c6i;simp (disch:=decide) only[O8,J3,o7,o6,o8,N7];apply PX;intro tb hz;cases F6 (x8 x.1 3)
 case true=>exact DZ D7
 cases F6 (x8 tb.2.1.1 3)
 case true=>exact DZ D7
 cases F6 (x8 tb.2.1.2 0)
 case true=>exact DZ D7
 cases F6 (x8 tb.2.2.1.1 4)
 case true=>exact DZ D7
 cases F6 (x8 tb.2.2.1.2 0)
 case true=>exact DZ D7
 simp only[o6,o8,N7];apply PX;intro z hz;exact ZA (a6i D7)
end
section
theorem EU{sg:I5}{n:Int×Int}{ops:List (Int×Int)}{i:Nat}{t:Int×Int}(h:Dx sg n ops i= .inr t):EH n ops sg=(t,0):=by
 unfold Dx at h;split at h
 ·rename_i h0;cases h;exact aZ rfl h0
 ·cases h
theorem a1d{en:List bT}{r:V3×Int}{v:V3}(h:rQ r=(v,0)):PVV en (1,0) v:=by
 rcases a1c r with⟨h1,h2⟩|⟨_,_,h2⟩|⟨_,_,_,h2⟩|⟨h1,h2,h3,h4⟩
 ·rw[h2]at h;rw[O8 (congrArg Prod.snd h)]at h1;cases h1
 ·rw[h2]at h;exact absurd (congrArg Prod.snd h) (by show(8:Int)≠0;decide)
 ·rw[h2]at h;exact absurd (congrArg Prod.snd h) (by show(8:Int)≠0;decide)
 ·rw[h4]at h;have e:=congrArg Prod.fst h;simp only at e;subst e;have k1:=V6.1 h2;refine⟨k1,?_,h3,λq=>absurd (k1.symm.trans q) D7⟩;rcases Xk h3 with⟨n,e,_⟩|⟨n,e,_⟩|⟨n,e,_⟩|⟨n,e,_⟩|⟨n,e,_⟩|e
  ·rw[e]
  ·rw[e]
  ·rw[e]
  ·rw[e]
  ·rw[e]
  ·obtain⟨m,n,e,_⟩:=e;rw[e]at k1;exact absurd k1 (by show ¬(6:Int)=1;decide)
theorem b6b{k:Int}(h:arF k=1):k=10\/k=25\/k=31\/k=32\/k=33\/k=34:=by have hr:=OV D7 h;refine Y0 λhn=>?_;have:k=1\/k=2\/k=3\/k=4\/k=5\/k=6\/k=7\/k=8\/k=9\/k=11\/k=12\/k=13\/k=14\/k=15\/k=16\/k=17\/k=18\/k=19\/k=20\/k=21\/k=22\/k=23\/k=24\/k=26\/k=27\/k=28\/k=29\/k=30\/k=35\/k=36\/k=37\/k=38\/k=39:=l7;rcases this with rfl|rfl|rfl|rfl|rfl|rfl|rfl|rfl|rfl|rfl|rfl|rfl|rfl|rfl|rfl|rfl|rfl|rfl|rfl|rfl|rfl|rfl|rfl|rfl|rfl|rfl|rfl|rfl|rfl|rfl|rfl|rfl|rfl<;>exact absurd h D7
theorem b6d{k:Int}(h:arF k=2):(k=23\/k=24)\/(k=14\/k=15\/k=16)\/(k=11\/k=12\/k=13\/k=17\/k=18\/k=19\/k=20\/k=21\/k=22\/k=27\/k=28\/k=29\/k=30):=by have hr:=OV D7 h;refine Y0 λhn=>?_;have:k=1\/k=2\/k=3\/k=4\/k=5\/k=6\/k=7\/k=8\/k=9\/k=10\/k=25\/k=26\/k=31\/k=32\/k=33\/k=34\/k=35\/k=36\/k=37\/k=38\/k=39:=l7;rcases this with rfl|rfl|rfl|rfl|rfl|rfl|rfl|rfl|rfl|rfl|rfl|rfl|rfl|rfl|rfl|rfl|rfl|rfl|rfl|rfl|rfl<;>exact absurd h D7
theorem a8R{k:Int}(h:arF k=3):k=26:=by have hr:=OV D7 h;refine Y0 λhn=>?_;have:k=1\/k=2\/k=3\/k=4\/k=5\/k=6\/k=7\/k=8\/k=9\/k=10\/k=11\/k=12\/k=13\/k=14\/k=15\/k=16\/k=17\/k=18\/k=19\/k=20\/k=21\/k=22\/k=23\/k=24\/k=25\/k=27\/k=28\/k=29\/k=30\/k=31\/k=32\/k=33\/k=34\/k=35\/k=36\/k=37\/k=38\/k=39:=l7;rcases this with rfl|rfl|rfl|rfl|rfl|rfl|rfl|rfl|rfl|rfl|rfl|rfl|rfl|rfl|rfl|rfl|rfl|rfl|rfl|rfl|rfl|rfl|rfl|rfl|rfl|rfl|rfl|rfl|rfl|rfl|rfl|rfl|rfl|rfl|rfl|rfl|rfl|rfl<;>exact absurd h D7
section
variable {sg:I5} {env:aT}
theorem b3t{k N:Int}{a ty:Int×Int}{x v:V3}(hE:EvOk env)(hN:bQ N)(hS:TOk sg env)(hk:arF k=1)(ha:VT a)(hx:PVV sg.1 a x)(ht:EH (k,N) [a] sg=(ty,0))(h:wO (k,N) [x] env=(v,0)):PVV sg.1 ty v:=by
 have hk3:k≠23/\k≠24/\k≠26:=by refine⟨?_,?_,?_⟩<;>(rintro rfl;exact absurd hk D7)
 obtain⟨hP,_,_⟩:=a3v hE hN hk3 (by rw[hk];rfl) A7 h;have hs:=((a0R (a4F hN (λt h=>by rw[U3.1 h];exact ha) (by rw[hk];rfl) ht).1).2.2 a rfl);rcases b6b hk with rfl|rfl|rfl|rfl|rfl|rfl
 ·exact Vd l7 ha hx ht hP
 ·exact Vd l7 ha hx ht hP
 ·exact Vd l7 ha hx ht hP
 ·exact Vd l7 ha hx ht hP
 ·exact a3i hE hS hs hP
 ·exact YC ha hs hP
theorem a5l{k N:Int}{a b ty:Int×Int}(hk:k=23\/k=24)(ha:VT a)(hb:VT b)(ht:EH (k,N) [a,b] sg=(ty,0)):ty=(1,0):=by
 have hm:bK k=some false:=by rcases hk with rfl|rfl<;>rfl
 obtain⟨hN,ht2⟩:=a6y hm ht;clear ht;subst hN;rcases hk with rfl|rfl<;>rcases ha with rfl|rfl|rfl|rfl|rfl|⟨e,rfl⟩<;>rcases hb with rfl|rfl|rfl|rfl|rfl|⟨f,rfl⟩ <;>
  first
  |exact absurd (congrArg Prod.snd ht2) (by show(8:Int)≠0;decide)
  |exact(congrArg Prod.fst ht2).symm
theorem b4R{N:Int}{a b c ty:Int×Int}(ht:EH (26,N) [a,b,c] sg=(ty,0)):ty=b/\b=c:=by
 obtain⟨hN,ht2⟩:=a6y rfl ht;have hr:RR (26,0) [a,b,c] sg=l9 (x8 a.1 1) (l9 (F6 (nN (x8 b.1 c.1) (x8 b.2 c.2))) (some ((0,0),8)) (some (b,0))) (some ((0,0),8)):=rfl;rw[hr]at ht2;cases h1:x8 a.1 1<;>rw[h1]at ht2
 ·exact absurd (congrArg Prod.snd ht2) (by show(8:Int)≠0;decide)
 cases h2:x8 b.1 c.1<;>rw[h2]at ht2
 ·exact absurd (congrArg Prod.snd ht2) (by show(8:Int)≠0;decide)
 cases h3:x8 b.2 c.2<;>rw[h3]at ht2
 ·exact absurd (congrArg Prod.snd ht2) (by show(8:Int)≠0;decide)
 exact⟨(congrArg Prod.fst ht2).symm,aZ (V6.1 h2) (V6.1 h3)⟩
theorem Pi{c:Int}{x:V3×Int}{v:V3}(h:l9 (x8 c 0) x ((0,0,0),c)=(v,0)):c=0/\x=(v,0):=by
 cases h1:x8 c 0<;>rw[h1]at h
 ·rw[O8 (show c=0 from congrArg Prod.snd h)]at h1;cases h1
 ·exact⟨V6.1 h1,h⟩
theorem DL:∀(t:XT) (o:Nat) {ty:Int×Int},t.wf->(∀n∈t.post,bQ n.2)->fJ sg t o= .inr ty->VT ty
 | .l0 n,o,ty,hw,hI,ht=>by have hw:arF n.1=0:=hw;exact xH (hI n (by simp[XT.post])) A7 (by rw[hw];rfl) ht| .l1 n a,o,ty,hw,hI,ht=>by
  obtain⟨w1,w2⟩:arF n.1=1/\a.wf:=hw;unfold fJ at ht;cases h1:fJ sg a o with
  |inl e=>rw[h1]at ht;cases ht|inr ta=>rw[h1]at ht;have va:=DL a o w2 (λm hm=>hI m (by simp[XT.post,hm])) h1;exact xH (hI n (by simp[XT.post])) (λt h=>by rw[U3.1 h];exact va) (by rw[w1];rfl) ht
 | .l2 n a b,o,ty,hw,hI,ht=>by
  obtain⟨w1,w2,w3⟩:arF n.1=2/\a.wf/\b.wf:=hw;unfold fJ at ht;cases h1:fJ sg a o with
  |inl e=>rw[h1]at ht;cases ht|inr ta=>
   rw[h1]at ht;simp only at ht;cases h2:fJ sg b (o+a.size)with
   |inl e=>rw[h2]at ht;cases ht|inr tb=>
    rw[h2]at ht;have va:=DL a o w2 (λm hm=>hI m (by simp[XT.post,hm])) h1;have vb:=DL b _ w3 (λm hm=>hI m (by simp[XT.post,hm])) h2;exact xH (hI n (by simp[XT.post])) (λt h=>by
     rcases A8.1 h with rfl|h
     ·exact va
     ·rw[U3.1 h];exact vb) (by rw[w1];rfl) ht
 | .l3 n a b c,o,ty,hw,hI,ht=>by
  obtain⟨w1,w2,w3,w4⟩:arF n.1=3/\a.wf/\b.wf/\c.wf:=hw;unfold fJ at ht;cases h1:fJ sg a o with
  |inl e=>rw[h1]at ht;cases ht|inr ta=>
   rw[h1]at ht;simp only at ht;cases h2:fJ sg b (o+a.size)with
   |inl e=>rw[h2]at ht;cases ht|inr tb=>
    rw[h2]at ht;simp only at ht;cases h3:fJ sg c (o+a.size+b.size)with
    |inl e=>rw[h3]at ht;cases ht|inr tc=>
     rw[h3]at ht;have va:=DL a o w2 (λm hm=>hI m (by simp[XT.post,hm])) h1;have vb:=DL b _ w3 (λm hm=>hI m (by simp[XT.post,hm])) h2;have vc:=DL c _ w4 (λm hm=>hI m (by simp[XT.post,hm])) h3;exact xH (hI n (by simp[XT.post])) (λt h=>by
      rcases A8.1 h with rfl|h
      ·exact va
      rcases A8.1 h with rfl|h
      ·exact vb
      ·rw[U3.1 h];exact vc) (by rw[w1];rfl) ht
theorem II(hE:EvOk env)(hS:TOk sg env)(hL:∀e∈sg.1,e.2.length<=1000000):∀(t:XT) (o:Nat) {ty:Int×Int} {v:V3},t.wf->(∀n∈t.post,bQ n.2)->fJ sg t o= .inr ty->evT env t=(v,0)->PVV sg.1 ty v/\VT ty
 | .l0 n,o,ty,v,hw,hI,ht,h=>by have hN:=hI n (by simp[XT.post]);have hw:arF n.1=0:=hw;have hv:VT ty:=xH hN A7 (by rw[hw];rfl) ht;exact⟨a8r (k:=n.1) (N:=n.2) hE hN hS hL hw (EU ht) h,hv⟩| .l1 n a,o,ty,v,hw,hI,ht,h=>by
  have hN:=hI n (by simp[XT.post]);obtain⟨w1,w2⟩:arF n.1=1/\a.wf:=hw;unfold fJ at ht;cases h1:fJ sg a o with
  |inl e=>rw[h1]at ht;cases ht|inr ta=>rw[h1]at ht;simp only at ht;unfold evT at h;obtain⟨c1,c2⟩:=Pi h;obtain⟨p1,p2⟩:=II hE hS hL a o w2 (λm hm=>hI m (by simp[XT.post,hm])) h1 (aZ rfl c1);exact⟨b3t (k:=n.1) (N:=n.2) hE hN hS w1 p2 p1 (EU ht) c2,xH hN (λt h=>by rw[U3.1 h];exact p2) (by rw[w1];rfl) ht⟩
 | .l2 n a b,o,ty,v,hw,hI,ht,h=>by
  have hN:=hI n (by simp[XT.post]);obtain⟨w1,w2,w3⟩:arF n.1=2/\a.wf/\b.wf:=hw;unfold fJ at ht;cases h1:fJ sg a o with
  |inl e=>rw[h1]at ht;cases ht|inr ta=>
   rw[h1]at ht;simp only at ht;cases h2:fJ sg b (o+a.size)with
   |inl e=>rw[h2]at ht;cases ht|inr tb=>
    rw[h2]at ht;simp only at ht;have va:=DL a o w2 (λm hm=>hI m (by simp[XT.post,hm])) h1;have vb:=DL b _ w3 (λm hm=>hI m (by simp[XT.post,hm])) h2;have hv:VT ty:=xH hN (λt h=>by rcases A8.1 h with rfl|h;exact va;rw[U3.1 h];exact vb) (by rw[w1];rfl) ht;refine⟨?_,hv⟩;unfold evT at h;have hk:=b6d w1;cases hz:lzB n.1<;>rw[hz]at h
    ·simp only[o6]at h;obtain⟨c1,c2⟩:=Pi h;obtain⟨c3,c4⟩:=Pi c2;have p1:=(II hE hS hL a o w2 (λm hm=>hI m (by simp[XT.post,hm])) h1 (aZ rfl c1)).1;have p2:=(II hE hS hL b _ w3 (λm hm=>hI m (by simp[XT.post,hm])) h2 (aZ rfl c3)).1;have hk3:=b5i hz;obtain⟨hP,_,_⟩:=a3v (k:=n.1) (N:=n.2) hE hN hk3 (by rw[w1];rfl) A7 c4;rcases hk with hk|hk|hk
     ·rcases hk with hk|hk
      ·exact absurd hk hk3.1
      ·exact absurd hk hk3.2.1
     ·exact a8t hk va vb p1 p2 (a4F hN (λt h=>by rcases A8.1 h with rfl|h;exact va;rw[U3.1 h];exact vb) (by rw[w1];rfl) (EU ht)).1 hP
     ·exact b3r hk va vb p1 p2 (EU ht) hP
    ·have hk2:n.1=23\/n.1=24:=by
      rcases hk with hk|hk|hk
      ·exact hk
      ·rcases hk with hk|hk|hk<;>rw[hk]at hz<;>exact absurd hz D7
      ·rcases hk with hk|hk|hk|hk|hk|hk|hk|hk|hk|hk|hk|hk|hk<;>rw[hk]at hz<;>exact absurd hz D7
     rw[a5l (k:=n.1) (N:=n.2) hk2 va vb (EU ht)];simp only[o7]at h;unfold Zr at h;cases g1:x8 n.2 0<;>rw[g1]at h
     ·exact absurd (congrArg Prod.snd h) (by show(2:Int)≠0;decide)
     simp only[o7]at h;obtain⟨c1,c2⟩:=Pi h;cases g2:kU (x8 n.1 23) (x8 (rQ (evT env a)).1.2.2 0)<;>rw[g2]at c2
     ·exact a1d c2
     ·have c3:(rQ (evT env a)).1=v:=congrArg Prod.fst (show((rQ (evT env a)).1,(0:Int))=(v,0)from c2);exact a1d (aZ c3 c1)
 | .l3 n a b c,o,ty,v,hw,hI,ht,h=>by
  have hN:=hI n (by simp[XT.post]);obtain⟨w1,w2,w3,w4⟩:arF n.1=3/\a.wf/\b.wf/\c.wf:=hw;unfold fJ at ht;cases h1:fJ sg a o with
  |inl e=>rw[h1]at ht;cases ht|inr ta=>
   rw[h1]at ht;simp only at ht;cases h2:fJ sg b (o+a.size)with
   |inl e=>rw[h2]at ht;cases ht|inr tb=>
    rw[h2]at ht;simp only at ht;cases h3:fJ sg c (o+a.size+b.size)with
    |inl e=>rw[h3]at ht;cases ht|inr tc=>
     rw[h3]at ht;simp only at ht;have e26:=a8R w1;have hres:=EU ht;rw[show n=(26,n.2)from aZ e26 rfl]at hres;obtain⟨rfl,rfl⟩:=b4R hres;unfold evT a1P at h;cases g1:x8 n.2 0<;>rw[g1]at h
     ·exact absurd (congrArg Prod.snd h) (by show(2:Int)≠0;decide)
     simp only[o7]at h;obtain⟨c1,c2⟩:=Pi h;cases g2:x8 (rQ (evT env a)).1.2.2 1<;>rw[g2]at c2
     ·exact II hE hS hL c _ w4 (λm hm=>hI m (by simp[XT.post,hm])) h3 c2
     ·exact II hE hS hL b _ w3 (λm hm=>hI m (by simp[XT.post,hm])) h2 c2
theorem a3U(hE:EvOk env)(hS:TOk sg env)(hL:∀e∈sg.1,e.2.length<=1000000){e:List (Int×Int)}(hI:∀n∈e,bQ n.2){t:Int×Int}{v:V3}(ht:Eh e sg t=0)(h:vT e env=(v,0)):PVV sg.1 t v:=by
 have hw:=Tm ht;unfold nG at hw;unfold vT at h;cases hs:mM e with
 |inl x=>rw[hs]at hw;exact absurd (congrArg (λq=>q.2.2) hw) (DJ hs)|inr q=>
  rw[hs]at hw h;simp only at hw h;cases hy:fJ sg q 0 with
  |inl x=>rw[hy]at hw;exact absurd (congrArg (λq=>q.2.2) hw) (AC q 0 hy)|inr ty=>rw[hy]at hw;have e1:ty=t:=congrArg Prod.fst hw;subst e1;exact(II hE hS hL q 0 (Np hs) (λn hn=>hI n (by rw[(DK hs).1];exact hn)) hy h).1
end
end
section
theorem FB{ρ:Type}{n:Nat}{p:Nat->Option ρ}(h:∀r,Z8 n p≠some r):∀i,i<n->p i=none:=by
 cases hf:Z8 n p with
 |some r=>exact absurd hf (h r)|none=>exact qi hf
theorem Rt{k i:Int}{r:Int×Int}(h:Oh k i r=none):r.1=0:=by
 unfold Oh at h;cases he:x8 r.1 0<;>rw[he]at h
 ·cases h
 ·exact V6.1 he
theorem Gq{l:V8}(h:(eG l).1=0):∀e∈l.1,e.2.length<=16:=by
 intro e he;unfold eG at h;cases h1:x8 (DR l).1 0<;>rw[h1]at h
 ·simp only[o6]at h;rw[O8 h]at h1;cases h1
 have h1:=V6.1 h1;unfold DR at h1;cases h2:E8 8 (o9 l.1)<;>rw[h2]at h1
 case true=>exact absurd (show(4:Int)=0 from h1) D7
 simp only[o6]at h1;obtain⟨i,hi,e1⟩:=J7 he;have hn:=FB (n:=l.1.length) (p:=GM l) (λr hf=>by
  rw[hf]at h1;obtain⟨j,_,hj⟩:=bW hf;unfold GM at hj;split at hj
  ·exact IG hj h1
  ·cases hj) i hi
 unfold GM at hn;rw[dX hi,e1]at hn;have hz:=Rt hn;unfold Pn at hz;cases g1:wP e.1<;>rw[g1]at hz
 ·exact absurd (show(2:Int)=0 from hz) D7
 cases g2:BQ l 1 i e.1<;>rw[g2]at hz
 case true=>exact absurd (show(7:Int)=0 from hz) D7
 cases g3:x8 (o9 e.2) 0<;>rw[g3]at hz
 case true=>exact absurd (show(5:Int)=0 from hz) D7
 cases g4:E8 16 (o9 e.2)<;>rw[g4]at hz
 case true=>exact absurd (show(4:Int)=0 from hz) D7
 rw[jv]at g4;unfold o9 at g4;omega
theorem a8w{l:V8}(h:(eG l).1=0):∀t∈l.2.1,∀r∈t.2.2.2,inB r.2.2.2 (bnd t.2.2.1 l.1)=true:=by
 intro t ht r hr;unfold eG at h;cases h1:x8 (DR l).1 0<;>rw[h1]at h
 ·simp only[o6]at h;rw[O8 h]at h1;cases h1
 cases h2:x8 (EM l).1 0<;>rw[h2]at h
 ·simp only[o7,o6]at h;rw[O8 h]at h2;cases h2
 have h2:=V6.1 h2;unfold EM at h2;cases h3:E8 8 (o9 l.2.1)<;>rw[h3]at h2
 case true=>exact absurd (show(4:Int)=0 from h2) D7
 simp only[o6]at h2;obtain⟨i,hi,e1⟩:=J7 ht;have hn:=FB (n:=l.2.1.length) (p:=Gn l) (λr hf=>by
  rw[hf]at h2;obtain⟨j,_,hj⟩:=bW hf;unfold Gn at hj;split at hj
  ·exact IG hj h2
  ·cases hj) i hi
 unfold Gn at hn;rw[dX hi,e1]at hn;have hz:=Rt hn;unfold Td at hz;cases g1:wP t.1<;>rw[g1]at hz
 ·exact absurd (show(2:Int)=0 from hz) D7
 cases g2:BQ l 2 i t.1<;>rw[g2]at hz
 case true=>exact absurd (show(7:Int)=0 from hz) D7
 cases g3:x8 (KH t l.1).2 0<;>rw[g3]at hz
 ·simp only[o7,o6]at hz;rw[O8 hz]at g3;cases g3
 have hz:=V6.1 g3;unfold KH at hz;cases g4:E8 64 (o9 t.2.2.2)<;>rw[g4]at hz
 case true=>exact absurd (show(4:Int)=0 from hz) D7
 cases g5:vty t.2.1 l.1<;>rw[g5]at hz
 ·exact absurd (show(8:Int)=0 from hz) D7
 cases g6:vty t.2.2.1 l.1<;>rw[g6]at hz
 ·exact absurd (show(8:Int)=0 from hz) D7
 simp only[o7,o6]at hz;obtain⟨j,hj,e2⟩:=J7 hr;have hn:=FB (n:=t.2.2.2.length) (p:=QC t l.1) (λq hf=>by
  rw[show(List.range t.2.2.2.length).findSome? (QC t l.1)=some q from hf]at hz;obtain⟨j,_,hj⟩:=bW hf;unfold QC at hj;split at hj
  ·rename_i x _;cases k1:JW x (bnd t.2.1 l.1) (bnd t.2.2.1 l.1)<;>rw[k1]at hj
   ·revert hj;cases (t.2.2.2.take j).any λy=>yJ y x
    ·intro hj;cases hj
    ·intro hj;cases hj;exact absurd hz (by show ¬(11:Int)=0;decide)
   ·cases hj;exact absurd hz (by show ¬(3:Int)=0;decide)
  ·cases hj) j hj
 unfold QC at hn;rw[dX hj,e2]at hn;simp only at hn;cases k1:JW r (bnd t.2.1 l.1) (bnd t.2.2.1 l.1)<;>rw[k1]at hn
 case true=>cases hn
 unfold JW at k1;cases d1:En r.1<;>rw[d1]at k1
 ·cases k1
 cases d2:x8 r.1.1 r.1.2<;>rw[d2]at k1
 case true=>cases k1
 cases d3:L9 r.2.2.1 r.2.1<;>rw[d3]at k1
 case true=>cases k1
 cases d4:inB r.2.1 (bnd t.2.1 l.1)<;>rw[d4]at k1
 ·cases k1
 cases d5:inB (H8 .i64 r.2.2.1 1) (bnd t.2.1 l.1)<;>rw[d5]at k1
 ·cases k1
 cases d6:inB r.2.2.2 (bnd t.2.2.1 l.1)<;>rw[d6]at k1
 ·cases k1
theorem a3l{l:V8}(h:(eG l).1=0){i:Nat}{s:D9}(hs:l.2.2[i]? =some s){j:Nat}{f:jq}(hf:s.2.2.2.1[j]? =some f):vty f.2 l.1=true:=by
 have hp:=(Je h hs).2;unfold Lt at hp;cases h1:yg l s with
 |some q=>rw[h1]at hp;exact absurd hp (Du h1)|none=>
  unfold yg at h1;cases h2:Z8 s.2.2.1.length (inP l s)with
  |some q=>rw[h2]at h1;cases h1|none=>
   rw[h2]at h1;have hn:=qi h1 j (Y6.1 hf).1;unfold Yf at hn;rw[hf]at hn;simp only at hn;unfold Pv at hn;cases he:x8 (DT l.1 f s.2.2.1 (s.2.2.2.1.take j)) 0<;>rw[he]at hn
   ·cases hn
   have he:=V6.1 he;unfold DT at he;cases g1:wP f.1<;>rw[g1]at he
   ·exact absurd (show(2:Int)=0 from he) D7
   cases g2:s.2.2.1.any λx=>seq x.1 f.1<;>rw[g2]at he
   case true=>exact absurd (show(7:Int)=0 from he) D7
   cases g3:(s.2.2.2.1.take j).any λx=>seq x.1 f.1<;>rw[g3]at he
   case true=>exact absurd (show(7:Int)=0 from he) D7
   cases g4:vty f.2 l.1<;>rw[g4]at he
   ·exact absurd (show(8:Int)=0 from he) D7
theorem a3B{l:V8}{k:Int}{s:D9}{c:jU}(h:(Dp l k c false 0).1=0)(hs:G9 l.2.2 k=some s):∀i t v,G9 (s.2.2.1.map (·.2)) i=some t->G9 c.2.1 i=some v->PVW l.1 t v:=by
 intro i t v ht hv;unfold Dp at h;cases h0:x8 (eG l).1 0<;>rw[h0]at h
 ·exact absurd (show(1:Int)=0 from h) D7
 rw[hs]at h;simp only[o7,o6]at h;cases h1:x8 (yS l k c).2.2 0<;>rw[h1]at h
 ·simp only[o6]at h;rw[O8 h]at h1;cases h1
 have h1:=V6.1 h1;unfold yS at h1;rw[hs]at h1;simp only at h1;cases g1:E8 c.1 0<;>rw[g1]at h1
 case true=>exact absurd (show(3:Int)=0 from h1) D7
 cases g2:E8 109572 c.1<;>rw[g2]at h1
 case true=>exact absurd (show(3:Int)=0 from h1) D7
 cases g3:x8 (zi l.1 s.2.2.1 c.2.1).2 0<;>rw[g3]at h1
 ·simp only[o6]at h1;rw[O8 h1]at g3;cases g3
 have g3:=V6.1 g3;unfold zi at g3;cases g4:E8 (o9 c.2.1) (o9 s.2.2.1)<;>rw[g4]at g3
 case true=>exact absurd (show(5:Int)=0 from g3) D7
 cases g5:E8 (o9 s.2.2.1) (o9 c.2.1)<;>rw[g5]at g3
 case true=>exact absurd (show(4:Int)=0 from g3) D7
 simp only[o6]at g3;have hvl:=(dh hv).2.2.2;have htl:=(dh ht).2.2.2;rw[fZ]at htl;cases hf:s.2.2.1[i.toNat]? with
 |none=>rw[hf]at htl;cases htl|some f=>
  rw[hf]at htl;have e:f.2=t:=I4 htl;have hn:=FB (n:=c.2.1.length) (p:=YD l.1 s.2.2.1 c.2.1) (λr hf=>by rw[hf]at g3;obtain⟨j,_,hj⟩:=bW hf;exact a8v hj g3) i.toNat (Y6.1 hvl).1
  unfold YD at hn;rw[hvl,hf]at hn;simp only at hn;cases d1:x8 v.1 f.2.1<;>rw[d1]at hn
  ·cases hn
  cases d2:x8 v.2.1 f.2.2<;>rw[d2]at hn
  ·cases hn
  cases d3:inB v.2.2 (bnd f.2 l.1)<;>rw[d3]at hn
  ·cases hn
  rw[←e];exact⟨V6.1 d1,V6.1 d2,λ_=>d3⟩
theorem a6F(l:V8)(s:D9):(BL l s).1=l.1/\(BL l s).2.1=l.2.1/\(BL l s).2.2.1=s.2.2.1.map (·.2):=by unfold BL;split<;>exact⟨rfl,rfl,rfl⟩
theorem b2c{l:V8}{s:D9}{i:Int}{t:Int×Int}(h:G9 (BL l s).2.2.2.2.1 i=some t):G9 ((ax l s).2.2.2.1.map (·.2)) i=some t:=by
 cases hq:(BL l s).2.2.2.2.2
 ·unfold BL at h hq;split at h
  ·rename_i q e;rw[e]at hq;cases hq
  ·unfold G9 at h;split at h<;>cases h
 ·rw[←a6E hq];exact h
theorem b6F{v:V3}(h:plB v=true):inB v.2.2 (BX v.1)=true:=by
 unfold plB at h;unfold inB;cases h1:L9 (BX v.1).1 v.2.2<;>rw[h1]at h
 ·cases h
 cases h2:L9 v.2.2 (BX v.1).2<;>rw[h2]at h
 ·cases h
 ·rfl
def a0N(l:V8)(s:D9)(ds:List V3):Prop:=∀i t v,G9 (s.2.2.2.1.map (·.2)) i=some t->G9 ds i=some v->v.1≠0->PVW l.1 t v
theorem b9c{l:V8}{k:Int}{s:D9}{c:jU}{b:List DB}{ds:List V3}(hA:(Dp l k c false 0).1=0)(h:(eG l).1=0)(hs:G9 l.2.2 k=some s)(hD:a0N l s ds):TOk (BL l s) (AY (Bv l s c b) ds):=by
 obtain⟨g1,g2,g3⟩:=a6F l s;refine⟨λi t v ht hv=>?_,λi t v ht hv h0=>?_,λi t u ht hu=>?_,g2.symm,λt ht r hr=>?_⟩
 ·rw[g3]at ht;rw[g1];exact a3B hA hs i t v ht hv
 ·rw[a2L]at ht;rw[g1];exact hD i t v ht hv h0
 ·have h1:=b2c ht;have h2:G9 ((ax l s).2.2.2.1.map (·.2)) i=some u:=hu;rw[h1]at h2;exact(I4 h2).symm
 ·rw[g2]at ht;rw[g1];exact a8w h t ht r hr
theorem a1l{l:V8}{k:Int}{s:D9}{c:jU}{b:List DB}{ds:List V3}{m d:Int}{v:V3}{r:Int}{t:Int×Int}(hL:SmL l)(hT:∀t∈l.2.1,AQ t)(hb:b.length<=1000)(hA:(Dp l k c false 0).1=0)(h:(eG l).1=0)(hs:G9 l.2.2 k=some s)(hD:a0N l s ds)(hd:Ej s (AY (Bv l s c b) ds) m d= .inl (v,r))(ht:G9 (s.2.2.2.1.map (·.2)) d=some t):PVV l.1 t v:=by
 obtain⟨_,d2,q,q1,q2⟩:=a1k hd;obtain⟨q',e1,e2,e3⟩:=Nq d2;rw[q1]at e1;cases e1;obtain⟨_,f,f1,f2⟩:=MB h (dh hs).2.2.2 e2;rw[e3]at f1;have ht2:f.2=t:=by
  unfold G9 at ht f1;split at ht
  ·rename_i h0;rw[if_pos h0]at f1;rw[fZ,f1]at ht;exact I4 ht
  ·cases ht
 have g1:=(a6F l s).1;rw[←g1,←ht2];refine a3U (Po (Xo hT s c hb) ds) (b9c hA h hs hD) (λe he=>by rw[g1]at he;have:=Gq h e he;omega) ?_ f2 q2;have hS:=hL.sc s (dh hs).2.2.1;exact(hS.ro q e2).1.2.2.2
theorem a7b{l:V8}{k:Int}{s:D9}{c:jU}{b:List DB}{need:List Bool}{X:DB}(hL:SmL l)(hT:∀t∈l.2.1,AQ t)(hb:b.length<=1000)(hA:(Dp l k c false 0).1=0)(h:(eG l).1=0)(hs:G9 l.2.2 k=some s)(hX:scS s (Bv l s c b) (-1) need= .inl X):a0N l s X.1:=by
 have key:∀(L:List Int) (B:DB),(∀d∈L,0<=d)->a0N l s B.1->aY (scG s (Bv l s c b) (-1) need) L B= .inl X->a0N l s X.1:=by
  intro L;induction L with
  |nil=>intro B _ hB h;cases h;exact hB|cons d L ih=>
   intro B hL0 hB hf;unfold aY at hf;cases hg:scG s (Bv l s c b) (-1) need B d with
   |inr e=>rw[hg]at hf;cases hf|inl B1=>
    rw[hg]at hf;refine ih B1 (λx hx=>hL0 x (by simp[hx])) ?_ hf;unfold scG at hg;cases h1:(G9 need d).getD false<;>rw[h1]at hg
    ·cases hg;exact hB
    simp only[o7]at hg;cases hv:Ej s (AY (Bv l s c b) B.1) (-1) d with
    |inr e=>rw[hv]at hg;cases hg|inl v=>
     rw[hv]at hg;cases hg;intro i t w ht hw h0;by_cases hi:i=d
     ·subst hi;have hd0:=hL0 i A7;by_cases hlt:i<o9 B.1
      ·rw[Wy _ hd0 hlt]at hw;cases hw;have p:=a1l (m:=-1) hL hT hb hA h hs hB (v:=v.1) (r:=v.2) hv ht;exact⟨p.1,p.2.1,p.2.2.2⟩
      ·rw[tC (.inr (J6 (by simp only[o9,xB]at hlt ⊢;omega)))]at hw;cases hw
     ·rw[Jv _ (hL0 d A7) hi]at hw;exact hB i t w ht hw h0
 refine key (vF s).1 _ (λd hd=>((TY s).1 d hd).1) (λi t v ht hv h0=>?_) hX;have:=(dh hv).2.2.2;simp only[iW]at this;split at this
 ·cases this;exact absurd rfl h0
 ·cases this
abbrev b9g:Int×Int:=(0,109573)
def onA(s:D9)(T:Int)(i:Nat):Bool:=match s.2.2.2.2[i]? with|some r=>Rf r.2.2.2.2.1 T|none=>false
def b9w(s:D9)(T:Int):List Nat:=onL (onA s T) s.2.2.2.2.length
def rOn(s:D9)(T:Int)(i:Nat):gy:=match s.2.2.2.2[i]? with
 |some r=>(r.1,r.2.1,anc (onA s T) (b6E s) i,r.2.2.2.1,b9g,r.2.2.2.2.2.1,r.2.2.2.2.2.2.1,r.2.2.2.2.2.2.2)|none=>([],0,0,0,b9g,[],[],[])
def sOn(T:Int)(s:D9):D9:=(s.1,s.2.1,s.2.2.1,s.2.2.2.1,(b9w s T).map (rOn s T))
end
section
section
variable {A R R' :Nat->Bool} {par par' :Nat->Int} {n:Nat} (hRA:∀i,i<n->R i=true->A i=true) (hR:∀i,i<n->A i=true->R' (YV A i)=R i) (hp:∀i,i<n->A i=true->par' (YV A i)=anc A par i)
include hRA hR
omit hR in
omit hR in
include hp
end
end
section
section
variable {s:D9} {T:Int} (h0:0<=T) (h1:T<=109572)
include h0 h1
omit h0 h1 in
omit h0 h1 in
end
end
section
structure OnOk (s:D9) (T:Int):Prop where
 h0:0<=T
 h1:T<=109572
 t1:a0T s (vF s).1
 f1:∀d,0<=d->d<nD s->d∈(vF s).1
 t2:a0T (sOn T s) (vF (sOn T s)).1
 f2:∀d,0<=d->d<nD s->d∈(vF (sOn T s)).1
 r1:∀d,a3q s (λx=>x∈P7 s d) (λ_=>True) d
 r2:∀d,a3q (sOn T s) (λx=>x∈P7 (sOn T s) d) (λ_=>True) d
def o_(s:D9)(k:Nat)(r:gy):Bool:=l9 (x8 r.2.2.1 (-1)) false (l9 (E8 r.2.2.1 0) true (l9 (L9 k r.2.2.1) true (match G9 s.2.2.2.2 r.2.2.1 with|some q=>F6 (x8 q.2.1 r.2.1)|none=>true)))
structure RuleV (s:D9) (sg:I5) (k:Nat) (r:gy):Prop where
 id:wP r.1=true
 nm:((s.2.2.2.2.take k).any λx=>seq x.1 r.1)=false
 df:∃d,G9 s.2.2.2.1 r.2.1=some d/\Ru r sg d.2=0
 pa:o_ s k r=false
 p0:E8 r.2.2.2.1 0=false
 p9:E8 9 r.2.2.2.1=false
 dv:En r.2.2.2.2.1=true
 ne:x8 r.2.2.2.2.1.1 r.2.2.2.2.1.2=false
 ct:L9 8 (Ph (s.2.2.2.2.take k) r.2.1)=false
 sr:Yy r.2.2.2.2.2.2.2=true
theorem RuleV.zero{s:D9}{sg:I5}{k:Nat}{r:gy}(h:RuleV s sg k r):Gl s sg k r=0:=by obtain⟨d,h1,h2⟩:=h.df;unfold Gl;rw[h.id,h.nm,h1];simp only[o7,o6];change l9 (o_ s k r) (9:Int) _=0;rw[h.pa,h.p0,h.p9,h.dv,h.ne,h.ct,h.sr,h2];rfl
theorem b6I{s:D9}{sg:I5}{k:Nat}{r:gy}(h:Gl s sg k r=0):RuleV s sg k r:=by
 obtain⟨d,hd,hx⟩:=XF h;unfold Gl at h;cases g1:wP r.1<;>rw[g1]at h
 ·exact absurd (show(2:Int)=0 from h) D7
 cases g2:(s.2.2.2.2.take k).any λx=>seq x.1 r.1<;>rw[g2]at h
 case true=>exact absurd (show(7:Int)=0 from h) D7
 rw[hd]at h;simp only[o7,o6]at h;change l9 (o_ s k r) (9:Int) _=0 at h;cases b1:o_ s k r<;>rw[b1]at h
 case true=>exact absurd (show(9:Int)=0 from h) D7
 cases b2:E8 r.2.2.2.1 0<;>rw[b2]at h
 case true=>exact absurd (show(3:Int)=0 from h) D7
 cases b3:E8 9 r.2.2.2.1<;>rw[b3]at h
 case true=>exact absurd (show(3:Int)=0 from h) D7
 cases b4:En r.2.2.2.2.1<;>rw[b4]at h
 case false=>exact absurd (show(3:Int)=0 from h) D7
 cases b5:x8 r.2.2.2.2.1.1 r.2.2.2.2.1.2<;>rw[b5]at h
 case true=>exact absurd (show(3:Int)=0 from h) D7
 cases b6:L9 8 (Ph (s.2.2.2.2.take k) r.2.1)<;>rw[b6]at h
 case true=>exact absurd (show(4:Int)=0 from h) D7
 cases b7:Yy r.2.2.2.2.2.2.2<;>rw[b7]at h
 case false=>exact absurd (show(2:Int)=0 from h) D7
 exact⟨g1,g2,⟨d,hd,hx⟩,b1,b2,b3,b4,b5,b6,b7⟩
end
end Go.GP
namespace Gt
open Go Go.GP
theorem b3W{n:Int}(h:bQ n):Iu n=some (Lib.itoa n):=by unfold Iu;rw[if_pos (show -9223372036854775808<=n/\n<=9223372036854775807 from h)]
theorem ZU{s:List UInt8}{c:Nat}(h:c<=1000000)(hs:s.length<=1000000):uh s (c:Int)=some (Lib.repeatL s c):=by
 unfold uh
 have:s.length*c<=1000000*1000000:=Nat.mul_le_mul hs h;rw[if_pos ⟨l7,l7,by rw[J5];omega⟩,J5]
theorem c2p(x:UInt8)(c:Nat):Lib.repeatL [x] c=List.replicate c x:=by have:=Lib.repeatL_replicate x 1 c;simpa using this
theorem a3j{d:Int}(h0:0<=d)(h:d<10):b9e (wrap .u8 (D6 .u64 48 d))=UInt8.ofNat (48+d.toNat):=by
 rw[Wq (by unfold U64;omega)];have e:wrap .u8 (48+d)=((48+d.toNat:Nat):Int):=by unfold wrap IntKind.wrap;simp[IntKind.signed,IntKind.bits];omega
 rw[e];unfold b9e;rw[J5]
theorem a1o:∀(k u:Nat),u<k->u<18446744073709551616->c7d k (u:Int)=some (Lib.decDigits u)
 |0,u,h,_=>by omega|k+1,u,h,hu=>by
  show c7e (c7d k) (u:Int)=_;unfold c7e;by_cases h10:u<10
  ·rw[iI (O0 l7),a3j l7 l7,Lib.decDigits,dif_pos h10,J5]
  ·have e1:(u:Int).tdiv 10=((u / 10:Nat):Int):=by rw[jG l7];omega
   have e2:jk (u:Int) 10=((u % 10:Nat):Int):=by rw[xA l7];omega
   rw[gB (J6 l7),a9C (by rw[e1];unfold U64;omega)];rw[e1,a1o k (u / 10) l7 l7,o8,e2,a3j l7 l7,iQ,o8,J5]
   ·congr 1
    conv=>rhs;rw[Lib.decDigits,dif_neg h10]
   ·have:=Lib.nDigits_le20 (u / 10) l7;rw[Lib.decDigits_length];simp;omega
theorem Kt{n:Int}(h:U64 n):c7h n=some (Lib.decDigits n.toNat):=by unfold U64 at h;have:=a1o lg n.toNat (by unfold lg;omega) l7;rw[X0 h.1]at this;exact this
theorem yV{n:Int}(h:bQ n):(Lib.itoa n).length<=21:=Lib.itoa_length_le n h.1 h.2
theorem ul{u:Nat}(h:u<18446744073709551616):1<=(Lib.decDigits u).length/\(Lib.decDigits u).length<=20:=by rw[Lib.decDigits_length];exact⟨Lib.nDigits_pos u,Lib.nDigits_le20 u h⟩
theorem Ad{n:Int}(h:bQ n):c7c n=some (Lib.itoa n):=by
 unfold bQ at h;unfold c7c Lib.itoa;by_cases hn:n<0
 ·rw[iI (O0 hn),if_pos hn,U7 L8,O5 L8];rw[show wrap .u64 (0 -(n+1))=0 -(n+1)from Gs (by unfold U64;omega),Wq (by unfold U64;omega),Kt (by unfold U64;omega),o8];have e:(0 -(n+1)+1).toNat=n.natAbs:=l7;rw[e,iQ,o8]
  ·rfl
  ·have:=(ul (u:=n.natAbs) l7).2;simp;omega
 ·rw[gB (J6 l7),if_neg hn,show wrap .u64 n=n from Gs (by unfold U64;omega),Kt (by unfold U64;omega),o8]
theorem iE{n:Int}(h:bQ n):eQ n=some (Lib.itoa n):=by unfold eQ;rw[b3W h];rfl
def DU(u k:Nat):List UInt8:=
 let d:=List.replicate (k+1 -(Lib.decDigits u).length) 48++Lib.decDigits u
 d.take (d.length -k)++46::d.drop (d.length -k)
def xx(n:Int)(k:Nat):List UInt8:=if n<0 then 45::DU n.natAbs k else DU n.natAbs k
theorem a3W{u k:Nat}(hu:u<18446744073709551616)(hk:k<=9):(DU u k).length<=31:=by have:=ul hu;unfold DU;simp;omega
theorem IL{n:Int}{k:Nat}(h:bQ n)(hk:k<=9):(xx n k).length<=32:=by unfold bQ at h;have:=a3W (u:=n.natAbs) (k:=k) l7 hk;unfold xx;split<;>simp<;>omega
theorem a9f{d:List UInt8}{k:Nat}(h1:k<d.length)(h2:d.length<=100):
  kL d 0 (H8 .i64 (o9 d) (k:Int))=some (d.take (d.length -k))/\kL d (H8 .i64 (o9 d) (k:Int)) (o9 d)=some (d.drop (d.length -k)):=by
 have e:H8 .i64 (o9 d) (k:Int)=((d.length -k:Nat):Int):=by rw[O5 (by unfold bQ o9;omega)];unfold o9;omega
 rw[e];exact⟨by rw[UN l7 l7];simp,by rw[IV l7 l7];simp⟩
theorem a6H{d p:List UInt8}{k:Nat}(h1:k<d.length)(h2:d.length<=100)(hp:p.length<=100):
  (o5 (kL d 0 (H8 .i64 (o9 d) (k:Int))) λx=>o5 (fC p x) λy=>o5 (fC y [46]) λz=>o5 (kL d (H8 .i64 (o9 d) (k:Int)) (o9 d)) λt=>o5 (fC z t) λx=>some x)
   =some (p++(d.take (d.length -k)++46::d.drop (d.length -k))):=by
 obtain⟨c1,c2⟩:=a9f h1 h2;rw[c1,o8,iQ U6,o8,iQ U6,o8,c2,o8,iQ U6,o8];simp
theorem jR{n:Int}{k:Nat}(h:bQ n)(hk:1<=k/\k<=9):aN n (k:Int)=some (xx n k):=by
 have hI:=h;unfold bQ at h;have ek:kK 0 (pF (k:Int) 9)=(k:Int):=by unfold kK pF;split<;>split<;>omega
 unfold aN yP;rw[o8,ek,iE hI,o8,gB (J3 l7)];have hd:=ul (u:=n.natAbs) l7;have rest:∀(d p:List UInt8),1<=d.length->d.length<=20->p.length<=1->
   l9 (L9 (o9 d) (k:Int))
    (o5 (uh [48] (H8 .i64 (D6 .i64 (k:Int) 1) (o9 d))) λx3=>o5 (fC x3 d) λx4=>o5 (kL x4 0 (H8 .i64 (o9 x4) (k:Int))) λx5=>o5 (fC p x5) λx6=>o5 (fC x6 [46]) λx7=>
     o5 (kL x4 (H8 .i64 (o9 x4) (k:Int)) (o9 x4)) λx=>o5 (fC x7 x) λx=>some x)
    (o5 (kL d 0 (H8 .i64 (o9 d) (k:Int))) λx=>o5 (fC p x) λy=>o5 (fC y [46]) λz=>o5 (kL d (H8 .i64 (o9 d) (k:Int)) (o9 d)) λt=>o5 (fC z t) λx=>some x)
   =some (p++(let e:=List.replicate (k+1 -d.length) 48++d;e.take (e.length -k)++46::e.drop (e.length -k))):=by
  intro d p h1 h2 h3;by_cases hle:d.length<=k
  ·rw[iI (V5 (by unfold o9;omega))];have e:H8 .i64 (D6 .i64 (k:Int) 1) (o9 d)=((k+1 -d.length:Nat):Int):=by
    rw[U7 L8,O5 (by unfold bQ o9;omega)];unfold o9;omega
   rw[e,ZU l7 A7,c2p,o8,iQ U6,o8];exact a6H U6 U6 l7
  ·rw[gB (V9 (by unfold o9;omega)),a6H l7 l7 l7];have:k+1 -d.length=0:=l7;rw[this];simp
 unfold Lib.itoa xx DU;by_cases hn:n<0
 ·rw[if_pos hn,if_pos hn,iI (O0 hn)];have e:kL (45::Lib.decDigits n.natAbs) 1 (o9 (45::Lib.decDigits n.natAbs))=some (Lib.decDigits n.natAbs):=by
   rw[IV l7 U6];simp
  rw[e,o8];exact rest (Lib.decDigits n.natAbs) [45] hd.1 hd.2 A7
 ·rw[if_neg hn,if_neg hn,gB (J6 l7)];have e:n.toNat=n.natAbs:=l7;rw[e];exact rest (Lib.decDigits n.natAbs) [] hd.1 hd.2 A7
theorem b3J{d:List UInt8}{u:Nat} :∀(h:d=Lib.decDigits u),∀c∈d,48<=c.toNat/\c.toNat<=57:=by intro h c hc;subst h;rw[Lib.decDigits_eq]at hc;obtain⟨t,_,rfl⟩:=ah.1 hc;unfold Lib.dg;have:u / 10^(Lib.nDigits u -1 -t) % 10<10:=Nat.mod_lt _ l7;generalize u / 10^(Lib.nDigits u -1 -t) % 10=r at this;simp;omega
theorem lY{u:Nat}{c:UInt8}(hc:c∈Lib.decDigits u):48<=c.toNat/\c.toNat<=57:=b3J rfl c hc
theorem LG{d:List UInt8}(h:∀c∈d,48<=c.toNat/\c.toNat<=57)(h1:1<=d.length):uC d=some (d,false):=by
 unfold uC;rw[iI (O0 (by unfold o9;omega))];match d,h1 with
 |c::r,_=>have e:sat (c::r) 0=some (c.toNat:Int):=rfl;have:=h c A7;rw[e,o8,gB (J3 l7)]
theorem Gf{d:List UInt8} :uC (45::d)=some (d,true):=by unfold uC;rw[iI (O0 (by unfold o9;simp))];have e:sat (45::d) 0=some (45:Int):=rfl;rw[e,o8,iI (O8 rfl),IV l7 U6,o8];simp
theorem b4l{k:Nat}{d:List UInt8}(hk:k<=100)(hd:d.length<=100):
  aS (λ(x_3:List UInt8)=>l9 (L9 (o9 x_3) (k:Int)) (o5 (fC [48] x_3) λ(x:List UInt8)=>some (Sum.inl x)) (some (Sum.inr x_3))) d=some (List.replicate (k+1 -d.length) 48++d):=by
 obtain⟨e,h1,h2⟩:=fP (f:=λ(x_3:List UInt8)=>l9 (L9 (o9 x_3) (k:Int)) (o5 (fC [48] x_3) λ(x:List UInt8)=>some (Sum.inl x)) (some (Sum.inr x_3))) (s:=d)
  (λs=>s.length<=102/\List.replicate (k+1 -s.length) 48++s=List.replicate (k+1 -d.length) 48++d) (λe=>e=List.replicate (k+1 -d.length) 48++d) (λs=>k+1 -s.length) ⟨l7,rfl⟩ l7 (by
   intro s ⟨hs,he⟩;by_cases hle:s.length<=k
   ·refine .inl ⟨48::s,?_,⟨by simp;omega,?_⟩,by simp;omega⟩
    ·rw[iI (V5 (by unfold o9;omega)),iQ U6];rfl
    ·rw[←he];have e1:k+1 -s.length=(k+1 -(48::s).length)+1:=by simp;omega
     rw[e1,nC];simp
   ·refine .inr ⟨s,?_,?_⟩
    ·rw[gB (V9 (by unfold o9;omega))]
    ·rw[←he,show k+1 -s.length=0 by omega];simp)
 rw[h1,h2]
theorem DC{n:Int}{k:Nat}(h:bQ n)(hk:1<=k/\k<=9):c7b n (k:Int)=some (xx n k):=by
 have hI:=h;unfold bQ at h;have ek:pF (kK (k:Int) 0) 9=(k:Int):=by unfold kK pF;split<;>split<;>omega
 unfold c7b Hl;have hd:=ul (u:=n.natAbs) l7;rw[o8,ek,gB (J3 l7),Ad hI,o8];have rest:∀(d:List UInt8) (b:Bool),1<=d.length->d.length<=20->
   (o5 (aS (λ(x_3:List UInt8)=>l9 (L9 (o9 x_3) (k:Int)) (o5 (fC [48] x_3) λ(x:List UInt8)=>some (Sum.inl x)) (some (Sum.inr x_3))) (d,b).1) λ(y:List UInt8)=>
    o5 (kL y 0 (H8 .i64 (o9 y) (k:Int))) λ(x_3:List UInt8)=>o5 (fC x_3 [46]) λ(x_4:List UInt8)=>o5 (kL y (H8 .i64 (o9 y) (k:Int)) (o9 y)) λ(x:List UInt8)=>
     o5 (fC x_4 x) λ(x:List UInt8)=>l9 (d,b).2 (o5 (fC [45] x) λ(x:List UInt8)=>some x) (some x))
   =some ((if b then[45]else[])++(let e:=List.replicate (k+1 -d.length) 48++d;e.take (e.length -k)++46::e.drop (e.length -k))):=by
  intro d b h1 h2;rw[b4l (d:=d) l7 l7,o8];generalize he:List.replicate (k+1 -d.length) 48++d=e;have hl:k<e.length/\e.length<=40:=by subst he;simp;omega
  obtain⟨c1,c2⟩:=a9f hl.1 l7;rw[c1,o8,iQ U6,o8,c2,o8,iQ U6,o8];cases b
  ·simp
  ·show o5 (fC [45] _) _=_;rw[iQ U6,o8];simp
 unfold Lib.itoa xx DU;by_cases hn:n<0
 ·rw[if_pos hn,if_pos hn,Gf,o8];exact rest (Lib.decDigits n.natAbs) true hd.1 hd.2
 ·rw[if_neg hn,if_neg hn];have e:n.toNat=n.natAbs:=l7;rw[e,LG (λc hc=>lY hc) hd.1,o8];exact rest (Lib.decDigits n.natAbs) false hd.1 hd.2
def FV(n:Int)(w:Nat):List UInt8:=List.replicate (w -(Lib.itoa n).length) 48++Lib.itoa n
theorem Bq{n:Int}{w:Nat}(h:bQ n)(hw:w<=4):(FV n w).length<=25:=by have:=yV h;unfold FV;simp;omega
theorem KW{n:Int}{w:Nat}(h:bQ n)(hw:w<=4):Fp n (w:Int)=some (FV n w):=by
 have hl:=yV h;unfold Fp;rw[iE h,o8];have e:kK 0 (H8 .i64 (w:Int) (o9 (Lib.itoa n)))=((w -(Lib.itoa n).length:Nat):Int):=by rw[O5 (by unfold bQ o9;omega)];unfold kK o9;split<;>omega
 rw[e,ZU l7 A7,c2p,o8,iQ U6,o8];rfl
theorem JH{n:Int}{w:Nat}(h:bQ n)(hw:w<=4):c7g n (w:Int)=some (FV n w):=by
 have hl:=yV h;unfold c7g;rw[Ad h,o8];show _=some (List.replicate (w -(Lib.itoa n).length) 48++Lib.itoa n);generalize Lib.itoa n=d at hl ⊢;obtain⟨e,h1,h2⟩:=fP (f:=λ(x:List UInt8)=>l9 (E8 (o9 x) (w:Int)) (o5 (fC [48] x) λ(x:List UInt8)=>some (Sum.inl x)) (some (Sum.inr x))) (s:=d)
  (λs=>s.length<=30/\List.replicate (w -s.length) 48++s=List.replicate (w -d.length) 48++d) (λe=>e=List.replicate (w -d.length) 48++d) (λs=>w -s.length) ⟨l7,rfl⟩ l7 (by
   intro s ⟨hs,he⟩;by_cases hle:s.length<w
   ·refine .inl ⟨48::s,?_,⟨by simp;omega,?_⟩,by simp;omega⟩
    ·rw[iI (O0 (by unfold o9;omega)),iQ U6];rfl
    ·rw[←he];have e1:w -s.length=(w -(48::s).length)+1:=by simp;omega
     rw[e1,nC];simp
   ·refine .inr ⟨s,?_,?_⟩
    ·rw[gB (J6 (by unfold o9;omega))]
    ·rw[←he,show w -s.length=0 by omega];simp)
 rw[h1,o8,h2]
def sS(d:Int):List UInt8:=if 0<=d/\d<=109572 then FV (jJ d).1 4++45::FV (jJ d).2.1 2++45::FV (jJ d).2.2 2 else[]
theorem b5g{a b c:List UInt8}(ha:a.length<=100)(hb:b.length<=100)(hc:c.length<=100){A C B:Option (List UInt8)}(eb:B=some b)(ec:C=some c):
  (o5 (fC a [45]) λx2=>o5 B λx3=>o5 (fC x2 x3) λx4=>o5 (fC x4 [45]) λx5=>o5 C λx=>o5 (fC x5 x) λx=>some x)=some (a++45::b++45::c):=by
 rw[iQ U6,o8,eb,o8,iQ U6,o8,iQ U6,o8,ec,o8,iQ U6,o8];simp
theorem yl{n:Int}(h1:-1000000<=n)(h2:n<=1000000):bQ n:=by unfold bQ;omega
theorem Fj(d:Int):Af d=some (sS d):=by
 unfold Af uk sS;by_cases h0:0<=d
 ·rw[iI (V5 h0),o8];by_cases h:d<=109572
  ·rw[V5 h,E5,o6,yT h0 h,o8,if_pos ⟨h0,h⟩];have hb:=Ee h0 h;have p1:=yl (n:=(jJ d).1) l7 l7;have p2:=yl (n:=(jJ d).2.1) l7 l7;have p3:=yl (n:=(jJ d).2.2) l7 l7;rw[show Fp (jJ d).1 4=_ from KW (w:=4) p1 l7,o8];have l1:=Bq (w:=4) p1 l7;have l2:=Bq (w:=2) p2 l7;have l3:=Bq (w:=2) p3 l7;exact b5g (A:=none) l7 l7 l7 (KW (w:=2) p2 l7) (KW (w:=2) p3 l7)
  ·rw[V9 l7,bH,o7,if_neg l7]
 ·rw[gB (V9 l7),o8,bH,o7,if_neg l7]
theorem UE(d:Int):c7i d=some (sS d):=by
 unfold c7i c6z sS;by_cases h0:0<=d
 ·rw[iI (V5 h0),o8];by_cases h:d<=109572
  ·rw[V5 h,E5,o6,Gg h0 h,o8,if_pos ⟨h0,h⟩];have hb:=Ee h0 h;have p1:=yl (n:=(jJ d).1) l7 l7;have p2:=yl (n:=(jJ d).2.1) l7 l7;have p3:=yl (n:=(jJ d).2.2) l7 l7;rw[show c7g (jJ d).1 4=_ from JH (w:=4) p1 l7,o8];have l1:=Bq (w:=4) p1 l7;have l2:=Bq (w:=2) p2 l7;have l3:=Bq (w:=2) p3 l7;exact b5g (A:=none) l7 l7 l7 (JH (w:=2) p2 l7) (JH (w:=2) p3 l7)
  ·rw[V9 l7,bH,o7,if_neg l7]
 ·rw[gB (V9 l7),o8,bH,o7,if_neg l7]
theorem Pj(d:Int):(sS d).length<=100:=by
 unfold sS;split
 ·rename_i h;have hb:=Ee h.1 h.2;have l1:=Bq (w:=4) (yl (n:=(jJ d).1) l7 l7) l7;have l2:=Bq (w:=2) (yl (n:=(jJ d).2.1) l7 l7) l7;have l3:=Bq (w:=2) (yl (n:=(jJ d).2.2) l7 l7) l7;simp;omega
 ·simp
theorem a1z:∀k:Fin 300,(Lib.decDigits (1900+k.val)).length=4:=by intro k;rw[Lib.decDigits_length];exact Lib.nDigits_unique 3 _ l7 (by have:=k.2;omega)
theorem b0E{n:Int}(h0:1900<=n)(h1:n<=2199):FV n 4=Lib.itoa n:=by
 unfold FV;have:(Lib.itoa n).length=4:=by unfold Lib.itoa;rw[if_neg l7];have:=a1z ⟨(n -1900).toNat,l7⟩;have e:1900+(n -1900).toNat=n.toNat:=l7;rw[←e];exact this
 rw[this];simp
theorem yI(t:Int×Int)(en:List bT):bV t en=Y9 t en:=by
 unfold bV Y9;by_cases h1:t.1=1
 ·simp[x8,h1,L9]
 by_cases h2:t.1=2
 ·simp[x8,h2,L9]
 by_cases h3:t.1=3
 ·simp[x8,h3,L9]
 by_cases h4:t.1=4
 ·simp[x8,h4,L9]
 by_cases h5:t.1=5
 ·simp[x8,h5,L9]
 by_cases h6:t.1=6
 ·simp[x8,h6,L9]
 ·simp only[x8,h1,h2,h3,h4,h5,h6,decide_false,o6,o8];by_cases h7:1<=t.1
  ·rw[iI (V5 h7),gB (V9 l7)]
  ·rw[gB (V9 l7)]
theorem QX(t:Int×Int)(en:List bT):lq t en=jb t en:=by unfold lq jb;rw[yI]
theorem a8y(n:Int)(t:Int×Int)(en:List bT):tZ n t en=BA n t en:=by unfold tZ BA;rw[QX]
theorem UI{v:V4}(en:List bT)(h:bQ v.2.2):oK v en=c7j v en:=by
 unfold oK c7j c6Z;rw[o8,yI];cases hv:Y9 (v.1,v.2.1) en with
 |none=>rfl|some b=>
  rw[o8,o8];cases b with
  |false=>rfl|true=>
   rw[E5,o6,o6];have e:c7k v en=tZ v.2.2 (v.1,v.2.1) en:=by unfold c7k c6Z;rw[o8,hv,o8,o7,o8,dZ,a8y]
   rw[e,iE h,Ad h,show aN v.2.2 2=_ from jR (k:=2) h l7,show c7b v.2.2 2=_ from DC (k:=2) h l7,
    show aN v.2.2 4=_ from jR (k:=4) h l7,show c7b v.2.2 4=_ from DC (k:=4) h l7,Fj,UE]
theorem Aw:reachBytes=140737488351232:=by decide+kernel
def a4R:D9:=([],-1,[],[],[])
def fG(l:V8)(i:Int):D9:=if 0<=i then(l.2.2[i.toNat]?).getD a4R else a4R
theorem JO(l:V8)(i:Int):ru l i=some (fG l i):=by
 unfold ru fG;by_cases h0:0<=i
 ·rw[gB (J6 h0),if_pos h0];by_cases h:i<o9 l.2.2
  ·rw[gB (V9 h)];obtain⟨x,hx,_⟩:=jZ h0 h;obtain⟨_,_,_,h4⟩:=dh hx;rw[hx,h4];rfl
  ·rw[iI (V5 l7),bu (by unfold o9 at h;omega)];rfl
 ·rw[iI (O0 l7),if_neg h0];rfl
theorem FP(l:V8)(i:Int):rq l i=some (fG l (fG l i).2.1):=by unfold rq;rw[JO,o8,JO];rfl
def vC{α:Type}(l:List (List UInt8×α))(i:Int):List UInt8:=if 0<=i then((l[i.toNat]?).map (·.1)).getD [63]else[63]
theorem ZC{α:Type}(l:List (List UInt8×α))(i:Int):l9 (E8 i 0) (some [63]) (l9 (L9 (o9 l) i) (some [63]) (o5 (G9 l i) λx=>some x.1))=some (vC l i):=by
 unfold vC;by_cases h0:0<=i
 ·rw[gB (J6 h0),if_pos h0];by_cases h:i<o9 l
  ·rw[gB (V9 h)];obtain⟨x,hx,_⟩:=jZ h0 h;obtain⟨_,_,_,h4⟩:=dh hx;rw[hx,h4];rfl
  ·rw[iI (V5 l7),bu (by unfold o9 at h;omega)];rfl
 ·rw[iI (O0 l7),if_neg h0]
theorem VJ(s:D9)(i:Int):vN s i=some (vC s.2.2.2.1 i):=ZC _ i
theorem Uk(s:D9)(i:Int):pX s i=some (vC s.2.2.2.2 i):=ZC _ i
theorem WW{α:Type}{l:List (List UInt8×α)}(h:∀x∈l,x.1.length<=reachBytes)(i:Int):(vC l i).length<=reachBytes:=by
 have hr:=Aw;unfold vC;split
 ·cases e:l[i.toNat]? with
  |none=>simp;omega|some x=>simp only[Y2,ai];obtain⟨h1,h2⟩:=Y6.1 e;rw[←h2];exact h _ (H7 h1)
 ·simp;omega
structure NamesOk (l:V8):Prop where
 defs:∀s∈l.2.2,∀d∈s.2.2.2.1,d.1.length<=reachBytes
 rules:∀s∈l.2.2,∀d∈s.2.2.2.2,d.1.length<=reachBytes
 mems:∀e∈l.1,e.2.length<=reachBytes/\∀m∈e.2,m.length<=reachBytes
theorem Un(l:V8)(i:Int):fG l i=a4R\/fG l i∈l.2.2:=by
 unfold fG;split
 ·cases e:l.2.2[i.toNat]? with
  |none=>exact .inl rfl|some x=>obtain⟨h1,h2⟩:=Y6.1 e;right;rw[ai,←h2];exact H7 h1
 ·exact .inl rfl
theorem NamesOk.def_len{l:V8}(h:NamesOk l)(k i:Int):(vC (fG l k).2.2.2.1 i).length<=reachBytes:=by
 refine WW (λx hx=>?_) i;rcases Un l k with e|e
 ·rw[e]at hx;cases hx
 ·exact h.defs _ e x hx
theorem NamesOk.rule_len{l:V8}(h:NamesOk l)(k i:Int):(vC (fG l k).2.2.2.2 i).length<=reachBytes:=by
 refine WW (λx hx=>?_) i;rcases Un l k with e|e
 ·rw[e]at hx;cases hx
 ·exact h.rules _ e x hx
theorem QP{v:Int×Int×Int}{en:List bT}(h:bQ v.2.2)(hm:∀e∈en,e.2.length<=reachBytes/\∀m∈e.2,m.length<=reachBytes):∃t,oK v en=some t/\t.1.length<=reachBytes:=by
 have hr:=Aw;unfold oK
 cases hv:bV (v.1,v.2.1) en with
 |none=>
  exfalso;rw[yI]at hv;unfold Y9 at hv;simp only[Fg]at hv
  repeat' split at hv
  all_goals cases hv
 |some b=>
  rw[o8];cases b with
  |false=>exact⟨_,rfl,A7⟩|true=>
   rw[E5,o6];unfold tZ lq;rw[hv];simp only[o8,E5,o6];have f1:=yV h;have f2:=IL (k:=2) h l7;have f4:=IL (k:=4) h l7;have f5:=Pj v.2.2;rw[iE h,show aN v.2.2 2=_ from jR (k:=2) h l7,show aN v.2.2 4=_ from jR (k:=4) h l7,Fj];simp only[o8];rw[iQ (a:=xx v.2.2 4) U6];simp only[o8];by_cases h1:v.1=1
   ·simp only[O8 h1,o7,o8];simp only[bb,o8];simp only[Fg];repeat' split
    all_goals exact⟨_,rfl,by first|omega|(simp<;>omega)⟩
   by_cases h2:v.1=2
   ·simp only[J3 h1,O8 h2,o7,o6,o8];simp only[bb,o8];simp only[Fg];repeat' split
    all_goals exact⟨_,rfl,by first|omega|(simp<;>omega)⟩
   by_cases h3:v.1=3
   ·simp only[J3 h1,J3 h2,O8 h3,o7,o6,o8];simp only[bb,o8];simp only[Fg];repeat' split
    all_goals exact⟨_,rfl,by first|omega|(simp<;>omega)⟩
   by_cases h4:v.1=4
   ·simp only[J3 h1,J3 h2,J3 h3,O8 h4,o7,o6,o8];simp only[bb,o8];simp only[Fg];repeat' split
    all_goals exact⟨_,rfl,by first|omega|(simp<;>omega)⟩
   by_cases h5:v.1=5
   ·simp only[J3 h1,J3 h2,J3 h3,J3 h4,O8 h5,o7,o6,o8];simp only[bb,o8];simp only[Fg];repeat' split
    all_goals exact⟨_,rfl,by first|omega|(simp<;>omega)⟩
   ·simp only[J3 h1,J3 h2,J3 h3,J3 h4,J3 h5,o6];have hk:v.1=6/\0<=v.2.1/\v.2.1<o9 en:=by
     unfold bV at hv;simp only[J3 h1,J3 h2,J3 h3,J3 h4,J3 h5,o6,o8]at hv;simp only[Fg,V6,lT]at hv;split at hv
     ·split at hv
      ·simp only[G8,jl]at hv;exact⟨by assumption,by assumption,hv⟩
      ·cases hv
     ·cases hv
    obtain⟨e,he,hmem⟩:=jZ hk.2.1 hk.2.2;rw[he];simp only[o8];have hle:=(hm e hmem).1;have hll:o9 e.2=(e.2.length:Int):=rfl;rw[O5 L8];by_cases hw0:0<=v.2.2
    ·by_cases hw1:v.2.2<=o9 e.2 -1
     ·rw[V5 hw0,o7,V5 hw1,o8,E5,o6];obtain⟨m,hm1,hm2⟩:=jZ (l:=e.2) hw0 l7;rw[hm1];exact⟨_,rfl,(hm e hmem).2 m hm2⟩
     ·rw[V5 hw0,o7,V9 (iV.1 hw1),o8,bH,o7];exact⟨_,rfl,A7⟩
    ·rw[V9 (iV.1 hw0),o6];exact⟨_,rfl,A7⟩
def vt(v:V4)(en:List bT):List UInt8:=(iq v en).getD []
theorem b5J{v:Int×Int×Int}{en:List bT}(h:bQ v.2.2)(hm:∀e∈en,e.2.length<=reachBytes/\∀m∈e.2,m.length<=reachBytes):iq v en=some (vt v en)/\c7f v en=some (vt v en)/\(vt v en).length<=reachBytes:=by
 have hr:=Aw;obtain⟨t,ht,hl⟩:=QP h hm;have e1:iq v en=some (vt v en)/\(vt v en).length<=reachBytes:=by
  unfold vt iq;rw[ht,o8];cases F6 (x8 t.2 0)
  ·exact⟨rfl,hl⟩
  ·exact⟨rfl,by simp;omega⟩
 refine⟨e1.1,?_,e1.2⟩;have e2:c7f v en=iq v en:=by unfold c7f iq;rw[UI en h]
 rw[e2];exact e1.1
def ln(head:List UInt8)(s:D9)(i:Nat)(t:List UInt8)(rules:List Int):List UInt8:=
 head++vC s.2.2.2.1 i++[32,61,32]++t++[32,98,121,32]++(match rules[i]? with|some r=>vC s.2.2.2.2 r|none=>[63])
theorem QO{l:V8}{k:Int}{v:Int×Int×Int}(hN:NamesOk l)(h:bQ v.2.2)(i:Nat)(rules:List Int):
  vO l (fG l k) i v rules=some (ln [] (fG l k) i (vt v l.1) rules):=by
 have hr:=Aw;obtain⟨v1,_,v3⟩:=b5J h hN.mems;have d1:=hN.def_len k i;unfold vO ln;simp only[VJ,Uk,v1,o8];by_cases hi:i<rules.length
 ·rw[iI (O0 (by unfold o9;omega)),G7,dX hi,o8];have d2:=hN.rule_len k rules[i];rw[iQ (by first|omega|(simp<;>omega)),o8,iQ (by first|omega|(simp<;>omega)),o8,iQ (by first|omega|(simp<;>omega)),o8,iQ (by first|omega|(simp<;>omega)),o8];simp
 ·rw[gB (J6 (by unfold o9;omega)),bu l7];rw[iQ (by first|omega|(simp<;>omega)),o8,iQ (by first|omega|(simp<;>omega)),o8,iQ (by first|omega|(simp<;>omega)),o8,iQ (by first|omega|(simp<;>omega)),o8];simp
theorem b6r{l:V8}{k:Int}{v:Int×Int×Int}(hN:NamesOk l)(h:bQ v.2.2)(i:Nat)(rules:List Int)(head:List UInt8):(ln head (fG l k) i (vt v l.1) rules).length<=head.length+3*reachBytes+10:=by
 obtain⟨v1,_,v3⟩:=b5J h hN.mems;have d1:=hN.def_len k i;unfold ln;cases e:rules[i]? with
 |none=>simp;omega|some r=>have d2:=hN.rule_len k r;simp;omega
def Lp{α:Type}(h:Nat->α->List UInt8):Nat->List α->List (List UInt8)
 |_,[]=>[]|i,a::l=>h i a::Lp h (i+1) l
theorem Zw{α:Type}(h:Nat->α->List UInt8):∀(l:List α) (i:Nat),(Lp h i l).length=l.length
 |[],_=>rfl|a::l,i=>by simp[Lp,Zw h l]
theorem Oi{α:Type}(h:Nat->α->List UInt8):∀(l:List α) (i:Nat) (acc:List (List UInt8)),xy (λacc i a=>acc++[h i a]) l i acc=acc++Lp h i l
 |[],_,acc=>by simp[xy,Lp]|a::l,i,acc=>by simp only[xy,Lp];rw[Oi h l (i+1)];simp
theorem xG{α:Type}{l:List α}{i:Nat}{a:α}(h:l[i]? =some a):a∈l/\i<l.length:=by obtain⟨h1,h2⟩:=Y6.1 h;exact⟨by rw[←h2];exact H7 h1,h1⟩
theorem uX{i:Nat}(h:i<=9000000000000000000):D6 .i64 (i:Int) 1=((i+1:Nat):Int):=by rw[U7 L8];omega
def GX(head:List UInt8)(l:V8)(k:Int)(vs:List V4)(rules:List Int):List (List UInt8):=Lp (λi v=>ln head (fG l k) i (vt v l.1) rules) 0 vs
def Dn{σ ε:Type}(f:σ->Option (σ⊕ε)):Nat->σ->σ->Prop
 |0,s,t=>s=t|n+1,s,t=>∃u,f s=some (.inl u)/\Dn f n u t
theorem Dn.trans{σ ε:Type}{f:σ->Option (σ⊕ε)} :∀{n m:Nat} {s t u:σ},Dn f n s t->Dn f m t u->Dn f (n+m) s u
 |0,m,s,t,u,h,k=>by simp only[Dn]at h;subst h;rw[dM];exact k|n+1,m,s,t,u,⟨v,h1,h2⟩,k=>by rw[show n+1+m=(n+m)+1 by omega];exact⟨v,h1,h2.trans k⟩
theorem Dn.one{σ ε:Type}{f:σ->Option (σ⊕ε)}{s t:σ}(h:f s=some (.inl t)):Dn f 1 s t:=⟨t,h,rfl⟩
theorem PR{σ ε:Type}{f:σ->Option (σ⊕ε)}{e:ε} :∀{n:Nat} {s t:σ} (k:Nat),Dn f n s t->f t=some (.inr e)->n<k->nZ f k s=some e
 |0,s,t,k+1,h,he,_=>by simp only[Dn]at h;subst h;unfold nZ;rw[he]|n+1,s,t,k+1,⟨u,h1,h2⟩,he,hk=>by unfold nZ;rw[h1];exact PR k h2 he l7|_,_,_,0,_,_,h=>by omega
theorem a1W{σ ε:Type}{f:σ->Option (σ⊕ε)}{e:ε}{n:Nat}{s t:σ}(h:Dn f n s t)(he:f t=some (.inr e))(hn:n<18446744073709551616):aS f s=some e:=PR _ h he hn
def NJ(a0:List UInt8)(x:List (List UInt8)×J8):Option ((List (List UInt8)×J8)⊕List (List UInt8)):=
   l9 (L9 x.2.2 (o9 a0))
    (o5
     (l9 (x8 x.2.2 (o9 a0))
      (l9 (L9 0 x.2.1)
       (o5 (kL a0 x.2.1 x.2.2) λ(x_1:List UInt8)=>
        o5 (iY x.1 [x_1]) λ(x_2:List (List UInt8))=>
         l9 (F6 true) (l9 (E8 (-1) 0) (some (x_2,x.2.2)) (some (x_2,-1))) (some (x_2,-1)))
       (l9 (F6 true) (l9 (E8 x.2.1 0) (some (x.1,x.2.2)) (some (x.1,x.2.1))) (some (x.1,x.2.1))))
      (o5 (sat a0 x.2.2) λ(x_1:Int)=>
       l9 (x8 x_1 32)
        (l9 (L9 0 x.2.1)
         (o5 (kL a0 x.2.1 x.2.2) λ(x_2:List UInt8)=>
          o5 (iY x.1 [x_2]) λ(x_3:List (List UInt8))=>
           l9 (F6 true) (l9 (E8 (-1) 0) (some (x_3,x.2.2)) (some (x_3,-1))) (some (x_3,-1)))
         (l9 (F6 true) (l9 (E8 x.2.1 0) (some (x.1,x.2.2)) (some (x.1,x.2.1))) (some (x.1,x.2.1))))
        (o5 (sat a0 x.2.2) λ(x_2:Int)=>
         l9 (x8 x_2 9)
          (l9 (L9 0 x.2.1)
           (o5 (kL a0 x.2.1 x.2.2) λ(x_3:List UInt8)=>
            o5 (iY x.1 [x_3]) λ(x_4:List (List UInt8))=>
             l9 (F6 (x8 x_2 9)) (l9 (E8 (-1) 0) (some (x_4,x.2.2)) (some (x_4,-1)))
              (some (x_4,-1)))
           (l9 (F6 (x8 x_2 9)) (l9 (E8 x.2.1 0) (some (x.1,x.2.2)) (some (x.1,x.2.1)))
            (some (x.1,x.2.1))))
          (l9 (F6 (x8 x_2 9)) (l9 (E8 x.2.1 0) (some (x.1,x.2.2)) (some (x.1,x.2.1)))
           (some (x.1,x.2.1))))))
     λ(x_1:List (List UInt8)×Int)=>some (Sum.inl (x_1.1,x_1.2,D6 IntKind.i64 x.2.2 1)))
    (some (Sum.inr x.1))
theorem UD(a0:List UInt8):tK a0=aS (NJ a0) ([],-1,0):=by unfold tK;rw[dZ];rfl
theorem a1w{a:List UInt8}{out:List (List UInt8)}{fr:Int}{i:Nat}{c:UInt8}(hc:a[i]? =some c)(h1:c≠32)(h2:c≠9)(hi:a.length<=1000000):
  NJ a (out,fr,(i:Int))=some (.inl (out,if fr<0 then(i:Int)else fr,((i+1:Nat):Int))):=by
 obtain⟨_,hlt⟩:=xG hc;have h1' :(c.toNat:Int)≠32:=λe=>h1 (by apply UInt8.toNat_inj.1;simp;omega);have h2' :(c.toNat:Int)≠9:=λe=>h2 (by apply UInt8.toNat_inj.1;simp;omega);unfold NJ;simp only[zQ,hc,Y2,o8];rw[V5 (by unfold o9;omega),o7,J3 (by unfold o9;omega),o6,J3 h1',o6,J3 h2',o6,bH,o7,uX l7];by_cases hf:fr<0
 ·rw[O0 hf,if_pos hf];rfl
 ·rw[J6 l7,if_neg hf];rfl
theorem a7e{a:List UInt8}{out:List (List UInt8)}{fr i:Nat}(hc:a[i]? =none\/a[i]? =some 32)(hfi:fr<=i)(hil:i<=a.length)(hi:a.length<=1000000)(ho:out.length<=1000000):
  NJ a (out,(fr:Int),(i:Int))=some (.inl (out++[(a.take i).drop fr],-1,((i+1:Nat):Int))):=by
 unfold NJ;simp only;rw[V5 (by unfold o9;omega),o7,uX l7,V5 (show(0:Int)<=(fr:Int) by omega)];have e:kL a (fr:Int) (i:Int)=some ((a.take i).drop fr):=by rw[M_ l7 l7 l7];simp
 rw[e];simp only[o8];rw[GU (by simp only[F5,aP];omega)];rcases hc with hc|hc
 ·have:i=a.length:=by have:=List.getElem?_eq_none_iff.1 hc;omega
  rw[O8 (by unfold o9;omega)];rfl
 ·obtain⟨_,hlt⟩:=xG hc;rw[J3 (by unfold o9;omega),o6,zQ,hc];rfl
theorem a7d{a:List UInt8}{out:List (List UInt8)}{fr:Int}{i:Nat}(h:a.length<i):NJ a (out,fr,(i:Int))=some (.inr out):=by unfold NJ;simp only;rw[V9 (by unfold o9;omega)];rfl
def KC(w:List UInt8):Prop:=w≠[]/\∀c∈w,c≠32/\c≠9
def yK:List (List UInt8)->List UInt8
 |[]=>[]|[w]=>w|w::w' ::ws=>w++32::yK (w' ::ws)
theorem XZ{pre w rest:List UInt8}{out:List (List UInt8)}(hw:KC w)(hl:(pre++w++rest).length<=1000000)(hr:rest=[]\/∃r,rest=32::r)(ho:out.length<=1000000):
  Dn (NJ (pre++w++rest)) (w.length+1) (out,-1,(pre.length:Int)) (out++[w],-1,((pre.length+w.length+1:Nat):Int)):=by
 have hpos:1<=w.length:=by have:=hw.1;cases w<;>simp_all
 have at_w:∀j (hj:j<w.length),(pre++w++rest)[pre.length+j]? =some w[j]:=λj hj=>by rw[E9,F7 l7,J9 l7,dX l7];congr 1;simp
 have run:∀j,1<=j->j<=w.length->Dn (NJ (pre++w++rest)) j (out,-1,(pre.length:Int)) (out,(pre.length:Int),((pre.length+j:Nat):Int)):=by
  intro j;induction j with
  |zero=>intro h;omega|succ j ih=>
   intro _ hj;have hc:=at_w j l7;have hm:=hw.2 w[j] (H7 l7);cases j with
   |zero=>refine Dn.one ?_;rw[show(pre.length:Int)=((pre.length+0:Nat):Int) by simp,a1w hc hm.1 hm.2 hl];simp|succ j=>refine(ih l7 l7).trans (Dn.one ?_);rw[a1w hc hm.1 hm.2 hl,if_neg l7];rfl
 refine(run w.length hpos (F9 _)).trans (Dn.one ?_);rw[a7e _ l7 (by simp<;>omega) hl ho]
 ·congr 4;rw[E9,List.take_append,rO];simp
 ·rcases hr with rfl|⟨r,rfl⟩
  ·left;simp
  ·right;rw[F7 A7];simp
theorem Pz:∀(ws:List (List UInt8)) (w:List UInt8) (pre:List UInt8) (out:List (List UInt8)),(∀v∈w::ws,KC v)->(pre++yK (w::ws)).length<=1000000->out.length+(w::ws).length<=1000->
  ∃n,n<=2000000/\pre.length+n=(pre++yK (w::ws)).length+1/\Dn (NJ (pre++yK (w::ws))) n (out,-1,(pre.length:Int)) (out++w::ws,-1,(((pre++yK (w::ws)).length+1:Nat):Int))
 |[],w,pre,out,hw,hl,ho=>by
  have e:pre++yK [w]=pre++w++[]:=by simp[yK]
  rw[e]at hl ⊢;refine⟨w.length+1,by simp at hl;omega,by simp;omega,?_⟩;have:=XZ (out:=out) (hw w A7) hl (.inl rfl) (by simp at ho;omega);simpa[iL]using this
 |w' ::ws,w,pre,out,hw,hl,ho=>by
  have e:pre++yK (w::w' ::ws)=pre++w++(32::yK (w' ::ws)):=by simp[yK]
  have e2:pre++yK (w::w' ::ws)=(pre++w++[32])++yK (w' ::ws):=by simp[yK]
  have s1:=XZ (pre:=pre) (w:=w) (rest:=32::yK (w' ::ws)) (out:=out) (hw w A7) (by rw[←e];exact hl) (.inr ⟨_,rfl⟩) (by simp at ho;omega);obtain⟨n,h1,h2,h3⟩:=Pz ws w' (pre++w++[32]) (out++[w]) (λv hv=>hw v (U4 _ hv)) (by rw[←e2];exact hl) (by simp at ho ⊢;omega);rw[←e]at s1;rw[←e2]at h2 h3;have hlen:(pre++w++[32]).length=pre.length+w.length+1:=by simp;omega
  rw[hlen]at h2 h3;refine⟨w.length+1+n,?_,l7,?_⟩
  ·omega
  ·have:=s1.trans h3;simpa using this
theorem YZ{w:List UInt8}{ws:List (List UInt8)}(hw:∀v∈w::ws,KC v)(hl:(yK (w::ws)).length<=1000000)(ho:(w::ws).length<=1000):tK (yK (w::ws))=some (w::ws):=by rw[UD];obtain⟨n,h1,_,h3⟩:=Pz ws w [] [] hw (by simpa using hl) (by simpa using ho);simp only[H6]at h3;exact a1W h3 (a7d l7) l7
def val(l:List UInt8):Nat:=l.foldl (λa c=>10*a+(c.toNat -48)) 0
theorem a3k(l:List UInt8)(c:UInt8):val (l++[c])=10*val l+(c.toNat -48):=by simp[val]
theorem QM(u:Nat):val (Lib.decDigits u)=u:=by
 induction u using Nat.strongRecOn with
 |_ u ih=>
  rw[Lib.decDigits];by_cases h:u<10
  ·rw[dif_pos h];show 10*0+((UInt8.ofNat (48+u)).toNat -48)=u;simp;omega
  ·rw[dif_neg h,a3k,ih (u / 10) l7];simp;omega
theorem VI(u:Nat):∀c r,Lib.decDigits u=c::r->10<=u->c≠48:=by
 induction u using Nat.strongRecOn with
 |_ u ih=>
  intro c r e h;rw[Lib.decDigits,dif_neg l7]at e;by_cases h2:u / 10<10
  ·rw[Lib.decDigits,dif_pos h2]at e;simp only[S9,H6,H5]at e;rw[←e.1];intro e3;have:=congrArg UInt8.toNat e3;simp at this;omega
  ·cases hd:Lib.decDigits (u / 10)with
   |nil=>have:=(Lib.decDigits_length (u / 10)).symm.trans (congrArg List.length hd);have:=Lib.nDigits_pos (u / 10);simp_all|cons c' r' =>rw[hd]at e;simp only[S9,H5]at e;rw[←e.1];exact ih (u / 10) l7 c' r' hd l7
theorem WT:∀(k u:Nat),u<10^k->1<=k->Lib.nDigits u<=k
 |0,_,_,h=>by omega|k+1,u,h,_=>by
  by_cases h10:u<10
  ·rw[Lib.nDigits_small h10];omega
  ·rw[Lib.nDigits_big h10];cases k with
   |zero=>simp at h;omega|succ k=>have:=WT (k+1) (u / 10) (by rw[Nat.pow_succ]at h;omega) l7;omega
def Dig(l:List UInt8):Prop:=∀c∈l,48<=c.toNat/\c.toNat<=57
theorem Jg{l:List UInt8}(h:Dig l)(h1:1<=l.length)(h2:l.length<=1000000):sJ l=some true:=by
 unfold sJ;refine U9 (Aq l (λ_ _=>true) false PUnit.unit _ l7 (λi c hc=>?_) ?_) ?_
 rotate_left 2
 ·simp only[implies_true,if_true,o8,N7];rw[O0 (by unfold o9;omega)]
 ·obtain⟨hm,hi⟩:=xG hc;have hb:=h c hm;simp only[zQ,hc,Y2,o8];rw[O0 (by unfold o9;omega),o7,J6 l7,o6,J6 l7,o6,uX l7];simp
 ·rw[J6 (by unfold o9;omega)];rfl
theorem wL{u:Nat}(hu:u<=1152921504606846976)(b:Bool):mF (Lib.decDigits u) b=some (if b then -(u:Int)else u,0):=by
 have hlen:(Lib.decDigits u).length<=19:=by
  rw[Lib.decDigits_length];exact WT 19 u (by
    have e:(10:Nat)^19=10000000000000000000:=by decide+kernel
    omega) l7
 have hd:Dig (Lib.decDigits u):=λc hc=>lY hc;unfold mF;rw[gB (J6 (by unfold o9;omega))];generalize hD:Lib.decDigits u=D at hlen hd;refine U9 (GY D (λ(a:Int) i (c:UInt8)=>10*a+((c.toNat:Int) -48)) (λb=>b) _ (λi a=>0<=a/\a<(10:Int)^i) (b:=0) l7 A7 (λa i c hc hI=>?_) (λa hI=>?_)).1 ?_
 rotate_left 2
 ·have hf:xy (λ(a:Int) i (c:UInt8)=>10*a+((c.toNat:Int) -48)) D 0 0=(u:Int):=by
   have key:∀(l:List UInt8) (i:Nat) (a:Nat),Dig l->xy (λ(a:Int) i (c:UInt8)=>10*a+((c.toNat:Int) -48)) l i (a:Int)=((l.foldl (λa c=>10*a+(c.toNat -48)) a:Nat):Int):=by
    intro l;induction l with
    |nil=>intro i a _;rfl|cons c r ih=>intro i a hl;simp only[xy,Y1];have:=hl c A7;rw[←ih (i+1) _ λx hx=>hl x (by simp[hx])];congr 1;omega
   have:=key D 0 0 hd;rw[show((0:Nat):Int)=0 from rfl]at this;rw[this,←hD];exact congrArg Int.ofNat (QM u)
  rw[o8,hf,gB (J6 l7),show wrap .i64 (u:Int)=u from kX L8];cases b
  ·rfl
  ·rw[o7,O5 L8];simp
 ·obtain⟨hm,hi⟩:=xG hc;have hb:=hd c hm;have hp:(10:Int)^(i+1)=10*10^i:=by rw[Int.pow_succ];omega
  have hle:(10:Int)^i<=10^18:=by
   have:(10:Nat)^i<=10^18:=Nat.pow_le_pow_right l7 l7
   exact_mod_cast this
  have h18:(10:Int)^18=1000000000000000000:=by decide+kernel
  refine⟨?_,?_⟩
  ·simp only[zQ,hc,Y2,o8];have e8:H8 .u8 (c.toNat:Int) 48=(c.toNat:Int) -48:=by
    unfold H8 IntKind.wrap;simp[IntKind.signed,IntKind.bits];omega
   rw[O0 (by unfold o9;omega),o7,e8,show wrap .u64 ((c.toNat:Int) -48)=_ from Gs (by unfold U64;omega),a9A (by unfold U64;omega),Wq (by unfold U64;omega),uX l7]
  ·rw[hp];omega
 ·rw[J6 (by unfold o9;omega)];rfl
theorem b3a{u:Nat}(hu:u<18446744073709551616)(z:Nat)(hz:z<=100):
  aS (λ(x:List UInt8)=>l9 (E8 1 (o9 x)) (o5 (sat x 0) λ(x_4:Int)=>l9 (x8 x_4 48) (o5 (kL x 1 (o9 x)) λ(x:List UInt8)=>some (Sum.inl x)) (some (Sum.inr x))) (some (Sum.inr x)))
   (List.replicate z 48++Lib.decDigits u)=some (Lib.decDigits u):=by
 have hl:=ul hu;obtain⟨e,h1,h2⟩:=fP (f:=(λ(x:List UInt8)=>l9 (E8 1 (o9 x)) (o5 (sat x 0) λ(x_4:Int)=>l9 (x8 x_4 48) (o5 (kL x 1 (o9 x)) λ(x:List UInt8)=>some (Sum.inl x)) (some (Sum.inr x))) (some (Sum.inr x))))
  (s:=List.replicate z 48++Lib.decDigits u) (λs=>∃j,j<=100/\s=List.replicate j 48++Lib.decDigits u) (λe=>e=Lib.decDigits u) (λs=>s.length) ⟨z,hz,rfl⟩ U6 (by
   rintro s ⟨j,hj,rfl⟩;cases j with
   |zero=>
    right;simp only[oD,H6];refine⟨_,?_,rfl⟩;by_cases h1:1<(Lib.decDigits u).length
    ·rw[iI (O0 (by unfold o9;omega))];cases hd:Lib.decDigits u with
     |nil=>rw[hd]at h1;simp at h1|cons c r=>
      have e:sat (c::r) 0=some (c.toNat:Int):=rfl;rw[e,o8,gB (J3 ?_)];have hne:=VI u c r hd (by
       rcases mi u 10 with hlt|hge
       ·rw[Lib.decDigits,dif_pos hlt]at h1;simp at h1
       ·exact hge)
      intro e2;exact hne (by apply UInt8.toNat_inj.1;simp;omega)
    ·rw[gB (J6 (by unfold o9;omega))]
   |succ j=>left;refine⟨List.replicate j 48++Lib.decDigits u,?_,⟨j,l7,rfl⟩,A7⟩;simp only[dY,S9];have e:sat (48::(List.replicate j 48++Lib.decDigits u)) 0=some 48:=rfl;rw[iI (O0 (by unfold o9;simp;omega)),e,o8,iI (O8 rfl),IV l7 (by simp<;>omega),o8];simp)
 rw[h1,h2]
theorem Ua{n:Int}{k:Nat}(h:-1152921504606846976<=n/\n<=1152921504606846976)(hk:1<=k/\k<=9):oh (xx n k) (k:Int)=some (n,0):=by
 have hu:n.natAbs<=1152921504606846976:=l7;have hl:=ul (u:=n.natAbs) l7;have hd:Dig (Lib.decDigits n.natAbs):=λc hc=>lY hc;unfold oh Hl;rw[o8,show pF (kK (k:Int) 0) 9=(k:Int) by unfold pF kK;split<;>split<;>omega,gB (J3 l7)];generalize hz:k+1 -(Lib.decDigits n.natAbs).length=z;have hzl:z<=k:=l7;have hT:DU n.natAbs k=(List.replicate z 48++Lib.decDigits n.natAbs).take ((List.replicate z 48++Lib.decDigits n.natAbs).length -k)++46::(List.replicate z 48++Lib.decDigits n.natAbs).drop ((List.replicate z 48++Lib.decDigits n.natAbs).length -k):=by unfold DU;rw[hz]
 have hS:uC (xx n k)=some (DU n.natAbs k,decide (n<0)):=by
  unfold xx;by_cases hn:n<0
  ·rw[if_pos hn,Gf,decide_eq_true hn]
  ·rw[if_neg hn,decide_eq_false hn];rw[hT];unfold uC;have hne:(List.replicate z 48++Lib.decDigits n.natAbs).take ((List.replicate z 48++Lib.decDigits n.natAbs).length -k)≠[]:=by
    intro e;have:=congrArg List.length e;simp at this;omega
   cases he:(List.replicate z 48++Lib.decDigits n.natAbs).take ((List.replicate z 48++Lib.decDigits n.natAbs).length -k)with
   |nil=>exact absurd he hne|cons c r=>
    have hc:c∈List.replicate z 48++Lib.decDigits n.natAbs:=jV (by rw[he];simp);have hb:48<=c.toNat/\c.toNat<=57:=by
     rcases D8.1 hc with hc|hc
     ·have:=iC hc;subst this;decide
     ·exact hd c hc
    rw[iI (O0 (by unfold o9;simp;omega))];have e:sat (c::r++46::(List.replicate z 48++Lib.decDigits n.natAbs).drop ((List.replicate z 48++Lib.decDigits n.natAbs).length -k)) 0=some (c.toNat:Int):=rfl;rw[e,o8,gB (J3 l7)]
 rw[hS,o8,hT];have hE:Dig (List.replicate z 48++Lib.decDigits n.natAbs):=λc hc=>by
  rcases D8.1 hc with hc|hc
  ·have:=iC hc;subst this;decide
  ·exact hd c hc
 have hEl:k+1<=(List.replicate z 48++Lib.decDigits n.natAbs).length/\(List.replicate z 48++Lib.decDigits n.natAbs).length<=31:=by simp;omega
 have hst:=b3a (u:=n.natAbs) l7 z l7;have hlead:k+1<(List.replicate z 48++Lib.decDigits n.natAbs).length->∀c,(List.replicate z 48++Lib.decDigits n.natAbs)[0]? =some c->c≠48:=by
  intro h3 c hc;have hz0:z=0:=by simp at h3;omega
  subst hz0;simp only[oD,H6]at h3 hc;cases hdd:Lib.decDigits n.natAbs with
  |nil=>rw[hdd]at hc;cases hc|cons c' r' =>
   rw[hdd]at hc;cases hc;refine VI n.natAbs _ _ hdd ?_;rcases mi n.natAbs 10 with hlt|hge
   ·rw[Lib.decDigits,dif_pos hlt]at h3;simp at h3<;>omega
   ·exact hge
 generalize hEq:List.replicate z 48++Lib.decDigits n.natAbs=E at hE hEl hst hlead;generalize hTt:E.take (E.length -k)++46::E.drop (E.length -k)=T;have hTl:T.length=E.length+1:=by subst hTt;simp;omega
 have eat:H8 .i64 (H8 .i64 (o9 T) (k:Int)) 1=((E.length -k:Nat):Int):=by unfold o9;have e1:H8 .i64 (T.length:Int) (k:Int)=(T.length:Int) -(k:Int):=O5 L8;rw[e1,O5 L8];omega
 have eat1:D6 .i64 ((E.length -k:Nat):Int) 1=((E.length -k+1:Nat):Int):=by rw[U7 L8];omega
 have t46:T[E.length -k]? =some 46:=by subst hTt;rw[F7 A7];simp
 have tlo:kL T 0 ((E.length -k:Nat):Int)=some (E.take (E.length -k)):=by rw[UN l7 l7];subst hTt;rw[J5,ae A7,gV];simp
 have thi:kL T ((E.length -k+1:Nat):Int) (o9 T)=some (E.drop (E.length -k)):=by rw[IV l7 l7];subst hTt;rw[J5,show E.length -k+1=(E.take (E.length -k)).length+1 by simp<;>omega,rO];simp
 simp only[eat,eat1,zQ,t46,Y2,o8,tlo,thi];rw[gB (J6 l7),show((46:UInt8).toNat:Int)=46 from rfl,O8 rfl,E5,o6,
  Jg (λc hc=>hE c (jV hc)) U6 U6,o8,E5,o6,
  Jg (λc hc=>hE c (yM hc)) U6 U6,o8,E5,o6]
 have hjoin:fC (E.take (E.length -k)) (E.drop (E.length -k))=some E:=by rw[iQ (by first|omega|(simp<;>omega)),eY]
 have fin:(o5 (fC (E.take (E.length -k)) (E.drop (E.length -k))) λ(x:List UInt8)=>
   o5 (aS (λ(x:List UInt8)=>l9 (E8 1 (o9 x)) (o5 (sat x 0) λ(x_4:Int)=>l9 (x8 x_4 48) (o5 (kL x 1 (o9 x)) λ(x:List UInt8)=>some (Sum.inl x)) (some (Sum.inr x))) (some (Sum.inr x))) x) λ(y:List UInt8)=>
    l9 (decide (n<0)) (l9 (seq y [48]) (some (0,2)) (o5 (mF y (decide (n<0))) λ(x:J8)=>some x)) (o5 (mF y (decide (n<0))) λ(x:J8)=>some x))=some (n,0):=by
  rw[hjoin,o8,hst,o8,wL hu,o8];by_cases hn:n<0
  ·rw[decide_eq_true hn,o7,(a0v).2,o6,if_pos rfl]
   ·congr 2;omega
   ·intro e;have e2:=congrArg val e;rw[QM]at e2;have e3:val [48]=0:=by decide+kernel
    omega
  ·rw[decide_eq_false hn,o6,if_neg A7];congr 2;omega
 by_cases h1:1<((E.length -k:Nat):Int)
 ·obtain⟨c,hc⟩:∃c,T[0]? =some c:=⟨T[0]'l7,dX l7⟩;have hc0:E[0]? =some c:=by
   rw[←hTt,J9 U6,di l7]at hc;exact hc
  have hcne:=hlead l7 c hc0;have e0:sat T 0=some (c.toNat:Int):=by have:=zQ T 0;rw[hc]at this;exact this
  rw[iI (O0 h1),e0,o8,gB (J3 (λe=>hcne (by apply UInt8.toNat_inj.1;simp;omega))),o8,N7];exact fin
 ·rw[gB (J6 l7),o8,N7];exact fin
theorem a2o{n:Int}(h:-1152921504606846976<=n/\n<=1152921504606846976):vH (Lib.itoa n)=some (n,0):=by
 have hu:n.natAbs<=1152921504606846976:=l7;have hl:=ul (u:=n.natAbs) l7;have hd:Dig (Lib.decDigits n.natAbs):=λc hc=>lY hc;have hS:uC (Lib.itoa n)=some (Lib.decDigits n.natAbs,decide (n<0)):=by
  unfold Lib.itoa;by_cases hn:n<0
  ·rw[if_pos hn,Gf,decide_eq_true hn]
  ·rw[if_neg hn,decide_eq_false hn,show n.toNat=n.natAbs by omega,LG hd hl.1]
 unfold vH;rw[hS,o8];simp only;rw[Jg hd hl.1 l7,o8,E5,o6,wL hu,o8];have fin:l9 (decide (n<0)) (l9 (seq (Lib.decDigits n.natAbs) [48]) (some (0,2)) (some ((if decide (n<0)=true then -(n.natAbs:Int)else(n.natAbs:Int)),(0:Int)))) (some ((if decide (n<0)=true then -(n.natAbs:Int)else(n.natAbs:Int)),(0:Int)))=some (n,0):=by
  by_cases hn:n<0
  ·rw[decide_eq_true hn,o7,(a0v).2,o6,if_pos rfl]
   ·congr 2;omega
   ·intro e;have e2:=congrArg val e;rw[QM]at e2;have e3:val [48]=0:=by decide+kernel
    omega
  ·rw[decide_eq_false hn,o6,if_neg A7];congr 2;omega
 cases h1:E8 1 (o9 (Lib.decDigits n.natAbs))
 ·rw[o6];exact fin
 ·rw[o7];have h10:10<=n.natAbs:=by
   rcases mi n.natAbs 10 with hlt|hge
   ·rw[Lib.decDigits,dif_pos hlt]at h1;cases h1
   ·exact hge
  cases hdd:Lib.decDigits n.natAbs with
  |nil=>rw[hdd]at hl;simp at hl|cons c r=>have hc:=VI n.natAbs c r hdd h10;rw[show sat (c::r) 0=some (c.toNat:Int)from rfl,o8,J3 (λe=>hc (by apply UInt8.toNat_inj.1;simp;omega)),o6,←hdd];exact fin
end Gt
namespace Gt
open Go Go.GP
set_option maxRecDepth 100000
theorem EO{l:List UInt8}(h:l≠[])(hc:∀c∈l,33<=c.toNat):KC l:=
 ⟨h,λc hm=>⟨λe=>by have:=hc c hm;subst e;simp at this,λe=>by have:=hc c hm;subst e;simp at this⟩⟩
theorem a5W{n:Int} :∀c∈Lib.itoa n,33<=c.toNat:=by
 intro c hc;unfold Lib.itoa at hc;split at hc
 ·rcases A8.1 hc with rfl|hc
  ·decide
  ·have:=lY hc;omega
 ·have:=lY hc;omega
theorem W_{n:Int}{w:Nat} :∀c∈FV n w,33<=c.toNat:=by
 intro c hc;unfold FV at hc;rcases D8.1 hc with hc|hc
 ·have:=iC hc;subst this;decide
 ·exact a5W c hc
theorem VY(n:Int)(k:Nat):KC (xx n k):=by
 refine EO ?_ ?_
 ·unfold xx DU;split<;>simp
 ·have hU:∀c∈DU n.natAbs k,33<=c.toNat:=by
   intro c hc;unfold DU at hc;have hE:∀c∈List.replicate (k+1 -(Lib.decDigits n.natAbs).length) 48++Lib.decDigits n.natAbs,33<=c.toNat:=by
    intro c hc;rcases D8.1 hc with hc|hc
    ·have:=iC hc;subst this;decide
    ·have:=lY hc;omega
   rcases D8.1 hc with hc|hc
   ·exact hE c (jV hc)
   ·rcases A8.1 hc with rfl|hc
    ·decide
    ·exact hE c (yM hc)
  intro c hc;unfold xx at hc;split at hc
  ·rcases A8.1 hc with rfl|hc
   ·decide
   ·exact hU c hc
  ·exact hU c hc
theorem ER{s:List UInt8}(h:wP s=true):KC s/\s.length<=16:=by
 cases s with
 |nil=>cases h|cons c r=>rw[RG]at h;simp only[C9]at h;obtain⟨⟨⟨h1,h2⟩,h3⟩,h4⟩:=h;refine⟨EO A7 λx hx=>?_,of_decide_eq_true h1⟩;have hw:=ja.1 h3 x hx;unfold AL PS at hw;simp only[lL,C9,decide_eq_true_eq]at hw;omega
theorem a7a{d:Int}(h:0<=d/\d<=109572):KC (sS d)/\(sS d).length<=100:=by
 refine⟨?_,Pj d⟩;unfold sS;rw[if_pos h];refine EO A7 λc hc=>?_;rcases D8.1 hc with hc|hc
 ·rcases D8.1 hc with hc|hc
  ·exact W_ c hc
  ·rcases A8.1 hc with rfl|hc
   ·decide
   ·exact W_ c hc
 ·rcases A8.1 hc with rfl|hc
  ·decide
  ·exact W_ c hc
theorem Zq(n:Int):KC (Lib.itoa n):=by
 refine EO ?_ a5W;unfold Lib.itoa;split
 ·simp
 ·intro e;have h1:=Lib.decDigits_length n.toNat
  rw[e]at h1;have:1<=Lib.nDigits n.toNat:=Lib.nDigits_pos _;simp at h1;omega
end Gt
namespace Go.GP
open Gt
set_option linter.unusedVariables false
set_option linter.unusedSimpArgs false
set_option maxRecDepth 100000
theorem VR{l:V8}(h:(eG l).1=0){e:bT}(he:e∈l.1){i:Nat}{m:List UInt8}(hm:e.2[i]? =some m):wP m=true/\∀x∈e.2.take i,x≠m:=by
 unfold eG at h;cases h1:x8 (DR l).1 0<;>rw[h1]at h
 ·simp only[o6]at h;rw[O8 h]at h1;cases h1
 have h1:=V6.1 h1;unfold DR at h1;cases h2:E8 8 (o9 l.1)<;>rw[h2]at h1
 case true=>exact absurd (show(4:Int)=0 from h1) D7
 simp only[o6]at h1;obtain⟨j,hj,e1⟩:=J7 he;have hn:=FB (n:=l.1.length) (p:=GM l) (λr hf=>by
  rw[hf]at h1;obtain⟨j,_,hj⟩:=bW hf;unfold GM at hj;split at hj
  ·exact IG hj h1
  ·cases hj) j hj
 unfold GM at hn;rw[dX hj,e1]at hn;have hz:=Rt hn;unfold Pn at hz;cases g1:wP e.1<;>rw[g1]at hz
 ·exact absurd (show(2:Int)=0 from hz) D7
 cases g2:BQ l 1 j e.1<;>rw[g2]at hz
 case true=>exact absurd (show(7:Int)=0 from hz) D7
 cases g3:x8 (o9 e.2) 0<;>rw[g3]at hz
 case true=>exact absurd (show(5:Int)=0 from hz) D7
 cases g4:E8 16 (o9 e.2)<;>rw[g4]at hz
 case true=>exact absurd (show(4:Int)=0 from hz) D7
 simp only[o7,o6]at hz;have hmem:∀i<e.2.length,PU e.2 i=none:=by
  intro i hi;cases hf:(List.range e.2.length).findSome? (PU e.2)with
  |none=>exact jo.1 hf i (ay.2 hi)|some r=>
   exfalso;rw[hf]at hz;obtain⟨q,_,hq⟩:=jP hf;unfold PU at hq;cases hv:e.2[q]? with
   |none=>rw[hv]at hq;cases hq|some x=>
    rw[hv]at hq;simp only at hq;cases k1:wP x<;>rw[k1]at hq
    ·cases hq;exact absurd (show(2:Int)=0 from hz) D7
    ·cases k2:(e.2.take q).any λy=>seq x y<;>rw[k2]at hq
     ·cases hq
     ·cases hq;exact absurd (show(7:Int)=0 from hz) D7
 have hi:=(Y6.1 hm).1;have hp:=hmem i hi;unfold PU at hp;rw[hm]at hp;simp only at hp;cases k1:wP m<;>rw[k1]at hp
 ·cases hp
 cases k2:(e.2.take i).any λy=>seq m y<;>rw[k2]at hp
 ·refine⟨rfl,λx hx e=>?_⟩;have:=iK.1 k2 x hx;exact this (Hu.2 e.symm)
 ·cases hp
theorem a9k{l:V8}(h:(eG l).1=0){i:Nat}{s:D9}(hs:l.2.2[i]? =some s){j:Nat}{f:jq}(hf:s.2.2.2.1[j]? =some f):wP f.1=true:=by
 have hp:=(Je h hs).2;unfold Lt at hp;cases h1:yg l s with
 |some q=>rw[h1]at hp;exact absurd hp (Du h1)|none=>
  unfold yg at h1;cases h2:Z8 s.2.2.1.length (inP l s)with
  |some q=>rw[h2]at h1;cases h1|none=>
   rw[h2]at h1;have hn:=qi h1 j (Y6.1 hf).1;unfold Yf at hn;rw[hf]at hn;simp only at hn;unfold Pv at hn;cases he:x8 (DT l.1 f s.2.2.1 (s.2.2.2.1.take j)) 0<;>rw[he]at hn
   ·cases hn
   have he:=V6.1 he;unfold DT at he;cases g1:wP f.1<;>rw[g1]at he;exact absurd (show(2:Int)=0 from he) D7
theorem a6B{l:V8}(h:(eG l).1=0){i:Nat}{s:D9}(hs:l.2.2[i]? =some s){j:Nat}{r:gy}(hr:s.2.2.2.2[j]? =some r):wP r.1=true:=(b6I (XW h hs hr)).id
end Go.GP
namespace Gt
open Go Go.GP
set_option maxRecDepth 100000
theorem b0a(y:Int):∀(n:Nat) (d:Int),n<=12->0<=d->d<rem y n->
  qZ y (12 -n)+d=qZ y ((mo y n d).2 -1).toNat+(mo y n d).1
 |0,d,_,h0,h=>by simp[rem]at h;omega|n+1,d,hn,h0,h=>by
  have e:dim y (12 -(n:Int))=dim y (((12 -(n+1):Nat):Int)+1):=by congr 1;omega
  have hs:qZ y (12 -n)=qZ y (12 -(n+1))+dim y (12 -(n:Int)):=by rw[e,show 12 -n=(12 -(n+1))+1 by omega];rfl
  rw[Q_];by_cases hd:d<dim y (12 -(n:Int))
  ·rw[if_pos hd];show qZ y (12 -(n+1))+d=qZ y (12 -(n:Int) -1).toNat+d;congr 2;omega
  ·rw[if_neg hd];have h2:d -dim y (12 -(n:Int))<rem y n:=by
    have e2:rem y (n+1)=dim y (12 -(n:Int))+rem y n:=rfl;omega
   have:=b0a y n (d -dim y (12 -(n:Int))) l7 l7 h2;omega
theorem b4W{d:Int}(h0:0<=d)(h:d<=109572):(jJ d).2.2<=dim (jJ d).1 (jJ d).2.1:=by
 have hy:=Jf h0 h;have hr:d -ys (yOf d)<rem (yOf d) 12:=by rw[a2B];have:=Dk (yOf d);omega
 have:=a6j (yOf d) 12 (d -ys (yOf d)) l7 l7 hr;show(mo (yOf d) 12 (d -ys (yOf d))).1+1<=dim (yOf d) (mo (yOf d) 12 (d -ys (yOf d))).2;omega
theorem a9l{d:Int}(h0:0<=d)(h:d<=109572):z_ (jJ d).1 (jJ d).2.1 (jJ d).2.2=d:=by
 have hy:=Jf h0 h;have hr:d -ys (yOf d)<rem (yOf d) 12:=by rw[a2B];have:=Dk (yOf d);omega
 have:=b0a (yOf d) 12 (d -ys (yOf d)) l7 l7 hr;have e0:qZ (yOf d) (12 -12)=0:=rfl;show ys (yOf d)+qZ (yOf d) ((mo (yOf d) 12 (d -ys (yOf d))).2 -1).toNat+((mo (yOf d) 12 (d -ys (yOf d))).1+1) -1=d;omega
theorem a1K{n:Int}(h:0<=n):Lib.itoa n=Lib.decDigits n.toNat:=by unfold Lib.itoa;rw[if_neg l7]
theorem b4Q:∀k:Fin 32,(Lib.decDigits k.val).length=if k.val<10 then 1 else 2:=by
 intro k;rcases mi k.val 10 with h|h
 ·rw[Lib.decDigits,dif_pos h,if_pos h];rfl
 ·rw[Lib.decDigits,dif_neg l7,if_neg l7,Lib.decDigits,dif_pos (show k.val / 10<10 by omega)];rfl
theorem c5V{n:Int}(h0:1900<=n)(h1:n<=2199):FV n 4=Lib.decDigits n.toNat/\(FV n 4).length=4:=by have e:=b0E h0 h1;rw[e,a1K l7];refine⟨rfl,?_⟩;have:=a1z ⟨n.toNat -1900,l7⟩;rw[show n.toNat=1900+(n.toNat -1900) by omega];exact this
theorem b3x(z:Nat)(l:List UInt8):val (List.replicate z 48++l)=val l:=by
 induction z with
 |zero=>rfl|succ z ih=>rw[dY,S9];show List.foldl _ (10*0+0) _=_;exact ih
theorem b9D{n:Int}(h0:0<=n)(h1:n<=31):(FV n 2).length=2/\val (FV n 2)=n.toNat/\Dig (FV n 2):=by
 unfold FV;rw[a1K h0];have hl:=b4Q ⟨n.toNat,l7⟩;dsimp only at hl;refine⟨?_,?_,?_⟩
 ·rw[F8,mg,hl];split<;>omega
 ·rw[b3x,QM]
 ·intro c hc;rcases D8.1 hc with hc|hc
  ·have:=iC hc;subst this;decide
  ·exact lY hc
theorem b0z{n:Int}(h0:1900<=n)(h1:n<=2199):(FV n 4).length=4/\val (FV n 4)=n.toNat/\Dig (FV n 4):=by
 have h:=c5V h0 h1;refine⟨h.2,?_,?_⟩
 ·rw[h.1,QM]
 ·rw[h.1];intro c hc;exact lY hc
end Gt
namespace Go.GP
open Gt
set_option maxRecDepth 100000
theorem Ry{α β ρ ρ' :Type}{G:β->α->β⊕ρ}{H:β->α->β⊕ρ'}(hG:∀b a b',G b a= .inl b' ->H b a= .inl b'):∀(l:List α) (b r:β),aY G l b= .inl r->aY H l b= .inl r
 |[],b,r,h=>by cases h;rfl|a::l,b,r,h=>by
  unfold aY at h ⊢;cases hg:G b a with
  |inr e=>rw[hg]at h;cases h|inl b' =>rw[hg]at h;rw[hG b a b' hg];exact Ry hG l b' r h
theorem b6n{s:D9}{env:aT}{m d:Int}(m' :Int)(b:List Bool)(i:Int)(b' :List Bool)(h:Ep s env m d b i= .inl b'):Ep s env m' d b i= .inl b' :=by
 unfold Ep at h ⊢;cases hr:G9 s.2.2.2.2 i with
 |none=>rw[hr]at h;cases h;rfl|some r=>
  rw[hr]at h;simp only at h ⊢;cases h1:x8 (o9 r.2.2.2.2.2.1) 0<;>rw[h1]at h
  ·cases h2:x8 (vT r.2.2.2.2.2.1 env).2 0<;>rw[h2]at h
   ·cases h
   ·exact h
  ·exact h
theorem a9e{s:D9}{env:aT}{m d:Int}(m' :Int)(h:(Y3 s env m d).2.1=0):Y3 s env m' d=Y3 s env m d:=by
 unfold Y3 at h ⊢;cases hf:aY (Ep s env m d) (dE s d env.1).1 []with
 |inr e=>rw[hf]at h;exact absurd h (qK (Ep s env m d) (λr=>r.2.1≠0) PE _ _ _ hf)|inl ap=>rw[Ry (b6n m') _ _ _ hf]
theorem b6j{s:D9}{env:aT}{m d:Int}(m' :Int){v:V3×Int}(h:Ej s env m d= .inl v):Ej s env m' d= .inl v:=by
 unfold Ej at h ⊢;cases h0:x8 (Y3 s env m d).2.1 0<;>rw[h0]at h
 ·cases h
 rw[a9e m' (V6.1 h0),h0];cases h1:x8 (Y3 s env m d).1 (-1)<;>rw[h1]at h
 case true=>cases h
 cases h2:x8 (Y3 s env m d).1 (-2)<;>rw[h2]at h
 case true=>cases h
 simp only[o7,o6]at h ⊢;cases hl:G9 s.2.2.2.2 (Y3 s env m d).1 with
 |none=>rw[hl]at h;cases h|some q=>
  rw[hl]at h;simp only at h ⊢;cases h4:x8 (vT q.2.2.2.2.2.2.1 env).2 0<;>rw[h4]at h
  ·cases h
  ·exact h
theorem c4n{s:D9}{env:aT}{m:Int}{need:List Bool}(m' :Int){X:DB}(h:scS s env m need= .inl X):scS s env m' need= .inl X:=by
 unfold scS at h ⊢;refine Ry (λb a b' hg=>?_) _ _ _ h;unfold scG at hg ⊢;cases hn:(G9 need a).getD false<;>rw[hn]at hg
 ·exact hg
 simp only[o7]at hg ⊢;cases hd:Ej s (AY env b.1) m a with
 |inr e=>rw[hd]at hg;cases hg|inl v=>rw[hd]at hg;rw[b6j m' hd];exact hg
theorem a3x{l:V8}{k:Int}{c:jU}(h:(Dp l k c false 0).1=0):(yS l k c).2.2=0:=by
 unfold Dp at h;cases h0:x8 (eG l).1 0<;>rw[h0]at h
 ·exact absurd (show(1:Int)=0 from h) D7
 cases hs:G9 l.2.2 k with
 |none=>rw[hs]at h;exact absurd (show(6:Int)=0 from h) D7|some s=>
  rw[hs]at h;simp only[o7,o6]at h;cases h1:x8 (yS l k c).2.2 0<;>rw[h1]at h
  ·simp only[o6]at h;exact h
  ·exact V6.1 h1
theorem a3C{l:V8}{k:Int}{s:D9}{c:jU}(h1:(yS l k c).2.2=0)(hs:G9 l.2.2 k=some s):E8 c.1 0=false/\E8 109572 c.1=false/\(zi l.1 s.2.2.1 c.2.1).2=0/\E8 (mZ l s).2 (o9 c.2.2)=false/\∀i,i<c.2.2.length->WH l.1 (mZ l s).1 c.2.2 i=none:=by
 unfold yS at h1;rw[hs]at h1;simp only at h1;cases g1:E8 c.1 0<;>rw[g1]at h1
 case true=>exact absurd (show(3:Int)=0 from h1) D7
 cases g2:E8 109572 c.1<;>rw[g2]at h1
 case true=>exact absurd (show(3:Int)=0 from h1) D7
 cases g3:x8 (zi l.1 s.2.2.1 c.2.1).2 0<;>rw[g3]at h1
 ·simp only[o6]at h1;rw[O8 h1]at g3;cases g3
 have g3:=V6.1 g3;cases g4:E8 (mZ l s).2 (o9 c.2.2)<;>rw[g4]at h1
 case true=>exact absurd (show(4:Int)=0 from h1) D7
 simp only[o6,o7]at h1;refine⟨rfl,rfl,g3,rfl,qi ?_⟩;cases hf:Z8 c.2.2.length (WH l.1 (mZ l s).1 c.2.2)with
 |none=>rfl|some r=>
  exfalso;rw[hf]at h1;simp only at h1;unfold Z8 at hf;obtain⟨i,hi,hp⟩:=jP hf;unfold WH at hp;cases hv:c.2.2[i]? with
  |none=>rw[hv]at hp;cases hp|some vs=>
   rw[hv]at hp;simp only at hp;cases hq:x8 (zi l.1 (mZ l s).1 vs).2 0<;>rw[hq]at hp
   ·cases hp;rw[O8 h1]at hq;cases hq
   ·cases hp
theorem b6t{l:V8}{s:D9}{c:jU}{j:Nat}{v:List V3}(h:∀i,i<c.2.2.length->WH l.1 (mZ l s).1 c.2.2 i=none)(hj:c.2.2[j]? =some v):(zi l.1 (mZ l s).1 v).2=0:=by
 have:=h j (Y6.1 hj).1;unfold WH at this;rw[hj]at this;simp only at this;cases hq:x8 (zi l.1 (mZ l s).1 v).2 0<;>rw[hq]at this
 ·cases this
 ·exact V6.1 hq
theorem c4q{l:V8}{k:Int}{s:D9}{c:jU}(hA:(Dp l k c false 0).1=0)(hv:(eG l).1=0)(hs:G9 l.2.2 k=some s){j:Nat}{v:List V3}(hj:c.2.2[j]? =some v):G9 l.2.2 s.2.1=some (ax l s)/\0<=s.2.1/\(ax l s).2.1=-1/\ax l (ax l s)=yx:=by
 rcases HY hv hs with⟨_,g,_⟩|⟨g1,g2,g3,g,_⟩
 ·have:=a6W hA hs (jl.1 g);rw[this]at hj;cases hj
 ·have hm:=g_ hv (dh hs).2.2.2;unfold DY at hm;have hne:x8 s.2.1 (-1)=false:=J3 (by rw[lT]at g1;omega);rw[hne,g2,g]at hm;simp only[o6]at hm;have hm1:(ax l s).2.1=-1:=by
   cases hq:L9 (((k.toNat:Nat)):Int) s.2.1<;>rw[hq]at hm
   case true=>cases hm
   cases hq2:x8 (ax l s).2.1 (-1)<;>rw[hq2]at hm
   ·cases hm
   ·exact V6.1 hq2
  exact⟨g,lT.1 g1,hm1,a7t l s hm1⟩
theorem b9q{l:V8}{k:Int}{s:D9}{c:jU}(hA:(Dp l k c false 0).1=0)(hv:(eG l).1=0)(hs:G9 l.2.2 k=some s){j:Nat}{v:List V3}(hj:c.2.2[j]? =some v):(Dp l s.2.1 (c.1,v,[]) false 0).1=0:=by
 obtain⟨e1,e2,e3,e4⟩:=c4q hA hv hs hj;obtain⟨p1,p2,p3,p4,p5⟩:=a3C (a3x hA) hs;have hmi:mZ l s=((ax l s).2.2.1,8):=by unfold mZ;rw[e1]
 have pv:=b6t p5 hj;rw[hmi]at pv;have hc:(yS l s.2.1 (c.1,v,[])).2.2=0:=by
  unfold yS;rw[e1];simp only;rw[p1,p2,show x8 (zi l.1 (ax l s).2.2.1 v).2 0=true from O8 pv];simp only[o6,o7];have hz:E8 (mZ l (ax l s)).2 (o9 ([]:List (List V3)))=false:=by
   unfold mZ;rw[e3];have hn:G9 l.2.2 (-1)=none:=by unfold G9;rw[if_neg l7]
   rw[hn];rfl
  rw[hz];rfl
 unfold Dp;rw[O8 hv,e1];simp only[o7,o6];rw[O8 hc];rfl
def Tq(l:V8)(s:D9)(X:DB):Prop:=X.1.length=s.2.2.2.1.length/\X.2.length=s.2.2.2.1.length/\∀(i:Nat) v,X.1[i]? =some v->∃f r q,s.2.2.2.1[i]? =some f/\X.2[i]? =some r/\0<=r/\G9 s.2.2.2.2 r=some q/\PVV l.1 f.2 v/\vty f.2 l.1=true
theorem a2I{l:V8}{k:Int}{s:D9}{c:jU}{b:List DB}{X:DB}(hL:SmL l)(hT:∀t∈l.2.1,AQ t)(hb:b.length<=1000)(hA:(Dp l k c false 0).1=0)(h:(eG l).1=0)(hs:G9 l.2.2 k=some s)(hr:scS s (Bv l s c b) (-1) (nK s.2.2.2.1.length)= .inl X):Tq l s X:=by
 obtain⟨s0,s1,sm,s2⟩:=dh hs;have hS:=hL.sc s sm;have hEb:=Xo hT s c (b:=b) hb;obtain⟨x1,x2⟩:=a6C hr;obtain⟨ot,oi⟩:=a4v hS (a5q h s2);have hD:=a7b hL hT hb hA h hs hr;refine⟨x1,x2,λi a ha=>?_⟩;have hi:=(Y6.1 ha).1;have hf:s.2.2.2.1[i]? =some s.2.2.2.1[i]:=dX l7;obtain⟨v,r,k1,k2,k3⟩:=b6m hEb ot hr (oi (i:Int) l7 (by unfold nD o9;omega)) (b3o l7 l7) (a3L h s2 (i:Int));rw[G7,ha]at k1;cases k1;have ht:G9 (s.2.2.2.1.map (·.2)) (i:Int)=some s.2.2.2.1[i].2:=by rw[G7,fZ,hf];rfl
 have hp:=a1l hL hT hb hA h hs hD k3 ht;have hvt:=a3l h s2 hf;obtain⟨_,_,q,q1,_⟩:=a1k k3;rw[G7]at k2;exact⟨_,r,q,hf,k2,(dh q1).1,q1,hp,hvt⟩
theorem b1A{l:V8}{k:Int}{s:D9}{c:jU}{b:List DB}(hL:SmL l)(hT:∀t∈l.2.1,AQ t)(hA:(Dp l k c false 0).1=0)(h:(eG l).1=0)(hs:G9 l.2.2 k=some s)(hm:mS l c (ax l s) (nK (ax l s).2.2.2.1.length)= .inl b):∀(j:Nat) D,b[j]? =some D->G9 l.2.2 s.2.1=some (ax l s)/\Tq l (ax l s) D:=by
 intro j D hD;obtain⟨Y,e1,e2,e3⟩:=b9z c.2.2.zipIdx [] b hm;rw[H6]at e1;subst e1;have hj:=(Y6.1 hD).1;have hjc:j<c.2.2.length:=by rw[e2]at hj;simpa using hj
 have hv:c.2.2[j]? =some c.2.2[j]:=dX hjc;obtain⟨D',d1,d2⟩:=e3 j (c.2.2[j],j) (by rw[yL,hv];simp);rw[hD]at d1;cases d1;obtain⟨g1,g2,g3,g4⟩:=c4q hA h hs hv;have henv:Bv l (ax l s) (c.1,c.2.2[j],[]) []=WG l c c.2.2[j]:=by unfold Bv WG;rw[g4];rfl
 refine⟨g1,a2I hL hT (b:=[]) A7 (b9q hA h hs hv) h g1 ?_⟩;rw[henv];exact c4n (-1) d2
end Go.GP
namespace Gt
open Go Go.GP
set_option maxRecDepth 100000
def b3C(en:List bT)(t:Int×Int)(v:V3)(txt:List UInt8):Prop:=
 (t=(1,0)/\((v=(1,0,0)/\txt=[102,97,108,115,101])\/(v=(1,0,1)/\txt=[116,114,117,101])))\/
 (t=(2,0)/\∃n,v=(2,0,n)/\txt=Lib.itoa n/\-1000000000000000<=n/\n<=1000000000000000)\/
 (t=(3,0)/\∃n,v=(3,0,n)/\txt=xx n 2/\-1000000000000000<=n/\n<=1000000000000000)\/
 (t=(4,0)/\∃n,v=(4,0,n)/\txt=xx n 4++[37]/\-1000000000000000<=n/\n<=1000000000000000)\/
 (t=(5,0)/\∃n,v=(5,0,n)/\txt=sS n/\0<=n/\n<=109572)\/
 (∃(e n:Nat) (x:bT),t=(6,(e:Int))/\v=(6,(e:Int),(n:Int))/\en[e]? =some x/\x.2[n]? =some txt)
theorem a4A{en:List bT}{t:Int×Int}{v:V3}(hv:vty t en=true)(h:PVV en t v):inB v.2.2 (bnd t en)=true:=by
 have hp:=b6F h.2.2.1;rw[h.1]at hp;rcases Iq hv with rfl|rfl|rfl|rfl|rfl|⟨q,rfl⟩
 ·exact hp
 ·exact hp
 ·exact hp
 ·exact hp
 ·exact hp
 ·exact h.2.2.2 h.1
theorem a8z{en:List bT}{t:Int×Int}{v:V3}(hv:vty t en=true)(h:PVV en t v):tZ v.2.2 t en=some true:=by
 unfold tZ;rw[MO,o8];have hb:=a4A hv h;unfold inB at hb;cases h1:L9 (bnd t en).1 v.2.2<;>rw[h1]at hb
 ·cases hb
 ·rw[show L9 v.2.2 (bnd t en).2=true from hb];rfl
theorem a5r{l:V8}(hV:(eG l).1=0){t:Int×Int}{v:V3}(hv:vty t l.1=true)(hp:PVV l.1 t v):∃txt,oK v l.1=some (txt,0)/\KC txt/\txt.length<=200/\b3C l.1 t v txt:=by
 have hw:=a8z hv hp;have hb:=a4A hv hp;have e:(v.1,v.2.1)=t:=aZ hp.1 hp.2.1;have hf:oK v l.1=(l9 (x8 v.1 1) (l9 (x8 v.2.2 0) (some ([102,97,108,115,101],(0:Int))) (some ([116,114,117,101],0)))
     (l9 (x8 v.1 2) (o5 (eQ v.2.2) λ(x:List UInt8)=>some (x,0))
      (l9 (x8 v.1 3) (o5 (aN v.2.2 2) λ(x:List UInt8)=>some (x,0))
       (l9 (x8 v.1 4)
        (o5 (aN v.2.2 4) λ(x:List UInt8)=>
         o5 (fC x [37]) λ(x:List UInt8)=>some (x,0))
        (l9 (x8 v.1 5) (o5 (Af v.2.2) λ(x:List UInt8)=>some (x,0))
         (o5 (G9 l.1 v.2.1) λ(x:bT)=>
          o5 (G9 x.2 v.2.2) λ(x:List UInt8)=>some (x,0))))))):=by
  unfold oK
  rw[e,wC,o8,hv,show F6 true=false from rfl,o6,hw,o8,show F6 true=false from rfl,o6]
 obtain⟨a,q,n⟩:=v;dsimp only at hf e hb;subst e;unfold inB at hb;cases h1:L9 (bnd (a,q) l.1).1 n<;>rw[h1]at hb
 ·cases hb
 have h2:L9 n (bnd (a,q) l.1).2=true:=hb;rw[lT]at h1 h2;rcases Iq hv with h|h|h|h|h|⟨z,h⟩
 ·cases h;have h1:0<=n:=h1;have h2:n<=1:=h2;have hn:n=0\/n=1:=l7;rcases hn with rfl|rfl
  ·exact⟨_,hf,EO A7 D7,D7,.inl ⟨rfl,.inl ⟨rfl,rfl⟩⟩⟩
  ·exact⟨_,hf,EO A7 D7,D7,.inl ⟨rfl,.inr ⟨rfl,rfl⟩⟩⟩
 ·cases h;have h1:-1000000000000<=n:=h1;have h2:n<=1000000000000:=h2;have hI:bQ n:=by unfold bQ;omega
  refine⟨Lib.itoa n,?_,Zq n,by have:=yV hI;omega,.inr (.inl ⟨rfl,n,rfl,rfl,l7,l7⟩)⟩;rw[hf];show o5 (eQ n) _=_;rw[iE hI];rfl
 ·cases h;have h1:-1000000000000000<=n:=h1;have h2:n<=1000000000000000:=h2;have hI:bQ n:=by unfold bQ;omega
  refine⟨xx n 2,?_,VY n 2,by have:=IL (k:=2) hI l7;omega,.inr (.inr (.inl ⟨rfl,n,rfl,rfl,l7,l7⟩))⟩;rw[hf];show o5 (aN n 2) _=_;rw[show(2:Int)=((2:Nat):Int)from rfl,jR hI l7];rfl
 ·cases h;have h1:-1000000000<=n:=h1;have h2:n<=1000000000:=h2;have hI:bQ n:=by unfold bQ;omega
  have hl:=IL (k:=4) hI l7;have hw:=VY n 4;refine⟨xx n 4++[37],?_,⟨A7,λc hc=>?_⟩,by rw[F8];simp;omega,.inr (.inr (.inr (.inl ⟨rfl,n,rfl,rfl,l7,l7⟩)))⟩
  ·rw[hf];show o5 (aN n 4) _=_;rw[show(4:Int)=((4:Nat):Int)from rfl,jR hI l7,o8,iQ (by simp[Aw];omega)];rfl
  ·rcases D8.1 hc with hc|hc
   ·exact hw.2 c hc
   ·rw[U3]at hc;subst hc;decide
 ·cases h;have h1:0<=n:=h1;have h2:n<=109572:=h2;have hw:=a7a (d:=n) ⟨h1,h2⟩;refine⟨sS n,?_,hw.1,by have:=hw.2;omega,.inr (.inr (.inr (.inr (.inl ⟨rfl,n,rfl,rfl,l7,l7⟩))))⟩;rw[hf];show o5 (Af n) _=_;rw[Fj];rfl
 ·cases h;unfold vty at hv;have h0:L9 0 q=true:=by
   cases hq:L9 0 q
   ·rw[show x8 ((6:Int),q).1 6=true from rfl,o7,hq]at hv;cases hv
   ·rfl
  have h3:E8 q (o9 l.1)=true:=by rw[show x8 ((6:Int),q).1 6=true from rfl,o7]at hv;rw[show L9 0 ((6:Int),q).2=true from h0,o7]at hv;exact hv
  rw[lT]at h0;rw[jl]at h3;obtain⟨e,rfl⟩:∃e:Nat,q=(e:Int):=⟨q.toNat,l7⟩;have he:e<l.1.length:=by unfold o9 at h3;omega
  have hx:l.1[e]? =some l.1[e]:=dX he;have hbn:bnd (6,(e:Int)) l.1=(0,H8 .i64 (o9 l.1[e].2) 1):=by
   have:=JF (6,(e:Int)) l.1;unfold jb at this;rw[aF,o8]at this;have hvt:vty (6,(e:Int)) l.1=true:=by unfold vty;rw[show x8 ((6:Int),(e:Int)).1 6=true from rfl,o7,show L9 0 ((6:Int),(e:Int)).2=true from V5 (by show(0:Int)<=(e:Int);omega),o7];exact O0 (by show(e:Int)<o9 l.1;omega)
   rw[hvt]at this;simp only[E5,o6,show x8 (6:Int) 1=false from rfl,show x8 (6:Int) 2=false from rfl,show x8 (6:Int) 3=false from rfl,show x8 (6:Int) 4=false from rfl,show x8 (6:Int) 5=false from rfl]at this;rw[G7,hx,o8]at this;exact(I4 this).symm
  rw[hbn]at h1 h2;have hel:=Gq hV l.1[e] (H7 he);have h1:0<=n:=h1;have h2:n<=H8 .i64 (o9 l.1[e].2) 1:=h2;rw[O5 (by unfold bQ o9;omega)]at h2;unfold o9 at h2;obtain⟨m,rfl⟩:∃m:Nat,n=(m:Int):=⟨n.toNat,l7⟩;have hm:m<l.1[e].2.length:=l7;have hy:l.1[e].2[m]? =some l.1[e].2[m]:=dX hm;have hi:=VR hV (H7 he) hy;have hw:=ER hi.1;refine⟨l.1[e].2[m],?_,hw.1,by have:=hw.2;omega,.inr (.inr (.inr (.inr (.inr ⟨e,m,l.1[e],rfl,rfl,hx,hy⟩))))⟩;rw[hf];show o5 (G9 l.1 (e:Int)) _=_;rw[G7,hx,o8,G7,hy];rfl
end Gt
